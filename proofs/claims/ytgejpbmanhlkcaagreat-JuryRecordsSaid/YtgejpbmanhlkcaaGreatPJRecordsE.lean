/- Parts of the proof of JRecords: laws of walks, contracts of functions, plain models. No condition. -/
import Derived.Sort.LoopGhostIn
import Derived.Lib.OwnBridge
import Derived.Shelf.Slices.Clone
import Derived.Shelf.Small.Bits
import Derived.Shelf.Small.Wraps
import Derived.Shelf.Strconv.Itoa0
import Derived.Shelf.Sort.Plain
import Derived.Shelf.Slices.Turned
import Derived.Ground.Names2Prog
import Derived.Shelf.Slices.CompactI
import Derived.Shelf.Slices.SearchI
import Derived.Shelf.Slices.Cells
import Derived.Shelf.Slices.In.SortNone
import Derived.Ground.SlgnProg
import Derived.Shelf.SlicesE.Clone
import Derived.Test.YtgejpbmanhlkcaaGreatProg
import Derived.Sort.OwnSortedInts
import Derived.OneCell
import Derived.Test.YtgejpbmanhlkcaaGreatPJRecordsD
set_option linter.unusedVariables false
set_option linter.unusedSimpArgs false
set_option maxRecDepth 100000
namespace Go.Proofs
namespace KV
section

noncomputable abbrev aDl:Code:=sub (cd Tryz.f216) [1,0,0,1,0,0,1,0,0]
noncomputable abbrev aJk:Code:=sub (cd Tryz.f216) [1,0,0]
theorem bSt{x:Int}{r0:Bool}(er0:r0=(x != x)){base:Nat}:FV Tryz.prog 168 [(.p (aA x))] base (.p (blP r0)) []:=by
 subst er0
 exact FV.fin Tryz.func168 rfl (o:=[]) (l:=[]) (by kernel_rfl) (gn)
theorem vM(x:Int){base:Nat}:FV Tryz.prog 168 [.p (aA x)] base (.p (blP false)) []:=bSt (by simp)
theorem bSu{x y:Int}(h0:x<y){base:Nat}:FV Tryz.prog 116 [(.p (aA x)),(.p (aA y))] base (.p (aA (-1:Int))) []:=by
 exact FV.fin Tryz.func116 rfl (o:=[.c (.p (blP false)) [],.c (.p (blP false)) [],bF,bF,bT]) (l:=[_,false=false,false=false,_,_]) (by kernel_rfl) (gc (aL h0) (gc rfl (gc rfl (gc (fk 0 (vM y) rfl) (gc (fk 0 (vM x) rfl) gn)))))
theorem bSv{x y:Int}(h0:y≤x)(h1:y<x){base:Nat}:FV Tryz.prog 116 [(.p (aA x)),(.p (aA y))] base (.p (aA 1)) []:=by
 exact FV.fin Tryz.func116 rfl (o:=[.c (.p (blP false)) [],.c (.p (blP false)) [],bF,bF,bF,bT]) (l:=[_,_,false=false,false=false,_,_]) (by kernel_rfl) (gc (aL h1) (gc (aE h0) (gc rfl (gc rfl (gc (fk 0 (vM y) rfl) (gc (fk 0 (vM x) rfl) gn))))))
theorem bSw{x y:Int}(h0:y≤x)(h1:x≤y){base:Nat}:FV Tryz.prog 116 [(.p (aA x)),(.p (aA y))] base (.p (aA 0)) []:=by
 exact FV.fin Tryz.func116 rfl (o:=[.c (.p (blP false)) [],.c (.p (blP false)) [],bF,bF,bF,bF]) (l:=[_,_,false=false,false=false,_,_]) (by kernel_rfl) (gc (aE h1) (gc (aE h0) (gc rfl (gc rfl (gc (fk 0 (vM y) rfl) (gc (fk 0 (vM x) rfl) gn))))))
def xB(x y:Int):Int:=if x<y then -1 else if y<x then 1 else 0
theorem bSx(x y:Int){base:Nat}:FV Tryz.prog 116 [.p (aA x),.p (aA y)] base (.p (aA (xB x y))) []:=by
 unfold xB
 by_cases h1:x<y
 ·rw [if_pos h1];exact bSu h1
 ·rw [if_neg h1]
  by_cases h2:y<x
  ·rw [if_pos h2];exact bSv (by omega) h2
  ·rw [if_neg h2];exact bSw (by omega) (by omega)
def ltK(f:Nat)(x y:List Int):Bool:=decide (xB (x.getD f 0) (y.getD f 0)<0)
theorem aQl{a0 a1 a2 b0 b1 b2 r0:Int}(er0:r0=(xB a2 b2)){base:Nat}:FV Tryz.prog 152 [(.p (.agg [(aA a0),(aA a1),(aA a2)])),(.p (.agg [(aA b0),(aA b1),(aA b2)]))] base (.p (aA r0)) []:=by
 subst er0
 exact FV.fin Tryz.func152 rfl (o:=[.c (.p (aA (xB a2 b2))) []]) (l:=[_]) (by kernel_rfl) (gc (fk 2 (bSx a2 b2) rfl) gn)
def jI(l:List (List Int))(i:Nat)(Ln:Nat)(Lc:List PV):St:=⟨fr 53 [(0,(.own 0)),(1,(.p (aA 0))),(2,(.p (aA (l.length:Int)))),(3,(.fn 152 [] [])),(8,(.p (aA (i:Int))))],[some (.row 48 Ln Lc)]⟩
theorem aQm{l:List (List Int)}{i'0:Nat}{L'1:List (List Int)}(hl0:aF Tryz.prog 1 aJk (jI l 1 l.length (l.flatten.map aA)) (.exit 0) (jI l i'0 L'1.length (L'1.flatten.map aA))):FMM Tryz.prog 216 [(.own 0),(.p (aA 0)),(.p (aA (l.length:Int))),(.fn 152 [] [])] [some (.row 48 l.length (l.flatten.map aA))] (.tup []) [some (.row 48 L'1.length (L'1.flatten.map aA))]:=by
 exact FMM.fin (k:=1) (g:=⟨[],[],[],[]⟩) rfl Tryz.func216 rfl (o:=[.k 3 ⟨(rng [(4,4),(9,44)]),[],[],[]⟩ (.exit 0) (jI l i'0 L'1.length (L'1.flatten.map aA))]) (l:=[_,inR (1:Int)]) (by kernel_rfl) (gc hl0.code (gc (by unfold inR;omega) gn))
def gU(l:List (List Int))(i:Nat)(j:Int)(Mn:Nat)(Mc:List PV):St:=⟨fr 53 [(0,(.own 0)),(1,(.p (aA 0))),(2,(.p (aA (l.length:Int)))),(3,(.fn 152 [] [])),(8,(.p (aA (i:Int)))),(9,(.p (aA j))),(12,(.p (aA (i:Int)))),(13,(.p (aA (l.length:Int)))),(14,(.p (blP (decide ((i:Int)<(l.length:Int)))))),(17,(.p (aA (i:Int))))],[some (.row 48 Mn Mc)]⟩
theorem aNw{l:List (List Int)}{i:Nat}{L:List (List Int)}{j'100:Int}{M'101:List (List Int)}{i':Nat}{L':List (List Int)}(h0:(i:Int)<(l.length:Int))(hl1:aF Tryz.prog 1 aDl (gU l i (i:Int) L.length (L.flatten.map aA)) (.exit 2) (gU l i j'100 M'101.length (M'101.flatten.map aA)))(h2:inR (((i+1):Nat):Int))(ei':i'=(i+1))(eL'n:L'.length=M'101.length)(eL'c:L'.flatten.map aA=(M'101.flatten.map aA)):aC Tryz.prog 1 aJk (jI l i L.length (L.flatten.map aA)) .normal (jI l i' L'.length (L'.flatten.map aA)):=by
 subst ei'
 have raw:aC Tryz.prog 1 aJk (jI l i L.length (L.flatten.map aA)) .normal (jI l (i+1) M'101.length (M'101.flatten.map aA)):=aC.fin (g:=⟨(rng [(4,4),(9,44)]),[],[],[]⟩) (o:=[bT,.k 5 ⟨(rng [(4,4),(10,2),(18,35)]),[],[],[]⟩ (.exit 2) (gU l i j'100 M'101.length (M'101.flatten.map aA))]) (l:=[_,_,_]) (by kernel_rfl) (gc h2 (gc hl1.code (gc (aL h0) gn)))
 exact raw.cast (by rw [eL'n,eL'c])
theorem aAm{l:List (List Int)}{i:Nat}{L:List (List Int)}(h0:(l.length:Int)≤(i:Int)):aC Tryz.prog 1 aJk (jI l i L.length (L.flatten.map aA)) (.exit 0) (jI l i L.length (L.flatten.map aA)):=by
 exact aC.fin (g:=⟨(rng [(4,4),(9,44)]),[],[],[]⟩) (o:=[bF]) (l:=[_]) (by kernel_rfl) (gc (aE h0) gn)
theorem aNx{l:List (List Int)}{i:Nat}{j:Int}{M:List (List Int)}{y200 y201 y202 y203 y204 y205 j':Int}{M':List (List Int)}(h0:(0:Int)<j)(h1:M[j.toNat]? = some [y200,y201,y202])(h2:0≤j)(h3:uni 3 M)(h4:inR (j-(1:Int)))(h5:M[(j-(1:Int)).toNat]? = some [y203,y204,y205])(h6:0≤(j-(1:Int)))(h7:(xB y202 y205)<(0:Int))(h8:[(aA y203),(aA y204),(aA y205)].length=3∧(j.toNat*3)+3≤(M.flatten.map aA).length)(h9:0≤(j-(1:Int))∧(j-(1:Int))<(M.length:Int))(h10:[(aA y200),(aA y201),(aA y202)].length=3∧((j-(1:Int)).toNat*3)+3≤((M.flatten.map aA).take (j.toNat*3)++[(aA y203),(aA y204),(aA y205)]++(M.flatten.map aA).drop ((j.toNat*3)+3)).length)(ej':j'=(j-(1:Int)))(eM'n:M'.length=M.length)(eM'c:M'.flatten.map aA=(((M.flatten.map aA).take (j.toNat*3)++[(aA y203),(aA y204),(aA y205)]++(M.flatten.map aA).drop ((j.toNat*3)+3)).take ((j-(1:Int)).toNat*3)++[(aA y200),(aA y201),(aA y202)]++((M.flatten.map aA).take (j.toNat*3)++[(aA y203),(aA y204),(aA y205)]++(M.flatten.map aA).drop ((j.toNat*3)+3)).drop (((j-(1:Int)).toNat*3)+3))):aC Tryz.prog 1 aDl (gU l i j M.length (M.flatten.map aA)) .normal (gU l i j' M'.length (M'.flatten.map aA)):=by
 subst ej'
 have raw:aC Tryz.prog 1 aDl (gU l i j M.length (M.flatten.map aA)) .normal (gU l i (j-(1:Int)) M.length (((M.flatten.map aA).take (j.toNat*3)++[(aA y203),(aA y204),(aA y205)]++(M.flatten.map aA).drop ((j.toNat*3)+3)).take ((j-(1:Int)).toNat*3)++[(aA y200),(aA y201),(aA y202)]++((M.flatten.map aA).take (j.toNat*3)++[(aA y203),(aA y204),(aA y205)]++(M.flatten.map aA).drop ((j.toNat*3)+3)).drop (((j-(1:Int)).toNat*3)+3))):=aC.fin (g:=⟨(rng [(4,4),(10,2),(18,35)]),[],[],[]⟩) (o:=[bT,bT,bT,bT,bT,.x (.agg [(aA y200),(aA y201),(aA y202)]),bT,bT,bT,bT,bT,.x (.agg [(aA y203),(aA y204),(aA y205)]),bT,.c (.p (aA (xB y202 y205))) [],bT,bT,bT,.x (.agg [(aA y203),(aA y204),(aA y205)]),.x (.agg [(aA y200),(aA y201),(aA y202)])]) (l:=[_,_,_,_,_,_,_,_,_,_,_,_,_,_,_,_,FC Tryz.prog 152 [(.p (.agg [(aA y200),(aA y201),(aA y202)])),(.p (.agg [(aA y203),(aA y204),(aA y205)]))] [] 1 (.p (aA (xB y202 y205))) [],_,_,_,_,_,_,_,_,_,_,_,_,_,_,_,_,_,_]) (by kernel_rfl) (gc h4 (gc h10 (gc h9 (gc h8 (gc (dW (i:=j) h2 h1) (gc (aQ (i:=j.toNat) h3 h1) (gc (bD (i:=j.toNat) h3 h1) (gc (dW (i:=j) h2 h1) (gc (aQ (i:=(j-(1:Int)).toNat) h3 h5) (gc (bD (i:=(j-(1:Int)).toNat) h3 h5) (gc (dW (i:=(j-(1:Int))) h6 h5) (gc h4 (gc h4 (gc (aL h7) (gc (aL h0) (gc (aL h0) (gc (FV.fc (aQl rfl) rfl) (gc (aL h0) (gc (aQ (i:=(j-(1:Int)).toNat) h3 h5) (gc (bD (i:=(j-(1:Int)).toNat) h3 h5) (gc (aL h0) (gc (dW (i:=(j-(1:Int))) h6 h5) (gc (aL h0) (gc h4 (gc (aL h0) (gc (aL h0) (gc (aL h0) (gc (aQ (i:=j.toNat) h3 h1) (gc (bD (i:=j.toNat) h3 h1) (gc (aL h0) (gc (dW (i:=j) h2 h1) (gc (aL h0) (gc (aL h0) (gc (aL h0) (gc (aL h0) gn)))))))))))))))))))))))))))))))))))
 exact raw.cast (by rw [eM'n,eM'c])
theorem aNy{l:List (List Int)}{i:Nat}{j:Int}{M:List (List Int)}{y200 y201 y202 y203 y204 y205:Int}(h0:(0:Int)<j)(h1:M[j.toNat]? = some [y200,y201,y202])(h2:0≤j)(h3:uni 3 M)(h4:inR (j-(1:Int)))(h5:M[(j-(1:Int)).toNat]? = some [y203,y204,y205])(h6:0≤(j-(1:Int)))(h7:(0:Int)≤(xB y202 y205)):aC Tryz.prog 1 aDl (gU l i j M.length (M.flatten.map aA)) (.exit 2) (gU l i j M.length (M.flatten.map aA)):=by
 exact aC.fin (g:=⟨(rng [(4,4),(10,2),(18,35)]),[],[],[]⟩) (o:=[bT,bT,bT,bT,bT,.x (.agg [(aA y200),(aA y201),(aA y202)]),bT,bT,bT,bT,bT,.x (.agg [(aA y203),(aA y204),(aA y205)]),bT,.c (.p (aA (xB y202 y205))) [],bT,bT,bF]) (l:=[_,_,_,FC Tryz.prog 152 [(.p (.agg [(aA y200),(aA y201),(aA y202)])),(.p (.agg [(aA y203),(aA y204),(aA y205)]))] [] 1 (.p (aA (xB y202 y205))) [],_,_,_,_,_,_,_,_,_,_,_,_,_,_,_,_,_,_]) (by kernel_rfl) (gc (aE h7) (gc (aL h0) (gc (aL h0) (gc (FV.fc (aQl rfl) rfl) (gc (aL h0) (gc (aQ (i:=(j-(1:Int)).toNat) h3 h5) (gc (bD (i:=(j-(1:Int)).toNat) h3 h5) (gc (aL h0) (gc (dW (i:=(j-(1:Int))) h6 h5) (gc (aL h0) (gc h4 (gc (aL h0) (gc (aL h0) (gc (aL h0) (gc (aQ (i:=j.toNat) h3 h1) (gc (bD (i:=j.toNat) h3 h1) (gc (aL h0) (gc (dW (i:=j) h2 h1) (gc (aL h0) (gc (aL h0) (gc (aL h0) (gc (aL h0) gn))))))))))))))))))))))
theorem aNz{l:List (List Int)}{i:Nat}{j:Int}{M:List (List Int)}(h0:j≤(0:Int)):aC Tryz.prog 1 aDl (gU l i j M.length (M.flatten.map aA)) (.exit 2) (gU l i j M.length (M.flatten.map aA)):=by
 exact aC.fin (g:=⟨(rng [(4,4),(10,2),(18,35)]),[],[],[]⟩) (o:=[bF,bF,bF,bF,bF,bF,bF,bF,bF,bF,bF,bF,bF]) (l:=[_,_,_,_,_,_,_,_,_,_,_,_,_]) (by kernel_rfl) (gc (aE h0) (gc (aE h0) (gc (aE h0) (gc (aE h0) (gc (aE h0) (gc (aE h0) (gc (aE h0) (gc (aE h0) (gc (aE h0) (gc (aE h0) (gc (aE h0) (gc (aE h0) (gc (aE h0) gn)))))))))))))
theorem bSy(l:List (List Int))(i:Nat)(A R:List (List Int))(hA:A.length<1000)(hi:i=A.length)(x0 x1 x2:Int)(hu:uni 3 (A++[x0,x1,x2]::R)):∀ m,m≤A.length→(∀ t (h:t<A.length),m≤t→ltK 2 [x0,x1,x2] A[t]=true) →
  aF Tryz.prog 1 aDl (gU l i (m:Int) (mv A [x0,x1,x2] m R).length ((mv A [x0,x1,x2] m R).flatten.map aA)) (.exit 2) (gU l i (mQ (ltK 2) [x0,x1,x2] A:Int) (ins (ltK 2) A [x0,x1,x2]++R).length ((ins (ltK 2) A [x0,x1,x2]++R).flatten.map aA)):=by
 have huA:∀ y∈A,y.length=3:=fun y hy=>hu y (List.mem_append_left _ hy)
 have huM:∀ m,uni 3 (mv A [x0,x1,x2] m R):=fun m y hy=>by
  unfold mv at hy
  rcases List.mem_append.1 hy with h | h
  ·exact huA y (List.mem_of_mem_take h)
  ·rcases List.mem_cons.1 h with rfl | h
   ·rfl
   ·rcases List.mem_append.1 h with h | h
    ·exact huA y (List.mem_of_mem_drop h)
    ·exact hu y (List.mem_append_right _ (List.mem_cons_of_mem _ h))
 intro m
 induction m with
 | zero =>
  intro _ hlt
  have e:=aDm (ltK 2) [x0,x1,x2] A 0 (Nat.zero_le _) hlt (.inl rfl)
  rw [← bEp,e]
  exact .exit (aNz (by simp)) (by simp)
 | succ m ih =>
  intro hm hlt
  have hy:=List.getElem?_eq_getElem (show m<A.length by omega)
  generalize A[m]=y at hy
  obtain ⟨y0,y1,y2,rfl⟩:=len3 (huA y (List.mem_of_getElem? hy))
  have e1:((m+1:Nat):Int).toNat=m+1:=by omega
  have e2:(((m+1:Nat):Int)-1).toNat=m:=by omega
  have hl:=vN A [x0,x1,x2] (m+1) R hm
  have g1:(mv A [x0,x1,x2] (m+1) R)[m+1]? = some [x0,x1,x2]:=by rw [aFx A _ _ R hm];simp
  have g2:(mv A [x0,x1,x2] (m+1) R)[m]? = some [y0,y1,y2]:=by rw [aFx A _ _ R hm,if_pos (by omega)];exact hy
  by_cases hc:xB x2 y2<0
  ·have st:=tJ (k:=3) (i:=m+1) (x:=[y0,y1,y2]) (huM (m+1)) (by omega) rfl
   have hs1:uni 3 ((mv A [x0,x1,x2] (m+1) R).set (m+1) [y0,y1,y2]):=aPc (huM _) rfl
   have st2:=tJ (k:=3) (i:=m) (x:=[x0,x1,x2]) hs1 (by rw [List.length_set];omega) rfl
   have gm:((mv A [x0,x1,x2] (m+1) R).set (m+1) [y0,y1,y2])[m]? = some [y0,y1,y2]:=by rw [List.getElem?_set,if_neg (by omega)];exact g2
   have hsw:=bKe A [x0,x1,x2] (m+1) R hm (by omega) [y0,y1,y2] (by simpa using hy)
   rw [Nat.add_sub_cancel] at hsw
   simp only [List.map_cons,List.map_nil] at st st2
   refine .step (aNx (j:=((m+1:Nat):Int)) (j':=(m:Int)) (M':=mv A [x0,x1,x2] m R) (by omega) (by rw [e1];exact g1) (by omega) (huM _) (by unfold inR;omega) (by rw [e2];exact g2) (by omega) hc ⟨rfl,by rw [e1];exact bD (huM _) g1⟩ ⟨by omega,by omega⟩ ⟨rfl,?_⟩ (by omega) (by rw [hl,vN A _ _ R (by omega)]) ?_) (ih (by omega) fun t ht h1 => ?_)
   ·rw [e1,e2,st];exact bD hs1 gm
   ·rw [e1,e2,st,st2,hsw]
   ·by_cases h2:t=m
    ·subst h2
     have h3:=hy
     rw [List.getElem?_eq_getElem ht,Option.some.injEq] at h3
     rw [h3]
     simpa [ltK] using hc
    ·exact hlt t ht (by omega)
  ·have e:=aDm (ltK 2) [x0,x1,x2] A (m+1) hm hlt (.inr ⟨[y0,y1,y2],by simpa using hy,by simpa [ltK] using hc⟩)
   rw [← bEp,e]
   exact .exit (aNy (by omega) (by rw [e1];exact g1) (by omega) (huM _) (by unfold inR;omega) (by rw [e2];exact g2) (by omega) (by omega)) (by simp)
theorem bKa(l:List (List Int))(hu:uni 3 l)(hn:l.length<1000):FMM Tryz.prog 216 [.own 0,.p (aA 0),.p (aA (l.length:Int)),.fn 152 [] []] [some (.row 48 l.length (l.flatten.map aA))] (.tup []) [some (.row 48 (isort (ltK 2) l).length ((isort (ltK 2) l).flatten.map aA))]:=by
 have hui:∀ i,uni 3 (isort (ltK 2) (l.take i)):=fun i y hy=>hu y (List.mem_of_mem_take ((aDn (ltK 2) _ y).1 hy))
 have key:∀ d i,i+d=l.length→1≤i→aF Tryz.prog 1 aJk (jI l i (isort (ltK 2) (l.take i)++l.drop i).length ((isort (ltK 2) (l.take i)++l.drop i).flatten.map aA)) (.exit 0) (jI l l.length (isort (ltK 2) l).length ((isort (ltK 2) l).flatten.map aA)):=by
  intro d
  induction d with
  | zero =>
   intro i hi _
   obtain rfl:i=l.length:=by omega
   rw [List.take_length,List.drop_length,List.append_nil]
   exact .exit (aAm (by omega)) (by simp)
  | succ d ih =>
   intro i hi h1
   have hlt:i<l.length:=by omega
   have hx:=hu l[i] (List.getElem_mem hlt)
   generalize hxx:l[i]=x at hx
   obtain ⟨x0,x1,x2,rfl⟩:=len3 hx
   have hAl:(isort (ltK 2) (l.take i)).length=i:=by rw [uE,List.length_take];omega
   have hdr:l.drop i=[x0,x1,x2]::l.drop (i+1):=by rw [List.drop_eq_getElem_cons hlt,hxx]
   have hin:=bSy l i (isort (ltK 2) (l.take i)) (l.drop (i+1)) (by omega) hAl.symm x0 x1 x2 (by
    intro y hy
    rcases List.mem_append.1 hy with h | h
    ·exact hui i y h
    ·rcases List.mem_cons.1 h with rfl | h
     ·rfl
     ·exact hu y (List.mem_of_mem_drop h)) i (by omega) (fun t ht h2=>by omega)
   have hmv:mv (isort (ltK 2) (l.take i)) [x0,x1,x2] i (l.drop (i+1))=isort (ltK 2) (l.take i)++l.drop i:=by
    have:=bTa (isort (ltK 2) (l.take i)) [x0,x1,x2] (l.drop (i+1))
    rw [hAl] at this;rw [this,hdr]
   have hsn:=aOd (ltK 2) l i hlt
   rw [hxx] at hsn
   rw [hmv,← hsn] at hin
   exact .step (aNw (by omega) hin (by unfold inR;omega) rfl rfl rfl) (ih (i+1) (by omega) (by omega))
 rcases Nat.eq_zero_or_pos l.length with h0 | hp
 ·have:l=[]:=List.eq_nil_of_length_eq_zero h0
  subst this
  exact aQm (aF.exit (aAm (l:=[]) (L:=[]) (i:=1) (by simp)) (by simp))
 ·have:=key (l.length-1) 1 (by omega) (by omega)
  have e1:isort (ltK 2) (l.take 1)++l.drop 1=l:=by
   cases l with
   | nil=>simp at hp
   | cons x r=>simp [isort,ins,mQ]
  rw [e1] at this
  exact aQm this
def uC(l:List (List Int))  : St:=⟨fr 63 [(0,(.own 0)),(1,(.p (aA (l.length:Int)))),(2,(.fn 152 [] [])),(6,(.p (aA 20))),(7,(.p (aA 0))),(8,(.p (aA 20)))],[some (.row 48 l.length (l.flatten.map aA))]⟩
def uD(l:List (List Int))  : St:=⟨fr 63 [(0,(.own 0)),(1,(.p (aA (l.length:Int)))),(2,(.fn 152 [] [])),(6,(.p (aA 20))),(7,(.p (aA 0))),(8,(.p (aA 20)))],[some (.row 48 ((isort (ltK 2) l).length) ((isort (ltK 2) l).flatten.map aA))]⟩
theorem bKb{l:List (List Int)}(hl0:aF Tryz.prog 1 (sub (cd Tryz.f188) [1,1,0,0,0]) (uC l ) (.exit 0) (uC l ))(h1:uni 3 l)(h2:l.length<1000)(hl3:aF Tryz.prog 1 (sub (cd Tryz.f188) [1,1,1,1,0,0]) (uD l ) (.exit 2) (uD l )):FMM Tryz.prog 188 [(.own 0),(.p (aA (l.length:Int))),(.fn 152 [] [])] [some (.row 48 l.length (l.flatten.map aA))] (.tup []) [some (.row 48 ((isort (ltK 2) l).length) ((isort (ltK 2) l).flatten.map aA))]:=by
 exact FMM.fin (k:=1) (g:=⟨[],[],[],[]⟩) rfl Tryz.func188 rfl (o:=[.k 6 ⟨(rng [(3,3),(10,13),(27,1),(43,1),(60,1)]),[],[],[]⟩ (.exit 0) (uC l ),.c (.tup []) [(0,(.row 48 ((isort (ltK 2) l).length) ((isort (ltK 2) l).flatten.map aA)))],.k 1 ⟨(rng [(3,3),(10,53)]),[],[],[]⟩ (.exit 2) (uD l )]) (l:=[_,FC Tryz.prog 216 [(.own 0),(.p (aA 0)),(.p (aA (l.length:Int))),(.fn 152 [] [])] [(0,(.row 48 l.length (l.flatten.map aA)))] 1 (.tup []) [(0,(.row 48 ((isort (ltK 2) l).length) ((isort (ltK 2) l).flatten.map aA)))],_]) (by kernel_rfl) (gc hl3.code (gc (FMM.fc (ids:=[0]) (bKa l h1 h2) (by kernel_rfl)) (gc hl0.code gn)))
theorem aOa{l:List (List Int)}(h0:(l.length:Int)<(20:Int)):aC Tryz.prog 1 (sub (cd Tryz.f188) [1,1,0,0,0]) (uC l ) (.exit 0) (uC l ):=by
 exact aC.fin (g:=⟨(rng [(3,3),(10,13),(27,1),(43,1),(60,1)]),[],[],[]⟩) (o:=[bF]) (l:=[_]) (by kernel_rfl) (gc (cT h0) gn)
theorem aOb{l:List (List Int)}(h0:(l.length:Int)≤(20:Int)):aC Tryz.prog 1 (sub (cd Tryz.f188) [1,1,1,1,0,0]) (uD l ) (.exit 2) (uD l ):=by
 exact aC.fin (g:=⟨(rng [(3,3),(10,53)]),[],[],[]⟩) (o:=[bF]) (l:=[_]) (by kernel_rfl) (gc (aE h0) gn)
theorem bKc(l:List (List Int))(hu:uni 3 l)(hn:l.length<20):FMM Tryz.prog 188 [.own 0,.p (aA (l.length:Int)),.fn 152 [] []] [some (.row 48 l.length (l.flatten.map aA))] (.tup []) [some (.row 48 (isort (ltK 2) l).length ((isort (ltK 2) l).flatten.map aA))] := 
 bKb (aF.exit (aOa (by omega)) (by simp)) hu (by omega) (aF.exit (aOb (by omega)) (by simp))
theorem bKd{l:List (List Int)}(h0:uni 3 l)(h1:l.length<20):FMM Tryz.prog 151 [(.own 0),(.fn 152 [] [])] [some (.row 48 l.length (l.flatten.map aA))] (.tup []) [some (.row 48 ((isort (ltK 2) l).length) ((isort (ltK 2) l).flatten.map aA))]:=by
 exact FMM.fin (k:=1) (g:=⟨[],[],[],[]⟩) rfl Tryz.func151 rfl (o:=[.c (.tup []) [(0,(.row 48 ((isort (ltK 2) l).length) ((isort (ltK 2) l).flatten.map aA)))]]) (l:=[FC Tryz.prog 188 [(.own 0),(.p (aA (l.length:Int))),(.fn 152 [] [])] [(0,(.row 48 l.length (l.flatten.map aA)))] 1 (.tup []) [(0,(.row 48 ((isort (ltK 2) l).length) ((isort (ltK 2) l).flatten.map aA)))]]) (by kernel_rfl) (gc (FMM.fc (ids:=[0]) (bKc l h0 h1) (by kernel_rfl)) gn)
theorem bSz(l:List (List Int))(hu:uni 3 l)(hn:l.length<20):FMM Tryz.prog 151 [.own 0,.fn 152 [] []] [some (.row 48 l.length (l.flatten.map aA))] (.tup []) [some (.row 48 (isort (ltK 2) l).length ((isort (ltK 2) l).flatten.map aA))]:=bKd hu hn
end
section

noncomputable abbrev pP:Code:=sub (cd Tryz.f86) [1,1,1,1,0,1,0,0]
noncomputable abbrev vE:Code:=sub (cd Tryz.f86) [1,1,0,1,0,0]
noncomputable abbrev vF:Code:=sub (cd Tryz.f129) [1,0,1,0,0]
noncomputable abbrev aFh:Code:=sub (cd Tryz.f21) [1,1,1,1,1,0,1,0,0]
theorem bCz:((0:Int) != (0:Int))=false:=by first | decide | simp
theorem zZ{cs:List PV}{a b:Nat}{v x:PV}(hn:a≠b)(h:cs[b]? = some x):(cs.set a v)[b]? = some x:=by rw [List.getElem?_set_ne hn];exact h
def ocB(q:List Int)(n:Int):Bool:=q.contains n
abbrev bQt(dl:Int)(sk dc:List (List Int))(ov:PV)(R:List (List Int))(T T2:List (Int × Bool)):Prop:=FMM Tryz.prog 86 [pS dl sk dc,gS] (dE dl sk dc ov T) (.own 7) (dE dl sk dc ov T2++[some (.row 48 R.length (R.flatten.map aA))])
def iR(dl:Int)(sk:List (List Int))(dc:List (List Int))(ov:PV)(pn:Nat)(pc:List PV)(qn:Nat)(qc:List PV)(i:Nat)(te:List (Value × PV))(tk:Nat):St:=⟨fr 87 [(0,(.rp (aK dl sk dc) 0)),(3,(.ptr 7 0)),(4,(.p bR)),(5,(.own 8)),(6,(.own 9)),(16,(.p (.sl sk.length (sk.flatten.map aA)))),(17,(.p (aA (sk.length:Int)))),(18,(.p (aA (i:Int))))],[some (vB0 dl sk dc),some (.box 33 [(.p ov)]),some vB2,some (.mp te tk),some (.box 207 [(.mp 3)]),some (vB5 dl sk dc),some vB6,some vB2,some (.row 48 pn pc),some (.row 48 qn qc)]⟩
def eW(dl:Int)(sk:List (List Int))(dc:List (List Int))(ov:PV)(p'0:List (List Int))(q'1:List (List Int))(t'3:List (Int × Bool))(Ln:Nat)(Lc:List PV)(j:Nat):St:=⟨fr 87 [(4,(.p bR)),(5,(.own 7)),(6,(.own 8)),(47,(.p (aA (((isort (ltK 2) p'0).length:Nat):Int)))),(48,(.p (aA (j:Int))))],[some (vB0 dl sk dc),some (.box 33 [(.p ov)]),some vB2,some (.mp (aH t'3) t'3.length),some (.box 207 [(.mp 3)]),some (vB5 dl sk dc),some vB6,some (.row 48 Ln Lc),some (.row 48 q'1.length (q'1.flatten.map aA))]⟩
theorem bQu{dl:Int}{sk dc:List (List Int)}{ov:PV}{T:List (Int × Bool)}{p'0 q'1:List (List Int)}{i'2:Nat}{t'3:List (Int × Bool)}{L'4:List (List Int)}{j'5 r0n:Nat}{r0c:List PV}(hl0:aF Tryz.prog 7 vE (iR dl sk dc ov 0 [] 0 [] 0 (aH T) T.length) (.exit 0) (iR dl sk dc ov p'0.length (p'0.flatten.map aA) q'1.length (q'1.flatten.map aA) i'2 (aH t'3) t'3.length))(h1:uni 3 p'0)(h2:p'0.length<20)(hl3:aF Tryz.prog 7 pP (eW dl sk dc ov p'0 q'1 t'3 ((isort (ltK 2) p'0).length) ((isort (ltK 2) p'0).flatten.map aA) 0) (.exit 2) (eW dl sk dc ov p'0 q'1 t'3 L'4.length (L'4.flatten.map aA) j'5))(h4:(q'1.flatten.map aA).length=q'1.length*3∧L'4.length+q'1.length≤1000000)(er0n:r0n=(L'4.length+q'1.length))(er0c:r0c=((L'4.flatten.map aA)++(q'1.flatten.map aA))):FMM Tryz.prog 86 [(.rp (aK dl sk dc) 0),gS] (dE dl sk dc ov T) (.own 7) [some (vB0 dl sk dc),some (.box 33 [(.p ov)]),some vB2,some (.mp (aH t'3) t'3.length),some (.box 207 [(.mp 3)]),some (vB5 dl sk dc),some vB6,some (.row 48 r0n r0c)]:=by
 subst er0n er0c
 exact FMM.fin (k:=7) (g:=⟨[],[9],[],[]⟩) rfl Tryz.func86 rfl (o:=[.x (.sl sk.length (sk.flatten.map aA)),.k 1 ⟨(rng [(1,2),(7,4),(12,4),(19,25),(45,1)]),[7,8,9],[],[(5,48),(6,48)]⟩ (.exit 0) (iR dl sk dc ov p'0.length (p'0.flatten.map aA) q'1.length (q'1.flatten.map aA) i'2 (aH t'3) t'3.length),.c (.tup []) [(8,(.row 48 ((isort (ltK 2) p'0).length) ((isort (ltK 2) p'0).flatten.map aA)))],.k 4 ⟨(rng [(0,4),(7,40),(49,35)]),[8,9],[],[]⟩ (.exit 2) (eW dl sk dc ov p'0 q'1 t'3 L'4.length (L'4.flatten.map aA) j'5)]) (l:=[_,_,FC Tryz.prog 151 [(.own 8),(.fn 152 [] [])] [(8,(.row 48 p'0.length (p'0.flatten.map aA)))] 10 (.tup []) [(8,(.row 48 ((isort (ltK 2) p'0).length) ((isort (ltK 2) p'0).flatten.map aA)))],_,(aK dl sk dc)[1]? = some (.sl sk.length (sk.flatten.map aA))]) (by kernel_rfl) (gc h4 (gc hl3.code (gc (FMM.fc (ids:=[8]) (bSz p'0 h1 h2) (by kernel_rfl)) (gc hl0.code (gc rfl gn)))))
theorem aXc{dl:Int}{sk dc:List (List Int)}{ov:PV}{p q:List (List Int)}{i:Nat}{t:List (Int × Bool)}{y100 y101 n102:Int}{b103:Bool}{T104:List (Int × Bool)}{q':List (List Int)}{i':Nat}{t':List (Int × Bool)}(h0:(i:Int)<(sk.length:Int))(h1:sk[i]? = some [y100,y101])(h2:uni 2 sk)(h3:aBb dl sk dc ov [y100,y101] n102 b103 t T104)(h4:b103=true)(h5:[(aA y100),(aA (-1:Int)),(aA 0)].length=1*3∧q.length+1≤1000000)(h6:inR (((i+1):Nat):Int))(eq'n:q'.length=(q.length+1))(eq'c:q'.flatten.map aA=((q.flatten.map aA)++[(aA y100),(aA (-1:Int)),(aA 0)]))(ei':i'=(i+1))(et'e:aH t'=(aH T104))(et'k:t'.length=T104.length):aC Tryz.prog 7 vE (iR dl sk dc ov p.length (p.flatten.map aA) q.length (q.flatten.map aA) i (aH t) t.length) .normal (iR dl sk dc ov p.length (p.flatten.map aA) q'.length (q'.flatten.map aA) i' (aH t') t'.length):=by
 subst ei'
 have raw:aC Tryz.prog 7 vE (iR dl sk dc ov p.length (p.flatten.map aA) q.length (q.flatten.map aA) i (aH t) t.length) .normal (iR dl sk dc ov p.length (p.flatten.map aA) (q.length+1) ((q.flatten.map aA)++[(aA y100),(aA (-1:Int)),(aA 0)]) (i+1) (aH T104) T104.length):=aC.fin (g:=⟨(rng [(1,2),(7,4),(12,4),(19,25),(45,1)]),[7,8,12],[],[]⟩) (o:=[bT,.x (.agg [(aA y100),(aA y101)]),.c (.tup [(.p (aA n102)),(.p (blP b103))]) (vU dl sk dc ov T104),bT]) (l:=[_,_,[(aA y100),(aA (-1:Int)),(aA 0)].length=3,_,FC Tryz.prog 134 [(.rp (aK dl sk dc) 0),(.p (.agg [(aA y100),(aA y101)])),gS] [(4,(.box 207 [(.mp 3)])),(5,(vB5 dl sk dc)),(0,(vB0 dl sk dc)),(2,vB2),(6,vB6),(1,(.box 33 [(.p ov)])),(3,(.mp (aH t) t.length))] 11 (.tup [(.p (aA n102)),(.p (blP b103))]) (vU dl sk dc ov T104),_,_,0≤(i:Int)∧(i:Int)<(sk.length:Int)∧(i*2)<(sk.flatten.map aA).length,_]) (by kernel_rfl) (gc h6 (gc h5 (gc (by first | decide | simp) (gc h4 (gc (FMM.fc (ids:=[0,1,2,3,4,5,6]) h3 (by kernel_rfl)) (gc (aQ (i:=i) h2 h1) (gc (bD (i:=i) h2 h1) (gc (bB (k:=2) (i:=(i:Int)) (by decide) h2 (Int.natCast_nonneg _) h1) (gc (aL h0) gn)))))))))
 exact raw.cast (by rw [eq'n,eq'c,et'e,et'k])
theorem aXd{dl:Int}{sk dc:List (List Int)}{ov:PV}{p q:List (List Int)}{i:Nat}{t:List (Int × Bool)}{y100 y101 n102:Int}{b103:Bool}{T104:List (Int × Bool)}{p':List (List Int)}{i':Nat}{t':List (Int × Bool)}(h0:(i:Int)<(sk.length:Int))(h1:sk[i]? = some [y100,y101])(h2:uni 2 sk)(h3:aBb dl sk dc ov [y100,y101] n102 b103 t T104)(h4:b103=false)(h5:[(aA y100),(aA 0),(aA n102)].length=1*3∧p.length+1≤1000000)(h6:inR (((i+1):Nat):Int))(ep'n:p'.length=(p.length+1))(ep'c:p'.flatten.map aA=((p.flatten.map aA)++[(aA y100),(aA 0),(aA n102)]))(ei':i'=(i+1))(et'e:aH t'=(aH T104))(et'k:t'.length=T104.length):aC Tryz.prog 7 vE (iR dl sk dc ov p.length (p.flatten.map aA) q.length (q.flatten.map aA) i (aH t) t.length) .normal (iR dl sk dc ov p'.length (p'.flatten.map aA) q.length (q.flatten.map aA) i' (aH t') t'.length):=by
 subst ei'
 have raw:aC Tryz.prog 7 vE (iR dl sk dc ov p.length (p.flatten.map aA) q.length (q.flatten.map aA) i (aH t) t.length) .normal (iR dl sk dc ov (p.length+1) ((p.flatten.map aA)++[(aA y100),(aA 0),(aA n102)]) q.length (q.flatten.map aA) (i+1) (aH T104) T104.length):=aC.fin (g:=⟨(rng [(1,2),(7,4),(12,4),(19,25),(45,1)]),[7,12,9],[],[]⟩) (o:=[bT,.x (.agg [(aA y100),(aA y101)]),.c (.tup [(.p (aA n102)),(.p (blP b103))]) (vU dl sk dc ov T104),bF]) (l:=[_,_,[(aA y100),(aA 0),(aA n102)].length=3,_,FC Tryz.prog 134 [(.rp (aK dl sk dc) 0),(.p (.agg [(aA y100),(aA y101)])),gS] [(4,(.box 207 [(.mp 3)])),(5,(vB5 dl sk dc)),(0,(vB0 dl sk dc)),(2,vB2),(6,vB6),(1,(.box 33 [(.p ov)])),(3,(.mp (aH t) t.length))] 11 (.tup [(.p (aA n102)),(.p (blP b103))]) (vU dl sk dc ov T104),_,_,0≤(i:Int)∧(i:Int)<(sk.length:Int)∧(i*2)<(sk.flatten.map aA).length,_]) (by kernel_rfl) (gc h6 (gc h5 (gc (by first | decide | simp) (gc h4 (gc (FMM.fc (ids:=[0,1,2,3,4,5,6]) h3 (by kernel_rfl)) (gc (aQ (i:=i) h2 h1) (gc (bD (i:=i) h2 h1) (gc (bB (k:=2) (i:=(i:Int)) (by decide) h2 (Int.natCast_nonneg _) h1) (gc (aL h0) gn)))))))))
 exact raw.cast (by rw [ep'n,ep'c,et'e,et'k])
theorem aXe{dl:Int}{sk dc:List (List Int)}{ov:PV}{p q:List (List Int)}{i:Nat}{t:List (Int × Bool)}(h0:(sk.length:Int)≤(i:Int)):aC Tryz.prog 7 vE (iR dl sk dc ov p.length (p.flatten.map aA) q.length (q.flatten.map aA) i (aH t) t.length) (.exit 0) (iR dl sk dc ov p.length (p.flatten.map aA) q.length (q.flatten.map aA) i (aH t) t.length):=by
 exact aC.fin (g:=⟨(rng [(1,2),(7,4),(12,4),(19,25),(45,1)]),[7,8,9],[],[]⟩) (o:=[bF]) (l:=[_]) (by kernel_rfl) (gc (aE h0) gn)
theorem aXf{dl:Int}{sk dc:List (List Int)}{ov:PV}{p'0 q'1:List (List Int)}{t'3:List (Int × Bool)}{L:List (List Int)}{j:Nat}{y200 y201 y202 y203 y204 y205:Int}{L':List (List Int)}{j':Nat}(h0:(j:Int)<(((isort (ltK 2) p'0).length:Nat):Int))(h1:inR (((j+1):Nat):Int))(h2:L[j]? = some [y200,y201,y202])(h3:((j*3)+1)<(L.flatten.map aA).length)(h4:(0:Int)<(j:Int))(h5:uni 3 L)(h6:inR ((j:Int)-(1:Int)))(h7:L[((j:Int)-(1:Int)).toNat]? = some [y203,y204,y205])(h8:0≤((j:Int)-(1:Int)))(h9:y202=y205)(h10:((j*3)+1)<((L.flatten.map aA).set ((j*3)+1) (aA (((j+1):Nat):Int))).length)(eL'n:L'.length=L.length)(eL'c:L'.flatten.map aA=(((L.flatten.map aA).set ((j*3)+1) (aA (((j+1):Nat):Int))).set ((j*3)+1) (aA y204)))(ej':j'=(j+1)):aC Tryz.prog 7 pP (eW dl sk dc ov p'0 q'1 t'3 L.length (L.flatten.map aA) j) .normal (eW dl sk dc ov p'0 q'1 t'3 L'.length (L'.flatten.map aA) j'):=by
 subst ej'
 have raw:aC Tryz.prog 7 pP (eW dl sk dc ov p'0 q'1 t'3 L.length (L.flatten.map aA) j) .normal (eW dl sk dc ov p'0 q'1 t'3 L.length (((L.flatten.map aA).set ((j*3)+1) (aA (((j+1):Nat):Int))).set ((j*3)+1) (aA y204)) (j+1)):=aC.fin (g:=⟨(rng [(0,4),(7,40),(49,35)]),[7,8],[],[]⟩) (o:=[bT,bT,bT,bT,bT,bT,.x (aA y202),bT,bT,bT,bT,bT,bT,.x (aA y205),bT,bT,bT,.x (aA y204)]) (l:=[_,_,_,((L.flatten.map aA).set ((j*3)+1) (aA (((j+1):Nat):Int)))[((((j:Int)-(1:Int)).toNat*3)+1)]? = some (aA y204),_,_,_,_,_,((L.flatten.map aA).set ((j*3)+1) (aA (((j+1):Nat):Int)))[((((j:Int)-(1:Int)).toNat*3)+2)]? = some (aA y205),_,_,_,_,_,_,_,_,((L.flatten.map aA).set ((j*3)+1) (aA (((j+1):Nat):Int)))[((j*3)+2)]? = some (aA y202),_,_,_,_,_,_,_,_,_,_]) (by kernel_rfl) (gc h1 (gc h10 (gc (dW (i:=(j:Int)) (Int.natCast_nonneg _) h2) (gc (zZ (by omega) (cQ (i:=((j:Int)-(1:Int)).toNat) (f:=1) h5 h7 rfl)) (gc (dW (i:=((j:Int)-(1:Int))) h8 h7) (gc h6 (gc (bE h9) (gc (aL h4) (gc (aL h4) (gc (zZ (by omega) (cQ (i:=((j:Int)-(1:Int)).toNat) (f:=2) h5 h7 rfl)) (gc (aL h4) (gc (aL h4) (gc (dW (i:=((j:Int)-(1:Int))) h8 h7) (gc (aL h4) (gc h6 (gc (aL h4) (gc (aL h4) (gc (aL h4) (gc (zZ (by omega) (cQ (i:=j) (f:=2) h5 h2 rfl)) (gc (aL h4) (gc (aL h4) (gc (dW (i:=(j:Int)) (Int.natCast_nonneg _) h2) (gc (aL h4) (gc (aL h4) (gc (aL h4) (gc h3 (gc (dW (i:=(j:Int)) (Int.natCast_nonneg _) h2) (gc h1 (gc (aL h0) gn)))))))))))))))))))))))))))))
 exact raw.cast (by rw [eL'n,eL'c])
theorem aXg{dl:Int}{sk dc:List (List Int)}{ov:PV}{p'0 q'1:List (List Int)}{t'3:List (Int × Bool)}{L:List (List Int)}{j:Nat}{y200 y201 y202 y203 y204 y205:Int}{L':List (List Int)}{j':Nat}(h0:(j:Int)<(((isort (ltK 2) p'0).length:Nat):Int))(h1:inR (((j+1):Nat):Int))(h2:L[j]? = some [y200,y201,y202])(h3:((j*3)+1)<(L.flatten.map aA).length)(h4:(0:Int)<(j:Int))(h5:uni 3 L)(h6:inR ((j:Int)-(1:Int)))(h7:L[((j:Int)-(1:Int)).toNat]? = some [y203,y204,y205])(h8:0≤((j:Int)-(1:Int)))(h9:y202≠y205)(eL'n:L'.length=L.length)(eL'c:L'.flatten.map aA=((L.flatten.map aA).set ((j*3)+1) (aA (((j+1):Nat):Int))))(ej':j'=(j+1)):aC Tryz.prog 7 pP (eW dl sk dc ov p'0 q'1 t'3 L.length (L.flatten.map aA) j) .normal (eW dl sk dc ov p'0 q'1 t'3 L'.length (L'.flatten.map aA) j'):=by
 subst ej'
 have raw:aC Tryz.prog 7 pP (eW dl sk dc ov p'0 q'1 t'3 L.length (L.flatten.map aA) j) .normal (eW dl sk dc ov p'0 q'1 t'3 L.length ((L.flatten.map aA).set ((j*3)+1) (aA (((j+1):Nat):Int))) (j+1)):=aC.fin (g:=⟨(rng [(0,4),(7,40),(49,35)]),[7,8],[],[]⟩) (o:=[bT,bT,bT,bT,bT,bT,.x (aA y202),bT,bT,bT,bT,bT,bT,.x (aA y205),bT,bT,bF]) (l:=[_,_,_,_,((L.flatten.map aA).set ((j*3)+1) (aA (((j+1):Nat):Int)))[((((j:Int)-(1:Int)).toNat*3)+2)]? = some (aA y205),_,_,_,_,_,_,_,_,((L.flatten.map aA).set ((j*3)+1) (aA (((j+1):Nat):Int)))[((j*3)+2)]? = some (aA y202),_,_,_,_,_,_,_,_,_,_]) (by kernel_rfl) (gc h1 (gc (aU h9) (gc (aL h4) (gc (aL h4) (gc (zZ (by omega) (cQ (i:=((j:Int)-(1:Int)).toNat) (f:=2) h5 h7 rfl)) (gc (aL h4) (gc (aL h4) (gc (dW (i:=((j:Int)-(1:Int))) h8 h7) (gc (aL h4) (gc h6 (gc (aL h4) (gc (aL h4) (gc (aL h4) (gc (zZ (by omega) (cQ (i:=j) (f:=2) h5 h2 rfl)) (gc (aL h4) (gc (aL h4) (gc (dW (i:=(j:Int)) (Int.natCast_nonneg _) h2) (gc (aL h4) (gc (aL h4) (gc (aL h4) (gc h3 (gc (dW (i:=(j:Int)) (Int.natCast_nonneg _) h2) (gc h1 (gc (aL h0) gn))))))))))))))))))))))))
 exact raw.cast (by rw [eL'n,eL'c])
theorem aXh{dl:Int}{sk dc:List (List Int)}{ov:PV}{p'0 q'1:List (List Int)}{t'3:List (Int × Bool)}{L:List (List Int)}{j:Nat}{y200 y201 y202:Int}{L':List (List Int)}{j':Nat}(h0:(j:Int)<(((isort (ltK 2) p'0).length:Nat):Int))(h1:inR (((j+1):Nat):Int))(h2:L[j]? = some [y200,y201,y202])(h3:((j*3)+1)<(L.flatten.map aA).length)(h4:(j:Int)≤(0:Int))(eL'n:L'.length=L.length)(eL'c:L'.flatten.map aA=((L.flatten.map aA).set ((j*3)+1) (aA (((j+1):Nat):Int))))(ej':j'=(j+1)):aC Tryz.prog 7 pP (eW dl sk dc ov p'0 q'1 t'3 L.length (L.flatten.map aA) j) .normal (eW dl sk dc ov p'0 q'1 t'3 L'.length (L'.flatten.map aA) j'):=by
 subst ej'
 have raw:aC Tryz.prog 7 pP (eW dl sk dc ov p'0 q'1 t'3 L.length (L.flatten.map aA) j) .normal (eW dl sk dc ov p'0 q'1 t'3 L.length ((L.flatten.map aA).set ((j*3)+1) (aA (((j+1):Nat):Int))) (j+1)):=aC.fin (g:=⟨(rng [(0,4),(7,40),(49,35)]),[7,8],[],[]⟩) (o:=[bT,bF,bF,bF,bF,bF,bF,bF,bF,bF,bF,bF,bF,bF]) (l:=[_,_,_,_,_,_,_,_,_,_,_,_,_,_,_,_,_,_]) (by kernel_rfl) (gc h1 (gc (aE h4) (gc (aE h4) (gc (aE h4) (gc (aE h4) (gc (aE h4) (gc (aE h4) (gc (aE h4) (gc (aE h4) (gc (aE h4) (gc (aE h4) (gc (aE h4) (gc (aE h4) (gc (aE h4) (gc h3 (gc (dW (i:=(j:Int)) (Int.natCast_nonneg _) h2) (gc h1 (gc (aL h0) gn))))))))))))))))))
 exact raw.cast (by rw [eL'n,eL'c])
theorem aXi{dl:Int}{sk dc:List (List Int)}{ov:PV}{p'0 q'1:List (List Int)}{t'3:List (Int × Bool)}{L:List (List Int)}{j:Nat}(h0:(((isort (ltK 2) p'0).length:Nat):Int)≤(j:Int)):aC Tryz.prog 7 pP (eW dl sk dc ov p'0 q'1 t'3 L.length (L.flatten.map aA) j) (.exit 2) (eW dl sk dc ov p'0 q'1 t'3 L.length (L.flatten.map aA) j):=by
 exact aC.fin (g:=⟨(rng [(0,4),(7,40),(49,35)]),[7,8],[],[]⟩) (o:=[bF]) (l:=[_]) (by kernel_rfl) (gc (aE h0) gn)
theorem bQv{dl:Int}{sk dc R0:List (List Int)}{T1:List (Int × Bool)}(h0:dG dl sk dc)(h1:bQt dl (aB sk) (aB dc) bR R0 ([]:List (Int × Bool)) T1){base:Nat}:FV Tryz.prog 28 [(.p (.agg (bH dl sk dc)))] base (.tup [(.own base),(.p (aA 0))]) [(base,(.row 48 R0.length (R0.flatten.map aA)))]:=by
 exact FV.fin Tryz.func28 rfl (o:=[.c (.tup [(.rp (aK dl (aB sk) (aB dc)) 0),(.p (aA 0))]) [],bF,.c (.agg [(.fn 154 [] [(.ptr 5 0),(.ptr 6 0),(.ptr 1 0),(.ptr 3 0)]),(.fn 156 [] [(.ptr 7 0)]),(.fn 157 [] [(.ptr 3 0),(.ptr 2 0)]),(.fn 160 [] [(.ptr 3 0)]),(.fn 158 [] [(.ptr 7 0)])]) [(1,(vB0 dl (aB sk) (aB dc))),(2,(.box 33 [(.p bR)])),(3,(.box 139 [(.fn 154 [] [(.ptr 5 0),(.ptr 6 0),(.ptr 1 0),(.ptr 3 0)]),(.fn 156 [] [(.ptr 7 0)]),(.fn 157 [] [(.ptr 3 0),(.ptr 2 0)]),(.fn 160 [] [(.ptr 3 0)]),(.fn 158 [] [(.ptr 7 0)])])),(4,(.mp (aH ([]:List (Int × Bool))) 0)),(5,(.box 207 [(.mp 4)])),(6,(vB5 dl (aB sk) (aB dc))),(7,(.box 209 [(.fn 153 [] [(.ptr 1 0),(.ptr 3 0)])]))],.c (.own 8) [(1,(vB0 dl (aB sk) (aB dc))),(2,(.box 33 [(.p bR)])),(3,(.box 139 [(.fn 154 [] [(.ptr 5 0),(.ptr 6 0),(.ptr 1 0),(.ptr 3 0)]),(.fn 156 [] [(.ptr 7 0)]),(.fn 157 [] [(.ptr 3 0),(.ptr 2 0)]),(.fn 160 [] [(.ptr 3 0)]),(.fn 158 [] [(.ptr 7 0)])])),(4,(.mp (aH T1) T1.length)),(5,(.box 207 [(.mp 4)])),(6,(vB5 dl (aB sk) (aB dc))),(7,(.box 209 [(.fn 153 [] [(.ptr 1 0),(.ptr 3 0)])])),(8,(.row 48 R0.length (R0.flatten.map aA)))]]) (l:=[FC Tryz.prog 86 [(.rp (aK dl (aB sk) (aB dc)) 0),(.agg [(.fn 154 [] [(.ptr 5 0),(.ptr 6 0),(.ptr 1 0),(.ptr 3 0)]),(.fn 156 [] [(.ptr 7 0)]),(.fn 157 [] [(.ptr 3 0),(.ptr 2 0)]),(.fn 160 [] [(.ptr 3 0)]),(.fn 158 [] [(.ptr 7 0)])])] [(5,(.box 207 [(.mp 4)])),(6,(vB5 dl (aB sk) (aB dc))),(1,(vB0 dl (aB sk) (aB dc))),(3,(.box 139 [(.fn 154 [] [(.ptr 5 0),(.ptr 6 0),(.ptr 1 0),(.ptr 3 0)]),(.fn 156 [] [(.ptr 7 0)]),(.fn 157 [] [(.ptr 3 0),(.ptr 2 0)]),(.fn 160 [] [(.ptr 3 0)]),(.fn 158 [] [(.ptr 7 0)])])),(7,(.box 209 [(.fn 153 [] [(.ptr 1 0),(.ptr 3 0)])])),(2,(.box 33 [(.p bR)])),(4,(.mp (aH ([]:List (Int × Bool))) 0))] 8 (.own 8) [(1,(vB0 dl (aB sk) (aB dc))),(2,(.box 33 [(.p bR)])),(3,(.box 139 [(.fn 154 [] [(.ptr 5 0),(.ptr 6 0),(.ptr 1 0),(.ptr 3 0)]),(.fn 156 [] [(.ptr 7 0)]),(.fn 157 [] [(.ptr 3 0),(.ptr 2 0)]),(.fn 160 [] [(.ptr 3 0)]),(.fn 158 [] [(.ptr 7 0)])])),(4,(.mp (aH T1) T1.length)),(5,(.box 207 [(.mp 4)])),(6,(vB5 dl (aB sk) (aB dc))),(7,(.box 209 [(.fn 153 [] [(.ptr 1 0),(.ptr 3 0)])])),(8,(.row 48 R0.length (R0.flatten.map aA)))],FC Tryz.prog 87 [(.rp (aK dl (aB sk) (aB dc)) 0),(.p bR)] [] 1 (.agg [(.fn 154 [] [(.ptr 5 0),(.ptr 6 0),(.ptr 1 0),(.ptr 3 0)]),(.fn 156 [] [(.ptr 7 0)]),(.fn 157 [] [(.ptr 3 0),(.ptr 2 0)]),(.fn 160 [] [(.ptr 3 0)]),(.fn 158 [] [(.ptr 7 0)])]) [(1,(vB0 dl (aB sk) (aB dc))),(2,(.box 33 [(.p bR)])),(3,(.box 139 [(.fn 154 [] [(.ptr 5 0),(.ptr 6 0),(.ptr 1 0),(.ptr 3 0)]),(.fn 156 [] [(.ptr 7 0)]),(.fn 157 [] [(.ptr 3 0),(.ptr 2 0)]),(.fn 160 [] [(.ptr 3 0)]),(.fn 158 [] [(.ptr 7 0)])])),(4,(.mp (aH ([]:List (Int × Bool))) 0)),(5,(.box 207 [(.mp 4)])),(6,(vB5 dl (aB sk) (aB dc))),(7,(.box 209 [(.fn 153 [] [(.ptr 1 0),(.ptr 3 0)])]))],_,_]) (by kernel_rfl) (gc (FMM.fc (ids:=[1,2,3,4,5,6,7]) h1 (by kernel_rfl)) (gc (FMM.fcN (k:=7) rfl (ids:=[]) (aFp (dl:=dl) (sk:=(aB sk)) (dc:=(aB dc))) (by kernel_rfl)) (gc bCz (gc (fk 1 (kA dl sk dc h0) rfl) gn))))
theorem bQw{n:Int}{q:List Int}{r0:Bool}(h0:q.length≤1000)(er0:r0=(q.contains n)){base:Nat}:FV Tryz.prog 85 [(.p (aA n)),(.rp [(aJ q)] 0)] base (.p (blP r0)) []:=by
 subst er0
 exact FV.fin Tryz.func85 rfl (o:=[.x (aJ q),.c (.p (blP (q.contains n))) []]) (l:=[_,[(aJ q)][0]? = some (aJ q)]) (by kernel_rfl) (gc (fk 0 (oC q n h0) rfl) (gc rfl gn))
theorem bQx(n:Int)(q:List Int)(hq:q.length≤1000){base:Nat}:FV Tryz.prog 85 [.p (aA n),.rp [aJ q] 0] base (.p (blP (ocB q n))) []:=bQw hq rfl
theorem bIr{x:Int}{q:List Int}{r0:Bool}(h0:q.length≤1000)(er0:r0=(!(ocB q x))):FMM Tryz.prog 150 [(.p (aA x)),(.ptr 0 0)] [some (.box 96 [(.fn 85 [] [(.rp [(aJ q)] 0)])])] (.p (blP r0)) [some (.box 96 [(.fn 85 [] [(.rp [(aJ q)] 0)])])]:=by
 subst er0
 exact FMM.fin (k:=1) (g:=⟨[],[],[],[]⟩) rfl Tryz.func150 rfl (o:=[.c (.p (blP (ocB q x))) []]) (l:=[_]) (by kernel_rfl) (gc (fk 1 (bQx x q h0) rfl) gn)
theorem aPw(x:Int)(q:List Int)(he:q.length≤1000):FMM Tryz.prog 150 [(.p (aA x)),.ptr 0 0] [some (.box 96 [(.fn 85 [] [(.rp [(aJ q)] 0)])])] (.p (blP (!(ocB q x)))) [some (.box 96 [(.fn 85 [] [(.rp [(aJ q)] 0)])])]:=bIr he rfl
def fQ(l:List Int)(q:List Int)(i:Nat):St:=⟨fr 19 [(0,(.p (aJ l))),(1,(.fn 150 [] [(.ptr 0 0)])),(7,(.p (aA (l.length:Int)))),(8,(.p (aA (i:Int))))],[some (.box 96 [(.fn 85 [] [(.rp [(aJ q)] 0)])])]⟩
theorem bIs{l q:List Int}{i'0:Nat}(hl0:aF Tryz.prog 1 vF (fQ l q 0) (.exit 0) (fQ l q i'0)):FMM Tryz.prog 129 [(.p (aJ l)),(.fn 150 [] [(.ptr 0 0)])] [some (.box 96 [(.fn 85 [] [(.rp [(aJ q)] 0)])])] (.p (aA (-1:Int))) [some (.box 96 [(.fn 85 [] [(.rp [(aJ q)] 0)])])]:=by
 exact FMM.fin (k:=1) (g:=⟨[],[],[],[]⟩) rfl Tryz.func129 rfl (o:=[.k 6 ⟨(rng [(2,5),(9,10)]),[],[],[]⟩ (.exit 0) (fQ l q i'0)]) (l:=[_]) (by kernel_rfl) (gc hl0.code gn)
theorem bIt{l q:List Int}{i'0:Nat}(hl0:aF Tryz.prog 1 vF (fQ l q 0) .ret (bG (fQ l q i'0) [(4,(.p (aA (i'0:Int))))])):FMM Tryz.prog 129 [(.p (aJ l)),(.fn 150 [] [(.ptr 0 0)])] [some (.box 96 [(.fn 85 [] [(.rp [(aJ q)] 0)])])] (.p (aA (i'0:Int))) [some (.box 96 [(.fn 85 [] [(.rp [(aJ q)] 0)])])]:=by
 exact FMM.fin (k:=1) (g:=⟨[],[],[],[]⟩) rfl Tryz.func129 rfl (o:=[.k 6 ⟨(rng [(2,5),(9,10)]),[],[],[]⟩ .ret (bG (fQ l q i'0) [(4,(.p (aA (i'0:Int))))])]) (l:=[_]) (by kernel_rfl) (gc hl0.code gn)
theorem aMv{l q:List Int}{i:Nat}{x100:Int}(h0:(i:Int)<(l.length:Int))(h1:l[i]? = some x100)(h2:q.length≤1000)(h3:(ocB q x100)=false):aC Tryz.prog 1 vF (fQ l q i) .ret (bG (fQ l q i) [(4,(.p (aA (i:Int))))]):=by
 exact aC.fin (g:=⟨(rng [(2,2),(5,2),(9,10)]),[],[],[]⟩) (o:=[bT,.x (aA x100),.c (.p (blP (!(ocB q x100)))) [(0,(.box 96 [(.fn 85 [] [(.rp [(aJ q)] 0)])]))],bT]) (l:=[_,FC Tryz.prog 150 [(.p (aA x100)),(.ptr 0 0)] [(0,(.box 96 [(.fn 85 [] [(.rp [(aJ q)] 0)])]))] 1 (.p (blP (!(ocB q x100)))) [(0,(.box 96 [(.fn 85 [] [(.rp [(aJ q)] 0)])]))],_,_,_]) (by kernel_rfl) (gc (bI h3) (gc (FMM.fc (ids:=[0]) (aPw x100 q h2) (by kernel_rfl)) (gc (atm aA h1) (gc (ixn aA h1) (gc (aL h0) gn)))))
theorem aMw{l q:List Int}{i:Nat}{x100:Int}{i':Nat}(h0:(i:Int)<(l.length:Int))(h1:l[i]? = some x100)(h2:q.length≤1000)(h3:(ocB q x100)=true)(h4:inR (((i+1):Nat):Int))(ei':i'=(i+1)):aC Tryz.prog 1 vF (fQ l q i) .normal (fQ l q i'):=by
 subst ei'
 exact aC.fin (g:=⟨(rng [(2,5),(9,10)]),[],[],[]⟩) (o:=[bT,.x (aA x100),.c (.p (blP (!(ocB q x100)))) [(0,(.box 96 [(.fn 85 [] [(.rp [(aJ q)] 0)])]))],bF]) (l:=[_,_,FC Tryz.prog 150 [(.p (aA x100)),(.ptr 0 0)] [(0,(.box 96 [(.fn 85 [] [(.rp [(aJ q)] 0)])]))] 1 (.p (blP (!(ocB q x100)))) [(0,(.box 96 [(.fn 85 [] [(.rp [(aJ q)] 0)])]))],_,_,_]) (by kernel_rfl) (gc h4 (gc (aI h3) (gc (FMM.fc (ids:=[0]) (aPw x100 q h2) (by kernel_rfl)) (gc (atm aA h1) (gc (ixn aA h1) (gc (aL h0) gn))))))
theorem aMx{l q:List Int}{i:Nat}(h0:(l.length:Int)≤(i:Int)):aC Tryz.prog 1 vF (fQ l q i) (.exit 0) (fQ l q i):=by
 exact aC.fin (g:=⟨(rng [(2,5),(9,10)]),[],[],[]⟩) (o:=[bF]) (l:=[_]) (by kernel_rfl) (gc (aE h0) gn)
theorem bIu(l:List Int)(q:List Int)(hl:l.length≤1000)(he:∀ x∈l,q.length≤1000):FMM Tryz.prog 129 [.p (aJ l),(.fn 150 [] [(.ptr 0 0)])] [some (.box 96 [(.fn 85 [] [(.rp [(aJ q)] 0)])])] (.p (aA (bC (fun x => !(ocB q x)) l))) [some (.box 96 [(.fn 85 [] [(.rp [(aJ q)] 0)])])]:=by
 rcases aF.find (P:=Tryz.prog) (k:=1) (b:=vF) (fun i=>fQ l q i) (fun i _=>bG (fQ l q i) [(4,.p (aA (i:Int)))]) (fQ l q l.length) .ret (.exit 0) (by simp) (by simp) (fun x => !(ocB q x)) l
  (fun i x hx hp=>by exact aMw (by have:=aS hx;omega) hx (he _ (List.mem_of_getElem? hx)) (by simpa using hp) (aR (by have:=aS hx;omega)) rfl)
  (fun i x hx hp=>by exact aMv (by have:=aS hx;omega) hx (he _ (List.mem_of_getElem? hx)) (by simpa using hp))
  (aMx (l:=l) (i:=l.length) (by omega)) with ⟨i,x,h1,h2,h3,h4⟩ | ⟨h1,h2,h3⟩
 ·rw [eM h2];exact bIt h4
 ·rw [gP h1];exact bIs h3
theorem bIv{l q:List Int}{r0:Bool}(h0:l.length≤1000)(h1:∀ x∈l,q.length≤1000)(er0:r0=(decide ((bC (fun x => !(ocB q x)) l) ≥ (0:Int)))):FMM Tryz.prog 149 [(.p (aJ l)),(.fn 150 [] [(.ptr 0 0)])] [some (.box 96 [(.fn 85 [] [(.rp [(aJ q)] 0)])])] (.p (blP r0)) [some (.box 96 [(.fn 85 [] [(.rp [(aJ q)] 0)])])]:=by
 subst er0
 exact FMM.fin (k:=1) (g:=⟨[],[],[],[]⟩) rfl Tryz.func149 rfl (o:=[.c (.p (aA (bC (fun x => !(ocB q x)) l))) [(0,(.box 96 [(.fn 85 [] [(.rp [(aJ q)] 0)])]))]]) (l:=[FC Tryz.prog 129 [(.p (aJ l)),(.fn 150 [] [(.ptr 0 0)])] [(0,(.box 96 [(.fn 85 [] [(.rp [(aJ q)] 0)])]))] 1 (.p (aA (bC (fun x => !(ocB q x)) l))) [(0,(.box 96 [(.fn 85 [] [(.rp [(aJ q)] 0)])]))]]) (by kernel_rfl) (gc (FMM.fc (ids:=[0]) (bIu l q h0 h1) (by kernel_rfl)) gn)
theorem bIw(l:List Int)(q:List Int)(hl:l.length≤1000)(he:∀ x∈l,q.length≤1000):FMM Tryz.prog 149 [.p (aJ l),(.fn 150 [] [(.ptr 0 0)])] [some (.box 96 [(.fn 85 [] [(.rp [(aJ q)] 0)])])] (.p (blP (l.any (fun x => !(ocB q x))))) [some (.box 96 [(.fn 85 [] [(.rp [(aJ q)] 0)])])]:=bIv hl he (kE _ _).symm
theorem bQy{l q:List Int}{r0:Bool}(h0:l.length≤1000)(h1:∀ x∈l,q.length≤1000)(er0:r0=(!(l.any (fun x => !(ocB q x))))){base:Nat}:FV Tryz.prog 84 [(.p (aJ l)),(.fn 85 [] [(.rp [(aJ q)] 0)])] base (.p (blP r0)) []:=by
 subst er0
 exact FV.fin Tryz.func84 rfl (o:=[.c (.p (blP (l.any (fun x => !(ocB q x))))) [(0,(.box 96 [(.fn 85 [] [(.rp [(aJ q)] 0)])]))]]) (l:=[FC Tryz.prog 149 [(.p (aJ l)),(.fn 150 [] [(.ptr 0 0)])] [(0,(.box 96 [(.fn 85 [] [(.rp [(aJ q)] 0)])]))] 1 (.p (blP (l.any (fun x => !(ocB q x))))) [(0,(.box 96 [(.fn 85 [] [(.rp [(aJ q)] 0)])]))]]) (by kernel_rfl) (gc (FMM.fc (ids:=[0]) (bIw l q h0 h1) (by kernel_rfl)) gn)
theorem bQz(l:List Int)(q:List Int)(hl:l.length≤1000)(he:∀ x∈l,q.length≤1000){base:Nat}:FV Tryz.prog 84 [.p (aJ l),(.fn 85 [] [(.rp [(aJ q)] 0)])] base (.p (blP (l.all (ocB q)))) []:=bQy hl he (by rw [List.all_eq_not_any_not])
def gK(dl:Int)(sk:List (List Int))(dc:List (List Int))(u:List Int)(i:Int):St:=⟨fr 45 [(1,(.p (aJ u))),(6,(.rp (aK dl (aB sk) (aB dc)) 0)),(9,(.p (aA i)))],[]⟩
theorem bRa{dl:Int}{sk dc:List (List Int)}{u:List Int}{i'0:Int}{R1:List (List Int)}{T2:List (Int × Bool)}(h0:dG dl sk dc)(h1:cH (aB dc))(h2:u.length≤1000)(h3:∀ x∈u,(aW dl (aB dc)).length≤1000)(h4:(u.all (ocB (aW dl (aB dc))))=true)(hl5:aF Tryz.prog 0 aFh (gK dl sk dc u (1:Int)) (.exit 0) (gK dl sk dc u i'0))(h6:bQt dl (aB sk) (aB dc) (aJ u) R1 ([]:List (Int × Bool)) T2){base:Nat}:FV Tryz.prog 21 [(.p (.agg (bH dl sk dc))),(.p (aJ u))] base (.tup [(.own base),(.p (aA 0))]) [(base,(.row 48 R1.length (R1.flatten.map aA)))]:=by
 exact FV.fin Tryz.func21 rfl (o:=[.c (.tup [(.rp (aK dl (aB sk) (aB dc)) 0),(.p (aA 0))]) [],bF,.c (.own 1) [(1,(.row 3 ((aW dl (aB dc)).length) ((aW dl (aB dc)).map aA)))],.g 2 ⟨[],[0],[1,2],[]⟩,.c (.p (blP (u.all (ocB (aW dl (aB dc)))))) [],bF,.k 4 ⟨(rng [(0,1),(2,4),(7,2),(10,30)]),[],[],[]⟩ (.exit 0) (gK dl sk dc u i'0),.c gS (vU dl (aB sk) (aB dc) (aJ u) ([]:List (Int × Bool))),.c (.own 7) [(0,(vB0 dl (aB sk) (aB dc))),(1,(.box 33 [(.p (aJ u))])),(2,vB2),(3,(.mp (aH T2) T2.length)),(4,(.box 207 [(.mp 3)])),(5,(vB5 dl (aB sk) (aB dc))),(6,vB6),(7,(.row 48 R1.length (R1.flatten.map aA)))]]) (l:=[FC Tryz.prog 86 [(.rp (aK dl (aB sk) (aB dc)) 0),gS] [(4,(.box 207 [(.mp 3)])),(5,(vB5 dl (aB sk) (aB dc))),(0,(vB0 dl (aB sk) (aB dc))),(2,vB2),(6,vB6),(1,(.box 33 [(.p (aJ u))])),(3,(.mp (aH ([]:List (Int × Bool))) 0))] 7 (.own 7) [(0,(vB0 dl (aB sk) (aB dc))),(1,(.box 33 [(.p (aJ u))])),(2,vB2),(3,(.mp (aH T2) T2.length)),(4,(.box 207 [(.mp 3)])),(5,(vB5 dl (aB sk) (aB dc))),(6,vB6),(7,(.row 48 R1.length (R1.flatten.map aA)))],FC Tryz.prog 87 [(.rp (aK dl (aB sk) (aB dc)) 0),(.p (aJ u))] [] 0 gS (vU dl (aB sk) (aB dc) (aJ u) ([]:List (Int × Bool))),_,_,_,_,_,_]) (by kernel_rfl) (gc (FMM.fc (ids:=[0,1,2,3,4,5,6]) h6 (by kernel_rfl)) (gc (FMM.fcN (k:=7) rfl (ids:=[]) (oH (dl:=dl) (sk:=(aB sk)) (dc:=(aB dc)) (on:=u.length) (ol:=(u.map aA))) (by kernel_rfl)) (gc hl5.code (gc (aI h4) (gc (fk 1 (bQz u (aW dl (aB dc)) h2 h3) rfl) (gc (fk 1 (pQ (dl:=dl) (sk:=(aB sk)) (dc:=(aB dc)) h1) rfl) (gc bCz (gc (fk 1 (kA dl sk dc h0) rfl) gn))))))))
theorem aXj{dl:Int}{sk dc:List (List Int)}{u:List Int}{i x100 x101:Int}(h0:i<(u.length:Int))(h1:u[i.toNat]? = some x100)(h2:0≤i)(h3:inR (i-(1:Int)))(h4:u[(i-(1:Int)).toNat]? = some x101)(h5:0≤(i-(1:Int)))(h6:x100≤x101):aC Tryz.prog 0 aFh (gK dl sk dc u i) .ret (bG (gK dl sk dc u i) [(4,(.p bR)),(5,(.p (aA 4)))]):=by
 exact aC.fin (g:=⟨(rng [(0,1),(2,2),(7,2),(10,30)]),[],[],[]⟩) (o:=[bT,.x (aA x100),.x (aA x101),bT]) (l:=[_,(u.map aA)[((i-(1:Int)).toNat*1)]? = some (aA x101),_,_,(u.map aA)[(i.toNat*1)]? = some (aA x100),_,_]) (by kernel_rfl) (gc (eJ h6) (gc (uR (i:=(i-(1:Int)).toNat) h4) (gc (uS (g:=aA) h5 h4) (gc h3 (gc (uR (i:=i.toNat) h1) (gc (uS (g:=aA) h2 h1) (gc (aL h0) gn)))))))
theorem aXk{dl:Int}{sk dc:List (List Int)}{u:List Int}{i x100 x101 i':Int}(h0:i<(u.length:Int))(h1:u[i.toNat]? = some x100)(h2:0≤i)(h3:inR (i-(1:Int)))(h4:u[(i-(1:Int)).toNat]? = some x101)(h5:0≤(i-(1:Int)))(h6:x101<x100)(h7:inR (i+(1:Int)))(ei':i'=(i+(1:Int))):aC Tryz.prog 0 aFh (gK dl sk dc u i) .normal (gK dl sk dc u i'):=by
 subst ei'
 exact aC.fin (g:=⟨(rng [(0,1),(2,4),(7,2),(10,30)]),[],[],[]⟩) (o:=[bT,.x (aA x100),.x (aA x101),bF]) (l:=[_,_,(u.map aA)[((i-(1:Int)).toNat*1)]? = some (aA x101),_,_,(u.map aA)[(i.toNat*1)]? = some (aA x100),_,_]) (by kernel_rfl) (gc h7 (gc (cT h6) (gc (uR (i:=(i-(1:Int)).toNat) h4) (gc (uS (g:=aA) h5 h4) (gc h3 (gc (uR (i:=i.toNat) h1) (gc (uS (g:=aA) h2 h1) (gc (aL h0) gn))))))))
theorem aDf{dl:Int}{sk dc:List (List Int)}{u:List Int}{i:Int}(h0:(u.length:Int)≤i):aC Tryz.prog 0 aFh (gK dl sk dc u i) (.exit 0) (gK dl sk dc u i):=by
 exact aC.fin (g:=⟨(rng [(0,1),(2,4),(7,2),(10,30)]),[],[],[]⟩) (o:=[bF]) (l:=[_]) (by kernel_rfl) (gc (aE h0) gn)
end
section

def gV(q:List Int)(s i:Nat):List Int:=((List.range i).filter fun j=>s / 2 ^ j % 2 == 1).map fun j=>q.getD j 0
def iZ(q:List Int):List (List Int):=(List.range (2 ^ q.length)).map fun s=>gV q s q.length

theorem bIg{l:Nat}{q:List Int}(h0:0≤(q.length:Int)∧(q.length:Int)≤60∧IntKind.i64 = .i64)(h1:inR ((1:Int)*2 ^ ((q.length:Int).toNat))):eF Tryz.prog 0 (sub (cd Tryz.f182) [0]) ⟨fr 35 [(0,(.yld l)),(1,(.rp [(aJ q)] 0))],[]⟩ .normal ⟨fr 35 [(0,(.yld l)),(1,(.rp [(aJ q)] 0)),(8,(.p (aA ((1:Int)*2 ^ ((q.length:Int).toNat))))),(9,(.p (aA 0)))],[]⟩:=by
 exact eF.fin (g:=⟨(rng [(2,6),(10,25)]),[],[],[]⟩) (o:=[.x (aJ q)]) (l:=[_,_,[(aJ q)][0]? = some (aJ q)]) (by kernel_rfl) (gc h1 (gc h0 (gc rfl gn)))
theorem bIh{l:Nat}{q:List Int}{n8:Int}{s:Nat}:eF Tryz.prog 0 (sub (cd Tryz.f182) [1,0,0,0]) ⟨fr 35 [(0,(.yld l)),(1,(.rp [(aJ q)] 0)),(8,(.p (aA n8))),(9,(.p (aA (s:Int))))],[]⟩ .normal ⟨fr 35 [(0,(.yld l)),(1,(.rp [(aJ q)] 0)),(8,(.p (aA n8))),(9,(.p (aA (s:Int)))),(10,(.p (blP (decide ((s:Int)<n8)))))],[]⟩:=by
 exact eF.fin (g:=⟨(rng [(2,6),(11,24)]),[],[],[]⟩) (o:=[]) (l:=[]) (by kernel_rfl) (gn)
theorem bIi{l:Nat}{q:List Int}{n8:Int}{s:Nat}:eF Tryz.prog 0 (sub (cd Tryz.f182) [1,0,0,1,1,0,0,0]) ⟨fr 35 [(0,(.yld l)),(1,(.rp [(aJ q)] 0)),(8,(.p (aA n8))),(9,(.p (aA (s:Int))))],[]⟩ .normal ⟨fr 35 [(0,(.yld l)),(1,(.rp [(aJ q)] 0)),(3,(.p (aA (s:Int)))),(8,(.p (aA n8))),(9,(.p (aA (s:Int))))],[]⟩:=by
 exact eF.fin (g:=⟨(rng [(2,1),(4,4),(10,25)]),[],[],[]⟩) (o:=[]) (l:=[]) (by kernel_rfl) (gn)
theorem bIj{l:Nat}{q:List Int}{n8:Int}{s:Nat}:eF Tryz.prog 0 (sub (cd Tryz.f182) [1,0,0,1,1,0,0,1,0]) ⟨fr 35 [(0,(.yld l)),(1,(.rp [(aJ q)] 0)),(3,(.p (aA (s:Int)))),(8,(.p (aA n8))),(9,(.p (aA (s:Int))))],[]⟩ .normal ⟨fr 35 [(0,(.yld l)),(1,(.rp [(aJ q)] 0)),(3,(.p (aA (s:Int)))),(4,(.p bR)),(8,(.p (aA n8))),(9,(.p (aA (s:Int))))],[]⟩:=by
 exact eF.fin (g:=⟨(rng [(2,1),(5,3),(10,25)]),[],[],[]⟩) (o:=[]) (l:=[]) (by kernel_rfl) (gn)
theorem bIk{l:Nat}{q:List Int}{n8:Int}{s:Nat}:eF Tryz.prog 0 (sub (cd Tryz.f182) [1,0,0,1,1,0,0,1,1,0,0]) ⟨fr 35 [(0,(.yld l)),(1,(.rp [(aJ q)] 0)),(3,(.p (aA (s:Int)))),(4,(.p bR)),(8,(.p (aA n8))),(9,(.p (aA (s:Int))))],[]⟩ .normal ⟨fr 35 [(0,(.yld l)),(1,(.rp [(aJ q)] 0)),(3,(.p (aA (s:Int)))),(4,(.own 0)),(8,(.p (aA n8))),(9,(.p (aA (s:Int)))),(13,(.p (aA (q.length:Int)))),(14,(.p (aA 0)))],[some (.row 3 0 [])]⟩:=by
 exact eF.fin (g:=⟨(rng [(2,1),(5,3),(10,3),(15,20)]),[0],[],[(4,3)]⟩) (o:=[.x (aJ q)]) (l:=[[(aJ q)][0]? = some (aJ q)]) (by kernel_rfl) (gc rfl gn)
theorem bIl{l:Nat}{q:List Int}{n8:Int}{s:Nat}{o:List Int}{i:Nat}:eF Tryz.prog 0 (sub (cd Tryz.f182) [1,0,0,1,1,0,0,1,1,0,1,0,0,0]) ⟨fr 35 [(0,(.yld l)),(1,(.rp [(aJ q)] 0)),(3,(.p (aA (s:Int)))),(4,(.own 0)),(8,(.p (aA n8))),(9,(.p (aA (s:Int)))),(13,(.p (aA (q.length:Int)))),(14,(.p (aA (i:Int))))],[some (.row 3 o.length (o.map aA))]⟩ .normal ⟨fr 35 [(0,(.yld l)),(1,(.rp [(aJ q)] 0)),(3,(.p (aA (s:Int)))),(4,(.own 0)),(8,(.p (aA n8))),(9,(.p (aA (s:Int)))),(13,(.p (aA (q.length:Int)))),(14,(.p (aA (i:Int)))),(15,(.p (blP (decide ((i:Int)<(q.length:Int))))))],[some (.row 3 o.length (o.map aA))]⟩:=by
 exact eF.fin (g:=⟨(rng [(2,1),(5,3),(10,3),(16,19)]),[0],[],[]⟩) (o:=[]) (l:=[]) (by kernel_rfl) (gn)
theorem bIm{l:Nat}{q:List Int}{n8:Int}{s:Nat}{o:List Int}{i:Nat}:eF Tryz.prog 0 (sub (cd Tryz.f182) [1,0,0,1,1,0,0,1,1,0,1,0,0,1,1,0,0,0]) ⟨fr 35 [(0,(.yld l)),(1,(.rp [(aJ q)] 0)),(3,(.p (aA (s:Int)))),(4,(.own 0)),(8,(.p (aA n8))),(9,(.p (aA (s:Int)))),(13,(.p (aA (q.length:Int)))),(14,(.p (aA (i:Int))))],[some (.row 3 o.length (o.map aA))]⟩ .normal ⟨fr 35 [(0,(.yld l)),(1,(.rp [(aJ q)] 0)),(3,(.p (aA (s:Int)))),(4,(.own 0)),(5,(.p (aA (i:Int)))),(8,(.p (aA n8))),(9,(.p (aA (s:Int)))),(13,(.p (aA (q.length:Int)))),(14,(.p (aA (i:Int))))],[some (.row 3 o.length (o.map aA))]⟩:=by
 exact eF.fin (g:=⟨(rng [(2,1),(6,2),(10,3),(15,20)]),[0],[],[]⟩) (o:=[]) (l:=[]) (by kernel_rfl) (gn)
theorem bIn{l:Nat}{q:List Int}{n8:Int}{s:Nat}{o:List Int}{i:Nat}(h0:0≤((s:Int).fdiv (2 ^ min ((i:Int).toNat) (IntKind.bits .i64)))∧((s:Int).fdiv (2 ^ min ((i:Int).toNat) (IntKind.bits .i64)))≤9223372036854775807∧(1:Int)=1∧IntKind.i64 = .i64):eF Tryz.prog 0 (sub (cd Tryz.f182) [1,0,0,1,1,0,0,1,1,0,1,0,0,1,1,0,0,1,0]) ⟨fr 35 [(0,(.yld l)),(1,(.rp [(aJ q)] 0)),(3,(.p (aA (s:Int)))),(4,(.own 0)),(5,(.p (aA (i:Int)))),(8,(.p (aA n8))),(9,(.p (aA (s:Int)))),(13,(.p (aA (q.length:Int)))),(14,(.p (aA (i:Int))))],[some (.row 3 o.length (o.map aA))]⟩ .normal ⟨fr 35 [(0,(.yld l)),(1,(.rp [(aJ q)] 0)),(3,(.p (aA (s:Int)))),(4,(.own 0)),(5,(.p (aA (i:Int)))),(8,(.p (aA n8))),(9,(.p (aA (s:Int)))),(13,(.p (aA (q.length:Int)))),(14,(.p (aA (i:Int)))),(21,(.p (blP ((((s:Int).fdiv (2 ^ min ((i:Int).toNat) (IntKind.bits .i64))) % 2) == (1:Int)))))],[some (.row 3 o.length (o.map aA))]⟩:=by
 exact eF.fin (g:=⟨(rng [(2,1),(6,2),(10,3),(15,6),(22,13)]),[0],[],[]⟩) (o:=[]) (l:=[_,0≤(i:Int)]) (by kernel_rfl) (gc h0 (gc (Int.natCast_nonneg _) gn))
theorem bIo{l:Nat}{q:List Int}{n8:Int}{s:Nat}{o:List Int}{i:Nat}{x0:Int}(h0:q[i]? = some x0)(h1:[(aA x0)].length=1*1∧o.length+1≤1000000):eF Tryz.prog 0 (sub (cd Tryz.f182) [1,0,0,1,1,0,0,1,1,0,1,0,0,1,1,0,0,1,1,0]) ⟨fr 35 [(0,(.yld l)),(1,(.rp [(aJ q)] 0)),(3,(.p (aA (s:Int)))),(4,(.own 0)),(5,(.p (aA (i:Int)))),(8,(.p (aA n8))),(9,(.p (aA (s:Int)))),(13,(.p (aA (q.length:Int)))),(14,(.p (aA (i:Int))))],[some (.row 3 o.length (o.map aA))]⟩ .normal ⟨fr 35 [(0,(.yld l)),(1,(.rp [(aJ q)] 0)),(3,(.p (aA (s:Int)))),(4,(.own 0)),(8,(.p (aA n8))),(9,(.p (aA (s:Int)))),(13,(.p (aA (q.length:Int)))),(14,(.p (aA (i:Int))))],[some (.row 3 (o.length+1) ((o.map aA)++[(aA x0)]))]⟩:=by
 exact eF.fin (g:=⟨(rng [(2,1),(5,3),(10,3),(15,20)]),[2],[],[]⟩) (o:=[.x (aJ q),.x (aA x0)]) (l:=[_,_,_,[(aJ q)][0]? = some (aJ q)]) (by kernel_rfl) (gc h1 (gc (atm aA h0) (gc (ixn aA h0) (gc rfl gn))))
theorem bIp{l:Nat}{q:List Int}{n8:Int}{s:Nat}{o:List Int}{i:Nat}(h0:inR (((i+1):Nat):Int)):eF Tryz.prog 0 (sub (cd Tryz.f182) [1,0,0,1,1,0,0,1,1,0,1,0,0,1,1,1]) ⟨fr 35 [(0,(.yld l)),(1,(.rp [(aJ q)] 0)),(3,(.p (aA (s:Int)))),(4,(.own 0)),(8,(.p (aA n8))),(9,(.p (aA (s:Int)))),(13,(.p (aA (q.length:Int)))),(14,(.p (aA (i:Int))))],[some (.row 3 o.length (o.map aA))]⟩ .normal ⟨fr 35 [(0,(.yld l)),(1,(.rp [(aJ q)] 0)),(3,(.p (aA (s:Int)))),(4,(.own 0)),(8,(.p (aA n8))),(9,(.p (aA (s:Int)))),(13,(.p (aA (q.length:Int)))),(14,(.p (aA (((i+1):Nat):Int))))],[some (.row 3 o.length (o.map aA))]⟩:=by
 exact eF.fin (g:=⟨(rng [(2,1),(5,3),(10,3),(15,20)]),[0],[],[]⟩) (o:=[]) (l:=[_]) (by kernel_rfl) (gc h0 gn)
theorem bIq{l:Nat}{q:List Int}{n8:Int}{s:Nat}(h0:inR (((s+1):Nat):Int)):eF Tryz.prog 0 (sub (cd Tryz.f182) [1,0,0,1,1,1]) ⟨fr 35 [(0,(.yld l)),(1,(.rp [(aJ q)] 0)),(8,(.p (aA n8))),(9,(.p (aA (s:Int))))],[]⟩ .normal ⟨fr 35 [(0,(.yld l)),(1,(.rp [(aJ q)] 0)),(8,(.p (aA n8))),(9,(.p (aA (((s+1):Nat):Int))))],[]⟩:=by
 exact eF.fin (g:=⟨(rng [(2,6),(10,25)]),[],[],[]⟩) (o:=[]) (l:=[_]) (by kernel_rfl) (gc h0 gn)
end
end KV
end Go.Proofs
section
namespace Go.Proofs
open Go.RowKit
namespace KV
attribute [local go_sem] Oper.semAt_some
theorem xJ(l:List (Nat × AV)):∀ (n k:Nat),(frm l n k).length=n
 | 0,_=>rfl
 | n+1,k=>by unfold frm;rw [List.length_cons,xJ]
theorem aMt(l:List (Nat × AV)):∀ (n k j:Nat) (h:j<(frm l n k).length),(frm l n k)[j]=look l (k+j)
 | 0,_,j,h=>by simp [frm] at h
 | n+1,k,0,h=>rfl
 | n+1,k,j+1,h=>by
  have:=aMt l n (k+1) j (by rw [xJ] at h ⊢;omega)
  rw [show k+(j+1)=k+1+j by omega]
  exact this
theorem aIs{C:Cx}{M:Mem}{w:World}{us:Array Value}:∀ {l:List (Nat × AV)},(∀ p∈l,Rep C M w p.2 (us.getD p.1 undef))→∀ j,Rep C M w (look l j) (us.getD j undef)
 | [],_,j => .any _
 | (i,x)::r,h,j=>by
  unfold look
  split
  ·rename_i hb
   rw [← Nat.eq_of_beq_eq_true hb]
   exact h (i,x) (List.mem_cons_self ..)
  ·exact aIs (fun p hp=>h p (List.mem_cons_of_mem _ hp)) j
theorem aIt{C:Cx}{M:Mem}{w:World}{us:Array Value}{n:Nat}{l:List (Nat × AV)}(hs:us.size=n)(h:∀ p∈l,Rep C M w p.2 (us.getD p.1 undef)):eH C M w (fr n l) us:=by
 refine ⟨by rw [hs,xJ],fun i hi => ?_⟩
 rw [aMt,Nat.zero_add]
 exact aIs h _
theorem sE{C:Cx}{M:Mem}{w:World}{us:Array Value}{n:Nat}{l:List (Nat × AV)}(h:eH C M w (fr n l) us)(i:Nat)(hi:i<n):Rep C M w (look l i) (us.getD i undef):=by
 have:=h.rep i (by rw [xJ];exact hi)
 rwa [aMt,Nat.zero_add] at this

section
variable {P:Program}
def InK(Cv:Cx)(V:World)(v0:Value)(st:St)(a:Act)(w:World):Prop:=Sim Tryz.prog Cv [] V st a w∧a.tmps.getD 1 undef=v0∧a.defers=[]
theorem InK.step{Cv:Cx}{V:World}{v0:Value}{c:Code}{st st':St}{a:Act}{w:World}{n:Nat}{K:Act→World→Prop}{Q:Exit→Act→World→Prop}(h:eF Tryz.prog 0 c st .normal st')(hw:wrR c 1=false)(hi:InK Cv V v0 st a w)
  (hK:∀ a' w',InK Cv V v0 st' a' w'→K a' w'):c.wpIn (Fen none) n Tryz.prog (Exit.then K Q) a w :=
 wpIn_mono (h Cv [] V a w (by simp) hi.1 none n) fun e a' w' hq=>by
  obtain ⟨he,hs,hk⟩:=hq
  subst he
  exact hK a' w' ⟨hs,(hk.1 1 hw).trans hi.2.1,hk.2.trans hi.2.2⟩
end
noncomputable abbrev cO:Code:=cd Tryz.f182
abbrev stA(l:Nat)(q:List Int)(n8:Int)(s:Nat):St:=⟨fr 35 [(0,.yld l),(1,.rp [aJ q] 0),(8,.p (aA n8)),(9,.p (aA (s:Int)))],[]⟩
abbrev stB(l:Nat)(q:List Int)(n8:Int)(s:Nat)(o:List Int)(i:Nat):St:=⟨fr 35 [(0,.yld l),(1,.rp [aJ q] 0),(3,.p (aA (s:Int))),(4,.own 0),(8,.p (aA n8)),(9,.p (aA (s:Int))),(13,.p (aA (q.length:Int))),(14,.p (aA (i:Int)))],[some (.row 3 o.length (o.map aA))]⟩
theorem aXa(q:List Int)(s i:Nat):gV q s (i+1)=gV q s i++if s / 2 ^ i % 2 == 1 then [q.getD i 0] else []:=by
 unfold gV
 rw [List.range_succ,List.filter_append,List.map_append]
 congr 1
 cases h:s / 2 ^ i % 2 == 1 <;> simp [h]
theorem aIu(q:List Int)(s i:Nat):(gV q s i).length≤i:=by
 unfold gV
 rw [List.length_map]
 have:=List.length_filter_le (fun j=>s / 2 ^ j % 2 == 1) (List.range i)
 rwa [List.length_range] at this
theorem bIf(s i:Nat)(hi:i≤60):(s:Int).fdiv (2 ^ min ((i:Int).toNat) (IntKind.bits .i64))=((s / 2 ^ i:Nat):Int):=by
 have hb:IntKind.bits .i64=64:=rfl
 rw [Int.toNat_natCast,hb,Nat.min_eq_left (by omega),Int.fdiv_eq_ediv_of_nonneg _ (by exact_mod_cast Nat.zero_le _)]
 push_cast
 rfl
theorem bCt{Cv:Cx}{V:World}{v0:Value}{l:Nat}{q:List Int}{n8:Int}{s:Nat}(hq:q.length≤60)(hs:s≤9223372036854775807){n:Nat}{K:Act→World→Prop}{Q:Exit→Act→World→Prop}{a:Act}{w:World}
  (hi:InK Cv V v0 (stB l q n8 s [] 0) a w) (hK:∀ a' w',InK Cv V v0 (stB l q n8 s (gV q s q.length) q.length) a' w'→K a' w') :
  (Code.block 2 (.loop (sub cO [1,0,0,1,1,0,0,1,1,0,1,0,0]))).wpIn (Fen none) n Tryz.prog (Exit.then K Q) a w:=by
 refine wpIn_block ?_
 refine wpIn_loop_ghost (fun k a w=>∃ i,i≤q.length∧k=q.length-i∧InK Cv V v0 (stB l q n8 s (gV q s i) i) a w) q.length ⟨0,by omega,by omega,hi⟩ ?_
 rintro k a w ⟨i,hil,rfl,hI⟩
 have e1:sub cO [1,0,0,1,1,0,0,1,1,0,1,0,0] = .seq (sub cO [1,0,0,1,1,0,0,1,1,0,1,0,0,0]) (.seq (.cond (.tmp 15) .skip (.exit 2)) (.seq (.block 3 (.seq (sub cO [1,0,0,1,1,0,0,1,1,0,1,0,0,1,1,0,0,0]) (.seq (sub cO [1,0,0,1,1,0,0,1,1,0,1,0,0,1,1,0,0,1,0]) (.cond (.tmp 21) (sub cO [1,0,0,1,1,0,0,1,1,0,1,0,0,1,1,0,0,1,1,0]) .skip)))) (sub cO [1,0,0,1,1,0,0,1,1,0,1,0,0,1,1,1]))):=by kernel_rfl
 rw [e1]
 refine wpIn_seq ?_
 refine InK.step bIl (by kernel_rfl) hI fun a1 w1 h1 => ?_
 refine wpIn_seq ?_
 obtain ⟨⟨C1,hS1,_⟩,_⟩:=id h1
 have hc15:a1.eval (.tmp 15) = .bool (decide ((i:Int)<(q.length:Int))):=by
  have:=sE hS1 15 (by omega)
  show a1.tmps.getD 15 undef=_
  generalize a1.tmps.getD 15 undef=u at this
  have h2:Rep C1 _ w1 (.p (.v (.bool (decide ((i:Int)<(q.length:Int)))))) u:=this
  cases h2 with
  | p _ _ h=>cases h;rfl
 by_cases hlt:i<q.length
 ·refine wpIn_cond_true (by rw [hc15,decide_eq_true (by omega)]) (wpIn_skip ?_)
  show Code.wpIn _ _ _ _ _ _ _
  have h1':InK Cv V v0 (stB l q n8 s (gV q s i) i) a1 w1:=⟨(eO (g:=⟨[15],[0],[],[]⟩) (k:=0) (Nat.le_refl _) (by kernel_rfl) h1.1),h1.2⟩
  refine wpIn_seq ?_
  have hsd:=bIf s i (by omega)
  have hx:q[i]? = some (q.getD i 0):=by rw [List.getD_eq_getElem?_getD,List.getElem?_eq_getElem hlt];rfl
  have hpl:=aIu q s i
  have hfin:∀ a2 w2,InK Cv V v0 (stB l q n8 s (gV q s (i+1)) i) a2 w2→(sub cO [1,0,0,1,1,0,0,1,1,0,1,0,0,1,1,1]).wpIn (Fen none) n Tryz.prog (Exit.then (fun a' w'=>∃ n',n'<q.length-i∧∃ i',i'≤q.length∧n'=q.length-i'∧InK Cv V v0 (stB l q n8 s (gV q s i') i') a' w') (Exit.inBlock 2 (Exit.then K Q))) a2 w2:=fun a2 w2 h2 =>
   InK.step (bIp (aR (by omega))) (by kernel_rfl) h2 fun a3 w3 h3=>⟨q.length-(i+1),by omega,i+1,by omega,rfl,h3⟩
  refine wpIn_block ?_
  refine wpIn_seq ?_
  refine InK.step bIm (by kernel_rfl) h1' fun a2 w2 h2 => ?_
  refine wpIn_seq ?_
  have hle:s / 2 ^ i≤s:=Nat.div_le_self _ _
  refine InK.step (bIn (s:=s) (i:=i) ⟨by rw [hsd];exact Int.natCast_nonneg _,by rw [hsd];exact Int.ofNat_le.2 (Nat.le_trans hle hs),rfl,rfl⟩) (by kernel_rfl) h2 fun a3 w3 h3 => ?_
  obtain ⟨⟨C3,hS3,_⟩,_⟩:=id h3
  have hc21:a3.eval (.tmp 21) = .bool (s / 2 ^ i % 2 == 1):=by
   have:=sE hS3 21 (by omega)
   show a3.tmps.getD 21 undef=_
   generalize a3.tmps.getD 21 undef=u at this
   have h2:Rep C3 _ w3 (.p (.v (.bool (((s:Int).fdiv (2 ^ min ((i:Int).toNat) (IntKind.bits .i64))) % 2 == 1)))) u:=this
   cases h2 with
   | p _ _ h =>
    cases h
    rw [hsd]
    congr 1
    generalize s / 2 ^ i=z
    rw [Bool.eq_iff_iff,beq_iff_eq,beq_iff_eq]
    omega
  have h3':InK Cv V v0 ⟨fr 35 [(0,.yld l),(1,.rp [aJ q] 0),(3,.p (aA (s:Int))),(4,.own 0),(5,.p (aA (i:Int))),(8,.p (aA n8)),(9,.p (aA (s:Int))),(13,.p (aA (q.length:Int))),(14,.p (aA (i:Int)))],[some (.row 3 (gV q s i).length ((gV q s i).map aA))]⟩ a3 w3:=⟨(eO (g:=⟨[21],[0],[],[]⟩) (k:=0) (Nat.le_refl _) (by kernel_rfl) h3.1),h3.2⟩
  have hp:=aXa q s i
  cases hb:s / 2 ^ i % 2 == 1 with
  | true =>
   refine wpIn_cond_true (by rw [hc21,hb]) ?_
   rw [hb,if_pos rfl] at hp
   refine wpIn_mono (bIo (o:=gV q s i) hx ⟨rfl,by omega⟩ Cv [] V a3 w3 (by simp) h3'.1 none n) ?_
   rintro e a4 w4 ⟨rfl,h4,hk4⟩
   refine hfin a4 w4 ⟨?_,(hk4.1 1 (by kernel_rfl)).trans h3'.2.1,hk4.2.trans h3'.2.2⟩
   have e8:(stB l q n8 s (gV q s (i+1)) i)=⟨fr 35 [(0,.yld l),(1,.rp [aJ q] 0),(3,.p (aA (s:Int))),(4,.own 0),(8,.p (aA n8)),(9,.p (aA (s:Int))),(13,.p (aA (q.length:Int))),(14,.p (aA (i:Int)))],[some (.row 3 ((gV q s i).length+1) ((gV q s i).map aA++[aA (q.getD i 0)]))]⟩:=by
    rw [hp]
    unfold stB
    rw [List.length_append,List.map_append];rfl
   rw [e8];exact h4
  | false =>
   refine wpIn_cond_false (by rw [hc21,hb]) (wpIn_skip ?_)
   rw [hb,if_neg (by simp),List.append_nil] at hp
   refine hfin a3 w3 ?_
   rw [hp]
   exact ⟨(eO (g:=⟨[5],[0],[],[]⟩) (k:=0) (Nat.le_refl _) (by kernel_rfl) h3'.1),h3'.2⟩
 ·obtain rfl:i=q.length:=by omega
  refine wpIn_cond_false (by rw [hc15,decide_eq_false (by omega)]) (wpIn_exit ?_)
  show Exit.inBlock 2 (Exit.then K Q) (.exit 2) a1 w1
  unfold Exit.inBlock
  dsimp only
  rw [if_pos rfl]
  exact hK a1 w1 ⟨(eO (g:=⟨[15],[0],[],[]⟩) (k:=0) (Nat.le_refl _) (by kernel_rfl) h1.1),h1.2⟩
theorem aFg{a:Act}{W:World}{l id t0 t1 t2 t3:Nat}{ts:Array TypeId}{p0 p1 p2 p3:String}{f0 f1 f2 f3:Array Edge}{u:Value}{A B:World→Prop}{K:Act→World→Prop}{Q:Exit→Act→World→Prop}
  (hs:a.tmps.size=35) (h0:a.tmps.getD 0 undef = .func (.yield l) #[] #[]) (h4:a.tmps.getD 4 undef=u)
  (hy:YieldAt (Fen none) 1 Tryz.prog l #[u] W (fun e W'=>(e = .returned (.bool true)∧A W')∨(e = .returned (.bool false)∧B W')))
  (hA:∀ a' W',A W'→a'.defers=a.defers→a'.tmps.size=35→(∀ i,i<30→a'.tmps.getD i undef=a.tmps.getD i undef)→a'.tmps.getD 33 undef = .bool false→K a' W')
  (hB:∀ a' W',B W'→a'.defers=a.defers→a'.tmps.getD 33 undef = .bool true→K a' W') :
  (Code.region id #[{ dst:=some 30,op := .move (.tmp 0),type:=t0,pos:=p0,after:=f0,guard:=none },{ dst:=some 31,op := .move (.tmp 4),type:=t1,pos:=p1,after:=f1,guard:=none },
   {dst:=some 32,op := .call { callee := .value (.tmp 30),args := #[.tmp 31],argTypes:=ts },type:=t2,pos:=p2,after:=f2,guard:=none },{ dst:=some 33,op := .unOp .not 4 (.tmp 32),type:=t3,pos:=p3,after:=f3,guard:=none }] false).wpIn (Fen none) 2 Tryz.prog (Exit.then K Q) a W:=by
 refine wpIn_region_lit (wpListIn_plain rfl fun K1 hK1 => ?_)
 unfold Oper.wpIn
 refine ⟨fun f _=>trivial,?_⟩
 rw [Oper.semAt_plain _ _ _ (by intro c hc';cases hc')]
 simp only [execOp,Sem.run_pure]
 refine hK1 _ _ (wpListIn_plain rfl fun K2 hK2 => ?_)
 unfold Oper.wpIn
 refine ⟨fun f _=>trivial,?_⟩
 rw [Oper.semAt_plain _ _ _ (by intro c hc';cases hc')]
 simp only [execOp,Sem.run_pure]
 refine hK2 _ _ (wpListIn_plain rfl fun K3 hK3 => ?_)
 unfold Oper.wpIn
 refine ⟨fun f _=>trivial,?_⟩
 rw [Oper.semAt_plain _ _ _ (by intro c hc';cases hc')]
 obtain ⟨fn,tmps,assign,body,hrun,hR⟩:=hy
 have e30:(((a.put (some 30) (a.eval (.tmp 0))).put (some 31) ((a.put (some 30) (a.eval (.tmp 0))).eval (.tmp 4)))).eval (.tmp 30) = .func (.yield l) #[] #[]:=by
  show ((a.tmps.setIfInBounds 30 (a.tmps.getD 0 undef)).setIfInBounds 31 _).getD 30 undef=_
  rw [h0]
  simp [Array.getD_eq_getD_getElem?,Array.getElem?_setIfInBounds,hs]
 have e31:(((a.put (some 30) (a.eval (.tmp 0))).put (some 31) ((a.put (some 30) (a.eval (.tmp 0))).eval (.tmp 4)))).eval (.tmp 31)=u:=by
  show ((a.tmps.setIfInBounds 30 (a.tmps.getD 0 undef)).setIfInBounds 31 ((a.tmps.setIfInBounds 30 (a.tmps.getD 0 undef)).getD 4 undef)).getD 31 undef=_
  rw [← h4]
  simp [Array.getD_eq_getD_getElem?,Array.getElem?_setIfInBounds,hs]
 have e45:∀ i,i<30→(((a.put (some 30) (a.eval (.tmp 0))).put (some 31) ((a.put (some 30) (a.eval (.tmp 0))).eval (.tmp 4)))).tmps.getD i undef=a.tmps.getD i undef:=fun i hi=>by
  rw [nG (fun e=>by cases e;omega),nG (fun e=>by cases e;omega)]
 have eD:(((a.put (some 30) (a.eval (.tmp 0))).put (some 31) ((a.put (some 30) (a.eval (.tmp 0))).eval (.tmp 4)))).defers=a.defers:=rfl
 have eS:(((a.put (some 30) (a.eval (.tmp 0))).put (some 31) ((a.put (some 30) (a.eval (.tmp 0))).eval (.tmp 4)))).tmps.size=35:=by
  show ((a.tmps.setIfInBounds _ _).setIfInBounds _ _).size=35
  simp [hs]
 revert e30 e31 e45 eD eS
 dsimp only
 generalize (((a.put (some 30) (a.eval (.tmp 0))).put (some 31) ((a.put (some 30) (a.eval (.tmp 0))).eval (.tmp 4))))=a2
 intro e30 e31 e45 eD eS
 have er:Sem.run Tryz.prog (execOp a2.eval { dst:=some 32,op := .call { callee := .value (.tmp 30),args := #[.tmp 31],argTypes:=ts },type:=t2,pos:=p2,after:=f2,guard:=none }) W = .ok (.round l fn tmps assign body) W:=by
  rw [← hrun]
  simp only [execOp,resolve,Deferred.ofValue,e30,e31,List.map_toArray,List.map_cons,List.map_nil,Sem.run_bind,Sem.run_pure,invoke]
  simp
 rw [er,Oper.uponIn_round]
 refine ⟨fun h=>by simp [Fen,Fence.wide] at h,hR.mono ?_⟩
 have last:∀ (b:Bool) (w3:World),(∀ a',a'.defers=a.defers→a'.tmps.size=35→(∀ i,i<30→a'.tmps.getD i undef=a.tmps.getD i undef)→a'.tmps.getD 33 undef = .bool (!b)→K a' w3)→K3 (a2.put (some 32) (.bool b)) w3:=fun b w3 hfin=>by
  refine hK3 _ _ (wpListIn_plain rfl fun K4 hK4 => ?_)
  unfold Oper.wpIn
  refine ⟨fun f _=>trivial,?_⟩
  rw [Oper.semAt_plain _ _ _ (by intro c hc';cases hc')]
  have e32:(a2.put (some 32) (.bool b)).eval (.tmp 32) = .bool b:=by
   show (a2.tmps.setIfInBounds 32 _).getD 32 undef=_
   simp [Array.getD_eq_getD_getElem?,eS]
  have eu:Sem.run Tryz.prog (execOp (a2.put (some 32) (.bool b)).eval { dst:=some 33,op := .unOp .not 4 (.tmp 32),type:=t3,pos:=p3,after:=f3,guard:=none }) w3 = .ok (.value (.bool !b)) w3:=by
   simp only [execOp,e32]
   rfl
  rw [eu]
  refine hK4 _ _ (wpListIn_nil (hfin _ eD ?_ (fun i hi => ?_) ?_))
  ·show ((a2.tmps.setIfInBounds _ _).setIfInBounds _ _).size=35
   simp [eS]
  ·rw [nG (fun e=>by cases e;omega),nG (fun e=>by cases e;omega)]
   exact e45 i hi
  ·show ((a2.tmps.setIfInBounds 32 _).setIfInBounds 33 _).getD 33 undef=_
   simp [Array.getD_eq_getD_getElem?,eS]
 rintro e w3 (⟨rfl,h⟩ | ⟨rfl,h⟩)
 ·exact last true w3 fun a' h1 h2 h3 h4=>hA a' w3 h h1 h2 h3 h4
 ·exact last false w3 fun a' h1 h2 h3 h4=>hB a' w3 h h1 h4
end KV
end Go.Proofs
end
section
namespace Go.Proofs
open Go.RowKit
namespace KV
structure Lp (l:Nat) (v0:Value) (n8:Int) (s:Nat) (a:Act):Prop where
 size:a.tmps.size=35
 s0:a.tmps.getD 0 undef = .func (.yield l) #[] #[]
 s1:a.tmps.getD 1 undef=v0
 s8:a.tmps.getD 8 undef = .int .i64 n8
 s9:a.tmps.getD 9 undef = .int .i64 (s:Int)
 df:a.defers=[]
abbrev cxF(F:Nat→Prop):Cx:={ ι:=fun _=>none,κ:=fun _=>0,F:=F,R:=[] }
theorem aPu{P:Program}{F:Nat→Prop}{W:World}(hF:∀ b,F b→b<W.heap.size):aV P (cxF F) [] W :=
 ⟨fun _ _ _ _ h=>by simp at h,fun _ _ _ h=>by simp at h,fun _ _ _ h=>by simp at h,fun _ _ _ _ _ h=>by simp at h,fun _ _ _ h=>by simp at h,hF,fun _ _ _ h=>by simp at h⟩
theorem aIq{C:Cx}{M:Mem}{w:World}{n:Int}{u:Value}(h:Rep C M w (.p (aA n)) u):u = .int .i64 n:=by
 cases h with
 | p _ _ h=>cases h;rfl
theorem Lp.ink{F:Nat→Prop}{l:Nat}{v0:Value}{q:List Int}{n8:Int}{s:Nat}{a:Act}{W:World}(h:Lp l v0 n8 s a)(hF:∀ b,F b→b<W.heap.size)(hr:Rep (cxF F) [] W (.rp [aJ q] 0) v0):InK (cxF F) W v0 (stA l q n8 s) a W:=by
 refine ⟨⟨cxF F,aIt h.size ?_,aPu hF,Fr.refl _ _ _,?_⟩,h.s1,h.df⟩
 ·intro p hp
  simp only [List.mem_cons,List.not_mem_nil,or_false] at hp
  rcases hp with rfl | rfl | rfl | rfl
  ·rw [h.s0];exact .yld l
  ·rw [h.s1];exact hr
  ·rw [h.s8];exact .p _ _ (.v _)
  ·rw [h.s9];exact .p _ _ (.v _)
 ·rw [h.df];exact .nil rfl (mT rfl)
theorem InK.lp{Cv:Cx}{V W:World}{l:Nat}{v0:Value}{n8:Int}{s:Nat}{a:Act}{st:St}(h:InK Cv V v0 st a W)(h35:st.t.length=35)(e0:st.t[0]? = some (.yld l))(e8:st.t[8]? = some (.p (aA n8)))(e9:st.t[9]? = some (.p (aA (s:Int)))):Lp l v0 n8 s a:=by
 obtain ⟨⟨C,hS,_⟩,h1,hd⟩:=h
 refine ⟨hS.size.trans h35,?_,h1,aIq (hS.at e8),aIq (hS.at e9),hd⟩
 have:=hS.at e0
 revert this
 generalize a.tmps.getD 0 undef=u
 intro this
 cases this;rfl
theorem aIr{C0 C:Cx}{V W:World}{M:Mem}(h:Fr C0 [] V C M W):V.grownBy W none :=
 ⟨h.os,h.tape,h.out,h.size,fun k hk _=>h.keep k hk (fun _ _ h=>by simp at h)⟩
theorem InK.grown{Cv:Cx}{V W:World}{v0:Value}{st:St}{a:Act}(h:InK Cv V v0 st a W):V.grownBy W none:=by
 obtain ⟨⟨C,_,_,hF,_⟩,_⟩:=h
 exact aIr hF
theorem InK.kp{Cv:Cx}{V W:World}{v0:Value}{st:St}{a:Act}(h:InK Cv V v0 st a W){F:Nat→Prop}(hF:∀ b,F b→b<V.heap.size):KpG F V W :=
 ⟨h.grown.size,fun b hb=>nH h.grown b (hF b hb)⟩
theorem InK.rowH{F:Nat→Prop}{V W:World}{v0:Value}{st:St}{a:Act}{o:List Int}(h:InK (cxF F) V v0 st a W)(e4:st.t[4]? = some (.own 0))(em:st.m=[some (kZ o)])(hl:o.length≤1000):bCv Tryz.prog (o,a.tmps.getD 4 undef) V W:=by
 obtain ⟨⟨C,hS,hM,hF,_⟩,_⟩:=h
 refine ⟨hl,C,em ▸ hM,em ▸ hS.at e4,fun b hb => ?_⟩
 rcases hF.new 0 (kZ o) b (by rw [em];rfl) rfl hb with h | ⟨i,o',h,_⟩
 ·exact h
 ·simp at h
theorem aPv{n:Nat}(h:n≤1152921504606846977):inR (n:Int):=by unfold inR;omega
theorem bCs{n:Nat}(h:n≤60):(2:Nat) ^ n≤1152921504606846976:=Nat.le_trans (Nat.pow_le_pow_right (by omega) h) (by decide)
theorem aWx(q:List Int)(s:Nat)(h:s<2 ^ q.length):(iZ q).take (s+1)=(iZ q).take s++[gV q s q.length]:=by
 rw [List.take_add_one]
 congr 1
 unfold iZ
 rw [List.getElem?_map,List.getElem?_range h];rfl
theorem tQ(q:List Int):(iZ q).length=2 ^ q.length:=by unfold iZ;simp
set_option maxHeartbeats 2000000 in
theorem aWy{F:Nat→Prop}{q:List Int}(hq:q.length≤60){l:Nat}{v0:Value}{w:World}(hF:∀ b,F b→b<w.heap.size)(hr:Rep (cxF F) [] w (.rp [aJ q] 0) v0){a:Act}(ha:a.tmps.size=35)(ha0:a.tmps.getD 0 undef = .func (.yield l) #[] #[])(ha1:a.tmps.getD 1 undef=v0)(had:a.defers=[])
  {J Jx:List (List Int × Value)→World→Prop} (hJ:AbidesFrom w.heap.size J) (hJx:AbidesFrom w.heap.size Jx)
  (hY:∀ pre x W0 W1,J pre W0→W0.grownBy W1 none→bCv Tryz.prog x W0 W1→pre.length<2 ^ q.length→YieldAt (Fen none) 1 Tryz.prog l #[x.2] W1 fun e W' =>
   (e = .returned (.bool true)∧J (pre++[x]) W'∧KpG F W0 W')∨(e = .returned (.bool false)∧Jx (pre++[x]) W'))
  (h0:J [] w) {R:Ending→World→Prop} (hR:∀ W',((∃ xs:List (List Int × Value),xs.map (·.1)=iZ q∧J xs W')∨(∃ pre:List (List Int × Value),pre.map (·.1) <+: iZ q∧Jx pre W'))→R (.returned (.tuple #[])) W') :
  cO.wpIn (Fen none) 2 Tryz.prog (bodyPost Tryz.prog Tryz.f182 R) a w:=by
 have hpow:=bCs hq
 obtain ⟨N,hN⟩:∃ N,2 ^ q.length=N:=⟨_,rfl⟩
 rw [hN] at hpow
 have c0 : cO = .seq (sub cO [0]) (.block 0 (.loop (.seq (sub cO [1, 0, 0, 0]) (.seq (.cond (.tmp 10) .skip (.exit 0)) (.seq (.block 1 (.seq (sub cO [1, 0, 0, 1, 1, 0, 0, 0]) (.seq (sub cO [1, 0, 0, 1, 1, 0, 0, 1, 0]) (.seq (.seq (sub cO [1, 0, 0, 1, 1, 0, 0, 1, 1, 0, 0]) (.block 2 (.loop (sub cO [1, 0, 0, 1, 1, 0, 0, 1, 1, 0, 1, 0, 0])))) (.seq (.region 10 #[{ dst := some 30, op := .move (.tmp 0), type := 155, pos := "outcome.go:38", after := #[], guard := none }, { dst := some 31, op := .move (.tmp 4), type := 33, pos := "outcome.go:38", after := #[], guard := none }, { dst := some 32, op := .call { callee := .value (.tmp 30), args := #[.tmp 31], argTypes := #[33] }, type := 4, pos := "outcome.go:38", after := #[{ on := 0, ground := .data }, { on := 1, ground := .data }], guard := none }, { dst := some 33, op := .unOp .not 4 (.tmp 32), type := 4, pos := "outcome.go:38", after := #[{ on := 2, ground := .data }], guard := none }] false) (.cond (.tmp 33) .ret .skip)))))) (sub cO [1, 0, 0, 1, 1, 1])))))) := by kernel_rfl
 rw [c0]
 have hsame:∀ {W'},KpG F w W'→Rep (cxF F) [] W' (.rp [aJ q] 0) v0:=fun hk=>by
  cases hr with
  | rp _ _ b o us h1 h2 h3 =>
   exact .rp _ _ b o us (fun i hi=>⟨(h1 i hi).1,(eL (hk.same b (h1 i hi).1) _).trans (h1 i hi).2⟩) (fun i hi=>(h2 i hi).mono (fun _ h=>h) hk.same) h3
 have hFw:∀ {W'},KpG F w W'→∀ b,F b→b<W'.heap.size:=fun hk b hb=>Nat.lt_of_lt_of_le (hF b hb) hk.size
 have n8e:(1:Int)*2 ^ ((q.length:Int).toNat)=(N:Int):=by
  rw [Int.toNat_natCast,Int.one_mul,← hN];push_cast;rfl
 have hI0:InK (cxF F) w v0 ⟨fr 35 [(0,.yld l),(1,.rp [aJ q] 0)],[]⟩ a w:=by
  refine ⟨⟨cxF F,aIt ha ?_,aPu hF,Fr.refl _ _ _,by rw [had];exact .nil rfl (mT rfl)⟩,ha1,had⟩
  intro p hp
  simp only [List.mem_cons,List.not_mem_nil,or_false] at hp
  rcases hp with rfl | rfl
  ·rw [ha0];exact .yld l
  ·rw [ha1];exact hr
 refine wpIn_seq ?_
 refine InK.step (bIg (l:=l) (q:=q) ⟨by omega,by omega,rfl⟩ (by rw [n8e];exact aPv (by omega))) (by kernel_rfl) hI0 fun a1 w1 h1 => ?_
 rw [n8e] at h1
 refine wpIn_block ?_
 refine wpIn_loop_ghost (fun k a W=>∃ s,s≤N∧k=N-s∧Lp l v0 (N:Int) s a∧KpG F w W∧∃ pre:List (List Int × Value),pre.map (·.1)=(iZ q).take s∧J pre W) (N)
  ⟨0,by omega,by omega,h1.lp (s:=0) (by rfl) (by rfl) (by rfl) (by rfl),h1.kp hF,[],by simp,hJ [] w w1 none h0 h1.grown (fun r e=>by cases e)⟩ ?_
 rintro k a W ⟨s,hs,rfl,hL,hK,pre,hpre,hJp⟩
 have hI:=hL.ink (hFw hK) (hsame hK)
 have grow:∀ {W0 W':World} {ys},KpG F w W0→J ys W0→W0.grownBy W' none→J ys W':=fun hk hj hg=>hJ _ _ _ none hj hg (fun r e=>by cases e)
 refine wpIn_seq ?_
 refine InK.step bIh (by kernel_rfl) hI fun a2 w2 h2 => ?_
 have hc10:a2.eval (.tmp 10) = .bool (decide ((s:Int)<(N:Int))):=by
  obtain ⟨⟨C2,hS2,_⟩,_⟩:=id h2
  have:=sE hS2 10 (by omega)
  show a2.tmps.getD 10 undef=_
  revert this
  generalize a2.tmps.getD 10 undef=u
  intro this
  have h3:Rep C2 _ w2 (.p (.v (.bool (decide ((s:Int)<(N:Int)))))) u:=this
  cases h3 with
  | p _ _ h=>cases h;rfl
 refine wpIn_seq ?_
 by_cases hlt:s<N
 ·refine wpIn_cond_true (by rw [hc10,decide_eq_true (by omega)]) (wpIn_skip ?_)
  show Code.wpIn _ _ _ _ _ _ _
  have h2':InK (cxF F) W v0 (stA l q (N:Int) s) a2 w2:=⟨(eO (g:=⟨[10],[],[],[]⟩) (k:=0) (Nat.le_refl _) (by kernel_rfl) h2.1),h2.2⟩
  refine wpIn_seq ?_
  refine wpIn_block ?_
  refine wpIn_seq ?_
  refine InK.step bIi (by kernel_rfl) h2' fun a3 w3 h3 => ?_
  refine wpIn_seq ?_
  refine InK.step bIj (by kernel_rfl) h3 fun a4 w4 h4 => ?_
  refine wpIn_seq ?_
  refine wpIn_seq ?_
  refine InK.step bIk (by kernel_rfl) h4 fun a5 w5 h5 => ?_
  refine bCt hq (by omega) h5 fun a6 w6 h6 => ?_
  refine wpIn_seq ?_
  have hL6:Lp l v0 (N:Int) s a6:=h6.lp (s:=s) (by rfl) (by rfl) (by rfl) (by rfl)
  have hpl:pre.length=s:=by
   have:=congrArg List.length hpre
   rw [List.length_map,List.length_take,tQ,hN] at this
   omega
  have hrow:bCv Tryz.prog (gV q s q.length,a6.tmps.getD 4 undef) W w6:=h6.rowH (by rfl) (by rfl) (Nat.le_trans (aIu q s q.length) (by omega))
  have hmap:(pre++[(gV q s q.length,a6.tmps.getD 4 undef)]).map (·.1)=(iZ q).take (s+1):=by
   rw [aWx q s (hN ▸ hlt),List.map_append,hpre];rfl
  refine aFg hL6.size hL6.s0 rfl (hY pre _ W w6 hJp h6.grown hrow (by omega)) (A:=fun W'=>J (pre++[(gV q s q.length,a6.tmps.getD 4 undef)]) W'∧KpG F W W') (B:=fun W'=>Jx (pre++[(gV q s q.length,a6.tmps.getD 4 undef)]) W') ?_ ?_
  ·rintro a7 w7 ⟨hj7,hk7⟩ hd7 hs7 hl7 h33
   refine wpIn_cond_false h33 (wpIn_skip ?_)
   show Code.wpIn _ _ _ _ _ _ _
   have hL7:Lp l v0 (N:Int) s a7:=⟨hs7,(hl7 0 (by omega)).trans hL6.s0,(hl7 1 (by omega)).trans hL6.s1,(hl7 8 (by omega)).trans hL6.s8,(hl7 9 (by omega)).trans hL6.s9,hd7.trans hL6.df⟩
   have hK7:=hK.trans hk7
   refine InK.step (bIq (aPv (by omega))) (by kernel_rfl) (hL7.ink (hFw hK7) (hsame hK7)) fun a8 w8 h8 => ?_
   exact ⟨N-(s+1),by omega,s+1,by omega,rfl,h8.lp (by rfl) (by rfl) (by rfl) (by rfl),hK7.trans (h8.kp (hFw hK7)),_,hmap,grow hK7 hj7 h8.grown⟩
  ·rintro a7 w7 hj7 hd7 h33
   refine wpIn_cond_true h33 (wpIn_ret ?_)
   exact bodyPost_ret (results_none rfl _ _ _) (hd7.trans hL6.df) (hR _ (.inr ⟨_,by rw [hmap];exact List.take_prefix _ _,hj7⟩))
 ·have hsN:s=N:=by omega
  subst hsN
  refine wpIn_cond_false (by rw [hc10,decide_eq_false (by omega)]) (wpIn_exit ?_)
  have hL2:Lp l v0 (s:Int) s a2:=h2.lp (by rfl) (by rfl) (by rfl) (by rfl)
  show Exit.inBlock 0 (bodyPost Tryz.prog Tryz.f182 R) (.exit 0) a2 w2
  unfold Exit.inBlock
  dsimp only
  rw [if_pos rfl]
  refine ⟨hL2.df,_,results_none rfl _ _ _,hR _ (.inl ⟨pre,?_,grow hK hJp h2.grown⟩)⟩
  rw [hpre,← hN,← tQ,List.take_length]
theorem bTs{C:Cx}{M:Mem}{w:World}{cs:List PV}{k:Nat}{u:Value}(h:Rep C M w (.rp cs k) u):Rep (cxF C.F) [] w (.rp cs k) u:=by
 cases h with
 | rp _ _ b o us h1 h2 h3=>exact .rp _ _ b o us h1 h2 h3
theorem bTt{F:Nat→Prop}{w W:World}{cs:List PV}{k:Nat}{u:Value}(h:Rep (cxF F) [] w (.rp cs k) u)(hk:KpG F w W):Rep (cxF F) [] W (.rp cs k) u:=by
 cases h with
 | rp _ _ b o us h1 h2 h3=>exact .rp _ _ b o us (fun i hi=>⟨(h1 i hi).1,(eL (hk.same b (h1 i hi).1) _).trans (h1 i hi).2⟩) (fun i hi=>(h2 i hi).mono (fun _ h=>h) hk.same) h3
theorem aWz(y v0:Value)(k:Nat):(#[y] ++ #[v0]++Array.replicate k undef).size=2+k∧(#[y] ++ #[v0]++Array.replicate k undef).getD 0 undef=y∧(#[y] ++ #[v0]++Array.replicate k undef).getD 1 undef=v0:=by
 refine ⟨by simp,?_,?_⟩ <;> simp [Array.getD_eq_getD_getElem?,Array.getElem?_append]
theorem aDb(q:List Int)(hq:q.length≤60):bKm Tryz.prog (.fn 182 [] [.rp [aJ q] 0]) 182 (2 ^ q.length) (iZ q):=fun C M w u hu0 hFs=>by
 cases hu0 with
 | fn _ _ _ us vs h1 h2 h3 h4 =>
  obtain rfl:us = #[]:=by simpa using h1
  have q0:=h4 0 (by simp)
  simp only [List.getElem_cons_zero] at q0
  obtain ⟨v0,rfl⟩:∃ v0,vs = #[v0]:=by
   have:vs.toList.length=1:=by simpa using h2
   match hv:vs.toList,this with
   | [x0],_=>exact ⟨x0,by rw [← hv]⟩
  change Rep C M w (.rp [aJ q] 0) v0 at q0
  have hr:=bTs q0
  refine ⟨#[v0],rfl,fun l J Jx W hW hJ hJx hY h0 => ?_⟩
  have hk:KpG C.F w W:=⟨hW.size,fun b hb=>hW.block b (hFs b hb)⟩
  have hr':=bTt hr hk
  refine callsIn_of_wp Tryz.func182 rfl trivial ?_ rfl
  obtain ⟨k1,k2,k3⟩:=aWz (.func (.yield l) #[] #[]) v0 (Tryz.f182.ntmps-(#[Value.func (.yield l) #[] #[]] ++ #[v0]).size)
  exact aWy hq (fun b hb=>Nat.lt_of_lt_of_le (hFs b hb) hW.size) hr' (a:={ tmps := #[.func (.yield l) #[] #[]] ++ #[v0]++Array.replicate (Tryz.f182.ntmps-(#[Value.func (.yield l) #[] #[]] ++ #[v0]).size) undef,defers:=[] }) k1 k2 k3 rfl hJ hJx hY h0 fun W' h=>⟨⟨_,rfl⟩,h⟩
end KV
end Go.Proofs
end
namespace Go.Proofs
namespace KV
section

noncomputable abbrev mL:Code:=sub (cd Tryz.f129) [1,0,1,0,0]
noncomputable abbrev mM:Code:=sub (cd Tryz.f54) [1,1,1,0,1,0,0]
theorem bCp:((-1:Int) == (-1:Int))=true:=by first | decide | simp
theorem aMl{q:List Int}{base:Nat}:FV Tryz.prog 132 [(.p (aJ q))] base (.fn 182 [] [(.rp [(aJ q)] 0)]) []:=by
 exact FV.fin Tryz.func132 rfl (o:=[.g 3 ⟨[],[],[0],[]⟩]) (l:=[]) (by kernel_rfl) (gn)
abbrev bCq(dl:Int)(sk dc:List (List Int))(x:List Int)(r:Int):Prop:=∀ base:Nat,FV Tryz.prog 128 [pS dl sk dc,.p (.agg (x.map aA))] base (.p (aA r)) []
theorem bQn{n dl:Int}{sk dc:List (List Int)}{bib tm y0 y1 y2 y3 y4 y5 r6:Int}{r0:Bool}(h0:cJ .i64 (atF dc.reverse) (.int .i64 n))(h1:(dO (atF dc.reverse) (.int .i64 n))=true)(h2:fD (atF dc.reverse) (.int .i64 n)=some (dcE y0 y1 y2 y3 y4 y5))(h3:bCq dl sk dc [y0,y1,y2,y3,y4,y5] r6)(er0:r0=(r6 != bib)){base:Nat}:FV Tryz.prog 189 [(.p (aA n)),(.rp [(PV.rp (aK dl sk dc) 0)] 0),(.rp [(aA bib),(aA tm)] 0)] base (.p (blP r0)) []:=by
 subst er0
 exact FV.fin Tryz.func189 rfl (o:=[.x (PV.rp (aK dl sk dc) 0),.x (PV.rp (aK dl sk dc) 0),.x (.mp (atF dc.reverse)),bT,.x (dcE y0 y1 y2 y3 y4 y5),.c (.p (aA r6)) [],.x (aA bib)]) (l:=[[(aA bib),(aA tm)][0]? = some (aA bib),FC Tryz.prog 128 [(.rp (aK dl sk dc) 0),(.p (dcE y0 y1 y2 y3 y4 y5))] [] 0 (.p (aA r6)) [],_,_,_,(aK dl sk dc)[3]? = some (.mp (atF dc.reverse)),[(PV.rp (aK dl sk dc) 0)][0]? = some (PV.rp (aK dl sk dc) 0),[(PV.rp (aK dl sk dc) 0)][0]? = some (PV.rp (aK dl sk dc) 0)]) (by kernel_rfl) (gc rfl (gc (FV.fc (h3 _) rfl) (gc h2 (gc h1 (gc h0 (gc rfl (gc rfl (gc rfl gn))))))))
theorem bQo{n m:Int}{r0:Bool}(er0:r0=(n == m)){base:Nat}:FV Tryz.prog 133 [(.p (aA n)),(.rp [(aA m)] 0)] base (.p (blP r0)) []:=by
 subst er0
 exact FV.fin Tryz.func133 rfl (o:=[.x (aA m)]) (l:=[[(aA m)][0]? = some (aA m)]) (by kernel_rfl) (gc rfl gn)
abbrev bCr(dl:Int)(sk dc:List (List Int)):PV := .rp (aK dl sk dc) 0
abbrev aMm(dl:Int)(sk dc:List (List Int))(bib tm n:Int)(b:Bool):Prop:=∀ base:Nat,FV Tryz.prog 189 [.p (aA n),.rp [bCr dl sk dc] 0,.rp [aA bib,aA tm] 0] base (.p (blP b)) []
theorem aFf(n m:Int){base:Nat}:FV Tryz.prog 133 [.p (aA n),.rp [aA m] 0] base (.p (blP (n == m))) []:=bQo rfl
def fO(l:List Int)(dl:Int)(sk:List (List Int))(dc:List (List Int))(bib:Int)(tm:Int)(i:Nat):St:=⟨fr 19 [(0,(.own 0)),(1,(.fn 189 [] [(.rp [(PV.rp (aK dl sk dc) 0)] 0),(.rp [(aA bib),(aA tm)] 0)])),(7,(.p (aA (l.length:Int)))),(8,(.p (aA (i:Int))))],[some (.row 3 l.length (l.map aA))]⟩
theorem bHz{l:List Int}{dl:Int}{sk dc:List (List Int)}{bib tm:Int}{i'0:Nat}(hl0:aF Tryz.prog 1 mL (fO l dl sk dc bib tm 0) (.exit 0) (fO l dl sk dc bib tm i'0)):FMM Tryz.prog 129 [(.own 0),(.fn 189 [] [(.rp [(PV.rp (aK dl sk dc) 0)] 0),(.rp [(aA bib),(aA tm)] 0)])] [some (.row 3 l.length (l.map aA))] (.p (aA (-1:Int))) [some (.row 3 l.length (l.map aA))]:=by
 exact FMM.fin (k:=1) (g:=⟨[],[],[],[]⟩) rfl Tryz.func129 rfl (o:=[.k 6 ⟨(rng [(2,5),(9,10)]),[],[],[]⟩ (.exit 0) (fO l dl sk dc bib tm i'0)]) (l:=[_]) (by kernel_rfl) (gc hl0.code gn)
theorem bIa{l:List Int}{dl:Int}{sk dc:List (List Int)}{bib tm:Int}{i'0:Nat}(hl0:aF Tryz.prog 1 mL (fO l dl sk dc bib tm 0) .ret (bG (fO l dl sk dc bib tm i'0) [(4,(.p (aA (i'0:Int))))])):FMM Tryz.prog 129 [(.own 0),(.fn 189 [] [(.rp [(PV.rp (aK dl sk dc) 0)] 0),(.rp [(aA bib),(aA tm)] 0)])] [some (.row 3 l.length (l.map aA))] (.p (aA (i'0:Int))) [some (.row 3 l.length (l.map aA))]:=by
 exact FMM.fin (k:=1) (g:=⟨[],[],[],[]⟩) rfl Tryz.func129 rfl (o:=[.k 6 ⟨(rng [(2,5),(9,10)]),[],[],[]⟩ .ret (bG (fO l dl sk dc bib tm i'0) [(4,(.p (aA (i'0:Int))))])]) (l:=[_]) (by kernel_rfl) (gc hl0.code gn)
theorem aMn{l:List Int}{dl:Int}{sk dc:List (List Int)}{bib tm:Int}{i:Nat}{x100:Int}{b101:Bool}(h0:(i:Int)<(l.length:Int))(h1:l[i]? = some x100)(h2:aMm dl sk dc bib tm x100 b101)(h3:b101=true):aC Tryz.prog 1 mL (fO l dl sk dc bib tm i) .ret (bG (fO l dl sk dc bib tm i) [(4,(.p (aA (i:Int))))]):=by
 exact aC.fin (g:=⟨(rng [(2,2),(5,2),(9,10)]),[],[],[]⟩) (o:=[bT,.x (aA x100),.c (.p (blP b101)) [],bT]) (l:=[_,FC Tryz.prog 189 [(.p (aA x100)),(.rp [(PV.rp (aK dl sk dc) 0)] 0),(.rp [(aA bib),(aA tm)] 0)] [] 1 (.p (blP b101)) [],_,_,_]) (by kernel_rfl) (gc h3 (gc (FV.fc (h2 _) rfl) (gc (atm aA h1) (gc (dW (i:=(i:Int)) (Int.natCast_nonneg _) h1) (gc (aL h0) gn)))))
theorem aMo{l:List Int}{dl:Int}{sk dc:List (List Int)}{bib tm:Int}{i:Nat}{x100:Int}{b101:Bool}{i':Nat}(h0:(i:Int)<(l.length:Int))(h1:l[i]? = some x100)(h2:aMm dl sk dc bib tm x100 b101)(h3:b101=false)(h4:inR (((i+1):Nat):Int))(ei':i'=(i+1)):aC Tryz.prog 1 mL (fO l dl sk dc bib tm i) .normal (fO l dl sk dc bib tm i'):=by
 subst ei'
 exact aC.fin (g:=⟨(rng [(2,5),(9,10)]),[],[],[]⟩) (o:=[bT,.x (aA x100),.c (.p (blP b101)) [],bF]) (l:=[_,_,FC Tryz.prog 189 [(.p (aA x100)),(.rp [(PV.rp (aK dl sk dc) 0)] 0),(.rp [(aA bib),(aA tm)] 0)] [] 1 (.p (blP b101)) [],_,_,_]) (by kernel_rfl) (gc h4 (gc h3 (gc (FV.fc (h2 _) rfl) (gc (atm aA h1) (gc (dW (i:=(i:Int)) (Int.natCast_nonneg _) h1) (gc (aL h0) gn))))))
theorem aMp{l:List Int}{dl:Int}{sk dc:List (List Int)}{bib tm:Int}{i:Nat}(h0:(l.length:Int)≤(i:Int)):aC Tryz.prog 1 mL (fO l dl sk dc bib tm i) (.exit 0) (fO l dl sk dc bib tm i):=by
 exact aC.fin (g:=⟨(rng [(2,5),(9,10)]),[],[],[]⟩) (o:=[bF]) (l:=[_]) (by kernel_rfl) (gc (aE h0) gn)
abbrev bIb(l:List Int)(dl:Int)(sk:List (List Int))(dc:List (List Int))(bib:Int)(tm:Int)(i:Int):Prop:=FMM Tryz.prog 129 [.own 0,(.fn 189 [] [(.rp [(PV.rp (aK dl sk dc) 0)] 0),(.rp [(aA bib),(aA tm)] 0)])] [some (.row 3 l.length (l.map aA))] (.p (aA i)) [some (.row 3 l.length (l.map aA))]
def jT(dl:Int)(sk:List (List Int))(dc:List (List Int))(bib:Int)(tm:Int)(cn:Nat)(cc:List PV)(i:Nat)(j:Nat):St:=⟨fr 42 [(0,(.own 0)),(1,(.fn 189 [] [(.rp [(PV.rp (aK dl sk dc) 0)] 0),(.rp [(aA bib),(aA tm)] 0)])),(4,(.p bR)),(5,(.p (aA (i:Int)))),(6,(.p (aA (j:Int))))],[some (.row 3 cn cc)]⟩
theorem bQp{l:List Int}{dl:Int}{sk dc:List (List Int)}{bib tm:Int}{i0:Nat}{c'1:List Int}{i'2 j'3:Nat}{r0c:List PV}(h0:bIb l dl sk dc bib tm (i0:Int))(h1:(i0:Int)≠(-1:Int))(h2:inR (((i0+1):Nat):Int))(hl3:aF Tryz.prog 1 mM (jT dl sk dc bib tm l.length (l.map aA) i0 (i0+1)) (.exit 0) (jT dl sk dc bib tm c'1.length (c'1.map aA) i'2 j'3))(h4:0≤(i'2:Int)∧(i'2:Int)≤(c'1.length:Int)∧(c'1.length:Int)≤(c'1.length:Int))(h5:(i'2*1)+(c'1.length-i'2)≤(c'1.map aA).length)(h6:0≤(0:Int)∧(0:Int)≤(i'2:Int)∧(i'2:Int)≤(c'1.length:Int))(er0c:r0c=((((c'1.map aA).take (i'2*1)++List.replicate (c'1.length-i'2) (PV.v (.int .i64 0))++(c'1.map aA).drop ((i'2*1)+(List.replicate (c'1.length-i'2) (PV.v (.int .i64 0))).length)).drop 0).take (i'2*(((c'1.map aA).take (i'2*1)++List.replicate (c'1.length-i'2) (PV.v (.int .i64 0))++(c'1.map aA).drop ((i'2*1)+(List.replicate (c'1.length-i'2) (PV.v (.int .i64 0))).length)).length / c'1.length)))):FMM Tryz.prog 54 [(.own 0),(.fn 189 [] [(.rp [(PV.rp (aK dl sk dc) 0)] 0),(.rp [(aA bib),(aA tm)] 0)])] [some (.row 3 l.length (l.map aA))] (.p (.sl i'2 r0c)) [some .dead]:=by
 subst er0c
 exact FMM.fin (k:=1) (g:=⟨[],[],[0],[]⟩) rfl Tryz.func54 rfl (o:=[.c (.p (aA (i0:Int))) [(0,(.row 3 l.length (l.map aA)))],bF,.k 4 ⟨(rng [(2,2),(7,29)]),[],[],[]⟩ (.exit 0) (jT dl sk dc bib tm c'1.length (c'1.map aA) i'2 j'3)]) (l:=[_,_,_,_,_,_,FC Tryz.prog 129 [(.own 0),(.fn 189 [] [(.rp [(PV.rp (aK dl sk dc) 0)] 0),(.rp [(aA bib),(aA tm)] 0)])] [(0,(.row 3 l.length (l.map aA)))] 1 (.p (aA (i0:Int))) [(0,(.row 3 l.length (l.map aA)))]]) (by kernel_rfl) (gc h6 (gc h5 (gc h4 (gc hl3.code (gc h2 (gc (aU h1) (gc (FMM.fc (ids:=[0]) h0 (by kernel_rfl)) gn)))))))
theorem bQq{l:List Int}{dl:Int}{sk dc:List (List Int)}{bib tm:Int}(h0:bIb l dl sk dc bib tm (-1:Int)):FMM Tryz.prog 54 [(.own 0),(.fn 189 [] [(.rp [(PV.rp (aK dl sk dc) 0)] 0),(.rp [(aA bib),(aA tm)] 0)])] [some (.row 3 l.length (l.map aA))] (.p (aJ l)) [some .dead]:=by
 exact FMM.fin (k:=1) (g:=⟨[],[],[0],[]⟩) rfl Tryz.func54 rfl (o:=[.c (.p (aA (-1:Int))) [(0,(.row 3 l.length (l.map aA)))],bT]) (l:=[_,FC Tryz.prog 129 [(.own 0),(.fn 189 [] [(.rp [(PV.rp (aK dl sk dc) 0)] 0),(.rp [(aA bib),(aA tm)] 0)])] [(0,(.row 3 l.length (l.map aA)))] 1 (.p (aA (-1:Int))) [(0,(.row 3 l.length (l.map aA)))]]) (by kernel_rfl) (gc bCp (gc (FMM.fc (ids:=[0]) h0 (by kernel_rfl)) gn))
theorem aWr{dl:Int}{sk dc:List (List Int)}{bib tm:Int}{c:List Int}{i j:Nat}{x100:Int}{b101:Bool}{x102:Int}{c':List Int}{i' j':Nat}(h0:(j:Int)<(c.length:Int))(h1:c[j]? = some x100)(h2:aMm dl sk dc bib tm x100 b101)(h3:b101=false)(h4:c[i]? = some x102)(h5:(i*1)<(c.map aA).length)(h6:inR (((i+1):Nat):Int))(h7:inR (((j+1):Nat):Int))(ec'n:c'.length=c.length)(ec'c:c'.map aA=((c.map aA).set (i*1) (aA x100)))(ei':i'=(i+1))(ej':j'=(j+1)):aC Tryz.prog 1 mM (jT dl sk dc bib tm c.length (c.map aA) i j) .normal (jT dl sk dc bib tm c'.length (c'.map aA) i' j'):=by
 subst ei' ej'
 have raw:aC Tryz.prog 1 mM (jT dl sk dc bib tm c.length (c.map aA) i j) .normal (jT dl sk dc bib tm c.length ((c.map aA).set (i*1) (aA x100)) (i+1) (j+1)):=aC.fin (g:=⟨(rng [(2,2),(7,29)]),[],[],[]⟩) (o:=[bT,.x (aA x100),.c (.p (blP b101)) [],bT]) (l:=[_,_,_,_,_,FC Tryz.prog 189 [(.p (aA x100)),(.rp [(PV.rp (aK dl sk dc) 0)] 0),(.rp [(aA bib),(aA tm)] 0)] [] 1 (.p (blP b101)) [],_,_,_]) (by kernel_rfl) (gc h7 (gc h6 (gc h5 (gc (dW (i:=(i:Int)) (Int.natCast_nonneg _) h4) (gc (bI h3) (gc (FV.fc (h2 _) rfl) (gc (atm aA h1) (gc (dW (i:=(j:Int)) (Int.natCast_nonneg _) h1) (gc (aL h0) gn)))))))))
 exact raw.cast (by rw [ec'n,ec'c])
theorem aWs{dl:Int}{sk dc:List (List Int)}{bib tm:Int}{c:List Int}{i j:Nat}{x100:Int}{b101:Bool}{j':Nat}(h0:(j:Int)<(c.length:Int))(h1:c[j]? = some x100)(h2:aMm dl sk dc bib tm x100 b101)(h3:b101=true)(h4:inR (((j+1):Nat):Int))(ej':j'=(j+1)):aC Tryz.prog 1 mM (jT dl sk dc bib tm c.length (c.map aA) i j) .normal (jT dl sk dc bib tm c.length (c.map aA) i j'):=by
 subst ej'
 exact aC.fin (g:=⟨(rng [(2,2),(7,29)]),[],[],[]⟩) (o:=[bT,.x (aA x100),.c (.p (blP b101)) [],bF]) (l:=[_,_,FC Tryz.prog 189 [(.p (aA x100)),(.rp [(PV.rp (aK dl sk dc) 0)] 0),(.rp [(aA bib),(aA tm)] 0)] [] 1 (.p (blP b101)) [],_,_,_]) (by kernel_rfl) (gc h4 (gc (aI h3) (gc (FV.fc (h2 _) rfl) (gc (atm aA h1) (gc (dW (i:=(j:Int)) (Int.natCast_nonneg _) h1) (gc (aL h0) gn))))))
theorem aWt{dl:Int}{sk dc:List (List Int)}{bib tm:Int}{c:List Int}{i j:Nat}(h0:(c.length:Int)≤(j:Int)):aC Tryz.prog 1 mM (jT dl sk dc bib tm c.length (c.map aA) i j) (.exit 0) (jT dl sk dc bib tm c.length (c.map aA) i j):=by
 exact aC.fin (g:=⟨(rng [(2,2),(7,29)]),[],[],[]⟩) (o:=[bF]) (l:=[_]) (by kernel_rfl) (gc (aE h0) gn)
def fP(l:List Int)(m:Int)(i:Nat):St:=⟨fr 19 [(0,(.own 0)),(1,(.fn 133 [] [(.rp [(aA m)] 0)])),(7,(.p (aA (l.length:Int)))),(8,(.p (aA (i:Int))))],[some (.row 3 l.length (l.map aA))]⟩
theorem bIc{l:List Int}{m:Int}{i'0:Nat}(hl0:aF Tryz.prog 1 mL (fP l m 0) (.exit 0) (fP l m i'0)):FMM Tryz.prog 129 [(.own 0),(.fn 133 [] [(.rp [(aA m)] 0)])] [some (.row 3 l.length (l.map aA))] (.p (aA (-1:Int))) [some (.row 3 l.length (l.map aA))]:=by
 exact FMM.fin (k:=1) (g:=⟨[],[],[],[]⟩) rfl Tryz.func129 rfl (o:=[.k 6 ⟨(rng [(2,5),(9,10)]),[],[],[]⟩ (.exit 0) (fP l m i'0)]) (l:=[_]) (by kernel_rfl) (gc hl0.code gn)
theorem bId{l:List Int}{m:Int}{i'0:Nat}(hl0:aF Tryz.prog 1 mL (fP l m 0) .ret (bG (fP l m i'0) [(4,(.p (aA (i'0:Int))))])):FMM Tryz.prog 129 [(.own 0),(.fn 133 [] [(.rp [(aA m)] 0)])] [some (.row 3 l.length (l.map aA))] (.p (aA (i'0:Int))) [some (.row 3 l.length (l.map aA))]:=by
 exact FMM.fin (k:=1) (g:=⟨[],[],[],[]⟩) rfl Tryz.func129 rfl (o:=[.k 6 ⟨(rng [(2,5),(9,10)]),[],[],[]⟩ .ret (bG (fP l m i'0) [(4,(.p (aA (i'0:Int))))])]) (l:=[_]) (by kernel_rfl) (gc hl0.code gn)
theorem aMq{l:List Int}{m:Int}{i:Nat}{x100:Int}(h0:(i:Int)<(l.length:Int))(h1:l[i]? = some x100)(h2:(x100 == m)=true):aC Tryz.prog 1 mL (fP l m i) .ret (bG (fP l m i) [(4,(.p (aA (i:Int))))]):=by
 exact aC.fin (g:=⟨(rng [(2,2),(5,2),(9,10)]),[],[],[]⟩) (o:=[bT,.x (aA x100),.c (.p (blP (x100 == m))) [],bT]) (l:=[_,_,_,_,_]) (by kernel_rfl) (gc h2 (gc (fk 1 (aFf x100 m) rfl) (gc (atm aA h1) (gc (dW (i:=(i:Int)) (Int.natCast_nonneg _) h1) (gc (aL h0) gn)))))
theorem aMr{l:List Int}{m:Int}{i:Nat}{x100:Int}{i':Nat}(h0:(i:Int)<(l.length:Int))(h1:l[i]? = some x100)(h2:(x100 == m)=false)(h3:inR (((i+1):Nat):Int))(ei':i'=(i+1)):aC Tryz.prog 1 mL (fP l m i) .normal (fP l m i'):=by
 subst ei'
 exact aC.fin (g:=⟨(rng [(2,5),(9,10)]),[],[],[]⟩) (o:=[bT,.x (aA x100),.c (.p (blP (x100 == m))) [],bF]) (l:=[_,_,_,_,_,_]) (by kernel_rfl) (gc h3 (gc h2 (gc (fk 1 (aFf x100 m) rfl) (gc (atm aA h1) (gc (dW (i:=(i:Int)) (Int.natCast_nonneg _) h1) (gc (aL h0) gn))))))
theorem aMs{l:List Int}{m:Int}{i:Nat}(h0:(l.length:Int)≤(i:Int)):aC Tryz.prog 1 mL (fP l m i) (.exit 0) (fP l m i):=by
 exact aC.fin (g:=⟨(rng [(2,5),(9,10)]),[],[],[]⟩) (o:=[bF]) (l:=[_]) (by kernel_rfl) (gc (aE h0) gn)
abbrev bIe(l:List Int)(m:Int)(i:Int):Prop:=FMM Tryz.prog 129 [.own 0,(.fn 133 [] [(.rp [(aA m)] 0)])] [some (.row 3 l.length (l.map aA))] (.p (aA i)) [some (.row 3 l.length (l.map aA))]
def jU(m:Int)(cn:Nat)(cc:List PV)(i:Nat)(j:Nat):St:=⟨fr 42 [(0,(.own 0)),(1,(.fn 133 [] [(.rp [(aA m)] 0)])),(4,(.p bR)),(5,(.p (aA (i:Int)))),(6,(.p (aA (j:Int))))],[some (.row 3 cn cc)]⟩
theorem bQr{l:List Int}{m:Int}{i0:Nat}{c'1:List Int}{i'2 j'3:Nat}{r0c:List PV}(h0:bIe l m (i0:Int))(h1:(i0:Int)≠(-1:Int))(h2:inR (((i0+1):Nat):Int))(hl3:aF Tryz.prog 1 mM (jU m l.length (l.map aA) i0 (i0+1)) (.exit 0) (jU m c'1.length (c'1.map aA) i'2 j'3))(h4:0≤(i'2:Int)∧(i'2:Int)≤(c'1.length:Int)∧(c'1.length:Int)≤(c'1.length:Int))(h5:(i'2*1)+(c'1.length-i'2)≤(c'1.map aA).length)(h6:0≤(0:Int)∧(0:Int)≤(i'2:Int)∧(i'2:Int)≤(c'1.length:Int))(er0c:r0c=((((c'1.map aA).take (i'2*1)++List.replicate (c'1.length-i'2) (PV.v (.int .i64 0))++(c'1.map aA).drop ((i'2*1)+(List.replicate (c'1.length-i'2) (PV.v (.int .i64 0))).length)).drop 0).take (i'2*(((c'1.map aA).take (i'2*1)++List.replicate (c'1.length-i'2) (PV.v (.int .i64 0))++(c'1.map aA).drop ((i'2*1)+(List.replicate (c'1.length-i'2) (PV.v (.int .i64 0))).length)).length / c'1.length)))):FMM Tryz.prog 54 [(.own 0),(.fn 133 [] [(.rp [(aA m)] 0)])] [some (.row 3 l.length (l.map aA))] (.p (.sl i'2 r0c)) [some .dead]:=by
 subst er0c
 exact FMM.fin (k:=1) (g:=⟨[],[],[0],[]⟩) rfl Tryz.func54 rfl (o:=[.c (.p (aA (i0:Int))) [(0,(.row 3 l.length (l.map aA)))],bF,.k 4 ⟨(rng [(2,2),(7,29)]),[],[],[]⟩ (.exit 0) (jU m c'1.length (c'1.map aA) i'2 j'3)]) (l:=[_,_,_,_,_,_,FC Tryz.prog 129 [(.own 0),(.fn 133 [] [(.rp [(aA m)] 0)])] [(0,(.row 3 l.length (l.map aA)))] 1 (.p (aA (i0:Int))) [(0,(.row 3 l.length (l.map aA)))]]) (by kernel_rfl) (gc h6 (gc h5 (gc h4 (gc hl3.code (gc h2 (gc (aU h1) (gc (FMM.fc (ids:=[0]) h0 (by kernel_rfl)) gn)))))))
theorem bQs{l:List Int}{m:Int}(h0:bIe l m (-1:Int)):FMM Tryz.prog 54 [(.own 0),(.fn 133 [] [(.rp [(aA m)] 0)])] [some (.row 3 l.length (l.map aA))] (.p (aJ l)) [some .dead]:=by
 exact FMM.fin (k:=1) (g:=⟨[],[],[0],[]⟩) rfl Tryz.func54 rfl (o:=[.c (.p (aA (-1:Int))) [(0,(.row 3 l.length (l.map aA)))],bT]) (l:=[_,FC Tryz.prog 129 [(.own 0),(.fn 133 [] [(.rp [(aA m)] 0)])] [(0,(.row 3 l.length (l.map aA)))] 1 (.p (aA (-1:Int))) [(0,(.row 3 l.length (l.map aA)))]]) (by kernel_rfl) (gc bCp (gc (FMM.fc (ids:=[0]) h0 (by kernel_rfl)) gn))
theorem aWu{m:Int}{c:List Int}{i j:Nat}{x100 x101:Int}{c':List Int}{i' j':Nat}(h0:(j:Int)<(c.length:Int))(h1:c[j]? = some x100)(h2:(x100 == m)=false)(h3:c[i]? = some x101)(h4:(i*1)<(c.map aA).length)(h5:inR (((i+1):Nat):Int))(h6:inR (((j+1):Nat):Int))(ec'n:c'.length=c.length)(ec'c:c'.map aA=((c.map aA).set (i*1) (aA x100)))(ei':i'=(i+1))(ej':j'=(j+1)):aC Tryz.prog 1 mM (jU m c.length (c.map aA) i j) .normal (jU m c'.length (c'.map aA) i' j'):=by
 subst ei' ej'
 have raw:aC Tryz.prog 1 mM (jU m c.length (c.map aA) i j) .normal (jU m c.length ((c.map aA).set (i*1) (aA x100)) (i+1) (j+1)):=aC.fin (g:=⟨(rng [(2,2),(7,29)]),[],[],[]⟩) (o:=[bT,.x (aA x100),.c (.p (blP (x100 == m))) [],bT]) (l:=[_,_,_,_,_,_,_,_,_]) (by kernel_rfl) (gc h6 (gc h5 (gc h4 (gc (dW (i:=(i:Int)) (Int.natCast_nonneg _) h3) (gc (bI h2) (gc (fk 1 (aFf x100 m) rfl) (gc (atm aA h1) (gc (dW (i:=(j:Int)) (Int.natCast_nonneg _) h1) (gc (aL h0) gn)))))))))
 exact raw.cast (by rw [ec'n,ec'c])
theorem aWv{m:Int}{c:List Int}{i j:Nat}{x100:Int}{j':Nat}(h0:(j:Int)<(c.length:Int))(h1:c[j]? = some x100)(h2:(x100 == m)=true)(h3:inR (((j+1):Nat):Int))(ej':j'=(j+1)):aC Tryz.prog 1 mM (jU m c.length (c.map aA) i j) .normal (jU m c.length (c.map aA) i j'):=by
 subst ej'
 exact aC.fin (g:=⟨(rng [(2,2),(7,29)]),[],[],[]⟩) (o:=[bT,.x (aA x100),.c (.p (blP (x100 == m))) [],bF]) (l:=[_,_,_,_,_,_]) (by kernel_rfl) (gc h3 (gc (aI h2) (gc (fk 1 (aFf x100 m) rfl) (gc (atm aA h1) (gc (dW (i:=(j:Int)) (Int.natCast_nonneg _) h1) (gc (aL h0) gn))))))
theorem aWw{m:Int}{c:List Int}{i j:Nat}(h0:(c.length:Int)≤(j:Int)):aC Tryz.prog 1 mM (jU m c.length (c.map aA) i j) (.exit 0) (jU m c.length (c.map aA) i j):=by
 exact aC.fin (g:=⟨(rng [(2,2),(7,29)]),[],[],[]⟩) (o:=[bF]) (l:=[_]) (by kernel_rfl) (gc (aE h0) gn)
end
section
structure wX (p:Int→Bool) (l:List Int) (j:Nat) (x:List Int × Nat):Prop where
 len:x.1.length=l.length
 le:x.2<j
 kept:x.1.take x.2=(l.take j).filter fun n => !p n
 rest:x.1.drop j=l.drop j
theorem wX.skip{p:Int→Bool}{l:List Int}{j:Nat}{x:List Int × Nat}(h:wX p l j x)(hj:j<l.length){n:Int}(hn:x.1[j]? = some n)(hp:p n=true):wX p l (j+1) x:=by
 have hl:l[j]? = some n:=by
  have:=congrArg (·[0]?) h.rest
  simp only [List.getElem?_drop,Nat.add_zero] at this
  rw [← this];exact hn
 refine ⟨h.len,by have:=h.le;omega,?_,?_⟩
 ·rw [h.kept,List.take_add_one,hl]
  simp [List.filter_append,hp]
 ·rw [← List.drop_drop,h.rest,List.drop_drop]
theorem wX.keep{p:Int→Bool}{l:List Int}{j:Nat}{x:List Int × Nat}(h:wX p l j x)(hj:j<l.length){n:Int}(hn:x.1[j]? = some n)(hp:p n=false):wX p l (j+1) (x.1.set x.2 n,x.2+1):=by
 have hl:l[j]? = some n:=by
  have:=congrArg (·[0]?) h.rest
  simp only [List.getElem?_drop,Nat.add_zero] at this
  rw [← this];exact hn
 have hle:=h.le
 have hlen:=h.len
 refine ⟨by simp [h.len],by simpa using hle,?_,?_⟩
 ·show (x.1.set x.2 n).take (x.2+1)=_
  rw [List.take_add_one,List.take_set_of_le (Nat.le_refl _),h.kept,List.getElem?_set_self (by omega),List.take_add_one,hl]
  simp [List.filter_append,hp]
 ·show (x.1.set x.2 n).drop (j+1)=_
  rw [List.drop_set_of_lt (by omega),← List.drop_drop,h.rest,List.drop_drop]
theorem wX.start{p:Int→Bool}{l:List Int}{i:Nat}{n:Int}(hi:l[i]? = some n)(hp:p n=true)(hb:∀ m∈l.take i,p m=false):wX p l (i+1) (l,i):=by
 refine ⟨rfl,Nat.lt_succ_self _,?_,rfl⟩
 show l.take i=_
 rw [List.take_add_one,hi]
 simp only [List.filter_append]
 rw [List.filter_eq_self.2 fun m hm=>by simp [hb m hm]]
 simp [hp]
theorem wP{p:Int→Bool}{l:List Int}{i:Nat}(h:l.findIdx? p=some i):∀ m∈l.take i,p m=false:=fun m hm=>by
 obtain ⟨hi,h1,h2⟩:=List.findIdx?_eq_some_iff_getElem.1 h
 obtain ⟨j,hj,rfl⟩:=List.getElem_of_mem hm
 rw [List.getElem_take]
 rw [List.length_take] at hj
 have:=h2 j (by omega)
 simpa using this

theorem bHx{l:List Int}{dl:Int}{sk dc:List (List Int)}{bib tm:Int}(hl:l.length≤1000){p:Int→Bool}(hp:∀ n∈l,aMm dl sk dc bib tm n (p n)) :
  (∃ i n,l[i]? = some n∧l.findIdx? p=some i∧p n=true∧bIb l dl sk dc bib tm (i:Int))∨(l.any p=false∧bIb l dl sk dc bib tm (-1)):=by
 rcases aF.find (P:=Tryz.prog) (k:=1) (b:=(sub (cd Tryz.f129) [1,0,1,0,0])) (fun i=>fO l dl sk dc bib tm i) (fun i _=>bG (fO l dl sk dc bib tm i) [(4,.p (aA (i:Int)))]) (fO l dl sk dc bib tm l.length) .ret (.exit 0) (by simp) (by simp) p l
  (fun i x hx hq=>aMo (by have:=aS hx;omega) hx (hp x (List.mem_of_getElem? hx)) hq (aR (by have:=aS hx;omega)) rfl)
  (fun i x hx hq=>aMn (by have:=aS hx;omega) hx (hp x (List.mem_of_getElem? hx)) hq)
  (aMp (by omega)) with ⟨i,x,h1,h2,h3,h4⟩ | ⟨h1,h2,h3⟩
 ·exact .inl ⟨i,x,h1,h2,h3,bIa h4⟩
 ·exact .inr ⟨h2,bHz h3⟩
theorem bQm{l:List Int}{dl:Int}{sk dc:List (List Int)}{bib tm:Int}(hl:l.length≤1000){p:Int→Bool}(hp:∀ n∈l,aMm dl sk dc bib tm n (p n)) :
  FMM Tryz.prog 54 [.own 0,.fn 189 [] [.rp [bCr dl sk dc] 0,.rp [aA bib,aA tm] 0]] [some (.row 3 l.length (l.map aA))] (.p (aJ (l.filter fun n => !p n))) [some .dead]:=by
 rcases bHx hl hp with ⟨i,n,h1,h2,h3,h4⟩ | ⟨h1,h2⟩
 ·have hi:=aS h1
  obtain ⟨d,hm⟩:∃ d,i+1+d=l.length:=⟨l.length-(i+1),by omega⟩
  obtain ⟨⟨c,k⟩,hI,hL⟩:=aF.ex (P:=Tryz.prog) (k:=1) (b:=(sub (cd Tryz.f54) [1,1,1,0,1,0,0])) (e := .exit 0) (fun j (x:List Int × Nat)=>jT dl sk dc bib tm x.1.length (x.1.map aA) x.2 (i+1+j)) (fun x=>jT dl sk dc bib tm x.1.length (x.1.map aA) x.2 l.length) (fun j x=>wX p l (i+1+j) x∧∀ n∈x.1,n∈l) (by simp) d
   (fun j x hj hx=>by
    obtain ⟨hI,hs⟩:=hx
    have hlt:i+1+j<x.1.length:=by rw [hI.len];omega
    have hle:=hI.le
    have hlen:=hI.len
    obtain ⟨y,hy⟩:∃ y,x.1[i+1+j]? = some y:=⟨_,List.getElem?_eq_getElem hlt⟩
    have hyl:=hs y (List.mem_of_getElem? hy)
    cases hq:p y with
    | true=>exact ⟨x,⟨hI.skip (by omega) hy hq,hs⟩,aWs (by omega) hy (hp y hyl) hq (aR (by omega)) rfl⟩
    | false =>
     obtain ⟨z,hz⟩:∃ z,x.1[x.2]? = some z:=⟨_,List.getElem?_eq_getElem (by omega)⟩
     refine ⟨_,⟨hI.keep (by omega) hy hq,fun n hn => ?_⟩,aWr (c:=x.1) (c':=x.1.set x.2 y) (by omega) hy (hp y hyl) hq hz (by rw [List.length_map];omega) (aR (by omega)) (aR (by omega)) (by simp) (by rw [List.map_set,Nat.mul_one]) rfl rfl⟩
     rcases List.mem_or_eq_of_mem_set hn with h | rfl
     ·exact hs n h
     ·exact hyl)
   (fun x hx=>by
    have:=aWt (dl:=dl) (sk:=sk) (dc:=dc) (bib:=bib) (tm:=tm) (c:=x.1) (i:=x.2) (j:=l.length) (by rw [hx.1.len];omega)
    rw [show i+1+d=l.length from hm];exact this)
   (acc:=(l,i)) ⟨wX.start h1 h3 (wP h2),fun n h=>h⟩
  obtain ⟨hI,_⟩:=hI
  have hlen:=hI.len
  have hle:=hI.le
  have hk:=hI.kept
  simp only [hm,List.take_length] at hlen hle hk
  have fin:=bQp (l:=l) (c'1:=c) (i'2:=k) (j'3:=l.length) (r0c:=(c.take k).map aA) h4 (by omega) (aR (by omega)) hL ⟨by omega,by omega,by omega⟩ (by rw [List.length_map];omega) ⟨by omega,by omega,by omega⟩ (by
   rw [List.drop_zero,Nat.mul_one,List.length_replicate]
   have hL2:(((c.map aA).take k)++List.replicate (c.length-k) (PV.v (.int .i64 0))++(c.map aA).drop (k+(c.length-k))).length=c.length:=by
    simp only [List.length_append,List.length_take,List.length_map,List.length_replicate,List.length_drop];omega
   rw [hL2,Nat.div_self (by omega),Nat.mul_one,List.append_assoc,List.take_append_of_le_length (by rw [List.length_take,List.length_map];omega),List.take_take,Nat.min_self,List.map_take])
  rw [← hk]
  have e:aJ (c.take k) = .sl k ((c.take k).map aA):=by
   show PV.sl (c.take k).length _=_
   rw [List.length_take,Nat.min_eq_left (by omega)]
  rw [e];exact fin
 ·have:(l.filter fun n => !p n)=l:=List.filter_eq_self.2 fun n hn=>by
   have:=List.any_eq_false.1 h1 n hn
   simpa using this
  rw [this]
  exact bQq h2

theorem bHy{l:List Int}{m:Int}(hl:l.length≤1000){p:Int→Bool}(hp:∀ n∈l,p n=(n == m)) :
  (∃ i n,l[i]? = some n∧l.findIdx? p=some i∧p n=true∧bIe l m (i:Int))∨(l.any p=false∧bIe l m (-1)):=by
 rcases aF.find (P:=Tryz.prog) (k:=1) (b:=(sub (cd Tryz.f129) [1,0,1,0,0])) (fun i=>fP l m i) (fun i _=>bG (fP l m i) [(4,.p (aA (i:Int)))]) (fP l m l.length) .ret (.exit 0) (by simp) (by simp) p l
  (fun i x hx hq=>aMr (by have:=aS hx;omega) hx (by rw [← hp x (List.mem_of_getElem? hx)];exact hq) (aR (by have:=aS hx;omega)) rfl)
  (fun i x hx hq=>aMq (by have:=aS hx;omega) hx (by rw [← hp x (List.mem_of_getElem? hx)];exact hq))
  (aMs (by omega)) with ⟨i,x,h1,h2,h3,h4⟩ | ⟨h1,h2,h3⟩
 ·exact .inl ⟨i,x,h1,h2,h3,bId h4⟩
 ·exact .inr ⟨h2,bIc h3⟩
theorem bCo{l:List Int}{m:Int}(hl:l.length≤1000){p:Int→Bool}(hp:∀ n∈l,p n=(n == m)) :
  FMM Tryz.prog 54 [.own 0,.fn 133 [] [.rp [aA m] 0]] [some (.row 3 l.length (l.map aA))] (.p (aJ (l.filter fun n => !p n))) [some .dead]:=by
 rcases bHy hl hp with ⟨i,n,h1,h2,h3,h4⟩ | ⟨h1,h2⟩
 ·have hi:=aS h1
  obtain ⟨d,hm⟩:∃ d,i+1+d=l.length:=⟨l.length-(i+1),by omega⟩
  obtain ⟨⟨c,k⟩,hI,hL⟩:=aF.ex (P:=Tryz.prog) (k:=1) (b:=(sub (cd Tryz.f54) [1,1,1,0,1,0,0])) (e := .exit 0) (fun j (x:List Int × Nat)=>jU m x.1.length (x.1.map aA) x.2 (i+1+j)) (fun x=>jU m x.1.length (x.1.map aA) x.2 l.length) (fun j x=>wX p l (i+1+j) x∧∀ n∈x.1,n∈l) (by simp) d
   (fun j x hj hx=>by
    obtain ⟨hI,hs⟩:=hx
    have hlt:i+1+j<x.1.length:=by rw [hI.len];omega
    have hle:=hI.le
    have hlen:=hI.len
    obtain ⟨y,hy⟩:∃ y,x.1[i+1+j]? = some y:=⟨_,List.getElem?_eq_getElem hlt⟩
    have hyl:=hs y (List.mem_of_getElem? hy)
    cases hq:p y with
    | true=>exact ⟨x,⟨hI.skip (by omega) hy hq,hs⟩,aWv (by omega) hy (by rw [← hp y hyl];exact hq) (aR (by omega)) rfl⟩
    | false =>
     obtain ⟨z,hz⟩:∃ z,x.1[x.2]? = some z:=⟨_,List.getElem?_eq_getElem (by omega)⟩
     refine ⟨_,⟨hI.keep (by omega) hy hq,fun n hn => ?_⟩,aWu (c:=x.1) (c':=x.1.set x.2 y) (by omega) hy (by rw [← hp y hyl];exact hq) hz (by rw [List.length_map];omega) (aR (by omega)) (aR (by omega)) (by simp) (by rw [List.map_set,Nat.mul_one]) rfl rfl⟩
     rcases List.mem_or_eq_of_mem_set hn with h | rfl
     ·exact hs n h
     ·exact hyl)
   (fun x hx=>by
    have:=aWw (m:=m) (c:=x.1) (i:=x.2) (j:=l.length) (by rw [hx.1.len];omega)
    rw [show i+1+d=l.length from hm];exact this)
   (acc:=(l,i)) ⟨wX.start h1 h3 (wP h2),fun n h=>h⟩
  obtain ⟨hI,_⟩:=hI
  have hlen:=hI.len
  have hle:=hI.le
  have hk:=hI.kept
  simp only [hm,List.take_length] at hlen hle hk
  have fin:=bQr (l:=l) (c'1:=c) (i'2:=k) (j'3:=l.length) (r0c:=(c.take k).map aA) h4 (by omega) (aR (by omega)) hL ⟨by omega,by omega,by omega⟩ (by rw [List.length_map];omega) ⟨by omega,by omega,by omega⟩ (by
   rw [List.drop_zero,Nat.mul_one,List.length_replicate]
   have hL2:(((c.map aA).take k)++List.replicate (c.length-k) (PV.v (.int .i64 0))++(c.map aA).drop (k+(c.length-k))).length=c.length:=by
    simp only [List.length_append,List.length_take,List.length_map,List.length_replicate,List.length_drop];omega
   rw [hL2,Nat.div_self (by omega),Nat.mul_one,List.append_assoc,List.take_append_of_le_length (by rw [List.length_take,List.length_map];omega),List.take_take,Nat.min_self,List.map_take])
  rw [← hk]
  have e:aJ (c.take k) = .sl k ((c.take k).map aA):=by
   show PV.sl (c.take k).length _=_
   rw [List.length_take,Nat.min_eq_left (by omega)]
  rw [e];exact fin
 ·have:(l.filter fun n => !p n)=l:=List.filter_eq_self.2 fun n hn=>by
   have:=List.any_eq_false.1 h1 n hn
   simpa using this
  rw [this]
  exact bQs h2
end
section
open Go.RowKit Go.Lib Go.Shelf
theorem bQk{n:Nat}{x:PV}{r:List PV}{r0n:Nat}{r0c:List PV}(h0:(x::r).length=n*1∧0+n≤1000000)(er0n:r0n=(0+n))(er0c:r0c=(x::r)){base:Nat}:FV Tryz.prog 55 [(.p (.sl n (x::r)))] base (.own base) [(base,(.row 3 r0n r0c))]:=by
 subst er0n er0c
 exact FV.fin Tryz.func55 rfl (o:=[]) (l:=[_]) (by kernel_rfl) (gc h0 gn)
set_option maxHeartbeats 1000000 in
theorem bHw(n c:Nat)(w:World):Calls Tryz.prog 55 #[.slice none n c] w fun e w'=>e = .returned (.slice none 0 0)∧w'=w:=by
 have q33:∀ (w:World) (a:Option Addr) (n c n' c':Nat),(binOp .eql 33 (.slice a n c) (.slice none n' c')).run Tryz.prog w = .ok (.bool a.isNone) w:=fun w a n c n' c'=>Lib.run_eql_slice_nil w _ _ a n c n' c' Tryz.underlying33
 go_enter Tryz.func55,Tryz.ntmps55
 go_wp2
 go_ret
 exact ⟨rfl,rfl⟩
theorem inf3:(Tryz.prog.info? 3).map (fun i=>(i.zero,i.size,i.bytes))=some (some (.int .i64 0),1,8):=by kernel_rfl
set_option maxHeartbeats 2000000 in
theorem bCn(a:Addr)(c:Nat)(w:World):Calls Tryz.prog 55 #[.slice (some a) 0 c] w fun e w'=>∃ v',e = .returned v'∧w'.ownsRow w.heap.size 3 1 v' 0 []∧Below w.heap.size w w':=by
 obtain ⟨i0,hi,hz0,hz1,hz2⟩:=info_parts inf3
 have q33:∀ (w:World) (a:Option Addr) (n c n' c':Nat),(binOp .eql 33 (.slice a n c) (.slice none n' c')).run Tryz.prog w = .ok (.bool a.isNone) w:=fun w a n c n' c'=>Lib.run_eql_slice_nil w _ _ a n c n' c' Tryz.underlying33
 go_enter Tryz.func55,Tryz.ntmps55
 go_wp2_with (at_builtin;refine wpList_append_own _ rfl _ _ 33 rfl w.heap.size 3 i0 (.int .i64 0) 1 8 Tryz.underlying33 hi hz0 hz1 hz2 rfl (by decide) _ _ _ rfl (World.ownsRow_made w #[] 0 (Nat.le_refl _) (Nat.zero_le _) rfl) a 0 c [] rfl rfl (by intro j u hj;simp at hj) (by intro u hu;cases hu) (by unfold maxLen;omega) (by omega) (by simp) ?_)
 intro v' w1 hown hgrow hnil
 go_wp2
 go_ret
 refine ⟨v',rfl,by simpa using hown,?_⟩
 exact ((Below.refl _ w).alloc (Nat.le_refl _) _).grown hgrow (by simp) (by intro k hk;simp [Value.ownBlock] at hk;omega)
theorem aWq{base:Nat}:FV Tryz.prog 55 [.p (.sl 0 [])] base (.own base) [(base,.row 3 0 [])]:=aCs (nC (show (Tryz.prog.info? 3).map (fun i=>i.size)=some 1 by kernel_rfl)) fun p c w=>by
 cases p with
 | none =>
  refine (bHw 0 c w).mono ?_
  rintro e w' ⟨rfl,rfl⟩
  exact ⟨_,rfl,World.ownsRow_nil _ _ _ _,Below.refl _ _⟩
 | some a=>exact bCn a c w
theorem bQl(l:List Int)(hl:l.length≤1000){base:Nat}:FV Tryz.prog 55 [.p (aJ l)] base (.own base) [(base,.row 3 l.length (l.map aA))]:=by
 cases l with
 | nil=>exact aWq
 | cons x l=>exact bQk (n:=(x::l).length) (x:=aA x) (r:=l.map aA) ⟨by simp,by simp at hl ⊢;omega⟩ (by simp) rfl
end
section

theorem aFc:0≤(1:Int)∧(1:Int)<(2:Int):=by first | decide | simp
theorem aFd:0≤(0:Int)∧(0:Int)<(2:Int):=by first | decide | simp
abbrev bUb(l:List Int)(dl:Int)(sk dc:List (List Int))(bib tm:Int)(o:List Int):Prop:=FMM Tryz.prog 54 [.own 0,.fn 189 [] [.rp [bCr dl sk dc] 0,.rp [aA bib,aA tm] 0]] [some (.row 3 l.length (l.map aA))] (.p (aJ o)) [some .dead]
def chE(x:Int × Bool × List Int):List PV:=[aA x.1,blP x.2.1,aJ x.2.2]
def lN(dl:Int)(sk:List (List Int))(dc:List (List Int))(aln:Nat)(alc:List PV)(i:Nat):St:=⟨fr 77 [(1,(.rp [(PV.rp (aK dl sk dc) 0)] 0)),(2,(.p bR)),(3,(.p (aA 0))),(4,(.p (aJ (aW dl dc)))),(5,(.own 0)),(22,(.p (.sl sk.length (sk.flatten.map aA)))),(23,(.p (aA (sk.length:Int)))),(24,(.p (aA (i:Int))))],[some (.row 195 aln alc)]⟩
theorem bQj{dl:Int}{sk dc:List (List Int)}{al'0n:Nat}{al'0c:List PV}{i'1:Nat}(h0:cH dc)(h1:(((aW dl dc).length:Nat):Int)≤(8:Int))(hl2:aF Tryz.prog 0 (sub (cd Tryz.f161) [1,1,1,1,0,1,0,0]) (lN dl sk dc 0 [] 0) (.exit 0) (lN dl sk dc al'0n al'0c i'1)){base:Nat}:FV Tryz.prog 161 [(.rp (aK dl sk dc) 0)] base (.tup [(.own base),(.p (aA 0))]) [(base,(.row 195 al'0n al'0c))]:=by
 exact FV.fin Tryz.func161 rfl (o:=[.g 3 ⟨[],[],[0],[]⟩,.x (PV.rp (aK dl sk dc) 0),.c (.own 0) [(0,(.row 3 ((aW dl dc).length) ((aW dl dc).map aA)))],.g 2 ⟨[],[],[0],[]⟩,bF,.x (PV.rp (aK dl sk dc) 0),.x (.sl sk.length (sk.flatten.map aA)),.k 1 ⟨(rng [(0,1),(6,16),(25,51)]),[0],[],[(5,195)]⟩ (.exit 0) (lN dl sk dc al'0n al'0c i'1)]) (l:=[_,(aK dl sk dc)[1]? = some (.sl sk.length (sk.flatten.map aA)),[(PV.rp (aK dl sk dc) 0)][0]? = some (PV.rp (aK dl sk dc) 0),_,_,[(PV.rp (aK dl sk dc) 0)][0]? = some (PV.rp (aK dl sk dc) 0)]) (by kernel_rfl) (gc hl2.code (gc rfl (gc rfl (gc (aE h1) (gc (fk 0 (pQ (dl:=dl) (sk:=sk) (dc:=dc) h0) rfl) (gc rfl gn))))))
def vD(dl:Int)(sk:List (List Int))(dc:List (List Int))(aln:Nat)(alc:List PV)(i:Nat)(y100:Int)(y101:Int)(o102:List Int)(chn:Nat)(chc:List PV)(mn:Int)(mx:Int):St:=⟨fr 77 [(1,(.rp [(PV.rp (aK dl sk dc) 0)] 0)),(2,(.p bR)),(3,(.p (aA 0))),(4,(.p (aJ (aW dl dc)))),(5,(.own 0)),(7,(.rp [(aA y100),(aA y101)] 0)),(8,(.p (aJ o102))),(9,(.ptr 2 0)),(22,(.p (.sl sk.length (sk.flatten.map aA)))),(23,(.p (aA (sk.length:Int)))),(24,(.p (aA (i:Int)))),(25,(.p (blP (decide ((i:Int)<(sk.length:Int)))))),(26,(.rp (sk.flatten.map aA) (i*2))),(27,(.p (.agg [(aA y100),(aA y101)]))),(28,(.p (aJ (aW dl dc)))),(29,(.own 1)),(30,(.fn 189 [] [(.rp [(PV.rp (aK dl sk dc) 0)] 0),(.rp [(aA y100),(aA y101)] 0)])),(31,(.p (aJ o102))),(32,(.p (.agg [(aA 1099511627776),(aA 0)]))),(33,(.p (.agg [bR,(aA 1099511627776),(aA 0)]))),(34,(.p (aJ o102))),(35,(.fn 182 [] [(.rp [(aJ o102)] 0)]))],[some (.row 195 aln alc),some .dead,some (.box 195 [(.own 3),(.p (aA mn)),(.p (aA mx))]),some (.row 197 chn chc)]⟩
def aFe(dl:Int)(sk:List (List Int))(dc:List (List Int))(aln:Nat)(alc:List PV)(i:Nat)(y100:Int)(y101:Int)(o102:List Int):St:=⟨fr 77 [(1,(.rp [(PV.rp (aK dl sk dc) 0)] 0)),(2,(.p bR)),(3,(.p (aA 0))),(4,(.p (aJ (aW dl dc)))),(5,(.own 0)),(7,(.rp [(aA y100),(aA y101)] 0)),(8,(.p (aJ o102))),(9,(.ptr 2 0)),(22,(.p (.sl sk.length (sk.flatten.map aA)))),(23,(.p (aA (sk.length:Int)))),(24,(.p (aA (i:Int)))),(25,(.p (blP (decide ((i:Int)<(sk.length:Int)))))),(26,(.rp (sk.flatten.map aA) (i*2))),(27,(.p (.agg [(aA y100),(aA y101)]))),(28,(.p (aJ (aW dl dc)))),(29,(.own 1)),(30,(.fn 189 [] [(.rp [(PV.rp (aK dl sk dc) 0)] 0),(.rp [(aA y100),(aA y101)] 0)])),(31,(.p (aJ o102))),(32,(.p (.agg [(aA 1099511627776),(aA 0)]))),(33,(.p (.agg [bR,(aA 1099511627776),(aA 0)]))),(34,(.p (aJ o102))),(35,(.fn 182 [] [(.rp [(aJ o102)] 0)]))],[some (.row 195 aln alc),some .dead,some (.box 195 [(.p bR),(.p (aA 1099511627776)),(.p (aA 0))])]⟩
theorem aWm{dl:Int}{sk dc:List (List Int)}{aln:Nat}{alc:List PV}{i:Nat}{y100 y101:Int}{o102:List Int}{ch'103n:Nat}{ch'103c:List PV}{mn'104 mx'105:Int}{al'n:Nat}{al'c:List PV}{i':Nat}(h0:(i:Int)<(sk.length:Int))(h1:sk[i]? = some [y100,y101])(h2:uni 2 sk)(h3:(aW dl dc).length≤1000)(h4:bUb (aW dl dc) dl sk dc y100 y101 o102)(hl5:aC Tryz.prog 0 (sub (cd Tryz.f161) [1,1,1,1,0,1,0,0,1,1,0,0,1,1,1,0,1,0]) (aFe dl sk dc aln alc i y100 y101 o102) .normal (vD dl sk dc aln alc i y100 y101 o102 ch'103n ch'103c mn'104 mx'105))(h6:[(.sl ch'103n ch'103c),(aA mn'104),(aA mx'105)].length=1*3∧aln+1≤1000000)(h7:inR (((i+1):Nat):Int))(eal'n:al'n=(aln+1))(eal'c:al'c=(alc++[(.sl ch'103n ch'103c),(aA mn'104),(aA mx'105)]))(ei':i'=(i+1)):aC Tryz.prog 0 (sub (cd Tryz.f161) [1,1,1,1,0,1,0,0]) (lN dl sk dc aln alc i) .normal (lN dl sk dc al'n al'c i'):=by
 subst eal'n eal'c ei'
 exact aC.fin (g:=⟨(rng [(0,1),(6,16),(25,51)]),[3],[],[]⟩) (o:=[bT,.x (.agg [(aA y100),(aA y101)]),.g 1 ⟨[],[0],[1],[]⟩,.c (.own 1) [(1,(.row 3 ((aW dl dc).length) ((aW dl dc).map aA)))],.c (.p (aJ o102)) [(1,.dead)],.c (.fn 182 [] [(.rp [(aJ o102)] 0)]) [],.k 1 ⟨(rng [(0,1),(6,1),(10,12),(36,35)]),[0,1,2],[],[]⟩ .normal (vD dl sk dc aln alc i y100 y101 o102 ch'103n ch'103c mn'104 mx'105),.g 0 ⟨[29],[0,2],[3],[]⟩]) (l:=[_,_,[(.sl ch'103n ch'103c),(aA mn'104),(aA mx'105)].length=3,aC Tryz.prog 0 (sub (cd Tryz.f161) [1,1,1,1,0,1,0,0,1,1,0,0,1,1,1,0,1,0]) (aFe dl sk dc aln alc i y100 y101 o102) .normal (vD dl sk dc aln alc i y100 y101 o102 ch'103n ch'103c mn'104 mx'105),FC Tryz.prog 132 [(.p (aJ o102))] [] 3 (.fn 182 [] [(.rp [(aJ o102)] 0)]) [],FC Tryz.prog 54 [(.own 1),(.fn 189 [] [(.rp [(PV.rp (aK dl sk dc) 0)] 0),(.rp [(aA y100),(aA y101)] 0)])] [(1,(.row 3 ((aW dl dc).length) ((aW dl dc).map aA)))] 2 (.p (aJ o102)) [(1,.dead)],_,_,_,0≤(i:Int)∧(i:Int)<(sk.length:Int)∧(i*2)<(sk.flatten.map aA).length,_]) (by kernel_rfl) (gc h7 (gc h6 (gc (by first | decide | simp) (gc hl5 (gc (FV.fc (aMl (q:=o102)) rfl) (gc (FMM.fc (ids:=[1]) h4 (by kernel_rfl)) (gc (fk 1 (bQl (aW dl dc) h3) rfl) (gc (aQ (i:=i) h2 h1) (gc (bD (i:=i) h2 h1) (gc (bB (k:=2) (i:=(i:Int)) (by decide) h2 (Int.natCast_nonneg _) h1) (gc (aL h0) gn)))))))))))
theorem aWn{dl:Int}{sk dc:List (List Int)}{aln:Nat}{alc:List PV}{i:Nat}(h0:(sk.length:Int)≤(i:Int)):aC Tryz.prog 0 (sub (cd Tryz.f161) [1,1,1,1,0,1,0,0]) (lN dl sk dc aln alc i) (.exit 0) (lN dl sk dc aln alc i):=by
 exact aC.fin (g:=⟨(rng [(0,1),(6,16),(25,51)]),[0],[],[]⟩) (o:=[bF]) (l:=[_]) (by kernel_rfl) (gc (aE h0) gn)
def aMk(dl:Int)(sk:List (List Int))(dc:List (List Int))(aln:Nat)(alc:List PV)(i:Nat)(y100:Int)(y101:Int)(o102:List Int)(chn:Nat)(chc:List PV)(mn:Int)(mx:Int):St:=⟨fr 77 [(1,(.rp [(PV.rp (aK dl sk dc) 0)] 0)),(2,(.p bR)),(3,(.p (aA 0))),(4,(.p (aJ (aW dl dc)))),(5,(.own 0)),(7,(.rp [(aA y100),(aA y101)] 0)),(8,(.p (aJ o102))),(9,(.ptr 2 0)),(22,(.p (.sl sk.length (sk.flatten.map aA)))),(23,(.p (aA (sk.length:Int)))),(24,(.p (aA (i:Int)))),(25,(.p (blP (decide ((i:Int)<(sk.length:Int)))))),(26,(.rp (sk.flatten.map aA) (i*2))),(27,(.p (.agg [(aA y100),(aA y101)]))),(28,(.p (aJ (aW dl dc)))),(30,(.fn 189 [] [(.rp [(PV.rp (aK dl sk dc) 0)] 0),(.rp [(aA y100),(aA y101)] 0)])),(31,(.p (aJ o102))),(32,(.p (.agg [(aA 1099511627776),(aA 0)]))),(33,(.p (.agg [bR,(aA 1099511627776),(aA 0)]))),(34,(.p (aJ o102))),(35,(.fn 182 [] [(.rp [(aJ o102)] 0)]))],[some (.row 195 aln alc),some .dead,some (.box 195 [(.own 5),(.p (aA mn)),(.p (aA mx))]),some .dead,some .dead,some (.row 197 chn chc)]⟩
theorem aWo{dl:Int}{sk dc:List (List Int)}{aln:Nat}{alc:List PV}{i:Nat}{y100 y101:Int}{o102:List Int}{chn:Nat}{chc:List PV}{mn mx:Int}{x:List Int}{n200:Int}{b201:Bool}{T202:List (Int × Bool)}{ch'n:Nat}{ch'c:List PV}{mn' mx':Int}(h0:aBb dl sk dc (aJ x) [y100,y101] n200 b201 ([]:List (Int × Bool)) T202)(h1:b201=true)(h2:[(aA 1099511627776),(blP b201),(aJ x)].length=1*3∧chn+1≤1000000)(h3:([(1099511627776:Int)]:List Int).length≤1000)(ech'n:ch'n=(chn+1))(ech'c:ch'c=(chc++[(aA 1099511627776),(blP b201),(aJ x)]))(emn':mn'=(if (1099511627776:Int)<mn then (1099511627776:Int) else mn))(emx':mx'=(wZ mx ([(1099511627776:Int)]:List Int))):aC Tryz.prog 5 (sub (cd Tryz.f161) [1,1,1,1,0,1,0,0,1,1,0,0,1,1,1,0,1,0,1]) (rfO (vD dl sk dc aln alc i y100 y101 o102 chn chc mn mx) 36 10 x) .normal (aMk dl sk dc aln alc i y100 y101 o102 ch'n ch'c mn' mx'):=by
 subst ech'n ech'c emn' emx'
 exact aC.fin (g:=⟨(rng [(0,1),(6,1),(10,12),(36,35)]),[13],[],[]⟩) (o:=[.g 2 ⟨[29],[],[4],[]⟩,.x (PV.rp (aK dl sk dc) 0),.x (.agg [(aA y100),(aA y101)]),.x (PV.rp (aK dl sk dc) 0),.c (.agg [(.fn 154 [] [(.ptr 9 0),(.ptr 10 0),(.ptr 5 0),(.ptr 7 0)]),(.fn 156 [] [(.ptr 11 0)]),(.fn 157 [] [(.ptr 7 0),(.ptr 6 0)]),(.fn 160 [] [(.ptr 7 0)]),(.fn 158 [] [(.ptr 11 0)])]) [(5,(vB0 dl sk dc)),(6,(.box 33 [(.p (aJ x))])),(7,(.box 139 [(.fn 154 [] [(.ptr 9 0),(.ptr 10 0),(.ptr 5 0),(.ptr 7 0)]),(.fn 156 [] [(.ptr 11 0)]),(.fn 157 [] [(.ptr 7 0),(.ptr 6 0)]),(.fn 160 [] [(.ptr 7 0)]),(.fn 158 [] [(.ptr 11 0)])])),(8,(.mp (aH ([]:List (Int × Bool))) 0)),(9,(.box 207 [(.mp 8)])),(10,(vB5 dl sk dc)),(11,(.box 209 [(.fn 153 [] [(.ptr 5 0),(.ptr 7 0)])]))],.c (.tup [(.p (aA n200)),(.p (blP b201))]) [(5,(vB0 dl sk dc)),(6,(.box 33 [(.p (aJ x))])),(7,(.box 139 [(.fn 154 [] [(.ptr 9 0),(.ptr 10 0),(.ptr 5 0),(.ptr 7 0)]),(.fn 156 [] [(.ptr 11 0)]),(.fn 157 [] [(.ptr 7 0),(.ptr 6 0)]),(.fn 160 [] [(.ptr 7 0)]),(.fn 158 [] [(.ptr 11 0)])])),(8,(.mp (aH T202) T202.length)),(9,(.box 207 [(.mp 8)])),(10,(vB5 dl sk dc)),(11,(.box 209 [(.fn 153 [] [(.ptr 5 0),(.ptr 7 0)])]))],bT,.c (.p (aA (wZ mx ([(1099511627776:Int)]:List Int)))) []]) (l:=[_,_,FC Tryz.prog 184 [(.p (aA mx)),(.own 15)] [(15,(.row 3 1 [(aA 1099511627776)]))] 16 (.p (aA (wZ mx ([(1099511627776:Int)]:List Int)))) [],_,_,_,[(aA 1099511627776),(blP b201),(aJ x)].length=3,_,FC Tryz.prog 134 [(.rp (aK dl sk dc) 0),(.p (.agg [(aA y100),(aA y101)])),(.agg [(.fn 154 [] [(.ptr 9 0),(.ptr 10 0),(.ptr 5 0),(.ptr 7 0)]),(.fn 156 [] [(.ptr 11 0)]),(.fn 157 [] [(.ptr 7 0),(.ptr 6 0)]),(.fn 160 [] [(.ptr 7 0)]),(.fn 158 [] [(.ptr 11 0)])])] [(9,(.box 207 [(.mp 8)])),(10,(vB5 dl sk dc)),(5,(vB0 dl sk dc)),(7,(.box 139 [(.fn 154 [] [(.ptr 9 0),(.ptr 10 0),(.ptr 5 0),(.ptr 7 0)]),(.fn 156 [] [(.ptr 11 0)]),(.fn 157 [] [(.ptr 7 0),(.ptr 6 0)]),(.fn 160 [] [(.ptr 7 0)]),(.fn 158 [] [(.ptr 11 0)])])),(11,(.box 209 [(.fn 153 [] [(.ptr 5 0),(.ptr 7 0)])])),(6,(.box 33 [(.p (aJ x))])),(8,(.mp (aH ([]:List (Int × Bool))) 0))] 13 (.tup [(.p (aA n200)),(.p (blP b201))]) [(5,(vB0 dl sk dc)),(6,(.box 33 [(.p (aJ x))])),(7,(.box 139 [(.fn 154 [] [(.ptr 9 0),(.ptr 10 0),(.ptr 5 0),(.ptr 7 0)]),(.fn 156 [] [(.ptr 11 0)]),(.fn 157 [] [(.ptr 7 0),(.ptr 6 0)]),(.fn 160 [] [(.ptr 7 0)]),(.fn 158 [] [(.ptr 11 0)])])),(8,(.mp (aH T202) T202.length)),(9,(.box 207 [(.mp 8)])),(10,(vB5 dl sk dc)),(11,(.box 209 [(.fn 153 [] [(.ptr 5 0),(.ptr 7 0)])]))],FC Tryz.prog 87 [(.rp (aK dl sk dc) 0),(.p (aJ x))] [] 5 (.agg [(.fn 154 [] [(.ptr 9 0),(.ptr 10 0),(.ptr 5 0),(.ptr 7 0)]),(.fn 156 [] [(.ptr 11 0)]),(.fn 157 [] [(.ptr 7 0),(.ptr 6 0)]),(.fn 160 [] [(.ptr 7 0)]),(.fn 158 [] [(.ptr 11 0)])]) [(5,(vB0 dl sk dc)),(6,(.box 33 [(.p (aJ x))])),(7,(.box 139 [(.fn 154 [] [(.ptr 9 0),(.ptr 10 0),(.ptr 5 0),(.ptr 7 0)]),(.fn 156 [] [(.ptr 11 0)]),(.fn 157 [] [(.ptr 7 0),(.ptr 6 0)]),(.fn 160 [] [(.ptr 7 0)]),(.fn 158 [] [(.ptr 11 0)])])),(8,(.mp (aH ([]:List (Int × Bool))) 0)),(9,(.box 207 [(.mp 8)])),(10,(vB5 dl sk dc)),(11,(.box 209 [(.fn 153 [] [(.ptr 5 0),(.ptr 7 0)])]))],[(PV.rp (aK dl sk dc) 0)][0]? = some (PV.rp (aK dl sk dc) 0),some (.agg (([(aA y100),(aA y101)].drop 0).take 2):PV)=some (.agg [(aA y100),(aA y101)]),0+2≤[(aA y100),(aA y101)].length,[(PV.rp (aK dl sk dc) 0)][0]? = some (PV.rp (aK dl sk dc) 0)]) (by kernel_rfl) (gc aFc (gc aFd (gc (fv (aMz mx ([(1099511627776:Int)]:List Int) h3)) (gc aFc (gc aFd (gc h2 (gc (by first | decide | simp) (gc h1 (gc (FMM.fc (ids:=[5,6,7,8,9,10,11]) h0 (by kernel_rfl)) (gc (FMM.fcN (k:=7) rfl (ids:=[]) (oH (dl:=dl) (sk:=sk) (dc:=dc) (on:=x.length) (ol:=(x.map aA))) (by kernel_rfl)) (gc rfl (gc rfl (gc (by first | decide | simp) (gc rfl gn))))))))))))))
theorem aWp{dl:Int}{sk dc:List (List Int)}{aln:Nat}{alc:List PV}{i:Nat}{y100 y101:Int}{o102:List Int}{chn:Nat}{chc:List PV}{mn mx:Int}{x:List Int}{n200:Int}{b201:Bool}{T202:List (Int × Bool)}{ch'n:Nat}{ch'c:List PV}{mn' mx':Int}(h0:aBb dl sk dc (aJ x) [y100,y101] n200 b201 ([]:List (Int × Bool)) T202)(h1:b201=false)(h2:[(aA n200),(blP b201),(aJ x)].length=1*3∧chn+1≤1000000)(h3:([n200]:List Int).length≤1000)(ech'n:ch'n=(chn+1))(ech'c:ch'c=(chc++[(aA n200),(blP b201),(aJ x)]))(emn':mn'=(if n200<mn then n200 else mn))(emx':mx'=(wZ mx ([n200]:List Int))):aC Tryz.prog 5 (sub (cd Tryz.f161) [1,1,1,1,0,1,0,0,1,1,0,0,1,1,1,0,1,0,1]) (rfO (vD dl sk dc aln alc i y100 y101 o102 chn chc mn mx) 36 10 x) .normal (aMk dl sk dc aln alc i y100 y101 o102 ch'n ch'c mn' mx'):=by
 subst ech'n ech'c emn' emx'
 exact aC.fin (g:=⟨(rng [(0,1),(6,1),(10,12),(36,35)]),[13],[],[]⟩) (o:=[.g 2 ⟨[29],[],[4],[]⟩,.x (PV.rp (aK dl sk dc) 0),.x (.agg [(aA y100),(aA y101)]),.x (PV.rp (aK dl sk dc) 0),.c (.agg [(.fn 154 [] [(.ptr 9 0),(.ptr 10 0),(.ptr 5 0),(.ptr 7 0)]),(.fn 156 [] [(.ptr 11 0)]),(.fn 157 [] [(.ptr 7 0),(.ptr 6 0)]),(.fn 160 [] [(.ptr 7 0)]),(.fn 158 [] [(.ptr 11 0)])]) [(5,(vB0 dl sk dc)),(6,(.box 33 [(.p (aJ x))])),(7,(.box 139 [(.fn 154 [] [(.ptr 9 0),(.ptr 10 0),(.ptr 5 0),(.ptr 7 0)]),(.fn 156 [] [(.ptr 11 0)]),(.fn 157 [] [(.ptr 7 0),(.ptr 6 0)]),(.fn 160 [] [(.ptr 7 0)]),(.fn 158 [] [(.ptr 11 0)])])),(8,(.mp (aH ([]:List (Int × Bool))) 0)),(9,(.box 207 [(.mp 8)])),(10,(vB5 dl sk dc)),(11,(.box 209 [(.fn 153 [] [(.ptr 5 0),(.ptr 7 0)])]))],.c (.tup [(.p (aA n200)),(.p (blP b201))]) [(5,(vB0 dl sk dc)),(6,(.box 33 [(.p (aJ x))])),(7,(.box 139 [(.fn 154 [] [(.ptr 9 0),(.ptr 10 0),(.ptr 5 0),(.ptr 7 0)]),(.fn 156 [] [(.ptr 11 0)]),(.fn 157 [] [(.ptr 7 0),(.ptr 6 0)]),(.fn 160 [] [(.ptr 7 0)]),(.fn 158 [] [(.ptr 11 0)])])),(8,(.mp (aH T202) T202.length)),(9,(.box 207 [(.mp 8)])),(10,(vB5 dl sk dc)),(11,(.box 209 [(.fn 153 [] [(.ptr 5 0),(.ptr 7 0)])]))],bF,.c (.p (aA (wZ mx ([n200]:List Int)))) []]) (l:=[_,_,FC Tryz.prog 184 [(.p (aA mx)),(.own 15)] [(15,(.row 3 1 [(aA n200)]))] 16 (.p (aA (wZ mx ([n200]:List Int)))) [],_,_,_,[(aA n200),(blP b201),(aJ x)].length=3,_,FC Tryz.prog 134 [(.rp (aK dl sk dc) 0),(.p (.agg [(aA y100),(aA y101)])),(.agg [(.fn 154 [] [(.ptr 9 0),(.ptr 10 0),(.ptr 5 0),(.ptr 7 0)]),(.fn 156 [] [(.ptr 11 0)]),(.fn 157 [] [(.ptr 7 0),(.ptr 6 0)]),(.fn 160 [] [(.ptr 7 0)]),(.fn 158 [] [(.ptr 11 0)])])] [(9,(.box 207 [(.mp 8)])),(10,(vB5 dl sk dc)),(5,(vB0 dl sk dc)),(7,(.box 139 [(.fn 154 [] [(.ptr 9 0),(.ptr 10 0),(.ptr 5 0),(.ptr 7 0)]),(.fn 156 [] [(.ptr 11 0)]),(.fn 157 [] [(.ptr 7 0),(.ptr 6 0)]),(.fn 160 [] [(.ptr 7 0)]),(.fn 158 [] [(.ptr 11 0)])])),(11,(.box 209 [(.fn 153 [] [(.ptr 5 0),(.ptr 7 0)])])),(6,(.box 33 [(.p (aJ x))])),(8,(.mp (aH ([]:List (Int × Bool))) 0))] 13 (.tup [(.p (aA n200)),(.p (blP b201))]) [(5,(vB0 dl sk dc)),(6,(.box 33 [(.p (aJ x))])),(7,(.box 139 [(.fn 154 [] [(.ptr 9 0),(.ptr 10 0),(.ptr 5 0),(.ptr 7 0)]),(.fn 156 [] [(.ptr 11 0)]),(.fn 157 [] [(.ptr 7 0),(.ptr 6 0)]),(.fn 160 [] [(.ptr 7 0)]),(.fn 158 [] [(.ptr 11 0)])])),(8,(.mp (aH T202) T202.length)),(9,(.box 207 [(.mp 8)])),(10,(vB5 dl sk dc)),(11,(.box 209 [(.fn 153 [] [(.ptr 5 0),(.ptr 7 0)])]))],FC Tryz.prog 87 [(.rp (aK dl sk dc) 0),(.p (aJ x))] [] 5 (.agg [(.fn 154 [] [(.ptr 9 0),(.ptr 10 0),(.ptr 5 0),(.ptr 7 0)]),(.fn 156 [] [(.ptr 11 0)]),(.fn 157 [] [(.ptr 7 0),(.ptr 6 0)]),(.fn 160 [] [(.ptr 7 0)]),(.fn 158 [] [(.ptr 11 0)])]) [(5,(vB0 dl sk dc)),(6,(.box 33 [(.p (aJ x))])),(7,(.box 139 [(.fn 154 [] [(.ptr 9 0),(.ptr 10 0),(.ptr 5 0),(.ptr 7 0)]),(.fn 156 [] [(.ptr 11 0)]),(.fn 157 [] [(.ptr 7 0),(.ptr 6 0)]),(.fn 160 [] [(.ptr 7 0)]),(.fn 158 [] [(.ptr 11 0)])])),(8,(.mp (aH ([]:List (Int × Bool))) 0)),(9,(.box 207 [(.mp 8)])),(10,(vB5 dl sk dc)),(11,(.box 209 [(.fn 153 [] [(.ptr 5 0),(.ptr 7 0)])]))],[(PV.rp (aK dl sk dc) 0)][0]? = some (PV.rp (aK dl sk dc) 0),some (.agg (([(aA y100),(aA y101)].drop 0).take 2):PV)=some (.agg [(aA y100),(aA y101)]),0+2≤[(aA y100),(aA y101)].length,[(PV.rp (aK dl sk dc) 0)][0]? = some (PV.rp (aK dl sk dc) 0)]) (by kernel_rfl) (gc aFc (gc aFd (gc (fv (aMz mx ([n200]:List Int) h3)) (gc aFc (gc aFd (gc h2 (gc (by first | decide | simp) (gc h1 (gc (FMM.fc (ids:=[5,6,7,8,9,10,11]) h0 (by kernel_rfl)) (gc (FMM.fcN (k:=7) rfl (ids:=[]) (oH (dl:=dl) (sk:=sk) (dc:=dc) (on:=x.length) (ol:=(x.map aA))) (by kernel_rfl)) (gc rfl (gc rfl (gc (by first | decide | simp) (gc rfl gn))))))))))))))
end
section
section
variable {α:Type} {E:α→List PV} {k:Nat}
theorem aQn(hE:∀ a,(E a).length=k)(l:List α):((l.map E).flatten).length=l.length*k:=by
 induction l with
 | nil=>simp
 | cons a l ih=>rw [List.map_cons,List.flatten_cons,List.length_append,hE,ih,List.length_cons,Nat.succ_mul];omega
theorem vO(hE:∀ a,(E a).length=k){l:List α}{i:Nat}{e:α}(h:l[i]? = some e):∃ a b,(l.map E).flatten=a++(E e++b)∧a.length=i*k:=by
 obtain ⟨hi,rfl⟩:=List.getElem?_eq_some_iff.1 h
 refine ⟨((l.take i).map E).flatten,((l.drop (i+1)).map E).flatten,?_,?_⟩
 ·have:l=l.take i++(l[i]::l.drop (i+1)):=by rw [← List.drop_eq_getElem_cons hi,List.take_append_drop]
  have e2:=congrArg (fun l=>(l.map E).flatten) this
  simp only [List.map_append,List.map_cons,List.flatten_append,List.flatten_cons] at e2
  exact e2
 ·rw [aQn hE,List.length_take];congr 1;omega
theorem aZi{l:List α}{i f:Nat}(hE:∀ a,(E a).length=k){e:α}{x:PV}(h:l[i]? = some e)(hx:(E e)[f]? = some x):((l.map E).flatten)[i*k+f]? = some x:=by
 obtain ⟨a,b,e1,e2⟩:=vO hE h
 have hf:=(List.getElem?_eq_some_iff.1 hx).1
 rw [e1,← e2,List.getElem?_append_right (by omega),Nat.add_sub_cancel_left,List.getElem?_append_left hf]
 exact hx
theorem sI{l:List α}{i:Nat}(hE:∀ a,(E a).length=k){e:α}(h:l[i]? = some e):i*k+k≤((l.map E).flatten).length:=by
 obtain ⟨a,b,e1,e2⟩:=vO hE h
 rw [e1,List.length_append,List.length_append,hE,e2];omega
theorem lQ{l:List α}{i:Nat}(hE:∀ a,(E a).length=k){e:α}(h:l[i]? = some e){x:PV}(hx:PV.agg (E e)=x):some (.agg ((((l.map E).flatten).drop (i*k)).take k):PV)=some x:=by
 obtain ⟨a,b,e1,e2⟩:=vO hE h
 rw [e1,← e2,List.drop_left,List.take_left' (hE e),hx]
theorem pY{l:List α}{i:Int}(hE:∀ a,(E a).length=k)(hk:0<k)(h0:0≤i){e:α}(h:l[i.toNat]? = some e):0≤i∧i<(l.length:Int)∧i.toNat*k<((l.map E).flatten).length:=by
 have hi:=(List.getElem?_eq_some_iff.1 h).1
 refine ⟨h0,by omega,?_⟩
 rw [aQn hE]
 exact Nat.mul_lt_mul_of_pos_right hi hk
end
end
section
abbrev cK:=Int × Bool × List Int
abbrev fC:=List cK × Int × Int
def hpE(h:fC):List PV:=[.sl h.1.length (h.1.map chE).flatten,aA h.2.1,aA h.2.2]
abbrev far:Int:=1099511627776
def chM(dl:Int)(dc:List (List Int))(s0 s1:Int)(q:List Int):cK:=(if (kF dl q dc s0 s1).2 then far else (kF dl q dc s0 s1).1,(kF dl q dc s0 s1).2,q)
def mnM(l:List cK):Int:=l.foldl (fun m x=>if x.1<m then x.1 else m) far
def mxM(l:List cK):Int:=l.foldl (fun m x=>if x.1 > m then x.1 else m) 0
def nE(dl:Int)(dc:List (List Int))(s0 s1:Int)(o:List Int):fC:=((iZ o).map (chM dl dc s0 s1),mnM ((iZ o).map (chM dl dc s0 s1)),mxM ((iZ o).map (chM dl dc s0 s1)))
def aIp(dc:List (List Int))(n:Int):Int:=match ofN dc n with
 | some x=>tU dc x
 | none=>0
def sD(dl:Int)(dc:List (List Int))(bib:Int):List Int:=(aW dl dc).filter fun n => !(aIp dc n != bib)
def bP(dl:Int)(sk dc:List (List Int)):List fC:=sk.map fun s=>nE dl dc (s.getD 0 0) (s.getD 1 0) (sD dl dc (s.getD 0 0))
theorem aPt(x:cK):jH (chE x)=true:=by
 obtain ⟨a,b,l⟩:=x
 show (nmP (aA a) && (nmP (blP b) && (nmP (aJ l) && true)))=true
 have h:nmP (aJ l)=true:=by
  show jH (l.map aA)=true
  exact zP aA (fun _=>rfl) l
 rw [h];rfl
theorem wO:∀ (a b:List PV),jH (a++b)=(jH a && jH b)
 | [],b=>rfl
 | x::a,b=>by
  show (nmP x && jH (a++b))=((nmP x && jH a) && jH b)
  rw [wO a b,Bool.and_assoc]
theorem qO{α:Type}{E:α→List PV}(h:∀ a,jH (E a)=true):∀ l:List α,jH (l.map E).flatten=true
 | []=>rfl
 | a::l=>by rw [List.map_cons,List.flatten_cons,wO,h a,qO h l];rfl
theorem bHu(x:fC):jH (hpE x)=true:=by
 obtain ⟨l,a,b⟩:=x
 show (jH (l.map chE).flatten && (nmP (aA a) && (nmP (aA b) && true)))=true
 rw [qO aPt];rfl
def bQi(dl:Int)(sk dc:List (List Int))(al:List fC)(i:Nat)(y0 y1:Int)(o:List Int)(l:List cK):St:=vD dl sk dc al.length (al.map hpE).flatten i y0 y1 o l.length (l.map chE).flatten (mnM l) (mxM l)
def bTr(dl:Int)(sk dc:List (List Int))(al:List fC)(i:Nat)(y0 y1:Int)(o:List Int)(l:List cK):St:=aMk dl sk dc al.length (al.map hpE).flatten i y0 y1 o l.length (l.map chE).flatten (mnM l) (mxM l)
theorem bHv(l:List cK)(c:cK):(l++[c]).length=l.length+1∧((l++[c]).map chE).flatten=(l.map chE).flatten++chE c∧mnM (l++[c])=(if c.1<mnM l then c.1 else mnM l)∧mxM (l++[c])=wZ (mxM l) [c.1]:=by
 refine ⟨by simp,by simp,?_,?_⟩
 ·unfold mnM;rw [List.foldl_append];rfl
 ·unfold mxM;rw [List.foldl_append];rfl
theorem aWk{dl:Int}{sk dc:List (List Int)}(hd:cH dc){al:List fC}{i:Nat}{y0 y1:Int}(hs : -1≤y1∧y1≤360000){o:List Int}{l:List cK}(hl:l.length+1≤1000000){x:List Int}(hx:x.length≤1000) :
  aC Tryz.prog 5 (sub (cd Tryz.f161) [1,1,1,1,0,1,0,0,1,1,0,0,1,1,1,0,1,0,1]) (rfO (bQi dl sk dc al i y0 y1 o l) 36 10 x) .normal (bTr dl sk dc al i y0 y1 o (l++[chM dl dc y0 y1 x])):=by
 obtain ⟨T',_,hT⟩:=bDh (sk:=sk) hd (fun n=>aAb hx n) y0 y1 hs (T:=[]) cL.nil
 obtain ⟨e1,e2,e3,e4⟩:=bHv l (chM dl dc y0 y1 x)
 cases hb:(kF dl x dc y0 y1).2 with
 | true =>
  have ec:chM dl dc y0 y1 x=(far,true,x):=by unfold chM;rw [hb];rfl
  rw [hb] at hT
  rw [ec] at e1 e2 e3 e4 ⊢
  exact aWo hT rfl ⟨rfl,hl⟩ (by simp) e1 e2 e3 e4
 | false =>
  have ec:chM dl dc y0 y1 x=((kF dl x dc y0 y1).1,false,x):=by unfold chM;rw [hb];rfl
  rw [hb] at hT
  rw [ec] at e1 e2 e3 e4 ⊢
  exact aWp hT rfl ⟨rfl,hl⟩ (by simp) e1 e2 e3 e4
theorem aWl{dl:Int}{sk dc:List (List Int)}(hd:cH dc){al:List fC}{i:Nat}{y0 y1:Int}(hs : -1≤y1∧y1≤360000){o:List Int}(ho:o.length≤8) :
  aC Tryz.prog 0 (sub (cd Tryz.f161) [1,1,1,1,0,1,0,0,1,1,0,0,1,1,1,0,1,0]) (aFe dl sk dc al.length (al.map hpE).flatten i y0 y1 o) .normal (bQi dl sk dc al i y0 y1 o ((iZ o).map (chM dl dc y0 y1))):=by
 have hp:(2:Nat) ^ o.length≤256:=Nat.le_trans (Nat.pow_le_pow_right (by omega) ho) (by decide)
 refine (aDd (P:=Tryz.prog) (k:=0) (kb:=5) (kk:=3) (g0:=⟨[],[3],[],[(102000,197)]⟩) (g1:=⟨[],[5],[],[]⟩) (aFe dl sk dc al.length (al.map hpE).flatten i y0 y1 o)
  (fun pre=>bQi dl sk dc al i y0 y1 o (pre.map (chM dl dc y0 y1))) (fun pre l=>bTr dl sk dc al i y0 y1 o ((pre++[l]).map (chM dl dc y0 y1))) (fun _ _=>⟨[],[]⟩) _ [] (fun _ _=>false)
  (cc := sub (cd Tryz.f161) [1, 1, 1, 1, 0, 1, 0, 0, 1, 1, 0, 0, 1, 1, 1, 0, 1, 0]) (gi := 35) (p1 := 36) (d := 10) (id := 11) (ty := 33) (pos := "outcome.go:71") (body := sub (cd Tryz.f161) [1, 1, 1, 1, 0, 1, 0, 0, 1, 1, 0, 0, 1, 1, 1, 0, 1, 0, 1]) (by kernel_rfl)
  rfl (fun _=>rfl) (g := .fn 182 [] [.rp [aJ o] 0]) (by rfl) (aDb o (by omega)) (fun args w=>rfl) (fun _=>rfl) (fun pre => ?_) (fun _ _=>rfl) (fun _ _=>rfl) rfl rfl (fun _=>by show 4<5;omega) (by kernel_rfl) (fun x=>rfl) (by show 3≤3;omega) rfl (by kernel_rfl) (fun pre l=>by kernel_rfl) (fun _ _ h=>by cases h) (gR:=⟨[],[],[],[]⟩) (fun pre l hpl hx=>⟨fun _ => ?_,fun h=>by cases h⟩)).1 (fun _ _ _=>rfl)
 ·show (jH (al.map hpE).flatten && (jH [] && (jH ((pre.map (chM dl dc y0 y1)).map chE).flatten && true)))=true
  rw [qO bHu,qO aPt];rfl
 ·have:=aWk (dl:=dl) (y0:=y0) (sk:=sk) hd (al:=al) (i:=i) hs (o:=o) (l:=pre.map (chM dl dc y0 y1)) (by rw [List.length_map];omega) hx
  rw [List.map_append]
  exact this
end
section
theorem bQg{dl:Int}{sk dc:List (List Int)}(hd:cH dc){bib tm n:Int}(hn:n∈aW dl dc):aMm dl sk dc bib tm n (aIp dc n != bib):=fun base=>by
 unfold aW at hn
 obtain ⟨x,hx,rfl⟩:=List.mem_map.1 hn
 have hx:=(List.mem_filter.1 hx).1
 have hr:=fR hd hx
 have hs:aIp dc (dN x)=tU dc x:=by unfold aIp;rw [aPz hd hx]
 rw [hs]
 obtain ⟨h1,h2⟩:=aMy hd hx
 have hk:=tR hd (n:=dN x) (by unfold inR;omega)
 have hab:=lD hd x hx
 obtain ⟨a,b,c,d,e,f,rfl⟩:=len6 (hd.ud x hx)
 have hf:inR f:=by
  have:=(iE.1 (hd.rng _ hx))
  unfold inR;simp [dAb] at this hab ⊢;omega
 exact bQn hk h1 h2 (fun base=>bDd hd hf (.inl hx) hr.2) rfl
theorem bCm(dl:Int)(dc:List (List Int))(b:Int):(sD dl dc b).length≤(aW dl dc).length:=List.length_filter_le _ _
theorem bHt{dl:Int}{sk dc:List (List Int)}(hd:cH dc)(hu:uni 2 sk)(hl:sk.length≤1000)(hs:∀ s∈sk,-1≤s.getD 1 0∧s.getD 1 0≤360000)(ho:(aW dl dc).length≤8) :
  aF Tryz.prog 0 (sub (cd Tryz.f161) [1,1,1,1,0,1,0,0]) (lN dl sk dc 0 [] 0) (.exit 0) (lN dl sk dc (bP dl sk dc).length ((bP dl sk dc).map hpE).flatten sk.length):=by
 obtain ⟨acc,hI,hL⟩:=aF.ex (P:=Tryz.prog) (k:=0) (b:=sub (cd Tryz.f161) [1,1,1,1,0,1,0,0]) (e := .exit 0) (fun i (al:List fC)=>lN dl sk dc al.length (al.map hpE).flatten i) (fun al=>lN dl sk dc al.length (al.map hpE).flatten sk.length) (fun i al=>al=bP dl (sk.take i) dc) (by simp) sk.length
  (fun i al hi hal=>by
   obtain ⟨x,hx⟩:∃ x,sk[i]? = some x:=⟨_,List.getElem?_eq_getElem hi⟩
   have hm:=List.mem_of_getElem? hx
   have hsx:=hs x hm
   obtain ⟨y0,y1,rfl⟩:=len2 (hu x hm)
   have hlen:al.length=i:=by rw [hal];unfold bP;rw [List.length_map,List.length_take];omega
   refine ⟨al++[nE dl dc y0 y1 (sD dl dc y0)],?_,aWm (o102:=sD dl dc y0) (by omega) hx hu (by omega) (bQm (by omega) fun n hn=>bQg hd hn) (aWl hd hsx (Nat.le_trans (bCm dl dc y0) ho)) ⟨rfl,by omega⟩ (aR (by omega)) (by simp) (by simp only [List.map_append,List.map_cons,List.map_nil,List.flatten_append,List.flatten_cons,List.flatten_nil,List.append_nil];rfl) rfl⟩
   rw [hal]
   unfold bP
   rw [List.take_add_one,hx]
   simp)
  (fun al _=>aWn (by omega)) (acc:=[]) (by simp [bP])
 rw [List.take_length] at hI
 rw [← hI]
 exact hL
theorem bQh{dl:Int}{sk dc:List (List Int)}(hd:cH dc)(hu:uni 2 sk)(hl:sk.length≤1000)(hs:∀ s∈sk,-1≤s.getD 1 0∧s.getD 1 0≤360000)(ho:(aW dl dc).length≤8){base:Nat} :
  FV Tryz.prog 161 [pS dl sk dc] base (.tup [.own base,.p (aA 0)]) [(base,.row 195 (bP dl sk dc).length ((bP dl sk dc).map hpE).flatten)]:=bQj hd (by omega) (bHt hd hu hl hs ho)
end
end KV
end Go.Proofs
section
namespace Go.Proofs
open Go.Shelf
def Tryz.lays189_ren:Go.Shelf.Ren:=⟨fun | 189=>57 | 125=>131 | 257=>130 | 128=>180 | 129=>181 | 294=>171 | 295=>172 | 296=>173 | 297=>174 | 298=>175 | 299=>176 | 216=>177 | 300=>178 | 301=>179 | 328=>207 | 329=>208 | 330=>209 | 331=>210 | 332=>211 | 215=>168 | 343=>224 | n=>n,fun | 28=>33 | 3=>3 | 46=>172 | 0=>0 | 51=>127 | 53=>225 | 4=>4 | 183=>218 | 182=>217 | 131=>106 | 5=>5 | 9=>9 | 218=>245 | 222=>249 | 228=>257 | 229=>198 | n=>n,fun | n=>n⟩
theorem Tryz.lays189:Go.Proofs.Lays.n189 Tryz.prog Tryz.lays189_ren:={
 mixed:=by kernel_rfl
 f125:=Tryz.func131.trans (congrArg some (by kernel_rfl))
 f128:=Tryz.func180.trans (congrArg some (by kernel_rfl))
 f129:=Tryz.func181.trans (congrArg some (by kernel_rfl))
 f189:=Tryz.func57.trans (congrArg some (by kernel_rfl))
 f215:=Tryz.func168.trans (congrArg some (by kernel_rfl))
 f216:=Tryz.func177.trans (congrArg some (by kernel_rfl))
 f257:=Tryz.func130.trans (congrArg some (by kernel_rfl))
 f294:=Tryz.func171.trans (congrArg some (by kernel_rfl))
 f295:=Tryz.func172.trans (congrArg some (by kernel_rfl))
 f296:=Tryz.func173.trans (congrArg some (by kernel_rfl))
 f297:=Tryz.func174.trans (congrArg some (by kernel_rfl))
 f298:=Tryz.func175.trans (congrArg some (by kernel_rfl))
 f299:=Tryz.func176.trans (congrArg some (by kernel_rfl))
 f300:=Tryz.func178.trans (congrArg some (by kernel_rfl))
 f301:=Tryz.func179.trans (congrArg some (by kernel_rfl))
 f328:=Tryz.func207.trans (congrArg some (by kernel_rfl))
 f329:=Tryz.func208.trans (congrArg some (by kernel_rfl))
 f330:=Tryz.func209.trans (congrArg some (by kernel_rfl))
 f331:=Tryz.func210.trans (congrArg some (by kernel_rfl))
 f332:=Tryz.func211.trans (congrArg some (by kernel_rfl))
 f343:=Tryz.func224.trans (congrArg some (by kernel_rfl))
 t0:=Tryz.underlying0
 a0:=Tryz.isAgg0
 z0:=Tryz.sizeOf0
 v0:=Tryz.zeroValue0
 t3:=Tryz.underlying3
 a3:=Tryz.isAgg3
 z3:=Tryz.sizeOf3
 v3:=Tryz.zeroValue3
 t4:=Tryz.underlying4
 a4:=Tryz.isAgg4
 z4:=Tryz.sizeOf4
 v4:=Tryz.zeroValue4
 t5:=Tryz.underlying5
 a5:=Tryz.isAgg5
 z5:=Tryz.sizeOf5
 v5:=Tryz.zeroValue5
 t9:=Tryz.underlying9
 a9:=Tryz.isAgg9
 z9:=Tryz.sizeOf9
 v9:=Tryz.zeroValue9
 t28:=Tryz.underlying33
 a28:=Tryz.isAgg33
 z28:=Tryz.sizeOf33
 v28:=Tryz.zeroValue33
 t46:=Tryz.underlying172
 a46:=Tryz.isAgg172
 z46:=Tryz.sizeOf172
 v46:=Tryz.zeroValue172
 t51:=Tryz.underlying127
 a51:=Tryz.isAgg127
 z51:=Tryz.sizeOf127
 v51:=Tryz.zeroValue127
 t53:=Tryz.underlying225
 a53:=Tryz.isAgg225
 z53:=Tryz.sizeOf225
 v53:=Tryz.zeroValue225
 t131:=Tryz.underlying106
 a131:=Tryz.isAgg106
 z131:=Tryz.sizeOf106
 v131:=Tryz.zeroValue106
 t182:=Tryz.underlying217
 a182:=Tryz.isAgg217
 z182:=Tryz.sizeOf217
 v182:=Tryz.zeroValue217
 t183:=Tryz.underlying218
 a183:=Tryz.isAgg218
 z183:=Tryz.sizeOf218
 v183:=Tryz.zeroValue218
 t218:=Tryz.underlying245
 a218:=Tryz.isAgg245
 z218:=Tryz.sizeOf245
 v218:=Tryz.zeroValue245
 t222:=Tryz.underlying249
 a222:=Tryz.isAgg249
 z222:=Tryz.sizeOf249
 v222:=Tryz.zeroValue249
 t228:=Tryz.underlying257
 a228:=Tryz.isAgg257
 z228:=Tryz.sizeOf257
 v228:=Tryz.zeroValue257
 t229:=Tryz.underlying198
 a229:=Tryz.isAgg198
 z229:=Tryz.sizeOf198
 v229:=Tryz.zeroValue198 }
open Go.Sort Go.RowKit in
theorem Tryz.slices_Sort_int(blk off cap:Nat)(zs:List Int)(w:World)(hH:Holds (Value.int .i64) w blk off zs.toArray)(hblk:blk<w.heap.size)(hsz:zs.length<4611686018427387904) :
  Calls Tryz.prog 57 #[.slice (some ⟨blk,off,none⟩) zs.length cap] w fun e w' =>
   e = .returned (.tuple #[])∧∃ n os,w'=grow (putRow (Value.int .i64) (Sort.ahead w n) blk off (zs.mergeSort fun x y=>decide (x≤y)).toArray) os:=Any.slices_Sort_int Tryz.lays189 blk off cap zs w hH hblk hsz
def Tryz.laysNm220_ren:Go.Shelf.Ren:=⟨fun | 20=>186 | n=>n,fun | 22=>33 | 3=>3 | 4=>4 | 0=>0 | n=>n,fun | n=>n⟩
theorem Tryz.laysNm220:Go.Proofs.Lays2.n20 Tryz.prog Tryz.laysNm220_ren:={
 mixed:=by kernel_rfl
 f20:=Tryz.func186.trans (congrArg some (by kernel_rfl))
 t0:=Tryz.underlying0
 a0:=Tryz.isAgg0
 z0:=Tryz.sizeOf0
 v0:=Tryz.zeroValue0
 t3:=Tryz.underlying3
 a3:=Tryz.isAgg3
 z3:=Tryz.sizeOf3
 v3:=Tryz.zeroValue3
 t4:=Tryz.underlying4
 a4:=Tryz.isAgg4
 z4:=Tryz.sizeOf4
 v4:=Tryz.zeroValue4
 t22:=Tryz.underlying33
 a22:=Tryz.isAgg33
 z22:=Tryz.sizeOf33
 v22:=Tryz.zeroValue33
 i3:=by kernel_rfl }
open Go.RowKit Go.Lib Go.Sort in
theorem Tryz.slices_Compact_int(blk off cap:Nat)(zs:List Int)(w:World)(hH:Holds (Value.int .i64) w blk off zs.toArray)(hsz:zs.length≤9223372036854775807)(hcap:zs.length≤cap) :
  Calls Tryz.prog 186 #[.slice (some ⟨blk,off,none⟩) zs.length cap] w fun e w'=>e = .returned (.slice (some ⟨blk,off,none⟩) (Lib.compact zs).length cap)∧∃ q,w'=putRow (Value.int .i64) (Sort.ahead w q) blk off (Lib.compact zs++List.replicate (zs.length-(Lib.compact zs).length) 0).toArray:=Any.slices_Compact_int Tryz.laysNm220 blk off cap zs w hH hsz hcap
open Go.RowKit Go.Lib Go.Sort in
theorem Tryz.slices_Compact_int_empty(a:Option Addr)(cap:Nat)(w:World) :
  Calls Tryz.prog 186 #[.slice a 0 cap] w fun e w'=>e = .returned (.slice a 0 cap)∧w'=w:=Any.slices_Compact_int_empty Tryz.laysNm220 a cap w
theorem Tryz.slices_Sort_int_none(p:Option Addr)(cap:Nat)(w:World) :
  Calls Tryz.prog 57 #[.slice p 0 cap] w fun e w'=>e = .returned (.tuple #[])∧w'=w:=Any.slices_Sort_int_none Tryz.lays189 p cap w
end Go.Proofs
end
section
namespace Go.Proofs
open Go.RowKit Go.Lib Go.Sort
namespace KL
def OwnI(w:World)(base:Nat)(v:Value)(l:List Int):Prop:=w.ownsRow base 3 1 v l.length (l.map (Value.int .i64))

def leB:Int→Int→Bool:=fun x y=>decide (x≤y)

theorem bEq(base:Nat)(v:Value)(l:List Int)(w:World)(hv:OwnI w base v l)(hlen:l.length≤1000000) :
  Calls Tryz.prog 57 #[v] w fun e w'=>e = .returned (.tuple #[])∧OwnI w' base v (l.mergeSort leB)∧w.grownBy w' v.ownBlock:=by
 have hown:=hv
 rcases hv.2 with ⟨rfl,h0⟩ | ⟨g,cap,cur,rfl,hb,hg,hn,hm,hs,ht⟩
 ·have:l=[]:=List.eq_nil_of_length_eq_zero h0
  subst this
  refine (Tryz.slices_Sort_int_none none 0 w).mono ?_
  rintro e w' ⟨rfl,rfl⟩
  exact ⟨rfl,by simpa using hown,World.grownBy.refl _ _⟩
 ·have hlt:=lt_of_block hg
  refine (Tryz.slices_Sort_int g 0 cap l w (holds_of_blockI hg (by simpa using ht)) hlt (by omega)).mono ?_
  rintro e w' ⟨rfl,n,os,rfl⟩
  refine ⟨rfl,?_,grownBy_sortedI _⟩
  have hl:(l.mergeSort leB).length=l.length:=List.length_mergeSort l
  unfold OwnI
  rw [hl]
  exact ownsRow_sortedI hl hb hg hn hm hs

end KL
open KL
namespace KV
open Go.Shelf
variable {P:Program} {C:Cx} {M:Mem} {w w':World}
abbrev oJ(l:List Int):AO := .row 3 l.length (l.map aA)
theorem bEr{F:Nat→Prop}{cur:Array Value}{l:List Int}(hle:l.length≤cur.size)(h:∀ j (hj:j<(l.map aA).length),cN F w (l.map aA)[j] (cur.getD j undef)):cur.toList.take l.length=l.map (Value.int .i64):=by
 apply List.ext_getElem
 ·simp;omega
 ·intro i h1 h2
  have hi:i<l.length:=by simpa using h2
  have:=h i (by simpa using hi)
  rw [List.getElem_map] at this
  rw [List.getElem_map,List.getElem_take]
  cases hx:cur.getD i undef with
  | int k z =>
   rw [hx] at this
   cases this
   rw [Array.getD_eq_getD_getElem?,Array.getElem?_eq_getElem (by omega)] at hx
   simpa using hx
  | _=>rw [hx] at this;cases this
theorem aJl(F:Nat→Prop){cur:Array Value}{l:List Int}(h:cur.toList.take l.length=l.map (Value.int .i64)):(∀ j (hj:j<(l.map aA).length),cN F w (l.map aA)[j] (cur.getD j undef))∧∀ j,j<(l.map aA).length→(cur.getD j undef).oneCell'=true:=by
 have key:∀ j (hj:j<l.length),cur.getD j undef = .int .i64 l[j]:=fun j hj=>by
  have h1:=congrArg (fun x=>x[j]?) h
  simp only [List.getElem?_take,hj,if_true,List.getElem?_map,List.getElem?_eq_getElem hj,Option.map_some,Array.getElem?_toList] at h1
  rw [Array.getD_eq_getD_getElem?,h1];rfl
 refine ⟨fun j hj => ?_,fun j hj => ?_⟩
 ·have hj':j<l.length:=by simpa using hj
  rw [List.getElem_map,key j hj'];exact .v _
 ·rw [key j (by simpa using hj)];rfl

theorem size3:∃ i,Tryz.prog.info? 3=some i∧i.size=1:=nC (show (Tryz.prog.info? 3).map (fun i=>i.size)=some 1 by kernel_rfl)
theorem bEs{id:Nat}{l:List Int}{u:Value}(hM:aV Tryz.prog C M w)(ho:M[id]? = some (some (oJ l)))(h:Rep C M w (.own id) u):OwnI w 0 u l:=by
 refine ⟨by simp,?_⟩
 cases h with
 | own _ _ h0 ha hr =>
  rcases hr _ _ _ ho with ⟨rfl,_,hn⟩ | ⟨b,rfl,hb⟩
  ·exact .inl ⟨rfl,hn⟩
  ·rcases hM.row _ _ _ _ ho with ⟨hn',_⟩ | ⟨b',arr,inf,hb',q1,q2,q3,q4,q5,q6,q7,q8⟩
   ·rw [hb] at hn';cases hn'
   ·rw [hb] at hb';cases hb'
    obtain ⟨i,hi,hs⟩:=size3
    rw [hi] at q2;cases q2
    exact .inr ⟨b,_,arr,rfl,Nat.zero_le _,q1,q5,q6,by rw [q3,hs],by rw [Nat.mul_one];exact bEr (by rw [q3,hs];omega) q7⟩

theorem aDo{l l':List Int}{u u':Value}{d:Bool}(hM:aV Tryz.prog C [some (oJ l)] w)(h:Rep C [some (oJ l)] w (.own 0) u)(hown:OwnI w' 0 u' l')(hg:w.grownBy w' u.ownBlock)
  (hb:u'.ownBlock=u.ownBlock) (hd:d=false→u'=u∧l'.length=l.length) :
  ∃ C',Fr C [some (oJ l)] w C' (if d then [some .dead,some (oJ l')] else [some (oJ l')]) w'∧aV Tryz.prog C' (if d then [some .dead,some (oJ l')] else [some (oJ l')]) w'∧Rep C' (if d then [some .dead,some (oJ l')] else [some (oJ l')]) w' (.own (if d then 1 else 0)) u':=by
 have at0:∀ (id:Nat) (o:AO),([some (oJ l)]:Mem)[id]? = some (some o)→id=0∧o=oJ l:=fun id o h=>by
  cases id with
  | zero=>simp at h;exact ⟨rfl,h.symm⟩
  | succ i=>simp at h
 have hblk:∀ b,C.ι 0=some b→u.ownBlock=some b∧∃ cap,u = .slice (some ⟨b,0,none⟩) l.length cap∧cap=C.κ 0:=fun b hb0=>by
  cases h with
  | own _ _ h0 ha hr =>
   rcases hr _ _ _ rfl with ⟨_,hn,_⟩ | ⟨b',rfl,hb'⟩
   ·rw [hb0] at hn;cases hn
   ·rw [hb0] at hb';cases hb';exact ⟨rfl,_,rfl,rfl⟩
 have hnb:C.ι 0=none→u = .slice none 0 0:=fun hn=>by
  cases h with
  | own _ _ h0 ha hr =>
   rcases hr _ _ _ rfl with ⟨hu,_,_⟩ | ⟨b',rfl,hb'⟩
   ·exact hu
   ·rw [hn] at hb';cases hb'
 have hkeep:∀ b,b<w.heap.size→(∀ (id:Nat) (o:AO),([some (oJ l)]:Mem)[id]? = some (some o)→o.live=true→C.ι id≠some b)→w'.heap[b]? = w.heap[b]? := fun b hb1 hn=>by
  refine hg.block b hb1 fun he => ?_
  cases hι:C.ι 0 with
  | none=>rw [hnb hι] at he;cases he
  | some b' =>
   rw [(hblk b' hι).1] at he;cases he
   exact hn 0 _ rfl rfl hι
 have hFz:∀ b,C.F b→w'.heap[b]? = w.heap[b]? := fun b hf=>hkeep b (hM.Fs b hf) fun id o hm hl he=>hM.nF id o b hm hl he hf
 cases d with
 | false =>
  obtain ⟨rfl,hlen⟩:=hd rfl
  simp only [Bool.false_eq_true,if_false]
  have at1:∀ (id:Nat) (o:AO),([some (oJ l')]:Mem)[id]? = some (some o)→id=0∧o=oJ l':=fun id o h=>by
   cases id with
   | zero=>simp at h;exact ⟨rfl,h.symm⟩
   | succ i=>simp at h
  have hblk':∀ b,C.ι 0=some b→∃ cur,w'.heap[b]? = some (.cells cur 3 (0,0))∧l'.length≤C.κ 0∧C.κ 0≤maxLen∧cur.size=C.κ 0∧cur.toList.take l'.length=l'.map (Value.int .i64):=fun b hι=>by
   obtain ⟨_,cap,hu,hc⟩:=hblk b hι
   rcases hown.2 with ⟨he,_⟩ | ⟨g,cap',cur,hv,_,hh,r1,r2,r3,r4⟩
   ·rw [hu] at he;cases he
   ·rw [hu] at hv
    obtain ⟨e1,_,e3⟩:=Value.slice.inj hv
    cases e1
    subst e3
    subst hc
    exact ⟨cur,hh,r1,r2,by omega,by simpa using r4⟩
  refine ⟨C,⟨hg.os,hg.tape,hg.output,hg.size,hkeep,fun id o hm => ?_,fun id o hm ty n cs hx => ?_,fun id o hm o' hx hl => ?_,fun id o b hm hl hb => ?_,fun _ h=>h,fun _ h => .inl h⟩,
   ⟨fun id ty n cs hm => ?_,fun id ty cs hm => ?_,fun id es cl hm => ?_,fun id id' o o' b h1 _ h2 _ _ _ => ?_,fun id o b hm hl hb => ?_,fun b hb=>Nat.lt_of_lt_of_le (hM.Fs b hb) hg.size,fun id o b hm hl hb => ?_⟩,?_⟩
  ·obtain ⟨rfl,rfl⟩:=at0 id o hm
   exact ⟨⟨_,rfl⟩,rfl,rfl⟩
  ·obtain ⟨rfl,rfl⟩:=at0 id o hm
   obtain ⟨_,he⟩:=at1 _ _ hx
   cases he
   exact ⟨l.map aA,by rw [hlen];rfl⟩
  ·obtain ⟨rfl,rfl⟩:=at0 id o hm
   rfl
  ·obtain ⟨rfl,rfl⟩:=at1 id o hm
   exact .inr ⟨0,_,rfl,rfl,hb⟩
  ·obtain ⟨rfl,he⟩:=at1 id _ hm
   cases he
   cases hι:C.ι 0 with
   | none =>
    have:=hnb hι
    rcases hown.2 with ⟨_,h0⟩ | ⟨g,cap',cur,hv,_⟩
    ·have:l'=[]:=List.eq_nil_of_length_eq_zero h0
     subst this
     exact .inl ⟨rfl,rfl,rfl⟩
    ·rw [this] at hv;cases hv
   | some b =>
    obtain ⟨cur,q1,q2,q3,q4,q5⟩:=hblk' b hι
    obtain ⟨i,hi,hs⟩:=size3
    obtain ⟨r1,r2⟩:=aJl (w:=w') C.F q5
    exact .inr ⟨b,cur,i,rfl,q1,hi,by rw [hs,q4,Nat.mul_one],by simp [hs],q2,q3,r1,r2⟩
  ·obtain ⟨_,he⟩:=at1 id _ hm;cases he
  ·obtain ⟨_,he⟩:=at1 id _ hm;cases he
  ·obtain ⟨rfl,_⟩:=at1 id _ h1
   obtain ⟨rfl,_⟩:=at1 id' _ h2
   rfl
  ·obtain ⟨rfl,_⟩:=at1 id _ hm
   exact hM.nF 0 _ b rfl rfl hb
  ·obtain ⟨rfl,_⟩:=at1 id _ hm
   exact Nat.lt_of_lt_of_le (hM.lt 0 _ b rfl rfl hb) hg.size
  ·cases h with
   | own _ _ h0 ha hr =>
    refine .own 0 _ h0 ⟨_,rfl⟩ fun ty n cs hx => ?_
    obtain ⟨_,he⟩:=at1 0 _ hx
    cases he
    rcases hr _ _ _ rfl with ⟨q1,q2,q3⟩ | ⟨b,q1,q2⟩
    ·exact .inl ⟨q1,q2,by omega⟩
    ·exact .inr ⟨b,by rw [q1,hlen],q2⟩
 | true =>
  simp only [if_true]
  let cap':Nat:=match u' with | .slice _ _ c=>c | _=>0
  have at1:∀ (id:Nat) (o:AO),([some .dead,some (oJ l')]:Mem)[id]? = some (some o)→(id=0∧o = .dead)∨(id=1∧o=oJ l'):=fun id o h=>by
   match id,h with
   | 0,h=>simp at h;exact .inl ⟨rfl,h.symm⟩
   | 1,h=>simp at h;exact .inr ⟨rfl,h.symm⟩
   | i+2,h=>simp at h
  refine ⟨{ ι:=fun i=>if i=1 then u'.ownBlock else C.ι i,κ:=fun i=>if i=1 then cap' else C.κ i,F:=C.F },⟨hg.os,hg.tape,hg.output,hg.size,hkeep,fun id o hm => ?_,fun id o hm ty n cs hx => ?_,fun id o hm o' hx hl => ?_,fun id o b hm hl hbb => ?_,fun _ h=>h,fun _ h => .inl h⟩,
   ⟨fun id ty n cs hm => ?_,fun id ty cs hm => ?_,fun id es cl hm => ?_,fun id id' o o' b h1 l1 h2 l2 _ _ => ?_,fun id o b hm hl hbb => ?_,fun b hb=>Nat.lt_of_lt_of_le (hM.Fs b hb) hg.size,fun id o b hm hl hbb => ?_⟩,?_⟩
  ·obtain ⟨rfl,rfl⟩:=at0 id o hm
   exact ⟨⟨_,rfl⟩,rfl,rfl⟩
  ·obtain ⟨rfl,rfl⟩:=at0 id o hm
   rcases at1 _ _ hx with ⟨_,he⟩ | ⟨he,_⟩
   ·cases he
   ·cases he
  ·obtain ⟨rfl,rfl⟩:=at0 id o hm
   rfl
  ·rcases at1 id o hm with ⟨rfl,rfl⟩ | ⟨rfl,rfl⟩
   ·cases hl
   ·simp only [if_true] at hbb
    rw [hb] at hbb
    cases hι:C.ι 0 with
    | none=>rw [hnb hι] at hbb;cases hbb
    | some b' =>
     rw [(hblk b' hι).1] at hbb;cases hbb
     exact .inr ⟨0,_,rfl,rfl,hι⟩
  ·rcases at1 id _ hm with ⟨_,he⟩ | ⟨rfl,he⟩
   ·cases he
   ·cases he
    simp only [if_true]
    rcases hown.2 with ⟨rfl,h0⟩ | ⟨g,cp,cur,rfl,_,hh,r1,r2,r3,r4⟩
    ·have:l'=[]:=List.eq_nil_of_length_eq_zero h0
     subst this
     exact .inl ⟨rfl,rfl,rfl⟩
    ·obtain ⟨i,hi,hs⟩:=size3
     obtain ⟨q1,q2⟩:=aJl (w:=w') C.F (by simpa using r4)
     exact .inr ⟨g,cur,i,rfl,hh,hi,by rw [hs];exact r3,by simp [hs],r1,r2,q1,q2⟩
  ·rcases at1 id _ hm with ⟨_,he⟩ | ⟨_,he⟩ <;> cases he
  ·rcases at1 id _ hm with ⟨_,he⟩ | ⟨_,he⟩ <;> cases he
  ·rcases at1 id _ h1 with ⟨_,rfl⟩ | ⟨rfl,_⟩
   ·cases l1
   ·rcases at1 id' _ h2 with ⟨_,rfl⟩ | ⟨rfl,_⟩
    ·cases l2
    ·rfl
  ·rcases at1 id _ hm with ⟨_,rfl⟩ | ⟨rfl,_⟩
   ·cases hl
   ·simp only [if_true] at hbb
    rw [hb] at hbb
    cases hι:C.ι 0 with
    | none=>rw [hnb hι] at hbb;cases hbb
    | some b' =>
     rw [(hblk b' hι).1] at hbb;cases hbb
     exact hM.nF 0 _ _ rfl rfl hι
  ·rcases at1 id _ hm with ⟨_,rfl⟩ | ⟨rfl,_⟩
   ·cases hl
   ·simp only [if_true] at hbb
    rw [hb] at hbb
    cases hι:C.ι 0 with
    | none=>rw [hnb hι] at hbb;cases hbb
    | some b' =>
     rw [(hblk b' hι).1] at hbb;cases hbb
     exact Nat.lt_of_lt_of_le (hM.lt 0 _ _ rfl rfl hι) hg.size
  ·have h0:u'.oneCell'=true:=by
    rcases hown.2 with ⟨rfl,_⟩ | ⟨g,cp,cur,rfl,_⟩ <;> rfl
   refine .own 1 _ h0 ⟨_,rfl⟩ fun ty n cs hx => ?_
   rcases at1 _ _ hx with ⟨he,_⟩ | ⟨_,he⟩
   ·cases he
   ·cases he
    simp only [if_true]
    rcases hown.2 with ⟨rfl,h9⟩ | ⟨g,cp,cur,rfl,_⟩
    ·exact .inl ⟨rfl,rfl,h9⟩
    ·exact .inr ⟨g,rfl,rfl⟩

theorem bEt(l:List Int)(hl:l.length≤1000000):FMM Tryz.prog 57 [.own 0] [some (oJ l)] (.tup []) [some (oJ (l.mergeSort leB))]:=fun C w us hus hM n=>by
 obtain ⟨u,rfl,hu⟩:=tK hus
 refine (callsIn_wide.2 (bEq 0 u l w (bEs hM rfl hu) hl)).mono ?_
 rintro e w' ⟨rfl,h1,h2⟩
 obtain ⟨C',f,m,_⟩:=aDo (d:=false) hM hu h1 h2 rfl (fun _=>⟨rfl,List.length_mergeSort l⟩)
 exact ⟨_,rfl,C',f,m,.tup [] #[] rfl (fun i h=>by simp at h)⟩
theorem aAn(l:List Int):(Lib.compact l).length≤l.length:=by
 unfold Lib.compact Lib.compactUpTo
 rw [List.length_map]
 exact Nat.le_trans (List.length_filter_le _ _) (by simp)
theorem aJm(base:Nat)(v:Value)(l:List Int)(w:World)(hv:KL.OwnI w base v l)(hlen:l.length≤1000000) :
  Calls Tryz.prog 186 #[v] w fun e w'=>∃ p' n' cap',e = .returned (.slice p' n' cap')∧n'=(Lib.compact l).length∧KL.OwnI w' base (.slice p' n' cap') (Lib.compact l)∧w.grownBy w' v.ownBlock∧((Value.slice p' n' cap').ownBlock=v.ownBlock):=by
 have hown:=hv
 rcases hv.2 with ⟨rfl,h0⟩ | ⟨b,cap,cur,rfl,hb,hg,hn,hm,hs,ht⟩
 ·have:l=[]:=List.eq_nil_of_length_eq_zero h0
  subst this
  refine (Tryz.slices_Compact_int_empty none 0 w).mono ?_
  rintro e w' ⟨rfl,rfl⟩
  exact ⟨_,_,_,rfl,rfl,hown,World.grownBy.refl _ _,rfl⟩
 ·refine (Tryz.slices_Compact_int b 0 cap l w (holds_of_blockI hg (by simpa using ht)) (by omega) (by simpa using hn)).mono ?_
  rintro e w' ⟨rfl,q,rfl⟩
  have hfl:=aAn l
  refine ⟨_,_,_,rfl,rfl,?_,?_,rfl⟩
  ·have:=ownsRow_putRow (enc:=Value.int .i64) (q:=q) (k:=(Lib.compact l).length) (ys:=Lib.compact l++List.replicate (l.length-(Lib.compact l).length) 0) hown (by simp;omega) hfl
   unfold KL.OwnI
   simpa using this
  ·exact grownBy_sortedI (os := #[]) (n:=q) (g:=b) (w:=w) ((Lib.compact l++List.replicate (l.length-(Lib.compact l).length) 0).toArray)
theorem aJn(l:List Int)(hl:l.length≤1000000):FMM Tryz.prog 186 [.own 0] [some (.row 3 l.length (l.map aA))] (.own 1) [some .dead,some (.row 3 (Lib.compact l).length ((Lib.compact l).map aA))]:=fun C w us hus hM n=>by
 obtain ⟨u,rfl,hu⟩:=tK hus
 refine (callsIn_wide.2 (aJm 0 u l w (bEs hM rfl hu) hl)).mono ?_
 rintro e w' ⟨p',n',cap',rfl,h0,h1,h2,h3⟩
 obtain ⟨C',f,m,r⟩:=aDo (d:=true) hM hu h1 h2 h3 (fun h=>by cases h)
 exact ⟨_,rfl,C',f,m,r⟩
end KV
end Go.Proofs
end
namespace Go.Proofs
namespace KV
section

noncomputable abbrev pO:Code:=sub (cd Tryz.f142) [1,1,0,1,0,0]
noncomputable abbrev vB:Code:=sub (cd Tryz.f141) [1,0,1,0,0]
noncomputable abbrev vC:Code:=sub (cd Tryz.f141) [1,0,1,0,0,1,1,0,0,1,1,1,1,1,0,0]
theorem aEz:0≤(0:Int)∧(0:Int)<(2:Int):=by first | decide | simp
theorem aFa:0≤(1:Int)∧(1:Int)<(2:Int):=by first | decide | simp
def gJ(al:List fC)(s:Nat)(t:Int)(few:Nat)(many:Nat)(i:Nat):St:=⟨fr 39 [(1,(.p (aA (s:Int)))),(2,(.p (aA t))),(6,(.p (aA 0))),(7,(.p (aA 0))),(8,(.p (aA (few:Int)))),(9,(.p (aA (many:Int)))),(12,(.p (.sl al.length ((al.map hpE).flatten)))),(13,(.p (aA (al.length:Int)))),(14,(.p (aA (i:Int))))],[]⟩
theorem bQc{al:List fC}{s:Nat}{t:Int}{few'0 many'1 i'2:Nat}(hl0:aF Tryz.prog 0 pO (gJ al s t 0 0 0) (.exit 0) (gJ al s t few'0 many'1 i'2)){base:Nat}:FV Tryz.prog 142 [(.p (.sl al.length ((al.map hpE).flatten))),(.p (aA (s:Int))),(.p (aA t))] base (.tup [(.p (aA (few'0:Int))),(.p (aA (many'1:Int)))]) []:=by
 exact FV.fin Tryz.func142 rfl (o:=[.k 8 ⟨(rng [(0,1),(3,3),(10,2),(15,22)]),[],[],[]⟩ (.exit 0) (gJ al s t few'0 many'1 i'2)]) (l:=[_]) (by kernel_rfl) (gc hl0.code gn)
theorem aVz{al:List fC}{s:Nat}{t:Int}{few many i:Nat}{c100:List cK}{mn101 mx102:Int}{i':Nat}(h0:(i:Int)<(al.length:Int))(h1:al[i]? = some (c100,mn101,mx102))(h2:(i:Int)=(s:Int))(h3:inR (((i+1):Nat):Int))(ei':i'=(i+1)):aC Tryz.prog 0 pO (gJ al s t few many i) .normal (gJ al s t few many i'):=by
 subst ei'
 exact aC.fin (g:=⟨(rng [(0,1),(3,3),(10,2),(15,22)]),[],[],[]⟩) (o:=[bT,.x (.agg [(.sl c100.length ((c100.map chE).flatten)),(aA mn101),(aA mx102)]),bT]) (l:=[_,_,some (.agg ((((al.map hpE).flatten).drop (i*3)).take 3):PV)=some (.agg [(.sl c100.length ((c100.map chE).flatten)),(aA mn101),(aA mx102)]),(i*3)+3≤((al.map hpE).flatten).length,0≤(i:Int)∧(i:Int)<(al.length:Int)∧(i*3)<((al.map hpE).flatten).length,_]) (by kernel_rfl) (gc h3 (gc (bE h2) (gc (lQ (E:=hpE) (i:=i) (k:=3) (fun _=>rfl) h1 rfl) (gc (sI (E:=hpE) (i:=i) (k:=3) (fun _=>rfl) h1) (gc (pY (E:=hpE) (k:=3) (i:=(i:Int)) (fun _=>rfl) (by decide) (Int.natCast_nonneg _) h1) (gc (aL h0) gn))))))
theorem aWa{al:List fC}{s:Nat}{t:Int}{few many i:Nat}{c100:List cK}{mn101 mx102:Int}{few' many' i':Nat}(h0:(i:Int)<(al.length:Int))(h1:al[i]? = some (c100,mn101,mx102))(h2:(i:Int)≠(s:Int))(h3:mx102<t)(h4:inR (((few+1):Nat):Int))(h5:mn101<t)(h6:inR (((many+1):Nat):Int))(h7:inR (((i+1):Nat):Int))(efew':few'=(few+1))(emany':many'=(many+1))(ei':i'=(i+1)):aC Tryz.prog 0 pO (gJ al s t few many i) .normal (gJ al s t few' many' i'):=by
 subst efew' emany' ei'
 exact aC.fin (g:=⟨(rng [(0,1),(3,3),(10,2),(15,22)]),[],[],[]⟩) (o:=[bT,.x (.agg [(.sl c100.length ((c100.map chE).flatten)),(aA mn101),(aA mx102)]),bF,bT,bT]) (l:=[_,_,_,_,_,_,_,_,some (.agg ((((al.map hpE).flatten).drop (i*3)).take 3):PV)=some (.agg [(.sl c100.length ((c100.map chE).flatten)),(aA mn101),(aA mx102)]),(i*3)+3≤((al.map hpE).flatten).length,0≤(i:Int)∧(i:Int)<(al.length:Int)∧(i*3)<((al.map hpE).flatten).length,_]) (by kernel_rfl) (gc h7 (gc h6 (gc (aL h5) (gc aEz (gc h4 (gc (aL h3) (gc aFa (gc (aU h2) (gc (lQ (E:=hpE) (i:=i) (k:=3) (fun _=>rfl) h1 rfl) (gc (sI (E:=hpE) (i:=i) (k:=3) (fun _=>rfl) h1) (gc (pY (E:=hpE) (k:=3) (i:=(i:Int)) (fun _=>rfl) (by decide) (Int.natCast_nonneg _) h1) (gc (aL h0) gn))))))))))))
theorem aWb{al:List fC}{s:Nat}{t:Int}{few many i:Nat}{c100:List cK}{mn101 mx102:Int}{few' i':Nat}(h0:(i:Int)<(al.length:Int))(h1:al[i]? = some (c100,mn101,mx102))(h2:(i:Int)≠(s:Int))(h3:mx102<t)(h4:inR (((few+1):Nat):Int))(h5:t≤mn101)(h6:inR (((i+1):Nat):Int))(efew':few'=(few+1))(ei':i'=(i+1)):aC Tryz.prog 0 pO (gJ al s t few many i) .normal (gJ al s t few' many i'):=by
 subst efew' ei'
 exact aC.fin (g:=⟨(rng [(0,1),(3,3),(10,2),(15,22)]),[],[],[]⟩) (o:=[bT,.x (.agg [(.sl c100.length ((c100.map chE).flatten)),(aA mn101),(aA mx102)]),bF,bT,bF]) (l:=[_,_,_,_,_,_,_,some (.agg ((((al.map hpE).flatten).drop (i*3)).take 3):PV)=some (.agg [(.sl c100.length ((c100.map chE).flatten)),(aA mn101),(aA mx102)]),(i*3)+3≤((al.map hpE).flatten).length,0≤(i:Int)∧(i:Int)<(al.length:Int)∧(i*3)<((al.map hpE).flatten).length,_]) (by kernel_rfl) (gc h6 (gc (aE h5) (gc aEz (gc h4 (gc (aL h3) (gc aFa (gc (aU h2) (gc (lQ (E:=hpE) (i:=i) (k:=3) (fun _=>rfl) h1 rfl) (gc (sI (E:=hpE) (i:=i) (k:=3) (fun _=>rfl) h1) (gc (pY (E:=hpE) (k:=3) (i:=(i:Int)) (fun _=>rfl) (by decide) (Int.natCast_nonneg _) h1) (gc (aL h0) gn)))))))))))
theorem aWc{al:List fC}{s:Nat}{t:Int}{few many i:Nat}{c100:List cK}{mn101 mx102:Int}{many' i':Nat}(h0:(i:Int)<(al.length:Int))(h1:al[i]? = some (c100,mn101,mx102))(h2:(i:Int)≠(s:Int))(h3:t≤mx102)(h4:mn101<t)(h5:inR (((many+1):Nat):Int))(h6:inR (((i+1):Nat):Int))(emany':many'=(many+1))(ei':i'=(i+1)):aC Tryz.prog 0 pO (gJ al s t few many i) .normal (gJ al s t few many' i'):=by
 subst emany' ei'
 exact aC.fin (g:=⟨(rng [(0,1),(3,3),(10,2),(15,22)]),[],[],[]⟩) (o:=[bT,.x (.agg [(.sl c100.length ((c100.map chE).flatten)),(aA mn101),(aA mx102)]),bF,bF,bT]) (l:=[_,_,_,_,_,_,_,some (.agg ((((al.map hpE).flatten).drop (i*3)).take 3):PV)=some (.agg [(.sl c100.length ((c100.map chE).flatten)),(aA mn101),(aA mx102)]),(i*3)+3≤((al.map hpE).flatten).length,0≤(i:Int)∧(i:Int)<(al.length:Int)∧(i*3)<((al.map hpE).flatten).length,_]) (by kernel_rfl) (gc h6 (gc h5 (gc (aL h4) (gc aEz (gc (aE h3) (gc aFa (gc (aU h2) (gc (lQ (E:=hpE) (i:=i) (k:=3) (fun _=>rfl) h1 rfl) (gc (sI (E:=hpE) (i:=i) (k:=3) (fun _=>rfl) h1) (gc (pY (E:=hpE) (k:=3) (i:=(i:Int)) (fun _=>rfl) (by decide) (Int.natCast_nonneg _) h1) (gc (aL h0) gn)))))))))))
theorem aWd{al:List fC}{s:Nat}{t:Int}{few many i:Nat}{c100:List cK}{mn101 mx102:Int}{i':Nat}(h0:(i:Int)<(al.length:Int))(h1:al[i]? = some (c100,mn101,mx102))(h2:(i:Int)≠(s:Int))(h3:t≤mx102)(h4:t≤mn101)(h5:inR (((i+1):Nat):Int))(ei':i'=(i+1)):aC Tryz.prog 0 pO (gJ al s t few many i) .normal (gJ al s t few many i'):=by
 subst ei'
 exact aC.fin (g:=⟨(rng [(0,1),(3,3),(10,2),(15,22)]),[],[],[]⟩) (o:=[bT,.x (.agg [(.sl c100.length ((c100.map chE).flatten)),(aA mn101),(aA mx102)]),bF,bF,bF]) (l:=[_,_,_,_,_,_,some (.agg ((((al.map hpE).flatten).drop (i*3)).take 3):PV)=some (.agg [(.sl c100.length ((c100.map chE).flatten)),(aA mn101),(aA mx102)]),(i*3)+3≤((al.map hpE).flatten).length,0≤(i:Int)∧(i:Int)<(al.length:Int)∧(i*3)<((al.map hpE).flatten).length,_]) (by kernel_rfl) (gc h5 (gc (aE h4) (gc aEz (gc (aE h3) (gc aFa (gc (aU h2) (gc (lQ (E:=hpE) (i:=i) (k:=3) (fun _=>rfl) h1 rfl) (gc (sI (E:=hpE) (i:=i) (k:=3) (fun _=>rfl) h1) (gc (pY (E:=hpE) (k:=3) (i:=(i:Int)) (fun _=>rfl) (by decide) (Int.natCast_nonneg _) h1) (gc (aL h0) gn))))))))))
theorem aWe{al:List fC}{s:Nat}{t:Int}{few many i:Nat}(h0:(al.length:Int)≤(i:Int)):aC Tryz.prog 0 pO (gJ al s t few many i) (.exit 0) (gJ al s t few many i):=by
 exact aC.fin (g:=⟨(rng [(0,1),(3,3),(10,2),(15,22)]),[],[],[]⟩) (o:=[bF]) (l:=[_]) (by kernel_rfl) (gc (aE h0) gn)
def iB(al:List fC)(s:Nat)(t:Int):Nat→Nat × Nat
 | 0=>(0,0)
 | i+1=>match al[i]? with
  | some h=>if i=s then iB al s t i else ((if h.2.2<t then (iB al s t i).1+1 else (iB al s t i).1),(if h.2.1<t then (iB al s t i).2+1 else (iB al s t i).2))
  | none=>iB al s t i
abbrev cY(al:List fC)(s:Nat)(t:Int):Nat × Nat:=iB al s t al.length
theorem nD(al:List fC)(s:Nat)(t:Int):∀ i,(iB al s t i).1≤i∧(iB al s t i).2≤i
 | 0=>⟨Nat.le_refl _,Nat.le_refl _⟩
 | i+1=>by
  have:=nD al s t i
  unfold iB
  split
  ·split
   ·omega
   ·dsimp only
    split <;> split <;> omega
  ·omega
theorem bQd(al:List fC)(s:Nat)(t:Int)(hl:al.length≤1000){base:Nat}:FV Tryz.prog 142 [.p (.sl al.length (al.map hpE).flatten),.p (aA s),.p (aA t)] base (.tup [.p (aA ((cY al s t).1:Nat)),.p (aA ((cY al s t).2:Nat))]) []:=by
 obtain ⟨a,hI,hL⟩:=aF.ex (P:=Tryz.prog) (k:=0) (b:=pO) (e := .exit 0) (fun i (a:Nat × Nat)=>gJ al s t a.1 a.2 i) (fun a=>gJ al s t a.1 a.2 al.length) (fun i a=>a=iB al s t i) (by simp) al.length
  (fun i a hi ha=>by
   obtain ⟨⟨c,mn,mx⟩,hx⟩:∃ x,al[i]? = some x:=⟨_,List.getElem?_eq_getElem hi⟩
   have hle:=nD al s t i
   refine ⟨_,rfl,?_⟩
   subst ha
   have e:iB al s t (i+1)=if i=s then iB al s t i else ((if mx<t then (iB al s t i).1+1 else (iB al s t i).1),(if mn<t then (iB al s t i).2+1 else (iB al s t i).2)):=by
    conv=>lhs;unfold iB
    rw [hx]
   rw [e]
   by_cases his:i=s
   ·rw [if_pos his];exact aVz (by omega) hx (by omega) (aR (by omega)) rfl
   ·rw [if_neg his]
    by_cases h1:mx<t <;> by_cases h2:mn<t
    ·rw [if_pos h1,if_pos h2];exact aWa (by omega) hx (by omega) h1 (aR (by omega)) h2 (aR (by omega)) (aR (by omega)) rfl rfl rfl
    ·rw [if_pos h1,if_neg h2];exact aWb (by omega) hx (by omega) h1 (aR (by omega)) (by omega) (aR (by omega)) rfl rfl
    ·rw [if_neg h1,if_pos h2];exact aWc (by omega) hx (by omega) (by omega) h2 (aR (by omega)) (aR (by omega)) rfl rfl
    ·rw [if_neg h1,if_neg h2];exact aWd (by omega) hx (by omega) (by omega) (by omega) (aR (by omega)) rfl)
  (fun a _=>aWe (by omega)) (acc:=(0,0)) rfl
 subst hI
 exact bQc hL
def jR(al:List fC)(s:Nat)(c0:List cK)(on:Nat)(oc:List PV)(ou:Bool)(inn:Bool)(i:Nat):St:=⟨fr 51 [(0,(.p (.sl al.length ((al.map hpE).flatten)))),(1,(.p (aA (s:Int)))),(4,(.own 0)),(5,(.p (blP ou))),(6,(.p (blP inn))),(16,(.p (.sl c0.length ((c0.map chE).flatten)))),(17,(.p (aA (c0.length:Int)))),(18,(.p (aA (i:Int))))],[some (.row 3 on oc)]⟩
theorem bQe{al:List fC}{s:Nat}{c0:List cK}{mn1 mx2:Int}{o'3:List Int}{ou'4 inn'5:Bool}{i'6:Nat}(h0:al[s]? = some (c0,mn1,mx2))(hl1:aF Tryz.prog 0 vB (jR al s c0 0 [] false false 0) (.exit 0) (jR al s c0 o'3.length (o'3.map aA) ou'4 inn'5 i'6))(h2:o'3.length≤1000000)(h3:(o'3.mergeSort KL.leB).length≤1000000){base:Nat}:FV Tryz.prog 141 [(.p (.sl al.length ((al.map hpE).flatten))),(.p (aA (s:Int)))] base (.tup [(.p (aJ (Lib.compact (o'3.mergeSort KL.leB)))),(.p (blP ou'4)),(.p (blP inn'5))]) []:=by
 exact FV.frz (FMM.fin (k:=0) (g:=⟨[],[],[1],[]⟩) rfl Tryz.func141 rfl (o:=[.x (.sl c0.length ((c0.map chE).flatten)),.k 1 ⟨(rng [(2,2),(7,9),(19,26),(46,1)]),[0],[],[(4,3),(5,0),(6,0)]⟩ (.exit 0) (jR al s c0 o'3.length (o'3.map aA) ou'4 inn'5 i'6),.c (.tup []) [(0,(.row 3 ((o'3.mergeSort KL.leB).length) ((o'3.mergeSort KL.leB).map aA)))],.c (.own 1) [(0,.dead),(1,(.row 3 ((Lib.compact (o'3.mergeSort KL.leB)).length) ((Lib.compact (o'3.mergeSort KL.leB)).map aA)))]]) (l:=[FC Tryz.prog 186 [(.own 0)] [(0,(.row 3 ((o'3.mergeSort KL.leB).length) ((o'3.mergeSort KL.leB).map aA)))] 1 (.own 1) [(0,.dead),(1,(.row 3 ((Lib.compact (o'3.mergeSort KL.leB)).length) ((Lib.compact (o'3.mergeSort KL.leB)).map aA)))],FC Tryz.prog 57 [(.own 0)] [(0,(.row 3 o'3.length (o'3.map aA)))] 1 (.tup []) [(0,(.row 3 ((o'3.mergeSort KL.leB).length) ((o'3.mergeSort KL.leB).map aA)))],_,((al.map hpE).flatten)[(s*3)]? = some (.sl c0.length ((c0.map chE).flatten)),0≤(s:Int)∧(s:Int)<(al.length:Int)∧(s*3)<((al.map hpE).flatten).length]) (by kernel_rfl) (gc (FMM.fc (ids:=[0]) (aJn (o'3.mergeSort KL.leB) h3) (by kernel_rfl)) (gc (FMM.fc (ids:=[0]) (bEt o'3 h2) (by kernel_rfl)) (gc hl1.code (gc (aZi (E:=hpE) (i:=s) (f:=0) (k:=3) (fun _=>rfl) h0 rfl) (gc (pY (E:=hpE) (k:=3) (i:=(s:Int)) (fun _=>rfl) (by decide) (Int.natCast_nonneg _) h0) gn)))))) (by kernel_rfl)
def jS(al:List fC)(s:Nat)(c0:List cK)(ou:Bool)(i:Nat)(t100:Int)(b101:Bool)(q102:List Int)(on:Nat)(oc:List PV)(n:Nat):St:=⟨fr 51 [(0,(.p (.sl al.length ((al.map hpE).flatten)))),(1,(.p (aA (s:Int)))),(4,(.own 0)),(5,(.p (blP ou))),(6,(.kb true)),(8,(.ptr 1 0)),(9,(.p (aA (((cY al s t100).1:Nat):Int)))),(10,(.p (aA (((cY al s t100).2:Nat):Int)))),(11,(.p (aA (n:Int)))),(16,(.p (.sl c0.length ((c0.map chE).flatten)))),(17,(.p (aA (c0.length:Int)))),(18,(.p (aA (i:Int)))),(19,(.p (blP (decide ((i:Int)<(c0.length:Int)))))),(20,(.rp ((c0.map chE).flatten) (i*3))),(21,(.p (.agg [(aA t100),(blP b101),(aJ q102)]))),(22,(.ptr 1 1)),(23,(.p (blP b101))),(24,(.tup [(.p (aA (((cY al s t100).1:Nat):Int))),(.p (aA (((cY al s t100).2:Nat):Int)))])),(25,(.p (.sl al.length ((al.map hpE).flatten)))),(26,(.p (aA (s:Int)))),(27,(.ptr 1 0)),(28,(.p (aA t100))),(29,(.tup [(.p (aA (((cY al s t100).1:Nat):Int))),(.p (aA (((cY al s t100).2:Nat):Int)))])),(30,(.p (aA (((cY al s t100).1:Nat):Int)))),(31,(.p (aA (((cY al s t100).2:Nat):Int)))),(32,(.p (aA (((cY al s t100).1:Nat):Int)))),(33,(.p (aA ((((cY al s t100).1+1):Nat):Int))))],[some (.row 3 on oc),some (.box 197 [(.p (aA t100)),(.p (blP b101)),(.p (aJ q102))])]⟩
theorem aWf{al:List fC}{s:Nat}{c0:List cK}{o:List Int}{ou inn:Bool}{i:Nat}{t100:Int}{b101:Bool}{q102:List Int}{i':Nat}(h0:(i:Int)<(c0.length:Int))(h1:c0[i]? = some (t100,b101,q102))(h2:b101=true)(h3:inR (((i+1):Nat):Int))(ei':i'=(i+1)):aC Tryz.prog 0 vB (jR al s c0 o.length (o.map aA) ou inn i) .normal (jR al s c0 o.length (o.map aA) true inn i'):=by
 subst ei'
 exact aC.fin (g:=⟨(rng [(2,2),(7,9),(19,26),(46,1)]),[0],[],[(5,0)]⟩) (o:=[bT,.x (.agg [(aA t100),(blP b101),(aJ q102)]),bT]) (l:=[_,_,some (.agg ((((c0.map chE).flatten).drop (i*3)).take 3):PV)=some (.agg [(aA t100),(blP b101),(aJ q102)]),(i*3)+3≤((c0.map chE).flatten).length,0≤(i:Int)∧(i:Int)<(c0.length:Int)∧(i*3)<((c0.map chE).flatten).length,_]) (by kernel_rfl) (gc h3 (gc h2 (gc (lQ (E:=chE) (i:=i) (k:=3) (fun _=>rfl) h1 rfl) (gc (sI (E:=chE) (i:=i) (k:=3) (fun _=>rfl) h1) (gc (pY (E:=chE) (k:=3) (i:=(i:Int)) (fun _=>rfl) (by decide) (Int.natCast_nonneg _) h1) (gc (aL h0) gn))))))
theorem aWg{al:List fC}{s:Nat}{c0:List cK}{o:List Int}{ou inn:Bool}{i:Nat}{t100:Int}{b101:Bool}{q102 o'103:List Int}{n'104:Nat}{o':List Int}{i':Nat}(h0:(i:Int)<(c0.length:Int))(h1:c0[i]? = some (t100,b101,q102))(h2:b101=false)(h3:al.length≤1000)(h4:inR ((((cY al s t100).1+1):Nat):Int))(hl5:aF Tryz.prog 0 vC (jS al s c0 ou i t100 b101 q102 o.length (o.map aA) ((cY al s t100).1+1)) (.exit 2) (jS al s c0 ou i t100 b101 q102 o'103.length (o'103.map aA) n'104))(h6:inR (((i+1):Nat):Int))(eo'n:o'.length=o'103.length)(eo'c:o'.map aA=(o'103.map aA))(ei':i'=(i+1)):aC Tryz.prog 0 vB (jR al s c0 o.length (o.map aA) ou inn i) .normal (jR al s c0 o'.length (o'.map aA) ou true i'):=by
 subst ei'
 have raw:aC Tryz.prog 0 vB (jR al s c0 o.length (o.map aA) ou inn i) .normal (jR al s c0 o'103.length (o'103.map aA) ou true (i+1)):=aC.fin (g:=⟨(rng [(2,2),(7,9),(19,26),(46,1)]),[0],[],[(6,0)]⟩) (o:=[bT,.x (.agg [(aA t100),(blP b101),(aJ q102)]),bF,.c (.tup [(.p (aA (((cY al s t100).1:Nat):Int))),(.p (aA (((cY al s t100).2:Nat):Int)))]) [],.k 3 ⟨(rng [(2,2),(7,1),(12,4),(34,10),(46,1)]),[0,1],[],[]⟩ (.exit 2) (jS al s c0 ou i t100 b101 q102 o'103.length (o'103.map aA) n'104)]) (l:=[_,_,_,_,_,some (.agg ((((c0.map chE).flatten).drop (i*3)).take 3):PV)=some (.agg [(aA t100),(blP b101),(aJ q102)]),(i*3)+3≤((c0.map chE).flatten).length,0≤(i:Int)∧(i:Int)<(c0.length:Int)∧(i*3)<((c0.map chE).flatten).length,_]) (by kernel_rfl) (gc h6 (gc hl5.code (gc h4 (gc (fk 2 (bQd al s t100 h3) rfl) (gc h2 (gc (lQ (E:=chE) (i:=i) (k:=3) (fun _=>rfl) h1 rfl) (gc (sI (E:=chE) (i:=i) (k:=3) (fun _=>rfl) h1) (gc (pY (E:=chE) (k:=3) (i:=(i:Int)) (fun _=>rfl) (by decide) (Int.natCast_nonneg _) h1) (gc (aL h0) gn)))))))))
 exact raw.cast (by rw [eo'n,eo'c])
theorem aWh{al:List fC}{s:Nat}{c0:List cK}{o:List Int}{ou inn:Bool}{i:Nat}(h0:(c0.length:Int)≤(i:Int)):aC Tryz.prog 0 vB (jR al s c0 o.length (o.map aA) ou inn i) (.exit 0) (jR al s c0 o.length (o.map aA) ou inn i):=by
 exact aC.fin (g:=⟨(rng [(2,2),(7,9),(19,26),(46,1)]),[0],[],[]⟩) (o:=[bF]) (l:=[_]) (by kernel_rfl) (gc (aE h0) gn)
theorem aWi{al:List fC}{s:Nat}{c0:List cK}{ou:Bool}{i:Nat}{t100:Int}{b101:Bool}{q102 o:List Int}{n:Nat}{o':List Int}{n':Nat}(h0:inR ((((cY al s t100).2+1):Nat):Int))(h1:(n:Int)≤((((cY al s t100).2+1):Nat):Int))(h2:[(aA (n:Int))].length=1*1∧o.length+1≤1000000)(h3:inR (((n+1):Nat):Int))(eo'n:o'.length=(o.length+1))(eo'c:o'.map aA=((o.map aA)++[(aA (n:Int))]))(en':n'=(n+1)):aC Tryz.prog 0 vC (jS al s c0 ou i t100 b101 q102 o.length (o.map aA) n) .normal (jS al s c0 ou i t100 b101 q102 o'.length (o'.map aA) n'):=by
 subst en'
 have raw:aC Tryz.prog 0 vC (jS al s c0 ou i t100 b101 q102 o.length (o.map aA) n) .normal (jS al s c0 ou i t100 b101 q102 (o.length+1) ((o.map aA)++[(aA (n:Int))]) (n+1)):=aC.fin (g:=⟨(rng [(2,2),(7,1),(12,4),(34,10),(46,1)]),[3,1],[],[]⟩) (o:=[bT]) (l:=[_,_,_,_]) (by kernel_rfl) (gc h3 (gc h2 (gc (eJ h1) (gc h0 gn))))
 exact raw.cast (by rw [eo'n,eo'c])
theorem aWj{al:List fC}{s:Nat}{c0:List cK}{ou:Bool}{i:Nat}{t100:Int}{b101:Bool}{q102 o:List Int}{n:Nat}(h0:inR ((((cY al s t100).2+1):Nat):Int))(h1:((((cY al s t100).2+1):Nat):Int)<(n:Int)):aC Tryz.prog 0 vC (jS al s c0 ou i t100 b101 q102 o.length (o.map aA) n) (.exit 2) (jS al s c0 ou i t100 b101 q102 o.length (o.map aA) n):=by
 exact aC.fin (g:=⟨(rng [(2,2),(7,1),(12,4),(34,10),(46,1)]),[0,1],[],[]⟩) (o:=[bF]) (l:=[_,_]) (by kernel_rfl) (gc (cT h1) (gc h0 gn))
def aIo(few many:Nat):List Int:=(List.range (many+1-few)).map fun j=>((few+1+j:Nat):Int)
def chL(al:List fC)(s:Nat)(c:cK):List Int:=if c.2.1 then [] else aIo (cY al s c.1).1 (cY al s c.1).2
def kY(al:List fC)(s:Nat)(c:List cK):List Int:=Lib.compact ((c.flatMap (chL al s)).mergeSort KL.leB)
theorem bCl{a b:Nat}(h:b≤1000):(aIo a b).length≤1001:=by unfold aIo;simp;omega
theorem bHs(al:List fC)(hal:al.length≤1000)(s:Nat)(c:cK):(chL al s c).length≤1001:=by
 unfold chL
 split
 ·simp
 ·exact bCl (by have:(cY al s c.1).2≤al.length:=(nD al s c.1 al.length).2;omega)
theorem aFb{al:List fC}(hal:al.length≤1000)(s:Nat):∀ c:List cK,(c.flatMap (chL al s)).length≤c.length*1001
 | []=>by simp
 | x::c=>by
  rw [List.flatMap_cons,List.length_append,List.length_cons]
  have:=bHs al hal s x
  have:=aFb hal s c
  omega
theorem bQf{al:List fC}(hal:al.length≤1000)(s:Nat)(c0:List cK)(ou:Bool)(i:Nat)(t:Int)(b:Bool)(q o:List Int)(ho:o.length≤900000) :
  ∃ n',aF Tryz.prog 0 vC (jS al s c0 ou i t b q o.length (o.map aA) ((cY al s t).1+1)) (.exit 2) (jS al s c0 ou i t b q (o++aIo (cY al s t).1 (cY al s t).2).length ((o++aIo (cY al s t).1 (cY al s t).2).map aA) n'):=by
 have h1:(cY al s t).1≤al.length:=(nD al s t al.length).1
 have h2:(cY al s t).2≤al.length:=(nD al s t al.length).2
 obtain ⟨x,hI,hL⟩:=aF.ex (P:=Tryz.prog) (k:=0) (b:=vC) (e := .exit 2) (fun j (x:List Int)=>jS al s c0 ou i t b q x.length (x.map aA) ((cY al s t).1+1+j)) (fun x=>jS al s c0 ou i t b q x.length (x.map aA) ((cY al s t).1+1+((cY al s t).2+1-(cY al s t).1)))
  (fun j x=>x=o++(List.range j).map fun j=>(((cY al s t).1+1+j:Nat):Int)) (by simp) ((cY al s t).2+1-(cY al s t).1)
  (fun j x hj hx=>by
   have hlen:x.length=o.length+j:=by rw [hx];simp
   refine ⟨x++[(((cY al s t).1+1+j:Nat):Int)],?_,aWi (aR (by omega)) (by omega) ⟨rfl,by omega⟩ (aR (by omega)) (by simp) (by simp) rfl⟩
   rw [hx,List.range_succ]
   simp)
  (fun x _=>aWj (aR (by omega)) (by omega)) (acc:=o) (by simp)
 rw [show o++aIo (cY al s t).1 (cY al s t).2=x from hI.symm]
 exact ⟨_,hL⟩
theorem aMj{al:List fC}(hal:al.length≤1000){s:Nat}{c:List cK}{mn mx:Int}(hx:al[s]? = some (c,mn,mx))(hc:c.length≤256){base:Nat} :
  FV Tryz.prog 141 [.p (.sl al.length (al.map hpE).flatten),.p (aA s)] base (.tup [.p (aJ (kY al s c)),.p (blP (c.any fun x=>x.2.1)),.p (blP (c.any fun x => !x.2.1))]) []:=by
 obtain ⟨a,⟨hI,hJ,hK⟩,hL⟩:=aF.ex (P:=Tryz.prog) (k:=0) (b:=vB) (e := .exit 0) (fun i (a:List Int × Bool × Bool)=>jR al s c a.1.length (a.1.map aA) a.2.1 a.2.2 i) (fun a=>jR al s c a.1.length (a.1.map aA) a.2.1 a.2.2 c.length)
  (fun i a=>a.1=(c.take i).flatMap (chL al s)∧a.2.1=((c.take i).any fun x=>x.2.1)∧a.2.2=((c.take i).any fun x => !x.2.1)) (by simp) c.length
  (fun i a hi ha=>by
   obtain ⟨ha1,ha2,ha3⟩:=ha
   obtain ⟨⟨t,b,q⟩,hx⟩:∃ x,c[i]? = some x:=⟨_,List.getElem?_eq_getElem hi⟩
   have hlen:a.1.length≤256*1001:=by
    rw [ha1]
    have:=aFb hal s (c.take i)
    rw [List.length_take] at this
    have:min i c.length≤256:=by omega
    omega
   have e1:c.take (i+1)=c.take i++[(t,b,q)]:=by rw [List.take_add_one,hx];rfl
   cases b with
   | true=>exact ⟨(a.1,true,a.2.2),⟨by rw [ha1,e1];simp [chL],by rw [e1];simp,by rw [ha3,e1];simp⟩,aWf (by omega) hx rfl (aR (by omega)) rfl⟩
   | false =>
    have h1:(cY al s t).1≤al.length:=(nD al s t al.length).1
    obtain ⟨n',hl⟩:=bQf hal s c a.2.1 i t false q a.1 (by omega)
    exact ⟨(a.1++aIo (cY al s t).1 (cY al s t).2,a.2.1,true),⟨by rw [ha1,e1];simp [chL],by rw [ha2,e1];simp,by rw [e1];simp⟩,aWg (by omega) hx rfl hal (aR (by omega)) hl (aR (by omega)) rfl rfl rfl⟩)
  (fun a _=>aWh (by omega)) (acc:=([],false,false)) (by simp)
 rw [List.take_length] at hI hJ hK
 have hb:=aFb hal s c
 have:=bQe (s:=s) hx hL (by rw [hI];omega) (by rw [List.length_mergeSort,hI];omega) (base:=base)
 rw [hI,hJ,hK] at this
 exact this
end
section

theorem bCk:((0:Int) != (0:Int))=false:=by first | decide | simp
def pN(l:List (List Int))(x0:Int)(x1:Int)(i:Nat):St:=⟨fr 19 [(0,(.p (.sl l.length (l.flatten.map aA)))),(3,(.ptr 0 0)),(7,(.p (aA (l.length:Int)))),(8,(.p (aA (i:Int))))],[some (.box 31 [(.p (aA x0)),(.p (aA x1))])]⟩
theorem bPy{l:List (List Int)}{x0 x1:Int}{i'0:Nat}(hl0:aF Tryz.prog 0 (sub (cd Tryz.f185) [1,0,1,0,0]) (pN l x0 x1 0) .ret (bG (pN l x0 x1 i'0) [(4,(.p (aA (i'0:Int))))])){base:Nat}:FV Tryz.prog 185 [(.p (.sl l.length (l.flatten.map aA))),(.p (.agg [(aA x0),(aA x1)]))] base (.p (aA (i'0:Int))) []:=by
 exact FV.fin Tryz.func185 rfl (o:=[.k 6 ⟨(rng [(1,2),(4,3),(9,10)]),[0],[],[]⟩ .ret (bG (pN l x0 x1 i'0) [(4,(.p (aA (i'0:Int))))])]) (l:=[_]) (by kernel_rfl) (gc hl0.code gn)
theorem aVx{l:List (List Int)}{x0 x1:Int}{i:Nat}{y100 y101:Int}(h0:(i:Int)<(l.length:Int))(h1:l[i]? = some [y100,y101])(h2:uni 2 l)(h3:cG [(aA x0),(aA x1)] [(0,3,true),(1,3,true)]=true∧cG [(aA y100),(aA y101)] [(0,3,true),(1,3,true)]=true)(h4:(fX [(aA x0),(aA x1)] [(aA y100),(aA y101)] [(0,3,true),(1,3,true)])=true):aC Tryz.prog 0 (sub (cd Tryz.f185) [1,0,1,0,0]) (pN l x0 x1 i) .ret (bG (pN l x0 x1 i) [(4,(.p (aA (i:Int))))]):=by
 exact aC.fin (g:=⟨(rng [(1,2),(5,2),(9,10)]),[0],[],[]⟩) (o:=[bT,.x (.agg [(aA y100),(aA y101)]),bT]) (l:=[_,_,_,_,0≤(i:Int)∧(i:Int)<(l.length:Int)∧(i*2)<(l.flatten.map aA).length,_]) (by kernel_rfl) (gc h4 (gc h3 (gc (aQ (i:=i) h2 h1) (gc (bD (i:=i) h2 h1) (gc (bB (k:=2) (i:=(i:Int)) (by decide) h2 (Int.natCast_nonneg _) h1) (gc (aL h0) gn))))))
theorem aVy{l:List (List Int)}{x0 x1:Int}{i:Nat}{y100 y101:Int}{i':Nat}(h0:(i:Int)<(l.length:Int))(h1:l[i]? = some [y100,y101])(h2:uni 2 l)(h3:cG [(aA x0),(aA x1)] [(0,3,true),(1,3,true)]=true∧cG [(aA y100),(aA y101)] [(0,3,true),(1,3,true)]=true)(h4:(fX [(aA x0),(aA x1)] [(aA y100),(aA y101)] [(0,3,true),(1,3,true)])=false)(h5:inR (((i+1):Nat):Int))(ei':i'=(i+1)):aC Tryz.prog 0 (sub (cd Tryz.f185) [1,0,1,0,0]) (pN l x0 x1 i) .normal (pN l x0 x1 i'):=by
 subst ei'
 exact aC.fin (g:=⟨(rng [(1,2),(4,3),(9,10)]),[0],[],[]⟩) (o:=[bT,.x (.agg [(aA y100),(aA y101)]),bF]) (l:=[_,_,_,_,_,0≤(i:Int)∧(i:Int)<(l.length:Int)∧(i*2)<(l.flatten.map aA).length,_]) (by kernel_rfl) (gc h5 (gc h4 (gc h3 (gc (aQ (i:=i) h2 h1) (gc (bD (i:=i) h2 h1) (gc (bB (k:=2) (i:=(i:Int)) (by decide) h2 (Int.natCast_nonneg _) h1) (gc (aL h0) gn)))))))
theorem bPz{l:List (List Int)}(hu:uni 2 l)(hn:(aN l 0).Nodup)(hl:l.length≤1000){i:Nat}{x0 x1:Int}(hi:l[i]? = some [x0,x1]){base:Nat}:FV Tryz.prog 185 [.p (.sl l.length (l.flatten.map aA)),.p (.agg [aA x0,aA x1])] base (.p (aA (i:Int))) []:=by
 have hlt:=aS hi
 refine bPy (i'0:=i) ?_
 have hne:∀ j,j<i→∃ y0 y1,l[j]? = some [y0,y1]∧y0≠x0:=fun j hj=>by
  obtain ⟨y0,y1,hy⟩:=at2 hu (i:=j) (by omega)
  refine ⟨y0,y1,hy,fun e => ?_⟩
  have e1:(aN l 0)[j]? = some y0:=by unfold aN;rw [List.getElem?_map,hy];rfl
  have e2:(aN l 0)[i]? = some x0:=by unfold aN;rw [List.getElem?_map,hi];rfl
  obtain ⟨hj1,hj2⟩:=List.getElem?_eq_some_iff.1 e1
  obtain ⟨hi1,hi2⟩:=List.getElem?_eq_some_iff.1 e2
  have:=List.pairwise_iff_getElem.1 hn j i hj1 hi1 hj
  rw [hj2,hi2] at this
  exact this e
 exact aF.until (P:=Tryz.prog) i (fun j=>pN l x0 x1 j) i (Nat.le_refl _)
  (fun j hj=>by
   obtain ⟨y0,y1,hy,hn⟩:=hne j hj
   exact aVy (by omega) hy hu ⟨rfl,rfl⟩ (by simp [fX,oR];exact fun h=>absurd h.symm hn) (aR (by omega)) rfl)
  (aVx (by omega) hi hu ⟨rfl,rfl⟩ (by simp [fX,oR])) (by simp)
theorem tP{dl:Int}{sk dc:List (List Int)}(h:dG dl sk dc):uni 2 (aB sk)∧(aB sk).length≤30∧(∀ s∈aB sk,-1≤s.getD 1 0∧s.getD 1 0≤360000)∧(aN (aB sk) 0).Nodup:=by
 have hp:=dU sk
 refine ⟨eB h.us,by rw [dV];exact h.len.2,fun s hs=>(aEr.1 (h.hsk s (hp.mem_iff.1 hs))).2,?_⟩
 unfold aN
 exact (hp.map _).nodup_iff.2 h.ns
theorem aPs{dl:Int}{sk dc:List (List Int)}(h:dG dl sk dc)(ho:(aW dl (aB dc)).length≤8){base:Nat}:FV Tryz.prog 161 [pS dl (aB sk) (aB dc)] base (.tup [.own base,.p (aA 0)]) [(base,.row 195 (bP dl (aB sk) (aB dc)).length ((bP dl (aB sk) (aB dc)).map hpE).flatten)]:=by
 obtain ⟨h1,h2,h3,_⟩:=tP h
 exact bQh (lO h) h1 (by omega) h3 ho
theorem bHr{dl:Int}{sk dc:List (List Int)}(h:dG dl sk dc){i:Nat}{x0 x1:Int}(hi:(aB sk)[i]? = some [x0,x1]){base:Nat}:FV Tryz.prog 185 [.p (.sl (aB sk).length ((aB sk).flatten.map aA)),.p (.agg [aA x0,aA x1])] base (.p (aA (i:Int))) []:=by
 obtain ⟨h1,h2,_,h4⟩:=tP h
 exact bPz h1 h4 (by omega) hi
theorem bQa{dl:Int}{sk dc:List (List Int)}{bib:Int}{i0:Nat}{s1 s2:Int}(h0:dG dl sk dc)(h1:bDa (aB sk) bib=(i0:Int))(h2:(aB sk)[i0]? = some [s1,s2])(h3:(aW dl (aB dc)).length≤8){base:Nat}:FV Tryz.prog 140 [(.p (.agg (bH dl sk dc))),(.p (aA bib))] base (.tup [(.p (.sl ((bP dl (aB sk) (aB dc)).length) (((bP dl (aB sk) (aB dc)).map hpE).flatten))),(.p (aA (i0:Int))),(.p (aA 0))]) []:=by
 exact FV.frz (FMM.fin (k:=0) (g:=⟨[],[],[2],[]⟩) rfl Tryz.func140 rfl (o:=[.c (.tup [(.rp (aK dl (aB sk) (aB dc)) 0),(.p (.agg [(aA s1),(aA s2)])),(.p (aA 0))]) [],bF,.c (.tup [(.own 2),(.p (aA 0))]) [(2,(.row 195 ((bP dl (aB sk) (aB dc)).length) (((bP dl (aB sk) (aB dc)).map hpE).flatten)))],.x (.sl ((aB sk).length) ((aB sk).flatten.map aA)),.c (.p (aA (i0:Int))) []]) (l:=[_,(aK dl (aB sk) (aB dc))[1]? = some (.sl ((aB sk).length) ((aB sk).flatten.map aA)),_,_,_]) (by kernel_rfl) (gc (fk 3 (bHr h0 h2) rfl) (gc rfl (gc (fk 2 (aPs h0 h3) rfl) (gc bCk (gc (fk 1 (bDb h0 h1 h2) rfl) gn)))))) (by kernel_rfl)
theorem bQb{dl:Int}{sk dc:List (List Int)}{bib:Int}{i0:Nat}{s1 s2:Int}{c3:List cK}{mn4 mx5:Int}{r0:Bool}(h0:dG dl sk dc)(h1:bDa (aB sk) bib=(i0:Int))(h2:(aB sk)[i0]? = some [s1,s2])(h3:(aW dl (aB dc)).length≤8)(h4:(bP dl (aB sk) (aB dc))[i0]? = some (c3,mn4,mx5))(h5:(bP dl (aB sk) (aB dc)).length≤1000)(h6:c3.length≤256)(er0:r0=(c3.any fun x=>x.2.1)){base:Nat}:FV Tryz.prog 71 [(.p (.agg (bH dl sk dc))),(.p (aA bib))] base (.tup [(.p (aJ (kY (bP dl (aB sk) (aB dc)) i0 c3))),(.p (blP r0)),(.p (aA 0))]) []:=by
 subst er0
 exact FV.fin Tryz.func71 rfl (o:=[.c (.tup [(.p (.sl ((bP dl (aB sk) (aB dc)).length) (((bP dl (aB sk) (aB dc)).map hpE).flatten))),(.p (aA (i0:Int))),(.p (aA 0))]) [],bF,.c (.tup [(.p (aJ (kY (bP dl (aB sk) (aB dc)) i0 c3))),(.p (blP (c3.any fun x=>x.2.1))),(.p (blP (c3.any fun x => !x.2.1)))]) []]) (l:=[_,_,FC Tryz.prog 140 [(.p (.agg (bH dl sk dc))),(.p (aA bib))] [] 1 (.tup [(.p (.sl ((bP dl (aB sk) (aB dc)).length) (((bP dl (aB sk) (aB dc)).map hpE).flatten))),(.p (aA (i0:Int))),(.p (aA 0))]) []]) (by kernel_rfl) (gc (fk 1 (aMj h5 h4 h6) rfl) (gc bCk (gc (FV.fc (bQa h0 h1 h2 h3) rfl) gn)))
end
section

noncomputable abbrev zY:Code:=sub (cd Tryz.f93) [1,1,1,1,1,1,1,0,1,0,0]
theorem bCi:((0:Int) != (0:Int))=false:=by first | decide | simp
theorem bPt{l:List Int}{a b:Bool}{f x0:Int}{r0:Bool}(h0:b=true)(h1:a=false)(h2:inR ((l.length:Int)-(1:Int)))(h3:l[((l.length:Int)-(1:Int)).toNat]? = some x0)(h4:0≤((l.length:Int)-(1:Int)))(er0:r0=(decide (x0≤f))){base:Nat}:FV Tryz.prog 95 [(.p (aJ l)),(.p (blP a)),(.p (blP b)),(.rp [(aA f)] 0)] base (.p (blP r0)) []:=by
 subst er0
 exact FV.fin Tryz.func95 rfl (o:=[bT,bT,bT,bT,bT,bT,bT,bT,bT,.x (aA x0),bT,.x (aA f),bT,bT]) (l:=[_,_,[(aA f)][0]? = some (aA f),_,(l.map aA)[(((l.length:Int)-(1:Int)).toNat*1)]? = some (aA x0),_,_,_,_,_,_,_,_,_,_,_]) (by kernel_rfl) (gc (bI h1) (gc (bI h1) (gc rfl (gc (bI h1) (gc (uR (i:=((l.length:Int)-(1:Int)).toNat) h3) (gc (bI h1) (gc (uS (g:=aA) h4 h3) (gc (bI h1) (gc h2 (gc (bI h1) (gc (bI h1) (gc (bI h1) (gc (bI h1) (gc h0 (gc h0 (gc h0 gn))))))))))))))))
theorem bPu{l:List Int}{a b:Bool}{f:Int}(h0:b=true)(h1:a=true){base:Nat}:FV Tryz.prog 95 [(.p (aJ l)),(.p (blP a)),(.p (blP b)),(.rp [(aA f)] 0)] base (.p (blP false)) []:=by
 exact FV.fin Tryz.func95 rfl (o:=[bT,bT,bT,bF,bF,bF,bF,bF,bF,bF,bF,bF]) (l:=[_,_,_,_,_,_,_,_,_,_,_,_]) (by kernel_rfl) (gc (aI h1) (gc (aI h1) (gc (aI h1) (gc (aI h1) (gc (aI h1) (gc (aI h1) (gc (aI h1) (gc (aI h1) (gc (aI h1) (gc h0 (gc h0 (gc h0 gn))))))))))))
theorem bPv{l:List Int}{a b:Bool}{f:Int}(h0:b=false){base:Nat}:FV Tryz.prog 95 [(.p (aJ l)),(.p (blP a)),(.p (blP b)),(.rp [(aA f)] 0)] base (.p (blP false)) []:=by
 exact FV.fin Tryz.func95 rfl (o:=[bF,bF,bF]) (l:=[_,_,_]) (by kernel_rfl) (gc h0 (gc h0 (gc h0 gn)))
def aEy(l:List Int)(a b:Bool)(f:Int):Bool:=b && (!a && decide (l.getD (l.length-1) 0≤f))
theorem bCj(l:List Int)(a b:Bool)(f:Int)(hl:l.length≤1000000)(hb:b=true→l≠[]){base:Nat}:FV Tryz.prog 95 [.p (aJ l),.p (blP a),.p (blP b),.rp [aA f] 0] base (.p (blP (aEy l a b f))) []:=by
 cases b with
 | false=>exact bPv rfl
 | true =>
  cases a with
  | true=>exact bPu rfl rfl
  | false =>
   have h0:=hb rfl
   have h1:0<l.length:=List.length_pos_iff.2 h0
   have h2:l[l.length-1]? = some (l.getD (l.length-1) 0):=by rw [List.getD_eq_getElem?_getD,List.getElem?_eq_getElem (by omega)];rfl
   have e:((l.length:Int)-(1:Int)).toNat=l.length-1:=by omega
   exact bPt (x0:=l.getD (l.length-1) 0) rfl rfl (by unfold inR;omega) (by rw [e];exact h2) (by omega) (by unfold aEy;simp)
def jQ(dl:Int)(sk:List (List Int))(dc:List (List Int))(fi:Int)(on:Nat)(oc:List PV)(i:Nat):St:=⟨fr 58 [(2,(.fn 95 [] [(.rp [(aA fi)] 0)])),(6,(.p bR)),(7,(.p (aA 0))),(10,(.p (.sl ((bP dl (aB sk) (aB dc)).length) (((bP dl (aB sk) (aB dc)).map hpE).flatten)))),(11,(.own 0)),(36,(.p (.sl ((aB sk).length) ((aB sk).flatten.map aA)))),(37,(.p (aA (((aB sk).length:Nat):Int)))),(38,(.p (aA (i:Int))))],[some (.row 3 on oc)]⟩
theorem bPw{dl:Int}{sk dc:List (List Int)}{fi:Int}{o'0:List Int}{i'1:Nat}(h0:dG dl sk dc)(h1:(1:Int)≤fi)(h2:(aW dl (aB dc)).length≤8)(hl3:aF Tryz.prog 0 zY (jQ dl sk dc fi 0 [] 0) (.exit 0) (jQ dl sk dc fi o'0.length (o'0.map aA) i'1)){base:Nat}:FV Tryz.prog 93 [(.p (.agg (bH dl sk dc))),(.p (aA fi)),(.fn 95 [] [(.rp [(aA fi)] 0)])] base (.tup [(.p (aJ o'0)),(.p (aA 0))]) []:=by
 exact FV.frz (FMM.fin (k:=0) (g:=⟨[],[],[0],[]⟩) rfl Tryz.func93 rfl (o:=[.c (.tup [(.rp (aK dl (aB sk) (aB dc)) 0),(.p (aA 0))]) [],bF,bF,.c (.tup [(.own 1),(.p (aA 0))]) [(1,(.row 195 ((bP dl (aB sk) (aB dc)).length) (((bP dl (aB sk) (aB dc)).map hpE).flatten)))],bF,.g 1 ⟨[],[0],[1],[]⟩,.x (.sl ((aB sk).length) ((aB sk).flatten.map aA)),.k 1 ⟨(rng [(0,2),(3,3),(8,2),(12,24),(39,18)]),[1],[],[(11,3)]⟩ (.exit 0) (jQ dl sk dc fi o'0.length (o'0.map aA) i'1)]) (l:=[_,(aK dl (aB sk) (aB dc))[1]? = some (.sl ((aB sk).length) ((aB sk).flatten.map aA)),_,_,_,_,_]) (by kernel_rfl) (gc hl3.code (gc rfl (gc bCi (gc (fk 1 (aPs h0 h2) rfl) (gc (aE h1) (gc bCi (gc (fk 1 (kA dl sk dc h0) rfl) gn)))))))) (by kernel_rfl)
theorem aVu{dl:Int}{sk dc:List (List Int)}{fi:Int}{o:List Int}{i:Nat}{y100 y101:Int}{c102:List cK}{mn103 mx104:Int}{o':List Int}{i':Nat}(h0:(i:Int)<(((aB sk).length:Nat):Int))(h1:(aB sk)[i]? = some [y100,y101])(h2:uni 2 (aB sk))(h3:(bP dl (aB sk) (aB dc))[i]? = some (c102,mn103,mx104))(h4:(bP dl (aB sk) (aB dc)).length≤1000)(h5:c102.length≤256)(h6:(kY (bP dl (aB sk) (aB dc)) i c102).length≤1000000)(h7:(c102.any fun x => !x.2.1)=true→(kY (bP dl (aB sk) (aB dc)) i c102)≠[])(h8:(aEy (kY (bP dl (aB sk) (aB dc)) i c102) (c102.any fun x=>x.2.1) (c102.any fun x => !x.2.1) fi)=true)(h9:[(aA y100)].length=1*1∧o.length+1≤1000000)(h10:inR (((i+1):Nat):Int))(eo'n:o'.length=(o.length+1))(eo'c:o'.map aA=((o.map aA)++[(aA y100)]))(ei':i'=(i+1)):aC Tryz.prog 0 zY (jQ dl sk dc fi o.length (o.map aA) i) .normal (jQ dl sk dc fi o'.length (o'.map aA) i'):=by
 subst ei'
 have raw:aC Tryz.prog 0 zY (jQ dl sk dc fi o.length (o.map aA) i) .normal (jQ dl sk dc fi (o.length+1) ((o.map aA)++[(aA y100)]) (i+1)):=aC.fin (g:=⟨(rng [(0,2),(3,3),(8,2),(12,24),(39,18)]),[3],[],[]⟩) (o:=[bT,.x (.agg [(aA y100),(aA y101)]),.c (.tup [(.p (aJ (kY (bP dl (aB sk) (aB dc)) i c102))),(.p (blP (c102.any fun x=>x.2.1))),(.p (blP (c102.any fun x => !x.2.1)))]) [],.c (.p (blP (aEy (kY (bP dl (aB sk) (aB dc)) i c102) (c102.any fun x=>x.2.1) (c102.any fun x => !x.2.1) fi))) [],bT]) (l:=[_,_,_,_,_,_,_,0≤(i:Int)∧(i:Int)<(((aB sk).length:Nat):Int)∧(i*2)<((aB sk).flatten.map aA).length,_]) (by kernel_rfl) (gc h10 (gc h9 (gc h8 (gc (fk 2 (bCj (kY (bP dl (aB sk) (aB dc)) i c102) (c102.any fun x=>x.2.1) (c102.any fun x => !x.2.1) fi h6 h7) rfl) (gc (fk 2 (aMj h4 h3 h5) rfl) (gc (aQ (i:=i) h2 h1) (gc (bD (i:=i) h2 h1) (gc (bB (k:=2) (i:=(i:Int)) (by decide) h2 (Int.natCast_nonneg _) h1) (gc (aL h0) gn)))))))))
 exact raw.cast (by rw [eo'n,eo'c])
theorem aVv{dl:Int}{sk dc:List (List Int)}{fi:Int}{o:List Int}{i:Nat}{y100 y101:Int}{c102:List cK}{mn103 mx104:Int}{i':Nat}(h0:(i:Int)<(((aB sk).length:Nat):Int))(h1:(aB sk)[i]? = some [y100,y101])(h2:uni 2 (aB sk))(h3:(bP dl (aB sk) (aB dc))[i]? = some (c102,mn103,mx104))(h4:(bP dl (aB sk) (aB dc)).length≤1000)(h5:c102.length≤256)(h6:(kY (bP dl (aB sk) (aB dc)) i c102).length≤1000000)(h7:(c102.any fun x => !x.2.1)=true→(kY (bP dl (aB sk) (aB dc)) i c102)≠[])(h8:(aEy (kY (bP dl (aB sk) (aB dc)) i c102) (c102.any fun x=>x.2.1) (c102.any fun x => !x.2.1) fi)=false)(h9:inR (((i+1):Nat):Int))(ei':i'=(i+1)):aC Tryz.prog 0 zY (jQ dl sk dc fi o.length (o.map aA) i) .normal (jQ dl sk dc fi o.length (o.map aA) i'):=by
 subst ei'
 exact aC.fin (g:=⟨(rng [(0,2),(3,3),(8,2),(12,24),(39,18)]),[0],[],[]⟩) (o:=[bT,.x (.agg [(aA y100),(aA y101)]),.c (.tup [(.p (aJ (kY (bP dl (aB sk) (aB dc)) i c102))),(.p (blP (c102.any fun x=>x.2.1))),(.p (blP (c102.any fun x => !x.2.1)))]) [],.c (.p (blP (aEy (kY (bP dl (aB sk) (aB dc)) i c102) (c102.any fun x=>x.2.1) (c102.any fun x => !x.2.1) fi))) [],bF]) (l:=[_,_,_,_,_,_,0≤(i:Int)∧(i:Int)<(((aB sk).length:Nat):Int)∧(i*2)<((aB sk).flatten.map aA).length,_]) (by kernel_rfl) (gc h9 (gc h8 (gc (fk 2 (bCj (kY (bP dl (aB sk) (aB dc)) i c102) (c102.any fun x=>x.2.1) (c102.any fun x => !x.2.1) fi h6 h7) rfl) (gc (fk 2 (aMj h4 h3 h5) rfl) (gc (aQ (i:=i) h2 h1) (gc (bD (i:=i) h2 h1) (gc (bB (k:=2) (i:=(i:Int)) (by decide) h2 (Int.natCast_nonneg _) h1) (gc (aL h0) gn))))))))
theorem aVw{dl:Int}{sk dc:List (List Int)}{fi:Int}{o:List Int}{i:Nat}(h0:(((aB sk).length:Nat):Int)≤(i:Int)):aC Tryz.prog 0 zY (jQ dl sk dc fi o.length (o.map aA) i) (.exit 0) (jQ dl sk dc fi o.length (o.map aA) i):=by
 exact aC.fin (g:=⟨(rng [(0,2),(3,3),(8,2),(12,24),(39,18)]),[0],[],[]⟩) (o:=[bF]) (l:=[_]) (by kernel_rfl) (gc (aE h0) gn)
abbrev bTq(dl:Int)(sk dc:List (List Int))(fi:Int)(o:List Int)(e:Int):Prop:=∀ base:Nat,FV Tryz.prog 93 [.p (.agg (bH dl sk dc)),.p (aA fi),.fn 95 [] [.rp [aA fi] 0]] base (.tup [.p (aJ o),.p (aA e)]) []
theorem bPx{dl:Int}{sk dc:List (List Int)}{fi e0:Int}{o1:List Int}(h0:bTq dl sk dc fi o1 e0){base:Nat}:FV Tryz.prog 33 [(.p (.agg (bH dl sk dc))),(.p (aA fi))] base (.tup [(.p (aJ o1)),(.p (aA e0))]) []:=by
 exact FV.fin Tryz.func33 rfl (o:=[.g 3 ⟨[],[0],[1],[]⟩,.x (aA fi),.c (.tup [(.p (aJ o1)),(.p (aA e0))]) []]) (l:=[FC Tryz.prog 93 [(.p (.agg (bH dl sk dc))),(.p (aA fi)),(.fn 95 [] [(.rp [(aA fi)] 0)])] [] 1 (.tup [(.p (aJ o1)),(.p (aA e0))]) [],[(aA fi)][0]? = some (aA fi)]) (by kernel_rfl) (gc (FV.fc (h0 _) rfl) (gc rfl gn))
end
end KV
end Go.Proofs
section
namespace Go.Proofs
open Go.RowKit Go.Lib
namespace KV
theorem bHo(o:List Int):iZ o≠[]:=fun h=>by
 have:=tQ o
 rw [h] at this
 have:=Nat.two_pow_pos o.length
 simp at *
 omega
theorem bCf(l:List cK):∀ m,l.foldl (fun m x=>if x.1<m then x.1 else m) m≤m∧∀ x∈l,l.foldl (fun m x=>if x.1<m then x.1 else m) m≤x.1:=by
 induction l with
 | nil=>intro m;exact ⟨Int.le_refl _,fun x h=>by cases h⟩
 | cons a l ih =>
  intro m
  rw [List.foldl_cons]
  obtain ⟨h1,h2⟩:=ih (if a.1<m then a.1 else m)
  have ha:(if a.1<m then a.1 else m)≤m∧(if a.1<m then a.1 else m)≤a.1:=by split <;> omega
  exact ⟨by omega,fun x hx=>by
   rcases List.mem_cons.1 hx with rfl | hx
   ·omega
   ·exact h2 x hx⟩
theorem bCg(l:List cK):∀ m,m≤l.foldl (fun m x=>if x.1 > m then x.1 else m) m∧∀ x∈l,x.1≤l.foldl (fun m x=>if x.1 > m then x.1 else m) m:=by
 induction l with
 | nil=>intro m;exact ⟨Int.le_refl _,fun x h=>by cases h⟩
 | cons a l ih =>
  intro m
  rw [List.foldl_cons]
  obtain ⟨h1,h2⟩:=ih (if a.1 > m then a.1 else m)
  have ha:m≤(if a.1 > m then a.1 else m)∧a.1≤(if a.1 > m then a.1 else m):=by split <;> omega
  exact ⟨by omega,fun x hx=>by
   rcases List.mem_cons.1 hx with rfl | hx
   ·omega
   ·exact h2 x hx⟩
theorem bHp{l:List cK}(h:l≠[]):mnM l≤mxM l:=by
 obtain ⟨x,hx⟩:=List.exists_mem_of_ne_nil l h
 exact Int.le_trans ((bCf l far).2 x hx) ((bCg l 0).2 x hx)
theorem bHq(dl:Int)(dc:List (List Int))(s0 s1:Int)(o:List Int):(nE dl dc s0 s1 o).2.1≤(nE dl dc s0 s1 o).2.2:=bHp fun h=>bHo o (List.map_eq_nil_iff.1 h)
theorem aDa(dl:Int)(sk dc:List (List Int)):(bP dl sk dc).length=sk.length:=by unfold bP;simp
theorem aIl{dl:Int}{sk dc:List (List Int)}{i:Nat}{s:List Int}(h:sk[i]? = some s):(bP dl sk dc)[i]? = some (nE dl dc (s.getD 0 0) (s.getD 1 0) (sD dl dc (s.getD 0 0))):=by
 unfold bP;rw [List.getElem?_map,h];rfl
theorem aIm{dl:Int}{dc:List (List Int)}{s0 s1:Int}(b:Int)(ho:(aW dl dc).length≤8):(nE dl dc s0 s1 (sD dl dc b)).1.length≤256:=by
 show ((iZ (sD dl dc b)).map _).length≤256
 rw [List.length_map,tQ]
 have:=bCm dl dc b
 exact Nat.le_trans (Nat.pow_le_pow_right (by omega) (show (sD dl dc b).length≤8 by omega)) (by decide)
theorem aPq{al:List fC}(h:∀ x∈al,x.2.1≤x.2.2)(s:Nat)(t:Int):∀ i,(iB al s t i).1≤(iB al s t i).2
 | 0=>Nat.le_refl _
 | i+1=>by
  have ih:=aPq h s t i
  unfold iB
  split
  ·rename_i x hx
   have:=h x (List.mem_of_getElem? hx)
   split
   ·exact ih
   ·dsimp only
    split <;> split <;> omega
  ·exact ih
theorem aMi{l:List Int}(h:l≠[]):Lib.compact l≠[]:=fun e=>by
 have:(Lib.compact l).length=0:=by rw [e];rfl
 unfold Lib.compact Lib.compactUpTo at this
 rw [List.length_map] at this
 have h0:0∈(List.range l.length).filter (Lib.keeps l.toArray):=List.mem_filter.2 ⟨List.mem_range.2 (List.length_pos_iff.2 h),Lib.keeps_lt_one _ 0 (by omega)⟩
 rw [List.eq_nil_of_length_eq_zero this] at h0
 cases h0
theorem bCh{al:List fC}(h:∀ x∈al,x.2.1≤x.2.2)(s:Nat){c:List cK}(hc:(c.any fun x => !x.2.1)=true):kY al s c≠[]:=by
 unfold kY
 refine aMi fun e => ?_
 have e2:c.flatMap (chL al s)=[]:=by
  have:=List.length_mergeSort (le:=KL.leB) (c.flatMap (chL al s))
  rw [e] at this
  exact List.eq_nil_of_length_eq_zero this.symm
 obtain ⟨x,hx,hn⟩:=List.any_eq_true.1 hc
 have h1:chL al s x=[]:=List.flatMap_eq_nil_iff.1 e2 x hx
 have hf:x.2.1=false:=by simpa using hn
 unfold chL aIo at h1
 rw [hf] at h1
 have:=congrArg List.length h1
 have hl:=aPq h s x.1 al.length
 simp at this
 have h3:(cY al s x.1).1≤(cY al s x.1).2:=hl
 omega
theorem aPr{al:List fC}(hal:al.length≤1000)(s:Nat){c:List cK}(hc:c.length≤256):(kY al s c).length≤1000000:=by
 unfold kY
 refine Nat.le_trans (aAn _) ?_
 rw [List.length_mergeSort]
 have:=aFb hal s c
 omega
theorem aIn(dl:Int)(sk dc:List (List Int)):∀ x∈bP dl sk dc,x.2.1≤x.2.2:=fun x hx=>by
 obtain ⟨s,_,rfl⟩:=List.mem_map.1 hx
 exact bHq ..
end KV
end Go.Proofs
end
namespace Go.Proofs
namespace KV
section
def wN(dl:Int)(sk dc:List (List Int))(f:Int)(i:Nat):Bool:=match (bP dl sk dc)[i]? with
 | some h=>aEy (kY (bP dl sk dc) i h.1) (h.1.any fun x=>x.2.1) (h.1.any fun x => !x.2.1) f
 | none=>false
def aIk(dl:Int)(sk dc:List (List Int))(f:Int):List Int:=((List.range sk.length).filter (wN dl sk dc f)).map fun i=>(sk.getD i []).getD 0 0
theorem bPq{dl:Int}{sk dc:List (List Int)}(h:dG dl sk dc){bib:Int}{i:Nat}{s0 s1:Int}(hp:bDa (aB sk) bib=(i:Int))(hs:(aB sk)[i]? = some [s0,s1])(ho:(aW dl (aB dc)).length≤8){base:Nat} :
  FV Tryz.prog 71 [.p (.agg (bH dl sk dc)),.p (aA bib)] base (.tup [.p (aJ (kY (bP dl (aB sk) (aB dc)) i (nE dl (aB dc) s0 s1 (sD dl (aB dc) s0)).1)),.p (blP ((nE dl (aB dc) s0 s1 (sD dl (aB dc) s0)).1.any fun x=>x.2.1)),.p (aA 0)]) []:=by
 obtain ⟨_,h2,_,_⟩:=tP h
 exact bQb h hp hs ho (aIl hs) (by rw [aDa];omega) (aIm s0 ho) rfl
theorem bPr{dl:Int}{sk dc:List (List Int)}(h:dG dl sk dc){f:Int}(hf:1≤f)(ho:(aW dl (aB dc)).length≤8):bTq dl sk dc f (aIk dl (aB sk) (aB dc) f) 0:=fun base=>by
 obtain ⟨h1,h2,_,_⟩:=tP h
 obtain ⟨o,hI,hL⟩:=aF.ex (P:=Tryz.prog) (k:=0) (b:=sub (cd Tryz.f93) [1,1,1,1,1,1,1,0,1,0,0]) (e := .exit 0) (fun i (o:List Int)=>jQ dl sk dc f o.length (o.map aA) i) (fun o=>jQ dl sk dc f o.length (o.map aA) (aB sk).length)
  (fun i o=>o=((List.range i).filter (wN dl (aB sk) (aB dc) f)).map fun i=>((aB sk).getD i []).getD 0 0) (by simp) (aB sk).length
  (fun i o hi hoE=>by
   obtain ⟨y0,y1,hy⟩:=at2 h1 hi
   have hat:=aIl (dl:=dl) (dc:=aB dc) hy
   have hlen:o.length≤i:=by
    rw [hoE,List.length_map]
    have:=List.length_filter_le (wN dl (aB sk) (aB dc) f) (List.range i)
    simpa using this
   have hmb:wN dl (aB sk) (aB dc) f i=aEy (kY (bP dl (aB sk) (aB dc)) i (nE dl (aB dc) y0 y1 (sD dl (aB dc) y0)).1) ((nE dl (aB dc) y0 y1 (sD dl (aB dc) y0)).1.any fun x=>x.2.1) ((nE dl (aB dc) y0 y1 (sD dl (aB dc) y0)).1.any fun x => !x.2.1) f:=by
    unfold wN;rw [hat];rfl
   have hal:(bP dl (aB sk) (aB dc)).length≤1000:=by rw [aDa];omega
   have hc:=aIm (s0:=y0) (s1:=y1) y0 ho
   have hg:((aB sk).getD i []).getD 0 0=y0:=by simp [List.getD_eq_getElem?_getD,hy]
   cases hb:wN dl (aB sk) (aB dc) f i with
   | true =>
    refine ⟨o++[y0],?_,aVu (by omega) hy h1 hat hal hc (aPr hal i hc) (fun hn=>bCh (aIn _ _ _) i hn) (by rw [← hb,hmb];rfl) ⟨rfl,by omega⟩ (aR (by omega)) (by simp) (by simp) rfl⟩
    rw [hoE,List.range_succ,List.filter_append,List.map_append]
    simp only [List.filter_cons,hb,if_true,List.filter_nil,List.map_cons,List.map_nil,hg]
   | false =>
    refine ⟨o,?_,aVv (by omega) hy h1 hat hal hc (aPr hal i hc) (fun hn=>bCh (aIn _ _ _) i hn) (by rw [← hb,hmb];rfl) (aR (by omega)) rfl⟩
    rw [hoE,List.range_succ,List.filter_append,List.map_append]
    simp [List.filter_cons,hb])
  (fun o _=>aVw (by omega)) (acc:=[]) (by simp)
 have e:o=aIk dl (aB sk) (aB dc) f:=hI
 rw [← e]
 exact bPw h hf ho hL
theorem bPs{dl:Int}{sk dc:List (List Int)}(h:dG dl sk dc){f:Int}(hf:1≤f)(ho:(aW dl (aB dc)).length≤8){base:Nat}:FV Tryz.prog 33 [.p (.agg (bH dl sk dc)),.p (aA f)] base (.tup [.p (aJ (aIk dl (aB sk) (aB dc) f)),.p (aA 0)]) []:=bPx (bPr h hf ho)
end
section

noncomputable abbrev uZ:Code:=sub (cd Tryz.f51) [1,1,0,1,0,0]
noncomputable abbrev vA:Code:=sub (cd Tryz.f41) [1,1,0,1,0,0]
theorem bPi{dl:Int}{sk dc:List (List Int)}{bib:Int}{i0:Nat}{s1 s2 n3:Int}{b4:Bool}{T5:List (Int × Bool)}(h0:dG dl sk dc)(h1:bDa (aB sk) bib=(i0:Int))(h2:(aB sk)[i0]? = some [s1,s2])(h3:aBb dl (aB sk) (aB dc) bR [s1,s2] n3 b4 ([]:List (Int × Bool)) T5){base:Nat}:FV Tryz.prog 61 [(.p (.agg (bH dl sk dc))),(.p (aA bib))] base (.tup [(.p (aA n3)),(.p (blP b4)),(.p (aA 0))]) []:=by
 exact FV.fin Tryz.func61 rfl (o:=[.c (.tup [(.rp (aK dl (aB sk) (aB dc)) 0),(.p (.agg [(aA s1),(aA s2)])),(.p (aA 0))]) [],bF,.c (.agg [(.fn 154 [] [(.ptr 6 0),(.ptr 7 0),(.ptr 2 0),(.ptr 4 0)]),(.fn 156 [] [(.ptr 8 0)]),(.fn 157 [] [(.ptr 4 0),(.ptr 3 0)]),(.fn 160 [] [(.ptr 4 0)]),(.fn 158 [] [(.ptr 8 0)])]) [(2,(vB0 dl (aB sk) (aB dc))),(3,(.box 33 [(.p bR)])),(4,(.box 139 [(.fn 154 [] [(.ptr 6 0),(.ptr 7 0),(.ptr 2 0),(.ptr 4 0)]),(.fn 156 [] [(.ptr 8 0)]),(.fn 157 [] [(.ptr 4 0),(.ptr 3 0)]),(.fn 160 [] [(.ptr 4 0)]),(.fn 158 [] [(.ptr 8 0)])])),(5,(.mp (aH ([]:List (Int × Bool))) 0)),(6,(.box 207 [(.mp 5)])),(7,(vB5 dl (aB sk) (aB dc))),(8,(.box 209 [(.fn 153 [] [(.ptr 2 0),(.ptr 4 0)])]))],.c (.tup [(.p (aA n3)),(.p (blP b4))]) [(2,(vB0 dl (aB sk) (aB dc))),(3,(.box 33 [(.p bR)])),(4,(.box 139 [(.fn 154 [] [(.ptr 6 0),(.ptr 7 0),(.ptr 2 0),(.ptr 4 0)]),(.fn 156 [] [(.ptr 8 0)]),(.fn 157 [] [(.ptr 4 0),(.ptr 3 0)]),(.fn 160 [] [(.ptr 4 0)]),(.fn 158 [] [(.ptr 8 0)])])),(5,(.mp (aH T5) T5.length)),(6,(.box 207 [(.mp 5)])),(7,(vB5 dl (aB sk) (aB dc))),(8,(.box 209 [(.fn 153 [] [(.ptr 2 0),(.ptr 4 0)])]))]]) (l:=[FC Tryz.prog 134 [(.rp (aK dl (aB sk) (aB dc)) 0),(.p (.agg [(aA s1),(aA s2)])),(.agg [(.fn 154 [] [(.ptr 6 0),(.ptr 7 0),(.ptr 2 0),(.ptr 4 0)]),(.fn 156 [] [(.ptr 8 0)]),(.fn 157 [] [(.ptr 4 0),(.ptr 3 0)]),(.fn 160 [] [(.ptr 4 0)]),(.fn 158 [] [(.ptr 8 0)])])] [(6,(.box 207 [(.mp 5)])),(7,(vB5 dl (aB sk) (aB dc))),(2,(vB0 dl (aB sk) (aB dc))),(4,(.box 139 [(.fn 154 [] [(.ptr 6 0),(.ptr 7 0),(.ptr 2 0),(.ptr 4 0)]),(.fn 156 [] [(.ptr 8 0)]),(.fn 157 [] [(.ptr 4 0),(.ptr 3 0)]),(.fn 160 [] [(.ptr 4 0)]),(.fn 158 [] [(.ptr 8 0)])])),(8,(.box 209 [(.fn 153 [] [(.ptr 2 0),(.ptr 4 0)])])),(3,(.box 33 [(.p bR)])),(5,(.mp (aH ([]:List (Int × Bool))) 0))] 10 (.tup [(.p (aA n3)),(.p (blP b4))]) [(2,(vB0 dl (aB sk) (aB dc))),(3,(.box 33 [(.p bR)])),(4,(.box 139 [(.fn 154 [] [(.ptr 6 0),(.ptr 7 0),(.ptr 2 0),(.ptr 4 0)]),(.fn 156 [] [(.ptr 8 0)]),(.fn 157 [] [(.ptr 4 0),(.ptr 3 0)]),(.fn 160 [] [(.ptr 4 0)]),(.fn 158 [] [(.ptr 8 0)])])),(5,(.mp (aH T5) T5.length)),(6,(.box 207 [(.mp 5)])),(7,(vB5 dl (aB sk) (aB dc))),(8,(.box 209 [(.fn 153 [] [(.ptr 2 0),(.ptr 4 0)])]))],FC Tryz.prog 87 [(.rp (aK dl (aB sk) (aB dc)) 0),(.p bR)] [] 2 (.agg [(.fn 154 [] [(.ptr 6 0),(.ptr 7 0),(.ptr 2 0),(.ptr 4 0)]),(.fn 156 [] [(.ptr 8 0)]),(.fn 157 [] [(.ptr 4 0),(.ptr 3 0)]),(.fn 160 [] [(.ptr 4 0)]),(.fn 158 [] [(.ptr 8 0)])]) [(2,(vB0 dl (aB sk) (aB dc))),(3,(.box 33 [(.p bR)])),(4,(.box 139 [(.fn 154 [] [(.ptr 6 0),(.ptr 7 0),(.ptr 2 0),(.ptr 4 0)]),(.fn 156 [] [(.ptr 8 0)]),(.fn 157 [] [(.ptr 4 0),(.ptr 3 0)]),(.fn 160 [] [(.ptr 4 0)]),(.fn 158 [] [(.ptr 8 0)])])),(5,(.mp (aH ([]:List (Int × Bool))) 0)),(6,(.box 207 [(.mp 5)])),(7,(vB5 dl (aB sk) (aB dc))),(8,(.box 209 [(.fn 153 [] [(.ptr 2 0),(.ptr 4 0)])]))],((0:Int) != (0:Int))=false,_]) (by kernel_rfl) (gc (FMM.fc (ids:=[2,3,4,5,6,7,8]) h3 (by kernel_rfl)) (gc (FMM.fcN (k:=7) rfl (ids:=[]) (aFp (dl:=dl) (sk:=(aB sk)) (dc:=(aB dc))) (by kernel_rfl)) (gc (by first | decide | simp) (gc (fk 1 (bDb h0 h1 h2) rfl) gn))))
def iP(a:List (List Int))(b:List (List Int))(i:Nat):St:=⟨fr 26 [(0,(.p (.sl a.length (a.flatten.map aA)))),(1,(.p (.sl b.length (b.flatten.map aA)))),(12,(.p (aA (a.length:Int)))),(13,(.p (aA (i:Int))))],[]⟩
theorem bPj{a b:List (List Int)}(h0:(a.length:Int)≠(b.length:Int)){base:Nat}:FV Tryz.prog 51 [(.p (.sl a.length (a.flatten.map aA))),(.p (.sl b.length (b.flatten.map aA)))] base (.p (blP false)) []:=by
 exact FV.fin Tryz.func51 rfl (o:=[bT]) (l:=[_]) (by kernel_rfl) (gc (cX h0) gn)
theorem bPk{a b:List (List Int)}{i'0:Nat}(h0:(a.length:Int)=(b.length:Int))(hl1:aF Tryz.prog 0 uZ (iP a b 0) (.exit 0) (iP a b i'0)){base:Nat}:FV Tryz.prog 51 [(.p (.sl a.length (a.flatten.map aA))),(.p (.sl b.length (b.flatten.map aA)))] base (.p (blP true)) []:=by
 exact FV.fin Tryz.func51 rfl (o:=[bF,.k 4 ⟨(rng [(2,10),(14,12)]),[],[],[]⟩ (.exit 0) (iP a b i'0)]) (l:=[_,_]) (by kernel_rfl) (gc hl1.code (gc (cE h0) gn))
theorem bPl{a b:List (List Int)}{i'0:Nat}(h0:(a.length:Int)=(b.length:Int))(hl1:aF Tryz.prog 0 uZ (iP a b 0) .ret (bG (iP a b i'0) [(4,(.kb false))])){base:Nat}:FV Tryz.prog 51 [(.p (.sl a.length (a.flatten.map aA))),(.p (.sl b.length (b.flatten.map aA)))] base (.p (blP false)) []:=by
 exact FV.fin Tryz.func51 rfl (o:=[bF,.k 4 ⟨(rng [(2,10),(14,12)]),[],[],[]⟩ .ret (bG (iP a b i'0) [(4,(.kb false))])]) (l:=[_,_]) (by kernel_rfl) (gc hl1.code (gc (cE h0) gn))
theorem aVo{a b:List (List Int)}{i:Nat}{y100 y101 y102 y103 y104 y105:Int}(h0:(i:Int)<(a.length:Int))(h1:a[i]? = some [y100,y101,y102])(h2:uni 3 a)(h3:b[i]? = some [y103,y104,y105])(h4:uni 3 b)(h5:cG [(aA y100),(aA y101),(aA y102)] [(0,3,true),(1,3,true),(2,3,true)]=true∧cG [(aA y103),(aA y104),(aA y105)] [(0,3,true),(1,3,true),(2,3,true)]=true)(h6:(fX [(aA y100),(aA y101),(aA y102)] [(aA y103),(aA y104),(aA y105)] [(0,3,true),(1,3,true),(2,3,true)])=false):aC Tryz.prog 0 uZ (iP a b i) .ret (bG (iP a b i) [(4,(.kb false))]):=by
 exact aC.fin (g:=⟨(rng [(2,2),(5,7),(14,12)]),[],[],[]⟩) (o:=[bT,.x (.agg [(aA y100),(aA y101),(aA y102)]),.x (.agg [(aA y103),(aA y104),(aA y105)]),bT]) (l:=[_,_,_,_,0≤(i:Int)∧(i:Int)<(b.length:Int)∧(i*3)<(b.flatten.map aA).length,_,_,0≤(i:Int)∧(i:Int)<(a.length:Int)∧(i*3)<(a.flatten.map aA).length,_]) (by kernel_rfl) (gc (bI h6) (gc h5 (gc (aQ (i:=i) h4 h3) (gc (bD (i:=i) h4 h3) (gc (bB (k:=3) (i:=(i:Int)) (by decide) h4 (Int.natCast_nonneg _) h3) (gc (aQ (i:=i) h2 h1) (gc (bD (i:=i) h2 h1) (gc (bB (k:=3) (i:=(i:Int)) (by decide) h2 (Int.natCast_nonneg _) h1) (gc (aL h0) gn)))))))))
theorem aVp{a b:List (List Int)}{i:Nat}{y100 y101 y102 y103 y104 y105:Int}{i':Nat}(h0:(i:Int)<(a.length:Int))(h1:a[i]? = some [y100,y101,y102])(h2:uni 3 a)(h3:b[i]? = some [y103,y104,y105])(h4:uni 3 b)(h5:cG [(aA y100),(aA y101),(aA y102)] [(0,3,true),(1,3,true),(2,3,true)]=true∧cG [(aA y103),(aA y104),(aA y105)] [(0,3,true),(1,3,true),(2,3,true)]=true)(h6:(fX [(aA y100),(aA y101),(aA y102)] [(aA y103),(aA y104),(aA y105)] [(0,3,true),(1,3,true),(2,3,true)])=true)(h7:inR (((i+1):Nat):Int))(ei':i'=(i+1)):aC Tryz.prog 0 uZ (iP a b i) .normal (iP a b i'):=by
 subst ei'
 exact aC.fin (g:=⟨(rng [(2,10),(14,12)]),[],[],[]⟩) (o:=[bT,.x (.agg [(aA y100),(aA y101),(aA y102)]),.x (.agg [(aA y103),(aA y104),(aA y105)]),bF]) (l:=[_,_,_,_,_,0≤(i:Int)∧(i:Int)<(b.length:Int)∧(i*3)<(b.flatten.map aA).length,_,_,0≤(i:Int)∧(i:Int)<(a.length:Int)∧(i*3)<(a.flatten.map aA).length,_]) (by kernel_rfl) (gc h7 (gc (aI h6) (gc h5 (gc (aQ (i:=i) h4 h3) (gc (bD (i:=i) h4 h3) (gc (bB (k:=3) (i:=(i:Int)) (by decide) h4 (Int.natCast_nonneg _) h3) (gc (aQ (i:=i) h2 h1) (gc (bD (i:=i) h2 h1) (gc (bB (k:=3) (i:=(i:Int)) (by decide) h2 (Int.natCast_nonneg _) h1) (gc (aL h0) gn))))))))))
theorem aVq{a b:List (List Int)}{i:Nat}(h0:(a.length:Int)≤(i:Int)):aC Tryz.prog 0 uZ (iP a b i) (.exit 0) (iP a b i):=by
 exact aC.fin (g:=⟨(rng [(2,10),(14,12)]),[],[],[]⟩) (o:=[bF]) (l:=[_]) (by kernel_rfl) (gc (aE h0) gn)
theorem bPm(a b:List (List Int))(ha:uni 3 a)(hb:uni 3 b)(hl:a.length≤1000){base:Nat}:FV Tryz.prog 51 [.p (.sl a.length (a.flatten.map aA)),.p (.sl b.length (b.flatten.map aA))] base (.p (blP (decide (a=b)))) []:=by
 by_cases hlen:a.length=b.length
 ·have eqx:∀ i,i<a.length→∃ x y,a[i]? = some x∧b[i]? = some y∧x.length=3∧y.length=3:=fun i hi =>
   ⟨a[i],b[i],List.getElem?_eq_getElem hi,List.getElem?_eq_getElem (by omega),ha _ (List.getElem_mem hi),hb _ (List.getElem_mem (by omega))⟩
  rcases aF.find (P:=Tryz.prog) (k:=0) (b:=uZ) (fun i=>iP a b i) (fun i _=>bG (iP a b i) [(4,.kb false)]) (iP a b a.length) .ret (.exit 0) (by simp) (by simp) (fun j=>decide (a.getD j []≠b.getD j [])) (List.range a.length)
   (fun i x hx hp=>by
    have hi:i<a.length:=by have:=aS hx;simpa using this
    obtain ⟨y,z,hy,hz,ly,lz⟩:=eqx i hi
    obtain ⟨a,b,c,rfl⟩:=len3 ly
    obtain ⟨a',b',c',rfl⟩:=len3 lz
    have hxi:x=i:=by rw [List.getElem?_range hi] at hx;exact (Option.some.inj hx).symm
    subst hxi
    have he:=of_decide_eq_false hp
    simp only [List.getD_eq_getElem?_getD,hy,hz,Option.getD_some,ne_eq,Classical.not_not] at he
    cases he
    exact aVp (by omega) hy ha hz hb ⟨rfl,rfl⟩ (by simp [fX,oR]) (aR (by omega)) rfl)
   (fun i x hx hp=>by
    have hi:i<a.length:=by have:=aS hx;simpa using this
    obtain ⟨y,z,hy,hz,ly,lz⟩:=eqx i hi
    obtain ⟨a,b,c,rfl⟩:=len3 ly
    obtain ⟨a',b',c',rfl⟩:=len3 lz
    have hxi:x=i:=by rw [List.getElem?_range hi] at hx;exact (Option.some.inj hx).symm
    subst hxi
    have he:=of_decide_eq_true hp
    simp only [List.getD_eq_getElem?_getD,hy,hz,Option.getD_some] at he
    exact aVo (by omega) hy ha hz hb ⟨rfl,rfl⟩ (by
     rw [Bool.eq_false_iff]
     intro h
     simp [fX,oR] at h
     exact he (by simp [h])))
   (by rw [List.length_range];exact aVq (by omega)) with ⟨i,x,h1,h2,h3,h4⟩ | ⟨h1,h2,h3⟩
  ·have hi:i<a.length:=by have:=aS h1;simpa using this
   have hxi:x=i:=by rw [List.getElem?_range hi] at h1;exact (Option.some.inj h1).symm
   have he:=of_decide_eq_true h3
   rw [decide_eq_false (fun e=>he (by rw [e]))]
   exact bPl (by omega) h4
  ·have hall:∀ i,i<a.length→a.getD i []=b.getD i []:=fun i hi=>by
    have:=List.any_eq_false.1 h2 i (List.mem_range.2 hi)
    simpa using this
   have e:a=b:=by
    apply List.ext_getElem hlen
    intro i h1 h2
    have:=hall i h1
    simpa [List.getD_eq_getElem?_getD,List.getElem?_eq_getElem h1,List.getElem?_eq_getElem h2] using this
   rw [decide_eq_true e]
   exact bPk (by omega) h3
 ·rw [decide_eq_false (fun e=>hlen (by rw [e]))]
  exact bPj (by omega)
def iQ(a:List Int)(b:List Int)(i:Nat):St:=⟨fr 26 [(0,(.p (aJ a))),(1,(.p (aJ b))),(12,(.p (aA (a.length:Int)))),(13,(.p (aA (i:Int))))],[]⟩
theorem bPn{a b:List Int}(h0:(a.length:Int)≠(b.length:Int)){base:Nat}:FV Tryz.prog 41 [(.p (aJ a)),(.p (aJ b))] base (.p (blP false)) []:=by
 exact FV.fin Tryz.func41 rfl (o:=[bT]) (l:=[_]) (by kernel_rfl) (gc (cX h0) gn)
theorem bPo{a b:List Int}{i'0:Nat}(h0:(a.length:Int)=(b.length:Int))(hl1:aF Tryz.prog 0 vA (iQ a b 0) (.exit 0) (iQ a b i'0)){base:Nat}:FV Tryz.prog 41 [(.p (aJ a)),(.p (aJ b))] base (.p (blP true)) []:=by
 exact FV.fin Tryz.func41 rfl (o:=[bF,.k 4 ⟨(rng [(2,10),(14,12)]),[],[],[]⟩ (.exit 0) (iQ a b i'0)]) (l:=[_,_]) (by kernel_rfl) (gc hl1.code (gc (cE h0) gn))
theorem bPp{a b:List Int}{i'0:Nat}(h0:(a.length:Int)=(b.length:Int))(hl1:aF Tryz.prog 0 vA (iQ a b 0) .ret (bG (iQ a b i'0) [(4,(.kb false))])){base:Nat}:FV Tryz.prog 41 [(.p (aJ a)),(.p (aJ b))] base (.p (blP false)) []:=by
 exact FV.fin Tryz.func41 rfl (o:=[bF,.k 4 ⟨(rng [(2,10),(14,12)]),[],[],[]⟩ .ret (bG (iQ a b i'0) [(4,(.kb false))])]) (l:=[_,_]) (by kernel_rfl) (gc hl1.code (gc (cE h0) gn))
theorem aVr{a b:List Int}{i:Nat}{x100 x101:Int}(h0:(i:Int)<(a.length:Int))(h1:a[i]? = some x100)(h2:b[i]? = some x101)(h3:x100≠x101):aC Tryz.prog 0 vA (iQ a b i) .ret (bG (iQ a b i) [(4,(.kb false))]):=by
 exact aC.fin (g:=⟨(rng [(2,2),(5,7),(14,12)]),[],[],[]⟩) (o:=[bT,.x (aA x100),.x (aA x101),bT]) (l:=[_,_,_,_,_,_]) (by kernel_rfl) (gc (cX h3) (gc (atm aA h2) (gc (ixn aA h2) (gc (atm aA h1) (gc (ixn aA h1) (gc (aL h0) gn))))))
theorem aVs{a b:List Int}{i:Nat}{x100 x101:Int}{i':Nat}(h0:(i:Int)<(a.length:Int))(h1:a[i]? = some x100)(h2:b[i]? = some x101)(h3:x100=x101)(h4:inR (((i+1):Nat):Int))(ei':i'=(i+1)):aC Tryz.prog 0 vA (iQ a b i) .normal (iQ a b i'):=by
 subst ei'
 exact aC.fin (g:=⟨(rng [(2,10),(14,12)]),[],[],[]⟩) (o:=[bT,.x (aA x100),.x (aA x101),bF]) (l:=[_,_,_,_,_,_,_]) (by kernel_rfl) (gc h4 (gc (cE h3) (gc (atm aA h2) (gc (ixn aA h2) (gc (atm aA h1) (gc (ixn aA h1) (gc (aL h0) gn)))))))
theorem aVt{a b:List Int}{i:Nat}(h0:(a.length:Int)≤(i:Int)):aC Tryz.prog 0 vA (iQ a b i) (.exit 0) (iQ a b i):=by
 exact aC.fin (g:=⟨(rng [(2,10),(14,12)]),[],[],[]⟩) (o:=[bF]) (l:=[_]) (by kernel_rfl) (gc (aE h0) gn)
theorem bCe(a b:List Int)(hl:a.length≤1000){base:Nat}:FV Tryz.prog 41 [.p (aJ a),.p (aJ b)] base (.p (blP (decide (a=b)))) []:=by
 by_cases hlen:a.length=b.length
 ·rcases aF.find (P:=Tryz.prog) (k:=0) (b:=vA) (fun i=>iQ a b i) (fun i _=>bG (iQ a b i) [(4,.kb false)]) (iQ a b a.length) .ret (.exit 0) (by simp) (by simp) (fun j=>decide (a.getD j 0≠b.getD j 0)) (List.range a.length)
   (fun i x hx hp=>by
    have hi:i<a.length:=by have:=aS hx;simpa using this
    have hxi:x=i:=by rw [List.getElem?_range hi] at hx;exact (Option.some.inj hx).symm
    subst hxi
    have h1:a[x]? = some (a.getD x 0):=by rw [List.getD_eq_getElem?_getD,List.getElem?_eq_getElem hi];rfl
    have h2:b[x]? = some (b.getD x 0):=by rw [List.getD_eq_getElem?_getD,List.getElem?_eq_getElem (by omega)];rfl
    have he:=of_decide_eq_false hp
    exact aVs (by omega) h1 h2 (Classical.not_not.1 he) (aR (by omega)) rfl)
   (fun i x hx hp=>by
    have hi:i<a.length:=by have:=aS hx;simpa using this
    have hxi:x=i:=by rw [List.getElem?_range hi] at hx;exact (Option.some.inj hx).symm
    subst hxi
    have h1:a[x]? = some (a.getD x 0):=by rw [List.getD_eq_getElem?_getD,List.getElem?_eq_getElem hi];rfl
    have h2:b[x]? = some (b.getD x 0):=by rw [List.getD_eq_getElem?_getD,List.getElem?_eq_getElem (by omega)];rfl
    exact aVr (by omega) h1 h2 (of_decide_eq_true hp))
   (by rw [List.length_range];exact aVt (by omega)) with ⟨i,x,h1,h2,h3,h4⟩ | ⟨h1,h2,h3⟩
  ·have he:=of_decide_eq_true h3
   rw [decide_eq_false (fun e=>he (by rw [e]))]
   exact bPp (by omega) h4
  ·have hall:∀ i,i<a.length→a.getD i 0=b.getD i 0:=fun i hi=>by
    have:=List.any_eq_false.1 h2 i (List.mem_range.2 hi)
    simpa using this
   have e:a=b:=by
    apply List.ext_getElem hlen
    intro i h1 h2
    have:=hall i h1
    rwa [List.getD_eq_getElem?_getD,List.getD_eq_getElem?_getD,List.getElem?_eq_getElem h1,List.getElem?_eq_getElem h2] at this
   rw [decide_eq_true e]
   exact bPo (by omega) h3
 ·rw [decide_eq_false (fun e=>hlen (by rw [e]))]
  exact bPn (by omega)
theorem aEx{a b c:Int}{base:Nat}:FV Tryz.prog 23 [(.p (aA a)),(.p (aA b)),(.p (aA c))] base (.p (dcE a 0 0 b c 0)) []:=by
 exact FV.fin Tryz.func23 rfl (o:=[]) (l:=[]) (by kernel_rfl) (gn)
theorem gW{a b c d e:Int}{base:Nat}:FV Tryz.prog 49 [(.p (aA a)),(.p (aA b)),(.p (aA c)),(.p (aA d)),(.p (aA e))] base (.p (dcE a b d 0 e c)) []:=by
 exact FV.fin Tryz.func49 rfl (o:=[]) (l:=[]) (by kernel_rfl) (gn)
end
section
variable {P:Program}
theorem FC.close1{f base id ty n:Nat}{cs:List PV}{args args':List AV}{y:AV}{L:Upd}(h:FC P f args' [] base y L)(ha:fzL id n cs args=args'):FC P f args [(id,.row ty n cs)] base y ((id,.dead)::L):=fun M hb hf h8=>by
 have hoM:=hb _ (List.mem_cons_self ..)
 subst ha
 have fre:∀ j,eY M (base+j)=true→eY (bA M id (some .dead)) (base+j)=true:=fun j hj=>by
  have hne:id≠base+j:=fun e=>by
   have:=cS hj
   rw [← e] at this
   exact this _ (bK.1 hoM)
  unfold eY at hj ⊢
  rw [cZ,if_neg hne];exact hj
 exact FM.close1 hoM (h _ (fun p hp=>by cases hp) (by have:=fre 0 (by simpa using hf);simpa using this) (fun j hj=>fre j (h8 j hj)))
end
section

noncomputable abbrev uY:Code:=sub (cd Tryz.f58) [1,1,1,1,1,1,1,1,1,0,1,0,1,0,0]
noncomputable abbrev aEv:Code:=sub (cd Tryz.f58) [1,1,1,1,1,1,1,1,1,0,1,0]
noncomputable abbrev aMg:Code:=sub (cd Tryz.f58) [1,1,1,1,1,1,1,1,1,0,1,0,1]
theorem zW:((0:Int) != (0:Int))=false:=by first | decide | simp
def fA(dl:Int)(sk dc:List (List Int))(r:Int)(x:List Int):Int × Bool:=kF dl x (aB dc) (((aB sk).getD (bC (fun x=>decide (r=x)) (aN (aB sk) 0)).toNat []).getD 0 0) (((aB sk).getD (bC (fun x=>decide (r=x)) (aN (aB sk) 0)).toNat []).getD 1 0)
def lM(dl:Int)(sk:List (List Int))(dc:List (List Int))(num:Int)(r6:Int)  : St:=⟨fr 102 [(3,(.rp [(aA num)] 0)),(4,(.ptr 0 0)),(5,(.ptr 1 0)),(6,(.rp [(PV.rp (aK dl (aB sk) (aB dc)) 0)] 0)),(9,(.rp [(aA r6)] 0)),(10,(.rp [(aA (bC (fun x=>decide (r6=x)) (aN (aB sk) 0)))] 0)),(53,(.fn 182 [] [(.rp [(aJ ((aW dl (aB dc)).filter fun n => !(n == num)))] 0)]))],[some (.box 4 [(.p (blP false))]),some (.box 34 [(.p (aA 0))])]⟩
def sC(dl:Int)(sk:List (List Int))(dc:List (List Int))(num:Int)(r6:Int):St:=⟨fr 102 [(3,(.rp [(aA num)] 0)),(4,(.ptr 0 0)),(5,(.ptr 1 0)),(6,(.rp [(PV.rp (aK dl (aB sk) (aB dc)) 0)] 0)),(9,(.rp [(aA r6)] 0)),(10,(.rp [(aA (bC (fun x=>decide (r6=x)) (aN (aB sk) 0)))] 0)),(53,(.fn 182 [] [(.rp [(aJ ((aW dl (aB dc)).filter fun n => !(n == num)))] 0)]))],[some (.box 4 [(.p (blP false))]),some (.box 34 [(.p (aA 0))])]⟩
def zX(dl:Int)(sk:List (List Int))(dc:List (List Int))(num:Int)(r6:Int):St:=⟨fr 102 [(3,(.rp [(aA num)] 0)),(4,(.ptr 0 0)),(5,(.ptr 1 0)),(6,(.rp [(PV.rp (aK dl (aB sk) (aB dc)) 0)] 0)),(9,(.rp [(aA r6)] 0)),(10,(.rp [(aA (bC (fun x=>decide (r6=x)) (aN (aB sk) 0)))] 0)),(53,(.fn 182 [] [(.rp [(aJ ((aW dl (aB dc)).filter fun n => !(n == num)))] 0)]))],[some (.box 4 [(.kb true)]),some (.box 34 [(.p (aA 0))])]⟩
theorem bPd{dl:Int}{sk dc:List (List Int)}{num:Int}(h0:dG dl sk dc)(h1:cH (aB dc))(h2:(aW dl (aB dc)).length≤1000)(h3:((aW dl (aB dc)).contains num)=false){base:Nat}:FV Tryz.prog 58 [(.p (.agg (bH dl sk dc))),(.p (aA num))] base (.tup [(.p (blP false)),(.p (aA 1))]) []:=by
 exact FV.fin Tryz.func58 rfl (o:=[.c (.tup [(.rp (aK dl (aB sk) (aB dc)) 0),(.p (aA 0))]) [],bF,.g 1 ⟨[],[0,2,3],[4,1],[]⟩,.x (PV.rp (aK dl (aB sk) (aB dc)) 0),.c (.own 3) [(3,(.row 3 ((aW dl (aB dc)).length) ((aW dl (aB dc)).map aA)))],.x (aA num),.c (.p (blP ((aW dl (aB dc)).contains num))) [],bT]) (l:=[_,FC Tryz.prog 52 [(.own 3),(.p (aA num))] [(3,(.row 3 ((aW dl (aB dc)).length) ((aW dl (aB dc)).map aA)))] 4 (.p (blP ((aW dl (aB dc)).contains num))) [],[(aA num)][0]? = some (aA num),_,[(PV.rp (aK dl (aB sk) (aB dc)) 0)][0]? = some (PV.rp (aK dl (aB sk) (aB dc)) 0),_,_]) (by kernel_rfl) (gc (bI h3) (gc (fv (oC (aW dl (aB dc)) num h2)) (gc rfl (gc (fk 3 (pQ (dl:=dl) (sk:=(aB sk)) (dc:=(aB dc)) h1) rfl) (gc rfl (gc zW (gc (fk 4 (kA dl sk dc h0) rfl) gn)))))))
theorem bPe{dl:Int}{sk dc:List (List Int)}{num:Int}(h0:dG dl sk dc)(h1:cH (aB dc))(h2:(aW dl (aB dc)).length≤1000)(h3:((aW dl (aB dc)).contains num)=true)(h4:(8:Int)<(((aW dl (aB dc)).length:Nat):Int)){base:Nat}:FV Tryz.prog 58 [(.p (.agg (bH dl sk dc))),(.p (aA num))] base (.tup [(.p (blP false)),(.p (aA 10))]) []:=by
 exact FV.fin Tryz.func58 rfl (o:=[.c (.tup [(.rp (aK dl (aB sk) (aB dc)) 0),(.p (aA 0))]) [],bF,.g 1 ⟨[],[0,2,3],[4,1],[]⟩,.x (PV.rp (aK dl (aB sk) (aB dc)) 0),.c (.own 3) [(3,(.row 3 ((aW dl (aB dc)).length) ((aW dl (aB dc)).map aA)))],.x (aA num),.c (.p (blP ((aW dl (aB dc)).contains num))) [],bF,bT]) (l:=[_,_,FC Tryz.prog 52 [(.own 3),(.p (aA num))] [(3,(.row 3 ((aW dl (aB dc)).length) ((aW dl (aB dc)).map aA)))] 4 (.p (blP ((aW dl (aB dc)).contains num))) [],[(aA num)][0]? = some (aA num),_,[(PV.rp (aK dl (aB sk) (aB dc)) 0)][0]? = some (PV.rp (aK dl (aB sk) (aB dc)) 0),_,_]) (by kernel_rfl) (gc (aL h4) (gc (aI h3) (gc (fv (oC (aW dl (aB dc)) num h2)) (gc rfl (gc (fk 3 (pQ (dl:=dl) (sk:=(aB sk)) (dc:=(aB dc)) h1) rfl) (gc rfl (gc zW (gc (fk 4 (kA dl sk dc h0) rfl) gn))))))))
theorem bPf{dl:Int}{sk dc:List (List Int)}{num y0 y1 y2 y3 y4 y5 r6:Int}(h0:dG dl sk dc)(h1:cH (aB dc))(h2:(aW dl (aB dc)).length≤1000)(h3:((aW dl (aB dc)).contains num)=true)(h4:(((aW dl (aB dc)).length:Nat):Int)≤(8:Int))(h5:cJ .i64 (atF (aB dc).reverse) (.int .i64 num))(h6:(dO (atF (aB dc).reverse) (.int .i64 num))=true)(h7:fD (atF (aB dc).reverse) (.int .i64 num)=some (dcE y0 y1 y2 y3 y4 y5))(h8:bCq dl (aB sk) (aB dc) [y0,y1,y2,y3,y4,y5] r6)(h9:uni 2 (aB sk)∧(aB sk).length≤1000)(h10:(aN (aB sk) 0).length≤1000)(h11:(bC (fun x=>decide (r6=x)) (aN (aB sk) 0))<(0:Int)){base:Nat}:FV Tryz.prog 58 [(.p (.agg (bH dl sk dc))),(.p (aA num))] base (.tup [(.p (blP false)),(.p (aA 0))]) []:=by
 exact FV.fin Tryz.func58 rfl (o:=[.c (.tup [(.rp (aK dl (aB sk) (aB dc)) 0),(.p (aA 0))]) [],bF,.g 1 ⟨[],[0,2,3],[4,1],[]⟩,.x (PV.rp (aK dl (aB sk) (aB dc)) 0),.c (.own 3) [(3,(.row 3 ((aW dl (aB dc)).length) ((aW dl (aB dc)).map aA)))],.x (aA num),.c (.p (blP ((aW dl (aB dc)).contains num))) [],bF,bF,.x (PV.rp (aK dl (aB sk) (aB dc)) 0),.x (PV.rp (aK dl (aB sk) (aB dc)) 0),.x (.mp (atF (aB dc).reverse)),.x (aA num),bT,.x (dcE y0 y1 y2 y3 y4 y5),.c (.p (aA r6)) [],.x (PV.rp (aK dl (aB sk) (aB dc)) 0),.x (.agg (bH dl (aB sk) (aB dc))),.c (.own 13) [(13,(.row 3 ((aN (aB sk) 0).length) ((aN (aB sk) 0).map aA)))],.c (.p (aA (bC (fun x=>decide (r6=x)) (aN (aB sk) 0)))) [],.g 2 ⟨[],[0,1,2,3,13],[12,29],[]⟩,.x (aA (bC (fun x=>decide (r6=x)) (aN (aB sk) 0))),bT]) (l:=[_,[(aA (bC (fun x=>decide (r6=x)) (aN (aB sk) 0)))][0]? = some (aA (bC (fun x=>decide (r6=x)) (aN (aB sk) 0))),FC Tryz.prog 126 [(.own 13),(.p (aA r6))] [(13,(.row 3 ((aN (aB sk) 0).length) ((aN (aB sk) 0).map aA)))] 21 (.p (aA (bC (fun x=>decide (r6=x)) (aN (aB sk) 0)))) [],_,some (.agg (((aK dl (aB sk) (aB dc)).drop 0).take 3):PV)=some (.agg (bH dl (aB sk) (aB dc))),0+3≤(aK dl (aB sk) (aB dc)).length,[(PV.rp (aK dl (aB sk) (aB dc)) 0)][0]? = some (PV.rp (aK dl (aB sk) (aB dc)) 0),FC Tryz.prog 128 [(.rp (aK dl (aB sk) (aB dc)) 0),(.p (dcE y0 y1 y2 y3 y4 y5))] [] 4 (.p (aA r6)) [],_,_,_,[(aA num)][0]? = some (aA num),(aK dl (aB sk) (aB dc))[3]? = some (.mp (atF (aB dc).reverse)),[(PV.rp (aK dl (aB sk) (aB dc)) 0)][0]? = some (PV.rp (aK dl (aB sk) (aB dc)) 0),[(PV.rp (aK dl (aB sk) (aB dc)) 0)][0]? = some (PV.rp (aK dl (aB sk) (aB dc)) 0),_,_,FC Tryz.prog 52 [(.own 3),(.p (aA num))] [(3,(.row 3 ((aW dl (aB dc)).length) ((aW dl (aB dc)).map aA)))] 4 (.p (blP ((aW dl (aB dc)).contains num))) [],[(aA num)][0]? = some (aA num),_,[(PV.rp (aK dl (aB sk) (aB dc)) 0)][0]? = some (PV.rp (aK dl (aB sk) (aB dc)) 0),_,_]) (by kernel_rfl) (gc (aL h11) (gc rfl (gc (fv (zO (aN (aB sk) 0) r6 h10)) (gc (fk 13 (mJ dl (aB sk) (aB dc) h9) rfl) (gc rfl (gc (by first | decide | simp) (gc rfl (gc (FV.fc (h8 _) rfl) (gc h7 (gc h6 (gc h5 (gc rfl (gc rfl (gc rfl (gc rfl (gc (aE h4) (gc (aI h3) (gc (fv (oC (aW dl (aB dc)) num h2)) (gc rfl (gc (fk 3 (pQ (dl:=dl) (sk:=(aB sk)) (dc:=(aB dc)) h1) rfl) (gc rfl (gc zW (gc (fk 4 (kA dl sk dc h0) rfl) gn)))))))))))))))))))))))
theorem bPg{dl:Int}{sk dc:List (List Int)}{num y0 y1 y2 y3 y4 y5 r6:Int}(h0:dG dl sk dc)(h1:cH (aB dc))(h2:(aW dl (aB dc)).length≤1000)(h3:((aW dl (aB dc)).contains num)=true)(h4:(((aW dl (aB dc)).length:Nat):Int)≤(8:Int))(h5:cJ .i64 (atF (aB dc).reverse) (.int .i64 num))(h6:(dO (atF (aB dc).reverse) (.int .i64 num))=true)(h7:fD (atF (aB dc).reverse) (.int .i64 num)=some (dcE y0 y1 y2 y3 y4 y5))(h8:bCq dl (aB sk) (aB dc) [y0,y1,y2,y3,y4,y5] r6)(h9:uni 2 (aB sk)∧(aB sk).length≤1000)(h10:(aN (aB sk) 0).length≤1000)(h11:(0:Int)≤(bC (fun x=>decide (r6=x)) (aN (aB sk) 0)))(hl12:aC Tryz.prog 0 aEv (sC dl sk dc num r6) .normal (lM dl sk dc num r6 )){base:Nat}:FV Tryz.prog 58 [(.p (.agg (bH dl sk dc))),(.p (aA num))] base (.tup [(.p (blP false)),(.p (aA 0))]) []:=by
 exact FV.fin Tryz.func58 rfl (o:=[.c (.tup [(.rp (aK dl (aB sk) (aB dc)) 0),(.p (aA 0))]) [],bF,.g 1 ⟨[],[0,2,3],[4,1],[]⟩,.x (PV.rp (aK dl (aB sk) (aB dc)) 0),.c (.own 3) [(3,(.row 3 ((aW dl (aB dc)).length) ((aW dl (aB dc)).map aA)))],.x (aA num),.c (.p (blP ((aW dl (aB dc)).contains num))) [],bF,bF,.x (PV.rp (aK dl (aB sk) (aB dc)) 0),.x (PV.rp (aK dl (aB sk) (aB dc)) 0),.x (.mp (atF (aB dc).reverse)),.x (aA num),bT,.x (dcE y0 y1 y2 y3 y4 y5),.c (.p (aA r6)) [],.x (PV.rp (aK dl (aB sk) (aB dc)) 0),.x (.agg (bH dl (aB sk) (aB dc))),.c (.own 13) [(13,(.row 3 ((aN (aB sk) 0).length) ((aN (aB sk) 0).map aA)))],.c (.p (aA (bC (fun x=>decide (r6=x)) (aN (aB sk) 0)))) [],.g 2 ⟨[],[0,1,2,3,13],[12,29],[]⟩,.x (aA (bC (fun x=>decide (r6=x)) (aN (aB sk) 0))),bF,.c (.p (aJ ((aW dl (aB dc)).filter fun n => !(n == num)))) [(3,.dead)],.c (.fn 182 [] [(.rp [(aJ ((aW dl (aB dc)).filter fun n => !(n == num)))] 0)]) [],.k 1 ⟨(rng [(0,3),(7,2),(11,42),(54,48)]),[1,2],[],[]⟩ .normal (lM dl sk dc num r6 )]) (l:=[aC Tryz.prog 0 aEv (sC dl sk dc num r6) .normal (lM dl sk dc num r6 ),FC Tryz.prog 132 [(.p (aJ ((aW dl (aB dc)).filter fun n => !(n == num))))] [] 5 (.fn 182 [] [(.rp [(aJ ((aW dl (aB dc)).filter fun n => !(n == num)))] 0)]) [],FC Tryz.prog 54 [(.own 3),(.fn 133 [] [(.rp [(aA num)] 0)])] [(3,(.row 3 ((aW dl (aB dc)).length) ((aW dl (aB dc)).map aA)))] 5 (.p (aJ ((aW dl (aB dc)).filter fun n => !(n == num)))) [(3,.dead)],_,[(aA (bC (fun x=>decide (r6=x)) (aN (aB sk) 0)))][0]? = some (aA (bC (fun x=>decide (r6=x)) (aN (aB sk) 0))),FC Tryz.prog 126 [(.own 13),(.p (aA r6))] [(13,(.row 3 ((aN (aB sk) 0).length) ((aN (aB sk) 0).map aA)))] 21 (.p (aA (bC (fun x=>decide (r6=x)) (aN (aB sk) 0)))) [],_,some (.agg (((aK dl (aB sk) (aB dc)).drop 0).take 3):PV)=some (.agg (bH dl (aB sk) (aB dc))),0+3≤(aK dl (aB sk) (aB dc)).length,[(PV.rp (aK dl (aB sk) (aB dc)) 0)][0]? = some (PV.rp (aK dl (aB sk) (aB dc)) 0),FC Tryz.prog 128 [(.rp (aK dl (aB sk) (aB dc)) 0),(.p (dcE y0 y1 y2 y3 y4 y5))] [] 4 (.p (aA r6)) [],_,_,_,[(aA num)][0]? = some (aA num),(aK dl (aB sk) (aB dc))[3]? = some (.mp (atF (aB dc).reverse)),[(PV.rp (aK dl (aB sk) (aB dc)) 0)][0]? = some (PV.rp (aK dl (aB sk) (aB dc)) 0),[(PV.rp (aK dl (aB sk) (aB dc)) 0)][0]? = some (PV.rp (aK dl (aB sk) (aB dc)) 0),_,_,FC Tryz.prog 52 [(.own 3),(.p (aA num))] [(3,(.row 3 ((aW dl (aB dc)).length) ((aW dl (aB dc)).map aA)))] 4 (.p (blP ((aW dl (aB dc)).contains num))) [],[(aA num)][0]? = some (aA num),_,[(PV.rp (aK dl (aB sk) (aB dc)) 0)][0]? = some (PV.rp (aK dl (aB sk) (aB dc)) 0),_,_]) (by kernel_rfl) (gc hl12 (gc (FV.fc (aMl (q:=((aW dl (aB dc)).filter fun n => !(n == num)))) rfl) (gc (FMM.fc (ids:=[3]) (bCo (l:=(aW dl (aB dc))) (m:=num) h2 (fun _ _=>rfl)) (by kernel_rfl)) (gc (aE h11) (gc rfl (gc (fv (zO (aN (aB sk) 0) r6 h10)) (gc (fk 13 (mJ dl (aB sk) (aB dc) h9) rfl) (gc rfl (gc (by first | decide | simp) (gc rfl (gc (FV.fc (h8 _) rfl) (gc h7 (gc h6 (gc h5 (gc rfl (gc rfl (gc rfl (gc rfl (gc (aE h4) (gc (aI h3) (gc (fv (oC (aW dl (aB dc)) num h2)) (gc rfl (gc (fk 3 (pQ (dl:=dl) (sk:=(aB sk)) (dc:=(aB dc)) h1) rfl) (gc rfl (gc zW (gc (fk 4 (kA dl sk dc h0) rfl) gn))))))))))))))))))))))))))
theorem bPh{dl:Int}{sk dc:List (List Int)}{num y0 y1 y2 y3 y4 y5 r6:Int}(h0:dG dl sk dc)(h1:cH (aB dc))(h2:(aW dl (aB dc)).length≤1000)(h3:((aW dl (aB dc)).contains num)=true)(h4:(((aW dl (aB dc)).length:Nat):Int)≤(8:Int))(h5:cJ .i64 (atF (aB dc).reverse) (.int .i64 num))(h6:(dO (atF (aB dc).reverse) (.int .i64 num))=true)(h7:fD (atF (aB dc).reverse) (.int .i64 num)=some (dcE y0 y1 y2 y3 y4 y5))(h8:bCq dl (aB sk) (aB dc) [y0,y1,y2,y3,y4,y5] r6)(h9:uni 2 (aB sk)∧(aB sk).length≤1000)(h10:(aN (aB sk) 0).length≤1000)(h11:(0:Int)≤(bC (fun x=>decide (r6=x)) (aN (aB sk) 0)))(hl12:aC Tryz.prog 0 aEv (sC dl sk dc num r6) .ret (zX dl sk dc num r6)){base:Nat}:FV Tryz.prog 58 [(.p (.agg (bH dl sk dc))),(.p (aA num))] base (.tup [(.p (blP true)),(.p (aA 0))]) []:=by
 exact FV.fin Tryz.func58 rfl (o:=[.c (.tup [(.rp (aK dl (aB sk) (aB dc)) 0),(.p (aA 0))]) [],bF,.g 1 ⟨[],[0,2,3],[4,1],[]⟩,.x (PV.rp (aK dl (aB sk) (aB dc)) 0),.c (.own 3) [(3,(.row 3 ((aW dl (aB dc)).length) ((aW dl (aB dc)).map aA)))],.x (aA num),.c (.p (blP ((aW dl (aB dc)).contains num))) [],bF,bF,.x (PV.rp (aK dl (aB sk) (aB dc)) 0),.x (PV.rp (aK dl (aB sk) (aB dc)) 0),.x (.mp (atF (aB dc).reverse)),.x (aA num),bT,.x (dcE y0 y1 y2 y3 y4 y5),.c (.p (aA r6)) [],.x (PV.rp (aK dl (aB sk) (aB dc)) 0),.x (.agg (bH dl (aB sk) (aB dc))),.c (.own 13) [(13,(.row 3 ((aN (aB sk) 0).length) ((aN (aB sk) 0).map aA)))],.c (.p (aA (bC (fun x=>decide (r6=x)) (aN (aB sk) 0)))) [],.g 2 ⟨[],[0,1,2,3,13],[12,29],[]⟩,.x (aA (bC (fun x=>decide (r6=x)) (aN (aB sk) 0))),bF,.c (.p (aJ ((aW dl (aB dc)).filter fun n => !(n == num)))) [(3,.dead)],.c (.fn 182 [] [(.rp [(aJ ((aW dl (aB dc)).filter fun n => !(n == num)))] 0)]) [],.k 1 ⟨(rng [(0,3),(7,2),(11,42),(54,48)]),[1,2],[],[]⟩ .ret (zX dl sk dc num r6)]) (l:=[aC Tryz.prog 0 aEv (sC dl sk dc num r6) .ret (zX dl sk dc num r6),FC Tryz.prog 132 [(.p (aJ ((aW dl (aB dc)).filter fun n => !(n == num))))] [] 5 (.fn 182 [] [(.rp [(aJ ((aW dl (aB dc)).filter fun n => !(n == num)))] 0)]) [],FC Tryz.prog 54 [(.own 3),(.fn 133 [] [(.rp [(aA num)] 0)])] [(3,(.row 3 ((aW dl (aB dc)).length) ((aW dl (aB dc)).map aA)))] 5 (.p (aJ ((aW dl (aB dc)).filter fun n => !(n == num)))) [(3,.dead)],_,[(aA (bC (fun x=>decide (r6=x)) (aN (aB sk) 0)))][0]? = some (aA (bC (fun x=>decide (r6=x)) (aN (aB sk) 0))),FC Tryz.prog 126 [(.own 13),(.p (aA r6))] [(13,(.row 3 ((aN (aB sk) 0).length) ((aN (aB sk) 0).map aA)))] 21 (.p (aA (bC (fun x=>decide (r6=x)) (aN (aB sk) 0)))) [],_,some (.agg (((aK dl (aB sk) (aB dc)).drop 0).take 3):PV)=some (.agg (bH dl (aB sk) (aB dc))),0+3≤(aK dl (aB sk) (aB dc)).length,[(PV.rp (aK dl (aB sk) (aB dc)) 0)][0]? = some (PV.rp (aK dl (aB sk) (aB dc)) 0),FC Tryz.prog 128 [(.rp (aK dl (aB sk) (aB dc)) 0),(.p (dcE y0 y1 y2 y3 y4 y5))] [] 4 (.p (aA r6)) [],_,_,_,[(aA num)][0]? = some (aA num),(aK dl (aB sk) (aB dc))[3]? = some (.mp (atF (aB dc).reverse)),[(PV.rp (aK dl (aB sk) (aB dc)) 0)][0]? = some (PV.rp (aK dl (aB sk) (aB dc)) 0),[(PV.rp (aK dl (aB sk) (aB dc)) 0)][0]? = some (PV.rp (aK dl (aB sk) (aB dc)) 0),_,_,FC Tryz.prog 52 [(.own 3),(.p (aA num))] [(3,(.row 3 ((aW dl (aB dc)).length) ((aW dl (aB dc)).map aA)))] 4 (.p (blP ((aW dl (aB dc)).contains num))) [],[(aA num)][0]? = some (aA num),_,[(PV.rp (aK dl (aB sk) (aB dc)) 0)][0]? = some (PV.rp (aK dl (aB sk) (aB dc)) 0),_,_]) (by kernel_rfl) (gc hl12 (gc (FV.fc (aMl (q:=((aW dl (aB dc)).filter fun n => !(n == num)))) rfl) (gc (FMM.fc (ids:=[3]) (bCo (l:=(aW dl (aB dc))) (m:=num) h2 (fun _ _=>rfl)) (by kernel_rfl)) (gc (aE h11) (gc rfl (gc (fv (zO (aN (aB sk) 0) r6 h10)) (gc (fk 13 (mJ dl (aB sk) (aB dc) h9) rfl) (gc rfl (gc (by first | decide | simp) (gc rfl (gc (FV.fc (h8 _) rfl) (gc h7 (gc h6 (gc h5 (gc rfl (gc rfl (gc rfl (gc rfl (gc (aE h4) (gc (aI h3) (gc (fv (oC (aW dl (aB dc)) num h2)) (gc rfl (gc (fk 3 (pQ (dl:=dl) (sk:=(aB sk)) (dc:=(aB dc)) h1) rfl) (gc rfl (gc zW (gc (fk 4 (kA dl sk dc h0) rfl) gn))))))))))))))))))))))))))
def gI(dl:Int)(sk:List (List Int))(dc:List (List Int))(num:Int)(r6:Int)(x:List Int)  : St:=⟨fr 102 [(3,(.rp [(aA num)] 0)),(4,(.ptr 0 0)),(5,(.ptr 1 0)),(6,(.rp [(PV.rp (aK dl (aB sk) (aB dc)) 0)] 0)),(9,(.rp [(aA r6)] 0)),(10,(.rp [(aA (bC (fun x=>decide (r6=x)) (aN (aB sk) 0)))] 0)),(11,(.own 2)),(53,(.fn 182 [] [(.rp [(aJ ((aW dl (aB dc)).filter fun n => !(n == num)))] 0)])),(54,(.own 2))],[some (.box 4 [(.p (blP false))]),some (.box 34 [(.p (aA 0))]),some (.row 3 x.length (x.map aA))]⟩
def aEw(dl:Int)(sk:List (List Int))(dc:List (List Int))(num:Int)(r6:Int)  : St:=⟨fr 102 [],[some (.box 4 [(.kb true)]),some (.box 34 [(.p (aA 0))]),some .dead]⟩
theorem aVl{dl:Int}{sk dc:List (List Int)}{num r6:Int}{x:List Int}{y100 y101 n102:Int}{b103:Bool}{T104:List (Int × Bool)}(hl0:aC Tryz.prog 3 uY (gI dl sk dc num r6 x ) .normal (bG (gI dl sk dc num r6 x ) [(12,(.p (aA ((fA dl sk dc r6 x).1)))),(13,(.p (blP ((fA dl sk dc r6 x).2))))]))(h1:(aB sk)[(bC (fun x=>decide (r6=x)) (aN (aB sk) 0)).toNat]? = some [y100,y101])(h2:0≤(bC (fun x=>decide (r6=x)) (aN (aB sk) 0)))(h3:uni 2 (aB sk))(h4:[(aA num)].length=1*1∧x.length+1≤1000000)(h5:aBb dl (aB sk) (aB dc) (.sl (x.length+1) ((x.map aA)++[(aA num)])) [y100,y101] n102 b103 ([]:List (Int × Bool)) T104)(h6:cG [(aA r6),(aA 0),(aA ((fA dl sk dc r6 x).1))] [(0,3,true),(1,3,true),(2,3,true)]=true∧cG [(aA r6),(aA 0),(aA n102)] [(0,3,true),(1,3,true),(2,3,true)]=true)(h7:(fX [(aA r6),(aA 0),(aA ((fA dl sk dc r6 x).1))] [(aA r6),(aA 0),(aA n102)] [(0,3,true),(1,3,true),(2,3,true)])=false):aC Tryz.prog 3 aMg (rfO (lM dl sk dc num r6 ) 54 11 x) .ret (aEw dl sk dc num r6 ):=by
 exact aC.fin (g:=⟨(rng [(0,102)]),[],[],[]⟩) (o:=[.k 2 ⟨(rng [(0,3),(7,2),(12,2),(16,37),(55,16)]),[],[],[]⟩ .normal (bG (gI dl sk dc num r6 x ) [(12,(.p (aA ((fA dl sk dc r6 x).1)))),(13,(.p (blP ((fA dl sk dc r6 x).2))))]),.x (PV.rp (aK dl (aB sk) (aB dc)) 0),.x (PV.rp (aK dl (aB sk) (aB dc)) 0),.x (.sl ((aB sk).length) ((aB sk).flatten.map aA)),.x (aA (bC (fun x=>decide (r6=x)) (aN (aB sk) 0))),.x (.agg [(aA y100),(aA y101)]),.x (PV.rp (aK dl (aB sk) (aB dc)) 0),.x (aA num),.c (.agg [(.fn 154 [] [(.ptr 9 0),(.ptr 10 0),(.ptr 5 0),(.ptr 7 0)]),(.fn 156 [] [(.ptr 11 0)]),(.fn 157 [] [(.ptr 7 0),(.ptr 6 0)]),(.fn 160 [] [(.ptr 7 0)]),(.fn 158 [] [(.ptr 11 0)])]) [(4,.dead),(5,(vB0 dl (aB sk) (aB dc))),(6,(.box 33 [(.p (.sl (x.length+1) ((x.map aA)++[(aA num)])))])),(7,(.box 139 [(.fn 154 [] [(.ptr 9 0),(.ptr 10 0),(.ptr 5 0),(.ptr 7 0)]),(.fn 156 [] [(.ptr 11 0)]),(.fn 157 [] [(.ptr 7 0),(.ptr 6 0)]),(.fn 160 [] [(.ptr 7 0)]),(.fn 158 [] [(.ptr 11 0)])])),(8,(.mp (aH ([]:List (Int × Bool))) 0)),(9,(.box 207 [(.mp 8)])),(10,(vB5 dl (aB sk) (aB dc))),(11,(.box 209 [(.fn 153 [] [(.ptr 5 0),(.ptr 7 0)])]))],.c (.tup [(.p (aA n102)),(.p (blP b103))]) [(5,(vB0 dl (aB sk) (aB dc))),(6,(.box 33 [(.p (.sl (x.length+1) ((x.map aA)++[(aA num)])))])),(7,(.box 139 [(.fn 154 [] [(.ptr 9 0),(.ptr 10 0),(.ptr 5 0),(.ptr 7 0)]),(.fn 156 [] [(.ptr 11 0)]),(.fn 157 [] [(.ptr 7 0),(.ptr 6 0)]),(.fn 160 [] [(.ptr 7 0)]),(.fn 158 [] [(.ptr 11 0)])])),(8,(.mp (aH T104) T104.length)),(9,(.box 207 [(.mp 8)])),(10,(vB5 dl (aB sk) (aB dc))),(11,(.box 209 [(.fn 153 [] [(.ptr 5 0),(.ptr 7 0)])]))],.x (aA r6),.x (aA r6),bT,bT,bT,bT]) (l:=[_,_,_,_,_,[(aA r6)][0]? = some (aA r6),[(aA r6)][0]? = some (aA r6),FC Tryz.prog 134 [(.rp (aK dl (aB sk) (aB dc)) 0),(.p (.agg [(aA y100),(aA y101)])),(.agg [(.fn 154 [] [(.ptr 9 0),(.ptr 10 0),(.ptr 5 0),(.ptr 7 0)]),(.fn 156 [] [(.ptr 11 0)]),(.fn 157 [] [(.ptr 7 0),(.ptr 6 0)]),(.fn 160 [] [(.ptr 7 0)]),(.fn 158 [] [(.ptr 11 0)])])] [(9,(.box 207 [(.mp 8)])),(10,(vB5 dl (aB sk) (aB dc))),(5,(vB0 dl (aB sk) (aB dc))),(7,(.box 139 [(.fn 154 [] [(.ptr 9 0),(.ptr 10 0),(.ptr 5 0),(.ptr 7 0)]),(.fn 156 [] [(.ptr 11 0)]),(.fn 157 [] [(.ptr 7 0),(.ptr 6 0)]),(.fn 160 [] [(.ptr 7 0)]),(.fn 158 [] [(.ptr 11 0)])])),(11,(.box 209 [(.fn 153 [] [(.ptr 5 0),(.ptr 7 0)])])),(6,(.box 33 [(.p (.sl (x.length+1) ((x.map aA)++[(aA num)])))])),(8,(.mp (aH ([]:List (Int × Bool))) 0))] 13 (.tup [(.p (aA n102)),(.p (blP b103))]) [(5,(vB0 dl (aB sk) (aB dc))),(6,(.box 33 [(.p (.sl (x.length+1) ((x.map aA)++[(aA num)])))])),(7,(.box 139 [(.fn 154 [] [(.ptr 9 0),(.ptr 10 0),(.ptr 5 0),(.ptr 7 0)]),(.fn 156 [] [(.ptr 11 0)]),(.fn 157 [] [(.ptr 7 0),(.ptr 6 0)]),(.fn 160 [] [(.ptr 7 0)]),(.fn 158 [] [(.ptr 11 0)])])),(8,(.mp (aH T104) T104.length)),(9,(.box 207 [(.mp 8)])),(10,(vB5 dl (aB sk) (aB dc))),(11,(.box 209 [(.fn 153 [] [(.ptr 5 0),(.ptr 7 0)])]))],FC Tryz.prog 87 [(.rp (aK dl (aB sk) (aB dc)) 0),(.own 4)] [(4,(.row 3 (x.length+1) ((x.map aA)++[(aA num)])))] 5 (.agg [(.fn 154 [] [(.ptr 9 0),(.ptr 10 0),(.ptr 5 0),(.ptr 7 0)]),(.fn 156 [] [(.ptr 11 0)]),(.fn 157 [] [(.ptr 7 0),(.ptr 6 0)]),(.fn 160 [] [(.ptr 7 0)]),(.fn 158 [] [(.ptr 11 0)])]) [(4,.dead),(5,(vB0 dl (aB sk) (aB dc))),(6,(.box 33 [(.p (.sl (x.length+1) ((x.map aA)++[(aA num)])))])),(7,(.box 139 [(.fn 154 [] [(.ptr 9 0),(.ptr 10 0),(.ptr 5 0),(.ptr 7 0)]),(.fn 156 [] [(.ptr 11 0)]),(.fn 157 [] [(.ptr 7 0),(.ptr 6 0)]),(.fn 160 [] [(.ptr 7 0)]),(.fn 158 [] [(.ptr 11 0)])])),(8,(.mp (aH ([]:List (Int × Bool))) 0)),(9,(.box 207 [(.mp 8)])),(10,(vB5 dl (aB sk) (aB dc))),(11,(.box 209 [(.fn 153 [] [(.ptr 5 0),(.ptr 7 0)])]))],_,[(aA num)][0]? = some (aA num),[(PV.rp (aK dl (aB sk) (aB dc)) 0)][0]? = some (PV.rp (aK dl (aB sk) (aB dc)) 0),_,_,0≤(bC (fun x=>decide (r6=x)) (aN (aB sk) 0))∧(bC (fun x=>decide (r6=x)) (aN (aB sk) 0))<(((aB sk).length:Nat):Int)∧((bC (fun x=>decide (r6=x)) (aN (aB sk) 0)).toNat*2)<((aB sk).flatten.map aA).length,[(aA (bC (fun x=>decide (r6=x)) (aN (aB sk) 0)))][0]? = some (aA (bC (fun x=>decide (r6=x)) (aN (aB sk) 0))),(aK dl (aB sk) (aB dc))[1]? = some (.sl ((aB sk).length) ((aB sk).flatten.map aA)),[(PV.rp (aK dl (aB sk) (aB dc)) 0)][0]? = some (PV.rp (aK dl (aB sk) (aB dc)) 0),[(PV.rp (aK dl (aB sk) (aB dc)) 0)][0]? = some (PV.rp (aK dl (aB sk) (aB dc)) 0),aC Tryz.prog 3 uY (gI dl sk dc num r6 x ) .normal (bG (gI dl sk dc num r6 x ) [(12,(.p (aA ((fA dl sk dc r6 x).1)))),(13,(.p (blP ((fA dl sk dc r6 x).2))))])]) (by kernel_rfl) (gc (bI h7) (gc (bI h7) (gc (bI h7) (gc (bI h7) (gc h6 (gc rfl (gc rfl (gc (FMM.fc (ids:=[5,6,7,8,9,10,11]) h5 (by kernel_rfl)) (gc (FC.close1 (args':=[(.rp (aK dl (aB sk) (aB dc)) 0),(.p (.sl (x.length+1) ((x.map aA)++[(aA num)])))]) (FMM.fcN (k:=7) rfl (ids:=[]) (oH (dl:=dl) (sk:=(aB sk)) (dc:=(aB dc)) (on:=(x.length+1)) (ol:=((x.map aA)++[(aA num)]))) (by kernel_rfl)) (by kernel_rfl)) (gc h4 (gc rfl (gc rfl (gc (aQ (i:=(bC (fun x=>decide (r6=x)) (aN (aB sk) 0)).toNat) h3 h1) (gc (bD (i:=(bC (fun x=>decide (r6=x)) (aN (aB sk) 0)).toNat) h3 h1) (gc (bB (k:=2) (i:=(bC (fun x=>decide (r6=x)) (aN (aB sk) 0))) (by decide) h3 h2 h1) (gc rfl (gc rfl (gc rfl (gc rfl (gc hl0 gn))))))))))))))))))))
theorem aVm{dl:Int}{sk dc:List (List Int)}{num r6:Int}{x:List Int}{y100 y101 n102:Int}{b103:Bool}{T104:List (Int × Bool)}(hl0:aC Tryz.prog 3 uY (gI dl sk dc num r6 x ) .normal (bG (gI dl sk dc num r6 x ) [(12,(.p (aA ((fA dl sk dc r6 x).1)))),(13,(.p (blP ((fA dl sk dc r6 x).2))))]))(h1:(aB sk)[(bC (fun x=>decide (r6=x)) (aN (aB sk) 0)).toNat]? = some [y100,y101])(h2:0≤(bC (fun x=>decide (r6=x)) (aN (aB sk) 0)))(h3:uni 2 (aB sk))(h4:[(aA num)].length=1*1∧x.length+1≤1000000)(h5:aBb dl (aB sk) (aB dc) (.sl (x.length+1) ((x.map aA)++[(aA num)])) [y100,y101] n102 b103 ([]:List (Int × Bool)) T104)(h6:cG [(aA r6),(aA 0),(aA ((fA dl sk dc r6 x).1))] [(0,3,true),(1,3,true),(2,3,true)]=true∧cG [(aA r6),(aA 0),(aA n102)] [(0,3,true),(1,3,true),(2,3,true)]=true)(h7:(fX [(aA r6),(aA 0),(aA ((fA dl sk dc r6 x).1))] [(aA r6),(aA 0),(aA n102)] [(0,3,true),(1,3,true),(2,3,true)])=true)(h8:(((fA dl sk dc r6 x).2) == b103)=false):aC Tryz.prog 3 aMg (rfO (lM dl sk dc num r6 ) 54 11 x) .ret (aEw dl sk dc num r6 ):=by
 exact aC.fin (g:=⟨(rng [(0,102)]),[],[],[]⟩) (o:=[.k 2 ⟨(rng [(0,3),(7,2),(12,2),(16,37),(55,16)]),[],[],[]⟩ .normal (bG (gI dl sk dc num r6 x ) [(12,(.p (aA ((fA dl sk dc r6 x).1)))),(13,(.p (blP ((fA dl sk dc r6 x).2))))]),.x (PV.rp (aK dl (aB sk) (aB dc)) 0),.x (PV.rp (aK dl (aB sk) (aB dc)) 0),.x (.sl ((aB sk).length) ((aB sk).flatten.map aA)),.x (aA (bC (fun x=>decide (r6=x)) (aN (aB sk) 0))),.x (.agg [(aA y100),(aA y101)]),.x (PV.rp (aK dl (aB sk) (aB dc)) 0),.x (aA num),.c (.agg [(.fn 154 [] [(.ptr 9 0),(.ptr 10 0),(.ptr 5 0),(.ptr 7 0)]),(.fn 156 [] [(.ptr 11 0)]),(.fn 157 [] [(.ptr 7 0),(.ptr 6 0)]),(.fn 160 [] [(.ptr 7 0)]),(.fn 158 [] [(.ptr 11 0)])]) [(4,.dead),(5,(vB0 dl (aB sk) (aB dc))),(6,(.box 33 [(.p (.sl (x.length+1) ((x.map aA)++[(aA num)])))])),(7,(.box 139 [(.fn 154 [] [(.ptr 9 0),(.ptr 10 0),(.ptr 5 0),(.ptr 7 0)]),(.fn 156 [] [(.ptr 11 0)]),(.fn 157 [] [(.ptr 7 0),(.ptr 6 0)]),(.fn 160 [] [(.ptr 7 0)]),(.fn 158 [] [(.ptr 11 0)])])),(8,(.mp (aH ([]:List (Int × Bool))) 0)),(9,(.box 207 [(.mp 8)])),(10,(vB5 dl (aB sk) (aB dc))),(11,(.box 209 [(.fn 153 [] [(.ptr 5 0),(.ptr 7 0)])]))],.c (.tup [(.p (aA n102)),(.p (blP b103))]) [(5,(vB0 dl (aB sk) (aB dc))),(6,(.box 33 [(.p (.sl (x.length+1) ((x.map aA)++[(aA num)])))])),(7,(.box 139 [(.fn 154 [] [(.ptr 9 0),(.ptr 10 0),(.ptr 5 0),(.ptr 7 0)]),(.fn 156 [] [(.ptr 11 0)]),(.fn 157 [] [(.ptr 7 0),(.ptr 6 0)]),(.fn 160 [] [(.ptr 7 0)]),(.fn 158 [] [(.ptr 11 0)])])),(8,(.mp (aH T104) T104.length)),(9,(.box 207 [(.mp 8)])),(10,(vB5 dl (aB sk) (aB dc))),(11,(.box 209 [(.fn 153 [] [(.ptr 5 0),(.ptr 7 0)])]))],.x (aA r6),.x (aA r6),bF,bF,bF,bF,bT]) (l:=[_,_,_,_,_,_,[(aA r6)][0]? = some (aA r6),[(aA r6)][0]? = some (aA r6),FC Tryz.prog 134 [(.rp (aK dl (aB sk) (aB dc)) 0),(.p (.agg [(aA y100),(aA y101)])),(.agg [(.fn 154 [] [(.ptr 9 0),(.ptr 10 0),(.ptr 5 0),(.ptr 7 0)]),(.fn 156 [] [(.ptr 11 0)]),(.fn 157 [] [(.ptr 7 0),(.ptr 6 0)]),(.fn 160 [] [(.ptr 7 0)]),(.fn 158 [] [(.ptr 11 0)])])] [(9,(.box 207 [(.mp 8)])),(10,(vB5 dl (aB sk) (aB dc))),(5,(vB0 dl (aB sk) (aB dc))),(7,(.box 139 [(.fn 154 [] [(.ptr 9 0),(.ptr 10 0),(.ptr 5 0),(.ptr 7 0)]),(.fn 156 [] [(.ptr 11 0)]),(.fn 157 [] [(.ptr 7 0),(.ptr 6 0)]),(.fn 160 [] [(.ptr 7 0)]),(.fn 158 [] [(.ptr 11 0)])])),(11,(.box 209 [(.fn 153 [] [(.ptr 5 0),(.ptr 7 0)])])),(6,(.box 33 [(.p (.sl (x.length+1) ((x.map aA)++[(aA num)])))])),(8,(.mp (aH ([]:List (Int × Bool))) 0))] 13 (.tup [(.p (aA n102)),(.p (blP b103))]) [(5,(vB0 dl (aB sk) (aB dc))),(6,(.box 33 [(.p (.sl (x.length+1) ((x.map aA)++[(aA num)])))])),(7,(.box 139 [(.fn 154 [] [(.ptr 9 0),(.ptr 10 0),(.ptr 5 0),(.ptr 7 0)]),(.fn 156 [] [(.ptr 11 0)]),(.fn 157 [] [(.ptr 7 0),(.ptr 6 0)]),(.fn 160 [] [(.ptr 7 0)]),(.fn 158 [] [(.ptr 11 0)])])),(8,(.mp (aH T104) T104.length)),(9,(.box 207 [(.mp 8)])),(10,(vB5 dl (aB sk) (aB dc))),(11,(.box 209 [(.fn 153 [] [(.ptr 5 0),(.ptr 7 0)])]))],FC Tryz.prog 87 [(.rp (aK dl (aB sk) (aB dc)) 0),(.own 4)] [(4,(.row 3 (x.length+1) ((x.map aA)++[(aA num)])))] 5 (.agg [(.fn 154 [] [(.ptr 9 0),(.ptr 10 0),(.ptr 5 0),(.ptr 7 0)]),(.fn 156 [] [(.ptr 11 0)]),(.fn 157 [] [(.ptr 7 0),(.ptr 6 0)]),(.fn 160 [] [(.ptr 7 0)]),(.fn 158 [] [(.ptr 11 0)])]) [(4,.dead),(5,(vB0 dl (aB sk) (aB dc))),(6,(.box 33 [(.p (.sl (x.length+1) ((x.map aA)++[(aA num)])))])),(7,(.box 139 [(.fn 154 [] [(.ptr 9 0),(.ptr 10 0),(.ptr 5 0),(.ptr 7 0)]),(.fn 156 [] [(.ptr 11 0)]),(.fn 157 [] [(.ptr 7 0),(.ptr 6 0)]),(.fn 160 [] [(.ptr 7 0)]),(.fn 158 [] [(.ptr 11 0)])])),(8,(.mp (aH ([]:List (Int × Bool))) 0)),(9,(.box 207 [(.mp 8)])),(10,(vB5 dl (aB sk) (aB dc))),(11,(.box 209 [(.fn 153 [] [(.ptr 5 0),(.ptr 7 0)])]))],_,[(aA num)][0]? = some (aA num),[(PV.rp (aK dl (aB sk) (aB dc)) 0)][0]? = some (PV.rp (aK dl (aB sk) (aB dc)) 0),_,_,0≤(bC (fun x=>decide (r6=x)) (aN (aB sk) 0))∧(bC (fun x=>decide (r6=x)) (aN (aB sk) 0))<(((aB sk).length:Nat):Int)∧((bC (fun x=>decide (r6=x)) (aN (aB sk) 0)).toNat*2)<((aB sk).flatten.map aA).length,[(aA (bC (fun x=>decide (r6=x)) (aN (aB sk) 0)))][0]? = some (aA (bC (fun x=>decide (r6=x)) (aN (aB sk) 0))),(aK dl (aB sk) (aB dc))[1]? = some (.sl ((aB sk).length) ((aB sk).flatten.map aA)),[(PV.rp (aK dl (aB sk) (aB dc)) 0)][0]? = some (PV.rp (aK dl (aB sk) (aB dc)) 0),[(PV.rp (aK dl (aB sk) (aB dc)) 0)][0]? = some (PV.rp (aK dl (aB sk) (aB dc)) 0),aC Tryz.prog 3 uY (gI dl sk dc num r6 x ) .normal (bG (gI dl sk dc num r6 x ) [(12,(.p (aA ((fA dl sk dc r6 x).1)))),(13,(.p (blP ((fA dl sk dc r6 x).2))))])]) (by kernel_rfl) (gc (bI h8) (gc (aI h7) (gc (aI h7) (gc (aI h7) (gc (aI h7) (gc h6 (gc rfl (gc rfl (gc (FMM.fc (ids:=[5,6,7,8,9,10,11]) h5 (by kernel_rfl)) (gc (FC.close1 (args':=[(.rp (aK dl (aB sk) (aB dc)) 0),(.p (.sl (x.length+1) ((x.map aA)++[(aA num)])))]) (FMM.fcN (k:=7) rfl (ids:=[]) (oH (dl:=dl) (sk:=(aB sk)) (dc:=(aB dc)) (on:=(x.length+1)) (ol:=((x.map aA)++[(aA num)]))) (by kernel_rfl)) (by kernel_rfl)) (gc h4 (gc rfl (gc rfl (gc (aQ (i:=(bC (fun x=>decide (r6=x)) (aN (aB sk) 0)).toNat) h3 h1) (gc (bD (i:=(bC (fun x=>decide (r6=x)) (aN (aB sk) 0)).toNat) h3 h1) (gc (bB (k:=2) (i:=(bC (fun x=>decide (r6=x)) (aN (aB sk) 0))) (by decide) h3 h2 h1) (gc rfl (gc rfl (gc rfl (gc rfl (gc hl0 gn)))))))))))))))))))))
def aMh(dl:Int)(sk:List (List Int))(dc:List (List Int))(num:Int)(r6:Int)  : St:=⟨fr 102 [(3,(.rp [(aA num)] 0)),(4,(.ptr 0 0)),(5,(.ptr 1 0)),(6,(.rp [(PV.rp (aK dl (aB sk) (aB dc)) 0)] 0)),(9,(.rp [(aA r6)] 0)),(10,(.rp [(aA (bC (fun x=>decide (r6=x)) (aN (aB sk) 0)))] 0)),(53,(.fn 182 [] [(.rp [(aJ ((aW dl (aB dc)).filter fun n => !(n == num)))] 0)]))],[some (.box 4 [(.p (blP false))]),some (.box 34 [(.p (aA 0))]),some .dead]⟩
theorem aVn{dl:Int}{sk dc:List (List Int)}{num r6:Int}{x:List Int}{y100 y101 n102:Int}{b103:Bool}{T104:List (Int × Bool)}(hl0:aC Tryz.prog 3 uY (gI dl sk dc num r6 x ) .normal (bG (gI dl sk dc num r6 x ) [(12,(.p (aA ((fA dl sk dc r6 x).1)))),(13,(.p (blP ((fA dl sk dc r6 x).2))))]))(h1:(aB sk)[(bC (fun x=>decide (r6=x)) (aN (aB sk) 0)).toNat]? = some [y100,y101])(h2:0≤(bC (fun x=>decide (r6=x)) (aN (aB sk) 0)))(h3:uni 2 (aB sk))(h4:[(aA num)].length=1*1∧x.length+1≤1000000)(h5:aBb dl (aB sk) (aB dc) (.sl (x.length+1) ((x.map aA)++[(aA num)])) [y100,y101] n102 b103 ([]:List (Int × Bool)) T104)(h6:cG [(aA r6),(aA 0),(aA ((fA dl sk dc r6 x).1))] [(0,3,true),(1,3,true),(2,3,true)]=true∧cG [(aA r6),(aA 0),(aA n102)] [(0,3,true),(1,3,true),(2,3,true)]=true)(h7:(fX [(aA r6),(aA 0),(aA ((fA dl sk dc r6 x).1))] [(aA r6),(aA 0),(aA n102)] [(0,3,true),(1,3,true),(2,3,true)])=true)(h8:(((fA dl sk dc r6 x).2) == b103)=true):aC Tryz.prog 3 aMg (rfO (lM dl sk dc num r6 ) 54 11 x) .normal (aMh dl sk dc num r6 ):=by
 exact aC.fin (g:=⟨(rng [(0,3),(7,2),(11,42),(54,48)]),[],[],[]⟩) (o:=[.k 2 ⟨(rng [(0,3),(7,2),(12,2),(16,37),(55,16)]),[],[],[]⟩ .normal (bG (gI dl sk dc num r6 x ) [(12,(.p (aA ((fA dl sk dc r6 x).1)))),(13,(.p (blP ((fA dl sk dc r6 x).2))))]),.x (PV.rp (aK dl (aB sk) (aB dc)) 0),.x (PV.rp (aK dl (aB sk) (aB dc)) 0),.x (.sl ((aB sk).length) ((aB sk).flatten.map aA)),.x (aA (bC (fun x=>decide (r6=x)) (aN (aB sk) 0))),.x (.agg [(aA y100),(aA y101)]),.x (PV.rp (aK dl (aB sk) (aB dc)) 0),.x (aA num),.c (.agg [(.fn 154 [] [(.ptr 9 0),(.ptr 10 0),(.ptr 5 0),(.ptr 7 0)]),(.fn 156 [] [(.ptr 11 0)]),(.fn 157 [] [(.ptr 7 0),(.ptr 6 0)]),(.fn 160 [] [(.ptr 7 0)]),(.fn 158 [] [(.ptr 11 0)])]) [(4,.dead),(5,(vB0 dl (aB sk) (aB dc))),(6,(.box 33 [(.p (.sl (x.length+1) ((x.map aA)++[(aA num)])))])),(7,(.box 139 [(.fn 154 [] [(.ptr 9 0),(.ptr 10 0),(.ptr 5 0),(.ptr 7 0)]),(.fn 156 [] [(.ptr 11 0)]),(.fn 157 [] [(.ptr 7 0),(.ptr 6 0)]),(.fn 160 [] [(.ptr 7 0)]),(.fn 158 [] [(.ptr 11 0)])])),(8,(.mp (aH ([]:List (Int × Bool))) 0)),(9,(.box 207 [(.mp 8)])),(10,(vB5 dl (aB sk) (aB dc))),(11,(.box 209 [(.fn 153 [] [(.ptr 5 0),(.ptr 7 0)])]))],.c (.tup [(.p (aA n102)),(.p (blP b103))]) [(5,(vB0 dl (aB sk) (aB dc))),(6,(.box 33 [(.p (.sl (x.length+1) ((x.map aA)++[(aA num)])))])),(7,(.box 139 [(.fn 154 [] [(.ptr 9 0),(.ptr 10 0),(.ptr 5 0),(.ptr 7 0)]),(.fn 156 [] [(.ptr 11 0)]),(.fn 157 [] [(.ptr 7 0),(.ptr 6 0)]),(.fn 160 [] [(.ptr 7 0)]),(.fn 158 [] [(.ptr 11 0)])])),(8,(.mp (aH T104) T104.length)),(9,(.box 207 [(.mp 8)])),(10,(vB5 dl (aB sk) (aB dc))),(11,(.box 209 [(.fn 153 [] [(.ptr 5 0),(.ptr 7 0)])]))],.x (aA r6),.x (aA r6),bF,bF,bF,bF,bF]) (l:=[_,_,_,_,_,_,[(aA r6)][0]? = some (aA r6),[(aA r6)][0]? = some (aA r6),FC Tryz.prog 134 [(.rp (aK dl (aB sk) (aB dc)) 0),(.p (.agg [(aA y100),(aA y101)])),(.agg [(.fn 154 [] [(.ptr 9 0),(.ptr 10 0),(.ptr 5 0),(.ptr 7 0)]),(.fn 156 [] [(.ptr 11 0)]),(.fn 157 [] [(.ptr 7 0),(.ptr 6 0)]),(.fn 160 [] [(.ptr 7 0)]),(.fn 158 [] [(.ptr 11 0)])])] [(9,(.box 207 [(.mp 8)])),(10,(vB5 dl (aB sk) (aB dc))),(5,(vB0 dl (aB sk) (aB dc))),(7,(.box 139 [(.fn 154 [] [(.ptr 9 0),(.ptr 10 0),(.ptr 5 0),(.ptr 7 0)]),(.fn 156 [] [(.ptr 11 0)]),(.fn 157 [] [(.ptr 7 0),(.ptr 6 0)]),(.fn 160 [] [(.ptr 7 0)]),(.fn 158 [] [(.ptr 11 0)])])),(11,(.box 209 [(.fn 153 [] [(.ptr 5 0),(.ptr 7 0)])])),(6,(.box 33 [(.p (.sl (x.length+1) ((x.map aA)++[(aA num)])))])),(8,(.mp (aH ([]:List (Int × Bool))) 0))] 13 (.tup [(.p (aA n102)),(.p (blP b103))]) [(5,(vB0 dl (aB sk) (aB dc))),(6,(.box 33 [(.p (.sl (x.length+1) ((x.map aA)++[(aA num)])))])),(7,(.box 139 [(.fn 154 [] [(.ptr 9 0),(.ptr 10 0),(.ptr 5 0),(.ptr 7 0)]),(.fn 156 [] [(.ptr 11 0)]),(.fn 157 [] [(.ptr 7 0),(.ptr 6 0)]),(.fn 160 [] [(.ptr 7 0)]),(.fn 158 [] [(.ptr 11 0)])])),(8,(.mp (aH T104) T104.length)),(9,(.box 207 [(.mp 8)])),(10,(vB5 dl (aB sk) (aB dc))),(11,(.box 209 [(.fn 153 [] [(.ptr 5 0),(.ptr 7 0)])]))],FC Tryz.prog 87 [(.rp (aK dl (aB sk) (aB dc)) 0),(.own 4)] [(4,(.row 3 (x.length+1) ((x.map aA)++[(aA num)])))] 5 (.agg [(.fn 154 [] [(.ptr 9 0),(.ptr 10 0),(.ptr 5 0),(.ptr 7 0)]),(.fn 156 [] [(.ptr 11 0)]),(.fn 157 [] [(.ptr 7 0),(.ptr 6 0)]),(.fn 160 [] [(.ptr 7 0)]),(.fn 158 [] [(.ptr 11 0)])]) [(4,.dead),(5,(vB0 dl (aB sk) (aB dc))),(6,(.box 33 [(.p (.sl (x.length+1) ((x.map aA)++[(aA num)])))])),(7,(.box 139 [(.fn 154 [] [(.ptr 9 0),(.ptr 10 0),(.ptr 5 0),(.ptr 7 0)]),(.fn 156 [] [(.ptr 11 0)]),(.fn 157 [] [(.ptr 7 0),(.ptr 6 0)]),(.fn 160 [] [(.ptr 7 0)]),(.fn 158 [] [(.ptr 11 0)])])),(8,(.mp (aH ([]:List (Int × Bool))) 0)),(9,(.box 207 [(.mp 8)])),(10,(vB5 dl (aB sk) (aB dc))),(11,(.box 209 [(.fn 153 [] [(.ptr 5 0),(.ptr 7 0)])]))],_,[(aA num)][0]? = some (aA num),[(PV.rp (aK dl (aB sk) (aB dc)) 0)][0]? = some (PV.rp (aK dl (aB sk) (aB dc)) 0),_,_,0≤(bC (fun x=>decide (r6=x)) (aN (aB sk) 0))∧(bC (fun x=>decide (r6=x)) (aN (aB sk) 0))<(((aB sk).length:Nat):Int)∧((bC (fun x=>decide (r6=x)) (aN (aB sk) 0)).toNat*2)<((aB sk).flatten.map aA).length,[(aA (bC (fun x=>decide (r6=x)) (aN (aB sk) 0)))][0]? = some (aA (bC (fun x=>decide (r6=x)) (aN (aB sk) 0))),(aK dl (aB sk) (aB dc))[1]? = some (.sl ((aB sk).length) ((aB sk).flatten.map aA)),[(PV.rp (aK dl (aB sk) (aB dc)) 0)][0]? = some (PV.rp (aK dl (aB sk) (aB dc)) 0),[(PV.rp (aK dl (aB sk) (aB dc)) 0)][0]? = some (PV.rp (aK dl (aB sk) (aB dc)) 0),aC Tryz.prog 3 uY (gI dl sk dc num r6 x ) .normal (bG (gI dl sk dc num r6 x ) [(12,(.p (aA ((fA dl sk dc r6 x).1)))),(13,(.p (blP ((fA dl sk dc r6 x).2))))])]) (by kernel_rfl) (gc (aI h8) (gc (aI h7) (gc (aI h7) (gc (aI h7) (gc (aI h7) (gc h6 (gc rfl (gc rfl (gc (FMM.fc (ids:=[5,6,7,8,9,10,11]) h5 (by kernel_rfl)) (gc (FC.close1 (args':=[(.rp (aK dl (aB sk) (aB dc)) 0),(.p (.sl (x.length+1) ((x.map aA)++[(aA num)])))]) (FMM.fcN (k:=7) rfl (ids:=[]) (oH (dl:=dl) (sk:=(aB sk)) (dc:=(aB dc)) (on:=(x.length+1)) (ol:=((x.map aA)++[(aA num)]))) (by kernel_rfl)) (by kernel_rfl)) (gc h4 (gc rfl (gc rfl (gc (aQ (i:=(bC (fun x=>decide (r6=x)) (aN (aB sk) 0)).toNat) h3 h1) (gc (bD (i:=(bC (fun x=>decide (r6=x)) (aN (aB sk) 0)).toNat) h3 h1) (gc (bB (k:=2) (i:=(bC (fun x=>decide (r6=x)) (aN (aB sk) 0))) (by decide) h3 h2 h1) (gc rfl (gc rfl (gc rfl (gc rfl (gc hl0 gn)))))))))))))))))))))
end
section
variable {F:Fence} {n:Nat} {P:Program}
theorem aMf{o:Oper}{a:Act}{next next':Act→World→Prop}{Q Q':Exit→Act→World→Prop}{r:Result Next}(h:o.uponIn F n P a next Q r)
  (hn:∀ v d w',next (({ a with defers:=d }:Act).put o.dst v) w'→next' (({ a with defers:=d }:Act).put o.dst v) w') (hQ:∀ e a' w',e ≠ .normal→Q e a' w'→Q' e a' w') (hL:LetsOut Q→LetsOut Q'):o.uponIn F n P a next' Q' r:=by
 have hn':∀ v w',next (a.put o.dst v) w'→next' (a.put o.dst v) w':=fun v w'=>hn v a.defers w'
 cases r with
 | halt x w' =>
  cases x <;> first | exact hQ _ _ _ (by simp) h | exact h
 | ok nx w' =>
  cases nx with
  | value v=>exact hn' _ _ h
  | skip=>exact hn' _ _ h
  | defer d=>exact hn _ _ _ h
  | enter f us =>
   refine ⟨h.1,h.2.mono ?_⟩
   intro e w'' he
   cases e with
   | returned v=>exact hn' _ _ he
   | panicked c=>exact hQ _ _ _ (by simp) he
   | outgrown=>exact hL he
  | row r us=>exact ⟨h.1,h.2.mono fun v w'' he=>hn' _ _ he⟩
  | round l f tmps as1 bd =>
   refine ⟨h.1,h.2.mono ?_⟩
   intro e w'' he
   cases e with
   | returned v=>exact hn' _ _ he
   | panicked c=>exact hQ _ _ _ (by simp) he
   | outgrown=>exact hL he
  | _=>exact h
def Kps(ops:Array Oper)(a0 a:Act):Prop:=∀ i,(∀ o∈ops.toList,o.dst≠some i)→a.tmps.getD i undef=a0.tmps.getD i undef
theorem aVk{ops:Array Oper}{Q Q':Exit→Act→World→Prop}{i:Nat}{K K':Act→World→Prop}{a0 a:Act}{w:World}(h:wpOpIn F n P ops Q i K a w)(ha:Kps ops a0 a)(hK:∀ a' w',Kps ops a0 a'→K a' w'→K' a' w')
  (hQ:∀ e a' w',e ≠ .normal→Q e a' w'→Q' e a' w') (hL:LetsOut Q→LetsOut Q'):wpOpIn F n P ops Q' i K' a w:=by
 unfold wpOpIn at h ⊢
 split
 ·rename_i hi
  simp only [hi] at h
  exact hK _ _ ha h
 ·rename_i o hi
  simp only [hi] at h
  have hm:o∈ops.toList:=by
   obtain ⟨hl,he⟩:=Array.getElem?_eq_some_iff.1 hi
   rw [← he];exact Array.mem_toList_iff.2 (Array.getElem_mem hl)
  have hput:∀ v (d:List Deferred),Kps ops a0 (({ a with defers:=d }:Act).put o.dst v):=fun v d i hd=>by
   rw [nG (a:={ a with defers:=d }) (hd o hm)]
   exact ha i hd
  split at h
  ·rename_i hw
   rw [if_pos hw]
   exact ⟨h.1,aMf h.2 (fun v d w' hn=>hK _ _ (hput v d) hn) hQ hL⟩
  ·rename_i hw
   rw [if_neg hw]
   exact ⟨h.1,hK _ _ (hput undef a.defers) h.2⟩
theorem zV{md:Region.Mode}{ops:Array Oper}{Q:Exit→Act→World→Prop}{a0:Act}:∀ (fuel:Nat) (listed:Array Bool) (a:Act) (w:World),wpAnyIn F n P md ops Q fuel listed a w→Kps ops a0 a →
  wpAnyIn F n P md ops (fun e a' w'=>Q e a' w'∧(e = .normal→Kps ops a0 a')) fuel listed a w
 | 0,listed,a,w,h,ha=>⟨h.1,h.2,fun _=>ha⟩
 | fuel+1,listed,a,w,h,ha=>by
  refine ⟨fun h0=>⟨h.1 h0,fun _=>ha⟩,fun j hj => ?_⟩
  exact aVk (h.2 j hj) ha (fun a' w' hk h'=>zV fuel _ a' w' h' hk) (fun e a' w' hne hq=>⟨hq,fun he=>absurd he hne⟩) (fun ⟨a',w',hq⟩=>⟨a',w',hq,fun he=>by cases he⟩)
end
section
section
variable {F:Fence} {n:Nat} {P:Program}
def bkD(ds:List Deferred)(a:Act):Act:={ a with defers:=a.defers++ds }
theorem aEu(ds:List Deferred)(a:Act)(d:Option Nat)(v:Value):(bkD ds a).put d v=bkD ds (a.put d v):=by cases d <;> rfl
theorem zU(ds:List Deferred)(a:Act):(bkD ds a).eval=a.eval:=by funext x;cases x <;> rfl
theorem aVi(ds:List Deferred){o:Oper}{a:Act}{next next':Act→World→Prop}{Q Q':Exit→Act→World→Prop}{r:Result Next}(h:o.uponIn F n P a next Q r)
  (hn:∀ a' w',next a' w'→next' (bkD ds a') w') (hQ:∀ e a' w',Q e a' w'→Q' e (bkD ds a') w') (hL:LetsOut Q→LetsOut Q'):o.uponIn F n P (bkD ds a) next' Q' r:=by
 have hv:∀ v w',next (a.put o.dst v) w'→next' ((bkD ds a).put o.dst v) w':=fun v w' h=>by rw [aEu];exact hn _ _ h
 cases r with
 | halt x w' =>
  cases x <;> first | exact hQ _ _ _ h | exact h
 | ok nx w' =>
  cases nx with
  | value v=>exact hv _ _ h
  | skip=>exact hv _ _ h
  | defer d =>
   have:=hn _ _ h
   rw [← aEu] at this
   exact this
  | enter f us =>
   refine ⟨h.1,h.2.mono ?_⟩
   intro e w'' he
   cases e with
   | returned v=>exact hv _ _ he
   | panicked c=>exact hQ _ _ _ he
   | outgrown=>exact hL he
  | row r us=>exact ⟨h.1,h.2.mono fun v w'' he=>hv _ _ he⟩
  | round l f tmps as1 bd =>
   refine ⟨h.1,h.2.mono ?_⟩
   intro e w'' he
   cases e with
   | returned v=>exact hv _ _ he
   | panicked c=>exact hQ _ _ _ he
   | outgrown=>exact hL he
  | _=>exact h
theorem bHn(ds:List Deferred){ops:Array Oper}{Q Q':Exit→Act→World→Prop}{i:Nat}{K K':Act→World→Prop}{a:Act}{w:World}(h:wpOpIn F n P ops Q i K a w)(hK:∀ a' w',K a' w'→K' (bkD ds a') w')
  (hQ:∀ e a' w',Q e a' w'→Q' e (bkD ds a') w') (hL:LetsOut Q→LetsOut Q'):wpOpIn F n P ops Q' i K' (bkD ds a) w:=by
 unfold wpOpIn at h ⊢
 split
 ·rename_i hi
  simp only [hi] at h
  exact hK _ _ h
 ·rename_i o hi
  simp only [hi] at h
  have e1:(bkD ds a).tmps=a.tmps:=rfl
  rw [e1]
  split at h
  ·rename_i hw
   rw [if_pos hw]
   refine ⟨by rw [zU];exact h.1,?_⟩
   rw [zU]
   exact aVi ds h.2 hK hQ hL
  ·rename_i hw
   rw [if_neg hw]
   exact ⟨by rw [zU];exact h.1,by rw [aEu];exact hK _ _ h.2⟩
theorem aIj(ds:List Deferred){md:Region.Mode}{ops:Array Oper}{Q Q':Exit→Act→World→Prop}(hQ:∀ e a' w',Q e a' w'→Q' e (bkD ds a') w')(hL:LetsOut Q→LetsOut Q'):∀ (fuel:Nat) (listed:Array Bool) (a:Act) (w:World),wpAnyIn F n P md ops Q fuel listed a w→wpAnyIn F n P md ops Q' fuel listed (bkD ds a) w
 | 0,listed,a,w,h=>⟨h.1,hQ _ _ _ h.2⟩
 | fuel+1,listed,a,w,h=>⟨fun h0=>hQ _ _ _ (h.1 h0),fun j hj=>bHn ds (h.2 j hj) (fun a' w' h'=>aIj ds hQ hL fuel _ a' w' h') hQ hL⟩
end
variable {P:Program} {T:TT} {E:Env}
theorem aVj(ds:List Deferred)(hT:∀ t i,T t=some i→cM P t=some i)(hE:kL P E)(hm:P.follows .mixedOrders=true){id:Nat}{ops:Array Oper}{st st':St}{s s':AS}(h:aGf P T E ops true st s=some (st',s'))(g:bL s')
  (C0:Cx) (M0:Mem) (w0:World) (a:Act) (w:World) (hs:Sim P C0 M0 w0 st a w) (ro:Option Nat) (n:Nat):(Code.region id ops true).wpIn (Fen ro) n P (fun e' a' w'=>e'=Ex.normal.toExit∧∃ a2,a'=bkD ds a2∧Sim P C0 M0 w0 st' a2 w'∧Kps ops a a2) (bkD ds a) w:=by
 obtain ⟨_,s1,h1,k1⟩:=aD h
 obtain ⟨e1,rfl⟩:=aG h1
 obtain ⟨r,s2,h2,k2⟩:=aD k1
 obtain ⟨_,s3,h3,k3⟩:=aD k2
 obtain ⟨e3,rfl⟩:=aG h3
 obtain ⟨rfl,rfl⟩:=aM k3
 obtain ⟨hB,_⟩:=bV e1
 obtain ⟨hA,_⟩:=bV e3
 obtain ⟨os,hfts,hlex⟩:=oW ops.toList _ (fts:=r.1) (fin:=r.2) h2 g
 unfold Region.lexB at hB
 rw [Bool.and_eq_true] at hB
 have hlen:os.length=ops.toList.length:=by
  have:∀ {l:List Oper} {id:Nat} {st:St} {os:List sO} {fin:St},aGh P T E ops.toList id l st os fin→os.length=l.length:=by
   intro l
   induction l with
   | nil=>intro id st os fin h;cases h;rfl
   | cons o l ih=>intro id st os fin h;cases h with | cons _ _ _ _ q os _ h hr=>simp [ih hr]
  exact this hlex
 have key:mX P T E ops.toList st.m.length (fun k=>os.getD k (.any,[],none)) r.2 ops.toList.length (Array.replicate ops.size false) st:=by
  refine mX.lex ops.toList 0 _ st os (fun j=>by simp) (fun j q hj=>by simp [List.getD_eq_getElem?_getD,hj]) (fun j hj=>absurd hj (Nat.not_lt_zero _)) (fun j oj hj hl => ?_) (fun i j _ hij hj => ?_) (by simpa using hB.2) (by simpa [ido] using hlex)
  ·exfalso
   rcases Nat.lt_or_ge j ops.size with h' | h'
   ·simp [h'] at hl
   ·simp [Nat.not_lt.2 h'] at hl
  have hj2:j<os.length:=by
   rw [hlen]
   obtain ⟨o,ho⟩:=Option.isSome_iff_exists.1 hj
   exact (List.getElem?_eq_some_iff.1 ho).1
  have:=lU r.1 0 hA i j (xX os[i]) (xX os[j]) hij (by rw [hfts,List.getElem?_map,List.getElem?_eq_getElem (by omega)];rfl) (by rw [hfts,List.getElem?_map,List.getElem?_eq_getElem hj2];rfl)
  rw [Nat.zero_add,Nat.zero_add] at this
  simp only [List.getD_eq_getElem?_getD,List.getElem?_eq_getElem hj2,List.getElem?_eq_getElem (show i<os.length by omega),Option.getD_some,Array.toArray_toList]
  exact this
 refine wpIn_region_any hm ?_
 have:=mX.sound hT hE (C0:=C0) (M0:=M0) (w0:=w0) (ro:=ro) (n:=n) (Q:=fun e' a' w'=>e'=Ex.normal.toExit∧Sim P C0 M0 w0 r.2 a' w') (fun a' w' h'=>⟨rfl,h'⟩) _ _ _ a _ key (hs.drawn (w.drawn+1))
 have h2:=zV (a0:=a) _ _ _ _ (by simpa using this) (fun _ _=>rfl)
 exact aIj ds (fun e a' w' h=>⟨h.1.1,a',rfl,h.1.2,h.2 h.1.1⟩) (fun ⟨a',w',h⟩=>by cases h.1.1) _ _ _ _ h2

end
section
def zT(P:Program)(k:Nat)(c:Code)(st:St)(e:Ex)(st':St):Prop:=∀ (C0:Cx) (M0:Mem) (w0:World) (a:Act) (w:World),M0.length≤k→Sim P C0 M0 w0 st a w→∀ (ds:List Deferred) (ro:Option Nat) (n:Nat),c.wpIn (Fen ro) n P (fun e' a' w'=>e'=e.toExit∧∃ a2,a'=bkD ds a2∧Sim P C0 M0 w0 st' a2 w'∧(∀ i,wrR c i=false→a2.tmps.getD i undef=a.tmps.getD i undef)) (bkD ds a) w
noncomputable def bKj(c:Code)(st:St):Ask (Ex × St):=match c with
 | .region _ ops true=>do
  let st' ← aGf Tryz.prog tT EO ops true st
  pure (.normal,st')
 | _=>fail
theorem zT.fin{k:Nat}{c:Code}{st st':St}{e:Ex}{g:Gh}{o:List OI}{l:List Prop}(h:aHt k g (bKj c st (asg o))=some (e,st',l,[]))(gd:bL (out l)):zT Tryz.prog k c st e st':=by
 unfold aHt at h
 split at h
 ·rename_i e1 st1 s hr
  split at h
  ·rename_i st2 hg
   simp only [Option.some.injEq,Prod.mk.injEq] at h
   obtain ⟨rfl,rfl,rfl,hs⟩:=h
   unfold bKj at hr
   split at hr
   ·rename_i id ops
    obtain ⟨st3,s1,h1,k1⟩:=aD hr
    obtain ⟨he,rfl⟩:=aM k1
    cases he
    intro C0 M0 w0 a w hk hsm ds ro n
    refine wpIn_mono (aVj ds aCg aCf mixed h1 (fun p hp=>gd p hp) C0 M0 w0 a w hsm ro n) ?_
    rintro e' a' w' ⟨rfl,a2,rfl,h',hkp⟩
    exact ⟨rfl,a2,rfl,eO hk hg h',fun i hi=>hkp i fun o ho e=>by
     unfold wrR at hi
     have:=List.any_eq_false.1 hi o ho
     rw [e] at this
     exact this (Nat.beq_refl i)⟩
   ·cases hr
  ·cases h
 ·cases h
end
section

theorem bPc{dl:Int}{sk dc:List (List Int)}{num r6:Int}{x:List Int}{y0 y1 n2:Int}{b3:Bool}{T4:List (Int × Bool)}(h0:(aB sk)[(bC (fun x=>decide (r6=x)) (aN (aB sk) 0)).toNat]? = some [y0,y1])(h1:0≤(bC (fun x=>decide (r6=x)) (aN (aB sk) 0)))(h2:uni 2 (aB sk))(h3:aBb dl (aB sk) (aB dc) (aJ x) [y0,y1] n2 b3 ([]:List (Int × Bool)) T4):zT Tryz.prog 0 (sub (cd Tryz.f58) [1,1,1,1,1,1,1,1,1,0,1,0,1,0,0]) ⟨fr 102 [(3,(.rp [(aA num)] 0)),(6,(.rp [(PV.rp (aK dl (aB sk) (aB dc)) 0)] 0)),(9,(.rp [(aA r6)] 0)),(10,(.rp [(aA (bC (fun x=>decide (r6=x)) (aN (aB sk) 0)))] 0)),(11,(.p (aJ x)))],[]⟩ .normal ⟨fr 102 [(3,(.rp [(aA num)] 0)),(6,(.rp [(PV.rp (aK dl (aB sk) (aB dc)) 0)] 0)),(9,(.rp [(aA r6)] 0)),(10,(.rp [(aA (bC (fun x=>decide (r6=x)) (aN (aB sk) 0)))] 0)),(11,(.p (aJ x))),(12,(.p (aA n2))),(13,(.p (blP b3)))],[]⟩:=by
 exact zT.fin (g:=⟨(rng [(0,3),(4,2),(7,2),(14,88)]),[],[],[]⟩) (o:=[.x (PV.rp (aK dl (aB sk) (aB dc)) 0),.x (PV.rp (aK dl (aB sk) (aB dc)) 0),.x (.sl ((aB sk).length) ((aB sk).flatten.map aA)),.x (aA (bC (fun x=>decide (r6=x)) (aN (aB sk) 0))),.x (.agg [(aA y0),(aA y1)]),.x (PV.rp (aK dl (aB sk) (aB dc)) 0),.c gS (vU dl (aB sk) (aB dc) (aJ x) ([]:List (Int × Bool))),.c (.tup [(.p (aA n2)),(.p (blP b3))]) (vU dl (aB sk) (aB dc) (aJ x) T4)]) (l:=[FC Tryz.prog 134 [(.rp (aK dl (aB sk) (aB dc)) 0),(.p (.agg [(aA y0),(aA y1)])),gS] [(4,(.box 207 [(.mp 3)])),(5,(vB5 dl (aB sk) (aB dc))),(0,(vB0 dl (aB sk) (aB dc))),(2,vB2),(6,vB6),(1,(.box 33 [(.p (aJ x))])),(3,(.mp (aH ([]:List (Int × Bool))) 0))] 8 (.tup [(.p (aA n2)),(.p (blP b3))]) (vU dl (aB sk) (aB dc) (aJ x) T4),FC Tryz.prog 87 [(.rp (aK dl (aB sk) (aB dc)) 0),(.p (aJ x))] [] 0 gS (vU dl (aB sk) (aB dc) (aJ x) ([]:List (Int × Bool))),[(PV.rp (aK dl (aB sk) (aB dc)) 0)][0]? = some (PV.rp (aK dl (aB sk) (aB dc)) 0),_,_,0≤(bC (fun x=>decide (r6=x)) (aN (aB sk) 0))∧(bC (fun x=>decide (r6=x)) (aN (aB sk) 0))<(((aB sk).length:Nat):Int)∧((bC (fun x=>decide (r6=x)) (aN (aB sk) 0)).toNat*2)<((aB sk).flatten.map aA).length,[(aA (bC (fun x=>decide (r6=x)) (aN (aB sk) 0)))][0]? = some (aA (bC (fun x=>decide (r6=x)) (aN (aB sk) 0))),(aK dl (aB sk) (aB dc))[1]? = some (.sl ((aB sk).length) ((aB sk).flatten.map aA)),[(PV.rp (aK dl (aB sk) (aB dc)) 0)][0]? = some (PV.rp (aK dl (aB sk) (aB dc)) 0),[(PV.rp (aK dl (aB sk) (aB dc)) 0)][0]? = some (PV.rp (aK dl (aB sk) (aB dc)) 0)]) (by kernel_rfl) (gc (FMM.fc (ids:=[0,1,2,3,4,5,6]) h3 (by kernel_rfl)) (gc (FMM.fcN (k:=7) rfl (ids:=[]) (oH (dl:=dl) (sk:=(aB sk)) (dc:=(aB dc)) (on:=x.length) (ol:=(x.map aA))) (by kernel_rfl)) (gc rfl (gc (aQ (i:=(bC (fun x=>decide (r6=x)) (aN (aB sk) 0)).toNat) h2 h0) (gc (bD (i:=(bC (fun x=>decide (r6=x)) (aN (aB sk) 0)).toNat) h2 h0) (gc (bB (k:=2) (i:=(bC (fun x=>decide (r6=x)) (aN (aB sk) 0))) (by decide) h2 h1 h0) (gc rfl (gc rfl (gc rfl (gc rfl gn))))))))))
end
end KV
end Go.Proofs
section
namespace Go.Proofs
open Go.RowKit
namespace KV
theorem bCc{P:Program}{C:Cx}{st:St}{a:Act}{w:World}(hS:eH C st.m w st.t a.tmps)(hM:aV P C st.m w)(hp:fN st.m=true)(hn:aKe st.m) :
  Sim P (cxF fun _=>False) [] { w with heap := #[] } st { a with defers:=[] } w :=
 ⟨C,hS,hM,⟨rfl,rfl,rfl,Nat.zero_le _,fun b hb=>absurd hb (Nat.not_lt_zero _),fun _ _ h=>by simp at h,fun _ _ h=>by simp at h,fun _ _ h=>by simp at h,fun _ _ b _ _ _ => .inl (Nat.zero_le _),fun _ h=>h.elim,fun b _ => .inr (.inl (Nat.zero_le _))⟩,.nil rfl hn⟩
theorem aVh{P:Program}{C:Cx}{M:Mem}{W W':World}(hM:aV P C M W)(hg:W.grownBy W' none):aV P C M W'∧Fr C M W C M W':=by
 have hsame:∀ b,b<W.heap.size→W'.heap[b]? = W.heap[b]? := fun b hb=>hg.block b hb (fun e=>by cases e)
 have hL:Le C C M M W W':=⟨fun _ o h=>⟨o,h⟩,fun _ _ _ _ _ cs h=>⟨cs,h⟩,fun _ o h o' h' hl=>by rw [h] at h';cases h';exact ⟨hl,rfl,rfl⟩,fun _ h=>h,fun b hb=>hsame b (hM.Fs b hb)⟩
 refine ⟨⟨fun i ty n cs hm => ?_,fun i ty cs hm => ?_,fun i es cl hm => ?_,hM.inj,hM.nF,fun b hb=>Nat.lt_of_lt_of_le (hM.Fs b hb) hg.size,fun i o b ho hl hb=>Nat.lt_of_lt_of_le (hM.lt i o b ho hl hb) hg.size⟩,
  ⟨hg.os,hg.tape,hg.output,hg.size,fun b hb _=>hsame b hb,fun i o h=>⟨⟨o,h⟩,rfl,rfl⟩,fun _ _ _ _ _ cs h=>⟨cs,h⟩,fun _ o h o' h' hl=>by rw [h] at h';cases h';exact hl,fun i o b ho hl hb => .inr ⟨i,o,ho,hl,hb⟩,fun _ h=>h,fun _ h => .inl h⟩⟩
 ·rcases hM.row _ _ _ _ hm with h4 | ⟨b,arr,inf,q0,q1,q2,q3,q4,q5,q6,q7,q8⟩
  ·exact .inl h4
  ·exact .inr ⟨b,arr,inf,q0,(hsame b (Array.getElem?_eq_some_iff.1 q1).1).trans q1,q2,q3,q4,q5,q6,fun j hj=>(q7 j hj).mono hL.F hL.fz,q8⟩
 ·obtain ⟨b,arr,q0,q1,q2,q3,q4⟩:=hM.box _ _ _ hm
  exact ⟨b,arr,q0,(hsame b (Array.getElem?_eq_some_iff.1 q1).1).trans q1,q2,fun j hj=>(q3 j hj).mono hL,q4⟩
 ·obtain ⟨b,arr,q0,q1,q2,q3⟩:=hM.mp _ _ _ hm
  refine ⟨b,arr,q0,(hsame b (Array.getElem?_eq_some_iff.1 q1).1).trans q1,q2,fun j hj => ?_⟩
  obtain ⟨en,r1,r2,r3,r4⟩:=q3 j hj
  exact ⟨en,r1,r2,r3,r4.mono hL.F hL.fz⟩
def bCd(t:List AV)(i:Nat):Bool:=match t[i]? with
 | some .any=>true
 | _=>false
theorem aPp{C:Cx}{M:Mem}{w:World}{v u:Value}(h:Rep C M w (.p (.v v)) u):u=v:=by
 cases h with
 | p _ _ h=>cases h;rfl
theorem bPb{P:Program}{k:Nat}{c:Code}{tA tB:List AV}{S:St}{g:Gh}{i1 i2:Nat}{v1 v2:Value}(hk:zT P 0 c ⟨tA,[]⟩ .normal ⟨tB,[]⟩)(hg:gh 0 g S=some ⟨tA,[]⟩)(hn:fN S.m=true)
  (h1:tB[i1]? = some (.p (.v v1))) (h2:tB[i2]? = some (.p (.v v2))) (hne:i1≠i2) (hl:tB.length=S.t.length) (hall:((List.range S.t.length).all fun i => !wrR c i || Nat.beq i i1 || Nat.beq i i2 || bCd S.t i)=true) :
  aC P k c S .normal (bG S [(i1,.p (.v v1)),(i2,.p (.v v2))]):=by
 intro C0 M0 w0 a w hk0 hs ro _ n
 obtain ⟨C,hS,hM,hF,hD⟩:=hs
 obtain ⟨C1,hS1,hM1,_,_⟩:=eO (Nat.le_refl 0) hg (bCc hS hM hn (eE hn).2)
 have hs1:Sim P (C1.with []) [] w ⟨tA,[]⟩ { a with defers:=[] } w:=⟨C1,hS1,hM1,(Fr.refl _ _ _).based [],.nil rfl (eE (m:=[]) rfl).2⟩
 have:=hk (C1.with []) [] w _ w (Nat.le_refl 0) hs1 a.defers ro n
 refine wpIn_mono this ?_
 rintro e' a' w' ⟨rfl,a2,rfl,⟨C2,hS2,hM2,hF2,⟨l2,d1,d2,d3⟩,_⟩,hkp⟩
 have hg2:w.grownBy w' none:=aIr hF2
 obtain ⟨hM3,hF3⟩:=aVh hM hg2
 have hS3:=hS.le (hM.le hF3)
 refine ⟨rfl,C,⟨?_,fun i hi => ?_⟩,hM3,hF.trans hF3,?_⟩
 ·have e0:=hS2.size
  show a2.tmps.size=((S.t.set i1 _).set i2 _).length
  rw [List.length_set,List.length_set]
  exact e0.trans hl
 ·have hi':i<S.t.length:=by
   have:i<((S.t.set i1 (.p (.v v1))).set i2 (.p (.v v2))).length:=hi
   rwa [List.length_set,List.length_set] at this
  have key:∀ x,((S.t.set i1 (.p (.v v1))).set i2 (.p (.v v2)))[i]? = some x→Rep C S.m w' x (a2.tmps.getD i undef):=by
   intro x hx
   by_cases e2:i2=i
   ·subst e2
    rw [List.getElem?_set_self (by rw [List.length_set];exact hi')] at hx
    cases hx
    rw [aPp (hS2.at h2)]
    exact .p _ _ (.v _)
   rw [List.getElem?_set_ne e2] at hx
   by_cases e1:i1=i
   ·subst e1
    rw [List.getElem?_set_self hi'] at hx
    cases hx
    rw [aPp (hS2.at h1)]
    exact .p _ _ (.v _)
   rw [List.getElem?_set_ne e1] at hx
   have hc:=List.all_eq_true.1 hall i (List.mem_range.2 hi')
   cases hw:wrR c i with
   | false =>
    rw [hkp i hw]
    exact hS3.at hx
   | true =>
    have n1:Nat.beq i i1=false:=by
     cases h:Nat.beq i i1 with
     | false=>rfl
     | true=>exact absurd (Nat.eq_of_beq_eq_true h).symm e1
    have n2:Nat.beq i i2=false:=by
     cases h:Nat.beq i i2 with
     | false=>rfl
     | true=>exact absurd (Nat.eq_of_beq_eq_true h).symm e2
    rw [hw,n1,n2] at hc
    have hc:bCd S.t i=true:=hc
    unfold bCd at hc
    rw [hx] at hc
    cases x <;> first | exact .any _ | cases hc
  exact key _ (List.getElem?_eq_getElem hi)
 ·obtain ⟨⟨l,e1,e2,e3⟩,hR⟩:=hD.fr hM .refl hF3
  obtain ⟨⟨l',e1',_,e3'⟩,_⟩:=hD
  have hll:l=l':=by
   have:=e1.symm.trans e1'
   exact (List.map_inj_right (fun x y h=>by simpa [mark] using h)).1 this
  refine ⟨⟨l2++l,?_,?_,?_⟩,hR⟩
  ·show a2.defers++a.defers=_
   rw [d1,e1,List.map_append]
  ·refine List.nodup_append.2 ⟨d2,e2,fun x hx y hy hxy => ?_⟩
   have:=(d3 x hx).2.1
   have:=(Array.getElem?_eq_some_iff.1 (e3' y (hll ▸ hy)).1).1
   subst hxy
   omega
  ·intro D hD2
   rcases List.mem_append.1 hD2 with h | h
   ·exact ⟨(d3 D h).1,Nat.le_trans hF.size (d3 D h).2.1,fun hf=>by
     have:=hM.Fs D hf
     have:=(d3 D h).2.1
     omega⟩
   ·exact e3 D h
end KV
end Go.Proofs
end
namespace Go.Proofs
namespace KV
section
theorem bHj(l:List Int)(v:Int)(hl:l.length≤1000000){base:Nat}:FV Tryz.prog 126 [.p (aJ l),.p (aA v)] base (.p (aA (bC (fun x=>decide (v=x)) l))) []:=by
 rcases aF.find (P:=Tryz.prog) (k:=0) (b:=(sub (cd Tryz.f126) [1,0,1,0,0])) (fun i=>fY l v i) (fun i _=>bG (fY l v i) [(4,.p (aA (i:Int)))]) (fY l v l.length) .ret (.exit 0) (by simp) (by simp) (fun x=>decide (v=x)) l
  (fun i x hx hp=>aCx (by have:=aS hx;omega) hx (by simpa using hp) (aR (by have:=aS hx;omega)) rfl)
  (fun i x hx hp=>aCw (by have:=aS hx;omega) hx (by simpa using hp))
  (aCy (l:=l) (i:=l.length) (by omega)) with ⟨i,x,h1,h2,h3,h4⟩ | ⟨h1,h2,h3⟩
 ·rw [eM h2];exact bBn h4
 ·rw [gP h1];exact bBm h3
theorem bHk(l:List Int)(v:Int)(hl:l.length≤1000000){base:Nat}:FV Tryz.prog 52 [.p (aJ l),.p (aA v)] base (.p (blP (l.contains v))) []:=by
 rw [← tL]
 exact FV.fin Tryz.func52 rfl (o:=[.c (.p (aA (bC (fun x=>decide (v=x)) l))) []]) (l:=[_]) (by kernel_rfl) (gc (fk 0 (bHj l v hl) rfl) gn)
theorem bHl{l:List Int}(hl:l.length≤1000000)(n:Int):qS (aJ l) n (l.contains n):=fun base=>bHk l n hl
def aBa(dl:Int)(sk dc:List (List Int))(num r6:Int)(x:List Int):Bool := !(((fA dl sk dc r6 x).1 == (fA dl sk dc r6 (x++[num])).1) && ((fA dl sk dc r6 x).2 == (fA dl sk dc r6 (x++[num])).2))
theorem bTp(r t t':Int):fX [aA r,aA 0,aA t] [aA r,aA 0,aA t'] [(0,3,true),(1,3,true),(2,3,true)]=(t == t'):=by
 rw [Bool.eq_iff_iff]
 simp [fX,oR]
theorem aPo{dl:Int}{sk dc:List (List Int)}{r6 y0 y1:Int}(h:(aB sk)[(bC (fun x=>decide (r6=x)) (aN (aB sk) 0)).toNat]? = some [y0,y1])(x:List Int):fA dl sk dc r6 x=kF dl x (aB dc) y0 y1:=by
 have e:(aB sk).getD (bC (fun x=>decide (r6=x)) (aN (aB sk) 0)).toNat []=[y0,y1]:=by
  rw [List.getD_eq_getElem?_getD,h];rfl
 unfold fA
 rw [e]
 rfl
theorem bCa{dl:Int}{sk dc:List (List Int)}{num r6:Int}{x:List Int}(hd:cH (aB dc))(hu:uni 2 (aB sk))(hs:∀ s∈aB sk,-1≤s.getD 1 0∧s.getD 1 0≤360000)(hx:x.length≤1000){y0 y1:Int}(h0:(aB sk)[(bC (fun x=>decide (r6=x)) (aN (aB sk) 0)).toNat]? = some [y0,y1])(h1:0≤(bC (fun x=>decide (r6=x)) (aN (aB sk) 0))) :
  aC Tryz.prog 3 (sub (cd Tryz.f58) [1,1,1,1,1,1,1,1,1,0,1,0,1,0,0]) (gI dl sk dc num r6 x) .normal (bG (gI dl sk dc num r6 x) [(12,(.p (aA ((fA dl sk dc r6 x).1)))),(13,(.p (blP ((fA dl sk dc r6 x).2))))]):=by
 obtain ⟨T',_,hT⟩:=bDh (sk:=aB sk) hd (fun n=>aAb hx n) y0 y1 (hs _ (List.mem_of_getElem? h0)) (T:=[]) cL.nil
 rw [aPo h0]
 exact bPb (bPc (num:=num) h0 h1 hu hT) (g:=⟨(rng [(0,3),(4,2),(7,2),(12,90)]),[],[2],[]⟩) (by kernel_rfl) rfl (by rfl) (by rfl) (by decide) (by rfl) (by kernel_rfl)
theorem aVf{dl:Int}{sk dc:List (List Int)}{num r6:Int}{x:List Int}(hd:cH (aB dc))(hu:uni 2 (aB sk))(hs:∀ s∈aB sk,-1≤s.getD 1 0∧s.getD 1 0≤360000)(hx:x.length≤1000){y0 y1:Int}(h0:(aB sk)[(bC (fun x=>decide (r6=x)) (aN (aB sk) 0)).toNat]? = some [y0,y1])(h1:0≤(bC (fun x=>decide (r6=x)) (aN (aB sk) 0))) :
  (aBa dl sk dc num r6 x=false→aC Tryz.prog 3 (sub (cd Tryz.f58) [1,1,1,1,1,1,1,1,1,0,1,0,1]) (rfO (lM dl sk dc num r6) 54 11 x) .normal (aMh dl sk dc num r6)) ∧
  (aBa dl sk dc num r6 x=true→aC Tryz.prog 3 (sub (cd Tryz.f58) [1,1,1,1,1,1,1,1,1,0,1,0,1]) (rfO (lM dl sk dc num r6) 54 11 x) .ret (aEw dl sk dc num r6)):=by
 have hn:=bCa (dl:=dl) (num:=num) hd hu hs hx h0 h1
 obtain ⟨T',_,hT⟩:=bDh (dl:=dl) (sk:=aB sk) hd (fun n=>bHl (l:=x++[num]) (by rw [List.length_append];show x.length+1≤_;omega) n) y0 y1 (hs _ (List.mem_of_getElem? h0)) (T:=[]) cL.nil
 rw [← aPo h0] at hT
 have hov:aJ (x++[num]) = .sl (x.length+1) (x.map aA++[aA num]):=by
  show PV.sl (x++[num]).length ((x++[num]).map aA)=_
  rw [List.length_append,List.map_append];rfl
 rw [hov] at hT
 have hq:=bTp r6 (fA dl sk dc r6 x).1 (fA dl sk dc r6 (x++[num])).1
 unfold aBa
 cases ha:((fA dl sk dc r6 x).1 == (fA dl sk dc r6 (x++[num])).1) with
 | false =>
  refine ⟨fun h=>(by cases h),fun _ => ?_⟩
  rw [ha] at hq
  exact aVl hn h0 h1 hu ⟨rfl,by omega⟩ hT ⟨rfl,rfl⟩ hq
 | true =>
  rw [ha] at hq
  cases hb:((fA dl sk dc r6 x).2 == (fA dl sk dc r6 (x++[num])).2) with
  | false =>
   refine ⟨fun h=>(by cases h),fun _ => ?_⟩
   exact aVm hn h0 h1 hu ⟨rfl,by omega⟩ hT ⟨rfl,rfl⟩ hq hb
  | true =>
   refine ⟨fun _ => ?_,fun h=>(by cases h)⟩
   exact aVn hn h0 h1 hu ⟨rfl,by omega⟩ hT ⟨rfl,rfl⟩ hq hb
theorem aVg{dl:Int}{sk dc:List (List Int)}{num r6:Int}(hd:cH (aB dc))(hu:uni 2 (aB sk))(hs:∀ s∈aB sk,-1≤s.getD 1 0∧s.getD 1 0≤360000){y0 y1:Int}(h0:(aB sk)[(bC (fun x=>decide (r6=x)) (aN (aB sk) 0)).toNat]? = some [y0,y1])(h1:0≤(bC (fun x=>decide (r6=x)) (aN (aB sk) 0)))(ho:((aW dl (aB dc)).filter fun n => !(n == num)).length≤60) :
  ((iZ ((aW dl (aB dc)).filter fun n => !(n == num))).any (aBa dl sk dc num r6)=false→aC Tryz.prog 0 (sub (cd Tryz.f58) [1,1,1,1,1,1,1,1,1,0,1,0]) (sC dl sk dc num r6) .normal (lM dl sk dc num r6)) ∧
  ((iZ ((aW dl (aB dc)).filter fun n => !(n == num))).any (aBa dl sk dc num r6)=true→aC Tryz.prog 0 (sub (cd Tryz.f58) [1,1,1,1,1,1,1,1,1,0,1,0]) (sC dl sk dc num r6) .ret (zX dl sk dc num r6)):=by
 have main:=aDd (P:=Tryz.prog) (k:=0) (kb:=3) (kk:=2) (g0:=⟨[],[],[],[]⟩) (g1:=⟨[],[],[],[]⟩) (gR:=⟨[],[],[],[]⟩) (sC dl sk dc num r6) (fun _=>lM dl sk dc num r6) (fun _ _=>aMh dl sk dc num r6) (fun _ _=>aEw dl sk dc num r6) (lM dl sk dc num r6).t (zX dl sk dc num r6).m (fun _=>aBa dl sk dc num r6)
  (cc := sub (cd Tryz.f58) [1, 1, 1, 1, 1, 1, 1, 1, 1, 0, 1, 0]) (gi := 53) (p1 := 54) (d := 11) (id := 14) (ty := 33) (pos := "outcome.go:200") (body := sub (cd Tryz.f58) [1, 1, 1, 1, 1, 1, 1, 1, 1, 0, 1, 0, 1]) (by kernel_rfl)
  rfl (fun _=>rfl) (g := .fn 182 [] [.rp [aJ ((aW dl (aB dc)).filter fun n => !(n == num))] 0]) (by rfl) (aDb _ ho) (fun args w=>rfl) (fun _=>rfl) (fun _=>rfl) (fun _ _=>rfl) (fun _ _=>rfl) rfl rfl (fun _=>by show 2<3;omega) (by kernel_rfl) (fun x=>rfl) (by show 2≤2;omega) rfl (by kernel_rfl) (fun pre l=>by kernel_rfl) (fun _ _ _=>by kernel_rfl) (fun pre l _ hx=>aVf hd hu hs hx h0 h1)
 refine ⟨fun h=>main.1 fun pre l hp => ?_,fun h=>main.2 ?_⟩
 ·have:=List.any_eq_false.1 h l (hp.subset (by simp))
  simpa using this
 ·obtain ⟨l,hl,hb⟩:=List.any_eq_true.1 h
  obtain ⟨s,t,e⟩:=List.append_of_mem hl
  exact ⟨s,l,⟨t,by rw [e];simp⟩,hb⟩
def bCb(dl:Int)(sk dc:List (List Int))(num:Int):Bool × Int :=
 if (aW dl (aB dc)).contains num=false then (false,1) else if 8<(aW dl (aB dc)).length then (false,10) else
 if bC (fun x=>decide (aIp (aB dc) num=x)) (aN (aB sk) 0)<0 then (false,0) else ((iZ ((aW dl (aB dc)).filter fun n => !(n == num))).any (aBa dl sk dc num (aIp (aB dc) num)),0)
theorem bHm{α:Type}{p:α→Bool}{l:List α}(h:0≤bC p l):(bC p l).toNat<l.length:=by
 unfold bC at h ⊢
 cases e:l.findIdx? p with
 | none=>rw [e] at h;simp at h
 | some i =>
  obtain ⟨hi,_⟩:=List.findIdx?_eq_some_iff_getElem.1 e
  simpa using hi
theorem bPa{dl:Int}{sk dc:List (List Int)}(h:dG dl sk dc)(num:Int){base:Nat}:FV Tryz.prog 58 [.p (.agg (bH dl sk dc)),.p (aA num)] base (.tup [.p (blP (bCb dl sk dc num).1),.p (aA (bCb dl sk dc num).2)]) []:=by
 have hd:=lO h
 obtain ⟨hu,hl,hs,_⟩:=tP h
 have hol:(aW dl (aB dc)).length≤1000:=by
  unfold aW
  rw [List.length_map]
  exact Nat.le_trans (List.length_filter_le _ _) hd.len
 unfold bCb
 cases hc:(aW dl (aB dc)).contains num with
 | false=>exact bPd h hd hol hc
 | true =>
  rw [if_neg (by simp)]
  by_cases h8:8<(aW dl (aB dc)).length
  ·rw [if_pos h8];exact bPe h hd hol hc (by omega)
  ·rw [if_neg h8]
   have hm:num∈aW dl (aB dc):=by simpa using hc
   have hm2:=hm
   unfold aW at hm2
   obtain ⟨x,hx,rfl⟩:=List.mem_map.1 hm2
   have hx:=(List.mem_filter.1 hx).1
   have hr:=fR hd hx
   have hsb:aIp (aB dc) (dN x)=tU (aB dc) x:=by unfold aIp;rw [aPz hd hx]
   obtain ⟨q1,q2⟩:=aMy hd hx
   have hk:=tR hd (n:=dN x) (by unfold inR;omega)
   have hab:=lD hd x hx
   rw [hsb]
   obtain ⟨a,b,c,d,e,f,rfl⟩:=len6 (hd.ud x hx)
   have hf:inR f:=by
    have:=(iE.1 (hd.rng _ hx))
    unfold inR;simp [dAb] at this hab ⊢;omega
   have hsbj:bCq dl (aB sk) (aB dc) [a,b,c,d,e,f] (tU (aB dc) [a,b,c,d,e,f]):=fun base=>bDd hd hf (.inl hx) hr.2
   have hcl:(aN (aB sk) 0).length≤1000:=by rw [kX];omega
   by_cases h0:bC (fun x=>decide (tU (aB dc) [a,b,c,d,e,f]=x)) (aN (aB sk) 0)<0
   ·rw [if_pos h0]
    exact bPf h hd hol hc (by omega) hk q1 q2 hsbj ⟨hu,by omega⟩ hcl h0
   ·rw [if_neg h0]
    have hi:=bHm (p:=fun x=>decide (tU (aB dc) [a,b,c,d,e,f]=x)) (l:=aN (aB sk) 0) (by omega)
    rw [kX] at hi
    obtain ⟨y0,y1,hy⟩:=at2 hu hi
    have hrg:=aVg (dl:=dl) (num:=dN [a,b,c,d,e,f]) hd hu hs hy (by omega) (Nat.le_trans (List.length_filter_le _ _) (by omega))
    cases hb:(iZ ((aW dl (aB dc)).filter fun n => !(n == dN [a,b,c,d,e,f]))).any (aBa dl sk dc (dN [a,b,c,d,e,f]) (tU (aB dc) [a,b,c,d,e,f])) with
    | false=>exact bPg h hd hol hc (by omega) hk q1 q2 hsbj ⟨hu,by omega⟩ hcl (by omega) (hrg.1 hb)
    | true=>exact bPh h hd hol hc (by omega) hk q1 q2 hsbj ⟨hu,by omega⟩ hcl (by omega) (hrg.2 hb)
end
end KV
end Go.Proofs
