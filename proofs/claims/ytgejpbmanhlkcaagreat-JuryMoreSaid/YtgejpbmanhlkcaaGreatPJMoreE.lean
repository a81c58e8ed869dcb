/- Parts of the proof of JMore: laws of walks, contracts of functions, plain models. No condition. -/
import Derived.Test.YtgejpbmanhlkcaaGreatPJMoreD
set_option linter.unusedVariables false
set_option linter.unusedSimpArgs false
set_option maxRecDepth 100000
namespace Go.Proofs
namespace KV
section

noncomputable abbrev qN:Code:=sub (cd Tryz.f142) [1,1,0,1,0,0]
noncomputable abbrev wD:Code:=sub (cd Tryz.f141) [1,0,1,0,0]
noncomputable abbrev wE:Code:=sub (cd Tryz.f141) [1,0,1,0,0,1,1,0,0,1,1,1,1,1,0,0]
theorem aHe:0≤(0:Int)∧(0:Int)<2:=by first | decide | simp
theorem aHf:0≤(1:Int)∧(1:Int)<2:=by first | decide | simp
def gJ(al:List fA)(s:Nat)(t:Int)(few:Nat)(many:Nat)(i:Nat):St:=⟨fr 39 [(1,(pI (s:Int))),(2,(pI t)),(6,(pI 0)),(7,(pI 0)),(8,(pI (few:Int))),(9,(pI (many:Int))),(12,(.p (.sl al.length ((al.map hpE).flatten)))),(13,(pI (al.length:Int))),(14,(pI (i:Int)))],[]⟩
theorem bRn{al:List fA}{s:Nat}{t:Int}{few'0 many'1 i'2:Nat}(hl0:aI Tp 0 qN (gJ al s t 0 0 0) (.exit 0) (gJ al s t few'0 many'1 i'2)){base:Nat}:FV Tp 142 [(.p (.sl al.length ((al.map hpE).flatten))),(pI (s:Int)),(pI t)] base (.tup [(pI (few'0:Int)),(pI (many'1:Int))]) []:=by
 exact FV.fin Tryz.func142 rfl (o:=[.k 8 ⟨(rng [(0,1),(3,3),(10,2),(15,22)]),[],[],[]⟩ (.exit 0) (gJ al s t few'0 many'1 i'2)]) (l:=[_]) (by kernel_rfl) (gc hl0.code gn)
theorem aYo{al:List fA}{s:Nat}{t:Int}{few many i:Nat}{c100:List cD}{mn101 mx102:Int}{i':Nat}(h0:(i:Int)<(al.length:Int))(h1:al[i]? = some (c100,mn101,mx102))(h2:(i:Int)=(s:Int))(h3:inR (((i+1):Nat):Int))(ei':i'=(i+1)):aC Tp 0 qN (gJ al s t few many i) .normal (gJ al s t few many i'):=by
 subst ei';exact aC.fin (g:=⟨(rng [(0,1),(3,3),(10,2),(15,22)]),[],[],[]⟩) (o:=[bT,.x (.agg [(.sl c100.length ((c100.map chE).flatten)),(aA mn101),(aA mx102)]),bT]) (l:=[_,_,some (.agg ((((al.map hpE).flatten).drop (i*3)).take 3):PV)=some (.agg [(.sl c100.length ((c100.map chE).flatten)),(aA mn101),(aA mx102)]),(i*3)+3≤((al.map hpE).flatten).length,0≤(i:Int)∧(i:Int)<(al.length:Int)∧(i*3)<((al.map hpE).flatten).length,_]) (by kernel_rfl) (gc h3 (gc (eO h2) (gc (lX (E:=hpE) (i:=i) (k:=3) (fun _=>rfl) h1 rfl) (gc (tE (E:=hpE) (i:=i) (k:=3) (fun _=>rfl) h1) (gc (qP (E:=hpE) (k:=3) (i:=(i:Int)) (fun _=>rfl) (by decide) (kQ3 _) h1) (gc (bC h0) gn))))))
theorem aYp{al:List fA}{s:Nat}{t:Int}{few many i:Nat}{c100:List cD}{mn101 mx102:Int}{few' many' i':Nat}(h0:(i:Int)<(al.length:Int))(h1:al[i]? = some (c100,mn101,mx102))(h2:(i:Int)≠(s:Int))(h3:mx102<t)(h4:inR (((few+1):Nat):Int))(h5:mn101<t)(h6:inR (((many+1):Nat):Int))(h7:inR (((i+1):Nat):Int))(efew':few'=(few+1))(emany':many'=(many+1))(ei':i'=(i+1)):aC Tp 0 qN (gJ al s t few many i) .normal (gJ al s t few' many' i'):=by
 subst efew' emany' ei';exact aC.fin (g:=⟨(rng [(0,1),(3,3),(10,2),(15,22)]),[],[],[]⟩) (o:=[bT,.x (.agg [(.sl c100.length ((c100.map chE).flatten)),(aA mn101),(aA mx102)]),bF,bT,bT]) (l:=[_,_,_,_,_,_,_,_,some (.agg ((((al.map hpE).flatten).drop (i*3)).take 3):PV)=some (.agg [(.sl c100.length ((c100.map chE).flatten)),(aA mn101),(aA mx102)]),(i*3)+3≤((al.map hpE).flatten).length,0≤(i:Int)∧(i:Int)<(al.length:Int)∧(i*3)<((al.map hpE).flatten).length,_]) (by kernel_rfl) (gc h7 (gc h6 (gc (bC h5) (gc aHe (gc h4 (gc (bC h3) (gc aHf (gc (bN h2) (gc (lX (E:=hpE) (i:=i) (k:=3) (fun _=>rfl) h1 rfl) (gc (tE (E:=hpE) (i:=i) (k:=3) (fun _=>rfl) h1) (gc (qP (E:=hpE) (k:=3) (i:=(i:Int)) (fun _=>rfl) (by decide) (kQ3 _) h1) (gc (bC h0) gn))))))))))))
theorem aYq{al:List fA}{s:Nat}{t:Int}{few many i:Nat}{c100:List cD}{mn101 mx102:Int}{few' i':Nat}(h0:(i:Int)<(al.length:Int))(h1:al[i]? = some (c100,mn101,mx102))(h2:(i:Int)≠(s:Int))(h3:mx102<t)(h4:inR (((few+1):Nat):Int))(h5:t≤mn101)(h6:inR (((i+1):Nat):Int))(efew':few'=(few+1))(ei':i'=(i+1)):aC Tp 0 qN (gJ al s t few many i) .normal (gJ al s t few' many i'):=by
 subst efew' ei';exact aC.fin (g:=⟨(rng [(0,1),(3,3),(10,2),(15,22)]),[],[],[]⟩) (o:=[bT,.x (.agg [(.sl c100.length ((c100.map chE).flatten)),(aA mn101),(aA mx102)]),bF,bT,bF]) (l:=[_,_,_,_,_,_,_,some (.agg ((((al.map hpE).flatten).drop (i*3)).take 3):PV)=some (.agg [(.sl c100.length ((c100.map chE).flatten)),(aA mn101),(aA mx102)]),(i*3)+3≤((al.map hpE).flatten).length,0≤(i:Int)∧(i:Int)<(al.length:Int)∧(i*3)<((al.map hpE).flatten).length,_]) (by kernel_rfl) (gc h6 (gc (bO h5) (gc aHe (gc h4 (gc (bC h3) (gc aHf (gc (bN h2) (gc (lX (E:=hpE) (i:=i) (k:=3) (fun _=>rfl) h1 rfl) (gc (tE (E:=hpE) (i:=i) (k:=3) (fun _=>rfl) h1) (gc (qP (E:=hpE) (k:=3) (i:=(i:Int)) (fun _=>rfl) (by decide) (kQ3 _) h1) (gc (bC h0) gn)))))))))))
theorem aYr{al:List fA}{s:Nat}{t:Int}{few many i:Nat}{c100:List cD}{mn101 mx102:Int}{many' i':Nat}(h0:(i:Int)<(al.length:Int))(h1:al[i]? = some (c100,mn101,mx102))(h2:(i:Int)≠(s:Int))(h3:t≤mx102)(h4:mn101<t)(h5:inR (((many+1):Nat):Int))(h6:inR (((i+1):Nat):Int))(emany':many'=(many+1))(ei':i'=(i+1)):aC Tp 0 qN (gJ al s t few many i) .normal (gJ al s t few many' i'):=by
 subst emany' ei';exact aC.fin (g:=⟨(rng [(0,1),(3,3),(10,2),(15,22)]),[],[],[]⟩) (o:=[bT,.x (.agg [(.sl c100.length ((c100.map chE).flatten)),(aA mn101),(aA mx102)]),bF,bF,bT]) (l:=[_,_,_,_,_,_,_,some (.agg ((((al.map hpE).flatten).drop (i*3)).take 3):PV)=some (.agg [(.sl c100.length ((c100.map chE).flatten)),(aA mn101),(aA mx102)]),(i*3)+3≤((al.map hpE).flatten).length,0≤(i:Int)∧(i:Int)<(al.length:Int)∧(i*3)<((al.map hpE).flatten).length,_]) (by kernel_rfl) (gc h6 (gc h5 (gc (bC h4) (gc aHe (gc (bO h3) (gc aHf (gc (bN h2) (gc (lX (E:=hpE) (i:=i) (k:=3) (fun _=>rfl) h1 rfl) (gc (tE (E:=hpE) (i:=i) (k:=3) (fun _=>rfl) h1) (gc (qP (E:=hpE) (k:=3) (i:=(i:Int)) (fun _=>rfl) (by decide) (kQ3 _) h1) (gc (bC h0) gn)))))))))))
theorem aYs{al:List fA}{s:Nat}{t:Int}{few many i:Nat}{c100:List cD}{mn101 mx102:Int}{i':Nat}(h0:(i:Int)<(al.length:Int))(h1:al[i]? = some (c100,mn101,mx102))(h2:(i:Int)≠(s:Int))(h3:t≤mx102)(h4:t≤mn101)(h5:inR (((i+1):Nat):Int))(ei':i'=(i+1)):aC Tp 0 qN (gJ al s t few many i) .normal (gJ al s t few many i'):=by
 subst ei';exact aC.fin (g:=⟨(rng [(0,1),(3,3),(10,2),(15,22)]),[],[],[]⟩) (o:=[bT,.x (.agg [(.sl c100.length ((c100.map chE).flatten)),(aA mn101),(aA mx102)]),bF,bF,bF]) (l:=[_,_,_,_,_,_,some (.agg ((((al.map hpE).flatten).drop (i*3)).take 3):PV)=some (.agg [(.sl c100.length ((c100.map chE).flatten)),(aA mn101),(aA mx102)]),(i*3)+3≤((al.map hpE).flatten).length,0≤(i:Int)∧(i:Int)<(al.length:Int)∧(i*3)<((al.map hpE).flatten).length,_]) (by kernel_rfl) (gc h5 (gc (bO h4) (gc aHe (gc (bO h3) (gc aHf (gc (bN h2) (gc (lX (E:=hpE) (i:=i) (k:=3) (fun _=>rfl) h1 rfl) (gc (tE (E:=hpE) (i:=i) (k:=3) (fun _=>rfl) h1) (gc (qP (E:=hpE) (k:=3) (i:=(i:Int)) (fun _=>rfl) (by decide) (kQ3 _) h1) (gc (bC h0) gn))))))))))
theorem aYt{al:List fA}{s:Nat}{t:Int}{few many i:Nat}(h0:(al.length:Int)≤(i:Int)):aC Tp 0 qN (gJ al s t few many i) (.exit 0) (gJ al s t few many i):=by
 exact aC.fin (g:=⟨(rng [(0,1),(3,3),(10,2),(15,22)]),[],[],[]⟩) (o:=[bF]) (l:=[_]) (by kernel_rfl) (gc (bO h0) gn)
def iL(al:List fA)(s:Nat)(t:Int):Nat→Nat × Nat
 | 0=>(0,0)
 | i+1=>match al[i]? with
  | some h=>if i=s then iL al s t i else ((if h.2.2<t then (iL al s t i).1+1 else (iL al s t i).1),(if h.2.1<t then (iL al s t i).2+1 else (iL al s t i).2))
  | none=>iL al s t i
abbrev cU(al:List fA)(s:Nat)(t:Int):Nat × Nat:=iL al s t al.length
theorem nS(al:List fA)(s:Nat)(t:Int):∀ i,(iL al s t i).1≤i∧(iL al s t i).2≤i
 | 0=>⟨dS _,dS _⟩
 | i+1=>by
  have:=nS al s t i;unfold iL
  split
  ·split
   ·omega
   ·dsimp only
    split <;> split <;> omega
  ·omega
theorem bRo(al:List fA)(s:Nat)(t:Int)(hl:al.length≤1000){base:Nat}:FV Tp 142 [.p (.sl al.length (al.map hpE).flatten),.p (aA s),.p (aA t)] base (.tup [.p (aA ((cU al s t).1:Nat)),.p (aA ((cU al s t).2:Nat))]) []:=by
 obtain ⟨a,hI,hL⟩:=aI.ex (P:=Tp) (k:=0) (b:=qN) (e := .exit 0) (fun i (a:Nat × Nat)=>gJ al s t a.1 a.2 i) (fun a=>gJ al s t a.1 a.2 al.length) (fun i a=>a=iL al s t i) (by simp) al.length
  (fun i a hi ha=>by
   obtain ⟨⟨c,mn,mx⟩,hx⟩:∃ x,al[i]? = some x:=⟨_,kQ0 hi⟩;have hle:=nS al s t i;refine ⟨_,rfl,?_⟩;subst ha;have e:iL al s t (i+1)=if i=s then iL al s t i else ((if mx<t then (iL al s t i).1+1 else (iL al s t i).1),(if mn<t then (iL al s t i).2+1 else (iL al s t i).2)):=by
    conv=>lhs;unfold iL
    rw [hx]
   rw [e]
   by_cases his:i=s
   ·rw [if_pos his];exact aYo (by omega) hx (by omega) (aP (by omega)) rfl
   ·rw [if_neg his]
    by_cases h1:mx<t <;> by_cases h2:mn<t
    ·rw [if_pos h1,if_pos h2];exact aYp (by omega) hx (by omega) h1 (aP (by omega)) h2 (aP (by omega)) (aP (by omega)) rfl rfl rfl
    ·rw [if_pos h1,if_neg h2];exact aYq (by omega) hx (by omega) h1 (aP (by omega)) (by omega) (aP (by omega)) rfl rfl
    ·rw [if_neg h1,if_pos h2];exact aYr (by omega) hx (by omega) (by omega) h2 (aP (by omega)) (aP (by omega)) rfl rfl
    ·rw [if_neg h1,if_neg h2];exact aYs (by omega) hx (by omega) (by omega) (by omega) (aP (by omega)) rfl)
  (fun a _=>aYt (by omega)) (acc:=(0,0)) rfl
 subst hI;exact bRn hL
def jZ(al:List fA)(s:Nat)(c0:List cD)(on:Nat)(oc:List PV)(ou:Bool)(inn:Bool)(i:Nat):St:=⟨fr 51 [(0,(.p (.sl al.length ((al.map hpE).flatten)))),(1,(pI (s:Int))),(4,(.own 0)),(5,(pB ou)),(6,(pB inn)),(16,(.p (.sl c0.length ((c0.map chE).flatten)))),(17,(pI (c0.length:Int))),(18,(pI (i:Int)))],[some (.row 3 on oc)]⟩
theorem bRp{al:List fA}{s:Nat}{c0:List cD}{mn1 mx2:Int}{o'3:List Int}{ou'4 inn'5:Bool}{i'6:Nat}(h0:al[s]? = some (c0,mn1,mx2))(hl1:aI Tp 0 wD (jZ al s c0 0 [] false false 0) (.exit 0) (jZ al s c0 o'3.length (o'3.map aA) ou'4 inn'5 i'6))(h2:o'3.length≤1000000)(h3:(o'3.mergeSort KL.leB).length≤1000000){base:Nat}:FV Tp 141 [(.p (.sl al.length ((al.map hpE).flatten))),(pI (s:Int))] base (.tup [(.p (aG (Lib.compact (o'3.mergeSort KL.leB)))),(pB ou'4),(pB inn'5)]) []:=by
 exact FV.frz (FMM.fin (k:=0) (g:=⟨[],[],[1],[]⟩) rfl Tryz.func141 rfl (o:=[.x (.sl c0.length ((c0.map chE).flatten)),.k 1 ⟨(rng [(2,2),(7,9),(19,26),(46,1)]),[0],[],[(4,3),(5,0),(6,0)]⟩ (.exit 0) (jZ al s c0 o'3.length (o'3.map aA) ou'4 inn'5 i'6),.c (.tup []) [(0,(.row 3 ((o'3.mergeSort KL.leB).length) ((o'3.mergeSort KL.leB).map aA)))],.c (.own 1) [(0,.dead),(1,(.row 3 ((Lib.compact (o'3.mergeSort KL.leB)).length) ((Lib.compact (o'3.mergeSort KL.leB)).map aA)))]]) (l:=[FC Tp 186 [(.own 0)] [(0,(.row 3 ((o'3.mergeSort KL.leB).length) ((o'3.mergeSort KL.leB).map aA)))] 1 (.own 1) [(0,.dead),(1,(.row 3 ((Lib.compact (o'3.mergeSort KL.leB)).length) ((Lib.compact (o'3.mergeSort KL.leB)).map aA)))],FC Tp 57 [(.own 0)] [(0,(.row 3 o'3.length (o'3.map aA)))] 1 (.tup []) [(0,(.row 3 ((o'3.mergeSort KL.leB).length) ((o'3.mergeSort KL.leB).map aA)))],_,((al.map hpE).flatten)[(s*3)]? = some (.sl c0.length ((c0.map chE).flatten)),0≤(s:Int)∧(s:Int)<(al.length:Int)∧(s*3)<((al.map hpE).flatten).length]) (by kernel_rfl) (gc (FMM.fc (ids:=[0]) (aLf (o'3.mergeSort KL.leB) h3) (by kernel_rfl)) (gc (FMM.fc (ids:=[0]) (bFf o'3 h2) (by kernel_rfl)) (gc hl1.code (gc (bAb (E:=hpE) (i:=s) (f:=0) (k:=3) (fun _=>rfl) h0 rfl) (gc (qP (E:=hpE) (k:=3) (i:=(s:Int)) (fun _=>rfl) (by decide) (kQ3 _) h0) gn)))))) (by kernel_rfl)
def kA(al:List fA)(s:Nat)(c0:List cD)(ou:Bool)(i:Nat)(t100:Int)(b101:Bool)(q102:List Int)(on:Nat)(oc:List PV)(n:Nat):St:=⟨fr 51 [(0,(.p (.sl al.length ((al.map hpE).flatten)))),(1,(pI (s:Int))),(4,(.own 0)),(5,(pB ou)),(6,(.kb true)),(8,(.ptr 1 0)),(9,(pI (((cU al s t100).1:Nat):Int))),(10,(pI (((cU al s t100).2:Nat):Int))),(11,(pI (n:Int))),(16,(.p (.sl c0.length ((c0.map chE).flatten)))),(17,(pI (c0.length:Int))),(18,(pI (i:Int))),(19,(pB (decide ((i:Int)<(c0.length:Int))))),(20,(.rp ((c0.map chE).flatten) (i*3))),(21,(.p (.agg [(aA t100),(blP b101),(aG q102)]))),(22,(.ptr 1 1)),(23,(pB b101)),(24,(.tup [(pI (((cU al s t100).1:Nat):Int)),(pI (((cU al s t100).2:Nat):Int))])),(25,(.p (.sl al.length ((al.map hpE).flatten)))),(26,(pI (s:Int))),(27,(.ptr 1 0)),(28,(pI t100)),(29,(.tup [(pI (((cU al s t100).1:Nat):Int)),(pI (((cU al s t100).2:Nat):Int))])),(30,(pI (((cU al s t100).1:Nat):Int))),(31,(pI (((cU al s t100).2:Nat):Int))),(32,(pI (((cU al s t100).1:Nat):Int))),(33,(pI ((((cU al s t100).1+1):Nat):Int)))],[some (.row 3 on oc),some (.box 197 [(pI t100),(pB b101),(.p (aG q102))])]⟩
theorem aYu{al:List fA}{s:Nat}{c0:List cD}{o:List Int}{ou inn:Bool}{i:Nat}{t100:Int}{b101:Bool}{q102:List Int}{i':Nat}(h0:(i:Int)<(c0.length:Int))(h1:c0[i]? = some (t100,b101,q102))(h2:b101=true)(h3:inR (((i+1):Nat):Int))(ei':i'=(i+1)):aC Tp 0 wD (jZ al s c0 o.length (o.map aA) ou inn i) .normal (jZ al s c0 o.length (o.map aA) true inn i'):=by
 subst ei';exact aC.fin (g:=⟨(rng [(2,2),(7,9),(19,26),(46,1)]),[0],[],[(5,0)]⟩) (o:=[bT,.x (.agg [(aA t100),(blP b101),(aG q102)]),bT]) (l:=[_,_,some (.agg ((((c0.map chE).flatten).drop (i*3)).take 3):PV)=some (.agg [(aA t100),(blP b101),(aG q102)]),(i*3)+3≤((c0.map chE).flatten).length,0≤(i:Int)∧(i:Int)<(c0.length:Int)∧(i*3)<((c0.map chE).flatten).length,_]) (by kernel_rfl) (gc h3 (gc h2 (gc (lX (E:=chE) (i:=i) (k:=3) (fun _=>rfl) h1 rfl) (gc (tE (E:=chE) (i:=i) (k:=3) (fun _=>rfl) h1) (gc (qP (E:=chE) (k:=3) (i:=(i:Int)) (fun _=>rfl) (by decide) (kQ3 _) h1) (gc (bC h0) gn))))))
theorem aYv{al:List fA}{s:Nat}{c0:List cD}{o:List Int}{ou inn:Bool}{i:Nat}{t100:Int}{b101:Bool}{q102 o'103:List Int}{n'104:Nat}{o':List Int}{i':Nat}(h0:(i:Int)<(c0.length:Int))(h1:c0[i]? = some (t100,b101,q102))(h2:b101=false)(h3:al.length≤1000)(h4:inR ((((cU al s t100).1+1):Nat):Int))(hl5:aI Tp 0 wE (kA al s c0 ou i t100 b101 q102 o.length (o.map aA) ((cU al s t100).1+1)) (.exit 2) (kA al s c0 ou i t100 b101 q102 o'103.length (o'103.map aA) n'104))(h6:inR (((i+1):Nat):Int))(eo'n:o'.length=o'103.length)(eo'c:o'.map aA=(o'103.map aA))(ei':i'=(i+1)):aC Tp 0 wD (jZ al s c0 o.length (o.map aA) ou inn i) .normal (jZ al s c0 o'.length (o'.map aA) ou true i'):=by
 subst ei';have raw:aC Tp 0 wD (jZ al s c0 o.length (o.map aA) ou inn i) .normal (jZ al s c0 o'103.length (o'103.map aA) ou true (i+1)):=aC.fin (g:=⟨(rng [(2,2),(7,9),(19,26),(46,1)]),[0],[],[(6,0)]⟩) (o:=[bT,.x (.agg [(aA t100),(blP b101),(aG q102)]),bF,.c (.tup [(pI (((cU al s t100).1:Nat):Int)),(pI (((cU al s t100).2:Nat):Int))]) [],.k 3 ⟨(rng [(2,2),(7,1),(12,4),(34,10),(46,1)]),[0,1],[],[]⟩ (.exit 2) (kA al s c0 ou i t100 b101 q102 o'103.length (o'103.map aA) n'104)]) (l:=[_,_,_,_,_,some (.agg ((((c0.map chE).flatten).drop (i*3)).take 3):PV)=some (.agg [(aA t100),(blP b101),(aG q102)]),(i*3)+3≤((c0.map chE).flatten).length,0≤(i:Int)∧(i:Int)<(c0.length:Int)∧(i*3)<((c0.map chE).flatten).length,_]) (by kernel_rfl) (gc h6 (gc hl5.code (gc h4 (gc (fk 2 (bRo al s t100 h3) rfl) (gc h2 (gc (lX (E:=chE) (i:=i) (k:=3) (fun _=>rfl) h1 rfl) (gc (tE (E:=chE) (i:=i) (k:=3) (fun _=>rfl) h1) (gc (qP (E:=chE) (k:=3) (i:=(i:Int)) (fun _=>rfl) (by decide) (kQ3 _) h1) (gc (bC h0) gn)))))))))
 exact raw.cast (by rw [eo'n,eo'c])
theorem aYw{al:List fA}{s:Nat}{c0:List cD}{o:List Int}{ou inn:Bool}{i:Nat}(h0:(c0.length:Int)≤(i:Int)):aC Tp 0 wD (jZ al s c0 o.length (o.map aA) ou inn i) (.exit 0) (jZ al s c0 o.length (o.map aA) ou inn i):=by
 exact aC.fin (g:=⟨(rng [(2,2),(7,9),(19,26),(46,1)]),[0],[],[]⟩) (o:=[bF]) (l:=[_]) (by kernel_rfl) (gc (bO h0) gn)
theorem aYx{al:List fA}{s:Nat}{c0:List cD}{ou:Bool}{i:Nat}{t100:Int}{b101:Bool}{q102 o:List Int}{n:Nat}{o':List Int}{n':Nat}(h0:inR ((((cU al s t100).2+1):Nat):Int))(h1:(n:Int)≤((((cU al s t100).2+1):Nat):Int))(h2:[(aA (n:Int))].length=1*1∧o.length+1≤1000000)(h3:inR (((n+1):Nat):Int))(eo'n:o'.length=(o.length+1))(eo'c:o'.map aA=((o.map aA)++[(aA (n:Int))]))(en':n'=(n+1)):aC Tp 0 wE (kA al s c0 ou i t100 b101 q102 o.length (o.map aA) n) .normal (kA al s c0 ou i t100 b101 q102 o'.length (o'.map aA) n'):=by
 subst en';have raw:aC Tp 0 wE (kA al s c0 ou i t100 b101 q102 o.length (o.map aA) n) .normal (kA al s c0 ou i t100 b101 q102 (o.length+1) ((o.map aA)++[(aA (n:Int))]) (n+1)):=aC.fin (g:=⟨(rng [(2,2),(7,1),(12,4),(34,10),(46,1)]),[3,1],[],[]⟩) (o:=[bT]) (l:=[_,_,_,_]) (by kernel_rfl) (gc h3 (gc h2 (gc (aJq h1) (gc h0 gn))))
 exact raw.cast (by rw [eo'n,eo'c])
theorem aYy{al:List fA}{s:Nat}{c0:List cD}{ou:Bool}{i:Nat}{t100:Int}{b101:Bool}{q102 o:List Int}{n:Nat}(h0:inR ((((cU al s t100).2+1):Nat):Int))(h1:((((cU al s t100).2+1):Nat):Int)<(n:Int)):aC Tp 0 wE (kA al s c0 ou i t100 b101 q102 o.length (o.map aA) n) (.exit 2) (kA al s c0 ou i t100 b101 q102 o.length (o.map aA) n):=by
 exact aC.fin (g:=⟨(rng [(2,2),(7,1),(12,4),(34,10),(46,1)]),[0,1],[],[]⟩) (o:=[bF]) (l:=[_,_]) (by kernel_rfl) (gc (qD h1) (gc h0 gn))
def aKs(few many:Nat):List Int:=(List.range (many+1-few)).map fun j=>((few+1+j:Nat):Int)
def chL(al:List fA)(s:Nat)(c:cD):List Int:=if c.2.1 then [] else aKs (cU al s c.1).1 (cU al s c.1).2
def lF(al:List fA)(s:Nat)(c:List cD):List Int:=Lib.compact ((c.flatMap (chL al s)).mergeSort KL.leB)
theorem bEj{a b:Nat}(h:b≤1000):(aKs a b).length≤1001:=by unfold aKs;simp;omega
theorem bJs(al:List fA)(hal:al.length≤1000)(s:Nat)(c:cD):(chL al s c).length≤1001:=by
 unfold chL
 split
 ·simp
 ·exact bEj (by have:(cU al s c.1).2≤al.length:=(nS al s c.1 al.length).2;omega)
theorem aHg{al:List fA}(hal:al.length≤1000)(s:Nat):∀ c:List cD,(c.flatMap (chL al s)).length≤c.length*1001
 | []=>by simp
 | x::c=>by
  rw [List.flatMap_cons,lP,pG];have:=bJs al hal s x;have:=aHg hal s c;omega
theorem bRq{al:List fA}(hal:al.length≤1000)(s:Nat)(c0:List cD)(ou:Bool)(i:Nat)(t:Int)(b:Bool)(q o:List Int)(ho:o.length≤900000) :
  ∃ n',aI Tp 0 wE (kA al s c0 ou i t b q o.length (o.map aA) ((cU al s t).1+1)) (.exit 2) (kA al s c0 ou i t b q (o++aKs (cU al s t).1 (cU al s t).2).length ((o++aKs (cU al s t).1 (cU al s t).2).map aA) n'):=by
 have h1:(cU al s t).1≤al.length:=(nS al s t al.length).1;have h2:(cU al s t).2≤al.length:=(nS al s t al.length).2;obtain ⟨x,hI,hL⟩:=aI.ex (P:=Tp) (k:=0) (b:=wE) (e := .exit 2) (fun j (x:List Int)=>kA al s c0 ou i t b q x.length (x.map aA) ((cU al s t).1+1+j)) (fun x=>kA al s c0 ou i t b q x.length (x.map aA) ((cU al s t).1+1+((cU al s t).2+1-(cU al s t).1)))
  (fun j x=>x=o++(List.range j).map fun j=>(((cU al s t).1+1+j:Nat):Int)) (by simp) ((cU al s t).2+1-(cU al s t).1)
  (fun j x hj hx=>by
   have hlen:x.length=o.length+j:=by rw [hx];simp
   refine ⟨x++[(((cU al s t).1+1+j:Nat):Int)],?_,aYx (aP (by omega)) (by omega) ⟨rfl,by omega⟩ (aP (by omega)) (by simp) (by simp) rfl⟩
   rw [hx,List.range_succ];simp)
  (fun x _=>aYy (aP (by omega)) (by omega)) (acc:=o) (by simp)
 rw [show o++aKs (cU al s t).1 (cU al s t).2=x from hI.symm]
 exact ⟨_,hL⟩
theorem aPc{al:List fA}(hal:al.length≤1000){s:Nat}{c:List cD}{mn mx:Int}(hx:al[s]? = some (c,mn,mx))(hc:c.length≤256){base:Nat} :
  FV Tp 141 [.p (.sl al.length (al.map hpE).flatten),.p (aA s)] base (.tup [.p (aG (lF al s c)),.p (blP (c.any fun x=>x.2.1)),.p (blP (c.any fun x => !x.2.1))]) []:=by
 obtain ⟨a,⟨hI,hJ,hK⟩,hL⟩:=aI.ex (P:=Tp) (k:=0) (b:=wD) (e := .exit 0) (fun i (a:List Int × Bool × Bool)=>jZ al s c a.1.length (a.1.map aA) a.2.1 a.2.2 i) (fun a=>jZ al s c a.1.length (a.1.map aA) a.2.1 a.2.2 c.length)
  (fun i a=>a.1=(c.take i).flatMap (chL al s)∧a.2.1=((c.take i).any fun x=>x.2.1)∧a.2.2=((c.take i).any fun x => !x.2.1)) (by simp) c.length
  (fun i a hi ha=>by
   obtain ⟨ha1,ha2,ha3⟩:=ha;obtain ⟨⟨t,b,q⟩,hx⟩:∃ x,c[i]? = some x:=⟨_,kQ0 hi⟩;have hlen:a.1.length≤256*1001:=by
    rw [ha1];have:=aHg hal s (c.take i);rw [oJ] at this
    have:min i c.length≤256:=by omega
    omega
   have e1:c.take (i+1)=c.take i++[(t,b,q)]:=by rw [List.take_add_one,hx];rfl
   cases b with
   | true=>exact ⟨(a.1,true,a.2.2),⟨by rw [ha1,e1];simp [chL],by rw [e1];simp,by rw [ha3,e1];simp⟩,aYu (by omega) hx rfl (aP (by omega)) rfl⟩
   | false =>
    have h1:(cU al s t).1≤al.length:=(nS al s t al.length).1;obtain ⟨n',hl⟩:=bRq hal s c a.2.1 i t false q a.1 (by omega)
    exact ⟨(a.1++aKs (cU al s t).1 (cU al s t).2,a.2.1,true),⟨by rw [ha1,e1];simp [chL],by rw [ha2,e1];simp,by rw [e1];simp⟩,aYv (by omega) hx rfl hal (aP (by omega)) hl (aP (by omega)) rfl rfl rfl⟩)
  (fun a _=>aYw (by omega)) (acc:=([],false,false)) (by simp)
 rw [List.take_length] at hI hJ hK
 have hb:=aHg hal s c;have:=bRp (s:=s) hx hL (by rw [hI];omega) (by rw [List.length_mergeSort,hI];omega) (base:=base)
 rw [hI,hJ,hK] at this
 exact this
end
section
variable {dl:Int}{sk dc:Lqq}

theorem bEi:((0:Int) != (0:Int))=false:=by first | decide | simp
def qM(l:Lqq)(x0:Int)(x1:Int)(i:Nat):St:=⟨fr 19 [(0,(.p (fS l))),(3,(.ptr 0 0)),(7,(pI (l.length:Int))),(8,(pI (i:Int)))],[some (.box 31 [(pI x0),(pI x1)])]⟩
theorem bRj{l:Lqq}{x0 x1:Int}{i'0:Nat}(hl0:aI Tp 0 (sub (cd Tryz.f185) [1,0,1,0,0]) (qM l x0 x1 0) .ret (cG (qM l x0 x1 i'0) [(4,(pI (i'0:Int)))])){base:Nat}:FV Tp 185 [(.p (fS l)),(.p (.agg [(aA x0),(aA x1)]))] base (pI (i'0:Int)) []:=by
 exact FV.fin Tryz.func185 rfl (o:=[.k 6 ⟨(rng [(1,2),(4,3),(9,10)]),[0],[],[]⟩ .ret (cG (qM l x0 x1 i'0) [(4,(pI (i'0:Int)))])]) (l:=[_]) (by kernel_rfl) (gc hl0.code gn)
theorem aYm{l:Lqq}{x0 x1:Int}{i:Nat}{y100 y101:Int}(h0:(i:Int)<(l.length:Int))(h1:l[i]? = some [y100,y101])(h2:uni 2 l)(h3:dY [(aA x0),(aA x1)] [(0,3,true),(1,3,true)]=true∧dY [(aA y100),(aA y101)] [(0,3,true),(1,3,true)]=true)(h4:(mQ [(aA x0),(aA x1)] [(aA y100),(aA y101)] [(0,3,true),(1,3,true)])=true):aC Tp 0 (sub (cd Tryz.f185) [1,0,1,0,0]) (qM l x0 x1 i) .ret (cG (qM l x0 x1 i) [(4,(pI (i:Int)))]):=by
 exact aC.fin (g:=⟨(rng [(1,2),(5,2),(9,10)]),[0],[],[]⟩) (o:=[bT,.x (.agg [(aA y100),(aA y101)]),bT]) (l:=[_,_,_,_,0≤(i:Int)∧(i:Int)<(l.length:Int)∧(i*2)<(l.flatten.map aA).length,_]) (by kernel_rfl) (gc h4 (gc h3 (gc (aU (i:=i) h2 h1) (gc (bH (i:=i) h2 h1) (gc (bR (k:=2) (i:=(i:Int)) (by decide) h2 (kQ3 _) h1) (gc (bC h0) gn))))))
theorem aYn{l:Lqq}{x0 x1:Int}{i:Nat}{y100 y101:Int}{i':Nat}(h0:(i:Int)<(l.length:Int))(h1:l[i]? = some [y100,y101])(h2:uni 2 l)(h3:dY [(aA x0),(aA x1)] [(0,3,true),(1,3,true)]=true∧dY [(aA y100),(aA y101)] [(0,3,true),(1,3,true)]=true)(h4:(mQ [(aA x0),(aA x1)] [(aA y100),(aA y101)] [(0,3,true),(1,3,true)])=false)(h5:inR (((i+1):Nat):Int))(ei':i'=(i+1)):aC Tp 0 (sub (cd Tryz.f185) [1,0,1,0,0]) (qM l x0 x1 i) .normal (qM l x0 x1 i'):=by
 subst ei';exact aC.fin (g:=⟨(rng [(1,2),(4,3),(9,10)]),[0],[],[]⟩) (o:=[bT,.x (.agg [(aA y100),(aA y101)]),bF]) (l:=[_,_,_,_,_,0≤(i:Int)∧(i:Int)<(l.length:Int)∧(i*2)<(l.flatten.map aA).length,_]) (by kernel_rfl) (gc h5 (gc h4 (gc h3 (gc (aU (i:=i) h2 h1) (gc (bH (i:=i) h2 h1) (gc (bR (k:=2) (i:=(i:Int)) (by decide) h2 (kQ3 _) h1) (gc (bC h0) gn)))))))
theorem bRk{l:Lqq}(hu:uni 2 l)(hn:(aK l 0).Nodup)(hl:l.length≤1000){i:Nat}{x0 x1:Int}(hi:l[i]? = some [x0,x1]){base:Nat}:FV Tp 185 [.p (fS l),.p (.agg [aA x0,aA x1])] base (pI (i:Int)) []:=by
 have hlt:=bD hi;refine bRj (i'0:=i) ?_;have hne:∀ j,j<i→∃ y0 y1,l[j]? = some [y0,y1]∧y0≠x0:=fun j hj=>by
  obtain ⟨y0,y1,hy⟩:=at2 hu (i:=j) (by omega)
  refine ⟨y0,y1,hy,fun e => ?_⟩
  have e1:(aK l 0)[j]? = some y0:=by unfold aK;rw [iO,hy];rfl
  have e2:(aK l 0)[i]? = some x0:=by unfold aK;rw [iO,hi];rfl
  obtain ⟨hj1,hj2⟩:=kQ2.1 e1;obtain ⟨hi1,hi2⟩:=kQ2.1 e2;have:=List.pairwise_iff_getElem.1 hn j i hj1 hi1 hj;rw [hj2,hi2] at this
  exact this e
 exact aI.until (P:=Tp) i (fun j=>qM l x0 x1 j) i (dS _)
  (fun j hj=>by
   obtain ⟨y0,y1,hy,hn⟩:=hne j hj;exact aYn (by omega) hy hu ⟨rfl,rfl⟩ (by simp [mQ,aCl];exact fun h=>absurd h.symm hn) (aP (by omega)) rfl)
  (aYm (by omega) hi hu ⟨rfl,rfl⟩ (by simp [mQ,aCl])) (by simp)
theorem uS(h:cR dl sk dc):uni 2 (aB sk)∧(aB sk).length≤30∧(∀ s∈aB sk,-1≤s.getD 1 0∧s.getD 1 0≤360000)∧(aK (aB sk) 0).Nodup:=by
 have hp:=dH sk;refine ⟨lK h.us,by rw [fU];exact h.len.2,fun s hs=>(aGl.1 (h.hsk s (hp.mem_iff.1 hs))).2,?_⟩
 unfold aK;exact (hp.map _).nodup_iff.2 h.ns
theorem aSg(h:cR dl sk dc)(ho:(aO dl (aB dc)).length≤8){base:Nat}:FV Tp 161 [qG dl (aB sk) (aB dc)] base (.tup [.own base,.p (aA 0)]) [(base,.row 195 (bI dl (aB sk) (aB dc)).length ((bI dl (aB sk) (aB dc)).map hpE).flatten)]:=by
 obtain ⟨h1,h2,h3,_⟩:=uS h;exact bRs (iK h) h1 (by omega) h3 ho
theorem bJr(h:cR dl sk dc){i:Nat}{x0 x1:Int}(hi:(aB sk)[i]? = some [x0,x1]){base:Nat}:FV Tp 185 [.p (fS (aB sk)),.p (.agg [aA x0,aA x1])] base (pI (i:Int)) []:=by
 obtain ⟨h1,h2,_,h4⟩:=uS h;exact bRk h1 h4 (by omega) hi
theorem bRl{bib:Int}{i0:Nat}{s1 s2:Int}(h0:cR dl sk dc)(h1:bEx (aB sk) bib=(i0:Int))(h2:(aB sk)[i0]? = some [s1,s2])(h3:(aO dl (aB dc)).length≤8){base:Nat}:FV Tp 140 [(.p (.agg (cT dl sk dc))),(pI bib)] base (.tup [(.p (.sl ((bI dl (aB sk) (aB dc)).length) (((bI dl (aB sk) (aB dc)).map hpE).flatten))),(pI (i0:Int)),(pI 0)]) []:=by
 exact FV.frz (FMM.fin (k:=0) (g:=⟨[],[],[2],[]⟩) rfl Tryz.func140 rfl (o:=[.c (.tup [(.rp (aH dl (aB sk) (aB dc)) 0),(.p (.agg [(aA s1),(aA s2)])),(pI 0)]) [],bF,.c (.tup [(.own 2),(pI 0)]) [(2,(.row 195 ((bI dl (aB sk) (aB dc)).length) (((bI dl (aB sk) (aB dc)).map hpE).flatten)))],.x (.sl ((aB sk).length) ((aB sk).flatten.map aA)),.c (pI (i0:Int)) []]) (l:=[_,(aH dl (aB sk) (aB dc))[1]? = some (.sl ((aB sk).length) ((aB sk).flatten.map aA)),_,_,_]) (by kernel_rfl) (gc (fk 3 (bJr h0 h2) rfl) (gc rfl (gc (fk 2 (aSg h0 h3) rfl) (gc bEi (gc (fk 1 (bEy h0 h1 h2) rfl) gn)))))) (by kernel_rfl)
theorem bRm{bib:Int}{i0:Nat}{s1 s2:Int}{c3:List cD}{mn4 mx5:Int}{r0:Bool}(h0:cR dl sk dc)(h1:bEx (aB sk) bib=(i0:Int))(h2:(aB sk)[i0]? = some [s1,s2])(h3:(aO dl (aB dc)).length≤8)(h4:(bI dl (aB sk) (aB dc))[i0]? = some (c3,mn4,mx5))(h5:(bI dl (aB sk) (aB dc)).length≤1000)(h6:c3.length≤256)(er0:r0=(c3.any fun x=>x.2.1)){base:Nat}:FV Tp 71 [(.p (.agg (cT dl sk dc))),(pI bib)] base (.tup [(.p (aG (lF (bI dl (aB sk) (aB dc)) i0 c3))),(pB r0),(pI 0)]) []:=by
 subst er0;exact FV.fin Tryz.func71 rfl (o:=[.c (.tup [(.p (.sl ((bI dl (aB sk) (aB dc)).length) (((bI dl (aB sk) (aB dc)).map hpE).flatten))),(pI (i0:Int)),(pI 0)]) [],bF,.c (.tup [(.p (aG (lF (bI dl (aB sk) (aB dc)) i0 c3))),(pB (c3.any fun x=>x.2.1)),(pB (c3.any fun x => !x.2.1))]) []]) (l:=[_,_,FC Tp 140 [(.p (.agg (cT dl sk dc))),(pI bib)] [] 1 (.tup [(.p (.sl ((bI dl (aB sk) (aB dc)).length) (((bI dl (aB sk) (aB dc)).map hpE).flatten))),(pI (i0:Int)),(pI 0)]) []]) (by kernel_rfl) (gc (fk 1 (aPc h5 h4 h6) rfl) (gc bEi (gc (FV.fc (bRl h0 h1 h2 h3) rfl) gn)))
end
section
variable {dl:Int}{sk dc:Lqq}

noncomputable abbrev aBp:Code:=sub (cd Tryz.f93) [1,1,1,1,1,1,1,0,1,0,0]
theorem bEg:((0:Int) != (0:Int))=false:=by first | decide | simp
theorem bRe{l:List Int}{a b:Bool}{f x0:Int}{r0:Bool}(h0:b=true)(h1:a=false)(h2:inR ((l.length:Int)-1))(h3:l[((l.length:Int)-1).toNat]? = some x0)(h4:0≤((l.length:Int)-1))(er0:r0=(decide (x0≤f))){base:Nat}:FV Tp 95 [(.p (aG l)),(pB a),(pB b),(.rp [(aA f)] 0)] base (pB r0) []:=by
 subst er0;exact FV.fin Tryz.func95 rfl (o:=[bT,bT,bT,bT,bT,bT,bT,bT,bT,.x (aA x0),bT,.x (aA f),bT,bT]) (l:=[_,_,[(aA f)][0]? = some (aA f),_,(l.map aA)[(((l.length:Int)-1).toNat*1)]? = some (aA x0),_,_,_,_,_,_,_,_,_,_,_]) (by kernel_rfl) (g2c (cA h1) (gc rfl (gc (cA h1) (gc (oM (i:=((l.length:Int)-1).toNat) h3) (gc (cA h1) (gc (oN (g:=aA) h4 h3) (gc (cA h1) (gc h2 (g4c (cA h1) (g3c h0 gn))))))))))
theorem bRf{l:List Int}{a b:Bool}{f:Int}(h0:b=true)(h1:a=true){base:Nat}:FV Tp 95 [(.p (aG l)),(pB a),(pB b),(.rp [(aA f)] 0)] base (pB false) []:=by
 exact FV.fin Tryz.func95 rfl (o:=[bT,bT,bT,bF,bF,bF,bF,bF,bF,bF,bF,bF]) (l:=[_,_,_,_,_,_,_,_,_,_,_,_]) (by kernel_rfl) (g8c (aX h1) (gc (aX h1) (g3c h0 gn)))
theorem bRg{l:List Int}{a b:Bool}{f:Int}(h0:b=false){base:Nat}:FV Tp 95 [(.p (aG l)),(pB a),(pB b),(.rp [(aA f)] 0)] base (pB false) []:=by
 exact FV.fin Tryz.func95 rfl (o:=[bF,bF,bF]) (l:=[_,_,_]) (by kernel_rfl) (g3c h0 gn)
def aHd(l:List Int)(a b:Bool)(f:Int):Bool:=b && (!a && decide (l.getD (l.length-1) 0≤f))
theorem bEh(l:List Int)(a b:Bool)(f:Int)(hl:l.length≤1000000)(hb:b=true→l≠[]){base:Nat}:FV Tp 95 [.p (aG l),.p (blP a),.p (blP b),.rp [aA f] 0] base (pB (aHd l a b f)) []:=by
 cases b with
 | false=>exact bRg rfl
 | true =>
  cases a with
  | true=>exact bRf rfl rfl
  | false =>
   have h0:=hb rfl;have h1:0<l.length:=List.length_pos_iff.2 h0;have h2:l[l.length-1]? = some (l.getD (l.length-1) 0):=by rw [kQ4,kQ0 (by omega)];rfl
   have e:((l.length:Int)-1).toNat=l.length-1:=by omega
   exact bRe (x0:=l.getD (l.length-1) 0) rfl rfl (by unfold inR;omega) (by rw [e];exact h2) (by omega) (by unfold aHd;simp)
def jY(dl:Int)(sk:Lqq)(dc:Lqq)(fi:Int)(on:Nat)(oc:List PV)(i:Nat):St:=⟨fr 58 [(2,(.fn 95 [] [(.rp [(aA fi)] 0)])),(6,(.p bZ)),(7,(pI 0)),(10,(.p (.sl ((bI dl (aB sk) (aB dc)).length) (((bI dl (aB sk) (aB dc)).map hpE).flatten)))),(11,(.own 0)),(36,(.p (.sl ((aB sk).length) ((aB sk).flatten.map aA)))),(37,(pI (((aB sk).length:Nat):Int))),(38,(pI (i:Int)))],[some (.row 3 on oc)]⟩
theorem bRh{fi:Int}{o'0:List Int}{i'1:Nat}(h0:cR dl sk dc)(h1:(1:Int)≤fi)(h2:(aO dl (aB dc)).length≤8)(hl3:aI Tp 0 aBp (jY dl sk dc fi 0 [] 0) (.exit 0) (jY dl sk dc fi o'0.length (o'0.map aA) i'1)){base:Nat}:FV Tp 93 [(.p (.agg (cT dl sk dc))),(pI fi),(.fn 95 [] [(.rp [(aA fi)] 0)])] base (.tup [(.p (aG o'0)),(pI 0)]) []:=by
 exact FV.frz (FMM.fin (k:=0) (g:=⟨[],[],[0],[]⟩) rfl Tryz.func93 rfl (o:=[.c (.tup [(.rp (aH dl (aB sk) (aB dc)) 0),(pI 0)]) [],bF,bF,.c (.tup [(.own 1),(pI 0)]) [(1,(.row 195 ((bI dl (aB sk) (aB dc)).length) (((bI dl (aB sk) (aB dc)).map hpE).flatten)))],bF,.g 1 ⟨[],[0],[1],[]⟩,.x (.sl ((aB sk).length) ((aB sk).flatten.map aA)),.k 1 ⟨(rng [(0,2),(3,3),(8,2),(12,24),(39,18)]),[1],[],[(11,3)]⟩ (.exit 0) (jY dl sk dc fi o'0.length (o'0.map aA) i'1)]) (l:=[_,(aH dl (aB sk) (aB dc))[1]? = some (.sl ((aB sk).length) ((aB sk).flatten.map aA)),_,_,_,_,_]) (by kernel_rfl) (gc hl3.code (gc rfl (gc bEg (gc (fk 1 (aSg h0 h2) rfl) (gc (bO h1) (gc bEg (gc (fk 1 (kH dl sk dc h0) rfl) gn)))))))) (by kernel_rfl)
theorem aYj{fi:Int}{o:List Int}{i:Nat}{y100 y101:Int}{c102:List cD}{mn103 mx104:Int}{o':List Int}{i':Nat}(h0:(i:Int)<(((aB sk).length:Nat):Int))(h1:(aB sk)[i]? = some [y100,y101])(h2:uni 2 (aB sk))(h3:(bI dl (aB sk) (aB dc))[i]? = some (c102,mn103,mx104))(h4:(bI dl (aB sk) (aB dc)).length≤1000)(h5:c102.length≤256)(h6:(lF (bI dl (aB sk) (aB dc)) i c102).length≤1000000)(h7:(c102.any fun x => !x.2.1)=true→(lF (bI dl (aB sk) (aB dc)) i c102)≠[])(h8:(aHd (lF (bI dl (aB sk) (aB dc)) i c102) (c102.any fun x=>x.2.1) (c102.any fun x => !x.2.1) fi)=true)(h9:[(aA y100)].length=1*1∧o.length+1≤1000000)(h10:inR (((i+1):Nat):Int))(eo'n:o'.length=(o.length+1))(eo'c:o'.map aA=((o.map aA)++[(aA y100)]))(ei':i'=(i+1)):aC Tp 0 aBp (jY dl sk dc fi o.length (o.map aA) i) .normal (jY dl sk dc fi o'.length (o'.map aA) i'):=by
 subst ei';have raw:aC Tp 0 aBp (jY dl sk dc fi o.length (o.map aA) i) .normal (jY dl sk dc fi (o.length+1) ((o.map aA)++[(aA y100)]) (i+1)):=aC.fin (g:=⟨(rng [(0,2),(3,3),(8,2),(12,24),(39,18)]),[3],[],[]⟩) (o:=[bT,.x (.agg [(aA y100),(aA y101)]),.c (.tup [(.p (aG (lF (bI dl (aB sk) (aB dc)) i c102))),(pB (c102.any fun x=>x.2.1)),(pB (c102.any fun x => !x.2.1))]) [],.c (pB (aHd (lF (bI dl (aB sk) (aB dc)) i c102) (c102.any fun x=>x.2.1) (c102.any fun x => !x.2.1) fi)) [],bT]) (l:=[_,_,_,_,_,_,_,0≤(i:Int)∧(i:Int)<(((aB sk).length:Nat):Int)∧(i*2)<((aB sk).flatten.map aA).length,_]) (by kernel_rfl) (gc h10 (gc h9 (gc h8 (gc (fk 2 (bEh (lF (bI dl (aB sk) (aB dc)) i c102) (c102.any fun x=>x.2.1) (c102.any fun x => !x.2.1) fi h6 h7) rfl) (gc (fk 2 (aPc h4 h3 h5) rfl) (gc (aU (i:=i) h2 h1) (gc (bH (i:=i) h2 h1) (gc (bR (k:=2) (i:=(i:Int)) (by decide) h2 (kQ3 _) h1) (gc (bC h0) gn)))))))))
 exact raw.cast (by rw [eo'n,eo'c])
theorem aYk{fi:Int}{o:List Int}{i:Nat}{y100 y101:Int}{c102:List cD}{mn103 mx104:Int}{i':Nat}(h0:(i:Int)<(((aB sk).length:Nat):Int))(h1:(aB sk)[i]? = some [y100,y101])(h2:uni 2 (aB sk))(h3:(bI dl (aB sk) (aB dc))[i]? = some (c102,mn103,mx104))(h4:(bI dl (aB sk) (aB dc)).length≤1000)(h5:c102.length≤256)(h6:(lF (bI dl (aB sk) (aB dc)) i c102).length≤1000000)(h7:(c102.any fun x => !x.2.1)=true→(lF (bI dl (aB sk) (aB dc)) i c102)≠[])(h8:(aHd (lF (bI dl (aB sk) (aB dc)) i c102) (c102.any fun x=>x.2.1) (c102.any fun x => !x.2.1) fi)=false)(h9:inR (((i+1):Nat):Int))(ei':i'=(i+1)):aC Tp 0 aBp (jY dl sk dc fi o.length (o.map aA) i) .normal (jY dl sk dc fi o.length (o.map aA) i'):=by
 subst ei';exact aC.fin (g:=⟨(rng [(0,2),(3,3),(8,2),(12,24),(39,18)]),[0],[],[]⟩) (o:=[bT,.x (.agg [(aA y100),(aA y101)]),.c (.tup [(.p (aG (lF (bI dl (aB sk) (aB dc)) i c102))),(pB (c102.any fun x=>x.2.1)),(pB (c102.any fun x => !x.2.1))]) [],.c (pB (aHd (lF (bI dl (aB sk) (aB dc)) i c102) (c102.any fun x=>x.2.1) (c102.any fun x => !x.2.1) fi)) [],bF]) (l:=[_,_,_,_,_,_,0≤(i:Int)∧(i:Int)<(((aB sk).length:Nat):Int)∧(i*2)<((aB sk).flatten.map aA).length,_]) (by kernel_rfl) (gc h9 (gc h8 (gc (fk 2 (bEh (lF (bI dl (aB sk) (aB dc)) i c102) (c102.any fun x=>x.2.1) (c102.any fun x => !x.2.1) fi h6 h7) rfl) (gc (fk 2 (aPc h4 h3 h5) rfl) (gc (aU (i:=i) h2 h1) (gc (bH (i:=i) h2 h1) (gc (bR (k:=2) (i:=(i:Int)) (by decide) h2 (kQ3 _) h1) (gc (bC h0) gn))))))))
theorem aYl{fi:Int}{o:List Int}{i:Nat}(h0:(((aB sk).length:Nat):Int)≤(i:Int)):aC Tp 0 aBp (jY dl sk dc fi o.length (o.map aA) i) (.exit 0) (jY dl sk dc fi o.length (o.map aA) i):=by
 exact aC.fin (g:=⟨(rng [(0,2),(3,3),(8,2),(12,24),(39,18)]),[0],[],[]⟩) (o:=[bF]) (l:=[_]) (by kernel_rfl) (gc (bO h0) gn)
abbrev bUc(dl:Int)(sk dc:Lqq)(fi:Int)(o:List Int)(e:Int):Prop:=∀ base:Nat,FV Tp 93 [.p (.agg (cT dl sk dc)),.p (aA fi),.fn 95 [] [.rp [aA fi] 0]] base (.tup [.p (aG o),.p (aA e)]) []
theorem bRi{fi e0:Int}{o1:List Int}(h0:bUc dl sk dc fi o1 e0){base:Nat}:FV Tp 33 [(.p (.agg (cT dl sk dc))),(pI fi)] base (.tup [(.p (aG o1)),(pI e0)]) []:=by
 exact FV.fin Tryz.func33 rfl (o:=[.g 3 ⟨[],[0],[1],[]⟩,.x (aA fi),.c (.tup [(.p (aG o1)),(pI e0)]) []]) (l:=[FC Tp 93 [(.p (.agg (cT dl sk dc))),(pI fi),(.fn 95 [] [(.rp [(aA fi)] 0)])] [] 1 (.tup [(.p (aG o1)),(pI e0)]) [],[(aA fi)][0]? = some (aA fi)]) (by kernel_rfl) (gc (FV.fc (h0 _) rfl) (gc rfl gn))
end
end KV
end Go.Proofs
section
namespace Go.Proofs
open Go.RowKit Go.Lib
namespace KV
theorem bJo(o:List Int):iZ o≠[]:=fun h=>by
 have:=uT o;rw [h] at this
 have:=Nat.two_pow_pos o.length;simp at *
 omega
theorem bEd(l:List cD):∀ m,l.foldl (fun m x=>if x.1<m then x.1 else m) m≤m∧∀ x∈l,l.foldl (fun m x=>if x.1<m then x.1 else m) m≤x.1:=by
 induction l with
 | nil=>intro m;exact ⟨aNh _,fun x h=>by cases h⟩
 | cons a l ih =>
  intro m;rw [sQ];obtain ⟨h1,h2⟩:=ih (if a.1<m then a.1 else m)
  have ha:(if a.1<m then a.1 else m)≤m∧(if a.1<m then a.1 else m)≤a.1:=by split <;> omega
  exact ⟨by omega,fun x hx=>by
   rcases gO.1 hx with rfl | hx
   ·omega
   ·exact h2 x hx⟩
theorem bEe(l:List cD):∀ m,m≤l.foldl (fun m x=>if x.1 > m then x.1 else m) m∧∀ x∈l,x.1≤l.foldl (fun m x=>if x.1 > m then x.1 else m) m:=by
 induction l with
 | nil=>intro m;exact ⟨aNh _,fun x h=>by cases h⟩
 | cons a l ih =>
  intro m;rw [sQ];obtain ⟨h1,h2⟩:=ih (if a.1 > m then a.1 else m)
  have ha:m≤(if a.1 > m then a.1 else m)∧a.1≤(if a.1 > m then a.1 else m):=by split <;> omega
  exact ⟨by omega,fun x hx=>by
   rcases gO.1 hx with rfl | hx
   ·omega
   ·exact h2 x hx⟩
theorem bJp{l:List cD}(h:l≠[]):mnM l≤mxM l:=by
 obtain ⟨x,hx⟩:=List.exists_mem_of_ne_nil l h;exact Int.le_trans ((bEd l far).2 x hx) ((bEe l 0).2 x hx)
theorem bJq(dl:Int)(dc:Lqq)(s0 s1:Int)(o:List Int):(nT dl dc s0 s1 o).2.1≤(nT dl dc s0 s1 o).2.2:=bJp fun h=>bJo o (List.map_eq_nil_iff.1 h)
theorem aEq(dl:Int)(sk dc:Lqq):(bI dl sk dc).length=sk.length:=by unfold bI;simp
theorem aKp{dl:Int}{sk dc:Lqq}{i:Nat}{s:List Int}(h:sk[i]? = some s):(bI dl sk dc)[i]? = some (nT dl dc (s.getD 0 0) (s.getD 1 0) (tC dl dc (s.getD 0 0))):=by
 unfold bI;rw [iO,h];rfl
theorem aKq{dl:Int}{dc:Lqq}{s0 s1:Int}(b:Int)(ho:(aO dl dc).length≤8):(nT dl dc s0 s1 (tC dl dc b)).1.length≤256:=by
 show ((iZ (tC dl dc b)).map _).length≤256;rw [eZ,uT];have:=bEk dl dc b;exact gE (Nat.pow_le_pow_right (by omega) (show (tC dl dc b).length≤8 by omega)) (by decide)
theorem aSe{al:List fA}(h:∀ x∈al,x.2.1≤x.2.2)(s:Nat)(t:Int):∀ i,(iL al s t i).1≤(iL al s t i).2
 | 0=>dS _
 | i+1=>by
  have ih:=aSe h s t i;unfold iL
  split
  ·rename_i x hx
   have:=h x (kQ5 hx)
   split
   ·exact ih
   ·dsimp only
    split <;> split <;> omega
  ·exact ih
theorem aPb{l:List Int}(h:l≠[]):Lib.compact l≠[]:=fun e=>by
 have:(Lib.compact l).length=0:=by rw [e];rfl
 unfold Lib.compact Lib.compactUpTo at this
 rw [eZ] at this
 have h0:0∈(List.range l.length).filter (Lib.keeps l.toArray):=aAn.2 ⟨vR.2 (List.length_pos_iff.2 h),Lib.keeps_lt_one _ 0 (by omega)⟩
 rw [aCo this] at h0
 cases h0
theorem bEf{al:List fA}(h:∀ x∈al,x.2.1≤x.2.2)(s:Nat){c:List cD}(hc:(c.any fun x => !x.2.1)=true):lF al s c≠[]:=by
 unfold lF;refine aPb fun e => ?_
 have e2:c.flatMap (chL al s)=[]:=by
  have:=List.length_mergeSort (le:=KL.leB) (c.flatMap (chL al s));rw [e] at this
  exact aCo this.symm
 obtain ⟨x,hx,hn⟩:=List.any_eq_true.1 hc;have h1:chL al s x=[]:=List.flatMap_eq_nil_iff.1 e2 x hx;have hf:x.2.1=false:=by simpa using hn
 unfold chL aKs at h1
 rw [hf] at h1
 have:=congrArg List.length h1;have hl:=aSe h s x.1 al.length;simp at this
 have h3:(cU al s x.1).1≤(cU al s x.1).2:=hl;omega
theorem aSf{al:List fA}(hal:al.length≤1000)(s:Nat){c:List cD}(hc:c.length≤256):(lF al s c).length≤1000000:=by
 unfold lF;refine gE (aBt _) ?_;rw [List.length_mergeSort];have:=aHg hal s c;omega
theorem aKr(dl:Int)(sk dc:Lqq):∀ x∈bI dl sk dc,x.2.1≤x.2.2:=fun x hx=>by
 obtain ⟨s,_,rfl⟩:=dU.1 hx;exact bJq ..
end KV
end Go.Proofs
end
namespace Go.Proofs
namespace KV
section
def xS(dl:Int)(sk dc:Lqq)(f:Int)(i:Nat):Bool:=match (bI dl sk dc)[i]? with
 | some h=>aHd (lF (bI dl sk dc) i h.1) (h.1.any fun x=>x.2.1) (h.1.any fun x => !x.2.1) f
 | none=>false
def aKo(dl:Int)(sk dc:Lqq)(f:Int):List Int:=((List.range sk.length).filter (xS dl sk dc f)).map fun i=>(sk.getD i []).getD 0 0
theorem bRb{dl:Int}{sk dc:Lqq}(h:cR dl sk dc){bib:Int}{i:Nat}{s0 s1:Int}(hp:bEx (aB sk) bib=(i:Int))(hs:(aB sk)[i]? = some [s0,s1])(ho:(aO dl (aB dc)).length≤8){base:Nat} :
  FV Tp 71 [.p (.agg (cT dl sk dc)),.p (aA bib)] base (.tup [.p (aG (lF (bI dl (aB sk) (aB dc)) i (nT dl (aB dc) s0 s1 (tC dl (aB dc) s0)).1)),.p (blP ((nT dl (aB dc) s0 s1 (tC dl (aB dc) s0)).1.any fun x=>x.2.1)),.p (aA 0)]) []:=by
 obtain ⟨_,h2,_,_⟩:=uS h;exact bRm h hp hs ho (aKp hs) (by rw [aEq];omega) (aKq s0 ho) rfl
theorem bRc{dl:Int}{sk dc:Lqq}(h:cR dl sk dc){f:Int}(hf:1≤f)(ho:(aO dl (aB dc)).length≤8):bUc dl sk dc f (aKo dl (aB sk) (aB dc) f) 0:=fun base=>by
 obtain ⟨h1,h2,_,_⟩:=uS h;obtain ⟨o,hI,hL⟩:=aI.ex (P:=Tp) (k:=0) (b:=sub (cd Tryz.f93) [1,1,1,1,1,1,1,0,1,0,0]) (e := .exit 0) (fun i (o:List Int)=>jY dl sk dc f o.length (o.map aA) i) (fun o=>jY dl sk dc f o.length (o.map aA) (aB sk).length)
  (fun i o=>o=((List.range i).filter (xS dl (aB sk) (aB dc) f)).map fun i=>((aB sk).getD i []).getD 0 0) (by simp) (aB sk).length
  (fun i o hi hoE=>by
   obtain ⟨y0,y1,hy⟩:=at2 h1 hi;have hat:=aKp (dl:=dl) (dc:=aB dc) hy;have hlen:o.length≤i:=by
    rw [hoE,eZ];have:=aAk (xS dl (aB sk) (aB dc) f) (List.range i);simpa using this
   have hmb:xS dl (aB sk) (aB dc) f i=aHd (lF (bI dl (aB sk) (aB dc)) i (nT dl (aB dc) y0 y1 (tC dl (aB dc) y0)).1) ((nT dl (aB dc) y0 y1 (tC dl (aB dc) y0)).1.any fun x=>x.2.1) ((nT dl (aB dc) y0 y1 (tC dl (aB dc) y0)).1.any fun x => !x.2.1) f:=by
    unfold xS;rw [hat];rfl
   have hal:(bI dl (aB sk) (aB dc)).length≤1000:=by rw [aEq];omega
   have hc:=aKq (s0:=y0) (s1:=y1) y0 ho;have hg:((aB sk).getD i []).getD 0 0=y0:=by simp [kQ4,hy]
   cases hb:xS dl (aB sk) (aB dc) f i with
   | true =>
    refine ⟨o++[y0],?_,aYj (by omega) hy h1 hat hal hc (aSf hal i hc) (fun hn=>bEf (aKr _ _ _) i hn) (by rw [← hb,hmb];rfl) ⟨rfl,by omega⟩ (aP (by omega)) (by simp) (by simp) rfl⟩
    rw [hoE,List.range_succ,qC,iG];simp only [List.filter_cons,hb,if_true,List.filter_nil,iH,List.map_nil,hg]
   | false =>
    refine ⟨o,?_,aYk (by omega) hy h1 hat hal hc (aSf hal i hc) (fun hn=>bEf (aKr _ _ _) i hn) (by rw [← hb,hmb];rfl) (aP (by omega)) rfl⟩
    rw [hoE,List.range_succ,qC,iG];simp [List.filter_cons,hb])
  (fun o _=>aYl (by omega)) (acc:=[]) (by simp)
 have e:o=aKo dl (aB sk) (aB dc) f:=hI;rw [← e];exact bRh h hf ho hL
theorem bRd{dl:Int}{sk dc:Lqq}(h:cR dl sk dc){f:Int}(hf:1≤f)(ho:(aO dl (aB dc)).length≤8){base:Nat}:FV Tp 33 [.p (.agg (cT dl sk dc)),.p (aA f)] base (.tup [.p (aG (aKo dl (aB sk) (aB dc) f)),.p (aA 0)]) []:=bRi (bRc h hf ho)
end
section

noncomputable abbrev wB:Code:=sub (cd Tryz.f51) [1,1,0,1,0,0]
noncomputable abbrev wC:Code:=sub (cd Tryz.f41) [1,1,0,1,0,0]
theorem bQt{dl:Int}{sk dc:Lqq}{bib:Int}{i0:Nat}{s1 s2 n3:Int}{b4:Bool}{T5:Lqb}(h0:cR dl sk dc)(h1:bEx (aB sk) bib=(i0:Int))(h2:(aB sk)[i0]? = some [s1,s2])(h3:aCt dl (aB sk) (aB dc) bZ [s1,s2] n3 b4 ([]:Lqb) T5){base:Nat}:FV Tp 61 [(.p (.agg (cT dl sk dc))),(pI bib)] base (.tup [(pI n3),(pB b4),(pI 0)]) []:=by
 exact FV.fin Tryz.func61 rfl (o:=[.c (.tup [(.rp (aH dl (aB sk) (aB dc)) 0),(.p (.agg [(aA s1),(aA s2)])),(pI 0)]) [],bF,.c (.agg (kVL 6 7 2 4 8 3)) [(2,(vB0 dl (aB sk) (aB dc))),(3,(.box 33 [(.p bZ)])),(4,(.box 139 (kVL 6 7 2 4 8 3))),(5,(.mp (aF ([]:Lqb)) 0)),(6,(.box 207 [(.mp 5)])),(7,(vB5 dl (aB sk) (aB dc))),(8,(.box 209 [(.fn 153 [] [(.ptr 2 0),(.ptr 4 0)])]))],.c (.tup [(pI n3),(pB b4)]) [(2,(vB0 dl (aB sk) (aB dc))),(3,(.box 33 [(.p bZ)])),(4,(.box 139 (kVL 6 7 2 4 8 3))),(5,(.mp (aF T5) T5.length)),(6,(.box 207 [(.mp 5)])),(7,(vB5 dl (aB sk) (aB dc))),(8,(.box 209 [(.fn 153 [] [(.ptr 2 0),(.ptr 4 0)])]))]]) (l:=[FC Tp 134 [(.rp (aH dl (aB sk) (aB dc)) 0),(.p (.agg [(aA s1),(aA s2)])),(.agg (kVL 6 7 2 4 8 3))] [(6,(.box 207 [(.mp 5)])),(7,(vB5 dl (aB sk) (aB dc))),(2,(vB0 dl (aB sk) (aB dc))),(4,(.box 139 (kVL 6 7 2 4 8 3))),(8,(.box 209 [(.fn 153 [] [(.ptr 2 0),(.ptr 4 0)])])),(3,(.box 33 [(.p bZ)])),(5,(.mp (aF ([]:Lqb)) 0))] 10 (.tup [(pI n3),(pB b4)]) [(2,(vB0 dl (aB sk) (aB dc))),(3,(.box 33 [(.p bZ)])),(4,(.box 139 (kVL 6 7 2 4 8 3))),(5,(.mp (aF T5) T5.length)),(6,(.box 207 [(.mp 5)])),(7,(vB5 dl (aB sk) (aB dc))),(8,(.box 209 [(.fn 153 [] [(.ptr 2 0),(.ptr 4 0)])]))],FC Tp 87 [(.rp (aH dl (aB sk) (aB dc)) 0),(.p bZ)] [] 2 (.agg (kVL 6 7 2 4 8 3)) [(2,(vB0 dl (aB sk) (aB dc))),(3,(.box 33 [(.p bZ)])),(4,(.box 139 (kVL 6 7 2 4 8 3))),(5,(.mp (aF ([]:Lqb)) 0)),(6,(.box 207 [(.mp 5)])),(7,(vB5 dl (aB sk) (aB dc))),(8,(.box 209 [(.fn 153 [] [(.ptr 2 0),(.ptr 4 0)])]))],((0:Int) != (0:Int))=false,_]) (by kernel_rfl) (gc (FMM.fc (ids:=[2,3,4,5,6,7,8]) h3 (by kernel_rfl)) (gc (FMM.fcN (k:=7) rfl (ids:=[]) (aGv (dl:=dl) (sk:=(aB sk)) (dc:=(aB dc))) (by kernel_rfl)) (gc (by first | decide | simp) (gc (fk 1 (bEy h0 h1 h2) rfl) gn))))
def iQ(a:Lqq)(b:Lqq)(i:Nat):St:=⟨fr 26 [(0,(.p (fS a))),(1,(.p (fS b))),(12,(pI (a.length:Int))),(13,(pI (i:Int)))],[]⟩
theorem bQu{a b:Lqq}(h0:(a.length:Int)≠(b.length:Int)){base:Nat}:FV Tp 51 [(.p (fS a)),(.p (fS b))] base (pB false) []:=by
 exact FV.fin Tryz.func51 rfl (o:=[bT]) (l:=[_]) (by kernel_rfl) (gc (lQ h0) gn)
theorem bQv{a b:Lqq}{i'0:Nat}(h0:(a.length:Int)=(b.length:Int))(hl1:aI Tp 0 wB (iQ a b 0) (.exit 0) (iQ a b i'0)){base:Nat}:FV Tp 51 [(.p (fS a)),(.p (fS b))] base (pB true) []:=by
 exact FV.fin Tryz.func51 rfl (o:=[bF,.k 4 ⟨(rng [(2,10),(14,12)]),[],[],[]⟩ (.exit 0) (iQ a b i'0)]) (l:=[_,_]) (by kernel_rfl) (gc hl1.code (gc (kM h0) gn))
theorem bQw{a b:Lqq}{i'0:Nat}(h0:(a.length:Int)=(b.length:Int))(hl1:aI Tp 0 wB (iQ a b 0) .ret (cG (iQ a b i'0) [(4,(.kb false))])){base:Nat}:FV Tp 51 [(.p (fS a)),(.p (fS b))] base (pB false) []:=by
 exact FV.fin Tryz.func51 rfl (o:=[bF,.k 4 ⟨(rng [(2,10),(14,12)]),[],[],[]⟩ .ret (cG (iQ a b i'0) [(4,(.kb false))])]) (l:=[_,_]) (by kernel_rfl) (gc hl1.code (gc (kM h0) gn))
theorem aYd{a b:Lqq}{i:Nat}{y100 y101 y102 y103 y104 y105:Int}(h0:(i:Int)<(a.length:Int))(h1:a[i]? = some [y100,y101,y102])(h2:uni 3 a)(h3:b[i]? = some [y103,y104,y105])(h4:uni 3 b)(h5:dY [(aA y100),(aA y101),(aA y102)] [(0,3,true),(1,3,true),(2,3,true)]=true∧dY [(aA y103),(aA y104),(aA y105)] [(0,3,true),(1,3,true),(2,3,true)]=true)(h6:(mQ [(aA y100),(aA y101),(aA y102)] [(aA y103),(aA y104),(aA y105)] [(0,3,true),(1,3,true),(2,3,true)])=false):aC Tp 0 wB (iQ a b i) .ret (cG (iQ a b i) [(4,(.kb false))]):=by
 exact aC.fin (g:=⟨(rng [(2,2),(5,7),(14,12)]),[],[],[]⟩) (o:=[bT,.x (.agg [(aA y100),(aA y101),(aA y102)]),.x (.agg [(aA y103),(aA y104),(aA y105)]),bT]) (l:=[_,_,_,_,0≤(i:Int)∧(i:Int)<(b.length:Int)∧(i*3)<(b.flatten.map aA).length,_,_,0≤(i:Int)∧(i:Int)<(a.length:Int)∧(i*3)<(a.flatten.map aA).length,_]) (by kernel_rfl) (gc (cA h6) (gc h5 (gc (aU (i:=i) h4 h3) (gc (bH (i:=i) h4 h3) (gc (bR (k:=3) (i:=(i:Int)) (by decide) h4 (kQ3 _) h3) (gc (aU (i:=i) h2 h1) (gc (bH (i:=i) h2 h1) (gc (bR (k:=3) (i:=(i:Int)) (by decide) h2 (kQ3 _) h1) (gc (bC h0) gn)))))))))
theorem aYe{a b:Lqq}{i:Nat}{y100 y101 y102 y103 y104 y105:Int}{i':Nat}(h0:(i:Int)<(a.length:Int))(h1:a[i]? = some [y100,y101,y102])(h2:uni 3 a)(h3:b[i]? = some [y103,y104,y105])(h4:uni 3 b)(h5:dY [(aA y100),(aA y101),(aA y102)] [(0,3,true),(1,3,true),(2,3,true)]=true∧dY [(aA y103),(aA y104),(aA y105)] [(0,3,true),(1,3,true),(2,3,true)]=true)(h6:(mQ [(aA y100),(aA y101),(aA y102)] [(aA y103),(aA y104),(aA y105)] [(0,3,true),(1,3,true),(2,3,true)])=true)(h7:inR (((i+1):Nat):Int))(ei':i'=(i+1)):aC Tp 0 wB (iQ a b i) .normal (iQ a b i'):=by
 subst ei';exact aC.fin (g:=⟨(rng [(2,10),(14,12)]),[],[],[]⟩) (o:=[bT,.x (.agg [(aA y100),(aA y101),(aA y102)]),.x (.agg [(aA y103),(aA y104),(aA y105)]),bF]) (l:=[_,_,_,_,_,0≤(i:Int)∧(i:Int)<(b.length:Int)∧(i*3)<(b.flatten.map aA).length,_,_,0≤(i:Int)∧(i:Int)<(a.length:Int)∧(i*3)<(a.flatten.map aA).length,_]) (by kernel_rfl) (gc h7 (gc (aX h6) (gc h5 (gc (aU (i:=i) h4 h3) (gc (bH (i:=i) h4 h3) (gc (bR (k:=3) (i:=(i:Int)) (by decide) h4 (kQ3 _) h3) (gc (aU (i:=i) h2 h1) (gc (bH (i:=i) h2 h1) (gc (bR (k:=3) (i:=(i:Int)) (by decide) h2 (kQ3 _) h1) (gc (bC h0) gn))))))))))
theorem aYf{a b:Lqq}{i:Nat}(h0:(a.length:Int)≤(i:Int)):aC Tp 0 wB (iQ a b i) (.exit 0) (iQ a b i):=by
 exact aC.fin (g:=⟨(rng [(2,10),(14,12)]),[],[],[]⟩) (o:=[bF]) (l:=[_]) (by kernel_rfl) (gc (bO h0) gn)
theorem bQx(a b:Lqq)(ha:uni 3 a)(hb:uni 3 b)(hl:a.length≤1000){base:Nat}:FV Tp 51 [.p (fS a),.p (fS b)] base (pB (decide (a=b))) []:=by
 by_cases hlen:a.length=b.length
 ·have eqx:∀ i,i<a.length→∃ x y,a[i]? = some x∧b[i]? = some y∧x.length=3∧y.length=3:=fun i hi =>
   ⟨a[i],b[i],kQ0 hi,kQ0 (by omega),ha _ (gX hi),hb _ (gX (by omega))⟩
  rcases aI.find (P:=Tp) (k:=0) (b:=wB) (fun i=>iQ a b i) (fun i _=>cG (iQ a b i) [(4,.kb false)]) (iQ a b a.length) .ret (.exit 0) (by simp) (by simp) (fun j=>decide (a.getD j []≠b.getD j [])) (List.range a.length)
   (fun i x hx hp=>by
    have hi:i<a.length:=by have:=bD hx;simpa using this
    obtain ⟨y,z,hy,hz,ly,lz⟩:=eqx i hi;obtain ⟨a,b,c,rfl⟩:=len3 ly;obtain ⟨a',b',c',rfl⟩:=len3 lz;have hxi:x=i:=by rw [aNe hi] at hx;exact (Option.some.inj hx).symm
    subst hxi;have he:=of_decide_eq_false hp;simp only [kQ4,hy,hz,Option.getD_some,ne_eq,Classical.not_not] at he
    cases he;exact aYe (by omega) hy ha hz hb ⟨rfl,rfl⟩ (by simp [mQ,aCl]) (aP (by omega)) rfl)
   (fun i x hx hp=>by
    have hi:i<a.length:=by have:=bD hx;simpa using this
    obtain ⟨y,z,hy,hz,ly,lz⟩:=eqx i hi;obtain ⟨a,b,c,rfl⟩:=len3 ly;obtain ⟨a',b',c',rfl⟩:=len3 lz;have hxi:x=i:=by rw [aNe hi] at hx;exact (Option.some.inj hx).symm
    subst hxi;have he:=of_decide_eq_true hp;simp only [kQ4,hy,hz,Option.getD_some] at he
    exact aYd (by omega) hy ha hz hb ⟨rfl,rfl⟩ (by
     rw [Bool.eq_false_iff];intro h;simp [mQ,aCl] at h
     exact he (by simp [h])))
   (by rw [List.length_range];exact aYf (by omega)) with ⟨i,x,h1,h2,h3,h4⟩ | ⟨h1,h2,h3⟩
  ·have hi:i<a.length:=by have:=bD h1;simpa using this
   have hxi:x=i:=by rw [aNe hi] at h1;exact (Option.some.inj h1).symm
   have he:=of_decide_eq_true h3;rw [decide_eq_false (fun e=>he (by rw [e]))]
   exact bQw (by omega) h4
  ·have hall:∀ i,i<a.length→a.getD i []=b.getD i []:=fun i hi=>by
    have:=List.any_eq_false.1 h2 i (vR.2 hi);simpa using this
   have e:a=b:=by
    apply List.ext_getElem hlen;intro i h1 h2;have:=hall i h1;simpa [kQ4,kQ0 h1,kQ0 h2] using this
   rw [decide_eq_true e];exact bQv (by omega) h3
 ·rw [decide_eq_false (fun e=>hlen (by rw [e]))]
  exact bQu (by omega)
def iR(a:List Int)(b:List Int)(i:Nat):St:=⟨fr 26 [(0,(.p (aG a))),(1,(.p (aG b))),(12,(pI (a.length:Int))),(13,(pI (i:Int)))],[]⟩
theorem bQy{a b:List Int}(h0:(a.length:Int)≠(b.length:Int)){base:Nat}:FV Tp 41 [(.p (aG a)),(.p (aG b))] base (pB false) []:=by
 exact FV.fin Tryz.func41 rfl (o:=[bT]) (l:=[_]) (by kernel_rfl) (gc (lQ h0) gn)
theorem bQz{a b:List Int}{i'0:Nat}(h0:(a.length:Int)=(b.length:Int))(hl1:aI Tp 0 wC (iR a b 0) (.exit 0) (iR a b i'0)){base:Nat}:FV Tp 41 [(.p (aG a)),(.p (aG b))] base (pB true) []:=by
 exact FV.fin Tryz.func41 rfl (o:=[bF,.k 4 ⟨(rng [(2,10),(14,12)]),[],[],[]⟩ (.exit 0) (iR a b i'0)]) (l:=[_,_]) (by kernel_rfl) (gc hl1.code (gc (kM h0) gn))
theorem bRa{a b:List Int}{i'0:Nat}(h0:(a.length:Int)=(b.length:Int))(hl1:aI Tp 0 wC (iR a b 0) .ret (cG (iR a b i'0) [(4,(.kb false))])){base:Nat}:FV Tp 41 [(.p (aG a)),(.p (aG b))] base (pB false) []:=by
 exact FV.fin Tryz.func41 rfl (o:=[bF,.k 4 ⟨(rng [(2,10),(14,12)]),[],[],[]⟩ .ret (cG (iR a b i'0) [(4,(.kb false))])]) (l:=[_,_]) (by kernel_rfl) (gc hl1.code (gc (kM h0) gn))
theorem aYg{a b:List Int}{i:Nat}{x100 x101:Int}(h0:(i:Int)<(a.length:Int))(h1:a[i]? = some x100)(h2:b[i]? = some x101)(h3:x100≠x101):aC Tp 0 wC (iR a b i) .ret (cG (iR a b i) [(4,(.kb false))]):=by
 exact aC.fin (g:=⟨(rng [(2,2),(5,7),(14,12)]),[],[],[]⟩) (o:=[bT,.x (aA x100),.x (aA x101),bT]) (l:=[_,_,_,_,_,_]) (by kernel_rfl) (gc (lQ h3) (gc (atm aA h2) (gc (ixn aA h2) (gc (atm aA h1) (gc (ixn aA h1) (gc (bC h0) gn))))))
theorem aYh{a b:List Int}{i:Nat}{x100 x101:Int}{i':Nat}(h0:(i:Int)<(a.length:Int))(h1:a[i]? = some x100)(h2:b[i]? = some x101)(h3:x100=x101)(h4:inR (((i+1):Nat):Int))(ei':i'=(i+1)):aC Tp 0 wC (iR a b i) .normal (iR a b i'):=by
 subst ei';exact aC.fin (g:=⟨(rng [(2,10),(14,12)]),[],[],[]⟩) (o:=[bT,.x (aA x100),.x (aA x101),bF]) (l:=[_,_,_,_,_,_,_]) (by kernel_rfl) (gc h4 (gc (kM h3) (gc (atm aA h2) (gc (ixn aA h2) (gc (atm aA h1) (gc (ixn aA h1) (gc (bC h0) gn)))))))
theorem aYi{a b:List Int}{i:Nat}(h0:(a.length:Int)≤(i:Int)):aC Tp 0 wC (iR a b i) (.exit 0) (iR a b i):=by
 exact aC.fin (g:=⟨(rng [(2,10),(14,12)]),[],[],[]⟩) (o:=[bF]) (l:=[_]) (by kernel_rfl) (gc (bO h0) gn)
theorem bEc(a b:List Int)(hl:a.length≤1000){base:Nat}:FV Tp 41 [.p (aG a),.p (aG b)] base (pB (decide (a=b))) []:=by
 by_cases hlen:a.length=b.length
 ·rcases aI.find (P:=Tp) (k:=0) (b:=wC) (fun i=>iR a b i) (fun i _=>cG (iR a b i) [(4,.kb false)]) (iR a b a.length) .ret (.exit 0) (by simp) (by simp) (fun j=>decide (a.getD j 0≠b.getD j 0)) (List.range a.length)
   (fun i x hx hp=>by
    have hi:i<a.length:=by have:=bD hx;simpa using this
    have hxi:x=i:=by rw [aNe hi] at hx;exact (Option.some.inj hx).symm
    subst hxi;have h1:a[x]? = some (a.getD x 0):=by rw [kQ4,kQ0 hi];rfl
    have h2:b[x]? = some (b.getD x 0):=by rw [kQ4,kQ0 (by omega)];rfl
    have he:=of_decide_eq_false hp;exact aYh (by omega) h1 h2 (Classical.not_not.1 he) (aP (by omega)) rfl)
   (fun i x hx hp=>by
    have hi:i<a.length:=by have:=bD hx;simpa using this
    have hxi:x=i:=by rw [aNe hi] at hx;exact (Option.some.inj hx).symm
    subst hxi;have h1:a[x]? = some (a.getD x 0):=by rw [kQ4,kQ0 hi];rfl
    have h2:b[x]? = some (b.getD x 0):=by rw [kQ4,kQ0 (by omega)];rfl
    exact aYg (by omega) h1 h2 (of_decide_eq_true hp))
   (by rw [List.length_range];exact aYi (by omega)) with ⟨i,x,h1,h2,h3,h4⟩ | ⟨h1,h2,h3⟩
  ·have he:=of_decide_eq_true h3
   rw [decide_eq_false (fun e=>he (by rw [e]))]
   exact bRa (by omega) h4
  ·have hall:∀ i,i<a.length→a.getD i 0=b.getD i 0:=fun i hi=>by
    have:=List.any_eq_false.1 h2 i (vR.2 hi);simpa using this
   have e:a=b:=by
    apply List.ext_getElem hlen;intro i h1 h2;have:=hall i h1
    rwa [kQ4,kQ4,kQ0 h1,kQ0 h2] at this
   rw [decide_eq_true e];exact bQz (by omega) h3
 ·rw [decide_eq_false (fun e=>hlen (by rw [e]))]
  exact bQy (by omega)
theorem aBo{a b c:Int}{base:Nat}:FV Tp 23 [(pI a),(pI b),(pI c)] base (.p (dcE a 0 0 b c 0)) []:=by
 exact FV.fin Tryz.func23 rfl (o:=[]) (l:=[]) (by kernel_rfl) (gn)
theorem iA{a b c d e:Int}{base:Nat}:FV Tp 49 [(pI a),(pI b),(pI c),(pI d),(pI e)] base (.p (dcE a b d 0 e c)) []:=by
 exact FV.fin Tryz.func49 rfl (o:=[]) (l:=[]) (by kernel_rfl) (gn)
end
section
theorem ofO(l:List Int):FMM Tp 17 [.p (.sl l.length (l.map aN))] [] (.ptr 0 0) [some (iJ l 0 17)]:=bTq
def bNa(ns nd:Int)(l:List Int)(nx st:Int)(r:Lqq × Lqq × Int × Int):Prop :=
 cR 30 r.1 r.2.1∧(r.1.length:Int)≤ns∧(r.2.1.length:Int)≤nd∧(0≤r.2.2.1∧r.2.2.1≤4000)∧(r.1.Pairwise fun a b=>a.getD 0 0<b.getD 0 0)∧(r.2.1.Pairwise fun a b=>a.getD 0 0<b.getD 0 0)∧(∀ x∈r.2.1,x.getD 0 0≤80)∧(∀ x∈r.1,x.getD 0 0≤88∧x.getD 1 0≤16000) ∧
  FMM Tp 16 [.ptr 0 0,.p (aA ns),.p (aA nd)] [some (iJ l nx st)] (.p (.agg (cT 30 r.1 r.2.1))) [some (iJ l r.2.2.1 r.2.2.2)]
open Classical in
noncomputable def bCe(ns nd:Int)(l:List Int)(nx st:Int):Lqq × Lqq × Int × Int:=if h:∃ r,bNa ns nd l nx st r then Classical.choose h else ([],[],0,0)
theorem aJu{ns nd:Int}{l:List Int}{nx st:Int}(hns:1≤ns∧ns≤30)(hnd:0≤nd∧nd≤40)(hnx:0≤nx∧nx≤900):bNa ns nd l nx st (bCe ns nd l nx st):=by
 obtain ⟨sk,dc,mx,tt,h⟩:=bNe (ns:=ns) (nd:=nd) (l:=l) (nx:=nx) (st:=st) hns hnd hnx;have hex:∃ r,bNa ns nd l nx st r:=⟨(sk,dc,mx,tt),h⟩;unfold bCe;rw [dif_pos hex];exact Classical.choose_spec hex
theorem bNb{sk dc:Lqq}{nx' st':Int}(ns nd:Int)(l:List Int)(nx st:Int)(h:0≤nx∧nx≤900)(hs:1≤ns∧ns≤30)(hd:0≤nd∧nd≤40)(e:bCe ns nd l nx st=(sk,dc,nx',st')):FMM Tp 16 [.ptr 0 0,.p (aA ns),.p (aA nd)] [some (iJ l nx st)] (.p (.agg (cT 30 sk dc))) [some (iJ l nx' st')]:=by
 have:=(aJu (l:=l) (st:=st) hs hd h).2.2.2.2.2.2.2.2;rw [e] at this
 exact this
end
section

noncomputable abbrev aAt:Code:=sub (cd Tryz.f20) [1,1,0,1,0,0]
noncomputable abbrev aAu:Code:=sub (cd Tryz.f25) [1,0,1,0,0]
def oQ(dc:Lqq)(n:Int)(i:Nat):St:=⟨fr 20 [(2,(pI 0)),(3,(pI n)),(7,(.p (fS dc))),(8,(pI (dc.length:Int))),(9,(pI (i:Int)))],[]⟩
theorem bMs{dl:Int}{sk dc:Lqq}{n'0:Int}{i'1:Nat}{r0:Int}(hl0:aI Tp 0 (sub (cd Tryz.f18) [1,1,0,1,0,0]) (oQ dc (0:Int) 0) (.exit 0) (oQ dc n'0 i'1))(h1:inR (n'0+(1:Int)))(er0:r0=(n'0+(1:Int))){base:Nat}:FV Tp 18 [(.p (.agg (cT dl sk dc)))] base (pI r0) []:=by
 subst er0;exact FV.fin Tryz.func18 rfl (o:=[.k 8 ⟨(rng [(0,2),(4,3),(10,8)]),[],[],[]⟩ (.exit 0) (oQ dc n'0 i'1)]) (l:=[_,_]) (by kernel_rfl) (gc h1 (gc hl0.code gn))
theorem aVa{dc:Lqq}{n:Int}{i:Nat}{y100 y101 y102 y103 y104 y105 n':Int}{i':Nat}(h0:(i:Int)<(dc.length:Int))(h1:dc[i]? = some [y100,y101,y102,y103,y104,y105])(h2:uni 6 dc)(h3:inR (((i+1):Nat):Int))(en':n'=(if y100 > n then y100 else n))(ei':i'=(i+1)):aC Tp 0 (sub (cd Tryz.f18) [1,1,0,1,0,0]) (oQ dc n i) .normal (oQ dc n' i'):=by
 subst en' ei';exact aC.fin (g:=⟨(rng [(0,2),(4,3),(10,8)]),[],[],[]⟩) (o:=[bT,.x (dcE y100 y101 y102 y103 y104 y105)]) (l:=[_,_,_,0≤(i:Int)∧(i:Int)<(dc.length:Int)∧(i*6)<(dc.flatten.map aA).length,_]) (by kernel_rfl) (gc h3 (gc (aU (i:=i) h2 h1) (gc (bH (i:=i) h2 h1) (gc (bR (k:=6) (i:=(i:Int)) (by decide) h2 (kQ3 _) h1) (gc (bC h0) gn)))))
theorem aVb{dc:Lqq}{n:Int}{i:Nat}(h0:(dc.length:Int)≤(i:Int)):aC Tp 0 (sub (cd Tryz.f18) [1,1,0,1,0,0]) (oQ dc n i) (.exit 0) (oQ dc n i):=by
 exact aC.fin (g:=⟨(rng [(0,2),(4,3),(10,8)]),[],[],[]⟩) (o:=[bF]) (l:=[_]) (by kernel_rfl) (gc (bO h0) gn)
def jU(op:List Int)(l:List Int)(i:Nat)(on:Nat)(oc:List PV)(mx:Int)(tt:Int):St:=⟨fr 22 [(0,(.ptr 0 0)),(4,(.p bZ)),(5,(.own 1)),(8,(.p (aG op))),(9,(pI (op.length:Int))),(10,(pI (i:Int)))],[some (.box 129 [(.p (.sl l.length (l.map aN))),(pI mx),(.p (.v (.int .u32 tt)))]),some (.row 3 on oc)]⟩
theorem bMt{op l:List Int}{nx st:Int}{i'0:Nat}{o'1:List Int}{mx'2 tt'3:Int}(hl0:aI Tp 1 aAt (jU op l 0 0 [] nx st) (.exit 0) (jU op l i'0 o'1.length (o'1.map aA) mx'2 tt'3)):FMM Tp 20 [(.ptr 0 0),(.p (aG op))] [some (.box 129 [(.p (.sl l.length (l.map aN))),(pI nx),(.p (.v (.int .u32 st)))])] (.own 1) [some (.box 129 [(.p (.sl l.length (l.map aN))),(pI mx'2),(.p (.v (.int .u32 tt'3)))]),some (.row 3 o'1.length (o'1.map aA))]:=by
 exact FMM.fin (k:=1) (g:=⟨[],[1],[],[]⟩) rfl Tryz.func20 rfl (o:=[.k 8 ⟨(rng [(1,3),(6,2),(11,10)]),[1],[],[(5,3)]⟩ (.exit 0) (jU op l i'0 o'1.length (o'1.map aA) mx'2 tt'3)]) (l:=[_]) (by kernel_rfl) (gc hl0.code gn)
theorem aVc{op l:List Int}{i:Nat}{o:List Int}{mx tt x100:Int}{r101:Bool}{m102 t103:Int}{i':Nat}{o':List Int}(h0:(i:Int)<(op.length:Int))(h1:op[i]? = some x100)(h2:0≤mx∧mx≤1000000000)(h3:gV (2:Int) l mx tt=(r101,m102,t103))(h4:r101=true)(h5:[(aA x100)].length=1*1∧o.length+1≤1000000)(h6:inR (((i+1):Nat):Int))(ei':i'=(i+1))(eo'n:o'.length=(o.length+1))(eo'c:o'.map aA=((o.map aA)++[(aA x100)])):aC Tp 1 aAt (jU op l i o.length (o.map aA) mx tt) .normal (jU op l i' o'.length (o'.map aA) m102 t103):=by
 subst ei';have raw:aC Tp 1 aAt (jU op l i o.length (o.map aA) mx tt) .normal (jU op l (i+1) (o.length+1) ((o.map aA)++[(aA x100)]) m102 t103):=aC.fin (g:=⟨(rng [(1,3),(6,2),(11,10)]),[3],[],[]⟩) (o:=[bT,.x (aA x100),.c (pB r101) [(0,(.box 129 [(.p (.sl l.length (l.map aN))),(pI m102),(.p (.v (.int .u32 t103)))]))],bT]) (l:=[_,_,_,FC Tp 81 [(.ptr 0 0),(pI 2)] [(0,(.box 129 [(.p (.sl l.length (l.map aN))),(pI mx),(.p (.v (.int .u32 tt)))]))] 2 (pB r101) [(0,(.box 129 [(.p (.sl l.length (l.map aN))),(pI m102),(.p (.v (.int .u32 t103)))]))],_,_,_]) (by kernel_rfl) (gc h6 (gc h5 (gc h4 (gc (FMM.fc (ids:=[0]) (rE (2:Int) l mx tt h2 h3) (by kernel_rfl)) (gc (atm aA h1) (gc (ixn aA h1) (gc (bC h0) gn)))))))
 exact raw.cast (by rw [eo'n,eo'c])
theorem aVd{op l:List Int}{i:Nat}{o:List Int}{mx tt x100:Int}{r101:Bool}{m102 t103:Int}{i':Nat}(h0:(i:Int)<(op.length:Int))(h1:op[i]? = some x100)(h2:0≤mx∧mx≤1000000000)(h3:gV (2:Int) l mx tt=(r101,m102,t103))(h4:r101=false)(h5:inR (((i+1):Nat):Int))(ei':i'=(i+1)):aC Tp 1 aAt (jU op l i o.length (o.map aA) mx tt) .normal (jU op l i' o.length (o.map aA) m102 t103):=by
 subst ei';exact aC.fin (g:=⟨(rng [(1,3),(6,2),(11,10)]),[1],[],[]⟩) (o:=[bT,.x (aA x100),.c (pB r101) [(0,(.box 129 [(.p (.sl l.length (l.map aN))),(pI m102),(.p (.v (.int .u32 t103)))]))],bF]) (l:=[_,_,FC Tp 81 [(.ptr 0 0),(pI 2)] [(0,(.box 129 [(.p (.sl l.length (l.map aN))),(pI mx),(.p (.v (.int .u32 tt)))]))] 2 (pB r101) [(0,(.box 129 [(.p (.sl l.length (l.map aN))),(pI m102),(.p (.v (.int .u32 t103)))]))],_,_,_]) (by kernel_rfl) (gc h5 (gc h4 (gc (FMM.fc (ids:=[0]) (rE (2:Int) l mx tt h2 h3) (by kernel_rfl)) (gc (atm aA h1) (gc (ixn aA h1) (gc (bC h0) gn))))))
theorem aVe{op l:List Int}{i:Nat}{o:List Int}{mx tt:Int}(h0:(op.length:Int)≤(i:Int)):aC Tp 1 aAt (jU op l i o.length (o.map aA) mx tt) (.exit 0) (jU op l i o.length (o.map aA) mx tt):=by
 exact aC.fin (g:=⟨(rng [(1,3),(6,2),(11,10)]),[1],[],[]⟩) (o:=[bF]) (l:=[_]) (by kernel_rfl) (gc (bO h0) gn)
theorem bMu{a b:Int}(h0:a≠(-1:Int))(h1:b=(-1:Int)){base:Nat}:FV Tp 22 [(pI a),(pI b)] base (pB true) []:=by
 exact FV.fin Tryz.func22 rfl (o:=[bT,bT,bT,bT,bT,bT,bT,bT,bT]) (l:=[_,_,_,_,_,_,_,_,_]) (by kernel_rfl) (gc (lQ h0) (gc (eO h1) (gc (lQ h0) (g3c (eO h1) (g3c (lQ h0) gn)))))
theorem bMv{a b:Int}{r0:Bool}(h0:a≠(-1:Int))(h1:b≠(-1:Int))(er0:r0=(decide (b > a))){base:Nat}:FV Tp 22 [(pI a),(pI b)] base (pB r0) []:=by
 subst er0;exact FV.fin Tryz.func22 rfl (o:=[bT,bT,bT,bF,bF,bF,bT,bF,bT]) (l:=[_,_,_,_,_,_,_,_,_]) (by kernel_rfl) (gc (lQ h0) (gc (bN h1) (gc (lQ h0) (g3c (bN h1) (g3c (lQ h0) gn)))))
theorem bMw{a b:Int}(h0:a=(-1:Int)){base:Nat}:FV Tp 22 [(pI a),(pI b)] base (pB false) []:=by
 exact FV.fin Tryz.func22 rfl (o:=[bF,bF,bF,bF,bF]) (l:=[_,_,_,_,_]) (by kernel_rfl) (g5c (kM h0) gn)
def gY(L:Lqq)(bib:Int)(i:Nat)(a:Int)(b:Int)(c:Int):St:=⟨fr 20 [(1,(pI bib)),(4,(.ptr 0 0)),(7,(.p (fS L))),(8,(pI (L.length:Int))),(9,(pI (i:Int)))],[some (.box 48 [(pI a),(pI b),(pI c)])]⟩
theorem bMx{L:Lqq}{bib:Int}{i'0:Nat}{a'1 b'2 c'3:Int}(hl0:aI Tp 0 aAu (gY L bib 0 (0:Int) (0:Int) (0:Int)) (.exit 0) (gY L bib i'0 a'1 b'2 c'3)){base:Nat}:FV Tp 25 [(.p (fS L)),(pI bib)] base (.p (.agg [(aA 0),(aA 0),(aA 0)])) []:=by
 exact FV.fin Tryz.func25 rfl (o:=[.k 6 ⟨(rng [(0,1),(2,2),(5,2),(10,9)]),[0],[],[]⟩ (.exit 0) (gY L bib i'0 a'1 b'2 c'3)]) (l:=[_]) (by kernel_rfl) (gc hl0.code gn)
theorem bMy{L:Lqq}{bib:Int}{i'0:Nat}{a'1 b'2 c'3:Int}(hl0:aI Tp 0 aAu (gY L bib 0 (0:Int) (0:Int) (0:Int)) .ret (gY L bib i'0 a'1 b'2 c'3)){base:Nat}:FV Tp 25 [(.p (fS L)),(pI bib)] base (.p (.agg [(aA a'1),(aA b'2),(aA c'3)])) []:=by
 exact FV.fin Tryz.func25 rfl (o:=[.k 6 ⟨(rng [(0,1),(2,2),(5,2),(10,9)]),[0],[],[]⟩ .ret (gY L bib i'0 a'1 b'2 c'3)]) (l:=[_]) (by kernel_rfl) (gc hl0.code gn)
theorem aVf{L:Lqq}{bib:Int}{i:Nat}{a b c y100 y101 y102:Int}(h0:(i:Int)<(L.length:Int))(h1:L[i]? = some [y100,y101,y102])(h2:uni 3 L)(h3:y100=bib):aC Tp 0 aAu (gY L bib i a b c) .ret (gY L bib i y100 y101 y102):=by
 exact aC.fin (g:=⟨(rng [(0,1),(2,2),(5,2),(10,9)]),[0],[],[]⟩) (o:=[bT,.x (.agg [(aA y100),(aA y101),(aA y102)]),bT]) (l:=[_,_,_,0≤(i:Int)∧(i:Int)<(L.length:Int)∧(i*3)<(L.flatten.map aA).length,_]) (by kernel_rfl) (gc (eO h3) (gc (aU (i:=i) h2 h1) (gc (bH (i:=i) h2 h1) (gc (bR (k:=3) (i:=(i:Int)) (by decide) h2 (kQ3 _) h1) (gc (bC h0) gn)))))
theorem aVg{L:Lqq}{bib:Int}{i:Nat}{a b c y100 y101 y102:Int}{i':Nat}(h0:(i:Int)<(L.length:Int))(h1:L[i]? = some [y100,y101,y102])(h2:uni 3 L)(h3:y100≠bib)(h4:inR (((i+1):Nat):Int))(ei':i'=(i+1)):aC Tp 0 aAu (gY L bib i a b c) .normal (gY L bib i' a b c):=by
 subst ei';exact aC.fin (g:=⟨(rng [(0,1),(2,2),(5,2),(10,9)]),[0],[],[]⟩) (o:=[bT,.x (.agg [(aA y100),(aA y101),(aA y102)]),bF]) (l:=[_,_,_,_,0≤(i:Int)∧(i:Int)<(L.length:Int)∧(i*3)<(L.flatten.map aA).length,_]) (by kernel_rfl) (gc h4 (gc (bN h3) (gc (aU (i:=i) h2 h1) (gc (bH (i:=i) h2 h1) (gc (bR (k:=3) (i:=(i:Int)) (by decide) h2 (kQ3 _) h1) (gc (bC h0) gn))))))
theorem aVh{L:Lqq}{bib:Int}{i:Nat}{a b c:Int}(h0:(L.length:Int)≤(i:Int)):aC Tp 0 aAu (gY L bib i a b c) (.exit 0) (gY L bib i a b c):=by
 exact aC.fin (g:=⟨(rng [(0,1),(2,2),(5,2),(10,9)]),[0],[],[]⟩) (o:=[bF]) (l:=[_]) (by kernel_rfl) (gc (bO h0) gn)
theorem bMz{dl:Int}{sk dc mo:Lqq}{r0n:Nat}{r0c:List PV}(h0:uni 2 sk)(h1:sk.length≤1000)(h2:uni 6 dc)(h3:dc.length≤1000)(h4:(mo.flatten.map aA).length=mo.length*6∧dc.length+mo.length≤1000000)(er0n:r0n=(dc.length+mo.length))(er0c:r0c=((dc.flatten.map aA)++(mo.flatten.map aA))){base:Nat}:FV Tp 24 [(.p (.agg (cT dl sk dc))),(.p (fS mo))] base (.p (.agg [(aA dl),(fS sk),(.sl r0n r0c)])) []:=by
 subst er0n er0c;exact FV.frz (FMM.fin (k:=0) (g:=⟨[],[],[4],[]⟩) rfl Tryz.func24 rfl (o:=[.c (.agg [(pI dl),(.p (fS sk)),(.own 2)]) [(2,(.row 44 dc.length (dc.flatten.map aA)))]]) (l:=[_,FC Tp 27 [(.p (.agg (cT dl sk dc)))] [] 2 (.agg [(pI dl),(.p (fS sk)),(.own 2)]) [(2,(.row 44 dc.length (dc.flatten.map aA)))]]) (by kernel_rfl) (gc h4 (gc (FMM.fc (ids:=[]) (bPg dl sk dc h0 h1 h2 h3) (by kernel_rfl)) gn))) (by kernel_rfl)
end
section
def cH(dc:Lqq):Int:=dc.foldl (fun n x=>if x.getD 0 0 > n then x.getD 0 0 else n) 0+1
theorem aUz(dc:Lqq):∀ (n b:Int),n≤b→(∀ x∈dc,x.getD 0 0≤b)→n≤dc.foldl (fun n x=>if x.getD 0 0 > n then x.getD 0 0 else n) n∧dc.foldl (fun n x=>if x.getD 0 0 > n then x.getD 0 0 else n) n≤b∧∀ x∈dc,x.getD 0 0≤dc.foldl (fun n x=>if x.getD 0 0 > n then x.getD 0 0 else n) n:=by
 induction dc with
 | nil=>exact fun n b h _=>⟨aNh _,h,fun x hx=>by cases hx⟩
 | cons y r ih =>
  intro n b h hb;have h1:=hb y (jK ..);rw [sQ];obtain ⟨q1,q2,q3⟩:=ih (if y.getD 0 0 > n then y.getD 0 0 else n) b (by split <;> omega) (fun x hx=>hb x (kQ6 _ hx))
  have hy:n≤(if y.getD 0 0 > n then y.getD 0 0 else n)∧y.getD 0 0≤(if y.getD 0 0 > n then y.getD 0 0 else n):=by split <;> omega
  refine ⟨by omega,q2,fun x hx => ?_⟩
  rcases gO.1 hx with rfl | hx
  ·omega
  ·exact q3 x hx
theorem aAr{dc:Lqq}{b:Int}(h0:0≤b)(hb:∀ x∈dc,x.getD 0 0≤b):1≤cH dc∧cH dc≤b+1∧∀ x∈dc,x.getD 0 0<cH dc:=by
 obtain ⟨q1,q2,q3⟩:=aUz dc 0 b h0 hb;unfold cH;exact ⟨by omega,by omega,fun x hx=>by have:=q3 x hx;omega⟩
theorem bMp(dl:Int)(sk dc:Lqq)(hu:uni 6 dc)(hl:dc.length≤1000)(hb:∀ x∈dc,x.getD 0 0≤9999){base:Nat}:FV Tp 18 [.p (.agg (cT dl sk dc))] base (.p (aA (cH dc))) []:=by
 have hn:=aAr (by omega) hb
 refine bMs (aI.range (P:=Tp) (k:=0) (e := .exit 0) (fun i n=>oQ dc n i) (fun n=>oQ dc n dc.length) (fun n x=>if x.getD 0 0 > n then x.getD 0 0 else n) (fun _ _=>True) (by simp) dc trivial
  (fun i x acc hx _ => ?_) (fun acc _=>aVb (by omega))) (by unfold cH at hn;unfold inR;omega) rfl
 obtain ⟨a,b,c,d,e,f,rfl⟩:=len6 (hu _ (kQ5 hx));have:=bD hx;exact ⟨trivial,aVa (by omega) hx hu (aP (by omega)) rfl rfl⟩
def kN(l:List Int)(a:List Int × Int × Int)(x:Int):List Int × Int × Int:=(if (gV 2 l a.2.1 a.2.2).1 then a.1++[x] else a.1,(gV 2 l a.2.1 a.2.2).2)
def aAs(op l:List Int)(nx st:Int):List Int × Int × Int:=op.foldl (kN l) ([],nx,st)
theorem aJt(l:List Int):∀ (op:List Int) (a:List Int × Int × Int),∃ r,r.Sublist op∧(op.foldl (kN l) a).1=a.1++r∧a.2.1≤(op.foldl (kN l) a).2.1∧(op.foldl (kN l) a).2.1≤a.2.1+(op.length:Int)
 | [],a=>⟨[],.slnil,by simp,by simp,by simp⟩
 | x::op,a=>by
  obtain ⟨r,h1,h2,h3,h4⟩:=aJt l op (kN l a x);have hc:=uG 2 l a.2.1 a.2.2;rw [sQ,pG];have e1:(kN l a x).2.1=(gV 2 l a.2.1 a.2.2).2.1:=rfl;rw [e1] at h3 h4
  cases hb:(gV 2 l a.2.1 a.2.2).1 with
  | true =>
   have e2:(kN l a x).1=a.1++[x]:=by unfold kN;rw [hb];rfl
   rw [e2] at h2
   exact ⟨x::r,List.Sublist.cons_cons x h1,by rw [h2];simp,by omega,by omega⟩
  | false =>
   have e2:(kN l a x).1=a.1:=by unfold kN;rw [hb];rfl
   rw [e2] at h2
   exact ⟨r,h1.cons x,h2,by omega,by omega⟩
theorem aNl(op l:List Int)(nx st:Int):(aAs op l nx st).1.Sublist op∧nx≤(aAs op l nx st).2.1∧(aAs op l nx st).2.1≤nx+(op.length:Int):=by
 obtain ⟨r,h1,h2,h3,h4⟩:=aJt l op ([],nx,st);rw [List.nil_append] at h2
 unfold aAs;rw [h2];exact ⟨h1,h3,h4⟩
theorem bMq{r:List Int}{nx' st':Int}(op l:List Int)(nx st:Int)(h:0≤nx∧nx≤1000000)(hl:op.length≤1000)(e:aAs op l nx st=(r,nx',st')):FMM Tp 20 [.ptr 0 0,.p (aG op)] [some (iJ l nx st)] (.own 1) [some (iJ l nx' st'),some (.row 3 r.length (r.map aA))]:=by
 have hL:=aI.range (P:=Tp) (k:=1) (b:=sub (cd Tryz.f20) [1,1,0,1,0,0]) (e := .exit 0) (fun i (a:List Int × Int × Int)=>jU op l i a.1.length (a.1.map aA) a.2.1 a.2.2) (fun a=>jU op l op.length a.1.length (a.1.map aA) a.2.1 a.2.2) (kN l) (fun i a=>a.1.length≤i∧0≤a.2.1∧a.2.1≤nx+(i:Int)) (by simp) op (a0:=([],nx,st)) ⟨by simp,h.1,by simp⟩
  (fun i x a hx hI=>by
   obtain ⟨h1,h2,h3⟩:=hI;have hi:=bD hx;have hc:=uG 2 l a.2.1 a.2.2;have hs2:(kN l a x).2=(gV 2 l a.2.1 a.2.2).2:=rfl;cases hb:(gV 2 l a.2.1 a.2.2).1 with
   | true =>
    have e2:(kN l a x).1=a.1++[x]:=by unfold kN;rw [hb];rfl
    rw [hs2,e2];exact ⟨⟨by simp;omega,by omega,by omega⟩,aVc (r101:=(gV 2 l a.2.1 a.2.2).1) (by omega) hx (by omega) rfl hb ⟨rfl,by omega⟩ (aP (by omega)) rfl (by simp) (by simp)⟩
   | false =>
    have e2:(kN l a x).1=a.1:=by unfold kN;rw [hb];rfl
    rw [hs2,e2];exact ⟨⟨by omega,by omega,by omega⟩,aVd (r101:=(gV 2 l a.2.1 a.2.2).1) (by omega) hx (by omega) rfl hb (aP (by omega)) rfl⟩)
  (fun a hI=>aVe (by omega))
 have e':op.foldl (kN l) ([],nx,st)=(r,nx',st'):=e;rw [e'] at hL
 exact bMt hL
def yA(a b:Int):Bool:=decide (a ≠ -1∧(b = -1∨b > a))
theorem bCd(a b:Int){base:Nat}:FV Tp 22 [.p (aA a),.p (aA b)] base (.p (blP (yA a b))) []:=by
 by_cases h0:a = -1
 ·rw [show yA a b=false from decide_eq_false fun h=>h.1 h0];exact bMw h0
 ·by_cases h1:b = -1
  ·rw [show yA a b=true from decide_eq_true ⟨h0,.inl h1⟩];exact bMu h0 h1
  ·refine bMv h0 h1 ?_
   unfold yA;rw [decide_eq_decide];simp [h0,h1]
def xK(L:Lqq)(bib:Int):List Int:=(L.find? fun y=>decide (y.getD 0 0=bib)).getD [0,0,0]
theorem aGi{a b c:Int}(L:Lqq)(bib:Int)(hu:uni 3 L)(hl:L.length≤1000)(e:xK L bib=[a,b,c]){base:Nat}:FV Tp 25 [.p (.sl L.length (L.flatten.map aA)),.p (aA bib)] base (.p (.agg [aA a,aA b,aA c])) []:=by
 have key:∀ (d i:Nat),i+d=L.length→(L.drop i).find? (fun y=>decide (y.getD 0 0=bib))=L.find? (fun y=>decide (y.getD 0 0=bib)) →
   (∃ i' y0 y1 y2,L.find? (fun y=>decide (y.getD 0 0=bib))=some [y0,y1,y2]∧aI Tp 0 (sub (cd Tryz.f25) [1,0,1,0,0]) (gY L bib i 0 0 0) .ret (gY L bib i' y0 y1 y2)) ∨
   (∃ i',L.find? (fun y=>decide (y.getD 0 0=bib))=none∧aI Tp 0 (sub (cd Tryz.f25) [1,0,1,0,0]) (gY L bib i 0 0 0) (.exit 0) (gY L bib i' 0 0 0)):=by
  intro d
  induction d with
  | zero =>
   intro i hi hf;refine .inr ⟨i,?_,.exit (aVh (by omega)) (by simp)⟩
   rw [← hf,List.drop_eq_nil_of_le (by omega)];rfl
  | succ d ih =>
   intro i hi hf;have hlt:i<L.length:=by omega
   obtain ⟨y0,y1,y2,hy⟩:=len3 (hu _ (gX hlt));have hx:L[i]? = some [y0,y1,y2]:=by rw [kQ0 hlt,hy]
   have hd:L.drop i=[y0,y1,y2]::L.drop (i+1):=by rw [aUo hlt,hy]
   rw [hd,List.find?_cons] at hf
   by_cases hb:y0=bib
   ·rw [show decide (([y0,y1,y2]:List Int).getD 0 0=bib)=true from decide_eq_true hb] at hf
    exact .inl ⟨i,y0,y1,y2,hf.symm,.exit (aVf (by omega) hx hu hb) (by simp)⟩
   ·rw [show decide (([y0,y1,y2]:List Int).getD 0 0=bib)=false from decide_eq_false hb] at hf
    have hst:=aVg (L:=L) (bib:=bib) (i:=i) (i':=i+1) (a:=0) (b:=0) (c:=0) (by omega) hx hu hb (aP (by omega)) rfl
    rcases ih (i+1) (by omega) hf with ⟨i',z0,z1,z2,q1,q2⟩ | ⟨i',q1,q2⟩
    ·exact .inl ⟨i',z0,z1,z2,q1,.step hst q2⟩
    ·exact .inr ⟨i',q1,.step hst q2⟩
 unfold xK at e
 rcases key L.length 0 (by omega) (by simp) with ⟨i',y0,y1,y2,q1,q2⟩ | ⟨i',q1,q2⟩
 ·rw [q1] at e
  obtain ⟨rfl,rfl,rfl⟩:y0=a∧y1=b∧y2=c:=by simpa using e
  exact bMy q2
 ·rw [q1] at e
  obtain ⟨rfl,rfl,rfl⟩:(0:Int)=a∧(0:Int)=b∧(0:Int)=c:=by simpa using e
  exact bMx q2
theorem bMr(dl:Int)(sk dc mo:Lqq)(h0:uni 2 sk)(h1:sk.length≤1000)(h2:uni 6 dc)(h3:dc.length≤1000)(h4:uni 6 mo)(h5:mo.length≤1000){base:Nat}:FV Tp 24 [.p (.agg (cT dl sk dc)),.p (.sl mo.length (mo.flatten.map aA))] base (.p (.agg (cT dl sk (dc++mo)))) [] :=
 bMz h0 h1 h2 h3 ⟨nO h4,by omega⟩ (by rw [lP]) (by rw [aUp,iG])
end
section
variable {P:Program}
theorem FC.close1{f base id ty n:Nat}{cs:List PV}{args args':List AV}{y:AV}{L:Upd}(h:FC P f args' [] base y L)(ha:fzL id n cs args=args'):FC P f args [(id,.row ty n cs)] base y ((id,.dead)::L):=fun M hb hf h8=>by
 have hoM:=hb _ (jK ..);subst ha;have fre:∀ j,eU M (base+j)=true→eU (aW M id (some .dead)) (base+j)=true:=fun j hj=>by
  have hne:id≠base+j:=fun e=>by
   have:=cK hj;rw [← e] at this
   exact this _ (aZ.1 hoM)
  unfold eU at hj ⊢
  rw [cV,if_neg hne];exact hj
 exact FM.close1 hoM (h _ (fun p hp=>by cases hp) (by have:=fre 0 (by simpa using hf);simpa using this) (fun j hj=>fre j (h8 j hj)))
end
section
variable {dl:Int}{sk dc:Lqq}

noncomputable abbrev wO:Code:=sub (cd Tryz.f58) [1,1,1,1,1,1,1,1,1,0,1,0,1,0,0]
noncomputable abbrev aHs:Code:=sub (cd Tryz.f58) [1,1,1,1,1,1,1,1,1,0,1,0]
noncomputable abbrev aQi:Code:=sub (cd Tryz.f58) [1,1,1,1,1,1,1,1,1,0,1,0,1]
theorem aBy:((0:Int) != (0:Int))=false:=by first | decide | simp
def eX(dl:Int)(sk dc:Lqq)(r:Int)(x:List Int):Int × Bool:=cP dl x (aB dc) (((aB sk).getD (bB (fun x=>decide (r=x)) (aK (aB sk) 0)).toNat []).getD 0 0) (((aB sk).getD (bB (fun x=>decide (r=x)) (aK (aB sk) 0)).toNat []).getD 1 0)
def lY(dl:Int)(sk:Lqq)(dc:Lqq)(num:Int)(r6:Int)  : St:=⟨fr 102 [(3,(.rp [(aA num)] 0)),(4,(.ptr 0 0)),(5,(.ptr 1 0)),(6,(.rp [(PV.rp (aH dl (aB sk) (aB dc)) 0)] 0)),(9,(.rp [(aA r6)] 0)),(10,(.rp [(aA (bB (fun x=>decide (r6=x)) (aK (aB sk) 0)))] 0)),(53,(.fn 182 [] [(.rp [(aG ((aO dl (aB dc)).filter fun n => !(n == num)))] 0)]))],[some (.box 4 [(pB false)]),some (.box 34 [(pI 0)])]⟩
def tF(dl:Int)(sk:Lqq)(dc:Lqq)(num:Int)(r6:Int):St:=⟨fr 102 [(3,(.rp [(aA num)] 0)),(4,(.ptr 0 0)),(5,(.ptr 1 0)),(6,(.rp [(PV.rp (aH dl (aB sk) (aB dc)) 0)] 0)),(9,(.rp [(aA r6)] 0)),(10,(.rp [(aA (bB (fun x=>decide (r6=x)) (aK (aB sk) 0)))] 0)),(53,(.fn 182 [] [(.rp [(aG ((aO dl (aB dc)).filter fun n => !(n == num)))] 0)]))],[some (.box 4 [(pB false)]),some (.box 34 [(pI 0)])]⟩
def aBz(dl:Int)(sk:Lqq)(dc:Lqq)(num:Int)(r6:Int):St:=⟨fr 102 [(3,(.rp [(aA num)] 0)),(4,(.ptr 0 0)),(5,(.ptr 1 0)),(6,(.rp [(PV.rp (aH dl (aB sk) (aB dc)) 0)] 0)),(9,(.rp [(aA r6)] 0)),(10,(.rp [(aA (bB (fun x=>decide (r6=x)) (aK (aB sk) 0)))] 0)),(53,(.fn 182 [] [(.rp [(aG ((aO dl (aB dc)).filter fun n => !(n == num)))] 0)]))],[some (.box 4 [(.kb true)]),some (.box 34 [(pI 0)])]⟩
theorem bTf{num:Int}(h0:cR dl sk dc)(h1:bY (aB dc))(h2:(aO dl (aB dc)).length≤1000)(h3:((aO dl (aB dc)).contains num)=false){base:Nat}:FV Tp 58 [(.p (.agg (cT dl sk dc))),(pI num)] base (.tup [(pB false),(pI 1)]) []:=by
 exact FV.fin Tryz.func58 rfl (o:=[.c (.tup [(.rp (aH dl (aB sk) (aB dc)) 0),(pI 0)]) [],bF,.g 1 ⟨[],[0,2,3],[4,1],[]⟩,.x (PV.rp (aH dl (aB sk) (aB dc)) 0),.c (.own 3) [(3,(.row 3 ((aO dl (aB dc)).length) ((aO dl (aB dc)).map aA)))],.x (aA num),.c (pB ((aO dl (aB dc)).contains num)) [],bT]) (l:=[_,FC Tp 52 [(.own 3),(pI num)] [(3,(.row 3 ((aO dl (aB dc)).length) ((aO dl (aB dc)).map aA)))] 4 (pB ((aO dl (aB dc)).contains num)) [],[(aA num)][0]? = some (aA num),_,[(PV.rp (aH dl (aB sk) (aB dc)) 0)][0]? = some (PV.rp (aH dl (aB sk) (aB dc)) 0),_,_]) (by kernel_rfl) (gc (cA h3) (gc (fv (oR (aO dl (aB dc)) num h2)) (gc rfl (gc (fk 3 (qE (dl:=dl) (sk:=(aB sk)) (dc:=(aB dc)) h1) rfl) (gc rfl (gc aBy (gc (fk 4 (kH dl sk dc h0) rfl) gn)))))))
theorem bTg{num:Int}(h0:cR dl sk dc)(h1:bY (aB dc))(h2:(aO dl (aB dc)).length≤1000)(h3:((aO dl (aB dc)).contains num)=true)(h4:(8:Int)<(((aO dl (aB dc)).length:Nat):Int)){base:Nat}:FV Tp 58 [(.p (.agg (cT dl sk dc))),(pI num)] base (.tup [(pB false),(pI 10)]) []:=by
 exact FV.fin Tryz.func58 rfl (o:=[.c (.tup [(.rp (aH dl (aB sk) (aB dc)) 0),(pI 0)]) [],bF,.g 1 ⟨[],[0,2,3],[4,1],[]⟩,.x (PV.rp (aH dl (aB sk) (aB dc)) 0),.c (.own 3) [(3,(.row 3 ((aO dl (aB dc)).length) ((aO dl (aB dc)).map aA)))],.x (aA num),.c (pB ((aO dl (aB dc)).contains num)) [],bF,bT]) (l:=[_,_,FC Tp 52 [(.own 3),(pI num)] [(3,(.row 3 ((aO dl (aB dc)).length) ((aO dl (aB dc)).map aA)))] 4 (pB ((aO dl (aB dc)).contains num)) [],[(aA num)][0]? = some (aA num),_,[(PV.rp (aH dl (aB sk) (aB dc)) 0)][0]? = some (PV.rp (aH dl (aB sk) (aB dc)) 0),_,_]) (by kernel_rfl) (gc (bC h4) (gc (aX h3) (gc (fv (oR (aO dl (aB dc)) num h2)) (gc rfl (gc (fk 3 (qE (dl:=dl) (sk:=(aB sk)) (dc:=(aB dc)) h1) rfl) (gc rfl (gc aBy (gc (fk 4 (kH dl sk dc h0) rfl) gn))))))))
theorem bTh{num y0 y1 y2 y3 y4 y5 r6:Int}(h0:cR dl sk dc)(h1:bY (aB dc))(h2:(aO dl (aB dc)).length≤1000)(h3:((aO dl (aB dc)).contains num)=true)(h4:(((aO dl (aB dc)).length:Nat):Int)≤8)(h5:cC .i64 (atF (aB dc).reverse) (.int .i64 num))(h6:(dJ (atF (aB dc).reverse) (.int .i64 num))=true)(h7:fB (atF (aB dc).reverse) (.int .i64 num)=some (dcE y0 y1 y2 y3 y4 y5))(h8:bEo dl (aB sk) (aB dc) [y0,y1,y2,y3,y4,y5] r6)(h9:uni 2 (aB sk)∧(aB sk).length≤1000)(h10:(aK (aB sk) 0).length≤1000)(h11:(bB (fun x=>decide (r6=x)) (aK (aB sk) 0))<0){base:Nat}:FV Tp 58 [(.p (.agg (cT dl sk dc))),(pI num)] base (.tup [(pB false),(pI 0)]) []:=by
 exact FV.fin Tryz.func58 rfl (o:=[.c (.tup [(.rp (aH dl (aB sk) (aB dc)) 0),(pI 0)]) [],bF,.g 1 ⟨[],[0,2,3],[4,1],[]⟩,.x (PV.rp (aH dl (aB sk) (aB dc)) 0),.c (.own 3) [(3,(.row 3 ((aO dl (aB dc)).length) ((aO dl (aB dc)).map aA)))],.x (aA num),.c (pB ((aO dl (aB dc)).contains num)) [],bF,bF,.x (PV.rp (aH dl (aB sk) (aB dc)) 0),.x (PV.rp (aH dl (aB sk) (aB dc)) 0),.x (.mp (atF (aB dc).reverse)),.x (aA num),bT,.x (dcE y0 y1 y2 y3 y4 y5),.c (pI r6) [],.x (PV.rp (aH dl (aB sk) (aB dc)) 0),.x (.agg (cT dl (aB sk) (aB dc))),.c (.own 13) [(13,(.row 3 ((aK (aB sk) 0).length) ((aK (aB sk) 0).map aA)))],.c (pI (bB (fun x=>decide (r6=x)) (aK (aB sk) 0))) [],.g 2 ⟨[],[0,1,2,3,13],[12,29],[]⟩,.x (aA (bB (fun x=>decide (r6=x)) (aK (aB sk) 0))),bT]) (l:=[_,[(aA (bB (fun x=>decide (r6=x)) (aK (aB sk) 0)))][0]? = some (aA (bB (fun x=>decide (r6=x)) (aK (aB sk) 0))),FC Tp 126 [(.own 13),(pI r6)] [(13,(.row 3 ((aK (aB sk) 0).length) ((aK (aB sk) 0).map aA)))] 21 (pI (bB (fun x=>decide (r6=x)) (aK (aB sk) 0))) [],_,some (.agg (((aH dl (aB sk) (aB dc)).drop 0).take 3):PV)=some (.agg (cT dl (aB sk) (aB dc))),0+3≤(aH dl (aB sk) (aB dc)).length,[(PV.rp (aH dl (aB sk) (aB dc)) 0)][0]? = some (PV.rp (aH dl (aB sk) (aB dc)) 0),FC Tp 128 [(.rp (aH dl (aB sk) (aB dc)) 0),(.p (dcE y0 y1 y2 y3 y4 y5))] [] 4 (pI r6) [],_,_,_,[(aA num)][0]? = some (aA num),(aH dl (aB sk) (aB dc))[3]? = some (.mp (atF (aB dc).reverse)),[(PV.rp (aH dl (aB sk) (aB dc)) 0)][0]? = some (PV.rp (aH dl (aB sk) (aB dc)) 0),[(PV.rp (aH dl (aB sk) (aB dc)) 0)][0]? = some (PV.rp (aH dl (aB sk) (aB dc)) 0),_,_,FC Tp 52 [(.own 3),(pI num)] [(3,(.row 3 ((aO dl (aB dc)).length) ((aO dl (aB dc)).map aA)))] 4 (pB ((aO dl (aB dc)).contains num)) [],[(aA num)][0]? = some (aA num),_,[(PV.rp (aH dl (aB sk) (aB dc)) 0)][0]? = some (PV.rp (aH dl (aB sk) (aB dc)) 0),_,_]) (by kernel_rfl) (gc (bC h11) (gc rfl (gc (fv (aAz (aK (aB sk) 0) r6 h10)) (gc (fk 13 (mV dl (aB sk) (aB dc) h9) rfl) (gc rfl (gc (by first | decide | simp) (gc rfl (gc (FV.fc (h8 _) rfl) (gc h7 (gc h6 (gc h5 (gc rfl (gc rfl (gc rfl (gc rfl (gc (bO h4) (gc (aX h3) (gc (fv (oR (aO dl (aB dc)) num h2)) (gc rfl (gc (fk 3 (qE (dl:=dl) (sk:=(aB sk)) (dc:=(aB dc)) h1) rfl) (gc rfl (gc aBy (gc (fk 4 (kH dl sk dc h0) rfl) gn)))))))))))))))))))))))
theorem bTi{num y0 y1 y2 y3 y4 y5 r6:Int}(h0:cR dl sk dc)(h1:bY (aB dc))(h2:(aO dl (aB dc)).length≤1000)(h3:((aO dl (aB dc)).contains num)=true)(h4:(((aO dl (aB dc)).length:Nat):Int)≤8)(h5:cC .i64 (atF (aB dc).reverse) (.int .i64 num))(h6:(dJ (atF (aB dc).reverse) (.int .i64 num))=true)(h7:fB (atF (aB dc).reverse) (.int .i64 num)=some (dcE y0 y1 y2 y3 y4 y5))(h8:bEo dl (aB sk) (aB dc) [y0,y1,y2,y3,y4,y5] r6)(h9:uni 2 (aB sk)∧(aB sk).length≤1000)(h10:(aK (aB sk) 0).length≤1000)(h11:(0:Int)≤(bB (fun x=>decide (r6=x)) (aK (aB sk) 0)))(hl12:aC Tp 0 aHs (tF dl sk dc num r6) .normal (lY dl sk dc num r6 )){base:Nat}:FV Tp 58 [(.p (.agg (cT dl sk dc))),(pI num)] base (.tup [(pB false),(pI 0)]) []:=by
 exact FV.fin Tryz.func58 rfl (o:=[.c (.tup [(.rp (aH dl (aB sk) (aB dc)) 0),(pI 0)]) [],bF,.g 1 ⟨[],[0,2,3],[4,1],[]⟩,.x (PV.rp (aH dl (aB sk) (aB dc)) 0),.c (.own 3) [(3,(.row 3 ((aO dl (aB dc)).length) ((aO dl (aB dc)).map aA)))],.x (aA num),.c (pB ((aO dl (aB dc)).contains num)) [],bF,bF,.x (PV.rp (aH dl (aB sk) (aB dc)) 0),.x (PV.rp (aH dl (aB sk) (aB dc)) 0),.x (.mp (atF (aB dc).reverse)),.x (aA num),bT,.x (dcE y0 y1 y2 y3 y4 y5),.c (pI r6) [],.x (PV.rp (aH dl (aB sk) (aB dc)) 0),.x (.agg (cT dl (aB sk) (aB dc))),.c (.own 13) [(13,(.row 3 ((aK (aB sk) 0).length) ((aK (aB sk) 0).map aA)))],.c (pI (bB (fun x=>decide (r6=x)) (aK (aB sk) 0))) [],.g 2 ⟨[],[0,1,2,3,13],[12,29],[]⟩,.x (aA (bB (fun x=>decide (r6=x)) (aK (aB sk) 0))),bF,.c (.p (aG ((aO dl (aB dc)).filter fun n => !(n == num)))) [(3,.dead)],.c (.fn 182 [] [(.rp [(aG ((aO dl (aB dc)).filter fun n => !(n == num)))] 0)]) [],.k 1 ⟨(rng [(0,3),(7,2),(11,42),(54,48)]),[1,2],[],[]⟩ .normal (lY dl sk dc num r6 )]) (l:=[aC Tp 0 aHs (tF dl sk dc num r6) .normal (lY dl sk dc num r6 ),FC Tp 132 [(.p (aG ((aO dl (aB dc)).filter fun n => !(n == num))))] [] 5 (.fn 182 [] [(.rp [(aG ((aO dl (aB dc)).filter fun n => !(n == num)))] 0)]) [],FC Tp 54 [(.own 3),(.fn 133 [] [(.rp [(aA num)] 0)])] [(3,(.row 3 ((aO dl (aB dc)).length) ((aO dl (aB dc)).map aA)))] 5 (.p (aG ((aO dl (aB dc)).filter fun n => !(n == num)))) [(3,.dead)],_,[(aA (bB (fun x=>decide (r6=x)) (aK (aB sk) 0)))][0]? = some (aA (bB (fun x=>decide (r6=x)) (aK (aB sk) 0))),FC Tp 126 [(.own 13),(pI r6)] [(13,(.row 3 ((aK (aB sk) 0).length) ((aK (aB sk) 0).map aA)))] 21 (pI (bB (fun x=>decide (r6=x)) (aK (aB sk) 0))) [],_,some (.agg (((aH dl (aB sk) (aB dc)).drop 0).take 3):PV)=some (.agg (cT dl (aB sk) (aB dc))),0+3≤(aH dl (aB sk) (aB dc)).length,[(PV.rp (aH dl (aB sk) (aB dc)) 0)][0]? = some (PV.rp (aH dl (aB sk) (aB dc)) 0),FC Tp 128 [(.rp (aH dl (aB sk) (aB dc)) 0),(.p (dcE y0 y1 y2 y3 y4 y5))] [] 4 (pI r6) [],_,_,_,[(aA num)][0]? = some (aA num),(aH dl (aB sk) (aB dc))[3]? = some (.mp (atF (aB dc).reverse)),[(PV.rp (aH dl (aB sk) (aB dc)) 0)][0]? = some (PV.rp (aH dl (aB sk) (aB dc)) 0),[(PV.rp (aH dl (aB sk) (aB dc)) 0)][0]? = some (PV.rp (aH dl (aB sk) (aB dc)) 0),_,_,FC Tp 52 [(.own 3),(pI num)] [(3,(.row 3 ((aO dl (aB dc)).length) ((aO dl (aB dc)).map aA)))] 4 (pB ((aO dl (aB dc)).contains num)) [],[(aA num)][0]? = some (aA num),_,[(PV.rp (aH dl (aB sk) (aB dc)) 0)][0]? = some (PV.rp (aH dl (aB sk) (aB dc)) 0),_,_]) (by kernel_rfl) (gc hl12 (gc (FV.fc (aPe (q:=((aO dl (aB dc)).filter fun n => !(n == num)))) rfl) (gc (FMM.fc (ids:=[3]) (bEm (l:=(aO dl (aB dc))) (m:=num) h2 (fun _ _=>rfl)) (by kernel_rfl)) (gc (bO h11) (gc rfl (gc (fv (aAz (aK (aB sk) 0) r6 h10)) (gc (fk 13 (mV dl (aB sk) (aB dc) h9) rfl) (gc rfl (gc (by first | decide | simp) (gc rfl (gc (FV.fc (h8 _) rfl) (gc h7 (gc h6 (gc h5 (gc rfl (gc rfl (gc rfl (gc rfl (gc (bO h4) (gc (aX h3) (gc (fv (oR (aO dl (aB dc)) num h2)) (gc rfl (gc (fk 3 (qE (dl:=dl) (sk:=(aB sk)) (dc:=(aB dc)) h1) rfl) (gc rfl (gc aBy (gc (fk 4 (kH dl sk dc h0) rfl) gn))))))))))))))))))))))))))
theorem bTj{num y0 y1 y2 y3 y4 y5 r6:Int}(h0:cR dl sk dc)(h1:bY (aB dc))(h2:(aO dl (aB dc)).length≤1000)(h3:((aO dl (aB dc)).contains num)=true)(h4:(((aO dl (aB dc)).length:Nat):Int)≤8)(h5:cC .i64 (atF (aB dc).reverse) (.int .i64 num))(h6:(dJ (atF (aB dc).reverse) (.int .i64 num))=true)(h7:fB (atF (aB dc).reverse) (.int .i64 num)=some (dcE y0 y1 y2 y3 y4 y5))(h8:bEo dl (aB sk) (aB dc) [y0,y1,y2,y3,y4,y5] r6)(h9:uni 2 (aB sk)∧(aB sk).length≤1000)(h10:(aK (aB sk) 0).length≤1000)(h11:(0:Int)≤(bB (fun x=>decide (r6=x)) (aK (aB sk) 0)))(hl12:aC Tp 0 aHs (tF dl sk dc num r6) .ret (aBz dl sk dc num r6)){base:Nat}:FV Tp 58 [(.p (.agg (cT dl sk dc))),(pI num)] base (.tup [(pB true),(pI 0)]) []:=by
 exact FV.fin Tryz.func58 rfl (o:=[.c (.tup [(.rp (aH dl (aB sk) (aB dc)) 0),(pI 0)]) [],bF,.g 1 ⟨[],[0,2,3],[4,1],[]⟩,.x (PV.rp (aH dl (aB sk) (aB dc)) 0),.c (.own 3) [(3,(.row 3 ((aO dl (aB dc)).length) ((aO dl (aB dc)).map aA)))],.x (aA num),.c (pB ((aO dl (aB dc)).contains num)) [],bF,bF,.x (PV.rp (aH dl (aB sk) (aB dc)) 0),.x (PV.rp (aH dl (aB sk) (aB dc)) 0),.x (.mp (atF (aB dc).reverse)),.x (aA num),bT,.x (dcE y0 y1 y2 y3 y4 y5),.c (pI r6) [],.x (PV.rp (aH dl (aB sk) (aB dc)) 0),.x (.agg (cT dl (aB sk) (aB dc))),.c (.own 13) [(13,(.row 3 ((aK (aB sk) 0).length) ((aK (aB sk) 0).map aA)))],.c (pI (bB (fun x=>decide (r6=x)) (aK (aB sk) 0))) [],.g 2 ⟨[],[0,1,2,3,13],[12,29],[]⟩,.x (aA (bB (fun x=>decide (r6=x)) (aK (aB sk) 0))),bF,.c (.p (aG ((aO dl (aB dc)).filter fun n => !(n == num)))) [(3,.dead)],.c (.fn 182 [] [(.rp [(aG ((aO dl (aB dc)).filter fun n => !(n == num)))] 0)]) [],.k 1 ⟨(rng [(0,3),(7,2),(11,42),(54,48)]),[1,2],[],[]⟩ .ret (aBz dl sk dc num r6)]) (l:=[aC Tp 0 aHs (tF dl sk dc num r6) .ret (aBz dl sk dc num r6),FC Tp 132 [(.p (aG ((aO dl (aB dc)).filter fun n => !(n == num))))] [] 5 (.fn 182 [] [(.rp [(aG ((aO dl (aB dc)).filter fun n => !(n == num)))] 0)]) [],FC Tp 54 [(.own 3),(.fn 133 [] [(.rp [(aA num)] 0)])] [(3,(.row 3 ((aO dl (aB dc)).length) ((aO dl (aB dc)).map aA)))] 5 (.p (aG ((aO dl (aB dc)).filter fun n => !(n == num)))) [(3,.dead)],_,[(aA (bB (fun x=>decide (r6=x)) (aK (aB sk) 0)))][0]? = some (aA (bB (fun x=>decide (r6=x)) (aK (aB sk) 0))),FC Tp 126 [(.own 13),(pI r6)] [(13,(.row 3 ((aK (aB sk) 0).length) ((aK (aB sk) 0).map aA)))] 21 (pI (bB (fun x=>decide (r6=x)) (aK (aB sk) 0))) [],_,some (.agg (((aH dl (aB sk) (aB dc)).drop 0).take 3):PV)=some (.agg (cT dl (aB sk) (aB dc))),0+3≤(aH dl (aB sk) (aB dc)).length,[(PV.rp (aH dl (aB sk) (aB dc)) 0)][0]? = some (PV.rp (aH dl (aB sk) (aB dc)) 0),FC Tp 128 [(.rp (aH dl (aB sk) (aB dc)) 0),(.p (dcE y0 y1 y2 y3 y4 y5))] [] 4 (pI r6) [],_,_,_,[(aA num)][0]? = some (aA num),(aH dl (aB sk) (aB dc))[3]? = some (.mp (atF (aB dc).reverse)),[(PV.rp (aH dl (aB sk) (aB dc)) 0)][0]? = some (PV.rp (aH dl (aB sk) (aB dc)) 0),[(PV.rp (aH dl (aB sk) (aB dc)) 0)][0]? = some (PV.rp (aH dl (aB sk) (aB dc)) 0),_,_,FC Tp 52 [(.own 3),(pI num)] [(3,(.row 3 ((aO dl (aB dc)).length) ((aO dl (aB dc)).map aA)))] 4 (pB ((aO dl (aB dc)).contains num)) [],[(aA num)][0]? = some (aA num),_,[(PV.rp (aH dl (aB sk) (aB dc)) 0)][0]? = some (PV.rp (aH dl (aB sk) (aB dc)) 0),_,_]) (by kernel_rfl) (gc hl12 (gc (FV.fc (aPe (q:=((aO dl (aB dc)).filter fun n => !(n == num)))) rfl) (gc (FMM.fc (ids:=[3]) (bEm (l:=(aO dl (aB dc))) (m:=num) h2 (fun _ _=>rfl)) (by kernel_rfl)) (gc (bO h11) (gc rfl (gc (fv (aAz (aK (aB sk) 0) r6 h10)) (gc (fk 13 (mV dl (aB sk) (aB dc) h9) rfl) (gc rfl (gc (by first | decide | simp) (gc rfl (gc (FV.fc (h8 _) rfl) (gc h7 (gc h6 (gc h5 (gc rfl (gc rfl (gc rfl (gc rfl (gc (bO h4) (gc (aX h3) (gc (fv (oR (aO dl (aB dc)) num h2)) (gc rfl (gc (fk 3 (qE (dl:=dl) (sk:=(aB sk)) (dc:=(aB dc)) h1) rfl) (gc rfl (gc aBy (gc (fk 4 (kH dl sk dc h0) rfl) gn))))))))))))))))))))))))))
def gL(dl:Int)(sk:Lqq)(dc:Lqq)(num:Int)(r6:Int)(x:List Int)  : St:=⟨fr 102 [(3,(.rp [(aA num)] 0)),(4,(.ptr 0 0)),(5,(.ptr 1 0)),(6,(.rp [(PV.rp (aH dl (aB sk) (aB dc)) 0)] 0)),(9,(.rp [(aA r6)] 0)),(10,(.rp [(aA (bB (fun x=>decide (r6=x)) (aK (aB sk) 0)))] 0)),(11,(.own 2)),(53,(.fn 182 [] [(.rp [(aG ((aO dl (aB dc)).filter fun n => !(n == num)))] 0)])),(54,(.own 2))],[some (.box 4 [(pB false)]),some (.box 34 [(pI 0)]),some (.row 3 x.length (x.map aA))]⟩
def aHt(dl:Int)(sk:Lqq)(dc:Lqq)(num:Int)(r6:Int)  : St:=⟨fr 102 [],[some (.box 4 [(.kb true)]),some (.box 34 [(pI 0)]),some .dead]⟩
theorem bAi{num r6:Int}{x:List Int}{y100 y101 n102:Int}{b103:Bool}{T104:Lqb}(hl0:aC Tp 3 wO (gL dl sk dc num r6 x ) .normal (cG (gL dl sk dc num r6 x ) [(12,(pI ((eX dl sk dc r6 x).1))),(13,(pB ((eX dl sk dc r6 x).2)))]))(h1:(aB sk)[(bB (fun x=>decide (r6=x)) (aK (aB sk) 0)).toNat]? = some [y100,y101])(h2:0≤(bB (fun x=>decide (r6=x)) (aK (aB sk) 0)))(h3:uni 2 (aB sk))(h4:[(aA num)].length=1*1∧x.length+1≤1000000)(h5:aCt dl (aB sk) (aB dc) (.sl (x.length+1) ((x.map aA)++[(aA num)])) [y100,y101] n102 b103 ([]:Lqb) T104)(h6:dY [(aA r6),(aA 0),(aA ((eX dl sk dc r6 x).1))] [(0,3,true),(1,3,true),(2,3,true)]=true∧dY [(aA r6),(aA 0),(aA n102)] [(0,3,true),(1,3,true),(2,3,true)]=true)(h7:(mQ [(aA r6),(aA 0),(aA ((eX dl sk dc r6 x).1))] [(aA r6),(aA 0),(aA n102)] [(0,3,true),(1,3,true),(2,3,true)])=false):aC Tp 3 aQi (rfO (lY dl sk dc num r6 ) 54 11 x) .ret (aHt dl sk dc num r6 ):=by
 exact aC.fin (g:=⟨(rng [(0,102)]),[],[],[]⟩) (o:=[.k 2 ⟨(rng [(0,3),(7,2),(12,2),(16,37),(55,16)]),[],[],[]⟩ .normal (cG (gL dl sk dc num r6 x ) [(12,(pI ((eX dl sk dc r6 x).1))),(13,(pB ((eX dl sk dc r6 x).2)))]),.x (PV.rp (aH dl (aB sk) (aB dc)) 0),.x (PV.rp (aH dl (aB sk) (aB dc)) 0),.x (.sl ((aB sk).length) ((aB sk).flatten.map aA)),.x (aA (bB (fun x=>decide (r6=x)) (aK (aB sk) 0))),.x (.agg [(aA y100),(aA y101)]),.x (PV.rp (aH dl (aB sk) (aB dc)) 0),.x (aA num),.c (.agg (kVL 9 10 5 7 11 6)) [(4,.dead),(5,(vB0 dl (aB sk) (aB dc))),(6,(.box 33 [(.p (.sl (x.length+1) ((x.map aA)++[(aA num)])))])),(7,(.box 139 (kVL 9 10 5 7 11 6))),(8,(.mp (aF ([]:Lqb)) 0)),(9,(.box 207 [(.mp 8)])),(10,(vB5 dl (aB sk) (aB dc))),(11,(.box 209 [(.fn 153 [] [(.ptr 5 0),(.ptr 7 0)])]))],.c (.tup [(pI n102),(pB b103)]) [(5,(vB0 dl (aB sk) (aB dc))),(6,(.box 33 [(.p (.sl (x.length+1) ((x.map aA)++[(aA num)])))])),(7,(.box 139 (kVL 9 10 5 7 11 6))),(8,(.mp (aF T104) T104.length)),(9,(.box 207 [(.mp 8)])),(10,(vB5 dl (aB sk) (aB dc))),(11,(.box 209 [(.fn 153 [] [(.ptr 5 0),(.ptr 7 0)])]))],.x (aA r6),.x (aA r6),bT,bT,bT,bT]) (l:=[_,_,_,_,_,[(aA r6)][0]? = some (aA r6),[(aA r6)][0]? = some (aA r6),FC Tp 134 [(.rp (aH dl (aB sk) (aB dc)) 0),(.p (.agg [(aA y100),(aA y101)])),(.agg (kVL 9 10 5 7 11 6))] [(9,(.box 207 [(.mp 8)])),(10,(vB5 dl (aB sk) (aB dc))),(5,(vB0 dl (aB sk) (aB dc))),(7,(.box 139 (kVL 9 10 5 7 11 6))),(11,(.box 209 [(.fn 153 [] [(.ptr 5 0),(.ptr 7 0)])])),(6,(.box 33 [(.p (.sl (x.length+1) ((x.map aA)++[(aA num)])))])),(8,(.mp (aF ([]:Lqb)) 0))] 13 (.tup [(pI n102),(pB b103)]) [(5,(vB0 dl (aB sk) (aB dc))),(6,(.box 33 [(.p (.sl (x.length+1) ((x.map aA)++[(aA num)])))])),(7,(.box 139 (kVL 9 10 5 7 11 6))),(8,(.mp (aF T104) T104.length)),(9,(.box 207 [(.mp 8)])),(10,(vB5 dl (aB sk) (aB dc))),(11,(.box 209 [(.fn 153 [] [(.ptr 5 0),(.ptr 7 0)])]))],FC Tp 87 [(.rp (aH dl (aB sk) (aB dc)) 0),(.own 4)] [(4,(.row 3 (x.length+1) ((x.map aA)++[(aA num)])))] 5 (.agg (kVL 9 10 5 7 11 6)) [(4,.dead),(5,(vB0 dl (aB sk) (aB dc))),(6,(.box 33 [(.p (.sl (x.length+1) ((x.map aA)++[(aA num)])))])),(7,(.box 139 (kVL 9 10 5 7 11 6))),(8,(.mp (aF ([]:Lqb)) 0)),(9,(.box 207 [(.mp 8)])),(10,(vB5 dl (aB sk) (aB dc))),(11,(.box 209 [(.fn 153 [] [(.ptr 5 0),(.ptr 7 0)])]))],_,[(aA num)][0]? = some (aA num),[(PV.rp (aH dl (aB sk) (aB dc)) 0)][0]? = some (PV.rp (aH dl (aB sk) (aB dc)) 0),_,_,0≤(bB (fun x=>decide (r6=x)) (aK (aB sk) 0))∧(bB (fun x=>decide (r6=x)) (aK (aB sk) 0))<(((aB sk).length:Nat):Int)∧((bB (fun x=>decide (r6=x)) (aK (aB sk) 0)).toNat*2)<((aB sk).flatten.map aA).length,[(aA (bB (fun x=>decide (r6=x)) (aK (aB sk) 0)))][0]? = some (aA (bB (fun x=>decide (r6=x)) (aK (aB sk) 0))),(aH dl (aB sk) (aB dc))[1]? = some (.sl ((aB sk).length) ((aB sk).flatten.map aA)),[(PV.rp (aH dl (aB sk) (aB dc)) 0)][0]? = some (PV.rp (aH dl (aB sk) (aB dc)) 0),[(PV.rp (aH dl (aB sk) (aB dc)) 0)][0]? = some (PV.rp (aH dl (aB sk) (aB dc)) 0),aC Tp 3 wO (gL dl sk dc num r6 x ) .normal (cG (gL dl sk dc num r6 x ) [(12,(pI ((eX dl sk dc r6 x).1))),(13,(pB ((eX dl sk dc r6 x).2)))])]) (by kernel_rfl) (g4c (cA h7) (gc h6 (gc rfl (gc rfl (gc (FMM.fc (ids:=[5,6,7,8,9,10,11]) h5 (by kernel_rfl)) (gc (FC.close1 (args':=[(.rp (aH dl (aB sk) (aB dc)) 0),(.p (.sl (x.length+1) ((x.map aA)++[(aA num)])))]) (FMM.fcN (k:=7) rfl (ids:=[]) (oV (dl:=dl) (sk:=(aB sk)) (dc:=(aB dc)) (on:=(x.length+1)) (ol:=((x.map aA)++[(aA num)]))) (by kernel_rfl)) (by kernel_rfl)) (gc h4 (gc rfl (gc rfl (gc (aU (i:=(bB (fun x=>decide (r6=x)) (aK (aB sk) 0)).toNat) h3 h1) (gc (bH (i:=(bB (fun x=>decide (r6=x)) (aK (aB sk) 0)).toNat) h3 h1) (gc (bR (k:=2) (i:=(bB (fun x=>decide (r6=x)) (aK (aB sk) 0))) (by decide) h3 h2 h1) (gc rfl (gc rfl (gc rfl (gc rfl (gc hl0 gn)))))))))))))))))
theorem bAj{num r6:Int}{x:List Int}{y100 y101 n102:Int}{b103:Bool}{T104:Lqb}(hl0:aC Tp 3 wO (gL dl sk dc num r6 x ) .normal (cG (gL dl sk dc num r6 x ) [(12,(pI ((eX dl sk dc r6 x).1))),(13,(pB ((eX dl sk dc r6 x).2)))]))(h1:(aB sk)[(bB (fun x=>decide (r6=x)) (aK (aB sk) 0)).toNat]? = some [y100,y101])(h2:0≤(bB (fun x=>decide (r6=x)) (aK (aB sk) 0)))(h3:uni 2 (aB sk))(h4:[(aA num)].length=1*1∧x.length+1≤1000000)(h5:aCt dl (aB sk) (aB dc) (.sl (x.length+1) ((x.map aA)++[(aA num)])) [y100,y101] n102 b103 ([]:Lqb) T104)(h6:dY [(aA r6),(aA 0),(aA ((eX dl sk dc r6 x).1))] [(0,3,true),(1,3,true),(2,3,true)]=true∧dY [(aA r6),(aA 0),(aA n102)] [(0,3,true),(1,3,true),(2,3,true)]=true)(h7:(mQ [(aA r6),(aA 0),(aA ((eX dl sk dc r6 x).1))] [(aA r6),(aA 0),(aA n102)] [(0,3,true),(1,3,true),(2,3,true)])=true)(h8:(((eX dl sk dc r6 x).2) == b103)=false):aC Tp 3 aQi (rfO (lY dl sk dc num r6 ) 54 11 x) .ret (aHt dl sk dc num r6 ):=by
 exact aC.fin (g:=⟨(rng [(0,102)]),[],[],[]⟩) (o:=[.k 2 ⟨(rng [(0,3),(7,2),(12,2),(16,37),(55,16)]),[],[],[]⟩ .normal (cG (gL dl sk dc num r6 x ) [(12,(pI ((eX dl sk dc r6 x).1))),(13,(pB ((eX dl sk dc r6 x).2)))]),.x (PV.rp (aH dl (aB sk) (aB dc)) 0),.x (PV.rp (aH dl (aB sk) (aB dc)) 0),.x (.sl ((aB sk).length) ((aB sk).flatten.map aA)),.x (aA (bB (fun x=>decide (r6=x)) (aK (aB sk) 0))),.x (.agg [(aA y100),(aA y101)]),.x (PV.rp (aH dl (aB sk) (aB dc)) 0),.x (aA num),.c (.agg (kVL 9 10 5 7 11 6)) [(4,.dead),(5,(vB0 dl (aB sk) (aB dc))),(6,(.box 33 [(.p (.sl (x.length+1) ((x.map aA)++[(aA num)])))])),(7,(.box 139 (kVL 9 10 5 7 11 6))),(8,(.mp (aF ([]:Lqb)) 0)),(9,(.box 207 [(.mp 8)])),(10,(vB5 dl (aB sk) (aB dc))),(11,(.box 209 [(.fn 153 [] [(.ptr 5 0),(.ptr 7 0)])]))],.c (.tup [(pI n102),(pB b103)]) [(5,(vB0 dl (aB sk) (aB dc))),(6,(.box 33 [(.p (.sl (x.length+1) ((x.map aA)++[(aA num)])))])),(7,(.box 139 (kVL 9 10 5 7 11 6))),(8,(.mp (aF T104) T104.length)),(9,(.box 207 [(.mp 8)])),(10,(vB5 dl (aB sk) (aB dc))),(11,(.box 209 [(.fn 153 [] [(.ptr 5 0),(.ptr 7 0)])]))],.x (aA r6),.x (aA r6),bF,bF,bF,bF,bT]) (l:=[_,_,_,_,_,_,[(aA r6)][0]? = some (aA r6),[(aA r6)][0]? = some (aA r6),FC Tp 134 [(.rp (aH dl (aB sk) (aB dc)) 0),(.p (.agg [(aA y100),(aA y101)])),(.agg (kVL 9 10 5 7 11 6))] [(9,(.box 207 [(.mp 8)])),(10,(vB5 dl (aB sk) (aB dc))),(5,(vB0 dl (aB sk) (aB dc))),(7,(.box 139 (kVL 9 10 5 7 11 6))),(11,(.box 209 [(.fn 153 [] [(.ptr 5 0),(.ptr 7 0)])])),(6,(.box 33 [(.p (.sl (x.length+1) ((x.map aA)++[(aA num)])))])),(8,(.mp (aF ([]:Lqb)) 0))] 13 (.tup [(pI n102),(pB b103)]) [(5,(vB0 dl (aB sk) (aB dc))),(6,(.box 33 [(.p (.sl (x.length+1) ((x.map aA)++[(aA num)])))])),(7,(.box 139 (kVL 9 10 5 7 11 6))),(8,(.mp (aF T104) T104.length)),(9,(.box 207 [(.mp 8)])),(10,(vB5 dl (aB sk) (aB dc))),(11,(.box 209 [(.fn 153 [] [(.ptr 5 0),(.ptr 7 0)])]))],FC Tp 87 [(.rp (aH dl (aB sk) (aB dc)) 0),(.own 4)] [(4,(.row 3 (x.length+1) ((x.map aA)++[(aA num)])))] 5 (.agg (kVL 9 10 5 7 11 6)) [(4,.dead),(5,(vB0 dl (aB sk) (aB dc))),(6,(.box 33 [(.p (.sl (x.length+1) ((x.map aA)++[(aA num)])))])),(7,(.box 139 (kVL 9 10 5 7 11 6))),(8,(.mp (aF ([]:Lqb)) 0)),(9,(.box 207 [(.mp 8)])),(10,(vB5 dl (aB sk) (aB dc))),(11,(.box 209 [(.fn 153 [] [(.ptr 5 0),(.ptr 7 0)])]))],_,[(aA num)][0]? = some (aA num),[(PV.rp (aH dl (aB sk) (aB dc)) 0)][0]? = some (PV.rp (aH dl (aB sk) (aB dc)) 0),_,_,0≤(bB (fun x=>decide (r6=x)) (aK (aB sk) 0))∧(bB (fun x=>decide (r6=x)) (aK (aB sk) 0))<(((aB sk).length:Nat):Int)∧((bB (fun x=>decide (r6=x)) (aK (aB sk) 0)).toNat*2)<((aB sk).flatten.map aA).length,[(aA (bB (fun x=>decide (r6=x)) (aK (aB sk) 0)))][0]? = some (aA (bB (fun x=>decide (r6=x)) (aK (aB sk) 0))),(aH dl (aB sk) (aB dc))[1]? = some (.sl ((aB sk).length) ((aB sk).flatten.map aA)),[(PV.rp (aH dl (aB sk) (aB dc)) 0)][0]? = some (PV.rp (aH dl (aB sk) (aB dc)) 0),[(PV.rp (aH dl (aB sk) (aB dc)) 0)][0]? = some (PV.rp (aH dl (aB sk) (aB dc)) 0),aC Tp 3 wO (gL dl sk dc num r6 x ) .normal (cG (gL dl sk dc num r6 x ) [(12,(pI ((eX dl sk dc r6 x).1))),(13,(pB ((eX dl sk dc r6 x).2)))])]) (by kernel_rfl) (gc (cA h8) (g4c (aX h7) (gc h6 (gc rfl (gc rfl (gc (FMM.fc (ids:=[5,6,7,8,9,10,11]) h5 (by kernel_rfl)) (gc (FC.close1 (args':=[(.rp (aH dl (aB sk) (aB dc)) 0),(.p (.sl (x.length+1) ((x.map aA)++[(aA num)])))]) (FMM.fcN (k:=7) rfl (ids:=[]) (oV (dl:=dl) (sk:=(aB sk)) (dc:=(aB dc)) (on:=(x.length+1)) (ol:=((x.map aA)++[(aA num)]))) (by kernel_rfl)) (by kernel_rfl)) (gc h4 (gc rfl (gc rfl (gc (aU (i:=(bB (fun x=>decide (r6=x)) (aK (aB sk) 0)).toNat) h3 h1) (gc (bH (i:=(bB (fun x=>decide (r6=x)) (aK (aB sk) 0)).toNat) h3 h1) (gc (bR (k:=2) (i:=(bB (fun x=>decide (r6=x)) (aK (aB sk) 0))) (by decide) h3 h2 h1) (gc rfl (gc rfl (gc rfl (gc rfl (gc hl0 gn))))))))))))))))))
def aQj(dl:Int)(sk:Lqq)(dc:Lqq)(num:Int)(r6:Int)  : St:=⟨fr 102 [(3,(.rp [(aA num)] 0)),(4,(.ptr 0 0)),(5,(.ptr 1 0)),(6,(.rp [(PV.rp (aH dl (aB sk) (aB dc)) 0)] 0)),(9,(.rp [(aA r6)] 0)),(10,(.rp [(aA (bB (fun x=>decide (r6=x)) (aK (aB sk) 0)))] 0)),(53,(.fn 182 [] [(.rp [(aG ((aO dl (aB dc)).filter fun n => !(n == num)))] 0)]))],[some (.box 4 [(pB false)]),some (.box 34 [(pI 0)]),some .dead]⟩
theorem bAk{num r6:Int}{x:List Int}{y100 y101 n102:Int}{b103:Bool}{T104:Lqb}(hl0:aC Tp 3 wO (gL dl sk dc num r6 x ) .normal (cG (gL dl sk dc num r6 x ) [(12,(pI ((eX dl sk dc r6 x).1))),(13,(pB ((eX dl sk dc r6 x).2)))]))(h1:(aB sk)[(bB (fun x=>decide (r6=x)) (aK (aB sk) 0)).toNat]? = some [y100,y101])(h2:0≤(bB (fun x=>decide (r6=x)) (aK (aB sk) 0)))(h3:uni 2 (aB sk))(h4:[(aA num)].length=1*1∧x.length+1≤1000000)(h5:aCt dl (aB sk) (aB dc) (.sl (x.length+1) ((x.map aA)++[(aA num)])) [y100,y101] n102 b103 ([]:Lqb) T104)(h6:dY [(aA r6),(aA 0),(aA ((eX dl sk dc r6 x).1))] [(0,3,true),(1,3,true),(2,3,true)]=true∧dY [(aA r6),(aA 0),(aA n102)] [(0,3,true),(1,3,true),(2,3,true)]=true)(h7:(mQ [(aA r6),(aA 0),(aA ((eX dl sk dc r6 x).1))] [(aA r6),(aA 0),(aA n102)] [(0,3,true),(1,3,true),(2,3,true)])=true)(h8:(((eX dl sk dc r6 x).2) == b103)=true):aC Tp 3 aQi (rfO (lY dl sk dc num r6 ) 54 11 x) .normal (aQj dl sk dc num r6 ):=by
 exact aC.fin (g:=⟨(rng [(0,3),(7,2),(11,42),(54,48)]),[],[],[]⟩) (o:=[.k 2 ⟨(rng [(0,3),(7,2),(12,2),(16,37),(55,16)]),[],[],[]⟩ .normal (cG (gL dl sk dc num r6 x ) [(12,(pI ((eX dl sk dc r6 x).1))),(13,(pB ((eX dl sk dc r6 x).2)))]),.x (PV.rp (aH dl (aB sk) (aB dc)) 0),.x (PV.rp (aH dl (aB sk) (aB dc)) 0),.x (.sl ((aB sk).length) ((aB sk).flatten.map aA)),.x (aA (bB (fun x=>decide (r6=x)) (aK (aB sk) 0))),.x (.agg [(aA y100),(aA y101)]),.x (PV.rp (aH dl (aB sk) (aB dc)) 0),.x (aA num),.c (.agg (kVL 9 10 5 7 11 6)) [(4,.dead),(5,(vB0 dl (aB sk) (aB dc))),(6,(.box 33 [(.p (.sl (x.length+1) ((x.map aA)++[(aA num)])))])),(7,(.box 139 (kVL 9 10 5 7 11 6))),(8,(.mp (aF ([]:Lqb)) 0)),(9,(.box 207 [(.mp 8)])),(10,(vB5 dl (aB sk) (aB dc))),(11,(.box 209 [(.fn 153 [] [(.ptr 5 0),(.ptr 7 0)])]))],.c (.tup [(pI n102),(pB b103)]) [(5,(vB0 dl (aB sk) (aB dc))),(6,(.box 33 [(.p (.sl (x.length+1) ((x.map aA)++[(aA num)])))])),(7,(.box 139 (kVL 9 10 5 7 11 6))),(8,(.mp (aF T104) T104.length)),(9,(.box 207 [(.mp 8)])),(10,(vB5 dl (aB sk) (aB dc))),(11,(.box 209 [(.fn 153 [] [(.ptr 5 0),(.ptr 7 0)])]))],.x (aA r6),.x (aA r6),bF,bF,bF,bF,bF]) (l:=[_,_,_,_,_,_,[(aA r6)][0]? = some (aA r6),[(aA r6)][0]? = some (aA r6),FC Tp 134 [(.rp (aH dl (aB sk) (aB dc)) 0),(.p (.agg [(aA y100),(aA y101)])),(.agg (kVL 9 10 5 7 11 6))] [(9,(.box 207 [(.mp 8)])),(10,(vB5 dl (aB sk) (aB dc))),(5,(vB0 dl (aB sk) (aB dc))),(7,(.box 139 (kVL 9 10 5 7 11 6))),(11,(.box 209 [(.fn 153 [] [(.ptr 5 0),(.ptr 7 0)])])),(6,(.box 33 [(.p (.sl (x.length+1) ((x.map aA)++[(aA num)])))])),(8,(.mp (aF ([]:Lqb)) 0))] 13 (.tup [(pI n102),(pB b103)]) [(5,(vB0 dl (aB sk) (aB dc))),(6,(.box 33 [(.p (.sl (x.length+1) ((x.map aA)++[(aA num)])))])),(7,(.box 139 (kVL 9 10 5 7 11 6))),(8,(.mp (aF T104) T104.length)),(9,(.box 207 [(.mp 8)])),(10,(vB5 dl (aB sk) (aB dc))),(11,(.box 209 [(.fn 153 [] [(.ptr 5 0),(.ptr 7 0)])]))],FC Tp 87 [(.rp (aH dl (aB sk) (aB dc)) 0),(.own 4)] [(4,(.row 3 (x.length+1) ((x.map aA)++[(aA num)])))] 5 (.agg (kVL 9 10 5 7 11 6)) [(4,.dead),(5,(vB0 dl (aB sk) (aB dc))),(6,(.box 33 [(.p (.sl (x.length+1) ((x.map aA)++[(aA num)])))])),(7,(.box 139 (kVL 9 10 5 7 11 6))),(8,(.mp (aF ([]:Lqb)) 0)),(9,(.box 207 [(.mp 8)])),(10,(vB5 dl (aB sk) (aB dc))),(11,(.box 209 [(.fn 153 [] [(.ptr 5 0),(.ptr 7 0)])]))],_,[(aA num)][0]? = some (aA num),[(PV.rp (aH dl (aB sk) (aB dc)) 0)][0]? = some (PV.rp (aH dl (aB sk) (aB dc)) 0),_,_,0≤(bB (fun x=>decide (r6=x)) (aK (aB sk) 0))∧(bB (fun x=>decide (r6=x)) (aK (aB sk) 0))<(((aB sk).length:Nat):Int)∧((bB (fun x=>decide (r6=x)) (aK (aB sk) 0)).toNat*2)<((aB sk).flatten.map aA).length,[(aA (bB (fun x=>decide (r6=x)) (aK (aB sk) 0)))][0]? = some (aA (bB (fun x=>decide (r6=x)) (aK (aB sk) 0))),(aH dl (aB sk) (aB dc))[1]? = some (.sl ((aB sk).length) ((aB sk).flatten.map aA)),[(PV.rp (aH dl (aB sk) (aB dc)) 0)][0]? = some (PV.rp (aH dl (aB sk) (aB dc)) 0),[(PV.rp (aH dl (aB sk) (aB dc)) 0)][0]? = some (PV.rp (aH dl (aB sk) (aB dc)) 0),aC Tp 3 wO (gL dl sk dc num r6 x ) .normal (cG (gL dl sk dc num r6 x ) [(12,(pI ((eX dl sk dc r6 x).1))),(13,(pB ((eX dl sk dc r6 x).2)))])]) (by kernel_rfl) (gc (aX h8) (g4c (aX h7) (gc h6 (gc rfl (gc rfl (gc (FMM.fc (ids:=[5,6,7,8,9,10,11]) h5 (by kernel_rfl)) (gc (FC.close1 (args':=[(.rp (aH dl (aB sk) (aB dc)) 0),(.p (.sl (x.length+1) ((x.map aA)++[(aA num)])))]) (FMM.fcN (k:=7) rfl (ids:=[]) (oV (dl:=dl) (sk:=(aB sk)) (dc:=(aB dc)) (on:=(x.length+1)) (ol:=((x.map aA)++[(aA num)]))) (by kernel_rfl)) (by kernel_rfl)) (gc h4 (gc rfl (gc rfl (gc (aU (i:=(bB (fun x=>decide (r6=x)) (aK (aB sk) 0)).toNat) h3 h1) (gc (bH (i:=(bB (fun x=>decide (r6=x)) (aK (aB sk) 0)).toNat) h3 h1) (gc (bR (k:=2) (i:=(bB (fun x=>decide (r6=x)) (aK (aB sk) 0))) (by decide) h3 h2 h1) (gc rfl (gc rfl (gc rfl (gc rfl (gc hl0 gn))))))))))))))))))
end
section
variable {F:Fence} {n:Nat} {P:Program}
theorem aQh{o:Oper}{a:Act}{next next':Act→World→Prop}{Q Q':Exit→Act→World→Prop}{r:Result Next}(h:o.uponIn F n P a next Q r)
  (hn:∀ v d w',next (({ a with defers:=d }:Act).put o.dst v) w'→next' (({ a with defers:=d }:Act).put o.dst v) w') (hQ:∀ e a' w',e ≠ .normal→Q e a' w'→Q' e a' w') (hL:LetsOut Q→LetsOut Q'):o.uponIn F n P a next' Q' r:=by
 have hn':∀ v w',next (a.put o.dst v) w'→next' (a.put o.dst v) w':=fun v w'=>hn v a.defers w'
 cases r with
 | halt x w' =>
  cases x <;> first | exact hQ _ _ _ (by simp) h | exact h
 | ok nx w' =>
  cases nx with
  | value v=>exact hn' _ _ h
  | skip=>exact hn' _ _ h
  | defer d=>exact hn _ _ _ h
  | enter f us =>
   refine ⟨h.1,h.2.mono ?_⟩;intro e w'' he;cases e with
   | returned v=>exact hn' _ _ he
   | panicked c=>exact hQ _ _ _ (by simp) he
   | outgrown=>exact hL he
  | row r us=>exact ⟨h.1,h.2.mono fun v w'' he=>hn' _ _ he⟩
  | round l f tmps as1 bd =>
   refine ⟨h.1,h.2.mono ?_⟩;intro e w'' he;cases e with
   | returned v=>exact hn' _ _ he
   | panicked c=>exact hQ _ _ _ (by simp) he
   | outgrown=>exact hL he
  | _=>exact h
def Kps(ops:Array Oper)(a0 a:Act):Prop:=∀ i,(∀ o∈ops.toList,o.dst≠some i)→a.tmps.getD i undef=a0.tmps.getD i undef
theorem bAh{ops:Array Oper}{Q Q':Exit→Act→World→Prop}{i:Nat}{K K':Act→World→Prop}{a0 a:Act}{w:World}(h:wpOpIn F n P ops Q i K a w)(ha:Kps ops a0 a)(hK:∀ a' w',Kps ops a0 a'→K a' w'→K' a' w')
  (hQ:∀ e a' w',e ≠ .normal→Q e a' w'→Q' e a' w') (hL:LetsOut Q→LetsOut Q'):wpOpIn F n P ops Q' i K' a w:=by
 unfold wpOpIn at h ⊢
 split
 ·rename_i hi
  simp only [hi] at h
  exact hK _ _ ha h
 ·rename_i o hi
  simp only [hi] at h
  have hm:o∈ops.toList:=by
   obtain ⟨hl,he⟩:=kQ9.1 hi;rw [← he];exact Array.mem_toList_iff.2 (Array.getElem_mem hl)
  have hput:∀ v (d:List Deferred),Kps ops a0 (({ a with defers:=d }:Act).put o.dst v):=fun v d i hd=>by
   rw [nU (a:={ a with defers:=d }) (hd o hm)]
   exact ha i hd
  split at h
  ·rename_i hw
   rw [if_pos hw];exact ⟨h.1,aQh h.2 (fun v d w' hn=>hK _ _ (hput v d) hn) hQ hL⟩
  ·rename_i hw
   rw [if_neg hw];exact ⟨h.1,hK _ _ (hput undef a.defers) h.2⟩
theorem aBx{md:Region.Mode}{ops:Array Oper}{Q:Exit→Act→World→Prop}{a0:Act}:∀ (fuel:Nat) (listed:Array Bool) (a:Act) (w:World),wpAnyIn F n P md ops Q fuel listed a w→Kps ops a0 a →
  wpAnyIn F n P md ops (fun e a' w'=>Q e a' w'∧(e = .normal→Kps ops a0 a')) fuel listed a w
 | 0,listed,a,w,h,ha=>⟨h.1,h.2,fun _=>ha⟩
 | fuel+1,listed,a,w,h,ha=>by
  refine ⟨fun h0=>⟨h.1 h0,fun _=>ha⟩,fun j hj => ?_⟩
  exact bAh (h.2 j hj) ha (fun a' w' hk h'=>aBx fuel _ a' w' h' hk) (fun e a' w' hne hq=>⟨hq,fun he=>absurd he hne⟩) (fun ⟨a',w',hq⟩=>⟨a',w',hq,fun he=>by cases he⟩)
end
section
section
variable {F:Fence} {n:Nat} {P:Program}
def bkD(ds:List Deferred)(a:Act):Act:={ a with defers:=a.defers++ds }
theorem aHr(ds:List Deferred)(a:Act)(d:Option Nat)(v:Value):(bkD ds a).put d v=bkD ds (a.put d v):=by cases d <;> rfl
theorem aBw(ds:List Deferred)(a:Act):(bkD ds a).eval=a.eval:=by funext x;cases x <;> rfl
theorem bAf(ds:List Deferred){o:Oper}{a:Act}{next next':Act→World→Prop}{Q Q':Exit→Act→World→Prop}{r:Result Next}(h:o.uponIn F n P a next Q r)
  (hn:∀ a' w',next a' w'→next' (bkD ds a') w') (hQ:∀ e a' w',Q e a' w'→Q' e (bkD ds a') w') (hL:LetsOut Q→LetsOut Q'):o.uponIn F n P (bkD ds a) next' Q' r:=by
 have hv:∀ v w',next (a.put o.dst v) w'→next' ((bkD ds a).put o.dst v) w':=fun v w' h=>by rw [aHr];exact hn _ _ h
 cases r with
 | halt x w' =>
  cases x <;> first | exact hQ _ _ _ h | exact h
 | ok nx w' =>
  cases nx with
  | value v=>exact hv _ _ h
  | skip=>exact hv _ _ h
  | defer d =>
   have:=hn _ _ h;rw [← aHr] at this
   exact this
  | enter f us =>
   refine ⟨h.1,h.2.mono ?_⟩;intro e w'' he;cases e with
   | returned v=>exact hv _ _ he
   | panicked c=>exact hQ _ _ _ he
   | outgrown=>exact hL he
  | row r us=>exact ⟨h.1,h.2.mono fun v w'' he=>hv _ _ he⟩
  | round l f tmps as1 bd =>
   refine ⟨h.1,h.2.mono ?_⟩;intro e w'' he;cases e with
   | returned v=>exact hv _ _ he
   | panicked c=>exact hQ _ _ _ he
   | outgrown=>exact hL he
  | _=>exact h
theorem bLo(ds:List Deferred){ops:Array Oper}{Q Q':Exit→Act→World→Prop}{i:Nat}{K K':Act→World→Prop}{a:Act}{w:World}(h:wpOpIn F n P ops Q i K a w)(hK:∀ a' w',K a' w'→K' (bkD ds a') w')
  (hQ:∀ e a' w',Q e a' w'→Q' e (bkD ds a') w') (hL:LetsOut Q→LetsOut Q'):wpOpIn F n P ops Q' i K' (bkD ds a) w:=by
 unfold wpOpIn at h ⊢
 split
 ·rename_i hi
  simp only [hi] at h
  exact hK _ _ h
 ·rename_i o hi
  simp only [hi] at h
  have e1:(bkD ds a).tmps=a.tmps:=rfl;rw [e1]
  split at h
  ·rename_i hw
   rw [if_pos hw];refine ⟨by rw [aBw];exact h.1,?_⟩
   rw [aBw];exact bAf ds h.2 hK hQ hL
  ·rename_i hw
   rw [if_neg hw];exact ⟨by rw [aBw];exact h.1,by rw [aHr];exact hK _ _ h.2⟩
theorem aLg(ds:List Deferred){md:Region.Mode}{ops:Array Oper}{Q Q':Exit→Act→World→Prop}(hQ:∀ e a' w',Q e a' w'→Q' e (bkD ds a') w')(hL:LetsOut Q→LetsOut Q'):∀ (fuel:Nat) (listed:Array Bool) (a:Act) (w:World),wpAnyIn F n P md ops Q fuel listed a w→wpAnyIn F n P md ops Q' fuel listed (bkD ds a) w
 | 0,listed,a,w,h=>⟨h.1,hQ _ _ _ h.2⟩
 | fuel+1,listed,a,w,h=>⟨fun h0=>hQ _ _ _ (h.1 h0),fun j hj=>bLo ds (h.2 j hj) (fun a' w' h'=>aLg ds hQ hL fuel _ a' w' h') hQ hL⟩
end
variable {P:Program} {T:TT} {E:Env}
theorem bAg(ds:List Deferred)(hT:∀ t i,T t=some i→cF P t=some i)(hE:kW P E)(hm:P.follows .mixedOrders=true){id:Nat}{ops:Array Oper}{st st':St}{s s':AS}(h:aIb P T E ops true st s=some (st',s'))(g:bA s')
  (C0:Cx) (M0:Mem) (w0:World) (a:Act) (w:World) (hs:Sim P C0 M0 w0 st a w) (ro:Option Nat) (n:Nat):(Code.region id ops true).wpIn (Fen ro) n P (fun e' a' w'=>e'=Ex.normal.toExit∧∃ a2,a'=bkD ds a2∧Sim P C0 M0 w0 st' a2 w'∧Kps ops a a2) (bkD ds a) w:=by
 obtain ⟨_,s1,h1,k1⟩:=aD h;obtain ⟨e1,rfl⟩:=aE h1;obtain ⟨r,s2,h2,k2⟩:=aD k1;obtain ⟨_,s3,h3,k3⟩:=aD k2;obtain ⟨e3,rfl⟩:=aE h3;obtain ⟨rfl,rfl⟩:=aJ k3;obtain ⟨hB,_⟩:=bM e1;obtain ⟨hA,_⟩:=bM e3;obtain ⟨os,hfts,hlex⟩:=pM ops.toList _ (fts:=r.1) (fin:=r.2) h2 g
 replace hB:=vF hB
 unfold Region.lexB at hB
 rw [kQ7] at hB
 have hlen:os.length=ops.toList.length:=by
  have:∀ {l:List Oper} {id:Nat} {st:St} {os:List tL} {fin:St},aIc P T E ops.toList id l st os fin→os.length=l.length:=by
   intro l
   induction l with
   | nil=>intro id st os fin h;cases h;rfl
   | cons o l ih=>intro id st os fin h;cases h with | cons _ _ _ _ q os _ h hr=>simp [ih hr]
  exact this hlex
 have key:nI P T E ops.toList st.m.length (fun k=>os.getD k (.any,[],none)) r.2 ops.toList.length (Array.replicate ops.size false) st:=by
  refine nI.lex ops.toList 0 _ st os (fun j=>by simp) (fun j q hj=>by simp [kQ4,hj]) (fun j hj=>absurd hj (aNf _)) (fun j oj hj hl => ?_) (fun i j _ hij hj => ?_) (by simpa using hB.2) (by simpa [ido] using hlex)
  ·exfalso
   rcases Nat.lt_or_ge j ops.size with h' | h'
   ·simp [h'] at hl
   ·simp [Nat.not_lt.2 h'] at hl
  have hj2:j<os.length:=by
   rw [hlen];obtain ⟨o,ho⟩:=Option.isSome_iff_exists.1 hj;exact (kQ2.1 ho).1
  have:=mE r.1 0 hA i j (zA os[i]) (zA os[j]) hij (by rw [hfts,iO,kQ0 (by omega)];rfl) (by rw [hfts,iO,kQ0 hj2];rfl)
  rw [fZ,fZ] at this
  simp only [kQ4,kQ0 hj2,kQ0 (show i<os.length by omega),Option.getD_some,Array.toArray_toList]
  exact this
 refine wpIn_region_any hm ?_;have:=nI.sound hT hE (C0:=C0) (M0:=M0) (w0:=w0) (ro:=ro) (n:=n) (Q:=fun e' a' w'=>e'=Ex.normal.toExit∧Sim P C0 M0 w0 r.2 a' w') (fun a' w' h'=>⟨rfl,h'⟩) _ _ _ a _ key (hs.drawn (w.drawn+1))
 have h2:=aBx (a0:=a) _ _ _ _ (by simpa using this) (fun _ _=>rfl)
 exact aLg ds (fun e a' w' h=>⟨h.1.1,a',rfl,h.1.2,h.2 h.1.1⟩) (fun ⟨a',w',h⟩=>by cases h.1.1) _ _ _ _ h2

end
section
def aBv(P:Program)(k:Nat)(c:Code)(st:St)(e:Ex)(st':St):Prop:=∀ (C0:Cx) (M0:Mem) (w0:World) (a:Act) (w:World),M0.length≤k→Sim P C0 M0 w0 st a w→∀ (ds:List Deferred) (ro:Option Nat) (n:Nat),c.wpIn (Fen ro) n P (fun e' a' w'=>e'=e.toExit∧∃ a2,a'=bkD ds a2∧Sim P C0 M0 w0 st' a2 w'∧(∀ i,wrR c i=false→a2.tmps.getD i undef=a.tmps.getD i undef)) (bkD ds a) w
noncomputable def bMa(c:Code)(st:St):Ask (Ex × St):=match c with
 | .region _ ops true=>do
  let st' ← aIb Tp tT EO ops true st
  pure (.normal,st')
 | _=>fail
theorem aBv.fin{k:Nat}{c:Code}{st st':St}{e:Ex}{g:Gh}{o:List OI}{l:List Prop}(h:aJp k g (bMa c st (asg o))=some (e,st',l,[]))(gd:bA (out l)):aBv Tp k c st e st':=by
 unfold aJp at h
 split at h
 ·rename_i e1 st1 s hr
  split at h
  ·rename_i st2 hg
   simp only [Option.some.injEq,Prod.mk.injEq] at h
   obtain ⟨rfl,rfl,rfl,hs⟩:=h;unfold bMa at hr
   split at hr
   ·rename_i id ops
    obtain ⟨st3,s1,h1,k1⟩:=aD hr;obtain ⟨he,rfl⟩:=aJ k1;cases he;intro C0 M0 w0 a w hk hsm ds ro n;refine wpIn_mono (bAg ds aEe aEd mixed h1 (fun p hp=>gd p hp) C0 M0 w0 a w hsm ro n) ?_
    rintro e' a' w' ⟨rfl,a2,rfl,h',hkp⟩;exact ⟨rfl,a2,rfl,eI hk hg h',fun i hi=>hkp i fun o ho e=>by
     unfold wrR at hi
     have:=List.any_eq_false.1 hi o ho;rw [e] at this
     exact this (Nat.beq_refl i)⟩
   ·cases hr
  ·cases h
 ·cases h
end
section

theorem bTe{dl:Int}{sk dc:Lqq}{num r6:Int}{x:List Int}{y0 y1 n2:Int}{b3:Bool}{T4:Lqb}(h0:(aB sk)[(bB (fun x=>decide (r6=x)) (aK (aB sk) 0)).toNat]? = some [y0,y1])(h1:0≤(bB (fun x=>decide (r6=x)) (aK (aB sk) 0)))(h2:uni 2 (aB sk))(h3:aCt dl (aB sk) (aB dc) (aG x) [y0,y1] n2 b3 ([]:Lqb) T4):aBv Tp 0 (sub (cd Tryz.f58) [1,1,1,1,1,1,1,1,1,0,1,0,1,0,0]) ⟨fr 102 [(3,(.rp [(aA num)] 0)),(6,(.rp [(PV.rp (aH dl (aB sk) (aB dc)) 0)] 0)),(9,(.rp [(aA r6)] 0)),(10,(.rp [(aA (bB (fun x=>decide (r6=x)) (aK (aB sk) 0)))] 0)),(11,(.p (aG x)))],[]⟩ .normal ⟨fr 102 [(3,(.rp [(aA num)] 0)),(6,(.rp [(PV.rp (aH dl (aB sk) (aB dc)) 0)] 0)),(9,(.rp [(aA r6)] 0)),(10,(.rp [(aA (bB (fun x=>decide (r6=x)) (aK (aB sk) 0)))] 0)),(11,(.p (aG x))),(12,(pI n2)),(13,(pB b3))],[]⟩:=by
 exact aBv.fin (g:=⟨(rng [(0,3),(4,2),(7,2),(14,88)]),[],[],[]⟩) (o:=[.x (PV.rp (aH dl (aB sk) (aB dc)) 0),.x (PV.rp (aH dl (aB sk) (aB dc)) 0),.x (.sl ((aB sk).length) ((aB sk).flatten.map aA)),.x (aA (bB (fun x=>decide (r6=x)) (aK (aB sk) 0))),.x (.agg [(aA y0),(aA y1)]),.x (PV.rp (aH dl (aB sk) (aB dc)) 0),.c gS (vU dl (aB sk) (aB dc) (aG x) ([]:Lqb)),.c (.tup [(pI n2),(pB b3)]) (vU dl (aB sk) (aB dc) (aG x) T4)]) (l:=[FC Tp 134 [(.rp (aH dl (aB sk) (aB dc)) 0),(.p (.agg [(aA y0),(aA y1)])),gS] [(4,(.box 207 [(.mp 3)])),(5,(vB5 dl (aB sk) (aB dc))),(0,(vB0 dl (aB sk) (aB dc))),(2,vB2),(6,vB6),(1,(.box 33 [(.p (aG x))])),(3,(.mp (aF ([]:Lqb)) 0))] 8 (.tup [(pI n2),(pB b3)]) (vU dl (aB sk) (aB dc) (aG x) T4),FC Tp 87 [(.rp (aH dl (aB sk) (aB dc)) 0),(.p (aG x))] [] 0 gS (vU dl (aB sk) (aB dc) (aG x) ([]:Lqb)),[(PV.rp (aH dl (aB sk) (aB dc)) 0)][0]? = some (PV.rp (aH dl (aB sk) (aB dc)) 0),_,_,0≤(bB (fun x=>decide (r6=x)) (aK (aB sk) 0))∧(bB (fun x=>decide (r6=x)) (aK (aB sk) 0))<(((aB sk).length:Nat):Int)∧((bB (fun x=>decide (r6=x)) (aK (aB sk) 0)).toNat*2)<((aB sk).flatten.map aA).length,[(aA (bB (fun x=>decide (r6=x)) (aK (aB sk) 0)))][0]? = some (aA (bB (fun x=>decide (r6=x)) (aK (aB sk) 0))),(aH dl (aB sk) (aB dc))[1]? = some (.sl ((aB sk).length) ((aB sk).flatten.map aA)),[(PV.rp (aH dl (aB sk) (aB dc)) 0)][0]? = some (PV.rp (aH dl (aB sk) (aB dc)) 0),[(PV.rp (aH dl (aB sk) (aB dc)) 0)][0]? = some (PV.rp (aH dl (aB sk) (aB dc)) 0)]) (by kernel_rfl) (gc (FMM.fc (ids:=[0,1,2,3,4,5,6]) h3 (by kernel_rfl)) (gc (FMM.fcN (k:=7) rfl (ids:=[]) (oV (dl:=dl) (sk:=(aB sk)) (dc:=(aB dc)) (on:=x.length) (ol:=(x.map aA))) (by kernel_rfl)) (gc rfl (gc (aU (i:=(bB (fun x=>decide (r6=x)) (aK (aB sk) 0)).toNat) h2 h0) (gc (bH (i:=(bB (fun x=>decide (r6=x)) (aK (aB sk) 0)).toNat) h2 h0) (gc (bR (k:=2) (i:=(bB (fun x=>decide (r6=x)) (aK (aB sk) 0))) (by decide) h2 h1 h0) (gc rfl (gc rfl (gc rfl (gc rfl gn))))))))))
end
end KV
end Go.Proofs
section
namespace Go.Proofs
open Go.RowKit
namespace KV
theorem bFo{P:Program}{C:Cx}{st:St}{a:Act}{w:World}(hS:eC C st.m w st.t a.tmps)(hM:aR P C st.m w)(hp:fJ st.m=true)(hn:aMb st.m) :
  Sim P (cxF fun _=>False) [] { w with heap := #[] } st { a with defers:=[] } w :=
 ⟨C,hS,hM,⟨rfl,rfl,rfl,Nat.zero_le _,fun b hb=>absurd hb (aNf _),fun _ _ h=>by simp at h,fun _ _ h=>by simp at h,fun _ _ h=>by simp at h,fun _ _ b _ _ _ => .inl (Nat.zero_le _),fun _ h=>h.elim,fun b _ => .inr (.inl (Nat.zero_le _))⟩,.nil rfl hn⟩
theorem bAe{P:Program}{C:Cx}{M:Mem}{W W':World}(hM:aR P C M W)(hg:W.grownBy W' none):aR P C M W'∧Fr C M W C M W':=by
 have hsame:∀ b,b<W.heap.size→W'.heap[b]? = W.heap[b]? := fun b hb=>hg.block b hb (fun e=>by cases e)
 have hL:Le C C M M W W':=⟨fun _ o h=>⟨o,h⟩,fun _ _ _ _ _ cs h=>⟨cs,h⟩,fun _ o h o' h' hl=>by rw [h] at h';cases h';exact ⟨hl,rfl,rfl⟩,fun _ h=>h,fun b hb=>hsame b (hM.Fs b hb)⟩
 refine ⟨⟨fun i ty n cs hm => ?_,fun i ty cs hm => ?_,fun i es cl hm => ?_,hM.inj,hM.nF,fun b hb=>kQ8 (hM.Fs b hb) hg.size,fun i o b ho hl hb=>kQ8 (hM.lt i o b ho hl hb) hg.size⟩,
  ⟨hg.os,hg.tape,hg.output,hg.size,fun b hb _=>hsame b hb,fun i o h=>⟨⟨o,h⟩,rfl,rfl⟩,fun _ _ _ _ _ cs h=>⟨cs,h⟩,fun _ o h o' h' hl=>by rw [h] at h';cases h';exact hl,fun i o b ho hl hb => .inr ⟨i,o,ho,hl,hb⟩,fun _ h=>h,fun _ h => .inl h⟩⟩
 ·rcases hM.row _ _ _ _ hm with h4 | ⟨b,arr,inf,q0,q1,q2,q3,q4,q5,q6,q7,q8⟩
  ·exact .inl h4
  ·exact .inr ⟨b,arr,inf,q0,(hsame b (kQ9.1 q1).1).trans q1,q2,q3,q4,q5,q6,fun j hj=>(q7 j hj).mono hL.F hL.fz,q8⟩
 ·obtain ⟨b,arr,q0,q1,q2,q3,q4⟩:=hM.box _ _ _ hm
  exact ⟨b,arr,q0,(hsame b (kQ9.1 q1).1).trans q1,q2,fun j hj=>(q3 j hj).mono hL,q4⟩
 ·obtain ⟨b,arr,q0,q1,q2,q3⟩:=hM.mp _ _ _ hm
  refine ⟨b,arr,q0,(hsame b (kQ9.1 q1).1).trans q1,q2,fun j hj => ?_⟩
  obtain ⟨en,r1,r2,r3,r4⟩:=q3 j hj;exact ⟨en,r1,r2,r3,r4.mono hL.F hL.fz⟩
def bFp(t:List AV)(i:Nat):Bool:=match t[i]? with
 | some .any=>true
 | _=>false
theorem aSt{C:Cx}{M:Mem}{w:World}{v u:Value}(h:Rep C M w (.p (.v v)) u):u=v:=by
 cases h with
 | p _ _ h=>cases h;rfl
theorem bTd{P:Program}{k:Nat}{c:Code}{tA tB:List AV}{S:St}{g:Gh}{i1 i2:Nat}{v1 v2:Value}(hk:aBv P 0 c ⟨tA,[]⟩ .normal ⟨tB,[]⟩)(hg:gh 0 g S=some ⟨tA,[]⟩)(hn:fJ S.m=true)
  (h1:tB[i1]? = some (.p (.v v1))) (h2:tB[i2]? = some (.p (.v v2))) (hne:i1≠i2) (hl:tB.length=S.t.length) (hall:((List.range S.t.length).all fun i => !wrR c i || Nat.beq i i1 || Nat.beq i i2 || bFp S.t i)=true) :
  aC P k c S .normal (cG S [(i1,.p (.v v1)),(i2,.p (.v v2))]):=by
 intro C0 M0 w0 a w hk0 hs ro _ n;obtain ⟨C,hS,hM,hF,hD⟩:=hs;obtain ⟨C1,hS1,hM1,_,_⟩:=eI (dS 0) hg (bFo hS hM hn (dZ hn).2);have hs1:Sim P (C1.with []) [] w ⟨tA,[]⟩ { a with defers:=[] } w:=⟨C1,hS1,hM1,(Fr.refl _ _ _).based [],.nil rfl (dZ (m:=[]) rfl).2⟩
 have:=hk (C1.with []) [] w _ w (dS 0) hs1 a.defers ro n
 refine wpIn_mono this ?_;rintro e' a' w' ⟨rfl,a2,rfl,⟨C2,hS2,hM2,hF2,⟨l2,d1,d2,d3⟩,_⟩,hkp⟩;have hg2:w.grownBy w' none:=aKv hF2;obtain ⟨hM3,hF3⟩:=bAe hM hg2;have hS3:=hS.le (hM.le hF3);refine ⟨rfl,C,⟨?_,fun i hi => ?_⟩,hM3,hF.trans hF3,?_⟩
 ·have e0:=hS2.size
  show a2.tmps.size=((S.t.set i1 _).set i2 _).length;rw [sP,sP];exact e0.trans hl
 ·have hi':i<S.t.length:=by
   have:i<((S.t.set i1 (.p (.v v1))).set i2 (.p (.v v2))).length:=hi
   rwa [sP,sP] at this
  have key:∀ x,((S.t.set i1 (.p (.v v1))).set i2 (.p (.v v2)))[i]? = some x→Rep C S.m w' x (a2.tmps.getD i undef):=by
   intro x hx
   by_cases e2:i2=i
   ·subst e2
    rw [bGl (by rw [sP];exact hi')] at hx
    cases hx;rw [aSt (hS2.at h2)]
    exact .p _ _ (.v _)
   rw [bGm e2] at hx
   by_cases e1:i1=i
   ·subst e1
    rw [bGl hi'] at hx
    cases hx;rw [aSt (hS2.at h1)]
    exact .p _ _ (.v _)
   rw [bGm e1] at hx
   have hc:=gD.1 hall i (vR.2 hi');cases hw:wrR c i with
   | false =>
    rw [hkp i hw];exact hS3.at hx
   | true =>
    have n1:Nat.beq i i1=false:=by
     cases h:Nat.beq i i1 with
     | false=>rfl
     | true=>exact absurd (Nat.eq_of_beq_eq_true h).symm e1
    have n2:Nat.beq i i2=false:=by
     cases h:Nat.beq i i2 with
     | false=>rfl
     | true=>exact absurd (Nat.eq_of_beq_eq_true h).symm e2
    rw [hw,n1,n2] at hc
    have hc:bFp S.t i=true:=hc;unfold bFp at hc
    rw [hx] at hc
    cases x <;> first | exact .any _ | cases hc
  exact key _ (kQ0 hi)
 ·obtain ⟨⟨l,e1,e2,e3⟩,hR⟩:=hD.fr hM .refl hF3
  obtain ⟨⟨l',e1',_,e3'⟩,_⟩:=hD;have hll:l=l':=by
   have:=e1.symm.trans e1';exact (List.map_inj_right (fun x y h=>by simpa [mark] using h)).1 this
  refine ⟨⟨l2++l,?_,?_,?_⟩,hR⟩
  ·show a2.defers++a.defers=_
   rw [d1,e1,iG]
  ·refine List.nodup_append.2 ⟨d2,e2,fun x hx y hy hxy => ?_⟩
   have:=(d3 x hx).2.1;have:=(kQ9.1 (e3' y (hll ▸ hy)).1).1;subst hxy;omega
  ·intro D hD2
   rcases iF.1 hD2 with h | h
   ·exact ⟨(d3 D h).1,gE hF.size (d3 D h).2.1,fun hf=>by
     have:=hM.Fs D hf;have:=(d3 D h).2.1;omega⟩
   ·exact e3 D h
end KV
end Go.Proofs
end
namespace Go.Proofs
namespace KV
section
variable {dl:Int}{sk dc:Lqq}
theorem bLk(l:List Int)(v:Int)(hl:l.length≤1000000){base:Nat}:FV Tp 126 [.p (aG l),.p (aA v)] base (pI (bB (fun x=>decide (v=x)) l)) []:=by
 rcases aI.find (P:=Tp) (k:=0) (b:=(sub (cd Tryz.f126) [1,0,1,0,0])) (fun i=>fV l v i) (fun i _=>cG (fV l v i) [(4,.p (aA (i:Int)))]) (fV l v l.length) .ret (.exit 0) (by simp) (by simp) (fun x=>decide (v=x)) l
  (fun i x hx hp=>aEl (by have:=bD hx;omega) hx (by simpa using hp) (aP (by have:=bD hx;omega)) rfl)
  (fun i x hx hp=>aEk (by have:=bD hx;omega) hx (by simpa using hp))
  (aEm (l:=l) (i:=l.length) (by omega)) with ⟨i,x,h1,h2,h3,h4⟩ | ⟨h1,h2,h3⟩
 ·rw [jS h2];exact bCl h4
 ·rw [jT h1];exact bCk h3
theorem bLl(l:List Int)(v:Int)(hl:l.length≤1000000){base:Nat}:FV Tp 52 [.p (aG l),.p (aA v)] base (pB (l.contains v)) []:=by
 rw [← uJ];exact FV.fin Tryz.func52 rfl (o:=[.c (pI (bB (fun x=>decide (v=x)) l)) []]) (l:=[_]) (by kernel_rfl) (gc (fk 0 (bLk l v hl) rfl) gn)
theorem bLm{l:List Int}(hl:l.length≤1000000)(n:Int):rL (aG l) n (l.contains n):=fun base=>bLl l n hl
def aCy(dl:Int)(sk dc:Lqq)(num r6:Int)(x:List Int):Bool := !(((eX dl sk dc r6 x).1 == (eX dl sk dc r6 (x++[num])).1) && ((eX dl sk dc r6 x).2 == (eX dl sk dc r6 (x++[num])).2))
theorem bUg(r t t':Int):mQ [aA r,aA 0,aA t] [aA r,aA 0,aA t'] [(0,3,true),(1,3,true),(2,3,true)]=(t == t'):=by
 rw [Bool.eq_iff_iff];simp [mQ,aCl]
theorem aSs{r6 y0 y1:Int}(h:(aB sk)[(bB (fun x=>decide (r6=x)) (aK (aB sk) 0)).toNat]? = some [y0,y1])(x:List Int):eX dl sk dc r6 x=cP dl x (aB dc) y0 y1:=by
 have e:(aB sk).getD (bB (fun x=>decide (r6=x)) (aK (aB sk) 0)).toNat []=[y0,y1]:=by
  rw [kQ4,h];rfl
 unfold eX;rw [e];rfl
theorem bFm{dl:Int}{sk dc:Lqq}{num r6:Int}{x:List Int}(hd:bY (aB dc))(hu:uni 2 (aB sk))(hs:∀ s∈aB sk,-1≤s.getD 1 0∧s.getD 1 0≤360000)(hx:x.length≤1000){y0 y1:Int}(h0:(aB sk)[(bB (fun x=>decide (r6=x)) (aK (aB sk) 0)).toNat]? = some [y0,y1])(h1:0≤(bB (fun x=>decide (r6=x)) (aK (aB sk) 0))) :
  aC Tp 3 (sub (cd Tryz.f58) [1,1,1,1,1,1,1,1,1,0,1,0,1,0,0]) (gL dl sk dc num r6 x) .normal (cG (gL dl sk dc num r6 x) [(12,(pI ((eX dl sk dc r6 x).1))),(13,(pB ((eX dl sk dc r6 x).2)))]):=by
 obtain ⟨T',_,hT⟩:=bCu (sk:=aB sk) hd (fun n=>aBd hx n) y0 y1 (hs _ (kQ5 h0)) (T:=[]) cE.nil
 rw [aSs h0];exact bTd (bTe (num:=num) h0 h1 hu hT) (g:=⟨(rng [(0,3),(4,2),(7,2),(12,90)]),[],[2],[]⟩) (by kernel_rfl) rfl (by rfl) (by rfl) (by decide) (by rfl) (by kernel_rfl)
theorem bAc{dl:Int}{sk dc:Lqq}{num r6:Int}{x:List Int}(hd:bY (aB dc))(hu:uni 2 (aB sk))(hs:∀ s∈aB sk,-1≤s.getD 1 0∧s.getD 1 0≤360000)(hx:x.length≤1000){y0 y1:Int}(h0:(aB sk)[(bB (fun x=>decide (r6=x)) (aK (aB sk) 0)).toNat]? = some [y0,y1])(h1:0≤(bB (fun x=>decide (r6=x)) (aK (aB sk) 0))) :
  (aCy dl sk dc num r6 x=false→aC Tp 3 (sub (cd Tryz.f58) [1,1,1,1,1,1,1,1,1,0,1,0,1]) (rfO (lY dl sk dc num r6) 54 11 x) .normal (aQj dl sk dc num r6)) ∧
  (aCy dl sk dc num r6 x=true→aC Tp 3 (sub (cd Tryz.f58) [1,1,1,1,1,1,1,1,1,0,1,0,1]) (rfO (lY dl sk dc num r6) 54 11 x) .ret (aHt dl sk dc num r6)):=by
 have hn:=bFm (dl:=dl) (num:=num) hd hu hs hx h0 h1;obtain ⟨T',_,hT⟩:=bCu (dl:=dl) (sk:=aB sk) hd (fun n=>bLm (l:=x++[num]) (by rw [lP];show x.length+1≤_;omega) n) y0 y1 (hs _ (kQ5 h0)) (T:=[]) cE.nil
 rw [← aSs h0] at hT
 have hov:aG (x++[num]) = .sl (x.length+1) (x.map aA++[aA num]):=by
  show PV.sl (x++[num]).length ((x++[num]).map aA)=_;rw [lP,iG];rfl
 rw [hov] at hT
 have hq:=bUg r6 (eX dl sk dc r6 x).1 (eX dl sk dc r6 (x++[num])).1;unfold aCy;cases ha:((eX dl sk dc r6 x).1 == (eX dl sk dc r6 (x++[num])).1) with
 | false =>
  refine ⟨fun h=>(by cases h),fun _ => ?_⟩
  rw [ha] at hq
  exact bAi hn h0 h1 hu ⟨rfl,by omega⟩ hT ⟨rfl,rfl⟩ hq
 | true =>
  rw [ha] at hq
  cases hb:((eX dl sk dc r6 x).2 == (eX dl sk dc r6 (x++[num])).2) with
  | false =>
   refine ⟨fun h=>(by cases h),fun _ => ?_⟩
   exact bAj hn h0 h1 hu ⟨rfl,by omega⟩ hT ⟨rfl,rfl⟩ hq hb
  | true =>
   refine ⟨fun _ => ?_,fun h=>(by cases h)⟩
   exact bAk hn h0 h1 hu ⟨rfl,by omega⟩ hT ⟨rfl,rfl⟩ hq hb
theorem bAd{num r6:Int}(hd:bY (aB dc))(hu:uni 2 (aB sk))(hs:∀ s∈aB sk,-1≤s.getD 1 0∧s.getD 1 0≤360000){y0 y1:Int}(h0:(aB sk)[(bB (fun x=>decide (r6=x)) (aK (aB sk) 0)).toNat]? = some [y0,y1])(h1:0≤(bB (fun x=>decide (r6=x)) (aK (aB sk) 0)))(ho:((aO dl (aB dc)).filter fun n => !(n == num)).length≤60) :
  ((iZ ((aO dl (aB dc)).filter fun n => !(n == num))).any (aCy dl sk dc num r6)=false→aC Tp 0 (sub (cd Tryz.f58) [1,1,1,1,1,1,1,1,1,0,1,0]) (tF dl sk dc num r6) .normal (lY dl sk dc num r6)) ∧
  ((iZ ((aO dl (aB dc)).filter fun n => !(n == num))).any (aCy dl sk dc num r6)=true→aC Tp 0 (sub (cd Tryz.f58) [1,1,1,1,1,1,1,1,1,0,1,0]) (tF dl sk dc num r6) .ret (aBz dl sk dc num r6)):=by
 have main:=aEt (P:=Tp) (k:=0) (kb:=3) (kk:=2) (g0:=⟨[],[],[],[]⟩) (g1:=⟨[],[],[],[]⟩) (gR:=⟨[],[],[],[]⟩) (tF dl sk dc num r6) (fun _=>lY dl sk dc num r6) (fun _ _=>aQj dl sk dc num r6) (fun _ _=>aHt dl sk dc num r6) (lY dl sk dc num r6).t (aBz dl sk dc num r6).m (fun _=>aCy dl sk dc num r6)
  (cc := sub (cd Tryz.f58) [1, 1, 1, 1, 1, 1, 1, 1, 1, 0, 1, 0]) (gi := 53) (p1 := 54) (d := 11) (id := 14) (ty := 33) (pos := "outcome.go:200") (body := sub (cd Tryz.f58) [1, 1, 1, 1, 1, 1, 1, 1, 1, 0, 1, 0, 1]) (by kernel_rfl)
  rfl (fun _=>rfl) (g := .fn 182 [] [.rp [aG ((aO dl (aB dc)).filter fun n => !(n == num))] 0]) (by rfl) (aEr _ ho) (fun args w=>rfl) (fun _=>rfl) (fun _=>rfl) (fun _ _=>rfl) (fun _ _=>rfl) rfl rfl (fun _=>by show 2<3;omega) (by kernel_rfl) (fun x=>rfl) (by show 2≤2;omega) rfl (by kernel_rfl) (fun pre l=>by kernel_rfl) (fun _ _ _=>by kernel_rfl) (fun pre l _ hx=>bAc hd hu hs hx h0 h1)
 refine ⟨fun h=>main.1 fun pre l hp => ?_,fun h=>main.2 ?_⟩
 ·have:=List.any_eq_false.1 h l (hp.subset (by simp))
  simpa using this
 ·obtain ⟨l,hl,hb⟩:=List.any_eq_true.1 h
  obtain ⟨s,t,e⟩:=List.append_of_mem hl;exact ⟨s,l,⟨t,by rw [e];simp⟩,hb⟩
def bFn(dl:Int)(sk dc:Lqq)(num:Int):Bool × Int :=
 if (aO dl (aB dc)).contains num=false then (false,1) else if 8<(aO dl (aB dc)).length then (false,10) else
 if bB (fun x=>decide (aKt (aB dc) num=x)) (aK (aB sk) 0)<0 then (false,0) else ((iZ ((aO dl (aB dc)).filter fun n => !(n == num))).any (aCy dl sk dc num (aKt (aB dc) num)),0)
theorem bLn{α:Type}{p:α→Bool}{l:List α}(h:0≤bB p l):(bB p l).toNat<l.length:=by
 unfold bB at h ⊢
 cases e:l.findIdx? p with
 | none=>rw [e] at h;simp at h
 | some i =>
  obtain ⟨hi,_⟩:=List.findIdx?_eq_some_iff_getElem.1 e;simpa using hi
theorem bTc(h:cR dl sk dc)(num:Int){base:Nat}:FV Tp 58 [.p (.agg (cT dl sk dc)),.p (aA num)] base (.tup [.p (blP (bFn dl sk dc num).1),.p (aA (bFn dl sk dc num).2)]) []:=by
 have hd:=iK h;obtain ⟨hu,hl,hs,_⟩:=uS h;have hol:(aO dl (aB dc)).length≤1000:=by
  unfold aO;rw [eZ];exact gE (aAk _ _) hd.len
 unfold bFn;cases hc:(aO dl (aB dc)).contains num with
 | false=>exact bTf h hd hol hc
 | true =>
  rw [if_neg (by simp)]
  by_cases h8:8<(aO dl (aB dc)).length
  ·rw [if_pos h8];exact bTg h hd hol hc (by omega)
  ·rw [if_neg h8]
   have hm:num∈aO dl (aB dc):=by simpa using hc
   have hm2:=hm;unfold aO at hm2
   obtain ⟨x,hx,rfl⟩:=dU.1 hm2;have hx:=(aAn.1 hx).1;have hr:=fK hd hx;have hsb:aKt (aB dc) (dN x)=uW (aB dc) x:=by unfold aKt;rw [aSn hd hx]
   obtain ⟨q1,q2⟩:=aPs hd hx;have hk:=uU hd (n:=dN x) (by unfold inR;omega)
   have hab:=lL hd x hx;rw [hsb];obtain ⟨a,b,c,d,e,f,rfl⟩:=len6 (hd.ud x hx);have hf:inR f:=by
    have:=(gP.1 (hd.rng _ hx));unfold inR;simp [dAb] at this hab ⊢;omega
   have hsbj:bEo dl (aB sk) (aB dc) [a,b,c,d,e,f] (uW (aB dc) [a,b,c,d,e,f]):=fun base=>bEz hd hf (.inl hx) hr.2
   have hcl:(aK (aB sk) 0).length≤1000:=by rw [uI];omega
   by_cases h0:bB (fun x=>decide (uW (aB dc) [a,b,c,d,e,f]=x)) (aK (aB sk) 0)<0
   ·rw [if_pos h0]
    exact bTh h hd hol hc (by omega) hk q1 q2 hsbj ⟨hu,by omega⟩ hcl h0
   ·rw [if_neg h0]
    have hi:=bLn (p:=fun x=>decide (uW (aB dc) [a,b,c,d,e,f]=x)) (l:=aK (aB sk) 0) (by omega)
    rw [uI] at hi
    obtain ⟨y0,y1,hy⟩:=at2 hu hi;have hrg:=bAd (dl:=dl) (num:=dN [a,b,c,d,e,f]) hd hu hs hy (by omega) (gE (aAk _ _) (by omega))
    cases hb:(iZ ((aO dl (aB dc)).filter fun n => !(n == dN [a,b,c,d,e,f]))).any (aCy dl sk dc (dN [a,b,c,d,e,f]) (uW (aB dc) [a,b,c,d,e,f])) with
    | false=>exact bTi h hd hol hc (by omega) hk q1 q2 hsbj ⟨hu,by omega⟩ hcl (by omega) (hrg.1 hb)
    | true=>exact bTj h hd hol hc (by omega) hk q1 q2 hsbj ⟨hu,by omega⟩ hcl (by omega) (hrg.2 hb)
end
section

theorem aQf:((0:Int) == (0:Int))=true:=by first | decide | simp
theorem aQg:((0:Int) != (0:Int))=false:=by first | decide | simp
theorem aHq:((3:Int) != (3:Int))=false:=by first | decide | simp
theorem bTa:((15100:Int) == (15100:Int))=true:=by first | decide | simp
abbrev thD:List PV:=[(aA 1),(aA 0),(aA 0),(aA 1),(aA 300),(aA 0),(aA 2),(aA 7),(aA 10),(aA 0),(aA 0),(aA 1),(aA 3),(aA 9),(aA 40),(aA 0),(aA 0),(aA 2),(aA 4),(aA 5),(aA 50),(aA 0),(aA 0),(aA 3),(aA 5),(aA 6),(aA 60),(aA 0),(aA 100),(aA 1)]
abbrev thS:List PV:=[(aA 1),(aA 15000),(aA 2),(aA 15100),(aA 3),(aA 15200)]
abbrev mC:AV:=(.p (.agg [(aA 30),(.sl 3 thS),(.sl 2 [(aA 1),(aA 0),(aA 0),(aA 1),(aA 300),(aA 0),(aA 2),(aA 7),(aA 10),(aA 0),(aA 0),(aA 1)])]))
abbrev bFj:AV:=(.p (.agg [(aA 30),(.sl 3 thS),(.sl 3 [(aA 1),(aA 0),(aA 0),(aA 1),(aA 300),(aA 0),(aA 2),(aA 7),(aA 10),(aA 0),(aA 0),(aA 1),(aA 3),(aA 9),(aA 40),(aA 0),(aA 0),(aA 2)])]))
abbrev bFk:AV:=(.p (.agg [(aA 30),(.sl 3 thS),(.sl 4 [(aA 1),(aA 0),(aA 0),(aA 1),(aA 300),(aA 0),(aA 2),(aA 7),(aA 10),(aA 0),(aA 0),(aA 1),(aA 3),(aA 9),(aA 40),(aA 0),(aA 0),(aA 2),(aA 4),(aA 5),(aA 50),(aA 0),(aA 0),(aA 3)])]))
abbrev bFl:AV:=(.p (.agg [(aA 30),(.sl 3 thS),(.sl 5 [(aA 1),(aA 0),(aA 0),(aA 1),(aA 300),(aA 0),(aA 2),(aA 7),(aA 10),(aA 0),(aA 0),(aA 1),(aA 3),(aA 9),(aA 40),(aA 0),(aA 0),(aA 2),(aA 4),(aA 5),(aA 50),(aA 0),(aA 0),(aA 3),(aA 5),(aA 6),(aA 60),(aA 0),(aA 100),(aA 1)])]))
theorem bLd{r0c:List PV}(h0:0≤(0:Int)∧(0:Int)≤2∧(2:Int)≤5)(er0c:r0c=((thD.drop 0).take (2*(thD.length / 5)))){base:Nat}:FV Tp 88 [(pI 2)] base (.p (.agg [(aA 30),(.sl 3 [(aA 1),(aA 15000),(aA 2),(aA 15100),(aA 3),(aA 15200)]),(.sl 2 r0c)])) []:=by
 subst er0c;exact FV.frz (FMM.fin (k:=0) (g:=⟨[],[],[2,1],[]⟩) rfl Tryz.func88 rfl (o:=[.c (.p (dcE 1 0 0 1 300 0)) [],.c (.p (dcE 2 7 10 0 0 1)) [],.c (.p (dcE 3 9 40 0 0 2)) [],.c (.p (dcE 4 5 50 0 0 3)) [],.c (.p (dcE 5 6 60 0 100 1)) []]) (l:=[_,FC Tp 49 [(pI 5),(pI 6),(pI 1),(pI 60),(pI 100)] [] 1 (.p (dcE 5 6 60 0 100 1)) [],FC Tp 49 [(pI 4),(pI 5),(pI 3),(pI 50),(pI 0)] [] 1 (.p (dcE 4 5 50 0 0 3)) [],FC Tp 49 [(pI 3),(pI 9),(pI 2),(pI 40),(pI 0)] [] 1 (.p (dcE 3 9 40 0 0 2)) [],FC Tp 49 [(pI 2),(pI 7),(pI 1),(pI 10),(pI 0)] [] 1 (.p (dcE 2 7 10 0 0 1)) [],FC Tp 23 [(pI 1),(pI 1),(pI 300)] [] 1 (.p (dcE 1 0 0 1 300 0)) []]) (by kernel_rfl) (gc h0 (gc (FV.fc (iA (a:=(5:Int)) (b:=(6:Int)) (c:=(1:Int)) (d:=(60:Int)) (e:=(100:Int))) rfl) (gc (FV.fc (iA (a:=(4:Int)) (b:=(5:Int)) (c:=(3:Int)) (d:=(50:Int)) (e:=(0:Int))) rfl) (gc (FV.fc (iA (a:=(3:Int)) (b:=(9:Int)) (c:=(2:Int)) (d:=(40:Int)) (e:=(0:Int))) rfl) (gc (FV.fc (iA (a:=(2:Int)) (b:=(7:Int)) (c:=(1:Int)) (d:=(10:Int)) (e:=(0:Int))) rfl) (gc (FV.fc (aBo (a:=(1:Int)) (b:=(1:Int)) (c:=(300:Int))) rfl) gn))))))) (by kernel_rfl)
theorem bLe{r0c:List PV}(h0:0≤(0:Int)∧(0:Int)≤3∧(3:Int)≤5)(er0c:r0c=((thD.drop 0).take (3*(thD.length / 5)))){base:Nat}:FV Tp 88 [(pI 3)] base (.p (.agg [(aA 30),(.sl 3 [(aA 1),(aA 15000),(aA 2),(aA 15100),(aA 3),(aA 15200)]),(.sl 3 r0c)])) []:=by
 subst er0c;exact FV.frz (FMM.fin (k:=0) (g:=⟨[],[],[2,1],[]⟩) rfl Tryz.func88 rfl (o:=[.c (.p (dcE 1 0 0 1 300 0)) [],.c (.p (dcE 2 7 10 0 0 1)) [],.c (.p (dcE 3 9 40 0 0 2)) [],.c (.p (dcE 4 5 50 0 0 3)) [],.c (.p (dcE 5 6 60 0 100 1)) []]) (l:=[_,FC Tp 49 [(pI 5),(pI 6),(pI 1),(pI 60),(pI 100)] [] 1 (.p (dcE 5 6 60 0 100 1)) [],FC Tp 49 [(pI 4),(pI 5),(pI 3),(pI 50),(pI 0)] [] 1 (.p (dcE 4 5 50 0 0 3)) [],FC Tp 49 [(pI 3),(pI 9),(pI 2),(pI 40),(pI 0)] [] 1 (.p (dcE 3 9 40 0 0 2)) [],FC Tp 49 [(pI 2),(pI 7),(pI 1),(pI 10),(pI 0)] [] 1 (.p (dcE 2 7 10 0 0 1)) [],FC Tp 23 [(pI 1),(pI 1),(pI 300)] [] 1 (.p (dcE 1 0 0 1 300 0)) []]) (by kernel_rfl) (gc h0 (gc (FV.fc (iA (a:=(5:Int)) (b:=(6:Int)) (c:=(1:Int)) (d:=(60:Int)) (e:=(100:Int))) rfl) (gc (FV.fc (iA (a:=(4:Int)) (b:=(5:Int)) (c:=(3:Int)) (d:=(50:Int)) (e:=(0:Int))) rfl) (gc (FV.fc (iA (a:=(3:Int)) (b:=(9:Int)) (c:=(2:Int)) (d:=(40:Int)) (e:=(0:Int))) rfl) (gc (FV.fc (iA (a:=(2:Int)) (b:=(7:Int)) (c:=(1:Int)) (d:=(10:Int)) (e:=(0:Int))) rfl) (gc (FV.fc (aBo (a:=(1:Int)) (b:=(1:Int)) (c:=(300:Int))) rfl) gn))))))) (by kernel_rfl)
theorem bLf{r0c:List PV}(h0:0≤(0:Int)∧(0:Int)≤4∧(4:Int)≤5)(er0c:r0c=((thD.drop 0).take (4*(thD.length / 5)))){base:Nat}:FV Tp 88 [(pI 4)] base (.p (.agg [(aA 30),(.sl 3 [(aA 1),(aA 15000),(aA 2),(aA 15100),(aA 3),(aA 15200)]),(.sl 4 r0c)])) []:=by
 subst er0c;exact FV.frz (FMM.fin (k:=0) (g:=⟨[],[],[2,1],[]⟩) rfl Tryz.func88 rfl (o:=[.c (.p (dcE 1 0 0 1 300 0)) [],.c (.p (dcE 2 7 10 0 0 1)) [],.c (.p (dcE 3 9 40 0 0 2)) [],.c (.p (dcE 4 5 50 0 0 3)) [],.c (.p (dcE 5 6 60 0 100 1)) []]) (l:=[_,FC Tp 49 [(pI 5),(pI 6),(pI 1),(pI 60),(pI 100)] [] 1 (.p (dcE 5 6 60 0 100 1)) [],FC Tp 49 [(pI 4),(pI 5),(pI 3),(pI 50),(pI 0)] [] 1 (.p (dcE 4 5 50 0 0 3)) [],FC Tp 49 [(pI 3),(pI 9),(pI 2),(pI 40),(pI 0)] [] 1 (.p (dcE 3 9 40 0 0 2)) [],FC Tp 49 [(pI 2),(pI 7),(pI 1),(pI 10),(pI 0)] [] 1 (.p (dcE 2 7 10 0 0 1)) [],FC Tp 23 [(pI 1),(pI 1),(pI 300)] [] 1 (.p (dcE 1 0 0 1 300 0)) []]) (by kernel_rfl) (gc h0 (gc (FV.fc (iA (a:=(5:Int)) (b:=(6:Int)) (c:=(1:Int)) (d:=(60:Int)) (e:=(100:Int))) rfl) (gc (FV.fc (iA (a:=(4:Int)) (b:=(5:Int)) (c:=(3:Int)) (d:=(50:Int)) (e:=(0:Int))) rfl) (gc (FV.fc (iA (a:=(3:Int)) (b:=(9:Int)) (c:=(2:Int)) (d:=(40:Int)) (e:=(0:Int))) rfl) (gc (FV.fc (iA (a:=(2:Int)) (b:=(7:Int)) (c:=(1:Int)) (d:=(10:Int)) (e:=(0:Int))) rfl) (gc (FV.fc (aBo (a:=(1:Int)) (b:=(1:Int)) (c:=(300:Int))) rfl) gn))))))) (by kernel_rfl)
theorem bLg{r0c:List PV}(h0:0≤(0:Int)∧(0:Int)≤5∧(5:Int)≤5)(er0c:r0c=((thD.drop 0).take (5*(thD.length / 5)))){base:Nat}:FV Tp 88 [(pI 5)] base (.p (.agg [(aA 30),(.sl 3 [(aA 1),(aA 15000),(aA 2),(aA 15100),(aA 3),(aA 15200)]),(.sl 5 r0c)])) []:=by
 subst er0c;exact FV.frz (FMM.fin (k:=0) (g:=⟨[],[],[2,1],[]⟩) rfl Tryz.func88 rfl (o:=[.c (.p (dcE 1 0 0 1 300 0)) [],.c (.p (dcE 2 7 10 0 0 1)) [],.c (.p (dcE 3 9 40 0 0 2)) [],.c (.p (dcE 4 5 50 0 0 3)) [],.c (.p (dcE 5 6 60 0 100 1)) []]) (l:=[_,FC Tp 49 [(pI 5),(pI 6),(pI 1),(pI 60),(pI 100)] [] 1 (.p (dcE 5 6 60 0 100 1)) [],FC Tp 49 [(pI 4),(pI 5),(pI 3),(pI 50),(pI 0)] [] 1 (.p (dcE 4 5 50 0 0 3)) [],FC Tp 49 [(pI 3),(pI 9),(pI 2),(pI 40),(pI 0)] [] 1 (.p (dcE 3 9 40 0 0 2)) [],FC Tp 49 [(pI 2),(pI 7),(pI 1),(pI 10),(pI 0)] [] 1 (.p (dcE 2 7 10 0 0 1)) [],FC Tp 23 [(pI 1),(pI 1),(pI 300)] [] 1 (.p (dcE 1 0 0 1 300 0)) []]) (by kernel_rfl) (gc h0 (gc (FV.fc (iA (a:=(5:Int)) (b:=(6:Int)) (c:=(1:Int)) (d:=(60:Int)) (e:=(100:Int))) rfl) (gc (FV.fc (iA (a:=(4:Int)) (b:=(5:Int)) (c:=(3:Int)) (d:=(50:Int)) (e:=(0:Int))) rfl) (gc (FV.fc (iA (a:=(3:Int)) (b:=(9:Int)) (c:=(2:Int)) (d:=(40:Int)) (e:=(0:Int))) rfl) (gc (FV.fc (iA (a:=(2:Int)) (b:=(7:Int)) (c:=(1:Int)) (d:=(10:Int)) (e:=(0:Int))) rfl) (gc (FV.fc (aBo (a:=(1:Int)) (b:=(1:Int)) (c:=(300:Int))) rfl) gn))))))) (by kernel_rfl)
theorem vB{base:Nat}:FV Tp 88 [.p (aA 2)] base mC []:=bLd (by decide) rfl
theorem bLh{base:Nat}:FV Tp 88 [.p (aA 3)] base bFj []:=bLe (by decide) rfl
theorem bLi{base:Nat}:FV Tp 88 [.p (aA 4)] base bFk []:=bLf (by decide) rfl
theorem bLj{base:Nat}:FV Tp 88 [.p (aA 5)] base bFl []:=bLg (by decide) rfl
theorem bTb(h28_0:∀ base:Nat,FV Tp 28 [mC] base (.tup [(.own base),(pI 0)]) [(base,(.row 48 3 [(aA 2),(aA 1),(aA 15100),(aA 3),(aA 2),(aA 15200),(aA 1),(aA 3),(aA 15300)]))])(h21_1:∀ base:Nat,FV Tp 21 [mC,(.p (.sl 1 [(aA 2)]))] base (.tup [(.own base),(pI 0)]) [(base,(.row 48 3 [(aA 1),(aA 1),(aA 15000),(aA 2),(aA 2),(aA 15100),(aA 3),(aA 3),(aA 15200)]))])(h71_2:∀ base:Nat,FV Tp 71 [mC,(pI 1)] base (.tup [(.p (.sl 2 [(aA 1),(aA 3)])),(pB false),(pI 0)]) [])(h33_3:∀ base:Nat,FV Tp 33 [mC,(pI 2)] base (.tup [(.p (.sl 1 [(aA 2)])),(pI 0)]) [])(h51_4:∀ base:Nat,FV Tp 51 [(.p (.sl 3 [(aA 2),(aA 1),(aA 15100),(aA 3),(aA 2),(aA 15200),(aA 1),(aA 3),(aA 15300)])),(.p (.sl 3 [(aA 2),(aA 1),(aA 15100),(aA 3),(aA 2),(aA 15200),(aA 1),(aA 3),(aA 15300)]))] base (pB true) [])(h5:dY [(aA 1),(aA 1),(aA 15000)] [(0,3,true),(1,3,true),(2,3,true)]=true∧dY [(aA 1),(aA 1),(aA 15000)] [(0,3,true),(1,3,true),(2,3,true)]=true)(h6:(mQ [(aA 1),(aA 1),(aA 15000)] [(aA 1),(aA 1),(aA 15000)] [(0,3,true),(1,3,true),(2,3,true)])=true)(h41_7:∀ base:Nat,FV Tp 41 [(.p (.sl 2 [(aA 1),(aA 3)])),(.p (.sl 2 [(aA 1),(aA 3)]))] base (pB true) [])(h41_8:∀ base:Nat,FV Tp 41 [(.p (.sl 1 [(aA 2)])),(.p (.sl 1 [(aA 2)]))] base (pB true) [])(h19_9:∀ base:Nat,FV Tp 19 [bFj] base (.tup [(.p (.sl 0 [])),(pI 0)]) [])(h19_10:∀ base:Nat,FV Tp 19 [bFk] base (.tup [(.p (.sl 1 [(aA 2)])),(pI 0)]) [])(h61_11:∀ base:Nat,FV Tp 61 [bFl,(pI 1)] base (.tup [(pI 15100),(pB false),(pI 0)]) [])(h58_12:∀ base:Nat,FV Tp 58 [mC,(pI 2)] base (.tup [(pB true),(pI 0)]) []){base:Nat}:FV Tp 26 [] base (pB true) []:=by
 exact FV.fin Tryz.func26 rfl (o:=[.c mC [],.c (.tup [(.own 0),(pI 0)]) [(0,(.row 48 3 [(aA 2),(aA 1),(aA 15100),(aA 3),(aA 2),(aA 15200),(aA 1),(aA 3),(aA 15300)]))],.c mC [],.c (.tup [(.own 2),(pI 0)]) [(1,.dead),(2,(.row 48 3 [(aA 1),(aA 1),(aA 15000),(aA 2),(aA 2),(aA 15100),(aA 3),(aA 3),(aA 15200)]))],.c mC [],.c (.tup [(.p (.sl 2 [(aA 1),(aA 3)])),(pB false),(pI 0)]) [],.c mC [],.c (.tup [(.p (.sl 1 [(aA 2)])),(pI 0)]) [],bF,bF,bF,bF,bF,bF,bF,bF,bF,bF,bF,bF,bF,bF,bF,.c (pB true) [],bF,bF,bF,bF,bF,bF,bF,bF,bF,.x (.agg [(aA 1),(aA 1),(aA 15000)]),bF,bF,bF,bF,bF,bF,.c (pB true) [],bF,bF,bF,bF,bF,.c (pB true) [],bF,bF,bF,.c bFj [],.c (.tup [(.p (.sl 0 [])),(pI 0)]) [],.c bFk [],.c (.tup [(.p (.sl 1 [(aA 2)])),(pI 0)]) [],.c bFl [],.c (.tup [(pI 15100),(pB false),(pI 0)]) [],.c mC [],.c (.tup [(pB true),(pI 0)]) [],bT,bT,bT,bT,bT,bT,bT,bT,bT,bT,bT,bT,bT,bT,bT,bT,.c (pB true) [],bT,bT,bT,bT,bT,bT]) (l:=[_,_,true=true,true=true,true=true,_,FC Tp 41 [(.p (.sl 1 [(aA 2)])),(.own 6)] [(6,(.row 3 1 [(aA 2)]))] 7 (pB true) [],_,_,_,_,_,_,_,_,_,_,_,_,_,_,_,_,FC Tp 58 [mC,(pI 2)] [] 6 (.tup [(pB true),(pI 0)]) [],FC Tp 88 [(pI 2)] [] 6 mC [],FC Tp 61 [bFl,(pI 1)] [] 6 (.tup [(pI 15100),(pB false),(pI 0)]) [],FC Tp 88 [(pI 5)] [] 6 bFl [],FC Tp 19 [bFk] [] 6 (.tup [(.p (.sl 1 [(aA 2)])),(pI 0)]) [],FC Tp 88 [(pI 4)] [] 6 bFk [],FC Tp 19 [bFj] [] 6 (.tup [(.p (.sl 0 [])),(pI 0)]) [],FC Tp 88 [(pI 3)] [] 6 bFj [],false=false,false=false,false=false,FC Tp 41 [(.p (.sl 1 [(aA 2)])),(.own 5)] [(5,(.row 3 1 [(aA 2)]))] 6 (pB true) [],false=false,false=false,false=false,_,_,FC Tp 41 [(.p (.sl 2 [(aA 1),(aA 3)])),(.own 4)] [(4,(.row 3 2 [(aA 1),(aA 3)]))] 5 (pB true) [],_,_,_,_,_,_,_,some (.agg (([(aA 1),(aA 1),(aA 15000),(aA 2),(aA 2),(aA 15100),(aA 3),(aA 3),(aA 15200)].drop 0).take 3):PV)=some (.agg [(aA 1),(aA 1),(aA 15000)]),0+3≤[(aA 1),(aA 1),(aA 15000),(aA 2),(aA 2),(aA 15100),(aA 3),(aA 3),(aA 15200)].length,_,0≤(0:Int)∧(0:Int)<3,_,_,false=false,false=false,false=false,false=false,_,_,FC Tp 51 [(.own 0),(.own 3)] [(0,(.row 48 3 [(aA 2),(aA 1),(aA 15100),(aA 3),(aA 2),(aA 15200),(aA 1),(aA 3),(aA 15300)])),(3,(.row 48 3 [(aA 2),(aA 1),(aA 15100),(aA 3),(aA 2),(aA 15200),(aA 1),(aA 3),(aA 15300)]))] 4 (pB true) [],_,_,_,_,_,_,_,_,_,_,_,_,_,_,_,FC Tp 33 [mC,(pI 2)] [] 3 (.tup [(.p (.sl 1 [(aA 2)])),(pI 0)]) [],FC Tp 88 [(pI 2)] [] 3 mC [],FC Tp 71 [mC,(pI 1)] [] 3 (.tup [(.p (.sl 2 [(aA 1),(aA 3)])),(pB false),(pI 0)]) [],FC Tp 88 [(pI 2)] [] 3 mC [],FC Tp 21 [mC,(.own 1)] [(1,(.row 3 1 [(aA 2)]))] 2 (.tup [(.own 2),(pI 0)]) [(1,.dead),(2,(.row 48 3 [(aA 1),(aA 1),(aA 15000),(aA 2),(aA 2),(aA 15100),(aA 3),(aA 3),(aA 15200)]))],FC Tp 88 [(pI 2)] [] 1 mC [],FC Tp 28 [mC] [] 0 (.tup [(.own 0),(pI 0)]) [(0,(.row 48 3 [(aA 2),(aA 1),(aA 15100),(aA 3),(aA 2),(aA 15200),(aA 1),(aA 3),(aA 15300)]))],FC Tp 88 [(pI 2)] [] 0 mC []]) (by kernel_rfl) (g2c bTa (gc rfl (gc rfl (gc rfl (gc aQf (gc (fv (h41_8 _)) (g8c aQf (g8c aQf (gc (FV.fc (h58_12 _) rfl) (gc (FV.fc vB (by kernel_rfl)) (gc (FV.fc (h61_11 _) rfl) (gc (FV.fc bLj (by kernel_rfl)) (gc (FV.fc (h19_10 _) rfl) (gc (FV.fc bLi (by kernel_rfl)) (gc (FV.fc (h19_9 _) rfl) (gc (FV.fc bLh (by kernel_rfl)) (gc rfl (gc rfl (gc rfl (gc (fv (h41_8 _)) (gc rfl (gc rfl (gc rfl (g2c (aX h6) (gc (fv (h41_7 _)) (g3c (aX h6) (gc aHq (gc h5 (g2c aHq (gc rfl (gc (by first | decide | simp) (gc aHq (gc (by first | decide | simp) (g2c aHq (gc rfl (gc rfl (gc rfl (gc rfl (g2c aQg (gc (fv (h51_4 _)) (g8c aQg (g7c aQg (gc (FV.fc (h33_3 _) rfl) (gc (FV.fc vB (by kernel_rfl)) (gc (FV.fc (h71_2 _) rfl) (gc (FV.fc vB (by kernel_rfl)) (gc (FV.close (ids:=[1]) (args':=[mC,(.p (.sl 1 [(aA 2)]))]) (h21_1 _) (by kernel_rfl)) (gc (FV.fc vB (by kernel_rfl)) (gc (FV.fc (h28_0 _) rfl) (gc (FV.fc vB (by kernel_rfl)) gn))))))))))))))))))))))))))))))))))))))))))))))))))
end
section
abbrev sB(s:List Int):Int:=s.getD 0 0
abbrev sT(s:List Int):Int:=s.getD 1 0
def eR(dl:Int)(oc:List Int)(dc sk:Lqq):Lqq:=(sk.filter fun s => !(cP dl oc dc (sB s) (sT s)).2).map fun s=>[sB s,0,(cP dl oc dc (sB s) (sT s)).1]
def eY(dl:Int)(oc:List Int)(dc sk:Lqq):Lqq:=(sk.filter fun s=>(cP dl oc dc (sB s) (sT s)).2).map fun s=>[sB s,-1,0]
def plN(A:Lqq)(t:Int):Int:=match A.getLast? with
 | some y=>if y.getD 2 0=t then y.getD 1 0 else (A.length:Int)+1
 | none=>(A.length:Int)+1
def plS(A:Lqq)(x:List Int):Lqq:=A++[[x.getD 0 0,plN A (x.getD 2 0),x.getD 2 0]]
def iT(l:Lqq):Lqq:=l.foldl plS []
def dA(dl:Int)(oc:List Int)(dc sk:Lqq):Lqq:=iT (isort (ltK 2) (eR dl oc dc sk))++eY dl oc dc sk

theorem bLp(A D:List PV)(a b c v:PV):(A++[a,b,c]++D).set (A.length+1) v=A++[a,v,c]++D:=by
 induction A with
 | nil=>rfl
 | cons x A ih=>simp
theorem yQ{L:Lqq}{j:Nat}{a b c:Int}(hu:uni 3 L)(hj:L[j]? = some [a,b,c])(v:Int):(L.flatten.map aA).set (j*3+1) (aA v)=((L.set j [a,v,c]).flatten.map aA):=by
 obtain ⟨hlt,he⟩:=kQ2.1 hj;have h0:=uF (k:=3) (i:=j) (x:=[a,b,c]) hu hlt rfl;have h1:=uF (k:=3) (i:=j) (x:=[a,v,c]) hu hlt rfl;have hs:L.set j [a,b,c]=L:=by rw [← he];exact List.set_getElem_self hlt
 rw [hs] at h0
 rw [← h1];have hl:((L.flatten.map aA).take (j*3)).length=j*3:=by
  have:=bH hu hj;rw [oJ];omega
 have:=bLp ((L.flatten.map aA).take (j*3)) ((L.flatten.map aA).drop (j*3+3)) (aA a) (aA b) (aA c) (aA v);rw [hl] at this
 conv=>lhs;rw [← h0]
 exact this
theorem bLq(A:Lqq)(x:List Int):(plS A x).length=A.length+1:=by simp [plS]
theorem aSu(l:Lqq):∀ A:Lqq,(l.foldl plS A).length=A.length+l.length:=by
 induction l with
 | nil=>intro A;simp
 | cons x l ih=>intro A;rw [sQ,ih,bLq];simp;omega
theorem aHu(l:Lqq):∀ A:Lqq,uni 3 A→uni 3 (l.foldl plS A):=by
 induction l with
 | nil=>intro A h;exact h
 | cons x l ih =>
  intro A h;rw [sQ];refine ih _ fun y hy => ?_
  unfold plS at hy
  rcases iF.1 hy with hy | hy
  ·exact h y hy
  ·rw [List.mem_singleton.1 hy];rfl
section
variable {dl:Int} {sk dc:Lqq} {oc:List Int} {ov:PV}
theorem aQk(l:Lqq)(hu:uni 3 l)(hl:l.length<1000)(p q:Lqq)(hp:(isort (ltK 2) p).length=l.length)(t:Lqb) :
  aI Tp 7 (sub (cd Tryz.f86) [1,1,1,1,0,1,0,0]) (eQ dl sk dc ov p q t l.length (l.flatten.map aA) 0) (.exit 2) (eQ dl sk dc ov p q t (iT l).length ((iT l).flatten.map aA) l.length):=by
 let St (j:Nat):Lqq:=(l.take j).foldl plS []++l.drop j
 have hlen:∀ j,j≤l.length→((l.take j).foldl plS []).length=j:=fun j hj=>by rw [aSu];simp;omega
 have hlS:∀ j,j≤l.length→(St j).length=l.length:=fun j hj=>by
  show (_++_:Lqq).length=_;rw [lP,hlen j hj,bGp];omega
 have huS:∀ j,uni 3 (St j):=fun j y hy=>by
  rcases iF.1 hy with hy | hy
  ·exact aHu _ [] (fun z hz=>by cases hz) y hy
  ·exact hu y (List.mem_of_mem_drop hy)
 have:=aI.count (P:=Tp) (k:=7) (b:=sub (cd Tryz.f86) [1,1,1,1,0,1,0,0]) (e := .exit 2) (R:=eQ dl sk dc ov p q t (iT l).length ((iT l).flatten.map aA) l.length) l.length
  (fun j=>eQ dl sk dc ov p q t (St j).length ((St j).flatten.map aA) j)
  (fun j hj=>by
   have hx:=hu _ (gX hj);obtain ⟨a,b,c,hx⟩:=len3 hx;have hA:=hlen j (by omega)
   have e1:(l.take (j+1)).foldl plS []=plS ((l.take j).foldl plS []) [a,b,c]:=by
    rw [List.take_add_one,kQ0 hj,hx];rw [aCq];rfl
   have hdr:l.drop j=[a,b,c]::l.drop (j+1):=by rw [aUo hj,hx]
   have g1:(St j)[j]? = some [a,b,c]:=by
    show ((l.take j).foldl plS []++l.drop j)[j]? = _;rw [aAh (by omega),hA,aUq,hdr];rfl
   have hset:∀ v,(St j).set j [a,v,c]=(l.take j).foldl plS []++[a,v,c]::l.drop (j+1):=fun v=>by
    show ((l.take j).foldl plS []++l.drop j).set j [a,v,c]=_;rw [List.set_append_right _ _ (by omega),hA,aUq,hdr];rfl
   have hnext:St (j+1)=(St j).set j [a,plN ((l.take j).foldl plS []) c,c]:=by
    rw [hset];show (l.take (j+1)).foldl plS []++l.drop (j+1)=_;rw [e1];unfold plS;rw [List.append_assoc];rfl
   have hle:=bH (huS j) g1;have hpl:(j:Int)<((isort (ltK 2) p).length:Int):=by rw [hp];omega
   rw [hnext]
   rcases Nat.eq_zero_or_pos j with h0 | hpos
   ·have hn:plN ((l.take j).foldl plS []) c=(j:Int)+1:=by
     subst h0;rfl
    rw [hn];exact aZw (L:=St j) (L':=(St j).set j [a,((j+1:Nat):Int),c]) (by exact_mod_cast hpl) (aP (by omega)) g1 (by omega) (by omega) (by simp) (yQ (huS j) g1 _).symm rfl
   ·have g2:∃ y0 y1 y2,((l.take j).foldl plS []).getLast? = some [y0,y1,y2]∧(St j)[((j:Int)-1).toNat]? = some [y0,y1,y2]:=by
     have hlt:j-1<((l.take j).foldl plS []).length:=by omega
     have h3:=aHu (l.take j) [] (fun z hz=>by cases hz) _ (gX hlt)
     obtain ⟨y0,y1,y2,hy⟩:=len3 h3;refine ⟨y0,y1,y2,?_,?_⟩
     ·rw [List.getLast?_eq_getElem?,hA,kQ0 hlt,hy]
     ·show ((l.take j).foldl plS []++l.drop j)[((j:Int)-1).toNat]? = _
      rw [show ((j:Int)-1).toNat=j-1 by omega,aAi hlt,kQ0 hlt,hy]
    obtain ⟨y0,y1,y2,g3,g4⟩:=g2
    by_cases hc:c=y2
    ·have hn:plN ((l.take j).foldl plS []) c=y1:=by
      unfold plN;rw [g3];show (if y2=c then y1 else _)=y1
      rw [if_pos hc.symm]
     rw [hn];have hu1:uni 3 ((St j).set j [a,((j+1:Nat):Int),c]):=aRl (huS j) rfl;have g5:((St j).set j [a,((j+1:Nat):Int),c])[j]? = some [a,((j+1:Nat):Int),c]:=by
      rw [bGl (by rw [hlS j (by omega)];omega)]
     refine aZu (L:=St j) (L':=(St j).set j [a,y1,c]) (by exact_mod_cast hpl) (aP (by omega)) g1 (by omega) (by omega) (huS j) (by unfold inR;omega) g4 (by omega) hc (by rw [sP];omega) (by simp) ?_ rfl
     rw [yQ (huS j) g1,yQ hu1 g5,List.set_set]
    ·have hn:plN ((l.take j).foldl plS []) c=(j:Int)+1:=by
      unfold plN;rw [g3];show (if y2=c then y1 else _)=_
      rw [if_neg (fun h=>hc h.symm),hA]
     rw [hn];exact aZv (L:=St j) (L':=(St j).set j [a,((j+1:Nat):Int),c]) (by exact_mod_cast hpl) (aP (by omega)) g1 (by omega) (by omega) (huS j) (by unfold inR;omega) g4 (by omega) hc (by simp) (yQ (huS j) g1 _).symm rfl)
  (by
   have e:St l.length=iT l:=by
    show (l.take l.length).foldl plS []++l.drop l.length=_;rw [List.take_length,List.drop_length,List.append_nil];rfl
   rw [e];exact aZx (by rw [hp];omega)) (by simp)
 exact this
theorem aFc:(eR dl oc dc sk).length≤sk.length:=by
 unfold eR;rw [eZ];exact aAk _ _
theorem aCa:(eY dl oc dc sk).length≤sk.length:=by
 unfold eY;rw [eZ];exact aAk _ _
theorem aFd:uni 3 (eR dl oc dc sk):=fun y hy=>by
 obtain ⟨s,_,rfl⟩:=dU.1 hy;rfl
theorem aCb:uni 3 (eY dl oc dc sk):=fun y hy=>by
 obtain ⟨s,_,rfl⟩:=dU.1 hy;rfl
theorem tG(f:Nat)(l:Lqq):(isort (ltK f) l).length=l.length:=uZ _ _
theorem bAl{k f:Nat}{l:Lqq}(h:uni k l):uni k (isort (ltK f) l):=fun y hy=>h y ((rJ _ _ y).1 hy)
theorem aCc(l:Lqq):(iT l).length=l.length:=by unfold iT;rw [aSu];simp
theorem aQl(l:Lqq):uni 3 (iT l):=aHu l [] fun z hz=>by cases hz
theorem qR:uni 3 (dA dl oc dc sk):=fun y hy=>by
 rcases iF.1 hy with hy | hy
 ·exact aQl _ y hy
 ·exact aCb y hy
theorem aLh{α:Type}(p:α→Bool):∀ l:List α,(l.filter fun x => !p x).length+(l.filter p).length=l.length
 | []=>rfl
 | x::l=>by
  have:=aLh p l;cases h:p x <;> simp [h] <;> omega
theorem aLi:(dA dl oc dc sk).length=sk.length:=by
 unfold dA eR eY;rw [lP,aCc,tG,eZ,eZ];exact aLh _ sk
theorem bUh(hd:bY dc)(hov:∀ n,rL ov n (oc.contains n))(hs:uni 2 sk)(hb:∀ x∈sk,skB x=true)(hl:sk.length<20){T:Lqb}(hT:cE dl oc dc T):∃ T',cE dl oc dc T'∧bSe dl sk dc ov (dA dl oc dc sk) T T':=by
 obtain ⟨acc,⟨h1,h2,h3⟩,h4⟩:=aI.ex (P:=Tp) (k:=7) (b:=sub (cd Tryz.f86) [1,1,0,1,0,0]) (e := .exit 0) (fun i (a:(Lqq × Lqq) × Lqb)=>iS dl sk dc ov a.1.1.length (a.1.1.flatten.map aA) a.1.2.length (a.1.2.flatten.map aA) i (aF a.2) a.2.length)
  (fun a=>iS dl sk dc ov a.1.1.length (a.1.1.flatten.map aA) a.1.2.length (a.1.2.flatten.map aA) sk.length (aF a.2) a.2.length)
  (fun i a=>cE dl oc dc a.2∧a.1.1=eR dl oc dc (sk.take i)∧a.1.2=eY dl oc dc (sk.take i)) (by simp) sk.length
  (fun i acc hi hI=>by
   obtain ⟨⟨p,q⟩,T1⟩:=acc;obtain ⟨h1,h2,h3⟩:=hI;dsimp only at h1 h2 h3
   have hm:=gX hi;obtain ⟨a,b,hy⟩:=len2 (hs _ hm);have hx:sk[i]? = some [a,b]:=by rw [kQ0 hi,hy]
   rw [hy] at hm
   have hr : -1≤b∧b≤360000:=by
    have:=hb _ hm;rw [bPh,kQ7] at this
    exact cN.1 this.2
   obtain ⟨T2,q1,q2⟩:=bCu (sk:=sk) hd hov a b hr h1;have hp:p.length≤20:=by rw [h2];have:=aFc (dl:=dl) (oc:=oc) (dc:=dc) (sk:=sk.take i);rw [oJ] at this;omega
   have hq:q.length≤20:=by rw [h3];have:=aCa (dl:=dl) (oc:=oc) (dc:=dc) (sk:=sk.take i);rw [oJ] at this;omega
   have et:sk.take (i+1)=sk.take i++[[a,b]]:=by rw [List.take_add_one,hx];rfl
   rw [et];have e1:eR dl oc dc (sk.take i++[[a,b]])=p++if (cP dl oc dc a b).2 then [] else [[a,0,(cP dl oc dc a b).1]]:=by
    rw [h2];unfold eR;rw [qC,iG]
    congr 1
    show (List.filter _ [[a,b]]).map _=_;cases hq:(cP dl oc dc a b).2 <;> simp [hq]
   have e2:eY dl oc dc (sk.take i++[[a,b]])=q++if (cP dl oc dc a b).2 then [[a,-1,0]] else []:=by
    rw [h3];unfold eY;rw [qC,iG]
    congr 1
    show (List.filter _ [[a,b]]).map _=_;cases hq:(cP dl oc dc a b).2 <;> simp [hq]
   rw [e1,e2];cases hc:(cP dl oc dc a b).2 with
   | true =>
    rw [hc] at q2
    exact ⟨((p,q++[[a,-1,0]]),T2),⟨q1,by simp,by simp⟩,aZr (q:=q) (q':=q++[[a,-1,0]]) (by omega) hx hs q2 rfl ⟨rfl,by omega⟩ (aP (by omega)) (by simp) (by simp) rfl rfl rfl⟩
   | false =>
    rw [hc] at q2
    exact ⟨((p++[[a,0,(cP dl oc dc a b).1]],q),T2),⟨q1,by simp,by simp⟩,aZs (p:=p) (p':=p++[[a,0,(cP dl oc dc a b).1]]) (by omega) hx hs q2 rfl ⟨rfl,by omega⟩ (aP (by omega)) (by simp) (by simp) rfl rfl rfl⟩)
  (fun acc hI=>aZt (by omega)) (acc:=(([],[]),T)) ⟨hT,by simp [eR],by simp [eY]⟩
 obtain ⟨⟨p,q⟩,T1⟩:=acc;dsimp only at h1 h2 h3 h4
 rw [List.take_length] at h2 h3
 subst h2 h3;have hp:=aFc (dl:=dl) (oc:=oc) (dc:=dc) (sk:=sk);have hq:=aCa (dl:=dl) (oc:=oc) (dc:=dc) (sk:=sk);have hP:=aQk (dl:=dl) (sk:=sk) (dc:=dc) (ov:=ov) (isort (ltK 2) (eR dl oc dc sk)) (bAl aFd) (by rw [tG];omega) (eR dl oc dc sk) (eY dl oc dc sk) rfl T1
 refine ⟨T1,h1,bSf (r0n:=(dA dl oc dc sk).length) (r0c:=(dA dl oc dc sk).flatten.map aA) h4 aFd (by omega) hP ⟨nO aCb,by rw [aCc,tG];omega⟩ ?_ ?_⟩
 ·unfold dA;rw [lP]
 ·unfold dA;rw [aUp,iG]
end
theorem aSv{dl:Int}{sk dc:Lqq}(h:cR dl sk dc):∀ x∈aB sk,skB x=true:=fun x hx=>h.hsk x ((dH sk).mem_iff.1 hx)
theorem bTk{dl:Int}{sk dc:Lqq}(h:cR dl sk dc)(hl:sk.length<20){base:Nat}:FV Tp 28 [.p (.agg (cT dl sk dc))] base (.tup [.own base,.p (aA 0)]) [(base,.row 48 (dA dl [] (aB dc) (aB sk)).length ((dA dl [] (aB dc) (aB sk)).flatten.map aA))]:=by
 obtain ⟨T',h1,h2⟩:=bUh (dl:=dl) (sk:=aB sk) (iK h) aGs (lK h.us) (aSv h) (by rw [fU];exact hl) cE.nil
 exact bSg h h2
theorem wP{dl:Int}{dc:Lqq}(hd:bY dc):(aO dl dc).length≤1000:=by
 unfold aO;rw [eZ];have:=aAk (kP dl dc) dc;have:=hd.len;omega
def rX(u:List Int):Bool:=(List.range u.length).all fun i=>i == 0 || decide (u.getD (i-1) 0<u.getD i 0)
theorem bFq{dl:Int}{sk dc:Lqq}(u:List Int)(hl:u.length≤1000):(rX u=true∧∃ i,aI Tp 0 (sub (cd Tryz.f21) [1,1,1,1,1,0,1,0,0]) (gK dl sk dc u 1) (.exit 0) (gK dl sk dc u i)) ∨
  (rX u=false∧∃ i,aI Tp 0 (sub (cd Tryz.f21) [1,1,1,1,1,0,1,0,0]) (gK dl sk dc u 1) .ret (cG (gK dl sk dc u i) [(4,.p bZ),(5,.p (aA 4))])):=by
 rcases Nat.lt_or_ge u.length 2 with h2 | h2
 ·refine .inl ⟨?_,1,.exit (aEv (by omega)) (by simp)⟩
  unfold rX;rw [gD];intro i hi;have:=vR.1 hi;have:i=0:=by omega
  subst this;rfl
 ·have hget:∀ i,i<u.length→u[i]? = some (u.getD i 0):=fun i hi=>by rw [kQ4,kQ0 hi];rfl
  have key:∀ d i,i+d=u.length→1≤i→(∀ j,j<i→(j == 0 || decide (u.getD (j-1) 0<u.getD j 0))=true) →
   (rX u=true∧∃ k,aI Tp 0 (sub (cd Tryz.f21) [1,1,1,1,1,0,1,0,0]) (gK dl sk dc u (i:Int)) (.exit 0) (gK dl sk dc u k)) ∨
   (rX u=false∧∃ k,aI Tp 0 (sub (cd Tryz.f21) [1,1,1,1,1,0,1,0,0]) (gK dl sk dc u (i:Int)) .ret (cG (gK dl sk dc u k) [(4,.p bZ),(5,.p (aA 4))])):=by
   intro d
   induction d with
   | zero =>
    intro i hi h1 hj;refine .inl ⟨?_,_,.exit (aEv (by omega)) (by simp)⟩
    unfold rX;rw [gD];intro j hjr;exact hj j (by have:=vR.1 hjr;omega)
   | succ d ih =>
    intro i hi h1 hj;have g1:u[((i:Nat):Int).toNat]? = some (u.getD i 0):=by rw [bGo];exact hget i (by omega)
    have g2:u[((i:Int)-1).toNat]? = some (u.getD (i-1) 0):=by rw [show ((i:Int)-1).toNat=i-1 by omega];exact hget (i-1) (by omega)
    by_cases hc:u.getD (i-1) 0<u.getD i 0
    ·have hst:=aZz (dl:=dl) (sk:=sk) (dc:=dc) (i:=(i:Int)) (i':=((i+1:Nat):Int)) (by omega) g1 (by omega) (by unfold inR;omega) g2 (by omega) hc (by unfold inR;omega) (by omega)
     rcases ih (i+1) (by omega) (by omega) (fun j hj2=>by
      rcases Nat.lt_or_ge j i with h3 | h3
      ·exact hj j h3
      ·obtain rfl:j=i:=by omega
       rw [decide_eq_true hc,Bool.or_true]) with ⟨q1,k,q2⟩ | ⟨q1,k,q2⟩
     ·exact .inl ⟨q1,k,.step hst q2⟩
     ·exact .inr ⟨q1,k,.step hst q2⟩
    ·refine .inr ⟨?_,_,.exit (aZy (i:=(i:Int)) (by omega) g1 (by omega) (by unfold inR;omega) g2 (by omega) (by omega)) (by simp)⟩
     cases hr:rX u with
     | false=>rfl
     | true =>
      unfold rX at hr
      have:=gD.1 hr i (vR.2 (by omega))
      rw [show (i == 0)=false by simp;omega,Bool.false_or] at this
      exact absurd (of_decide_eq_true this) hc
  have:=key (u.length-1) 1 (by omega) (by omega) (fun j hj=>by
   have:j=0:=by omega
   subst this;rfl)
  exact this
def aQm(dl:Int)(dc:Lqq)(u:List Int):Int:=if u.all (ocB (aO dl dc)) then (if rX u then 0 else 4) else 1
theorem aQn{dl:Int}{sk dc:Lqq}(h:cR dl sk dc)(hl:sk.length<20)(u:List Int)(hu:u.length≤1000)(he:aQm dl (aB dc) u=0){base:Nat}:FV Tp 21 [.p (.agg (cT dl sk dc)),.p (aG u)] base (.tup [.own base,.p (aA 0)]) [(base,.row 48 (dA dl u (aB dc) (aB sk)).length ((dA dl u (aB dc) (aB sk)).flatten.map aA))]:=by
 have hd:=iK h;unfold aQm at he
 cases ha:u.all (ocB (aO dl (aB dc))) with
 | false=>rw [ha] at he;simp at he
 | true =>
  rw [ha,if_pos rfl] at he
  rcases bFq (dl:=dl) (sk:=sk) (dc:=dc) u hu with ⟨q1,i,q2⟩ | ⟨q1,i,q2⟩
  ·obtain ⟨T',h1,h2⟩:=bUh (dl:=dl) (sk:=aB sk) hd (aBd hu) (lK h.us) (aSv h) (by rw [fU];exact hl) cE.nil
   exact bSl h hd hu (fun _ _=>wP hd) ha q2 h2
  ·rw [q1] at he;simp at he
end
end KV
end Go.Proofs
section
namespace Go.Proofs
namespace KL
def aQe(x:Int):List Int→List Int
 | []=>[x]
 | y::r=>if x≤y then x::y::r else y::aQe x r
def sortI:List Int→List Int
 | []=>[]
 | x::r=>aQe x (sortI r)
theorem wN(x:Int):∀ l,(aQe x l).Perm (x::l)
 | [] => .refl _
 | y::r=>by
  unfold aQe
  split
  ·exact .refl _
  ·exact ((wN x r).cons y).trans (List.Perm.swap x y r)
theorem aBu:∀ l,(sortI l).Perm l
 | [] => .refl _
 | x::r=>(wN x _).trans ((aBu r).cons x)
theorem xV(x:Int):∀ l,l.Pairwise (· ≤ ·)→(aQe x l).Pairwise (· ≤ ·)
 | [],_=>by simp [aQe]
 | y::r,h=>by
  obtain ⟨h1,h2⟩:=List.pairwise_cons.1 h;unfold aQe
  split
  ·rename_i hx
   exact List.pairwise_cons.2 ⟨fun z hz=>by
    rcases List.mem_cons.1 hz with rfl | hz
    ·exact hx
    ·have:=h1 z hz;omega,h⟩
  ·rename_i hx
   refine List.pairwise_cons.2 ⟨fun z hz => ?_,xV x r h2⟩
   rcases List.mem_cons.1 ((wN x r).mem_iff.1 hz) with rfl | hz
   ·omega
   ·exact h1 z hz
theorem vA:∀ l,(sortI l).Pairwise (· ≤ ·)
 | [] => .nil
 | x::r=>xV x _ (vA r)
theorem aFb:∀ (a b:List Int),a.Perm b→a.Pairwise (· ≤ ·)→b.Pairwise (· ≤ ·)→a=b
 | [],b,h,_,_=>(List.nil_perm.1 h).symm
 | x::r,[],h,_,_=>absurd h.length_eq (by simp)
 | x::r,y::t,h,ha,hb=>by
  obtain ⟨h1,h2⟩:=List.pairwise_cons.1 ha;obtain ⟨h3,h4⟩:=List.pairwise_cons.1 hb;have e:x=y:=by
   have m1:x∈y::t:=h.mem_iff.1 (List.mem_cons_self ..);have m2:y∈x::r:=h.mem_iff.2 (List.mem_cons_self ..)
   rcases List.mem_cons.1 m1 with e | m1
   ·exact e
   ·rcases List.mem_cons.1 m2 with e | m2
    ·exact e.symm
    ·have:=h1 y m2;have:=h3 x m1;omega
  subst e;rw [aFb r t (List.Perm.cons_inv h) h2 h4]
theorem mergeSort_eq(l:List Int):l.mergeSort leB=sortI l:=by
 refine aFb _ _ ((List.mergeSort_perm _ _).trans (aBu l).symm) ?_ (vA l);have:=List.pairwise_mergeSort (le:=leB) (fun a b c h1 h2=>by simp only [leB,decide_eq_true_eq] at *;omega) (fun a b=>by simp only [leB,Bool.or_eq_true,decide_eq_true_eq];omega) l
 exact this.imp (fun h=>by simpa [leB] using h)
end KL
namespace KV
abbrev sk3:List (List Int):=[[1,15000],[2,15100],[3,15200]]
abbrev dc2:List (List Int):=[[1,0,0,1,300,0],[2,7,10,0,0,1]]
abbrev dc3:List (List Int):=[[1,0,0,1,300,0],[2,7,10,0,0,1],[3,9,40,0,0,2]]
abbrev dc4:List (List Int):=[[1,0,0,1,300,0],[2,7,10,0,0,1],[3,9,40,0,0,2],[4,5,50,0,0,3]]
abbrev dc5:List (List Int):=[[1,0,0,1,300,0],[2,7,10,0,0,1],[3,9,40,0,0,2],[4,5,50,0,0,3],[5,6,60,0,100,1]]
theorem qQ{l:List (List Int)}(h:l.Pairwise fun a b=>a.getD 0 0≤b.getD 0 0):aB l=l:=List.mergeSort_of_pairwise (h.imp fun h=>decide_eq_true h)
theorem aCx:aB sk3=sk3:=qQ (by decide)
theorem srt2:aB dc2=dc2:=qQ (by decide)
theorem srt3:aB dc3=dc3:=qQ (by decide)
theorem srt4:aB dc4=dc4:=qQ (by decide)
theorem srt5:aB dc5=dc5:=qQ (by decide)
theorem rec2:cR 30 sk3 dc2:=⟨by unfold uni;decide,by unfold uni;decide,by decide,by decide,by decide,by decide,by decide,by decide,by decide,by decide,by decide⟩
theorem rec3:cR 30 sk3 dc3:=⟨by unfold uni;decide,by unfold uni;decide,by decide,by decide,by decide,by decide,by decide,by decide,by decide,by decide,by decide⟩
theorem rec4:cR 30 sk3 dc4:=⟨by unfold uni;decide,by unfold uni;decide,by decide,by decide,by decide,by decide,by decide,by decide,by decide,by decide,by decide⟩
theorem rec5:cR 30 sk3 dc5:=⟨by unfold uni;decide,by unfold uni;decide,by decide,by decide,by decide,by decide,by decide,by decide,by decide,by decide,by decide⟩
def bLc(al:List fA)(s:Nat)(c:List cD):List Int:=Lib.compact (KL.sortI (c.flatMap (chL al s)))
theorem aSr(al:List fA)(s:Nat)(c:List cD):lF al s c=bLc al s c:=by unfold lF bLc;rw [KL.mergeSort_eq]
def bFg(dl:Int)(sk dc:List (List Int))(f:Int)(i:Nat):Bool:=match (bI dl sk dc)[i]? with
 | some h=>aHd (bLc (bI dl sk dc) i h.1) (h.1.any fun x=>x.2.1) (h.1.any fun x => !x.2.1) f
 | none=>false
theorem bFh(dl:Int)(sk dc:List (List Int))(f:Int):xS dl sk dc f=bFg dl sk dc f:=by
 funext i
 unfold xS bFg
 split
 ·rename_i h e
  first | rw [e] | skip
  simp only [aSr]
 ·rename_i e
  first | rw [e] | rfl
theorem h28(base:Nat):FV Tryz.prog 28 [.p (.agg (cT 30 sk3 dc2))] base (.tup [.own base,.p (aA 0)]) [(base,.row 48 3 ([[2,1,15100],[3,2,15200],[1,3,15300]].flatten.map aA))]:=by
 have:=bTk rec2 (by decide) (base:=base)
 rw [aCx,srt2,show dA 30 [] dc2 sk3=[[2,1,15100],[3,2,15200],[1,3,15300]] from by decide +kernel] at this
 exact this
theorem h21(base:Nat):FV Tryz.prog 21 [.p (.agg (cT 30 sk3 dc2)),.p (aG [2])] base (.tup [.own base,.p (aA 0)]) [(base,.row 48 3 ([[1,1,15000],[2,2,15100],[3,3,15200]].flatten.map aA))]:=by
 have:=aQn rec2 (by decide) [2] (by decide) (by rw [srt2];decide +kernel) (base:=base)
 rw [aCx,srt2,show dA 30 [2] dc2 sk3=[[1,1,15000],[2,2,15100],[3,3,15200]] from by decide +kernel] at this
 exact this
theorem open2:aO 30 dc2=[2]:=by decide +kernel
theorem h71(base:Nat):FV Tryz.prog 71 [.p (.agg (cT 30 sk3 dc2)),.p (aA 1)] base (.tup [.p (aG [1,3]),.p (blP false),.p (aA 0)]) []:=by
 have:=bRb rec2 (bib:=1) (i:=0) (s0:=1) (s1:=15000) (by rw [aCx];decide +kernel) (by rw [aCx];rfl) (by rw [srt2,open2];decide) (base:=base)
 rw [aCx,srt2,aSr,show bLc (bI 30 sk3 dc2) 0 (nT 30 dc2 1 15000 (tC 30 dc2 1)).1=[1,3] from by decide +kernel,show ((nT 30 dc2 1 15000 (tC 30 dc2 1)).1.any fun x=>x.2.1)=false from by decide +kernel] at this
 exact this
theorem h33(base:Nat):FV Tryz.prog 33 [.p (.agg (cT 30 sk3 dc2)),.p (aA 2)] base (.tup [.p (aG [2]),.p (aA 0)]) []:=by
 have:=bRd rec2 (f:=2) (by decide) (by rw [srt2,open2];decide) (base:=base)
 have e:aKo 30 sk3 dc2 2=[2]:=by
  unfold aKo;rw [bFh];decide +kernel
 rw [aCx,srt2,e] at this
 exact this
theorem h19a(base:Nat):FV Tryz.prog 19 [.p (.agg (cT 30 sk3 dc3))] base (.tup [.p (aG []),.p (aA 0)]) []:=by
 have:=aPr rec3 (base:=base);rw [srt3,show aO 30 dc3=[] from by decide +kernel] at this
 exact this
theorem h19b(base:Nat):FV Tryz.prog 19 [.p (.agg (cT 30 sk3 dc4))] base (.tup [.p (aG [2]),.p (aA 0)]) []:=by
 have:=aPr rec4 (base:=base);rw [srt4,show aO 30 dc4=[2] from by decide +kernel] at this
 exact this
theorem h61(base:Nat):FV Tryz.prog 61 [.p (.agg (cT 30 sk3 dc5)),.p (aA 1)] base (.tup [.p (aA 15100),.p (blP false),.p (aA 0)]) []:=by
 obtain ⟨T',_,hT⟩:=bCu (dl:=30) (sk:=aB sk3) (dc:=aB dc5) (iK rec5) aGs 1 15000 (by decide) (T:=[]) cE.nil
 have:=bQt rec5 (bib:=1) (i0:=0) (s1:=1) (s2:=15000) (by rw [aCx];decide +kernel) (by rw [aCx];rfl) hT (base:=base)
 rw [srt5,show cP 30 [] dc5 1 15000=(15100,false) from by decide +kernel] at this
 exact this
theorem h58(base:Nat):FV Tryz.prog 58 [.p (.agg (cT 30 sk3 dc2)),.p (aA 2)] base (.tup [.p (blP true),.p (aA 0)]) []:=by
 have:=bTc rec2 2 (base:=base);have hB:∀ r6,aCy 30 sk3 dc2 2 r6=fun x => !(((cP 30 x dc2 ((sk3.getD (bB (fun x=>decide (r6=x)) (aK sk3 0)).toNat []).getD 0 0) ((sk3.getD (bB (fun x=>decide (r6=x)) (aK sk3 0)).toNat []).getD 1 0)).1 == (cP 30 (x++[2]) dc2 ((sk3.getD (bB (fun x=>decide (r6=x)) (aK sk3 0)).toNat []).getD 0 0) ((sk3.getD (bB (fun x=>decide (r6=x)) (aK sk3 0)).toNat []).getD 1 0)).1) && ((cP 30 x dc2 ((sk3.getD (bB (fun x=>decide (r6=x)) (aK sk3 0)).toNat []).getD 0 0) ((sk3.getD (bB (fun x=>decide (r6=x)) (aK sk3 0)).toNat []).getD 1 0)).2 == (cP 30 (x++[2]) dc2 ((sk3.getD (bB (fun x=>decide (r6=x)) (aK sk3 0)).toNat []).getD 0 0) ((sk3.getD (bB (fun x=>decide (r6=x)) (aK sk3 0)).toNat []).getD 1 0)).2)):=fun r6=>by
  funext x
  unfold aCy eX;rw [aCx,srt2]
 have e:bFn 30 sk3 dc2 2=(true,0):=by
  unfold bFn;rw [aCx,srt2,hB];decide +kernel
 rw [e] at this
 exact this
theorem bFi{base:Nat}:FV Tryz.prog 26 [] base (.p (blP true)) [] :=
 bTb h28 h21 h71 h33 (fun base=>by
  have:=bQx [[2,1,15100],[3,2,15200],[1,3,15300]] [[2,1,15100],[3,2,15200],[1,3,15300]] (by unfold uni;decide) (by unfold uni;decide) (by decide) (base:=base)
  rw [decide_eq_true rfl] at this
  exact this) ⟨rfl,rfl⟩ (by decide) (fun base=>by
  have:=bEc [1,3] [1,3] (by decide) (base:=base)
  rw [decide_eq_true rfl] at this
  exact this) (fun base=>by
  have:=bEc [2] [2] (by decide) (base:=base)
  rw [decide_eq_true rfl] at this
  exact this) h19a h19b h61 h58
end KV
end Go.Proofs
end
namespace Go.Proofs
namespace KV
section

noncomputable abbrev aGh:Code:=sub (cd Tryz.f3) [1,1,1,1,1,1,1,1,1,1,0,1,0,0,1,1,0,0,1,1,1,1,0,0]
noncomputable abbrev aNj:Code:=sub (cd Tryz.f3) [1,1,1,1,1,1,1,1,1,1,0,1,0,0]
theorem aNk:((0:Int) != (0:Int))=false:=by first | decide | simp
theorem bMn(a b c:Int){base:Nat}:FV Tp 23 [.p (aA a),.p (aA b),.p (aA c)] base (.p (.agg [aA a,aA 0,aA 0,aA b,aA c,aA 0])) []:=aBo
theorem bGu{k:Nat}{x:List Int}(h:x.length=k):uni k [x]:=fun y hy=>by
 rw [List.mem_singleton.1 hy];exact h
def lR(sk0:Lqq)(dc1:Lqq)(y4:Int)(y5:Int)(u6:List Int)(i:Nat)(dsn:Nat)(dsc:List PV):St:=⟨fr 153 [(9,(.ptr 0 0)),(10,(.ptr 1 0)),(14,(.p (aG u6))),(15,(.p (.sl ((dA (30:Int) u6 (aB dc1) (aB sk0)).length) ((dA (30:Int) u6 (aB dc1) (aB sk0)).flatten.map aA)))),(16,(.fn 22 [] [])),(76,(.own 2)),(77,(pI 3)),(78,(pI (i:Int)))],[some (.box 26 [(pI 30),(.p (fS sk0)),(.p (fS dc1))]),some (.box 31 [(pI y4),(pI y5)]),some (.row 44 dsn dsc)]⟩
theorem bMo{l1 l2:List Int}{wh mu:Int}{sk0 dc1:Lqq}{m2 t3 y4 y5:Int}{u6:List Int}{m7 t8:Int}{i'9:Nat}{ds'10:Lqq}(h0:0≤(0:Int)∧(0:Int)≤900)(h1:1≤(6:Int)∧(6:Int)≤30)(h2:0≤(14:Int)∧(14:Int)≤40)(h3:bCe (6:Int) (14:Int) l1 (0:Int) (17:Int)=(sk0,dc1,m2,t3))(h4:inR wh)(h5:(sk0.length:Int)≠0)(h6:sk0[(wh.tmod (sk0.length:Int)).toNat]? = some [y4,y5])(h7:0≤(wh.tmod (sk0.length:Int)))(h8:uni 2 sk0)(h9:uni 6 dc1)(h10:dc1.length≤1000)(h11:∀ x∈dc1,x.getD 0 0≤9999)(h12:cR (30:Int) sk0 dc1)(h13:0≤(0:Int)∧(0:Int)≤1000000)(h14:(aO (30:Int) (aB dc1)).length≤1000)(h15:aAs (aO (30:Int) (aB dc1)) l2 (0:Int) (17:Int)=(u6,m7,t8))(h16:sk0.length<20)(h17:u6.length≤1000)(h18:aQm (30:Int) (aB dc1) u6=0)(h19:inR mu)(hl20:aI Tp 0 aNj (lR sk0 dc1 y4 y5 u6 0 3 [(aA (cH dc1)),(aA 0),(aA 0),(aA y4),(aA mu),(aA 0),(aA (cH dc1)),(aA 1),(aA 0),(aA y4),(aA mu),(aA 0),(aA (cH dc1)),(aA 3),(aA 0),(aA y4),(aA 0),(aA 0)]) (.exit 0) (lR sk0 dc1 y4 y5 u6 i'9 ds'10.length (ds'10.flatten.map aA)))(h21:∀ {base:Nat},FV Tp 26 [] base (pB true) []){base:Nat}:FV Tp 3 [(.p (.sl l1.length (l1.map aN))),(.p (.sl l2.length (l2.map aN))),(.p (.v (.int .u8 wh))),(.p (.v (.int .u8 mu)))] base (pB true) []:=by
 exact FV.fin Tryz.func3 rfl (o:=[.c (.ptr 0 0) [(0,(.box 129 [(.p (.sl l1.length (l1.map aN))),(pI 0),(.p (.v (.int .u32 (17:Int))))]))],.c (.p (.agg (cT 30 sk0 dc1))) [(0,(.box 129 [(.p (.sl l1.length (l1.map aN))),(pI m2),(.p (.v (.int .u32 t3)))]))],.x (.agg [(aA y4),(aA y5)]),.c (pI (cH dc1)) [],.c (.tup [(.p (aG (aO (30:Int) (aB dc1)))),(pI 0)]) [],bF,.c (.ptr 4 0) [(4,(.box 129 [(.p (.sl l2.length (l2.map aN))),(pI 0),(.p (.v (.int .u32 (17:Int))))]))],.c (.own 5) [(4,(.box 129 [(.p (.sl l2.length (l2.map aN))),(pI m7),(.p (.v (.int .u32 t8)))])),(5,(.row 3 u6.length (u6.map aA)))],.g 1 ⟨[],[0,1,3,4],[5],[]⟩,.c (.tup [(.own 4),(pI 0)]) [(4,(.row 48 ((dA (30:Int) u6 (aB dc1) (aB sk0)).length) ((dA (30:Int) u6 (aB dc1) (aB sk0)).flatten.map aA)))],bF,.c (.p (dcE (cH dc1) 0 0 y4 mu 0)) [],.k 1 ⟨(rng [(0,9),(11,3),(17,59),(79,73)]),[1,2,13],[4],[]⟩ (.exit 0) (lR sk0 dc1 y4 y5 u6 i'9 ds'10.length (ds'10.flatten.map aA)),.c (pB true) []]) (l:=[FC Tp 26 [] [] 3 (pB true) [],_,_,_,_,_,_,FC Tp 20 [(.ptr 4 0),(.p (aG (aO (30:Int) (aB dc1))))] [(4,(.box 129 [(.p (.sl l2.length (l2.map aN))),(pI 0),(.p (.v (.int .u32 (17:Int))))]))] 5 (.own 5) [(4,(.box 129 [(.p (.sl l2.length (l2.map aN))),(pI m7),(.p (.v (.int .u32 t8)))])),(5,(.row 3 u6.length (u6.map aA)))],FC Tp 17 [(.p (.sl l2.length (l2.map aN)))] [] 4 (.ptr 4 0) [(4,(.box 129 [(.p (.sl l2.length (l2.map aN))),(pI 0),(.p (.v (.int .u32 (17:Int))))]))],_,_,_,_,_,0≤(wh.tmod (sk0.length:Int))∧(wh.tmod (sk0.length:Int))<(sk0.length:Int)∧((wh.tmod (sk0.length:Int)).toNat*2)<(sk0.flatten.map aA).length,_,_,FC Tp 16 [(.ptr 0 0),(pI 6),(pI 14)] [(0,(.box 129 [(.p (.sl l1.length (l1.map aN))),(pI 0),(.p (.v (.int .u32 (17:Int))))]))] 1 (.p (.agg (cT 30 sk0 dc1))) [(0,(.box 129 [(.p (.sl l1.length (l1.map aN))),(pI m2),(.p (.v (.int .u32 t3)))]))],FC Tp 17 [(.p (.sl l1.length (l1.map aN)))] [] 0 (.ptr 0 0) [(0,(.box 129 [(.p (.sl l1.length (l1.map aN))),(pI 0),(.p (.v (.int .u32 (17:Int))))]))]]) (by kernel_rfl) (gc (FV.fc h21 (by kernel_rfl)) (gc hl20.code (gc h19 (gc (fk 5 (bMn (cH dc1) y4 mu) rfl) (gc h19 (gc aNk (gc (fk 4 (aQn h12 h16 u6 h17 h18) rfl) (gc (FMM.fc (ids:=[4]) (bMq (aO (30:Int) (aB dc1)) l2 (0:Int) (17:Int) h13 h14 h15) (by kernel_rfl)) (gc (FMM.fc (ids:=[]) (ofO l2) (by kernel_rfl)) (gc aNk (gc (fk 4 (aPr h12) rfl) (gc (fk 4 (bMp (30:Int) sk0 dc1 h9 h10 h11) rfl) (gc (aU (i:=(wh.tmod (sk0.length:Int)).toNat) h8 h6) (gc (bH (i:=(wh.tmod (sk0.length:Int)).toNat) h8 h6) (gc (bR (k:=2) (i:=(wh.tmod (sk0.length:Int))) (by decide) h8 h7 h6) (gc h5 (gc h4 (gc (FMM.fc (ids:=[0]) (bNb (6:Int) (14:Int) l1 (0:Int) (17:Int) h0 h1 h2 h3) (by kernel_rfl)) (gc (FMM.fc (ids:=[]) (ofO l1) (by kernel_rfl)) gn)))))))))))))))))))
def lS(sk0:Lqq)(dc1:Lqq)(y4:Int)(y5:Int)(u6:List Int)(i:Nat)(ds:Lqq)(y100:Int)(y101:Int)(y102:Int)(y103:Int)(y104:Int)(y105:Int)(k:Nat):St:=⟨fr 153 [(9,(.ptr 0 0)),(10,(.ptr 1 0)),(14,(.p (aG u6))),(15,(.p (.sl ((dA (30:Int) u6 (aB dc1) (aB sk0)).length) ((dA (30:Int) u6 (aB dc1) (aB sk0)).flatten.map aA)))),(16,(.fn 22 [] [])),(17,(pI (i:Int))),(18,(.ptr 3 0)),(19,(.p (.sl ((dA (30:Int) u6 (aB (dc1++[[y100,y101,y102,y103,y104,y105]])) (aB sk0)).length) ((dA (30:Int) u6 (aB (dc1++[[y100,y101,y102,y103,y104,y105]])) (aB sk0)).flatten.map aA)))),(20,(pI 0)),(76,(.own 2)),(77,(pI 3)),(78,(pI (i:Int))),(79,(pB (decide ((i:Int)<3)))),(80,(pI (i:Int))),(81,(.ptr 2 (i*6))),(82,(.p (dcE y100 y101 y102 y103 y104 y105))),(83,(.tup [(.p (.sl ((dA (30:Int) u6 (aB (dc1++[[y100,y101,y102,y103,y104,y105]])) (aB sk0)).length) ((dA (30:Int) u6 (aB (dc1++[[y100,y101,y102,y103,y104,y105]])) (aB sk0)).flatten.map aA))),(pI 0)])),(84,(.p (.agg (cT 30 sk0 dc1)))),(85,(.p (dcE y100 y101 y102 y103 y104 y105))),(86,(.own 4)),(87,(.p (.agg (cT 30 sk0 (dc1++[[y100,y101,y102,y103,y104,y105]]))))),(88,(.p (aG u6))),(89,(.tup [(.p (.sl ((dA (30:Int) u6 (aB (dc1++[[y100,y101,y102,y103,y104,y105]])) (aB sk0)).length) ((dA (30:Int) u6 (aB (dc1++[[y100,y101,y102,y103,y104,y105]])) (aB sk0)).flatten.map aA))),(pI 0)])),(90,(.p (.sl ((dA (30:Int) u6 (aB (dc1++[[y100,y101,y102,y103,y104,y105]])) (aB sk0)).length) ((dA (30:Int) u6 (aB (dc1++[[y100,y101,y102,y103,y104,y105]])) (aB sk0)).flatten.map aA)))),(91,(pI 0)),(92,(pI 0)),(93,(pB ((0:Int) != (0:Int)))),(94,(.ptr 0 1)),(95,(.p (fS sk0))),(96,(pI (sk0.length:Int))),(97,(pI (k:Int)))],[some (.box 26 [(pI 30),(.p (fS sk0)),(.p (fS dc1))]),some (.box 31 [(pI y4),(pI y5)]),some (.row 44 ds.length (ds.flatten.map aA)),some (.box 44 [(pI y100),(pI y101),(pI y102),(pI y103),(pI y104),(pI y105)]),some .dead]⟩
theorem aUu{sk0 dc1:Lqq}{y4 y5:Int}{u6:List Int}{i:Nat}{ds:Lqq}{y100 y101 y102 y103 y104 y105:Int}{k'106 i':Nat}(h0:(i:Int)<3)(h1:ds[i]? = some [y100,y101,y102,y103,y104,y105])(h2:uni 6 ds)(h3:uni 2 sk0)(h4:sk0.length≤1000)(h5:uni 6 dc1)(h6:dc1.length≤1000)(h7:cR (30:Int) sk0 (dc1++[[y100,y101,y102,y103,y104,y105]]))(h8:sk0.length<20)(h9:u6.length≤1000)(h10:aQm (30:Int) (aB (dc1++[[y100,y101,y102,y103,y104,y105]])) u6=0)(hl11:aI Tp 0 aGh (lS sk0 dc1 y4 y5 u6 i ds y100 y101 y102 y103 y104 y105 0) (.exit 2) (lS sk0 dc1 y4 y5 u6 i ds y100 y101 y102 y103 y104 y105 k'106))(h12:inR (((i+1):Nat):Int))(ei':i'=(i+1)):aC Tp 0 aNj (lR sk0 dc1 y4 y5 u6 i ds.length (ds.flatten.map aA)) .normal (lR sk0 dc1 y4 y5 u6 i' ds.length (ds.flatten.map aA)):=by
 subst ei';exact aC.fin (g:=⟨(rng [(0,9),(11,3),(17,59),(79,73)]),[0,1,2],[],[]⟩) (o:=[bT,.x (dcE y100 y101 y102 y103 y104 y105),.c (.p (.agg (cT 30 sk0 (dc1++[[y100,y101,y102,y103,y104,y105]])))) [(4,.dead)],.c (.tup [(.own 5),(pI 0)]) [(5,(.row 48 ((dA (30:Int) u6 (aB (dc1++[[y100,y101,y102,y103,y104,y105]])) (aB sk0)).length) ((dA (30:Int) u6 (aB (dc1++[[y100,y101,y102,y103,y104,y105]])) (aB sk0)).flatten.map aA)))],bF,.k 3 ⟨(rng [(0,9),(11,3),(21,55),(98,53)]),[0,1,2,3,4],[5],[]⟩ (.exit 2) (lS sk0 dc1 y4 y5 u6 i ds y100 y101 y102 y103 y104 y105 k'106)]) (l:=[_,_,_,_,FC Tp 24 [(.p (.agg (cT 30 sk0 dc1))),(.own 4)] [(4,(.row 44 1 [(aA y100),(aA y101),(aA y102),(aA y103),(aA y104),(aA y105)]))] 5 (.p (.agg (cT 30 sk0 (dc1++[[y100,y101,y102,y103,y104,y105]])))) [(4,.dead)],[(aA y100),(aA y101),(aA y102),(aA y103),(aA y104),(aA y105)].length=6,_,_,_,_]) (by kernel_rfl) (gc h12 (gc hl11.code (gc aNk (gc (fk 5 (aQn h7 h8 u6 h9 h10) rfl) (gc (FV.close (ids:=[4]) (args':=[(.p (.agg (cT 30 sk0 dc1))),(.p (.sl 1 [(aA y100),(aA y101),(aA y102),(aA y103),(aA y104),(aA y105)]))]) (bMr (30:Int) sk0 dc1 [[y100,y101,y102,y103,y104,y105]] h3 h4 h5 h6 (bGu rfl) (by simp)) (by kernel_rfl)) (gc (by first | decide | simp) (gc (aU (i:=i) h2 h1) (gc (bH (i:=i) h2 h1) (gc (dF (i:=(i:Int)) (kQ3 _) h1) (gc (bC h0) gn))))))))))
theorem aUv{sk0 dc1:Lqq}{y4 y5:Int}{u6:List Int}{i:Nat}{ds:Lqq}(h0:(3:Int)≤(i:Int)):aC Tp 0 aNj (lR sk0 dc1 y4 y5 u6 i ds.length (ds.flatten.map aA)) (.exit 0) (lR sk0 dc1 y4 y5 u6 i ds.length (ds.flatten.map aA)):=by
 exact aC.fin (g:=⟨(rng [(0,9),(11,3),(17,59),(79,73)]),[0,1,2],[],[]⟩) (o:=[bF]) (l:=[_]) (by kernel_rfl) (gc (bO h0) gn)
theorem aUw{sk0 dc1:Lqq}{y4 y5:Int}{u6:List Int}{i:Nat}{ds:Lqq}{y100 y101 y102 y103 y104 y105:Int}{k:Nat}{y200 y201 a202 b203 c204 a205 b206 c207:Int}{k':Nat}(h0:(k:Int)<(sk0.length:Int))(h1:sk0[k]? = some [y200,y201])(h2:uni 2 sk0)(h3:uni 3 (dA (30:Int) u6 (aB dc1) (aB sk0)))(h4:(dA (30:Int) u6 (aB dc1) (aB sk0)).length≤1000)(h5:xK (dA (30:Int) u6 (aB dc1) (aB sk0)) y200=[a202,b203,c204])(h6:uni 3 (dA (30:Int) u6 (aB (dc1++[[y100,y101,y102,y103,y104,y105]])) (aB sk0)))(h7:(dA (30:Int) u6 (aB (dc1++[[y100,y101,y102,y103,y104,y105]])) (aB sk0)).length≤1000)(h8:xK (dA (30:Int) u6 (aB (dc1++[[y100,y101,y102,y103,y104,y105]])) (aB sk0)) y200=[a205,b206,c207])(h9:a202=y200)(h10:a205=y200)(h11:((y200 == y4) == ((i:Int) == (1:Int)))=false)(h12:(yA b206 b203)=false)(h13:inR (((k+1):Nat):Int))(ek':k'=(k+1)):aC Tp 0 aGh (lS sk0 dc1 y4 y5 u6 i ds y100 y101 y102 y103 y104 y105 k) .normal (lS sk0 dc1 y4 y5 u6 i ds y100 y101 y102 y103 y104 y105 k'):=by
 subst ek';exact aC.fin (g:=⟨(rng [(0,9),(11,3),(21,55),(98,53)]),[0,1,2,3,4],[],[]⟩) (o:=[bT,.x (.agg [(aA y200),(aA y201)]),.c (.p (.agg [(aA a202),(aA b203),(aA c204)])) [],.c (.p (.agg [(aA a205),(aA b206),(aA c207)])) [],bF,bF,bF,bF,bF,bF,bF,bT,bT,bT,bT,bT,bT,.c (pB (yA b206 b203)) [],bT,bF,bF,bF,bF,bF,bF,bF,bF,bF,bF,bF,bF]) (l:=[_,_,_,_,_,_,_,_,_,_,_,_,_,_,_,_,_,_,_,_,_,_,_,_,_,_,_,_,_,_,_,_,0≤(k:Int)∧(k:Int)<(sk0.length:Int)∧(k*2)<(sk0.flatten.map aA).length,_]) (by kernel_rfl) (gc h13 (gc h12 (gc (aX (cA h11)) (gc h12 (g6c (aX (cA h11)) (g3c h12 (gc (cA h11) (gc (fk 24 (bCd b206 b203) rfl) (g6c (cA h11) (gc (kM h10) (g6c (kM h9) (gc (fk 14 (aGi (dA (30:Int) u6 (aB (dc1++[[y100,y101,y102,y103,y104,y105]])) (aB sk0)) y200 h6 h7 h8) rfl) (gc (fk 6 (aGi (dA (30:Int) u6 (aB dc1) (aB sk0)) y200 h3 h4 h5) rfl) (gc (aU (i:=k) h2 h1) (gc (bH (i:=k) h2 h1) (gc (bR (k:=2) (i:=(k:Int)) (by decide) h2 (kQ3 _) h1) (gc (bC h0) gn)))))))))))))))))
theorem aUx{sk0 dc1:Lqq}{y4 y5:Int}{u6:List Int}{i:Nat}{ds:Lqq}{y100 y101 y102 y103 y104 y105:Int}{k:Nat}{y200 y201 a202 b203 c204 a205 b206 c207:Int}{k':Nat}(h0:(k:Int)<(sk0.length:Int))(h1:sk0[k]? = some [y200,y201])(h2:uni 2 sk0)(h3:uni 3 (dA (30:Int) u6 (aB dc1) (aB sk0)))(h4:(dA (30:Int) u6 (aB dc1) (aB sk0)).length≤1000)(h5:xK (dA (30:Int) u6 (aB dc1) (aB sk0)) y200=[a202,b203,c204])(h6:uni 3 (dA (30:Int) u6 (aB (dc1++[[y100,y101,y102,y103,y104,y105]])) (aB sk0)))(h7:(dA (30:Int) u6 (aB (dc1++[[y100,y101,y102,y103,y104,y105]])) (aB sk0)).length≤1000)(h8:xK (dA (30:Int) u6 (aB (dc1++[[y100,y101,y102,y103,y104,y105]])) (aB sk0)) y200=[a205,b206,c207])(h9:a202=y200)(h10:a205=y200)(h11:((y200 == y4) == ((i:Int) == (1:Int)))=true)(h12:(yA b203 b206)=false)(h13:inR (((k+1):Nat):Int))(ek':k'=(k+1)):aC Tp 0 aGh (lS sk0 dc1 y4 y5 u6 i ds y100 y101 y102 y103 y104 y105 k) .normal (lS sk0 dc1 y4 y5 u6 i ds y100 y101 y102 y103 y104 y105 k'):=by
 subst ek';exact aC.fin (g:=⟨(rng [(0,9),(11,3),(21,55),(98,53)]),[0,1,2,3,4],[],[]⟩) (o:=[bT,.x (.agg [(aA y200),(aA y201)]),.c (.p (.agg [(aA a202),(aA b203),(aA c204)])) [],.c (.p (.agg [(aA a205),(aA b206),(aA c207)])) [],bF,bF,bF,bF,bF,bF,bF,bF,bF,bF,bF,bF,bF,bF,bT,bT,bT,bT,bT,bT,.c (pB (yA b203 b206)) [],bT,bF]) (l:=[_,_,_,_,_,_,_,_,_,_,_,_,_,_,_,_,_,_,_,_,_,_,_,_,_,_,_,_,0≤(k:Int)∧(k:Int)<(sk0.length:Int)∧(k*2)<(sk0.flatten.map aA).length,_]) (by kernel_rfl) (gc h13 (gc h12 (gc (cA (aX h11)) (gc (fk 24 (bCd b203 b206) rfl) (g6c (cA (aX h11)) (g7c (aX h11) (gc (kM h10) (g6c (kM h9) (gc (fk 14 (aGi (dA (30:Int) u6 (aB (dc1++[[y100,y101,y102,y103,y104,y105]])) (aB sk0)) y200 h6 h7 h8) rfl) (gc (fk 6 (aGi (dA (30:Int) u6 (aB dc1) (aB sk0)) y200 h3 h4 h5) rfl) (gc (aU (i:=k) h2 h1) (gc (bH (i:=k) h2 h1) (gc (bR (k:=2) (i:=(k:Int)) (by decide) h2 (kQ3 _) h1) (gc (bC h0) gn))))))))))))))
theorem aUy{sk0 dc1:Lqq}{y4 y5:Int}{u6:List Int}{i:Nat}{ds:Lqq}{y100 y101 y102 y103 y104 y105:Int}{k:Nat}(h0:(sk0.length:Int)≤(k:Int)):aC Tp 0 aGh (lS sk0 dc1 y4 y5 u6 i ds y100 y101 y102 y103 y104 y105 k) (.exit 2) (lS sk0 dc1 y4 y5 u6 i ds y100 y101 y102 y103 y104 y105 k):=by
 exact aC.fin (g:=⟨(rng [(0,9),(11,3),(21,55),(98,53)]),[0,1,2,3,4],[],[]⟩) (o:=[bF]) (l:=[_]) (by kernel_rfl) (gc (bO h0) gn)
end
section

theorem bFs{α:Type}{Q:List α→Prop}(h0:Q [])(hs:∀ l x,Q l→Q (l++[x]))(l:List α):Q l:=by
 have key:∀ r:List α,Q r.reverse:=fun r=>by
  induction r with
  | nil=>exact h0
  | cons a r ih=>rw [List.reverse_cons];exact hs _ _ ih
 have:=key l.reverse
 rwa [List.reverse_reverse] at this
def kV(L:Lqq)(t:Int):Nat:=(L.filter fun x=>decide (x.getD 2 0<t)).length
theorem aFf(L:Lqq)(x:List Int)(t:Int):kV (L++[x]) t=kV L t+if x.getD 2 0<t then 1 else 0:=by
 unfold kV;rw [qC,lP]
 congr 1
 by_cases h:x.getD 2 0<t
 ·rw [if_pos h,List.filter_cons,if_pos (decide_eq_true h)];rfl
 ·rw [if_neg h,List.filter_cons,if_neg (by rw [decide_eq_false h];simp)];rfl
theorem aCe(L:Lqq):L.Pairwise (fun a b=>a.getD 2 0≤b.getD 2 0)→iT L=L.map fun x=>[x.getD 0 0,(kV L (x.getD 2 0):Int)+1,x.getD 2 0]:=by
 refine bFs (Q:=fun L=>L.Pairwise (fun a b=>a.getD 2 0≤b.getD 2 0)→iT L=L.map fun x=>[x.getD 0 0,(kV L (x.getD 2 0):Int)+1,x.getD 2 0]) (fun _=>rfl) (fun l x ih hp => ?_) L
 obtain ⟨h1,_,h3⟩:=List.pairwise_append.1 hp;have h4:∀ a∈l,a.getD 2 0≤x.getD 2 0:=fun a ha=>h3 a ha x (by simp)
 have e:iT (l++[x])=iT l++[[x.getD 0 0,plN (iT l) (x.getD 2 0),x.getD 2 0]]:=by
  unfold iT;rw [aCq];rfl
 rw [e,ih h1,iG]
 congr 1
 ·refine aCp fun y hy => ?_
  rw [aFf,if_neg (by have:=h4 y hy;omega)];rfl
 ·have hx:kV (l++[x]) (x.getD 2 0)=kV l (x.getD 2 0):=by rw [aFf,if_neg (by omega)];rfl
  show [[x.getD 0 0,plN _ (x.getD 2 0),x.getD 2 0]]=[[x.getD 0 0,(kV (l++[x]) (x.getD 2 0):Int)+1,x.getD 2 0]];rw [hx]
  congr 3
  rcases List.eq_nil_or_concat l with rfl | ⟨m,y,rfl⟩
  ·rfl
  ·rw [List.concat_eq_append] at *
   unfold plN;rw [iG,iH,List.map_nil,List.getLast?_concat];show (if y.getD 2 0=x.getD 2 0 then (kV (m++[y]) (y.getD 2 0):Int)+1 else _)=_
   by_cases hc:y.getD 2 0=x.getD 2 0
   ·rw [if_pos hc,hc]
   ·rw [if_neg hc]
    have h5:=h4 y (by simp)
    have h6:kV (m++[y]) (x.getD 2 0)=(m++[y]).length:=by
     unfold kV;rw [List.filter_eq_self.2];intro a ha;refine decide_eq_true ?_
     rcases iF.1 ha with ha | ha
     ·have:=(List.pairwise_append.1 h1).2.2 a ha y (by simp)
      omega
     ·obtain rfl:a=y:=by simpa using ha
      omega
    rw [h6];simp
section
variable {dl:Int} {oc:List Int} {sk dc:Lqq}
def bUi(a b:List Int):Prop:=(b.getD 1 0 = -1→a.getD 1 0 = -1→a.getD 0 0<b.getD 0 0)∧(b.getD 1 0 ≠ -1→a.getD 1 0 ≠ -1∧a.getD 2 0≤b.getD 2 0∧(a.getD 2 0=b.getD 2 0→a.getD 0 0<b.getD 0 0))
def inL(t:Int)(y:List Int):Bool:=decide (y.getD 1 0 ≠ -1∧y.getD 2 0<t)
theorem bFt(hs:sk.Pairwise fun a b=>a.getD 0 0<b.getD 0 0) :
  (dA dl oc dc sk).Pairwise bUi ∧
  (∀ y∈dA dl oc dc sk,y.getD 1 0 ≠ -1→y.getD 1 0=1+(((dA dl oc dc sk).filter (inL (y.getD 2 0))).length:Int)) ∧
  (∀ y∈dA dl oc dc sk,∃ s∈sk,s.getD 0 0=y.getD 0 0∧cP dl oc dc (sB s) (sT s)=(y.getD 2 0,decide (y.getD 1 0 = -1))):=by
 have hI0:(eR dl oc dc sk).Pairwise fun a b=>a.getD 0 0<b.getD 0 0:=by
  unfold eR;rw [List.pairwise_map];exact (hs.sublist List.filter_sublist)
 have hO:(eY dl oc dc sk).Pairwise fun a b=>a.getD 0 0<b.getD 0 0:=by
  unfold eY;rw [List.pairwise_map];exact (hs.sublist List.filter_sublist)
 have s1:=oY (f:=fun x:List Int=>x.getD 2 0) (fun x y=>aHn 2 x y) (eR dl oc dc sk)
 have s2:=aHp (f:=fun x:List Int=>x.getD 2 0) (g:=fun x:List Int=>x.getD 0 0) (fun x y=>aHn 2 x y) (eR dl oc dc sk) hI0
 have hpl:=aCe _ s1;have hmI:∀ x,x∈isort (ltK 2) (eR dl oc dc sk)→x∈eR dl oc dc sk:=fun x hx=>(rJ _ _ x).1 hx
 have e:dA dl oc dc sk=((isort (ltK 2) (eR dl oc dc sk)).map fun x=>[x.getD 0 0,(kV (isort (ltK 2) (eR dl oc dc sk)) (x.getD 2 0):Int)+1,x.getD 2 0])++eY dl oc dc sk:=by
  unfold dA;rw [hpl]
 generalize isort (ltK 2) (eR dl oc dc sk)=I at s1 s2 hmI e
 have o1:∀ y∈eY dl oc dc sk,y.getD 1 0 = -1:=fun y hy=>by
  unfold eY at hy
  obtain ⟨s,_,rfl⟩:=dU.1 hy;rfl
 refine ⟨?_,?_,?_⟩
 ·rw [e]
  refine List.pairwise_append.2 ⟨?_,?_,?_⟩
  ·rw [List.pairwise_map]
   refine s2.imp fun {a b} h => ?_
   refine ⟨fun h1=>absurd h1 ?_,fun _=>⟨?_,?_,?_⟩⟩
   ·show (kV I (b.getD 2 0):Int)+1 ≠ -1
    omega
   ·show (kV I (a.getD 2 0):Int)+1 ≠ -1
    omega
   ·show a.getD 2 0≤b.getD 2 0
    omega
   ·show a.getD 2 0=b.getD 2 0→a.getD 0 0<b.getD 0 0
    omega
  ·refine hO.imp_of_mem fun {a b} ha hb h=>⟨fun _ _=>h,fun h1=>absurd (o1 b hb) h1⟩
  ·intro a ha b hb
   obtain ⟨x,_,rfl⟩:=dU.1 ha;refine ⟨fun _ h1=>absurd h1 ?_,fun h1=>absurd (o1 b hb) h1⟩
   show (kV I (x.getD 2 0):Int)+1 ≠ -1;omega
 ·have hc:∀ t,((dA dl oc dc sk).filter (inL t)).length=kV I t:=fun t=>by
   rw [e,qC,lP];have z:(eY dl oc dc sk).filter (inL t)=[]:=by
    rw [List.filter_eq_nil_iff];intro y hy;unfold inL;rw [o1 y hy];simp
   rw [z,List.filter_map,eZ];unfold kV;rw [List.length_nil,Nat.add_zero]
   congr 1
   refine List.filter_congr fun x _ => ?_
   show decide ((kV I (x.getD 2 0):Int)+1 ≠ -1∧x.getD 2 0<t)=decide (x.getD 2 0<t)
   by_cases hx:x.getD 2 0<t
   ·rw [decide_eq_true hx,decide_eq_true ⟨by omega,hx⟩]
   ·rw [decide_eq_false hx,decide_eq_false fun h=>hx h.2]
  intro y hy h1;rw [hc];rw [e] at hy
  rcases iF.1 hy with hy | hy
  ·obtain ⟨x,_,rfl⟩:=dU.1 hy
   show (kV I (x.getD 2 0):Int)+1=1+(kV I (x.getD 2 0):Int);omega
  ·exact absurd (o1 y hy) h1
 ·intro y hy
  rw [e] at hy
  rcases iF.1 hy with hy | hy
  ·obtain ⟨x,hx,rfl⟩:=dU.1 hy
   have hx':=hmI x hx;unfold eR at hx'
   obtain ⟨s,hs',rfl⟩:=dU.1 hx';obtain ⟨m1,m2⟩:=aAn.1 hs';refine ⟨s,m1,rfl,?_⟩;have m3:(cP dl oc dc (sB s) (sT s)).2=false:=by simpa using m2
   have m4:(decide ((kV I (cP dl oc dc (sB s) (sT s)).1:Int)+1 = -1))=false:=decide_eq_false (by omega)
   show cP dl oc dc (sB s) (sT s)=((cP dl oc dc (sB s) (sT s)).1,decide ((kV I (cP dl oc dc (sB s) (sT s)).1:Int)+1 = -1));rw [m4];exact Prod.ext rfl m3
  ·unfold eY at hy
   obtain ⟨s,hs',rfl⟩:=dU.1 hy;obtain ⟨m1,m2⟩:=aAn.1 hs';refine ⟨s,m1,rfl,?_⟩;show cP dl oc dc (sB s) (sT s)=(0,true);unfold cP at m2 ⊢
   split at m2
   ·rename_i h;rw [if_pos h]
   ·cases m2
def bAm(f:List Int→Int × Bool)(S:Lqq)(t:Int):Nat:=(S.filter fun j => !(f j).2 && decide ((f j).1<t)).length
theorem bFu(hs:sk.Pairwise fun a b=>a.getD 0 0<b.getD 0 0)(t:Int):((dA dl oc dc sk).filter (inL t)).length=bAm (fun s=>cP dl oc dc (sB s) (sT s)) sk t:=by
 have s1:=oY (f:=fun x:List Int=>x.getD 2 0) (fun x y=>aHn 2 x y) (eR dl oc dc sk)
 have hp:=aQb (ltK 2) (eR dl oc dc sk);unfold dA;rw [qC,lP,aCe _ s1];have z:(eY dl oc dc sk).filter (inL t)=[]:=by
  rw [List.filter_eq_nil_iff];intro y hy;unfold eY at hy
  obtain ⟨s,_,rfl⟩:=dU.1 hy;simp [inL]
 rw [z,List.filter_map,eZ,List.length_nil,Nat.add_zero];have e1:∀ (I J:Lqq),(J.filter (inL t ∘ fun x=>[x.getD 0 0,(kV I (x.getD 2 0):Int)+1,x.getD 2 0]))=J.filter fun x=>decide (x.getD 2 0<t):=fun I J=>by
  refine List.filter_congr fun x _ => ?_
  show decide ((kV I (x.getD 2 0):Int)+1 ≠ -1∧x.getD 2 0<t)=decide (x.getD 2 0<t)
  by_cases hx:x.getD 2 0<t
  ·rw [decide_eq_true hx,decide_eq_true ⟨by omega,hx⟩]
  ·rw [decide_eq_false hx,decide_eq_false fun h=>hx h.2]
 rw [e1,(hp.filter _).length_eq];unfold eR bAm;rw [List.filter_map,eZ,List.filter_filter]
 congr 1
 refine List.filter_congr fun s _ => ?_
 show (decide ((cP dl oc dc (sB s) (sT s)).1<t) && !(cP dl oc dc (sB s) (sT s)).2)=_;rw [Bool.and_comm]
def wR(f:List Int→Int × Bool)(S:Lqq)(k:List Int):Int:=if (f k).2 then -1 else 1+(bAm f S (f k).1:Int)
theorem bFv(hs:sk.Pairwise fun a b=>a.getD 0 0<b.getD 0 0){k:List Int}(hk:k∈sk) :
  (dA dl oc dc sk).find? (fun y=>decide (y.getD 0 0=k.getD 0 0))=some [k.getD 0 0,wR (fun s=>cP dl oc dc (sB s) (sT s)) sk k,(cP dl oc dc (sB k) (sT k)).1]:=by
 obtain ⟨_,q2,q3⟩:=bFt (dl:=dl) (oc:=oc) (dc:=dc) hs;have hn:(aK sk 0).Nodup:=by
  unfold aK;rw [List.Nodup,List.pairwise_map];exact hs.imp fun h=>by omega
 cases hf:(dA dl oc dc sk).find? (fun y=>decide (y.getD 0 0=k.getD 0 0)) with
 | none =>
  exfalso
  have hno:=aAl.1 hf;have hno':∀ y∈dA dl oc dc sk,y.getD 0 0≠k.getD 0 0:=fun y hy e=>hno y hy (decide_eq_true e)
  cases ho:(cP dl oc dc (sB k) (sT k)).2 with
  | true =>
   refine hno' [sB k,-1,0] (aAj _ ?_) rfl;unfold eY;exact dU.2 ⟨k,aAn.2 ⟨hk,ho⟩,rfl⟩
  | false =>
   have s1:=oY (f:=fun x:List Int=>x.getD 2 0) (fun x y=>aHn 2 x y) (eR dl oc dc sk)
   have hm:[sB k,0,(cP dl oc dc (sB k) (sT k)).1]∈isort (ltK 2) (eR dl oc dc sk):=by
    rw [rJ];unfold eR;exact dU.2 ⟨k,aAn.2 ⟨hk,by rw [ho];rfl⟩,rfl⟩
   have hmem:[sB k,(kV (isort (ltK 2) (eR dl oc dc sk)) (cP dl oc dc (sB k) (sT k)).1:Int)+1,(cP dl oc dc (sB k) (sT k)).1]∈dA dl oc dc sk:=by
    unfold dA;rw [aCe _ s1];exact mR _ (dU.2 ⟨_,hm,rfl⟩)
   exact hno' _ hmem rfl
 | some y =>
  have hy:=uE hf;have hb:y.getD 0 0=k.getD 0 0:=by simpa using aNg hf
  obtain ⟨y0,y1,y2,rfl⟩:=len3 (qR y hy);obtain ⟨s,h1,h2,h3⟩:=q3 _ hy;obtain rfl:s=k:=yM hn h1 hk (h2.trans hb);have h3':cP dl oc dc (sB s) (sT s)=(y2,decide (y1 = -1)):=h3;have hb':y0=s.getD 0 0:=hb;rw [Option.some.injEq,hb',h3']
  congr 2
  unfold wR;dsimp only
  by_cases hy1:y1 = -1
  ·rw [if_pos (by rw [h3'];exact decide_eq_true hy1)];exact hy1
  ·rw [if_neg (by rw [h3'];simpa using hy1),h3']
   have:=q2 _ hy hy1;rw [bFu hs] at this
   exact this
end
end
section
section
variable {dl:Int} {oc:List Int} {D:Lqq} {x:List Int}
theorem bFr{y:List Int}{t:List DS}{s:DS}(h:dAb s.x≠dN y):mkS dl oc y (t++[s])=mkS dl oc y t:=by
 have e:jW (t++[s]) (dN y)=jW t (dN y):=by
  unfold jW;rw [List.reverse_append,List.reverse_singleton,List.singleton_append,List.filter_cons_of_neg];simpa using h
 unfold mkS;rw [e]
theorem wQ:∀ {D:Lqq},(∀ y∈D,dAb x≠dN y)→hZ dl oc (D++[x])=hZ dl oc D++[mkS dl oc x []]
 | [],_=>rfl
 | y::D,h=>by
  rw [List.cons_append,hZ,hZ,wQ fun z hz=>h z (kQ6 _ hz),bFr (h y (jK ..))]
  rfl
theorem aLj(h:∀ y∈D,dAb x≠dN y){y:List Int}(hy:y∈D):stF dl oc (D++[x]) y=stF dl oc D y:=by
 unfold stF;rw [wQ h,List.find?_append];have:((hZ dl oc D).find? fun s=>s.x == y).isSome=true:=by
  rw [List.find?_isSome];rw [← aGx dl oc D] at hy
  obtain ⟨s,h1,h2⟩:=dU.1 hy;exact ⟨s,h1,by rw [h2];exact beq_self_eq_true y⟩
 obtain ⟨s,hs⟩:=Option.isSome_iff_exists.1 this;rw [hs];rfl
theorem aLk(h:∀ y∈D,dAb x≠dN y)(hx:x∉D):stF dl oc (D++[x]) x=mkS dl oc x []:=by
 unfold stF;rw [wQ h,List.find?_append];have:((hZ dl oc D).find? fun s=>s.x == x)=none:=by
  rw [aAl];intro s hs he;have h1:s.x∈(hZ dl oc D).map (·.x):=dU.2 ⟨s,hs,rfl⟩
  rw [aGx] at h1
  have:s.x=x:=by simpa using he
  exact hx (this ▸ h1)
 rw [this];show ([mkS dl oc x []].find? fun s=>s.x == x).getD _=_
 rw [List.find?_cons_of_pos (by show ((mkS dl oc x []).x == x)=true;exact beq_self_eq_true x)]
 rfl
theorem vC{α β:Type}(f g:β→α→β):∀ (l:List α) (b:β),(∀ x∈l,∀ b,f b x=g b x)→l.foldl f b=l.foldl g b
 | [],_,_=>rfl
 | x::l,b,h=>by
  rw [sQ,sQ,h x (jK ..),vC f g l _ fun y hy=>h y (kQ6 _ hy)]
theorem rK(h:∀ y∈D,dAb x≠dN y)(hx:x∉D)(hk:dK x=0∨dK x=1∨dK x=3)(b t:Int) :
  aCs dl oc (D++[x]) b t=if dB x=b then ((aCs dl oc D b t).1 || dK x == 3,byI (dK x) (aCs dl oc D b t).2 (dMu x)) else aCs dl oc D b t:=by
 unfold aCs;rw [aCq];have e:D.foldl (aCr dl oc (D++[x]) b) (t == -1,t)=D.foldl (aCr dl oc D b) (t == -1,t):=vC _ _ _ _ fun y hy a=>by
  unfold aCr aOd dM aCu nP;rw [aLj h hy]
 rw [e];show aCr dl oc (D++[x]) b _ x=_;have hc:dM dl oc (D++[x]) x=true:=by
  unfold dM;rw [aLk h hx];have:eN (dK x)=false:=by unfold eN;rcases hk with q | q | q <;> rw [q] <;> rfl
  show (!kY dl x && !(([]:List DS).reverse.filter _).any _)=true;unfold kY;rw [this];rfl
 have hm:nP dl oc (D++[x]) x=dMu x:=by
  unfold nP;rw [aLk h hx];rfl
 have h4:decide (dK x≤4)=true:=decide_eq_true (by omega)
 have h5:(dK x == 4)=false:=by rcases hk with q | q | q <;> rw [q] <;> rfl
 unfold aCr aOd;rw [hc,hm,h4,h5]
 by_cases hb:dB x=b
 ·rw [if_pos hb,hb];simp
 ·rw [if_neg hb]
  have:(dB x == b)=false:=by simpa using hb
  rw [this];simp
theorem aQo(h:∀ y∈D,dAb x≠dN y)(hk:eN (dK x)=false):aO dl (D++[x])=aO dl D:=by
 unfold aO;rw [qC];have e1:D.filter (kP dl (D++[x]))=D.filter (kP dl D):=List.filter_congr fun y hy=>by
  unfold kP dM rM;rw [aLj h hy]
 have e2:[x].filter (kP dl (D++[x]))=[]:=by
  rw [List.filter_eq_nil_iff];intro y hy;rw [List.mem_singleton.1 hy];unfold kP;rw [hk];simp
 rw [e1,e2,List.append_nil]
end
theorem aQp{l:Lqq}{x:List Int}(hn:(aK (l++[x]) 0).Nodup)(h:∀ y∈l,y.getD 0 0≤x.getD 0 0):aB (l++[x])=aB l++[x]:=by
 refine (aAy hn ((dH l).append_right [x]) ?_).symm;rw [List.pairwise_append];refine ⟨lE l,List.pairwise_singleton _ _,fun a ha b hb => ?_⟩
 rw [List.mem_singleton.1 hb];exact h a ((dH l).mem_iff.1 ha)
theorem aFe{f g:List Int→Int × Bool}{S:Lqq}{t u:Int}(h:∀ j∈S,(f j).2=false→(f j).1<t→(g j).2=false∧(g j).1<u):bAm f S t≤bAm g S u:=by
 unfold bAm
 induction S with
 | nil=>exact dS _
 | cons a S ih =>
  have ih:=ih fun j hj=>h j (kQ6 _ hj)
  have ha:=h a (jK ..);rw [List.filter_cons,List.filter_cons]
  by_cases h1:(f a).2=false∧(f a).1<t
  ·obtain ⟨q1,q2⟩:=ha h1.1 h1.2
   rw [if_pos (by rw [h1.1,decide_eq_true h1.2];rfl),if_pos (by rw [q1,decide_eq_true q2];rfl),pG,pG]
   omega
  ·rw [if_neg (by
    intro q;rw [kQ7] at q
    exact h1 ⟨by simpa using q.1,by simpa using q.2⟩)]
   split
   ·rw [pG];omega
   ·exact ih
theorem aCd{f g:List Int→Int × Bool}{S:Lqq}{s:List Int}(hs:s∈S)(hne:∀ j∈S,j≠s→g j=f j)(h:(g s).2=true∨((g s).2=(f s).2∧(f s).1≤(g s).1)) :
  (∀ k∈S,k≠s→yA (wR f S k) (wR g S k)=false)∧yA (wR g S s) (wR f S s)=false:=by
 have key:∀ (u:Int) (j:List Int),j∈S→(g j).2=false→(g j).1<u→(f j).2=false∧(f j).1<u:=fun u j hj h1 h2=>by
  by_cases e:j=s
  ·subst e
   rcases h with q | ⟨q1,q2⟩
   ·rw [q] at h1;cases h1
   ·exact ⟨by rw [← q1];exact h1,by omega⟩
  ·rw [hne j hj e] at h1 h2;exact ⟨h1,h2⟩
 refine ⟨fun k hk e => ?_,?_⟩
 ·refine decide_eq_false fun q => ?_
  unfold wR at q
  rw [hne k hk e] at q
  obtain ⟨q1,q2⟩:=q;cases ho:(f k).2 with
  | true=>rw [ho] at q1;simp at q1
  | false =>
   rw [ho] at q2
   simp only [Bool.false_eq_true,if_false] at q2
   have:=aFe (f:=g) (g:=f) (S:=S) (t:=(f k).1) (u:=(f k).1) (key _);omega
 ·refine decide_eq_false fun q => ?_
  unfold wR at q
  obtain ⟨q1,q2⟩:=q;cases ho:(g s).2 with
  | true=>rw [ho] at q1;simp at q1
  | false =>
   rcases h with q | ⟨q3,q4⟩
   ·rw [q] at ho;cases ho
   ·rw [ho] at q3 q2
    rw [← q3] at q2
    simp only [Bool.false_eq_true,if_false] at q2
    have:=aFe (f:=f) (g:=g) (S:=S) (t:=(f s).1) (u:=(g s).1) (fun j hj h1 h2=>by
     by_cases e:j=s
     ·subst e;omega
     ·rw [hne j hj e];exact ⟨h1,by omega⟩)
    omega
end
section
section
variable {dl:Int} {oc:List Int} {D:Lqq} {x:List Int}
theorem bGt(h:∀ y∈D,dAb x≠dN y)(hx:x∉D)(hk:dK x=0∨dK x=1∨dK x=3){b t:Int}(hb:dB x≠b):cP dl oc (D++[x]) b t=cP dl oc D b t:=by
 unfold cP;rw [rK h hx hk,if_neg hb]
theorem bCa(h:∀ y∈D,dAb x≠dN y)(hx:x∉D)(hk:dK x=3){b t:Int}(hb:dB x=b):(cP dl oc (D++[x]) b t).2=true:=by
 unfold cP;rw [rK h hx (.inr (.inr hk)),if_pos hb,hk];simp
theorem bCb(h:∀ y∈D,dAb x≠dN y)(hx:x∉D)(hk:dK x=0)(hm:0≤dMu x){b t:Int}(hb:dB x=b):(cP dl oc (D++[x]) b t).2=(cP dl oc D b t).2∧(cP dl oc D b t).1≤(cP dl oc (D++[x]) b t).1:=by
 unfold cP;rw [rK h hx (.inl hk),if_pos hb,hk];cases (aCs dl oc D b t).1 with
 | true=>simp
 | false =>
  simp only [byI];have hm2:=hm;simp only [dMu,kQ4] at hm2
  refine ⟨by simp,?_⟩
  simp;omega
theorem bCc(h:∀ y∈D,dAb x≠dN y)(hx:x∉D)(hk:dK x=1)(hm:0≤dMu x){b t:Int}(hb:dB x=b):(cP dl oc D b t).2=(cP dl oc (D++[x]) b t).2∧(cP dl oc (D++[x]) b t).1≤(cP dl oc D b t).1:=by
 unfold cP;rw [rK h hx (.inr (.inl hk)),if_pos hb,hk];cases (aCs dl oc D b t).1 with
 | true=>simp
 | false =>
  simp only [byI];have hm2:=hm;simp only [dMu,kQ4] at hm2
  refine ⟨by simp,?_⟩
  simp;omega
end
theorem cR.more{dl:Int}{sk dc:Lqq}{x:List Int}(h:cR dl sk dc)(hl:dc.length<40)(h6:x.length=6)(h1:dcB x=true)(h2:inB sk x=true)(h3:orB x=true)(hn:∀ y∈dc,y.getD 0 0≠x.getD 0 0):cR dl sk (dc++[x]):=by
 have mem:∀ {p:List Int→Prop},(∀ y∈dc,p y)→p x→∀ y∈dc++[x],p y:=fun h hx y hy=>by
  rcases iF.1 hy with hy | hy
  ·exact h y hy
  ·rw [List.mem_singleton.1 hy];exact hx
 refine ⟨h.us,mem h.ud h6,h.len,by simp;omega,h.hdl,h.hsk,mem h.hdc h1,h.ns,?_,mem h.inb h2,mem h.ord h3⟩
 unfold aK;rw [iG,List.nodup_append];refine ⟨h.nd,by simp,fun a ha b hb => ?_⟩
 obtain ⟨y,hy,rfl⟩:=dU.1 ha;obtain rfl:b=x.getD 0 0:=by simpa using hb
 exact hn y hy
theorem aJs{dl:Int}{D:Lqq}{u:List Int}(hd:D.Pairwise fun a b=>dN a<dN b)(hu:u.Sublist (aO dl D)):aQm dl D u=0:=by
 have h1:(aO dl D).Pairwise (· < ·):=by
  unfold aO;rw [List.pairwise_map];exact hd.sublist List.filter_sublist
 have h2:=h1.sublist hu;unfold aQm;rw [if_pos (gD.2 fun n hn=>by
  unfold ocB;rw [List.contains_iff_mem];exact hu.subset hn),if_pos]
 unfold rX;rw [gD];intro i hi;have hi:=vR.1 hi
 rcases Nat.eq_zero_or_pos i with rfl | h0
 ·rfl
 ·rw [aGd]
  refine .inr (decide_eq_true ?_);have:=List.pairwise_iff_getElem.1 h2 (i-1) i (by omega) hi (by omega)
  rw [kQ4,kQ4,kQ0 hi,kQ0 (show i-1<u.length by omega)]
  exact this
theorem aUs{dl:Int}{sk dc:Lqq}(h:cR dl sk dc):(aB sk).Pairwise fun a b=>a.getD 0 0<b.getD 0 0:=by
 have h1:=lE sk;have h2:(aB sk).Pairwise fun a b=>a.getD 0 0≠b.getD 0 0:=by
  have:=xN h.ns;unfold aK at this
  exact List.pairwise_map.1 this
 exact (h1.and h2).imp fun {a b} h=>by have:=h.1;have:=h.2;omega
theorem aRm{dl:Int}{oc:List Int}{sk dc D:Lqq}(h:cR dl sk dc){k:List Int}(hk:k∈aB sk):xK (dA dl oc D (aB sk)) (k.getD 0 0)=[k.getD 0 0,wR (fun s=>cP dl oc D (sB s) (sT s)) (aB sk) k,(cP dl oc D (sB k) (sT k)).1]:=by
 unfold xK;rw [bFv (aUs h) hk];rfl
def ds3(n b m:Int):Lqq:=[[n,0,0,b,m,0],[n,1,0,b,m,0],[n,3,0,b,0,0]]
theorem aUt{sk0 dc1:Lqq}{u6:List Int}{y4 y5 mu:Int}(hr:cR 30 sk0 dc1)(hl:dc1.length<40)(hsl:sk0.length<20)(hs:[y4,y5]∈sk0)(hb:∀ x∈dc1,x.getD 0 0≤80)(hm:0≤mu∧mu≤255)(hu:u6.Sublist (aO 30 (aB dc1))){i:Nat}(hi:i<3) :
  aC Tp 0 (sub (cd Tryz.f3) [1,1,1,1,1,1,1,1,1,1,0,1,0,0]) (lR sk0 dc1 y4 y5 u6 i (ds3 (cH dc1) y4 mu).length ((ds3 (cH dc1) y4 mu).flatten.map aA)) .normal (lR sk0 dc1 y4 y5 u6 (i+1) (ds3 (cH dc1) y4 mu).length ((ds3 (cH dc1) y4 mu).flatten.map aA)):=by
 obtain ⟨hn1,hn2,hn3⟩:=aAr (dc:=dc1) (b:=80) (by omega) hb
 obtain ⟨kk,mm,hx,hk,hmm,hc⟩:∃ kk mm,(ds3 (cH dc1) y4 mu)[i]? = some [cH dc1,kk,0,y4,mm,0]∧(kk=0∨kk=1∨kk=3)∧(0≤mm∧mm≤255∧(kk=3→mm=0))∧(kk=1↔(i:Int)=1):=by
  rcases (show i=0∨i=1∨i=2 by omega) with rfl | rfl | rfl
  ·exact ⟨0,mu,rfl,by omega,⟨by omega,by omega,by omega⟩,by omega⟩
  ·exact ⟨1,mu,rfl,by omega,⟨by omega,by omega,by omega⟩,by omega⟩
  ·exact ⟨3,0,rfl,by omega,⟨by omega,by omega,by omega⟩,by omega⟩
 have hds:uni 6 (ds3 (cH dc1) y4 mu):=fun y hy=>by
  unfold ds3 at hy
  rcases gO.1 hy with rfl | hy
  ·rfl
  rcases gO.1 hy with rfl | hy
  ·rfl
  rw [List.mem_singleton.1 hy];rfl
 have hbib:y4∈aK sk0 0:=dU.2 ⟨_,hs,rfl⟩;have hr':cR 30 sk0 (dc1++[[cH dc1,kk,0,y4,mm,0]]):=hr.more hl rfl (gP.2 (by
   show (1≤cH dc1∧cH dc1≤9999)∧(0≤kk∧kk≤9)∧((0:Int)≤0∧(0:Int)≤10000)∧0≤mm∧mm≤kO kk;refine ⟨by omega,by omega,by omega,hmm.1,?_⟩
   unfold kO
   split
   ·rename_i h
    rcases h with h | h
    ·have:=hmm.2.2 h;omega
    ·omega
   ·omega))
  (by
   show (if kk≤4 then (aK sk0 0).contains y4 else _)=true
   rw [if_pos (by omega),List.contains_iff_mem]
   exact hbib)
  (by
   show (if kk≤4 then ((0:Int) == 0) else _)=true
   rw [if_pos (by omega)];rfl)
  (fun y hy=>by
   have:=hn3 y hy;show y.getD 0 0≠cH dc1;omega)
 have hD:bY (aB dc1):=iK hr;have hpos:∀ y∈aB dc1,dAb [cH dc1,kk,0,y4,mm,0]≠dN y:=fun y hy=>by
  have:=(gP.1 (hD.rng y hy)).1.1;show (0:Int)≠y.getD 0 0;omega
 have hnot:[cH dc1,kk,0,y4,mm,0]∉aB dc1:=fun q=>by
  have:=hn3 _ ((dH dc1).mem_iff.1 q);have:cH dc1<cH dc1:=this;omega
 have hsort:aB (dc1++[[cH dc1,kk,0,y4,mm,0]])=aB dc1++[[cH dc1,kk,0,y4,mm,0]]:=aQp hr'.nd fun y hy=>by
  have:=hn3 y hy;show y.getD 0 0≤cH dc1;omega
 have hask:eN (dK [cH dc1,kk,0,y4,mm,0])=false:=by
  show eN kk=false;unfold eN
  rcases hk with q | q | q <;> rw [q] <;> rfl
 have hopen:aO 30 (aB dc1++[[cH dc1,kk,0,y4,mm,0]])=aO 30 (aB dc1):=aQo hpos hask;have hD':=iK hr';have hout:aQm 30 (aB (dc1++[[cH dc1,kk,0,y4,mm,0]])) u6=0:=aJs hD'.up (by rw [hsort,hopen];exact hu)
 have hul:u6.length≤1000:=by
  have:=hu.length_le;have:=wP (dl:=30) hD;omega
 have hsm:[y4,y5]∈aB sk0:=(dH sk0).mem_iff.2 hs;have hnod:=xN hr.ns;have hkd:dK [cH dc1,kk,0,y4,mm,0]=0∨dK [cH dc1,kk,0,y4,mm,0]=1∨dK [cH dc1,kk,0,y4,mm,0]=3:=hk;have hne:∀ j∈aB sk0,j≠[y4,y5]→cP 30 u6 (aB dc1++[[cH dc1,kk,0,y4,mm,0]]) (sB j) (sT j)=cP 30 u6 (aB dc1) (sB j) (sT j):=fun j hj hje=>bGt hpos hnot hkd fun e=>hje (yM hnod hj hsm e.symm)
 have main:∀ k∈aB sk0,
   (((k.getD 0 0 == y4) == ((i:Int) == (1:Int)))=false→yA (wR (fun s=>cP 30 u6 (aB dc1++[[cH dc1,kk,0,y4,mm,0]]) (sB s) (sT s)) (aB sk0) k) (wR (fun s=>cP 30 u6 (aB dc1) (sB s) (sT s)) (aB sk0) k)=false) ∧
   (((k.getD 0 0 == y4) == ((i:Int) == (1:Int)))=true→yA (wR (fun s=>cP 30 u6 (aB dc1) (sB s) (sT s)) (aB sk0) k) (wR (fun s=>cP 30 u6 (aB dc1++[[cH dc1,kk,0,y4,mm,0]]) (sB s) (sT s)) (aB sk0) k)=false):=by
  intro k hk';have hks:k.getD 0 0=y4→k=[y4,y5]:=fun e=>yM hnod hk' hsm e
  by_cases h1:kk=1
  ·have hi1:((i:Int) == (1:Int))=true:=by simpa using hc.1 h1
   rw [hi1];have P:=aCd (f:=fun s=>cP 30 u6 (aB dc1++[[cH dc1,kk,0,y4,mm,0]]) (sB s) (sT s)) (g:=fun s=>cP 30 u6 (aB dc1) (sB s) (sT s)) hsm (fun j hj hje=>(hne j hj hje).symm) (.inr (bCc hpos hnot h1 hmm.1 rfl))
   constructor
   ·intro q
    have:k≠[y4,y5]:=fun e=>by rw [e] at q;simp at q
    exact P.1 k hk' this
   ·intro q
    have:k=[y4,y5]:=hks (by simpa using q)
    rw [this];exact P.2
  ·have hi1:((i:Int) == (1:Int))=false:=by
    have:¬ (i:Int)=1:=fun e=>h1 (hc.2 e)
    simpa using this
   rw [hi1];have P:=aCd (f:=fun s=>cP 30 u6 (aB dc1) (sB s) (sT s)) (g:=fun s=>cP 30 u6 (aB dc1++[[cH dc1,kk,0,y4,mm,0]]) (sB s) (sT s)) hsm hne (by
    rcases hk with q | q | q
    ·exact .inr (bCb hpos hnot q hmm.1 rfl)
    ·exact absurd q h1
    ·exact .inl (bCa hpos hnot q rfl))
   constructor
   ·intro q
    have:k=[y4,y5]:=hks (by simpa using q)
    rw [this];exact P.2
   ·intro q
    have:k≠[y4,y5]:=fun e=>by rw [e] at q;simp at q
    exact P.1 k hk' this
 have hslen:=hr.len;have hR1:(dA 30 u6 (aB dc1) (aB sk0)).length≤1000:=by rw [aLi,fU];omega
 have hR2:(dA 30 u6 (aB (dc1++[[cH dc1,kk,0,y4,mm,0]])) (aB sk0)).length≤1000:=by rw [aLi,fU];omega
 have hL1:=aI.count (P:=Tp) (k:=0) (b:=sub (cd Tryz.f3) [1,1,1,1,1,1,1,1,1,1,0,1,0,0,1,1,0,0,1,1,1,1,0,0]) (e := .exit 2) (R:=lS sk0 dc1 y4 y5 u6 i (ds3 (cH dc1) y4 mu) (cH dc1) kk 0 y4 mm 0 sk0.length) sk0.length
  (fun k=>lS sk0 dc1 y4 y5 u6 i (ds3 (cH dc1) y4 mu) (cH dc1) kk 0 y4 mm 0 k)
  (fun k hk2=>by
   have hm0:=gX hk2;obtain ⟨a,t,ha⟩:=len2 (hr.us _ hm0);have hxk:sk0[k]? = some [a,t]:=by rw [kQ0 hk2,ha]
   rw [ha] at hm0
   have hm1:[a,t]∈aB sk0:=(dH sk0).mem_iff.2 hm0;have l1:=aRm (dl:=30) (oc:=u6) (D:=aB dc1) hr hm1;have l2:=aRm (dl:=30) (oc:=u6) (D:=aB (dc1++[[cH dc1,kk,0,y4,mm,0]])) hr hm1;obtain ⟨m1,m2⟩:=main _ hm1;rw [← hsort] at m1 m2
   have hin:inR (((k+1):Nat):Int):=aP (by omega)
   cases hq:((a == y4) == ((i:Int) == (1:Int))) with
   | false=>exact aUw (by omega) hxk hr.us qR hR1 l1 qR hR2 l2 rfl rfl hq (m1 hq) hin rfl
   | true=>exact aUx (by omega) hxk hr.us qR hR1 l1 qR hR2 l2 rfl rfl hq (m2 hq) hin rfl)
  (aUy (by omega)) (by simp)
 have hll:dc1.length≤1000:=by omega
 exact aUu (by omega) hx hds hr.us (by omega) hr.ud hll hr' hsl hul hout hL1 (aP (by omega)) rfl
theorem bMm(hA:∀ {base:Nat},FV Tp 26 [] base (.p (blP true)) [])(l1 l2:List Int)(wh mu:Int)(hw:0≤wh∧wh≤255)(hm:0≤mu∧mu≤255){base:Nat}:FV Tp 3 [.p (.sl l1.length (l1.map aN)),.p (.sl l2.length (l2.map aN)),.p (.v (.int .u8 wh)),.p (.v (.int .u8 mu))] base (.p (blP true)) []:=by
 have M:=aJu (ns:=6) (nd:=14) (l:=l1) (nx:=0) (st:=17) (by decide) (by decide) (by decide)
 rcases hmd:bCe 6 14 l1 0 17 with ⟨sk0,dc1,m2,t3⟩
 rw [hmd] at M
 obtain ⟨hr,hl6,hl14,_,_,_,hb,_,_⟩:=M;dsimp only at hr hl6 hl14 hb
 have hlen:=hr.len
 rcases hs1:aAs (aO 30 (aB dc1)) l2 0 17 with ⟨u6,m7,t8⟩
 have S1:=aNl (aO 30 (aB dc1)) l2 0 17;rw [hs1] at S1
 obtain ⟨hu,_,_⟩:=S1;dsimp only at hu
 have hD:=iK hr;have hol:=wP (dl:=30) hD;have hul:=hu.length_le;have ht:0≤wh.tmod (sk0.length:Int)∧wh.tmod (sk0.length:Int)<(sk0.length:Int):=⟨Int.tmod_nonneg _ hw.1,Int.tmod_lt_of_pos _ (by omega)⟩
 have hidx:(wh.tmod (sk0.length:Int)).toNat<sk0.length:=by omega
 have hm0:=gX hidx;obtain ⟨y4,y5,hy⟩:=len2 (hr.us _ hm0);have hx:sk0[(wh.tmod (sk0.length:Int)).toNat]? = some [y4,y5]:=by rw [kQ0 hidx,hy]
 rw [hy] at hm0
 have hL0:=aI.count (P:=Tp) (k:=0) (b:=sub (cd Tryz.f3) [1,1,1,1,1,1,1,1,1,1,0,1,0,0]) (e := .exit 0) (R:=lR sk0 dc1 y4 y5 u6 3 (ds3 (cH dc1) y4 mu).length ((ds3 (cH dc1) y4 mu).flatten.map aA)) 3
  (fun i=>lR sk0 dc1 y4 y5 u6 i (ds3 (cH dc1) y4 mu).length ((ds3 (cH dc1) y4 mu).flatten.map aA))
  (fun i hi=>aUt hr (by omega) (by omega) hm0 hb hm hu hi) (aUv (by omega)) (by simp)
 exact bMo (by omega) (by omega) (by omega) hmd (by unfold inR;omega) (by omega) hx ht.1 hr.us hr.ud (by omega) (fun x hx=>by have:=hb x hx;omega) hr (by omega) hol hs1 (by omega) (by omega) (aJs hD.up hu) (by unfold inR;omega) hL0 hA
end
end KV
end Go.Proofs
