/- Parts of the proof of JResults: laws of walks, contracts of functions, plain models. No condition. -/
import Derived.Test.YtgejpbmanhlkcaaGreatPJResultsD
set_option linter.unusedVariables false
set_option linter.unusedSimpArgs false
set_option maxRecDepth 100000
namespace Go.Proofs
namespace KV
abbrev kVL (a b c d e f:Nat):List AV:=[.fn 154 [] [.ptr a 0,.ptr b 0,.ptr c 0,.ptr d 0],.fn 156 [] [.ptr e 0],.fn 157 [] [.ptr d 0,.ptr f 0],.fn 160 [] [.ptr d 0],.fn 158 [] [.ptr e 0]]
section
variable {ou inn b101:Bool}{t t100 mn101 mx102:Int}{o o' q102:List Int}{i n s i' few base few' many many':Nat}

noncomputable abbrev uG:Code:=sub (cd Tryz.f142) [1,1,0,1,0,0]
noncomputable abbrev aFy:Code:=sub (cd Tryz.f141) [1,0,1,0,0]
noncomputable abbrev aFz:Code:=sub (cd Tryz.f141) [1,0,1,0,0,1,1,0,0,1,1,1,1,1,0,0]
theorem aMs:0≤(0:Int)∧(0:Int)<2:=by first | decide | simp
theorem aMt:0≤(1:Int)∧(1:Int)<2:=by first | decide | simp
def jE(al:List fZ)(s:Nat)(t:Int)(few:Nat)(many:Nat)(i:Nat):St:=⟨fr 39 [(1,(pI (s:Int))),(2,(pI t)),(6,(pI 0)),(7,(pI 0)),(8,(pI (few:Int))),(9,(pI (many:Int))),(12,(.p (.sl al.length ((al.map hpE).flatten)))),(13,(pI (al.length:Int))),(14,(pI (i:Int)))],[]⟩
theorem cGo{al:List fZ}{few'0 many'1 i'2:Nat}(hl0:aE Tp 0 uG (jE al s t 0 0 0) (.exit 0) (jE al s t few'0 many'1 i'2)):FV Tp 142 [(.p (.sl al.length ((al.map hpE).flatten))),(pI (s:Int)),(pI t)] base (.tup [(pI (few'0:Int)),(pI (many'1:Int))]) []:=by
 exact FV.fi Tryz.func142 [hl0.k 8 (gZ [0,1,3,3,10,2,15,22])] (gc hl0.code gn)
theorem bKa{al:List fZ}{c100:List cS}(h0:(i:Int)<(al.length:Int))(h1:al[i]? = some (c100,mn101,mx102))(h2:(i:Int)=(s:Int))(h3:inR (((i+1):Nat):Int))(ei':i'=(i+1)):aC Tp 0 uG (jE al s t few many i) .normal (jE al s t few many i'):=by
 subst ei';exact aC.fi (gZ [0,1,3,3,10,2,15,22]) [bT,.x (.agg [(.sl c100.length ((c100.map chE).flatten)),(aA mn101),(aA mx102)]),bT] (gc h3 (gc (bL h2) (gc (nP (E:=hpE) (i:=i) (k:=3) (fun _=>rfl) h1 rfl) (gc (wU (E:=hpE) (i:=i) (k:=3) (fun _=>rfl) h1) (gc (tV (E:=hpE) (k:=3) (i:=(i:Int)) (fun _=>rfl) (by decide) (kQ5 _) h1) (gc (aK h0) gn))))))
theorem bKb{al:List fZ}{c100:List cS}(h0:(i:Int)<(al.length:Int))(h1:al[i]? = some (c100,mn101,mx102))(h2:(i:Int)≠(s:Int))(h3:mx102<t)(h4:inR (((few+1):Nat):Int))(h5:mn101<t)(h6:inR (((many+1):Nat):Int))(h7:inR (((i+1):Nat):Int))(efew':few'=(few+1))(emany':many'=(many+1))(ei':i'=(i+1)):aC Tp 0 uG (jE al s t few many i) .normal (jE al s t few' many' i'):=by
 subst efew' emany' ei';exact aC.fi (gZ [0,1,3,3,10,2,15,22]) [bT,.x (.agg [(.sl c100.length ((c100.map chE).flatten)),(aA mn101),(aA mx102)]),bF,bT,bT] (gc h7 (gc h6 (gc (aK h5) (gc aMs (gc h4 (gc (aK h3) (gc aMt (gc (aV h2) (gc (nP (E:=hpE) (i:=i) (k:=3) (fun _=>rfl) h1 rfl) (gc (wU (E:=hpE) (i:=i) (k:=3) (fun _=>rfl) h1) (gc (tV (E:=hpE) (k:=3) (i:=(i:Int)) (fun _=>rfl) (by decide) (kQ5 _) h1) (gc (aK h0) gn))))))))))))
theorem bKc{al:List fZ}{c100:List cS}(h0:(i:Int)<(al.length:Int))(h1:al[i]? = some (c100,mn101,mx102))(h2:(i:Int)≠(s:Int))(h3:mx102<t)(h4:inR (((few+1):Nat):Int))(h5:t≤mn101)(h6:inR (((i+1):Nat):Int))(efew':few'=(few+1))(ei':i'=(i+1)):aC Tp 0 uG (jE al s t few many i) .normal (jE al s t few' many i'):=by
 subst efew' ei';exact aC.fi (gZ [0,1,3,3,10,2,15,22]) [bT,.x (.agg [(.sl c100.length ((c100.map chE).flatten)),(aA mn101),(aA mx102)]),bF,bT,bF] (gc h6 (gc (aN h5) (gc aMs (gc h4 (gc (aK h3) (gc aMt (gc (aV h2) (gc (nP (E:=hpE) (i:=i) (k:=3) (fun _=>rfl) h1 rfl) (gc (wU (E:=hpE) (i:=i) (k:=3) (fun _=>rfl) h1) (gc (tV (E:=hpE) (k:=3) (i:=(i:Int)) (fun _=>rfl) (by decide) (kQ5 _) h1) (gc (aK h0) gn)))))))))))
theorem bKd{al:List fZ}{c100:List cS}(h0:(i:Int)<(al.length:Int))(h1:al[i]? = some (c100,mn101,mx102))(h2:(i:Int)≠(s:Int))(h3:t≤mx102)(h4:mn101<t)(h5:inR (((many+1):Nat):Int))(h6:inR (((i+1):Nat):Int))(emany':many'=(many+1))(ei':i'=(i+1)):aC Tp 0 uG (jE al s t few many i) .normal (jE al s t few many' i'):=by
 subst emany' ei';exact aC.fi (gZ [0,1,3,3,10,2,15,22]) [bT,.x (.agg [(.sl c100.length ((c100.map chE).flatten)),(aA mn101),(aA mx102)]),bF,bF,bT] (gc h6 (gc h5 (gc (aK h4) (gc aMs (gc (aN h3) (gc aMt (gc (aV h2) (gc (nP (E:=hpE) (i:=i) (k:=3) (fun _=>rfl) h1 rfl) (gc (wU (E:=hpE) (i:=i) (k:=3) (fun _=>rfl) h1) (gc (tV (E:=hpE) (k:=3) (i:=(i:Int)) (fun _=>rfl) (by decide) (kQ5 _) h1) (gc (aK h0) gn)))))))))))
theorem bKe{al:List fZ}{c100:List cS}(h0:(i:Int)<(al.length:Int))(h1:al[i]? = some (c100,mn101,mx102))(h2:(i:Int)≠(s:Int))(h3:t≤mx102)(h4:t≤mn101)(h5:inR (((i+1):Nat):Int))(ei':i'=(i+1)):aC Tp 0 uG (jE al s t few many i) .normal (jE al s t few many i'):=by
 subst ei';exact aC.fi (gZ [0,1,3,3,10,2,15,22]) [bT,.x (.agg [(.sl c100.length ((c100.map chE).flatten)),(aA mn101),(aA mx102)]),bF,bF,bF] (gc h5 (gc (aN h4) (gc aMs (gc (aN h3) (gc aMt (gc (aV h2) (gc (nP (E:=hpE) (i:=i) (k:=3) (fun _=>rfl) h1 rfl) (gc (wU (E:=hpE) (i:=i) (k:=3) (fun _=>rfl) h1) (gc (tV (E:=hpE) (k:=3) (i:=(i:Int)) (fun _=>rfl) (by decide) (kQ5 _) h1) (gc (aK h0) gn))))))))))
theorem bKf{al:List fZ}(h0:(al.length:Int)≤(i:Int)):aC Tp 0 uG (jE al s t few many i) (.exit 0) (jE al s t few many i):=by
 exact aC.fi (gZ [0,1,3,3,10,2,15,22]) [bF] (gc (aN h0) gn)
def jM(al:List fZ)(s:Nat)(t:Int):Nat→Nat × Nat
 | 0=>(0,0)
 | i+1=>match al[i]? with
  | some h=>if i=s then jM al s t i else ((if h.2.2<t then (jM al s t i).1+1 else (jM al s t i).1),(if h.2.1<t then (jM al s t i).2+1 else (jM al s t i).2))
  | none=>jM al s t i
abbrev dE(al:List fZ)(s:Nat)(t:Int):Nat × Nat:=jM al s t al.length
theorem qJ(al:List fZ)(s:Nat)(t:Int):∀ i,(jM al s t i).1≤i∧(jM al s t i).2≤i
 | 0=>⟨dX _,dX _⟩
 | i+1=>by
  have:=qJ al s t i;unfold jM
  split
  ·split
   ·omega
   ·dsimp only
    split <;> split <;> omega
  ·omega
theorem cGp(al:List fZ)(s:Nat)(t:Int)(hl:al.length≤1000){base:Nat}:FV Tp 142 [.p (.sl al.length (al.map hpE).flatten),.p (aA s),.p (aA t)] base (.tup [.p (aA ((dE al s t).1:Nat)),.p (aA ((dE al s t).2:Nat))]) []:=by
 obtain ⟨a,hI,hL⟩:=aE.ex (P:=Tp) (k:=0) (b:=uG) (e := .exit 0) (fun i (a:Nat × Nat)=>jE al s t a.1 a.2 i) (fun a=>jE al s t a.1 a.2 al.length) (fun i a=>a=jM al s t i) (by simp) al.length
  (fun i a hi ha=>by
   obtain ⟨⟨c,mn,mx⟩,hx⟩:∃ x,al[i]? = some x:=⟨_,kQ0 hi⟩;have hle:=qJ al s t i;refine ⟨_,rfl,?_⟩;subst ha;have e:jM al s t (i+1)=if i=s then jM al s t i else ((if mx<t then (jM al s t i).1+1 else (jM al s t i).1),(if mn<t then (jM al s t i).2+1 else (jM al s t i).2)):=by
    conv=>lhs;unfold jM
    rw [hx]
   rw [e]
   by_cases his:i=s
   ·rw [if_pos his];exact bKa (by omega) hx (by omega) (aH (by omega)) rfl
   ·rw [if_neg his]
    by_cases h1:mx<t <;> by_cases h2:mn<t
    ·rw [if_pos h1,if_pos h2];exact bKb (by omega) hx (by omega) h1 (aH (by omega)) h2 (aH (by omega)) (aH (by omega)) rfl rfl rfl
    ·rw [if_pos h1,if_neg h2];exact bKc (by omega) hx (by omega) h1 (aH (by omega)) (by omega) (aH (by omega)) rfl rfl
    ·rw [if_neg h1,if_pos h2];exact bKd (by omega) hx (by omega) (by omega) h2 (aH (by omega)) (aH (by omega)) rfl rfl
    ·rw [if_neg h1,if_neg h2];exact bKe (by omega) hx (by omega) (by omega) (by omega) (aH (by omega)) rfl)
  (fun a _=>bKf (by omega)) (acc:=(0,0)) rfl
 subst hI;exact cGo hL
def pH(al:List fZ)(s:Nat)(c0:List cS)(on:Nat)(oc:List PV)(ou:Bool)(inn:Bool)(i:Nat):St:=⟨fr 51 [(0,(.p (.sl al.length ((al.map hpE).flatten)))),(1,(pI (s:Int))),(4,(.own 0)),(5,(pB ou)),(6,(pB inn)),(16,(.p (.sl c0.length ((c0.map chE).flatten)))),(17,(pI (c0.length:Int))),(18,(pI (i:Int)))],[some (.row 3 on oc)]⟩
theorem cGq{al:List fZ}{c0:List cS}{mn1 mx2:Int}{o'3:List Int}{ou'4 inn'5:Bool}{i'6:Nat}(h0:al[s]? = some (c0,mn1,mx2))(hl1:aE Tp 0 aFy (pH al s c0 0 [] false false 0) (.exit 0) (pH al s c0 o'3.length (o'3.map aA) ou'4 inn'5 i'6))(h2:o'3.length≤1000000)(h3:(o'3.mergeSort KL.leB).length≤1000000):FV Tp 141 [(.p (.sl al.length ((al.map hpE).flatten))),(pI (s:Int))] base (.tup [(.p (aG (Lib.compact (o'3.mergeSort KL.leB)))),(pB ou'4),(pB inn'5)]) []:=by
 have k1:=mq [0] 1 (aRq o'3 h2);have k2:=mq [0] 1 (aRs (o'3.mergeSort KL.leB) h3);exact FV.frz (FMM.fi 0 ⟨[],[],[1],[]⟩ Tryz.func141 [.x (.sl c0.length ((c0.map chE).flatten)),hl1.k 1 (gN [2,2,7,9,19,26,46,1] [0] [(4,3),(5,0),(6,0)]),k1.o,k2.o] (gc k2 (gc k1 (gc hl1.code (gt (((al.map hpE).flatten)[(s*3)]? = some (.sl c0.length ((c0.map chE).flatten))) (bG (E:=hpE) (i:=s) (f:=0) (k:=3) (fun _=>rfl) h0 rfl) (gc (tV (E:=hpE) (k:=3) (i:=(s:Int)) (fun _=>rfl) (by decide) (kQ5 _) h0) gn)))))) (by kernel_rfl)
def pJ(al:List fZ)(s:Nat)(c0:List cS)(ou:Bool)(i:Nat)(t100:Int)(b101:Bool)(q102:List Int)(on:Nat)(oc:List PV)(n:Nat):St:=⟨fr 51 [(0,(.p (.sl al.length ((al.map hpE).flatten)))),(1,(pI (s:Int))),(4,(.own 0)),(5,(pB ou)),(6,(.kb true)),(8,(.ptr 1 0)),(9,(pI (((dE al s t100).1:Nat):Int))),(10,(pI (((dE al s t100).2:Nat):Int))),(11,(pI (n:Int))),(16,(.p (.sl c0.length ((c0.map chE).flatten)))),(17,(pI (c0.length:Int))),(18,(pI (i:Int))),(19,(pB (decide ((i:Int)<(c0.length:Int))))),(20,(.rp ((c0.map chE).flatten) (i*3))),(21,(.p (.agg [(aA t100),(blP b101),(aG q102)]))),(22,(.ptr 1 1)),(23,(pB b101)),(24,(.tup [(pI (((dE al s t100).1:Nat):Int)),(pI (((dE al s t100).2:Nat):Int))])),(25,(.p (.sl al.length ((al.map hpE).flatten)))),(26,(pI (s:Int))),(27,(.ptr 1 0)),(28,(pI t100)),(29,(.tup [(pI (((dE al s t100).1:Nat):Int)),(pI (((dE al s t100).2:Nat):Int))])),(30,(pI (((dE al s t100).1:Nat):Int))),(31,(pI (((dE al s t100).2:Nat):Int))),(32,(pI (((dE al s t100).1:Nat):Int))),(33,(pI ((((dE al s t100).1+1):Nat):Int)))],[some (.row 3 on oc),some (.box 197 [(pI t100),(pB b101),(.p (aG q102))])]⟩
theorem bKg{al:List fZ}{c0:List cS}(h0:(i:Int)<(c0.length:Int))(h1:c0[i]? = some (t100,b101,q102))(h2:b101=true)(h3:inR (((i+1):Nat):Int))(ei':i'=(i+1)):aC Tp 0 aFy (pH al s c0 o.length (o.map aA) ou inn i) .normal (pH al s c0 o.length (o.map aA) true inn i'):=by
 subst ei';exact aC.fi (gN [2,2,7,9,19,26,46,1] [0] [(5,0)]) [bT,.x (.agg [(aA t100),(blP b101),(aG q102)]),bT] (gc h3 (gc h2 (gc (nP (E:=chE) (i:=i) (k:=3) (fun _=>rfl) h1 rfl) (gc (wU (E:=chE) (i:=i) (k:=3) (fun _=>rfl) h1) (gc (tV (E:=chE) (k:=3) (i:=(i:Int)) (fun _=>rfl) (by decide) (kQ5 _) h1) (gc (aK h0) gn))))))
theorem bKh{al:List fZ}{c0:List cS}{o'103:List Int}{n'104:Nat}(h0:(i:Int)<(c0.length:Int))(h1:c0[i]? = some (t100,b101,q102))(h2:b101=false)(h3:al.length≤1000)(h4:inR ((((dE al s t100).1+1):Nat):Int))(hl5:aE Tp 0 aFz (pJ al s c0 ou i t100 b101 q102 o.length (o.map aA) ((dE al s t100).1+1)) (.exit 2) (pJ al s c0 ou i t100 b101 q102 o'103.length (o'103.map aA) n'104))(h6:inR (((i+1):Nat):Int))(eo'n:o'.length=o'103.length)(eo'c:o'.map aA=(o'103.map aA))(ei':i'=(i+1)):aC Tp 0 aFy (pH al s c0 o.length (o.map aA) ou inn i) .normal (pH al s c0 o'.length (o'.map aA) ou true i'):=by
 subst ei';have k1:=fk 2 (cGp al s t100 h3) rfl;rw [eo'n,eo'c];exact aC.fi (gN [2,2,7,9,19,26,46,1] [0] [(6,0)]) [bT,.x (.agg [(aA t100),(blP b101),(aG q102)]),bF,k1.o,hl5.k 3 (gI [2,2,7,1,12,4,34,10,46,1] [0,1])] (gc h6 (gc hl5.code (gc h4 (gc k1 (gc h2 (gc (nP (E:=chE) (i:=i) (k:=3) (fun _=>rfl) h1 rfl) (gc (wU (E:=chE) (i:=i) (k:=3) (fun _=>rfl) h1) (gc (tV (E:=chE) (k:=3) (i:=(i:Int)) (fun _=>rfl) (by decide) (kQ5 _) h1) (gc (aK h0) gn)))))))))
theorem bKi{al:List fZ}{c0:List cS}(h0:(c0.length:Int)≤(i:Int)):aC Tp 0 aFy (pH al s c0 o.length (o.map aA) ou inn i) (.exit 0) (pH al s c0 o.length (o.map aA) ou inn i):=by
 exact aC.fi (gI [2,2,7,9,19,26,46,1] [0]) [bF] (gc (aN h0) gn)
theorem bKj{al:List fZ}{c0:List cS}{n':Nat}(h0:inR ((((dE al s t100).2+1):Nat):Int))(h1:(n:Int)≤((((dE al s t100).2+1):Nat):Int))(h2:[(aA (n:Int))].length=1*1∧o.length+1≤1000000)(h3:inR (((n+1):Nat):Int))(eo'n:o'.length=(o.length+1))(eo'c:o'.map aA=((o.map aA)++[(aA (n:Int))]))(en':n'=(n+1)):aC Tp 0 aFz (pJ al s c0 ou i t100 b101 q102 o.length (o.map aA) n) .normal (pJ al s c0 ou i t100 b101 q102 o'.length (o'.map aA) n'):=by
 subst en';rw [eo'n,eo'c];exact aC.fi (gI [2,2,7,1,12,4,34,10,46,1] [3,1]) [bT] (gc h3 (gc h2 (gc (rG h1) (gc h0 gn))))
theorem bKk{al:List fZ}{c0:List cS}(h0:inR ((((dE al s t100).2+1):Nat):Int))(h1:((((dE al s t100).2+1):Nat):Int)<(n:Int)):aC Tp 0 aFz (pJ al s c0 ou i t100 b101 q102 o.length (o.map aA) n) (.exit 2) (pJ al s c0 ou i t100 b101 q102 o.length (o.map aA) n):=by
 exact aC.fi (gI [2,2,7,1,12,4,34,10,46,1] [0,1]) [bF] (gc (mH h1) (gc h0 gn))
def aRg(few many:Nat):List Int:=(List.range (many+1-few)).map fun j=>((few+1+j:Nat):Int)
def chL(al:List fZ)(s:Nat)(c:cS):List Int:=if c.2.1 then [] else aRg (dE al s c.1).1 (dE al s c.1).2
def rS(al:List fZ)(s:Nat)(c:List cS):List Int:=Lib.compact ((c.flatMap (chL al s)).mergeSort KL.leB)
theorem bQs{a b:Nat}(h:b≤1000):(aRg a b).length≤1001:=by unfold aRg;simp;omega
theorem bWj(al:List fZ)(hal:al.length≤1000)(s:Nat)(c:cS):(chL al s c).length≤1001:=by
 unfold chL
 split
 ·simp
 ·exact bQs (by have:(dE al s c.1).2≤al.length:=(qJ al s c.1 al.length).2;omega)
theorem aMu{al:List fZ}(hal:al.length≤1000)(s:Nat):∀ c:List cS,(c.flatMap (chL al s)).length≤c.length*1001
 | []=>by simp
 | x::c=>by
  rw [List.flatMap_cons,gG,nW];have:=bWj al hal s x;have:=aMu hal s c;omega
theorem cGr{al:List fZ}(hal:al.length≤1000)(s:Nat)(c0:List cS)(ou:Bool)(i:Nat)(t:Int)(b:Bool)(q o:List Int)(ho:o.length≤900000) :
  ∃ n',aE Tp 0 aFz (pJ al s c0 ou i t b q o.length (o.map aA) ((dE al s t).1+1)) (.exit 2) (pJ al s c0 ou i t b q (o++aRg (dE al s t).1 (dE al s t).2).length ((o++aRg (dE al s t).1 (dE al s t).2).map aA) n'):=by
 have h1:(dE al s t).1≤al.length:=(qJ al s t al.length).1;have h2:(dE al s t).2≤al.length:=(qJ al s t al.length).2;obtain ⟨x,hI,hL⟩:=aE.ex (P:=Tp) (k:=0) (b:=aFz) (e := .exit 2) (fun j (x:List Int)=>pJ al s c0 ou i t b q x.length (x.map aA) ((dE al s t).1+1+j)) (fun x=>pJ al s c0 ou i t b q x.length (x.map aA) ((dE al s t).1+1+((dE al s t).2+1-(dE al s t).1)))
  (fun j x=>x=o++(List.range j).map fun j=>(((dE al s t).1+1+j:Nat):Int)) (by simp) ((dE al s t).2+1-(dE al s t).1)
  (fun j x hj hx=>by
   have hlen:x.length=o.length+j:=by rw [hx];simp
   refine ⟨x++[(((dE al s t).1+1+j:Nat):Int)],?_,bKj (aH (by omega)) (by omega) ⟨rfl,by omega⟩ (aH (by omega)) (by simp) (by simp) rfl⟩
   rw [hx,List.range_succ];simp)
  (fun x _=>bKk (aH (by omega)) (by omega)) (acc:=o) (by simp)
 rw [show o++aRg (dE al s t).1 (dE al s t).2=x from hI.symm]
 exact ⟨_,hL⟩
theorem aWu{al:List fZ}(hal:al.length≤1000){s:Nat}{c:List cS}{mn mx:Int}(hx:al[s]? = some (c,mn,mx))(hc:c.length≤256){base:Nat} :
  FV Tp 141 [.p (.sl al.length (al.map hpE).flatten),.p (aA s)] base (.tup [.p (aG (rS al s c)),.p (blP (c.any fun x=>x.2.1)),.p (blP (c.any fun x => !x.2.1))]) []:=by
 obtain ⟨a,⟨hI,hJ,hK⟩,hL⟩:=aE.ex (P:=Tp) (k:=0) (b:=aFy) (e := .exit 0) (fun i (a:List Int × Bool × Bool)=>pH al s c a.1.length (a.1.map aA) a.2.1 a.2.2 i) (fun a=>pH al s c a.1.length (a.1.map aA) a.2.1 a.2.2 c.length)
  (fun i a=>a.1=(c.take i).flatMap (chL al s)∧a.2.1=((c.take i).any fun x=>x.2.1)∧a.2.2=((c.take i).any fun x => !x.2.1)) (by simp) c.length
  (fun i a hi ha=>by
   obtain ⟨ha1,ha2,ha3⟩:=ha;obtain ⟨⟨t,b,q⟩,hx⟩:∃ x,c[i]? = some x:=⟨_,kQ0 hi⟩;have hlen:a.1.length≤256*1001:=by
    rw [ha1];have:=aMu hal s (c.take i);rw [lU] at this
    have:min i c.length≤256:=by omega
    omega
   have e1:c.take (i+1)=c.take i++[(t,b,q)]:=by rw [List.take_add_one,hx];rfl
   cases b with
   | true=>exact ⟨(a.1,true,a.2.2),⟨by rw [ha1,e1];simp [chL],by rw [e1];simp,by rw [ha3,e1];simp⟩,bKg (by omega) hx rfl (aH (by omega)) rfl⟩
   | false =>
    have h1:(dE al s t).1≤al.length:=(qJ al s t al.length).1;obtain ⟨n',hl⟩:=cGr hal s c a.2.1 i t false q a.1 (by omega)
    exact ⟨(a.1++aRg (dE al s t).1 (dE al s t).2,a.2.1,true),⟨by rw [ha1,e1];simp [chL],by rw [ha2,e1];simp,by rw [e1];simp⟩,bKh (by omega) hx rfl hal (aH (by omega)) hl (aH (by omega)) rfl rfl rfl⟩)
  (fun a _=>bKi (by omega)) (acc:=([],false,false)) (by simp)
 rw [List.take_length] at hI hJ hK
 have hb:=aMu hal s c;have:=cGq (s:=s) hx hL (by rw [hI];omega) (by rw [List.length_mergeSort,hI];omega) (base:=base)
 rw [hI,hJ,hK] at this
 exact this
end
section
variable {s1 s2 x0 x1 bib y100 y101:Int}{l:Lqq}{i i0 base:Nat}
variable {dl:Int}{sk dc:Lqq}

theorem bQr:((0:Int) != 0)=false:=by first | decide | simp
def xA(l:Lqq)(x0:Int)(x1:Int)(i:Nat):St:=⟨fr 19 [(0,(.p (fS l))),(3,(.ptr 0 0)),(7,(pI (l.length:Int))),(8,(pI (i:Int)))],[some (.box 31 [(pI x0),(pI x1)])]⟩
theorem cGk{i'0:Nat}(hl0:aE Tp 0 (sub (cd Tryz.f185) [1,0,1,0,0]) (xA l x0 x1 0) .ret (bO (xA l x0 x1 i'0) [(4,(pI (i'0:Int)))])):FV Tp 185 [(.p (fS l)),(.p (.agg [(aA x0),(aA x1)]))] base (pI (i'0:Int)) []:=by
 exact FV.fi Tryz.func185 [hl0.k 6 (gI [1,2,4,3,9,10] [0])] (gc hl0.code gn)
theorem bJy(h0:(i:Int)<(l.length:Int))(h1:l[i]? = some [y100,y101])(h2:uni 2 l)(h3:cV [(aA x0),(aA x1)] [(0,3,true),(1,3,true)]=true∧cV [(aA y100),(aA y101)] [(0,3,true),(1,3,true)]=true)(h4:(jP [(aA x0),(aA x1)] [(aA y100),(aA y101)] [(0,3,true),(1,3,true)])=true):aC Tp 0 (sub (cd Tryz.f185) [1,0,1,0,0]) (xA l x0 x1 i) .ret (bO (xA l x0 x1 i) [(4,(pI (i:Int)))]):=by
 exact aC.fi (gI [1,2,5,2,9,10] [0]) [bT,.x (.agg [(aA y100),(aA y101)]),bT] (gc h4 (gc h3 (gfl h2 h1 (gc (aK h0) gn))))
theorem bJz{i':Nat}(h0:(i:Int)<(l.length:Int))(h1:l[i]? = some [y100,y101])(h2:uni 2 l)(h3:cV [(aA x0),(aA x1)] [(0,3,true),(1,3,true)]=true∧cV [(aA y100),(aA y101)] [(0,3,true),(1,3,true)]=true)(h4:(jP [(aA x0),(aA x1)] [(aA y100),(aA y101)] [(0,3,true),(1,3,true)])=false)(h5:inR (((i+1):Nat):Int))(ei':i'=(i+1)):aC Tp 0 (sub (cd Tryz.f185) [1,0,1,0,0]) (xA l x0 x1 i) .normal (xA l x0 x1 i'):=by
 subst ei';exact aC.fi (gI [1,2,4,3,9,10] [0]) [bT,.x (.agg [(aA y100),(aA y101)]),bF] (gc h5 (gc h4 (gc h3 (gfl h2 h1 (gc (aK h0) gn)))))
theorem cGl{l:Lqq}(hu:uni 2 l)(hn:(aP l 0).Nodup)(hl:l.length≤1000){i:Nat}{x0 x1:Int}(hi:l[i]? = some [x0,x1]){base:Nat}:FV Tp 185 [.p (fS l),.p (.agg [aA x0,aA x1])] base (pI (i:Int)) []:=by
 have hlt:=aL hi;refine cGk (i'0:=i) ?_;have hne:∀ j,j<i→∃ y0 y1,l[j]? = some [y0,y1]∧y0≠x0:=fun j hj=>by
  obtain ⟨y0,y1,hy⟩:=at2 hu (i:=j) (by omega)
  refine ⟨y0,y1,hy,fun e => ?_⟩
  have e1:(aP l 0)[j]? = some y0:=by unfold aP;rw [kQ9,hy];rfl
  have e2:(aP l 0)[i]? = some x0:=by unfold aP;rw [kQ9,hi];rfl
  obtain ⟨hj1,hj2⟩:=kQ3.1 e1;obtain ⟨hi1,hi2⟩:=kQ3.1 e2;have:=List.pairwise_iff_getElem.1 hn j i hj1 hi1 hj;rw [hj2,hi2] at this
  exact this e
 exact aE.until (P:=Tp) i (fun j=>xA l x0 x1 j) i (dX _)
  (fun j hj=>by
   obtain ⟨y0,y1,hy,hn⟩:=hne j hj;exact bJz (by omega) hy hu ⟨rfl,rfl⟩ (by simp [jP,wG];exact fun h=>absurd h.symm hn) (aH (by omega)) rfl)
  (bJy (by omega) hi hu ⟨rfl,rfl⟩ (by simp [jP,wG])) (by simp)
theorem mU(h:bZ dl sk dc):uni 2 (aB sk)∧(aB sk).length≤30∧(∀ s∈aB sk,-1≤s.getD 1 0∧s.getD 1 0≤360000)∧(aP (aB sk) 0).Nodup:=by
 have hp:=cW sk;refine ⟨nA h.us,by rw [eV];exact h.len.2,fun s hs=>(aLx.1 (h.hsk s (hp.mem_iff.1 hs))).2,?_⟩
 unfold aP;exact (hp.map _).nodup_iff.2 h.ns
theorem bAo(h:bZ dl sk dc)(ho:(bB dl (aB dc)).length≤8){base:Nat}:FV Tp 161 [tZ dl (aB sk) (aB dc)] base (.tup [.own base,.p (aA 0)]) [(base,.row 195 (cK dl (aB sk) (aB dc)).length ((cK dl (aB sk) (aB dc)).map hpE).flatten)]:=by
 obtain ⟨h1,h2,h3,_⟩:=mU h;exact cGt (fV h) h1 (by omega) h3 ho
theorem bWi(h:bZ dl sk dc){i:Nat}{x0 x1:Int}(hi:(aB sk)[i]? = some [x0,x1]){base:Nat}:FV Tp 185 [.p (fS (aB sk)),.p (.agg [aA x0,aA x1])] base (pI (i:Int)) []:=by
 obtain ⟨h1,h2,_,h4⟩:=mU h;exact cGl h1 h4 (by omega) hi
theorem cGm(h0:bZ dl sk dc)(h1:kB (aB sk) bib=(i0:Int))(h2:(aB sk)[i0]? = some [s1,s2])(h3:(bB dl (aB dc)).length≤8):FV Tp 140 [(.p (.agg (aX dl sk dc))),(pI bib)] base (.tup [(.p (.sl ((cK dl (aB sk) (aB dc)).length) (((cK dl (aB sk) (aB dc)).map hpE).flatten))),(pI (i0:Int)),(pI 0)]) []:=by
 have k1:=fk 1 (zW h0 h1 h2) rfl;have k2:=fk 2 (bAo h0 h3) rfl;exact FV.frz (FMM.fi 0 ⟨[],[],[2],[]⟩ Tryz.func140 [k1.o,bF,k2.o,.x (.sl ((aB sk).length) ((aB sk).flatten.map aA)),.c (pI (i0:Int)) []] (gc (fk 3 (bWi h0 h2) rfl) (gr (.sl ((aB sk).length) ((aB sk).flatten.map aA)) (gc k2 (gc bQr (gc k1 gn)))))) (by kernel_rfl)
theorem cGn{c3:List cS}{mn4 mx5:Int}{r0:Bool}(h0:bZ dl sk dc)(h1:kB (aB sk) bib=(i0:Int))(h2:(aB sk)[i0]? = some [s1,s2])(h3:(bB dl (aB dc)).length≤8)(h4:(cK dl (aB sk) (aB dc))[i0]? = some (c3,mn4,mx5))(h5:(cK dl (aB sk) (aB dc)).length≤1000)(h6:c3.length≤256)(er0:r0=(c3.any fun x=>x.2.1)):FV Tp 71 [(.p (.agg (aX dl sk dc))),(pI bib)] base (.tup [(.p (aG (rS (cK dl (aB sk) (aB dc)) i0 c3))),(pB r0),(pI 0)]) []:=by
 subst er0;have k1:=fk 1 (cGm h0 h1 h2 h3) rfl;have k2:=fk 1 (aWu h5 h4 h6) rfl;exact FV.fi Tryz.func71 [k1.o,bF,k2.o] (gc k2 (gc bQr (gc k1 gn)))
end
section
variable {a b:Bool}{f fi y100 y101 mn103 mx104:Int}{l o:List Int}{i i' base:Nat}
variable {dl:Int}{sk dc:Lqq}

noncomputable abbrev aMr:Code:=sub (cd Tryz.f93) [1,1,1,1,1,1,1,0,1,0,0]
theorem bQp:((0:Int) != 0)=false:=by first | decide | simp
theorem cGf{x0:Int}{r0:Bool}(h0:b=true)(h1:a=false)(h2:inR ((l.length:Int)-1))(h3:l[((l.length:Int)-1).toNat]? = some x0)(h4:0≤((l.length:Int)-1))(er0:r0=(decide (x0≤f))):FV Tp 95 [(.p (aG l)),(pB a),(pB b),(.rp [(aA f)] 0)] base (pB r0) []:=by
 subst er0;exact FV.fi Tryz.func95 (rT 9++[.x (aA x0),bT,.x (aA f),bT,bT]) (g2c (bY h1) (gr (aA f) (gc (bY h1) (gt ((l.map aA)[(((l.length:Int)-1).toNat*1)]? = some (aA x0)) (zI (i:=((l.length:Int)-1).toNat) h3) (gc (bY h1) (gc (zJ (g:=aA) h4 h3) (gc (bY h1) (gc h2 (g4c (bY h1) (g3c h0 gn))))))))))
theorem cGg(h0:b=true)(h1:a=true):FV Tp 95 [(.p (aG l)),(pB a),(pB b),(.rp [(aA f)] 0)] base (pB false) []:=by
 exact FV.fi Tryz.func95 ([bT,bT,bT]++rF 9) (g8c (aQ h1) (gc (aQ h1) (g3c h0 gn)))
theorem cGh(h0:b=false):FV Tp 95 [(.p (aG l)),(pB a),(pB b),(.rp [(aA f)] 0)] base (pB false) []:=by
 exact FV.fi Tryz.func95 [bF,bF,bF] (g3c h0 gn)
def aWt(l:List Int)(a b:Bool)(f:Int):Bool:=b && (!a && decide (l.getD (l.length-1) 0≤f))
theorem bQq(l:List Int)(a b:Bool)(f:Int)(hl:l.length≤1000000)(hb:b=true→l≠[]){base:Nat}:FV Tp 95 [.p (aG l),.p (blP a),.p (blP b),.rp [aA f] 0] base (pB (aWt l a b f)) []:=by
 cases b with
 | false=>exact cGh rfl
 | true =>
  cases a with
  | true=>exact cGg rfl rfl
  | false =>
   have h0:=hb rfl;have h1:0<l.length:=List.length_pos_iff.2 h0;have h2:l[l.length-1]? = some (l.getD (l.length-1) 0):=by rw [kQ4,kQ0 (by omega)];rfl
   have e:((l.length:Int)-1).toNat=l.length-1:=by omega
   exact cGf (x0:=l.getD (l.length-1) 0) rfl rfl (by unfold inR;omega) (by rw [e];exact h2) (by omega) (by unfold aWt;simp)
def pG(dl:Int)(sk:Lqq)(dc:Lqq)(fi:Int)(on:Nat)(oc:List PV)(i:Nat):St:=⟨fr 58 [(2,(.fn 95 [] [(.rp [(aA fi)] 0)])),(6,(.p bM)),(7,(pI 0)),(10,(.p (.sl ((cK dl (aB sk) (aB dc)).length) (((cK dl (aB sk) (aB dc)).map hpE).flatten)))),(11,(.own 0)),(36,(.p (.sl ((aB sk).length) ((aB sk).flatten.map aA)))),(37,(pI (((aB sk).length:Nat):Int))),(38,(pI (i:Int)))],[some (.row 3 on oc)]⟩
theorem cGi{o'0:List Int}{i'1:Nat}(h0:bZ dl sk dc)(h1:(1:Int)≤fi)(h2:(bB dl (aB dc)).length≤8)(hl3:aE Tp 0 aMr (pG dl sk dc fi 0 [] 0) (.exit 0) (pG dl sk dc fi o'0.length (o'0.map aA) i'1)):FV Tp 93 [(.p (.agg (aX dl sk dc))),(pI fi),(.fn 95 [] [(.rp [(aA fi)] 0)])] base (.tup [(.p (aG o'0)),(pI 0)]) []:=by
 have k1:=fk 1 (iT dl sk dc h0) rfl;have k2:=fk 1 (bAo h0 h2) rfl;exact FV.frz (FMM.fi 0 ⟨[],[],[0],[]⟩ Tryz.func93 [k1.o,bF,bF,k2.o,bF,.g 1 ⟨[],[0],[1],[]⟩,.x (.sl ((aB sk).length) ((aB sk).flatten.map aA)),hl3.k 1 (gN [0,2,3,3,8,2,12,24,39,18] [1] [(11,3)])] (gc hl3.code (gr (.sl ((aB sk).length) ((aB sk).flatten.map aA)) (gc bQp (gc k2 (gc (aN h1) (gc bQp (gc k1 gn)))))))) (by kernel_rfl)
theorem bJv{c102:List cS}{o':List Int}(h0:(i:Int)<(((aB sk).length:Nat):Int))(h1:(aB sk)[i]? = some [y100,y101])(h2:uni 2 (aB sk))(h3:(cK dl (aB sk) (aB dc))[i]? = some (c102,mn103,mx104))(h4:(cK dl (aB sk) (aB dc)).length≤1000)(h5:c102.length≤256)(h6:(rS (cK dl (aB sk) (aB dc)) i c102).length≤1000000)(h7:(c102.any fun x => !x.2.1)=true→(rS (cK dl (aB sk) (aB dc)) i c102)≠[])(h8:(aWt (rS (cK dl (aB sk) (aB dc)) i c102) (c102.any fun x=>x.2.1) (c102.any fun x => !x.2.1) fi)=true)(h9:[(aA y100)].length=1*1∧o.length+1≤1000000)(h10:inR (((i+1):Nat):Int))(eo'n:o'.length=(o.length+1))(eo'c:o'.map aA=((o.map aA)++[(aA y100)]))(ei':i'=(i+1)):aC Tp 0 aMr (pG dl sk dc fi o.length (o.map aA) i) .normal (pG dl sk dc fi o'.length (o'.map aA) i'):=by
 subst ei';have k1:=fk 2 (aWu h4 h3 h5) rfl;have k2:=fk 2 (bQq (rS (cK dl (aB sk) (aB dc)) i c102) (c102.any fun x=>x.2.1) (c102.any fun x => !x.2.1) fi h6 h7) rfl;rw [eo'n,eo'c];exact aC.fi (gI [0,2,3,3,8,2,12,24,39,18] [3]) [bT,.x (.agg [(aA y100),(aA y101)]),k1.o,k2.o,bT] (gc h10 (gc h9 (gc h8 (gc k2 (gc k1 (gfl h2 h1 (gc (aK h0) gn)))))))
theorem bJw{c102:List cS}(h0:(i:Int)<(((aB sk).length:Nat):Int))(h1:(aB sk)[i]? = some [y100,y101])(h2:uni 2 (aB sk))(h3:(cK dl (aB sk) (aB dc))[i]? = some (c102,mn103,mx104))(h4:(cK dl (aB sk) (aB dc)).length≤1000)(h5:c102.length≤256)(h6:(rS (cK dl (aB sk) (aB dc)) i c102).length≤1000000)(h7:(c102.any fun x => !x.2.1)=true→(rS (cK dl (aB sk) (aB dc)) i c102)≠[])(h8:(aWt (rS (cK dl (aB sk) (aB dc)) i c102) (c102.any fun x=>x.2.1) (c102.any fun x => !x.2.1) fi)=false)(h9:inR (((i+1):Nat):Int))(ei':i'=(i+1)):aC Tp 0 aMr (pG dl sk dc fi o.length (o.map aA) i) .normal (pG dl sk dc fi o.length (o.map aA) i'):=by
 subst ei';have k1:=fk 2 (aWu h4 h3 h5) rfl;have k2:=fk 2 (bQq (rS (cK dl (aB sk) (aB dc)) i c102) (c102.any fun x=>x.2.1) (c102.any fun x => !x.2.1) fi h6 h7) rfl;exact aC.fi (gI [0,2,3,3,8,2,12,24,39,18] [0]) [bT,.x (.agg [(aA y100),(aA y101)]),k1.o,k2.o,bF] (gc h9 (gc h8 (gc k2 (gc k1 (gfl h2 h1 (gc (aK h0) gn))))))
theorem bJx(h0:(((aB sk).length:Nat):Int)≤(i:Int)):aC Tp 0 aMr (pG dl sk dc fi o.length (o.map aA) i) (.exit 0) (pG dl sk dc fi o.length (o.map aA) i):=by
 exact aC.fi (gI [0,2,3,3,8,2,12,24,39,18] [0]) [bF] (gc (aN h0) gn)
abbrev cJi(dl:Int)(sk dc:Lqq)(fi:Int)(o:List Int)(e:Int):Prop:=∀ base:Nat,FV Tp 93 [.p (.agg (aX dl sk dc)),.p (aA fi),.fn 95 [] [.rp [aA fi] 0]] base (.tup [.p (aG o),.p (aA e)]) []
theorem cGj{e0:Int}{o1:List Int}(h0:cJi dl sk dc fi o1 e0):FV Tp 33 [(.p (.agg (aX dl sk dc))),(pI fi)] base (.tup [(.p (aG o1)),(pI e0)]) []:=by
 exact FV.fi Tryz.func33 [.g 3 ⟨[],[0],[1],[]⟩,.x (aA fi),.c (.tup [(.p (aG o1)),(pI e0)]) []] (gc (fk 1 (h0 _) rfl) (gr (aA fi) gn))
end
end KV
end Go.Proofs
section
namespace Go.Proofs
open Go.RowKit Go.Lib
namespace KV
theorem bWf(o:List Int):jZ o≠[]:=fun h=>by
 have:=yN o;rw [h] at this
 have:=Nat.two_pow_pos o.length;simp at *
 omega
theorem bQm(l:List cS):∀ m,l.foldl (fun m x=>if x.1<m then x.1 else m) m≤m∧∀ x∈l,l.foldl (fun m x=>if x.1<m then x.1 else m) m≤x.1:=by
 induction l with
 | nil=>intro m;exact ⟨Int.le_refl _,fun x h=>by cases h⟩
 | cons a l ih =>
  intro m;rw [nK];obtain ⟨h1,h2⟩:=ih (if a.1<m then a.1 else m)
  have ha:(if a.1<m then a.1 else m)≤m∧(if a.1<m then a.1 else m)≤a.1:=by split <;> omega
  exact ⟨by omega,fun x hx=>by
   rcases fD.1 hx with rfl | hx
   ·omega
   ·exact h2 x hx⟩
theorem bQn(l:List cS):∀ m,m≤l.foldl (fun m x=>if x.1 > m then x.1 else m) m∧∀ x∈l,x.1≤l.foldl (fun m x=>if x.1 > m then x.1 else m) m:=by
 induction l with
 | nil=>intro m;exact ⟨Int.le_refl _,fun x h=>by cases h⟩
 | cons a l ih =>
  intro m;rw [nK];obtain ⟨h1,h2⟩:=ih (if a.1 > m then a.1 else m)
  have ha:m≤(if a.1 > m then a.1 else m)∧a.1≤(if a.1 > m then a.1 else m):=by split <;> omega
  exact ⟨by omega,fun x hx=>by
   rcases fD.1 hx with rfl | hx
   ·omega
   ·exact h2 x hx⟩
theorem bWg{l:List cS}(h:l≠[]):mnM l≤mxM l:=by
 obtain ⟨x,hx⟩:=List.exists_mem_of_ne_nil l h;exact Int.le_trans ((bQm l far).2 x hx) ((bQn l 0).2 x hx)
theorem bWh(dl:Int)(dc:Lqq)(s0 s1:Int)(o:List Int):(qK dl dc s0 s1 o).2.1≤(qK dl dc s0 s1 o).2.2:=bWg fun h=>bWf o (List.map_eq_nil_iff.1 h)
theorem aJz(dl:Int)(sk dc:Lqq):(cK dl sk dc).length=sk.length:=by unfold cK;simp
theorem aRd{dl:Int}{sk dc:Lqq}{i:Nat}{s:List Int}(h:sk[i]? = some s):(cK dl sk dc)[i]? = some (qK dl dc (s.getD 0 0) (s.getD 1 0) (xB dl dc (s.getD 0 0))):=by
 unfold cK;rw [kQ9,h];rfl
theorem aRe{dl:Int}{dc:Lqq}{s0 s1:Int}(b:Int)(ho:(bB dl dc).length≤8):(qK dl dc s0 s1 (xB dl dc b)).1.length≤256:=by
 show ((jZ (xB dl dc b)).map _).length≤256;rw [kQ8,yN];have:=bQt dl dc b;exact gU (Nat.pow_le_pow_right (by omega) (show (xB dl dc b).length≤8 by omega)) (by decide)
theorem bAm{al:List fZ}(h:∀ x∈al,x.2.1≤x.2.2)(s:Nat)(t:Int):∀ i,(jM al s t i).1≤(jM al s t i).2
 | 0=>dX _
 | i+1=>by
  have ih:=bAm h s t i;unfold jM
  split
  ·rename_i x hx
   have:=h x (kQ1 hx)
   split
   ·exact ih
   ·dsimp only
    split <;> split <;> omega
  ·exact ih
theorem aWs{l:List Int}(h:l≠[]):Lib.compact l≠[]:=fun e=>by
 have:(Lib.compact l).length=0:=by rw [e];rfl
 unfold Lib.compact Lib.compactUpTo at this
 rw [kQ8] at this
 have h0:0∈(List.range l.length).filter (Lib.keeps l.toArray):=kW.2 ⟨oV.2 (List.length_pos_iff.2 h),Lib.keeps_lt_one _ 0 (by omega)⟩
 rw [aHd this] at h0
 cases h0
theorem bQo{al:List fZ}(h:∀ x∈al,x.2.1≤x.2.2)(s:Nat){c:List cS}(hc:(c.any fun x => !x.2.1)=true):rS al s c≠[]:=by
 unfold rS;refine aWs fun e => ?_
 have e2:c.flatMap (chL al s)=[]:=by
  have:=List.length_mergeSort (le:=KL.leB) (c.flatMap (chL al s));rw [e] at this
  exact aHd this.symm
 obtain ⟨x,hx,hn⟩:=List.any_eq_true.1 hc;have h1:chL al s x=[]:=List.flatMap_eq_nil_iff.1 e2 x hx;have hf:x.2.1=false:=by simpa using hn
 unfold chL aRg at h1
 rw [hf] at h1
 have:=congrArg List.length h1;have hl:=bAm h s x.1 al.length;simp at this
 have h3:(dE al s x.1).1≤(dE al s x.1).2:=hl;omega
theorem bAn{al:List fZ}(hal:al.length≤1000)(s:Nat){c:List cS}(hc:c.length≤256):(rS al s c).length≤1000000:=by
 unfold rS;refine gU (aGd _) ?_;rw [List.length_mergeSort];have:=aMu hal s c;omega
theorem aRf(dl:Int)(sk dc:Lqq):∀ x∈cK dl sk dc,x.2.1≤x.2.2:=fun x hx=>by
 obtain ⟨s,_,rfl⟩:=dJ.1 hx;exact bWh ..
end KV
end Go.Proofs
end
namespace Go.Proofs
namespace KV
section
def aBr(dl:Int)(sk dc:Lqq)(f:Int)(i:Nat):Bool:=match (cK dl sk dc)[i]? with
 | some h=>aWt (rS (cK dl sk dc) i h.1) (h.1.any fun x=>x.2.1) (h.1.any fun x => !x.2.1) f
 | none=>false
def aRc(dl:Int)(sk dc:Lqq)(f:Int):List Int:=((List.range sk.length).filter (aBr dl sk dc f)).map fun i=>(sk.getD i []).getD 0 0
theorem cGc{dl:Int}{sk dc:Lqq}(h:bZ dl sk dc){bib:Int}{i:Nat}{s0 s1:Int}(hp:kB (aB sk) bib=(i:Int))(hs:(aB sk)[i]? = some [s0,s1])(ho:(bB dl (aB dc)).length≤8){base:Nat} :
  FV Tp 71 [.p (.agg (aX dl sk dc)),.p (aA bib)] base (.tup [.p (aG (rS (cK dl (aB sk) (aB dc)) i (qK dl (aB dc) s0 s1 (xB dl (aB dc) s0)).1)),.p (blP ((qK dl (aB dc) s0 s1 (xB dl (aB dc) s0)).1.any fun x=>x.2.1)),.p (aA 0)]) []:=by
 obtain ⟨_,h2,_,_⟩:=mU h;exact cGn h hp hs ho (aRd hs) (by rw [aJz];omega) (aRe s0 ho) rfl
theorem cGd{dl:Int}{sk dc:Lqq}(h:bZ dl sk dc){f:Int}(hf:1≤f)(ho:(bB dl (aB dc)).length≤8):cJi dl sk dc f (aRc dl (aB sk) (aB dc) f) 0:=fun base=>by
 obtain ⟨h1,h2,_,_⟩:=mU h;obtain ⟨o,hI,hL⟩:=aE.ex (P:=Tp) (k:=0) (b:=sub (cd Tryz.f93) [1,1,1,1,1,1,1,0,1,0,0]) (e := .exit 0) (fun i (o:List Int)=>pG dl sk dc f o.length (o.map aA) i) (fun o=>pG dl sk dc f o.length (o.map aA) (aB sk).length)
  (fun i o=>o=((List.range i).filter (aBr dl (aB sk) (aB dc) f)).map fun i=>((aB sk).getD i []).getD 0 0) (by simp) (aB sk).length
  (fun i o hi hoE=>by
   obtain ⟨y0,y1,hy⟩:=at2 h1 hi;have hat:=aRd (dl:=dl) (dc:=aB dc) hy;have hlen:o.length≤i:=by
    rw [hoE,kQ8];have:=sG (aBr dl (aB sk) (aB dc) f) (List.range i);simpa using this
   have hmb:aBr dl (aB sk) (aB dc) f i=aWt (rS (cK dl (aB sk) (aB dc)) i (qK dl (aB dc) y0 y1 (xB dl (aB dc) y0)).1) ((qK dl (aB dc) y0 y1 (xB dl (aB dc) y0)).1.any fun x=>x.2.1) ((qK dl (aB dc) y0 y1 (xB dl (aB dc) y0)).1.any fun x => !x.2.1) f:=by
    unfold aBr;rw [hat];rfl
   have hal:(cK dl (aB sk) (aB dc)).length≤1000:=by rw [aJz];omega
   have hc:=aRe (s0:=y0) (s1:=y1) y0 ho;have hg:((aB sk).getD i []).getD 0 0=y0:=by simp [kQ4,hy]
   cases hb:aBr dl (aB sk) (aB dc) f i with
   | true =>
    refine ⟨o++[y0],?_,bJv (by omega) hy h1 hat hal hc (bAn hal i hc) (fun hn=>bQo (aRf _ _ _) i hn) (by rw [← hb,hmb];rfl) ⟨rfl,by omega⟩ (aH (by omega)) (by simp) (by simp) rfl⟩
    rw [hoE,List.range_succ,oU,iN];simp only [List.filter_cons,hb,if_true,List.filter_nil,gH,List.map_nil,hg]
   | false =>
    refine ⟨o,?_,bJw (by omega) hy h1 hat hal hc (bAn hal i hc) (fun hn=>bQo (aRf _ _ _) i hn) (by rw [← hb,hmb];rfl) (aH (by omega)) rfl⟩
    rw [hoE,List.range_succ,oU,iN];simp [List.filter_cons,hb])
  (fun o _=>bJx (by omega)) (acc:=[]) (by simp)
 have e:o=aRc dl (aB sk) (aB dc) f:=hI;rw [← e];exact cGi h hf ho hL
theorem cGe{dl:Int}{sk dc:Lqq}(h:bZ dl sk dc){f:Int}(hf:1≤f)(ho:(bB dl (aB dc)).length≤8){base:Nat}:FV Tp 33 [.p (.agg (aX dl sk dc)),.p (aA f)] base (.tup [.p (aG (aRc dl (aB sk) (aB dc) f)),.p (aA 0)]) []:=cGj (cGd h hf ho)
end
section
variable {c bib x100 x101 y100 y101 y102 y103 y104 y105:Int}{a b:Lqq}{i i' i'0 base:Nat}
variable {dl:Int}{sk dc:Lqq}

noncomputable abbrev aAe:Code:=sub (cd Tryz.f51) [1,1,0,1,0,0]
noncomputable abbrev aAf:Code:=sub (cd Tryz.f41) [1,1,0,1,0,0]
theorem bQl{i0:Nat}{s1 s2 n3:Int}{b4:Bool}{T5:Lqb}(h0:bZ dl sk dc)(h1:kB (aB sk) bib=(i0:Int))(h2:(aB sk)[i0]? = some [s1,s2])(h3:yH dl (aB sk) (aB dc) bM [s1,s2] n3 b4 ([]:Lqb) T5):FV Tp 61 [(.p (.agg (aX dl sk dc))),(pI bib)] base (.tup [(pI n3),(pB b4),(pI 0)]) []:=by
 have k1:=fk 1 (zW h0 h1 h2) rfl;have k2:=mN [] 2 (oO (dl:=dl) (sk:=(aB sk)) (dc:=(aB dc)));have k3:=mq [2,3,4,5,6,7,8] 10 h3;exact FV.fi Tryz.func61 [k1.o,bF,k2.o,k3.o] (gc k3 (gc k2 (gt (((0:Int) != 0)=false) (by first | decide | simp) (gc k1 gn))))
theorem cFt(h0:bZ dl sk dc)(h1:kB (aB sk) bib = -1):FV Tp 61 [(.p (.agg (aX dl sk dc))),(pI bib)] base (.tup [(pI 0),(pB false),(pI 1)]) []:=by
 have k1:=fk 1 (aVr h0 h1) rfl;exact FV.fi Tryz.func61 [k1.o,bT] (gt (((1:Int) != 0)=true) (by first | decide | simp) (gc k1 gn))
theorem cFu{r0:Int}(h0:uni 2 sk)(h1:uni 6 dc)(h2:(eC dl sk dc)≠0)(er0:r0=(eC dl sk dc)):FV Tp 61 [(.p (.agg (aX dl sk dc))),(pI bib)] base (.tup [(pI 0),(pB false),(pI r0)]) []:=by
 subst er0;exact FV.fi Tryz.func61 [.c (.tup [(.p (.v (.pointer none))),(.p (.agg [(aA 0),(aA 0)])),(pI (eC dl sk dc))]) [],bT] (gc (cZ h2) (gt (FC Tp 135 [(.p (.agg (aX dl sk dc))),(pI bib)] [] 1 (.tup [(.p (.v (.pointer none))),(.p (.agg [(aA 0),(aA 0)])),(pI (eC dl sk dc))]) []) (FV.fc (aMa h0 h1 h2) rfl) gn))
def lL(a:Lqq)(b:Lqq)(i:Nat):St:=⟨fr 26 [(0,(.p (fS a))),(1,(.p (fS b))),(12,(pI (a.length:Int))),(13,(pI (i:Int)))],[]⟩
theorem cFv(h0:(a.length:Int)≠(b.length:Int)):FV Tp 51 [(.p (fS a)),(.p (fS b))] base (pB false) []:=by
 exact FV.fi Tryz.func51 [bT] (gc (cZ h0) gn)
theorem cFw(h0:(a.length:Int)=(b.length:Int))(hl1:aE Tp 0 aAe (lL a b 0) (.exit 0) (lL a b i'0)):FV Tp 51 [(.p (fS a)),(.p (fS b))] base (pB true) []:=by
 exact FV.fi Tryz.func51 [bF,hl1.k 4 (gZ [2,10,14,12])] (gc hl1.code (gc (aS h0) gn))
theorem cFx(h0:(a.length:Int)=(b.length:Int))(hl1:aE Tp 0 aAe (lL a b 0) .ret (bO (lL a b i'0) [(4,(.kb false))])):FV Tp 51 [(.p (fS a)),(.p (fS b))] base (pB false) []:=by
 exact FV.fi Tryz.func51 [bF,hl1.k 4 (gZ [2,10,14,12])] (gc hl1.code (gc (aS h0) gn))
theorem bJp(h0:(i:Int)<(a.length:Int))(h1:a[i]? = some [y100,y101,y102])(h2:uni 3 a)(h3:b[i]? = some [y103,y104,y105])(h4:uni 3 b)(h5:cV [(aA y100),(aA y101),(aA y102)] [(0,3,true),(1,3,true),(2,3,true)]=true∧cV [(aA y103),(aA y104),(aA y105)] [(0,3,true),(1,3,true),(2,3,true)]=true)(h6:(jP [(aA y100),(aA y101),(aA y102)] [(aA y103),(aA y104),(aA y105)] [(0,3,true),(1,3,true),(2,3,true)])=false):aC Tp 0 aAe (lL a b i) .ret (bO (lL a b i) [(4,(.kb false))]):=by
 exact aC.fi (gZ [2,2,5,7,14,12]) [bT,.x (.agg [(aA y100),(aA y101),(aA y102)]),.x (.agg [(aA y103),(aA y104),(aA y105)]),bT] (gc (bY h6) (gc h5 (gfl h4 h3 (gfl h2 h1 (gc (aK h0) gn)))))
theorem bJq(h0:(i:Int)<(a.length:Int))(h1:a[i]? = some [y100,y101,y102])(h2:uni 3 a)(h3:b[i]? = some [y103,y104,y105])(h4:uni 3 b)(h5:cV [(aA y100),(aA y101),(aA y102)] [(0,3,true),(1,3,true),(2,3,true)]=true∧cV [(aA y103),(aA y104),(aA y105)] [(0,3,true),(1,3,true),(2,3,true)]=true)(h6:(jP [(aA y100),(aA y101),(aA y102)] [(aA y103),(aA y104),(aA y105)] [(0,3,true),(1,3,true),(2,3,true)])=true)(h7:inR (((i+1):Nat):Int))(ei':i'=(i+1)):aC Tp 0 aAe (lL a b i) .normal (lL a b i'):=by
 subst ei';exact aC.fi (gZ [2,10,14,12]) [bT,.x (.agg [(aA y100),(aA y101),(aA y102)]),.x (.agg [(aA y103),(aA y104),(aA y105)]),bF] (gc h7 (gc (aQ h6) (gc h5 (gfl h4 h3 (gfl h2 h1 (gc (aK h0) gn))))))
theorem bJr(h0:(a.length:Int)≤(i:Int)):aC Tp 0 aAe (lL a b i) (.exit 0) (lL a b i):=by
 exact aC.fi (gZ [2,10,14,12]) [bF] (gc (aN h0) gn)
theorem cFy(a b:Lqq)(ha:uni 3 a)(hb:uni 3 b)(hl:a.length≤1000){base:Nat}:FV Tp 51 [.p (fS a),.p (fS b)] base (pB (decide (a=b))) []:=by
 by_cases hlen:a.length=b.length
 ·have eqx:∀ i,i<a.length→∃ x y,a[i]? = some x∧b[i]? = some y∧x.length=3∧y.length=3:=fun i hi =>
   ⟨a[i],b[i],kQ0 hi,kQ0 (by omega),ha _ (gD hi),hb _ (gD (by omega))⟩
  rcases aE.find (P:=Tp) (k:=0) (b:=aAe) (fun i=>lL a b i) (fun i _=>bO (lL a b i) [(4,.kb false)]) (lL a b a.length) .ret (.exit 0) (by simp) (by simp) (fun j=>decide (a.getD j []≠b.getD j [])) (List.range a.length)
   (fun i x hx hp=>by
    have hi:i<a.length:=by have:=aL hx;simpa using this
    obtain ⟨y,z,hy,hz,ly,lz⟩:=eqx i hi;obtain ⟨a,b,c,rfl⟩:=len3 ly;obtain ⟨a',b',c',rfl⟩:=len3 lz;have hxi:x=i:=by rw [nH hi] at hx;exact (Option.some.inj hx).symm
    subst hxi;have he:=of_decide_eq_false hp;simp only [kQ4,hy,hz,Option.getD_some,ne_eq,Classical.not_not] at he
    cases he;exact bJq (by omega) hy ha hz hb ⟨rfl,rfl⟩ (by simp [jP,wG]) (aH (by omega)) rfl)
   (fun i x hx hp=>by
    have hi:i<a.length:=by have:=aL hx;simpa using this
    obtain ⟨y,z,hy,hz,ly,lz⟩:=eqx i hi;obtain ⟨a,b,c,rfl⟩:=len3 ly;obtain ⟨a',b',c',rfl⟩:=len3 lz;have hxi:x=i:=by rw [nH hi] at hx;exact (Option.some.inj hx).symm
    subst hxi;have he:=of_decide_eq_true hp;simp only [kQ4,hy,hz,Option.getD_some] at he
    exact bJp (by omega) hy ha hz hb ⟨rfl,rfl⟩ (by
     rw [Bool.eq_false_iff];intro h;simp [jP,wG] at h
     exact he (by simp [h])))
   (by rw [aHf];exact bJr (by omega)) with ⟨i,x,h1,h2,h3,h4⟩ | ⟨h1,h2,h3⟩
  ·have hi:i<a.length:=by have:=aL h1;simpa using this
   have hxi:x=i:=by rw [nH hi] at h1;exact (Option.some.inj h1).symm
   have he:=of_decide_eq_true h3;rw [decide_eq_false (fun e=>he (by rw [e]))]
   exact cFx (by omega) h4
  ·have hall:∀ i,i<a.length→a.getD i []=b.getD i []:=fun i hi=>by
    have:=List.any_eq_false.1 h2 i (oV.2 hi);simpa using this
   have e:a=b:=by
    apply List.ext_getElem hlen;intro i h1 h2;have:=hall i h1;simpa [kQ4,kQ0 h1,kQ0 h2] using this
   rw [decide_eq_true e];exact cFw (by omega) h3
 ·rw [decide_eq_false (fun e=>hlen (by rw [e]))]
  exact cFv (by omega)
def lM(a:List Int)(b:List Int)(i:Nat):St:=⟨fr 26 [(0,(.p (aG a))),(1,(.p (aG b))),(12,(pI (a.length:Int))),(13,(pI (i:Int)))],[]⟩
theorem cFz{a b:List Int}(h0:(a.length:Int)≠(b.length:Int)):FV Tp 41 [(.p (aG a)),(.p (aG b))] base (pB false) []:=by
 exact FV.fi Tryz.func41 [bT] (gc (cZ h0) gn)
theorem cGa{a b:List Int}(h0:(a.length:Int)=(b.length:Int))(hl1:aE Tp 0 aAf (lM a b 0) (.exit 0) (lM a b i'0)):FV Tp 41 [(.p (aG a)),(.p (aG b))] base (pB true) []:=by
 exact FV.fi Tryz.func41 [bF,hl1.k 4 (gZ [2,10,14,12])] (gc hl1.code (gc (aS h0) gn))
theorem cGb{a b:List Int}(h0:(a.length:Int)=(b.length:Int))(hl1:aE Tp 0 aAf (lM a b 0) .ret (bO (lM a b i'0) [(4,(.kb false))])):FV Tp 41 [(.p (aG a)),(.p (aG b))] base (pB false) []:=by
 exact FV.fi Tryz.func41 [bF,hl1.k 4 (gZ [2,10,14,12])] (gc hl1.code (gc (aS h0) gn))
theorem bJs{a b:List Int}(h0:(i:Int)<(a.length:Int))(h1:a[i]? = some x100)(h2:b[i]? = some x101)(h3:x100≠x101):aC Tp 0 aAf (lM a b i) .ret (bO (lM a b i) [(4,(.kb false))]):=by
 exact aC.fi (gZ [2,2,5,7,14,12]) [bT,.x (aA x100),.x (aA x101),bT] (gc (cZ h3) (gc (atm aA h2) (gc (ixn aA h2) (gc (atm aA h1) (gc (ixn aA h1) (gc (aK h0) gn))))))
theorem bJt{a b:List Int}(h0:(i:Int)<(a.length:Int))(h1:a[i]? = some x100)(h2:b[i]? = some x101)(h3:x100=x101)(h4:inR (((i+1):Nat):Int))(ei':i'=(i+1)):aC Tp 0 aAf (lM a b i) .normal (lM a b i'):=by
 subst ei';exact aC.fi (gZ [2,10,14,12]) [bT,.x (aA x100),.x (aA x101),bF] (gc h4 (gc (aS h3) (gc (atm aA h2) (gc (ixn aA h2) (gc (atm aA h1) (gc (ixn aA h1) (gc (aK h0) gn)))))))
theorem bJu{a b:List Int}(h0:(a.length:Int)≤(i:Int)):aC Tp 0 aAf (lM a b i) (.exit 0) (lM a b i):=by
 exact aC.fi (gZ [2,10,14,12]) [bF] (gc (aN h0) gn)
theorem pF(a b:List Int)(hl:a.length≤1000){base:Nat}:FV Tp 41 [.p (aG a),.p (aG b)] base (pB (decide (a=b))) []:=by
 by_cases hlen:a.length=b.length
 ·rcases aE.find (P:=Tp) (k:=0) (b:=aAf) (fun i=>lM a b i) (fun i _=>bO (lM a b i) [(4,.kb false)]) (lM a b a.length) .ret (.exit 0) (by simp) (by simp) (fun j=>decide (a.getD j 0≠b.getD j 0)) (List.range a.length)
   (fun i x hx hp=>by
    have hi:i<a.length:=by have:=aL hx;simpa using this
    have hxi:x=i:=by rw [nH hi] at hx;exact (Option.some.inj hx).symm
    subst hxi;have h1:a[x]? = some (a.getD x 0):=by rw [kQ4,kQ0 hi];rfl
    have h2:b[x]? = some (b.getD x 0):=by rw [kQ4,kQ0 (by omega)];rfl
    have he:=of_decide_eq_false hp;exact bJt (by omega) h1 h2 (Classical.not_not.1 he) (aH (by omega)) rfl)
   (fun i x hx hp=>by
    have hi:i<a.length:=by have:=aL hx;simpa using this
    have hxi:x=i:=by rw [nH hi] at hx;exact (Option.some.inj hx).symm
    subst hxi;have h1:a[x]? = some (a.getD x 0):=by rw [kQ4,kQ0 hi];rfl
    have h2:b[x]? = some (b.getD x 0):=by rw [kQ4,kQ0 (by omega)];rfl
    exact bJs (by omega) h1 h2 (of_decide_eq_true hp))
   (by rw [aHf];exact bJu (by omega)) with ⟨i,x,h1,h2,h3,h4⟩ | ⟨h1,h2,h3⟩
  ·have he:=of_decide_eq_true h3
   rw [decide_eq_false (fun e=>he (by rw [e]))]
   exact cGb (by omega) h4
  ·have hall:∀ i,i<a.length→a.getD i 0=b.getD i 0:=fun i hi=>by
    have:=List.any_eq_false.1 h2 i (oV.2 hi);simpa using this
   have e:a=b:=by
    apply List.ext_getElem hlen;intro i h1 h2;have:=hall i h1
    rwa [kQ4,kQ4,kQ0 h1,kQ0 h2] at this
   rw [decide_eq_true e];exact cGa (by omega) h3
 ·rw [decide_eq_false (fun e=>hlen (by rw [e]))]
  exact cFz (by omega)
theorem aMq{a b:Int}:FV Tp 23 [(pI a),(pI b),(pI c)] base (.p (dcE a 0 0 b c 0)) []:=by
 exact FV.fi Tryz.func23 [] gn
theorem jD{a b d e:Int}:FV Tp 49 [(pI a),(pI b),(pI c),(pI d),(pI e)] base (.p (dcE a b d 0 e c)) []:=by
 exact FV.fi Tryz.func49 [] gn
end
section
variable {P:Program}
theorem FC.close1{f base id ty n:Nat}{cs:List PV}{args args':List AV}{y:AV}{L:Upd}(h:FC P f args' [] base y L)(ha:fzL id n cs args=args'):FC P f args [(id,.row ty n cs)] base y ((id,.dead)::L):=fun M hb hf h8=>by
 have hoM:=hb _ (jJ ..);subst ha;have fre:∀ j,fO M (base+j)=true→fO (bA M id (some .dead)) (base+j)=true:=fun j hj=>by
  have hne:id≠base+j:=fun e=>by
   have:=cU hj;rw [← e] at this
   exact this _ (bK.1 hoM)
  unfold fO at hj ⊢
  rw [dC,if_neg hne];exact hj
 exact FM.close1 hoM (h _ (fun p hp=>by cases hp) (by have:=fre 0 (by simpa using hf);simpa using this) (fun j hj=>fre j (h8 j hj)))
end
section
variable {b103:Bool}{r6 y0 y1 y2 y3 y4 y5 num n102 y100 y101:Int}{T104:Lqb}{x:List Int}{base:Nat}
variable {dl:Int}{sk dc:Lqq}

noncomputable abbrev aWo:Code:=sub (cd Tryz.f58) [1,1,1,1,1,1,1,1,1,0,1,0,1,0,0]
noncomputable abbrev bQk:Code:=sub (cd Tryz.f58) [1,1,1,1,1,1,1,1,1,0,1,0]
noncomputable abbrev aWp:Code:=sub (cd Tryz.f58) [1,1,1,1,1,1,1,1,1,0,1,0,1]
theorem aFw:((0:Int) != 0)=false:=by first | decide | simp
def kU(dl:Int)(sk dc:Lqq)(r:Int)(x:List Int):Int × Bool:=cM dl x (aB dc) (((aB sk).getD (bJ (fun x=>decide (r=x)) (aP (aB sk) 0)).toNat []).getD 0 0) (((aB sk).getD (bJ (fun x=>decide (r=x)) (aP (aB sk) 0)).toNat []).getD 1 0)
def rR(dl:Int)(sk:Lqq)(dc:Lqq)(num:Int)(r6:Int)  : St:=⟨fr 102 [(3,(.rp [(aA num)] 0)),(4,(.ptr 0 0)),(5,(.ptr 1 0)),(6,(.rp [(PV.rp (aR dl (aB sk) (aB dc)) 0)] 0)),(9,(.rp [(aA r6)] 0)),(10,(.rp [(aA (bJ (fun x=>decide (r6=x)) (aP (aB sk) 0)))] 0)),(53,(.fn 182 [] [(.rp [(aG ((bB dl (aB dc)).filter fun n => !(n == num)))] 0)]))],[some (.box 4 [(pB false)]),some (.box 34 [(pI 0)])]⟩
def aFx(dl:Int)(sk:Lqq)(dc:Lqq)(num:Int)(r6:Int):St:=⟨fr 102 [(3,(.rp [(aA num)] 0)),(4,(.ptr 0 0)),(5,(.ptr 1 0)),(6,(.rp [(PV.rp (aR dl (aB sk) (aB dc)) 0)] 0)),(9,(.rp [(aA r6)] 0)),(10,(.rp [(aA (bJ (fun x=>decide (r6=x)) (aP (aB sk) 0)))] 0)),(53,(.fn 182 [] [(.rp [(aG ((bB dl (aB dc)).filter fun n => !(n == num)))] 0)]))],[some (.box 4 [(pB false)]),some (.box 34 [(pI 0)])]⟩
def aWq(dl:Int)(sk:Lqq)(dc:Lqq)(num:Int)(r6:Int):St:=⟨fr 102 [(3,(.rp [(aA num)] 0)),(4,(.ptr 0 0)),(5,(.ptr 1 0)),(6,(.rp [(PV.rp (aR dl (aB sk) (aB dc)) 0)] 0)),(9,(.rp [(aA r6)] 0)),(10,(.rp [(aA (bJ (fun x=>decide (r6=x)) (aP (aB sk) 0)))] 0)),(53,(.fn 182 [] [(.rp [(aG ((bB dl (aB dc)).filter fun n => !(n == num)))] 0)]))],[some (.box 4 [(.kb true)]),some (.box 34 [(pI 0)])]⟩
theorem cFo(h0:bZ dl sk dc)(h1:bD (aB dc))(h2:(bB dl (aB dc)).length≤1000)(h3:((bB dl (aB dc)).contains num)=false):FV Tp 58 [(.p (.agg (aX dl sk dc))),(pI num)] base (.tup [(pB false),(pI 1)]) []:=by
 have k1:=fk 4 (iT dl sk dc h0) rfl;have k2:=fk 3 (tX (dl:=dl) (sk:=(aB sk)) (dc:=(aB dc)) h1) rfl;exact FV.fi Tryz.func58 [k1.o,bF,.g 1 ⟨[],[0,2,3],[4,1],[]⟩,.x (PV.rp (aR dl (aB sk) (aB dc)) 0),k2.o,.x (aA num),.c (pB ((bB dl (aB dc)).contains num)) [],bT] (gc (bY h3) (gt (FC Tp 52 [(.own 3),(pI num)] [(3,(.row 3 ((bB dl (aB dc)).length) ((bB dl (aB dc)).map aA)))] 4 (pB ((bB dl (aB dc)).contains num)) []) (fv (pC (bB dl (aB dc)) num h2)) (gr (aA num) (gc k2 (gr (PV.rp (aR dl (aB sk) (aB dc)) 0) (gc aFw (gc k1 gn)))))))
theorem cFp(h0:bZ dl sk dc)(h1:bD (aB dc))(h2:(bB dl (aB dc)).length≤1000)(h3:((bB dl (aB dc)).contains num)=true)(h4:(8:Int)<(((bB dl (aB dc)).length:Nat):Int)):FV Tp 58 [(.p (.agg (aX dl sk dc))),(pI num)] base (.tup [(pB false),(pI 10)]) []:=by
 have k1:=fk 4 (iT dl sk dc h0) rfl;have k2:=fk 3 (tX (dl:=dl) (sk:=(aB sk)) (dc:=(aB dc)) h1) rfl;exact FV.fi Tryz.func58 [k1.o,bF,.g 1 ⟨[],[0,2,3],[4,1],[]⟩,.x (PV.rp (aR dl (aB sk) (aB dc)) 0),k2.o,.x (aA num),.c (pB ((bB dl (aB dc)).contains num)) [],bF,bT] (gc (aK h4) (gc (aQ h3) (gt (FC Tp 52 [(.own 3),(pI num)] [(3,(.row 3 ((bB dl (aB dc)).length) ((bB dl (aB dc)).map aA)))] 4 (pB ((bB dl (aB dc)).contains num)) []) (fv (pC (bB dl (aB dc)) num h2)) (gr (aA num) (gc k2 (gr (PV.rp (aR dl (aB sk) (aB dc)) 0) (gc aFw (gc k1 gn))))))))
theorem cFq(h0:bZ dl sk dc)(h1:bD (aB dc))(h2:(bB dl (aB dc)).length≤1000)(h3:((bB dl (aB dc)).contains num)=true)(h4:(((bB dl (aB dc)).length:Nat):Int)≤8)(h5:cN .i64 (atF (aB dc).reverse) (.int .i64 num))(h6:(dR (atF (aB dc).reverse) (.int .i64 num))=true)(h7:fN (atF (aB dc).reverse) (.int .i64 num)=some (dcE y0 y1 y2 y3 y4 y5))(h8:bQx dl (aB sk) (aB dc) [y0,y1,y2,y3,y4,y5] r6)(h9:uni 2 (aB sk)∧(aB sk).length≤1000)(h10:(aP (aB sk) 0).length≤1000)(h11:(bJ (fun x=>decide (r6=x)) (aP (aB sk) 0))<0):FV Tp 58 [(.p (.agg (aX dl sk dc))),(pI num)] base (.tup [(pB false),(pI 0)]) []:=by
 have k1:=fk 4 (iT dl sk dc h0) rfl;have k2:=fk 3 (tX (dl:=dl) (sk:=(aB sk)) (dc:=(aB dc)) h1) rfl;have k3:=fk 13 (nO dl (aB sk) (aB dc) h9) rfl;exact FV.fi Tryz.func58 [k1.o,bF,.g 1 ⟨[],[0,2,3],[4,1],[]⟩,.x (PV.rp (aR dl (aB sk) (aB dc)) 0),k2.o,.x (aA num),.c (pB ((bB dl (aB dc)).contains num)) [],bF,bF,.x (PV.rp (aR dl (aB sk) (aB dc)) 0),.x (PV.rp (aR dl (aB sk) (aB dc)) 0),.x (.mp (atF (aB dc).reverse)),.x (aA num),bT,.x (dcE y0 y1 y2 y3 y4 y5),.c (pI r6) [],.x (PV.rp (aR dl (aB sk) (aB dc)) 0),.x (.agg (aX dl (aB sk) (aB dc))),k3.o,.c (pI (bJ (fun x=>decide (r6=x)) (aP (aB sk) 0))) [],.g 2 ⟨[],[0,1,2,3,13],[12,29],[]⟩,.x (aA (bJ (fun x=>decide (r6=x)) (aP (aB sk) 0))),bT] (gc (aK h11) (gr (aA (bJ (fun x=>decide (r6=x)) (aP (aB sk) 0))) (gt (FC Tp 126 [(.own 13),(pI r6)] [(13,(.row 3 ((aP (aB sk) 0).length) ((aP (aB sk) 0).map aA)))] 21 (pI (bJ (fun x=>decide (r6=x)) (aP (aB sk) 0))) []) (fv (zR (aP (aB sk) 0) r6 h10)) (gc k3 (gr (.agg (aX dl (aB sk) (aB dc))) (gt (0+3≤(aR dl (aB sk) (aB dc)).length) (by first | decide | simp) (gr (PV.rp (aR dl (aB sk) (aB dc)) 0) (gc (fk 4 (h8 _) rfl) (gc h7 (gc h6 (gc h5 (gr (aA num) (gr (.mp (atF (aB dc).reverse)) (gr (PV.rp (aR dl (aB sk) (aB dc)) 0) (gr (PV.rp (aR dl (aB sk) (aB dc)) 0) (gc (aN h4) (gc (aQ h3) (gt (FC Tp 52 [(.own 3),(pI num)] [(3,(.row 3 ((bB dl (aB dc)).length) ((bB dl (aB dc)).map aA)))] 4 (pB ((bB dl (aB dc)).contains num)) []) (fv (pC (bB dl (aB dc)) num h2)) (gr (aA num) (gc k2 (gr (PV.rp (aR dl (aB sk) (aB dc)) 0) (gc aFw (gc k1 gn)))))))))))))))))))))))
theorem cFr(h0:bZ dl sk dc)(h1:bD (aB dc))(h2:(bB dl (aB dc)).length≤1000)(h3:((bB dl (aB dc)).contains num)=true)(h4:(((bB dl (aB dc)).length:Nat):Int)≤8)(h5:cN .i64 (atF (aB dc).reverse) (.int .i64 num))(h6:(dR (atF (aB dc).reverse) (.int .i64 num))=true)(h7:fN (atF (aB dc).reverse) (.int .i64 num)=some (dcE y0 y1 y2 y3 y4 y5))(h8:bQx dl (aB sk) (aB dc) [y0,y1,y2,y3,y4,y5] r6)(h9:uni 2 (aB sk)∧(aB sk).length≤1000)(h10:(aP (aB sk) 0).length≤1000)(h11:(0:Int)≤(bJ (fun x=>decide (r6=x)) (aP (aB sk) 0)))(hl12:aC Tp 0 bQk (aFx dl sk dc num r6) .normal (rR dl sk dc num r6 )):FV Tp 58 [(.p (.agg (aX dl sk dc))),(pI num)] base (.tup [(pB false),(pI 0)]) []:=by
 have k1:=fk 4 (iT dl sk dc h0) rfl;have k2:=fk 3 (tX (dl:=dl) (sk:=(aB sk)) (dc:=(aB dc)) h1) rfl;have k3:=fk 13 (nO dl (aB sk) (aB dc) h9) rfl;have k4:=fk 5 (aWx (q:=((bB dl (aB dc)).filter fun n => !(n == num)))) rfl;exact FV.fi Tryz.func58 [k1.o,bF,.g 1 ⟨[],[0,2,3],[4,1],[]⟩,.x (PV.rp (aR dl (aB sk) (aB dc)) 0),k2.o,.x (aA num),.c (pB ((bB dl (aB dc)).contains num)) [],bF,bF,.x (PV.rp (aR dl (aB sk) (aB dc)) 0),.x (PV.rp (aR dl (aB sk) (aB dc)) 0),.x (.mp (atF (aB dc).reverse)),.x (aA num),bT,.x (dcE y0 y1 y2 y3 y4 y5),.c (pI r6) [],.x (PV.rp (aR dl (aB sk) (aB dc)) 0),.x (.agg (aX dl (aB sk) (aB dc))),k3.o,.c (pI (bJ (fun x=>decide (r6=x)) (aP (aB sk) 0))) [],.g 2 ⟨[],[0,1,2,3,13],[12,29],[]⟩,.x (aA (bJ (fun x=>decide (r6=x)) (aP (aB sk) 0))),bF,.c (.p (aG ((bB dl (aB dc)).filter fun n => !(n == num)))) [(3,.dead)],k4.o,hl12.k 1 (gI [0,3,7,2,11,42,54,48] [1,2])] (gc hl12 (gc k4 (gt (FC Tp 54 [(.own 3),(.fn 133 [] [(.rp [(aA num)] 0)])] [(3,(.row 3 ((bB dl (aB dc)).length) ((bB dl (aB dc)).map aA)))] 5 (.p (aG ((bB dl (aB dc)).filter fun n => !(n == num)))) [(3,.dead)]) (FMM.fc (ids:=[3]) (bQv (l:=(bB dl (aB dc))) (m:=num) h2 (fun _ _=>rfl)) (by kernel_rfl)) (gc (aN h11) (gr (aA (bJ (fun x=>decide (r6=x)) (aP (aB sk) 0))) (gt (FC Tp 126 [(.own 13),(pI r6)] [(13,(.row 3 ((aP (aB sk) 0).length) ((aP (aB sk) 0).map aA)))] 21 (pI (bJ (fun x=>decide (r6=x)) (aP (aB sk) 0))) []) (fv (zR (aP (aB sk) 0) r6 h10)) (gc k3 (gr (.agg (aX dl (aB sk) (aB dc))) (gt (0+3≤(aR dl (aB sk) (aB dc)).length) (by first | decide | simp) (gr (PV.rp (aR dl (aB sk) (aB dc)) 0) (gc (fk 4 (h8 _) rfl) (gc h7 (gc h6 (gc h5 (gr (aA num) (gr (.mp (atF (aB dc).reverse)) (gr (PV.rp (aR dl (aB sk) (aB dc)) 0) (gr (PV.rp (aR dl (aB sk) (aB dc)) 0) (gc (aN h4) (gc (aQ h3) (gt (FC Tp 52 [(.own 3),(pI num)] [(3,(.row 3 ((bB dl (aB dc)).length) ((bB dl (aB dc)).map aA)))] 4 (pB ((bB dl (aB dc)).contains num)) []) (fv (pC (bB dl (aB dc)) num h2)) (gr (aA num) (gc k2 (gr (PV.rp (aR dl (aB sk) (aB dc)) 0) (gc aFw (gc k1 gn))))))))))))))))))))))))))
theorem cFs(h0:bZ dl sk dc)(h1:bD (aB dc))(h2:(bB dl (aB dc)).length≤1000)(h3:((bB dl (aB dc)).contains num)=true)(h4:(((bB dl (aB dc)).length:Nat):Int)≤8)(h5:cN .i64 (atF (aB dc).reverse) (.int .i64 num))(h6:(dR (atF (aB dc).reverse) (.int .i64 num))=true)(h7:fN (atF (aB dc).reverse) (.int .i64 num)=some (dcE y0 y1 y2 y3 y4 y5))(h8:bQx dl (aB sk) (aB dc) [y0,y1,y2,y3,y4,y5] r6)(h9:uni 2 (aB sk)∧(aB sk).length≤1000)(h10:(aP (aB sk) 0).length≤1000)(h11:(0:Int)≤(bJ (fun x=>decide (r6=x)) (aP (aB sk) 0)))(hl12:aC Tp 0 bQk (aFx dl sk dc num r6) .ret (aWq dl sk dc num r6)):FV Tp 58 [(.p (.agg (aX dl sk dc))),(pI num)] base (.tup [(pB true),(pI 0)]) []:=by
 have k1:=fk 4 (iT dl sk dc h0) rfl;have k2:=fk 3 (tX (dl:=dl) (sk:=(aB sk)) (dc:=(aB dc)) h1) rfl;have k3:=fk 13 (nO dl (aB sk) (aB dc) h9) rfl;have k4:=fk 5 (aWx (q:=((bB dl (aB dc)).filter fun n => !(n == num)))) rfl;exact FV.fi Tryz.func58 [k1.o,bF,.g 1 ⟨[],[0,2,3],[4,1],[]⟩,.x (PV.rp (aR dl (aB sk) (aB dc)) 0),k2.o,.x (aA num),.c (pB ((bB dl (aB dc)).contains num)) [],bF,bF,.x (PV.rp (aR dl (aB sk) (aB dc)) 0),.x (PV.rp (aR dl (aB sk) (aB dc)) 0),.x (.mp (atF (aB dc).reverse)),.x (aA num),bT,.x (dcE y0 y1 y2 y3 y4 y5),.c (pI r6) [],.x (PV.rp (aR dl (aB sk) (aB dc)) 0),.x (.agg (aX dl (aB sk) (aB dc))),k3.o,.c (pI (bJ (fun x=>decide (r6=x)) (aP (aB sk) 0))) [],.g 2 ⟨[],[0,1,2,3,13],[12,29],[]⟩,.x (aA (bJ (fun x=>decide (r6=x)) (aP (aB sk) 0))),bF,.c (.p (aG ((bB dl (aB dc)).filter fun n => !(n == num)))) [(3,.dead)],k4.o,hl12.k 1 (gI [0,3,7,2,11,42,54,48] [1,2])] (gc hl12 (gc k4 (gt (FC Tp 54 [(.own 3),(.fn 133 [] [(.rp [(aA num)] 0)])] [(3,(.row 3 ((bB dl (aB dc)).length) ((bB dl (aB dc)).map aA)))] 5 (.p (aG ((bB dl (aB dc)).filter fun n => !(n == num)))) [(3,.dead)]) (FMM.fc (ids:=[3]) (bQv (l:=(bB dl (aB dc))) (m:=num) h2 (fun _ _=>rfl)) (by kernel_rfl)) (gc (aN h11) (gr (aA (bJ (fun x=>decide (r6=x)) (aP (aB sk) 0))) (gt (FC Tp 126 [(.own 13),(pI r6)] [(13,(.row 3 ((aP (aB sk) 0).length) ((aP (aB sk) 0).map aA)))] 21 (pI (bJ (fun x=>decide (r6=x)) (aP (aB sk) 0))) []) (fv (zR (aP (aB sk) 0) r6 h10)) (gc k3 (gr (.agg (aX dl (aB sk) (aB dc))) (gt (0+3≤(aR dl (aB sk) (aB dc)).length) (by first | decide | simp) (gr (PV.rp (aR dl (aB sk) (aB dc)) 0) (gc (fk 4 (h8 _) rfl) (gc h7 (gc h6 (gc h5 (gr (aA num) (gr (.mp (atF (aB dc).reverse)) (gr (PV.rp (aR dl (aB sk) (aB dc)) 0) (gr (PV.rp (aR dl (aB sk) (aB dc)) 0) (gc (aN h4) (gc (aQ h3) (gt (FC Tp 52 [(.own 3),(pI num)] [(3,(.row 3 ((bB dl (aB dc)).length) ((bB dl (aB dc)).map aA)))] 4 (pB ((bB dl (aB dc)).contains num)) []) (fv (pC (bB dl (aB dc)) num h2)) (gr (aA num) (gc k2 (gr (PV.rp (aR dl (aB sk) (aB dc)) 0) (gc aFw (gc k1 gn))))))))))))))))))))))))))
def uF(dl:Int)(sk:Lqq)(dc:Lqq)(num:Int)(r6:Int)(x:List Int)  : St:=⟨fr 102 [(3,(.rp [(aA num)] 0)),(4,(.ptr 0 0)),(5,(.ptr 1 0)),(6,(.rp [(PV.rp (aR dl (aB sk) (aB dc)) 0)] 0)),(9,(.rp [(aA r6)] 0)),(10,(.rp [(aA (bJ (fun x=>decide (r6=x)) (aP (aB sk) 0)))] 0)),(11,(.own 2)),(53,(.fn 182 [] [(.rp [(aG ((bB dl (aB dc)).filter fun n => !(n == num)))] 0)])),(54,(.own 2))],[some (.box 4 [(pB false)]),some (.box 34 [(pI 0)]),some (.row 3 x.length (x.map aA))]⟩
def aMp(dl:Int)(sk:Lqq)(dc:Lqq)(num:Int)(r6:Int)  : St:=⟨fr 102 [],[some (.box 4 [(.kb true)]),some (.box 34 [(pI 0)]),some .dead]⟩
theorem bJm(hl0:aC Tp 3 aWo (uF dl sk dc num r6 x ) .normal (bO (uF dl sk dc num r6 x ) [(12,(pI ((kU dl sk dc r6 x).1))),(13,(pB ((kU dl sk dc r6 x).2)))]))(h1:(aB sk)[(bJ (fun x=>decide (r6=x)) (aP (aB sk) 0)).toNat]? = some [y100,y101])(h2:0≤(bJ (fun x=>decide (r6=x)) (aP (aB sk) 0)))(h3:uni 2 (aB sk))(h4:[(aA num)].length=1*1∧x.length+1≤1000000)(h5:yH dl (aB sk) (aB dc) (.sl (x.length+1) ((x.map aA)++[(aA num)])) [y100,y101] n102 b103 ([]:Lqb) T104)(h6:cV [(aA r6),(aA 0),(aA ((kU dl sk dc r6 x).1))] [(0,3,true),(1,3,true),(2,3,true)]=true∧cV [(aA r6),(aA 0),(aA n102)] [(0,3,true),(1,3,true),(2,3,true)]=true)(h7:(jP [(aA r6),(aA 0),(aA ((kU dl sk dc r6 x).1))] [(aA r6),(aA 0),(aA n102)] [(0,3,true),(1,3,true),(2,3,true)])=false):aC Tp 3 aWp (rfO (rR dl sk dc num r6 ) 54 11 x) .ret (aMp dl sk dc num r6 ):=by
 have k1:=mq [5,6,7,8,9,10,11] 13 h5;exact aC.fi (gZ [0,102]) [hl0.k 2 (gZ [0,3,7,2,12,2,16,37,55,16]),.x (PV.rp (aR dl (aB sk) (aB dc)) 0),.x (PV.rp (aR dl (aB sk) (aB dc)) 0),.x (.sl ((aB sk).length) ((aB sk).flatten.map aA)),.x (aA (bJ (fun x=>decide (r6=x)) (aP (aB sk) 0))),.x (.agg [(aA y100),(aA y101)]),.x (PV.rp (aR dl (aB sk) (aB dc)) 0),.x (aA num),.c (.agg (kVL 9 10 5 7 11 6)) [(4,.dead),(5,(vB0 dl (aB sk) (aB dc))),(6,(.box 33 [(.p (.sl (x.length+1) ((x.map aA)++[(aA num)])))])),(7,(.box 139 (kVL 9 10 5 7 11 6))),(8,(.mp (aO ([]:Lqb)) 0)),(9,(.box 207 [(.mp 8)])),(10,(vB5 dl (aB sk) (aB dc))),(11,(.box 209 [(.fn 153 [] [(.ptr 5 0),(.ptr 7 0)])]))],k1.o,.x (aA r6),.x (aA r6),bT,bT,bT,bT] (g4c (bY h7) (gc h6 (gr (aA r6) (gr (aA r6) (gc k1 (gt (FC Tp 87 [(.rp (aR dl (aB sk) (aB dc)) 0),(.own 4)] [(4,(.row 3 (x.length+1) ((x.map aA)++[(aA num)])))] 5 (.agg (kVL 9 10 5 7 11 6)) [(4,.dead),(5,(vB0 dl (aB sk) (aB dc))),(6,(.box 33 [(.p (.sl (x.length+1) ((x.map aA)++[(aA num)])))])),(7,(.box 139 (kVL 9 10 5 7 11 6))),(8,(.mp (aO ([]:Lqb)) 0)),(9,(.box 207 [(.mp 8)])),(10,(vB5 dl (aB sk) (aB dc))),(11,(.box 209 [(.fn 153 [] [(.ptr 5 0),(.ptr 7 0)])]))]) (FC.close1 (args':=[(.rp (aR dl (aB sk) (aB dc)) 0),(.p (.sl (x.length+1) ((x.map aA)++[(aA num)])))]) (FMM.fcN (k:=7) rfl (ids:=[]) (rP (dl:=dl) (sk:=(aB sk)) (dc:=(aB dc)) (on:=(x.length+1)) (ol:=((x.map aA)++[(aA num)]))) (by kernel_rfl)) (by kernel_rfl)) (gc h4 (gr (aA num) (gr (PV.rp (aR dl (aB sk) (aB dc)) 0) (gfz h3 h2 h1 (gr (aA (bJ (fun x=>decide (r6=x)) (aP (aB sk) 0))) (gr (.sl ((aB sk).length) ((aB sk).flatten.map aA)) (gr (PV.rp (aR dl (aB sk) (aB dc)) 0) (gr (PV.rp (aR dl (aB sk) (aB dc)) 0) (gc hl0 gn)))))))))))))))
theorem bJn(hl0:aC Tp 3 aWo (uF dl sk dc num r6 x ) .normal (bO (uF dl sk dc num r6 x ) [(12,(pI ((kU dl sk dc r6 x).1))),(13,(pB ((kU dl sk dc r6 x).2)))]))(h1:(aB sk)[(bJ (fun x=>decide (r6=x)) (aP (aB sk) 0)).toNat]? = some [y100,y101])(h2:0≤(bJ (fun x=>decide (r6=x)) (aP (aB sk) 0)))(h3:uni 2 (aB sk))(h4:[(aA num)].length=1*1∧x.length+1≤1000000)(h5:yH dl (aB sk) (aB dc) (.sl (x.length+1) ((x.map aA)++[(aA num)])) [y100,y101] n102 b103 ([]:Lqb) T104)(h6:cV [(aA r6),(aA 0),(aA ((kU dl sk dc r6 x).1))] [(0,3,true),(1,3,true),(2,3,true)]=true∧cV [(aA r6),(aA 0),(aA n102)] [(0,3,true),(1,3,true),(2,3,true)]=true)(h7:(jP [(aA r6),(aA 0),(aA ((kU dl sk dc r6 x).1))] [(aA r6),(aA 0),(aA n102)] [(0,3,true),(1,3,true),(2,3,true)])=true)(h8:(((kU dl sk dc r6 x).2) == b103)=false):aC Tp 3 aWp (rfO (rR dl sk dc num r6 ) 54 11 x) .ret (aMp dl sk dc num r6 ):=by
 have k1:=mq [5,6,7,8,9,10,11] 13 h5;exact aC.fi (gZ [0,102]) [hl0.k 2 (gZ [0,3,7,2,12,2,16,37,55,16]),.x (PV.rp (aR dl (aB sk) (aB dc)) 0),.x (PV.rp (aR dl (aB sk) (aB dc)) 0),.x (.sl ((aB sk).length) ((aB sk).flatten.map aA)),.x (aA (bJ (fun x=>decide (r6=x)) (aP (aB sk) 0))),.x (.agg [(aA y100),(aA y101)]),.x (PV.rp (aR dl (aB sk) (aB dc)) 0),.x (aA num),.c (.agg (kVL 9 10 5 7 11 6)) [(4,.dead),(5,(vB0 dl (aB sk) (aB dc))),(6,(.box 33 [(.p (.sl (x.length+1) ((x.map aA)++[(aA num)])))])),(7,(.box 139 (kVL 9 10 5 7 11 6))),(8,(.mp (aO ([]:Lqb)) 0)),(9,(.box 207 [(.mp 8)])),(10,(vB5 dl (aB sk) (aB dc))),(11,(.box 209 [(.fn 153 [] [(.ptr 5 0),(.ptr 7 0)])]))],k1.o,.x (aA r6),.x (aA r6),bF,bF,bF,bF,bT] (gc (bY h8) (g4c (aQ h7) (gc h6 (gr (aA r6) (gr (aA r6) (gc k1 (gt (FC Tp 87 [(.rp (aR dl (aB sk) (aB dc)) 0),(.own 4)] [(4,(.row 3 (x.length+1) ((x.map aA)++[(aA num)])))] 5 (.agg (kVL 9 10 5 7 11 6)) [(4,.dead),(5,(vB0 dl (aB sk) (aB dc))),(6,(.box 33 [(.p (.sl (x.length+1) ((x.map aA)++[(aA num)])))])),(7,(.box 139 (kVL 9 10 5 7 11 6))),(8,(.mp (aO ([]:Lqb)) 0)),(9,(.box 207 [(.mp 8)])),(10,(vB5 dl (aB sk) (aB dc))),(11,(.box 209 [(.fn 153 [] [(.ptr 5 0),(.ptr 7 0)])]))]) (FC.close1 (args':=[(.rp (aR dl (aB sk) (aB dc)) 0),(.p (.sl (x.length+1) ((x.map aA)++[(aA num)])))]) (FMM.fcN (k:=7) rfl (ids:=[]) (rP (dl:=dl) (sk:=(aB sk)) (dc:=(aB dc)) (on:=(x.length+1)) (ol:=((x.map aA)++[(aA num)]))) (by kernel_rfl)) (by kernel_rfl)) (gc h4 (gr (aA num) (gr (PV.rp (aR dl (aB sk) (aB dc)) 0) (gfz h3 h2 h1 (gr (aA (bJ (fun x=>decide (r6=x)) (aP (aB sk) 0))) (gr (.sl ((aB sk).length) ((aB sk).flatten.map aA)) (gr (PV.rp (aR dl (aB sk) (aB dc)) 0) (gr (PV.rp (aR dl (aB sk) (aB dc)) 0) (gc hl0 gn))))))))))))))))
def aWr(dl:Int)(sk:Lqq)(dc:Lqq)(num:Int)(r6:Int)  : St:=⟨fr 102 [(3,(.rp [(aA num)] 0)),(4,(.ptr 0 0)),(5,(.ptr 1 0)),(6,(.rp [(PV.rp (aR dl (aB sk) (aB dc)) 0)] 0)),(9,(.rp [(aA r6)] 0)),(10,(.rp [(aA (bJ (fun x=>decide (r6=x)) (aP (aB sk) 0)))] 0)),(53,(.fn 182 [] [(.rp [(aG ((bB dl (aB dc)).filter fun n => !(n == num)))] 0)]))],[some (.box 4 [(pB false)]),some (.box 34 [(pI 0)]),some .dead]⟩
theorem bJo(hl0:aC Tp 3 aWo (uF dl sk dc num r6 x ) .normal (bO (uF dl sk dc num r6 x ) [(12,(pI ((kU dl sk dc r6 x).1))),(13,(pB ((kU dl sk dc r6 x).2)))]))(h1:(aB sk)[(bJ (fun x=>decide (r6=x)) (aP (aB sk) 0)).toNat]? = some [y100,y101])(h2:0≤(bJ (fun x=>decide (r6=x)) (aP (aB sk) 0)))(h3:uni 2 (aB sk))(h4:[(aA num)].length=1*1∧x.length+1≤1000000)(h5:yH dl (aB sk) (aB dc) (.sl (x.length+1) ((x.map aA)++[(aA num)])) [y100,y101] n102 b103 ([]:Lqb) T104)(h6:cV [(aA r6),(aA 0),(aA ((kU dl sk dc r6 x).1))] [(0,3,true),(1,3,true),(2,3,true)]=true∧cV [(aA r6),(aA 0),(aA n102)] [(0,3,true),(1,3,true),(2,3,true)]=true)(h7:(jP [(aA r6),(aA 0),(aA ((kU dl sk dc r6 x).1))] [(aA r6),(aA 0),(aA n102)] [(0,3,true),(1,3,true),(2,3,true)])=true)(h8:(((kU dl sk dc r6 x).2) == b103)=true):aC Tp 3 aWp (rfO (rR dl sk dc num r6 ) 54 11 x) .normal (aWr dl sk dc num r6 ):=by
 have k1:=mq [5,6,7,8,9,10,11] 13 h5;exact aC.fi (gZ [0,3,7,2,11,42,54,48]) ([hl0.k 2 (gZ [0,3,7,2,12,2,16,37,55,16]),.x (PV.rp (aR dl (aB sk) (aB dc)) 0),.x (PV.rp (aR dl (aB sk) (aB dc)) 0),.x (.sl ((aB sk).length) ((aB sk).flatten.map aA)),.x (aA (bJ (fun x=>decide (r6=x)) (aP (aB sk) 0))),.x (.agg [(aA y100),(aA y101)]),.x (PV.rp (aR dl (aB sk) (aB dc)) 0),.x (aA num),.c (.agg (kVL 9 10 5 7 11 6)) [(4,.dead),(5,(vB0 dl (aB sk) (aB dc))),(6,(.box 33 [(.p (.sl (x.length+1) ((x.map aA)++[(aA num)])))])),(7,(.box 139 (kVL 9 10 5 7 11 6))),(8,(.mp (aO ([]:Lqb)) 0)),(9,(.box 207 [(.mp 8)])),(10,(vB5 dl (aB sk) (aB dc))),(11,(.box 209 [(.fn 153 [] [(.ptr 5 0),(.ptr 7 0)])]))],k1.o,.x (aA r6),.x (aA r6)]++rF 5) (gc (aQ h8) (g4c (aQ h7) (gc h6 (gr (aA r6) (gr (aA r6) (gc k1 (gt (FC Tp 87 [(.rp (aR dl (aB sk) (aB dc)) 0),(.own 4)] [(4,(.row 3 (x.length+1) ((x.map aA)++[(aA num)])))] 5 (.agg (kVL 9 10 5 7 11 6)) [(4,.dead),(5,(vB0 dl (aB sk) (aB dc))),(6,(.box 33 [(.p (.sl (x.length+1) ((x.map aA)++[(aA num)])))])),(7,(.box 139 (kVL 9 10 5 7 11 6))),(8,(.mp (aO ([]:Lqb)) 0)),(9,(.box 207 [(.mp 8)])),(10,(vB5 dl (aB sk) (aB dc))),(11,(.box 209 [(.fn 153 [] [(.ptr 5 0),(.ptr 7 0)])]))]) (FC.close1 (args':=[(.rp (aR dl (aB sk) (aB dc)) 0),(.p (.sl (x.length+1) ((x.map aA)++[(aA num)])))]) (FMM.fcN (k:=7) rfl (ids:=[]) (rP (dl:=dl) (sk:=(aB sk)) (dc:=(aB dc)) (on:=(x.length+1)) (ol:=((x.map aA)++[(aA num)]))) (by kernel_rfl)) (by kernel_rfl)) (gc h4 (gr (aA num) (gr (PV.rp (aR dl (aB sk) (aB dc)) 0) (gfz h3 h2 h1 (gr (aA (bJ (fun x=>decide (r6=x)) (aP (aB sk) 0))) (gr (.sl ((aB sk).length) ((aB sk).flatten.map aA)) (gr (PV.rp (aR dl (aB sk) (aB dc)) 0) (gr (PV.rp (aR dl (aB sk) (aB dc)) 0) (gc hl0 gn))))))))))))))))
end
section

end
section

theorem bTn{dl:Int}{sk dc:Lqq}(hd:bD dc){base:Nat}:FV Tp 75 [.p (.agg (aX dl sk dc)),.p bM] base (.own base) [(base,.row 121 ((bH dl [] dc).map (bR dl)).length ((((bH dl [] dc).map (bR dl)).map rsE).flatten))]:=FV.argwk (args':=[.p (.agg (aX dl sk dc)),.p (aG [])]) (aUj (sk:=sk) (q:=[]) hd (by simp)) (by kernel_rfl)
end
section
section
variable {dl:Int} {sk dc:Lqq}
theorem bOe{oc:List Int}(hd:bD dc){i:Nat}{x:List Int}(h:dc[i]? = some x):∃ s,(bH dl oc dc)[i]? = some s∧s.x=x∧stF dl oc dc x=s:=by
 have hi:=(kQ3.1 h).1;have hi':i<(bH dl oc dc).length:=by rw [gJ];exact hi
 refine ⟨_,kQ0 hi',?_,?_⟩
 ·have:=congrArg (fun l=>l[i]?) (wW dl oc dc)
  simp only [kQ9,kQ0 hi',h] at this
  exact Option.some.inj this
 ·have hx:(bH dl oc dc)[i].x=x:=by
   have:=congrArg (fun l=>l[i]?) (wW dl oc dc)
   simp only [kQ9,kQ0 hi',h] at this
   exact Option.some.inj this
  have:=aJt hd (gD hi')
  rwa [hx] at this
theorem cAn(dc:Lqq)(n:Int):(∃ (i:Nat) (x:List Int),bJ (fun x:List Int=>decide (x.getD 0 0=n)) dc=(i:Int)∧dc[i]? = some x∧ofN dc n=some x)∨(bJ (fun x:List Int=>decide (x.getD 0 0=n)) dc = -1∧ofN dc n=none):=by
 have hp:(fun x:List Int=>decide (x.getD 0 0=n))=fun x=>dN x == n:=by
  funext x
  rw [Bool.eq_iff_iff,decide_eq_true_eq,beq_iff_eq]
 rw [hp];unfold ofN;cases h:dc.findIdx? (fun x=>dN x == n) with
 | none =>
  refine .inr ⟨eU h,?_⟩;rw [aCc];intro x hx;have:=List.findIdx?_eq_none_iff.1 h x hx;simp only [this];simp
 | some i =>
  obtain ⟨h1,h2,h3⟩:=List.findIdx?_eq_some_iff_getElem.1 h;refine .inl ⟨i,dc[i],dW h,kQ0 h1,?_⟩;rw [List.find?_eq_some_iff_getElem];exact ⟨h2,i,h1,rfl,fun j hj=>by simpa using h3 j hj⟩
end
end
section
variable {ot ot'4 cn107 la106 op108 up109:Bool}{tm y1 y2 z0 bib tm' tm'3 x200 y100 y101 y102 y103 y104 y105 y201 y202 y203 y204 y205 y206 bt111 fr112 mu110:Int}{a b o o' o'0:Lqq}{q:List Int}{i k i' k' i'0 i'1 i'5 base:Nat}
variable {dl:Int}{sk dc:Lqq}

noncomputable abbrev mB:Code:=sub (cd Tryz.f66) [1,1,1,1,0,1,0,0]
noncomputable abbrev wN:Code:=sub (cd Tryz.f68) [1,1,0,1,0,0,1,0,0,1,0,0]
noncomputable abbrev zM:Code:=sub (cd Tryz.f68) [1,1,0,1,0,0]
noncomputable abbrev aUb:Code:=sub (cd Tryz.f43) [1,1,0,1,0,0]
def dU(dl:Int)(sk:Lqq)(dc:Lqq)(bib:Int)(q:List Int)(tm:Int)(ot:Bool)(i:Nat):St:=⟨fr 98 [(1,(pI bib)),(3,(.ptr 0 0)),(6,(pI 0)),(7,(.kb false)),(8,(.own 1)),(9,(pI tm)),(10,(pB ot)),(11,(pI (i:Int)))],[some (.box 61 [(pI dl),(.p (fS sk)),(.p (fS dc))]),some (.row 121 (((bH dl q dc).map (bR dl)).length) ((((bH dl q dc).map (bR dl)).map rsE).flatten))]⟩
theorem cAh(h0:bD dc)(h1:q.length≤1000)(h2:uni 2 sk)(h3:sk.length≤1000)(h4:bJ (fun x=>decide (x.getD 0 0=bib)) sk=z0)(h5:sk[z0.toNat]? = some [y1,y2])(h6:0≤z0)(hl7:aE Tp 0 mB (dU dl sk dc bib q y2 (decide (y2<0)) 0) (.exit 0) (dU dl sk dc bib q tm'3 ot'4 i'5))(h8:ot'4=true):FV Tp 66 [(.p (.agg (aX dl sk dc))),(pI bib),(.p (aG q))] base (.tup [(pI 0),(pB true)]) []:=by
 have k1:=fk 1 (aUj (dl:=dl) (sk:=sk) (dc:=dc) (q:=q) h0 h1) rfl;exact FV.fi Tryz.func66 [k1.o,.c (pI z0) [],.x (aA y2),hl7.k 6 (gI [0,1,2,1,4,2,12,86] [0,1]),bT] (gc h8 (gc hl7.code (gt ((sk.flatten.map aA)[((z0.toNat*2)+1)]? = some (aA y2)) (bE (i:=z0.toNat) (f:=1) h2 h5 rfl) (gc (fQ (k:=2) (i:=z0) (by decide) h2 h6 h5) (gc (fk 2 (aLu dl sk dc bib h2 h3 h4) rfl) (gc k1 gn))))))
theorem cAi{r0:Int}(h0:bD dc)(h1:q.length≤1000)(h2:uni 2 sk)(h3:sk.length≤1000)(h4:bJ (fun x=>decide (x.getD 0 0=bib)) sk=z0)(h5:sk[z0.toNat]? = some [y1,y2])(h6:0≤z0)(hl7:aE Tp 0 mB (dU dl sk dc bib q y2 (decide (y2<0)) 0) (.exit 0) (dU dl sk dc bib q tm'3 ot'4 i'5))(h8:ot'4=false)(er0:r0=(if tm'3 > 0 then tm'3 else 0)):FV Tp 66 [(.p (.agg (aX dl sk dc))),(pI bib),(.p (aG q))] base (.tup [(pI r0),(pB false)]) []:=by
 subst er0;have k1:=fk 1 (aUj (dl:=dl) (sk:=sk) (dc:=dc) (q:=q) h0 h1) rfl;exact FV.fi Tryz.func66 [k1.o,.c (pI z0) [],.x (aA y2),hl7.k 6 (gI [0,1,2,1,4,2,12,86] [0,1]),bF] (gc h8 (gc hl7.code (gt ((sk.flatten.map aA)[((z0.toNat*2)+1)]? = some (aA y2)) (bE (i:=z0.toNat) (f:=1) h2 h5 rfl) (gc (fQ (k:=2) (i:=z0) (by decide) h2 h6 h5) (gc (fk 2 (aLu dl sk dc bib h2 h3 h4) rfl) (gc k1 gn))))))
theorem bEb(h0:(i:Int)<((((bH dl q dc).map (bR dl)).length:Nat):Int))(h1:dc[i]? = some [y100,y101,y102,y103,y104,y105])(h2:uni 6 dc)(h3:y103≠bib)(h4:inR (((i+1):Nat):Int))(ei':i'=(i+1)):aC Tp 0 mB (dU dl sk dc bib q tm ot i) .normal (dU dl sk dc bib q tm ot i'):=by
 subst ei';exact aC.fi (gI [0,1,2,1,4,2,12,86] [0,1]) ([bT,.x (dcE y100 y101 y102 y103 y104 y105)]++rT 7) (gc h4 (g7c (cZ h3) (gfl h2 h1 (gc (aK h0) gn))))
theorem bEc(h0:(i:Int)<((((bH dl q dc).map (bR dl)).length:Nat):Int))(h1:dc[i]? = some [y100,y101,y102,y103,y104,y105])(h2:uni 6 dc)(h3:y103=bib)(h4:0≤(i:Int)∧(i:Int)<((((bH dl q dc).map (bR dl)).length:Nat):Int))(h5:((bH dl q dc).map (bR dl))[i]? = some (la106,cn107,op108,up109,mu110,bt111,fr112))(h6:cn107=false)(h7:inR (((i+1):Nat):Int))(ei':i'=(i+1)):aC Tp 0 mB (dU dl sk dc bib q tm ot i) .normal (dU dl sk dc bib q tm ot i'):=by
 subst ei';exact aC.fi (gI [0,1,2,1,4,2,12,86] [0,1]) ([bT,.x (dcE y100 y101 y102 y103 y104 y105)]++rF 5++[.x (blP cn107),bF,bF,bT]) (gc h7 (gc (bY h6) (g2c (aS h3) (gt (((((bH dl q dc).map (bR dl)).map rsE).flatten)[((i*7)+1)]? = some (blP cn107)) (bG (E:=rsE) (i:=i) (f:=1) (k:=7) (fun _=>rfl) h5 rfl) (g2c (aS h3) (gc h4 (g3c (aS h3) (gfl h2 h1 (gc (aK h0) gn)))))))))
theorem bEd(h0:(i:Int)<((((bH dl q dc).map (bR dl)).length:Nat):Int))(h1:dc[i]? = some [y100,y101,y102,y103,y104,y105])(h2:uni 6 dc)(h3:y103=bib)(h4:0≤(i:Int)∧(i:Int)<((((bH dl q dc).map (bR dl)).length:Nat):Int))(h5:((bH dl q dc).map (bR dl))[i]? = some (la106,cn107,op108,up109,mu110,bt111,fr112))(h6:cn107=true)(h7:y101=0)(h8:inR (tm+mu110))(h9:y101≠1)(h10:y101≠2)(h11:y101≠3)(h12:inR (((i+1):Nat):Int))(etm':tm'=(tm+mu110))(ei':i'=(i+1)):aC Tp 0 mB (dU dl sk dc bib q tm ot i) .normal (dU dl sk dc bib q tm' ot i'):=by
 subst etm' ei';exact aC.fi (gI [0,1,2,1,4,2,12,86] [0,1]) ([bT,.x (dcE y100 y101 y102 y103 y104 y105)]++rF 5++[.x (blP cn107),bF,bF,bF]++rT 6++[.x (aA mu110),bF,bF,bF]) (gc h12 (gc (aV h11) (gc (aV h10) (gc (aV h9) (gc h8 (gt (((((bH dl q dc).map (bR dl)).map rsE).flatten)[((i*7)+4)]? = some (aA mu110)) (bG (E:=rsE) (i:=i) (f:=4) (k:=7) (fun _=>rfl) h5 rfl) (gc h4 (g6c (bL h7) (gc (aQ h6) (g2c (aS h3) (gt (((((bH dl q dc).map (bR dl)).map rsE).flatten)[((i*7)+1)]? = some (blP cn107)) (bG (E:=rsE) (i:=i) (f:=1) (k:=7) (fun _=>rfl) h5 rfl) (g2c (aS h3) (gc h4 (g3c (aS h3) (gfl h2 h1 (gc (aK h0) gn))))))))))))))))
theorem aUc(h0:(i:Int)<((((bH dl q dc).map (bR dl)).length:Nat):Int))(h1:dc[i]? = some [y100,y101,y102,y103,y104,y105])(h2:uni 6 dc)(h3:y103=bib)(h4:0≤(i:Int)∧(i:Int)<((((bH dl q dc).map (bR dl)).length:Nat):Int))(h5:((bH dl q dc).map (bR dl))[i]? = some (la106,cn107,op108,up109,mu110,bt111,fr112))(h6:cn107=true)(h7:y101≠0)(h8:y101=4)(h9:up109=true)(h10:inR (tm+mu110))(h11:y101≠1)(h12:y101≠2)(h13:y101≠3)(h14:inR (((i+1):Nat):Int))(etm':tm'=(tm+mu110))(ei':i'=(i+1)):aC Tp 0 mB (dU dl sk dc bib q tm ot i) .normal (dU dl sk dc bib q tm' ot i'):=by
 subst etm' ei';exact aC.fi (gI [0,1,2,1,4,2,12,86] [0,1]) ([bT,.x (dcE y100 y101 y102 y103 y104 y105)]++rF 5++[.x (blP cn107)]++rF 7++rT 5++[.x (blP up109),bF,bT,bF,bT,.x (aA mu110),bF,bF,bF]) (gc h14 (gc (aV h13) (gc (aV h12) (gc (aV h11) (gc h10 (gt (((((bH dl q dc).map (bR dl)).map rsE).flatten)[((i*7)+4)]? = some (aA mu110)) (bG (E:=rsE) (i:=i) (f:=4) (k:=7) (fun _=>rfl) h5 rfl) (gc h4 (gc h9 (gc (aV h7) (gc (bL h8) (gc (aV h7) (gt (((((bH dl q dc).map (bR dl)).map rsE).flatten)[((i*7)+3)]? = some (blP up109)) (bG (E:=rsE) (i:=i) (f:=3) (k:=7) (fun _=>rfl) h5 rfl) (g2c (bL h8) (gc h4 (g3c (bL h8) (g4c (aV h7) (gc (aQ h6) (g2c (aS h3) (gt (((((bH dl q dc).map (bR dl)).map rsE).flatten)[((i*7)+1)]? = some (blP cn107)) (bG (E:=rsE) (i:=i) (f:=1) (k:=7) (fun _=>rfl) h5 rfl) (g2c (aS h3) (gc h4 (g3c (aS h3) (gfl h2 h1 (gc (aK h0) gn))))))))))))))))))))))))
theorem aUd(h0:(i:Int)<((((bH dl q dc).map (bR dl)).length:Nat):Int))(h1:dc[i]? = some [y100,y101,y102,y103,y104,y105])(h2:uni 6 dc)(h3:y103=bib)(h4:0≤(i:Int)∧(i:Int)<((((bH dl q dc).map (bR dl)).length:Nat):Int))(h5:((bH dl q dc).map (bR dl))[i]? = some (la106,cn107,op108,up109,mu110,bt111,fr112))(h6:cn107=true)(h7:y101≠0)(h8:y101=4)(h9:up109=false)(h10:y101≠1)(h11:y101≠2)(h12:y101≠3)(h13:inR (((i+1):Nat):Int))(ei':i'=(i+1)):aC Tp 0 mB (dU dl sk dc bib q tm ot i) .normal (dU dl sk dc bib q tm ot i'):=by
 subst ei';exact aC.fi (gI [0,1,2,1,4,2,12,86] [0,1]) ([bT,.x (dcE y100 y101 y102 y103 y104 y105)]++rF 5++[.x (blP cn107)]++rF 7++rT 5++[.x (blP up109),bF,bT]++rF 5) (gc h13 (gc (aV h12) (gc (aV h11) (gc (aV h10) (gc h9 (gc (aV h7) (gc (bL h8) (gc (aV h7) (gt (((((bH dl q dc).map (bR dl)).map rsE).flatten)[((i*7)+3)]? = some (blP up109)) (bG (E:=rsE) (i:=i) (f:=3) (k:=7) (fun _=>rfl) h5 rfl) (g2c (bL h8) (gc h4 (g3c (bL h8) (g4c (aV h7) (gc (aQ h6) (g2c (aS h3) (gt (((((bH dl q dc).map (bR dl)).map rsE).flatten)[((i*7)+1)]? = some (blP cn107)) (bG (E:=rsE) (i:=i) (f:=1) (k:=7) (fun _=>rfl) h5 rfl) (g2c (aS h3) (gc h4 (g3c (aS h3) (gfl h2 h1 (gc (aK h0) gn)))))))))))))))))))))
theorem aUe(h0:(i:Int)<((((bH dl q dc).map (bR dl)).length:Nat):Int))(h1:dc[i]? = some [y100,y101,y102,y103,y104,y105])(h2:uni 6 dc)(h3:y103=bib)(h4:0≤(i:Int)∧(i:Int)<((((bH dl q dc).map (bR dl)).length:Nat):Int))(h5:((bH dl q dc).map (bR dl))[i]? = some (la106,cn107,op108,up109,mu110,bt111,fr112))(h6:cn107=true)(h7:y101≠0)(h8:y101≠4)(h9:y101=1)(h10:inR (tm-mu110))(h11:y101≠2)(h12:y101≠3)(h13:inR (((i+1):Nat):Int))(etm':tm'=(tm-mu110))(ei':i'=(i+1)):aC Tp 0 mB (dU dl sk dc bib q tm ot i) .normal (dU dl sk dc bib q tm' ot i'):=by
 subst etm' ei';exact aC.fi (gI [0,1,2,1,4,2,12,86] [0,1]) ([bT,.x (dcE y100 y101 y102 y103 y104 y105)]++rF 5++[.x (blP cn107)]++rF 15++[bT,.x (aA mu110),bF,bF]) (gc h13 (gc (aV h12) (gc (aV h11) (gc h10 (gt (((((bH dl q dc).map (bR dl)).map rsE).flatten)[((i*7)+4)]? = some (aA mu110)) (bG (E:=rsE) (i:=i) (f:=4) (k:=7) (fun _=>rfl) h5 rfl) (gc h4 (gc (bL h9) (gc (aV h7) (gc (aV h8) (gc (aV h7) (g5c (aV h8) (g4c (aV h7) (gc (aQ h6) (g2c (aS h3) (gt (((((bH dl q dc).map (bR dl)).map rsE).flatten)[((i*7)+1)]? = some (blP cn107)) (bG (E:=rsE) (i:=i) (f:=1) (k:=7) (fun _=>rfl) h5 rfl) (g2c (aS h3) (gc h4 (g3c (aS h3) (gfl h2 h1 (gc (aK h0) gn))))))))))))))))))))
theorem aUf(h0:(i:Int)<((((bH dl q dc).map (bR dl)).length:Nat):Int))(h1:dc[i]? = some [y100,y101,y102,y103,y104,y105])(h2:uni 6 dc)(h3:y103=bib)(h4:0≤(i:Int)∧(i:Int)<((((bH dl q dc).map (bR dl)).length:Nat):Int))(h5:((bH dl q dc).map (bR dl))[i]? = some (la106,cn107,op108,up109,mu110,bt111,fr112))(h6:cn107=true)(h7:y101≠0)(h8:y101≠4)(h9:y101≠1)(h10:y101=2)(h11:inR ((1200:Int)*mu110))(h12:inR (tm+((1200:Int)*mu110)))(h13:y101≠3)(h14:inR (((i+1):Nat):Int))(etm':tm'=(tm+((1200:Int)*mu110)))(ei':i'=(i+1)):aC Tp 0 mB (dU dl sk dc bib q tm ot i) .normal (dU dl sk dc bib q tm' ot i'):=by
 subst etm' ei';exact aC.fi (gI [0,1,2,1,4,2,12,86] [0,1]) ([bT,.x (dcE y100 y101 y102 y103 y104 y105)]++rF 5++[.x (blP cn107)]++rF 16++[bT,.x (aA mu110),bF]) (gc h14 (gc (aV h13) (gc h12 (gc h11 (gt (((((bH dl q dc).map (bR dl)).map rsE).flatten)[((i*7)+4)]? = some (aA mu110)) (bG (E:=rsE) (i:=i) (f:=4) (k:=7) (fun _=>rfl) h5 rfl) (gc h4 (gc (bL h10) (gc (aV h9) (gc (aV h7) (gc (aV h8) (gc (aV h7) (g5c (aV h8) (g4c (aV h7) (gc (aQ h6) (g2c (aS h3) (gt (((((bH dl q dc).map (bR dl)).map rsE).flatten)[((i*7)+1)]? = some (blP cn107)) (bG (E:=rsE) (i:=i) (f:=1) (k:=7) (fun _=>rfl) h5 rfl) (g2c (aS h3) (gc h4 (g3c (aS h3) (gfl h2 h1 (gc (aK h0) gn)))))))))))))))))))))
theorem aUg(h0:(i:Int)<((((bH dl q dc).map (bR dl)).length:Nat):Int))(h1:dc[i]? = some [y100,y101,y102,y103,y104,y105])(h2:uni 6 dc)(h3:y103=bib)(h4:0≤(i:Int)∧(i:Int)<((((bH dl q dc).map (bR dl)).length:Nat):Int))(h5:((bH dl q dc).map (bR dl))[i]? = some (la106,cn107,op108,up109,mu110,bt111,fr112))(h6:cn107=true)(h7:y101≠0)(h8:y101≠4)(h9:y101≠1)(h10:y101≠2)(h11:y101=3)(h12:inR (((i+1):Nat):Int))(ei':i'=(i+1)):aC Tp 0 mB (dU dl sk dc bib q tm ot i) .normal (dU dl sk dc bib q tm true i'):=by
 subst ei';exact aC.fi (gN [0,1,2,1,4,2,12,86] [0,1] [(10,0)]) ([bT,.x (dcE y100 y101 y102 y103 y104 y105)]++rF 5++[.x (blP cn107)]++rF 17++[bT]) (gc h12 (gc (bL h11) (gc (aV h10) (gc (aV h9) (gc (aV h7) (gc (aV h8) (gc (aV h7) (g5c (aV h8) (g4c (aV h7) (gc (aQ h6) (g2c (aS h3) (gt (((((bH dl q dc).map (bR dl)).map rsE).flatten)[((i*7)+1)]? = some (blP cn107)) (bG (E:=rsE) (i:=i) (f:=1) (k:=7) (fun _=>rfl) h5 rfl) (g2c (aS h3) (gc h4 (g3c (aS h3) (gfl h2 h1 (gc (aK h0) gn)))))))))))))))))
theorem aUh(h0:(i:Int)<((((bH dl q dc).map (bR dl)).length:Nat):Int))(h1:dc[i]? = some [y100,y101,y102,y103,y104,y105])(h2:uni 6 dc)(h3:y103=bib)(h4:0≤(i:Int)∧(i:Int)<((((bH dl q dc).map (bR dl)).length:Nat):Int))(h5:((bH dl q dc).map (bR dl))[i]? = some (la106,cn107,op108,up109,mu110,bt111,fr112))(h6:cn107=true)(h7:y101≠0)(h8:y101≠4)(h9:y101≠1)(h10:y101≠2)(h11:y101≠3)(h12:inR (((i+1):Nat):Int))(ei':i'=(i+1)):aC Tp 0 mB (dU dl sk dc bib q tm ot i) .normal (dU dl sk dc bib q tm ot i'):=by
 subst ei';exact aC.fi (gI [0,1,2,1,4,2,12,86] [0,1]) ([bT,.x (dcE y100 y101 y102 y103 y104 y105)]++rF 5++[.x (blP cn107)]++rF 18) (gc h12 (gc (aV h11) (gc (aV h10) (gc (aV h9) (gc (aV h7) (gc (aV h8) (gc (aV h7) (g5c (aV h8) (g4c (aV h7) (gc (aQ h6) (g2c (aS h3) (gt (((((bH dl q dc).map (bR dl)).map rsE).flatten)[((i*7)+1)]? = some (blP cn107)) (bG (E:=rsE) (i:=i) (f:=1) (k:=7) (fun _=>rfl) h5 rfl) (g2c (aS h3) (gc h4 (g3c (aS h3) (gfl h2 h1 (gc (aK h0) gn)))))))))))))))))
theorem aUi(h0:((((bH dl q dc).map (bR dl)).length:Nat):Int)≤(i:Int)):aC Tp 0 mB (dU dl sk dc bib q tm ot i) (.exit 0) (dU dl sk dc bib q tm ot i):=by
 exact aC.fi (gI [0,1,2,1,4,2,12,86] [0,1]) [bF] (gc (aN h0) gn)
def tJ(a:Lqq)(b:Lqq)(i:Nat):St:=⟨fr 26 [(0,(.p (fS a))),(1,(.p (fS b))),(5,(pI (i:Int)))],[]⟩
theorem cAj{r0:Bool}(hl0:aE Tp 0 (sub (cd Tryz.f63) [1,0,1,0,0]) (tJ a b 0) (.exit 0) (tJ a b i'0))(er0:r0=((a.length:Int) == (b.length:Int))):FV Tp 63 [(.p (fS a)),(.p (fS b))] base (pB r0) []:=by
 subst er0;exact FV.fi Tryz.func63 [hl0.k 6 (gZ [2,3,6,15])] (gc hl0.code gn)
theorem bEe(h0:(i:Int)<(a.length:Int))(h1:a[i]? = some [y100,y101,y102])(h2:uni 3 a)(h3:b[i]? = some [y103,y104,y105])(h4:uni 3 b)(h5:cV [(aA y100),(aA y101),(aA y102)] [(0,3,true),(1,3,true),(2,3,true)]=true∧cV [(aA y103),(aA y104),(aA y105)] [(0,3,true),(1,3,true),(2,3,true)]=true)(h6:(jP [(aA y100),(aA y101),(aA y102)] [(aA y103),(aA y104),(aA y105)] [(0,3,true),(1,3,true),(2,3,true)])=true)(h7:inR (((i+1):Nat):Int))(ei':i'=(i+1)):aC Tp 0 (sub (cd Tryz.f63) [1,0,1,0,0]) (tJ a b i) .normal (tJ a b i'):=by
 subst ei';exact aC.fi (gZ [2,3,6,15]) [bT,.x (.agg [(aA y100),(aA y101),(aA y102)]),.x (.agg [(aA y103),(aA y104),(aA y105)]),bF] (gc h7 (gc (aQ h6) (gc h5 (gfl h4 h3 (gfl h2 h1 (gc (aK h0) gn))))))
theorem bEf(h0:(a.length:Int)≤(i:Int)):aC Tp 0 (sub (cd Tryz.f63) [1,0,1,0,0]) (tJ a b i) (.exit 0) (tJ a b i):=by
 exact aC.fi (gZ [2,3,6,15]) [bF] (gc (aN h0) gn)
def tK(a:Lqq)(on:Nat)(oc:List PV)(i:Nat):St:=⟨fr 18 [(2,(.p bM)),(3,(.own 0)),(6,(.p (fS a))),(7,(pI (a.length:Int))),(8,(pI (i:Int)))],[some (.row 76 on oc)]⟩
theorem cAk(hl0:aE Tp 0 aUb (tK a 0 [] 0) (.exit 0) (tK a o'0.length (o'0.flatten.map aA) i'1)):FV Tp 43 [(.p (fS a))] base (.p (fS o'0)) []:=by
 exact FV.frz (FMM.fi 0 ⟨[],[],[0],[]⟩ Tryz.func43 [hl0.k 8 (gN [0,2,4,2,9,9] [0] [(3,76)])] (gc hl0.code gn)) (by kernel_rfl)
theorem bEg(h0:(i:Int)<(a.length:Int))(h1:a[i]? = some [y100,y101,y102])(h2:uni 3 a)(h3:[(aA y100),(aA y101),(aA y102)].length=1*3∧o.length+1≤1000000)(h4:inR (((i+1):Nat):Int))(eo'n:o'.length=(o.length+1))(eo'c:o'.flatten.map aA=((o.flatten.map aA)++[(aA y100),(aA y101),(aA y102)]))(ei':i'=(i+1)):aC Tp 0 aUb (tK a o.length (o.flatten.map aA) i) .normal (tK a o'.length (o'.flatten.map aA) i'):=by
 subst ei';rw [eo'n,eo'c];exact aC.fi (gI [0,2,4,2,9,9] [3]) [bT,.x (.agg [(aA y100),(aA y101),(aA y102)])] (gc h4 (gc h3 (gt ([(aA y100),(aA y101),(aA y102)].length=3) (by first | decide | simp) (gfl h2 h1 (gc (aK h0) gn)))))
theorem bEh(h0:(a.length:Int)≤(i:Int)):aC Tp 0 aUb (tK a o.length (o.flatten.map aA) i) (.exit 0) (tK a o.length (o.flatten.map aA) i):=by
 exact aC.fi (gI [0,2,4,2,9,9] [0]) [bF] (gc (aN h0) gn)
def tL(dl:Int)(sk:Lqq)(dc:Lqq)(q:List Int)(on:Nat)(oc:List PV)(i:Nat):St:=⟨fr 48 [(1,(.p (aG q))),(2,(.ptr 0 0)),(4,(.ptr 1 0)),(5,(.ptr 2 0)),(6,(pI (i:Int)))],[some (.box 61 [(pI dl),(.p (fS sk)),(.p (fS dc))]),some (.box 61 [(pI 0),(.p bM),(.p bM)]),some (.box 61 [(pI dl),(.p (fS sk)),(.own 3)]),some (.row 119 on oc)]⟩
theorem cAl(hl0:aE Tp 0 zM (tL dl sk dc q 0 [] 0) (.exit 0) (tL dl sk dc q o'0.length (o'0.flatten.map aA) i'1)):FV Tp 68 [(.p (.agg (aX dl sk dc))),(.p (aG q))] base (.p (.agg (aX dl sk o'0))) []:=by
 exact FV.frz (FMM.fi 0 ⟨[],[],[3],[]⟩ Tryz.func68 [hl0.k 8 (gN [0,1,3,1,7,41] [0,1,2,3] [(102002,119)])] (gc hl0.code gn)) (by kernel_rfl)
def lF(dl:Int)(sk:Lqq)(dc:Lqq)(q:List Int)(i:Nat)(on:Nat)(oc:List PV)(k:Nat):St:=⟨fr 48 [(1,(.p (aG q))),(2,(.ptr 0 0)),(4,(.ptr 1 0)),(5,(.ptr 2 0)),(6,(pI (i:Int))),(7,(pI (k:Int))),(13,(pI (i:Int))),(14,(.ptr 0 2)),(15,(.p (fS dc))),(16,(pI (dc.length:Int))),(17,(pB (decide ((i:Int)<(dc.length:Int)))))],[some (.box 61 [(pI dl),(.p (fS sk)),(.p (fS dc))]),some (.box 61 [(pI 0),(.p bM),(.p bM)]),some (.box 61 [(pI dl),(.p (fS sk)),(.own 3)]),some (.row 119 on oc)]⟩
theorem bEi{o'100:Lqq}{k'101:Nat}(h0:(i:Int)<(dc.length:Int))(hl1:aE Tp 0 wN (lF dl sk dc q i o.length (o.flatten.map aA) 0) (.exit 2) (lF dl sk dc q i o'100.length (o'100.flatten.map aA) k'101))(h2:inR (((i+1):Nat):Int))(eo'n:o'.length=o'100.length)(eo'c:o'.flatten.map aA=(o'100.flatten.map aA))(ei':i'=(i+1)):aC Tp 0 zM (tL dl sk dc q o.length (o.flatten.map aA) i) .normal (tL dl sk dc q o'.length (o'.flatten.map aA) i'):=by
 subst ei';rw [eo'n,eo'c];exact aC.fi (gI [0,1,3,1,7,41] [0,1,2,3]) [bT,hl1.k 5 (gI [0,1,3,1,8,5,20,27] [0,1,2,3])] (gc h2 (gc hl1.code (gc (aK h0) gn)))
theorem bEj(h0:(dc.length:Int)≤(i:Int)):aC Tp 0 zM (tL dl sk dc q o.length (o.flatten.map aA) i) (.exit 0) (tL dl sk dc q o.length (o.flatten.map aA) i):=by
 exact aC.fi (gI [0,1,3,1,7,41] [0,1,2,3]) [bF] (gc (aN h0) gn)
theorem bEk(h0:(k:Int)<(q.length:Int))(h1:q[k]? = some x200)(h2:dc[i]? = some [y201,y202,y203,y204,y205,y206])(h3:uni 6 dc)(h4:x200=y201)(h5:[(aA y201),(aA y202),(aA y203),(aA y204),(aA y205),(aA y206)].length=1*6∧o.length+1≤1000000)(eo'n:o'.length=(o.length+1))(eo'c:o'.flatten.map aA=((o.flatten.map aA)++[(aA y201),(aA y202),(aA y203),(aA y204),(aA y205),(aA y206)])):aC Tp 0 wN (lF dl sk dc q i o.length (o.flatten.map aA) k) (.exit 2) (lF dl sk dc q i o'.length (o'.flatten.map aA) k):=by
 rw [eo'n,eo'c];exact aC.fi (gI [0,1,3,1,8,5,20,27] [0,1,2,5]) [bT,.x (aA x200),.x (aA y201),bT,.x (dcE y201 y202 y203 y204 y205 y206)] (gc h5 (gt ([(aA y201),(aA y202),(aA y203),(aA y204),(aA y205),(aA y206)].length=6) (by first | decide | simp) (gfl h3 h2 (gc (bL h4) (gt ((dc.flatten.map aA)[(i*6)]? = some (aA y201)) (bE (i:=i) (f:=0) h3 h2 rfl) (gc (fQ (k:=6) (i:=(i:Int)) (by decide) h3 (kQ5 _) h2) (gc (atm aA h1) (gc (ixn aA h1) (gc (aK h0) gn)))))))))
theorem bEl(h0:(k:Int)<(q.length:Int))(h1:q[k]? = some x200)(h2:dc[i]? = some [y201,y202,y203,y204,y205,y206])(h3:uni 6 dc)(h4:x200≠y201)(h5:inR (((k+1):Nat):Int))(ek':k'=(k+1)):aC Tp 0 wN (lF dl sk dc q i o.length (o.flatten.map aA) k) .normal (lF dl sk dc q i o.length (o.flatten.map aA) k'):=by
 subst ek';exact aC.fi (gI [0,1,3,1,8,5,20,27] [0,1,2,3]) [bT,.x (aA x200),.x (aA y201),bF] (gc h5 (gc (aV h4) (gt ((dc.flatten.map aA)[(i*6)]? = some (aA y201)) (bE (i:=i) (f:=0) h3 h2 rfl) (gc (fQ (k:=6) (i:=(i:Int)) (by decide) h3 (kQ5 _) h2) (gc (atm aA h1) (gc (ixn aA h1) (gc (aK h0) gn)))))))
theorem bEm(h0:(q.length:Int)≤(k:Int)):aC Tp 0 wN (lF dl sk dc q i o.length (o.flatten.map aA) k) (.exit 2) (lF dl sk dc q i o.length (o.flatten.map aA) k):=by
 exact aC.fi (gI [0,1,3,1,8,5,20,27] [0,1,2,3]) [bF] (gc (aN h0) gn)
def tM(dl:Int)(sk:Lqq)(dc:Lqq)(q:List Int)(i:Nat):St:=⟨fr 48 [(1,(.p (aG q))),(2,(.ptr 0 0)),(4,(.ptr 1 0)),(5,(.ptr 2 0)),(6,(pI (i:Int)))],[some (.box 61 [(pI dl),(.p (fS sk)),(.p (fS dc))]),some (.box 61 [(pI 0),(.p bM),(.p bM)]),some (.box 61 [(pI dl),(.p (fS sk)),(.p bM)])]⟩
theorem cAm(hl0:aE Tp 0 zM (tM dl sk dc q 0) (.exit 0) (tM dl sk dc q i'0)):FV Tp 68 [(.p (.agg (aX dl sk dc))),(.p (aG q))] base (.p (.agg [(aA dl),(fS sk),bM])) []:=by
 exact FV.frz (FMM.fi 0 gE Tryz.func68 [hl0.k 8 (gI [0,1,3,1,7,41] [0,1,2])] (gc hl0.code gn)) (by kernel_rfl)
def tN(dl:Int)(sk:Lqq)(dc:Lqq)(q:List Int)(i:Nat)(k:Nat):St:=⟨fr 48 [(1,(.p (aG q))),(2,(.ptr 0 0)),(4,(.ptr 1 0)),(5,(.ptr 2 0)),(6,(pI (i:Int))),(7,(pI (k:Int))),(13,(pI (i:Int))),(14,(.ptr 0 2)),(15,(.p (fS dc))),(16,(pI (dc.length:Int))),(17,(pB (decide ((i:Int)<(dc.length:Int)))))],[some (.box 61 [(pI dl),(.p (fS sk)),(.p (fS dc))]),some (.box 61 [(pI 0),(.p bM),(.p bM)]),some (.box 61 [(pI dl),(.p (fS sk)),(.p bM)])]⟩
theorem bEn{k'100:Nat}(h0:(i:Int)<(dc.length:Int))(hl1:aE Tp 0 wN (tN dl sk dc q i 0) (.exit 2) (tN dl sk dc q i k'100))(h2:inR (((i+1):Nat):Int))(ei':i'=(i+1)):aC Tp 0 zM (tM dl sk dc q i) .normal (tM dl sk dc q i'):=by
 subst ei';exact aC.fi (gI [0,1,3,1,7,41] [0,1,2]) [bT,hl1.k 5 (gI [0,1,3,1,8,5,20,27] [0,1,2])] (gc h2 (gc hl1.code (gc (aK h0) gn)))
theorem bEo(h0:(dc.length:Int)≤(i:Int)):aC Tp 0 zM (tM dl sk dc q i) (.exit 0) (tM dl sk dc q i):=by
 exact aC.fi (gI [0,1,3,1,7,41] [0,1,2]) [bF] (gc (aN h0) gn)
theorem bEp(h0:(k:Int)<(q.length:Int))(h1:q[k]? = some x200)(h2:dc[i]? = some [y201,y202,y203,y204,y205,y206])(h3:uni 6 dc)(h4:x200≠y201)(h5:inR (((k+1):Nat):Int))(ek':k'=(k+1)):aC Tp 0 wN (tN dl sk dc q i k) .normal (tN dl sk dc q i k'):=by
 subst ek';exact aC.fi (gI [0,1,3,1,8,5,20,27] [0,1,2]) [bT,.x (aA x200),.x (aA y201),bF] (gc h5 (gc (aV h4) (gt ((dc.flatten.map aA)[(i*6)]? = some (aA y201)) (bE (i:=i) (f:=0) h3 h2 rfl) (gc (fQ (k:=6) (i:=(i:Int)) (by decide) h3 (kQ5 _) h2) (gc (atm aA h1) (gc (ixn aA h1) (gc (aK h0) gn)))))))
theorem bEq(h0:(q.length:Int)≤(k:Int)):aC Tp 0 wN (tN dl sk dc q i k) (.exit 2) (tN dl sk dc q i k):=by
 exact aC.fi (gI [0,1,3,1,8,5,20,27] [0,1,2]) [bF] (gc (aN h0) gn)
end
section

end
section
end
section
end
section
theorem aNh{dl:Int}{sk dc:Lqq}{bib t:Int}{o:Bool}(h:bZ dl sk dc){i:Nat}{s0 s1:Int}(hp:kB (aB sk) bib=(i:Int))(hs:(aB sk)[i]? = some [s0,s1])(e:cM dl [] (aB dc) s0 s1=(t,o)){base:Nat}:FV Tp 61 [.p (.agg (aX dl sk dc)),.p (aA bib)] base (.tup [.p (aA t),.p (blP o),.p (aA 0)]) []:=by
 obtain ⟨h1,_,h3,_⟩:=mU h;obtain ⟨T',_,hT⟩:=aQr (dl:=dl) (sk:=aB sk) (dc:=aB dc) (fV h) lQ s0 s1 (h3 _ (kQ1 hs)) (T:=[]) cA.nil;rw [e] at hT
 exact bQl h hp hs hT
end
section
variable {F:Fence} {n:Nat} {P:Program}
theorem aYh{o:Oper}{a:Act}{next next':Act→World→Prop}{Q Q':Exit→Act→World→Prop}{r:Result Next}(h:o.uponIn F n P a next Q r)
  (hn:∀ v d w',next (({ a with defers:=d }:Act).put o.dst v) w'→next' (({ a with defers:=d }:Act).put o.dst v) w') (hQ:∀ e a' w',e ≠ .normal→Q e a' w'→Q' e a' w') (hL:LetsOut Q→LetsOut Q'):o.uponIn F n P a next' Q' r:=by
 have hn':∀ v w',next (a.put o.dst v) w'→next' (a.put o.dst v) w':=fun v w'=>hn v a.defers w'
 cases r with
 | halt x w' =>
  cases x <;> first | exact hQ _ _ _ (by simp) h | exact h
 | ok nx w' =>
  cases nx with
  | value v=>exact hn' _ _ h
  | skip=>exact hn' _ _ h
  | defer d=>exact hn _ _ _ h
  | enter f us =>
   refine ⟨h.1,h.2.mono ?_⟩;intro e w'' he;cases e with
   | returned v=>exact hn' _ _ he
   | panicked c=>exact hQ _ _ _ (by simp) he
   | outgrown=>exact hL he
  | row r us=>exact ⟨h.1,h.2.mono fun v w'' he=>hn' _ _ he⟩
  | round l f tmps as1 bd =>
   refine ⟨h.1,h.2.mono ?_⟩;intro e w'' he;cases e with
   | returned v=>exact hn' _ _ he
   | panicked c=>exact hQ _ _ _ (by simp) he
   | outgrown=>exact hL he
  | _=>exact h
def Kps(ops:Array Oper)(a0 a:Act):Prop:=∀ i,(∀ o∈ops.toList,o.dst≠some i)→a.tmps.getD i undef=a0.tmps.getD i undef
theorem bLu{ops:Array Oper}{Q Q':Exit→Act→World→Prop}{i:Nat}{K K':Act→World→Prop}{a0 a:Act}{w:World}(h:wpOpIn F n P ops Q i K a w)(ha:Kps ops a0 a)(hK:∀ a' w',Kps ops a0 a'→K a' w'→K' a' w')
  (hQ:∀ e a' w',e ≠ .normal→Q e a' w'→Q' e a' w') (hL:LetsOut Q→LetsOut Q'):wpOpIn F n P ops Q' i K' a w:=by
 unfold wpOpIn at h ⊢
 split
 ·rename_i hi
  simp only [hi] at h
  exact hK _ _ ha h
 ·rename_i o hi
  simp only [hi] at h
  have hm:o∈ops.toList:=by
   obtain ⟨hl,he⟩:=mR.1 hi;rw [← he];exact Array.mem_toList_iff.2 (Array.getElem_mem hl)
  have hput:∀ v (d:List Deferred),Kps ops a0 (({ a with defers:=d }:Act).put o.dst v):=fun v d i hd=>by
   rw [qL (a:={ a with defers:=d }) (hd o hm)]
   exact ha i hd
  split at h
  ·rename_i hw
   rw [if_pos hw];exact ⟨h.1,aYh h.2 (fun v d w' hn=>hK _ _ (hput v d) hn) hQ hL⟩
  ·rename_i hw
   rw [if_neg hw];exact ⟨h.1,hK _ _ (hput undef a.defers) h.2⟩
theorem aGi{md:Region.Mode}{ops:Array Oper}{Q:Exit→Act→World→Prop}{a0:Act}:∀ (fuel:Nat) (listed:Array Bool) (a:Act) (w:World),wpAnyIn F n P md ops Q fuel listed a w→Kps ops a0 a →
  wpAnyIn F n P md ops (fun e a' w'=>Q e a' w'∧(e = .normal→Kps ops a0 a')) fuel listed a w
 | 0,listed,a,w,h,ha=>⟨h.1,h.2,fun _=>ha⟩
 | fuel+1,listed,a,w,h,ha=>by
  refine ⟨fun h0=>⟨h.1 h0,fun _=>ha⟩,fun j hj => ?_⟩
  exact bLu (h.2 j hj) ha (fun a' w' hk h'=>aGi fuel _ a' w' h' hk) (fun e a' w' hne hq=>⟨hq,fun he=>absurd he hne⟩) (fun ⟨a',w',hq⟩=>⟨a',w',hq,fun he=>by cases he⟩)
end
section
section
variable {F:Fence} {n:Nat} {P:Program}
def bkD(ds:List Deferred)(a:Act):Act:={ a with defers:=a.defers++ds }
theorem aNj(ds:List Deferred)(a:Act)(d:Option Nat)(v:Value):(bkD ds a).put d v=bkD ds (a.put d v):=by cases d <;> rfl
theorem aGh(ds:List Deferred)(a:Act):(bkD ds a).eval=a.eval:=by funext x;cases x <;> rfl
theorem bLs(ds:List Deferred){o:Oper}{a:Act}{next next':Act→World→Prop}{Q Q':Exit→Act→World→Prop}{r:Result Next}(h:o.uponIn F n P a next Q r)
  (hn:∀ a' w',next a' w'→next' (bkD ds a') w') (hQ:∀ e a' w',Q e a' w'→Q' e (bkD ds a') w') (hL:LetsOut Q→LetsOut Q'):o.uponIn F n P (bkD ds a) next' Q' r:=by
 have hv:∀ v w',next (a.put o.dst v) w'→next' ((bkD ds a).put o.dst v) w':=fun v w' h=>by rw [aNj];exact hn _ _ h
 cases r with
 | halt x w' =>
  cases x <;> first | exact hQ _ _ _ h | exact h
 | ok nx w' =>
  cases nx with
  | value v=>exact hv _ _ h
  | skip=>exact hv _ _ h
  | defer d =>
   have:=hn _ _ h;rw [← aNj] at this
   exact this
  | enter f us =>
   refine ⟨h.1,h.2.mono ?_⟩;intro e w'' he;cases e with
   | returned v=>exact hv _ _ he
   | panicked c=>exact hQ _ _ _ he
   | outgrown=>exact hL he
  | row r us=>exact ⟨h.1,h.2.mono fun v w'' he=>hv _ _ he⟩
  | round l f tmps as1 bd =>
   refine ⟨h.1,h.2.mono ?_⟩;intro e w'' he;cases e with
   | returned v=>exact hv _ _ he
   | panicked c=>exact hQ _ _ _ he
   | outgrown=>exact hL he
  | _=>exact h
theorem bYs(ds:List Deferred){ops:Array Oper}{Q Q':Exit→Act→World→Prop}{i:Nat}{K K':Act→World→Prop}{a:Act}{w:World}(h:wpOpIn F n P ops Q i K a w)(hK:∀ a' w',K a' w'→K' (bkD ds a') w')
  (hQ:∀ e a' w',Q e a' w'→Q' e (bkD ds a') w') (hL:LetsOut Q→LetsOut Q'):wpOpIn F n P ops Q' i K' (bkD ds a) w:=by
 unfold wpOpIn at h ⊢
 split
 ·rename_i hi
  simp only [hi] at h
  exact hK _ _ h
 ·rename_i o hi
  simp only [hi] at h
  have e1:(bkD ds a).tmps=a.tmps:=rfl;rw [e1]
  split at h
  ·rename_i hw
   rw [if_pos hw];refine ⟨by rw [aGh];exact h.1,?_⟩
   rw [aGh];exact bLs ds h.2 hK hQ hL
  ·rename_i hw
   rw [if_neg hw];exact ⟨by rw [aGh];exact h.1,by rw [aNj];exact hK _ _ h.2⟩
theorem aRu(ds:List Deferred){md:Region.Mode}{ops:Array Oper}{Q Q':Exit→Act→World→Prop}(hQ:∀ e a' w',Q e a' w'→Q' e (bkD ds a') w')(hL:LetsOut Q→LetsOut Q'):∀ (fuel:Nat) (listed:Array Bool) (a:Act) (w:World),wpAnyIn F n P md ops Q fuel listed a w→wpAnyIn F n P md ops Q' fuel listed (bkD ds a) w
 | 0,listed,a,w,h=>⟨h.1,hQ _ _ _ h.2⟩
 | fuel+1,listed,a,w,h=>⟨fun h0=>hQ _ _ _ (h.1 h0),fun j hj=>bYs ds (h.2 j hj) (fun a' w' h'=>aRu ds hQ hL fuel _ a' w' h') hQ hL⟩
end
variable {P:Program} {T:TT} {E:Env}
theorem bLt(ds:List Deferred)(hT:∀ t i,T t=some i→cP P t=some i)(hE:mG P E)(hm:P.follows .mixedOrders=true){id:Nat}{ops:Array Oper}{st st':St}{s s':AS}(h:aNz P T E ops true st s=some (st',s'))(g:bC s')
  (C0:Cx) (M0:Mem) (w0:World) (a:Act) (w:World) (hs:Sim P C0 M0 w0 st a w) (ro:Option Nat) (n:Nat):(Code.region id ops true).wpIn (Fen ro) n P (fun e' a' w'=>e'=Ex.normal.toExit∧∃ a2,a'=bkD ds a2∧Sim P C0 M0 w0 st' a2 w'∧Kps ops a a2) (bkD ds a) w:=by
 obtain ⟨_,s1,h1,k1⟩:=aD h;obtain ⟨e1,rfl⟩:=aF h1;obtain ⟨r,s2,h2,k2⟩:=aD k1;obtain ⟨_,s3,h3,k3⟩:=aD k2;obtain ⟨e3,rfl⟩:=aF h3;obtain ⟨rfl,rfl⟩:=aI k3;obtain ⟨hB,_⟩:=bS e1;obtain ⟨hA,_⟩:=bS e3;obtain ⟨os,hfts,hlex⟩:=sL ops.toList _ (fts:=r.1) (fin:=r.2) h2 g
 replace hB:=yW hB
 unfold Region.lexB at hB
 rw [kQ6] at hB
 have hlen:os.length=ops.toList.length:=by
  have:∀ {l:List Oper} {id:Nat} {st:St} {os:List xK} {fin:St},aOa P T E ops.toList id l st os fin→os.length=l.length:=by
   intro l
   induction l with
   | nil=>intro id st os fin h;cases h;rfl
   | cons o l ih=>intro id st os fin h;cases h with | cons _ _ _ _ q os _ h hr=>simp [ih hr]
  exact this hlex
 have key:pY P T E ops.toList st.m.length (fun k=>os.getD k (.any,[],none)) r.2 ops.toList.length (Array.replicate ops.size false) st:=by
  refine pY.lex ops.toList 0 _ st os (fun j=>by simp) (fun j q hj=>by simp [kQ4,hj]) (fun j hj=>absurd hj (aTv _)) (fun j oj hj hl => ?_) (fun i j _ hij hj => ?_) (by simpa using hB.2) (by simpa [ido] using hlex)
  ·exfalso
   rcases Nat.lt_or_ge j ops.size with h' | h'
   ·simp [h'] at hl
   ·simp [Nat.not_lt.2 h'] at hl
  have hj2:j<os.length:=by
   rw [hlen];obtain ⟨o,ho⟩:=Option.isSome_iff_exists.1 hj;exact (kQ3.1 ho).1
  have:=oA r.1 0 hA i j (aDi os[i]) (aDi os[j]) hij (by rw [hfts,kQ9,kQ0 (by omega)];rfl) (by rw [hfts,kQ9,kQ0 hj2];rfl)
  rw [gT,gT] at this
  simp only [kQ4,kQ0 hj2,kQ0 (show i<os.length by omega),Option.getD_some,Array.toArray_toList]
  exact this
 refine wpIn_region_any hm ?_;have:=pY.sound hT hE (C0:=C0) (M0:=M0) (w0:=w0) (ro:=ro) (n:=n) (Q:=fun e' a' w'=>e'=Ex.normal.toExit∧Sim P C0 M0 w0 r.2 a' w') (fun a' w' h'=>⟨rfl,h'⟩) _ _ _ a _ key (hs.drawn (w.drawn+1))
 have h2:=aGi (a0:=a) _ _ _ _ (by simpa using this) (fun _ _=>rfl)
 exact aRu ds (fun e a' w' h=>⟨h.1.1,a',rfl,h.1.2,h.2 h.1.1⟩) (fun ⟨a',w',h⟩=>by cases h.1.1) _ _ _ _ h2

end
section
def uJ(P:Program)(k:Nat)(c:Code)(st:St)(e:Ex)(st':St):Prop:=∀ (C0:Cx) (M0:Mem) (w0:World) (a:Act) (w:World),M0.length≤k→Sim P C0 M0 w0 st a w→∀ (ds:List Deferred) (ro:Option Nat) (n:Nat),c.wpIn (Fen ro) n P (fun e' a' w'=>e'=e.toExit∧∃ a2,a'=bkD ds a2∧Sim P C0 M0 w0 st' a2 w'∧(∀ i,wrR c i=false→a2.tmps.getD i undef=a.tmps.getD i undef)) (bkD ds a) w
noncomputable def bRu(c:Code)(st:St):Ask (Ex × St):=match c with
 | .region _ ops true=>do
  let st' ← aNz Tp tT EO ops true st
  pure (.normal,st')
 | _=>fail
theorem uJ.fin{k:Nat}{c:Code}{st st':St}{e:Ex}{g:Gh}{o:List OI}{l:List Prop}(h:aCf k g (bRu c st (asg o))=some (e,st',l,[]))(gd:bC (out l)):uJ Tp k c st e st':=by
 unfold aCf at h
 split at h
 ·rename_i e1 st1 s hr
  split at h
  ·rename_i st2 hg
   simp only [Option.some.injEq,Prod.mk.injEq] at h
   obtain ⟨rfl,rfl,rfl,hs⟩:=h;unfold bRu at hr
   split at hr
   ·rename_i id ops
    obtain ⟨st3,s1,h1,k1⟩:=aD hr;obtain ⟨he,rfl⟩:=aI k1;cases he;intro C0 M0 w0 a w hk hsm ds ro n;refine wpIn_mono (bLt ds aIu aIt mixed h1 (fun p hp=>gd p hp) C0 M0 w0 a w hsm ro n) ?_
    rintro e' a' w' ⟨rfl,a2,rfl,h',hkp⟩;exact ⟨rfl,a2,rfl,eW hk hg h',fun i hi=>hkp i fun o ho e=>by
     unfold wrR at hi
     have:=List.any_eq_false.1 hi o ho;rw [e] at this
     exact this (Nat.beq_refl i)⟩
   ·cases hr
  ·cases h
 ·cases h
theorem uJ.fi{k:Nat}{c:Code}{st st':St}{e:Ex}(g:Gh)(o:List OI){l:List Prop}(gd:bC (out l))(h:aCf k g (bRu c st (asg o))=some (e,st',l,[]):=by kernel_rfl):uJ Tp k c st e st':=uJ.fin h gd
end
section

theorem cIl{dl:Int}{sk dc:Lqq}{num r6:Int}{x:List Int}{y0 y1 n2:Int}{b3:Bool}{T4:Lqb}(h0:(aB sk)[(bJ (fun x=>decide (r6=x)) (aP (aB sk) 0)).toNat]? = some [y0,y1])(h1:0≤(bJ (fun x=>decide (r6=x)) (aP (aB sk) 0)))(h2:uni 2 (aB sk))(h3:yH dl (aB sk) (aB dc) (aG x) [y0,y1] n2 b3 ([]:Lqb) T4):uJ Tp 0 (sub (cd Tryz.f58) [1,1,1,1,1,1,1,1,1,0,1,0,1,0,0]) ⟨fr 102 [(3,(.rp [(aA num)] 0)),(6,(.rp [(PV.rp (aR dl (aB sk) (aB dc)) 0)] 0)),(9,(.rp [(aA r6)] 0)),(10,(.rp [(aA (bJ (fun x=>decide (r6=x)) (aP (aB sk) 0)))] 0)),(11,(.p (aG x)))],[]⟩ .normal ⟨fr 102 [(3,(.rp [(aA num)] 0)),(6,(.rp [(PV.rp (aR dl (aB sk) (aB dc)) 0)] 0)),(9,(.rp [(aA r6)] 0)),(10,(.rp [(aA (bJ (fun x=>decide (r6=x)) (aP (aB sk) 0)))] 0)),(11,(.p (aG x))),(12,(pI n2)),(13,(pB b3))],[]⟩:=by
 have k1:=mN [] 0 (rP (dl:=dl) (sk:=(aB sk)) (dc:=(aB dc)) (on:=x.length) (ol:=(x.map aA)));have k2:=mq [0,1,2,3,4,5,6] 8 h3;exact uJ.fi (gZ [0,3,4,2,7,2,14,88]) [.x (PV.rp (aR dl (aB sk) (aB dc)) 0),.x (PV.rp (aR dl (aB sk) (aB dc)) 0),.x (.sl ((aB sk).length) ((aB sk).flatten.map aA)),.x (aA (bJ (fun x=>decide (r6=x)) (aP (aB sk) 0))),.x (.agg [(aA y0),(aA y1)]),.x (PV.rp (aR dl (aB sk) (aB dc)) 0),k1.o,k2.o] (gc k2 (gc k1 (gr (PV.rp (aR dl (aB sk) (aB dc)) 0) (gfz h2 h1 h0 (gr (aA (bJ (fun x=>decide (r6=x)) (aP (aB sk) 0))) (gr (.sl ((aB sk).length) ((aB sk).flatten.map aA)) (gr (PV.rp (aR dl (aB sk) (aB dc)) 0) (gr (PV.rp (aR dl (aB sk) (aB dc)) 0) gn))))))))
end
end KV
end Go.Proofs
section
namespace Go.Proofs
open Go.RowKit
namespace KV
theorem bRs{P:Program}{C:Cx}{st:St}{a:Act}{w:World}(hS:eN C st.m w st.t a.tmps)(hM:aU P C st.m w)(hp:gF st.m=true)(hn:aSq st.m) :
  Sim P (cxF fun _=>False) [] { w with heap := #[] } st { a with defers:=[] } w :=
 ⟨C,hS,hM,⟨rfl,rfl,rfl,Nat.zero_le _,fun b hb=>absurd hb (aTv _),fun _ _ h=>by simp at h,fun _ _ h=>by simp at h,fun _ _ h=>by simp at h,fun _ _ b _ _ _ => .inl (Nat.zero_le _),fun _ h=>h.elim,fun b _ => .inr (.inl (Nat.zero_le _))⟩,.nil rfl hn⟩
theorem bLr{P:Program}{C:Cx}{M:Mem}{W W':World}(hM:aU P C M W)(hg:W.grownBy W' none):aU P C M W'∧Fr C M W C M W':=by
 have hsame:∀ b,b<W.heap.size→W'.heap[b]? = W.heap[b]? := fun b hb=>hg.block b hb (fun e=>by cases e)
 have hL:Le C C M M W W':=⟨fun _ o h=>⟨o,h⟩,fun _ _ _ _ _ cs h=>⟨cs,h⟩,fun _ o h o' h' hl=>by rw [h] at h';cases h';exact ⟨hl,rfl,rfl⟩,fun _ h=>h,fun b hb=>hsame b (hM.Fs b hb)⟩
 refine ⟨⟨fun i ty n cs hm => ?_,fun i ty cs hm => ?_,fun i es cl hm => ?_,hM.inj,hM.nF,fun b hb=>fY (hM.Fs b hb) hg.size,fun i o b ho hl hb=>fY (hM.lt i o b ho hl hb) hg.size⟩,
  ⟨hg.os,hg.tape,hg.output,hg.size,fun b hb _=>hsame b hb,fun i o h=>⟨⟨o,h⟩,rfl,rfl⟩,fun _ _ _ _ _ cs h=>⟨cs,h⟩,fun _ o h o' h' hl=>by rw [h] at h';cases h';exact hl,fun i o b ho hl hb => .inr ⟨i,o,ho,hl,hb⟩,fun _ h=>h,fun _ h => .inl h⟩⟩
 ·rcases hM.row _ _ _ _ hm with h4 | ⟨b,arr,inf,q0,q1,q2,q3,q4,q5,q6,q7,q8⟩
  ·exact .inl h4
  ·exact .inr ⟨b,arr,inf,q0,(hsame b (mR.1 q1).1).trans q1,q2,q3,q4,q5,q6,fun j hj=>(q7 j hj).mono hL.F hL.fz,q8⟩
 ·obtain ⟨b,arr,q0,q1,q2,q3,q4⟩:=hM.box _ _ _ hm
  exact ⟨b,arr,q0,(hsame b (mR.1 q1).1).trans q1,q2,fun j hj=>(q3 j hj).mono hL,q4⟩
 ·obtain ⟨b,arr,q0,q1,q2,q3⟩:=hM.mp _ _ _ hm
  refine ⟨b,arr,q0,(hsame b (mR.1 q1).1).trans q1,q2,fun j hj => ?_⟩
  obtain ⟨en,r1,r2,r3,r4⟩:=q3 j hj;exact ⟨en,r1,r2,r3,r4.mono hL.F hL.fz⟩
def bRt(t:List AV)(i:Nat):Bool:=match t[i]? with
 | some .any=>true
 | _=>false
theorem bBa{C:Cx}{M:Mem}{w:World}{v u:Value}(h:Rep C M w (.p (.v v)) u):u=v:=by
 cases h with
 | p _ _ h=>cases h;rfl
theorem cIk{P:Program}{k:Nat}{c:Code}{tA tB:List AV}{S:St}{g:Gh}{i1 i2:Nat}{v1 v2:Value}(hk:uJ P 0 c ⟨tA,[]⟩ .normal ⟨tB,[]⟩)(hg:gh 0 g S=some ⟨tA,[]⟩)(hn:gF S.m=true)
  (h1:tB[i1]? = some (.p (.v v1))) (h2:tB[i2]? = some (.p (.v v2))) (hne:i1≠i2) (hl:tB.length=S.t.length) (hall:((List.range S.t.length).all fun i => !wrR c i || Nat.beq i i1 || Nat.beq i i2 || bRt S.t i)=true) :
  aC P k c S .normal (bO S [(i1,.p (.v v1)),(i2,.p (.v v2))]):=by
 intro C0 M0 w0 a w hk0 hs ro _ n;obtain ⟨C,hS,hM,hF,hD⟩:=hs;obtain ⟨C1,hS1,hM1,_,_⟩:=eW (dX 0) hg (bRs hS hM hn (eM hn).2);have hs1:Sim P (C1.with []) [] w ⟨tA,[]⟩ { a with defers:=[] } w:=⟨C1,hS1,hM1,(Fr.refl _ _ _).based [],.nil rfl (eM (m:=[]) rfl).2⟩
 have:=hk (C1.with []) [] w _ w (dX 0) hs1 a.defers ro n
 refine wpIn_mono this ?_;rintro e' a' w' ⟨rfl,a2,rfl,⟨C2,hS2,hM2,hF2,⟨l2,d1,d2,d3⟩,_⟩,hkp⟩;have hg2:w.grownBy w' none:=aRj hF2;obtain ⟨hM3,hF3⟩:=bLr hM hg2;have hS3:=hS.le (hM.le hF3);refine ⟨rfl,C,⟨?_,fun i hi => ?_⟩,hM3,hF.trans hF3,?_⟩
 ·have e0:=hS2.size
  show a2.tmps.size=((S.t.set i1 _).set i2 _).length;rw [nJ,nJ];exact e0.trans hl
 ·have hi':i<S.t.length:=by
   have:i<((S.t.set i1 (.p (.v v1))).set i2 (.p (.v v2))).length:=hi
   rwa [nJ,nJ] at this
  have key:∀ x,((S.t.set i1 (.p (.v v1))).set i2 (.p (.v v2)))[i]? = some x→Rep C S.m w' x (a2.tmps.getD i undef):=by
   intro x hx
   by_cases e2:i2=i
   ·subst e2
    rw [aTt (by rw [nJ];exact hi')] at hx
    cases hx;rw [bBa (hS2.at h2)]
    exact .p _ _ (.v _)
   rw [bDa e2] at hx
   by_cases e1:i1=i
   ·subst e1
    rw [aTt hi'] at hx
    cases hx;rw [bBa (hS2.at h1)]
    exact .p _ _ (.v _)
   rw [bDa e1] at hx
   have hc:=gQ.1 hall i (oV.2 hi');cases hw:wrR c i with
   | false =>
    rw [hkp i hw];exact hS3.at hx
   | true =>
    have n1:Nat.beq i i1=false:=by
     cases h:Nat.beq i i1 with
     | false=>rfl
     | true=>exact absurd (Nat.eq_of_beq_eq_true h).symm e1
    have n2:Nat.beq i i2=false:=by
     cases h:Nat.beq i i2 with
     | false=>rfl
     | true=>exact absurd (Nat.eq_of_beq_eq_true h).symm e2
    rw [hw,n1,n2] at hc
    have hc:bRt S.t i=true:=hc;unfold bRt at hc
    rw [hx] at hc
    cases x <;> first | exact .any _ | cases hc
  exact key _ (kQ0 hi)
 ·obtain ⟨⟨l,e1,e2,e3⟩,hR⟩:=hD.fr hM .refl hF3
  obtain ⟨⟨l',e1',_,e3'⟩,_⟩:=hD;have hll:l=l':=by
   have:=e1.symm.trans e1';exact (List.map_inj_right (fun x y h=>by simpa [mark] using h)).1 this
  refine ⟨⟨l2++l,?_,?_,?_⟩,hR⟩
  ·show a2.defers++a.defers=_
   rw [d1,e1,iN]
  ·refine List.nodup_append.2 ⟨d2,e2,fun x hx y hy hxy => ?_⟩
   have:=(d3 x hx).2.1;have:=(mR.1 (e3' y (hll ▸ hy)).1).1;subst hxy;omega
  ·intro D hD2
   rcases jK.1 hD2 with h | h
   ·exact ⟨(d3 D h).1,gU hF.size (d3 D h).2.1,fun hf=>by
     have:=hM.Fs D hf;have:=(d3 D h).2.1;omega⟩
   ·exact e3 D h
end KV
end Go.Proofs
end
namespace Go.Proofs
namespace KV
section
variable {dl:Int}{sk dc:Lqq}
theorem bYo(l:List Int)(v:Int)(hl:l.length≤1000000){base:Nat}:FV Tp 126 [.p (aG l),.p (aA v)] base (pI (bJ (fun x=>decide (v=x)) l)) []:=by
 rcases aE.find (P:=Tp) (k:=0) (b:=(sub (cd Tryz.f126) [1,0,1,0,0])) (fun i=>jC l v i) (fun i _=>bO (jC l v i) [(4,.p (aA (i:Int)))]) (jC l v l.length) .ret (.exit 0) (by simp) (by simp) (fun x=>decide (v=x)) l
  (fun i x hx hp=>aJr (by have:=aL hx;omega) hx (by simpa using hp) (aH (by have:=aL hx;omega)) rfl)
  (fun i x hx hp=>aJq (by have:=aL hx;omega) hx (by simpa using hp))
  (aJs (l:=l) (i:=l.length) (by omega)) with ⟨i,x,h1,h2,h3,h4⟩ | ⟨h1,h2,h3⟩
 ·rw [dW h2];exact bOr h4
 ·rw [eU h1];exact bOq h3
theorem bYp(l:List Int)(v:Int)(hl:l.length≤1000000){base:Nat}:FV Tp 52 [.p (aG l),.p (aA v)] base (pB (l.contains v)) []:=by
 rw [← yF];have k1:=fk 0 (bYo l v hl) rfl;exact FV.fi Tryz.func52 [k1.o] (gc k1 gn)
theorem bYq{l:List Int}(hl:l.length≤1000000)(n:Int):uB (aG l) n (l.contains n):=fun base=>bYp l n hl
def aHm(dl:Int)(sk dc:Lqq)(num r6:Int)(x:List Int):Bool := !(((kU dl sk dc r6 x).1 == (kU dl sk dc r6 (x++[num])).1) && ((kU dl sk dc r6 x).2 == (kU dl sk dc r6 (x++[num])).2))
theorem cJm(r t t':Int):jP [aA r,aA 0,aA t] [aA r,aA 0,aA t'] [(0,3,true),(1,3,true),(2,3,true)]=(t == t'):=by
 rw [Bool.eq_iff_iff];simp [jP,wG]
theorem bAz{r6 y0 y1:Int}(h:(aB sk)[(bJ (fun x=>decide (r6=x)) (aP (aB sk) 0)).toNat]? = some [y0,y1])(x:List Int):kU dl sk dc r6 x=cM dl x (aB dc) y0 y1:=by
 have e:(aB sk).getD (bJ (fun x=>decide (r6=x)) (aP (aB sk) 0)).toNat []=[y0,y1]:=by
  rw [kQ4,h];rfl
 unfold kU;rw [e];rfl
theorem bRq{dl:Int}{sk dc:Lqq}{num r6:Int}{x:List Int}(hd:bD (aB dc))(hu:uni 2 (aB sk))(hs:∀ s∈aB sk,-1≤s.getD 1 0∧s.getD 1 0≤360000)(hx:x.length≤1000){y0 y1:Int}(h0:(aB sk)[(bJ (fun x=>decide (r6=x)) (aP (aB sk) 0)).toNat]? = some [y0,y1])(h1:0≤(bJ (fun x=>decide (r6=x)) (aP (aB sk) 0))) :
  aC Tp 3 (sub (cd Tryz.f58) [1,1,1,1,1,1,1,1,1,0,1,0,1,0,0]) (uF dl sk dc num r6 x) .normal (bO (uF dl sk dc num r6 x) [(12,(pI ((kU dl sk dc r6 x).1))),(13,(pB ((kU dl sk dc r6 x).2)))]):=by
 obtain ⟨T',_,hT⟩:=aQr (sk:=aB sk) hd (fun n=>aFp hx n) y0 y1 (hs _ (kQ1 h0)) (T:=[]) cA.nil
 rw [bAz h0];exact cIk (cIl (num:=num) h0 h1 hu hT) (g:=⟨(rng [(0,3),(4,2),(7,2),(12,90)]),[],[2],[]⟩) (by kernel_rfl) rfl (by rfl) (by rfl) (by decide) (by rfl) (by kernel_rfl)
theorem bLp{dl:Int}{sk dc:Lqq}{num r6:Int}{x:List Int}(hd:bD (aB dc))(hu:uni 2 (aB sk))(hs:∀ s∈aB sk,-1≤s.getD 1 0∧s.getD 1 0≤360000)(hx:x.length≤1000){y0 y1:Int}(h0:(aB sk)[(bJ (fun x=>decide (r6=x)) (aP (aB sk) 0)).toNat]? = some [y0,y1])(h1:0≤(bJ (fun x=>decide (r6=x)) (aP (aB sk) 0))) :
  (aHm dl sk dc num r6 x=false→aC Tp 3 (sub (cd Tryz.f58) [1,1,1,1,1,1,1,1,1,0,1,0,1]) (rfO (rR dl sk dc num r6) 54 11 x) .normal (aWr dl sk dc num r6)) ∧
  (aHm dl sk dc num r6 x=true→aC Tp 3 (sub (cd Tryz.f58) [1,1,1,1,1,1,1,1,1,0,1,0,1]) (rfO (rR dl sk dc num r6) 54 11 x) .ret (aMp dl sk dc num r6)):=by
 have hn:=bRq (dl:=dl) (num:=num) hd hu hs hx h0 h1;obtain ⟨T',_,hT⟩:=aQr (dl:=dl) (sk:=aB sk) hd (fun n=>bYq (l:=x++[num]) (by rw [gG];show x.length+1≤_;omega) n) y0 y1 (hs _ (kQ1 h0)) (T:=[]) cA.nil
 rw [← bAz h0] at hT
 have hov:aG (x++[num]) = .sl (x.length+1) (x.map aA++[aA num]):=by
  show PV.sl (x++[num]).length ((x++[num]).map aA)=_;rw [gG,iN];rfl
 rw [hov] at hT
 have hq:=cJm r6 (kU dl sk dc r6 x).1 (kU dl sk dc r6 (x++[num])).1;unfold aHm;cases ha:((kU dl sk dc r6 x).1 == (kU dl sk dc r6 (x++[num])).1) with
 | false =>
  refine ⟨fun h=>(by cases h),fun _ => ?_⟩
  rw [ha] at hq
  exact bJm hn h0 h1 hu ⟨rfl,by omega⟩ hT ⟨rfl,rfl⟩ hq
 | true =>
  rw [ha] at hq
  cases hb:((kU dl sk dc r6 x).2 == (kU dl sk dc r6 (x++[num])).2) with
  | false =>
   refine ⟨fun h=>(by cases h),fun _ => ?_⟩
   exact bJn hn h0 h1 hu ⟨rfl,by omega⟩ hT ⟨rfl,rfl⟩ hq hb
  | true =>
   refine ⟨fun _ => ?_,fun h=>(by cases h)⟩
   exact bJo hn h0 h1 hu ⟨rfl,by omega⟩ hT ⟨rfl,rfl⟩ hq hb
theorem bLq{num r6:Int}(hd:bD (aB dc))(hu:uni 2 (aB sk))(hs:∀ s∈aB sk,-1≤s.getD 1 0∧s.getD 1 0≤360000){y0 y1:Int}(h0:(aB sk)[(bJ (fun x=>decide (r6=x)) (aP (aB sk) 0)).toNat]? = some [y0,y1])(h1:0≤(bJ (fun x=>decide (r6=x)) (aP (aB sk) 0)))(ho:((bB dl (aB dc)).filter fun n => !(n == num)).length≤60) :
  ((jZ ((bB dl (aB dc)).filter fun n => !(n == num))).any (aHm dl sk dc num r6)=false→aC Tp 0 (sub (cd Tryz.f58) [1,1,1,1,1,1,1,1,1,0,1,0]) (aFx dl sk dc num r6) .normal (rR dl sk dc num r6)) ∧
  ((jZ ((bB dl (aB dc)).filter fun n => !(n == num))).any (aHm dl sk dc num r6)=true→aC Tp 0 (sub (cd Tryz.f58) [1,1,1,1,1,1,1,1,1,0,1,0]) (aFx dl sk dc num r6) .ret (aWq dl sk dc num r6)):=by
 have main:=aKc (P:=Tp) (k:=0) (kb:=3) (kk:=2) (g0:=⟨[],[],[],[]⟩) (g1:=⟨[],[],[],[]⟩) (gR:=⟨[],[],[],[]⟩) (aFx dl sk dc num r6) (fun _=>rR dl sk dc num r6) (fun _ _=>aWr dl sk dc num r6) (fun _ _=>aMp dl sk dc num r6) (rR dl sk dc num r6).t (aWq dl sk dc num r6).m (fun _=>aHm dl sk dc num r6)
  (cc := sub (cd Tryz.f58) [1, 1, 1, 1, 1, 1, 1, 1, 1, 0, 1, 0]) (gi := 53) (p1 := 54) (d := 11) (id := 14) (ty := 33) (pos := "outcome.go:200") (body := sub (cd Tryz.f58) [1, 1, 1, 1, 1, 1, 1, 1, 1, 0, 1, 0, 1]) (by kernel_rfl)
  rfl (fun _=>rfl) (g := .fn 182 [] [.rp [aG ((bB dl (aB dc)).filter fun n => !(n == num))] 0]) (by rfl) (aKa _ ho) (fun args w=>rfl) (fun _=>rfl) (fun _=>rfl) (fun _ _=>rfl) (fun _ _=>rfl) rfl rfl (fun _=>by show 2<3;omega) (by kernel_rfl) (fun x=>rfl) (by show 2≤2;omega) rfl (by kernel_rfl) (fun pre l=>by kernel_rfl) (fun _ _ _=>by kernel_rfl) (fun pre l _ hx=>bLp hd hu hs hx h0 h1)
 refine ⟨fun h=>main.1 fun pre l hp => ?_,fun h=>main.2 ?_⟩
 ·have:=List.any_eq_false.1 h l (hp.subset (by simp))
  simpa using this
 ·obtain ⟨l,hl,hb⟩:=List.any_eq_true.1 h
  obtain ⟨s,t,e⟩:=List.append_of_mem hl;exact ⟨s,l,⟨t,by rw [e];simp⟩,hb⟩
def bRr(dl:Int)(sk dc:Lqq)(num:Int):Bool × Int :=
 if (bB dl (aB dc)).contains num=false then (false,1) else if 8<(bB dl (aB dc)).length then (false,10) else
 if bJ (fun x=>decide (aRh (aB dc) num=x)) (aP (aB sk) 0)<0 then (false,0) else ((jZ ((bB dl (aB dc)).filter fun n => !(n == num))).any (aHm dl sk dc num (aRh (aB dc) num)),0)
theorem bYr{α:Type}{p:α→Bool}{l:List α}(h:0≤bJ p l):(bJ p l).toNat<l.length:=by
 unfold bJ at h ⊢
 cases e:l.findIdx? p with
 | none=>rw [e] at h;simp at h
 | some i =>
  obtain ⟨hi,_⟩:=List.findIdx?_eq_some_iff_getElem.1 e;simpa using hi
theorem cIj(h:bZ dl sk dc)(num:Int){base:Nat}:FV Tp 58 [.p (.agg (aX dl sk dc)),.p (aA num)] base (.tup [.p (blP (bRr dl sk dc num).1),.p (aA (bRr dl sk dc num).2)]) []:=by
 have hd:=fV h;obtain ⟨hu,hl,hs,_⟩:=mU h;have hol:(bB dl (aB dc)).length≤1000:=by
  unfold bB;rw [kQ8];exact gU (sG _ _) hd.len
 unfold bRr;cases hc:(bB dl (aB dc)).contains num with
 | false=>exact cFo h hd hol hc
 | true =>
  rw [if_neg (by simp)]
  by_cases h8:8<(bB dl (aB dc)).length
  ·rw [if_pos h8];exact cFp h hd hol hc (by omega)
  ·rw [if_neg h8]
   have hm:num∈bB dl (aB dc):=by simpa using hc
   have hm2:=hm;unfold bB at hm2
   obtain ⟨x,hx,rfl⟩:=dJ.1 hm2;have hx:=(kW.1 hx).1;have hr:=cF hd hx;have hsb:aRh (aB dc) (dN x)=lW (aB dc) x:=by unfold aRh;rw [aCu hd hx]
   obtain ⟨q1,q2⟩:=aMb hd hx;have hk:=rM hd (n:=dN x) (by unfold inR;omega)
   have hab:=nB hd x hx;rw [hsb];obtain ⟨a,b,c,d,e,f,rfl⟩:=len6 (hd.ud x hx);have hf:inR f:=by
    have:=(iA.1 (hd.rng _ hx));unfold inR;simp [dAb] at this hab ⊢;omega
   have hsbj:bQx dl (aB sk) (aB dc) [a,b,c,d,e,f] (lW (aB dc) [a,b,c,d,e,f]):=fun base=>bPg hd hf (.inl hx) hr.2
   have hcl:(aP (aB sk) 0).length≤1000:=by rw [mT];omega
   by_cases h0:bJ (fun x=>decide (lW (aB dc) [a,b,c,d,e,f]=x)) (aP (aB sk) 0)<0
   ·rw [if_pos h0]
    exact cFq h hd hol hc (by omega) hk q1 q2 hsbj ⟨hu,by omega⟩ hcl h0
   ·rw [if_neg h0]
    have hi:=bYr (p:=fun x=>decide (lW (aB dc) [a,b,c,d,e,f]=x)) (l:=aP (aB sk) 0) (by omega)
    rw [mT] at hi
    obtain ⟨y0,y1,hy⟩:=at2 hu hi;have hrg:=bLq (dl:=dl) (num:=dN [a,b,c,d,e,f]) hd hu hs hy (by omega) (gU (sG _ _) (by omega))
    cases hb:(jZ ((bB dl (aB dc)).filter fun n => !(n == dN [a,b,c,d,e,f]))).any (aHm dl sk dc (dN [a,b,c,d,e,f]) (lW (aB dc) [a,b,c,d,e,f])) with
    | false=>exact cFr h hd hol hc (by omega) hk q1 q2 hsbj ⟨hu,by omega⟩ hcl (by omega) (hrg.1 hb)
    | true=>exact cFs h hd hol hc (by omega) hk q1 q2 hsbj ⟨hu,by omega⟩ hcl (by omega) (hrg.2 hb)
end
section
variable {base:Nat}

theorem aYf:((0:Int) == 0)=true:=by first | decide | simp
theorem aYg:((0:Int) != 0)=false:=by first | decide | simp
theorem aNi:((3:Int) != 3)=false:=by first | decide | simp
theorem cIe:((15100:Int) == 15100)=true:=by first | decide | simp
abbrev thD:List PV:=[(aA 1),(aA 0),(aA 0),(aA 1),(aA 300),(aA 0),(aA 2),(aA 7),(aA 10),(aA 0),(aA 0),(aA 1),(aA 3),(aA 9),(aA 40),(aA 0),(aA 0),(aA 2),(aA 4),(aA 5),(aA 50),(aA 0),(aA 0),(aA 3),(aA 5),(aA 6),(aA 60),(aA 0),(aA 100),(aA 1)]
abbrev thS:List PV:=[(aA 1),(aA 15000),(aA 2),(aA 15100),(aA 3),(aA 15200)]
abbrev aAm:AV:=(.p (.agg [(aA 30),(.sl 3 thS),(.sl 2 [(aA 1),(aA 0),(aA 0),(aA 1),(aA 300),(aA 0),(aA 2),(aA 7),(aA 10),(aA 0),(aA 0),(aA 1)])]))
abbrev cIf:AV:=(.p (.agg [(aA 30),(.sl 3 thS),(.sl 3 [(aA 1),(aA 0),(aA 0),(aA 1),(aA 300),(aA 0),(aA 2),(aA 7),(aA 10),(aA 0),(aA 0),(aA 1),(aA 3),(aA 9),(aA 40),(aA 0),(aA 0),(aA 2)])]))
abbrev cIg:AV:=(.p (.agg [(aA 30),(.sl 3 thS),(.sl 4 [(aA 1),(aA 0),(aA 0),(aA 1),(aA 300),(aA 0),(aA 2),(aA 7),(aA 10),(aA 0),(aA 0),(aA 1),(aA 3),(aA 9),(aA 40),(aA 0),(aA 0),(aA 2),(aA 4),(aA 5),(aA 50),(aA 0),(aA 0),(aA 3)])]))
abbrev cIh:AV:=(.p (.agg [(aA 30),(.sl 3 thS),(.sl 5 [(aA 1),(aA 0),(aA 0),(aA 1),(aA 300),(aA 0),(aA 2),(aA 7),(aA 10),(aA 0),(aA 0),(aA 1),(aA 3),(aA 9),(aA 40),(aA 0),(aA 0),(aA 2),(aA 4),(aA 5),(aA 50),(aA 0),(aA 0),(aA 3),(aA 5),(aA 6),(aA 60),(aA 0),(aA 100),(aA 1)])]))
theorem bYh{r0c:List PV}(h0:0≤(0:Int)∧(0:Int)≤2∧(2:Int)≤5)(er0c:r0c=((thD.drop 0).take (2*(thD.length / 5)))):FV Tp 88 [(pI 2)] base (.p (.agg [(aA 30),(.sl 3 [(aA 1),(aA 15000),(aA 2),(aA 15100),(aA 3),(aA 15200)]),(.sl 2 r0c)])) []:=by
 subst er0c;have k1:=fk 1 (aMq (a:=(1:Int)) (b:=(1:Int)) (c:=(300:Int))) rfl;have k2:=fk 1 (jD (a:=(2:Int)) (b:=(7:Int)) (c:=(1:Int)) (d:=(10:Int)) (e:=(0:Int))) rfl;have k3:=fk 1 (jD (a:=(3:Int)) (b:=(9:Int)) (c:=(2:Int)) (d:=(40:Int)) (e:=(0:Int))) rfl;have k4:=fk 1 (jD (a:=(4:Int)) (b:=(5:Int)) (c:=(3:Int)) (d:=(50:Int)) (e:=(0:Int))) rfl;have k5:=fk 1 (jD (a:=(5:Int)) (b:=(6:Int)) (c:=(1:Int)) (d:=(60:Int)) (e:=(100:Int))) rfl;exact FV.frz (FMM.fi 0 ⟨[],[],[2,1],[]⟩ Tryz.func88 [k1.o,k2.o,k3.o,k4.o,k5.o] (gc h0 (gc k5 (gc k4 (gc k3 (gc k2 (gc k1 gn))))))) (by kernel_rfl)
theorem bYi{r0c:List PV}(h0:0≤(0:Int)∧(0:Int)≤3∧(3:Int)≤5)(er0c:r0c=((thD.drop 0).take (3*(thD.length / 5)))):FV Tp 88 [(pI 3)] base (.p (.agg [(aA 30),(.sl 3 [(aA 1),(aA 15000),(aA 2),(aA 15100),(aA 3),(aA 15200)]),(.sl 3 r0c)])) []:=by
 subst er0c;have k1:=fk 1 (aMq (a:=(1:Int)) (b:=(1:Int)) (c:=(300:Int))) rfl;have k2:=fk 1 (jD (a:=(2:Int)) (b:=(7:Int)) (c:=(1:Int)) (d:=(10:Int)) (e:=(0:Int))) rfl;have k3:=fk 1 (jD (a:=(3:Int)) (b:=(9:Int)) (c:=(2:Int)) (d:=(40:Int)) (e:=(0:Int))) rfl;have k4:=fk 1 (jD (a:=(4:Int)) (b:=(5:Int)) (c:=(3:Int)) (d:=(50:Int)) (e:=(0:Int))) rfl;have k5:=fk 1 (jD (a:=(5:Int)) (b:=(6:Int)) (c:=(1:Int)) (d:=(60:Int)) (e:=(100:Int))) rfl;exact FV.frz (FMM.fi 0 ⟨[],[],[2,1],[]⟩ Tryz.func88 [k1.o,k2.o,k3.o,k4.o,k5.o] (gc h0 (gc k5 (gc k4 (gc k3 (gc k2 (gc k1 gn))))))) (by kernel_rfl)
theorem bYj{r0c:List PV}(h0:0≤(0:Int)∧(0:Int)≤4∧(4:Int)≤5)(er0c:r0c=((thD.drop 0).take (4*(thD.length / 5)))):FV Tp 88 [(pI 4)] base (.p (.agg [(aA 30),(.sl 3 [(aA 1),(aA 15000),(aA 2),(aA 15100),(aA 3),(aA 15200)]),(.sl 4 r0c)])) []:=by
 subst er0c;have k1:=fk 1 (aMq (a:=(1:Int)) (b:=(1:Int)) (c:=(300:Int))) rfl;have k2:=fk 1 (jD (a:=(2:Int)) (b:=(7:Int)) (c:=(1:Int)) (d:=(10:Int)) (e:=(0:Int))) rfl;have k3:=fk 1 (jD (a:=(3:Int)) (b:=(9:Int)) (c:=(2:Int)) (d:=(40:Int)) (e:=(0:Int))) rfl;have k4:=fk 1 (jD (a:=(4:Int)) (b:=(5:Int)) (c:=(3:Int)) (d:=(50:Int)) (e:=(0:Int))) rfl;have k5:=fk 1 (jD (a:=(5:Int)) (b:=(6:Int)) (c:=(1:Int)) (d:=(60:Int)) (e:=(100:Int))) rfl;exact FV.frz (FMM.fi 0 ⟨[],[],[2,1],[]⟩ Tryz.func88 [k1.o,k2.o,k3.o,k4.o,k5.o] (gc h0 (gc k5 (gc k4 (gc k3 (gc k2 (gc k1 gn))))))) (by kernel_rfl)
theorem bYk{r0c:List PV}(h0:0≤(0:Int)∧(0:Int)≤5∧(5:Int)≤5)(er0c:r0c=((thD.drop 0).take (5*(thD.length / 5)))):FV Tp 88 [(pI 5)] base (.p (.agg [(aA 30),(.sl 3 [(aA 1),(aA 15000),(aA 2),(aA 15100),(aA 3),(aA 15200)]),(.sl 5 r0c)])) []:=by
 subst er0c;have k1:=fk 1 (aMq (a:=(1:Int)) (b:=(1:Int)) (c:=(300:Int))) rfl;have k2:=fk 1 (jD (a:=(2:Int)) (b:=(7:Int)) (c:=(1:Int)) (d:=(10:Int)) (e:=(0:Int))) rfl;have k3:=fk 1 (jD (a:=(3:Int)) (b:=(9:Int)) (c:=(2:Int)) (d:=(40:Int)) (e:=(0:Int))) rfl;have k4:=fk 1 (jD (a:=(4:Int)) (b:=(5:Int)) (c:=(3:Int)) (d:=(50:Int)) (e:=(0:Int))) rfl;have k5:=fk 1 (jD (a:=(5:Int)) (b:=(6:Int)) (c:=(1:Int)) (d:=(60:Int)) (e:=(100:Int))) rfl;exact FV.frz (FMM.fi 0 ⟨[],[],[2,1],[]⟩ Tryz.func88 [k1.o,k2.o,k3.o,k4.o,k5.o] (gc h0 (gc k5 (gc k4 (gc k3 (gc k2 (gc k1 gn))))))) (by kernel_rfl)
theorem yQ{base:Nat}:FV Tp 88 [.p (aA 2)] base aAm []:=bYh (by decide) rfl
theorem bYl{base:Nat}:FV Tp 88 [.p (aA 3)] base cIf []:=bYi (by decide) rfl
theorem bYm{base:Nat}:FV Tp 88 [.p (aA 4)] base cIg []:=bYj (by decide) rfl
theorem bYn{base:Nat}:FV Tp 88 [.p (aA 5)] base cIh []:=bYk (by decide) rfl
theorem cIi(h28_0:∀ base:Nat,FV Tp 28 [aAm] base (.tup [(.own base),(pI 0)]) [(base,(.row 48 3 [(aA 2),(aA 1),(aA 15100),(aA 3),(aA 2),(aA 15200),(aA 1),(aA 3),(aA 15300)]))])(h21_1:∀ base:Nat,FV Tp 21 [aAm,(.p (.sl 1 [(aA 2)]))] base (.tup [(.own base),(pI 0)]) [(base,(.row 48 3 [(aA 1),(aA 1),(aA 15000),(aA 2),(aA 2),(aA 15100),(aA 3),(aA 3),(aA 15200)]))])(h71_2:∀ base:Nat,FV Tp 71 [aAm,(pI 1)] base (.tup [(.p (.sl 2 [(aA 1),(aA 3)])),(pB false),(pI 0)]) [])(h33_3:∀ base:Nat,FV Tp 33 [aAm,(pI 2)] base (.tup [(.p (.sl 1 [(aA 2)])),(pI 0)]) [])(h51_4:∀ base:Nat,FV Tp 51 [(.p (.sl 3 [(aA 2),(aA 1),(aA 15100),(aA 3),(aA 2),(aA 15200),(aA 1),(aA 3),(aA 15300)])),(.p (.sl 3 [(aA 2),(aA 1),(aA 15100),(aA 3),(aA 2),(aA 15200),(aA 1),(aA 3),(aA 15300)]))] base (pB true) [])(h5:cV [(aA 1),(aA 1),(aA 15000)] [(0,3,true),(1,3,true),(2,3,true)]=true∧cV [(aA 1),(aA 1),(aA 15000)] [(0,3,true),(1,3,true),(2,3,true)]=true)(h6:(jP [(aA 1),(aA 1),(aA 15000)] [(aA 1),(aA 1),(aA 15000)] [(0,3,true),(1,3,true),(2,3,true)])=true)(h41_7:∀ base:Nat,FV Tp 41 [(.p (.sl 2 [(aA 1),(aA 3)])),(.p (.sl 2 [(aA 1),(aA 3)]))] base (pB true) [])(h41_8:∀ base:Nat,FV Tp 41 [(.p (.sl 1 [(aA 2)])),(.p (.sl 1 [(aA 2)]))] base (pB true) [])(h19_9:∀ base:Nat,FV Tp 19 [cIf] base (.tup [(.p (.sl 0 [])),(pI 0)]) [])(h19_10:∀ base:Nat,FV Tp 19 [cIg] base (.tup [(.p (.sl 1 [(aA 2)])),(pI 0)]) [])(h61_11:∀ base:Nat,FV Tp 61 [cIh,(pI 1)] base (.tup [(pI 15100),(pB false),(pI 0)]) [])(h58_12:∀ base:Nat,FV Tp 58 [aAm,(pI 2)] base (.tup [(pB true),(pI 0)]) []):FV Tp 26 [] base (pB true) []:=by
 exact FV.fi Tryz.func26 ([.c aAm [],.c (.tup [(.own 0),(pI 0)]) [(0,(.row 48 3 [(aA 2),(aA 1),(aA 15100),(aA 3),(aA 2),(aA 15200),(aA 1),(aA 3),(aA 15300)]))],.c aAm [],.c (.tup [(.own 2),(pI 0)]) [(1,.dead),(2,(.row 48 3 [(aA 1),(aA 1),(aA 15000),(aA 2),(aA 2),(aA 15100),(aA 3),(aA 3),(aA 15200)]))],.c aAm [],.c (.tup [(.p (.sl 2 [(aA 1),(aA 3)])),(pB false),(pI 0)]) [],.c aAm [],.c (.tup [(.p (.sl 1 [(aA 2)])),(pI 0)]) []]++rF 15++[.c (pB true) []]++rF 9++[.x (.agg [(aA 1),(aA 1),(aA 15000)])]++rF 6++[.c (pB true) []]++rF 5++[.c (pB true) [],bF,bF,bF,.c cIf [],.c (.tup [(.p (.sl 0 [])),(pI 0)]) [],.c cIg [],.c (.tup [(.p (.sl 1 [(aA 2)])),(pI 0)]) [],.c cIh [],.c (.tup [(pI 15100),(pB false),(pI 0)]) [],.c aAm [],.c (.tup [(pB true),(pI 0)]) []]++rT 16++[.c (pB true) []]++rT 6) (g2c cIe (gt (true=true) rfl (gt (true=true) rfl (gt (true=true) rfl (gc aYf (gt (FC Tp 41 [(.p (.sl 1 [(aA 2)])),(.own 6)] [(6,(.row 3 1 [(aA 2)]))] 7 (pB true) []) (fv (h41_8 _)) (g8c aYf (g8c aYf (gc (fk 6 (h58_12 _) rfl) (gc (fk 6 yQ rfl) (gc (fk 6 (h61_11 _) rfl) (gc (fk 6 bYn rfl) (gc (fk 6 (h19_10 _) rfl) (gc (fk 6 bYm rfl) (gc (fk 6 (h19_9 _) rfl) (gc (fk 6 bYl rfl) (gf (gf (gf (gt (FC Tp 41 [(.p (.sl 1 [(aA 2)])),(.own 5)] [(5,(.row 3 1 [(aA 2)]))] 6 (pB true) []) (fv (h41_8 _)) (gf (gf (gf (g2c (aQ h6) (gt (FC Tp 41 [(.p (.sl 2 [(aA 1),(aA 3)])),(.own 4)] [(4,(.row 3 2 [(aA 1),(aA 3)]))] 5 (pB true) []) (fv (h41_7 _)) (g3c (aQ h6) (gc aNi (gc h5 (g2c aNi (gr (.agg [(aA 1),(aA 1),(aA 15000)]) (gt (0+3≤[(aA 1),(aA 1),(aA 15000),(aA 2),(aA 2),(aA 15100),(aA 3),(aA 3),(aA 15200)].length) (by first | decide | simp) (gc aNi (gt (0≤(0:Int)∧(0:Int)<3) (by first | decide | simp) (g2c aNi (gf (gf (gf (gf (g2c aYg (gt (FC Tp 51 [(.own 0),(.own 3)] [(0,(.row 48 3 [(aA 2),(aA 1),(aA 15100),(aA 3),(aA 2),(aA 15200),(aA 1),(aA 3),(aA 15300)])),(3,(.row 48 3 [(aA 2),(aA 1),(aA 15100),(aA 3),(aA 2),(aA 15200),(aA 1),(aA 3),(aA 15300)]))] 4 (pB true) []) (fv (h51_4 _)) (g8c aYg (g7c aYg (gc (fk 3 (h33_3 _) rfl) (gc (fk 3 yQ rfl) (gc (fk 3 (h71_2 _) rfl) (gc (fk 3 yQ rfl) (gt (FC Tp 21 [aAm,(.own 1)] [(1,(.row 3 1 [(aA 2)]))] 2 (.tup [(.own 2),(pI 0)]) [(1,.dead),(2,(.row 48 3 [(aA 1),(aA 1),(aA 15000),(aA 2),(aA 2),(aA 15100),(aA 3),(aA 3),(aA 15200)]))]) (FV.close (ids:=[1]) (args':=[aAm,(.p (.sl 1 [(aA 2)]))]) (h21_1 _) (by kernel_rfl)) (gc (fk 1 yQ rfl) (gc (fk 0 (h28_0 _) rfl) (gc (fk 0 yQ rfl) gn))))))))))))))))))))))))))))))))))))))))))))))))))
end
section
abbrev sB(s:List Int):Int:=s.getD 0 0
abbrev sT(s:List Int):Int:=s.getD 1 0
def fK(dl:Int)(oc:List Int)(dc sk:Lqq):Lqq:=(sk.filter fun s => !(cM dl oc dc (sB s) (sT s)).2).map fun s=>[sB s,0,(cM dl oc dc (sB s) (sT s)).1]
def fW(dl:Int)(oc:List Int)(dc sk:Lqq):Lqq:=(sk.filter fun s=>(cM dl oc dc (sB s) (sT s)).2).map fun s=>[sB s,-1,0]
def plN(A:Lqq)(t:Int):Int:=match A.getLast? with
 | some y=>if y.getD 2 0=t then y.getD 1 0 else (A.length:Int)+1
 | none=>(A.length:Int)+1
def plS(A:Lqq)(x:List Int):Lqq:=A++[[x.getD 0 0,plN A (x.getD 2 0),x.getD 2 0]]
def jT(l:Lqq):Lqq:=l.foldl plS []
def cE(dl:Int)(oc:List Int)(dc sk:Lqq):Lqq:=jT (isort (ltK 2) (fK dl oc dc sk))++fW dl oc dc sk

theorem bYt(A D:List PV)(a b c v:PV):(A++[a,b,c]++D).set (A.length+1) v=A++[a,v,c]++D:=by
 induction A with
 | nil=>rfl
 | cons x A ih=>simp
theorem yR{L:Lqq}{j:Nat}{a b c:Int}(hu:uni 3 L)(hj:L[j]? = some [a,b,c])(v:Int):(L.flatten.map aA).set (j*3+1) (aA v)=((L.set j [a,v,c]).flatten.map aA):=by
 obtain ⟨hlt,he⟩:=kQ3.1 hj;have h0:=tF (k:=3) (i:=j) (x:=[a,b,c]) hu hlt rfl;have h1:=tF (k:=3) (i:=j) (x:=[a,v,c]) hu hlt rfl;have hs:L.set j [a,b,c]=L:=by rw [← he];exact List.set_getElem_self hlt
 rw [hs] at h0
 rw [← h1];have hl:((L.flatten.map aA).take (j*3)).length=j*3:=by
  have:=jL hu hj;rw [lU];omega
 have:=bYt ((L.flatten.map aA).take (j*3)) ((L.flatten.map aA).drop (j*3+3)) (aA a) (aA b) (aA c) (aA v);rw [hl] at this
 conv=>lhs;rw [← h0]
 exact this
theorem bYu(A:Lqq)(x:List Int):(plS A x).length=A.length+1:=by simp [plS]
theorem bBb(l:Lqq):∀ A:Lqq,(l.foldl plS A).length=A.length+l.length:=by
 induction l with
 | nil=>intro A;simp
 | cons x l ih=>intro A;rw [nK,ih,bYu];simp;omega
theorem aNk(l:Lqq):∀ A:Lqq,uni 3 A→uni 3 (l.foldl plS A):=by
 induction l with
 | nil=>intro A h;exact h
 | cons x l ih =>
  intro A h;rw [nK];refine ih _ fun y hy => ?_
  unfold plS at hy
  rcases jK.1 hy with hy | hy
  ·exact h y hy
  ·rw [List.mem_singleton.1 hy];rfl
section
variable {dl:Int} {sk dc:Lqq} {oc:List Int} {ov:PV}
theorem aYi(l:Lqq)(hu:uni 3 l)(hl:l.length<1000)(p q:Lqq)(hp:(isort (ltK 2) p).length=l.length)(t:Lqb) :
  aE Tp 7 (sub (cd Tryz.f86) [1,1,1,1,0,1,0,0]) (kV dl sk dc ov p q t l.length (l.flatten.map aA) 0) (.exit 2) (kV dl sk dc ov p q t (jT l).length ((jT l).flatten.map aA) l.length):=by
 let St (j:Nat):Lqq:=(l.take j).foldl plS []++l.drop j
 have hlen:∀ j,j≤l.length→((l.take j).foldl plS []).length=j:=fun j hj=>by rw [bBb];simp;omega
 have hlS:∀ j,j≤l.length→(St j).length=l.length:=fun j hj=>by
  show (_++_:Lqq).length=_;rw [gG,hlen j hj,bOa];omega
 have huS:∀ j,uni 3 (St j):=fun j y hy=>by
  rcases jK.1 hy with hy | hy
  ·exact aNk _ [] (fun z hz=>by cases hz) y hy
  ·exact hu y (List.mem_of_mem_drop hy)
 have:=aE.count (P:=Tp) (k:=7) (b:=sub (cd Tryz.f86) [1,1,1,1,0,1,0,0]) (e := .exit 2) (R:=kV dl sk dc ov p q t (jT l).length ((jT l).flatten.map aA) l.length) l.length
  (fun j=>kV dl sk dc ov p q t (St j).length ((St j).flatten.map aA) j)
  (fun j hj=>by
   have hx:=hu _ (gD hj);obtain ⟨a,b,c,hx⟩:=len3 hx;have hA:=hlen j (by omega)
   have e1:(l.take (j+1)).foldl plS []=plS ((l.take j).foldl plS []) [a,b,c]:=by
    rw [List.take_add_one,kQ0 hj,hx];rw [aEs];rfl
   have hdr:l.drop j=[a,b,c]::l.drop (j+1):=by rw [aPp hj,hx]
   have g1:(St j)[j]? = some [a,b,c]:=by
    show ((l.take j).foldl plS []++l.drop j)[j]? = _;rw [zF (by omega),hA,aTw,hdr];rfl
   have hset:∀ v,(St j).set j [a,v,c]=(l.take j).foldl plS []++[a,v,c]::l.drop (j+1):=fun v=>by
    show ((l.take j).foldl plS []++l.drop j).set j [a,v,c]=_;rw [List.set_append_right _ _ (by omega),hA,aTw,hdr];rfl
   have hnext:St (j+1)=(St j).set j [a,plN ((l.take j).foldl plS []) c,c]:=by
    rw [hset];show (l.take (j+1)).foldl plS []++l.drop (j+1)=_;rw [e1];unfold plS;rw [List.append_assoc];rfl
   have hle:=jL (huS j) g1;have hpl:(j:Int)<((isort (ltK 2) p).length:Int):=by rw [hp];omega
   rw [hnext]
   rcases Nat.eq_zero_or_pos j with h0 | hpos
   ·have hn:plN ((l.take j).foldl plS []) c=(j:Int)+1:=by
     subst h0;rfl
    rw [hn];exact bLi (L:=St j) (L':=(St j).set j [a,((j+1:Nat):Int),c]) (by exact_mod_cast hpl) (aH (by omega)) g1 (by omega) (by omega) (by simp) (yR (huS j) g1 _).symm rfl
   ·have g2:∃ y0 y1 y2,((l.take j).foldl plS []).getLast? = some [y0,y1,y2]∧(St j)[((j:Int)-1).toNat]? = some [y0,y1,y2]:=by
     have hlt:j-1<((l.take j).foldl plS []).length:=by omega
     have h3:=aNk (l.take j) [] (fun z hz=>by cases hz) _ (gD hlt)
     obtain ⟨y0,y1,y2,hy⟩:=len3 h3;refine ⟨y0,y1,y2,?_,?_⟩
     ·rw [List.getLast?_eq_getElem?,hA,kQ0 hlt,hy]
     ·show ((l.take j).foldl plS []++l.drop j)[((j:Int)-1).toNat]? = _
      rw [show ((j:Int)-1).toNat=j-1 by omega,aEr hlt,kQ0 hlt,hy]
    obtain ⟨y0,y1,y2,g3,g4⟩:=g2
    by_cases hc:c=y2
    ·have hn:plN ((l.take j).foldl plS []) c=y1:=by
      unfold plN;rw [g3];show (if y2=c then y1 else _)=y1
      rw [if_pos hc.symm]
     rw [hn];have hu1:uni 3 ((St j).set j [a,((j+1:Nat):Int),c]):=aZj (huS j) rfl;have g5:((St j).set j [a,((j+1:Nat):Int),c])[j]? = some [a,((j+1:Nat):Int),c]:=by
      rw [aTt (by rw [hlS j (by omega)];omega)]
     refine bLg (L:=St j) (L':=(St j).set j [a,y1,c]) (by exact_mod_cast hpl) (aH (by omega)) g1 (by omega) (by omega) (huS j) (by unfold inR;omega) g4 (by omega) hc (by rw [nJ];omega) (by simp) ?_ rfl
     rw [yR (huS j) g1,yR hu1 g5,List.set_set]
    ·have hn:plN ((l.take j).foldl plS []) c=(j:Int)+1:=by
      unfold plN;rw [g3];show (if y2=c then y1 else _)=_
      rw [if_neg (fun h=>hc h.symm),hA]
     rw [hn];exact bLh (L:=St j) (L':=(St j).set j [a,((j+1:Nat):Int),c]) (by exact_mod_cast hpl) (aH (by omega)) g1 (by omega) (by omega) (huS j) (by unfold inR;omega) g4 (by omega) hc (by simp) (yR (huS j) g1 _).symm rfl)
  (by
   have e:St l.length=jT l:=by
    show (l.take l.length).foldl plS []++l.drop l.length=_;rw [List.take_length,List.drop_length,List.append_nil];rfl
   rw [e];exact bLj (by rw [hp];omega)) (by simp)
 exact this
theorem aKj:(fK dl oc dc sk).length≤sk.length:=by
 unfold fK;rw [kQ8];exact sG _ _
theorem aGj:(fW dl oc dc sk).length≤sk.length:=by
 unfold fW;rw [kQ8];exact sG _ _
theorem aKk:uni 3 (fK dl oc dc sk):=fun y hy=>by
 obtain ⟨s,_,rfl⟩:=dJ.1 hy;rfl
theorem aGk:uni 3 (fW dl oc dc sk):=fun y hy=>by
 obtain ⟨s,_,rfl⟩:=dJ.1 hy;rfl
theorem xD(f:Nat)(l:Lqq):(isort (ltK f) l).length=l.length:=yO _ _
theorem bLv{k f:Nat}{l:Lqq}(h:uni k l):uni k (isort (ltK f) l):=fun y hy=>h y ((vE _ _ y).1 hy)
theorem aGl(l:Lqq):(jT l).length=l.length:=by unfold jT;rw [bBb];simp
theorem aYj(l:Lqq):uni 3 (jT l):=aNk l [] fun z hz=>by cases hz
theorem nT:uni 3 (cE dl oc dc sk):=fun y hy=>by
 rcases jK.1 hy with hy | hy
 ·exact aYj _ y hy
 ·exact aGk y hy
theorem aRv{α:Type}(p:α→Bool):∀ l:List α,(l.filter fun x => !p x).length+(l.filter p).length=l.length
 | []=>rfl
 | x::l=>by
  have:=aRv p l;cases h:p x <;> simp [h] <;> omega
theorem bRv:(cE dl oc dc sk).length=sk.length:=by
 unfold cE fK fW;rw [gG,aGl,xD,kQ8,kQ8];exact aRv _ sk
theorem cJn(hd:bD dc)(hov:∀ n,uB ov n (oc.contains n))(hs:uni 2 sk)(hb:∀ x∈sk,skB x=true)(hl:sk.length<20){T:Lqb}(hT:cA dl oc dc T):∃ T',cA dl oc dc T'∧cHf dl sk dc ov (cE dl oc dc sk) T T':=by
 obtain ⟨acc,⟨h1,h2,h3⟩,h4⟩:=aE.ex (P:=Tp) (k:=7) (b:=sub (cd Tryz.f86) [1,1,0,1,0,0]) (e := .exit 0) (fun i (a:(Lqq × Lqq) × Lqb)=>pO dl sk dc ov a.1.1.length (a.1.1.flatten.map aA) a.1.2.length (a.1.2.flatten.map aA) i (aO a.2) a.2.length)
  (fun a=>pO dl sk dc ov a.1.1.length (a.1.1.flatten.map aA) a.1.2.length (a.1.2.flatten.map aA) sk.length (aO a.2) a.2.length)
  (fun i a=>cA dl oc dc a.2∧a.1.1=fK dl oc dc (sk.take i)∧a.1.2=fW dl oc dc (sk.take i)) (by simp) sk.length
  (fun i acc hi hI=>by
   obtain ⟨⟨p,q⟩,T1⟩:=acc;obtain ⟨h1,h2,h3⟩:=hI;dsimp only at h1 h2 h3
   have hm:=gD hi;obtain ⟨a,b,hy⟩:=len2 (hs _ hm);have hx:sk[i]? = some [a,b]:=by rw [kQ0 hi,hy]
   rw [hy] at hm
   have hr : -1≤b∧b≤360000:=by
    have:=hb _ hm;rw [aUw,kQ6] at this
    exact bV.1 this.2
   obtain ⟨T2,q1,q2⟩:=aQr (sk:=sk) hd hov a b hr h1;have hp:p.length≤20:=by rw [h2];have:=aKj (dl:=dl) (oc:=oc) (dc:=dc) (sk:=sk.take i);rw [lU] at this;omega
   have hq:q.length≤20:=by rw [h3];have:=aGj (dl:=dl) (oc:=oc) (dc:=dc) (sk:=sk.take i);rw [lU] at this;omega
   have et:sk.take (i+1)=sk.take i++[[a,b]]:=by rw [List.take_add_one,hx];rfl
   rw [et];have e1:fK dl oc dc (sk.take i++[[a,b]])=p++if (cM dl oc dc a b).2 then [] else [[a,0,(cM dl oc dc a b).1]]:=by
    rw [h2];unfold fK;rw [oU,iN]
    congr 1
    show (List.filter _ [[a,b]]).map _=_;cases hq:(cM dl oc dc a b).2 <;> simp [hq]
   have e2:fW dl oc dc (sk.take i++[[a,b]])=q++if (cM dl oc dc a b).2 then [[a,-1,0]] else []:=by
    rw [h3];unfold fW;rw [oU,iN]
    congr 1
    show (List.filter _ [[a,b]]).map _=_;cases hq:(cM dl oc dc a b).2 <;> simp [hq]
   rw [e1,e2];cases hc:(cM dl oc dc a b).2 with
   | true =>
    rw [hc] at q2
    exact ⟨((p,q++[[a,-1,0]]),T2),⟨q1,by simp,by simp⟩,bLd (q:=q) (q':=q++[[a,-1,0]]) (by omega) hx hs q2 rfl ⟨rfl,by omega⟩ (aH (by omega)) (by simp) (by simp) rfl rfl rfl⟩
   | false =>
    rw [hc] at q2
    exact ⟨((p++[[a,0,(cM dl oc dc a b).1]],q),T2),⟨q1,by simp,by simp⟩,bLe (p:=p) (p':=p++[[a,0,(cM dl oc dc a b).1]]) (by omega) hx hs q2 rfl ⟨rfl,by omega⟩ (aH (by omega)) (by simp) (by simp) rfl rfl rfl⟩)
  (fun acc hI=>bLf (by omega)) (acc:=(([],[]),T)) ⟨hT,by simp [fK],by simp [fW]⟩
 obtain ⟨⟨p,q⟩,T1⟩:=acc;dsimp only at h1 h2 h3 h4
 rw [List.take_length] at h2 h3
 subst h2 h3;have hp:=aKj (dl:=dl) (oc:=oc) (dc:=dc) (sk:=sk);have hq:=aGj (dl:=dl) (oc:=oc) (dc:=dc) (sk:=sk);have hP:=aYi (dl:=dl) (sk:=sk) (dc:=dc) (ov:=ov) (isort (ltK 2) (fK dl oc dc sk)) (bLv aKk) (by rw [xD];omega) (fK dl oc dc sk) (fW dl oc dc sk) rfl T1
 refine ⟨T1,h1,cHg (r0n:=(cE dl oc dc sk).length) (r0c:=(cE dl oc dc sk).flatten.map aA) h4 aKk (by omega) hP ⟨nN aGk,by rw [aGl,xD];omega⟩ ?_ ?_⟩
 ·unfold cE;rw [gG]
 ·unfold cE;rw [aTu,iN]
end
theorem bBc{dl:Int}{sk dc:Lqq}(h:bZ dl sk dc):∀ x∈aB sk,skB x=true:=fun x hx=>h.hsk x ((cW sk).mem_iff.1 hx)
theorem aAn{dl:Int}{sk dc:Lqq}(h:bZ dl sk dc)(hl:sk.length<20){base:Nat}:FV Tp 28 [.p (.agg (aX dl sk dc))] base (.tup [.own base,.p (aA 0)]) [(base,.row 48 (cE dl [] (aB dc) (aB sk)).length ((cE dl [] (aB dc) (aB sk)).flatten.map aA))]:=by
 obtain ⟨T',h1,h2⟩:=cJn (dl:=dl) (sk:=aB sk) (fV h) lQ (nA h.us) (bBc h) (by rw [eV];exact hl) cA.nil
 exact cHh h h2
theorem bYv{dl:Int}{sk dc:Lqq}(us:uni 2 sk)(ud:uni 6 dc)(h:eC dl sk dc≠0){base:Nat}:FV Tp 28 [.p (.agg (aX dl sk dc))] base (.tup [.p bM,.p (aA (eC dl sk dc))]) []:=cHi us ud h rfl
theorem bLw{dl:Int}{dc:Lqq}(hd:bD dc):(bB dl dc).length≤1000:=by
 unfold bB;rw [kQ8];have:=sG (sD dl dc) dc;have:=hd.len;omega
def yS(u:List Int):Bool:=(List.range u.length).all fun i=>i == 0 || decide (u.getD (i-1) 0<u.getD i 0)
theorem bRw{dl:Int}{sk dc:Lqq}(u:List Int)(hl:u.length≤1000):(yS u=true∧∃ i,aE Tp 0 (sub (cd Tryz.f21) [1,1,1,1,1,0,1,0,0]) (jF dl sk dc u 1) (.exit 0) (jF dl sk dc u i)) ∨
  (yS u=false∧∃ i,aE Tp 0 (sub (cd Tryz.f21) [1,1,1,1,1,0,1,0,0]) (jF dl sk dc u 1) .ret (bO (jF dl sk dc u i) [(4,.p bM),(5,.p (aA 4))])):=by
 rcases Nat.lt_or_ge u.length 2 with h2 | h2
 ·refine .inl ⟨?_,1,.exit (aKe (by omega)) (by simp)⟩
  unfold yS;rw [gQ];intro i hi;have:=oV.1 hi;have:i=0:=by omega
  subst this;rfl
 ·have hget:∀ i,i<u.length→u[i]? = some (u.getD i 0):=fun i hi=>by rw [kQ4,kQ0 hi];rfl
  have key:∀ d i,i+d=u.length→1≤i→(∀ j,j<i→(j == 0 || decide (u.getD (j-1) 0<u.getD j 0))=true) →
   (yS u=true∧∃ k,aE Tp 0 (sub (cd Tryz.f21) [1,1,1,1,1,0,1,0,0]) (jF dl sk dc u (i:Int)) (.exit 0) (jF dl sk dc u k)) ∨
   (yS u=false∧∃ k,aE Tp 0 (sub (cd Tryz.f21) [1,1,1,1,1,0,1,0,0]) (jF dl sk dc u (i:Int)) .ret (bO (jF dl sk dc u k) [(4,.p bM),(5,.p (aA 4))])):=by
   intro d
   induction d with
   | zero =>
    intro i hi h1 hj;refine .inl ⟨?_,_,.exit (aKe (by omega)) (by simp)⟩
    unfold yS;rw [gQ];intro j hjr;exact hj j (by have:=oV.1 hjr;omega)
   | succ d ih =>
    intro i hi h1 hj;have g1:u[((i:Nat):Int).toNat]? = some (u.getD i 0):=by rw [aHg];exact hget i (by omega)
    have g2:u[((i:Int)-1).toNat]? = some (u.getD (i-1) 0):=by rw [show ((i:Int)-1).toNat=i-1 by omega];exact hget (i-1) (by omega)
    by_cases hc:u.getD (i-1) 0<u.getD i 0
    ·have hst:=bLl (dl:=dl) (sk:=sk) (dc:=dc) (i:=(i:Int)) (i':=((i+1:Nat):Int)) (by omega) g1 (by omega) (by unfold inR;omega) g2 (by omega) hc (by unfold inR;omega) (by omega)
     rcases ih (i+1) (by omega) (by omega) (fun j hj2=>by
      rcases Nat.lt_or_ge j i with h3 | h3
      ·exact hj j h3
      ·obtain rfl:j=i:=by omega
       rw [decide_eq_true hc,Bool.or_true]) with ⟨q1,k,q2⟩ | ⟨q1,k,q2⟩
     ·exact .inl ⟨q1,k,.step hst q2⟩
     ·exact .inr ⟨q1,k,.step hst q2⟩
    ·refine .inr ⟨?_,_,.exit (bLk (i:=(i:Int)) (by omega) g1 (by omega) (by unfold inR;omega) g2 (by omega) (by omega)) (by simp)⟩
     cases hr:yS u with
     | false=>rfl
     | true =>
      unfold yS at hr
      have:=gQ.1 hr i (oV.2 (by omega))
      rw [show (i == 0)=false by simp;omega,Bool.false_or] at this
      exact absurd (of_decide_eq_true this) hc
  have:=key (u.length-1) 1 (by omega) (by omega) (fun j hj=>by
   have:j=0:=by omega
   subst this;rfl)
  exact this
def cJo(dl:Int)(dc:Lqq)(u:List Int):Int:=if u.all (ocB (bB dl dc)) then (if yS u then 0 else 4) else 1
theorem cIm{dl:Int}{sk dc:Lqq}(h:bZ dl sk dc)(hl:sk.length<20)(u:List Int)(hu:u.length≤1000)(he:cJo dl (aB dc) u=0){base:Nat}:FV Tp 21 [.p (.agg (aX dl sk dc)),.p (aG u)] base (.tup [.own base,.p (aA 0)]) [(base,.row 48 (cE dl u (aB dc) (aB sk)).length ((cE dl u (aB dc) (aB sk)).flatten.map aA))]:=by
 have hd:=fV h;unfold cJo at he
 cases ha:u.all (ocB (bB dl (aB dc))) with
 | false=>rw [ha] at he;simp at he
 | true =>
  rw [ha,if_pos rfl] at he
  rcases bRw (dl:=dl) (sk:=sk) (dc:=dc) u hu with ⟨q1,i,q2⟩ | ⟨q1,i,q2⟩
  ·obtain ⟨T',h1,h2⟩:=cJn (dl:=dl) (sk:=aB sk) hd (aFp hu) (nA h.us) (bBc h) (by rw [eV];exact hl) cA.nil
   exact cHn h hd hu (fun _ _=>bLw hd) ha q2 h2
  ·rw [q1] at he;simp at he
end
end KV
end Go.Proofs
section
namespace Go.Proofs
namespace KL
def aYe(x:Int):List Int→List Int
 | []=>[x]
 | y::r=>if x≤y then x::y::r else y::aYe x r
def sortI:List Int→List Int
 | []=>[]
 | x::r=>aYe x (sortI r)
theorem aAl(x:Int):∀ l,(aYe x l).Perm (x::l)
 | [] => .refl _
 | y::r=>by
  unfold aYe
  split
  ·exact .refl _
  ·exact ((aAl x r).cons y).trans (List.Perm.swap x y r)
theorem aGg:∀ l,(sortI l).Perm l
 | [] => .refl _
 | x::r=>(aAl x _).trans ((aGg r).cons x)
theorem aBu(x:Int):∀ l,l.Pairwise (· ≤ ·)→(aYe x l).Pairwise (· ≤ ·)
 | [],_=>by simp [aYe]
 | y::r,h=>by
  obtain ⟨h1,h2⟩:=List.pairwise_cons.1 h;unfold aYe
  split
  ·rename_i hx
   exact List.pairwise_cons.2 ⟨fun z hz=>by
    rcases List.mem_cons.1 hz with rfl | hz
    ·exact hx
    ·have:=h1 z hz;omega,h⟩
  ·rename_i hx
   refine List.pairwise_cons.2 ⟨fun z hz => ?_,aBu x r h2⟩
   rcases List.mem_cons.1 ((aAl x r).mem_iff.1 hz) with rfl | hz
   ·omega
   ·exact h1 z hz
theorem yP:∀ l,(sortI l).Pairwise (· ≤ ·)
 | [] => .nil
 | x::r=>aBu x _ (yP r)
theorem aKi:∀ (a b:List Int),a.Perm b→a.Pairwise (· ≤ ·)→b.Pairwise (· ≤ ·)→a=b
 | [],b,h,_,_=>(List.nil_perm.1 h).symm
 | x::r,[],h,_,_=>absurd h.length_eq (by simp)
 | x::r,y::t,h,ha,hb=>by
  obtain ⟨h1,h2⟩:=List.pairwise_cons.1 ha;obtain ⟨h3,h4⟩:=List.pairwise_cons.1 hb;have e:x=y:=by
   have m1:x∈y::t:=h.mem_iff.1 (List.mem_cons_self ..);have m2:y∈x::r:=h.mem_iff.2 (List.mem_cons_self ..)
   rcases List.mem_cons.1 m1 with e | m1
   ·exact e
   ·rcases List.mem_cons.1 m2 with e | m2
    ·exact e.symm
    ·have:=h1 y m2;have:=h3 x m1;omega
  subst e;rw [aKi r t (List.Perm.cons_inv h) h2 h4]
theorem mergeSort_eq(l:List Int):l.mergeSort leB=sortI l:=by
 refine aKi _ _ ((List.mergeSort_perm _ _).trans (aGg l).symm) ?_ (yP l);have:=List.pairwise_mergeSort (le:=leB) (fun a b c h1 h2=>by simp only [leB,decide_eq_true_eq] at *;omega) (fun a b=>by simp only [leB,Bool.or_eq_true,decide_eq_true_eq];omega) l
 exact this.imp (fun h=>by simpa [leB] using h)
end KL
namespace KV
abbrev sk3:List (List Int):=[[1,15000],[2,15100],[3,15200]]
abbrev dc2:List (List Int):=[[1,0,0,1,300,0],[2,7,10,0,0,1]]
abbrev dc3:List (List Int):=[[1,0,0,1,300,0],[2,7,10,0,0,1],[3,9,40,0,0,2]]
abbrev dc4:List (List Int):=[[1,0,0,1,300,0],[2,7,10,0,0,1],[3,9,40,0,0,2],[4,5,50,0,0,3]]
abbrev dc5:List (List Int):=[[1,0,0,1,300,0],[2,7,10,0,0,1],[3,9,40,0,0,2],[4,5,50,0,0,3],[5,6,60,0,100,1]]
theorem uI{l:List (List Int)}(h:l.Pairwise fun a b=>a.getD 0 0≤b.getD 0 0):aB l=l:=List.mergeSort_of_pairwise (h.imp fun h=>decide_eq_true h)
theorem aHl:aB sk3=sk3:=uI (by decide)
theorem srt2:aB dc2=dc2:=uI (by decide)
theorem srt3:aB dc3=dc3:=uI (by decide)
theorem srt4:aB dc4=dc4:=uI (by decide)
theorem srt5:aB dc5=dc5:=uI (by decide)
theorem rec2:bZ 30 sk3 dc2:=⟨by unfold uni;decide,by unfold uni;decide,by decide,by decide,by decide,by decide,by decide,by decide,by decide,by decide,by decide⟩
theorem rec3:bZ 30 sk3 dc3:=⟨by unfold uni;decide,by unfold uni;decide,by decide,by decide,by decide,by decide,by decide,by decide,by decide,by decide,by decide⟩
theorem rec4:bZ 30 sk3 dc4:=⟨by unfold uni;decide,by unfold uni;decide,by decide,by decide,by decide,by decide,by decide,by decide,by decide,by decide,by decide⟩
theorem rec5:bZ 30 sk3 dc5:=⟨by unfold uni;decide,by unfold uni;decide,by decide,by decide,by decide,by decide,by decide,by decide,by decide,by decide,by decide⟩
def bYg(al:List fZ)(s:Nat)(c:List cS):List Int:=Lib.compact (KL.sortI (c.flatMap (chL al s)))
theorem bAy(al:List fZ)(s:Nat)(c:List cS):rS al s c=bYg al s c:=by unfold rS bYg;rw [KL.mergeSort_eq]
def bRn(dl:Int)(sk dc:List (List Int))(f:Int)(i:Nat):Bool:=match (cK dl sk dc)[i]? with
 | some h=>aWt (bYg (cK dl sk dc) i h.1) (h.1.any fun x=>x.2.1) (h.1.any fun x => !x.2.1) f
 | none=>false
theorem bRo(dl:Int)(sk dc:List (List Int))(f:Int):aBr dl sk dc f=bRn dl sk dc f:=by
 funext i
 unfold aBr bRn
 split
 ·rename_i h e
  first | rw [e] | skip
  simp only [bAy]
 ·rename_i e
  first | rw [e] | rfl
theorem h28(base:Nat):FV Tryz.prog 28 [.p (.agg (aX 30 sk3 dc2))] base (.tup [.own base,.p (aA 0)]) [(base,.row 48 3 ([[2,1,15100],[3,2,15200],[1,3,15300]].flatten.map aA))]:=by
 have:=aAn rec2 (by decide) (base:=base)
 rw [aHl,srt2,show cE 30 [] dc2 sk3=[[2,1,15100],[3,2,15200],[1,3,15300]] from by decide +kernel] at this
 exact this
theorem h21(base:Nat):FV Tryz.prog 21 [.p (.agg (aX 30 sk3 dc2)),.p (aG [2])] base (.tup [.own base,.p (aA 0)]) [(base,.row 48 3 ([[1,1,15000],[2,2,15100],[3,3,15200]].flatten.map aA))]:=by
 have:=cIm rec2 (by decide) [2] (by decide) (by rw [srt2];decide +kernel) (base:=base)
 rw [aHl,srt2,show cE 30 [2] dc2 sk3=[[1,1,15000],[2,2,15100],[3,3,15200]] from by decide +kernel] at this
 exact this
theorem open2:bB 30 dc2=[2]:=by decide +kernel
theorem h71(base:Nat):FV Tryz.prog 71 [.p (.agg (aX 30 sk3 dc2)),.p (aA 1)] base (.tup [.p (aG [1,3]),.p (blP false),.p (aA 0)]) []:=by
 have:=cGc rec2 (bib:=1) (i:=0) (s0:=1) (s1:=15000) (by rw [aHl];decide +kernel) (by rw [aHl];rfl) (by rw [srt2,open2];decide) (base:=base)
 rw [aHl,srt2,bAy,show bYg (cK 30 sk3 dc2) 0 (qK 30 dc2 1 15000 (xB 30 dc2 1)).1=[1,3] from by decide +kernel,show ((qK 30 dc2 1 15000 (xB 30 dc2 1)).1.any fun x=>x.2.1)=false from by decide +kernel] at this
 exact this
theorem h33(base:Nat):FV Tryz.prog 33 [.p (.agg (aX 30 sk3 dc2)),.p (aA 2)] base (.tup [.p (aG [2]),.p (aA 0)]) []:=by
 have:=cGe rec2 (f:=2) (by decide) (by rw [srt2,open2];decide) (base:=base)
 have e:aRc 30 sk3 dc2 2=[2]:=by
  unfold aRc;rw [bRo];decide +kernel
 rw [aHl,srt2,e] at this
 exact this
theorem h19a(base:Nat):FV Tryz.prog 19 [.p (.agg (aX 30 sk3 dc3))] base (.tup [.p (aG []),.p (aA 0)]) []:=by
 have:=bPf rec3 (base:=base);rw [srt3,show bB 30 dc3=[] from by decide +kernel] at this
 exact this
theorem h19b(base:Nat):FV Tryz.prog 19 [.p (.agg (aX 30 sk3 dc4))] base (.tup [.p (aG [2]),.p (aA 0)]) []:=by
 have:=bPf rec4 (base:=base);rw [srt4,show bB 30 dc4=[2] from by decide +kernel] at this
 exact this
theorem h61(base:Nat):FV Tryz.prog 61 [.p (.agg (aX 30 sk3 dc5)),.p (aA 1)] base (.tup [.p (aA 15100),.p (blP false),.p (aA 0)]) []:=by
 obtain ⟨T',_,hT⟩:=aQr (dl:=30) (sk:=aB sk3) (dc:=aB dc5) (fV rec5) lQ 1 15000 (by decide) (T:=[]) cA.nil
 have:=bQl rec5 (bib:=1) (i0:=0) (s1:=1) (s2:=15000) (by rw [aHl];decide +kernel) (by rw [aHl];rfl) hT (base:=base)
 rw [srt5,show cM 30 [] dc5 1 15000=(15100,false) from by decide +kernel] at this
 exact this
theorem h58(base:Nat):FV Tryz.prog 58 [.p (.agg (aX 30 sk3 dc2)),.p (aA 2)] base (.tup [.p (blP true),.p (aA 0)]) []:=by
 have:=cIj rec2 2 (base:=base);have hB:∀ r6,aHm 30 sk3 dc2 2 r6=fun x => !(((cM 30 x dc2 ((sk3.getD (bJ (fun x=>decide (r6=x)) (aP sk3 0)).toNat []).getD 0 0) ((sk3.getD (bJ (fun x=>decide (r6=x)) (aP sk3 0)).toNat []).getD 1 0)).1 == (cM 30 (x++[2]) dc2 ((sk3.getD (bJ (fun x=>decide (r6=x)) (aP sk3 0)).toNat []).getD 0 0) ((sk3.getD (bJ (fun x=>decide (r6=x)) (aP sk3 0)).toNat []).getD 1 0)).1) && ((cM 30 x dc2 ((sk3.getD (bJ (fun x=>decide (r6=x)) (aP sk3 0)).toNat []).getD 0 0) ((sk3.getD (bJ (fun x=>decide (r6=x)) (aP sk3 0)).toNat []).getD 1 0)).2 == (cM 30 (x++[2]) dc2 ((sk3.getD (bJ (fun x=>decide (r6=x)) (aP sk3 0)).toNat []).getD 0 0) ((sk3.getD (bJ (fun x=>decide (r6=x)) (aP sk3 0)).toNat []).getD 1 0)).2)):=fun r6=>by
  funext x
  unfold aHm kU;rw [aHl,srt2]
 have e:bRr 30 sk3 dc2 2=(true,0):=by
  unfold bRr;rw [aHl,srt2,hB];decide +kernel
 rw [e] at this
 exact this
theorem bRp{base:Nat}:FV Tryz.prog 26 [] base (.p (blP true)) [] :=
 cIi h28 h21 h71 h33 (fun base=>by
  have:=cFy [[2,1,15100],[3,2,15200],[1,3,15300]] [[2,1,15100],[3,2,15200],[1,3,15300]] (by unfold uni;decide) (by unfold uni;decide) (by decide) (base:=base)
  rw [decide_eq_true rfl] at this
  exact this) ⟨rfl,rfl⟩ (by decide) (fun base=>by
  have:=pF [1,3] [1,3] (by decide) (base:=base)
  rw [decide_eq_true rfl] at this
  exact this) (fun base=>by
  have:=pF [2] [2] (by decide) (base:=base)
  rw [decide_eq_true rfl] at this
  exact this) h19a h19b h61 h58
end KV
end Go.Proofs
end
namespace Go.Proofs
namespace KV
section

end
section
end
section

end
section
structure aHn (p:List Int→Bool) (l:Lqq) (j:Nat) (x:Lqq × Nat):Prop where
 len:x.1.length=l.length
 le:x.2<j
 kept:x.1.take x.2=(l.take j).filter fun n => !p n
 rest:x.1.drop j=l.drop j
theorem aHn.skip{p:List Int→Bool}{l:Lqq}{j:Nat}{x:Lqq × Nat}(h:aHn p l j x)(hj:j<l.length){n:List Int}(hn:x.1[j]? = some n)(hp:p n=true):aHn p l (j+1) x:=by
 have hl:l[j]? = some n:=by
  have:=congrArg (·[0]?) h.rest
  simp only [List.getElem?_drop,Nat.add_zero] at this
  rw [← this];exact hn
 refine ⟨h.len,by have:=h.le;omega,?_,?_⟩
 ·rw [h.kept,List.take_add_one,hl]
  simp [oU,hp]
 ·rw [← List.drop_drop,h.rest,List.drop_drop]
theorem aHn.keep{p:List Int→Bool}{l:Lqq}{j:Nat}{x:Lqq × Nat}(h:aHn p l j x)(hj:j<l.length){n:List Int}(hn:x.1[j]? = some n)(hp:p n=false):aHn p l (j+1) (x.1.set x.2 n,x.2+1):=by
 have hl:l[j]? = some n:=by
  have:=congrArg (·[0]?) h.rest
  simp only [List.getElem?_drop,Nat.add_zero] at this
  rw [← this];exact hn
 have hle:=h.le;have hlen:=h.len;refine ⟨by simp [h.len],by simpa using hle,?_,?_⟩
 ·show (x.1.set x.2 n).take (x.2+1)=_
  rw [List.take_add_one,List.take_set_of_le (dX _),h.kept,aTt (by omega),List.take_add_one,hl]
  simp [oU,hp]
 ·show (x.1.set x.2 n).drop (j+1)=_
  rw [List.drop_set_of_lt (by omega),← List.drop_drop,h.rest,List.drop_drop]
theorem aHn.start{p:List Int→Bool}{l:Lqq}{i:Nat}{n:List Int}(hi:l[i]? = some n)(hp:p n=true)(hb:∀ m∈l.take i,p m=false):aHn p l (i+1) (l,i):=by
 refine ⟨rfl,Nat.lt_succ_self _,?_,rfl⟩;show l.take i=_;rw [List.take_add_one,hi];simp only [oU];rw [List.filter_eq_self.2 fun m hm=>by simp [hb m hm]]
 simp [hp]
theorem aNl{p:List Int→Bool}{l:Lqq}{i:Nat}(h:l.findIdx? p=some i):∀ m∈l.take i,p m=false:=fun m hm=>by
 obtain ⟨hi,h1,h2⟩:=List.findIdx?_eq_some_iff_getElem.1 h;obtain ⟨j,hj,rfl⟩:=List.getElem_of_mem hm;rw [List.getElem_take];rw [lU] at hj
 have:=h2 j (by omega)
 simpa using this
end
section
variable {r0:Bool}{n dl x100 y100 y101 y102 y103 y104 y105:Int}{c dc sk:Lqq}{l q:List Int}{i j i' j' i'0 base:Nat}

noncomputable abbrev aAk:Code:=sub (cd Tryz.f129) [1,0,1,0,0]
noncomputable abbrev aGf:Code:=sub (cd Tryz.f77) [1,0,1,0,0]
noncomputable abbrev aNf:Code:=sub (cd Tryz.f124) [1,1,1,0,1,0,0]
theorem bXu{y0 y1 y2 y3 y4 y5:Int}(h0:cN .i64 (atF dc.reverse) (.int .i64 n))(h1:(dR (atF dc.reverse) (.int .i64 n))=true)(h2:fN (atF dc.reverse) (.int .i64 n)=some (dcE y0 y1 y2 y3 y4 y5)):FV Tp 137 [(pI n),(.rp [(PV.rp (aR dl sk dc) 0)] 0)] base (pB true) []:=by
 exact FV.fi Tryz.func137 [.x (PV.rp (aR dl sk dc) 0),.x (.mp (atF dc.reverse)),bT,.x (dcE y0 y1 y2 y3 y4 y5)] (gc h2 (gc h1 (gc h0 (gr (.mp (atF dc.reverse)) (gr (PV.rp (aR dl sk dc) 0) gn)))))
theorem bXv(h0:cN .i64 (atF dc.reverse) (.int .i64 n))(h1:(dR (atF dc.reverse) (.int .i64 n))=false):FV Tp 137 [(pI n),(.rp [(PV.rp (aR dl sk dc) 0)] 0)] base (pB false) []:=by
 exact FV.fi Tryz.func137 [.x (PV.rp (aR dl sk dc) 0),.x (.mp (atF dc.reverse)),bF] (gc h1 (gc h0 (gr (.mp (atF dc.reverse)) (gr (PV.rp (aR dl sk dc) 0) gn))))
def atB(dc:Lqq)(n:Int):Bool:=dc.any fun x=>dN x == n
theorem bXw(n dl:Int)(sk dc:Lqq)(h:bD dc∧inR n){base:Nat}:FV Tp 137 [.p (aA n),.rp [bAq dl sk dc] 0] base (pB (atB dc n)) []:=by
 cases hb:atB dc n with
 | true =>
  obtain ⟨x,hx,e⟩:=List.any_eq_true.1 hb;have e:dN x=n:=by simpa using e
  obtain ⟨q1,q2⟩:=aMb h.1 hx;obtain ⟨a,b,c,d,e5,f,rfl⟩:=len6 (h.1.ud x hx);have e:a=n:=e;subst e;exact bXu (rM h.1 h.2) q1 q2
 | false =>
  have:=List.any_eq_false.1 hb;exact bXv (rM h.1 h.2) (aMc h.1 fun x hx=>by simpa using this x hx)
theorem bXx{x:Int}(h0:bD dc∧inR x)(er0:r0=(!(atB dc x))):FMM Tp 150 [(pI x),(.ptr 0 0)] [some (.box 96 [(.fn 137 [] [(.rp [(PV.rp (aR dl sk dc) 0)] 0)])])] (pB r0) [some (.box 96 [(.fn 137 [] [(.rp [(PV.rp (aR dl sk dc) 0)] 0)])])]:=by
 subst er0;exact FMM.fi 1 gE Tryz.func150 [.c (pB (atB dc x)) []] (gc (fk 1 (bXw x dl sk dc h0) rfl) gn)
theorem bAx(x:Int)(dl:Int)(sk:Lqq)(dc:Lqq)(he:bD dc∧inR x):FMM Tp 150 [(pI x),.ptr 0 0] [some (.box 96 [(.fn 137 [] [(.rp [(PV.rp (aR dl sk dc) 0)] 0)])])] (pB (!(atB dc x))) [some (.box 96 [(.fn 137 [] [(.rp [(PV.rp (aR dl sk dc) 0)] 0)])])]:=bXx he rfl
def iY(l:List Int)(dl:Int)(sk:Lqq)(dc:Lqq)(i:Nat):St:=⟨fr 19 [(0,(.p (aG l))),(1,(.fn 150 [] [(.ptr 0 0)])),(7,(pI (l.length:Int))),(8,(pI (i:Int)))],[some (.box 96 [(.fn 137 [] [(.rp [(PV.rp (aR dl sk dc) 0)] 0)])])]⟩
theorem bXy(hl0:aE Tp 1 aAk (iY l dl sk dc 0) (.exit 0) (iY l dl sk dc i'0)):FMM Tp 129 [(.p (aG l)),(.fn 150 [] [(.ptr 0 0)])] [some (.box 96 [(.fn 137 [] [(.rp [(PV.rp (aR dl sk dc) 0)] 0)])])] (pI (-1)) [some (.box 96 [(.fn 137 [] [(.rp [(PV.rp (aR dl sk dc) 0)] 0)])])]:=by
 exact FMM.fi 1 gE Tryz.func129 [hl0.k 6 (gZ [2,5,9,10])] (gc hl0.code gn)
theorem bXz(hl0:aE Tp 1 aAk (iY l dl sk dc 0) .ret (bO (iY l dl sk dc i'0) [(4,(pI (i'0:Int)))])):FMM Tp 129 [(.p (aG l)),(.fn 150 [] [(.ptr 0 0)])] [some (.box 96 [(.fn 137 [] [(.rp [(PV.rp (aR dl sk dc) 0)] 0)])])] (pI (i'0:Int)) [some (.box 96 [(.fn 137 [] [(.rp [(PV.rp (aR dl sk dc) 0)] 0)])])]:=by
 exact FMM.fi 1 gE Tryz.func129 [hl0.k 6 (gZ [2,5,9,10])] (gc hl0.code gn)
theorem aXx(h0:(i:Int)<(l.length:Int))(h1:l[i]? = some x100)(h2:bD dc∧inR x100)(h3:(atB dc x100)=false):aC Tp 1 aAk (iY l dl sk dc i) .ret (bO (iY l dl sk dc i) [(4,(pI (i:Int)))]):=by
 have k1:=mq [0] 1 (bAx x100 dl sk dc h2);exact aC.fi (gZ [2,2,5,2,9,10]) [bT,.x (aA x100),k1.o,bT] (gc (bY h3) (gc k1 (gc (atm aA h1) (gc (ixn aA h1) (gc (aK h0) gn)))))
theorem aXy(h0:(i:Int)<(l.length:Int))(h1:l[i]? = some x100)(h2:bD dc∧inR x100)(h3:(atB dc x100)=true)(h4:inR (((i+1):Nat):Int))(ei':i'=(i+1)):aC Tp 1 aAk (iY l dl sk dc i) .normal (iY l dl sk dc i'):=by
 subst ei';have k1:=mq [0] 1 (bAx x100 dl sk dc h2);exact aC.fi (gZ [2,5,9,10]) [bT,.x (aA x100),k1.o,bF] (gc h4 (gc (aQ h3) (gc k1 (gc (atm aA h1) (gc (ixn aA h1) (gc (aK h0) gn))))))
theorem aXz(h0:(l.length:Int)≤(i:Int)):aC Tp 1 aAk (iY l dl sk dc i) (.exit 0) (iY l dl sk dc i):=by
 exact aC.fi (gZ [2,5,9,10]) [bF] (gc (aN h0) gn)
theorem bYa(l:List Int)(dl:Int)(sk:Lqq)(dc:Lqq)(hl:l.length≤1000)(he:∀ x∈l,bD dc∧inR x):FMM Tp 129 [.p (aG l),(.fn 150 [] [(.ptr 0 0)])] [some (.box 96 [(.fn 137 [] [(.rp [(PV.rp (aR dl sk dc) 0)] 0)])])] (pI (bJ (fun x => !(atB dc x)) l)) [some (.box 96 [(.fn 137 [] [(.rp [(PV.rp (aR dl sk dc) 0)] 0)])])]:=by
 rcases aE.find (P:=Tp) (k:=1) (b:=aAk) (fun i=>iY l dl sk dc i) (fun i _=>bO (iY l dl sk dc i) [(4,.p (aA (i:Int)))]) (iY l dl sk dc l.length) .ret (.exit 0) (by simp) (by simp) (fun x => !(atB dc x)) l
  (fun i x hx hp=>by exact aXy (by have:=aL hx;omega) hx (he _ (kQ1 hx)) (by simpa using hp) (aH (by have:=aL hx;omega)) rfl)
  (fun i x hx hp=>by exact aXx (by have:=aL hx;omega) hx (he _ (kQ1 hx)) (by simpa using hp))
  (aXz (l:=l) (i:=l.length) (by omega)) with ⟨i,x,h1,h2,h3,h4⟩ | ⟨h1,h2,h3⟩
 ·rw [dW h2];exact bXz h4
 ·rw [eU h1];exact bXy h3
theorem bYb(h0:l.length≤1000)(h1:∀ x∈l,bD dc∧inR x)(er0:r0=(decide ((bJ (fun x => !(atB dc x)) l) ≥ 0))):FMM Tp 149 [(.p (aG l)),(.fn 150 [] [(.ptr 0 0)])] [some (.box 96 [(.fn 137 [] [(.rp [(PV.rp (aR dl sk dc) 0)] 0)])])] (pB r0) [some (.box 96 [(.fn 137 [] [(.rp [(PV.rp (aR dl sk dc) 0)] 0)])])]:=by
 subst er0;have k1:=mq [0] 1 (bYa l dl sk dc h0 h1);exact FMM.fi 1 gE Tryz.func149 [k1.o] (gc k1 gn)
theorem bYc(l:List Int)(dl:Int)(sk:Lqq)(dc:Lqq)(hl:l.length≤1000)(he:∀ x∈l,bD dc∧inR x):FMM Tp 149 [.p (aG l),(.fn 150 [] [(.ptr 0 0)])] [some (.box 96 [(.fn 137 [] [(.rp [(PV.rp (aR dl sk dc) 0)] 0)])])] (pB (l.any (fun x => !(atB dc x)))) [some (.box 96 [(.fn 137 [] [(.rp [(PV.rp (aR dl sk dc) 0)] 0)])])]:=bYb hl he (kL _ _).symm
theorem cIa(h0:l.length≤1000)(h1:∀ x∈l,bD dc∧inR x)(er0:r0=(!(l.any (fun x => !(atB dc x))))):FV Tp 84 [(.p (aG l)),(.fn 137 [] [(.rp [(PV.rp (aR dl sk dc) 0)] 0)])] base (pB r0) []:=by
 subst er0;have k1:=mq [0] 1 (bYc l dl sk dc h0 h1);exact FV.fi Tryz.func84 [k1.o] (gc k1 gn)
theorem aYa(l:List Int)(dl:Int)(sk:Lqq)(dc:Lqq)(hl:l.length≤1000)(he:∀ x∈l,bD dc∧inR x){base:Nat}:FV Tp 84 [.p (aG l),(.fn 137 [] [(.rp [(PV.rp (aR dl sk dc) 0)] 0)])] base (pB (l.all (atB dc))) []:=cIa hl he (by rw [List.all_eq_not_any_not])
theorem cIb{a b c d e f:Int}(h0:q.length≤1000)(er0:r0=(!(q.contains a))):FV Tp 139 [(.p (dcE a b c d e f)),(.rp [(aG q)] 0)] base (pB r0) []:=by
 subst er0;have k1:=fk 1 (pC q a h0) rfl;exact FV.fi Tryz.func139 [.x (aG q),k1.o] (gc k1 (gr (aG q) gn))
theorem aNg(a b c d e f:Int)(q:List Int)(h:q.length≤1000){base:Nat}:FV Tp 139 [.p (dcE a b c d e f),.rp [aG q] 0] base (pB (!(q.contains a))) []:=cIb h rfl
def iZ(l:Lqq)(q:List Int)(i:Nat):St:=⟨fr 19 [(0,(.own 0)),(1,(.fn 139 [] [(.rp [(aG q)] 0)])),(7,(pI (l.length:Int))),(8,(pI (i:Int)))],[some (.row 44 l.length (l.flatten.map aA))]⟩
theorem bYd{l:Lqq}(hl0:aE Tp 1 aGf (iZ l q 0) (.exit 0) (iZ l q i'0)):FMM Tp 77 [(.own 0),(.fn 139 [] [(.rp [(aG q)] 0)])] [some (.row 44 l.length (l.flatten.map aA))] (pI (-1)) [some (.row 44 l.length (l.flatten.map aA))]:=by
 exact FMM.fi 1 gE Tryz.func77 [hl0.k 6 (gZ [2,5,9,10])] (gc hl0.code gn)
theorem bYe{l:Lqq}(hl0:aE Tp 1 aGf (iZ l q 0) .ret (bO (iZ l q i'0) [(4,(pI (i'0:Int)))])):FMM Tp 77 [(.own 0),(.fn 139 [] [(.rp [(aG q)] 0)])] [some (.row 44 l.length (l.flatten.map aA))] (pI (i'0:Int)) [some (.row 44 l.length (l.flatten.map aA))]:=by
 exact FMM.fi 1 gE Tryz.func77 [hl0.k 6 (gZ [2,5,9,10])] (gc hl0.code gn)
theorem aYb{l:Lqq}(h0:(i:Int)<(l.length:Int))(h1:l[i]? = some [y100,y101,y102,y103,y104,y105])(h2:uni 6 l)(h3:q.length≤1000)(h4:(!(q.contains y100))=true):aC Tp 1 aGf (iZ l q i) .ret (bO (iZ l q i) [(4,(pI (i:Int)))]):=by
 have k1:=fk 1 (aNg y100 y101 y102 y103 y104 y105 q h3) rfl;exact aC.fi (gZ [2,2,5,2,9,10]) [bT,.x (dcE y100 y101 y102 y103 y104 y105),k1.o,bT] (gc h4 (gc k1 (gc (gY (i:=i) h2 h1) (gc (jL (i:=i) h2 h1) (gc (bX (i:=(i:Int)) (kQ5 _) h1) (gc (aK h0) gn))))))
theorem aYc{l:Lqq}(h0:(i:Int)<(l.length:Int))(h1:l[i]? = some [y100,y101,y102,y103,y104,y105])(h2:uni 6 l)(h3:q.length≤1000)(h4:(!(q.contains y100))=false)(h5:inR (((i+1):Nat):Int))(ei':i'=(i+1)):aC Tp 1 aGf (iZ l q i) .normal (iZ l q i'):=by
 subst ei';have k1:=fk 1 (aNg y100 y101 y102 y103 y104 y105 q h3) rfl;exact aC.fi (gZ [2,5,9,10]) [bT,.x (dcE y100 y101 y102 y103 y104 y105),k1.o,bF] (gc h5 (gc h4 (gc k1 (gc (gY (i:=i) h2 h1) (gc (jL (i:=i) h2 h1) (gc (bX (i:=(i:Int)) (kQ5 _) h1) (gc (aK h0) gn)))))))
theorem aYd{l:Lqq}(h0:(l.length:Int)≤(i:Int)):aC Tp 1 aGf (iZ l q i) (.exit 0) (iZ l q i):=by
 exact aC.fi (gZ [2,5,9,10]) [bF] (gc (aN h0) gn)
abbrev bYf(l:Lqq)(q:List Int)(i:Int):Prop:=FMM Tp 77 [.own 0,(.fn 139 [] [(.rp [(aG q)] 0)])] [some (.row 44 l.length (l.flatten.map aA))] (pI i) [some (.row 44 l.length (l.flatten.map aA))]
def pP(q:List Int)(cn:Nat)(cc:List PV)(i:Nat)(j:Nat):St:=⟨fr 42 [(0,(.own 0)),(1,(.fn 139 [] [(.rp [(aG q)] 0)])),(4,(.p bM)),(5,(pI (i:Int))),(6,(pI (j:Int)))],[some (.row 44 cn cc)]⟩
theorem cIc{l:Lqq}{i0:Nat}{c'1:Lqq}{i'2 j'3:Nat}{r0c:List PV}(h0:bYf l q (i0:Int))(h1:(i0:Int)≠(-1:Int))(h2:inR (((i0+1):Nat):Int))(hl3:aE Tp 1 aNf (pP q l.length (l.flatten.map aA) i0 (i0+1)) (.exit 0) (pP q c'1.length (c'1.flatten.map aA) i'2 j'3))(h4:0≤(i'2:Int)∧(i'2:Int)≤(c'1.length:Int)∧(c'1.length:Int)≤(c'1.length:Int))(h5:(i'2*6)+(c'1.length-i'2)*6≤(c'1.flatten.map aA).length)(h6:0≤(0:Int)∧(0:Int)≤(i'2:Int)∧(i'2:Int)≤(c'1.length:Int))(er0c:r0c=((((c'1.flatten.map aA).take (i'2*6)++(List.replicate (c'1.length-i'2) (List.map PV.v [(.int .i64 0),(.int .i64 0),(.int .i64 0),(.int .i64 0),(.int .i64 0),(.int .i64 0)])).flatten++(c'1.flatten.map aA).drop ((i'2*6)+(c'1.length-i'2)*6)).drop 0).take (i'2*(((c'1.flatten.map aA).take (i'2*6)++(List.replicate (c'1.length-i'2) (List.map PV.v [(.int .i64 0),(.int .i64 0),(.int .i64 0),(.int .i64 0),(.int .i64 0),(.int .i64 0)])).flatten++(c'1.flatten.map aA).drop ((i'2*6)+(c'1.length-i'2)*6)).length / c'1.length)))):FMM Tp 124 [(.own 0),(.fn 139 [] [(.rp [(aG q)] 0)])] [some (.row 44 l.length (l.flatten.map aA))] (.p (.sl i'2 r0c)) [some .dead]:=by
 subst er0c;have k1:=mq [0] 1 h0;exact FMM.fi 1 ⟨[],[],[0],[]⟩ Tryz.func124 [k1.o,bF,hl3.k 4 (gZ [2,2,7,29])] (gc h6 (gc h5 (gc h4 (gc hl3.code (gc h2 (gc (aV h1) (gc k1 gn)))))))
theorem cId{l:Lqq}(h0:bYf l q (-1)):FMM Tp 124 [(.own 0),(.fn 139 [] [(.rp [(aG q)] 0)])] [some (.row 44 l.length (l.flatten.map aA))] (.p (fS l)) [some .dead]:=by
 have k1:=mq [0] 1 h0;exact FMM.fi 1 ⟨[],[],[0],[]⟩ Tryz.func124 [k1.o,bT] (gt (((-1:Int) == (-1))=true) (by first | decide | simp) (gc k1 gn))
theorem bLm{y106 y107 y108 y109 y110 y111:Int}{c':Lqq}(h0:(j:Int)<(c.length:Int))(h1:c[j]? = some [y100,y101,y102,y103,y104,y105])(h2:uni 6 c)(h3:q.length≤1000)(h4:(!(q.contains y100))=false)(h5:c[i]? = some [y106,y107,y108,y109,y110,y111])(h6:[(aA y100),(aA y101),(aA y102),(aA y103),(aA y104),(aA y105)].length=6∧(i*6)+6≤(c.flatten.map aA).length)(h7:inR (((i+1):Nat):Int))(h8:inR (((j+1):Nat):Int))(ec'n:c'.length=c.length)(ec'c:c'.flatten.map aA=((c.flatten.map aA).take (i*6)++[(aA y100),(aA y101),(aA y102),(aA y103),(aA y104),(aA y105)]++(c.flatten.map aA).drop ((i*6)+6)))(ei':i'=(i+1))(ej':j'=(j+1)):aC Tp 1 aNf (pP q c.length (c.flatten.map aA) i j) .normal (pP q c'.length (c'.flatten.map aA) i' j'):=by
 subst ei' ej';have k1:=fk 2 (aNg y100 y101 y102 y103 y104 y105 q h3) rfl;rw [ec'n,ec'c];exact aC.fi (gZ [2,2,7,29]) [bT,.x (dcE y100 y101 y102 y103 y104 y105),k1.o,bT] (gc h8 (gc h7 (gc h6 (gc (bX (i:=(i:Int)) (kQ5 _) h5) (gc (bY h4) (gc k1 (gc (gY (i:=j) h2 h1) (gc (jL (i:=j) h2 h1) (gc (bX (i:=(j:Int)) (kQ5 _) h1) (gc (aK h0) gn))))))))))
theorem bLn(h0:(j:Int)<(c.length:Int))(h1:c[j]? = some [y100,y101,y102,y103,y104,y105])(h2:uni 6 c)(h3:q.length≤1000)(h4:(!(q.contains y100))=true)(h5:inR (((j+1):Nat):Int))(ej':j'=(j+1)):aC Tp 1 aNf (pP q c.length (c.flatten.map aA) i j) .normal (pP q c.length (c.flatten.map aA) i j'):=by
 subst ej';have k1:=fk 2 (aNg y100 y101 y102 y103 y104 y105 q h3) rfl;exact aC.fi (gZ [2,2,7,29]) [bT,.x (dcE y100 y101 y102 y103 y104 y105),k1.o,bF] (gc h5 (gc (aQ h4) (gc k1 (gc (gY (i:=j) h2 h1) (gc (jL (i:=j) h2 h1) (gc (bX (i:=(j:Int)) (kQ5 _) h1) (gc (aK h0) gn)))))))
theorem bLo(h0:(c.length:Int)≤(j:Int)):aC Tp 1 aNf (pP q c.length (c.flatten.map aA) i j) (.exit 0) (pP q c.length (c.flatten.map aA) i j):=by
 exact aC.fi (gZ [2,2,7,29]) [bF] (gc (aN h0) gn)
end
section
def cX(l:Lqq)(q:List Int):Lqq:=l.filter fun x => !(!(q.contains (x.getD 0 0)))
theorem bXt{l:Lqq}{q:List Int}(hu:uni 6 l)(hl:l.length≤1000)(hsu:q.length≤1000) :
  (∃ i n,l[i]? = some n∧l.findIdx? (fun x => !(q.contains (x.getD 0 0)))=some i∧(!(q.contains (n.getD 0 0)))=true∧bYf l q (i:Int))∨(l.any (fun x => !(q.contains (x.getD 0 0)))=false∧bYf l q (-1)):=by
 rcases aE.find (P:=Tp) (k:=1) (b:=(sub (cd Tryz.f77) [1,0,1,0,0])) (fun i=>iZ l q i) (fun i _=>bO (iZ l q i) [(4,.p (aA (i:Int)))]) (iZ l q l.length) .ret (.exit 0) (by simp) (by simp) (fun x => !(q.contains (x.getD 0 0))) l
  (fun i x hx hq=>by
   obtain ⟨a,b,c,d,e,f,rfl⟩:=len6 (hu _ (kQ1 hx));exact aYc (by have:=aL hx;omega) hx hu hsu hq (aH (by have:=aL hx;omega)) rfl)
  (fun i x hx hq=>by
   obtain ⟨a,b,c,d,e,f,rfl⟩:=len6 (hu _ (kQ1 hx));exact aYb (by have:=aL hx;omega) hx hu hsu hq)
  (aYd (by omega)) with ⟨i,x,h1,h2,h3,h4⟩ | ⟨h1,h2,h3⟩
 ·exact .inl ⟨i,x,h1,h2,h3,bYe h4⟩
 ·exact .inr ⟨h2,bYd h3⟩
theorem bRm(l:Lqq)(q:List Int)(hu:uni 6 l)(hl:l.length≤1000)(hsu:q.length≤1000) :
  FMM Tp 124 [.own 0,.fn 139 [] [.rp [aG q] 0]] [some (.row 44 l.length (l.flatten.map aA))] (.p (.sl (cX l q).length ((cX l q).flatten.map aA))) [some .dead]:=by
 rcases bXt (q:=q) hu hl hsu with ⟨i,n,h1,h2,h3,h4⟩ | ⟨h1,h2⟩
 ·have hi:=aL h1
  obtain ⟨d,hm⟩:∃ d,i+1+d=l.length:=⟨l.length-(i+1),by omega⟩
  obtain ⟨⟨c,k⟩,hI,hL⟩:=aE.ex (P:=Tp) (k:=1) (b:=(sub (cd Tryz.f124) [1,1,1,0,1,0,0])) (e := .exit 0) (fun j (x:Lqq × Nat)=>pP q x.1.length (x.1.flatten.map aA) x.2 (i+1+j)) (fun x=>pP q x.1.length (x.1.flatten.map aA) x.2 l.length)
   (fun j x=>aHn (fun x => !(q.contains (x.getD 0 0))) l (i+1+j) x∧uni 6 x.1) (by simp) d
   (fun j x hj hx=>by
    obtain ⟨hI,hs⟩:=hx;have hlt:i+1+j<x.1.length:=by rw [hI.len];omega
    have hle:=hI.le;have hlen:=hI.len;obtain ⟨y,hy⟩:∃ y,x.1[i+1+j]? = some y:=⟨_,kQ0 hlt⟩;obtain ⟨y0,y1,y2,y3,y4,y5,rfl⟩:=len6 (hs y (kQ1 hy));cases hq:(!(q.contains y0)) with
    | true=>exact ⟨x,⟨hI.skip (by omega) hy hq,hs⟩,bLn (by omega) hy hs hsu hq (aH (by omega)) rfl⟩
    | false =>
     obtain ⟨z,hz⟩:∃ z,x.1[x.2]? = some z:=⟨_,kQ0 (by omega)⟩
     obtain ⟨z0,z1,z2,z3,z4,z5,rfl⟩:=len6 (hs z (kQ1 hz));have hle2:=jL hs hz;refine ⟨_,⟨hI.keep (by omega) hy hq,fun n hn => ?_⟩,bLm (c:=x.1) (c':=x.1.set x.2 [y0,y1,y2,y3,y4,y5]) (by omega) hy hs hsu hq hz ⟨rfl,hle2⟩ (aH (by omega)) (aH (by omega)) (by simp) (tF hs (by omega) rfl).symm rfl rfl⟩
     rcases List.mem_or_eq_of_mem_set hn with h | rfl
     ·exact hs n h
     ·rfl)
   (fun x hx=>by
    have:=bLo (q:=q) (c:=x.1) (i:=x.2) (j:=l.length) (by rw [hx.1.len];omega)
    rw [show i+1+d=l.length from hm];exact this)
   (acc:=(l,i)) ⟨aHn.start h1 h3 (aNl h2),hu⟩
  obtain ⟨hI,hs⟩:=hI;have hlen:=hI.len;have hle:=hI.le;have hk:=hI.kept;simp only [hm,List.take_length] at hlen hle hk
  have hcl:(c.flatten.map aA).length=c.length*6:=nN hs;have hk6:k*6≤c.length*6:=Nat.mul_le_mul_right _ (by omega)
  have hsum:k*6+(c.length-k)*6=c.length*6:=by rw [← Nat.add_mul];congr 1;omega
  have fin:=cIc (l:=l) (c'1:=c) (i'2:=k) (j'3:=l.length) (r0c:=(c.take k).flatten.map aA) h4 (by omega) (aH (by omega)) hL ⟨by omega,by omega,by omega⟩ (by rw [hcl];omega) ⟨by omega,by omega,by omega⟩ (by
   have hz:((List.replicate (c.length-k) (List.map PV.v [(.int .i64 0),(.int .i64 0),(.int .i64 0),(.int .i64 0),(.int .i64 0),(.int .i64 0)])).flatten).length=(c.length-k)*6:=by
    rw [List.length_flatten];simp
   have hL2:(((c.flatten.map aA).take (k*6))++(List.replicate (c.length-k) (List.map PV.v [(.int .i64 0),(.int .i64 0),(.int .i64 0),(.int .i64 0),(.int .i64 0),(.int .i64 0)])).flatten++(c.flatten.map aA).drop (k*6+(c.length-k)*6)).length=c.length*6:=by
    rw [gG,gG,hz,lU,bOa,hcl];omega
   rw [List.drop_zero,hL2,Nat.mul_comm c.length 6,Nat.mul_div_cancel _ (by omega:0<c.length),List.append_assoc,List.take_append_of_le_length (by rw [lU,hcl];omega),List.take_take,Nat.min_self,← List.map_take,aLo _ hs])
  have hk':c.take k=cX l q:=hk;rw [← hk'];have e:(c.take k).length=k:=by rw [lU,Nat.min_eq_left (by omega)]
  rw [e];exact fin
 ·have:cX l q=l:=List.filter_eq_self.2 fun n hn=>by
   have:=List.any_eq_false.1 h1 n hn;simpa using this
  rw [this];exact cId h2
end
section
variable {b4 b7:Bool}{n3 n6 s1 s2 bib:Int}{T5 T8:Lqb}{q:List Int}{i0 base:Nat}
variable {dl:Int}{sk dc:Lqq}

theorem aGe:((0:Int) != 0)=false:=by first | decide | simp
theorem bRl(h0:bZ dl sk dc)(h1:kB (aB sk) bib=(i0:Int))(h2:(aB sk)[i0]? = some [s1,s2])(h3:q.length≤1000)(h4:∀ x∈q,bD (aB dc)∧inR x)(h5:(q.all (atB (aB dc)))=false):FV Tp 65 [(.p (.agg (aX dl sk dc))),(pI bib),(.p (aG q))] base (.tup [(pB false),(pI 1)]) []:=by
 have k1:=fk 2 (zW h0 h1 h2) rfl;have k2:=fk 3 (aYa q dl (aB sk) (aB dc) h3 h4) rfl;exact FV.fi Tryz.func65 [k1.o,bF,.g 2 ⟨[],[0,1,3],[2],[]⟩,k2.o,bT] (gc (bY h5) (gc k2 (gc aGe (gc k1 gn))))
theorem cHw{r0:Bool}(h0:bZ dl sk dc)(h1:kB (aB sk) bib=(i0:Int))(h2:(aB sk)[i0]? = some [s1,s2])(h3:q.length≤1000)(h4:∀ x∈q,bD (aB dc)∧inR x)(h5:(q.all (atB (aB dc)))=true)(h6:uni 6 (aB dc))(h7:(aB dc).length≤1000)(h8:bZ dl (aB sk) (cX (aB dc) q))(h9:yH dl (aB sk) (aB dc) bM [s1,s2] n3 b4 ([]:Lqb) T5)(h10:yH dl (aB (aB sk)) (aB (cX (aB dc) q)) bM [s1,s2] n6 b7 ([]:Lqb) T8)(h11:n6=n3)(er0:r0=(b7 == b4)):FV Tp 65 [(.p (.agg (aX dl sk dc))),(pI bib),(.p (aG q))] base (.tup [(pB r0),(pI 0)]) []:=by
 subst er0;have k1:=fk 2 (zW h0 h1 h2) rfl;have k2:=fk 3 (aYa q dl (aB sk) (aB dc) h3 h4) rfl;have k3:=fk 3 (bOk (aB dc) h6 h7) rfl;have k4:=mq [3] 4 (bRm (aB dc) q h6 h7 h3);have k5:=fk 4 (iT dl (aB sk) (cX (aB dc) q) h8) rfl;have k6:=mN [] 4 (oO (dl:=dl) (sk:=(aB sk)) (dc:=(aB dc)));have k7:=mq [4,5,6,7,8,9,10] 12 h9;have k8:=mN [] 11 (oO (dl:=dl) (sk:=(aB (aB sk))) (dc:=(aB (cX (aB dc) q))));have k9:=mq [11,12,13,14,15,16,17] 19 h10;exact FV.fi Tryz.func65 [k1.o,bF,.g 2 ⟨[],[0,1,3],[2],[]⟩,k2.o,bF,.x (PV.rp (aR dl (aB sk) (aB dc)) 0),.x (.agg (aX dl (aB sk) (aB dc))),.g 1 ⟨[],[0,2,3],[1],[]⟩,.x (PV.rp (aR dl (aB sk) (aB dc)) 0),.x (.sl ((aB dc).length) ((aB dc).flatten.map aA)),k3.o,k4.o,k5.o,bF,.x (PV.rp (aR dl (aB sk) (aB dc)) 0),.x (PV.rp (aR dl (aB sk) (aB dc)) 0),k6.o,k7.o,k8.o,k9.o,bT,bT,bT,bT] (g4c (bL h11) (gc k9 (gc k8 (gc k7 (gc k6 (gr (PV.rp (aR dl (aB sk) (aB dc)) 0) (gr (PV.rp (aR dl (aB sk) (aB dc)) 0) (gc aGe (gc k5 (gc k4 (gc k3 (gr (.sl ((aB dc).length) ((aB dc).flatten.map aA)) (gr (PV.rp (aR dl (aB sk) (aB dc)) 0) (gr (.agg (aX dl (aB sk) (aB dc))) (gt (0+3≤(aR dl (aB sk) (aB dc)).length) (by first | decide | simp) (gr (PV.rp (aR dl (aB sk) (aB dc)) 0) (gc (aQ h5) (gc k2 (gc aGe (gc k1 gn))))))))))))))))))))
theorem cHx(h0:bZ dl sk dc)(h1:kB (aB sk) bib=(i0:Int))(h2:(aB sk)[i0]? = some [s1,s2])(h3:q.length≤1000)(h4:∀ x∈q,bD (aB dc)∧inR x)(h5:(q.all (atB (aB dc)))=true)(h6:uni 6 (aB dc))(h7:(aB dc).length≤1000)(h8:bZ dl (aB sk) (cX (aB dc) q))(h9:yH dl (aB sk) (aB dc) bM [s1,s2] n3 b4 ([]:Lqb) T5)(h10:yH dl (aB (aB sk)) (aB (cX (aB dc) q)) bM [s1,s2] n6 b7 ([]:Lqb) T8)(h11:n6≠n3):FV Tp 65 [(.p (.agg (aX dl sk dc))),(pI bib),(.p (aG q))] base (.tup [(pB false),(pI 0)]) []:=by
 have k1:=fk 2 (zW h0 h1 h2) rfl;have k2:=fk 3 (aYa q dl (aB sk) (aB dc) h3 h4) rfl;have k3:=fk 3 (bOk (aB dc) h6 h7) rfl;have k4:=mq [3] 4 (bRm (aB dc) q h6 h7 h3);have k5:=fk 4 (iT dl (aB sk) (cX (aB dc) q) h8) rfl;have k6:=mN [] 4 (oO (dl:=dl) (sk:=(aB sk)) (dc:=(aB dc)));have k7:=mq [4,5,6,7,8,9,10] 12 h9;have k8:=mN [] 11 (oO (dl:=dl) (sk:=(aB (aB sk))) (dc:=(aB (cX (aB dc) q))));have k9:=mq [11,12,13,14,15,16,17] 19 h10;exact FV.fi Tryz.func65 [k1.o,bF,.g 2 ⟨[],[0,1,3],[2],[]⟩,k2.o,bF,.x (PV.rp (aR dl (aB sk) (aB dc)) 0),.x (.agg (aX dl (aB sk) (aB dc))),.g 1 ⟨[],[0,2,3],[1],[]⟩,.x (PV.rp (aR dl (aB sk) (aB dc)) 0),.x (.sl ((aB dc).length) ((aB dc).flatten.map aA)),k3.o,k4.o,k5.o,bF,.x (PV.rp (aR dl (aB sk) (aB dc)) 0),.x (PV.rp (aR dl (aB sk) (aB dc)) 0),k6.o,k7.o,k8.o,k9.o,bF,bF,bF,bF] (g4c (aV h11) (gc k9 (gc k8 (gc k7 (gc k6 (gr (PV.rp (aR dl (aB sk) (aB dc)) 0) (gr (PV.rp (aR dl (aB sk) (aB dc)) 0) (gc aGe (gc k5 (gc k4 (gc k3 (gr (.sl ((aB dc).length) ((aB dc).flatten.map aA)) (gr (PV.rp (aR dl (aB sk) (aB dc)) 0) (gr (.agg (aX dl (aB sk) (aB dc))) (gt (0+3≤(aR dl (aB sk) (aB dc)).length) (by first | decide | simp) (gr (PV.rp (aR dl (aB sk) (aB dc)) 0) (gc (aQ h5) (gc k2 (gc aGe (gc k1 gn))))))))))))))))))))
theorem cHy(h0:bZ dl sk dc)(h1:kB (aB sk) bib = -1):FV Tp 65 [(.p (.agg (aX dl sk dc))),(pI bib),(.p (aG q))] base (.tup [(pB false),(pI 1)]) []:=by
 have k1:=fk 2 (aVr h0 h1) rfl;exact FV.fi Tryz.func65 [k1.o,bT] (gt (((1:Int) != 0)=true) (by first | decide | simp) (gc k1 gn))
theorem cHz{r0:Int}(h0:uni 2 sk)(h1:uni 6 dc)(h2:(eC dl sk dc)≠0)(er0:r0=(eC dl sk dc)):FV Tp 65 [(.p (.agg (aX dl sk dc))),(pI bib),(.p (aG q))] base (.tup [(pB false),(pI r0)]) []:=by
 subst er0;exact FV.fi Tryz.func65 [.c (.tup [(.p (.v (.pointer none))),(.p (.agg [(aA 0),(aA 0)])),(pI (eC dl sk dc))]) [],bT] (gc (cZ h2) (gt (FC Tp 135 [(.p (.agg (aX dl sk dc))),(pI bib)] [] 2 (.tup [(.p (.v (.pointer none))),(.p (.agg [(aA 0),(aA 0)])),(pI (eC dl sk dc))]) []) (FV.fc (aMa h0 h1 h2) rfl) gn))
end
section

theorem bZ.sub{dl:Int}{sk dc sk' dc' r:Lqq}(h:bZ dl sk dc)(hs:sk'.Perm sk)(hd:(dc'++r).Perm dc):bZ dl sk' dc':=by
 have hm:∀ x∈dc',x∈dc:=fun x hx=>hd.mem_iff.1 (jK.2 (.inl hx))
 have hl:=hd.length_eq;rw [gG] at hl
 have hc:∀ n,(aP sk' 0).contains n=(aP sk 0).contains n:=fun n=>by
  rw [Bool.eq_iff_iff,List.contains_iff_mem,List.contains_iff_mem];exact (hs.map fun x=>x.getD 0 0).mem_iff
 have hnd:(aP dc' 0).Nodup:=by
  have h1:=(hd.map fun x:List Int=>x.getD 0 0).nodup_iff.2 h.nd
  rw [iN] at h1
  exact (List.nodup_append.1 h1).1
 have hl2:=h.len2;exact ⟨fun x hx=>h.us x (hs.mem_iff.1 hx),fun x hx=>h.ud x (hm x hx),by rw [hs.length_eq];exact h.len,by omega,h.hdl,fun x hx=>h.hsk x (hs.mem_iff.1 hx),fun x hx=>h.hdc x (hm x hx),
  (hs.map fun x:List Int=>x.getD 0 0).nodup_iff.2 h.ns,hnd,fun x hx=>by
   have:=h.inb x (hm x hx);unfold inB at this ⊢
   rw [hc];exact this,fun x hx=>h.ord x (hm x hx)⟩
theorem bRx{α:Type}{Q:List α→Prop}(h0:Q [])(hs:∀ l x,Q l→Q (l++[x]))(l:List α):Q l:=by
 have key:∀ r:List α,Q r.reverse:=fun r=>by
  induction r with
  | nil=>exact h0
  | cons a r ih=>rw [List.reverse_cons];exact hs _ _ ih
 have:=key l.reverse
 rwa [List.reverse_reverse] at this
def mD(L:Lqq)(t:Int):Nat:=(L.filter fun x=>decide (x.getD 2 0<t)).length
theorem aKl(L:Lqq)(x:List Int)(t:Int):mD (L++[x]) t=mD L t+if x.getD 2 0<t then 1 else 0:=by
 unfold mD;rw [oU,gG]
 congr 1
 by_cases h:x.getD 2 0<t
 ·rw [if_pos h,List.filter_cons,if_pos (decide_eq_true h)];rfl
 ·rw [if_neg h,List.filter_cons,if_neg (by rw [decide_eq_false h];simp)];rfl
theorem aGm(L:Lqq):L.Pairwise (fun a b=>a.getD 2 0≤b.getD 2 0)→jT L=L.map fun x=>[x.getD 0 0,(mD L (x.getD 2 0):Int)+1,x.getD 2 0]:=by
 refine bRx (Q:=fun L=>L.Pairwise (fun a b=>a.getD 2 0≤b.getD 2 0)→jT L=L.map fun x=>[x.getD 0 0,(mD L (x.getD 2 0):Int)+1,x.getD 2 0]) (fun _=>rfl) (fun l x ih hp => ?_) L
 obtain ⟨h1,_,h3⟩:=List.pairwise_append.1 hp;have h4:∀ a∈l,a.getD 2 0≤x.getD 2 0:=fun a ha=>h3 a ha x (by simp)
 have e:jT (l++[x])=jT l++[[x.getD 0 0,plN (jT l) (x.getD 2 0),x.getD 2 0]]:=by
  unfold jT;rw [aEs];rfl
 rw [e,ih h1,iN]
 congr 1
 ·refine aCb fun y hy => ?_
  rw [aKl,if_neg (by have:=h4 y hy;omega)];rfl
 ·have hx:mD (l++[x]) (x.getD 2 0)=mD l (x.getD 2 0):=by rw [aKl,if_neg (by omega)];rfl
  show [[x.getD 0 0,plN _ (x.getD 2 0),x.getD 2 0]]=[[x.getD 0 0,(mD (l++[x]) (x.getD 2 0):Int)+1,x.getD 2 0]];rw [hx]
  congr 3
  rcases List.eq_nil_or_concat l with rfl | ⟨m,y,rfl⟩
  ·rfl
  ·rw [List.concat_eq_append] at *
   unfold plN;rw [iN,gH,List.map_nil,List.getLast?_concat];show (if y.getD 2 0=x.getD 2 0 then (mD (m++[y]) (y.getD 2 0):Int)+1 else _)=_
   by_cases hc:y.getD 2 0=x.getD 2 0
   ·rw [if_pos hc,hc]
   ·rw [if_neg hc]
    have h5:=h4 y (by simp)
    have h6:mD (m++[y]) (x.getD 2 0)=(m++[y]).length:=by
     unfold mD;rw [List.filter_eq_self.2];intro a ha;refine decide_eq_true ?_
     rcases jK.1 ha with ha | ha
     ·have:=(List.pairwise_append.1 h1).2.2 a ha y (by simp)
      omega
     ·obtain rfl:a=y:=by simpa using ha
      omega
    rw [h6];simp
section
variable {dl:Int} {oc:List Int} {sk dc:Lqq}
def bBd(a b:List Int):Prop:=(b.getD 1 0 = -1→a.getD 1 0 = -1→a.getD 0 0<b.getD 0 0)∧(b.getD 1 0 ≠ -1→a.getD 1 0 ≠ -1∧a.getD 2 0≤b.getD 2 0∧(a.getD 2 0=b.getD 2 0→a.getD 0 0<b.getD 0 0))
def inL(t:Int)(y:List Int):Bool:=decide (y.getD 1 0 ≠ -1∧y.getD 2 0<t)
theorem aRw(hs:sk.Pairwise fun a b=>a.getD 0 0<b.getD 0 0) :
  (cE dl oc dc sk).Pairwise bBd ∧
  (∀ y∈cE dl oc dc sk,y.getD 1 0 ≠ -1→y.getD 1 0=1+(((cE dl oc dc sk).filter (inL (y.getD 2 0))).length:Int)) ∧
  (∀ y∈cE dl oc dc sk,∃ s∈sk,s.getD 0 0=y.getD 0 0∧cM dl oc dc (sB s) (sT s)=(y.getD 2 0,decide (y.getD 1 0 = -1))):=by
 have hI0:(fK dl oc dc sk).Pairwise fun a b=>a.getD 0 0<b.getD 0 0:=by
  unfold fK;rw [List.pairwise_map];exact (hs.sublist List.filter_sublist)
 have hO:(fW dl oc dc sk).Pairwise fun a b=>a.getD 0 0<b.getD 0 0:=by
  unfold fW;rw [List.pairwise_map];exact (hs.sublist List.filter_sublist)
 have s1:=rV (f:=fun x:List Int=>x.getD 2 0) (fun x y=>aNc 2 x y) (fK dl oc dc sk)
 have s2:=aNe (f:=fun x:List Int=>x.getD 2 0) (g:=fun x:List Int=>x.getD 0 0) (fun x y=>aNc 2 x y) (fK dl oc dc sk) hI0
 have hpl:=aGm _ s1;have hmI:∀ x,x∈isort (ltK 2) (fK dl oc dc sk)→x∈fK dl oc dc sk:=fun x hx=>(vE _ _ x).1 hx
 have e:cE dl oc dc sk=((isort (ltK 2) (fK dl oc dc sk)).map fun x=>[x.getD 0 0,(mD (isort (ltK 2) (fK dl oc dc sk)) (x.getD 2 0):Int)+1,x.getD 2 0])++fW dl oc dc sk:=by
  unfold cE;rw [hpl]
 generalize isort (ltK 2) (fK dl oc dc sk)=I at s1 s2 hmI e
 have o1:∀ y∈fW dl oc dc sk,y.getD 1 0 = -1:=fun y hy=>by
  unfold fW at hy
  obtain ⟨s,_,rfl⟩:=dJ.1 hy;rfl
 refine ⟨?_,?_,?_⟩
 ·rw [e]
  refine List.pairwise_append.2 ⟨?_,?_,?_⟩
  ·rw [List.pairwise_map]
   refine s2.imp fun {a b} h => ?_
   refine ⟨fun h1=>absurd h1 ?_,fun _=>⟨?_,?_,?_⟩⟩
   ·show (mD I (b.getD 2 0):Int)+1 ≠ -1
    omega
   ·show (mD I (a.getD 2 0):Int)+1 ≠ -1
    omega
   ·show a.getD 2 0≤b.getD 2 0
    omega
   ·show a.getD 2 0=b.getD 2 0→a.getD 0 0<b.getD 0 0
    omega
  ·refine hO.imp_of_mem fun {a b} ha hb h=>⟨fun _ _=>h,fun h1=>absurd (o1 b hb) h1⟩
  ·intro a ha b hb
   obtain ⟨x,_,rfl⟩:=dJ.1 ha;refine ⟨fun _ h1=>absurd h1 ?_,fun h1=>absurd (o1 b hb) h1⟩
   show (mD I (x.getD 2 0):Int)+1 ≠ -1;omega
 ·have hc:∀ t,((cE dl oc dc sk).filter (inL t)).length=mD I t:=fun t=>by
   rw [e,oU,gG];have z:(fW dl oc dc sk).filter (inL t)=[]:=by
    rw [List.filter_eq_nil_iff];intro y hy;unfold inL;rw [o1 y hy];simp
   rw [z,List.filter_map,kQ8];unfold mD;rw [List.length_nil,Nat.add_zero]
   congr 1
   refine List.filter_congr fun x _ => ?_
   show decide ((mD I (x.getD 2 0):Int)+1 ≠ -1∧x.getD 2 0<t)=decide (x.getD 2 0<t)
   by_cases hx:x.getD 2 0<t
   ·rw [decide_eq_true hx,decide_eq_true ⟨by omega,hx⟩]
   ·rw [decide_eq_false hx,decide_eq_false fun h=>hx h.2]
  intro y hy h1;rw [hc];rw [e] at hy
  rcases jK.1 hy with hy | hy
  ·obtain ⟨x,_,rfl⟩:=dJ.1 hy
   show (mD I (x.getD 2 0):Int)+1=1+(mD I (x.getD 2 0):Int);omega
  ·exact absurd (o1 y hy) h1
 ·intro y hy
  rw [e] at hy
  rcases jK.1 hy with hy | hy
  ·obtain ⟨x,hx,rfl⟩:=dJ.1 hy
   have hx':=hmI x hx;unfold fK at hx'
   obtain ⟨s,hs',rfl⟩:=dJ.1 hx';obtain ⟨m1,m2⟩:=kW.1 hs';refine ⟨s,m1,rfl,?_⟩;have m3:(cM dl oc dc (sB s) (sT s)).2=false:=by simpa using m2
   have m4:(decide ((mD I (cM dl oc dc (sB s) (sT s)).1:Int)+1 = -1))=false:=decide_eq_false (by omega)
   show cM dl oc dc (sB s) (sT s)=((cM dl oc dc (sB s) (sT s)).1,decide ((mD I (cM dl oc dc (sB s) (sT s)).1:Int)+1 = -1));rw [m4];exact Prod.ext rfl m3
  ·unfold fW at hy
   obtain ⟨s,hs',rfl⟩:=dJ.1 hy;obtain ⟨m1,m2⟩:=kW.1 hs';refine ⟨s,m1,rfl,?_⟩;show cM dl oc dc (sB s) (sT s)=(0,true);unfold cM at m2 ⊢
   split at m2
   ·rename_i h;rw [if_pos h]
   ·cases m2
def rX(f:List Int→Int × Bool)(S:Lqq)(t:Int):Nat:=(S.filter fun j => !(f j).2 && decide ((f j).1<t)).length
theorem aRx(hs:sk.Pairwise fun a b=>a.getD 0 0<b.getD 0 0)(t:Int):((cE dl oc dc sk).filter (inL t)).length=rX (fun s=>cM dl oc dc (sB s) (sT s)) sk t:=by
 have s1:=rV (f:=fun x:List Int=>x.getD 2 0) (fun x y=>aNc 2 x y) (fK dl oc dc sk)
 have hp:=aXs (ltK 2) (fK dl oc dc sk);unfold cE;rw [oU,gG,aGm _ s1];have z:(fW dl oc dc sk).filter (inL t)=[]:=by
  rw [List.filter_eq_nil_iff];intro y hy;unfold fW at hy
  obtain ⟨s,_,rfl⟩:=dJ.1 hy;simp [inL]
 rw [z,List.filter_map,kQ8,List.length_nil,Nat.add_zero];have e1:∀ (I J:Lqq),(J.filter (inL t ∘ fun x=>[x.getD 0 0,(mD I (x.getD 2 0):Int)+1,x.getD 2 0]))=J.filter fun x=>decide (x.getD 2 0<t):=fun I J=>by
  refine List.filter_congr fun x _ => ?_
  show decide ((mD I (x.getD 2 0):Int)+1 ≠ -1∧x.getD 2 0<t)=decide (x.getD 2 0<t)
  by_cases hx:x.getD 2 0<t
  ·rw [decide_eq_true hx,decide_eq_true ⟨by omega,hx⟩]
  ·rw [decide_eq_false hx,decide_eq_false fun h=>hx h.2]
 rw [e1,(hp.filter _).length_eq];unfold fK rX;rw [List.filter_map,kQ8,List.filter_filter]
 congr 1
 refine List.filter_congr fun s _ => ?_
 show (decide ((cM dl oc dc (sB s) (sT s)).1<t) && !(cM dl oc dc (sB s) (sT s)).2)=_;rw [Bool.and_comm]
def nU(f:List Int→Int × Bool)(S:Lqq)(k:List Int):Int:=if (f k).2 then -1 else 1+(rX f S (f k).1:Int)
theorem bRy(hs:sk.Pairwise fun a b=>a.getD 0 0<b.getD 0 0){k:List Int}(hk:k∈sk) :
  (cE dl oc dc sk).find? (fun y=>decide (y.getD 0 0=k.getD 0 0))=some [k.getD 0 0,nU (fun s=>cM dl oc dc (sB s) (sT s)) sk k,(cM dl oc dc (sB k) (sT k)).1]:=by
 obtain ⟨_,q2,q3⟩:=aRw (dl:=dl) (oc:=oc) (dc:=dc) hs;have hn:(aP sk 0).Nodup:=by
  unfold aP;rw [List.Nodup,List.pairwise_map];exact hs.imp fun h=>by omega
 cases hf:(cE dl oc dc sk).find? (fun y=>decide (y.getD 0 0=k.getD 0 0)) with
 | none =>
  exfalso
  have hno:=aCc.1 hf;have hno':∀ y∈cE dl oc dc sk,y.getD 0 0≠k.getD 0 0:=fun y hy e=>hno y hy (decide_eq_true e)
  cases ho:(cM dl oc dc (sB k) (sT k)).2 with
  | true =>
   refine hno' [sB k,-1,0] (zG _ ?_) rfl;unfold fW;exact dJ.2 ⟨k,kW.2 ⟨hk,ho⟩,rfl⟩
  | false =>
   have s1:=rV (f:=fun x:List Int=>x.getD 2 0) (fun x y=>aNc 2 x y) (fK dl oc dc sk)
   have hm:[sB k,0,(cM dl oc dc (sB k) (sT k)).1]∈isort (ltK 2) (fK dl oc dc sk):=by
    rw [vE];unfold fK;exact dJ.2 ⟨k,kW.2 ⟨hk,by rw [ho];rfl⟩,rfl⟩
   have hmem:[sB k,(mD (isort (ltK 2) (fK dl oc dc sk)) (cM dl oc dc (sB k) (sT k)).1:Int)+1,(cM dl oc dc (sB k) (sT k)).1]∈cE dl oc dc sk:=by
    unfold cE;rw [aGm _ s1];exact oT _ (dJ.2 ⟨_,hm,rfl⟩)
   exact hno' _ hmem rfl
 | some y =>
  have hy:=rD hf;have hb:y.getD 0 0=k.getD 0 0:=by simpa using aHh hf
  obtain ⟨y0,y1,y2,rfl⟩:=len3 (nT y hy);obtain ⟨s,h1,h2,h3⟩:=q3 _ hy;obtain rfl:s=k:=aLw hn h1 hk (h2.trans hb);have h3':cM dl oc dc (sB s) (sT s)=(y2,decide (y1 = -1)):=h3;have hb':y0=s.getD 0 0:=hb;rw [Option.some.injEq,hb',h3']
  congr 2
  unfold nU;dsimp only
  by_cases hy1:y1 = -1
  ·rw [if_pos (by rw [h3'];exact decide_eq_true hy1)];exact hy1
  ·rw [if_neg (by rw [h3'];simpa using hy1),h3']
   have:=q2 _ hy hy1;rw [aRx hs] at this
   exact this
end
theorem bRz{sk:Lqq}(hn:(aP sk 0).Nodup){s:List Int}(hs:s∈sk):∃ i:Nat,kB sk (s.getD 0 0)=(i:Int)∧sk[i]? = some s:=by
 rcases bHq sk (s.getD 0 0) with ⟨i,x,h1,h2,h3⟩ | ⟨_,h2⟩
 ·exact ⟨i,h1,by rw [h2,aLw hn (kQ1 h2) hs h3]⟩
 ·exact absurd (dJ.2 ⟨s,hs,rfl⟩) h2
end
section
section
variable {dl:Int} {sk dc:Lqq}
theorem aXv{l:Lqq}(hn:(aP l 0).Nodup)(hs:l.Pairwise fun a b=>a.getD 0 0≤b.getD 0 0):aB l=l:=(aFh hn (List.Perm.refl _) hs).symm
theorem aKh(h:bZ dl sk dc)(q:List Int):bZ dl (aB sk) (cX (aB dc) q):=by
 refine h.sub (cW sk) (r:=(aB dc).filter fun x => !(!(!(q.contains (x.getD 0 0))))) ?_
 exact (List.filter_append_perm (fun x => !(!(q.contains (x.getD 0 0)))) (aB dc)).trans (cW dc)
theorem aXw(h:bZ dl sk dc)(q:List Int):aB (cX (aB dc) q)=cX (aB dc) q:=aXv (aKh h q).nd ((iO dc).sublist List.filter_sublist)
def aRt(dl:Int)(D:Lqq)(q:List Int)(s0 s1:Int):Bool:=decide ((cM dl [] (cX D q) s0 s1).1=(cM dl [] D s0 s1).1) && ((cM dl [] (cX D q) s0 s1).2 == (cM dl [] D s0 s1).2)
theorem bRk(h:bZ dl sk dc){bib:Int}{i:Nat}{s0 s1:Int}(hp:kB (aB sk) bib=(i:Int))(hs:(aB sk)[i]? = some [s0,s1]){q:List Int}(hq:q.length≤1000)(ha:∀ n∈q,∃ x∈aB dc,dN x=n){base:Nat}:FV Tp 65 [.p (.agg (aX dl sk dc)),.p (aA bib),.p (aG q)] base (.tup [.p (blP (aRt dl (aB dc) q s0 s1)),.p (aA 0)]) []:=by
 have hd:=fV h;have hE:=aKh h q;have hdE:=fV hE;obtain ⟨_,_,h3,_⟩:=mU h;have hrg:=h3 _ (kQ1 hs);have hrg : -1≤s1∧s1≤360000:=hrg;have hin:∀ n∈q,bD (aB dc)∧inR n:=fun n hn=>by
  obtain ⟨x,hx,e⟩:=ha n hn;have:=cF hd hx;exact ⟨hd,by unfold inR;omega⟩
 have hat:q.all (atB (aB dc))=true:=gQ.2 fun n hn=>by
  obtain ⟨x,hx,e⟩:=ha n hn;exact List.any_eq_true.2 ⟨x,hx,by rw [e];exact beq_self_eq_true _⟩
 obtain ⟨T1,_,c1⟩:=aQr (sk:=aB sk) (ov:=bM) (oc:=[]) (dl:=dl) hd lQ s0 s1 hrg cA.nil;obtain ⟨T2,_,c2⟩:=aQr (sk:=aB (aB sk)) (ov:=bM) (oc:=[]) (dl:=dl) hdE lQ s0 s1 hrg cA.nil;have e:=aXw h q;have hl:(aB dc).length≤1000:=hd.len;unfold aRt
 by_cases ht:(cM dl [] (cX (aB dc) q) s0 s1).1=(cM dl [] (aB dc) s0 s1).1
 ·rw [decide_eq_true ht,gS]
  refine cHw h hp hs hq hin hat hd.ud hl hE c1 c2 ?_ ?_
  ·rw [e];exact ht
  ·rw [e]
 ·rw [decide_eq_false ht,Bool.false_and]
  refine cHx h hp hs hq hin hat hd.ud hl hE c1 c2 ?_;rw [e];exact ht
end
end
section
section
variable {dl:Int} {sk dc:Lqq} {q:List Int}
theorem bTl(hd:bD dc){i:Nat}{x:List Int}(h:dc[i]? = some x):∃ la op by_ fr,((bH dl q dc).map (bR dl))[i]? = some (la,dA dl q dc x,op,nQ dl q dc x,kY dl q dc x,by_,fr):=by
 obtain ⟨s,h1,h2,h3⟩:=bOe (dl:=dl) (oc:=q) hd h;refine ⟨iB dl s.x,fA (dK s.x) && (s.cnt && s.rul.isNone),(s.rul.map dN).getD 0,(s.chg.map dN).getD 0,?_⟩;rw [kQ9,h1];show some (bR dl s)=_;have e1:dA dl q dc x=s.cnt:=by unfold dA;rw [h3]
 have e2:nQ dl q dc x=s.upd:=by unfold nQ;rw [h3]
 have e3:kY dl q dc x=s.much:=by unfold kY;rw [h3]
 rw [e1,e2,e3];rfl
theorem bTm(hd:bD dc){bib tm:Int}{ot:Bool}{i:Nat}{x:List Int}(hx:dc[i]? = some x)(ht : -1-36000*(i:Int)≤tm∧tm≤360000+43200000*(i:Int)) :
  (-1-36000*((i+1:Nat):Int)≤(vG dl q dc bib (ot,tm) x).2∧(vG dl q dc bib (ot,tm) x).2≤360000+43200000*((i+1:Nat):Int)) ∧
  aC Tp 0 (sub (cd Tryz.f66) [1,1,1,1,0,1,0,0]) (dU dl sk dc bib q tm ot i) .normal (dU dl sk dc bib q (vG dl q dc bib (ot,tm) x).2 (vG dl q dc bib (ot,tm) x).1 (i+1)):=by
 have hlen:=hd.len;have hi:=aL hx;have hll:((bH dl q dc).map (bR dl)).length=dc.length:=by rw [kQ8,gJ]
 have hm:=kQ1 hx;obtain ⟨la,op,b,fr,hr⟩:=bTl (dl:=dl) (q:=q) hd hx;have hb:=bAd (dl:=dl) (oc:=q) hd hm;have h5:=(iA.1 (hd.rng _ hm)).2.1;obtain ⟨y0,k,y2,y3,y4,y5,rfl⟩:=len6 (hd.ud x hm);have h5:0≤k∧k≤9:=h5;have hlt:(i:Int)<((((bH dl q dc).map (bR dl)).length:Nat):Int):=by rw [hll];omega
 have hn:inR (((i+1:Nat):Nat):Int):=aH (by omega)
 by_cases h3:y3=bib
 ·cases hc:dA dl q dc [y0,k,y2,y3,y4,y5] with
  | false =>
   have e:vG dl q dc bib (ot,tm) [y0,k,y2,y3,y4,y5]=(ot,tm):=by
    unfold vG rN;rw [hc];simp
   rw [e];rw [hc] at hr
   exact ⟨by dsimp only;omega,bEc hlt hx hd.ud h3 ⟨by omega,hlt⟩ hr rfl hn rfl⟩
  | true =>
   have hh:rN dl q dc bib [y0,k,y2,y3,y4,y5]=(decide (k≤4) && (!(k == 4) || nQ dl q dc [y0,k,y2,y3,y4,y5])):=by
    unfold rN;rw [hc];show (decide (k≤4) && (y3 == bib && (true && (!(k == 4) || nQ dl q dc [y0,k,y2,y3,y4,y5]))))=_
    rw [h3];simp
   rw [hc] at hr
   unfold vG;rw [hh];revert hr hb;generalize kY dl q dc [y0,k,y2,y3,y4,y5]=m;generalize nQ dl q dc [y0,k,y2,y3,y4,y5]=u;intro hr hb;show (_≤(if _ then (ot || k == 3,byI k tm m) else (ot,tm)).2∧_)∧aC _ _ _ _ _ (dU dl sk dc bib q (if _ then (ot || k == 3,byI k tm m) else (ot,tm)).2 (if _ then (ot || k == 3,byI k tm m) else (ot,tm)).1 (i+1))
   have hk:k=0∨k=1∨k=2∨k=3∨k=4∨4<k:=by omega
   rcases hk with rfl | rfl | rfl | rfl | rfl | h9
   ·simp only [byI]
    simp;refine ⟨by omega,?_⟩
    exact bEd hlt hx hd.ud h3 ⟨by omega,hlt⟩ hr rfl rfl (by unfold inR;omega) (by decide) (by decide) (by decide) hn rfl rfl
   ·simp only [byI]
    simp;refine ⟨by omega,?_⟩
    exact aUe hlt hx hd.ud h3 ⟨by omega,hlt⟩ hr rfl (by decide) (by decide) rfl (by unfold inR;omega) (by decide) (by decide) hn rfl rfl
   ·simp only [byI]
    simp;refine ⟨by omega,?_⟩
    exact aUf hlt hx hd.ud h3 ⟨by omega,hlt⟩ hr rfl (by decide) (by decide) (by decide) rfl (by unfold inR;omega) (by unfold inR;omega) (by decide) hn rfl rfl
   ·simp only [byI]
    simp;refine ⟨by omega,?_⟩
    exact aUg hlt hx hd.ud h3 ⟨by omega,hlt⟩ hr rfl (by decide) (by decide) (by decide) (by decide) rfl hn rfl
   ·simp only [byI]
    cases u with
    | true =>
     simp;refine ⟨by omega,?_⟩
     exact aUc hlt hx hd.ud h3 ⟨by omega,hlt⟩ hr rfl (by decide) rfl rfl (by unfold inR;omega) (by decide) (by decide) (by decide) hn rfl rfl
    | false =>
     simp;refine ⟨by omega,?_⟩
     exact aUd hlt hx hd.ud h3 ⟨by omega,hlt⟩ hr rfl (by decide) rfl rfl (by decide) (by decide) (by decide) hn rfl
   ·have e:decide (k≤4)=false:=decide_eq_false (by omega)
    rw [e,Bool.false_and];refine ⟨by simp;omega,?_⟩
    exact aUh hlt hx hd.ud h3 ⟨by omega,hlt⟩ hr rfl (by omega) (by omega) (by omega) (by omega) (by omega) hn rfl
 ·have e:vG dl q dc bib (ot,tm) [y0,k,y2,y3,y4,y5]=(ot,tm):=by
   have:([y0,k,y2,y3,y4,y5]:List Int).getD 3 0=y3:=rfl;unfold vG rN;rw [show dB [y0,k,y2,y3,y4,y5]=y3 from rfl,show (y3 == bib)=false by simpa using h3];simp
  rw [e];exact ⟨by dsimp only;omega,bEb hlt hx hd.ud h3 hn rfl⟩
theorem cAe(hd:bD dc)(hq:q.length≤1000)(us:uni 2 sk)(hl:sk.length≤1000){bib:Int}{j:Nat}{s0 s1:Int}(hz:bJ (fun x=>decide (x.getD 0 0=bib)) sk=(j:Int))(hs:sk[j]? = some [s0,s1])(hr : -1≤s1∧s1≤360000){base:Nat}:FV Tp 66 [.p (.agg (aX dl sk dc)),.p (aA bib),.p (aG q)] base (.tup [.p (aA (cM dl q dc bib s1).1),.p (blP (cM dl q dc bib s1).2)]) []:=by
 have hll:((bH dl q dc).map (bR dl)).length=dc.length:=by rw [kQ8,gJ]
 have:=aE.range (P:=Tp) (k:=0) (b:=sub (cd Tryz.f66) [1,1,1,1,0,1,0,0]) (e := .exit 0) (fun i (a:Bool × Int)=>dU dl sk dc bib q a.2 a.1 i) (fun a=>dU dl sk dc bib q a.2 a.1 dc.length) (vG dl q dc bib) (fun i a => -1-36000*(i:Int)≤a.2∧a.2≤360000+43200000*(i:Int)) (by simp) dc (a0:=(s1 == -1,s1)) (by dsimp only;omega)
  (fun i x a hx ha=>bTm hd hx ha)
  (fun a _=>aUi (by rw [hll];omega))
 have e0:(s1 == -1)=decide (s1<(0:Int)):=by
  rw [Bool.eq_iff_iff,beq_iff_eq,decide_eq_true_eq];omega
 dsimp only at this
 rw [e0] at this
 unfold cM;unfold bVd;rw [e0];have hs':sk[((j:Int)).toNat]? = some [s0,s1]:=by simpa using hs
 cases h:(dc.foldl (vG dl q dc bib) (decide (s1<(0:Int)),s1)).1 with
 | true =>
  rw [h] at this
  simp only [if_true];exact cAh hd hq us hl hz hs' (by omega) this rfl
 | false =>
  rw [h] at this
  simp only [Bool.false_eq_true,if_false];exact cAi hd hq us hl hz hs' (by omega) this rfl (by split <;> omega)
theorem aEy(a:Lqq)(ha:uni 3 a)(hl:a.length≤1000){base:Nat}:FV Tp 63 [.p (.sl a.length (a.flatten.map aA)),.p (.sl a.length (a.flatten.map aA))] base (.p (blP true)) []:=by
 have:=aE.range (P:=Tp) (k:=0) (b:=sub (cd Tryz.f63) [1,0,1,0,0]) (e := .exit 0) (fun i (_:Unit)=>tJ a a i) (fun _=>tJ a a a.length) (fun u _=>u) (fun _ _=>True) (by simp) a (a0:=()) trivial
  (fun i x _ hx _=>by
   have hi:=aL hx;obtain ⟨x0,x1,x2,rfl⟩:=len3 (ha x (kQ1 hx));exact ⟨trivial,bEe (by omega) hx ha hx ha ⟨rfl,rfl⟩ (by simp [jP,wG]) (aH (by omega)) rfl⟩)
  (fun _ _=>bEf (by omega))
 exact cAj this (by simp)
theorem aEz(a:Lqq)(ha:uni 3 a)(hl:a.length≤1000){base:Nat}:FV Tp 43 [.p (.sl a.length (a.flatten.map aA))] base (.p (.sl a.length (a.flatten.map aA))) []:=by
 have:=aE.range (P:=Tp) (k:=0) (b:=sub (cd Tryz.f43) [1,1,0,1,0,0]) (e := .exit 0) (fun i (o:Lqq)=>tK a o.length (o.flatten.map aA) i) (fun o=>tK a o.length (o.flatten.map aA) a.length) (fun o x=>o++[x]) (fun i o=>o.length=i) (by simp) a (a0:=[]) rfl
  (fun i x o hx ho=>by
   have hi:=aL hx;obtain ⟨x0,x1,x2,rfl⟩:=len3 (ha x (kQ1 hx));exact ⟨by simp [ho],bEg (by omega) hx ha ⟨rfl,by omega⟩ (aH (by omega)) (by simp) (by simp) rfl⟩)
  (fun o _=>bEh (by omega))
 have e:∀ (l o:Lqq),l.foldl (fun o x=>o++[x]) o=o++l:=by
  intro l
  induction l with
  | nil=>intro o;simp
  | cons x l ih=>intro o;rw [nK,ih];simp
 rw [e,List.nil_append] at this
 exact cAk this
theorem cAf(ud:uni 6 dc)(hq:q.length≤1000){i:Nat}{x:List Int}(hx:dc[i]? = some x){o:Lqq}(ho:o.length≤1000) :
  ∃ k',aE Tp 0 (sub (cd Tryz.f68) [1,1,0,1,0,0,1,0,0,1,0,0]) (lF dl sk dc q i o.length (o.flatten.map aA) 0) (.exit 2) (lF dl sk dc q i (if q.contains (dN x) then o++[x] else o).length ((if q.contains (dN x) then o++[x] else o).flatten.map aA) k'):=by
 obtain ⟨x0,x1,x2,x3,x4,x5,rfl⟩:=len6 (ud x (kQ1 hx));have en:dN [x0,x1,x2,x3,x4,x5]=x0:=rfl
 rcases aE.find (P:=Tp) (k:=0) (b:=sub (cd Tryz.f68) [1,1,0,1,0,0,1,0,0,1,0,0]) (fun k=>lF dl sk dc q i o.length (o.flatten.map aA) k) (fun k _=>lF dl sk dc q i (o++[[x0,x1,x2,x3,x4,x5]]).length ((o++[[x0,x1,x2,x3,x4,x5]]).flatten.map aA) k) (lF dl sk dc q i o.length (o.flatten.map aA) q.length) (.exit 2) (.exit 2) (by simp) (by simp) (fun y=>decide (y=x0)) q
  (fun k y hy hp=>by
   have:=aL hy;exact bEl (by omega) hy hx ud (of_decide_eq_false hp) (aH (by omega)) rfl)
  (fun k y hy hp=>by
   have:=aL hy;exact bEk (by omega) hy hx ud (of_decide_eq_true hp) ⟨rfl,by omega⟩ (by simp) (by simp))
  (bEm (by omega)) with ⟨k,y,h1,h2,h3,h4⟩ | ⟨h1,h2,h3⟩
 ·refine ⟨k,?_⟩
  have:q.contains x0=true:=by
   have:=kQ1 h1;rw [of_decide_eq_true h3] at this
   simpa using this
  rw [en,this];exact h4
 ·refine ⟨q.length,?_⟩
  have:q.contains x0=false:=by
   rw [Bool.eq_false_iff];intro hc;have hc:x0∈q:=by simpa using hc
   have:=List.any_eq_false.1 h2 x0 hc;simp at this
  rw [en,this];exact h3
theorem aFa(ud:uni 6 dc)(hl:dc.length≤1000)(hq:q.length≤1000){base:Nat}:FV Tp 68 [.p (.agg (aX dl sk dc)),.p (aG q)] base (.p (.agg (aX dl sk (cX dc q)))) []:=by
  have:=aE.range (P:=Tp) (k:=0) (b:=sub (cd Tryz.f68) [1,1,0,1,0,0]) (e := .exit 0) (fun i (o:Lqq)=>tL dl sk dc q o.length (o.flatten.map aA) i) (fun o=>tL dl sk dc q o.length (o.flatten.map aA) dc.length) (fun o x=>if q.contains (dN x) then o++[x] else o) (fun i o=>o.length≤i) (by simp) dc (a0:=[]) (by simp)
    (fun i x o hx ho=>by
      have hi:=aL hx;obtain ⟨k',hk⟩:=cAf (dl:=dl) (sk:=sk) ud hq hx (o:=o) (by omega)
      refine ⟨by show (if q.contains (dN x)=true then o++[x] else o).length≤i+1;split;· rw [gG,List.length_singleton];omega
                 · omega,?_⟩
      exact bEi (o':=if q.contains (dN x) then o++[x] else o) (by omega) hk (aH (by omega)) rfl rfl rfl)
    (fun o _=>bEj (by omega))
  have e:∀ (l o:Lqq),l.foldl (fun o x=>if q.contains (dN x) then o++[x] else o) o=o++cX l q:=by
    intro l
    induction l with
    | nil=>intro o;simp [cX]
    | cons x l ih =>
      intro o;rw [nK,ih];have en:x.getD 0 0=dN x:=rfl;unfold cX;rw [List.filter_cons,en];cases h:q.contains (dN x) with
      | true=>simp
      | false=>simp
  rw [e,List.nil_append] at this
  exact cAl this
theorem cAg(ud:uni 6 dc)(hl:dc.length≤1000)(hq:q.length≤1000)(hn:∀ x∈dc,q.contains (dN x)=false){base:Nat}:FV Tp 68 [.p (.agg (aX dl sk dc)),.p (aG q)] base (.p (.agg [aA dl,.sl sk.length (sk.flatten.map aA),bM])) []:=by
 have:=aE.range (P:=Tp) (k:=0) (b:=sub (cd Tryz.f68) [1,1,0,1,0,0]) (e := .exit 0) (fun i (_:Unit)=>tM dl sk dc q i) (fun _=>tM dl sk dc q dc.length) (fun u _=>u) (fun _ _=>True) (by simp) dc (a0:=()) trivial
  (fun i x _ hx _=>by
   have hi:=aL hx;have hm:=kQ1 hx;have hnx:=hn x hm;obtain ⟨x0,x1,x2,x3,x4,x5,rfl⟩:=len6 (ud x hm);have hk:=aE.range (P:=Tp) (k:=0) (b:=sub (cd Tryz.f68) [1,1,0,1,0,0,1,0,0,1,0,0]) (e := .exit 2) (fun k (_:Unit)=>tN dl sk dc q i k) (fun _=>tN dl sk dc q i q.length) (fun u _=>u) (fun _ _=>True) (by simp) q (a0:=()) trivial
    (fun k y _ hy _=>by
     have:=aL hy;refine ⟨trivial,bEp (by omega) hy hx ud (fun e => ?_) (aH (by omega)) rfl⟩
     have hc:q.contains x0=false:=hnx;have hy2:=kQ1 hy;rw [e] at hy2
     rw [List.contains_eq_mem,decide_eq_false_iff_not] at hc
     exact hc hy2)
    (fun _ _=>bEq (by omega))
   exact ⟨trivial,bEn (by omega) hk (aH (by omega)) rfl⟩)
  (fun _ _=>bEo (by omega))
 exact cAm this
end
end
section
variable {b106:Bool}{p s103 s104 t105 y100 y101 y300 y301 y302 y303 y304 y305 y500 y501 y502 y600 y601 y602:Int}{o ls o' ls' ls'2:Lqq}{q:List Int}{i j k i' j' k' j102:Nat}
variable {dl:Int}{sk dc:Lqq}

noncomputable abbrev zL:Code:=sub (cd Tryz.f39) [1,1,1,0,1,0,0,1,0,0,1,0,0]
noncomputable abbrev aLr:Code:=sub (cd Tryz.f39) [1,1,0,1,0,0]
noncomputable abbrev aLs:Code:=sub (cd Tryz.f39) [1,1,1,1,1,1,0,1,0,0]
noncomputable abbrev aLt:Code:=sub (cd Tryz.f39) [1,1,1,1,1,0,1,0,0,1,0,0,1,0,0]
noncomputable abbrev aTz:Code:=sub (cd Tryz.f39) [1,1,1,0,1,0,0]
noncomputable abbrev aUa:Code:=sub (cd Tryz.f39) [1,1,1,1,1,0,1,0,0]
theorem oY{q:List Int}(hd:bD dc)(hq:q.length≤1000)(us:uni 2 sk)(hl:sk.length≤1000){bib:Int}{j:Nat}{s0 s1 t:Int}{b:Bool}(hz:bJ (fun x=>decide (x.getD 0 0=bib)) sk=(j:Int))(hs:sk[j]? = some [s0,s1])(hr : -1≤s1∧s1≤360000)(ht:cM dl q dc bib s1=(t,b)){base:Nat}:FV Tp 66 [.p (.agg (aX dl sk dc)),.p (aA bib),.p (aG q)] base (.tup [.p (aA t),.p (blP b)]) []:=by
 have:=cAe (dl:=dl) hd hq us hl hz hs hr (base:=base);rw [ht] at this
 exact this
def nL(dl:Int)(sk:Lqq)(dc:Lqq)(q:List Int)(lsn:Nat)(lsc:List PV)(i:Nat):St:=⟨fr 141 [(1,(.p (aG q))),(2,(.ptr 0 0)),(4,(.p bM)),(5,(.own 1)),(6,(pI (i:Int)))],[some (.box 61 [(pI dl),(.p (fS sk)),(.p (fS dc))]),some (.row 76 lsn lsc)]⟩
def tH(lsn:Nat)(lsc:List PV)(i:Nat):St:=⟨fr 141 [(4,(.p bM)),(5,(.own 0)),(11,(pI (i:Int)))],[some (.row 76 lsn lsc)]⟩
def tI(ls'2:Lqq)(on:Nat)(oc:List PV)(p:Int):St:=⟨fr 141 [(4,(.p bM)),(5,(.own 0)),(13,(.own 1)),(14,(pI p))],[some (.row 76 ls'2.length (ls'2.flatten.map aA)),some (.row 76 on oc)]⟩
def oZ(ls'2:Lqq)(on:Nat)(oc:List PV)(i:Nat):St:=⟨fr 141 [(4,(.p bM)),(5,(.own 0)),(13,(.own 1)),(16,(pI (i:Int)))],[some (.row 76 ls'2.length (ls'2.flatten.map aA)),some (.row 76 on oc)]⟩
theorem cAd{ls'0:Lqq}{i'1:Nat}{i'3:Nat}{o'4:Lqq}{p'5:Int}{o'6:Lqq}{i'7:Nat}(hl0:aE Tp 0 aLr (nL dl sk dc q 0 [] 0) (.exit 0) (nL dl sk dc q ls'0.length (ls'0.flatten.map aA) i'1))(hl1:aE Tp 0 aTz (tH  ls'0.length (ls'0.flatten.map aA) 0) (.exit 2) (tH  ls'2.length (ls'2.flatten.map aA) i'3))(hl2:aE Tp 0 aUa (tI ls'2 0 [] 1) (.exit 6) (tI ls'2 o'4.length (o'4.flatten.map aA) p'5))(hl3:aE Tp 0 aLs (oZ ls'2 o'4.length (o'4.flatten.map aA) 0) (.exit 10) (oZ ls'2 o'6.length (o'6.flatten.map aA) i'7)){base:Nat}:FV Tp 39 [(.p (.agg (aX dl sk dc))),(.p (aG q))] base (.p (fS o'6)) []:=by
 exact FV.frz (FMM.fi 0 ⟨[],[],[1],[]⟩ Tryz.func39 [hl0.k 8 (gN [0,1,3,1,7,4,17,124] [0,1] [(5,76)]),hl1.k 4 (gI [0,4,6,5,12,1,17,124] [1]),hl2.k 6 (gN [0,4,6,7,15,1,17,124] [0,1] [(13,76)]),hl3.k 4 (gI [0,4,6,7,14,2,17,124] [0,1])] (gc hl3.code (gc hl2.code (gc hl1.code (gc hl0.code gn))))) (by kernel_rfl)
theorem bDj(h0:(i:Int)<(sk.length:Int))(h1:sk[i]? = some [y100,y101])(h2:uni 2 sk)(h3:bD dc)(h4:q.length≤1000)(h5:sk.length≤1000)(h6:bJ (fun x=>decide (x.getD 0 0=y100)) sk=(j102:Int))(h7:sk[j102]? = some [s103,s104])(h8 : -1≤s104∧s104≤360000)(h9:cM dl q dc y100 s104=(t105,b106))(h10:b106=true)(h11:[(aA y100),(aA (-1)),(aA t105)].length=1*3∧ls.length+1≤1000000)(h12:inR (((i+1):Nat):Int))(els'n:ls'.length=(ls.length+1))(els'c:ls'.flatten.map aA=((ls.flatten.map aA)++[(aA y100),(aA (-1)),(aA t105)]))(ei':i'=(i+1)):aC Tp 0 aLr (nL dl sk dc q ls.length (ls.flatten.map aA) i) .normal (nL dl sk dc q ls'.length (ls'.flatten.map aA) i'):=by
 subst ei';have k1:=fk 2 (oY h3 h4 h2 h5 h6 h7 h8 h9) rfl;rw [els'n,els'c];exact aC.fi (gI [0,1,3,1,7,4,17,124] [0,4]) [bT,.x (aA y100),k1.o,bT] (gc h12 (gc h11 (gt ([(aA y100),(aA (-1)),(aA t105)].length=3) (by first | decide | simp) (gc h10 (gc k1 (gt ((sk.flatten.map aA)[(i*2)]? = some (aA y100)) (bE (i:=i) (f:=0) h2 h1 rfl) (gc (fQ (k:=2) (i:=(i:Int)) (by decide) h2 (kQ5 _) h1) (gc (aK h0) gn))))))))
theorem bDk(h0:(i:Int)<(sk.length:Int))(h1:sk[i]? = some [y100,y101])(h2:uni 2 sk)(h3:bD dc)(h4:q.length≤1000)(h5:sk.length≤1000)(h6:bJ (fun x=>decide (x.getD 0 0=y100)) sk=(j102:Int))(h7:sk[j102]? = some [s103,s104])(h8 : -1≤s104∧s104≤360000)(h9:cM dl q dc y100 s104=(t105,b106))(h10:b106=false)(h11:[(aA y100),(aA 1),(aA t105)].length=1*3∧ls.length+1≤1000000)(h12:inR (((i+1):Nat):Int))(els'n:ls'.length=(ls.length+1))(els'c:ls'.flatten.map aA=((ls.flatten.map aA)++[(aA y100),(aA 1),(aA t105)]))(ei':i'=(i+1)):aC Tp 0 aLr (nL dl sk dc q ls.length (ls.flatten.map aA) i) .normal (nL dl sk dc q ls'.length (ls'.flatten.map aA) i'):=by
 subst ei';have k1:=fk 2 (oY h3 h4 h2 h5 h6 h7 h8 h9) rfl;rw [els'n,els'c];exact aC.fi (gI [0,1,3,1,7,4,17,124] [0,4]) [bT,.x (aA y100),k1.o,bF] (gc h12 (gc h11 (gt ([(aA y100),(aA 1),(aA t105)].length=3) (by first | decide | simp) (gc h10 (gc k1 (gt ((sk.flatten.map aA)[(i*2)]? = some (aA y100)) (bE (i:=i) (f:=0) h2 h1 rfl) (gc (fQ (k:=2) (i:=(i:Int)) (by decide) h2 (kQ5 _) h1) (gc (aK h0) gn))))))))
theorem bDl(h0:(sk.length:Int)≤(i:Int)):aC Tp 0 aLr (nL dl sk dc q ls.length (ls.flatten.map aA) i) (.exit 0) (nL dl sk dc q ls.length (ls.flatten.map aA) i):=by
 exact aC.fi (gI [0,1,3,1,7,4,17,124] [0,1]) [bF] (gc (aN h0) gn)
def jB(i:Nat)(lsn:Nat)(lsc:List PV)(k:Nat):St:=⟨fr 141 [(4,(.p bM)),(5,(.own 0)),(11,(pI (i:Int))),(12,(pI (k:Int)))],[some (.row 76 lsn lsc)]⟩
theorem bDm{ls'200:Lqq}{k'201:Nat}(h0:(i:Int)<(ls.length:Int))(hl1:aE Tp 0 zL (jB i ls.length (ls.flatten.map aA) 0) (.exit 4) (jB i ls'200.length (ls'200.flatten.map aA) k'201))(h2:inR (((i+1):Nat):Int))(els'n:ls'.length=ls'200.length)(els'c:ls'.flatten.map aA=(ls'200.flatten.map aA))(ei':i'=(i+1)):aC Tp 0 aTz (tH  ls.length (ls.flatten.map aA) i) .normal (tH  ls'.length (ls'.flatten.map aA) i'):=by
 subst ei';rw [els'n,els'c];exact aC.fi (gI [0,4,6,5,12,1,17,124] [0]) [bT,hl1.k 5 (gI [0,4,6,5,17,124] [0])] (gc h2 (gc hl1.code (gc (aK h0) gn)))
theorem bDn(h0:(ls.length:Int)≤(i:Int)):aC Tp 0 aTz (tH  ls.length (ls.flatten.map aA) i) (.exit 2) (tH  ls.length (ls.flatten.map aA) i):=by
 exact aC.fi (gI [0,4,6,5,12,1,17,124] [0]) [bF] (gc (aN h0) gn)
def pA(ls'2:Lqq)(p:Int)(on:Nat)(oc:List PV)(j:Nat):St:=⟨fr 141 [(4,(.p bM)),(5,(.own 0)),(13,(.own 1)),(14,(pI p)),(15,(pI (j:Int)))],[some (.row 76 ls'2.length (ls'2.flatten.map aA)),some (.row 76 on oc)]⟩
theorem bDo{o'400:Lqq}{j'401:Nat}{p':Int}(h0:p≤(ls'2.length:Int))(hl1:aE Tp 0 aLt (pA ls'2 p o.length (o.flatten.map aA) 0) (.exit 8) (pA ls'2 p o'400.length (o'400.flatten.map aA) j'401))(h2:inR (p+1))(eo'n:o'.length=o'400.length)(eo'c:o'.flatten.map aA=(o'400.flatten.map aA))(ep':p'=(p+1)):aC Tp 0 aUa (tI ls'2 o.length (o.flatten.map aA) p) .normal (tI ls'2 o'.length (o'.flatten.map aA) p'):=by
 subst ep';rw [eo'n,eo'c];exact aC.fi (gI [0,4,6,7,15,1,17,124] [0,1]) [bT,hl1.k 5 (gI [0,4,6,7,17,124] [0,1])] (gc h2 (gc hl1.code (gc (rG h0) gn)))
theorem bDp(h0:(ls'2.length:Int)<p):aC Tp 0 aUa (tI ls'2 o.length (o.flatten.map aA) p) (.exit 6) (tI ls'2 o.length (o.flatten.map aA) p):=by
 exact aC.fi (gI [0,4,6,7,15,1,17,124] [0,1]) [bF] (gc (mH h0) gn)
theorem bDq(h0:(i:Int)<(ls'2.length:Int))(h1:ls'2[i]? = some [y600,y601,y602])(h2:uni 3 ls'2)(h3:y601<0)(h4:[(aA y600),(aA y601),(aA y602)].length=1*3∧o.length+1≤1000000)(h5:inR (((i+1):Nat):Int))(eo'n:o'.length=(o.length+1))(eo'c:o'.flatten.map aA=((o.flatten.map aA)++[(aA y600),(aA y601),(aA y602)]))(ei':i'=(i+1)):aC Tp 0 aLs (oZ ls'2 o.length (o.flatten.map aA) i) .normal (oZ ls'2 o'.length (o'.flatten.map aA) i'):=by
 subst ei';rw [eo'n,eo'c];exact aC.fi (gI [0,4,6,7,14,2,17,124] [0,3]) [bT,.x (aA y601),bT,.x (.agg [(aA y600),(aA y601),(aA y602)])] (gc h5 (gc h4 (gt ([(aA y600),(aA y601),(aA y602)].length=3) (by first | decide | simp) (gc (gY (i:=i) h2 h1) (gc (jL (i:=i) h2 h1) (gc (bX (i:=(i:Int)) (kQ5 _) h1) (gc (aK h3) (gt ((ls'2.flatten.map aA)[((i*3)+1)]? = some (aA y601)) (bE (i:=i) (f:=1) h2 h1 rfl) (gc (bX (i:=(i:Int)) (kQ5 _) h1) (gc (aK h0) gn))))))))))
theorem bDr(h0:(i:Int)<(ls'2.length:Int))(h1:ls'2[i]? = some [y600,y601,y602])(h2:uni 3 ls'2)(h3:(0:Int)≤y601)(h4:inR (((i+1):Nat):Int))(ei':i'=(i+1)):aC Tp 0 aLs (oZ ls'2 o.length (o.flatten.map aA) i) .normal (oZ ls'2 o.length (o.flatten.map aA) i'):=by
 subst ei';exact aC.fi (gI [0,4,6,7,14,2,17,124] [0,1]) [bT,.x (aA y601),bF] (gc h4 (gc (aN h3) (gt ((ls'2.flatten.map aA)[((i*3)+1)]? = some (aA y601)) (bE (i:=i) (f:=1) h2 h1 rfl) (gc (bX (i:=(i:Int)) (kQ5 _) h1) (gc (aK h0) gn)))))
theorem bDs(h0:(ls'2.length:Int)≤(i:Int)):aC Tp 0 aLs (oZ ls'2 o.length (o.flatten.map aA) i) (.exit 10) (oZ ls'2 o.length (o.flatten.map aA) i):=by
 exact aC.fi (gI [0,4,6,7,14,2,17,124] [0,1]) [bF] (gc (aN h0) gn)
theorem bDt(h0:(k:Int)<(ls.length:Int))(h1:ls[i]? = some [y300,y301,y302])(h2:uni 3 ls)(h3:(0:Int)<y301)(h4:ls[k]? = some [y303,y304,y305])(h5:(0:Int)<y304)(h6:y305<y302)(h7:inR (y301+1))(h8:((i*3)+1)<(ls.flatten.map aA).length)(h9:inR (((k+1):Nat):Int))(els'n:ls'.length=ls.length)(els'c:ls'.flatten.map aA=((ls.flatten.map aA).set ((i*3)+1) (aA (y301+1))))(ek':k'=(k+1)):aC Tp 0 zL (jB i ls.length (ls.flatten.map aA) k) .normal (jB i ls'.length (ls'.flatten.map aA) k'):=by
 subst ek';rw [els'n,els'c];exact aC.fi (gI [0,4,6,5,17,124] [0]) ([bT,.x (aA y301)]++rT 5++[.x (aA y304)]++rT 7++[.x (aA y305)]++rT 5++[.x (aA y302),bT,bT,bT,.x (aA y301)]) (gc h9 (gc h8 (gc (bX (i:=(i:Int)) (kQ5 _) h1) (gc h7 (gt ((ls.flatten.map aA)[((i*3)+1)]? = some (aA y301)) (bE (i:=i) (f:=1) h2 h1 rfl) (gc (bX (i:=(i:Int)) (kQ5 _) h1) (gc (aK h6) (g2c (aK h5) (gt ((ls.flatten.map aA)[((i*3)+2)]? = some (aA y302)) (bE (i:=i) (f:=2) h2 h1 rfl) (g2c (aK h5) (gc (bX (i:=(i:Int)) (kQ5 _) h1) (g3c (aK h5) (gt ((ls.flatten.map aA)[((k*3)+2)]? = some (aA y305)) (bE (i:=k) (f:=2) h2 h4 rfl) (g2c (aK h5) (gc (bX (i:=(k:Int)) (kQ5 _) h4) (g3c (aK h5) (g2c (aK h3) (gt ((ls.flatten.map aA)[((k*3)+1)]? = some (aA y304)) (bE (i:=k) (f:=1) h2 h4 rfl) (g2c (aK h3) (gc (bX (i:=(k:Int)) (kQ5 _) h4) (g3c (aK h3) (gt ((ls.flatten.map aA)[((i*3)+1)]? = some (aA y301)) (bE (i:=i) (f:=1) h2 h1 rfl) (gc (bX (i:=(i:Int)) (kQ5 _) h1) (gc (aK h0) gn))))))))))))))))))))))))
theorem bDu(h0:(k:Int)<(ls.length:Int))(h1:ls[i]? = some [y300,y301,y302])(h2:uni 3 ls)(h3:(0:Int)<y301)(h4:ls[k]? = some [y303,y304,y305])(h5:(0:Int)<y304)(h6:y302≤y305)(h7:inR (((k+1):Nat):Int))(ek':k'=(k+1)):aC Tp 0 zL (jB i ls.length (ls.flatten.map aA) k) .normal (jB i ls.length (ls.flatten.map aA) k'):=by
 subst ek';exact aC.fi (gI [0,4,6,5,17,124] [0]) ([bT,.x (aA y301)]++rT 5++[.x (aA y304)]++rT 7++[.x (aA y305)]++rT 5++[.x (aA y302),bT,bT,bF]) (gc h7 (gc (aN h6) (g2c (aK h5) (gt ((ls.flatten.map aA)[((i*3)+2)]? = some (aA y302)) (bE (i:=i) (f:=2) h2 h1 rfl) (g2c (aK h5) (gc (bX (i:=(i:Int)) (kQ5 _) h1) (g3c (aK h5) (gt ((ls.flatten.map aA)[((k*3)+2)]? = some (aA y305)) (bE (i:=k) (f:=2) h2 h4 rfl) (g2c (aK h5) (gc (bX (i:=(k:Int)) (kQ5 _) h4) (g3c (aK h5) (g2c (aK h3) (gt ((ls.flatten.map aA)[((k*3)+1)]? = some (aA y304)) (bE (i:=k) (f:=1) h2 h4 rfl) (g2c (aK h3) (gc (bX (i:=(k:Int)) (kQ5 _) h4) (g3c (aK h3) (gt ((ls.flatten.map aA)[((i*3)+1)]? = some (aA y301)) (bE (i:=i) (f:=1) h2 h1 rfl) (gc (bX (i:=(i:Int)) (kQ5 _) h1) (gc (aK h0) gn)))))))))))))))))))
theorem bDv(h0:(k:Int)<(ls.length:Int))(h1:ls[i]? = some [y300,y301,y302])(h2:uni 3 ls)(h3:(0:Int)<y301)(h4:ls[k]? = some [y303,y304,y305])(h5:y304≤0)(h6:inR (((k+1):Nat):Int))(ek':k'=(k+1)):aC Tp 0 zL (jB i ls.length (ls.flatten.map aA) k) .normal (jB i ls.length (ls.flatten.map aA) k'):=by
 subst ek';exact aC.fi (gI [0,4,6,5,17,124] [0]) ([bT,.x (aA y301)]++rT 5++[.x (aA y304),bT,bT]++rF 12) (gc h6 (g8c (aN h5) (g4c (aN h5) (g2c (aK h3) (gt ((ls.flatten.map aA)[((k*3)+1)]? = some (aA y304)) (bE (i:=k) (f:=1) h2 h4 rfl) (g2c (aK h3) (gc (bX (i:=(k:Int)) (kQ5 _) h4) (g3c (aK h3) (gt ((ls.flatten.map aA)[((i*3)+1)]? = some (aA y301)) (bE (i:=i) (f:=1) h2 h1 rfl) (gc (bX (i:=(i:Int)) (kQ5 _) h1) (gc (aK h0) gn)))))))))))
theorem bDw(h0:(k:Int)<(ls.length:Int))(h1:ls[i]? = some [y300,y301,y302])(h2:uni 3 ls)(h3:y301≤0)(h4:inR (((k+1):Nat):Int))(ek':k'=(k+1)):aC Tp 0 zL (jB i ls.length (ls.flatten.map aA) k) .normal (jB i ls.length (ls.flatten.map aA) k'):=by
 subst ek';exact aC.fi (gI [0,4,6,5,17,124] [0]) ([bT,.x (aA y301)]++rF 7) (gc h4 (g7c (aN h3) (gt ((ls.flatten.map aA)[((i*3)+1)]? = some (aA y301)) (bE (i:=i) (f:=1) h2 h1 rfl) (gc (bX (i:=(i:Int)) (kQ5 _) h1) (gc (aK h0) gn)))))
theorem bDx(h0:(ls.length:Int)≤(k:Int)):aC Tp 0 zL (jB i ls.length (ls.flatten.map aA) k) (.exit 4) (jB i ls.length (ls.flatten.map aA) k):=by
 exact aC.fi (gI [0,4,6,5,17,124] [0]) [bF] (gc (aN h0) gn)
theorem bDy(h0:(j:Int)<(ls'2.length:Int))(h1:ls'2[j]? = some [y500,y501,y502])(h2:uni 3 ls'2)(h3:y501=p)(h4:[(aA y500),(aA y501),(aA y502)].length=1*3∧o.length+1≤1000000)(h5:inR (((j+1):Nat):Int))(eo'n:o'.length=(o.length+1))(eo'c:o'.flatten.map aA=((o.flatten.map aA)++[(aA y500),(aA y501),(aA y502)]))(ej':j'=(j+1)):aC Tp 0 aLt (pA ls'2 p o.length (o.flatten.map aA) j) .normal (pA ls'2 p o'.length (o'.flatten.map aA) j'):=by
 subst ej';rw [eo'n,eo'c];exact aC.fi (gI [0,4,6,7,17,124] [0,3]) [bT,.x (aA y501),bT,.x (.agg [(aA y500),(aA y501),(aA y502)])] (gc h5 (gc h4 (gt ([(aA y500),(aA y501),(aA y502)].length=3) (by first | decide | simp) (gc (gY (i:=j) h2 h1) (gc (jL (i:=j) h2 h1) (gc (bX (i:=(j:Int)) (kQ5 _) h1) (gc (bL h3) (gt ((ls'2.flatten.map aA)[((j*3)+1)]? = some (aA y501)) (bE (i:=j) (f:=1) h2 h1 rfl) (gc (bX (i:=(j:Int)) (kQ5 _) h1) (gc (aK h0) gn))))))))))
theorem bDz(h0:(j:Int)<(ls'2.length:Int))(h1:ls'2[j]? = some [y500,y501,y502])(h2:uni 3 ls'2)(h3:y501≠p)(h4:inR (((j+1):Nat):Int))(ej':j'=(j+1)):aC Tp 0 aLt (pA ls'2 p o.length (o.flatten.map aA) j) .normal (pA ls'2 p o.length (o.flatten.map aA) j'):=by
 subst ej';exact aC.fi (gI [0,4,6,7,17,124] [0,1]) [bT,.x (aA y501),bF] (gc h4 (gc (aV h3) (gt ((ls'2.flatten.map aA)[((j*3)+1)]? = some (aA y501)) (bE (i:=j) (f:=1) h2 h1 rfl) (gc (bX (i:=(j:Int)) (kQ5 _) h1) (gc (aK h0) gn)))))
theorem bEa(h0:(ls'2.length:Int)≤(j:Int)):aC Tp 0 aLt (pA ls'2 p o.length (o.flatten.map aA) j) (.exit 8) (pA ls'2 p o.length (o.flatten.map aA) j):=by
 exact aC.fi (gI [0,4,6,7,17,124] [0,1]) [bF] (gc (aN h0) gn)
end
section
theorem aPv{α:Type}{R:α→α→Prop}(ha:∀ a b,R a b→R b a→False):∀ (l l':List α),l.Pairwise R→l'.Pairwise R→(∀ x,x∈l↔x∈l')→l=l'
 | [],[],_,_,_=>rfl
 | [],b::l',_,_,h=>by have:=(h b).2 (by simp);simp at this
 | a::l,[],_,_,h=>by have:=(h a).1 (by simp);simp at this
 | a::l,b::l',h1,h2,h=>by
  obtain ⟨p1,p2⟩:=aHe.1 h1;obtain ⟨q1,q2⟩:=aHe.1 h2;have hab:a=b:=by
   rcases fD.1 ((h a).1 (by simp)) with e | hm
   ·exact e
   ·rcases fD.1 ((h b).2 (by simp)) with e | hm2
    ·exact e.symm
    ·exact absurd (q1 a hm) fun h3=>ha _ _ h3 (p1 b hm2)
  subst hab
  congr 1
  refine aPv ha l l' p2 q2 fun x=>⟨fun hx => ?_,fun hx => ?_⟩
  ·rcases fD.1 ((h x).1 (kQ7 _ hx)) with e | hm
   ·subst e;exact absurd (p1 _ hx) fun h3=>ha _ _ h3 h3
   ·exact hm
  ·rcases fD.1 ((h x).2 (kQ7 _ hx)) with e | hm
   ·subst e;exact absurd (q1 _ hx) fun h3=>ha _ _ h3 h3
   ·exact hm
theorem aTy(a b:List Int)(h1:bBd a b)(h2:bBd b a):False:=by
 unfold bBd at h1 h2
 by_cases hb:b.getD 1 0 = -1
 ·by_cases ha:a.getD 1 0 = -1
  ·have:=h1.1 hb ha;have:=h2.1 ha hb;omega
  ·exact (h2.2 ha).1 hb
 ·obtain ⟨p1,p2,p3⟩:=h1.2 hb
  obtain ⟨q1,q2,q3⟩:=h2.2 p1;have:=p3 (by omega);have:=q3 (by omega);omega
theorem aPw{α β:Type}(g:α→List β):∀ (l:List α) (o:List β),l.foldl (fun o i=>o++g i) o=o++l.flatMap g
 | [],o=>by simp
 | x::l,o=>by rw [nK,aPw g l];simp
section
variable {dl:Int} {sk dc:Lqq} {q:List Int}
abbrev fT(dl:Int)(q:List Int)(dc:Lqq)(s:List Int):Int × Bool:=cM dl q dc (sB s) (sT s)
def wM(dl:Int)(q:List Int)(dc sk:Lqq):Lqq:=sk.map fun s=>[sB s,nU (fT dl q dc) sk s,(fT dl q dc s).1]
def byP(L:Lqq)(n:Nat):Lqq:=((List.range n).flatMap fun (i:Nat)=>L.filter fun x=>decide (x.getD 1 0=(i:Int)+1))++L.filter fun x=>decide (x.getD 1 0<0)
theorem aPx(f:List Int→Int × Bool)(S:Lqq){t u:Int}(h:t≤u):rX f S t≤rX f S u:=by
 unfold rX
 induction S with
 | nil=>simp
 | cons x S ih =>
  rw [List.filter_cons,List.filter_cons]
  split
  ·rename_i h1
   rw [if_pos (by
    simp only [kQ6,decide_eq_true_eq] at h1 ⊢
    exact ⟨h1.1,by omega⟩)]
   simp only [nW];omega
  ·split
   ·simp only [nW];omega
   ·exact ih
theorem bOd(f:List Int→Int × Bool){S:Lqq}{k:List Int}(hk:k∈S)(hi:(f k).2=false){u:Int}(h:(f k).1<u):rX f S (f k).1<rX f S u:=by
 induction S with
 | nil=>cases hk
 | cons x S ih =>
  have hm:=aPx f S (t:=(f k).1) (u:=u) (by omega)
  unfold rX at ih hm ⊢
  rw [List.filter_cons,List.filter_cons]
  rcases fD.1 hk with rfl | hk
  ·rw [if_neg (by simp),if_pos (by simp [hi,h]),nW];omega
  ·have:=ih hk
   split
   ·rename_i h1
    rw [if_pos (by
     simp only [kQ6,decide_eq_true_eq] at h1 ⊢
     exact ⟨h1.1,by omega⟩)]
    simp only [nW];omega
   ·split
    ·simp only [nW];omega
    ·exact this
theorem bTk(f:List Int→Int × Bool){S:Lqq}{k:List Int}(hk:k∈S):rX f S (f k).1<S.length:=by
 unfold rX;rw [List.length_filter_lt_length_iff_exists];exact ⟨k,hk,by simp⟩
theorem uY(f:List Int→Int × Bool)(S:Lqq)(k:List Int):(nU f S k = -1↔(f k).2=true)∧((f k).2=false→nU f S k=1+(rX f S (f k).1:Int)):=by
 unfold nU;cases h:(f k).2 with
 | true=>simp
 | false=>simp;omega
theorem aPy(hs:sk.Pairwise fun a b=>a.getD 0 0<b.getD 0 0){a b:List Int}(ha:a∈wM dl q dc sk)(hb:b∈wM dl q dc sk)(h:a.getD 1 0 ≠ -1)(h2:b.getD 1 0 ≠ -1):(a.getD 1 0<b.getD 1 0→a.getD 2 0<b.getD 2 0)∧(a.getD 1 0=b.getD 1 0→a.getD 2 0=b.getD 2 0):=by
 unfold wM at ha hb
 obtain ⟨s,hsm,rfl⟩:=dJ.1 ha;obtain ⟨u,hum,rfl⟩:=dJ.1 hb;have h:nU (fT dl q dc) sk s ≠ -1:=h;have h2:nU (fT dl q dc) sk u ≠ -1:=h2;obtain ⟨p1,p2⟩:=uY (fT dl q dc) sk s;obtain ⟨q1,q2⟩:=uY (fT dl q dc) sk u;have hsf:(fT dl q dc s).2=false:=by
  cases hh:(fT dl q dc s).2 with
  | true=>exact absurd (p1.2 hh) h
  | false=>rfl
 have huf:(fT dl q dc u).2=false:=by
  cases hh:(fT dl q dc u).2 with
  | true=>exact absurd (q1.2 hh) h2
  | false=>rfl
 have e1:=p2 hsf;have e2:=q2 huf;show (nU (fT dl q dc) sk s<nU (fT dl q dc) sk u→(fT dl q dc s).1<(fT dl q dc u).1)∧(nU (fT dl q dc) sk s=nU (fT dl q dc) sk u→(fT dl q dc s).1=(fT dl q dc u).1);rw [e1,e2];have m1:=fun h=>aPx (fT dl q dc) sk (t:=(fT dl q dc u).1) (u:=(fT dl q dc s).1) h
 have m2:=fun h=>bOd (fT dl q dc) hsm hsf (u:=(fT dl q dc u).1) h
 have m3:=fun h=>bOd (fT dl q dc) hum huf (u:=(fT dl q dc s).1) h
 constructor
 ·intro h3
  by_cases h4:(fT dl q dc u).1≤(fT dl q dc s).1
  ·have:=m1 h4;omega
  ·omega
 ·intro h3
  by_cases h4:(fT dl q dc s).1<(fT dl q dc u).1
  ·have:=m2 h4;omega
  ·by_cases h5:(fT dl q dc u).1<(fT dl q dc s).1
   ·have:=m3 h5;omega
   ·omega
theorem aPz(hs:sk.Pairwise fun a b=>a.getD 0 0<b.getD 0 0):(wM dl q dc sk).Pairwise fun a b=>a.getD 0 0<b.getD 0 0:=by
 unfold wM;rw [List.pairwise_map];exact hs
theorem cAc(hs:sk.Pairwise fun a b=>a.getD 0 0<b.getD 0 0):byP (wM dl q dc sk) sk.length=cE dl q dc sk:=by
 obtain ⟨r1,r2,r3⟩:=aRw (dl:=dl) (oc:=q) (dc:=dc) hs;have hL:=aPz (dl:=dl) (q:=q) (dc:=dc) hs;have hmem:∀ x,x∈byP (wM dl q dc sk) sk.length↔x∈wM dl q dc sk:=fun x=>by
  unfold byP;rw [jK,List.mem_flatMap,kW];constructor
  ·rintro (⟨i,_,h⟩ | h)
   ·exact (kW.1 h).1
   ·exact h.1
  ·intro hx
   have hx0:=hx;unfold wM at hx
   obtain ⟨s,hsm,rfl⟩:=dJ.1 hx;obtain ⟨p1,p2⟩:=uY (fT dl q dc) sk s;cases hh:(fT dl q dc s).2 with
   | true =>
    refine .inr ⟨hx0,?_⟩;show decide (nU (fT dl q dc) sk s<0)=true;rw [p1.2 hh];rfl
   | false =>
    refine .inl ⟨rX (fT dl q dc) sk (fT dl q dc s).1,oV.2 (bTk _ hsm),kW.2 ⟨hx0,?_⟩⟩;show decide (nU (fT dl q dc) sk s=_)=true;rw [p2 hh,decide_eq_true_eq];omega
 refine aPv aTy _ _ ?_ r1 fun x=>(hmem x).trans ?_
 ·unfold byP
  rw [List.pairwise_append];refine ⟨List.pairwise_flatMap.2 ⟨fun i _ => ?_,?_⟩,?_,?_⟩
  ·refine (List.pairwise_filter.2 (hL.imp_of_mem fun {a b} ha hb h h1 h2 => ?_))
   have h1:=of_decide_eq_true h1;have h2:=of_decide_eq_true h2;have:=(aPy hs ha hb (by omega) (by omega)).2 (by omega)
   exact ⟨fun h3=>by omega,fun _=>⟨by omega,by omega,fun _=>h⟩⟩
  ·refine List.pairwise_lt_range.imp fun {i j} hij=>fun x hx y hy => ?_
   obtain ⟨hx,h1⟩:=kW.1 hx;obtain ⟨hy,h2⟩:=kW.1 hy;have h1:=of_decide_eq_true h1;have h2:=of_decide_eq_true h2;have:=(aPy hs hx hy (by omega) (by omega)).1 (by omega)
   exact ⟨fun h3=>by omega,fun _=>⟨by omega,by omega,fun h=>by omega⟩⟩
  ·refine (List.pairwise_filter.2 (hL.imp_of_mem fun {a b} ha hb h h1 h2 => ?_))
   have h2:=of_decide_eq_true h2;have hb1:b.getD 1 0 = -1:=by
    unfold wM at hb
    obtain ⟨s,_,rfl⟩:=dJ.1 hb;obtain ⟨p1,p2⟩:=uY (fT dl q dc) sk s;cases hh:(fT dl q dc s).2 with
    | true=>exact p1.2 hh
    | false =>
     have:=p2 hh;have h2:nU (fT dl q dc) sk s<0:=h2;omega
   exact ⟨fun _ _=>h,fun h3=>absurd hb1 h3⟩
  ·intro a ha b hb
   obtain ⟨i,_,ha⟩:=List.mem_flatMap.1 ha;obtain ⟨ha,h1⟩:=kW.1 ha;obtain ⟨hb,h2⟩:=kW.1 hb;have h1:=of_decide_eq_true h1;have h2:=of_decide_eq_true h2;have hb1:b.getD 1 0 = -1:=by
    unfold wM at hb
    obtain ⟨s,_,rfl⟩:=dJ.1 hb;obtain ⟨p1,p2⟩:=uY (fT dl q dc) sk s;cases hh:(fT dl q dc s).2 with
    | true=>exact p1.2 hh
    | false =>
     have:=p2 hh;have h2:nU (fT dl q dc) sk s<0:=h2;omega
   exact ⟨fun _ h3=>by omega,fun h3=>absurd hb1 h3⟩
 ·constructor
  ·intro hx
   unfold wM at hx
   obtain ⟨s,hsm,rfl⟩:=dJ.1 hx;exact rD (bRy (dl:=dl) (oc:=q) (dc:=dc) hs hsm)
  ·intro hx
   obtain ⟨s,hsm,e1,e2⟩:=r3 x hx;obtain ⟨a,b,c,rfl⟩:=len3 (nT x hx);have h2:=r2 _ hx;have e1:s.getD 0 0=a:=e1;have e2:cM dl q dc (sB s) (sT s)=(c,decide (b = -1)):=e2;unfold wM;refine dJ.2 ⟨s,hsm,?_⟩;have e3:fT dl q dc s=(c,decide (b = -1)):=e2;obtain ⟨p1,p2⟩:=uY (fT dl q dc) sk s;rw [e3] at p1 p2
   have hb:nU (fT dl q dc) sk s=b:=by
    by_cases hb:b = -1
    ·rw [hb];exact p1.2 (by simp [hb])
    ·have h2:b=1+_:=h2 hb
     rw [aRx hs] at h2
     rw [p2 (by simp [hb]),h2]
     rfl
   rw [hb,e3];show [s.getD 0 0,b,c]=[a,b,c];rw [e1]
end
end
section
section
variable {dl:Int} {sk dc:Lqq} {q:List Int}
def lin0(dl:Int)(q:List Int)(dc:Lqq)(s:List Int):List Int:=[sB s,if (fT dl q dc s).2 then -1 else 1,(fT dl q dc s).1]
def iC(dl:Int)(q:List Int)(dc sk:Lqq)(s:List Int)(k:Nat):Int:=if (fT dl q dc s).2 then -1 else 1+(rX (fT dl q dc) (sk.take k) (fT dl q dc s).1:Int)
theorem cAa(f:List Int→Int × Bool)(S:Lqq)(t:Int):rX f S t≤S.length:=sG _ _
theorem bDi{s x:List Int}{k:Nat}(hx:sk[k]? = some x):iC dl q dc sk s (k+1)=if (fT dl q dc s).2=false∧(fT dl q dc x).2=false∧(fT dl q dc x).1<(fT dl q dc s).1 then iC dl q dc sk s k+1 else iC dl q dc sk s k:=by
 have e:rX (fT dl q dc) (sk.take (k+1)) (fT dl q dc s).1=rX (fT dl q dc) (sk.take k) (fT dl q dc s).1+if (fT dl q dc x).2=false∧(fT dl q dc x).1<(fT dl q dc s).1 then 1 else 0:=by
  unfold rX;rw [List.take_add_one,hx,oU,gG]
  congr 1
  show (List.filter (fun j => !(fT dl q dc j).2 && decide ((fT dl q dc j).1<(fT dl q dc s).1)) [x]).length=_
  rw [List.filter_cons,List.filter_nil];generalize fT dl q dc s=a;generalize fT dl q dc x=b;obtain ⟨b1,b2⟩:=b;cases b2 with
  | true=>simp
  | false =>
   by_cases h:b1<a.1
   ·simp [h]
   ·simp [h]
 unfold iC;rw [e];clear e;generalize rX (fT dl q dc) (sk.take k) (fT dl q dc s).1=c;generalize fT dl q dc s=a;generalize fT dl q dc x=b;obtain ⟨a1,a2⟩:=a;obtain ⟨b1,b2⟩:=b;cases a2 with
 | true=>simp
 | false =>
  cases b2 with
  | true=>simp
  | false =>
   by_cases h:b1<a1
   ·simp [h];omega
   ·simp [h]
theorem yD(s:List Int)(k:Nat):(0<iC dl q dc sk s k↔(fT dl q dc s).2=false):=by
 unfold iC;cases h:(fT dl q dc s).2 with
 | true=>simp
 | false=>simp;omega
theorem bOc(s:List Int)(k:Nat):iC dl q dc sk s k≤1+(sk.length:Int):=by
 have h1:=cAa (fT dl q dc) (sk.take k) (fT dl q dc s).1;have h2:(sk.take k).length≤sk.length:=by rw [lU];omega
 unfold iC
 split <;> omega
theorem aPt(s:List Int):iC dl q dc sk s sk.length=nU (fT dl q dc) sk s:=by
 unfold iC nU;rw [List.take_length]
def LnI(dl:Int)(q:List Int)(dc sk:Lqq)(i:Nat)(g:List Int→Int)(L:Lqq):Prop:=L.length=sk.length∧∀ (j:Nat) (s:List Int),sk[j]? = some s→L[j]? = some [sB s,if j<i then nU (fT dl q dc) sk s else if j=i then g s else iC dl q dc sk s 0,(fT dl q dc s).1]
theorem LnI.uni{i:Nat}{g:List Int→Int}{L:Lqq}(h:LnI dl q dc sk i g L):uni 3 L:=fun x hx=>by
 obtain ⟨j,hj,rfl⟩:=List.mem_iff_getElem.1 hx;have hj2:j<sk.length:=by rw [← h.1];exact hj
 have:=h.2 j sk[j] (kQ0 hj2);rw [kQ0 hj] at this
 rw [Option.some.inj this];rfl
theorem cAb{i:Nat}{s:List Int}(hi:sk[i]? = some s)(hl:sk.length≤1000){L:Lqq}(hL:LnI dl q dc sk i (fun s=>iC dl q dc sk s 0) L) :
  ∃ L',LnI dl q dc sk i (fun s=>iC dl q dc sk s sk.length) L'∧aE Tp 0 (sub (cd Tryz.f39) [1,1,1,0,1,0,0,1,0,0,1,0,0]) (jB i L.length (L.flatten.map aA) 0) (.exit 4) (jB i L'.length (L'.flatten.map aA) sk.length):=by
 have hil:=aL hi;refine aE.ex (P:=Tp) (k:=0) (e := .exit 4) (fun k (L:Lqq)=>jB i L.length (L.flatten.map aA) k) (fun L=>jB i L.length (L.flatten.map aA) sk.length) (fun k L=>LnI dl q dc sk i (fun s=>iC dl q dc sk s k) L) (by simp) sk.length
  (fun k L hk hI => ?_) (fun L hI=>bDx (by rw [hI.1];omega)) hL
 have hu:=hI.uni;have hx:sk[k]? = some sk[k]:=kQ0 hk;have e1:L[i]? = some [sB s,iC dl q dc sk s k,(fT dl q dc s).1]:=by
  have:=hI.2 i s hi;rw [if_neg (by omega),if_pos rfl] at this
  exact this
 have e2:L[k]? = some [sB sk[k],if k<i then nU (fT dl q dc) sk sk[k] else if k=i then iC dl q dc sk sk[k] k else iC dl q dc sk sk[k] 0,(fT dl q dc sk[k]).1]:=hI.2 k _ hx
 have hsu:=bDi (dl:=dl) (q:=q) (dc:=dc) (s:=s) hx;have hp:=yD (dl:=dl) (q:=q) (dc:=dc) (sk:=sk) s k;have hr:=bOc (dl:=dl) (q:=q) (dc:=dc) (sk:=sk) s k;have hkk:(k:Int)<(L.length:Int):=by rw [hI.1];omega
 have hn:inR (((k+1:Nat):Nat):Int):=aH (by omega)
 have same:iC dl q dc sk s (k+1)=iC dl q dc sk s k→LnI dl q dc sk i (fun s=>iC dl q dc sk s (k+1)) L:=fun h=>⟨hI.1,fun j u hj=>by
  have:=hI.2 j u hj
  by_cases hji:j=i
  ·subst hji
   rw [hi] at hj
   cases hj;rw [if_neg (by omega),if_pos rfl]
   show L[j]? = some [sB s,iC dl q dc sk s (k+1),(fT dl q dc s).1];rw [h];exact e1
  ·rw [if_neg hji]
   rw [if_neg hji] at this
   exact this⟩
 have hq:(0:Int)<(if k<i then nU (fT dl q dc) sk sk[k] else if k=i then iC dl q dc sk sk[k] k else iC dl q dc sk sk[k] 0)↔(fT dl q dc sk[k]).2=false:=by
  split
  ·rw [← aPt];exact yD _ _
  ·split
   ·exact yD _ _
   ·exact yD _ _
 revert e2 hq;generalize (if k<i then nU (fT dl q dc) sk sk[k] else if k=i then iC dl q dc sk sk[k] k else iC dl q dc sk sk[k] 0)=pz
 intro e2 hq
 by_cases h1:(0:Int)<iC dl q dc sk s k
 ·by_cases h2:(0:Int)<pz
  ·by_cases h3:(fT dl q dc sk[k]).1<(fT dl q dc s).1
   ·have hv:iC dl q dc sk s (k+1)=iC dl q dc sk s k+1:=by rw [hsu,if_pos ⟨hp.1 h1,hq.1 h2,h3⟩]
    have hle:=jL hu e1;refine ⟨L.set i [sB s,iC dl q dc sk s k+1,(fT dl q dc s).1],⟨by rw [nJ];exact hI.1,fun j u hj => ?_⟩,?_⟩
    ·have:=hI.2 j u hj
     by_cases hji:j=i
     ·subst hji
      rw [hi] at hj
      cases hj;rw [if_neg (by omega),if_pos rfl,aTt (by rw [hI.1];exact hil)]
      show _=some [sB s,iC dl q dc sk s (k+1),(fT dl q dc s).1];rw [hv]
     ·rw [if_neg hji]
      rw [if_neg hji] at this
      rw [bDa (fun e=>hji e.symm)]
      exact this
    ·exact bDt hkk e1 hu h1 e2 h2 h3 (by unfold inR;omega) (by omega) hn (by rw [nJ]) (yR hu e1 _).symm rfl
   ·exact ⟨L,same (by rw [hsu,if_neg (fun h=>h3 h.2.2)]),bDu hkk e1 hu h1 e2 h2 (by omega) hn rfl⟩
  ·exact ⟨L,same (by rw [hsu,if_neg (fun h=>h2 (hq.2 h.2.1))]),bDv hkk e1 hu h1 e2 (by omega) hn rfl⟩
 ·exact ⟨L,same (by rw [hsu,if_neg (fun h=>h1 (hp.2 h.1))]),bDw hkk e1 hu (by omega) hn rfl⟩
theorem aPu(sk:Lqq)(bib:Int):kB sk bib=bJ (fun x=>decide (x.getD 0 0=bib)) sk:=by
 unfold kB aP bJ;rw [List.findIdx?_map]
 congr 2
 funext x
 show decide (bib=x.getD 0 0)=_;rw [Bool.eq_iff_iff,decide_eq_true_eq,decide_eq_true_eq];exact eq_comm
theorem aEx(hd:bD dc)(hq:q.length≤1000)(us:uni 2 sk)(hl':sk.length≤100)(hs:sk.Pairwise fun a b=>a.getD 0 0<b.getD 0 0)(hr:∀ s∈sk,-1≤sT s∧sT s≤360000){base:Nat}:FV Tp 39 [.p (.agg (aX dl sk dc)),.p (aG q)] base (.p (.sl (cE dl q dc sk).length ((cE dl q dc sk).flatten.map aA))) []:=by
 have hl:sk.length≤1000:=by omega
 have hn:(aP sk 0).Nodup:=by
  unfold aP;rw [List.Nodup,List.pairwise_map];exact hs.imp fun h=>by omega
 have h0:=aE.range (P:=Tp) (k:=0) (b:=sub (cd Tryz.f39) [1,1,0,1,0,0]) (e := .exit 0) (fun i (o:Lqq)=>nL dl sk dc q o.length (o.flatten.map aA) i) (fun o=>nL dl sk dc q o.length (o.flatten.map aA) sk.length) (fun o s=>o++[lin0 dl q dc s]) (fun i o=>o.length=i) (by simp) sk (a0:=[]) rfl
  (fun i x o hx ho=>by
   have hi:=aL hx;have hm:=kQ1 hx;refine ⟨by simp [ho],?_⟩
   obtain ⟨j,hj,hj2⟩:=bRz hn hm;have hrx:=hr x hm;obtain ⟨y0,y1,rfl⟩:=len2 (us x hm);have hz:bJ (fun x=>decide (x.getD 0 0=y0)) sk=(j:Int):=(aPu sk y0).symm.trans hj
   unfold lin0;show aC _ _ _ _ _ (nL dl sk dc q (o++[[y0,if (cM dl q dc y0 y1).2 then -1 else 1,(cM dl q dc y0 y1).1]]).length ((o++[[y0,if (cM dl q dc y0 y1).2 then -1 else 1,(cM dl q dc y0 y1).1]]).flatten.map aA) (i+1))
   cases ht:cM dl q dc y0 y1 with
   | mk t b=>cases b with
    | true=>exact bDj (by omega) hx us hd hq hl hz hj2 hrx ht rfl ⟨rfl,by omega⟩ (aH (by omega)) (by simp) (by simp) rfl
    | false=>exact bDk (by omega) hx us hd hq hl hz hj2 hrx ht rfl ⟨rfl,by omega⟩ (aH (by omega)) (by simp) (by simp) rfl)
  (fun o _=>bDl (by omega))
 have em:∀ (l:Lqq) (o:Lqq),l.foldl (fun o s=>o++[lin0 dl q dc s]) o=o++l.map (lin0 dl q dc):=by
  intro l
  induction l with
  | nil=>intro o;simp
  | cons x l ih=>intro o;rw [nK,ih];simp
 rw [em,List.nil_append] at h0
 obtain ⟨L,hL,h1⟩:=aE.ex (P:=Tp) (k:=0) (b:=sub (cd Tryz.f39) [1,1,1,0,1,0,0]) (e := .exit 2) (fun i (L:Lqq)=>tH L.length (L.flatten.map aA) i) (fun L=>tH L.length (L.flatten.map aA) sk.length) (fun i L=>LnI dl q dc sk i (fun s=>iC dl q dc sk s 0) L) (by simp) sk.length
  (fun i L hi hI=>by
   have hx:sk[i]? = some sk[i]:=kQ0 hi;obtain ⟨L',hL',hlp⟩:=cAb hx hl hI;refine ⟨L',⟨hL'.1,fun j u hj => ?_⟩,bDm (by rw [hI.1];omega) hlp (aH (by omega)) rfl rfl rfl⟩
   have:=hL'.2 j u hj;rw [this]
   by_cases h:j<i
   ·rw [if_pos h,if_pos (by omega)]
   ·by_cases h2:j=i
    ·rw [if_neg h,if_pos h2,if_pos (by omega)]
     show some [sB u,iC dl q dc sk u sk.length,(fT dl q dc u).1]=_;rw [aPt]
    ·rw [if_neg h,if_neg h2,if_neg (by omega)]
     split <;> rfl)
  (fun L hI=>bDn (by rw [hI.1];omega)) (acc:=sk.map (lin0 dl q dc)) ⟨by rw [kQ8],fun j s hj=>by
   rw [kQ9,hj,if_neg (by omega)]
   have:iC dl q dc sk s 0=if (fT dl q dc s).2 then -1 else 1:=by
    unfold iC;rw [List.take_zero];rfl
   show some [sB s,if (fT dl q dc s).2 then -1 else 1,(fT dl q dc s).1]=some [sB s,if j=0 then iC dl q dc sk s 0 else iC dl q dc sk s 0,(fT dl q dc s).1]
   rw [← this]
   split <;> rfl⟩
 have hLe:L=wM dl q dc sk:=by
  refine List.ext_getElem? fun j => ?_
  unfold wM;rw [kQ9];cases hj:sk[j]? with
  | none =>
   have:=List.getElem?_eq_none_iff.1 hj;rw [List.getElem?_eq_none_iff.2 (by rw [hL.1];exact this)]
   rfl
  | some s =>
   have:=aL hj;rw [hL.2 j s hj,if_pos this];rfl
 have hLu:=hL.uni;have hLl:=hL.1;have h2:=aE.times (P:=Tp) (k:=0) (b:=sub (cd Tryz.f39) [1,1,1,1,1,0,1,0,0]) (e := .exit 6) (fun i (o:Lqq)=>tI L o.length (o.flatten.map aA) ((i:Int)+1)) (fun o=>tI L o.length (o.flatten.map aA) ((sk.length:Int)+1)) (fun o i=>o++L.filter fun x=>decide (x.getD 1 0=(i:Int)+1)) (fun i o=>o.length≤100*i) (by simp) sk.length (a0:=[]) (by simp)
  (fun i o hi ho=>by
   have hfl:(L.filter fun x=>decide (x.getD 1 0=(i:Int)+1)).length≤L.length:=sG _ _
   refine ⟨by rw [gG];omega,?_⟩
   have hin:=aE.range (P:=Tp) (k:=0) (b:=sub (cd Tryz.f39) [1,1,1,1,1,0,1,0,0,1,0,0,1,0,0]) (e := .exit 8) (fun j (o:Lqq)=>pA L ((i:Int)+1) o.length (o.flatten.map aA) j) (fun o=>pA L ((i:Int)+1) o.length (o.flatten.map aA) L.length) (fun o x=>if x.getD 1 0=(i:Int)+1 then o++[x] else o) (fun j o'=>o'.length≤o.length+j) (by simp) L (a0:=o) (by simp)
    (fun j x o' hx ho'=>by
     have hj:=aL hx;obtain ⟨x0,x1,x2,rfl⟩:=len3 (hLu x (kQ1 hx))
     by_cases he:x1=(i:Int)+1
     ·rw [if_pos (show ([x0,x1,x2]:List Int).getD 1 0=_ from he)]
      exact ⟨by rw [gG,List.length_singleton];omega,bDy (by omega) hx hLu he ⟨rfl,by omega⟩ (aH (by omega)) (by simp) (by simp) rfl⟩
     ·rw [if_neg (show ¬ ([x0,x1,x2]:List Int).getD 1 0=_ from he)]
      exact ⟨by omega,bDz (by omega) hx hLu he (aH (by omega)) rfl⟩)
    (fun o' _=>bEa (by omega))
   have ef:∀ (l:Lqq) (o:Lqq),l.foldl (fun o x=>if x.getD 1 0=(i:Int)+1 then o++[x] else o) o=o++l.filter fun x=>decide (x.getD 1 0=(i:Int)+1):=by
    intro l
    induction l with
    | nil=>intro o;simp
    | cons x l ih =>
     intro o;rw [nK,ih,List.filter_cons]
     by_cases h:x.getD 1 0=(i:Int)+1
     ·rw [if_pos h,if_pos (by simp only [h,decide_true])];simp
     ·rw [if_neg h,if_neg (by simp only [h,decide_false];simp)]
   rw [ef] at hin
   exact bDo (by rw [hLl];omega) hin (by unfold inR;omega) rfl rfl (by omega))
  (fun o _=>bDp (by rw [hLl];omega))
 rw [aPw,List.nil_append] at h2
 have e1:(((0:Nat):Int)+1)=1:=rfl;simp only [e1] at h2
 revert h2;have hol:((List.range sk.length).flatMap fun (i:Nat)=>L.filter fun x=>decide (x.getD 1 0=(i:Int)+1)).length≤100*sk.length:=by
  have key:∀ n,((List.range n).flatMap fun (i:Nat)=>L.filter fun x=>decide (x.getD 1 0=(i:Int)+1)).length≤100*n:=by
   intro n
   induction n with
   | zero=>simp
   | succ n ih =>
    rw [List.range_succ,List.flatMap_append,gG];have hfl:(L.filter fun x=>decide (x.getD 1 0=(n:Int)+1)).length≤L.length:=sG _ _
    have e:([n].flatMap fun (i:Nat)=>L.filter fun x=>decide (x.getD 1 0=(i:Int)+1))=L.filter fun x=>decide (x.getD 1 0=(n:Int)+1):=by simp
    rw [e];omega
  exact key _
 have hb:=cAc (dl:=dl) (q:=q) (dc:=dc) hs;rw [← hLe] at hb
 unfold byP at hb
 revert hol hb;generalize ((List.range sk.length).flatMap fun (i:Nat)=>L.filter fun x=>decide (x.getD 1 0=(i:Int)+1))=O
 intro hol hb h2;have h3:=aE.range (P:=Tp) (k:=0) (b:=sub (cd Tryz.f39) [1,1,1,1,1,1,0,1,0,0]) (e := .exit 10) (fun j (o:Lqq)=>oZ L o.length (o.flatten.map aA) j) (fun o=>oZ L o.length (o.flatten.map aA) L.length) (fun o x=>if x.getD 1 0<0 then o++[x] else o) (fun j o'=>o'.length≤O.length+j) (by simp) L (a0:=O) (by simp)
  (fun j x o' hx ho'=>by
   have hj:=aL hx;obtain ⟨x0,x1,x2,rfl⟩:=len3 (hLu x (kQ1 hx))
   by_cases he:x1<0
   ·rw [if_pos (show ([x0,x1,x2]:List Int).getD 1 0<0 from he)]
    exact ⟨by rw [gG,List.length_singleton];omega,bDq (by omega) hx hLu he ⟨rfl,by omega⟩ (aH (by omega)) (by simp) (by simp) rfl⟩
   ·rw [if_neg (show ¬ ([x0,x1,x2]:List Int).getD 1 0<0 from he)]
    exact ⟨by omega,bDr (by omega) hx hLu (by omega) (aH (by omega)) rfl⟩)
  (fun o' _=>bDs (by omega))
 have ef:∀ (l:Lqq) (o:Lqq),l.foldl (fun o x=>if x.getD 1 0<0 then o++[x] else o) o=o++l.filter fun x=>decide (x.getD 1 0<0):=by
  intro l
  induction l with
  | nil=>intro o;simp
  | cons x l ih =>
   intro o;rw [nK,ih,List.filter_cons]
   by_cases h:x.getD 1 0<0
   ·rw [if_pos h,if_pos (by simp only [h,decide_true])];simp
   ·rw [if_neg h,if_neg (by simp only [h,decide_false];simp)]
 rw [ef,hb] at h3
 exact cAd h0 h1 h2 h3
end
end
section
variable {bo300 cn107 cn201 la106 la200 op108 op202 up109 up203:Bool}{k bib y100 y101 y102 y103 y104 y105 bt111 bt205 fr112 fr206 mu110 mu204:Int}{o:List Int}{i i':Nat}
variable {dl:Int}{sk dc:Lqq}

noncomputable abbrev uK:Code:=sub (cd Tryz.f67) [1,1,1,0,1,0,0]
noncomputable abbrev aNo:Code:=sub (cd Tryz.f67) [1,1,1,1,1,0,1,0,0]
noncomputable abbrev aNp:Code:=sub (cd Tryz.f67) [1,1,1,0,1,0,0,1,0,0,1,1,1,1,1,0,0]
def boE(b:Bool):List PV:=[blP b]
def fX(dl:Int)(sk:Lqq)(dc:Lqq)(bib:Int)(isn:Nat)(isc:List PV)(i:Nat):St:=⟨fr 110 [(1,(pI bib)),(2,(.ptr 0 0)),(4,(.p bM)),(5,(.own 1)),(6,(.own 2)),(7,(pI (i:Int)))],[some (.box 61 [(pI dl),(.p (fS sk)),(.p (fS dc))]),some (.row 121 (((bH dl [] dc).map (bR dl)).length) ((((bH dl [] dc).map (bR dl)).map rsE).flatten)),some (.row 4 isn isc)]⟩
def pQ(dl:Int)(sk:Lqq)(dc:Lqq)(is'0:List Bool)(on:Nat)(oc:List PV)(i:Nat):St:=⟨fr 110 [(2,(.ptr 0 0)),(4,(.p bM)),(5,(.own 1)),(6,(.own 2)),(10,(.own 3)),(11,(pI (i:Int)))],[some (.box 61 [(pI dl),(.p (fS sk)),(.p (fS dc))]),some (.row 121 (((bH dl [] dc).map (bR dl)).length) ((((bH dl [] dc).map (bR dl)).map rsE).flatten)),some (.row 4 is'0.length ((is'0.map boE).flatten)),some (.row 3 on oc)]⟩
theorem cIn{is'0:List Bool}{i'1:Nat}{o'2:List Int}{i'3:Nat}(h0:bD dc)(h1:0≤((((bH dl [] dc).map (bR dl)).length:Nat):Int)∧((((bH dl [] dc).map (bR dl)).length:Nat):Int)≤((((bH dl [] dc).map (bR dl)).length:Nat):Int)∧((((bH dl [] dc).map (bR dl)).length:Nat):Int)≤1000000)(hl2:aE Tp 0 uK (fX dl sk dc bib (((bH dl [] dc).map (bR dl)).length) (List.replicate (((bH dl [] dc).map (bR dl)).length) (blP false)) 0) (.exit 0) (fX dl sk dc bib is'0.length ((is'0.map boE).flatten) i'1))(hl3:aE Tp 0 aNo (pQ dl sk dc is'0 0 [] 0) (.exit 4) (pQ dl sk dc is'0 o'2.length (o'2.map aA) i'3)){base:Nat}:FV Tp 67 [(.p (.agg (aX dl sk dc))),(pI bib)] base (.p (aG o'2)) []:=by
 have k1:=fk 1 (bTn (dl:=dl) (sk:=sk) (dc:=dc) h0) rfl;exact FV.frz (FMM.fi 0 ⟨[],[],[3],[]⟩ Tryz.func67 [k1.o,hl2.k 6 (gI [0,1,3,1,8,2,12,98] [0,1,2]),hl3.k 6 (gN [0,2,3,1,7,3,12,98] [0,1,2,3] [(10,3)])] (gc hl3.code (gc hl2.code (gc h1 (gc k1 gn))))) (by kernel_rfl)
def pR(dl:Int)(sk:Lqq)(dc:Lqq)(bib:Int)(i:Nat)(isn:Nat)(isc:List PV)(k:Int):St:=⟨fr 110 [(1,(pI bib)),(2,(.ptr 0 0)),(4,(.p bM)),(5,(.own 1)),(6,(.own 2)),(7,(pI (i:Int))),(9,(pI k))],[some (.box 61 [(pI dl),(.p (fS sk)),(.p (fS dc))]),some (.row 121 (((bH dl [] dc).map (bR dl)).length) ((((bH dl [] dc).map (bR dl)).map rsE).flatten)),some (.row 4 isn isc)]⟩
theorem bLx{is:List Bool}(h0:(i:Int)<((((bH dl [] dc).map (bR dl)).length:Nat):Int))(h1:dc[i]? = some [y100,y101,y102,y103,y104,y105])(h2:uni 6 dc)(h3:(4:Int)<y101)(h4:inR (((i+1):Nat):Int))(ei':i'=(i+1)):aC Tp 0 uK (fX dl sk dc bib is.length ((is.map boE).flatten) i) .normal (fX dl sk dc bib is.length ((is.map boE).flatten) i'):=by
 subst ei';exact aC.fi (gI [0,1,3,1,8,2,12,98] [0,1,2]) ([bT,.x (dcE y100 y101 y102 y103 y104 y105)]++rT 5) (gc h4 (g5c (aK h3) (gfl h2 h1 (gc (aK h0) gn))))
theorem bLy{is:List Bool}(h0:(i:Int)<((((bH dl [] dc).map (bR dl)).length:Nat):Int))(h1:dc[i]? = some [y100,y101,y102,y103,y104,y105])(h2:uni 6 dc)(h3:y101≤4)(h4:y103≠bib)(h5:inR (((i+1):Nat):Int))(ei':i'=(i+1)):aC Tp 0 uK (fX dl sk dc bib is.length ((is.map boE).flatten) i) .normal (fX dl sk dc bib is.length ((is.map boE).flatten) i'):=by
 subst ei';exact aC.fi (gI [0,1,3,1,8,2,12,98] [0,1,2]) ([bT,.x (dcE y100 y101 y102 y103 y104 y105)]++rF 5++rT 7) (gc h5 (g7c (cZ h4) (g5c (aN h3) (gfl h2 h1 (gc (aK h0) gn)))))
theorem bLz{is:List Bool}(h0:(i:Int)<((((bH dl [] dc).map (bR dl)).length:Nat):Int))(h1:dc[i]? = some [y100,y101,y102,y103,y104,y105])(h2:uni 6 dc)(h3:y101≤4)(h4:y103=bib)(h5:0≤(i:Int)∧(i:Int)<((((bH dl [] dc).map (bR dl)).length:Nat):Int))(h6:((bH dl [] dc).map (bR dl))[i]? = some (la106,cn107,op108,up109,mu110,bt111,fr112))(h7:cn107=false)(h8:inR (((i+1):Nat):Int))(ei':i'=(i+1)):aC Tp 0 uK (fX dl sk dc bib is.length ((is.map boE).flatten) i) .normal (fX dl sk dc bib is.length ((is.map boE).flatten) i'):=by
 subst ei';exact aC.fi (gI [0,1,3,1,8,2,12,98] [0,1,2]) ([bT,.x (dcE y100 y101 y102 y103 y104 y105)]++rF 10++[.x (blP cn107),bF,bF]++rT 6) (gc h8 (g6c (bY h7) (g2c (aS h4) (gt (((((bH dl [] dc).map (bR dl)).map rsE).flatten)[((i*7)+1)]? = some (blP cn107)) (bG (E:=rsE) (i:=i) (f:=1) (k:=7) (fun _=>rfl) h6 rfl) (g2c (aS h4) (gc h5 (g3c (aS h4) (g5c (aN h3) (gfl h2 h1 (gc (aK h0) gn))))))))))
theorem bMa{is:List Bool}(h0:(i:Int)<((((bH dl [] dc).map (bR dl)).length:Nat):Int))(h1:dc[i]? = some [y100,y101,y102,y103,y104,y105])(h2:uni 6 dc)(h3:y101≤4)(h4:y103=bib)(h5:0≤(i:Int)∧(i:Int)<((((bH dl [] dc).map (bR dl)).length:Nat):Int))(h6:((bH dl [] dc).map (bR dl))[i]? = some (la106,cn107,op108,up109,mu110,bt111,fr112))(h7:cn107=true)(h8:y101=4)(h9:up109=false)(h10:inR (((i+1):Nat):Int))(ei':i'=(i+1)):aC Tp 0 uK (fX dl sk dc bib is.length ((is.map boE).flatten) i) .normal (fX dl sk dc bib is.length ((is.map boE).flatten) i'):=by
 subst ei';exact aC.fi (gI [0,1,3,1,8,2,12,98] [0,1,2]) ([bT,.x (dcE y100 y101 y102 y103 y104 y105)]++rF 10++[.x (blP cn107)]++rF 6++rT 5++[.x (blP up109),bT,bF,bT,bF,bT]) (gc h10 (gc (bY h9) (gc (aQ h7) (gc (bL h8) (gc (aQ h7) (gc (bL h8) (gt (((((bH dl [] dc).map (bR dl)).map rsE).flatten)[((i*7)+3)]? = some (blP up109)) (bG (E:=rsE) (i:=i) (f:=3) (k:=7) (fun _=>rfl) h6 rfl) (g2c (bL h8) (gc h5 (g3c (bL h8) (g4c (aQ h7) (g2c (aS h4) (gt (((((bH dl [] dc).map (bR dl)).map rsE).flatten)[((i*7)+1)]? = some (blP cn107)) (bG (E:=rsE) (i:=i) (f:=1) (k:=7) (fun _=>rfl) h6 rfl) (g2c (aS h4) (gc h5 (g3c (aS h4) (g5c (aN h3) (gfl h2 h1 (gc (aK h0) gn)))))))))))))))))))
theorem bMb{is:List Bool}{z113:Int}{is'114:List Bool}{k'115:Int}{is':List Bool}(h0:(i:Int)<((((bH dl [] dc).map (bR dl)).length:Nat):Int))(h1:dc[i]? = some [y100,y101,y102,y103,y104,y105])(h2:uni 6 dc)(h3:y101≤4)(h4:y103=bib)(h5:0≤(i:Int)∧(i:Int)<((((bH dl [] dc).map (bR dl)).length:Nat):Int))(h6:((bH dl [] dc).map (bR dl))[i]? = some (la106,cn107,op108,up109,mu110,bt111,fr112))(h7:cn107=true)(h8:y101=4)(h9:up109=true)(h10:0≤(i:Int)∧(i:Int)<(is.length:Int))(h11:(i*1)<((is.map boE).flatten).length)(h12:dc.length≤1000)(h13:bJ (fun x=>decide (x.getD 0 0=bt111)) dc=z113)(h14:0≤z113∧z113<(is.length:Int))(h15:(z113.toNat*1)<(((is.map boE).flatten).set (i*1) (blP true)).length)(hl16:aE Tp 0 aNp (pR dl sk dc bib i is.length ((((is.map boE).flatten).set (i*1) (blP true)).set (z113.toNat*1) (blP true)) (i:Int)) (.exit 2) (pR dl sk dc bib i is'114.length ((is'114.map boE).flatten) k'115))(h17:inR (((i+1):Nat):Int))(eis'n:is'.length=is'114.length)(eis'c:(is'.map boE).flatten=((is'114.map boE).flatten))(ei':i'=(i+1)):aC Tp 0 uK (fX dl sk dc bib is.length ((is.map boE).flatten) i) .normal (fX dl sk dc bib is'.length ((is'.map boE).flatten) i'):=by
 subst ei';rw [eis'n,eis'c];exact aC.fi (gI [0,1,3,1,8,2,12,98] [0,1,2]) ([bT,.x (dcE y100 y101 y102 y103 y104 y105)]++rF 10++[.x (blP cn107)]++rF 6++rT 5++[.x (blP up109),bT,bF,bT,bF,bF,bT,.x (aA bt111),.c (pI z113) [],hl16.k 3 (gI [0,1,3,1,8,1,12,98] [0,1,2])]) (gc h17 (gc hl16.code (gc h15 (gc h14 (gc (fk 4 (aLv dl sk dc bt111 h2 h12 h13) rfl) (gt (((((bH dl [] dc).map (bR dl)).map rsE).flatten)[((i*7)+5)]? = some (aA bt111)) (bG (E:=rsE) (i:=i) (f:=5) (k:=7) (fun _=>rfl) h6 rfl) (gc h5 (gc (bL h8) (gc h11 (gc h10 (gc (aQ h9) (gc (aQ h7) (gc (bL h8) (gc (aQ h7) (gc (bL h8) (gt (((((bH dl [] dc).map (bR dl)).map rsE).flatten)[((i*7)+3)]? = some (blP up109)) (bG (E:=rsE) (i:=i) (f:=3) (k:=7) (fun _=>rfl) h6 rfl) (g2c (bL h8) (gc h5 (g3c (bL h8) (g4c (aQ h7) (g2c (aS h4) (gt (((((bH dl [] dc).map (bR dl)).map rsE).flatten)[((i*7)+1)]? = some (blP cn107)) (bG (E:=rsE) (i:=i) (f:=1) (k:=7) (fun _=>rfl) h6 rfl) (g2c (aS h4) (gc h5 (g3c (aS h4) (g5c (aN h3) (gfl h2 h1 (gc (aK h0) gn))))))))))))))))))))))))))))
theorem bMc{is:List Bool}{is'113:List Bool}{k'114:Int}{is':List Bool}(h0:(i:Int)<((((bH dl [] dc).map (bR dl)).length:Nat):Int))(h1:dc[i]? = some [y100,y101,y102,y103,y104,y105])(h2:uni 6 dc)(h3:y101≤4)(h4:y103=bib)(h5:0≤(i:Int)∧(i:Int)<((((bH dl [] dc).map (bR dl)).length:Nat):Int))(h6:((bH dl [] dc).map (bR dl))[i]? = some (la106,cn107,op108,up109,mu110,bt111,fr112))(h7:cn107=true)(h8:y101≠4)(h9:0≤(i:Int)∧(i:Int)<(is.length:Int))(h10:(i*1)<((is.map boE).flatten).length)(hl11:aE Tp 0 aNp (pR dl sk dc bib i is.length (((is.map boE).flatten).set (i*1) (blP true)) (i:Int)) (.exit 2) (pR dl sk dc bib i is'113.length ((is'113.map boE).flatten) k'114))(h12:inR (((i+1):Nat):Int))(eis'n:is'.length=is'113.length)(eis'c:(is'.map boE).flatten=((is'113.map boE).flatten))(ei':i'=(i+1)):aC Tp 0 uK (fX dl sk dc bib is.length ((is.map boE).flatten) i) .normal (fX dl sk dc bib is'.length ((is'.map boE).flatten) i'):=by
 subst ei';rw [eis'n,eis'c];exact aC.fi (gI [0,1,3,1,8,2,12,98] [0,1,2]) ([bT,.x (dcE y100 y101 y102 y103 y104 y105)]++rF 10++[.x (blP cn107)]++rF 16++[hl11.k 3 (gI [0,1,3,1,8,1,12,98] [0,1,2])]) (gc h12 (gc hl11.code (gc (aV h8) (gc h10 (gc h9 (gc (aQ h7) (gc (aV h8) (gc (aQ h7) (g6c (aV h8) (g4c (aQ h7) (g2c (aS h4) (gt (((((bH dl [] dc).map (bR dl)).map rsE).flatten)[((i*7)+1)]? = some (blP cn107)) (bG (E:=rsE) (i:=i) (f:=1) (k:=7) (fun _=>rfl) h6 rfl) (g2c (aS h4) (gc h5 (g3c (aS h4) (g5c (aN h3) (gfl h2 h1 (gc (aK h0) gn))))))))))))))))))
theorem bMd{is:List Bool}(h0:((((bH dl [] dc).map (bR dl)).length:Nat):Int)≤(i:Int)):aC Tp 0 uK (fX dl sk dc bib is.length ((is.map boE).flatten) i) (.exit 0) (fX dl sk dc bib is.length ((is.map boE).flatten) i):=by
 exact aC.fi (gI [0,1,3,1,8,2,12,98] [0,1,2]) [bF] (gc (aN h0) gn)
theorem bMe{is'0:List Bool}{y301 y302 y303 y304 y305 y306:Int}{o':List Int}(h0:(i:Int)<((((bH dl [] dc).map (bR dl)).length:Nat):Int))(h1:0≤(i:Int)∧(i:Int)<(is'0.length:Int))(h2:is'0[i]? = some (bo300))(h3:bo300=true)(h4:dc[i]? = some [y301,y302,y303,y304,y305,y306])(h5:uni 6 dc)(h6:[(aA y301)].length=1*1∧o.length+1≤1000000)(h7:inR (((i+1):Nat):Int))(eo'n:o'.length=(o.length+1))(eo'c:o'.map aA=((o.map aA)++[(aA y301)]))(ei':i'=(i+1)):aC Tp 0 aNo (pQ dl sk dc is'0 o.length (o.map aA) i) .normal (pQ dl sk dc is'0 o'.length (o'.map aA) i'):=by
 subst ei';rw [eo'n,eo'c];exact aC.fi (gI [0,2,3,1,7,3,12,98] [0,1,2,5]) [bT,.x (blP bo300),bT,.x (aA y301)] (gc h7 (gc h6 (gt ((dc.flatten.map aA)[(i*6)]? = some (aA y301)) (bE (i:=i) (f:=0) h5 h4 rfl) (gc (fQ (k:=6) (i:=(i:Int)) (by decide) h5 (kQ5 _) h4) (gc h3 (gt (((is'0.map boE).flatten)[(i*1)]? = some (blP bo300)) (bG (E:=boE) (i:=i) (f:=0) (k:=1) (fun _=>rfl) h2 rfl) (gc h1 (gc (aK h0) gn))))))))
theorem bMf{is'0:List Bool}(h0:(i:Int)<((((bH dl [] dc).map (bR dl)).length:Nat):Int))(h1:0≤(i:Int)∧(i:Int)<(is'0.length:Int))(h2:is'0[i]? = some (bo300))(h3:bo300=false)(h4:inR (((i+1):Nat):Int))(ei':i'=(i+1)):aC Tp 0 aNo (pQ dl sk dc is'0 o.length (o.map aA) i) .normal (pQ dl sk dc is'0 o.length (o.map aA) i'):=by
 subst ei';exact aC.fi (gI [0,2,3,1,7,3,12,98] [0,1,2,3]) [bT,.x (blP bo300),bF] (gc h4 (gc h3 (gt (((is'0.map boE).flatten)[(i*1)]? = some (blP bo300)) (bG (E:=boE) (i:=i) (f:=0) (k:=1) (fun _=>rfl) h2 rfl) (gc h1 (gc (aK h0) gn)))))
theorem bMg{is'0:List Bool}(h0:((((bH dl [] dc).map (bR dl)).length:Nat):Int)≤(i:Int)):aC Tp 0 aNo (pQ dl sk dc is'0 o.length (o.map aA) i) (.exit 4) (pQ dl sk dc is'0 o.length (o.map aA) i):=by
 exact aC.fi (gI [0,2,3,1,7,3,12,98] [0,1,2,3]) [bF] (gc (aN h0) gn)
theorem bMh{is:List Bool}{z207:Int}{is':List Bool}(h0:0≤k∧k<((((bH dl [] dc).map (bR dl)).length:Nat):Int))(h1:((bH dl [] dc).map (bR dl))[k.toNat]? = some (la200,cn201,op202,up203,mu204,bt205,fr206))(h2:(0:Int)<fr206)(h3:uni 6 dc)(h4:dc.length≤1000)(h5:bJ (fun x=>decide (x.getD 0 0=fr206)) dc=z207)(h6:0≤z207∧z207<(is.length:Int))(h7:(z207.toNat*1)<((is.map boE).flatten).length)(eis'n:is'.length=is.length)(eis'c:(is'.map boE).flatten=(((is.map boE).flatten).set (z207.toNat*1) (blP true))):aC Tp 0 aNp (pR dl sk dc bib i is.length ((is.map boE).flatten) k) .normal (pR dl sk dc bib i is'.length ((is'.map boE).flatten) z207):=by
 rw [eis'n,eis'c];exact aC.fi (gI [0,1,3,1,8,1,12,98] [0,1,2]) [.x (aA fr206),bT,.x (aA fr206),.c (pI z207) []] (gc h7 (gc h6 (gc (fk 3 (aLv dl sk dc fr206 h3 h4 h5) rfl) (gt (((((bH dl [] dc).map (bR dl)).map rsE).flatten)[((k.toNat*7)+6)]? = some (aA fr206)) (bG (E:=rsE) (i:=k.toNat) (f:=6) (k:=7) (fun _=>rfl) h1 rfl) (gc h0 (gc (aK h2) (gt (((((bH dl [] dc).map (bR dl)).map rsE).flatten)[((k.toNat*7)+6)]? = some (aA fr206)) (bG (E:=rsE) (i:=k.toNat) (f:=6) (k:=7) (fun _=>rfl) h1 rfl) (gc h0 gn))))))))
theorem bMi{is:List Bool}(h0:0≤k∧k<((((bH dl [] dc).map (bR dl)).length:Nat):Int))(h1:((bH dl [] dc).map (bR dl))[k.toNat]? = some (la200,cn201,op202,up203,mu204,bt205,fr206))(h2:fr206≤0):aC Tp 0 aNp (pR dl sk dc bib i is.length ((is.map boE).flatten) k) (.exit 2) (pR dl sk dc bib i is.length ((is.map boE).flatten) k):=by
 exact aC.fi (gI [0,1,3,1,8,1,12,98] [0,1,2]) [.x (aA fr206),bF] (gc (aN h2) (gt (((((bH dl [] dc).map (bR dl)).map rsE).flatten)[((k.toNat*7)+6)]? = some (aA fr206)) (bG (E:=rsE) (i:=k.toNat) (f:=6) (k:=7) (fun _=>rfl) h1 rfl) (gc h0 gn)))
end
section
variable {is b106 b114:Bool}{y0 y1 y2 y3 y4 y5 bib y100 y101 y102 y103 y104 y105 z108 z109 z110 z111 z112 z113:Int}{t t' T107 T115:Lqb}{o o':List Int}{i i' base:Nat}
variable {dl:Int}{sk dc:Lqq}

noncomputable abbrev aGr:Code:=sub (cd Tryz.f64) [1,1,1,1,1,0,1,0,0]
noncomputable abbrev aNs:Code:=sub (cd Tryz.f64) [1,1,1,1,1,0,1,0,0,1,1,0,0,1,1,1,1,1,0,0]
def mE(dl:Int)(sk:Lqq)(dc:Lqq)(bib:Int)(on:Nat)(oc:List PV)(i:Nat)(te:List (Value × PV))(tk:Nat):St:=⟨fr 89 [(1,(pI bib)),(4,(.p bM)),(5,(pI 0)),(9,(.ptr 7 0)),(10,(.own 8)),(33,(.p (.sl ((aB dc).length) ((aB dc).flatten.map aA)))),(34,(pI (((aB dc).length:Nat):Int))),(35,(pI (i:Int)))],[some (vB0 dl (aB sk) (aB dc)),some (.box 33 [(.p bM)]),some vB2,some (.mp te tk),some (.box 207 [(.mp 3)]),some (vB5 dl (aB sk) (aB dc)),some vB6,some vB2,some (.row 3 on oc)]⟩
theorem cIo{i0:Nat}{s1 s2:Int}{o'3:List Int}{i'4:Nat}{t'5:Lqb}(h0:bZ dl sk dc)(h1:kB (aB sk) bib=(i0:Int))(h2:(aB sk)[i0]? = some [s1,s2])(hl3:aE Tp 0 aGr (mE dl sk dc bib 0 [] 0 (aO ([]:Lqb)) 0) (.exit 0) (mE dl sk dc bib o'3.length (o'3.map aA) i'4 (aO t'5) t'5.length))(h4:o'3.length≤1000000):FV Tp 64 [(.p (.agg (aX dl sk dc))),(pI bib)] base (.tup [(.p (aG (o'3.mergeSort KL.leB))),(pI 0)]) []:=by
 have k1:=fk 1 (zW h0 h1 h2) rfl;have k2:=mN [] 2 (oO (dl:=dl) (sk:=(aB sk)) (dc:=(aB dc)));have k3:=mq [8] 9 (aRq o'3 h4);exact FV.frz (FMM.fi 0 ⟨[],[],[8],[]⟩ Tryz.func64 [k1.o,bF,k2.o,.x (.sl ((aB dc).length) ((aB dc).flatten.map aA)),hl3.k 1 (gN [0,1,2,2,6,3,11,22,36,50,87,1] [2,3,4,5,6,7,8,9,10] [(10,3)]),k3.o] (gc k3 (gc hl3.code (gr (.sl ((aB dc).length) ((aB dc).flatten.map aA)) (gc k2 (gt (((0:Int) != 0)=false) (by first | decide | simp) (gc k1 gn))))))) (by kernel_rfl)
theorem cIp(h0:bZ dl sk dc)(h1:kB (aB sk) bib = -1):FV Tp 64 [(.p (.agg (aX dl sk dc))),(pI bib)] base (.tup [(.p bM),(pI 1)]) []:=by
 have k1:=fk 1 (aVr h0 h1) rfl;exact FV.frz (FMM.fi 0 gE Tryz.func64 [k1.o,bT] (gt (((1:Int) != 0)=true) (by first | decide | simp) (gc k1 gn))) (by kernel_rfl)
theorem cIq{r0:Int}(h0:uni 2 sk)(h1:uni 6 dc)(h2:(eC dl sk dc)≠0)(er0:r0=(eC dl sk dc)):FV Tp 64 [(.p (.agg (aX dl sk dc))),(pI bib)] base (.tup [(.p bM),(pI r0)]) []:=by
 subst er0;exact FV.frz (FMM.fi 0 gE Tryz.func64 [.c (.tup [(.p (.v (.pointer none))),(.p (.agg [(aA 0),(aA 0)])),(pI (eC dl sk dc))]) [],bT] (gc (cZ h2) (gt (FC Tp 135 [(.p (.agg (aX dl sk dc))),(pI bib)] [] 1 (.tup [(.p (.v (.pointer none))),(.p (.agg [(aA 0),(aA 0)])),(pI (eC dl sk dc))]) []) (FV.fc (aMa h0 h1 h2) rfl) gn))) (by kernel_rfl)
def mF(dl:Int)(sk:Lqq)(dc:Lqq)(bib:Int)(i:Nat)(y100:Int)(y101:Int)(y102:Int)(y103:Int)(y104:Int)(y105:Int)(on:Nat)(oc:List PV)(y0:Int)(y1:Int)(y2:Int)(y3:Int)(y4:Int)(y5:Int)(is:Bool)(te:List (Value × PV))(tk:Nat):St:=⟨fr 89 [(1,(pI bib)),(4,(.p bM)),(5,(pI 0)),(9,(.ptr 7 0)),(10,(.own 9)),(12,(.ptr 8 0)),(15,(.ptr 10 0)),(16,(pB is)),(33,(.p (.sl ((aB dc).length) ((aB dc).flatten.map aA)))),(34,(pI (((aB dc).length:Nat):Int))),(35,(pI (i:Int))),(36,(pB (decide ((i:Int)<(((aB dc).length:Nat):Int)))))],[some (vB0 dl (aB sk) (aB dc)),some (.box 33 [(.p bM)]),some vB2,some (.mp te tk),some (.box 207 [(.mp 3)]),some (vB5 dl (aB sk) (aB dc)),some vB6,some vB2,some (.box 44 [(pI y100),(pI y101),(pI y102),(pI y103),(pI y104),(pI y105)]),some (.row 3 on oc),some (.box 44 [(pI y0),(pI y1),(pI y2),(pI y3),(pI y4),(pI y5)])]⟩
theorem bMj(h0:(i:Int)<(((aB dc).length:Nat):Int))(h1:(aB dc)[i]? = some [y100,y101,y102,y103,y104,y105])(h2:uni 6 (aB dc))(h3:wX dl (aB sk) (aB dc) bM [y100,y101,y102,y103,y104,y105] bib b106 t T107)(h4:b106=false)(h5:inR (((i+1):Nat):Int))(ei':i'=(i+1))(et'e:aO t'=(aO T107))(et'k:t'.length=T107.length):aC Tp 0 aGr (mE dl sk dc bib o.length (o.map aA) i (aO t) t.length) .normal (mE dl sk dc bib o.length (o.map aA) i' (aO t') t'.length):=by
 subst ei';have k1:=mq [0,1,2,3,4,5,6] 10 h3;rw [et'e,et'k];exact aC.fi (gI [0,1,2,2,6,3,11,22,36,50,87,1] [0,1,2,3,4,5,6,7,8]) [bT,.x (dcE y100 y101 y102 y103 y104 y105),k1.o,bT] (gc h5 (gc (bY h4) (gc k1 (gfl h2 h1 (gc (aK h0) gn)))))
theorem bMk{z116 z117 z118 z119 z120 z121:Int}{b122:Bool}{T123:Lqb}{o'124:List Int}{y0'125 y1'126 y2'127 y3'128 y4'129 y5'130:Int}{is'131:Bool}{t'132:Lqb}(h0:(i:Int)<(((aB dc).length:Nat):Int))(h1:(aB dc)[i]? = some [y100,y101,y102,y103,y104,y105])(h2:uni 6 (aB dc))(h3:wX dl (aB sk) (aB dc) bM [y100,y101,y102,y103,y104,y105] bib b106 t T107)(h4:b106=true)(h5:[(aA y100)].length=1*1∧o.length+1≤1000000)(h6:y101=4)(h7:aMh dl (aB sk) (aB dc) bM [y100,y101,y102,y103,y104,y105] [z108,z109,z110,z111,z112,z113] b114 T107 T115)(h8:[(aA z108)].length=1*1∧(o.length+1)+1≤1000000)(h9:aQs dl (aB sk) (aB dc) bM [y100,y101,y102,y103,y104,y105] [z116,z117,z118,z119,z120,z121] b122 T115 T123)(hl10:aE Tp 0 aNs (mF dl sk dc bib i y100 y101 y102 y103 y104 y105 ((o.length+1)+1) (((o.map aA)++[(aA y100)])++[(aA z108)]) z116 z117 z118 z119 z120 z121 b122 (aO T123) T123.length) (.exit 2) (mF dl sk dc bib i y100 y101 y102 y103 y104 y105 o'124.length (o'124.map aA) y0'125 y1'126 y2'127 y3'128 y4'129 y5'130 is'131 (aO t'132) t'132.length))(h11:inR (((i+1):Nat):Int))(eo'n:o'.length=o'124.length)(eo'c:o'.map aA=(o'124.map aA))(ei':i'=(i+1))(et'e:aO t'=(aO t'132))(et'k:t'.length=t'132.length):aC Tp 0 aGr (mE dl sk dc bib o.length (o.map aA) i (aO t) t.length) .normal (mE dl sk dc bib o'.length (o'.map aA) i' (aO t') t'.length):=by
 subst ei';have k1:=mq [0,1,2,3,4,5,6] 10 h3;have k2:=mq [0,1,2,3,4,5,6] 12 h7;have k3:=mq [0,1,2,3,4,5,6] 15 h9;rw [eo'n,eo'c,et'e,et'k];exact aC.fi (gI [0,1,2,2,6,3,11,22,36,50,87,1] [0,1,2,3,4,5,6,7,9]) [bT,.x (dcE y100 y101 y102 y103 y104 y105),k1.o,bF,bT,k2.o,k3.o,hl10.k 1 (gI [0,1,2,2,6,3,11,1,13,2,17,16,37,48,87,1] [0,1,2,3,4,5,6,7,9,14,15])] (gc h11 (gc hl10.code (gc k3 (gc h8 (gc k2 (gc (bL h6) (gc h5 (gc (aQ h4) (gc k1 (gfl h2 h1 (gc (aK h0) gn)))))))))))
theorem bMl{o'116:List Int}{y0'117 y1'118 y2'119 y3'120 y4'121 y5'122:Int}{is'123:Bool}{t'124:Lqb}(h0:(i:Int)<(((aB dc).length:Nat):Int))(h1:(aB dc)[i]? = some [y100,y101,y102,y103,y104,y105])(h2:uni 6 (aB dc))(h3:wX dl (aB sk) (aB dc) bM [y100,y101,y102,y103,y104,y105] bib b106 t T107)(h4:b106=true)(h5:[(aA y100)].length=1*1∧o.length+1≤1000000)(h6:y101≠4)(h7:aQs dl (aB sk) (aB dc) bM [y100,y101,y102,y103,y104,y105] [z108,z109,z110,z111,z112,z113] b114 T107 T115)(hl8:aE Tp 0 aNs (mF dl sk dc bib i y100 y101 y102 y103 y104 y105 (o.length+1) ((o.map aA)++[(aA y100)]) z108 z109 z110 z111 z112 z113 b114 (aO T115) T115.length) (.exit 2) (mF dl sk dc bib i y100 y101 y102 y103 y104 y105 o'116.length (o'116.map aA) y0'117 y1'118 y2'119 y3'120 y4'121 y5'122 is'123 (aO t'124) t'124.length))(h9:inR (((i+1):Nat):Int))(eo'n:o'.length=o'116.length)(eo'c:o'.map aA=(o'116.map aA))(ei':i'=(i+1))(et'e:aO t'=(aO t'124))(et'k:t'.length=t'124.length):aC Tp 0 aGr (mE dl sk dc bib o.length (o.map aA) i (aO t) t.length) .normal (mE dl sk dc bib o'.length (o'.map aA) i' (aO t') t'.length):=by
 subst ei';have k1:=mq [0,1,2,3,4,5,6] 10 h3;have k2:=mq [0,1,2,3,4,5,6] 12 h7;rw [eo'n,eo'c,et'e,et'k];exact aC.fi (gI [0,1,2,2,6,3,11,22,36,50,87,1] [0,1,2,3,4,5,6,7,9]) [bT,.x (dcE y100 y101 y102 y103 y104 y105),k1.o,bF,bF,k2.o,hl8.k 1 (gI [0,1,2,2,6,3,11,1,13,2,17,16,37,48,87,1] [0,1,2,3,4,5,6,7,9,11,12])] (gc h9 (gc hl8.code (gc k2 (gc (aV h6) (gc h5 (gc (aQ h4) (gc k1 (gfl h2 h1 (gc (aK h0) gn)))))))))
theorem bMm(h0:(((aB dc).length:Nat):Int)≤(i:Int)):aC Tp 0 aGr (mE dl sk dc bib o.length (o.map aA) i (aO t) t.length) (.exit 0) (mE dl sk dc bib o.length (o.map aA) i (aO t) t.length):=by
 exact aC.fi (gI [0,1,2,2,6,3,11,22,36,50,87,1] [0,1,2,3,4,5,6,7,8]) [bF] (gc (aN h0) gn)
theorem bMn{z200 z201 z202 z203 z204 z205:Int}{b206:Bool}{T207:Lqb}(h0:is=true)(h1:[(aA y0)].length=1*1∧o.length+1≤1000000)(h2:aQs dl (aB sk) (aB dc) bM [y0,y1,y2,y3,y4,y5] [z200,z201,z202,z203,z204,z205] b206 t T207)(eo'n:o'.length=(o.length+1))(eo'c:o'.map aA=((o.map aA)++[(aA y0)]))(et'e:aO t'=(aO T207))(et'k:t'.length=T207.length):aC Tp 0 aNs (mF dl sk dc bib i y100 y101 y102 y103 y104 y105 o.length (o.map aA) y0 y1 y2 y3 y4 y5 is (aO t) t.length) .normal (mF dl sk dc bib i y100 y101 y102 y103 y104 y105 o'.length (o'.map aA) z200 z201 z202 z203 z204 z205 b206 (aO t') t'.length):=by
 have k1:=mq [0,1,2,3,4,5,6] 14 h2;rw [eo'n,eo'c,et'e,et'k];exact aC.fi (gI [0,1,2,2,6,3,11,1,13,2,17,16,37,48,87,1] [0,1,2,3,4,5,6,7,8,12,13]) [bT,k1.o] (gc k1 (gc h1 (gc h0 gn)))
theorem aKn(h0:is=false):aC Tp 0 aNs (mF dl sk dc bib i y100 y101 y102 y103 y104 y105 o.length (o.map aA) y0 y1 y2 y3 y4 y5 is (aO t) t.length) (.exit 2) (mF dl sk dc bib i y100 y101 y102 y103 y104 y105 o.length (o.map aA) y0 y1 y2 y3 y4 y5 is (aO t) t.length):=by
 exact aC.fi (gI [0,1,2,2,6,3,11,1,13,2,17,16,37,48,87,1] [0,1,2,3,4,5,6,7,8,9,10]) [bF] (gc h0 gn)
end
section
def chN(dl:Int)(dc:Lqq):Nat→List Int→List Int
 | 0,_=>[]
 | k+1,x=>match kA dl [] dc x with
  | some y=>dN y::chN dl dc k y
  | none=>[]
def mW(dl:Int)(dc:Lqq)(x:List Int):List Int:=dN x::((if dK x=4 then [dN ((nY dl [] dc x).getD zero6)] else [])++chN dl dc 10000 x)
def aCk(dl:Int)(dc:Lqq)(bib:Int)(o:List Int)(x:List Int):List Int:=if rN dl [] dc bib x then o++mW dl dc x else o
def uL(dl:Int)(dc:Lqq)(bib:Int):List Int:=dc.foldl (aCk dl dc bib) []
def eR(dl:Int)(dc:Lqq)(bib:Int):List Int:=(uL dl dc bib).mergeSort KL.leB
section
variable {dl:Int} {sk dc:Lqq}
theorem aAq{oc:List Int}{D:Lqq}(hd:bD D){x z:List Int}(hx:x∈D)(h:kA dl oc D x=some z):z∈D∧dN x<dN z∧dK z=6∧dAb z=dN x∧dA dl oc D z=true:=by
 rw [wV hd hx] at h
 have h1:=rD h;have h2:=aHh h;rw [kQ6] at h2
 obtain ⟨a1,a2⟩:=nR hd hx h1;exact ⟨a1,a2,by simpa using h2.1,(eE h1).2,h2.2⟩
theorem bBh{D:Lqq}(hd:bD D):∀ (k:Nat) (x:List Int),x∈D→((chN dl D k x).length:Int)≤9999-dN x
 | 0,x,hx=>by
  have:=cF hd hx;show ((0:Nat):Int)≤9999-dN x;omega
 | k+1,x,hx=>by
  unfold chN;cases hc:kA dl [] D x with
  | none =>
   have:=cF hd hx;show ((0:Nat):Int)≤9999-dN x;omega
  | some y =>
   obtain ⟨h1,h2,_⟩:=aAq hd hx hc;have:=bBh hd k y h1;dsimp only;rw [nW];omega
theorem aKm(hd:bD (aB dc)){bib:Int}{i:Nat}{y100 y101 y102 y103 y104 y105:Int}:∀ (k:Nat) (y:List Int),y∈aB dc→10000-dN y≤(k:Int)→∀ (o:List Int) (T:Lqb),cA dl [] (aB dc) T→(o.length:Int)+(10000-dN y)≤900000→∀ {y0 y1 y2 y3 y4 y5:Int},y=[y0,y1,y2,y3,y4,y5] →
  ∃ T' z0 z1 z2 z3 z4 z5,cA dl [] (aB dc) T'∧aE Tp 0 (sub (cd Tryz.f64) [1,1,1,1,1,0,1,0,0,1,1,0,0,1,1,1,1,1,0,0]) (mF dl sk dc bib i y100 y101 y102 y103 y104 y105 o.length (o.map aA) y0 y1 y2 y3 y4 y5 true (aO T) T.length) (.exit 2)
   (mF dl sk dc bib i y100 y101 y102 y103 y104 y105 (o++dN y::chN dl (aB dc) k y).length ((o++dN y::chN dl (aB dc) k y).map aA) z0 z1 z2 z3 z4 z5 false (aO T') T'.length)
 | 0,y,hy,hk=>by have:=cF hd hy;omega
 | k+1,y,hy,hk=>fun o T hT hl y0 y1 y2 y3 y4 y5 e=>by
  subst e;have hrg:=cF hd hy;obtain ⟨T',z0,z1,z2,z3,z4,z5,hT',hz,hC⟩:=bAc (sk:=aB sk) (ov:=bM) hd lQ hy hT;have hst:=bMn (dl:=dl) (sk:=sk) (dc:=dc) (bib:=bib) (i:=i) (y100:=y100) (y101:=y101) (y102:=y102) (y103:=y103) (y104:=y104) (y105:=y105) (o:=o) (o':=o++[y0]) (t':=T') rfl ⟨rfl,by omega⟩ hC (by simp) (by simp) rfl rfl
  cases hc:kA dl [] (aB dc) [y0,y1,y2,y3,y4,y5] with
  | none =>
   rw [hc] at hst
   have ec:chN dl (aB dc) (k+1) [y0,y1,y2,y3,y4,y5]=[]:=by unfold chN;rw [hc]
   rw [ec];exact ⟨T',z0,z1,z2,z3,z4,z5,hT',.step hst (.exit (aKn rfl) (by simp))⟩
  | some z =>
   rw [hc] at hst hz
   obtain ⟨h1,h2,_⟩:=aAq hd hy hc;have h2:y0<dN z:=h2;have ez:z=[z0,z1,z2,z3,z4,z5]:=hz;obtain ⟨T2,w0,w1,w2,w3,w4,w5,hT2,hL⟩:=aKm hd (bib:=bib) (i:=i) (y100:=y100) (y101:=y101) (y102:=y102) (y103:=y103) (y104:=y104) (y105:=y105) k z h1 (by have:dN [y0,y1,y2,y3,y4,y5]=y0:=rfl;omega) (o++[y0]) T' hT' (by
    rw [gG,List.length_singleton];have:dN [y0,y1,y2,y3,y4,y5]=y0:=rfl;omega) ez
   have ec:chN dl (aB dc) (k+1) [y0,y1,y2,y3,y4,y5]=dN z::chN dl (aB dc) k z:=by
    conv=>lhs;unfold chN
    rw [hc]
   rw [ec];have eo:o++dN [y0,y1,y2,y3,y4,y5]::dN z::chN dl (aB dc) k z=(o++[y0])++dN z::chN dl (aB dc) k z:=by
    rw [List.append_assoc];rfl
   rw [eo];exact ⟨T2,w0,w1,w2,w3,w4,w5,hT2,.step hst hL⟩
theorem bSe(hd:bD (aB dc)){bib:Int}{i:Nat}{x0 x1 x2 x3 x4 x5:Int}(hx:[x0,x1,x2,x3,x4,x5]∈aB dc)(o:List Int)(T:Lqb)(hT:cA dl [] (aB dc) T)(hl:o.length≤800000) :
  ∃ z0 z1 z2 z3 z4 z5 T1 T' w0 w1 w2 w3 w4 w5,aQs dl (aB sk) (aB dc) bM [x0,x1,x2,x3,x4,x5] [z0,z1,z2,z3,z4,z5] (kA dl [] (aB dc) [x0,x1,x2,x3,x4,x5]).isSome T T1∧cA dl [] (aB dc) T' ∧
   aE Tp 0 (sub (cd Tryz.f64) [1,1,1,1,1,0,1,0,0,1,1,0,0,1,1,1,1,1,0,0]) (mF dl sk dc bib i x0 x1 x2 x3 x4 x5 o.length (o.map aA) z0 z1 z2 z3 z4 z5 (kA dl [] (aB dc) [x0,x1,x2,x3,x4,x5]).isSome (aO T1) T1.length) (.exit 2)
   (mF dl sk dc bib i x0 x1 x2 x3 x4 x5 (o++chN dl (aB dc) 10000 [x0,x1,x2,x3,x4,x5]).length ((o++chN dl (aB dc) 10000 [x0,x1,x2,x3,x4,x5]).map aA) w0 w1 w2 w3 w4 w5 false (aO T') T'.length):=by
 obtain ⟨T1,z0,z1,z2,z3,z4,z5,hT1,hz,hC⟩:=bAc (sk:=aB sk) (ov:=bM) hd lQ hx hT;refine ⟨z0,z1,z2,z3,z4,z5,T1,?_⟩;cases hc:kA dl [] (aB dc) [x0,x1,x2,x3,x4,x5] with
 | none =>
  have ec:chN dl (aB dc) 10000 [x0,x1,x2,x3,x4,x5]=[]:=by
   show chN dl (aB dc) (9999+1) _=_;unfold chN;rw [hc]
  rw [hc] at hC
  rw [ec,List.append_nil];exact ⟨T1,z0,z1,z2,z3,z4,z5,hC,hT1,.exit (aKn rfl) (by simp)⟩
 | some z =>
  rw [hc] at hz hC
  obtain ⟨h1,h2,_⟩:=aAq hd hx hc;have hrg:=cF hd hx;obtain ⟨T2,w0,w1,w2,w3,w4,w5,hT2,hL⟩:=aKm (sk:=sk) hd (bib:=bib) (i:=i) (y100:=x0) (y101:=x1) (y102:=x2) (y103:=x3) (y104:=x4) (y105:=x5) 9999 z h1 (by omega) o T1 hT1 (by omega) (show z=[z0,z1,z2,z3,z4,z5] from hz)
  have ec:chN dl (aB dc) 10000 [x0,x1,x2,x3,x4,x5]=dN z::chN dl (aB dc) 9999 z:=by
   show chN dl (aB dc) (9999+1) _=_
   conv=>lhs;unfold chN
   rw [hc]
  rw [ec];exact ⟨T2,w0,w1,w2,w3,w4,w5,hC,hT2,hL⟩
theorem bSf(hd:bD (aB dc)){x:List Int}(hx:x∈aB dc):(mW dl (aB dc) x).length≤10001:=by
 have h1:=bBh (dl:=dl) hd 10000 x hx;have h2:=cF hd hx;unfold mW;rw [nW,gG]
 split
 ·rw [List.length_singleton];omega
 ·rw [List.length_nil];omega
theorem aNr(h:bZ dl sk dc){bib:Int}{i:Nat}{s0 s1:Int}(hp:kB (aB sk) bib=(i:Int))(hs:(aB sk)[i]? = some [s0,s1]){base:Nat}:FV Tp 64 [.p (.agg (aX dl sk dc)),.p (aA bib)] base (.tup [.p (aG (eR dl (aB dc) bib)),.p (aA 0)]) []:=by
 have hd:=fV h;have hl2:(aB dc).length≤40:=by rw [eV];exact h.len2
 obtain ⟨⟨o,T⟩,⟨hT,ho,hol⟩,hL⟩:=aE.ex (P:=Tp) (k:=0) (b:=sub (cd Tryz.f64) [1,1,1,1,1,0,1,0,0]) (e := .exit 0)
  (fun i (a:List Int × Lqb)=>mE dl sk dc bib a.1.length (a.1.map aA) i (aO a.2) a.2.length) (fun a=>mE dl sk dc bib a.1.length (a.1.map aA) (aB dc).length (aO a.2) a.2.length)
  (fun i a=>cA dl [] (aB dc) a.2∧a.1=((aB dc).take i).foldl (aCk dl (aB dc) bib) []∧a.1.length≤10001*i) (by simp) (aB dc).length
  (fun i a hi hI=>by
   obtain ⟨o,T⟩:=a;obtain ⟨hT,ho,hol⟩:=hI;dsimp only at hT ho hol
   have hm:=gD hi;obtain ⟨a,k,c,d,e,f,hy⟩:=len6 (hd.ud _ hm);have hx:(aB dc)[i]? = some [a,k,c,d,e,f]:=by rw [kQ0 hi,hy]
   rw [hy] at hm
   have et:((aB dc).take (i+1)).foldl (aCk dl (aB dc) bib) []=aCk dl (aB dc) bib o [a,k,c,d,e,f]:=by
    rw [List.take_add_one,hx,aEs,← ho];rfl
   have hXl:=bSf (dl:=dl) hd hm;obtain ⟨T2,q1,q2⟩:=cJc (sk:=aB sk) (ov:=bM) hd lQ bib hm hT;rw [et];unfold aCk;cases hh:rN dl [] (aB dc) bib [a,k,c,d,e,f] with
   | false =>
    rw [hh] at q2
    exact ⟨(o,T2),⟨q1,rfl,by dsimp only;omega⟩,bMj (by omega) hx hd.ud q2 rfl (aH (by omega)) rfl rfl rfl⟩
   | true =>
    rw [hh] at q2
    rw [if_pos rfl]
    by_cases h4:k=4
    ·obtain ⟨T3,z0,z1,z2,z3,z4,z5,hT3,hz,hC⟩:=bAb (sk:=aB sk) (ov:=bM) hd lQ hm q1
     obtain ⟨v0,v1,v2,v3,v4,v5,T4,T5,w0,w1,w2,w3,w4,w5,hC2,hT5,hl⟩:=bSe (sk:=sk) hd (bib:=bib) (i:=i) hm (o++[a,z0]) T3 hT3 (by simp;omega)
     have eX:o++mW dl (aB dc) [a,k,c,d,e,f]=(o++[a,z0])++chN dl (aB dc) 10000 [a,k,c,d,e,f]:=by
      unfold mW;rw [if_pos (show dK [a,k,c,d,e,f]=4 from h4),hz]
      simp [dN]
     have e1:(o++[a,z0]).length=o.length+1+1:=by simp
     have e2:(o++[a,z0]).map aA=(o.map aA++[aA a])++[aA z0]:=by simp
     rw [e1,e2] at hl
     refine ⟨(o++mW dl (aB dc) [a,k,c,d,e,f],T5),⟨hT5,rfl,by dsimp only;rw [gG];omega⟩,?_⟩
     rw [eX];exact bMk (by omega) hx hd.ud q2 rfl ⟨rfl,by show o.length+1≤1000000;omega⟩ h4 hC ⟨rfl,by show o.length+1+1≤1000000;omega⟩ hC2 hl (aH (by omega)) rfl rfl rfl rfl rfl
    ·obtain ⟨v0,v1,v2,v3,v4,v5,T4,T5,w0,w1,w2,w3,w4,w5,hC2,hT5,hl⟩:=bSe (sk:=sk) hd (bib:=bib) (i:=i) hm (o++[a]) T2 q1 (by simp;omega)
     have eX:o++mW dl (aB dc) [a,k,c,d,e,f]=(o++[a])++chN dl (aB dc) 10000 [a,k,c,d,e,f]:=by
      unfold mW;rw [if_neg (show ¬ dK [a,k,c,d,e,f]=4 from h4)]
      simp [dN]
     have e1:(o++[a]).length=o.length+1:=by simp
     have e2:(o++[a]).map aA=o.map aA++[aA a]:=by simp
     rw [e1,e2] at hl
     refine ⟨(o++mW dl (aB dc) [a,k,c,d,e,f],T5),⟨hT5,rfl,by dsimp only;rw [gG];omega⟩,?_⟩
     rw [eX];exact bMl (by omega) hx hd.ud q2 rfl ⟨rfl,by show o.length+1≤1000000;omega⟩ h4 hC2 hl (aH (by omega)) rfl rfl rfl rfl rfl)
  (fun a _=>bMm (by omega)) (acc:=([],[])) ⟨cA.nil,by simp,by simp⟩
 dsimp only at hT ho hol
 rw [List.take_length] at ho
 have:=cIo h hp hs hL (by show o.length≤1000000;omega) (base:=base)
 unfold eR uL;rw [← ho];exact this
end
end
section

end
section

end
section

end
section

end
section
section
variable {dl:Int} {oc:List Int} {D:Lqq} {x:List Int}
end
end
section
section
variable {dl:Int} {oc:List Int} {D:Lqq} {x:List Int}
end
end
section
section
variable {dl:Int} {oc:List Int} {R:List Int→Bool}
end
end
section
section
variable {dl:Int} {oc oc':List Int}
end
section
variable {dl:Int} {oc oc':List Int} {F:List Int→Int}
end
section
variable {dc:Lqq}
theorem aGs(hd:bD dc):∀ (k:Nat) (x:List Int),x∈dc→dN x<(k:Int)→lV dc k x=lV dc (k+1) x
 | 0,x,hx,hk=>by have:=cF hd hx;omega
 | k+1,x,hx,hk=>by
  unfold lV
  by_cases h4:dK x≤4
  ·rw [if_pos h4,if_pos h4]
  ·rw [if_neg h4,if_neg h4]
   cases h:ofN dc (dAb x) with
   | none=>rfl
   | some y =>
    obtain ⟨h1,h2⟩:=qE h;have ho:=hd.ord _ hx;unfold orB at ho
    rw [if_neg (show ¬ x.getD 1 0≤4 from h4)] at ho
    have ho2:=bV.1 ho;have h3:dAb x≤dN x-1:=ho2.2;exact aGs hd k y h1 (by omega)
theorem xF(hd:bD dc){s y:List Int}(hs:s∈dc)(hy:y∈dc)(e:dAb s=dN y):lW dc s=lW dc y:=by
 have hk:¬ dK s≤4:=fun h4=>by
  have ho:=hd.ord _ hs;unfold orB at ho
  rw [if_pos (show s.getD 1 0≤4 from h4)] at ho
  have h0:dAb s=0:=by simpa using ho
  have:=cF hd hy;omega
 unfold lW;have e1:lV dc (10000+1) s=lV dc 10000 y:=by
  conv=>lhs;unfold lV
  rw [if_neg hk,e,aCu hd hy]
 rw [e1];exact aGs hd 10000 y hy (by have:=cF hd hy;omega)
theorem aGt{y:List Int}(h:dK y≤4):lW dc y=dB y:=by
 unfold lW lV;rw [if_pos h]
end
end
section
theorem bYz{l:List Int}(h:l.Nodup):(l.mergeSort KL.leB).Pairwise (· < ·):=by
 have h1:(l.mergeSort KL.leB).Pairwise fun a b=>KL.leB a b=true:=List.pairwise_mergeSort (fun a b c h1 h2=>by simp only [KL.leB,decide_eq_true_eq] at *;omega) (fun a b=>by simp only [KL.leB,aCe,decide_eq_true_eq];omega) l
 have h2:(l.mergeSort KL.leB).Nodup:=(List.mergeSort_perm l KL.leB).nodup_iff.2 h;exact (h1.and h2).imp fun {a b} q=>by
  have q1:a≤b:=of_decide_eq_true q.1;have q2:a≠b:=q.2;omega
end
section
theorem bSa:∀ {a b:List Int},a.Pairwise (· < ·)→b.Pairwise (· < ·)→(∀ n,n∈a↔n∈b)→a=b
 | [],[],_,_,_=>rfl
 | [],y::b,_,_,h=>by have:=(h y).2 (jJ ..);cases this
 | x::a,[],_,_,h=>by have:=(h x).1 (jJ ..);cases this
 | x::a,y::b,ha,hb,h=>by
  obtain ⟨a1,a2⟩:=aHe.1 ha;obtain ⟨b1,b2⟩:=aHe.1 hb;have hxy:x=y:=by
   rcases fD.1 ((h x).1 (jJ ..)) with q | q
   ·exact q
   ·rcases fD.1 ((h y).2 (jJ ..)) with r | r
    ·exact r.symm
    ·have:=a1 y r;have:=b1 x q;omega
  subst hxy
  congr 1
  refine bSa a2 b2 fun n=>⟨fun hn => ?_,fun hn => ?_⟩
  ·rcases fD.1 ((h n).1 (kQ7 _ hn)) with q | q
   ·have:=a1 n hn;omega
   ·exact q
  ·rcases fD.1 ((h n).2 (kQ7 _ hn)) with q | q
   ·have:=b1 n hn;omega
   ·exact q
theorem bD.sub{D:Lqq}(h:bD D)(p:List Int→Bool):bD (D.filter p) :=
 ⟨fun y hy=>h.ud y (kW.1 hy).1,gU (sG _ _) h.len,fun y hy=>h.rng y (kW.1 hy).1,h.up.sublist List.filter_sublist,fun y hy=>h.ord y (kW.1 hy).1⟩
section
variable {dl:Int} {D:Lqq} {bib:Int}
def yT(D:Lqq):Nat→List Int→Int
 | 0,_=>0
 | k+1,x=>if dK x≤4 then dN x else match ofN D (dAb x) with
  | some y=>yT D k y
  | none=>0
def aBv(D:Lqq)(x:List Int):Int:=yT D (10000+1) x
theorem aGn(hd:bD D):∀ (k:Nat) (x:List Int),x∈D→dN x<(k:Int)→yT D k x=yT D (k+1) x
 | 0,x,hx,hk=>by have:=cF hd hx;omega
 | k+1,x,hx,hk=>by
  unfold yT
  by_cases h4:dK x≤4
  ·rw [if_pos h4,if_pos h4]
  ·rw [if_neg h4,if_neg h4]
   cases h:ofN D (dAb x) with
   | none=>rfl
   | some y =>
    obtain ⟨h1,h2⟩:=qE h;have ho:=hd.ord _ hx;unfold orB at ho
    rw [if_neg (show ¬ x.getD 1 0≤4 from h4)] at ho
    have ho2:=bV.1 ho;have h3:dAb x≤dN x-1:=ho2.2;exact aGn hd k y h1 (by omega)
theorem xE(hd:bD D){s y:List Int}(hs:s∈D)(hy:y∈D)(e:dAb s=dN y):aBv D s=aBv D y:=by
 have hk:¬ dK s≤4:=fun h4=>by
  have ho:=hd.ord _ hs;unfold orB at ho
  rw [if_pos (show s.getD 1 0≤4 from h4)] at ho
  have h0:dAb s=0:=by simpa using ho
  have:=cF hd hy;omega
 unfold aBv;have e1:yT D (10000+1) s=yT D 10000 y:=by
  conv=>lhs;unfold yT
  rw [if_neg hk,e,aCu hd hy]
 rw [e1];exact aGn hd 10000 y hy (by have:=cF hd hy;omega)
theorem aGo{y:List Int}(h:dK y≤4):aBv D y=dN y:=by
 unfold aBv yT;rw [if_pos h]
theorem aGp(hd:bD D):∀ (k:Nat) (x:List Int),x∈D→10000-dN x≤(k:Int)→∀ n∈chN dl D k x,∃ z∈D,dN z=n∧dN x<dN z∧dK z=6∧dA dl [] D z=true∧aBv D z=aBv D x∧lW D z=lW D x∧(∃ w∈D,kA dl [] D w=some z)∧∀ y,kA dl [] D z=some y→dN y∈chN dl D k x
 | 0,x,hx,hk=>by have:=cF hd hx;omega
 | k+1,x,hx,hk=>fun n hn=>by
  unfold chN at hn
  cases hc:kA dl [] D x with
  | none=>rw [hc] at hn;cases hn
  | some y =>
   rw [hc] at hn
   obtain ⟨h1,h2,h3,h4,h5⟩:=aAq hd hx hc;have ec:chN dl D (k+1) x=dN y::chN dl D k y:=by
    conv=>lhs;unfold chN
    rw [hc]
   rcases fD.1 hn with rfl | hn
   ·refine ⟨y,h1,rfl,h2,h3,h5,xE hd h1 hx h4,xF hd h1 hx h4,⟨x,hx,hc⟩,fun y2 hy2 => ?_⟩
    rw [ec];refine kQ7 _ ?_;cases k with
    | zero=>have:=cF hd h1;omega
    | succ k =>
     unfold chN;rw [hy2];exact jJ ..
   ·obtain ⟨z,q1,q2,q3,q4,q5,q6,q7,q8,q9⟩:=aGp hd k y h1 (by omega) n hn
    refine ⟨z,q1,q2,by omega,q4,q5,q6.trans (xE hd h1 hx h4),q7.trans (xF hd h1 hx h4),q8,fun y2 hy2 => ?_⟩
    rw [ec];exact kQ7 _ (q9 y2 hy2)
theorem bSb(hd:bD D):∀ (k:Nat) (x:List Int),x∈D→(chN dl D k x).Pairwise (· < ·)∧∀ n∈chN dl D k x,dN x<n
 | 0,x,hx=>⟨List.Pairwise.nil,fun n hn=>by cases hn⟩
 | k+1,x,hx=>by
  unfold chN;cases hc:kA dl [] D x with
  | none=>exact ⟨List.Pairwise.nil,fun n hn=>by cases hn⟩
  | some y =>
   obtain ⟨h1,h2,_⟩:=aAq hd hx hc;obtain ⟨q1,q2⟩:=bSb hd k y h1;refine ⟨aHe.2 ⟨q2,q1⟩,fun n hn => ?_⟩
   rcases fD.1 hn with rfl | hn
   ·exact h2
   ·have:=q2 n hn;omega
theorem aNq{x:List Int}:rN dl [] D bib x=true↔dK x≤4∧dB x=bib∧dA dl [] D x=true∧(dK x=4→nQ dl [] D x=true):=by
 unfold rN;rw [kQ6,kQ6,kQ6,aCe];simp only [decide_eq_true_eq,beq_iff_eq,Bool.not_eq_true',beq_eq_false_iff_ne,ne_eq];constructor
 ·rintro ⟨h1,h2,h3,h4⟩
  exact ⟨h1,h2,h3,fun e=>h4.resolve_left fun q=>q e⟩
 ·rintro ⟨h1,h2,h3,h4⟩
  refine ⟨h1,h2,h3,?_⟩
  by_cases e:dK x=4
  ·exact .inr (h4 e)
  ·exact .inl e
theorem aYk(hd:bD D){x:List Int}(hx:x∈D)(hu:nQ dl [] D x=true):∃ z,nY dl [] D x=some z∧z∈D∧dN x<dN z∧dAb z=dN x∧dK z=8∧dA dl [] D z=true:=by
 rw [bPa hd hx] at hu
 cases hr:nY dl [] D x with
 | none=>rw [hr] at hu;cases hu
 | some z =>
  rw [hr] at hu
  have hr2:=hr;rw [zU hd hx] at hr2
  have h1:=rD hr2;have h2:=aHh hr2;rw [kQ6] at h2
  obtain ⟨a1,a2⟩:=nR hd hx h1;exact ⟨z,rfl,a1,a2,(eE h1).2,by simpa using hu,h2.2⟩
theorem aAp(hd:bD D){x:List Int}(hx:x∈D)(hh:rN dl [] D bib x=true):∀ n∈mW dl D x,∃ z∈D,dN z=n∧dA dl [] D z=true∧aBv D z=dN x∧lW D z=bib∧(z=x∨dK z=6∨dK z=8)∧(dK z=6→∃ w∈D,kA dl [] D w=some z)∧(dK z≠8→∀ y,kA dl [] D z=some y→dN y∈mW dl D x):=by
 obtain ⟨h1,h2,h3,h4⟩:=aNq.1 hh;have hrg:=cF hd hx;intro n hn;have hch:∀ m∈chN dl D 10000 x,m∈mW dl D x:=fun m hm=>by
  unfold mW;exact kQ7 _ (zG _ hm)
 unfold mW at hn
 rcases fD.1 hn with rfl | hn
 ·refine ⟨x,hx,rfl,h3,aGo h1,(aGt h1).trans h2,.inl rfl,fun e=>by omega,fun _ y hy=>hch _ ?_⟩
  show dN y∈chN dl D (9999+1) x;unfold chN;rw [hy];exact jJ ..
 ·rcases jK.1 hn with hn | hn
  ·by_cases e4:dK x=4
   ·rw [if_pos e4] at hn
    obtain ⟨z,q1,q2,q3,q4,q5,q6⟩:=aYk hd hx (h4 e4);rw [q1] at hn
    refine ⟨z,q2,(List.mem_singleton.1 hn).symm,q6,(xE hd q2 hx q4).trans (aGo h1),((xF hd q2 hx q4).trans (aGt h1)).trans h2,.inr (.inr q5),fun e=>by omega,fun e=>absurd q5 e⟩
   ·rw [if_neg e4] at hn;cases hn
  ·obtain ⟨z,q1,q2,q3,q4,q5,q6,q7,q8,q9⟩:=aGp hd 10000 x hx (by omega) n hn
   exact ⟨z,q1,q2,q5,q6.trans (aGo h1),(q7.trans (aGt h1)).trans h2,.inr (.inl q4),fun _=>q8,fun _ y hy=>hch _ (q9 y hy)⟩
theorem aYl(hd:bD D){x:List Int}(hx:x∈D)(hh:rN dl [] D bib x=true):(mW dl D x).Nodup:=by
 obtain ⟨h1,h2,h3,h4⟩:=aNq.1 hh;have hrg:=cF hd hx;obtain ⟨q1,q2⟩:=bSb (dl:=dl) hd 10000 x hx;have hn:(chN dl D 10000 x).Nodup:=q1.imp fun {a b} q e=>by omega
 unfold mW
 by_cases e4:dK x=4
 ·rw [if_pos e4]
  obtain ⟨z,r1,r2,r3,r4,r5,r6⟩:=aYk hd hx (h4 e4);rw [r1];show (dN x::(dN z::chN dl D 10000 x)).Nodup;refine List.nodup_cons.2 ⟨fun hm => ?_,List.nodup_cons.2 ⟨fun hm => ?_,hn⟩⟩
  ·rcases fD.1 hm with e | hm
   ·omega
   ·have:=q2 _ hm;omega
  ·obtain ⟨w,s1,s2,_,s4,_⟩:=aGp hd 10000 x hx (by omega) _ hm
   have:=oP hd s1 r2 s2;subst this;omega
 ·rw [if_neg e4]
  exact List.nodup_cons.2 ⟨fun hm=>by have:=q2 _ hm;omega,hn⟩
theorem aGq(dl:Int)(D:Lqq)(bib:Int):∀ (l:Lqq) (o:List Int),l.foldl (aCk dl D bib) o=o++(l.filter (rN dl [] D bib)).flatMap (mW dl D)
 | [],o=>by simp
 | x::l,o=>by
  rw [nK,aGq dl D bib l];unfold aCk;cases hh:rN dl [] D bib x with
  | true=>rw [if_pos rfl,List.filter_cons_of_pos hh,List.flatMap_cons,List.append_assoc]
  | false=>rw [if_neg Bool.false_ne_true,List.filter_cons_of_neg (by rw [hh];exact Bool.false_ne_true)]
theorem bSc{n:Int}:n∈eR dl D bib↔∃ x∈D,rN dl [] D bib x=true∧n∈mW dl D x:=by
 unfold eR uL;rw [(List.mergeSort_perm _ _).mem_iff,aGq,List.nil_append,List.mem_flatMap];constructor
 ·rintro ⟨x,hx,hn⟩
  obtain ⟨a,b⟩:=kW.1 hx;exact ⟨x,a,b,hn⟩
 ·rintro ⟨x,a,b,hn⟩
  exact ⟨x,kW.2 ⟨a,b⟩,hn⟩
theorem aYm(hd:bD D):(uL dl D bib).Nodup:=by
 unfold uL;rw [aGq,List.nil_append];unfold List.Nodup;rw [List.pairwise_flatMap];refine ⟨fun x hx => ?_,(hd.up.sublist List.filter_sublist).imp_of_mem fun {a b} ha hb q n hn m hm e => ?_⟩
 ·obtain ⟨h1,h2⟩:=kW.1 hx
  exact aYl hd h1 h2
 ·obtain ⟨a1,a2⟩:=kW.1 ha
  obtain ⟨b1,b2⟩:=kW.1 hb;obtain ⟨z,z1,z2,_,z4,_⟩:=aAp hd a1 a2 n hn;obtain ⟨w,w1,w2,_,w4,_⟩:=aAp hd b1 b2 m hm;have:=oP hd z1 w1 (by omega)
  subst this;omega
theorem bYy(hd:bD D):(eR dl D bib).Pairwise (· < ·):=bYz (aYm hd)
theorem bSd(hd:bD D){n:Int}(hn:n∈eR dl D bib):∃ x∈D,dN x=n:=by
 obtain ⟨x,hx,hh,hn⟩:=bSc.1 hn;obtain ⟨z,h1,h2,_⟩:=aAp hd hx hh n hn;exact ⟨z,h1,h2⟩
theorem aRy{q:List Int}{x:List Int}:x∈cX D q↔x∈D∧dN x∈q:=by
 unfold cX;rw [kW,Bool.not_not,List.contains_iff_mem]
theorem bBg(hd:bD D):eR dl D bib=(cX D (eR dl D bib)).map dN:=by
 refine bSa (bYy hd) ?_ fun n=>⟨fun hn => ?_,fun hn => ?_⟩
 ·rw [List.pairwise_map]
  exact hd.up.sublist List.filter_sublist
 ·obtain ⟨x,hx,e⟩:=bSd hd hn
  exact dJ.2 ⟨x,aRy.2 ⟨hx,by rw [e];exact hn⟩,e⟩
 ·obtain ⟨x,hx,rfl⟩:=dJ.1 hn
  exact (aRy.1 hx).2
end
end
section
section
variable {dl:Int} {sk dc:Lqq} {bib:Int}
def mkB(dc:Lqq)(o:List Int):List Bool:=dc.map fun x=>o.contains (dN x)
theorem fL(o:List Int):(mkB dc o).length=dc.length:=by unfold mkB;rw [kQ8]
theorem rY(l:List Bool):(l.map boE).flatten=l.map blP:=by
 induction l with
 | nil=>rfl
 | cons b l ih=>rw [gH,tE,ih];rfl
theorem aNm(l:List Bool)(i:Nat):((l.map boE).flatten).set (i*1) (blP true)=((l.set i true).map boE).flatten:=by
 rw [rY,rY,List.map_set,Nat.mul_one]
theorem aCy(hd:bD dc){i:Nat}{x:List Int}(hx:dc[i]? = some x)(o:List Int):(mkB dc o).set i true=mkB dc (o++[dN x]):=by
 have hi:=aL hx;refine List.ext_getElem? fun j => ?_
 unfold mkB;rw [kQ9]
 by_cases hji:i=j
 ·subst hji
  rw [aTt (by rw [kQ8];exact hi),hx]
  simp
 ·rw [bDa hji,kQ9]
  cases hj:dc[j]? with
  | none=>rfl
  | some y =>
   have hne:dN y≠dN x:=fun e=>by
    have:=oP hd (kQ1 hj) (kQ1 hx) e;subst this;obtain ⟨hi1,e1⟩:=kQ3.1 hx;obtain ⟨hj1,e2⟩:=kQ3.1 hj;have hup:=hd.up
    rcases Nat.lt_or_ge i j with h | h
    ·have:=List.pairwise_iff_getElem.1 hup i j hi1 hj1 h
     rw [e1,e2] at this;omega
    ·have:=List.pairwise_iff_getElem.1 hup j i hj1 hi1 (by omega)
     rw [e1,e2] at this;omega
   simp only [Option.map_some,List.contains_eq_mem,jK,List.mem_singleton,hne,or_false]
theorem bBe(hd:bD dc){i:Nat}{x:List Int}(h:dc[i]? = some x):∃ la op,((bH dl [] dc).map (bR dl))[i]? = some (la,dA dl [] dc x,op,nQ dl [] dc x,kY dl [] dc x,((nY dl [] dc x).map dN).getD 0,((kA dl [] dc x).map dN).getD 0):=by
 obtain ⟨s,h1,h2,h3⟩:=bOe (dl:=dl) (oc:=[]) hd h;refine ⟨iB dl s.x,fA (dK s.x) && (s.cnt && s.rul.isNone),?_⟩;rw [kQ9,h1];show some (bR dl s)=_;have e1:dA dl [] dc x=s.cnt:=by unfold dA;rw [h3]
 have e2:nQ dl [] dc x=s.upd:=by unfold nQ;rw [h3]
 have e3:kY dl [] dc x=s.much:=by unfold kY;rw [h3]
 have e4:nY dl [] dc x=s.rul:=by unfold nY;rw [h3]
 have e5:kA dl [] dc x=s.chg:=by unfold kA;rw [h3]
 rw [e1,e2,e3,e4,e5];rfl
theorem bBf(hd:bD dc){z:List Int}(hz:z∈dc):∃ j:Nat,bJ (fun x=>decide (x.getD 0 0=dN z)) dc=(j:Int)∧dc[j]? = some z:=by
 rcases cAn dc (dN z) with ⟨j,x,h1,h2,h3⟩ | ⟨h1,h2⟩
 ·refine ⟨j,h1,?_⟩
  have:=oP hd (kQ1 h2) hz (by
   have:=aHh h3;simpa using this)
  rw [← this];exact h2
 ·have:=aCc.1 h2 z hz
  simp at this
theorem aAo(hd:bD dc){i:Nat}:∀ (n:Nat) (x:List Int) (j:Nat),dc[j]? = some x→10000-dN x≤(n:Int)→∀ (o:List Int),
  ∃ k':Int,aE Tp 0 (sub (cd Tryz.f67) [1,1,1,0,1,0,0,1,0,0,1,1,1,1,1,0,0]) (pR dl sk dc bib i (mkB dc o).length (((mkB dc o).map boE).flatten) (j:Int)) (.exit 2) (pR dl sk dc bib i (mkB dc (o++chN dl dc n x)).length (((mkB dc (o++chN dl dc n x)).map boE).flatten) k')
 | 0,x,j,hx,hn=>fun o=>by have:=cF hd (kQ1 hx);omega
 | n+1,x,j,hx,hn=>fun o=>by
  have hlen:=hd.len;have hll:((bH dl [] dc).map (bR dl)).length=dc.length:=by rw [kQ8,gJ]
  have hj:=aL hx;have hm:=kQ1 hx;obtain ⟨la,op,hr⟩:=bBe (dl:=dl) hd hx;have hr':((bH dl [] dc).map (bR dl))[((j:Nat):Int).toNat]? = some (la,dA dl [] dc x,op,nQ dl [] dc x,kY dl [] dc x,((nY dl [] dc x).map dN).getD 0,((kA dl [] dc x).map dN).getD 0):=by rw [aHg];exact hr
  unfold chN;cases hc:kA dl [] dc x with
  | none =>
   rw [hc] at hr'
   rw [List.append_nil];exact ⟨j,.exit (bMi ⟨by omega,by rw [hll];omega⟩ hr' (by decide)) (by simp)⟩
  | some z =>
   rw [hc] at hr'
   obtain ⟨h1,h2,_⟩:=aAq hd hm hc;have hrg:=cF hd h1;obtain ⟨jz,hz1,hz2⟩:=bBf hd h1;have hjz:=aL hz2;obtain ⟨k',hk⟩:=aAo hd n z jz hz2 (by omega) (o++[dN z])
   refine ⟨k',.step (bMh (is':=mkB dc (o++[dN z])) ⟨by omega,by rw [hll];omega⟩ hr' (show (0:Int)<dN z by omega) hd.ud hlen hz1 ⟨by omega,by rw [fL];omega⟩ ?_ ?_ ?_) ?_⟩
   ·rw [rY,kQ8,fL];omega
   ·rw [fL,fL]
   ·rw [aNm,aHg,aCy hd hz2]
   ·rw [List.append_assoc] at hk
    exact hk
theorem bYw:mkB dc []=List.replicate dc.length false:=by
 unfold mkB
 induction dc with
 | nil=>rfl
 | cons x r ih=>rw [gH,ih];rfl
theorem bYx(hd:bD dc){i:Nat}{x:List Int}(hx:dc[i]? = some x)(o:List Int) :
  aC Tp 0 (sub (cd Tryz.f67) [1,1,1,0,1,0,0]) (fX dl sk dc bib (mkB dc o).length (((mkB dc o).map boE).flatten) i) .normal (fX dl sk dc bib (mkB dc (aCk dl dc bib o x)).length (((mkB dc (aCk dl dc bib o x)).map boE).flatten) (i+1)):=by
 have hlen:=hd.len;have hll:((bH dl [] dc).map (bR dl)).length=dc.length:=by rw [kQ8,gJ]
 have hi:=aL hx;have hm:=kQ1 hx;have hrg:=cF hd hm;obtain ⟨la,op,hr⟩:=bBe (dl:=dl) hd hx;have hlt:(i:Int)<((((bH dl [] dc).map (bR dl)).length:Nat):Int):=by rw [hll];omega
 have hn:inR (((i+1:Nat):Nat):Int):=aH (by omega)
 have hih:=aNq (dl:=dl) (D:=dc) (bib:=bib) (x:=x);unfold aCk;cases hh:rN dl [] dc bib x with
 | false =>
  rw [hh] at hih
  rw [if_neg Bool.false_ne_true];obtain ⟨y0,k,y2,y3,y4,y5,rfl⟩:=len6 (hd.ud x hm);have hih:¬ (k≤4∧y3=bib∧dA dl [] dc [y0,k,y2,y3,y4,y5]=true∧(k=4→nQ dl [] dc [y0,k,y2,y3,y4,y5]=true)):=fun h=>by
   have:=hih.2 h;cases this
  by_cases h1:k≤4
  ·by_cases h2:y3=bib
   ·cases hc:dA dl [] dc [y0,k,y2,y3,y4,y5] with
    | false=>rw [hc] at hr;exact bLz hlt hx hd.ud h1 h2 ⟨by omega,hlt⟩ hr rfl hn rfl
    | true =>
     rw [hc] at hr hih
     cases hu:nQ dl [] dc [y0,k,y2,y3,y4,y5] with
     | true=>exact absurd ⟨h1,h2,rfl,fun _=>hu⟩ hih
     | false =>
      rw [hu] at hr hih
      have h4:k=4:=Classical.not_not.1 fun h4=>hih ⟨h1,h2,rfl,fun h=>absurd h h4⟩
      exact bMa hlt hx hd.ud h1 h2 ⟨by omega,hlt⟩ hr rfl h4 rfl hn rfl
   ·exact bLy hlt hx hd.ud h1 h2 hn rfl
  ·exact bLx hlt hx hd.ud (by omega) hn rfl
 | true =>
  rw [hh] at hih
  rw [if_pos rfl];obtain ⟨g1,g2,g3,g4⟩:=hih.1 rfl
  by_cases h4:dK x=4
  ·have hu:=g4 h4
   obtain ⟨z,z1,z2,z3,_⟩:=aYk hd hm hu;obtain ⟨jz,q1,q2⟩:=bBf hd z2;have hjz:=aL q2;rw [g3,hu,z1] at hr
   have e:o++mW dl dc x=(o++[dN x]++[dN z])++chN dl dc 10000 x:=by
    unfold mW;rw [if_pos h4,z1];simp
   obtain ⟨k',hk⟩:=aAo (sk:=sk) hd (bib:=bib) (i:=i) 10000 x i hx (by omega) (o++[dN x]++[dN z])
   rw [← e] at hk
   obtain ⟨y0,k,y2,y3,y4,y5,rfl⟩:=len6 (hd.ud x hm);refine bMb (k'115:=k') (is'114:=mkB dc (o++mW dl dc [y0,k,y2,y3,y4,y5])) hlt hx hd.ud g1 g2 ⟨by omega,hlt⟩ hr rfl h4 rfl ⟨by omega,by rw [fL];omega⟩ (by rw [rY,kQ8,fL];omega) hlen q1 ⟨by omega,by rw [fL];omega⟩ (by rw [rY,nJ,kQ8,fL];omega) ?_ hn rfl rfl rfl
   rw [aNm,aCy hd hx,aNm,aHg,aCy hd q2,fL,← fL (dc:=dc) (o++[dN [y0,k,y2,y3,y4,y5]]++[dN z])];exact hk
  ·have e:o++mW dl dc x=(o++[dN x])++chN dl dc 10000 x:=by
    unfold mW;rw [if_neg h4];simp
   obtain ⟨k',hk⟩:=aAo (sk:=sk) hd (bib:=bib) (i:=i) 10000 x i hx (by omega) (o++[dN x])
   rw [← e] at hk
   rw [g3] at hr
   obtain ⟨y0,k,y2,y3,y4,y5,rfl⟩:=len6 (hd.ud x hm);refine bMc (k'114:=k') (is'113:=mkB dc (o++mW dl dc [y0,k,y2,y3,y4,y5])) hlt hx hd.ud g1 g2 ⟨by omega,hlt⟩ hr rfl h4 ⟨by omega,by rw [fL];omega⟩ (by rw [rY,kQ8,fL];omega) ?_ hn rfl rfl rfl
   rw [aNm,aCy hd hx,fL,← fL (dc:=dc) (o++[dN [y0,k,y2,y3,y4,y5]])];exact hk
theorem aNn(hd:bD dc){base:Nat}:FV Tp 67 [.p (.agg (aX dl sk dc)),.p (aA bib)] base (.p (aG (eR dl dc bib))) []:=by
 have hlen:=hd.len;have hll:((bH dl [] dc).map (bR dl)).length=dc.length:=by rw [kQ8,gJ]
 have h0:=aE.range (P:=Tp) (k:=0) (b:=sub (cd Tryz.f67) [1,1,1,0,1,0,0]) (e := .exit 0) (fun i (o:List Int)=>fX dl sk dc bib (mkB dc o).length (((mkB dc o).map boE).flatten) i) (fun o=>fX dl sk dc bib (mkB dc o).length (((mkB dc o).map boE).flatten) dc.length) (aCk dl dc bib) (fun _ _=>True) (by simp) dc (a0:=[]) trivial
  (fun i x o hx _=>⟨trivial,bYx hd hx o⟩)
  (fun o _=>bMd (by rw [hll];omega))
 have eF:dc.foldl (aCk dl dc bib) []=uL dl dc bib:=rfl;rw [eF] at h0
 have e0:(((mkB dc []).map boE).flatten)=List.replicate (((bH dl [] dc).map (bR dl)).length) (blP false):=by
  rw [rY,bYw,List.map_replicate,hll]
 rw [e0,fL,← hll] at h0
 rw [hll] at h0
 have h1:=aE.range (P:=Tp) (k:=0) (b:=sub (cd Tryz.f67) [1,1,1,1,1,0,1,0,0]) (e := .exit 4) (fun i (o:List Int)=>pQ dl sk dc (mkB dc (uL dl dc bib)) o.length (o.map aA) i) (fun o=>pQ dl sk dc (mkB dc (uL dl dc bib)) o.length (o.map aA) dc.length) (fun o x=>if (uL dl dc bib).contains (dN x) then o++[dN x] else o) (fun i o=>o.length≤i) (by simp) dc (a0:=[]) (by simp)
  (fun i x o hx ho=>by
   have hi:=aL hx;have hb:(mkB dc (uL dl dc bib))[i]? = some ((uL dl dc bib).contains (dN x)):=by
    unfold mkB;rw [kQ9,hx];rfl
   have hil:0≤(i:Int)∧(i:Int)<(((mkB dc (uL dl dc bib)).length:Nat):Int):=⟨by omega,by rw [fL];omega⟩
   obtain ⟨y0,k,y2,y3,y4,y5,rfl⟩:=len6 (hd.ud x (kQ1 hx));cases hc:(uL dl dc bib).contains (dN [y0,k,y2,y3,y4,y5]) with
   | true =>
    rw [hc] at hb
    rw [if_pos rfl];exact ⟨by rw [gG,List.length_singleton];omega,bMe (by rw [hll];omega) hil hb rfl hx hd.ud ⟨rfl,by omega⟩ (aH (by omega)) (by simp) (by simp [dN]) rfl⟩
   | false =>
    rw [hc] at hb
    rw [if_neg Bool.false_ne_true];exact ⟨by omega,bMf (by rw [hll];omega) hil hb rfl (aH (by omega)) rfl⟩)
  (fun o _=>bMg (by rw [hll];omega))
 have ef:∀ (l:Lqq) (o:List Int),l.foldl (fun o x=>if (uL dl dc bib).contains (dN x) then o++[dN x] else o) o=o++(l.filter fun x=>(uL dl dc bib).contains (dN x)).map dN:=by
  intro l
  induction l with
  | nil=>intro o;simp
  | cons x l ih =>
   intro o;rw [nK,ih,List.filter_cons];cases h:(uL dl dc bib).contains (dN x) with
   | true=>simp
   | false=>simp
 rw [ef,List.nil_append] at h1
 have eK:(dc.filter fun x=>(uL dl dc bib).contains (dN x)).map dN=eR dl dc bib:=by
  rw [bBg hd]
  congr 1
  unfold cX;refine List.filter_congr fun x _ => ?_
  rw [Bool.not_not,Bool.eq_iff_iff,List.contains_iff_mem,List.contains_iff_mem];unfold eR;exact (List.mergeSort_perm _ _).mem_iff.symm
 rw [eK] at h1
 exact cIn hd ⟨by omega,by omega,by omega⟩ (by rw [hll];exact h0) h1
end
end
section
section
variable {dl:Int} {sk dc:Lqq}
theorem aYn(us:uni 2 sk)(l1:sk.length≤1000):∀ (d b:Nat) (o:Lqq),b+d=1000→o.length≤b→uni 2 o→∃ b' o',uni 2 o'∧aE Tp 0 (sub (cd Tryz.f36) [1,1,0,1,0,0]) (kN dl sk dc b o.length (o.flatten.map aA)) (.exit 0) (kN dl sk dc b' o'.length (o'.flatten.map aA))
 | 0,b,o,hb,ho,hu=>⟨b,o,hu,.exit (aJb (by omega)) (by simp)⟩
 | d+1,b,o,hb,ho,hu=>by
  by_cases h:0≤bJ (fun x=>decide (x.getD 0 0=(b:Int))) sk
  ·obtain ⟨x,hx,_⟩:=aCq h
   obtain ⟨y0,y1,rfl⟩:=len2 (us x (kQ1 hx));obtain ⟨b',o',hu',hL⟩:=aYn us l1 d (b+1) (o++[[y0,y1]]) (by omega) (by simp;omega) (aQi hu rfl)
   exact ⟨b',o',hu',.step (aIz (by omega) us l1 rfl h hx h ⟨rfl,by omega⟩ (aH (by omega)) rfl (by simp) (by simp)) hL⟩
  ·obtain ⟨b',o',hu',hL⟩:=aYn us l1 d (b+1) o (by omega) (by omega) hu
   exact ⟨b',o',hu',.step (aJa (by omega) us l1 rfl (by omega) (aH (by omega)) rfl) hL⟩
theorem aYo(ud:uni 6 dc)(l2:dc.length≤1000){o:Lqq}:∀ (d n:Nat) (q:Lqq),n+d=10000→q.length≤n→uni 6 q→∃ n' q',uni 6 q'∧aE Tp 0 (sub (cd Tryz.f36) [1,1,1,0,1,0,0]) (kO dl sk dc o n q.length (q.flatten.map aA)) (.exit 2) (kO dl sk dc o n' q'.length (q'.flatten.map aA))
 | 0,n,q,hn,hq,hu=>⟨n,q,hu,.exit (aJf (by omega)) (by simp)⟩
 | d+1,n,q,hn,hq,hu=>by
  by_cases hl:q.length<dc.length
  ·by_cases h:0≤bJ (fun x=>decide (x.getD 0 0=(n:Int))) dc
   ·obtain ⟨x,hx,_⟩:=aCq h
    obtain ⟨y0,y1,y2,y3,y4,y5,rfl⟩:=len6 (ud x (kQ1 hx));obtain ⟨n',q',hu',hL⟩:=aYo ud l2 d (n+1) (q++[[y0,y1,y2,y3,y4,y5]]) (by omega) (by simp;omega) (aQi hu rfl)
    exact ⟨n',q',hu',.step (aJc (by omega) (by omega) ud l2 rfl h hx h ⟨rfl,by omega⟩ (aH (by omega)) rfl (by simp) (by simp)) hL⟩
   ·obtain ⟨n',q',hu',hL⟩:=aYo ud l2 d (n+1) q (by omega) (by omega) hu
    exact ⟨n',q',hu',.step (aJd (by omega) (by omega) ud l2 rfl (by omega) (aH (by omega)) rfl) hL⟩
  ·exact ⟨n,q,hu,.exit (aJe (by omega) (by omega)) (by simp)⟩
theorem bZa(dl:Int)(us:uni 2 sk)(l1:sk.length≤1000)(ud:uni 6 dc)(l2:dc.length≤1000):∃ a b,∀ {base:Nat},FV Tp 36 [.p (.agg (aX dl sk dc))] base (.p (.agg (aX dl a b))) []:=by
 obtain ⟨b',o,hu,h0⟩:=aYn (dl:=dl) (dc:=dc) us l1 999 1 [] rfl (by simp) (fun _ h=>by cases h)
 obtain ⟨n',q,hv,h1⟩:=aYo (dl:=dl) (sk:=sk) ud l2 (o:=o) 9999 1 [] rfl (by simp) (fun _ h=>by cases h)
 exact ⟨o,q,bOg h0 h1⟩
end
end
section

end
section
end
end KV
end Go.Proofs
