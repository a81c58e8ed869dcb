/- Parts of the proof of JFirsts: laws of walks, contracts of functions, plain models. No condition. -/
import Derived.Test.YtgejpbmanhlkcaaGreatPJFirstsD
set_option linter.unusedVariables false
set_option linter.unusedSimpArgs false
set_option maxRecDepth 100000
namespace Go.Proofs
namespace KV
open Tryz
abbrev kVL (a b c d e f:Nat):List AV:=[.fn 154 [] [.ptr a 0,.ptr b 0,.ptr c 0,.ptr d 0],.fn 156 [] [.ptr e 0],.fn 157 [] [.ptr d 0,.ptr f 0],.fn 160 [] [.ptr d 0],.fn 158 [] [.ptr e 0]]
section
variable {s1 s2 x0 x1 bib Aa Ab:Int}{l:Lqq}{i i0 base:Nat}
variable {dl:Int}{sk dc:Lqq}

theorem bRi:((0:Int) != 0)=false:=by first | decide | simp
def xA(l:Lqq)(x0:Int)(x1:Int)(i:Nat):St:=⟨fr 19 [(0,(.p (fS l))),(3,(.ptr 0 0)),(7,(pI (l.length:Int))),(8,(pI (i:Int)))],[some (.box 31 [(pI x0),(pI x1)])]⟩
theorem cHh{Bm:Nat}(hl0:aE Tp 0 (sub (cd Tryz.f185) [1,0,1,0,0]) (xA l x0 x1 0) .ret (bS (xA l x0 x1 Bm) [(4,(pI (Bm:Int)))])):FV Tp 185 [(.p (fS l)),(.p (.agg [(aA x0),(aA x1)]))] base (pI (Bm:Int)) []:=FV.fi func185 [hl0.k 6 (gI [1,2,4,3,9,10] [0])] (gc hl0.code gn)
theorem bJy(h0:(i:Int)<(l.length:Int))(h1:l[i]? = some [Aa,Ab])(h2:uni 2 l)(h3:cV [(aA x0),(aA x1)] [(0,3,true),(1,3,true)]=true∧cV [(aA Aa),(aA Ab)] [(0,3,true),(1,3,true)]=true)(h4:(jW [(aA x0),(aA x1)] [(aA Aa),(aA Ab)] [(0,3,true),(1,3,true)])=true):aC Tp 0 (sub (cd Tryz.f185) [1,0,1,0,0]) (xA l x0 x1 i) .ret (bS (xA l x0 x1 i) [(4,(pI (i:Int)))]):=aC.fi (gI [1,2,5,2,9,10] [0]) [bT,.x (.agg [(aA Aa),(aA Ab)]),bT] (gc h4 (gc h3 (gfl h2 h1 (gc (aI h0) gn))))
theorem bJz{i':Nat}(h0:(i:Int)<(l.length:Int))(h1:l[i]? = some [Aa,Ab])(h2:uni 2 l)(h3:cV [(aA x0),(aA x1)] [(0,3,true),(1,3,true)]=true∧cV [(aA Aa),(aA Ab)] [(0,3,true),(1,3,true)]=true)(h4:(jW [(aA x0),(aA x1)] [(aA Aa),(aA Ab)] [(0,3,true),(1,3,true)])=false)(h5:inR (((i+1):Nat):Int))(Ai:i'=(i+1)):aC Tp 0 (sub (cd Tryz.f185) [1,0,1,0,0]) (xA l x0 x1 i) .normal (xA l x0 x1 i'):=by
 subst Ai;exact aC.fi (gI [1,2,4,3,9,10] [0]) [bT,.x (.agg [(aA Aa),(aA Ab)]),bF] (gc h5 (gc h4 (gc h3 (gfl h2 h1 (gc (aI h0) gn)))))
theorem cHi{l:Lqq}(hu:uni 2 l)(hn:(aQ l 0).Nodup)(hl:l.length≤1000){i:Nat}{x0 x1:Int}(hi:l[i]? = some [x0,x1]){base:Nat}:FV Tp 185 [.p (fS l),.p (.agg [aA x0,aA x1])] base (pI (i:Int)) []:=by
 have hlt:=aO hi;refine cHh (Bm:=i) ?_;have hne:∀ j,j<i→∃ y0 y1,l[j]? = some [y0,y1]∧y0≠x0:=fun j hj=>by
  obtain ⟨y0,y1,hy⟩:=at2 hu (i:=j) (by omega)
  refine ⟨y0,y1,hy,fun e => ?_⟩
  have e1:(aQ l 0)[j]? = some y0:=by unfold aQ;rw [fR,hy];rfl
  have e2:(aQ l 0)[i]? = some x0:=by unfold aQ;rw [fR,hi];rfl
  obtain ⟨Nj,Du⟩:=B3.1 e1;obtain ⟨H4,G8⟩:=B3.1 e2;have:=List.pairwise_iff_getElem.1 hn j i Nj H4 hj;rw [Du,G8] at this
  exact this e
 exact aE.until (P:=Tp) i (fun j=>xA l x0 x1 j) i (dG _)
  (fun j hj=>by
   obtain ⟨y0,y1,hy,hn⟩:=hne j hj;exact bJz (by omega) hy hu ⟨rfl,rfl⟩ (by simp [jW,wI];exact fun h=>absurd h.symm hn) (aH (by omega)) rfl)
  (bJy (by omega) hi hu ⟨rfl,rfl⟩ (by simp [jW,wI])) (by simp)
theorem fN(h:bR dl sk dc):uni 2 (aB sk)∧(aB sk).length≤30∧(∀ s∈aB sk,-1≤s.getD 1 0∧s.getD 1 0≤360000)∧(aQ (aB sk) 0).Nodup:=by
 have hp:=dY sk;refine ⟨nI h.us,by rw [eG];exact h.len.2,fun s hs=>(aLm.1 (h.hsk s (hp.mem_iff.1 hs))).2,?_⟩
 unfold aQ;exact (hp.map _).nodup_iff.2 h.ns
theorem aCp(h:bR dl sk dc)(ho:(aP dl (aB dc)).length≤8){base:Nat}:FV Tp 161 [qL dl (aB sk) (aB dc)] base (.tup [.own base,.p (aA 0)]) [(base,.row 195 (aJ dl (aB sk) (aB dc)).length ((aJ dl (aB sk) (aB dc)).map hpE).flatten)]:=by
 obtain ⟨h1,h2,h3,_⟩:=fN h;exact cHq (dW h) h1 (by omega) h3 ho
theorem aAd(h:bR dl sk dc)(ho:8<(aP dl (aB dc)).length){base:Nat}:FV Tp 161 [qL dl (aB sk) (aB dc)] base (.tup [.p bX,.p (aA 10)]) []:=bRl (dW h) ho
theorem bXj(h:bR dl sk dc){i:Nat}{x0 x1:Int}(hi:(aB sk)[i]? = some [x0,x1]){base:Nat}:FV Tp 185 [.p (fS (aB sk)),.p (.agg [aA x0,aA x1])] base (pI (i:Int)) []:=by
 obtain ⟨h1,h2,_,h4⟩:=fN h;exact cHi h1 h4 (by omega) hi
theorem cHj(h0:bR dl sk dc)(h1:aFg (aB sk) bib=(i0:Int))(h2:(aB sk)[i0]? = some [s1,s2])(h3:(aP dl (aB dc)).length≤8):FV Tp 140 [(.p (.agg (bB dl sk dc))),(pI bib)] base (.tup [(.p (.sl ((aJ dl (aB sk) (aB dc)).length) (((aJ dl (aB sk) (aB dc)).map hpE).flatten))),(pI (i0:Int)),(pI 0)]) []:=have k1:=fk 1 (bPw h0 h1 h2) rfl;have k2:=fk 2 (aCp h0 h3) rfl;FV.frz (FMM.fi 0 ⟨[],[],[2],[]⟩ func140 [k1.o,bF,k2.o,.x (.sl ((aB sk).length) ((aB sk).flatten.map aA)),.c (pI (i0:Int)) []] (gc (fk 3 (bXj h0 h2) rfl) (gr (.sl ((aB sk).length) ((aB sk).flatten.map aA)) (gc k2 (gc bRi (gc k1 gn)))))) (by kernel_rfl)
theorem cHk{c3:List bD}{Xm Xn:Int}{r0:Bool}(h0:bR dl sk dc)(h1:aFg (aB sk) bib=(i0:Int))(h2:(aB sk)[i0]? = some [s1,s2])(h3:(aP dl (aB dc)).length≤8)(h4:(aJ dl (aB sk) (aB dc))[i0]? = some (c3,Xm,Xn))(h5:(aJ dl (aB sk) (aB dc)).length≤1000)(h6:c3.length≤256)(A4:r0=(c3.any fun x=>x.2.1)):FV Tp 71 [(.p (.agg (bB dl sk dc))),(pI bib)] base (.tup [(.p (aG (eJ (aJ dl (aB sk) (aB dc)) i0 c3))),(pB r0),(pI 0)]) []:=by
 subst A4;have k1:=fk 1 (cHj h0 h1 h2 h3) rfl;have k2:=fk 1 (xB h5 h4 h6) rfl;exact FV.fi func71 [k1.o,bF,k2.o] (gc k2 (gc bRi (gc k1 gn)))
end
section
variable {a b:Bool}{f fi Aa Ab E4 E5:Int}{l o:List Int}{i i' base:Nat}
variable {dl:Int}{sk dc:Lqq}

noncomputable abbrev aMg:Code:=pS (cd Tryz.f93) 7 [0,1,0,0]
theorem aMh:((0:Int) != 0)=false:=by first | decide | simp
theorem cHa{x0:Int}{r0:Bool}(h0:b=true)(h1:a=false)(h2:inR ((l.length:Int)-1))(h3:l[((l.length:Int)-1).toNat]? = some x0)(h4:0≤((l.length:Int)-1))(A4:r0=(decide (x0≤f))):FV Tp 95 [(.p (aG l)),(pB a),(pB b),(.rp [(aA f)] 0)] base (pB r0) []:=by
 subst A4;exact FV.fi func95 (rT 9++[.x (aA x0),bT,.x (aA f),bT,bT]) (Az (bM h1) (gr (aA f) (gc (bM h1) (gt ((l.map aA)[(((l.length:Int)-1).toNat*1)]? = some (aA x0)) (iK (i:=((l.length:Int)-1).toNat) h3) (gc (bM h1) (gc (iL (g:=aA) h4 h3) (gc (bM h1) (gc h2 (Aw (bM h1) (Ak h0 gn))))))))))
theorem cHb(h0:b=true)(h1:a=true):FV Tp 95 [(.p (aG l)),(pB a),(pB b),(.rp [(aA f)] 0)] base (pB false) []:=FV.fi func95 ([bT,bT,bT]++rF 9) (Eu (aV h1) (gc (aV h1) (Ak h0 gn)))
theorem cHc(h0:b=false):FV Tp 95 [(.p (aG l)),(pB a),(pB b),(.rp [(aA f)] 0)] base (pB false) []:=FV.fi func95 [bF,bF,bF] (Ak h0 gn)
def aMi(l:List Int)(a b:Bool)(f:Int):Bool:=b && (!a && decide (l.getD (l.length-1) 0≤f))
theorem bRg(l:List Int)(a b:Bool)(f:Int)(hl:l.length≤1000000)(hb:b=true→l≠[]){base:Nat}:FV Tp 95 [.p (aG l),.p (blP a),.p (blP b),.rp [aA f] 0] base (pB (aMi l a b f)) []:=by
 cases b with
 | false=>exact cHc rfl
 | true =>
  cases a with
  | true=>exact cHb rfl rfl
  | false =>
   have h0:=hb rfl;have h1:0<l.length:=List.length_pos_iff.2 h0;have h2:l[l.length-1]? = some (l.getD (l.length-1) 0):=by rw [Bv,Av (by omega)];rfl
   have e:((l.length:Int)-1).toNat=l.length-1:=by omega
   exact cHa (x0:=l.getD (l.length-1) 0) rfl rfl (by unfold inR;omega) (by rw [e];exact h2) (by omega) (by unfold aMi;simp)
def pJ(dl:Int)(sk:Lqq)(dc:Lqq)(fi:Int)(on:Nat)(oc:List PV)(i:Nat):St:=⟨fr 58 [(2,(.fn 95 [] [(.rp [(aA fi)] 0)])),(6,(.p bX)),(7,(pI 0)),(10,(.p (.sl ((aJ dl (aB sk) (aB dc)).length) (((aJ dl (aB sk) (aB dc)).map hpE).flatten)))),(11,(.own 0)),(36,(.p (.sl ((aB sk).length) ((aB sk).flatten.map aA)))),(37,(pI (((aB sk).length:Nat):Int))),(38,(pI (i:Int)))],[some (.row 3 on oc)]⟩
theorem bRh(h0:bR dl sk dc)(h1:fi<1):FV Tp 93 [(.p (.agg (bB dl sk dc))),(pI fi),(.fn 95 [] [(.rp [(aA fi)] 0)])] base (.tup [(.p bX),(pI 3)]) []:=have k1:=fk 1 (fE dl sk dc h0) rfl;FV.frz (FMM.fi 0 gE func93 [k1.o,bF,bT] (gc (aI h1) (gc aMh (gc k1 gn)))) (by kernel_rfl)
theorem cHd{D6:List Int}{Ev:Nat}(h0:bR dl sk dc)(h1:(1:Int)≤fi)(h2:(aP dl (aB dc)).length≤8)(Cn:aE Tp 0 aMg (pJ dl sk dc fi 0 [] 0) (.exit 0) (pJ dl sk dc fi D6.length (D6.map aA) Ev)):FV Tp 93 [(.p (.agg (bB dl sk dc))),(pI fi),(.fn 95 [] [(.rp [(aA fi)] 0)])] base (.tup [(.p (aG D6)),(pI 0)]) []:=have k1:=fk 1 (fE dl sk dc h0) rfl;have k2:=fk 1 (aCp h0 h2) rfl;FV.frz (FMM.fi 0 ⟨[],[],[0],[]⟩ func93 [k1.o,bF,bF,k2.o,bF,.g 1 ⟨[],[0],[1],[]⟩,.x (.sl ((aB sk).length) ((aB sk).flatten.map aA)),Cn.k 1 (gN [0,2,3,3,8,2,12,24,39,18] [1] [(11,3)])] (gc Cn.code (gr (.sl ((aB sk).length) ((aB sk).flatten.map aA)) (gc aMh (gc k2 (gc (aN h1) (gc aMh (gc k1 gn)))))))) (by kernel_rfl)
theorem cHe(h0:bR dl sk dc)(h1:(1:Int)≤fi)(h2:8<(aP dl (aB dc)).length):FV Tp 93 [(.p (.agg (bB dl sk dc))),(pI fi),(.fn 95 [] [(.rp [(aA fi)] 0)])] base (.tup [(.p bX),(pI 10)]) []:=have k1:=fk 1 (fE dl sk dc h0) rfl;have k2:=fk 1 (aAd h0 h2) rfl;FV.frz (FMM.fi 0 gE func93 [k1.o,bF,bF,k2.o,bT] (gt (((10:Int) != 0)=true) (by first | decide | simp) (gc k2 (gc (aN h1) (gc aMh (gc k1 gn)))))) (by kernel_rfl)
theorem cHf{r0:Int}(h0:uni 2 sk)(h1:uni 6 dc)(h2:(jQ dl sk dc)≠0)(A4:r0=(jQ dl sk dc)):FV Tp 93 [(.p (.agg (bB dl sk dc))),(pI fi),(.fn 95 [] [(.rp [(aA fi)] 0)])] base (.tup [(.p bX),(pI r0)]) []:=by
 subst A4;have k1:=fk 1 (aFk dl sk dc h0 h1 h2) rfl;exact FV.frz (FMM.fi 0 gE func93 [k1.o,bT] (gc (jF h2) (gc k1 gn))) (by kernel_rfl)
theorem bJv{A3:List bD}{o':List Int}(h0:(i:Int)<(((aB sk).length:Nat):Int))(h1:(aB sk)[i]? = some [Aa,Ab])(h2:uni 2 (aB sk))(h3:(aJ dl (aB sk) (aB dc))[i]? = some (A3,E4,E5))(h4:(aJ dl (aB sk) (aB dc)).length≤1000)(h5:A3.length≤256)(h6:(eJ (aJ dl (aB sk) (aB dc)) i A3).length≤1000000)(h7:(A3.any fun x => !x.2.1)=true→(eJ (aJ dl (aB sk) (aB dc)) i A3)≠[])(h8:(aMi (eJ (aJ dl (aB sk) (aB dc)) i A3) (A3.any fun x=>x.2.1) (A3.any fun x => !x.2.1) fi)=true)(h9:[(aA Aa)].length=1*1∧o.length+1≤1000000)(A5:inR (((i+1):Nat):Int))(B1:o'.length=(o.length+1))(B2:o'.map aA=((o.map aA)++[(aA Aa)]))(Ai:i'=(i+1)):aC Tp 0 aMg (pJ dl sk dc fi o.length (o.map aA) i) .normal (pJ dl sk dc fi o'.length (o'.map aA) i'):=by
 subst Ai;have k1:=fk 2 (xB h4 h3 h5) rfl;have k2:=fk 2 (bRg (eJ (aJ dl (aB sk) (aB dc)) i A3) (A3.any fun x=>x.2.1) (A3.any fun x => !x.2.1) fi h6 h7) rfl;rw [B1,B2];exact aC.fi (gI [0,2,3,3,8,2,12,24,39,18] [3]) [bT,.x (.agg [(aA Aa),(aA Ab)]),k1.o,k2.o,bT] (gc A5 (gc h9 (gc h8 (gc k2 (gc k1 (gfl h2 h1 (gc (aI h0) gn)))))))
theorem bJw{A3:List bD}(h0:(i:Int)<(((aB sk).length:Nat):Int))(h1:(aB sk)[i]? = some [Aa,Ab])(h2:uni 2 (aB sk))(h3:(aJ dl (aB sk) (aB dc))[i]? = some (A3,E4,E5))(h4:(aJ dl (aB sk) (aB dc)).length≤1000)(h5:A3.length≤256)(h6:(eJ (aJ dl (aB sk) (aB dc)) i A3).length≤1000000)(h7:(A3.any fun x => !x.2.1)=true→(eJ (aJ dl (aB sk) (aB dc)) i A3)≠[])(h8:(aMi (eJ (aJ dl (aB sk) (aB dc)) i A3) (A3.any fun x=>x.2.1) (A3.any fun x => !x.2.1) fi)=false)(h9:inR (((i+1):Nat):Int))(Ai:i'=(i+1)):aC Tp 0 aMg (pJ dl sk dc fi o.length (o.map aA) i) .normal (pJ dl sk dc fi o.length (o.map aA) i'):=by
 subst Ai;have k1:=fk 2 (xB h4 h3 h5) rfl;have k2:=fk 2 (bRg (eJ (aJ dl (aB sk) (aB dc)) i A3) (A3.any fun x=>x.2.1) (A3.any fun x => !x.2.1) fi h6 h7) rfl;exact aC.fi (gI [0,2,3,3,8,2,12,24,39,18] [0]) [bT,.x (.agg [(aA Aa),(aA Ab)]),k1.o,k2.o,bF] (gc h9 (gc h8 (gc k2 (gc k1 (gfl h2 h1 (gc (aI h0) gn))))))
theorem bJx(h0:(((aB sk).length:Nat):Int)≤(i:Int)):aC Tp 0 aMg (pJ dl sk dc fi o.length (o.map aA) i) (.exit 0) (pJ dl sk dc fi o.length (o.map aA) i):=aC.fi (gI [0,2,3,3,8,2,12,24,39,18] [0]) [bF] (gc (aN h0) gn)
abbrev cKy(dl:Int)(sk dc:Lqq)(fi:Int)(o:List Int)(e:Int):Prop:=∀ base:Nat,FV Tp 93 [.p (.agg (bB dl sk dc)),.p (aA fi),.fn 95 [] [.rp [aA fi] 0]] base (.tup [.p (aG o),.p (aA e)]) []
abbrev cLo(dl:Int)(sk dc:Lqq)(fi:Int)(e:Int):Prop:=∀ base:Nat,FV Tp 93 [.p (.agg (bB dl sk dc)),.p (aA fi),.fn 95 [] [.rp [aA fi] 0]] base (.tup [.p bX,.p (aA e)]) []
theorem cHg{e0:Int}{o1:List Int}(h0:cKy dl sk dc fi o1 e0):FV Tp 33 [(.p (.agg (bB dl sk dc))),(pI fi)] base (.tup [(.p (aG o1)),(pI e0)]) []:=FV.fi func33 [.g 3 ⟨[],[0],[1],[]⟩,.x (aA fi),.c (.tup [(.p (aG o1)),(pI e0)]) []] (gc (fk 1 (h0 _) rfl) (gr (aA fi) gn))
end
end KV
end Go.Proofs
section
namespace Go.Proofs
open Go.RowKit Go.Lib
namespace KV
open Tryz
theorem bAf(o:List Int):iE o≠[]:=fun h=>by
 have:=yO o;rw [h] at this
 have:=Nat.two_pow_pos o.length;simp at *
 omega
theorem aQu(l:List bD):∀ m,l.foldl (fun m x=>if x.1<m then x.1 else m) m≤m∧∀ x∈l,l.foldl (fun m x=>if x.1<m then x.1 else m) m≤x.1:=by
 induction l with
 | nil=>intro m;exact ⟨bCw _,fun x h=>by cases h⟩
 | cons a l ih =>
  intro m;rw [lE];obtain ⟨h1,h2⟩:=ih (if a.1<m then a.1 else m)
  have ha:(if a.1<m then a.1 else m)≤m∧(if a.1<m then a.1 else m)≤a.1:=by split <;> omega
  exact ⟨by omega,fun x hx=>by
   rcases fU.1 hx with rfl | hx
   ·omega
   ·exact h2 x hx⟩
theorem aQv(l:List bD):∀ m,m≤l.foldl (fun m x=>if x.1 > m then x.1 else m) m∧∀ x∈l,x.1≤l.foldl (fun m x=>if x.1 > m then x.1 else m) m:=by
 induction l with
 | nil=>intro m;exact ⟨bCw _,fun x h=>by cases h⟩
 | cons a l ih =>
  intro m;rw [lE];obtain ⟨h1,h2⟩:=ih (if a.1 > m then a.1 else m)
  have ha:m≤(if a.1 > m then a.1 else m)∧a.1≤(if a.1 > m then a.1 else m):=by split <;> omega
  exact ⟨by omega,fun x hx=>by
   rcases fU.1 hx with rfl | hx
   ·omega
   ·exact h2 x hx⟩
theorem bXi{l:List bD}(h:l≠[]):mnM l≤mxM l:=by
 obtain ⟨x,hx⟩:=bUd l h;exact Int.le_trans ((aQu l far).2 x hx) ((aQv l 0).2 x hx)
theorem bAg(dl:Int)(dc:Lqq)(s0 s1:Int)(o:List Int):(iD dl dc s0 s1 o).2.1≤(iD dl dc s0 s1 o).2.2:=bXi fun h=>bAf o (List.map_eq_nil_iff.1 h)
theorem nK(dl:Int)(sk dc:Lqq):(aJ dl sk dc).length=sk.length:=by unfold aJ;simp
theorem iR{dl:Int}{sk dc:Lqq}{i:Nat}{s:List Int}(h:sk[i]? = some s):(aJ dl sk dc)[i]? = some (iD dl dc (s.getD 0 0) (s.getD 1 0) (kB dl dc (s.getD 0 0))):=by
 unfold aJ;rw [fR,h];rfl
theorem yN{dl:Int}{dc:Lqq}{s0 s1:Int}(b:Int)(ho:(aP dl dc).length≤8):(iD dl dc s0 s1 (kB dl dc b)).1.length≤256:=by
 show ((iE (kB dl dc b)).map _).length≤256;rw [Cb,yO];have:=bRk dl dc b;exact fB (Nat.pow_le_pow_right (by omega) (show (kB dl dc b).length≤8 by omega)) (by decide)
theorem bAh{al:List eR}(h:∀ x∈al,x.2.1≤x.2.2)(s:Nat)(t:Int):∀ i,(dA al s t i).1≤(dA al s t i).2
 | 0=>dG _
 | i+1=>by
  have ih:=bAh h s t i;unfold dA
  split
  ·rename_i x hx
   have:=h x (Bi hx)
   split
   ·exact ih
   ·dsimp only
    split <;> split <;> omega
  ·exact ih
theorem aWp{l:List Int}(h:l≠[]):Lib.compact l≠[]:=fun e=>by
 have:(Lib.compact l).length=0:=by rw [e];rfl
 unfold Lib.compact Lib.compactUpTo at this
 rw [Cb] at this
 have h0:0∈(List.range l.length).filter (Lib.keeps l.toArray):=kK.2 ⟨iJ.2 (List.length_pos_iff.2 h),Lib.keeps_lt_one _ 0 (by omega)⟩
 rw [aBu this] at h0
 cases h0
theorem aFt{al:List eR}(h:∀ x∈al,x.2.1≤x.2.2)(s:Nat){c:List bD}(hc:(c.any fun x => !x.2.1)=true):eJ al s c≠[]:=by
 unfold eJ;refine aWp fun e => ?_
 have e2:c.flatMap (chL al s)=[]:=by
  have:=bUf (le:=KL.leB) (c.flatMap (chL al s));rw [e] at this
  exact aBu this.symm
 obtain ⟨x,hx,hn⟩:=List.any_eq_true.1 hc;have h1:chL al s x=[]:=List.flatMap_eq_nil_iff.1 e2 x hx;have hf:x.2.1=false:=by simpa using hn
 unfold chL aHb at h1
 rw [hf] at h1
 have:=congrArg List.length h1;have hl:=bAh h s x.1 al.length;simp at this
 have h3:(cK al s x.1).1≤(cK al s x.1).2:=hl;omega
theorem bAi{al:List eR}(hal:al.length≤1000)(s:Nat){c:List bD}(hc:c.length≤256):(eJ al s c).length≤1000000:=by
 unfold eJ;refine fB (aFz _) ?_;rw [bUf];have:=aMl hal s c;omega
theorem uA(dl:Int)(sk dc:Lqq):∀ x∈aJ dl sk dc,x.2.1≤x.2.2:=fun x hx=>by
 obtain ⟨s,_,rfl⟩:=Bs.1 hx;exact bAg ..
end KV
end Go.Proofs
end
namespace Go.Proofs
namespace KV
open Tryz
section
def sG(dl:Int)(sk dc:Lqq)(f:Int)(i:Nat):Bool:=match (aJ dl sk dc)[i]? with
 | some h=>aMi (eJ (aJ dl sk dc) i h.1) (h.1.any fun x=>x.2.1) (h.1.any fun x => !x.2.1) f
 | none=>false
def tZ(dl:Int)(sk dc:Lqq)(f:Int):List Int:=((List.range sk.length).filter (sG dl sk dc f)).map fun i=>(sk.getD i []).getD 0 0
theorem cGy{dl:Int}{sk dc:Lqq}(h:bR dl sk dc){bib:Int}{i:Nat}{s0 s1:Int}(hp:aFg (aB sk) bib=(i:Int))(hs:(aB sk)[i]? = some [s0,s1])(ho:(aP dl (aB dc)).length≤8){base:Nat} :
  FV Tp 71 [.p (.agg (bB dl sk dc)),.p (aA bib)] base (.tup [.p (aG (eJ (aJ dl (aB sk) (aB dc)) i (iD dl (aB dc) s0 s1 (kB dl (aB dc) s0)).1)),.p (blP ((iD dl (aB dc) s0 s1 (kB dl (aB dc) s0)).1.any fun x=>x.2.1)),.p (aA 0)]) []:=by
 obtain ⟨_,h2,_,_⟩:=fN h;exact cHk h hp hs ho (iR hs) (by rw [nK];omega) (yN s0 ho) rfl
theorem cGz{dl:Int}{sk dc:Lqq}(h:bR dl sk dc){f:Int}(hf:1≤f)(ho:(aP dl (aB dc)).length≤8):cKy dl sk dc f (tZ dl (aB sk) (aB dc) f) 0:=fun base=>by
 obtain ⟨h1,h2,_,_⟩:=fN h;obtain ⟨o,hI,hL⟩:=aE.ex (P:=Tp) (k:=0) (b:=sub (cd Tryz.f93) [1,1,1,1,1,1,1,0,1,0,0]) (e := .exit 0) (fun i (o:List Int)=>pJ dl sk dc f o.length (o.map aA) i) (fun o=>pJ dl sk dc f o.length (o.map aA) (aB sk).length)
  (fun i o=>o=((List.range i).filter (sG dl (aB sk) (aB dc) f)).map fun i=>((aB sk).getD i []).getD 0 0) (by simp) (aB sk).length
  (fun i o hi hoE=>by
   obtain ⟨y0,y1,hy⟩:=at2 h1 hi;have hat:=iR (dl:=dl) (dc:=aB dc) hy;have hlen:o.length≤i:=by
    rw [hoE,Cb];have:=mI (sG dl (aB sk) (aB dc) f) (List.range i);simpa using this
   have hmb:sG dl (aB sk) (aB dc) f i=aMi (eJ (aJ dl (aB sk) (aB dc)) i (iD dl (aB dc) y0 y1 (kB dl (aB dc) y0)).1) ((iD dl (aB dc) y0 y1 (kB dl (aB dc) y0)).1.any fun x=>x.2.1) ((iD dl (aB dc) y0 y1 (kB dl (aB dc) y0)).1.any fun x => !x.2.1) f:=by
    unfold sG;rw [hat];rfl
   have hal:(aJ dl (aB sk) (aB dc)).length≤1000:=by rw [nK];omega
   have hc:=yN (s0:=y0) (s1:=y1) y0 ho;have hg:((aB sk).getD i []).getD 0 0=y0:=by simp [Bv,hy]
   cases hb:sG dl (aB sk) (aB dc) f i with
   | true =>
    refine ⟨o++[y0],?_,bJv (by omega) hy h1 hat hal hc (bAi hal i hc) (fun hn=>aFt (uA _ _ _) i hn) (by rw [← hb,hmb];rfl) ⟨rfl,by omega⟩ (aH (by omega)) (by simp) (by simp) rfl⟩
    rw [hoE,List.range_succ,kU,fM];simp only [List.filter_cons,hb,if_true,List.filter_nil,fZ,List.map_nil,hg]
   | false =>
    refine ⟨o,?_,bJw (by omega) hy h1 hat hal hc (bAi hal i hc) (fun hn=>aFt (uA _ _ _) i hn) (by rw [← hb,hmb];rfl) (aH (by omega)) rfl⟩
    rw [hoE,List.range_succ,kU,fM];simp [List.filter_cons,hb])
  (fun o _=>bJx (by omega)) (acc:=[]) (by simp)
 have e:o=tZ dl (aB sk) (aB dc) f:=hI;rw [← e];exact cHd h hf ho hL
theorem bRf{dl:Int}{sk dc:Lqq}(h:bR dl sk dc){f:Int}(hf:1≤f)(ho:(aP dl (aB dc)).length≤8){base:Nat}:FV Tp 33 [.p (.agg (bB dl sk dc)),.p (aA f)] base (.tup [.p (aG (tZ dl (aB sk) (aB dc) f)),.p (aA 0)]) []:=cHg (cGz h hf ho)
end
section
variable {c Aq D1 Aa Ab Ac Ad Ae Af:Int}{a b:Lqq}{i i' Bm base:Nat}

noncomputable abbrev aAa:Code:=sub (cd Tryz.f51) [1,1,0,1,0,0]
noncomputable abbrev aAb:Code:=sub (cd Tryz.f41) [1,1,0,1,0,0]
theorem cGq{dl:Int}{sk dc:Lqq}{bib:Int}{i0:Nat}{s1 s2 n3:Int}{b4:Bool}{T5:Lqb}(h0:bR dl sk dc)(h1:aFg (aB sk) bib=(i0:Int))(h2:(aB sk)[i0]? = some [s1,s2])(h3:aGz dl (aB sk) (aB dc) bX [s1,s2] n3 b4 ([]:Lqb) T5):FV Tp 61 [(.p (.agg (bB dl sk dc))),(pI bib)] base (.tup [(pI n3),(pB b4),(pI 0)]) []:=have k1:=fk 1 (bPw h0 h1 h2) rfl;have k2:=mN [] 2 (aLy (dl:=dl) (sk:=(aB sk)) (dc:=(aB dc)));have k3:=mq [2,3,4,5,6,7,8] 10 h3;FV.fi func61 [k1.o,bF,k2.o,k3.o] (gc k3 (gc k2 (gt (((0:Int) != 0)=false) (by first | decide | simp) (gc k1 gn))))
def lR(a:Lqq)(b:Lqq)(i:Nat):St:=⟨fr 26 [(0,(.p (fS a))),(1,(.p (fS b))),(12,(pI (a.length:Int))),(13,(pI (i:Int)))],[]⟩
theorem cGr(h0:(a.length:Int)≠(b.length:Int)):FV Tp 51 [(.p (fS a)),(.p (fS b))] base (pB false) []:=FV.fi func51 [bT] (gc (jF h0) gn)
theorem cGs(h0:(a.length:Int)=(b.length:Int))(A2:aE Tp 0 aAa (lR a b 0) (.exit 0) (lR a b Bm)):FV Tp 51 [(.p (fS a)),(.p (fS b))] base (pB true) []:=FV.fi func51 [bF,A2.k 4 (gZ [2,10,14,12])] (gc A2.code (gc (bL h0) gn))
theorem cGt(h0:(a.length:Int)=(b.length:Int))(A2:aE Tp 0 aAa (lR a b 0) .ret (bS (lR a b Bm) [(4,(.kb false))])):FV Tp 51 [(.p (fS a)),(.p (fS b))] base (pB false) []:=FV.fi func51 [bF,A2.k 4 (gZ [2,10,14,12])] (gc A2.code (gc (bL h0) gn))
theorem bJp(h0:(i:Int)<(a.length:Int))(h1:a[i]? = some [Aa,Ab,Ac])(h2:uni 3 a)(h3:b[i]? = some [Ad,Ae,Af])(h4:uni 3 b)(h5:cV [(aA Aa),(aA Ab),(aA Ac)] [(0,3,true),(1,3,true),(2,3,true)]=true∧cV [(aA Ad),(aA Ae),(aA Af)] [(0,3,true),(1,3,true),(2,3,true)]=true)(h6:(jW [(aA Aa),(aA Ab),(aA Ac)] [(aA Ad),(aA Ae),(aA Af)] [(0,3,true),(1,3,true),(2,3,true)])=false):aC Tp 0 aAa (lR a b i) .ret (bS (lR a b i) [(4,(.kb false))]):=aC.fi (gZ [2,2,5,7,14,12]) [bT,.x (.agg [(aA Aa),(aA Ab),(aA Ac)]),.x (.agg [(aA Ad),(aA Ae),(aA Af)]),bT] (gc (bM h6) (gc h5 (gfl h4 h3 (gfl h2 h1 (gc (aI h0) gn)))))
theorem bJq(h0:(i:Int)<(a.length:Int))(h1:a[i]? = some [Aa,Ab,Ac])(h2:uni 3 a)(h3:b[i]? = some [Ad,Ae,Af])(h4:uni 3 b)(h5:cV [(aA Aa),(aA Ab),(aA Ac)] [(0,3,true),(1,3,true),(2,3,true)]=true∧cV [(aA Ad),(aA Ae),(aA Af)] [(0,3,true),(1,3,true),(2,3,true)]=true)(h6:(jW [(aA Aa),(aA Ab),(aA Ac)] [(aA Ad),(aA Ae),(aA Af)] [(0,3,true),(1,3,true),(2,3,true)])=true)(h7:inR (((i+1):Nat):Int))(Ai:i'=(i+1)):aC Tp 0 aAa (lR a b i) .normal (lR a b i'):=by
 subst Ai;exact aC.fi (gZ [2,10,14,12]) [bT,.x (.agg [(aA Aa),(aA Ab),(aA Ac)]),.x (.agg [(aA Ad),(aA Ae),(aA Af)]),bF] (gc h7 (gc (aV h6) (gc h5 (gfl h4 h3 (gfl h2 h1 (gc (aI h0) gn))))))
theorem bJr(h0:(a.length:Int)≤(i:Int)):aC Tp 0 aAa (lR a b i) (.exit 0) (lR a b i):=aC.fi (gZ [2,10,14,12]) [bF] (gc (aN h0) gn)
theorem cGu(a b:Lqq)(ha:uni 3 a)(hb:uni 3 b)(hl:a.length≤1000){base:Nat}:FV Tp 51 [.p (fS a),.p (fS b)] base (pB (decide (a=b))) []:=by
 by_cases hlen:a.length=b.length
 ·have eqx:∀ i,i<a.length→∃ x y,a[i]? = some x∧b[i]? = some y∧x.length=3∧y.length=3:=fun i hi =>
   ⟨a[i],b[i],Av hi,Av (by omega),ha _ (fL hi),hb _ (fL (by omega))⟩
  rcases aE.find (P:=Tp) (k:=0) (b:=aAa) (fun i=>lR a b i) (fun i _=>bS (lR a b i) [(4,.kb false)]) (lR a b a.length) .ret (.exit 0) (by simp) (by simp) (fun j=>decide (a.getD j []≠b.getD j [])) (List.range a.length)
   (fun i x hx hp=>by
    have hi:i<a.length:=by have:=aO hx;simpa using this
    obtain ⟨y,z,hy,hz,ly,lz⟩:=eqx i hi;obtain ⟨a,b,c,rfl⟩:=Da ly;obtain ⟨a',b',c',rfl⟩:=Da lz;have hxi:x=i:=by rw [nP hi] at hx;exact (Option.some.inj hx).symm
    subst hxi;have he:=of_decide_eq_false hp;simp only [Bv,hy,hz,Option.getD_some,ne_eq,Classical.not_not] at he
    cases he;exact bJq (by omega) hy ha hz hb ⟨rfl,rfl⟩ (by simp [jW,wI]) (aH (by omega)) rfl)
   (fun i x hx hp=>by
    have hi:i<a.length:=by have:=aO hx;simpa using this
    obtain ⟨y,z,hy,hz,ly,lz⟩:=eqx i hi;obtain ⟨a,b,c,rfl⟩:=Da ly;obtain ⟨a',b',c',rfl⟩:=Da lz;have hxi:x=i:=by rw [nP hi] at hx;exact (Option.some.inj hx).symm
    subst hxi;have he:=of_decide_eq_true hp;simp only [Bv,hy,hz,Option.getD_some] at he
    exact bJp (by omega) hy ha hz hb ⟨rfl,rfl⟩ (by
     rw [Bool.eq_false_iff];intro h;simp [jW,wI] at h
     exact he (by simp [h])))
   (by rw [aGv];exact bJr (by omega)) with ⟨i,x,h1,h2,h3,h4⟩ | ⟨h1,h2,h3⟩
  ·have hi:i<a.length:=by have:=aO h1;simpa using this
   have hxi:x=i:=by rw [nP hi] at h1;exact (Option.some.inj h1).symm
   have he:=of_decide_eq_true h3;rw [decide_eq_false (fun e=>he (by rw [e]))]
   exact cGt (by omega) h4
  ·have hall:∀ i,i<a.length→a.getD i []=b.getD i []:=fun i hi=>by
    have:=List.any_eq_false.1 h2 i (iJ.2 hi);simpa using this
   have e:a=b:=by
    apply List.ext_getElem hlen;intro i h1 h2;have:=hall i h1;simpa [Bv,Av h1,Av h2] using this
   rw [decide_eq_true e];exact cGs (by omega) h3
 ·rw [decide_eq_false (fun e=>hlen (by rw [e]))]
  exact cGr (by omega)
def lS(a:List Int)(b:List Int)(i:Nat):St:=⟨fr 26 [(0,(.p (aG a))),(1,(.p (aG b))),(12,(pI (a.length:Int))),(13,(pI (i:Int)))],[]⟩
theorem cGv{a b:List Int}(h0:(a.length:Int)≠(b.length:Int)):FV Tp 41 [(.p (aG a)),(.p (aG b))] base (pB false) []:=FV.fi func41 [bT] (gc (jF h0) gn)
theorem cGw{a b:List Int}(h0:(a.length:Int)=(b.length:Int))(A2:aE Tp 0 aAb (lS a b 0) (.exit 0) (lS a b Bm)):FV Tp 41 [(.p (aG a)),(.p (aG b))] base (pB true) []:=FV.fi func41 [bF,A2.k 4 (gZ [2,10,14,12])] (gc A2.code (gc (bL h0) gn))
theorem cGx{a b:List Int}(h0:(a.length:Int)=(b.length:Int))(A2:aE Tp 0 aAb (lS a b 0) .ret (bS (lS a b Bm) [(4,(.kb false))])):FV Tp 41 [(.p (aG a)),(.p (aG b))] base (pB false) []:=FV.fi func41 [bF,A2.k 4 (gZ [2,10,14,12])] (gc A2.code (gc (bL h0) gn))
theorem bJs{a b:List Int}(h0:(i:Int)<(a.length:Int))(h1:a[i]? = some Aq)(h2:b[i]? = some D1)(h3:Aq≠D1):aC Tp 0 aAb (lS a b i) .ret (bS (lS a b i) [(4,(.kb false))]):=aC.fi (gZ [2,2,5,7,14,12]) [bT,.x (aA Aq),.x (aA D1),bT] (gc (jF h3) (gc (atm aA h2) (gc (ixn aA h2) (gc (atm aA h1) (gc (ixn aA h1) (gc (aI h0) gn))))))
theorem bJt{a b:List Int}(h0:(i:Int)<(a.length:Int))(h1:a[i]? = some Aq)(h2:b[i]? = some D1)(h3:Aq=D1)(h4:inR (((i+1):Nat):Int))(Ai:i'=(i+1)):aC Tp 0 aAb (lS a b i) .normal (lS a b i'):=by
 subst Ai;exact aC.fi (gZ [2,10,14,12]) [bT,.x (aA Aq),.x (aA D1),bF] (gc h4 (gc (bL h3) (gc (atm aA h2) (gc (ixn aA h2) (gc (atm aA h1) (gc (ixn aA h1) (gc (aI h0) gn)))))))
theorem bJu{a b:List Int}(h0:(a.length:Int)≤(i:Int)):aC Tp 0 aAb (lS a b i) (.exit 0) (lS a b i):=aC.fi (gZ [2,10,14,12]) [bF] (gc (aN h0) gn)
theorem aAc(a b:List Int)(hl:a.length≤1000){base:Nat}:FV Tp 41 [.p (aG a),.p (aG b)] base (pB (decide (a=b))) []:=by
 by_cases hlen:a.length=b.length
 ·rcases aE.find (P:=Tp) (k:=0) (b:=aAb) (fun i=>lS a b i) (fun i _=>bS (lS a b i) [(4,.kb false)]) (lS a b a.length) .ret (.exit 0) (by simp) (by simp) (fun j=>decide (a.getD j 0≠b.getD j 0)) (List.range a.length)
   (fun i x hx hp=>by
    have hi:i<a.length:=by have:=aO hx;simpa using this
    have hxi:x=i:=by rw [nP hi] at hx;exact (Option.some.inj hx).symm
    subst hxi;have h1:a[x]? = some (a.getD x 0):=by rw [Bv,Av hi];rfl
    have h2:b[x]? = some (b.getD x 0):=by rw [Bv,Av (by omega)];rfl
    have he:=of_decide_eq_false hp;exact bJt (by omega) h1 h2 (Classical.not_not.1 he) (aH (by omega)) rfl)
   (fun i x hx hp=>by
    have hi:i<a.length:=by have:=aO hx;simpa using this
    have hxi:x=i:=by rw [nP hi] at hx;exact (Option.some.inj hx).symm
    subst hxi;have h1:a[x]? = some (a.getD x 0):=by rw [Bv,Av hi];rfl
    have h2:b[x]? = some (b.getD x 0):=by rw [Bv,Av (by omega)];rfl
    exact bJs (by omega) h1 h2 (of_decide_eq_true hp))
   (by rw [aGv];exact bJu (by omega)) with ⟨i,x,h1,h2,h3,h4⟩ | ⟨h1,h2,h3⟩
  ·have he:=of_decide_eq_true h3
   rw [decide_eq_false (fun e=>he (by rw [e]))]
   exact cGx (by omega) h4
  ·have hall:∀ i,i<a.length→a.getD i 0=b.getD i 0:=fun i hi=>by
    have:=List.any_eq_false.1 h2 i (iJ.2 hi);simpa using this
   have e:a=b:=by
    apply List.ext_getElem hlen;intro i h1 h2;have:=hall i h1
    rwa [Bv,Bv,Av h1,Av h2] at this
   rw [decide_eq_true e];exact cGw (by omega) h3
 ·rw [decide_eq_false (fun e=>hlen (by rw [e]))]
  exact cGv (by omega)
theorem aMf{a b:Int}:FV Tp 23 [(pI a),(pI b),(pI c)] base (.p (dcE a 0 0 b c 0)) []:=FV.fi func23 [] gn
theorem jI{a b d e:Int}:FV Tp 49 [(pI a),(pI b),(pI c),(pI d),(pI e)] base (.p (dcE a b d 0 e c)) []:=FV.fi func49 [] gn
end
section
variable {P:Program}
theorem FC.close1{f base id ty n:Nat}{cs:List PV}{args A7:List AV}{y:AV}{L:Upd}(h:FC P f A7 [] base y L)(ha:fzL id n cs args=A7):FC P f args [(id,.row ty n cs)] base y ((id,.dead)::L):=fun M hb hf h8=>by
 have hoM:=hb _ (gL ..);subst ha;have fre:∀ j,fP M (base+j)=true→fP (bA M id (some .dead)) (base+j)=true:=fun j hj=>by
  have hne:id≠base+j:=fun e=>by
   have:=cU hj;rw [← e] at this
   exact this _ (bH.1 hoM)
  unfold fP at hj ⊢
  rw [cY,if_neg hne];exact hj
 exact FM.close1 hoM (h _ (fun p hp=>by cases hp) (by have:=fre 0 (by simpa using hf);simpa using this) (fun j hj=>fre j (h8 j hj)))
end
section
variable {Gc:Bool}{r6 y0 y1 y2 y3 y4 y5 num n102 Aa Ab:Int}{T104:Lqb}{x:List Int}{base:Nat}
variable {dl:Int}{sk dc:Lqq}

noncomputable abbrev aWl:Code:=pS (cd Tryz.f58) 9 [0,1,0,1,0,0]
noncomputable abbrev bRe:Code:=pS (cd Tryz.f58) 9 [0,1,0]
noncomputable abbrev aWm:Code:=pS (cd Tryz.f58) 9 [0,1,0,1]
theorem aFr:((0:Int) != 0)=false:=by first | decide | simp
def lB(dl:Int)(sk dc:Lqq)(r:Int)(x:List Int):Int × Bool:=cI dl x (aB dc) (((aB sk).getD (bJ (fun x=>decide (r=x)) (aQ (aB sk) 0)).toNat []).getD 0 0) (((aB sk).getD (bJ (fun x=>decide (r=x)) (aQ (aB sk) 0)).toNat []).getD 1 0)
def rW(dl:Int)(sk:Lqq)(dc:Lqq)(num:Int)(r6:Int)  : St:=⟨fr 102 [(3,(.rp [(aA num)] 0)),(4,(.ptr 0 0)),(5,(.ptr 1 0)),(6,(.rp [(PV.rp (aY dl (aB sk) (aB dc)) 0)] 0)),(9,(.rp [(aA r6)] 0)),(10,(.rp [(aA (bJ (fun x=>decide (r6=x)) (aQ (aB sk) 0)))] 0)),(53,(.fn 182 [] [(.rp [(aG ((aP dl (aB dc)).filter fun n => !(n == num)))] 0)]))],[some (.box 4 [(pB false)]),some (.box 34 [(pI 0)])]⟩
def aFs(dl:Int)(sk:Lqq)(dc:Lqq)(num:Int)(r6:Int):St:=⟨fr 102 [(3,(.rp [(aA num)] 0)),(4,(.ptr 0 0)),(5,(.ptr 1 0)),(6,(.rp [(PV.rp (aY dl (aB sk) (aB dc)) 0)] 0)),(9,(.rp [(aA r6)] 0)),(10,(.rp [(aA (bJ (fun x=>decide (r6=x)) (aQ (aB sk) 0)))] 0)),(53,(.fn 182 [] [(.rp [(aG ((aP dl (aB dc)).filter fun n => !(n == num)))] 0)]))],[some (.box 4 [(pB false)]),some (.box 34 [(pI 0)])]⟩
def aWn(dl:Int)(sk:Lqq)(dc:Lqq)(num:Int)(r6:Int):St:=⟨fr 102 [(3,(.rp [(aA num)] 0)),(4,(.ptr 0 0)),(5,(.ptr 1 0)),(6,(.rp [(PV.rp (aY dl (aB sk) (aB dc)) 0)] 0)),(9,(.rp [(aA r6)] 0)),(10,(.rp [(aA (bJ (fun x=>decide (r6=x)) (aQ (aB sk) 0)))] 0)),(53,(.fn 182 [] [(.rp [(aG ((aP dl (aB dc)).filter fun n => !(n == num)))] 0)]))],[some (.box 4 [(.kb true)]),some (.box 34 [(pI 0)])]⟩
theorem cGl(h0:bR dl sk dc)(h1:bN (aB dc))(h2:(aP dl (aB dc)).length≤1000)(h3:((aP dl (aB dc)).contains num)=false):FV Tp 58 [(.p (.agg (bB dl sk dc))),(pI num)] base (.tup [(pB false),(pI 1)]) []:=have k1:=fk 4 (fE dl sk dc h0) rfl;have k2:=fk 3 (rR (dl:=dl) (sk:=(aB sk)) (dc:=(aB dc)) h1) rfl;FV.fi func58 [k1.o,bF,.g 1 ⟨[],[0,2,3],[4,1],[]⟩,.x (PV.rp (aY dl (aB sk) (aB dc)) 0),k2.o,.x (aA num),.c (pB ((aP dl (aB dc)).contains num)) [],bT] (gc (bM h3) (gt (FC Tp 52 [(.own 3),(pI num)] [(3,(.row 3 ((aP dl (aB dc)).length) ((aP dl (aB dc)).map aA)))] 4 (pB ((aP dl (aB dc)).contains num)) []) (fv (pD (aP dl (aB dc)) num h2)) (gr (aA num) (gc k2 (gr (PV.rp (aY dl (aB sk) (aB dc)) 0) (gc aFr (gc k1 gn)))))))
theorem cGm(h0:bR dl sk dc)(h1:bN (aB dc))(h2:(aP dl (aB dc)).length≤1000)(h3:((aP dl (aB dc)).contains num)=true)(h4:(8:Int)<(((aP dl (aB dc)).length:Nat):Int)):FV Tp 58 [(.p (.agg (bB dl sk dc))),(pI num)] base (.tup [(pB false),(pI 10)]) []:=have k1:=fk 4 (fE dl sk dc h0) rfl;have k2:=fk 3 (rR (dl:=dl) (sk:=(aB sk)) (dc:=(aB dc)) h1) rfl;FV.fi func58 [k1.o,bF,.g 1 ⟨[],[0,2,3],[4,1],[]⟩,.x (PV.rp (aY dl (aB sk) (aB dc)) 0),k2.o,.x (aA num),.c (pB ((aP dl (aB dc)).contains num)) [],bF,bT] (gc (aI h4) (gc (aV h3) (gt (FC Tp 52 [(.own 3),(pI num)] [(3,(.row 3 ((aP dl (aB dc)).length) ((aP dl (aB dc)).map aA)))] 4 (pB ((aP dl (aB dc)).contains num)) []) (fv (pD (aP dl (aB dc)) num h2)) (gr (aA num) (gc k2 (gr (PV.rp (aY dl (aB sk) (aB dc)) 0) (gc aFr (gc k1 gn))))))))
theorem cGn(h0:bR dl sk dc)(h1:bN (aB dc))(h2:(aP dl (aB dc)).length≤1000)(h3:((aP dl (aB dc)).contains num)=true)(h4:(((aP dl (aB dc)).length:Nat):Int)≤8)(h5:cP .i64 (atF (aB dc).reverse) (.int .i64 num))(h6:(dS (atF (aB dc).reverse) (.int .i64 num))=true)(h7:gB (atF (aB dc).reverse) (.int .i64 num)=some (dcE y0 y1 y2 y3 y4 y5))(h8:bRp dl (aB sk) (aB dc) [y0,y1,y2,y3,y4,y5] r6)(h9:uni 2 (aB sk)∧(aB sk).length≤1000)(A5:(aQ (aB sk) 0).length≤1000)(Bd:(bJ (fun x=>decide (r6=x)) (aQ (aB sk) 0))<0):FV Tp 58 [(.p (.agg (bB dl sk dc))),(pI num)] base (.tup [(pB false),(pI 0)]) []:=have k1:=fk 4 (fE dl sk dc h0) rfl;have k2:=fk 3 (rR (dl:=dl) (sk:=(aB sk)) (dc:=(aB dc)) h1) rfl;have k3:=fk 13 (pE dl (aB sk) (aB dc) h9) rfl;FV.fi func58 [k1.o,bF,.g 1 ⟨[],[0,2,3],[4,1],[]⟩,.x (PV.rp (aY dl (aB sk) (aB dc)) 0),k2.o,.x (aA num),.c (pB ((aP dl (aB dc)).contains num)) [],bF,bF,.x (PV.rp (aY dl (aB sk) (aB dc)) 0),.x (PV.rp (aY dl (aB sk) (aB dc)) 0),.x (.mp (atF (aB dc).reverse)),.x (aA num),bT,.x (dcE y0 y1 y2 y3 y4 y5),.c (pI r6) [],.x (PV.rp (aY dl (aB sk) (aB dc)) 0),.x (.agg (bB dl (aB sk) (aB dc))),k3.o,.c (pI (bJ (fun x=>decide (r6=x)) (aQ (aB sk) 0))) [],.g 2 ⟨[],[0,1,2,3,13],[12,29],[]⟩,.x (aA (bJ (fun x=>decide (r6=x)) (aQ (aB sk) 0))),bT] (gc (aI Bd) (gr (aA (bJ (fun x=>decide (r6=x)) (aQ (aB sk) 0))) (gt (FC Tp 126 [(.own 13),(pI r6)] [(13,(.row 3 ((aQ (aB sk) 0).length) ((aQ (aB sk) 0).map aA)))] 21 (pI (bJ (fun x=>decide (r6=x)) (aQ (aB sk) 0))) []) (fv (aEx (aQ (aB sk) 0) r6 A5)) (gc k3 (gr (.agg (bB dl (aB sk) (aB dc))) (gt (0+3≤(aY dl (aB sk) (aB dc)).length) (by first | decide | simp) (gr (PV.rp (aY dl (aB sk) (aB dc)) 0) (gc (fk 4 (h8 _) rfl) (gc h7 (gc h6 (gc h5 (gr (aA num) (gr (.mp (atF (aB dc).reverse)) (gr (PV.rp (aY dl (aB sk) (aB dc)) 0) (gr (PV.rp (aY dl (aB sk) (aB dc)) 0) (gc (aN h4) (gc (aV h3) (gt (FC Tp 52 [(.own 3),(pI num)] [(3,(.row 3 ((aP dl (aB dc)).length) ((aP dl (aB dc)).map aA)))] 4 (pB ((aP dl (aB dc)).contains num)) []) (fv (pD (aP dl (aB dc)) num h2)) (gr (aA num) (gc k2 (gr (PV.rp (aY dl (aB sk) (aB dc)) 0) (gc aFr (gc k1 gn)))))))))))))))))))))))
theorem cGo(h0:bR dl sk dc)(h1:bN (aB dc))(h2:(aP dl (aB dc)).length≤1000)(h3:((aP dl (aB dc)).contains num)=true)(h4:(((aP dl (aB dc)).length:Nat):Int)≤8)(h5:cP .i64 (atF (aB dc).reverse) (.int .i64 num))(h6:(dS (atF (aB dc).reverse) (.int .i64 num))=true)(h7:gB (atF (aB dc).reverse) (.int .i64 num)=some (dcE y0 y1 y2 y3 y4 y5))(h8:bRp dl (aB sk) (aB dc) [y0,y1,y2,y3,y4,y5] r6)(h9:uni 2 (aB sk)∧(aB sk).length≤1000)(A5:(aQ (aB sk) 0).length≤1000)(Bd:(0:Int)≤(bJ (fun x=>decide (r6=x)) (aQ (aB sk) 0)))(J7:aC Tp 0 bRe (aFs dl sk dc num r6) .normal (rW dl sk dc num r6 )):FV Tp 58 [(.p (.agg (bB dl sk dc))),(pI num)] base (.tup [(pB false),(pI 0)]) []:=have k1:=fk 4 (fE dl sk dc h0) rfl;have k2:=fk 3 (rR (dl:=dl) (sk:=(aB sk)) (dc:=(aB dc)) h1) rfl;have k3:=fk 13 (pE dl (aB sk) (aB dc) h9) rfl;have k4:=fk 5 (aWs (q:=((aP dl (aB dc)).filter fun n => !(n == num)))) rfl;FV.fi func58 [k1.o,bF,.g 1 ⟨[],[0,2,3],[4,1],[]⟩,.x (PV.rp (aY dl (aB sk) (aB dc)) 0),k2.o,.x (aA num),.c (pB ((aP dl (aB dc)).contains num)) [],bF,bF,.x (PV.rp (aY dl (aB sk) (aB dc)) 0),.x (PV.rp (aY dl (aB sk) (aB dc)) 0),.x (.mp (atF (aB dc).reverse)),.x (aA num),bT,.x (dcE y0 y1 y2 y3 y4 y5),.c (pI r6) [],.x (PV.rp (aY dl (aB sk) (aB dc)) 0),.x (.agg (bB dl (aB sk) (aB dc))),k3.o,.c (pI (bJ (fun x=>decide (r6=x)) (aQ (aB sk) 0))) [],.g 2 ⟨[],[0,1,2,3,13],[12,29],[]⟩,.x (aA (bJ (fun x=>decide (r6=x)) (aQ (aB sk) 0))),bF,.c (.p (aG ((aP dl (aB dc)).filter fun n => !(n == num)))) [(3,.dead)],k4.o,J7.k 1 (gI [0,3,7,2,11,42,54,48] [1,2])] (gc J7 (gc k4 (gt (FC Tp 54 [(.own 3),(.fn 133 [] [(.rp [(aA num)] 0)])] [(3,(.row 3 ((aP dl (aB dc)).length) ((aP dl (aB dc)).map aA)))] 5 (.p (aG ((aP dl (aB dc)).filter fun n => !(n == num)))) [(3,.dead)]) (FMM.fc (ids:=[3]) (bRn (l:=(aP dl (aB dc))) (m:=num) h2 (fun _ _=>rfl)) (by kernel_rfl)) (gc (aN Bd) (gr (aA (bJ (fun x=>decide (r6=x)) (aQ (aB sk) 0))) (gt (FC Tp 126 [(.own 13),(pI r6)] [(13,(.row 3 ((aQ (aB sk) 0).length) ((aQ (aB sk) 0).map aA)))] 21 (pI (bJ (fun x=>decide (r6=x)) (aQ (aB sk) 0))) []) (fv (aEx (aQ (aB sk) 0) r6 A5)) (gc k3 (gr (.agg (bB dl (aB sk) (aB dc))) (gt (0+3≤(aY dl (aB sk) (aB dc)).length) (by first | decide | simp) (gr (PV.rp (aY dl (aB sk) (aB dc)) 0) (gc (fk 4 (h8 _) rfl) (gc h7 (gc h6 (gc h5 (gr (aA num) (gr (.mp (atF (aB dc).reverse)) (gr (PV.rp (aY dl (aB sk) (aB dc)) 0) (gr (PV.rp (aY dl (aB sk) (aB dc)) 0) (gc (aN h4) (gc (aV h3) (gt (FC Tp 52 [(.own 3),(pI num)] [(3,(.row 3 ((aP dl (aB dc)).length) ((aP dl (aB dc)).map aA)))] 4 (pB ((aP dl (aB dc)).contains num)) []) (fv (pD (aP dl (aB dc)) num h2)) (gr (aA num) (gc k2 (gr (PV.rp (aY dl (aB sk) (aB dc)) 0) (gc aFr (gc k1 gn))))))))))))))))))))))))))
theorem cGp(h0:bR dl sk dc)(h1:bN (aB dc))(h2:(aP dl (aB dc)).length≤1000)(h3:((aP dl (aB dc)).contains num)=true)(h4:(((aP dl (aB dc)).length:Nat):Int)≤8)(h5:cP .i64 (atF (aB dc).reverse) (.int .i64 num))(h6:(dS (atF (aB dc).reverse) (.int .i64 num))=true)(h7:gB (atF (aB dc).reverse) (.int .i64 num)=some (dcE y0 y1 y2 y3 y4 y5))(h8:bRp dl (aB sk) (aB dc) [y0,y1,y2,y3,y4,y5] r6)(h9:uni 2 (aB sk)∧(aB sk).length≤1000)(A5:(aQ (aB sk) 0).length≤1000)(Bd:(0:Int)≤(bJ (fun x=>decide (r6=x)) (aQ (aB sk) 0)))(J7:aC Tp 0 bRe (aFs dl sk dc num r6) .ret (aWn dl sk dc num r6)):FV Tp 58 [(.p (.agg (bB dl sk dc))),(pI num)] base (.tup [(pB true),(pI 0)]) []:=have k1:=fk 4 (fE dl sk dc h0) rfl;have k2:=fk 3 (rR (dl:=dl) (sk:=(aB sk)) (dc:=(aB dc)) h1) rfl;have k3:=fk 13 (pE dl (aB sk) (aB dc) h9) rfl;have k4:=fk 5 (aWs (q:=((aP dl (aB dc)).filter fun n => !(n == num)))) rfl;FV.fi func58 [k1.o,bF,.g 1 ⟨[],[0,2,3],[4,1],[]⟩,.x (PV.rp (aY dl (aB sk) (aB dc)) 0),k2.o,.x (aA num),.c (pB ((aP dl (aB dc)).contains num)) [],bF,bF,.x (PV.rp (aY dl (aB sk) (aB dc)) 0),.x (PV.rp (aY dl (aB sk) (aB dc)) 0),.x (.mp (atF (aB dc).reverse)),.x (aA num),bT,.x (dcE y0 y1 y2 y3 y4 y5),.c (pI r6) [],.x (PV.rp (aY dl (aB sk) (aB dc)) 0),.x (.agg (bB dl (aB sk) (aB dc))),k3.o,.c (pI (bJ (fun x=>decide (r6=x)) (aQ (aB sk) 0))) [],.g 2 ⟨[],[0,1,2,3,13],[12,29],[]⟩,.x (aA (bJ (fun x=>decide (r6=x)) (aQ (aB sk) 0))),bF,.c (.p (aG ((aP dl (aB dc)).filter fun n => !(n == num)))) [(3,.dead)],k4.o,J7.k 1 (gI [0,3,7,2,11,42,54,48] [1,2])] (gc J7 (gc k4 (gt (FC Tp 54 [(.own 3),(.fn 133 [] [(.rp [(aA num)] 0)])] [(3,(.row 3 ((aP dl (aB dc)).length) ((aP dl (aB dc)).map aA)))] 5 (.p (aG ((aP dl (aB dc)).filter fun n => !(n == num)))) [(3,.dead)]) (FMM.fc (ids:=[3]) (bRn (l:=(aP dl (aB dc))) (m:=num) h2 (fun _ _=>rfl)) (by kernel_rfl)) (gc (aN Bd) (gr (aA (bJ (fun x=>decide (r6=x)) (aQ (aB sk) 0))) (gt (FC Tp 126 [(.own 13),(pI r6)] [(13,(.row 3 ((aQ (aB sk) 0).length) ((aQ (aB sk) 0).map aA)))] 21 (pI (bJ (fun x=>decide (r6=x)) (aQ (aB sk) 0))) []) (fv (aEx (aQ (aB sk) 0) r6 A5)) (gc k3 (gr (.agg (bB dl (aB sk) (aB dc))) (gt (0+3≤(aY dl (aB sk) (aB dc)).length) (by first | decide | simp) (gr (PV.rp (aY dl (aB sk) (aB dc)) 0) (gc (fk 4 (h8 _) rfl) (gc h7 (gc h6 (gc h5 (gr (aA num) (gr (.mp (atF (aB dc).reverse)) (gr (PV.rp (aY dl (aB sk) (aB dc)) 0) (gr (PV.rp (aY dl (aB sk) (aB dc)) 0) (gc (aN h4) (gc (aV h3) (gt (FC Tp 52 [(.own 3),(pI num)] [(3,(.row 3 ((aP dl (aB dc)).length) ((aP dl (aB dc)).map aA)))] 4 (pB ((aP dl (aB dc)).contains num)) []) (fv (pD (aP dl (aB dc)) num h2)) (gr (aA num) (gc k2 (gr (PV.rp (aY dl (aB sk) (aB dc)) 0) (gc aFr (gc k1 gn))))))))))))))))))))))))))
def tY(dl:Int)(sk:Lqq)(dc:Lqq)(num:Int)(r6:Int)(x:List Int)  : St:=⟨fr 102 [(3,(.rp [(aA num)] 0)),(4,(.ptr 0 0)),(5,(.ptr 1 0)),(6,(.rp [(PV.rp (aY dl (aB sk) (aB dc)) 0)] 0)),(9,(.rp [(aA r6)] 0)),(10,(.rp [(aA (bJ (fun x=>decide (r6=x)) (aQ (aB sk) 0)))] 0)),(11,(.own 2)),(53,(.fn 182 [] [(.rp [(aG ((aP dl (aB dc)).filter fun n => !(n == num)))] 0)])),(54,(.own 2))],[some (.box 4 [(pB false)]),some (.box 34 [(pI 0)]),some (.row 3 x.length (x.map aA))]⟩
def aMe(dl:Int)(sk:Lqq)(dc:Lqq)(num:Int)(r6:Int)  : St:=⟨fr 102 [],[some (.box 4 [(.kb true)]),some (.box 34 [(pI 0)]),some .dead]⟩
theorem bJm(hl0:aC Tp 3 aWl (tY dl sk dc num r6 x ) .normal (bS (tY dl sk dc num r6 x ) [(12,(pI ((lB dl sk dc r6 x).1))),(13,(pB ((lB dl sk dc r6 x).2)))]))(h1:(aB sk)[(bJ (fun x=>decide (r6=x)) (aQ (aB sk) 0)).toNat]? = some [Aa,Ab])(h2:0≤(bJ (fun x=>decide (r6=x)) (aQ (aB sk) 0)))(h3:uni 2 (aB sk))(h4:[(aA num)].length=1*1∧x.length+1≤1000000)(h5:aGz dl (aB sk) (aB dc) (.sl (x.length+1) ((x.map aA)++[(aA num)])) [Aa,Ab] n102 Gc ([]:Lqb) T104)(h6:cV [(aA r6),(aA 0),(aA ((lB dl sk dc r6 x).1))] [(0,3,true),(1,3,true),(2,3,true)]=true∧cV [(aA r6),(aA 0),(aA n102)] [(0,3,true),(1,3,true),(2,3,true)]=true)(h7:(jW [(aA r6),(aA 0),(aA ((lB dl sk dc r6 x).1))] [(aA r6),(aA 0),(aA n102)] [(0,3,true),(1,3,true),(2,3,true)])=false):aC Tp 3 aWm (rfO (rW dl sk dc num r6 ) 54 11 x) .ret (aMe dl sk dc num r6 ):=have k1:=mq [5,6,7,8,9,10,11] 13 h5;aC.fi (gZ [0,102]) [hl0.k 2 (gZ [0,3,7,2,12,2,16,37,55,16]),.x (PV.rp (aY dl (aB sk) (aB dc)) 0),.x (PV.rp (aY dl (aB sk) (aB dc)) 0),.x (.sl ((aB sk).length) ((aB sk).flatten.map aA)),.x (aA (bJ (fun x=>decide (r6=x)) (aQ (aB sk) 0))),.x (.agg [(aA Aa),(aA Ab)]),.x (PV.rp (aY dl (aB sk) (aB dc)) 0),.x (aA num),.c (.agg (kVL 9 10 5 7 11 6)) [(4,.dead),(5,(Ga dl (aB sk) (aB dc))),(6,(.box 33 [(.p (.sl (x.length+1) ((x.map aA)++[(aA num)])))])),(7,(.box 139 (kVL 9 10 5 7 11 6))),(8,(.mp (aR ([]:Lqb)) 0)),(9,(.box 207 [(.mp 8)])),(10,(Gb dl (aB sk) (aB dc))),(11,(.box 209 [(.fn 153 [] [(.ptr 5 0),(.ptr 7 0)])]))],k1.o,.x (aA r6),.x (aA r6),bT,bT,bT,bT] (Aw (bM h7) (gc h6 (gr (aA r6) (gr (aA r6) (gc k1 (gt (FC Tp 87 [(.rp (aY dl (aB sk) (aB dc)) 0),(.own 4)] [(4,(.row 3 (x.length+1) ((x.map aA)++[(aA num)])))] 5 (.agg (kVL 9 10 5 7 11 6)) [(4,.dead),(5,(Ga dl (aB sk) (aB dc))),(6,(.box 33 [(.p (.sl (x.length+1) ((x.map aA)++[(aA num)])))])),(7,(.box 139 (kVL 9 10 5 7 11 6))),(8,(.mp (aR ([]:Lqb)) 0)),(9,(.box 207 [(.mp 8)])),(10,(Gb dl (aB sk) (aB dc))),(11,(.box 209 [(.fn 153 [] [(.ptr 5 0),(.ptr 7 0)])]))]) (FC.close1 (A7:=[(.rp (aY dl (aB sk) (aB dc)) 0),(.p (.sl (x.length+1) ((x.map aA)++[(aA num)])))]) (FMM.fcN (k:=7) rfl (ids:=[]) (rU (dl:=dl) (sk:=(aB sk)) (dc:=(aB dc)) (on:=(x.length+1)) (ol:=((x.map aA)++[(aA num)]))) (by kernel_rfl)) (by kernel_rfl)) (gc h4 (gr (aA num) (gr (PV.rp (aY dl (aB sk) (aB dc)) 0) (gfz h3 h2 h1 (gr (aA (bJ (fun x=>decide (r6=x)) (aQ (aB sk) 0))) (gr (.sl ((aB sk).length) ((aB sk).flatten.map aA)) (gr (PV.rp (aY dl (aB sk) (aB dc)) 0) (gr (PV.rp (aY dl (aB sk) (aB dc)) 0) (gc hl0 gn)))))))))))))))
theorem bJn(hl0:aC Tp 3 aWl (tY dl sk dc num r6 x ) .normal (bS (tY dl sk dc num r6 x ) [(12,(pI ((lB dl sk dc r6 x).1))),(13,(pB ((lB dl sk dc r6 x).2)))]))(h1:(aB sk)[(bJ (fun x=>decide (r6=x)) (aQ (aB sk) 0)).toNat]? = some [Aa,Ab])(h2:0≤(bJ (fun x=>decide (r6=x)) (aQ (aB sk) 0)))(h3:uni 2 (aB sk))(h4:[(aA num)].length=1*1∧x.length+1≤1000000)(h5:aGz dl (aB sk) (aB dc) (.sl (x.length+1) ((x.map aA)++[(aA num)])) [Aa,Ab] n102 Gc ([]:Lqb) T104)(h6:cV [(aA r6),(aA 0),(aA ((lB dl sk dc r6 x).1))] [(0,3,true),(1,3,true),(2,3,true)]=true∧cV [(aA r6),(aA 0),(aA n102)] [(0,3,true),(1,3,true),(2,3,true)]=true)(h7:(jW [(aA r6),(aA 0),(aA ((lB dl sk dc r6 x).1))] [(aA r6),(aA 0),(aA n102)] [(0,3,true),(1,3,true),(2,3,true)])=true)(h8:(((lB dl sk dc r6 x).2) == Gc)=false):aC Tp 3 aWm (rfO (rW dl sk dc num r6 ) 54 11 x) .ret (aMe dl sk dc num r6 ):=have k1:=mq [5,6,7,8,9,10,11] 13 h5;aC.fi (gZ [0,102]) [hl0.k 2 (gZ [0,3,7,2,12,2,16,37,55,16]),.x (PV.rp (aY dl (aB sk) (aB dc)) 0),.x (PV.rp (aY dl (aB sk) (aB dc)) 0),.x (.sl ((aB sk).length) ((aB sk).flatten.map aA)),.x (aA (bJ (fun x=>decide (r6=x)) (aQ (aB sk) 0))),.x (.agg [(aA Aa),(aA Ab)]),.x (PV.rp (aY dl (aB sk) (aB dc)) 0),.x (aA num),.c (.agg (kVL 9 10 5 7 11 6)) [(4,.dead),(5,(Ga dl (aB sk) (aB dc))),(6,(.box 33 [(.p (.sl (x.length+1) ((x.map aA)++[(aA num)])))])),(7,(.box 139 (kVL 9 10 5 7 11 6))),(8,(.mp (aR ([]:Lqb)) 0)),(9,(.box 207 [(.mp 8)])),(10,(Gb dl (aB sk) (aB dc))),(11,(.box 209 [(.fn 153 [] [(.ptr 5 0),(.ptr 7 0)])]))],k1.o,.x (aA r6),.x (aA r6),bF,bF,bF,bF,bT] (gc (bM h8) (Aw (aV h7) (gc h6 (gr (aA r6) (gr (aA r6) (gc k1 (gt (FC Tp 87 [(.rp (aY dl (aB sk) (aB dc)) 0),(.own 4)] [(4,(.row 3 (x.length+1) ((x.map aA)++[(aA num)])))] 5 (.agg (kVL 9 10 5 7 11 6)) [(4,.dead),(5,(Ga dl (aB sk) (aB dc))),(6,(.box 33 [(.p (.sl (x.length+1) ((x.map aA)++[(aA num)])))])),(7,(.box 139 (kVL 9 10 5 7 11 6))),(8,(.mp (aR ([]:Lqb)) 0)),(9,(.box 207 [(.mp 8)])),(10,(Gb dl (aB sk) (aB dc))),(11,(.box 209 [(.fn 153 [] [(.ptr 5 0),(.ptr 7 0)])]))]) (FC.close1 (A7:=[(.rp (aY dl (aB sk) (aB dc)) 0),(.p (.sl (x.length+1) ((x.map aA)++[(aA num)])))]) (FMM.fcN (k:=7) rfl (ids:=[]) (rU (dl:=dl) (sk:=(aB sk)) (dc:=(aB dc)) (on:=(x.length+1)) (ol:=((x.map aA)++[(aA num)]))) (by kernel_rfl)) (by kernel_rfl)) (gc h4 (gr (aA num) (gr (PV.rp (aY dl (aB sk) (aB dc)) 0) (gfz h3 h2 h1 (gr (aA (bJ (fun x=>decide (r6=x)) (aQ (aB sk) 0))) (gr (.sl ((aB sk).length) ((aB sk).flatten.map aA)) (gr (PV.rp (aY dl (aB sk) (aB dc)) 0) (gr (PV.rp (aY dl (aB sk) (aB dc)) 0) (gc hl0 gn))))))))))))))))
def aWo(dl:Int)(sk:Lqq)(dc:Lqq)(num:Int)(r6:Int)  : St:=⟨fr 102 [(3,(.rp [(aA num)] 0)),(4,(.ptr 0 0)),(5,(.ptr 1 0)),(6,(.rp [(PV.rp (aY dl (aB sk) (aB dc)) 0)] 0)),(9,(.rp [(aA r6)] 0)),(10,(.rp [(aA (bJ (fun x=>decide (r6=x)) (aQ (aB sk) 0)))] 0)),(53,(.fn 182 [] [(.rp [(aG ((aP dl (aB dc)).filter fun n => !(n == num)))] 0)]))],[some (.box 4 [(pB false)]),some (.box 34 [(pI 0)]),some .dead]⟩
theorem bJo(hl0:aC Tp 3 aWl (tY dl sk dc num r6 x ) .normal (bS (tY dl sk dc num r6 x ) [(12,(pI ((lB dl sk dc r6 x).1))),(13,(pB ((lB dl sk dc r6 x).2)))]))(h1:(aB sk)[(bJ (fun x=>decide (r6=x)) (aQ (aB sk) 0)).toNat]? = some [Aa,Ab])(h2:0≤(bJ (fun x=>decide (r6=x)) (aQ (aB sk) 0)))(h3:uni 2 (aB sk))(h4:[(aA num)].length=1*1∧x.length+1≤1000000)(h5:aGz dl (aB sk) (aB dc) (.sl (x.length+1) ((x.map aA)++[(aA num)])) [Aa,Ab] n102 Gc ([]:Lqb) T104)(h6:cV [(aA r6),(aA 0),(aA ((lB dl sk dc r6 x).1))] [(0,3,true),(1,3,true),(2,3,true)]=true∧cV [(aA r6),(aA 0),(aA n102)] [(0,3,true),(1,3,true),(2,3,true)]=true)(h7:(jW [(aA r6),(aA 0),(aA ((lB dl sk dc r6 x).1))] [(aA r6),(aA 0),(aA n102)] [(0,3,true),(1,3,true),(2,3,true)])=true)(h8:(((lB dl sk dc r6 x).2) == Gc)=true):aC Tp 3 aWm (rfO (rW dl sk dc num r6 ) 54 11 x) .normal (aWo dl sk dc num r6 ):=have k1:=mq [5,6,7,8,9,10,11] 13 h5;aC.fi (gZ [0,3,7,2,11,42,54,48]) ([hl0.k 2 (gZ [0,3,7,2,12,2,16,37,55,16]),.x (PV.rp (aY dl (aB sk) (aB dc)) 0),.x (PV.rp (aY dl (aB sk) (aB dc)) 0),.x (.sl ((aB sk).length) ((aB sk).flatten.map aA)),.x (aA (bJ (fun x=>decide (r6=x)) (aQ (aB sk) 0))),.x (.agg [(aA Aa),(aA Ab)]),.x (PV.rp (aY dl (aB sk) (aB dc)) 0),.x (aA num),.c (.agg (kVL 9 10 5 7 11 6)) [(4,.dead),(5,(Ga dl (aB sk) (aB dc))),(6,(.box 33 [(.p (.sl (x.length+1) ((x.map aA)++[(aA num)])))])),(7,(.box 139 (kVL 9 10 5 7 11 6))),(8,(.mp (aR ([]:Lqb)) 0)),(9,(.box 207 [(.mp 8)])),(10,(Gb dl (aB sk) (aB dc))),(11,(.box 209 [(.fn 153 [] [(.ptr 5 0),(.ptr 7 0)])]))],k1.o,.x (aA r6),.x (aA r6)]++rF 5) (gc (aV h8) (Aw (aV h7) (gc h6 (gr (aA r6) (gr (aA r6) (gc k1 (gt (FC Tp 87 [(.rp (aY dl (aB sk) (aB dc)) 0),(.own 4)] [(4,(.row 3 (x.length+1) ((x.map aA)++[(aA num)])))] 5 (.agg (kVL 9 10 5 7 11 6)) [(4,.dead),(5,(Ga dl (aB sk) (aB dc))),(6,(.box 33 [(.p (.sl (x.length+1) ((x.map aA)++[(aA num)])))])),(7,(.box 139 (kVL 9 10 5 7 11 6))),(8,(.mp (aR ([]:Lqb)) 0)),(9,(.box 207 [(.mp 8)])),(10,(Gb dl (aB sk) (aB dc))),(11,(.box 209 [(.fn 153 [] [(.ptr 5 0),(.ptr 7 0)])]))]) (FC.close1 (A7:=[(.rp (aY dl (aB sk) (aB dc)) 0),(.p (.sl (x.length+1) ((x.map aA)++[(aA num)])))]) (FMM.fcN (k:=7) rfl (ids:=[]) (rU (dl:=dl) (sk:=(aB sk)) (dc:=(aB dc)) (on:=(x.length+1)) (ol:=((x.map aA)++[(aA num)]))) (by kernel_rfl)) (by kernel_rfl)) (gc h4 (gr (aA num) (gr (PV.rp (aY dl (aB sk) (aB dc)) 0) (gfz h3 h2 h1 (gr (aA (bJ (fun x=>decide (r6=x)) (aQ (aB sk) 0))) (gr (.sl ((aB sk).length) ((aB sk).flatten.map aA)) (gr (PV.rp (aY dl (aB sk) (aB dc)) 0) (gr (PV.rp (aY dl (aB sk) (aB dc)) 0) (gc hl0 gn))))))))))))))))
end
section

end
section
variable {L5 L8 E1 L9:Bool}{Ma Mb Md:Int}{o:List Int}{i i':Nat}
variable {dl:Int}{sk dc:Lqq}

noncomputable abbrev aLi:Code:=sub (cd Tryz.f37) [1,1,1,0,1,0,0]
theorem bUr(hd:bN dc){base:Nat}:FV Tp 75 [.p (.agg (bB dl sk dc)),.p bX] base (.own base) [(base,.row 121 ((bK dl [] dc).map (cT dl)).length ((((bK dl [] dc).map (cT dl)).map rsE).flatten))]:=FV.argwk (A7:=[.p (.agg (bB dl sk dc)),.p (aG [])]) (aUf (sk:=sk) (q:=[]) hd (by simp)) (by kernel_rfl)
def pC(dl:Int)(sk:Lqq)(dc:Lqq)(on:Nat)(oc:List PV)(i:Nat):St:=⟨fr 29 [(1,(.ptr 0 0)),(2,(.p bX)),(3,(.own 1)),(4,(.own 2)),(5,(pI (i:Int)))],[some (.box 61 [(pI dl),(.p (fS sk)),(.p (fS dc))]),some (.row 121 (((bK dl [] dc).map (cT dl)).length) ((((bK dl [] dc).map (cT dl)).map rsE).flatten)),some (.row 3 on oc)]⟩
theorem cBj{D6:List Int}{Ev:Nat}(h0:bN dc)(A2:aE Tp 0 aLi (pC dl sk dc 0 [] 0) (.exit 0) (pC dl sk dc D6.length (D6.map aA) Ev)){base:Nat}:FV Tp 37 [(.p (.agg (bB dl sk dc)))] base (.p (aG D6)) []:=have k1:=fk 1 (bUr (dl:=dl) (sk:=sk) (dc:=dc) h0) rfl;FV.frz (FMM.fi 0 ⟨[],[],[2],[]⟩ func37 [k1.o,A2.k 6 (gN [0,1,6,22] [0,1,2] [(4,3)])] (gc A2.code (gc k1 gn))) (by kernel_rfl)
theorem bEi{Ek F3 F4 F6 F7 Sw:Int}{o':List Int}(h0:(i:Int)<((((bK dl [] dc).map (cT dl)).length:Nat):Int))(h1:0≤(i:Int)∧(i:Int)<((((bK dl [] dc).map (cT dl)).length:Nat):Int))(h2:((bK dl [] dc).map (cT dl))[i]? = some (L8,L5,E1,L9,Md,Ma,Mb))(h3:E1=true)(h4:dc[i]? = some [Ek,F3,F4,F6,F7,Sw])(h5:uni 6 dc)(h6:[(aA Ek)].length=1*1∧o.length+1≤1000000)(h7:inR (((i+1):Nat):Int))(B1:o'.length=(o.length+1))(B2:o'.map aA=((o.map aA)++[(aA Ek)]))(Ai:i'=(i+1)):aC Tp 0 aLi (pC dl sk dc o.length (o.map aA) i) .normal (pC dl sk dc o'.length (o'.map aA) i'):=by
 subst Ai;rw [B1,B2];exact aC.fi (gI [0,1,6,22] [0,1,4]) [bT,.x (blP E1),bT,.x (aA Ek)] (gc h7 (gc h6 (gt ((dc.flatten.map aA)[(i*6)]? = some (aA Ek)) (bE (i:=i) (f:=0) h5 h4 rfl) (gc (gD (k:=6) (i:=(i:Int)) (by decide) h5 (Br _) h4) (gc h3 (gt (((((bK dl [] dc).map (cT dl)).map rsE).flatten)[((i*7)+2)]? = some (blP E1)) (bI (E:=rsE) (i:=i) (f:=2) (k:=7) (fun _=>rfl) h2 rfl) (gc h1 (gc (aI h0) gn))))))))
theorem bEj(h0:(i:Int)<((((bK dl [] dc).map (cT dl)).length:Nat):Int))(h1:0≤(i:Int)∧(i:Int)<((((bK dl [] dc).map (cT dl)).length:Nat):Int))(h2:((bK dl [] dc).map (cT dl))[i]? = some (L8,L5,E1,L9,Md,Ma,Mb))(h3:E1=false)(h4:inR (((i+1):Nat):Int))(Ai:i'=(i+1)):aC Tp 0 aLi (pC dl sk dc o.length (o.map aA) i) .normal (pC dl sk dc o.length (o.map aA) i'):=by
 subst Ai;exact aC.fi (gI [0,1,6,22] [0,1,2]) [bT,.x (blP E1),bF] (gc h4 (gc h3 (gt (((((bK dl [] dc).map (cT dl)).map rsE).flatten)[((i*7)+2)]? = some (blP E1)) (bI (E:=rsE) (i:=i) (f:=2) (k:=7) (fun _=>rfl) h2 rfl) (gc h1 (gc (aI h0) gn)))))
theorem bEk(h0:((((bK dl [] dc).map (cT dl)).length:Nat):Int)≤(i:Int)):aC Tp 0 aLi (pC dl sk dc o.length (o.map aA) i) (.exit 0) (pC dl sk dc o.length (o.map aA) i):=aC.fi (gI [0,1,6,22] [0,1,2]) [bF] (gc (aN h0) gn)
end
section
section
variable {dl:Int} {sk dc:Lqq}
theorem bOz{oc:List Int}(hd:bN dc){i:Nat}{x:List Int}(h:dc[i]? = some x):∃ s,(bK dl oc dc)[i]? = some s∧s.x=x∧stF dl oc dc x=s:=by
 have hi:=(B3.1 h).1;have Cs:i<(bK dl oc dc).length:=by rw [jR];exact hi
 refine ⟨_,Av Cs,?_,?_⟩
 ·have:=congrArg (fun l=>l[i]?) (rQ dl oc dc)
  simp only [fR,Av Cs,h] at this
  exact Option.some.inj this
 ·have hx:(bK dl oc dc)[i].x=x:=by
   have:=congrArg (fun l=>l[i]?) (rQ dl oc dc)
   simp only [fR,Av Cs,h] at this
   exact Option.some.inj this
  have:=aJc hd (fL Cs)
  rwa [hx] at this
theorem cBi(hd:bN dc){i:Nat}{x:List Int}(h:dc[i]? = some x):∃ up by_ fr,((bK dl [] dc).map (cT dl))[i]? = some (iC dl x,dJ dl [] dc x,kJ dl dc x,up,kI dl [] dc x,by_,fr):=by
 obtain ⟨s,h1,h2,h3⟩:=bOz (dl:=dl) (oc:=[]) hd h;refine ⟨s.upd,(s.rul.map dN).getD 0,(s.chg.map dN).getD 0,?_⟩;rw [fR,h1];show some (cT dl s)=_;have e1:dJ dl [] dc x=s.cnt:=by unfold dJ;rw [h3]
 have e2:kJ dl dc x=(eY (dK x) && (s.cnt && s.rul.isNone)):=by unfold kJ dJ vF;rw [h3]
 have e3:kI dl [] dc x=s.much:=by unfold kI;rw [h3]
 rw [e1,e2,e3];unfold cT;rw [h2]
theorem aLh(hd:bN dc){base:Nat}:FV Tp 37 [.p (.agg (bB dl sk dc))] base (.p (aG (aP dl dc))) []:=by
 have hlen:=hd.len;have hll:((bK dl [] dc).map (cT dl)).length=dc.length:=by rw [Cb,jR]
 have:=aE.range (P:=Tp) (k:=0) (b:=sub (cd Tryz.f37) [1,1,1,0,1,0,0]) (e := .exit 0) (fun i (o:List Int)=>pC dl sk dc o.length (o.map aA) i) (fun o=>pC dl sk dc o.length (o.map aA) dc.length) (fun o x=>if kJ dl dc x then o++[dN x] else o) (fun i o=>o.length≤i) (by simp) dc (a0:=[]) (by simp)
  (fun i x o hx ho=>by
   have hi:=aO hx;obtain ⟨up,b,fr,hr⟩:=cBi (dl:=dl) hd hx;obtain ⟨y0,y1,y2,y3,y4,y5,rfl⟩:=A6 (hd.ud x (Bi hx));cases hb:kJ dl dc [y0,y1,y2,y3,y4,y5] with
   | true =>
    rw [hb] at hr
    refine ⟨by simp;omega,?_⟩
    simp only [if_true];exact bEi (by rw [hll];omega) ⟨by omega,by rw [hll];omega⟩ hr rfl hx hd.ud ⟨rfl,by omega⟩ (aH (by omega)) (by simp) (by simp) rfl
   | false =>
    rw [hb] at hr
    refine ⟨by simp;omega,?_⟩
    simp only [Bool.false_eq_true,if_false];exact bEj (by rw [hll];omega) ⟨by omega,by rw [hll];omega⟩ hr rfl (aH (by omega)) rfl)
  (fun o _=>bEk (by rw [hll];omega))
 have e:∀ (l:Lqq) (o:List Int),l.foldl (fun o x=>if kJ dl dc x then o++[dN x] else o) o=o++(l.filter (kJ dl dc)).map dN:=by
  intro l
  induction l with
  | nil=>intro o;simp
  | cons a l ih =>
   intro o;rw [lE,ih];cases h:kJ dl dc a with
   | true=>simp [List.filter_cons,h]
   | false=>simp [List.filter_cons,h]
 rw [e,List.nil_append] at this
 exact cBj hd this
end
end
section
variable {ot K0 Bg Ew Ey C7:Bool}{tm y1 y2 z0 bib L4 K5 Aa Ab Ac Ad Ae Af Ez E0 Bu:Int}{a o:Lqq}{q:List Int}{i i' U1 base:Nat}
variable {dl:Int}{sk dc:Lqq}

noncomputable abbrev mL:Code:=sub (cd Tryz.f66) [1,1,1,1,0,1,0,0]
noncomputable abbrev aTx:Code:=sub (cd Tryz.f43) [1,1,0,1,0,0]
def dQ(dl:Int)(sk:Lqq)(dc:Lqq)(bib:Int)(q:List Int)(tm:Int)(ot:Bool)(i:Nat):St:=⟨fr 98 [(1,(pI bib)),(3,(.ptr 0 0)),(6,(pI 0)),(7,(.kb false)),(8,(.own 1)),(9,(pI tm)),(10,(pB ot)),(11,(pI (i:Int)))],[some (.box 61 [(pI dl),(.p (fS sk)),(.p (fS dc))]),some (.row 121 (((bK dl q dc).map (cT dl)).length) ((((bK dl q dc).map (cT dl)).map rsE).flatten))]⟩
theorem cBf(h0:bN dc)(h1:q.length≤1000)(h2:uni 2 sk)(h3:sk.length≤1000)(h4:bJ (fun x=>decide (x.getD 0 0=bib)) sk=z0)(h5:sk[z0.toNat]? = some [y1,y2])(h6:0≤z0)(Ec:aE Tp 0 mL (dQ dl sk dc bib q y2 (decide (y2<0)) 0) (.exit 0) (dQ dl sk dc bib q K5 K0 U1))(h8:K0=true):FV Tp 66 [(.p (.agg (bB dl sk dc))),(pI bib),(.p (aG q))] base (.tup [(pI 0),(pB true)]) []:=have k1:=fk 1 (aUf (dl:=dl) (sk:=sk) (dc:=dc) (q:=q) h0 h1) rfl;FV.fi func66 [k1.o,.c (pI z0) [],.x (aA y2),Ec.k 6 (gI [0,1,2,1,4,2,12,86] [0,1]),bT] (gc h8 (gc Ec.code (gt ((sk.flatten.map aA)[((z0.toNat*2)+1)]? = some (aA y2)) (bE (i:=z0.toNat) (f:=1) h2 h5 rfl) (gc (gD (k:=2) (i:=z0) (by decide) h2 h6 h5) (gc (fk 2 (aLj dl sk dc bib h2 h3 h4) rfl) (gc k1 gn))))))
theorem cBg{r0:Int}(h0:bN dc)(h1:q.length≤1000)(h2:uni 2 sk)(h3:sk.length≤1000)(h4:bJ (fun x=>decide (x.getD 0 0=bib)) sk=z0)(h5:sk[z0.toNat]? = some [y1,y2])(h6:0≤z0)(Ec:aE Tp 0 mL (dQ dl sk dc bib q y2 (decide (y2<0)) 0) (.exit 0) (dQ dl sk dc bib q K5 K0 U1))(h8:K0=false)(A4:r0=(if K5 > 0 then K5 else 0)):FV Tp 66 [(.p (.agg (bB dl sk dc))),(pI bib),(.p (aG q))] base (.tup [(pI r0),(pB false)]) []:=by
 subst A4;have k1:=fk 1 (aUf (dl:=dl) (sk:=sk) (dc:=dc) (q:=q) h0 h1) rfl;exact FV.fi func66 [k1.o,.c (pI z0) [],.x (aA y2),Ec.k 6 (gI [0,1,2,1,4,2,12,86] [0,1]),bF] (gc h8 (gc Ec.code (gt ((sk.flatten.map aA)[((z0.toNat*2)+1)]? = some (aA y2)) (bE (i:=z0.toNat) (f:=1) h2 h5 rfl) (gc (gD (k:=2) (i:=z0) (by decide) h2 h6 h5) (gc (fk 2 (aLj dl sk dc bib h2 h3 h4) rfl) (gc k1 gn))))))
theorem bEd(h0:(i:Int)<((((bK dl q dc).map (cT dl)).length:Nat):Int))(h1:dc[i]? = some [Aa,Ab,Ac,Ad,Ae,Af])(h2:uni 6 dc)(h3:Ad≠bib)(h4:inR (((i+1):Nat):Int))(Ai:i'=(i+1)):aC Tp 0 mL (dQ dl sk dc bib q tm ot i) .normal (dQ dl sk dc bib q tm ot i'):=by
 subst Ai;exact aC.fi (gI [0,1,2,1,4,2,12,86] [0,1]) ([bT,.x (dcE Aa Ab Ac Ad Ae Af)]++rT 7) (gc h4 (Kx (jF h3) (gfl h2 h1 (gc (aI h0) gn))))
theorem bEe(h0:(i:Int)<((((bK dl q dc).map (cT dl)).length:Nat):Int))(h1:dc[i]? = some [Aa,Ab,Ac,Ad,Ae,Af])(h2:uni 6 dc)(h3:Ad=bib)(h4:0≤(i:Int)∧(i:Int)<((((bK dl q dc).map (cT dl)).length:Nat):Int))(h5:((bK dl q dc).map (cT dl))[i]? = some (Ew,Bg,Ey,C7,Bu,Ez,E0))(h6:Bg=false)(h7:inR (((i+1):Nat):Int))(Ai:i'=(i+1)):aC Tp 0 mL (dQ dl sk dc bib q tm ot i) .normal (dQ dl sk dc bib q tm ot i'):=by
 subst Ai;exact aC.fi (gI [0,1,2,1,4,2,12,86] [0,1]) ([bT,.x (dcE Aa Ab Ac Ad Ae Af)]++rF 5++[.x (blP Bg),bF,bF,bT]) (gc h7 (gc (bM h6) (Az (bL h3) (gt (((((bK dl q dc).map (cT dl)).map rsE).flatten)[((i*7)+1)]? = some (blP Bg)) (bI (E:=rsE) (i:=i) (f:=1) (k:=7) (fun _=>rfl) h5 rfl) (Az (bL h3) (gc h4 (Ak (bL h3) (gfl h2 h1 (gc (aI h0) gn)))))))))
theorem bEf(h0:(i:Int)<((((bK dl q dc).map (cT dl)).length:Nat):Int))(h1:dc[i]? = some [Aa,Ab,Ac,Ad,Ae,Af])(h2:uni 6 dc)(h3:Ad=bib)(h4:0≤(i:Int)∧(i:Int)<((((bK dl q dc).map (cT dl)).length:Nat):Int))(h5:((bK dl q dc).map (cT dl))[i]? = some (Ew,Bg,Ey,C7,Bu,Ez,E0))(h6:Bg=true)(h7:Ab=0)(h8:inR (tm+Bu))(h9:Ab≠1)(A5:Ab≠2)(Bd:Ab≠3)(Bh:inR (((i+1):Nat):Int))(H8:L4=(tm+Bu))(Ai:i'=(i+1)):aC Tp 0 mL (dQ dl sk dc bib q tm ot i) .normal (dQ dl sk dc bib q L4 ot i'):=by
 subst H8 Ai;exact aC.fi (gI [0,1,2,1,4,2,12,86] [0,1]) ([bT,.x (dcE Aa Ab Ac Ad Ae Af)]++rF 5++[.x (blP Bg),bF,bF,bF]++rT 6++[.x (aA Bu),bF,bF,bF]) (gc Bh (gc (aU Bd) (gc (aU A5) (gc (aU h9) (gc h8 (gt (((((bK dl q dc).map (cT dl)).map rsE).flatten)[((i*7)+4)]? = some (aA Bu)) (bI (E:=rsE) (i:=i) (f:=4) (k:=7) (fun _=>rfl) h5 rfl) (gc h4 (Fx (cH h7) (gc (aV h6) (Az (bL h3) (gt (((((bK dl q dc).map (cT dl)).map rsE).flatten)[((i*7)+1)]? = some (blP Bg)) (bI (E:=rsE) (i:=i) (f:=1) (k:=7) (fun _=>rfl) h5 rfl) (Az (bL h3) (gc h4 (Ak (bL h3) (gfl h2 h1 (gc (aI h0) gn))))))))))))))))
theorem aTy(h0:(i:Int)<((((bK dl q dc).map (cT dl)).length:Nat):Int))(h1:dc[i]? = some [Aa,Ab,Ac,Ad,Ae,Af])(h2:uni 6 dc)(h3:Ad=bib)(h4:0≤(i:Int)∧(i:Int)<((((bK dl q dc).map (cT dl)).length:Nat):Int))(h5:((bK dl q dc).map (cT dl))[i]? = some (Ew,Bg,Ey,C7,Bu,Ez,E0))(h6:Bg=true)(h7:Ab≠0)(h8:Ab=4)(h9:C7=true)(A5:inR (tm+Bu))(Bd:Ab≠1)(Bh:Ab≠2)(B9:Ab≠3)(Di:inR (((i+1):Nat):Int))(H8:L4=(tm+Bu))(Ai:i'=(i+1)):aC Tp 0 mL (dQ dl sk dc bib q tm ot i) .normal (dQ dl sk dc bib q L4 ot i'):=by
 subst H8 Ai;exact aC.fi (gI [0,1,2,1,4,2,12,86] [0,1]) ([bT,.x (dcE Aa Ab Ac Ad Ae Af)]++rF 5++[.x (blP Bg)]++rF 7++rT 5++[.x (blP C7),bF,bT,bF,bT,.x (aA Bu),bF,bF,bF]) (gc Di (gc (aU B9) (gc (aU Bh) (gc (aU Bd) (gc A5 (gt (((((bK dl q dc).map (cT dl)).map rsE).flatten)[((i*7)+4)]? = some (aA Bu)) (bI (E:=rsE) (i:=i) (f:=4) (k:=7) (fun _=>rfl) h5 rfl) (gc h4 (gc h9 (gc (aU h7) (gc (cH h8) (gc (aU h7) (gt (((((bK dl q dc).map (cT dl)).map rsE).flatten)[((i*7)+3)]? = some (blP C7)) (bI (E:=rsE) (i:=i) (f:=3) (k:=7) (fun _=>rfl) h5 rfl) (Az (cH h8) (gc h4 (Ak (cH h8) (Aw (aU h7) (gc (aV h6) (Az (bL h3) (gt (((((bK dl q dc).map (cT dl)).map rsE).flatten)[((i*7)+1)]? = some (blP Bg)) (bI (E:=rsE) (i:=i) (f:=1) (k:=7) (fun _=>rfl) h5 rfl) (Az (bL h3) (gc h4 (Ak (bL h3) (gfl h2 h1 (gc (aI h0) gn))))))))))))))))))))))))
theorem aTz(h0:(i:Int)<((((bK dl q dc).map (cT dl)).length:Nat):Int))(h1:dc[i]? = some [Aa,Ab,Ac,Ad,Ae,Af])(h2:uni 6 dc)(h3:Ad=bib)(h4:0≤(i:Int)∧(i:Int)<((((bK dl q dc).map (cT dl)).length:Nat):Int))(h5:((bK dl q dc).map (cT dl))[i]? = some (Ew,Bg,Ey,C7,Bu,Ez,E0))(h6:Bg=true)(h7:Ab≠0)(h8:Ab=4)(h9:C7=false)(A5:Ab≠1)(Bd:Ab≠2)(Bh:Ab≠3)(B9:inR (((i+1):Nat):Int))(Ai:i'=(i+1)):aC Tp 0 mL (dQ dl sk dc bib q tm ot i) .normal (dQ dl sk dc bib q tm ot i'):=by
 subst Ai;exact aC.fi (gI [0,1,2,1,4,2,12,86] [0,1]) ([bT,.x (dcE Aa Ab Ac Ad Ae Af)]++rF 5++[.x (blP Bg)]++rF 7++rT 5++[.x (blP C7),bF,bT]++rF 5) (gc B9 (gc (aU Bh) (gc (aU Bd) (gc (aU A5) (gc h9 (gc (aU h7) (gc (cH h8) (gc (aU h7) (gt (((((bK dl q dc).map (cT dl)).map rsE).flatten)[((i*7)+3)]? = some (blP C7)) (bI (E:=rsE) (i:=i) (f:=3) (k:=7) (fun _=>rfl) h5 rfl) (Az (cH h8) (gc h4 (Ak (cH h8) (Aw (aU h7) (gc (aV h6) (Az (bL h3) (gt (((((bK dl q dc).map (cT dl)).map rsE).flatten)[((i*7)+1)]? = some (blP Bg)) (bI (E:=rsE) (i:=i) (f:=1) (k:=7) (fun _=>rfl) h5 rfl) (Az (bL h3) (gc h4 (Ak (bL h3) (gfl h2 h1 (gc (aI h0) gn)))))))))))))))))))))
theorem aUa(h0:(i:Int)<((((bK dl q dc).map (cT dl)).length:Nat):Int))(h1:dc[i]? = some [Aa,Ab,Ac,Ad,Ae,Af])(h2:uni 6 dc)(h3:Ad=bib)(h4:0≤(i:Int)∧(i:Int)<((((bK dl q dc).map (cT dl)).length:Nat):Int))(h5:((bK dl q dc).map (cT dl))[i]? = some (Ew,Bg,Ey,C7,Bu,Ez,E0))(h6:Bg=true)(h7:Ab≠0)(h8:Ab≠4)(h9:Ab=1)(A5:inR (tm-Bu))(Bd:Ab≠2)(Bh:Ab≠3)(B9:inR (((i+1):Nat):Int))(H8:L4=(tm-Bu))(Ai:i'=(i+1)):aC Tp 0 mL (dQ dl sk dc bib q tm ot i) .normal (dQ dl sk dc bib q L4 ot i'):=by
 subst H8 Ai;exact aC.fi (gI [0,1,2,1,4,2,12,86] [0,1]) ([bT,.x (dcE Aa Ab Ac Ad Ae Af)]++rF 5++[.x (blP Bg)]++rF 15++[bT,.x (aA Bu),bF,bF]) (gc B9 (gc (aU Bh) (gc (aU Bd) (gc A5 (gt (((((bK dl q dc).map (cT dl)).map rsE).flatten)[((i*7)+4)]? = some (aA Bu)) (bI (E:=rsE) (i:=i) (f:=4) (k:=7) (fun _=>rfl) h5 rfl) (gc h4 (gc (cH h9) (gc (aU h7) (gc (aU h8) (gc (aU h7) (Bo (aU h8) (Aw (aU h7) (gc (aV h6) (Az (bL h3) (gt (((((bK dl q dc).map (cT dl)).map rsE).flatten)[((i*7)+1)]? = some (blP Bg)) (bI (E:=rsE) (i:=i) (f:=1) (k:=7) (fun _=>rfl) h5 rfl) (Az (bL h3) (gc h4 (Ak (bL h3) (gfl h2 h1 (gc (aI h0) gn))))))))))))))))))))
theorem aUb(h0:(i:Int)<((((bK dl q dc).map (cT dl)).length:Nat):Int))(h1:dc[i]? = some [Aa,Ab,Ac,Ad,Ae,Af])(h2:uni 6 dc)(h3:Ad=bib)(h4:0≤(i:Int)∧(i:Int)<((((bK dl q dc).map (cT dl)).length:Nat):Int))(h5:((bK dl q dc).map (cT dl))[i]? = some (Ew,Bg,Ey,C7,Bu,Ez,E0))(h6:Bg=true)(h7:Ab≠0)(h8:Ab≠4)(h9:Ab≠1)(A5:Ab=2)(Bd:inR ((1200:Int)*Bu))(Bh:inR (tm+((1200:Int)*Bu)))(B9:Ab≠3)(Di:inR (((i+1):Nat):Int))(H8:L4=(tm+((1200:Int)*Bu)))(Ai:i'=(i+1)):aC Tp 0 mL (dQ dl sk dc bib q tm ot i) .normal (dQ dl sk dc bib q L4 ot i'):=by
 subst H8 Ai;exact aC.fi (gI [0,1,2,1,4,2,12,86] [0,1]) ([bT,.x (dcE Aa Ab Ac Ad Ae Af)]++rF 5++[.x (blP Bg)]++rF 16++[bT,.x (aA Bu),bF]) (gc Di (gc (aU B9) (gc Bh (gc Bd (gt (((((bK dl q dc).map (cT dl)).map rsE).flatten)[((i*7)+4)]? = some (aA Bu)) (bI (E:=rsE) (i:=i) (f:=4) (k:=7) (fun _=>rfl) h5 rfl) (gc h4 (gc (cH A5) (gc (aU h9) (gc (aU h7) (gc (aU h8) (gc (aU h7) (Bo (aU h8) (Aw (aU h7) (gc (aV h6) (Az (bL h3) (gt (((((bK dl q dc).map (cT dl)).map rsE).flatten)[((i*7)+1)]? = some (blP Bg)) (bI (E:=rsE) (i:=i) (f:=1) (k:=7) (fun _=>rfl) h5 rfl) (Az (bL h3) (gc h4 (Ak (bL h3) (gfl h2 h1 (gc (aI h0) gn)))))))))))))))))))))
theorem aUc(h0:(i:Int)<((((bK dl q dc).map (cT dl)).length:Nat):Int))(h1:dc[i]? = some [Aa,Ab,Ac,Ad,Ae,Af])(h2:uni 6 dc)(h3:Ad=bib)(h4:0≤(i:Int)∧(i:Int)<((((bK dl q dc).map (cT dl)).length:Nat):Int))(h5:((bK dl q dc).map (cT dl))[i]? = some (Ew,Bg,Ey,C7,Bu,Ez,E0))(h6:Bg=true)(h7:Ab≠0)(h8:Ab≠4)(h9:Ab≠1)(A5:Ab≠2)(Bd:Ab=3)(Bh:inR (((i+1):Nat):Int))(Ai:i'=(i+1)):aC Tp 0 mL (dQ dl sk dc bib q tm ot i) .normal (dQ dl sk dc bib q tm true i'):=by
 subst Ai;exact aC.fi (gN [0,1,2,1,4,2,12,86] [0,1] [(10,0)]) ([bT,.x (dcE Aa Ab Ac Ad Ae Af)]++rF 5++[.x (blP Bg)]++rF 17++[bT]) (gc Bh (gc (cH Bd) (gc (aU A5) (gc (aU h9) (gc (aU h7) (gc (aU h8) (gc (aU h7) (Bo (aU h8) (Aw (aU h7) (gc (aV h6) (Az (bL h3) (gt (((((bK dl q dc).map (cT dl)).map rsE).flatten)[((i*7)+1)]? = some (blP Bg)) (bI (E:=rsE) (i:=i) (f:=1) (k:=7) (fun _=>rfl) h5 rfl) (Az (bL h3) (gc h4 (Ak (bL h3) (gfl h2 h1 (gc (aI h0) gn)))))))))))))))))
theorem aUd(h0:(i:Int)<((((bK dl q dc).map (cT dl)).length:Nat):Int))(h1:dc[i]? = some [Aa,Ab,Ac,Ad,Ae,Af])(h2:uni 6 dc)(h3:Ad=bib)(h4:0≤(i:Int)∧(i:Int)<((((bK dl q dc).map (cT dl)).length:Nat):Int))(h5:((bK dl q dc).map (cT dl))[i]? = some (Ew,Bg,Ey,C7,Bu,Ez,E0))(h6:Bg=true)(h7:Ab≠0)(h8:Ab≠4)(h9:Ab≠1)(A5:Ab≠2)(Bd:Ab≠3)(Bh:inR (((i+1):Nat):Int))(Ai:i'=(i+1)):aC Tp 0 mL (dQ dl sk dc bib q tm ot i) .normal (dQ dl sk dc bib q tm ot i'):=by
 subst Ai;exact aC.fi (gI [0,1,2,1,4,2,12,86] [0,1]) ([bT,.x (dcE Aa Ab Ac Ad Ae Af)]++rF 5++[.x (blP Bg)]++rF 18) (gc Bh (gc (aU Bd) (gc (aU A5) (gc (aU h9) (gc (aU h7) (gc (aU h8) (gc (aU h7) (Bo (aU h8) (Aw (aU h7) (gc (aV h6) (Az (bL h3) (gt (((((bK dl q dc).map (cT dl)).map rsE).flatten)[((i*7)+1)]? = some (blP Bg)) (bI (E:=rsE) (i:=i) (f:=1) (k:=7) (fun _=>rfl) h5 rfl) (Az (bL h3) (gc h4 (Ak (bL h3) (gfl h2 h1 (gc (aI h0) gn)))))))))))))))))
theorem aUe(h0:((((bK dl q dc).map (cT dl)).length:Nat):Int)≤(i:Int)):aC Tp 0 mL (dQ dl sk dc bib q tm ot i) (.exit 0) (dQ dl sk dc bib q tm ot i):=aC.fi (gI [0,1,2,1,4,2,12,86] [0,1]) [bF] (gc (aN h0) gn)
def tI(a:Lqq)(on:Nat)(oc:List PV)(i:Nat):St:=⟨fr 18 [(2,(.p bX)),(3,(.own 0)),(6,(.p (fS a))),(7,(pI (a.length:Int))),(8,(pI (i:Int)))],[some (.row 76 on oc)]⟩
theorem cBh{D6:Lqq}{Ev:Nat}(hl0:aE Tp 0 aTx (tI a 0 [] 0) (.exit 0) (tI a D6.length (D6.flatten.map aA) Ev)):FV Tp 43 [(.p (fS a))] base (.p (fS D6)) []:=FV.frz (FMM.fi 0 ⟨[],[],[0],[]⟩ func43 [hl0.k 8 (gN [0,2,4,2,9,9] [0] [(3,76)])] (gc hl0.code gn)) (by kernel_rfl)
theorem bEg{o':Lqq}(h0:(i:Int)<(a.length:Int))(h1:a[i]? = some [Aa,Ab,Ac])(h2:uni 3 a)(h3:[(aA Aa),(aA Ab),(aA Ac)].length=1*3∧o.length+1≤1000000)(h4:inR (((i+1):Nat):Int))(B1:o'.length=(o.length+1))(B2:o'.flatten.map aA=((o.flatten.map aA)++[(aA Aa),(aA Ab),(aA Ac)]))(Ai:i'=(i+1)):aC Tp 0 aTx (tI a o.length (o.flatten.map aA) i) .normal (tI a o'.length (o'.flatten.map aA) i'):=by
 subst Ai;rw [B1,B2];exact aC.fi (gI [0,2,4,2,9,9] [3]) [bT,.x (.agg [(aA Aa),(aA Ab),(aA Ac)])] (gc h4 (gc h3 (gt ([(aA Aa),(aA Ab),(aA Ac)].length=3) (by first | decide | simp) (gfl h2 h1 (gc (aI h0) gn)))))
theorem bEh(h0:(a.length:Int)≤(i:Int)):aC Tp 0 aTx (tI a o.length (o.flatten.map aA) i) (.exit 0) (tI a o.length (o.flatten.map aA) i):=aC.fi (gI [0,2,4,2,9,9] [0]) [bF] (gc (aN h0) gn)
end
section

end
section
end
section
end
section
end
section
variable {F:Fence} {n:Nat} {P:Program}
theorem aXt{o:Oper}{a:Act}{next Fu:Act→World→Prop}{Q Q':Exit→Act→World→Prop}{r:Result Next}(h:o.uponIn F n P a next Q r)
  (hn:∀ v d w',next (({ a with defers:=d }:Act).put o.dst v) w'→Fu (({ a with defers:=d }:Act).put o.dst v) w') (hQ:∀ e a' w',e ≠ .normal→Q e a' w'→Q' e a' w') (hL:LetsOut Q→LetsOut Q'):o.uponIn F n P a Fu Q' r:=by
 have Fe:∀ v w',next (a.put o.dst v) w'→Fu (a.put o.dst v) w':=fun v w'=>hn v a.defers w'
 cases r with
 | halt x w' =>
  cases x <;> first | exact hQ _ _ _ (by simp) h | exact h
 | ok nx w' =>
  cases nx with
  | value v=>exact Fe _ _ h
  | skip=>exact Fe _ _ h
  | defer d=>exact hn _ _ _ h
  | enter f us =>
   refine ⟨h.1,h.2.mono ?_⟩;intro e H5 he;cases e with
   | returned v=>exact Fe _ _ he
   | panicked c=>exact hQ _ _ _ (by simp) he
   | outgrown=>exact hL he
  | row r us=>exact ⟨h.1,h.2.mono fun v H5 he=>Fe _ _ he⟩
  | round l f tmps X9 bd =>
   refine ⟨h.1,h.2.mono ?_⟩;intro e H5 he;cases e with
   | returned v=>exact Fe _ _ he
   | panicked c=>exact hQ _ _ _ (by simp) he
   | outgrown=>exact hL he
  | _=>exact h
def Kps(ops:Array Oper)(a0 a:Act):Prop:=∀ i,(∀ o∈ops.toList,o.dst≠some i)→a.tmps.getD i undef=a0.tmps.getD i undef
theorem bLr{ops:Array Oper}{Q Q':Exit→Act→World→Prop}{i:Nat}{K K':Act→World→Prop}{a0 a:Act}{w:World}(h:wpOpIn F n P ops Q i K a w)(ha:Kps ops a0 a)(hK:∀ a' w',Kps ops a0 a'→K a' w'→K' a' w')
  (hQ:∀ e a' w',e ≠ .normal→Q e a' w'→Q' e a' w') (hL:LetsOut Q→LetsOut Q'):wpOpIn F n P ops Q' i K' a w:=by
 unfold wpOpIn at h ⊢
 split
 ·rename_i hi
  simp only [hi] at h
  exact hK _ _ ha h
 ·rename_i o hi
  simp only [hi] at h
  have hm:o∈ops.toList:=by
   obtain ⟨hl,he⟩:=nA.1 hi;rw [← he];exact Array.mem_toList_iff.2 (Array.getElem_mem hl)
  have hput:∀ v (d:List Deferred),Kps ops a0 (({ a with defers:=d }:Act).put o.dst v):=fun v d i hd=>by
   rw [qR (a:={ a with defers:=d }) (hd o hm)]
   exact ha i hd
  split at h
  ·rename_i hw
   rw [if_pos hw];exact ⟨h.1,aXt h.2 (fun v d w' hn=>hK _ _ (hput v d) hn) hQ hL⟩
  ·rename_i hw
   rw [if_neg hw];exact ⟨h.1,hK _ _ (hput undef a.defers) h.2⟩
theorem aGc{md:Region.Mode}{ops:Array Oper}{Q:Exit→Act→World→Prop}{a0:Act}:∀ (fuel:Nat) (listed:Array Bool) (a:Act) (w:World),wpAnyIn F n P md ops Q fuel listed a w→Kps ops a0 a →
  wpAnyIn F n P md ops (fun e a' w'=>Q e a' w'∧(e = .normal→Kps ops a0 a')) fuel listed a w
 | 0,listed,a,w,h,ha=>⟨h.1,h.2,fun _=>ha⟩
 | fuel+1,listed,a,w,h,ha=>by
  refine ⟨fun h0=>⟨h.1 h0,fun _=>ha⟩,fun j hj => ?_⟩
  exact bLr (h.2 j hj) ha (fun a' w' hk h'=>aGc fuel _ a' w' h' hk) (fun e a' w' hne hq=>⟨hq,fun he=>absurd he hne⟩) (fun ⟨a',w',hq⟩=>⟨a',w',hq,fun he=>by cases he⟩)
end
section
section
variable {F:Fence} {n:Nat} {P:Program}
def bkD(ds:List Deferred)(a:Act):Act:={ a with defers:=a.defers++ds }
theorem aMx(ds:List Deferred)(a:Act)(d:Option Nat)(v:Value):(bkD ds a).put d v=bkD ds (a.put d v):=by cases d <;> rfl
theorem aGb(ds:List Deferred)(a:Act):(bkD ds a).eval=a.eval:=by funext x;cases x <;> rfl
theorem bLp(ds:List Deferred){o:Oper}{a:Act}{next Fu:Act→World→Prop}{Q Q':Exit→Act→World→Prop}{r:Result Next}(h:o.uponIn F n P a next Q r)
  (hn:∀ a' w',next a' w'→Fu (bkD ds a') w') (hQ:∀ e a' w',Q e a' w'→Q' e (bkD ds a') w') (hL:LetsOut Q→LetsOut Q'):o.uponIn F n P (bkD ds a) Fu Q' r:=by
 have hv:∀ v w',next (a.put o.dst v) w'→Fu ((bkD ds a).put o.dst v) w':=fun v w' h=>by rw [aMx];exact hn _ _ h
 cases r with
 | halt x w' =>
  cases x <;> first | exact hQ _ _ _ h | exact h
 | ok nx w' =>
  cases nx with
  | value v=>exact hv _ _ h
  | skip=>exact hv _ _ h
  | defer d =>
   have:=hn _ _ h;rw [← aMx] at this
   exact this
  | enter f us =>
   refine ⟨h.1,h.2.mono ?_⟩;intro e H5 he;cases e with
   | returned v=>exact hv _ _ he
   | panicked c=>exact hQ _ _ _ he
   | outgrown=>exact hL he
  | row r us=>exact ⟨h.1,h.2.mono fun v H5 he=>hv _ _ he⟩
  | round l f tmps X9 bd =>
   refine ⟨h.1,h.2.mono ?_⟩;intro e H5 he;cases e with
   | returned v=>exact hv _ _ he
   | panicked c=>exact hQ _ _ _ he
   | outgrown=>exact hL he
  | _=>exact h
theorem bZg(ds:List Deferred){ops:Array Oper}{Q Q':Exit→Act→World→Prop}{i:Nat}{K K':Act→World→Prop}{a:Act}{w:World}(h:wpOpIn F n P ops Q i K a w)(hK:∀ a' w',K a' w'→K' (bkD ds a') w')
  (hQ:∀ e a' w',Q e a' w'→Q' e (bkD ds a') w') (hL:LetsOut Q→LetsOut Q'):wpOpIn F n P ops Q' i K' (bkD ds a) w:=by
 unfold wpOpIn at h ⊢
 split
 ·rename_i hi
  simp only [hi] at h
  exact hK _ _ h
 ·rename_i o hi
  simp only [hi] at h
  have e1:(bkD ds a).tmps=a.tmps:=rfl;rw [e1]
  split at h
  ·rename_i hw
   rw [if_pos hw];refine ⟨by rw [aGb];exact h.1,?_⟩
   rw [aGb];exact bLp ds h.2 hK hQ hL
  ·rename_i hw
   rw [if_neg hw];exact ⟨by rw [aGb];exact h.1,by rw [aMx];exact hK _ _ h.2⟩
theorem aRg(ds:List Deferred){md:Region.Mode}{ops:Array Oper}{Q Q':Exit→Act→World→Prop}(hQ:∀ e a' w',Q e a' w'→Q' e (bkD ds a') w')(hL:LetsOut Q→LetsOut Q'):∀ (fuel:Nat) (listed:Array Bool) (a:Act) (w:World),wpAnyIn F n P md ops Q fuel listed a w→wpAnyIn F n P md ops Q' fuel listed (bkD ds a) w
 | 0,listed,a,w,h=>⟨h.1,hQ _ _ _ h.2⟩
 | fuel+1,listed,a,w,h=>⟨fun h0=>hQ _ _ _ (h.1 h0),fun j hj=>bZg ds (h.2 j hj) (fun a' w' h'=>aRg ds hQ hL fuel _ a' w' h') hQ hL⟩
end
variable {P:Program} {T:TT} {E:Env}
theorem bLq(ds:List Deferred)(hT:∀ t i,T t=some i→cN P t=some i)(hE:mR P E)(hm:P.follows .mixedOrders=true){id:Nat}{ops:Array Oper}{st Am:St}{s s':AS}(h:aNw P T E ops true st s=some (Am,s'))(g:bC s')
  (C0:Cx) (M0:Mem) (w0:World) (a:Act) (w:World) (hs:Sim P C0 M0 w0 st a w) (ro:Option Nat) (n:Nat):(Code.region id ops true).wpIn (Fen ro) n P (fun e' a' w'=>e'=Ex.normal.toExit∧∃ a2,a'=bkD ds a2∧Sim P C0 M0 w0 Am a2 w'∧Kps ops a a2) (bkD ds a) w:=by
 obtain ⟨_,s1,h1,k1⟩:=aD h;obtain ⟨e1,rfl⟩:=aF h1;obtain ⟨r,s2,h2,k2⟩:=aD k1;obtain ⟨_,s3,h3,k3⟩:=aD k2;obtain ⟨e3,rfl⟩:=aF h3;obtain ⟨rfl,rfl⟩:=aK k3;obtain ⟨hB,_⟩:=bU e1;obtain ⟨hA,_⟩:=bU e3;obtain ⟨os,hfts,hlex⟩:=sM ops.toList _ (fts:=r.1) (fin:=r.2) h2 g
 replace hB:=zC hB
 unfold Region.lexB at hB
 rw [B7] at hB
 have hlen:os.length=ops.toList.length:=by
  have:∀ {l:List Oper} {id:Nat} {st:St} {os:List xK} {fin:St},aNx P T E ops.toList id l st os fin→os.length=l.length:=by
   intro l
   induction l with
   | nil=>intro id st os fin h;cases h;rfl
   | cons o l ih=>intro id st os fin h;cases h with | cons _ _ _ _ q os _ h hr=>simp [ih hr]
  exact this hlex
 have key:qD P T E ops.toList st.m.length (fun k=>os.getD k (.any,[],none)) r.2 ops.toList.length (Array.replicate ops.size false) st:=by
  refine qD.lex ops.toList 0 _ st os (fun j=>by simp) (fun j q hj=>by simp [Bv,hj]) (fun j hj=>absurd hj (aTs _)) (fun j oj hj hl => ?_) (fun i j _ hij hj => ?_) (by simpa using hB.2) (by simpa [ido] using hlex)
  ·exfalso
   rcases Nat.lt_or_ge j ops.size with h' | h'
   ·simp [h'] at hl
   ·simp [Nat.not_lt.2 h'] at hl
  have Du:j<os.length:=by
   rw [hlen];obtain ⟨o,ho⟩:=Option.isSome_iff_exists.1 hj;exact (B3.1 ho).1
  have:=oD r.1 0 hA i j (aDd os[i]) (aDd os[j]) hij (by rw [hfts,fR,Av (by omega)];rfl) (by rw [hfts,fR,Av Du];rfl)
  rw [gU,gU] at this
  simp only [Bv,Av Du,Av (show i<os.length by omega),Option.getD_some,Array.toArray_toList]
  exact this
 refine wpIn_region_any hm ?_;have:=qD.sound hT hE (C0:=C0) (M0:=M0) (w0:=w0) (ro:=ro) (n:=n) (Q:=fun e' a' w'=>e'=Ex.normal.toExit∧Sim P C0 M0 w0 r.2 a' w') (fun a' w' h'=>⟨rfl,h'⟩) _ _ _ a _ key (hs.drawn (w.drawn+1))
 have h2:=aGc (a0:=a) _ _ _ _ (by simpa using this) (fun _ _=>rfl)
 exact aRg ds (fun e a' w' h=>⟨h.1.1,a',rfl,h.1.2,h.2 h.1.1⟩) (fun ⟨a',w',h⟩=>by cases h.1.1) _ _ _ _ h2

end
section
def uE(P:Program)(k:Nat)(c:Code)(st:St)(e:Ex)(Am:St):Prop:=∀ (C0:Cx) (M0:Mem) (w0:World) (a:Act) (w:World),M0.length≤k→Sim P C0 M0 w0 st a w→∀ (ds:List Deferred) (ro:Option Nat) (n:Nat),c.wpIn (Fen ro) n P (fun e' a' w'=>e'=e.toExit∧∃ a2,a'=bkD ds a2∧Sim P C0 M0 w0 Am a2 w'∧(∀ i,wrR c i=false→a2.tmps.getD i undef=a.tmps.getD i undef)) (bkD ds a) w
noncomputable def bSl(c:Code)(st:St):Ask (Ex × St):=match c with
 | .region _ ops true=>do
  let Am ← aNw Tp tT EO ops true st
  pure (.normal,Am)
 | _=>fail
theorem uE.fin{k:Nat}{c:Code}{st Am:St}{e:Ex}{g:Gh}{o:List OI}{l:List Prop}(h:aBz k g (bSl c st (asg o))=some (e,Am,l,[]))(gd:bC (out l)):uE Tp k c st e Am:=by
 unfold aBz at h
 split at h
 ·rename_i e1 st1 s hr
  split at h
  ·rename_i st2 hg
   simp only [Option.some.injEq,Prod.mk.injEq] at h
   obtain ⟨rfl,rfl,rfl,hs⟩:=h;unfold bSl at hr
   split at hr
   ·rename_i id ops
    obtain ⟨Vf,s1,h1,k1⟩:=aD hr;obtain ⟨he,rfl⟩:=aK k1;cases he;intro C0 M0 w0 a w hk hsm ds ro n;refine wpIn_mono (bLq ds aIl aIk mixed h1 (fun p hp=>gd p hp) C0 M0 w0 a w hsm ro n) ?_
    rintro e' a' w' ⟨rfl,a2,rfl,h',hkp⟩;exact ⟨rfl,a2,rfl,eV hk hg h',fun i hi=>hkp i fun o ho e=>by
     unfold wrR at hi
     have:=List.any_eq_false.1 hi o ho;rw [e] at this
     exact this (Nat.beq_refl i)⟩
   ·cases hr
  ·cases h
 ·cases h
theorem uE.fi{k:Nat}{c:Code}{st Am:St}{e:Ex}(g:Gh)(o:List OI){l:List Prop}(gd:bC (out l))(h:aBz k g (bSl c st (asg o))=some (e,Am,l,[]):=by kernel_rfl):uE Tp k c st e Am:=uE.fin h gd
end
section

theorem cJa{dl:Int}{sk dc:Lqq}{num r6:Int}{x:List Int}{y0 y1 n2:Int}{b3:Bool}{T4:Lqb}(h0:(aB sk)[(bJ (fun x=>decide (r6=x)) (aQ (aB sk) 0)).toNat]? = some [y0,y1])(h1:0≤(bJ (fun x=>decide (r6=x)) (aQ (aB sk) 0)))(h2:uni 2 (aB sk))(h3:aGz dl (aB sk) (aB dc) (aG x) [y0,y1] n2 b3 ([]:Lqb) T4):uE Tp 0 (sub (cd Tryz.f58) [1,1,1,1,1,1,1,1,1,0,1,0,1,0,0]) ⟨fr 102 [(3,(.rp [(aA num)] 0)),(6,(.rp [(PV.rp (aY dl (aB sk) (aB dc)) 0)] 0)),(9,(.rp [(aA r6)] 0)),(10,(.rp [(aA (bJ (fun x=>decide (r6=x)) (aQ (aB sk) 0)))] 0)),(11,(.p (aG x)))],[]⟩ .normal ⟨fr 102 [(3,(.rp [(aA num)] 0)),(6,(.rp [(PV.rp (aY dl (aB sk) (aB dc)) 0)] 0)),(9,(.rp [(aA r6)] 0)),(10,(.rp [(aA (bJ (fun x=>decide (r6=x)) (aQ (aB sk) 0)))] 0)),(11,(.p (aG x))),(12,(pI n2)),(13,(pB b3))],[]⟩:=have k1:=mN [] 0 (rU (dl:=dl) (sk:=(aB sk)) (dc:=(aB dc)) (on:=x.length) (ol:=(x.map aA)));have k2:=mq [0,1,2,3,4,5,6] 8 h3;uE.fi (gZ [0,3,4,2,7,2,14,88]) [.x (PV.rp (aY dl (aB sk) (aB dc)) 0),.x (PV.rp (aY dl (aB sk) (aB dc)) 0),.x (.sl ((aB sk).length) ((aB sk).flatten.map aA)),.x (aA (bJ (fun x=>decide (r6=x)) (aQ (aB sk) 0))),.x (.agg [(aA y0),(aA y1)]),.x (PV.rp (aY dl (aB sk) (aB dc)) 0),k1.o,k2.o] (gc k2 (gc k1 (gr (PV.rp (aY dl (aB sk) (aB dc)) 0) (gfz h2 h1 h0 (gr (aA (bJ (fun x=>decide (r6=x)) (aQ (aB sk) 0))) (gr (.sl ((aB sk).length) ((aB sk).flatten.map aA)) (gr (PV.rp (aY dl (aB sk) (aB dc)) 0) (gr (PV.rp (aY dl (aB sk) (aB dc)) 0) gn))))))))
end
end KV
end Go.Proofs
section
namespace Go.Proofs
open Go.RowKit
namespace KV
open Tryz
theorem bSj{P:Program}{C:Cx}{st:St}{a:Act}{w:World}(hS:eI C st.m w st.t a.tmps)(hM:aT P C st.m w)(hp:gK st.m=true)(hn:aSp st.m) :
  Sim P (cxF fun _=>False) [] { w with heap := #[] } st { a with defers:=[] } w :=
 ⟨C,hS,hM,⟨rfl,rfl,rfl,Nat.zero_le _,fun b hb=>absurd hb (aTs _),fun _ _ h=>by simp at h,fun _ _ h=>by simp at h,fun _ _ h=>by simp at h,fun _ _ b _ _ _ => .inl (Nat.zero_le _),fun _ h=>h.elim,fun b _ => .inr (.inl (Nat.zero_le _))⟩,.nil rfl hn⟩
theorem bLo{P:Program}{C:Cx}{M:Mem}{W W':World}(hM:aT P C M W)(hg:W.grownBy W' none):aT P C M W'∧Fr C M W C M W':=by
 have hsame:∀ b,b<W.heap.size→W'.heap[b]? = W.heap[b]? := fun b hb=>hg.block b hb (fun e=>by cases e)
 have hL:Le C C M M W W':=⟨fun _ o h=>⟨o,h⟩,fun _ _ _ _ _ cs h=>⟨cs,h⟩,fun _ o h o' h' hl=>by rw [h] at h';cases h';exact ⟨hl,rfl,rfl⟩,fun _ h=>h,fun b hb=>hsame b (hM.Fs b hb)⟩
 refine ⟨⟨fun i ty n cs hm => ?_,fun i ty cs hm => ?_,fun i es cl hm => ?_,hM.inj,hM.nF,fun b hb=>fY (hM.Fs b hb) hg.size,fun i o b ho hl hb=>fY (hM.lt i o b ho hl hb) hg.size⟩,
  ⟨hg.os,hg.tape,hg.output,hg.size,fun b hb _=>hsame b hb,fun i o h=>⟨⟨o,h⟩,rfl,rfl⟩,fun _ _ _ _ _ cs h=>⟨cs,h⟩,fun _ o h o' h' hl=>by rw [h] at h';cases h';exact hl,fun i o b ho hl hb => .inr ⟨i,o,ho,hl,hb⟩,fun _ h=>h,fun _ h => .inl h⟩⟩
 ·rcases hM.row _ _ _ _ hm with h4 | ⟨b,arr,inf,q0,q1,q2,q3,q4,q5,q6,q7,q8⟩
  ·exact .inl h4
  ·exact .inr ⟨b,arr,inf,q0,(hsame b (nA.1 q1).1).trans q1,q2,q3,q4,q5,q6,fun j hj=>(q7 j hj).mono hL.F hL.fz,q8⟩
 ·obtain ⟨b,arr,q0,q1,q2,q3,q4⟩:=hM.box _ _ _ hm
  exact ⟨b,arr,q0,(hsame b (nA.1 q1).1).trans q1,q2,fun j hj=>(q3 j hj).mono hL,q4⟩
 ·obtain ⟨b,arr,q0,q1,q2,q3⟩:=hM.mp _ _ _ hm
  refine ⟨b,arr,q0,(hsame b (nA.1 q1).1).trans q1,q2,fun j hj => ?_⟩
  obtain ⟨en,r1,r2,r3,r4⟩:=q3 j hj;exact ⟨en,r1,r2,r3,r4.mono hL.F hL.fz⟩
def bSk(t:List AV)(i:Nat):Bool:=match t[i]? with
 | some .any=>true
 | _=>false
theorem bAs{C:Cx}{M:Mem}{w:World}{v u:Value}(h:Rep C M w (.p (.v v)) u):u=v:=by
 cases h with
 | p _ _ h=>cases h;rfl
theorem cIz{P:Program}{k:Nat}{c:Code}{tA tB:List AV}{S:St}{g:Gh}{i1 i2:Nat}{v1 v2:Value}(hk:uE P 0 c ⟨tA,[]⟩ .normal ⟨tB,[]⟩)(hg:gh 0 g S=some ⟨tA,[]⟩)(hn:gK S.m=true)
  (h1:tB[i1]? = some (.p (.v v1))) (h2:tB[i2]? = some (.p (.v v2))) (hne:i1≠i2) (hl:tB.length=S.t.length) (hall:((List.range S.t.length).all fun i => !wrR c i || Nat.beq i i1 || Nat.beq i i2 || bSk S.t i)=true) :
  aC P k c S .normal (bS S [(i1,.p (.v v1)),(i2,.p (.v v2))]):=by
 intro C0 M0 w0 a w Fy hs ro _ n;obtain ⟨C,hS,hM,hF,hD⟩:=hs;obtain ⟨C1,J6,Ch,_,_⟩:=eV (dG 0) hg (bSj hS hM hn (eH hn).2);have Ir:Sim P (C1.with []) [] w ⟨tA,[]⟩ { a with defers:=[] } w:=⟨C1,J6,Ch,(Fr.refl _ _ _).based [],.nil rfl (eH (m:=[]) rfl).2⟩
 have:=hk (C1.with []) [] w _ w (dG 0) Ir a.defers ro n
 refine wpIn_mono this ?_;rintro e' a' w' ⟨rfl,a2,rfl,⟨C2,Qm,Ie,G1,⟨l2,d1,d2,d3⟩,_⟩,hkp⟩;have I9:w.grownBy w' none:=aQx G1;obtain ⟨Ia,I3⟩:=bLo hM I9;have Kr:=hS.le (hM.le I3);refine ⟨rfl,C,⟨?_,fun i hi => ?_⟩,Ia,hF.trans I3,?_⟩
 ·have e0:=Qm.size
  show a2.tmps.size=((S.t.set i1 _).set i2 _).length;rw [nZ,nZ];exact e0.trans hl
 ·have Cs:i<S.t.length:=by
   have:i<((S.t.set i1 (.p (.v v1))).set i2 (.p (.v v2))).length:=hi
   rwa [nZ,nZ] at this
  have key:∀ x,((S.t.set i1 (.p (.v v1))).set i2 (.p (.v v2)))[i]? = some x→Rep C S.m w' x (a2.tmps.getD i undef):=by
   intro x hx
   by_cases e2:i2=i
   ·subst e2
    rw [bCu (by rw [nZ];exact Cs)] at hx
    cases hx;rw [bAs (Qm.at h2)]
    exact .p _ _ (.v _)
   rw [bOk e2] at hx
   by_cases e1:i1=i
   ·subst e1
    rw [bCu Cs] at hx
    cases hx;rw [bAs (Qm.at h1)]
    exact .p _ _ (.v _)
   rw [bOk e1] at hx
   have hc:=gJ.1 hall i (iJ.2 Cs);cases hw:wrR c i with
   | false =>
    rw [hkp i hw];exact Kr.at hx
   | true =>
    have n1:Nat.beq i i1=false:=by
     cases h:Nat.beq i i1 with
     | false=>rfl
     | true=>exact absurd (Nat.eq_of_beq_eq_true h).symm e1
    have n2:Nat.beq i i2=false:=by
     cases h:Nat.beq i i2 with
     | false=>rfl
     | true=>exact absurd (Nat.eq_of_beq_eq_true h).symm e2
    rw [hw,n1,n2] at hc
    have hc:bSk S.t i=true:=hc;unfold bSk at hc
    rw [hx] at hc
    cases x <;> first | exact .any _ | cases hc
  exact key _ (Av hi)
 ·obtain ⟨⟨l,e1,e2,e3⟩,hR⟩:=hD.fr hM .refl I3
  obtain ⟨⟨l',Lk,_,Nf⟩,_⟩:=hD;have hll:l=l':=by
   have:=e1.symm.trans Lk;exact (List.map_inj_right (fun x y h=>by simpa [mark] using h)).1 this
  refine ⟨⟨l2++l,?_,?_,?_⟩,hR⟩
  ·show a2.defers++a.defers=_
   rw [d1,e1,fM]
  ·refine List.nodup_append.2 ⟨d2,e2,fun x hx y hy hxy => ?_⟩
   have:=(d3 x hx).2.1;have:=(nA.1 (Nf y (hll ▸ hy)).1).1;subst hxy;omega
  ·intro D Ng
   rcases jX.1 Ng with h | h
   ·exact ⟨(d3 D h).1,fB hF.size (d3 D h).2.1,fun hf=>by
     have:=hM.Fs D hf;have:=(d3 D h).2.1;omega⟩
   ·exact e3 D h
end KV
end Go.Proofs
end
namespace Go.Proofs
namespace KV
open Tryz
section
variable {dl:Int}{sk dc:Lqq}
theorem bZc(l:List Int)(v:Int)(hl:l.length≤1000000){base:Nat}:FV Tp 126 [.p (aG l),.p (aA v)] base (pI (bJ (fun x=>decide (v=x)) l)) []:=by
 rcases aE.find (P:=Tp) (k:=0) (b:=(sub (cd Tryz.f126) [1,0,1,0,0])) (fun i=>jH l v i) (fun i _=>bS (jH l v i) [(4,.p (aA (i:Int)))]) (jH l v l.length) .ret (.exit 0) (by simp) (by simp) (fun x=>decide (v=x)) l
  (fun i x hx hp=>aJa (by have:=aO hx;omega) hx (by simpa using hp) (aH (by have:=aO hx;omega)) rfl)
  (fun i x hx hp=>aIz (by have:=aO hx;omega) hx (by simpa using hp))
  (aJb (l:=l) (i:=l.length) (by omega)) with ⟨i,x,h1,h2,h3,h4⟩ | ⟨h1,h2,h3⟩
 ·rw [eF h2];exact bPk h4
 ·rw [gS h1];exact bPj h3
theorem bZd(l:List Int)(v:Int)(hl:l.length≤1000000){base:Nat}:FV Tp 52 [.p (aG l),.p (aA v)] base (pB (l.contains v)) []:=by
 rw [← yF];have k1:=fk 0 (bZc l v hl) rfl;exact FV.fi func52 [k1.o] (gc k1 gn)
theorem bZe{l:List Int}(hl:l.length≤1000000)(n:Int):vG (aG l) n (l.contains n):=fun base=>bZd l n hl
def aHd(dl:Int)(sk dc:Lqq)(num r6:Int)(x:List Int):Bool := !(((lB dl sk dc r6 x).1 == (lB dl sk dc r6 (x++[num])).1) && ((lB dl sk dc r6 x).2 == (lB dl sk dc r6 (x++[num])).2))
theorem cLc(r t t':Int):jW [aA r,aA 0,aA t] [aA r,aA 0,aA t'] [(0,3,true),(1,3,true),(2,3,true)]=(t == t'):=by
 rw [Bool.eq_iff_iff];simp [jW,wI]
theorem bAr{r6 y0 y1:Int}(h:(aB sk)[(bJ (fun x=>decide (r6=x)) (aQ (aB sk) 0)).toNat]? = some [y0,y1])(x:List Int):lB dl sk dc r6 x=cI dl x (aB dc) y0 y1:=by
 have e:(aB sk).getD (bJ (fun x=>decide (r6=x)) (aQ (aB sk) 0)).toNat []=[y0,y1]:=by
  rw [Bv,h];rfl
 unfold lB;rw [e];rfl
theorem bSh{dl:Int}{sk dc:Lqq}{num r6:Int}{x:List Int}(hd:bN (aB dc))(hu:uni 2 (aB sk))(hs:∀ s∈aB sk,-1≤s.getD 1 0∧s.getD 1 0≤360000)(hx:x.length≤1000){y0 y1:Int}(h0:(aB sk)[(bJ (fun x=>decide (r6=x)) (aQ (aB sk) 0)).toNat]? = some [y0,y1])(h1:0≤(bJ (fun x=>decide (r6=x)) (aQ (aB sk) 0))) :
  aC Tp 3 (sub (cd Tryz.f58) [1,1,1,1,1,1,1,1,1,0,1,0,1,0,0]) (tY dl sk dc num r6 x) .normal (bS (tY dl sk dc num r6 x) [(12,(pI ((lB dl sk dc r6 x).1))),(13,(pB ((lB dl sk dc r6 x).2)))]):=by
 obtain ⟨T',_,hT⟩:=bQa (sk:=aB sk) hd (fun n=>aFj hx n) y0 y1 (hs _ (Bi h0)) (T:=[]) cS.nil
 rw [bAr h0];exact cIz (cJa (num:=num) h0 h1 hu hT) (g:=⟨(rng [(0,3),(4,2),(7,2),(12,90)]),[],[2],[]⟩) (by kernel_rfl) rfl (by rfl) (by rfl) (by decide) (by rfl) (by kernel_rfl)
theorem bLm{dl:Int}{sk dc:Lqq}{num r6:Int}{x:List Int}(hd:bN (aB dc))(hu:uni 2 (aB sk))(hs:∀ s∈aB sk,-1≤s.getD 1 0∧s.getD 1 0≤360000)(hx:x.length≤1000){y0 y1:Int}(h0:(aB sk)[(bJ (fun x=>decide (r6=x)) (aQ (aB sk) 0)).toNat]? = some [y0,y1])(h1:0≤(bJ (fun x=>decide (r6=x)) (aQ (aB sk) 0))) :
  (aHd dl sk dc num r6 x=false→aC Tp 3 (sub (cd Tryz.f58) [1,1,1,1,1,1,1,1,1,0,1,0,1]) (rfO (rW dl sk dc num r6) 54 11 x) .normal (aWo dl sk dc num r6)) ∧
  (aHd dl sk dc num r6 x=true→aC Tp 3 (sub (cd Tryz.f58) [1,1,1,1,1,1,1,1,1,0,1,0,1]) (rfO (rW dl sk dc num r6) 54 11 x) .ret (aMe dl sk dc num r6)):=by
 have hn:=bSh (dl:=dl) (num:=num) hd hu hs hx h0 h1;obtain ⟨T',_,hT⟩:=bQa (dl:=dl) (sk:=aB sk) hd (fun n=>bZe (l:=x++[num]) (by rw [iF];show x.length+1≤_;omega) n) y0 y1 (hs _ (Bi h0)) (T:=[]) cS.nil
 rw [← bAr h0] at hT
 have hov:aG (x++[num]) = .sl (x.length+1) (x.map aA++[aA num]):=by
  show PV.sl (x++[num]).length ((x++[num]).map aA)=_;rw [iF,fM];rfl
 rw [hov] at hT
 have hq:=cLc r6 (lB dl sk dc r6 x).1 (lB dl sk dc r6 (x++[num])).1;unfold aHd;cases ha:((lB dl sk dc r6 x).1 == (lB dl sk dc r6 (x++[num])).1) with
 | false =>
  refine ⟨fun h=>(by cases h),fun _ => ?_⟩
  rw [ha] at hq
  exact bJm hn h0 h1 hu ⟨rfl,by omega⟩ hT ⟨rfl,rfl⟩ hq
 | true =>
  rw [ha] at hq
  cases hb:((lB dl sk dc r6 x).2 == (lB dl sk dc r6 (x++[num])).2) with
  | false =>
   refine ⟨fun h=>(by cases h),fun _ => ?_⟩
   exact bJn hn h0 h1 hu ⟨rfl,by omega⟩ hT ⟨rfl,rfl⟩ hq hb
  | true =>
   refine ⟨fun _ => ?_,fun h=>(by cases h)⟩
   exact bJo hn h0 h1 hu ⟨rfl,by omega⟩ hT ⟨rfl,rfl⟩ hq hb
theorem bLn{num r6:Int}(hd:bN (aB dc))(hu:uni 2 (aB sk))(hs:∀ s∈aB sk,-1≤s.getD 1 0∧s.getD 1 0≤360000){y0 y1:Int}(h0:(aB sk)[(bJ (fun x=>decide (r6=x)) (aQ (aB sk) 0)).toNat]? = some [y0,y1])(h1:0≤(bJ (fun x=>decide (r6=x)) (aQ (aB sk) 0)))(ho:((aP dl (aB dc)).filter fun n => !(n == num)).length≤60) :
  ((iE ((aP dl (aB dc)).filter fun n => !(n == num))).any (aHd dl sk dc num r6)=false→aC Tp 0 (sub (cd Tryz.f58) [1,1,1,1,1,1,1,1,1,0,1,0]) (aFs dl sk dc num r6) .normal (rW dl sk dc num r6)) ∧
  ((iE ((aP dl (aB dc)).filter fun n => !(n == num))).any (aHd dl sk dc num r6)=true→aC Tp 0 (sub (cd Tryz.f58) [1,1,1,1,1,1,1,1,1,0,1,0]) (aFs dl sk dc num r6) .ret (aWn dl sk dc num r6)):=by
 have main:=aJk (P:=Tp) (k:=0) (kb:=3) (kk:=2) (g0:=⟨[],[],[],[]⟩) (g1:=⟨[],[],[],[]⟩) (gR:=⟨[],[],[],[]⟩) (aFs dl sk dc num r6) (fun _=>rW dl sk dc num r6) (fun _ _=>aWo dl sk dc num r6) (fun _ _=>aMe dl sk dc num r6) (rW dl sk dc num r6).t (aWn dl sk dc num r6).m (fun _=>aHd dl sk dc num r6)
  (cc := sub (cd Tryz.f58) [1, 1, 1, 1, 1, 1, 1, 1, 1, 0, 1, 0]) (gi := 53) (p1 := 54) (d := 11) (id := 14) (ty := 33) (pos := "outcome.go:200") (body := sub (cd Tryz.f58) [1, 1, 1, 1, 1, 1, 1, 1, 1, 0, 1, 0, 1]) (by kernel_rfl)
  rfl (fun _=>rfl) (g := .fn 182 [] [.rp [aG ((aP dl (aB dc)).filter fun n => !(n == num))] 0]) (by rfl) (aJi _ ho) (fun args w=>rfl) (fun _=>rfl) (fun _=>rfl) (fun _ _=>rfl) (fun _ _=>rfl) rfl rfl (fun _=>by show 2<3;omega) (by kernel_rfl) (fun x=>rfl) (by show 2≤2;omega) rfl (by kernel_rfl) (fun pre l=>by kernel_rfl) (fun _ _ _=>by kernel_rfl) (fun pre l _ hx=>bLm hd hu hs hx h0 h1)
 refine ⟨fun h=>main.1 fun pre l hp => ?_,fun h=>main.2 ?_⟩
 ·have:=List.any_eq_false.1 h l (hp.subset (by simp))
  simpa using this
 ·obtain ⟨l,hl,hb⟩:=List.any_eq_true.1 h
  obtain ⟨s,t,e⟩:=List.append_of_mem hl;exact ⟨s,l,⟨t,by rw [e];simp⟩,hb⟩
def bSi(dl:Int)(sk dc:Lqq)(num:Int):Bool × Int :=
 if (aP dl (aB dc)).contains num=false then (false,1) else if 8<(aP dl (aB dc)).length then (false,10) else
 if bJ (fun x=>decide (vK (aB dc) num=x)) (aQ (aB sk) 0)<0 then (false,0) else ((iE ((aP dl (aB dc)).filter fun n => !(n == num))).any (aHd dl sk dc num (vK (aB dc) num)),0)
theorem bZf{α:Type}{p:α→Bool}{l:List α}(h:0≤bJ p l):(bJ p l).toNat<l.length:=by
 unfold bJ at h ⊢
 cases e:l.findIdx? p with
 | none=>rw [e] at h;simp at h
 | some i =>
  obtain ⟨hi,_⟩:=List.findIdx?_eq_some_iff_getElem.1 e;simpa using hi
theorem cIy(h:bR dl sk dc)(num:Int){base:Nat}:FV Tp 58 [.p (.agg (bB dl sk dc)),.p (aA num)] base (.tup [.p (blP (bSi dl sk dc num).1),.p (aA (bSi dl sk dc num).2)]) []:=by
 have hd:=dW h;obtain ⟨hu,hl,hs,_⟩:=fN h;have hol:(aP dl (aB dc)).length≤1000:=by
  unfold aP;rw [Cb];exact fB (mI _ _) hd.len
 unfold bSi;cases hc:(aP dl (aB dc)).contains num with
 | false=>exact cGl h hd hol hc
 | true =>
  rw [if_neg (by simp)]
  by_cases h8:8<(aP dl (aB dc)).length
  ·rw [if_pos h8];exact cGm h hd hol hc (by omega)
  ·rw [if_neg h8]
   have hm:num∈aP dl (aB dc):=by simpa using hc
   have Dv:=hm;unfold aP at Dv
   obtain ⟨x,hx,rfl⟩:=Bs.1 Dv;have hx:=(kK.1 hx).1;have hr:=eQ hd hx;have hsb:vK (aB dc) (dN x)=mC (aB dc) x:=by unfold vK;rw [aCn hd hx]
   obtain ⟨q1,q2⟩:=aVp hd hx;have hk:=yH hd (n:=dN x) (by unfold inR;omega)
   have hab:=nJ hd x hx;rw [hsb];obtain ⟨a,b,c,d,e,f,rfl⟩:=A6 (hd.ud x hx);have hf:inR f:=by
    have:=(iB.1 (hd.rng _ hx));unfold inR;simp [dAb] at this hab ⊢;omega
   have hsbj:bRp dl (aB sk) (aB dc) [a,b,c,d,e,f] (mC (aB dc) [a,b,c,d,e,f]):=fun base=>bPy hd hf (.inl hx) hr.2
   have hcl:(aQ (aB sk) 0).length≤1000:=by rw [nC];omega
   by_cases h0:bJ (fun x=>decide (mC (aB dc) [a,b,c,d,e,f]=x)) (aQ (aB sk) 0)<0
   ·rw [if_pos h0]
    exact cGn h hd hol hc (by omega) hk q1 q2 hsbj ⟨hu,by omega⟩ hcl h0
   ·rw [if_neg h0]
    have hi:=bZf (p:=fun x=>decide (mC (aB dc) [a,b,c,d,e,f]=x)) (l:=aQ (aB sk) 0) (by omega)
    rw [nC] at hi
    obtain ⟨y0,y1,hy⟩:=at2 hu hi;have hrg:=bLn (dl:=dl) (num:=dN [a,b,c,d,e,f]) hd hu hs hy (by omega) (fB (mI _ _) (by omega))
    cases hb:(iE ((aP dl (aB dc)).filter fun n => !(n == dN [a,b,c,d,e,f]))).any (aHd dl sk dc (dN [a,b,c,d,e,f]) (mC (aB dc) [a,b,c,d,e,f])) with
    | false=>exact cGo h hd hol hc (by omega) hk q1 q2 hsbj ⟨hu,by omega⟩ hcl (by omega) (hrg.1 hb)
    | true=>exact cGp h hd hol hc (by omega) hk q1 q2 hsbj ⟨hu,by omega⟩ hcl (by omega) (hrg.2 hb)
end
section
variable {base:Nat}

theorem aXr:((0:Int) == 0)=true:=by first | decide | simp
theorem aXs:((0:Int) != 0)=false:=by first | decide | simp
theorem aMw:((3:Int) != 3)=false:=by first | decide | simp
theorem cIt:((15100:Int) == 15100)=true:=by first | decide | simp
abbrev thD:List PV:=[(aA 1),(aA 0),(aA 0),(aA 1),(aA 300),(aA 0),(aA 2),(aA 7),(aA 10),(aA 0),(aA 0),(aA 1),(aA 3),(aA 9),(aA 40),(aA 0),(aA 0),(aA 2),(aA 4),(aA 5),(aA 50),(aA 0),(aA 0),(aA 3),(aA 5),(aA 6),(aA 60),(aA 0),(aA 100),(aA 1)]
abbrev thS:List PV:=[(aA 1),(aA 15000),(aA 2),(aA 15100),(aA 3),(aA 15200)]
abbrev aAj:AV:=(.p (.agg [(aA 30),(.sl 3 thS),(.sl 2 [(aA 1),(aA 0),(aA 0),(aA 1),(aA 300),(aA 0),(aA 2),(aA 7),(aA 10),(aA 0),(aA 0),(aA 1)])]))
abbrev cIu:AV:=(.p (.agg [(aA 30),(.sl 3 thS),(.sl 3 [(aA 1),(aA 0),(aA 0),(aA 1),(aA 300),(aA 0),(aA 2),(aA 7),(aA 10),(aA 0),(aA 0),(aA 1),(aA 3),(aA 9),(aA 40),(aA 0),(aA 0),(aA 2)])]))
abbrev cIv:AV:=(.p (.agg [(aA 30),(.sl 3 thS),(.sl 4 [(aA 1),(aA 0),(aA 0),(aA 1),(aA 300),(aA 0),(aA 2),(aA 7),(aA 10),(aA 0),(aA 0),(aA 1),(aA 3),(aA 9),(aA 40),(aA 0),(aA 0),(aA 2),(aA 4),(aA 5),(aA 50),(aA 0),(aA 0),(aA 3)])]))
abbrev cIw:AV:=(.p (.agg [(aA 30),(.sl 3 thS),(.sl 5 [(aA 1),(aA 0),(aA 0),(aA 1),(aA 300),(aA 0),(aA 2),(aA 7),(aA 10),(aA 0),(aA 0),(aA 1),(aA 3),(aA 9),(aA 40),(aA 0),(aA 0),(aA 2),(aA 4),(aA 5),(aA 50),(aA 0),(aA 0),(aA 3),(aA 5),(aA 6),(aA 60),(aA 0),(aA 100),(aA 1)])]))
theorem bYv{Ei:List PV}(h0:0≤(0:Int)∧(0:Int)≤2∧(2:Int)≤5)(D2:Ei=((thD.drop 0).take (2*(thD.length / 5)))):FV Tp 88 [(pI 2)] base (.p (.agg [(aA 30),(.sl 3 [(aA 1),(aA 15000),(aA 2),(aA 15100),(aA 3),(aA 15200)]),(.sl 2 Ei)])) []:=by
 subst D2;have k1:=fk 1 (aMf (a:=(1:Int)) (b:=(1:Int)) (c:=(300:Int))) rfl;have k2:=fk 1 (jI (a:=(2:Int)) (b:=(7:Int)) (c:=(1:Int)) (d:=(10:Int)) (e:=(0:Int))) rfl;have k3:=fk 1 (jI (a:=(3:Int)) (b:=(9:Int)) (c:=(2:Int)) (d:=(40:Int)) (e:=(0:Int))) rfl;have k4:=fk 1 (jI (a:=(4:Int)) (b:=(5:Int)) (c:=(3:Int)) (d:=(50:Int)) (e:=(0:Int))) rfl;have k5:=fk 1 (jI (a:=(5:Int)) (b:=(6:Int)) (c:=(1:Int)) (d:=(60:Int)) (e:=(100:Int))) rfl;exact FV.frz (FMM.fi 0 ⟨[],[],[2,1],[]⟩ func88 [k1.o,k2.o,k3.o,k4.o,k5.o] (gc h0 (gc k5 (gc k4 (gc k3 (gc k2 (gc k1 gn))))))) (by kernel_rfl)
theorem bYw{Ei:List PV}(h0:0≤(0:Int)∧(0:Int)≤3∧(3:Int)≤5)(D2:Ei=((thD.drop 0).take (3*(thD.length / 5)))):FV Tp 88 [(pI 3)] base (.p (.agg [(aA 30),(.sl 3 [(aA 1),(aA 15000),(aA 2),(aA 15100),(aA 3),(aA 15200)]),(.sl 3 Ei)])) []:=by
 subst D2;have k1:=fk 1 (aMf (a:=(1:Int)) (b:=(1:Int)) (c:=(300:Int))) rfl;have k2:=fk 1 (jI (a:=(2:Int)) (b:=(7:Int)) (c:=(1:Int)) (d:=(10:Int)) (e:=(0:Int))) rfl;have k3:=fk 1 (jI (a:=(3:Int)) (b:=(9:Int)) (c:=(2:Int)) (d:=(40:Int)) (e:=(0:Int))) rfl;have k4:=fk 1 (jI (a:=(4:Int)) (b:=(5:Int)) (c:=(3:Int)) (d:=(50:Int)) (e:=(0:Int))) rfl;have k5:=fk 1 (jI (a:=(5:Int)) (b:=(6:Int)) (c:=(1:Int)) (d:=(60:Int)) (e:=(100:Int))) rfl;exact FV.frz (FMM.fi 0 ⟨[],[],[2,1],[]⟩ func88 [k1.o,k2.o,k3.o,k4.o,k5.o] (gc h0 (gc k5 (gc k4 (gc k3 (gc k2 (gc k1 gn))))))) (by kernel_rfl)
theorem bYx{Ei:List PV}(h0:0≤(0:Int)∧(0:Int)≤4∧(4:Int)≤5)(D2:Ei=((thD.drop 0).take (4*(thD.length / 5)))):FV Tp 88 [(pI 4)] base (.p (.agg [(aA 30),(.sl 3 [(aA 1),(aA 15000),(aA 2),(aA 15100),(aA 3),(aA 15200)]),(.sl 4 Ei)])) []:=by
 subst D2;have k1:=fk 1 (aMf (a:=(1:Int)) (b:=(1:Int)) (c:=(300:Int))) rfl;have k2:=fk 1 (jI (a:=(2:Int)) (b:=(7:Int)) (c:=(1:Int)) (d:=(10:Int)) (e:=(0:Int))) rfl;have k3:=fk 1 (jI (a:=(3:Int)) (b:=(9:Int)) (c:=(2:Int)) (d:=(40:Int)) (e:=(0:Int))) rfl;have k4:=fk 1 (jI (a:=(4:Int)) (b:=(5:Int)) (c:=(3:Int)) (d:=(50:Int)) (e:=(0:Int))) rfl;have k5:=fk 1 (jI (a:=(5:Int)) (b:=(6:Int)) (c:=(1:Int)) (d:=(60:Int)) (e:=(100:Int))) rfl;exact FV.frz (FMM.fi 0 ⟨[],[],[2,1],[]⟩ func88 [k1.o,k2.o,k3.o,k4.o,k5.o] (gc h0 (gc k5 (gc k4 (gc k3 (gc k2 (gc k1 gn))))))) (by kernel_rfl)
theorem bYy{Ei:List PV}(h0:0≤(0:Int)∧(0:Int)≤5∧(5:Int)≤5)(D2:Ei=((thD.drop 0).take (5*(thD.length / 5)))):FV Tp 88 [(pI 5)] base (.p (.agg [(aA 30),(.sl 3 [(aA 1),(aA 15000),(aA 2),(aA 15100),(aA 3),(aA 15200)]),(.sl 5 Ei)])) []:=by
 subst D2;have k1:=fk 1 (aMf (a:=(1:Int)) (b:=(1:Int)) (c:=(300:Int))) rfl;have k2:=fk 1 (jI (a:=(2:Int)) (b:=(7:Int)) (c:=(1:Int)) (d:=(10:Int)) (e:=(0:Int))) rfl;have k3:=fk 1 (jI (a:=(3:Int)) (b:=(9:Int)) (c:=(2:Int)) (d:=(40:Int)) (e:=(0:Int))) rfl;have k4:=fk 1 (jI (a:=(4:Int)) (b:=(5:Int)) (c:=(3:Int)) (d:=(50:Int)) (e:=(0:Int))) rfl;have k5:=fk 1 (jI (a:=(5:Int)) (b:=(6:Int)) (c:=(1:Int)) (d:=(60:Int)) (e:=(100:Int))) rfl;exact FV.frz (FMM.fi 0 ⟨[],[],[2,1],[]⟩ func88 [k1.o,k2.o,k3.o,k4.o,k5.o] (gc h0 (gc k5 (gc k4 (gc k3 (gc k2 (gc k1 gn))))))) (by kernel_rfl)
theorem yR{base:Nat}:FV Tp 88 [.p (aA 2)] base aAj []:=bYv (by decide) rfl
theorem bYz{base:Nat}:FV Tp 88 [.p (aA 3)] base cIu []:=bYw (by decide) rfl
theorem bZa{base:Nat}:FV Tp 88 [.p (aA 4)] base cIv []:=bYx (by decide) rfl
theorem bZb{base:Nat}:FV Tp 88 [.p (aA 5)] base cIw []:=bYy (by decide) rfl
theorem cIx(h28_0:∀ base:Nat,FV Tp 28 [aAj] base (.tup [(.own base),(pI 0)]) [(base,(.row 48 3 [(aA 2),(aA 1),(aA 15100),(aA 3),(aA 2),(aA 15200),(aA 1),(aA 3),(aA 15300)]))])(h21_1:∀ base:Nat,FV Tp 21 [aAj,(.p (.sl 1 [(aA 2)]))] base (.tup [(.own base),(pI 0)]) [(base,(.row 48 3 [(aA 1),(aA 1),(aA 15000),(aA 2),(aA 2),(aA 15100),(aA 3),(aA 3),(aA 15200)]))])(h71_2:∀ base:Nat,FV Tp 71 [aAj,(pI 1)] base (.tup [(.p (.sl 2 [(aA 1),(aA 3)])),(pB false),(pI 0)]) [])(h33_3:∀ base:Nat,FV Tp 33 [aAj,(pI 2)] base (.tup [(.p (.sl 1 [(aA 2)])),(pI 0)]) [])(h51_4:∀ base:Nat,FV Tp 51 [(.p (.sl 3 [(aA 2),(aA 1),(aA 15100),(aA 3),(aA 2),(aA 15200),(aA 1),(aA 3),(aA 15300)])),(.p (.sl 3 [(aA 2),(aA 1),(aA 15100),(aA 3),(aA 2),(aA 15200),(aA 1),(aA 3),(aA 15300)]))] base (pB true) [])(h5:cV [(aA 1),(aA 1),(aA 15000)] [(0,3,true),(1,3,true),(2,3,true)]=true∧cV [(aA 1),(aA 1),(aA 15000)] [(0,3,true),(1,3,true),(2,3,true)]=true)(h6:(jW [(aA 1),(aA 1),(aA 15000)] [(aA 1),(aA 1),(aA 15000)] [(0,3,true),(1,3,true),(2,3,true)])=true)(h41_7:∀ base:Nat,FV Tp 41 [(.p (.sl 2 [(aA 1),(aA 3)])),(.p (.sl 2 [(aA 1),(aA 3)]))] base (pB true) [])(h41_8:∀ base:Nat,FV Tp 41 [(.p (.sl 1 [(aA 2)])),(.p (.sl 1 [(aA 2)]))] base (pB true) [])(h19_9:∀ base:Nat,FV Tp 19 [cIu] base (.tup [(.p (.sl 0 [])),(pI 0)]) [])(h19_10:∀ base:Nat,FV Tp 19 [cIv] base (.tup [(.p (.sl 1 [(aA 2)])),(pI 0)]) [])(h61_11:∀ base:Nat,FV Tp 61 [cIw,(pI 1)] base (.tup [(pI 15100),(pB false),(pI 0)]) [])(h58_12:∀ base:Nat,FV Tp 58 [aAj,(pI 2)] base (.tup [(pB true),(pI 0)]) []):FV Tp 26 [] base (pB true) []:=FV.fi func26 ([.c aAj [],.c (.tup [(.own 0),(pI 0)]) [(0,(.row 48 3 [(aA 2),(aA 1),(aA 15100),(aA 3),(aA 2),(aA 15200),(aA 1),(aA 3),(aA 15300)]))],.c aAj [],.c (.tup [(.own 2),(pI 0)]) [(1,.dead),(2,(.row 48 3 [(aA 1),(aA 1),(aA 15000),(aA 2),(aA 2),(aA 15100),(aA 3),(aA 3),(aA 15200)]))],.c aAj [],.c (.tup [(.p (.sl 2 [(aA 1),(aA 3)])),(pB false),(pI 0)]) [],.c aAj [],.c (.tup [(.p (.sl 1 [(aA 2)])),(pI 0)]) []]++rF 15++[.c (pB true) []]++rF 9++[.x (.agg [(aA 1),(aA 1),(aA 15000)])]++rF 6++[.c (pB true) []]++rF 5++[.c (pB true) [],bF,bF,bF,.c cIu [],.c (.tup [(.p (.sl 0 [])),(pI 0)]) [],.c cIv [],.c (.tup [(.p (.sl 1 [(aA 2)])),(pI 0)]) [],.c cIw [],.c (.tup [(pI 15100),(pB false),(pI 0)]) [],.c aAj [],.c (.tup [(pB true),(pI 0)]) []]++rT 16++[.c (pB true) []]++rT 6) (Az cIt (gt (true=true) rfl (gt (true=true) rfl (gt (true=true) rfl (gc aXr (gt (FC Tp 41 [(.p (.sl 1 [(aA 2)])),(.own 6)] [(6,(.row 3 1 [(aA 2)]))] 7 (pB true) []) (fv (h41_8 _)) (Eu aXr (Eu aXr (gc (fk 6 (h58_12 _) rfl) (gc (fk 6 yR rfl) (gc (fk 6 (h61_11 _) rfl) (gc (fk 6 bZb rfl) (gc (fk 6 (h19_10 _) rfl) (gc (fk 6 bZa rfl) (gc (fk 6 (h19_9 _) rfl) (gc (fk 6 bYz rfl) (gf (gf (gf (gt (FC Tp 41 [(.p (.sl 1 [(aA 2)])),(.own 5)] [(5,(.row 3 1 [(aA 2)]))] 6 (pB true) []) (fv (h41_8 _)) (gf (gf (gf (Az (aV h6) (gt (FC Tp 41 [(.p (.sl 2 [(aA 1),(aA 3)])),(.own 4)] [(4,(.row 3 2 [(aA 1),(aA 3)]))] 5 (pB true) []) (fv (h41_7 _)) (Ak (aV h6) (gc aMw (gc h5 (Az aMw (gr (.agg [(aA 1),(aA 1),(aA 15000)]) (gt (0+3≤[(aA 1),(aA 1),(aA 15000),(aA 2),(aA 2),(aA 15100),(aA 3),(aA 3),(aA 15200)].length) (by first | decide | simp) (gc aMw (gt (0≤(0:Int)∧(0:Int)<3) (by first | decide | simp) (Az aMw (gf (gf (gf (gf (Az aXs (gt (FC Tp 51 [(.own 0),(.own 3)] [(0,(.row 48 3 [(aA 2),(aA 1),(aA 15100),(aA 3),(aA 2),(aA 15200),(aA 1),(aA 3),(aA 15300)])),(3,(.row 48 3 [(aA 2),(aA 1),(aA 15100),(aA 3),(aA 2),(aA 15200),(aA 1),(aA 3),(aA 15300)]))] 4 (pB true) []) (fv (h51_4 _)) (Eu aXs (Kx aXs (gc (fk 3 (h33_3 _) rfl) (gc (fk 3 yR rfl) (gc (fk 3 (h71_2 _) rfl) (gc (fk 3 yR rfl) (gt (FC Tp 21 [aAj,(.own 1)] [(1,(.row 3 1 [(aA 2)]))] 2 (.tup [(.own 2),(pI 0)]) [(1,.dead),(2,(.row 48 3 [(aA 1),(aA 1),(aA 15000),(aA 2),(aA 2),(aA 15100),(aA 3),(aA 3),(aA 15200)]))]) (FV.close (ids:=[1]) (A7:=[aAj,(.p (.sl 1 [(aA 2)]))]) (h21_1 _) (by kernel_rfl)) (gc (fk 1 yR rfl) (gc (fk 0 (h28_0 _) rfl) (gc (fk 0 yR rfl) gn))))))))))))))))))))))))))))))))))))))))))))))))))
end
section
abbrev sB(s:List Int):Int:=s.getD 0 0
abbrev sT(s:List Int):Int:=s.getD 1 0
def fK(dl:Int)(oc:List Int)(dc sk:Lqq):Lqq:=(sk.filter fun s => !(cI dl oc dc (sB s) (sT s)).2).map fun s=>[sB s,0,(cI dl oc dc (sB s) (sT s)).1]
def fX(dl:Int)(oc:List Int)(dc sk:Lqq):Lqq:=(sk.filter fun s=>(cI dl oc dc (sB s) (sT s)).2).map fun s=>[sB s,-1,0]
def plN(A:Lqq)(t:Int):Int:=match A.getLast? with
 | some y=>if y.getD 2 0=t then y.getD 1 0 else (A.length:Int)+1
 | none=>(A.length:Int)+1
def plS(A:Lqq)(x:List Int):Lqq:=A++[[x.getD 0 0,plN A (x.getD 2 0),x.getD 2 0]]
def kC(l:Lqq):Lqq:=l.foldl plS []
def cD(dl:Int)(oc:List Int)(dc sk:Lqq):Lqq:=kC (isort (ltK 2) (fK dl oc dc sk))++fX dl oc dc sk

theorem bZh(A D:List PV)(a b c v:PV):(A++[a,b,c]++D).set (A.length+1) v=A++[a,v,c]++D:=by
 induction A with
 | nil=>rfl
 | cons x A ih=>simp
theorem yS{L:Lqq}{j:Nat}{a b c:Int}(hu:uni 3 L)(hj:L[j]? = some [a,b,c])(v:Int):(L.flatten.map aA).set (j*3+1) (aA v)=((L.set j [a,v,c]).flatten.map aA):=by
 obtain ⟨hlt,he⟩:=B3.1 hj;have h0:=tF (k:=3) (i:=j) (x:=[a,b,c]) hu hlt rfl;have h1:=tF (k:=3) (i:=j) (x:=[a,v,c]) hu hlt rfl;have hs:L.set j [a,b,c]=L:=by rw [← he];exact List.set_getElem_self hlt
 rw [hs] at h0
 rw [← h1];have hl:((L.flatten.map aA).take (j*3)).length=j*3:=by
  have:=jP hu hj;rw [mJ];omega
 have:=bZh ((L.flatten.map aA).take (j*3)) ((L.flatten.map aA).drop (j*3+3)) (aA a) (aA b) (aA c) (aA v);rw [hl] at this
 conv=>lhs;rw [← h0]
 exact this
theorem bZi(A:Lqq)(x:List Int):(plS A x).length=A.length+1:=by simp [plS]
theorem bAt(l:Lqq):∀ A:Lqq,(l.foldl plS A).length=A.length+l.length:=by
 induction l with
 | nil=>intro A;simp
 | cons x l ih=>intro A;rw [lE,ih,bZi];simp;omega
theorem aMy(l:Lqq):∀ A:Lqq,uni 3 A→uni 3 (l.foldl plS A):=by
 induction l with
 | nil=>intro A h;exact h
 | cons x l ih =>
  intro A h;rw [lE];refine ih _ fun y hy => ?_
  unfold plS at hy
  rcases jX.1 hy with hy | hy
  ·exact h y hy
  ·rw [List.mem_singleton.1 hy];rfl
section
variable {dl:Int} {sk dc:Lqq} {oc:List Int} {ov:PV}
theorem aXu(l:Lqq)(hu:uni 3 l)(hl:l.length<1000)(p q:Lqq)(hp:(isort (ltK 2) p).length=l.length)(t:Lqb) :
  aE Tp 7 (sub (cd Tryz.f86) [1,1,1,1,0,1,0,0]) (lC dl sk dc ov p q t l.length (l.flatten.map aA) 0) (.exit 2) (lC dl sk dc ov p q t (kC l).length ((kC l).flatten.map aA) l.length):=by
 let St (j:Nat):Lqq:=(l.take j).foldl plS []++l.drop j
 have hlen:∀ j,j≤l.length→((l.take j).foldl plS []).length=j:=fun j hj=>by rw [bAt];simp;omega
 have hlS:∀ j,j≤l.length→(St j).length=l.length:=fun j hj=>by
  show (_++_:Lqq).length=_;rw [iF,hlen j hj,bOl];omega
 have huS:∀ j,uni 3 (St j):=fun j y hy=>by
  rcases jX.1 hy with hy | hy
  ·exact aMy _ [] (fun z hz=>by cases hz) y hy
  ·exact hu y (List.mem_of_mem_drop hy)
 have:=aE.count (P:=Tp) (k:=7) (b:=sub (cd Tryz.f86) [1,1,1,1,0,1,0,0]) (e := .exit 2) (R:=lC dl sk dc ov p q t (kC l).length ((kC l).flatten.map aA) l.length) l.length
  (fun j=>lC dl sk dc ov p q t (St j).length ((St j).flatten.map aA) j)
  (fun j hj=>by
   have hx:=hu _ (fL hj);obtain ⟨a,b,c,hx⟩:=Da hx;have hA:=hlen j (by omega)
   have e1:(l.take (j+1)).foldl plS []=plS ((l.take j).foldl plS []) [a,b,c]:=by
    rw [List.take_add_one,Av hj,hx];rw [aBy];rfl
   have hdr:l.drop j=[a,b,c]::l.drop (j+1):=by rw [aKx hj,hx]
   have g1:(St j)[j]? = some [a,b,c]:=by
    show ((l.take j).foldl plS []++l.drop j)[j]? = _;rw [yD (by omega),hA,aTt,hdr];rfl
   have hset:∀ v,(St j).set j [a,v,c]=(l.take j).foldl plS []++[a,v,c]::l.drop (j+1):=fun v=>by
    show ((l.take j).foldl plS []++l.drop j).set j [a,v,c]=_;rw [List.set_append_right _ _ (by omega),hA,aTt,hdr];rfl
   have hnext:St (j+1)=(St j).set j [a,plN ((l.take j).foldl plS []) c,c]:=by
    rw [hset];show (l.take (j+1)).foldl plS []++l.drop (j+1)=_;rw [e1];unfold plS;rw [List.append_assoc];rfl
   have hle:=jP (huS j) g1;have hpl:(j:Int)<((isort (ltK 2) p).length:Int):=by rw [hp];omega
   rw [hnext]
   rcases Nat.eq_zero_or_pos j with h0 | hpos
   ·have hn:plN ((l.take j).foldl plS []) c=(j:Int)+1:=by
     subst h0;rfl
    rw [hn];exact bLi (L:=St j) (L':=(St j).set j [a,((j+1:Nat):Int),c]) (by exact_mod_cast hpl) (aH (by omega)) g1 (by omega) (by omega) (by simp) (yS (huS j) g1 _).symm rfl
   ·have g2:∃ y0 y1 y2,((l.take j).foldl plS []).getLast? = some [y0,y1,y2]∧(St j)[((j:Int)-1).toNat]? = some [y0,y1,y2]:=by
     have hlt:j-1<((l.take j).foldl plS []).length:=by omega
     have h3:=aMy (l.take j) [] (fun z hz=>by cases hz) _ (fL hlt)
     obtain ⟨y0,y1,y2,hy⟩:=Da h3;refine ⟨y0,y1,y2,?_,?_⟩
     ·rw [List.getLast?_eq_getElem?,hA,Av hlt,hy]
     ·show ((l.take j).foldl plS []++l.drop j)[((j:Int)-1).toNat]? = _
      rw [show ((j:Int)-1).toNat=j-1 by omega,zL hlt,Av hlt,hy]
    obtain ⟨y0,y1,y2,g3,g4⟩:=g2
    by_cases hc:c=y2
    ·have hn:plN ((l.take j).foldl plS []) c=y1:=by
      unfold plN;rw [g3];show (if y2=c then y1 else _)=y1
      rw [if_pos hc.symm]
     rw [hn];have Ya:uni 3 ((St j).set j [a,((j+1:Nat):Int),c]):=aZc (huS j) rfl;have g5:((St j).set j [a,((j+1:Nat):Int),c])[j]? = some [a,((j+1:Nat):Int),c]:=by
      rw [bCu (by rw [hlS j (by omega)];omega)]
     refine bLg (L:=St j) (L':=(St j).set j [a,y1,c]) (by exact_mod_cast hpl) (aH (by omega)) g1 (by omega) (by omega) (huS j) (by unfold inR;omega) g4 (by omega) hc (by rw [nZ];omega) (by simp) ?_ rfl
     rw [yS (huS j) g1,yS Ya g5,List.set_set]
    ·have hn:plN ((l.take j).foldl plS []) c=(j:Int)+1:=by
      unfold plN;rw [g3];show (if y2=c then y1 else _)=_
      rw [if_neg (fun h=>hc h.symm),hA]
     rw [hn];exact bLh (L:=St j) (L':=(St j).set j [a,((j+1:Nat):Int),c]) (by exact_mod_cast hpl) (aH (by omega)) g1 (by omega) (by omega) (huS j) (by unfold inR;omega) g4 (by omega) hc (by simp) (yS (huS j) g1 _).symm rfl)
  (by
   have e:St l.length=kC l:=by
    show (l.take l.length).foldl plS []++l.drop l.length=_;rw [List.take_length,List.drop_length,List.append_nil];rfl
   rw [e];exact bLj (by rw [hp];omega)) (by simp)
 exact this
theorem aJq:(fK dl oc dc sk).length≤sk.length:=by
 unfold fK;rw [Cb];exact mI _ _
theorem aGd:(fX dl oc dc sk).length≤sk.length:=by
 unfold fX;rw [Cb];exact mI _ _
theorem aJr:uni 3 (fK dl oc dc sk):=fun y hy=>by
 obtain ⟨s,_,rfl⟩:=Bs.1 hy;rfl
theorem aGe:uni 3 (fX dl oc dc sk):=fun y hy=>by
 obtain ⟨s,_,rfl⟩:=Bs.1 hy;rfl
theorem xD(f:Nat)(l:Lqq):(isort (ltK f) l).length=l.length:=yP _ _
theorem bLs{k f:Nat}{l:Lqq}(h:uni k l):uni k (isort (ltK f) l):=fun y hy=>h y ((vA _ _ y).1 hy)
theorem aGf(l:Lqq):(kC l).length=l.length:=by unfold kC;rw [bAt];simp
theorem aXv(l:Lqq):uni 3 (kC l):=aMy l [] fun z hz=>by cases hz
theorem jS:uni 3 (cD dl oc dc sk):=fun y hy=>by
 rcases jX.1 hy with hy | hy
 ·exact aXv _ y hy
 ·exact aGe y hy
theorem aRh{α:Type}(p:α→Bool):∀ l:List α,(l.filter fun x => !p x).length+(l.filter p).length=l.length
 | []=>rfl
 | x::l=>by
  have:=aRh p l;cases h:p x <;> simp [h] <;> omega
theorem yT:(cD dl oc dc sk).length=sk.length:=by
 unfold cD fK fX;rw [iF,aGf,xD,Cb,Cb];exact aRh _ sk
theorem cLd(hd:bN dc)(hov:∀ n,vG ov n (oc.contains n))(hs:uni 2 sk)(hb:∀ x∈sk,skB x=true)(hl:sk.length<20){T:Lqb}(hT:cS dl oc dc T):∃ T',cS dl oc dc T'∧cId dl sk dc ov (cD dl oc dc sk) T T':=by
 obtain ⟨acc,⟨h1,h2,h3⟩,h4⟩:=aE.ex (P:=Tp) (k:=7) (b:=sub (cd Tryz.f86) [1,1,0,1,0,0]) (e := .exit 0) (fun i (a:(Lqq × Lqq) × Lqb)=>pQ dl sk dc ov a.1.1.length (a.1.1.flatten.map aA) a.1.2.length (a.1.2.flatten.map aA) i (aR a.2) a.2.length)
  (fun a=>pQ dl sk dc ov a.1.1.length (a.1.1.flatten.map aA) a.1.2.length (a.1.2.flatten.map aA) sk.length (aR a.2) a.2.length)
  (fun i a=>cS dl oc dc a.2∧a.1.1=fK dl oc dc (sk.take i)∧a.1.2=fX dl oc dc (sk.take i)) (by simp) sk.length
  (fun i acc hi hI=>by
   obtain ⟨⟨p,q⟩,T1⟩:=acc;obtain ⟨h1,h2,h3⟩:=hI;dsimp only at h1 h2 h3
   have hm:=fL hi;obtain ⟨a,b,hy⟩:=len2 (hs _ hm);have hx:sk[i]? = some [a,b]:=by rw [Av hi,hy]
   rw [hy] at hm
   have hr : -1≤b∧b≤360000:=by
    have:=hb _ hm;rw [aUt,B7] at this
    exact bV.1 this.2
   obtain ⟨T2,q1,q2⟩:=bQa (sk:=sk) hd hov a b hr h1;have hp:p.length≤20:=by rw [h2];have:=aJq (dl:=dl) (oc:=oc) (dc:=dc) (sk:=sk.take i);rw [mJ] at this;omega
   have hq:q.length≤20:=by rw [h3];have:=aGd (dl:=dl) (oc:=oc) (dc:=dc) (sk:=sk.take i);rw [mJ] at this;omega
   have et:sk.take (i+1)=sk.take i++[[a,b]]:=by rw [List.take_add_one,hx];rfl
   rw [et];have e1:fK dl oc dc (sk.take i++[[a,b]])=p++if (cI dl oc dc a b).2 then [] else [[a,0,(cI dl oc dc a b).1]]:=by
    rw [h2];unfold fK;rw [kU,fM]
    congr 1
    show (List.filter _ [[a,b]]).map _=_;cases hq:(cI dl oc dc a b).2 <;> simp [hq]
   have e2:fX dl oc dc (sk.take i++[[a,b]])=q++if (cI dl oc dc a b).2 then [[a,-1,0]] else []:=by
    rw [h3];unfold fX;rw [kU,fM]
    congr 1
    show (List.filter _ [[a,b]]).map _=_;cases hq:(cI dl oc dc a b).2 <;> simp [hq]
   rw [e1,e2];cases hc:(cI dl oc dc a b).2 with
   | true =>
    rw [hc] at q2
    exact ⟨((p,q++[[a,-1,0]]),T2),⟨q1,by simp,by simp⟩,bLd (q:=q) (q':=q++[[a,-1,0]]) (by omega) hx hs q2 rfl ⟨rfl,by omega⟩ (aH (by omega)) (by simp) (by simp) rfl rfl rfl⟩
   | false =>
    rw [hc] at q2
    exact ⟨((p++[[a,0,(cI dl oc dc a b).1]],q),T2),⟨q1,by simp,by simp⟩,bLe (p:=p) (p':=p++[[a,0,(cI dl oc dc a b).1]]) (by omega) hx hs q2 rfl ⟨rfl,by omega⟩ (aH (by omega)) (by simp) (by simp) rfl rfl rfl⟩)
  (fun acc hI=>bLf (by omega)) (acc:=(([],[]),T)) ⟨hT,by simp [fK],by simp [fX]⟩
 obtain ⟨⟨p,q⟩,T1⟩:=acc;dsimp only at h1 h2 h3 h4
 rw [List.take_length] at h2 h3
 subst h2 h3;have hp:=aJq (dl:=dl) (oc:=oc) (dc:=dc) (sk:=sk);have hq:=aGd (dl:=dl) (oc:=oc) (dc:=dc) (sk:=sk);have hP:=aXu (dl:=dl) (sk:=sk) (dc:=dc) (ov:=ov) (isort (ltK 2) (fK dl oc dc sk)) (bLs aJr) (by rw [xD];omega) (fK dl oc dc sk) (fX dl oc dc sk) rfl T1
 refine ⟨T1,h1,cIe (N5:=(cD dl oc dc sk).length) (Ei:=(cD dl oc dc sk).flatten.map aA) h4 aJr (by omega) hP ⟨qK aGe,by rw [aGf,xD];omega⟩ ?_ ?_⟩
 ·unfold cD;rw [iF]
 ·unfold cD;rw [aPn,fM]
end
theorem bAu{dl:Int}{sk dc:Lqq}(h:bR dl sk dc):∀ x∈aB sk,skB x=true:=fun x hx=>h.hsk x ((dY sk).mem_iff.1 hx)
theorem bSm{dl:Int}{sk dc:Lqq}(h:bR dl sk dc)(hl:sk.length<20){base:Nat}:FV Tp 28 [.p (.agg (bB dl sk dc))] base (.tup [.own base,.p (aA 0)]) [(base,.row 48 (cD dl [] (aB dc) (aB sk)).length ((cD dl [] (aB dc) (aB sk)).flatten.map aA))]:=by
 obtain ⟨T',h1,h2⟩:=cLd (dl:=dl) (sk:=aB sk) (dW h) aLv (nI h.us) (bAu h) (by rw [eG];exact hl) cS.nil
 exact cIf h h2
theorem bLt{dl:Int}{dc:Lqq}(hd:bN dc):(aP dl dc).length≤1000:=by
 unfold aP;rw [Cb];have:=mI (kJ dl dc) dc;have:=hd.len;omega
def qU(u:List Int):Bool:=(List.range u.length).all fun i=>i == 0 || decide (u.getD (i-1) 0<u.getD i 0)
theorem bSn{dl:Int}{sk dc:Lqq}(u:List Int)(hl:u.length≤1000):(qU u=true∧∃ i,aE Tp 0 (sub (cd Tryz.f21) [1,1,1,1,1,0,1,0,0]) (jK dl sk dc u 1) (.exit 0) (jK dl sk dc u i)) ∨
  (qU u=false∧∃ i,aE Tp 0 (sub (cd Tryz.f21) [1,1,1,1,1,0,1,0,0]) (jK dl sk dc u 1) .ret (bS (jK dl sk dc u i) [(4,.p bX),(5,.p (aA 4))])):=by
 rcases Nat.lt_or_ge u.length 2 with h2 | h2
 ·refine .inl ⟨?_,1,.exit (aJm (by omega)) (by simp)⟩
  unfold qU;rw [gJ];intro i hi;have:=iJ.1 hi;have:i=0:=by omega
  subst this;rfl
 ·have hget:∀ i,i<u.length→u[i]? = some (u.getD i 0):=fun i hi=>by rw [Bv,Av hi];rfl
  have key:∀ d i,i+d=u.length→1≤i→(∀ j,j<i→(j == 0 || decide (u.getD (j-1) 0<u.getD j 0))=true) →
   (qU u=true∧∃ k,aE Tp 0 (sub (cd Tryz.f21) [1,1,1,1,1,0,1,0,0]) (jK dl sk dc u (i:Int)) (.exit 0) (jK dl sk dc u k)) ∨
   (qU u=false∧∃ k,aE Tp 0 (sub (cd Tryz.f21) [1,1,1,1,1,0,1,0,0]) (jK dl sk dc u (i:Int)) .ret (bS (jK dl sk dc u k) [(4,.p bX),(5,.p (aA 4))])):=by
   intro d
   induction d with
   | zero =>
    intro i hi h1 hj;refine .inl ⟨?_,_,.exit (aJm (by omega)) (by simp)⟩
    unfold qU;rw [gJ];intro j hjr;exact hj j (by have:=iJ.1 hjr;omega)
   | succ d ih =>
    intro i hi h1 hj;have g1:u[((i:Nat):Int).toNat]? = some (u.getD i 0):=by rw [aPo];exact hget i (by omega)
    have g2:u[((i:Int)-1).toNat]? = some (u.getD (i-1) 0):=by rw [show ((i:Int)-1).toNat=i-1 by omega];exact hget (i-1) (by omega)
    by_cases hc:u.getD (i-1) 0<u.getD i 0
    ·have hst:=bLl (dl:=dl) (sk:=sk) (dc:=dc) (i:=(i:Int)) (i':=((i+1:Nat):Int)) (by omega) g1 (by omega) (by unfold inR;omega) g2 (by omega) hc (by unfold inR;omega) (by omega)
     rcases ih (i+1) (by omega) (by omega) (fun j Du=>by
      rcases Nat.lt_or_ge j i with h3 | h3
      ·exact hj j h3
      ·obtain rfl:j=i:=by omega
       rw [decide_eq_true hc,Bool.or_true]) with ⟨q1,k,q2⟩ | ⟨q1,k,q2⟩
     ·exact .inl ⟨q1,k,.step hst q2⟩
     ·exact .inr ⟨q1,k,.step hst q2⟩
    ·refine .inr ⟨?_,_,.exit (bLk (i:=(i:Int)) (by omega) g1 (by omega) (by unfold inR;omega) g2 (by omega) (by omega)) (by simp)⟩
     cases hr:qU u with
     | false=>rfl
     | true =>
      unfold qU at hr
      have:=gJ.1 hr i (iJ.2 (by omega))
      rw [show (i == 0)=false by simp;omega,Bool.false_or] at this
      exact absurd (of_decide_eq_true this) hc
  have:=key (u.length-1) 1 (by omega) (by omega) (fun j hj=>by
   have:j=0:=by omega
   subst this;rfl)
  exact this
def aRi(dl:Int)(dc:Lqq)(u:List Int):Int:=if u.all (ocB (aP dl dc)) then (if qU u then 0 else 4) else 1
theorem cJb{dl:Int}{sk dc:Lqq}(h:bR dl sk dc)(hl:sk.length<20)(u:List Int)(hu:u.length≤1000)(he:aRi dl (aB dc) u=0){base:Nat}:FV Tp 21 [.p (.agg (bB dl sk dc)),.p (aG u)] base (.tup [.own base,.p (aA 0)]) [(base,.row 48 (cD dl u (aB dc) (aB sk)).length ((cD dl u (aB dc) (aB sk)).flatten.map aA))]:=by
 have hd:=dW h;unfold aRi at he
 cases ha:u.all (ocB (aP dl (aB dc))) with
 | false=>rw [ha] at he;simp at he
 | true =>
  rw [ha,if_pos rfl] at he
  rcases bSn (dl:=dl) (sk:=sk) (dc:=dc) u hu with ⟨q1,i,q2⟩ | ⟨q1,i,q2⟩
  ·obtain ⟨T',h1,h2⟩:=cLd (dl:=dl) (sk:=aB sk) hd (aFj hu) (nI h.us) (bAu h) (by rw [eG];exact hl) cS.nil
   exact cIk h hd hu (fun _ _=>bLt hd) ha q2 h2
  ·rw [q1] at he;simp at he
end
end KV
end Go.Proofs
section
namespace Go.Proofs
namespace KL
def aXq(x:Int):List Int→List Int
 | []=>[x]
 | y::r=>if x≤y then x::y::r else y::aXq x r
def sortI:List Int→List Int
 | []=>[]
 | x::r=>aXq x (sortI r)
theorem aAi(x:Int):∀ l,(aXq x l).Perm (x::l)
 | [] => .refl _
 | y::r=>by
  unfold aXq
  split
  ·exact .refl _
  ·exact ((aAi x r).cons y).trans (List.Perm.swap x y r)
theorem aGa:∀ l,(sortI l).Perm l
 | [] => .refl _
 | x::r=>(aAi x _).trans ((aGa r).cons x)
theorem aBp(x:Int):∀ l,l.Pairwise (· ≤ ·)→(aXq x l).Pairwise (· ≤ ·)
 | [],_=>by simp [aXq]
 | y::r,h=>by
  obtain ⟨h1,h2⟩:=List.pairwise_cons.1 h;unfold aXq
  split
  ·rename_i hx
   exact List.pairwise_cons.2 ⟨fun z hz=>by
    rcases List.mem_cons.1 hz with rfl | hz
    ·exact hx
    ·have:=h1 z hz;omega,h⟩
  ·rename_i hx
   refine List.pairwise_cons.2 ⟨fun z hz => ?_,aBp x r h2⟩
   rcases List.mem_cons.1 ((aAi x r).mem_iff.1 hz) with rfl | hz
   ·omega
   ·exact h1 z hz
theorem yQ:∀ l,(sortI l).Pairwise (· ≤ ·)
 | [] => .nil
 | x::r=>aBp x _ (yQ r)
theorem aJp:∀ (a b:List Int),a.Perm b→a.Pairwise (· ≤ ·)→b.Pairwise (· ≤ ·)→a=b
 | [],b,h,_,_=>(List.nil_perm.1 h).symm
 | x::r,[],h,_,_=>absurd h.length_eq (by simp)
 | x::r,y::t,h,ha,hb=>by
  obtain ⟨h1,h2⟩:=List.pairwise_cons.1 ha;obtain ⟨h3,h4⟩:=List.pairwise_cons.1 hb;have e:x=y:=by
   have m1:x∈y::t:=h.mem_iff.1 (List.mem_cons_self ..);have m2:y∈x::r:=h.mem_iff.2 (List.mem_cons_self ..)
   rcases List.mem_cons.1 m1 with e | m1
   ·exact e
   ·rcases List.mem_cons.1 m2 with e | m2
    ·exact e.symm
    ·have:=h1 y m2;have:=h3 x m1;omega
  subst e;rw [aJp r t (List.Perm.cons_inv h) h2 h4]
theorem mergeSort_eq(l:List Int):l.mergeSort leB=sortI l:=by
 refine aJp _ _ ((List.mergeSort_perm _ _).trans (aGa l).symm) ?_ (yQ l);have:=List.pairwise_mergeSort (le:=leB) (fun a b c h1 h2=>by simp only [leB,decide_eq_true_eq] at *;omega) (fun a b=>by simp only [leB,Bool.or_eq_true,decide_eq_true_eq];omega) l
 exact this.imp (fun h=>by simpa [leB] using h)
end KL
namespace KV
open Tryz
abbrev Dt:List (List Int):=[[1,15000],[2,15100],[3,15200]]
abbrev Fq:List (List Int):=[[1,0,0,1,300,0],[2,7,10,0,0,1]]
abbrev Qu:List (List Int):=[[1,0,0,1,300,0],[2,7,10,0,0,1],[3,9,40,0,0,2]]
abbrev Qv:List (List Int):=[[1,0,0,1,300,0],[2,7,10,0,0,1],[3,9,40,0,0,2],[4,5,50,0,0,3]]
abbrev N6:List (List Int):=[[1,0,0,1,300,0],[2,7,10,0,0,1],[3,9,40,0,0,2],[4,5,50,0,0,3],[5,6,60,0,100,1]]
theorem uD{l:List (List Int)}(h:l.Pairwise fun a b=>a.getD 0 0≤b.getD 0 0):aB l=l:=List.mergeSort_of_pairwise (h.imp fun h=>decide_eq_true h)
theorem aHc:aB Dt=Dt:=uD (by decide)
theorem Gx:aB Fq=Fq:=uD (by decide)
theorem Ue:aB Qu=Qu:=uD (by decide)
theorem Uf:aB Qv=Qv:=uD (by decide)
theorem Ug:aB N6=N6:=uD (by decide)
theorem Kh:bR 30 Dt Fq:=⟨by unfold uni;decide,by unfold uni;decide,by decide,by decide,by decide,by decide,by decide,by decide,by decide,by decide,by decide⟩
theorem Uh:bR 30 Dt Qu:=⟨by unfold uni;decide,by unfold uni;decide,by decide,by decide,by decide,by decide,by decide,by decide,by decide,by decide,by decide⟩
theorem Ui:bR 30 Dt Qv:=⟨by unfold uni;decide,by unfold uni;decide,by decide,by decide,by decide,by decide,by decide,by decide,by decide,by decide,by decide⟩
theorem Qw:bR 30 Dt N6:=⟨by unfold uni;decide,by unfold uni;decide,by decide,by decide,by decide,by decide,by decide,by decide,by decide,by decide,by decide⟩
def bYu(al:List eR)(s:Nat)(c:List bD):List Int:=Lib.compact (KL.sortI (c.flatMap (chL al s)))
theorem bAq(al:List eR)(s:Nat)(c:List bD):eJ al s c=bYu al s c:=by unfold eJ bYu;rw [KL.mergeSort_eq]
def bSe(dl:Int)(sk dc:List (List Int))(f:Int)(i:Nat):Bool:=match (aJ dl sk dc)[i]? with
 | some h=>aMi (bYu (aJ dl sk dc) i h.1) (h.1.any fun x=>x.2.1) (h.1.any fun x => !x.2.1) f
 | none=>false
theorem bSf(dl:Int)(sk dc:List (List Int))(f:Int):sG dl sk dc f=bSe dl sk dc f:=by
 funext i
 unfold sG bSe
 split
 ·rename_i h e
  first | rw [e] | skip
  simp only [bAq]
 ·rename_i e
  first | rw [e] | rfl
theorem O1(base:Nat):FV Tryz.prog 28 [.p (.agg (bB 30 Dt Fq))] base (.tup [.own base,.p (aA 0)]) [(base,.row 48 3 ([[2,1,15100],[3,2,15200],[1,3,15300]].flatten.map aA))]:=by
 have:=bSm Kh (by decide) (base:=base)
 rw [aHc,Gx,show cD 30 [] Fq Dt=[[2,1,15100],[3,2,15200],[1,3,15300]] from by decide +kernel] at this
 exact this
theorem Oz(base:Nat):FV Tryz.prog 21 [.p (.agg (bB 30 Dt Fq)),.p (aG [2])] base (.tup [.own base,.p (aA 0)]) [(base,.row 48 3 ([[1,1,15000],[2,2,15100],[3,3,15200]].flatten.map aA))]:=by
 have:=cJb Kh (by decide) [2] (by decide) (by rw [Gx];decide +kernel) (base:=base)
 rw [aHc,Gx,show cD 30 [2] Fq Dt=[[1,1,15000],[2,2,15100],[3,3,15200]] from by decide +kernel] at this
 exact this
theorem Mq:aP 30 Fq=[2]:=by decide +kernel
theorem X6(base:Nat):FV Tryz.prog 71 [.p (.agg (bB 30 Dt Fq)),.p (aA 1)] base (.tup [.p (aG [1,3]),.p (blP false),.p (aA 0)]) []:=by
 have:=cGy Kh (bib:=1) (i:=0) (s0:=1) (s1:=15000) (by rw [aHc];decide +kernel) (by rw [aHc];rfl) (by rw [Gx,Mq];decide) (base:=base)
 rw [aHc,Gx,bAq,show bYu (aJ 30 Dt Fq) 0 (iD 30 Fq 1 15000 (kB 30 Fq 1)).1=[1,3] from by decide +kernel,show ((iD 30 Fq 1 15000 (kB 30 Fq 1)).1.any fun x=>x.2.1)=false from by decide +kernel] at this
 exact this
theorem Kz(base:Nat):FV Tryz.prog 33 [.p (.agg (bB 30 Dt Fq)),.p (aA 2)] base (.tup [.p (aG [2]),.p (aA 0)]) []:=by
 have:=bRf Kh (f:=2) (by decide) (by rw [Gx,Mq];decide) (base:=base)
 have e:tZ 30 Dt Fq 2=[2]:=by
  unfold tZ;rw [bSf];decide +kernel
 rw [aHc,Gx,e] at this
 exact this
theorem Uj(base:Nat):FV Tryz.prog 19 [.p (.agg (bB 30 Dt Qu))] base (.tup [.p (aG []),.p (aA 0)]) []:=by
 have:=bPx Uh (base:=base);rw [Ue,show aP 30 Qu=[] from by decide +kernel] at this
 exact this
theorem Uk(base:Nat):FV Tryz.prog 19 [.p (.agg (bB 30 Dt Qv))] base (.tup [.p (aG [2]),.p (aA 0)]) []:=by
 have:=bPx Ui (base:=base);rw [Uf,show aP 30 Qv=[2] from by decide +kernel] at this
 exact this
theorem X7(base:Nat):FV Tryz.prog 61 [.p (.agg (bB 30 Dt N6)),.p (aA 1)] base (.tup [.p (aA 15100),.p (blP false),.p (aA 0)]) []:=by
 obtain ⟨T',_,hT⟩:=bQa (dl:=30) (sk:=aB Dt) (dc:=aB N6) (dW Qw) aLv 1 15000 (by decide) (T:=[]) cS.nil
 have:=cGq Qw (bib:=1) (i0:=0) (s1:=1) (s2:=15000) (by rw [aHc];decide +kernel) (by rw [aHc];rfl) hT (base:=base)
 rw [Ug,show cI 30 [] N6 1 15000=(15100,false) from by decide +kernel] at this
 exact this
theorem X8(base:Nat):FV Tryz.prog 58 [.p (.agg (bB 30 Dt Fq)),.p (aA 2)] base (.tup [.p (blP true),.p (aA 0)]) []:=by
 have:=cIy Kh 2 (base:=base);have hB:∀ r6,aHd 30 Dt Fq 2 r6=fun x => !(((cI 30 x Fq ((Dt.getD (bJ (fun x=>decide (r6=x)) (aQ Dt 0)).toNat []).getD 0 0) ((Dt.getD (bJ (fun x=>decide (r6=x)) (aQ Dt 0)).toNat []).getD 1 0)).1 == (cI 30 (x++[2]) Fq ((Dt.getD (bJ (fun x=>decide (r6=x)) (aQ Dt 0)).toNat []).getD 0 0) ((Dt.getD (bJ (fun x=>decide (r6=x)) (aQ Dt 0)).toNat []).getD 1 0)).1) && ((cI 30 x Fq ((Dt.getD (bJ (fun x=>decide (r6=x)) (aQ Dt 0)).toNat []).getD 0 0) ((Dt.getD (bJ (fun x=>decide (r6=x)) (aQ Dt 0)).toNat []).getD 1 0)).2 == (cI 30 (x++[2]) Fq ((Dt.getD (bJ (fun x=>decide (r6=x)) (aQ Dt 0)).toNat []).getD 0 0) ((Dt.getD (bJ (fun x=>decide (r6=x)) (aQ Dt 0)).toNat []).getD 1 0)).2)):=fun r6=>by
  funext x
  unfold aHd lB;rw [aHc,Gx]
 have e:bSi 30 Dt Fq 2=(true,0):=by
  unfold bSi;rw [aHc,Gx,hB];decide +kernel
 rw [e] at this
 exact this
theorem bSg{base:Nat}:FV Tryz.prog 26 [] base (.p (blP true)) [] :=
 cIx O1 Oz X6 Kz (fun base=>by
  have:=cGu [[2,1,15100],[3,2,15200],[1,3,15300]] [[2,1,15100],[3,2,15200],[1,3,15300]] (by unfold uni;decide) (by unfold uni;decide) (by decide) (base:=base)
  rw [decide_eq_true rfl] at this
  exact this) ⟨rfl,rfl⟩ (by decide) (fun base=>by
  have:=aAc [1,3] [1,3] (by decide) (base:=base)
  rw [decide_eq_true rfl] at this
  exact this) (fun base=>by
  have:=aAc [2] [2] (by decide) (base:=base)
  rw [decide_eq_true rfl] at this
  exact this) Uj Uk X7 X8
end KV
end Go.Proofs
end
namespace Go.Proofs
namespace KV
open Tryz
section

end
section
def vV(L:Lqq)(bib:Int):List Int:=(L.find? fun y=>decide (y.getD 0 0=bib)).getD [0,0,0]
end
section

end
section
structure aHe (p:List Int→Bool) (l:Lqq) (j:Nat) (x:Lqq × Nat):Prop where
 len:x.1.length=l.length
 le:x.2<j
 kept:x.1.take x.2=(l.take j).filter fun n => !p n
 rest:x.1.drop j=l.drop j
theorem aHe.skip{p:List Int→Bool}{l:Lqq}{j:Nat}{x:Lqq × Nat}(h:aHe p l j x)(hj:j<l.length){n:List Int}(hn:x.1[j]? = some n)(hp:p n=true):aHe p l (j+1) x:=by
 have hl:l[j]? = some n:=by
  have:=congrArg (·[0]?) h.rest
  simp only [List.getElem?_drop,Nat.add_zero] at this
  rw [← this];exact hn
 refine ⟨h.len,by have:=h.le;omega,?_,?_⟩
 ·rw [h.kept,List.take_add_one,hl]
  simp [kU,hp]
 ·rw [← List.drop_drop,h.rest,List.drop_drop]
theorem aHe.keep{p:List Int→Bool}{l:Lqq}{j:Nat}{x:Lqq × Nat}(h:aHe p l j x)(hj:j<l.length){n:List Int}(hn:x.1[j]? = some n)(hp:p n=false):aHe p l (j+1) (x.1.set x.2 n,x.2+1):=by
 have hl:l[j]? = some n:=by
  have:=congrArg (·[0]?) h.rest
  simp only [List.getElem?_drop,Nat.add_zero] at this
  rw [← this];exact hn
 have hle:=h.le;have hlen:=h.len;refine ⟨by simp [h.len],by simpa using hle,?_,?_⟩
 ·show (x.1.set x.2 n).take (x.2+1)=_
  rw [List.take_add_one,List.take_set_of_le (dG _),h.kept,bCu (by omega),List.take_add_one,hl]
  simp [kU,hp]
 ·show (x.1.set x.2 n).drop (j+1)=_
  rw [List.drop_set_of_lt (by omega),← List.drop_drop,h.rest,List.drop_drop]
theorem aHe.start{p:List Int→Bool}{l:Lqq}{i:Nat}{n:List Int}(hi:l[i]? = some n)(hp:p n=true)(hb:∀ m∈l.take i,p m=false):aHe p l (i+1) (l,i):=by
 refine ⟨rfl,Nat.lt_succ_self _,?_,rfl⟩;show l.take i=_;rw [List.take_add_one,hi];simp only [kU];rw [List.filter_eq_self.2 fun m hm=>by simp [hb m hm]]
 simp [hp]
theorem aMz{p:List Int→Bool}{l:Lqq}{i:Nat}(h:l.findIdx? p=some i):∀ m∈l.take i,p m=false:=fun m hm=>by
 obtain ⟨hi,h1,h2⟩:=List.findIdx?_eq_some_iff_getElem.1 h;obtain ⟨j,hj,rfl⟩:=List.getElem_of_mem hm;rw [List.getElem_take];rw [mJ] at hj
 have:=h2 j (by omega)
 simpa using this
end
section

end
section
end
section

end
section

theorem yU{α:Type}{Q:List α→Prop}(h0:Q [])(hs:∀ l x,Q l→Q (l++[x]))(l:List α):Q l:=by
 have key:∀ r:List α,Q r.reverse:=fun r=>by
  induction r with
  | nil=>exact h0
  | cons a r ih=>rw [List.reverse_cons];exact hs _ _ ih
 have:=key l.reverse
 rwa [List.reverse_reverse] at this
def mQ(L:Lqq)(t:Int):Nat:=(L.filter fun x=>decide (x.getD 2 0<t)).length
theorem aJs(L:Lqq)(x:List Int)(t:Int):mQ (L++[x]) t=mQ L t+if x.getD 2 0<t then 1 else 0:=by
 unfold mQ;rw [kU,iF]
 congr 1
 by_cases h:x.getD 2 0<t
 ·rw [if_pos h,List.filter_cons,if_pos (decide_eq_true h)];rfl
 ·rw [if_neg h,List.filter_cons,if_neg (by rw [decide_eq_false h];simp)];rfl
theorem aGg(L:Lqq):L.Pairwise (fun a b=>a.getD 2 0≤b.getD 2 0)→kC L=L.map fun x=>[x.getD 0 0,(mQ L (x.getD 2 0):Int)+1,x.getD 2 0]:=by
 refine yU (Q:=fun L=>L.Pairwise (fun a b=>a.getD 2 0≤b.getD 2 0)→kC L=L.map fun x=>[x.getD 0 0,(mQ L (x.getD 2 0):Int)+1,x.getD 2 0]) (fun _=>rfl) (fun l x ih hp => ?_) L
 obtain ⟨h1,_,h3⟩:=List.pairwise_append.1 hp;have h4:∀ a∈l,a.getD 2 0≤x.getD 2 0:=fun a ha=>h3 a ha x (by simp)
 have e:kC (l++[x])=kC l++[[x.getD 0 0,plN (kC l) (x.getD 2 0),x.getD 2 0]]:=by
  unfold kC;rw [aBy];rfl
 rw [e,ih h1,fM]
 congr 1
 ·refine aBx fun y hy => ?_
  rw [aJs,if_neg (by have:=h4 y hy;omega)];rfl
 ·have hx:mQ (l++[x]) (x.getD 2 0)=mQ l (x.getD 2 0):=by rw [aJs,if_neg (by omega)];rfl
  show [[x.getD 0 0,plN _ (x.getD 2 0),x.getD 2 0]]=[[x.getD 0 0,(mQ (l++[x]) (x.getD 2 0):Int)+1,x.getD 2 0]];rw [hx]
  congr 3
  rcases List.eq_nil_or_concat l with rfl | ⟨m,y,rfl⟩
  ·rfl
  ·rw [List.concat_eq_append] at *
   unfold plN;rw [fM,fZ,List.map_nil,List.getLast?_concat];show (if y.getD 2 0=x.getD 2 0 then (mQ (m++[y]) (y.getD 2 0):Int)+1 else _)=_
   by_cases hc:y.getD 2 0=x.getD 2 0
   ·rw [if_pos hc,hc]
   ·rw [if_neg hc]
    have h5:=h4 y (by simp)
    have h6:mQ (m++[y]) (x.getD 2 0)=(m++[y]).length:=by
     unfold mQ;rw [List.filter_eq_self.2];intro a ha;refine decide_eq_true ?_
     rcases jX.1 ha with ha | ha
     ·have:=(List.pairwise_append.1 h1).2.2 a ha y (by simp)
      omega
     ·obtain rfl:a=y:=by simpa using ha
      omega
    rw [h6];simp
section
variable {dl:Int} {oc:List Int} {sk dc:Lqq}
def bAv(a b:List Int):Prop:=(b.getD 1 0 = -1→a.getD 1 0 = -1→a.getD 0 0<b.getD 0 0)∧(b.getD 1 0 ≠ -1→a.getD 1 0 ≠ -1∧a.getD 2 0≤b.getD 2 0∧(a.getD 2 0=b.getD 2 0→a.getD 0 0<b.getD 0 0))
def inL(t:Int)(y:List Int):Bool:=decide (y.getD 1 0 ≠ -1∧y.getD 2 0<t)
theorem aGh(hs:sk.Pairwise fun a b=>a.getD 0 0<b.getD 0 0) :
  (cD dl oc dc sk).Pairwise bAv ∧
  (∀ y∈cD dl oc dc sk,y.getD 1 0 ≠ -1→y.getD 1 0=1+(((cD dl oc dc sk).filter (inL (y.getD 2 0))).length:Int)) ∧
  (∀ y∈cD dl oc dc sk,∃ s∈sk,s.getD 0 0=y.getD 0 0∧cI dl oc dc (sB s) (sT s)=(y.getD 2 0,decide (y.getD 1 0 = -1))):=by
 have Tv:(fK dl oc dc sk).Pairwise fun a b=>a.getD 0 0<b.getD 0 0:=by
  unfold fK;rw [List.pairwise_map];exact (hs.sublist List.filter_sublist)
 have hO:(fX dl oc dc sk).Pairwise fun a b=>a.getD 0 0<b.getD 0 0:=by
  unfold fX;rw [List.pairwise_map];exact (hs.sublist List.filter_sublist)
 have s1:=rY (f:=fun x:List Int=>x.getD 2 0) (fun x y=>aMt 2 x y) (fK dl oc dc sk)
 have s2:=aMv (f:=fun x:List Int=>x.getD 2 0) (g:=fun x:List Int=>x.getD 0 0) (fun x y=>aMt 2 x y) (fK dl oc dc sk) Tv
 have hpl:=aGg _ s1;have hmI:∀ x,x∈isort (ltK 2) (fK dl oc dc sk)→x∈fK dl oc dc sk:=fun x hx=>(vA _ _ x).1 hx
 have e:cD dl oc dc sk=((isort (ltK 2) (fK dl oc dc sk)).map fun x=>[x.getD 0 0,(mQ (isort (ltK 2) (fK dl oc dc sk)) (x.getD 2 0):Int)+1,x.getD 2 0])++fX dl oc dc sk:=by
  unfold cD;rw [hpl]
 generalize isort (ltK 2) (fK dl oc dc sk)=I at s1 s2 hmI e
 have o1:∀ y∈fX dl oc dc sk,y.getD 1 0 = -1:=fun y hy=>by
  unfold fX at hy
  obtain ⟨s,_,rfl⟩:=Bs.1 hy;rfl
 refine ⟨?_,?_,?_⟩
 ·rw [e]
  refine List.pairwise_append.2 ⟨?_,?_,?_⟩
  ·rw [List.pairwise_map]
   refine s2.imp fun {a b} h => ?_
   refine ⟨fun h1=>absurd h1 ?_,fun _=>⟨?_,?_,?_⟩⟩
   ·show (mQ I (b.getD 2 0):Int)+1 ≠ -1
    omega
   ·show (mQ I (a.getD 2 0):Int)+1 ≠ -1
    omega
   ·show a.getD 2 0≤b.getD 2 0
    omega
   ·show a.getD 2 0=b.getD 2 0→a.getD 0 0<b.getD 0 0
    omega
  ·refine hO.imp_of_mem fun {a b} ha hb h=>⟨fun _ _=>h,fun h1=>absurd (o1 b hb) h1⟩
  ·intro a ha b hb
   obtain ⟨x,_,rfl⟩:=Bs.1 ha;refine ⟨fun _ h1=>absurd h1 ?_,fun h1=>absurd (o1 b hb) h1⟩
   show (mQ I (x.getD 2 0):Int)+1 ≠ -1;omega
 ·have hc:∀ t,((cD dl oc dc sk).filter (inL t)).length=mQ I t:=fun t=>by
   rw [e,kU,iF];have z:(fX dl oc dc sk).filter (inL t)=[]:=by
    rw [List.filter_eq_nil_iff];intro y hy;unfold inL;rw [o1 y hy];simp
   rw [z,List.filter_map,Cb];unfold mQ;rw [List.length_nil,Nat.add_zero]
   congr 1
   refine List.filter_congr fun x _ => ?_
   show decide ((mQ I (x.getD 2 0):Int)+1 ≠ -1∧x.getD 2 0<t)=decide (x.getD 2 0<t)
   by_cases hx:x.getD 2 0<t
   ·rw [decide_eq_true hx,decide_eq_true ⟨by omega,hx⟩]
   ·rw [decide_eq_false hx,decide_eq_false fun h=>hx h.2]
  intro y hy h1;rw [hc];rw [e] at hy
  rcases jX.1 hy with hy | hy
  ·obtain ⟨x,_,rfl⟩:=Bs.1 hy
   show (mQ I (x.getD 2 0):Int)+1=1+(mQ I (x.getD 2 0):Int);omega
  ·exact absurd (o1 y hy) h1
 ·intro y hy
  rw [e] at hy
  rcases jX.1 hy with hy | hy
  ·obtain ⟨x,hx,rfl⟩:=Bs.1 hy
   have Vj:=hmI x hx;unfold fK at Vj
   obtain ⟨s,Cl,rfl⟩:=Bs.1 Vj;obtain ⟨m1,m2⟩:=kK.1 Cl;refine ⟨s,m1,rfl,?_⟩;have m3:(cI dl oc dc (sB s) (sT s)).2=false:=by simpa using m2
   have m4:(decide ((mQ I (cI dl oc dc (sB s) (sT s)).1:Int)+1 = -1))=false:=decide_eq_false (by omega)
   show cI dl oc dc (sB s) (sT s)=((cI dl oc dc (sB s) (sT s)).1,decide ((mQ I (cI dl oc dc (sB s) (sT s)).1:Int)+1 = -1));rw [m4];exact Prod.ext rfl m3
  ·unfold fX at hy
   obtain ⟨s,Cl,rfl⟩:=Bs.1 hy;obtain ⟨m1,m2⟩:=kK.1 Cl;refine ⟨s,m1,rfl,?_⟩;show cI dl oc dc (sB s) (sT s)=(0,true);unfold cI at m2 ⊢
   split at m2
   ·rename_i h;rw [if_pos h]
   ·cases m2
def oB(f:List Int→Int × Bool)(S:Lqq)(t:Int):Nat:=(S.filter fun j => !(f j).2 && decide ((f j).1<t)).length
theorem aRj(hs:sk.Pairwise fun a b=>a.getD 0 0<b.getD 0 0)(t:Int):((cD dl oc dc sk).filter (inL t)).length=oB (fun s=>cI dl oc dc (sB s) (sT s)) sk t:=by
 have s1:=rY (f:=fun x:List Int=>x.getD 2 0) (fun x y=>aMt 2 x y) (fK dl oc dc sk)
 have hp:=aXn (ltK 2) (fK dl oc dc sk);unfold cD;rw [kU,iF,aGg _ s1];have z:(fX dl oc dc sk).filter (inL t)=[]:=by
  rw [List.filter_eq_nil_iff];intro y hy;unfold fX at hy
  obtain ⟨s,_,rfl⟩:=Bs.1 hy;simp [inL]
 rw [z,List.filter_map,Cb,List.length_nil,Nat.add_zero];have e1:∀ (I J:Lqq),(J.filter (inL t ∘ fun x=>[x.getD 0 0,(mQ I (x.getD 2 0):Int)+1,x.getD 2 0]))=J.filter fun x=>decide (x.getD 2 0<t):=fun I J=>by
  refine List.filter_congr fun x _ => ?_
  show decide ((mQ I (x.getD 2 0):Int)+1 ≠ -1∧x.getD 2 0<t)=decide (x.getD 2 0<t)
  by_cases hx:x.getD 2 0<t
  ·rw [decide_eq_true hx,decide_eq_true ⟨by omega,hx⟩]
  ·rw [decide_eq_false hx,decide_eq_false fun h=>hx h.2]
 rw [e1,(hp.filter _).length_eq];unfold fK oB;rw [List.filter_map,Cb,List.filter_filter]
 congr 1
 refine List.filter_congr fun s _ => ?_
 show (decide ((cI dl oc dc (sB s) (sT s)).1<t) && !(cI dl oc dc (sB s) (sT s)).2)=_;rw [Bool.and_comm]
def gM(f:List Int→Int × Bool)(S:Lqq)(k:List Int):Int:=if (f k).2 then -1 else 1+(oB f S (f k).1:Int)
theorem aRk(hs:sk.Pairwise fun a b=>a.getD 0 0<b.getD 0 0){k:List Int}(hk:k∈sk) :
  (cD dl oc dc sk).find? (fun y=>decide (y.getD 0 0=k.getD 0 0))=some [k.getD 0 0,gM (fun s=>cI dl oc dc (sB s) (sT s)) sk k,(cI dl oc dc (sB k) (sT k)).1]:=by
 obtain ⟨_,q2,q3⟩:=aGh (dl:=dl) (oc:=oc) (dc:=dc) hs;have hn:(aQ sk 0).Nodup:=by
  unfold aQ;rw [List.Nodup,List.pairwise_map];exact hs.imp fun h=>by omega
 cases hf:(cD dl oc dc sk).find? (fun y=>decide (y.getD 0 0=k.getD 0 0)) with
 | none =>
  exfalso
  have hno:=aEm.1 hf;have Qx:∀ y∈cD dl oc dc sk,y.getD 0 0≠k.getD 0 0:=fun y hy e=>hno y hy (decide_eq_true e)
  cases ho:(cI dl oc dc (sB k) (sT k)).2 with
  | true =>
   refine Qx [sB k,-1,0] (aBw _ ?_) rfl;unfold fX;exact Bs.2 ⟨k,kK.2 ⟨hk,ho⟩,rfl⟩
  | false =>
   have s1:=rY (f:=fun x:List Int=>x.getD 2 0) (fun x y=>aMt 2 x y) (fK dl oc dc sk)
   have hm:[sB k,0,(cI dl oc dc (sB k) (sT k)).1]∈isort (ltK 2) (fK dl oc dc sk):=by
    rw [vA];unfold fK;exact Bs.2 ⟨k,kK.2 ⟨hk,by rw [ho];rfl⟩,rfl⟩
   have hmem:[sB k,(mQ (isort (ltK 2) (fK dl oc dc sk)) (cI dl oc dc (sB k) (sT k)).1:Int)+1,(cI dl oc dc (sB k) (sT k)).1]∈cD dl oc dc sk:=by
    unfold cD;rw [aGg _ s1];exact oV _ (Bs.2 ⟨_,hm,rfl⟩)
   exact Qx _ hmem rfl
 | some y =>
  have hy:=sH hf;have hb:y.getD 0 0=k.getD 0 0:=by simpa using aPp hf
  obtain ⟨y0,y1,y2,rfl⟩:=Da (jS y hy);obtain ⟨s,h1,h2,h3⟩:=q3 _ hy;obtain rfl:s=k:=aLl hn h1 hk (h2.trans hb);have Ks:cI dl oc dc (sB s) (sT s)=(y2,decide (y1 = -1)):=h3;have A1:y0=s.getD 0 0:=hb;rw [Option.some.injEq,A1,Ks]
  congr 2
  unfold gM;dsimp only
  by_cases Rk:y1 = -1
  ·rw [if_pos (by rw [Ks];exact decide_eq_true Rk)];exact Rk
  ·rw [if_neg (by rw [Ks];simpa using Rk),Ks]
   have:=q2 _ hy Rk;rw [aRj hs] at this
   exact this
end
theorem cJc{sk:Lqq}(hn:(aQ sk 0).Nodup){s:List Int}(hs:s∈sk):∃ i:Nat,aFg sk (s.getD 0 0)=(i:Int)∧sk[i]? = some s:=by
 rcases bHq sk (s.getD 0 0) with ⟨i,x,h1,h2,h3⟩ | ⟨_,h2⟩
 ·exact ⟨i,h1,by rw [h2,aLl hn (Bi h2) hs h3]⟩
 ·exact absurd (Bs.2 ⟨s,hs,rfl⟩) h2
end
section
section
variable {dl:Int} {sk dc:Lqq}
end
end
section
section
variable {dl:Int} {sk dc:Lqq} {q:List Int}
theorem bUp(hd:bN dc){i:Nat}{x:List Int}(h:dc[i]? = some x):∃ la op by_ fr,((bK dl q dc).map (cT dl))[i]? = some (la,dJ dl q dc x,op,vE dl q dc x,kI dl q dc x,by_,fr):=by
 obtain ⟨s,h1,h2,h3⟩:=bOz (dl:=dl) (oc:=q) hd h;refine ⟨iC dl s.x,eY (dK s.x) && (s.cnt && s.rul.isNone),(s.rul.map dN).getD 0,(s.chg.map dN).getD 0,?_⟩;rw [fR,h1];show some (cT dl s)=_;have e1:dJ dl q dc x=s.cnt:=by unfold dJ;rw [h3]
 have e2:vE dl q dc x=s.upd:=by unfold vE;rw [h3]
 have e3:kI dl q dc x=s.much:=by unfold kI;rw [h3]
 rw [e1,e2,e3];rfl
theorem bUq(hd:bN dc){bib tm:Int}{ot:Bool}{i:Nat}{x:List Int}(hx:dc[i]? = some x)(ht : -1-36000*(i:Int)≤tm∧tm≤360000+43200000*(i:Int)) :
  (-1-36000*((i+1:Nat):Int)≤(pG dl q dc bib (ot,tm) x).2∧(pG dl q dc bib (ot,tm) x).2≤360000+43200000*((i+1:Nat):Int)) ∧
  aC Tp 0 (sub (cd Tryz.f66) [1,1,1,1,0,1,0,0]) (dQ dl sk dc bib q tm ot i) .normal (dQ dl sk dc bib q (pG dl q dc bib (ot,tm) x).2 (pG dl q dc bib (ot,tm) x).1 (i+1)):=by
 have hlen:=hd.len;have hi:=aO hx;have hll:((bK dl q dc).map (cT dl)).length=dc.length:=by rw [Cb,jR]
 have hm:=Bi hx;obtain ⟨la,op,b,fr,hr⟩:=bUp (dl:=dl) (q:=q) hd hx;have hb:=aLq (dl:=dl) (oc:=q) hd hm;have h5:=(iB.1 (hd.rng _ hm)).2.1;obtain ⟨y0,k,y2,y3,y4,y5,rfl⟩:=A6 (hd.ud x hm);have h5:0≤k∧k≤9:=h5;have hlt:(i:Int)<((((bK dl q dc).map (cT dl)).length:Nat):Int):=by rw [hll];omega
 have hn:inR (((i+1:Nat):Nat):Int):=aH (by omega)
 by_cases h3:y3=bib
 ·cases hc:dJ dl q dc [y0,k,y2,y3,y4,y5] with
  | false =>
   have e:pG dl q dc bib (ot,tm) [y0,k,y2,y3,y4,y5]=(ot,tm):=by
    unfold pG aFi;rw [hc];simp
   rw [e];rw [hc] at hr
   exact ⟨by dsimp only;omega,bEe hlt hx hd.ud h3 ⟨by omega,hlt⟩ hr rfl hn rfl⟩
  | true =>
   have hh:aFi dl q dc bib [y0,k,y2,y3,y4,y5]=(decide (k≤4) && (!(k == 4) || vE dl q dc [y0,k,y2,y3,y4,y5])):=by
    unfold aFi;rw [hc];show (decide (k≤4) && (y3 == bib && (true && (!(k == 4) || vE dl q dc [y0,k,y2,y3,y4,y5]))))=_
    rw [h3];simp
   rw [hc] at hr
   unfold pG;rw [hh];revert hr hb;generalize kI dl q dc [y0,k,y2,y3,y4,y5]=m;generalize vE dl q dc [y0,k,y2,y3,y4,y5]=u;intro hr hb;show (_≤(if _ then (ot || k == 3,byI k tm m) else (ot,tm)).2∧_)∧aC _ _ _ _ _ (dQ dl sk dc bib q (if _ then (ot || k == 3,byI k tm m) else (ot,tm)).2 (if _ then (ot || k == 3,byI k tm m) else (ot,tm)).1 (i+1))
   have hk:k=0∨k=1∨k=2∨k=3∨k=4∨4<k:=by omega
   rcases hk with rfl | rfl | rfl | rfl | rfl | h9
   ·simp only [byI]
    simp;refine ⟨by omega,?_⟩
    exact bEf hlt hx hd.ud h3 ⟨by omega,hlt⟩ hr rfl rfl (by unfold inR;omega) (by decide) (by decide) (by decide) hn rfl rfl
   ·simp only [byI]
    simp;refine ⟨by omega,?_⟩
    exact aUa hlt hx hd.ud h3 ⟨by omega,hlt⟩ hr rfl (by decide) (by decide) rfl (by unfold inR;omega) (by decide) (by decide) hn rfl rfl
   ·simp only [byI]
    simp;refine ⟨by omega,?_⟩
    exact aUb hlt hx hd.ud h3 ⟨by omega,hlt⟩ hr rfl (by decide) (by decide) (by decide) rfl (by unfold inR;omega) (by unfold inR;omega) (by decide) hn rfl rfl
   ·simp only [byI]
    simp;refine ⟨by omega,?_⟩
    exact aUc hlt hx hd.ud h3 ⟨by omega,hlt⟩ hr rfl (by decide) (by decide) (by decide) (by decide) rfl hn rfl
   ·simp only [byI]
    cases u with
    | true =>
     simp;refine ⟨by omega,?_⟩
     exact aTy hlt hx hd.ud h3 ⟨by omega,hlt⟩ hr rfl (by decide) rfl rfl (by unfold inR;omega) (by decide) (by decide) (by decide) hn rfl rfl
    | false =>
     simp;refine ⟨by omega,?_⟩
     exact aTz hlt hx hd.ud h3 ⟨by omega,hlt⟩ hr rfl (by decide) rfl rfl (by decide) (by decide) (by decide) hn rfl
   ·have e:decide (k≤4)=false:=decide_eq_false (by omega)
    rw [e,Bool.false_and];refine ⟨by simp;omega,?_⟩
    exact aUd hlt hx hd.ud h3 ⟨by omega,hlt⟩ hr rfl (by omega) (by omega) (by omega) (by omega) (by omega) hn rfl
 ·have e:pG dl q dc bib (ot,tm) [y0,k,y2,y3,y4,y5]=(ot,tm):=by
   have:([y0,k,y2,y3,y4,y5]:List Int).getD 3 0=y3:=rfl;unfold pG aFi;rw [show dB [y0,k,y2,y3,y4,y5]=y3 from rfl,show (y3 == bib)=false by simpa using h3];simp
  rw [e];exact ⟨by dsimp only;omega,bEd hlt hx hd.ud h3 hn rfl⟩
theorem cBe(hd:bN dc)(hq:q.length≤1000)(us:uni 2 sk)(hl:sk.length≤1000){bib:Int}{j:Nat}{s0 s1:Int}(hz:bJ (fun x=>decide (x.getD 0 0=bib)) sk=(j:Int))(hs:sk[j]? = some [s0,s1])(hr : -1≤s1∧s1≤360000){base:Nat}:FV Tp 66 [.p (.agg (bB dl sk dc)),.p (aA bib),.p (aG q)] base (.tup [.p (aA (cI dl q dc bib s1).1),.p (blP (cI dl q dc bib s1).2)]) []:=by
 have hll:((bK dl q dc).map (cT dl)).length=dc.length:=by rw [Cb,jR]
 have:=aE.range (P:=Tp) (k:=0) (b:=sub (cd Tryz.f66) [1,1,1,1,0,1,0,0]) (e := .exit 0) (fun i (a:Bool × Int)=>dQ dl sk dc bib q a.2 a.1 i) (fun a=>dQ dl sk dc bib q a.2 a.1 dc.length) (pG dl q dc bib) (fun i a => -1-36000*(i:Int)≤a.2∧a.2≤360000+43200000*(i:Int)) (by simp) dc (a0:=(s1 == -1,s1)) (by dsimp only;omega)
  (fun i x a hx ha=>bUq hd hx ha)
  (fun a _=>aUe (by rw [hll];omega))
 have e0:(s1 == -1)=decide (s1<(0:Int)):=by
  rw [Bool.eq_iff_iff,beq_iff_eq,decide_eq_true_eq];omega
 dsimp only at this
 rw [e0] at this
 unfold cI;unfold aGy;rw [e0];have Cl:sk[((j:Int)).toNat]? = some [s0,s1]:=by simpa using hs
 cases h:(dc.foldl (pG dl q dc bib) (decide (s1<(0:Int)),s1)).1 with
 | true =>
  rw [h] at this
  simp only [if_true];exact cBf hd hq us hl hz Cl (by omega) this rfl
 | false =>
  rw [h] at this
  simp only [Bool.false_eq_true,if_false];exact cBg hd hq us hl hz Cl (by omega) this rfl (by split <;> omega)
theorem bOy(a:Lqq)(ha:uni 3 a)(hl:a.length≤1000){base:Nat}:FV Tp 43 [.p (.sl a.length (a.flatten.map aA))] base (.p (.sl a.length (a.flatten.map aA))) []:=by
 have:=aE.range (P:=Tp) (k:=0) (b:=sub (cd Tryz.f43) [1,1,0,1,0,0]) (e := .exit 0) (fun i (o:Lqq)=>tI a o.length (o.flatten.map aA) i) (fun o=>tI a o.length (o.flatten.map aA) a.length) (fun o x=>o++[x]) (fun i o=>o.length=i) (by simp) a (a0:=[]) rfl
  (fun i x o hx ho=>by
   have hi:=aO hx;obtain ⟨x0,x1,x2,rfl⟩:=Da (ha x (Bi hx));exact ⟨by simp [ho],bEg (by omega) hx ha ⟨rfl,by omega⟩ (aH (by omega)) (by simp) (by simp) rfl⟩)
  (fun o _=>bEh (by omega))
 have e:∀ (l o:Lqq),l.foldl (fun o x=>o++[x]) o=o++l:=by
  intro l
  induction l with
  | nil=>intro o;simp
  | cons x l ih=>intro o;rw [lE,ih];simp
 rw [e,List.nil_append] at this
 exact cBh this
end
end
section
variable {g h s h' s' Ih Ii:Bool}{b p x y z p' bib Sl Sm Sn M4 Iv M5 Aa Ab Ac:Int}{a l u Bt:Lqq}{o op:List Int}{i k i' Bm base Lz:Nat}

noncomputable abbrev wP:Code:=sub (cd Tryz.f102) [1,0,1,0,0]
noncomputable abbrev wQ:Code:=sub (cd Tryz.f40) [1,1,1,0,1,0,0,1,0,0,1,0,1,0,0]
noncomputable abbrev aLf:Code:=sub (cd Tryz.f40) [1,1,1,0,1,0,0]
noncomputable abbrev aTv:Code:=sub (cd Tryz.f38) [1,1,0,1,0,0]
noncomputable abbrev aTw:Code:=sub (cd Tryz.f38) [1,1,0,1,0,0,1,0,0,1,1,0,0]
def oiE(x:List Int):List PV:=[aG x]
def reE(x:Lqq):List PV:=[.sl x.length (x.flatten.map aA)]
def kV(l:Lqq)(b:Int)(i:Nat)(x:Int)(y:Int)(z:Int):St:=⟨fr 24 [(0,(.p (fS l))),(1,(pI b)),(4,(.ptr 0 0)),(5,(pI (i:Int)))],[some (.box 76 [(pI x),(pI y),(pI z)])]⟩
theorem cAz(hl0:aE Tp 0 wP (kV l b 0 0 0 0) (.exit 0) (kV l b Bm Sl Sm Sn)):FV Tp 102 [(.p (fS l)),(pI b)] base (.p (.agg [(aA 0),(aA 0),(aA 0)])) []:=FV.fi func102 [hl0.k 6 (gI [2,2,6,17] [0])] (gc hl0.code gn)
theorem cBa(hl0:aE Tp 0 wP (kV l b 0 0 0 0) .ret (kV l b Bm Sl Sm Sn)):FV Tp 102 [(.p (fS l)),(pI b)] base (.p (.agg [(aA Sl),(aA Sm),(aA Sn)])) []:=FV.fi func102 [hl0.k 6 (gI [2,2,6,17] [0])] (gc hl0.code gn)
theorem bDm(h0:(i:Int)<(l.length:Int))(h1:l[i]? = some [Aa,Ab,Ac])(h2:uni 3 l)(h3:Aa=b):aC Tp 0 wP (kV l b i x y z) .ret (kV l b i Aa Ab Ac):=aC.fi (gI [2,2,6,17] [0]) [bT,.x (aA Aa),bT,.x (.agg [(aA Aa),(aA Ab),(aA Ac)])] (gfl h2 h1 (gc (cH h3) (gt ((l.flatten.map aA)[(i*3)]? = some (aA Aa)) (bE (i:=i) (f:=0) h2 h1 rfl) (gc (gD (k:=3) (i:=(i:Int)) (by decide) h2 (Br _) h1) (gc (aI h0) gn)))))
theorem bDn(h0:(i:Int)<(l.length:Int))(h1:l[i]? = some [Aa,Ab,Ac])(h2:uni 3 l)(h3:Aa≠b)(h4:inR (((i+1):Nat):Int))(Ai:i'=(i+1)):aC Tp 0 wP (kV l b i x y z) .normal (kV l b i' x y z):=by
 subst Ai;exact aC.fi (gI [2,2,6,17] [0]) [bT,.x (aA Aa),bF] (gc h4 (gc (aU h3) (gt ((l.flatten.map aA)[(i*3)]? = some (aA Aa)) (bE (i:=i) (f:=0) h2 h1 rfl) (gc (gD (k:=3) (i:=(i:Int)) (by decide) h2 (Br _) h1) (gc (aI h0) gn)))))
theorem bDo(h0:(l.length:Int)≤(i:Int)):aC Tp 0 wP (kV l b i x y z) (.exit 0) (kV l b i x y z):=aC.fi (gI [2,2,6,17] [0]) [bF] (gc (aN h0) gn)
def tG(a:Lqq)(b:Lqq)(i:Nat):St:=⟨fr 26 [(0,(.p (fS a))),(1,(.p (fS b))),(12,(pI (a.length:Int))),(13,(pI (i:Int)))],[]⟩
theorem cBb{b:Lqq}(h0:(a.length:Int)=(b.length:Int))(A2:aE Tp 0 (sub (cd Tryz.f42) [1,1,0,1,0,0]) (tG a b 0) (.exit 0) (tG a b Bm)):FV Tp 42 [(.p (fS a)),(.p (fS b))] base (pB true) []:=FV.fi func42 [bF,A2.k 4 (gZ [2,10,14,12])] (gc A2.code (gc (bL h0) gn))
theorem bDp{b:Lqq}{Ad Ae Af:Int}(h0:(i:Int)<(a.length:Int))(h1:a[i]? = some [Aa,Ab,Ac])(h2:uni 3 a)(h3:b[i]? = some [Ad,Ae,Af])(h4:uni 3 b)(h5:cV [(aA Aa),(aA Ab),(aA Ac)] [(0,3,true),(1,3,true),(2,3,true)]=true∧cV [(aA Ad),(aA Ae),(aA Af)] [(0,3,true),(1,3,true),(2,3,true)]=true)(h6:(jW [(aA Aa),(aA Ab),(aA Ac)] [(aA Ad),(aA Ae),(aA Af)] [(0,3,true),(1,3,true),(2,3,true)])=true)(h7:inR (((i+1):Nat):Int))(Ai:i'=(i+1)):aC Tp 0 (sub (cd Tryz.f42) [1,1,0,1,0,0]) (tG a b i) .normal (tG a b i'):=by
 subst Ai;exact aC.fi (gZ [2,10,14,12]) [bT,.x (.agg [(aA Aa),(aA Ab),(aA Ac)]),.x (.agg [(aA Ad),(aA Ae),(aA Af)]),bF] (gc h7 (gc (aV h6) (gc h5 (gfl h4 h3 (gfl h2 h1 (gc (aI h0) gn))))))
theorem bDq{b:Lqq}(h0:(a.length:Int)≤(i:Int)):aC Tp 0 (sub (cd Tryz.f42) [1,1,0,1,0,0]) (tG a b i) (.exit 0) (tG a b i):=aC.fi (gZ [2,10,14,12]) [bF] (gc (aN h0) gn)
theorem aLg{a b c:Int}(L:Lqq)(bib:Int)(hu:uni 3 L)(hl:L.length≤1000)(e:vV L bib=[a,b,c]){base:Nat}:FV Tp 102 [.p (fS L),.p (aA bib)] base (.p (.agg [aA a,aA b,aA c])) []:=by
 have key:∀ (d i:Nat),i+d=L.length→(L.drop i).find? (fun y=>decide (y.getD 0 0=bib))=L.find? (fun y=>decide (y.getD 0 0=bib)) →
   (∃ i' y0 y1 y2,L.find? (fun y=>decide (y.getD 0 0=bib))=some [y0,y1,y2]∧aE Tp 0 wP (kV L bib i 0 0 0) .ret (kV L bib i' y0 y1 y2)) ∨
   (∃ i',L.find? (fun y=>decide (y.getD 0 0=bib))=none∧aE Tp 0 wP (kV L bib i 0 0 0) (.exit 0) (kV L bib i' 0 0 0)):=by
  intro d
  induction d with
  | zero =>
   intro i hi hf;refine .inr ⟨i,?_,.exit (bDo (by omega)) (by simp)⟩
   rw [← hf,List.drop_eq_nil_of_le (by omega)];rfl
  | succ d ih =>
   intro i hi hf;have hlt:i<L.length:=by omega
   obtain ⟨y0,y1,y2,hy⟩:=Da (hu _ (fL hlt));have hx:L[i]? = some [y0,y1,y2]:=by rw [Av hlt,hy]
   have hd:L.drop i=[y0,y1,y2]::L.drop (i+1):=by rw [aKx hlt,hy]
   rw [hd,List.find?_cons] at hf
   by_cases hb:y0=bib
   ·rw [show decide (([y0,y1,y2]:List Int).getD 0 0=bib)=true from decide_eq_true hb] at hf
    exact .inl ⟨i,y0,y1,y2,hf.symm,.exit (bDm (by omega) hx hu hb) (by simp)⟩
   ·rw [show decide (([y0,y1,y2]:List Int).getD 0 0=bib)=false from decide_eq_false hb] at hf
    have hst:=bDn (l:=L) (b:=bib) (i:=i) (i':=i+1) (x:=0) (y:=0) (z:=0) (by omega) hx hu hb (aH (by omega)) rfl
    rcases ih (i+1) (by omega) hf with ⟨i',z0,z1,z2,q1,q2⟩ | ⟨i',q1,q2⟩
    ·exact .inl ⟨i',z0,z1,z2,q1,.step hst q2⟩
    ·exact .inr ⟨i',q1,.step hst q2⟩
 unfold vV at e
 rcases key L.length 0 (by omega) (by simp) with ⟨i',y0,y1,y2,q1,q2⟩ | ⟨i',q1,q2⟩
 ·rw [q1] at e
  obtain ⟨rfl,rfl,rfl⟩:y0=a∧y1=b∧y2=c:=by simpa using e
  exact cBa q2
 ·rw [q1] at e
  obtain ⟨rfl,rfl,rfl⟩:(0:Int)=a∧(0:Int)=b∧(0:Int)=c:=by simpa using e
  exact cAz q2

def oZ(rs:List (Lqq))(bib:Int)(on:Nat)(oc:List PV)(g:Bool)(p:Int):St:=⟨fr 51 [(0,(.p (.sl rs.length ((rs.map reE).flatten)))),(1,(pI bib)),(4,(.p bX)),(5,(.kb false)),(6,(.own 0)),(7,(pB g)),(8,(pI p))],[some (.row 3 on oc)]⟩
theorem cBc{rs:List (Lqq)}{D6:List Int}{U0:Bool}{V4:Int}(hl0:aE Tp 0 aLf (oZ rs bib 0 [] false 1) (.exit 0) (oZ rs bib D6.length (D6.map aA) U0 V4)):FV Tp 40 [(.p (.sl rs.length ((rs.map reE).flatten))),(pI bib)] base (.tup [(.p (aG D6)),(pB U0)]) []:=FV.frz (FMM.fi 0 ⟨[],[],[0],[]⟩ func40 [hl0.k 10 (gN [2,2,9,42] [0] [(6,3),(7,0)])] (gc hl0.code gn)) (by kernel_rfl)
def gW(rs:List (Lqq))(bib:Int)(o:List Int)(p:Int)(s:Bool)(h:Bool)(i:Nat):St:=⟨fr 51 [(0,(.p (.sl rs.length ((rs.map reE).flatten)))),(1,(pI bib)),(4,(.p bX)),(5,(.kb false)),(6,(.own 0)),(7,(pB h)),(8,(pI p)),(9,(pB s)),(10,(pI (i:Int)))],[some (.row 3 o.length (o.map aA))]⟩
theorem bDr{rs:List (Lqq)}{o':List Int}(h0:p≤30)(A2:aE Tp 0 wQ (gW rs bib o p false g 0) (.exit 2) (gW rs bib o p Ii Ih Lz))(h2:Ii=true)(h3:[(aA p)].length=1*1∧o.length+1≤1000000)(h4:inR (p+1))(B1:o'.length=(o.length+1))(B2:o'.map aA=((o.map aA)++[(aA p)]))(O7:p'=(p+1)):aC Tp 0 aLf (oZ rs bib o.length (o.map aA) g p) .normal (oZ rs bib o'.length (o'.map aA) Ih p'):=by
 subst O7;rw [B1,B2];exact aC.fi (gI [2,2,9,42] [2]) [bT,A2.k 8 (gN [2,2,11,40] [0] [(9,0)]),bT] (gc h4 (gc h3 (gc h2 (gc A2.code (gc (mA h0) gn)))))
theorem bDs{rs:List (Lqq)}(h0:p≤30)(A2:aE Tp 0 wQ (gW rs bib o p false g 0) (.exit 2) (gW rs bib o p Ii Ih Lz))(h2:Ii=false)(h3:inR (p+1))(O7:p'=(p+1)):aC Tp 0 aLf (oZ rs bib o.length (o.map aA) g p) .normal (oZ rs bib o.length (o.map aA) Ih p'):=by
 subst O7;exact aC.fi (gI [2,2,9,42] [0]) [bT,A2.k 8 (gN [2,2,11,40] [0] [(9,0)]),bF] (gc h3 (gc h2 (gc A2.code (gc (mA h0) gn))))
theorem bDt{rs:List (Lqq)}(h0:(30:Int)<p):aC Tp 0 aLf (oZ rs bib o.length (o.map aA) g p) (.exit 0) (oZ rs bib o.length (o.map aA) g p):=aC.fi (gI [2,2,9,42] [0]) [bF] (gc (jG h0) gn)
theorem bDu{rs:List (Lqq)}(h0:(i:Int)<(rs.length:Int))(h1:s=true)(h2:h=true)(h3:inR (((i+1):Nat):Int))(Ai:i'=(i+1)):aC Tp 0 wQ (gW rs bib o p s h i) .normal (gW rs bib o p true true i'):=by
 subst Ai;exact aC.fi (gN [2,2,11,40] [0] [(9,0),(7,0)]) (rT 20) (gc h3 (Eu h2 (gc h2 (Eu h1 (Az h1 (gc (aI h0) gn))))))
theorem bDv{rs:List (Lqq)}(h0:(i:Int)<(rs.length:Int))(h1:s=true)(h2:h=false)(h3:rs[i]? = some (Bt))(h4:uni 3 Bt)(h5:Bt.length≤1000)(h6:vV Bt bib=[M4,Iv,M5])(h7:inR (((i+1):Nat):Int))(Sq:h'=(decide (Iv<0)))(Ai:i'=(i+1)):aC Tp 0 wQ (gW rs bib o p s h i) .normal (gW rs bib o p true h' i'):=by
 subst Sq Ai;have k1:=fk 1 (aLg Bt bib h4 h5 h6) rfl;exact aC.fi (gN [2,2,11,40] [0] [(9,0)]) (rT 11++[bF,bF,bF,bF,.x (fS Bt),bF,bF,k1.o,bF,bF,bF]) (gc h7 (Ak h2 (gc k1 (Az h2 (gt (((rs.map reE).flatten)[(i*1)]? = some (fS Bt)) (bI (E:=reE) (i:=i) (f:=0) (k:=1) (fun _=>rfl) h3 rfl) (gc h2 (gc (lP (E:=reE) (k:=1) (i:=(i:Int)) (fun _=>rfl) (by decide) (Br _) h3) (Ak h2 (Eu h1 (Az h1 (gc (aI h0) gn)))))))))))
theorem bDw{rs:List (Lqq)}(h0:(i:Int)<(rs.length:Int))(h1:s=false)(h2:rs[i]? = some (Bt))(h3:uni 3 Bt)(h4:Bt.length≤1000)(h5:vV Bt bib=[M4,Iv,M5])(h6:h=true)(h7:inR (((i+1):Nat):Int))(Cp:s'=(Iv == p))(Ai:i'=(i+1)):aC Tp 0 wQ (gW rs bib o p s h i) .normal (gW rs bib o p s' true i'):=by
 subst Cp Ai;have k1:=fk 1 (aLg Bt bib h3 h4 h5) rfl;exact aC.fi (gN [2,2,11,40] [0] [(7,0)]) ([bT,bF,bF,bF,bF,.x (fS Bt),bF,bF,k1.o,bF,bF,bF,bF]++rT 9) (gc h7 (Eu h6 (gc h6 (Aw h1 (gc k1 (Az h1 (gt (((rs.map reE).flatten)[(i*1)]? = some (fS Bt)) (bI (E:=reE) (i:=i) (f:=0) (k:=1) (fun _=>rfl) h2 rfl) (gc h1 (gc (lP (E:=reE) (k:=1) (i:=(i:Int)) (fun _=>rfl) (by decide) (Br _) h2) (Ak h1 (gc (aI h0) gn)))))))))))
theorem bDx{rs:List (Lqq)}{Sr O8 Ss:Int}(h0:(i:Int)<(rs.length:Int))(h1:s=false)(h2:rs[i]? = some (Bt))(h3:uni 3 Bt)(h4:Bt.length≤1000)(h5:vV Bt bib=[M4,Iv,M5])(h6:h=false)(h7:vV Bt bib=[Sr,O8,Ss])(h8:inR (((i+1):Nat):Int))(Cp:s'=(Iv == p))(Sq:h'=(decide (O8<0)))(Ai:i'=(i+1)):aC Tp 0 wQ (gW rs bib o p s h i) .normal (gW rs bib o p s' h' i'):=by
 subst Cp Sq Ai;have k1:=fk 1 (aLg Bt bib h3 h4 h5) rfl;have k2:=fk 1 (aLg Bt bib h3 h4 h7) rfl;exact aC.fi (gI [2,2,11,40] [0]) ([bT,bF,bF,bF,bF,.x (fS Bt),bF,bF,k1.o]++rF 8++[.x (fS Bt),bF,bF,k2.o,bF,bF,bF]) (gc h8 (Ak h6 (gc k2 (Az h6 (gt (((rs.map reE).flatten)[(i*1)]? = some (fS Bt)) (bI (E:=reE) (i:=i) (f:=0) (k:=1) (fun _=>rfl) h2 rfl) (gc h6 (gc (lP (E:=reE) (k:=1) (i:=(i:Int)) (fun _=>rfl) (by decide) (Br _) h2) (Ak h6 (Aw h1 (gc k1 (Az h1 (gt (((rs.map reE).flatten)[(i*1)]? = some (fS Bt)) (bI (E:=reE) (i:=i) (f:=0) (k:=1) (fun _=>rfl) h2 rfl) (gc h1 (gc (lP (E:=reE) (k:=1) (i:=(i:Int)) (fun _=>rfl) (by decide) (Br _) h2) (Ak h1 (gc (aI h0) gn))))))))))))))))
theorem bDy{rs:List (Lqq)}(h0:(rs.length:Int)≤(i:Int)):aC Tp 0 wQ (gW rs bib o p s h i) (.exit 2) (gW rs bib o p s h i):=aC.fi (gI [2,2,11,40] [0]) [bF] (gc (aN h0) gn)
def tH(op:List Int)(on:Nat)(oc:List PV)(i:Nat):St:=⟨fr 37 [(0,(.p (aG op))),(2,(.p bX)),(3,(.own 0)),(4,(pI (i:Int)))],[some (.row 33 on oc)]⟩
theorem cBd{D6:Lqq}{Ev:Nat}(hl0:aE Tp 0 aTv (tH op 1 [bX] 0) (.exit 0) (tH op D6.length ((D6.map oiE).flatten) Ev)):FV Tp 38 [(.p (aG op))] base (.p (.sl D6.length ((D6.map oiE).flatten))) []:=FV.frz (FMM.fi 0 ⟨[],[],[0],[]⟩ func38 [hl0.k 8 (gI [1,1,5,32] [0])] (gc hl0.code gn)) (by kernel_rfl)
def pA(op:List Int)(o:Lqq)(i:Nat)(un:Nat)(uc:List PV)(k:Nat):St:=⟨fr 37 [(0,(.p (aG op))),(2,(.p bX)),(3,(.own 0)),(4,(pI (i:Int))),(5,(pI (o.length:Int))),(6,(pI (k:Int)))],[some (.row 33 un uc)]⟩
theorem bDz{o:Lqq}{Ij:Lqq}{O9:Nat}{o':Lqq}(h0:(i:Int)<(op.length:Int))(A2:aE Tp 0 aTw (pA op o i o.length ((o.map oiE).flatten) 0) (.exit 2) (pA op o i Ij.length ((Ij.map oiE).flatten) O9))(h2:inR (((i+1):Nat):Int))(B1:o'.length=Ij.length)(B2:(o'.map oiE).flatten=((Ij.map oiE).flatten))(Ai:i'=(i+1)):aC Tp 0 aTv (tH op o.length ((o.map oiE).flatten) i) .normal (tH op o'.length ((o'.map oiE).flatten) i'):=by
 subst Ai;rw [B1,B2];exact aC.fi (gI [1,1,5,32] [0]) [bT,A2.k 7 (gI [1,1,7,30] [0])] (gc h2 (gc A2.code (gc (aI h0) gn)))
theorem bEa{o:Lqq}(h0:(op.length:Int)≤(i:Int)):aC Tp 0 aTv (tH op o.length ((o.map oiE).flatten) i) (.exit 0) (tH op o.length ((o.map oiE).flatten) i):=aC.fi (gI [1,1,5,32] [0]) [bF] (gc (aN h0) gn)
theorem bEb{o:Lqq}{Bt:List Int}{Jt:Int}{u':Lqq}{k':Nat}(h0:(k:Int)<(o.length:Int))(h1:0≤(k:Int)∧(k:Int)<(u.length:Int))(h2:u[k]? = some (Bt))(h3:(Bt.map aA).length=Bt.length*1∧0+Bt.length≤1000000)(h4:op[i]? = some Jt)(h5:[(aA Jt)].length=1*1∧(0+Bt.length)+1≤1000000)(h6:[(PV.sl ((0+Bt.length)+1) ((Bt.map aA)++[(aA Jt)]))].length=1*1∧u.length+1≤1000000)(h7:inR (((k+1):Nat):Int))(Su:u'.length=(u.length+1))(Sv:(u'.map oiE).flatten=(((u.map oiE).flatten)++[(PV.sl ((0+Bt.length)+1) ((Bt.map aA)++[(aA Jt)]))]))(Eb:k'=(k+1)):aC Tp 0 aTw (pA op o i u.length ((u.map oiE).flatten) k) .normal (pA op o i u'.length ((u'.map oiE).flatten) k'):=by
 subst Eb;rw [Su,Sv];exact aC.fi (gI [1,1,7,30] [6]) [bT,.x (aG Bt),.x (aA Jt)] (gc h7 (gc h6 (gc h5 (gc (atm aA h4) (gc (ixn aA h4) (gc h3 (gt (((u.map oiE).flatten)[(k*1)]? = some (aG Bt)) (bI (E:=oiE) (i:=k) (f:=0) (k:=1) (fun _=>rfl) h2 rfl) (gc h1 (gc (aI h0) gn)))))))))
theorem bEc{o:Lqq}(h0:(o.length:Int)≤(k:Int)):aC Tp 0 aTw (pA op o i u.length ((u.map oiE).flatten) k) (.exit 2) (pA op o i u.length ((u.map oiE).flatten) k):=aC.fi (gI [1,1,7,30] [0]) [bF] (gc (aN h0) gn)
end
section
section
variable {P:Program} {C C0:Cx} {M M0:Mem} {w w0:World}
theorem bOw(hM:aT P C M w){id ty n:Nat}{cs Bp:List PV}(hb:M[id]? = some (some (.row ty n cs)))(hl:Bp.length=cs.length)
  (hx:∀ j (h:j<Bp.length) u,cM C.F w (cs[j]'(by omega)) u→cM C.F w Bp[j] u):aT P C (bA M id (some (.row ty n Bp))) w∧Fr C M w C (bA M id (some (.row ty n Bp))) w:=by
 have hold:∀ (i:Nat) (o:AO),i≠id→(bA M id (some (.row ty n Bp)))[i]? = some (some o)→M[i]? = some (some o):=fun i o h=>(aS M id i _ o (fun e=>h e.symm)).1
 have hnew:∀ (o:AO),(bA M id (some (.row ty n Bp)))[id]? = some (some o)→o = .row ty n Bp:=fun o h=>by rw [aZ] at h;cases h;rfl
 have hliv:∀ (i:Nat) (o:AO),(bA M id (some (.row ty n Bp)))[i]? = some (some o)→o.live=true→∃ o1,M[i]? = some (some o1)∧o1.live=true:=fun i o h hl=>by
  by_cases e:i=id
  ·subst e;exact ⟨_,hb,rfl⟩
  ·exact ⟨o,hold i o e h,hl⟩
 have f:Fr C M w C (bA M id (some (.row ty n Bp))) w:=by
  refine ⟨rfl,rfl,rfl,dG _,fun _ _ _=>rfl,fun i o h=>⟨?_,rfl,rfl⟩,fun i o h Uz n2 Mr hm => ?_,fun i o h o' h' hl => ?_,fun i o b h hl hbb => ?_,fun b h=>h,fun b h => .inl h⟩
  ·by_cases e:i=id
   ·subst e;exact ⟨_,aZ ..⟩
   ·exact ⟨o,(aS M id i _ o (fun e'=>e e'.symm)).2 h⟩
  ·by_cases e:i=id
   ·subst e
    have:=hnew _ hm;cases this;exact ⟨cs,hb⟩
   ·exact ⟨Mr,hold i _ e hm⟩
  ·obtain ⟨o1,q1,q2⟩:=hliv i o' h' hl
   rw [h] at q1;cases q1;exact q2
  ·obtain ⟨o1,q1,q2⟩:=hliv i o h hl
   exact .inr ⟨i,o1,q1,q2,hbb⟩
 have hL:=hM.le f;refine ⟨⟨fun i Uz n2 Mr hm => ?_,fun i Uz Mr hm => ?_,fun i es cl hm => ?_,fun i i' o1 o2 b hm hl Dr D3 h1 h2 => ?_,fun i o b hm hl hbb => ?_,hM.Fs,fun i o b hm hl hbb => ?_⟩,f⟩
 ·by_cases e:i=id
  ·subst e
   have:=hnew _ hm;cases this
   rcases hM.row _ _ _ _ hb with ⟨h1,h2,h3⟩ | ⟨b,arr,i2,q0,q1,q2,q3,q4,q5,q6,q7,q8⟩
   ·refine .inl ⟨h1,h2,aBu (by rw [hl,h3];rfl)⟩
   ·exact .inr ⟨b,arr,i2,q0,q1,q2,q3,by rw [hl];exact q4,q5,q6,fun j hj=>hx j hj _ (q7 j (by omega)),fun j hj=>q8 j (by omega)⟩
  ·exact hM.row _ _ _ _ (hold i _ e hm)
 ·by_cases e:i=id
  ·subst e;cases hnew _ hm
  ·obtain ⟨b,arr,q0,q1,q2,q3,q4⟩:=hM.box _ _ _ (hold i _ e hm)
   exact ⟨b,arr,q0,q1,q2,fun j hj=>(q3 j hj).mono hL,q4⟩
 ·by_cases e:i=id
  ·subst e;cases hnew _ hm
  ·exact hM.mp _ _ _ (hold i _ e hm)
 ·obtain ⟨x1,y1,z1⟩:=hliv i o1 hm hl
  obtain ⟨x2,y2,z2⟩:=hliv i' o2 Dr D3;exact hM.inj _ _ _ _ _ y1 z1 y2 z2 h1 h2
 ·obtain ⟨x1,y1,z1⟩:=hliv i o hm hl
  exact hM.nF _ _ _ y1 z1 hbb
 ·obtain ⟨x1,y1,z1⟩:=hliv i o hm hl
  exact hM.lt _ _ _ y1 z1 hbb
theorem bUn{t:List AV}{m:Mem}{id ty n:Nat}{cs Bp:List PV}{a:Act}(hb:m[id]? = some (some (.row ty n cs)))(hl:Bp.length=cs.length)
  (hx:∀ (F:Nat→Prop) j (h:j<Bp.length) u,cM F w (cs[j]'(by omega)) u→cM F w Bp[j] u) (hs:Sim P C0 M0 w0 ⟨t,m⟩ a w):Sim P C0 M0 w0 ⟨t,bA m id (some (.row ty n Bp))⟩ a w:=by
 obtain ⟨C,hS,hM,hF,hD⟩:=hs;obtain ⟨Ie,f2⟩:=bOw hM hb hl (fun j h u=>hx C.F j h u)
 exact ⟨C,hS.le (hM.le f2),Ie,hF.trans f2,hD.fr hM (gF rfl) f2⟩
theorem aE.sim{k:Nat}{b:Code}{st st1 Am:St}{e:Ex}(h:aE P k b st1 e Am)(hp:∀ (C0:Cx) (M0:Mem) (w0:World) (a:Act) (w:World),Sim P C0 M0 w0 st a w→Sim P C0 M0 w0 st1 a w):aE P k b st e Am:=fun C0 M0 w0 a w hk hs=>h C0 M0 w0 a w hk (hp _ _ _ _ _ hs)
end
theorem aPt{F:Nat→Prop}{w:World}:cM F w (aG []) (.slice none 0 0) := .sl 0 [] none 0 (fun _=>undef) (dG _) (Nat.zero_le _) (fun i h=>by simp at h) (fun i h=>by simp at h) (fun i h=>by simp at h)
abbrev plB(r:Lqq)(bib:Int):Int:=(vV r bib).getD 1 0
def plR(rs:List (Lqq))(bib:Int):List Int:=((List.range 30).map fun (i:Nat)=>(i:Int)+1).filter fun p=>rs.any fun r=>plB r bib == p
def gnR(rs:List (Lqq))(bib:Int):Bool:=rs.any fun r=>decide (plB r bib<0)
section
variable {rs:List (Lqq)} {bib:Int}
theorem bUo{r:Lqq}(hu:uni 3 r)(bib:Int):∃ a b c,vV r bib=[a,b,c]:=by
 unfold vV;cases h:r.find? (fun y=>decide (y.getD 0 0=bib)) with
 | none=>exact ⟨0,0,0,rfl⟩
 | some y =>
  obtain ⟨a,b,c,rfl⟩:=Da (hu y (sH h));exact ⟨a,b,c,rfl⟩
theorem cAw(hr:∀ r∈rs,uni 3 r∧r.length≤1000)(hl:rs.length≤1000)(o:List Int)(p:Int)(h:Bool) :
  aE Tp 0 (sub (cd Tryz.f40) [1,1,1,0,1,0,0,1,0,0,1,0,1,0,0]) (gW rs bib o p false h 0) (.exit 2) (gW rs bib o p (rs.any fun r=>plB r bib == p) (h || gnR rs bib) rs.length):=by
 have:=aE.range (P:=Tp) (k:=0) (b:=sub (cd Tryz.f40) [1,1,1,0,1,0,0,1,0,0,1,0,1,0,0]) (e := .exit 2) (fun i (a:Bool × Bool)=>gW rs bib o p a.1 a.2 i) (fun a=>gW rs bib o p a.1 a.2 rs.length) (fun (a:Bool × Bool) r=>(a.1 || plB r bib == p,a.2 || decide (plB r bib<0))) (fun _ _=>True) (by simp) rs (a0:=(false,h)) trivial
  (fun i r a hx _=>by
   have hi:=aO hx;obtain ⟨u3,l3⟩:=hr r (Bi hx);obtain ⟨x,y,z,e⟩:=bUo u3 bib;have ep:plB r bib=y:=by unfold plB;rw [e];rfl
   obtain ⟨s,g⟩:=a;refine ⟨trivial,?_⟩;dsimp only;rw [ep];cases s with
   | true=>cases g with
    | true=>exact bDu (by omega) rfl rfl (aH (by omega)) rfl
    | false=>exact bDv (by omega) rfl rfl hx u3 l3 e (aH (by omega)) (Bool.false_or _) rfl
   | false=>cases g with
    | true=>exact bDw (by omega) rfl hx u3 l3 e rfl (aH (by omega)) (Bool.false_or _) rfl
    | false=>exact bDx (by omega) rfl hx u3 l3 e rfl e (aH (by omega)) (Bool.false_or _) (Bool.false_or _) rfl)
  (fun a _=>bDy (by omega))
 have ef:∀ (l:List (Lqq)) (a:Bool × Bool),l.foldl (fun (a:Bool × Bool) r=>(a.1 || plB r bib == p,a.2 || decide (plB r bib<0))) a=(a.1 || l.any (fun r=>plB r bib == p),a.2 || gnR l bib):=by
  intro l
  induction l with
  | nil=>intro a;simp [gnR]
  | cons r l ih =>
   intro a;rw [lE,ih];unfold gnR;simp [Bool.or_assoc]
 rw [ef] at this
 simpa using this
theorem cAx(hr:∀ r∈rs,uni 3 r∧r.length≤1000)(hl:rs.length≤1000){base:Nat}:FV Tp 40 [.p (.sl rs.length ((rs.map reE).flatten)),.p (aA bib)] base (.tup [.p (aG (plR rs bib)),.p (blP (gnR rs bib))]) []:=by
 have:=aE.times (P:=Tp) (k:=0) (b:=sub (cd Tryz.f40) [1,1,1,0,1,0,0]) (e := .exit 0) (fun i (a:List Int × Bool)=>oZ rs bib a.1.length (a.1.map aA) a.2 ((i:Int)+1)) (fun a=>oZ rs bib a.1.length (a.1.map aA) a.2 31) (fun (a:List Int × Bool) i=>(if rs.any (fun r=>plB r bib == (i:Int)+1) then a.1++[(i:Int)+1] else a.1,a.2 || gnR rs bib)) (fun i a=>a.1.length≤i) (by simp) 30 (a0:=([],false)) (by simp)
  (fun i a hi ha=>by
   have hL:=cAw (bib:=bib) hr hl a.1 ((i:Int)+1) a.2;obtain ⟨o,g⟩:=a;dsimp only at hL ha ⊢
   cases hs:rs.any (fun r=>plB r bib == (i:Int)+1) with
   | true =>
    rw [hs] at hL
    exact ⟨by simp;omega,bDr (by omega) hL rfl ⟨rfl,by omega⟩ (by unfold inR;omega) (by simp) (by simp) (by omega)⟩
   | false =>
    rw [hs] at hL
    exact ⟨by simp;omega,bDs (by omega) hL rfl (by unfold inR;omega) (by omega)⟩)
  (fun a _=>bDt (by omega))
 have ef:∀ (l:List Nat) (a:List Int × Bool),l.foldl (fun (a:List Int × Bool) (i:Nat)=>(if rs.any (fun r=>plB r bib == (i:Int)+1) then a.1++[(i:Int)+1] else a.1,a.2 || gnR rs bib)) a=(a.1++(l.map fun (i:Nat)=>(i:Int)+1).filter (fun p=>rs.any fun r=>plB r bib == p),if l=[] then a.2 else a.2 || gnR rs bib):=by
  intro l
  induction l with
  | nil=>intro a;simp
  | cons i l ih =>
   intro a;rw [lE,ih,fZ,List.filter_cons];cases hs:rs.any (fun r=>plB r bib == (i:Int)+1) with
   | true=>cases l <;> simp
   | false=>cases l <;> simp
 rw [ef] at this
 have e0:(((0:Nat):Int)+1)=1:=rfl;simp only [e0] at this
 have e1:(if List.range 30=[] then false else false || gnR rs bib)=gnR rs bib:=by
  rw [if_neg (by decide),Bool.false_or]
 rw [e1] at this
 exact cBc this
end
def fV(op:List Int):Lqq:=op.foldl (fun o x=>o++o.map (· ++ [x])) [[]]
section
variable {op:List Int}
theorem cAy{i:Nat}{x:Int}(hx:op[i]? = some x){o:Lqq}(ho:o.length≤100000)(hm:∀ l∈o,l.length≤1000) :
  aE Tp 0 (sub (cd Tryz.f38) [1,1,0,1,0,0,1,0,0,1,1,0,0]) (pA op o i o.length ((o.map oiE).flatten) 0) (.exit 2) (pA op o i (o++o.map (· ++ [x])).length (((o++o.map (· ++ [x])).map oiE).flatten) o.length):=by
 obtain ⟨L,hL,h⟩:=aE.ex (P:=Tp) (k:=0) (b:=sub (cd Tryz.f38) [1,1,0,1,0,0,1,0,0,1,1,0,0]) (e := .exit 2) (fun k (L:Lqq)=>pA op o i L.length ((L.map oiE).flatten) k) (fun L=>pA op o i L.length ((L.map oiE).flatten) o.length) (fun k L=>L=o++(o.take k).map (· ++ [x])) (by simp) o.length
  (fun k L hk hL=>by
   have hg:o[k]? = some o[k]:=Av hk;have hc:L[k]? = some o[k]:=by rw [hL,zL hk];exact hg
   have hLl:L.length=o.length+k:=by rw [hL];simp;omega
   have hcl:=hm _ (fL hk);refine ⟨L++[o[k]++[x]],?_,?_⟩
   ·rw [hL,List.take_add_one,hg,fM,List.append_assoc]
    rfl
   ·refine bEb (u':=L++[o[k]++[x]]) (Bt:=o[k]) (by omega) ⟨by omega,by omega⟩ hc ⟨by simp,by omega⟩ hx ⟨rfl,by omega⟩ ⟨rfl,by omega⟩ (aH (by omega)) (by simp) ?_ rfl
    rw [fM,aPn]
    congr 1
    show [aG (o[k]++[x])]++[]=_;simp [aG])
  (fun L hL=>bEc (by omega)) (acc:=o) (by simp)
 rw [List.take_length] at hL
 rw [hL] at h
 exact h
theorem bOx(hl:op.length≤8){base:Nat}:FV Tp 38 [.p (aG op)] base (.p (.sl (fV op).length (((fV op).map oiE).flatten))) []:=by
 have:=aE.range (P:=Tp) (k:=0) (b:=sub (cd Tryz.f38) [1,1,0,1,0,0]) (e := .exit 0) (fun i (o:Lqq)=>tH op o.length ((o.map oiE).flatten) i) (fun o=>tH op o.length ((o.map oiE).flatten) op.length) (fun o x=>o++o.map (· ++ [x])) (fun i o=>o.length=2 ^ i∧∀ l∈o,l.length≤i) (by simp) op (a0:=[[]]) (by simp)
  (fun i x o hx ho=>by
   have hi:=aO hx;obtain ⟨h1,h2⟩:=ho;have h8:o.length≤256:=by
    rw [h1];exact fB (Nat.pow_le_pow_right (by omega) (show i≤8 by omega)) (by decide)
   have hin:=cAy hx (o:=o) (by omega) (fun l hl=>by have:=h2 l hl;omega)
   refine ⟨⟨by rw [iF,Cb,h1,Nat.pow_succ];omega,fun l hl => ?_⟩,bDz (by omega) hin (aH (by omega)) rfl rfl rfl⟩
   rcases jX.1 hl with h | h
   ·have:=h2 l h;omega
   ·obtain ⟨m,hm,rfl⟩:=Bs.1 h
    have:=h2 m hm;simp;omega)
  (fun o _=>bEa (by omega))
 refine cBd (Ev:=op.length) (aE.sim this fun C0 M0 w0 a w hs => ?_)
 exact bUn (id:=0) (n:=1) (ty:=33) (cs:=[bX]) (Bp:=[aG []]) rfl rfl (fun F j h u hu=>by
  have:j=0:=by simp at h;omega
  subst this;have hu:cM F w bX u:=hu;show cM F w (aG []) u;cases hu;exact aPt) hs
end
end
section
variable {Bj:Bool}{p Qy Ht Hu Aa Ab Cd Bw Cm Ns E6 Gy I5 E7 I6 Ed Ee Gn:Int}{o ls o' H3 Bc:Lqq}{q:List Int}{i j k i' j' k' Lq:Nat}
variable {dl:Int}{sk dc:Lqq}

noncomputable abbrev aAk:Code:=sub (cd Tryz.f39) [1,1,1,0,1,0,0,1,0,0,1,0,0]
noncomputable abbrev aNa:Code:=sub (cd Tryz.f39) [1,1,0,1,0,0]
noncomputable abbrev aNb:Code:=pS (cd Tryz.f39) 6 [0,1,0,0]
noncomputable abbrev aNc:Code:=pS (cd Tryz.f39) 5 [0,1,0,0,1,0,0,1,0,0]
noncomputable abbrev aXy:Code:=sub (cd Tryz.f39) [1,1,1,0,1,0,0]
noncomputable abbrev aXz:Code:=pS (cd Tryz.f39) 5 [0,1,0,0]
theorem bSr{q:List Int}(hd:bN dc)(hq:q.length≤1000)(us:uni 2 sk)(hl:sk.length≤1000){bib:Int}{j:Nat}{s0 s1 t:Int}{b:Bool}(hz:bJ (fun x=>decide (x.getD 0 0=bib)) sk=(j:Int))(hs:sk[j]? = some [s0,s1])(hr : -1≤s1∧s1≤360000)(ht:cI dl q dc bib s1=(t,b)){base:Nat}:FV Tp 66 [.p (.agg (bB dl sk dc)),.p (aA bib),.p (aG q)] base (.tup [.p (aA t),.p (blP b)]) []:=by
 have:=cBe (dl:=dl) hd hq us hl hz hs hr (base:=base);rw [ht] at this
 exact this
def nU(dl:Int)(sk:Lqq)(dc:Lqq)(q:List Int)(lsn:Nat)(lsc:List PV)(i:Nat):St:=⟨fr 141 [(1,(.p (aG q))),(2,(.ptr 0 0)),(4,(.p bX)),(5,(.own 1)),(6,(pI (i:Int)))],[some (.box 61 [(pI dl),(.p (fS sk)),(.p (fS dc))]),some (.row 76 lsn lsc)]⟩
def uF(lsn:Nat)(lsc:List PV)(i:Nat):St:=⟨fr 141 [(4,(.p bX)),(5,(.own 0)),(11,(pI (i:Int)))],[some (.row 76 lsn lsc)]⟩
def uG(Bc:Lqq)(on:Nat)(oc:List PV)(p:Int):St:=⟨fr 141 [(4,(.p bX)),(5,(.own 0)),(13,(.own 1)),(14,(pI p))],[some (.row 76 Bc.length (Bc.flatten.map aA)),some (.row 76 on oc)]⟩
def pR(Bc:Lqq)(on:Nat)(oc:List PV)(i:Nat):St:=⟨fr 141 [(4,(.p bX)),(5,(.own 0)),(13,(.own 1)),(16,(pI (i:Int)))],[some (.row 76 Bc.length (Bc.flatten.map aA)),some (.row 76 on oc)]⟩
theorem cJg{Lr:Lqq}{Ev:Nat}{Yb:Nat}{Rl:Lqq}{Yc:Int}{Ul:Lqq}{Yd:Nat}(hl0:aE Tp 0 aNa (nU dl sk dc q 0 [] 0) (.exit 0) (nU dl sk dc q Lr.length (Lr.flatten.map aA) Ev))(A2:aE Tp 0 aXy (uF  Lr.length (Lr.flatten.map aA) 0) (.exit 2) (uF  Bc.length (Bc.flatten.map aA) Yb))(Dc:aE Tp 0 aXz (uG Bc 0 [] 1) (.exit 6) (uG Bc Rl.length (Rl.flatten.map aA) Yc))(Cn:aE Tp 0 aNb (pR Bc Rl.length (Rl.flatten.map aA) 0) (.exit 10) (pR Bc Ul.length (Ul.flatten.map aA) Yd)){base:Nat}:FV Tp 39 [(.p (.agg (bB dl sk dc))),(.p (aG q))] base (.p (fS Ul)) []:=FV.frz (FMM.fi 0 ⟨[],[],[1],[]⟩ func39 [hl0.k 8 (gN [0,1,3,1,7,4,17,124] [0,1] [(5,76)]),A2.k 4 (gI [0,4,6,5,12,1,17,124] [1]),Dc.k 6 (gN [0,4,6,7,15,1,17,124] [0,1] [(13,76)]),Cn.k 4 (gI [0,4,6,7,14,2,17,124] [0,1])] (gc Cn.code (gc Dc.code (gc A2.code (gc hl0.code gn))))) (by kernel_rfl)
theorem bLv(h0:(i:Int)<(sk.length:Int))(h1:sk[i]? = some [Aa,Ab])(h2:uni 2 sk)(h3:bN dc)(h4:q.length≤1000)(h5:sk.length≤1000)(h6:bJ (fun x=>decide (x.getD 0 0=Aa)) sk=(Lq:Int))(h7:sk[Lq]? = some [Qy,Ht])(h8 : -1≤Ht∧Ht≤360000)(h9:cI dl q dc Aa Ht=(Hu,Bj))(A5:Bj=true)(Bd:[(aA Aa),(aA (-1)),(aA Hu)].length=1*3∧ls.length+1≤1000000)(Bh:inR (((i+1):Nat):Int))(Fv:H3.length=(ls.length+1))(Fw:H3.flatten.map aA=((ls.flatten.map aA)++[(aA Aa),(aA (-1)),(aA Hu)]))(Ai:i'=(i+1)):aC Tp 0 aNa (nU dl sk dc q ls.length (ls.flatten.map aA) i) .normal (nU dl sk dc q H3.length (H3.flatten.map aA) i'):=by
 subst Ai;have k1:=fk 2 (bSr h3 h4 h2 h5 h6 h7 h8 h9) rfl;rw [Fv,Fw];exact aC.fi (gI [0,1,3,1,7,4,17,124] [0,4]) [bT,.x (aA Aa),k1.o,bT] (gc Bh (gc Bd (gt ([(aA Aa),(aA (-1)),(aA Hu)].length=3) (by first | decide | simp) (gc A5 (gc k1 (gt ((sk.flatten.map aA)[(i*2)]? = some (aA Aa)) (bE (i:=i) (f:=0) h2 h1 rfl) (gc (gD (k:=2) (i:=(i:Int)) (by decide) h2 (Br _) h1) (gc (aI h0) gn))))))))
theorem bLw(h0:(i:Int)<(sk.length:Int))(h1:sk[i]? = some [Aa,Ab])(h2:uni 2 sk)(h3:bN dc)(h4:q.length≤1000)(h5:sk.length≤1000)(h6:bJ (fun x=>decide (x.getD 0 0=Aa)) sk=(Lq:Int))(h7:sk[Lq]? = some [Qy,Ht])(h8 : -1≤Ht∧Ht≤360000)(h9:cI dl q dc Aa Ht=(Hu,Bj))(A5:Bj=false)(Bd:[(aA Aa),(aA 1),(aA Hu)].length=1*3∧ls.length+1≤1000000)(Bh:inR (((i+1):Nat):Int))(Fv:H3.length=(ls.length+1))(Fw:H3.flatten.map aA=((ls.flatten.map aA)++[(aA Aa),(aA 1),(aA Hu)]))(Ai:i'=(i+1)):aC Tp 0 aNa (nU dl sk dc q ls.length (ls.flatten.map aA) i) .normal (nU dl sk dc q H3.length (H3.flatten.map aA) i'):=by
 subst Ai;have k1:=fk 2 (bSr h3 h4 h2 h5 h6 h7 h8 h9) rfl;rw [Fv,Fw];exact aC.fi (gI [0,1,3,1,7,4,17,124] [0,4]) [bT,.x (aA Aa),k1.o,bF] (gc Bh (gc Bd (gt ([(aA Aa),(aA 1),(aA Hu)].length=3) (by first | decide | simp) (gc A5 (gc k1 (gt ((sk.flatten.map aA)[(i*2)]? = some (aA Aa)) (bE (i:=i) (f:=0) h2 h1 rfl) (gc (gD (k:=2) (i:=(i:Int)) (by decide) h2 (Br _) h1) (gc (aI h0) gn))))))))
theorem bLx(h0:(sk.length:Int)≤(i:Int)):aC Tp 0 aNa (nU dl sk dc q ls.length (ls.flatten.map aA) i) (.exit 0) (nU dl sk dc q ls.length (ls.flatten.map aA) i):=aC.fi (gI [0,1,3,1,7,4,17,124] [0,1]) [bF] (gc (aN h0) gn)
def jL(i:Nat)(lsn:Nat)(lsc:List PV)(k:Nat):St:=⟨fr 141 [(4,(.p bX)),(5,(.own 0)),(11,(pI (i:Int))),(12,(pI (k:Int)))],[some (.row 76 lsn lsc)]⟩
theorem bLy{Gz:Lqq}{Qz:Nat}(h0:(i:Int)<(ls.length:Int))(A2:aE Tp 0 aAk (jL i ls.length (ls.flatten.map aA) 0) (.exit 4) (jL i Gz.length (Gz.flatten.map aA) Qz))(h2:inR (((i+1):Nat):Int))(Fv:H3.length=Gz.length)(Fw:H3.flatten.map aA=(Gz.flatten.map aA))(Ai:i'=(i+1)):aC Tp 0 aXy (uF  ls.length (ls.flatten.map aA) i) .normal (uF  H3.length (H3.flatten.map aA) i'):=by
 subst Ai;rw [Fv,Fw];exact aC.fi (gI [0,4,6,5,12,1,17,124] [0]) [bT,A2.k 5 (gI [0,4,6,5,17,124] [0])] (gc h2 (gc A2.code (gc (aI h0) gn)))
theorem bLz(h0:(ls.length:Int)≤(i:Int)):aC Tp 0 aXy (uF  ls.length (ls.flatten.map aA) i) (.exit 2) (uF  ls.length (ls.flatten.map aA) i):=aC.fi (gI [0,4,6,5,12,1,17,124] [0]) [bF] (gc (aN h0) gn)
def pT(Bc:Lqq)(p:Int)(on:Nat)(oc:List PV)(j:Nat):St:=⟨fr 141 [(4,(.p bX)),(5,(.own 0)),(13,(.own 1)),(14,(pI p)),(15,(pI (j:Int)))],[some (.row 76 Bc.length (Bc.flatten.map aA)),some (.row 76 on oc)]⟩
theorem bMa{Iq:Lqq}{Q0:Nat}{p':Int}(h0:p≤(Bc.length:Int))(A2:aE Tp 0 aNc (pT Bc p o.length (o.flatten.map aA) 0) (.exit 8) (pT Bc p Iq.length (Iq.flatten.map aA) Q0))(h2:inR (p+1))(B1:o'.length=Iq.length)(B2:o'.flatten.map aA=(Iq.flatten.map aA))(O7:p'=(p+1)):aC Tp 0 aXz (uG Bc o.length (o.flatten.map aA) p) .normal (uG Bc o'.length (o'.flatten.map aA) p'):=by
 subst O7;rw [B1,B2];exact aC.fi (gI [0,4,6,7,15,1,17,124] [0,1]) [bT,A2.k 5 (gI [0,4,6,7,17,124] [0,1])] (gc h2 (gc A2.code (gc (mA h0) gn)))
theorem bMb(h0:(Bc.length:Int)<p):aC Tp 0 aXz (uG Bc o.length (o.flatten.map aA) p) (.exit 6) (uG Bc o.length (o.flatten.map aA) p):=aC.fi (gI [0,4,6,7,15,1,17,124] [0,1]) [bF] (gc (jG h0) gn)
theorem bMc(h0:(i:Int)<(Bc.length:Int))(h1:Bc[i]? = some [Ed,Ee,Gn])(h2:uni 3 Bc)(h3:Ee<0)(h4:[(aA Ed),(aA Ee),(aA Gn)].length=1*3∧o.length+1≤1000000)(h5:inR (((i+1):Nat):Int))(B1:o'.length=(o.length+1))(B2:o'.flatten.map aA=((o.flatten.map aA)++[(aA Ed),(aA Ee),(aA Gn)]))(Ai:i'=(i+1)):aC Tp 0 aNb (pR Bc o.length (o.flatten.map aA) i) .normal (pR Bc o'.length (o'.flatten.map aA) i'):=by
 subst Ai;rw [B1,B2];exact aC.fi (gI [0,4,6,7,14,2,17,124] [0,3]) [bT,.x (aA Ee),bT,.x (.agg [(aA Ed),(aA Ee),(aA Gn)])] (gc h5 (gc h4 (gt ([(aA Ed),(aA Ee),(aA Gn)].length=3) (by first | decide | simp) (gc (iA (i:=i) h2 h1) (gc (jP (i:=i) h2 h1) (gc (bZ (i:=(i:Int)) (Br _) h1) (gc (aI h3) (gt ((Bc.flatten.map aA)[((i*3)+1)]? = some (aA Ee)) (bE (i:=i) (f:=1) h2 h1 rfl) (gc (bZ (i:=(i:Int)) (Br _) h1) (gc (aI h0) gn))))))))))
theorem bMd(h0:(i:Int)<(Bc.length:Int))(h1:Bc[i]? = some [Ed,Ee,Gn])(h2:uni 3 Bc)(h3:(0:Int)≤Ee)(h4:inR (((i+1):Nat):Int))(Ai:i'=(i+1)):aC Tp 0 aNb (pR Bc o.length (o.flatten.map aA) i) .normal (pR Bc o.length (o.flatten.map aA) i'):=by
 subst Ai;exact aC.fi (gI [0,4,6,7,14,2,17,124] [0,1]) [bT,.x (aA Ee),bF] (gc h4 (gc (aN h3) (gt ((Bc.flatten.map aA)[((i*3)+1)]? = some (aA Ee)) (bE (i:=i) (f:=1) h2 h1 rfl) (gc (bZ (i:=(i:Int)) (Br _) h1) (gc (aI h0) gn)))))
theorem bMe(h0:(Bc.length:Int)≤(i:Int)):aC Tp 0 aNb (pR Bc o.length (o.flatten.map aA) i) (.exit 10) (pR Bc o.length (o.flatten.map aA) i):=aC.fi (gI [0,4,6,7,14,2,17,124] [0,1]) [bF] (gc (aN h0) gn)
theorem bMf(h0:(k:Int)<(ls.length:Int))(h1:ls[i]? = some [Cd,Bw,Cm])(h2:uni 3 ls)(h3:(0:Int)<Bw)(h4:ls[k]? = some [Ns,E6,Gy])(h5:(0:Int)<E6)(h6:Gy<Cm)(h7:inR (Bw+1))(h8:((i*3)+1)<(ls.flatten.map aA).length)(h9:inR (((k+1):Nat):Int))(Fv:H3.length=ls.length)(Fw:H3.flatten.map aA=((ls.flatten.map aA).set ((i*3)+1) (aA (Bw+1))))(Eb:k'=(k+1)):aC Tp 0 aAk (jL i ls.length (ls.flatten.map aA) k) .normal (jL i H3.length (H3.flatten.map aA) k'):=by
 subst Eb;rw [Fv,Fw];exact aC.fi (gI [0,4,6,5,17,124] [0]) ([bT,.x (aA Bw)]++rT 5++[.x (aA E6)]++rT 7++[.x (aA Gy)]++rT 5++[.x (aA Cm),bT,bT,bT,.x (aA Bw)]) (gc h9 (gc h8 (gc (bZ (i:=(i:Int)) (Br _) h1) (gc h7 (gt ((ls.flatten.map aA)[((i*3)+1)]? = some (aA Bw)) (bE (i:=i) (f:=1) h2 h1 rfl) (gc (bZ (i:=(i:Int)) (Br _) h1) (gc (aI h6) (Az (aI h5) (gt ((ls.flatten.map aA)[((i*3)+2)]? = some (aA Cm)) (bE (i:=i) (f:=2) h2 h1 rfl) (Az (aI h5) (gc (bZ (i:=(i:Int)) (Br _) h1) (Ak (aI h5) (gt ((ls.flatten.map aA)[((k*3)+2)]? = some (aA Gy)) (bE (i:=k) (f:=2) h2 h4 rfl) (Az (aI h5) (gc (bZ (i:=(k:Int)) (Br _) h4) (Ak (aI h5) (Az (aI h3) (gt ((ls.flatten.map aA)[((k*3)+1)]? = some (aA E6)) (bE (i:=k) (f:=1) h2 h4 rfl) (Az (aI h3) (gc (bZ (i:=(k:Int)) (Br _) h4) (Ak (aI h3) (gt ((ls.flatten.map aA)[((i*3)+1)]? = some (aA Bw)) (bE (i:=i) (f:=1) h2 h1 rfl) (gc (bZ (i:=(i:Int)) (Br _) h1) (gc (aI h0) gn))))))))))))))))))))))))
theorem bMg(h0:(k:Int)<(ls.length:Int))(h1:ls[i]? = some [Cd,Bw,Cm])(h2:uni 3 ls)(h3:(0:Int)<Bw)(h4:ls[k]? = some [Ns,E6,Gy])(h5:(0:Int)<E6)(h6:Cm≤Gy)(h7:inR (((k+1):Nat):Int))(Eb:k'=(k+1)):aC Tp 0 aAk (jL i ls.length (ls.flatten.map aA) k) .normal (jL i ls.length (ls.flatten.map aA) k'):=by
 subst Eb;exact aC.fi (gI [0,4,6,5,17,124] [0]) ([bT,.x (aA Bw)]++rT 5++[.x (aA E6)]++rT 7++[.x (aA Gy)]++rT 5++[.x (aA Cm),bT,bT,bF]) (gc h7 (gc (aN h6) (Az (aI h5) (gt ((ls.flatten.map aA)[((i*3)+2)]? = some (aA Cm)) (bE (i:=i) (f:=2) h2 h1 rfl) (Az (aI h5) (gc (bZ (i:=(i:Int)) (Br _) h1) (Ak (aI h5) (gt ((ls.flatten.map aA)[((k*3)+2)]? = some (aA Gy)) (bE (i:=k) (f:=2) h2 h4 rfl) (Az (aI h5) (gc (bZ (i:=(k:Int)) (Br _) h4) (Ak (aI h5) (Az (aI h3) (gt ((ls.flatten.map aA)[((k*3)+1)]? = some (aA E6)) (bE (i:=k) (f:=1) h2 h4 rfl) (Az (aI h3) (gc (bZ (i:=(k:Int)) (Br _) h4) (Ak (aI h3) (gt ((ls.flatten.map aA)[((i*3)+1)]? = some (aA Bw)) (bE (i:=i) (f:=1) h2 h1 rfl) (gc (bZ (i:=(i:Int)) (Br _) h1) (gc (aI h0) gn)))))))))))))))))))
theorem bMh(h0:(k:Int)<(ls.length:Int))(h1:ls[i]? = some [Cd,Bw,Cm])(h2:uni 3 ls)(h3:(0:Int)<Bw)(h4:ls[k]? = some [Ns,E6,Gy])(h5:E6≤0)(h6:inR (((k+1):Nat):Int))(Eb:k'=(k+1)):aC Tp 0 aAk (jL i ls.length (ls.flatten.map aA) k) .normal (jL i ls.length (ls.flatten.map aA) k'):=by
 subst Eb;exact aC.fi (gI [0,4,6,5,17,124] [0]) ([bT,.x (aA Bw)]++rT 5++[.x (aA E6),bT,bT]++rF 12) (gc h6 (Eu (aN h5) (Aw (aN h5) (Az (aI h3) (gt ((ls.flatten.map aA)[((k*3)+1)]? = some (aA E6)) (bE (i:=k) (f:=1) h2 h4 rfl) (Az (aI h3) (gc (bZ (i:=(k:Int)) (Br _) h4) (Ak (aI h3) (gt ((ls.flatten.map aA)[((i*3)+1)]? = some (aA Bw)) (bE (i:=i) (f:=1) h2 h1 rfl) (gc (bZ (i:=(i:Int)) (Br _) h1) (gc (aI h0) gn)))))))))))
theorem bMi(h0:(k:Int)<(ls.length:Int))(h1:ls[i]? = some [Cd,Bw,Cm])(h2:uni 3 ls)(h3:Bw≤0)(h4:inR (((k+1):Nat):Int))(Eb:k'=(k+1)):aC Tp 0 aAk (jL i ls.length (ls.flatten.map aA) k) .normal (jL i ls.length (ls.flatten.map aA) k'):=by
 subst Eb;exact aC.fi (gI [0,4,6,5,17,124] [0]) ([bT,.x (aA Bw)]++rF 7) (gc h4 (Kx (aN h3) (gt ((ls.flatten.map aA)[((i*3)+1)]? = some (aA Bw)) (bE (i:=i) (f:=1) h2 h1 rfl) (gc (bZ (i:=(i:Int)) (Br _) h1) (gc (aI h0) gn)))))
theorem bMj(h0:(ls.length:Int)≤(k:Int)):aC Tp 0 aAk (jL i ls.length (ls.flatten.map aA) k) (.exit 4) (jL i ls.length (ls.flatten.map aA) k):=aC.fi (gI [0,4,6,5,17,124] [0]) [bF] (gc (aN h0) gn)
theorem bMk(h0:(j:Int)<(Bc.length:Int))(h1:Bc[j]? = some [I5,E7,I6])(h2:uni 3 Bc)(h3:E7=p)(h4:[(aA I5),(aA E7),(aA I6)].length=1*3∧o.length+1≤1000000)(h5:inR (((j+1):Nat):Int))(B1:o'.length=(o.length+1))(B2:o'.flatten.map aA=((o.flatten.map aA)++[(aA I5),(aA E7),(aA I6)]))(Eo:j'=(j+1)):aC Tp 0 aNc (pT Bc p o.length (o.flatten.map aA) j) .normal (pT Bc p o'.length (o'.flatten.map aA) j'):=by
 subst Eo;rw [B1,B2];exact aC.fi (gI [0,4,6,7,17,124] [0,3]) [bT,.x (aA E7),bT,.x (.agg [(aA I5),(aA E7),(aA I6)])] (gc h5 (gc h4 (gt ([(aA I5),(aA E7),(aA I6)].length=3) (by first | decide | simp) (gc (iA (i:=j) h2 h1) (gc (jP (i:=j) h2 h1) (gc (bZ (i:=(j:Int)) (Br _) h1) (gc (cH h3) (gt ((Bc.flatten.map aA)[((j*3)+1)]? = some (aA E7)) (bE (i:=j) (f:=1) h2 h1 rfl) (gc (bZ (i:=(j:Int)) (Br _) h1) (gc (aI h0) gn))))))))))
theorem bMl(h0:(j:Int)<(Bc.length:Int))(h1:Bc[j]? = some [I5,E7,I6])(h2:uni 3 Bc)(h3:E7≠p)(h4:inR (((j+1):Nat):Int))(Eo:j'=(j+1)):aC Tp 0 aNc (pT Bc p o.length (o.flatten.map aA) j) .normal (pT Bc p o.length (o.flatten.map aA) j'):=by
 subst Eo;exact aC.fi (gI [0,4,6,7,17,124] [0,1]) [bT,.x (aA E7),bF] (gc h4 (gc (aU h3) (gt ((Bc.flatten.map aA)[((j*3)+1)]? = some (aA E7)) (bE (i:=j) (f:=1) h2 h1 rfl) (gc (bZ (i:=(j:Int)) (Br _) h1) (gc (aI h0) gn)))))
theorem bMm(h0:(Bc.length:Int)≤(j:Int)):aC Tp 0 aNc (pT Bc p o.length (o.flatten.map aA) j) (.exit 8) (pT Bc p o.length (o.flatten.map aA) j):=aC.fi (gI [0,4,6,7,17,124] [0,1]) [bF] (gc (aN h0) gn)
end
section
theorem aRm{α:Type}{R:α→α→Prop}(ha:∀ a b,R a b→R b a→False):∀ (l l':List α),l.Pairwise R→l'.Pairwise R→(∀ x,x∈l↔x∈l')→l=l'
 | [],[],_,_,_=>rfl
 | [],b::l',_,_,h=>by have:=(h b).2 (by simp);simp at this
 | a::l,[],_,_,h=>by have:=(h a).1 (by simp);simp at this
 | a::l,b::l',h1,h2,h=>by
  obtain ⟨p1,p2⟩:=aKy.1 h1;obtain ⟨q1,q2⟩:=aKy.1 h2;have hab:a=b:=by
   rcases fU.1 ((h a).1 (by simp)) with e | hm
   ·exact e
   ·rcases fU.1 ((h b).2 (by simp)) with e | Dv
    ·exact e.symm
    ·exact absurd (q1 a hm) fun h3=>ha _ _ h3 (p1 b Dv)
  subst hab
  congr 1
  refine aRm ha l l' p2 q2 fun x=>⟨fun hx => ?_,fun hx => ?_⟩
  ·rcases fU.1 ((h x).1 (Cj _ hx)) with e | hm
   ·subst e;exact absurd (p1 _ hx) fun h3=>ha _ _ h3 h3
   ·exact hm
  ·rcases fU.1 ((h x).2 (Cj _ hx)) with e | hm
   ·subst e;exact absurd (q1 _ hx) fun h3=>ha _ _ h3 h3
   ·exact hm
theorem aXx(a b:List Int)(h1:bAv a b)(h2:bAv b a):False:=by
 unfold bAv at h1 h2
 by_cases hb:b.getD 1 0 = -1
 ·by_cases ha:a.getD 1 0 = -1
  ·have:=h1.1 hb ha;have:=h2.1 ha hb;omega
  ·exact (h2.2 ha).1 hb
 ·obtain ⟨p1,p2,p3⟩:=h1.2 hb
  obtain ⟨q1,q2,q3⟩:=h2.2 p1;have:=p3 (by omega);have:=q3 (by omega);omega
theorem aRn{α β:Type}(g:α→List β):∀ (l:List α) (o:List β),l.foldl (fun o i=>o++g i) o=o++l.flatMap g
 | [],o=>by simp
 | x::l,o=>by rw [lE,aRn g l];simp
section
variable {dl:Int} {sk dc:Lqq} {q:List Int}
abbrev fT(dl:Int)(q:List Int)(dc:Lqq)(s:List Int):Int × Bool:=cI dl q dc (sB s) (sT s)
def xE(dl:Int)(q:List Int)(dc sk:Lqq):Lqq:=sk.map fun s=>[sB s,gM (fT dl q dc) sk s,(fT dl q dc s).1]
def byP(L:Lqq)(n:Nat):Lqq:=((List.range n).flatMap fun (i:Nat)=>L.filter fun x=>decide (x.getD 1 0=(i:Int)+1))++L.filter fun x=>decide (x.getD 1 0<0)
theorem aRo(f:List Int→Int × Bool)(S:Lqq){t u:Int}(h:t≤u):oB f S t≤oB f S u:=by
 unfold oB
 induction S with
 | nil=>simp
 | cons x S ih =>
  rw [List.filter_cons,List.filter_cons]
  split
  ·rename_i h1
   rw [if_pos (by
    simp only [B7,decide_eq_true_eq] at h1 ⊢
    exact ⟨h1.1,by omega⟩)]
   simp only [nX];omega
  ·split
   ·simp only [nX];omega
   ·exact ih
theorem bSq(f:List Int→Int × Bool){S:Lqq}{k:List Int}(hk:k∈S)(hi:(f k).2=false){u:Int}(h:(f k).1<u):oB f S (f k).1<oB f S u:=by
 induction S with
 | nil=>cases hk
 | cons x S ih =>
  have hm:=aRo f S (t:=(f k).1) (u:=u) (by omega)
  unfold oB at ih hm ⊢
  rw [List.filter_cons,List.filter_cons]
  rcases fU.1 hk with rfl | hk
  ·rw [if_neg (by simp),if_pos (by simp [hi,h]),nX];omega
  ·have:=ih hk
   split
   ·rename_i h1
    rw [if_pos (by
     simp only [B7,decide_eq_true_eq] at h1 ⊢
     exact ⟨h1.1,by omega⟩)]
    simp only [nX];omega
   ·split
    ·simp only [nX];omega
    ·exact this
theorem bAw(f:List Int→Int × Bool){S:Lqq}{k:List Int}(hk:k∈S):oB f S (f k).1<S.length:=by
 unfold oB;rw [List.length_filter_lt_length_iff_exists];exact ⟨k,hk,by simp⟩
theorem oS(f:List Int→Int × Bool)(S:Lqq)(k:List Int):(gM f S k = -1↔(f k).2=true)∧((f k).2=false→gM f S k=1+(oB f S (f k).1:Int)):=by
 unfold gM;cases h:(f k).2 with
 | true=>simp
 | false=>simp;omega
theorem aRp(hs:sk.Pairwise fun a b=>a.getD 0 0<b.getD 0 0){a b:List Int}(ha:a∈xE dl q dc sk)(hb:b∈xE dl q dc sk)(h:a.getD 1 0 ≠ -1)(h2:b.getD 1 0 ≠ -1):(a.getD 1 0<b.getD 1 0→a.getD 2 0<b.getD 2 0)∧(a.getD 1 0=b.getD 1 0→a.getD 2 0=b.getD 2 0):=by
 unfold xE at ha hb
 obtain ⟨s,hsm,rfl⟩:=Bs.1 ha;obtain ⟨u,hum,rfl⟩:=Bs.1 hb;have h:gM (fT dl q dc) sk s ≠ -1:=h;have h2:gM (fT dl q dc) sk u ≠ -1:=h2;obtain ⟨p1,p2⟩:=oS (fT dl q dc) sk s;obtain ⟨q1,q2⟩:=oS (fT dl q dc) sk u;have hsf:(fT dl q dc s).2=false:=by
  cases hh:(fT dl q dc s).2 with
  | true=>exact absurd (p1.2 hh) h
  | false=>rfl
 have huf:(fT dl q dc u).2=false:=by
  cases hh:(fT dl q dc u).2 with
  | true=>exact absurd (q1.2 hh) h2
  | false=>rfl
 have e1:=p2 hsf;have e2:=q2 huf;show (gM (fT dl q dc) sk s<gM (fT dl q dc) sk u→(fT dl q dc s).1<(fT dl q dc u).1)∧(gM (fT dl q dc) sk s=gM (fT dl q dc) sk u→(fT dl q dc s).1=(fT dl q dc u).1);rw [e1,e2];have m1:=fun h=>aRo (fT dl q dc) sk (t:=(fT dl q dc u).1) (u:=(fT dl q dc s).1) h
 have m2:=fun h=>bSq (fT dl q dc) hsm hsf (u:=(fT dl q dc u).1) h
 have m3:=fun h=>bSq (fT dl q dc) hum huf (u:=(fT dl q dc s).1) h
 constructor
 ·intro h3
  by_cases h4:(fT dl q dc u).1≤(fT dl q dc s).1
  ·have:=m1 h4;omega
  ·omega
 ·intro h3
  by_cases h4:(fT dl q dc s).1<(fT dl q dc u).1
  ·have:=m2 h4;omega
  ·by_cases h5:(fT dl q dc u).1<(fT dl q dc s).1
   ·have:=m3 h5;omega
   ·omega
theorem aRq(hs:sk.Pairwise fun a b=>a.getD 0 0<b.getD 0 0):(xE dl q dc sk).Pairwise fun a b=>a.getD 0 0<b.getD 0 0:=by
 unfold xE;rw [List.pairwise_map];exact hs
theorem cJf(hs:sk.Pairwise fun a b=>a.getD 0 0<b.getD 0 0):byP (xE dl q dc sk) sk.length=cD dl q dc sk:=by
 obtain ⟨r1,r2,r3⟩:=aGh (dl:=dl) (oc:=q) (dc:=dc) hs;have hL:=aRq (dl:=dl) (q:=q) (dc:=dc) hs;have hmem:∀ x,x∈byP (xE dl q dc sk) sk.length↔x∈xE dl q dc sk:=fun x=>by
  unfold byP;rw [jX,List.mem_flatMap,kK];constructor
  ·rintro (⟨i,_,h⟩ | h)
   ·exact (kK.1 h).1
   ·exact h.1
  ·intro hx
   have Qc:=hx;unfold xE at hx
   obtain ⟨s,hsm,rfl⟩:=Bs.1 hx;obtain ⟨p1,p2⟩:=oS (fT dl q dc) sk s;cases hh:(fT dl q dc s).2 with
   | true =>
    refine .inr ⟨Qc,?_⟩;show decide (gM (fT dl q dc) sk s<0)=true;rw [p1.2 hh];rfl
   | false =>
    refine .inl ⟨oB (fT dl q dc) sk (fT dl q dc s).1,iJ.2 (bAw _ hsm),kK.2 ⟨Qc,?_⟩⟩;show decide (gM (fT dl q dc) sk s=_)=true;rw [p2 hh,decide_eq_true_eq];omega
 refine aRm aXx _ _ ?_ r1 fun x=>(hmem x).trans ?_
 ·unfold byP
  rw [List.pairwise_append];refine ⟨List.pairwise_flatMap.2 ⟨fun i _ => ?_,?_⟩,?_,?_⟩
  ·refine (List.pairwise_filter.2 (hL.imp_of_mem fun {a b} ha hb h h1 h2 => ?_))
   have h1:=of_decide_eq_true h1;have h2:=of_decide_eq_true h2;have:=(aRp hs ha hb (by omega) (by omega)).2 (by omega)
   exact ⟨fun h3=>by omega,fun _=>⟨by omega,by omega,fun _=>h⟩⟩
  ·refine List.pairwise_lt_range.imp fun {i j} hij=>fun x hx y hy => ?_
   obtain ⟨hx,h1⟩:=kK.1 hx;obtain ⟨hy,h2⟩:=kK.1 hy;have h1:=of_decide_eq_true h1;have h2:=of_decide_eq_true h2;have:=(aRp hs hx hy (by omega) (by omega)).1 (by omega)
   exact ⟨fun h3=>by omega,fun _=>⟨by omega,by omega,fun h=>by omega⟩⟩
  ·refine (List.pairwise_filter.2 (hL.imp_of_mem fun {a b} ha hb h h1 h2 => ?_))
   have h2:=of_decide_eq_true h2;have Dd:b.getD 1 0 = -1:=by
    unfold xE at hb
    obtain ⟨s,_,rfl⟩:=Bs.1 hb;obtain ⟨p1,p2⟩:=oS (fT dl q dc) sk s;cases hh:(fT dl q dc s).2 with
    | true=>exact p1.2 hh
    | false =>
     have:=p2 hh;have h2:gM (fT dl q dc) sk s<0:=h2;omega
   exact ⟨fun _ _=>h,fun h3=>absurd Dd h3⟩
  ·intro a ha b hb
   obtain ⟨i,_,ha⟩:=List.mem_flatMap.1 ha;obtain ⟨ha,h1⟩:=kK.1 ha;obtain ⟨hb,h2⟩:=kK.1 hb;have h1:=of_decide_eq_true h1;have h2:=of_decide_eq_true h2;have Dd:b.getD 1 0 = -1:=by
    unfold xE at hb
    obtain ⟨s,_,rfl⟩:=Bs.1 hb;obtain ⟨p1,p2⟩:=oS (fT dl q dc) sk s;cases hh:(fT dl q dc s).2 with
    | true=>exact p1.2 hh
    | false =>
     have:=p2 hh;have h2:gM (fT dl q dc) sk s<0:=h2;omega
   exact ⟨fun _ h3=>by omega,fun h3=>absurd Dd h3⟩
 ·constructor
  ·intro hx
   unfold xE at hx
   obtain ⟨s,hsm,rfl⟩:=Bs.1 hx;exact sH (aRk (dl:=dl) (oc:=q) (dc:=dc) hs hsm)
  ·intro hx
   obtain ⟨s,hsm,e1,e2⟩:=r3 x hx;obtain ⟨a,b,c,rfl⟩:=Da (jS x hx);have h2:=r2 _ hx;have e1:s.getD 0 0=a:=e1;have e2:cI dl q dc (sB s) (sT s)=(c,decide (b = -1)):=e2;unfold xE;refine Bs.2 ⟨s,hsm,?_⟩;have e3:fT dl q dc s=(c,decide (b = -1)):=e2;obtain ⟨p1,p2⟩:=oS (fT dl q dc) sk s;rw [e3] at p1 p2
   have hb:gM (fT dl q dc) sk s=b:=by
    by_cases hb:b = -1
    ·rw [hb];exact p1.2 (by simp [hb])
    ·have h2:b=1+_:=h2 hb
     rw [aRj hs] at h2
     rw [p2 (by simp [hb]),h2]
     rfl
   rw [hb,e3];show [s.getD 0 0,b,c]=[a,b,c];rw [e1]
end
end
section
section
variable {dl:Int} {sk dc:Lqq} {q:List Int}
def Ki(dl:Int)(q:List Int)(dc:Lqq)(s:List Int):List Int:=[sB s,if (fT dl q dc s).2 then -1 else 1,(fT dl q dc s).1]
def iG(dl:Int)(q:List Int)(dc sk:Lqq)(s:List Int)(k:Nat):Int:=if (fT dl q dc s).2 then -1 else 1+(oB (fT dl q dc) (sk.take k) (fT dl q dc s).1:Int)
theorem cJd(f:List Int→Int × Bool)(S:Lqq)(t:Int):oB f S t≤S.length:=mI _ _
theorem bLu{s x:List Int}{k:Nat}(hx:sk[k]? = some x):iG dl q dc sk s (k+1)=if (fT dl q dc s).2=false∧(fT dl q dc x).2=false∧(fT dl q dc x).1<(fT dl q dc s).1 then iG dl q dc sk s k+1 else iG dl q dc sk s k:=by
 have e:oB (fT dl q dc) (sk.take (k+1)) (fT dl q dc s).1=oB (fT dl q dc) (sk.take k) (fT dl q dc s).1+if (fT dl q dc x).2=false∧(fT dl q dc x).1<(fT dl q dc s).1 then 1 else 0:=by
  unfold oB;rw [List.take_add_one,hx,kU,iF]
  congr 1
  show (List.filter (fun j => !(fT dl q dc j).2 && decide ((fT dl q dc j).1<(fT dl q dc s).1)) [x]).length=_
  rw [List.filter_cons,List.filter_nil];generalize fT dl q dc s=a;generalize fT dl q dc x=b;obtain ⟨b1,b2⟩:=b;cases b2 with
  | true=>simp
  | false =>
   by_cases h:b1<a.1
   ·simp [h]
   ·simp [h]
 unfold iG;rw [e];clear e;generalize oB (fT dl q dc) (sk.take k) (fT dl q dc s).1=c;generalize fT dl q dc s=a;generalize fT dl q dc x=b;obtain ⟨a1,a2⟩:=a;obtain ⟨b1,b2⟩:=b;cases a2 with
 | true=>simp
 | false =>
  cases b2 with
  | true=>simp
  | false =>
   by_cases h:b1<a1
   ·simp [h];omega
   ·simp [h]
theorem yV(s:List Int)(k:Nat):(0<iG dl q dc sk s k↔(fT dl q dc s).2=false):=by
 unfold iG;cases h:(fT dl q dc s).2 with
 | true=>simp
 | false=>simp;omega
theorem bSo(s:List Int)(k:Nat):iG dl q dc sk s k≤1+(sk.length:Int):=by
 have h1:=cJd (fT dl q dc) (sk.take k) (fT dl q dc s).1;have h2:(sk.take k).length≤sk.length:=by rw [mJ];omega
 unfold iG
 split <;> omega
theorem aRl(s:List Int):iG dl q dc sk s sk.length=gM (fT dl q dc) sk s:=by
 unfold iG gM;rw [List.take_length]
def LnI(dl:Int)(q:List Int)(dc sk:Lqq)(i:Nat)(g:List Int→Int)(L:Lqq):Prop:=L.length=sk.length∧∀ (j:Nat) (s:List Int),sk[j]? = some s→L[j]? = some [sB s,if j<i then gM (fT dl q dc) sk s else if j=i then g s else iG dl q dc sk s 0,(fT dl q dc s).1]
theorem LnI.uni{i:Nat}{g:List Int→Int}{L:Lqq}(h:LnI dl q dc sk i g L):uni 3 L:=fun x hx=>by
 obtain ⟨j,hj,rfl⟩:=List.mem_iff_getElem.1 hx;have Du:j<sk.length:=by rw [← h.1];exact hj
 have:=h.2 j sk[j] (Av Du);rw [Av hj] at this
 rw [Option.some.inj this];rfl
theorem cJe{i:Nat}{s:List Int}(hi:sk[i]? = some s)(hl:sk.length≤1000){L:Lqq}(hL:LnI dl q dc sk i (fun s=>iG dl q dc sk s 0) L) :
  ∃ L',LnI dl q dc sk i (fun s=>iG dl q dc sk s sk.length) L'∧aE Tp 0 (sub (cd Tryz.f39) [1,1,1,0,1,0,0,1,0,0,1,0,0]) (jL i L.length (L.flatten.map aA) 0) (.exit 4) (jL i L'.length (L'.flatten.map aA) sk.length):=by
 have hil:=aO hi;refine aE.ex (P:=Tp) (k:=0) (e := .exit 4) (fun k (L:Lqq)=>jL i L.length (L.flatten.map aA) k) (fun L=>jL i L.length (L.flatten.map aA) sk.length) (fun k L=>LnI dl q dc sk i (fun s=>iG dl q dc sk s k) L) (by simp) sk.length
  (fun k L hk hI => ?_) (fun L hI=>bMj (by rw [hI.1];omega)) hL
 have hu:=hI.uni;have hx:sk[k]? = some sk[k]:=Av hk;have e1:L[i]? = some [sB s,iG dl q dc sk s k,(fT dl q dc s).1]:=by
  have:=hI.2 i s hi;rw [if_neg (by omega),if_pos rfl] at this
  exact this
 have e2:L[k]? = some [sB sk[k],if k<i then gM (fT dl q dc) sk sk[k] else if k=i then iG dl q dc sk sk[k] k else iG dl q dc sk sk[k] 0,(fT dl q dc sk[k]).1]:=hI.2 k _ hx
 have hsu:=bLu (dl:=dl) (q:=q) (dc:=dc) (s:=s) hx;have hp:=yV (dl:=dl) (q:=q) (dc:=dc) (sk:=sk) s k;have hr:=bSo (dl:=dl) (q:=q) (dc:=dc) (sk:=sk) s k;have hkk:(k:Int)<(L.length:Int):=by rw [hI.1];omega
 have hn:inR (((k+1:Nat):Nat):Int):=aH (by omega)
 have same:iG dl q dc sk s (k+1)=iG dl q dc sk s k→LnI dl q dc sk i (fun s=>iG dl q dc sk s (k+1)) L:=fun h=>⟨hI.1,fun j u hj=>by
  have:=hI.2 j u hj
  by_cases hji:j=i
  ·subst hji
   rw [hi] at hj
   cases hj;rw [if_neg (by omega),if_pos rfl]
   show L[j]? = some [sB s,iG dl q dc sk s (k+1),(fT dl q dc s).1];rw [h];exact e1
  ·rw [if_neg hji]
   rw [if_neg hji] at this
   exact this⟩
 have hq:(0:Int)<(if k<i then gM (fT dl q dc) sk sk[k] else if k=i then iG dl q dc sk sk[k] k else iG dl q dc sk sk[k] 0)↔(fT dl q dc sk[k]).2=false:=by
  split
  ·rw [← aRl];exact yV _ _
  ·split
   ·exact yV _ _
   ·exact yV _ _
 revert e2 hq;generalize (if k<i then gM (fT dl q dc) sk sk[k] else if k=i then iG dl q dc sk sk[k] k else iG dl q dc sk sk[k] 0)=pz
 intro e2 hq
 by_cases h1:(0:Int)<iG dl q dc sk s k
 ·by_cases h2:(0:Int)<pz
  ·by_cases h3:(fT dl q dc sk[k]).1<(fT dl q dc s).1
   ·have hv:iG dl q dc sk s (k+1)=iG dl q dc sk s k+1:=by rw [hsu,if_pos ⟨hp.1 h1,hq.1 h2,h3⟩]
    have hle:=jP hu e1;refine ⟨L.set i [sB s,iG dl q dc sk s k+1,(fT dl q dc s).1],⟨by rw [nZ];exact hI.1,fun j u hj => ?_⟩,?_⟩
    ·have:=hI.2 j u hj
     by_cases hji:j=i
     ·subst hji
      rw [hi] at hj
      cases hj;rw [if_neg (by omega),if_pos rfl,bCu (by rw [hI.1];exact hil)]
      show _=some [sB s,iG dl q dc sk s (k+1),(fT dl q dc s).1];rw [hv]
     ·rw [if_neg hji]
      rw [if_neg hji] at this
      rw [bOk (fun e=>hji e.symm)]
      exact this
    ·exact bMf hkk e1 hu h1 e2 h2 h3 (by unfold inR;omega) (by omega) hn (by rw [nZ]) (yS hu e1 _).symm rfl
   ·exact ⟨L,same (by rw [hsu,if_neg (fun h=>h3 h.2.2)]),bMg hkk e1 hu h1 e2 h2 (by omega) hn rfl⟩
  ·exact ⟨L,same (by rw [hsu,if_neg (fun h=>h2 (hq.2 h.2.1))]),bMh hkk e1 hu h1 e2 (by omega) hn rfl⟩
 ·exact ⟨L,same (by rw [hsu,if_neg (fun h=>h1 (hp.2 h.1))]),bMi hkk e1 hu (by omega) hn rfl⟩
theorem bSp(sk:Lqq)(bib:Int):aFg sk bib=bJ (fun x=>decide (x.getD 0 0=bib)) sk:=by
 unfold aFg aQ bJ;rw [List.findIdx?_map]
 congr 2
 funext x
 show decide (bib=x.getD 0 0)=_;rw [Bool.eq_iff_iff,decide_eq_true_eq,decide_eq_true_eq];exact eq_comm
theorem aXw(hd:bN dc)(hq:q.length≤1000)(us:uni 2 sk)(D3:sk.length≤100)(hs:sk.Pairwise fun a b=>a.getD 0 0<b.getD 0 0)(hr:∀ s∈sk,-1≤sT s∧sT s≤360000){base:Nat}:FV Tp 39 [.p (.agg (bB dl sk dc)),.p (aG q)] base (.p (.sl (cD dl q dc sk).length ((cD dl q dc sk).flatten.map aA))) []:=by
 have hl:sk.length≤1000:=by omega
 have hn:(aQ sk 0).Nodup:=by
  unfold aQ;rw [List.Nodup,List.pairwise_map];exact hs.imp fun h=>by omega
 have h0:=aE.range (P:=Tp) (k:=0) (b:=sub (cd Tryz.f39) [1,1,0,1,0,0]) (e := .exit 0) (fun i (o:Lqq)=>nU dl sk dc q o.length (o.flatten.map aA) i) (fun o=>nU dl sk dc q o.length (o.flatten.map aA) sk.length) (fun o s=>o++[Ki dl q dc s]) (fun i o=>o.length=i) (by simp) sk (a0:=[]) rfl
  (fun i x o hx ho=>by
   have hi:=aO hx;have hm:=Bi hx;refine ⟨by simp [ho],?_⟩
   obtain ⟨j,hj,Du⟩:=cJc hn hm;have hrx:=hr x hm;obtain ⟨y0,y1,rfl⟩:=len2 (us x hm);have hz:bJ (fun x=>decide (x.getD 0 0=y0)) sk=(j:Int):=(bSp sk y0).symm.trans hj
   unfold Ki;show aC _ _ _ _ _ (nU dl sk dc q (o++[[y0,if (cI dl q dc y0 y1).2 then -1 else 1,(cI dl q dc y0 y1).1]]).length ((o++[[y0,if (cI dl q dc y0 y1).2 then -1 else 1,(cI dl q dc y0 y1).1]]).flatten.map aA) (i+1))
   cases ht:cI dl q dc y0 y1 with
   | mk t b=>cases b with
    | true=>exact bLv (by omega) hx us hd hq hl hz Du hrx ht rfl ⟨rfl,by omega⟩ (aH (by omega)) (by simp) (by simp) rfl
    | false=>exact bLw (by omega) hx us hd hq hl hz Du hrx ht rfl ⟨rfl,by omega⟩ (aH (by omega)) (by simp) (by simp) rfl)
  (fun o _=>bLx (by omega))
 have em:∀ (l:Lqq) (o:Lqq),l.foldl (fun o s=>o++[Ki dl q dc s]) o=o++l.map (Ki dl q dc):=by
  intro l
  induction l with
  | nil=>intro o;simp
  | cons x l ih=>intro o;rw [lE,ih];simp
 rw [em,List.nil_append] at h0
 obtain ⟨L,hL,h1⟩:=aE.ex (P:=Tp) (k:=0) (b:=sub (cd Tryz.f39) [1,1,1,0,1,0,0]) (e := .exit 2) (fun i (L:Lqq)=>uF L.length (L.flatten.map aA) i) (fun L=>uF L.length (L.flatten.map aA) sk.length) (fun i L=>LnI dl q dc sk i (fun s=>iG dl q dc sk s 0) L) (by simp) sk.length
  (fun i L hi hI=>by
   have hx:sk[i]? = some sk[i]:=Av hi;obtain ⟨L',Km,hlp⟩:=cJe hx hl hI;refine ⟨L',⟨Km.1,fun j u hj => ?_⟩,bLy (by rw [hI.1];omega) hlp (aH (by omega)) rfl rfl rfl⟩
   have:=Km.2 j u hj;rw [this]
   by_cases h:j<i
   ·rw [if_pos h,if_pos (by omega)]
   ·by_cases h2:j=i
    ·rw [if_neg h,if_pos h2,if_pos (by omega)]
     show some [sB u,iG dl q dc sk u sk.length,(fT dl q dc u).1]=_;rw [aRl]
    ·rw [if_neg h,if_neg h2,if_neg (by omega)]
     split <;> rfl)
  (fun L hI=>bLz (by rw [hI.1];omega)) (acc:=sk.map (Ki dl q dc)) ⟨by rw [Cb],fun j s hj=>by
   rw [fR,hj,if_neg (by omega)]
   have:iG dl q dc sk s 0=if (fT dl q dc s).2 then -1 else 1:=by
    unfold iG;rw [List.take_zero];rfl
   show some [sB s,if (fT dl q dc s).2 then -1 else 1,(fT dl q dc s).1]=some [sB s,if j=0 then iG dl q dc sk s 0 else iG dl q dc sk s 0,(fT dl q dc s).1]
   rw [← this]
   split <;> rfl⟩
 have hLe:L=xE dl q dc sk:=by
  refine List.ext_getElem? fun j => ?_
  unfold xE;rw [fR];cases hj:sk[j]? with
  | none =>
   have:=List.getElem?_eq_none_iff.1 hj;rw [List.getElem?_eq_none_iff.2 (by rw [hL.1];exact this)]
   rfl
  | some s =>
   have:=aO hj;rw [hL.2 j s hj,if_pos this];rfl
 have hLu:=hL.uni;have hLl:=hL.1;have h2:=aE.times (P:=Tp) (k:=0) (b:=sub (cd Tryz.f39) [1,1,1,1,1,0,1,0,0]) (e := .exit 6) (fun i (o:Lqq)=>uG L o.length (o.flatten.map aA) ((i:Int)+1)) (fun o=>uG L o.length (o.flatten.map aA) ((sk.length:Int)+1)) (fun o i=>o++L.filter fun x=>decide (x.getD 1 0=(i:Int)+1)) (fun i o=>o.length≤100*i) (by simp) sk.length (a0:=[]) (by simp)
  (fun i o hi ho=>by
   have hfl:(L.filter fun x=>decide (x.getD 1 0=(i:Int)+1)).length≤L.length:=mI _ _
   refine ⟨by rw [iF];omega,?_⟩
   have hin:=aE.range (P:=Tp) (k:=0) (b:=sub (cd Tryz.f39) [1,1,1,1,1,0,1,0,0,1,0,0,1,0,0]) (e := .exit 8) (fun j (o:Lqq)=>pT L ((i:Int)+1) o.length (o.flatten.map aA) j) (fun o=>pT L ((i:Int)+1) o.length (o.flatten.map aA) L.length) (fun o x=>if x.getD 1 0=(i:Int)+1 then o++[x] else o) (fun j o'=>o'.length≤o.length+j) (by simp) L (a0:=o) (by simp)
    (fun j x o' hx Dw=>by
     have hj:=aO hx;obtain ⟨x0,x1,x2,rfl⟩:=Da (hLu x (Bi hx))
     by_cases he:x1=(i:Int)+1
     ·rw [if_pos (show ([x0,x1,x2]:List Int).getD 1 0=_ from he)]
      exact ⟨by rw [iF,List.length_singleton];omega,bMk (by omega) hx hLu he ⟨rfl,by omega⟩ (aH (by omega)) (by simp) (by simp) rfl⟩
     ·rw [if_neg (show ¬ ([x0,x1,x2]:List Int).getD 1 0=_ from he)]
      exact ⟨by omega,bMl (by omega) hx hLu he (aH (by omega)) rfl⟩)
    (fun o' _=>bMm (by omega))
   have ef:∀ (l:Lqq) (o:Lqq),l.foldl (fun o x=>if x.getD 1 0=(i:Int)+1 then o++[x] else o) o=o++l.filter fun x=>decide (x.getD 1 0=(i:Int)+1):=by
    intro l
    induction l with
    | nil=>intro o;simp
    | cons x l ih =>
     intro o;rw [lE,ih,List.filter_cons]
     by_cases h:x.getD 1 0=(i:Int)+1
     ·rw [if_pos h,if_pos (by simp only [h,decide_true])];simp
     ·rw [if_neg h,if_neg (by simp only [h,decide_false];simp)]
   rw [ef] at hin
   exact bMa (by rw [hLl];omega) hin (by unfold inR;omega) rfl rfl (by omega))
  (fun o _=>bMb (by rw [hLl];omega))
 rw [aRn,List.nil_append] at h2
 have e1:(((0:Nat):Int)+1)=1:=rfl;simp only [e1] at h2
 revert h2;have hol:((List.range sk.length).flatMap fun (i:Nat)=>L.filter fun x=>decide (x.getD 1 0=(i:Int)+1)).length≤100*sk.length:=by
  have key:∀ n,((List.range n).flatMap fun (i:Nat)=>L.filter fun x=>decide (x.getD 1 0=(i:Int)+1)).length≤100*n:=by
   intro n
   induction n with
   | zero=>simp
   | succ n ih =>
    rw [List.range_succ,List.flatMap_append,iF];have hfl:(L.filter fun x=>decide (x.getD 1 0=(n:Int)+1)).length≤L.length:=mI _ _
    have e:([n].flatMap fun (i:Nat)=>L.filter fun x=>decide (x.getD 1 0=(i:Int)+1))=L.filter fun x=>decide (x.getD 1 0=(n:Int)+1):=by simp
    rw [e];omega
  exact key _
 have hb:=cJf (dl:=dl) (q:=q) (dc:=dc) hs;rw [← hLe] at hb
 unfold byP at hb
 revert hol hb;generalize ((List.range sk.length).flatMap fun (i:Nat)=>L.filter fun x=>decide (x.getD 1 0=(i:Int)+1))=O
 intro hol hb h2;have h3:=aE.range (P:=Tp) (k:=0) (b:=sub (cd Tryz.f39) [1,1,1,1,1,1,0,1,0,0]) (e := .exit 10) (fun j (o:Lqq)=>pR L o.length (o.flatten.map aA) j) (fun o=>pR L o.length (o.flatten.map aA) L.length) (fun o x=>if x.getD 1 0<0 then o++[x] else o) (fun j o'=>o'.length≤O.length+j) (by simp) L (a0:=O) (by simp)
  (fun j x o' hx Dw=>by
   have hj:=aO hx;obtain ⟨x0,x1,x2,rfl⟩:=Da (hLu x (Bi hx))
   by_cases he:x1<0
   ·rw [if_pos (show ([x0,x1,x2]:List Int).getD 1 0<0 from he)]
    exact ⟨by rw [iF,List.length_singleton];omega,bMc (by omega) hx hLu he ⟨rfl,by omega⟩ (aH (by omega)) (by simp) (by simp) rfl⟩
   ·rw [if_neg (show ¬ ([x0,x1,x2]:List Int).getD 1 0<0 from he)]
    exact ⟨by omega,bMd (by omega) hx hLu (by omega) (aH (by omega)) rfl⟩)
  (fun o' _=>bMe (by omega))
 have ef:∀ (l:Lqq) (o:Lqq),l.foldl (fun o x=>if x.getD 1 0<0 then o++[x] else o) o=o++l.filter fun x=>decide (x.getD 1 0<0):=by
  intro l
  induction l with
  | nil=>intro o;simp
  | cons x l ih =>
   intro o;rw [lE,ih,List.filter_cons]
   by_cases h:x.getD 1 0<0
   ·rw [if_pos h,if_pos (by simp only [h,decide_true])];simp
   ·rw [if_neg h,if_neg (by simp only [h,decide_false];simp)]
 rw [ef,hb] at h3
 exact cJg h0 h1 h2 h3
end
end
section
section
variable {dl:Int} {sk dc:Lqq}
end
end
section

end
section
end
section

end
section

theorem cJx(l:List Int)(v:Int)(hl:l.length≤1000){base:Nat}:FV Tp 52 [.p (aG l),.p (aA v)] base (.p (blP (l.contains v))) []:=pD l v hl
end
section

end
section
variable {a b r0:Bool}{fi Aa Ab Ac E4 E5:Int}{c l:Lqq}{o su:List Int}{i j i' j' Bm base:Nat}
variable {dl:Int}{sk dc:Lqq}

noncomputable abbrev aNg:Code:=pS (cd Tryz.f93) 7 [0,1,0,0]
noncomputable abbrev aGi:Code:=sub (cd Tryz.f162) [1,0,1,0,0]
noncomputable abbrev aNh:Code:=sub (cd Tryz.f97) [1,1,1,0,1,0,0]
theorem aYa:((0:Int) != 0)=false:=by first | decide | simp
theorem cJp{l:List Int}(h0:(b == a)=false)(A4:r0=(decide ((l.length:Int)<2))):FV Tp 96 [(.p (aG l)),(pB a),(pB b)] base (pB r0) []:=by
 subst A4;exact FV.fi func96 [bT,bT,bT,bT] (Aw (bM h0) gn)
theorem cJq{l:List Int}(h0:(b == a)=true):FV Tp 96 [(.p (aG l)),(pB a),(pB b)] base (pB false) []:=FV.fi func96 [bF,bF,bF,bF] (Aw (aV h0) gn)
def aNi(l:List Int)(a b:Bool):Bool:=(!(b == a)) && decide ((l.length:Int)<2)
theorem bSu(l:List Int)(a b:Bool){base:Nat}:FV Tp 96 [.p (aG l),.p (blP a),.p (blP b)] base (pB (aNi l a b)) []:=by
 unfold aNi;cases h:(b == a) with
 | false=>exact cJp h rfl
 | true=>exact cJq h
def pV(dl:Int)(sk:Lqq)(dc:Lqq)(on:Nat)(oc:List PV)(i:Nat):St:=⟨fr 58 [(2,(.fn 96 [] [])),(6,(.p bX)),(7,(pI 0)),(10,(.p (.sl ((aJ dl (aB sk) (aB dc)).length) (((aJ dl (aB sk) (aB dc)).map hpE).flatten)))),(11,(.own 0)),(36,(.p (.sl ((aB sk).length) ((aB sk).flatten.map aA)))),(37,(pI (((aB sk).length:Nat):Int))),(38,(pI (i:Int)))],[some (.row 3 on oc)]⟩
theorem cJr{D6:List Int}{Ev:Nat}(h0:bR dl sk dc)(h1:(1:Int)≤fi)(h2:(aP dl (aB dc)).length≤8)(Cn:aE Tp 0 aNg (pV dl sk dc 0 [] 0) (.exit 0) (pV dl sk dc D6.length (D6.map aA) Ev)):FV Tp 93 [(.p (.agg (bB dl sk dc))),(pI fi),(.fn 96 [] [])] base (.tup [(.p (aG D6)),(pI 0)]) []:=have k1:=fk 1 (fE dl sk dc h0) rfl;have k2:=fk 1 (aCp h0 h2) rfl;FV.frz (FMM.fi 0 ⟨[],[],[0],[]⟩ func93 [k1.o,bF,bF,k2.o,bF,.g 1 ⟨[],[0],[1],[]⟩,.x (.sl ((aB sk).length) ((aB sk).flatten.map aA)),Cn.k 1 (gN [0,2,3,3,8,2,12,24,39,18] [1] [(11,3)])] (gc Cn.code (gr (.sl ((aB sk).length) ((aB sk).flatten.map aA)) (gc aYa (gc k2 (gc (aN h1) (gc aYa (gc k1 gn)))))))) (by kernel_rfl)
theorem cJs(h0:bR dl sk dc)(h1:(1:Int)≤fi)(h2:8<(aP dl (aB dc)).length):FV Tp 93 [(.p (.agg (bB dl sk dc))),(pI fi),(.fn 96 [] [])] base (.tup [(.p bX),(pI 10)]) []:=have k1:=fk 1 (fE dl sk dc h0) rfl;have k2:=fk 1 (aAd h0 h2) rfl;FV.frz (FMM.fi 0 gE func93 [k1.o,bF,bF,k2.o,bT] (gt (((10:Int) != 0)=true) (by first | decide | simp) (gc k2 (gc (aN h1) (gc aYa (gc k1 gn)))))) (by kernel_rfl)
theorem cJt{r0:Int}(h0:uni 2 sk)(h1:uni 6 dc)(h2:(jQ dl sk dc)≠0)(A4:r0=(jQ dl sk dc)):FV Tp 93 [(.p (.agg (bB dl sk dc))),(pI fi),(.fn 96 [] [])] base (.tup [(.p bX),(pI r0)]) []:=by
 subst A4;have k1:=fk 1 (aFk dl sk dc h0 h1 h2) rfl;exact FV.frz (FMM.fi 0 gE func93 [k1.o,bT] (gc (jF h2) (gc k1 gn))) (by kernel_rfl)
theorem bMq{A3:List bD}{o':List Int}(h0:(i:Int)<(((aB sk).length:Nat):Int))(h1:(aB sk)[i]? = some [Aa,Ab])(h2:uni 2 (aB sk))(h3:(aJ dl (aB sk) (aB dc))[i]? = some (A3,E4,E5))(h4:(aJ dl (aB sk) (aB dc)).length≤1000)(h5:A3.length≤256)(h6:(aNi (eJ (aJ dl (aB sk) (aB dc)) i A3) (A3.any fun x=>x.2.1) (A3.any fun x => !x.2.1))=true)(h7:[(aA Aa)].length=1*1∧o.length+1≤1000000)(h8:inR (((i+1):Nat):Int))(B1:o'.length=(o.length+1))(B2:o'.map aA=((o.map aA)++[(aA Aa)]))(Ai:i'=(i+1)):aC Tp 0 aNg (pV dl sk dc o.length (o.map aA) i) .normal (pV dl sk dc o'.length (o'.map aA) i'):=by
 subst Ai;have k1:=fk 2 (xB h4 h3 h5) rfl;have k2:=fk 2 (bSu (eJ (aJ dl (aB sk) (aB dc)) i A3) (A3.any fun x=>x.2.1) (A3.any fun x => !x.2.1)) rfl;rw [B1,B2];exact aC.fi (gI [0,2,3,3,8,2,12,24,39,18] [3]) [bT,.x (.agg [(aA Aa),(aA Ab)]),k1.o,k2.o,bT] (gc h8 (gc h7 (gc h6 (gc k2 (gc k1 (gfl h2 h1 (gc (aI h0) gn)))))))
theorem bMr{A3:List bD}(h0:(i:Int)<(((aB sk).length:Nat):Int))(h1:(aB sk)[i]? = some [Aa,Ab])(h2:uni 2 (aB sk))(h3:(aJ dl (aB sk) (aB dc))[i]? = some (A3,E4,E5))(h4:(aJ dl (aB sk) (aB dc)).length≤1000)(h5:A3.length≤256)(h6:(aNi (eJ (aJ dl (aB sk) (aB dc)) i A3) (A3.any fun x=>x.2.1) (A3.any fun x => !x.2.1))=false)(h7:inR (((i+1):Nat):Int))(Ai:i'=(i+1)):aC Tp 0 aNg (pV dl sk dc o.length (o.map aA) i) .normal (pV dl sk dc o.length (o.map aA) i'):=by
 subst Ai;have k1:=fk 2 (xB h4 h3 h5) rfl;have k2:=fk 2 (bSu (eJ (aJ dl (aB sk) (aB dc)) i A3) (A3.any fun x=>x.2.1) (A3.any fun x => !x.2.1)) rfl;exact aC.fi (gI [0,2,3,3,8,2,12,24,39,18] [0]) [bT,.x (.agg [(aA Aa),(aA Ab)]),k1.o,k2.o,bF] (gc h7 (gc h6 (gc k2 (gc k1 (gfl h2 h1 (gc (aI h0) gn))))))
theorem bMs(h0:(((aB sk).length:Nat):Int)≤(i:Int)):aC Tp 0 aNg (pV dl sk dc o.length (o.map aA) i) (.exit 0) (pV dl sk dc o.length (o.map aA) i):=aC.fi (gI [0,2,3,3,8,2,12,24,39,18] [0]) [bF] (gc (aN h0) gn)
theorem cJu{a b c:Int}(h0:su.length≤1000)(A4:r0=(!(su.contains a))):FV Tp 98 [(.p (.agg [(aA a),(aA b),(aA c)])),(.rp [(aG su)] 0)] base (pB r0) []:=by
 subst A4;have k1:=fk 1 (cJx su a h0) rfl;exact FV.fi func98 [.x (aG su),k1.o] (gc k1 (gr (aG su) gn))
theorem aNj(a b c:Int)(su:List Int)(h:su.length≤1000){base:Nat}:FV Tp 98 [.p (.agg [aA a,aA b,aA c]),.rp [aG su] 0] base (pB (!(su.contains a))) []:=cJu h rfl
def jE(l:Lqq)(su:List Int)(i:Nat):St:=⟨fr 19 [(0,(.own 0)),(1,(.fn 98 [] [(.rp [(aG su)] 0)])),(7,(pI (l.length:Int))),(8,(pI (i:Int)))],[some (.row 48 l.length (l.flatten.map aA))]⟩
theorem bZj(hl0:aE Tp 1 aGi (jE l su 0) (.exit 0) (jE l su Bm)):FMM Tp 162 [(.own 0),(.fn 98 [] [(.rp [(aG su)] 0)])] [some (.row 48 l.length (l.flatten.map aA))] (pI (-1)) [some (.row 48 l.length (l.flatten.map aA))]:=FMM.fi 1 gE func162 [hl0.k 6 (gZ [2,5,9,10])] (gc hl0.code gn)
theorem bZk(hl0:aE Tp 1 aGi (jE l su 0) .ret (bS (jE l su Bm) [(4,(pI (Bm:Int)))])):FMM Tp 162 [(.own 0),(.fn 98 [] [(.rp [(aG su)] 0)])] [some (.row 48 l.length (l.flatten.map aA))] (pI (Bm:Int)) [some (.row 48 l.length (l.flatten.map aA))]:=FMM.fi 1 gE func162 [hl0.k 6 (gZ [2,5,9,10])] (gc hl0.code gn)
theorem aYb(h0:(i:Int)<(l.length:Int))(h1:l[i]? = some [Aa,Ab,Ac])(h2:uni 3 l)(h3:su.length≤1000)(h4:(!(su.contains Aa))=true):aC Tp 1 aGi (jE l su i) .ret (bS (jE l su i) [(4,(pI (i:Int)))]):=have k1:=fk 1 (aNj Aa Ab Ac su h3) rfl;aC.fi (gZ [2,2,5,2,9,10]) [bT,.x (.agg [(aA Aa),(aA Ab),(aA Ac)]),k1.o,bT] (gc h4 (gc k1 (gc (iA (i:=i) h2 h1) (gc (jP (i:=i) h2 h1) (gc (bZ (i:=(i:Int)) (Br _) h1) (gc (aI h0) gn))))))
theorem aYc(h0:(i:Int)<(l.length:Int))(h1:l[i]? = some [Aa,Ab,Ac])(h2:uni 3 l)(h3:su.length≤1000)(h4:(!(su.contains Aa))=false)(h5:inR (((i+1):Nat):Int))(Ai:i'=(i+1)):aC Tp 1 aGi (jE l su i) .normal (jE l su i'):=by
 subst Ai;have k1:=fk 1 (aNj Aa Ab Ac su h3) rfl;exact aC.fi (gZ [2,5,9,10]) [bT,.x (.agg [(aA Aa),(aA Ab),(aA Ac)]),k1.o,bF] (gc h5 (gc h4 (gc k1 (gc (iA (i:=i) h2 h1) (gc (jP (i:=i) h2 h1) (gc (bZ (i:=(i:Int)) (Br _) h1) (gc (aI h0) gn)))))))
theorem aYd(h0:(l.length:Int)≤(i:Int)):aC Tp 1 aGi (jE l su i) (.exit 0) (jE l su i):=aC.fi (gZ [2,5,9,10]) [bF] (gc (aN h0) gn)
abbrev bZl(l:Lqq)(su:List Int)(i:Int):Prop:=FMM Tp 162 [.own 0,(.fn 98 [] [(.rp [(aG su)] 0)])] [some (.row 48 l.length (l.flatten.map aA))] (pI i) [some (.row 48 l.length (l.flatten.map aA))]
def pW(su:List Int)(cn:Nat)(cc:List PV)(i:Nat)(j:Nat):St:=⟨fr 42 [(0,(.own 0)),(1,(.fn 98 [] [(.rp [(aG su)] 0)])),(4,(.p bX)),(5,(pI (i:Int))),(6,(pI (j:Int)))],[some (.row 48 cn cc)]⟩
theorem cJv{i0:Nat}{Cg:Lqq}{B5 Np:Nat}{Ei:List PV}(h0:bZl l su (i0:Int))(h1:(i0:Int)≠(-1:Int))(h2:inR (((i0+1):Nat):Int))(Cn:aE Tp 1 aNh (pW su l.length (l.flatten.map aA) i0 (i0+1)) (.exit 0) (pW su Cg.length (Cg.flatten.map aA) B5 Np))(h4:0≤(B5:Int)∧(B5:Int)≤(Cg.length:Int)∧(Cg.length:Int)≤(Cg.length:Int))(h5:(B5*3)+(Cg.length-B5)*3≤(Cg.flatten.map aA).length)(h6:0≤(0:Int)∧(0:Int)≤(B5:Int)∧(B5:Int)≤(Cg.length:Int))(D2:Ei=((((Cg.flatten.map aA).take (B5*3)++(List.replicate (Cg.length-B5) (List.map PV.v [(.int .i64 0),(.int .i64 0),(.int .i64 0)])).flatten++(Cg.flatten.map aA).drop ((B5*3)+(Cg.length-B5)*3)).drop 0).take (B5*(((Cg.flatten.map aA).take (B5*3)++(List.replicate (Cg.length-B5) (List.map PV.v [(.int .i64 0),(.int .i64 0),(.int .i64 0)])).flatten++(Cg.flatten.map aA).drop ((B5*3)+(Cg.length-B5)*3)).length / Cg.length)))):FMM Tp 97 [(.own 0),(.fn 98 [] [(.rp [(aG su)] 0)])] [some (.row 48 l.length (l.flatten.map aA))] (.p (.sl B5 Ei)) [some .dead]:=by
 subst D2;have k1:=mq [0] 1 h0;exact FMM.fi 1 ⟨[],[],[0],[]⟩ func97 [k1.o,bF,Cn.k 4 (gZ [2,2,7,29])] (gc h6 (gc h5 (gc h4 (gc Cn.code (gc h2 (gc (aU h1) (gc k1 gn)))))))
theorem cJw(h0:bZl l su (-1)):FMM Tp 97 [(.own 0),(.fn 98 [] [(.rp [(aG su)] 0)])] [some (.row 48 l.length (l.flatten.map aA))] (.p (fS l)) [some .dead]:=have k1:=mq [0] 1 h0;FMM.fi 1 ⟨[],[],[0],[]⟩ func97 [k1.o,bT] (gt (((-1:Int) == (-1))=true) (by first | decide | simp) (gc k1 gn))
theorem bMt{Ad Ae Af:Int}{c':Lqq}(h0:(j:Int)<(c.length:Int))(h1:c[j]? = some [Aa,Ab,Ac])(h2:uni 3 c)(h3:su.length≤1000)(h4:(!(su.contains Aa))=false)(h5:c[i]? = some [Ad,Ae,Af])(h6:[(aA Aa),(aA Ab),(aA Ac)].length=3∧(i*3)+3≤(c.flatten.map aA).length)(h7:inR (((i+1):Nat):Int))(h8:inR (((j+1):Nat):Int))(Kd:c'.length=c.length)(Ke:c'.flatten.map aA=((c.flatten.map aA).take (i*3)++[(aA Aa),(aA Ab),(aA Ac)]++(c.flatten.map aA).drop ((i*3)+3)))(Ai:i'=(i+1))(Eo:j'=(j+1)):aC Tp 1 aNh (pW su c.length (c.flatten.map aA) i j) .normal (pW su c'.length (c'.flatten.map aA) i' j'):=by
 subst Ai Eo;have k1:=fk 2 (aNj Aa Ab Ac su h3) rfl;rw [Kd,Ke];exact aC.fi (gZ [2,2,7,29]) [bT,.x (.agg [(aA Aa),(aA Ab),(aA Ac)]),k1.o,bT] (gc h8 (gc h7 (gc h6 (gc (bZ (i:=(i:Int)) (Br _) h5) (gc (bM h4) (gc k1 (gc (iA (i:=j) h2 h1) (gc (jP (i:=j) h2 h1) (gc (bZ (i:=(j:Int)) (Br _) h1) (gc (aI h0) gn))))))))))
theorem bMu(h0:(j:Int)<(c.length:Int))(h1:c[j]? = some [Aa,Ab,Ac])(h2:uni 3 c)(h3:su.length≤1000)(h4:(!(su.contains Aa))=true)(h5:inR (((j+1):Nat):Int))(Eo:j'=(j+1)):aC Tp 1 aNh (pW su c.length (c.flatten.map aA) i j) .normal (pW su c.length (c.flatten.map aA) i j'):=by
 subst Eo;have k1:=fk 2 (aNj Aa Ab Ac su h3) rfl;exact aC.fi (gZ [2,2,7,29]) [bT,.x (.agg [(aA Aa),(aA Ab),(aA Ac)]),k1.o,bF] (gc h5 (gc (aV h4) (gc k1 (gc (iA (i:=j) h2 h1) (gc (jP (i:=j) h2 h1) (gc (bZ (i:=(j:Int)) (Br _) h1) (gc (aI h0) gn)))))))
theorem bMv(h0:(c.length:Int)≤(j:Int)):aC Tp 1 aNh (pW su c.length (c.flatten.map aA) i j) (.exit 0) (pW su c.length (c.flatten.map aA) i j):=aC.fi (gZ [2,2,7,29]) [bF] (gc (aN h0) gn)
abbrev bMw(dl:Int)(sk dc:Lqq)(fi:Int)(o:List Int):Prop:=∀ base:Nat,FV Tp 93 [.p (.agg (bB dl sk dc)),.p (aA fi),.fn 96 [] []] base (.tup [.p (aG o),.p (aA 0)]) []
end
section
variable {a b:Bool}{f fi Aa Ab E4 E5:Int}{l o:List Int}{i i' base:Nat}
variable {dl:Int}{sk dc:Lqq}

noncomputable abbrev aNe:Code:=pS (cd Tryz.f93) 7 [0,1,0,0]
theorem aNf:((0:Int) != 0)=false:=by first | decide | simp
theorem cJj{x0:Int}{r0:Bool}(h0:b=true)(h1:l[0]? = some x0)(A4:r0=(decide (x0≤f))):FV Tp 94 [(.p (aG l)),(pB a),(pB b),(.rp [(aA f)] 0)] base (pB r0) []:=by
 subst A4;exact FV.fi func94 [bT,bT,bT,.x (aA x0),bT,.x (aA f),bT,bT] (Az h0 (gr (aA f) (gc h0 (gt ((l.map aA)[0]? = some (aA x0)) (iK (i:=0) h1) (gc h0 (gt (0≤(0:Int)∧(0:Int)<(l.length:Int)∧0<(l.map aA).length) (iL (i:=(0:Int)) (by first | decide | simp) h1) (Az h0 gn)))))))
theorem cJk(h0:b=false):FV Tp 94 [(.p (aG l)),(pB a),(pB b),(.rp [(aA f)] 0)] base (pB false) []:=FV.fi func94 (rF 6) (Fx h0 gn)
def aRr(l:List Int)(b:Bool)(f:Int):Bool:=b && decide (l.getD 0 0≤f)
theorem bSs(l:List Int)(a b:Bool)(f:Int)(hb:b=true→l≠[]){base:Nat}:FV Tp 94 [.p (aG l),.p (blP a),.p (blP b),.rp [aA f] 0] base (pB (aRr l b f)) []:=by
 cases b with
 | false=>exact cJk rfl
 | true =>
  have h0:=hb rfl;have h1:0<l.length:=List.length_pos_iff.2 h0;have h2:l[0]? = some (l.getD 0 0):=by rw [Bv,Av h1];rfl
  exact cJj (x0:=l.getD 0 0) rfl h2 (by unfold aRr;simp)
def pU(dl:Int)(sk:Lqq)(dc:Lqq)(fi:Int)(on:Nat)(oc:List PV)(i:Nat):St:=⟨fr 58 [(2,(.fn 94 [] [(.rp [(aA fi)] 0)])),(6,(.p bX)),(7,(pI 0)),(10,(.p (.sl ((aJ dl (aB sk) (aB dc)).length) (((aJ dl (aB sk) (aB dc)).map hpE).flatten)))),(11,(.own 0)),(36,(.p (.sl ((aB sk).length) ((aB sk).flatten.map aA)))),(37,(pI (((aB sk).length:Nat):Int))),(38,(pI (i:Int)))],[some (.row 3 on oc)]⟩
theorem bSt(h0:bR dl sk dc)(h1:fi<1):FV Tp 93 [(.p (.agg (bB dl sk dc))),(pI fi),(.fn 94 [] [(.rp [(aA fi)] 0)])] base (.tup [(.p bX),(pI 3)]) []:=have k1:=fk 1 (fE dl sk dc h0) rfl;FV.frz (FMM.fi 0 gE func93 [k1.o,bF,bT] (gc (aI h1) (gc aNf (gc k1 gn)))) (by kernel_rfl)
theorem cJl{D6:List Int}{Ev:Nat}(h0:bR dl sk dc)(h1:(1:Int)≤fi)(h2:(aP dl (aB dc)).length≤8)(Cn:aE Tp 0 aNe (pU dl sk dc fi 0 [] 0) (.exit 0) (pU dl sk dc fi D6.length (D6.map aA) Ev)):FV Tp 93 [(.p (.agg (bB dl sk dc))),(pI fi),(.fn 94 [] [(.rp [(aA fi)] 0)])] base (.tup [(.p (aG D6)),(pI 0)]) []:=have k1:=fk 1 (fE dl sk dc h0) rfl;have k2:=fk 1 (aCp h0 h2) rfl;FV.frz (FMM.fi 0 ⟨[],[],[0],[]⟩ func93 [k1.o,bF,bF,k2.o,bF,.g 1 ⟨[],[0],[1],[]⟩,.x (.sl ((aB sk).length) ((aB sk).flatten.map aA)),Cn.k 1 (gN [0,2,3,3,8,2,12,24,39,18] [1] [(11,3)])] (gc Cn.code (gr (.sl ((aB sk).length) ((aB sk).flatten.map aA)) (gc aNf (gc k2 (gc (aN h1) (gc aNf (gc k1 gn)))))))) (by kernel_rfl)
theorem cJm(h0:bR dl sk dc)(h1:(1:Int)≤fi)(h2:8<(aP dl (aB dc)).length):FV Tp 93 [(.p (.agg (bB dl sk dc))),(pI fi),(.fn 94 [] [(.rp [(aA fi)] 0)])] base (.tup [(.p bX),(pI 10)]) []:=have k1:=fk 1 (fE dl sk dc h0) rfl;have k2:=fk 1 (aAd h0 h2) rfl;FV.frz (FMM.fi 0 gE func93 [k1.o,bF,bF,k2.o,bT] (gt (((10:Int) != 0)=true) (by first | decide | simp) (gc k2 (gc (aN h1) (gc aNf (gc k1 gn)))))) (by kernel_rfl)
theorem cJn{r0:Int}(h0:uni 2 sk)(h1:uni 6 dc)(h2:(jQ dl sk dc)≠0)(A4:r0=(jQ dl sk dc)):FV Tp 93 [(.p (.agg (bB dl sk dc))),(pI fi),(.fn 94 [] [(.rp [(aA fi)] 0)])] base (.tup [(.p bX),(pI r0)]) []:=by
 subst A4;have k1:=fk 1 (aFk dl sk dc h0 h1 h2) rfl;exact FV.frz (FMM.fi 0 gE func93 [k1.o,bT] (gc (jF h2) (gc k1 gn))) (by kernel_rfl)
theorem bMn{A3:List bD}{o':List Int}(h0:(i:Int)<(((aB sk).length:Nat):Int))(h1:(aB sk)[i]? = some [Aa,Ab])(h2:uni 2 (aB sk))(h3:(aJ dl (aB sk) (aB dc))[i]? = some (A3,E4,E5))(h4:(aJ dl (aB sk) (aB dc)).length≤1000)(h5:A3.length≤256)(h6:(A3.any fun x => !x.2.1)=true→(eJ (aJ dl (aB sk) (aB dc)) i A3)≠[])(h7:(aRr (eJ (aJ dl (aB sk) (aB dc)) i A3) (A3.any fun x => !x.2.1) fi)=true)(h8:[(aA Aa)].length=1*1∧o.length+1≤1000000)(h9:inR (((i+1):Nat):Int))(B1:o'.length=(o.length+1))(B2:o'.map aA=((o.map aA)++[(aA Aa)]))(Ai:i'=(i+1)):aC Tp 0 aNe (pU dl sk dc fi o.length (o.map aA) i) .normal (pU dl sk dc fi o'.length (o'.map aA) i'):=by
 subst Ai;have k1:=fk 2 (xB h4 h3 h5) rfl;have k2:=fk 2 (bSs (eJ (aJ dl (aB sk) (aB dc)) i A3) (A3.any fun x=>x.2.1) (A3.any fun x => !x.2.1) fi h6) rfl;rw [B1,B2];exact aC.fi (gI [0,2,3,3,8,2,12,24,39,18] [3]) [bT,.x (.agg [(aA Aa),(aA Ab)]),k1.o,k2.o,bT] (gc h9 (gc h8 (gc h7 (gc k2 (gc k1 (gfl h2 h1 (gc (aI h0) gn)))))))
theorem bMo{A3:List bD}(h0:(i:Int)<(((aB sk).length:Nat):Int))(h1:(aB sk)[i]? = some [Aa,Ab])(h2:uni 2 (aB sk))(h3:(aJ dl (aB sk) (aB dc))[i]? = some (A3,E4,E5))(h4:(aJ dl (aB sk) (aB dc)).length≤1000)(h5:A3.length≤256)(h6:(A3.any fun x => !x.2.1)=true→(eJ (aJ dl (aB sk) (aB dc)) i A3)≠[])(h7:(aRr (eJ (aJ dl (aB sk) (aB dc)) i A3) (A3.any fun x => !x.2.1) fi)=false)(h8:inR (((i+1):Nat):Int))(Ai:i'=(i+1)):aC Tp 0 aNe (pU dl sk dc fi o.length (o.map aA) i) .normal (pU dl sk dc fi o.length (o.map aA) i'):=by
 subst Ai;have k1:=fk 2 (xB h4 h3 h5) rfl;have k2:=fk 2 (bSs (eJ (aJ dl (aB sk) (aB dc)) i A3) (A3.any fun x=>x.2.1) (A3.any fun x => !x.2.1) fi h6) rfl;exact aC.fi (gI [0,2,3,3,8,2,12,24,39,18] [0]) [bT,.x (.agg [(aA Aa),(aA Ab)]),k1.o,k2.o,bF] (gc h8 (gc h7 (gc k2 (gc k1 (gfl h2 h1 (gc (aI h0) gn))))))
theorem bMp(h0:(((aB sk).length:Nat):Int)≤(i:Int)):aC Tp 0 aNe (pU dl sk dc fi o.length (o.map aA) i) (.exit 0) (pU dl sk dc fi o.length (o.map aA) i):=aC.fi (gI [0,2,3,3,8,2,12,24,39,18] [0]) [bF] (gc (aN h0) gn)
abbrev cLe(dl:Int)(sk dc:Lqq)(fi:Int)(o:List Int):Prop:=∀ base:Nat,FV Tp 93 [.p (.agg (bB dl sk dc)),.p (aA fi),.fn 94 [] [.rp [aA fi] 0]] base (.tup [.p (aG o),.p (aA 0)]) []
theorem cJo{o0:List Int}(h0:cLe dl sk dc fi o0):FV Tp 32 [(.p (.agg (bB dl sk dc))),(pI fi)] base (.tup [(.p (aG o0)),(pI 0)]) []:=FV.fi func32 [.g 3 ⟨[],[0],[1],[]⟩,.x (aA fi),.c (.tup [(.p (aG o0)),(pI 0)]) []] (gc (fk 1 (h0 _) rfl) (gr (aA fi) gn))
end
section
def aHf(dl:Int)(sk dc:Lqq)(f:Int)(i:Nat):Bool:=match (aJ dl sk dc)[i]? with
 | some h=>aRr (eJ (aJ dl sk dc) i h.1) (h.1.any fun x => !x.2.1) f
 | none=>false
def aNd(dl:Int)(sk dc:Lqq)(f:Int):List Int:=((List.range sk.length).filter (aHf dl sk dc f)).map fun i=>(sk.getD i []).getD 0 0
theorem cJh{dl:Int}{sk dc:Lqq}(h:bR dl sk dc){f:Int}(hf:1≤f)(ho:(aP dl (aB dc)).length≤8):cLe dl sk dc f (aNd dl (aB sk) (aB dc) f):=fun base=>by
 obtain ⟨h1,h2,_,_⟩:=fN h;obtain ⟨o,hI,hL⟩:=aE.ex (P:=Tp) (k:=0) (b:=sub (cd Tryz.f93) [1,1,1,1,1,1,1,0,1,0,0]) (e := .exit 0) (fun i (o:List Int)=>pU dl sk dc f o.length (o.map aA) i) (fun o=>pU dl sk dc f o.length (o.map aA) (aB sk).length)
  (fun i o=>o=((List.range i).filter (aHf dl (aB sk) (aB dc) f)).map fun i=>((aB sk).getD i []).getD 0 0) (by simp) (aB sk).length
  (fun i o hi hoE=>by
   obtain ⟨y0,y1,hy⟩:=at2 h1 hi;have hat:=iR (dl:=dl) (dc:=aB dc) hy;have hlen:o.length≤i:=by
    rw [hoE,Cb];have:=mI (aHf dl (aB sk) (aB dc) f) (List.range i);simpa using this
   have hmb:aHf dl (aB sk) (aB dc) f i=aRr (eJ (aJ dl (aB sk) (aB dc)) i (iD dl (aB dc) y0 y1 (kB dl (aB dc) y0)).1) ((iD dl (aB dc) y0 y1 (kB dl (aB dc) y0)).1.any fun x => !x.2.1) f:=by
    unfold aHf;rw [hat];rfl
   have hal:(aJ dl (aB sk) (aB dc)).length≤1000:=by rw [nK];omega
   have hc:=yN (s0:=y0) (s1:=y1) y0 ho;have hg:((aB sk).getD i []).getD 0 0=y0:=by simp [Bv,hy]
   cases hb:aHf dl (aB sk) (aB dc) f i with
   | true =>
    refine ⟨o++[y0],?_,bMn (by omega) hy h1 hat hal hc (fun hn=>aFt (uA _ _ _) i hn) (by rw [← hb,hmb];rfl) ⟨rfl,by omega⟩ (aH (by omega)) (by simp) (by simp) rfl⟩
    rw [hoE,List.range_succ,kU,fM];simp only [List.filter_cons,hb,if_true,List.filter_nil,fZ,List.map_nil,hg]
   | false =>
    refine ⟨o,?_,bMo (by omega) hy h1 hat hal hc (fun hn=>aFt (uA _ _ _) i hn) (by rw [← hb,hmb];rfl) (aH (by omega)) rfl⟩
    rw [hoE,List.range_succ,kU,fM];simp [List.filter_cons,hb])
  (fun o _=>bMp (by omega)) (acc:=[]) (by simp)
 have e:o=aNd dl (aB sk) (aB dc) f:=hI;rw [← e];exact cJl h hf ho hL
theorem cJi{dl:Int}{sk dc:Lqq}(h:bR dl sk dc){f:Int}(hf:1≤f)(ho:(aP dl (aB dc)).length≤8){base:Nat}:FV Tp 32 [.p (.agg (bB dl sk dc)),.p (aA f)] base (.tup [.p (aG (aNd dl (aB sk) (aB dc) f)),.p (aA 0)]) []:=cJo (cJh h hf ho)
end
section
def eK(l:Lqq)(su:List Int):Lqq:=l.filter fun x => !(!(su.contains (x.getD 0 0)))
theorem bZm{l:Lqq}{su:List Int}(hu:uni 3 l)(hl:l.length≤1000)(hsu:su.length≤1000) :
  (∃ i n,l[i]? = some n∧l.findIdx? (fun x => !(su.contains (x.getD 0 0)))=some i∧(!(su.contains (n.getD 0 0)))=true∧bZl l su (i:Int))∨(l.any (fun x => !(su.contains (x.getD 0 0)))=false∧bZl l su (-1)):=by
 rcases aE.find (P:=Tp) (k:=1) (b:=(sub (cd Tryz.f162) [1,0,1,0,0])) (fun i=>jE l su i) (fun i _=>bS (jE l su i) [(4,.p (aA (i:Int)))]) (jE l su l.length) .ret (.exit 0) (by simp) (by simp) (fun x => !(su.contains (x.getD 0 0))) l
  (fun i x hx hq=>by
   obtain ⟨a,b,c,rfl⟩:=Da (hu _ (Bi hx));exact aYc (by have:=aO hx;omega) hx hu hsu hq (aH (by have:=aO hx;omega)) rfl)
  (fun i x hx hq=>by
   obtain ⟨a,b,c,rfl⟩:=Da (hu _ (Bi hx));exact aYb (by have:=aO hx;omega) hx hu hsu hq)
  (aYd (by omega)) with ⟨i,x,h1,h2,h3,h4⟩ | ⟨h1,h2,h3⟩
 ·exact .inl ⟨i,x,h1,h2,h3,bZk h4⟩
 ·exact .inr ⟨h2,bZj h3⟩
theorem cJz(l:Lqq)(su:List Int)(hu:uni 3 l)(hl:l.length≤1000)(hsu:su.length≤1000) :
  FMM Tp 97 [.own 0,.fn 98 [] [.rp [aG su] 0]] [some (.row 48 l.length (l.flatten.map aA))] (.p (.sl (eK l su).length ((eK l su).flatten.map aA))) [some .dead]:=by
 rcases bZm (su:=su) hu hl hsu with ⟨i,n,h1,h2,h3,h4⟩ | ⟨h1,h2⟩
 ·have hi:=aO h1
  obtain ⟨d,hm⟩:∃ d,i+1+d=l.length:=⟨l.length-(i+1),by omega⟩
  obtain ⟨⟨c,k⟩,hI,hL⟩:=aE.ex (P:=Tp) (k:=1) (b:=(sub (cd Tryz.f97) [1,1,1,0,1,0,0])) (e := .exit 0) (fun j (x:Lqq × Nat)=>pW su x.1.length (x.1.flatten.map aA) x.2 (i+1+j)) (fun x=>pW su x.1.length (x.1.flatten.map aA) x.2 l.length)
   (fun j x=>aHe (fun x => !(su.contains (x.getD 0 0))) l (i+1+j) x∧uni 3 x.1) (by simp) d
   (fun j x hj hx=>by
    obtain ⟨hI,hs⟩:=hx;have hlt:i+1+j<x.1.length:=by rw [hI.len];omega
    have hle:=hI.le;have hlen:=hI.len;obtain ⟨y,hy⟩:∃ y,x.1[i+1+j]? = some y:=⟨_,Av hlt⟩;obtain ⟨y0,y1,y2,rfl⟩:=Da (hs y (Bi hy));cases hq:(!(su.contains y0)) with
    | true=>exact ⟨x,⟨hI.skip (by omega) hy hq,hs⟩,bMu (by omega) hy hs hsu hq (aH (by omega)) rfl⟩
    | false =>
     obtain ⟨z,hz⟩:∃ z,x.1[x.2]? = some z:=⟨_,Av (by omega)⟩
     obtain ⟨z0,z1,z2,rfl⟩:=Da (hs z (Bi hz));have Mu:=jP hs hz;refine ⟨_,⟨hI.keep (by omega) hy hq,fun n hn => ?_⟩,bMt (c:=x.1) (c':=x.1.set x.2 [y0,y1,y2]) (by omega) hy hs hsu hq hz ⟨rfl,Mu⟩ (aH (by omega)) (aH (by omega)) (by simp) (tF hs (by omega) rfl).symm rfl rfl⟩
     rcases List.mem_or_eq_of_mem_set hn with h | rfl
     ·exact hs n h
     ·rfl)
   (fun x hx=>by
    have:=bMv (su:=su) (c:=x.1) (i:=x.2) (j:=l.length) (by rw [hx.1.len];omega)
    rw [show i+1+d=l.length from hm];exact this)
   (acc:=(l,i)) ⟨aHe.start h1 h3 (aMz h2),hu⟩
  obtain ⟨hI,hs⟩:=hI;have hlen:=hI.len;have hle:=hI.le;have hk:=hI.kept;simp only [hm,List.take_length] at hlen hle hk
  have hcl:(c.flatten.map aA).length=c.length*3:=qK hs;have I4:k*3≤c.length*3:=Nat.mul_le_mul_right _ (by omega)
  have hsum:k*3+(c.length-k)*3=c.length*3:=by rw [← Nat.add_mul];congr 1;omega
  have fin:=cJv (l:=l) (Cg:=c) (B5:=k) (Np:=l.length) (Ei:=(c.take k).flatten.map aA) h4 (by omega) (aH (by omega)) hL ⟨by omega,by omega,by omega⟩ (by rw [hcl];omega) ⟨by omega,by omega,by omega⟩ (by
   have hz:((List.replicate (c.length-k) (List.map PV.v [(.int .i64 0),(.int .i64 0),(.int .i64 0)])).flatten).length=(c.length-k)*3:=by
    rw [List.length_flatten];simp
   have Gl:(((c.flatten.map aA).take (k*3))++(List.replicate (c.length-k) (List.map PV.v [(.int .i64 0),(.int .i64 0),(.int .i64 0)])).flatten++(c.flatten.map aA).drop (k*3+(c.length-k)*3)).length=c.length*3:=by
    rw [iF,iF,hz,mJ,bOl,hcl];omega
   rw [List.drop_zero,Gl,bOm c.length 3,Nat.mul_div_cancel _ (by omega:0<c.length),List.append_assoc,List.take_append_of_le_length (by rw [mJ,hcl];omega),List.take_take,Nat.min_self,← List.map_take,aLa _ hs])
  have G3:c.take k=eK l su:=hk;rw [← G3];have e:(c.take k).length=k:=by rw [mJ,Nat.min_eq_left (by omega)]
  rw [e];exact fin
 ·have:eK l su=l:=List.filter_eq_self.2 fun n hn=>by
   have:=List.any_eq_false.1 h1 n hn;simpa using this
  rw [this];exact cJw h2
def aRs(dl:Int)(sk dc:Lqq)(i:Nat):Bool:=match (aJ dl sk dc)[i]? with
 | some h=>aNi (eJ (aJ dl sk dc) i h.1) (h.1.any fun x=>x.2.1) (h.1.any fun x => !x.2.1)
 | none=>false
def yW(dl:Int)(sk dc:Lqq):List Int:=((List.range sk.length).filter (aRs dl sk dc)).map fun i=>(sk.getD i []).getD 0 0
theorem cKa{dl:Int}{sk dc:Lqq}(h:bR dl sk dc){f:Int}(hf:1≤f)(ho:(aP dl (aB dc)).length≤8):bMw dl sk dc f (yW dl (aB sk) (aB dc)):=fun base=>by
 obtain ⟨h1,h2,_,_⟩:=fN h;obtain ⟨o,hI,hL⟩:=aE.ex (P:=Tp) (k:=0) (b:=sub (cd Tryz.f93) [1,1,1,1,1,1,1,0,1,0,0]) (e := .exit 0) (fun i (o:List Int)=>pV dl sk dc o.length (o.map aA) i) (fun o=>pV dl sk dc o.length (o.map aA) (aB sk).length)
  (fun i o=>o=((List.range i).filter (aRs dl (aB sk) (aB dc))).map fun i=>((aB sk).getD i []).getD 0 0) (by simp) (aB sk).length
  (fun i o hi hoE=>by
   obtain ⟨y0,y1,hy⟩:=at2 h1 hi;have hat:=iR (dl:=dl) (dc:=aB dc) hy;have hlen:o.length≤i:=by
    rw [hoE,Cb];have:=mI (aRs dl (aB sk) (aB dc)) (List.range i);simpa using this
   have hmb:aRs dl (aB sk) (aB dc) i=aNi (eJ (aJ dl (aB sk) (aB dc)) i (iD dl (aB dc) y0 y1 (kB dl (aB dc) y0)).1) ((iD dl (aB dc) y0 y1 (kB dl (aB dc) y0)).1.any fun x=>x.2.1) ((iD dl (aB dc) y0 y1 (kB dl (aB dc) y0)).1.any fun x => !x.2.1):=by
    unfold aRs;rw [hat];rfl
   have hal:(aJ dl (aB sk) (aB dc)).length≤1000:=by rw [nK];omega
   have hc:=yN (s0:=y0) (s1:=y1) y0 ho;have hg:((aB sk).getD i []).getD 0 0=y0:=by simp [Bv,hy]
   cases hb:aRs dl (aB sk) (aB dc) i with
   | true =>
    refine ⟨o++[y0],?_,bMq (by omega) hy h1 hat hal hc (by rw [← hb,hmb];rfl) ⟨rfl,by omega⟩ (aH (by omega)) (by simp) (by simp) rfl⟩
    rw [hoE,List.range_succ,kU,fM];simp only [List.filter_cons,hb,if_true,List.filter_nil,fZ,List.map_nil,hg]
   | false =>
    refine ⟨o,?_,bMr (by omega) hy h1 hat hal hc (by rw [← hb,hmb];rfl) (aH (by omega)) rfl⟩
    rw [hoE,List.range_succ,kU,fM];simp [List.filter_cons,hb])
  (fun o _=>bMs (by omega)) (acc:=[]) (by simp)
 have e:o=yW dl (aB sk) (aB dc):=hI;rw [← e];exact cJr h hf ho hL
end
section

end
section
section
variable {dl:Int} {oc:List Int} {D:Lqq} {x:List Int}
theorem yX{α β:Type}(f g:β→α→β):∀ (l:List α) (b:β),(∀ x∈l,∀ b,f b x=g b x)→l.foldl f b=l.foldl g b
 | [],_,_=>rfl
 | x::l,b,h=>by
  rw [lE,lE,h x (gL ..),yX f g l _ fun y hy=>h y (Cj _ hy)]
end
end
section
section
variable {dl:Int} {oc:List Int} {D:Lqq} {x:List Int}
end
theorem bMx{dl:Int}{sk dc:Lqq}(h:bR dl sk dc):(aB sk).Pairwise fun a b=>a.getD 0 0<b.getD 0 0:=by
 have h1:=iU sk;have h2:(aB sk).Pairwise fun a b=>a.getD 0 0≠b.getD 0 0:=by
  have:=aBf h.ns;unfold aQ at this
  exact List.pairwise_map.1 this
 exact (h1.and h2).imp fun {a b} h=>by have:=h.1;have:=h.2;omega
end
section
theorem aJt{α:Type}{p q:α→Bool}:∀ {l:List α},(∀ s∈l,p s=false→q s=false)→(l.filter p).find? q=l.find? q
 | [],_=>rfl
 | a::l,h=>by
  have ih:=aJt (p:=p) (q:=q) (l:=l) fun s hs=>h s (Cj _ hs)
  cases hp:p a with
  | true=>rw [List.filter_cons_of_pos hp,List.find?_cons,List.find?_cons,ih]
  | false=>rw [List.filter_cons_of_neg (by rw [hp];exact Bool.false_ne_true),List.find?_cons_of_neg (by rw [h a (gL ..) hp];exact Bool.false_ne_true),ih]
section
variable {dl:Int} {oc:List Int} {R:List Int→Bool}
end
theorem cKb{dl:Int}{oc:List Int}{L:Lqq}{s:DS}(h:s∈bK dl oc L):s.x∈L:=by
 have:s.x∈(bK dl oc L).map (·.x):=Bs.2 ⟨s,h,rfl⟩
 rwa [rQ] at this
end
section
section
variable {dl:Int} {oc I7:List Int}
end
section
variable {dl:Int} {oc I7:List Int} {F:List Int→Int}
end
section
variable {dc:Lqq}
theorem aGj(hd:bN dc):∀ (k:Nat) (x:List Int),x∈dc→dN x<(k:Int)→mB dc k x=mB dc (k+1) x
 | 0,x,hx,hk=>by have:=eQ hd hx;omega
 | k+1,x,hx,hk=>by
  unfold mB
  by_cases h4:dK x≤4
  ·rw [if_pos h4,if_pos h4]
  ·rw [if_neg h4,if_neg h4]
   cases h:ofN dc (dAb x) with
   | none=>rfl
   | some y =>
    obtain ⟨h1,h2⟩:=tQ h;have ho:=hd.ord _ hx;unfold orB at ho
    rw [if_neg (show ¬ x.getD 1 0≤4 from h4)] at ho
    have Kj:=bV.1 ho;have h3:dAb x≤dN x-1:=Kj.2;exact aGj hd k y h1 (by omega)
theorem aYf(hd:bN dc){s y:List Int}(hs:s∈dc)(hy:y∈dc)(e:dAb s=dN y):mC dc s=mC dc y:=by
 have hk:¬ dK s≤4:=fun h4=>by
  have ho:=hd.ord _ hs;unfold orB at ho
  rw [if_pos (show s.getD 1 0≤4 from h4)] at ho
  have h0:dAb s=0:=by simpa using ho
  have:=eQ hd hy;omega
 unfold mC;have e1:mB dc (10000+1) s=mB dc 10000 y:=by
  conv=>lhs;unfold mB
  rw [if_neg hk,e,aCn hd hy]
 rw [e1];exact aGj hd 10000 y hy (by have:=eQ hd hy;omega)
theorem bSy{y:List Int}(h:dK y≤4):mC dc y=dB y:=by
 unfold mC mB;rw [if_pos h]
end
end
section
theorem bZn{s k j:Nat}(h:j<k):(s+2 ^ k) / 2 ^ j % 2=s / 2 ^ j % 2:=by
 obtain ⟨m,rfl⟩:∃ m,k=j+(m+1):=⟨k-j-1,by omega⟩
 have e:2 ^ (j+(m+1))=2 ^ j*(2*2 ^ m):=by rw [Nat.pow_add,Nat.pow_succ,bOm (2 ^ m) 2]
 rw [e,Nat.add_mul_div_left _ _ (Nat.two_pow_pos j)];omega
theorem bZo{s k:Nat}(h:s<2 ^ k):(s+2 ^ k) / 2 ^ k % 2=1:=by
 rw [Nat.add_div_right _ (Nat.two_pow_pos k),Nat.div_eq_of_lt h]
theorem bSw{s k:Nat}(h:s<2 ^ k):s / 2 ^ k % 2=0:=by
 rw [Nat.div_eq_of_lt h]
theorem vB(q:List Int)(s k:Nat):fG q s (k+1)=fG q s k++(if s / 2 ^ k % 2 == 1 then [q.getD k 0] else []):=by
 unfold fG;rw [List.range_succ,kU,fM]
 congr 1
 by_cases h:(s / 2 ^ k % 2 == 1)=true
 ·rw [if_pos h,List.filter_cons_of_pos (p:=fun j=>s / 2 ^ j % 2 == 1) h];rfl
 ·rw [if_neg h,List.filter_cons_of_neg (p:=fun j=>s / 2 ^ j % 2 == 1) h];rfl
theorem xF(q r:List Int)(s s':Nat):∀ k,k≤q.length→(∀ j,j<k→s / 2 ^ j % 2=s' / 2 ^ j % 2)→fG (q++r) s k=fG q s' k
 | 0,_,_=>rfl
 | k+1,hk,h=>by
  rw [vB,vB,xF q r s s' k (by omega) (fun j hj=>h j (by omega)),h k (by omega)]
  congr 2
  rw [Bv,Bv,zL (by omega)]
theorem bAy{n:Int}{u:List Int}(h:u.Sublist [n]):u=[]∨u=[n]:=by
 cases u with
 | nil=>exact .inl rfl
 | cons a t =>
  have hl:=h.length_le;rw [nX,List.length_singleton] at hl
  have ht:t=[]:=aBu (by omega)
  have ha:a=n:=List.mem_singleton.1 (h.subset (gL ..));rw [ht,ha];exact .inr rfl
theorem bSx(q:List Int):∀ u:List Int,u.Sublist q→u∈iE q:=by
 refine yU (Q:=fun q=>∀ u:List Int,u.Sublist q→u∈iE q) ?_ ?_ q
 ·intro u hu
  rw [List.sublist_nil.1 hu];exact gL ..
 ·intro q n ih u hu
  obtain ⟨u1,u2,rfl,h1,h2⟩:=List.sublist_append_iff.1 hu;obtain ⟨s,hs,e⟩:=Bs.1 (ih u1 h1);have hs:s<2 ^ q.length:=iJ.1 hs;have hl:(q++[n]).length=q.length+1:=by simp
  have hg:(q++[n]).getD q.length 0=n:=by rw [Bv,yD (by omega)];simp
  unfold iE;rw [hl]
  rcases bAy h2 with rfl | rfl
  ·refine Bs.2 ⟨s,iJ.2 (by rw [Nat.pow_succ];omega),?_⟩
   rw [vB,xF q [n] s s q.length (dG _) (fun _ _=>rfl),e,bSw hs]
   rfl
  ·refine Bs.2 ⟨s+2 ^ q.length,iJ.2 (by rw [Nat.pow_succ];omega),?_⟩
   rw [vB,xF q [n] (s+2 ^ q.length) s q.length (dG _) (fun j hj=>bZn hj),e,bZo hs,hg]
   rfl
section
variable {dl:Int} {sk dc:Lqq}
end
end
section

end
section

end
section
theorem aNk{dl:Int}{oc:List Int}{D:Lqq}{b:Int}(hd:bN D):∀ (l:Lqq) (o:Bool) (t:Int),(∀ x∈l,x∈D)→(l.foldl (pG dl oc D b) (o,t)).2≤t+43200000*(l.length:Int)
 | [],o,t,_=>by simp
 | x::l,o,t,h=>by
  have hm:=aLq (dl:=dl) (oc:=oc) hd (h x (gL ..));have hl:=fun y hy=>h y (Cj _ hy)
  rw [lE,nX];unfold pG;dsimp only
  by_cases hh:aFi dl oc D b x=true
  ·rw [if_pos hh]
   have ih:=aNk (dl:=dl) (oc:=oc) (b:=b) hd l (o || dK x == 3) (byI (dK x) t (kI dl oc D x)) hl
   unfold pG at ih
   have:byI (dK x) t (kI dl oc D x)≤t+43200000:=by unfold byI;repeat' split <;> omega
   omega
  ·rw [if_neg hh]
   have ih:=aNk (dl:=dl) (oc:=oc) (b:=b) hd l o t hl;unfold pG at ih
   omega
theorem aNl{dl:Int}{oc:List Int}{D:Lqq}{b t:Int}(hd:bN D)(ht:t≤360000):0≤(cI dl oc D b t).1∧(cI dl oc D b t).1≤100000000000:=by
 have h:=aNk (dl:=dl) (oc:=oc) (b:=b) hd D (t == -1) t fun _ h=>h
 have hl:=hd.len;have h2:(aGy dl oc D b t).2≤t+43200000*(D.length:Int):=h;unfold cI
 split
 ·exact ⟨by simp,by simp⟩
 ·show 0≤max 0 (aGy dl oc D b t).2∧max 0 (aGy dl oc D b t).2≤100000000000
  omega
end
section
theorem bSv{q u:List Int}(h:u∈iE q):u.Sublist q:=by
 obtain ⟨s,_,rfl⟩:=Bs.1 h;have e:((List.range q.length).map fun j=>q.getD j 0)=q:=by
  apply List.ext_getElem (by simp)
  intro i h1 h2;simp [Bv,Av h2]
 have h2:(fG q s q.length).Sublist ((List.range q.length).map fun j=>q.getD j 0):=by
  unfold fG;exact List.filter_sublist.map _
 rwa [e] at h2
theorem bAx(dl:Int)(dc:Lqq)(b:Int):(kB dl dc b).Sublist (aP dl dc):=List.filter_sublist
section
variable {dl:Int} {sk dc:Lqq}
end
end
section

theorem cJy{dl:Int}{sk dc:Lqq}{o0:List Int}(h0:bMw dl sk dc 1 o0)(h1:bR dl sk dc)(h2:sk.length<20)(h3:uni 3 (cD dl [] (aB dc) (aB sk)))(h4:(cD dl [] (aB dc) (aB sk)).length≤1000)(h5:o0.length≤1000){base:Nat}:FV Tp 34 [(.p (.agg (bB dl sk dc)))] base (.tup [(.p (.sl ((eK (cD dl [] (aB dc) (aB sk)) o0).length) ((eK (cD dl [] (aB dc) (aB sk)) o0).flatten.map aA))),(pI 0)]) []:=have k1:=fk 2 (bSm h1 h2) rfl;have k2:=mq [1] 2 (cJz (cD dl [] (aB dc) (aB sk)) o0 h3 h4 h5);FV.frz (FMM.fi 0 gE func34 [.c (.tup [(.p (aG o0)),(pI 0)]) [],bF,k1.o,.g 1 ⟨[],[0,2],[1],[]⟩,k2.o] (gc k2 (gc k1 (gt (((0:Int) != 0)=false) (by first | decide | simp) (gc (fk 1 (h0 _) rfl) gn))))) (by kernel_rfl)
theorem aYe{dl:Int}{sk dc:Lqq}{o:List Int}(h:bR dl sk dc)(hs:sk.length<20)(hc:bMw dl sk dc 1 o)(ho:o.length≤1000){base:Nat}:FV Tp 34 [.p (.agg (bB dl sk dc))] base (.tup [.p (fS (eK (cD dl [] (aB dc) (aB sk)) o)),.p (aA 0)]) []:=by
 have hl:(cD dl [] (aB dc) (aB sk)).length≤1000:=by rw [yT,eG];have:=h.len;omega
 exact cJy hc h hs jS hl ho
end
section
variable {Er Iu:Bool}{e n e1 e3 fi Cq D5 Ah Ag Cd Bw Cm:Int}{su Ko D8:Lqq}{a0 a2 ca mu o4 H7 Kn Ce Cf Ay Fl:List Int}{i i' Q8 Ux base Oy:Nat}
variable {dl:Int}{sk dc:Lqq}

noncomputable abbrev oY:Code:=pS (cd Tryz.f5) 15 [0,1,0,0]
noncomputable abbrev wO:Code:=pS (cd Tryz.f5) 16 [0,1,0,0]
noncomputable abbrev aLc:Code:=pS (cd Tryz.f5) 12 [0,1,0,0]
theorem zO:((0:Int) == 0)=true:=by first | decide | simp
abbrev cLh(dl:Int)(sk dc:Lqq)(fi e:Int):Prop:=∀ base:Nat,FV Tp 93 [.p (.agg (bB dl sk dc)),.p (aA fi),.fn 94 [] [.rp [aA fi] 0]] base (.tup [.p bX,.p (aA e)]) []
abbrev cLi(dl:Int)(sk dc:Lqq)(fi e:Int):Prop:=∀ base:Nat,FV Tp 93 [.p (.agg (bB dl sk dc)),.p (aA fi),.fn 96 [] []] base (.tup [.p bX,.p (aA e)]) []
theorem aLd(h0:cLh dl sk dc fi e)(h1:e≠0):FMM Tp 32 [(.p (.agg (bB dl sk dc))),(pI fi)] [] (.tup [(.p bX),(pI e)]) []:=FMM.fi 0 gE func32 [.g 3 ⟨[],[0],[1],[]⟩,.x (aA fi),.c (.tup [(.p bX),(pI e)]) []] (gc (fk 1 (h0 _) rfl) (gr (aA fi) gn))
theorem aLe(h0:cLo dl sk dc fi e)(h1:e≠0):FMM Tp 33 [(.p (.agg (bB dl sk dc))),(pI fi)] [] (.tup [(.p bX),(pI e)]) []:=FMM.fi 0 gE func33 [.g 3 ⟨[],[0],[1],[]⟩,.x (aA fi),.c (.tup [(.p bX),(pI e)]) []] (gc (fk 1 (h0 _) rfl) (gr (aA fi) gn))
theorem bOt(h0:cLi dl sk dc 1 e)(h1:e≠0):FV Tp 34 [(.p (.agg (bB dl sk dc)))] base (.tup [(.p bX),(pI e)]) []:=FV.fi func34 [.c (.tup [(.p bX),(pI e)]) [],bT] (gc (jF h1) (gc (fk 1 (h0 _) rfl) gn))
theorem nQ{rs:List (Lqq)}{bib:Int}{p:List Int}{g:Bool}(hr:∀ r∈rs,uni 3 r∧r.length≤1000)(hl:rs.length≤1000)(hp:plR rs bib=p)(hg:gnR rs bib=g){base:Nat}:FV Tp 40 [.p (.sl rs.length ((rs.map reE).flatten)),.p (aA bib)] base (.tup [.p (aG p),.p (blP g)]) []:=by
 rw [← hp,← hg];exact cAx hr hl
theorem bOu{a b:Lqq}(ha:uni 3 a)(hl:a.length≤1000)(h:a=b){base:Nat}:FV Tp 42 [.p (fS a),.p (fS b)] base (pB true) []:=by
 subst h;have:=aE.range (P:=Tp) (k:=0) (b:=sub (cd Tryz.f42) [1,1,0,1,0,0]) (e := .exit 0) (fun i (_:Unit)=>tG a a i) (fun _=>tG a a a.length) (fun u _=>u) (fun _ _=>True) (by simp) a (a0:=()) trivial
  (fun i x _ hx _=>by
   have hi:=aO hx;obtain ⟨x0,x1,x2,rfl⟩:=Da (ha x (Bi hx));exact ⟨trivial,bDp (by omega) hx ha hx ha ⟨rfl,rfl⟩ (by simp [jW,wI]) (aH (by omega)) rfl⟩)
  (fun _ _=>bDq (by omega))
 exact cBb rfl this
def mK(dl:Int)(sk:Lqq)(dc:Lqq)(n:Int)(a0:List Int)(e1:Int)(a2:List Int)(e3:Int)(o4:List Int)(rsn:Nat)(rsc:List PV)(i:Nat):St:=⟨fr 234 [(1,(pI n)),(2,(.ptr 0 0)),(4,(.kb false)),(5,(.ptr 1 0)),(8,(.p (aG a0))),(9,(pI e1)),(10,(.p (aG a2))),(11,(pI e3)),(12,(.p (.sl ((eK (cD dl [] (aB dc) (aB sk)) o4).length) ((eK (cD dl [] (aB dc) (aB sk)) o4).flatten.map aA)))),(13,(pI 0)),(14,(.ptr 2 0)),(16,(.own 3)),(100,(.p (.sl ((fV (aP dl (aB dc))).length) (((fV (aP dl (aB dc))).map oiE).flatten)))),(101,(pI (((fV (aP dl (aB dc))).length:Nat):Int))),(102,(pI (i:Int)))],[some (.box 26 [(pI dl),(.p (fS sk)),(.p (fS dc))]),some (.box 26 [(pI dl),(.p (fS sk)),(.p (fS dc))]),some (.box 61 [(pI dl),(.p (.sl ((aB sk).length) ((aB sk).flatten.map aA))),(.p (.sl ((aB dc).length) ((aB dc).flatten.map aA)))]),some (.row 71 rsn rsc)]⟩
def eM(dl:Int)(sk:Lqq)(dc:Lqq)(n:Int)(a0:List Int)(e1:Int)(a2:List Int)(e3:Int)(o4:List Int)(Aj:List (Lqq))(can:Nat)(cac:List PV)(mun:Nat)(muc:List PV)(i:Nat):St:=⟨fr 234 [(1,(pI n)),(2,(.ptr 0 0)),(4,(.kb false)),(5,(.ptr 1 0)),(8,(.p (aG a0))),(9,(pI e1)),(10,(.p (aG a2))),(11,(pI e3)),(12,(.p (.sl ((eK (cD dl [] (aB dc) (aB sk)) o4).length) ((eK (cD dl [] (aB dc) (aB sk)) o4).flatten.map aA)))),(13,(pI 0)),(14,(.ptr 2 0)),(16,(.p (.sl Aj.length ((Aj.map reE).flatten)))),(19,(.own 3)),(20,(.own 4)),(21,(.p bX)),(114,(.p (.sl ((aB sk).length) ((aB sk).flatten.map aA)))),(115,(pI (((aB sk).length:Nat):Int))),(116,(pI (i:Int)))],[some (.box 26 [(pI dl),(.p (fS sk)),(.p (fS dc))]),some (.box 26 [(pI dl),(.p (fS sk)),(.p (fS dc))]),some (.box 61 [(pI dl),(.p (.sl ((aB sk).length) ((aB sk).flatten.map aA))),(.p (.sl ((aB dc).length) ((aB dc).flatten.map aA)))]),some (.row 3 can cac),some (.row 3 mun muc)]⟩
def gV(dl:Int)(sk:Lqq)(dc:Lqq)(n:Int)(a0:List Int)(e1:Int)(a2:List Int)(e3:Int)(o4:List Int)(Aj:List (Lqq))(Ce:List Int)(Cf:List Int)(sun:Nat)(suc:List PV)(i:Nat):St:=⟨fr 234 [(1,(pI n)),(2,(.ptr 0 0)),(4,(.kb false)),(5,(.ptr 1 0)),(8,(.p (aG a0))),(9,(pI e1)),(10,(.p (aG a2))),(11,(pI e3)),(12,(.p (.sl ((eK (cD dl [] (aB dc) (aB sk)) o4).length) ((eK (cD dl [] (aB dc) (aB sk)) o4).flatten.map aA)))),(13,(pI 0)),(16,(.p (.sl Aj.length ((Aj.map reE).flatten)))),(19,(.own 2)),(20,(.own 3)),(21,(.own 4)),(166,(.p (.sl ((cD dl [] (aB dc) (aB sk)).length) ((cD dl [] (aB dc) (aB sk)).flatten.map aA)))),(167,(pI (((cD dl [] (aB dc) (aB sk)).length:Nat):Int))),(168,(pI (i:Int)))],[some (.box 26 [(pI dl),(.p (fS sk)),(.p (fS dc))]),some (.box 26 [(pI dl),(.p (fS sk)),(.p (fS dc))]),some (.row 3 Ce.length (Ce.map aA)),some (.row 3 Cf.length (Cf.map aA)),some (.row 76 sun suc)]⟩
theorem cAt(h0:(tJ sk dc 5 14)=true)(h1:∀ {base:Nat},FV Tp 26 [] base (pB true) []):FV Tp 5 [(.p (.agg (bB dl sk dc))),(pI n)] base (pB true) []:=have k1:=fk 1 (zP dl sk dc 5 14) rfl;FV.fi func5 [k1.o,bT,.c (pB true) []] (gc (fk 1 h1 rfl) (gc h0 (gc k1 gn)))
theorem cAu(h0:(tJ sk dc 5 14)=false)(h1:uni 2 sk)(h2:sk.length≤1000)(h3:uni 6 dc)(h4:dc.length≤1000)(h5:(jQ dl sk dc)≠0)(h6:∀ {base:Nat},FV Tp 32 [.p (.agg (bB dl sk dc)),.p (aA n)] base (.tup [.p bX,.p (aA (jQ dl sk dc))]) [])(h7:∀ {base:Nat},FV Tp 33 [.p (.agg (bB dl sk dc)),.p (aA n)] base (.tup [.p bX,.p (aA (jQ dl sk dc))]) [])(h8:∀ {base:Nat},FV Tp 34 [.p (.agg (bB dl sk dc))] base (.tup [.p bX,.p (aA (jQ dl sk dc))]) [])(h9:(jQ dl sk dc)=(jQ dl sk dc))(A5:uni 2 sk∧sk.length≤1000)(Bd:uni 6 dc∧dc.length≤1000)(Bh:(decide (dl=dl∧sk=sk∧dc=dc))=true)(B9:∀ {base:Nat},FV Tp 26 [] base (pB true) []):FV Tp 5 [(.p (.agg (bB dl sk dc))),(pI n)] base (pB true) []:=have k1:=fk 1 (zP dl sk dc 5 14) rfl;have k2:=fk 1 (aEq dl sk dc h1 h2 h3 h4) rfl;have k3:=fk 9 (aEu dl sk dc h1 h3 h2 h4) rfl;have k4:=fk 19 (aEr dl sk dc h1 h3) rfl;have k5:=fk 19 h6 rfl;have k6:=fk 19 h7 rfl;have k7:=fk 19 h8 rfl;have k8:=fk 19 (aUs dl sk dc dl sk dc A5 Bd h1 h3) rfl;FV.fi func5 ([k1.o,bF,k2.o,k3.o,k4.o,k5.o,k6.o,k7.o]++rT 22++[k8.o,bT,bT,.c (pB true) [],bT]) (gc Bh (gc (fk 19 B9 rfl) (gc Bh (gc zO (gc k8 (Ak zO (Az (cH h9) (gt (inR 0) (by unfold inR;omega) (Ak (cH h9) (gt (inR 0) (by unfold inR;omega) (Eu (cH h9) (Bo (cH h9) (gc (jF h5) (gc k7 (gc k6 (gc k5 (gc k4 (gc k3 (gc k2 (gc h0 (gc k1 gn)))))))))))))))))))))
theorem bOv(h0:(tJ sk dc 5 14)=false)(h1:uni 2 sk)(h2:sk.length≤1000)(h3:uni 6 dc)(h4:dc.length≤1000)(h5:(jQ dl sk dc)=0)(h6:bR dl sk dc)(h7:∀ {base:Nat},FV Tp 32 [.p (.agg (bB dl sk dc)),.p (aA n)] base (.tup [.p (aG a0),.p (aA e1)]) [])(h8:∀ {base:Nat},FV Tp 33 [.p (.agg (bB dl sk dc)),.p (aA n)] base (.tup [.p (aG a2),.p (aA e3)]) [])(h9:sk.length<20)(A5:bMw dl sk dc 1 o4)(Bd:o4.length≤1000)(Bh:bN (aB dc))(B9:(5:Int)<(((aP dl (aB dc)).length:Nat):Int))(Di:∀ {base:Nat},FV Tp 26 [] base (pB true) []):FV Tp 5 [(.p (.agg (bB dl sk dc))),(pI n)] base (pB true) []:=have k1:=fk 1 (zP dl sk dc 5 14) rfl;have k2:=fk 1 (aEq dl sk dc h1 h2 h3 h4) rfl;have k3:=fk 9 (aEu dl sk dc h1 h3 h2 h4) rfl;have k4:=fk 19 (aEr dl sk dc h1 h3) rfl;have k5:=fk 19 h7 rfl;have k6:=fk 19 h8 rfl;have k7:=fk 19 (aYe h6 h9 A5 Bd) rfl;have k8:=fk 19 (aLk dl sk dc h6) rfl;have k9:=fk 20 (aLh (dl:=dl) (sk:=(aB sk)) Bh) rfl;FV.fi func5 [k1.o,bF,k2.o,k3.o,k4.o,k5.o,k6.o,k7.o,bF,k8.o,k9.o,bT,.c (pB true) []] (gc (fk 20 Di rfl) (gc (aI B9) (gc k9 (gc k8 (gc (bL h5) (gc k7 (gc k6 (gc k5 (gc k4 (gc k3 (gc k2 (gc h0 (gc k1 gn)))))))))))))
theorem cAv{Aj:List (Lqq)}(h0:(tJ sk dc 5 14)=false)(h1:uni 2 sk)(h2:sk.length≤1000)(h3:uni 6 dc)(h4:dc.length≤1000)(h5:(jQ dl sk dc)=0)(h6:bR dl sk dc)(h7:∀ {base:Nat},FV Tp 32 [.p (.agg (bB dl sk dc)),.p (aA n)] base (.tup [.p (aG a0),.p (aA e1)]) [])(h8:∀ {base:Nat},FV Tp 33 [.p (.agg (bB dl sk dc)),.p (aA n)] base (.tup [.p (aG a2),.p (aA e3)]) [])(h9:sk.length<20)(A5:bMw dl sk dc 1 o4)(Bd:o4.length≤1000)(Bh:bN (aB dc))(B9:(((aP dl (aB dc)).length:Nat):Int)≤5)(Di:(aP dl (aB dc)).length≤8)(Jl:aE Tp 0 aLc (mK dl sk dc n a0 e1 a2 e3 o4 0 [] 0) (.exit 0) (mK dl sk dc n a0 e1 a2 e3 o4 Aj.length ((Aj.map reE).flatten) Q8))(Jm:aE Tp 0 oY (eM dl sk dc n a0 e1 a2 e3 o4 Aj 0 [] 0 [] 0) (.exit 2) (eM dl sk dc n a0 e1 a2 e3 o4 Aj Ce.length (Ce.map aA) Cf.length (Cf.map aA) Ux))(Jn:([]:List Int).length≤1000)(Ky:uni 2 (aB sk))(Mx:(aB sk).length≤100)(My:(aB sk).Pairwise fun a b=>a.getD 0 0<b.getD 0 0)(Oz:∀ s∈(aB sk),-1≤sT s∧sT s≤360000)(Jo:aE Tp 0 wO (gV dl sk dc n a0 e1 a2 e3 o4 Aj Ce Cf 0 [] 0) (.exit 4) (gV dl sk dc n a0 e1 a2 e3 o4 Aj Ce Cf D8.length (D8.flatten.map aA) Oy))(Sd:n<1)(Se:e1=3)(Sf:e3=3)(Sg:a0.length≤1000)(O0:(decide (a0=([]:List Int)))=true)(O1:a2.length≤1000)(Mz:(decide (a2=([]:List Int)))=true)(O2:uni 3 (eK (cD dl [] (aB dc) (aB sk)) o4))(O3:(eK (cD dl [] (aB dc) (aB sk)) o4).length≤1000)(Si:(eK (cD dl [] (aB dc) (aB sk)) o4)=D8)(Kz:uni 2 sk∧sk.length≤1000)(Sj:uni 6 dc∧dc.length≤1000)(M3:(decide (dl=dl∧sk=sk∧dc=dc))=true)(Sk:∀ {base:Nat},FV Tp 26 [] base (pB true) []):FV Tp 5 [(.p (.agg (bB dl sk dc))),(pI n)] base (pB true) []:=by
 have k1:=fk 1 (zP dl sk dc 5 14) rfl;have k2:=fk 1 (aEq dl sk dc h1 h2 h3 h4) rfl;have k3:=fk 9 (aEu dl sk dc h1 h3 h2 h4) rfl;have k4:=fk 19 (aEr dl sk dc h1 h3) rfl;have k5:=fk 19 h7 rfl;have k6:=fk 19 h8 rfl;have k7:=fk 19 (aYe h6 h9 A5 Bd) rfl;have k8:=fk 19 (aLk dl sk dc h6) rfl;have k9:=fk 20 (aLh (dl:=dl) (sk:=(aB sk)) Bh) rfl;have O4:=fk 20 (bOx (op:=(aP dl (aB dc))) Di) rfl;have Jf:=fk 5 (FV.argwk (args:=[(.p (.agg (bB dl (aB sk) (aB dc)))),(.p bX)]) (A7:=[(.p (.agg (bB dl (aB sk) (aB dc)))),.p (aG [])]) (aXw (dl:=dl) Bh Jn Ky Mx My Oz) (by kernel_rfl)) rfl;have Jg:=fk 5 (FV.argwk (args:=[(.p (aG a0)),(.p bX)]) (aAc a0 ([]:List Int) Sg) (by kernel_rfl)) rfl;have Jh:=fk 5 (FV.argwk (args:=[(.p (aG a2)),(.p bX)]) (aAc a2 ([]:List Int) O1) (by kernel_rfl)) rfl;have Lv:=fk 5 (bOy (eK (cD dl [] (aB dc) (aB sk)) o4) O2 O3) rfl;have Uy:=fk 5 (aUs dl sk dc dl sk dc Kz Sj h1 h3) rfl;exact FV.fi func5 ([k1.o,bF,k2.o,k3.o,k4.o,k5.o,k6.o,k7.o,bF,k8.o,k9.o,bF,O4.o,Jl.k 1 (gN [0,1,3,1,6,2,15,1,17,2,22,1,26,1,31,69,103,131] [0,17,19,20] [(16,71)]),Jm.k 8 ⟨(rng [(0,1),(3,1),(6,2),(15,1),(17,2),(22,5),(31,83),(117,117)]),[0,1,2,4,5],[3],[(19,3),(20,3)]⟩,Jf.o,Jo.k 1 (gN [0,1,3,1,6,2,14,2,17,2,22,8,31,135,169,65] [0,1,3,4,5] [(21,76)])]++rT 11++[Jg.o,bT,bT,bT,bT,Jh.o,bT,bT,bT,Lv.o,bT,bT,.c (pB true) [],bT,bT,bT,bT,Uy.o,bT,bT,.c (pB true) [],bT]) (gc M3 (gc (fk 5 Sk rfl) (gc M3 (gt (true=true) rfl (gc Uy (gt (true=true) rfl (gt (true=true) rfl (gt (true=true) rfl (gc Mz (gt (FC Tp 42 [(.p (.sl ((eK (cD dl [] (aB dc) (aB sk)) o4).length) ((eK (cD dl [] (aB dc) (aB sk)) o4).flatten.map aA))),(.own 4)] [(4,(.row 76 D8.length (D8.flatten.map aA)))] 5 (pB true) []) (fv (bOu O2 O3 Si)) (Az Mz (gc Lv (Az Mz (gc O0 (gc Jh (Ak O0 (gc zO (gc Jg (Ak zO (Ak (cH Sf) (Aw (cH Se) (gc (aI Sd) (gc Jo.code (gc Jf (gc Jm.code (gc Jl.code (gc O4 (gc (aN B9) (gc k9 (gc k8 (gc (bL h5) (gc k7 (gc k6 (gc k5 (gc k4 (gc k3 (gc k2 (gc h0 (gc k1 gn)))))))))))))))))))))))))))))))))))))))
theorem bUm{Aj:List (Lqq)}(h0:(tJ sk dc 5 14)=false)(h1:uni 2 sk)(h2:sk.length≤1000)(h3:uni 6 dc)(h4:dc.length≤1000)(h5:(jQ dl sk dc)=0)(h6:bR dl sk dc)(h7:∀ {base:Nat},FV Tp 32 [.p (.agg (bB dl sk dc)),.p (aA n)] base (.tup [.p (aG a0),.p (aA e1)]) [])(h8:∀ {base:Nat},FV Tp 33 [.p (.agg (bB dl sk dc)),.p (aA n)] base (.tup [.p (aG a2),.p (aA e3)]) [])(h9:sk.length<20)(A5:bMw dl sk dc 1 o4)(Bd:o4.length≤1000)(Bh:bN (aB dc))(B9:(((aP dl (aB dc)).length:Nat):Int)≤5)(Di:(aP dl (aB dc)).length≤8)(Jl:aE Tp 0 aLc (mK dl sk dc n a0 e1 a2 e3 o4 0 [] 0) (.exit 0) (mK dl sk dc n a0 e1 a2 e3 o4 Aj.length ((Aj.map reE).flatten) Q8))(Jm:aE Tp 0 oY (eM dl sk dc n a0 e1 a2 e3 o4 Aj 0 [] 0 [] 0) (.exit 2) (eM dl sk dc n a0 e1 a2 e3 o4 Aj Ce.length (Ce.map aA) Cf.length (Cf.map aA) Ux))(Jn:([]:List Int).length≤1000)(Ky:uni 2 (aB sk))(Mx:(aB sk).length≤100)(My:(aB sk).Pairwise fun a b=>a.getD 0 0<b.getD 0 0)(Oz:∀ s∈(aB sk),-1≤sT s∧sT s≤360000)(Jo:aE Tp 0 wO (gV dl sk dc n a0 e1 a2 e3 o4 Aj Ce Cf 0 [] 0) (.exit 4) (gV dl sk dc n a0 e1 a2 e3 o4 Aj Ce Cf D8.length (D8.flatten.map aA) Oy))(Sd:(1:Int)≤n)(Se:e1=0)(Sf:e3=0)(Sg:a0.length≤1000)(O0:(decide (a0=Ce))=true)(O1:a2.length≤1000)(Mz:(decide (a2=Cf))=true)(O2:uni 3 (eK (cD dl [] (aB dc) (aB sk)) o4))(O3:(eK (cD dl [] (aB dc) (aB sk)) o4).length≤1000)(Si:(eK (cD dl [] (aB dc) (aB sk)) o4)=D8)(Kz:uni 2 sk∧sk.length≤1000)(Sj:uni 6 dc∧dc.length≤1000)(M3:(decide (dl=dl∧sk=sk∧dc=dc))=true)(Sk:∀ {base:Nat},FV Tp 26 [] base (pB true) []):FV Tp 5 [(.p (.agg (bB dl sk dc))),(pI n)] base (pB true) []:=by
 have k1:=fk 1 (zP dl sk dc 5 14) rfl;have k2:=fk 1 (aEq dl sk dc h1 h2 h3 h4) rfl;have k3:=fk 9 (aEu dl sk dc h1 h3 h2 h4) rfl;have k4:=fk 19 (aEr dl sk dc h1 h3) rfl;have k5:=fk 19 h7 rfl;have k6:=fk 19 h8 rfl;have k7:=fk 19 (aYe h6 h9 A5 Bd) rfl;have k8:=fk 19 (aLk dl sk dc h6) rfl;have k9:=fk 20 (aLh (dl:=dl) (sk:=(aB sk)) Bh) rfl;have O4:=fk 20 (bOx (op:=(aP dl (aB dc))) Di) rfl;have Jf:=fk 5 (FV.argwk (args:=[(.p (.agg (bB dl (aB sk) (aB dc)))),(.p bX)]) (A7:=[(.p (.agg (bB dl (aB sk) (aB dc)))),.p (aG [])]) (aXw (dl:=dl) Bh Jn Ky Mx My Oz) (by kernel_rfl)) rfl;have Jg:=fk 5 (bOy (eK (cD dl [] (aB dc) (aB sk)) o4) O2 O3) rfl;have Jh:=fk 5 (aUs dl sk dc dl sk dc Kz Sj h1 h3) rfl;exact FV.fi func5 ([k1.o,bF,k2.o,k3.o,k4.o,k5.o,k6.o,k7.o,bF,k8.o,k9.o,bF,O4.o,Jl.k 1 (gN [0,1,3,1,6,2,15,1,17,2,22,1,26,1,31,69,103,131] [0,17,19,20] [(16,71)]),Jm.k 8 ⟨(rng [(0,1),(3,1),(6,2),(15,1),(17,2),(22,5),(31,83),(117,117)]),[0,1,2,4,5],[3],[(19,3),(20,3)]⟩,Jf.o,Jo.k 1 (gN [0,1,3,1,6,2,14,2,17,2,22,8,31,135,169,65] [0,1,3,4,5] [(21,76)]),bF]++rT 10++[.c (pB (decide (a0=Ce))) [],bT,bT,bT,bT,.c (pB (decide (a2=Cf))) [],bT,bT,bT,Jg.o,bT,bT,.c (pB true) [],bT,bT,bT,bT,Jh.o,bT,bT,.c (pB true) [],bT]) (gc M3 (gc (fk 5 Sk rfl) (gc M3 (gt (true=true) rfl (gc Jh (gt (true=true) rfl (gt (true=true) rfl (gt (true=true) rfl (gc Mz (gt (FC Tp 42 [(.p (.sl ((eK (cD dl [] (aB dc) (aB sk)) o4).length) ((eK (cD dl [] (aB dc) (aB sk)) o4).flatten.map aA))),(.own 4)] [(4,(.row 76 D8.length (D8.flatten.map aA)))] 5 (pB true) []) (fv (bOu O2 O3 Si)) (Az Mz (gc Jg (Az Mz (gc O0 (gt (FC Tp 41 [(.p (aG a2)),(.own 3)] [(3,(.row 3 Cf.length (Cf.map aA)))] 5 (pB (decide (a2=Cf))) []) (fv (aAc a2 Cf O1)) (Ak O0 (gc zO (gt (FC Tp 41 [(.p (aG a0)),(.own 2)] [(2,(.row 3 Ce.length (Ce.map aA)))] 5 (pB (decide (a0=Ce))) []) (fv (aAc a0 Ce Sg)) (Ak zO (Ak (cH Sf) (Aw (cH Se) (gc (aN Sd) (gc Jo.code (gc Jf (gc Jm.code (gc Jl.code (gc O4 (gc (aN B9) (gc k9 (gc k8 (gc (bL h5) (gc k7 (gc k6 (gc k5 (gc k4 (gc k3 (gc k2 (gc h0 (gc k1 gn)))))))))))))))))))))))))))))))))))))))
theorem aZd{e0 e2:Int}(h0:(tJ sk dc 5 14)=false)(h1:uni 2 sk)(h2:sk.length≤1000)(h3:uni 6 dc)(h4:dc.length≤1000)(h5:(jQ dl sk dc)=0)(h6:bR dl sk dc)(h7:∀ {base:Nat},FV Tp 32 [.p (.agg (bB dl sk dc)),.p (aA n)] base (.tup [.p bX,.p (aA e0)]) [])(h8:∀ {base:Nat},FV Tp 33 [.p (.agg (bB dl sk dc)),.p (aA n)] base (.tup [.p bX,.p (aA e1)]) [])(h9:∀ {base:Nat},FV Tp 34 [.p (.agg (bB dl sk dc))] base (.tup [.p bX,.p (aA e2)]) [])(A5:bN (aB dc))(Bd:(5:Int)<(((aP dl (aB dc)).length:Nat):Int))(Bh:∀ {base:Nat},FV Tp 26 [] base (pB true) []):FV Tp 5 [(.p (.agg (bB dl sk dc))),(pI n)] base (pB true) []:=have k1:=fk 1 (zP dl sk dc 5 14) rfl;have k2:=fk 1 (aEq dl sk dc h1 h2 h3 h4) rfl;have k3:=fk 9 (aEu dl sk dc h1 h3 h2 h4) rfl;have k4:=fk 19 (aEr dl sk dc h1 h3) rfl;have k5:=fk 19 h7 rfl;have k6:=fk 19 h8 rfl;have k7:=fk 19 h9 rfl;have k8:=fk 19 (aLk dl sk dc h6) rfl;have k9:=fk 20 (aLh (dl:=dl) (sk:=(aB sk)) A5) rfl;FV.fi func5 [k1.o,bF,k2.o,k3.o,k4.o,k5.o,k6.o,k7.o,bF,k8.o,k9.o,bT,.c (pB true) []] (gc (fk 20 Bh rfl) (gc (aI Bd) (gc k9 (gc k8 (gc (bL h5) (gc k7 (gc k6 (gc k5 (gc k4 (gc k3 (gc k2 (gc h0 (gc k1 gn)))))))))))))
theorem bCx{rs:List (Lqq)}{Cc:List Int}{Ox:List (Lqq)}(h0:(i:Int)<(((fV (aP dl (aB dc))).length:Nat):Int))(h1:(fV (aP dl (aB dc)))[i]? = some (Cc))(h2:bN (aB dc))(h3:Cc.length≤1000)(h4:uni 2 (aB sk))(h5:(aB sk).length≤100)(h6:(aB sk).Pairwise fun a b=>a.getD 0 0<b.getD 0 0)(h7:∀ s∈(aB sk),-1≤sT s∧sT s≤360000)(h8:[(PV.sl ((cD dl Cc (aB dc) (aB sk)).length) ((cD dl Cc (aB dc) (aB sk)).flatten.map aA))].length=1*1∧rs.length+1≤1000000)(h9:inR (((i+1):Nat):Int))(O5:Ox.length=(rs.length+1))(O6:(Ox.map reE).flatten=(((rs.map reE).flatten)++[(PV.sl ((cD dl Cc (aB dc) (aB sk)).length) ((cD dl Cc (aB dc) (aB sk)).flatten.map aA))]))(Ai:i'=(i+1)):aC Tp 0 aLc (mK dl sk dc n a0 e1 a2 e3 o4 rs.length ((rs.map reE).flatten) i) .normal (mK dl sk dc n a0 e1 a2 e3 o4 Ox.length ((Ox.map reE).flatten) i'):=by
 subst Ai;have k1:=fk 4 (aXw (dl:=dl) h2 h3 h4 h5 h6 h7) rfl;rw [O5,O6];exact aC.fi (gI [0,1,3,1,6,2,15,1,17,2,22,1,26,1,31,69,103,131] [0,1,2,5]) [bT,.x (aG Cc),k1.o] (gc h9 (gc h8 (gc k1 (gt ((((fV (aP dl (aB dc))).map oiE).flatten)[(i*1)]? = some (aG Cc)) (bI (E:=oiE) (i:=i) (f:=0) (k:=1) (fun _=>rfl) h1 rfl) (gc (lP (E:=oiE) (k:=1) (i:=(i:Int)) (fun _=>rfl) (by decide) (Br _) h1) (gc (aI h0) gn))))))
theorem bCy{rs:List (Lqq)}(h0:(((fV (aP dl (aB dc))).length:Nat):Int)≤(i:Int)):aC Tp 0 aLc (mK dl sk dc n a0 e1 a2 e3 o4 rs.length ((rs.map reE).flatten) i) (.exit 0) (mK dl sk dc n a0 e1 a2 e3 o4 rs.length ((rs.map reE).flatten) i):=aC.fi (gI [0,1,3,1,6,2,15,1,17,2,22,1,26,1,31,69,103,131] [0,1,2,3]) [bF] (gc (aN h0) gn)
theorem bCz{Aj:List (Lqq)}(h0:(i:Int)<(((aB sk).length:Nat):Int))(h1:(aB sk)[i]? = some [Ah,Ag])(h2:uni 2 (aB sk))(h3:∀ r∈Aj,uni 3 r∧r.length≤1000)(h4:Aj.length≤1000)(h5:plR Aj Ah=Ay)(h6:gnR Aj Ah=Er)(h7:(0:Int)<(Ay.length:Int))(h8:Ay[0]? = some Cq)(h9:Cq≤n)(A5:[(aA Ah)].length=1*1∧ca.length+1≤1000000)(Bd:Er=false)(Bh:inR ((Ay.length:Int)-1))(B9:Ay[((Ay.length:Int)-1).toNat]? = some D5)(Di:0≤((Ay.length:Int)-1))(G4:D5≤n)(Hz:[(aA Ah)].length=1*1∧mu.length+1≤1000000)(Jn:inR (((i+1):Nat):Int))(G9:H7.length=(ca.length+1))(Ha:H7.map aA=((ca.map aA)++[(aA Ah)]))(Jp:Kn.length=(mu.length+1))(Jq:Kn.map aA=((mu.map aA)++[(aA Ah)]))(Ai:i'=(i+1)):aC Tp 0 oY (eM dl sk dc n a0 e1 a2 e3 o4 Aj ca.length (ca.map aA) mu.length (mu.map aA) i) .normal (eM dl sk dc n a0 e1 a2 e3 o4 Aj H7.length (H7.map aA) Kn.length (Kn.map aA) i'):=by
 subst Ai;have k1:=fk 6 (nQ h3 h4 h5 h6) rfl;rw [G9,Ha,Jp,Jq];exact aC.fi (gI [0,1,3,1,6,2,15,1,17,2,22,5,31,83,117,117] [0,1,2,7,9]) ([bT,.x (.agg [(aA Ah),(aA Ag)]),k1.o,bT,bT,bT,.x (aA Cq)]++rT 13++[.x (aA D5),bT,bT,bT,bT]) (gc Jn (gc Hz (gc (mA G4) (Ak (bM Bd) (gt ((Ay.map aA)[(((Ay.length:Int)-1).toNat*1)]? = some (aA D5)) (iK (i:=((Ay.length:Int)-1).toNat) B9) (gc (bM Bd) (gc (iL (g:=aA) Di B9) (gc (bM Bd) (gc Bh (Aw (bM Bd) (Ak (aI h7) (gc A5 (gc (mA h9) (Ak (aI h7) (gt ((Ay.map aA)[0]? = some (aA Cq)) (iK (i:=0) h8) (gc (aI h7) (gt (0≤(0:Int)∧(0:Int)<(Ay.length:Int)∧0<(Ay.map aA).length) (iL (i:=(0:Int)) (by first | decide | simp) h8) (Az (aI h7) (gc k1 (gfl h2 h1 (gc (aI h0) gn)))))))))))))))))))))
theorem bDa{Aj:List (Lqq)}(h0:(i:Int)<(((aB sk).length:Nat):Int))(h1:(aB sk)[i]? = some [Ah,Ag])(h2:uni 2 (aB sk))(h3:∀ r∈Aj,uni 3 r∧r.length≤1000)(h4:Aj.length≤1000)(h5:plR Aj Ah=Ay)(h6:gnR Aj Ah=Er)(h7:(0:Int)<(Ay.length:Int))(h8:Ay[0]? = some Cq)(h9:Cq≤n)(A5:[(aA Ah)].length=1*1∧ca.length+1≤1000000)(Bd:Er=false)(Bh:inR ((Ay.length:Int)-1))(B9:Ay[((Ay.length:Int)-1).toNat]? = some D5)(Di:0≤((Ay.length:Int)-1))(G4:n<D5)(Hz:inR (((i+1):Nat):Int))(G9:H7.length=(ca.length+1))(Ha:H7.map aA=((ca.map aA)++[(aA Ah)]))(Ai:i'=(i+1)):aC Tp 0 oY (eM dl sk dc n a0 e1 a2 e3 o4 Aj ca.length (ca.map aA) mu.length (mu.map aA) i) .normal (eM dl sk dc n a0 e1 a2 e3 o4 Aj H7.length (H7.map aA) mu.length (mu.map aA) i'):=by
 subst Ai;have k1:=fk 6 (nQ h3 h4 h5 h6) rfl;rw [G9,Ha];exact aC.fi (gI [0,1,3,1,6,2,15,1,17,2,22,5,31,83,117,117] [0,1,2,7,4]) ([bT,.x (.agg [(aA Ah),(aA Ag)]),k1.o,bT,bT,bT,.x (aA Cq)]++rT 13++[.x (aA D5),bT,bT,bT,bF]) (gc Hz (gc (jG G4) (Ak (bM Bd) (gt ((Ay.map aA)[(((Ay.length:Int)-1).toNat*1)]? = some (aA D5)) (iK (i:=((Ay.length:Int)-1).toNat) B9) (gc (bM Bd) (gc (iL (g:=aA) Di B9) (gc (bM Bd) (gc Bh (Aw (bM Bd) (Ak (aI h7) (gc A5 (gc (mA h9) (Ak (aI h7) (gt ((Ay.map aA)[0]? = some (aA Cq)) (iK (i:=0) h8) (gc (aI h7) (gt (0≤(0:Int)∧(0:Int)<(Ay.length:Int)∧0<(Ay.map aA).length) (iL (i:=(0:Int)) (by first | decide | simp) h8) (Az (aI h7) (gc k1 (gfl h2 h1 (gc (aI h0) gn))))))))))))))))))))
theorem bDb{Aj:List (Lqq)}(h0:(i:Int)<(((aB sk).length:Nat):Int))(h1:(aB sk)[i]? = some [Ah,Ag])(h2:uni 2 (aB sk))(h3:∀ r∈Aj,uni 3 r∧r.length≤1000)(h4:Aj.length≤1000)(h5:plR Aj Ah=Ay)(h6:gnR Aj Ah=Er)(h7:(0:Int)<(Ay.length:Int))(h8:Ay[0]? = some Cq)(h9:Cq≤n)(A5:[(aA Ah)].length=1*1∧ca.length+1≤1000000)(Bd:Er=true)(Bh:inR (((i+1):Nat):Int))(G9:H7.length=(ca.length+1))(Ha:H7.map aA=((ca.map aA)++[(aA Ah)]))(Ai:i'=(i+1)):aC Tp 0 oY (eM dl sk dc n a0 e1 a2 e3 o4 Aj ca.length (ca.map aA) mu.length (mu.map aA) i) .normal (eM dl sk dc n a0 e1 a2 e3 o4 Aj H7.length (H7.map aA) mu.length (mu.map aA) i'):=by
 subst Ai;have k1:=fk 6 (nQ h3 h4 h5 h6) rfl;rw [G9,Ha];exact aC.fi (gI [0,1,3,1,6,2,15,1,17,2,22,5,31,83,117,117] [0,1,2,7,4]) ([bT,.x (.agg [(aA Ah),(aA Ag)]),k1.o,bT,bT,bT,.x (aA Cq)]++rT 7++rF 9) (gc Bh (Eu (aV Bd) (gc (aV Bd) (Ak (aI h7) (gc A5 (gc (mA h9) (Ak (aI h7) (gt ((Ay.map aA)[0]? = some (aA Cq)) (iK (i:=0) h8) (gc (aI h7) (gt (0≤(0:Int)∧(0:Int)<(Ay.length:Int)∧0<(Ay.map aA).length) (iL (i:=(0:Int)) (by first | decide | simp) h8) (Az (aI h7) (gc k1 (gfl h2 h1 (gc (aI h0) gn))))))))))))))
theorem bDc{Aj:List (Lqq)}(h0:(i:Int)<(((aB sk).length:Nat):Int))(h1:(aB sk)[i]? = some [Ah,Ag])(h2:uni 2 (aB sk))(h3:∀ r∈Aj,uni 3 r∧r.length≤1000)(h4:Aj.length≤1000)(h5:plR Aj Ah=Ay)(h6:gnR Aj Ah=Er)(h7:(0:Int)<(Ay.length:Int))(h8:Ay[0]? = some Cq)(h9:n<Cq)(A5:Er=false)(Bd:inR ((Ay.length:Int)-1))(Bh:Ay[((Ay.length:Int)-1).toNat]? = some D5)(B9:0≤((Ay.length:Int)-1))(Di:D5≤n)(G4:[(aA Ah)].length=1*1∧mu.length+1≤1000000)(Hz:inR (((i+1):Nat):Int))(Jp:Kn.length=(mu.length+1))(Jq:Kn.map aA=((mu.map aA)++[(aA Ah)]))(Ai:i'=(i+1)):aC Tp 0 oY (eM dl sk dc n a0 e1 a2 e3 o4 Aj ca.length (ca.map aA) mu.length (mu.map aA) i) .normal (eM dl sk dc n a0 e1 a2 e3 o4 Aj ca.length (ca.map aA) Kn.length (Kn.map aA) i'):=by
 subst Ai;have k1:=fk 6 (nQ h3 h4 h5 h6) rfl;rw [Jp,Jq];exact aC.fi (gI [0,1,3,1,6,2,15,1,17,2,22,5,31,83,117,117] [0,1,2,3,7]) ([bT,.x (.agg [(aA Ah),(aA Ag)]),k1.o,bT,bT,bT,.x (aA Cq),bT,bT,bT,bF]++rT 9++[.x (aA D5),bT,bT,bT,bT]) (gc Hz (gc G4 (gc (mA Di) (Ak (bM A5) (gt ((Ay.map aA)[(((Ay.length:Int)-1).toNat*1)]? = some (aA D5)) (iK (i:=((Ay.length:Int)-1).toNat) Bh) (gc (bM A5) (gc (iL (g:=aA) B9 Bh) (gc (bM A5) (gc Bd (Aw (bM A5) (Ak (aI h7) (gc (jG h9) (Ak (aI h7) (gt ((Ay.map aA)[0]? = some (aA Cq)) (iK (i:=0) h8) (gc (aI h7) (gt (0≤(0:Int)∧(0:Int)<(Ay.length:Int)∧0<(Ay.map aA).length) (iL (i:=(0:Int)) (by first | decide | simp) h8) (Az (aI h7) (gc k1 (gfl h2 h1 (gc (aI h0) gn))))))))))))))))))))
theorem bDd{Aj:List (Lqq)}(h0:(i:Int)<(((aB sk).length:Nat):Int))(h1:(aB sk)[i]? = some [Ah,Ag])(h2:uni 2 (aB sk))(h3:∀ r∈Aj,uni 3 r∧r.length≤1000)(h4:Aj.length≤1000)(h5:plR Aj Ah=Ay)(h6:gnR Aj Ah=Er)(h7:(0:Int)<(Ay.length:Int))(h8:Ay[0]? = some Cq)(h9:n<Cq)(A5:Er=false)(Bd:inR ((Ay.length:Int)-1))(Bh:Ay[((Ay.length:Int)-1).toNat]? = some D5)(B9:0≤((Ay.length:Int)-1))(Di:n<D5)(G4:inR (((i+1):Nat):Int))(Ai:i'=(i+1)):aC Tp 0 oY (eM dl sk dc n a0 e1 a2 e3 o4 Aj ca.length (ca.map aA) mu.length (mu.map aA) i) .normal (eM dl sk dc n a0 e1 a2 e3 o4 Aj ca.length (ca.map aA) mu.length (mu.map aA) i'):=by
 subst Ai;have k1:=fk 6 (nQ h3 h4 h5 h6) rfl;exact aC.fi (gI [0,1,3,1,6,2,15,1,17,2,22,5,31,83,117,117] [0,1,2,3,4]) ([bT,.x (.agg [(aA Ah),(aA Ag)]),k1.o,bT,bT,bT,.x (aA Cq),bT,bT,bT,bF]++rT 9++[.x (aA D5),bT,bT,bT,bF]) (gc G4 (gc (jG Di) (Ak (bM A5) (gt ((Ay.map aA)[(((Ay.length:Int)-1).toNat*1)]? = some (aA D5)) (iK (i:=((Ay.length:Int)-1).toNat) Bh) (gc (bM A5) (gc (iL (g:=aA) B9 Bh) (gc (bM A5) (gc Bd (Aw (bM A5) (Ak (aI h7) (gc (jG h9) (Ak (aI h7) (gt ((Ay.map aA)[0]? = some (aA Cq)) (iK (i:=0) h8) (gc (aI h7) (gt (0≤(0:Int)∧(0:Int)<(Ay.length:Int)∧0<(Ay.map aA).length) (iL (i:=(0:Int)) (by first | decide | simp) h8) (Az (aI h7) (gc k1 (gfl h2 h1 (gc (aI h0) gn)))))))))))))))))))
theorem bDe{Aj:List (Lqq)}(h0:(i:Int)<(((aB sk).length:Nat):Int))(h1:(aB sk)[i]? = some [Ah,Ag])(h2:uni 2 (aB sk))(h3:∀ r∈Aj,uni 3 r∧r.length≤1000)(h4:Aj.length≤1000)(h5:plR Aj Ah=Ay)(h6:gnR Aj Ah=Er)(h7:(0:Int)<(Ay.length:Int))(h8:Ay[0]? = some Cq)(h9:n<Cq)(A5:Er=true)(Bd:inR (((i+1):Nat):Int))(Ai:i'=(i+1)):aC Tp 0 oY (eM dl sk dc n a0 e1 a2 e3 o4 Aj ca.length (ca.map aA) mu.length (mu.map aA) i) .normal (eM dl sk dc n a0 e1 a2 e3 o4 Aj ca.length (ca.map aA) mu.length (mu.map aA) i'):=by
 subst Ai;have k1:=fk 6 (nQ h3 h4 h5 h6) rfl;exact aC.fi (gI [0,1,3,1,6,2,15,1,17,2,22,5,31,83,117,117] [0,1,2,3,4]) ([bT,.x (.agg [(aA Ah),(aA Ag)]),k1.o,bT,bT,bT,.x (aA Cq),bT,bT,bT,bF,bT,bT,bT]++rF 9) (gc Bd (Eu (aV A5) (gc (aV A5) (Ak (aI h7) (gc (jG h9) (Ak (aI h7) (gt ((Ay.map aA)[0]? = some (aA Cq)) (iK (i:=0) h8) (gc (aI h7) (gt (0≤(0:Int)∧(0:Int)<(Ay.length:Int)∧0<(Ay.map aA).length) (iL (i:=(0:Int)) (by first | decide | simp) h8) (Az (aI h7) (gc k1 (gfl h2 h1 (gc (aI h0) gn)))))))))))))
theorem bDf{Aj:List (Lqq)}(h0:(i:Int)<(((aB sk).length:Nat):Int))(h1:(aB sk)[i]? = some [Ah,Ag])(h2:uni 2 (aB sk))(h3:∀ r∈Aj,uni 3 r∧r.length≤1000)(h4:Aj.length≤1000)(h5:plR Aj Ah=Ay)(h6:gnR Aj Ah=Er)(h7:(Ay.length:Int)≤0)(h8:inR (((i+1):Nat):Int))(Ai:i'=(i+1)):aC Tp 0 oY (eM dl sk dc n a0 e1 a2 e3 o4 Aj ca.length (ca.map aA) mu.length (mu.map aA) i) .normal (eM dl sk dc n a0 e1 a2 e3 o4 Aj ca.length (ca.map aA) mu.length (mu.map aA) i'):=by
 subst Ai;have k1:=fk 6 (nQ h3 h4 h5 h6) rfl;exact aC.fi (gI [0,1,3,1,6,2,15,1,17,2,22,5,31,83,117,117] [0,1,2,3,4]) ([bT,.x (.agg [(aA Ah),(aA Ag)]),k1.o]++rF 9) (gc h8 (Eu (aN h7) (gc (aN h7) (gc k1 (gfl h2 h1 (gc (aI h0) gn))))))
theorem bDg{Aj:List (Lqq)}(h0:(((aB sk).length:Nat):Int)≤(i:Int)):aC Tp 0 oY (eM dl sk dc n a0 e1 a2 e3 o4 Aj ca.length (ca.map aA) mu.length (mu.map aA) i) (.exit 2) (eM dl sk dc n a0 e1 a2 e3 o4 Aj ca.length (ca.map aA) mu.length (mu.map aA) i):=aC.fi (gI [0,1,3,1,6,2,15,1,17,2,22,5,31,83,117,117] [0,1,2,3,4]) [bF] (gc (aN h0) gn)
theorem bDh{Aj:List (Lqq)}(h0:(i:Int)<(((cD dl [] (aB dc) (aB sk)).length:Nat):Int))(h1:(cD dl [] (aB dc) (aB sk))[i]? = some [Cd,Bw,Cm])(h2:uni 3 (cD dl [] (aB dc) (aB sk)))(h3:∀ r∈Aj,uni 3 r∧r.length≤1000)(h4:Aj.length≤1000)(h5:plR Aj Cd=Fl)(h6:gnR Aj Cd=Iu)(h7:(Fl.length:Int)=1)(h8:Iu=false)(h9:[(aA Cd),(aA Bw),(aA Cm)].length=1*3∧su.length+1≤1000000)(A5:inR (((i+1):Nat):Int))(Jr:Ko.length=(su.length+1))(Js:Ko.flatten.map aA=((su.flatten.map aA)++[(aA Cd),(aA Bw),(aA Cm)]))(Ai:i'=(i+1)):aC Tp 0 wO (gV dl sk dc n a0 e1 a2 e3 o4 Aj Ce Cf su.length (su.flatten.map aA) i) .normal (gV dl sk dc n a0 e1 a2 e3 o4 Aj Ce Cf Ko.length (Ko.flatten.map aA) i'):=by
 subst Ai;have k1:=fk 6 (nQ h3 h4 h5 h6) rfl;rw [Jr,Js];exact aC.fi (gI [0,1,3,1,6,2,14,2,17,2,22,8,31,135,169,65] [0,1,2,3,7]) ([bT,.x (.agg [(aA Cd),(aA Bw),(aA Cm)]),k1.o]++rT 7) (gc A5 (gc h9 (gt ([(aA Cd),(aA Bw),(aA Cm)].length=3) (by first | decide | simp) (Aw (bM h8) (Ak (cH h7) (gc k1 (gfl h2 h1 (gc (aI h0) gn))))))))
theorem bDi{Aj:List (Lqq)}(h0:(i:Int)<(((cD dl [] (aB dc) (aB sk)).length:Nat):Int))(h1:(cD dl [] (aB dc) (aB sk))[i]? = some [Cd,Bw,Cm])(h2:uni 3 (cD dl [] (aB dc) (aB sk)))(h3:∀ r∈Aj,uni 3 r∧r.length≤1000)(h4:Aj.length≤1000)(h5:plR Aj Cd=Fl)(h6:gnR Aj Cd=Iu)(h7:(Fl.length:Int)=1)(h8:Iu=true)(h9:(Fl.length:Int)≠0)(A5:inR (((i+1):Nat):Int))(Ai:i'=(i+1)):aC Tp 0 wO (gV dl sk dc n a0 e1 a2 e3 o4 Aj Ce Cf su.length (su.flatten.map aA) i) .normal (gV dl sk dc n a0 e1 a2 e3 o4 Aj Ce Cf su.length (su.flatten.map aA) i'):=by
 subst Ai;have k1:=fk 6 (nQ h3 h4 h5 h6) rfl;exact aC.fi (gI [0,1,3,1,6,2,14,2,17,2,22,8,31,135,169,65] [0,1,2,3,4]) ([bT,.x (.agg [(aA Cd),(aA Bw),(aA Cm)]),k1.o,bT,bT,bT]++rF 5) (gc A5 (gc (aU h9) (Aw (aV h8) (Ak (cH h7) (gc k1 (gfl h2 h1 (gc (aI h0) gn)))))))
theorem bDj{Aj:List (Lqq)}(h0:(i:Int)<(((cD dl [] (aB dc) (aB sk)).length:Nat):Int))(h1:(cD dl [] (aB dc) (aB sk))[i]? = some [Cd,Bw,Cm])(h2:uni 3 (cD dl [] (aB dc) (aB sk)))(h3:∀ r∈Aj,uni 3 r∧r.length≤1000)(h4:Aj.length≤1000)(h5:plR Aj Cd=Fl)(h6:gnR Aj Cd=Iu)(h7:(Fl.length:Int)≠1)(h8:(Fl.length:Int)=0)(h9:[(aA Cd),(aA Bw),(aA Cm)].length=1*3∧su.length+1≤1000000)(A5:inR (((i+1):Nat):Int))(Jr:Ko.length=(su.length+1))(Js:Ko.flatten.map aA=((su.flatten.map aA)++[(aA Cd),(aA Bw),(aA Cm)]))(Ai:i'=(i+1)):aC Tp 0 wO (gV dl sk dc n a0 e1 a2 e3 o4 Aj Ce Cf su.length (su.flatten.map aA) i) .normal (gV dl sk dc n a0 e1 a2 e3 o4 Aj Ce Cf Ko.length (Ko.flatten.map aA) i'):=by
 subst Ai;have k1:=fk 6 (nQ h3 h4 h5 h6) rfl;rw [Jr,Js];exact aC.fi (gI [0,1,3,1,6,2,14,2,17,2,22,8,31,135,169,65] [0,1,2,3,7]) [bT,.x (.agg [(aA Cd),(aA Bw),(aA Cm)]),k1.o,bF,bF,bF,bT] (gc A5 (gc h9 (gt ([(aA Cd),(aA Bw),(aA Cm)].length=3) (by first | decide | simp) (gc (cH h8) (Ak (aU h7) (gc k1 (gfl h2 h1 (gc (aI h0) gn))))))))
theorem bDk{Aj:List (Lqq)}(h0:(i:Int)<(((cD dl [] (aB dc) (aB sk)).length:Nat):Int))(h1:(cD dl [] (aB dc) (aB sk))[i]? = some [Cd,Bw,Cm])(h2:uni 3 (cD dl [] (aB dc) (aB sk)))(h3:∀ r∈Aj,uni 3 r∧r.length≤1000)(h4:Aj.length≤1000)(h5:plR Aj Cd=Fl)(h6:gnR Aj Cd=Iu)(h7:(Fl.length:Int)≠1)(h8:(Fl.length:Int)≠0)(h9:inR (((i+1):Nat):Int))(Ai:i'=(i+1)):aC Tp 0 wO (gV dl sk dc n a0 e1 a2 e3 o4 Aj Ce Cf su.length (su.flatten.map aA) i) .normal (gV dl sk dc n a0 e1 a2 e3 o4 Aj Ce Cf su.length (su.flatten.map aA) i'):=by
 subst Ai;have k1:=fk 6 (nQ h3 h4 h5 h6) rfl;exact aC.fi (gI [0,1,3,1,6,2,14,2,17,2,22,8,31,135,169,65] [0,1,2,3,4]) [bT,.x (.agg [(aA Cd),(aA Bw),(aA Cm)]),k1.o,bF,bF,bF,bF] (gc h9 (gc (aU h8) (Ak (aU h7) (gc k1 (gfl h2 h1 (gc (aI h0) gn))))))
theorem bDl{Aj:List (Lqq)}(h0:(((cD dl [] (aB dc) (aB sk)).length:Nat):Int)≤(i:Int)):aC Tp 0 wO (gV dl sk dc n a0 e1 a2 e3 o4 Aj Ce Cf su.length (su.flatten.map aA) i) (.exit 4) (gV dl sk dc n a0 e1 a2 e3 o4 Aj Ce Cf su.length (su.flatten.map aA) i):=aC.fi (gI [0,1,3,1,6,2,14,2,17,2,22,8,31,135,169,65] [0,1,2,3,4]) [bF] (gc (aN h0) gn)
end
section

end
section
theorem bZu{dl:Int}{D:Lqq}{u:List Int}(h2:u.Pairwise (· < ·))(hu:∀ n∈u,n∈aP dl D):aRi dl D u=0:=by
 unfold aRi;rw [if_pos (gJ.2 fun n hn=>by
  unfold ocB;rw [List.contains_iff_mem];exact hu n hn),if_pos]
 unfold qU;rw [gJ];intro i hi;have hi:=iJ.1 hi
 rcases Nat.eq_zero_or_pos i with rfl | h0
 ·rfl
 ·rw [wN]
  refine .inr (decide_eq_true ?_);have:=List.pairwise_iff_getElem.1 h2 (i-1) i (by omega) hi (by omega)
  rw [Bv,Bv,Av hi,Av (show i-1<u.length by omega)]
  exact this
theorem aGl{dl:Int}{D:Lqq}(hd:bN D):(aP dl D).Pairwise (· < ·):=by
 unfold aP;rw [List.pairwise_map];exact hd.up.sublist List.filter_sublist
theorem bZv{l:List Int}(h:l.Nodup):(l.mergeSort KL.leB).Pairwise (· < ·):=by
 have h1:(l.mergeSort KL.leB).Pairwise fun a b=>KL.leB a b=true:=List.pairwise_mergeSort (fun a b c h1 h2=>by simp only [KL.leB,decide_eq_true_eq] at *;omega) (fun a b=>by simp only [KL.leB,wN,decide_eq_true_eq];omega) l
 have h2:(l.mergeSort KL.leB).Nodup:=(List.mergeSort_perm l KL.leB).nodup_iff.2 h;exact (h1.and h2).imp fun {a b} q=>by
  have q1:a≤b:=of_decide_eq_true q.1;have q2:a≠b:=q.2;omega
end
section
section
variable {dl:Int} {oc I7:List Int} {F:List Int→Int}
theorem aRt{P:Int→Bool}:∀ {L:Lqq},bN L→(∀ s∈L,∀ y∈L,dAb s=dN y→F s=F y)→(∀ y∈L,P (F y)=true→oc.contains (dN y)=I7.contains (dN y))→(bK dl oc L).filter (fun s=>P (F s.x))=(bK dl I7 L).filter (fun s=>P (F s.x))
 | [],_,_,_=>rfl
 | y::L,hd,hF,ho=>by
  have ih:=aRt (P:=P) hd.tail (fun s hs z hz=>hF s (Cj _ hs) z (Cj _ hz)) fun z hz=>ho z (Cj _ hz)
  have ex:∀ q,(mkS dl q y (bK dl q L)).x=y:=fun _=>rfl
  cases hy:P (F y) with
  | false=>rw [bK,bK,List.filter_cons_of_neg (by rw [ex,hy];exact Bool.false_ne_true),List.filter_cons_of_neg (by rw [ex,hy];exact Bool.false_ne_true),ih]
  | true =>
   rw [bK,bK,List.filter_cons_of_pos (by rw [ex,hy]),List.filter_cons_of_pos (by rw [ex,hy]),ih]
   congr 1
   have key:∀ q,cX (bK dl q L) (dN y)=cX ((bK dl q L).filter fun s=>P (F s.x)) (dN y):=fun q=>by
    unfold cX;rw [← List.filter_reverse,List.filter_filter];refine List.filter_congr fun s hs => ?_
    cases e:dAb s.x == dN y with
    | false=>rfl
    | true =>
     have e:dAb s.x=dN y:=by simpa using e
     have:=hF s.x (Cj _ (cKb (zM.1 hs))) y (gL ..) e;rw [this,hy];rfl
   have e:cX (bK dl oc L) (dN y)=cX (bK dl I7 L) (dN y):=by rw [key,key,ih]
   unfold mkS;rw [e,ho y (gL ..) hy]
theorem bTl{P:Int→Bool}{L:Lqq}(hd:bN L)(hF:∀ s∈L,∀ y∈L,dAb s=dN y→F s=F y)(ho:∀ y∈L,P (F y)=true→oc.contains (dN y)=I7.contains (dN y)){y:List Int}(hm:y∈L)(hy:P (F y)=true):stF dl oc L y=stF dl I7 L y:=by
 have h:=aRt (dl:=dl) (P:=P) hd hF ho;have key:∀ q,(bK dl q L).find? (fun s=>s.x == y)=((bK dl q L).filter fun s=>P (F s.x)).find? (fun s=>s.x == y):=fun q=>(aJt fun s _ hs=>by
  cases e:s.x == y with
  | false=>rfl
  | true =>
   have e:s.x=y:=by simpa using e
   rw [e,hy] at hs
   cases hs).symm
 have hs:((bK dl oc L).find? fun s=>s.x == y).isSome=true:=by
  rw [List.find?_isSome];have hm:=hm;rw [← rQ dl oc L] at hm
  obtain ⟨s,h1,h2⟩:=Bs.1 hm;exact ⟨s,h1,by rw [h2];exact beq_self_eq_true y⟩
 have e:(bK dl oc L).find? (fun s=>s.x == y)=(bK dl I7 L).find? (fun s=>s.x == y):=by rw [key oc,key I7,h]
 obtain ⟨s,Ir⟩:=Option.isSome_iff_exists.1 hs;unfold stF;rw [← e,Ir];rfl
theorem aJv{D:Lqq}(hd:bN D){c t:Int}(ho:∀ y∈D,mC D y=c→oc.contains (dN y)=I7.contains (dN y)):cI dl oc D c t=cI dl I7 D c t:=by
 have e:aGy dl oc D c t=aGy dl I7 D c t:=by
  unfold aGy;refine yX _ _ _ _ fun y hy a => ?_
  unfold pG aFi
  by_cases h4:dK y≤4
  ·by_cases hb:dB y=c
   ·have hs:stF dl oc D y=stF dl I7 D y:=bTl (F:=mC D) (P:=fun b=>decide (b=c)) hd (fun s hs y hy e=>aYf hd hs hy e) (fun y hy h=>ho y hy (of_decide_eq_true h)) hy (decide_eq_true ((bSy h4).trans hb))
    unfold dJ vE kI;rw [hs]
   ·rw [show (dB y == c)=false by simpa using hb];simp
  ·rw [decide_eq_false h4];simp
 unfold cI;rw [e]
end
section
variable {dl:Int} {sk dc:Lqq}
def mE(dl:Int)(D:Lqq)(u:List Int)(s:List Int):Int:=(chM dl D (s.getD 0 0) (s.getD 1 0) u).1
theorem bTm(hr:bR dl sk dc){s:List Int}(hs:s∈aB sk)(u:List Int):0≤mE dl (aB dc) u s∧mE dl (aB dc) u s≤far:=by
 obtain ⟨_,_,h3,_⟩:=fN hr;have hb:=aNl (dl:=dl) (oc:=u) (b:=s.getD 0 0) (dW hr) (h3 s hs).2;unfold mE chM;dsimp only
 split
 ·exact ⟨by decide,bCw _⟩
 ·exact ⟨hb.1,Int.le_trans hb.2 (by decide)⟩
theorem cKi(hr:bR dl sk dc){s:List Int}(hs:s∈aB sk){u:List Int}{t:Int}(ht:t≤100000000000):decide (mE dl (aB dc) u s<t)=(!(cI dl u (aB dc) (sB s) (sT s)).2 && decide ((cI dl u (aB dc) (sB s) (sT s)).1<t)):=by
 unfold mE chM;dsimp only;cases h:(cI dl u (aB dc) (s.getD 0 0) (s.getD 1 0)).2 with
 | true =>
  rw [if_pos rfl];have:¬ (far<t):=by
   have:(far:Int)=1099511627776:=rfl;omega
  rw [decide_eq_false this];rfl
 | false =>
  rw [if_neg Bool.false_ne_true];rfl
theorem cAe(hd:bN (aB dc)){y:List Int}(hy:y∈aB dc):vK (aB dc) (dN y)=mC (aB dc) y:=by unfold vK;rw [aCn hd hy]
theorem bBb(hr:bR dl sk dc)(u:List Int)(s:List Int):chM dl (aB dc) (s.getD 0 0) (s.getD 1 0) u=((chM dl (aB dc) (s.getD 0 0) (s.getD 1 0) (u.filter fun n => !(vK (aB dc) n != s.getD 0 0))).1,(chM dl (aB dc) (s.getD 0 0) (s.getD 1 0) (u.filter fun n => !(vK (aB dc) n != s.getD 0 0))).2.1,u):=by
 have hd:=dW hr;have e:cI dl u (aB dc) (s.getD 0 0) (s.getD 1 0)=cI dl (u.filter fun n => !(vK (aB dc) n != s.getD 0 0)) (aB dc) (s.getD 0 0) (s.getD 1 0):=aJv hd fun y hy h=>by
  rw [Bool.eq_iff_iff,List.contains_iff_mem,List.contains_iff_mem,kK,cAe hd hy,h];simp
 unfold chM;rw [e]
theorem aJw(hr:bR dl sk dc){u:List Int}(hu:u.Sublist (aP dl (aB dc)))(s:List Int):∃ x∈(iD dl (aB dc) (s.getD 0 0) (s.getD 1 0) (kB dl (aB dc) (s.getD 0 0))).1,x.1=mE dl (aB dc) u s∧x.2.1=(cI dl u (aB dc) (sB s) (sT s)).2:=by
 have hf:(u.filter fun n => !(vK (aB dc) n != s.getD 0 0)).Sublist (kB dl (aB dc) (s.getD 0 0)):=hu.filter _
 refine ⟨_,Bs.2 ⟨_,bSx _ _ hf,rfl⟩,?_,?_⟩
 ·unfold mE
  rw [bBb hr u s]
 ·have:=congrArg (fun x:bD=>x.2.1) (bBb hr u s)
  exact this.symm
theorem cLf{l:List bD}{x:bD}(hx:x∈l):mnM l≤x.1:=(aQu l far).2 x hx
theorem cAf{l:List bD}{x:bD}(hx:x∈l):x.1≤mxM l:=(aQv l 0).2 x hx
def aNp(dl:Int)(D:Lqq)(S:Lqq)(u:List Int)(t:Int)(n:Nat):Nat:=((S.take n).filter fun s=>decide (mE dl D u s<t)).length
theorem aJx{D S:Lqq}{u:List Int}{t:Int}{n:Nat}{s:List Int}(hs:S[n]? = some s):aNp dl D S u t (n+1)=aNp dl D S u t n+(if mE dl D u s<t then 1 else 0):=by
 unfold aNp;rw [List.take_add_one,hs];show ((S.take n++[s]).filter _).length=_;rw [kU,iF]
 congr 1
 by_cases h:mE dl D u s<t
 ·rw [if_pos h,List.filter_cons_of_pos (p:=fun s=>decide (mE dl D u s<t)) (decide_eq_true h)];rfl
 ·rw [if_neg h,List.filter_cons_of_neg (p:=fun s=>decide (mE dl D u s<t)) (by show ¬ decide (mE dl D u s<t)=true;rw [decide_eq_false h];exact Bool.false_ne_true)];rfl
theorem aRu(hr:bR dl sk dc){u:List Int}(hu:u.Sublist (aP dl (aB dc))){i:Nat}{si:List Int}(hi:(aB sk)[i]? = some si){t:Int}(ht:t=mE dl (aB dc) u si):∀ n,n≤(aB sk).length→(dA (aJ dl (aB sk) (aB dc)) i t n).1≤aNp dl (aB dc) (aB sk) u t n∧aNp dl (aB dc) (aB sk) u t n≤(dA (aJ dl (aB sk) (aB dc)) i t n).2
 | 0,_=>⟨Nat.zero_le _,Nat.zero_le _⟩
 | n+1,hn=>by
  obtain ⟨I8,Hw⟩:=aRu hr hu hi ht n (by omega)
  have hs:(aB sk)[n]? = some (aB sk)[n]:=Av (by omega)
  rw [aJx hs];unfold dA;rw [iR hs];dsimp only
  by_cases hin:n=i
  ·rw [if_pos hin]
   have e:si=(aB sk)[n]:=by subst hin;rw [hs] at hi;exact (Option.some.inj hi).symm
   rw [if_neg (by rw [← e,← ht];omega)]
   exact ⟨I8,Hw⟩
  ·rw [if_neg hin]
   obtain ⟨x,hx,Pu,_⟩:=aJw hr hu (aB sk)[n];have h1:=cLf hx;have h2:=cAf hx;rw [Pu] at h1 h2
   have hmm:(iD dl (aB dc) ((aB sk)[n].getD 0 0) ((aB sk)[n].getD 1 0) (kB dl (aB dc) ((aB sk)[n].getD 0 0))).2.1≤mE dl (aB dc) u (aB sk)[n]∧mE dl (aB dc) u (aB sk)[n]≤(iD dl (aB dc) ((aB sk)[n].getD 0 0) ((aB sk)[n].getD 1 0) (kB dl (aB dc) ((aB sk)[n].getD 0 0))).2.2:=⟨h1,h2⟩;obtain ⟨h1,h2⟩:=hmm;dsimp only;constructor
   ·split <;> split <;> omega
   ·split <;> split <;> omega
theorem aRv(hr:bR dl sk dc){u:List Int}{t:Int}(ht:t≤100000000000):oB (fun s=>cI dl u (aB dc) (sB s) (sT s)) (aB sk) t=aNp dl (aB dc) (aB sk) u t (aB sk).length:=by
 unfold oB aNp;rw [List.take_length]
 congr 1
 exact List.filter_congr fun s hs=>(cKi hr hs ht).symm
theorem aRw{l:List Int}{n:Int}:n∈Lib.compact l↔n∈l:=by
 unfold Lib.compact Lib.compactUpTo;have ea:∀ j,(hj:j<l.length)→l.toArray[j]! = l[j]:=fun j hj=>by
  rw [getElem!_pos l.toArray j (by simpa using hj)];simp
 constructor
 ·intro h
  obtain ⟨j,hj,rfl⟩:=Bs.1 h;have hj:=iJ.1 (kK.1 hj).1;rw [ea j hj];exact fL hj
 ·intro h
  obtain ⟨j,hj,rfl⟩:=List.getElem_of_mem h
  suffices H:∀ j,(hj:j<l.length)→∃ k∈(List.range l.length).filter (Lib.keeps l.toArray),l.toArray[k]! = l[j] from by
   obtain ⟨k,hk,e⟩:=H j hj;exact Bs.2 ⟨k,hk,e⟩
  intro j
  induction j with
  | zero=>exact fun hj=>⟨0,kK.2 ⟨iJ.2 hj,Lib.keeps_lt_one _ 0 (by omega)⟩,ea 0 hj⟩
  | succ j ih =>
   intro hj
   by_cases he:l[j+1]=l[j]
   ·obtain ⟨k,hk,e⟩:=ih (by omega)
    exact ⟨k,hk,e.trans he.symm⟩
   ·refine ⟨j+1,kK.2 ⟨iJ.2 hj,Lib.keeps_pos ?_⟩,ea (j+1) hj⟩
    rw [ea (j+1) hj,Nat.add_sub_cancel,ea j (by omega)]
    exact he
theorem yZ{al:List eR}{i:Nat}{c:List bD}{n:Int}:n∈eJ al i c↔∃ x∈c,x.2.1=false∧((cK al i x.1).1:Int)+1≤n∧n≤((cK al i x.1).2:Int)+1:=by
 unfold eJ;rw [aRw,(List.mergeSort_perm _ _).mem_iff,List.mem_flatMap];constructor
 ·rintro ⟨x,hx,hn⟩
  unfold chL at hn
  cases ho:x.2.1 with
  | true=>rw [ho] at hn;cases hn
  | false =>
   rw [ho,if_neg Bool.false_ne_true] at hn
   unfold aHb at hn
   obtain ⟨j,hj,rfl⟩:=Bs.1 hn;have hj:=iJ.1 hj;exact ⟨x,hx,ho,by omega,by omega⟩
 ·rintro ⟨x,hx,ho,h1,h2⟩
  refine ⟨x,hx,?_⟩;unfold chL aHb;rw [ho,if_neg Bool.false_ne_true];exact Bs.2 ⟨(n-1-((cK al i x.1).1:Int)).toNat,iJ.2 (by omega),by omega⟩
theorem aRx(hr:bR dl sk dc){u:List Int}(hu:u.Sublist (aP dl (aB dc))){i:Nat}{s:List Int}(hi:(aB sk)[i]? = some s) :
  if (cI dl u (aB dc) (sB s) (sT s)).2 then ((iD dl (aB dc) (s.getD 0 0) (s.getD 1 0) (kB dl (aB dc) (s.getD 0 0))).1.any fun x=>x.2.1)=true∧gM (fun s=>cI dl u (aB dc) (sB s) (sT s)) (aB sk) s = -1
  else gM (fun s=>cI dl u (aB dc) (sB s) (sT s)) (aB sk) s∈eJ (aJ dl (aB sk) (aB dc)) i (iD dl (aB dc) (s.getD 0 0) (s.getD 1 0) (kB dl (aB dc) (s.getD 0 0))).1:=by
 have hs:=Bi hi;obtain ⟨x,hx,Pu,Vk⟩:=aJw hr hu s;cases ho:(cI dl u (aB dc) (sB s) (sT s)).2 with
 | true =>
  rw [if_pos rfl];refine ⟨List.any_eq_true.2 ⟨x,hx,by rw [Vk,ho]⟩,?_⟩
  unfold gM;rw [ho,if_pos rfl]
 | false =>
  rw [if_neg Bool.false_ne_true];obtain ⟨_,_,h3,_⟩:=fN hr;have hb:=aNl (dl:=dl) (oc:=u) (b:=sB s) (dW hr) (h3 s hs).2;have hv:mE dl (aB dc) u s=(cI dl u (aB dc) (sB s) (sT s)).1:=by
   unfold mE chM;dsimp only;have ho:(cI dl u (aB dc) (s.getD 0 0) (s.getD 1 0)).2=false:=ho;rw [ho];rfl
  refine yZ.2 ⟨x,hx,by rw [Vk,ho],?_⟩
  rw [Pu];unfold gM;rw [ho,if_neg Bool.false_ne_true,← hv,aRv hr (by rw [hv];exact hb.2)]
  have hc:=aRu hr hu hi rfl (aB sk).length (dG _);have e:(aJ dl (aB sk) (aB dc)).length=(aB sk).length:=nK ..;show ((dA (aJ dl (aB sk) (aB dc)) i (mE dl (aB dc) u s) (aJ dl (aB sk) (aB dc)).length).1:Int)+1≤_∧_≤((dA (aJ dl (aB sk) (aB dc)) i (mE dl (aB dc) u s) (aJ dl (aB sk) (aB dc)).length).2:Int)+1;rw [e];omega
end
end
end KV
end Go.Proofs
