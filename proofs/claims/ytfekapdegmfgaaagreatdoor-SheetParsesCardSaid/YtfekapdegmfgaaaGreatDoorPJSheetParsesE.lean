/- Parts of the proof of JSheetParses: laws of walks, contracts of functions, plain models. No condition. -/
import Derived.Lib.SplitLaws
import Derived.RangeFuncLeaves
import Derived.OwnWalkIn
import Derived.TacticsInMore
import Derived.RangeFuncNested
import Derived.Shelf.Abstract
import Derived.LoopNIn
import Derived.LoopIn
import Derived.Test.YtfekapdegmfgaaaGreatDoorPJSheetParsesD
set_option linter.unusedVariables false
set_option linter.unusedSimpArgs false
set_option linter.unnecessarySimpa false
set_option maxRecDepth 100000
namespace Go.Proofs
namespace KV
open Tryz
section
variable {k m n o n' Mt Gm:Int}{i i' Av Lo Ki base:Nat}

noncomputable abbrev oV:Code:=sub (cd Tryz.f133) [1,1,1,0,1,0,0]
noncomputable abbrev sD:Code:=sub (cd Tryz.f40) [1,1,1,1,0,1,0,0]
noncomputable abbrev aSd:Code:=sub (cd Tryz.f41) [1,1,1,0,1,0,0]
theorem bNa(h0:k=0):FV Tp 36 [(pI k)] base (.tup [(.p (.sl 3 [(aB 0),(aB 1),(aB 0)])),(pI 1),(pI 0)]) []:=FV.frz (FMM.fi 0 ⟨[],[],[0],[]⟩ func36 [bT] (gc (cP h0) gn)) (by kernel_rfl)
theorem bNb(h0:k≠0)(h1:k=1):FV Tp 36 [(pI k)] base (.tup [(.p (.sl 4 [(aB 0),(aB 0),(aB 0),(aB 1)])),(pI 3),(pI 0)]) []:=FV.frz (FMM.fi 0 ⟨[],[],[0],[]⟩ func36 [bF,bT] (gc (cP h1) (gc (bA h0) gn))) (by kernel_rfl)
section
variable(h0:k≠0)(h1:k≠1)
include h0 h1
theorem bNc(h2:k=2):FV Tp 36 [(pI k)] base (.tup [(.p (.sl 3 [(aB 0),(aB 0),(aB 2)])),(pI 2),(pI 0)]) []:=FV.frz (FMM.fi 0 ⟨[],[],[0],[]⟩ func36 [bF,bF,bT] (gc (cP h2) (gc (bA h1) (gc (bA h0) gn)))) (by kernel_rfl)
theorem bNd(h2:k≠2)(h3:k=3):FV Tp 36 [(pI k)] base (.tup [(.p (.sl 4 [(aB 0),(aB 0),(aB 3),(aB 0)])),(pI 1),(pI 0)]) []:=FV.frz (FMM.fi 0 ⟨[],[],[0],[]⟩ func36 [bF,bF,bF,bT] (gc (cP h3) (gc (bA h2) (gc (bA h1) (gc (bA h0) gn))))) (by kernel_rfl)
theorem bNe(h2:k≠2)(h3:k≠3)(h4:k=4):FV Tp 36 [(pI k)] base (.tup [(.p (.sl 3 [(aB 0),(aB 0),(aB 0)])),(pI 1),(pI 0)]) []:=FV.frz (FMM.fi 0 ⟨[],[],[0],[]⟩ func36 [bF,bF,bF,bF,bT] (gc (cP h4) (gc (bA h3) (gc (bA h2) (gc (bA h1) (gc (bA h0) gn)))))) (by kernel_rfl)
end
theorem bNf{k:Int}(h:within k 0 4=true){base:Nat}:FV Tp 36 [.p (aB k)] base (.tup [.p (bO (aK k)),.p (aB (aN k)),.p (aB 0)]) []:=by
 have hb:=dF.1 h;unfold aK aN
 by_cases h0:k=0
 ·subst h0;exact bNa rfl
 ·rw [if_neg h0]
  by_cases h1:k=1
  ·subst h1;exact bNb (by decide) rfl
  ·rw [if_neg h1,if_neg h1]
   by_cases h2:k=2
   ·subst h2;exact bNc (by decide) (by decide) rfl
   ·rw [if_neg h2,if_neg h2]
    by_cases h3:k=3
    ·subst h3;exact bNd (by decide) (by decide) (by decide) rfl
    ·rw [if_neg h3];exact bNe h0 h1 h2 h3 (by omega)
theorem aXr{u:Nat}(h:u<10):Lib.decDigits u=[UInt8.ofNat (48+u)]:=by rw [Lib.decDigits,dif_pos h]
theorem bNg{u:Nat}(h:¬ u<10):Lib.decDigits u=Lib.decDigits (u / 10)++[UInt8.ofNat (48+u % 10)]:=by rw [Lib.decDigits,dif_neg h]
def eC(s:List UInt8)(m:Int)(i:Nat)(n:Int):St:=⟨fr 50 [(0,(.p (aC s))),(1,(pI m)),(5,(pI n)),(6,(pI (i:Int)))],[]⟩
theorem bVo{s:List UInt8}(h0:(s.length:Int)=0):FV Tp 133 [(.p (aC s)),(pI m)] base (pI (-1)) []:=FV.fi func133 (rT 6) (Fb (cP h0) gn)
section
variable{s:List UInt8}{c0:UInt8}(h0:(s.length:Int)≠0)(h1:(1:Int)<(s.length:Int))(h2:s[0]? = some c0)
include h0 h1 h2
theorem bVp(h3:(c0.toNat:Int)=48):FV Tp 133 [(.p (aC s)),(pI m)] base (pI (-1)) []:=FV.fi func133 [bF,bF,bF,bF,bT,bT,.x (.v (.int .u8 (c0.toNat:Int))),bT,bF,bT,bF,bT] (gc (cP h3) (gc (bA h0) (gc (bJ h1) (gc (bA h0) (gc (bJ h1) (gt ((s[0]?).map (fun b:UInt8=>PV.v (.int .u8 (b.toNat:Int)))=some (.v (.int .u8 (c0.toNat:Int)))) (bP h2) (gt (0≤(0:Int)) (by decide) (Au (bJ h1) (Db (bA h0) gn)))))))))
theorem bVq(h3:(c0.toNat:Int)≠48)(Fo:aE Tp 0 oV (eC s m 0 0) (.exit 0) (eC s m Lo Gm)):FV Tp 133 [(.p (aC s)),(pI m)] base (pI Gm) []:=FV.fi func133 [bF,bF,bF,bF,bT,bT,.x (.v (.int .u8 (c0.toNat:Int))),bT,bF,bT,bF,bF,Fo.k 6 (gZ cb)] (gc Fo.code (gc (bA h3) (gc (bA h0) (gc (bJ h1) (gc (bA h0) (gc (bJ h1) (gt ((s[0]?).map (fun b:UInt8=>PV.v (.int .u8 (b.toNat:Int)))=some (.v (.int .u8 (c0.toNat:Int)))) (bP h2) (gt (0≤(0:Int)) (by decide) (Au (bJ h1) (Db (bA h0) gn))))))))))
theorem bVr(h3:(c0.toNat:Int)≠48)(Fo:aE Tp 0 oV (eC s m 0 0) .ret (bS (eC s m Lo Gm) [(4,(pI (-1)))])):FV Tp 133 [(.p (aC s)),(pI m)] base (pI (-1)) []:=FV.fi func133 [bF,bF,bF,bF,bT,bT,.x (.v (.int .u8 (c0.toNat:Int))),bT,bF,bT,bF,bF,Fo.k 6 (gZ cb)] (gc Fo.code (gc (bA h3) (gc (bA h0) (gc (bJ h1) (gc (bA h0) (gc (bJ h1) (gt ((s[0]?).map (fun b:UInt8=>PV.v (.int .u8 (b.toNat:Int)))=some (.v (.int .u8 (c0.toNat:Int)))) (bP h2) (gt (0≤(0:Int)) (by decide) (Au (bJ h1) (Db (bA h0) gn))))))))))
end
section
variable{s:List UInt8}(h0:(s.length:Int)≠0)(h1:(s.length:Int)≤1)
include h0 h1
theorem bVs(Bi:aE Tp 0 oV (eC s m 0 0) (.exit 0) (eC s m Av Mt)):FV Tp 133 [(.p (aC s)),(pI m)] base (pI Mt) []:=FV.fi func133 (rF 10++[Bi.k 7 (gZ cb)]) (gc Bi.code (gc (bA h0) (gc (aJ h1) (gc (bA h0) (Ap (aJ h1) (Db (bA h0) gn))))))
theorem bVt(Bi:aE Tp 0 oV (eC s m 0 0) .ret (bS (eC s m Av Mt) [(4,(pI (-1)))])):FV Tp 133 [(.p (aC s)),(pI m)] base (pI (-1)) []:=FV.fi func133 (rF 10++[Bi.k 7 (gZ cb)]) (gc Bi.code (gc (bA h0) (gc (aJ h1) (gc (bA h0) (Ap (aJ h1) (Db (bA h0) gn))))))
end
section
variable{s:List UInt8}{Ag:UInt8}(h0:(i:Int)<(s.length:Int))(h1:s[i]? = some Ag)
include h0 h1
theorem aDu(h2:(Ag.toNat:Int)<48):aA Tp 0 oV (eC s m i n) .ret (bS (eC s m i n) [(4,(pI (-1)))]):=aA.fi (gZ [2,2,7,42]) ([bT,.x (.v (.int .u8 (Ag.toNat:Int)))]++rT 5) (B5 (bJ h2) (gt ((s[i]?).map (fun b:UInt8=>PV.v (.int .u8 (b.toNat:Int)))=some (.v (.int .u8 (Ag.toNat:Int)))) (bP h1) (gt (0≤(i:Int)) (Bf _) (g0 h0))))
theorem aXs(h2:(48:Int)≤(Ag.toNat:Int))(h3:(57:Int)<(Ag.toNat:Int)):aA Tp 0 oV (eC s m i n) .ret (bS (eC s m i n) [(4,(pI (-1)))]):=aA.fi (gZ [2,2,7,42]) [bT,.x (.v (.int .u8 (Ag.toNat:Int))),bF,bF,bF,.x (.v (.int .u8 (Ag.toNat:Int))),bF,bF,bT] (gc (bJ h3) (Au (aJ h2) (gt ((s[i]?).map (fun b:UInt8=>PV.v (.int .u8 (b.toNat:Int)))=some (.v (.int .u8 (Ag.toNat:Int)))) (bP h1) (gt (0≤(i:Int)) (Bf _) (Ap (aJ h2) (gt ((s[i]?).map (fun b:UInt8=>PV.v (.int .u8 (b.toNat:Int)))=some (.v (.int .u8 (Ag.toNat:Int)))) (bP h1) (gt (0≤(i:Int)) (Bf _) (g0 h0))))))))
end
section
variable{s:List UInt8}{Ag:UInt8}(h0:(i:Int)<(s.length:Int))(h1:s[i]? = some Ag)(h2:(48:Int)≤(Ag.toNat:Int))(h3:(Ag.toNat:Int)≤57)(h4:inR ((10:Int)*n))(h5:inR (((10:Int)*n)+(Ag.toNat:Int)))(h6:inR ((((10:Int)*n)+(Ag.toNat:Int))-48))
include h0 h1 h2 h3 h4 h5 h6
theorem aXt(h7:m<((((10:Int)*n)+(Ag.toNat:Int))-48))(h8:inR (m+1))(h9:cq i)(Ai:i'=(i+1))(Fz:n'=(m+1)):aA Tp 0 oV (eC s m i n) .normal (eC s m i' n'):=by
 subst Ai Fz;exact aA.fi (gZ cb) [bT,.x (.v (.int .u8 (Ag.toNat:Int))),bF,bF,bF,.x (.v (.int .u8 (Ag.toNat:Int))),bF,bF,bF,.x (.v (.int .u8 (Ag.toNat:Int))),bT] (gc h9 (gc h8 (gc (bJ h7) (gc h6 (gc h5 (gt (inR (Ag.toNat:Int)) (aFc _) (gt ((s[i]?).map (fun b:UInt8=>PV.v (.int .u8 (b.toNat:Int)))=some (.v (.int .u8 (Ag.toNat:Int)))) (bP h1) (gt (0≤(i:Int)) (Bf _) (gc h4 (gc (aJ h3) (Au (aJ h2) (gt ((s[i]?).map (fun b:UInt8=>PV.v (.int .u8 (b.toNat:Int)))=some (.v (.int .u8 (Ag.toNat:Int)))) (bP h1) (gt (0≤(i:Int)) (Bf _) (Ap (aJ h2) (gt ((s[i]?).map (fun b:UInt8=>PV.v (.int .u8 (b.toNat:Int)))=some (.v (.int .u8 (Ag.toNat:Int)))) (bP h1) (gt (0≤(i:Int)) (Bf _) (g0 h0)))))))))))))))))
theorem aXu(h7:((((10:Int)*n)+(Ag.toNat:Int))-48)≤m)(h8:cq i)(Ai:i'=(i+1))(Fz:n'=((((10:Int)*n)+(Ag.toNat:Int))-48)):aA Tp 0 oV (eC s m i n) .normal (eC s m i' n'):=by
 subst Ai Fz;exact aA.fi (gZ cb) [bT,.x (.v (.int .u8 (Ag.toNat:Int))),bF,bF,bF,.x (.v (.int .u8 (Ag.toNat:Int))),bF,bF,bF,.x (.v (.int .u8 (Ag.toNat:Int))),bF] (gc h8 (gc (aJ h7) (gc h6 (gc h5 (gt (inR (Ag.toNat:Int)) (aFc _) (gt ((s[i]?).map (fun b:UInt8=>PV.v (.int .u8 (b.toNat:Int)))=some (.v (.int .u8 (Ag.toNat:Int)))) (bP h1) (gt (0≤(i:Int)) (Bf _) (gc h4 (gc (aJ h3) (Au (aJ h2) (gt ((s[i]?).map (fun b:UInt8=>PV.v (.int .u8 (b.toNat:Int)))=some (.v (.int .u8 (Ag.toNat:Int)))) (bP h1) (gt (0≤(i:Int)) (Bf _) (Ap (aJ h2) (gt ((s[i]?).map (fun b:UInt8=>PV.v (.int .u8 (b.toNat:Int)))=some (.v (.int .u8 (Ag.toNat:Int)))) (bP h1) (gt (0≤(i:Int)) (Bf _) (g0 h0))))))))))))))))
end
theorem aXv{s:List UInt8}(h0:(s.length:Int)≤(i:Int)):aA Tp 0 oV (eC s m i n) (.exit 0) (eC s m i n):=aA.fi (gZ cb) [bF] (gc (aJ h0) gn)
def aKa(m:Int)(l:List UInt8)(n:Int):Int:=l.foldl (fun n b=>if m<10*n+(b.toNat:Int)-48 then m+1 else 10*n+(b.toNat:Int)-48) n
def dE(s:List UInt8)(m:Int):Int:=if s=[]∨(1<s.length∧s[0]? = some 48)∨s.all isd=false then -1 else aKa m s 0
theorem bHg{c:UInt8}(h:isd c=false):c.toNat<48∨57<c.toNat:=by
 by_cases q:c.toNat<48
 ·exact .inl q
 ·refine .inr ?_
  by_cases q2:57<c.toNat
  ·exact q2
  ·exfalso
   have:isd c=true:=by simp only [isd,Cj,decide_eq_true_eq];omega
   rw [this] at h;cases h
theorem aKb(s:List UInt8)(m:Int)(hl:s.length≤100000)(hm:0≤m∧m≤1000000):∀ (r:List UInt8) (i:Nat) (n:Int),s.drop i=r→i≤s.length→0≤n→n≤m+1 →
  (r.all isd=true∧0≤aKa m r n∧aKa m r n≤m+1∧aE Tp 0 oV (eC s m i n) (.exit 0) (eC s m s.length (aKa m r n))) ∨
  (r.all isd=false∧∃ i' n',aE Tp 0 oV (eC s m i n) .ret (bS (eC s m i' n') [(4,(pI (-1)))]))
 | [],i,n,hd,hi,h0,h1=>by
  have:i=s.length:=by have:=congrArg List.length hd;simp at this;omega
  subst this;exact .inl ⟨rfl,h0,h1,.exit (aXv (by omega)) (by simp)⟩
 | c::r,i,n,hd,hi,h0,h1=>by
  have hx:s[i]? = some c:=by
   have:=congrArg List.head? hd;rw [List.head?_drop] at this
   simpa using this
  have hlt:=bG hx;have Ev:s.drop (i+1)=r:=by
   have:=congrArg List.tail hd;rw [List.tail_drop] at this
   simpa using this
  have hc:=aQu c
  by_cases Dx:isd c=true
  ·have hcb:=eF Dx
   have key:∀ n',(n'=if m<10*n+(c.toNat:Int)-48 then m+1 else 10*n+(c.toNat:Int)-48)→(0≤n'∧n'≤m+1)∧aA Tp 0 oV (eC s m i n) .normal (eC s m (i+1) n'):=by
    intro n' e;subst e
    by_cases hq:m<10*n+(c.toNat:Int)-48
    ·rw [if_pos hq]
     exact ⟨by omega,aXt (by omega) hx (by omega) (by omega) (by show _∧_;omega) (by show _∧_;omega) (by show _∧_;omega) hq (by show _∧_;omega) (aL (by omega)) rfl rfl⟩
    ·rw [if_neg hq]
     exact ⟨by omega,aXu (by omega) hx (by omega) (by omega) (by show _∧_;omega) (by show _∧_;omega) (by show _∧_;omega) (by omega) (aL (by omega)) rfl rfl⟩
   obtain ⟨hb,hstep⟩:=key _ rfl
   rcases aKb s m hl hm r (i+1) _ Ev (by omega) hb.1 hb.2 with ⟨a,b1,b2,b3⟩ | ⟨a,i',n',b3⟩
   ·exact .inl ⟨by simp [Dx,a],b1,b2,.step hstep b3⟩
   ·exact .inr ⟨by simp [a],i',n',.step hstep b3⟩
  ·have Dx:isd c=false:=by simpa using Dx
   refine .inr ⟨by simp [Dx],i,n,?_⟩
   rcases bHg Dx with q | q
   ·exact .exit (aDu (by omega) hx (by omega)) (by simp)
   ·by_cases q2:c.toNat<48
    ·exact .exit (aDu (by omega) hx (by omega)) (by simp)
    ·exact .exit (aXs (by omega) hx (by omega) (by omega)) (by simp)
theorem fE(s:List UInt8)(m:Int)(hl:s.length≤100000)(hm:0≤m∧m≤1000000){base:Nat}:FV Tp 133 [.p (aC s),.p (aB m)] base (pI (dE s m)) []:=by
 have L:=aKb s m hl hm s 0 0 rfl (by omega) (by omega) (by omega)
 unfold dE
 by_cases h0:s.length=0
 ·have:s=[]:=tB h0
  rw [if_pos (.inl this)];exact bVo (by omega)
 ·have hne:s≠[]:=fun q=>h0 (by rw [q];rfl)
  by_cases h1:1<s.length
  ·obtain ⟨c,hc⟩:∃ c,s[0]? = some c:=⟨s[0],Ch (by omega)⟩
   by_cases Lp:(c.toNat:Int)=48
   ·have:c=48:=UInt8.toNat_inj.1 (by simp;omega)
    rw [if_pos (.inr (.inl ⟨h1,by rw [hc,this]⟩))]
    exact bVp (by omega) (by omega) hc Lp
   ·have hn:¬ s[0]? = some 48:=fun q=>by rw [hc] at q;cases q;exact Lp rfl
    rcases L with ⟨a,_,_,b⟩ | ⟨a,i',n',b⟩
    ·rw [if_neg (by simp [hne,hn,a])]
     exact bVq (by omega) (by omega) hc Lp b
    ·rw [if_pos (.inr (.inr a))]
     exact bVr (by omega) (by omega) hc Lp b
  ·rcases L with ⟨a,_,_,b⟩ | ⟨a,i',n',b⟩
   ·rw [if_neg (by simp [hne,h1,a])]
    exact bVs (by omega) (by omega) b
   ·rw [if_pos (.inr (.inr a))]
    exact bVt (by omega) (by omega) b
def mJ(s:List UInt8)(i:Nat)(o:Int):St:=⟨fr 24 [(0,(.p (aC s))),(2,(pI 0)),(3,(pI 0)),(4,(pI o)),(5,(pI (i:Int)))],[]⟩
theorem bNh{s:List UInt8}{Aj:Int}(h0:(s.length:Int)≤65536)(Ak:aE Tp 0 aSd (mJ s 0 0) (.exit 0) (mJ s Av Aj)):FV Tp 41 [(.p (aC s))] base (.tup [(pI Aj),(pI 0)]) []:=FV.fi func41 [bF,Ak.k 6 (gZ [1,1,6,17])] (gc Ak.code (gc (aJ h0) gn))
theorem aOq{s:List UInt8}{Ag:UInt8}{o':Int}(h0:(i:Int)<(s.length:Int))(h1:inR ((31:Int)*o))(h2:s[i]? = some Ag)(h3:inR (((31:Int)*o)+(Ag.toNat:Int)))(h4:cq i)(Ai:i'=(i+1))(Kj:o'=((((31:Int)*o)+(Ag.toNat:Int)).tmod 65521)):aA Tp 0 aSd (mJ s i o) .normal (mJ s i' o'):=by
 subst Ai Kj;exact aA.fi (gZ [1,1,6,17]) [bT,.x (.v (.int .u8 (Ag.toNat:Int)))] (gc h4 (gt ((65521:Int)≠0) (by first | decide | simp) (gc h3 (gt (inR (Ag.toNat:Int)) (aFc _) (gt ((s[i]?).map (fun b:UInt8=>PV.v (.int .u8 (b.toNat:Int)))=some (.v (.int .u8 (Ag.toNat:Int)))) (bP h2) (gt (0≤(i:Int)) (Bf _) (gc h1 (g0 h0))))))))
theorem aOr{s:List UInt8}(h0:(s.length:Int)≤(i:Int)):aA Tp 0 aSd (mJ s i o) (.exit 0) (mJ s i o):=aA.fi (gZ [1,1,6,17]) [bF] (gc (aJ h0) gn)
theorem bNi{s:List UInt8}(h:s.length≤65536){base:Nat}:FV Tp 41 [.p (aC s)] base (.tup [.p (aB (bN s)),.p (aB 0)]) []:=by
 have:=aE.range (P:=Tp) (k:=0) (b:=aSd) (e := .exit 0) (fun i (o:Int)=>mJ s i o) (fun o=>mJ s s.length o) (fun o b=>(31*o+(b.toNat:Int)).tmod 65521) (fun _ o=>0≤o∧o<65521) (by simp) s (a0:=0) (by omega)
  (fun i b o hx ho=>by
   have hi:=bG hx;have hb:=aQu b;exact ⟨aAr b ho,aOq (by omega) (by show _∧_;omega) hx (by show _∧_;omega) (aL (by omega)) rfl rfl⟩)
  (fun o _=>aOr (by omega))
 exact bNh (by omega) this
def dM(s:List UInt8)(i:Nat):St:=⟨fr 89 [(0,(.p (aC s))),(4,(pI ((s.length:Int)-5))),(5,(pI (dE (s.take (((s.length:Int)-5).toNat)) 1000))),(6,(pI (i:Int)))],[]⟩
theorem bVu{s:List UInt8}(h0:inR ((s.length:Int)-5))(h1:((s.length:Int)-5)<1):FV Tp 40 [(.p (aC s))] base (.tup [(pI 0),(pI 11)]) []:=FV.fi func40 (rT 5) (B5 (bJ h1) (gc h0 gn))
section
variable{s:List UInt8}{c0:UInt8}(h0:inR ((s.length:Int)-5))(h1:(1:Int)≤((s.length:Int)-5))(h2:0≤((s.length:Int)-5))(h3:s[((s.length:Int)-5).toNat]? = some c0)
include h0 h1 h2 h3
theorem bVv(h4:(c0.toNat:Int)≠58):FV Tp 40 [(.p (aC s))] base (.tup [(pI 0),(pI 11)]) []:=FV.fi func40 ([bF,bF,bF,.x (.v (.int .u8 (c0.toNat:Int))),bF,bF]++rT 6) (Fb (cL h4) (Au (aJ h1) (gt ((s[((s.length:Int)-5).toNat]?).map (fun b:UInt8=>PV.v (.int .u8 (b.toNat:Int)))=some (.v (.int .u8 (c0.toNat:Int)))) (bP h3) (gc h2 (Ap (aJ h1) (gc h0 gn))))))
theorem bVw{c1:UInt8}(h4:(c0.toNat:Int)=58)(h5:inR (((s.length:Int)-5)+3))(h6:0≤(((s.length:Int)-5)+3))(h7:s[(((s.length:Int)-5)+3).toNat]? = some c1)(h8:(c1.toNat:Int)≠46):FV Tp 40 [(.p (aC s))] base (.tup [(pI 0),(pI 11)]) []:=FV.fi func40 ([bF,bF,bF,.x (.v (.int .u8 (c0.toNat:Int)))]++rF 6++[.x (.v (.int .u8 (c1.toNat:Int))),bF,bF,bT]) (gc (cL h8) (Au (bD h4) (gt ((s[(((s.length:Int)-5)+3).toNat]?).map (fun b:UInt8=>PV.v (.int .u8 (b.toNat:Int)))=some (.v (.int .u8 (c1.toNat:Int)))) (bP h7) (gc h6 (gc (bD h4) (gc h5 (Ap (bD h4) (Au (aJ h1) (gt ((s[((s.length:Int)-5).toNat]?).map (fun b:UInt8=>PV.v (.int .u8 (b.toNat:Int)))=some (.v (.int .u8 (c0.toNat:Int)))) (bP h3) (gc h2 (Ap (aJ h1) (gc h0 gn))))))))))))
end
section
variable{s:List UInt8}{c0 c1:UInt8}(h0:inR ((s.length:Int)-5))(h1:(1:Int)≤((s.length:Int)-5))(h2:0≤((s.length:Int)-5))(h3:s[((s.length:Int)-5).toNat]? = some c0)(h4:(c0.toNat:Int)=58)(h5:inR (((s.length:Int)-5)+3))(h6:0≤(((s.length:Int)-5)+3))(h7:s[(((s.length:Int)-5)+3).toNat]? = some c1)(h8:(c1.toNat:Int)=46)(h9:0≤(0:Int)∧(0:Int)≤((s.length:Int)-5)∧((s.length:Int)-5)≤(s.length:Int))(Ba:(s.take (((s.length:Int)-5).toNat)).length≤100000)(Bt:0≤(1000:Int)∧(1000:Int)≤1000000)(Dp:aE Tp 0 sD (dM s 1) (.exit 0) (dM s Ki))
include h0 h1 h2 h3 h4 h5 h6 h7 h8 h9 Ba Bt Dp
theorem bVx(B1:(dE (s.take (((s.length:Int)-5).toNat)) 1000)<0):FV Tp 40 [(.p (aC s))] base (.tup [(pI 0),(pI 11)]) []:=have k1:=fk 0 (fE (s.take (((s.length:Int)-5).toNat)) 1000 Ba Bt) rfl;FV.fi func40 ([bF,bF,bF,.x (.v (.int .u8 (c0.toNat:Int)))]++rF 6++[.x (.v (.int .u8 (c1.toNat:Int))),bF,bF,bF,k1.o,Dp.k 4 (gZ ce)]++rT 6) (Fb (bJ B1) (gc Dp.code (gc k1 (gc h9 (gc (bD h8) (Au (bD h4) (gt ((s[(((s.length:Int)-5)+3).toNat]?).map (fun b:UInt8=>PV.v (.int .u8 (b.toNat:Int)))=some (.v (.int .u8 (c1.toNat:Int)))) (bP h7) (gc h6 (gc (bD h4) (gc h5 (Ap (bD h4) (Au (aJ h1) (gt ((s[((s.length:Int)-5).toNat]?).map (fun b:UInt8=>PV.v (.int .u8 (b.toNat:Int)))=some (.v (.int .u8 (c0.toNat:Int)))) (bP h3) (gc h2 (Ap (aJ h1) (gc h0 gn))))))))))))))))
theorem bVy{c3:UInt8}(B1:(0:Int)≤(dE (s.take (((s.length:Int)-5).toNat)) 1000))(Cs:inR (((s.length:Int)-5)+1))(Dd:0≤(((s.length:Int)-5)+1))(Ea:s[(((s.length:Int)-5)+1).toNat]? = some c3)(Ek:(53:Int)<(c3.toNat:Int)):FV Tp 40 [(.p (aC s))] base (.tup [(pI 0),(pI 11)]) []:=have k1:=fk 0 (fE (s.take (((s.length:Int)-5).toNat)) 1000 Ba Bt) rfl;FV.fi func40 ([bF,bF,bF,.x (.v (.int .u8 (c0.toNat:Int)))]++rF 6++[.x (.v (.int .u8 (c1.toNat:Int))),bF,bF,bF,k1.o,Dp.k 4 (gZ ce),bF,bF,bF,bF,.x (.v (.int .u8 (c3.toNat:Int))),bF,bF,bT]) (gc (bJ Ek) (Au (aJ B1) (gt ((s[(((s.length:Int)-5)+1).toNat]?).map (fun b:UInt8=>PV.v (.int .u8 (b.toNat:Int)))=some (.v (.int .u8 (c3.toNat:Int)))) (bP Ea) (gc Dd (gc (aJ B1) (gc Cs (Ap (aJ B1) (gc Dp.code (gc k1 (gc h9 (gc (bD h8) (Au (bD h4) (gt ((s[(((s.length:Int)-5)+3).toNat]?).map (fun b:UInt8=>PV.v (.int .u8 (b.toNat:Int)))=some (.v (.int .u8 (c1.toNat:Int)))) (bP h7) (gc h6 (gc (bD h4) (gc h5 (Ap (bD h4) (Au (aJ h1) (gt ((s[((s.length:Int)-5).toNat]?).map (fun b:UInt8=>PV.v (.int .u8 (b.toNat:Int)))=some (.v (.int .u8 (c0.toNat:Int)))) (bP h3) (gc h2 (Ap (aJ h1) (gc h0 gn))))))))))))))))))))))
end
section
variable{s:List UInt8}{c0 c1 c3 c4 c5:UInt8}(h0:inR ((s.length:Int)-5))(h1:(1:Int)≤((s.length:Int)-5))(h2:0≤((s.length:Int)-5))(h3:s[((s.length:Int)-5).toNat]? = some c0)(h4:(c0.toNat:Int)=58)(h5:inR (((s.length:Int)-5)+3))(h6:0≤(((s.length:Int)-5)+3))(h7:s[(((s.length:Int)-5)+3).toNat]? = some c1)(h8:(c1.toNat:Int)=46)(h9:0≤(0:Int)∧(0:Int)≤((s.length:Int)-5)∧((s.length:Int)-5)≤(s.length:Int))(Ba:(s.take (((s.length:Int)-5).toNat)).length≤100000)(Bt:0≤(1000:Int)∧(1000:Int)≤1000000)(Dp:aE Tp 0 sD (dM s 1) (.exit 0) (dM s Ki))(B1:(0:Int)≤(dE (s.take (((s.length:Int)-5).toNat)) 1000))(Cs:inR (((s.length:Int)-5)+1))(Dd:0≤(((s.length:Int)-5)+1))(Ea:s[(((s.length:Int)-5)+1).toNat]? = some c3)(Ek:(c3.toNat:Int)≤53)(Fy:inR ((dE (s.take (((s.length:Int)-5).toNat)) 1000)*600))(G8:inR (IntKind.wrap .u8 ((c3.toNat:Int)-48)))(G9:inR ((IntKind.wrap .u8 ((c3.toNat:Int)-48))*100))(H3:inR (((dE (s.take (((s.length:Int)-5).toNat)) 1000)*600)+((IntKind.wrap .u8 ((c3.toNat:Int)-48))*100)))(H4:inR (((s.length:Int)-5)+2))(Kc:0≤(((s.length:Int)-5)+2))(Kd:s[(((s.length:Int)-5)+2).toNat]? = some c4)(Mu:inR (IntKind.wrap .u8 ((c4.toNat:Int)-48)))(Mv:inR ((IntKind.wrap .u8 ((c4.toNat:Int)-48))*10))(Mw:inR ((((dE (s.take (((s.length:Int)-5).toNat)) 1000)*600)+((IntKind.wrap .u8 ((c3.toNat:Int)-48))*100))+((IntKind.wrap .u8 ((c4.toNat:Int)-48))*10)))(Mx:inR (((s.length:Int)-5)+4))(My:0≤(((s.length:Int)-5)+4))(Mz:s[(((s.length:Int)-5)+4).toNat]? = some c5)(M3:inR (IntKind.wrap .u8 ((c5.toNat:Int)-48)))(Io:inR (((((dE (s.take (((s.length:Int)-5).toNat)) 1000)*600)+((IntKind.wrap .u8 ((c3.toNat:Int)-48))*100))+((IntKind.wrap .u8 ((c4.toNat:Int)-48))*10))+(IntKind.wrap .u8 ((c5.toNat:Int)-48))))
include h0 h1 h2 h3 h4 h5 h6 h7 h8 h9 Ba Bt Dp B1 Cs Dd Ea Ek Fy G8 G9 H3 H4 Kc Kd Mu Mv Mw Mx My Mz M3 Io
theorem bVz(M4:(360000:Int)<(((((dE (s.take (((s.length:Int)-5).toNat)) 1000)*600)+((IntKind.wrap .u8 ((c3.toNat:Int)-48))*100))+((IntKind.wrap .u8 ((c4.toNat:Int)-48))*10))+(IntKind.wrap .u8 ((c5.toNat:Int)-48)))):FV Tp 40 [(.p (aC s))] base (.tup [(pI 0),(pI 3)]) []:=have k1:=fk 0 (fE (s.take (((s.length:Int)-5).toNat)) 1000 Ba Bt) rfl;FV.fi func40 ([bF,bF,bF,.x (.v (.int .u8 (c0.toNat:Int)))]++rF 6++[.x (.v (.int .u8 (c1.toNat:Int))),bF,bF,bF,k1.o,Dp.k 4 (gZ ce),bF,bF,bF,bF,.x (.v (.int .u8 (c3.toNat:Int))),bF,bF,bF,.x (.v (.int .u8 (c3.toNat:Int))),.x (.v (.int .u8 (c4.toNat:Int))),.x (.v (.int .u8 (c5.toNat:Int))),bT]) (gc (bJ M4) (gc Io (gc M3 (gt ((s[(((s.length:Int)-5)+4).toNat]?).map (fun b:UInt8=>PV.v (.int .u8 (b.toNat:Int)))=some (.v (.int .u8 (c5.toNat:Int)))) (bP Mz) (gc My (gc Mx (gc Mw (gc Mv (gc Mu (gt ((s[(((s.length:Int)-5)+2).toNat]?).map (fun b:UInt8=>PV.v (.int .u8 (b.toNat:Int)))=some (.v (.int .u8 (c4.toNat:Int)))) (bP Kd) (gc Kc (gc H4 (gc H3 (gc G9 (gc G8 (gt ((s[(((s.length:Int)-5)+1).toNat]?).map (fun b:UInt8=>PV.v (.int .u8 (b.toNat:Int)))=some (.v (.int .u8 (c3.toNat:Int)))) (bP Ea) (gc Dd (gc Cs (gc Fy (gc (aJ Ek) (Au (aJ B1) (gt ((s[(((s.length:Int)-5)+1).toNat]?).map (fun b:UInt8=>PV.v (.int .u8 (b.toNat:Int)))=some (.v (.int .u8 (c3.toNat:Int)))) (bP Ea) (gc Dd (gc (aJ B1) (gc Cs (Ap (aJ B1) (gc Dp.code (gc k1 (gc h9 (gc (bD h8) (Au (bD h4) (gt ((s[(((s.length:Int)-5)+3).toNat]?).map (fun b:UInt8=>PV.v (.int .u8 (b.toNat:Int)))=some (.v (.int .u8 (c1.toNat:Int)))) (bP h7) (gc h6 (gc (bD h4) (gc h5 (Ap (bD h4) (Au (aJ h1) (gt ((s[((s.length:Int)-5).toNat]?).map (fun b:UInt8=>PV.v (.int .u8 (b.toNat:Int)))=some (.v (.int .u8 (c0.toNat:Int)))) (bP h3) (gc h2 (Ap (aJ h1) (gc h0 gn)))))))))))))))))))))))))))))))))))))))))
theorem bWa{r0:Int}(M4:(((((dE (s.take (((s.length:Int)-5).toNat)) 1000)*600)+((IntKind.wrap .u8 ((c3.toNat:Int)-48))*100))+((IntKind.wrap .u8 ((c4.toNat:Int)-48))*10))+(IntKind.wrap .u8 ((c5.toNat:Int)-48)))≤360000)(Ao:r0=(((((dE (s.take (((s.length:Int)-5).toNat)) 1000)*600)+((IntKind.wrap .u8 ((c3.toNat:Int)-48))*100))+((IntKind.wrap .u8 ((c4.toNat:Int)-48))*10))+(IntKind.wrap .u8 ((c5.toNat:Int)-48)))):FV Tp 40 [(.p (aC s))] base (.tup [(pI r0),(pI 0)]) []:=by
 subst Ao;have k1:=fk 0 (fE (s.take (((s.length:Int)-5).toNat)) 1000 Ba Bt) rfl;exact FV.fi func40 ([bF,bF,bF,.x (.v (.int .u8 (c0.toNat:Int)))]++rF 6++[.x (.v (.int .u8 (c1.toNat:Int))),bF,bF,bF,k1.o,Dp.k 4 (gZ ce),bF,bF,bF,bF,.x (.v (.int .u8 (c3.toNat:Int))),bF,bF,bF,.x (.v (.int .u8 (c3.toNat:Int))),.x (.v (.int .u8 (c4.toNat:Int))),.x (.v (.int .u8 (c5.toNat:Int))),bF]) (gc (aJ M4) (gc Io (gc M3 (gt ((s[(((s.length:Int)-5)+4).toNat]?).map (fun b:UInt8=>PV.v (.int .u8 (b.toNat:Int)))=some (.v (.int .u8 (c5.toNat:Int)))) (bP Mz) (gc My (gc Mx (gc Mw (gc Mv (gc Mu (gt ((s[(((s.length:Int)-5)+2).toNat]?).map (fun b:UInt8=>PV.v (.int .u8 (b.toNat:Int)))=some (.v (.int .u8 (c4.toNat:Int)))) (bP Kd) (gc Kc (gc H4 (gc H3 (gc G9 (gc G8 (gt ((s[(((s.length:Int)-5)+1).toNat]?).map (fun b:UInt8=>PV.v (.int .u8 (b.toNat:Int)))=some (.v (.int .u8 (c3.toNat:Int)))) (bP Ea) (gc Dd (gc Cs (gc Fy (gc (aJ Ek) (Au (aJ B1) (gt ((s[(((s.length:Int)-5)+1).toNat]?).map (fun b:UInt8=>PV.v (.int .u8 (b.toNat:Int)))=some (.v (.int .u8 (c3.toNat:Int)))) (bP Ea) (gc Dd (gc (aJ B1) (gc Cs (Ap (aJ B1) (gc Dp.code (gc k1 (gc h9 (gc (bD h8) (Au (bD h4) (gt ((s[(((s.length:Int)-5)+3).toNat]?).map (fun b:UInt8=>PV.v (.int .u8 (b.toNat:Int)))=some (.v (.int .u8 (c1.toNat:Int)))) (bP h7) (gc h6 (gc (bD h4) (gc h5 (Ap (bD h4) (Au (aJ h1) (gt ((s[((s.length:Int)-5).toNat]?).map (fun b:UInt8=>PV.v (.int .u8 (b.toNat:Int)))=some (.v (.int .u8 (c0.toNat:Int)))) (bP h3) (gc h2 (Ap (aJ h1) (gc h0 gn)))))))))))))))))))))))))))))))))))))))))
end
theorem bWb{s:List UInt8}{c0 c1:UInt8}(h0:inR ((s.length:Int)-5))(h1:(1:Int)≤((s.length:Int)-5))(h2:0≤((s.length:Int)-5))(h3:s[((s.length:Int)-5).toNat]? = some c0)(h4:(c0.toNat:Int)=58)(h5:inR (((s.length:Int)-5)+3))(h6:0≤(((s.length:Int)-5)+3))(h7:s[(((s.length:Int)-5)+3).toNat]? = some c1)(h8:(c1.toNat:Int)=46)(h9:0≤(0:Int)∧(0:Int)≤((s.length:Int)-5)∧((s.length:Int)-5)≤(s.length:Int))(Ba:(s.take (((s.length:Int)-5).toNat)).length≤100000)(Bt:0≤(1000:Int)∧(1000:Int)≤1000000)(Dp:aE Tp 0 sD (dM s 1) .ret (bS (dM s Ki) [(2,(pI 0)),(3,(pI 11))])):FV Tp 40 [(.p (aC s))] base (.tup [(pI 0),(pI 11)]) []:=have k1:=fk 0 (fE (s.take (((s.length:Int)-5).toNat)) 1000 Ba Bt) rfl;FV.fi func40 ([bF,bF,bF,.x (.v (.int .u8 (c0.toNat:Int)))]++rF 6++[.x (.v (.int .u8 (c1.toNat:Int))),bF,bF,bF,k1.o,Dp.k 4 (gZ ce)]) (gc Dp.code (gc k1 (gc h9 (gc (bD h8) (Au (bD h4) (gt ((s[(((s.length:Int)-5)+3).toNat]?).map (fun b:UInt8=>PV.v (.int .u8 (b.toNat:Int)))=some (.v (.int .u8 (c1.toNat:Int)))) (bP h7) (gc h6 (gc (bD h4) (gc h5 (Ap (bD h4) (Au (aJ h1) (gt ((s[((s.length:Int)-5).toNat]?).map (fun b:UInt8=>PV.v (.int .u8 (b.toNat:Int)))=some (.v (.int .u8 (c0.toNat:Int)))) (bP h3) (gc h2 (Ap (aJ h1) (gc h0 gn)))))))))))))))
section
variable{s:List UInt8}{Ag:UInt8}(h0:(i:Int)≤4)(h1:(i:Int)≠3)(h2:inR (((s.length:Int)-5)+(i:Int)))(h3:0≤(((s.length:Int)-5)+(i:Int)))(h4:s[(((s.length:Int)-5)+(i:Int)).toNat]? = some Ag)
include h0 h1 h2 h3 h4
theorem aXw(h5:(Ag.toNat:Int)<48):aA Tp 0 sD (dM s i) .ret (bS (dM s i) [(2,(pI 0)),(3,(pI 11))]):=aA.fi (gZ [1,1,8,44]) (rT 6++[.x (.v (.int .u8 (Ag.toNat:Int)))]++rT 11) (gc (cL h1) (gc (bJ h5) (gc (cL h1) (Fb (bJ h5) (Au (cL h1) (gt ((s[(((s.length:Int)-5)+(i:Int)).toNat]?).map (fun b:UInt8=>PV.v (.int .u8 (b.toNat:Int)))=some (.v (.int .u8 (Ag.toNat:Int)))) (bP h4) (gc h3 (gc (cL h1) (gc h2 (Db (cL h1) (gc (gO h0) gn)))))))))))
theorem aXx(h5:(48:Int)≤(Ag.toNat:Int))(h6:(57:Int)<(Ag.toNat:Int)):aA Tp 0 sD (dM s i) .ret (bS (dM s i) [(2,(pI 0)),(3,(pI 11))]):=aA.fi (gZ [1,1,8,44]) (rT 6++[.x (.v (.int .u8 (Ag.toNat:Int))),bT,bT]++rF 5++[.x (.v (.int .u8 (Ag.toNat:Int))),bF,bT,bF,bT,bT]) (gc (bJ h6) (gc (cL h1) (gc (aJ h5) (gc (cL h1) (gc (aJ h5) (gt ((s[(((s.length:Int)-5)+(i:Int)).toNat]?).map (fun b:UInt8=>PV.v (.int .u8 (b.toNat:Int)))=some (.v (.int .u8 (Ag.toNat:Int)))) (bP h4) (gc h3 (gc (aJ h5) (gc h2 (Db (aJ h5) (Au (cL h1) (gt ((s[(((s.length:Int)-5)+(i:Int)).toNat]?).map (fun b:UInt8=>PV.v (.int .u8 (b.toNat:Int)))=some (.v (.int .u8 (Ag.toNat:Int)))) (bP h4) (gc h3 (gc (cL h1) (gc h2 (Db (cL h1) (gc (gO h0) gn)))))))))))))))))
theorem aXy(h5:(48:Int)≤(Ag.toNat:Int))(h6:(Ag.toNat:Int)≤57)(h7:cq i)(Ai:i'=(i+1)):aA Tp 0 sD (dM s i) .normal (dM s i'):=by
 subst Ai;exact aA.fi (gZ ce) (rT 6++[.x (.v (.int .u8 (Ag.toNat:Int))),bT,bT]++rF 5++[.x (.v (.int .u8 (Ag.toNat:Int))),bF,bT,bF,bT,bF]) (gc h7 (gc (aJ h6) (gc (cL h1) (gc (aJ h5) (gc (cL h1) (gc (aJ h5) (gt ((s[(((s.length:Int)-5)+(i:Int)).toNat]?).map (fun b:UInt8=>PV.v (.int .u8 (b.toNat:Int)))=some (.v (.int .u8 (Ag.toNat:Int)))) (bP h4) (gc h3 (gc (aJ h5) (gc h2 (Db (aJ h5) (Au (cL h1) (gt ((s[(((s.length:Int)-5)+(i:Int)).toNat]?).map (fun b:UInt8=>PV.v (.int .u8 (b.toNat:Int)))=some (.v (.int .u8 (Ag.toNat:Int)))) (bP h4) (gc h3 (gc (cL h1) (gc h2 (Db (cL h1) (gc (gO h0) gn))))))))))))))))))
end
theorem aXz{s:List UInt8}(h0:(i:Int)≤4)(h1:(i:Int)=3)(h2:cq i)(Ai:i'=(i+1)):aA Tp 0 sD (dM s i) .normal (dM s i'):=by
 subst Ai;exact aA.fi (gZ ce) ([bT]++rF 9) (gc h2 (Ig (bD h1) (gc (bD h1) (gc (gO h0) gn))))
theorem aYa{s:List UInt8}(h0:(4:Int)<(i:Int)):aA Tp 0 sD (dM s i) (.exit 0) (dM s i):=aA.fi (gZ ce) [bF] (gc (eQ h0) gn)
end
section

theorem Jz{p l:List UInt8}(hl:l.length=5)(j:Nat){k:Int}(hk:k=((p++l).length:Int)-5+j):(p++l)[k.toNat]? = l[j]? := by
 have:k.toNat=p.length+j:=by rw [gR,hl] at hk;omega
 rw [this,aJp (by omega)]
 congr 1;omega
def dv(c:UInt8):Int:=(c.toNat:Int)-48
def E4(p:List UInt8)(a b c d e:UInt8):Int × Int :=
 if a=58∧d=46∧isd b=true∧isd c=true∧isd e=true∧0≤dE p 1000∧b.toNat≤53 then
  if 360000<dE p 1000*600+dv b*100+dv c*10+dv e then (0,3) else (dE p 1000*600+dv b*100+dv c*10+dv e,0)
 else (0,11)
theorem aSc(m:Int)(hm:0≤m):∀ (l:List UInt8) (n:Int),l.all isd=true→0≤n→n≤m+1→0≤aKa m l n∧aKa m l n≤m+1
 | [],n,_,h0,h1=>⟨h0,h1⟩
 | b::l,n,ha,h0,h1=>by
  simp only [List.all_cons,Cj] at ha
  have:=eF ha.1;refine aSc m hm l _ ha.2 ?_ ?_ <;> dsimp only <;> split <;> omega
theorem bMz(p:List UInt8)(m:Int)(hm:0≤m) : -1≤dE p m∧dE p m≤m+1:=by
 unfold dE
 split
 ·omega
 ·rename_i q
  have ha:p.all isd=true:=by
   cases h:p.all isd
   ·exact absurd (.inr (.inr h)) q
   ·rfl
  have:=aSc m hm p 0 ha (by omega) (by omega)
  omega
theorem aAq{p l:List UInt8}(hp:p.length≤100000)(hl:l.length=5){i:Nat}{c:UInt8}(hi:i≤4)(h3:i≠3)(hc:l[i]? = some c) :
  (isd c=true∧aA Tp 0 (sub (cd Tryz.f40) bh) (dM (p++l) i) .normal (dM (p++l) (i+1)))∨(isd c=false∧aE Tp 0 (sub (cd Tryz.f40) bh) (dM (p++l) i) .ret (bS (dM (p++l) i) [(2,(.p (aB 0))),(3,(.p (aB 11)))])):=by
 have hq:=Jz (p:=p) hl i (k:=(((p++l).length:Int)-(5:Int))+(i:Int)) rfl;rw [hc] at hq
 have e:((p++l).length:Int)=(p.length:Int)+5:=by rw [gR,hl];omega
 have g1:inR ((((p++l).length:Int)-(5:Int))+(i:Int)):=by rw [e];unfold inR;omega
 have g2:0≤(((p++l).length:Int)-(5:Int))+(i:Int):=by rw [e];omega
 by_cases hd:isd c=true
 ·have:=eF hd
  exact .inl ⟨hd,aXy (by omega) (by omega) g1 g2 hq (by omega) (by omega) (aL (by omega)) rfl⟩
 ·have hd:isd c=false:=by simpa using hd
  refine .inr ⟨hd,?_⟩
  by_cases q:c.toNat<48
  ·exact .exit (aXw (by omega) (by omega) g1 g2 hq (by omega)) (by simp)
  ·rcases bHg hd with q2 | q2
   ·exact absurd q2 q
   ·exact .exit (aXx (by omega) (by omega) g1 g2 hq (by omega) (by omega)) (by simp)
theorem bHf{p:List UInt8}(hp:p.length≤100000)(a b c d e:UInt8) :
  ((isd b=true∧isd c=true∧isd e=true)∧aE Tp 0 (sub (cd Tryz.f40) bh) (dM (p++[a,b,c,d,e]) 1) (.exit 0) (dM (p++[a,b,c,d,e]) 5)) ∨
  (¬ (isd b=true∧isd c=true∧isd e=true)∧∃ i',aE Tp 0 (sub (cd Tryz.f40) bh) (dM (p++[a,b,c,d,e]) 1) .ret (bS (dM (p++[a,b,c,d,e]) i') [(2,(.p (aB 0))),(3,(.p (aB 11)))])):=by
 rcases aAq (l:=[a,b,c,d,e]) hp rfl (i:=1) (c:=b) (by omega) (by omega) rfl with ⟨h1,s1⟩ | ⟨h1,s1⟩
 ·rcases aAq (l:=[a,b,c,d,e]) hp rfl (i:=2) (c:=c) (by omega) (by omega) rfl with ⟨h2,s2⟩ | ⟨h2,s2⟩
  ·have s3:aA Tp 0 (sub (cd Tryz.f40) bh) (dM (p++[a,b,c,d,e]) 3) .normal (dM (p++[a,b,c,d,e]) 4):=aXz (by omega) rfl (aL (by omega)) rfl
   rcases aAq (l:=[a,b,c,d,e]) hp rfl (i:=4) (c:=e) (by omega) (by omega) rfl with ⟨h4,s4⟩ | ⟨h4,s4⟩
   ·exact .inl ⟨⟨h1,h2,h4⟩,.step s1 (.step s2 (.step s3 (.step s4 (.exit (aYa (by omega)) (by simp)))))⟩
   ·exact .inr ⟨by simp [h4],4,.step s1 (.step s2 (.step s3 s4))⟩
  ·exact .inr ⟨by simp [h2],2,.step s1 s2⟩
 ·exact .inr ⟨by simp [h1],1,s1⟩
theorem Ln{c:UInt8}{k:Nat}(hk:k<256):(c.toNat:Int)=(k:Int)↔c=UInt8.ofNat k:=by
 constructor
 ·intro h
  apply UInt8.toNat_inj.1;simp;omega
 ·intro h;subst h;simp;omega
theorem bVn{p:List UInt8}(hp:p.length≤99000)(hn:p≠[])(a b c d e:UInt8){base:Nat}:FV Tp 40 [.p (aC (p++[a,b,c,d,e]))] base (.tup [.p (aB (E4 p a b c d e).1),.p (aB (E4 p a b c d e).2)]) []:=by
 have el:((p++[a,b,c,d,e]).length:Int)=(p.length:Int)+5:=by simp
 have Oj:1≤p.length:=List.length_pos_iff.2 hn;have I7:=Jz (p:=p) (l:=[a,b,c,d,e]) rfl 0 (k:=((p++[a,b,c,d,e]).length:Int)-(5:Int)) (by omega)
 have I6:=Jz (p:=p) (l:=[a,b,c,d,e]) rfl 1 (k:=((p++[a,b,c,d,e]).length:Int)-(5:Int)+(1:Int)) (by omega)
 have at2:=Jz (p:=p) (l:=[a,b,c,d,e]) rfl 2 (k:=((p++[a,b,c,d,e]).length:Int)-(5:Int)+(2:Int)) (by omega)
 have at3:=Jz (p:=p) (l:=[a,b,c,d,e]) rfl 3 (k:=((p++[a,b,c,d,e]).length:Int)-(5:Int)+(3:Int)) (by omega)
 have at4:=Jz (p:=p) (l:=[a,b,c,d,e]) rfl 4 (k:=((p++[a,b,c,d,e]).length:Int)-(5:Int)+(4:Int)) (by omega)
 have tk:(p++[a,b,c,d,e]).take (((p++[a,b,c,d,e]).length:Int)-(5:Int)).toNat=p:=by
  rw [show (((p++[a,b,c,d,e]).length:Int)-(5:Int)).toNat=p.length by omega,List.take_left]
 have L:=bHf (p:=p) (by omega) a b c d e
 have bf:=bMz p 1000 (by omega)
 generalize hs:p++[a,b,c,d,e]=s at *
 have k0:inR (((s.length:Int)-(5:Int))):=by unfold inR;omega
 have k1:(1:Int)≤((s.length:Int)-(5:Int)):=by omega
 have k2:0≤((s.length:Int)-(5:Int)):=by omega
 by_cases ha:(a.toNat:Int)=58
 ·have Ms:a=58:=(Ln (k:=58) (by omega)).1 ha
  by_cases hd:(d.toNat:Int)=46
  ·have Ew:d=46:=(Ln (k:=46) (by omega)).1 hd
   rcases L with ⟨⟨hb,hc,he⟩,L⟩ | ⟨hx,i',L⟩
   ·by_cases hf:0≤dE p 1000
    ·have bb:=eF hb
     have bc:=eF hc;have be:=eF he;have wb:IntKind.wrap .u8 ((b.toNat:Int)-48)=dv b:=wraps_u8 _ (by omega) (by omega)
     have wc:IntKind.wrap .u8 ((c.toNat:Int)-48)=dv c:=wraps_u8 _ (by omega) (by omega)
     have we:IntKind.wrap .u8 ((e.toNat:Int)-48)=dv e:=wraps_u8 _ (by omega) (by omega)
     have vb:0≤dv b∧dv b≤9:=by unfold dv;omega
     have vc:0≤dv c∧dv c≤9:=by unfold dv;omega
     have ve:0≤dv e∧dv e≤9:=by unfold dv;omega
     by_cases h5:b.toNat≤53
     ·unfold E4
      rw [if_pos ⟨Ms,Ew,hb,hc,he,hf,h5⟩]
      by_cases hz:360000<dE p 1000*600+dv b*100+dv c*10+dv e
      ·rw [if_pos hz]
       refine bVz k0 k1 k2 I7 ha (by show _∧_;omega) (by omega) at3 hd (by omega) (by rw [tk];omega) (by omega) L (by rw [tk];exact hf) (by show _∧_;omega) (by omega) I6 (by omega) ?_ ?_ ?_ ?_ (by show _∧_;omega) (by omega) at2 ?_ ?_ ?_ (by show _∧_;omega) (by omega) at4 ?_ ?_ ?_
       all_goals first | rw [tk] | skip
       all_goals first | simp only [wb,wc,we] | skip
       all_goals first | (unfold inR;omega) | omega
      ·rw [if_neg hz]
       refine bWa k0 k1 k2 I7 ha (by show _∧_;omega) (by omega) at3 hd (by omega) (by rw [tk];omega) (by omega) L (by rw [tk];exact hf) (by show _∧_;omega) (by omega) I6 (by omega) ?_ ?_ ?_ ?_ (by show _∧_;omega) (by omega) at2 ?_ ?_ ?_ (by show _∧_;omega) (by omega) at4 ?_ ?_ ?_ ?_
       all_goals first | rw [tk] | skip
       all_goals first | simp only [wb,wc,we] | skip
       all_goals first | (unfold inR;omega) | omega
     ·have e1:E4 p a b c d e=(0,11):=by unfold E4;rw [if_neg (fun q=>h5 q.2.2.2.2.2.2)]
      rw [e1];exact bVy k0 k1 k2 I7 ha (by show _∧_;omega) (by omega) at3 hd (by omega) (by rw [tk];omega) (by omega) L (by rw [tk];exact hf) (by show _∧_;omega) (by omega) I6 (by omega)
    ·have e1:E4 p a b c d e=(0,11):=by unfold E4;rw [if_neg (fun q=>hf q.2.2.2.2.2.1)]
     rw [e1];exact bVx k0 k1 k2 I7 ha (by show _∧_;omega) (by omega) at3 hd (by omega) (by rw [tk];omega) (by omega) L (by rw [tk];omega)
   ·have e1:E4 p a b c d e=(0,11):=by unfold E4;rw [if_neg (fun q=>hx ⟨q.2.2.1,q.2.2.2.1,q.2.2.2.2.1⟩)]
    rw [e1];exact bWb k0 k1 k2 I7 ha (by show _∧_;omega) (by omega) at3 hd (by omega) (by rw [tk];omega) (by omega) L
  ·have e1:E4 p a b c d e=(0,11):=by unfold E4;rw [if_neg (fun q=>hd ((Ln (k:=46) (by omega)).2 q.2.1))]
   rw [e1];exact bVw k0 k1 k2 I7 ha (by show _∧_;omega) (by omega) at3 hd
 ·have e1:E4 p a b c d e=(0,11):=by unfold E4;rw [if_neg (fun q=>ha ((Ln (k:=58) (by omega)).2 q.1))]
  rw [e1];exact bVv k0 k1 k2 I7 ha
theorem aXq{s:List UInt8}(h:s.length≤5){base:Nat}:FV Tp 40 [.p (aC s)] base (.tup [.p (aB 0),.p (aB 11)]) []:=bVu (by show _∧_;omega) (by omega)
end
section
theorem aDs(x:UInt8):∀ (s:List UInt8),x∉s→Lib.index s [x] = -1
 | [],_=>rfl
 | b::l,h=>by
  have hb:¬ x=b:=fun e=>h (by simp [e])
  have:=aDs x l (fun e=>h (by simp [e]))
  unfold Lib.index;rw [if_neg (by simp [List.isPrefixOf,hb]),this]
  rfl
theorem aJw(x:UInt8)(v:List UInt8):∀ (u:List UInt8),x∉u→Lib.index (u++x::v) [x]=(u.length:Int)
 | [],_=>by
  show Lib.index (x::v) [x]=_;unfold Lib.index;rw [if_pos (by simp [List.isPrefixOf])]
  rfl
 | b::u,h=>by
  have hb:¬ x=b:=fun e=>h (by simp [e])
  have:=aJw x v u (fun e=>h (by simp [e]))
  show Lib.index (b::(u++x::v)) [x]=_;unfold Lib.index;rw [if_neg (by simp [List.isPrefixOf,hb]),this,if_neg (by simp),fQ]
  omega
theorem aXp{x:UInt8}{s:List UInt8}(h:x∉s):Lib.cut s [x]=(s,[],false):=by
 unfold Lib.cut;rw [aDs x s h,if_neg (by omega)]
theorem uR{x:UInt8}{u v:List UInt8}(h:x∉u):Lib.cut (u++x::v) [x]=(u,v,true):=by
 unfold Lib.cut;rw [aJw x v u h,if_pos (by omega)]
 have:(u.length:Int).toNat=u.length:=by omega
 rw [this,List.take_left]
 congr 2
 rw [List.length_singleton,← List.drop_drop,List.drop_left];rfl
theorem aDt{x:UInt8}{s:List UInt8}(h:(Lib.cut s [x]).2.2=true):∃ u v,x∉u∧s=u++x::v:=by
 by_cases hx:x∈s
 ·obtain ⟨u,v,e,hn⟩:=List.eq_append_cons_of_mem hx
  exact ⟨u,v,hn,e⟩
 ·rw [aXp hx] at h;cases h
def oK(l:List UInt8)(n:Int):Int:=l.foldl (fun n b=>10*n+dv b) n
theorem aGn:∀ (l:List UInt8) (n:Int),l.all isd=true→0≤n→n≤oK l n
 | [],n,_,h=>aCb n
 | b::l,n,ha,h=>by
  simp only [List.all_cons,Cj] at ha
  have hb:=eF ha.1;have hd:0≤dv b:=by unfold dv;omega
  have:=aGn l (10*n+dv b) ha.2 (by omega)
  show n≤oK l (10*n+dv b);omega
theorem aJx(m:Int)(hm:0≤m):∀ (l:List UInt8) (n:Int),l.all isd=true→0≤n→aKa m l (min n (m+1))=min (oK l n) (m+1)
 | [],n,_,h=>rfl
 | b::l,n,ha,h=>by
  simp only [List.all_cons,Cj] at ha
  have hb:=eF ha.1;have:=aJx m hm l (10*n+dv b) ha.2 (by unfold dv;omega)
  show aKa m l _=min (oK l (10*n+dv b)) (m+1);rw [← this]
  congr 1
  dsimp only [dv]
  split <;> omega
theorem aJy(z:Bool)(m:Int)(hm:0≤m):∀ (l:List UInt8) (i:Nat) (n:Int),l.all isd=true→0≤n→(0<i∨l≠[])→(z=false∨l=[]∨(i=0∧l.length=1)) →
  kO z m l i (min n (m+1))=if m<oK l n then (0,3) else (oK l n,0)
 | [],i,n,_,h,hi,hz=>by
  have hi:¬ i=0:=by rcases hi with q | q <;> first | omega | exact absurd rfl q
  unfold kO;rw [if_neg hi];show (if min n (m+1) > m then _ else _)=if m<n then _ else _
  by_cases q:m<n
  ·rw [if_pos q,if_pos (by omega)]
  ·rw [if_neg q,if_neg (by omega)]
   show (min n (m+1),(0:Int))=(n,0);rw [show min n (m+1)=n by omega]
 | b::l,i,n,ha,h,hi,hz=>by
  simp only [List.all_cons,Cj] at ha
  have hb:=eF ha.1;unfold kO;rw [if_neg (by
   rintro (q | ⟨q1,q2⟩)
   ·omega
   ·rcases hz with q | q | ⟨q,_⟩
    ·rw [q] at q2;cases q2
    ·cases q
    ·omega)]
  have e:min (10*min n (m+1)+((b.toNat:Int)-48)) (m+1)=min (10*n+dv b) (m+1):=by unfold dv;omega
  rw [e];exact aJy z m hm l (i+1) (10*n+dv b) ha.2 (by unfold dv;omega) (.inl (by omega)) (by
   rcases hz with q | q | ⟨_,q⟩
   ·exact .inl q
   ·cases q
   ·exact .inr (.inl (tB (by simpa using q))))
theorem aJz(z:Bool)(m:Int):∀ (l:List UInt8) (i:Nat) (n:Int),l.all isd=false→(kO z m l i n).2=11
 | b::l,i,n,h=>by
  unfold kO
  by_cases hb:isd b=true
  ·have hl:l.all isd=false:=by simpa [hb] using h
   split
   ·rfl
   ·exact aJz z m l _ _ hl
  ·have hb:isd b=false:=by simpa using hb
   rw [if_pos (.inl (bHg hb))]
theorem aGo{p:List UInt8}{m:Int}(hm:0≤m)(ha:p.all isd=true)(hn:p≠[])(hz:¬ (1<p.length∧p[0]? = some 48)):bK p m=if m<oK p 0 then (0,3) else (oK p 0,0):=by
 have:=aJy (aCc p) m hm p 0 0 ha (by omega) (.inr hn) (by
  by_cases q:p[0]? = some 48
  ·refine .inr (.inr ⟨rfl,?_⟩)
   have:1≤p.length:=List.length_pos_iff.2 hn
   by_cases q2:1<p.length
   ·exact absurd ⟨q2,q⟩ hz
   ·omega
  ·exact .inl (by unfold aCc;simp [q]))
 rw [show min (0:Int) (m+1)=0 by omega] at this
 exact this
theorem qB{p:List UInt8}{m:Int}(h:p=[]∨(1<p.length∧p[0]? = some 48)∨p.all isd=false):(bK p m).2=11:=by
 rcases h with h | ⟨h1,h2⟩ | h
 ·subst h;rfl
 ·match p,h1,h2 with
  | b::c::r,_,h2 =>
   have hz:aCc (b::c::r)=true:=by unfold aCc;exact decide_eq_true h2
   unfold bK;rw [hz];unfold kO
   split
   ·rfl
   ·unfold kO
    rw [if_pos (.inr ⟨by omega,rfl⟩)]
 ·exact aJz _ _ p 0 0 h
theorem aGp{p:List UInt8}{m:Int}(hm:0≤m)(ha:p.all isd=true)(hn:p≠[])(hz:¬ (1<p.length∧p[0]? = some 48)):dE p m=min (oK p 0) (m+1):=by
 unfold dE;rw [if_neg (by simp only [hn,hz,ha,false_or];decide)]
 have:=aJx m hm p 0 ha (by omega)
 rw [show min (0:Int) (m+1)=0 by omega] at this
 exact this
theorem uS{p:List UInt8}{m:Int}(h:p=[]∨(1<p.length∧p[0]? = some 48)∨p.all isd=false):dE p m = -1:=by unfold dE;rw [if_pos h]
theorem Kg{p:List UInt8}(h:p.all isd=true)(x:UInt8)(hx:isd x=false):x∉p:=fun q=>by
 rw [jI] at h
 rw [h x q] at hx;cases hx
theorem bHb{x:UInt8}:dgM [x] 1 10=if isd x=true then (dv x,true) else (0,false):=by
 unfold dgM
 by_cases h:isd x=true
 ·rw [if_pos ⟨rfl,by simp [h]⟩,if_pos h]
  have e:atV [x]=dv x:=by unfold atV;rw [I6 h];rfl
  have:=eF h;rw [e]
  congr 1
  exact decide_eq_true (by unfold dv;omega)
 ·rw [if_neg h,if_neg (fun q=>h (by simpa using q.2))]
theorem bHc{x y:UInt8}:dgM [x,y] 2 60=if isd x=true∧isd y=true then (10*dv x+dv y,decide (x.toNat≤53)) else (0,false):=by
 unfold dgM
 by_cases h:isd x=true∧isd y=true
 ·rw [if_pos ⟨rfl,by simp [h.1,h.2]⟩,if_pos h]
  have e:atV [x,y]=10*dv x+dv y:=by unfold atV;rw [at2 h.1 h.2];rfl
  have h1:=eF h.1;have h2:=eF h.2;rw [e]
  congr 1
  by_cases q:x.toNat≤53
  ·rw [decide_eq_true q];exact decide_eq_true (by unfold dv;omega)
  ·rw [decide_eq_false q];exact decide_eq_false (by unfold dv;omega)
 ·rw [if_neg h,if_neg (fun q=>h (by simpa using q.2))]
theorem bHd{s:List UInt8}{m b:Int}(h:(dgM s m b).2=true):(s.length:Int)=m∧s.all isd=true:=by
 unfold dgM at h
 split at h
 ·rename_i q;exact q
 ·cases h
theorem aSb{s:List UInt8}(h:paM s≠(0,11)):∃ p b c e,s=p++[58,b,c,46,e]∧p≠[]∧p.all isd=true∧¬ (1<p.length∧p[0]? = some 48)∧isd b=true∧isd c=true∧isd e=true:=by
 have hc:(Lib.cut s [58]).2.2=true∧(Lib.cut (Lib.cut s [58]).2.1 [46]).2.2=true∧(dgM (Lib.cut (Lib.cut s [58]).2.1 [46]).1 2 60).2=true∧(dgM (Lib.cut (Lib.cut s [58]).2.1 [46]).2.1 1 10).2=true∧(bK (Lib.cut s [58]).1 360000).2≠11:=by
  apply Classical.byContradiction;intro q;apply h;unfold paM;rw [if_neg q]
 obtain ⟨h1,h2,h3,h4,h5⟩:=hc;obtain ⟨p,r,hp,rfl⟩:=aDt h1;rw [uR hp] at h2 h3 h4 h5
 obtain ⟨x,y,hx,rfl⟩:=aDt h2;rw [uR hx] at h3 h4
 obtain ⟨l1,d1⟩:=bHd h3;obtain ⟨l2,d2⟩:=bHd h4;dsimp only at l1 d1 l2 d2 h5
 match x,y,l1,l2,d1,d2 with
 | [b,c],[e],_,_,d1,d2 =>
  simp only [List.all_cons,List.all_nil,Bool.and_true,Cj] at d1 d2
  refine ⟨p,b,c,e,rfl,fun q=>h5 (qB (.inl q)),?_,fun q=>h5 (qB (.inr (.inl q))),d1.1,d1.2,d2⟩
  cases q:p.all isd
  ·exact absurd (qB (.inr (.inr q))) h5
  ·rfl
theorem bVl{p:List UInt8}{b c e:UInt8}(hn:p≠[])(ha:p.all isd=true)(hz:¬ (1<p.length∧p[0]? = some 48))(hb:isd b=true)(hc:isd c=true)(he:isd e=true):paM (p++[58,b,c,46,e])=E4 p 58 b c 46 e:=by
 have c1:Lib.cut (p++[58,b,c,46,e]) [58]=(p,[b,c,46,e],true):=uR (Kg ha 58 (by decide))
 have c2:Lib.cut [b,c,46,e] [46]=([b,c],[e],true):=uR (u:=[b,c]) (Kg (by simp [hb,hc]) 46 (by decide))
 have D1:=bHb (x:=e);rw [if_pos he] at D1
 have D2:=bHc (x:=b) (y:=c);rw [if_pos ⟨hb,hc⟩] at D2
 have N:=aGo (m:=360000) (by omega) ha hn hz
 have F:=aGp (m:=1000) (by omega) ha hn hz
 have hv:=aGn p 0 ha (by omega)
 have b1:=eF hb;have b2:=eF hc;have b3:=eF he;have v1:0≤dv b∧dv b≤9:=by unfold dv;omega
 have v2:0≤dv c∧dv c≤9:=by unfold dv;omega
 have v3:0≤dv e∧dv e≤9:=by unfold dv;omega
 have hp:paM (p++[58,b,c,46,e])=if b.toNat≤53∧(bK p 360000).2≠11 then
   if (bK p 360000).2≠0∨360000<(bK p 360000).1*600+(10*dv b+dv c)*10+dv e then (0,3) else ((bK p 360000).1*600+(10*dv b+dv c)*10+dv e,0)
   else (0,11):=by
  unfold paM;rw [c1];dsimp only;rw [c2];dsimp only;rw [D1,D2];dsimp only
  by_cases q:b.toNat≤53∧(bK p 360000).2≠11
  ·rw [if_pos ⟨rfl,rfl,decide_eq_true q.1,rfl,q.2⟩,if_pos q]
  ·rw [if_neg (fun k=>q ⟨of_decide_eq_true k.2.2.1,k.2.2.2.2⟩),if_neg q]
 have hr:E4 p 58 b c 46 e=if b.toNat≤53 then
   if 360000<dE p 1000*600+dv b*100+dv c*10+dv e then (0,3) else (dE p 1000*600+dv b*100+dv c*10+dv e,0)
   else (0,11):=by
  unfold E4
  by_cases q:b.toNat≤53
  ·rw [if_pos ⟨rfl,rfl,hb,hc,he,by rw [F];omega,q⟩,if_pos q]
  ·rw [if_neg (fun k=>q k.2.2.2.2.2.2),if_neg q]
 rw [hp,hr,F]
 by_cases h5:b.toNat≤53
 ·by_cases hl:360000<oK p 0
  ·rw [if_pos hl] at N
   rw [N,if_pos ⟨h5,by decide⟩,if_pos h5,if_pos (.inl (by decide)),if_pos (by omega)]
  ·rw [if_neg hl] at N
   rw [N,if_pos ⟨h5,by simp⟩,if_pos h5]
   by_cases hq:360000<oK p 0*600+(10*dv b+dv c)*10+dv e
   ·rw [if_pos (Or.inr hq),if_pos (by omega)]
   ·rw [if_neg (by rintro (k | k) <;> first | exact k rfl | exact hq k),if_neg (by omega)]
    show (oK p 0*600+(10*dv b+dv c)*10+dv e,(0:Int))=(min (oK p 0) (1000+1)*600+dv b*100+dv c*10+dv e,0);have:oK p 0*600+(10*dv b+dv c)*10+dv e=min (oK p 0) (1000+1)*600+dv b*100+dv c*10+dv e:=by omega
    rw [this]
 ·rw [if_neg (fun k=>h5 k.1),if_neg h5]
theorem bMw{p:List UInt8}(hn:p≠[])(a b c d e:UInt8):paM (p++[a,b,c,d,e])=E4 p a b c d e:=by
 by_cases hg:a=58∧d=46∧isd b=true∧isd c=true∧isd e=true∧p.all isd=true∧¬ (1<p.length∧p[0]? = some 48)
 ·obtain ⟨rfl,rfl,hb,hc,he,ha,hz⟩:=hg
  exact bVl hn ha hz hb hc he
 ·have e1:E4 p a b c d e=(0,11):=by
   unfold E4;rw [if_neg];rintro ⟨q1,q2,q3,q4,q5,q6,_⟩;refine hg ⟨q1,q2,q3,q4,q5,?_,?_⟩
   ·cases q:p.all isd
    ·rw [uS (.inr (.inr q))] at q6;omega
    ·rfl
   ·intro q
    rw [uS (.inr (.inl q))] at q6;omega
  rw [e1];apply Classical.byContradiction;intro h;obtain ⟨p',b',c',e',es,Fv,Ms,Po,A1,D6,Mc⟩:=aSb h;obtain ⟨q1,q2⟩:=List.append_inj' es rfl;subst q1;simp only [List.cons.injEq,and_true] at q2
  obtain ⟨rfl,rfl,rfl,rfl,rfl⟩:=q2;exact hg ⟨rfl,rfl,A1,D6,Mc,Ms,Po⟩
theorem bHe{s:List UInt8}(h:s.length≤5):paM s=(0,11):=by
 apply Classical.byContradiction;intro h2;obtain ⟨p',b',c',e',rfl,Fv,_⟩:=aSb h2;have:=List.length_pos_iff.2 Fv;have e:(p'++[58,b',c',46,e']).length=p'.length+5:=by simp
 omega
theorem Kh{s:List UInt8}(h:5<s.length):∃ p a b c d e,s=p++[a,b,c,d,e]∧p≠[]:=by
 have hl:(s.drop (s.length-5)).length=5:=by rw [pD];omega
 match hq:s.drop (s.length-5),hl with
 | [a,b,c,d,e],_ =>
  refine ⟨s.take (s.length-5),a,b,c,d,e,by rw [← hq,aNr],?_⟩
  intro q;have:=congrArg List.length q;rw [uM] at this
  simp at this;omega
theorem bMx{s:List UInt8}(h:s.length≤90000){base:Nat}:FV Tp 40 [.p (aC s)] base (.tup [.p (aB (paM s).1),.p (aB (paM s).2)]) []:=by
 by_cases hl:s.length≤5
 ·rw [bHe hl];exact aXq hl
 ·obtain ⟨p,a,b,c,d,e,rfl,hn⟩:=Kh (s:=s) (by omega)
  rw [bMw hn];exact bVn (by have e:(p++[a,b,c,d,e]).length=p.length+5:=(by simp);omega) hn a b c d e
theorem bMy{s x:List UInt8}:(Lib.cut s x).2.1.length≤s.length:=by
 unfold Lib.cut
 split
 ·simp
 ·simp
theorem bVm{s:List UInt8}(h:s.length≤90000){base:Nat}:FV Tp 39 [.p (aC s)] base (.tup [.p (aB (paM s).1),.p (aB (paM s).2)]) []:=cFe (by omega) (iG bMy (by omega))
end
section

theorem pZ(k:Int)(h:within k 0 4=true){base:Nat}:FV Tp 36 [.p (aB k)] base (.tup [.p (bO (aK k)),.p (aB (aN k)),.p (aB 0)]) []:=bNf h
theorem mI(s:List UInt8)(h:s.length≤65536){base:Nat}:FV Tp 30 [.p (aC s)] base (.tup [.p (aB (bN s)),.p (aB 0)]) []:=bWt h
theorem qA(s:List UInt8)(h:65536<s.length){base:Nat}:FV Tp 30 [.p (aC s)] base (.tup [.p (aB 0),.p (aB 10)]) []:=bNs h
theorem aAp(s:List UInt8)(h:s.length≤65536){base:Nat}:FV Tp 41 [.p (aC s)] base (.tup [.p (aB (bN s)),.p (aB 0)]) []:=bNi h
theorem bMv(s:List UInt8)(h:s.length≤90000){base:Nat}:FV Tp 39 [.p (aC s)] base (.tup [.p (aB (paM s).1),.p (aB (paM s).2)]) []:=bVm h
theorem bGz(s:List UInt8)(h:s.length≤90000){base:Nat}:FV Tp 40 [.p (aC s)] base (.tup [.p (aB (paM s).1),.p (aB (paM s).2)]) []:=bMx h
def bHa:Prop:=∀ (base:Nat),FV Tp 14 [] base (.p (blP true)) []
end
section
variable {m:Int}{base:Nat}

theorem bZo:FV Tp 187 [(pI m),(.fn 188 [] []),(.fn 120 [] [])] base (.agg [(.fn 224 [] [(.rp [(PV.fn 188 [] [])] 0)]),(.fn 225 [] [(.rp [(PV.fn 120 [] [])] 0)]),(.fn 226 [] [(.rp [(aB m)] 0)])]) []:=FV.fi func187 [] gn
theorem bZp:FV Tp 187 [(pI m),(.fn 39 [] []),(.fn 189 [] [])] base (.agg [(.fn 224 [] [(.rp [(PV.fn 39 [] [])] 0)]),(.fn 225 [] [(.rp [(PV.fn 189 [] [])] 0)]),(.fn 226 [] [(.rp [(aB m)] 0)])]) []:=FV.fi func187 [] gn
theorem bZq:FV Tp 190 [(.fn 191 [] [])] base (.agg [(.fn 227 [] [(.rp [(PV.fn 191 [] [])] 0)]),(.fn 228 [] []),(.fn 229 [] [(.rp [(PV.fn 191 [] [])] 0)])]) []:=FV.fi func190 [] gn
theorem bZr:FV Tp 190 [(.fn 192 [] [])] base (.agg [(.fn 227 [] [(.rp [(PV.fn 192 [] [])] 0)]),(.fn 228 [] []),(.fn 229 [] [(.rp [(PV.fn 192 [] [])] 0)])]) []:=FV.fi func190 [] gn
theorem eT:FV Tp 121 [] base (.agg [(.fn 224 [] [(.rp [(PV.fn 188 [] [])] 0)]),(.fn 225 [] [(.rp [(PV.fn 120 [] [])] 0)]),(.fn 226 [] [(.rp [(aB 999999)] 0)]),(.fn 224 [] [(.rp [(PV.fn 39 [] [])] 0)]),(.fn 225 [] [(.rp [(PV.fn 189 [] [])] 0)]),(.fn 226 [] [(.rp [(aB 360000)] 0)]),(.fn 227 [] [(.rp [(PV.fn 191 [] [])] 0)]),(.fn 228 [] []),(.fn 229 [] [(.rp [(PV.fn 191 [] [])] 0)]),(.fn 227 [] [(.rp [(PV.fn 192 [] [])] 0)]),(.fn 228 [] []),(.fn 229 [] [(.rp [(PV.fn 192 [] [])] 0)])]) []:=have k1:=fk 1 (bZo (m:=(999999:Int))) rfl;have k2:=fk 1 (bZp (m:=(360000:Int))) rfl;have k3:=fk 1 bZq rfl;have k4:=fk 1 bZr rfl;FV.fi func121 [k1.o,k2.o,k3.o,k4.o] (gc k4 (gc k3 (gc k2 (gc k1 gn))))
end
section
variable {r0:Bool}{a m hi lo r1:Int}{i i' Av base:Nat}

noncomputable abbrev oZ:Code:=sub (cd Tryz.f281) [1,0,1,0,0]
theorem bYf{x:UInt8}(h0:(x.toNat:Int)=120):FV Tp 231 [(.p (.v (.int .u8 (x.toNat:Int))))] base (pB true) []:=FV.fi func231 [bT,bT,bT] (Ap (cP h0) gn)
theorem bYg{x:UInt8}(h0:(x.toNat:Int)≠120)(Ao:r0=((x.toNat:Int) == 111)):FV Tp 231 [(.p (.v (.int .u8 (x.toNat:Int))))] base (pB r0) []:=by
 subst Ao;exact FV.fi func231 [bF,bF,bF] (Ap (bA h0) gn)
theorem bYh{x:UInt8}(h0:(97:Int)≤(x.toNat:Int))(Ao:r0=(decide ((x.toNat:Int)≤122))):FV Tp 232 [(.p (.v (.int .u8 (x.toNat:Int))))] base (pB r0) []:=by
 subst Ao;exact FV.fi func232 [bT,bT,bT] (Ap (gO h0) gn)
theorem bYi{x:UInt8}(h0:(x.toNat:Int)<97):FV Tp 232 [(.p (.v (.int .u8 (x.toNat:Int))))] base (pB false) []:=FV.fi func232 [bF,bF,bF] (Ap (eQ h0) gn)
def isr(x:UInt8):Bool:=decide ((x.toNat:Int)=120) || ((x.toNat:Int) == 111)
theorem bYj(x:UInt8){base:Nat}:FV Tp 231 [.p (.v (.int .u8 (x.toNat:Int)))] base (pB (isr x)) []:=by
 by_cases h:(x.toNat:Int)=120
 ·have e:isr x=true:=by simp only [isr,h,decide_true,Bool.true_or]
  rw [e];exact bYf h
 ·exact bYg h (by simp [isr,h])
def isl(x:UInt8):Bool:=decide ((97:Int)≤(x.toNat:Int)) && decide ((x.toNat:Int)≤122)
theorem bYk(x:UInt8){base:Nat}:FV Tp 232 [.p (.v (.int .u8 (x.toNat:Int)))] base (pB (isl x)) []:=by
 by_cases h:(97:Int)≤(x.toNat:Int)
 ·exact bYh h (by simp [isl,h])
 ·have e:isl x=false:=by simp only [isl,h,decide_false,Bool.false_and]
  rw [e];exact bYi (by omega)
theorem bOm{x:UInt8}(Ao:r0=(!(isr x))):FMM Tp 239 [(.p (.v (.int .u8 (x.toNat:Int)))),(.ptr 0 0)] [some (.box 289 [(.fn 231 [] [])])] (pB r0) [some (.box 289 [(.fn 231 [] [])])]:=by
 subst Ao;exact FMM.fi 1 gE func239 [.c (pB (isr x)) []] (gc (fk 1 (bYj x) rfl) gn)
theorem aSn(x:UInt8):FMM Tp 239 [.p (.v (.int .u8 (x.toNat:Int))),.ptr 0 0] [some (.box 289 [(.fn 231 [] [])])] (pB (!(isr x))) [some (.box 289 [(.fn 231 [] [])])]:=bOm rfl
def fZ(l:List UInt8)(i:Nat):St:=⟨fr 19 [(0,(.p (.sl l.length (l.map dO)))),(1,(.fn 239 [] [(.ptr 0 0)])),(7,(pI (l.length:Int))),(8,(pI (i:Int)))],[some (.box 289 [(.fn 231 [] [])])]⟩
theorem bOn{l:List UInt8}(A2:aE Tp 1 oZ (fZ l 0) (.exit 0) (fZ l Av)):FMM Tp 281 [(.p (.sl l.length (l.map dO))),(.fn 239 [] [(.ptr 0 0)])] [some (.box 289 [(.fn 231 [] [])])] (pI (-1)) [some (.box 289 [(.fn 231 [] [])])]:=FMM.fi 1 gE func281 [A2.k 6 (gZ ca)] (gc A2.code gn)
theorem bOo{l:List UInt8}(A2:aE Tp 1 oZ (fZ l 0) .ret (bS (fZ l Av) [(4,(pI (Av:Int)))])):FMM Tp 281 [(.p (.sl l.length (l.map dO))),(.fn 239 [] [(.ptr 0 0)])] [some (.box 289 [(.fn 231 [] [])])] (pI (Av:Int)) [some (.box 289 [(.fn 231 [] [])])]:=FMM.fi 1 gE func281 [A2.k 6 (gZ ca)] (gc A2.code gn)
section
variable{l:List UInt8}{Ab:UInt8}(h0:(i:Int)<(l.length:Int))(h1:l[i]? = some Ab)
include h0 h1
theorem aPi(h2:(isr Ab)=false):aA Tp 1 oZ (fZ l i) .ret (bS (fZ l i) [(4,(pI (i:Int)))]):=have k1:=mq [0] 1 (aSn Ab);aA.fi (gZ bp) [bT,.x (.v (.int .u8 (Ab.toNat:Int))),k1.o,bT] (gc (cN h2) (gc k1 (gc (atm dO h1) (gc (ixn dO h1) (g0 h0)))))
theorem aPj(h2:(isr Ab)=true)(h3:cq i)(Ai:i'=(i+1)):aA Tp 1 oZ (fZ l i) .normal (fZ l i'):=by
 subst Ai;have k1:=mq [0] 1 (aSn Ab);exact aA.fi (gZ ca) [bT,.x (.v (.int .u8 (Ab.toNat:Int))),k1.o,bF] (gc h3 (gc (aO h2) (gc k1 (gc (atm dO h1) (gc (ixn dO h1) (g0 h0))))))
end
theorem aPk{l:List UInt8}(h0:(l.length:Int)≤(i:Int)):aA Tp 1 oZ (fZ l i) (.exit 0) (fZ l i):=aA.fi (gZ ca) [bF] (gc (aJ h0) gn)
theorem bOp(l:List UInt8)(hl:l.length≤100000):FMM Tp 281 [.p (.sl l.length (l.map dO)),(.fn 239 [] [(.ptr 0 0)])] [some (.box 289 [(.fn 231 [] [])])] (pI (nN (fun x => !(isr x)) l)) [some (.box 289 [(.fn 231 [] [])])]:=by
 rcases aE.find (P:=Tp) (k:=1) (b:=oZ) (fun i=>fZ l i) (fun i _=>bS (fZ l i) [(4,.p (aB (i:Int)))]) (fZ l l.length) .ret (.exit 0) (by simp) (by simp) (fun x => !(isr x)) l
  (fun i x hx hp=>aPj (by have:=bG hx;omega) hx (by simpa using hp) (aL (by have:=bG hx;omega)) rfl)
  (fun i x hx hp=>aPi (by have:=bG hx;omega) hx (by simpa using hp))
  (aPk (l:=l) (i:=l.length) (by omega)) with ⟨i,x,h1,h2,h3,h4⟩ | ⟨h1,h2,h3⟩
 ·rw [jK h2];exact bOo h4
 ·rw [jL h1];exact bOn h3
theorem bOq{l:List UInt8}(h0:l.length≤100000)(Ao:r0=(decide ((nN (fun x => !(isr x)) l) ≥ 0))):FMM Tp 238 [(.p (.sl l.length (l.map dO))),(.fn 239 [] [(.ptr 0 0)])] [some (.box 289 [(.fn 231 [] [])])] (pB r0) [some (.box 289 [(.fn 231 [] [])])]:=by
 subst Ao;have k1:=mq [0] 1 (bOp l h0);exact FMM.fi 1 gE func238 [k1.o] (gc k1 gn)
theorem bOr(l:List UInt8)(hl:l.length≤100000):FMM Tp 238 [.p (.sl l.length (l.map dO)),(.fn 239 [] [(.ptr 0 0)])] [some (.box 289 [(.fn 231 [] [])])] (pB (l.any (fun x => !(isr x)))) [some (.box 289 [(.fn 231 [] [])])]:=bOq hl (lQ _ _).symm
theorem bOs{l:List UInt8}(h0:l.length≤100000)(Ao:r0=(!(l.any (fun x => !(isr x))))):FV Tp 196 [(.p (.sl l.length (l.map dO))),(.fn 231 [] [])] base (pB r0) []:=by
 subst Ao;have k1:=mq [0] 1 (bOr l h0);exact FV.fi func196 [k1.o] (gc k1 gn)
theorem bOt(l:List UInt8)(hl:l.length≤100000){base:Nat}:FV Tp 196 [.p (.sl l.length (l.map dO)),(.fn 231 [] [])] base (pB (l.all isr)) []:=bOs hl (by rw [List.all_eq_not_any_not])
theorem bOu{x:UInt8}(Ao:r0=(!(isl x))):FMM Tp 239 [(.p (.v (.int .u8 (x.toNat:Int)))),(.ptr 0 0)] [some (.box 289 [(.fn 232 [] [])])] (pB r0) [some (.box 289 [(.fn 232 [] [])])]:=by
 subst Ao;exact FMM.fi 1 gE func239 [.c (pB (isl x)) []] (gc (fk 1 (bYk x) rfl) gn)
theorem aSo(x:UInt8):FMM Tp 239 [.p (.v (.int .u8 (x.toNat:Int))),.ptr 0 0] [some (.box 289 [(.fn 232 [] [])])] (pB (!(isl x))) [some (.box 289 [(.fn 232 [] [])])]:=bOu rfl
def gA(l:List UInt8)(i:Nat):St:=⟨fr 19 [(0,(.p (.sl l.length (l.map dO)))),(1,(.fn 239 [] [(.ptr 0 0)])),(7,(pI (l.length:Int))),(8,(pI (i:Int)))],[some (.box 289 [(.fn 232 [] [])])]⟩
theorem bOv{l:List UInt8}(A2:aE Tp 1 oZ (gA l 0) (.exit 0) (gA l Av)):FMM Tp 281 [(.p (.sl l.length (l.map dO))),(.fn 239 [] [(.ptr 0 0)])] [some (.box 289 [(.fn 232 [] [])])] (pI (-1)) [some (.box 289 [(.fn 232 [] [])])]:=FMM.fi 1 gE func281 [A2.k 6 (gZ ca)] (gc A2.code gn)
theorem bOw{l:List UInt8}(A2:aE Tp 1 oZ (gA l 0) .ret (bS (gA l Av) [(4,(pI (Av:Int)))])):FMM Tp 281 [(.p (.sl l.length (l.map dO))),(.fn 239 [] [(.ptr 0 0)])] [some (.box 289 [(.fn 232 [] [])])] (pI (Av:Int)) [some (.box 289 [(.fn 232 [] [])])]:=FMM.fi 1 gE func281 [A2.k 6 (gZ ca)] (gc A2.code gn)
section
variable{l:List UInt8}{Ab:UInt8}(h0:(i:Int)<(l.length:Int))(h1:l[i]? = some Ab)
include h0 h1
theorem aPl(h2:(isl Ab)=false):aA Tp 1 oZ (gA l i) .ret (bS (gA l i) [(4,(pI (i:Int)))]):=have k1:=mq [0] 1 (aSo Ab);aA.fi (gZ bp) [bT,.x (.v (.int .u8 (Ab.toNat:Int))),k1.o,bT] (gc (cN h2) (gc k1 (gc (atm dO h1) (gc (ixn dO h1) (g0 h0)))))
theorem aPm(h2:(isl Ab)=true)(h3:cq i)(Ai:i'=(i+1)):aA Tp 1 oZ (gA l i) .normal (gA l i'):=by
 subst Ai;have k1:=mq [0] 1 (aSo Ab);exact aA.fi (gZ ca) [bT,.x (.v (.int .u8 (Ab.toNat:Int))),k1.o,bF] (gc h3 (gc (aO h2) (gc k1 (gc (atm dO h1) (gc (ixn dO h1) (g0 h0))))))
end
theorem aPn{l:List UInt8}(h0:(l.length:Int)≤(i:Int)):aA Tp 1 oZ (gA l i) (.exit 0) (gA l i):=aA.fi (gZ ca) [bF] (gc (aJ h0) gn)
theorem bOx(l:List UInt8)(hl:l.length≤100000):FMM Tp 281 [.p (.sl l.length (l.map dO)),(.fn 239 [] [(.ptr 0 0)])] [some (.box 289 [(.fn 232 [] [])])] (pI (nN (fun x => !(isl x)) l)) [some (.box 289 [(.fn 232 [] [])])]:=by
 rcases aE.find (P:=Tp) (k:=1) (b:=oZ) (fun i=>gA l i) (fun i _=>bS (gA l i) [(4,.p (aB (i:Int)))]) (gA l l.length) .ret (.exit 0) (by simp) (by simp) (fun x => !(isl x)) l
  (fun i x hx hp=>aPm (by have:=bG hx;omega) hx (by simpa using hp) (aL (by have:=bG hx;omega)) rfl)
  (fun i x hx hp=>aPl (by have:=bG hx;omega) hx (by simpa using hp))
  (aPn (l:=l) (i:=l.length) (by omega)) with ⟨i,x,h1,h2,h3,h4⟩ | ⟨h1,h2,h3⟩
 ·rw [jK h2];exact bOw h4
 ·rw [jL h1];exact bOv h3
theorem bOy{l:List UInt8}(h0:l.length≤100000)(Ao:r0=(decide ((nN (fun x => !(isl x)) l) ≥ 0))):FMM Tp 238 [(.p (.sl l.length (l.map dO))),(.fn 239 [] [(.ptr 0 0)])] [some (.box 289 [(.fn 232 [] [])])] (pB r0) [some (.box 289 [(.fn 232 [] [])])]:=by
 subst Ao;have k1:=mq [0] 1 (bOx l h0);exact FMM.fi 1 gE func238 [k1.o] (gc k1 gn)
theorem bOz(l:List UInt8)(hl:l.length≤100000):FMM Tp 238 [.p (.sl l.length (l.map dO)),(.fn 239 [] [(.ptr 0 0)])] [some (.box 289 [(.fn 232 [] [])])] (pB (l.any (fun x => !(isl x)))) [some (.box 289 [(.fn 232 [] [])])]:=bOy hl (lQ _ _).symm
theorem bPa{l:List UInt8}(h0:l.length≤100000)(Ao:r0=(!(l.any (fun x => !(isl x))))):FV Tp 196 [(.p (.sl l.length (l.map dO))),(.fn 232 [] [])] base (pB r0) []:=by
 subst Ao;have k1:=mq [0] 1 (bOz l h0);exact FV.fi func196 [k1.o] (gc k1 gn)
theorem bPb(l:List UInt8)(hl:l.length≤100000){base:Nat}:FV Tp 196 [.p (.sl l.length (l.map dO)),(.fn 232 [] [])] base (pB (l.all isl)) []:=bPa hl (by rw [List.all_eq_not_any_not])
theorem bYl{s:List UInt8}(h0:(within (s.length:Int) lo hi)=true)(h1:s.length≤1000000000)(h2:s.length≤100000)(Ao:r0=(s.all isr)):FV Tp 230 [(.p (aC s)),(pI lo),(pI hi),(.fn 231 [] [])] base (pB r0) []:=by
 subst Ao;have k1:=fk 0 (mP (s.length:Int) lo hi) rfl;exact FV.fi func230 [k1.o,bT,bT,bT,bT,.c (pB (s.all isr)) [],bT] (gc h0 (gc (fk 0 (bOt s h2) rfl) (Au h0 (gc h1 (Au h0 (gc k1 gn))))))
theorem bYm{s:List UInt8}(h0:(within (s.length:Int) lo hi)=false):FV Tp 230 [(.p (aC s)),(pI lo),(pI hi),(.fn 231 [] [])] base (pB false) []:=have k1:=fk 0 (mP (s.length:Int) lo hi) rfl;FV.fi func230 ([k1.o]++rF 5) (B5 h0 (gc k1 gn))
theorem bYn{s:List UInt8}(h0:(within (s.length:Int) lo hi)=true)(h1:s.length≤1000000000)(h2:s.length≤100000)(Ao:r0=(s.all isl)):FV Tp 230 [(.p (aC s)),(pI lo),(pI hi),(.fn 232 [] [])] base (pB r0) []:=by
 subst Ao;have k1:=fk 0 (mP (s.length:Int) lo hi) rfl;exact FV.fi func230 [k1.o,bT,bT,bT,bT,.c (pB (s.all isl)) [],bT] (gc h0 (gc (fk 0 (bPb s h2) rfl) (Au h0 (gc h1 (Au h0 (gc k1 gn))))))
theorem bYo{s:List UInt8}(h0:(within (s.length:Int) lo hi)=false):FV Tp 230 [(.p (aC s)),(pI lo),(pI hi),(.fn 232 [] [])] base (pB false) []:=have k1:=fk 0 (mP (s.length:Int) lo hi) rfl;FV.fi func230 ([k1.o]++rF 5) (B5 h0 (gc k1 gn))
def kQ(s:List UInt8):Bool:=within (s.length:Int) 5 8 && s.all isr
def kR(s:List UInt8):Bool:=within (s.length:Int) 1 12 && s.all isl
theorem bYp(s:List UInt8)(lo hi:Int)(h:hi≤100000){base:Nat}:FV Tp 230 [.p (aC s),.p (aB lo),.p (aB hi),.fn 231 [] []] base (pB (within (s.length:Int) lo hi && s.all isr)) []:=by
 by_cases q:within (s.length:Int) lo hi=true
 ·have:=dF.1 q
  exact bYl q (by omega) (by omega) (by rw [q,aJr])
 ·have e:within (s.length:Int) lo hi=false:=by simpa using q
  rw [e,Bool.false_and];exact bYm e
theorem bYq(s:List UInt8)(lo hi:Int)(h:hi≤100000){base:Nat}:FV Tp 230 [.p (aC s),.p (aB lo),.p (aB hi),.fn 232 [] []] base (pB (within (s.length:Int) lo hi && s.all isl)) []:=by
 by_cases q:within (s.length:Int) lo hi=true
 ·have:=dF.1 q
  exact bYn q (by omega) (by omega) (by rw [q,aJr])
 ·have e:within (s.length:Int) lo hi=false:=by simpa using q
  rw [e,Bool.false_and];exact bYo e
theorem bYr{s:List UInt8}(h0:(8:Int)≤100000)(Ao:r0=(within (s.length:Int) 5 8 && s.all isr)):FV Tp 191 [(.p (aC s))] base (pB r0) []:=by
 subst Ao;have k1:=fk 0 (bYp s 5 8 h0) rfl;exact FV.fi func191 [k1.o] (gc k1 gn)
theorem bYs{s:List UInt8}(h0:(12:Int)≤100000)(Ao:r0=(within (s.length:Int) 1 12 && s.all isl)):FV Tp 192 [(.p (aC s))] base (pB r0) []:=by
 subst Ao;have k1:=fk 0 (bYq s 1 12 h0) rfl;exact FV.fi func192 [k1.o] (gc k1 gn)
theorem aGs(s:List UInt8){base:Nat}:FV Tp 191 [.p (aC s)] base (pB (kQ s)) []:=bYr (by omega) rfl
theorem aGt(s:List UInt8){base:Nat}:FV Tp 192 [.p (aC s)] base (pB (kR s)) []:=bYs (by omega) rfl
theorem bYt{s:List UInt8}{r0:Int}(h0:0≤(999999:Int)∧(999999:Int)≤1000000000)(Ao:r0=((bK s 999999).1))(Ee:r1=((bK s 999999).2)):FV Tp 188 [(.p (aC s))] base (.tup [(pI r0),(pI r1)]) []:=by
 subst Ao Ee;have k1:=fk 0 (gK s 999999 h0) rfl;exact FV.fi func188 [k1.o] (gc k1 gn)
theorem bYu(s:List UInt8){base:Nat}:FV Tp 188 [.p (aC s)] base (.tup [.p (aB (bK s 999999).1),.p (aB (bK s 999999).2)]) []:=bYt (by omega) rfl rfl
theorem bYv{n:Int}:FV Tp 189 [(pI n)] base (.p (aC ((ptM n).1))) []:=have k1:=fk 0 (cFd n) rfl;FV.fi func189 [k1.o] (gc k1 gn)
theorem bYw(n:Int){base:Nat}:FV Tp 189 [.p (aB n)] base (.p (aC (ptM n).1)) []:=bYv
theorem bYx{s:List UInt8}{r0:Int}(Ao:r0=((bK s 999999).1))(Ee:r1=((bK s 999999).2)):FV Tp 224 [(.p (aC s)),(.rp [(PV.fn 188 [] [])] 0)] base (.tup [(.p (.agg [(aB r0),(aC ([]:List UInt8))])),(pI r1)]) []:=by
 subst Ao Ee;have k1:=fk 1 (bYu s) rfl;exact FV.fi func224 [.x (PV.fn 188 [] []),k1.o] (gc k1 (gr (PV.fn 188 [] []) gn))
theorem bYy{s:List UInt8}{r0:Int}(h0:s.length≤90000)(Ao:r0=((paM s).1))(Ee:r1=((paM s).2)):FV Tp 224 [(.p (aC s)),(.rp [(PV.fn 39 [] [])] 0)] base (.tup [(.p (.agg [(aB r0),(aC ([]:List UInt8))])),(pI r1)]) []:=by
 subst Ao Ee;have k1:=fk 1 (bMv s h0) rfl;exact FV.fi func224 [.x (PV.fn 39 [] []),k1.o] (gc k1 (gr (PV.fn 39 [] []) gn))
theorem bYz{z:List UInt8}(h0:inR a):FV Tp 225 [(.p (.agg [(aB a),(aC z)])),(.rp [(PV.fn 120 [] [])] 0)] base (.p (aC (Lib.itoa a))) []:=have k1:=fk 1 (dJ a h0) rfl;FV.fi func225 [.x (PV.fn 120 [] []),k1.o] (gc k1 (gr (PV.fn 120 [] []) gn))
theorem bZa{z:List UInt8}:FV Tp 225 [(.p (.agg [(aB a),(aC z)])),(.rp [(PV.fn 189 [] [])] 0)] base (.p (aC ((ptM a).1))) []:=have k1:=fk 1 (bYw a) rfl;FV.fi func225 [.x (PV.fn 189 [] []),k1.o] (gc k1 (gr (PV.fn 189 [] []) gn))
theorem bHq{z:List UInt8}(h0:(within a 0 m)=false):FV Tp 226 [(.p (.agg [(aB a),(aC z)])),(.rp [(aB m)] 0)] base (pI 3) []:=have k1:=fk 1 (mP a 0 m) rfl;FV.fi func226 [.x (aB m),k1.o,bT] (gc (cN h0) (gc k1 (gr (aB m) gn)))
theorem bHr{z:List UInt8}(h0:(within a 0 m)=true)(h1:z≠([]:List UInt8)):FV Tp 226 [(.p (.agg [(aB a),(aC z)])),(.rp [(aB m)] 0)] base (pI 11) []:=have k1:=fk 1 (mP a 0 m) rfl;FV.fi func226 [.x (aB m),k1.o,bF,bT] (gc (cN (decide_eq_false h1)) (gc (aO h0) (gc k1 (gr (aB m) gn))))
theorem bHs{z:List UInt8}(h0:(within a 0 m)=true)(h1:z=([]:List UInt8)):FV Tp 226 [(.p (.agg [(aB a),(aC z)])),(.rp [(aB m)] 0)] base (pI 0) []:=have k1:=fk 1 (mP a 0 m) rfl;FV.fi func226 [.x (aB m),k1.o,bF,bF] (gc (aO (decide_eq_true h1)) (gc (aO h0) (gc k1 (gr (aB m) gn))))
theorem bZb{s:List UInt8}(h0:(kQ s)=false):FV Tp 227 [(.p (aC s)),(.rp [(PV.fn 191 [] [])] 0)] base (.tup [(.p (.agg [(aB 0),(aC ([]:List UInt8))])),(pI 11)]) []:=FV.fi func227 [.x (PV.fn 191 [] []),.c (pB (kQ s)) [],bT] (gc (cN h0) (gc (fk 1 (aGs s) rfl) (gr (PV.fn 191 [] []) gn)))
theorem bZc{s:List UInt8}(h0:(kQ s)=true):FV Tp 227 [(.p (aC s)),(.rp [(PV.fn 191 [] [])] 0)] base (.tup [(.p (.agg [(aB 0),(aC s)])),(pI 0)]) []:=FV.fi func227 [.x (PV.fn 191 [] []),.c (pB (kQ s)) [],bF] (gc (aO h0) (gc (fk 1 (aGs s) rfl) (gr (PV.fn 191 [] []) gn)))
theorem bZd{s:List UInt8}(h0:(kR s)=false):FV Tp 227 [(.p (aC s)),(.rp [(PV.fn 192 [] [])] 0)] base (.tup [(.p (.agg [(aB 0),(aC ([]:List UInt8))])),(pI 11)]) []:=FV.fi func227 [.x (PV.fn 192 [] []),.c (pB (kR s)) [],bT] (gc (cN h0) (gc (fk 1 (aGt s) rfl) (gr (PV.fn 192 [] []) gn)))
theorem bZe{s:List UInt8}(h0:(kR s)=true):FV Tp 227 [(.p (aC s)),(.rp [(PV.fn 192 [] [])] 0)] base (.tup [(.p (.agg [(aB 0),(aC s)])),(pI 0)]) []:=FV.fi func227 [.x (PV.fn 192 [] []),.c (pB (kR s)) [],bF] (gc (aO h0) (gc (fk 1 (aGt s) rfl) (gr (PV.fn 192 [] []) gn)))
theorem bZf{z:List UInt8}:FV Tp 228 [(.p (.agg [(aB a),(aC z)]))] base (.p (aC z)) []:=FV.fi func228 [] gn
theorem bZg{z:List UInt8}(h0:a≠0):FV Tp 229 [(.p (.agg [(aB a),(aC z)])),(.rp [(PV.fn 191 [] [])] 0)] base (pI 11) []:=FV.fi func229 (rT 6) (Fb (cL h0) gn)
theorem bZh{z:List UInt8}(h0:a=0)(h1:(kQ z)=false):FV Tp 229 [(.p (.agg [(aB a),(aC z)])),(.rp [(PV.fn 191 [] [])] 0)] base (pI 11) []:=FV.fi func229 [bF,.x (PV.fn 191 [] []),bF,bF,bF,.c (pB (kQ z)) [],bF,bF,bT] (gc (cN h1) (Au (bD h0) (gc (fk 1 (aGs z) rfl) (Ap (bD h0) (gr (PV.fn 191 [] []) (gc (bD h0) gn))))))
theorem bZi{z:List UInt8}(h0:a=0)(h1:(kQ z)=true):FV Tp 229 [(.p (.agg [(aB a),(aC z)])),(.rp [(PV.fn 191 [] [])] 0)] base (pI 0) []:=FV.fi func229 [bF,.x (PV.fn 191 [] []),bF,bF,bF,.c (pB (kQ z)) [],bF,bF,bF] (gc (aO h1) (Au (bD h0) (gc (fk 1 (aGs z) rfl) (Ap (bD h0) (gr (PV.fn 191 [] []) (gc (bD h0) gn))))))
theorem bZj{z:List UInt8}(h0:a≠0):FV Tp 229 [(.p (.agg [(aB a),(aC z)])),(.rp [(PV.fn 192 [] [])] 0)] base (pI 11) []:=FV.fi func229 (rT 6) (Fb (cL h0) gn)
theorem bZk{z:List UInt8}(h0:a=0)(h1:(kR z)=false):FV Tp 229 [(.p (.agg [(aB a),(aC z)])),(.rp [(PV.fn 192 [] [])] 0)] base (pI 11) []:=FV.fi func229 [bF,.x (PV.fn 192 [] []),bF,bF,bF,.c (pB (kR z)) [],bF,bF,bT] (gc (cN h1) (Au (bD h0) (gc (fk 1 (aGt z) rfl) (Ap (bD h0) (gr (PV.fn 192 [] []) (gc (bD h0) gn))))))
theorem bZl{z:List UInt8}(h0:a=0)(h1:(kR z)=true):FV Tp 229 [(.p (.agg [(aB a),(aC z)])),(.rp [(PV.fn 192 [] [])] 0)] base (pI 0) []:=FV.fi func229 [bF,.x (PV.fn 192 [] []),bF,bF,bF,.c (pB (kR z)) [],bF,bF,bF] (gc (aO h1) (Au (bD h0) (gc (fk 1 (aGt z) rfl) (Ap (bD h0) (gr (PV.fn 192 [] []) (gc (bD h0) gn))))))
abbrev Cel:=Int × List UInt8
def cE(c:Cel):List PV:=[aB c.1,aC c.2]
def rdM(j:Int)(s:List UInt8):Cel × Int:=if j=0 then (((bK s 999999).1,[]),(bK s 999999).2) else if j=1 then (((paM s).1,[]),(paM s).2) else if (if j=2 then kQ s else kR s)=true then ((0,s),0) else ((0,[]),11)
def wrM(j:Int)(c:Cel):List UInt8:=if j=0 then Lib.itoa c.1 else if j=1 then (ptM c.1).1 else c.2
def ckM(j:Int)(c:Cel):Int:=if j=0∨j=1 then (if within c.1 0 (if j=0 then 999999 else 360000)=false then 3 else if c.2≠[] then 11 else 0) else if c.1≠0∨(if j=2 then kQ c.2 else kR c.2)=false then 11 else 0
theorem bHt(s:List UInt8){base:Nat}:FV Tp 224 [.p (aC s),.rp [PV.fn 188 [] []] 0] base (.tup [.p (.agg [aB (rdM 0 s).1.1,aC (rdM 0 s).1.2]),.p (aB (rdM 0 s).2)]) []:=bYx rfl rfl
theorem bHu(s:List UInt8)(h:s.length≤90000){base:Nat}:FV Tp 224 [.p (aC s),.rp [PV.fn 39 [] []] 0] base (.tup [.p (.agg [aB (rdM 1 s).1.1,aC (rdM 1 s).1.2]),.p (aB (rdM 1 s).2)]) []:=bYy h rfl rfl
theorem bHv(s:List UInt8){base:Nat}:FV Tp 227 [.p (aC s),.rp [PV.fn 191 [] []] 0] base (.tup [.p (.agg [aB (rdM 2 s).1.1,aC (rdM 2 s).1.2]),.p (aB (rdM 2 s).2)]) []:=by
 by_cases h:kQ s=true
 ·have e:rdM 2 s=((0,s),0):=by simp [rdM,h]
  rw [e];exact bZc h
 ·have e:rdM 2 s=((0,[]),11):=by simp [rdM,h]
  rw [e];exact bZb (by simpa using h)
theorem bHw(s:List UInt8){base:Nat}:FV Tp 227 [.p (aC s),.rp [PV.fn 192 [] []] 0] base (.tup [.p (.agg [aB (rdM 3 s).1.1,aC (rdM 3 s).1.2]),.p (aB (rdM 3 s).2)]) []:=by
 by_cases h:kR s=true
 ·have e:rdM 3 s=((0,s),0):=by simp [rdM,h]
  rw [e];exact bZe h
 ·have e:rdM 3 s=((0,[]),11):=by simp [rdM,h]
  rw [e];exact bZd (by simpa using h)
theorem bZm(a:Int)(z:List UInt8)(h:inR a){base:Nat}:FV Tp 225 [.p (.agg [aB a,aC z]),.rp [PV.fn 120 [] []] 0] base (.p (aC (wrM 0 (a,z)))) []:=bYz h
theorem bZn(a:Int)(z:List UInt8){base:Nat}:FV Tp 225 [.p (.agg [aB a,aC z]),.rp [PV.fn 189 [] []] 0] base (.p (aC (wrM 1 (a,z)))) []:=bZa
theorem bHx(a:Int)(z:List UInt8){base:Nat}:FV Tp 228 [.p (.agg [aB a,aC z])] base (.p (aC (wrM 2 (a,z)))) []:=bZf
theorem bHy(a:Int)(z:List UInt8){base:Nat}:FV Tp 226 [.p (.agg [aB a,aC z]),.rp [aB 999999] 0] base (pI (ckM 0 (a,z))) []:=by
 by_cases h:within a 0 999999=true
 ·by_cases h2:z=[]
  ·have e:ckM 0 (a,z)=0:=by simp [ckM,h,h2]
   rw [e];exact bHs h h2
  ·have e:ckM 0 (a,z)=11:=by simp [ckM,h,h2]
   rw [e];exact bHr h h2
 ·have e:ckM 0 (a,z)=3:=by simp [ckM,h]
  rw [e];exact bHq (by simpa using h)
theorem bHz(a:Int)(z:List UInt8){base:Nat}:FV Tp 226 [.p (.agg [aB a,aC z]),.rp [aB 360000] 0] base (pI (ckM 1 (a,z))) []:=by
 by_cases h:within a 0 360000=true
 ·by_cases h2:z=[]
  ·have e:ckM 1 (a,z)=0:=by simp [ckM,h,h2]
   rw [e];exact bHs h h2
  ·have e:ckM 1 (a,z)=11:=by simp [ckM,h,h2]
   rw [e];exact bHr h h2
 ·have e:ckM 1 (a,z)=3:=by simp [ckM,h]
  rw [e];exact bHq (by simpa using h)
theorem bIa(a:Int)(z:List UInt8){base:Nat}:FV Tp 229 [.p (.agg [aB a,aC z]),.rp [PV.fn 191 [] []] 0] base (pI (ckM 2 (a,z))) []:=by
 by_cases h:a=0
 ·by_cases h2:kQ z=true
  ·have e:ckM 2 (a,z)=0:=by simp [ckM,h,h2]
   rw [e];exact bZi h h2
  ·have e:ckM 2 (a,z)=11:=by simp [ckM,h2]
   rw [e];exact bZh h (by simpa using h2)
 ·have e:ckM 2 (a,z)=11:=by simp [ckM,h]
  rw [e];exact bZg h
theorem bIb(a:Int)(z:List UInt8){base:Nat}:FV Tp 229 [.p (.agg [aB a,aC z]),.rp [PV.fn 192 [] []] 0] base (pI (ckM 3 (a,z))) []:=by
 by_cases h:a=0
 ·by_cases h2:kR z=true
  ·have e:ckM 3 (a,z)=0:=by simp [ckM,h,h2]
   rw [e];exact bZl h h2
  ·have e:ckM 3 (a,z)=11:=by simp [ckM,h2]
   rw [e];exact bZk h (by simpa using h2)
 ·have e:ckM 3 (a,z)=11:=by simp [ckM,h]
  rw [e];exact bZj h
end
section
section
variable {α:Type} {E:α→List PV} {k:Nat}
theorem rL(hE:∀ a,(E a).length=k)(l:List α):((l.map E).flatten).length=l.length*k:=by
 induction l with
 | nil=>simp
 | cons a l ih=>rw [kN,vS,gR,hE,ih,fQ,Nat.succ_mul];omega
theorem wC(hE:∀ a,(E a).length=k){l:List α}{i:Nat}{e:α}(h:l[i]? = some e):∃ a b,(l.map E).flatten=a++(E e++b)∧a.length=i*k:=by
 obtain ⟨hi,rfl⟩:=Cq.1 h;refine ⟨((l.take i).map E).flatten,((l.drop (i+1)).map E).flatten,?_,?_⟩
 ·have:l=l.take i++(l[i]::l.drop (i+1)):=by rw [← bGb hi,aNr]
  have e2:=congrArg (fun l=>(l.map E).flatten) this
  simp only [vT,kN,bMk,vS] at e2
  exact e2
 ·rw [rL hE,uM];congr 1;omega
theorem aQ{l:List α}{i f:Nat}(hE:∀ a,(E a).length=k){e:α}{x:PV}(h:l[i]? = some e)(hx:(E e)[f]? = some x):((l.map E).flatten)[i*k+f]? = some x:=by
 obtain ⟨a,b,e1,e2⟩:=wC hE h;have hf:=(Cq.1 hx).1;rw [e1,← e2,aJp (by omega),Nat.add_sub_cancel_left,aNq hf]
 exact hx
theorem bZ{l:List α}{i:Nat}(hE:∀ a,(E a).length=k){e:α}(h:l[i]? = some e):i*k+k≤((l.map E).flatten).length:=by
 obtain ⟨a,b,e1,e2⟩:=wC hE h;rw [e1,gR,gR,hE,e2];omega
theorem bH{l:List α}{i:Nat}(hE:∀ a,(E a).length=k){e:α}(h:l[i]? = some e){x:PV}(hx:PV.agg (E e)=x):some (.agg ((((l.map E).flatten).drop (i*k)).take k):PV)=some x:=by
 obtain ⟨a,b,e1,e2⟩:=wC hE h;rw [e1,← e2,List.drop_left,List.take_left' (hE e),hx]
theorem bC{l:List α}{i:Int}(hE:∀ a,(E a).length=k)(hk:0<k)(h0:0≤i){e:α}(h:l[i.toNat]? = some e):0≤i∧i<(l.length:Int)∧i.toNat*k<((l.map E).flatten).length:=by
 have hi:=(Cq.1 h).1;refine ⟨h0,by omega,?_⟩
 rw [rL hE];exact Nat.mul_lt_mul_of_pos_right hi hk
end
end
section
variable {r0:Bool}{k:Int}{i i' Av base:Nat}

noncomputable abbrev oY:Code:=sub (cd Tryz.f199) [1,0,1,0,0]
def aP(r:List Cel):PV := .sl r.length ((r.map cE).flatten)
abbrev bW(R:List (List Cel)):PV := .sl R.length (R.map aP)
theorem bYa{r:List Cel}(Ao:r0=(decide ((r.length:Int) > 0))):FV Tp 183 [(.p (.sl r.length ((r.map cE).flatten)))] base (pB r0) []:=by
 subst Ao;exact FV.fi func183 [] gn
def El(r:List Cel):Bool:=decide ((r.length:Int) > 0)
theorem bYb(r:List Cel){base:Nat}:FV Tp 183 [.p (.sl r.length ((r.map cE).flatten))] base (pB (El r)) []:=bYa rfl
theorem bNy{x:List Cel}(Ao:r0=(!(El x))):FMM Tp 221 [(.p (.sl x.length ((x.map cE).flatten))),(.ptr 0 0)] [some (.box 229 [(.fn 183 [] [])])] (pB r0) [some (.box 229 [(.fn 183 [] [])])]:=by
 subst Ao;exact FMM.fi 1 gE func221 [.c (pB (El x)) []] (gc (fk 1 (bYb x) rfl) gn)
theorem aSl(x:List Cel)  : FMM Tp 221 [.p (.sl x.length ((x.map cE).flatten)),.ptr 0 0] [some (.box 229 [(.fn 183 [] [])])] (pB (!(El x))) [some (.box 229 [(.fn 183 [] [])])]:=bNy rfl
def fX(l:List (List Cel))(i:Nat):St:=⟨fr 19 [(0,(.p (.sl l.length (l.map aP)))),(1,(.fn 221 [] [(.ptr 0 0)])),(7,(pI (l.length:Int))),(8,(pI (i:Int)))],[some (.box 229 [(.fn 183 [] [])])]⟩
theorem bNz{l:List (List Cel)}(A2:aE Tp 1 oY (fX l 0) (.exit 0) (fX l Av)):FMM Tp 199 [(.p (.sl l.length (l.map aP))),(.fn 221 [] [(.ptr 0 0)])] [some (.box 229 [(.fn 183 [] [])])] (pI (-1)) [some (.box 229 [(.fn 183 [] [])])]:=FMM.fi 1 gE func199 [A2.k 6 (gZ ca)] (gc A2.code gn)
theorem bOa{l:List (List Cel)}(A2:aE Tp 1 oY (fX l 0) .ret (bS (fX l Av) [(4,(pI (Av:Int)))])):FMM Tp 199 [(.p (.sl l.length (l.map aP))),(.fn 221 [] [(.ptr 0 0)])] [some (.box 229 [(.fn 183 [] [])])] (pI (Av:Int)) [some (.box 229 [(.fn 183 [] [])])]:=FMM.fi 1 gE func199 [A2.k 6 (gZ ca)] (gc A2.code gn)
section
variable{l:List (List Cel)}{Ab:List Cel}(h0:(i:Int)<(l.length:Int))(h1:l[i]? = some Ab)
include h0 h1
theorem aPc(h2:(El Ab)=false):aA Tp 1 oY (fX l i) .ret (bS (fX l i) [(4,(pI (i:Int)))]):=have k1:=mq [0] 1 (aSl Ab);aA.fi (gZ bp) [bT,.x (.sl Ab.length ((Ab.map cE).flatten)),k1.o,bT] (gc (cN h2) (gc k1 (gc (atm aP h1) (gc (ixn aP h1) (g0 h0)))))
theorem aPd(h2:(El Ab)=true)(h3:cq i)(Ai:i'=(i+1)):aA Tp 1 oY (fX l i) .normal (fX l i'):=by
 subst Ai;have k1:=mq [0] 1 (aSl Ab);exact aA.fi (gZ ca) [bT,.x (.sl Ab.length ((Ab.map cE).flatten)),k1.o,bF] (gc h3 (gc (aO h2) (gc k1 (gc (atm aP h1) (gc (ixn aP h1) (g0 h0))))))
end
theorem aPe{l:List (List Cel)}(h0:(l.length:Int)≤(i:Int)):aA Tp 1 oY (fX l i) (.exit 0) (fX l i):=aA.fi (gZ ca) [bF] (gc (aJ h0) gn)
theorem bOb(l:List (List Cel))(hl:l.length≤100000):FMM Tp 199 [.p (bW l),(.fn 221 [] [(.ptr 0 0)])] [some (.box 229 [(.fn 183 [] [])])] (pI (nN (fun x => !(El x)) l)) [some (.box 229 [(.fn 183 [] [])])]:=by
 rcases aE.find (P:=Tp) (k:=1) (b:=oY) (fun i=>fX l i) (fun i _=>bS (fX l i) [(4,.p (aB (i:Int)))]) (fX l l.length) .ret (.exit 0) (by simp) (by simp) (fun x => !(El x)) l
  (fun i x hx hp=>aPd (by have:=bG hx;omega) hx (by simpa using hp) (aL (by have:=bG hx;omega)) rfl)
  (fun i x hx hp=>aPc (by have:=bG hx;omega) hx (by simpa using hp))
  (aPe (l:=l) (i:=l.length) (by omega)) with ⟨i,x,h1,h2,h3,h4⟩ | ⟨h1,h2,h3⟩
 ·rw [jK h2];exact bOa h4
 ·rw [jL h1];exact bNz h3
theorem bOc{l:List (List Cel)}(h0:l.length≤100000)(Ao:r0=(decide ((nN (fun x => !(El x)) l) ≥ 0))):FMM Tp 135 [(.p (.sl l.length (l.map aP))),(.fn 221 [] [(.ptr 0 0)])] [some (.box 229 [(.fn 183 [] [])])] (pB r0) [some (.box 229 [(.fn 183 [] [])])]:=by
 subst Ao;have k1:=mq [0] 1 (bOb l h0);exact FMM.fi 1 gE func135 [k1.o] (gc k1 gn)
theorem bOd(l:List (List Cel))(hl:l.length≤100000):FMM Tp 135 [.p (bW l),(.fn 221 [] [(.ptr 0 0)])] [some (.box 229 [(.fn 183 [] [])])] (pB (l.any (fun x => !(El x)))) [some (.box 229 [(.fn 183 [] [])])]:=bOc hl (lQ _ _).symm
theorem bOe{l:List (List Cel)}(h0:l.length≤100000)(Ao:r0=(!(l.any (fun x => !(El x))))):FV Tp 182 [(.p (.sl l.length (l.map aP))),(.fn 183 [] [])] base (pB r0) []:=by
 subst Ao;have k1:=mq [0] 1 (bOd l h0);exact FV.fi func182 [k1.o] (gc k1 gn)
theorem yD(l:List (List Cel))(hl:l.length≤100000){base:Nat}:FV Tp 182 [.p (bW l),(.fn 183 [] [])] base (pB (l.all (El))) []:=bOe hl (by rw [List.all_eq_not_any_not])
theorem bYc{r:List Cel}(h0:(r.length:Int)=0):FV Tp 206 [(.p (.sl r.length ((r.map cE).flatten))),(.rp [(bO (aK k))] 0)] base (pB true) []:=FV.fi func206 (rT 6) (Fb (cP h0) gn)
theorem bYd{r:List Cel}(h0:(r.length:Int)≠0)(Ao:r0=((r.length:Int) == ((aK k).length:Int))):FV Tp 206 [(.p (.sl r.length ((r.map cE).flatten))),(.rp [(bO (aK k))] 0)] base (pB r0) []:=by
 subst Ao;exact FV.fi func206 [bF,bF,bF,.x (bO (aK k)),bF,bF,bF] (Ap (bA h0) (gr (bO (aK k)) (Ap (bA h0) gn)))
def fR(k:Int)(r:List Cel):Bool:=decide ((r.length:Int)=0) || ((r.length:Int) == ((aK k).length:Int))
theorem bYe(r:List Cel)(k:Int){base:Nat}:FV Tp 206 [.p (.sl r.length ((r.map cE).flatten)),.rp [bO (aK k)] 0] base (pB (fR k r)) []:=by
 by_cases h:(r.length:Int)=0
 ·have e:fR k r=true:=by simp only [fR,h,decide_true,Bool.true_or]
  rw [e];exact bYc h
 ·exact bYd h (by simp only [fR,h,decide_false,Bool.false_or])
theorem bOf{x:List Cel}(Ao:r0=(!(fR k x))):FMM Tp 221 [(.p (.sl x.length ((x.map cE).flatten))),(.ptr 0 0)] [some (.box 229 [(.fn 206 [] [(.rp [(bO (aK k))] 0)])])] (pB r0) [some (.box 229 [(.fn 206 [] [(.rp [(bO (aK k))] 0)])])]:=by
 subst Ao;exact FMM.fi 1 gE func221 [.c (pB (fR k x)) []] (gc (fk 1 (bYe x k) rfl) gn)
theorem aSm(x:List Cel)(k:Int):FMM Tp 221 [.p (.sl x.length ((x.map cE).flatten)),.ptr 0 0] [some (.box 229 [(.fn 206 [] [(.rp [(bO (aK k))] 0)])])] (pB (!(fR k x))) [some (.box 229 [(.fn 206 [] [(.rp [(bO (aK k))] 0)])])]:=bOf rfl
def fY(l:List (List Cel))(k:Int)(i:Nat):St:=⟨fr 19 [(0,(.p (.sl l.length (l.map aP)))),(1,(.fn 221 [] [(.ptr 0 0)])),(7,(pI (l.length:Int))),(8,(pI (i:Int)))],[some (.box 229 [(.fn 206 [] [(.rp [(bO (aK k))] 0)])])]⟩
theorem bOg{l:List (List Cel)}(A2:aE Tp 1 oY (fY l k 0) (.exit 0) (fY l k Av)):FMM Tp 199 [(.p (.sl l.length (l.map aP))),(.fn 221 [] [(.ptr 0 0)])] [some (.box 229 [(.fn 206 [] [(.rp [(bO (aK k))] 0)])])] (pI (-1)) [some (.box 229 [(.fn 206 [] [(.rp [(bO (aK k))] 0)])])]:=FMM.fi 1 gE func199 [A2.k 6 (gZ ca)] (gc A2.code gn)
theorem bOh{l:List (List Cel)}(A2:aE Tp 1 oY (fY l k 0) .ret (bS (fY l k Av) [(4,(pI (Av:Int)))])):FMM Tp 199 [(.p (.sl l.length (l.map aP))),(.fn 221 [] [(.ptr 0 0)])] [some (.box 229 [(.fn 206 [] [(.rp [(bO (aK k))] 0)])])] (pI (Av:Int)) [some (.box 229 [(.fn 206 [] [(.rp [(bO (aK k))] 0)])])]:=FMM.fi 1 gE func199 [A2.k 6 (gZ ca)] (gc A2.code gn)
section
variable{l:List (List Cel)}{Ab:List Cel}(h0:(i:Int)<(l.length:Int))(h1:l[i]? = some Ab)
include h0 h1
theorem aPf(h2:(fR k Ab)=false):aA Tp 1 oY (fY l k i) .ret (bS (fY l k i) [(4,(pI (i:Int)))]):=have k1:=mq [0] 1 (aSm Ab k);aA.fi (gZ bp) [bT,.x (.sl Ab.length ((Ab.map cE).flatten)),k1.o,bT] (gc (cN h2) (gc k1 (gc (atm aP h1) (gc (ixn aP h1) (g0 h0)))))
theorem aPg(h2:(fR k Ab)=true)(h3:cq i)(Ai:i'=(i+1)):aA Tp 1 oY (fY l k i) .normal (fY l k i'):=by
 subst Ai;have k1:=mq [0] 1 (aSm Ab k);exact aA.fi (gZ ca) [bT,.x (.sl Ab.length ((Ab.map cE).flatten)),k1.o,bF] (gc h3 (gc (aO h2) (gc k1 (gc (atm aP h1) (gc (ixn aP h1) (g0 h0))))))
end
theorem aPh{l:List (List Cel)}(h0:(l.length:Int)≤(i:Int)):aA Tp 1 oY (fY l k i) (.exit 0) (fY l k i):=aA.fi (gZ ca) [bF] (gc (aJ h0) gn)
theorem bOi(l:List (List Cel))(k:Int)(hl:l.length≤100000):FMM Tp 199 [.p (bW l),(.fn 221 [] [(.ptr 0 0)])] [some (.box 229 [(.fn 206 [] [(.rp [(bO (aK k))] 0)])])] (pI (nN (fun x => !(fR k x)) l)) [some (.box 229 [(.fn 206 [] [(.rp [(bO (aK k))] 0)])])]:=by
 rcases aE.find (P:=Tp) (k:=1) (b:=oY) (fun i=>fY l k i) (fun i _=>bS (fY l k i) [(4,.p (aB (i:Int)))]) (fY l k l.length) .ret (.exit 0) (by simp) (by simp) (fun x => !(fR k x)) l
  (fun i x hx hp=>aPg (by have:=bG hx;omega) hx (by simpa using hp) (aL (by have:=bG hx;omega)) rfl)
  (fun i x hx hp=>aPf (by have:=bG hx;omega) hx (by simpa using hp))
  (aPh (l:=l) (i:=l.length) (by omega)) with ⟨i,x,h1,h2,h3,h4⟩ | ⟨h1,h2,h3⟩
 ·rw [jK h2];exact bOh h4
 ·rw [jL h1];exact bOg h3
theorem bOj{l:List (List Cel)}(h0:l.length≤100000)(Ao:r0=(decide ((nN (fun x => !(fR k x)) l) ≥ 0))):FMM Tp 135 [(.p (.sl l.length (l.map aP))),(.fn 221 [] [(.ptr 0 0)])] [some (.box 229 [(.fn 206 [] [(.rp [(bO (aK k))] 0)])])] (pB r0) [some (.box 229 [(.fn 206 [] [(.rp [(bO (aK k))] 0)])])]:=by
 subst Ao;have k1:=mq [0] 1 (bOi l k h0);exact FMM.fi 1 gE func135 [k1.o] (gc k1 gn)
theorem bOk(l:List (List Cel))(k:Int)(hl:l.length≤100000):FMM Tp 135 [.p (bW l),(.fn 221 [] [(.ptr 0 0)])] [some (.box 229 [(.fn 206 [] [(.rp [(bO (aK k))] 0)])])] (pB (l.any (fun x => !(fR k x)))) [some (.box 229 [(.fn 206 [] [(.rp [(bO (aK k))] 0)])])]:=bOj hl (lQ _ _).symm
theorem bOl{l:List (List Cel)}(h0:l.length≤100000)(Ao:r0=(!(l.any (fun x => !(fR k x))))):FV Tp 182 [(.p (.sl l.length (l.map aP))),(.fn 206 [] [(.rp [(bO (aK k))] 0)])] base (pB r0) []:=by
 subst Ao;have k1:=mq [0] 1 (bOk l k h0);exact FV.fi func182 [k1.o] (gc k1 gn)
theorem aGr(l:List (List Cel))(k:Int)(hl:l.length≤100000){base:Nat}:FV Tp 182 [.p (bW l),(.fn 206 [] [(.rp [(bO (aK k))] 0)])] base (pB (l.all (fR k))) []:=bOl hl (by rw [List.all_eq_not_any_not])
end
section
variable {k ea eb Bp C3 Dw:Int}{i j q j' q' qa qb Hc base Gp Ip Co E6:Nat}

noncomputable abbrev mK:Code:=sub (cd Tryz.f145) [1,1,1,1,0,1,0,0,1,1,0,0,1,1,0,0,1,1,0,0,1,1,0,0]
noncomputable abbrev sE:Code:=sub (cd Tryz.f145) [1,1,1,1,0,1,0,0,1,1,0,0,1,1,0,0]
noncomputable abbrev aAu:Code:=sub (cd Tryz.f145) [1,1,1,1,0,1,0,0]
theorem bRj:0≤(0:Int)∧(0:Int)<2:=by first | decide | simp
theorem bRk:(decide ((0:Int)<2))=true:=by first | decide | simp
theorem bRl:0≤(1:Int)∧(1:Int)<2:=by first | decide | simp
theorem bRm:(decide ((1:Int)<2))=true:=by first | decide | simp
theorem bRn:0≤(0:Int)∧(0:Int)<4:=by first | decide | simp
theorem bRo:0≤(1:Int)∧(1:Int)<4:=by first | decide | simp
theorem bRp:0≤(2:Int)∧(2:Int)<4:=by first | decide | simp
theorem bRq:0≤(3:Int)∧(3:Int)<4:=by first | decide | simp
abbrev a6(k:Int):Mem:=[some (.box 65 [(.p (bO (aK k)))]),some (.box 214 [(.fn 224 [] [(.rp [(PV.fn 188 [] [])] 0)]),(.fn 225 [] [(.rp [(PV.fn 120 [] [])] 0)]),(.fn 226 [] [(.rp [(aB 999999)] 0)]),(.fn 224 [] [(.rp [(PV.fn 39 [] [])] 0)]),(.fn 225 [] [(.rp [(PV.fn 189 [] [])] 0)]),(.fn 226 [] [(.rp [(aB 360000)] 0)]),(.fn 227 [] [(.rp [(PV.fn 191 [] [])] 0)]),(.fn 228 [] []),(.fn 229 [] [(.rp [(PV.fn 191 [] [])] 0)]),(.fn 227 [] [(.rp [(PV.fn 192 [] [])] 0)]),(.fn 228 [] []),(.fn 229 [] [(.rp [(PV.fn 192 [] [])] 0)])])]
def iW(k:Int)(R:List (List Cel))(q:Nat):St:=⟨fr 56 [(1,(.p (.sl R.length (R.map aP)))),(5,(.ptr 0 0)),(7,(.ptr 1 0)),(24,(.p (.agg [(aB 3),(aB 11)]))),(25,(pI (q:Int)))],(a6 k)⟩
section
variable{R:List (List Cel)}(h0:R.length≤100000)
include h0
theorem bXy(h1:(R.all (fR k))=false):FV Tp 145 [(pI k),(.p (.sl R.length (R.map aP)))] base (pI 2) []:=have k1:=fk 0 (fF k) rfl;FV.fi func145 [k1.o,.c (pB (R.all (fR k))) [],bT] (gc (cN h1) (gt (FC Tp 182 [(.p (.sl R.length (R.map aP))),(.fn 206 [] [(.ptr 0 0)])] [(0,(.box 65 [(.p (bO (aK k)))]))] 1 (pB (R.all (fR k))) []) (fv (aGr R k h0)) (gc k1 gn)))
theorem bXz(h1:(R.all (fR k))=true)(Bi:aE Tp 0 aAu (iW k R 0) (.exit 0) (iW k R Hc)):FV Tp 145 [(pI k),(.p (.sl R.length (R.map aP)))] base (pI 0) []:=have k1:=fk 0 (fF k) rfl;have k2:=fk 1 (eT) rfl;FV.fi func145 [k1.o,.c (pB (R.all (fR k))) [],bF,k2.o,Bi.k 4 (gI ap [0,1])] (gc Bi.code (gc k2 (gc (aO h1) (gt (FC Tp 182 [(.p (.sl R.length (R.map aP))),(.fn 206 [] [(.ptr 0 0)])] [(0,(.box 65 [(.p (bO (aK k)))]))] 1 (pB (R.all (fR k))) []) (fv (aGr R k h0)) (gc k1 gn)))))
theorem bHp{r0:Int}(h1:(R.all (fR k))=true)(Bi:aE Tp 0 aAu (iW k R 0) .ret (bS (iW k R Hc) [(4,(pI (if Hc=0 then 3 else 11)))]))(Ao:r0=(if Hc=0 then 3 else 11)):FV Tp 145 [(pI k),(.p (.sl R.length (R.map aP)))] base (pI r0) []:=by
 subst Ao;have k1:=fk 0 (fF k) rfl;have k2:=fk 1 (eT) rfl;exact FV.fi func145 [k1.o,.c (pB (R.all (fR k))) [],bF,k2.o,Bi.k 4 (gI ap [0,1])] (gc Bi.code (gc k2 (gc (aO h1) (gt (FC Tp 182 [(.p (.sl R.length (R.map aP))),(.fn 206 [] [(.ptr 0 0)])] [(0,(.box 65 [(.p (bO (aK k)))]))] 1 (pB (R.all (fR k))) []) (fv (aGr R k h0)) (gc k1 gn)))))
end
def eL(k:Int)(R:List (List Cel))(i qa:Nat)(ea:Int):St:=⟨fr 56 [(1,(.p (.sl R.length (R.map aP)))),(5,(.ptr 0 0)),(7,(.ptr 1 0)),(9,(pI ea)),(24,(.p (.agg [(aB 3),(aB 11)]))),(25,(pI (qa:Int))),(28,(.p (.sl R.length (R.map aP)))),(29,(pI (R.length:Int))),(30,(pI (i:Int)))],(a6 k)⟩
theorem aEc{R:List (List Cel)}(Az:q=0)(Ak:aE Tp 0 sE (eL k R 0 0 3) (.exit 2) (eL k R Gp Co C3))(h2:inR (((Co+1):Nat):Int))(Er:q'=(Co+1)):aA Tp 0 aAu (iW k R q) .normal (iW k R q'):=by
 subst Az;subst Er;exact aA.fi (gI ap [0,1]) [bT,Ak.k 7 (gI ai [0,1])] (gc h2 (gc Ak.code (gc bRj (gc bRk gn))))
theorem aYy{R:List (List Cel)}(Az:q=0)(Ak:aE Tp 0 sE (eL k R 0 0 3) .ret (bS (eL k R Gp Co C3) [(4,(pI C3))])):aA Tp 0 aAu (iW k R q) .ret (bS (iW k R Co) [(4,(pI C3))]):=by
 subst Az;exact aA.fi (gI [0,1,2,2,6,1,8,16,26,30] [0,1]) [bT,Ak.k 7 (gI ai [0,1])] (gc Ak.code (gc bRj (gc bRk gn)))
theorem aYz{R:List (List Cel)}(Az:q=1)(Ak:aE Tp 0 sE (eL k R 0 1 11) (.exit 2) (eL k R Gp Co C3))(h2:inR (((Co+1):Nat):Int))(Er:q'=(Co+1)):aA Tp 0 aAu (iW k R q) .normal (iW k R q'):=by
 subst Az;subst Er;exact aA.fi (gI ap [0,1]) [bT,Ak.k 7 (gI ai [0,1])] (gc h2 (gc Ak.code (gc bRl (gc bRm gn))))
theorem aZa{R:List (List Cel)}(Az:q=1)(Ak:aE Tp 0 sE (eL k R 0 1 11) .ret (bS (eL k R Gp Co C3) [(4,(pI C3))])):aA Tp 0 aAu (iW k R q) .ret (bS (iW k R Co) [(4,(pI C3))]):=by
 subst Az;exact aA.fi (gI [0,1,2,2,6,1,8,16,26,30] [0,1]) [bT,Ak.k 7 (gI ai [0,1])] (gc Ak.code (gc bRl (gc bRm gn)))
theorem aZb{R:List (List Cel)}(Az:q=2)(Er:q'=2):aA Tp 0 aAu (iW k R q) (.exit 0) (iW k R q'):=by
 subst Az;subst Er;exact aA.fi (gI ap [0,1]) [bF] (gt ((decide ((2:Int)<2))=false) (by first | decide | simp) gn)
def dR(k:Int)(R:List (List Cel))(i:Nat)(Ad:List Cel)(j qb:Nat)(eb:Int):St:=⟨fr 56 [(1,(.p (.sl R.length (R.map aP)))),(5,(.ptr 0 0)),(7,(.ptr 1 0)),(9,(pI eb)),(11,(.p (.sl Ad.length ((Ad.map cE).flatten)))),(24,(.p (.agg [(aB 3),(aB 11)]))),(25,(pI (qb:Int))),(28,(.p (.sl R.length (R.map aP)))),(29,(pI (R.length:Int))),(30,(pI (i:Int))),(31,(pB (decide ((i:Int)<(R.length:Int))))),(32,(.rp (R.map aP) (i*1))),(33,(.p (.sl Ad.length ((Ad.map cE).flatten)))),(34,(.p (.sl Ad.length ((Ad.map cE).flatten)))),(35,(pI (Ad.length:Int))),(36,(pI (j:Int)))],(a6 k)⟩
section
variable{R:List (List Cel)}{Ad:List Cel}(h0:(i:Int)<(R.length:Int))(h1:R[i]? = some Ad)
include h0 h1
theorem aZc{i':Nat}(Bi:aE Tp 0 mK (dR k R i Ad 0 qa ea) (.exit 4) (dR k R i Ad Ip E6 Dw))(h3:cq i)(Ai:i'=(i+1)):aA Tp 0 sE (eL k R i qa ea) .normal (eL k R i' E6 Dw):=by
 subst Ai;exact aA.fi (gI ai [0,1]) [bT,.x (.sl Ad.length ((Ad.map cE).flatten)),Bi.k 3 (gI ae [0,1])] (gc h3 (gc Bi.code (gc (atm aP h1) (gc (ixn aP h1) (g0 h0)))))
theorem aZd(Bi:aE Tp 0 mK (dR k R i Ad 0 qa ea) .ret (bS (dR k R i Ad Ip E6 Dw) [(4,(pI Dw))])):aA Tp 0 sE (eL k R i qa ea) .ret (bS (eL k R i E6 Dw) [(4,(pI Dw))]):=aA.fi (gI [0,1,2,2,6,1,8,1,10,14,26,2,31,24] [0,1]) [bT,.x (.sl Ad.length ((Ad.map cE).flatten)),Bi.k 3 (gI ae [0,1])] (gc Bi.code (gc (atm aP h1) (gc (ixn aP h1) (g0 h0))))
end
theorem aZe{R:List (List Cel)}(h0:(R.length:Int)≤(i:Int)):aA Tp 0 sE (eL k R i qa ea) (.exit 2) (eL k R i qa ea):=aA.fi (gI ai [0,1]) [bF] (gc (aJ h0) gn)
section
variable{Ad:List Cel}{Bh:List UInt8}(h0:(j:Int)<(Ad.length:Int))(h1:Ad[j]? = some (Bp,Bh))
include h0 h1
theorem aZf{R:List (List Cel)}(h2:(aK k)[j]? = some 0)(h3:(ckM 0 (Bp,Bh))=eb):aA Tp 0 mK (dR k R i Ad j qb eb) .ret (bS (dR k R i Ad j qb eb) [(4,(pI eb))]):=have k1:=fk 3 (bHy Bp Bh) rfl;aA.fi (gI af [0,1]) [bT,.x (.agg [(aB Bp),(aC Bh)]),.x (aB 0),k1.o,bT] (gc (cP h3) (gc k1 (gc bRn (gc (atm aB h2) (gc (ixn aB h2) (gc (bH (E:=cE) (i:=j) (k:=2) (fun _=>rfl) h1 rfl) (gc (bZ (E:=cE) (i:=j) (k:=2) (fun _=>rfl) h1) (gc (bC (E:=cE) (k:=2) (i:=(j:Int)) (fun _=>rfl) (by decide) (Bf _) h1) (g0 h0)))))))))
theorem aZg{R:List (List Cel)}(h2:(aK k)[j]? = some 0)(h3:(ckM 0 (Bp,Bh))≠eb)(h4:cq j)(Cy:j'=(j+1)):aA Tp 0 mK (dR k R i Ad j qb eb) .normal (dR k R i Ad j' qb eb):=by
 subst Cy;have k1:=fk 3 (bHy Bp Bh) rfl;exact aA.fi (gI ae [0,1]) [bT,.x (.agg [(aB Bp),(aC Bh)]),.x (aB 0),k1.o,bF] (gc h4 (gc (bA h3) (gc k1 (gc bRn (gc (atm aB h2) (gc (ixn aB h2) (gc (bH (E:=cE) (i:=j) (k:=2) (fun _=>rfl) h1 rfl) (gc (bZ (E:=cE) (i:=j) (k:=2) (fun _=>rfl) h1) (gc (bC (E:=cE) (k:=2) (i:=(j:Int)) (fun _=>rfl) (by decide) (Bf _) h1) (g0 h0))))))))))
theorem aZh{R:List (List Cel)}(h2:(aK k)[j]? = some 1)(h3:(ckM 1 (Bp,Bh))=eb):aA Tp 0 mK (dR k R i Ad j qb eb) .ret (bS (dR k R i Ad j qb eb) [(4,(pI eb))]):=have k1:=fk 3 (bHz Bp Bh) rfl;aA.fi (gI af [0,1]) [bT,.x (.agg [(aB Bp),(aC Bh)]),.x (aB 1),k1.o,bT] (gc (cP h3) (gc k1 (gc bRo (gc (atm aB h2) (gc (ixn aB h2) (gc (bH (E:=cE) (i:=j) (k:=2) (fun _=>rfl) h1 rfl) (gc (bZ (E:=cE) (i:=j) (k:=2) (fun _=>rfl) h1) (gc (bC (E:=cE) (k:=2) (i:=(j:Int)) (fun _=>rfl) (by decide) (Bf _) h1) (g0 h0)))))))))
theorem aZi{R:List (List Cel)}(h2:(aK k)[j]? = some 1)(h3:(ckM 1 (Bp,Bh))≠eb)(h4:cq j)(Cy:j'=(j+1)):aA Tp 0 mK (dR k R i Ad j qb eb) .normal (dR k R i Ad j' qb eb):=by
 subst Cy;have k1:=fk 3 (bHz Bp Bh) rfl;exact aA.fi (gI ae [0,1]) [bT,.x (.agg [(aB Bp),(aC Bh)]),.x (aB 1),k1.o,bF] (gc h4 (gc (bA h3) (gc k1 (gc bRo (gc (atm aB h2) (gc (ixn aB h2) (gc (bH (E:=cE) (i:=j) (k:=2) (fun _=>rfl) h1 rfl) (gc (bZ (E:=cE) (i:=j) (k:=2) (fun _=>rfl) h1) (gc (bC (E:=cE) (k:=2) (i:=(j:Int)) (fun _=>rfl) (by decide) (Bf _) h1) (g0 h0))))))))))
theorem aZj{R:List (List Cel)}(h2:(aK k)[j]? = some 2)(h3:(ckM 2 (Bp,Bh))=eb):aA Tp 0 mK (dR k R i Ad j qb eb) .ret (bS (dR k R i Ad j qb eb) [(4,(pI eb))]):=have k1:=fk 3 (bIa Bp Bh) rfl;aA.fi (gI af [0,1]) [bT,.x (.agg [(aB Bp),(aC Bh)]),.x (aB 2),k1.o,bT] (gc (cP h3) (gc k1 (gc bRp (gc (atm aB h2) (gc (ixn aB h2) (gc (bH (E:=cE) (i:=j) (k:=2) (fun _=>rfl) h1 rfl) (gc (bZ (E:=cE) (i:=j) (k:=2) (fun _=>rfl) h1) (gc (bC (E:=cE) (k:=2) (i:=(j:Int)) (fun _=>rfl) (by decide) (Bf _) h1) (g0 h0)))))))))
theorem aZk{R:List (List Cel)}(h2:(aK k)[j]? = some 2)(h3:(ckM 2 (Bp,Bh))≠eb)(h4:cq j)(Cy:j'=(j+1)):aA Tp 0 mK (dR k R i Ad j qb eb) .normal (dR k R i Ad j' qb eb):=by
 subst Cy;have k1:=fk 3 (bIa Bp Bh) rfl;exact aA.fi (gI ae [0,1]) [bT,.x (.agg [(aB Bp),(aC Bh)]),.x (aB 2),k1.o,bF] (gc h4 (gc (bA h3) (gc k1 (gc bRp (gc (atm aB h2) (gc (ixn aB h2) (gc (bH (E:=cE) (i:=j) (k:=2) (fun _=>rfl) h1 rfl) (gc (bZ (E:=cE) (i:=j) (k:=2) (fun _=>rfl) h1) (gc (bC (E:=cE) (k:=2) (i:=(j:Int)) (fun _=>rfl) (by decide) (Bf _) h1) (g0 h0))))))))))
theorem aZl{R:List (List Cel)}(h2:(aK k)[j]? = some 3)(h3:(ckM 3 (Bp,Bh))=eb):aA Tp 0 mK (dR k R i Ad j qb eb) .ret (bS (dR k R i Ad j qb eb) [(4,(pI eb))]):=have k1:=fk 3 (bIb Bp Bh) rfl;aA.fi (gI af [0,1]) [bT,.x (.agg [(aB Bp),(aC Bh)]),.x (aB 3),k1.o,bT] (gc (cP h3) (gc k1 (gc bRq (gc (atm aB h2) (gc (ixn aB h2) (gc (bH (E:=cE) (i:=j) (k:=2) (fun _=>rfl) h1 rfl) (gc (bZ (E:=cE) (i:=j) (k:=2) (fun _=>rfl) h1) (gc (bC (E:=cE) (k:=2) (i:=(j:Int)) (fun _=>rfl) (by decide) (Bf _) h1) (g0 h0)))))))))
theorem aZm{R:List (List Cel)}(h2:(aK k)[j]? = some 3)(h3:(ckM 3 (Bp,Bh))≠eb)(h4:cq j)(Cy:j'=(j+1)):aA Tp 0 mK (dR k R i Ad j qb eb) .normal (dR k R i Ad j' qb eb):=by
 subst Cy;have k1:=fk 3 (bIb Bp Bh) rfl;exact aA.fi (gI ae [0,1]) [bT,.x (.agg [(aB Bp),(aC Bh)]),.x (aB 3),k1.o,bF] (gc h4 (gc (bA h3) (gc k1 (gc bRq (gc (atm aB h2) (gc (ixn aB h2) (gc (bH (E:=cE) (i:=j) (k:=2) (fun _=>rfl) h1 rfl) (gc (bZ (E:=cE) (i:=j) (k:=2) (fun _=>rfl) h1) (gc (bC (E:=cE) (k:=2) (i:=(j:Int)) (fun _=>rfl) (by decide) (Bf _) h1) (g0 h0))))))))))
end
theorem aZn{R:List (List Cel)}{Ad:List Cel}(h0:(Ad.length:Int)≤(j:Int)):aA Tp 0 mK (dR k R i Ad j qb eb) (.exit 4) (dR k R i Ad j qb eb):=aA.fi (gI ae [0,1]) [bF] (gc (aJ h0) gn)
def aKj(k:Int)(x:List Cel):List Int:=List.zipWith ckM (aK k) x
def aKk(k e:Int)(x:List Cel):Bool:=(aKj k x).any (fun c=>c == e)
def mR(k:Int)(R:List (List Cel)):Int:=if R.all (fR k)=false then 2 else if R.any (aKk k 3)=true then 3 else if R.any (aKk k 11)=true then 11 else 0
theorem iX{k t:Int}{j:Nat}(h:(aK k)[j]? = some t):t=0∨t=1∨t=2∨t=3:=by
 have:=Ci h;unfold aK at this
 split at this
 ·simp at this;omega
 ·split at this
  ·simp at this;omega
  ·split at this
   ·simp at this;omega
   ·split at this <;> (simp at this;omega)
theorem aSk{k:Int}{x:List Cel}{j:Nat}{c:Int}(h:(aKj k x)[j]? = some c):∃ t a z,(aK k)[j]? = some t∧x[j]? = some (a,z)∧c=ckM t (a,z):=by
 unfold aKj at h
 rw [List.getElem?_zipWith] at h
 cases h1:(aK k)[j]? with
 | none=>rw [h1] at h;simp at h
 | some t =>
  cases h2:x[j]? with
  | none=>rw [h1,h2] at h;simp at h
  | some c2 =>
   rw [h1,h2] at h
   exact ⟨t,c2.1,c2.2,rfl,rfl,by simpa using h.symm⟩
theorem bNx{k:Int}{x:List Cel}(h:fR k x=true):(aKj k x).length=x.length∧x.length≤4:=by
 have hc:(aK k).length≤4:=by unfold aK;(repeat' split) <;> simp
 unfold aKj;rw [List.length_zipWith];unfold fR at h
 rw [aAh] at h
 rcases h with h | h
 ·have:=of_decide_eq_true h
  omega
 ·have:=eq_of_beq h
  omega
theorem Kl{k:Int}{R:List (List Cel)}{i:Nat}{x:List Cel}(qb:Nat)(eb:Int)(hf:fR k x=true) :
  (aKk k eb x=true∧∃ j,aE Tp 0 mK (dR k R i x 0 qb eb) .ret (bS (dR k R i x j qb eb) [(4,(pI eb))]))∨(aKk k eb x=false∧aE Tp 0 mK (dR k R i x 0 qb eb) (.exit 4) (dR k R i x x.length qb eb)):=by
 obtain ⟨hl,h4⟩:=bNx hf
 rcases aE.find (P:=Tp) (k:=0) (b:=mK) (fun j=>dR k R i x j qb eb) (fun j _=>bS (dR k R i x j qb eb) [(4,(pI eb))]) (dR k R i x x.length qb eb) .ret (.exit 4) (by simp) (by simp) (fun c=>c == eb) (aKj k x)
  (fun j c hx hp=>by
   obtain ⟨t,a,z,h1,h2,rfl⟩:=aSk hx;have hj:=bG h2;have hp:ckM t (a,z)≠eb:=by simpa using hp
   rcases iX h1 with rfl | rfl | rfl | rfl
   ·exact aZg (by omega) h2 h1 hp (aL (by omega)) rfl
   ·exact aZi (by omega) h2 h1 hp (aL (by omega)) rfl
   ·exact aZk (by omega) h2 h1 hp (aL (by omega)) rfl
   ·exact aZm (by omega) h2 h1 hp (aL (by omega)) rfl)
  (fun j c hx hp=>by
   obtain ⟨t,a,z,h1,h2,rfl⟩:=aSk hx;have hj:=bG h2;have hp:ckM t (a,z)=eb:=by simpa using hp
   rcases iX h1 with rfl | rfl | rfl | rfl
   ·exact aZf (by omega) h2 h1 hp
   ·exact aZh (by omega) h2 h1 hp
   ·exact aZj (by omega) h2 h1 hp
   ·exact aZl (by omega) h2 h1 hp)
  (by rw [hl];exact aZn (by omega)) with ⟨j,c,h1,h2,h3,h5⟩ | ⟨h1,h2,h3⟩
 ·exact .inl ⟨List.any_eq_true.2 ⟨c,Ci h1,h3⟩,j,h5⟩
 ·exact .inr ⟨h2,h3⟩
theorem Km{k:Int}{R:List (List Cel)}(hR:R.length≤100000)(qa:Nat)(ea:Int)(hf:R.all (fR k)=true) :
  (R.any (aKk k ea)=true∧∃ i,aE Tp 0 sE (eL k R 0 qa ea) .ret (bS (eL k R i qa ea) [(4,(pI ea))]))∨(R.any (aKk k ea)=false∧aE Tp 0 sE (eL k R 0 qa ea) (.exit 2) (eL k R R.length qa ea)):=by
 rw [jI] at hf
 rcases aE.find (P:=Tp) (k:=0) (b:=sE) (fun i=>eL k R i qa ea) (fun i _=>bS (eL k R i qa ea) [(4,(pI ea))]) (eL k R R.length qa ea) .ret (.exit 2) (by simp) (by simp) (aKk k ea) R
  (fun i x hx hp=>by
   have hi:=bG hx
   rcases Kl (R:=R) (i:=i) qa ea (hf x (Ci hx)) with ⟨q,_⟩ | ⟨_,L⟩
   ·rw [hp] at q;cases q
   ·exact aZc (by omega) hx L (aL (by omega)) rfl)
  (fun i x hx hp=>by
   have hi:=bG hx
   rcases Kl (R:=R) (i:=i) qa ea (hf x (Ci hx)) with ⟨_,j,L⟩ | ⟨q,_⟩
   ·exact aZd (by omega) hx L
   ·rw [hp] at q;cases q)
  (aZe (by omega)) with ⟨i,x,h1,h2,h3,h5⟩ | ⟨h1,h2,h3⟩
 ·exact .inl ⟨List.any_eq_true.2 ⟨x,Ci h1,h3⟩,i,h5⟩
 ·exact .inr ⟨h2,h3⟩
theorem aGq(k:Int)(R:List (List Cel))(hR:R.length≤100000){base:Nat}:FV Tp 145 [.p (aB k),.p (bW R)] base (pI (mR k R)) []:=by
 unfold mR;cases hf:R.all (fR k)
 ·rw [if_pos rfl];exact bXy hR hf
 ·rw [if_neg (by simp)]
  rcases Km hR 0 3 hf with ⟨a,i,L⟩ | ⟨a,L⟩
  ·rw [if_pos a]
   exact bHp (Hc:=0) hR hf (.exit (aYy rfl L) (by simp)) rfl
  ·rw [if_neg (by rw [a];simp)]
   rcases Km hR 1 11 hf with ⟨a2,i,L2⟩ | ⟨a2,L2⟩
   ·rw [if_pos a2]
    exact bHp (Hc:=1) hR hf (.step (aEc rfl L (aL (by omega)) rfl) (.exit (aZa rfl L2) (by simp))) rfl
   ·rw [if_neg (by rw [a2];simp)]
    exact bXz (Hc:=2) hR hf (.step (aEc rfl L (aL (by omega)) rfl) (.step (aYz rfl L2 (aL (by omega)) rfl) (.exit (aZb rfl rfl) (by simp))))
end
section
variable {k x y a0 a1 a2 b0 b1 b2 r0 A5:Int}{i i' Av base:Nat}

noncomputable abbrev uV:Code:=sub (cd Tryz.f178) [1,0,1,0,0]
noncomputable abbrev aAt:Code:=sub (cd Tryz.f105) [1,1,1,0,1,0,0]
theorem aKg:0≤(0:Int)∧(0:Int)<3:=by first | decide | simp
theorem aKh:0≤(1:Int)∧(1:Int)<3:=by first | decide | simp
theorem aKi:0≤(2:Int)∧(2:Int)<3:=by first | decide | simp
theorem bRc:(decide ((3:Int)<3))=false:=by first | decide | simp
theorem bRd:(decide ((0:Int) ≥ 3))=false:=by first | decide | simp
theorem bRe:(decide ((0:Int)<3))=true:=by first | decide | simp
theorem bRf:(decide ((1:Int) ≥ 3))=false:=by first | decide | simp
theorem bRg:(decide ((1:Int)<3))=true:=by first | decide | simp
theorem bRh:(decide ((2:Int) ≥ 3))=false:=by first | decide | simp
theorem bRi:(decide ((2:Int)<3))=true:=by first | decide | simp
def iV(k:Int)(r:List Cel)(i:Nat)(a0 a1 a2:Int):St:=⟨fr 27 [(1,(.p (.sl r.length ((r.map cE).flatten)))),(4,(.ptr 0 0)),(7,(.ptr 1 0)),(14,(pI (aN k))),(15,(pI (i:Int)))],[some (.box 186 [(pI 0),(pI 0),(pI 0)]),some (.box 186 [(pI a0),(pI a1),(pI a2)])]⟩
theorem aOz{r:List Cel}{a0'1 a1'2 a2'3:Int}(A2:aE Tp 0 aAt (iV k r 0 0 0 0) (.exit 0) (iV k r Av a0'1 a1'2 a2'3)):FV Tp 105 [(pI k),(.p (.sl r.length ((r.map cE).flatten)))] base (.p (.agg [(aB a0'1),(aB a1'2),(aB a2'3)])) []:=have k1:=fk 1 (fF k) rfl;FV.fi func105 [k1.o,A2.k 6 (gI aw [0,1])] (gc A2.code (gc k1 gn))
theorem vX{r:List Cel}{Bd:List UInt8}(Az:i=0)(h1:(0:Int)<(aN k))(h2:r[0]? = some (A5,Bd))(Ai:i'=1):aA Tp 0 aAt (iV k r i a0 a1 a2) .normal (iV k r i' A5 a1 a2):=by
 subst Az;subst Ai;exact aA.fi (gI aw [0,1]) [bT,.x (aB A5)] (gt (inR 1) (by show _∧_;omega) (gc aKg (gt (((r.map cE).flatten)[0]? = some (aB A5)) (aQ (E:=cE) (i:=0) (f:=0) (k:=2) (fun _=>rfl) h2 rfl) (gc (bC (E:=cE) (k:=2) (i:=(0:Int)) (fun _=>rfl) (by decide) (by first | decide | simp) h2) (gc (bJ h1) gn)))))
theorem aEa{r:List Cel}{Bd:List UInt8}(Az:i=1)(h1:(1:Int)<(aN k))(h2:r[1]? = some (A5,Bd))(Ai:i'=2):aA Tp 0 aAt (iV k r i a0 a1 a2) .normal (iV k r i' a0 A5 a2):=by
 subst Az;subst Ai;exact aA.fi (gI aw [0,1]) [bT,.x (aB A5)] (gt (inR 2) (by show _∧_;omega) (gc aKh (gt (((r.map cE).flatten)[2]? = some (aB A5)) (aQ (E:=cE) (i:=1) (f:=0) (k:=2) (fun _=>rfl) h2 rfl) (gc (bC (E:=cE) (k:=2) (i:=(1:Int)) (fun _=>rfl) (by decide) (by first | decide | simp) h2) (gc (bJ h1) gn)))))
theorem aYp{r:List Cel}(Az:i=1)(h1:(aN k)≤1)(Ai:i'=1):aA Tp 0 aAt (iV k r i a0 a1 a2) (.exit 0) (iV k r i' a0 a1 a2):=by
 subst Az;subst Ai;exact aA.fi (gI aw [0,1]) [bF] (gc (aJ h1) gn)
theorem aYq{r:List Cel}{Bd:List UInt8}(Az:i=2)(h1:(2:Int)<(aN k))(h2:r[2]? = some (A5,Bd))(Ai:i'=3):aA Tp 0 aAt (iV k r i a0 a1 a2) .normal (iV k r i' a0 a1 A5):=by
 subst Az;subst Ai;exact aA.fi (gI aw [0,1]) [bT,.x (aB A5)] (gt (inR 3) (by show _∧_;omega) (gc aKi (gt (((r.map cE).flatten)[4]? = some (aB A5)) (aQ (E:=cE) (i:=2) (f:=0) (k:=2) (fun _=>rfl) h2 rfl) (gc (bC (E:=cE) (k:=2) (i:=(2:Int)) (fun _=>rfl) (by decide) (by first | decide | simp) h2) (gc (bJ h1) gn)))))
theorem aYr{r:List Cel}(Az:i=2)(h1:(aN k)≤2)(Ai:i'=2):aA Tp 0 aAt (iV k r i a0 a1 a2) (.exit 0) (iV k r i' a0 a1 a2):=by
 subst Az;subst Ai;exact aA.fi (gI aw [0,1]) [bF] (gc (aJ h1) gn)
theorem aYs{r:List Cel}(Az:i=3)(h1:(aN k)≤3)(Ai:i'=3):aA Tp 0 aAt (iV k r i a0 a1 a2) (.exit 0) (iV k r i' a0 a1 a2):=by
 subst Az;subst Ai;exact aA.fi (gI aw [0,1]) [bF] (gc (aJ h1) gn)
def aM(k:Int)(r:List Cel)(j:Nat):Int:=if (j:Int)<aN k then ((r[j]?).getD (0,[])).1 else 0
theorem vY{r:List Cel}{j:Nat}(h:j<r.length):r[j]? = some (((r[j]?).getD (0,[])).1,((r[j]?).getD (0,[])).2):=by
 rw [Ch h];rfl
theorem eK(k:Int)(r:List Cel)(h:aN k≤(r.length:Int)){base:Nat}:FV Tp 105 [.p (aB k),.p (.sl r.length ((r.map cE).flatten))] base (.p (.agg [aB (aM k r 0),aB (aM k r 1),aB (aM k r 2)])) []:=by
 have hk:aN k=1∨aN k=2∨aN k=3:=by unfold aN;split <;> (try split) <;> simp
 rcases hk with e | e | e
 ·have a0:aM k r 0=((r[0]?).getD (0,[])).1:=if_pos (by omega)
  have a1:aM k r 1=0:=if_neg (by omega)
  have a2:aM k r 2=0:=if_neg (by omega)
  rw [a0,a1,a2];exact aOz (.step (vX rfl (by omega) (vY (by omega)) rfl) (.exit (aYp rfl (by omega) rfl) (by simp)))
 ·have a0:aM k r 0=((r[0]?).getD (0,[])).1:=if_pos (by omega)
  have a1:aM k r 1=((r[1]?).getD (0,[])).1:=if_pos (by omega)
  have a2:aM k r 2=0:=if_neg (by omega)
  rw [a0,a1,a2];exact aOz (.step (vX rfl (by omega) (vY (by omega)) rfl) (.step (aEa rfl (by omega) (vY (by omega)) rfl) (.exit (aYr rfl (by omega) rfl) (by simp))))
 ·have a0:aM k r 0=((r[0]?).getD (0,[])).1:=if_pos (by omega)
  have a1:aM k r 1=((r[1]?).getD (0,[])).1:=if_pos (by omega)
  have a2:aM k r 2=((r[2]?).getD (0,[])).1:=if_pos (by omega)
  rw [a0,a1,a2];exact aOz (.step (vX rfl (by omega) (vY (by omega)) rfl) (.step (aEa rfl (by omega) (vY (by omega)) rfl) (.step (aYq rfl (by omega) (vY (by omega)) rfl) (.exit (aYs rfl (by omega) rfl) (by simp)))))
theorem aPa{r0:Bool}(Ao:r0=(x != x)):FV Tp 215 [(pI x)] base (pB r0) []:=by
 subst Ao;exact FV.fi func215 [] gn
theorem vZ(x:Int){base:Nat}:FV Tp 215 [.p (aB x)] base (pB false) []:=by
 first | exact aPa | exact aPa rfl | exact aPa (by simp)
theorem bXs(h0:x<y):FV Tp 163 [(pI x),(pI y)] base (pI (-1)) []:=FV.fi func163 [.c (pB false) [],.c (pB false) [],bF,bF,bT] (gc (bJ h0) (gf (gf (gc (fk 0 (vZ y) rfl) (gc (fk 0 (vZ x) rfl) gn)))))
theorem bXt(h0:y≤x)(h1:y<x):FV Tp 163 [(pI x),(pI y)] base (pI 1) []:=FV.fi func163 [.c (pB false) [],.c (pB false) [],bF,bF,bF,bT] (gc (bJ h1) (gc (aJ h0) (gf (gf (gc (fk 0 (vZ y) rfl) (gc (fk 0 (vZ x) rfl) gn))))))
theorem bXu(h0:y≤x)(h1:x≤y):FV Tp 163 [(pI x),(pI y)] base (pI 0) []:=FV.fi func163 [.c (pB false) [],.c (pB false) [],bF,bF,bF,bF] (gc (aJ h1) (gc (aJ h0) (gf (gf (gc (fk 0 (vZ y) rfl) (gc (fk 0 (vZ x) rfl) gn))))))
def kE(x y:Int):Int:=if x<y then -1 else if y<x then 1 else 0
theorem wA(x y:Int){base:Nat}:FV Tp 163 [.p (aB x),.p (aB y)] base (pI (kE x y)) []:=by
 unfold kE
 by_cases h:x<y
 ·rw [if_pos h];exact bXs h
 ·rw [if_neg h]
  by_cases h2:y<x
  ·rw [if_pos h2];exact bXt (by omega) h2
  ·rw [if_neg h2];exact bXu (by omega) (by omega)
def n3(a b c:Int)(i:Nat):Int:=if i=0 then a else if i=1 then b else c
def fH(a0 a1 a2 b0 b1 b2:Int)(i:Nat):St:=⟨fr 36 [(0,(.arr 0 0 3)),(1,(.arr 1 0 3)),(9,(.arr 0 0 3)),(10,(pI 3)),(11,(pI (i:Int)))],[some (.box 186 [(pI a0),(pI a1),(pI a2)]),some (.box 186 [(pI b0),(pI b1),(pI b2)])]⟩
theorem bXv(A2:aE Tp 2 uV (fH a0 a1 a2 b0 b1 b2 0) (.exit 0) (fH a0 a1 a2 b0 b1 b2 Av)):FMM Tp 178 [(.arr 0 0 3),(.arr 1 0 3)] [some (.box 186 [(pI a0),(pI a1),(pI a2)]),some (.box 186 [(pI b0),(pI b1),(pI b2)])] (pI 0) [some (.box 186 [(pI a0),(pI a1),(pI a2)]),some (.box 186 [(pI b0),(pI b1),(pI b2)])]:=FMM.fi 2 gE func178 [A2.k 6 (gZ c6),bF] (gc bRc (gc A2.code gn))
theorem aPb(A2:aE Tp 2 uV (fH a0 a1 a2 b0 b1 b2 0) .ret (bS (fH a0 a1 a2 b0 b1 b2 Av) [(4,(pI (kE (n3 a0 a1 a2 Av) (n3 b0 b1 b2 Av))))]))(Ao:r0=(kE (n3 a0 a1 a2 Av) (n3 b0 b1 b2 Av))):FMM Tp 178 [(.arr 0 0 3),(.arr 1 0 3)] [some (.box 186 [(pI a0),(pI a1),(pI a2)]),some (.box 186 [(pI b0),(pI b1),(pI b2)])] (pI r0) [some (.box 186 [(pI a0),(pI a1),(pI a2)]),some (.box 186 [(pI b0),(pI b1),(pI b2)])]:=by
 subst Ao;exact FMM.fi 2 gE func178 [A2.k 6 (gZ c6)] (gc A2.code gn)
theorem aYt(Az:i=0)(h1:(kE a0 b0)≠0)(Ai:i'=0):aA Tp 2 uV (fH a0 a1 a2 b0 b1 b2 i) .ret (bS (fH a0 a1 a2 b0 b1 b2 i') [(4,(pI (kE a0 b0)))]):=by
 subst Az;subst Ai;have k1:=fk 2 (wA a0 b0) rfl;exact aA.fi (gZ [2,2,5,4,12,19]) [bT,bF,k1.o,bT] (gc (cL h1) (gc k1 (gc aKg (gc bRd (gc aKg (gc bRe gn))))))
theorem wB(Az:i=0)(h1:(kE a0 b0)=0)(Ai:i'=1):aA Tp 2 uV (fH a0 a1 a2 b0 b1 b2 i) .normal (fH a0 a1 a2 b0 b1 b2 i'):=by
 subst Az;subst Ai;have k1:=fk 2 (wA a0 b0) rfl;exact aA.fi (gZ c6) [bT,bF,k1.o,bF] (gt (inR 1) (by show _∧_;omega) (gc (bD h1) (gc k1 (gc aKg (gc bRd (gc aKg (gc bRe gn)))))))
theorem aYu(Az:i=1)(h1:(kE a1 b1)≠0)(Ai:i'=1):aA Tp 2 uV (fH a0 a1 a2 b0 b1 b2 i) .ret (bS (fH a0 a1 a2 b0 b1 b2 i') [(4,(pI (kE a1 b1)))]):=by
 subst Az;subst Ai;have k1:=fk 2 (wA a1 b1) rfl;exact aA.fi (gZ [2,2,5,4,12,19]) [bT,bF,k1.o,bT] (gc (cL h1) (gc k1 (gc aKh (gc bRf (gc aKh (gc bRg gn))))))
theorem aEb(Az:i=1)(h1:(kE a1 b1)=0)(Ai:i'=2):aA Tp 2 uV (fH a0 a1 a2 b0 b1 b2 i) .normal (fH a0 a1 a2 b0 b1 b2 i'):=by
 subst Az;subst Ai;have k1:=fk 2 (wA a1 b1) rfl;exact aA.fi (gZ c6) [bT,bF,k1.o,bF] (gt (inR 2) (by show _∧_;omega) (gc (bD h1) (gc k1 (gc aKh (gc bRf (gc aKh (gc bRg gn)))))))
theorem aYv(Az:i=2)(h1:(kE a2 b2)≠0)(Ai:i'=2):aA Tp 2 uV (fH a0 a1 a2 b0 b1 b2 i) .ret (bS (fH a0 a1 a2 b0 b1 b2 i') [(4,(pI (kE a2 b2)))]):=by
 subst Az;subst Ai;have k1:=fk 2 (wA a2 b2) rfl;exact aA.fi (gZ [2,2,5,4,12,19]) [bT,bF,k1.o,bT] (gc (cL h1) (gc k1 (gc aKi (gc bRh (gc aKi (gc bRi gn))))))
theorem aYw(Az:i=2)(h1:(kE a2 b2)=0)(Ai:i'=3):aA Tp 2 uV (fH a0 a1 a2 b0 b1 b2 i) .normal (fH a0 a1 a2 b0 b1 b2 i'):=by
 subst Az;subst Ai;have k1:=fk 2 (wA a2 b2) rfl;exact aA.fi (gZ c6) [bT,bF,k1.o,bF] (gt (inR 3) (by show _∧_;omega) (gc (bD h1) (gc k1 (gc aKi (gc bRh (gc aKi (gc bRi gn)))))))
theorem aYx(Az:i=3)(Ai:i'=3):aA Tp 2 uV (fH a0 a1 a2 b0 b1 b2 i) (.exit 0) (fH a0 a1 a2 b0 b1 b2 i'):=by
 subst Az;subst Ai;exact aA.fi (gZ c6) [bF] (gc bRc gn)
def E3(a0 a1 a2 b0 b1 b2:Int):Int:=if kE a0 b0≠0 then kE a0 b0 else if kE a1 b1≠0 then kE a1 b1 else kE a2 b2
theorem bXw(a0 a1 a2 b0 b1 b2:Int):FMM Tp 178 [.arr 0 0 3,.arr 1 0 3] [some (.box 186 [(pI a0),(pI a1),(pI a2)]),some (.box 186 [(pI b0),(pI b1),(pI b2)])] (pI (E3 a0 a1 a2 b0 b1 b2)) [some (.box 186 [(pI a0),(pI a1),(pI a2)]),some (.box 186 [(pI b0),(pI b1),(pI b2)])]:=by
 unfold E3
 by_cases h0:kE a0 b0=0
 ·rw [if_neg (by simp [h0])]
  by_cases h1:kE a1 b1=0
  ·rw [if_neg (by simp [h1])]
   by_cases h2:kE a2 b2=0
   ·rw [h2]
    exact bXv (.step (wB rfl h0 rfl) (.step (aEb rfl h1 rfl) (.step (aYw rfl h2 rfl) (.exit (aYx rfl rfl) (by simp)))))
   ·exact aPb (Av:=2) (.step (wB rfl h0 rfl) (.step (aEb rfl h1 rfl) (.exit (aYv rfl h2 rfl) (by simp)))) rfl
  ·rw [if_pos h1]
   exact aPb (Av:=1) (.step (wB rfl h0 rfl) (.exit (aYu rfl h1 rfl) (by simp))) rfl
 ·rw [if_pos h0]
  exact aPb (Av:=0) (.exit (aYt rfl h0 rfl) (by simp)) rfl
def bV(k:Int)(r t:List Cel):Int:=E3 (aM k r 0) (aM k r 1) (aM k r 2) (aM k t 0) (aM k t 1) (aM k t 2)
theorem bXx{r t:List Cel}(h0:aN k≤(r.length:Int))(h1:aN k≤(t.length:Int))(Ao:r0=(E3 (aM k r 0) (aM k r 1) (aM k r 2) (aM k t 0) (aM k t 1) (aM k t 2))):FV Tp 92 [(pI k),(.p (.sl r.length ((r.map cE).flatten))),(.p (.sl t.length ((t.map cE).flatten)))] base (pI r0) []:=by
 subst Ao;have k1:=fk 0 (eK k r h0) rfl;have k2:=fk 0 (eK k t h1) rfl;have k3:=mq [0,1] 2 (bXw (aM k r 0) (aM k r 1) (aM k r 2) (aM k t 0) (aM k t 1) (aM k t 2));exact FV.fi func92 [k1.o,k2.o,k3.o] (gc k3 (gt (0≤(0:Int)∧(0:Int)≤3∧(3:Int)≤3∧3≤maxLen) (by unfold maxLen;omega) (gt (0≤(0:Int)∧(0:Int)≤3∧(3:Int)≤3∧3≤maxLen) (by unfold maxLen;omega) (gc k2 (gc k1 gn)))))
end
section
variable {k r0:Int}{i Av base:Nat}

noncomputable abbrev uU:Code:=sub (cd Tryz.f102) [1,1,1,0,1,0,0]
theorem mQ(k:Int)(r t:List Cel)(h:aN k≤(r.length:Int))(h2:aN k≤(t.length:Int)){base:Nat}:FV Tp 92 [.p (aB k),.p (.sl r.length ((r.map cE).flatten)),.p (.sl t.length ((t.map cE).flatten))] base (pI (bV k r t)) []:=bXx h h2 rfl
def aDy(k:Int)(R:List (List Cel))(i:Nat):Int:=if bV k ((R[i-1]?).getD []) ((R[i]?).getD [])=0 then 5 else 4
def fG(k:Int)(R:List (List Cel))(i:Nat):St:=⟨fr 57 [(1,(.ptr 0 0)),(4,(pI (i:Int)))],[some (.box 26 [(pI k),(.p (.sl R.length (R.map aP)))])]⟩
theorem bXm{R:List (List Cel)}(h0:(within k 0 4)=false):FV Tp 102 [(.p (.agg [(aB k),(.sl R.length (R.map aP))]))] base (pI 1) []:=have k1:=fk 1 (qC k) rfl;FV.fi func102 [k1.o,bT] (gc (cN h0) (gc k1 gn))
theorem bXn{R:List (List Cel)}(h0:(within k 0 4)=true)(h1:(200:Int)<(R.length:Int)):FV Tp 102 [(.p (.agg [(aB k),(.sl R.length (R.map aP))]))] base (pI 2) []:=have k1:=fk 1 (qC k) rfl;FV.fi func102 ([k1.o,bF]++rT 5) (B5 (bJ h1) (gc (aO h0) (gc k1 gn)))
section
variable{R:List (List Cel)}(h0:(within k 0 4)=true)(h1:(R.length:Int)≤200)(h2:R.length≤100000)
include h0 h1 h2
theorem bXo(h3:(R.all (El))=false):FV Tp 102 [(.p (.agg [(aB k),(.sl R.length (R.map aP))]))] base (pI 2) []:=have k1:=fk 1 (qC k) rfl;have k2:=fk 1 (yD R h2) rfl;FV.fi func102 [k1.o,bF,bF,bF,bF,k2.o,bF,bF,bT] (gc (cN h3) (Au (aJ h1) (gc k2 (Ap (aJ h1) (gc (aO h0) (gc k1 gn))))))
theorem bXp(h3:(R.all (El))=true)(h4:(mR k R)≠0)(Ao:r0=(mR k R)):FV Tp 102 [(.p (.agg [(aB k),(.sl R.length (R.map aP))]))] base (pI r0) []:=by
 subst Ao;have k1:=fk 1 (qC k) rfl;have k2:=fk 1 (yD R h2) rfl;exact FV.fi func102 [k1.o,bF,bF,bF,bF,k2.o,bF,bF,bF,.c (pI (mR k R)) [],bT] (gc (cL h4) (gc (fk 1 (aGq k R h2) rfl) (gc (aO h3) (Au (aJ h1) (gc k2 (Ap (aJ h1) (gc (aO h0) (gc k1 gn))))))))
theorem bXq(h3:(R.all (El))=true)(h4:(mR k R)=0)(Cc:aE Tp 0 uU (fG k R 1) (.exit 1) (fG k R Av)):FV Tp 102 [(.p (.agg [(aB k),(.sl R.length (R.map aP))]))] base (pI 0) []:=have k1:=fk 1 (qC k) rfl;have k2:=fk 1 (yD R h2) rfl;FV.fi func102 [k1.o,bF,bF,bF,bF,k2.o,bF,bF,bF,.c (pI (mR k R)) [],bF,Cc.k 4 (gI bq [0])] (gc Cc.code (gc (bD h4) (gc (fk 1 (aGq k R h2) rfl) (gc (aO h3) (Au (aJ h1) (gc k2 (Ap (aJ h1) (gc (aO h0) (gc k1 gn)))))))))
theorem bXr(h3:(R.all (El))=true)(h4:(mR k R)=0)(Cc:aE Tp 0 uU (fG k R 1) .ret (bS (fG k R Av) [(2,(pI (aDy k R Av)))]))(Ao:r0=(aDy k R Av)):FV Tp 102 [(.p (.agg [(aB k),(.sl R.length (R.map aP))]))] base (pI r0) []:=by
 subst Ao;have k1:=fk 1 (qC k) rfl;have k2:=fk 1 (yD R h2) rfl;exact FV.fi func102 [k1.o,bF,bF,bF,bF,k2.o,bF,bF,bF,.c (pI (mR k R)) [],bF,Cc.k 4 (gI bq [0])] (gc Cc.code (gc (bD h4) (gc (fk 1 (aGq k R h2) rfl) (gc (aO h3) (Au (aJ h1) (gc k2 (Ap (aJ h1) (gc (aO h0) (gc k1 gn)))))))))
end
section
variable{R:List (List Cel)}{Ab A6:List Cel}(h0:(i:Int)<(R.length:Int))(h1:inR ((i:Int)-1))(h2:R[((i:Int)-1).toNat]? = some Ab)(h3:0≤((i:Int)-1))(h4:R[i]? = some A6)(h5:aN k≤(Ab.length:Int))(h6:aN k≤(A6.length:Int))
include h0 h1 h2 h3 h4 h5 h6
theorem aYl(h7:(bV k Ab A6)=0):aA Tp 0 uU (fG k R i) .ret (bS (fG k R i) [(2,(pI 5))]):=have k1:=fk 1 (mQ k Ab A6 h5 h6) rfl;aA.fi (gI [0,1,3,1,5,52] [0]) [bT,.x (.sl Ab.length ((Ab.map cE).flatten)),.x (.sl A6.length ((A6.map cE).flatten)),k1.o,bT] (gc (cP h7) (gc k1 (gc (atm aP h4) (gc (ixn aP h4) (gt ((R.map aP)[(((i:Int)-1).toNat*1)]? = some (.sl Ab.length ((Ab.map cE).flatten))) (aFd (i:=((i:Int)-1).toNat) h2) (gc (aFe (g:=aP) h3 h2) (gc h1 (g0 h0))))))))
theorem aYm(h7:(bV k Ab A6)≠0)(h8:(0:Int)<(bV k Ab A6)):aA Tp 0 uU (fG k R i) .ret (bS (fG k R i) [(2,(pI 4))]):=have k1:=fk 1 (mQ k Ab A6 h5 h6) rfl;aA.fi (gI [0,1,3,1,5,52] [0]) [bT,.x (.sl Ab.length ((Ab.map cE).flatten)),.x (.sl A6.length ((A6.map cE).flatten)),k1.o,bF,bT] (gc (bJ h8) (gc (bA h7) (gc k1 (gc (atm aP h4) (gc (ixn aP h4) (gt ((R.map aP)[(((i:Int)-1).toNat*1)]? = some (.sl Ab.length ((Ab.map cE).flatten))) (aFd (i:=((i:Int)-1).toNat) h2) (gc (aFe (g:=aP) h3 h2) (gc h1 (g0 h0)))))))))
theorem aYn{i':Nat}(h7:(bV k Ab A6)≠0)(h8:(bV k Ab A6)≤0)(h9:cq i)(Ai:i'=(i+1)):aA Tp 0 uU (fG k R i) .normal (fG k R i'):=by
 subst Ai;have k1:=fk 1 (mQ k Ab A6 h5 h6) rfl;exact aA.fi (gI bq [0]) [bT,.x (.sl Ab.length ((Ab.map cE).flatten)),.x (.sl A6.length ((A6.map cE).flatten)),k1.o,bF,bF] (gc h9 (gc (aJ h8) (gc (bA h7) (gc k1 (gc (atm aP h4) (gc (ixn aP h4) (gt ((R.map aP)[(((i:Int)-1).toNat*1)]? = some (.sl Ab.length ((Ab.map cE).flatten))) (aFd (i:=((i:Int)-1).toNat) h2) (gc (aFe (g:=aP) h3 h2) (gc h1 (g0 h0))))))))))
end
theorem aDz{R:List (List Cel)}(h0:(R.length:Int)≤(i:Int)):aA Tp 0 uU (fG k R i) (.exit 1) (fG k R i):=aA.fi (gI bq [0]) [bF] (gc (aJ h0) gn)
def aYo(k:Int):List (List Cel)→Int
 | a::b::l=>if bV k a b=0 then 5 else if 0<bV k a b then 4 else aYo k (b::l)
 | _=>0
def fA(k:Int)(R:List (List Cel)):Int:=if within k 0 4=false then 1 else if 200<R.length∨R.all El=false then 2 else if mR k R≠0 then mR k R else aYo k R
theorem rK(k:Int):aN k≤((aK k).length:Int):=by
 unfold aN aK
 by_cases h0:k=0
 ·subst h0;decide
 ·by_cases h1:k=1
  ·subst h1;decide
  ·by_cases h2:k=2
   ·subst h2;decide
   ·by_cases h3:k=3
    ·subst h3;decide
    ·simp [h0,h1,h2,h3]
theorem aSi{k:Int}{x:List Cel}(h0:El x=true)(h:fR k x=true):x.length=(aK k).length:=by
 have h0:=of_decide_eq_true h0;unfold fR at h
 rw [aAh] at h
 rcases h with h | h
 ·have:=of_decide_eq_true h;omega
 ·have:=eq_of_beq h;omega
theorem bHo{k:Int}{x:List Cel}(h0:El x=true)(h:fR k x=true):aN k≤(x.length:Int):=by
 rw [aSi h0 h];exact rK k
theorem aSj{k:Int}{R:List (List Cel)}(h:mR k R≠2):R.all (fR k)=true:=by
 cases q:R.all (fR k)
 ·exact absurd (by unfold mR;rw [if_pos q]) h
 ·rfl
theorem aKf{k:Int}{R:List (List Cel)}(hR:R.length≤200)(hk:∀ x∈R,aN k≤(x.length:Int)):∀ (l:List (List Cel)) (i:Nat),1≤i→R.drop (i-1)=l →
  (aYo k l=0∧∃ j,aE Tp 0 uU (fG k R i) (.exit 1) (fG k R j))∨(aYo k l≠0∧∃ j,aYo k l=aDy k R j∧aE Tp 0 uU (fG k R i) .ret (bS (fG k R j) [(2,(pI (aDy k R j)))]))
 | [],i,hi,hd=>by
  have hl:R.length≤i-1:=List.drop_eq_nil_iff.1 hd;exact .inl ⟨rfl,i,.exit (aDz (by omega)) (by simp)⟩
 | [a],i,hi,hd=>by
  have hl:=congrArg List.length hd;rw [pD,List.length_singleton] at hl
  exact .inl ⟨rfl,i,.exit (aDz (by omega)) (by simp)⟩
 | a::b::l,i,hi,hd=>by
  have hl:=congrArg List.length hd;rw [pD,fQ,fQ] at hl
  have ha:R[i-1]? = some a:=by
   have:=congrArg (fun l:List (List Cel)=>l[0]?) hd
   simpa using this
  have hb:R[i]? = some b:=by
   have:=congrArg (fun l:List (List Cel)=>l[1]?) hd
   rw [List.getElem?_drop] at this
   rw [show i-1+1=i by omega] at this
   simpa using this
  have E5:R[((i:Int)-1).toNat]? = some a:=by rw [show ((i:Int)-1).toNat=i-1 by omega];exact ha
  have ka:=hk a (Ci ha);have kb:=hk b (Ci hb);have Ev:R.drop (i+1-1)=b::l:=by
   have:=congrArg List.tail hd;rw [List.tail_drop] at this
   rw [show i+1-1=i-1+1 by omega];exact this
  have hat:aDy k R i=if bV k a b=0 then 5 else 4:=by unfold aDy;rw [ha,hb];rfl
  unfold aYo
  by_cases h0:bV k a b=0
  ·rw [if_pos h0]
   rw [if_pos h0] at hat
   refine .inr ⟨by decide,i,hat.symm,?_⟩
   rw [hat];exact .exit (aYl (by omega) (by show _∧_;omega) E5 (by omega) hb ka kb h0) (by simp)
  ·rw [if_neg h0]
   by_cases h1:0<bV k a b
   ·rw [if_pos h1]
    rw [if_neg h0] at hat
    refine .inr ⟨by decide,i,hat.symm,?_⟩
    rw [hat];exact .exit (aYm (by omega) (by show _∧_;omega) E5 (by omega) hb ka kb h0 h1) (by simp)
   ·rw [if_neg h1]
    have hs:aA Tp 0 uU (fG k R i) .normal (fG k R (i+1)):=aYn (by omega) (by show _∧_;omega) E5 (by omega) hb ka kb h0 (by omega) (aL (by omega)) rfl
    rcases aKf hR hk (b::l) (i+1) (by omega) Ev with ⟨q,j,L⟩ | ⟨q,j,q2,L⟩
    ·exact .inl ⟨q,j,.step hs L⟩
    ·exact .inr ⟨q,j,q2,.step hs L⟩
theorem iU(k:Int)(R:List (List Cel)){base:Nat}:FV Tp 102 [.p (.agg [aB k,bW R])] base (pI (fA k R)) []:=by
 unfold fA;cases hk:within k 0 4
 ·rw [if_pos rfl];exact bXm hk
 ·rw [if_neg (by simp)]
  by_cases hl:200<R.length
  ·rw [if_pos (.inl hl)];exact bXn hk (by omega)
  ·cases hn:R.all El
   ·rw [if_pos (.inr rfl)];exact bXo hk (by omega) (by omega) hn
   ·rw [if_neg (by simp [hl])]
    by_cases hc:mR k R=0
    ·rw [if_neg (by simp [hc])]
     have hf:=aSj (k:=k) (R:=R) (by rw [hc];decide)
     rw [jI] at hf
     have Lh:=hn;rw [jI] at Lh
     rcases aKf (k:=k) (R:=R) (by omega) (fun x hx=>bHo (Lh x hx) (hf x hx)) R 1 (by omega) rfl with ⟨q,j,L⟩ | ⟨q,j,q2,L⟩
     ·rw [q];exact bXq hk (by omega) (by omega) hn hc L
     ·rw [q2];exact bXr hk (by omega) (by omega) hn hc L rfl
    ·rw [if_pos hc];exact bXp hk (by omega) (by omega) hn hc rfl
end
end KV
end Go.Proofs
section
namespace Go.Proofs
open Go.RowKit
namespace KV
open Tryz
theorem aSp{w:World}{b o:Nat}{v:Value}(h:w.cell? ⟨b,o,none⟩=some v):b<w.heap.size:=by
 unfold World.cell? at h
 cases hb:w.heap[b]? with
 | none=>simp [hb] at h
 | some x=>exact (Em.1 hb).1
theorem aKl{F:Nat→Prop}{w:World}{l:List UInt8}{u:Value}(h:cW F w (aC l) u):u = .string ⟨l.toArray⟩:=by cases h;rfl
theorem bPc(l:List (List UInt8))(sep:List UInt8)(h1:l.length≤140737488355328)(h2:(Lib.join l sep).length≤140737488355328){base:Nat}:FV Tp 50 [.p (.sl l.length (l.map aC)),.p (aC sep)] base (.p (aC (Lib.join l sep))) []:=FV.ofc rfl fun C w us hus hM=>by
 cases hus with | cons _ u _ k h hr =>
 cases hr with | cons _ u2 _ k2 M5 Dj =>
 cases Dj;cases M5 with | p _ _ M5 =>
 obtain rfl:=aKl M5;cases h with | p _ _ h =>
 cases h with | sl _ _ p cap vs q1 q2 q3 q4 q5 =>
 by_cases h0:l=[]
 ·subst h0
  refine (Tryz.strings_Join_none p cap ⟨sep.toArray⟩ w).mono ?_;rintro e w' ⟨rfl,rfl⟩;exact ⟨_,rfl,Below.refl _ _,.p _ _ (.v _)⟩
 ·have hl:0<l.length:=List.length_pos_iff.2 h0
  obtain ⟨b,o,hp,_,Ke⟩:=q3 0 (by simpa using hl)
  subst hp;have hlen:l.length=(l.map fun x=>(⟨x.toArray⟩:ByteArray)).length:=by simp
  have ex:(l.map fun x=>(⟨x.toArray⟩:ByteArray)).map (·.data.toList)=l:=by simp [aCa,Function.comp_def]
  have:=Tryz.strings_Join b o cap (l.map fun x=>(⟨x.toArray⟩:ByteArray)) ⟨sep.toArray⟩ w (fun j x hx=>by
    rw [uL] at hx
    obtain ⟨y,hy,rfl⟩:=Dl.1 hx;have hj:=(Cq.1 hy).1;obtain ⟨b',o',hp,_,hc⟩:=q3 j (by simpa using hj)
    cases hp;rw [hc];have hr:=q4 j (by simpa using hj)
    rw [iR] at hr
    have e:l[j]=y:=(Cq.1 hy).2;rw [e] at hr
    exact congrArg some (aKl hr)) (aSp Ke) (by simpa using h1) (by simpa using q1) (by rw [ex];exact h2)
  rw [ex,pE] at this
  refine this.mono ?_;rintro e w' ⟨rfl,hb⟩;exact ⟨_,rfl,hb,.p _ _ (.v _)⟩
end KV
end Go.Proofs
end
namespace Go.Proofs
namespace KV
open Tryz
section
variable {k B2:Int}{i j j' Av base:Nat}

noncomputable abbrev oX:Code:=pS (cd Tryz.f28) 5 [0,1,0,0]
noncomputable abbrev aDx:Code:=pS (cd Tryz.f28) 5 [0,1,0,0,1,1,0,0,1,1,0,1,0,0]
theorem bQx:0≤(0:Int)∧(0:Int)<5:=by first | decide | simp
theorem bQy:0≤(1:Int)∧(1:Int)<5:=by first | decide | simp
theorem bQz:0≤(2:Int)∧(2:Int)<5:=by first | decide | simp
theorem bRa:0≤(3:Int)∧(3:Int)<5:=by first | decide | simp
theorem bRb:0≤(4:Int)∧(4:Int)<5:=by first | decide | simp
def stE(s:List UInt8):List PV:=[aC s]
theorem jZ:∀ l:List (List UInt8),(l.map stE).flatten=l.map aC
 | []=>rfl
 | s::l=>by rw [kN,vS,jZ l];rfl
theorem bHn(l:List (List UInt8))(sep:List UInt8)(h1:l.length≤140737488355328)(h2:(Lib.join l sep).length≤140737488355328){base:Nat}:FV Tp 50 [.p (.sl l.length ((l.map stE).flatten)),.p (aC sep)] base (.p (aC (Lib.join l sep))) []:=by rw [jZ];exact bPc l sep h1 h2
theorem bXb{l:List (List UInt8)}(h0:l.length≤140737488355328)(h1:(Lib.join l ([32]:List UInt8)).length≤140737488355328)(h2:(Lib.join l ([32]:List UInt8)).length+([10]:List UInt8).length≤4611686018427387904):FV Tp 118 [(.p (.sl l.length ((l.map stE).flatten)))] base (.p (aC ((Lib.join l ([32]:List UInt8))++([10]:List UInt8)))) []:=have k1:=fk 0 (bHn l ([32]:List UInt8) h0 h1) rfl;FV.fi func118 [k1.o] (gc h2 (gc k1 gn))
def lnM(l:List (List UInt8)):List UInt8:=Lib.join l [32]++[10]
theorem eJ(l:List (List UInt8))(h1:l.length≤1000000)(h2:(Lib.join l [32]).length≤1000000){base:Nat}:FV Tp 118 [.p (.sl l.length ((l.map stE).flatten))] base (.p (aC (lnM l))) []:=bXb (by omega) (by omega) (by simp;omega)
def cQ(k:Int)(R:List (List Cel))(i:Nat)(o:List UInt8):St:=⟨fr 81 [(2,(.p (aC ([]:List UInt8)))),(3,(pI 0)),(5,(.p (aC o))),(6,(.p (bO (aK k)))),(8,(.ptr 0 0)),(38,(.p (.sl R.length (R.map aP)))),(39,(pI (R.length:Int))),(40,(pI (i:Int)))],[some (.box 214 [(.fn 224 [] [(.rp [(PV.fn 188 [] [])] 0)]),(.fn 225 [] [(.rp [(PV.fn 120 [] [])] 0)]),(.fn 226 [] [(.rp [(aB 999999)] 0)]),(.fn 224 [] [(.rp [(PV.fn 39 [] [])] 0)]),(.fn 225 [] [(.rp [(PV.fn 189 [] [])] 0)]),(.fn 226 [] [(.rp [(aB 360000)] 0)]),(.fn 227 [] [(.rp [(PV.fn 191 [] [])] 0)]),(.fn 228 [] []),(.fn 229 [] [(.rp [(PV.fn 191 [] [])] 0)]),(.fn 227 [] [(.rp [(PV.fn 192 [] [])] 0)]),(.fn 228 [] []),(.fn 229 [] [(.rp [(PV.fn 192 [] [])] 0)])])]⟩
theorem bXc{R:List (List Cel)}{r0:Int}(h0:(fA k R)≠0)(Ao:r0=(fA k R)):FV Tp 28 [(.p (.agg [(aB k),(.sl R.length (R.map aP))]))] base (.tup [(.p (aC ([]:List UInt8))),(pI r0)]) []:=by
 subst Ao;exact FV.fi func28 [.c (pI (fA k R)) [],bT] (gc (cL h0) (gc (fk 1 (iU k R) rfl) gn))
section
variable{R:List (List Cel)}{Aj:List UInt8}(h0:(fA k R)=0)(Bu:k=0)(h2:inR (R.length:Int))(h3:([([107,108,105,115,116,101,114]:List UInt8),([115,116,97,114,116,115]:List UInt8),(Lib.itoa (R.length:Int))]:List (List UInt8)).length≤1000000)(h4:(Lib.join ([([107,108,105,115,116,101,114]:List UInt8),([115,116,97,114,116,115]:List UInt8),(Lib.itoa (R.length:Int))]:List (List UInt8)) [32]).length≤1000000)(Cc:aE Tp 0 oX (cQ k R 0 (lnM ([([107,108,105,115,116,101,114]:List UInt8),([115,116,97,114,116,115]:List UInt8),(Lib.itoa (R.length:Int))]:List (List UInt8)))) (.exit 0) (cQ k R Av Aj))
include h0 Bu h2 h3 h4 Cc
theorem bXd(h6:Aj.length≤65536)(h7:inR (bN Aj))(h8:([([115,117,109]:List UInt8),(Lib.itoa (bN Aj))]:List (List UInt8)).length≤1000000)(h9:(Lib.join ([([115,117,109]:List UInt8),(Lib.itoa (bN Aj))]:List (List UInt8)) [32]).length≤1000000)(Ba:Aj.length+(lnM ([([115,117,109]:List UInt8),(Lib.itoa (bN Aj))]:List (List UInt8))).length≤4611686018427387904):FV Tp 28 [(.p (.agg [(aB k),(.sl R.length (R.map aP))]))] base (.tup [(.p (aC (Aj++(lnM ([([115,117,109]:List UInt8),(Lib.itoa (bN Aj))]:List (List UInt8)))))),(pI 0)]) []:=by
 subst Bu;have k1:=fk 1 (iU 0 R) rfl;have k2:=fk 1 (kP) rfl;have k3:=fk 10 (dJ (R.length:Int) h2) rfl;have k4:=fk 19 (fF 0) rfl;have k5:=fk 19 (eT) rfl;have k6:=fk 1 (mI Aj h6) rfl;have k7:=fk 1 (dJ (bN Aj) h7) rfl;exact FV.fi func28 [k1.o,bF,k2.o,k3.o,.c (.p (aC (lnM ([([107,108,105,115,116,101,114]:List UInt8),([115,116,97,114,116,115]:List UInt8),(Lib.itoa (R.length:Int))]:List (List UInt8))))) [(18,.dead)],k4.o,k5.o,.k 4 (gI an [19]) (.exit 0) (cQ 0 R Av Aj),k6.o,k7.o,.c (.p (aC (lnM ([([115,117,109]:List UInt8),(Lib.itoa (bN Aj))]:List (List UInt8))))) [(1,.dead)]] (gc Ba (gt (FC Tp 118 [(.own 1)] [(1,(.row 9 2 [(aC ([115,117,109]:List UInt8)),(aC (Lib.itoa (bN Aj)))]))] 2 (.p (aC (lnM ([([115,117,109]:List UInt8),(Lib.itoa (bN Aj))]:List (List UInt8))))) [(1,.dead)]) (FV.close (ids:=[1]) (Aw:=[(.p (.sl 2 [(aC ([115,117,109]:List UInt8)),(aC (Lib.itoa (bN Aj)))]))]) (eJ ([([115,117,109]:List UInt8),(Lib.itoa (bN Aj))]:List (List UInt8)) h8 h9) (by kernel_rfl)) (gc k7 (gc k6 (gc Cc.code (gc k5 (gc k4 (gt (FC Tp 118 [(.own 18)] [(18,(.row 9 3 [(aC ([107,108,105,115,116,101,114]:List UInt8)),(aC ([115,116,97,114,116,115]:List UInt8)),(aC (Lib.itoa (R.length:Int)))]))] 19 (.p (aC (lnM ([([107,108,105,115,116,101,114]:List UInt8),([115,116,97,114,116,115]:List UInt8),(Lib.itoa (R.length:Int))]:List (List UInt8))))) [(18,.dead)]) (FV.close (ids:=[18]) (Aw:=[(.p (.sl 3 [(aC ([107,108,105,115,116,101,114]:List UInt8)),(aC ([115,116,97,114,116,115]:List UInt8)),(aC (Lib.itoa (R.length:Int)))]))]) (eJ ([([107,108,105,115,116,101,114]:List UInt8),([115,116,97,114,116,115]:List UInt8),(Lib.itoa (R.length:Int))]:List (List UInt8)) h3 h4) (by kernel_rfl)) (gc k3 (gc bQx (gc k2 (gc (bD h0) (gc k1 gn)))))))))))))
theorem bXe(h6:65536<Aj.length)(h7:inR 0)(h8:([([115,117,109]:List UInt8),(Lib.itoa 0)]:List (List UInt8)).length≤1000000)(h9:(Lib.join ([([115,117,109]:List UInt8),(Lib.itoa 0)]:List (List UInt8)) [32]).length≤1000000)(Ba:Aj.length+(lnM ([([115,117,109]:List UInt8),(Lib.itoa 0)]:List (List UInt8))).length≤4611686018427387904):FV Tp 28 [(.p (.agg [(aB k),(.sl R.length (R.map aP))]))] base (.tup [(.p (aC (Aj++(lnM ([([115,117,109]:List UInt8),(Lib.itoa 0)]:List (List UInt8)))))),(pI 0)]) []:=by
 subst Bu;have k1:=fk 1 (iU 0 R) rfl;have k2:=fk 1 (kP) rfl;have k3:=fk 10 (dJ (R.length:Int) h2) rfl;have k4:=fk 19 (fF 0) rfl;have k5:=fk 19 (eT) rfl;have k6:=fk 1 (qA Aj h6) rfl;have k7:=fk 1 (dJ 0 h7) rfl;exact FV.fi func28 [k1.o,bF,k2.o,k3.o,.c (.p (aC (lnM ([([107,108,105,115,116,101,114]:List UInt8),([115,116,97,114,116,115]:List UInt8),(Lib.itoa (R.length:Int))]:List (List UInt8))))) [(18,.dead)],k4.o,k5.o,.k 4 (gI an [19]) (.exit 0) (cQ 0 R Av Aj),k6.o,k7.o,.c (.p (aC (lnM ([([115,117,109]:List UInt8),(Lib.itoa 0)]:List (List UInt8))))) [(1,.dead)]] (gc Ba (gt (FC Tp 118 [(.own 1)] [(1,(.row 9 2 [(aC ([115,117,109]:List UInt8)),(aC (Lib.itoa 0))]))] 2 (.p (aC (lnM ([([115,117,109]:List UInt8),(Lib.itoa 0)]:List (List UInt8))))) [(1,.dead)]) (FV.close (ids:=[1]) (Aw:=[(.p (.sl 2 [(aC ([115,117,109]:List UInt8)),(aC (Lib.itoa 0))]))]) (eJ ([([115,117,109]:List UInt8),(Lib.itoa 0)]:List (List UInt8)) h8 h9) (by kernel_rfl)) (gc k7 (gc k6 (gc Cc.code (gc k5 (gc k4 (gt (FC Tp 118 [(.own 18)] [(18,(.row 9 3 [(aC ([107,108,105,115,116,101,114]:List UInt8)),(aC ([115,116,97,114,116,115]:List UInt8)),(aC (Lib.itoa (R.length:Int)))]))] 19 (.p (aC (lnM ([([107,108,105,115,116,101,114]:List UInt8),([115,116,97,114,116,115]:List UInt8),(Lib.itoa (R.length:Int))]:List (List UInt8))))) [(18,.dead)]) (FV.close (ids:=[18]) (Aw:=[(.p (.sl 3 [(aC ([107,108,105,115,116,101,114]:List UInt8)),(aC ([115,116,97,114,116,115]:List UInt8)),(aC (Lib.itoa (R.length:Int)))]))]) (eJ ([([107,108,105,115,116,101,114]:List UInt8),([115,116,97,114,116,115]:List UInt8),(Lib.itoa (R.length:Int))]:List (List UInt8)) h3 h4) (by kernel_rfl)) (gc k3 (gc bQx (gc k2 (gc (bD h0) (gc k1 gn)))))))))))))
end
section
variable{R:List (List Cel)}{Aj:List UInt8}(h0:(fA k R)=0)(Bu:k=1)(h2:inR (R.length:Int))(h3:([([107,108,105,115,116,101,114]:List UInt8),([112,97,115,115,101,115]:List UInt8),(Lib.itoa (R.length:Int))]:List (List UInt8)).length≤1000000)(h4:(Lib.join ([([107,108,105,115,116,101,114]:List UInt8),([112,97,115,115,101,115]:List UInt8),(Lib.itoa (R.length:Int))]:List (List UInt8)) [32]).length≤1000000)(Cc:aE Tp 0 oX (cQ k R 0 (lnM ([([107,108,105,115,116,101,114]:List UInt8),([112,97,115,115,101,115]:List UInt8),(Lib.itoa (R.length:Int))]:List (List UInt8)))) (.exit 0) (cQ k R Av Aj))
include h0 Bu h2 h3 h4 Cc
theorem bXf(h6:Aj.length≤65536)(h7:inR (bN Aj))(h8:([([115,117,109]:List UInt8),(Lib.itoa (bN Aj))]:List (List UInt8)).length≤1000000)(h9:(Lib.join ([([115,117,109]:List UInt8),(Lib.itoa (bN Aj))]:List (List UInt8)) [32]).length≤1000000)(Ba:Aj.length+(lnM ([([115,117,109]:List UInt8),(Lib.itoa (bN Aj))]:List (List UInt8))).length≤4611686018427387904):FV Tp 28 [(.p (.agg [(aB k),(.sl R.length (R.map aP))]))] base (.tup [(.p (aC (Aj++(lnM ([([115,117,109]:List UInt8),(Lib.itoa (bN Aj))]:List (List UInt8)))))),(pI 0)]) []:=by
 subst Bu;have k1:=fk 1 (iU 1 R) rfl;have k2:=fk 1 (kP) rfl;have k3:=fk 10 (dJ (R.length:Int) h2) rfl;have k4:=fk 19 (fF 1) rfl;have k5:=fk 19 (eT) rfl;have k6:=fk 1 (mI Aj h6) rfl;have k7:=fk 1 (dJ (bN Aj) h7) rfl;exact FV.fi func28 [k1.o,bF,k2.o,k3.o,.c (.p (aC (lnM ([([107,108,105,115,116,101,114]:List UInt8),([112,97,115,115,101,115]:List UInt8),(Lib.itoa (R.length:Int))]:List (List UInt8))))) [(18,.dead)],k4.o,k5.o,.k 4 (gI an [19]) (.exit 0) (cQ 1 R Av Aj),k6.o,k7.o,.c (.p (aC (lnM ([([115,117,109]:List UInt8),(Lib.itoa (bN Aj))]:List (List UInt8))))) [(1,.dead)]] (gc Ba (gt (FC Tp 118 [(.own 1)] [(1,(.row 9 2 [(aC ([115,117,109]:List UInt8)),(aC (Lib.itoa (bN Aj)))]))] 2 (.p (aC (lnM ([([115,117,109]:List UInt8),(Lib.itoa (bN Aj))]:List (List UInt8))))) [(1,.dead)]) (FV.close (ids:=[1]) (Aw:=[(.p (.sl 2 [(aC ([115,117,109]:List UInt8)),(aC (Lib.itoa (bN Aj)))]))]) (eJ ([([115,117,109]:List UInt8),(Lib.itoa (bN Aj))]:List (List UInt8)) h8 h9) (by kernel_rfl)) (gc k7 (gc k6 (gc Cc.code (gc k5 (gc k4 (gt (FC Tp 118 [(.own 18)] [(18,(.row 9 3 [(aC ([107,108,105,115,116,101,114]:List UInt8)),(aC ([112,97,115,115,101,115]:List UInt8)),(aC (Lib.itoa (R.length:Int)))]))] 19 (.p (aC (lnM ([([107,108,105,115,116,101,114]:List UInt8),([112,97,115,115,101,115]:List UInt8),(Lib.itoa (R.length:Int))]:List (List UInt8))))) [(18,.dead)]) (FV.close (ids:=[18]) (Aw:=[(.p (.sl 3 [(aC ([107,108,105,115,116,101,114]:List UInt8)),(aC ([112,97,115,115,101,115]:List UInt8)),(aC (Lib.itoa (R.length:Int)))]))]) (eJ ([([107,108,105,115,116,101,114]:List UInt8),([112,97,115,115,101,115]:List UInt8),(Lib.itoa (R.length:Int))]:List (List UInt8)) h3 h4) (by kernel_rfl)) (gc k3 (gc bQy (gc k2 (gc (bD h0) (gc k1 gn)))))))))))))
theorem bXg(h6:65536<Aj.length)(h7:inR 0)(h8:([([115,117,109]:List UInt8),(Lib.itoa 0)]:List (List UInt8)).length≤1000000)(h9:(Lib.join ([([115,117,109]:List UInt8),(Lib.itoa 0)]:List (List UInt8)) [32]).length≤1000000)(Ba:Aj.length+(lnM ([([115,117,109]:List UInt8),(Lib.itoa 0)]:List (List UInt8))).length≤4611686018427387904):FV Tp 28 [(.p (.agg [(aB k),(.sl R.length (R.map aP))]))] base (.tup [(.p (aC (Aj++(lnM ([([115,117,109]:List UInt8),(Lib.itoa 0)]:List (List UInt8)))))),(pI 0)]) []:=by
 subst Bu;have k1:=fk 1 (iU 1 R) rfl;have k2:=fk 1 (kP) rfl;have k3:=fk 10 (dJ (R.length:Int) h2) rfl;have k4:=fk 19 (fF 1) rfl;have k5:=fk 19 (eT) rfl;have k6:=fk 1 (qA Aj h6) rfl;have k7:=fk 1 (dJ 0 h7) rfl;exact FV.fi func28 [k1.o,bF,k2.o,k3.o,.c (.p (aC (lnM ([([107,108,105,115,116,101,114]:List UInt8),([112,97,115,115,101,115]:List UInt8),(Lib.itoa (R.length:Int))]:List (List UInt8))))) [(18,.dead)],k4.o,k5.o,.k 4 (gI an [19]) (.exit 0) (cQ 1 R Av Aj),k6.o,k7.o,.c (.p (aC (lnM ([([115,117,109]:List UInt8),(Lib.itoa 0)]:List (List UInt8))))) [(1,.dead)]] (gc Ba (gt (FC Tp 118 [(.own 1)] [(1,(.row 9 2 [(aC ([115,117,109]:List UInt8)),(aC (Lib.itoa 0))]))] 2 (.p (aC (lnM ([([115,117,109]:List UInt8),(Lib.itoa 0)]:List (List UInt8))))) [(1,.dead)]) (FV.close (ids:=[1]) (Aw:=[(.p (.sl 2 [(aC ([115,117,109]:List UInt8)),(aC (Lib.itoa 0))]))]) (eJ ([([115,117,109]:List UInt8),(Lib.itoa 0)]:List (List UInt8)) h8 h9) (by kernel_rfl)) (gc k7 (gc k6 (gc Cc.code (gc k5 (gc k4 (gt (FC Tp 118 [(.own 18)] [(18,(.row 9 3 [(aC ([107,108,105,115,116,101,114]:List UInt8)),(aC ([112,97,115,115,101,115]:List UInt8)),(aC (Lib.itoa (R.length:Int)))]))] 19 (.p (aC (lnM ([([107,108,105,115,116,101,114]:List UInt8),([112,97,115,115,101,115]:List UInt8),(Lib.itoa (R.length:Int))]:List (List UInt8))))) [(18,.dead)]) (FV.close (ids:=[18]) (Aw:=[(.p (.sl 3 [(aC ([107,108,105,115,116,101,114]:List UInt8)),(aC ([112,97,115,115,101,115]:List UInt8)),(aC (Lib.itoa (R.length:Int)))]))]) (eJ ([([107,108,105,115,116,101,114]:List UInt8),([112,97,115,115,101,115]:List UInt8),(Lib.itoa (R.length:Int))]:List (List UInt8)) h3 h4) (by kernel_rfl)) (gc k3 (gc bQy (gc k2 (gc (bD h0) (gc k1 gn)))))))))))))
end
section
variable{R:List (List Cel)}{Aj:List UInt8}(h0:(fA k R)=0)(Bu:k=2)(h2:inR (R.length:Int))(h3:([([107,108,105,115,116,101,114]:List UInt8),([116,97,114,103,101,116,115]:List UInt8),(Lib.itoa (R.length:Int))]:List (List UInt8)).length≤1000000)(h4:(Lib.join ([([107,108,105,115,116,101,114]:List UInt8),([116,97,114,103,101,116,115]:List UInt8),(Lib.itoa (R.length:Int))]:List (List UInt8)) [32]).length≤1000000)(Cc:aE Tp 0 oX (cQ k R 0 (lnM ([([107,108,105,115,116,101,114]:List UInt8),([116,97,114,103,101,116,115]:List UInt8),(Lib.itoa (R.length:Int))]:List (List UInt8)))) (.exit 0) (cQ k R Av Aj))
include h0 Bu h2 h3 h4 Cc
theorem bXh(h6:Aj.length≤65536)(h7:inR (bN Aj))(h8:([([115,117,109]:List UInt8),(Lib.itoa (bN Aj))]:List (List UInt8)).length≤1000000)(h9:(Lib.join ([([115,117,109]:List UInt8),(Lib.itoa (bN Aj))]:List (List UInt8)) [32]).length≤1000000)(Ba:Aj.length+(lnM ([([115,117,109]:List UInt8),(Lib.itoa (bN Aj))]:List (List UInt8))).length≤4611686018427387904):FV Tp 28 [(.p (.agg [(aB k),(.sl R.length (R.map aP))]))] base (.tup [(.p (aC (Aj++(lnM ([([115,117,109]:List UInt8),(Lib.itoa (bN Aj))]:List (List UInt8)))))),(pI 0)]) []:=by
 subst Bu;have k1:=fk 1 (iU 2 R) rfl;have k2:=fk 1 (kP) rfl;have k3:=fk 10 (dJ (R.length:Int) h2) rfl;have k4:=fk 19 (fF 2) rfl;have k5:=fk 19 (eT) rfl;have k6:=fk 1 (mI Aj h6) rfl;have k7:=fk 1 (dJ (bN Aj) h7) rfl;exact FV.fi func28 [k1.o,bF,k2.o,k3.o,.c (.p (aC (lnM ([([107,108,105,115,116,101,114]:List UInt8),([116,97,114,103,101,116,115]:List UInt8),(Lib.itoa (R.length:Int))]:List (List UInt8))))) [(18,.dead)],k4.o,k5.o,.k 4 (gI an [19]) (.exit 0) (cQ 2 R Av Aj),k6.o,k7.o,.c (.p (aC (lnM ([([115,117,109]:List UInt8),(Lib.itoa (bN Aj))]:List (List UInt8))))) [(1,.dead)]] (gc Ba (gt (FC Tp 118 [(.own 1)] [(1,(.row 9 2 [(aC ([115,117,109]:List UInt8)),(aC (Lib.itoa (bN Aj)))]))] 2 (.p (aC (lnM ([([115,117,109]:List UInt8),(Lib.itoa (bN Aj))]:List (List UInt8))))) [(1,.dead)]) (FV.close (ids:=[1]) (Aw:=[(.p (.sl 2 [(aC ([115,117,109]:List UInt8)),(aC (Lib.itoa (bN Aj)))]))]) (eJ ([([115,117,109]:List UInt8),(Lib.itoa (bN Aj))]:List (List UInt8)) h8 h9) (by kernel_rfl)) (gc k7 (gc k6 (gc Cc.code (gc k5 (gc k4 (gt (FC Tp 118 [(.own 18)] [(18,(.row 9 3 [(aC ([107,108,105,115,116,101,114]:List UInt8)),(aC ([116,97,114,103,101,116,115]:List UInt8)),(aC (Lib.itoa (R.length:Int)))]))] 19 (.p (aC (lnM ([([107,108,105,115,116,101,114]:List UInt8),([116,97,114,103,101,116,115]:List UInt8),(Lib.itoa (R.length:Int))]:List (List UInt8))))) [(18,.dead)]) (FV.close (ids:=[18]) (Aw:=[(.p (.sl 3 [(aC ([107,108,105,115,116,101,114]:List UInt8)),(aC ([116,97,114,103,101,116,115]:List UInt8)),(aC (Lib.itoa (R.length:Int)))]))]) (eJ ([([107,108,105,115,116,101,114]:List UInt8),([116,97,114,103,101,116,115]:List UInt8),(Lib.itoa (R.length:Int))]:List (List UInt8)) h3 h4) (by kernel_rfl)) (gc k3 (gc bQz (gc k2 (gc (bD h0) (gc k1 gn)))))))))))))
theorem bXi(h6:65536<Aj.length)(h7:inR 0)(h8:([([115,117,109]:List UInt8),(Lib.itoa 0)]:List (List UInt8)).length≤1000000)(h9:(Lib.join ([([115,117,109]:List UInt8),(Lib.itoa 0)]:List (List UInt8)) [32]).length≤1000000)(Ba:Aj.length+(lnM ([([115,117,109]:List UInt8),(Lib.itoa 0)]:List (List UInt8))).length≤4611686018427387904):FV Tp 28 [(.p (.agg [(aB k),(.sl R.length (R.map aP))]))] base (.tup [(.p (aC (Aj++(lnM ([([115,117,109]:List UInt8),(Lib.itoa 0)]:List (List UInt8)))))),(pI 0)]) []:=by
 subst Bu;have k1:=fk 1 (iU 2 R) rfl;have k2:=fk 1 (kP) rfl;have k3:=fk 10 (dJ (R.length:Int) h2) rfl;have k4:=fk 19 (fF 2) rfl;have k5:=fk 19 (eT) rfl;have k6:=fk 1 (qA Aj h6) rfl;have k7:=fk 1 (dJ 0 h7) rfl;exact FV.fi func28 [k1.o,bF,k2.o,k3.o,.c (.p (aC (lnM ([([107,108,105,115,116,101,114]:List UInt8),([116,97,114,103,101,116,115]:List UInt8),(Lib.itoa (R.length:Int))]:List (List UInt8))))) [(18,.dead)],k4.o,k5.o,.k 4 (gI an [19]) (.exit 0) (cQ 2 R Av Aj),k6.o,k7.o,.c (.p (aC (lnM ([([115,117,109]:List UInt8),(Lib.itoa 0)]:List (List UInt8))))) [(1,.dead)]] (gc Ba (gt (FC Tp 118 [(.own 1)] [(1,(.row 9 2 [(aC ([115,117,109]:List UInt8)),(aC (Lib.itoa 0))]))] 2 (.p (aC (lnM ([([115,117,109]:List UInt8),(Lib.itoa 0)]:List (List UInt8))))) [(1,.dead)]) (FV.close (ids:=[1]) (Aw:=[(.p (.sl 2 [(aC ([115,117,109]:List UInt8)),(aC (Lib.itoa 0))]))]) (eJ ([([115,117,109]:List UInt8),(Lib.itoa 0)]:List (List UInt8)) h8 h9) (by kernel_rfl)) (gc k7 (gc k6 (gc Cc.code (gc k5 (gc k4 (gt (FC Tp 118 [(.own 18)] [(18,(.row 9 3 [(aC ([107,108,105,115,116,101,114]:List UInt8)),(aC ([116,97,114,103,101,116,115]:List UInt8)),(aC (Lib.itoa (R.length:Int)))]))] 19 (.p (aC (lnM ([([107,108,105,115,116,101,114]:List UInt8),([116,97,114,103,101,116,115]:List UInt8),(Lib.itoa (R.length:Int))]:List (List UInt8))))) [(18,.dead)]) (FV.close (ids:=[18]) (Aw:=[(.p (.sl 3 [(aC ([107,108,105,115,116,101,114]:List UInt8)),(aC ([116,97,114,103,101,116,115]:List UInt8)),(aC (Lib.itoa (R.length:Int)))]))]) (eJ ([([107,108,105,115,116,101,114]:List UInt8),([116,97,114,103,101,116,115]:List UInt8),(Lib.itoa (R.length:Int))]:List (List UInt8)) h3 h4) (by kernel_rfl)) (gc k3 (gc bQz (gc k2 (gc (bD h0) (gc k1 gn)))))))))))))
end
section
variable{R:List (List Cel)}{Aj:List UInt8}(h0:(fA k R)=0)(Bu:k=3)(h2:inR (R.length:Int))(h3:([([107,108,105,115,116,101,114]:List UInt8),([106,117,100,103,101,109,101,110,116,115]:List UInt8),(Lib.itoa (R.length:Int))]:List (List UInt8)).length≤1000000)(h4:(Lib.join ([([107,108,105,115,116,101,114]:List UInt8),([106,117,100,103,101,109,101,110,116,115]:List UInt8),(Lib.itoa (R.length:Int))]:List (List UInt8)) [32]).length≤1000000)(Cc:aE Tp 0 oX (cQ k R 0 (lnM ([([107,108,105,115,116,101,114]:List UInt8),([106,117,100,103,101,109,101,110,116,115]:List UInt8),(Lib.itoa (R.length:Int))]:List (List UInt8)))) (.exit 0) (cQ k R Av Aj))
include h0 Bu h2 h3 h4 Cc
theorem bXj(h6:Aj.length≤65536)(h7:inR (bN Aj))(h8:([([115,117,109]:List UInt8),(Lib.itoa (bN Aj))]:List (List UInt8)).length≤1000000)(h9:(Lib.join ([([115,117,109]:List UInt8),(Lib.itoa (bN Aj))]:List (List UInt8)) [32]).length≤1000000)(Ba:Aj.length+(lnM ([([115,117,109]:List UInt8),(Lib.itoa (bN Aj))]:List (List UInt8))).length≤4611686018427387904):FV Tp 28 [(.p (.agg [(aB k),(.sl R.length (R.map aP))]))] base (.tup [(.p (aC (Aj++(lnM ([([115,117,109]:List UInt8),(Lib.itoa (bN Aj))]:List (List UInt8)))))),(pI 0)]) []:=by
 subst Bu;have k1:=fk 1 (iU 3 R) rfl;have k2:=fk 1 (kP) rfl;have k3:=fk 10 (dJ (R.length:Int) h2) rfl;have k4:=fk 19 (fF 3) rfl;have k5:=fk 19 (eT) rfl;have k6:=fk 1 (mI Aj h6) rfl;have k7:=fk 1 (dJ (bN Aj) h7) rfl;exact FV.fi func28 [k1.o,bF,k2.o,k3.o,.c (.p (aC (lnM ([([107,108,105,115,116,101,114]:List UInt8),([106,117,100,103,101,109,101,110,116,115]:List UInt8),(Lib.itoa (R.length:Int))]:List (List UInt8))))) [(18,.dead)],k4.o,k5.o,.k 4 (gI an [19]) (.exit 0) (cQ 3 R Av Aj),k6.o,k7.o,.c (.p (aC (lnM ([([115,117,109]:List UInt8),(Lib.itoa (bN Aj))]:List (List UInt8))))) [(1,.dead)]] (gc Ba (gt (FC Tp 118 [(.own 1)] [(1,(.row 9 2 [(aC ([115,117,109]:List UInt8)),(aC (Lib.itoa (bN Aj)))]))] 2 (.p (aC (lnM ([([115,117,109]:List UInt8),(Lib.itoa (bN Aj))]:List (List UInt8))))) [(1,.dead)]) (FV.close (ids:=[1]) (Aw:=[(.p (.sl 2 [(aC ([115,117,109]:List UInt8)),(aC (Lib.itoa (bN Aj)))]))]) (eJ ([([115,117,109]:List UInt8),(Lib.itoa (bN Aj))]:List (List UInt8)) h8 h9) (by kernel_rfl)) (gc k7 (gc k6 (gc Cc.code (gc k5 (gc k4 (gt (FC Tp 118 [(.own 18)] [(18,(.row 9 3 [(aC ([107,108,105,115,116,101,114]:List UInt8)),(aC ([106,117,100,103,101,109,101,110,116,115]:List UInt8)),(aC (Lib.itoa (R.length:Int)))]))] 19 (.p (aC (lnM ([([107,108,105,115,116,101,114]:List UInt8),([106,117,100,103,101,109,101,110,116,115]:List UInt8),(Lib.itoa (R.length:Int))]:List (List UInt8))))) [(18,.dead)]) (FV.close (ids:=[18]) (Aw:=[(.p (.sl 3 [(aC ([107,108,105,115,116,101,114]:List UInt8)),(aC ([106,117,100,103,101,109,101,110,116,115]:List UInt8)),(aC (Lib.itoa (R.length:Int)))]))]) (eJ ([([107,108,105,115,116,101,114]:List UInt8),([106,117,100,103,101,109,101,110,116,115]:List UInt8),(Lib.itoa (R.length:Int))]:List (List UInt8)) h3 h4) (by kernel_rfl)) (gc k3 (gc bRa (gc k2 (gc (bD h0) (gc k1 gn)))))))))))))
theorem bXk(h6:65536<Aj.length)(h7:inR 0)(h8:([([115,117,109]:List UInt8),(Lib.itoa 0)]:List (List UInt8)).length≤1000000)(h9:(Lib.join ([([115,117,109]:List UInt8),(Lib.itoa 0)]:List (List UInt8)) [32]).length≤1000000)(Ba:Aj.length+(lnM ([([115,117,109]:List UInt8),(Lib.itoa 0)]:List (List UInt8))).length≤4611686018427387904):FV Tp 28 [(.p (.agg [(aB k),(.sl R.length (R.map aP))]))] base (.tup [(.p (aC (Aj++(lnM ([([115,117,109]:List UInt8),(Lib.itoa 0)]:List (List UInt8)))))),(pI 0)]) []:=by
 subst Bu;have k1:=fk 1 (iU 3 R) rfl;have k2:=fk 1 (kP) rfl;have k3:=fk 10 (dJ (R.length:Int) h2) rfl;have k4:=fk 19 (fF 3) rfl;have k5:=fk 19 (eT) rfl;have k6:=fk 1 (qA Aj h6) rfl;have k7:=fk 1 (dJ 0 h7) rfl;exact FV.fi func28 [k1.o,bF,k2.o,k3.o,.c (.p (aC (lnM ([([107,108,105,115,116,101,114]:List UInt8),([106,117,100,103,101,109,101,110,116,115]:List UInt8),(Lib.itoa (R.length:Int))]:List (List UInt8))))) [(18,.dead)],k4.o,k5.o,.k 4 (gI an [19]) (.exit 0) (cQ 3 R Av Aj),k6.o,k7.o,.c (.p (aC (lnM ([([115,117,109]:List UInt8),(Lib.itoa 0)]:List (List UInt8))))) [(1,.dead)]] (gc Ba (gt (FC Tp 118 [(.own 1)] [(1,(.row 9 2 [(aC ([115,117,109]:List UInt8)),(aC (Lib.itoa 0))]))] 2 (.p (aC (lnM ([([115,117,109]:List UInt8),(Lib.itoa 0)]:List (List UInt8))))) [(1,.dead)]) (FV.close (ids:=[1]) (Aw:=[(.p (.sl 2 [(aC ([115,117,109]:List UInt8)),(aC (Lib.itoa 0))]))]) (eJ ([([115,117,109]:List UInt8),(Lib.itoa 0)]:List (List UInt8)) h8 h9) (by kernel_rfl)) (gc k7 (gc k6 (gc Cc.code (gc k5 (gc k4 (gt (FC Tp 118 [(.own 18)] [(18,(.row 9 3 [(aC ([107,108,105,115,116,101,114]:List UInt8)),(aC ([106,117,100,103,101,109,101,110,116,115]:List UInt8)),(aC (Lib.itoa (R.length:Int)))]))] 19 (.p (aC (lnM ([([107,108,105,115,116,101,114]:List UInt8),([106,117,100,103,101,109,101,110,116,115]:List UInt8),(Lib.itoa (R.length:Int))]:List (List UInt8))))) [(18,.dead)]) (FV.close (ids:=[18]) (Aw:=[(.p (.sl 3 [(aC ([107,108,105,115,116,101,114]:List UInt8)),(aC ([106,117,100,103,101,109,101,110,116,115]:List UInt8)),(aC (Lib.itoa (R.length:Int)))]))]) (eJ ([([107,108,105,115,116,101,114]:List UInt8),([106,117,100,103,101,109,101,110,116,115]:List UInt8),(Lib.itoa (R.length:Int))]:List (List UInt8)) h3 h4) (by kernel_rfl)) (gc k3 (gc bRa (gc k2 (gc (bD h0) (gc k1 gn)))))))))))))
end
section
variable{R:List (List Cel)}{Aj:List UInt8}(h0:(fA k R)=0)(Bu:k=4)(h2:inR (R.length:Int))(h3:([([107,108,105,115,116,101,114]:List UInt8),([99,117,112,115]:List UInt8),(Lib.itoa (R.length:Int))]:List (List UInt8)).length≤1000000)(h4:(Lib.join ([([107,108,105,115,116,101,114]:List UInt8),([99,117,112,115]:List UInt8),(Lib.itoa (R.length:Int))]:List (List UInt8)) [32]).length≤1000000)(Cc:aE Tp 0 oX (cQ k R 0 (lnM ([([107,108,105,115,116,101,114]:List UInt8),([99,117,112,115]:List UInt8),(Lib.itoa (R.length:Int))]:List (List UInt8)))) (.exit 0) (cQ k R Av Aj))
include h0 Bu h2 h3 h4 Cc
theorem bXl(h6:Aj.length≤65536)(h7:inR (bN Aj))(h8:([([115,117,109]:List UInt8),(Lib.itoa (bN Aj))]:List (List UInt8)).length≤1000000)(h9:(Lib.join ([([115,117,109]:List UInt8),(Lib.itoa (bN Aj))]:List (List UInt8)) [32]).length≤1000000)(Ba:Aj.length+(lnM ([([115,117,109]:List UInt8),(Lib.itoa (bN Aj))]:List (List UInt8))).length≤4611686018427387904):FV Tp 28 [(.p (.agg [(aB k),(.sl R.length (R.map aP))]))] base (.tup [(.p (aC (Aj++(lnM ([([115,117,109]:List UInt8),(Lib.itoa (bN Aj))]:List (List UInt8)))))),(pI 0)]) []:=by
 subst Bu;have k1:=fk 1 (iU 4 R) rfl;have k2:=fk 1 (kP) rfl;have k3:=fk 10 (dJ (R.length:Int) h2) rfl;have k4:=fk 19 (fF 4) rfl;have k5:=fk 19 (eT) rfl;have k6:=fk 1 (mI Aj h6) rfl;have k7:=fk 1 (dJ (bN Aj) h7) rfl;exact FV.fi func28 [k1.o,bF,k2.o,k3.o,.c (.p (aC (lnM ([([107,108,105,115,116,101,114]:List UInt8),([99,117,112,115]:List UInt8),(Lib.itoa (R.length:Int))]:List (List UInt8))))) [(18,.dead)],k4.o,k5.o,.k 4 (gI an [19]) (.exit 0) (cQ 4 R Av Aj),k6.o,k7.o,.c (.p (aC (lnM ([([115,117,109]:List UInt8),(Lib.itoa (bN Aj))]:List (List UInt8))))) [(1,.dead)]] (gc Ba (gt (FC Tp 118 [(.own 1)] [(1,(.row 9 2 [(aC ([115,117,109]:List UInt8)),(aC (Lib.itoa (bN Aj)))]))] 2 (.p (aC (lnM ([([115,117,109]:List UInt8),(Lib.itoa (bN Aj))]:List (List UInt8))))) [(1,.dead)]) (FV.close (ids:=[1]) (Aw:=[(.p (.sl 2 [(aC ([115,117,109]:List UInt8)),(aC (Lib.itoa (bN Aj)))]))]) (eJ ([([115,117,109]:List UInt8),(Lib.itoa (bN Aj))]:List (List UInt8)) h8 h9) (by kernel_rfl)) (gc k7 (gc k6 (gc Cc.code (gc k5 (gc k4 (gt (FC Tp 118 [(.own 18)] [(18,(.row 9 3 [(aC ([107,108,105,115,116,101,114]:List UInt8)),(aC ([99,117,112,115]:List UInt8)),(aC (Lib.itoa (R.length:Int)))]))] 19 (.p (aC (lnM ([([107,108,105,115,116,101,114]:List UInt8),([99,117,112,115]:List UInt8),(Lib.itoa (R.length:Int))]:List (List UInt8))))) [(18,.dead)]) (FV.close (ids:=[18]) (Aw:=[(.p (.sl 3 [(aC ([107,108,105,115,116,101,114]:List UInt8)),(aC ([99,117,112,115]:List UInt8)),(aC (Lib.itoa (R.length:Int)))]))]) (eJ ([([107,108,105,115,116,101,114]:List UInt8),([99,117,112,115]:List UInt8),(Lib.itoa (R.length:Int))]:List (List UInt8)) h3 h4) (by kernel_rfl)) (gc k3 (gc bRb (gc k2 (gc (bD h0) (gc k1 gn)))))))))))))
theorem bNw(h6:65536<Aj.length)(h7:inR 0)(h8:([([115,117,109]:List UInt8),(Lib.itoa 0)]:List (List UInt8)).length≤1000000)(h9:(Lib.join ([([115,117,109]:List UInt8),(Lib.itoa 0)]:List (List UInt8)) [32]).length≤1000000)(Ba:Aj.length+(lnM ([([115,117,109]:List UInt8),(Lib.itoa 0)]:List (List UInt8))).length≤4611686018427387904):FV Tp 28 [(.p (.agg [(aB k),(.sl R.length (R.map aP))]))] base (.tup [(.p (aC (Aj++(lnM ([([115,117,109]:List UInt8),(Lib.itoa 0)]:List (List UInt8)))))),(pI 0)]) []:=by
 subst Bu;have k1:=fk 1 (iU 4 R) rfl;have k2:=fk 1 (kP) rfl;have k3:=fk 10 (dJ (R.length:Int) h2) rfl;have k4:=fk 19 (fF 4) rfl;have k5:=fk 19 (eT) rfl;have k6:=fk 1 (qA Aj h6) rfl;have k7:=fk 1 (dJ 0 h7) rfl;exact FV.fi func28 [k1.o,bF,k2.o,k3.o,.c (.p (aC (lnM ([([107,108,105,115,116,101,114]:List UInt8),([99,117,112,115]:List UInt8),(Lib.itoa (R.length:Int))]:List (List UInt8))))) [(18,.dead)],k4.o,k5.o,.k 4 (gI an [19]) (.exit 0) (cQ 4 R Av Aj),k6.o,k7.o,.c (.p (aC (lnM ([([115,117,109]:List UInt8),(Lib.itoa 0)]:List (List UInt8))))) [(1,.dead)]] (gc Ba (gt (FC Tp 118 [(.own 1)] [(1,(.row 9 2 [(aC ([115,117,109]:List UInt8)),(aC (Lib.itoa 0))]))] 2 (.p (aC (lnM ([([115,117,109]:List UInt8),(Lib.itoa 0)]:List (List UInt8))))) [(1,.dead)]) (FV.close (ids:=[1]) (Aw:=[(.p (.sl 2 [(aC ([115,117,109]:List UInt8)),(aC (Lib.itoa 0))]))]) (eJ ([([115,117,109]:List UInt8),(Lib.itoa 0)]:List (List UInt8)) h8 h9) (by kernel_rfl)) (gc k7 (gc k6 (gc Cc.code (gc k5 (gc k4 (gt (FC Tp 118 [(.own 18)] [(18,(.row 9 3 [(aC ([107,108,105,115,116,101,114]:List UInt8)),(aC ([99,117,112,115]:List UInt8)),(aC (Lib.itoa (R.length:Int)))]))] 19 (.p (aC (lnM ([([107,108,105,115,116,101,114]:List UInt8),([99,117,112,115]:List UInt8),(Lib.itoa (R.length:Int))]:List (List UInt8))))) [(18,.dead)]) (FV.close (ids:=[18]) (Aw:=[(.p (.sl 3 [(aC ([107,108,105,115,116,101,114]:List UInt8)),(aC ([99,117,112,115]:List UInt8)),(aC (Lib.itoa (R.length:Int)))]))]) (eJ ([([107,108,105,115,116,101,114]:List UInt8),([99,117,112,115]:List UInt8),(Lib.itoa (R.length:Int))]:List (List UInt8)) h3 h4) (by kernel_rfl)) (gc k3 (gc bRb (gc k2 (gc (bD h0) (gc k1 gn)))))))))))))
end
def gL(k:Int)(R:List (List Cel))(i:Nat)(o:List UInt8)(Ab:List Cel)(j fn:Nat)(fc:List PV):St:=⟨fr 81 [(2,(.p (aC ([]:List UInt8)))),(3,(pI 0)),(5,(.p (aC o))),(6,(.p (bO (aK k)))),(8,(.ptr 0 0)),(10,(.p (.sl Ab.length ((Ab.map cE).flatten)))),(11,(.own 1)),(38,(.p (.sl R.length (R.map aP)))),(39,(pI (R.length:Int))),(40,(pI (i:Int))),(41,(pB (decide ((i:Int)<(R.length:Int))))),(42,(.rp (R.map aP) (i*1))),(43,(.p (.sl Ab.length ((Ab.map cE).flatten)))),(44,(.p (bO (aK k)))),(45,(pI ((aK k).length:Int))),(46,(pI (j:Int)))],[some (.box 214 [(.fn 224 [] [(.rp [(PV.fn 188 [] [])] 0)]),(.fn 225 [] [(.rp [(PV.fn 120 [] [])] 0)]),(.fn 226 [] [(.rp [(aB 999999)] 0)]),(.fn 224 [] [(.rp [(PV.fn 39 [] [])] 0)]),(.fn 225 [] [(.rp [(PV.fn 189 [] [])] 0)]),(.fn 226 [] [(.rp [(aB 360000)] 0)]),(.fn 227 [] [(.rp [(PV.fn 191 [] [])] 0)]),(.fn 228 [] []),(.fn 229 [] [(.rp [(PV.fn 191 [] [])] 0)]),(.fn 227 [] [(.rp [(PV.fn 192 [] [])] 0)]),(.fn 228 [] []),(.fn 229 [] [(.rp [(PV.fn 192 [] [])] 0)])]),some (.row 9 fn fc)]⟩
theorem aYe{R:List (List Cel)}{o:List UInt8}{Ab:List Cel}{Kk:Nat}{Ct:List (List UInt8)}{i':Nat}{o':List UInt8}(h0:(i:Int)<(R.length:Int))(h1:R[i]? = some Ab)(Bi:aE Tp 0 aDx (gL k R i o Ab 0 0 []) (.exit 2) (gL k R i o Ab Kk Ct.length ((Ct.map stE).flatten)))(h3:Ct.length≤1000000)(h4:(Lib.join Ct [32]).length≤1000000)(h5:o.length+(lnM Ct).length≤4611686018427387904)(h6:cq i)(Ai:i'=(i+1))(Kj:o'=(o++(lnM Ct))):aA Tp 0 oX (cQ k R i o) .normal (cQ k R i' o'):=by
 subst Ai Kj;exact aA.fi (gI an [0]) [bT,.x (.sl Ab.length ((Ab.map cE).flatten)),Bi.k 6 (gN aj [0,1] [(11,9)]),.c (.p (aC (lnM Ct))) [(1,.dead)]] (gc h6 (gc h5 (gt (FC Tp 118 [(.own 1)] [(1,(.row 9 Ct.length ((Ct.map stE).flatten)))] 2 (.p (aC (lnM Ct))) [(1,.dead)]) (FV.close (ids:=[1]) (Aw:=[(.p (.sl Ct.length ((Ct.map stE).flatten)))]) (eJ Ct h3 h4) (by kernel_rfl)) (gc Bi.code (gc (atm aP h1) (gc (ixn aP h1) (g0 h0)))))))
theorem aYf{R:List (List Cel)}{o:List UInt8}(h0:(R.length:Int)≤(i:Int)):aA Tp 0 oX (cQ k R i o) (.exit 0) (cQ k R i o):=aA.fi (gI an [0]) [bF] (gc (aJ h0) gn)
section
variable(h0:(j:Int)<((aK k).length:Int))
include h0
theorem aYg{R:List (List Cel)}{o:List UInt8}{Ab:List Cel}{f:List (List UInt8)}{Bw:List UInt8}{f':List (List UInt8)}(h1:(aK k)[j]? = some 0)(h2:Ab[j]? = some (B2,Bw))(h3:inR B2)(h4:[(aC (wrM 0 (B2,Bw)))].length=1*1∧f.length+1≤1000000)(h5:cq j)(Cy:j'=(j+1))(F3:f'.length=(f.length+1))(F4:(f'.map stE).flatten=(((f.map stE).flatten)++[(aC (wrM 0 (B2,Bw)))])):aA Tp 0 aDx (gL k R i o Ab j f.length ((f.map stE).flatten)) .normal (gL k R i o Ab j' f'.length ((f'.map stE).flatten)):=by
 subst Cy;have k1:=fk 2 (bZm B2 Bw h3) rfl;rw [F3,F4];exact aA.fi (gI aj [0,11]) [bT,.x (aB 0),.x (.agg [(aB B2),(aC Bw)]),k1.o] (gc h5 (gc h4 (gc k1 (gc (bH (E:=cE) (i:=j) (k:=2) (fun _=>rfl) h2 rfl) (gc (bZ (E:=cE) (i:=j) (k:=2) (fun _=>rfl) h2) (gc (bC (E:=cE) (k:=2) (i:=(j:Int)) (fun _=>rfl) (by decide) (Bf _) h2) (gt (0≤(0:Int)∧(0:Int)<4) (by first | decide | simp) (gc (atm aB h1) (gc (ixn aB h1) (g0 h0))))))))))
theorem aYh{R:List (List Cel)}{o:List UInt8}{Ab:List Cel}{f:List (List UInt8)}{Bw:List UInt8}{f':List (List UInt8)}(h1:(aK k)[j]? = some 1)(h2:Ab[j]? = some (B2,Bw))(h3:[(aC (wrM 1 (B2,Bw)))].length=1*1∧f.length+1≤1000000)(h4:cq j)(Cy:j'=(j+1))(F3:f'.length=(f.length+1))(F4:(f'.map stE).flatten=(((f.map stE).flatten)++[(aC (wrM 1 (B2,Bw)))])):aA Tp 0 aDx (gL k R i o Ab j f.length ((f.map stE).flatten)) .normal (gL k R i o Ab j' f'.length ((f'.map stE).flatten)):=by
 subst Cy;have k1:=fk 2 (bZn B2 Bw) rfl;rw [F3,F4];exact aA.fi (gI aj [0,11]) [bT,.x (aB 1),.x (.agg [(aB B2),(aC Bw)]),k1.o] (gc h4 (gc h3 (gc k1 (gc (bH (E:=cE) (i:=j) (k:=2) (fun _=>rfl) h2 rfl) (gc (bZ (E:=cE) (i:=j) (k:=2) (fun _=>rfl) h2) (gc (bC (E:=cE) (k:=2) (i:=(j:Int)) (fun _=>rfl) (by decide) (Bf _) h2) (gt (0≤(1:Int)∧(1:Int)<4) (by first | decide | simp) (gc (atm aB h1) (gc (ixn aB h1) (g0 h0))))))))))
theorem aYi{R:List (List Cel)}{o:List UInt8}{Ab:List Cel}{f:List (List UInt8)}{Bw:List UInt8}{f':List (List UInt8)}(h1:(aK k)[j]? = some 2)(h2:Ab[j]? = some (B2,Bw))(h3:[(aC (wrM 2 (B2,Bw)))].length=1*1∧f.length+1≤1000000)(h4:cq j)(Cy:j'=(j+1))(F3:f'.length=(f.length+1))(F4:(f'.map stE).flatten=(((f.map stE).flatten)++[(aC (wrM 2 (B2,Bw)))])):aA Tp 0 aDx (gL k R i o Ab j f.length ((f.map stE).flatten)) .normal (gL k R i o Ab j' f'.length ((f'.map stE).flatten)):=by
 subst Cy;have k1:=fk 2 (bHx B2 Bw) rfl;rw [F3,F4];exact aA.fi (gI aj [0,11]) [bT,.x (aB 2),.x (.agg [(aB B2),(aC Bw)]),k1.o] (gc h4 (gc h3 (gc k1 (gc (bH (E:=cE) (i:=j) (k:=2) (fun _=>rfl) h2 rfl) (gc (bZ (E:=cE) (i:=j) (k:=2) (fun _=>rfl) h2) (gc (bC (E:=cE) (k:=2) (i:=(j:Int)) (fun _=>rfl) (by decide) (Bf _) h2) (gt (0≤(2:Int)∧(2:Int)<4) (by first | decide | simp) (gc (atm aB h1) (gc (ixn aB h1) (g0 h0))))))))))
theorem aYj{R:List (List Cel)}{o:List UInt8}{Ab:List Cel}{f:List (List UInt8)}{Bw:List UInt8}{f':List (List UInt8)}(h1:(aK k)[j]? = some 3)(h2:Ab[j]? = some (B2,Bw))(h3:[(aC (wrM 2 (B2,Bw)))].length=1*1∧f.length+1≤1000000)(h4:cq j)(Cy:j'=(j+1))(F3:f'.length=(f.length+1))(F4:(f'.map stE).flatten=(((f.map stE).flatten)++[(aC (wrM 2 (B2,Bw)))])):aA Tp 0 aDx (gL k R i o Ab j f.length ((f.map stE).flatten)) .normal (gL k R i o Ab j' f'.length ((f'.map stE).flatten)):=by
 subst Cy;have k1:=fk 2 (bHx B2 Bw) rfl;rw [F3,F4];exact aA.fi (gI aj [0,11]) [bT,.x (aB 3),.x (.agg [(aB B2),(aC Bw)]),k1.o] (gc h4 (gc h3 (gc k1 (gc (bH (E:=cE) (i:=j) (k:=2) (fun _=>rfl) h2 rfl) (gc (bZ (E:=cE) (i:=j) (k:=2) (fun _=>rfl) h2) (gc (bC (E:=cE) (k:=2) (i:=(j:Int)) (fun _=>rfl) (by decide) (Bf _) h2) (gt (0≤(3:Int)∧(3:Int)<4) (by first | decide | simp) (gc (atm aB h1) (gc (ixn aB h1) (g0 h0))))))))))
end
theorem aYk{R:List (List Cel)}{o:List UInt8}{Ab:List Cel}{f:List (List UInt8)}(h0:((aK k).length:Int)≤(j:Int)):aA Tp 0 aDx (gL k R i o Ab j f.length ((f.map stE).flatten)) (.exit 2) (gL k R i o Ab j f.length ((f.map stE).flatten)):=aA.fi (gI aj [0,1]) [bF] (gc (aJ h0) gn)
end
end KV
end Go.Proofs
section
namespace Go.Proofs
open Go.RowKit
namespace KV
open Tryz
def lG(k:Int)(x:List Cel):List (List UInt8):=List.zipWith wrM (aK k) x
def oW(k:Int):List UInt8:=if k=0 then [115,116,97,114,116,115] else if k=1 then [112,97,115,115,101,115] else if k=2 then [116,97,114,103,101,116,115] else if k=3 then [106,117,100,103,101,109,101,110,116,115] else [99,117,112,115]
def xL(k:Int)(n:Nat):List UInt8:=lnM [[107,108,105,115,116,101,114],oW k,Lib.itoa (n:Int)]
def aKc(k:Int)(R:List (List Cel)):List UInt8:=R.foldl (fun o x=>o++lnM (lG k x)) (xL k R.length)
def rV(b:List UInt8):Int:=if b.length≤65536 then bN b else 0
def bHj(k:Int)(R:List (List Cel)):List UInt8 × Int:=if fA k R≠0 then ([],fA k R) else (aKc k R++lnM [[115,117,109],Lib.itoa (rV (aKc k R))],0)
theorem bNt(t:Int)(c:Cel):ckM t c=0∨ckM t c=3∨ckM t c=11:=by
 unfold ckM
 repeat' split
 all_goals simp
theorem bHk{a:Int}{z:List UInt8}(h:ckM 0 (a,z)=0):0≤a∧a≤999999:=by
 by_cases q:within a 0 999999=true
 ·exact dF.1 q
 ·have e:ckM 0 (a,z)=3:=by simp [ckM,q]
  rw [e] at h;exact absurd h (by decide)
theorem bWu{a:Int}{z:List UInt8}(h:ckM 1 (a,z)=0):0≤a∧a≤360000:=by
 by_cases q:within a 0 360000=true
 ·exact dF.1 q
 ·have e:ckM 1 (a,z)=3:=by simp [ckM,q]
  rw [e] at h;exact absurd h (by decide)
theorem bWv{a:Int}{z:List UInt8}(h:ckM 2 (a,z)=0):kQ z=true∧z.length≤8:=by
 by_cases q:kQ z=true
 ·refine ⟨q,?_⟩
  unfold kQ at q
  rw [Cj] at q
  have:=dF.1 q.1;omega
 ·have e:ckM 2 (a,z)=11:=by simp [ckM,q]
  rw [e] at h;exact absurd h (by decide)
theorem bWw{a:Int}{z:List UInt8}(h:ckM 3 (a,z)=0):kR z=true∧z.length≤12:=by
 by_cases q:kR z=true
 ·refine ⟨q,?_⟩
  unfold kR at q
  rw [Cj] at q
  have:=dF.1 q.1;omega
 ·have e:ckM 3 (a,z)=11:=by simp [ckM,q]
  rw [e] at h;exact absurd h (by decide)
theorem bWx{a:Int}(h:0≤a∧a≤360000):(ptM a).1.length≤66:=by
 have h1:a.tdiv 10=a / 10:=Int.tdiv_eq_ediv_of_nonneg h.1;have h2:a.tdiv 600=a / 600:=Int.tdiv_eq_ediv_of_nonneg h.1;have h3:a.tmod 10=a % 10:=Int.tmod_eq_emod_of_nonneg h.1;have h4:(a.tdiv 10).tmod 60=a.tdiv 10 % 60:=Int.tmod_eq_emod_of_nonneg (by omega)
 have l1:=itl (n:=a.tdiv 600) (by omega)
 have l2:=itl (n:=a.tmod 10) (by omega)
 have l3:=itl (n:=100+(a.tdiv 10).tmod 60) (by omega)
 unfold ptM;rw [if_pos (dF.2 h)];simp only [gR,pD,fQ,List.length_nil];omega
theorem bWy{t:Int}{c:Cel}(ht:t=0∨t=1∨t=2∨t=3)(h:ckM t c=0):(wrM t c).length≤66:=by
 obtain ⟨a,z⟩:=c
 rcases ht with rfl | rfl | rfl | rfl
 ·have:=bHk h
  have:=itl (n:=a) (by omega)
  show (Lib.itoa a).length≤66;omega
 ·exact bWx (bWu h)
 ·have:=(bWv h).2
  show z.length≤66;omega
 ·have:=(bWw h).2
  show z.length≤66;omega
structure aAs (k:Int) (R:List (List Cel)):Prop where
 n:R.length≤200
 w:within k 0 4=true
 len:∀ x∈R,x.length=(aK k).length
 ck:∀ x∈R,∀ (j:Nat) t c,(aK k)[j]? = some t→x[j]? = some c→ckM t c=0
theorem bHl{k:Int}{R:List (List Cel)}(h:fA k R=0):aAs k R:=by
 unfold fA at h
 split at h
 ·cases h
 ·rename_i hk
  split at h
  ·cases h
  ·rename_i hn
   have hl:R.length≤200:=by
    apply Classical.byContradiction;intro q;exact hn (.inl (by omega))
   have hne:R.all El=true:=by
    cases e:R.all El
    ·exact absurd (.inr e) hn
    ·rfl
   split at h
   ·rename_i hc;exact absurd h hc
   ·rename_i hc
    have hc:mR k R=0:=by
     apply Classical.byContradiction;exact hc
    have hf:=aSj (k:=k) (R:=R) (by rw [hc];decide)
    have Hy:=hf;rw [jI] at hf hne
    refine ⟨hl,by simpa using hk,fun x hx=>aSi (hne x hx) (hf x hx),fun x hx j t c h1 h2 => ?_⟩
    unfold mR at hc
    rw [if_neg (by rw [Hy];simp)] at hc
    split at hc
    ·cases hc
    ·rename_i q3
     split at hc
     ·cases hc
     ·rename_i Pp
      have hm:(aKj k x)[j]? = some (ckM t c):=by
       unfold aKj;rw [List.getElem?_zipWith,h1,h2]
      have key:∀ e,¬ (R.any (aKk k e)=true)→ckM t c≠e:=fun e q he=>q (List.any_eq_true.2 ⟨x,hx,List.any_eq_true.2 ⟨_,Ci hm,by simpa using he⟩⟩)
      rcases bNt t c with e | e | e
      ·exact e
      ·exact absurd e (key 3 q3)
      ·exact absurd e (key 11 Pp)
theorem aOx(a b:List UInt8)(r:List (List UInt8))(sep:List UInt8):Lib.join (a::b::r) sep=a++sep++Lib.join (b::r) sep:=by
 simp [Lib.join,List.intercalate]
theorem uT(B:Nat):∀ (l:List (List UInt8)),(∀ s∈l,s.length≤B)→(Lib.join l [32]).length≤l.length*(B+1)
 | [],_=>by simp [Lib.join,List.intercalate]
 | [a],h=>by
  have:=h a (by simp)
  simp [Lib.join,List.intercalate];omega
 | a::b::r,h=>by
  have h1:=h a (by simp)
  have h2:=uT B (b::r) (fun s hs=>h s (by simp at hs ⊢;exact .inr hs))
  rw [aOx,gR,gR,fQ (a:=a),Nat.succ_mul];simp only [fQ,List.length_nil] at h2 ⊢
  omega
theorem iT(k:Int):(aK k).length≤4:=by
 unfold aK;repeat' split
 all_goals simp
theorem bNu{k:Int}{x:List Cel}{s:List UInt8}(h:s∈lG k x):∃ (j:Nat) (t:Int) (c:Cel),(aK k)[j]? = some t∧x[j]? = some c∧s=wrM t c:=by
 obtain ⟨j,hj,e⟩:=List.mem_iff_getElem.1 h;have:(lG k x)[j]? = some s:=by rw [Ch hj,e]
 unfold lG at this
 rw [List.getElem?_zipWith] at this
 cases h1:(aK k)[j]? with
 | none=>rw [h1] at this;simp at this
 | some t =>
  cases h2:x[j]? with
  | none=>rw [h1,h2] at this;simp at this
  | some c=>rw [h1,h2] at this;exact ⟨j,t,c,h1,h2,by simpa using this.symm⟩
theorem aKd{k:Int}{R:List (List Cel)}(hR:aAs k R){x:List Cel}(hx:x∈R):(lG k x).length≤4∧(Lib.join (lG k x) [32]).length≤268:=by
 have hl:(lG k x).length≤4:=by
  have:=iT k;unfold lG;rw [List.length_zipWith];omega
 have:=uT 66 (lG k x) (fun s hs=>by
  obtain ⟨j,t,c,h1,h2,rfl⟩:=bNu hs;exact bWy (iX h1) (hR.ck x hx j t c h1 h2))
 refine ⟨hl,iG this ?_⟩;omega
theorem aDw:∀ (l:List (Int × Cel)) (f:List (List UInt8)),l.foldl (fun f p=>f++[wrM p.1 p.2]) f=f++l.map (fun p=>wrM p.1 p.2)
 | [],f=>by simp
 | p::l,f=>by rw [bMm,aDw l,kN];simp
theorem bHm(k:Int)(x:List Cel):((aK k).zip x).map (fun p=>wrM p.1 p.2)=lG k x:=by
 unfold lG;rw [List.zip,List.map_zipWith]
theorem bWz{l:List Int}{x:List Cel}{j:Nat}{p:Int × Cel}(h:(l.zip x)[j]? = some p):l[j]? = some p.1∧x[j]? = some p.2:=by
 rw [List.zip,List.getElem?_zipWith] at h
 cases h1:l[j]? with
 | none=>rw [h1] at h;simp at h
 | some t =>
  cases h2:x[j]? with
  | none=>rw [h1,h2] at h;simp at h
  | some c=>rw [h1,h2] at h;simp at h;subst h;exact ⟨rfl,rfl⟩
theorem aOy{k:Int}{R:List (List Cel)}(hR:aAs k R){x:List Cel}(hx:x∈R)(i:Nat)(o:List UInt8) :
  aE Tp 0 (sub (cd Tryz.f28) ah) (gL k R i o x 0 0 []) (.exit 2) (gL k R i o x (aK k).length (lG k x).length (((lG k x).map stE).flatten)):=by
 have hc:=iT k;have hl:((aK k).zip x).length=(aK k).length:=by rw [List.length_zip,hR.len x hx,Nat.min_self]
 have:=aE.range (P:=Tp) (k:=0) (b:=(sub (cd Tryz.f28) ah)) (e := .exit 2) (fun j (f:List (List UInt8))=>gL k R i o x j f.length ((f.map stE).flatten)) (fun f=>gL k R i o x (aK k).length f.length ((f.map stE).flatten)) (fun f p=>f++[wrM p.1 p.2]) (fun j f=>f.length=j) (by simp) ((aK k).zip x) (a0:=[]) rfl
  (fun j p f hp hf=>by
   have hj:=bG hp;obtain ⟨h1,h2⟩:=bWz hp;obtain ⟨t,a,z⟩:=p;have hk:=hR.ck x hx j t (a,z) h1 h2;refine ⟨by simp [hf],?_⟩
   rcases iX h1 with e | e | e | e
   ·simp only at e h1 h2;subst e
    have hb:=bHk hk;exact aYg (by omega) h1 h2 (by show _∧_;omega) ⟨rfl,by omega⟩ (aL (by omega)) rfl (by simp) (by simp [stE])
   ·simp only at e h1 h2;subst e
    exact aYh (by omega) h1 h2 ⟨rfl,by omega⟩ (aL (by omega)) rfl (by simp) (by simp [stE])
   ·simp only at e h1 h2;subst e
    exact aYi (by omega) h1 h2 ⟨rfl,by omega⟩ (aL (by omega)) rfl (by simp) (by simp [stE])
   ·simp only at e h1 h2;subst e
    exact aYj (by omega) h1 h2 ⟨rfl,by omega⟩ (aL (by omega)) rfl (by simp) (by simp [stE,wrM]))
  (fun f _=>by rw [hl];exact aYk (by omega))
 rw [aDw,List.nil_append,bHm] at this
 exact this
theorem aYd{k:Int}{R:List (List Cel)}(hR:aAs k R)(h:List UInt8)(hh:h.length≤1000) :
  aE Tp 0 (sub (cd Tryz.f28) [1,1,1,1,1,0,1,0,0]) (cQ k R 0 h) (.exit 0) (cQ k R R.length (R.foldl (fun o x=>o++lnM (lG k x)) h)):=by
 have hn:=hR.n;exact aE.range (P:=Tp) (k:=0) (b:=(sub (cd Tryz.f28) [1,1,1,1,1,0,1,0,0])) (e := .exit 0) (fun i (o:List UInt8)=>cQ k R i o) (fun o=>cQ k R R.length o) (fun o x=>o++lnM (lG k x)) (fun i o=>o.length≤1000+300*i) (by simp) R (a0:=h) (by omega)
  (fun i x o hx ho=>by
   have hi:=bG hx;have hm:=Ci hx;obtain ⟨q1,q2⟩:=aKd hR hm;have hln:(lnM (lG k x)).length≤269:=by unfold lnM;rw [gR];simp;omega
   exact ⟨by rw [gR];omega,aYe (by omega) hx (aOy hR hm i o) (by omega) (by omega) (by omega) (aL (by omega)) rfl rfl⟩)
  (fun o _=>aYf (by omega))
theorem aKe{k:Int}{R:List (List Cel)}(hR:aAs k R):∀ (l:List (List Cel)) (h:List UInt8),(∀ x∈l,x∈R)→(l.foldl (fun o x=>o++lnM (lG k x)) h).length≤h.length+300*l.length
 | [],h,_=>by simp
 | x::l,h,hx=>by
  obtain ⟨q1,q2⟩:=aKd hR (hx x (by simp))
  have hln:(lnM (lG k x)).length≤269:=by unfold lnM;rw [gR];simp;omega
  have:=aKe hR l (h++lnM (lG k x)) (fun y hy=>hx y (by simp [hy]))
  rw [gR] at this
  rw [bMm,fQ];omega
theorem bNv(b:List UInt8):0≤bN b∧bN b<65521:=aOw b 0 (by omega)
theorem bXa(k:Int)(R:List (List Cel)){base:Nat}:FV Tp 28 [.p (.agg [aB k,bW R])] base (.tup [.p (aC (bHj k R).1),.p (aB (bHj k R).2)]) []:=by
 unfold bHj
 by_cases hc:fA k R=0
 ·rw [if_neg (by simp [hc])]
  have hR:=bHl hc;have hn:=hR.n;have hi:=itl (n:=(R.length:Int)) (by omega)
  have hw:(oW k).length≤10:=by unfold oW;(repeat' split) <;> simp
  have hj:∀ w:List UInt8,w.length≤10→(Lib.join [[107,108,105,115,116,101,114],w,Lib.itoa (R.length:Int)] [32]).length≤100:=fun w hw=>by
   have:=uT 30 [[107,108,105,115,116,101,114],w,Lib.itoa (R.length:Int)] (fun s hs=>by
    simp only [nK,List.not_mem_nil,or_false] at hs
    rcases hs with rfl | rfl | rfl
    ·simp
    ·omega
    ·omega)
   simp only [fQ,List.length_nil] at this
   omega
  have hh:(xL k R.length).length≤1000:=by
   have:=hj (oW k) hw;unfold xL lnM;rw [gR];simp;omega
  have L:=aYd hR (xL k R.length) hh;have hb:=aKe hR R (xL k R.length) (fun x hx=>hx)
  have ev:aKc k R=R.foldl (fun o x=>o++lnM (lG k x)) (xL k R.length):=rfl
  rw [← ev] at L hb
  generalize aKc k R=b at L hb ⊢
  have hsv:0≤rV b∧rV b<65521:=by
   unfold rV;split
   ·exact bNv b
   ·omega
  have hs:=itl (n:=rV b) (by omega)
  have hjs:(Lib.join [[115,117,109],Lib.itoa (rV b)] [32]).length≤100:=by
   have:=uT 30 [[115,117,109],Lib.itoa (rV b)] (fun s hs=>by
    simp only [nK,List.not_mem_nil,or_false] at hs
    rcases hs with rfl | rfl
    ·simp
    ·omega)
   simp only [fQ,List.length_nil] at this
   omega
  have hls:(lnM [[115,117,109],Lib.itoa (rV b)]).length≤101:=by unfold lnM;rw [gR];simp;omega
  have hk:=dF.1 hR.w;have Ol:k=0∨k=1∨k=2∨k=3∨k=4:=by omega
  have g1:inR (R.length:Int):=aL (by omega)
  have h3:∀ w:List UInt8,([[107,108,105,115,116,101,114],w,Lib.itoa (R.length:Int)]:List (List UInt8)).length≤1000000:=fun w=>by simp
  have h2:([[115,117,109],Lib.itoa (rV b)]:List (List UInt8)).length≤1000000:=by simp
  have gs:inR (rV b):=by unfold inR;omega
  by_cases h6:b.length≤65536
  ·have es:rV b=bN b:=by unfold rV;rw [if_pos h6]
   rw [es] at hjs hls h2 gs ⊢
   rcases Ol with rfl | rfl | rfl | rfl | rfl
   ·exact bXd hc rfl g1 (h3 _) (iG (hj _ (by simp)) (by omega)) L h6 gs h2 (by omega) (by omega)
   ·exact bXf hc rfl g1 (h3 _) (iG (hj _ (by simp)) (by omega)) L h6 gs h2 (by omega) (by omega)
   ·exact bXh hc rfl g1 (h3 _) (iG (hj _ (by simp)) (by omega)) L h6 gs h2 (by omega) (by omega)
   ·exact bXj hc rfl g1 (h3 _) (iG (hj _ (by simp)) (by omega)) L h6 gs h2 (by omega) (by omega)
   ·exact bXl hc rfl g1 (h3 _) (iG (hj _ (by simp)) (by omega)) L h6 gs h2 (by omega) (by omega)
  ·have es:rV b=0:=by unfold rV;rw [if_neg h6]
   rw [es] at hjs hls h2 gs ⊢
   rcases Ol with rfl | rfl | rfl | rfl | rfl
   ·exact bXe hc rfl g1 (h3 _) (iG (hj _ (by simp)) (by omega)) L (by omega) gs h2 (by omega) (by omega)
   ·exact bXg hc rfl g1 (h3 _) (iG (hj _ (by simp)) (by omega)) L (by omega) gs h2 (by omega) (by omega)
   ·exact bXi hc rfl g1 (h3 _) (iG (hj _ (by simp)) (by omega)) L (by omega) gs h2 (by omega) (by omega)
   ·exact bXk hc rfl g1 (h3 _) (iG (hj _ (by simp)) (by omega)) L (by omega) gs h2 (by omega) (by omega)
   ·exact bNw hc rfl g1 (h3 _) (iG (hj _ (by simp)) (by omega)) L (by omega) gs h2 (by omega) (by omega)
 ·rw [if_pos hc]
  exact bXc hc rfl
end KV
end Go.Proofs
end
namespace Go.Proofs
namespace KV
open Tryz
section
variable {r0:Bool}{e f k l er fd ln:Int}{i i' Av:Nat}

noncomputable abbrev nO:Code:=sub (cd Tryz.f177) [1,0,1,0,0]
theorem bRw:0≤(0:Int)∧(0:Int)<5:=by first | decide | simp
theorem bRx:(decide ((0:Int)<5))=true:=by first | decide | simp
theorem bRy:0≤(1:Int)∧(1:Int)<5:=by first | decide | simp
theorem bRz:(decide ((1:Int)<5))=true:=by first | decide | simp
theorem bSa:0≤(2:Int)∧(2:Int)<5:=by first | decide | simp
theorem bSb:(decide ((2:Int)<5))=true:=by first | decide | simp
theorem bSc:0≤(3:Int)∧(3:Int)<5:=by first | decide | simp
theorem bSd:(decide ((3:Int)<5))=true:=by first | decide | simp
theorem bSe:0≤(4:Int)∧(4:Int)<5:=by first | decide | simp
theorem bSf:(decide ((4:Int)<5))=true:=by first | decide | simp
def rwE(r:List Cel):List PV:=[aP r]
theorem eU:∀ R:List (List Cel),(R.map rwE).flatten=R.map aP
 | []=>rfl
 | r::R=>by rw [kN,vS,eU R];rfl
theorem cAt{R:List (List Cel)}(h0:e=0)(h1:er≠0)(Ao:r0=(er == 0)):FMM Tp 176 [(pI fd),(pI er),(.ptr 0 0),(.ptr 1 0)] [some (.box 156 [(.ptr 2 0)]),some (.box 3 [(pI ln)]),some (.box 158 [(pI k),(.own 3),(pI l),(pI f),(pI e)]),some (.row 78 R.length ((R.map rwE).flatten))] (pB r0) [some (.box 156 [(.ptr 2 0)]),some (.box 3 [(pI ln)]),some (.box 158 [(pI k),(.own 3),(pI ln),(pI fd),(pI er)]),some (.row 78 R.length ((R.map rwE).flatten))]:=by
 subst Ao;exact FMM.fi 4 gE func176 [bT,bT,bT,bT] (gc (cL h1) (Ap (cP h0) gn))
theorem cAu{R:List (List Cel)}(h0:e=0)(h1:er=0)(Ao:r0=(e == 0)):FMM Tp 176 [(pI fd),(pI er),(.ptr 0 0),(.ptr 1 0)] [some (.box 156 [(.ptr 2 0)]),some (.box 3 [(pI ln)]),some (.box 158 [(pI k),(.own 3),(pI l),(pI f),(pI e)]),some (.row 78 R.length ((R.map rwE).flatten))] (pB r0) [some (.box 156 [(.ptr 2 0)]),some (.box 3 [(pI ln)]),some (.box 158 [(pI k),(.own 3),(pI l),(pI f),(pI e)]),some (.row 78 R.length ((R.map rwE).flatten))]:=by
 subst Ao;exact FMM.fi 4 gE func176 [bT,bT,bT,bF] (gc (bD h1) (Ap (cP h0) gn))
theorem cAv{R:List (List Cel)}(h0:e≠0)(Ao:r0=(e == 0)):FMM Tp 176 [(pI fd),(pI er),(.ptr 0 0),(.ptr 1 0)] [some (.box 156 [(.ptr 2 0)]),some (.box 3 [(pI ln)]),some (.box 158 [(pI k),(.own 3),(pI l),(pI f),(pI e)]),some (.row 78 R.length ((R.map rwE).flatten))] (pB r0) [some (.box 156 [(.ptr 2 0)]),some (.box 3 [(pI ln)]),some (.box 158 [(pI k),(.own 3),(pI l),(pI f),(pI e)]),some (.row 78 R.length ((R.map rwE).flatten))]:=by
 subst Ao;exact FMM.fi 4 gE func176 [bF,bF,bF] (Ap (bA h0) gn)
theorem fI{R:List (List Cel)}:FMM Tp 89 [(.ptr 0 0),(pI ln)] [some (.box 158 [(pI k),(.own 1),(pI l),(pI f),(pI e)]),some (.row 78 R.length ((R.map rwE).flatten))] (.fn 176 [] [(.ptr 2 0),(.ptr 3 0)]) [some (.box 158 [(pI k),(.own 1),(pI l),(pI f),(pI e)]),some (.row 78 R.length ((R.map rwE).flatten)),some (.box 156 [(.ptr 0 0)]),some (.box 3 [(pI ln)])]:=FMM.fi 2 ⟨[],[2,3],[],[]⟩ func89 [] gn
def aU(ln fd er:Int)(s:Int × Int × Int):Int × Int × Int:=if s.2.2=0∧er≠0 then (ln,fd,er) else s
theorem cU(fd er ln k l f e:Int)(R:List (List Cel)):FMM Tp 176 [.p (aB fd),.p (aB er),.ptr 0 0,.ptr 1 0] [some (.box 156 [(.ptr 2 0)]),some (.box 3 [(pI ln)]),some (.box 158 [(pI k),(.own 3),(pI l),(pI f),(pI e)]),some (.row 78 R.length ((R.map rwE).flatten))] (pB ((aU ln fd er (l,f,e)).2.2 == 0)) [some (.box 156 [(.ptr 2 0)]),some (.box 3 [(pI ln)]),some (.box 158 [(pI k),(.own 3),(pI ((aU ln fd er (l,f,e)).1)),(pI ((aU ln fd er (l,f,e)).2.1)),(pI ((aU ln fd er (l,f,e)).2.2))]),some (.row 78 R.length ((R.map rwE).flatten))]:=by
 unfold aU
 by_cases h:e=0
 ·by_cases h2:er=0
  ·rw [if_neg (by simp [h2])];exact cAu h h2 rfl
  ·rw [if_pos ⟨h,h2⟩];exact cAt h h2 rfl
 ·rw [if_neg (by simp [h])];exact cAv h rfl
def dX(s:List UInt8)(i:Nat):St:=⟨fr 19 [(0,(.arr 0 0 5)),(1,(.p (aC s))),(7,(pI 5)),(8,(pI (i:Int)))],[some (.box 207 [(.p (aC ([115,116,97,114,116,115]:List UInt8))),(.p (aC ([112,97,115,115,101,115]:List UInt8))),(.p (aC ([116,97,114,103,101,116,115]:List UInt8))),(.p (aC ([106,117,100,103,101,109,101,110,116,115]:List UInt8))),(.p (aC ([99,117,112,115]:List UInt8)))])]⟩
theorem cAw{s:List UInt8}(A2:aE Tp 1 nO (dX s 0) (.exit 0) (dX s Av)):FMM Tp 177 [(.arr 0 0 5),(.p (aC s))] [some (.box 207 [(.p (aC ([115,116,97,114,116,115]:List UInt8))),(.p (aC ([112,97,115,115,101,115]:List UInt8))),(.p (aC ([116,97,114,103,101,116,115]:List UInt8))),(.p (aC ([106,117,100,103,101,109,101,110,116,115]:List UInt8))),(.p (aC ([99,117,112,115]:List UInt8)))])] (pI (-1)) [some (.box 207 [(.p (aC ([115,116,97,114,116,115]:List UInt8))),(.p (aC ([112,97,115,115,101,115]:List UInt8))),(.p (aC ([116,97,114,103,101,116,115]:List UInt8))),(.p (aC ([106,117,100,103,101,109,101,110,116,115]:List UInt8))),(.p (aC ([99,117,112,115]:List UInt8)))])]:=FMM.fi 1 gE func177 [A2.k 6 (gZ ca)] (gc A2.code gn)
theorem aAv{s:List UInt8}(A2:aE Tp 1 nO (dX s 0) .ret (bS (dX s Av) [(4,(pI (Av:Int)))])):FMM Tp 177 [(.arr 0 0 5),(.p (aC s))] [some (.box 207 [(.p (aC ([115,116,97,114,116,115]:List UInt8))),(.p (aC ([112,97,115,115,101,115]:List UInt8))),(.p (aC ([116,97,114,103,101,116,115]:List UInt8))),(.p (aC ([106,117,100,103,101,109,101,110,116,115]:List UInt8))),(.p (aC ([99,117,112,115]:List UInt8)))])] (pI (Av:Int)) [some (.box 207 [(.p (aC ([115,116,97,114,116,115]:List UInt8))),(.p (aC ([112,97,115,115,101,115]:List UInt8))),(.p (aC ([116,97,114,103,101,116,115]:List UInt8))),(.p (aC ([106,117,100,103,101,109,101,110,116,115]:List UInt8))),(.p (aC ([99,117,112,115]:List UInt8)))])]:=FMM.fi 1 gE func177 [A2.k 6 (gZ ca)] (gc A2.code gn)
theorem bAq{s:List UInt8}(Az:i=0)(h1:s=([115,116,97,114,116,115]:List UInt8))(Ai:i'=0):aA Tp 1 nO (dX s i) .ret (bS (dX s i') [(4,(pI 0))]):=by
 subst Az;subst Ai;exact aA.fi (gZ bp) [bT,bT] (gt ((decide (s=([115,116,97,114,116,115]:List UInt8)))=true) (decide_eq_true h1) (gc bRw (gc bRx gn)))
theorem nP{s:List UInt8}(Az:i=0)(h1:s≠([115,116,97,114,116,115]:List UInt8))(Ai:i'=1):aA Tp 1 nO (dX s i) .normal (dX s i'):=by
 subst Az;subst Ai;exact aA.fi (gZ ca) [bT,bF] (gt (inR 1) (by show _∧_;omega) (gt ((decide (s=([115,116,97,114,116,115]:List UInt8)))=false) (decide_eq_false h1) (gc bRw (gc bRx gn))))
theorem bAr{s:List UInt8}(Az:i=1)(h1:s=([112,97,115,115,101,115]:List UInt8))(Ai:i'=1):aA Tp 1 nO (dX s i) .ret (bS (dX s i') [(4,(pI 1))]):=by
 subst Az;subst Ai;exact aA.fi (gZ bp) [bT,bT] (gt ((decide (s=([112,97,115,115,101,115]:List UInt8)))=true) (decide_eq_true h1) (gc bRy (gc bRz gn)))
theorem rN{s:List UInt8}(Az:i=1)(h1:s≠([112,97,115,115,101,115]:List UInt8))(Ai:i'=2):aA Tp 1 nO (dX s i) .normal (dX s i'):=by
 subst Az;subst Ai;exact aA.fi (gZ ca) [bT,bF] (gt (inR 2) (by show _∧_;omega) (gt ((decide (s=([112,97,115,115,101,115]:List UInt8)))=false) (decide_eq_false h1) (gc bRy (gc bRz gn))))
theorem bAs{s:List UInt8}(Az:i=2)(h1:s=([116,97,114,103,101,116,115]:List UInt8))(Ai:i'=2):aA Tp 1 nO (dX s i) .ret (bS (dX s i') [(4,(pI 2))]):=by
 subst Az;subst Ai;exact aA.fi (gZ bp) [bT,bT] (gt ((decide (s=([116,97,114,103,101,116,115]:List UInt8)))=true) (decide_eq_true h1) (gc bSa (gc bSb gn)))
theorem wF{s:List UInt8}(Az:i=2)(h1:s≠([116,97,114,103,101,116,115]:List UInt8))(Ai:i'=3):aA Tp 1 nO (dX s i) .normal (dX s i'):=by
 subst Az;subst Ai;exact aA.fi (gZ ca) [bT,bF] (gt (inR 3) (by show _∧_;omega) (gt ((decide (s=([116,97,114,103,101,116,115]:List UInt8)))=false) (decide_eq_false h1) (gc bSa (gc bSb gn))))
theorem bAt{s:List UInt8}(Az:i=3)(h1:s=([106,117,100,103,101,109,101,110,116,115]:List UInt8))(Ai:i'=3):aA Tp 1 nO (dX s i) .ret (bS (dX s i') [(4,(pI 3))]):=by
 subst Az;subst Ai;exact aA.fi (gZ bp) [bT,bT] (gt ((decide (s=([106,117,100,103,101,109,101,110,116,115]:List UInt8)))=true) (decide_eq_true h1) (gc bSc (gc bSd gn)))
theorem aEh{s:List UInt8}(Az:i=3)(h1:s≠([106,117,100,103,101,109,101,110,116,115]:List UInt8))(Ai:i'=4):aA Tp 1 nO (dX s i) .normal (dX s i'):=by
 subst Az;subst Ai;exact aA.fi (gZ ca) [bT,bF] (gt (inR 4) (by show _∧_;omega) (gt ((decide (s=([106,117,100,103,101,109,101,110,116,115]:List UInt8)))=false) (decide_eq_false h1) (gc bSc (gc bSd gn))))
theorem bAu{s:List UInt8}(Az:i=4)(h1:s=([99,117,112,115]:List UInt8))(Ai:i'=4):aA Tp 1 nO (dX s i) .ret (bS (dX s i') [(4,(pI 4))]):=by
 subst Az;subst Ai;exact aA.fi (gZ bp) [bT,bT] (gt ((decide (s=([99,117,112,115]:List UInt8)))=true) (decide_eq_true h1) (gc bSe (gc bSf gn)))
theorem bAv{s:List UInt8}(Az:i=4)(h1:s≠([99,117,112,115]:List UInt8))(Ai:i'=5):aA Tp 1 nO (dX s i) .normal (dX s i'):=by
 subst Az;subst Ai;exact aA.fi (gZ ca) [bT,bF] (gt (inR 5) (by show _∧_;omega) (gt ((decide (s=([99,117,112,115]:List UInt8)))=false) (decide_eq_false h1) (gc bSe (gc bSf gn))))
theorem aPv{s:List UInt8}(Az:i=5)(Ai:i'=5):aA Tp 1 nO (dX s i) (.exit 0) (dX s i'):=by
 subst Az;subst Ai;exact aA.fi (gZ ca) [bF] (gt ((decide ((5:Int)<5))=false) (by first | decide | simp) gn)
def dN(s:List UInt8):Int:=if s=([115,116,97,114,116,115]:List UInt8) then 0 else if s=([112,97,115,115,101,115]:List UInt8) then 1 else if s=([116,97,114,103,101,116,115]:List UInt8) then 2 else if s=([106,117,100,103,101,109,101,110,116,115]:List UInt8) then 3 else if s=([99,117,112,115]:List UInt8) then 4 else -1
theorem bIw(s:List UInt8):FMM Tp 177 [.arr 0 0 5,.p (aC s)] [some (.box 207 [(.p (aC ([115,116,97,114,116,115]:List UInt8))),(.p (aC ([112,97,115,115,101,115]:List UInt8))),(.p (aC ([116,97,114,103,101,116,115]:List UInt8))),(.p (aC ([106,117,100,103,101,109,101,110,116,115]:List UInt8))),(.p (aC ([99,117,112,115]:List UInt8)))])] (pI (dN s)) [some (.box 207 [(.p (aC ([115,116,97,114,116,115]:List UInt8))),(.p (aC ([112,97,115,115,101,115]:List UInt8))),(.p (aC ([116,97,114,103,101,116,115]:List UInt8))),(.p (aC ([106,117,100,103,101,109,101,110,116,115]:List UInt8))),(.p (aC ([99,117,112,115]:List UInt8)))])]:=by
 unfold dN
 by_cases h0:s=([115,116,97,114,116,115]:List UInt8)
 ·rw [if_pos h0];exact aAv (Av:=0) (.exit (bAq rfl h0 rfl) (by simp))
 ·rw [if_neg h0]
  by_cases h1:s=([112,97,115,115,101,115]:List UInt8)
  ·rw [if_pos h1];exact aAv (Av:=1) (.step (nP rfl h0 rfl) (.exit (bAr rfl h1 rfl) (by simp)))
  ·rw [if_neg h1]
   by_cases h2:s=([116,97,114,103,101,116,115]:List UInt8)
   ·rw [if_pos h2];exact aAv (Av:=2) (.step (nP rfl h0 rfl) (.step (rN rfl h1 rfl) (.exit (bAs rfl h2 rfl) (by simp))))
   ·rw [if_neg h2]
    by_cases h3:s=([106,117,100,103,101,109,101,110,116,115]:List UInt8)
    ·rw [if_pos h3];exact aAv (Av:=3) (.step (nP rfl h0 rfl) (.step (rN rfl h1 rfl) (.step (wF rfl h2 rfl) (.exit (bAt rfl h3 rfl) (by simp)))))
    ·rw [if_neg h3]
     by_cases h4:s=([99,117,112,115]:List UInt8)
     ·rw [if_pos h4];exact aAv (Av:=4) (.step (nP rfl h0 rfl) (.step (rN rfl h1 rfl) (.step (wF rfl h2 rfl) (.step (aEh rfl h3 rfl) (.exit (bAu rfl h4 rfl) (by simp))))))
     ·rw [if_neg h4];exact cAw (.step (nP rfl h0 rfl) (.step (rN rfl h1 rfl) (.step (wF rfl h2 rfl) (.step (aEh rfl h3 rfl) (.step (bAv rfl h4 rfl) (.exit (aPv rfl rfl) (by simp)))))))
end
section
variable {k e1 f1 kd l1 ln my Bl Bn Gk Bv Gl:Int}{i i':Nat}

noncomputable abbrev kG:Code:=sub (cd Tryz.f90) [1,0,1,1,1,0,1,0,0]
theorem bIf:(decide ((0:Int)<3))=true:=by first | decide | simp
theorem bIg:(decide ((1:Int)<3))=true:=by first | decide | simp
theorem bIh:(decide ((2:Int)<3))=true:=by first | decide | simp
theorem bRv:(decide ((3:Int)<3))=false:=by first | decide | simp
theorem aSr:inR (1:Int):=by unfold inR;omega
theorem aSs:inR (2:Int):=by unfold inR;omega
theorem aSt:inR (3:Int):=by unfold inR;omega
theorem bIi:(decide ((0:Int)<4))=true:=by first | decide | simp
theorem bIj:(decide ((1:Int)<4))=true:=by first | decide | simp
theorem bIk:(decide ((2:Int)<4))=true:=by first | decide | simp
theorem aPo:inR (4:Int):=by unfold inR;omega
theorem bIl:((0:Int) == 0)=true:=by first | decide | simp
theorem bIm:((1:Int) == 1)=true:=by first | decide | simp
theorem bIn:((1:Int) == 0)=false:=by first | decide | simp
theorem bIo:((2:Int) == 2)=true:=by first | decide | simp
theorem bIp:((2:Int) == 1)=false:=by first | decide | simp
theorem bIq:((2:Int) == 0)=false:=by first | decide | simp
theorem bIr:((3:Int) == 2)=false:=by first | decide | simp
theorem bIs:((3:Int) == 1)=false:=by first | decide | simp
theorem bIt:((3:Int) == 0)=false:=by first | decide | simp
theorem bIu:(decide ((3:Int)<4))=true:=by first | decide | simp
def dC(fs:List (List UInt8))(ln k:Int)(R:List (List Cel))(i:Nat)(kd my l1 f1 e1:Int):St:=⟨fr 70 [(0,(.ptr 0 0)),(1,(.p (.sl fs.length ((fs.map stE).flatten)))),(2,(.fn 176 [] [(.ptr 2 0),(.ptr 3 0)])),(6,(pI 0)),(7,(.ptr 4 0)),(8,(pI kd)),(9,(pI my)),(13,(pI (i:Int)))],[some (.box 158 [(pI k),(.own 1),(pI l1),(pI f1),(pI e1)]),some (.row 78 R.length ((R.map rwE).flatten)),some (.box 156 [(.ptr 0 0)]),some (.box 3 [(pI ln)]),some (.box 207 [(.p (aC ([115,116,97,114,116,115]:List UInt8))),(.p (aC ([112,97,115,115,101,115]:List UInt8))),(.p (aC ([116,97,114,103,101,116,115]:List UInt8))),(.p (aC ([106,117,100,103,101,109,101,110,116,115]:List UInt8))),(.p (aC ([99,117,112,115]:List UInt8)))])]⟩
theorem qH{fs:List (List UInt8)}{l f e:Int}{R:List (List Cel)}{Av:Nat}{I8 Kn l1'3 f1'4 e1'5 r0:Int}(A2:aE Tp 4 kG (dC fs ln k R 0 (-1) 0 l f e) (.exit 0) (dC fs ln k R Av I8 Kn l1'3 f1'4 e1'5))(Ao:r0=(if I8 > 0 then I8 else 0)):FMM Tp 90 [(.ptr 0 0),(.p (.sl fs.length ((fs.map stE).flatten))),(.fn 176 [] [(.ptr 2 0),(.ptr 3 0)])] [some (.box 158 [(pI k),(.own 1),(pI l),(pI f),(pI e)]),some (.row 78 R.length ((R.map rwE).flatten)),some (.box 156 [(.ptr 0 0)]),some (.box 3 [(pI ln)])] (pI Kn) [some (.box 158 [(pI r0),(.own 1),(pI l1'3),(pI f1'4),(pI e1'5)]),some (.row 78 R.length ((R.map rwE).flatten)),some (.box 156 [(.ptr 0 0)]),some (.box 3 [(pI ln)])]:=by
 subst Ao;have k1:=fk 4 (kP) rfl;exact FMM.fi 4 gE func90 [k1.o,A2.k 7 (gI bi [4])] (gc A2.code (gc k1 gn))
theorem bAk{fs:List (List UInt8)}{R:List (List Cel)}(Az:i=0)(h1:(fs.length:Int)≤0)(Ai:i'=0)(A3:Bv=((aU ln 1 11 (l1,f1,e1)).1))(Aq:Bn=((aU ln 1 11 (l1,f1,e1)).2.1))(Ar:Bl=((aU ln 1 11 (l1,f1,e1)).2.2)):aA Tp 4 kG (dC fs ln k R i kd my l1 f1 e1) (.exit 0) (dC fs ln k R i' kd my Bv Bn Bl):=by
 subst Az;subst Ai A3 Aq Ar;have k1:=mq co 5 (cU 1 11 ln k l1 f1 e1 R);exact aA.fi (gI bi [4]) (rT 7++[k1.o]) (gc k1 (gc aSr (gc (gO h1) (B5 bIf (gc bIi gn)))))
section
variable{fs:List (List UInt8)}{Aa:List UInt8}(Az:i=0)(h1:(0:Int)<(fs.length:Int))(h2:fs[0]? = some (Aa))
include Az h1 h2
theorem bAl{R:List (List Cel)}(h3:Aa≠([107,108,105,115,116,101,114]:List UInt8))(h4:((aU ln 1 11 (l1,f1,e1)).2.2)≠0)(Ai:i'=0)(A3:Bv=((aU ln 1 11 (l1,f1,e1)).1))(Aq:Bn=((aU ln 1 11 (l1,f1,e1)).2.1))(Ar:Bl=((aU ln 1 11 (l1,f1,e1)).2.2)):aA Tp 4 kG (dC fs ln k R i kd my l1 f1 e1) (.exit 0) (dC fs ln k R i' kd my Bv Bn Bl):=by
 subst Az;subst Ai A3 Aq Ar;have k1:=mq co 5 (cU 1 11 ln k l1 f1 e1 R);exact aA.fi (gI bi [4]) (rT 6++[bF,bT,.x (aC Aa),bT,k1.o,bT]) (gc (cN (bA h4)) (gc k1 (gc aSr (gc (cN (decide_eq_false h3)) (gt (((fs.map stE).flatten)[0]? = some (aC Aa)) (aQ (E:=stE) (i:=0) (f:=0) (k:=1) (fun _=>rfl) h2 rfl) (gc (bC (E:=stE) (k:=1) (i:=(0:Int)) (fun _=>rfl) (by decide) (by first | decide | simp) h2) (gc bIl (gc (eQ h1) (B5 bIf (gc bIi gn))))))))))
theorem bAm{R:List (List Cel)}(h3:Aa=([107,108,105,115,116,101,114]:List UInt8))(h4:((aU ln 1 0 (l1,f1,e1)).2.2)=0)(Ai:i'=1)(A3:Bv=((aU ln 1 0 (l1,f1,e1)).1))(Aq:Bn=((aU ln 1 0 (l1,f1,e1)).2.1))(Ar:Bl=((aU ln 1 0 (l1,f1,e1)).2.2)):aA Tp 4 kG (dC fs ln k R i kd my l1 f1 e1) .normal (dC fs ln k R i' kd my Bv Bn Bl):=by
 subst Az;subst Ai A3 Aq Ar;have k1:=mq co 5 (cU 1 0 ln k l1 f1 e1 R);exact aA.fi (gI bi [4]) (rT 6++[bF,bT,.x (aC Aa),bF,k1.o,bF]) (gc aSr (gc (aO (cP h4)) (gc k1 (gc aSr (gc (aO (decide_eq_true h3)) (gt (((fs.map stE).flatten)[0]? = some (aC Aa)) (aQ (E:=stE) (i:=0) (f:=0) (k:=1) (fun _=>rfl) h2 rfl) (gc (bC (E:=stE) (k:=1) (i:=(0:Int)) (fun _=>rfl) (by decide) (by first | decide | simp) h2) (gc bIl (gc (eQ h1) (B5 bIf (gc bIi gn)))))))))))
end
theorem bAn{fs:List (List UInt8)}{R:List (List Cel)}(Az:i=1)(h1:(fs.length:Int)≤1)(Ai:i'=1)(A3:Bv=((aU ln 2 11 (l1,f1,e1)).1))(Aq:Bn=((aU ln 2 11 (l1,f1,e1)).2.1))(Ar:Bl=((aU ln 2 11 (l1,f1,e1)).2.2)):aA Tp 4 kG (dC fs ln k R i kd my l1 f1 e1) (.exit 0) (dC fs ln k R i' kd my Bv Bn Bl):=by
 subst Az;subst Ai A3 Aq Ar;have k1:=mq co 5 (cU 2 11 ln k l1 f1 e1 R);exact aA.fi (gI bi [4]) (rT 7++[k1.o]) (gc k1 (gc aSs (gc (gO h1) (B5 bIg (gc bIj gn)))))
section
variable{fs:List (List UInt8)}{Aa:List UInt8}(Az:i=1)(h1:(1:Int)<(fs.length:Int))(h2:fs[1]? = some (Aa))
include Az h1 h2
theorem bAo{R:List (List Cel)}(h3:(dN Aa)<0)(h4:((aU ln 2 12 (l1,f1,e1)).2.2)≠0)(Ai:i'=1)(Ed:Gk=(dN Aa))(A3:Bv=((aU ln 2 12 (l1,f1,e1)).1))(Aq:Bn=((aU ln 2 12 (l1,f1,e1)).2.1))(Ar:Bl=((aU ln 2 12 (l1,f1,e1)).2.2)):aA Tp 4 kG (dC fs ln k R i kd my l1 f1 e1) (.exit 0) (dC fs ln k R i' Gk my Bv Bn Bl):=by
 subst Az;subst Ai Ed A3 Aq Ar;have k1:=mq [4] 5 (bIw Aa);have k2:=mq co 5 (cU 2 12 ln k l1 f1 e1 R);exact aA.fi (gI bi [4]) (rT 6++[bF,bF,bT,.x (aC Aa),k1.o,bT,k2.o,bT]) (gc (cN (bA h4)) (gc k2 (gc aSs (gc (bJ h3) (gc k1 (gt (((fs.map stE).flatten)[1]? = some (aC Aa)) (aQ (E:=stE) (i:=1) (f:=0) (k:=1) (fun _=>rfl) h2 rfl) (gc (bC (E:=stE) (k:=1) (i:=(1:Int)) (fun _=>rfl) (by decide) (by first | decide | simp) h2) (gt (0≤(0:Int)∧(0:Int)≤5∧(5:Int)≤5∧5≤maxLen) (by unfold maxLen;omega) (gc bIm (gc bIn (gc (eQ h1) (B5 bIg (gc bIj gn)))))))))))))
theorem bAp{R:List (List Cel)}(h3:(0:Int)≤(dN Aa))(h4:((aU ln 2 0 (l1,f1,e1)).2.2)=0)(Ai:i'=2)(Ed:Gk=(dN Aa))(A3:Bv=((aU ln 2 0 (l1,f1,e1)).1))(Aq:Bn=((aU ln 2 0 (l1,f1,e1)).2.1))(Ar:Bl=((aU ln 2 0 (l1,f1,e1)).2.2)):aA Tp 4 kG (dC fs ln k R i kd my l1 f1 e1) .normal (dC fs ln k R i' Gk my Bv Bn Bl):=by
 subst Az;subst Ai Ed A3 Aq Ar;have k1:=mq [4] 5 (bIw Aa);have k2:=mq co 5 (cU 2 0 ln k l1 f1 e1 R);exact aA.fi (gI bi [4]) (rT 6++[bF,bF,bT,.x (aC Aa),k1.o,bF,k2.o,bF]) (gc aSs (gc (aO (cP h4)) (gc k2 (gc aSs (gc (aJ h3) (gc k1 (gt (((fs.map stE).flatten)[1]? = some (aC Aa)) (aQ (E:=stE) (i:=1) (f:=0) (k:=1) (fun _=>rfl) h2 rfl) (gc (bC (E:=stE) (k:=1) (i:=(1:Int)) (fun _=>rfl) (by decide) (by first | decide | simp) h2) (gt (0≤(0:Int)∧(0:Int)≤5∧(5:Int)≤5∧5≤maxLen) (by unfold maxLen;omega) (gc bIm (gc bIn (gc (eQ h1) (B5 bIg (gc bIj gn))))))))))))))
end
theorem aPp{fs:List (List UInt8)}{R:List (List Cel)}(Az:i=2)(h1:(fs.length:Int)≤2)(Ai:i'=2)(A3:Bv=((aU ln 3 11 (l1,f1,e1)).1))(Aq:Bn=((aU ln 3 11 (l1,f1,e1)).2.1))(Ar:Bl=((aU ln 3 11 (l1,f1,e1)).2.2)):aA Tp 4 kG (dC fs ln k R i kd my l1 f1 e1) (.exit 0) (dC fs ln k R i' kd my Bv Bn Bl):=by
 subst Az;subst Ai A3 Aq Ar;have k1:=mq co 5 (cU 3 11 ln k l1 f1 e1 R);exact aA.fi (gI bi [4]) (rT 7++[k1.o]) (gc k1 (gc aSt (gc (gO h1) (B5 bIh (gc bIk gn)))))
section
variable{fs:List (List UInt8)}{Aa:List UInt8}(Az:i=2)(h1:(2:Int)<(fs.length:Int))(h2:fs[2]? = some (Aa))(h3:0≤(200:Int)∧(200:Int)≤1000000000)
include Az h1 h2 h3
theorem aPq{R:List (List Cel)}(h4:((aU ln 3 ((bK Aa 200).2) (l1,f1,e1)).2.2)≠0)(Ai:i'=2)(Eb:Gl=((bK Aa 200).1))(A3:Bv=((aU ln 3 ((bK Aa 200).2) (l1,f1,e1)).1))(Aq:Bn=((aU ln 3 ((bK Aa 200).2) (l1,f1,e1)).2.1))(Ar:Bl=((aU ln 3 ((bK Aa 200).2) (l1,f1,e1)).2.2)):aA Tp 4 kG (dC fs ln k R i kd my l1 f1 e1) (.exit 0) (dC fs ln k R i' kd Gl Bv Bn Bl):=by
 subst Az;subst Ai Eb A3 Aq Ar;have k1:=fk 5 (gK Aa 200 h3) rfl;have k2:=mq co 5 (cU 3 ((bK Aa 200).2) ln k l1 f1 e1 R);exact aA.fi (gI bi [4]) (rT 6++[bF,bF,bF,bT,.x (aC Aa),k1.o,k2.o,bT]) (gc (cN (bA h4)) (gc k2 (gc aSt (gc k1 (gt (((fs.map stE).flatten)[2]? = some (aC Aa)) (aQ (E:=stE) (i:=2) (f:=0) (k:=1) (fun _=>rfl) h2 rfl) (gc (bC (E:=stE) (k:=1) (i:=(2:Int)) (fun _=>rfl) (by decide) (by first | decide | simp) h2) (gc bIo (gc bIp (gc bIq (gc (eQ h1) (B5 bIh (gc bIk gn))))))))))))
theorem aPr{R:List (List Cel)}(h4:((aU ln 3 ((bK Aa 200).2) (l1,f1,e1)).2.2)=0)(Ai:i'=3)(Eb:Gl=((bK Aa 200).1))(A3:Bv=((aU ln 3 ((bK Aa 200).2) (l1,f1,e1)).1))(Aq:Bn=((aU ln 3 ((bK Aa 200).2) (l1,f1,e1)).2.1))(Ar:Bl=((aU ln 3 ((bK Aa 200).2) (l1,f1,e1)).2.2)):aA Tp 4 kG (dC fs ln k R i kd my l1 f1 e1) .normal (dC fs ln k R i' kd Gl Bv Bn Bl):=by
 subst Az;subst Ai Eb A3 Aq Ar;have k1:=fk 5 (gK Aa 200 h3) rfl;have k2:=mq co 5 (cU 3 ((bK Aa 200).2) ln k l1 f1 e1 R);exact aA.fi (gI bi [4]) (rT 6++[bF,bF,bF,bT,.x (aC Aa),k1.o,k2.o,bF]) (gc aSt (gc (aO (cP h4)) (gc k2 (gc aSt (gc k1 (gt (((fs.map stE).flatten)[2]? = some (aC Aa)) (aQ (E:=stE) (i:=2) (f:=0) (k:=1) (fun _=>rfl) h2 rfl) (gc (bC (E:=stE) (k:=1) (i:=(2:Int)) (fun _=>rfl) (by decide) (by first | decide | simp) h2) (gc bIo (gc bIp (gc bIq (gc (eQ h1) (B5 bIh (gc bIk gn)))))))))))))
end
theorem aPs{fs:List (List UInt8)}{R:List (List Cel)}(Az:i=3)(h1:(3:Int)<(fs.length:Int))(h2:((aU ln 4 11 (l1,f1,e1)).2.2)≠0)(Ai:i'=3)(A3:Bv=((aU ln 4 11 (l1,f1,e1)).1))(Aq:Bn=((aU ln 4 11 (l1,f1,e1)).2.1))(Ar:Bl=((aU ln 4 11 (l1,f1,e1)).2.2)):aA Tp 4 kG (dC fs ln k R i kd my l1 f1 e1) (.exit 0) (dC fs ln k R i' kd my Bv Bn Bl):=by
 subst Az;subst Ai A3 Aq Ar;have k1:=mq co 5 (cU 4 11 ln k l1 f1 e1 R);exact aA.fi (gI bi [4]) ([bT]++rF 8++[bT,k1.o,bT]) (gc (cN (bA h2)) (gc k1 (gc aPo (gc (bJ h1) (gc bIr (gc bIs (gc bIt (B5 bRv (gc bIu gn)))))))))
theorem aPt{fs:List (List UInt8)}{R:List (List Cel)}(Az:i=3)(h1:(fs.length:Int)≤3)(h2:((aU ln 4 0 (l1,f1,e1)).2.2)=0)(Ai:i'=4)(A3:Bv=((aU ln 4 0 (l1,f1,e1)).1))(Aq:Bn=((aU ln 4 0 (l1,f1,e1)).2.1))(Ar:Bl=((aU ln 4 0 (l1,f1,e1)).2.2)):aA Tp 4 kG (dC fs ln k R i kd my l1 f1 e1) .normal (dC fs ln k R i' kd my Bv Bn Bl):=by
 subst Az;subst Ai A3 Aq Ar;have k1:=mq co 5 (cU 4 0 ln k l1 f1 e1 R);exact aA.fi (gI bi [4]) ([bT]++rF 9++[k1.o,bF]) (gc aPo (gc (aO (cP h2)) (gc k1 (gc aPo (gc (aJ h1) (gc bIr (gc bIs (gc bIt (B5 bRv (gc bIu gn))))))))))
theorem aPu{fs:List (List UInt8)}{R:List (List Cel)}(Az:i=4)(Ai:i'=4):aA Tp 4 kG (dC fs ln k R i kd my l1 f1 e1) (.exit 0) (dC fs ln k R i' kd my l1 f1 e1):=by
 subst Az;subst Ai;exact aA.fi (gI bi [4]) [bF] (gt ((decide ((4:Int)<4))=false) (by first | decide | simp) gn)
def fld(fs:List (List UInt8))(j:Nat):List UInt8:=(fs[j]?).getD []
theorem kS{fs:List (List UInt8)}{j:Nat}(h:j<fs.length):fs[j]? = some (fld fs j):=by
 unfold fld;rw [Ch h];rfl
def hdM(fs:List (List UInt8)):Int × Int × Int × Int :=
 if fs.length=0∨fld fs 0≠[107,108,105,115,116,101,114] then (-1,0,1,11)
 else if fs.length=1 then (-1,0,2,11)
 else if dN (fld fs 1)<0 then (dN (fld fs 1),0,2,12)
 else if fs.length=2 then (dN (fld fs 1),0,3,11)
 else if (bK (fld fs 2) 200).2≠0 then (dN (fld fs 1),(bK (fld fs 2) 200).1,3,(bK (fld fs 2) 200).2)
 else if 3<fs.length then (dN (fld fs 1),(bK (fld fs 2) 200).1,4,11)
 else (dN (fld fs 1),(bK (fld fs 2) 200).1,0,0)
theorem Iq(ln fd l f:Int):aU ln fd 0 (l,f,0)=(l,f,0):=rfl
theorem E0{er:Int}(ln fd l f:Int)(h:er≠0):aU ln fd er (l,f,0)=(ln,fd,er):=if_pos ⟨rfl,h⟩
def Di(k:Int):Int:=if k > 0 then k else 0
theorem bIv (fs:List (List UInt8)) (ln k l f:Int) (R:List (List Cel)):FMM Tp 90 [.ptr 0 0,.p (.sl fs.length ((fs.map stE).flatten)),.fn 176 [] [.ptr 2 0,.ptr 3 0]] [some (.box 158 [(pI k),(.own 1),(pI l),(pI f),(pI 0)]),some (.row 78 R.length ((R.map rwE).flatten)),some (.box 156 [(.ptr 0 0)]),some (.box 3 [(pI ln)])]
  (.p (aB (hdM fs).2.1)) [some (.box 158 [(pI (Di (hdM fs).1)),(.own 1),(pI ((aU ln (hdM fs).2.2.1 (hdM fs).2.2.2 (l,f,0)).1)),(pI ((aU ln (hdM fs).2.2.1 (hdM fs).2.2.2 (l,f,0)).2.1)),(pI ((aU ln (hdM fs).2.2.1 (hdM fs).2.2.2 (l,f,0)).2.2))]),some (.row 78 R.length ((R.map rwE).flatten)),some (.box 156 [(.ptr 0 0)]),some (.box 3 [(pI ln)])]:=by
 have t1:∀ fd er,er≠0→aU ln fd er (l,f,0)=(ln,fd,er):=fun fd er h=>E0 ln fd l f h
 have a0:∀ fd,l=(aU ln fd 0 (l,f,0)).1:=fun _=>rfl
 unfold hdM
 by_cases h0:fs.length=0
 ·rw [if_pos (.inl h0)]
  exact qH (.exit (bAk rfl (by omega) rfl rfl rfl rfl) (by simp)) rfl
 ·have f0:=kS (fs:=fs) (j:=0) (by omega)
  by_cases h1:fld fs 0=[107,108,105,115,116,101,114]
  ·rw [if_neg (by simp [h0,h1])]
   have s0:aA Tp 4 kG (dC fs ln k R 0 (-1) 0 l f 0) .normal (dC fs ln k R 1 (-1) 0 l f 0):=bAm rfl (by omega) f0 h1 rfl rfl rfl rfl rfl
   by_cases h2:fs.length=1
   ·rw [if_pos h2]
    exact qH (.step s0 (.exit (bAn rfl (by omega) rfl rfl rfl rfl) (by simp))) rfl
   ·rw [if_neg h2]
    have f1:=kS (fs:=fs) (j:=1) (by omega)
    by_cases h3:dN (fld fs 1)<0
    ·rw [if_pos h3]
     exact qH (.step s0 (.exit (bAo rfl (by omega) f1 h3 (by rw [t1 _ _ (by decide)];simp) rfl rfl rfl rfl rfl) (by simp))) rfl
    ·rw [if_neg h3]
     have s1:aA Tp 4 kG (dC fs ln k R 1 (-1) 0 l f 0) .normal (dC fs ln k R 2 (dN (fld fs 1)) 0 l f 0):=bAp rfl (by omega) f1 (by omega) rfl rfl rfl rfl rfl rfl
     by_cases h4:fs.length=2
     ·rw [if_pos h4]
      exact qH (.step s0 (.step s1 (.exit (aPp rfl (by omega) rfl rfl rfl rfl) (by simp)))) rfl
     ·rw [if_neg h4]
      have f2:=kS (fs:=fs) (j:=2) (by omega)
      by_cases h5:(bK (fld fs 2) 200).2=0
      ·rw [if_neg (by simp [h5])]
       have s2:aA Tp 4 kG (dC fs ln k R 2 (dN (fld fs 1)) 0 l f 0) .normal (dC fs ln k R 3 (dN (fld fs 1)) (bK (fld fs 2) 200).1 l f 0):=aPr rfl (by omega) f2 (by omega) (by rw [h5];rfl) rfl rfl (by rw [h5];rfl) (by rw [h5];rfl) (by rw [h5];rfl)
       by_cases h6:3<fs.length
       ·rw [if_pos h6]
        exact qH (.step s0 (.step s1 (.step s2 (.exit (aPs rfl (by omega) (by rw [t1 _ _ (by decide)];simp) rfl rfl rfl rfl) (by simp))))) rfl
       ·rw [if_neg h6]
        have s3:aA Tp 4 kG (dC fs ln k R 3 (dN (fld fs 1)) (bK (fld fs 2) 200).1 l f 0) .normal (dC fs ln k R 4 (dN (fld fs 1)) (bK (fld fs 2) 200).1 l f 0):=aPt rfl (by omega) rfl rfl rfl rfl rfl
        exact qH (.step s0 (.step s1 (.step s2 (.step s3 (.exit (aPu rfl rfl) (by simp)))))) rfl
      ·rw [if_pos h5]
       have e:=t1 3 _ h5;have:=qH (fs:=fs) (ln:=ln) (k:=k) (l:=l) (f:=f) (e:=0) (R:=R) (.step s0 (.step s1 (.exit (aPq rfl (by omega) f2 (by omega) (by rw [e];exact h5) rfl rfl rfl rfl rfl) (by simp)))) rfl
       rw [e] at this
       have e2:=t1 3 _ h5;dsimp only at this ⊢
       rw [e2];exact this
  ·rw [if_pos (.inr h1)]
   exact qH (.exit (bAl rfl (by omega) f0 h1 (by rw [t1 _ _ (by decide)];simp) rfl rfl rfl rfl) (by simp)) rfl
end
section
variable {e f k l e1 f1 l1 ln r0 r1 r2 sm Bl Bn Bv e1'4 f1'3 l1'2:Int}{i i' Av:Nat}

noncomputable abbrev kF:Code:=sub (cd Tryz.f91) [1,1,1,1,0,1,0,0]
theorem bRr:0≤(0:Int)∧(0:Int)<4:=by first | decide | simp
theorem bRs:0≤(1:Int)∧(1:Int)<4:=by first | decide | simp
theorem bRt:0≤(2:Int)∧(2:Int)<4:=by first | decide | simp
theorem bRu:0≤(3:Int)∧(3:Int)<4:=by first | decide | simp
def dB(fs:List (List UInt8))(ln k:Int)(R:List (List Cel))(i on:Nat)(oc:List PV)(l1 f1 e1:Int):St:=⟨fr 77 [(0,(.ptr 0 0)),(1,(.p (.sl fs.length ((fs.map stE).flatten)))),(2,(.fn 176 [] [(.ptr 2 0),(.ptr 3 0)])),(8,(.p (bO (aK k)))),(10,(.ptr 4 0)),(11,(.own 5)),(26,(pI ((aK k).length:Int))),(27,(pI (i:Int)))],[some (.box 158 [(pI k),(.own 1),(pI l1),(pI f1),(pI e1)]),some (.row 78 R.length ((R.map rwE).flatten)),some (.box 156 [(.ptr 0 0)]),some (.box 3 [(pI ln)]),some (.box 214 [(.fn 224 [] [(.rp [(PV.fn 188 [] [])] 0)]),(.fn 225 [] [(.rp [(PV.fn 120 [] [])] 0)]),(.fn 226 [] [(.rp [(aB 999999)] 0)]),(.fn 224 [] [(.rp [(PV.fn 39 [] [])] 0)]),(.fn 225 [] [(.rp [(PV.fn 189 [] [])] 0)]),(.fn 226 [] [(.rp [(aB 360000)] 0)]),(.fn 227 [] [(.rp [(PV.fn 191 [] [])] 0)]),(.fn 228 [] []),(.fn 229 [] [(.rp [(PV.fn 191 [] [])] 0)]),(.fn 227 [] [(.rp [(PV.fn 192 [] [])] 0)]),(.fn 228 [] []),(.fn 229 [] [(.rp [(PV.fn 192 [] [])] 0)])]),some (.row 80 on oc)]⟩
section
variable{fs:List (List UInt8)}{R:List (List Cel)}{Aj:List Cel}(A2:aE Tp 4 kF (dB fs ln k R 0 0 [] l f e) (.exit 0) (dB fs ln k R Av Aj.length ((Aj.map cE).flatten) l1'2 f1'3 e1'4))
include A2
theorem cAk(h1:(fs.length:Int)=((aK k).length:Int)):FMM Tp 91 [(.ptr 0 0),(.p (.sl fs.length ((fs.map stE).flatten))),(.fn 176 [] [(.ptr 2 0),(.ptr 3 0)])] [some (.box 158 [(pI k),(.own 1),(pI l),(pI f),(pI e)]),some (.row 78 R.length ((R.map rwE).flatten)),some (.box 156 [(.ptr 0 0)]),some (.box 3 [(pI ln)])] (.tup [(.own 4),(pB true)]) [some (.box 158 [(pI k),(.own 1),(pI l1'2),(pI f1'3),(pI e1'4)]),some (.row 78 R.length ((R.map rwE).flatten)),some (.box 156 [(.ptr 0 0)]),some (.box 3 [(pI ln)]),some (.row 80 Aj.length ((Aj.map cE).flatten))]:=have k1:=fk 4 (fF k) rfl;have k2:=fk 4 (eT) rfl;FMM.fi 4 ⟨[],[5],[],[]⟩ func91 ([k1.o,k2.o,A2.k 6 (gN ay [4,5] [(11,80)])]++rT 6) (Fb (cP h1) (gc A2.code (gc k2 (gc k1 gn))))
theorem cAl{r0:Bool}{r3:Int}(h1:(fs.length:Int)≠((aK k).length:Int))(h2:inR ((((aK k).length+1):Nat):Int))(Ao:r0=(((aU ln ((((aK k).length+1):Nat):Int) 11 (l1'2,f1'3,e1'4)).2.2) == 0))(Ee:r1=((aU ln ((((aK k).length+1):Nat):Int) 11 (l1'2,f1'3,e1'4)).1))(F5:r2=((aU ln ((((aK k).length+1):Nat):Int) 11 (l1'2,f1'3,e1'4)).2.1))(Pq:r3=((aU ln ((((aK k).length+1):Nat):Int) 11 (l1'2,f1'3,e1'4)).2.2)):FMM Tp 91 [(.ptr 0 0),(.p (.sl fs.length ((fs.map stE).flatten))),(.fn 176 [] [(.ptr 2 0),(.ptr 3 0)])] [some (.box 158 [(pI k),(.own 1),(pI l),(pI f),(pI e)]),some (.row 78 R.length ((R.map rwE).flatten)),some (.box 156 [(.ptr 0 0)]),some (.box 3 [(pI ln)])] (.tup [(.own 4),(pB r0)]) [some (.box 158 [(pI k),(.own 1),(pI r1),(pI r2),(pI r3)]),some (.row 78 R.length ((R.map rwE).flatten)),some (.box 156 [(.ptr 0 0)]),some (.box 3 [(pI ln)]),some (.row 80 Aj.length ((Aj.map cE).flatten))]:=by
 subst Ao Ee F5 Pq;have k1:=fk 4 (fF k) rfl;have k2:=fk 4 (eT) rfl;have k3:=mq co 6 (cU ((((aK k).length+1):Nat):Int) 11 ln k l1'2 f1'3 e1'4 R);exact FMM.fi 4 ⟨[],[5],[],[]⟩ func91 ([k1.o,k2.o,A2.k 6 (gN ay [4,5] [(11,80)])]++rF 5++[k3.o,bF]) (gc (bA h1) (gc k3 (gc (bA h1) (gc h2 (Db (bA h1) (gc A2.code (gc k2 (gc k1 gn))))))))
end
theorem cAm{fs:List (List UInt8)}{R:List (List Cel)}{Aj:List Cel}{r0:Bool}(A2:aE Tp 4 kF (dB fs ln k R 0 0 [] l f e) .ret (bS (dB fs ln k R Av Aj.length ((Aj.map cE).flatten) l1'2 f1'3 e1'4) [(6,(.p bM)),(7,(pB (e1'4 == 0)))]))(Ao:r0=(e1'4 == 0)):FMM Tp 91 [(.ptr 0 0),(.p (.sl fs.length ((fs.map stE).flatten))),(.fn 176 [] [(.ptr 2 0),(.ptr 3 0)])] [some (.box 158 [(pI k),(.own 1),(pI l),(pI f),(pI e)]),some (.row 78 R.length ((R.map rwE).flatten)),some (.box 156 [(.ptr 0 0)]),some (.box 3 [(pI ln)])] (.tup [(.p bM),(pB r0)]) [some (.box 158 [(pI k),(.own 1),(pI l1'2),(pI f1'3),(pI e1'4)]),some (.row 78 R.length ((R.map rwE).flatten)),some (.box 156 [(.ptr 0 0)]),some (.box 3 [(pI ln)])]:=by
 subst Ao;have k1:=fk 4 (fF k) rfl;have k2:=fk 4 (eT) rfl;exact FMM.fi 4 gE func91 [k1.o,k2.o,A2.k 6 (gN ay [4,5] [(11,80)])] (gc A2.code (gc k2 (gc k1 gn)))
theorem bAa{fs:List (List UInt8)}{R:List (List Cel)}{o:List Cel}(h0:(i:Int)<((aK k).length:Int))(h1:(fs.length:Int)≤(i:Int))(h2:cq i)(A3:Bv=((aU ln (((i+1):Nat):Int) 11 (l1,f1,e1)).1))(Aq:Bn=((aU ln (((i+1):Nat):Int) 11 (l1,f1,e1)).2.1))(Ar:Bl=((aU ln (((i+1):Nat):Int) 11 (l1,f1,e1)).2.2)):aA Tp 4 kF (dB fs ln k R i o.length ((o.map cE).flatten) l1 f1 e1) .ret (bS (dB fs ln k R i o.length ((o.map cE).flatten) Bv Bn Bl) [(6,(.p bM)),(7,(pB (((aU ln (((i+1):Nat):Int) 11 (l1,f1,e1)).2.2) == 0)))]):=by
 subst A3 Aq Ar;have k1:=mq co 6 (cU (((i+1):Nat):Int) 11 ln k l1 f1 e1 R);exact aA.fi (gI az [4,5]) [bT,bT,k1.o] (gc k1 (gc h2 (gc (gO h1) (g0 h0))))
section
variable{fs:List (List UInt8)}(h0:(i:Int)<((aK k).length:Int))(h1:(i:Int)<(fs.length:Int))
include h0 h1
theorem bAb{R:List (List Cel)}{o:List Cel}{Aa:List UInt8}(h2:(aK k)[i]? = some 0)(h3:fs[i]? = some (Aa))(h4:cq i)(h5:((aU ln (((i+1):Nat):Int) ((rdM 0 Aa).2) (l1,f1,e1)).2.2)≠0)(A3:Bv=((aU ln (((i+1):Nat):Int) ((rdM 0 Aa).2) (l1,f1,e1)).1))(Aq:Bn=((aU ln (((i+1):Nat):Int) ((rdM 0 Aa).2) (l1,f1,e1)).2.1))(Ar:Bl=((aU ln (((i+1):Nat):Int) ((rdM 0 Aa).2) (l1,f1,e1)).2.2)):aA Tp 4 kF (dB fs ln k R i o.length ((o.map cE).flatten) l1 f1 e1) .ret (bS (dB fs ln k R i o.length ((o.map cE).flatten) Bv Bn Bl) [(6,(.p bM)),(7,(pB false))]):=by
 subst A3 Aq Ar;have k1:=fk 6 (bHt Aa) rfl;have k2:=mq co 15 (cU (((i+1):Nat):Int) ((rdM 0 Aa).2) ln k l1 f1 e1 R);exact aA.fi (gN az [4,5] [(7,0)]) [bT,bF,.x (aB 0),.x (aC Aa),k1.o,k2.o,bT] (gc (cN (bA h5)) (gc k2 (gc h4 (gc k1 (gt (((fs.map stE).flatten)[(i*1)]? = some (aC Aa)) (aQ (E:=stE) (i:=i) (f:=0) (k:=1) (fun _=>rfl) h3 rfl) (gc (bC (E:=stE) (k:=1) (i:=(i:Int)) (fun _=>rfl) (by decide) (Bf _) h3) (gc bRr (gc (atm aB h2) (gc (ixn aB h2) (gc (eQ h1) (g0 h0)))))))))))
theorem bAc{R:List (List Cel)}{o:List Cel}{Aa:List UInt8}{o':List Cel}(h2:(aK k)[i]? = some 0)(h3:fs[i]? = some (Aa))(h4:cq i)(h5:((aU ln (((i+1):Nat):Int) ((rdM 0 Aa).2) (l1,f1,e1)).2.2)=0)(h6:[(aB ((rdM 0 Aa).1.1)),(aC ((rdM 0 Aa).1.2))].length=1*2∧o.length+1≤1000000)(Ai:i'=(i+1))(Ca:o'.length=(o.length+1))(Cb:(o'.map cE).flatten=(((o.map cE).flatten)++[(aB ((rdM 0 Aa).1.1)),(aC ((rdM 0 Aa).1.2))]))(A3:Bv=((aU ln (((i+1):Nat):Int) ((rdM 0 Aa).2) (l1,f1,e1)).1))(Aq:Bn=((aU ln (((i+1):Nat):Int) ((rdM 0 Aa).2) (l1,f1,e1)).2.1))(Ar:Bl=((aU ln (((i+1):Nat):Int) ((rdM 0 Aa).2) (l1,f1,e1)).2.2)):aA Tp 4 kF (dB fs ln k R i o.length ((o.map cE).flatten) l1 f1 e1) .normal (dB fs ln k R i' o'.length ((o'.map cE).flatten) Bv Bn Bl):=by
 subst Ai A3 Aq Ar;have k1:=fk 6 (bHt Aa) rfl;have k2:=mq co 15 (cU (((i+1):Nat):Int) ((rdM 0 Aa).2) ln k l1 f1 e1 R);rw [Ca,Cb];exact aA.fi (gI ay [4,16]) [bT,bF,.x (aB 0),.x (aC Aa),k1.o,k2.o,bF] (gc h4 (gc h6 (gt ([(aB ((rdM 0 Aa).1.1)),(aC ((rdM 0 Aa).1.2))].length=2) (by first | decide | simp) (gc (aO (cP h5)) (gc k2 (gc h4 (gc k1 (gt (((fs.map stE).flatten)[(i*1)]? = some (aC Aa)) (aQ (E:=stE) (i:=i) (f:=0) (k:=1) (fun _=>rfl) h3 rfl) (gc (bC (E:=stE) (k:=1) (i:=(i:Int)) (fun _=>rfl) (by decide) (Bf _) h3) (gc bRr (gc (atm aB h2) (gc (ixn aB h2) (gc (eQ h1) (g0 h0))))))))))))))
theorem bAd{R:List (List Cel)}{o:List Cel}{Aa:List UInt8}(h2:(aK k)[i]? = some 1)(h3:fs[i]? = some (Aa))(h4:Aa.length≤90000)(h5:cq i)(h6:((aU ln (((i+1):Nat):Int) ((rdM 1 Aa).2) (l1,f1,e1)).2.2)≠0)(A3:Bv=((aU ln (((i+1):Nat):Int) ((rdM 1 Aa).2) (l1,f1,e1)).1))(Aq:Bn=((aU ln (((i+1):Nat):Int) ((rdM 1 Aa).2) (l1,f1,e1)).2.1))(Ar:Bl=((aU ln (((i+1):Nat):Int) ((rdM 1 Aa).2) (l1,f1,e1)).2.2)):aA Tp 4 kF (dB fs ln k R i o.length ((o.map cE).flatten) l1 f1 e1) .ret (bS (dB fs ln k R i o.length ((o.map cE).flatten) Bv Bn Bl) [(6,(.p bM)),(7,(pB false))]):=by
 subst A3 Aq Ar;have k1:=fk 6 (bHu Aa h4) rfl;have k2:=mq co 15 (cU (((i+1):Nat):Int) ((rdM 1 Aa).2) ln k l1 f1 e1 R);exact aA.fi (gN az [4,5] [(7,0)]) [bT,bF,.x (aB 1),.x (aC Aa),k1.o,k2.o,bT] (gc (cN (bA h6)) (gc k2 (gc h5 (gc k1 (gt (((fs.map stE).flatten)[(i*1)]? = some (aC Aa)) (aQ (E:=stE) (i:=i) (f:=0) (k:=1) (fun _=>rfl) h3 rfl) (gc (bC (E:=stE) (k:=1) (i:=(i:Int)) (fun _=>rfl) (by decide) (Bf _) h3) (gc bRs (gc (atm aB h2) (gc (ixn aB h2) (gc (eQ h1) (g0 h0)))))))))))
theorem bAe{R:List (List Cel)}{o:List Cel}{Aa:List UInt8}{o':List Cel}(h2:(aK k)[i]? = some 1)(h3:fs[i]? = some (Aa))(h4:Aa.length≤90000)(h5:cq i)(h6:((aU ln (((i+1):Nat):Int) ((rdM 1 Aa).2) (l1,f1,e1)).2.2)=0)(h7:[(aB ((rdM 1 Aa).1.1)),(aC ((rdM 1 Aa).1.2))].length=1*2∧o.length+1≤1000000)(Ai:i'=(i+1))(Ca:o'.length=(o.length+1))(Cb:(o'.map cE).flatten=(((o.map cE).flatten)++[(aB ((rdM 1 Aa).1.1)),(aC ((rdM 1 Aa).1.2))]))(A3:Bv=((aU ln (((i+1):Nat):Int) ((rdM 1 Aa).2) (l1,f1,e1)).1))(Aq:Bn=((aU ln (((i+1):Nat):Int) ((rdM 1 Aa).2) (l1,f1,e1)).2.1))(Ar:Bl=((aU ln (((i+1):Nat):Int) ((rdM 1 Aa).2) (l1,f1,e1)).2.2)):aA Tp 4 kF (dB fs ln k R i o.length ((o.map cE).flatten) l1 f1 e1) .normal (dB fs ln k R i' o'.length ((o'.map cE).flatten) Bv Bn Bl):=by
 subst Ai A3 Aq Ar;have k1:=fk 6 (bHu Aa h4) rfl;have k2:=mq co 15 (cU (((i+1):Nat):Int) ((rdM 1 Aa).2) ln k l1 f1 e1 R);rw [Ca,Cb];exact aA.fi (gI ay [4,16]) [bT,bF,.x (aB 1),.x (aC Aa),k1.o,k2.o,bF] (gc h5 (gc h7 (gt ([(aB ((rdM 1 Aa).1.1)),(aC ((rdM 1 Aa).1.2))].length=2) (by first | decide | simp) (gc (aO (cP h6)) (gc k2 (gc h5 (gc k1 (gt (((fs.map stE).flatten)[(i*1)]? = some (aC Aa)) (aQ (E:=stE) (i:=i) (f:=0) (k:=1) (fun _=>rfl) h3 rfl) (gc (bC (E:=stE) (k:=1) (i:=(i:Int)) (fun _=>rfl) (by decide) (Bf _) h3) (gc bRs (gc (atm aB h2) (gc (ixn aB h2) (gc (eQ h1) (g0 h0))))))))))))))
theorem bAf{R:List (List Cel)}{o:List Cel}{Aa:List UInt8}(h2:(aK k)[i]? = some 2)(h3:fs[i]? = some (Aa))(h4:cq i)(h5:((aU ln (((i+1):Nat):Int) ((rdM 2 Aa).2) (l1,f1,e1)).2.2)≠0)(A3:Bv=((aU ln (((i+1):Nat):Int) ((rdM 2 Aa).2) (l1,f1,e1)).1))(Aq:Bn=((aU ln (((i+1):Nat):Int) ((rdM 2 Aa).2) (l1,f1,e1)).2.1))(Ar:Bl=((aU ln (((i+1):Nat):Int) ((rdM 2 Aa).2) (l1,f1,e1)).2.2)):aA Tp 4 kF (dB fs ln k R i o.length ((o.map cE).flatten) l1 f1 e1) .ret (bS (dB fs ln k R i o.length ((o.map cE).flatten) Bv Bn Bl) [(6,(.p bM)),(7,(pB false))]):=by
 subst A3 Aq Ar;have k1:=fk 6 (bHv Aa) rfl;have k2:=mq co 15 (cU (((i+1):Nat):Int) ((rdM 2 Aa).2) ln k l1 f1 e1 R);exact aA.fi (gN az [4,5] [(7,0)]) [bT,bF,.x (aB 2),.x (aC Aa),k1.o,k2.o,bT] (gc (cN (bA h5)) (gc k2 (gc h4 (gc k1 (gt (((fs.map stE).flatten)[(i*1)]? = some (aC Aa)) (aQ (E:=stE) (i:=i) (f:=0) (k:=1) (fun _=>rfl) h3 rfl) (gc (bC (E:=stE) (k:=1) (i:=(i:Int)) (fun _=>rfl) (by decide) (Bf _) h3) (gc bRt (gc (atm aB h2) (gc (ixn aB h2) (gc (eQ h1) (g0 h0)))))))))))
theorem bAg{R:List (List Cel)}{o:List Cel}{Aa:List UInt8}{o':List Cel}(h2:(aK k)[i]? = some 2)(h3:fs[i]? = some (Aa))(h4:cq i)(h5:((aU ln (((i+1):Nat):Int) ((rdM 2 Aa).2) (l1,f1,e1)).2.2)=0)(h6:[(aB ((rdM 2 Aa).1.1)),(aC ((rdM 2 Aa).1.2))].length=1*2∧o.length+1≤1000000)(Ai:i'=(i+1))(Ca:o'.length=(o.length+1))(Cb:(o'.map cE).flatten=(((o.map cE).flatten)++[(aB ((rdM 2 Aa).1.1)),(aC ((rdM 2 Aa).1.2))]))(A3:Bv=((aU ln (((i+1):Nat):Int) ((rdM 2 Aa).2) (l1,f1,e1)).1))(Aq:Bn=((aU ln (((i+1):Nat):Int) ((rdM 2 Aa).2) (l1,f1,e1)).2.1))(Ar:Bl=((aU ln (((i+1):Nat):Int) ((rdM 2 Aa).2) (l1,f1,e1)).2.2)):aA Tp 4 kF (dB fs ln k R i o.length ((o.map cE).flatten) l1 f1 e1) .normal (dB fs ln k R i' o'.length ((o'.map cE).flatten) Bv Bn Bl):=by
 subst Ai A3 Aq Ar;have k1:=fk 6 (bHv Aa) rfl;have k2:=mq co 15 (cU (((i+1):Nat):Int) ((rdM 2 Aa).2) ln k l1 f1 e1 R);rw [Ca,Cb];exact aA.fi (gI ay [4,16]) [bT,bF,.x (aB 2),.x (aC Aa),k1.o,k2.o,bF] (gc h4 (gc h6 (gt ([(aB ((rdM 2 Aa).1.1)),(aC ((rdM 2 Aa).1.2))].length=2) (by first | decide | simp) (gc (aO (cP h5)) (gc k2 (gc h4 (gc k1 (gt (((fs.map stE).flatten)[(i*1)]? = some (aC Aa)) (aQ (E:=stE) (i:=i) (f:=0) (k:=1) (fun _=>rfl) h3 rfl) (gc (bC (E:=stE) (k:=1) (i:=(i:Int)) (fun _=>rfl) (by decide) (Bf _) h3) (gc bRt (gc (atm aB h2) (gc (ixn aB h2) (gc (eQ h1) (g0 h0))))))))))))))
theorem bAh{R:List (List Cel)}{o:List Cel}{Aa:List UInt8}(h2:(aK k)[i]? = some 3)(h3:fs[i]? = some (Aa))(h4:cq i)(h5:((aU ln (((i+1):Nat):Int) ((rdM 3 Aa).2) (l1,f1,e1)).2.2)≠0)(A3:Bv=((aU ln (((i+1):Nat):Int) ((rdM 3 Aa).2) (l1,f1,e1)).1))(Aq:Bn=((aU ln (((i+1):Nat):Int) ((rdM 3 Aa).2) (l1,f1,e1)).2.1))(Ar:Bl=((aU ln (((i+1):Nat):Int) ((rdM 3 Aa).2) (l1,f1,e1)).2.2)):aA Tp 4 kF (dB fs ln k R i o.length ((o.map cE).flatten) l1 f1 e1) .ret (bS (dB fs ln k R i o.length ((o.map cE).flatten) Bv Bn Bl) [(6,(.p bM)),(7,(pB false))]):=by
 subst A3 Aq Ar;have k1:=fk 6 (bHw Aa) rfl;have k2:=mq co 15 (cU (((i+1):Nat):Int) ((rdM 3 Aa).2) ln k l1 f1 e1 R);exact aA.fi (gN az [4,5] [(7,0)]) [bT,bF,.x (aB 3),.x (aC Aa),k1.o,k2.o,bT] (gc (cN (bA h5)) (gc k2 (gc h4 (gc k1 (gt (((fs.map stE).flatten)[(i*1)]? = some (aC Aa)) (aQ (E:=stE) (i:=i) (f:=0) (k:=1) (fun _=>rfl) h3 rfl) (gc (bC (E:=stE) (k:=1) (i:=(i:Int)) (fun _=>rfl) (by decide) (Bf _) h3) (gc bRu (gc (atm aB h2) (gc (ixn aB h2) (gc (eQ h1) (g0 h0)))))))))))
theorem bAi{R:List (List Cel)}{o:List Cel}{Aa:List UInt8}{o':List Cel}(h2:(aK k)[i]? = some 3)(h3:fs[i]? = some (Aa))(h4:cq i)(h5:((aU ln (((i+1):Nat):Int) ((rdM 3 Aa).2) (l1,f1,e1)).2.2)=0)(h6:[(aB ((rdM 3 Aa).1.1)),(aC ((rdM 3 Aa).1.2))].length=1*2∧o.length+1≤1000000)(Ai:i'=(i+1))(Ca:o'.length=(o.length+1))(Cb:(o'.map cE).flatten=(((o.map cE).flatten)++[(aB ((rdM 3 Aa).1.1)),(aC ((rdM 3 Aa).1.2))]))(A3:Bv=((aU ln (((i+1):Nat):Int) ((rdM 3 Aa).2) (l1,f1,e1)).1))(Aq:Bn=((aU ln (((i+1):Nat):Int) ((rdM 3 Aa).2) (l1,f1,e1)).2.1))(Ar:Bl=((aU ln (((i+1):Nat):Int) ((rdM 3 Aa).2) (l1,f1,e1)).2.2)):aA Tp 4 kF (dB fs ln k R i o.length ((o.map cE).flatten) l1 f1 e1) .normal (dB fs ln k R i' o'.length ((o'.map cE).flatten) Bv Bn Bl):=by
 subst Ai A3 Aq Ar;have k1:=fk 6 (bHw Aa) rfl;have k2:=mq co 15 (cU (((i+1):Nat):Int) ((rdM 3 Aa).2) ln k l1 f1 e1 R);rw [Ca,Cb];exact aA.fi (gI ay [4,16]) [bT,bF,.x (aB 3),.x (aC Aa),k1.o,k2.o,bF] (gc h4 (gc h6 (gt ([(aB ((rdM 3 Aa).1.1)),(aC ((rdM 3 Aa).1.2))].length=2) (by first | decide | simp) (gc (aO (cP h5)) (gc k2 (gc h4 (gc k1 (gt (((fs.map stE).flatten)[(i*1)]? = some (aC Aa)) (aQ (E:=stE) (i:=i) (f:=0) (k:=1) (fun _=>rfl) h3 rfl) (gc (bC (E:=stE) (k:=1) (i:=(i:Int)) (fun _=>rfl) (by decide) (Bf _) h3) (gc bRu (gc (atm aB h2) (gc (ixn aB h2) (gc (eQ h1) (g0 h0))))))))))))))
end
theorem bAj{fs:List (List UInt8)}{R:List (List Cel)}{o:List Cel}(h0:((aK k).length:Int)≤(i:Int)):aA Tp 4 kF (dB fs ln k R i o.length ((o.map cE).flatten) l1 f1 e1) (.exit 0) (dB fs ln k R i o.length ((o.map cE).flatten) l1 f1 e1):=aA.fi (gI ay [4,5]) [bF] (gc (aJ h0) gn)
theorem cAn{fs:List (List UInt8)}{R:List (List Cel)}{u0:List UInt8}(h0:fs[0]? = some (u0))(h1:u0≠([115,117,109]:List UInt8))(Ao:r0=((aU ln 1 11 (l,f,e)).1))(Ee:r1=((aU ln 1 11 (l,f,e)).2.1))(F5:r2=((aU ln 1 11 (l,f,e)).2.2)):FMM Tp 93 [(.p (.sl fs.length ((fs.map stE).flatten))),(pI sm),(.fn 176 [] [(.ptr 0 0),(.ptr 1 0)])] [some (.box 156 [(.ptr 2 0)]),some (.box 3 [(pI ln)]),some (.box 158 [(pI k),(.own 3),(pI l),(pI f),(pI e)]),some (.row 78 R.length ((R.map rwE).flatten))] (.tup []) [some (.box 156 [(.ptr 2 0)]),some (.box 3 [(pI ln)]),some (.box 158 [(pI k),(.own 3),(pI r0),(pI r1),(pI r2)]),some (.row 78 R.length ((R.map rwE).flatten))]:=by
 subst Ao Ee F5;have k1:=mq cp 4 (cU 1 11 ln k l f e R);exact FMM.fi 4 gE func93 [.x (aC u0),bT,k1.o] (gc k1 (gc (cN (decide_eq_false h1)) (gt (((fs.map stE).flatten)[0]? = some (aC u0)) (aQ (E:=stE) (i:=0) (f:=0) (k:=1) (fun _=>rfl) h0 rfl) (gc (bC (E:=stE) (k:=1) (i:=(0:Int)) (fun _=>rfl) (by decide) (by first | decide | simp) h0) gn))))
theorem cAo{fs:List (List UInt8)}{R:List (List Cel)}{u0:List UInt8}(h0:fs[0]? = some (u0))(h1:u0=([115,117,109]:List UInt8))(h2:(fs.length:Int)<2)(Ao:r0=((aU ln 2 11 (l,f,e)).1))(Ee:r1=((aU ln 2 11 (l,f,e)).2.1))(F5:r2=((aU ln 2 11 (l,f,e)).2.2)):FMM Tp 93 [(.p (.sl fs.length ((fs.map stE).flatten))),(pI sm),(.fn 176 [] [(.ptr 0 0),(.ptr 1 0)])] [some (.box 156 [(.ptr 2 0)]),some (.box 3 [(pI ln)]),some (.box 158 [(pI k),(.own 3),(pI l),(pI f),(pI e)]),some (.row 78 R.length ((R.map rwE).flatten))] (.tup []) [some (.box 156 [(.ptr 2 0)]),some (.box 3 [(pI ln)]),some (.box 158 [(pI k),(.own 3),(pI r0),(pI r1),(pI r2)]),some (.row 78 R.length ((R.map rwE).flatten))]:=by
 subst Ao Ee F5;have k1:=mq cp 4 (cU 2 11 ln k l f e R);exact FMM.fi 4 gE func93 [.x (aC u0),bF,bT,k1.o] (gc k1 (gc (bJ h2) (gc (aO (decide_eq_true h1)) (gt (((fs.map stE).flatten)[0]? = some (aC u0)) (aQ (E:=stE) (i:=0) (f:=0) (k:=1) (fun _=>rfl) h0 rfl) (gc (bC (E:=stE) (k:=1) (i:=(0:Int)) (fun _=>rfl) (by decide) (by first | decide | simp) h0) gn)))))
section
variable{fs:List (List UInt8)}{u0 u1:List UInt8}(h0:fs[0]? = some (u0))(h1:u0=([115,117,109]:List UInt8))(h2:(2:Int)≤(fs.length:Int))(h3:fs[1]? = some (u1))(h4:0≤(65520:Int)∧(65520:Int)≤1000000000)
include h0 h1 h2 h3 h4
theorem cAp{R:List (List Cel)}(h5:((bK u1 65520).2)=3)(h6:((aU ln 2 8 (l,f,e)).2.2)≠0)(Ao:r0=((aU ln 2 8 (l,f,e)).1))(Ee:r1=((aU ln 2 8 (l,f,e)).2.1))(F5:r2=((aU ln 2 8 (l,f,e)).2.2)):FMM Tp 93 [(.p (.sl fs.length ((fs.map stE).flatten))),(pI sm),(.fn 176 [] [(.ptr 0 0),(.ptr 1 0)])] [some (.box 156 [(.ptr 2 0)]),some (.box 3 [(pI ln)]),some (.box 158 [(pI k),(.own 3),(pI l),(pI f),(pI e)]),some (.row 78 R.length ((R.map rwE).flatten))] (.tup []) [some (.box 156 [(.ptr 2 0)]),some (.box 3 [(pI ln)]),some (.box 158 [(pI k),(.own 3),(pI r0),(pI r1),(pI r2)]),some (.row 78 R.length ((R.map rwE).flatten))]:=by
 subst Ao Ee F5;have k1:=fk 4 (gK u1 65520 h4) rfl;have k2:=mq cp 4 (cU 2 8 ln k l f e R);exact FMM.fi 4 gE func93 ([.x (aC u0),bF,bF,.x (aC u1),k1.o]++rT 5++[k2.o,bF,bF,bF,bF]) (Db (bA h6) (gc k2 (B5 (cP h5) (gc k1 (gt (((fs.map stE).flatten)[1]? = some (aC u1)) (aQ (E:=stE) (i:=1) (f:=0) (k:=1) (fun _=>rfl) h3 rfl) (gc (bC (E:=stE) (k:=1) (i:=(1:Int)) (fun _=>rfl) (by decide) (by first | decide | simp) h3) (gc (aJ h2) (gc (aO (decide_eq_true h1)) (gt (((fs.map stE).flatten)[0]? = some (aC u0)) (aQ (E:=stE) (i:=0) (f:=0) (k:=1) (fun _=>rfl) h0 rfl) (gc (bC (E:=stE) (k:=1) (i:=(0:Int)) (fun _=>rfl) (by decide) (by first | decide | simp) h0) gn))))))))))
theorem cAq{R:List (List Cel)}(h5:((bK u1 65520).2)≠3)(h6:((bK u1 65520).2)=0)(h7:((bK u1 65520).1)≠sm)(h8:((aU ln 2 8 (l,f,e)).2.2)≠0)(Ao:r0=((aU ln 2 8 (l,f,e)).1))(Ee:r1=((aU ln 2 8 (l,f,e)).2.1))(F5:r2=((aU ln 2 8 (l,f,e)).2.2)):FMM Tp 93 [(.p (.sl fs.length ((fs.map stE).flatten))),(pI sm),(.fn 176 [] [(.ptr 0 0),(.ptr 1 0)])] [some (.box 156 [(.ptr 2 0)]),some (.box 3 [(pI ln)]),some (.box 158 [(pI k),(.own 3),(pI l),(pI f),(pI e)]),some (.row 78 R.length ((R.map rwE).flatten))] (.tup []) [some (.box 156 [(.ptr 2 0)]),some (.box 3 [(pI ln)]),some (.box 158 [(pI k),(.own 3),(pI r0),(pI r1),(pI r2)]),some (.row 78 R.length ((R.map rwE).flatten))]:=by
 subst Ao Ee F5;have k1:=fk 4 (gK u1 65520 h4) rfl;have k2:=mq cp 4 (cU 2 8 ln k l f e R);exact FMM.fi 4 gE func93 [.x (aC u0),bF,bF,.x (aC u1),k1.o,bF,bF,bF,bT,bT,bT,bF,bT,bF,bT,k2.o,bF,bF,bF,bF] (Db (bA h8) (gc k2 (gc (cL h7) (gc (bA h5) (gc (cP h6) (gc (bA h5) (Ap (cP h6) (Ap (bA h5) (gc k1 (gt (((fs.map stE).flatten)[1]? = some (aC u1)) (aQ (E:=stE) (i:=1) (f:=0) (k:=1) (fun _=>rfl) h3 rfl) (gc (bC (E:=stE) (k:=1) (i:=(1:Int)) (fun _=>rfl) (by decide) (by first | decide | simp) h3) (gc (aJ h2) (gc (aO (decide_eq_true h1)) (gt (((fs.map stE).flatten)[0]? = some (aC u0)) (aQ (E:=stE) (i:=0) (f:=0) (k:=1) (fun _=>rfl) h0 rfl) (gc (bC (E:=stE) (k:=1) (i:=(0:Int)) (fun _=>rfl) (by decide) (by first | decide | simp) h0) gn)))))))))))))))
theorem cAr{R:List (List Cel)}(h5:((bK u1 65520).2)≠3)(h6:((bK u1 65520).2)=0)(h7:((bK u1 65520).1)=sm)(h8:((aU ln 2 ((bK u1 65520).2) (l,f,e)).2.2)=0)(h9:(2:Int)<(fs.length:Int))(Ao:r0=((aU ln 3 11 (((aU ln 2 ((bK u1 65520).2) (l,f,e)).1),((aU ln 2 ((bK u1 65520).2) (l,f,e)).2.1),((aU ln 2 ((bK u1 65520).2) (l,f,e)).2.2))).1))(Ee:r1=((aU ln 3 11 (((aU ln 2 ((bK u1 65520).2) (l,f,e)).1),((aU ln 2 ((bK u1 65520).2) (l,f,e)).2.1),((aU ln 2 ((bK u1 65520).2) (l,f,e)).2.2))).2.1))(F5:r2=((aU ln 3 11 (((aU ln 2 ((bK u1 65520).2) (l,f,e)).1),((aU ln 2 ((bK u1 65520).2) (l,f,e)).2.1),((aU ln 2 ((bK u1 65520).2) (l,f,e)).2.2))).2.2)):FMM Tp 93 [(.p (.sl fs.length ((fs.map stE).flatten))),(pI sm),(.fn 176 [] [(.ptr 0 0),(.ptr 1 0)])] [some (.box 156 [(.ptr 2 0)]),some (.box 3 [(pI ln)]),some (.box 158 [(pI k),(.own 3),(pI l),(pI f),(pI e)]),some (.row 78 R.length ((R.map rwE).flatten))] (.tup []) [some (.box 156 [(.ptr 2 0)]),some (.box 3 [(pI ln)]),some (.box 158 [(pI k),(.own 3),(pI r0),(pI r1),(pI r2)]),some (.row 78 R.length ((R.map rwE).flatten))]:=by
 subst Ao Ee F5;have k1:=fk 4 (gK u1 65520 h4) rfl;have k2:=mq cp 4 (cU 2 ((bK u1 65520).2) ln k l f e R);have k3:=mq cp 4 (cU 3 11 ln k ((aU ln 2 ((bK u1 65520).2) (l,f,e)).1) ((aU ln 2 ((bK u1 65520).2) (l,f,e)).2.1) ((aU ln 2 ((bK u1 65520).2) (l,f,e)).2.2) R);exact FMM.fi 4 gE func93 ([.x (aC u0),bF,bF,.x (aC u1),k1.o,bF,bF,bF,bT,bT,bT,bF,bT,bF,bF,k2.o]++rT 5++[k3.o]) (gc k3 (gc (bJ h9) (Db (cP h8) (gc k2 (gc (bD h7) (gc (bA h5) (gc (cP h6) (gc (bA h5) (Ap (cP h6) (Ap (bA h5) (gc k1 (gt (((fs.map stE).flatten)[1]? = some (aC u1)) (aQ (E:=stE) (i:=1) (f:=0) (k:=1) (fun _=>rfl) h3 rfl) (gc (bC (E:=stE) (k:=1) (i:=(1:Int)) (fun _=>rfl) (by decide) (by first | decide | simp) h3) (gc (aJ h2) (gc (aO (decide_eq_true h1)) (gt (((fs.map stE).flatten)[0]? = some (aC u0)) (aQ (E:=stE) (i:=0) (f:=0) (k:=1) (fun _=>rfl) h0 rfl) (gc (bC (E:=stE) (k:=1) (i:=(0:Int)) (fun _=>rfl) (by decide) (by first | decide | simp) h0) gn)))))))))))))))))
theorem cAs{R:List (List Cel)}(h5:((bK u1 65520).2)≠3)(h6:((bK u1 65520).2)=0)(h7:((bK u1 65520).1)=sm)(h8:((aU ln 2 ((bK u1 65520).2) (l,f,e)).2.2)=0)(h9:(fs.length:Int)≤2)(Ao:r0=((aU ln 2 ((bK u1 65520).2) (l,f,e)).1))(Ee:r1=((aU ln 2 ((bK u1 65520).2) (l,f,e)).2.1))(F5:r2=((aU ln 2 ((bK u1 65520).2) (l,f,e)).2.2)):FMM Tp 93 [(.p (.sl fs.length ((fs.map stE).flatten))),(pI sm),(.fn 176 [] [(.ptr 0 0),(.ptr 1 0)])] [some (.box 156 [(.ptr 2 0)]),some (.box 3 [(pI ln)]),some (.box 158 [(pI k),(.own 3),(pI l),(pI f),(pI e)]),some (.row 78 R.length ((R.map rwE).flatten))] (.tup []) [some (.box 156 [(.ptr 2 0)]),some (.box 3 [(pI ln)]),some (.box 158 [(pI k),(.own 3),(pI r0),(pI r1),(pI r2)]),some (.row 78 R.length ((R.map rwE).flatten))]:=by
 subst Ao Ee F5;have k1:=fk 4 (gK u1 65520 h4) rfl;have k2:=mq cp 4 (cU 2 ((bK u1 65520).2) ln k l f e R);exact FMM.fi 4 gE func93 [.x (aC u0),bF,bF,.x (aC u1),k1.o,bF,bF,bF,bT,bT,bT,bF,bT,bF,bF,k2.o,bT,bT,bT,bT,bF] (gc (aJ h9) (Db (cP h8) (gc k2 (gc (bD h7) (gc (bA h5) (gc (cP h6) (gc (bA h5) (Ap (cP h6) (Ap (bA h5) (gc k1 (gt (((fs.map stE).flatten)[1]? = some (aC u1)) (aQ (E:=stE) (i:=1) (f:=0) (k:=1) (fun _=>rfl) h3 rfl) (gc (bC (E:=stE) (k:=1) (i:=(1:Int)) (fun _=>rfl) (by decide) (by first | decide | simp) h3) (gc (aJ h2) (gc (aO (decide_eq_true h1)) (gt (((fs.map stE).flatten)[0]? = some (aC u0)) (aQ (E:=stE) (i:=0) (f:=0) (k:=1) (fun _=>rfl) h0 rfl) (gc (bC (E:=stE) (k:=1) (i:=(0:Int)) (fun _=>rfl) (by decide) (by first | decide | simp) h0) gn))))))))))))))))
theorem bPe{R:List (List Cel)}(h5:((bK u1 65520).2)≠3)(h6:((bK u1 65520).2)≠0)(h7:((aU ln 2 ((bK u1 65520).2) (l,f,e)).2.2)≠0)(Ao:r0=((aU ln 2 ((bK u1 65520).2) (l,f,e)).1))(Ee:r1=((aU ln 2 ((bK u1 65520).2) (l,f,e)).2.1))(F5:r2=((aU ln 2 ((bK u1 65520).2) (l,f,e)).2.2)):FMM Tp 93 [(.p (.sl fs.length ((fs.map stE).flatten))),(pI sm),(.fn 176 [] [(.ptr 0 0),(.ptr 1 0)])] [some (.box 156 [(.ptr 2 0)]),some (.box 3 [(pI ln)]),some (.box 158 [(pI k),(.own 3),(pI l),(pI f),(pI e)]),some (.row 78 R.length ((R.map rwE).flatten))] (.tup []) [some (.box 156 [(.ptr 2 0)]),some (.box 3 [(pI ln)]),some (.box 158 [(pI k),(.own 3),(pI r0),(pI r1),(pI r2)]),some (.row 78 R.length ((R.map rwE).flatten))]:=by
 subst Ao Ee F5;have k1:=fk 4 (gK u1 65520 h4) rfl;have k2:=mq cp 4 (cU 2 ((bK u1 65520).2) ln k l f e R);exact FMM.fi 4 gE func93 ([.x (aC u0),bF,bF,.x (aC u1),k1.o]++rF 9++[k2.o,bF,bF,bF,bF]) (Db (bA h7) (gc k2 (gc (bA h5) (gc (bA h6) (gc (bA h5) (Ap (bA h6) (Ap (bA h5) (gc k1 (gt (((fs.map stE).flatten)[1]? = some (aC u1)) (aQ (E:=stE) (i:=1) (f:=0) (k:=1) (fun _=>rfl) h3 rfl) (gc (bC (E:=stE) (k:=1) (i:=(1:Int)) (fun _=>rfl) (by decide) (by first | decide | simp) h3) (gc (aJ h2) (gc (aO (decide_eq_true h1)) (gt (((fs.map stE).flatten)[0]? = some (aC u0)) (aQ (E:=stE) (i:=0) (f:=0) (k:=1) (fun _=>rfl) h0 rfl) (gc (bC (E:=stE) (k:=1) (i:=(0:Int)) (fun _=>rfl) (by decide) (by first | decide | simp) h0) gn))))))))))))))
end
def rdL:List Int→List (List UInt8)→Nat→List Cel ⊕ (Int × Int)
 | [],_,_ => .inl []
 | _::_,[],i => .inr (((i+1:Nat):Int),11)
 | t::ts,u::us,i=>if (rdM t u).2≠0 then .inr (((i+1:Nat):Int),(rdM t u).2) else match rdL ts us (i+1) with
  | .inl cs => .inl ((rdM t u).1::cs)
  | .inr p => .inr p
theorem uW{k:Int}{fs:List (List UInt8)}(ln:Int)(R:List (List Cel))(l f:Int)(hf:∀ u∈fs,u.length≤90000):∀ (ts:List Int) (us:List (List UInt8)) (i:Nat) (o:List Cel),(aK k).drop i=ts→fs.drop i=us→i≤(aK k).length→i≤fs.length→o.length=i →
  (∃ cs,rdL ts us i = .inl cs∧aE Tp 4 kF (dB fs ln k R i o.length ((o.map cE).flatten) l f 0) (.exit 0) (dB fs ln k R (aK k).length (o++cs).length (((o++cs).map cE).flatten) l f 0)) ∨
  (∃ fd er j o',rdL ts us i = .inr (fd,er)∧er≠0∧aE Tp 4 kF (dB fs ln k R i o.length ((o.map cE).flatten) l f 0) .ret (bS (dB fs ln k R j o'.length ((List.map cE o').flatten) ln fd er) [(6,(.p bM)),(7,(pB false))]))
 | [],us,i,o,ht,hu,hi,hj,ho=>by
  have hl:(aK k).length≤i:=List.drop_eq_nil_iff.1 ht;have:i=(aK k).length:=by omega
  subst this;exact .inl ⟨[],rfl,by rw [List.append_nil];exact .exit (bAj (by omega)) (by simp)⟩
 | t::ts,[],i,o,ht,hu,hi,hj,ho=>by
  have hc:=iT k;have hl:=congrArg List.length ht;rw [pD,fQ] at hl
  have Bi:fs.length≤i:=List.drop_eq_nil_iff.1 hu;have e:=E0 (er:=11) ln (((i+1:Nat)):Int) l f (by decide)
  have:=bAa (fs:=fs) (ln:=ln) (k:=k) (R:=R) (i:=i) (o:=o) (l1:=l) (f1:=f) (e1:=0) (by omega) (by omega) (aL (by omega)) rfl rfl rfl
  rw [e] at this
  exact .inr ⟨_,11,i,o,rfl,by decide,.exit this (by simp)⟩
 | t::ts,u::us,i,o,ht,hu,hi,hj,ho=>by
  have hc:=iT k;have hl:=congrArg List.length ht;rw [pD,fQ] at hl
  have Bi:=congrArg List.length hu;rw [pD,fQ] at Bi
  have h1:(aK k)[i]? = some t:=by
   have:=congrArg (fun l:List Int=>l[0]?) ht
   simpa using this
  have h2:fs[i]? = some u:=by
   have:=congrArg (fun l:List (List UInt8)=>l[0]?) hu
   simpa using this
  have Hb:=hf u (Ci h2);have H5:(aK k).drop (i+1)=ts:=by
   have:=congrArg List.tail ht;rw [List.tail_drop] at this;exact this
  have Mp:fs.drop (i+1)=us:=by
   have:=congrArg List.tail hu;rw [List.tail_drop] at this;exact this
  unfold rdL
  by_cases hz:(rdM t u).2=0
  ·rw [if_neg (by simp [hz])]
   have hs:aA Tp 4 kF (dB fs ln k R i o.length ((o.map cE).flatten) l f 0) .normal (dB fs ln k R (i+1) (o++[(rdM t u).1]).length (((o++[(rdM t u).1]).map cE).flatten) l f 0):=by
    rcases iX h1 with rfl | rfl | rfl | rfl
    ·exact bAc (by omega) (by omega) h1 h2 (aL (by omega)) (by rw [hz];rfl) ⟨rfl,by omega⟩ rfl (by simp) (by simp [cE]) (by rw [hz];rfl) (by rw [hz];rfl) (by rw [hz];rfl)
    ·exact bAe (by omega) (by omega) h1 h2 Hb (aL (by omega)) (by rw [hz];rfl) ⟨rfl,by omega⟩ rfl (by simp) (by simp [cE]) (by rw [hz];rfl) (by rw [hz];rfl) (by rw [hz];rfl)
    ·exact bAg (by omega) (by omega) h1 h2 (aL (by omega)) (by rw [hz];rfl) ⟨rfl,by omega⟩ rfl (by simp) (by simp [cE]) (by rw [hz];rfl) (by rw [hz];rfl) (by rw [hz];rfl)
    ·exact bAi (by omega) (by omega) h1 h2 (aL (by omega)) (by rw [hz];rfl) ⟨rfl,by omega⟩ rfl (by simp) (by simp [cE]) (by rw [hz];rfl) (by rw [hz];rfl) (by rw [hz];rfl)
   rcases uW ln R l f hf ts us (i+1) (o++[(rdM t u).1]) H5 Mp (by omega) (by omega) (by simp;omega) with ⟨cs,q1,q2⟩ | ⟨fd,er,j,o',q1,q2,q3⟩
   ·rw [q1]
    refine .inl ⟨_,rfl,?_⟩;rw [List.append_cons];exact .step hs q2
   ·rw [q1]
    exact .inr ⟨fd,er,j,o',rfl,q2,.step hs q3⟩
  ·rw [if_pos hz]
   have e:=E0 ln (((i+1:Nat)):Int) l f hz;refine .inr ⟨_,_,i,o,rfl,hz,?_⟩;have hx:∀ (P:Int × Int × Int→Prop),P (aU ln (((i+1:Nat)):Int) (rdM t u).2 (l,f,0))→P (ln,(((i+1:Nat)):Int),(rdM t u).2):=fun P h=>by rw [e] at h;exact h
   refine hx (fun q=>aE Tp 4 kF (dB fs ln k R i o.length ((o.map cE).flatten) l f 0) .ret (bS (dB fs ln k R i o.length ((List.map cE o).flatten) q.1 q.2.1 q.2.2) [(6,(.p bM)),(7,(pB false))])) ?_
   rcases iX h1 with rfl | rfl | rfl | rfl
   ·exact .exit (bAb (by omega) (by omega) h1 h2 (aL (by omega)) (by rw [e];exact hz) rfl rfl rfl) (by simp)
   ·exact .exit (bAd (by omega) (by omega) h1 h2 Hb (aL (by omega)) (by rw [e];exact hz) rfl rfl rfl) (by simp)
   ·exact .exit (bAf (by omega) (by omega) h1 h2 (aL (by omega)) (by rw [e];exact hz) rfl rfl rfl) (by simp)
   ·exact .exit (bAh (by omega) (by omega) h1 h2 (aL (by omega)) (by rw [e];exact hz) rfl rfl rfl) (by simp)
theorem lS{k:Int}{fs:List (List UInt8)}{cs:List Cel}(ln:Int)(R:List (List Cel))(l f:Int)(hf:∀ u∈fs,u.length≤90000)(h:rdL (aK k) fs 0 = .inl cs)(hl:fs.length=(aK k).length):FMM Tp 91 [.ptr 0 0,.p (.sl fs.length ((fs.map stE).flatten)),.fn 176 [] [.ptr 2 0,.ptr 3 0]] [some (.box 158 [(pI k),(.own 1),(pI l),(pI f),(pI 0)]),some (.row 78 R.length ((R.map rwE).flatten)),some (.box 156 [(.ptr 0 0)]),some (.box 3 [(pI ln)])] (.tup [.own 4,.p (blP true)]) [some (.box 158 [(pI k),(.own 1),(pI l),(pI f),(pI 0)]),some (.row 78 R.length ((R.map rwE).flatten)),some (.box 156 [(.ptr 0 0)]),some (.box 3 [(pI ln)]),some (.row 80 cs.length ((cs.map cE).flatten))]:=by
 rcases uW ln R l f hf (aK k) fs 0 [] rfl rfl (by omega) (by omega) rfl with ⟨Bs,q1,q2⟩ | ⟨fd,er,j,o',q1,_,_⟩
 ·rw [q1] at h;cases h
  exact cAk q2 (by omega)
 ·rw [q1] at h;cases h
theorem aKm{k:Int}{fs:List (List UInt8)}{cs:List Cel}(ln:Int)(R:List (List Cel))(l f:Int)(hf:∀ u∈fs,u.length≤90000)(h:rdL (aK k) fs 0 = .inl cs)(hl:fs.length≠(aK k).length):FMM Tp 91 [.ptr 0 0,.p (.sl fs.length ((fs.map stE).flatten)),.fn 176 [] [.ptr 2 0,.ptr 3 0]] [some (.box 158 [(pI k),(.own 1),(pI l),(pI f),(pI 0)]),some (.row 78 R.length ((R.map rwE).flatten)),some (.box 156 [(.ptr 0 0)]),some (.box 3 [(pI ln)])] (.tup [.own 4,.p (blP false)]) [some (.box 158 [(pI k),(.own 1),(pI ln),(pI (((aK k).length+1:Nat):Int)),(pI 11)]),some (.row 78 R.length ((R.map rwE).flatten)),some (.box 156 [(.ptr 0 0)]),some (.box 3 [(pI ln)]),some (.row 80 cs.length ((cs.map cE).flatten))]:=by
 have hc:=iT k
 rcases uW ln R l f hf (aK k) fs 0 [] rfl rfl (by omega) (by omega) rfl with ⟨Bs,q1,q2⟩ | ⟨fd,er,j,o',q1,_,_⟩
 ·rw [q1] at h;cases h
  exact cAl q2 (by omega) (aL (by omega)) rfl rfl rfl rfl
 ·rw [q1] at h;cases h
theorem aSq{k:Int}{fs:List (List UInt8)}{fd er:Int}(ln:Int)(R:List (List Cel))(l f:Int)(hf:∀ u∈fs,u.length≤90000)(h:rdL (aK k) fs 0 = .inr (fd,er)):er≠0∧FMM Tp 91 [.ptr 0 0,.p (.sl fs.length ((fs.map stE).flatten)),.fn 176 [] [.ptr 2 0,.ptr 3 0]] [some (.box 158 [(pI k),(.own 1),(pI l),(pI f),(pI 0)]),some (.row 78 R.length ((R.map rwE).flatten)),some (.box 156 [(.ptr 0 0)]),some (.box 3 [(pI ln)])] (.tup [.p bM,.p (blP false)]) [some (.box 158 [(pI k),(.own 1),(pI ln),(pI fd),(pI er)]),some (.row 78 R.length ((R.map rwE).flatten)),some (.box 156 [(.ptr 0 0)]),some (.box 3 [(pI ln)])]:=by
 rcases uW ln R l f hf (aK k) fs 0 [] rfl rfl (by omega) (by omega) rfl with ⟨Bs,q1,q2⟩ | ⟨fd',er',j,o',q1,hz,q2⟩
 ·rw [q1] at h;cases h
 ·rw [q1] at h;cases h
  have hb:(er == 0)=false:=by simpa using hz
  refine ⟨hz,?_⟩;have:=cAm (k:=k) (l:=l) (f:=f) (e:=0) (r0:=(er == 0)) (by rw [hb];exact q2) rfl
  rw [hb] at this
  exact this
def lsC(fs:List (List UInt8))(sm:Int):Int:=if (bK (fld fs 1) 65520).2=3∨((bK (fld fs 1) 65520).2=0∧(bK (fld fs 1) 65520).1≠sm) then 8 else (bK (fld fs 1) 65520).2
def lsM(fs:List (List UInt8))(sm:Int):Int × Int:=if fld fs 0≠[115,117,109] then (1,11) else if fs.length<2 then (2,11) else if lsC fs sm≠0 then (2,lsC fs sm) else if 2<fs.length then (3,11) else (0,0)
theorem bIe(fs:List (List UInt8))(sm ln k l f:Int)(R:List (List Cel))(h0:0<fs.length):FMM Tp 93 [.p (.sl fs.length ((fs.map stE).flatten)),.p (aB sm),.fn 176 [] [.ptr 0 0,.ptr 1 0]] [some (.box 156 [(.ptr 2 0)]),some (.box 3 [(pI ln)]),some (.box 158 [(pI k),(.own 3),(pI l),(pI f),(pI 0)]),some (.row 78 R.length ((R.map rwE).flatten))] (.tup []) [some (.box 156 [(.ptr 2 0)]),some (.box 3 [(pI ln)]),some (.box 158 [(pI k),(.own 3),(pI ((aU ln (lsM fs sm).1 (lsM fs sm).2 (l,f,0)).1)),(pI ((aU ln (lsM fs sm).1 (lsM fs sm).2 (l,f,0)).2.1)),(pI ((aU ln (lsM fs sm).1 (lsM fs sm).2 (l,f,0)).2.2))]),some (.row 78 R.length ((R.map rwE).flatten))]:=by
 have f0:=kS (fs:=fs) (j:=0) h0;unfold lsM
 by_cases h1:fld fs 0=[115,117,109]
 ·rw [if_neg (by simp [h1])]
  by_cases h2:fs.length<2
  ·rw [if_pos h2]
   exact cAo f0 h1 (by omega) rfl rfl rfl
  ·rw [if_neg h2]
   have f1:=kS (fs:=fs) (j:=1) (by omega)
   have t1:∀ fd er,er≠0→aU ln fd er (l,f,0)=(ln,fd,er):=fun fd er h=>E0 ln fd l f h
   by_cases h3:(bK (fld fs 1) 65520).2=3
   ·have ec:lsC fs sm=8:=if_pos (.inl h3)
    rw [if_pos (by rw [ec];decide),ec]
    exact cAp f0 h1 (by omega) f1 (by omega) h3 (by rw [t1 _ _ (by decide)];simp) rfl rfl rfl
   ·by_cases h4:(bK (fld fs 1) 65520).2=0
    ·by_cases h5:(bK (fld fs 1) 65520).1=sm
     ·have ec:lsC fs sm=0:=by unfold lsC;rw [if_neg (by simp [h4,h5])];exact h4
      rw [if_neg (by rw [ec];simp)]
      by_cases h6:2<fs.length
      ·rw [if_pos h6]
       have:=cAr (k:=k) (l:=l) (f:=f) (e:=0) (ln:=ln) (R:=R) f0 h1 (by omega) f1 (by omega) h3 h4 h5 (by rw [h4];rfl) (by omega) rfl rfl rfl
       rw [h4] at this
       exact this
      ·rw [if_neg h6]
       have:=cAs (k:=k) (l:=l) (f:=f) (e:=0) (ln:=ln) (R:=R) f0 h1 (by omega) f1 (by omega) h3 h4 h5 (by rw [h4];rfl) (by omega) rfl rfl rfl
       rw [h4] at this
       exact this
     ·have ec:lsC fs sm=8:=if_pos (.inr ⟨h4,h5⟩)
      rw [if_pos (by rw [ec];decide),ec]
      exact cAq f0 h1 (by omega) f1 (by omega) h3 h4 h5 (by rw [t1 _ _ (by decide)];simp) rfl rfl rfl
    ·have ec:lsC fs sm=(bK (fld fs 1) 65520).2:=if_neg (by simp [h3,h4])
     rw [if_pos (by rw [ec];exact h4),ec]
     exact bPe f0 h1 (by omega) f1 (by omega) h3 h4 (by rw [t1 _ _ h4];exact h4) rfl rfl rfl
 ·rw [if_pos h1]
  exact cAn f0 h1 rfl rfl rfl
end
end KV
end Go.Proofs
section
namespace Go.Proofs
open Go.RowKit
namespace KV
open Tryz
def aW(s sep:List UInt8):List (List UInt8):=Lib.splitK sep 0 (Lib.countB ⟨s.toArray⟩ ⟨sep.toArray⟩) s
theorem cGi(s sep:List UInt8):(Lib.splitB ⟨sep.toArray⟩ 0 (Lib.countB ⟨s.toArray⟩ ⟨sep.toArray⟩) ⟨s.toArray⟩).map (·.data.toList)=aW s sep:=by
 rw [Lib.splitB_data];rfl
theorem bIx(w:World)(arr:Array Value)(ty:TypeId)(i:Nat):(w.alloc (.cells arr ty)).cell? ⟨w.heap.size,i,none⟩=arr[i]? := by
 unfold World.cell?;simp [World.alloc,-World.alloc_eq]
theorem aKn{w:World}{o:Obj}:Below w.heap.size w (w.alloc o):=⟨rfl,rfl,rfl,by simp [World.alloc,-World.alloc_eq],fun b hb=>by simp [World.alloc,-World.alloc_eq,Array.getElem?_push];omega⟩
theorem fB(s sep:List UInt8)(h:s.length<4294967281)(h1:1≤sep.length){base:Nat}:FV Tp 29 [.p (aC s),.p (aC sep)] base (.p (.sl (aW s sep).length (((aW s sep).map stE).flatten))) []:=FV.ofc rfl fun C w us hus hM=>by
 obtain rfl:=G2 rfl rfl hus;obtain ⟨m,hm⟩:=(aFb hM.lib).1;refine (Tryz.strings_Split ⟨s.toArray⟩ ⟨sep.toArray⟩ m w (by rw [Lib.size_eq];exact h) hm (by rw [Lib.size_eq];exact h1)).mono ?_
 rintro e w' ⟨rfl,rfl⟩;have hl:=Lib.splitB_all ⟨sep.toArray⟩ (by rw [Lib.size_eq];exact h1) 0 _ ⟨s.toArray⟩ rfl
 have hs:=cGi s sep;have hc:Lib.countB ⟨s.toArray⟩ ⟨sep.toArray⟩≤s.length:=by
  have:=Lib.countB_le ⟨sep.toArray⟩ (by rw [Lib.size_eq];exact h1) _ ⟨s.toArray⟩ (Bo _)
  rw [Lib.size_eq] at this;exact this
 generalize Lib.splitB ⟨sep.toArray⟩ 0 (Lib.countB ⟨s.toArray⟩ ⟨sep.toArray⟩) ⟨s.toArray⟩=L at hl hs ⊢
 rw [← hs,pE,hl,jZ];generalize Lib.countB ⟨s.toArray⟩ ⟨sep.toArray⟩=n at hl hc
 refine ⟨_,rfl,aKn,.p _ _ (.sl _ _ _ _ (fun i=>((L.map Value.string).toArray)[i]?.getD undef) (Bo _) ?_ (fun i hi => ?_) (fun i hi => ?_) (fun i hi => ?_))⟩
 ·simp only [maxLen];omega
 ·refine ⟨_,_,rfl,.inr ⟨Bo _,by simp [World.alloc,-World.alloc_eq],by simp⟩,?_⟩
  rw [bIx];have:i<((L.map Value.string).toArray).size:=by simpa using hi
  simp [jJ,rU this]
 ·have Dx:i<L.length:=by simpa using hi
  rw [iR,iR];simp only [List.getElem?_toArray,uL,Ch Dx,Option.map_some,Option.getD_some];exact .v _
 ·have Dx:i<L.length:=by simpa using hi
  simp only [List.getElem?_toArray,uL,Ch Dx,Option.map_some,Option.getD_some];rfl
end KV
end Go.Proofs
end
namespace Go.Proofs
namespace KV
open Tryz
section
variable {j k A5 Bj:Int}{i i' Av base:Nat}

noncomputable abbrev aEd:Code:=sub (cd Tryz.f107) [1,1,0,1,0,0]
noncomputable abbrev aEe:Code:=sub (cd Tryz.f167) [1,1,0,1,0,0]
noncomputable abbrev aEf:Code:=sub (cd Tryz.f46) [1,1,0,1,0,0]
noncomputable abbrev aEg:Code:=sub (cd Tryz.f117) [1,1,0,1,0,0]
theorem bPd{b t g:Int}:FV Tp 87 [(pI b),(pI t),(pI g)] base (.p (.sl 3 [(aB b),(aC ([]:List UInt8)),(aB t),(aC ([]:List UInt8)),(aB g),(aC ([]:List UInt8))])) []:=FV.frz (FMM.fi 0 ⟨[],[],[0],[]⟩ func87 [] gn) (by kernel_rfl)
theorem rM(b t g:Int){base:Nat}:FV Tp 87 [.p (aB b),.p (aB t),.p (aB g)] base (.p (.sl ([(b,[]),(t,[]),(g,[])]:List Cel).length ((([(b,[]),(t,[]),(g,[])]:List Cel).map cE).flatten))) []:=bPd
theorem dK{α β:Type}{l:List α}{x:List β}{j:Nat}{p:α × β}(h:(l.zip x)[j]? = some p):l[j]? = some p.1∧x[j]? = some p.2:=by
 rw [List.zip,List.getElem?_zipWith] at h
 cases h1:l[j]? with
 | none=>rw [h1] at h;simp at h
 | some t =>
  cases h2:x[j]? with
  | none=>rw [h1,h2] at h;simp at h
  | some c=>rw [h1,h2] at h;simp at h;subst h;exact ⟨rfl,rfl⟩
theorem gB{α:Type}[DecidableEq α]:∀ (r t:List α),r.length=t.length→(r.zip t).any (fun q => !(decide (q.1=q.2)))=false→r=t
 | [],[],_,_=>rfl
 | a::r,b::t,hl,h=>by
  simp only [List.zip_cons_cons,List.any_cons,Bool.or_eq_false_iff,Bool.not_eq_false',decide_eq_true_eq] at h
  rw [h.1,gB r t (by simpa using hl) h.2]
 | [],_::_,hl,_=>by simp at hl
 | _::_,[],hl,_=>by simp at hl
theorem qE{a b:Int}{z y:List UInt8}:(decide (a=b) && (decide (z=y) && true))=decide (((a,z):Cel)=(b,y)):=by
 by_cases h:a=b <;> by_cases h2:z=y <;> simp [h,h2]
def jP(r t:List Cel)(i:Nat):St:=⟨fr 26 [(0,(.p (.sl r.length ((r.map cE).flatten)))),(1,(.p (.sl t.length ((t.map cE).flatten)))),(12,(pI (r.length:Int))),(13,(pI (i:Int)))],[]⟩
theorem bZs{r t:List Cel}(h0:(r.length:Int)≠(t.length:Int)):FV Tp 107 [(.p (.sl r.length ((r.map cE).flatten))),(.p (.sl t.length ((t.map cE).flatten)))] base (pB false) []:=FV.fi func107 [bT] (gc (cL h0) gn)
theorem bZt{r t:List Cel}(h0:(r.length:Int)=(t.length:Int))(Ak:aE Tp 0 aEd (jP r t 0) (.exit 0) (jP r t Av)):FV Tp 107 [(.p (.sl r.length ((r.map cE).flatten))),(.p (.sl t.length ((t.map cE).flatten)))] base (pB true) []:=FV.fi func107 [bF,Ak.k 4 (gZ bu)] (gc Ak.code (gc (bD h0) gn))
theorem bZu{r t:List Cel}(h0:(r.length:Int)=(t.length:Int))(Ak:aE Tp 0 aEd (jP r t 0) .ret (bS (jP r t Av) [(4,(pB false))])):FV Tp 107 [(.p (.sl r.length ((r.map cE).flatten))),(.p (.sl t.length ((t.map cE).flatten)))] base (pB false) []:=FV.fi func107 [bF,Ak.k 4 (gZ bu)] (gc Ak.code (gc (bD h0) gn))
section
variable{r t:List Cel}{Bd Bm:List UInt8}(h0:(i:Int)<(r.length:Int))(h1:r[i]? = some (A5,Bd))(h2:t[i]? = some (Bj,Bm))
include h0 h1 h2
theorem aZo(h3:(decide (A5=Bj) && (decide (Bd=Bm) && true))=false):aA Tp 0 aEd (jP r t i) .ret (bS (jP r t i) [(4,(pB false))]):=aA.fi (gN bm [] [(4,0)]) [bT,.x (.agg [(aB A5),(aC Bd)]),.x (.agg [(aB Bj),(aC Bm)]),bT] (gc (cN h3) (gc (bH (E:=cE) (i:=i) (k:=2) (fun _=>rfl) h2 rfl) (gc (bZ (E:=cE) (i:=i) (k:=2) (fun _=>rfl) h2) (gc (bC (E:=cE) (k:=2) (i:=(i:Int)) (fun _=>rfl) (by decide) (Bf _) h2) (gc (bH (E:=cE) (i:=i) (k:=2) (fun _=>rfl) h1 rfl) (gc (bZ (E:=cE) (i:=i) (k:=2) (fun _=>rfl) h1) (gc (bC (E:=cE) (k:=2) (i:=(i:Int)) (fun _=>rfl) (by decide) (Bf _) h1) (g0 h0))))))))
theorem aZp(h3:(decide (A5=Bj) && (decide (Bd=Bm) && true))=true)(h4:cq i)(Ai:i'=(i+1)):aA Tp 0 aEd (jP r t i) .normal (jP r t i'):=by
 subst Ai;exact aA.fi (gZ bu) [bT,.x (.agg [(aB A5),(aC Bd)]),.x (.agg [(aB Bj),(aC Bm)]),bF] (gc h4 (gc (aO h3) (gc (bH (E:=cE) (i:=i) (k:=2) (fun _=>rfl) h2 rfl) (gc (bZ (E:=cE) (i:=i) (k:=2) (fun _=>rfl) h2) (gc (bC (E:=cE) (k:=2) (i:=(i:Int)) (fun _=>rfl) (by decide) (Bf _) h2) (gc (bH (E:=cE) (i:=i) (k:=2) (fun _=>rfl) h1 rfl) (gc (bZ (E:=cE) (i:=i) (k:=2) (fun _=>rfl) h1) (gc (bC (E:=cE) (k:=2) (i:=(i:Int)) (fun _=>rfl) (by decide) (Bf _) h1) (g0 h0)))))))))
end
theorem aZq{r t:List Cel}(h0:(r.length:Int)≤(i:Int)):aA Tp 0 aEd (jP r t i) (.exit 0) (jP r t i):=aA.fi (gZ bu) [bF] (gc (aJ h0) gn)
theorem qG(r t:List Cel)(h:r.length≤100000){base:Nat}:FV Tp 107 [.p (.sl r.length ((r.map cE).flatten)),.p (.sl t.length ((t.map cE).flatten))] base (pB (decide (r=t))) []:=by
 by_cases hl:r.length=t.length
 ·have hz:(r.zip t).length=r.length:=by rw [List.length_zip,hl,Nat.min_self]
  rcases aE.find (P:=Tp) (k:=0) (b:=aEd) (fun i=>jP r t i) (fun i _=>bS (jP r t i) [(4,.p (blP false))]) (jP r t r.length) .ret (.exit 0) (by simp) (by simp) (fun q:Cel × Cel => !(decide (q.1=q.2))) (r.zip t)
   (fun i q hx hp=>by
    obtain ⟨h1,h2⟩:=dK hx;have hi:=bG h1;obtain ⟨⟨a,z⟩,b,y⟩:=q;exact aZp (by omega) h1 h2 (by rw [qE];exact (Bool.not_eq_false' _).mp hp) (aL (by omega)) rfl)
   (fun i q hx hp=>by
    obtain ⟨h1,h2⟩:=dK hx;have hi:=bG h1;obtain ⟨⟨a,z⟩,b,y⟩:=q;exact aZo (by omega) h1 h2 (by rw [qE];exact (Bool.not_eq_true' _).mp hp))
   (by rw [hz];exact aZq (by omega)) with ⟨i,q,h1,h2,h3,h4⟩ | ⟨h1,h2,h3⟩
  ·have hne:decide (r=t)=false:=by
    apply decide_eq_false;intro e;subst e;obtain ⟨q1,q2⟩:=dK h1;rw [q1] at q2
    have:q.1=q.2:=by simpa using q2
    simp [this] at h3
   rw [hne];exact bZu (by omega) h4
  ·rw [decide_eq_true (gB r t hl h2)];exact bZt (by omega) h3
 ·have hne:decide (r=t)=false:=decide_eq_false (fun e=>hl (by rw [e]))
  rw [hne];exact bZs (by omega)
def jQ(r t:List Cel)(i:Nat):St:=⟨fr 26 [(0,(.p (.sl r.length ((r.map cE).flatten)))),(1,(.p (.sl t.length ((t.map cE).flatten)))),(12,(pI (r.length:Int))),(13,(pI (i:Int)))],[]⟩
theorem bZv{r t:List Cel}(h0:(r.length:Int)≠(t.length:Int)):FV Tp 167 [(.p (.sl r.length ((r.map cE).flatten))),(.p (.sl t.length ((t.map cE).flatten)))] base (pB false) []:=FV.fi func167 [bT] (gc (cL h0) gn)
theorem bZw{r t:List Cel}(h0:(r.length:Int)=(t.length:Int))(Ak:aE Tp 0 aEe (jQ r t 0) (.exit 0) (jQ r t Av)):FV Tp 167 [(.p (.sl r.length ((r.map cE).flatten))),(.p (.sl t.length ((t.map cE).flatten)))] base (pB true) []:=FV.fi func167 [bF,Ak.k 4 (gZ bu)] (gc Ak.code (gc (bD h0) gn))
theorem bZx{r t:List Cel}(h0:(r.length:Int)=(t.length:Int))(Ak:aE Tp 0 aEe (jQ r t 0) .ret (bS (jQ r t Av) [(4,(pB false))])):FV Tp 167 [(.p (.sl r.length ((r.map cE).flatten))),(.p (.sl t.length ((t.map cE).flatten)))] base (pB false) []:=FV.fi func167 [bF,Ak.k 4 (gZ bu)] (gc Ak.code (gc (bD h0) gn))
section
variable{r t:List Cel}{Bd Bm:List UInt8}(h0:(i:Int)<(r.length:Int))(h1:r[i]? = some (A5,Bd))(h2:t[i]? = some (Bj,Bm))
include h0 h1 h2
theorem aZr(h3:(decide (A5=Bj) && (decide (Bd=Bm) && true))=false):aA Tp 0 aEe (jQ r t i) .ret (bS (jQ r t i) [(4,(pB false))]):=aA.fi (gN bm [] [(4,0)]) [bT,.x (.agg [(aB A5),(aC Bd)]),.x (.agg [(aB Bj),(aC Bm)]),bT] (gc (cN h3) (gc (bH (E:=cE) (i:=i) (k:=2) (fun _=>rfl) h2 rfl) (gc (bZ (E:=cE) (i:=i) (k:=2) (fun _=>rfl) h2) (gc (bC (E:=cE) (k:=2) (i:=(i:Int)) (fun _=>rfl) (by decide) (Bf _) h2) (gc (bH (E:=cE) (i:=i) (k:=2) (fun _=>rfl) h1 rfl) (gc (bZ (E:=cE) (i:=i) (k:=2) (fun _=>rfl) h1) (gc (bC (E:=cE) (k:=2) (i:=(i:Int)) (fun _=>rfl) (by decide) (Bf _) h1) (g0 h0))))))))
theorem aZs(h3:(decide (A5=Bj) && (decide (Bd=Bm) && true))=true)(h4:cq i)(Ai:i'=(i+1)):aA Tp 0 aEe (jQ r t i) .normal (jQ r t i'):=by
 subst Ai;exact aA.fi (gZ bu) [bT,.x (.agg [(aB A5),(aC Bd)]),.x (.agg [(aB Bj),(aC Bm)]),bF] (gc h4 (gc (aO h3) (gc (bH (E:=cE) (i:=i) (k:=2) (fun _=>rfl) h2 rfl) (gc (bZ (E:=cE) (i:=i) (k:=2) (fun _=>rfl) h2) (gc (bC (E:=cE) (k:=2) (i:=(i:Int)) (fun _=>rfl) (by decide) (Bf _) h2) (gc (bH (E:=cE) (i:=i) (k:=2) (fun _=>rfl) h1 rfl) (gc (bZ (E:=cE) (i:=i) (k:=2) (fun _=>rfl) h1) (gc (bC (E:=cE) (k:=2) (i:=(i:Int)) (fun _=>rfl) (by decide) (Bf _) h1) (g0 h0)))))))))
end
theorem aZt{r t:List Cel}(h0:(r.length:Int)≤(i:Int)):aA Tp 0 aEe (jQ r t i) (.exit 0) (jQ r t i):=aA.fi (gZ bu) [bF] (gc (aJ h0) gn)
theorem bIc(r t:List Cel)(h:r.length≤100000){base:Nat}:FV Tp 167 [.p (.sl r.length ((r.map cE).flatten)),.p (.sl t.length ((t.map cE).flatten))] base (pB (decide (r=t))) []:=by
 by_cases hl:r.length=t.length
 ·have hz:(r.zip t).length=r.length:=by rw [List.length_zip,hl,Nat.min_self]
  rcases aE.find (P:=Tp) (k:=0) (b:=aEe) (fun i=>jQ r t i) (fun i _=>bS (jQ r t i) [(4,.p (blP false))]) (jQ r t r.length) .ret (.exit 0) (by simp) (by simp) (fun q:Cel × Cel => !(decide (q.1=q.2))) (r.zip t)
   (fun i q hx hp=>by
    obtain ⟨h1,h2⟩:=dK hx;have hi:=bG h1;obtain ⟨⟨a,z⟩,b,y⟩:=q;exact aZs (by omega) h1 h2 (by rw [qE];exact (Bool.not_eq_false' _).mp hp) (aL (by omega)) rfl)
   (fun i q hx hp=>by
    obtain ⟨h1,h2⟩:=dK hx;have hi:=bG h1;obtain ⟨⟨a,z⟩,b,y⟩:=q;exact aZr (by omega) h1 h2 (by rw [qE];exact (Bool.not_eq_true' _).mp hp))
   (by rw [hz];exact aZt (by omega)) with ⟨i,q,h1,h2,h3,h4⟩ | ⟨h1,h2,h3⟩
  ·have hne:decide (r=t)=false:=by
    apply decide_eq_false;intro e;subst e;obtain ⟨q1,q2⟩:=dK h1;rw [q1] at q2
    have:q.1=q.2:=by simpa using q2
    simp [this] at h3
   rw [hne];exact bZx (by omega) h4
  ·rw [decide_eq_true (gB r t hl h2)];exact bZw (by omega) h3
 ·have hne:decide (r=t)=false:=decide_eq_false (fun e=>hl (by rw [e]))
  rw [hne];exact bZv (by omega)
def jR(r t:List Cel)(i:Nat):St:=⟨fr 26 [(0,(.p (.sl r.length ((r.map cE).flatten)))),(1,(.p (.sl t.length ((t.map cE).flatten)))),(12,(pI (r.length:Int))),(13,(pI (i:Int)))],[]⟩
theorem bZy{r t:List Cel}(h0:(r.length:Int)≠(t.length:Int)):FV Tp 46 [(.p (.sl r.length ((r.map cE).flatten))),(.p (.sl t.length ((t.map cE).flatten)))] base (pB false) []:=FV.fi func46 [bT] (gc (cL h0) gn)
theorem bZz{r t:List Cel}(h0:(r.length:Int)=(t.length:Int))(Ak:aE Tp 0 aEf (jR r t 0) (.exit 0) (jR r t Av)):FV Tp 46 [(.p (.sl r.length ((r.map cE).flatten))),(.p (.sl t.length ((t.map cE).flatten)))] base (pB true) []:=FV.fi func46 [bF,Ak.k 4 (gZ bu)] (gc Ak.code (gc (bD h0) gn))
theorem cAa{r t:List Cel}(h0:(r.length:Int)=(t.length:Int))(Ak:aE Tp 0 aEf (jR r t 0) .ret (bS (jR r t Av) [(4,(pB false))])):FV Tp 46 [(.p (.sl r.length ((r.map cE).flatten))),(.p (.sl t.length ((t.map cE).flatten)))] base (pB false) []:=FV.fi func46 [bF,Ak.k 4 (gZ bu)] (gc Ak.code (gc (bD h0) gn))
section
variable{r t:List Cel}{Bd Bm:List UInt8}(h0:(i:Int)<(r.length:Int))(h1:r[i]? = some (A5,Bd))(h2:t[i]? = some (Bj,Bm))
include h0 h1 h2
theorem aZu(h3:(decide (A5=Bj) && (decide (Bd=Bm) && true))=false):aA Tp 0 aEf (jR r t i) .ret (bS (jR r t i) [(4,(pB false))]):=aA.fi (gN bm [] [(4,0)]) [bT,.x (.agg [(aB A5),(aC Bd)]),.x (.agg [(aB Bj),(aC Bm)]),bT] (gc (cN h3) (gc (bH (E:=cE) (i:=i) (k:=2) (fun _=>rfl) h2 rfl) (gc (bZ (E:=cE) (i:=i) (k:=2) (fun _=>rfl) h2) (gc (bC (E:=cE) (k:=2) (i:=(i:Int)) (fun _=>rfl) (by decide) (Bf _) h2) (gc (bH (E:=cE) (i:=i) (k:=2) (fun _=>rfl) h1 rfl) (gc (bZ (E:=cE) (i:=i) (k:=2) (fun _=>rfl) h1) (gc (bC (E:=cE) (k:=2) (i:=(i:Int)) (fun _=>rfl) (by decide) (Bf _) h1) (g0 h0))))))))
theorem aZv(h3:(decide (A5=Bj) && (decide (Bd=Bm) && true))=true)(h4:cq i)(Ai:i'=(i+1)):aA Tp 0 aEf (jR r t i) .normal (jR r t i'):=by
 subst Ai;exact aA.fi (gZ bu) [bT,.x (.agg [(aB A5),(aC Bd)]),.x (.agg [(aB Bj),(aC Bm)]),bF] (gc h4 (gc (aO h3) (gc (bH (E:=cE) (i:=i) (k:=2) (fun _=>rfl) h2 rfl) (gc (bZ (E:=cE) (i:=i) (k:=2) (fun _=>rfl) h2) (gc (bC (E:=cE) (k:=2) (i:=(i:Int)) (fun _=>rfl) (by decide) (Bf _) h2) (gc (bH (E:=cE) (i:=i) (k:=2) (fun _=>rfl) h1 rfl) (gc (bZ (E:=cE) (i:=i) (k:=2) (fun _=>rfl) h1) (gc (bC (E:=cE) (k:=2) (i:=(i:Int)) (fun _=>rfl) (by decide) (Bf _) h1) (g0 h0)))))))))
end
theorem aZw{r t:List Cel}(h0:(r.length:Int)≤(i:Int)):aA Tp 0 aEf (jR r t i) (.exit 0) (jR r t i):=aA.fi (gZ bu) [bF] (gc (aJ h0) gn)
theorem bId(r t:List Cel)(h:r.length≤100000){base:Nat}:FV Tp 46 [.p (.sl r.length ((r.map cE).flatten)),.p (.sl t.length ((t.map cE).flatten))] base (pB (decide (r=t))) []:=by
 by_cases hl:r.length=t.length
 ·have hz:(r.zip t).length=r.length:=by rw [List.length_zip,hl,Nat.min_self]
  rcases aE.find (P:=Tp) (k:=0) (b:=aEf) (fun i=>jR r t i) (fun i _=>bS (jR r t i) [(4,.p (blP false))]) (jR r t r.length) .ret (.exit 0) (by simp) (by simp) (fun q:Cel × Cel => !(decide (q.1=q.2))) (r.zip t)
   (fun i q hx hp=>by
    obtain ⟨h1,h2⟩:=dK hx;have hi:=bG h1;obtain ⟨⟨a,z⟩,b,y⟩:=q;exact aZv (by omega) h1 h2 (by rw [qE];exact (Bool.not_eq_false' _).mp hp) (aL (by omega)) rfl)
   (fun i q hx hp=>by
    obtain ⟨h1,h2⟩:=dK hx;have hi:=bG h1;obtain ⟨⟨a,z⟩,b,y⟩:=q;exact aZu (by omega) h1 h2 (by rw [qE];exact (Bool.not_eq_true' _).mp hp))
   (by rw [hz];exact aZw (by omega)) with ⟨i,q,h1,h2,h3,h4⟩ | ⟨h1,h2,h3⟩
  ·have hne:decide (r=t)=false:=by
    apply decide_eq_false;intro e;subst e;obtain ⟨q1,q2⟩:=dK h1;rw [q1] at q2
    have:q.1=q.2:=by simpa using q2
    simp [this] at h3
   rw [hne];exact cAa (by omega) h4
  ·rw [decide_eq_true (gB r t hl h2)];exact bZz (by omega) h3
 ·have hne:decide (r=t)=false:=decide_eq_false (fun e=>hl (by rw [e]))
  rw [hne];exact bZy (by omega)
def jS(R T:List (List Cel))(i:Nat):St:=⟨fr 27 [(0,(.p (.sl R.length (R.map aP)))),(1,(.p (.sl T.length (T.map aP)))),(12,(pI (R.length:Int))),(13,(pI (i:Int)))],[]⟩
theorem cAb{R T:List (List Cel)}(h0:(R.length:Int)≠(T.length:Int)):FV Tp 117 [(.p (.sl R.length (R.map aP))),(.p (.sl T.length (T.map aP)))] base (pB false) []:=FV.fi func117 [bT] (gc (cL h0) gn)
theorem cAc{R T:List (List Cel)}(h0:(R.length:Int)=(T.length:Int))(Ak:aE Tp 0 aEg (jS R T 0) (.exit 0) (jS R T Av)):FV Tp 117 [(.p (.sl R.length (R.map aP))),(.p (.sl T.length (T.map aP)))] base (pB true) []:=FV.fi func117 [bF,Ak.k 4 (gZ bv)] (gc Ak.code (gc (bD h0) gn))
theorem cAd{R T:List (List Cel)}(h0:(R.length:Int)=(T.length:Int))(Ak:aE Tp 0 aEg (jS R T 0) .ret (bS (jS R T Av) [(4,(pB false))])):FV Tp 117 [(.p (.sl R.length (R.map aP))),(.p (.sl T.length (T.map aP)))] base (pB false) []:=FV.fi func117 [bF,Ak.k 4 (gZ bv)] (gc Ak.code (gc (bD h0) gn))
section
variable{R T:List (List Cel)}{Ab A6:List Cel}(h0:(i:Int)<(R.length:Int))(h1:R[i]? = some Ab)(h2:T[i]? = some A6)(h3:Ab.length≤100000)
include h0 h1 h2 h3
theorem aZx(h4:(decide (Ab=A6))=false):aA Tp 0 aEg (jS R T i) .ret (bS (jS R T i) [(4,(pB false))]):=have k1:=fk 0 (bId Ab A6 h3) rfl;aA.fi (gN [2,2,5,7,14,13] [] [(4,0)]) [bT,.x (.sl Ab.length ((Ab.map cE).flatten)),.x (.sl A6.length ((A6.map cE).flatten)),k1.o,bT] (gc (cN h4) (gc k1 (gc (atm aP h2) (gc (ixn aP h2) (gc (atm aP h1) (gc (ixn aP h1) (g0 h0)))))))
theorem aZy(h4:(decide (Ab=A6))=true)(h5:cq i)(Ai:i'=(i+1)):aA Tp 0 aEg (jS R T i) .normal (jS R T i'):=by
 subst Ai;have k1:=fk 0 (bId Ab A6 h3) rfl;exact aA.fi (gZ bv) [bT,.x (.sl Ab.length ((Ab.map cE).flatten)),.x (.sl A6.length ((A6.map cE).flatten)),k1.o,bF] (gc h5 (gc (aO h4) (gc k1 (gc (atm aP h2) (gc (ixn aP h2) (gc (atm aP h1) (gc (ixn aP h1) (g0 h0))))))))
end
theorem aZz{R T:List (List Cel)}(h0:(R.length:Int)≤(i:Int)):aA Tp 0 aEg (jS R T i) (.exit 0) (jS R T i):=aA.fi (gZ bv) [bF] (gc (aJ h0) gn)
theorem cAe(R T:List (List Cel))(h:R.length≤100000)(h2:∀ r∈R,r.length≤100000){base:Nat}:FV Tp 117 [.p (bW R),.p (bW T)] base (pB (decide (R=T))) []:=by
 by_cases hl:R.length=T.length
 ·have hz:(R.zip T).length=R.length:=by rw [List.length_zip,hl,Nat.min_self]
  rcases aE.find (P:=Tp) (k:=0) (b:=aEg) (fun i=>jS R T i) (fun i _=>bS (jS R T i) [(4,.p (blP false))]) (jS R T R.length) .ret (.exit 0) (by simp) (by simp) (fun q:List Cel × List Cel => !(decide (q.1=q.2))) (R.zip T)
   (fun i q hx hp=>by
    obtain ⟨h1,h3⟩:=dK hx;have hi:=bG h1;exact aZy (by omega) h1 h3 (h2 _ (Ci h1)) ((Bool.not_eq_false' _).mp hp) (aL (by omega)) rfl)
   (fun i q hx hp=>by
    obtain ⟨h1,h3⟩:=dK hx;have hi:=bG h1;exact aZx (by omega) h1 h3 (h2 _ (Ci h1)) ((Bool.not_eq_true' _).mp hp))
   (by rw [hz];exact aZz (by omega)) with ⟨i,q,h1,h2,h3,h4⟩ | ⟨h1,h2,h3⟩
  ·have hne:decide (R=T)=false:=by
    apply decide_eq_false;intro e;subst e;obtain ⟨q1,q2⟩:=dK h1;rw [q1] at q2
    have:q.1=q.2:=by simpa using q2
    simp [this] at h3
   rw [hne];exact cAd (by omega) h4
  ·rw [decide_eq_true (gB R T hl h2)];exact cAc (by omega) h3
 ·have hne:decide (R=T)=false:=decide_eq_false (fun e=>hl (by rw [e]))
  rw [hne];exact cAb (by omega)
theorem cAf{R T:List (List Cel)}{r0:Bool}(h0:k=j)(h1:R.length≤100000)(h2:∀ r∈R,r.length≤100000)(Ao:r0=(decide (R=T))):FV Tp 24 [(.p (.agg [(aB k),(.sl R.length (R.map aP))])),(.p (.agg [(aB j),(.sl T.length (T.map aP))]))] base (pB r0) []:=by
 subst Ao;have k1:=fk 2 (cAe R T h1 h2) rfl;exact FV.fi func24 (rT 5++[k1.o,bT]) (gc (cP h0) (gc k1 (B5 (cP h0) gn)))
theorem cAg{R T:List (List Cel)}(h0:k≠j):FV Tp 24 [(.p (.agg [(aB k),(.sl R.length (R.map aP))])),(.p (.agg [(aB j),(.sl T.length (T.map aP))]))] base (pB false) []:=FV.fi func24 (rF 6) (Fb (bA h0) gn)
theorem cAh(k:Int)(R:List (List Cel))(j:Int)(T:List (List Cel))(h:R.length≤100000)(h2:∀ r∈R,r.length≤100000){base:Nat}:FV Tp 24 [.p (.agg [aB k,bW R]),.p (.agg [aB j,bW T])] base (pB (decide (k=j∧R=T))) []:=by
 by_cases q:k=j
 ·have:=cAf (T:=T) (base:=base) q h h2 rfl
  have e:decide (k=j∧R=T)=decide (R=T):=by simp [q]
  rw [e];exact this
 ·have e:decide (k=j∧R=T)=false:=by simp [q]
  rw [e];exact cAg q
theorem cAi(r:List Cel):((r.map cE).flatten).length=r.length*2:=rL (E:=cE) (k:=2) (fun _=>rfl) r
theorem wD{α:Type}:∀ (l o:List α),l.foldl (fun o x=>o++[x]) o=o++l
 | [],o=>by simp
 | x::l,o=>by rw [bMm,wD l];simp
theorem cAj:FV Tp 86 [] base (.p (.agg [(aB 0),(.sl 2 [(PV.sl (([((7:Int),[]),((0:Int),[]),((1:Int),[])]:List Cel).length) ((([((7:Int),[]),((0:Int),[]),((1:Int),[])]:List Cel).map cE).flatten)),(.sl (([((12:Int),[]),((305:Int),[]),((0:Int),[])]:List Cel).length) ((([((12:Int),[]),((305:Int),[]),((0:Int),[])]:List Cel).map cE).flatten))])])) []:=have k1:=fk 1 (rM 7 0 1) rfl;have k2:=fk 1 (rM 12 305 0) rfl;FV.frz (FMM.fi 0 ⟨[],[],[1],[]⟩ func86 [k1.o,k2.o] (gc k2 (gc k1 gn))) (by kernel_rfl)
def lW:List (List Cel):=[[(7,[]),(0,[]),(1,[])],[(12,[]),(305,[]),(0,[])]]
theorem wE{base:Nat}:FV Tp 86 [] base (.p (.agg [aB 0,bW lW])) []:=cAj
end
end KV
end Go.Proofs
section
namespace Go.Proofs
open Go.RowKit
namespace KV
open Tryz
variable {P:Program} {C C0:Cx} {M M0:Mem} {w w0:World}

def uZ(w:World)(b:Nat):Prop:=∃ o:Obj,w.heap[b]? = some o∧o.isCells=true
theorem tC{b o:Nat}{v:Value}(h:w.cell? ⟨b,o,none⟩=some v):uZ w b:=cells_of_cell h
theorem nS{b ty:Nat}{arr:Array Value}{fr:Nat × Nat}(h:w.heap[b]? = some (.cells arr ty fr)):uZ w b:=⟨_,h,rfl⟩

mutual
def nmP:PV→Bool
 | .v _=>true
 | .sl _ cs=>iY cs
 | .agg cs=>iY cs
 | .mp _=>false
 | .rp cs _=>iY cs
 | .fn _ a b=>iY a && iY b
def iY:List PV→Bool
 | []=>true
 | x::r=>nmP x && iY r
end
theorem mL:∀ {l:List PV},iY l=true→∀ (i:Nat) (h:i<l.length),nmP l[i]=true
 | [],_,i,h=>by simp at h
 | x::r,hl,i,h=>by
  rw [iY,Cj] at hl
  cases i with
  | zero=>exact hl.1
  | succ i=>exact mL hl.2 i (by simpa using h)
mutual
def nmA:AV→Bool
 | .p x=>nmP x
 | .rp cs _=>iY cs
 | .agg l=>nmL l
 | .tup l=>nmL l
 | .fn _ a b=>nmL a && nmL b
 | _=>true
def nmL:List AV→Bool
 | []=>true
 | x::r=>nmA x && nmL r
end
theorem wH:∀ {l:List AV},nmL l=true→∀ (i:Nat) (h:i<l.length),nmA l[i]=true
 | [],_,i,h=>by simp at h
 | x::r,hl,i,h=>by
  rw [nmL,Cj] at hl
  cases i with
  | zero=>exact hl.1
  | succ i=>exact wH hl.2 i (by simpa using h)
def nmM:Mem→Bool
 | []=>true
 | some (.row _ _ cs)::r=>iY cs && nmM r
 | some (.box _ l)::r=>nmL l && nmM r
 | _::r=>nmM r
theorem aQd:∀ {m:Mem},nmM m=true→(∀ (i ty n:Nat) (cs:List PV),m[i]? = some (some (.row ty n cs))→iY cs=true)∧∀ (i ty:Nat) (l:List AV),m[i]? = some (some (.box ty l))→nmL l=true
 | [],_=>⟨fun i ty n cs h=>by simp at h,fun i ty l h=>by simp at h⟩
 | x::r,hm=>by
  have hr:nmM r=true:=by
   cases x with
   | none=>exact hm
   | some o=>cases o <;> simp [nmM] at hm <;> first | exact hm.2 | exact hm
  obtain ⟨h1,h2⟩:=aQd hr;refine ⟨fun i ty n cs h => ?_,fun i ty l h => ?_⟩
  ·cases i with
   | zero=>simp at h;subst h;simp [nmM] at hm;exact hm.1
   | succ i=>exact h1 i ty n cs (by simpa using h)
  ·cases i with
   | zero=>simp at h;subst h;simp [nmM] at hm;exact hm.1
   | succ i=>exact h2 i ty l (by simpa using h)
theorem cW.shrink{F F':Nat→Prop}{x:PV}{u:Value}(h:cW F w x u)(hF:∀ b,F b→uZ w b→F' b)(hm:nmP x=true):cW F' w x u:=by
 induction h with
 | v x=>exact .v x
 | sl n cs p cap us h1 h2 h3 _ h5 ih =>
  rw [nmP] at hm
  refine .sl n cs p cap us h1 h2 (fun i hi => ?_) (fun i hi=>ih i hi (mL hm i hi)) h5
  obtain ⟨b,o,hp,hb,hc⟩:=h3 i hi;exact ⟨b,o,hp,hF b hb (tC hc),hc⟩
 | agg cs vs h0 h1 _ ih =>
  rw [nmP] at hm
  exact .agg cs vs h0 h1 fun i hi=>ih i hi (mL hm i hi)
 | mp=>simp [nmP] at hm
 | rp cs off b o us h1 _ h3 ih =>
  rw [nmP] at hm
  exact .rp cs off b o us (fun i hi=>⟨hF b (h1 i hi).1 (tC (h1 i hi).2),(h1 i hi).2⟩) (fun i hi=>ih i hi (mL hm i hi)) h3
 | fn f cs ds us vs h1 h2 _ _ Gs Gu =>
  rw [nmP,Cj] at hm
  exact .fn f cs ds us vs h1 h2 (fun i hi=>Gs i hi (mL hm.1 i hi)) fun i hi=>Gu i hi (mL hm.2 i hi)
theorem Rep.shrink{F':Nat→Prop}{x:AV}{u:Value}(h:Rep C M w x u)(hF:∀ b,C.F b→uZ w b→F' b)(hm:nmA x=true):Rep ⟨C.ι,C.κ,F',[]⟩ M w x u:=by
 induction h with
 | p x u h=>exact .p x u (h.shrink hF (by simpa [nmA] using hm))
 | any u=>exact .any u
 | kb b=>exact .kb b
 | yld l=>exact .yld l
 | own id u h0 ha h=>exact .own id u h0 ha h
 | arr id off n u h0 ha h=>exact .arr id off n u h0 ha h
 | ptr id off u h0 ha h hp=>exact .ptr id off u h0 ha h hp
 | mp id u h0 ha h=>exact .mp id u h0 ha h
 | pa id q u h0 ha h=>exact .pa id q u h0 ha h
 | rp cs off b o us h1 h2 h3 =>
  have C6:iY cs=true:=by simpa [nmA] using hm
  exact .rp cs off b o us (fun i hi=>⟨hF b (h1 i hi).1 (tC (h1 i hi).2),(h1 i hi).2⟩) (fun i hi=>(h2 i hi).shrink hF (mL C6 i hi)) h3
 | agg cs vs h0 h1 _ ih =>
  have C6:nmL cs=true:=by simpa [nmA] using hm
  exact .agg cs vs h0 h1 fun i hi=>ih i hi (wH C6 i hi)
 | tup cs vs h1 _ ih =>
  have C6:nmL cs=true:=by simpa [nmA] using hm
  exact .tup cs vs h1 fun i hi=>ih i hi (wH C6 i hi)
 | fn f cs ds us vs h1 h2 _ _ Gs Gu =>
  have C6:nmL cs=true∧nmL ds=true:=by simpa [nmA] using hm
  exact .fn f cs ds us vs h1 h2 (fun i hi=>Gs i hi (wH C6.1 i hi)) fun i hi=>Gu i hi (wH C6.2 i hi)

def cFh(M:Mem):Prop:=(∀ (i:Nat) (es:List (Value × PV)) (cl:Nat),M[i]? ≠ some (some (.mp es cl)))∧xT M
def oM:Mem→Bool
 | []=>true
 | some (.pk _ _ _ _)::_=>false
 | some (.mp _ _)::_=>false
 | _::r=>oM r
theorem eV:∀ {m:Mem},oM m=true→cFh m
 | [],_=>⟨fun i es cl h=>by simp at h,fun i o h=>by simp at h⟩
 | none::r,hm=>by
  obtain ⟨h1,h2⟩:=eV (m:=r) hm;refine ⟨fun i es cl h => ?_,fun i o h => ?_⟩
  ·cases i with
   | zero=>simp at h
   | succ i=>exact h1 i es cl (by simpa using h)
  ·cases i with
   | zero=>simp at h
   | succ i=>exact h2 i o (by simpa using h)
 | some x::r,hm=>by
  have hr:oM r=true∧x.isPk=false∧∀ es cl,x ≠ .mp es cl:=by
   cases x with
   | pk=>simp [oM] at hm
   | mp=>simp [oM] at hm
   | _=>exact ⟨by simpa [oM] using hm,rfl,fun _ _ e=>by cases e⟩
  obtain ⟨h1,h2⟩:=eV (m:=r) hr.1;refine ⟨fun i es cl h => ?_,fun i o h => ?_⟩
  ·cases i with
   | zero=>simp at h;exact hr.2.2 _ _ h
   | succ i=>exact h1 i es cl (by simpa using h)
  ·cases i with
   | zero=>simp at h;rw [← h];exact hr.2.1
   | succ i=>exact h2 i o (by simpa using h)

theorem bBh{W:World}{b:Nat}{cs:Array Value}(h:vU W b=some cs):uZ W b:=by
 unfold vU at h
 split at h
 ·rename_i he
  exact nS he
 ·cases h
theorem rP{W:World}{b:Nat}{o:Obj}(h:W.heap[b]? = some o)(ho:o.isCells=false):¬ uZ W b:=fun ⟨o',h',hc⟩=>by rw [h] at h';cases h';rw [ho] at hc;cases hc

structure KpG (F:Nat→Prop) (A B:World):Prop where
 size:A.heap.size≤B.heap.size
 same:∀ b,F b→B.heap[b]? = A.heap[b]?
theorem KpG.refl(F:Nat→Prop)(A:World):KpG F A A:=⟨Bo _,fun _ _=>rfl⟩
theorem KpG.trans{F:Nat→Prop}{A B D:World}(h:KpG F A B)(k:KpG F B D):KpG F A D:=⟨iG h.size k.size,fun b hb=>(k.same b hb).trans (h.same b hb)⟩

theorem bJh{ro:Option Nat}{n:Nat}:(Fen ro).room n:=fun d hd=>by cases hd
theorem aQe{ro:Option Nat}{n m:Nat}{c:Code}{Q:Exit→Act→World→Prop}{a:Act}(h:c.wpIn (Fen ro) n P Q a w):c.wpIn (Fen ro) m P Q a w:=fun b k cs hro hb _=>h b k cs hro hb bJh

theorem Ko(p q:Nat)(a b:Value)(t:Array Value):(#[p,q].zip #[a,b]).foldl (fun t (x:Nat × Value)=>t.setIfInBounds x.1 x.2) t=(t.setIfInBounds p a).setIfInBounds q b:=by simp

end KV
end Go.Proofs
end
section
namespace Go.Proofs
open Go.RowKit
namespace KV
open Tryz
variable {P:Program} {C C1:Cx} {M M':Mem} {w W:World} {b:Nat}
theorem nR(v:Value){c:Nat}(h:c≠b):(W.setCell ⟨b,0,none⟩ v).heap[c]? = W.heap[c]? := Below.heap_setCell _ _ _ _ (fun e=>h e)
end KV
end Go.Proofs
end
section
namespace Go.Proofs
open Go.RowKit
namespace KV
open Tryz
variable {P:Program} {C:Cx} {M:Mem} {w:World} {b:Nat}
theorem uY:∀ {M:Mem} {n:Nat} {x:Option AO},n<M.length→(aZ M n x).length=M.length
 | [],_,_,h=>by simp at h
 | y::l,0,x,_=>rfl
 | y::l,n+1,x,h=>by
  show (aZ l n x).length+1=l.length+1;rw [uY (by simpa using h)]
def oL(M M':Mem):Prop:=∀ (id:Nat) (es:List (Value × PV)) (cl:Nat),M'[id]? = some (some (.mp es cl))→(∃ o:AO,M[id]? = some (some o))∧∀ j (h:j<es.length),nmP es[j].2=true
theorem oL.no{M M':Mem}(h:oM M'=true):oL M M':=fun id es cl hm=>absurd hm ((eV h).1 _ _ _)
def gS(w:World)(b:Nat)(W:World):World:={ w with heap:=w.heap.setIfInBounds b (W.heap.getD b (.cells #[] 0 (0,0))) }
theorem cH(w:World)(b:Nat)(W:World):(gS w b W).heap.size=w.heap.size:=by simp [gS]
theorem aKr{w:World}{b:Nat}{W:World}(h:b<w.heap.size)(h2:b<W.heap.size):(gS w b W).heap[b]? = W.heap[b]? := by
 simp [gS,h,h2,Array.getD]
theorem qO{w:World}{b c:Nat}{W:World}(h:c≠b):(gS w b W).heap[c]? = w.heap[c]? := by
 simp [gS,Ne.symm h]
structure aKs (C:Cx) (M:Mem) (w:World) (b:Nat):Prop where
 nF:¬ C.F b
 nL:∀ (id:Nat) (o:AO),M[id]? = some (some o)→o.live=true→C.ι id≠some b
 lt:b<w.heap.size
 Fs:∀ c,C.F c→c<w.heap.size
 ls:∀ (id:Nat) (o:AO) (c:Nat),M[id]? = some (some o)→o.live=true→C.ι id=some c→c<w.heap.size
def pG(P:Program)(C:Cx)(M:Mem)(w:World)(b:Nat)(M':Mem)(W:World):Prop:=∃ C',aX P C' M' W∧Fr C M (gS w b W) C' M' W
theorem pG.nF{M':Mem}{W:World}{C':Cx}(hA:aKs C M w b)(f:Fr C M (gS w b W) C' M' W):¬ C'.F b:=fun h=>by
 rcases f.F2 b h with h | h | ⟨Ej,o0,q1,q2,q3⟩
 ·exact hA.nF h
 ·rw [cH] at h;have:=hA.lt;omega
 ·exact hA.nL _ _ q1 q2 q3
theorem pG.nL{M':Mem}{W:World}{C':Cx}(hA:aKs C M w b)(f:Fr C M (gS w b W) C' M' W):∀ (id:Nat) (o:AO),M'[id]? = some (some o)→o.live=true→C'.ι id≠some b:=fun id o ho hl he=>by
 rcases f.new id o b ho hl he with h | ⟨Ej,o0,q1,q2,q3⟩
 ·rw [cH] at h;have:=hA.lt;omega
 ·exact hA.nL _ _ q1 q2 q3
theorem aSz{M':Mem}{W w1:World}{C':Cx}(hmp:oL M M')(hls:∀ (id:Nat) (o:AO) (c:Nat),M[id]? = some (some o)→o.live=true→C.ι id=some c→c<w.heap.size)(f:Fr C M w1 C' M' W){id:Nat}{es:List (Value × PV)}{cl c:Nat}(hm:M'[id]? = some (some (.mp es cl)))(hb:C'.ι id=some c):c<w.heap.size:=by
 obtain ⟨⟨o,ho⟩,_⟩:=hmp _ _ _ hm;have hl:=f.liv _ _ ho _ hm rfl;rw [(f.ids _ _ ho).2.1] at hb
 exact hls _ _ _ ho hl hb
theorem cFg{M':Mem}{W:World}(hmp:oL M M')(hq:nmM M'=true)(hF:∀ b,C.F b→b<w.heap.size){C':Cx}(hM:aX P C' M' W)(f:Fr C M w C' M' W) :
  ∃ F':Nat→Prop,aX P ⟨C'.ι,C'.κ,F',[]⟩ M' W∧Fr C M w ⟨C'.ι,C'.κ,F',[]⟩ M' W∧(∀ b,F' b→C'.F b)∧(∀ b,F' b→b<w.heap.size∨uZ W b):=by
 refine ⟨fun b=>C'.F b∧(b<w.heap.size∨uZ W b),⟨fun i ty n cs hm => ?_,fun i ty cs hm => ?_,fun i es cl hm => ?_,hM.inj,fun i o b ho hl hb hf=>hM.nF i o b ho hl hb hf.1,fun b hb=>hM.Fs b hb.1,hM.lt,fun p hp=>let ⟨h1,cs,h2,h3⟩:=hM.lib p hp;⟨⟨h1,.inr (bBh h2)⟩,cs,h2,h3⟩⟩,
  ⟨f.os,f.tape,f.out,f.size,f.keep,f.ids,f.row,f.liv,f.new,fun b hb=>⟨f.F1 b hb,.inl (hF b hb)⟩,fun b hb=>f.F2 b hb.1⟩,fun b hb=>hb.1,fun b hb=>hb.2⟩
 ·rcases hM.row _ _ _ _ hm with h4 | ⟨b,arr,inf,q0,q1,q2,q3,q4,q5,q6,q7,q8⟩
  ·exact .inl h4
  ·exact .inr ⟨b,arr,inf,q0,q1,q2,q3,q4,q5,q6,fun j hj=>(q7 j hj).shrink (fun b hb hs=>⟨hb,.inr hs⟩) (mL ((aQd hq).1 _ _ _ _ hm) j hj),q8⟩
 ·obtain ⟨b,arr,q0,q1,q2,q3,q4⟩:=hM.box _ _ _ hm
  exact ⟨b,arr,q0,q1,q2,fun j hj=>(q3 j hj).shrink (fun b hb hs=>⟨hb,.inr hs⟩) (wH ((aQd hq).2 _ _ _ hm) j hj),q4⟩
 ·obtain ⟨b,arr,q0,q1,q2,q3⟩:=hM.mp _ _ _ hm
  refine ⟨b,arr,q0,q1,q2,fun j hj => ?_⟩
  obtain ⟨en,r1,r2,r3,r4⟩:=q3 j hj;exact ⟨en,r1,r2,r3,r4.shrink (fun b hb hs=>⟨hb,.inr hs⟩) ((hmp _ _ _ hm).2 j hj)⟩
theorem pG.own{M':Mem}{W W':World}{row:Option Nat}(hmp:oL M M')(hq:nmM M'=true)(hA:aKs C M w b)(h:pG P C M w b M' W)(hg:W.grownBy W' row)
  (hr:∀ r,row=some r→w.heap.size≤r∧∃ o:Obj,W.heap[r]? = some o∧o.isCells=false):pG P C M w b M' W':=by
 obtain ⟨C1,h1,h2⟩:=h;obtain ⟨F',hM,f,hFF,hS⟩:=cFg hmp hq (by rw [cH];exact hA.Fs) h1 h2
 have hwW:w.heap.size≤W.heap.size:=by have:=h2.size;rw [cH] at this;exact this
 have hsame:∀ b,b<W.heap.size→(b<w.heap.size∨uZ W b)→W'.heap[b]? = W.heap[b]? := fun b hb hd=>hg.block b hb (fun e=>by
  obtain ⟨q1,o,q2,q3⟩:=hr b e.symm
  rcases hd with hd | hd
  ·omega
  ·exact rP q2 q3 hd)
 rw [cH] at hS
 have hFz:∀ b,F' b→W'.heap[b]? = W.heap[b]? := fun b hb=>hsame b (hM.Fs b hb) (hS b hb)
 have hL:Le ⟨C1.ι,C1.κ,F',[]⟩ ⟨C1.ι,C1.κ,F',[]⟩ M' M' W W':=⟨fun _ o h=>⟨o,h⟩,fun _ _ _ _ _ cs h=>⟨cs,h⟩,fun _ o h o' h' hl=>by rw [h] at h';cases h';exact ⟨hl,rfl,rfl⟩,fun _ h=>h,hFz⟩
 refine ⟨⟨C1.ι,C1.κ,F',[]⟩,⟨fun i ty n cs hm => ?_,fun i ty cs hm => ?_,fun i es cl hm => ?_,hM.inj,hM.nF,fun b hb=>uK (hM.Fs b hb) hg.size,fun i o b ho hl hb=>uK (hM.lt i o b ho hl hb) hg.size,hM.lib.le hL⟩,
  ⟨hg.os.trans f.os,hg.tape.trans f.tape,hg.output.trans f.out,by rw [cH];exact iG hwW hg.size,fun c hc hno => ?_,f.ids,f.row,f.liv,fun id o c h q r=>by have:=f.new id o c h q r;rw [cH] at this ⊢;exact this,f.F1,fun c h=>by have:=f.F2 c h;rw [cH] at this ⊢;exact this⟩⟩
 ·rcases hM.row _ _ _ _ hm with h4 | ⟨b,arr,inf,q0,q1,q2,q3,q4,q5,q6,q7,q8⟩
  ·exact .inl h4
  ·exact .inr ⟨b,arr,inf,q0,(hsame b (Em.1 q1).1 (.inr (nS q1))).trans q1,q2,q3,q4,q5,q6,fun j hj=>(q7 j hj).mono hL.F hL.fz,q8⟩
 ·obtain ⟨b,arr,q0,q1,q2,q3,q4⟩:=hM.box _ _ _ hm
  exact ⟨b,arr,q0,(hsame b (Em.1 q1).1 (.inr (nS q1))).trans q1,q2,fun j hj=>(q3 j hj).mono hL,q4⟩
 ·obtain ⟨b,arr,q0,q1,q2,q3⟩:=hM.mp _ _ _ hm
  refine ⟨b,arr,q0,(hsame b (Em.1 q1).1 (.inl (aSz hmp hA.ls f hm q0))).trans q1,q2,fun j hj => ?_⟩
  obtain ⟨en,r1,r2,r3,r4⟩:=q3 j hj;exact ⟨en,r1,r2,r3,r4.mono hL.F hL.fz⟩
 ·rw [cH] at hc
  by_cases e:c=b
  ·subst e
   rw [aKr hc (uK hc (iG hwW hg.size))]
  ·rw [qO e]
   have:=f.keep c (by rw [cH];exact hc) hno
   rw [qO e] at this
   exact (hsame c (uK hc hwW) (.inl hc)).trans this
theorem pG.set{M':Mem}{W:World}(hA:aKs C M w b)(h:pG P C M w b M' W)(v:Value):pG P C M w b M' (W.setCell ⟨b,0,none⟩ v):=by
 obtain ⟨C1,h1,h2⟩:=h;have hFb:=pG.nF hA h2;have hlb:=pG.nL hA h2;have hsz:(W.setCell ⟨b,0,none⟩ v).heap.size=W.heap.size:=by simp [World.setCell]
 have hwW:w.heap.size≤W.heap.size:=by have:=h2.size;rw [cH] at this;exact this
 have hFz:∀ c,C1.F c→(W.setCell ⟨b,0,none⟩ v).heap[c]? = W.heap[c]? := fun c hc=>nR v (fun e=>hFb (e ▸ hc))
 have hL:Le C1 C1 M' M' W (W.setCell ⟨b,0,none⟩ v):=⟨fun _ o h=>⟨o,h⟩,fun _ _ _ _ _ cs h=>⟨cs,h⟩,fun _ o h o' h' hl=>by rw [h] at h';cases h';exact ⟨hl,rfl,rfl⟩,fun _ h=>h,hFz⟩
 refine ⟨C1,⟨fun i ty n cs hm => ?_,fun i ty cs hm => ?_,fun i es cl hm => ?_,h1.inj,h1.nF,fun c hc=>by rw [hsz];exact h1.Fs c hc,fun i o c ho hl hb=>by rw [hsz];exact h1.lt i o c ho hl hb,h1.lib.le hL⟩,
  ⟨h2.os,h2.tape,h2.out,by rw [hsz,cH];exact hwW,fun c hc hno => ?_,h2.ids,h2.row,h2.liv,fun id o c h q r=>by have:=h2.new id o c h q r;rw [cH] at this ⊢;exact this,h2.F1,fun c h=>by have:=h2.F2 c h;rw [cH] at this ⊢;exact this⟩⟩
 ·rcases h1.row _ _ _ _ hm with h4 | ⟨c,arr,inf,q0,q1,q2,q3,q4,q5,q6,q7,q8⟩
  ·exact .inl h4
  ·exact .inr ⟨c,arr,inf,q0,(nR v (fun (e:c=b)=>hlb _ _ hm rfl (by rw [← e];exact q0))).trans q1,q2,q3,q4,q5,q6,fun j hj=>(q7 j hj).mono hL.F hL.fz,q8⟩
 ·obtain ⟨c,arr,q0,q1,q2,q3,q4⟩:=h1.box _ _ _ hm
  exact ⟨c,arr,q0,(nR v (fun (e:c=b)=>hlb _ _ hm rfl (by rw [← e];exact q0))).trans q1,q2,fun j hj=>(q3 j hj).mono hL,q4⟩
 ·obtain ⟨c,arr,q0,q1,q2,q3⟩:=h1.mp _ _ _ hm
  refine ⟨c,arr,q0,(nR v (fun (e:c=b)=>hlb _ _ hm rfl (by rw [← e];exact q0))).trans q1,q2,fun j hj => ?_⟩
  obtain ⟨en,r1,r2,r3,r4⟩:=q3 j hj;exact ⟨en,r1,r2,r3,r4.mono hL.F hL.fz⟩
 ·rw [cH] at hc
  by_cases e:c=b
  ·subst e
   rw [aKr hc (by rw [hsz];omega)]
  ·rw [qO e,nR v e]
   have:=h2.keep c (by rw [cH];exact hc) hno
   rw [qO e] at this
   exact this
theorem pG.back{bx:Nat}{o:AO}{M':Mem}{W:World}{C':Cx}(ho:M[bx]? = some (some o))(hl:o.live=true)(hb:C.ι bx=some b)(hbl:b<w.heap.size)(f:Fr (C.close bx false) (aZ M bx (some .dead)) (gS w b W) C' M' W):Fr C M w C' M' W:=by
 have h1:=cY (C:=C) (w:=w) false ho hl;refine ⟨f.os,f.tape,f.out,by have:=f.size;rw [cH] at this;exact this,fun c hc hno => ?_,fun id o1 h => ?_,fun id o1 h ty n cs hm => ?_,fun id o1 h o2 hm Bi => ?_,fun id o1 c h q r => ?_,fun c h=>f.F1 c (h1.F1 c h),fun c h => ?_⟩
 ·have hne:c≠b:=fun e=>hno bx o ho hl (by rw [e];exact hb)
  have:=f.keep c (by rw [cH];exact hc) (fun id o1 h2 h3 h4=>by
   rcases h1.new id o1 c h2 h3 h4 with q | ⟨Ej,o0,q1,q2,q3⟩
   ·omega
   ·exact hno _ _ q1 q2 q3)
  rw [qO hne] at this
  exact this
 ·obtain ⟨⟨o2,h2⟩,h3,h4⟩:=h1.ids id o1 h
  obtain ⟨h5,h6,h7⟩:=f.ids id o2 h2;exact ⟨h5,h6.trans h3,h7.trans h4⟩
 ·obtain ⟨⟨o2,h2⟩,_⟩:=h1.ids id o1 h
  obtain ⟨Bs,h3⟩:=f.row id o2 h2 _ _ _ hm;exact h1.row id o1 h _ _ _ h3
 ·obtain ⟨⟨o3,h3⟩,_⟩:=h1.ids id o1 h
  exact h1.liv id o1 h o3 h3 (f.liv id o3 h3 o2 hm Bi)
 ·rcases f.new id o1 c h q r with h2 | ⟨Ej,o0,q1,q2,q3⟩
  ·rw [cH] at h2;exact .inl h2
  ·exact h1.new _ _ _ q1 q2 q3
 ·rcases f.F2 c h with h2 | h2 | ⟨Ej,o0,q1,q2,q3⟩
  ·exact h1.F2 c h2
  ·rw [cH] at h2;exact .inr (.inl h2)
  ·rcases h1.new _ _ _ q1 q2 q3 with h4 | h4
   ·exact .inr (.inl h4)
   ·exact .inr (.inr h4)
theorem bBg{fid bx:Nat}{o:AO}{u:Value}(h:Rep C M w (.fn fid [] [.ptr bx 0]) u)(ho:M[bx]? = some (some o))(hl:o.live=true):∃ c,u = .func (.func fid) #[] #[.pointer (some ⟨c,0,none⟩)]∧C.ι bx=some c:=by
 cases h with
 | fn _ _ _ us vs h1 h2 h3 h4 =>
  have e1:us = #[]:=Array.eq_empty_of_size_eq_zero (by simpa using h1)
  subst e1;have h5:=h4 0 (by simp)
  obtain ⟨v,rfl⟩:∃ v,vs = #[v]:=by
   have:vs.size=1:=by simpa using h2
   exact ⟨vs[0],by ext i G5 Dx;(· simpa using this);(· have:i=0:=(by omega);subst this;rfl)⟩
  simp at h5
  cases h5 with
  | ptr _ _ _ _ _ q _ =>
   obtain ⟨c,rfl,q2⟩:=q o ho hl;exact ⟨c,rfl,q2⟩
def itB{X β ε:Type}(f:β→X→Except ε β):β→List X→Except ε β
 | a,[] => .ok a
 | a,x::r=>match f a x with
  | .ok a'=>itB f a' r
  | .error e => .error e
theorem aKt{X β ε:Type}(f:β→X→Except ε β):∀ (l:List X) (a:β) (x:X),itB f a (l++[x])=match itB f a l with
  | .ok a'=>f a' x
  | .error e => .error e
 | [],a,x=>by
  show (match f a x with | .ok a'=>itB f a' [] | .error e => .error e)=f a x
  cases f a x <;> rfl
 | y::l,a,x=>by
  show (match f a y with | .ok a'=>itB f a' (l++[x]) | .error e => .error e)=_
  show _=match (match f a y with | .ok a'=>itB f a' l | .error e => .error e) with | .ok a'=>f a' x | .error e => .error e
  cases f a y with
  | ok a'=>exact aKt f l a' x
  | error e=>rfl
theorem aEm{X β ε:Type}(f:β→X→Except ε β){e:ε}:∀ (l m:List X) (a:β),itB f a l = .error e→itB f a (l++m) = .error e
 | [],m,a,h=>by cases h
 | y::l,m,a,h=>by
  have h':(match f a y with | .ok a'=>itB f a' l | .error e => .error e) = .error e:=h
  show (match f a y with | .ok a'=>itB f a' (l++m) | .error e => .error e) = .error e
  cases hf:f a y with
  | ok a'=>rw [hf] at h';exact aEm f l m a' h'
  | error e'=>rw [hf] at h';exact h'
end KV
end Go.Proofs
end
section
namespace Go.Proofs
open Go.RowKit
namespace KV
open Tryz
attribute [local go_sem] Oper.semAt_some
def qP:Nat→List UInt8→List (List UInt8 × Bool)
 | 0,_=>[]
 | k+1,s=>if s=[] then [] else ((Lib.cut s [10]).1,(Lib.cut s [10]).2.2)::qP k (Lib.cut s [10]).2.1
def cG(s:List UInt8):List (List UInt8 × Bool):=qP s.length s
theorem wI{s x:List UInt8}(h:s≠[])(hx:x≠[]):(Lib.cut s x).2.1.length<s.length:=by
 have h1:=List.length_pos_iff.2 h;have h2:=List.length_pos_iff.2 hx;unfold Lib.cut
 split
 ·rw [pD];omega
 ·exact h1
theorem sF:∀ (k j:Nat) (s:List UInt8),s.length≤k→s.length≤j→qP k s=qP j s
 | 0,j,s,h,_=>by
  have:s=[]:=tB (by omega)
  subst this;cases j <;> simp [qP]
 | k+1,0,s,_,h=>by
  have:s=[]:=tB (by omega)
  subst this;simp [qP]
 | k+1,j+1,s,h,h2=>by
  unfold qP
  by_cases hs:s=[]
  ·rw [if_pos hs,if_pos hs]
  ·rw [if_neg hs,if_neg hs]
   have:=wI (s:=s) (x:=[10]) hs (by simp)
   rw [sF k j _ (by omega) (by omega)]
theorem jT:cG []=[]:=rfl
theorem eR{s:List UInt8}(h:s≠[]):cG s=((Lib.cut s [10]).1,(Lib.cut s [10]).2.2)::cG (Lib.cut s [10]).2.1:=by
 have h1:=List.length_pos_iff.2 h;have h2:=wI (s:=s) (x:=[10]) h (by simp)
 unfold cG;obtain ⟨k,hk⟩:∃ k,s.length=k+1:=⟨s.length-1,by omega⟩
 rw [hk,qP,if_neg h];rw [sF k (Lib.cut s [10]).2.1.length _ (by omega) (Bo _)]
theorem jU:∀ (k:Nat) (s:List UInt8),s.length≤k→(cG s).length≤s.length
 | 0,s,h=>by
  have:s=[]:=tB (by omega)
  subst this;exact Bo _
 | k+1,s,h=>by
  by_cases hs:s=[]
  ·subst hs;exact Bo _
  ·have:=wI (s:=s) (x:=[10]) hs (by simp)
   have:=jU k (Lib.cut s [10]).2.1 (by omega)
   rw [eR hs,fQ];omega
end KV
end Go.Proofs
end
section
namespace Go.Proofs
open Go.RowKit Go.Lib Go.Shelf
namespace KV
open Tryz
attribute [local go_sem] Oper.semAt_some
def aKu(W:World)(b:Nat):Nat:=match W.cell? ⟨b,0,none⟩ with
 | some (.string s)=>s.size
 | _=>0
theorem cBf{A B:World}(h:Below A.heap.size A B):A.grownBy B none:=⟨h.os,h.tape,h.output,h.size,fun b hb _=>h.block b hb⟩
set_option maxRecDepth 1000000 in
set_option maxHeartbeats 2000000 in
theorem aKv(s:List UInt8)(hs:s.length<100000)(m:Int)(F0:Nat→Prop)(n l b:Nat)(hn:1≤n)(J Jx:List (List UInt8 × Bool)→World→Prop)
  (hY:∀ pre (x:List UInt8 × Bool) W,J pre W→pre++[x] <+: cG s→YieldAt Fence.wide (n-1) Tp l #[.string ⟨x.1.toArray⟩,.bool x.2] W fun e W' =>
   (e = .returned (.bool true)∧J (pre++[x]) W'∧KpG F0 W W')∨(e = .returned (.bool false)∧Jx (pre++[x]) W'))
  (W:World) (hJ:AbidesFrom W.heap.size J) (J0:F0 0) (hFb:F0 b) (Gr:b≠0)
  (hJb:∀ pre A v,J pre A→J pre (A.setCell ⟨b,0,none⟩ v))
  (hm:W.cell? ⟨0,0,none⟩=some (.int .i64 m)) (hbox:Boxed W b 9 (.string ⟨s.toArray⟩)) (h0:J [] W) :
  CallsIn Fence.wide n Tp 175 #[.func (.yield l) #[] #[],.pointer (some ⟨b,0,none⟩)] W fun e W'=>(∃ v,e = .returned v) ∧
   ((∃ ys,ys=cG s∧J ys W')∨(∃ pre,pre <+: cG s∧Jx pre W')):=by
 have HJ:=hid hJ;have HY:=hid hY;have HJB:=hid hJb;have HB0:=hid hbox;have HJ0:=hid h0;have HM0:=hid hm;clear hJ hY hJb hbox h0 hm;refine callsIn_of_wp func175 rfl trivial ?_ rfl;simp only [Tryz.ntmps175,List.size_toArray,fQ,List.length_nil,Nat.reduceAdd,Nat.reduceSub,Array.replicate_succ,Array.replicate_zero,List.push_toArray,List.append_toArray,List.nil_append,List.cons_append]
 gi_wp2
 gi_loopw [3] (fun _ wr=>∃ (pre:List (List UInt8 × Bool)) (t:List UInt8),J pre wr∧pre++cG t=cG s∧t.length≤s.length∧wr.cell? ⟨0,0,none⟩=some (.int .i64 m)∧Boxed wr b 9 (.string ⟨t.toArray⟩))
  (fun _ wr=>aKu wr b)
 case atStart=>exact ⟨[],s,HJ0.out,rfl,Bo _,HM0.out,HB0.out⟩
 case round =>
  obtain ⟨pre,t,hJp,hpre,htl,hm,hB⟩:=hrel;have hc:=hB.cell;have HJP:=hid hJp;have HPRE:=hid hpre;have HM:=hid hm;have HB:=hid hB;clear hJp hpre hm hB
  by_cases ht:t=[]
  ·subst ht
   have HE:=hid (show pre=cG s by rw [← HPRE.out,jT,List.append_nil])
   gi_wp2
   go_end0
   exact ⟨⟨_,rfl⟩,.inl ⟨pre,HE.out,HJP.out⟩⟩
  ·have hne:t.isEmpty=false:=by
    cases t with
    | nil=>exact absurd rfl ht
    | cons a r=>rfl
   have HC:=hid (eR ht);have HLT:=hid (wI (s:=t) (x:=[10]) ht (by simp))
   have HL:pre++[((Lib.cut t [10]).1,(Lib.cut t [10]).2.2)] <+: cG s:=by
    rw [← HPRE.out,HC.out];exact ⟨cG (cut t [10]).2.1,by rw [List.append_assoc];rfl⟩
   have HL:=hid HL;have HCUT:=hid (Tryz.strings_Cut ⟨t.toArray⟩ ⟨#[10]⟩ m wr (by rw [Lib.size_eq];show t.length<_;omega) HM.out)
   have HWR:=hid (fun w1 (Dq:Below wr.heap.size wr w1)=>HJ.out _ wr w1 none HJP.out (cBf Dq) (fun r e=>by cases e))
   gi_wp2_with (first
    | (refine ⟨trivial,?_⟩;gi_at_call 130;refine (callsIn_wide.2 HCUT.out).mono ?_;clear HCUT;rintro e w1 ⟨rfl,k,rfl⟩;obtain ⟨fn,tmps,assign,body,hy,hR⟩:=HY.out _ ((Lib.cut t [10]).1,(Lib.cut t [10]).2.2) (wr.drewN k) (HWR.out _ wN) HL.out)
    | (refine hR.mono ?_;clear hR;rintro e w3 P4;(rcases P4 with ⟨rfl,Om,Kr⟩ | ⟨rfl,hx⟩) <;> first | (have Lq:Boxed w3 b 9 (.string ⟨t.toArray⟩):=(Kr.same b hFb).trans HB.out;have Oh:=Lq.frozen;have hc3:=Lq.cell;have HJ3:=hid Om;have HK3:=hid Kr;have HB3:=hid Lq;clear Om Kr Lq) | skip))
   ·have Ld:=(HB3.out).set (.string ⟨(cut t [10]).2.1.toArray⟩)
    refine ⟨⟨pre++[((cut t [10]).1,(cut t [10]).2.2)],(cut t [10]).2.1,HJB.out _ _ _ HJ3.out,?_,?_,?_,Ld⟩,?_⟩
    ·rw [← HPRE.out,HC.out,List.append_assoc];rfl
    ·have:=HLT.out;omega
    ·rw [iD (Below.heap_setCell _ _ _ 0 (fun e=>Gr e.symm)) 0,iD (HK3.out.same 0 J0) 0]
     exact HM.out
    ·have e1:aKu (w3.setCell ⟨b,0,none⟩ (.string ⟨(cut t [10]).2.1.toArray⟩)) b=(cut t [10]).2.1.length:=by
      unfold aKu;rw [Ld.cell];exact Lib.size_eq _
     have e2:aKu wr b=t.length:=by
      unfold aKu;rw [HB.out.cell];exact Lib.size_eq _
     rw [e1,e2];exact HLT.out
   ·refine bodyPost_ret (results_none rfl _ _ _) rfl ?_
    refine ⟨⟨_,rfl⟩,.inr ⟨pre++[((cut t [10]).1,(cut t [10]).2.2)],?_,hx⟩⟩;rw [← HPRE.out,HC.out];exact ⟨cG (cut t [10]).2.1,by rw [List.append_assoc];rfl⟩
end KV
end Go.Proofs
end
