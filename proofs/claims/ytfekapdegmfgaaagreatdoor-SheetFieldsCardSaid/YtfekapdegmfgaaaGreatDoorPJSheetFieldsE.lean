/- Parts of the proof of JSheetFields: laws of walks, contracts of functions, plain models. No condition. -/
import Derived.RangeFuncLeaves
import Derived.OwnWalkIn
import Derived.TacticsInMore
import Derived.Lib.SplitLaws
import Derived.RangeFuncNested
import Derived.Shelf.Abstract
import Derived.LoopNIn
import Derived.LoopIn
import Derived.Laws.RangeAny
import Derived.Laws.DeepNot64
import Derived.Laws.Unary
import Derived.Test.YtfekapdegmfgaaaGreatDoorPJSheetFieldsD
set_option linter.unusedVariables false
set_option linter.unusedSimpArgs false
set_option linter.unnecessarySimpa false
set_option maxRecDepth 100000
namespace Go.Proofs
namespace KV
open Tryz
section
variable {k m n o n' Lz H4:Int}{i i' Aq Kz Jw base:Nat}

noncomputable abbrev nV:Code:=sub (cd Tryz.f133) [1,1,1,0,1,0,0]
noncomputable abbrev qQ:Code:=sub (cd Tryz.f40) [1,1,1,1,0,1,0,0]
noncomputable abbrev aPg:Code:=sub (cd Tryz.f41) [1,1,1,0,1,0,0]
theorem aIb:(10:Int)≠0:=by first | decide | simp
theorem bHy(h0:k=0):FV Tp 36 [(pI k)] base (.tup [(.p (.sl 3 [(aB 0),(aB 1),(aB 0)])),(pI 1),(pI 0)]) []:=FV.frz (FMM.fi 0 ⟨[],[],[0],[]⟩ func36 [bT] (gc (dG h0) gn)) (by kernel_rfl)
theorem bHz(h0:k≠0)(h1:k=1):FV Tp 36 [(pI k)] base (.tup [(.p (.sl 4 [(aB 0),(aB 0),(aB 0),(aB 1)])),(pI 3),(pI 0)]) []:=FV.frz (FMM.fi 0 ⟨[],[],[0],[]⟩ func36 [bF,bT] (gc (dG h1) (gc (bI h0) gn))) (by kernel_rfl)
section
variable(h0:k≠0)(h1:k≠1)
include h0 h1
theorem bIa(h2:k=2):FV Tp 36 [(pI k)] base (.tup [(.p (.sl 3 [(aB 0),(aB 0),(aB 2)])),(pI 2),(pI 0)]) []:=FV.frz (FMM.fi 0 ⟨[],[],[0],[]⟩ func36 [bF,bF,bT] (gc (dG h2) (gc (bI h1) (gc (bI h0) gn)))) (by kernel_rfl)
theorem bIb(h2:k≠2)(h3:k=3):FV Tp 36 [(pI k)] base (.tup [(.p (.sl 4 [(aB 0),(aB 0),(aB 3),(aB 0)])),(pI 1),(pI 0)]) []:=FV.frz (FMM.fi 0 ⟨[],[],[0],[]⟩ func36 [bF,bF,bF,bT] (gc (dG h3) (gc (bI h2) (gc (bI h1) (gc (bI h0) gn))))) (by kernel_rfl)
theorem bIc(h2:k≠2)(h3:k≠3)(h4:k=4):FV Tp 36 [(pI k)] base (.tup [(.p (.sl 3 [(aB 0),(aB 0),(aB 0)])),(pI 1),(pI 0)]) []:=FV.frz (FMM.fi 0 ⟨[],[],[0],[]⟩ func36 [bF,bF,bF,bF,bT] (gc (dG h4) (gc (bI h3) (gc (bI h2) (gc (bI h1) (gc (bI h0) gn)))))) (by kernel_rfl)
theorem bId(h2:k≠2)(h3:k≠3)(h4:k≠4):FV Tp 36 [(pI k)] base (.tup [(.p bK),(pI 0),(pI 1)]) []:=FV.frz (FMM.fi 0 gE func36 (rF 5) (gc (bI h4) (gc (bI h3) (gc (bI h2) (gc (bI h1) (gc (bI h0) gn)))))) (by kernel_rfl)
end
theorem bIe{k:Int}(h:within k 0 4=true){base:Nat}:FV Tp 36 [.p (aB k)] base (.tup [.p (bJ (aJ k)),.p (aB (aK k)),.p (aB 0)]) []:=by
 have hb:=dN.1 h;unfold aJ aK
 by_cases h0:k=0
 ·subst h0;exact bHy rfl
 ·rw [if_neg h0]
  by_cases h1:k=1
  ·subst h1;exact bHz (by decide) rfl
  ·rw [if_neg h1,if_neg h1]
   by_cases h2:k=2
   ·subst h2;exact bIa (by decide) (by decide) rfl
   ·rw [if_neg h2,if_neg h2]
    by_cases h3:k=3
    ·subst h3;exact bIb (by decide) (by decide) (by decide) rfl
    ·rw [if_neg h3];exact bIc h0 h1 h2 h3 (by omega)
theorem bCi{k:Int}(h:within k 0 4=false){base:Nat}:FV Tp 36 [.p (aB k)] base (.tup [.p bK,.p (aB 0),.p (aB 1)]) []:=by
 have hb:¬ (0≤k∧k≤4):=fun q=>by rw [dN.2 q] at h;cases h
 exact bId (by omega) (by omega) (by omega) (by omega) (by omega)
def aIc(n:Int):Prop:=∀ (base:Nat),FV Tp 129 [.p (aB n)] base (.p (aD (Lib.itoa n))) []
theorem bIf(h0:n<10)(h1:inR ((48:Int)+n)):FV Tp 129 [(pI n)] base (.p (aD [UInt8.ofNat ((IntKind.wrap .u8 ((48:Int)+n))).toNat])) []:=FV.fi func129 [bT] (gt ([(PV.v (.int .u8 (IntKind.wrap .u8 ((48:Int)+n))))].length=1*1) (by first | decide | simp) (gc h1 (g0 h0)))
theorem bIg(h0:(10:Int)≤n)(h1:inR (n.tdiv 10))(h2:aIc (n.tdiv 10))(h3:aIc (n.tmod 10))(h4:(Lib.itoa (n.tdiv 10)).length+(Lib.itoa (n.tmod 10)).length≤4611686018427387904):FV Tp 129 [(pI n)] base (.p (aD ((Lib.itoa (n.tdiv 10))++(Lib.itoa (n.tmod 10))))) []:=FV.fi func129 [bF,.c (.p (aD (Lib.itoa (n.tdiv 10)))) [],.c (.p (aD (Lib.itoa (n.tmod 10)))) []] (gc h4 (gc (fk 0 (h3 _) rfl) (gc aIb (gc (fk 0 (h2 _) rfl) (gc h1 (gc aIb (gc (aO h0) gn)))))))
theorem kI{u:Nat}(h:u<10):Lib.decDigits u=[UInt8.ofNat (48+u)]:=by rw [Lib.decDigits,dif_pos h]
theorem wS{u:Nat}(h:¬ u<10):Lib.decDigits u=Lib.decDigits (u / 10)++[UInt8.ofNat (48+u % 10)]:=by rw [Lib.decDigits,dif_neg h]
theorem aPh(u:Nat)(h:u<10000000000):(Lib.decDigits u).length≤21:=by
 have:=Lib.itoa_length_le (u:Int) (by omega) (by omega)
 rwa [Lib.itoa_nonneg] at this
theorem bIh:∀ (k n:Nat),n<k→n≤1000000000→aIc (n:Int):=by
 intro k
 induction k with
 | zero=>intro n h;omega
 | succ k ih =>
  intro n h hn base
  by_cases A5:n<10
  ·rw [Lib.itoa_nonneg,kI A5]
   have e:(IntKind.wrap .u8 (48+(n:Int))).toNat=48+n:=by rw [wraps_u8 _ (by omega) (by omega)];omega
   have:=bIf (n:=(n:Int)) (base:=base) (by omega) (by show _∧_;omega)
   rw [e] at this
   exact this
  ·rw [Lib.itoa_nonneg,wS A5]
   have e1:(n:Int).tdiv 10=((n / 10:Nat):Int):=by rw [Int.tdiv_eq_ediv_of_nonneg (by omega)];omega
   have e2:(n:Int).tmod 10=((n % 10:Nat):Int):=by rw [Int.tmod_eq_emod_of_nonneg (by omega)];omega
   have g1:aIc ((n:Int).tdiv 10):=by rw [e1];exact ih _ (by omega) (by omega)
   have g2:aIc ((n:Int).tmod 10):=by rw [e2];exact ih _ (by omega) (by omega)
   have l1:=aPh (n / 10) (by omega)
   have l2:=aPh (n % 10) (by omega)
   have:=bIg (n:=(n:Int)) (base:=base) (by omega) (by rw [e1];unfold inR;omega) g1 g2 (by rw [e1,e2,Lib.itoa_nonneg,Lib.itoa_nonneg];omega)
   rw [e1,e2,Lib.itoa_nonneg,Lib.itoa_nonneg,kI (show n % 10<10 by omega)] at this
   exact this
theorem aEs(n:Int)(h:0≤n∧n≤1000000000){base:Nat}:FV Tp 129 [.p (aB n)] base (.p (aD (Lib.itoa n))) []:=by
 obtain ⟨m,rfl⟩:∃ m:Nat,n=(m:Int):=⟨n.toNat,by omega⟩
 exact bIh (m+1) m (by omega) (by omega) base
theorem bOr(h0:n<0):FV Tp 38 [(pI n)] base (.tup [(.p (aD ([]:List UInt8))),(pI 3)]) []:=FV.fi func38 [bT,bT,bT] (A1 (bX h0) (g0 h0))
theorem bOs(h0:(0:Int)≤n)(h1:(360000:Int)<n):FV Tp 38 [(pI n)] base (.tup [(.p (aD ([]:List UInt8))),(pI 3)]) []:=FV.fi func38 [bF,bF,bF,bT] (gc (bX h1) (Au (aO h0) gn))
theorem bOt(h0:(0:Int)≤n)(h1:n≤360000)(h2:inR (n.tdiv 600))(h3:0≤(n.tdiv 600)∧(n.tdiv 600)≤1000000000)(h4:(Lib.itoa (n.tdiv 600)).length+([58]:List UInt8).length≤4611686018427387904)(h5:inR (n.tdiv 100))(h6:0≤((n.tdiv 100).tmod 6)∧((n.tdiv 100).tmod 6)≤1000000000)(h7:((Lib.itoa (n.tdiv 600))++([58]:List UInt8)).length+(Lib.itoa ((n.tdiv 100).tmod 6)).length≤4611686018427387904)(h8:inR (n.tdiv 10))(h9:0≤((n.tdiv 10).tmod 10)∧((n.tdiv 10).tmod 10)≤1000000000)(A5:(((Lib.itoa (n.tdiv 600))++([58]:List UInt8))++(Lib.itoa ((n.tdiv 100).tmod 6))).length+(Lib.itoa ((n.tdiv 10).tmod 10)).length≤4611686018427387904)(Cg:((((Lib.itoa (n.tdiv 600))++([58]:List UInt8))++(Lib.itoa ((n.tdiv 100).tmod 6)))++(Lib.itoa ((n.tdiv 10).tmod 10))).length+([46]:List UInt8).length≤4611686018427387904)(Bc:0≤(n.tmod 10)∧(n.tmod 10)≤1000000000)(B3:(((((Lib.itoa (n.tdiv 600))++([58]:List UInt8))++(Lib.itoa ((n.tdiv 100).tmod 6)))++(Lib.itoa ((n.tdiv 10).tmod 10)))++([46]:List UInt8)).length+(Lib.itoa (n.tmod 10)).length≤4611686018427387904):FV Tp 38 [(pI n)] base (.tup [(.p (aD ((((((Lib.itoa (n.tdiv 600))++([58]:List UInt8))++(Lib.itoa ((n.tdiv 100).tmod 6)))++(Lib.itoa ((n.tdiv 10).tmod 10)))++([46]:List UInt8))++(Lib.itoa (n.tmod 10))))),(pI 0)]) []:=have k1:=fk 0 (aEs (n.tdiv 600) h3) rfl;have k2:=fk 0 (aEs ((n.tdiv 100).tmod 6) h6) rfl;have k3:=fk 0 (aEs ((n.tdiv 10).tmod 10) h9) rfl;have k4:=fk 0 (aEs (n.tmod 10) Bc) rfl;FV.fi func38 [bF,bF,bF,bF,k1.o,k2.o,k3.o,k4.o] (gc B3 (gc k4 (gc aIb (gc Cg (gc A5 (gc k3 (gc aIb (gc h8 (gc aIb (gc h7 (gc k2 (gt ((6:Int)≠0) (by first | decide | simp) (gc h5 (gt ((100:Int)≠0) (by first | decide | simp) (gc h4 (gc k1 (gc h2 (gt ((600:Int)≠0) (by first | decide | simp) (gc (aO h1) (Au (aO h0) gn))))))))))))))))))))
theorem bIi{x:Nat}(h:x<60):(Lib.decDigits (100+x)).drop 1=Lib.decDigits (x / 10)++Lib.decDigits (x % 10):=by
 rw [wS (by omega),wS (u:=(100+x) / 10) (by omega),kI (u:=(100+x) / 10 / 10) (by omega),kI (u:=x / 10) (by omega),kI (u:=x % 10) (by omega)]
 have e1:(100+x) / 10 % 10=x / 10:=by omega
 have e2:(100+x) % 10=x % 10:=by omega
 rw [e1,e2];rfl
theorem aEt(n:Int){base:Nat}:FV Tp 38 [.p (aB n)] base (.tup [.p (aD (ptM n).1),.p (aB (ptM n).2)]) []:=by
 unfold ptM
 by_cases h:within n 0 360000=true
 ·rw [if_pos h]
  have hb:=dN.1 h;have h1:n.tdiv 10=n / 10:=Int.tdiv_eq_ediv_of_nonneg hb.1;have h2:n.tdiv 600=n / 600:=Int.tdiv_eq_ediv_of_nonneg hb.1;have h3:n.tmod 10=n % 10:=Int.tmod_eq_emod_of_nonneg hb.1;have h4:(n.tdiv 10).tmod 60=n.tdiv 10 % 60:=Int.tmod_eq_emod_of_nonneg (by omega)
  have h5:n.tdiv 100=n / 100:=Int.tdiv_eq_ediv_of_nonneg hb.1;have h6:(n.tdiv 100).tmod 6=n.tdiv 100 % 6:=Int.tmod_eq_emod_of_nonneg (by omega)
  have h7:(n.tdiv 10).tmod 10=n.tdiv 10 % 10:=Int.tmod_eq_emod_of_nonneg (by omega)
  have b1:0≤n.tdiv 600∧n.tdiv 600≤1000000:=by omega
  have b2:0≤n.tmod 10∧n.tmod 10≤1000000:=by omega
  have b3:0≤(n.tdiv 100).tmod 6∧(n.tdiv 100).tmod 6≤1000000:=by omega
  have b4:0≤(n.tdiv 10).tmod 10∧(n.tdiv 10).tmod 10≤1000000:=by omega
  have l1:=itl b1;have l2:=itl b2;have l3:=itl b3;have l4:=itl b4;have:=bOt (n:=n) (base:=base) hb.1 hb.2 (by show _∧_;omega) (by omega) (by simp;omega) (by show _∧_;omega) (by omega) (by simp;omega) (by show _∧_;omega) (by omega) (by simp;omega) (by simp;omega) (by omega) (by simp;omega)
  have e:(Lib.itoa (100+(n.tdiv 10).tmod 60)).drop 1=Lib.itoa ((n.tdiv 100).tmod 6)++Lib.itoa ((n.tdiv 10).tmod 10):=by
   obtain ⟨x,hx⟩:∃ x:Nat,(n.tdiv 10).tmod 60=(x:Int):=⟨((n.tdiv 10).tmod 60).toNat,by omega⟩
   have ex:100+(n.tdiv 10).tmod 60=((100+x:Nat):Int):=by omega
   have e6:(n.tdiv 100).tmod 6=((x / 10:Nat):Int):=by omega
   have e7:(n.tdiv 10).tmod 10=((x % 10:Nat):Int):=by omega
   rw [ex,e6,e7,Lib.itoa_nonneg,Lib.itoa_nonneg,Lib.itoa_nonneg];exact bIi (by omega)
  rw [e];simpa only [List.append_assoc] using this
 ·rw [if_neg h]
  have hb:¬ (0≤n∧n≤360000):=fun q=>h (dN.2 q)
  by_cases h0:n<0
  ·exact bOr h0
  ·exact bOs (by omega) (by omega)
def dS(s:List UInt8)(m:Int)(i:Nat)(n:Int):St:=⟨fr 50 [(0,(.p (aD s))),(1,(pI m)),(5,(pI n)),(6,(pI (i:Int)))],[]⟩
theorem bOu{s:List UInt8}(h0:(s.length:Int)=0):FV Tp 133 [(.p (aD s)),(pI m)] base (pI (-1)) []:=FV.fi func133 (rT 6) (F6 (dG h0) gn)
section
variable{s:List UInt8}{c0:UInt8}(h0:(s.length:Int)≠0)(h1:(1:Int)<(s.length:Int))(h2:s[0]? = some c0)
include h0 h1 h2
theorem bOv(h3:(c0.toNat:Int)=48):FV Tp 133 [(.p (aD s)),(pI m)] base (pI (-1)) []:=FV.fi func133 [bF,bF,bF,bF,bT,bT,.x (.v (.int .u8 (c0.toNat:Int))),bT,bF,bT,bF,bT] (gc (dG h3) (gc (bI h0) (gc (bX h1) (gc (bI h0) (gc (bX h1) (gt ((s[0]?).map (fun b:UInt8=>PV.v (.int .u8 (b.toNat:Int)))=some (.v (.int .u8 (c0.toNat:Int)))) (cH h2) (gt (0≤(0:Int)) (by decide) (A1 (bX h1) (Cm (bI h0) gn)))))))))
theorem bOw(h3:(c0.toNat:Int)≠48)(Dy:aF Tp 0 nV (dS s m 0 0) (.exit 0) (dS s m Kz H4)):FV Tp 133 [(.p (aD s)),(pI m)] base (pI H4) []:=FV.fi func133 [bF,bF,bF,bF,bT,bT,.x (.v (.int .u8 (c0.toNat:Int))),bT,bF,bT,bF,bF,Dy.k 6 (gZ bz)] (gc Dy.code (gc (bI h3) (gc (bI h0) (gc (bX h1) (gc (bI h0) (gc (bX h1) (gt ((s[0]?).map (fun b:UInt8=>PV.v (.int .u8 (b.toNat:Int)))=some (.v (.int .u8 (c0.toNat:Int)))) (cH h2) (gt (0≤(0:Int)) (by decide) (A1 (bX h1) (Cm (bI h0) gn))))))))))
theorem bOx(h3:(c0.toNat:Int)≠48)(Dy:aF Tp 0 nV (dS s m 0 0) .ret (cG (dS s m Kz H4) [(4,(pI (-1)))])):FV Tp 133 [(.p (aD s)),(pI m)] base (pI (-1)) []:=FV.fi func133 [bF,bF,bF,bF,bT,bT,.x (.v (.int .u8 (c0.toNat:Int))),bT,bF,bT,bF,bF,Dy.k 6 (gZ bz)] (gc Dy.code (gc (bI h3) (gc (bI h0) (gc (bX h1) (gc (bI h0) (gc (bX h1) (gt ((s[0]?).map (fun b:UInt8=>PV.v (.int .u8 (b.toNat:Int)))=some (.v (.int .u8 (c0.toNat:Int)))) (cH h2) (gt (0≤(0:Int)) (by decide) (A1 (bX h1) (Cm (bI h0) gn))))))))))
end
section
variable{s:List UInt8}(h0:(s.length:Int)≠0)(h1:(s.length:Int)≤1)
include h0 h1
theorem bOy(Bh:aF Tp 0 nV (dS s m 0 0) (.exit 0) (dS s m Aq Lz)):FV Tp 133 [(.p (aD s)),(pI m)] base (pI Lz) []:=FV.fi func133 (rF 10++[Bh.k 7 (gZ bz)]) (gc Bh.code (gc (bI h0) (gc (aO h1) (gc (bI h0) (Au (aO h1) (Cm (bI h0) gn))))))
theorem bOz(Bh:aF Tp 0 nV (dS s m 0 0) .ret (cG (dS s m Aq Lz) [(4,(pI (-1)))])):FV Tp 133 [(.p (aD s)),(pI m)] base (pI (-1)) []:=FV.fi func133 (rF 10++[Bh.k 7 (gZ bz)]) (gc Bh.code (gc (bI h0) (gc (aO h1) (gc (bI h0) (Au (aO h1) (Cm (bI h0) gn))))))
end
section
variable{s:List UInt8}{Ag:UInt8}(h0:(i:Int)<(s.length:Int))(h1:s[i]? = some Ag)
include h0 h1
theorem aCd(h2:(Ag.toNat:Int)<48):aA Tp 0 nV (dS s m i n) .ret (cG (dS s m i n) [(4,(pI (-1)))]):=aA.fi (gZ [2,2,7,42]) ([bT,.x (.v (.int .u8 (Ag.toNat:Int)))]++rT 5) (Cr (bX h2) (gt ((s[i]?).map (fun b:UInt8=>PV.v (.int .u8 (b.toNat:Int)))=some (.v (.int .u8 (Ag.toNat:Int)))) (cH h1) (gt (0≤(i:Int)) (Bl _) (g0 h0))))
theorem aTk(h2:(48:Int)≤(Ag.toNat:Int))(h3:(57:Int)<(Ag.toNat:Int)):aA Tp 0 nV (dS s m i n) .ret (cG (dS s m i n) [(4,(pI (-1)))]):=aA.fi (gZ [2,2,7,42]) [bT,.x (.v (.int .u8 (Ag.toNat:Int))),bF,bF,bF,.x (.v (.int .u8 (Ag.toNat:Int))),bF,bF,bT] (gc (bX h3) (A1 (aO h2) (gt ((s[i]?).map (fun b:UInt8=>PV.v (.int .u8 (b.toNat:Int)))=some (.v (.int .u8 (Ag.toNat:Int)))) (cH h1) (gt (0≤(i:Int)) (Bl _) (Au (aO h2) (gt ((s[i]?).map (fun b:UInt8=>PV.v (.int .u8 (b.toNat:Int)))=some (.v (.int .u8 (Ag.toNat:Int)))) (cH h1) (gt (0≤(i:Int)) (Bl _) (g0 h0))))))))
end
section
variable{s:List UInt8}{Ag:UInt8}(h0:(i:Int)<(s.length:Int))(h1:s[i]? = some Ag)(h2:(48:Int)≤(Ag.toNat:Int))(h3:(Ag.toNat:Int)≤57)(h4:inR ((10:Int)*n))(h5:inR (((10:Int)*n)+(Ag.toNat:Int)))(h6:inR ((((10:Int)*n)+(Ag.toNat:Int))-48))
include h0 h1 h2 h3 h4 h5 h6
theorem aTl(h7:m<((((10:Int)*n)+(Ag.toNat:Int))-48))(h8:inR (m+1))(h9:ce i)(Ai:i'=(i+1))(L3:n'=(m+1)):aA Tp 0 nV (dS s m i n) .normal (dS s m i' n'):=by
 subst Ai L3;exact aA.fi (gZ bz) [bT,.x (.v (.int .u8 (Ag.toNat:Int))),bF,bF,bF,.x (.v (.int .u8 (Ag.toNat:Int))),bF,bF,bF,.x (.v (.int .u8 (Ag.toNat:Int))),bT] (gc h9 (gc h8 (gc (bX h7) (gc h6 (gc h5 (gt (inR (Ag.toNat:Int)) (aDi _) (gt ((s[i]?).map (fun b:UInt8=>PV.v (.int .u8 (b.toNat:Int)))=some (.v (.int .u8 (Ag.toNat:Int)))) (cH h1) (gt (0≤(i:Int)) (Bl _) (gc h4 (gc (aO h3) (A1 (aO h2) (gt ((s[i]?).map (fun b:UInt8=>PV.v (.int .u8 (b.toNat:Int)))=some (.v (.int .u8 (Ag.toNat:Int)))) (cH h1) (gt (0≤(i:Int)) (Bl _) (Au (aO h2) (gt ((s[i]?).map (fun b:UInt8=>PV.v (.int .u8 (b.toNat:Int)))=some (.v (.int .u8 (Ag.toNat:Int)))) (cH h1) (gt (0≤(i:Int)) (Bl _) (g0 h0)))))))))))))))))
theorem aTm(h7:((((10:Int)*n)+(Ag.toNat:Int))-48)≤m)(h8:ce i)(Ai:i'=(i+1))(L3:n'=((((10:Int)*n)+(Ag.toNat:Int))-48)):aA Tp 0 nV (dS s m i n) .normal (dS s m i' n'):=by
 subst Ai L3;exact aA.fi (gZ bz) [bT,.x (.v (.int .u8 (Ag.toNat:Int))),bF,bF,bF,.x (.v (.int .u8 (Ag.toNat:Int))),bF,bF,bF,.x (.v (.int .u8 (Ag.toNat:Int))),bF] (gc h8 (gc (aO h7) (gc h6 (gc h5 (gt (inR (Ag.toNat:Int)) (aDi _) (gt ((s[i]?).map (fun b:UInt8=>PV.v (.int .u8 (b.toNat:Int)))=some (.v (.int .u8 (Ag.toNat:Int)))) (cH h1) (gt (0≤(i:Int)) (Bl _) (gc h4 (gc (aO h3) (A1 (aO h2) (gt ((s[i]?).map (fun b:UInt8=>PV.v (.int .u8 (b.toNat:Int)))=some (.v (.int .u8 (Ag.toNat:Int)))) (cH h1) (gt (0≤(i:Int)) (Bl _) (Au (aO h2) (gt ((s[i]?).map (fun b:UInt8=>PV.v (.int .u8 (b.toNat:Int)))=some (.v (.int .u8 (Ag.toNat:Int)))) (cH h1) (gt (0≤(i:Int)) (Bl _) (g0 h0))))))))))))))))
end
theorem aTn{s:List UInt8}(h0:(s.length:Int)≤(i:Int)):aA Tp 0 nV (dS s m i n) (.exit 0) (dS s m i n):=aA.fi (gZ bz) [bF] (gc (aO h0) gn)
def aId(m:Int)(l:List UInt8)(n:Int):Int:=l.foldl (fun n b=>if m<10*n+(b.toNat:Int)-48 then m+1 else 10*n+(b.toNat:Int)-48) n
def fY(s:List UInt8)(m:Int):Int:=if s=[]∨(1<s.length∧s[0]? = some 48)∨s.all isd=false then -1 else aId m s 0
theorem bCj{c:UInt8}(h:isd c=false):c.toNat<48∨57<c.toNat:=by
 by_cases q:c.toNat<48
 ·exact .inl q
 ·refine .inr ?_
  by_cases q2:57<c.toNat
  ·exact q2
  ·exfalso
   have:isd c=true:=by simp only [isd,B5,decide_eq_true_eq];omega
   rw [this] at h;cases h
theorem aIe(s:List UInt8)(m:Int)(hl:s.length≤100000)(hm:0≤m∧m≤1000000):∀ (r:List UInt8) (i:Nat) (n:Int),s.drop i=r→i≤s.length→0≤n→n≤m+1 →
  (r.all isd=true∧0≤aId m r n∧aId m r n≤m+1∧aF Tp 0 nV (dS s m i n) (.exit 0) (dS s m s.length (aId m r n))) ∨
  (r.all isd=false∧∃ i' n',aF Tp 0 nV (dS s m i n) .ret (cG (dS s m i' n') [(4,(pI (-1)))]))
 | [],i,n,hd,hi,h0,h1=>by
  have:i=s.length:=by have:=congrArg List.length hd;simp at this;omega
  subst this;exact .inl ⟨rfl,h0,h1,.exit (aTn (by omega)) (by simp)⟩
 | c::r,i,n,hd,hi,h0,h1=>by
  have hx:s[i]? = some c:=by
   have:=congrArg List.head? hd;rw [List.head?_drop] at this
   simpa using this
  have hlt:=bH hx;have E6:s.drop (i+1)=r:=by
   have:=congrArg List.tail hd;rw [List.tail_drop] at this
   simpa using this
  have hc:=aOa c
  by_cases Dm:isd c=true
  ·have hcb:=dX Dm
   have key:∀ n',(n'=if m<10*n+(c.toNat:Int)-48 then m+1 else 10*n+(c.toNat:Int)-48)→(0≤n'∧n'≤m+1)∧aA Tp 0 nV (dS s m i n) .normal (dS s m (i+1) n'):=by
    intro n' e;subst e
    by_cases hq:m<10*n+(c.toNat:Int)-48
    ·rw [if_pos hq]
     exact ⟨by omega,aTl (by omega) hx (by omega) (by omega) (by show _∧_;omega) (by show _∧_;omega) (by show _∧_;omega) hq (by show _∧_;omega) (aW (by omega)) rfl rfl⟩
    ·rw [if_neg hq]
     exact ⟨by omega,aTm (by omega) hx (by omega) (by omega) (by show _∧_;omega) (by show _∧_;omega) (by show _∧_;omega) (by omega) (aW (by omega)) rfl rfl⟩
   obtain ⟨hb,hstep⟩:=key _ rfl
   rcases aIe s m hl hm r (i+1) _ E6 (by omega) hb.1 hb.2 with ⟨a,b1,b2,b3⟩ | ⟨a,i',n',b3⟩
   ·exact .inl ⟨by simp [Dm,a],b1,b2,.step hstep b3⟩
   ·exact .inr ⟨by simp [a],i',n',.step hstep b3⟩
  ·have Dm:isd c=false:=by simpa using Dm
   refine .inr ⟨by simp [Dm],i,n,?_⟩
   rcases bCj Dm with q | q
   ·exact .exit (aCd (by omega) hx (by omega)) (by simp)
   ·by_cases q2:c.toNat<48
    ·exact .exit (aCd (by omega) hx (by omega)) (by simp)
    ·exact .exit (aTk (by omega) hx (by omega) (by omega)) (by simp)
theorem zB(s:List UInt8)(m:Int)(hl:s.length≤100000)(hm:0≤m∧m≤1000000){base:Nat}:FV Tp 133 [.p (aD s),.p (aB m)] base (pI (fY s m)) []:=by
 have L:=aIe s m hl hm s 0 0 rfl (by omega) (by omega) (by omega)
 unfold fY
 by_cases h0:s.length=0
 ·have:s=[]:=sY h0
  rw [if_pos (.inl this)];exact bOu (by omega)
 ·have hne:s≠[]:=fun q=>h0 (by rw [q];rfl)
  by_cases h1:1<s.length
  ·obtain ⟨c,hc⟩:∃ c,s[0]? = some c:=⟨s[0],Ca (by omega)⟩
   by_cases K0:(c.toNat:Int)=48
   ·have:c=48:=UInt8.toNat_inj.1 (by simp;omega)
    rw [if_pos (.inr (.inl ⟨h1,by rw [hc,this]⟩))]
    exact bOv (by omega) (by omega) hc K0
   ·have hn:¬ s[0]? = some 48:=fun q=>by rw [hc] at q;cases q;exact K0 rfl
    rcases L with ⟨a,_,_,b⟩ | ⟨a,i',n',b⟩
    ·rw [if_neg (by simp [hne,hn,a])]
     exact bOw (by omega) (by omega) hc K0 b
    ·rw [if_pos (.inr (.inr a))]
     exact bOx (by omega) (by omega) hc K0 b
  ·rcases L with ⟨a,_,_,b⟩ | ⟨a,i',n',b⟩
   ·rw [if_neg (by simp [hne,h1,a])]
    exact bOy (by omega) (by omega) b
   ·rw [if_pos (.inr (.inr a))]
    exact bOz (by omega) (by omega) b
def lG(s:List UInt8)(i:Nat)(o:Int):St:=⟨fr 24 [(0,(.p (aD s))),(2,(pI 0)),(3,(pI 0)),(4,(pI o)),(5,(pI (i:Int)))],[]⟩
theorem bIj{s:List UInt8}(h0:(65536:Int)<(s.length:Int)):FV Tp 41 [(.p (aD s))] base (.tup [(pI 0),(pI 10)]) []:=FV.fi func41 [bT] (g0 h0)
theorem bIk{s:List UInt8}{Al:Int}(h0:(s.length:Int)≤65536)(Ao:aF Tp 0 aPg (lG s 0 0) (.exit 0) (lG s Aq Al)):FV Tp 41 [(.p (aD s))] base (.tup [(pI Al),(pI 0)]) []:=FV.fi func41 [bF,Ao.k 6 (gZ [1,1,6,17])] (gc Ao.code (gc (aO h0) gn))
theorem aLw{s:List UInt8}{Ag:UInt8}{o':Int}(h0:(i:Int)<(s.length:Int))(h1:inR ((31:Int)*o))(h2:s[i]? = some Ag)(h3:inR (((31:Int)*o)+(Ag.toNat:Int)))(h4:ce i)(Ai:i'=(i+1))(Jy:o'=((((31:Int)*o)+(Ag.toNat:Int)).tmod 65521)):aA Tp 0 aPg (lG s i o) .normal (lG s i' o'):=by
 subst Ai Jy;exact aA.fi (gZ [1,1,6,17]) [bT,.x (.v (.int .u8 (Ag.toNat:Int)))] (gc h4 (gt ((65521:Int)≠0) (by first | decide | simp) (gc h3 (gt (inR (Ag.toNat:Int)) (aDi _) (gt ((s[i]?).map (fun b:UInt8=>PV.v (.int .u8 (b.toNat:Int)))=some (.v (.int .u8 (Ag.toNat:Int)))) (cH h2) (gt (0≤(i:Int)) (Bl _) (gc h1 (g0 h0))))))))
theorem aLx{s:List UInt8}(h0:(s.length:Int)≤(i:Int)):aA Tp 0 aPg (lG s i o) (.exit 0) (lG s i o):=aA.fi (gZ [1,1,6,17]) [bF] (gc (aO h0) gn)
theorem bIl{s:List UInt8}(h:s.length≤65536){base:Nat}:FV Tp 41 [.p (aD s)] base (.tup [.p (aB (bM s)),.p (aB 0)]) []:=by
 have:=aF.range (P:=Tp) (k:=0) (b:=aPg) (e := .exit 0) (fun i (o:Int)=>lG s i o) (fun o=>lG s s.length o) (fun o b=>(31*o+(b.toNat:Int)).tmod 65521) (fun _ o=>0≤o∧o<65521) (by simp) s (a0:=0) (by omega)
  (fun i b o hx ho=>by
   have hi:=bH hx;have hb:=aOa b;exact ⟨zC b ho,aLw (by omega) (by show _∧_;omega) hx (by show _∧_;omega) (aW (by omega)) rfl rfl⟩)
  (fun o _=>aLx (by omega))
 exact bIk (by omega) this
theorem bCk{s:List UInt8}(h:65536<s.length){base:Nat}:FV Tp 41 [.p (aD s)] base (.tup [.p (aB 0),.p (aB 10)]) []:=bIj (by omega)
def dD(s:List UInt8)(i:Nat):St:=⟨fr 89 [(0,(.p (aD s))),(4,(pI ((s.length:Int)-5))),(5,(pI (fY (s.take (((s.length:Int)-5).toNat)) 1000))),(6,(pI (i:Int)))],[]⟩
theorem bPa{s:List UInt8}(h0:inR ((s.length:Int)-5))(h1:((s.length:Int)-5)<1):FV Tp 40 [(.p (aD s))] base (.tup [(pI 0),(pI 11)]) []:=FV.fi func40 (rT 5) (Cr (bX h1) (gc h0 gn))
section
variable{s:List UInt8}{c0:UInt8}(h0:inR ((s.length:Int)-5))(h1:(1:Int)≤((s.length:Int)-5))(h2:0≤((s.length:Int)-5))(h3:s[((s.length:Int)-5).toNat]? = some c0)
include h0 h1 h2 h3
theorem bPb(h4:(c0.toNat:Int)≠58):FV Tp 40 [(.p (aD s))] base (.tup [(pI 0),(pI 11)]) []:=FV.fi func40 ([bF,bF,bF,.x (.v (.int .u8 (c0.toNat:Int))),bF,bF]++rT 6) (F6 (dE h4) (A1 (aO h1) (gt ((s[((s.length:Int)-5).toNat]?).map (fun b:UInt8=>PV.v (.int .u8 (b.toNat:Int)))=some (.v (.int .u8 (c0.toNat:Int)))) (cH h3) (gc h2 (Au (aO h1) (gc h0 gn))))))
theorem bPc{c1:UInt8}(h4:(c0.toNat:Int)=58)(h5:inR (((s.length:Int)-5)+3))(h6:0≤(((s.length:Int)-5)+3))(h7:s[(((s.length:Int)-5)+3).toNat]? = some c1)(h8:(c1.toNat:Int)≠46):FV Tp 40 [(.p (aD s))] base (.tup [(pI 0),(pI 11)]) []:=FV.fi func40 ([bF,bF,bF,.x (.v (.int .u8 (c0.toNat:Int)))]++rF 6++[.x (.v (.int .u8 (c1.toNat:Int))),bF,bF,bT]) (gc (dE h8) (A1 (bB h4) (gt ((s[(((s.length:Int)-5)+3).toNat]?).map (fun b:UInt8=>PV.v (.int .u8 (b.toNat:Int)))=some (.v (.int .u8 (c1.toNat:Int)))) (cH h7) (gc h6 (gc (bB h4) (gc h5 (Au (bB h4) (A1 (aO h1) (gt ((s[((s.length:Int)-5).toNat]?).map (fun b:UInt8=>PV.v (.int .u8 (b.toNat:Int)))=some (.v (.int .u8 (c0.toNat:Int)))) (cH h3) (gc h2 (Au (aO h1) (gc h0 gn))))))))))))
end
section
variable{s:List UInt8}{c0 c1:UInt8}(h0:inR ((s.length:Int)-5))(h1:(1:Int)≤((s.length:Int)-5))(h2:0≤((s.length:Int)-5))(h3:s[((s.length:Int)-5).toNat]? = some c0)(h4:(c0.toNat:Int)=58)(h5:inR (((s.length:Int)-5)+3))(h6:0≤(((s.length:Int)-5)+3))(h7:s[(((s.length:Int)-5)+3).toNat]? = some c1)(h8:(c1.toNat:Int)=46)(h9:0≤(0:Int)∧(0:Int)≤((s.length:Int)-5)∧((s.length:Int)-5)≤(s.length:Int))(A5:(s.take (((s.length:Int)-5).toNat)).length≤100000)(Cg:0≤(1000:Int)∧(1000:Int)≤1000000)(Da:aF Tp 0 qQ (dD s 1) (.exit 0) (dD s Jw))
include h0 h1 h2 h3 h4 h5 h6 h7 h8 h9 A5 Cg Da
theorem bPd(B3:(fY (s.take (((s.length:Int)-5).toNat)) 1000)<0):FV Tp 40 [(.p (aD s))] base (.tup [(pI 0),(pI 11)]) []:=have k1:=fk 0 (zB (s.take (((s.length:Int)-5).toNat)) 1000 A5 Cg) rfl;FV.fi func40 ([bF,bF,bF,.x (.v (.int .u8 (c0.toNat:Int)))]++rF 6++[.x (.v (.int .u8 (c1.toNat:Int))),bF,bF,bF,k1.o,Da.k 4 (gZ c6)]++rT 6) (F6 (bX B3) (gc Da.code (gc k1 (gc h9 (gc (bB h8) (A1 (bB h4) (gt ((s[(((s.length:Int)-5)+3).toNat]?).map (fun b:UInt8=>PV.v (.int .u8 (b.toNat:Int)))=some (.v (.int .u8 (c1.toNat:Int)))) (cH h7) (gc h6 (gc (bB h4) (gc h5 (Au (bB h4) (A1 (aO h1) (gt ((s[((s.length:Int)-5).toNat]?).map (fun b:UInt8=>PV.v (.int .u8 (b.toNat:Int)))=some (.v (.int .u8 (c0.toNat:Int)))) (cH h3) (gc h2 (Au (aO h1) (gc h0 gn))))))))))))))))
theorem bPe{c3:UInt8}(B3:(0:Int)≤(fY (s.take (((s.length:Int)-5).toNat)) 1000))(Dh:inR (((s.length:Int)-5)+1))(Dz:0≤(((s.length:Int)-5)+1))(E7:s[(((s.length:Int)-5)+1).toNat]? = some c3)(Fb:(53:Int)<(c3.toNat:Int)):FV Tp 40 [(.p (aD s))] base (.tup [(pI 0),(pI 11)]) []:=have k1:=fk 0 (zB (s.take (((s.length:Int)-5).toNat)) 1000 A5 Cg) rfl;FV.fi func40 ([bF,bF,bF,.x (.v (.int .u8 (c0.toNat:Int)))]++rF 6++[.x (.v (.int .u8 (c1.toNat:Int))),bF,bF,bF,k1.o,Da.k 4 (gZ c6),bF,bF,bF,bF,.x (.v (.int .u8 (c3.toNat:Int))),bF,bF,bT]) (gc (bX Fb) (A1 (aO B3) (gt ((s[(((s.length:Int)-5)+1).toNat]?).map (fun b:UInt8=>PV.v (.int .u8 (b.toNat:Int)))=some (.v (.int .u8 (c3.toNat:Int)))) (cH E7) (gc Dz (gc (aO B3) (gc Dh (Au (aO B3) (gc Da.code (gc k1 (gc h9 (gc (bB h8) (A1 (bB h4) (gt ((s[(((s.length:Int)-5)+3).toNat]?).map (fun b:UInt8=>PV.v (.int .u8 (b.toNat:Int)))=some (.v (.int .u8 (c1.toNat:Int)))) (cH h7) (gc h6 (gc (bB h4) (gc h5 (Au (bB h4) (A1 (aO h1) (gt ((s[((s.length:Int)-5).toNat]?).map (fun b:UInt8=>PV.v (.int .u8 (b.toNat:Int)))=some (.v (.int .u8 (c0.toNat:Int)))) (cH h3) (gc h2 (Au (aO h1) (gc h0 gn))))))))))))))))))))))
end
section
variable{s:List UInt8}{c0 c1 c3 c4 c5:UInt8}(h0:inR ((s.length:Int)-5))(h1:(1:Int)≤((s.length:Int)-5))(h2:0≤((s.length:Int)-5))(h3:s[((s.length:Int)-5).toNat]? = some c0)(h4:(c0.toNat:Int)=58)(h5:inR (((s.length:Int)-5)+3))(h6:0≤(((s.length:Int)-5)+3))(h7:s[(((s.length:Int)-5)+3).toNat]? = some c1)(h8:(c1.toNat:Int)=46)(h9:0≤(0:Int)∧(0:Int)≤((s.length:Int)-5)∧((s.length:Int)-5)≤(s.length:Int))(A5:(s.take (((s.length:Int)-5).toNat)).length≤100000)(Cg:0≤(1000:Int)∧(1000:Int)≤1000000)(Da:aF Tp 0 qQ (dD s 1) (.exit 0) (dD s Jw))(B3:(0:Int)≤(fY (s.take (((s.length:Int)-5).toNat)) 1000))(Dh:inR (((s.length:Int)-5)+1))(Dz:0≤(((s.length:Int)-5)+1))(E7:s[(((s.length:Int)-5)+1).toNat]? = some c3)(Fb:(c3.toNat:Int)≤53)(Hl:inR ((fY (s.take (((s.length:Int)-5).toNat)) 1000)*600))(Jz:inR (IntKind.wrap .u8 ((c3.toNat:Int)-48)))(J0:inR ((IntKind.wrap .u8 ((c3.toNat:Int)-48))*100))(L4:inR (((fY (s.take (((s.length:Int)-5).toNat)) 1000)*600)+((IntKind.wrap .u8 ((c3.toNat:Int)-48))*100)))(L5:inR (((s.length:Int)-5)+2))(L6:0≤(((s.length:Int)-5)+2))(L8:s[(((s.length:Int)-5)+2).toNat]? = some c4)(L9:inR (IntKind.wrap .u8 ((c4.toNat:Int)-48)))(Ma:inR ((IntKind.wrap .u8 ((c4.toNat:Int)-48))*10))(Mb:inR ((((fY (s.take (((s.length:Int)-5).toNat)) 1000)*600)+((IntKind.wrap .u8 ((c3.toNat:Int)-48))*100))+((IntKind.wrap .u8 ((c4.toNat:Int)-48))*10)))(Mc:inR (((s.length:Int)-5)+4))(Me:0≤(((s.length:Int)-5)+4))(Mf:s[(((s.length:Int)-5)+4).toNat]? = some c5)(Mg:inR (IntKind.wrap .u8 ((c5.toNat:Int)-48)))(Mh:inR (((((fY (s.take (((s.length:Int)-5).toNat)) 1000)*600)+((IntKind.wrap .u8 ((c3.toNat:Int)-48))*100))+((IntKind.wrap .u8 ((c4.toNat:Int)-48))*10))+(IntKind.wrap .u8 ((c5.toNat:Int)-48))))
include h0 h1 h2 h3 h4 h5 h6 h7 h8 h9 A5 Cg Da B3 Dh Dz E7 Fb Hl Jz J0 L4 L5 L6 L8 L9 Ma Mb Mc Me Mf Mg Mh
theorem bPf(Mi:(360000:Int)<(((((fY (s.take (((s.length:Int)-5).toNat)) 1000)*600)+((IntKind.wrap .u8 ((c3.toNat:Int)-48))*100))+((IntKind.wrap .u8 ((c4.toNat:Int)-48))*10))+(IntKind.wrap .u8 ((c5.toNat:Int)-48)))):FV Tp 40 [(.p (aD s))] base (.tup [(pI 0),(pI 3)]) []:=have k1:=fk 0 (zB (s.take (((s.length:Int)-5).toNat)) 1000 A5 Cg) rfl;FV.fi func40 ([bF,bF,bF,.x (.v (.int .u8 (c0.toNat:Int)))]++rF 6++[.x (.v (.int .u8 (c1.toNat:Int))),bF,bF,bF,k1.o,Da.k 4 (gZ c6),bF,bF,bF,bF,.x (.v (.int .u8 (c3.toNat:Int))),bF,bF,bF,.x (.v (.int .u8 (c3.toNat:Int))),.x (.v (.int .u8 (c4.toNat:Int))),.x (.v (.int .u8 (c5.toNat:Int))),bT]) (gc (bX Mi) (gc Mh (gc Mg (gt ((s[(((s.length:Int)-5)+4).toNat]?).map (fun b:UInt8=>PV.v (.int .u8 (b.toNat:Int)))=some (.v (.int .u8 (c5.toNat:Int)))) (cH Mf) (gc Me (gc Mc (gc Mb (gc Ma (gc L9 (gt ((s[(((s.length:Int)-5)+2).toNat]?).map (fun b:UInt8=>PV.v (.int .u8 (b.toNat:Int)))=some (.v (.int .u8 (c4.toNat:Int)))) (cH L8) (gc L6 (gc L5 (gc L4 (gc J0 (gc Jz (gt ((s[(((s.length:Int)-5)+1).toNat]?).map (fun b:UInt8=>PV.v (.int .u8 (b.toNat:Int)))=some (.v (.int .u8 (c3.toNat:Int)))) (cH E7) (gc Dz (gc Dh (gc Hl (gc (aO Fb) (A1 (aO B3) (gt ((s[(((s.length:Int)-5)+1).toNat]?).map (fun b:UInt8=>PV.v (.int .u8 (b.toNat:Int)))=some (.v (.int .u8 (c3.toNat:Int)))) (cH E7) (gc Dz (gc (aO B3) (gc Dh (Au (aO B3) (gc Da.code (gc k1 (gc h9 (gc (bB h8) (A1 (bB h4) (gt ((s[(((s.length:Int)-5)+3).toNat]?).map (fun b:UInt8=>PV.v (.int .u8 (b.toNat:Int)))=some (.v (.int .u8 (c1.toNat:Int)))) (cH h7) (gc h6 (gc (bB h4) (gc h5 (Au (bB h4) (A1 (aO h1) (gt ((s[((s.length:Int)-5).toNat]?).map (fun b:UInt8=>PV.v (.int .u8 (b.toNat:Int)))=some (.v (.int .u8 (c0.toNat:Int)))) (cH h3) (gc h2 (Au (aO h1) (gc h0 gn)))))))))))))))))))))))))))))))))))))))))
theorem bPg{r0:Int}(Mi:(((((fY (s.take (((s.length:Int)-5).toNat)) 1000)*600)+((IntKind.wrap .u8 ((c3.toNat:Int)-48))*100))+((IntKind.wrap .u8 ((c4.toNat:Int)-48))*10))+(IntKind.wrap .u8 ((c5.toNat:Int)-48)))≤360000)(Am:r0=(((((fY (s.take (((s.length:Int)-5).toNat)) 1000)*600)+((IntKind.wrap .u8 ((c3.toNat:Int)-48))*100))+((IntKind.wrap .u8 ((c4.toNat:Int)-48))*10))+(IntKind.wrap .u8 ((c5.toNat:Int)-48)))):FV Tp 40 [(.p (aD s))] base (.tup [(pI r0),(pI 0)]) []:=by
 subst Am;have k1:=fk 0 (zB (s.take (((s.length:Int)-5).toNat)) 1000 A5 Cg) rfl;exact FV.fi func40 ([bF,bF,bF,.x (.v (.int .u8 (c0.toNat:Int)))]++rF 6++[.x (.v (.int .u8 (c1.toNat:Int))),bF,bF,bF,k1.o,Da.k 4 (gZ c6),bF,bF,bF,bF,.x (.v (.int .u8 (c3.toNat:Int))),bF,bF,bF,.x (.v (.int .u8 (c3.toNat:Int))),.x (.v (.int .u8 (c4.toNat:Int))),.x (.v (.int .u8 (c5.toNat:Int))),bF]) (gc (aO Mi) (gc Mh (gc Mg (gt ((s[(((s.length:Int)-5)+4).toNat]?).map (fun b:UInt8=>PV.v (.int .u8 (b.toNat:Int)))=some (.v (.int .u8 (c5.toNat:Int)))) (cH Mf) (gc Me (gc Mc (gc Mb (gc Ma (gc L9 (gt ((s[(((s.length:Int)-5)+2).toNat]?).map (fun b:UInt8=>PV.v (.int .u8 (b.toNat:Int)))=some (.v (.int .u8 (c4.toNat:Int)))) (cH L8) (gc L6 (gc L5 (gc L4 (gc J0 (gc Jz (gt ((s[(((s.length:Int)-5)+1).toNat]?).map (fun b:UInt8=>PV.v (.int .u8 (b.toNat:Int)))=some (.v (.int .u8 (c3.toNat:Int)))) (cH E7) (gc Dz (gc Dh (gc Hl (gc (aO Fb) (A1 (aO B3) (gt ((s[(((s.length:Int)-5)+1).toNat]?).map (fun b:UInt8=>PV.v (.int .u8 (b.toNat:Int)))=some (.v (.int .u8 (c3.toNat:Int)))) (cH E7) (gc Dz (gc (aO B3) (gc Dh (Au (aO B3) (gc Da.code (gc k1 (gc h9 (gc (bB h8) (A1 (bB h4) (gt ((s[(((s.length:Int)-5)+3).toNat]?).map (fun b:UInt8=>PV.v (.int .u8 (b.toNat:Int)))=some (.v (.int .u8 (c1.toNat:Int)))) (cH h7) (gc h6 (gc (bB h4) (gc h5 (Au (bB h4) (A1 (aO h1) (gt ((s[((s.length:Int)-5).toNat]?).map (fun b:UInt8=>PV.v (.int .u8 (b.toNat:Int)))=some (.v (.int .u8 (c0.toNat:Int)))) (cH h3) (gc h2 (Au (aO h1) (gc h0 gn)))))))))))))))))))))))))))))))))))))))))
end
theorem bPh{s:List UInt8}{c0 c1:UInt8}(h0:inR ((s.length:Int)-5))(h1:(1:Int)≤((s.length:Int)-5))(h2:0≤((s.length:Int)-5))(h3:s[((s.length:Int)-5).toNat]? = some c0)(h4:(c0.toNat:Int)=58)(h5:inR (((s.length:Int)-5)+3))(h6:0≤(((s.length:Int)-5)+3))(h7:s[(((s.length:Int)-5)+3).toNat]? = some c1)(h8:(c1.toNat:Int)=46)(h9:0≤(0:Int)∧(0:Int)≤((s.length:Int)-5)∧((s.length:Int)-5)≤(s.length:Int))(A5:(s.take (((s.length:Int)-5).toNat)).length≤100000)(Cg:0≤(1000:Int)∧(1000:Int)≤1000000)(Da:aF Tp 0 qQ (dD s 1) .ret (cG (dD s Jw) [(2,(pI 0)),(3,(pI 11))])):FV Tp 40 [(.p (aD s))] base (.tup [(pI 0),(pI 11)]) []:=have k1:=fk 0 (zB (s.take (((s.length:Int)-5).toNat)) 1000 A5 Cg) rfl;FV.fi func40 ([bF,bF,bF,.x (.v (.int .u8 (c0.toNat:Int)))]++rF 6++[.x (.v (.int .u8 (c1.toNat:Int))),bF,bF,bF,k1.o,Da.k 4 (gZ c6)]) (gc Da.code (gc k1 (gc h9 (gc (bB h8) (A1 (bB h4) (gt ((s[(((s.length:Int)-5)+3).toNat]?).map (fun b:UInt8=>PV.v (.int .u8 (b.toNat:Int)))=some (.v (.int .u8 (c1.toNat:Int)))) (cH h7) (gc h6 (gc (bB h4) (gc h5 (Au (bB h4) (A1 (aO h1) (gt ((s[((s.length:Int)-5).toNat]?).map (fun b:UInt8=>PV.v (.int .u8 (b.toNat:Int)))=some (.v (.int .u8 (c0.toNat:Int)))) (cH h3) (gc h2 (Au (aO h1) (gc h0 gn)))))))))))))))
section
variable{s:List UInt8}{Ag:UInt8}(h0:(i:Int)≤4)(h1:(i:Int)≠3)(h2:inR (((s.length:Int)-5)+(i:Int)))(h3:0≤(((s.length:Int)-5)+(i:Int)))(h4:s[(((s.length:Int)-5)+(i:Int)).toNat]? = some Ag)
include h0 h1 h2 h3 h4
theorem aTo(h5:(Ag.toNat:Int)<48):aA Tp 0 qQ (dD s i) .ret (cG (dD s i) [(2,(pI 0)),(3,(pI 11))]):=aA.fi (gZ [1,1,8,44]) (rT 6++[.x (.v (.int .u8 (Ag.toNat:Int)))]++rT 11) (gc (dE h1) (gc (bX h5) (gc (dE h1) (F6 (bX h5) (A1 (dE h1) (gt ((s[(((s.length:Int)-5)+(i:Int)).toNat]?).map (fun b:UInt8=>PV.v (.int .u8 (b.toNat:Int)))=some (.v (.int .u8 (Ag.toNat:Int)))) (cH h4) (gc h3 (gc (dE h1) (gc h2 (Cm (dE h1) (gc (kT h0) gn)))))))))))
theorem aTp(h5:(48:Int)≤(Ag.toNat:Int))(h6:(57:Int)<(Ag.toNat:Int)):aA Tp 0 qQ (dD s i) .ret (cG (dD s i) [(2,(pI 0)),(3,(pI 11))]):=aA.fi (gZ [1,1,8,44]) (rT 6++[.x (.v (.int .u8 (Ag.toNat:Int))),bT,bT]++rF 5++[.x (.v (.int .u8 (Ag.toNat:Int))),bF,bT,bF,bT,bT]) (gc (bX h6) (gc (dE h1) (gc (aO h5) (gc (dE h1) (gc (aO h5) (gt ((s[(((s.length:Int)-5)+(i:Int)).toNat]?).map (fun b:UInt8=>PV.v (.int .u8 (b.toNat:Int)))=some (.v (.int .u8 (Ag.toNat:Int)))) (cH h4) (gc h3 (gc (aO h5) (gc h2 (Cm (aO h5) (A1 (dE h1) (gt ((s[(((s.length:Int)-5)+(i:Int)).toNat]?).map (fun b:UInt8=>PV.v (.int .u8 (b.toNat:Int)))=some (.v (.int .u8 (Ag.toNat:Int)))) (cH h4) (gc h3 (gc (dE h1) (gc h2 (Cm (dE h1) (gc (kT h0) gn)))))))))))))))))
theorem aTq(h5:(48:Int)≤(Ag.toNat:Int))(h6:(Ag.toNat:Int)≤57)(h7:ce i)(Ai:i'=(i+1)):aA Tp 0 qQ (dD s i) .normal (dD s i'):=by
 subst Ai;exact aA.fi (gZ c6) (rT 6++[.x (.v (.int .u8 (Ag.toNat:Int))),bT,bT]++rF 5++[.x (.v (.int .u8 (Ag.toNat:Int))),bF,bT,bF,bT,bF]) (gc h7 (gc (aO h6) (gc (dE h1) (gc (aO h5) (gc (dE h1) (gc (aO h5) (gt ((s[(((s.length:Int)-5)+(i:Int)).toNat]?).map (fun b:UInt8=>PV.v (.int .u8 (b.toNat:Int)))=some (.v (.int .u8 (Ag.toNat:Int)))) (cH h4) (gc h3 (gc (aO h5) (gc h2 (Cm (aO h5) (A1 (dE h1) (gt ((s[(((s.length:Int)-5)+(i:Int)).toNat]?).map (fun b:UInt8=>PV.v (.int .u8 (b.toNat:Int)))=some (.v (.int .u8 (Ag.toNat:Int)))) (cH h4) (gc h3 (gc (dE h1) (gc h2 (Cm (dE h1) (gc (kT h0) gn))))))))))))))))))
end
theorem aTr{s:List UInt8}(h0:(i:Int)≤4)(h1:(i:Int)=3)(h2:ce i)(Ai:i'=(i+1)):aA Tp 0 qQ (dD s i) .normal (dD s i'):=by
 subst Ai;exact aA.fi (gZ c6) ([bT]++rF 9) (gc h2 (Hw (bB h1) (gc (bB h1) (gc (kT h0) gn))))
theorem aTs{s:List UInt8}(h0:(4:Int)<(i:Int)):aA Tp 0 qQ (dD s i) (.exit 0) (dD s i):=aA.fi (gZ c6) [bF] (gc (fA h0) gn)
end
section

theorem Jh{p l:List UInt8}(hl:l.length=5)(j:Nat){k:Int}(hk:k=((p++l).length:Int)-5+j):(p++l)[k.toNat]? = l[j]? := by
 have:k.toNat=p.length+j:=by rw [gM,hl] at hk;omega
 rw [this,aLs (by omega)]
 congr 1;omega
def dv(c:UInt8):Int:=(c.toNat:Int)-48
def Eo(p:List UInt8)(a b c d e:UInt8):Int × Int :=
 if a=58∧d=46∧isd b=true∧isd c=true∧isd e=true∧0≤fY p 1000∧b.toNat≤53 then
  if 360000<fY p 1000*600+dv b*100+dv c*10+dv e then (0,3) else (fY p 1000*600+dv b*100+dv c*10+dv e,0)
 else (0,11)
theorem aPf(m:Int)(hm:0≤m):∀ (l:List UInt8) (n:Int),l.all isd=true→0≤n→n≤m+1→0≤aId m l n∧aId m l n≤m+1
 | [],n,_,h0,h1=>⟨h0,h1⟩
 | b::l,n,ha,h0,h1=>by
  simp only [List.all_cons,B5] at ha
  have:=dX ha.1;refine aPf m hm l _ ha.2 ?_ ?_ <;> dsimp only <;> split <;> omega
theorem bHx(p:List UInt8)(m:Int)(hm:0≤m) : -1≤fY p m∧fY p m≤m+1:=by
 unfold fY
 split
 ·omega
 ·rename_i q
  have ha:p.all isd=true:=by
   cases h:p.all isd
   ·exact absurd (.inr (.inr h)) q
   ·rfl
  have:=aPf m hm p 0 ha (by omega) (by omega)
  omega
theorem zA{p l:List UInt8}(hp:p.length≤100000)(hl:l.length=5){i:Nat}{c:UInt8}(hi:i≤4)(h3:i≠3)(hc:l[i]? = some c) :
  (isd c=true∧aA Tp 0 (sub (cd Tryz.f40) b9) (dD (p++l) i) .normal (dD (p++l) (i+1)))∨(isd c=false∧aF Tp 0 (sub (cd Tryz.f40) b9) (dD (p++l) i) .ret (cG (dD (p++l) i) [(2,(.p (aB 0))),(3,(.p (aB 11)))])):=by
 have hq:=Jh (p:=p) hl i (k:=(((p++l).length:Int)-(5:Int))+(i:Int)) rfl;rw [hc] at hq
 have e:((p++l).length:Int)=(p.length:Int)+5:=by rw [gM,hl];omega
 have g1:inR ((((p++l).length:Int)-(5:Int))+(i:Int)):=by rw [e];unfold inR;omega
 have g2:0≤(((p++l).length:Int)-(5:Int))+(i:Int):=by rw [e];omega
 by_cases hd:isd c=true
 ·have:=dX hd
  exact .inl ⟨hd,aTq (by omega) (by omega) g1 g2 hq (by omega) (by omega) (aW (by omega)) rfl⟩
 ·have hd:isd c=false:=by simpa using hd
  refine .inr ⟨hd,?_⟩
  by_cases q:c.toNat<48
  ·exact .exit (aTo (by omega) (by omega) g1 g2 hq (by omega)) (by simp)
  ·rcases bCj hd with q2 | q2
   ·exact absurd q2 q
   ·exact .exit (aTp (by omega) (by omega) g1 g2 hq (by omega) (by omega)) (by simp)
theorem bCh{p:List UInt8}(hp:p.length≤100000)(a b c d e:UInt8) :
  ((isd b=true∧isd c=true∧isd e=true)∧aF Tp 0 (sub (cd Tryz.f40) b9) (dD (p++[a,b,c,d,e]) 1) (.exit 0) (dD (p++[a,b,c,d,e]) 5)) ∨
  (¬ (isd b=true∧isd c=true∧isd e=true)∧∃ i',aF Tp 0 (sub (cd Tryz.f40) b9) (dD (p++[a,b,c,d,e]) 1) .ret (cG (dD (p++[a,b,c,d,e]) i') [(2,(.p (aB 0))),(3,(.p (aB 11)))])):=by
 rcases zA (l:=[a,b,c,d,e]) hp rfl (i:=1) (c:=b) (by omega) (by omega) rfl with ⟨h1,s1⟩ | ⟨h1,s1⟩
 ·rcases zA (l:=[a,b,c,d,e]) hp rfl (i:=2) (c:=c) (by omega) (by omega) rfl with ⟨h2,s2⟩ | ⟨h2,s2⟩
  ·have s3:aA Tp 0 (sub (cd Tryz.f40) b9) (dD (p++[a,b,c,d,e]) 3) .normal (dD (p++[a,b,c,d,e]) 4):=aTr (by omega) rfl (aW (by omega)) rfl
   rcases zA (l:=[a,b,c,d,e]) hp rfl (i:=4) (c:=e) (by omega) (by omega) rfl with ⟨h4,s4⟩ | ⟨h4,s4⟩
   ·exact .inl ⟨⟨h1,h2,h4⟩,.step s1 (.step s2 (.step s3 (.step s4 (.exit (aTs (by omega)) (by simp)))))⟩
   ·exact .inr ⟨by simp [h4],4,.step s1 (.step s2 (.step s3 s4))⟩
  ·exact .inr ⟨by simp [h2],2,.step s1 s2⟩
 ·exact .inr ⟨by simp [h1],1,s1⟩
theorem Ky{c:UInt8}{k:Nat}(hk:k<256):(c.toNat:Int)=(k:Int)↔c=UInt8.ofNat k:=by
 constructor
 ·intro h
  apply UInt8.toNat_inj.1;simp;omega
 ·intro h;subst h;simp;omega
theorem bOq{p:List UInt8}(hp:p.length≤99000)(hn:p≠[])(a b c d e:UInt8){base:Nat}:FV Tp 40 [.p (aD (p++[a,b,c,d,e]))] base (.tup [.p (aB (Eo p a b c d e).1),.p (aB (Eo p a b c d e).2)]) []:=by
 have el:((p++[a,b,c,d,e]).length:Int)=(p.length:Int)+5:=by simp
 have Nz:1≤p.length:=List.length_pos_iff.2 hn;have Ik:=Jh (p:=p) (l:=[a,b,c,d,e]) rfl 0 (k:=((p++[a,b,c,d,e]).length:Int)-(5:Int)) (by omega)
 have Ij:=Jh (p:=p) (l:=[a,b,c,d,e]) rfl 1 (k:=((p++[a,b,c,d,e]).length:Int)-(5:Int)+(1:Int)) (by omega)
 have at2:=Jh (p:=p) (l:=[a,b,c,d,e]) rfl 2 (k:=((p++[a,b,c,d,e]).length:Int)-(5:Int)+(2:Int)) (by omega)
 have at3:=Jh (p:=p) (l:=[a,b,c,d,e]) rfl 3 (k:=((p++[a,b,c,d,e]).length:Int)-(5:Int)+(3:Int)) (by omega)
 have at4:=Jh (p:=p) (l:=[a,b,c,d,e]) rfl 4 (k:=((p++[a,b,c,d,e]).length:Int)-(5:Int)+(4:Int)) (by omega)
 have tk:(p++[a,b,c,d,e]).take (((p++[a,b,c,d,e]).length:Int)-(5:Int)).toNat=p:=by
  rw [show (((p++[a,b,c,d,e]).length:Int)-(5:Int)).toNat=p.length by omega,List.take_left]
 have L:=bCh (p:=p) (by omega) a b c d e
 have bf:=bHx p 1000 (by omega)
 generalize hs:p++[a,b,c,d,e]=s at *
 have k0:inR (((s.length:Int)-(5:Int))):=by unfold inR;omega
 have k1:(1:Int)≤((s.length:Int)-(5:Int)):=by omega
 have k2:0≤((s.length:Int)-(5:Int)):=by omega
 by_cases ha:(a.toNat:Int)=58
 ·have Ly:a=58:=(Ky (k:=58) (by omega)).1 ha
  by_cases hd:(d.toNat:Int)=46
  ·have Fa:d=46:=(Ky (k:=46) (by omega)).1 hd
   rcases L with ⟨⟨hb,hc,he⟩,L⟩ | ⟨hx,i',L⟩
   ·by_cases hf:0≤fY p 1000
    ·have bb:=dX hb
     have bc:=dX hc;have be:=dX he;have wb:IntKind.wrap .u8 ((b.toNat:Int)-48)=dv b:=wraps_u8 _ (by omega) (by omega)
     have wc:IntKind.wrap .u8 ((c.toNat:Int)-48)=dv c:=wraps_u8 _ (by omega) (by omega)
     have we:IntKind.wrap .u8 ((e.toNat:Int)-48)=dv e:=wraps_u8 _ (by omega) (by omega)
     have vb:0≤dv b∧dv b≤9:=by unfold dv;omega
     have vc:0≤dv c∧dv c≤9:=by unfold dv;omega
     have ve:0≤dv e∧dv e≤9:=by unfold dv;omega
     by_cases h5:b.toNat≤53
     ·unfold Eo
      rw [if_pos ⟨Ly,Fa,hb,hc,he,hf,h5⟩]
      by_cases hz:360000<fY p 1000*600+dv b*100+dv c*10+dv e
      ·rw [if_pos hz]
       refine bPf k0 k1 k2 Ik ha (by show _∧_;omega) (by omega) at3 hd (by omega) (by rw [tk];omega) (by omega) L (by rw [tk];exact hf) (by show _∧_;omega) (by omega) Ij (by omega) ?_ ?_ ?_ ?_ (by show _∧_;omega) (by omega) at2 ?_ ?_ ?_ (by show _∧_;omega) (by omega) at4 ?_ ?_ ?_
       all_goals first | rw [tk] | skip
       all_goals first | simp only [wb,wc,we] | skip
       all_goals first | (unfold inR;omega) | omega
      ·rw [if_neg hz]
       refine bPg k0 k1 k2 Ik ha (by show _∧_;omega) (by omega) at3 hd (by omega) (by rw [tk];omega) (by omega) L (by rw [tk];exact hf) (by show _∧_;omega) (by omega) Ij (by omega) ?_ ?_ ?_ ?_ (by show _∧_;omega) (by omega) at2 ?_ ?_ ?_ (by show _∧_;omega) (by omega) at4 ?_ ?_ ?_ ?_
       all_goals first | rw [tk] | skip
       all_goals first | simp only [wb,wc,we] | skip
       all_goals first | (unfold inR;omega) | omega
     ·have e1:Eo p a b c d e=(0,11):=by unfold Eo;rw [if_neg (fun q=>h5 q.2.2.2.2.2.2)]
      rw [e1];exact bPe k0 k1 k2 Ik ha (by show _∧_;omega) (by omega) at3 hd (by omega) (by rw [tk];omega) (by omega) L (by rw [tk];exact hf) (by show _∧_;omega) (by omega) Ij (by omega)
    ·have e1:Eo p a b c d e=(0,11):=by unfold Eo;rw [if_neg (fun q=>hf q.2.2.2.2.2.1)]
     rw [e1];exact bPd k0 k1 k2 Ik ha (by show _∧_;omega) (by omega) at3 hd (by omega) (by rw [tk];omega) (by omega) L (by rw [tk];omega)
   ·have e1:Eo p a b c d e=(0,11):=by unfold Eo;rw [if_neg (fun q=>hx ⟨q.2.2.1,q.2.2.2.1,q.2.2.2.2.1⟩)]
    rw [e1];exact bPh k0 k1 k2 Ik ha (by show _∧_;omega) (by omega) at3 hd (by omega) (by rw [tk];omega) (by omega) L
  ·have e1:Eo p a b c d e=(0,11):=by unfold Eo;rw [if_neg (fun q=>hd ((Ky (k:=46) (by omega)).2 q.2.1))]
   rw [e1];exact bPc k0 k1 k2 Ik ha (by show _∧_;omega) (by omega) at3 hd
 ·have e1:Eo p a b c d e=(0,11):=by unfold Eo;rw [if_neg (fun q=>ha ((Ky (k:=58) (by omega)).2 q.1))]
  rw [e1];exact bPb k0 k1 k2 Ik ha
theorem aTj{s:List UInt8}(h:s.length≤5){base:Nat}:FV Tp 40 [.p (aD s)] base (.tup [.p (aB 0),.p (aB 11)]) []:=bPa (by show _∧_;omega) (by omega)
end
section
theorem aCb(x:UInt8):∀ (s:List UInt8),x∉s→Lib.index s [x] = -1
 | [],_=>rfl
 | b::l,h=>by
  have hb:¬ x=b:=fun e=>h (by simp [e])
  have:=aCb x l (fun e=>h (by simp [e]))
  unfold Lib.index;rw [if_neg (by simp [List.isPrefixOf,hb]),this]
  rfl
theorem aHw(x:UInt8)(v:List UInt8):∀ (u:List UInt8),x∉u→Lib.index (u++x::v) [x]=(u.length:Int)
 | [],_=>by
  show Lib.index (x::v) [x]=_;unfold Lib.index;rw [if_pos (by simp [List.isPrefixOf])]
  rfl
 | b::u,h=>by
  have hb:¬ x=b:=fun e=>h (by simp [e])
  have:=aHw x v u (fun e=>h (by simp [e]))
  show Lib.index (b::(u++x::v)) [x]=_;unfold Lib.index;rw [if_neg (by simp [List.isPrefixOf,hb]),this,if_neg (by simp),gO]
  omega
theorem aTi{x:UInt8}{s:List UInt8}(h:x∉s):Lib.cut s [x]=(s,[],false):=by
 unfold Lib.cut;rw [aCb x s h,if_neg (by omega)]
theorem tE{x:UInt8}{u v:List UInt8}(h:x∉u):Lib.cut (u++x::v) [x]=(u,v,true):=by
 unfold Lib.cut;rw [aHw x v u h,if_pos (by omega)]
 have:(u.length:Int).toNat=u.length:=by omega
 rw [this,List.take_left]
 congr 2
 rw [List.length_singleton,← List.drop_drop,List.drop_left];rfl
theorem aCc{x:UInt8}{s:List UInt8}(h:(Lib.cut s [x]).2.2=true):∃ u v,x∉u∧s=u++x::v:=by
 by_cases hx:x∈s
 ·obtain ⟨u,v,e,hn⟩:=List.eq_append_cons_of_mem hx
  exact ⟨u,v,hn,e⟩
 ·rw [aTi hx] at h;cases h
def rP(l:List UInt8)(n:Int):Int:=l.foldl (fun n b=>10*n+dv b) n
theorem aPd:∀ (l:List UInt8) (n:Int),l.all isd=true→0≤n→n≤rP l n
 | [],n,_,h=>aTd n
 | b::l,n,ha,h=>by
  simp only [List.all_cons,B5] at ha
  have hb:=dX ha.1;have hd:0≤dv b:=by unfold dv;omega
  have:=aPd l (10*n+dv b) ha.2 (by omega)
  show n≤rP l (10*n+dv b);omega
theorem aHx(m:Int)(hm:0≤m):∀ (l:List UInt8) (n:Int),l.all isd=true→0≤n→aId m l (min n (m+1))=min (rP l n) (m+1)
 | [],n,_,h=>rfl
 | b::l,n,ha,h=>by
  simp only [List.all_cons,B5] at ha
  have hb:=dX ha.1;have:=aHx m hm l (10*n+dv b) ha.2 (by unfold dv;omega)
  show aId m l _=min (rP l (10*n+dv b)) (m+1);rw [← this]
  congr 1
  dsimp only [dv]
  split <;> omega
theorem aHy(z:Bool)(m:Int)(hm:0≤m):∀ (l:List UInt8) (i:Nat) (n:Int),l.all isd=true→0≤n→(0<i∨l≠[])→(z=false∨l=[]∨(i=0∧l.length=1)) →
  lM z m l i (min n (m+1))=if m<rP l n then (0,3) else (rP l n,0)
 | [],i,n,_,h,hi,hz=>by
  have hi:¬ i=0:=by rcases hi with q | q <;> first | omega | exact absurd rfl q
  unfold lM;rw [if_neg hi];show (if min n (m+1) > m then _ else _)=if m<n then _ else _
  by_cases q:m<n
  ·rw [if_pos q,if_pos (by omega)]
  ·rw [if_neg q,if_neg (by omega)]
   show (min n (m+1),(0:Int))=(n,0);rw [show min n (m+1)=n by omega]
 | b::l,i,n,ha,h,hi,hz=>by
  simp only [List.all_cons,B5] at ha
  have hb:=dX ha.1;unfold lM;rw [if_neg (by
   rintro (q | ⟨q1,q2⟩)
   ·omega
   ·rcases hz with q | q | ⟨q,_⟩
    ·rw [q] at q2;cases q2
    ·cases q
    ·omega)]
  have e:min (10*min n (m+1)+((b.toNat:Int)-48)) (m+1)=min (10*n+dv b) (m+1):=by unfold dv;omega
  rw [e];exact aHy z m hm l (i+1) (10*n+dv b) ha.2 (by unfold dv;omega) (.inl (by omega)) (by
   rcases hz with q | q | ⟨_,q⟩
   ·exact .inl q
   ·cases q
   ·exact .inr (.inl (sY (by simpa using q))))
theorem aHz(z:Bool)(m:Int):∀ (l:List UInt8) (i:Nat) (n:Int),l.all isd=false→(lM z m l i n).2=11
 | b::l,i,n,h=>by
  unfold lM
  by_cases hb:isd b=true
  ·have hl:l.all isd=false:=by simpa [hb] using h
   split
   ·rfl
   ·exact aHz z m l _ _ hl
  ·have hb:isd b=false:=by simpa using hb
   rw [if_pos (.inl (bCj hb))]
theorem bHs{p:List UInt8}{m:Int}(hm:0≤m)(ha:p.all isd=true)(hn:p≠[])(hz:¬ (1<p.length∧p[0]? = some 48)):bL p m=if m<rP p 0 then (0,3) else (rP p 0,0):=by
 have:=aHy (aAm p) m hm p 0 0 ha (by omega) (.inr hn) (by
  by_cases q:p[0]? = some 48
  ·refine .inr (.inr ⟨rfl,?_⟩)
   have:1≤p.length:=List.length_pos_iff.2 hn
   by_cases q2:1<p.length
   ·exact absurd ⟨q2,q⟩ hz
   ·omega
  ·exact .inl (by unfold aAm;simp [q]))
 rw [show min (0:Int) (m+1)=0 by omega] at this
 exact this
theorem yZ{p:List UInt8}{m:Int}(h:p=[]∨(1<p.length∧p[0]? = some 48)∨p.all isd=false):(bL p m).2=11:=by
 rcases h with h | ⟨h1,h2⟩ | h
 ·subst h;rfl
 ·match p,h1,h2 with
  | b::c::r,_,h2 =>
   have hz:aAm (b::c::r)=true:=by unfold aAm;exact decide_eq_true h2
   unfold bL;rw [hz];unfold lM
   split
   ·rfl
   ·unfold lM
    rw [if_pos (.inr ⟨by omega,rfl⟩)]
 ·exact aHz _ _ p 0 0 h
theorem bHt{p:List UInt8}{m:Int}(hm:0≤m)(ha:p.all isd=true)(hn:p≠[])(hz:¬ (1<p.length∧p[0]? = some 48)):fY p m=min (rP p 0) (m+1):=by
 unfold fY;rw [if_neg (by simp only [hn,hz,ha,false_or];decide)]
 have:=aHx m hm p 0 ha (by omega)
 rw [show min (0:Int) (m+1)=0 by omega] at this
 exact this
theorem aIa{p:List UInt8}{m:Int}(h:p=[]∨(1<p.length∧p[0]? = some 48)∨p.all isd=false):fY p m = -1:=by unfold fY;rw [if_pos h]
theorem Ju{p:List UInt8}(h:p.all isd=true)(x:UInt8)(hx:isd x=false):x∉p:=fun q=>by
 rw [jO] at h
 rw [h x q] at hx;cases hx
theorem bCd{x:UInt8}:dgM [x] 1 10=if isd x=true then (dv x,true) else (0,false):=by
 unfold dgM
 by_cases h:isd x=true
 ·rw [if_pos ⟨rfl,by simp [h]⟩,if_pos h]
  have e:atV [x]=dv x:=by unfold atV;rw [Ij h];rfl
  have:=dX h;rw [e]
  congr 1
  exact decide_eq_true (by unfold dv;omega)
 ·rw [if_neg h,if_neg (fun q=>h (by simpa using q.2))]
theorem bCe{x y:UInt8}:dgM [x,y] 2 60=if isd x=true∧isd y=true then (10*dv x+dv y,decide (x.toNat≤53)) else (0,false):=by
 unfold dgM
 by_cases h:isd x=true∧isd y=true
 ·rw [if_pos ⟨rfl,by simp [h.1,h.2]⟩,if_pos h]
  have e:atV [x,y]=10*dv x+dv y:=by unfold atV;rw [at2 h.1 h.2];rfl
  have h1:=dX h.1;have h2:=dX h.2;rw [e]
  congr 1
  by_cases q:x.toNat≤53
  ·rw [decide_eq_true q];exact decide_eq_true (by unfold dv;omega)
  ·rw [decide_eq_false q];exact decide_eq_false (by unfold dv;omega)
 ·rw [if_neg h,if_neg (fun q=>h (by simpa using q.2))]
theorem bCf{s:List UInt8}{m b:Int}(h:(dgM s m b).2=true):(s.length:Int)=m∧s.all isd=true:=by
 unfold dgM at h
 split at h
 ·rename_i q;exact q
 ·cases h
theorem aPe{s:List UInt8}(h:paM s≠(0,11)):∃ p b c e,s=p++[58,b,c,46,e]∧p≠[]∧p.all isd=true∧¬ (1<p.length∧p[0]? = some 48)∧isd b=true∧isd c=true∧isd e=true:=by
 have hc:(Lib.cut s [58]).2.2=true∧(Lib.cut (Lib.cut s [58]).2.1 [46]).2.2=true∧(dgM (Lib.cut (Lib.cut s [58]).2.1 [46]).1 2 60).2=true∧(dgM (Lib.cut (Lib.cut s [58]).2.1 [46]).2.1 1 10).2=true∧(bL (Lib.cut s [58]).1 360000).2≠11:=by
  apply Classical.byContradiction;intro q;apply h;unfold paM;rw [if_neg q]
 obtain ⟨h1,h2,h3,h4,h5⟩:=hc;obtain ⟨p,r,hp,rfl⟩:=aCc h1;rw [tE hp] at h2 h3 h4 h5
 obtain ⟨x,y,hx,rfl⟩:=aCc h2;rw [tE hx] at h3 h4
 obtain ⟨l1,d1⟩:=bCf h3;obtain ⟨l2,d2⟩:=bCf h4;dsimp only at l1 d1 l2 d2 h5
 match x,y,l1,l2,d1,d2 with
 | [b,c],[e],_,_,d1,d2 =>
  simp only [List.all_cons,List.all_nil,Bool.and_true,B5] at d1 d2
  refine ⟨p,b,c,e,rfl,fun q=>h5 (yZ (.inl q)),?_,fun q=>h5 (yZ (.inr (.inl q))),d1.1,d1.2,d2⟩
  cases q:p.all isd
  ·exact absurd (yZ (.inr (.inr q))) h5
  ·rfl
theorem bOo{p:List UInt8}{b c e:UInt8}(hn:p≠[])(ha:p.all isd=true)(hz:¬ (1<p.length∧p[0]? = some 48))(hb:isd b=true)(hc:isd c=true)(he:isd e=true):paM (p++[58,b,c,46,e])=Eo p 58 b c 46 e:=by
 have c1:Lib.cut (p++[58,b,c,46,e]) [58]=(p,[b,c,46,e],true):=tE (Ju ha 58 (by decide))
 have c2:Lib.cut [b,c,46,e] [46]=([b,c],[e],true):=tE (u:=[b,c]) (Ju (by simp [hb,hc]) 46 (by decide))
 have D1:=bCd (x:=e);rw [if_pos he] at D1
 have D2:=bCe (x:=b) (y:=c);rw [if_pos ⟨hb,hc⟩] at D2
 have N:=bHs (m:=360000) (by omega) ha hn hz
 have F:=bHt (m:=1000) (by omega) ha hn hz
 have hv:=aPd p 0 ha (by omega)
 have b1:=dX hb;have b2:=dX hc;have b3:=dX he;have v1:0≤dv b∧dv b≤9:=by unfold dv;omega
 have v2:0≤dv c∧dv c≤9:=by unfold dv;omega
 have v3:0≤dv e∧dv e≤9:=by unfold dv;omega
 have hp:paM (p++[58,b,c,46,e])=if b.toNat≤53∧(bL p 360000).2≠11 then
   if (bL p 360000).2≠0∨360000<(bL p 360000).1*600+(10*dv b+dv c)*10+dv e then (0,3) else ((bL p 360000).1*600+(10*dv b+dv c)*10+dv e,0)
   else (0,11):=by
  unfold paM;rw [c1];dsimp only;rw [c2];dsimp only;rw [D1,D2];dsimp only
  by_cases q:b.toNat≤53∧(bL p 360000).2≠11
  ·rw [if_pos ⟨rfl,rfl,decide_eq_true q.1,rfl,q.2⟩,if_pos q]
  ·rw [if_neg (fun k=>q ⟨of_decide_eq_true k.2.2.1,k.2.2.2.2⟩),if_neg q]
 have hr:Eo p 58 b c 46 e=if b.toNat≤53 then
   if 360000<fY p 1000*600+dv b*100+dv c*10+dv e then (0,3) else (fY p 1000*600+dv b*100+dv c*10+dv e,0)
   else (0,11):=by
  unfold Eo
  by_cases q:b.toNat≤53
  ·rw [if_pos ⟨rfl,rfl,hb,hc,he,by rw [F];omega,q⟩,if_pos q]
  ·rw [if_neg (fun k=>q k.2.2.2.2.2.2),if_neg q]
 rw [hp,hr,F]
 by_cases h5:b.toNat≤53
 ·by_cases hl:360000<rP p 0
  ·rw [if_pos hl] at N
   rw [N,if_pos ⟨h5,by decide⟩,if_pos h5,if_pos (.inl (by decide)),if_pos (by omega)]
  ·rw [if_neg hl] at N
   rw [N,if_pos ⟨h5,by simp⟩,if_pos h5]
   by_cases hq:360000<rP p 0*600+(10*dv b+dv c)*10+dv e
   ·rw [if_pos (Or.inr hq),if_pos (by omega)]
   ·rw [if_neg (by rintro (k | k) <;> first | exact k rfl | exact hq k),if_neg (by omega)]
    show (rP p 0*600+(10*dv b+dv c)*10+dv e,(0:Int))=(min (rP p 0) (1000+1)*600+dv b*100+dv c*10+dv e,0);have:rP p 0*600+(10*dv b+dv c)*10+dv e=min (rP p 0) (1000+1)*600+dv b*100+dv c*10+dv e:=by omega
    rw [this]
 ·rw [if_neg (fun k=>h5 k.1),if_neg h5]
theorem bHu{p:List UInt8}(hn:p≠[])(a b c d e:UInt8):paM (p++[a,b,c,d,e])=Eo p a b c d e:=by
 by_cases hg:a=58∧d=46∧isd b=true∧isd c=true∧isd e=true∧p.all isd=true∧¬ (1<p.length∧p[0]? = some 48)
 ·obtain ⟨rfl,rfl,hb,hc,he,ha,hz⟩:=hg
  exact bOo hn ha hz hb hc he
 ·have e1:Eo p a b c d e=(0,11):=by
   unfold Eo;rw [if_neg];rintro ⟨q1,q2,q3,q4,q5,q6,_⟩;refine hg ⟨q1,q2,q3,q4,q5,?_,?_⟩
   ·cases q:p.all isd
    ·rw [aIa (.inr (.inr q))] at q6;omega
    ·rfl
   ·intro q
    rw [aIa (.inr (.inl q))] at q6;omega
  rw [e1];apply Classical.byContradiction;intro h;obtain ⟨p',b',c',e',es,Ff,Ly,O0,Ar,Dt,Lo⟩:=aPe h;obtain ⟨q1,q2⟩:=List.append_inj' es rfl;subst q1;simp only [List.cons.injEq,and_true] at q2
  obtain ⟨rfl,rfl,rfl,rfl,rfl⟩:=q2;exact hg ⟨rfl,rfl,Ar,Dt,Lo,Ly,O0⟩
theorem bCg{s:List UInt8}(h:s.length≤5):paM s=(0,11):=by
 apply Classical.byContradiction;intro h2;obtain ⟨p',b',c',e',rfl,Ff,_⟩:=aPe h2;have:=List.length_pos_iff.2 Ff;have e:(p'++[58,b',c',46,e']).length=p'.length+5:=by simp
 omega
theorem Jv{s:List UInt8}(h:5<s.length):∃ p a b c d e,s=p++[a,b,c,d,e]∧p≠[]:=by
 have hl:(s.drop (s.length-5)).length=5:=by rw [uK];omega
 match hq:s.drop (s.length-5),hl with
 | [a,b,c,d,e],_ =>
  refine ⟨s.take (s.length-5),a,b,c,d,e,by rw [← hq,bBv],?_⟩
  intro q;have:=congrArg List.length q;rw [uJ] at this
  simp at this;omega
theorem bHv{s:List UInt8}(h:s.length≤90000){base:Nat}:FV Tp 40 [.p (aD s)] base (.tup [.p (aB (paM s).1),.p (aB (paM s).2)]) []:=by
 by_cases hl:s.length≤5
 ·rw [bCg hl];exact aTj hl
 ·obtain ⟨p,a,b,c,d,e,rfl,hn⟩:=Jv (s:=s) (by omega)
  rw [bHu hn];exact bOq (by have e:(p++[a,b,c,d,e]).length=p.length+5:=(by simp);omega) hn a b c d e
theorem bHw{s x:List UInt8}:(Lib.cut s x).2.1.length≤s.length:=by
 unfold Lib.cut
 split
 ·simp
 ·simp
theorem bOp{s:List UInt8}(h:s.length≤90000){base:Nat}:FV Tp 39 [.p (aD s)] base (.tup [.p (aB (paM s).1),.p (aB (paM s).2)]) []:=bYe (by omega) (iB bHw (by omega))
end
section
variable {k n:Int}{i Aq base:Nat}

noncomputable abbrev nJ:Code:=pS (cd Tryz.f7) 5 [0,1,0,0]
theorem aEr:((0:Int) != 0)=false:=by first | decide | simp
theorem uN:((0:Int) == 0)=true:=by first | decide | simp
theorem bCb:((10:Int) == 10)=true:=by first | decide | simp
theorem bCc:((1:Int) != 1)=false:=by first | decide | simp
theorem aPc(k:Int)(h:within k 0 4=true){base:Nat}:FV Tp 35 [.p (aB k)] base (.tup [.p (bJ (aJ k)),.p (aB (aK k)),.p (aB 0)]) []:=bPz h
theorem aHt(k:Int)(h:within k 0 4=false){base:Nat}:FV Tp 35 [.p (aB k)] base (.tup [.p bK,.p (aB 0),.p (aB 1)]) []:=bIv h
theorem aHu(k:Int)(h:within k 0 4=true){base:Nat}:FV Tp 36 [.p (aB k)] base (.tup [.p (bJ (aJ k)),.p (aB (aK k)),.p (aB 0)]) []:=bIe h
theorem aBy(k:Int)(h:within k 0 4=false){base:Nat}:FV Tp 36 [.p (aB k)] base (.tup [.p bK,.p (aB 0),.p (aB 1)]) []:=bCi h
theorem jA(s:List UInt8)(h:s.length≤65536){base:Nat}:FV Tp 30 [.p (aD s)] base (.tup [.p (aB (bM s)),.p (aB 0)]) []:=bQc h
theorem kQ(s:List UInt8)(h:65536<s.length){base:Nat}:FV Tp 30 [.p (aD s)] base (.tup [.p (aB 0),.p (aB 10)]) []:=bIw h
theorem aHv(s:List UInt8)(h:s.length≤65536){base:Nat}:FV Tp 41 [.p (aD s)] base (.tup [.p (aB (bM s)),.p (aB 0)]) []:=bIl h
theorem aBz(s:List UInt8)(h:65536<s.length){base:Nat}:FV Tp 41 [.p (aD s)] base (.tup [.p (aB 0),.p (aB 10)]) []:=bCk h
theorem tC(s:List UInt8)(h:s.length≤90000){base:Nat}:FV Tp 39 [.p (aD s)] base (.tup [.p (aB (paM s).1),.p (aB (paM s).2)]) []:=bOp h
theorem tD(s:List UInt8)(h:s.length≤90000){base:Nat}:FV Tp 40 [.p (aD s)] base (.tup [.p (aB (paM s).1),.p (aB (paM s).2)]) []:=bHv h
def aCa:Prop:=∀ (base:Nat),FV Tp 14 [] base (pB true) []
def lL(k n:Int)(s:List UInt8)(i:Nat):St:=⟨fr 121 [(1,(pI n)),(2,(.p (aD s))),(7,(.p (bJ (aJ k)))),(9,(pI 0)),(10,(.p (bJ (aJ k)))),(12,(pI 0)),(50,(pI ((aJ k).length:Int))),(51,(pI (i:Int)))],[]⟩
theorem bOi{s:List UInt8}(h0:(66000:Int)<(s.length:Int))(h1:aCa):FV Tp 7 [(pI k),(pI n),(.p (aD s))] base (pB true) []:=FV.fi func7 [bT,.c (pB true) []] (gc (fk 0 (h1 _) rfl) (g0 h0))
section
variable{s:List UInt8}(h0:(s.length:Int)≤66000)(h1:within k 0 4=true)(h2:(aK k)=(aK k))(h3:((aJ k).length:Int)=((aJ k).length:Int))(Dy:aF Tp 0 nJ (lL k n s 0) (.exit 0) (lL k n s Aq))(h5:((ptM n).2)=((ptM n).2))(h6:((ptM n).1)=((ptM n).1))(h7:s.length≤90000)(h8:((paM s).2)=((paM s).2))(h9:((paM s).1)=((paM s).1))
include h0 h1 h2 h3 Dy h5 h6 h7 h8 h9
theorem bOj(A5:s.length≤65536)(Cg:(bM s)=(bM s))(Bc:aCa):FV Tp 7 [(pI k),(pI n),(.p (aD s))] base (pB true) []:=have k1:=fk 0 (aPc k h1) rfl;have k2:=fk 0 (aHu k h1) rfl;have k3:=fk 0 (aIf n) rfl;have k4:=fk 0 (aEt n) rfl;have k5:=fk 0 (tC s h7) rfl;have k6:=fk 0 (tD s h7) rfl;have k7:=fk 0 (jA s A5) rfl;have k8:=fk 0 (aHv s A5) rfl;FV.fi func7 ([bF,k1.o,k2.o]++rF 11++[Dy.k 4 (gZ ai),k3.o,k4.o]++rF 5++[k5.o,k6.o]++rF 5++[k7.o,k8.o]++rT 5++[.c (pB true) [],bT]) (gc (dG Cg) (gc (fk 0 (Bc _) rfl) (gc (dG Cg) (Cm uN (gc k8 (gc k7 (gc (bB h9) (Cm (bB h8) (gc k6 (gc k5 (gc (aV (decide_eq_true h6)) (Cm (bB h5) (gc k4 (gc k3 (gc Dy.code (gc (bB h3) (F6 (bB h2) (Cm aEr (gc k2 (gc k1 (gc (aO h0) gn)))))))))))))))))))))
theorem bOk(A5:65536<s.length)(Cg:aCa):FV Tp 7 [(pI k),(pI n),(.p (aD s))] base (pB true) []:=have k1:=fk 0 (aPc k h1) rfl;have k2:=fk 0 (aHu k h1) rfl;have k3:=fk 0 (aIf n) rfl;have k4:=fk 0 (aEt n) rfl;have k5:=fk 0 (tC s h7) rfl;have k6:=fk 0 (tD s h7) rfl;have k7:=fk 0 (kQ s A5) rfl;have k8:=fk 0 (aBz s A5) rfl;FV.fi func7 ([bF,k1.o,k2.o]++rF 11++[Dy.k 4 (gZ ai),k3.o,k4.o]++rF 5++[k5.o,k6.o]++rF 5++[k7.o,k8.o]++rT 5++[.c (pB true) [],bT]) (gc uN (gc (fk 0 (Cg _) rfl) (gc uN (Cm bCb (gc k8 (gc k7 (gc (bB h9) (Cm (bB h8) (gc k6 (gc k5 (gc (aV (decide_eq_true h6)) (Cm (bB h5) (gc k4 (gc k3 (gc Dy.code (gc (bB h3) (F6 (bB h2) (Cm aEr (gc k2 (gc k1 (gc (aO h0) gn)))))))))))))))))))))
end
theorem aTf{s:List UInt8}{Ab:Int}{i':Nat}(h0:(i:Int)<((aJ k).length:Int))(h1:(aJ k)[i]? = some Ab)(h2:Ab=Ab)(h3:ce i)(Ai:i'=(i+1)):aA Tp 0 nJ (lL k n s i) .normal (lL k n s i'):=by
 subst Ai;exact aA.fi (gZ ai) [bT,.x (aB Ab),.x (aB Ab),bF] (gc h3 (gc (bB h2) (gc (atm aB h1) (gc (ixn aB h1) (gc (atm aB h1) (gc (ixn aB h1) (g0 h0)))))))
theorem aTg{s:List UInt8}(h0:((aJ k).length:Int)≤(i:Int)):aA Tp 0 nJ (lL k n s i) (.exit 0) (lL k n s i):=aA.fi (gZ ai) [bF] (gc (aO h0) gn)
def oU(n:Int)(s:List UInt8)(i:Nat):St:=⟨fr 121 [(1,(pI n)),(2,(.p (aD s))),(7,(.p bK)),(9,(pI 1)),(10,(.p bK)),(12,(pI 1)),(50,(pI 0)),(51,(pI (i:Int)))],[]⟩
section
variable{s:List UInt8}(h0:(s.length:Int)≤66000)(h1:within k 0 4=false)(Bh:aF Tp 0 nJ (oU n s 0) (.exit 0) (oU n s Aq))(h3:((ptM n).2)=((ptM n).2))(h4:((ptM n).1)=((ptM n).1))(h5:s.length≤90000)(h6:((paM s).2)=((paM s).2))(h7:((paM s).1)=((paM s).1))
include h0 h1 Bh h3 h4 h5 h6 h7
theorem bOl(h8:s.length≤65536)(h9:(bM s)=(bM s))(A5:aCa):FV Tp 7 [(pI k),(pI n),(.p (aD s))] base (pB true) []:=have k1:=fk 0 (aHt k h1) rfl;have k2:=fk 0 (aBy k h1) rfl;have k3:=fk 0 (aIf n) rfl;have k4:=fk 0 (aEt n) rfl;have k5:=fk 0 (tC s h5) rfl;have k6:=fk 0 (tD s h5) rfl;have k7:=fk 0 (jA s h8) rfl;have k8:=fk 0 (aHv s h8) rfl;FV.fi func7 ([bF,k1.o,k2.o]++rF 11++[Bh.k 4 (gZ ai),k3.o,k4.o]++rF 5++[k5.o,k6.o]++rF 5++[k7.o,k8.o]++rT 5++[.c (pB true) [],bT]) (gc (dG h9) (gc (fk 0 (A5 _) rfl) (gc (dG h9) (Cm uN (gc k8 (gc k7 (gc (bB h7) (Cm (bB h6) (gc k6 (gc k5 (gc (aV (decide_eq_true h4)) (Cm (bB h3) (gc k4 (gc k3 (gc Bh.code (Lb aEr (Cm bCc (gc k2 (gc k1 (gc (aO h0) gn))))))))))))))))))))
theorem bOm(h8:65536<s.length)(h9:aCa):FV Tp 7 [(pI k),(pI n),(.p (aD s))] base (pB true) []:=have k1:=fk 0 (aHt k h1) rfl;have k2:=fk 0 (aBy k h1) rfl;have k3:=fk 0 (aIf n) rfl;have k4:=fk 0 (aEt n) rfl;have k5:=fk 0 (tC s h5) rfl;have k6:=fk 0 (tD s h5) rfl;have k7:=fk 0 (kQ s h8) rfl;have k8:=fk 0 (aBz s h8) rfl;FV.fi func7 ([bF,k1.o,k2.o]++rF 11++[Bh.k 4 (gZ ai),k3.o,k4.o]++rF 5++[k5.o,k6.o]++rF 5++[k7.o,k8.o]++rT 5++[.c (pB true) [],bT]) (gc uN (gc (fk 0 (h9 _) rfl) (gc uN (Cm bCb (gc k8 (gc k7 (gc (bB h7) (Cm (bB h6) (gc k6 (gc k5 (gc (aV (decide_eq_true h4)) (Cm (bB h3) (gc k4 (gc k3 (gc Bh.code (Lb aEr (Cm bCc (gc k2 (gc k1 (gc (aO h0) gn))))))))))))))))))))
end
theorem aTh{s:List UInt8}(h0:(0:Int)≤(i:Int)):aA Tp 0 nJ (oU n s i) (.exit 0) (oU n s i):=aA.fi (gZ ai) [bF] (gc (aO h0) gn)
theorem bOn(k n:Int)(s:List UInt8)(ha:aCa){base:Nat}:FV Tp 7 [.p (aB k),.p (aB n),.p (aD s)] base (pB true) []:=by
 by_cases hs:66000<s.length
 ·exact bOi (by omega) ha
 ·cases hk:within k 0 4
  ·have L:aF Tp 0 nJ (oU n s 0) (.exit 0) (oU n s 0) := .exit (aTh (by simp)) (by simp)
   by_cases h6:s.length≤65536
   ·exact bOl (by omega) hk L rfl rfl (by omega) rfl rfl h6 rfl ha
   ·exact bOm (by omega) hk L rfl rfl (by omega) rfl rfl (by omega) ha
  ·have L:=aF.range (P:=Tp) (k:=0) (b:=nJ) (e := .exit 0) (fun i (_:Unit)=>lL k n s i) (fun _=>lL k n s (aJ k).length) (fun _ _=>()) (fun _ _=>True) (by simp) (aJ k) (a0:=()) trivial
    (fun i b o hx _=>by
     have hi:=bH hx;have:(aJ k).length≤4:=by unfold aJ;(repeat' split) <;> simp
     exact ⟨trivial,aTf (by omega) hx rfl (aW (by omega)) rfl⟩)
    (fun o _=>aTg (by omega))
   by_cases h6:s.length≤65536
   ·exact bOj (by omega) hk rfl rfl L rfl rfl (by omega) rfl rfl h6 rfl ha
   ·exact bOk (by omega) hk rfl rfl L rfl rfl (by omega) rfl rfl (by omega) ha
end
end KV
end Go.Proofs
section
namespace Go.Proofs
open Go.RowKit
namespace KV
open Tryz
variable {P:Program} {C C0:Cx} {M M0:Mem} {w w0:World}

def tI(w:World)(b:Nat):Prop:=∃ o:Obj,w.heap[b]? = some o∧o.isCells=true
theorem rU{b o:Nat}{v:Value}(h:w.cell? ⟨b,o,none⟩=some v):tI w b:=cells_of_cell h
theorem mL{b ty:Nat}{arr:Array Value}{fr:Nat × Nat}(h:w.heap[b]? = some (.cells arr ty fr)):tI w b:=⟨_,h,rfl⟩

mutual
def nmP:PV→Bool
 | .v _=>true
 | .sl _ cs=>iC cs
 | .agg cs=>iC cs
 | .mp _=>false
 | .rp cs _=>iC cs
 | .fn _ a b=>iC a && iC b
def iC:List PV→Bool
 | []=>true
 | x::r=>nmP x && iC r
end
theorem lH:∀ {l:List PV},iC l=true→∀ (i:Nat) (h:i<l.length),nmP l[i]=true
 | [],_,i,h=>by simp at h
 | x::r,hl,i,h=>by
  rw [iC,B5] at hl
  cases i with
  | zero=>exact hl.1
  | succ i=>exact lH hl.2 i (by simpa using h)
mutual
def nmA:AV→Bool
 | .p x=>nmP x
 | .rp cs _=>iC cs
 | .agg l=>nmL l
 | .tup l=>nmL l
 | .fn _ a b=>nmL a && nmL b
 | _=>true
def nmL:List AV→Bool
 | []=>true
 | x::r=>nmA x && nmL r
end
theorem uR:∀ {l:List AV},nmL l=true→∀ (i:Nat) (h:i<l.length),nmA l[i]=true
 | [],_,i,h=>by simp at h
 | x::r,hl,i,h=>by
  rw [nmL,B5] at hl
  cases i with
  | zero=>exact hl.1
  | succ i=>exact uR hl.2 i (by simpa using h)
def nmM:Mem→Bool
 | []=>true
 | some (.row _ _ cs)::r=>iC cs && nmM r
 | some (.box _ l)::r=>nmL l && nmM r
 | _::r=>nmM r
theorem aMg:∀ {m:Mem},nmM m=true→(∀ (i ty n:Nat) (cs:List PV),m[i]? = some (some (.row ty n cs))→iC cs=true)∧∀ (i ty:Nat) (l:List AV),m[i]? = some (some (.box ty l))→nmL l=true
 | [],_=>⟨fun i ty n cs h=>by simp at h,fun i ty l h=>by simp at h⟩
 | x::r,hm=>by
  have hr:nmM r=true:=by
   cases x with
   | none=>exact hm
   | some o=>cases o <;> simp [nmM] at hm <;> first | exact hm.2 | exact hm
  obtain ⟨h1,h2⟩:=aMg hr;refine ⟨fun i ty n cs h => ?_,fun i ty l h => ?_⟩
  ·cases i with
   | zero=>simp at h;subst h;simp [nmM] at hm;exact hm.1
   | succ i=>exact h1 i ty n cs (by simpa using h)
  ·cases i with
   | zero=>simp at h;subst h;simp [nmM] at hm;exact hm.1
   | succ i=>exact h2 i ty l (by simpa using h)
theorem cP.shrink{F F':Nat→Prop}{x:PV}{u:Value}(h:cP F w x u)(hF:∀ b,F b→tI w b→F' b)(hm:nmP x=true):cP F' w x u:=by
 induction h with
 | v x=>exact .v x
 | sl n cs p cap us h1 h2 h3 _ h5 ih =>
  rw [nmP] at hm
  refine .sl n cs p cap us h1 h2 (fun i hi => ?_) (fun i hi=>ih i hi (lH hm i hi)) h5
  obtain ⟨b,o,hp,hb,hc⟩:=h3 i hi;exact ⟨b,o,hp,hF b hb (rU hc),hc⟩
 | agg cs vs h0 h1 _ ih =>
  rw [nmP] at hm
  exact .agg cs vs h0 h1 fun i hi=>ih i hi (lH hm i hi)
 | mp=>simp [nmP] at hm
 | rp cs off b o us h1 _ h3 ih =>
  rw [nmP] at hm
  exact .rp cs off b o us (fun i hi=>⟨hF b (h1 i hi).1 (rU (h1 i hi).2),(h1 i hi).2⟩) (fun i hi=>ih i hi (lH hm i hi)) h3
 | fn f cs ds us vs h1 h2 _ _ Gf Gg =>
  rw [nmP,B5] at hm
  exact .fn f cs ds us vs h1 h2 (fun i hi=>Gf i hi (lH hm.1 i hi)) fun i hi=>Gg i hi (lH hm.2 i hi)
theorem Rep.shrink{F':Nat→Prop}{x:AV}{u:Value}(h:Rep C M w x u)(hF:∀ b,C.F b→tI w b→F' b)(hm:nmA x=true):Rep ⟨C.ι,C.κ,F',[]⟩ M w x u:=by
 induction h with
 | p x u h=>exact .p x u (h.shrink hF (by simpa [nmA] using hm))
 | any u=>exact .any u
 | kb b=>exact .kb b
 | yld l=>exact .yld l
 | own id u h0 ha h=>exact .own id u h0 ha h
 | arr id off n u h0 ha h=>exact .arr id off n u h0 ha h
 | ptr id off u h0 ha h hp=>exact .ptr id off u h0 ha h hp
 | mp id u h0 ha h=>exact .mp id u h0 ha h
 | pa id q u h0 ha h=>exact .pa id q u h0 ha h
 | rp cs off b o us h1 h2 h3 =>
  have Cs:iC cs=true:=by simpa [nmA] using hm
  exact .rp cs off b o us (fun i hi=>⟨hF b (h1 i hi).1 (rU (h1 i hi).2),(h1 i hi).2⟩) (fun i hi=>(h2 i hi).shrink hF (lH Cs i hi)) h3
 | agg cs vs h0 h1 _ ih =>
  have Cs:nmL cs=true:=by simpa [nmA] using hm
  exact .agg cs vs h0 h1 fun i hi=>ih i hi (uR Cs i hi)
 | tup cs vs h1 _ ih =>
  have Cs:nmL cs=true:=by simpa [nmA] using hm
  exact .tup cs vs h1 fun i hi=>ih i hi (uR Cs i hi)
 | fn f cs ds us vs h1 h2 _ _ Gf Gg =>
  have Cs:nmL cs=true∧nmL ds=true:=by simpa [nmA] using hm
  exact .fn f cs ds us vs h1 h2 (fun i hi=>Gf i hi (uR Cs.1 i hi)) fun i hi=>Gg i hi (uR Cs.2 i hi)

def bYs(M:Mem):Prop:=(∀ (i:Nat) (es:List (Value × PV)) (cl:Nat),M[i]? ≠ some (some (.mp es cl)))∧wH M
def nO:Mem→Bool
 | []=>true
 | some (.pk _ _ _ _)::_=>false
 | some (.mp _ _)::_=>false
 | _::r=>nO r
theorem eK:∀ {m:Mem},nO m=true→bYs m
 | [],_=>⟨fun i es cl h=>by simp at h,fun i o h=>by simp at h⟩
 | none::r,hm=>by
  obtain ⟨h1,h2⟩:=eK (m:=r) hm;refine ⟨fun i es cl h => ?_,fun i o h => ?_⟩
  ·cases i with
   | zero=>simp at h
   | succ i=>exact h1 i es cl (by simpa using h)
  ·cases i with
   | zero=>simp at h
   | succ i=>exact h2 i o (by simpa using h)
 | some x::r,hm=>by
  have hr:nO r=true∧x.isPk=false∧∀ es cl,x ≠ .mp es cl:=by
   cases x with
   | pk=>simp [nO] at hm
   | mp=>simp [nO] at hm
   | _=>exact ⟨by simpa [nO] using hm,rfl,fun _ _ e=>by cases e⟩
  obtain ⟨h1,h2⟩:=eK (m:=r) hr.1;refine ⟨fun i es cl h => ?_,fun i o h => ?_⟩
  ·cases i with
   | zero=>simp at h;exact hr.2.2 _ _ h
   | succ i=>exact h1 i es cl (by simpa using h)
  ·cases i with
   | zero=>simp at h;rw [← h];exact hr.2.1
   | succ i=>exact h2 i o (by simpa using h)

theorem aUx{W:World}{b:Nat}{cs:Array Value}(h:uM W b=some cs):tI W b:=by
 unfold uM at h
 split at h
 ·rename_i he
  exact mL he
 ·cases h
theorem pY{W:World}{b:Nat}{o:Obj}(h:W.heap[b]? = some o)(ho:o.isCells=false):¬ tI W b:=fun ⟨o',h',hc⟩=>by rw [h] at h';cases h';rw [ho] at hc;cases hc

structure KpG (F:Nat→Prop) (A B:World):Prop where
 size:A.heap.size≤B.heap.size
 same:∀ b,F b→B.heap[b]? = A.heap[b]?
theorem KpG.refl(F:Nat→Prop)(A:World):KpG F A A:=⟨Bj _,fun _ _=>rfl⟩
theorem KpG.trans{F:Nat→Prop}{A B D:World}(h:KpG F A B)(k:KpG F B D):KpG F A D:=⟨iB h.size k.size,fun b hb=>(k.same b hb).trans (h.same b hb)⟩

theorem bDg{ro:Option Nat}{n:Nat}:(Fen ro).room n:=fun d hd=>by cases hd
theorem aMh{ro:Option Nat}{n m:Nat}{c:Code}{Q:Exit→Act→World→Prop}{a:Act}(h:c.wpIn (Fen ro) n P Q a w):c.wpIn (Fen ro) m P Q a w:=fun b k cs hro hb _=>h b k cs hro hb bDg

theorem J4(p q:Nat)(a b:Value)(t:Array Value):(#[p,q].zip #[a,b]).foldl (fun t (x:Nat × Value)=>t.setIfInBounds x.1 x.2) t=(t.setIfInBounds p a).setIfInBounds q b:=by simp

end KV
end Go.Proofs
end
section
namespace Go.Proofs
open Go.RowKit
namespace KV
open Tryz
variable {P:Program} {C C1:Cx} {M M':Mem} {w W:World} {b:Nat}
theorem mK(v:Value){c:Nat}(h:c≠b):(W.setCell ⟨b,0,none⟩ v).heap[c]? = W.heap[c]? := Below.heap_setCell _ _ _ _ (fun e=>h e)
end KV
end Go.Proofs
end
section
namespace Go.Proofs
open Go.RowKit
namespace KV
open Tryz
variable {P:Program} {C:Cx} {M:Mem} {w:World} {b:Nat}
theorem tH:∀ {M:Mem} {n:Nat} {x:Option AO},n<M.length→(aZ M n x).length=M.length
 | [],_,_,h=>by simp at h
 | y::l,0,x,_=>rfl
 | y::l,n+1,x,h=>by
  show (aZ l n x).length+1=l.length+1;rw [tH (by simpa using h)]
def nN(M M':Mem):Prop:=∀ (id:Nat) (es:List (Value × PV)) (cl:Nat),M'[id]? = some (some (.mp es cl))→(∃ o:AO,M[id]? = some (some o))∧∀ j (h:j<es.length),nmP es[j].2=true
theorem nN.no{M M':Mem}(h:nO M'=true):nN M M':=fun id es cl hm=>absurd hm ((eK h).1 _ _ _)
def fZ(w:World)(b:Nat)(W:World):World:={ w with heap:=w.heap.setIfInBounds b (W.heap.getD b (.cells #[] 0 (0,0))) }
theorem bY(w:World)(b:Nat)(W:World):(fZ w b W).heap.size=w.heap.size:=by simp [fZ]
theorem aIp{w:World}{b:Nat}{W:World}(h:b<w.heap.size)(h2:b<W.heap.size):(fZ w b W).heap[b]? = W.heap[b]? := by
 simp [fZ,h,h2,Array.getD]
theorem oX{w:World}{b c:Nat}{W:World}(h:c≠b):(fZ w b W).heap[c]? = w.heap[c]? := by
 simp [fZ,Ne.symm h]
structure aIq (C:Cx) (M:Mem) (w:World) (b:Nat):Prop where
 nF:¬ C.F b
 nL:∀ (id:Nat) (o:AO),M[id]? = some (some o)→o.live=true→C.ι id≠some b
 lt:b<w.heap.size
 Fs:∀ c,C.F c→c<w.heap.size
 ls:∀ (id:Nat) (o:AO) (c:Nat),M[id]? = some (some o)→o.live=true→C.ι id=some c→c<w.heap.size
def oE(P:Program)(C:Cx)(M:Mem)(w:World)(b:Nat)(M':Mem)(W:World):Prop:=∃ C',aX P C' M' W∧Fr C M (fZ w b W) C' M' W
theorem oE.nF{M':Mem}{W:World}{C':Cx}(hA:aIq C M w b)(f:Fr C M (fZ w b W) C' M' W):¬ C'.F b:=fun h=>by
 rcases f.F2 b h with h | h | ⟨D9,o0,q1,q2,q3⟩
 ·exact hA.nF h
 ·rw [bY] at h;have:=hA.lt;omega
 ·exact hA.nL _ _ q1 q2 q3
theorem oE.nL{M':Mem}{W:World}{C':Cx}(hA:aIq C M w b)(f:Fr C M (fZ w b W) C' M' W):∀ (id:Nat) (o:AO),M'[id]? = some (some o)→o.live=true→C'.ι id≠some b:=fun id o ho hl he=>by
 rcases f.new id o b ho hl he with h | ⟨D9,o0,q1,q2,q3⟩
 ·rw [bY] at h;have:=hA.lt;omega
 ·exact hA.nL _ _ q1 q2 q3
theorem aPx{M':Mem}{W w1:World}{C':Cx}(hmp:nN M M')(hls:∀ (id:Nat) (o:AO) (c:Nat),M[id]? = some (some o)→o.live=true→C.ι id=some c→c<w.heap.size)(f:Fr C M w1 C' M' W){id:Nat}{es:List (Value × PV)}{cl c:Nat}(hm:M'[id]? = some (some (.mp es cl)))(hb:C'.ι id=some c):c<w.heap.size:=by
 obtain ⟨⟨o,ho⟩,_⟩:=hmp _ _ _ hm;have hl:=f.liv _ _ ho _ hm rfl;rw [(f.ids _ _ ho).2.1] at hb
 exact hls _ _ _ ho hl hb
theorem bYr{M':Mem}{W:World}(hmp:nN M M')(hq:nmM M'=true)(hF:∀ b,C.F b→b<w.heap.size){C':Cx}(hM:aX P C' M' W)(f:Fr C M w C' M' W) :
  ∃ F':Nat→Prop,aX P ⟨C'.ι,C'.κ,F',[]⟩ M' W∧Fr C M w ⟨C'.ι,C'.κ,F',[]⟩ M' W∧(∀ b,F' b→C'.F b)∧(∀ b,F' b→b<w.heap.size∨tI W b):=by
 refine ⟨fun b=>C'.F b∧(b<w.heap.size∨tI W b),⟨fun i ty n cs hm => ?_,fun i ty cs hm => ?_,fun i es cl hm => ?_,hM.inj,fun i o b ho hl hb hf=>hM.nF i o b ho hl hb hf.1,fun b hb=>hM.Fs b hb.1,hM.lt,fun p hp=>let ⟨h1,cs,h2,h3⟩:=hM.lib p hp;⟨⟨h1,.inr (aUx h2)⟩,cs,h2,h3⟩⟩,
  ⟨f.os,f.tape,f.out,f.size,f.keep,f.ids,f.row,f.liv,f.new,fun b hb=>⟨f.F1 b hb,.inl (hF b hb)⟩,fun b hb=>f.F2 b hb.1⟩,fun b hb=>hb.1,fun b hb=>hb.2⟩
 ·rcases hM.row _ _ _ _ hm with h4 | ⟨b,arr,inf,q0,q1,q2,q3,q4,q5,q6,q7,q8⟩
  ·exact .inl h4
  ·exact .inr ⟨b,arr,inf,q0,q1,q2,q3,q4,q5,q6,fun j hj=>(q7 j hj).shrink (fun b hb hs=>⟨hb,.inr hs⟩) (lH ((aMg hq).1 _ _ _ _ hm) j hj),q8⟩
 ·obtain ⟨b,arr,q0,q1,q2,q3,q4⟩:=hM.box _ _ _ hm
  exact ⟨b,arr,q0,q1,q2,fun j hj=>(q3 j hj).shrink (fun b hb hs=>⟨hb,.inr hs⟩) (uR ((aMg hq).2 _ _ _ hm) j hj),q4⟩
 ·obtain ⟨b,arr,q0,q1,q2,q3⟩:=hM.mp _ _ _ hm
  refine ⟨b,arr,q0,q1,q2,fun j hj => ?_⟩
  obtain ⟨en,r1,r2,r3,r4⟩:=q3 j hj;exact ⟨en,r1,r2,r3,r4.shrink (fun b hb hs=>⟨hb,.inr hs⟩) ((hmp _ _ _ hm).2 j hj)⟩
theorem oE.own{M':Mem}{W W':World}{row:Option Nat}(hmp:nN M M')(hq:nmM M'=true)(hA:aIq C M w b)(h:oE P C M w b M' W)(hg:W.grownBy W' row)
  (hr:∀ r,row=some r→w.heap.size≤r∧∃ o:Obj,W.heap[r]? = some o∧o.isCells=false):oE P C M w b M' W':=by
 obtain ⟨C1,h1,h2⟩:=h;obtain ⟨F',hM,f,hFF,hS⟩:=bYr hmp hq (by rw [bY];exact hA.Fs) h1 h2
 have hwW:w.heap.size≤W.heap.size:=by have:=h2.size;rw [bY] at this;exact this
 have hsame:∀ b,b<W.heap.size→(b<w.heap.size∨tI W b)→W'.heap[b]? = W.heap[b]? := fun b hb hd=>hg.block b hb (fun e=>by
  obtain ⟨q1,o,q2,q3⟩:=hr b e.symm
  rcases hd with hd | hd
  ·omega
  ·exact pY q2 q3 hd)
 rw [bY] at hS
 have hFz:∀ b,F' b→W'.heap[b]? = W.heap[b]? := fun b hb=>hsame b (hM.Fs b hb) (hS b hb)
 have hL:Le ⟨C1.ι,C1.κ,F',[]⟩ ⟨C1.ι,C1.κ,F',[]⟩ M' M' W W':=⟨fun _ o h=>⟨o,h⟩,fun _ _ _ _ _ cs h=>⟨cs,h⟩,fun _ o h o' h' hl=>by rw [h] at h';cases h';exact ⟨hl,rfl,rfl⟩,fun _ h=>h,hFz⟩
 refine ⟨⟨C1.ι,C1.κ,F',[]⟩,⟨fun i ty n cs hm => ?_,fun i ty cs hm => ?_,fun i es cl hm => ?_,hM.inj,hM.nF,fun b hb=>sZ (hM.Fs b hb) hg.size,fun i o b ho hl hb=>sZ (hM.lt i o b ho hl hb) hg.size,hM.lib.le hL⟩,
  ⟨hg.os.trans f.os,hg.tape.trans f.tape,hg.output.trans f.out,by rw [bY];exact iB hwW hg.size,fun c hc hno => ?_,f.ids,f.row,f.liv,fun id o c h q r=>by have:=f.new id o c h q r;rw [bY] at this ⊢;exact this,f.F1,fun c h=>by have:=f.F2 c h;rw [bY] at this ⊢;exact this⟩⟩
 ·rcases hM.row _ _ _ _ hm with h4 | ⟨b,arr,inf,q0,q1,q2,q3,q4,q5,q6,q7,q8⟩
  ·exact .inl h4
  ·exact .inr ⟨b,arr,inf,q0,(hsame b (Eb.1 q1).1 (.inr (mL q1))).trans q1,q2,q3,q4,q5,q6,fun j hj=>(q7 j hj).mono hL.F hL.fz,q8⟩
 ·obtain ⟨b,arr,q0,q1,q2,q3,q4⟩:=hM.box _ _ _ hm
  exact ⟨b,arr,q0,(hsame b (Eb.1 q1).1 (.inr (mL q1))).trans q1,q2,fun j hj=>(q3 j hj).mono hL,q4⟩
 ·obtain ⟨b,arr,q0,q1,q2,q3⟩:=hM.mp _ _ _ hm
  refine ⟨b,arr,q0,(hsame b (Eb.1 q1).1 (.inl (aPx hmp hA.ls f hm q0))).trans q1,q2,fun j hj => ?_⟩
  obtain ⟨en,r1,r2,r3,r4⟩:=q3 j hj;exact ⟨en,r1,r2,r3,r4.mono hL.F hL.fz⟩
 ·rw [bY] at hc
  by_cases e:c=b
  ·subst e
   rw [aIp hc (sZ hc (iB hwW hg.size))]
  ·rw [oX e]
   have:=f.keep c (by rw [bY];exact hc) hno
   rw [oX e] at this
   exact (hsame c (sZ hc hwW) (.inl hc)).trans this
theorem oE.set{M':Mem}{W:World}(hA:aIq C M w b)(h:oE P C M w b M' W)(v:Value):oE P C M w b M' (W.setCell ⟨b,0,none⟩ v):=by
 obtain ⟨C1,h1,h2⟩:=h;have hFb:=oE.nF hA h2;have hlb:=oE.nL hA h2;have hsz:(W.setCell ⟨b,0,none⟩ v).heap.size=W.heap.size:=by simp [World.setCell]
 have hwW:w.heap.size≤W.heap.size:=by have:=h2.size;rw [bY] at this;exact this
 have hFz:∀ c,C1.F c→(W.setCell ⟨b,0,none⟩ v).heap[c]? = W.heap[c]? := fun c hc=>mK v (fun e=>hFb (e ▸ hc))
 have hL:Le C1 C1 M' M' W (W.setCell ⟨b,0,none⟩ v):=⟨fun _ o h=>⟨o,h⟩,fun _ _ _ _ _ cs h=>⟨cs,h⟩,fun _ o h o' h' hl=>by rw [h] at h';cases h';exact ⟨hl,rfl,rfl⟩,fun _ h=>h,hFz⟩
 refine ⟨C1,⟨fun i ty n cs hm => ?_,fun i ty cs hm => ?_,fun i es cl hm => ?_,h1.inj,h1.nF,fun c hc=>by rw [hsz];exact h1.Fs c hc,fun i o c ho hl hb=>by rw [hsz];exact h1.lt i o c ho hl hb,h1.lib.le hL⟩,
  ⟨h2.os,h2.tape,h2.out,by rw [hsz,bY];exact hwW,fun c hc hno => ?_,h2.ids,h2.row,h2.liv,fun id o c h q r=>by have:=h2.new id o c h q r;rw [bY] at this ⊢;exact this,h2.F1,fun c h=>by have:=h2.F2 c h;rw [bY] at this ⊢;exact this⟩⟩
 ·rcases h1.row _ _ _ _ hm with h4 | ⟨c,arr,inf,q0,q1,q2,q3,q4,q5,q6,q7,q8⟩
  ·exact .inl h4
  ·exact .inr ⟨c,arr,inf,q0,(mK v (fun (e:c=b)=>hlb _ _ hm rfl (by rw [← e];exact q0))).trans q1,q2,q3,q4,q5,q6,fun j hj=>(q7 j hj).mono hL.F hL.fz,q8⟩
 ·obtain ⟨c,arr,q0,q1,q2,q3,q4⟩:=h1.box _ _ _ hm
  exact ⟨c,arr,q0,(mK v (fun (e:c=b)=>hlb _ _ hm rfl (by rw [← e];exact q0))).trans q1,q2,fun j hj=>(q3 j hj).mono hL,q4⟩
 ·obtain ⟨c,arr,q0,q1,q2,q3⟩:=h1.mp _ _ _ hm
  refine ⟨c,arr,q0,(mK v (fun (e:c=b)=>hlb _ _ hm rfl (by rw [← e];exact q0))).trans q1,q2,fun j hj => ?_⟩
  obtain ⟨en,r1,r2,r3,r4⟩:=q3 j hj;exact ⟨en,r1,r2,r3,r4.mono hL.F hL.fz⟩
 ·rw [bY] at hc
  by_cases e:c=b
  ·subst e
   rw [aIp hc (by rw [hsz];omega)]
  ·rw [oX e,mK v e]
   have:=h2.keep c (by rw [bY];exact hc) hno
   rw [oX e] at this
   exact this
theorem oE.back{bx:Nat}{o:AO}{M':Mem}{W:World}{C':Cx}(ho:M[bx]? = some (some o))(hl:o.live=true)(hb:C.ι bx=some b)(hbl:b<w.heap.size)(f:Fr (C.close bx false) (aZ M bx (some .dead)) (fZ w b W) C' M' W):Fr C M w C' M' W:=by
 have h1:=cS (C:=C) (w:=w) false ho hl;refine ⟨f.os,f.tape,f.out,by have:=f.size;rw [bY] at this;exact this,fun c hc hno => ?_,fun id o1 h => ?_,fun id o1 h ty n cs hm => ?_,fun id o1 h o2 hm Bh => ?_,fun id o1 c h q r => ?_,fun c h=>f.F1 c (h1.F1 c h),fun c h => ?_⟩
 ·have hne:c≠b:=fun e=>hno bx o ho hl (by rw [e];exact hb)
  have:=f.keep c (by rw [bY];exact hc) (fun id o1 h2 h3 h4=>by
   rcases h1.new id o1 c h2 h3 h4 with q | ⟨D9,o0,q1,q2,q3⟩
   ·omega
   ·exact hno _ _ q1 q2 q3)
  rw [oX hne] at this
  exact this
 ·obtain ⟨⟨o2,h2⟩,h3,h4⟩:=h1.ids id o1 h
  obtain ⟨h5,h6,h7⟩:=f.ids id o2 h2;exact ⟨h5,h6.trans h3,h7.trans h4⟩
 ·obtain ⟨⟨o2,h2⟩,_⟩:=h1.ids id o1 h
  obtain ⟨Bm,h3⟩:=f.row id o2 h2 _ _ _ hm;exact h1.row id o1 h _ _ _ h3
 ·obtain ⟨⟨o3,h3⟩,_⟩:=h1.ids id o1 h
  exact h1.liv id o1 h o3 h3 (f.liv id o3 h3 o2 hm Bh)
 ·rcases f.new id o1 c h q r with h2 | ⟨D9,o0,q1,q2,q3⟩
  ·rw [bY] at h2;exact .inl h2
  ·exact h1.new _ _ _ q1 q2 q3
 ·rcases f.F2 c h with h2 | h2 | ⟨D9,o0,q1,q2,q3⟩
  ·exact h1.F2 c h2
  ·rw [bY] at h2;exact .inr (.inl h2)
  ·rcases h1.new _ _ _ q1 q2 q3 with h4 | h4
   ·exact .inr (.inl h4)
   ·exact .inr (.inr h4)
theorem aUw{fid bx:Nat}{o:AO}{u:Value}(h:Rep C M w (.fn fid [] [.ptr bx 0]) u)(ho:M[bx]? = some (some o))(hl:o.live=true):∃ c,u = .func (.func fid) #[] #[.pointer (some ⟨c,0,none⟩)]∧C.ι bx=some c:=by
 cases h with
 | fn _ _ _ us vs h1 h2 h3 h4 =>
  have e1:us = #[]:=Array.eq_empty_of_size_eq_zero (by simpa using h1)
  subst e1;have h5:=h4 0 (by simp)
  obtain ⟨v,rfl⟩:∃ v,vs = #[v]:=by
   have:vs.size=1:=by simpa using h2
   exact ⟨vs[0],by ext i Gu Dm;(· simpa using this);(· have:i=0:=(by omega);subst this;rfl)⟩
  simp at h5
  cases h5 with
  | ptr _ _ _ _ _ q _ =>
   obtain ⟨c,rfl,q2⟩:=q o ho hl;exact ⟨c,rfl,q2⟩
def itB{X β ε:Type}(f:β→X→Except ε β):β→List X→Except ε β
 | a,[] => .ok a
 | a,x::r=>match f a x with
  | .ok a'=>itB f a' r
  | .error e => .error e
theorem aIr{X β ε:Type}(f:β→X→Except ε β):∀ (l:List X) (a:β) (x:X),itB f a (l++[x])=match itB f a l with
  | .ok a'=>f a' x
  | .error e => .error e
 | [],a,x=>by
  show (match f a x with | .ok a'=>itB f a' [] | .error e => .error e)=f a x
  cases f a x <;> rfl
 | y::l,a,x=>by
  show (match f a y with | .ok a'=>itB f a' (l++[x]) | .error e => .error e)=_
  show _=match (match f a y with | .ok a'=>itB f a' l | .error e => .error e) with | .ok a'=>f a' x | .error e => .error e
  cases f a y with
  | ok a'=>exact aIr f l a' x
  | error e=>rfl
theorem aCj{X β ε:Type}(f:β→X→Except ε β){e:ε}:∀ (l m:List X) (a:β),itB f a l = .error e→itB f a (l++m) = .error e
 | [],m,a,h=>by cases h
 | y::l,m,a,h=>by
  have h':(match f a y with | .ok a'=>itB f a' l | .error e => .error e) = .error e:=h
  show (match f a y with | .ok a'=>itB f a' (l++m) | .error e => .error e) = .error e
  cases hf:f a y with
  | ok a'=>rw [hf] at h';exact aCj f l m a' h'
  | error e'=>rw [hf] at h';exact h'
end KV
end Go.Proofs
end
namespace Go.Proofs
namespace KV
open Tryz
section
variable {m:Int}{base:Nat}

theorem bTu:FV Tp 187 [(pI m),(.fn 188 [] []),(.fn 120 [] [])] base (.agg [(.fn 224 [] [(.rp [(PV.fn 188 [] [])] 0)]),(.fn 225 [] [(.rp [(PV.fn 120 [] [])] 0)]),(.fn 226 [] [(.rp [(aB m)] 0)])]) []:=FV.fi func187 [] gn
theorem bTv:FV Tp 187 [(pI m),(.fn 39 [] []),(.fn 189 [] [])] base (.agg [(.fn 224 [] [(.rp [(PV.fn 39 [] [])] 0)]),(.fn 225 [] [(.rp [(PV.fn 189 [] [])] 0)]),(.fn 226 [] [(.rp [(aB m)] 0)])]) []:=FV.fi func187 [] gn
theorem bTw:FV Tp 190 [(.fn 191 [] [])] base (.agg [(.fn 227 [] [(.rp [(PV.fn 191 [] [])] 0)]),(.fn 228 [] []),(.fn 229 [] [(.rp [(PV.fn 191 [] [])] 0)])]) []:=FV.fi func190 [] gn
theorem bTx:FV Tp 190 [(.fn 192 [] [])] base (.agg [(.fn 227 [] [(.rp [(PV.fn 192 [] [])] 0)]),(.fn 228 [] []),(.fn 229 [] [(.rp [(PV.fn 192 [] [])] 0)])]) []:=FV.fi func190 [] gn
theorem eL:FV Tp 121 [] base (.agg [(.fn 224 [] [(.rp [(PV.fn 188 [] [])] 0)]),(.fn 225 [] [(.rp [(PV.fn 120 [] [])] 0)]),(.fn 226 [] [(.rp [(aB 999999)] 0)]),(.fn 224 [] [(.rp [(PV.fn 39 [] [])] 0)]),(.fn 225 [] [(.rp [(PV.fn 189 [] [])] 0)]),(.fn 226 [] [(.rp [(aB 360000)] 0)]),(.fn 227 [] [(.rp [(PV.fn 191 [] [])] 0)]),(.fn 228 [] []),(.fn 229 [] [(.rp [(PV.fn 191 [] [])] 0)]),(.fn 227 [] [(.rp [(PV.fn 192 [] [])] 0)]),(.fn 228 [] []),(.fn 229 [] [(.rp [(PV.fn 192 [] [])] 0)])]) []:=have k1:=fk 1 (bTu (m:=(999999:Int))) rfl;have k2:=fk 1 (bTv (m:=(360000:Int))) rfl;have k3:=fk 1 bTw rfl;have k4:=fk 1 bTx rfl;FV.fi func121 [k1.o,k2.o,k3.o,k4.o] (gc k4 (gc k3 (gc k2 (gc k1 gn))))
end
section
variable {r0:Bool}{a m hi lo r1:Int}{i i' Aq base:Nat}

noncomputable abbrev nY:Code:=sub (cd Tryz.f281) [1,0,1,0,0]
theorem bSl{x:UInt8}(h0:(x.toNat:Int)=120):FV Tp 231 [(.p (.v (.int .u8 (x.toNat:Int))))] base (pB true) []:=FV.fi func231 [bT,bT,bT] (Au (dG h0) gn)
theorem bSm{x:UInt8}(h0:(x.toNat:Int)≠120)(Am:r0=((x.toNat:Int) == 111)):FV Tp 231 [(.p (.v (.int .u8 (x.toNat:Int))))] base (pB r0) []:=by
 subst Am;exact FV.fi func231 [bF,bF,bF] (Au (bI h0) gn)
theorem bSn{x:UInt8}(h0:(97:Int)≤(x.toNat:Int))(Am:r0=(decide ((x.toNat:Int)≤122))):FV Tp 232 [(.p (.v (.int .u8 (x.toNat:Int))))] base (pB r0) []:=by
 subst Am;exact FV.fi func232 [bT,bT,bT] (Au (kT h0) gn)
theorem bSo{x:UInt8}(h0:(x.toNat:Int)<97):FV Tp 232 [(.p (.v (.int .u8 (x.toNat:Int))))] base (pB false) []:=FV.fi func232 [bF,bF,bF] (Au (fA h0) gn)
def isr(x:UInt8):Bool:=decide ((x.toNat:Int)=120) || ((x.toNat:Int) == 111)
theorem bSp(x:UInt8){base:Nat}:FV Tp 231 [.p (.v (.int .u8 (x.toNat:Int)))] base (pB (isr x)) []:=by
 by_cases h:(x.toNat:Int)=120
 ·have e:isr x=true:=by simp only [isr,h,decide_true,Bool.true_or]
  rw [e];exact bSl h
 ·exact bSm h (by simp [isr,h])
def isl(x:UInt8):Bool:=decide ((97:Int)≤(x.toNat:Int)) && decide ((x.toNat:Int)≤122)
theorem bSq(x:UInt8){base:Nat}:FV Tp 232 [.p (.v (.int .u8 (x.toNat:Int)))] base (pB (isl x)) []:=by
 by_cases h:(97:Int)≤(x.toNat:Int)
 ·exact bSn h (by simp [isl,h])
 ·have e:isl x=false:=by simp only [isl,h,decide_false,Bool.false_and]
  rw [e];exact bSo (by omega)
theorem bJx{x:UInt8}(Am:r0=(!(isr x))):FMM Tp 239 [(.p (.v (.int .u8 (x.toNat:Int)))),(.ptr 0 0)] [some (.box 289 [(.fn 231 [] [])])] (pB r0) [some (.box 289 [(.fn 231 [] [])])]:=by
 subst Am;exact FMM.fi 1 gE func239 [.c (pB (isr x)) []] (gc (fk 1 (bSp x) rfl) gn)
theorem aQd(x:UInt8):FMM Tp 239 [.p (.v (.int .u8 (x.toNat:Int))),.ptr 0 0] [some (.box 289 [(.fn 231 [] [])])] (pB (!(isr x))) [some (.box 289 [(.fn 231 [] [])])]:=bJx rfl
def fK(l:List UInt8)(i:Nat):St:=⟨fr 19 [(0,(.p (.sl l.length (l.map dF)))),(1,(.fn 239 [] [(.ptr 0 0)])),(7,(pI (l.length:Int))),(8,(pI (i:Int)))],[some (.box 289 [(.fn 231 [] [])])]⟩
theorem bJy{l:List UInt8}(Ay:aF Tp 1 nY (fK l 0) (.exit 0) (fK l Aq)):FMM Tp 281 [(.p (.sl l.length (l.map dF))),(.fn 239 [] [(.ptr 0 0)])] [some (.box 289 [(.fn 231 [] [])])] (pI (-1)) [some (.box 289 [(.fn 231 [] [])])]:=FMM.fi 1 gE func281 [Ay.k 6 (gZ bw)] (gc Ay.code gn)
theorem bJz{l:List UInt8}(Ay:aF Tp 1 nY (fK l 0) .ret (cG (fK l Aq) [(4,(pI (Aq:Int)))])):FMM Tp 281 [(.p (.sl l.length (l.map dF))),(.fn 239 [] [(.ptr 0 0)])] [some (.box 289 [(.fn 231 [] [])])] (pI (Aq:Int)) [some (.box 289 [(.fn 231 [] [])])]:=FMM.fi 1 gE func281 [Ay.k 6 (gZ bw)] (gc Ay.code gn)
section
variable{l:List UInt8}{Ab:UInt8}(h0:(i:Int)<(l.length:Int))(h1:l[i]? = some Ab)
include h0 h1
theorem aMr(h2:(isr Ab)=false):aA Tp 1 nY (fK l i) .ret (cG (fK l i) [(4,(pI (i:Int)))]):=have k1:=mq [0] 1 (aQd Ab);aA.fi (gZ bj) [bT,.x (.v (.int .u8 (Ab.toNat:Int))),k1.o,bT] (gc (cY h2) (gc k1 (gc (atm dF h1) (gc (ixn dF h1) (g0 h0)))))
theorem aMs(h2:(isr Ab)=true)(h3:ce i)(Ai:i'=(i+1)):aA Tp 1 nY (fK l i) .normal (fK l i'):=by
 subst Ai;have k1:=mq [0] 1 (aQd Ab);exact aA.fi (gZ bw) [bT,.x (.v (.int .u8 (Ab.toNat:Int))),k1.o,bF] (gc h3 (gc (aV h2) (gc k1 (gc (atm dF h1) (gc (ixn dF h1) (g0 h0))))))
end
theorem aMt{l:List UInt8}(h0:(l.length:Int)≤(i:Int)):aA Tp 1 nY (fK l i) (.exit 0) (fK l i):=aA.fi (gZ bw) [bF] (gc (aO h0) gn)
theorem bKa(l:List UInt8)(hl:l.length≤100000):FMM Tp 281 [.p (.sl l.length (l.map dF)),(.fn 239 [] [(.ptr 0 0)])] [some (.box 289 [(.fn 231 [] [])])] (pI (mJ (fun x => !(isr x)) l)) [some (.box 289 [(.fn 231 [] [])])]:=by
 rcases aF.find (P:=Tp) (k:=1) (b:=nY) (fun i=>fK l i) (fun i _=>cG (fK l i) [(4,.p (aB (i:Int)))]) (fK l l.length) .ret (.exit 0) (by simp) (by simp) (fun x => !(isr x)) l
  (fun i x hx hp=>aMs (by have:=bH hx;omega) hx (by simpa using hp) (aW (by have:=bH hx;omega)) rfl)
  (fun i x hx hp=>aMr (by have:=bH hx;omega) hx (by simpa using hp))
  (aMt (l:=l) (i:=l.length) (by omega)) with ⟨i,x,h1,h2,h3,h4⟩ | ⟨h1,h2,h3⟩
 ·rw [iP h2];exact bJz h4
 ·rw [iQ h1];exact bJy h3
theorem bKb{l:List UInt8}(h0:l.length≤100000)(Am:r0=(decide ((mJ (fun x => !(isr x)) l) ≥ 0))):FMM Tp 238 [(.p (.sl l.length (l.map dF))),(.fn 239 [] [(.ptr 0 0)])] [some (.box 289 [(.fn 231 [] [])])] (pB r0) [some (.box 289 [(.fn 231 [] [])])]:=by
 subst Am;have k1:=mq [0] 1 (bKa l h0);exact FMM.fi 1 gE func238 [k1.o] (gc k1 gn)
theorem bKc(l:List UInt8)(hl:l.length≤100000):FMM Tp 238 [.p (.sl l.length (l.map dF)),(.fn 239 [] [(.ptr 0 0)])] [some (.box 289 [(.fn 231 [] [])])] (pB (l.any (fun x => !(isr x)))) [some (.box 289 [(.fn 231 [] [])])]:=bKb hl (kP _ _).symm
theorem bKd{l:List UInt8}(h0:l.length≤100000)(Am:r0=(!(l.any (fun x => !(isr x))))):FV Tp 196 [(.p (.sl l.length (l.map dF))),(.fn 231 [] [])] base (pB r0) []:=by
 subst Am;have k1:=mq [0] 1 (bKc l h0);exact FV.fi func196 [k1.o] (gc k1 gn)
theorem bKe(l:List UInt8)(hl:l.length≤100000){base:Nat}:FV Tp 196 [.p (.sl l.length (l.map dF)),(.fn 231 [] [])] base (pB (l.all isr)) []:=bKd hl (by rw [List.all_eq_not_any_not])
theorem bKf{x:UInt8}(Am:r0=(!(isl x))):FMM Tp 239 [(.p (.v (.int .u8 (x.toNat:Int)))),(.ptr 0 0)] [some (.box 289 [(.fn 232 [] [])])] (pB r0) [some (.box 289 [(.fn 232 [] [])])]:=by
 subst Am;exact FMM.fi 1 gE func239 [.c (pB (isl x)) []] (gc (fk 1 (bSq x) rfl) gn)
theorem aQe(x:UInt8):FMM Tp 239 [.p (.v (.int .u8 (x.toNat:Int))),.ptr 0 0] [some (.box 289 [(.fn 232 [] [])])] (pB (!(isl x))) [some (.box 289 [(.fn 232 [] [])])]:=bKf rfl
def fL(l:List UInt8)(i:Nat):St:=⟨fr 19 [(0,(.p (.sl l.length (l.map dF)))),(1,(.fn 239 [] [(.ptr 0 0)])),(7,(pI (l.length:Int))),(8,(pI (i:Int)))],[some (.box 289 [(.fn 232 [] [])])]⟩
theorem bKg{l:List UInt8}(Ay:aF Tp 1 nY (fL l 0) (.exit 0) (fL l Aq)):FMM Tp 281 [(.p (.sl l.length (l.map dF))),(.fn 239 [] [(.ptr 0 0)])] [some (.box 289 [(.fn 232 [] [])])] (pI (-1)) [some (.box 289 [(.fn 232 [] [])])]:=FMM.fi 1 gE func281 [Ay.k 6 (gZ bw)] (gc Ay.code gn)
theorem bKh{l:List UInt8}(Ay:aF Tp 1 nY (fL l 0) .ret (cG (fL l Aq) [(4,(pI (Aq:Int)))])):FMM Tp 281 [(.p (.sl l.length (l.map dF))),(.fn 239 [] [(.ptr 0 0)])] [some (.box 289 [(.fn 232 [] [])])] (pI (Aq:Int)) [some (.box 289 [(.fn 232 [] [])])]:=FMM.fi 1 gE func281 [Ay.k 6 (gZ bw)] (gc Ay.code gn)
section
variable{l:List UInt8}{Ab:UInt8}(h0:(i:Int)<(l.length:Int))(h1:l[i]? = some Ab)
include h0 h1
theorem aMu(h2:(isl Ab)=false):aA Tp 1 nY (fL l i) .ret (cG (fL l i) [(4,(pI (i:Int)))]):=have k1:=mq [0] 1 (aQe Ab);aA.fi (gZ bj) [bT,.x (.v (.int .u8 (Ab.toNat:Int))),k1.o,bT] (gc (cY h2) (gc k1 (gc (atm dF h1) (gc (ixn dF h1) (g0 h0)))))
theorem aMv(h2:(isl Ab)=true)(h3:ce i)(Ai:i'=(i+1)):aA Tp 1 nY (fL l i) .normal (fL l i'):=by
 subst Ai;have k1:=mq [0] 1 (aQe Ab);exact aA.fi (gZ bw) [bT,.x (.v (.int .u8 (Ab.toNat:Int))),k1.o,bF] (gc h3 (gc (aV h2) (gc k1 (gc (atm dF h1) (gc (ixn dF h1) (g0 h0))))))
end
theorem aMw{l:List UInt8}(h0:(l.length:Int)≤(i:Int)):aA Tp 1 nY (fL l i) (.exit 0) (fL l i):=aA.fi (gZ bw) [bF] (gc (aO h0) gn)
theorem bKi(l:List UInt8)(hl:l.length≤100000):FMM Tp 281 [.p (.sl l.length (l.map dF)),(.fn 239 [] [(.ptr 0 0)])] [some (.box 289 [(.fn 232 [] [])])] (pI (mJ (fun x => !(isl x)) l)) [some (.box 289 [(.fn 232 [] [])])]:=by
 rcases aF.find (P:=Tp) (k:=1) (b:=nY) (fun i=>fL l i) (fun i _=>cG (fL l i) [(4,.p (aB (i:Int)))]) (fL l l.length) .ret (.exit 0) (by simp) (by simp) (fun x => !(isl x)) l
  (fun i x hx hp=>aMv (by have:=bH hx;omega) hx (by simpa using hp) (aW (by have:=bH hx;omega)) rfl)
  (fun i x hx hp=>aMu (by have:=bH hx;omega) hx (by simpa using hp))
  (aMw (l:=l) (i:=l.length) (by omega)) with ⟨i,x,h1,h2,h3,h4⟩ | ⟨h1,h2,h3⟩
 ·rw [iP h2];exact bKh h4
 ·rw [iQ h1];exact bKg h3
theorem bKj{l:List UInt8}(h0:l.length≤100000)(Am:r0=(decide ((mJ (fun x => !(isl x)) l) ≥ 0))):FMM Tp 238 [(.p (.sl l.length (l.map dF))),(.fn 239 [] [(.ptr 0 0)])] [some (.box 289 [(.fn 232 [] [])])] (pB r0) [some (.box 289 [(.fn 232 [] [])])]:=by
 subst Am;have k1:=mq [0] 1 (bKi l h0);exact FMM.fi 1 gE func238 [k1.o] (gc k1 gn)
theorem bKk(l:List UInt8)(hl:l.length≤100000):FMM Tp 238 [.p (.sl l.length (l.map dF)),(.fn 239 [] [(.ptr 0 0)])] [some (.box 289 [(.fn 232 [] [])])] (pB (l.any (fun x => !(isl x)))) [some (.box 289 [(.fn 232 [] [])])]:=bKj hl (kP _ _).symm
theorem bKl{l:List UInt8}(h0:l.length≤100000)(Am:r0=(!(l.any (fun x => !(isl x))))):FV Tp 196 [(.p (.sl l.length (l.map dF))),(.fn 232 [] [])] base (pB r0) []:=by
 subst Am;have k1:=mq [0] 1 (bKk l h0);exact FV.fi func196 [k1.o] (gc k1 gn)
theorem bKm(l:List UInt8)(hl:l.length≤100000){base:Nat}:FV Tp 196 [.p (.sl l.length (l.map dF)),(.fn 232 [] [])] base (pB (l.all isl)) []:=bKl hl (by rw [List.all_eq_not_any_not])
theorem bSr{s:List UInt8}(h0:(within (s.length:Int) lo hi)=true)(h1:s.length≤1000000000)(h2:s.length≤100000)(Am:r0=(s.all isr)):FV Tp 230 [(.p (aD s)),(pI lo),(pI hi),(.fn 231 [] [])] base (pB r0) []:=by
 subst Am;have k1:=fk 0 (lN (s.length:Int) lo hi) rfl;exact FV.fi func230 [k1.o,bT,bT,bT,bT,.c (pB (s.all isr)) [],bT] (gc h0 (gc (fk 0 (bKe s h2) rfl) (A1 h0 (gc h1 (A1 h0 (gc k1 gn))))))
theorem bSs{s:List UInt8}(h0:(within (s.length:Int) lo hi)=false):FV Tp 230 [(.p (aD s)),(pI lo),(pI hi),(.fn 231 [] [])] base (pB false) []:=have k1:=fk 0 (lN (s.length:Int) lo hi) rfl;FV.fi func230 ([k1.o]++rF 5) (Cr h0 (gc k1 gn))
theorem bSt{s:List UInt8}(h0:(within (s.length:Int) lo hi)=true)(h1:s.length≤1000000000)(h2:s.length≤100000)(Am:r0=(s.all isl)):FV Tp 230 [(.p (aD s)),(pI lo),(pI hi),(.fn 232 [] [])] base (pB r0) []:=by
 subst Am;have k1:=fk 0 (lN (s.length:Int) lo hi) rfl;exact FV.fi func230 [k1.o,bT,bT,bT,bT,.c (pB (s.all isl)) [],bT] (gc h0 (gc (fk 0 (bKm s h2) rfl) (A1 h0 (gc h1 (A1 h0 (gc k1 gn))))))
theorem bSu{s:List UInt8}(h0:(within (s.length:Int) lo hi)=false):FV Tp 230 [(.p (aD s)),(pI lo),(pI hi),(.fn 232 [] [])] base (pB false) []:=have k1:=fk 0 (lN (s.length:Int) lo hi) rfl;FV.fi func230 ([k1.o]++rF 5) (Cr h0 (gc k1 gn))
def oZ(s:List UInt8):Bool:=within (s.length:Int) 5 8 && s.all isr
def pA(s:List UInt8):Bool:=within (s.length:Int) 1 12 && s.all isl
theorem bSv(s:List UInt8)(lo hi:Int)(h:hi≤100000){base:Nat}:FV Tp 230 [.p (aD s),.p (aB lo),.p (aB hi),.fn 231 [] []] base (pB (within (s.length:Int) lo hi && s.all isr)) []:=by
 by_cases q:within (s.length:Int) lo hi=true
 ·have:=dN.1 q
  exact bSr q (by omega) (by omega) (by rw [q,aTc])
 ·have e:within (s.length:Int) lo hi=false:=by simpa using q
  rw [e,Bool.false_and];exact bSs e
theorem bSw(s:List UInt8)(lo hi:Int)(h:hi≤100000){base:Nat}:FV Tp 230 [.p (aD s),.p (aB lo),.p (aB hi),.fn 232 [] []] base (pB (within (s.length:Int) lo hi && s.all isl)) []:=by
 by_cases q:within (s.length:Int) lo hi=true
 ·have:=dN.1 q
  exact bSt q (by omega) (by omega) (by rw [q,aTc])
 ·have e:within (s.length:Int) lo hi=false:=by simpa using q
  rw [e,Bool.false_and];exact bSu e
theorem bSx{s:List UInt8}(h0:(8:Int)≤100000)(Am:r0=(within (s.length:Int) 5 8 && s.all isr)):FV Tp 191 [(.p (aD s))] base (pB r0) []:=by
 subst Am;have k1:=fk 0 (bSv s 5 8 h0) rfl;exact FV.fi func191 [k1.o] (gc k1 gn)
theorem bSy{s:List UInt8}(h0:(12:Int)≤100000)(Am:r0=(within (s.length:Int) 1 12 && s.all isl)):FV Tp 192 [(.p (aD s))] base (pB r0) []:=by
 subst Am;have k1:=fk 0 (bSw s 1 12 h0) rfl;exact FV.fi func192 [k1.o] (gc k1 gn)
theorem aFd(s:List UInt8){base:Nat}:FV Tp 191 [.p (aD s)] base (pB (oZ s)) []:=bSx (by omega) rfl
theorem aFe(s:List UInt8){base:Nat}:FV Tp 192 [.p (aD s)] base (pB (pA s)) []:=bSy (by omega) rfl
theorem bSz{s:List UInt8}{r0:Int}(h0:0≤(999999:Int)∧(999999:Int)≤1000000000)(Am:r0=((bL s 999999).1))(Eh:r1=((bL s 999999).2)):FV Tp 188 [(.p (aD s))] base (.tup [(pI r0),(pI r1)]) []:=by
 subst Am Eh;have k1:=fk 0 (fT s 999999 h0) rfl;exact FV.fi func188 [k1.o] (gc k1 gn)
theorem bTa(s:List UInt8){base:Nat}:FV Tp 188 [.p (aD s)] base (.tup [.p (aB (bL s 999999).1),.p (aB (bL s 999999).2)]) []:=bSz (by omega) rfl rfl
theorem bTb{n:Int}:FV Tp 189 [(pI n)] base (.p (aD ((ptM n).1))) []:=have k1:=fk 0 (aIf n) rfl;FV.fi func189 [k1.o] (gc k1 gn)
theorem bTc(n:Int){base:Nat}:FV Tp 189 [.p (aB n)] base (.p (aD (ptM n).1)) []:=bTb
theorem bTd{s:List UInt8}{r0:Int}(Am:r0=((bL s 999999).1))(Eh:r1=((bL s 999999).2)):FV Tp 224 [(.p (aD s)),(.rp [(PV.fn 188 [] [])] 0)] base (.tup [(.p (.agg [(aB r0),(aD ([]:List UInt8))])),(pI r1)]) []:=by
 subst Am Eh;have k1:=fk 1 (bTa s) rfl;exact FV.fi func224 [.x (PV.fn 188 [] []),k1.o] (gc k1 (gr (PV.fn 188 [] []) gn))
theorem bTe{s:List UInt8}{r0:Int}(h0:s.length≤90000)(Am:r0=((paM s).1))(Eh:r1=((paM s).2)):FV Tp 224 [(.p (aD s)),(.rp [(PV.fn 39 [] [])] 0)] base (.tup [(.p (.agg [(aB r0),(aD ([]:List UInt8))])),(pI r1)]) []:=by
 subst Am Eh;have k1:=fk 1 (tC s h0) rfl;exact FV.fi func224 [.x (PV.fn 39 [] []),k1.o] (gc k1 (gr (PV.fn 39 [] []) gn))
theorem bTf{z:List UInt8}(h0:inR a):FV Tp 225 [(.p (.agg [(aB a),(aD z)])),(.rp [(PV.fn 120 [] [])] 0)] base (.p (aD (Lib.itoa a))) []:=have k1:=fk 1 (dC a h0) rfl;FV.fi func225 [.x (PV.fn 120 [] []),k1.o] (gc k1 (gr (PV.fn 120 [] []) gn))
theorem bTg{z:List UInt8}:FV Tp 225 [(.p (.agg [(aB a),(aD z)])),(.rp [(PV.fn 189 [] [])] 0)] base (.p (aD ((ptM a).1))) []:=have k1:=fk 1 (bTc a) rfl;FV.fi func225 [.x (PV.fn 189 [] []),k1.o] (gc k1 (gr (PV.fn 189 [] []) gn))
theorem bDl{z:List UInt8}(h0:(within a 0 m)=false):FV Tp 226 [(.p (.agg [(aB a),(aD z)])),(.rp [(aB m)] 0)] base (pI 3) []:=have k1:=fk 1 (lN a 0 m) rfl;FV.fi func226 [.x (aB m),k1.o,bT] (gc (cY h0) (gc k1 (gr (aB m) gn)))
theorem bDm{z:List UInt8}(h0:(within a 0 m)=true)(h1:z≠([]:List UInt8)):FV Tp 226 [(.p (.agg [(aB a),(aD z)])),(.rp [(aB m)] 0)] base (pI 11) []:=have k1:=fk 1 (lN a 0 m) rfl;FV.fi func226 [.x (aB m),k1.o,bF,bT] (gc (cY (decide_eq_false h1)) (gc (aV h0) (gc k1 (gr (aB m) gn))))
theorem bDn{z:List UInt8}(h0:(within a 0 m)=true)(h1:z=([]:List UInt8)):FV Tp 226 [(.p (.agg [(aB a),(aD z)])),(.rp [(aB m)] 0)] base (pI 0) []:=have k1:=fk 1 (lN a 0 m) rfl;FV.fi func226 [.x (aB m),k1.o,bF,bF] (gc (aV (decide_eq_true h1)) (gc (aV h0) (gc k1 (gr (aB m) gn))))
theorem bTh{s:List UInt8}(h0:(oZ s)=false):FV Tp 227 [(.p (aD s)),(.rp [(PV.fn 191 [] [])] 0)] base (.tup [(.p (.agg [(aB 0),(aD ([]:List UInt8))])),(pI 11)]) []:=FV.fi func227 [.x (PV.fn 191 [] []),.c (pB (oZ s)) [],bT] (gc (cY h0) (gc (fk 1 (aFd s) rfl) (gr (PV.fn 191 [] []) gn)))
theorem bTi{s:List UInt8}(h0:(oZ s)=true):FV Tp 227 [(.p (aD s)),(.rp [(PV.fn 191 [] [])] 0)] base (.tup [(.p (.agg [(aB 0),(aD s)])),(pI 0)]) []:=FV.fi func227 [.x (PV.fn 191 [] []),.c (pB (oZ s)) [],bF] (gc (aV h0) (gc (fk 1 (aFd s) rfl) (gr (PV.fn 191 [] []) gn)))
theorem bTj{s:List UInt8}(h0:(pA s)=false):FV Tp 227 [(.p (aD s)),(.rp [(PV.fn 192 [] [])] 0)] base (.tup [(.p (.agg [(aB 0),(aD ([]:List UInt8))])),(pI 11)]) []:=FV.fi func227 [.x (PV.fn 192 [] []),.c (pB (pA s)) [],bT] (gc (cY h0) (gc (fk 1 (aFe s) rfl) (gr (PV.fn 192 [] []) gn)))
theorem bTk{s:List UInt8}(h0:(pA s)=true):FV Tp 227 [(.p (aD s)),(.rp [(PV.fn 192 [] [])] 0)] base (.tup [(.p (.agg [(aB 0),(aD s)])),(pI 0)]) []:=FV.fi func227 [.x (PV.fn 192 [] []),.c (pB (pA s)) [],bF] (gc (aV h0) (gc (fk 1 (aFe s) rfl) (gr (PV.fn 192 [] []) gn)))
theorem bTl{z:List UInt8}:FV Tp 228 [(.p (.agg [(aB a),(aD z)]))] base (.p (aD z)) []:=FV.fi func228 [] gn
theorem bTm{z:List UInt8}(h0:a≠0):FV Tp 229 [(.p (.agg [(aB a),(aD z)])),(.rp [(PV.fn 191 [] [])] 0)] base (pI 11) []:=FV.fi func229 (rT 6) (F6 (dE h0) gn)
theorem bTn{z:List UInt8}(h0:a=0)(h1:(oZ z)=false):FV Tp 229 [(.p (.agg [(aB a),(aD z)])),(.rp [(PV.fn 191 [] [])] 0)] base (pI 11) []:=FV.fi func229 [bF,.x (PV.fn 191 [] []),bF,bF,bF,.c (pB (oZ z)) [],bF,bF,bT] (gc (cY h1) (A1 (bB h0) (gc (fk 1 (aFd z) rfl) (Au (bB h0) (gr (PV.fn 191 [] []) (gc (bB h0) gn))))))
theorem bTo{z:List UInt8}(h0:a=0)(h1:(oZ z)=true):FV Tp 229 [(.p (.agg [(aB a),(aD z)])),(.rp [(PV.fn 191 [] [])] 0)] base (pI 0) []:=FV.fi func229 [bF,.x (PV.fn 191 [] []),bF,bF,bF,.c (pB (oZ z)) [],bF,bF,bF] (gc (aV h1) (A1 (bB h0) (gc (fk 1 (aFd z) rfl) (Au (bB h0) (gr (PV.fn 191 [] []) (gc (bB h0) gn))))))
theorem bTp{z:List UInt8}(h0:a≠0):FV Tp 229 [(.p (.agg [(aB a),(aD z)])),(.rp [(PV.fn 192 [] [])] 0)] base (pI 11) []:=FV.fi func229 (rT 6) (F6 (dE h0) gn)
theorem bTq{z:List UInt8}(h0:a=0)(h1:(pA z)=false):FV Tp 229 [(.p (.agg [(aB a),(aD z)])),(.rp [(PV.fn 192 [] [])] 0)] base (pI 11) []:=FV.fi func229 [bF,.x (PV.fn 192 [] []),bF,bF,bF,.c (pB (pA z)) [],bF,bF,bT] (gc (cY h1) (A1 (bB h0) (gc (fk 1 (aFe z) rfl) (Au (bB h0) (gr (PV.fn 192 [] []) (gc (bB h0) gn))))))
theorem bTr{z:List UInt8}(h0:a=0)(h1:(pA z)=true):FV Tp 229 [(.p (.agg [(aB a),(aD z)])),(.rp [(PV.fn 192 [] [])] 0)] base (pI 0) []:=FV.fi func229 [bF,.x (PV.fn 192 [] []),bF,bF,bF,.c (pB (pA z)) [],bF,bF,bF] (gc (aV h1) (A1 (bB h0) (gc (fk 1 (aFe z) rfl) (Au (bB h0) (gr (PV.fn 192 [] []) (gc (bB h0) gn))))))
abbrev Cel:=Int × List UInt8
def cE(c:Cel):List PV:=[aB c.1,aD c.2]
def rdM(j:Int)(s:List UInt8):Cel × Int:=if j=0 then (((bL s 999999).1,[]),(bL s 999999).2) else if j=1 then (((paM s).1,[]),(paM s).2) else if (if j=2 then oZ s else pA s)=true then ((0,s),0) else ((0,[]),11)
def wrM(j:Int)(c:Cel):List UInt8:=if j=0 then Lib.itoa c.1 else if j=1 then (ptM c.1).1 else c.2
def ckM(j:Int)(c:Cel):Int:=if j=0∨j=1 then (if within c.1 0 (if j=0 then 999999 else 360000)=false then 3 else if c.2≠[] then 11 else 0) else if c.1≠0∨(if j=2 then oZ c.2 else pA c.2)=false then 11 else 0
theorem bDo(s:List UInt8){base:Nat}:FV Tp 224 [.p (aD s),.rp [PV.fn 188 [] []] 0] base (.tup [.p (.agg [aB (rdM 0 s).1.1,aD (rdM 0 s).1.2]),.p (aB (rdM 0 s).2)]) []:=bTd rfl rfl
theorem bDp(s:List UInt8)(h:s.length≤90000){base:Nat}:FV Tp 224 [.p (aD s),.rp [PV.fn 39 [] []] 0] base (.tup [.p (.agg [aB (rdM 1 s).1.1,aD (rdM 1 s).1.2]),.p (aB (rdM 1 s).2)]) []:=bTe h rfl rfl
theorem bDq(s:List UInt8){base:Nat}:FV Tp 227 [.p (aD s),.rp [PV.fn 191 [] []] 0] base (.tup [.p (.agg [aB (rdM 2 s).1.1,aD (rdM 2 s).1.2]),.p (aB (rdM 2 s).2)]) []:=by
 by_cases h:oZ s=true
 ·have e:rdM 2 s=((0,s),0):=by simp [rdM,h]
  rw [e];exact bTi h
 ·have e:rdM 2 s=((0,[]),11):=by simp [rdM,h]
  rw [e];exact bTh (by simpa using h)
theorem bDr(s:List UInt8){base:Nat}:FV Tp 227 [.p (aD s),.rp [PV.fn 192 [] []] 0] base (.tup [.p (.agg [aB (rdM 3 s).1.1,aD (rdM 3 s).1.2]),.p (aB (rdM 3 s).2)]) []:=by
 by_cases h:pA s=true
 ·have e:rdM 3 s=((0,s),0):=by simp [rdM,h]
  rw [e];exact bTk h
 ·have e:rdM 3 s=((0,[]),11):=by simp [rdM,h]
  rw [e];exact bTj (by simpa using h)
theorem bTs(a:Int)(z:List UInt8)(h:inR a){base:Nat}:FV Tp 225 [.p (.agg [aB a,aD z]),.rp [PV.fn 120 [] []] 0] base (.p (aD (wrM 0 (a,z)))) []:=bTf h
theorem bTt(a:Int)(z:List UInt8){base:Nat}:FV Tp 225 [.p (.agg [aB a,aD z]),.rp [PV.fn 189 [] []] 0] base (.p (aD (wrM 1 (a,z)))) []:=bTg
theorem bDs(a:Int)(z:List UInt8){base:Nat}:FV Tp 228 [.p (.agg [aB a,aD z])] base (.p (aD (wrM 2 (a,z)))) []:=bTl
theorem bDt(a:Int)(z:List UInt8){base:Nat}:FV Tp 226 [.p (.agg [aB a,aD z]),.rp [aB 999999] 0] base (pI (ckM 0 (a,z))) []:=by
 by_cases h:within a 0 999999=true
 ·by_cases h2:z=[]
  ·have e:ckM 0 (a,z)=0:=by simp [ckM,h,h2]
   rw [e];exact bDn h h2
  ·have e:ckM 0 (a,z)=11:=by simp [ckM,h,h2]
   rw [e];exact bDm h h2
 ·have e:ckM 0 (a,z)=3:=by simp [ckM,h]
  rw [e];exact bDl (by simpa using h)
theorem bDu(a:Int)(z:List UInt8){base:Nat}:FV Tp 226 [.p (.agg [aB a,aD z]),.rp [aB 360000] 0] base (pI (ckM 1 (a,z))) []:=by
 by_cases h:within a 0 360000=true
 ·by_cases h2:z=[]
  ·have e:ckM 1 (a,z)=0:=by simp [ckM,h,h2]
   rw [e];exact bDn h h2
  ·have e:ckM 1 (a,z)=11:=by simp [ckM,h,h2]
   rw [e];exact bDm h h2
 ·have e:ckM 1 (a,z)=3:=by simp [ckM,h]
  rw [e];exact bDl (by simpa using h)
theorem bDv(a:Int)(z:List UInt8){base:Nat}:FV Tp 229 [.p (.agg [aB a,aD z]),.rp [PV.fn 191 [] []] 0] base (pI (ckM 2 (a,z))) []:=by
 by_cases h:a=0
 ·by_cases h2:oZ z=true
  ·have e:ckM 2 (a,z)=0:=by simp [ckM,h,h2]
   rw [e];exact bTo h h2
  ·have e:ckM 2 (a,z)=11:=by simp [ckM,h2]
   rw [e];exact bTn h (by simpa using h2)
 ·have e:ckM 2 (a,z)=11:=by simp [ckM,h]
  rw [e];exact bTm h
theorem bDw(a:Int)(z:List UInt8){base:Nat}:FV Tp 229 [.p (.agg [aB a,aD z]),.rp [PV.fn 192 [] []] 0] base (pI (ckM 3 (a,z))) []:=by
 by_cases h:a=0
 ·by_cases h2:pA z=true
  ·have e:ckM 3 (a,z)=0:=by simp [ckM,h,h2]
   rw [e];exact bTr h h2
  ·have e:ckM 3 (a,z)=11:=by simp [ckM,h2]
   rw [e];exact bTq h (by simpa using h2)
 ·have e:ckM 3 (a,z)=11:=by simp [ckM,h]
  rw [e];exact bTp h
end
section
section
variable {α:Type} {E:α→List PV} {k:Nat}
theorem pZ(hE:∀ a,(E a).length=k)(l:List α):((l.map E).flatten).length=l.length*k:=by
 induction l with
 | nil=>simp
 | cons a l ih=>rw [jP,uI,gM,hE,ih,gO,Nat.succ_mul];omega
theorem uX(hE:∀ a,(E a).length=k){l:List α}{i:Nat}{e:α}(h:l[i]? = some e):∃ a b,(l.map E).flatten=a++(E e++b)∧a.length=i*k:=by
 obtain ⟨hi,rfl⟩:=Cj.1 h;refine ⟨((l.take i).map E).flatten,((l.drop (i+1)).map E).flatten,?_,?_⟩
 ·have:l=l.take i++(l[i]::l.drop (i+1)):=by rw [← List.drop_eq_getElem_cons hi,bBv]
  have e2:=congrArg (fun l=>(l.map E).flatten) this
  simp only [uL,jP,bHo,uI] at e2
  exact e2
 ·rw [pZ hE,uJ];congr 1;omega
theorem aN{l:List α}{i f:Nat}(hE:∀ a,(E a).length=k){e:α}{x:PV}(h:l[i]? = some e)(hx:(E e)[f]? = some x):((l.map E).flatten)[i*k+f]? = some x:=by
 obtain ⟨a,b,e1,e2⟩:=uX hE h;have hf:=(Cj.1 hx).1;rw [e1,← e2,aLs (by omega),Nat.add_sub_cancel_left,aSz hf]
 exact hx
theorem bZ{l:List α}{i:Nat}(hE:∀ a,(E a).length=k){e:α}(h:l[i]? = some e):i*k+k≤((l.map E).flatten).length:=by
 obtain ⟨a,b,e1,e2⟩:=uX hE h;rw [e1,gM,gM,hE,e2];omega
theorem bE{l:List α}{i:Nat}(hE:∀ a,(E a).length=k){e:α}(h:l[i]? = some e){x:PV}(hx:PV.agg (E e)=x):some (.agg ((((l.map E).flatten).drop (i*k)).take k):PV)=some x:=by
 obtain ⟨a,b,e1,e2⟩:=uX hE h;rw [e1,← e2,List.drop_left,List.take_left' (hE e),hx]
theorem bD{l:List α}{i:Int}(hE:∀ a,(E a).length=k)(hk:0<k)(h0:0≤i){e:α}(h:l[i.toNat]? = some e):0≤i∧i<(l.length:Int)∧i.toNat*k<((l.map E).flatten).length:=by
 have hi:=(Cj.1 h).1;refine ⟨h0,by omega,?_⟩
 rw [pZ hE];exact Nat.mul_lt_mul_of_pos_right hi hk
end
end
section
variable {r0:Bool}{k:Int}{i i' Aq base:Nat}

noncomputable abbrev nX:Code:=sub (cd Tryz.f199) [1,0,1,0,0]
def aM(r:List Cel):PV := .sl r.length ((r.map cE).flatten)
abbrev cD(R:List (List Cel)):PV := .sl R.length (R.map aM)
theorem bSg{r:List Cel}(Am:r0=(decide ((r.length:Int) > 0))):FV Tp 183 [(.p (.sl r.length ((r.map cE).flatten)))] base (pB r0) []:=by
 subst Am;exact FV.fi func183 [] gn
def Ea(r:List Cel):Bool:=decide ((r.length:Int) > 0)
theorem bSh(r:List Cel){base:Nat}:FV Tp 183 [.p (.sl r.length ((r.map cE).flatten))] base (pB (Ea r)) []:=bSg rfl
theorem bJj{x:List Cel}(Am:r0=(!(Ea x))):FMM Tp 221 [(.p (.sl x.length ((x.map cE).flatten))),(.ptr 0 0)] [some (.box 229 [(.fn 183 [] [])])] (pB r0) [some (.box 229 [(.fn 183 [] [])])]:=by
 subst Am;exact FMM.fi 1 gE func221 [.c (pB (Ea x)) []] (gc (fk 1 (bSh x) rfl) gn)
theorem aQb(x:List Cel)  : FMM Tp 221 [.p (.sl x.length ((x.map cE).flatten)),.ptr 0 0] [some (.box 229 [(.fn 183 [] [])])] (pB (!(Ea x))) [some (.box 229 [(.fn 183 [] [])])]:=bJj rfl
def fI(l:List (List Cel))(i:Nat):St:=⟨fr 19 [(0,(.p (.sl l.length (l.map aM)))),(1,(.fn 221 [] [(.ptr 0 0)])),(7,(pI (l.length:Int))),(8,(pI (i:Int)))],[some (.box 229 [(.fn 183 [] [])])]⟩
theorem bJk{l:List (List Cel)}(Ay:aF Tp 1 nX (fI l 0) (.exit 0) (fI l Aq)):FMM Tp 199 [(.p (.sl l.length (l.map aM))),(.fn 221 [] [(.ptr 0 0)])] [some (.box 229 [(.fn 183 [] [])])] (pI (-1)) [some (.box 229 [(.fn 183 [] [])])]:=FMM.fi 1 gE func199 [Ay.k 6 (gZ bw)] (gc Ay.code gn)
theorem bJl{l:List (List Cel)}(Ay:aF Tp 1 nX (fI l 0) .ret (cG (fI l Aq) [(4,(pI (Aq:Int)))])):FMM Tp 199 [(.p (.sl l.length (l.map aM))),(.fn 221 [] [(.ptr 0 0)])] [some (.box 229 [(.fn 183 [] [])])] (pI (Aq:Int)) [some (.box 229 [(.fn 183 [] [])])]:=FMM.fi 1 gE func199 [Ay.k 6 (gZ bw)] (gc Ay.code gn)
section
variable{l:List (List Cel)}{Ab:List Cel}(h0:(i:Int)<(l.length:Int))(h1:l[i]? = some Ab)
include h0 h1
theorem aMl(h2:(Ea Ab)=false):aA Tp 1 nX (fI l i) .ret (cG (fI l i) [(4,(pI (i:Int)))]):=have k1:=mq [0] 1 (aQb Ab);aA.fi (gZ bj) [bT,.x (.sl Ab.length ((Ab.map cE).flatten)),k1.o,bT] (gc (cY h2) (gc k1 (gc (atm aM h1) (gc (ixn aM h1) (g0 h0)))))
theorem aMm(h2:(Ea Ab)=true)(h3:ce i)(Ai:i'=(i+1)):aA Tp 1 nX (fI l i) .normal (fI l i'):=by
 subst Ai;have k1:=mq [0] 1 (aQb Ab);exact aA.fi (gZ bw) [bT,.x (.sl Ab.length ((Ab.map cE).flatten)),k1.o,bF] (gc h3 (gc (aV h2) (gc k1 (gc (atm aM h1) (gc (ixn aM h1) (g0 h0))))))
end
theorem aMn{l:List (List Cel)}(h0:(l.length:Int)≤(i:Int)):aA Tp 1 nX (fI l i) (.exit 0) (fI l i):=aA.fi (gZ bw) [bF] (gc (aO h0) gn)
theorem bJm(l:List (List Cel))(hl:l.length≤100000):FMM Tp 199 [.p (cD l),(.fn 221 [] [(.ptr 0 0)])] [some (.box 229 [(.fn 183 [] [])])] (pI (mJ (fun x => !(Ea x)) l)) [some (.box 229 [(.fn 183 [] [])])]:=by
 rcases aF.find (P:=Tp) (k:=1) (b:=nX) (fun i=>fI l i) (fun i _=>cG (fI l i) [(4,.p (aB (i:Int)))]) (fI l l.length) .ret (.exit 0) (by simp) (by simp) (fun x => !(Ea x)) l
  (fun i x hx hp=>aMm (by have:=bH hx;omega) hx (by simpa using hp) (aW (by have:=bH hx;omega)) rfl)
  (fun i x hx hp=>aMl (by have:=bH hx;omega) hx (by simpa using hp))
  (aMn (l:=l) (i:=l.length) (by omega)) with ⟨i,x,h1,h2,h3,h4⟩ | ⟨h1,h2,h3⟩
 ·rw [iP h2];exact bJl h4
 ·rw [iQ h1];exact bJk h3
theorem bJn{l:List (List Cel)}(h0:l.length≤100000)(Am:r0=(decide ((mJ (fun x => !(Ea x)) l) ≥ 0))):FMM Tp 135 [(.p (.sl l.length (l.map aM))),(.fn 221 [] [(.ptr 0 0)])] [some (.box 229 [(.fn 183 [] [])])] (pB r0) [some (.box 229 [(.fn 183 [] [])])]:=by
 subst Am;have k1:=mq [0] 1 (bJm l h0);exact FMM.fi 1 gE func135 [k1.o] (gc k1 gn)
theorem bJo(l:List (List Cel))(hl:l.length≤100000):FMM Tp 135 [.p (cD l),(.fn 221 [] [(.ptr 0 0)])] [some (.box 229 [(.fn 183 [] [])])] (pB (l.any (fun x => !(Ea x)))) [some (.box 229 [(.fn 183 [] [])])]:=bJn hl (kP _ _).symm
theorem bJp{l:List (List Cel)}(h0:l.length≤100000)(Am:r0=(!(l.any (fun x => !(Ea x))))):FV Tp 182 [(.p (.sl l.length (l.map aM))),(.fn 183 [] [])] base (pB r0) []:=by
 subst Am;have k1:=mq [0] 1 (bJo l h0);exact FV.fi func182 [k1.o] (gc k1 gn)
theorem wW(l:List (List Cel))(hl:l.length≤100000){base:Nat}:FV Tp 182 [.p (cD l),(.fn 183 [] [])] base (pB (l.all (Ea))) []:=bJp hl (by rw [List.all_eq_not_any_not])
theorem bSi{r:List Cel}(h0:(r.length:Int)=0):FV Tp 206 [(.p (.sl r.length ((r.map cE).flatten))),(.rp [(bJ (aJ k))] 0)] base (pB true) []:=FV.fi func206 (rT 6) (F6 (dG h0) gn)
theorem bSj{r:List Cel}(h0:(r.length:Int)≠0)(Am:r0=((r.length:Int) == ((aJ k).length:Int))):FV Tp 206 [(.p (.sl r.length ((r.map cE).flatten))),(.rp [(bJ (aJ k))] 0)] base (pB r0) []:=by
 subst Am;exact FV.fi func206 [bF,bF,bF,.x (bJ (aJ k)),bF,bF,bF] (Au (bI h0) (gr (bJ (aJ k)) (Au (bI h0) gn)))
def fF(k:Int)(r:List Cel):Bool:=decide ((r.length:Int)=0) || ((r.length:Int) == ((aJ k).length:Int))
theorem bSk(r:List Cel)(k:Int){base:Nat}:FV Tp 206 [.p (.sl r.length ((r.map cE).flatten)),.rp [bJ (aJ k)] 0] base (pB (fF k r)) []:=by
 by_cases h:(r.length:Int)=0
 ·have e:fF k r=true:=by simp only [fF,h,decide_true,Bool.true_or]
  rw [e];exact bSi h
 ·exact bSj h (by simp only [fF,h,decide_false,Bool.false_or])
theorem bJq{x:List Cel}(Am:r0=(!(fF k x))):FMM Tp 221 [(.p (.sl x.length ((x.map cE).flatten))),(.ptr 0 0)] [some (.box 229 [(.fn 206 [] [(.rp [(bJ (aJ k))] 0)])])] (pB r0) [some (.box 229 [(.fn 206 [] [(.rp [(bJ (aJ k))] 0)])])]:=by
 subst Am;exact FMM.fi 1 gE func221 [.c (pB (fF k x)) []] (gc (fk 1 (bSk x k) rfl) gn)
theorem aQc(x:List Cel)(k:Int):FMM Tp 221 [.p (.sl x.length ((x.map cE).flatten)),.ptr 0 0] [some (.box 229 [(.fn 206 [] [(.rp [(bJ (aJ k))] 0)])])] (pB (!(fF k x))) [some (.box 229 [(.fn 206 [] [(.rp [(bJ (aJ k))] 0)])])]:=bJq rfl
def fJ(l:List (List Cel))(k:Int)(i:Nat):St:=⟨fr 19 [(0,(.p (.sl l.length (l.map aM)))),(1,(.fn 221 [] [(.ptr 0 0)])),(7,(pI (l.length:Int))),(8,(pI (i:Int)))],[some (.box 229 [(.fn 206 [] [(.rp [(bJ (aJ k))] 0)])])]⟩
theorem bJr{l:List (List Cel)}(Ay:aF Tp 1 nX (fJ l k 0) (.exit 0) (fJ l k Aq)):FMM Tp 199 [(.p (.sl l.length (l.map aM))),(.fn 221 [] [(.ptr 0 0)])] [some (.box 229 [(.fn 206 [] [(.rp [(bJ (aJ k))] 0)])])] (pI (-1)) [some (.box 229 [(.fn 206 [] [(.rp [(bJ (aJ k))] 0)])])]:=FMM.fi 1 gE func199 [Ay.k 6 (gZ bw)] (gc Ay.code gn)
theorem bJs{l:List (List Cel)}(Ay:aF Tp 1 nX (fJ l k 0) .ret (cG (fJ l k Aq) [(4,(pI (Aq:Int)))])):FMM Tp 199 [(.p (.sl l.length (l.map aM))),(.fn 221 [] [(.ptr 0 0)])] [some (.box 229 [(.fn 206 [] [(.rp [(bJ (aJ k))] 0)])])] (pI (Aq:Int)) [some (.box 229 [(.fn 206 [] [(.rp [(bJ (aJ k))] 0)])])]:=FMM.fi 1 gE func199 [Ay.k 6 (gZ bw)] (gc Ay.code gn)
section
variable{l:List (List Cel)}{Ab:List Cel}(h0:(i:Int)<(l.length:Int))(h1:l[i]? = some Ab)
include h0 h1
theorem aMo(h2:(fF k Ab)=false):aA Tp 1 nX (fJ l k i) .ret (cG (fJ l k i) [(4,(pI (i:Int)))]):=have k1:=mq [0] 1 (aQc Ab k);aA.fi (gZ bj) [bT,.x (.sl Ab.length ((Ab.map cE).flatten)),k1.o,bT] (gc (cY h2) (gc k1 (gc (atm aM h1) (gc (ixn aM h1) (g0 h0)))))
theorem aMp(h2:(fF k Ab)=true)(h3:ce i)(Ai:i'=(i+1)):aA Tp 1 nX (fJ l k i) .normal (fJ l k i'):=by
 subst Ai;have k1:=mq [0] 1 (aQc Ab k);exact aA.fi (gZ bw) [bT,.x (.sl Ab.length ((Ab.map cE).flatten)),k1.o,bF] (gc h3 (gc (aV h2) (gc k1 (gc (atm aM h1) (gc (ixn aM h1) (g0 h0))))))
end
theorem aMq{l:List (List Cel)}(h0:(l.length:Int)≤(i:Int)):aA Tp 1 nX (fJ l k i) (.exit 0) (fJ l k i):=aA.fi (gZ bw) [bF] (gc (aO h0) gn)
theorem bJt(l:List (List Cel))(k:Int)(hl:l.length≤100000):FMM Tp 199 [.p (cD l),(.fn 221 [] [(.ptr 0 0)])] [some (.box 229 [(.fn 206 [] [(.rp [(bJ (aJ k))] 0)])])] (pI (mJ (fun x => !(fF k x)) l)) [some (.box 229 [(.fn 206 [] [(.rp [(bJ (aJ k))] 0)])])]:=by
 rcases aF.find (P:=Tp) (k:=1) (b:=nX) (fun i=>fJ l k i) (fun i _=>cG (fJ l k i) [(4,.p (aB (i:Int)))]) (fJ l k l.length) .ret (.exit 0) (by simp) (by simp) (fun x => !(fF k x)) l
  (fun i x hx hp=>aMp (by have:=bH hx;omega) hx (by simpa using hp) (aW (by have:=bH hx;omega)) rfl)
  (fun i x hx hp=>aMo (by have:=bH hx;omega) hx (by simpa using hp))
  (aMq (l:=l) (i:=l.length) (by omega)) with ⟨i,x,h1,h2,h3,h4⟩ | ⟨h1,h2,h3⟩
 ·rw [iP h2];exact bJs h4
 ·rw [iQ h1];exact bJr h3
theorem bJu{l:List (List Cel)}(h0:l.length≤100000)(Am:r0=(decide ((mJ (fun x => !(fF k x)) l) ≥ 0))):FMM Tp 135 [(.p (.sl l.length (l.map aM))),(.fn 221 [] [(.ptr 0 0)])] [some (.box 229 [(.fn 206 [] [(.rp [(bJ (aJ k))] 0)])])] (pB r0) [some (.box 229 [(.fn 206 [] [(.rp [(bJ (aJ k))] 0)])])]:=by
 subst Am;have k1:=mq [0] 1 (bJt l k h0);exact FMM.fi 1 gE func135 [k1.o] (gc k1 gn)
theorem bJv(l:List (List Cel))(k:Int)(hl:l.length≤100000):FMM Tp 135 [.p (cD l),(.fn 221 [] [(.ptr 0 0)])] [some (.box 229 [(.fn 206 [] [(.rp [(bJ (aJ k))] 0)])])] (pB (l.any (fun x => !(fF k x)))) [some (.box 229 [(.fn 206 [] [(.rp [(bJ (aJ k))] 0)])])]:=bJu hl (kP _ _).symm
theorem bJw{l:List (List Cel)}(h0:l.length≤100000)(Am:r0=(!(l.any (fun x => !(fF k x))))):FV Tp 182 [(.p (.sl l.length (l.map aM))),(.fn 206 [] [(.rp [(bJ (aJ k))] 0)])] base (pB r0) []:=by
 subst Am;have k1:=mq [0] 1 (bJv l k h0);exact FV.fi func182 [k1.o] (gc k1 gn)
theorem aFc(l:List (List Cel))(k:Int)(hl:l.length≤100000){base:Nat}:FV Tp 182 [.p (cD l),(.fn 206 [] [(.rp [(bJ (aJ k))] 0)])] base (pB (l.all (fF k))) []:=bJw hl (by rw [List.all_eq_not_any_not])
end
section
variable {k ea eb Bd Cp Di:Int}{i j q j' q' qa qb G0 base Gd H6 B8 Ew:Nat}

noncomputable abbrev lI:Code:=sub (cd Tryz.f145) [1,1,1,1,0,1,0,0,1,1,0,0,1,1,0,0,1,1,0,0,1,1,0,0]
noncomputable abbrev qT:Code:=sub (cd Tryz.f145) [1,1,1,1,0,1,0,0,1,1,0,0,1,1,0,0]
noncomputable abbrev zM:Code:=sub (cd Tryz.f145) [1,1,1,1,0,1,0,0]
theorem bMo:0≤(0:Int)∧(0:Int)<2:=by first | decide | simp
theorem bMp:(decide ((0:Int)<2))=true:=by first | decide | simp
theorem bMq:0≤(1:Int)∧(1:Int)<2:=by first | decide | simp
theorem bMr:(decide ((1:Int)<2))=true:=by first | decide | simp
theorem bMs:0≤(0:Int)∧(0:Int)<4:=by first | decide | simp
theorem bMt:0≤(1:Int)∧(1:Int)<4:=by first | decide | simp
theorem bMu:0≤(2:Int)∧(2:Int)<4:=by first | decide | simp
theorem bMv:0≤(3:Int)∧(3:Int)<4:=by first | decide | simp
abbrev a6(k:Int):Mem:=[some (.box 65 [(.p (bJ (aJ k)))]),some (.box 214 [(.fn 224 [] [(.rp [(PV.fn 188 [] [])] 0)]),(.fn 225 [] [(.rp [(PV.fn 120 [] [])] 0)]),(.fn 226 [] [(.rp [(aB 999999)] 0)]),(.fn 224 [] [(.rp [(PV.fn 39 [] [])] 0)]),(.fn 225 [] [(.rp [(PV.fn 189 [] [])] 0)]),(.fn 226 [] [(.rp [(aB 360000)] 0)]),(.fn 227 [] [(.rp [(PV.fn 191 [] [])] 0)]),(.fn 228 [] []),(.fn 229 [] [(.rp [(PV.fn 191 [] [])] 0)]),(.fn 227 [] [(.rp [(PV.fn 192 [] [])] 0)]),(.fn 228 [] []),(.fn 229 [] [(.rp [(PV.fn 192 [] [])] 0)])])]
def iF(k:Int)(R:List (List Cel))(q:Nat):St:=⟨fr 56 [(1,(.p (.sl R.length (R.map aM)))),(5,(.ptr 0 0)),(7,(.ptr 1 0)),(24,(.p (.agg [(aB 3),(aB 11)]))),(25,(pI (q:Int)))],(a6 k)⟩
section
variable{R:List (List Cel)}(h0:R.length≤100000)
include h0
theorem bSe(h1:(R.all (fF k))=false):FV Tp 145 [(pI k),(.p (.sl R.length (R.map aM)))] base (pI 2) []:=have k1:=fk 0 (eI k) rfl;FV.fi func145 [k1.o,.c (pB (R.all (fF k))) [],bT] (gc (cY h1) (gt (FC Tp 182 [(.p (.sl R.length (R.map aM))),(.fn 206 [] [(.ptr 0 0)])] [(0,(.box 65 [(.p (bJ (aJ k)))]))] 1 (pB (R.all (fF k))) []) (fv (aFc R k h0)) (gc k1 gn)))
theorem bSf(h1:(R.all (fF k))=true)(Bh:aF Tp 0 zM (iF k R 0) (.exit 0) (iF k R G0)):FV Tp 145 [(pI k),(.p (.sl R.length (R.map aM)))] base (pI 0) []:=have k1:=fk 0 (eI k) rfl;have k2:=fk 1 (eL) rfl;FV.fi func145 [k1.o,.c (pB (R.all (fF k))) [],bF,k2.o,Bh.k 4 (gI aq [0,1])] (gc Bh.code (gc k2 (gc (aV h1) (gt (FC Tp 182 [(.p (.sl R.length (R.map aM))),(.fn 206 [] [(.ptr 0 0)])] [(0,(.box 65 [(.p (bJ (aJ k)))]))] 1 (pB (R.all (fF k))) []) (fv (aFc R k h0)) (gc k1 gn)))))
theorem bDk{r0:Int}(h1:(R.all (fF k))=true)(Bh:aF Tp 0 zM (iF k R 0) .ret (cG (iF k R G0) [(4,(pI (if G0=0 then 3 else 11)))]))(Am:r0=(if G0=0 then 3 else 11)):FV Tp 145 [(pI k),(.p (.sl R.length (R.map aM)))] base (pI r0) []:=by
 subst Am;have k1:=fk 0 (eI k) rfl;have k2:=fk 1 (eL) rfl;exact FV.fi func145 [k1.o,.c (pB (R.all (fF k))) [],bF,k2.o,Bh.k 4 (gI aq [0,1])] (gc Bh.code (gc k2 (gc (aV h1) (gt (FC Tp 182 [(.p (.sl R.length (R.map aM))),(.fn 206 [] [(.ptr 0 0)])] [(0,(.box 65 [(.p (bJ (aJ k)))]))] 1 (pB (R.all (fF k))) []) (fv (aFc R k h0)) (gc k1 gn)))))
end
def eD(k:Int)(R:List (List Cel))(i qa:Nat)(ea:Int):St:=⟨fr 56 [(1,(.p (.sl R.length (R.map aM)))),(5,(.ptr 0 0)),(7,(.ptr 1 0)),(9,(pI ea)),(24,(.p (.agg [(aB 3),(aB 11)]))),(25,(pI (qa:Int))),(28,(.p (.sl R.length (R.map aM)))),(29,(pI (R.length:Int))),(30,(pI (i:Int)))],(a6 k)⟩
theorem aCq{R:List (List Cel)}(Av:q=0)(Ao:aF Tp 0 qT (eD k R 0 0 3) (.exit 2) (eD k R Gd B8 Cp))(h2:inR (((B8+1):Nat):Int))(Ey:q'=(B8+1)):aA Tp 0 zM (iF k R q) .normal (iF k R q'):=by
 subst Av;subst Ey;exact aA.fi (gI aq [0,1]) [bT,Ao.k 7 (gI aj [0,1])] (gc h2 (gc Ao.code (gc bMo (gc bMp gn))))
theorem aVt{R:List (List Cel)}(Av:q=0)(Ao:aF Tp 0 qT (eD k R 0 0 3) .ret (cG (eD k R Gd B8 Cp) [(4,(pI Cp))])):aA Tp 0 zM (iF k R q) .ret (cG (iF k R B8) [(4,(pI Cp))]):=by
 subst Av;exact aA.fi (gI [0,1,2,2,6,1,8,16,26,30] [0,1]) [bT,Ao.k 7 (gI aj [0,1])] (gc Ao.code (gc bMo (gc bMp gn)))
theorem aVu{R:List (List Cel)}(Av:q=1)(Ao:aF Tp 0 qT (eD k R 0 1 11) (.exit 2) (eD k R Gd B8 Cp))(h2:inR (((B8+1):Nat):Int))(Ey:q'=(B8+1)):aA Tp 0 zM (iF k R q) .normal (iF k R q'):=by
 subst Av;subst Ey;exact aA.fi (gI aq [0,1]) [bT,Ao.k 7 (gI aj [0,1])] (gc h2 (gc Ao.code (gc bMq (gc bMr gn))))
theorem aVv{R:List (List Cel)}(Av:q=1)(Ao:aF Tp 0 qT (eD k R 0 1 11) .ret (cG (eD k R Gd B8 Cp) [(4,(pI Cp))])):aA Tp 0 zM (iF k R q) .ret (cG (iF k R B8) [(4,(pI Cp))]):=by
 subst Av;exact aA.fi (gI [0,1,2,2,6,1,8,16,26,30] [0,1]) [bT,Ao.k 7 (gI aj [0,1])] (gc Ao.code (gc bMq (gc bMr gn)))
theorem aVw{R:List (List Cel)}(Av:q=2)(Ey:q'=2):aA Tp 0 zM (iF k R q) (.exit 0) (iF k R q'):=by
 subst Av;subst Ey;exact aA.fi (gI aq [0,1]) [bF] (gt ((decide ((2:Int)<2))=false) (by first | decide | simp) gn)
def dI(k:Int)(R:List (List Cel))(i:Nat)(Ac:List Cel)(j qb:Nat)(eb:Int):St:=⟨fr 56 [(1,(.p (.sl R.length (R.map aM)))),(5,(.ptr 0 0)),(7,(.ptr 1 0)),(9,(pI eb)),(11,(.p (.sl Ac.length ((Ac.map cE).flatten)))),(24,(.p (.agg [(aB 3),(aB 11)]))),(25,(pI (qb:Int))),(28,(.p (.sl R.length (R.map aM)))),(29,(pI (R.length:Int))),(30,(pI (i:Int))),(31,(pB (decide ((i:Int)<(R.length:Int))))),(32,(.rp (R.map aM) (i*1))),(33,(.p (.sl Ac.length ((Ac.map cE).flatten)))),(34,(.p (.sl Ac.length ((Ac.map cE).flatten)))),(35,(pI (Ac.length:Int))),(36,(pI (j:Int)))],(a6 k)⟩
section
variable{R:List (List Cel)}{Ac:List Cel}(h0:(i:Int)<(R.length:Int))(h1:R[i]? = some Ac)
include h0 h1
theorem aVx{i':Nat}(Bh:aF Tp 0 lI (dI k R i Ac 0 qa ea) (.exit 4) (dI k R i Ac H6 Ew Di))(h3:ce i)(Ai:i'=(i+1)):aA Tp 0 qT (eD k R i qa ea) .normal (eD k R i' Ew Di):=by
 subst Ai;exact aA.fi (gI aj [0,1]) [bT,.x (.sl Ac.length ((Ac.map cE).flatten)),Bh.k 3 (gI ae [0,1])] (gc h3 (gc Bh.code (gc (atm aM h1) (gc (ixn aM h1) (g0 h0)))))
theorem aVy(Bh:aF Tp 0 lI (dI k R i Ac 0 qa ea) .ret (cG (dI k R i Ac H6 Ew Di) [(4,(pI Di))])):aA Tp 0 qT (eD k R i qa ea) .ret (cG (eD k R i Ew Di) [(4,(pI Di))]):=aA.fi (gI [0,1,2,2,6,1,8,1,10,14,26,2,31,24] [0,1]) [bT,.x (.sl Ac.length ((Ac.map cE).flatten)),Bh.k 3 (gI ae [0,1])] (gc Bh.code (gc (atm aM h1) (gc (ixn aM h1) (g0 h0))))
end
theorem aVz{R:List (List Cel)}(h0:(R.length:Int)≤(i:Int)):aA Tp 0 qT (eD k R i qa ea) (.exit 2) (eD k R i qa ea):=aA.fi (gI aj [0,1]) [bF] (gc (aO h0) gn)
section
variable{Ac:List Cel}{A8:List UInt8}(h0:(j:Int)<(Ac.length:Int))(h1:Ac[j]? = some (Bd,A8))
include h0 h1
theorem aWa{R:List (List Cel)}(h2:(aJ k)[j]? = some 0)(h3:(ckM 0 (Bd,A8))=eb):aA Tp 0 lI (dI k R i Ac j qb eb) .ret (cG (dI k R i Ac j qb eb) [(4,(pI eb))]):=have k1:=fk 3 (bDt Bd A8) rfl;aA.fi (gI af [0,1]) [bT,.x (.agg [(aB Bd),(aD A8)]),.x (aB 0),k1.o,bT] (gc (dG h3) (gc k1 (gc bMs (gc (atm aB h2) (gc (ixn aB h2) (gc (bE (E:=cE) (i:=j) (k:=2) (fun _=>rfl) h1 rfl) (gc (bZ (E:=cE) (i:=j) (k:=2) (fun _=>rfl) h1) (gc (bD (E:=cE) (k:=2) (i:=(j:Int)) (fun _=>rfl) (by decide) (Bl _) h1) (g0 h0)))))))))
theorem aWb{R:List (List Cel)}(h2:(aJ k)[j]? = some 0)(h3:(ckM 0 (Bd,A8))≠eb)(h4:ce j)(Ci:j'=(j+1)):aA Tp 0 lI (dI k R i Ac j qb eb) .normal (dI k R i Ac j' qb eb):=by
 subst Ci;have k1:=fk 3 (bDt Bd A8) rfl;exact aA.fi (gI ae [0,1]) [bT,.x (.agg [(aB Bd),(aD A8)]),.x (aB 0),k1.o,bF] (gc h4 (gc (bI h3) (gc k1 (gc bMs (gc (atm aB h2) (gc (ixn aB h2) (gc (bE (E:=cE) (i:=j) (k:=2) (fun _=>rfl) h1 rfl) (gc (bZ (E:=cE) (i:=j) (k:=2) (fun _=>rfl) h1) (gc (bD (E:=cE) (k:=2) (i:=(j:Int)) (fun _=>rfl) (by decide) (Bl _) h1) (g0 h0))))))))))
theorem aWc{R:List (List Cel)}(h2:(aJ k)[j]? = some 1)(h3:(ckM 1 (Bd,A8))=eb):aA Tp 0 lI (dI k R i Ac j qb eb) .ret (cG (dI k R i Ac j qb eb) [(4,(pI eb))]):=have k1:=fk 3 (bDu Bd A8) rfl;aA.fi (gI af [0,1]) [bT,.x (.agg [(aB Bd),(aD A8)]),.x (aB 1),k1.o,bT] (gc (dG h3) (gc k1 (gc bMt (gc (atm aB h2) (gc (ixn aB h2) (gc (bE (E:=cE) (i:=j) (k:=2) (fun _=>rfl) h1 rfl) (gc (bZ (E:=cE) (i:=j) (k:=2) (fun _=>rfl) h1) (gc (bD (E:=cE) (k:=2) (i:=(j:Int)) (fun _=>rfl) (by decide) (Bl _) h1) (g0 h0)))))))))
theorem aWd{R:List (List Cel)}(h2:(aJ k)[j]? = some 1)(h3:(ckM 1 (Bd,A8))≠eb)(h4:ce j)(Ci:j'=(j+1)):aA Tp 0 lI (dI k R i Ac j qb eb) .normal (dI k R i Ac j' qb eb):=by
 subst Ci;have k1:=fk 3 (bDu Bd A8) rfl;exact aA.fi (gI ae [0,1]) [bT,.x (.agg [(aB Bd),(aD A8)]),.x (aB 1),k1.o,bF] (gc h4 (gc (bI h3) (gc k1 (gc bMt (gc (atm aB h2) (gc (ixn aB h2) (gc (bE (E:=cE) (i:=j) (k:=2) (fun _=>rfl) h1 rfl) (gc (bZ (E:=cE) (i:=j) (k:=2) (fun _=>rfl) h1) (gc (bD (E:=cE) (k:=2) (i:=(j:Int)) (fun _=>rfl) (by decide) (Bl _) h1) (g0 h0))))))))))
theorem aWe{R:List (List Cel)}(h2:(aJ k)[j]? = some 2)(h3:(ckM 2 (Bd,A8))=eb):aA Tp 0 lI (dI k R i Ac j qb eb) .ret (cG (dI k R i Ac j qb eb) [(4,(pI eb))]):=have k1:=fk 3 (bDv Bd A8) rfl;aA.fi (gI af [0,1]) [bT,.x (.agg [(aB Bd),(aD A8)]),.x (aB 2),k1.o,bT] (gc (dG h3) (gc k1 (gc bMu (gc (atm aB h2) (gc (ixn aB h2) (gc (bE (E:=cE) (i:=j) (k:=2) (fun _=>rfl) h1 rfl) (gc (bZ (E:=cE) (i:=j) (k:=2) (fun _=>rfl) h1) (gc (bD (E:=cE) (k:=2) (i:=(j:Int)) (fun _=>rfl) (by decide) (Bl _) h1) (g0 h0)))))))))
theorem aWf{R:List (List Cel)}(h2:(aJ k)[j]? = some 2)(h3:(ckM 2 (Bd,A8))≠eb)(h4:ce j)(Ci:j'=(j+1)):aA Tp 0 lI (dI k R i Ac j qb eb) .normal (dI k R i Ac j' qb eb):=by
 subst Ci;have k1:=fk 3 (bDv Bd A8) rfl;exact aA.fi (gI ae [0,1]) [bT,.x (.agg [(aB Bd),(aD A8)]),.x (aB 2),k1.o,bF] (gc h4 (gc (bI h3) (gc k1 (gc bMu (gc (atm aB h2) (gc (ixn aB h2) (gc (bE (E:=cE) (i:=j) (k:=2) (fun _=>rfl) h1 rfl) (gc (bZ (E:=cE) (i:=j) (k:=2) (fun _=>rfl) h1) (gc (bD (E:=cE) (k:=2) (i:=(j:Int)) (fun _=>rfl) (by decide) (Bl _) h1) (g0 h0))))))))))
theorem aWg{R:List (List Cel)}(h2:(aJ k)[j]? = some 3)(h3:(ckM 3 (Bd,A8))=eb):aA Tp 0 lI (dI k R i Ac j qb eb) .ret (cG (dI k R i Ac j qb eb) [(4,(pI eb))]):=have k1:=fk 3 (bDw Bd A8) rfl;aA.fi (gI af [0,1]) [bT,.x (.agg [(aB Bd),(aD A8)]),.x (aB 3),k1.o,bT] (gc (dG h3) (gc k1 (gc bMv (gc (atm aB h2) (gc (ixn aB h2) (gc (bE (E:=cE) (i:=j) (k:=2) (fun _=>rfl) h1 rfl) (gc (bZ (E:=cE) (i:=j) (k:=2) (fun _=>rfl) h1) (gc (bD (E:=cE) (k:=2) (i:=(j:Int)) (fun _=>rfl) (by decide) (Bl _) h1) (g0 h0)))))))))
theorem aWh{R:List (List Cel)}(h2:(aJ k)[j]? = some 3)(h3:(ckM 3 (Bd,A8))≠eb)(h4:ce j)(Ci:j'=(j+1)):aA Tp 0 lI (dI k R i Ac j qb eb) .normal (dI k R i Ac j' qb eb):=by
 subst Ci;have k1:=fk 3 (bDw Bd A8) rfl;exact aA.fi (gI ae [0,1]) [bT,.x (.agg [(aB Bd),(aD A8)]),.x (aB 3),k1.o,bF] (gc h4 (gc (bI h3) (gc k1 (gc bMv (gc (atm aB h2) (gc (ixn aB h2) (gc (bE (E:=cE) (i:=j) (k:=2) (fun _=>rfl) h1 rfl) (gc (bZ (E:=cE) (i:=j) (k:=2) (fun _=>rfl) h1) (gc (bD (E:=cE) (k:=2) (i:=(j:Int)) (fun _=>rfl) (by decide) (Bl _) h1) (g0 h0))))))))))
end
theorem aWi{R:List (List Cel)}{Ac:List Cel}(h0:(Ac.length:Int)≤(j:Int)):aA Tp 0 lI (dI k R i Ac j qb eb) (.exit 4) (dI k R i Ac j qb eb):=aA.fi (gI ae [0,1]) [bF] (gc (aO h0) gn)
def aIz(k:Int)(x:List Cel):List Int:=List.zipWith ckM (aJ k) x
def aJa(k e:Int)(x:List Cel):Bool:=(aIz k x).any (fun c=>c == e)
def lT(k:Int)(R:List (List Cel)):Int:=if R.all (fF k)=false then 2 else if R.any (aJa k 3)=true then 3 else if R.any (aJa k 11)=true then 11 else 0
theorem mM{k t:Int}{j:Nat}(h:(aJ k)[j]? = some t):t=0∨t=1∨t=2∨t=3:=by
 have:=Cn h;unfold aJ at this
 split at this
 ·simp at this;omega
 ·split at this
  ·simp at this;omega
  ·split at this
   ·simp at this;omega
   ·split at this <;> (simp at this;omega)
theorem aQa{k:Int}{x:List Cel}{j:Nat}{c:Int}(h:(aIz k x)[j]? = some c):∃ t a z,(aJ k)[j]? = some t∧x[j]? = some (a,z)∧c=ckM t (a,z):=by
 unfold aIz at h
 rw [List.getElem?_zipWith] at h
 cases h1:(aJ k)[j]? with
 | none=>rw [h1] at h;simp at h
 | some t =>
  cases h2:x[j]? with
  | none=>rw [h1,h2] at h;simp at h
  | some c2 =>
   rw [h1,h2] at h
   exact ⟨t,c2.1,c2.2,rfl,rfl,by simpa using h.symm⟩
theorem bJi{k:Int}{x:List Cel}(h:fF k x=true):(aIz k x).length=x.length∧x.length≤4:=by
 have hc:(aJ k).length≤4:=by unfold aJ;(repeat' split) <;> simp
 unfold aIz;rw [List.length_zipWith];unfold fF at h
 rw [aAk] at h
 rcases h with h | h
 ·have:=of_decide_eq_true h
  omega
 ·have:=eq_of_beq h
  omega
theorem J7{k:Int}{R:List (List Cel)}{i:Nat}{x:List Cel}(qb:Nat)(eb:Int)(hf:fF k x=true) :
  (aJa k eb x=true∧∃ j,aF Tp 0 lI (dI k R i x 0 qb eb) .ret (cG (dI k R i x j qb eb) [(4,(pI eb))]))∨(aJa k eb x=false∧aF Tp 0 lI (dI k R i x 0 qb eb) (.exit 4) (dI k R i x x.length qb eb)):=by
 obtain ⟨hl,h4⟩:=bJi hf
 rcases aF.find (P:=Tp) (k:=0) (b:=lI) (fun j=>dI k R i x j qb eb) (fun j _=>cG (dI k R i x j qb eb) [(4,(pI eb))]) (dI k R i x x.length qb eb) .ret (.exit 4) (by simp) (by simp) (fun c=>c == eb) (aIz k x)
  (fun j c hx hp=>by
   obtain ⟨t,a,z,h1,h2,rfl⟩:=aQa hx;have hj:=bH h2;have hp:ckM t (a,z)≠eb:=by simpa using hp
   rcases mM h1 with rfl | rfl | rfl | rfl
   ·exact aWb (by omega) h2 h1 hp (aW (by omega)) rfl
   ·exact aWd (by omega) h2 h1 hp (aW (by omega)) rfl
   ·exact aWf (by omega) h2 h1 hp (aW (by omega)) rfl
   ·exact aWh (by omega) h2 h1 hp (aW (by omega)) rfl)
  (fun j c hx hp=>by
   obtain ⟨t,a,z,h1,h2,rfl⟩:=aQa hx;have hj:=bH h2;have hp:ckM t (a,z)=eb:=by simpa using hp
   rcases mM h1 with rfl | rfl | rfl | rfl
   ·exact aWa (by omega) h2 h1 hp
   ·exact aWc (by omega) h2 h1 hp
   ·exact aWe (by omega) h2 h1 hp
   ·exact aWg (by omega) h2 h1 hp)
  (by rw [hl];exact aWi (by omega)) with ⟨j,c,h1,h2,h3,h5⟩ | ⟨h1,h2,h3⟩
 ·exact .inl ⟨List.any_eq_true.2 ⟨c,Cn h1,h3⟩,j,h5⟩
 ·exact .inr ⟨h2,h3⟩
theorem J8{k:Int}{R:List (List Cel)}(hR:R.length≤100000)(qa:Nat)(ea:Int)(hf:R.all (fF k)=true) :
  (R.any (aJa k ea)=true∧∃ i,aF Tp 0 qT (eD k R 0 qa ea) .ret (cG (eD k R i qa ea) [(4,(pI ea))]))∨(R.any (aJa k ea)=false∧aF Tp 0 qT (eD k R 0 qa ea) (.exit 2) (eD k R R.length qa ea)):=by
 rw [jO] at hf
 rcases aF.find (P:=Tp) (k:=0) (b:=qT) (fun i=>eD k R i qa ea) (fun i _=>cG (eD k R i qa ea) [(4,(pI ea))]) (eD k R R.length qa ea) .ret (.exit 2) (by simp) (by simp) (aJa k ea) R
  (fun i x hx hp=>by
   have hi:=bH hx
   rcases J7 (R:=R) (i:=i) qa ea (hf x (Cn hx)) with ⟨q,_⟩ | ⟨_,L⟩
   ·rw [hp] at q;cases q
   ·exact aVx (by omega) hx L (aW (by omega)) rfl)
  (fun i x hx hp=>by
   have hi:=bH hx
   rcases J7 (R:=R) (i:=i) qa ea (hf x (Cn hx)) with ⟨_,j,L⟩ | ⟨q,_⟩
   ·exact aVy (by omega) hx L
   ·rw [hp] at q;cases q)
  (aVz (by omega)) with ⟨i,x,h1,h2,h3,h5⟩ | ⟨h1,h2,h3⟩
 ·exact .inl ⟨List.any_eq_true.2 ⟨x,Cn h1,h3⟩,i,h5⟩
 ·exact .inr ⟨h2,h3⟩
theorem aFb(k:Int)(R:List (List Cel))(hR:R.length≤100000){base:Nat}:FV Tp 145 [.p (aB k),.p (cD R)] base (pI (lT k R)) []:=by
 unfold lT;cases hf:R.all (fF k)
 ·rw [if_pos rfl];exact bSe hR hf
 ·rw [if_neg (by simp)]
  rcases J8 hR 0 3 hf with ⟨a,i,L⟩ | ⟨a,L⟩
  ·rw [if_pos a]
   exact bDk (G0:=0) hR hf (.exit (aVt rfl L) (by simp)) rfl
  ·rw [if_neg (by rw [a];simp)]
   rcases J8 hR 1 11 hf with ⟨a2,i,L2⟩ | ⟨a2,L2⟩
   ·rw [if_pos a2]
    exact bDk (G0:=1) hR hf (.step (aCq rfl L (aW (by omega)) rfl) (.exit (aVv rfl L2) (by simp))) rfl
   ·rw [if_neg (by rw [a2];simp)]
    exact bSf (G0:=2) hR hf (.step (aCq rfl L (aW (by omega)) rfl) (.step (aVu rfl L2 (aW (by omega)) rfl) (.exit (aVw rfl rfl) (by simp))))
end
section
variable {k x y a0 a1 a2 b0 b1 b2 r0 Bi:Int}{i i' Aq base:Nat}

noncomputable abbrev tM:Code:=sub (cd Tryz.f178) [1,0,1,0,0]
noncomputable abbrev zL:Code:=sub (cd Tryz.f105) [1,1,1,0,1,0,0]
theorem aIw:0≤(0:Int)∧(0:Int)<3:=by first | decide | simp
theorem aIx:0≤(1:Int)∧(1:Int)<3:=by first | decide | simp
theorem aIy:0≤(2:Int)∧(2:Int)<3:=by first | decide | simp
theorem bMh:(decide ((3:Int)<3))=false:=by first | decide | simp
theorem bMi:(decide ((0:Int) ≥ 3))=false:=by first | decide | simp
theorem bMj:(decide ((0:Int)<3))=true:=by first | decide | simp
theorem bMk:(decide ((1:Int) ≥ 3))=false:=by first | decide | simp
theorem bMl:(decide ((1:Int)<3))=true:=by first | decide | simp
theorem bMm:(decide ((2:Int) ≥ 3))=false:=by first | decide | simp
theorem bMn:(decide ((2:Int)<3))=true:=by first | decide | simp
def iE(k:Int)(r:List Cel)(i:Nat)(a0 a1 a2:Int):St:=⟨fr 27 [(1,(.p (.sl r.length ((r.map cE).flatten)))),(4,(.ptr 0 0)),(7,(.ptr 1 0)),(14,(pI (aK k))),(15,(pI (i:Int)))],[some (.box 186 [(pI 0),(pI 0),(pI 0)]),some (.box 186 [(pI a0),(pI a1),(pI a2)])]⟩
theorem aMi{r:List Cel}{a0'1 a1'2 a2'3:Int}(Ay:aF Tp 0 zL (iE k r 0 0 0 0) (.exit 0) (iE k r Aq a0'1 a1'2 a2'3)):FV Tp 105 [(pI k),(.p (.sl r.length ((r.map cE).flatten)))] base (.p (.agg [(aB a0'1),(aB a1'2),(aB a2'3)])) []:=have k1:=fk 1 (eI k) rfl;FV.fi func105 [k1.o,Ay.k 6 (gI av [0,1])] (gc Ay.code (gc k1 gn))
theorem uS{r:List Cel}{Bo:List UInt8}(Av:i=0)(h1:(0:Int)<(aK k))(h2:r[0]? = some (Bi,Bo))(Ai:i'=1):aA Tp 0 zL (iE k r i a0 a1 a2) .normal (iE k r i' Bi a1 a2):=by
 subst Av;subst Ai;exact aA.fi (gI av [0,1]) [bT,.x (aB Bi)] (gt (inR 1) (by show _∧_;omega) (gc aIw (gt (((r.map cE).flatten)[0]? = some (aB Bi)) (aN (E:=cE) (i:=0) (f:=0) (k:=2) (fun _=>rfl) h2 rfl) (gc (bD (E:=cE) (k:=2) (i:=(0:Int)) (fun _=>rfl) (by decide) (by first | decide | simp) h2) (gc (bX h1) gn)))))
theorem aCo{r:List Cel}{Bo:List UInt8}(Av:i=1)(h1:(1:Int)<(aK k))(h2:r[1]? = some (Bi,Bo))(Ai:i'=2):aA Tp 0 zL (iE k r i a0 a1 a2) .normal (iE k r i' a0 Bi a2):=by
 subst Av;subst Ai;exact aA.fi (gI av [0,1]) [bT,.x (aB Bi)] (gt (inR 2) (by show _∧_;omega) (gc aIx (gt (((r.map cE).flatten)[2]? = some (aB Bi)) (aN (E:=cE) (i:=1) (f:=0) (k:=2) (fun _=>rfl) h2 rfl) (gc (bD (E:=cE) (k:=2) (i:=(1:Int)) (fun _=>rfl) (by decide) (by first | decide | simp) h2) (gc (bX h1) gn)))))
theorem aVk{r:List Cel}(Av:i=1)(h1:(aK k)≤1)(Ai:i'=1):aA Tp 0 zL (iE k r i a0 a1 a2) (.exit 0) (iE k r i' a0 a1 a2):=by
 subst Av;subst Ai;exact aA.fi (gI av [0,1]) [bF] (gc (aO h1) gn)
theorem aVl{r:List Cel}{Bo:List UInt8}(Av:i=2)(h1:(2:Int)<(aK k))(h2:r[2]? = some (Bi,Bo))(Ai:i'=3):aA Tp 0 zL (iE k r i a0 a1 a2) .normal (iE k r i' a0 a1 Bi):=by
 subst Av;subst Ai;exact aA.fi (gI av [0,1]) [bT,.x (aB Bi)] (gt (inR 3) (by show _∧_;omega) (gc aIy (gt (((r.map cE).flatten)[4]? = some (aB Bi)) (aN (E:=cE) (i:=2) (f:=0) (k:=2) (fun _=>rfl) h2 rfl) (gc (bD (E:=cE) (k:=2) (i:=(2:Int)) (fun _=>rfl) (by decide) (by first | decide | simp) h2) (gc (bX h1) gn)))))
theorem aVm{r:List Cel}(Av:i=2)(h1:(aK k)≤2)(Ai:i'=2):aA Tp 0 zL (iE k r i a0 a1 a2) (.exit 0) (iE k r i' a0 a1 a2):=by
 subst Av;subst Ai;exact aA.fi (gI av [0,1]) [bF] (gc (aO h1) gn)
theorem aVn{r:List Cel}(Av:i=3)(h1:(aK k)≤3)(Ai:i'=3):aA Tp 0 zL (iE k r i a0 a1 a2) (.exit 0) (iE k r i' a0 a1 a2):=by
 subst Av;subst Ai;exact aA.fi (gI av [0,1]) [bF] (gc (aO h1) gn)
def aL(k:Int)(r:List Cel)(j:Nat):Int:=if (j:Int)<aK k then ((r[j]?).getD (0,[])).1 else 0
theorem uT{r:List Cel}{j:Nat}(h:j<r.length):r[j]? = some (((r[j]?).getD (0,[])).1,((r[j]?).getD (0,[])).2):=by
 rw [Ca h];rfl
theorem eC(k:Int)(r:List Cel)(h:aK k≤(r.length:Int)){base:Nat}:FV Tp 105 [.p (aB k),.p (.sl r.length ((r.map cE).flatten))] base (.p (.agg [aB (aL k r 0),aB (aL k r 1),aB (aL k r 2)])) []:=by
 have hk:aK k=1∨aK k=2∨aK k=3:=by unfold aK;split <;> (try split) <;> simp
 rcases hk with e | e | e
 ·have a0:aL k r 0=((r[0]?).getD (0,[])).1:=if_pos (by omega)
  have a1:aL k r 1=0:=if_neg (by omega)
  have a2:aL k r 2=0:=if_neg (by omega)
  rw [a0,a1,a2];exact aMi (.step (uS rfl (by omega) (uT (by omega)) rfl) (.exit (aVk rfl (by omega) rfl) (by simp)))
 ·have a0:aL k r 0=((r[0]?).getD (0,[])).1:=if_pos (by omega)
  have a1:aL k r 1=((r[1]?).getD (0,[])).1:=if_pos (by omega)
  have a2:aL k r 2=0:=if_neg (by omega)
  rw [a0,a1,a2];exact aMi (.step (uS rfl (by omega) (uT (by omega)) rfl) (.step (aCo rfl (by omega) (uT (by omega)) rfl) (.exit (aVm rfl (by omega) rfl) (by simp))))
 ·have a0:aL k r 0=((r[0]?).getD (0,[])).1:=if_pos (by omega)
  have a1:aL k r 1=((r[1]?).getD (0,[])).1:=if_pos (by omega)
  have a2:aL k r 2=((r[2]?).getD (0,[])).1:=if_pos (by omega)
  rw [a0,a1,a2];exact aMi (.step (uS rfl (by omega) (uT (by omega)) rfl) (.step (aCo rfl (by omega) (uT (by omega)) rfl) (.step (aVl rfl (by omega) (uT (by omega)) rfl) (.exit (aVn rfl (by omega) rfl) (by simp)))))
theorem aMj{r0:Bool}(Am:r0=(x != x)):FV Tp 215 [(pI x)] base (pB r0) []:=by
 subst Am;exact FV.fi func215 [] gn
theorem uU(x:Int){base:Nat}:FV Tp 215 [.p (aB x)] base (pB false) []:=by
 first | exact aMj | exact aMj rfl | exact aMj (by simp)
theorem bRy(h0:x<y):FV Tp 163 [(pI x),(pI y)] base (pI (-1)) []:=FV.fi func163 [.c (pB false) [],.c (pB false) [],bF,bF,bT] (gc (bX h0) (gf (gf (gc (fk 0 (uU y) rfl) (gc (fk 0 (uU x) rfl) gn)))))
theorem bRz(h0:y≤x)(h1:y<x):FV Tp 163 [(pI x),(pI y)] base (pI 1) []:=FV.fi func163 [.c (pB false) [],.c (pB false) [],bF,bF,bF,bT] (gc (bX h1) (gc (aO h0) (gf (gf (gc (fk 0 (uU y) rfl) (gc (fk 0 (uU x) rfl) gn))))))
theorem bSa(h0:y≤x)(h1:x≤y):FV Tp 163 [(pI x),(pI y)] base (pI 0) []:=FV.fi func163 [.c (pB false) [],.c (pB false) [],bF,bF,bF,bF] (gc (aO h1) (gc (aO h0) (gf (gf (gc (fk 0 (uU y) rfl) (gc (fk 0 (uU x) rfl) gn))))))
def jR(x y:Int):Int:=if x<y then -1 else if y<x then 1 else 0
theorem uV(x y:Int){base:Nat}:FV Tp 163 [.p (aB x),.p (aB y)] base (pI (jR x y)) []:=by
 unfold jR
 by_cases h:x<y
 ·rw [if_pos h];exact bRy h
 ·rw [if_neg h]
  by_cases h2:y<x
  ·rw [if_pos h2];exact bRz (by omega) h2
  ·rw [if_neg h2];exact bSa (by omega) (by omega)
def n3(a b c:Int)(i:Nat):Int:=if i=0 then a else if i=1 then b else c
def eU(a0 a1 a2 b0 b1 b2:Int)(i:Nat):St:=⟨fr 36 [(0,(.arr 0 0 3)),(1,(.arr 1 0 3)),(9,(.arr 0 0 3)),(10,(pI 3)),(11,(pI (i:Int)))],[some (.box 186 [(pI a0),(pI a1),(pI a2)]),some (.box 186 [(pI b0),(pI b1),(pI b2)])]⟩
theorem bSb(Ay:aF Tp 2 tM (eU a0 a1 a2 b0 b1 b2 0) (.exit 0) (eU a0 a1 a2 b0 b1 b2 Aq)):FMM Tp 178 [(.arr 0 0 3),(.arr 1 0 3)] [some (.box 186 [(pI a0),(pI a1),(pI a2)]),some (.box 186 [(pI b0),(pI b1),(pI b2)])] (pI 0) [some (.box 186 [(pI a0),(pI a1),(pI a2)]),some (.box 186 [(pI b0),(pI b1),(pI b2)])]:=FMM.fi 2 gE func178 [Ay.k 6 (gZ bu),bF] (gc bMh (gc Ay.code gn))
theorem aMk(Ay:aF Tp 2 tM (eU a0 a1 a2 b0 b1 b2 0) .ret (cG (eU a0 a1 a2 b0 b1 b2 Aq) [(4,(pI (jR (n3 a0 a1 a2 Aq) (n3 b0 b1 b2 Aq))))]))(Am:r0=(jR (n3 a0 a1 a2 Aq) (n3 b0 b1 b2 Aq))):FMM Tp 178 [(.arr 0 0 3),(.arr 1 0 3)] [some (.box 186 [(pI a0),(pI a1),(pI a2)]),some (.box 186 [(pI b0),(pI b1),(pI b2)])] (pI r0) [some (.box 186 [(pI a0),(pI a1),(pI a2)]),some (.box 186 [(pI b0),(pI b1),(pI b2)])]:=by
 subst Am;exact FMM.fi 2 gE func178 [Ay.k 6 (gZ bu)] (gc Ay.code gn)
theorem aVo(Av:i=0)(h1:(jR a0 b0)≠0)(Ai:i'=0):aA Tp 2 tM (eU a0 a1 a2 b0 b1 b2 i) .ret (cG (eU a0 a1 a2 b0 b1 b2 i') [(4,(pI (jR a0 b0)))]):=by
 subst Av;subst Ai;have k1:=fk 2 (uV a0 b0) rfl;exact aA.fi (gZ [2,2,5,4,12,19]) [bT,bF,k1.o,bT] (gc (dE h1) (gc k1 (gc aIw (gc bMi (gc aIw (gc bMj gn))))))
theorem uW(Av:i=0)(h1:(jR a0 b0)=0)(Ai:i'=1):aA Tp 2 tM (eU a0 a1 a2 b0 b1 b2 i) .normal (eU a0 a1 a2 b0 b1 b2 i'):=by
 subst Av;subst Ai;have k1:=fk 2 (uV a0 b0) rfl;exact aA.fi (gZ bu) [bT,bF,k1.o,bF] (gt (inR 1) (by show _∧_;omega) (gc (bB h1) (gc k1 (gc aIw (gc bMi (gc aIw (gc bMj gn)))))))
theorem aVp(Av:i=1)(h1:(jR a1 b1)≠0)(Ai:i'=1):aA Tp 2 tM (eU a0 a1 a2 b0 b1 b2 i) .ret (cG (eU a0 a1 a2 b0 b1 b2 i') [(4,(pI (jR a1 b1)))]):=by
 subst Av;subst Ai;have k1:=fk 2 (uV a1 b1) rfl;exact aA.fi (gZ [2,2,5,4,12,19]) [bT,bF,k1.o,bT] (gc (dE h1) (gc k1 (gc aIx (gc bMk (gc aIx (gc bMl gn))))))
theorem aCp(Av:i=1)(h1:(jR a1 b1)=0)(Ai:i'=2):aA Tp 2 tM (eU a0 a1 a2 b0 b1 b2 i) .normal (eU a0 a1 a2 b0 b1 b2 i'):=by
 subst Av;subst Ai;have k1:=fk 2 (uV a1 b1) rfl;exact aA.fi (gZ bu) [bT,bF,k1.o,bF] (gt (inR 2) (by show _∧_;omega) (gc (bB h1) (gc k1 (gc aIx (gc bMk (gc aIx (gc bMl gn)))))))
theorem aVq(Av:i=2)(h1:(jR a2 b2)≠0)(Ai:i'=2):aA Tp 2 tM (eU a0 a1 a2 b0 b1 b2 i) .ret (cG (eU a0 a1 a2 b0 b1 b2 i') [(4,(pI (jR a2 b2)))]):=by
 subst Av;subst Ai;have k1:=fk 2 (uV a2 b2) rfl;exact aA.fi (gZ [2,2,5,4,12,19]) [bT,bF,k1.o,bT] (gc (dE h1) (gc k1 (gc aIy (gc bMm (gc aIy (gc bMn gn))))))
theorem aVr(Av:i=2)(h1:(jR a2 b2)=0)(Ai:i'=3):aA Tp 2 tM (eU a0 a1 a2 b0 b1 b2 i) .normal (eU a0 a1 a2 b0 b1 b2 i'):=by
 subst Av;subst Ai;have k1:=fk 2 (uV a2 b2) rfl;exact aA.fi (gZ bu) [bT,bF,k1.o,bF] (gt (inR 3) (by show _∧_;omega) (gc (bB h1) (gc k1 (gc aIy (gc bMm (gc aIy (gc bMn gn)))))))
theorem aVs(Av:i=3)(Ai:i'=3):aA Tp 2 tM (eU a0 a1 a2 b0 b1 b2 i) (.exit 0) (eU a0 a1 a2 b0 b1 b2 i'):=by
 subst Av;subst Ai;exact aA.fi (gZ bu) [bF] (gc bMh gn)
def E8(a0 a1 a2 b0 b1 b2:Int):Int:=if jR a0 b0≠0 then jR a0 b0 else if jR a1 b1≠0 then jR a1 b1 else jR a2 b2
theorem bSc(a0 a1 a2 b0 b1 b2:Int):FMM Tp 178 [.arr 0 0 3,.arr 1 0 3] [some (.box 186 [(pI a0),(pI a1),(pI a2)]),some (.box 186 [(pI b0),(pI b1),(pI b2)])] (pI (E8 a0 a1 a2 b0 b1 b2)) [some (.box 186 [(pI a0),(pI a1),(pI a2)]),some (.box 186 [(pI b0),(pI b1),(pI b2)])]:=by
 unfold E8
 by_cases h0:jR a0 b0=0
 ·rw [if_neg (by simp [h0])]
  by_cases h1:jR a1 b1=0
  ·rw [if_neg (by simp [h1])]
   by_cases h2:jR a2 b2=0
   ·rw [h2]
    exact bSb (.step (uW rfl h0 rfl) (.step (aCp rfl h1 rfl) (.step (aVr rfl h2 rfl) (.exit (aVs rfl rfl) (by simp)))))
   ·exact aMk (Aq:=2) (.step (uW rfl h0 rfl) (.step (aCp rfl h1 rfl) (.exit (aVq rfl h2 rfl) (by simp)))) rfl
  ·rw [if_pos h1]
   exact aMk (Aq:=1) (.step (uW rfl h0 rfl) (.exit (aVp rfl h1 rfl) (by simp))) rfl
 ·rw [if_pos h0]
  exact aMk (Aq:=0) (.exit (aVo rfl h0 rfl) (by simp)) rfl
def bW(k:Int)(r t:List Cel):Int:=E8 (aL k r 0) (aL k r 1) (aL k r 2) (aL k t 0) (aL k t 1) (aL k t 2)
theorem bSd{r t:List Cel}(h0:aK k≤(r.length:Int))(h1:aK k≤(t.length:Int))(Am:r0=(E8 (aL k r 0) (aL k r 1) (aL k r 2) (aL k t 0) (aL k t 1) (aL k t 2))):FV Tp 92 [(pI k),(.p (.sl r.length ((r.map cE).flatten))),(.p (.sl t.length ((t.map cE).flatten)))] base (pI r0) []:=by
 subst Am;have k1:=fk 0 (eC k r h0) rfl;have k2:=fk 0 (eC k t h1) rfl;have k3:=mq [0,1] 2 (bSc (aL k r 0) (aL k r 1) (aL k r 2) (aL k t 0) (aL k t 1) (aL k t 2));exact FV.fi func92 [k1.o,k2.o,k3.o] (gc k3 (gt (0≤(0:Int)∧(0:Int)≤3∧(3:Int)≤3∧3≤maxLen) (by unfold maxLen;omega) (gt (0≤(0:Int)∧(0:Int)≤3∧(3:Int)≤3∧3≤maxLen) (by unfold maxLen;omega) (gc k2 (gc k1 gn)))))
end
section
variable {k r0:Int}{i Aq base:Nat}

noncomputable abbrev tJ:Code:=sub (cd Tryz.f102) [1,1,1,0,1,0,0]
theorem lS(k:Int)(r t:List Cel)(h:aK k≤(r.length:Int))(h2:aK k≤(t.length:Int)){base:Nat}:FV Tp 92 [.p (aB k),.p (.sl r.length ((r.map cE).flatten)),.p (.sl t.length ((t.map cE).flatten))] base (pI (bW k r t)) []:=bSd h h2 rfl
def aCm(k:Int)(R:List (List Cel))(i:Nat):Int:=if bW k ((R[i-1]?).getD []) ((R[i]?).getD [])=0 then 5 else 4
def eT(k:Int)(R:List (List Cel))(i:Nat):St:=⟨fr 57 [(1,(.ptr 0 0)),(4,(pI (i:Int)))],[some (.box 26 [(pI k),(.p (.sl R.length (R.map aM)))])]⟩
theorem bRs{R:List (List Cel)}(h0:(within k 0 4)=false):FV Tp 102 [(.p (.agg [(aB k),(.sl R.length (R.map aM))]))] base (pI 1) []:=have k1:=fk 1 (lO k) rfl;FV.fi func102 [k1.o,bT] (gc (cY h0) (gc k1 gn))
theorem bRt{R:List (List Cel)}(h0:(within k 0 4)=true)(h1:(200:Int)<(R.length:Int)):FV Tp 102 [(.p (.agg [(aB k),(.sl R.length (R.map aM))]))] base (pI 2) []:=have k1:=fk 1 (lO k) rfl;FV.fi func102 ([k1.o,bF]++rT 5) (Cr (bX h1) (gc (aV h0) (gc k1 gn)))
section
variable{R:List (List Cel)}(h0:(within k 0 4)=true)(h1:(R.length:Int)≤200)(h2:R.length≤100000)
include h0 h1 h2
theorem bRu(h3:(R.all (Ea))=false):FV Tp 102 [(.p (.agg [(aB k),(.sl R.length (R.map aM))]))] base (pI 2) []:=have k1:=fk 1 (lO k) rfl;have k2:=fk 1 (wW R h2) rfl;FV.fi func102 [k1.o,bF,bF,bF,bF,k2.o,bF,bF,bT] (gc (cY h3) (A1 (aO h1) (gc k2 (Au (aO h1) (gc (aV h0) (gc k1 gn))))))
theorem bRv(h3:(R.all (Ea))=true)(h4:(lT k R)≠0)(Am:r0=(lT k R)):FV Tp 102 [(.p (.agg [(aB k),(.sl R.length (R.map aM))]))] base (pI r0) []:=by
 subst Am;have k1:=fk 1 (lO k) rfl;have k2:=fk 1 (wW R h2) rfl;exact FV.fi func102 [k1.o,bF,bF,bF,bF,k2.o,bF,bF,bF,.c (pI (lT k R)) [],bT] (gc (dE h4) (gc (fk 1 (aFb k R h2) rfl) (gc (aV h3) (A1 (aO h1) (gc k2 (Au (aO h1) (gc (aV h0) (gc k1 gn))))))))
theorem bRw(h3:(R.all (Ea))=true)(h4:(lT k R)=0)(C5:aF Tp 0 tJ (eT k R 1) (.exit 1) (eT k R Aq)):FV Tp 102 [(.p (.agg [(aB k),(.sl R.length (R.map aM))]))] base (pI 0) []:=have k1:=fk 1 (lO k) rfl;have k2:=fk 1 (wW R h2) rfl;FV.fi func102 [k1.o,bF,bF,bF,bF,k2.o,bF,bF,bF,.c (pI (lT k R)) [],bF,C5.k 4 (gI bl [0])] (gc C5.code (gc (bB h4) (gc (fk 1 (aFb k R h2) rfl) (gc (aV h3) (A1 (aO h1) (gc k2 (Au (aO h1) (gc (aV h0) (gc k1 gn)))))))))
theorem bRx(h3:(R.all (Ea))=true)(h4:(lT k R)=0)(C5:aF Tp 0 tJ (eT k R 1) .ret (cG (eT k R Aq) [(2,(pI (aCm k R Aq)))]))(Am:r0=(aCm k R Aq)):FV Tp 102 [(.p (.agg [(aB k),(.sl R.length (R.map aM))]))] base (pI r0) []:=by
 subst Am;have k1:=fk 1 (lO k) rfl;have k2:=fk 1 (wW R h2) rfl;exact FV.fi func102 [k1.o,bF,bF,bF,bF,k2.o,bF,bF,bF,.c (pI (lT k R)) [],bF,C5.k 4 (gI bl [0])] (gc C5.code (gc (bB h4) (gc (fk 1 (aFb k R h2) rfl) (gc (aV h3) (A1 (aO h1) (gc k2 (Au (aO h1) (gc (aV h0) (gc k1 gn)))))))))
end
section
variable{R:List (List Cel)}{Ab A6:List Cel}(h0:(i:Int)<(R.length:Int))(h1:inR ((i:Int)-1))(h2:R[((i:Int)-1).toNat]? = some Ab)(h3:0≤((i:Int)-1))(h4:R[i]? = some A6)(h5:aK k≤(Ab.length:Int))(h6:aK k≤(A6.length:Int))
include h0 h1 h2 h3 h4 h5 h6
theorem aVg(h7:(bW k Ab A6)=0):aA Tp 0 tJ (eT k R i) .ret (cG (eT k R i) [(2,(pI 5))]):=have k1:=fk 1 (lS k Ab A6 h5 h6) rfl;aA.fi (gI [0,1,3,1,5,52] [0]) [bT,.x (.sl Ab.length ((Ab.map cE).flatten)),.x (.sl A6.length ((A6.map cE).flatten)),k1.o,bT] (gc (dG h7) (gc k1 (gc (atm aM h4) (gc (ixn aM h4) (gt ((R.map aM)[(((i:Int)-1).toNat*1)]? = some (.sl Ab.length ((Ab.map cE).flatten))) (aDj (i:=((i:Int)-1).toNat) h2) (gc (aDk (g:=aM) h3 h2) (gc h1 (g0 h0))))))))
theorem aVh(h7:(bW k Ab A6)≠0)(h8:(0:Int)<(bW k Ab A6)):aA Tp 0 tJ (eT k R i) .ret (cG (eT k R i) [(2,(pI 4))]):=have k1:=fk 1 (lS k Ab A6 h5 h6) rfl;aA.fi (gI [0,1,3,1,5,52] [0]) [bT,.x (.sl Ab.length ((Ab.map cE).flatten)),.x (.sl A6.length ((A6.map cE).flatten)),k1.o,bF,bT] (gc (bX h8) (gc (bI h7) (gc k1 (gc (atm aM h4) (gc (ixn aM h4) (gt ((R.map aM)[(((i:Int)-1).toNat*1)]? = some (.sl Ab.length ((Ab.map cE).flatten))) (aDj (i:=((i:Int)-1).toNat) h2) (gc (aDk (g:=aM) h3 h2) (gc h1 (g0 h0)))))))))
theorem aVi{i':Nat}(h7:(bW k Ab A6)≠0)(h8:(bW k Ab A6)≤0)(h9:ce i)(Ai:i'=(i+1)):aA Tp 0 tJ (eT k R i) .normal (eT k R i'):=by
 subst Ai;have k1:=fk 1 (lS k Ab A6 h5 h6) rfl;exact aA.fi (gI bl [0]) [bT,.x (.sl Ab.length ((Ab.map cE).flatten)),.x (.sl A6.length ((A6.map cE).flatten)),k1.o,bF,bF] (gc h9 (gc (aO h8) (gc (bI h7) (gc k1 (gc (atm aM h4) (gc (ixn aM h4) (gt ((R.map aM)[(((i:Int)-1).toNat*1)]? = some (.sl Ab.length ((Ab.map cE).flatten))) (aDj (i:=((i:Int)-1).toNat) h2) (gc (aDk (g:=aM) h3 h2) (gc h1 (g0 h0))))))))))
end
theorem aCn{R:List (List Cel)}(h0:(R.length:Int)≤(i:Int)):aA Tp 0 tJ (eT k R i) (.exit 1) (eT k R i):=aA.fi (gI bl [0]) [bF] (gc (aO h0) gn)
def aVj(k:Int):List (List Cel)→Int
 | a::b::l=>if bW k a b=0 then 5 else if 0<bW k a b then 4 else aVj k (b::l)
 | _=>0
def eQ(k:Int)(R:List (List Cel)):Int:=if within k 0 4=false then 1 else if 200<R.length∨R.all Ea=false then 2 else if lT k R≠0 then lT k R else aVj k R
theorem tK(k:Int):aK k≤((aJ k).length:Int):=by
 unfold aK aJ
 by_cases h0:k=0
 ·subst h0;decide
 ·by_cases h1:k=1
  ·subst h1;decide
  ·by_cases h2:k=2
   ·subst h2;decide
   ·by_cases h3:k=3
    ·subst h3;decide
    ·simp [h0,h1,h2,h3]
theorem aPy{k:Int}{x:List Cel}(h0:Ea x=true)(h:fF k x=true):x.length=(aJ k).length:=by
 have h0:=of_decide_eq_true h0;unfold fF at h
 rw [aAk] at h
 rcases h with h | h
 ·have:=of_decide_eq_true h;omega
 ·have:=eq_of_beq h;omega
theorem bDj{k:Int}{x:List Cel}(h0:Ea x=true)(h:fF k x=true):aK k≤(x.length:Int):=by
 rw [aPy h0 h];exact tK k
theorem aPz{k:Int}{R:List (List Cel)}(h:lT k R≠2):R.all (fF k)=true:=by
 cases q:R.all (fF k)
 ·exact absurd (by unfold lT;rw [if_pos q]) h
 ·rfl
theorem aIv{k:Int}{R:List (List Cel)}(hR:R.length≤200)(hk:∀ x∈R,aK k≤(x.length:Int)):∀ (l:List (List Cel)) (i:Nat),1≤i→R.drop (i-1)=l →
  (aVj k l=0∧∃ j,aF Tp 0 tJ (eT k R i) (.exit 1) (eT k R j))∨(aVj k l≠0∧∃ j,aVj k l=aCm k R j∧aF Tp 0 tJ (eT k R i) .ret (cG (eT k R j) [(2,(pI (aCm k R j)))]))
 | [],i,hi,hd=>by
  have hl:R.length≤i-1:=List.drop_eq_nil_iff.1 hd;exact .inl ⟨rfl,i,.exit (aCn (by omega)) (by simp)⟩
 | [a],i,hi,hd=>by
  have hl:=congrArg List.length hd;rw [uK,List.length_singleton] at hl
  exact .inl ⟨rfl,i,.exit (aCn (by omega)) (by simp)⟩
 | a::b::l,i,hi,hd=>by
  have hl:=congrArg List.length hd;rw [uK,gO,gO] at hl
  have ha:R[i-1]? = some a:=by
   have:=congrArg (fun l:List (List Cel)=>l[0]?) hd
   simpa using this
  have hb:R[i]? = some b:=by
   have:=congrArg (fun l:List (List Cel)=>l[1]?) hd
   rw [List.getElem?_drop] at this
   rw [show i-1+1=i by omega] at this
   simpa using this
  have Ep:R[((i:Int)-1).toNat]? = some a:=by rw [show ((i:Int)-1).toNat=i-1 by omega];exact ha
  have ka:=hk a (Cn ha);have kb:=hk b (Cn hb);have E6:R.drop (i+1-1)=b::l:=by
   have:=congrArg List.tail hd;rw [List.tail_drop] at this
   rw [show i+1-1=i-1+1 by omega];exact this
  have hat:aCm k R i=if bW k a b=0 then 5 else 4:=by unfold aCm;rw [ha,hb];rfl
  unfold aVj
  by_cases h0:bW k a b=0
  ·rw [if_pos h0]
   rw [if_pos h0] at hat
   refine .inr ⟨by decide,i,hat.symm,?_⟩
   rw [hat];exact .exit (aVg (by omega) (by show _∧_;omega) Ep (by omega) hb ka kb h0) (by simp)
  ·rw [if_neg h0]
   by_cases h1:0<bW k a b
   ·rw [if_pos h1]
    rw [if_neg h0] at hat
    refine .inr ⟨by decide,i,hat.symm,?_⟩
    rw [hat];exact .exit (aVh (by omega) (by show _∧_;omega) Ep (by omega) hb ka kb h0 h1) (by simp)
   ·rw [if_neg h1]
    have hs:aA Tp 0 tJ (eT k R i) .normal (eT k R (i+1)):=aVi (by omega) (by show _∧_;omega) Ep (by omega) hb ka kb h0 (by omega) (aW (by omega)) rfl
    rcases aIv hR hk (b::l) (i+1) (by omega) E6 with ⟨q,j,L⟩ | ⟨q,j,q2,L⟩
    ·exact .inl ⟨q,j,.step hs L⟩
    ·exact .inr ⟨q,j,q2,.step hs L⟩
theorem iD(k:Int)(R:List (List Cel)){base:Nat}:FV Tp 102 [.p (.agg [aB k,cD R])] base (pI (eQ k R)) []:=by
 unfold eQ;cases hk:within k 0 4
 ·rw [if_pos rfl];exact bRs hk
 ·rw [if_neg (by simp)]
  by_cases hl:200<R.length
  ·rw [if_pos (.inl hl)];exact bRt hk (by omega)
  ·cases hn:R.all Ea
   ·rw [if_pos (.inr rfl)];exact bRu hk (by omega) (by omega) hn
   ·rw [if_neg (by simp [hl])]
    by_cases hc:lT k R=0
    ·rw [if_neg (by simp [hc])]
     have hf:=aPz (k:=k) (R:=R) (by rw [hc];decide)
     rw [jO] at hf
     have Kw:=hn;rw [jO] at Kw
     rcases aIv (k:=k) (R:=R) (by omega) (fun x hx=>bDj (Kw x hx) (hf x hx)) R 1 (by omega) rfl with ⟨q,j,L⟩ | ⟨q,j,q2,L⟩
     ·rw [q];exact bRw hk (by omega) (by omega) hn hc L
     ·rw [q2];exact bRx hk (by omega) (by omega) hn hc L rfl
    ·rw [if_pos hc];exact bRv hk (by omega) (by omega) hn hc rfl
end
end KV
end Go.Proofs
section
namespace Go.Proofs
open Go.RowKit
namespace KV
open Tryz
theorem aQf{w:World}{b o:Nat}{v:Value}(h:w.cell? ⟨b,o,none⟩=some v):b<w.heap.size:=by
 unfold World.cell? at h
 cases hb:w.heap[b]? with
 | none=>simp [hb] at h
 | some x=>exact (Eb.1 hb).1
theorem aJb{F:Nat→Prop}{w:World}{l:List UInt8}{u:Value}(h:cP F w (aD l) u):u = .string ⟨l.toArray⟩:=by cases h;rfl
theorem bKn(l:List (List UInt8))(sep:List UInt8)(h1:l.length≤140737488355328)(h2:(Lib.join l sep).length≤140737488355328){base:Nat}:FV Tp 50 [.p (.sl l.length (l.map aD)),.p (aD sep)] base (.p (aD (Lib.join l sep))) []:=FV.ofc rfl fun C w us hus hM=>by
 cases hus with | cons _ u _ k h hr =>
 cases hr with | cons _ u2 _ k2 Mz Dl =>
 cases Dl;cases Mz with | p _ _ Mz =>
 obtain rfl:=aJb Mz;cases h with | p _ _ h =>
 cases h with | sl _ _ p cap vs q1 q2 q3 q4 q5 =>
 by_cases h0:l=[]
 ·subst h0
  refine (Tryz.strings_Join_none p cap ⟨sep.toArray⟩ w).mono ?_;rintro e w' ⟨rfl,rfl⟩;exact ⟨_,rfl,Below.refl _ _,.p _ _ (.v _)⟩
 ·have hl:0<l.length:=List.length_pos_iff.2 h0
  obtain ⟨b,o,hp,_,Po⟩:=q3 0 (by simpa using hl)
  subst hp;have hlen:l.length=(l.map fun x=>(⟨x.toArray⟩:ByteArray)).length:=by simp
  have ex:(l.map fun x=>(⟨x.toArray⟩:ByteArray)).map (·.data.toList)=l:=by simp [aAl,Function.comp_def]
  have:=Tryz.strings_Join b o cap (l.map fun x=>(⟨x.toArray⟩:ByteArray)) ⟨sep.toArray⟩ w (fun j x hx=>by
    rw [tA] at hx
    obtain ⟨y,hy,rfl⟩:=C8.1 hx;have hj:=(Cj.1 hy).1;obtain ⟨b',o',hp,_,hc⟩:=q3 j (by simpa using hj)
    cases hp;rw [hc];have hr:=q4 j (by simpa using hj)
    rw [iA] at hr
    have e:l[j]=y:=(Cj.1 hy).2;rw [e] at hr
    exact congrArg some (aJb hr)) (aQf Po) (by simpa using h1) (by simpa using q1) (by rw [ex];exact h2)
  rw [ex,oC] at this
  refine this.mono ?_;rintro e w' ⟨rfl,hb⟩;exact ⟨_,rfl,hb,.p _ _ (.v _)⟩
end KV
end Go.Proofs
end
namespace Go.Proofs
namespace KV
open Tryz
section
variable {k Bq:Int}{i j j' Aq base:Nat}

noncomputable abbrev nW:Code:=pS (cd Tryz.f28) 5 [0,1,0,0]
noncomputable abbrev aCl:Code:=pS (cd Tryz.f28) 5 [0,1,0,0,1,1,0,0,1,1,0,1,0,0]
theorem bMc:0≤(0:Int)∧(0:Int)<5:=by first | decide | simp
theorem bMd:0≤(1:Int)∧(1:Int)<5:=by first | decide | simp
theorem bMe:0≤(2:Int)∧(2:Int)<5:=by first | decide | simp
theorem bMf:0≤(3:Int)∧(3:Int)<5:=by first | decide | simp
theorem bMg:0≤(4:Int)∧(4:Int)<5:=by first | decide | simp
def stE(s:List UInt8):List PV:=[aD s]
theorem jB:∀ l:List (List UInt8),(l.map stE).flatten=l.map aD
 | []=>rfl
 | s::l=>by rw [jP,uI,jB l];rfl
theorem bDi(l:List (List UInt8))(sep:List UInt8)(h1:l.length≤140737488355328)(h2:(Lib.join l sep).length≤140737488355328){base:Nat}:FV Tp 50 [.p (.sl l.length ((l.map stE).flatten)),.p (aD sep)] base (.p (aD (Lib.join l sep))) []:=by rw [jB];exact bKn l sep h1 h2
theorem bRh{l:List (List UInt8)}(h0:l.length≤140737488355328)(h1:(Lib.join l ([32]:List UInt8)).length≤140737488355328)(h2:(Lib.join l ([32]:List UInt8)).length+([10]:List UInt8).length≤4611686018427387904):FV Tp 118 [(.p (.sl l.length ((l.map stE).flatten)))] base (.p (aD ((Lib.join l ([32]:List UInt8))++([10]:List UInt8)))) []:=have k1:=fk 0 (bDi l ([32]:List UInt8) h0 h1) rfl;FV.fi func118 [k1.o] (gc h2 (gc k1 gn))
def lnM(l:List (List UInt8)):List UInt8:=Lib.join l [32]++[10]
theorem eB(l:List (List UInt8))(h1:l.length≤1000000)(h2:(Lib.join l [32]).length≤1000000){base:Nat}:FV Tp 118 [.p (.sl l.length ((l.map stE).flatten))] base (.p (aD (lnM l))) []:=bRh (by omega) (by omega) (by simp;omega)
def cJ(k:Int)(R:List (List Cel))(i:Nat)(o:List UInt8):St:=⟨fr 81 [(2,(.p (aD ([]:List UInt8)))),(3,(pI 0)),(5,(.p (aD o))),(6,(.p (bJ (aJ k)))),(8,(.ptr 0 0)),(38,(.p (.sl R.length (R.map aM)))),(39,(pI (R.length:Int))),(40,(pI (i:Int)))],[some (.box 214 [(.fn 224 [] [(.rp [(PV.fn 188 [] [])] 0)]),(.fn 225 [] [(.rp [(PV.fn 120 [] [])] 0)]),(.fn 226 [] [(.rp [(aB 999999)] 0)]),(.fn 224 [] [(.rp [(PV.fn 39 [] [])] 0)]),(.fn 225 [] [(.rp [(PV.fn 189 [] [])] 0)]),(.fn 226 [] [(.rp [(aB 360000)] 0)]),(.fn 227 [] [(.rp [(PV.fn 191 [] [])] 0)]),(.fn 228 [] []),(.fn 229 [] [(.rp [(PV.fn 191 [] [])] 0)]),(.fn 227 [] [(.rp [(PV.fn 192 [] [])] 0)]),(.fn 228 [] []),(.fn 229 [] [(.rp [(PV.fn 192 [] [])] 0)])])]⟩
theorem bRi{R:List (List Cel)}{r0:Int}(h0:(eQ k R)≠0)(Am:r0=(eQ k R)):FV Tp 28 [(.p (.agg [(aB k),(.sl R.length (R.map aM))]))] base (.tup [(.p (aD ([]:List UInt8))),(pI r0)]) []:=by
 subst Am;exact FV.fi func28 [.c (pI (eQ k R)) [],bT] (gc (dE h0) (gc (fk 1 (iD k R) rfl) gn))
section
variable{R:List (List Cel)}{Al:List UInt8}(h0:(eQ k R)=0)(Cy:k=0)(h2:inR (R.length:Int))(h3:([([107,108,105,115,116,101,114]:List UInt8),([115,116,97,114,116,115]:List UInt8),(Lib.itoa (R.length:Int))]:List (List UInt8)).length≤1000000)(h4:(Lib.join ([([107,108,105,115,116,101,114]:List UInt8),([115,116,97,114,116,115]:List UInt8),(Lib.itoa (R.length:Int))]:List (List UInt8)) [32]).length≤1000000)(C5:aF Tp 0 nW (cJ k R 0 (lnM ([([107,108,105,115,116,101,114]:List UInt8),([115,116,97,114,116,115]:List UInt8),(Lib.itoa (R.length:Int))]:List (List UInt8)))) (.exit 0) (cJ k R Aq Al))
include h0 Cy h2 h3 h4 C5
theorem bRj(h6:Al.length≤65536)(h7:inR (bM Al))(h8:([([115,117,109]:List UInt8),(Lib.itoa (bM Al))]:List (List UInt8)).length≤1000000)(h9:(Lib.join ([([115,117,109]:List UInt8),(Lib.itoa (bM Al))]:List (List UInt8)) [32]).length≤1000000)(A5:Al.length+(lnM ([([115,117,109]:List UInt8),(Lib.itoa (bM Al))]:List (List UInt8))).length≤4611686018427387904):FV Tp 28 [(.p (.agg [(aB k),(.sl R.length (R.map aM))]))] base (.tup [(.p (aD (Al++(lnM ([([115,117,109]:List UInt8),(Lib.itoa (bM Al))]:List (List UInt8)))))),(pI 0)]) []:=by
 subst Cy;have k1:=fk 1 (iD 0 R) rfl;have k2:=fk 1 (jQ) rfl;have k3:=fk 10 (dC (R.length:Int) h2) rfl;have k4:=fk 19 (eI 0) rfl;have k5:=fk 19 (eL) rfl;have k6:=fk 1 (jA Al h6) rfl;have k7:=fk 1 (dC (bM Al) h7) rfl;exact FV.fi func28 [k1.o,bF,k2.o,k3.o,.c (.p (aD (lnM ([([107,108,105,115,116,101,114]:List UInt8),([115,116,97,114,116,115]:List UInt8),(Lib.itoa (R.length:Int))]:List (List UInt8))))) [(18,.dead)],k4.o,k5.o,.k 4 (gI ao [19]) (.exit 0) (cJ 0 R Aq Al),k6.o,k7.o,.c (.p (aD (lnM ([([115,117,109]:List UInt8),(Lib.itoa (bM Al))]:List (List UInt8))))) [(1,.dead)]] (gc A5 (gt (FC Tp 118 [(.own 1)] [(1,(.row 9 2 [(aD ([115,117,109]:List UInt8)),(aD (Lib.itoa (bM Al)))]))] 2 (.p (aD (lnM ([([115,117,109]:List UInt8),(Lib.itoa (bM Al))]:List (List UInt8))))) [(1,.dead)]) (FV.close (ids:=[1]) (An:=[(.p (.sl 2 [(aD ([115,117,109]:List UInt8)),(aD (Lib.itoa (bM Al)))]))]) (eB ([([115,117,109]:List UInt8),(Lib.itoa (bM Al))]:List (List UInt8)) h8 h9) (by kernel_rfl)) (gc k7 (gc k6 (gc C5.code (gc k5 (gc k4 (gt (FC Tp 118 [(.own 18)] [(18,(.row 9 3 [(aD ([107,108,105,115,116,101,114]:List UInt8)),(aD ([115,116,97,114,116,115]:List UInt8)),(aD (Lib.itoa (R.length:Int)))]))] 19 (.p (aD (lnM ([([107,108,105,115,116,101,114]:List UInt8),([115,116,97,114,116,115]:List UInt8),(Lib.itoa (R.length:Int))]:List (List UInt8))))) [(18,.dead)]) (FV.close (ids:=[18]) (An:=[(.p (.sl 3 [(aD ([107,108,105,115,116,101,114]:List UInt8)),(aD ([115,116,97,114,116,115]:List UInt8)),(aD (Lib.itoa (R.length:Int)))]))]) (eB ([([107,108,105,115,116,101,114]:List UInt8),([115,116,97,114,116,115]:List UInt8),(Lib.itoa (R.length:Int))]:List (List UInt8)) h3 h4) (by kernel_rfl)) (gc k3 (gc bMc (gc k2 (gc (bB h0) (gc k1 gn)))))))))))))
theorem bRk(h6:65536<Al.length)(h7:inR 0)(h8:([([115,117,109]:List UInt8),(Lib.itoa 0)]:List (List UInt8)).length≤1000000)(h9:(Lib.join ([([115,117,109]:List UInt8),(Lib.itoa 0)]:List (List UInt8)) [32]).length≤1000000)(A5:Al.length+(lnM ([([115,117,109]:List UInt8),(Lib.itoa 0)]:List (List UInt8))).length≤4611686018427387904):FV Tp 28 [(.p (.agg [(aB k),(.sl R.length (R.map aM))]))] base (.tup [(.p (aD (Al++(lnM ([([115,117,109]:List UInt8),(Lib.itoa 0)]:List (List UInt8)))))),(pI 0)]) []:=by
 subst Cy;have k1:=fk 1 (iD 0 R) rfl;have k2:=fk 1 (jQ) rfl;have k3:=fk 10 (dC (R.length:Int) h2) rfl;have k4:=fk 19 (eI 0) rfl;have k5:=fk 19 (eL) rfl;have k6:=fk 1 (kQ Al h6) rfl;have k7:=fk 1 (dC 0 h7) rfl;exact FV.fi func28 [k1.o,bF,k2.o,k3.o,.c (.p (aD (lnM ([([107,108,105,115,116,101,114]:List UInt8),([115,116,97,114,116,115]:List UInt8),(Lib.itoa (R.length:Int))]:List (List UInt8))))) [(18,.dead)],k4.o,k5.o,.k 4 (gI ao [19]) (.exit 0) (cJ 0 R Aq Al),k6.o,k7.o,.c (.p (aD (lnM ([([115,117,109]:List UInt8),(Lib.itoa 0)]:List (List UInt8))))) [(1,.dead)]] (gc A5 (gt (FC Tp 118 [(.own 1)] [(1,(.row 9 2 [(aD ([115,117,109]:List UInt8)),(aD (Lib.itoa 0))]))] 2 (.p (aD (lnM ([([115,117,109]:List UInt8),(Lib.itoa 0)]:List (List UInt8))))) [(1,.dead)]) (FV.close (ids:=[1]) (An:=[(.p (.sl 2 [(aD ([115,117,109]:List UInt8)),(aD (Lib.itoa 0))]))]) (eB ([([115,117,109]:List UInt8),(Lib.itoa 0)]:List (List UInt8)) h8 h9) (by kernel_rfl)) (gc k7 (gc k6 (gc C5.code (gc k5 (gc k4 (gt (FC Tp 118 [(.own 18)] [(18,(.row 9 3 [(aD ([107,108,105,115,116,101,114]:List UInt8)),(aD ([115,116,97,114,116,115]:List UInt8)),(aD (Lib.itoa (R.length:Int)))]))] 19 (.p (aD (lnM ([([107,108,105,115,116,101,114]:List UInt8),([115,116,97,114,116,115]:List UInt8),(Lib.itoa (R.length:Int))]:List (List UInt8))))) [(18,.dead)]) (FV.close (ids:=[18]) (An:=[(.p (.sl 3 [(aD ([107,108,105,115,116,101,114]:List UInt8)),(aD ([115,116,97,114,116,115]:List UInt8)),(aD (Lib.itoa (R.length:Int)))]))]) (eB ([([107,108,105,115,116,101,114]:List UInt8),([115,116,97,114,116,115]:List UInt8),(Lib.itoa (R.length:Int))]:List (List UInt8)) h3 h4) (by kernel_rfl)) (gc k3 (gc bMc (gc k2 (gc (bB h0) (gc k1 gn)))))))))))))
end
section
variable{R:List (List Cel)}{Al:List UInt8}(h0:(eQ k R)=0)(Cy:k=1)(h2:inR (R.length:Int))(h3:([([107,108,105,115,116,101,114]:List UInt8),([112,97,115,115,101,115]:List UInt8),(Lib.itoa (R.length:Int))]:List (List UInt8)).length≤1000000)(h4:(Lib.join ([([107,108,105,115,116,101,114]:List UInt8),([112,97,115,115,101,115]:List UInt8),(Lib.itoa (R.length:Int))]:List (List UInt8)) [32]).length≤1000000)(C5:aF Tp 0 nW (cJ k R 0 (lnM ([([107,108,105,115,116,101,114]:List UInt8),([112,97,115,115,101,115]:List UInt8),(Lib.itoa (R.length:Int))]:List (List UInt8)))) (.exit 0) (cJ k R Aq Al))
include h0 Cy h2 h3 h4 C5
theorem bRl(h6:Al.length≤65536)(h7:inR (bM Al))(h8:([([115,117,109]:List UInt8),(Lib.itoa (bM Al))]:List (List UInt8)).length≤1000000)(h9:(Lib.join ([([115,117,109]:List UInt8),(Lib.itoa (bM Al))]:List (List UInt8)) [32]).length≤1000000)(A5:Al.length+(lnM ([([115,117,109]:List UInt8),(Lib.itoa (bM Al))]:List (List UInt8))).length≤4611686018427387904):FV Tp 28 [(.p (.agg [(aB k),(.sl R.length (R.map aM))]))] base (.tup [(.p (aD (Al++(lnM ([([115,117,109]:List UInt8),(Lib.itoa (bM Al))]:List (List UInt8)))))),(pI 0)]) []:=by
 subst Cy;have k1:=fk 1 (iD 1 R) rfl;have k2:=fk 1 (jQ) rfl;have k3:=fk 10 (dC (R.length:Int) h2) rfl;have k4:=fk 19 (eI 1) rfl;have k5:=fk 19 (eL) rfl;have k6:=fk 1 (jA Al h6) rfl;have k7:=fk 1 (dC (bM Al) h7) rfl;exact FV.fi func28 [k1.o,bF,k2.o,k3.o,.c (.p (aD (lnM ([([107,108,105,115,116,101,114]:List UInt8),([112,97,115,115,101,115]:List UInt8),(Lib.itoa (R.length:Int))]:List (List UInt8))))) [(18,.dead)],k4.o,k5.o,.k 4 (gI ao [19]) (.exit 0) (cJ 1 R Aq Al),k6.o,k7.o,.c (.p (aD (lnM ([([115,117,109]:List UInt8),(Lib.itoa (bM Al))]:List (List UInt8))))) [(1,.dead)]] (gc A5 (gt (FC Tp 118 [(.own 1)] [(1,(.row 9 2 [(aD ([115,117,109]:List UInt8)),(aD (Lib.itoa (bM Al)))]))] 2 (.p (aD (lnM ([([115,117,109]:List UInt8),(Lib.itoa (bM Al))]:List (List UInt8))))) [(1,.dead)]) (FV.close (ids:=[1]) (An:=[(.p (.sl 2 [(aD ([115,117,109]:List UInt8)),(aD (Lib.itoa (bM Al)))]))]) (eB ([([115,117,109]:List UInt8),(Lib.itoa (bM Al))]:List (List UInt8)) h8 h9) (by kernel_rfl)) (gc k7 (gc k6 (gc C5.code (gc k5 (gc k4 (gt (FC Tp 118 [(.own 18)] [(18,(.row 9 3 [(aD ([107,108,105,115,116,101,114]:List UInt8)),(aD ([112,97,115,115,101,115]:List UInt8)),(aD (Lib.itoa (R.length:Int)))]))] 19 (.p (aD (lnM ([([107,108,105,115,116,101,114]:List UInt8),([112,97,115,115,101,115]:List UInt8),(Lib.itoa (R.length:Int))]:List (List UInt8))))) [(18,.dead)]) (FV.close (ids:=[18]) (An:=[(.p (.sl 3 [(aD ([107,108,105,115,116,101,114]:List UInt8)),(aD ([112,97,115,115,101,115]:List UInt8)),(aD (Lib.itoa (R.length:Int)))]))]) (eB ([([107,108,105,115,116,101,114]:List UInt8),([112,97,115,115,101,115]:List UInt8),(Lib.itoa (R.length:Int))]:List (List UInt8)) h3 h4) (by kernel_rfl)) (gc k3 (gc bMd (gc k2 (gc (bB h0) (gc k1 gn)))))))))))))
theorem bRm(h6:65536<Al.length)(h7:inR 0)(h8:([([115,117,109]:List UInt8),(Lib.itoa 0)]:List (List UInt8)).length≤1000000)(h9:(Lib.join ([([115,117,109]:List UInt8),(Lib.itoa 0)]:List (List UInt8)) [32]).length≤1000000)(A5:Al.length+(lnM ([([115,117,109]:List UInt8),(Lib.itoa 0)]:List (List UInt8))).length≤4611686018427387904):FV Tp 28 [(.p (.agg [(aB k),(.sl R.length (R.map aM))]))] base (.tup [(.p (aD (Al++(lnM ([([115,117,109]:List UInt8),(Lib.itoa 0)]:List (List UInt8)))))),(pI 0)]) []:=by
 subst Cy;have k1:=fk 1 (iD 1 R) rfl;have k2:=fk 1 (jQ) rfl;have k3:=fk 10 (dC (R.length:Int) h2) rfl;have k4:=fk 19 (eI 1) rfl;have k5:=fk 19 (eL) rfl;have k6:=fk 1 (kQ Al h6) rfl;have k7:=fk 1 (dC 0 h7) rfl;exact FV.fi func28 [k1.o,bF,k2.o,k3.o,.c (.p (aD (lnM ([([107,108,105,115,116,101,114]:List UInt8),([112,97,115,115,101,115]:List UInt8),(Lib.itoa (R.length:Int))]:List (List UInt8))))) [(18,.dead)],k4.o,k5.o,.k 4 (gI ao [19]) (.exit 0) (cJ 1 R Aq Al),k6.o,k7.o,.c (.p (aD (lnM ([([115,117,109]:List UInt8),(Lib.itoa 0)]:List (List UInt8))))) [(1,.dead)]] (gc A5 (gt (FC Tp 118 [(.own 1)] [(1,(.row 9 2 [(aD ([115,117,109]:List UInt8)),(aD (Lib.itoa 0))]))] 2 (.p (aD (lnM ([([115,117,109]:List UInt8),(Lib.itoa 0)]:List (List UInt8))))) [(1,.dead)]) (FV.close (ids:=[1]) (An:=[(.p (.sl 2 [(aD ([115,117,109]:List UInt8)),(aD (Lib.itoa 0))]))]) (eB ([([115,117,109]:List UInt8),(Lib.itoa 0)]:List (List UInt8)) h8 h9) (by kernel_rfl)) (gc k7 (gc k6 (gc C5.code (gc k5 (gc k4 (gt (FC Tp 118 [(.own 18)] [(18,(.row 9 3 [(aD ([107,108,105,115,116,101,114]:List UInt8)),(aD ([112,97,115,115,101,115]:List UInt8)),(aD (Lib.itoa (R.length:Int)))]))] 19 (.p (aD (lnM ([([107,108,105,115,116,101,114]:List UInt8),([112,97,115,115,101,115]:List UInt8),(Lib.itoa (R.length:Int))]:List (List UInt8))))) [(18,.dead)]) (FV.close (ids:=[18]) (An:=[(.p (.sl 3 [(aD ([107,108,105,115,116,101,114]:List UInt8)),(aD ([112,97,115,115,101,115]:List UInt8)),(aD (Lib.itoa (R.length:Int)))]))]) (eB ([([107,108,105,115,116,101,114]:List UInt8),([112,97,115,115,101,115]:List UInt8),(Lib.itoa (R.length:Int))]:List (List UInt8)) h3 h4) (by kernel_rfl)) (gc k3 (gc bMd (gc k2 (gc (bB h0) (gc k1 gn)))))))))))))
end
section
variable{R:List (List Cel)}{Al:List UInt8}(h0:(eQ k R)=0)(Cy:k=2)(h2:inR (R.length:Int))(h3:([([107,108,105,115,116,101,114]:List UInt8),([116,97,114,103,101,116,115]:List UInt8),(Lib.itoa (R.length:Int))]:List (List UInt8)).length≤1000000)(h4:(Lib.join ([([107,108,105,115,116,101,114]:List UInt8),([116,97,114,103,101,116,115]:List UInt8),(Lib.itoa (R.length:Int))]:List (List UInt8)) [32]).length≤1000000)(C5:aF Tp 0 nW (cJ k R 0 (lnM ([([107,108,105,115,116,101,114]:List UInt8),([116,97,114,103,101,116,115]:List UInt8),(Lib.itoa (R.length:Int))]:List (List UInt8)))) (.exit 0) (cJ k R Aq Al))
include h0 Cy h2 h3 h4 C5
theorem bRn(h6:Al.length≤65536)(h7:inR (bM Al))(h8:([([115,117,109]:List UInt8),(Lib.itoa (bM Al))]:List (List UInt8)).length≤1000000)(h9:(Lib.join ([([115,117,109]:List UInt8),(Lib.itoa (bM Al))]:List (List UInt8)) [32]).length≤1000000)(A5:Al.length+(lnM ([([115,117,109]:List UInt8),(Lib.itoa (bM Al))]:List (List UInt8))).length≤4611686018427387904):FV Tp 28 [(.p (.agg [(aB k),(.sl R.length (R.map aM))]))] base (.tup [(.p (aD (Al++(lnM ([([115,117,109]:List UInt8),(Lib.itoa (bM Al))]:List (List UInt8)))))),(pI 0)]) []:=by
 subst Cy;have k1:=fk 1 (iD 2 R) rfl;have k2:=fk 1 (jQ) rfl;have k3:=fk 10 (dC (R.length:Int) h2) rfl;have k4:=fk 19 (eI 2) rfl;have k5:=fk 19 (eL) rfl;have k6:=fk 1 (jA Al h6) rfl;have k7:=fk 1 (dC (bM Al) h7) rfl;exact FV.fi func28 [k1.o,bF,k2.o,k3.o,.c (.p (aD (lnM ([([107,108,105,115,116,101,114]:List UInt8),([116,97,114,103,101,116,115]:List UInt8),(Lib.itoa (R.length:Int))]:List (List UInt8))))) [(18,.dead)],k4.o,k5.o,.k 4 (gI ao [19]) (.exit 0) (cJ 2 R Aq Al),k6.o,k7.o,.c (.p (aD (lnM ([([115,117,109]:List UInt8),(Lib.itoa (bM Al))]:List (List UInt8))))) [(1,.dead)]] (gc A5 (gt (FC Tp 118 [(.own 1)] [(1,(.row 9 2 [(aD ([115,117,109]:List UInt8)),(aD (Lib.itoa (bM Al)))]))] 2 (.p (aD (lnM ([([115,117,109]:List UInt8),(Lib.itoa (bM Al))]:List (List UInt8))))) [(1,.dead)]) (FV.close (ids:=[1]) (An:=[(.p (.sl 2 [(aD ([115,117,109]:List UInt8)),(aD (Lib.itoa (bM Al)))]))]) (eB ([([115,117,109]:List UInt8),(Lib.itoa (bM Al))]:List (List UInt8)) h8 h9) (by kernel_rfl)) (gc k7 (gc k6 (gc C5.code (gc k5 (gc k4 (gt (FC Tp 118 [(.own 18)] [(18,(.row 9 3 [(aD ([107,108,105,115,116,101,114]:List UInt8)),(aD ([116,97,114,103,101,116,115]:List UInt8)),(aD (Lib.itoa (R.length:Int)))]))] 19 (.p (aD (lnM ([([107,108,105,115,116,101,114]:List UInt8),([116,97,114,103,101,116,115]:List UInt8),(Lib.itoa (R.length:Int))]:List (List UInt8))))) [(18,.dead)]) (FV.close (ids:=[18]) (An:=[(.p (.sl 3 [(aD ([107,108,105,115,116,101,114]:List UInt8)),(aD ([116,97,114,103,101,116,115]:List UInt8)),(aD (Lib.itoa (R.length:Int)))]))]) (eB ([([107,108,105,115,116,101,114]:List UInt8),([116,97,114,103,101,116,115]:List UInt8),(Lib.itoa (R.length:Int))]:List (List UInt8)) h3 h4) (by kernel_rfl)) (gc k3 (gc bMe (gc k2 (gc (bB h0) (gc k1 gn)))))))))))))
theorem bRo(h6:65536<Al.length)(h7:inR 0)(h8:([([115,117,109]:List UInt8),(Lib.itoa 0)]:List (List UInt8)).length≤1000000)(h9:(Lib.join ([([115,117,109]:List UInt8),(Lib.itoa 0)]:List (List UInt8)) [32]).length≤1000000)(A5:Al.length+(lnM ([([115,117,109]:List UInt8),(Lib.itoa 0)]:List (List UInt8))).length≤4611686018427387904):FV Tp 28 [(.p (.agg [(aB k),(.sl R.length (R.map aM))]))] base (.tup [(.p (aD (Al++(lnM ([([115,117,109]:List UInt8),(Lib.itoa 0)]:List (List UInt8)))))),(pI 0)]) []:=by
 subst Cy;have k1:=fk 1 (iD 2 R) rfl;have k2:=fk 1 (jQ) rfl;have k3:=fk 10 (dC (R.length:Int) h2) rfl;have k4:=fk 19 (eI 2) rfl;have k5:=fk 19 (eL) rfl;have k6:=fk 1 (kQ Al h6) rfl;have k7:=fk 1 (dC 0 h7) rfl;exact FV.fi func28 [k1.o,bF,k2.o,k3.o,.c (.p (aD (lnM ([([107,108,105,115,116,101,114]:List UInt8),([116,97,114,103,101,116,115]:List UInt8),(Lib.itoa (R.length:Int))]:List (List UInt8))))) [(18,.dead)],k4.o,k5.o,.k 4 (gI ao [19]) (.exit 0) (cJ 2 R Aq Al),k6.o,k7.o,.c (.p (aD (lnM ([([115,117,109]:List UInt8),(Lib.itoa 0)]:List (List UInt8))))) [(1,.dead)]] (gc A5 (gt (FC Tp 118 [(.own 1)] [(1,(.row 9 2 [(aD ([115,117,109]:List UInt8)),(aD (Lib.itoa 0))]))] 2 (.p (aD (lnM ([([115,117,109]:List UInt8),(Lib.itoa 0)]:List (List UInt8))))) [(1,.dead)]) (FV.close (ids:=[1]) (An:=[(.p (.sl 2 [(aD ([115,117,109]:List UInt8)),(aD (Lib.itoa 0))]))]) (eB ([([115,117,109]:List UInt8),(Lib.itoa 0)]:List (List UInt8)) h8 h9) (by kernel_rfl)) (gc k7 (gc k6 (gc C5.code (gc k5 (gc k4 (gt (FC Tp 118 [(.own 18)] [(18,(.row 9 3 [(aD ([107,108,105,115,116,101,114]:List UInt8)),(aD ([116,97,114,103,101,116,115]:List UInt8)),(aD (Lib.itoa (R.length:Int)))]))] 19 (.p (aD (lnM ([([107,108,105,115,116,101,114]:List UInt8),([116,97,114,103,101,116,115]:List UInt8),(Lib.itoa (R.length:Int))]:List (List UInt8))))) [(18,.dead)]) (FV.close (ids:=[18]) (An:=[(.p (.sl 3 [(aD ([107,108,105,115,116,101,114]:List UInt8)),(aD ([116,97,114,103,101,116,115]:List UInt8)),(aD (Lib.itoa (R.length:Int)))]))]) (eB ([([107,108,105,115,116,101,114]:List UInt8),([116,97,114,103,101,116,115]:List UInt8),(Lib.itoa (R.length:Int))]:List (List UInt8)) h3 h4) (by kernel_rfl)) (gc k3 (gc bMe (gc k2 (gc (bB h0) (gc k1 gn)))))))))))))
end
section
variable{R:List (List Cel)}{Al:List UInt8}(h0:(eQ k R)=0)(Cy:k=3)(h2:inR (R.length:Int))(h3:([([107,108,105,115,116,101,114]:List UInt8),([106,117,100,103,101,109,101,110,116,115]:List UInt8),(Lib.itoa (R.length:Int))]:List (List UInt8)).length≤1000000)(h4:(Lib.join ([([107,108,105,115,116,101,114]:List UInt8),([106,117,100,103,101,109,101,110,116,115]:List UInt8),(Lib.itoa (R.length:Int))]:List (List UInt8)) [32]).length≤1000000)(C5:aF Tp 0 nW (cJ k R 0 (lnM ([([107,108,105,115,116,101,114]:List UInt8),([106,117,100,103,101,109,101,110,116,115]:List UInt8),(Lib.itoa (R.length:Int))]:List (List UInt8)))) (.exit 0) (cJ k R Aq Al))
include h0 Cy h2 h3 h4 C5
theorem bRp(h6:Al.length≤65536)(h7:inR (bM Al))(h8:([([115,117,109]:List UInt8),(Lib.itoa (bM Al))]:List (List UInt8)).length≤1000000)(h9:(Lib.join ([([115,117,109]:List UInt8),(Lib.itoa (bM Al))]:List (List UInt8)) [32]).length≤1000000)(A5:Al.length+(lnM ([([115,117,109]:List UInt8),(Lib.itoa (bM Al))]:List (List UInt8))).length≤4611686018427387904):FV Tp 28 [(.p (.agg [(aB k),(.sl R.length (R.map aM))]))] base (.tup [(.p (aD (Al++(lnM ([([115,117,109]:List UInt8),(Lib.itoa (bM Al))]:List (List UInt8)))))),(pI 0)]) []:=by
 subst Cy;have k1:=fk 1 (iD 3 R) rfl;have k2:=fk 1 (jQ) rfl;have k3:=fk 10 (dC (R.length:Int) h2) rfl;have k4:=fk 19 (eI 3) rfl;have k5:=fk 19 (eL) rfl;have k6:=fk 1 (jA Al h6) rfl;have k7:=fk 1 (dC (bM Al) h7) rfl;exact FV.fi func28 [k1.o,bF,k2.o,k3.o,.c (.p (aD (lnM ([([107,108,105,115,116,101,114]:List UInt8),([106,117,100,103,101,109,101,110,116,115]:List UInt8),(Lib.itoa (R.length:Int))]:List (List UInt8))))) [(18,.dead)],k4.o,k5.o,.k 4 (gI ao [19]) (.exit 0) (cJ 3 R Aq Al),k6.o,k7.o,.c (.p (aD (lnM ([([115,117,109]:List UInt8),(Lib.itoa (bM Al))]:List (List UInt8))))) [(1,.dead)]] (gc A5 (gt (FC Tp 118 [(.own 1)] [(1,(.row 9 2 [(aD ([115,117,109]:List UInt8)),(aD (Lib.itoa (bM Al)))]))] 2 (.p (aD (lnM ([([115,117,109]:List UInt8),(Lib.itoa (bM Al))]:List (List UInt8))))) [(1,.dead)]) (FV.close (ids:=[1]) (An:=[(.p (.sl 2 [(aD ([115,117,109]:List UInt8)),(aD (Lib.itoa (bM Al)))]))]) (eB ([([115,117,109]:List UInt8),(Lib.itoa (bM Al))]:List (List UInt8)) h8 h9) (by kernel_rfl)) (gc k7 (gc k6 (gc C5.code (gc k5 (gc k4 (gt (FC Tp 118 [(.own 18)] [(18,(.row 9 3 [(aD ([107,108,105,115,116,101,114]:List UInt8)),(aD ([106,117,100,103,101,109,101,110,116,115]:List UInt8)),(aD (Lib.itoa (R.length:Int)))]))] 19 (.p (aD (lnM ([([107,108,105,115,116,101,114]:List UInt8),([106,117,100,103,101,109,101,110,116,115]:List UInt8),(Lib.itoa (R.length:Int))]:List (List UInt8))))) [(18,.dead)]) (FV.close (ids:=[18]) (An:=[(.p (.sl 3 [(aD ([107,108,105,115,116,101,114]:List UInt8)),(aD ([106,117,100,103,101,109,101,110,116,115]:List UInt8)),(aD (Lib.itoa (R.length:Int)))]))]) (eB ([([107,108,105,115,116,101,114]:List UInt8),([106,117,100,103,101,109,101,110,116,115]:List UInt8),(Lib.itoa (R.length:Int))]:List (List UInt8)) h3 h4) (by kernel_rfl)) (gc k3 (gc bMf (gc k2 (gc (bB h0) (gc k1 gn)))))))))))))
theorem bRq(h6:65536<Al.length)(h7:inR 0)(h8:([([115,117,109]:List UInt8),(Lib.itoa 0)]:List (List UInt8)).length≤1000000)(h9:(Lib.join ([([115,117,109]:List UInt8),(Lib.itoa 0)]:List (List UInt8)) [32]).length≤1000000)(A5:Al.length+(lnM ([([115,117,109]:List UInt8),(Lib.itoa 0)]:List (List UInt8))).length≤4611686018427387904):FV Tp 28 [(.p (.agg [(aB k),(.sl R.length (R.map aM))]))] base (.tup [(.p (aD (Al++(lnM ([([115,117,109]:List UInt8),(Lib.itoa 0)]:List (List UInt8)))))),(pI 0)]) []:=by
 subst Cy;have k1:=fk 1 (iD 3 R) rfl;have k2:=fk 1 (jQ) rfl;have k3:=fk 10 (dC (R.length:Int) h2) rfl;have k4:=fk 19 (eI 3) rfl;have k5:=fk 19 (eL) rfl;have k6:=fk 1 (kQ Al h6) rfl;have k7:=fk 1 (dC 0 h7) rfl;exact FV.fi func28 [k1.o,bF,k2.o,k3.o,.c (.p (aD (lnM ([([107,108,105,115,116,101,114]:List UInt8),([106,117,100,103,101,109,101,110,116,115]:List UInt8),(Lib.itoa (R.length:Int))]:List (List UInt8))))) [(18,.dead)],k4.o,k5.o,.k 4 (gI ao [19]) (.exit 0) (cJ 3 R Aq Al),k6.o,k7.o,.c (.p (aD (lnM ([([115,117,109]:List UInt8),(Lib.itoa 0)]:List (List UInt8))))) [(1,.dead)]] (gc A5 (gt (FC Tp 118 [(.own 1)] [(1,(.row 9 2 [(aD ([115,117,109]:List UInt8)),(aD (Lib.itoa 0))]))] 2 (.p (aD (lnM ([([115,117,109]:List UInt8),(Lib.itoa 0)]:List (List UInt8))))) [(1,.dead)]) (FV.close (ids:=[1]) (An:=[(.p (.sl 2 [(aD ([115,117,109]:List UInt8)),(aD (Lib.itoa 0))]))]) (eB ([([115,117,109]:List UInt8),(Lib.itoa 0)]:List (List UInt8)) h8 h9) (by kernel_rfl)) (gc k7 (gc k6 (gc C5.code (gc k5 (gc k4 (gt (FC Tp 118 [(.own 18)] [(18,(.row 9 3 [(aD ([107,108,105,115,116,101,114]:List UInt8)),(aD ([106,117,100,103,101,109,101,110,116,115]:List UInt8)),(aD (Lib.itoa (R.length:Int)))]))] 19 (.p (aD (lnM ([([107,108,105,115,116,101,114]:List UInt8),([106,117,100,103,101,109,101,110,116,115]:List UInt8),(Lib.itoa (R.length:Int))]:List (List UInt8))))) [(18,.dead)]) (FV.close (ids:=[18]) (An:=[(.p (.sl 3 [(aD ([107,108,105,115,116,101,114]:List UInt8)),(aD ([106,117,100,103,101,109,101,110,116,115]:List UInt8)),(aD (Lib.itoa (R.length:Int)))]))]) (eB ([([107,108,105,115,116,101,114]:List UInt8),([106,117,100,103,101,109,101,110,116,115]:List UInt8),(Lib.itoa (R.length:Int))]:List (List UInt8)) h3 h4) (by kernel_rfl)) (gc k3 (gc bMf (gc k2 (gc (bB h0) (gc k1 gn)))))))))))))
end
section
variable{R:List (List Cel)}{Al:List UInt8}(h0:(eQ k R)=0)(Cy:k=4)(h2:inR (R.length:Int))(h3:([([107,108,105,115,116,101,114]:List UInt8),([99,117,112,115]:List UInt8),(Lib.itoa (R.length:Int))]:List (List UInt8)).length≤1000000)(h4:(Lib.join ([([107,108,105,115,116,101,114]:List UInt8),([99,117,112,115]:List UInt8),(Lib.itoa (R.length:Int))]:List (List UInt8)) [32]).length≤1000000)(C5:aF Tp 0 nW (cJ k R 0 (lnM ([([107,108,105,115,116,101,114]:List UInt8),([99,117,112,115]:List UInt8),(Lib.itoa (R.length:Int))]:List (List UInt8)))) (.exit 0) (cJ k R Aq Al))
include h0 Cy h2 h3 h4 C5
theorem bRr(h6:Al.length≤65536)(h7:inR (bM Al))(h8:([([115,117,109]:List UInt8),(Lib.itoa (bM Al))]:List (List UInt8)).length≤1000000)(h9:(Lib.join ([([115,117,109]:List UInt8),(Lib.itoa (bM Al))]:List (List UInt8)) [32]).length≤1000000)(A5:Al.length+(lnM ([([115,117,109]:List UInt8),(Lib.itoa (bM Al))]:List (List UInt8))).length≤4611686018427387904):FV Tp 28 [(.p (.agg [(aB k),(.sl R.length (R.map aM))]))] base (.tup [(.p (aD (Al++(lnM ([([115,117,109]:List UInt8),(Lib.itoa (bM Al))]:List (List UInt8)))))),(pI 0)]) []:=by
 subst Cy;have k1:=fk 1 (iD 4 R) rfl;have k2:=fk 1 (jQ) rfl;have k3:=fk 10 (dC (R.length:Int) h2) rfl;have k4:=fk 19 (eI 4) rfl;have k5:=fk 19 (eL) rfl;have k6:=fk 1 (jA Al h6) rfl;have k7:=fk 1 (dC (bM Al) h7) rfl;exact FV.fi func28 [k1.o,bF,k2.o,k3.o,.c (.p (aD (lnM ([([107,108,105,115,116,101,114]:List UInt8),([99,117,112,115]:List UInt8),(Lib.itoa (R.length:Int))]:List (List UInt8))))) [(18,.dead)],k4.o,k5.o,.k 4 (gI ao [19]) (.exit 0) (cJ 4 R Aq Al),k6.o,k7.o,.c (.p (aD (lnM ([([115,117,109]:List UInt8),(Lib.itoa (bM Al))]:List (List UInt8))))) [(1,.dead)]] (gc A5 (gt (FC Tp 118 [(.own 1)] [(1,(.row 9 2 [(aD ([115,117,109]:List UInt8)),(aD (Lib.itoa (bM Al)))]))] 2 (.p (aD (lnM ([([115,117,109]:List UInt8),(Lib.itoa (bM Al))]:List (List UInt8))))) [(1,.dead)]) (FV.close (ids:=[1]) (An:=[(.p (.sl 2 [(aD ([115,117,109]:List UInt8)),(aD (Lib.itoa (bM Al)))]))]) (eB ([([115,117,109]:List UInt8),(Lib.itoa (bM Al))]:List (List UInt8)) h8 h9) (by kernel_rfl)) (gc k7 (gc k6 (gc C5.code (gc k5 (gc k4 (gt (FC Tp 118 [(.own 18)] [(18,(.row 9 3 [(aD ([107,108,105,115,116,101,114]:List UInt8)),(aD ([99,117,112,115]:List UInt8)),(aD (Lib.itoa (R.length:Int)))]))] 19 (.p (aD (lnM ([([107,108,105,115,116,101,114]:List UInt8),([99,117,112,115]:List UInt8),(Lib.itoa (R.length:Int))]:List (List UInt8))))) [(18,.dead)]) (FV.close (ids:=[18]) (An:=[(.p (.sl 3 [(aD ([107,108,105,115,116,101,114]:List UInt8)),(aD ([99,117,112,115]:List UInt8)),(aD (Lib.itoa (R.length:Int)))]))]) (eB ([([107,108,105,115,116,101,114]:List UInt8),([99,117,112,115]:List UInt8),(Lib.itoa (R.length:Int))]:List (List UInt8)) h3 h4) (by kernel_rfl)) (gc k3 (gc bMg (gc k2 (gc (bB h0) (gc k1 gn)))))))))))))
theorem bJh(h6:65536<Al.length)(h7:inR 0)(h8:([([115,117,109]:List UInt8),(Lib.itoa 0)]:List (List UInt8)).length≤1000000)(h9:(Lib.join ([([115,117,109]:List UInt8),(Lib.itoa 0)]:List (List UInt8)) [32]).length≤1000000)(A5:Al.length+(lnM ([([115,117,109]:List UInt8),(Lib.itoa 0)]:List (List UInt8))).length≤4611686018427387904):FV Tp 28 [(.p (.agg [(aB k),(.sl R.length (R.map aM))]))] base (.tup [(.p (aD (Al++(lnM ([([115,117,109]:List UInt8),(Lib.itoa 0)]:List (List UInt8)))))),(pI 0)]) []:=by
 subst Cy;have k1:=fk 1 (iD 4 R) rfl;have k2:=fk 1 (jQ) rfl;have k3:=fk 10 (dC (R.length:Int) h2) rfl;have k4:=fk 19 (eI 4) rfl;have k5:=fk 19 (eL) rfl;have k6:=fk 1 (kQ Al h6) rfl;have k7:=fk 1 (dC 0 h7) rfl;exact FV.fi func28 [k1.o,bF,k2.o,k3.o,.c (.p (aD (lnM ([([107,108,105,115,116,101,114]:List UInt8),([99,117,112,115]:List UInt8),(Lib.itoa (R.length:Int))]:List (List UInt8))))) [(18,.dead)],k4.o,k5.o,.k 4 (gI ao [19]) (.exit 0) (cJ 4 R Aq Al),k6.o,k7.o,.c (.p (aD (lnM ([([115,117,109]:List UInt8),(Lib.itoa 0)]:List (List UInt8))))) [(1,.dead)]] (gc A5 (gt (FC Tp 118 [(.own 1)] [(1,(.row 9 2 [(aD ([115,117,109]:List UInt8)),(aD (Lib.itoa 0))]))] 2 (.p (aD (lnM ([([115,117,109]:List UInt8),(Lib.itoa 0)]:List (List UInt8))))) [(1,.dead)]) (FV.close (ids:=[1]) (An:=[(.p (.sl 2 [(aD ([115,117,109]:List UInt8)),(aD (Lib.itoa 0))]))]) (eB ([([115,117,109]:List UInt8),(Lib.itoa 0)]:List (List UInt8)) h8 h9) (by kernel_rfl)) (gc k7 (gc k6 (gc C5.code (gc k5 (gc k4 (gt (FC Tp 118 [(.own 18)] [(18,(.row 9 3 [(aD ([107,108,105,115,116,101,114]:List UInt8)),(aD ([99,117,112,115]:List UInt8)),(aD (Lib.itoa (R.length:Int)))]))] 19 (.p (aD (lnM ([([107,108,105,115,116,101,114]:List UInt8),([99,117,112,115]:List UInt8),(Lib.itoa (R.length:Int))]:List (List UInt8))))) [(18,.dead)]) (FV.close (ids:=[18]) (An:=[(.p (.sl 3 [(aD ([107,108,105,115,116,101,114]:List UInt8)),(aD ([99,117,112,115]:List UInt8)),(aD (Lib.itoa (R.length:Int)))]))]) (eB ([([107,108,105,115,116,101,114]:List UInt8),([99,117,112,115]:List UInt8),(Lib.itoa (R.length:Int))]:List (List UInt8)) h3 h4) (by kernel_rfl)) (gc k3 (gc bMg (gc k2 (gc (bB h0) (gc k1 gn)))))))))))))
end
def fV(k:Int)(R:List (List Cel))(i:Nat)(o:List UInt8)(Ab:List Cel)(j fn:Nat)(fc:List PV):St:=⟨fr 81 [(2,(.p (aD ([]:List UInt8)))),(3,(pI 0)),(5,(.p (aD o))),(6,(.p (bJ (aJ k)))),(8,(.ptr 0 0)),(10,(.p (.sl Ab.length ((Ab.map cE).flatten)))),(11,(.own 1)),(38,(.p (.sl R.length (R.map aM)))),(39,(pI (R.length:Int))),(40,(pI (i:Int))),(41,(pB (decide ((i:Int)<(R.length:Int))))),(42,(.rp (R.map aM) (i*1))),(43,(.p (.sl Ab.length ((Ab.map cE).flatten)))),(44,(.p (bJ (aJ k)))),(45,(pI ((aJ k).length:Int))),(46,(pI (j:Int)))],[some (.box 214 [(.fn 224 [] [(.rp [(PV.fn 188 [] [])] 0)]),(.fn 225 [] [(.rp [(PV.fn 120 [] [])] 0)]),(.fn 226 [] [(.rp [(aB 999999)] 0)]),(.fn 224 [] [(.rp [(PV.fn 39 [] [])] 0)]),(.fn 225 [] [(.rp [(PV.fn 189 [] [])] 0)]),(.fn 226 [] [(.rp [(aB 360000)] 0)]),(.fn 227 [] [(.rp [(PV.fn 191 [] [])] 0)]),(.fn 228 [] []),(.fn 229 [] [(.rp [(PV.fn 191 [] [])] 0)]),(.fn 227 [] [(.rp [(PV.fn 192 [] [])] 0)]),(.fn 228 [] []),(.fn 229 [] [(.rp [(PV.fn 192 [] [])] 0)])]),some (.row 9 fn fc)]⟩
theorem aUz{R:List (List Cel)}{o:List UInt8}{Ab:List Cel}{J6:Nat}{Cc:List (List UInt8)}{i':Nat}{o':List UInt8}(h0:(i:Int)<(R.length:Int))(h1:R[i]? = some Ab)(Bh:aF Tp 0 aCl (fV k R i o Ab 0 0 []) (.exit 2) (fV k R i o Ab J6 Cc.length ((Cc.map stE).flatten)))(h3:Cc.length≤1000000)(h4:(Lib.join Cc [32]).length≤1000000)(h5:o.length+(lnM Cc).length≤4611686018427387904)(h6:ce i)(Ai:i'=(i+1))(Jy:o'=(o++(lnM Cc))):aA Tp 0 nW (cJ k R i o) .normal (cJ k R i' o'):=by
 subst Ai Jy;exact aA.fi (gI ao [0]) [bT,.x (.sl Ab.length ((Ab.map cE).flatten)),Bh.k 6 (gN al [0,1] [(11,9)]),.c (.p (aD (lnM Cc))) [(1,.dead)]] (gc h6 (gc h5 (gt (FC Tp 118 [(.own 1)] [(1,(.row 9 Cc.length ((Cc.map stE).flatten)))] 2 (.p (aD (lnM Cc))) [(1,.dead)]) (FV.close (ids:=[1]) (An:=[(.p (.sl Cc.length ((Cc.map stE).flatten)))]) (eB Cc h3 h4) (by kernel_rfl)) (gc Bh.code (gc (atm aM h1) (gc (ixn aM h1) (g0 h0)))))))
theorem aVa{R:List (List Cel)}{o:List UInt8}(h0:(R.length:Int)≤(i:Int)):aA Tp 0 nW (cJ k R i o) (.exit 0) (cJ k R i o):=aA.fi (gI ao [0]) [bF] (gc (aO h0) gn)
section
variable(h0:(j:Int)<((aJ k).length:Int))
include h0
theorem aVb{R:List (List Cel)}{o:List UInt8}{Ab:List Cel}{f:List (List UInt8)}{Bn:List UInt8}{f':List (List UInt8)}(h1:(aJ k)[j]? = some 0)(h2:Ab[j]? = some (Bq,Bn))(h3:inR Bq)(h4:[(aD (wrM 0 (Bq,Bn)))].length=1*1∧f.length+1≤1000000)(h5:ce j)(Ci:j'=(j+1))(Fv:f'.length=(f.length+1))(Fw:(f'.map stE).flatten=(((f.map stE).flatten)++[(aD (wrM 0 (Bq,Bn)))])):aA Tp 0 aCl (fV k R i o Ab j f.length ((f.map stE).flatten)) .normal (fV k R i o Ab j' f'.length ((f'.map stE).flatten)):=by
 subst Ci;have k1:=fk 2 (bTs Bq Bn h3) rfl;rw [Fv,Fw];exact aA.fi (gI al [0,11]) [bT,.x (aB 0),.x (.agg [(aB Bq),(aD Bn)]),k1.o] (gc h5 (gc h4 (gc k1 (gc (bE (E:=cE) (i:=j) (k:=2) (fun _=>rfl) h2 rfl) (gc (bZ (E:=cE) (i:=j) (k:=2) (fun _=>rfl) h2) (gc (bD (E:=cE) (k:=2) (i:=(j:Int)) (fun _=>rfl) (by decide) (Bl _) h2) (gt (0≤(0:Int)∧(0:Int)<4) (by first | decide | simp) (gc (atm aB h1) (gc (ixn aB h1) (g0 h0))))))))))
theorem aVc{R:List (List Cel)}{o:List UInt8}{Ab:List Cel}{f:List (List UInt8)}{Bn:List UInt8}{f':List (List UInt8)}(h1:(aJ k)[j]? = some 1)(h2:Ab[j]? = some (Bq,Bn))(h3:[(aD (wrM 1 (Bq,Bn)))].length=1*1∧f.length+1≤1000000)(h4:ce j)(Ci:j'=(j+1))(Fv:f'.length=(f.length+1))(Fw:(f'.map stE).flatten=(((f.map stE).flatten)++[(aD (wrM 1 (Bq,Bn)))])):aA Tp 0 aCl (fV k R i o Ab j f.length ((f.map stE).flatten)) .normal (fV k R i o Ab j' f'.length ((f'.map stE).flatten)):=by
 subst Ci;have k1:=fk 2 (bTt Bq Bn) rfl;rw [Fv,Fw];exact aA.fi (gI al [0,11]) [bT,.x (aB 1),.x (.agg [(aB Bq),(aD Bn)]),k1.o] (gc h4 (gc h3 (gc k1 (gc (bE (E:=cE) (i:=j) (k:=2) (fun _=>rfl) h2 rfl) (gc (bZ (E:=cE) (i:=j) (k:=2) (fun _=>rfl) h2) (gc (bD (E:=cE) (k:=2) (i:=(j:Int)) (fun _=>rfl) (by decide) (Bl _) h2) (gt (0≤(1:Int)∧(1:Int)<4) (by first | decide | simp) (gc (atm aB h1) (gc (ixn aB h1) (g0 h0))))))))))
theorem aVd{R:List (List Cel)}{o:List UInt8}{Ab:List Cel}{f:List (List UInt8)}{Bn:List UInt8}{f':List (List UInt8)}(h1:(aJ k)[j]? = some 2)(h2:Ab[j]? = some (Bq,Bn))(h3:[(aD (wrM 2 (Bq,Bn)))].length=1*1∧f.length+1≤1000000)(h4:ce j)(Ci:j'=(j+1))(Fv:f'.length=(f.length+1))(Fw:(f'.map stE).flatten=(((f.map stE).flatten)++[(aD (wrM 2 (Bq,Bn)))])):aA Tp 0 aCl (fV k R i o Ab j f.length ((f.map stE).flatten)) .normal (fV k R i o Ab j' f'.length ((f'.map stE).flatten)):=by
 subst Ci;have k1:=fk 2 (bDs Bq Bn) rfl;rw [Fv,Fw];exact aA.fi (gI al [0,11]) [bT,.x (aB 2),.x (.agg [(aB Bq),(aD Bn)]),k1.o] (gc h4 (gc h3 (gc k1 (gc (bE (E:=cE) (i:=j) (k:=2) (fun _=>rfl) h2 rfl) (gc (bZ (E:=cE) (i:=j) (k:=2) (fun _=>rfl) h2) (gc (bD (E:=cE) (k:=2) (i:=(j:Int)) (fun _=>rfl) (by decide) (Bl _) h2) (gt (0≤(2:Int)∧(2:Int)<4) (by first | decide | simp) (gc (atm aB h1) (gc (ixn aB h1) (g0 h0))))))))))
theorem aVe{R:List (List Cel)}{o:List UInt8}{Ab:List Cel}{f:List (List UInt8)}{Bn:List UInt8}{f':List (List UInt8)}(h1:(aJ k)[j]? = some 3)(h2:Ab[j]? = some (Bq,Bn))(h3:[(aD (wrM 2 (Bq,Bn)))].length=1*1∧f.length+1≤1000000)(h4:ce j)(Ci:j'=(j+1))(Fv:f'.length=(f.length+1))(Fw:(f'.map stE).flatten=(((f.map stE).flatten)++[(aD (wrM 2 (Bq,Bn)))])):aA Tp 0 aCl (fV k R i o Ab j f.length ((f.map stE).flatten)) .normal (fV k R i o Ab j' f'.length ((f'.map stE).flatten)):=by
 subst Ci;have k1:=fk 2 (bDs Bq Bn) rfl;rw [Fv,Fw];exact aA.fi (gI al [0,11]) [bT,.x (aB 3),.x (.agg [(aB Bq),(aD Bn)]),k1.o] (gc h4 (gc h3 (gc k1 (gc (bE (E:=cE) (i:=j) (k:=2) (fun _=>rfl) h2 rfl) (gc (bZ (E:=cE) (i:=j) (k:=2) (fun _=>rfl) h2) (gc (bD (E:=cE) (k:=2) (i:=(j:Int)) (fun _=>rfl) (by decide) (Bl _) h2) (gt (0≤(3:Int)∧(3:Int)<4) (by first | decide | simp) (gc (atm aB h1) (gc (ixn aB h1) (g0 h0))))))))))
end
theorem aVf{R:List (List Cel)}{o:List UInt8}{Ab:List Cel}{f:List (List UInt8)}(h0:((aJ k).length:Int)≤(j:Int)):aA Tp 0 aCl (fV k R i o Ab j f.length ((f.map stE).flatten)) (.exit 2) (fV k R i o Ab j f.length ((f.map stE).flatten)):=aA.fi (gI al [0,1]) [bF] (gc (aO h0) gn)
end
end KV
end Go.Proofs
section
namespace Go.Proofs
open Go.RowKit
namespace KV
open Tryz
def aU(s sep:List UInt8):List (List UInt8):=Lib.splitK sep 0 (Lib.countB ⟨s.toArray⟩ ⟨sep.toArray⟩) s
theorem bZi(s sep:List UInt8):(Lib.splitB ⟨sep.toArray⟩ 0 (Lib.countB ⟨s.toArray⟩ ⟨sep.toArray⟩) ⟨s.toArray⟩).map (·.data.toList)=aU s sep:=by
 rw [Lib.splitB_data];rfl
theorem bDh(w:World)(arr:Array Value)(ty:TypeId)(i:Nat):(w.alloc (.cells arr ty)).cell? ⟨w.heap.size,i,none⟩=arr[i]? := by
 unfold World.cell?;simp [World.alloc,-World.alloc_eq]
theorem aIu{w:World}{o:Obj}:Below w.heap.size w (w.alloc o):=⟨rfl,rfl,rfl,by simp [World.alloc,-World.alloc_eq],fun b hb=>by simp [World.alloc,-World.alloc_eq,Array.getElem?_push];omega⟩
theorem eP(s sep:List UInt8)(h:s.length<4294967281)(h1:1≤sep.length){base:Nat}:FV Tp 29 [.p (aD s),.p (aD sep)] base (.p (.sl (aU s sep).length (((aU s sep).map stE).flatten))) []:=FV.ofc rfl fun C w us hus hM=>by
 obtain rfl:=Gp rfl rfl hus;obtain ⟨m,hm⟩:=(aDh hM.lib).1;refine (Tryz.strings_Split ⟨s.toArray⟩ ⟨sep.toArray⟩ m w (by rw [Lib.size_eq];exact h) hm (by rw [Lib.size_eq];exact h1)).mono ?_
 rintro e w' ⟨rfl,rfl⟩;have hl:=Lib.splitB_all ⟨sep.toArray⟩ (by rw [Lib.size_eq];exact h1) 0 _ ⟨s.toArray⟩ rfl
 have hs:=bZi s sep;have hc:Lib.countB ⟨s.toArray⟩ ⟨sep.toArray⟩≤s.length:=by
  have:=Lib.countB_le ⟨sep.toArray⟩ (by rw [Lib.size_eq];exact h1) _ ⟨s.toArray⟩ (Bj _)
  rw [Lib.size_eq] at this;exact this
 generalize Lib.splitB ⟨sep.toArray⟩ 0 (Lib.countB ⟨s.toArray⟩ ⟨sep.toArray⟩) ⟨s.toArray⟩=L at hl hs ⊢
 rw [← hs,oC,hl,jB];generalize Lib.countB ⟨s.toArray⟩ ⟨sep.toArray⟩=n at hl hc
 refine ⟨_,rfl,aIu,.p _ _ (.sl _ _ _ _ (fun i=>((L.map Value.string).toArray)[i]?.getD undef) (Bj _) ?_ (fun i hi => ?_) (fun i hi => ?_) (fun i hi => ?_))⟩
 ·simp only [maxLen];omega
 ·refine ⟨_,_,rfl,.inr ⟨Bj _,by simp [World.alloc,-World.alloc_eq],by simp⟩,?_⟩
  rw [bDh];have:i<((L.map Value.string).toArray).size:=by simpa using hi
  simp [iO,qG this]
 ·have Dm:i<L.length:=by simpa using hi
  rw [iA,iA];simp only [List.getElem?_toArray,tA,Ca Dm,Option.map_some,Option.getD_some];exact .v _
 ·have Dm:i<L.length:=by simpa using hi
  simp only [List.getElem?_toArray,tA,Ca Dm,Option.map_some,Option.getD_some];rfl
end KV
end Go.Proofs
end
section
namespace Go.Proofs
open Go.RowKit
namespace KV
open Tryz
attribute [local go_sem] Oper.semAt_some
def oY:Nat→List UInt8→List (List UInt8 × Bool)
 | 0,_=>[]
 | k+1,s=>if s=[] then [] else ((Lib.cut s [10]).1,(Lib.cut s [10]).2.2)::oY k (Lib.cut s [10]).2.1
def cM(s:List UInt8):List (List UInt8 × Bool):=oY s.length s
theorem zK{s x:List UInt8}(h:s≠[])(hx:x≠[]):(Lib.cut s x).2.1.length<s.length:=by
 have h1:=List.length_pos_iff.2 h;have h2:=List.length_pos_iff.2 hx;unfold Lib.cut
 split
 ·rw [uK];omega
 ·exact h1
theorem qR:∀ (k j:Nat) (s:List UInt8),s.length≤k→s.length≤j→oY k s=oY j s
 | 0,j,s,h,_=>by
  have:s=[]:=sY (by omega)
  subst this;cases j <;> simp [oY]
 | k+1,0,s,_,h=>by
  have:s=[]:=sY (by omega)
  subst this;simp [oY]
 | k+1,j+1,s,h,h2=>by
  unfold oY
  by_cases hs:s=[]
  ·rw [if_pos hs,if_pos hs]
  ·rw [if_neg hs,if_neg hs]
   have:=zK (s:=s) (x:=[10]) hs (by simp)
   rw [qR k j _ (by omega) (by omega)]
theorem nP:cM []=[]:=rfl
theorem jH{s:List UInt8}(h:s≠[]):cM s=((Lib.cut s [10]).1,(Lib.cut s [10]).2.2)::cM (Lib.cut s [10]).2.1:=by
 have h1:=List.length_pos_iff.2 h;have h2:=zK (s:=s) (x:=[10]) h (by simp)
 unfold cM;obtain ⟨k,hk⟩:∃ k,s.length=k+1:=⟨s.length-1,by omega⟩
 rw [hk,oY,if_neg h];rw [qR k (Lib.cut s [10]).2.1.length _ (by omega) (Bj _)]
theorem rV:∀ (k:Nat) (s:List UInt8),s.length≤k→(cM s).length≤s.length
 | 0,s,h=>by
  have:s=[]:=sY (by omega)
  subst this;exact Bj _
 | k+1,s,h=>by
  by_cases hs:s=[]
  ·subst hs;exact Bj _
  ·have:=zK (s:=s) (x:=[10]) hs (by simp)
   have:=rV k (Lib.cut s [10]).2.1 (by omega)
   rw [jH hs,gO];omega
end KV
end Go.Proofs
end
section
namespace Go.Proofs
open Go.RowKit Go.Lib Go.Shelf
namespace KV
open Tryz
attribute [local go_sem] Oper.semAt_some
def aIs(W:World)(b:Nat):Nat:=match W.cell? ⟨b,0,none⟩ with
 | some (.string s)=>s.size
 | _=>0
theorem bRg{A B:World}(h:Below A.heap.size A B):A.grownBy B none:=⟨h.os,h.tape,h.output,h.size,fun b hb _=>h.block b hb⟩
set_option maxRecDepth 1000000 in
set_option maxHeartbeats 2000000 in
theorem aIt(s:List UInt8)(hs:s.length<100000)(m:Int)(F0:Nat→Prop)(n l b:Nat)(hn:1≤n)(J Jx:List (List UInt8 × Bool)→World→Prop)
  (hY:∀ pre (x:List UInt8 × Bool) W,J pre W→pre++[x] <+: cM s→YieldAt Fence.wide (n-1) Tp l #[.string ⟨x.1.toArray⟩,.bool x.2] W fun e W' =>
   (e = .returned (.bool true)∧J (pre++[x]) W'∧KpG F0 W W')∨(e = .returned (.bool false)∧Jx (pre++[x]) W'))
  (W:World) (hJ:AbidesFrom W.heap.size J) (Ji:F0 0) (hFb:F0 b) (Gb:b≠0)
  (hJb:∀ pre A v,J pre A→J pre (A.setCell ⟨b,0,none⟩ v))
  (hm:W.cell? ⟨0,0,none⟩=some (.int .i64 m)) (hbox:Boxed W b 9 (.string ⟨s.toArray⟩)) (h0:J [] W) :
  CallsIn Fence.wide n Tp 175 #[.func (.yield l) #[] #[],.pointer (some ⟨b,0,none⟩)] W fun e W'=>(∃ v,e = .returned v) ∧
   ((∃ ys,ys=cM s∧J ys W')∨(∃ pre,pre <+: cM s∧Jx pre W')):=by
 have HJ:=hid hJ;have HY:=hid hY;have HJB:=hid hJb;have HB0:=hid hbox;have HJ0:=hid h0;have HM0:=hid hm;clear hJ hY hJb hbox h0 hm;refine callsIn_of_wp func175 rfl trivial ?_ rfl;simp only [Tryz.ntmps175,List.size_toArray,gO,List.length_nil,Nat.reduceAdd,Nat.reduceSub,Array.replicate_succ,Array.replicate_zero,List.push_toArray,List.append_toArray,List.nil_append,List.cons_append]
 gi_wp2
 gi_loopw [3] (fun _ wr=>∃ (pre:List (List UInt8 × Bool)) (t:List UInt8),J pre wr∧pre++cM t=cM s∧t.length≤s.length∧wr.cell? ⟨0,0,none⟩=some (.int .i64 m)∧Boxed wr b 9 (.string ⟨t.toArray⟩))
  (fun _ wr=>aIs wr b)
 case atStart=>exact ⟨[],s,HJ0.out,rfl,Bj _,HM0.out,HB0.out⟩
 case round =>
  obtain ⟨pre,t,hJp,hpre,htl,hm,hB⟩:=hrel;have hc:=hB.cell;have HJP:=hid hJp;have HPRE:=hid hpre;have HM:=hid hm;have HB:=hid hB;clear hJp hpre hm hB
  by_cases ht:t=[]
  ·subst ht
   have HE:=hid (show pre=cM s by rw [← HPRE.out,nP,List.append_nil])
   gi_wp2
   go_end0
   exact ⟨⟨_,rfl⟩,.inl ⟨pre,HE.out,HJP.out⟩⟩
  ·have hne:t.isEmpty=false:=by
    cases t with
    | nil=>exact absurd rfl ht
    | cons a r=>rfl
   have HC:=hid (jH ht);have HLT:=hid (zK (s:=t) (x:=[10]) ht (by simp))
   have HL:pre++[((Lib.cut t [10]).1,(Lib.cut t [10]).2.2)] <+: cM s:=by
    rw [← HPRE.out,HC.out];exact ⟨cM (cut t [10]).2.1,by rw [List.append_assoc];rfl⟩
   have HL:=hid HL;have HCUT:=hid (Tryz.strings_Cut ⟨t.toArray⟩ ⟨#[10]⟩ m wr (by rw [Lib.size_eq];show t.length<_;omega) HM.out)
   have HWR:=hid (fun w1 (Db:Below wr.heap.size wr w1)=>HJ.out _ wr w1 none HJP.out (bRg Db) (fun r e=>by cases e))
   gi_wp2_with (first
    | (refine ⟨trivial,?_⟩;gi_at_call 130;refine (callsIn_wide.2 HCUT.out).mono ?_;clear HCUT;rintro e w1 ⟨rfl,k,rfl⟩;obtain ⟨fn,tmps,assign,body,hy,hR⟩:=HY.out _ ((Lib.cut t [10]).1,(Lib.cut t [10]).2.2) (wr.drewN k) (HWR.out _ vC) HL.out)
    | (refine hR.mono ?_;clear hR;rintro e w3 Pn;(rcases Pn with ⟨rfl,N8,J3⟩ | ⟨rfl,hx⟩) <;> first | (have K5:Boxed w3 b 9 (.string ⟨t.toArray⟩):=(J3.same b hFb).trans HB.out;have Nx:=K5.frozen;have hc3:=K5.cell;have HJ3:=hid N8;have HK3:=hid J3;have HB3:=hid K5;clear N8 J3 K5) | skip))
   ·have Ks:=(HB3.out).set (.string ⟨(cut t [10]).2.1.toArray⟩)
    refine ⟨⟨pre++[((cut t [10]).1,(cut t [10]).2.2)],(cut t [10]).2.1,HJB.out _ _ _ HJ3.out,?_,?_,?_,Ks⟩,?_⟩
    ·rw [← HPRE.out,HC.out,List.append_assoc];rfl
    ·have:=HLT.out;omega
    ·rw [gK (Below.heap_setCell _ _ _ 0 (fun e=>Gb e.symm)) 0,gK (HK3.out.same 0 Ji) 0]
     exact HM.out
    ·have e1:aIs (w3.setCell ⟨b,0,none⟩ (.string ⟨(cut t [10]).2.1.toArray⟩)) b=(cut t [10]).2.1.length:=by
      unfold aIs;rw [Ks.cell];exact Lib.size_eq _
     have e2:aIs wr b=t.length:=by
      unfold aIs;rw [HB.out.cell];exact Lib.size_eq _
     rw [e1,e2];exact HLT.out
   ·refine bodyPost_ret (results_none rfl _ _ _) rfl ?_
    refine ⟨⟨_,rfl⟩,.inr ⟨pre++[((cut t [10]).1,(cut t [10]).2.2)],?_,hx⟩⟩;rw [← HPRE.out,HC.out];exact ⟨cM (cut t [10]).2.1,by rw [List.append_assoc];rfl⟩
end KV
end Go.Proofs
end
section
namespace Go.Proofs
open Go.RowKit
namespace KV
open Tryz
variable {P:Program} {n:Nat}
def aCr{α:Type}(F:Fence)(n:Nat)(P:Program)(g:Nat)(lb:Array Value)(encs:α→Array Value)(b:Nat)(Kp:World→World→Prop)(S Sp:List α→Prop)(N:List α→α→Prop)(w:World):Prop :=
 ∀ (l:Nat) (J Jx:List α→World→Prop) (W:World),Below w.heap.size w W→AbidesFrom W.heap.size J→AbidesFrom W.heap.size Jx→(∀ pre A v,J pre A→J pre (A.setCell ⟨b,0,none⟩ v)) →
  (∀ pre x W0,J pre W0→N pre x→YieldAt F (n-1) P l (encs x) W0 fun e W' =>
   (e = .returned (.bool true)∧J (pre++[x]) W'∧Kp W0 W')∨(e = .returned (.bool false)∧Jx (pre++[x]) W')) →
  J [] W →
  CallsIn F n P g (#[.func (.yield l) #[] #[]]++lb) W fun e W'=>(∃ v,e = .returned v)∧((∃ xs,S xs∧J xs W')∨(∃ pre,Sp pre∧Jx pre W'))

def bDx{α:Type}(B:Nat)(Kp:World→World→Prop)(I:List α→World→Prop)(Ix:Code→List α→World→Prop)(xs:List α)(V W:World):Exit→Act→World→Prop
 | .normal,_,W'=>KeepsFrom B W W'∧Kp V W'∧I xs W'
 | .ret,_,W'=>KeepsFrom B W W'∧Ix .ret xs W'
 | .exit id,_,W'=>KeepsFrom B W W'∧Ix (.exit id) xs W'
 | .goto t,_,W'=>KeepsFrom B W W'∧Ix (.goto t) xs W'
 | .panic _,_,_=>False
 | .outgrown,_,_=>False

theorem rW{α:Type}{F:Fence}{g:Operand}{ps:Array Tmp}{assign body:Code}{Q:Exit→Act→World→Prop}{a:Act}{w:World}
  (hro:F.round=none) (h1:1≤n) {gf:Nat} {lb:Array Value} (hg:a.eval g = .func (.func gf) #[] lb) (hFg:F.fn gf) (eg:∀ args w,(callFunc gf args).run P w = .ok (.enter gf args) w)
  {encs:α→Array Value} {b:Nat} {Kp:World→World→Prop} {S Sp:List α→Prop} {N:List α→α→Prop} {w0:World} (hseq:aCr F (n-1) P gf lb encs b Kp S Sp N w0)
  (hKt:∀ {A B C:World},Kp A B→Kp B C→Kp A C) (hKb:∀ (W:World) (l:Nat) (o o':Obj),w.heap.size≤l→W.heap[l]? = some o→o.isCells=false→o.isWalk=false→Kp W (W.putObj l o')) (Gb:Below w0.heap.size w0 w) (hps:∀ x,(encs x).size=ps.size)
  (I:List α→World→Prop) (Ix:Code→List α→World→Prop) (hI:OwnFrom w.heap.size I) (hbl:b<w.heap.size) (hIb:∀ pre A v,I pre A→I pre (A.setCell ⟨b,0,none⟩ v)) (hIx:∀ c,OwnFrom w.heap.size (Ix c)) (h0:I [] w) (Ax:List α→α→World→Act→World→Prop) (hAx:∀ pre x V a',OwnFrom w.heap.size (fun (_:Unit) W=>Ax pre x V a' W))
  (hassign:∀ (l:Nat) (pre:List α) (x:α) (V W:World) (K:Act→World→Prop),V=W→I pre V→(∀ a' W',KeepsFrom w.heap.size W W'→Ax pre x V a' W'→K a' W') →
   assign.wpIn (F.inRound l) (n-1-1) P (Exit.then K (fun _ _ _=>False)) { tmps:=(ps.zip (encs x)).foldl (fun t (p,v)=>t.setIfInBounds p v) a.tmps,defers:=[] } W)
  (hbody:∀ (l:Nat) (pre:List α) (x:α) (a':Act) (V W:World),w.heap.size≤l→(∃ r,W.heap[l]? = some (.loop r))→Ax pre x V a' W→N pre x→body.wpIn (F.inRound l) (n-1-1) P (bDx w.heap.size Kp I Ix (pre++[x]) V W) a' W)
  (hdone:∀ (D:Nat) (xs:List α) (W:World),w.heap.size≤D→S xs→I xs W→W.heap[D]? = some (.deferred (some []))→Q .normal { a with defers:={ target := .collected D,args := #[] }::a.defers } W)
  (hstop:∀ (D:Nat) (c:Code) (pre:List α) (W:World),w.heap.size≤D→Sp pre→Ix c pre W→W.heap[D]? = some (.deferred (some []))→c.wpIn F n P Q { a with defers:={ target := .collected D,args := #[] }::a.defers } W) :
  (Code.rangeFunc g ps assign body).wpIn F n P Q a w:=by
 refine wpIn_rangeFunc fun fn hfn => ?_
 rw [hro];obtain ⟨rc,hrc⟩:∃ rc:LoopState→Option Code→Loop,rc=fun st pe=>{ state:=st,pending:=pe,fn,tmps:=a.tmps,params:=ps,assign,body,defers:=w.heap.size }:=⟨_,rfl⟩
 obtain ⟨W1,Jj⟩:∃ W1,(w.alloc (.deferred (some []))).alloc (.loop (rc .ready none))=W1:=⟨_,rfl⟩;have hsz:W1.heap.size=w.heap.size+2:=by rw [← Jj];simp
 have Pp:W1.heap[w.heap.size+1]? = some (.loop (rc .ready none)):=by
  have:=World.alloc_heap_new (w.alloc (.deferred (some []))) (.loop (rc .ready none));rw [World.size_alloc] at this
  rw [← Jj];exact this
 have Pq:W1.heap[w.heap.size]? = some (.deferred (some [])):=by
  rw [← Jj];exact (Below.heap_alloc _ _ _ (by simp)).trans (World.alloc_heap_new w _)
 have Pr:I [] W1:=by rw [← Jj];exact hI.alloc _ (hI.alloc _ h0)
 have Db:Below w0.heap.size w0 W1:=by
  rw [← Jj];exact Gb.trans ((((Below.refl _ w).alloc (Bj _) _).alloc (by simp) _).mono Gb.size)
 let Bk (st:LoopState) (pe:Option Code) (W:World):Prop:=W.heap[w.heap.size+1]? = some (.loop (rc st pe))∧W.heap[w.heap.size]? = some (.deferred (some []))
 have bkKeep:∀ {st:LoopState} {pe:Option Code} {A B:World} {row:Option Nat},Bk st pe A→A.grownBy B row→(∀ r,row=some r→∃ o:Obj,A.heap[r]? = some o∧o.isWalk=true)→Bk st pe B:=fun hs H7 hr =>
  ⟨(grownBy_keeps H7 hr hs.1 rfl).trans hs.1,(grownBy_keeps H7 hr hs.2 rfl).trans hs.2⟩
 have walkOwn:∀ {A:World} {row:Option Nat},(∀ r,row=some r→W1.heap.size≤r∧∃ o:Obj,A.heap[r]? = some o∧o.isWalk=true)→∀ r,row=some r→w.heap.size≤r∧∃ o:Obj,A.heap[r]? = some o∧o.isCells=false:=fun hr r e=>by
  obtain ⟨hB,o,ho,hw⟩:=hr r e;exact ⟨by omega,o,ho,Obj.not_cells_of_walk hw⟩
 refine ⟨w.heap.size+1,[{ target := .collected w.heap.size,args := #[] }],W1,{ target := .fn (.func gf) lb,args := #[.func (.yield (w.heap.size+1)) #[] #[]] },W1,gf,
  #[.func (.yield (w.heap.size+1)) #[] #[]]++lb,W1,?_,?_,?_,?_,fun _=>h1,?_⟩
 ·rw [← Jj,hrc];exact run_enterLoop_outer _ _ _ _ _
 ·simp only [resolve,hg]
  simp [go_sem]
 ·intro f' N9;simp [Target.leads] at N9;subst N9;exact hFg
 ·simp [invoke,go_sem,eg]
 ·refine (hseq (w.heap.size+1) (fun pre W=>I pre W∧Bk .ready none W) (fun pre W=>∃ c,Ix c pre W∧Bk .done (some c) W) W1 Db
   (fun s A B row hs H7 hr=>⟨hI s A B row hs.1 H7 (walkOwn hr),bkKeep hs.2 H7 fun r e=>(hr r e).2⟩)
   (fun s A B row hs H7 hr=>by
    obtain ⟨c,hc,hb⟩:=hs;exact ⟨c,hIx c s A B row hc H7 (walkOwn hr),bkKeep hb H7 fun r e=>(hr r e).2⟩)
   (fun s A v hs=>⟨hIb s A v hs.1,(Below.heap_setCell _ _ _ _ (fun e=>by have:w.heap.size+1=b:=e;omega)).trans hs.2.1,(Below.heap_setCell _ _ _ _ (fun e=>by have:w.heap.size=b:=e;omega)).trans hs.2.2⟩)
   ?_ ⟨Pr,Pp,Pq⟩).mono ?_
  ·-- a round
   rintro pre x W ⟨hi,hbk⟩ hlen;have hbW:=hbk;have hlt:w.heap.size+1<W.heap.size:=(Eb.1 hbW.1).1;have hy:=run_yield (P:=P) (args:=encs x) hbW.1 (by rw [hrc];exact hps x)
   rw [hrc] at hy
   refine ⟨fn,_,assign,body,hy,roundIn_of_wpIn hfn (hassign _ pre x W W _ rfl hi ?_)⟩;clear hy;intro a' Wa hkf hax;have hl:=hkf.same _ _ (by omega) hbW.1 rfl
   have hk:=hkf.same _ _ (Bj _) hbW.2 rfl;have hlta:w.heap.size+1<Wa.heap.size:=(Eb.1 hl).1;refine ⟨_,run_beginRound hl (by rw [hrc]),?_⟩
   have Bh:(Wa.putObj (w.heap.size+1) (.loop { rc .ready none with state := .busy })).heap[w.heap.size+1]? = some (.loop { rc .ready none with state := .busy }):=World.putObj_heap_same hlta
   have Cw:(Wa.putObj (w.heap.size+1) (.loop { rc .ready none with state := .busy })).heap[w.heap.size]? = some (.deferred (some [])):=(World.putObj_heap_other (by omega)).trans hk
   refine wpIn_mono (hbody _ pre x a' W _ (by omega) ⟨_,Bh⟩ ((hAx pre x W a').putObj (s:=()) _ hax (by omega) hl rfl) hlen) ?_
   have fin:∀ (jump:Option Code) (W3:World),KeepsFrom w.heap.size (Wa.putObj (w.heap.size+1) (.loop { rc .ready none with state := .busy })) W3 →
     (Instr.endRound (w.heap.size+1) jump).run P W3 = .ok (.bool jump.isNone) (W3.putObj (w.heap.size+1) (.loop (rc (if jump.isNone then .ready else .done) jump))) ∧
     W3.heap[w.heap.size+1]? = some (.loop { rc .ready none with state := .busy })∧Bk (if jump.isNone then .ready else .done) jump (W3.putObj (w.heap.size+1) (.loop (rc (if jump.isNone then .ready else .done) jump))):=fun jump W3 He=>by
    have Eg:=He.same _ _ (by omega) Bh rfl
    have hrun:=run_endRound (P:=P) jump Eg;rw [hrc] at hrun
    refine ⟨by rw [hrc];exact hrun,Eg,?_⟩
    exact ⟨World.putObj_heap_same (Eb.1 Eg).1,(World.putObj_heap_other (by omega)).trans (He.same _ _ (Bj _) Cw rfl)⟩
   rintro e a3 W3 hp;cases e with
   | normal =>
    obtain ⟨He,M3,Iy⟩:=hp;obtain ⟨hr,Eg,Iz⟩:=fin none W3 He;exact ⟨_,_,hr,.inl ⟨rfl,⟨hI.putObj _ Iy (by omega) Eg rfl,Iz⟩,hKt M3 (hKb _ _ _ _ (by omega) Eg rfl rfl)⟩⟩
   | ret =>
    obtain ⟨He,Iy⟩:=hp;obtain ⟨hr,Eg,Iz⟩:=fin (some .ret) W3 He;exact ⟨_,_,hr,.inr ⟨rfl,.ret,(hIx _).putObj _ Iy (by omega) Eg rfl,Iz⟩⟩
   | exit id =>
    obtain ⟨He,Iy⟩:=hp;obtain ⟨hr,Eg,Iz⟩:=fin (some (.exit id)) W3 He;exact ⟨_,_,hr,.inr ⟨rfl,.exit id,(hIx _).putObj _ Iy (by omega) Eg rfl,Iz⟩⟩
   | goto t =>
    obtain ⟨He,Iy⟩:=hp;obtain ⟨hr,Eg,Iz⟩:=fin (some (.goto t)) W3 He;exact ⟨_,_,hr,.inr ⟨rfl,.goto t,(hIx _).putObj _ Iy (by omega) Eg rfl,Iz⟩⟩
   | panic ch=>exact hp.elim
   | outgrown=>exact hp.elim
  ·-- behind the iterator
   rintro e W2 ⟨⟨v,rfl⟩,(⟨xs,hS,hi,hb⟩ | ⟨pre,hSp,c,hi,hb⟩)⟩
   ·have:=run_endLoop (P:=P) hb.1 (by rw [hrc];simp)
    rw [hrc] at this
    exact ⟨none,_,this,hdone _ xs _ (Bj _) hS (hI.putObj _ hi (by omega) hb.1 rfl) ((World.putObj_heap_other (by omega)).trans hb.2)⟩
   ·have:=run_endLoop (P:=P) hb.1 (by rw [hrc];simp)
    rw [hrc] at this
    exact ⟨some c,_,this,hstop _ c pre _ (Bj _) hSp ((hIx c).putObj _ hi (by omega) hb.1 rfl) ((World.putObj_heap_other (by omega)).trans hb.2)⟩
end KV
end Go.Proofs
end
section
namespace Go.Proofs
open Go.RowKit
namespace KV
open Tryz
def aCk(x:List UInt8 × Bool):Array Value := #[.string ⟨x.1.toArray⟩,.bool x.2]
theorem aUy(s:List UInt8)(hs:s.length<100000)(m:Int)(F0:Nat→Prop)(n b:Nat)(hn:1≤n)(w:World)(Ji:F0 0)(hFb:F0 b)(Gb:b≠0)
  (hm:w.cell? ⟨0,0,none⟩=some (.int .i64 m)) (hbox:Boxed w b 9 (.string ⟨s.toArray⟩)) :
  aCr Fence.wide n Tp 175 #[.pointer (some ⟨b,0,none⟩)] aCk b (KpG F0) (fun ys=>ys=cM s) (fun pre=>pre <+: cM s) (fun pre x=>pre++[x] <+: cM s) w:=by
 intro l J Jx W hb hJ hJx hJb hY h0;have Pm:0<w.heap.size:=aQf hm;exact aIt s hs m F0 n l b hn J Jx (fun pre x W0 hj hlt=>hY pre x W0 hj hlt) W hJ Ji hFb Gb hJb
  (by rw [gK (hb.block 0 Pm) 0];exact hm) ((hb.block b hbox.lt).trans hbox) h0
end KV
end Go.Proofs
end
section
set_option maxRecDepth 1000000
namespace Go.Proofs
open Go.RowKit
namespace KV
open Tryz
theorem bDe{C:Cx}{w:World}(h:nU C w):C.F 0∧∃ m,w.cell? ⟨0,0,none⟩=some (.int .i64 m):=by
 refine ⟨(h (0,fun cs=>∃ m,cs[0]? = some (.int .i64 m)) (by simp [bOh])).1,?_⟩
 exact (aDh h).1
theorem bDf{P:Program}{C:Cx}{M:Mem}{w:World}{bx ty c:Nat}{v:Value}(hM:aX P C M w)(hbx:M[bx]? = some (some (.box ty [.p (.v v)])))(hc:C.ι bx=some c):Boxed w c ty v:=by
 obtain ⟨b,arr,q0,q1,q2,q3,_⟩:=hM.box _ _ _ hbx;rw [hc] at q0;cases q0
 obtain ⟨u,rfl⟩:∃ u,arr = #[u]:=by
  have:arr.size=1:=by simpa using q2
  exact ⟨arr[0],by ext i Gu Dm;(· simpa using this);(· have:i=0:=(by omega);subst this;rfl)⟩
 have h:=q3 0 (by simp)
 simp at h
 cases h with
 | p _ _ h=>cases h;exact q1
def bS(P:Program)(kb kk:Nat)(body:Code)(st:St)(e:Ex)(m:Mem):Prop:=∃ (E:St) (g:Gh),aA P kb body st e E∧xB E.m=true∧∃ t',gh kk g E=some ⟨t',m⟩
theorem bS.cast{P:Program}{kb kk:Nat}{body:Code}{st:St}{e:Ex}{m m':Mem}(h:bS P kb kk body st e m)(he:m=m'):bS P kb kk body st e m':=he ▸ h
theorem zJ{β ε:Type}{k kb kk gi p1 p2 bx:Nat}{asg body cc:Code}{g0:Gh}(s:List UInt8)(hs:s.length<100000)(Fu:St)(S:β→St)(R:ε→St)(T:List AV)(f:β→List UInt8 × Bool→Except ε β)(a0:β)
  (s1:List AV→List UInt8 × Bool→List AV) (actOf:Act→List UInt8 × Bool→Act)
  (hcc:cc = .rangeFunc (.tmp gi) #[p1,p2] asg body) (O9:Fu.t=T) (hg:T[gi]? = some (.fn 175 [] [.ptr bx 0])) (hbx:Fu.m[bx]? = some (some (.box 9 [.p (aD s)])))
  (hkk:Fu.m.length≤kk) (h0:∃ t',gh kk g0 ⟨T,aZ Fu.m bx (some .dead)⟩=some ⟨t',(S a0).m⟩)
  (hST:∀ a,(S a).t=T) (hRT:∀ e,(R e).t=T)
  (hmp:∀ a,nN (aZ Fu.m bx (some .dead)) (S a).m) (hmpR:∀ e,nN (aZ Fu.m bx (some .dead)) (R e).m) (hpk:∀ a,wH (S a).m) (hpkR:∀ e,wH (R e).m) (Mr:wH (aZ Fu.m bx (some .dead))) (hq:∀ a,nmM (S a).m=true) (hqR:∀ e,nmM (R e).m=true) (hlen:∀ a,(S a).m.length≤kb) (hnrf:nrf body=true)
  (Pb:∀ (a:Act) (x:List UInt8 × Bool) (l:Nat) (K:Act→World→Prop) (W:World),K (actOf a x) W→asg.wpIn ((Fen none).inRound l) (3-1-1) Tp (Exit.then K (fun _ _ _=>False)) { tmps:=(#[p1,p2].zip (aCk x)).foldl (fun t (y:Nat × Value)=>t.setIfInBounds y.1 y.2) a.tmps,defers:=[] } W)
  (Pd:∀ (a:Act) (x:List UInt8 × Bool) (C:Cx) (M:Mem) (W:World),cO C M W T a.tmps→cO C M W (s1 T x) (actOf a x).tmps) (Pe:∀ (a:Act) (x:List UInt8 × Bool),(actOf a x).defers=[])
  (hbody:∀ pre x a,pre++[x] <+: cM s→itB f a0 pre = .ok a →
   (∀ a',f a x = .ok a'→bS Tp kb kk body ⟨s1 T x,(S a).m⟩ .normal (S a').m)∧(∀ e,f a x = .error e→bS Tp kb kk body ⟨s1 T x,(S a).m⟩ .ret (R e).m)) :
  (∀ a,itB f a0 (cM s) = .ok a→aA Tp k cc Fu .normal (S a))∧(∀ e,itB f a0 (cM s) = .error e→aA Tp k cc Fu .ret (R e)):=by
 have hlk:(aZ Fu.m bx (some .dead)).length≤kk:=by
  rw [tH (Cj.1 hbx).1];exact hkk
 have main:∀ (Qf:Ex→St→Prop),(∀ a,itB f a0 (cM s) = .ok a→Qf .normal (S a))→(∀ e,itB f a0 (cM s) = .error e→Qf .ret (R e)) →
   ∀ (C0:Cx) (M0:Mem) (w0:World) (a:Act) (w:World),M0.length≤k→Sim Tp C0 M0 w0 Fu a w→∀ (ro:Option Nat),jK ro cc→∀ (n:Nat),cc.wpIn (Fen ro) n Tp (fun e' a' w'=>∃ e Ak,Qf e Ak∧e'=e.toExit∧Sim Tp C0 M0 w0 Ak a' w') a w:=by
  intro Qf Pf Pg C0 M0 w0 a w hk B6 ro hro n;subst hcc;have Ms:ro=none:=hro.resolve_right (by simp [nrf])
  subst Ms;refine aMh (n:=3) ?_;obtain ⟨C,hSl,hM,hF,hD⟩:=B6;rw [O9] at hSl
  obtain ⟨b,hu,hb⟩:=aUw (hSl.at hg) hbx rfl
  have hB:=bDf hM hbx hb;obtain ⟨Ji,m,hm⟩:=bDe hM.lib;have hbF:¬ C.F b:=hM.nF _ _ _ hbx rfl hb;have Gb:b≠0:=fun e=>hbF (e ▸ Ji)
  have hbl:b<w.heap.size:=hM.lt _ _ _ hbx rfl hb;obtain ⟨Cd,hCd⟩:∃ Cd,Cd=C.close bx false:=⟨_,rfl⟩;obtain ⟨Md,hMd⟩:∃ Md,Md=aZ Fu.m bx (some .dead):=⟨_,rfl⟩;have hMM:aX Tp Cd Md w:=by rw [hCd,hMd];exact kN hM false hbx rfl
  have hFd:Fr C Fu.m w Cd Md w:=by rw [hCd,hMd];exact cS false hbx rfl
  have hA:aIq Cd Md w b:=by
   refine ⟨fun h => ?_,fun id o ho hl he => ?_,hbl,hMM.Fs,fun id o c ho hl he=>hMM.lt id o c ho hl he⟩
   ·rw [hCd] at h
    rcases h with h | ⟨h,_⟩
    ·exact hbF h
    ·cases h
   ·rw [hMd] at ho
    rw [hCd] at he
    by_cases e:id=bx
    ·subst e;rw [aY] at ho;cases ho;cases hl
    ·have Ct:=(aP Fu.m bx id _ o (fun e'=>e e'.symm)).1 ho
     exact e (hM.inj _ _ _ _ _ Ct hl hbx rfl he hb)
  have hdk:wH Md:=by rw [hMd];exact Mr
  have back:∀ {M':Mem} {W:World} {C':Cx},Fr Cd Md (fZ w b W) C' M' W→Fr C Fu.m w C' M' W:=fun fr=>by
   rw [hCd,hMd] at fr
   exact oE.back hbx rfl hb hbl fr
  rw [← hMd] at h0 hlk hmp hmpR
  have hbase:fZ w b w=w:=by
   unfold fZ;have e:w.heap.setIfInBounds b (w.heap.getD b (.cells #[] 0 (0,0)))=w.heap:=by
    apply Array.ext_getElem?;intro i
    by_cases e:b=i
    ·subst e
     have:w.heap[b]? = some w.heap[b]:=qG hbl;simp [hbl,Array.getD]
    ·simp [e]
   rw [e]
  have hseq:=aUy s hs m (fun c=>C.F c∨c=b) 2 b (by omega) w (.inl Ji) (.inr rfl) Gb hm hB
  have hFl:∀ c,(C.F c∨c=b)→c<w.heap.size:=fun c hc=>hc.elim (hM.Fs c) (fun e=>e ▸ hbl)
  have fin:∀ (D:Nat) (W:World) (st:St),st.t=T→nN Md st.m→nmM st.m=true→wH st.m→w.heap.size≤D→oE Tp Cd Md w b st.m W→W.heap[D]? = some (.deferred (some []))→Sim Tp C0 M0 w0 st { a with defers:={ target := .collected D,args := #[] }::a.defers } W:=by
   intro D W st hT Mt Ph Mu Hy hI hDm;obtain ⟨C1,h1,h2⟩:=hI;obtain ⟨F',Ee,frd,_,hSo⟩:=bYr Mt Ph (by rw [bY];exact hA.Fs) h1 h2
   have Mv:=back frd;rw [bY] at hSo
   refine ⟨_,by rw [hT];exact hSl.le (hM.le Mv),Ee,hF.trans Mv,?_⟩
   obtain ⟨⟨l,e1,e2,e3⟩,hR⟩:=hD.fr hM (fun i u1 u2 u3 L h=>by have:=Mu _ _ h;cases this) Mv
   obtain ⟨⟨l',B7,_,Pi⟩,_⟩:=hD;have hll:l=l':=by
    have:=e1.symm.trans B7;exact (List.map_inj_right (fun x y h=>by simpa [mark] using h)).1 this
   refine ⟨⟨D::l,by rw [e1];rfl,List.nodup_cons.2 ⟨fun hin => ?_,e2⟩,fun D' Pj => ?_⟩,hR⟩
   ·rw [hll] at hin
    have:=(Eb.1 (Pi D hin).1).1;omega
   ·rcases oS.1 Pj with rfl | hin
    ·refine ⟨hDm,iB hF.size Hy,fun hf => ?_⟩
     rcases hSo _ hf with h | h
     ·omega
     ·exact pY hDm rfl h
    ·exact e3 D' hin
  refine rW (F:=Fen none) (n:=3) rfl (by omega) (gf:=175) hu trivial (fun _ _=>rfl) hseq (fun h k=>h.trans k)
   (fun W l o o' hl h1 h2 h3=>⟨by simp,fun c hc=>(grownBy_putObj' W l o').block c (sZ (hFl c hc) (iB hl (Nat.le_of_lt (Eb.1 h1).1))) (fun e=>by cases e;have:=hFl _ hc;omega)⟩)
   (Below.refl _ _) (fun _=>rfl)
   (fun pre W=>∃ acc,itB f a0 pre = .ok acc∧oE Tp Cd Md w b (S acc).m W)
   (fun c pre W=>c = .ret∧∃ e,itB f a0 pre = .error e∧oE Tp Cd Md w b (R e).m W)
   (fun pre X Y row hs hg hr=>by
    obtain ⟨acc,h1,h2⟩:=hs;exact ⟨acc,h1,h2.own (hmp _) (hq _) hA hg hr⟩) hbl
   (fun pre A v hs=>by
    obtain ⟨acc,h1,h2⟩:=hs;exact ⟨acc,h1,h2.set hA v⟩)
   (fun c pre X Y row hs hg hr=>by
    obtain ⟨h0,e,h1,h2⟩:=hs;exact ⟨h0,e,h1,h2.own (hmpR _) (hqR _) hA hg hr⟩)
   ⟨a0,rfl,?start⟩
   (fun pre x V a' W=>a'=actOf a x∧(∃ acc,itB f a0 pre = .ok acc∧oE Tp Cd Md w b (S acc).m W)∧KpG (fun c=>C.F c∨c=b) V W∧w.heap.size≤W.heap.size)
   (fun pre x V a' s X Y row hs hg hr=>by
    obtain ⟨e1,⟨acc,h1,h2⟩,e3,e4⟩:=hs;refine ⟨e1,⟨acc,h1,h2.own (hmp _) (hq _) hA hg hr⟩,⟨iB e3.size hg.size,fun c hc => ?_⟩,iB e4 hg.size⟩
    refine (hg.block c (sZ (hFl c hc) e4) (fun e => ?_)).trans (e3.same c hc)
    have:=(hr c e.symm).1;have:=hFl c hc;omega)
   ?assign ?body ?done ?stop
  case start =>
   obtain ⟨t',h0⟩:=h0;obtain ⟨C1,_,h1,h2,_⟩:=lZ (C0:=Cd.with []) (M0:=Md) (w0:=fZ w b w) hlk h0 (show Sim Tp (Cd.with []) Md (fZ w b w) ⟨T,Md⟩ { a with defers:=[] } w from
    ⟨Cd,hSl.le (hM.le hFd),hMM,by rw [hbase];exact (Fr.refl _ _ _).based [],.nil rfl hdk⟩)
   exact ⟨C1,h1,h2.unbased⟩
  case assign =>
   intro l pre x V W K hV hI hK;subst hV;obtain ⟨acc,h1,h2⟩:=hI;have hsz:w.heap.size≤V.heap.size:=by
    obtain ⟨_,_,f2⟩:=h2;have:=f2.size;rw [bY] at this;exact this
   exact Pb a x l K _ (hK _ _ (KeepsFrom.refl _ _) ⟨rfl,⟨acc,h1,h2⟩,KpG.refl _ _,hsz⟩)
  case body =>
   rintro l pre x a' V W hl _ ⟨rfl,⟨acc,hacc,C',Ee,H0⟩,hKV,hsz⟩ hN;have Pk:=oE.nF hA H0;have J5:=oE.nL hA H0;have hSW:cO C' (S acc).m W T a.tmps:=hSl.le (hM.le (back H0));have Pl:=Pd a x _ _ _ hSW;have bd:=hbody pre x acc hN hacc;have hsim:Sim Tp (C'.with []) (S acc).m W ⟨s1 T x,(S acc).m⟩ (actOf a x) W:=⟨C',Pl,Ee,(Fr.refl _ _ _).based [],by rw [Pe];exact .nil rfl (hpk acc)⟩
   have keepO:∀ {M2:Mem} {W2:World} {C2:Cx},Fr C' (S acc).m W C2 M2 W2→KeepsFrom w.heap.size W W2∧KpG (fun c=>C.F c∨c=b) V W2:=fun f3=>by
    refine ⟨⟨f3.size,fun c o hc hb ho=>(f3.keep c (Eb.1 hb).1 (fun id x hx hlv he => ?_)).trans hb⟩,
     hKV.trans ⟨f3.size,fun c hc=>f3.keep c (sZ (hFl c hc) hsz) (fun id o ho hlv he => ?_)⟩⟩
    ·cases x with
     | row ty n cs =>
      rcases Ee.row _ _ _ _ hx with ⟨h1,_⟩ | ⟨b',arr,i,h1,h2,_⟩
      ·rw [he] at h1;cases h1
      ·rw [he] at h1;cases h1;exact pY hb ho (mL h2)
     | box ty cs =>
      obtain ⟨b',arr,h1,h2,_⟩:=Ee.box _ _ _ hx;rw [he] at h1;cases h1;exact pY hb ho (mL h2)
     | mp es cl =>
      have:=aPx (hmp acc) hA.ls H0 hx he;omega
     | pk u1 u2 u3 L=>exact absurd (hpk acc _ _ hx) (by simp [AO.isPk])
     | dead=>cases hlv
    ·rcases hc with hc | rfl
     ·exact Ee.nF _ _ _ ho hlv he ((back H0).F1 _ hc)
     ·exact J5 _ _ ho hlv he
   have baseO:∀ {M2:Mem} {W2:World} {C2:Cx},Fr C' (S acc).m W C2 M2 W2→Fr Cd Md (fZ w b W2) C2 M2 W2:=fun {M2 W2 C2} f3=>by
    have eb:(fZ w b W)=(fZ w b W2):=by
     have e:W2.heap[b]? = W.heap[b]? := f3.keep b (sZ hbl hsz) (fun id o ho hlv he=>J5 _ _ ho hlv he)
     unfold fZ;rw [Bz,Bz,e]
    rw [← eb];exact H0.trans f3
   have hit:=aIr f pre a0 x;rw [hacc] at hit
   cases hfx:f acc x with
   | ok a2 =>
    have Iw:itB f a0 (pre++[x]) = .ok a2:=by rw [hit];exact hfx
    obtain ⟨E,g1,hc,hpE,t',Mw⟩:=bd.1 a2 hfx;refine wpIn_mono (hc (C'.with []) (S acc).m W _ W (hlen _) hsim (some l) (.inr hnrf) 1) ?_
    rintro e a3 W2 ⟨rfl,C2,Iu,F7,El,_⟩;obtain ⟨k1,k2⟩:=keepO El.unbased;obtain ⟨C4,_,Mx,My,_⟩:=lZ hlk Mw (show Sim Tp (Cd.with []) Md (fZ w b W2) E { a3 with defers:=[] } W2 from ⟨C2,Iu,F7,(baseO El.unbased).based [],.nil rfl (gD hpE)⟩)
    exact ⟨k1,k2,a2,Iw,C4,Mx,My.unbased⟩
   | error e2 =>
    have Iw:itB f a0 (pre++[x]) = .error e2:=by rw [hit];exact hfx
    obtain ⟨E,g1,hc,hpE,t',Mw⟩:=bd.2 e2 hfx;refine wpIn_mono (hc (C'.with []) (S acc).m W _ W (hlen _) hsim (some l) (.inr hnrf) 1) ?_
    rintro e a3 W2 ⟨rfl,C2,Iu,F7,El,_⟩;obtain ⟨k1,k2⟩:=keepO El.unbased;obtain ⟨C4,_,Mx,My,_⟩:=lZ hlk Mw (show Sim Tp (Cd.with []) Md (fZ w b W2) E { a3 with defers:=[] } W2 from ⟨C2,Iu,F7,(baseO El.unbased).based [],.nil rfl (gD hpE)⟩)
    exact ⟨k1,rfl,e2,Iw,C4,Mx,My.unbased⟩
  case done =>
   intro D xs W Hy hSx hI hDm;subst hSx;obtain ⟨acc,hacc,hI⟩:=hI;exact ⟨.normal,S acc,Pf acc hacc,rfl,fin D W _ (hST _) (hmp _) (hq _) (hpk _) Hy hI hDm⟩
  case stop =>
   rintro D c pre W Hy hSp ⟨rfl,e,hacc,hI⟩ hDm;refine wpIn_ret ?_;obtain ⟨r,hr⟩:=hSp;exact ⟨.ret,R e,Pg e (by rw [← hr];exact aCj f _ _ _ hacc),rfl,fin D W _ (hRT _) (hmpR _) (hqR _) (hpkR _) Hy hI hDm⟩
 refine ⟨fun a2 hok => ?_,fun e2 her => ?_⟩
 ·intro C0 M0 w0 a w hk B6 ro hro n
  refine wpIn_mono (main (fun e Ak=>e = .normal∧Ak=S a2) (fun a h=>by rw [hok] at h;cases h;exact ⟨rfl,rfl⟩) (fun e h=>by rw [hok] at h;cases h) C0 M0 w0 a w hk B6 ro hro n) ?_
  rintro e' a' w' ⟨e,Ak,⟨rfl,rfl⟩,h1,h2⟩;exact ⟨h1,h2⟩
 ·intro C0 M0 w0 a w hk B6 ro hro n
  refine wpIn_mono (main (fun e Ak=>e = .ret∧Ak=R e2) (fun a h=>by rw [her] at h;cases h) (fun e h=>by rw [her] at h;cases h;exact ⟨rfl,rfl⟩) C0 M0 w0 a w hk B6 ro hro n) ?_
  rintro e' a' w' ⟨e,Ak,⟨rfl,rfl⟩,h1,h2⟩;exact ⟨h1,h2⟩
end KV
end Go.Proofs
end
namespace Go.Proofs
namespace KV
open Tryz
section
theorem aUv{s:List UInt8}(h:(Lib.cut s [10]).2.2=true):(Lib.cut s [10]).1.length+1+(Lib.cut s [10]).2.1.length=s.length:=by
 unfold Lib.cut at h ⊢
 split
 ·rename_i h0
  have h1:=Lib.index_room s [10] h0;simp at h1
  dsimp only;rw [uJ,uK,List.length_singleton];omega
 ·rename_i h0
  rw [if_neg h0] at h
  cases h
theorem bJg(s:List UInt8):(Lib.cut s [10]).1.length≤s.length:=by
 unfold Lib.cut
 split
 ·rw [uJ];omega
 ·exact Bj _
def wM:List (List UInt8 × Bool)→Nat
 | []=>0
 | x::r=>x.1.length+1+wM r
theorem aCh:∀ (l:List (List UInt8 × Bool)) (x:List UInt8 × Bool),wM (l++[x])=wM l+(x.1.length+1)
 | [],x=>by simp [wM]
 | y::l,x=>by simp only [List.cons_append,wM,aCh l x];omega
theorem aCi:∀ (pre:List (List UInt8 × Bool)) (x:List UInt8 × Bool) (s:List UInt8),pre++[x] <+: cM s→(∀ y∈pre,y.2=true)→wM pre+x.1.length≤s.length
 | [],x,s,h,_=>by
  by_cases hs:s=[]
  ·subst hs;simp [nP] at h
  ·rw [jH hs] at h
   have:=(List.cons_prefix_cons.1 h).1;subst this;have:=bJg s;simp only [wM];omega
 | y::pre,x,s,h,hy=>by
  by_cases hs:s=[]
  ·subst hs;simp [nP] at h
  ·rw [jH hs] at h
   obtain ⟨h1,h2⟩:=List.cons_prefix_cons.1 (show y::(pre++[x]) <+: _::_ from h)
   subst h1;have h3:=aUv (s:=s) (hy ((Lib.cut s [10]).1,(Lib.cut s [10]).2.2) (oB ..));have h4:=aCi pre x _ h2 (fun z hz=>hy z (by simp [hz]))
   simp only [wM];omega
theorem aPw:∀ l:List (List UInt8 × Bool),l.length≤wM l
 | []=>Bj _
 | x::l=>by have:=aPw l;simp only [wM,gO];omega
end
end KV
end Go.Proofs
section
namespace Go.Proofs
open Go.RowKit
namespace KV
open Tryz
abbrev aMf(id p d ty:Nat)(pos:String):Code := .region id #[{ dst:=some d,op := .assign (.tmp p),type:=ty,pos:=pos,after := #[],guard:=none }] false
theorem bDc{l n id p d ty:Nat}{pos:String}{K:Act→World→Prop}{Q:Exit→Act→World→Prop}{a:Act}{W:World}(h:K (a.put (some d) (a.eval (.tmp p))) W):(aMf id p d ty pos).wpIn ((Fen none).inRound l) n Tp (Exit.then K Q) a W:=by
 refine wpIn_region_lit (wpListIn_plain rfl fun K' Hn => ?_)
 unfold Oper.wpIn;refine ⟨fun f _=>trivial,?_⟩
 rw [Oper.semAt_plain _ _ _ (by intro c Dt;cases Dt)]
 simp only [execOp,Sem.run_pure];exact Hn _ _ (wpListIn_nil h)
def aIo(p1 p2:Nat)(a:Act)(x:List UInt8 × Bool):Act:={ tmps:=(a.tmps.setIfInBounds p1 (.string ⟨x.1.toArray⟩)).setIfInBounds p2 (.bool x.2),defers:=[] }
def Gx(p1 p2 d:Nat)(a:Act)(x:List UInt8 × Bool):Act:=(aIo p1 p2 a x).put (some d) ((aIo p1 p2 a x).eval (.tmp p1))
def Iv(p1 p2 d e:Nat)(a:Act)(x:List UInt8 × Bool):Act:=(Gx p1 p2 d a x).put (some e) ((Gx p1 p2 d a x).eval (.tmp p2))
theorem bMb(p1 p2:Nat)(a:Act)(x:List UInt8 × Bool):({ tmps:=(#[p1,p2].zip (aCk x)).foldl (fun t (y:Nat × Value)=>t.setIfInBounds y.1 y.2) a.tmps,defers:=[] }:Act)=aIo p1 p2 a x:=by
 unfold aCk aIo;rw [J4]
theorem Mj{p1 p2 d id ty:Nat}{pos:String}(a:Act)(x:List UInt8 × Bool)(l:Nat)(K:Act→World→Prop)(W:World)(h:K (Gx p1 p2 d a x) W) :
  (aMf id p1 d ty pos).wpIn ((Fen none).inRound l) (3-1-1) Tp (Exit.then K (fun _ _ _=>False)) { tmps:=(#[p1,p2].zip (aCk x)).foldl (fun t (y:Nat × Value)=>t.setIfInBounds y.1 y.2) a.tmps,defers:=[] } W:=by
 rw [bMb];exact bDc h
theorem Mp{p1 p2 d e id ty O8 Ef:Nat}{pos Mq:String}(a:Act)(x:List UInt8 × Bool)(l:Nat)(K:Act→World→Prop)(W:World)(h:K (Iv p1 p2 d e a x) W) :
  (Code.seq (aMf id p1 d ty pos) (aMf O8 p2 e Ef Mq)).wpIn ((Fen none).inRound l) (3-1-1) Tp (Exit.then K (fun _ _ _=>False)) { tmps:=(#[p1,p2].zip (aCk x)).foldl (fun t (y:Nat × Value)=>t.setIfInBounds y.1 y.2) a.tmps,defers:=[] } W:=by
 rw [bMb];exact wpIn_seq (bDc (bDc h))
def lnT(p1 p2:Nat)(T:List AV)(x:List UInt8 × Bool):List AV:=put (put T (some p1) (.p (aD x.1))) (some p2) (.p (blP x.2))
def s1T(p1 p2 d:Nat)(T:List AV)(x:List UInt8 × Bool):List AV:=put (lnT p1 p2 T x) (some d) (.p (aD x.1))
def s2T(p1 p2 d e:Nat)(T:List AV)(x:List UInt8 × Bool):List AV:=put (s1T p1 p2 d T x) (some e) (.p (blP x.2))
def oD(st:St)(p1 p2 d:Nat)(l:List UInt8)(b:Bool):St:=⟨s1T p1 p2 d st.t (l,b),st.m⟩
def jG(st:St)(p1 p2 d e:Nat)(l:List UInt8)(b:Bool):St:=⟨s2T p1 p2 d e st.t (l,b),st.m⟩
section
variable {C:Cx} {M:Mem} {W:World} {T:List AV}
theorem bDd{p1 p2:Nat}(a:Act)(x:List UInt8 × Bool)(h:cO C M W T a.tmps):cO C M W (lnT p1 p2 T x) (aIo p1 p2 a x).tmps:=by
 have s1:cO C M W (put T (some p1) (.p (aD x.1))) (({ tmps:=a.tmps,defers:=[] }:Act).put (some p1) (.string ⟨x.1.toArray⟩)).tmps:=cO.put (a:={ tmps:=a.tmps,defers:=[] }) h (.p _ _ (.v _));exact cO.put s1 (.p _ _ (.v _))
theorem aPv{p1 p2 d:Nat}(hp:∀ x,(lnT p1 p2 T x)[p1]? = some (.p (aD x.1)))(a:Act)(x:List UInt8 × Bool)(h:cO C M W T a.tmps):cO C M W (s1T p1 p2 d T x) (Gx p1 p2 d a x).tmps:=by
 have s1:=bDd (p1:=p1) (p2:=p2) a x h;exact cO.put s1 (s1.at (hp x))
theorem bJf{p1 p2 d e:Nat}(hp:∀ x,(lnT p1 p2 T x)[p1]? = some (.p (aD x.1)))(E3:∀ x,(s1T p1 p2 d T x)[p2]? = some (.p (blP x.2)))(a:Act)(x:List UInt8 × Bool)(h:cO C M W T a.tmps):cO C M W (s2T p1 p2 d e T x) (Iv p1 p2 d e a x).tmps:=by
 have s1:=aPv (d:=d) hp a x h;exact cO.put s1 (s1.at (E3 x))
end
end KV
end Go.Proofs
end
section
namespace Go.Proofs
open Go.RowKit
namespace KV
open Tryz
abbrev itV(it:Nat):Value := .pointer (some ⟨it,0,none⟩)
def iH(W:World)(it:Nat)(s:ByteArray)(pos:Nat):World:={ W with heap:=W.heap.setIfInBounds it (.stringIter s pos) }
theorem aUs{P:Program}{W:World}{it pos:Nat}{s:ByteArray}{ty:TypeId}(h:W.heap[it]? = some (.stringIter s pos))(hp:pos<s.size) :
  (Instr.next (itV it) true ty).run P W = .ok (.tuple #[.bool true,.int .i64 pos,.int .i32 (Utf8.decode s pos).1]) (iH W it s (pos+(Utf8.decode s pos).2)):=by
 simp only [Instr.next,getObj,setObj,Sem.run_bind,Sem.run,h,Result.andThen,hp,if_true];simp [goInt,Sem.run,h,iH]
theorem aUt{P:Program}{W:World}{it pos:Nat}{s:ByteArray}{ty:TypeId}(h:W.heap[it]? = some (.stringIter s pos))(hp:¬ pos<s.size) :
  (Instr.next (itV it) true ty).run P W = .ok (.tuple #[.bool false]) W:=by
 simp [Instr.next,getObj,Sem.run,h,hp]
theorem jF{W:World}{it pos c:Nat}{s:ByteArray}(h:c≠it):(iH W it s pos).heap[c]? = W.heap[c]? := by
 simp [iH,Array.getElem?_setIfInBounds,Ne.symm h]
theorem bCz{W:World}{it pos:Nat}{s:ByteArray}(h:it<W.heap.size):(iH W it s pos).heap[it]? = some (.stringIter s pos):=by
 simp [iH,h]
theorem rS{W:World}{it pos:Nat}{s:ByteArray}:(iH W it s pos).heap.size=W.heap.size:=by simp [iH]
structure aPs (C:Cx) (M:Mem) (w0 W:World) (it:Nat):Prop where
 nF:¬ C.F it
 nL:∀ (id:Nat) (o:AO),M[id]? = some (some o)→o.live=true→C.ι id≠some it
 lt:it<W.heap.size
 ge:w0.heap.size≤it
variable {P:Program} {C C0:Cx} {M M0:Mem} {w0 W:World}
theorem bRe{it pos:Nat}{s:ByteArray}(hM:aX P C M W)(hL:aPs C M w0 W it):aX P C M (iH W it s pos):=by
 have hFz:∀ c,C.F c→(iH W it s pos).heap[c]? = W.heap[c]? := fun c hc=>jF (fun e=>hL.nF (e ▸ hc))
 have hLe:Le C C M M W (iH W it s pos):=⟨fun _ o h=>⟨o,h⟩,fun _ _ _ _ _ cs h=>⟨cs,h⟩,fun _ o h o' h' hl=>by rw [h] at h';cases h';exact ⟨hl,rfl,rfl⟩,fun _ h=>h,hFz⟩
 refine ⟨fun i ty n cs hm => ?_,fun i ty cs hm => ?_,fun i es cl hm => ?_,hM.inj,hM.nF,fun c hc=>by rw [rS];exact hM.Fs c hc,fun i o c ho hl hb=>by rw [rS];exact hM.lt i o c ho hl hb,hM.lib.le hLe⟩
 ·rcases hM.row _ _ _ _ hm with h4 | ⟨c,arr,inf,q0,q1,q2,q3,q4,q5,q6,q7,q8⟩
  ·exact .inl h4
  ·exact .inr ⟨c,arr,inf,q0,(jF (fun (e:c=it)=>hL.nL _ _ hm rfl (by rw [← e];exact q0))).trans q1,q2,q3,q4,q5,q6,fun j hj=>(q7 j hj).mono hLe.F hLe.fz,q8⟩
 ·obtain ⟨c,arr,q0,q1,q2,q3,q4⟩:=hM.box _ _ _ hm
  exact ⟨c,arr,q0,(jF (fun (e:c=it)=>hL.nL _ _ hm rfl (by rw [← e];exact q0))).trans q1,q2,fun j hj=>(q3 j hj).mono hLe,q4⟩
 ·obtain ⟨c,arr,q0,q1,q2,q3⟩:=hM.mp _ _ _ hm
  refine ⟨c,arr,q0,(jF (fun (e:c=it)=>hL.nL _ _ hm rfl (by rw [← e];exact q0))).trans q1,q2,fun j hj => ?_⟩
  obtain ⟨en,r1,r2,r3,r4⟩:=q3 j hj;exact ⟨en,r1,r2,r3,r4.mono hLe.F hLe.fz⟩
theorem bYn{it pos:Nat}{s:ByteArray}(hL:aPs C M w0 W it):Le C C M M W (iH W it s pos) :=
 ⟨fun _ o h=>⟨o,h⟩,fun _ _ _ _ _ cs h=>⟨cs,h⟩,fun _ o h o' h' hl=>by rw [h] at h';cases h';exact ⟨hl,rfl,rfl⟩,fun _ h=>h,fun c hc=>jF (fun e=>hL.nF (e ▸ hc))⟩
theorem bYo{it pos:Nat}{s:ByteArray}(f:Fr C0 M0 w0 C M W)(hL:aPs C M w0 W it):Fr C0 M0 w0 C M (iH W it s pos):=by
 refine ⟨f.os,f.tape,f.out,by rw [rS];exact f.size,fun c hc hn=>(jF (fun e => ?_)).trans (f.keep c hc hn),f.ids,f.row,f.liv,f.new,f.F1,f.F2⟩
 have:=hL.ge;omega
inductive Runes (s:ByteArray):Nat→List (Nat × Nat)→Prop
 | nil {pos:Nat} (h:¬ pos<s.size):Runes s pos []
 | cons {pos:Nat} {c wd:Nat} {l:List (Nat × Nat)} (h:pos<s.size) (hd:Utf8.decode s pos=(c,wd)) (hr:Runes s (pos+wd) l):Runes s pos ((pos,c)::l)
abbrev nxR(id gi d c Ej Ef:Nat)(p1 p2:String):Code := .region id #[{ dst:=some d,op := .next (.tmp gi) true,type:=Ej,pos:=p1,after := #[],guard:=none },{ dst:=some c,op := .extract (.tmp d) 0,type:=Ef,pos:=p2,after := #[{ on:=0,ground:=Ground.data }],guard:=none }] false
def nxT(T:List AV)(d c pos r:Nat):List AV:=put (put T (some d) (.tup [.p (blP true),.p (aB (pos:Int)),.p (.v (.int .i32 (r:Int)))])) (some c) (.p (blP true))
theorem bYp{ro:Option Nat}{n id gi d c Ej Ef pos:Nat}{p1 p2:String}{s:ByteArray}{Q:Exit→Act→World→Prop}{a:Act}{it:Nat}(hg:a.eval (.tmp gi)=itV it)(hW:W.heap[it]? = some (.stringIter s pos))(hp:pos<s.size){K:Act→World→Prop}
  (hd:d<a.tmps.size)
  (h:K ((a.put (some d) (.tuple #[.bool true,.int .i64 pos,.int .i32 (Utf8.decode s pos).1])).put (some c) (.bool true)) (iH W it s (pos+(Utf8.decode s pos).2))):(nxR id gi d c Ej Ef p1 p2).wpIn (Fen ro) n Tp (Exit.then K Q) a W:=by
 refine wpIn_region_lit (wpListIn_plain rfl fun K' Hn => ?_)
 unfold Oper.wpIn;refine ⟨fun f hf => ?_,?_⟩
 ·simp [Oper.about] at hf
 rw [Oper.semAt_plain _ _ _ (by intro c Dt;cases Dt)]
 simp only [execOp,hg,Sem.run_bind,aUs hW hp,Result.andThen,Sem.run_pure];refine Hn _ _ (wpListIn_plain rfl fun K2 It => ?_)
 unfold Oper.wpIn;refine ⟨fun f hf => ?_,?_⟩
 ·simp [Oper.about] at hf
 rw [Oper.semAt_plain _ _ _ (by intro c Dt;cases Dt)]
 have he:(a.put (some d) (.tuple #[.bool true,.int .i64 pos,.int .i32 (Utf8.decode s pos).1])).eval (.tmp d) = .tuple #[.bool true,.int .i64 pos,.int .i32 (Utf8.decode s pos).1]:=by
  simp [Act.put,Act.eval,hd]
 simp only [execOp,he];simp [Instr.extract,Sem.run];exact It _ _ (wpListIn_nil h)
theorem bRf{ro:Option Nat}{n id gi d c Ej Ef pos:Nat}{p1 p2:String}{s:ByteArray}{Q:Exit→Act→World→Prop}{a:Act}{it:Nat}(hg:a.eval (.tmp gi)=itV it)(hW:W.heap[it]? = some (.stringIter s pos))(hp:¬ pos<s.size){K:Act→World→Prop}
  (hd:d<a.tmps.size)
  (h:K ((a.put (some d) (.tuple #[.bool false])).put (some c) (.bool false)) W):(nxR id gi d c Ej Ef p1 p2).wpIn (Fen ro) n Tp (Exit.then K Q) a W:=by
 refine wpIn_region_lit (wpListIn_plain rfl fun K' Hn => ?_)
 unfold Oper.wpIn;refine ⟨fun f hf => ?_,?_⟩
 ·simp [Oper.about] at hf
 rw [Oper.semAt_plain _ _ _ (by intro c Dt;cases Dt)]
 simp only [execOp,hg,Sem.run_bind,aUt hW hp,Result.andThen,Sem.run_pure];refine Hn _ _ (wpListIn_plain rfl fun K2 It => ?_)
 unfold Oper.wpIn;refine ⟨fun f hf => ?_,?_⟩
 ·simp [Oper.about] at hf
 rw [Oper.semAt_plain _ _ _ (by intro c Dt;cases Dt)]
 have he:(a.put (some d) (.tuple #[.bool false])).eval (.tmp d) = .tuple #[.bool false]:=by
  simp [Act.put,Act.eval,hd]
 simp only [execOp,he];simp [Instr.extract,Sem.run];exact It _ _ (wpListIn_nil h)
abbrev rgR(id i0 m gi Ej Ef tx:Nat)(p1 p2:String):Code := .region id #[{ dst:=some m,op := .move (.tmp i0),type:=Ej,pos:=p1,after := #[],guard:=none },{ dst:=some gi,op := .range tx (.tmp m),type:=Ef,pos:=p2,after := #[{ on:=0,ground:=Ground.data }],guard:=none }] false
theorem bYq{ro:Option Nat}{n id i0 m gi Ej Ef:Nat}{p1 p2:String}{s:ByteArray}{Q:Exit→Act→World→Prop}{a:Act}(hi:a.eval (.tmp i0) = .string s){K:Act→World→Prop}(hm:m<a.tmps.size)
  (h:K ((a.put (some m) (.string s)).put (some gi) (itV W.heap.size)) (W.alloc (.stringIter s 0))):(rgR id i0 m gi Ej Ef 9 p1 p2).wpIn (Fen ro) n Tp (Exit.then K Q) a W:=by
 refine wpIn_region_lit (wpListIn_plain rfl fun K' Hn => ?_)
 unfold Oper.wpIn;refine ⟨fun f hf => ?_,?_⟩
 ·simp [Oper.about] at hf
 rw [Oper.semAt_plain _ _ _ (by intro c Dt;cases Dt)]
 simp only [execOp,hi,Sem.run_pure];refine Hn _ _ (wpListIn_plain rfl fun K2 It => ?_)
 unfold Oper.wpIn;refine ⟨fun f hf => ?_,?_⟩
 ·simp [Oper.about] at hf
 rw [Oper.semAt_plain _ _ _ (by intro c Dt;cases Dt)]
 have he:(a.put (some m) (.string s)).eval (.tmp m) = .string s:=by
  simp [Act.put,Act.eval,hm]
 simp only [execOp,he];have hr:(Instr.range 9 (.string s)).run Tp W = .ok (itV W.heap.size) (W.alloc (.stringIter s 0)):=by
  exact run_range_string W 9 s Tryz.underlying9
 simp only [Sem.run_bind,hr,Result.andThen,Sem.run_pure];exact It _ _ (wpListIn_nil h)
theorem aPt{u v:Value}(h:Rep C M W (.p (.v u)) v):v=u:=by cases h with | p _ _ h=>cases h;rfl
theorem aIn{F:Fence}{n:Nat}{c:Code}{Q Q':Exit→Act→World→Prop}{a:Act}{w:World}(h:LoopIn F n P c Q a w)(hq:∀ e a w,Q e a w→Q' e a w):LoopIn F n P c Q' a w:=fun b k cs hro hb hr=>let ⟨e,a',w',q,r⟩:=h b k cs hro hb hr;⟨e,a',w',hq _ _ _ q,r⟩
abbrev aMe(C0:Cx)(M0:Mem)(w0:World)(st:St)(a:Act)(W:World)(it pos:Nat)(s:ByteArray):Prop:=Sim Tp (C0.with ((it,.stringIter s pos)::C0.R)) M0 w0 st a W
theorem aPu{st:St}{a:Act}{it pos:Nat}{s:ByteArray}(h:aMe C0 M0 w0 st a W it pos s):W.heap[it]? = some (.stringIter s pos):=by
 obtain ⟨C,_,_,_,_,hR,_⟩:=h;exact (hR (it,.stringIter s pos) (oB ..)).1
theorem aUu{st:St}{a a':Act}{T':List AV}{it pos Fq:Nat}{s:ByteArray}(hR:∀ p∈C0.R,p.1≠it)(hpk:wH st.m)(h:aMe C0 M0 w0 st a W it pos s)(ha:a'.defers=a.defers)
  (hT:∀ C,cO C st.m (iH W it s Fq) st.t a.tmps→cO C st.m (iH W it s Fq) T' a'.tmps):aMe C0 M0 w0 ⟨T',st.m⟩ a' (iH W it s Fq) it Fq s:=by
 obtain ⟨C,hS,hM,hF,⟨l,e1,e2,e3⟩,hRes,_⟩:=h;obtain ⟨q1,q2,q3,q4,q5⟩:=hRes (it,.stringIter s pos) (oB ..);have hlt:it<W.heap.size:=(Eb.1 q1).1;have hL:aPs C st.m w0 W it:=⟨q4,q5,hlt,q2⟩;refine ⟨C,hT C (hS.le (bYn hL)),bRe hM hL,(bYo hF.unbased hL).based _,⟨l,by rw [ha];exact e1,e2,fun D hD => ?_⟩,fun p hp => ?_,.no hpk⟩
 ·obtain ⟨r1,r2,r3⟩:=e3 D hD
  refine ⟨(jF (fun e => ?_)).trans r1,r2,r3⟩
  subst e;have:=q1.symm.trans r1;cases this
 ·rcases oS.1 hp with rfl | hp
  ·exact ⟨bCz hlt,q2,by simp,q4,q5⟩
  ·obtain ⟨r1,r2,r3,r4,r5⟩:=hRes p (Dd _ hp)
   exact ⟨(jF (hR p hp)).trans r1,r2,r3,r4,r5⟩
theorem eJ{a:Act}{d:Option Nat}{u:Value}:(a.put d u).defers=a.defers:=by unfold Act.put;split <;> rfl
theorem zI{a:Act}{d:Option Nat}{u:Value}:(a.put d u).tmps.size=a.tmps.size:=by unfold Act.put;split <;> simp
theorem bDa{a:Act}{d:Nat}(h:d<a.tmps.size):(a.put (some d) (a.tmps.getD d undef)).tmps=a.tmps:=by
 simp only [Act.put];apply Array.ext_getElem?;intro i
 by_cases e:d=i
 ·subst e
  simp [h,Array.getD]
 ·simp [e]
theorem aFa{a:Act}{d:Nat}{u:Value}(h:d<a.tmps.size):(a.put (some d) u).eval (.tmp d)=u:=by simp [Act.put,Act.eval,h]
theorem bJe{β:Type}{k id gi d c Ej Ef e0 it:Nat}{p1 p2:String}{body LB:Code}{s:ByteArray}(S:β→PV→St)(f:β→Nat × Nat→β)(b0:β)(L:List (Nat × Nat))
  (hLB:LB = .seq (nxR id gi d c Ej Ef p1 p2) (.seq (.cond (.tmp c) .skip (.exit e0)) body)) (hnrf:nrf body=true)
  (hg:∀ b g,(S b g).t[gi]? = some (.p g)) (hd:∀ b g,d<(S b g).t.length) (hc:∀ b g,c<(S b g).t.length) (hT:∀ b g,put (put (S b g).t (some d) .any) (some c) .any=(S b g).t) (hpk:∀ b g,wH (S b g).m)
  (hb:∀ pre x g,pre++[x] <+: L→aA Tp k body ⟨nxT (S (pre.foldl f b0) g).t d c x.1 x.2,(S (pre.foldl f b0) g).m⟩ .normal (S (f (pre.foldl f b0) x) g))
  (hR:∀ p∈C0.R,p.1≠it) (hk:M0.length≤k) {ro:Option Nat} {n:Nat}:∀ (l:List (Nat × Nat)) (pos:Nat) (pre:List (Nat × Nat)) (a:Act) (W:World),Runes s pos l→pre++l=L→aMe C0 M0 w0 (S (pre.foldl f b0) (.v (itV it))) a W it pos s →
   LoopIn (Fen ro) n Tp LB (fun e' a' w'=>e' = .exit e0∧∃ Fq,aMe C0 M0 w0 (S (L.foldl f b0) (.v (itV it))) a' w' it Fq s) a W:=by
 intro l
 induction l with
 | nil =>
  intro pos pre a W hr hp hs;have hn:¬ pos<s.size:=by cases hr;assumption
  rw [List.append_nil] at hp
  subst hp;subst hLB;have hat:=aPu hs;obtain ⟨C,hS,hM,hF,hD⟩:=hs;have hsz:a.tmps.size=(S (pre.foldl f b0) (.v (itV it))).t.length:=hS.size;have hgi:a.eval (.tmp gi)=itV it:=aPt (hS.at (hg (pre.foldl f b0) (.v (itV it))))
  refine LoopIn.step (wpIn_seq (bRf hgi hat hn (by rw [hsz];exact hd _ _) (wpIn_seq (wpIn_cond_false (aFa (by rw [zI,hsz];exact hc _ _)) (wpIn_exit ?_)))))
  refine ⟨rfl,pos,C,?_,hM,hF,by rw [eJ,eJ];exact hD⟩
  have:=cO.put (d:=some c) (cO.put (d:=some d) (v := .tuple #[.bool false]) hS (.any _)) (v := .bool false) (.any _);rw [hT] at this
  exact this
 | cons x l ih =>
  intro pos pre a W hr hp hs;subst hLB;have hat:=aPu hs;have G9:=hs;obtain ⟨C,hS,hM,hF,hD⟩:=G9;have hsz:a.tmps.size=(S (pre.foldl f b0) (.v (itV it))).t.length:=hS.size;have hgi:a.eval (.tmp gi)=itV it:=aPt (hS.at (hg (pre.foldl f b0) (.v (itV it))))
  cases hr with
  | cons hlt hdc Dr =>
  rename_i r wd;refine LoopIn.step (wpIn_seq (bYp hgi hat hlt (by rw [hsz];exact hd _ _) (wpIn_seq (wpIn_cond_true (aFa (by rw [zI,hsz];exact hc _ _)) (wpIn_skip ?_)))))
  rw [hdc];have Df:aMe C0 M0 w0 ⟨nxT (S (pre.foldl f b0) (.v (itV it))).t d c pos r,(S (pre.foldl f b0) (.v (itV it))).m⟩ ((a.put (some d) (.tuple #[.bool true,.int .i64 pos,.int .i32 (r:Int)])).put (some c) (.bool true)) (iH W it s (pos+wd)) it (pos+wd) s:=by
   refine aUu hR (hpk _ _) hs (by rw [eJ,eJ]) fun C' Lf => ?_
   refine cO.put (cO.put Lf (.tup _ _ rfl fun i hi => ?_)) (.p _ _ (.v _))
   match i,hi with
   | 0,_=>exact .p _ _ (.v _)
   | 1,_=>exact .p _ _ (.v _)
   | 2,_=>exact .p _ _ (.v _)
  refine wpIn_mono (hb pre (pos,r) (.v (itV it)) ⟨l,by rw [← hp];simp⟩ _ _ _ _ _ hk Df ro (.inr hnrf) n) ?_
  rintro e' a' w' ⟨rfl,Fg⟩;exact ih (pos+wd) (pre++[(pos,r)]) a' w' Dr (by rw [← hp];simp) (by rw [List.foldl_append];exact Fg)
theorem bDb{β:Type}{k i0 m N6 id gi d c Ej Ef Im N7 e0:Nat}{p1 p2 p3 p4:String}{body cc:Code}(s:List UInt8)(S:β→St)(G:β→PV→St)(f:β→Nat × Nat→β)(b0:β)(L:List (Nat × Nat))(hLr:Runes ⟨s.toArray⟩ 0 L)
  (hcc:cc = .seq (rgR N6 i0 m gi Im N7 9 p3 p4) (.block e0 (.loop (.seq (nxR id gi d c Ej Ef p1 p2) (.seq (.cond (.tmp c) .skip (.exit e0)) body))))) (hnrf:nrf body=true)
  (O6:(S b0).t[i0]? = some (.p (aD s))) (hm:m<(S b0).t.length) (O7:∀ g,put (put (S b0).t (some m) .any) (some gi) (.p g)=(G b0 g).t) (hGm:∀ b g,(G b g).m=(S b).m) (hGe:∀ b g,put (G b g).t (some gi) .any=(S b).t)
  (hg:∀ b g,(G b g).t[gi]? = some (.p g)) (hgs:∀ b g,gi<(G b g).t.length) (hd:∀ b g,d<(G b g).t.length) (hc:∀ b g,c<(G b g).t.length) (hT:∀ b g,put (put (G b g).t (some d) .any) (some c) .any=(G b g).t) (hpk:∀ b,wH (S b).m)
  (hb:∀ pre x g,pre++[x] <+: L→aA Tp k body ⟨nxT (G (pre.foldl f b0) g).t d c x.1 x.2,(G (pre.foldl f b0) g).m⟩ .normal (G (f (pre.foldl f b0) x) g)) :
  aA Tp k cc (S b0) .normal (S (L.foldl f b0)):=by
 intro C0 M0 w0 a w hk hs ro hro n;subst hcc;obtain ⟨C,hS,hM,hF,⟨l,e1,e2,e3⟩,hRes,hP⟩:=hs;have hsz:a.tmps.size=(S b0).t.length:=hS.size;have hst:a.eval (.tmp i0) = .string ⟨s.toArray⟩:=aPt (hS.at O6)
 obtain ⟨W,hW⟩:∃ W,W=w.alloc (.stringIter ⟨s.toArray⟩ 0):=⟨_,rfl⟩;have hWs:W.heap.size=w.heap.size+1:=by rw [hW];simp [World.alloc,-World.alloc_eq]
 have hWo:∀ b,b<w.heap.size→W.heap[b]? = w.heap[b]? := fun b hb=>by rw [hW];simp [World.alloc,-World.alloc_eq,Array.getElem?_push];omega
 have hWa:W.heap[w.heap.size]? = some (.stringIter ⟨s.toArray⟩ 0):=by rw [hW];simp [World.alloc,-World.alloc_eq]
 obtain ⟨f1,m1⟩:=oF (C:=C) (kb:=some w.heap.size) (w':=W) hM (by rw [hW];rfl) (by rw [hW];rfl) (by rw [hW];rfl) (by omega) hWo
 have hnl:∀ (i:Nat) (o:AO),(S b0).m[i]? = some (some o)→o.live=true→C.ι i≠some w.heap.size:=fun i o ho hl he=>absurd (hM.lt i o _ ho hl he) (Nat.lt_irrefl _)
 have hRne:∀ p∈C0.R,p.1≠w.heap.size:=fun p hp e=>by
  have:=(hRes p hp).1;rw [e,Array.getElem?_eq_none (Bj _)] at this
  cases this
 refine wpIn_seq (bYq hst (by rw [hsz];exact hm) ?_)
 rw [← hW];have C9:aMe C0 M0 w0 (G b0 (.v (itV w.heap.size))) ((a.put (some m) (.string ⟨s.toArray⟩)).put (some gi) (itV w.heap.size)) W w.heap.size 0 ⟨s.toArray⟩:=by
  have hSl:cO (C.after w W (some w.heap.size)) (S b0).m W (G b0 (.v (itV w.heap.size))).t ((a.put (some m) (.string ⟨s.toArray⟩)).put (some gi) (itV w.heap.size)).tmps:=by
   rw [← O7];exact cO.put (cO.put (hS.le (hM.le f1)) (.any _)) (.p _ _ (.v _))
  refine ⟨C.after w W (some w.heap.size),by rw [hGm];exact hSl,by rw [hGm];exact m1,by rw [hGm];exact (hF.trans f1).based _,?_⟩
  rw [eJ,eJ,hGm];obtain ⟨h1,h2,h3⟩:=kB.fr (C0:=C0) ⟨⟨l,e1,e2,e3⟩,hRes,hP⟩ hM .refl f1;refine ⟨h1,fun p hp => ?_,.no (hpk _)⟩
  rcases oS.1 hp with rfl | hp
  ·refine ⟨hWa,hF.size,by simp,fun hf => ?_,hnl⟩
   rcases hf with hf | ⟨_,hf⟩
   ·exact absurd (hM.Fs _ hf) (Nat.lt_irrefl _)
   ·simp at hf
  ·exact h2 p hp
 refine wpIn_block (LoopIn.wp (aIn (bJe G f b0 L rfl hnrf hg hd hc hT (fun b g=>by rw [hGm];exact hpk b) hb hRne hk L 0 [] _ W hLr rfl C9) ?_))
 rintro e' a' w' ⟨rfl,Fq,Df⟩;simp only [Exit.inBlock,if_true];refine ⟨rfl,?_⟩;obtain ⟨C2,Iu,F7,El,Cq,Dl,_⟩:=Df;rw [hGm] at Iu F7 El Dl
 refine ⟨C2,?_,F7,El.unbased,Cq,fun p hp=>Dl p (Dd _ hp),.no (hpk _)⟩
 have:=cO.put (d:=some gi) (v:=a'.tmps.getD gi undef) Iu (.any _);rw [hGe,bDa (by rw [Iu.size];exact hgs _ _)] at this
 exact this
end KV
end Go.Proofs
end
section
namespace Go.Proofs
open Go.RowKit
namespace KV
open Tryz
def zH(cs:List UInt8)(r:Nat):Bool:=decide (0≤Lib.indexByte cs r.toUInt8)
theorem bRc(cs:List UInt8)(r:Nat)(h:r<128){base:Nat}:FV Tp 216 [.p (aD cs),.p (.v (.int .i32 (r:Int)))] base (.p (blP (zH cs r))) []:=FV.ofc rfl fun C w us hus hM=>by
 obtain rfl:=Gp rfl rfl hus;refine (Tryz.strings_ContainsRune_ascii ⟨cs.toArray⟩ (r:Int) w (by omega) (by omega)).mono ?_
 rintro e w' ⟨rfl,rfl⟩;exact ⟨_,rfl,Below.refl _ _,.p _ _ (.v _)⟩
abbrev xoR(id i j k Ej Ef Im:Nat)(p1 p2 p3:String)(q:Array Edge):Code := .region id #[{ dst:=some j,op := .move (.tmp i),type:=Ej,pos:=p1,after := #[],guard:=none },{ dst:=some k,op := .unOp .xor 3 (.tmp j),type:=Ef,pos:=p2,after := #[{ on:=0,ground:=Ground.data }],guard:=none },{ dst:=some i,op := .assign (.tmp k),type:=Im,pos:=p3,after:=q,guard:=none }] false
theorem bRd{kk id i j k Ej Ef Im:Nat}{p1 p2 p3:String}{q:Array Edge}{cc:Code}{st Ak:St}{v:Int}(hcc:cc=xoR id i j k Ej Ef Im p1 p2 p3 q)(hi:st.t[i]? = some (.p (aB v)))(hj:j<st.t.length)(hk:k<st.t.length)(hv:0≤v∧v<9223372036854775808)
  (hp:put (put (put st.t (some j) .any) (some k) .any) (some i) (.p (aB (-1-v)))=Ak.t) (hm:Ak.m=st.m):aA Tp kk cc st .normal Ak:=by
 intro C0 M0 w0 a w hk0 hs ro hro n;subst hcc;obtain ⟨C,hS,hM,hF,hD⟩:=hs;have hsz:a.tmps.size=st.t.length:=hS.size;have O4:a.eval (.tmp i) = .int .i64 v:=aPt (hS.at hi)
 refine wpIn_region_lit (wpListIn_plain rfl fun K' Hn => ?_)
 unfold Oper.wpIn;refine ⟨fun f hf => ?_,?_⟩
 ·simp [Oper.about] at hf
 rw [Oper.semAt_plain _ _ _ (by intro c Dt;cases Dt)]
 simp only [execOp,O4,Sem.run_pure];refine Hn _ _ (wpListIn_plain rfl fun K2 It => ?_)
 unfold Oper.wpIn;refine ⟨fun f hf => ?_,?_⟩
 ·simp [Oper.about] at hf
 rw [Oper.semAt_plain _ _ _ (by intro c Dt;cases Dt)]
 have he:(a.put (some j) (.int .i64 v)).eval (.tmp j) = .int .i64 v:=aFa (by rw [hsz];exact hj)
 have hb:bits .xor .i64 (-1) v = -1-v:=by
  have:=i64_not v.toNat (by omega)
  rw [show ((v.toNat:Nat):Int)=v from by omega] at this
  exact this
 have hx:(Op.unary .xor (.int .i64 v)).run Tp w = .ok (.int .i64 (-1-v)) w:=by
  rw [unary_xor,← hb];rfl
 simp only [execOp,he,Sem.run_bind,hx,Result.andThen,Sem.run_pure];refine It _ _ (wpListIn_plain rfl fun K3 J3 => ?_)
 unfold Oper.wpIn;refine ⟨fun f hf => ?_,?_⟩
 ·simp [Oper.about] at hf
 rw [Oper.semAt_plain _ _ _ (by intro c Dt;cases Dt)]
 have O5:((a.put (some j) (.int .i64 v)).put (some k) (.int .i64 (-1-v))).eval (.tmp k) = .int .i64 (-1-v):=aFa (by rw [zI,hsz];exact hk)
 simp only [execOp,O5,Sem.run_pure];refine J3 _ _ (wpListIn_nil ⟨rfl,C,?_,by rw [hm];exact hM,by rw [hm];exact hF,by rw [eJ,eJ,eJ,hm];exact hD⟩)
 rw [hm,← hp];exact cO.put (cO.put (cO.put hS (.any _)) (.any _)) (.p _ _ (.v _))
def fU:Nat→List UInt8→List (Nat × Nat)
 | _,[]=>[]
 | i,b::r=>(i,b.toNat)::fU (i+1) r
theorem aCg(s:List UInt8)(h:∀ b∈s,b.toNat<128):∀ (l:List UInt8) (i:Nat),s.drop i=l→Runes ⟨s.toArray⟩ i (fU i l)
 | [],i,hl => .nil (by
  have:=congrArg List.length hl;simp [ByteArray.size] at this ⊢;omega)
 | b::r,i,hl=>by
  have h0:i<s.length:=by
   have:=congrArg List.length hl;simp at this;omega
  have hb:s[i]=b:=by
   have:=congrArg (·[0]?) hl
   simpa [h0] using this
  have hsz:i<(⟨s.toArray⟩:ByteArray).size:=by simpa [ByteArray.size] using h0
  have hg:(⟨s.toArray⟩:ByteArray)[i]'hsz=b:=hb;refine .cons hsz ((decode_ascii ⟨s.toArray⟩ i hsz (by rw [hg,← hb];exact h _ (gP h0))).trans (by rw [hg])) (aCg s h r (i+1) ?_)
  rw [← List.tail_drop,hl];rfl
end KV
end Go.Proofs
end
section
namespace Go.Proofs
open Go.RowKit
namespace KV
open Tryz
def kE(k:Int)(x:List Cel):List (List UInt8):=List.zipWith wrM (aJ k) x
def aQz(k:Int):List UInt8:=if k=0 then [115,116,97,114,116,115] else if k=1 then [112,97,115,115,101,115] else if k=2 then [116,97,114,103,101,116,115] else if k=3 then [106,117,100,103,101,109,101,110,116,115] else [99,117,112,115]
def wE(k:Int)(n:Nat):List UInt8:=lnM [[107,108,105,115,116,101,114],aQz k,Lib.itoa (n:Int)]
def aJm(k:Int)(R:List (List Cel)):List UInt8:=R.foldl (fun o x=>o++lnM (kE k x)) (wE k R.length)
def qH(b:List UInt8):Int:=if b.length≤65536 then bM b else 0
def bGe(k:Int)(R:List (List Cel)):List UInt8 × Int:=if eQ k R≠0 then ([],eQ k R) else (aJm k R++lnM [[115,117,109],Lib.itoa (qH (aJm k R))],0)
theorem bLp(t:Int)(c:Cel):ckM t c=0∨ckM t c=3∨ckM t c=11:=by
 unfold ckM
 repeat' split
 all_goals simp
theorem bGf{a:Int}{z:List UInt8}(h:ckM 0 (a,z)=0):0≤a∧a≤999999:=by
 by_cases q:within a 0 999999=true
 ·exact dN.1 q
 ·have e:ckM 0 (a,z)=3:=by simp [ckM,q]
  rw [e] at h;exact absurd h (by decide)
theorem bXb{a:Int}{z:List UInt8}(h:ckM 1 (a,z)=0):0≤a∧a≤360000:=by
 by_cases q:within a 0 360000=true
 ·exact dN.1 q
 ·have e:ckM 1 (a,z)=3:=by simp [ckM,q]
  rw [e] at h;exact absurd h (by decide)
theorem bXc{a:Int}{z:List UInt8}(h:ckM 2 (a,z)=0):oZ z=true∧z.length≤8:=by
 by_cases q:oZ z=true
 ·refine ⟨q,?_⟩
  unfold oZ at q
  rw [B5] at q
  have:=dN.1 q.1;omega
 ·have e:ckM 2 (a,z)=11:=by simp [ckM,q]
  rw [e] at h;exact absurd h (by decide)
theorem bXd{a:Int}{z:List UInt8}(h:ckM 3 (a,z)=0):pA z=true∧z.length≤12:=by
 by_cases q:pA z=true
 ·refine ⟨q,?_⟩
  unfold pA at q
  rw [B5] at q
  have:=dN.1 q.1;omega
 ·have e:ckM 3 (a,z)=11:=by simp [ckM,q]
  rw [e] at h;exact absurd h (by decide)
theorem bXe{a:Int}(h:0≤a∧a≤360000):(ptM a).1.length≤66:=by
 have h1:a.tdiv 10=a / 10:=Int.tdiv_eq_ediv_of_nonneg h.1;have h2:a.tdiv 600=a / 600:=Int.tdiv_eq_ediv_of_nonneg h.1;have h3:a.tmod 10=a % 10:=Int.tmod_eq_emod_of_nonneg h.1;have h4:(a.tdiv 10).tmod 60=a.tdiv 10 % 60:=Int.tmod_eq_emod_of_nonneg (by omega)
 have l1:=itl (n:=a.tdiv 600) (by omega)
 have l2:=itl (n:=a.tmod 10) (by omega)
 have l3:=itl (n:=100+(a.tdiv 10).tmod 60) (by omega)
 unfold ptM;rw [if_pos (dN.2 h)];simp only [gM,uK,gO,List.length_nil];omega
theorem bXf{t:Int}{c:Cel}(ht:t=0∨t=1∨t=2∨t=3)(h:ckM t c=0):(wrM t c).length≤66:=by
 obtain ⟨a,z⟩:=c
 rcases ht with rfl | rfl | rfl | rfl
 ·have:=bGf h
  have:=itl (n:=a) (by omega)
  show (Lib.itoa a).length≤66;omega
 ·exact bXe (bXb h)
 ·have:=(bXc h).2
  show z.length≤66;omega
 ·have:=(bXd h).2
  show z.length≤66;omega
structure zW (k:Int) (R:List (List Cel)):Prop where
 n:R.length≤200
 w:within k 0 4=true
 len:∀ x∈R,x.length=(aJ k).length
 ck:∀ x∈R,∀ (j:Nat) t c,(aJ k)[j]? = some t→x[j]? = some c→ckM t c=0
theorem bGg{k:Int}{R:List (List Cel)}(h:eQ k R=0):zW k R:=by
 unfold eQ at h
 split at h
 ·cases h
 ·rename_i hk
  split at h
  ·cases h
  ·rename_i hn
   have hl:R.length≤200:=by
    apply Classical.byContradiction;intro q;exact hn (.inl (by omega))
   have hne:R.all Ea=true:=by
    cases e:R.all Ea
    ·exact absurd (.inr e) hn
    ·rfl
   split at h
   ·rename_i hc;exact absurd h hc
   ·rename_i hc
    have hc:lT k R=0:=by
     apply Classical.byContradiction;exact hc
    have hf:=aPz (k:=k) (R:=R) (by rw [hc];decide)
    have Hi:=hf;rw [jO] at hf hne
    refine ⟨hl,by simpa using hk,fun x hx=>aPy (hne x hx) (hf x hx),fun x hx j t c h1 h2 => ?_⟩
    unfold lT at hc
    rw [if_neg (by rw [Hi];simp)] at hc
    split at hc
    ·cases hc
    ·rename_i q3
     split at hc
     ·cases hc
     ·rename_i Qa
      have hm:(aIz k x)[j]? = some (ckM t c):=by
       unfold aIz;rw [List.getElem?_zipWith,h1,h2]
      have key:∀ e,¬ (R.any (aJa k e)=true)→ckM t c≠e:=fun e q he=>q (List.any_eq_true.2 ⟨x,hx,List.any_eq_true.2 ⟨_,Cn hm,by simpa using he⟩⟩)
      rcases bLp t c with e | e | e
      ·exact e
      ·exact absurd e (key 3 q3)
      ·exact absurd e (key 11 Qa)
theorem aNv(a b:List UInt8)(r:List (List UInt8))(sep:List UInt8):Lib.join (a::b::r) sep=a++sep++Lib.join (b::r) sep:=by
 simp [Lib.join,List.intercalate]
theorem tS(B:Nat):∀ (l:List (List UInt8)),(∀ s∈l,s.length≤B)→(Lib.join l [32]).length≤l.length*(B+1)
 | [],_=>by simp [Lib.join,List.intercalate]
 | [a],h=>by
  have:=h a (by simp)
  simp [Lib.join,List.intercalate];omega
 | a::b::r,h=>by
  have h1:=h a (by simp)
  have h2:=tS B (b::r) (fun s hs=>h s (by simp at hs ⊢;exact .inr hs))
  rw [aNv,gM,gM,gO (a:=a),Nat.succ_mul];simp only [gO,List.length_nil] at h2 ⊢
  omega
theorem pO(k:Int):(aJ k).length≤4:=by
 unfold aJ;repeat' split
 all_goals simp
theorem bLq{k:Int}{x:List Cel}{s:List UInt8}(h:s∈kE k x):∃ (j:Nat) (t:Int) (c:Cel),(aJ k)[j]? = some t∧x[j]? = some c∧s=wrM t c:=by
 obtain ⟨j,hj,e⟩:=List.mem_iff_getElem.1 h;have:(kE k x)[j]? = some s:=by rw [Ca hj,e]
 unfold kE at this
 rw [List.getElem?_zipWith] at this
 cases h1:(aJ k)[j]? with
 | none=>rw [h1] at this;simp at this
 | some t =>
  cases h2:x[j]? with
  | none=>rw [h1,h2] at this;simp at this
  | some c=>rw [h1,h2] at this;exact ⟨j,t,c,h1,h2,by simpa using this.symm⟩
theorem aJn{k:Int}{R:List (List Cel)}(hR:zW k R){x:List Cel}(hx:x∈R):(kE k x).length≤4∧(Lib.join (kE k x) [32]).length≤268:=by
 have hl:(kE k x).length≤4:=by
  have:=pO k;unfold kE;rw [List.length_zipWith];omega
 have:=tS 66 (kE k x) (fun s hs=>by
  obtain ⟨j,t,c,h1,h2,rfl⟩:=bLq hs;exact bXf (mM h1) (hR.ck x hx j t c h1 h2))
 refine ⟨hl,iB this ?_⟩;omega
theorem aDd:∀ (l:List (Int × Cel)) (f:List (List UInt8)),l.foldl (fun f p=>f++[wrM p.1 p.2]) f=f++l.map (fun p=>wrM p.1 p.2)
 | [],f=>by simp
 | p::l,f=>by rw [List.foldl_cons,aDd l,jP];simp
theorem bGh(k:Int)(x:List Cel):((aJ k).zip x).map (fun p=>wrM p.1 p.2)=kE k x:=by
 unfold kE;rw [List.zip,List.map_zipWith]
theorem bXg{l:List Int}{x:List Cel}{j:Nat}{p:Int × Cel}(h:(l.zip x)[j]? = some p):l[j]? = some p.1∧x[j]? = some p.2:=by
 rw [List.zip,List.getElem?_zipWith] at h
 cases h1:l[j]? with
 | none=>rw [h1] at h;simp at h
 | some t =>
  cases h2:x[j]? with
  | none=>rw [h1,h2] at h;simp at h
  | some c=>rw [h1,h2] at h;simp at h;subst h;exact ⟨rfl,rfl⟩
theorem aNw{k:Int}{R:List (List Cel)}(hR:zW k R){x:List Cel}(hx:x∈R)(i:Nat)(o:List UInt8) :
  aF Tp 0 (sub (cd Tryz.f28) ah) (fV k R i o x 0 0 []) (.exit 2) (fV k R i o x (aJ k).length (kE k x).length (((kE k x).map stE).flatten)):=by
 have hc:=pO k;have hl:((aJ k).zip x).length=(aJ k).length:=by rw [List.length_zip,hR.len x hx,Nat.min_self]
 have:=aF.range (P:=Tp) (k:=0) (b:=(sub (cd Tryz.f28) ah)) (e := .exit 2) (fun j (f:List (List UInt8))=>fV k R i o x j f.length ((f.map stE).flatten)) (fun f=>fV k R i o x (aJ k).length f.length ((f.map stE).flatten)) (fun f p=>f++[wrM p.1 p.2]) (fun j f=>f.length=j) (by simp) ((aJ k).zip x) (a0:=[]) rfl
  (fun j p f hp hf=>by
   have hj:=bH hp;obtain ⟨h1,h2⟩:=bXg hp;obtain ⟨t,a,z⟩:=p;have hk:=hR.ck x hx j t (a,z) h1 h2;refine ⟨by simp [hf],?_⟩
   rcases mM h1 with e | e | e | e
   ·simp only at e h1 h2;subst e
    have hb:=bGf hk;exact aVb (by omega) h1 h2 (by show _∧_;omega) ⟨rfl,by omega⟩ (aW (by omega)) rfl (by simp) (by simp [stE])
   ·simp only at e h1 h2;subst e
    exact aVc (by omega) h1 h2 ⟨rfl,by omega⟩ (aW (by omega)) rfl (by simp) (by simp [stE])
   ·simp only at e h1 h2;subst e
    exact aVd (by omega) h1 h2 ⟨rfl,by omega⟩ (aW (by omega)) rfl (by simp) (by simp [stE])
   ·simp only at e h1 h2;subst e
    exact aVe (by omega) h1 h2 ⟨rfl,by omega⟩ (aW (by omega)) rfl (by simp) (by simp [stE,wrM]))
  (fun f _=>by rw [hl];exact aVf (by omega))
 rw [aDd,List.nil_append,bGh] at this
 exact this
theorem aZr{k:Int}{R:List (List Cel)}(hR:zW k R)(h:List UInt8)(hh:h.length≤1000) :
  aF Tp 0 (sub (cd Tryz.f28) [1,1,1,1,1,0,1,0,0]) (cJ k R 0 h) (.exit 0) (cJ k R R.length (R.foldl (fun o x=>o++lnM (kE k x)) h)):=by
 have hn:=hR.n;exact aF.range (P:=Tp) (k:=0) (b:=(sub (cd Tryz.f28) [1,1,1,1,1,0,1,0,0])) (e := .exit 0) (fun i (o:List UInt8)=>cJ k R i o) (fun o=>cJ k R R.length o) (fun o x=>o++lnM (kE k x)) (fun i o=>o.length≤1000+300*i) (by simp) R (a0:=h) (by omega)
  (fun i x o hx ho=>by
   have hi:=bH hx;have hm:=Cn hx;obtain ⟨q1,q2⟩:=aJn hR hm;have hln:(lnM (kE k x)).length≤269:=by unfold lnM;rw [gM];simp;omega
   exact ⟨by rw [gM];omega,aUz (by omega) hx (aNw hR hm i o) (by omega) (by omega) (by omega) (aW (by omega)) rfl rfl⟩)
  (fun o _=>aVa (by omega))
theorem aJo{k:Int}{R:List (List Cel)}(hR:zW k R):∀ (l:List (List Cel)) (h:List UInt8),(∀ x∈l,x∈R)→(l.foldl (fun o x=>o++lnM (kE k x)) h).length≤h.length+300*l.length
 | [],h,_=>by simp
 | x::l,h,hx=>by
  obtain ⟨q1,q2⟩:=aJn hR (hx x (by simp))
  have hln:(lnM (kE k x)).length≤269:=by unfold lnM;rw [gM];simp;omega
  have:=aJo hR l (h++lnM (kE k x)) (fun y hy=>hx y (by simp [hy]))
  rw [gM] at this
  rw [List.foldl_cons,gO];omega
theorem bLr(b:List UInt8):0≤bM b∧bM b<65521:=bCn b 0 (by omega)
theorem bXh(k:Int)(R:List (List Cel)){base:Nat}:FV Tp 28 [.p (.agg [aB k,cD R])] base (.tup [.p (aD (bGe k R).1),.p (aB (bGe k R).2)]) []:=by
 unfold bGe
 by_cases hc:eQ k R=0
 ·rw [if_neg (by simp [hc])]
  have hR:=bGg hc;have hn:=hR.n;have hi:=itl (n:=(R.length:Int)) (by omega)
  have hw:(aQz k).length≤10:=by unfold aQz;(repeat' split) <;> simp
  have hj:∀ w:List UInt8,w.length≤10→(Lib.join [[107,108,105,115,116,101,114],w,Lib.itoa (R.length:Int)] [32]).length≤100:=fun w hw=>by
   have:=tS 30 [[107,108,105,115,116,101,114],w,Lib.itoa (R.length:Int)] (fun s hs=>by
    simp only [oS,List.not_mem_nil,or_false] at hs
    rcases hs with rfl | rfl | rfl
    ·simp
    ·omega
    ·omega)
   simp only [gO,List.length_nil] at this
   omega
  have hh:(wE k R.length).length≤1000:=by
   have:=hj (aQz k) hw;unfold wE lnM;rw [gM];simp;omega
  have L:=aZr hR (wE k R.length) hh;have hb:=aJo hR R (wE k R.length) (fun x hx=>hx)
  have ev:aJm k R=R.foldl (fun o x=>o++lnM (kE k x)) (wE k R.length):=rfl
  rw [← ev] at L hb
  generalize aJm k R=b at L hb ⊢
  have hsv:0≤qH b∧qH b<65521:=by
   unfold qH;split
   ·exact bLr b
   ·omega
  have hs:=itl (n:=qH b) (by omega)
  have hjs:(Lib.join [[115,117,109],Lib.itoa (qH b)] [32]).length≤100:=by
   have:=tS 30 [[115,117,109],Lib.itoa (qH b)] (fun s hs=>by
    simp only [oS,List.not_mem_nil,or_false] at hs
    rcases hs with rfl | rfl
    ·simp
    ·omega)
   simp only [gO,List.length_nil] at this
   omega
  have hls:(lnM [[115,117,109],Lib.itoa (qH b)]).length≤101:=by unfold lnM;rw [gM];simp;omega
  have hk:=dN.1 hR.w;have Oc:k=0∨k=1∨k=2∨k=3∨k=4:=by omega
  have g1:inR (R.length:Int):=aW (by omega)
  have h3:∀ w:List UInt8,([[107,108,105,115,116,101,114],w,Lib.itoa (R.length:Int)]:List (List UInt8)).length≤1000000:=fun w=>by simp
  have h2:([[115,117,109],Lib.itoa (qH b)]:List (List UInt8)).length≤1000000:=by simp
  have gs:inR (qH b):=by unfold inR;omega
  by_cases h6:b.length≤65536
  ·have es:qH b=bM b:=by unfold qH;rw [if_pos h6]
   rw [es] at hjs hls h2 gs ⊢
   rcases Oc with rfl | rfl | rfl | rfl | rfl
   ·exact bRj hc rfl g1 (h3 _) (iB (hj _ (by simp)) (by omega)) L h6 gs h2 (by omega) (by omega)
   ·exact bRl hc rfl g1 (h3 _) (iB (hj _ (by simp)) (by omega)) L h6 gs h2 (by omega) (by omega)
   ·exact bRn hc rfl g1 (h3 _) (iB (hj _ (by simp)) (by omega)) L h6 gs h2 (by omega) (by omega)
   ·exact bRp hc rfl g1 (h3 _) (iB (hj _ (by simp)) (by omega)) L h6 gs h2 (by omega) (by omega)
   ·exact bRr hc rfl g1 (h3 _) (iB (hj _ (by simp)) (by omega)) L h6 gs h2 (by omega) (by omega)
  ·have es:qH b=0:=by unfold qH;rw [if_neg h6]
   rw [es] at hjs hls h2 gs ⊢
   rcases Oc with rfl | rfl | rfl | rfl | rfl
   ·exact bRk hc rfl g1 (h3 _) (iB (hj _ (by simp)) (by omega)) L (by omega) gs h2 (by omega) (by omega)
   ·exact bRm hc rfl g1 (h3 _) (iB (hj _ (by simp)) (by omega)) L (by omega) gs h2 (by omega) (by omega)
   ·exact bRo hc rfl g1 (h3 _) (iB (hj _ (by simp)) (by omega)) L (by omega) gs h2 (by omega) (by omega)
   ·exact bRq hc rfl g1 (h3 _) (iB (hj _ (by simp)) (by omega)) L (by omega) gs h2 (by omega) (by omega)
   ·exact bJh hc rfl g1 (h3 _) (iB (hj _ (by simp)) (by omega)) L (by omega) gs h2 (by omega) (by omega)
 ·rw [if_pos hc]
  exact bRi hc rfl
end KV
end Go.Proofs
end
namespace Go.Proofs
namespace KV
open Tryz
section
variable {r0:Bool}{e f k l er fd ln:Int}{i i' Aq:Nat}

noncomputable abbrev mS:Code:=sub (cd Tryz.f177) [1,0,1,0,0]
theorem bNi:0≤(0:Int)∧(0:Int)<5:=by first | decide | simp
theorem bNj:(decide ((0:Int)<5))=true:=by first | decide | simp
theorem bNk:0≤(1:Int)∧(1:Int)<5:=by first | decide | simp
theorem bNl:(decide ((1:Int)<5))=true:=by first | decide | simp
theorem bNm:0≤(2:Int)∧(2:Int)<5:=by first | decide | simp
theorem bNn:(decide ((2:Int)<5))=true:=by first | decide | simp
theorem bNo:0≤(3:Int)∧(3:Int)<5:=by first | decide | simp
theorem bNp:(decide ((3:Int)<5))=true:=by first | decide | simp
theorem bNq:0≤(4:Int)∧(4:Int)<5:=by first | decide | simp
theorem bNr:(decide ((4:Int)<5))=true:=by first | decide | simp
def rwE(r:List Cel):List PV:=[aM r]
theorem fO:∀ R:List (List Cel),(R.map rwE).flatten=R.map aM
 | []=>rfl
 | r::R=>by rw [jP,uI,fO R];rfl
theorem bWx{R:List (List Cel)}(h0:e=0)(h1:er≠0)(Am:r0=(er == 0)):FMM Tp 176 [(pI fd),(pI er),(.ptr 0 0),(.ptr 1 0)] [some (.box 156 [(.ptr 2 0)]),some (.box 3 [(pI ln)]),some (.box 158 [(pI k),(.own 3),(pI l),(pI f),(pI e)]),some (.row 78 R.length ((R.map rwE).flatten))] (pB r0) [some (.box 156 [(.ptr 2 0)]),some (.box 3 [(pI ln)]),some (.box 158 [(pI k),(.own 3),(pI ln),(pI fd),(pI er)]),some (.row 78 R.length ((R.map rwE).flatten))]:=by
 subst Am;exact FMM.fi 4 gE func176 [bT,bT,bT,bT] (gc (dE h1) (Au (dG h0) gn))
theorem bWy{R:List (List Cel)}(h0:e=0)(h1:er=0)(Am:r0=(e == 0)):FMM Tp 176 [(pI fd),(pI er),(.ptr 0 0),(.ptr 1 0)] [some (.box 156 [(.ptr 2 0)]),some (.box 3 [(pI ln)]),some (.box 158 [(pI k),(.own 3),(pI l),(pI f),(pI e)]),some (.row 78 R.length ((R.map rwE).flatten))] (pB r0) [some (.box 156 [(.ptr 2 0)]),some (.box 3 [(pI ln)]),some (.box 158 [(pI k),(.own 3),(pI l),(pI f),(pI e)]),some (.row 78 R.length ((R.map rwE).flatten))]:=by
 subst Am;exact FMM.fi 4 gE func176 [bT,bT,bT,bF] (gc (bB h1) (Au (dG h0) gn))
theorem bWz{R:List (List Cel)}(h0:e≠0)(Am:r0=(e == 0)):FMM Tp 176 [(pI fd),(pI er),(.ptr 0 0),(.ptr 1 0)] [some (.box 156 [(.ptr 2 0)]),some (.box 3 [(pI ln)]),some (.box 158 [(pI k),(.own 3),(pI l),(pI f),(pI e)]),some (.row 78 R.length ((R.map rwE).flatten))] (pB r0) [some (.box 156 [(.ptr 2 0)]),some (.box 3 [(pI ln)]),some (.box 158 [(pI k),(.own 3),(pI l),(pI f),(pI e)]),some (.row 78 R.length ((R.map rwE).flatten))]:=by
 subst Am;exact FMM.fi 4 gE func176 [bF,bF,bF] (Au (bI h0) gn)
theorem eV{R:List (List Cel)}:FMM Tp 89 [(.ptr 0 0),(pI ln)] [some (.box 158 [(pI k),(.own 1),(pI l),(pI f),(pI e)]),some (.row 78 R.length ((R.map rwE).flatten))] (.fn 176 [] [(.ptr 2 0),(.ptr 3 0)]) [some (.box 158 [(pI k),(.own 1),(pI l),(pI f),(pI e)]),some (.row 78 R.length ((R.map rwE).flatten)),some (.box 156 [(.ptr 0 0)]),some (.box 3 [(pI ln)])]:=FMM.fi 2 ⟨[],[2,3],[],[]⟩ func89 [] gn
def aR(ln fd er:Int)(s:Int × Int × Int):Int × Int × Int:=if s.2.2=0∧er≠0 then (ln,fd,er) else s
theorem cN(fd er ln k l f e:Int)(R:List (List Cel)):FMM Tp 176 [.p (aB fd),.p (aB er),.ptr 0 0,.ptr 1 0] [some (.box 156 [(.ptr 2 0)]),some (.box 3 [(pI ln)]),some (.box 158 [(pI k),(.own 3),(pI l),(pI f),(pI e)]),some (.row 78 R.length ((R.map rwE).flatten))] (pB ((aR ln fd er (l,f,e)).2.2 == 0)) [some (.box 156 [(.ptr 2 0)]),some (.box 3 [(pI ln)]),some (.box 158 [(pI k),(.own 3),(pI ((aR ln fd er (l,f,e)).1)),(pI ((aR ln fd er (l,f,e)).2.1)),(pI ((aR ln fd er (l,f,e)).2.2))]),some (.row 78 R.length ((R.map rwE).flatten))]:=by
 unfold aR
 by_cases h:e=0
 ·by_cases h2:er=0
  ·rw [if_neg (by simp [h2])];exact bWy h h2 rfl
  ·rw [if_pos ⟨h,h2⟩];exact bWx h h2 rfl
 ·rw [if_neg (by simp [h])];exact bWz h rfl
def dO(s:List UInt8)(i:Nat):St:=⟨fr 19 [(0,(.arr 0 0 5)),(1,(.p (aD s))),(7,(pI 5)),(8,(pI (i:Int)))],[some (.box 207 [(.p (aD ([115,116,97,114,116,115]:List UInt8))),(.p (aD ([112,97,115,115,101,115]:List UInt8))),(.p (aD ([116,97,114,103,101,116,115]:List UInt8))),(.p (aD ([106,117,100,103,101,109,101,110,116,115]:List UInt8))),(.p (aD ([99,117,112,115]:List UInt8)))])]⟩
theorem bXa{s:List UInt8}(Ay:aF Tp 1 mS (dO s 0) (.exit 0) (dO s Aq)):FMM Tp 177 [(.arr 0 0 5),(.p (aD s))] [some (.box 207 [(.p (aD ([115,116,97,114,116,115]:List UInt8))),(.p (aD ([112,97,115,115,101,115]:List UInt8))),(.p (aD ([116,97,114,103,101,116,115]:List UInt8))),(.p (aD ([106,117,100,103,101,109,101,110,116,115]:List UInt8))),(.p (aD ([99,117,112,115]:List UInt8)))])] (pI (-1)) [some (.box 207 [(.p (aD ([115,116,97,114,116,115]:List UInt8))),(.p (aD ([112,97,115,115,101,115]:List UInt8))),(.p (aD ([116,97,114,103,101,116,115]:List UInt8))),(.p (aD ([106,117,100,103,101,109,101,110,116,115]:List UInt8))),(.p (aD ([99,117,112,115]:List UInt8)))])]:=FMM.fi 1 gE func177 [Ay.k 6 (gZ bw)] (gc Ay.code gn)
theorem zV{s:List UInt8}(Ay:aF Tp 1 mS (dO s 0) .ret (cG (dO s Aq) [(4,(pI (Aq:Int)))])):FMM Tp 177 [(.arr 0 0 5),(.p (aD s))] [some (.box 207 [(.p (aD ([115,116,97,114,116,115]:List UInt8))),(.p (aD ([112,97,115,115,101,115]:List UInt8))),(.p (aD ([116,97,114,103,101,116,115]:List UInt8))),(.p (aD ([106,117,100,103,101,109,101,110,116,115]:List UInt8))),(.p (aD ([99,117,112,115]:List UInt8)))])] (pI (Aq:Int)) [some (.box 207 [(.p (aD ([115,116,97,114,116,115]:List UInt8))),(.p (aD ([112,97,115,115,101,115]:List UInt8))),(.p (aD ([116,97,114,103,101,116,115]:List UInt8))),(.p (aD ([106,117,100,103,101,109,101,110,116,115]:List UInt8))),(.p (aD ([99,117,112,115]:List UInt8)))])]:=FMM.fi 1 gE func177 [Ay.k 6 (gZ bw)] (gc Ay.code gn)
theorem aZl{s:List UInt8}(Av:i=0)(h1:s=([115,116,97,114,116,115]:List UInt8))(Ai:i'=0):aA Tp 1 mS (dO s i) .ret (cG (dO s i') [(4,(pI 0))]):=by
 subst Av;subst Ai;exact aA.fi (gZ bj) [bT,bT] (gt ((decide (s=([115,116,97,114,116,115]:List UInt8)))=true) (decide_eq_true h1) (gc bNi (gc bNj gn)))
theorem mT{s:List UInt8}(Av:i=0)(h1:s≠([115,116,97,114,116,115]:List UInt8))(Ai:i'=1):aA Tp 1 mS (dO s i) .normal (dO s i'):=by
 subst Av;subst Ai;exact aA.fi (gZ bw) [bT,bF] (gt (inR 1) (by show _∧_;omega) (gt ((decide (s=([115,116,97,114,116,115]:List UInt8)))=false) (decide_eq_false h1) (gc bNi (gc bNj gn))))
theorem aZm{s:List UInt8}(Av:i=1)(h1:s=([112,97,115,115,101,115]:List UInt8))(Ai:i'=1):aA Tp 1 mS (dO s i) .ret (cG (dO s i') [(4,(pI 1))]):=by
 subst Av;subst Ai;exact aA.fi (gZ bj) [bT,bT] (gt ((decide (s=([112,97,115,115,101,115]:List UInt8)))=true) (decide_eq_true h1) (gc bNk (gc bNl gn)))
theorem qE{s:List UInt8}(Av:i=1)(h1:s≠([112,97,115,115,101,115]:List UInt8))(Ai:i'=2):aA Tp 1 mS (dO s i) .normal (dO s i'):=by
 subst Av;subst Ai;exact aA.fi (gZ bw) [bT,bF] (gt (inR 2) (by show _∧_;omega) (gt ((decide (s=([112,97,115,115,101,115]:List UInt8)))=false) (decide_eq_false h1) (gc bNk (gc bNl gn))))
theorem aZn{s:List UInt8}(Av:i=2)(h1:s=([116,97,114,103,101,116,115]:List UInt8))(Ai:i'=2):aA Tp 1 mS (dO s i) .ret (cG (dO s i') [(4,(pI 2))]):=by
 subst Av;subst Ai;exact aA.fi (gZ bj) [bT,bT] (gt ((decide (s=([116,97,114,103,101,116,115]:List UInt8)))=true) (decide_eq_true h1) (gc bNm (gc bNn gn)))
theorem vB{s:List UInt8}(Av:i=2)(h1:s≠([116,97,114,103,101,116,115]:List UInt8))(Ai:i'=3):aA Tp 1 mS (dO s i) .normal (dO s i'):=by
 subst Av;subst Ai;exact aA.fi (gZ bw) [bT,bF] (gt (inR 3) (by show _∧_;omega) (gt ((decide (s=([116,97,114,103,101,116,115]:List UInt8)))=false) (decide_eq_false h1) (gc bNm (gc bNn gn))))
theorem aZo{s:List UInt8}(Av:i=3)(h1:s=([106,117,100,103,101,109,101,110,116,115]:List UInt8))(Ai:i'=3):aA Tp 1 mS (dO s i) .ret (cG (dO s i') [(4,(pI 3))]):=by
 subst Av;subst Ai;exact aA.fi (gZ bj) [bT,bT] (gt ((decide (s=([106,117,100,103,101,109,101,110,116,115]:List UInt8)))=true) (decide_eq_true h1) (gc bNo (gc bNp gn)))
theorem aDc{s:List UInt8}(Av:i=3)(h1:s≠([106,117,100,103,101,109,101,110,116,115]:List UInt8))(Ai:i'=4):aA Tp 1 mS (dO s i) .normal (dO s i'):=by
 subst Av;subst Ai;exact aA.fi (gZ bw) [bT,bF] (gt (inR 4) (by show _∧_;omega) (gt ((decide (s=([106,117,100,103,101,109,101,110,116,115]:List UInt8)))=false) (decide_eq_false h1) (gc bNo (gc bNp gn))))
theorem aZp{s:List UInt8}(Av:i=4)(h1:s=([99,117,112,115]:List UInt8))(Ai:i'=4):aA Tp 1 mS (dO s i) .ret (cG (dO s i') [(4,(pI 4))]):=by
 subst Av;subst Ai;exact aA.fi (gZ bj) [bT,bT] (gt ((decide (s=([99,117,112,115]:List UInt8)))=true) (decide_eq_true h1) (gc bNq (gc bNr gn)))
theorem aZq{s:List UInt8}(Av:i=4)(h1:s≠([99,117,112,115]:List UInt8))(Ai:i'=5):aA Tp 1 mS (dO s i) .normal (dO s i'):=by
 subst Av;subst Ai;exact aA.fi (gZ bw) [bT,bF] (gt (inR 5) (by show _∧_;omega) (gt ((decide (s=([99,117,112,115]:List UInt8)))=false) (decide_eq_false h1) (gc bNq (gc bNr gn))))
theorem aNu{s:List UInt8}(Av:i=5)(Ai:i'=5):aA Tp 1 mS (dO s i) (.exit 0) (dO s i'):=by
 subst Av;subst Ai;exact aA.fi (gZ bw) [bF] (gt ((decide ((5:Int)<5))=false) (by first | decide | simp) gn)
def eW(s:List UInt8):Int:=if s=([115,116,97,114,116,115]:List UInt8) then 0 else if s=([112,97,115,115,101,115]:List UInt8) then 1 else if s=([116,97,114,103,101,116,115]:List UInt8) then 2 else if s=([106,117,100,103,101,109,101,110,116,115]:List UInt8) then 3 else if s=([99,117,112,115]:List UInt8) then 4 else -1
theorem bGd(s:List UInt8):FMM Tp 177 [.arr 0 0 5,.p (aD s)] [some (.box 207 [(.p (aD ([115,116,97,114,116,115]:List UInt8))),(.p (aD ([112,97,115,115,101,115]:List UInt8))),(.p (aD ([116,97,114,103,101,116,115]:List UInt8))),(.p (aD ([106,117,100,103,101,109,101,110,116,115]:List UInt8))),(.p (aD ([99,117,112,115]:List UInt8)))])] (pI (eW s)) [some (.box 207 [(.p (aD ([115,116,97,114,116,115]:List UInt8))),(.p (aD ([112,97,115,115,101,115]:List UInt8))),(.p (aD ([116,97,114,103,101,116,115]:List UInt8))),(.p (aD ([106,117,100,103,101,109,101,110,116,115]:List UInt8))),(.p (aD ([99,117,112,115]:List UInt8)))])]:=by
 unfold eW
 by_cases h0:s=([115,116,97,114,116,115]:List UInt8)
 ·rw [if_pos h0];exact zV (Aq:=0) (.exit (aZl rfl h0 rfl) (by simp))
 ·rw [if_neg h0]
  by_cases h1:s=([112,97,115,115,101,115]:List UInt8)
  ·rw [if_pos h1];exact zV (Aq:=1) (.step (mT rfl h0 rfl) (.exit (aZm rfl h1 rfl) (by simp)))
  ·rw [if_neg h1]
   by_cases h2:s=([116,97,114,103,101,116,115]:List UInt8)
   ·rw [if_pos h2];exact zV (Aq:=2) (.step (mT rfl h0 rfl) (.step (qE rfl h1 rfl) (.exit (aZn rfl h2 rfl) (by simp))))
   ·rw [if_neg h2]
    by_cases h3:s=([106,117,100,103,101,109,101,110,116,115]:List UInt8)
    ·rw [if_pos h3];exact zV (Aq:=3) (.step (mT rfl h0 rfl) (.step (qE rfl h1 rfl) (.step (vB rfl h2 rfl) (.exit (aZo rfl h3 rfl) (by simp)))))
    ·rw [if_neg h3]
     by_cases h4:s=([99,117,112,115]:List UInt8)
     ·rw [if_pos h4];exact zV (Aq:=4) (.step (mT rfl h0 rfl) (.step (qE rfl h1 rfl) (.step (vB rfl h2 rfl) (.step (aDc rfl h3 rfl) (.exit (aZp rfl h4 rfl) (by simp))))))
     ·rw [if_neg h4];exact bXa (.step (mT rfl h0 rfl) (.step (qE rfl h1 rfl) (.step (vB rfl h2 rfl) (.step (aDc rfl h3 rfl) (.step (aZq rfl h4 rfl) (.exit (aNu rfl rfl) (by simp)))))))
end
section
variable {k e1 f1 kd l1 ln my B7 Ce Hs Cf Ht:Int}{i i':Nat}

noncomputable abbrev jJ:Code:=sub (cd Tryz.f90) [1,0,1,1,1,0,1,0,0]
theorem bFm:(decide ((0:Int)<3))=true:=by first | decide | simp
theorem bFn:(decide ((1:Int)<3))=true:=by first | decide | simp
theorem bFo:(decide ((2:Int)<3))=true:=by first | decide | simp
theorem bNh:(decide ((3:Int)<3))=false:=by first | decide | simp
theorem aQw:inR (1:Int):=by unfold inR;omega
theorem aQx:inR (2:Int):=by unfold inR;omega
theorem aQy:inR (3:Int):=by unfold inR;omega
theorem bFp:(decide ((0:Int)<4))=true:=by first | decide | simp
theorem bFq:(decide ((1:Int)<4))=true:=by first | decide | simp
theorem bFr:(decide ((2:Int)<4))=true:=by first | decide | simp
theorem aNn:inR (4:Int):=by unfold inR;omega
theorem bFs:((0:Int) == 0)=true:=by first | decide | simp
theorem bFt:((1:Int) == 1)=true:=by first | decide | simp
theorem bFu:((1:Int) == 0)=false:=by first | decide | simp
theorem bFv:((2:Int) == 2)=true:=by first | decide | simp
theorem bFw:((2:Int) == 1)=false:=by first | decide | simp
theorem bFx:((2:Int) == 0)=false:=by first | decide | simp
theorem bFy:((3:Int) == 2)=false:=by first | decide | simp
theorem bFz:((3:Int) == 1)=false:=by first | decide | simp
theorem bGa:((3:Int) == 0)=false:=by first | decide | simp
theorem bGb:(decide ((3:Int)<4))=true:=by first | decide | simp
def cX(fs:List (List UInt8))(ln k:Int)(R:List (List Cel))(i:Nat)(kd my l1 f1 e1:Int):St:=⟨fr 70 [(0,(.ptr 0 0)),(1,(.p (.sl fs.length ((fs.map stE).flatten)))),(2,(.fn 176 [] [(.ptr 2 0),(.ptr 3 0)])),(6,(pI 0)),(7,(.ptr 4 0)),(8,(pI kd)),(9,(pI my)),(13,(pI (i:Int)))],[some (.box 158 [(pI k),(.own 1),(pI l1),(pI f1),(pI e1)]),some (.row 78 R.length ((R.map rwE).flatten)),some (.box 156 [(.ptr 0 0)]),some (.box 3 [(pI ln)]),some (.box 207 [(.p (aD ([115,116,97,114,116,115]:List UInt8))),(.p (aD ([112,97,115,115,101,115]:List UInt8))),(.p (aD ([116,97,114,103,101,116,115]:List UInt8))),(.p (aD ([106,117,100,103,101,109,101,110,116,115]:List UInt8))),(.p (aD ([99,117,112,115]:List UInt8)))])]⟩
theorem pN{fs:List (List UInt8)}{l f e:Int}{R:List (List Cel)}{Aq:Nat}{Ja Kk l1'3 f1'4 e1'5 r0:Int}(Ay:aF Tp 4 jJ (cX fs ln k R 0 (-1) 0 l f e) (.exit 0) (cX fs ln k R Aq Ja Kk l1'3 f1'4 e1'5))(Am:r0=(if Ja > 0 then Ja else 0)):FMM Tp 90 [(.ptr 0 0),(.p (.sl fs.length ((fs.map stE).flatten))),(.fn 176 [] [(.ptr 2 0),(.ptr 3 0)])] [some (.box 158 [(pI k),(.own 1),(pI l),(pI f),(pI e)]),some (.row 78 R.length ((R.map rwE).flatten)),some (.box 156 [(.ptr 0 0)]),some (.box 3 [(pI ln)])] (pI Kk) [some (.box 158 [(pI r0),(.own 1),(pI l1'3),(pI f1'4),(pI e1'5)]),some (.row 78 R.length ((R.map rwE).flatten)),some (.box 156 [(.ptr 0 0)]),some (.box 3 [(pI ln)])]:=by
 subst Am;have k1:=fk 4 (jQ) rfl;exact FMM.fi 4 gE func90 [k1.o,Ay.k 7 (gI ba [4])] (gc Ay.code (gc k1 gn))
theorem aZf{fs:List (List UInt8)}{R:List (List Cel)}(Av:i=0)(h1:(fs.length:Int)≤0)(Ai:i'=0)(A9:Cf=((aR ln 1 11 (l1,f1,e1)).1))(Ba:Ce=((aR ln 1 11 (l1,f1,e1)).2.1))(Bb:B7=((aR ln 1 11 (l1,f1,e1)).2.2)):aA Tp 4 jJ (cX fs ln k R i kd my l1 f1 e1) (.exit 0) (cX fs ln k R i' kd my Cf Ce B7):=by
 subst Av;subst Ai A9 Ba Bb;have k1:=mq ca 5 (cN 1 11 ln k l1 f1 e1 R);exact aA.fi (gI ba [4]) (rT 7++[k1.o]) (gc k1 (gc aQw (gc (kT h1) (Cr bFm (gc bFp gn)))))
section
variable{fs:List (List UInt8)}{Aa:List UInt8}(Av:i=0)(h1:(0:Int)<(fs.length:Int))(h2:fs[0]? = some (Aa))
include Av h1 h2
theorem aZg{R:List (List Cel)}(h3:Aa≠([107,108,105,115,116,101,114]:List UInt8))(h4:((aR ln 1 11 (l1,f1,e1)).2.2)≠0)(Ai:i'=0)(A9:Cf=((aR ln 1 11 (l1,f1,e1)).1))(Ba:Ce=((aR ln 1 11 (l1,f1,e1)).2.1))(Bb:B7=((aR ln 1 11 (l1,f1,e1)).2.2)):aA Tp 4 jJ (cX fs ln k R i kd my l1 f1 e1) (.exit 0) (cX fs ln k R i' kd my Cf Ce B7):=by
 subst Av;subst Ai A9 Ba Bb;have k1:=mq ca 5 (cN 1 11 ln k l1 f1 e1 R);exact aA.fi (gI ba [4]) (rT 6++[bF,bT,.x (aD Aa),bT,k1.o,bT]) (gc (cY (bI h4)) (gc k1 (gc aQw (gc (cY (decide_eq_false h3)) (gt (((fs.map stE).flatten)[0]? = some (aD Aa)) (aN (E:=stE) (i:=0) (f:=0) (k:=1) (fun _=>rfl) h2 rfl) (gc (bD (E:=stE) (k:=1) (i:=(0:Int)) (fun _=>rfl) (by decide) (by first | decide | simp) h2) (gc bFs (gc (fA h1) (Cr bFm (gc bFp gn))))))))))
theorem aZh{R:List (List Cel)}(h3:Aa=([107,108,105,115,116,101,114]:List UInt8))(h4:((aR ln 1 0 (l1,f1,e1)).2.2)=0)(Ai:i'=1)(A9:Cf=((aR ln 1 0 (l1,f1,e1)).1))(Ba:Ce=((aR ln 1 0 (l1,f1,e1)).2.1))(Bb:B7=((aR ln 1 0 (l1,f1,e1)).2.2)):aA Tp 4 jJ (cX fs ln k R i kd my l1 f1 e1) .normal (cX fs ln k R i' kd my Cf Ce B7):=by
 subst Av;subst Ai A9 Ba Bb;have k1:=mq ca 5 (cN 1 0 ln k l1 f1 e1 R);exact aA.fi (gI ba [4]) (rT 6++[bF,bT,.x (aD Aa),bF,k1.o,bF]) (gc aQw (gc (aV (dG h4)) (gc k1 (gc aQw (gc (aV (decide_eq_true h3)) (gt (((fs.map stE).flatten)[0]? = some (aD Aa)) (aN (E:=stE) (i:=0) (f:=0) (k:=1) (fun _=>rfl) h2 rfl) (gc (bD (E:=stE) (k:=1) (i:=(0:Int)) (fun _=>rfl) (by decide) (by first | decide | simp) h2) (gc bFs (gc (fA h1) (Cr bFm (gc bFp gn)))))))))))
end
theorem aZi{fs:List (List UInt8)}{R:List (List Cel)}(Av:i=1)(h1:(fs.length:Int)≤1)(Ai:i'=1)(A9:Cf=((aR ln 2 11 (l1,f1,e1)).1))(Ba:Ce=((aR ln 2 11 (l1,f1,e1)).2.1))(Bb:B7=((aR ln 2 11 (l1,f1,e1)).2.2)):aA Tp 4 jJ (cX fs ln k R i kd my l1 f1 e1) (.exit 0) (cX fs ln k R i' kd my Cf Ce B7):=by
 subst Av;subst Ai A9 Ba Bb;have k1:=mq ca 5 (cN 2 11 ln k l1 f1 e1 R);exact aA.fi (gI ba [4]) (rT 7++[k1.o]) (gc k1 (gc aQx (gc (kT h1) (Cr bFn (gc bFq gn)))))
section
variable{fs:List (List UInt8)}{Aa:List UInt8}(Av:i=1)(h1:(1:Int)<(fs.length:Int))(h2:fs[1]? = some (Aa))
include Av h1 h2
theorem aZj{R:List (List Cel)}(h3:(eW Aa)<0)(h4:((aR ln 2 12 (l1,f1,e1)).2.2)≠0)(Ai:i'=1)(F3:Hs=(eW Aa))(A9:Cf=((aR ln 2 12 (l1,f1,e1)).1))(Ba:Ce=((aR ln 2 12 (l1,f1,e1)).2.1))(Bb:B7=((aR ln 2 12 (l1,f1,e1)).2.2)):aA Tp 4 jJ (cX fs ln k R i kd my l1 f1 e1) (.exit 0) (cX fs ln k R i' Hs my Cf Ce B7):=by
 subst Av;subst Ai F3 A9 Ba Bb;have k1:=mq [4] 5 (bGd Aa);have k2:=mq ca 5 (cN 2 12 ln k l1 f1 e1 R);exact aA.fi (gI ba [4]) (rT 6++[bF,bF,bT,.x (aD Aa),k1.o,bT,k2.o,bT]) (gc (cY (bI h4)) (gc k2 (gc aQx (gc (bX h3) (gc k1 (gt (((fs.map stE).flatten)[1]? = some (aD Aa)) (aN (E:=stE) (i:=1) (f:=0) (k:=1) (fun _=>rfl) h2 rfl) (gc (bD (E:=stE) (k:=1) (i:=(1:Int)) (fun _=>rfl) (by decide) (by first | decide | simp) h2) (gt (0≤(0:Int)∧(0:Int)≤5∧(5:Int)≤5∧5≤maxLen) (by unfold maxLen;omega) (gc bFt (gc bFu (gc (fA h1) (Cr bFn (gc bFq gn)))))))))))))
theorem aZk{R:List (List Cel)}(h3:(0:Int)≤(eW Aa))(h4:((aR ln 2 0 (l1,f1,e1)).2.2)=0)(Ai:i'=2)(F3:Hs=(eW Aa))(A9:Cf=((aR ln 2 0 (l1,f1,e1)).1))(Ba:Ce=((aR ln 2 0 (l1,f1,e1)).2.1))(Bb:B7=((aR ln 2 0 (l1,f1,e1)).2.2)):aA Tp 4 jJ (cX fs ln k R i kd my l1 f1 e1) .normal (cX fs ln k R i' Hs my Cf Ce B7):=by
 subst Av;subst Ai F3 A9 Ba Bb;have k1:=mq [4] 5 (bGd Aa);have k2:=mq ca 5 (cN 2 0 ln k l1 f1 e1 R);exact aA.fi (gI ba [4]) (rT 6++[bF,bF,bT,.x (aD Aa),k1.o,bF,k2.o,bF]) (gc aQx (gc (aV (dG h4)) (gc k2 (gc aQx (gc (aO h3) (gc k1 (gt (((fs.map stE).flatten)[1]? = some (aD Aa)) (aN (E:=stE) (i:=1) (f:=0) (k:=1) (fun _=>rfl) h2 rfl) (gc (bD (E:=stE) (k:=1) (i:=(1:Int)) (fun _=>rfl) (by decide) (by first | decide | simp) h2) (gt (0≤(0:Int)∧(0:Int)≤5∧(5:Int)≤5∧5≤maxLen) (by unfold maxLen;omega) (gc bFt (gc bFu (gc (fA h1) (Cr bFn (gc bFq gn))))))))))))))
end
theorem aNo{fs:List (List UInt8)}{R:List (List Cel)}(Av:i=2)(h1:(fs.length:Int)≤2)(Ai:i'=2)(A9:Cf=((aR ln 3 11 (l1,f1,e1)).1))(Ba:Ce=((aR ln 3 11 (l1,f1,e1)).2.1))(Bb:B7=((aR ln 3 11 (l1,f1,e1)).2.2)):aA Tp 4 jJ (cX fs ln k R i kd my l1 f1 e1) (.exit 0) (cX fs ln k R i' kd my Cf Ce B7):=by
 subst Av;subst Ai A9 Ba Bb;have k1:=mq ca 5 (cN 3 11 ln k l1 f1 e1 R);exact aA.fi (gI ba [4]) (rT 7++[k1.o]) (gc k1 (gc aQy (gc (kT h1) (Cr bFo (gc bFr gn)))))
section
variable{fs:List (List UInt8)}{Aa:List UInt8}(Av:i=2)(h1:(2:Int)<(fs.length:Int))(h2:fs[2]? = some (Aa))(h3:0≤(200:Int)∧(200:Int)≤1000000000)
include Av h1 h2 h3
theorem aNp{R:List (List Cel)}(h4:((aR ln 3 ((bL Aa 200).2) (l1,f1,e1)).2.2)≠0)(Ai:i'=2)(Fz:Ht=((bL Aa 200).1))(A9:Cf=((aR ln 3 ((bL Aa 200).2) (l1,f1,e1)).1))(Ba:Ce=((aR ln 3 ((bL Aa 200).2) (l1,f1,e1)).2.1))(Bb:B7=((aR ln 3 ((bL Aa 200).2) (l1,f1,e1)).2.2)):aA Tp 4 jJ (cX fs ln k R i kd my l1 f1 e1) (.exit 0) (cX fs ln k R i' kd Ht Cf Ce B7):=by
 subst Av;subst Ai Fz A9 Ba Bb;have k1:=fk 5 (fT Aa 200 h3) rfl;have k2:=mq ca 5 (cN 3 ((bL Aa 200).2) ln k l1 f1 e1 R);exact aA.fi (gI ba [4]) (rT 6++[bF,bF,bF,bT,.x (aD Aa),k1.o,k2.o,bT]) (gc (cY (bI h4)) (gc k2 (gc aQy (gc k1 (gt (((fs.map stE).flatten)[2]? = some (aD Aa)) (aN (E:=stE) (i:=2) (f:=0) (k:=1) (fun _=>rfl) h2 rfl) (gc (bD (E:=stE) (k:=1) (i:=(2:Int)) (fun _=>rfl) (by decide) (by first | decide | simp) h2) (gc bFv (gc bFw (gc bFx (gc (fA h1) (Cr bFo (gc bFr gn))))))))))))
theorem aNq{R:List (List Cel)}(h4:((aR ln 3 ((bL Aa 200).2) (l1,f1,e1)).2.2)=0)(Ai:i'=3)(Fz:Ht=((bL Aa 200).1))(A9:Cf=((aR ln 3 ((bL Aa 200).2) (l1,f1,e1)).1))(Ba:Ce=((aR ln 3 ((bL Aa 200).2) (l1,f1,e1)).2.1))(Bb:B7=((aR ln 3 ((bL Aa 200).2) (l1,f1,e1)).2.2)):aA Tp 4 jJ (cX fs ln k R i kd my l1 f1 e1) .normal (cX fs ln k R i' kd Ht Cf Ce B7):=by
 subst Av;subst Ai Fz A9 Ba Bb;have k1:=fk 5 (fT Aa 200 h3) rfl;have k2:=mq ca 5 (cN 3 ((bL Aa 200).2) ln k l1 f1 e1 R);exact aA.fi (gI ba [4]) (rT 6++[bF,bF,bF,bT,.x (aD Aa),k1.o,k2.o,bF]) (gc aQy (gc (aV (dG h4)) (gc k2 (gc aQy (gc k1 (gt (((fs.map stE).flatten)[2]? = some (aD Aa)) (aN (E:=stE) (i:=2) (f:=0) (k:=1) (fun _=>rfl) h2 rfl) (gc (bD (E:=stE) (k:=1) (i:=(2:Int)) (fun _=>rfl) (by decide) (by first | decide | simp) h2) (gc bFv (gc bFw (gc bFx (gc (fA h1) (Cr bFo (gc bFr gn)))))))))))))
end
theorem aNr{fs:List (List UInt8)}{R:List (List Cel)}(Av:i=3)(h1:(3:Int)<(fs.length:Int))(h2:((aR ln 4 11 (l1,f1,e1)).2.2)≠0)(Ai:i'=3)(A9:Cf=((aR ln 4 11 (l1,f1,e1)).1))(Ba:Ce=((aR ln 4 11 (l1,f1,e1)).2.1))(Bb:B7=((aR ln 4 11 (l1,f1,e1)).2.2)):aA Tp 4 jJ (cX fs ln k R i kd my l1 f1 e1) (.exit 0) (cX fs ln k R i' kd my Cf Ce B7):=by
 subst Av;subst Ai A9 Ba Bb;have k1:=mq ca 5 (cN 4 11 ln k l1 f1 e1 R);exact aA.fi (gI ba [4]) ([bT]++rF 8++[bT,k1.o,bT]) (gc (cY (bI h2)) (gc k1 (gc aNn (gc (bX h1) (gc bFy (gc bFz (gc bGa (Cr bNh (gc bGb gn)))))))))
theorem aNs{fs:List (List UInt8)}{R:List (List Cel)}(Av:i=3)(h1:(fs.length:Int)≤3)(h2:((aR ln 4 0 (l1,f1,e1)).2.2)=0)(Ai:i'=4)(A9:Cf=((aR ln 4 0 (l1,f1,e1)).1))(Ba:Ce=((aR ln 4 0 (l1,f1,e1)).2.1))(Bb:B7=((aR ln 4 0 (l1,f1,e1)).2.2)):aA Tp 4 jJ (cX fs ln k R i kd my l1 f1 e1) .normal (cX fs ln k R i' kd my Cf Ce B7):=by
 subst Av;subst Ai A9 Ba Bb;have k1:=mq ca 5 (cN 4 0 ln k l1 f1 e1 R);exact aA.fi (gI ba [4]) ([bT]++rF 9++[k1.o,bF]) (gc aNn (gc (aV (dG h2)) (gc k1 (gc aNn (gc (aO h1) (gc bFy (gc bFz (gc bGa (Cr bNh (gc bGb gn))))))))))
theorem aNt{fs:List (List UInt8)}{R:List (List Cel)}(Av:i=4)(Ai:i'=4):aA Tp 4 jJ (cX fs ln k R i kd my l1 f1 e1) (.exit 0) (cX fs ln k R i' kd my l1 f1 e1):=by
 subst Av;subst Ai;exact aA.fi (gI ba [4]) [bF] (gt ((decide ((4:Int)<4))=false) (by first | decide | simp) gn)
def fld(fs:List (List UInt8))(j:Nat):List UInt8:=(fs[j]?).getD []
theorem zU{fs:List (List UInt8)}{j:Nat}(h:j<fs.length):fs[j]? = some (fld fs j):=by
 unfold fld;rw [Ca h];rfl
def hdM(fs:List (List UInt8)):Int × Int × Int × Int :=
 if fs.length=0∨fld fs 0≠[107,108,105,115,116,101,114] then (-1,0,1,11)
 else if fs.length=1 then (-1,0,2,11)
 else if eW (fld fs 1)<0 then (eW (fld fs 1),0,2,12)
 else if fs.length=2 then (eW (fld fs 1),0,3,11)
 else if (bL (fld fs 2) 200).2≠0 then (eW (fld fs 1),(bL (fld fs 2) 200).1,3,(bL (fld fs 2) 200).2)
 else if 3<fs.length then (eW (fld fs 1),(bL (fld fs 2) 200).1,4,11)
 else (eW (fld fs 1),(bL (fld fs 2) 200).1,0,0)
theorem Ia(ln fd l f:Int):aR ln fd 0 (l,f,0)=(l,f,0):=rfl
theorem Ek{er:Int}(ln fd l f:Int)(h:er≠0):aR ln fd er (l,f,0)=(ln,fd,er):=if_pos ⟨rfl,h⟩
def D7(k:Int):Int:=if k > 0 then k else 0
theorem bGc (fs:List (List UInt8)) (ln k l f:Int) (R:List (List Cel)):FMM Tp 90 [.ptr 0 0,.p (.sl fs.length ((fs.map stE).flatten)),.fn 176 [] [.ptr 2 0,.ptr 3 0]] [some (.box 158 [(pI k),(.own 1),(pI l),(pI f),(pI 0)]),some (.row 78 R.length ((R.map rwE).flatten)),some (.box 156 [(.ptr 0 0)]),some (.box 3 [(pI ln)])]
  (.p (aB (hdM fs).2.1)) [some (.box 158 [(pI (D7 (hdM fs).1)),(.own 1),(pI ((aR ln (hdM fs).2.2.1 (hdM fs).2.2.2 (l,f,0)).1)),(pI ((aR ln (hdM fs).2.2.1 (hdM fs).2.2.2 (l,f,0)).2.1)),(pI ((aR ln (hdM fs).2.2.1 (hdM fs).2.2.2 (l,f,0)).2.2))]),some (.row 78 R.length ((R.map rwE).flatten)),some (.box 156 [(.ptr 0 0)]),some (.box 3 [(pI ln)])]:=by
 have t1:∀ fd er,er≠0→aR ln fd er (l,f,0)=(ln,fd,er):=fun fd er h=>Ek ln fd l f h
 have a0:∀ fd,l=(aR ln fd 0 (l,f,0)).1:=fun _=>rfl
 unfold hdM
 by_cases h0:fs.length=0
 ·rw [if_pos (.inl h0)]
  exact pN (.exit (aZf rfl (by omega) rfl rfl rfl rfl) (by simp)) rfl
 ·have f0:=zU (fs:=fs) (j:=0) (by omega)
  by_cases h1:fld fs 0=[107,108,105,115,116,101,114]
  ·rw [if_neg (by simp [h0,h1])]
   have s0:aA Tp 4 jJ (cX fs ln k R 0 (-1) 0 l f 0) .normal (cX fs ln k R 1 (-1) 0 l f 0):=aZh rfl (by omega) f0 h1 rfl rfl rfl rfl rfl
   by_cases h2:fs.length=1
   ·rw [if_pos h2]
    exact pN (.step s0 (.exit (aZi rfl (by omega) rfl rfl rfl rfl) (by simp))) rfl
   ·rw [if_neg h2]
    have f1:=zU (fs:=fs) (j:=1) (by omega)
    by_cases h3:eW (fld fs 1)<0
    ·rw [if_pos h3]
     exact pN (.step s0 (.exit (aZj rfl (by omega) f1 h3 (by rw [t1 _ _ (by decide)];simp) rfl rfl rfl rfl rfl) (by simp))) rfl
    ·rw [if_neg h3]
     have s1:aA Tp 4 jJ (cX fs ln k R 1 (-1) 0 l f 0) .normal (cX fs ln k R 2 (eW (fld fs 1)) 0 l f 0):=aZk rfl (by omega) f1 (by omega) rfl rfl rfl rfl rfl rfl
     by_cases h4:fs.length=2
     ·rw [if_pos h4]
      exact pN (.step s0 (.step s1 (.exit (aNo rfl (by omega) rfl rfl rfl rfl) (by simp)))) rfl
     ·rw [if_neg h4]
      have f2:=zU (fs:=fs) (j:=2) (by omega)
      by_cases h5:(bL (fld fs 2) 200).2=0
      ·rw [if_neg (by simp [h5])]
       have s2:aA Tp 4 jJ (cX fs ln k R 2 (eW (fld fs 1)) 0 l f 0) .normal (cX fs ln k R 3 (eW (fld fs 1)) (bL (fld fs 2) 200).1 l f 0):=aNq rfl (by omega) f2 (by omega) (by rw [h5];rfl) rfl rfl (by rw [h5];rfl) (by rw [h5];rfl) (by rw [h5];rfl)
       by_cases h6:3<fs.length
       ·rw [if_pos h6]
        exact pN (.step s0 (.step s1 (.step s2 (.exit (aNr rfl (by omega) (by rw [t1 _ _ (by decide)];simp) rfl rfl rfl rfl) (by simp))))) rfl
       ·rw [if_neg h6]
        have s3:aA Tp 4 jJ (cX fs ln k R 3 (eW (fld fs 1)) (bL (fld fs 2) 200).1 l f 0) .normal (cX fs ln k R 4 (eW (fld fs 1)) (bL (fld fs 2) 200).1 l f 0):=aNs rfl (by omega) rfl rfl rfl rfl rfl
        exact pN (.step s0 (.step s1 (.step s2 (.step s3 (.exit (aNt rfl rfl) (by simp)))))) rfl
      ·rw [if_pos h5]
       have e:=t1 3 _ h5;have:=pN (fs:=fs) (ln:=ln) (k:=k) (l:=l) (f:=f) (e:=0) (R:=R) (.step s0 (.step s1 (.exit (aNp rfl (by omega) f2 (by omega) (by rw [e];exact h5) rfl rfl rfl rfl rfl) (by simp)))) rfl
       rw [e] at this
       have e2:=t1 3 _ h5;dsimp only at this ⊢
       rw [e2];exact this
  ·rw [if_pos (.inr h1)]
   exact pN (.exit (aZg rfl (by omega) f0 h1 (by rw [t1 _ _ (by decide)];simp) rfl rfl rfl rfl) (by simp)) rfl
end
end KV
end Go.Proofs
