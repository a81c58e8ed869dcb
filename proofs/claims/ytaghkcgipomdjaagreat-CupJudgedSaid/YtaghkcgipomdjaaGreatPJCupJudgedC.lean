/- Parts of the proof of JCupJudged: laws of walks, contracts of functions, plain models. No condition. -/
import Derived.Maps.Keyed
import Derived.Maps.AppendAt
import Derived.OrdersHeld
import Derived.Great.BuildSlice
import Derived.Lib.Small
import Derived.Below
import Derived.RangeFuncNested
import Derived.RangeFuncLeaves
import Derived.Shelf.Abstract
import Derived.OwnWalkIn
import Derived.TacticsInMore
import Derived.LoopNIn
import Derived.LoopIn
import Derived.OrdersIn
import Derived.Deep.WholeRow
import Derived.Test.YtaghkcgipomdjaaGreatPJCupJudgedB
set_option linter.unusedVariables false
set_option linter.unusedSimpArgs false
set_option maxRecDepth 100000
namespace Go.Proofs
namespace KV
open Tryz
section
variable {j n mx nx r0 r1 r2 st tt x0:Int}{l o o':List Int}{i:Nat}

noncomputable abbrev aZx:Code:=sub (cd Tryz.f37) [1,1,0,1,0,0]
noncomputable abbrev aZy:Code:=sub (cd Tryz.f37) [1,1,1,0,1,0,0]
theorem bMm:(65519:Int)≠0:=by first | decide | simp
abbrev cT(n:Int):PV := .v (.int .u8 n)
theorem bSk(h0:n≤1):FMM Tp 30 [(.ptr 0 0),(pI n)] [some (.box 96 [(.p (.sl l.length (l.map cT))),(pI nx),(.p (.v (.int .u32 st)))])] (pI 0) [some (.box 96 [(.p (.sl l.length (l.map cT))),(pI nx),(.p (.v (.int .u32 st)))])]:=FMM.fi 1 gE func30 (rT 7) (Ea (uD h0) gn)
theorem bSl(h0:(1:Int)<n)(h1:(l.length:Int)=0):FMM Tp 30 [(.ptr 0 0),(pI n)] [some (.box 96 [(.p (.sl l.length (l.map cT))),(pI nx),(.p (.v (.int .u32 st)))])] (pI 0) [some (.box 96 [(.p (.sl l.length (l.map cT))),(pI nx),(.p (.v (.int .u32 st)))])]:=FMM.fi 1 gE func30 (rF 7++[bT]) (gc (cF h1) (Ea (jZ h0) gn))
theorem bSm(h0:(1:Int)<n)(h1 h2:(l.length:Int)≠0)(h3:l[(nx.tmod (l.length:Int)).toNat]? = some x0)(h4:0≤(nx.tmod (l.length:Int)))(h5:inR (nx.tdiv (l.length:Int)))(h6:inR (nx+1))(h7:(IntKind.wrap .u32 (nx.tdiv (l.length:Int)))=0)(h8:n≤256)(h9:inR (IntKind.wrap .u32 x0))(A5:n≠0)(Ak:r0=((IntKind.wrap .u32 x0).tmod n))(I2:r1=(nx+1))(I3:r2=((IntKind.wrap .u32 ((IntKind.wrap .u32 ((IntKind.wrap .u32 ((IntKind.wrap .u32 (st*45))+(IntKind.wrap .u32 x0)))+(IntKind.wrap .u32 ((77:Int)*(IntKind.wrap .u32 (nx.tdiv (l.length:Int)))))))+1)).tmod 65519)):FMM Tp 30 [(.ptr 0 0),(pI n)] [some (.box 96 [(.p (.sl l.length (l.map cT))),(pI nx),(.p (.v (.int .u32 st)))])] (pI r0) [some (.box 96 [(.p (.sl l.length (l.map cT))),(pI r1),(.p (.v (.int .u32 r2)))])]:=by
 subst Ak I2 I3;exact FMM.fi 1 gE func30 (rF 8++[.x (.v (.int .u8 x0)),bT,bT,bT,bT]) (gc A5 (gc h9 (gc (uD h8) (Aq (cF h7) (gc bMm (gc h6 (gc h5 (gc h2 (gt ((l.map cT)[((nx.tmod (l.length:Int)).toNat*1)]? = some (.v (.int .u8 x0))) (cE (i:=(nx.tmod (l.length:Int)).toNat) h3) (gc (gQ (g:=cT) h4 h3) (gc h2 (gc (bK h1) (Ea (jZ h0) gn)))))))))))))
theorem bSn(h0:(1:Int)<n)(h1 h2:(l.length:Int)≠0)(h3:l[(nx.tmod (l.length:Int)).toNat]? = some x0)(h4:0≤(nx.tmod (l.length:Int)))(h5:inR (nx.tdiv (l.length:Int)))(h6:inR (nx+1))(h7:(IntKind.wrap .u32 (nx.tdiv (l.length:Int)))=0)(h8:(256:Int)<n)(h9:inR (IntKind.wrap .u32 ((IntKind.wrap .u32 (((IntKind.wrap .u32 ((IntKind.wrap .u32 ((IntKind.wrap .u32 ((IntKind.wrap .u32 (st*45))+(IntKind.wrap .u32 x0)))+(IntKind.wrap .u32 ((77:Int)*(IntKind.wrap .u32 (nx.tdiv (l.length:Int)))))))+1)).tmod 65519)*256))+(IntKind.wrap .u32 x0))))(A5:n≠0)(Ak:r0=((IntKind.wrap .u32 ((IntKind.wrap .u32 (((IntKind.wrap .u32 ((IntKind.wrap .u32 ((IntKind.wrap .u32 ((IntKind.wrap .u32 (st*45))+(IntKind.wrap .u32 x0)))+(IntKind.wrap .u32 ((77:Int)*(IntKind.wrap .u32 (nx.tdiv (l.length:Int)))))))+1)).tmod 65519)*256))+(IntKind.wrap .u32 x0))).tmod n))(I2:r1=(nx+1))(I3:r2=((IntKind.wrap .u32 ((IntKind.wrap .u32 ((IntKind.wrap .u32 ((IntKind.wrap .u32 (st*45))+(IntKind.wrap .u32 x0)))+(IntKind.wrap .u32 ((77:Int)*(IntKind.wrap .u32 (nx.tdiv (l.length:Int)))))))+1)).tmod 65519)):FMM Tp 30 [(.ptr 0 0),(pI n)] [some (.box 96 [(.p (.sl l.length (l.map cT))),(pI nx),(.p (.v (.int .u32 st)))])] (pI r0) [some (.box 96 [(.p (.sl l.length (l.map cT))),(pI r1),(.p (.v (.int .u32 r2)))])]:=by
 subst Ak I2 I3;exact FMM.fi 1 gE func30 (rF 8++[.x (.v (.int .u8 x0)),bT,bT,bT,bF]) (gc A5 (gc h9 (gc (jZ h8) (Aq (cF h7) (gc bMm (gc h6 (gc h5 (gc h2 (gt ((l.map cT)[((nx.tmod (l.length:Int)).toNat*1)]? = some (.v (.int .u8 x0))) (cE (i:=(nx.tmod (l.length:Int)).toNat) h3) (gc (gQ (g:=cT) h4 h3) (gc h2 (gc (bK h1) (Ea (jZ h0) gn)))))))))))))
theorem bSo(h0:(1:Int)<n)(h1 h2:(l.length:Int)≠0)(h3:l[(nx.tmod (l.length:Int)).toNat]? = some x0)(h4:0≤(nx.tmod (l.length:Int)))(h5:inR (nx.tdiv (l.length:Int)))(h6:inR (nx+1))(h7:(IntKind.wrap .u32 (nx.tdiv (l.length:Int)))≠0)(h8:inR (IntKind.wrap .u32 ((IntKind.wrap .u32 (((IntKind.wrap .u32 ((IntKind.wrap .u32 ((IntKind.wrap .u32 ((IntKind.wrap .u32 (st*45))+(IntKind.wrap .u32 x0)))+(IntKind.wrap .u32 ((77:Int)*(IntKind.wrap .u32 (nx.tdiv (l.length:Int)))))))+1)).tmod 65519)*256))+(IntKind.wrap .u32 x0))))(h9:n≠0)(Ak:r0=((IntKind.wrap .u32 ((IntKind.wrap .u32 (((IntKind.wrap .u32 ((IntKind.wrap .u32 ((IntKind.wrap .u32 ((IntKind.wrap .u32 (st*45))+(IntKind.wrap .u32 x0)))+(IntKind.wrap .u32 ((77:Int)*(IntKind.wrap .u32 (nx.tdiv (l.length:Int)))))))+1)).tmod 65519)*256))+(IntKind.wrap .u32 x0))).tmod n))(I2:r1=(nx+1))(I3:r2=((IntKind.wrap .u32 ((IntKind.wrap .u32 ((IntKind.wrap .u32 ((IntKind.wrap .u32 (st*45))+(IntKind.wrap .u32 x0)))+(IntKind.wrap .u32 ((77:Int)*(IntKind.wrap .u32 (nx.tdiv (l.length:Int)))))))+1)).tmod 65519)):FMM Tp 30 [(.ptr 0 0),(pI n)] [some (.box 96 [(.p (.sl l.length (l.map cT))),(pI nx),(.p (.v (.int .u32 st)))])] (pI r0) [some (.box 96 [(.p (.sl l.length (l.map cT))),(pI r1),(.p (.v (.int .u32 r2)))])]:=by
 subst Ak I2 I3;exact FMM.fi 1 gE func30 (rF 8++[.x (.v (.int .u8 x0)),bF,bF,bF]) (gc h9 (gc h8 (Aq (bK h7) (gc bMm (gc h6 (gc h5 (gc h2 (gt ((l.map cT)[((nx.tmod (l.length:Int)).toNat*1)]? = some (.v (.int .u8 x0))) (cE (i:=(nx.tmod (l.length:Int)).toNat) h3) (gc (gQ (g:=cT) h4 h3) (gc h2 (gc (bK h1) (Ea (jZ h0) gn))))))))))))
def Df(z:Int):Int:=IntKind.wrap .u32 z
theorem aKr(z:Int):0≤Df z∧Df z<4294967296:=by
 unfold Df IntKind.wrap;simp only [IntKind.bits,IntKind.signed,Bool.false_and,Bool.false_eq_true,if_false];omega
def aOz(l:List Int)(nx:Int):Int:=Df (l.getD (nx.tmod (l.length:Int)).toNat 0)
def bMn(l:List Int)(nx st:Int):Int:=(Df (Df (Df (Df (st*45)+aOz l nx)+Df (77*Df (nx.tdiv (l.length:Int))))+1)).tmod 65519
def bL(n:Int)(l:List Int)(nx st:Int):Int × Int × Int:=if n≤1∨l.length=0 then (0,nx,st) else
 (if Df (nx.tdiv (l.length:Int))=0∧n≤256 then (aOz l nx).tmod n else (Df (Df (bMn l nx st*256)+aOz l nx)).tmod n,nx+1,bMn l nx st)
theorem eT(n:Int)(l:List Int)(nx st:Int):0≤(bL n l nx st).1∧((bL n l nx st).1<n∨(bL n l nx st).1=0)∧nx≤(bL n l nx st).2.1∧(bL n l nx st).2.1≤nx+1:=by
 unfold bL
 split
 ·simp;omega
 ·rename_i h
  simp only [not_or] at h
  have h1:∀ z:Int,0≤z→0≤z.tmod n∧z.tmod n<n:=fun z hz=>⟨Int.tmod_nonneg n hz,Int.tmod_lt_of_pos z (by omega)⟩
  have h2:=(aKr (l.getD (nx.tmod (l.length:Int)).toNat 0)).1;have h3:=(aKr (Df (bMn l nx st*256)+aOz l nx)).1;dsimp only
  split
  ·have:=h1 _ h2;unfold aOz;omega
  ·have:=h1 _ h3;omega
abbrev fY(l:List Int)(nx st:Int):AO := .box 96 [.p (.sl l.length (l.map cT)),.p (aA nx),.p (.v (.int .u32 st))]
theorem aAv(n:Int)(l:List Int)(nx st:Int)(h:0≤nx∧nx≤1000000000):FMM Tp 30 [.ptr 0 0,.p (aA n)] [some (fY l nx st)] (.p (aA (bL n l nx st).1)) [some (fY l (bL n l nx st).2.1 (bL n l nx st).2.2)]:=by
 by_cases h1:n≤1
 ·have e:bL n l nx st=(0,nx,st):=by unfold bL;rw [if_pos (.inl h1)]
  rw [e];exact bSk h1
 ·by_cases h2:l.length=0
  ·have e:bL n l nx st=(0,nx,st):=by unfold bL;rw [if_pos (.inr h2)]
   rw [e];exact bSl (by omega) (by omega)
  ·have h0:0≤nx.tmod (l.length:Int)∧nx.tmod (l.length:Int)<(l.length:Int):=⟨Int.tmod_nonneg _ h.1,Int.tmod_lt_of_pos _ (by omega)⟩
   have hq:0≤nx.tdiv (l.length:Int)∧nx.tdiv (l.length:Int)≤nx:=⟨Int.tdiv_nonneg h.1 (by omega),Int.tdiv_le_self _ h.1⟩
   have hi:(nx.tmod (l.length:Int)).toNat<l.length:=by omega
   have hg:l[(nx.tmod (l.length:Int)).toNat]? = some (l.getD (nx.tmod (l.length:Int)).toNat 0):=by
    rw [An hi,Bj,An hi];rfl
   have hw:∀ z,inR (IntKind.wrap .u32 z):=fun z=>by have:=aKr z;unfold Df at this;unfold inR;omega
   unfold bL;rw [if_neg (by simp only [not_or];exact ⟨h1,h2⟩)]
   dsimp only
   by_cases h3:Df (nx.tdiv (l.length:Int))=0
   ·by_cases h4:n≤256
    ·rw [if_pos ⟨h3,h4⟩]
     exact bSm (by omega) (by omega) (by omega) hg h0.1 (by show _∧_;omega) (by show _∧_;omega) h3 h4 (hw _) (by omega) rfl rfl rfl
    ·rw [if_neg (fun h=>h4 h.2)]
     exact bSn (by omega) (by omega) (by omega) hg h0.1 (by show _∧_;omega) (by show _∧_;omega) h3 (by omega) (hw _) (by omega) rfl rfl rfl
   ·rw [if_neg (fun h=>h3 h.1)]
    exact bSo (by omega) (by omega) (by omega) hg h0.1 (by show _∧_;omega) (by show _∧_;omega) h3 (hw _) (by omega) rfl rfl rfl
theorem bSp{r0:Bool}(h0:0≤nx∧nx≤1000000000)(Ak:r0=(((bL n l nx st).1) == 0))(I2:r1=((bL n l nx st).2.1))(I3:r2=((bL n l nx st).2.2)):FMM Tp 15 [(.ptr 0 0),(pI n)] [some (.box 96 [(.p (.sl l.length (l.map cT))),(pI nx),(.p (.v (.int .u32 st)))])] (pB r0) [some (.box 96 [(.p (.sl l.length (l.map cT))),(pI r1),(.p (.v (.int .u32 r2)))])]:=by
 subst Ak I2 I3;have k1:=mq [0] 1 (aAv n l nx st h0);exact FMM.fi 1 gE func15 [k1.o] (gc k1 gn)
theorem bZd{lo hi:Int}(h0:inR (hi-lo))(h1:inR ((hi-lo)+1))(h2:0≤nx∧nx≤1000000000)(h3:inR (lo+((bL ((hi-lo)+1) l nx st).1)))(Ak:r0=(lo+((bL ((hi-lo)+1) l nx st).1)))(I2:r1=((bL ((hi-lo)+1) l nx st).2.1))(I3:r2=((bL ((hi-lo)+1) l nx st).2.2)):FMM Tp 9 [(.ptr 0 0),(pI lo),(pI hi)] [some (.box 96 [(.p (.sl l.length (l.map cT))),(pI nx),(.p (.v (.int .u32 st)))])] (pI r0) [some (.box 96 [(.p (.sl l.length (l.map cT))),(pI r1),(.p (.v (.int .u32 r2)))])]:=by
 subst Ak I2 I3;have k1:=mq [0] 1 (aAv ((hi-lo)+1) l nx st h2);exact FMM.fi 1 gE func9 [k1.o] (gc h3 (gc k1 (gc h1 (gc h0 gn))))
def pQ(n:Int)(l:List Int)(nx st:Int):Bool × Int × Int:=((bL n l nx st).1 == 0,(bL n l nx st).2)
theorem bSq(n:Int)(l:List Int)(nx st:Int)(h:0≤nx∧nx≤1000000000):FMM Tp 15 [.ptr 0 0,.p (aA n)] [some (fY l nx st)] (.p (blP (pQ n l nx st).1)) [some (fY l (pQ n l nx st).2.1 (pQ n l nx st).2.2)]:=bSp h rfl rfl rfl
theorem aPa(n:Int)(l:List Int)(nx st:Int):nx≤(pQ n l nx st).2.1∧(pQ n l nx st).2.1≤nx+1:=(eT n l nx st).2.2
def nH(lo hi:Int)(l:List Int)(nx st:Int):Int × Int × Int:=(lo+(bL (hi-lo+1) l nx st).1,(bL (hi-lo+1) l nx st).2)
theorem aAw(lo hi:Int)(l:List Int)(nx st:Int):lo≤(nH lo hi l nx st).1∧((nH lo hi l nx st).1≤hi∨(nH lo hi l nx st).1=lo)∧nx≤(nH lo hi l nx st).2.1∧(nH lo hi l nx st).2.1≤nx+1:=by
 have:=eT (hi-lo+1) l nx st;unfold nH;dsimp only;omega
theorem bZe(lo hi:Int)(l:List Int)(nx st:Int)(h:0≤nx∧nx≤1000000000)(hb:(-1000000≤lo∧lo≤1000000) ∧ -1000000≤hi∧hi≤1000000):FMM Tp 9 [.ptr 0 0,.p (aA lo),.p (aA hi)] [some (fY l nx st)] (.p (aA (nH lo hi l nx st).1)) [some (fY l (nH lo hi l nx st).2.1 (nH lo hi l nx st).2.2)]:=by
 have:=aAw lo hi l nx st;exact bZd (by show _∧_;omega) (by show _∧_;omega) h (show inR (nH lo hi l nx st).1 by unfold inR;omega) rfl rfl rfl
def mU(n:Int)(l:List Int)(nx st:Int)(i on:Nat)(oc:List PV):St:=⟨fr 45 [(0,(.ptr 0 0)),(4,(.p cX)),(5,(.own 1)),(10,(pI (if n > 0 then n else 0))),(11,(pI (i:Int)))],[some (.box 96 [(.p (.sl l.length (l.map cT))),(pI nx),(.p (.v (.int .u32 st)))]),some (.row 3 on oc)]⟩
def mV(l:List Int)(j:Int)(on:Nat)(oc:List PV)(mx tt:Int):St:=⟨fr 45 [(0,(.ptr 0 0)),(4,(.p cX)),(5,(.own 1)),(7,(pI j))],[some (.box 96 [(.p (.sl l.length (l.map cT))),(pI mx),(.p (.v (.int .u32 tt)))]),some (.row 3 on oc)]⟩
theorem aZz{Ar:Nat}{A3:List Int}{N0:Int}{N1:List Int}{Mg Mh:Int}(hl0:aE Tp 1 aZx (mU n l nx st 0 0 []) (.exit 0) (mU n l nx st Ar A3.length (A3.map aA)))(h1:inR ((A3.length:Int)-1))(Bo:aE Tp 1 aZy (mV l ((A3.length:Int)-1) A3.length (A3.map aA) nx st) (.exit 2) (mV l N0 N1.length (N1.map aA) Mg Mh)):FMM Tp 37 [(.ptr 0 0),(pI n)] [some (.box 96 [(.p (.sl l.length (l.map cT))),(pI nx),(.p (.v (.int .u32 st)))])] (.own 1) [some (.box 96 [(.p (.sl l.length (l.map cT))),(pI Mg),(.p (.v (.int .u32 Mh)))]),some (.row 3 N1.length (N1.map aA))]:=FMM.fi 1 ⟨[],[1],[],[]⟩ func37 [hl0.k 8 (gN [1,3,6,1,9,1,12,7] [1] [(5,3)]),Bo.k 4 (gI [1,3,6,1,8,36] [1])] (gc Bo.code (gc h1 (gc hl0.code gn)))
theorem aUe{i':Nat}(h0:(i:Int)<(if n > 0 then n else 0))(h1:[(aA (i:Int))].length=1*1∧o.length+1≤1000000)(h2:di i)(Ai:i'=(i+1))(B0:o'.length=(o.length+1))(B1:o'.map aA=((o.map aA)++[(aA (i:Int))])):aB Tp 1 aZx (mU n l nx st i o.length (o.map aA)) .normal (mU n l nx st i' o'.length (o'.map aA)):=by
 subst Ai;rw [B0,B1];exact aB.fi (gI [1,3,6,1,9,1,12,7] [3]) [bT] (gc h2 (gc h1 (g0 h0)))
theorem aUf(h0:(if n > 0 then n else 0)≤(i:Int)):aB Tp 1 aZx (mU n l nx st i o.length (o.map aA)) (.exit 0) (mU n l nx st i o.length (o.map aA)):=aB.fi (gI [1,3,6,1,9,1,12,7] [1]) [bF] (gc (aQ h0) gn)
theorem aUg{Ao Ax j' F7 Jw:Int}(h0:(0:Int)<j)(h1:inR (j+1))(h2:0≤mx∧mx≤1000000000)(h3:o[((bL (j+1) l mx tt).1).toNat]? = some Ao)(h4:0≤((bL (j+1) l mx tt).1))(h5:o[j.toNat]? = some Ax)(h6:0≤j)(h7:(j.toNat*1)<(o.map aA).length)(h8:0≤((bL (j+1) l mx tt).1)∧((bL (j+1) l mx tt).1)<(o.length:Int))(h9:(((bL (j+1) l mx tt).1).toNat*1)<((o.map aA).set (j.toNat*1) (aA Ao)).length)(A5:inR (j-1))(C6:j'=(j-1))(B0:o'.length=o.length)(B1:o'.map aA=(((o.map aA).set (j.toNat*1) (aA Ao)).set (((bL (j+1) l mx tt).1).toNat*1) (aA Ax)))(O8:F7=((bL (j+1) l mx tt).2.1))(O9:Jw=((bL (j+1) l mx tt).2.2)):aB Tp 1 aZy (mV l j o.length (o.map aA) mx tt) .normal (mV l j' o'.length (o'.map aA) F7 Jw):=by
 subst C6 O8 O9;have k1:=mq [0] 2 (aAv (j+1) l mx tt h2);rw [B0,B1];exact aB.fi (gI [1,3,6,1,8,36] [1]) [bT,k1.o,.x (aA Ao),.x (aA Ax)] (gc A5 (gc h9 (gc h8 (gc h7 (gc (aZ (i:=j) h6 h5) (gt ((o.map aA)[(j.toNat*1)]? = some (aA Ax)) (cE (i:=j.toNat) h5) (gc (aZ (i:=j) h6 h5) (gt ((o.map aA)[(((bL (j+1) l mx tt).1).toNat*1)]? = some (aA Ao)) (cE (i:=((bL (j+1) l mx tt).1).toNat) h3) (gc (aZ (i:=((bL (j+1) l mx tt).1)) h4 h3) (gc k1 (gc h1 (g0 h0))))))))))))
theorem aDf(h0:j≤0):aB Tp 1 aZy (mV l j o.length (o.map aA) mx tt) (.exit 2) (mV l j o.length (o.map aA) mx tt):=aB.fi (gI [1,3,6,1,8,36] [1]) [bF] (gc (aQ h0) gn)
def aDg(o:List Int)(i k:Nat):List Int:=(o.set i (o.getD k 0)).set k (o.getD i 0)
theorem aDh(o:List Int){i k:Nat}(hi:i<o.length)(hk:k<o.length):(aDg o i k).Perm o:=by
 rw [List.perm_iff_count];intro x;unfold aDg;rw [List.count_set (by simpa using hk),List.count_set hi]
 simp only [oG,Bj,An hi,An hk,Option.getD_some];have h1:∀ (j:Nat) (h:j<o.length),(o[j] == x)=true→0<List.count x o:=fun j h hx=>List.count_pos_iff.2 (by rw [← beq_iff_eq.1 hx];exact eE h)
 have a1:=h1 i hi;have a2:=h1 k hk
 by_cases hik:i=k
 ·subst hik
  simp only [if_pos rfl]
  by_cases hx:(o[i] == x)=true
  ·have:=a1 hx;simp only [hx,if_true];omega
  ·have G4:¬ o[i]=x:=by simpa using hx
   simp [G4]
 ·rw [if_neg hik]
  by_cases hx:(o[i] == x)=true <;> by_cases hy:(o[k] == x)=true
  ·have:=a1 hx;simp only [hx,hy,if_true];omega
  ·have:=a1 hx;simp only [hx,hy,if_true,if_false];simp;omega
  ·have:=a2 hy;simp only [hx,hy,if_true,if_false];simp
  ·simp only [hx,hy,if_false];simp
def oH(l:List Int):Nat→List Int→Int→Int→List Int × Int × Int
 | 0,o,nx,st=>(o,nx,st)
 | j+1,o,nx,st=>oH l j (aDg o (j+1) (bL ((j:Int)+1+1) l nx st).1.toNat) (bL ((j:Int)+1+1) l nx st).2.1 (bL ((j:Int)+1+1) l nx st).2.2
def upL(n:Nat):List Int:=(List.range n).map fun (i:Nat)=>(i:Int)
def qW(n:Int)(l:List Int)(nx st:Int):List Int × Int × Int:=oH l (n.toNat-1) (upL n.toNat) nx st
theorem aDi(l:List Int):∀ (j:Nat) (o:List Int) (nx st:Int),j<o.length∨j=0→(oH l j o nx st).1.Perm o∧nx≤(oH l j o nx st).2.1∧(oH l j o nx st).2.1≤nx+j
 | 0,o,nx,st,_=>by unfold oH;exact ⟨.refl _,by simp,by simp⟩
 | j+1,o,nx,st,h=>by
  have hb:=eT ((j:Int)+1+1) l nx st;have hs:=aDh o (i:=j+1) (k:=(bL ((j:Int)+1+1) l nx st).1.toNat) (by omega) (by omega)
  have hl:=hs.length_eq;have ih:=aDi l j (aDg o (j+1) (bL ((j:Int)+1+1) l nx st).1.toNat) (bL ((j:Int)+1+1) l nx st).2.1 (bL ((j:Int)+1+1) l nx st).2.2 (by omega)
  unfold oH;exact ⟨ih.1.trans hs,by omega,by omega⟩
theorem aIf(l:List Int)(Td Te:Int):∀ (j:Nat) (o:List Int) (nx st:Int),j<o.length∨j=0→0≤nx→nx+j≤1000000000→o.length≤1000 →
  ∃ j',aE Tp 1 aZy (mV l (j:Int) o.length (o.map aA) nx st) (.exit 2) (mV l j' (oH l j o nx st).1.length ((oH l j o nx st).1.map aA) (oH l j o nx st).2.1 (oH l j o nx st).2.2)
 | 0,o,nx,st,_,_,_,_=>by unfold oH;exact ⟨0,.exit (aDf (by omega)) (by simp)⟩
 | j+1,o,nx,st,h,h0,h1,h2=>by
  have hb:=eT ((j:Int)+1+1) l nx st;have hk:(bL ((j:Int)+1+1) l nx st).1.toNat<o.length:=by omega
  have hs:=aDh o (i:=j+1) (k:=(bL ((j:Int)+1+1) l nx st).1.toNat) (by omega) hk
  have hl:=hs.length_eq;obtain ⟨j',ih⟩:=aIf l Td Te j (aDg o (j+1) (bL ((j:Int)+1+1) l nx st).1.toNat) (bL ((j:Int)+1+1) l nx st).2.1 (bL ((j:Int)+1+1) l nx st).2.2 (by omega) (by omega) (by omega) (by omega)
  unfold oH;have ga:∀ i,i<o.length→o[i]? = some (o.getD i 0):=fun i hi=>by
   rw [An hi,Bj,An hi];rfl
  have hj:((j+1:Nat):Int)=(j:Int)+1:=by omega
  rw [hj];have ht:((j:Int)+1).toNat=j+1:=by omega
  refine ⟨j',.step (aUg (by omega) (by show _∧_;omega) (by omega) (ga _ hk) (by omega) (by rw [ht];exact ga _ (by omega)) (by omega) (by rw [ht];simp;omega) (by omega) (by simp;omega) (by show _∧_;omega) (j':=(j:Int)) (by omega) (o':=aDg o (j+1) (bL ((j:Int)+1+1) l nx st).1.toNat) hl (by rw [ht];simp [aDg,List.map_set]) rfl rfl) ih⟩
theorem bSr(n:Int)(l:List Int)(nx st:Int)(h:0≤nx∧nx≤1000000)(hn:0≤n∧n≤1000):FMM Tp 37 [.ptr 0 0,.p (aA n)] [some (fY l nx st)] (.own 1) [some (fY l (qW n l nx st).2.1 (qW n l nx st).2.2),some (.row 3 (qW n l nx st).1.length ((qW n l nx st).1.map aA))]:=by
 have e:(if n > 0 then n else 0)=n:=by split <;> omega
 have hL:=aE.times (P:=Tp) (k:=1) (b:=aZx) (e := .exit 0) (fun i (o:List Int)=>mU n l nx st i o.length (o.map aA)) (fun o=>mU n l nx st n.toNat o.length (o.map aA)) (fun acc i=>acc++[(i:Int)]) (fun i o=>o.length≤i) (by simp) n.toNat (a0:=[]) (by simp)
  (fun i o hi hI=>⟨by simp;omega,aUe (by rw [e];omega) (by simp;omega) (aM (by omega)) rfl (by simp) (by simp)⟩)
  (fun o _=>aUf (by rw [e];omega))
 rw [foldl_map,List.nil_append] at hL
 have hul:(upL n.toNat).length=n.toNat:=by simp [upL]
 by_cases h0:n=0
 ·subst h0
  exact aZz (A3:=upL 0) hL (by unfold inR;simp [upL]) (aE.exit (aDf (by simp [upL])) (by simp))
 ·obtain ⟨j',G0⟩:=aIf l nx st (n.toNat-1) (upL n.toNat) nx st (by omega) (by omega) (by omega) (by omega)
  refine aZz (A3:=upL n.toNat) hL (by show _∧_;omega) (N0:=j') ?_
  have e2:((n.toNat-1:Nat):Int)=((upL n.toNat).length:Int)-1:=by omega
  rw [e2] at G0
  exact G0
theorem uE{r F6 Aj:Int}(lo hi:Int)(l:List Int)(nx st:Int)(h:0≤nx∧nx≤1000000000)(hb:(-1000000≤lo∧lo≤1000000) ∧ -1000000≤hi∧hi≤1000000)(e:nH lo hi l nx st=(r,F6,Aj)):FMM Tp 9 [.ptr 0 0,.p (aA lo),.p (aA hi)] [some (fY l nx st)] (pI r) [some (fY l F6 Aj)]:=by
 have:=bZe lo hi l nx st h hb;rw [e] at this
 exact this
theorem dS{r F6 Aj:Int}(n:Int)(l:List Int)(nx st:Int)(h:0≤nx∧nx≤1000000000)(e:bL n l nx st=(r,F6,Aj)):FMM Tp 30 [.ptr 0 0,.p (aA n)] [some (fY l nx st)] (pI r) [some (fY l F6 Aj)]:=by
 have:=aAv n l nx st h;rw [e] at this
 exact this
theorem aAx{r:Bool}{F6 Aj:Int}(n:Int)(l:List Int)(nx st:Int)(h:0≤nx∧nx≤1000000000)(e:pQ n l nx st=(r,F6,Aj)):FMM Tp 15 [.ptr 0 0,.p (aA n)] [some (fY l nx st)] (pB r) [some (fY l F6 Aj)]:=by
 have:=bSq n l nx st h;rw [e] at this
 exact this
theorem cFk:FMM Tp 8 [(.p (.sl l.length (l.map cT)))] [] (.ptr 0 0) [some (.box 96 [(.p (.sl l.length (l.map cT))),(pI 0),(.p (.v (.int .u32 17)))])]:=FMM.fi 0 ⟨[],[0],[],[]⟩ func8 [] gn
end
section

end
section

theorem cAr(a b:Int):skB [a,b]=(within a 1 999 && within b (-1) 360000):=rfl
end
section

theorem zR{f:Lqq}(h:(bC f 0).Nodup):(bC (aW f) 0).Nodup:=((cB f).map _).nodup_iff.2 h
end
section
mutual
def wkP:PV→PV
 | .v (.slice none 0 0) => .sl 0 []
 | .agg cs => .agg (bNb cs)
 | x=>x
def bNb:List PV→List PV
 | []=>[]
 | x::r=>wkP x::bNb r
end
theorem aPd:∀ l:List PV,bNb l=l.map wkP
 | []=>by simp [bNb]
 | x::r=>by rw [bNb,aPd r];rfl
def Mj:AV→AV
 | .p x => .p (wkP x)
 | x=>x
theorem bTy{F:Nat→Prop}{w:World}{x:PV}{u:Value}(h:bQ F w x u):bQ F w (wkP x) u:=by
 induction h with
 | v x =>
  unfold wkP
  split
  ·rename_i e
   cases e;exact .sl 0 [] none 0 (fun _=>undef) (dJ _) (Nat.zero_le _) (fun i h=>by simp at h) (fun i h=>by simp at h) (fun i h=>by simp at h)
  ·rename_i e;cases e
  ·exact .v x
 | sl n cs p cap us h1 h2 h3 h4 h5 _=>unfold wkP;exact .sl n cs p cap us h1 h2 h3 h4 h5
 | agg cs vs h0 h1 _ ih =>
  unfold wkP;rw [aPd];exact .agg _ vs (fun i hi=>h0 i (by simpa using hi)) (by simpa using h1) (fun i hi=>by
   have:=ih i (by simpa using hi)
   simpa using this)
 | mp es b cl arr us hb h0 h1 h2 h3 _=>unfold wkP;exact .mp es b cl arr us hb h0 h1 h2 h3
 | rp cs off b o us h1 h2 h3 _=>unfold wkP;exact .rp cs off b o us h1 h2 h3
theorem bTz{C:Cx}{M:Mem}{w:World}{x:AV}{u:Value}(h:Rep C M w x u):Rep C M w (Mj x) u:=by
 cases h with
 | p x u h=>exact .p _ _ (bTy h)
 | _=>unfold Mj;constructor <;> assumption
theorem cH.wk{C:Cx}{M:Mem}{w:World}:∀ {args:List AV} {us:List Value},cH C M w args us→cH C M w (args.map Mj) us
 | [],_,h=>by cases h;exact .nil
 | x::l,_,h=>by
  cases h with
  | cons _ _ u us h1 h2=>exact .cons _ _ _ _ (bTz h1) h2.wk
theorem FMM.argwk{P:Program}{f:Nat}{args A2:List AV}{r:AV}{M M':Mem}(h:FMM P f A2 M r M')(e:args.map Mj=A2):FMM P f args M r M':=fun C w us hus hM n=>by
 subst e;exact h C w us hus.wk hM n
theorem FV.argwk{P:Program}{f base:Nat}{args A2:List AV}{y:AV}{L:Upd}(h:FV P f A2 base y L)(e:args.map Mj=A2):FV P f args base y L:=by
 obtain ⟨r,M1,h1,h2⟩:=h;exact ⟨r,M1,h1.argwk e,h2⟩
end
section

end
section

theorem bNa(dl:Int)(sk dc:Lqq)(h0:uni 2 sk)(h1:sk.length≤1000)(h2:uni 6 dc)(h3:dc.length≤1000):FMM Tp 36 [.p (.agg (qZ dl sk dc))] [] (.agg [.p (aA dl),.p (.sl sk.length (sk.flatten.map aA)),.own 0]) [some (.row 84 dc.length (dc.flatten.map aA))]:=bZf h0 h1 h2 h3
end
section
variable {Iy Iz:Bool}{c0 c1 c2 c3 c4 c5 d0 d1 d2 d3 d4 d5 ma mb mx na nb nd nu r0 r7 ta tb tt Lb Eu I0 B8 B9 Cl Gq Cf E7 D2 Ba Dl Ce Cg Gs G9 I1 Dk Dm Dn Gr Dw Gu C9 Ha c0'212 c0'215 c1'213 c1'216 c2'214 c2'217 c3'215 c3'218 c4'216 c4'219 c5'217 c5'220 d0'221 d0'224 d1'222 d1'225 d2'223 d2'226 d3'224 d3'227 d4'225 d4'228 d5'226 d5'229 E8 E9 Fa Fb Fe Ff Fg Fh Fl Fo Fp Fq:Int}{dc sk C8 Hh Ah:Lqq}{l:List Int}{i j i' j':Nat}

noncomputable abbrev pF:Code:=sub (cd Tryz.f7) [1,1,1,1,0,1,0,0,1,1,0,0,1,1,1,1,0]
noncomputable abbrev xY:Code:=sub (cd Tryz.f7) [1,1,1,1,0,1,0,0]
noncomputable abbrev xZ:Code:=sub (cd Tryz.f7) [1,1,1,1,0,1,0,0,1,1,0,0,1,1,1,0]
noncomputable abbrev aKq:Code:=sub (cd Tryz.f7) [1,1,0,1,0,0]
def lG(nd:Int)(l:List Int)(r0:Int)(i skn:Nat)(skc:List PV)(mx tt:Int):St:=⟨fr 121 [(0,(.ptr 0 0)),(2,(pI nd)),(6,(.ptr 1 0)),(7,(.ptr 2 0)),(15,(pI r0)),(16,(pI (i:Int)))],[some (.box 96 [(.p (.sl l.length (l.map cT))),(pI mx),(.p (.v (.int .u32 tt)))]),some (.box 26 [(pI 0),(.p cX),(.p cX)]),some (.box 26 [(pI 30),(.own 3),(.p cX)]),some (.row 80 skn skc)]⟩
def fM(l:List Int)(Ah:Lqq)(r7:Int)(j dcn:Nat)(dcc:List PV)(nu mx tt:Int):St:=⟨fr 121 [(0,(.ptr 0 0)),(6,(.ptr 1 0)),(7,(.ptr 2 0)),(10,(pI nu)),(40,(pI r7)),(41,(pI (j:Int)))],[some (.box 96 [(.p (.sl l.length (l.map cT))),(pI mx),(.p (.v (.int .u32 tt)))]),some (.box 26 [(pI 0),(.p cX),(.p cX)]),some (.box 26 [(pI 30),(.own 3),(.own 4)]),some (.row 80 Ah.length (Ah.flatten.map aA)),some (.row 84 dcn dcc)]⟩
theorem bZc{ns nx st m1 t2:Int}{Tc:Nat}{Ht Kl m8 t9:Int}{O7:Nat}{Hu:Lqq}{L3 Jy Jz:Int}(h0:0≤nx∧nx≤1000000000)(h1:(-1000000≤1∧(1:Int)≤1000000) ∧ -1000000≤ns∧ns≤1000000)(h2:nH 1 ns l nx st=(r0,m1,t2))(Cw:aE Tp 1 aKq (lG nd l r0 0 0 [] m1 t2) (.exit 0) (lG nd l r0 Tc Ah.length (Ah.flatten.map aA) Ht Kl))(h4:inR (nd+1))(h5:0≤Ht∧Ht≤1000000000)(h6:bL (nd+1) l Ht Kl=(r7,m8,t9))(Re:aE Tp 1 xY (fM l Ah r7 0 0 [] 0 m8 t9) (.exit 2) (fM l Ah r7 O7 Hu.length (Hu.flatten.map aA) L3 Jy Jz)):FMM Tp 7 [(.ptr 0 0),(pI ns),(pI nd)] [some (.box 96 [(.p (.sl l.length (l.map cT))),(pI nx),(.p (.v (.int .u32 st)))])] (.p (.agg (qZ 30 Ah Hu))) [some (.box 96 [(.p (.sl l.length (l.map cT))),(pI Jy),(.p (.v (.int .u32 Jz)))])]:=have k1:=mq [0] 3 (uE 1 ns l nx st h0 h1 h2);have k2:=mq [0] 4 (dS (nd+1) l Ht Kl h5 h6);FMM.fi 1 ⟨[],[],[3,4],[]⟩ func7 [k1.o,Cw.k 1 (gN bf [1,2,3] [(102001,80)]),k2.o,Re.k 1 (gN bp [1,2,3,4] [(102002,84)])] (gc Re.code (gc k2 (gc h4 (gc Cw.code (gc k1 gn)))))
section
variable(h0:(i:Int)<r0)(h1:inR ((3:Int)*(i:Int)))(h2:inR (((3:Int)*(i:Int))+1))(h3:0≤mx∧mx≤1000000000)(h4:bL 20 l mx tt=(D2,Eu,G9))(h5:inR ((50:Int)*D2))(h6:inR ((15000:Int)+((50:Int)*D2)))(h7:0≤Eu∧Eu≤1000000000)(h8:pQ 12 l Eu G9=(Iy,I0,I1))
include h0 h1 h2 h3 h4 h5 h6 h7 h8
theorem bEd(h9:Iy=true)(A5:[(aA (((3:Int)*(i:Int))+1)),(aA (-1))].length=1*2∧sk.length+1≤1000000)(Cb:di i)(Ai:i'=(i+1))(Hv:Hh.length=(sk.length+1))(Hw:Hh.flatten.map aA=((sk.flatten.map aA)++[(aA (((3:Int)*(i:Int))+1)),(aA (-1))])):aB Tp 1 aKq (lG nd l r0 i sk.length (sk.flatten.map aA) mx tt) .normal (lG nd l r0 i' Hh.length (Hh.flatten.map aA) I0 I1):=by
 subst Ai;have k1:=mq [0] 4 (dS 20 l mx tt h3 h4);have k2:=mq [0] 5 (aAx 12 l Eu G9 h7 h8);rw [Hv,Hw];exact aB.fi (gI bf [1,2,6]) [bT,k1.o,k2.o,bT] (gc Cb (gc A5 (gt ([(aA (((3:Int)*(i:Int))+1)),(aA (-1))].length=2) (by first | decide | simp) (gc h9 (gc k2 (gc h6 (gc h5 (gc k1 (gc h2 (gc h1 (g0 h0)))))))))))
theorem bEe(h9:Iy=false)(A5:[(aA (((3:Int)*(i:Int))+1)),(aA ((15000:Int)+((50:Int)*D2)))].length=1*2∧sk.length+1≤1000000)(Cb:di i)(Ai:i'=(i+1))(Hv:Hh.length=(sk.length+1))(Hw:Hh.flatten.map aA=((sk.flatten.map aA)++[(aA (((3:Int)*(i:Int))+1)),(aA ((15000:Int)+((50:Int)*D2)))])):aB Tp 1 aKq (lG nd l r0 i sk.length (sk.flatten.map aA) mx tt) .normal (lG nd l r0 i' Hh.length (Hh.flatten.map aA) I0 I1):=by
 subst Ai;have k1:=mq [0] 4 (dS 20 l mx tt h3 h4);have k2:=mq [0] 5 (aAx 12 l Eu G9 h7 h8);rw [Hv,Hw];exact aB.fi (gI bf [1,2,6]) [bT,k1.o,k2.o,bF] (gc Cb (gc A5 (gt ([(aA (((3:Int)*(i:Int))+1)),(aA ((15000:Int)+((50:Int)*D2)))].length=2) (by first | decide | simp) (gc h9 (gc k2 (gc h6 (gc h5 (gc k1 (gc h2 (gc h1 (g0 h0)))))))))))
end
theorem bEf(h0:r0≤(i:Int)):aB Tp 1 aKq (lG nd l r0 i sk.length (sk.flatten.map aA) mx tt) (.exit 0) (lG nd l r0 i sk.length (sk.flatten.map aA) mx tt):=aB.fi (gI bf [1,2,3]) [bF] (gc (aQ h0) gn)
def gR(l:List Int)(Ah:Lqq)(r7:Int)(j:Nat)(dc:Lqq)(na ma ta c0 c1 c2 c3 c4 c5:Int):St:=⟨fr 121 [(0,(.ptr 0 0)),(6,(.ptr 1 0)),(7,(.ptr 2 0)),(10,(pI na)),(11,(.ptr 5 0)),(40,(pI r7)),(41,(pI (j:Int))),(42,(pB (decide ((j:Int)<r7))))],[some (.box 96 [(.p (.sl l.length (l.map cT))),(pI ma),(.p (.v (.int .u32 ta)))]),some (.box 26 [(pI 0),(.p cX),(.p cX)]),some (.box 26 [(pI 30),(.own 3),(.own 4)]),some (.row 80 Ah.length (Ah.flatten.map aA)),some (.row 84 dc.length (dc.flatten.map aA)),some (.box 84 [(pI c0),(pI c1),(pI c2),(pI c3),(pI c4),(pI c5)])]⟩
def eF(l:List Int)(Ah:Lqq)(r7:Int)(j:Nat)(dc:Lqq)(nb mb tb d0 d1 d2 d3 d4 d5:Int):St:=⟨fr 121 [(0,(.ptr 0 0)),(6,(.ptr 1 0)),(7,(.ptr 2 0)),(10,(pI nb)),(11,(.ptr 5 0)),(40,(pI r7)),(41,(pI (j:Int))),(42,(pB (decide ((j:Int)<r7))))],[some (.box 96 [(.p (.sl l.length (l.map cT))),(pI mb),(.p (.v (.int .u32 tb)))]),some (.box 26 [(pI 0),(.p cX),(.p cX)]),some (.box 26 [(pI 30),(.own 3),(.own 4)]),some (.row 80 Ah.length (Ah.flatten.map aA)),some (.row 84 dc.length (dc.flatten.map aA)),some (.box 84 [(pI d0),(pI d1),(pI d2),(pI d3),(pI d4),(pI d5)])]⟩
section
variable(h0:(j:Int)<r7)(h1:0≤mx∧mx≤1000000000)(h2:(-1000000≤1∧(1:Int)≤1000000) ∧ -1000000≤2∧(2:Int)≤1000000)(h3:nH 1 2 l mx tt=(Ba,B8,Dk))(h4:inR (nu+Ba))(h5:0≤B8∧B8≤1000000000)(h6:bL 10 l B8 Dk=(Dl,B9,Dm))(h7:0≤B9∧B9≤1000000000)(h8:bL 36 l B9 Dm=(Ce,Cl,Dn))
include h0 h1 h2 h3 h4 h5 h6 h7 h8
theorem bEg(h9:(1:Int)<(nu+Ba))(A5:Dl<5)(Cb:0≤Cl∧Cl≤1000000000)(Bu:pQ 3 l Cl Dn=(Iz,Gq,Gr))(Dd:Iz=true)(Hy:aB Tp 1 xZ (gR l Ah r7 j dc (nu+Ba) Gq Gr (nu+Ba) 7 Ce 0 0 0) .normal (gR l Ah r7 j dc Ff E9 Fo c0'215 c1'216 c2'217 c3'218 c4'219 c5'220))(Hz:aB Tp 1 pF (eF l Ah r7 j dc Ff E9 Fo c0'215 c1'216 c2'217 c3'218 c4'219 c5'220) .normal (eF l Ah r7 j dc Fh Fb Fq d0'224 d1'225 d2'226 d3'227 d4'228 d5'229))(Gk:[(aA d0'224),(aA d1'225),(aA d2'226),(aA d3'227),(aA d4'228),(aA d5'229)].length=1*6∧dc.length+1≤1000000)(Hr:di j)(C6:j'=(j+1))(Du:C8.length=(dc.length+1))(Dv:C8.flatten.map aA=((dc.flatten.map aA)++[(aA d0'224),(aA d1'225),(aA d2'226),(aA d3'227),(aA d4'228),(aA d5'229)])):aB Tp 1 xY (fM l Ah r7 j dc.length (dc.flatten.map aA) nu mx tt) .normal (fM l Ah r7 j' C8.length (C8.flatten.map aA) Fh Fb Fq):=by
 subst C6;have k1:=mq [0] 5 (uE 1 2 l mx tt h1 h2 h3);have k2:=mq [0] 5 (dS 10 l B8 Dk h5 h6);have k3:=mq [0] 5 (dS 36 l B9 Dm h7 h8);have k4:=mq [0] 6 (aAx 3 l Cl Dn Cb Bu);rw [Du,Dv];exact aB.fi (gI bp [1,2,3,7]) ([bT,k1.o,k2.o,k3.o]++rT 6++[k4.o,bT,bT,Hy.k 2 (gI bq dd),Hz.k 1 (gI bq dd)]) (gc Hr (gc Gk (gt ([(aA d0'224),(aA d1'225),(aA d2'226),(aA d3'227),(aA d4'228),(aA d5'229)].length=6) (by first | decide | simp) (gc Hz (gc Hy (gc Dd (gc (bD A5) (gc k4 (Ap (bD A5) (Bf (bD h9) (gc k3 (gc k2 (gc h4 (gc k1 (g0 h0)))))))))))))))
theorem bEh(h9:(1:Int)<(nu+Ba))(A5:Dl<5)(Cb:0≤Cl∧Cl≤1000000000)(Bu:pQ 3 l Cl Dn=(Iz,Gq,Gr))(Dd:Iz=false)(Hy:aB Tp 1 xZ (gR l Ah r7 j dc (nu+Ba) Gq Gr (nu+Ba) Dl Ce 0 0 0) .normal (gR l Ah r7 j dc Ff E9 Fo c0'215 c1'216 c2'217 c3'218 c4'219 c5'220))(Hz:aB Tp 1 pF (eF l Ah r7 j dc Ff E9 Fo c0'215 c1'216 c2'217 c3'218 c4'219 c5'220) .normal (eF l Ah r7 j dc Fh Fb Fq d0'224 d1'225 d2'226 d3'227 d4'228 d5'229))(Gk:[(aA d0'224),(aA d1'225),(aA d2'226),(aA d3'227),(aA d4'228),(aA d5'229)].length=1*6∧dc.length+1≤1000000)(Hr:di j)(C6:j'=(j+1))(Du:C8.length=(dc.length+1))(Dv:C8.flatten.map aA=((dc.flatten.map aA)++[(aA d0'224),(aA d1'225),(aA d2'226),(aA d3'227),(aA d4'228),(aA d5'229)])):aB Tp 1 xY (fM l Ah r7 j dc.length (dc.flatten.map aA) nu mx tt) .normal (fM l Ah r7 j' C8.length (C8.flatten.map aA) Fh Fb Fq):=by
 subst C6;have k1:=mq [0] 5 (uE 1 2 l mx tt h1 h2 h3);have k2:=mq [0] 5 (dS 10 l B8 Dk h5 h6);have k3:=mq [0] 5 (dS 36 l B9 Dm h7 h8);have k4:=mq [0] 6 (aAx 3 l Cl Dn Cb Bu);rw [Du,Dv];exact aB.fi (gI bp [1,2,3,7]) ([bT,k1.o,k2.o,k3.o]++rT 6++[k4.o,bT,bF,Hy.k 1 (gI bq dd),Hz.k 1 (gI bq dd)]) (gc Hr (gc Gk (gt ([(aA d0'224),(aA d1'225),(aA d2'226),(aA d3'227),(aA d4'228),(aA d5'229)].length=6) (by first | decide | simp) (gc Hz (gc Hy (gc Dd (gc (bD A5) (gc k4 (Ap (bD A5) (Bf (bD h9) (gc k3 (gc k2 (gc h4 (gc k1 (g0 h0)))))))))))))))
theorem bEi(h9:(1:Int)<(nu+Ba))(A5:(5:Int)≤Dl)(Ej:aB Tp 1 xZ (gR l Ah r7 j dc (nu+Ba) Cl Dn (nu+Ba) Dl Ce 0 0 0) .normal (gR l Ah r7 j dc Fe E8 Fl c0'212 c1'213 c2'214 c3'215 c4'216 c5'217))(L4:aB Tp 1 pF (eF l Ah r7 j dc Fe E8 Fl c0'212 c1'213 c2'214 c3'215 c4'216 c5'217) .normal (eF l Ah r7 j dc Fg Fa Fp d0'221 d1'222 d2'223 d3'224 d4'225 d5'226))(Dd:[(aA d0'221),(aA d1'222),(aA d2'223),(aA d3'224),(aA d4'225),(aA d5'226)].length=1*6∧dc.length+1≤1000000)(Dq:di j)(C6:j'=(j+1))(Du:C8.length=(dc.length+1))(Dv:C8.flatten.map aA=((dc.flatten.map aA)++[(aA d0'221),(aA d1'222),(aA d2'223),(aA d3'224),(aA d4'225),(aA d5'226)])):aB Tp 1 xY (fM l Ah r7 j dc.length (dc.flatten.map aA) nu mx tt) .normal (fM l Ah r7 j' C8.length (C8.flatten.map aA) Fg Fa Fp):=by
 subst C6;have k1:=mq [0] 5 (uE 1 2 l mx tt h1 h2 h3);have k2:=mq [0] 5 (dS 10 l B8 Dk h5 h6);have k3:=mq [0] 5 (dS 36 l B9 Dm h7 h8);rw [Du,Dv];exact aB.fi (gI bp [1,2,3,7]) [bT,k1.o,k2.o,k3.o,bT,bT,bT,bT,bF,bF,bF,Ej.k 2 (gI bq dd),L4.k 1 (gI bq dd)] (gc Dq (gc Dd (gt ([(aA d0'221),(aA d1'222),(aA d2'223),(aA d3'224),(aA d4'225),(aA d5'226)].length=6) (by first | decide | simp) (gc L4 (gc Ej (Aq (aQ A5) (Bf (bD h9) (gc k3 (gc k2 (gc h4 (gc k1 (g0 h0))))))))))))
theorem bEj(h9:(nu+Ba)≤1)(L5:aB Tp 1 xZ (gR l Ah r7 j dc (nu+Ba) Cl Dn (nu+Ba) Dl Ce 0 0 0) .normal (gR l Ah r7 j dc Fe E8 Fl c0'212 c1'213 c2'214 c3'215 c4'216 c5'217))(Ej:aB Tp 1 pF (eF l Ah r7 j dc Fe E8 Fl c0'212 c1'213 c2'214 c3'215 c4'216 c5'217) .normal (eF l Ah r7 j dc Fg Fa Fp d0'221 d1'222 d2'223 d3'224 d4'225 d5'226))(Bu:[(aA d0'221),(aA d1'222),(aA d2'223),(aA d3'224),(aA d4'225),(aA d5'226)].length=1*6∧dc.length+1≤1000000)(Dd:di j)(C6:j'=(j+1))(Du:C8.length=(dc.length+1))(Dv:C8.flatten.map aA=((dc.flatten.map aA)++[(aA d0'221),(aA d1'222),(aA d2'223),(aA d3'224),(aA d4'225),(aA d5'226)])):aB Tp 1 xY (fM l Ah r7 j dc.length (dc.flatten.map aA) nu mx tt) .normal (fM l Ah r7 j' C8.length (C8.flatten.map aA) Fg Fa Fp):=by
 subst C6;have k1:=mq [0] 5 (uE 1 2 l mx tt h1 h2 h3);have k2:=mq [0] 5 (dS 10 l B8 Dk h5 h6);have k3:=mq [0] 5 (dS 36 l B9 Dm h7 h8);rw [Du,Dv];exact aB.fi (gI bp [1,2,3,7]) [bT,k1.o,k2.o,k3.o,bF,bF,bF,bF,L5.k 2 (gI bq dd),Ej.k 1 (gI bq dd)] (gc Dd (gc Bu (gt ([(aA d0'221),(aA d1'222),(aA d2'223),(aA d3'224),(aA d4'225),(aA d5'226)].length=6) (by first | decide | simp) (gc Ej (gc L5 (Bf (aQ h9) (gc k3 (gc k2 (gc h4 (gc k1 (g0 h0)))))))))))
end
theorem bEk(h0:r7≤(j:Int)):aB Tp 1 xY (fM l Ah r7 j dc.length (dc.flatten.map aA) nu mx tt) (.exit 2) (fM l Ah r7 j dc.length (dc.flatten.map aA) nu mx tt):=aB.fi (gI bp [1,2,3,4]) [bF] (gc (aQ h0) gn)
theorem bEl{L6 L8 L9:Int}(h0:na=1)(h1:0≤ma∧ma≤1000000000)(h2:bL 5 l ma ta=(L6,L8,L9)):aB Tp 1 xZ (gR l Ah r7 j dc na ma ta c0 c1 c2 c3 c4 c5) .normal (gR l Ah r7 j dc na L8 L9 c0 L6 c2 c3 c4 c5):=have k1:=mq [0] 6 (dS 5 l ma ta h1 h2);aB.fi (gI bq dd) [bT,k1.o] (gc k1 (gc (cF h0) gn))
theorem bEm(h0:na≠1):aB Tp 1 xZ (gR l Ah r7 j dc na ma ta c0 c1 c2 c3 c4 c5) .normal (gR l Ah r7 j dc na ma ta c0 c1 c2 c3 c4 c5):=aB.fi (gI bq dd) [bF] (gc (bK h0) gn)
section
variable(h0:d1≤4)(h1:0≤mb∧mb≤1000000000)(h2:bL (Ah.length:Int) l mb tb=(Cg,Cf,Dw))(h3:Ah[Cg.toNat]? = some [C9,Ha])(h4:0≤Cg)(h5:uni 2 Ah)(h6:0≤Cf∧Cf≤1000000000)(h7:bL 8 l Cf Dw=(Gs,E7,Gu))(h8:inR ((50:Int)*Gs))
include h0 h1 h2 h3 h4 h5 h6 h7 h8
theorem bEn{Ma Mb Md:Int}(h9:d1=2)(A5:0≤E7∧E7≤1000000000)(Cb:bL 3 l E7 Gu=(Ma,Mb,Md))(Bu:d1≠3):aB Tp 1 pF (eF l Ah r7 j dc nb mb tb d0 d1 d2 d3 d4 d5) .normal (eF l Ah r7 j dc nb Mb Md d0 d1 d2 C9 Ma d5):=have k1:=mq [0] 7 (dS (Ah.length:Int) l mb tb h1 h2);have k2:=mq [0] 6 (dS 8 l Cf Dw h6 h7);have k3:=mq [0] 6 (dS 3 l E7 Gu A5 Cb);aB.fi (gI bq dd) [bT,k1.o,.x (aA C9),k2.o,bT,k3.o,bF] (gc (bK Bu) (gc k3 (gc (cF h9) (gc h8 (gc k2 (gt ((Ah.flatten.map aA)[(Cg.toNat*2)]? = some (aA C9)) (dL (i:=Cg.toNat) (f:=0) h5 h3 rfl) (gc (aZ (i:=Cg) h4 h3) (gc k1 (gc (uD h0) gn)))))))))
theorem bEo(h9:d1≠2)(A5:d1=3)(H0:Lb=(0:Int)):aB Tp 1 pF (eF l Ah r7 j dc nb mb tb d0 d1 d2 d3 d4 d5) .normal (eF l Ah r7 j dc nb E7 Gu d0 d1 d2 C9 Lb d5):=by
 subst H0;have k1:=mq [0] 7 (dS (Ah.length:Int) l mb tb h1 h2);have k2:=mq [0] 6 (dS 8 l Cf Dw h6 h7);exact aB.fi (gI bq dd) [bT,k1.o,.x (aA C9),k2.o,bF,bT] (gc (cF A5) (gc (bK h9) (gc h8 (gc k2 (gt ((Ah.flatten.map aA)[(Cg.toNat*2)]? = some (aA C9)) (dL (i:=Cg.toNat) (f:=0) h5 h3 rfl) (gc (aZ (i:=Cg) h4 h3) (gc k1 (gc (uD h0) gn))))))))
theorem bEp(h9:d1≠2)(A5:d1≠3)(H0:Lb=((50:Int)*Gs)):aB Tp 1 pF (eF l Ah r7 j dc nb mb tb d0 d1 d2 d3 d4 d5) .normal (eF l Ah r7 j dc nb E7 Gu d0 d1 d2 C9 Lb d5):=by
 subst H0;have k1:=mq [0] 7 (dS (Ah.length:Int) l mb tb h1 h2);have k2:=mq [0] 6 (dS 8 l Cf Dw h6 h7);exact aB.fi (gI bq dd) [bT,k1.o,.x (aA C9),k2.o,bF,bF] (gc (bK A5) (gc (bK h9) (gc h8 (gc k2 (gt ((Ah.flatten.map aA)[(Cg.toNat*2)]? = some (aA C9)) (dL (i:=Cg.toNat) (f:=0) h5 h3 rfl) (gc (aZ (i:=Cg) h4 h3) (gc k1 (gc (uD h0) gn))))))))
end
section
variable(h0:(4:Int)<d1)(h1:inR (nb-6))(h2:inR (nb-1))(h3:0≤mb∧mb≤1000000000)(h4:(-1000000≤(if (nb-6) > 1 then (nb-6) else 1)∧(if (nb-6) > 1 then (nb-6) else 1)≤1000000) ∧ -1000000≤(nb-1)∧(nb-1)≤1000000)(h5:nH (if (nb-6) > 1 then (nb-6) else 1) (nb-1) l mb tb=(Cg,Cf,Dw))
include h0 h1 h2 h3 h4 h5
theorem bEq{Km Me Mf:Int}(h6:d1=6)(h7:0≤Cf∧Cf≤1000000000)(h8:bL 8 l Cf Dw=(Km,Me,Mf))(h9:inR ((50:Int)*Km))(H0:Lb=((50:Int)*Km)):aB Tp 1 pF (eF l Ah r7 j dc nb mb tb d0 d1 d2 d3 d4 d5) .normal (eF l Ah r7 j dc nb Me Mf d0 d1 d2 d3 Lb Cg):=by
 subst H0;have k1:=mq [0] 6 (uE (if (nb-6) > 1 then (nb-6) else 1) (nb-1) l mb tb h3 h4 h5);have k2:=mq [0] 6 (dS 8 l Cf Dw h7 h8);exact aB.fi (gI bq dd) [bF,k1.o,bT,k2.o] (gc h9 (gc k2 (gc (cF h6) (gc k1 (gc h2 (gc h1 (gc (jZ h0) gn)))))))
theorem bEr(h6:d1≠6):aB Tp 1 pF (eF l Ah r7 j dc nb mb tb d0 d1 d2 d3 d4 d5) .normal (eF l Ah r7 j dc nb Cf Dw d0 d1 d2 d3 d4 Cg):=have k1:=mq [0] 6 (uE (if (nb-6) > 1 then (nb-6) else 1) (nb-1) l mb tb h3 h4 h5);aB.fi (gI bq dd) [bF,k1.o,bF] (gc (bK h6) (gc k1 (gc h2 (gc h1 (gc (jZ h0) gn)))))
end
end
section
theorem bSi{sk:Lqq}{i:Nat}{a b:Int}(h:sk[i]? = some [a,b]):a∈bC sk 0:=by
 unfold bC;exact Bi.2 ⟨_,Br h,rfl⟩
theorem aDe{sk:Lqq}{a k mi b mu ab:Int}(ha:1≤a∧a≤9999)(hk:0≤k∧k≤9)(hmi:0≤mi∧mi≤10000)(hmu:0≤mu∧mu≤36000)(hz:mu=0∨(k≠3∧k≠5∧k≤6))(hp:k≤4→b∈bC sk 0∧ab=0)(hq:4<k→b=0∧1≤ab∧ab≤a-1) :
  dcB [a,k,mi,b,mu,ab]=true∧inB sk [a,k,mi,b,mu,ab]=true∧orB [a,k,mi,b,mu,ab]=true:=by
 have hm:mu≤kW k:=by
  unfold kW
  repeat' split
  all_goals first | omega | (simp_all;omega)
 refine ⟨jM.2 ⟨ha,hk,hmi,hmu.1,hm⟩,?_,?_⟩
 ·show (if k≤4 then (bC sk 0).contains b else b == 0)=true
  by_cases h:k≤4
  ·rw [if_pos h];simpa using (hp h).1
  ·rw [if_neg h];simpa using (hq (by omega)).1
 ·show (if k≤4 then ab == 0 else within ab 1 (a-1))=true
  by_cases h:k≤4
  ·rw [if_pos h];simpa using (hp h).2
  ·rw [if_neg h];exact within_iff.2 (hq (by omega)).2
structure aUd (sk:Lqq) (dc:Lqq) (nu mx:Int) (j:Nat):Prop where
 ud:uni 6 dc
 len:dc.length=j
 num:0≤nu∧nu≤2*(j:Int)
 deck:0≤mx∧mx≤1000+20*(j:Int)
 mem:∀ x∈dc,(dcB x=true∧inB sk x=true∧orB x=true)∧x.getD 0 0≤nu
 up:dc.Pairwise fun a b=>a.getD 0 0<b.getD 0 0
theorem aUd.snoc{sk dc:Lqq}{nu mx:Int}{j:Nat}(h:aUd sk dc nu mx j){a k mi b mu ab F7:Int}(hr:dcB [a,k,mi,b,mu,ab]=true∧inB sk [a,k,mi,b,mu,ab]=true∧orB [a,k,mi,b,mu,ab]=true)(ha:nu<a∧a≤nu+2)(hm:mx≤F7∧F7≤mx+20):aUd sk (dc++[[a,k,mi,b,mu,ab]]) a F7 (j+1):=by
 obtain ⟨h1,h2,h3,h4,h5,h6⟩:=h;refine ⟨aPb h1 rfl,by simp [h2],by omega,by omega,fun x hx => ?_,?_⟩
 ·rcases dY.1 hx with hx | hx
  ·exact ⟨(h5 x hx).1,by have:=(h5 x hx).2;omega⟩
  ·rw [List.mem_singleton.1 hx]
   exact ⟨hr,aTx _⟩
 ·rw [List.pairwise_append]
  refine ⟨h6,List.pairwise_singleton _ _,fun x hx y hy => ?_⟩
  rw [List.mem_singleton.1 hy];have:=(h5 x hx).2;show x.getD 0 0<a;omega
theorem bZa{l:List Int}{Ah dc:Lqq}{r7 na ma ta c0 c1 c2 c3 c4 c5:Int}{j:Nat}(hm:0≤ma∧ma≤1000000000)(hc:0≤c1∧c1≤9) :
  ∃ m t k,(ma≤m∧m≤ma+1)∧(0≤k∧k≤9)∧(na=1→k≤4)∧aB Tp 1 (sub (cd Tryz.f7) ap) (gR l Ah r7 j dc na ma ta c0 c1 c2 c3 c4 c5) .normal (gR l Ah r7 j dc na m t c0 k c2 c3 c4 c5):=by
 by_cases h:na=1
 ·obtain ⟨r,m,t,e⟩:∃ r m t,bL (5:Int) l ma ta=(r,m,t):=⟨_,_,_,rfl⟩
  have b:=eT (5:Int) l ma ta;rw [e] at b
  dsimp only at b
  exact ⟨m,t,r,by omega,by omega,fun _=>by omega,bEl h hm e⟩
 ·exact ⟨ma,ta,c1,by omega,hc,fun q=>absurd q h,bEm h⟩
theorem bZb{l:List Int}{Ah dc:Lqq}{r7 nb mb tb d1 d2:Int}{j:Nat}(hm:0≤mb∧mb≤100000000)(hn:1≤nb∧nb≤1000)(hk:0≤d1∧d1≤9)(Jt:nb=1→d1≤4)(h2:0≤d2∧d2≤10000)(Hs:uni 2 Ah)(hs:1≤Ah.length∧Ah.length≤100) :
  ∃ m t b mu ab,(mb≤m∧m≤mb+3)∧(dcB [nb,d1,d2,b,mu,ab]=true∧inB Ah [nb,d1,d2,b,mu,ab]=true∧orB [nb,d1,d2,b,mu,ab]=true) ∧
   aB Tp 1 (sub (cd Tryz.f7) am) (eF l Ah r7 j dc nb mb tb nb d1 d2 0 0 0) .normal (eF l Ah r7 j dc nb m t nb d1 d2 b mu ab):=by
 by_cases h4:d1≤4
 ·obtain ⟨r,m1,t1,e1⟩:∃ r m t,bL (Ah.length:Int) l mb tb=(r,m,t):=⟨_,_,_,rfl⟩
  have b1:=eT (Ah.length:Int) l mb tb;rw [e1] at b1
  dsimp only at b1
  have hr:0≤r∧r.toNat<Ah.length:=by omega
  obtain ⟨a,t',ha⟩:=len2 (Hs _ (eE hr.2));have hx:Ah[r.toNat]? = some [a,t']:=by rw [An hr.2,ha]
  obtain ⟨r8,m2,t2,e2⟩:∃ r m t,bL (8:Int) l m1 t1=(r,m,t):=⟨_,_,_,rfl⟩;have b2:=eT (8:Int) l m1 t1;rw [e2] at b2
  dsimp only at b2
  have hp:d1≤4→a∈bC Ah 0∧(0:Int)=0:=fun _=>⟨bSi hx,rfl⟩
  by_cases k2:d1=2
  ·obtain ⟨r3,m3,t3,e3⟩:∃ r m t,bL (3:Int) l m2 t2=(r,m,t):=⟨_,_,_,rfl⟩
   have b3:=eT (3:Int) l m2 t2;rw [e3] at b3
   dsimp only at b3
   exact ⟨m3,t3,a,r3,0,by omega,aDe (by omega) hk h2 (by omega) (.inr (by omega)) hp (fun q=>by omega),bEn h4 (by omega) e1 hx hr.1 Hs (by omega) e2 (by show _∧_;omega) k2 (by omega) e3 (by omega)⟩
  ·by_cases k3:d1=3
   ·exact ⟨m2,t2,a,0,0,by omega,aDe (by omega) hk h2 (by omega) (.inl rfl) hp (fun q=>by omega),bEo h4 (by omega) e1 hx hr.1 Hs (by omega) e2 (by show _∧_;omega) k2 k3 rfl⟩
   ·exact ⟨m2,t2,a,50*r8,0,by omega,aDe (by omega) hk h2 (by omega) (.inr (by omega)) hp (fun q=>by omega),bEp h4 (by omega) e1 hx hr.1 Hs (by omega) e2 (by show _∧_;omega) k2 k3 rfl⟩
 ·have hg:(if nb-6 > (1:Int) then nb-6 else 1)=max 1 (nb-6):=by split <;> omega
  obtain ⟨r,m1,t1,e1⟩:∃ r m t,nH (if nb-(6:Int) > (1:Int) then nb-(6:Int) else (1:Int)) (nb-(1:Int)) l mb tb=(r,m,t):=⟨_,_,_,rfl⟩
  have b1:=aAw (if nb-(6:Int) > (1:Int) then nb-(6:Int) else (1:Int)) (nb-(1:Int)) l mb tb
  rw [e1] at b1
  dsimp only at b1
  have Hl:nb≠1:=fun q=>h4 (Jt q)
  have hlo:1≤(if nb-(6:Int) > (1:Int) then nb-(6:Int) else (1:Int))∧(if nb-(6:Int) > (1:Int) then nb-(6:Int) else (1:Int))≤nb-1:=by rw [hg];omega
  have hq:4<d1→(0:Int)=0∧1≤r∧r≤nb-1:=fun _=>⟨rfl,by omega,by omega⟩
  by_cases k6:d1=6
  ·obtain ⟨r8,m2,t2,e2⟩:∃ r m t,bL (8:Int) l m1 t1=(r,m,t):=⟨_,_,_,rfl⟩
   have b2:=eT (8:Int) l m1 t1;rw [e2] at b2
   dsimp only at b2
   exact ⟨m2,t2,0,50*r8,r,by omega,aDe (by omega) hk h2 (by omega) (.inr (by omega)) (fun q=>absurd q h4) hq,bEq (by omega) (by show _∧_;omega) (by show _∧_;omega) (by omega) (by omega) e1 k6 (by omega) e2 (by show _∧_;omega) rfl⟩
  ·exact ⟨m1,t1,0,0,r,by omega,aDe (by omega) hk h2 (by omega) (.inl rfl) (fun q=>absurd q h4) hq,bEr (by omega) (by show _∧_;omega) (by show _∧_;omega) (by omega) (by omega) e1 k6⟩
theorem bSj{l:List Int}{Ah dc:Lqq}{r7 nu mx tt:Int}{j:Nat}(hI:aUd Ah dc nu mx j)(hj:(j:Int)<r7)(hr:r7≤100)(Hs:uni 2 Ah)(hs:1≤Ah.length∧Ah.length≤100) :
  ∃ C8 Nz F7 Jw,aUd Ah C8 Nz F7 (j+1)∧aB Tp 1 (sub (cd Tryz.f7) cb) (fM l Ah r7 j dc.length (dc.flatten.map aA) nu mx tt) .normal (fM l Ah r7 (j+1) C8.length (C8.flatten.map aA) Nz F7 Jw):=by
 have hlen:=hI.len;have hnum:=hI.num;have hdeck:=hI.deck;obtain ⟨Ba,B8,Dk,e3⟩:∃ r m t,nH (1:Int) (2:Int) l mx tt=(r,m,t):=⟨_,_,_,rfl⟩;have b3:=aAw (1:Int) (2:Int) l mx tt;rw [e3] at b3
 dsimp only at b3
 obtain ⟨Dl,B9,Dm,e6⟩:∃ r m t,bL (10:Int) l B8 Dk=(r,m,t):=⟨_,_,_,rfl⟩;have b6:=eT (10:Int) l B8 Dk;rw [e6] at b6
 dsimp only at b6
 obtain ⟨Ce,Cl,Dn,e8⟩:∃ r m t,bL (36:Int) l B9 Dm=(r,m,t):=⟨_,_,_,rfl⟩;have b8:=eT (36:Int) l B9 Dm;rw [e8] at b8
 dsimp only at b8
 have hin:inR (((j+1):Nat):Int):=aM (by omega)
 have rest:∀ (m t k:Int),(Cl≤m∧m≤Cl+1)→(0≤k∧k≤9)→∃ m1 t1 k1 m2 t2 b mu ab,(mx≤m2∧m2≤mx+20)∧(dcB [nu+Ba,k1,Ce,b,mu,ab]=true∧inB Ah [nu+Ba,k1,Ce,b,mu,ab]=true∧orB [nu+Ba,k1,Ce,b,mu,ab]=true) ∧
   aB Tp 1 (sub (cd Tryz.f7) ap) (gR l Ah r7 j dc (nu+Ba) m t (nu+Ba) k Ce 0 0 0) .normal (gR l Ah r7 j dc (nu+Ba) m1 t1 (nu+Ba) k1 Ce 0 0 0) ∧
   aB Tp 1 (sub (cd Tryz.f7) am) (eF l Ah r7 j dc (nu+Ba) m1 t1 (nu+Ba) k1 Ce 0 0 0) .normal (eF l Ah r7 j dc (nu+Ba) m2 t2 (nu+Ba) k1 Ce b mu ab):=fun m t k hm hk=>by
  obtain ⟨m1,t1,k1,q1,q2,q3,q4⟩:=bZa (l:=l) (Ah:=Ah) (dc:=dc) (r7:=r7) (na:=nu+Ba) (ma:=m) (ta:=t) (c0:=nu+Ba) (c1:=k) (c2:=Ce) (c3:=0) (c4:=0) (c5:=0) (j:=j) (by omega) hk
  obtain ⟨m2,t2,b,mu,ab,s1,s2,s3⟩:=bZb (l:=l) (Ah:=Ah) (dc:=dc) (r7:=r7) (nb:=nu+Ba) (mb:=m1) (tb:=t1) (d1:=k1) (d2:=Ce) (j:=j) (by omega) (by omega) q2 q3 (by omega) Hs hs
  exact ⟨m1,t1,k1,m2,t2,b,mu,ab,by omega,s2,q4,s3⟩
 by_cases h1:1<nu+Ba
 ·by_cases h5:Dl<5
  ·obtain ⟨c,Gq,Gr,O6⟩:∃ r m t,pQ (3:Int) l Cl Dn=(r,m,t):=⟨_,_,_,rfl⟩
   have Rc:=aPa (3:Int) l Cl Dn;rw [O6] at Rc
   dsimp only at Rc
   cases c with
   | true =>
    obtain ⟨m1,t1,k1,m2,t2,b,mu,ab,q1,q2,q3,q4⟩:=rest Gq Gr 7 (by omega) (by omega)
    exact ⟨_,_,_,_,hI.snoc q2 (by omega) q1,bEg (C8:=dc++[[nu+Ba,k1,Ce,b,mu,ab]]) hj (by omega) (by omega) e3 (by show _∧_;omega) (by omega) e6 (by omega) e8 h1 h5 (by omega) O6 rfl q3 q4 ⟨rfl,by omega⟩ hin rfl (by simp) (by simp)⟩
   | false =>
    obtain ⟨m1,t1,k1,m2,t2,b,mu,ab,q1,q2,q3,q4⟩:=rest Gq Gr Dl (by omega) (by omega)
    exact ⟨_,_,_,_,hI.snoc q2 (by omega) q1,bEh (C8:=dc++[[nu+Ba,k1,Ce,b,mu,ab]]) hj (by omega) (by omega) e3 (by show _∧_;omega) (by omega) e6 (by omega) e8 h1 h5 (by omega) O6 rfl q3 q4 ⟨rfl,by omega⟩ hin rfl (by simp) (by simp)⟩
  ·obtain ⟨m1,t1,k1,m2,t2,b,mu,ab,q1,q2,q3,q4⟩:=rest Cl Dn Dl (by omega) (by omega)
   exact ⟨_,_,_,_,hI.snoc q2 (by omega) q1,bEi (C8:=dc++[[nu+Ba,k1,Ce,b,mu,ab]]) hj (by omega) (by omega) e3 (by show _∧_;omega) (by omega) e6 (by omega) e8 h1 (by omega) q3 q4 ⟨rfl,by omega⟩ hin rfl (by simp) (by simp)⟩
 ·obtain ⟨m1,t1,k1,m2,t2,b,mu,ab,q1,q2,q3,q4⟩:=rest Cl Dn Dl (by omega) (by omega)
  exact ⟨_,_,_,_,hI.snoc q2 (by omega) q1,bEj (C8:=dc++[[nu+Ba,k1,Ce,b,mu,ab]]) hj (by omega) (by omega) e3 (by show _∧_;omega) (by omega) e6 (by omega) e8 (by omega) q3 q4 ⟨rfl,by omega⟩ hin rfl (by simp) (by simp)⟩
end
section

abbrev dN(x:List Int):Int:=x.getD 0 0
abbrev dK(x:List Int):Int:=x.getD 1 0
abbrev dMi(x:List Int):Int:=x.getD 2 0
abbrev dB(x:List Int):Int:=x.getD 3 0
abbrev dMu(x:List Int):Int:=x.getD 4 0
abbrev dAb(x:List Int):Int:=x.getD 5 0
def mY(k:Int):Bool:=k == 4 || k == 7
def cL(k:Int):Bool:=k == 8 || k == 9

def bR(dc:Lqq)(n:Int):Lqq:=dc.reverse.filter fun x=>dAb x == n

structure DS where
 x:List Int
 cnt:Bool
 upd:Bool
 rul:Option (List Int)
 chg:Option (List Int)
 much:Int

def kG(t:List DS)(n:Int):List DS:=t.reverse.filter fun s=>dAb s.x == n
def pT(dl:Int)(x:List Int):Bool:=mY (dK x) && decide (dl<dMi x)
def wE(x y:List Int):Bool:=dK y == 5 || (dK y == 7 && !cL (dK x))
def bNs(x:List Int)(s:DS):Bool:=wE x s.x && s.cnt && (dK s.x == 5 || s.upd)
def mkS(dl:Int)(oc x:List Int)(t:List DS):DS :=
 ⟨x,!pT dl x && !((kG t (dN x)).any (bNs x)),
  match (kG t (dN x)).find? fun s=>cL (dK s.x) && s.cnt with
   | some s=>dK s.x == 8
   | none=>oc.contains (dN x),
  ((kG t (dN x)).find? fun s=>cL (dK s.x) && s.cnt).map (·.x),
  ((kG t (dN x)).find? fun s=>dK s.x == 6 && s.cnt).map (·.x),
  match (kG t (dN x)).find? fun s=>dK s.x == 6 && s.cnt with
   | some s=>s.much
   | none=>dMu x⟩
def gT(dl:Int)(oc:List Int):Lqq→List DS
 | []=>[]
 | x::r=>mkS dl oc x (gT dl oc r)::gT dl oc r

theorem aLh(dl:Int)(oc:List Int):∀ dc:Lqq,(gT dl oc dc).map (·.x)=dc
 | []=>rfl
 | x::r=>by rw [gT,iK,aLh dl oc r];rfl
theorem bUp(dl:Int)(oc:List Int)(dc:Lqq)(n:Int):(kG (gT dl oc dc) n).map (·.x)=bR dc n:=by
 unfold kG bR
 conv=>rhs;rw [← aLh dl oc dc]
 rw [← List.map_reverse,List.filter_map];rfl

structure dA (dc:Lqq):Prop where
 ud:uni 6 dc
 len:dc.length≤1000
 rng:∀ x∈dc,dcB x=true
 up:dc.Pairwise fun a b=>dN a<dN b
 ord:∀ x∈dc,orB x=true

theorem dA.tail{x:List Int}{r:Lqq}(h:dA (x::r)):dA r :=
 ⟨fun y hy=>h.ud y (B3 _ hy),by have:=h.len;simp at this;omega,fun y hy=>h.rng y (B3 _ hy),(bSc.1 h.up).2,fun y hy=>h.ord y (B3 _ hy)⟩
theorem aVl{a r:Lqq}{x:List Int}(h:dA (a++x::r)):bR (a++x::r) (dN x)=bR r (dN x):=by
 unfold bR;have e:a++x::r=(a++[x])++r:=by simp
 rw [e,List.reverse_append,aFz];have:(a++[x]).reverse.filter (fun y=>dAb y == dN x)=[]:=by
  rw [List.filter_eq_nil_iff];intro y hy;have hy:y∈a++[x]:=bDn.1 hy;have hm:y∈a++x::r:=by rw [e];exact gD _ hy
  have Rm:1≤dN x:=(jM.1 (h.rng x (by simp))).1.1
  have hle:dN y≤dN x:=by
   rcases dY.1 hy with hy | hy
   ·exact Int.le_of_lt ((List.pairwise_append.1 h.up).2.2 y hy x (by simp))
   ·simp at hy;rw [hy];exact aTx _
  have ho:=h.ord y hm;unfold orB at ho
  simp only [beq_iff_eq];show ¬ y.getD 5 0=x.getD 0 0
  split at ho
  ·have:y.getD 5 0=0:=by simpa using ho
   unfold dN at Rm;omega
  ·have:=within_iff.1 ho
   unfold dN at hle;omega
 rw [this,List.append_nil]

def zS(L:List (Int × Lqq))(k:Int):Lqq:=match L.find? fun e=>e.1 == k with
 | some e=>e.2
 | none=>[]
def aGd(L:List (Int × Lqq))(k:Int)(v:Lqq):List (Int × Lqq):=if L.any (fun e=>e.1 == k) then L.map (fun e=>if e.1 == k then (k,v) else e) else L++[(k,v)]
def iN(L:List (Int × Lqq))(x:List Int):List (Int × Lqq):=if 0<dAb x then aGd L (dAb x) (zS L (dAb x)++[x]) else L
def abM(dc:Lqq):List (Int × Lqq):=dc.reverse.foldl iN []

structure aPi (q:Lqq) (L:List (Int × Lqq)):Prop where
 nd:(L.map (·.1)).Nodup
 mem:∀ e∈L,0<e.1∧e.2≠[]∧e.2=q.filter fun x=>dAb x == e.1
 all:∀ x∈q,0<dAb x→dAb x∈L.map (·.1)
theorem aPi.look{q:Lqq}{L:List (Int × Lqq)}(h:aPi q L){n:Int}(hn:0<n):zS L n=q.filter fun x=>dAb x == n:=by
 unfold zS;cases hf:L.find? fun e=>e.1 == n with
 | some e =>
  have h1:=aAh hf;have h2:e.1=n:=by simpa using bDo hf
  rw [← h2];exact (h.mem e h1).2.2
 | none =>
  symm;rw [List.filter_eq_nil_iff];intro x hx he;have he:dAb x=n:=by simpa using he
  obtain ⟨e,h1,h2⟩:=Bi.1 (h.all x hx (by omega))
  have:=aCx.1 hf e h1;exact this (by rw [h2,he];exact beq_self_eq_true n)
theorem bNt{L:List (Int × Lqq)}{k:Int}{v:Lqq}{e:Int × Lqq}(h:e∈aGd L k v):e=(k,v)∨(e∈L∧e.1≠k):=by
 unfold aGd at h
 split at h
 ·obtain ⟨z,hz,rfl⟩:=Bi.1 h
  by_cases hk:z.1=k
  ·left;simp [hk]
  ·right;simp [hk,hz]
 ·rename_i hn
  rcases dY.1 h with h | h
  ·right
   refine ⟨h,fun hk=>hn (List.any_eq_true.2 ⟨e,h,by simpa using hk⟩)⟩
  ·left;simpa using h
theorem bFz{L:List (Int × Lqq)}{k:Int}{v:Lqq}:(k∈L.map (·.1)∧(aGd L k v).map (·.1)=L.map (·.1))∨(k∉L.map (·.1)∧(aGd L k v).map (·.1)=L.map (·.1)++[k]):=by
 unfold aGd
 by_cases h:L.any (fun e=>e.1 == k)=true
 ·left
  rw [if_pos h];refine ⟨?_,?_⟩
  ·obtain ⟨e,h1,h2⟩:=List.any_eq_true.1 h
   exact Bi.2 ⟨e,h1,by simpa using h2⟩
  ·rw [sQ]
   refine xX fun e _ => ?_
   by_cases hk:e.1=k
   ·simp [hk]
   ·simp [hk]
 ·right
  rw [if_neg h];refine ⟨fun hm=>h ?_,by simp⟩
  obtain ⟨e,h1,h2⟩:=Bi.1 hm;exact List.any_eq_true.2 ⟨e,h1,by simpa using h2⟩
theorem aPi.step{q:Lqq}{L:List (Int × Lqq)}(h:aPi q L)(x:List Int)(hx:0≤dAb x):aPi (q++[x]) (iN L x):=by
 unfold iN
 by_cases hp:0<dAb x
 ·rw [if_pos hp]
  have hk:=bFz (L:=L) (k:=dAb x) (v:=zS L (dAb x)++[x]);refine ⟨?_,fun e he => ?_,fun y hy h0 => ?_⟩
  ·rcases hk with ⟨_,hk⟩ | ⟨hn,hk⟩
   ·rw [hk];exact h.nd
   ·rw [hk,List.nodup_append]
    exact ⟨h.nd,by simp,fun a ha b hb he=>hn (by rw [← List.mem_singleton.1 hb,← he];exact ha)⟩
  ·rcases bNt he with rfl | ⟨h1,h2⟩
   ·refine ⟨hp,by simp,?_⟩
    dsimp only;rw [h.look hp,aFz];simp
   ·obtain ⟨q1,q2,q3⟩:=h.mem e h1
    refine ⟨q1,q2,?_⟩;rw [aFz,← q3];have:[x].filter (fun y=>dAb y == e.1)=[]:=by
     rw [List.filter_eq_nil_iff];intro y hy;simp at hy
     subst hy;simpa using fun he=>h2 he.symm
    rw [this,List.append_nil]
  ·have:dAb y=dAb x∨dAb y∈L.map (·.1):=by
    rcases dY.1 hy with hy | hy
    ·exact .inr (h.all y hy h0)
    ·simp at hy;left;rw [hy]
   rcases hk with ⟨hm,hk⟩ | ⟨hn,hk⟩
   ·rw [hk]
    rcases this with h1 | h1
    ·rw [h1];exact hm
    ·exact h1
   ·rw [hk]
    rcases this with h1 | h1
    ·rw [h1];simp
    ·exact gD _ h1
 ·rw [if_neg hp]
  have h0:dAb x=0:=by omega
  refine ⟨h.nd,fun e he => ?_,fun y hy h1 => ?_⟩
  ·obtain ⟨q1,q2,q3⟩:=h.mem e he
   refine ⟨q1,q2,?_⟩;rw [aFz,← q3];have:[x].filter (fun y=>dAb y == e.1)=[]:=by
    rw [List.filter_eq_nil_iff];intro y hy;simp at hy
    subst hy;simp only [beq_iff_eq];omega
   rw [this,List.append_nil]
  ·rcases dY.1 hy with hy | hy
   ·exact h.all y hy h1
   ·simp at hy;rw [hy] at h1;omega
theorem yF:∀ (p q:Lqq) (L:List (Int × Lqq)),aPi q L→(∀ x∈p,0≤dAb x)→aPi (q++p) (p.foldl iN L)
 | [],q,L,h,_=>by simpa using h
 | x::p,q,L,h,hp=>by
  have:=yF p (q++[x]) (iN L x) (h.step x (hp x (gO ..))) (fun y hy=>hp y (B3 _ hy))
  simpa using this
theorem yG{dc:Lqq}(h:dA dc):∀ x∈dc,0≤dAb x∧dAb x≤9998:=fun x hx=>by
 have h1:=jM.1 (h.rng x hx);have ho:=h.ord x hx;unfold orB at ho
 show 0≤x.getD 5 0∧x.getD 5 0≤9998
 split at ho
 ·have:x.getD 5 0=0:=by simpa using ho
  omega
 ·have:=within_iff.1 ho;omega
theorem aVm{dc:Lqq}(h:dA dc):aPi dc.reverse (abM dc):=by
 have:=yF dc.reverse [] [] ⟨by simp,fun e he=>(by cases he),fun x hx=>(by cases hx)⟩ (fun x hx=>(yG h x (by simpa using hx)).1)
 simpa [abM] using this
theorem bNu{dc:Lqq}(h:dA dc){n:Int}(hn:0<n):zS (abM dc) n=bR dc n:=(aVm h).look hn
end
section

def stF(dl:Int)(oc:List Int)(dc:Lqq)(x:List Int):DS:=((gT dl oc dc).find? fun s=>s.x == x).getD (mkS dl oc x [])
def dM(dl:Int)(oc:List Int)(dc:Lqq)(x:List Int):Bool:=(stF dl oc dc x).cnt
def aGc(dl:Int)(oc:List Int)(dc:Lqq)(x:List Int):Bool:=(stF dl oc dc x).upd
def aLe(dl:Int)(oc:List Int)(dc:Lqq)(x:List Int):Option (List Int):=(stF dl oc dc x).rul
def aLf(dl:Int)(oc:List Int)(dc:Lqq)(x:List Int):Option (List Int):=(stF dl oc dc x).chg
def oK(dl:Int)(oc:List Int)(dc:Lqq)(x:List Int):Int:=(stF dl oc dc x).much

theorem aPg{a r:Lqq}{x:List Int}(h:dA (a++x::r)){y:List Int}(hy:y∈a):dN y<dN x:=(List.pairwise_append.1 h.up).2.2 y hy x (by simp)
theorem aPh(dl:Int)(oc:List Int){x:List Int}{r:Lqq}:∀ (a:Lqq),dA (a++x::r)→(gT dl oc (a++x::r)).find? (fun s=>s.x == x)=some (mkS dl oc x (gT dl oc r))
 | [],h=>by
  simp only [List.nil_append,gT];rw [List.find?_cons_of_pos];show (mkS dl oc x (gT dl oc r)).x == x;exact beq_self_eq_true x
 | y::a,h=>by
  simp only [List.cons_append,gT];rw [List.find?_cons_of_neg,aPh dl oc a h.tail];show ¬ ((mkS dl oc y (gT dl oc (a++x::r))).x == x)=true;have h1:=aPg h (y:=y) (by simp)
  intro he;have:y=x:=by simpa [mkS] using he
  rw [this] at h1;omega
theorem aDp{dl:Int}{oc:List Int}{a r:Lqq}{x:List Int}(h:dA (a++x::r)):stF dl oc (a++x::r) x=mkS dl oc x (gT dl oc r):=by
 unfold stF;rw [aPh dl oc a h];rfl
theorem bAp(dl:Int)(oc:List Int)(r:Lqq):∀ a:Lqq,∃ l,gT dl oc (a++r)=l++gT dl oc r
 | []=>⟨[],rfl⟩
 | y::a=>by
  obtain ⟨l,h⟩:=bAp dl oc r a;exact ⟨mkS dl oc y (gT dl oc (a++r))::l,by simp [gT,h]⟩
theorem bAq{dl:Int}{oc:List Int}{s:DS}:∀ {dc:Lqq},s∈gT dl oc dc→∃ a r,dc=a++s.x::r∧s=mkS dl oc s.x (gT dl oc r)
 | [],h=>by simp [gT] at h
 | y::q,h=>by
  simp only [gT,eO] at h
  rcases h with rfl | h
  ·exact ⟨[],q,rfl,rfl⟩
  ·obtain ⟨a,r,h1,h2⟩:=bAq h
   exact ⟨y::a,r,by rw [h1];rfl,h2⟩
theorem bFy{dl:Int}{oc:List Int}{dc:Lqq}{s:DS}(h:dA dc)(hs:s∈gT dl oc dc):stF dl oc dc s.x=s:=by
 obtain ⟨a,r,h1,h2⟩:=bAq hs;subst h1;rw [aDp h,← h2]
theorem aVk{dl:Int}{oc:List Int}{dc:Lqq}{x:List Int}(h:dA dc)(hx:x∈dc):(stF dl oc dc x).x=x:=by
 obtain ⟨a,r,rfl⟩:=List.append_of_mem hx;rw [aDp h];rfl
theorem rG{dl:Int}{oc:List Int}{a r:Lqq}{x:List Int}(h:dA (a++x::r)):kG (gT dl oc r) (dN x)=(bR (a++x::r) (dN x)).map (stF dl oc (a++x::r)):=by
 rw [aVl h,← bUp dl oc r (dN x),sQ]
 conv=>lhs;rw [← List.map_id (kG (gT dl oc r) (dN x))]
 refine xX fun s hs => ?_
 have hs:s∈gT dl oc r:=by
  unfold kG at hs
  exact bDn.1 (sP.1 hs).1
 have e:a++x::r=(a++[x])++r:=by simp
 have:s∈gT dl oc (a++x::r):=by
  obtain ⟨l,hl⟩:=bAp dl oc r (a++[x]);rw [e,hl];exact oE _ hs
 exact (bFy h this).symm

theorem eH{dc:Lqq}{n:Int}{y:List Int}(h:y∈bR dc n):y∈dc∧dAb y=n:=by
 unfold bR at h
 obtain ⟨h1,h2⟩:=sP.1 h;exact ⟨bDn.1 h1,by simpa using h2⟩
section
variable {dl:Int} {oc:List Int} {dc:Lqq} {x:List Int}
theorem cBz(h:dA dc)(l:Lqq)(hl:∀ y∈l,y∈dc)(f:DS→Bool)(g:List Int→Bool)(hfg:∀ y∈dc,f (stF dl oc dc y)=g y):(l.map (stF dl oc dc)).any f=l.any g:=by
 rw [List.any_map]
 induction l with
 | nil=>rfl
 | cons y l ih =>
  rw [List.any_cons,List.any_cons,ih fun z hz=>hl z (B3 _ hz)]
  rw [Function.comp,hfg y (hl y (gO ..))]
theorem aAy(h:dA dc)(l:Lqq)(hl:∀ y∈l,y∈dc)(f:DS→Bool)(g:List Int→Bool)(hfg:∀ y∈dc,f (stF dl oc dc y)=g y):(l.map (stF dl oc dc)).find? f=(l.find? g).map (stF dl oc dc):=by
 induction l with
 | nil=>rfl
 | cons y l ih =>
  rw [iK,List.find?_cons,List.find?_cons,hfg y (hl y (gO ..)),ih fun z hz=>hl z (B3 _ hz)]
  cases g y <;> rfl
theorem cCa(h:dA dc)(hx:x∈dc):dM dl oc dc x=(!pT dl x && !((bR dc (dN x)).any fun y=>wE x y && dM dl oc dc y && (dK y == 5 || aGc dl oc dc y))):=by
 obtain ⟨a,r,rfl⟩:=List.append_of_mem hx;unfold dM;rw [aDp h];simp only [mkS];rw [rG h,cBz (dl:=dl) (oc:=oc) h _ (fun y hy=>(eH hy).1) (bNs x) (fun y=>wE x y && dM dl oc (a++x::r) y && (dK y == 5 || aGc dl oc (a++x::r) y)) (fun y hy => ?_)]
 ·rfl
 ·unfold bNs dM aGc
  rw [aVk h hy]
theorem tA{l:Lqq}{g:List Int→Bool}{y:List Int}(h:l.find? g=some y):y∈l:=aAh h
theorem aDq(h:dA dc)(l:Lqq)(hl:∀ y∈l,y∈dc)(g:List Int→Bool):((l.find? g).map (stF dl oc dc)).map (·.x)=l.find? g:=by
 cases hf:l.find? g with
 | none=>rfl
 | some y=>simp only [Option.map_some];rw [aVk h (hl y (tA hf))]
theorem aLg(h:dA dc)(hx:x∈dc):aLe dl oc dc x=(bR dc (dN x)).find? fun y=>cL (dK y) && dM dl oc dc y:=by
 obtain ⟨a,r,rfl⟩:=List.append_of_mem hx;unfold aLe;rw [aDp h];simp only [mkS];rw [rG h,aAy (dl:=dl) (oc:=oc) h _ (fun y hy=>(eH hy).1) _ (fun y=>cL (dK y) && dM dl oc (a++x::r) y) (fun y hy => ?_),aDq h _ (fun y hy=>(eH hy).1)]
 unfold dM;rw [aVk h hy]
theorem cCb(h:dA dc)(hx:x∈dc):aGc dl oc dc x=match aLe dl oc dc x with | some y=>dK y == 8 | none=>oc.contains (dN x):=by
 rw [aLg h hx];obtain ⟨a,r,rfl⟩:=List.append_of_mem hx;unfold aGc;rw [aDp h];simp only [mkS];rw [rG h,aAy (dl:=dl) (oc:=oc) h _ (fun y hy=>(eH hy).1) _ (fun y=>cL (dK y) && dM dl oc (a++x::r) y) (fun y hy => ?_)]
 ·cases hf:(bR (a++x::r) (dN x)).find? fun y=>cL (dK y) && dM dl oc (a++x::r) y with
  | none=>rfl
  | some y=>simp only [Option.map_some];rw [aVk h (eH (tA hf)).1]
 ·unfold dM;rw [aVk h hy]
theorem aDr(h:dA dc)(hx:x∈dc):aLf dl oc dc x=(bR dc (dN x)).find? fun y=>dK y == 6 && dM dl oc dc y:=by
 obtain ⟨a,r,rfl⟩:=List.append_of_mem hx;unfold aLf;rw [aDp h];simp only [mkS];rw [rG h,aAy (dl:=dl) (oc:=oc) h _ (fun y hy=>(eH hy).1) _ (fun y=>dK y == 6 && dM dl oc (a++x::r) y) (fun y hy => ?_),aDq h _ (fun y hy=>(eH hy).1)]
 unfold dM;rw [aVk h hy]
theorem bAr(h:dA dc)(hx:x∈dc):oK dl oc dc x=match aLf dl oc dc x with | some y=>oK dl oc dc y | none=>dMu x:=by
 rw [aDr h hx];obtain ⟨a,r,rfl⟩:=List.append_of_mem hx;unfold oK;rw [aDp h];simp only [mkS];rw [rG h,aAy (dl:=dl) (oc:=oc) h _ (fun y hy=>(eH hy).1) _ (fun y=>dK y == 6 && dM dl oc (a++x::r) y) (fun y hy => ?_)]
 ·cases hf:(bR (a++x::r) (dN x)).find? fun y=>dK y == 6 && dM dl oc (a++x::r) y with
  | none=>rfl
  | some y=>rfl
 ·unfold dM;rw [aVk h hy]
theorem bNr(h:dA dc){y:List Int}(hy:y∈dc){n:Int}(hn:dAb y=n)(h1:1≤n):n<dN y:=by
 have ho:=h.ord y hy;unfold orB at ho
 split at ho
 ·have:y.getD 5 0=0:=by simpa using ho
  rw [show y.getD 5 0=dAb y from rfl] at this;omega
 ·have:=within_iff.1 ho
  rw [show y.getD 5 0=dAb y from rfl] at this
  rw [show y.getD 0 0=dN y from rfl] at this
  omega
end
end
section

theorem cFu{dc:Lqq}{base:Nat}:FV Tp 89 [(.p (fS dc))] base (.fn 157 [] [(.rp [(fS dc)] 0)]) []:=FV.fi func89 [.g 3 ⟨[],[],[0],[]⟩] gn
end
section
variable {P:Program} {C C0:Cx} {M M0:Mem} {w w0:World}

theorem bJ{w:World}{b:Nat}{o:Obj}(h:w.heap[b]? = some o):b<w.heap.size:=(xW.1 h).1

theorem aDx(hM:aP P C M w){w':World}(hsz:w.heap.size≤w'.heap.size)(hF:∀ b,C.F b→w'.heap[b]? = w.heap[b]?)(hL:∀ (id:Nat) (o:AO) (b:Nat),M[id]? = some (some o)→o.live=true→C.ι id=some b→w'.heap[b]? = w.heap[b]?) :
  aP P C M w'∧Le C C M M w w':=by
 have hle:Le C C M M w w':=⟨fun _ o h=>⟨o,h⟩,fun _ _ _ _ _ cs h=>⟨cs,h⟩,fun _ o h o' h' hl=>by rw [h] at h';cases h';exact ⟨hl,rfl,rfl⟩,fun _ h=>h,hF⟩
 refine ⟨⟨fun i Cc n cs hm => ?_,fun i Cc cs hm => ?_,fun i es cl hm => ?_,hM.inj,hM.nF,fun b hb=>fK (hM.Fs b hb) hsz,fun i x b hm hl hb=>fK (hM.lt i x b hm hl hb) hsz⟩,hle⟩
 ·rcases hM.row _ _ _ _ hm with h4 | ⟨b,arr,inf,q0,q1,q2,q3,q4,q5,q6,q7,q8⟩
  ·exact .inl h4
  ·exact .inr ⟨b,arr,inf,q0,by rw [hL _ _ _ hm rfl q0];exact q1,q2,q3,q4,q5,q6,fun j hj=>(q7 j hj).mono hle.F hle.fz,q8⟩
 ·obtain ⟨b,arr,q0,q1,q2,q3,q4⟩:=hM.box _ _ _ hm
  exact ⟨b,arr,q0,by rw [hL _ _ _ hm rfl q0];exact q1,q2,fun j hj=>(q3 j hj).mono hle,q4⟩
 ·obtain ⟨b,arr,q0,q1,q2,q3⟩:=hM.mp _ _ _ hm
  refine ⟨b,arr,q0,by rw [hL _ _ _ hm rfl q0];exact q1,q2,fun j hj => ?_⟩
  obtain ⟨en,r1,r2,r3,r4⟩:=q3 j hj;exact ⟨en,r1,r2,r3,r4.mono hle.F hle.fz⟩

theorem Sim.beside{R R':List (Nat × Obj)}{st:St}{a:Act}{w':World}(h:Sim P (C0.with R) M0 w0 st a w)(X:Nat→Prop)(hX:∀ b,X b→∃ o,(b,o)∈R)(h1:w'.os=w.os)(h2:w'.tape=w.tape)(h3:w'.output=w.output)
  (hsz:w.heap.size≤w'.heap.size) (hk:∀ b,b<w.heap.size→¬ X b→w'.heap[b]? = w.heap[b]?)
  (Rv:∀ p∈R',(p∈R∧¬ X p.1)∨(w'.heap[p.1]? = some p.2∧p.2 ≠ .deferred (some [])∧(w.heap.size≤p.1∨∃ o,(p.1,o)∈R))):Sim P (C0.with R') M0 w0 st a w':=by
 obtain ⟨C,hS,hM,hF,⟨l,m1,m2,m3⟩,hR,hP⟩:=h;have hXR:∀ b,X b→∃ o,w.heap[b]? = some o∧w0.heap.size≤b∧o ≠ .deferred (some [])∧¬ C.F b∧∀ (id:Nat) (o:AO),st.m[id]? = some (some o)→o.live=true→C.ι id≠some b:=fun b hb=>by
  obtain ⟨o,ho⟩:=hX b hb;exact ⟨o,hR _ ho⟩
 have hFz:∀ b,C.F b→w'.heap[b]? = w.heap[b]? := fun b hb=>hk b (hM.Fs b hb) (fun hx=>by obtain ⟨_,_,_,_,q,_⟩:=hXR b hx;exact q hb)
 have hLv:∀ (id:Nat) (o:AO) (b:Nat),st.m[id]? = some (some o)→o.live=true→C.ι id=some b→w'.heap[b]? = w.heap[b]? := fun id o b ho hl hb=>hk b (hM.lt _ _ _ ho hl hb) (fun hx=>by obtain ⟨_,_,_,_,_,q⟩:=hXR b hx;exact q id o ho hl hb)
 obtain ⟨Eb,hle⟩:=aDx hM hsz hFz hLv;refine ⟨C,hS.le hle,Eb,⟨h1.trans hF.os,h2.trans hF.tape,h3.trans hF.out,jY hF.size hsz,fun b hb hn=>(hk b (fK hb hF.size) (fun hx=>by obtain ⟨_,_,q,_⟩:=hXR b hx;omega)).trans (hF.keep b hb hn),hF.ids,hF.row,hF.liv,hF.new,hF.F1,hF.F2⟩,⟨l,m1,m2,fun D hD => ?_⟩,fun p hp => ?_,fun i to ti sz L hm => ?_,hP.2⟩
 ·obtain ⟨q1,q2,q3⟩:=m3 D hD
  refine ⟨(hk D (bJ q1) (fun hx => ?_)).trans q1,q2,q3⟩
  obtain ⟨o,r1,_,r3,_⟩:=hXR D hx;rw [q1] at r1;cases r1;exact r3 rfl
 ·rcases Rv p hp with ⟨hin,hx⟩ | ⟨r1,r2,r3⟩
  ·obtain ⟨q1,q2,q3,q4,q5⟩:=hR p hin
   exact ⟨(hk _ (bJ q1) hx).trans q1,q2,q3,q4,q5⟩
  ·rcases r3 with r3 | ⟨o,ho⟩
   ·refine ⟨r1,jY hF.size r3,r2,fun hf => ?_,fun id o ho hl hb => ?_⟩
    ·have:=hM.Fs _ hf;omega
    ·have:=hM.lt _ _ _ ho hl hb;omega
   ·obtain ⟨q1,q2,q3,q4,q5⟩:=hR _ ho
    exact ⟨r1,q2,r2,q4,q5⟩
 ·obtain ⟨p,p0,p1⟩:=hP.1 _ _ _ _ _ hm
  refine ⟨p.move p.io rfl (fun _ h=>h) hFz fun b hb=>⟨hk b (p.lt hb).1 fun hx => ?_,p.own b hb⟩,p0,fun b hb=>⟨(p1 b hb).1,fun q hq e => ?_⟩⟩
  ·obtain ⟨o,ho⟩:=hX b hx
   exact (p1 b hb).2 _ ho rfl
  ·rcases Rv q hq with ⟨hin,_⟩ | ⟨_,_,r3⟩
   ·exact (p1 b hb).2 q hin e
   ·rcases r3 with r3 | ⟨o,ho⟩
    ·have:=(p.lt hb).1;omega
    ·exact (p1 b hb).2 _ ho e

theorem Sim.less{R R':List (Nat × Obj)}{st:St}{a:Act}(h:Sim P (C0.with R) M0 w0 st a w)(hR:∀ p∈R',p∈R):Sim P (C0.with R') M0 w0 st a w :=
 h.beside (fun _=>False) (fun _ h=>h.elim) rfl rfl rfl (dJ _) (fun _ _ _=>rfl) (fun p hp => .inl ⟨hR p hp,id⟩)

theorem Sim.has{R:List (Nat × Obj)}{st:St}{a:Act}(h:Sim P (C0.with R) M0 w0 st a w):∀ p∈R,w.heap[p.1]? = some p.2:=fun p hp=>by
 obtain ⟨C,_,_,_,_,hR,_⟩:=h;exact (hR p hp).1

theorem Sim.put{st:St}{a:Act}(h:Sim P C0 M0 w0 st a w)(d:Option Tmp){x:AV}{u:Value}(hx:∀ (C:Cx) (M:Mem),Rep C M w x u):Sim P C0 M0 w0 ⟨KV.put st.t d x,st.m⟩ (a.put d u) w:=by
 obtain ⟨C,hS,hM,hF,hD⟩:=h;refine ⟨C,hS.put (hx _ _),hM,hF,?_⟩;have:(a.put d u).defers=a.defers:=by unfold Act.put;split <;> rfl
 rw [this];exact hD

theorem Sim.hand{R:List (Nat × Obj)}{st:St}{a:Act}{b ty n cap k d:Nat}{cs:List PV}{arr:Array Value}{i:TypeInfo}(h:Sim P (C0.with ((b,.cells arr ty (0,0))::R)) M0 w0 st a w)(hb:∀ p∈R,p.1≠b)
  (hk:M0.length≤k) (hf:xQ st.m k) (hd:a.tmps.getD d undef = .slice (some ⟨b,0,none⟩) n cap) (hi:P.info? ty=some i) (harr:arr.size=cap*i.size) (hcs:cs.length=n*i.size) (hn:n≤cap) (hc:cap≤maxLen)
  (hrep:∀ (F:Nat→Prop) j (h:j<cs.length),bQ F w cs[j] (arr.getD j undef)) (h1:∀ j,j<cs.length→(arr.getD j undef).oneCell'=true):Sim P (C0.with R) M0 w0 ⟨st.t.set d (.own k),aX st.m k (some (.row ty n cs))⟩ a w:=by
 obtain ⟨C,hS,hM,hF,hm,hR,hP⟩:=h;obtain ⟨q1,q2,q3,q4,q5⟩:=hR _ (gO ..);dsimp only at q1 q2 q4 q5
 have hne:∀ (j:Nat) (o':AO),st.m[j]? = some (some o')→j≠k:=fun j o' h e=>hf o' (e ▸ h)
 have hold:∀ (j:Nat) (o':AO),j≠k→(aX st.m k (some (.row ty n cs)))[j]? = some (some o')→st.m[j]? = some (some o'):=fun j o' h=>(aN st.m k j _ o' (fun e=>h e.symm)).1
 have hfw:∀ (j:Nat) (o':AO),st.m[j]? = some (some o')→(aX st.m k (some (.row ty n cs)))[j]? = some (some o'):=fun j o' h=>(aN st.m k j _ o' (fun e=>hne j o' h e.symm)).2 h
 have hι:∀ j,j≠k→(C.grow k b cap).ι j=C.ι j:=fun j h=>by simp [Cx.grow,h]
 have hκ:∀ j,j≠k→(C.grow k b cap).κ j=C.κ j:=fun j h=>by simp [Cx.grow,h]
 have hιs:(C.grow k b cap).ι k=some b:=by simp [Cx.grow]
 have hκs:(C.grow k b cap).κ k=cap:=by simp [Cx.grow]
 have hle:Le C (C.grow k b cap) st.m (aX st.m k (some (.row ty n cs))) w w:=by
  refine ⟨fun j o h=>⟨o,hfw j o h⟩,fun j o h Cc n' Be hm=>⟨Be,hold j _ (hne j o h) hm⟩,fun j o h o' hm hl => ?_,fun _ h=>h,fun _ _=>rfl⟩
  have:=hold j _ (hne j o h) hm;rw [h] at this;cases this
  exact ⟨hl,hι j (hne j o h),hκ j (hne j o h)⟩
 have hnew:∀ (o':AO),(aX st.m k (some (.row ty n cs)))[k]? = some (some o')→o' = .row ty n cs:=fun o' h=>by rw [aV] at h;cases h;rfl
 refine ⟨C.grow k b cap,⟨by simpa using hS.size,fun j hj => ?_⟩,⟨fun j Cc n' Be hm => ?_,fun j Cc Be hm => ?_,fun j es cl hm => ?_,fun j j' o1 o2 b' hm hl Cu De Bl Ct => ?_,fun j o' b' hm hl Al => ?_,hM.Fs,fun j o' b' hm hl Al => ?_⟩,
  ⟨hF.os,hF.tape,hF.out,hF.size,hF.keep,fun j o h => ?_,fun j o h Cc n' Be hm => ?_,fun j o h o' hm hl => ?_,fun j o b' hm hl Al => ?_,hF.F1,hF.F2⟩,hm,fun p hp => ?_,fun j to ti sz L hq => ?_,fun j j' to ti sz Nm Nn Np L L' hq Rw Qe c hc F3 => ?_⟩
 ·simp only [lP] at hj
  rw [oG]
  split
  ·rename_i e
   subst e;rw [hd];exact .own k _ rfl ⟨_,aV _ _ _⟩ (fun Cc n' Be hm=>by cases hnew _ hm;exact .inr ⟨b,by rw [hκs],hιs⟩)
  ·exact (hS.rep j hj).mono hle
 ·by_cases e:j=k
  ·subst e
   cases hnew _ hm;exact .inr ⟨b,arr,i,hιs,q1,hi,by rw [hκs];exact harr,hcs,by rw [hκs];exact hn,by rw [hκs];exact hc,fun j hj=>hrep _ j hj,h1⟩
  ·rw [hι j e,hκ j e]
   rcases hM.row _ _ _ _ (hold j _ e hm) with h4 | ⟨b,arr,inf,q0,q1,q2,q3,q4,q5,q6,q7,q8⟩
   ·exact .inl h4
   ·exact .inr ⟨b,arr,inf,q0,q1,q2,q3,q4,q5,q6,fun j hj=>(q7 j hj).mono hle.F hle.fz,q8⟩
 ·by_cases e:j=k
  ·subst e;cases hnew _ hm
  ·rw [hι j e]
   obtain ⟨b,arr,q0,q1,q2,q3,q4⟩:=hM.box _ _ _ (hold j _ e hm);exact ⟨b,arr,q0,q1,q2,fun j hj=>(q3 j hj).mono hle,q4⟩
 ·by_cases e:j=k
  ·subst e;cases hnew _ hm
  ·rw [hι j e]
   obtain ⟨b,arr,q0,q1,q2,q3⟩:=hM.mp _ _ _ (hold j _ e hm);refine ⟨b,arr,q0,q1,q2,fun j hj => ?_⟩
   obtain ⟨en,r1,r2,r3,r4⟩:=q3 j hj;exact ⟨en,r1,r2,r3,r4.mono hle.F hle.fz⟩
 ·by_cases e:j=k
  ·by_cases e':j'=k
   ·rw [e,e']
   ·subst e
    rw [hιs] at Bl;cases Bl
    rw [hι j' e'] at Ct
    exact absurd Ct (q5 _ _ (hold j' _ e' Cu) De)
  ·by_cases e':j'=k
   ·subst e'
    rw [hιs] at Ct;cases Ct
    rw [hι j e] at Bl
    exact absurd Bl (q5 _ _ (hold j _ e hm) hl)
   ·rw [hι j e] at Bl;rw [hι j' e'] at Ct
    exact hM.inj _ _ _ _ _ (hold j _ e hm) hl (hold j' _ e' Cu) De Bl Ct
 ·by_cases e:j=k
  ·subst e
   rw [hιs] at Al;cases Al
   exact q4
  ·rw [hι j e] at Al
   exact hM.nF _ _ _ (hold j _ e hm) hl Al
 ·by_cases e:j=k
  ·subst e
   rw [hιs] at Al;cases Al
   exact bJ q1
  ·rw [hι j e] at Al
   exact hM.lt _ _ _ (hold j _ e hm) hl Al
 ·have hj:j≠k:=by have:=(Bg.1 h).1;omega
  obtain ⟨⟨o',r1⟩,r2,r3⟩:=hF.ids j o h;exact ⟨⟨o',hfw j o' r1⟩,by rw [hι j hj];exact r2,by rw [hκ j hj];exact r3⟩
 ·have hj:j≠k:=by have:=(Bg.1 h).1;omega
  exact hF.row j o h _ _ _ (hold j _ hj hm)
 ·have hj:j≠k:=by have:=(Bg.1 h).1;omega
  exact hF.liv j o h o' (hold j _ hj hm) hl
 ·by_cases e:j=k
  ·subst e
   rw [hιs] at Al;cases Al
   exact .inl q2
  ·rw [hι j e] at Al
   exact hF.new j o b' (hold j _ e hm) hl Al
 ·obtain ⟨r1,r2,r3,r4,r5⟩:=hR p (B3 _ hp)
  refine ⟨r1,r2,r3,r4,fun j o ho hl Al => ?_⟩
  by_cases e:j=k
  ·subst e
   rw [hιs] at Al
   exact hb p hp (Option.some.inj Al).symm
  ·rw [hι j e] at Al
   exact r5 j o (hold j _ e ho) hl Al
 ·have e:j≠k:=fun e=>by subst e;cases hnew _ hq
  obtain ⟨p,p0,p1⟩:=hP.1 _ _ _ _ _ (hold j _ e hq);refine ⟨p.move (by rw [hι j e];exact p.io) (hκ j e) hle.F hle.fz fun c hc=>⟨rfl,(p.own c hc).1,fun j2 o2 ho hl Al => ?_⟩,p0,by rw [hκ j e];exact fun c hc=>⟨(p1 c hc).1,fun q Ns=>(p1 c hc).2 q (B3 _ Ns)⟩⟩
  by_cases e2:j2=k
  ·subst e2
   rw [hιs] at Al
   exact (p1 c hc).2 _ (gO ..) (Option.some.inj Al)
  ·rw [hι j2 e2] at Al
   exact (p.own c hc).2 j2 o2 (hold j2 _ e2 ho) hl Al
 ·have e:j≠k:=fun e=>by subst e;cases hnew _ hq
  have e':j'≠k:=fun e=>by subst e;cases hnew _ Rw
  rw [hκ j e] at hc;rw [hκ j' e'] at F3
  exact hP.2 _ _ _ _ _ _ _ _ _ _ (hold j _ e hq) (hold j' _ e' Rw) Qe c hc F3
end
section
open Go.Maps Go.MapKept
open Go.ChangeMaps (setBlock)

structure Ent where
 k:Int
 l:Lqq
 b:Nat
 cap:Nat
 arr:Array Value

def Ent.val(e:Ent):Value := .slice (some ⟨e.b,0,none⟩) e.l.length e.cap
def Ent.blk(e:Ent):Nat × Obj:=(e.b,.cells e.arr 84 (0,0))
structure Ent.OK (e:Ent):Prop where
 key:(Lit.int .i64 e.k).wf=true
 sz:e.arr.size=e.cap*6
 le:e.l.length≤e.cap
 cap:e.cap≤maxLen
 at_:e.arr.toList.take (e.l.length*6)=e.l.flatten.map (Value.int .i64)
 u:uni 6 e.l

structure MapOK (mb:Nat) (es:Array MapEntry) (L:List Ent):Prop where
 e1:∀ x∈es.toList,∃ e∈L,x.key = .int .i64 e.k∧x.val=e.val
 e2:∀ e∈L,∃ x∈es.toList,x.key = .int .i64 e.k∧x.val=e.val
 nd:es.toList.Pairwise (fun x y=>x.key≠y.key)
 ok:∀ e∈L,e.OK
 keys:(L.map (·.k)).Nodup
 blks:(mb::L.map (·.b)).Nodup
 ord:es.toList.map (fun x=>(x.key,x.val))=L.map fun e=>(Value.int .i64 e.k,e.val)

theorem MapOK.nil(mb:Nat):MapOK mb #[] []:=⟨fun x h=>by simp at h,fun e h=>by simp at h,by simp,fun e h=>by simp at h,by simp,by simp,rfl⟩

def lookE(L:List Ent)(k:Int):Option Ent:=L.find? fun e=>e.k == k
def lookV(L:List Ent)(k:Int):Value:=match lookE L k with
 | some e=>e.val
 | none => .slice none 0 0

theorem lookE_some{L:List Ent}{k:Int}{e:Ent}(h:lookE L k=some e):e∈L∧e.k=k:=⟨aAh h,by simpa using bDo h⟩
theorem lookE_none{L:List Ent}{k:Int}(h:lookE L k=none):∀ e∈L,e.k≠k:=fun e he hk=>by
 have:=aCx.1 h e he;simp [hk] at this
theorem lookE_mem{L:List Ent}{k:Int}{e:Ent}(hn:(L.map (·.k)).Nodup)(he:e∈L)(hk:e.k=k):lookE L k=some e:=by
 cases h:lookE L k with
 | none=>exact absurd hk (lookE_none h e he)
 | some e' =>
  obtain ⟨h1,h2⟩:=lookE_some h;have:∀ (l:List Ent),(l.map (·.k)).Nodup→e∈l→e'∈l→e=e':=by
   intro l
   induction l with
   | nil=>intro _ h;simp at h
   | cons x r ih =>
    intro hn h3 h4;rw [iK,List.nodup_cons] at hn
    rcases eO.1 h3 with e1 | h5
    ·rcases eO.1 h4 with e2 | h6
     ·rw [e1,e2]
     ·exact absurd (Bi.2 ⟨e',h6,by rw [h2,← hk,e1]⟩) hn.1
    ·rcases eO.1 h4 with e2 | h6
     ·exact absurd (Bi.2 ⟨e,h5,by rw [hk,← h2,e2]⟩) hn.1
     ·exact ih hn.2 h5 h6
  rw [this L hn he h1]

section
variable {P:Program} {w:World} {t kt et:TypeId} {mb:Nat} {es:Array MapEntry} {cl:Nat} {L:List Ent}

theorem keyInt(hkt:P.underlying kt=some (.int .i64)){k:Int}(hk:(Lit.int .i64 k).wf=true):keyOf P kt (.int .i64 k)=some (.int .i64 k):=keyOf_int_mk hkt hk

theorem look_run(ht:P.underlying t=some (.map kt et))(hkt:P.underlying kt=some (.int .i64))(hz:(zeroValue et).run P w = .ok (.slice none 0 0) w)(hb:w.heap[mb]? = some (.map es cl))(hM:MapOK mb es L){k:Int}(hk:(Lit.int .i64 k).wf=true) :
  (Instr.lookup t (.map (some mb)) (.int .i64 k) false).run P w = .ok (lookV L k) w:=by
 have K:=int_keyed hkt;have hkey:=keyInt hkt hk;have hes:∀ e∈es.toList,∃ l,keyOf P kt e.key=some l:=fun x hx=>by
  obtain ⟨e,he,h1,_⟩:=hM.e1 x hx;exact ⟨_,by rw [h1];exact keyInt hkt (hM.ok e he).key⟩
 rcases K.find w hkey es.toList hes with ⟨h1,h2⟩ | ⟨j,e0,h1,h2,h3⟩
 ·have:lookE L k=none:=by
   rw [lookE,aCx];intro e he;obtain ⟨x,hx,h4,_⟩:=hM.e2 e he;have:=h2 x hx;rw [h4] at this
   intro Ez;exact this (by rw [eq_of_beq Ez])
  unfold lookV;rw [this];simp [Instr.lookup,run_underlying ht,MapKept.run_getObj_map hb,K.check w _ hkey,h1,hz,Result.andThen]
 ·obtain ⟨e,he,h4,h5⟩:=hM.e1 e0 (Br h2)
  rw [h3] at h4
  have Ez:e.k=k:=by injection h4 with _ h;exact h.symm
  unfold lookV;rw [lookE_mem hM.keys he Ez];simp [Instr.lookup,run_underlying ht,MapKept.run_getObj_map hb,K.check w _ hkey,h1,Result.andThen,h5]

def putE(L:List Ent)(e:Ent):List Ent:=if L.any (fun x=>x.k == e.k) then L.map (fun x=>if x.k == e.k then e else x) else L++[e]
theorem wI{L:List Ent}{e:Ent}(h:∀ x∈L,x.k≠e.k):putE L e=L++[e]:=by
 unfold putE;rw [if_neg];intro h1;obtain ⟨x,hx,he⟩:=List.any_eq_true.1 h1;exact h x hx (by simpa using he)
theorem rI{L:List Ent}{e x:Ent}(hx:x∈L)(he:x.k=e.k):putE L e=L.map (fun x=>if x.k == e.k then e else x):=by
 unfold putE;rw [if_pos (List.any_eq_true.2 ⟨x,hx,by simpa using he⟩)]
theorem mem_putE{L:List Ent}{e x:Ent}:x∈putE L e↔(x∈L∧x.k≠e.k)∨x=e:=by
 by_cases h:∃ y∈L,y.k=e.k
 ·obtain ⟨y,hy,he⟩:=h
  rw [rI hy he,Bi];constructor
  ·rintro ⟨z,hz,rfl⟩
   by_cases hk:z.k=e.k
   ·rw [if_pos (by simpa using hk)];exact .inr rfl
   ·rw [if_neg (by simpa using hk)];exact .inl ⟨hz,hk⟩
  ·rintro (⟨h1,h2⟩ | rfl)
   ·exact ⟨x,h1,by rw [if_neg (by simpa using h2)]⟩
   ·exact ⟨y,hy,by rw [if_pos (by simpa using he)]⟩
 ·have h':∀ y∈L,y.k≠e.k:=fun y hy he=>h ⟨y,hy,he⟩
  rw [wI h',dY,List.mem_singleton];constructor
  ·rintro (h1 | h1)
   ·exact .inl ⟨h1,h' x h1⟩
   ·exact .inr h1
  ·rintro (⟨h1,_⟩ | h1)
   ·exact .inl h1
   ·exact .inr h1
theorem bGj{L:List Ent}{e:Ent}(hn:(L.map (·.k)).Nodup):((putE L e).map (·.k)).Nodup:=by
 by_cases h:∃ y∈L,y.k=e.k
 ·obtain ⟨y,hy,he⟩:=h
  rw [rI hy he,sQ];have:L.map ((fun x=>x.k) ∘ fun x=>if x.k == e.k then e else x)=L.map (·.k):=xX fun x _=>by
   by_cases hk:x.k=e.k
   ·simp [hk]
   ·simp [hk]
  rw [this];exact hn
 ·have h':∀ y∈L,y.k≠e.k:=fun y hy he=>h ⟨y,hy,he⟩
  rw [wI h',jJ,List.nodup_append];refine ⟨hn,by simp,fun x hx y hy => ?_⟩
  obtain ⟨z,hz,rfl⟩:=Bi.1 hx;simp at hy
  subst hy;exact h' z hz
theorem bGk{mb:Nat}{L:List Ent}{e:Ent}(hn:(L.map (·.k)).Nodup)(hb:(mb::L.map (·.b)).Nodup)(h1:e.b≠mb)(h2:∀ x∈L,x.k≠e.k→x.b≠e.b):(mb::(putE L e).map (·.b)).Nodup:=by
 obtain ⟨b1,b2⟩:=List.nodup_cons.1 hb;refine List.nodup_cons.2 ⟨?_,?_⟩
 ·intro hin
  obtain ⟨x,hx,hxb⟩:=Bi.1 hin
  rcases mem_putE.1 hx with ⟨h1,_⟩ | rfl
  ·exact b1 (Bi.2 ⟨x,h1,hxb⟩)
  ·exact h1 hxb
 ·by_cases h:∃ y∈L,y.k=e.k
  ·obtain ⟨y,hy,he⟩:=h
   rw [rI hy he,sQ,List.Nodup,List.pairwise_map];rw [List.Nodup,List.pairwise_map] at hn b2
   refine List.Pairwise.imp_of_mem ?_ (hn.and b2);intro x z hx hz ⟨q1,q2⟩;dsimp only [Function.comp]
   by_cases hk:x.k=e.k
   ·rw [if_pos (by simpa using hk),if_neg (by simp;rw [← hk];exact fun h=>q1 h.symm)]
    exact fun he=>h2 z hz (fun h=>q1 (by rw [hk,h])) he.symm
   ·rw [if_neg (by simpa using hk)]
    by_cases Eh:z.k=e.k
    ·rw [if_pos (by simpa using Eh)];exact h2 x hx hk
    ·rw [if_neg (by simpa using Eh)];exact q2
  ·have h':∀ y∈L,y.k≠e.k:=fun y hy he=>h ⟨y,hy,he⟩
   rw [wI h',jJ,List.nodup_append];refine ⟨b2,by simp,fun x hx y hy => ?_⟩
   obtain ⟨z,hz,rfl⟩:=Bi.1 hx;simp at hy
   subst hy;exact h2 z hz (h' z hz)

theorem put_run(ht:P.underlying t=some (.map kt et))(hkt:P.underlying kt=some (.int .i64))(hb:w.heap[mb]? = some (.map es cl))(hM:MapOK mb es L)(e:Ent)(he:e.OK)
  (hblk:e.b≠mb∧∀ x∈L,x.k≠e.k→x.b≠e.b) :
  ∃ Bn B5,(Instr.mapUpdate t (.map (some mb)) (.int .i64 e.k) e.val).run P w = .ok () (setBlock w mb (.map Bn B5))∧MapOK mb Bn (putE L e)∧((∀ x∈es.toList,x.born<cl)→∀ x∈Bn.toList,x.born<B5):=by
 have K:=int_keyed hkt;have hkey:=keyInt hkt he.key;have hes:∀ e∈es.toList,∃ l,keyOf P kt e.key=some l:=fun x hx=>by
  obtain ⟨e,he,h1,_⟩:=hM.e1 x hx;exact ⟨_,by rw [h1];exact keyInt hkt (hM.ok e he).key⟩
 have hok:∀ x∈putE L e,x.OK:=fun x hx=>by
  rcases mem_putE.1 hx with ⟨h1,_⟩ | rfl
  ·exact hM.ok x h1
  ·exact he
 have hkeys:((putE L e).map (·.k)).Nodup:=bGj hM.keys
 have hblks:(mb::(putE L e).map (·.b)).Nodup:=bGk hM.keys hM.blks hblk.1 hblk.2
 rcases K.find w hkey es.toList hes with ⟨h1,h2⟩ | ⟨j,e0,h1,h2,h3⟩
 ·refine ⟨es.push ⟨.int .i64 e.k,e.val,cl⟩,cl+1,?_,⟨fun x hx => ?_,fun x hx => ?_,?_,hok,hkeys,hblks,?_⟩,fun hbn x hx => ?_⟩
  ·simp [Instr.mapUpdate,run_underlying ht,MapKept.run_getObj_map hb,K.check w false hkey,h1,MapKept.run_setObj_map _ hb,Result.andThen,setBlock]
  ·simp only [Array.toList_push,dY,List.mem_singleton] at hx
   rcases hx with hx | rfl
   ·obtain ⟨y,hy,q1,q2⟩:=hM.e1 x hx
    refine ⟨y,mem_putE.2 (.inl ⟨hy,fun hk=>h2 x hx (by rw [q1,hk])⟩),q1,q2⟩
   ·exact ⟨e,mem_putE.2 (.inr rfl),rfl,rfl⟩
  ·rcases mem_putE.1 hx with ⟨q1,_⟩ | rfl
   ·obtain ⟨y,hy,q2⟩:=hM.e2 x q1
    exact ⟨y,by simp [hy],q2⟩
   ·exact ⟨⟨.int .i64 x.k,x.val,cl⟩,by simp,rfl,rfl⟩
  ·rw [Array.toList_push,List.pairwise_append]
   exact ⟨hM.nd,by simp,fun x hx y hy=>by simp at hy;subst hy;exact h2 x hx⟩
  ·have hno:∀ x∈L,x.k≠e.k:=fun x hx hk=>by
    obtain ⟨y,hy,q2,_⟩:=hM.e2 x hx;exact h2 y hy (by rw [q2,hk])
   rw [wI hno,Array.toList_push,jJ,jJ,hM.ord];rfl
  ·simp only [Array.toList_push,dY,List.mem_singleton] at hx
   rcases hx with hx | rfl
   ·exact Nat.lt_succ_of_lt (hbn x hx)
   ·exact Nat.lt_succ_self _
 ·have hj:es[j]? = some e0:=by simpa using h2
  have hlist:(es.modify j (fun e'=>{ e' with key := .int .i64 e.k,val:=e.val })).toList=es.toList.set j { e0 with key := .int .i64 e.k,val:=e.val }:=by
   rw [Array.toList_modify,Go.ChangeMaps.modify_eq_set _ _ _ _ h2]
  have hjl:j<es.toList.length:=(Bg.1 h2).1;have hother:∀ i x,es.toList[i]? = some x→i≠j→x.key ≠ .int .i64 e.k:=fun i x hi hij=>by
   rw [← h3];obtain ⟨Gl,rfl⟩:=Bg.1 hi;obtain ⟨My,hje⟩:=Bg.1 h2;have:=List.pairwise_iff_getElem.1 hM.nd
   rcases Nat.lt_or_ge i j with h | h
   ·rw [← hje];exact this i j Gl My h
   ·rw [← hje];exact (this j i My Gl (by omega)).symm
  have who:∀ x∈es.toList.set j { e0 with key := .int .i64 e.k,val:=e.val },x={ e0 with key := .int .i64 e.k,val:=e.val }∨(x∈es.toList∧x.key ≠ .int .i64 e.k):=fun x hx=>by
   obtain ⟨i,hi,ex⟩:=List.getElem_of_mem hx;rw [oG] at ex
   split at ex
   ·exact .inl ex.symm
   ·rename_i hne
    have Bs:i<es.toList.length:=by simpa using hi
    exact .inr ⟨ex ▸ eE Bs,hother i x (by rw [An Bs,ex]) (fun e=>hne e.symm)⟩
  refine ⟨es.modify j (fun e'=>{ e' with key := .int .i64 e.k,val:=e.val }),cl,?_,⟨fun x hx => ?_,fun x hx => ?_,?_,hok,hkeys,hblks,?_⟩,fun hbn x hx => ?_⟩
  ·simp [Instr.mapUpdate,run_underlying ht,MapKept.run_getObj_map hb,K.check w false hkey,h1,hj,h3,K.stays w hkey,MapKept.run_setObj_map _ hb,Result.andThen,setBlock]
  ·rw [hlist] at hx
   rcases who x hx with rfl | ⟨q1,q2⟩
   ·exact ⟨e,mem_putE.2 (.inr rfl),rfl,rfl⟩
   ·obtain ⟨y,hy,r1,r2⟩:=hM.e1 x q1
    exact ⟨y,mem_putE.2 (.inl ⟨hy,fun hk=>q2 (by rw [r1,hk])⟩),r1,r2⟩
  ·rw [hlist]
   rcases mem_putE.1 hx with ⟨q1,q2⟩ | rfl
   ·obtain ⟨y,hy,r1,r2⟩:=hM.e2 x q1
    obtain ⟨i,hi,rfl⟩:=List.getElem_of_mem hy;have hij:i≠j:=fun hij=>by
     subst hij;rw [An hi] at h2;cases h2
     rw [h3] at r1;injection r1 with _ r1;exact q2 r1.symm
    exact ⟨es.toList[i],List.mem_iff_getElem.2 ⟨i,by simpa using hi,by rw [oG,if_neg (Ne.symm hij)]⟩,r1,r2⟩
   ·exact ⟨_,List.mem_iff_getElem.2 ⟨j,by simpa using hjl,by rw [oG,if_pos rfl]⟩,rfl,rfl⟩
  ·rw [hlist,List.pairwise_iff_getElem]
   intro i1 i2 Gl E5 hlt;simp only [lP] at Gl E5
   have h0:=List.pairwise_iff_getElem.1 hM.nd i1 i2 Gl E5 hlt;rw [oG,oG]
   split
   ·rename_i e1
    rw [if_neg (by omega)]
    exact (hother i2 _ (An E5) (by omega)).symm
   ·split
    ·exact hother i1 _ (An Gl) (by omega)
    ·exact h0
  ·obtain ⟨y,hy,q1,q2⟩:=hM.e1 e0 (Br h2)
   have hyk:y.k=e.k:=by rw [h3] at q1;injection q1 with _ q1;exact q1.symm
   rw [hlist,rI hy hyk,sQ];apply List.ext_getElem?;intro i;rw [gF,gF,List.getElem?_set];have hoi:(es.toList.map fun x=>(x.key,x.val))[i]? = (L.map fun e=>(Value.int .i64 e.k,e.val))[i]? := by rw [hM.ord]
   rw [gF,gF] at hoi
   by_cases hij:j=i
   ·subst hij
    rw [if_pos rfl,if_pos hjl];rw [h2] at hoi
    cases hL:L[j]? with
    | none=>rw [hL] at hoi;cases hoi
    | some z =>
     rw [hL] at hoi
     have hz:z.k=e.k:=by
      simp at hoi
      rw [h3] at hoi
      have:=hoi.1;injection this with _ h;exact h.symm
     simp [hz]
   ·rw [if_neg hij]
    cases hL:L[i]? with
    | none=>rw [hL] at hoi;rw [hoi];rfl
    | some z =>
     rw [hL] at hoi
     rw [hoi];have hz:z.k≠e.k:=fun hz=>by
      cases he:es.toList[i]? with
      | none=>rw [he] at hoi;cases hoi
      | some x =>
       rw [he] at hoi
       simp at hoi
       exact hother i x he (fun h=>hij h.symm) (by rw [hoi.1,hz])
     simp [hz]
  ·rw [hlist] at hx
   rcases who x hx with rfl | ⟨q1,_⟩
   ·exact hbn e0 (Br h2)
   ·exact hbn x q1

theorem Ent.owns{e:Ent}(he:e.OK)(h:w.heap[e.b]? = some (.cells e.arr 84 (0,0))):w.ownsRow 0 84 6 e.val e.l.length (e.l.flatten.map (Value.int .i64)) :=
 ⟨by rw [Bt,lF he.u],.inr ⟨e.b,e.cap,e.arr,rfl,Nat.zero_le _,h,he.le,he.cap,he.sz,he.at_⟩⟩
theorem nil_owns:w.ownsRow 0 84 6 (.slice none 0 0) 0 []:=⟨rfl,.inl ⟨rfl,rfl⟩⟩
theorem owns_ent{v:Value}{l:Lqq}{k:Int}(hk:(Lit.int .i64 k).wf=true)(hl:l≠[])(hu:uni 6 l)(h:w.ownsRow 0 84 6 v l.length (l.flatten.map (Value.int .i64))):∃ e:Ent,e.k=k∧e.l=l∧e.val=v∧e.OK∧w.heap[e.b]? = some (.cells e.arr 84 (0,0)):=by
 rcases h.2 with ⟨_,h0⟩ | ⟨g,cap,cur,rfl,_,h1,h2,h3,h4,h5⟩
 ·exact absurd (sO h0) hl
 ·exact ⟨⟨k,l,g,cap,cur⟩,rfl,rfl,rfl,⟨hk,h4,h2,h3,h5,hu⟩,h1⟩
end
end
section
variable {P:Program} {C C0:Cx} {M M0:Mem} {w w0:World}

abbrev SR:=St→List (Nat × Obj)→Prop
def bOd(P:Program)(C0:Cx)(M0:Mem)(w0:World)(Ψ:SR)(a:Act)(w:World):Prop:=∃ st R,Ψ st R∧(∀ p∈R,∀ q∈C0.R,p.1≠q.1)∧Sim P (C0.with (R++C0.R)) M0 w0 st a w
def bH(P:Program)(k:Nat)(c:Code)(Ψ:SR)(e:Ex)(Ψ':SR):Prop:=∀ (C0:Cx) (M0:Mem) (w0:World) (a:Act) (w:World),M0.length≤k→bOd P C0 M0 w0 Ψ a w→∀ (n:Nat),c.wpIn (Fen none) n P (fun e' a' w'=>e'=e.toExit∧bOd P C0 M0 w0 Ψ' a' w') a w
def mZ(P:Program)(k:Nat)(b:Code)(Ψ:SR)(e:Ex)(Ψ':SR):Prop:=∀ (C0:Cx) (M0:Mem) (w0:World) (a:Act) (w:World),M0.length≤k→bOd P C0 M0 w0 Ψ a w→∀ (n:Nat),LoopIn (Fen none) n P b (fun e' a' w'=>e'=e.toExit∧bOd P C0 M0 w0 Ψ' a' w') a w

section
variable {k:Nat} {a b c:Code} {Ψ Ψ1 Ψ':SR} {e:Ex}
theorem bH.of(h:∀ st R,Ψ st R→∃ Aj,Ψ' Aj R∧aB P k c st e Aj):bH P k c Ψ e Ψ':=fun C0 M0 w0 a w hk ⟨st,R,hΨ,hd,hs⟩ n=>by
 obtain ⟨Aj,hΨ',hc⟩:=h st R hΨ;refine wpIn_mono (hc (C0.with (R++C0.R)) M0 w0 a w hk hs none (.inl rfl) n) fun e' a' w' hq=>⟨hq.1,Aj,R,hΨ',hd,hq.2⟩
theorem bH.mono{Φ Φ':SR}(h:bH P k c Ψ e Ψ')(h1:∀ st R,Φ st R→Ψ st R)(h2:∀ st R,Ψ' st R→Φ' st R):bH P k c Φ e Φ':=fun C0 M0 w0 a w hk ⟨st,R,hΨ,hd,hs⟩ n =>
 wpIn_mono (h C0 M0 w0 a w hk ⟨st,R,h1 _ _ hΨ,hd,hs⟩ n) fun e' a' w' ⟨q,Aj,R',hq,Kf,Bh⟩=>⟨q,Aj,R',h2 _ _ hq,Kf,Bh⟩
theorem bH.seq(h:bH P k a Ψ .normal Ψ1)(h2:bH P k b Ψ1 e Ψ'):bH P k (.seq a b) Ψ e Ψ':=fun C0 M0 w0 ac w hk hs n=>by
 refine wpIn_seq (wpIn_mono (h C0 M0 w0 ac w hk hs n) ?_);rintro e' a' w' ⟨rfl,Bh⟩;exact h2 C0 M0 w0 a' w' hk Bh n
theorem bH.seqx(h:bH P k a Ψ e Ψ')(he:e ≠ .normal):bH P k (.seq a b) Ψ e Ψ':=fun C0 M0 w0 ac w hk hs n=>by
 refine wpIn_seq (wpIn_mono (h C0 M0 w0 ac w hk hs n) ?_);rintro e' a' w' ⟨rfl,Bh⟩;cases e with
 | normal=>exact absurd rfl he
 | ret=>exact ⟨rfl,Bh⟩
 | exit i=>exact ⟨rfl,Bh⟩
theorem bH.block{id:Nat}(h:bH P k b Ψ (.exit id) Ψ'):bH P k (.block id b) Ψ .normal Ψ':=fun C0 M0 w0 ac w hk hs n=>by
 refine wpIn_block (wpIn_mono (h C0 M0 w0 ac w hk hs n) ?_);rintro e' a' w' ⟨rfl,Bh⟩;simp only [Ex.toExit,Exit.inBlock,if_true];exact ⟨trivial,Bh⟩
theorem bH.blockn{id:Nat}(h:bH P k b Ψ .normal Ψ'):bH P k (.block id b) Ψ .normal Ψ':=fun C0 M0 w0 ac w hk hs n=>by
 refine wpIn_block (wpIn_mono (h C0 M0 w0 ac w hk hs n) ?_);rintro e' a' w' ⟨rfl,Bh⟩;exact ⟨rfl,Bh⟩
theorem mZ.step(h:bH P k b Ψ .normal Ψ1)(hr:mZ P k b Ψ1 e Ψ'):mZ P k b Ψ e Ψ':=fun C0 M0 w0 a w hk hs n=>LoopIn.step (wpIn_mono (h C0 M0 w0 a w hk hs n) fun e' a' w' hq=>by
 obtain ⟨rfl,Bh⟩:=hq;exact hr C0 M0 w0 a' w' hk Bh n)
theorem mZ.exit(h:bH P k b Ψ e Ψ')(he:e ≠ .normal):mZ P k b Ψ e Ψ':=fun C0 M0 w0 a w hk hs n=>LoopIn.step (wpIn_mono (h C0 M0 w0 a w hk hs n) fun e' a' w' hq=>by
 obtain ⟨rfl,Bh⟩:=hq;cases e with
 | normal=>exact absurd rfl he
 | ret=>exact ⟨rfl,Bh⟩
 | exit id=>exact ⟨rfl,Bh⟩)
theorem mZ.code(h:mZ P k b Ψ e Ψ'):bH P k (.loop b) Ψ e Ψ':=fun C0 M0 w0 a w hk hs n=>LoopIn.wp (h C0 M0 w0 a w hk hs n)
theorem mZ.times(N:Nat)(Ψ:Nat→SR)(hs:∀ i,i<N→bH P k b (Ψ i) .normal (Ψ (i+1)))(hx:bH P k b (Ψ N) e Ψ')(he:e ≠ .normal):mZ P k b (Ψ 0) e Ψ':=by
 have key:∀ d i,i+d=N→mZ P k b (Ψ i) e Ψ':=by
  intro d
  induction d with
  | zero =>
   intro i hi;obtain rfl:i=N:=by omega
   exact .exit hx he
  | succ d ih=>intro i hi;exact .step (hs i (by omega)) (ih (i+1) (by omega))
 exact key N 0 (by omega)
theorem bH.ok{st Aj:St}(hn:nrf c=false)(h:bH P k c (fun s R=>s=st∧R=[]) e (fun s _=>s=Aj)):aB P k c st e Aj:=fun C0 M0 w0 a w hk hs ro hro n=>by
 rcases hro with rfl | hro
 ·refine wpIn_mono (h C0 M0 w0 a w hk ⟨st,[],⟨rfl,rfl⟩,by simp,hs⟩ n) ?_
  rintro e' a' w' ⟨q,st1,R,rfl,_,Bh⟩;exact ⟨q,Bh.less fun p hp=>oE _ hp⟩
 ·rw [hn] at hro;cases hro
theorem bH.hand(h:∀ (C0:Cx) (M0:Mem) (w0:World) (a:Act) (w:World) (st:St) (R:List (Nat × Obj)),M0.length≤k→Ψ st R→(∀ p∈R,∀ q∈C0.R,p.1≠q.1)→Sim P (C0.with (R++C0.R)) M0 w0 st a w→c.wp P (fun e' a' w'=>e'=e.toExit∧bOd P C0 M0 w0 Ψ' a' w') a w):bH P k c Ψ e Ψ':=fun C0 M0 w0 a w hk ⟨st,R,hΨ,hd,hs⟩ n =>
 (wpIn_wide (n:=n)).2 (h C0 M0 w0 a w st R hk hΨ hd hs)
end

theorem Sim.slot{st:St}{a:Act}(h:Sim P C0 M0 w0 st a w){i:Nat}{v:Value}(hi:st.t[i]? = some (.p (.v v))):a.tmps.getD i undef=v:=by
 obtain ⟨C,hS,_⟩:=h;have:=hS.at hi
 cases this with
 | p _ _ h=>cases h;rfl
theorem Sim.size{st:St}{a:Act}(h:Sim P C0 M0 w0 st a w):a.tmps.size=st.t.length:=by
 obtain ⟨C,hS,_⟩:=h;exact hS.size
theorem Sim.ints{st:St}{a:Act}{R:List (Nat × Obj)}(h:Sim P (C0.with R) M0 w0 st a w){i:Nat}{l:List Int}(hi:st.t[i]? = some (.p (.sl l.length (l.map fun n => .v (.int .i64 n))))) :
  ∃ p cap,a.tmps.getD i undef = .slice p l.length cap∧l.length≤cap∧cap≤maxLen∧∀ j n,l[j]? = some n→∃ b o,p=some ⟨b,o,none⟩∧b<w.heap.size∧w.cell? ⟨b,o+j,none⟩=some (.int .i64 n)∧∀ q∈R,q.1≠b:=by
 obtain ⟨C,hS,hM,_,_,hR,_⟩:=h;have:=hS.at hi
 cases this with
 | p _ _ h =>
  generalize hv:a.tmps.getD i undef=v at h
  generalize hn:l.length=n at h
  generalize hc:(l.map fun n=>PV.v (.int .i64 n))=cs at h
  cases h with
  | sl n cs p cap us h1 h2 h3 h4 h5 =>
   refine ⟨p,cap,rfl,h1,h2,fun j m hj => ?_⟩
   have hjl:j<cs.length:=by
    rw [← hc,Bt];exact (Bg.1 hj).1
   obtain ⟨b,o,q1,q2,q3⟩:=h3 j hjl;refine ⟨b,o,q1,hM.Fs _ q2,?_,fun q hq e=>(hR q hq).2.2.2.1 (e ▸ q2)⟩
   rw [q3];have h6:=h4 j hjl;have:cs[j] = .v (.int .i64 m):=by
    subst hc;rw [lE];obtain ⟨_,h7⟩:=Bg.1 hj;rw [h7]
   rw [this] at h6
   generalize us j=u at h6
   cases h6;rfl
end
section
variable {P:Program} {ops:Array Oper} {md:Region.Mode} {S:World→Prop} {Q:Exit→Act→World→Prop} {L:Nat}

def rH(P:Program)(md:Region.Mode)(ops:Array Oper)(Q:Exit→Act→World→Prop)(S:World→Prop)(L:Nat):Nat→Array Bool→Act→World→Prop
 | 0,listed,a,w=>Region.ready md ops listed=[]∧Q .normal a w
 | fuel+1,listed,a,w=>(Region.ready md ops listed=[]→Q .normal a w) ∧
  ∀ i∈Region.ready md ops listed,wpOp P ops Q i (fun a' w'=>(i≠L→S w')∧rH P md ops Q S L fuel (listed.setIfInBounds i true) a' w') a w

theorem uJ:∀ (fuel:Nat) (listed:Array Bool) (a:Act) (w:World),rH P md ops Q S L fuel listed a w→wpAny P md ops Q fuel listed a w
 | 0,_,_,_,h=>h
 | fuel+1,_,_,_,h=>⟨h.1,fun i hi=>wpOp_mono (fun a' w' h'=>uJ fuel _ a' w' h'.2) (h.2 i hi)⟩

theorem aLj{i:Nat}{oi:Oper}{v:Value}(hi:ops[i]? = some oi)(hsel:∀ (j:Nat) (o:Oper) cs b,ops[j]? = some o→o.op ≠ .select cs b)
  (hQ:∀ c a w,Q (.panic c) (a.put oi.dst v) w→Q (.panic c) a w) (hL:∀ oL,ops[L]? = some oL→∃ e∈oL.after,Region.binds md e=true∧e.on=i) :
  ∀ (fuel:Nat) (listed:Array Bool) (a:Act) (w:World),
   (∀ j oj,ops[j]? = some oj→j≠i→listed.getD j true=false→(∀ e∈oj.after,Region.binds md e=true→e.on≠i)→oi.apart ops oj=true) →
   i∈Region.ready md ops listed→YieldsIf P ops S oi v a→S w →
   rH P md ops Q S L fuel (listed.setIfInBounds i true) (a.put oi.dst v) w→rH P md ops Q S L (fuel+1) listed a w:=by
 intro fuel
 induction fuel with
 | zero =>
  intro listed a w _ hr hy hS H;refine ⟨fun h=>(by rw [h] at hr;cases hr),fun j hj => ?_⟩
  by_cases hji:j=i
  ·subst hji;exact hy.wpOp hi hS ⟨fun _=>hS,H⟩
  ·have:=ready_mono hj hji
   rw [H.1] at this
   cases this
 | succ fuel ih =>
  intro listed a w hfree hr hy hS H;refine ⟨fun h=>(by rw [h] at hr;cases hr),fun j hj => ?_⟩
  by_cases hji:j=i
  ·subst hji;exact hy.wpOp hi hS ⟨fun _=>hS,H⟩
  ·have h1:=H.2 j (ready_mono hj hji)
   obtain ⟨hjun,oj,hoj,hall⟩:=mem_ready.1 hj;have hnot:∀ e∈oj.after,Region.binds md e=true→e.on≠i:=fun e he hb heq=>by
    have h1:=hall e he hb;have h0:=(mem_ready.1 hr).1;rw [heq] at h1
    rcases Nat.lt_or_ge i listed.size with h' | h'
    ·simp [h'] at h0 h1;rw [h0] at h1;cases h1
    ·simp [Array.getElem?_eq_none h'] at h1
   have hjL:j≠L:=fun e=>by
    subst e;obtain ⟨e,he,hb,ho⟩:=hL oj hoj;exact hnot e he hb ho
   have h2:=wpOp_putIf hoj (hfree j oj hoj hji hjun hnot) (fun cs b=>hsel i oi cs b hi) (fun cs b=>hsel j oj cs b hoj) hQ hy h1
   have Ky:∀ k ok,ops[k]? = some ok→k≠i→(listed.setIfInBounds j true).getD k true=false →
     (∀ e∈ok.after,Region.binds md e=true→e.on≠i)→oi.apart ops ok=true:=fun k ok hk hki hun hno=>by
    refine hfree k ok hk hki ?_ hno
    by_cases hjk:j=k
    ·subst hjk;exact hjun
    ·rw [getD_set_ne true hjk] at hun;exact hun
   refine wpOp_mono (fun a' w' h3=>⟨h3.2.1,ih (listed.setIfInBounds j true) a' w' Ky (ready_mono hr (Ne.symm hji)) h3.1 (h3.2.1 hjL) ?_⟩) h2
   rw [Array.setIfInBounds_comm _ _ hji];exact h3.2.2

def aAz(P:Program)(S:World→Prop):List (Oper × Value)→Act→Prop
 | [],_=>True
 | (o,v)::r,a=>(∀ W,S W→(execOp a.eval o).run P W = .ok (.value v) W)∧aAz P S r (a.put o.dst v)
def mE:List (Oper × Value)→Act→Act
 | [],a=>a
 | (o,v)::r,a=>mE r (a.put o.dst v)

def aDw(md:Region.Mode)(ops:Array Oper)(L:Nat)(rs:List Nat):List Nat→Array Bool→Bool
 | [],listed=>chain rs listed
 | t::ts,listed=>(match ops[t]? with | some o=>o.guard.isNone | none=>false) && (Region.ready md ops listed).contains t && Region.free md ops listed t &&
   (match ops[L]? with | some oL=>oL.after.any fun e=>Region.binds md e && e.on == t | none=>false) && aDw md ops L rs ts (listed.setIfInBounds t true)
where chain:List Nat→Array Bool→Bool
 | [],listed=>(Region.ready md ops listed).isEmpty
 | r::rs,listed=>(match ops[r]? with | some o=>o.guard.isNone | none=>false) && decide (Region.ready md ops listed=[r]) && chain rs (listed.setIfInBounds r true)

theorem kH{r fuel:Nat}{listed:Array Bool}{o:Oper}{a:Act}{w:World}(hr:Region.ready md ops listed=[r])(ho:ops[r]? = some o)(hg:o.guard=none){v:Value}{w':World}
  (hrun:(execOp a.eval o).run P w = .ok (.value v) w'∨(execOp a.eval o).run P w = .ok .skip w'∧v=undef) (hS:r≠L→S w') (h:rH P md ops Q S L fuel (listed.setIfInBounds r true) (a.put o.dst v) w'):rH P md ops Q S L (fuel+1) listed a w:=by
 refine ⟨fun h0=>(by rw [hr] at h0;cases h0),fun i hi => ?_⟩
 rw [hr] at hi
 obtain rfl:i=r:=by simpa using hi
 unfold wpOp;simp only [ho];have hw:Region.wanted o (yielded ops a.tmps)=true:=by simp [Region.wanted,hg]
 rw [if_pos hw];refine .inl ?_;unfold Oper.wp
 rcases hrun with hrun | ⟨hrun,rfl⟩
 ·rw [hrun];exact ⟨hS,h⟩
 ·rw [hrun];exact ⟨hS,h⟩

theorem yI(hsel:Region.noSelect ops=true)(hQ:∀ c a w,¬ Q (.panic c) a w)(rs:List Nat){w:World}(hS:S w):∀ (ts:List Nat) (vs:List Value) (listed:Array Bool) (a:Act),vs.length=ts.length→aDw md ops L rs ts listed=true →
  aAz P S ((ts.filterMap fun i=>ops[i]?).zip vs) a→(∀ Ec,aDw.chain md ops rs Ec=true→rH P md ops Q S L rs.length Ec (mE ((ts.filterMap fun i=>ops[i]?).zip vs) a) w)→rH P md ops Q S L (ts.length+rs.length) listed a w
 | [],vs,listed,a,hl,hB,hy,h=>by
  have:vs=[]:=by simpa using hl
  subst this;simp only [List.length_nil,gP];exact h listed hB
 | t::ts,[],listed,a,hl,hB,hy,h=>by simp at hl
 | t::ts,v::vs,listed,a,hl,hB,hy,h=>by
  simp only [aDw,Bw] at hB
  obtain ⟨⟨⟨⟨hp,hrd⟩,hf⟩,hlast⟩,Om⟩:=hB;cases ho:ops[t]? with
  | none=>rw [ho] at hp;cases hp
  | some o =>
   rw [ho] at hp
   simp only [Option.isNone_iff_eq_none] at hp
   have e0:(t::ts).filterMap (fun i=>ops[i]?)=o::ts.filterMap (fun i=>ops[i]?):=by simp [ho]
   rw [e0,List.zip_cons_cons] at hy h
   have hw:Region.wanted o (yielded ops a.tmps)=true:=by simp [Region.wanted,hp]
   have e:(t::ts).length+rs.length=(ts.length+rs.length)+1:=by simp;omega
   rw [e];refine aLj ho (Region.noSelect_spec hsel) (fun c a w hq=>absurd hq (hQ _ _ _)) (fun oL hoL => ?_) _ _ _ _ (Region.free_spec ho hf) (by simpa using hrd) (.inl ⟨hw,hy.1⟩) hS ?_
   ·rw [hoL] at hlast
    obtain ⟨e,he,hb⟩:=Array.any_eq_true'.1 hlast;simp only [Bw,beq_iff_eq] at hb
    exact ⟨e,he,hb.1,hb.2⟩
   ·exact yI hsel hQ rs hS ts vs _ _ (by simpa using hl) Om hy.2 h

def sH(l:List Oper)(ts:List Nat)(r1 r2 r3:Nat):Bool :=
 Region.noSelect l.toArray && aDw .any l.toArray r3 [r1,r2,r3] ts (Array.replicate l.toArray.size false) && decide (ts.length+3=l.toArray.size) && decide (r1≠r3∧r2≠r3)

theorem Jc{id:Nat}{l:List Oper}{a:Act}{w:World}{o1 o2 o3:Oper}(ts:List Nat)(r1 r2 r3:Nat)(hm:P.follows .mixedOrders=true)(hB:sH l ts r1 r2 r3=true)(h1:l[r1]? = some o1)(h2:l[r2]? = some o2)(h3:l[r3]? = some o3)
  (hQ:∀ c a w,¬ Q (.panic c) a w) (hS:S { w with drawn:=w.drawn+1 }) (vs:List Value) (hl:vs.length=ts.length) (hy:aAz P S ((ts.filterMap fun i=>l[i]?).zip vs) a)
  (h:∀ a',a'=mE ((ts.filterMap fun i=>l[i]?).zip vs) a→∃ v1 w1 v2 w2 w3,(execOp a'.eval o1).run P { w with drawn:=w.drawn+1 } = .ok (.value v1) w1∧S w1∧(execOp (a'.put o1.dst v1).eval o2).run P w1 = .ok (.value v2) w2∧S w2 ∧
   (execOp ((a'.put o1.dst v1).put o2.dst v2).eval o3).run P w2 = .ok .skip w3∧Q .normal (((a'.put o1.dst v1).put o2.dst v2).put o3.dst undef) w3):(Code.region id l.toArray true).wp P Q a w:=by
 unfold sH at hB
 simp only [Bw,decide_eq_true_eq] at hB
 obtain ⟨⟨⟨hsel,ht⟩,hsz⟩,hne⟩:=hB;refine wp_region_any hm (uJ (S:=S) (L:=r3) _ _ _ _ ?_);rw [← hsz];refine yI (rs:=[r1,r2,r3]) hsel hQ hS ts vs _ a hl (by rw [hsz];exact ht) (by simpa using hy) (fun Ec hc => ?_)
 obtain ⟨v1,w1,v2,w2,w3,e1,s1,e2,s2,e3,hq⟩:=h _ rfl;simp only [aDw.chain,Bw,decide_eq_true_eq] at hc
 obtain ⟨⟨g1,c1⟩,⟨g2,c2⟩,⟨g3,c3⟩,c4⟩:=hc;have k1:l.toArray[r1]? = some o1:=by simpa using h1
 have k2:l.toArray[r2]? = some o2:=by simpa using h2
 have k3:l.toArray[r3]? = some o3:=by simpa using h3
 rw [k1] at g1;rw [k2] at g2;rw [k3] at g3
 simp only [Option.isNone_iff_eq_none] at g1 g2 g3
 have Kq:((ts.filterMap fun i=>l.toArray[i]?))=(ts.filterMap fun i=>l[i]?):=by simp
 rw [Kq];refine kH c1 k1 g1 (.inl e1) (fun _=>s1) ?_
 refine kH c2 k2 g2 (.inl e2) (fun _=>s2) ?_
 refine kH c3 k3 g3 (.inr ⟨e3,rfl⟩) (fun h=>absurd rfl h) ?_
 exact ⟨by simpa using c4,hq⟩

theorem aL{a:Act}{i:Nat}{v:Value}(h:i<a.tmps.size):(a.put (some i) v).eval (.tmp i)=v:=by
 simp [Act.eval,Act.put,h]
theorem aO{a:Act}{i j:Nat}{v:Value}(h:(i == j)=false):(a.put (some i) v).eval (.tmp j)=a.eval (.tmp j):=by
 have:i≠j:=by simpa using h
 simp [Act.eval,Act.put,this]
theorem bOc{a:Act}{i:Nat}:a.eval (.tmp i)=a.tmps.getD i undef:=rfl
theorem bE{a:Act}{i:Nat}{v:Value}:(a.put (some i) v).tmps.size=a.tmps.size:=by simp [Act.put]
theorem sI{id:Nat}{o:Oper}{rest:List Oper}{a:Act}{w w':World}{v:Value}(hg:o.guard=none)(hrun:(execOp a.eval o).run P w = .ok (.value v) w')(h:wpList P ops Q rest (a.put o.dst v) w'):wpList P ops Q (o::rest) a w :=
 wpList_plain hg fun K hK=>by
  unfold Oper.wp;rw [hrun];exact hK _ _ h

def aVu:Option AV→Bool
 | some .any=>true
 | _=>false
theorem cCh{l:List AV}{d:Nat}(h:aVu l[d]? = true):l.set d .any=l:=by
 cases hd:l[d]? with
 | none=>rw [hd] at h;cases h
 | some x =>
  rw [hd] at h
  have hx:x = .any:=by cases x <;> first | rfl | cases h
  subst hx;obtain ⟨h1,h2⟩:=Bg.1 hd;rw [← h2];exact List.set_getElem_self h1
theorem Sim.any{C0:Cx}{M0:Mem}{w0 w:World}{st:St}{a:Act}(h:Sim P C0 M0 w0 st a w)(d:Option Tmp)(v:Value)(hd:∀ i,d=some i→aVu st.t[i]? = true):Sim P C0 M0 w0 st (a.put d v) w:=by
 have h1:=h.put d (x := .any) (u:=v) (fun _ _ => .any _)
 cases d with
 | none=>exact h1
 | some i =>
  have:KV.put st.t (some i) .any=st.t:=cCh (hd i rfl);rw [this] at h1
  exact h1
theorem Sim.anyL{C0:Cx}{M0:Mem}{w0 w:World}{st:St}:∀ (l:List (Oper × Value)) {a:Act},Sim P C0 M0 w0 st a w→(l.all fun p=>match p.1.dst with | some i=>aVu st.t[i]? | none=>true)=true→Sim P C0 M0 w0 st (mE l a) w
 | [],a,h,_=>h
 | (o,v)::r,a,h,hb=>by
  rw [List.all_cons,Bw] at hb
  refine Sim.anyL r (h.any o.dst v fun i hi => ?_) hb.2
  have:=hb.1;dsimp only at this
  rw [hi] at this
  exact this
end
section
open Go.Maps Go.MapKept
open Go.ChangeMaps (setBlock)
variable {P:Program} {C C0:Cx} {M M0:Mem} {w w0:World}

section
variable {o:Oper} {a:Act} {W W':World}
theorem ex_load{t:TypeId}{x:Operand}{v r:Value}(ho:o.op = .load t x)(hx:a.eval x=v)(hr:(Instr.loadAt t v).run P W = .ok r W):(execOp a.eval o).run P W = .ok (.value r) W:=by
 unfold execOp;rw [ho];simp [hx,hr,Result.andThen]
theorem ex_lookup{t:TypeId}{x k:Operand}{v u r:Value}(ho:o.op = .lookup t x k false)(hx:a.eval x=v)(hk:a.eval k=u)(hr:(Instr.lookup t v u false).run P W = .ok r W):(execOp a.eval o).run P W = .ok (.value r) W:=by
 unfold execOp;rw [ho];simp [hx,hk,hr,Result.andThen]
theorem ex_build1{t:TypeId}{x:Operand}{v r:Value}(ho:o.op = .buildSlice t 1 #[(0,x)])(hx:a.eval x=v)(hr:(Instr.buildSlice t 1 #[(0,v)]).run P W = .ok r W'):(execOp a.eval o).run P W = .ok (.value r) W':=by
 unfold execOp;rw [ho];simp [hx,hr,Result.andThen]
theorem ex_append{t:TypeId}{s x:Operand}{v u r:Value}(ho:o.op = .call { callee := .builtin .append,args := #[s,x],argTypes := #[t,t] })(hs:a.eval s=v)(hx:a.eval x=u)(hr:(Builtin.append_ #[t,t] o.type #[v,u]).run P W = .ok r W') :
  (execOp a.eval o).run P W = .ok (.value r) W':=by
 unfold execOp;simp only [ho,resolve,invoke,builtin,Sem.run_bind,Sem.run_pure,Result.andThen_ok,List.map_toArray,iK,List.map_nil,hs,hx,hr]
theorem ex_update{t:TypeId}{m k x:Operand}{v u y:Value}(ho:o.op = .mapUpdate t m k x)(hm:a.eval m=v)(hk:a.eval k=u)(hx:a.eval x=y)(hr:(Instr.mapUpdate t v u y).run P W = .ok () W'):(execOp a.eval o).run P W = .ok .skip W':=by
 unfold execOp;rw [ho];simp [hm,hk,hx,hr,Result.andThen]
end

theorem run_load1{t:Nat}{i:TI}(hi:bX P t=some i)(ha:i.agg=false){b o:Nat}{v:Value}(h:w.cell? ⟨b,o,none⟩=some v):(Instr.loadAt t (.pointer (some ⟨b,o,none⟩))).run P w = .ok v w:=by
 unfold Instr.loadAt Instr.sureAddr;simpa using iH hi ha h

def mapR(mb:Nat)(es:Array MapEntry)(cl:Nat)(L:List Ent):List (Nat × Obj):=(mb,.map es cl)::L.map Ent.blk
theorem mem_mapR{mb:Nat}{es:Array MapEntry}{cl:Nat}{L:List Ent}{p:Nat × Obj}:p∈mapR mb es cl L↔p=(mb,.map es cl)∨∃ e∈L,e.blk=p:=by simp [mapR]
def lookL(L:List Ent)(k:Int):Lqq:=match lookE L k with
 | some e=>e.l
 | none=>[]
theorem inj_of_nodup{α β:Type}(f:α→β){x y:α}:∀ (L:List α),(L.map f).Nodup→x∈L→y∈L→f x=f y→x=y
 | [],_,h,_,_=>by simp at h
 | a::r,hn,hx,hy,he=>by
  rw [iK,List.nodup_cons] at hn
  rcases eO.1 hx with e1 | h1
  ·rcases eO.1 hy with e2 | h2
   ·rw [e1,e2]
   ·exact absurd (Bi.2 ⟨y,h2,by rw [← he,e1]⟩) hn.1
  ·rcases eO.1 hy with e2 | h2
   ·exact absurd (Bi.2 ⟨x,h1,by rw [he,e2]⟩) hn.1
   ·exact inj_of_nodup f r hn.2 h1 h2 he
theorem MapOK.b_inj{mb:Nat}{es:Array MapEntry}{L:List Ent}(h:MapOK mb es L){e e':Ent}(he:e∈L)(Jp:e'∈L)(hb:e.b=e'.b):e=e':=inj_of_nodup (·.b) L (List.nodup_cons.1 h.blks).2 he Jp hb
theorem MapOK.b_mb{mb:Nat}{es:Array MapEntry}{L:List Ent}(h:MapOK mb es L){e:Ent}(he:e∈L):e.b≠mb:=fun hb=>(List.nodup_cons.1 h.blks).1 (Bi.2 ⟨e,he,hb⟩)

abbrev H8:Value := .agg #[.int .i64 0,.int .i64 0,.int .i64 0,.int .i64 0,.int .i64 0,.int .i64 0]
def vsL(x:List Int):List Value:=x.map (Value.int .i64)
theorem bGi(w:World)(x:List Int):∀ j u,(vsL x)[j]? = some u→(w.alloc (.cells (vsL x).toArray 84)).cell? ((⟨w.heap.size,0,none⟩:Addr).add j)=some u:=fun j u h=>by
 have hj:j<(vsL x).length:=(Bg.1 h).1;have e:(⟨w.heap.size,0,none⟩:Addr).add j=⟨w.heap.size,j,none⟩:=by unfold Addr.add;split <;> simp_all
 rw [e];unfold World.cell? World.alloc;simp [h]
theorem mapStep{t kt S22 ty:TypeId}{st:St}{a:Act}{mb cl:Nat}{es:Array MapEntry}{L:List Ent}{k:Int}{x:List Int}(J1:x.length=6)(ht:P.underlying t=some (.map kt S22))(hkt:P.underlying kt=some (.int .i64))(Ix:P.underlying S22=some (.slice 84))
  (Qd:(P.info? 84).map (fun i=>(i.zero,i.size,i.bytes))=some (some H8,6,48))
  (hs:Sim P (C0.with (mapR mb es cl L++C0.R)) M0 w0 st a w) (hd:∀ p∈mapR mb es cl L,∀ q∈C0.R,p.1≠q.1) (hM:MapOK mb es L) (hk:(Lit.int .i64 k).wf=true) (hl:∀ e∈L,e.l.length≤1000) :
  ∃ v2 w2 Bn B5 e,(Builtin.append_ #[S22,S22] ty #[lookV L k,.slice (some ⟨w.heap.size,0,none⟩) 1 1]).run P (w.alloc (.cells (vsL x).toArray 84)) = .ok v2 w2 ∧
   (∀ b,b<w.heap.size→(∀ q∈mapR mb es cl L,q.1≠b)→w2.heap[b]? = w.heap[b]?)∧w2.heap[mb]? = w.heap[mb]? ∧
   (w.heap.size≤w2.heap.size∧((∀ x∈es.toList,x.born<cl)→∀ x∈Bn.toList,x.born<B5)∧∀ p∈mapR mb Bn B5 (putE L e),(∃ p0∈mapR mb es cl L,p0.1=p.1)∨w.heap.size≤p.1) ∧
   (Instr.mapUpdate t (.map (some mb)) (.int .i64 k) v2).run P w2 = .ok () (setBlock w2 mb (.map Bn B5))∧MapOK mb Bn (putE L e)∧e.k=k∧e.l=lookL L k++[x] ∧
   (∀ p∈mapR mb Bn B5 (putE L e),∀ q∈C0.R,p.1≠q.1)∧Sim P (C0.with (mapR mb Bn B5 (putE L e)++C0.R)) M0 w0 st a (setBlock w2 mb (.map Bn B5)):=by
 obtain ⟨i,hi,hz,D5,Iv⟩:=info_parts Qd;have hhas:=hs.has;have hmb:w.heap[mb]? = some (.map es cl):=hhas (mb,.map es cl) (by simp [mapR])
 have hmlt:=bJ hmb;have hblkh:∀ e∈L,w.heap[e.b]? = some (.cells e.arr 84 (0,0)):=fun e he=>hhas e.blk (by simp [mapR];exact .inr (.inl ⟨e,he,rfl⟩))
 obtain ⟨n1,n2,n3⟩:=eQ w (.cells (vsL x).toArray 84);have hown:(w.alloc (.cells (vsL x).toArray 84)).ownsRow 0 84 6 (lookV L k) (lookL L k).length ((lookL L k).flatten.map (Value.int .i64))∧((lookV L k).ownBlock=none∨∃ e0∈L,e0.k=k∧(lookV L k).ownBlock=some e0.b)∧(lookL L k).length≤1000:=by
  unfold lookV lookL;cases h:lookE L k with
  | none=>exact ⟨nil_owns,.inl rfl,by simp⟩
  | some e0 =>
   obtain ⟨q1,q2⟩:=lookE_some h;exact ⟨Ent.owns (hM.ok e0 q1) ((n3 _ (bJ (hblkh e0 q1))).trans (hblkh e0 q1)),.inr ⟨e0,q1,q2,rfl⟩,hl e0 q1⟩
 obtain ⟨ho,hbk,hlen⟩:=hown;have Uo:uni 6 (lookL L k++[x]):=by
  intro y hy
  rcases dY.1 hy with h | h
  ·unfold lookL at h
   cases hq:lookE L k with
   | none=>rw [hq] at h;cases h
   | some e0=>rw [hq] at h;exact (hM.ok e0 (lookE_some hq).1).u y h
  ·simp at h;rw [h];exact J1
 obtain ⟨v2,w2,hrun,Jr,Es,hnil,hat⟩:=run_append_own_at (P:=P) (w:=w.alloc (.cells (vsL x).toArray 84)) 0 S22 ty 84 i H8 6 48 Ix hi hz D5 Iv rfl (by decide) (lookV L k) (lookL L k).length _ ho
  ⟨w.heap.size,0,none⟩ 1 1 (vsL x) (by simp [vsL,J1]) (bGi w x) (fun u hu=>by obtain ⟨z,_,rfl⟩:=Bi.1 hu;rfl) (by unfold maxLen;omega) (by omega) (Nat.zero_le _)
 have Kx:w2.ownsRow 0 84 6 v2 (lookL L k++[x]).length ((lookL L k++[x]).flatten.map (Value.int .i64)):=by
  rw [kU,bDm,jJ,List.flatten_singleton];exact Jr
 obtain ⟨e,rfl,hel,rfl,heo,heh⟩:=owns_ent hk (by simp) Uo Kx
 have hvb:e.val.ownBlock=some e.b:=rfl;have hwhere:(∃ e0∈L,e0.k=e.k∧e0.b=e.b)∨e.b=w.heap.size+1:=by
  rcases hat with h | h
  ·rcases hbk with h0 | ⟨e0,q1,q2,q3⟩
   ·rw [h0,hvb] at h;cases h
   ·rw [q3,hvb] at h;exact .inl ⟨e0,q1,q2,(Option.some.inj h).symm⟩
  ·rw [hvb] at h
   right
   have:=Option.some.inj h;rw [this];simp
 have hrow:∀ b,b<w.heap.size→(∀ e0∈L,e0.k=e.k→e0.b≠b)→w2.heap[b]? = w.heap[b]? := fun b hb hno=>by
  refine (Es.block b (by omega) (fun he => ?_)).trans (n3 b hb)
  rcases hbk with h0 | ⟨e0,q1,q2,q3⟩
  ·rw [h0] at he;cases he
  ·rw [q3] at he;exact hno e0 q1 q2 (Option.some.inj he).symm
 have hblk:e.b≠mb∧∀ y∈L,y.k≠e.k→y.b≠e.b:=by
  rcases hwhere with ⟨e0,q1,q2,q3⟩ | h
  ·refine ⟨q3 ▸ hM.b_mb q1,fun y hy hyk hb=>hyk ?_⟩
   have:=hM.b_inj hy q1 (hb.trans q3.symm);rw [this];exact q2
  ·refine ⟨by omega,fun y hy _ hb => ?_⟩
   have:=bJ (hblkh y hy);omega
 have Em:w2.heap[mb]? = w.heap[mb]? := hrow mb hmlt fun e0 Ib _=>hM.b_mb Ib
 obtain ⟨Bn,B5,hup,Eb,hbn⟩:=put_run (P:=P) (w:=w2) ht hkt (Em.trans hmb) hM e heo hblk;refine ⟨e.val,w2,Bn,B5,e,hrun,fun b hb hno=>hrow b hb fun e0 Ib _=>hno e0.blk (by simp [mapR];exact .inr ⟨e0,Ib,rfl⟩),Em,⟨by have:=Es.size;omega,hbn,fun p hp => ?_⟩,hup,Eb,rfl,hel,?_,?_⟩
 ·rcases mem_mapR.1 hp with rfl | ⟨y,hy,rfl⟩
  ·exact .inl ⟨_,mem_mapR.2 (.inl rfl),rfl⟩
  ·rcases mem_putE.1 hy with ⟨q1,_⟩ | rfl
   ·exact .inl ⟨_,mem_mapR.2 (.inr ⟨y,q1,rfl⟩),rfl⟩
   ·rcases hwhere with ⟨e0,r1,_,r3⟩ | h
    ·exact .inl ⟨_,mem_mapR.2 (.inr ⟨e0,r1,rfl⟩),r3⟩
    ·exact .inr (by show w.heap.size≤y.b;omega)
 ·intro p hp q hq
  rcases mem_mapR.1 hp with rfl | ⟨y,hy,rfl⟩
  ·exact hd (mb,.map es cl) (by simp [mapR]) q hq
  ·rcases mem_putE.1 hy with ⟨q1,q2⟩ | rfl
   ·exact hd y.blk (mem_mapR.2 (.inr ⟨y,q1,rfl⟩)) q hq
   ·rcases hwhere with ⟨e0,q1,q2,q3⟩ | h
    ·exact fun hpq=>hd e0.blk (mem_mapR.2 (.inr ⟨e0,q1,rfl⟩)) q hq (by rw [← hpq];exact q3)
    ·have:=bJ (hhas q (oE _ hq))
     intro hpq;change y.b=q.1 at hpq
     omega
 ·have hne:∀ p∈C0.R,p.1≠mb∧∀ e0∈L,p.1≠e0.b:=fun p hp=>⟨fun h=>hd (mb,.map es cl) (by simp [mapR]) p hp h.symm,fun e0 Ib h=>hd e0.blk (mem_mapR.2 (.inr ⟨e0,Ib,rfl⟩)) p hp h.symm⟩
  have hset:∀ b,b≠mb→(setBlock w2 mb (.map Bn B5)).heap[b]? = w2.heap[b]? := fun b hb=>by
   unfold setBlock;simp only [Array.getElem?_setIfInBounds];rw [if_neg (Ne.symm hb)]
  have hsetm:(setBlock w2 mb (.map Bn B5)).heap[mb]? = some (.map Bn B5):=by
   unfold setBlock;have:mb<w2.heap.size:=bJ (Em.trans hmb);simp [this]
  refine hs.beside (fun b=>b=mb∨∃ e0∈L,e0.k=e.k∧e0.b=b) (fun b hb => ?_) Es.os Es.tape Es.output (by have:=Es.size;unfold setBlock;simp only [Array.size_setIfInBounds];omega) (fun b hb hX => ?_) (fun p hp => ?_)
  ·rcases hb with rfl | ⟨e0,q1,q2,rfl⟩
   ·exact ⟨_,gD _ (mem_mapR.2 (.inl rfl))⟩
   ·exact ⟨_,gD _ (mem_mapR.2 (.inr ⟨e0,q1,rfl⟩))⟩
  ·rw [hset b (fun h=>hX (.inl h))]
   exact hrow b hb fun e0 q1 q2 q3=>hX (.inr ⟨e0,q1,q2,q3⟩)
  ·rcases dY.1 hp with hp | hp
   ·rcases mem_mapR.1 hp with rfl | ⟨y,hy,rfl⟩
    ·exact .inr ⟨hsetm,(fun h=>by cases h),.inr ⟨_,gD _ (mem_mapR.2 (.inl rfl))⟩⟩
    ·rcases mem_putE.1 hy with ⟨q1,q2⟩ | rfl
     ·refine .inl ⟨gD _ (mem_mapR.2 (.inr ⟨y,q1,rfl⟩)),fun hX => ?_⟩
      rcases hX with hX | ⟨e0,r1,r2,r3⟩
      ·exact hM.b_mb q1 hX
      ·have:=hM.b_inj q1 r1 r3.symm
       exact q2 (this ▸ r2)
     ·refine .inr ⟨(hset _ hblk.1).trans heh,(fun h=>by cases h),?_⟩
      rcases hwhere with ⟨e0,r1,r2,r3⟩ | h
      ·exact .inr ⟨.cells e0.arr 84 (0,0),gD _ (mem_mapR.2 (.inr ⟨e0,r1,by unfold Ent.blk;rw [r3]⟩))⟩
      ·exact .inl (by show w.heap.size≤y.b;omega)
   ·refine .inl ⟨oE _ hp,fun hX => ?_⟩
    rcases hX with hX | ⟨e0,r1,r2,r3⟩
    ·exact (hne p hp).1 hX
    ·exact (hne p hp).2 e0 r1 r3.symm
end
section
open Go.ChangeMaps (setBlock)
variable {P:Program} {C:Cx} {M:Mem} {w:World}

def aGe(P:Program)(C:Cx)(M:Mem)(w:World)(C':Cx)(M':Mem)(W:World):Prop:=(∀ b,C'.F b↔C.F b)∧aP P C' M' W∧Fr C M w C' M' W
def aLi(M M':Mem):Prop:=(∀ (i:Nat) (es:List (Value × PV)) (cl:Nat),M'[i]? = some (some (.mp es cl))→∃ o,M[i]? = some (some o)∧o.live=true)∧bCr M'

theorem aGe.same{M':Mem}{W W':World}{C':Cx}(hn:aLi M M')(B4:aP P C M w)(h:aGe P C M w C' M' W)(hsz:W.heap.size≤W'.heap.size)(ho:W'.os=W.os)(ht:W'.tape=W.tape)(hu:W'.output=W.output)
  (hs:∀ b,b<W.heap.size→(b<w.heap.size∧(∀ (id:Nat) (o:AO),M[id]? = some (some o)→o.live=true→C.ι id=some b→∃ o',M'[id]? = some (some o')∧o'.live=true))∨(oJ W b∧∃ (id:Nat) (o:AO),M'[id]? = some (some o)∧o.live=true∧C'.ι id=some b)→W'.heap[b]? = W.heap[b]?):aGe P C M w C' M' W':=by
 obtain ⟨hF,hM,f⟩:=h;have old:∀ (i:Nat) (o:AO),M[i]? = some (some o)→C'.ι i=C.ι i:=fun i o h=>(f.ids i o h).2.1
 have hFz:∀ b,C'.F b→W'.heap[b]? = W.heap[b]? := fun b hb=>hs b (hM.Fs b hb) (.inl ⟨B4.Fs b ((hF b).1 hb),fun id o ho hl he=>absurd ((hF b).1 hb) (B4.nF id o b ho hl he)⟩)
 have hL:Le C' C' M' M' W W':=⟨fun _ o h=>⟨o,h⟩,fun _ _ _ _ _ cs h=>⟨cs,h⟩,fun _ o h o' h' hl=>by rw [h] at h';cases h';exact ⟨hl,rfl,rfl⟩,fun _ h=>h,hFz⟩
 refine ⟨hF,⟨fun i ty n cs hm => ?_,fun i ty cs hm => ?_,fun i es cl hm => ?_,hM.inj,hM.nF,fun b hb=>fK (hM.Fs b hb) hsz,fun i o b ho hl hb=>fK (hM.lt i o b ho hl hb) hsz⟩,
  ⟨ho.trans f.os,ht.trans f.tape,hu.trans f.out,jY f.size hsz,fun b hb hno=>(hs b (fK hb f.size) (.inl ⟨hb,fun id o ho hl he=>absurd he (hno id o ho hl)⟩)).trans (f.keep b hb hno),f.ids,f.row,f.liv,f.new,f.F1,f.F2⟩⟩
 ·rcases hM.row _ _ _ _ hm with h4 | ⟨b,arr,inf,q0,q1,q2,q3,q4,q5,q6,q7,q8⟩
  ·exact .inl h4
  ·exact .inr ⟨b,arr,inf,q0,(hs b (bJ q1) (.inr ⟨gL q1,i,_,hm,rfl,q0⟩)).trans q1,q2,q3,q4,q5,q6,fun j hj=>(q7 j hj).mono hL.F hL.fz,q8⟩
 ·obtain ⟨b,arr,q0,q1,q2,q3,q4⟩:=hM.box _ _ _ hm
  exact ⟨b,arr,q0,(hs b (bJ q1) (.inr ⟨gL q1,i,_,hm,rfl,q0⟩)).trans q1,q2,fun j hj=>(q3 j hj).mono hL,q4⟩
 ·obtain ⟨b,arr,q0,q1,q2,q3⟩:=hM.mp _ _ _ hm
  obtain ⟨o,Dj,hl⟩:=hn.1 _ _ _ hm;have hb:C.ι i=some b:=by rw [← old i o Dj];exact q0
  refine ⟨b,arr,q0,(hs b (bJ q1) (.inl ⟨B4.lt i o b Dj hl hb,fun id o2 Jr Bo he => ?_⟩)).trans q1,q2,fun j hj => ?_⟩
  ·obtain rfl:=B4.inj id i o2 o b Jr Bo Dj hl he hb
   exact ⟨_,hm,rfl⟩
  ·obtain ⟨en,r1,r2,r3,r4⟩:=q3 j hj
   exact ⟨en,r1,r2,r3,r4.mono hL.F hL.fz⟩

theorem aGe.own{M':Mem}{W W':World}{C':Cx}{row:Option Nat}(hn:aLi M M')(B4:aP P C M w)(h:aGe P C M w C' M' W)(hg:W.grownBy W' row)
  (hr:∀ r,row=some r→w.heap.size≤r∧∃ o:Obj,W.heap[r]? = some o∧o.isCells=false):aGe P C M w C' M' W' :=
 h.same hn B4 hg.size hg.os hg.tape hg.output fun b hb hd=>hg.block b hb fun e=>by
  obtain ⟨q1,o,q2,q3⟩:=hr b e.symm
  rcases hd with ⟨hd,_⟩ | ⟨hd,_⟩
  ·omega
  ·exact lW q2 q3 hd
end
end KV
end Go.Proofs
section
namespace Go.Proofs
open Go.RowKit Go.Lib
namespace KV
open Tryz
attribute [local go_sem] Oper.semAt_some

def bk(n i:Nat):List Nat:=((List.range n).drop i).reverse
theorem bVc{n i:Nat}(h:i<n):bk n i=bk n (i+1)++[i]:=by
 unfold bk;rw [aFy (by simpa using h),List.reverse_cons]
 simp
theorem cCg(n:Nat):bk n n=[]:=by unfold bk;rw [List.drop_eq_nil_of_le (by simp)];rfl
theorem bVd(n:Nat):bk n 0=(List.range n).reverse:=rfl
theorem aVt{n i:Nat}:(bk n i).length=n-i:=by simp [bk]
theorem bGh{n i:Nat}(h:i≤n):bk n i <+: bk n 0:=by
 unfold bk;rw [List.drop_zero];refine ⟨((List.range n).take i).reverse,?_⟩;rw [← List.reverse_append,bDl]
theorem cFv{n i:Nat}(h:i<n):(bk n (i+1)).length<(bk n 0).length:=by rw [aVt,aVt];omega
end KV
end Go.Proofs
end
section
namespace Go.Proofs
open Go.RowKit Go.Lib Go.Shelf
namespace KV
open Tryz
attribute [local go_sem] Oper.semAt_some
def Hid(p:Prop):Prop:=p
theorem hid{p:Prop}(h:p):Hid p:=h
theorem Hid.out{p:Prop}(h:Hid p):p:=h
def Co(x:List Int):Array Value:=(x.map (Value.int .i64)).toArray
set_option maxRecDepth 1000000 in
set_option maxHeartbeats 2000000 in
theorem aVr(dc:Lqq)(hl:dc.length≤1000)(F0:Nat→Prop)(n l b1 o1 b2 o2 cap:Nat)(hn:1≤n)(J Jx:List Nat→World→Prop)
  (hY:∀ pre (k:Nat) (a b c d e f:Int) W,dc[k]? = some [a,b,c,d,e,f]→J pre W→pre.length<(bk dc.length 0).length→YieldAt Fence.wide (n-1) Tp l #[.int .i64 k,.agg #[.int .i64 a,.int .i64 b,.int .i64 c,.int .i64 d,.int .i64 e,.int .i64 f]] W fun e W' =>
   (e = .returned (.bool true)∧J (pre++[k]) W'∧KpG F0 W W')∨(e = .returned (.bool false)∧Jx (pre++[k]) W'))
  (W:World) (hJ:AbidesFrom W.heap.size J) (hF:∀ b,F0 b→b<W.heap.size)
  (hc:∀ W',KpG F0 W W'→∀ k:Nat,k<dc.length→∃ a b c d e f,dc[k]? = some [a,b,c,d,e,f]∧W'.cell? ⟨b2,o2+k*6,none⟩=some (.int .i64 a)∧W'.cell? ⟨b2,o2+k*6+1,none⟩=some (.int .i64 b)∧W'.cell? ⟨b2,o2+k*6+2,none⟩=some (.int .i64 c)∧W'.cell? ⟨b2,o2+k*6+3,none⟩=some (.int .i64 d)∧W'.cell? ⟨b2,o2+k*6+4,none⟩=some (.int .i64 e)∧W'.cell? ⟨b2,o2+k*6+5,none⟩=some (.int .i64 f))
  (hk:∀ W',KpG F0 W W'→W'.cell? ⟨b1,o1,none⟩=some (.slice (some ⟨b2,o2,none⟩) dc.length cap)) (h0:J [] W) :
  CallsIn Fence.wide n Tp 157 #[.func (.yield l) #[] #[],.pointer (some ⟨b1,o1,none⟩)] W fun e W'=>(∃ v,e = .returned v) ∧
   ((∃ ys,ys=bk dc.length 0∧J ys W')∨(∃ pre,pre <+: bk dc.length 0∧Jx pre W')):=by
 have HJ:=hid hJ;have HY:=hid hY;have HC:=hid hc;have HKC:=hid hk;have HF0:=hid hF;have HJ0:=hid h0;have k0:=hk W (KpG.refl _ _);clear hJ hY hc h0 hk hF;refine callsIn_of_wp func157 rfl trivial ?_ rfl;simp only [Tryz.ntmps157,List.size_toArray,oF,List.length_nil,Nat.reduceAdd,Nat.reduceSub,Array.replicate_succ,Array.replicate_zero,List.push_toArray,List.append_toArray,List.nil_append,List.cons_append]
 gi_wp2
 clear k0
 gi_loopw [3] (fun i wr=>∃ k:Nat,k≤dc.length∧i = .int .i64 ((k:Int)-1)∧J (bk dc.length k) wr∧KpG F0 W wr)
  (fun i _=>(intOf i+1).toNat)
 case atStart=>exact ⟨dc.length,dJ _,by go_num,by rw [cCg];exact HJ0.out,KpG.refl _ _⟩
 case round =>
  obtain ⟨k,hk,rfl,hJk,hK⟩:=hrel;have HJK:=hid hJk;have HK:=hid hK;have k0:=HKC.out wr hK;have HFR:=hid (fun b (hb:F0 b)=>fK (HF0.out b hb) HK.out.size)
  clear hJk hK
  rcases Nat.eq_zero_or_pos k with rfl | hpos
  ·gi_wp2
   go_end0
   exact ⟨⟨_,rfl⟩,.inl ⟨_,rfl,HJK.out⟩⟩
  ·obtain ⟨k,rfl⟩:∃ j,k=j+1:=⟨k-1,by omega⟩
   have e1:((k+1:Nat):Int)-1=(k:Int):=by omega
   have hlt:(k:Int)<(dc.length:Int):=by omega
   have Un:(dc.length:Int)≤1000:=by omega
   rw [e1];obtain ⟨a,b,c,d,e,f,Ru,c0,c1,c2,c3,c4,c5⟩:=HC.out wr HK.out k (by omega)
   have HL:=hid (cFv (n:=dc.length) (i:=k) (by omega))
   have HB:=hid (bVc (n:=dc.length) (i:=k) (by omega))
   have HP:=hid (bGh (n:=dc.length) (i:=k) (by omega))
   have hge:(k:Int) ≥ 0:=by omega
   obtain ⟨fn,tmps,assign,body,hy,hR⟩:=HY.out _ k a b c d e f wr Ru HJK.out HL.out;clear Ru
   gi_wp2_with (refine hR.mono ?_;clear hR;rintro e w3 (⟨rfl,Ja,Jb⟩ | ⟨rfl,hx⟩))
   ·go_roundw
    case rel=>exact ⟨k,by omega,by go_num,by rw [HB.out];exact Ja,HK.out.trans Jb⟩
    case measure=>simp [intOf]
   ·refine bodyPost_ret (results_none rfl _ _ _) rfl ?_
    exact ⟨⟨_,rfl⟩,.inr ⟨bk dc.length (k+1)++[k],HB.out ▸ HP.out,hx⟩⟩
set_option maxRecDepth 1000000 in
set_option maxHeartbeats 2000000 in
theorem aVs(n l b1 o1 cap:Nat)(p:Option Addr)(hn:1≤n)(J:World→Prop)(W:World)(hk:W.cell? ⟨b1,o1,none⟩=some (.slice p 0 cap))(h0:J W) :
  CallsIn Fence.wide n Tp 157 #[.func (.yield l) #[] #[],.pointer (some ⟨b1,o1,none⟩)] W fun e W'=>(∃ v,e = .returned v)∧J W':=by
 have HJ0:=hid h0;have k0:=hk;clear h0 hk;refine callsIn_of_wp func157 rfl trivial ?_ rfl;simp only [Tryz.ntmps157,List.size_toArray,oF,List.length_nil,Nat.reduceAdd,Nat.reduceSub,Array.replicate_succ,Array.replicate_zero,List.push_toArray,List.append_toArray,List.nil_append,List.cons_append]
 gi_wp2
 clear k0
 gi_loopw [3] (fun i wr=>i = .int .i64 (-1)∧J wr) (fun i _=>(intOf i+1).toNat)
 case atStart=>exact ⟨by go_num,HJ0.out⟩
 case round =>
  obtain ⟨rfl,hJk⟩:=hrel;have HJK:=hid hJk;clear hJk
  gi_wp2
  go_end0
  exact ⟨⟨_,rfl⟩,HJK.out⟩
end KV
end Go.Proofs
end
namespace Go.Proofs
namespace KV
open Tryz
section
variable {P:Program} {ops:Array Oper} {md:Region.Mode} {Q:Exit→Act→World→Prop} {F:Fence} {n:Nat}

def VS(P:Program)(m:Sem Next):Prop:=∀ w,(∃ v w',m.run P w = .ok (.value v) w')∨(∃ w',m.run P w = .ok .skip w')∨∃ x w',m.run P w = .halt x w'
theorem VS.val(m:Sem Value):VS P (do pure (.value (← m))):=fun w=>by
 cases h:m.run P w with
 | ok v w'=>exact .inl ⟨v,w',by simp [h,Result.andThen]⟩
 | halt x w'=>exact .inr (.inr ⟨x,w',by simp [h,Result.andThen]⟩)
theorem VS.unit(m:Sem Unit):VS P (do m;pure .skip):=fun w=>by
 cases h:m.run P w with
 | ok v w'=>exact .inr (.inl ⟨w',by simp [h,Result.andThen]⟩)
 | halt x w'=>exact .inr (.inr ⟨x,w',by simp [h,Result.andThen]⟩)
theorem VS.bind{α:Type}(m:Sem α)(f:α→Sem Next)(h:∀ x,VS P (f x)):VS P (m >>= f):=fun w=>by
 cases e:m.run P w with
 | ok v w' =>
  rcases h v w' with ⟨u,w2,q⟩ | ⟨w2,q⟩ | ⟨x,w2,q⟩
  ·exact .inl ⟨u,w2,by simp [e,Result.andThen,q]⟩
  ·exact .inr (.inl ⟨w2,by simp [e,Result.andThen,q]⟩)
  ·exact .inr (.inr ⟨x,w2,by simp [e,Result.andThen,q]⟩)
 | halt x w'=>exact .inr (.inr ⟨x,w',by simp [e,Result.andThen]⟩)
theorem VS.pure(v:Value):VS P (Pure.pure (.value v):Sem Next):=fun w => .inl ⟨v,w,rfl⟩
def zU(o:Oper):Bool:=match o.op with
 | .move _=>true
 | .assign _=>true
 | .indexAddr _ _ _=>true
 | .fieldAddr _ _ _=>true
 | .field _ _ _=>true
 | .load _ _=>true
 | .store _ _ _=>true
 | .lookup _ _ _ _=>true
 | .buildSlice _ _ _=>true
 | .mapUpdate _ _ _ _=>true
 | .nilCheck _=>true
 | .call c=>match c.callee with
  | .builtin .append=>true
  | _=>false
 | _=>false
theorem bVb{o:Oper}(h:zU o=true)(ρ:Operand→Value):VS P (execOp ρ o):=by
 unfold zU at h
 unfold execOp;cases ho:o.op <;> rw [ho] at h <;> first | exact absurd h Bool.false_ne_true | exact VS.val _ | exact VS.unit _ | skip
 case move x=>exact fun w => .inl ⟨_,w,rfl⟩
 case assign x=>exact fun w => .inl ⟨_,w,rfl⟩
 case nilCheck x =>
  dsimp only
  split
  ·exact fun w => .inr (.inr ⟨_,_,rfl⟩)
  ·exact fun w => .inr (.inr ⟨_,_,rfl⟩)
  ·exact fun w => .inr (.inr ⟨_,_,rfl⟩)
  ·split
   ·exact fun w => .inr (.inr ⟨_,_,rfl⟩)
   ·refine VS.bind _ _ fun p=>VS.bind _ _ fun q => ?_
    split
    ·exact VS.bind _ _ fun _=>VS.pure _
    ·exact VS.pure _
   ·exact VS.pure _
  ·exact VS.pure _
 case call c =>
  dsimp only at h
  show VS P (resolve ρ c o.type >>= fun d=>invoke d.target d.args)
  split at h
  ·rename_i hc
   unfold resolve;rw [hc];exact VS.val _
  ·cases h
theorem aVq{o:Oper}(h:zU o=true):∀ c,o.op ≠ .defer c:=fun c hc=>by unfold zU at h;rw [hc] at h;cases h

theorem aPq(hall:∀ f,F.fn f){i:Nat}{K:Act→World→Prop}{a:Act}{w:World}(hL:¬ LetsOut Q)(hc:∀ o,ops[i]? = some o→zU o=true)(h:wpOp P ops Q i K a w):wpOpIn F n P ops Q i K a w:=by
 unfold wpOp at h
 unfold wpOpIn;cases ho:ops[i]? with
 | none=>rw [ho] at h;exact h
 | some o =>
  rw [ho] at h
  dsimp only at h ⊢
  split
  ·rename_i hw
   rw [if_pos hw] at h
   rcases h with h | h
   ·unfold Oper.wp at h
    unfold Oper.wpIn;refine ⟨fun f _=>hall f,?_⟩
    rw [Oper.semAt_plain _ _ _ (aVq (hc o ho))]
    rcases bVb (P:=P) (hc o ho) a.eval w with ⟨v,w',e⟩ | ⟨w',e⟩ | ⟨x,w',e⟩
    ·rw [e] at h ⊢;exact h
    ·rw [e] at h ⊢;exact h
    ·rw [e] at h ⊢
     cases x <;> first | exact h | exact h.elim
   ·exact absurd h.2 hL
  ·rename_i hw
   rw [if_neg hw] at h
   exact ⟨fun f _=>hall f,h⟩
theorem wH(hall:∀ f,F.fn f)(hL:¬ LetsOut Q)(hc:∀ (i:Nat) (o:Oper),ops[i]? = some o→zU o=true):∀ (fuel:Nat) (listed:Array Bool) (a:Act) (w:World),wpAny P md ops Q fuel listed a w→wpAnyIn F n P md ops Q fuel listed a w
 | 0,_,_,_,h=>h
 | fuel+1,listed,a,w,h=>⟨h.1,fun i hi=>wpOpIn_mono (fun a' w' h'=>wH hall hL hc fuel _ a' w' h') (aPq hall hL (hc i) (h.2 i hi))⟩

theorem bGg{S:World→Prop}{id:Nat}{l:List Oper}{a:Act}{w:World}{o1 o2 o3:Oper}(hall:∀ f,F.fn f)(hL:¬ LetsOut Q)(hcalm:l.all zU=true)(ts:List Nat)(r1 r2 r3:Nat)(hm:P.follows .mixedOrders=true)(hB:sH l ts r1 r2 r3=true)(h1:l[r1]? = some o1)(h2:l[r2]? = some o2)(h3:l[r3]? = some o3)
  (hQ:∀ c a w,¬ Q (.panic c) a w) (hS:S { w with drawn:=w.drawn+1 }) (vs:List Value) (hl:vs.length=ts.length) (hy:aAz P S ((ts.filterMap fun i=>l[i]?).zip vs) a)
  (h:∀ a',a'=mE ((ts.filterMap fun i=>l[i]?).zip vs) a→∃ v1 w1 v2 w2 w3,(execOp a'.eval o1).run P { w with drawn:=w.drawn+1 } = .ok (.value v1) w1∧S w1∧(execOp (a'.put o1.dst v1).eval o2).run P w1 = .ok (.value v2) w2∧S w2 ∧
   (execOp ((a'.put o1.dst v1).put o2.dst v2).eval o3).run P w2 = .ok .skip w3∧Q .normal (((a'.put o1.dst v1).put o2.dst v2).put o3.dst undef) w3):(Code.region id l.toArray true).wpIn F n P Q a w:=by
 unfold sH at hB
 simp only [Bw,decide_eq_true_eq] at hB
 obtain ⟨⟨⟨hsel,ht⟩,hsz⟩,hne⟩:=hB;refine wpIn_region_any hm (wH hall hL (fun i o ho=>fL.1 hcalm o (Br (by simpa using ho))) _ _ _ _ (uJ (S:=S) (L:=r3) _ _ _ _ ?_))
 rw [← hsz];refine yI (rs:=[r1,r2,r3]) hsel hQ hS ts vs _ a hl (by rw [hsz];exact ht) (by simpa using hy) (fun Ec hc => ?_)
 obtain ⟨v1,w1,v2,w2,w3,e1,s1,e2,s2,e3,hq⟩:=h _ rfl;simp only [aDw.chain,Bw,decide_eq_true_eq] at hc
 obtain ⟨⟨g1,c1⟩,⟨g2,c2⟩,⟨g3,c3⟩,c4⟩:=hc;have k1:l.toArray[r1]? = some o1:=by simpa using h1
 have k2:l.toArray[r2]? = some o2:=by simpa using h2
 have k3:l.toArray[r3]? = some o3:=by simpa using h3
 rw [k1] at g1;rw [k2] at g2;rw [k3] at g3
 simp only [Option.isNone_iff_eq_none] at g1 g2 g3
 have Kq:((ts.filterMap fun i=>l.toArray[i]?))=(ts.filterMap fun i=>l[i]?):=by simp
 rw [Kq];refine kH c1 k1 g1 (.inl e1) (fun _=>s1) ?_
 refine kH c2 k2 g2 (.inl e2) (fun _=>s2) ?_
 refine kH c3 k3 g3 (.inr ⟨e3,rfl⟩) (fun h=>absurd rfl h) ?_
 exact ⟨by simpa using c4,hq⟩
end
section
open Go.ChangeMaps (setBlock)
variable {P:Program} {C:Cx} {M:Mem} {w:World}

theorem bVa{M':Mem}(hM:aP P C M w)(h1:∀ (i:Nat) (o:AO),M'[i]? = some (some o)→M[i]? = some (some o))
  (h2:∀ (i ty:Nat) (cs:List AV),M'[i]? = some (some (.box ty cs))→∀ x∈cs,∀ u,Rep C M w x u→Rep C M' w x u):aP P C M' w:=by
 refine ⟨fun i ty n cs hm=>hM.row _ _ _ _ (h1 _ _ hm),fun i ty cs hm => ?_,fun i es cl hm=>hM.mp _ _ _ (h1 _ _ hm),fun i i' o o' b q1 q2 q3 q4=>hM.inj i i' o o' b (h1 _ _ q1) q2 (h1 _ _ q3) q4,fun i o b q1=>hM.nF i o b (h1 _ _ q1),hM.Fs,fun i o b q1=>hM.lt i o b (h1 _ _ q1)⟩
 obtain ⟨b,arr,q0,q1,q2,q3,q4⟩:=hM.box _ _ _ (h1 _ _ hm);exact ⟨b,arr,q0,q1,q2,fun j hj=>h2 _ _ _ hm _ (eE hj) _ (q3 j hj),q4⟩
theorem aPo{M':Mem}{i off:Nat}{u:Value}(hi:M'[i]? = M[i]?)(h:Rep C M w (.ptr i off) u):Rep C M' w (.ptr i off) u:=by
 cases h with
 | ptr _ _ _ h0 ha h hp=>exact .ptr i off u h0 (by rw [hi];exact ha) (by rw [hi];exact h) hp
theorem aVp{M':Mem}{i:Nat}{u:Value}(hi:M'[i]? = M[i]?)(h:Rep C M w (.mp i) u):Rep C M' w (.mp i) u:=by
 cases h with
 | mp _ _ h0 ha h=>exact .mp i u h0 (by rw [hi];exact ha) (by rw [hi];exact h)
theorem sG{M':Mem}{x:PV}{u:Value}(h:Rep C M w (.p x) u):Rep C M' w (.p x) u:=by
 cases h with
 | p _ _ h=>exact .p _ _ h

theorem aPp{b ty k:Nat}{cs:List PV}{arr:Array Value}(hM:aP P C M w)(hf:xQ M k)(hh:w.heap[b]? = some (.cells arr ty (0,0)))(hnF:¬ C.F b)(hnl:∀ (id:Nat) (o:AO),M[id]? = some (some o)→o.live=true→C.ι id≠some b)
  (hs:arr.size=cs.length) (hrep:∀ j (h:j<cs.length),bQ C.F w cs[j] (arr.getD j undef)) (h1:∀ j,j<cs.length→(arr.getD j undef).oneCell'=true) :
  aP P (C.grow k b 1) (aX M k (some (.box ty (cs.map .p)))) w∧Le C (C.grow k b 1) M (aX M k (some (.box ty (cs.map .p)))) w w:=by
 have hne:∀ (j:Nat) (o':AO),M[j]? = some (some o')→j≠k:=fun j o' h e=>hf o' (e ▸ h)
 have hold:∀ (j:Nat) (o':AO),j≠k→(aX M k (some (.box ty (cs.map .p))))[j]? = some (some o')→M[j]? = some (some o'):=fun j o' h=>(aN M k j _ o' (fun e=>h e.symm)).1
 have hfw:∀ (j:Nat) (o':AO),M[j]? = some (some o')→(aX M k (some (.box ty (cs.map .p))))[j]? = some (some o'):=fun j o' h=>(aN M k j _ o' (fun e=>hne j o' h e.symm)).2 h
 have hι:∀ j,j≠k→(C.grow k b 1).ι j=C.ι j:=fun j h=>by simp [Cx.grow,h]
 have hκ:∀ j,j≠k→(C.grow k b 1).κ j=C.κ j:=fun j h=>by simp [Cx.grow,h]
 have hιs:(C.grow k b 1).ι k=some b:=by simp [Cx.grow]
 have hle:Le C (C.grow k b 1) M (aX M k (some (.box ty (cs.map .p)))) w w:=by
  refine ⟨fun j o h=>⟨o,hfw j o h⟩,fun j o h Cc n' Be hm=>⟨Be,hold j _ (hne j o h) hm⟩,fun j o h o' hm hl => ?_,fun _ h=>h,fun _ _=>rfl⟩
  have:=hold j _ (hne j o h) hm;rw [h] at this;cases this
  exact ⟨hl,hι j (hne j o h),hκ j (hne j o h)⟩
 have hnew:∀ (o':AO),(aX M k (some (.box ty (cs.map .p))))[k]? = some (some o')→o' = .box ty (cs.map .p):=fun o' h=>by rw [aV] at h;cases h;rfl
 refine ⟨⟨fun j Cc n' Be hm => ?_,fun j Cc Be hm => ?_,fun j es cl hm => ?_,fun j j' o1 o2 b' hm hl Cu De Bl Ct => ?_,fun j o' b' hm hl Al => ?_,hM.Fs,fun j o' b' hm hl Al => ?_⟩,hle⟩
 ·by_cases e:j=k
  ·subst e;cases hnew _ hm
  ·rw [hι j e,hκ j e]
   rcases hM.row _ _ _ _ (hold j _ e hm) with h4 | ⟨b,arr,inf,q0,q1,q2,q3,q4,q5,q6,q7,q8⟩
   ·exact .inl h4
   ·exact .inr ⟨b,arr,inf,q0,q1,q2,q3,q4,q5,q6,fun j hj=>(q7 j hj).mono hle.F hle.fz,q8⟩
 ·by_cases e:j=k
  ·subst e
   cases hnew _ hm;refine ⟨b,arr,hιs,hh,by simpa using hs,fun i hi => ?_,fun i hi=>h1 i (by simpa using hi)⟩
   rw [lE];exact .p _ _ (hrep i (by simpa using hi))
  ·rw [hι j e]
   obtain ⟨b,arr,q0,q1,q2,q3,q4⟩:=hM.box _ _ _ (hold j _ e hm);exact ⟨b,arr,q0,q1,q2,fun j hj=>(q3 j hj).mono hle,q4⟩
 ·by_cases e:j=k
  ·subst e;cases hnew _ hm
  ·rw [hι j e]
   obtain ⟨b,arr,q0,q1,q2,q3⟩:=hM.mp _ _ _ (hold j _ e hm);refine ⟨b,arr,q0,q1,q2,fun j hj => ?_⟩
   obtain ⟨en,r1,r2,r3,r4⟩:=q3 j hj;exact ⟨en,r1,r2,r3,r4.mono hle.F hle.fz⟩
 ·by_cases e:j=k
  ·by_cases e':j'=k
   ·rw [e,e']
   ·subst e
    rw [hιs] at Bl;cases Bl
    rw [hι j' e'] at Ct
    exact absurd Ct (hnl _ _ (hold j' _ e' Cu) De)
  ·by_cases e':j'=k
   ·subst e'
    rw [hιs] at Ct;cases Ct
    rw [hι j e] at Bl
    exact absurd Bl (hnl _ _ (hold j _ e hm) hl)
   ·rw [hι j e] at Bl;rw [hι j' e'] at Ct
    exact hM.inj _ _ _ _ _ (hold j _ e hm) hl (hold j' _ e' Cu) De Bl Ct
 ·by_cases e:j=k
  ·subst e
   rw [hιs] at Al;cases Al
   exact hnF
  ·rw [hι j e] at Al
   exact hM.nF _ _ _ (hold j _ e hm) hl Al
 ·by_cases e:j=k
  ·subst e
   rw [hιs] at Al;cases Al
   exact bJ hh
  ·rw [hι j e] at Al
   exact hM.lt _ _ _ (hold j _ e hm) hl Al
end
end KV
end Go.Proofs
section
namespace Go.Proofs
open Go.RowKit Go.Lib Go.Shelf
namespace KV
open Tryz
abbrev Bk(dc:Lqq):={ k:Nat // k<dc.length }
def mD(dc:Lqq)(k:Nat):List Int:=dc.getD k []
abbrev aPn(dc:Lqq):AV := .fn 157 [] [(.rp [(.sl dc.length (dc.flatten.map aA))] 0)]
theorem repVi{F:Nat→Prop}{w:World}{n:Int}{u:Value}(h:bQ F w (aA n) u):u = .int .i64 n:=by unfold aA at h;cases h;rfl
theorem bUz{dc:Lqq}(hu:uni 6 dc){k j:Nat}{x:List Int}(hx:dc[k]? = some x)(hj:j<6):dc.flatten[k*6+j]? = some (x.getD j 0):=by
 have hk:k<dc.length:=(Bg.1 hx).1
 induction dc generalizing k with
 | nil=>simp at hk
 | cons y r ih =>
  have hy:y.length=6:=hu y (gO ..);rw [aAj];cases k with
  | zero =>
   simp at hx;subst hx
   rw [Nat.zero_mul,gP,aFx (by omega),Bj,An (by omega)];rfl
  | succ k =>
   rw [aKl (by omega),hy,show (k+1)*6+j-6=k*6+j by omega]
   exact ih (fun z hz=>hu z (B3 _ hz)) (by simpa using hx) (by simpa using hk)
theorem cCf{F:Nat→Prop}{w:World}{n:Nat}{cs:List PV}{v:Value}(h:bQ F w (.sl n cs) v):∃ (p:Option Addr) (cap:Nat) (us:Nat→Value),v = .slice p n cap∧(∀ i,i<cs.length→∃ b o,p=some ⟨b,o,none⟩∧F b∧w.cell? ⟨b,o+i,none⟩=some (us i))∧∀ i (h:i<cs.length),bQ F w cs[i] (us i):=by
 cases h with
 | sl _ _ p cap us g1 g2 g3 g4 g5=>exact ⟨p,cap,us,rfl,g3,g4⟩
theorem bGf(dc:Lqq)(hu:uni 6 dc)(hl:dc.length≤1000):aKv Tp (aPn dc) (fun x:Bk dc => #[Value.int .i64 (x.1:Nat),.agg (Co (mD dc x.1))]) 157 dc.length (fun ys=>ys.map (fun x=>x.1)=bk dc.length 0):=fun C M w u Pd hFs=>by
 cases Pd with
 | fn _ _ _ us vs h1 h2 h3 h4 =>
  obtain rfl:us = #[]:=by simpa using h1
  have q0:=h4 0 (by simp)
  simp only [List.getElem_cons_zero] at q0
  obtain ⟨x0,rfl⟩:∃ x0,vs = #[x0]:=by
   have:vs.toList.length=1:=by simpa using h2
   match hv:vs.toList,this with
   | [x0],_=>exact ⟨x0,by rw [← hv]⟩
  change Rep C M w (.rp [.sl dc.length (dc.flatten.map aA)] 0) x0 at q0
  cases q0 with
  | rp _ _ b1 o1 u1 e1 e2 e3 =>
   have r0:=e2 0 (by simp)
   change bQ C.F w (.sl dc.length (dc.flatten.map aA)) (u1 0) at r0
   have c0:=e1 0 (by simp)
   obtain ⟨p,cap,Um,hv,g3,g4⟩:=cCf r0;rw [hv] at c0
   clear r0 hv
   ·have hlf:(dc.flatten.map aA).length=dc.length*6:=by rw [Bt,lF hu]
    refine ⟨_,fun pre=>True,rfl,fun l J Jx W hW hJ _ hY h0 => ?_⟩
    have hsame:∀ W',KpG C.F W W'→∀ b,C.F b→W'.heap[b]? = w.heap[b]? := fun W' hk b hb=>(hk.same b hb).trans (hW.block b (hFs b hb))
    obtain ⟨b2,o2,hp⟩:∃ b2 o2,dc.length=0∨p=some ⟨b2,o2,none⟩:=by
     by_cases hz:dc.length=0
     ·exact ⟨0,0,.inl hz⟩
     ·obtain ⟨b,o,h,_⟩:=g3 0 (by omega)
      exact ⟨b,o,.inr h⟩
    have hcell:∀ W',KpG C.F W W'→∀ k:Nat,k<dc.length→∃ a b c d e f,dc[k]? = some [a,b,c,d,e,f]∧W'.cell? ⟨b2,o2+k*6,none⟩=some (.int .i64 a)∧W'.cell? ⟨b2,o2+k*6+1,none⟩=some (.int .i64 b)∧W'.cell? ⟨b2,o2+k*6+2,none⟩=some (.int .i64 c)∧W'.cell? ⟨b2,o2+k*6+3,none⟩=some (.int .i64 d)∧W'.cell? ⟨b2,o2+k*6+4,none⟩=some (.int .i64 e)∧W'.cell? ⟨b2,o2+k*6+5,none⟩=some (.int .i64 f):=fun W' hk k hkn=>by
     obtain ⟨a,b,c,d,e,f,hx⟩:=Rf hu (i:=k) (by omega)
     have one:∀ j,j<6→W'.cell? ⟨b2,o2+(k*6+j),none⟩=some (.int .i64 ([a,b,c,d,e,f].getD j 0)):=fun j hj=>by
      have hi:k*6+j<(dc.flatten.map aA).length:=by omega
      obtain ⟨b',o',q1,q2,q3⟩:=g3 (k*6+j) hi
      rcases hp with hp | hp
      ·omega
      ·rw [hp] at q1
       cases q1;rw [dQ (hsame W' hk b2 q2),q3];have:=g4 (k*6+j) hi;have he:(dc.flatten.map aA)[k*6+j]=aA ([a,b,c,d,e,f].getD j 0):=by
        have h5:=bUz hu hx hj;rw [lE]
        congr 1
        obtain ⟨_,h6⟩:=Bg.1 h5;exact h6
       rw [he] at this
       rw [repVi this]
     exact ⟨a,b,c,d,e,f,hx,one 0 (by omega),one 1 (by omega),one 2 (by omega),one 3 (by omega),one 4 (by omega),one 5 (by omega)⟩
    by_cases hz:dc.length=0
    ·-- nothing to yield: any address will do
     have h2:bk dc.length 0=[]:=by unfold bk;rw [hz];rfl
     rw [hz] at c0
     refine (aVs 2 l b1 o1 cap p (by omega) (J []) W ((dQ (hsame W (KpG.refl _ _) b1 c0.1) _).trans c0.2) h0).mono ?_
     rintro e W' ⟨h5,h6⟩;exact ⟨h5,.inl ⟨[],by rw [h2];rfl,h6⟩⟩
    ·have hp:p=some ⟨b2,o2,none⟩:=hp.resolve_left hz
     subst hp;have:=aVr dc hl C.F 2 l b1 o1 b2 o2 cap (by omega) (fun ys W=>∃ zs:List (Bk dc),zs.map (fun x=>x.1)=ys∧J zs W) (fun ys W=>∃ zs:List (Bk dc),zs.map (fun x=>x.1)=ys∧Jx zs W)
      (fun pre k a b c d e f W1 hx hj hlt=>by
       obtain ⟨zs,rfl,hj⟩:=hj;have hk:k<dc.length:=(Bg.1 hx).1;obtain ⟨fn,tmps,assign,body,hy,hR⟩:=hY zs ⟨k,hk⟩ W1 hj (by simpa [aVt] using hlt)
       have ev:Co (mD dc k) = #[.int .i64 a,.int .i64 b,.int .i64 c,.int .i64 d,.int .i64 e,.int .i64 f]:=by
        unfold mD;rw [Bj,hx];rfl
       dsimp only at hy
       rw [ev] at hy
       refine ⟨fn,tmps,assign,body,hy,hR.mono ?_⟩;rintro e w3 (⟨rfl,Ja,Jb⟩ | ⟨rfl,Qc⟩)
       ·exact .inl ⟨rfl,⟨zs++[⟨k,hk⟩],by rw [jJ];rfl,Ja⟩,Jb⟩
       ·exact .inr ⟨rfl,⟨zs++[⟨k,hk⟩],by rw [jJ];rfl,Qc⟩⟩)
      W (fun ys A B row hs hg hr=>by obtain ⟨zs,h1,h2⟩:=hs;exact ⟨zs,h1,hJ _ _ _ _ h2 hg hr⟩) (fun b hb=>fK (hFs b hb) hW.size)
      hcell
      (fun W' hk=>(dQ (hsame W' hk b1 c0.1) _).trans c0.2)
      ⟨[],rfl,h0⟩
     refine this.mono ?_;rintro e W' ⟨h5,h6⟩;refine ⟨h5,?_⟩
     rcases h6 with ⟨ys,rfl,zs,h7,h8⟩ | ⟨pre,_,zs,h7,h8⟩
     ·exact .inl ⟨zs,h7,h8⟩
     ·exact .inr ⟨zs,trivial,h8⟩
end KV
end Go.Proofs
end
section
namespace Go.Proofs
open Go.RowKit
namespace KV
open Tryz
variable {P:Program} {T:TT} {E:Env} {C C0:Cx} {M M0:Mem} {w w0:World}
def eK(P:Program)(k:Nat)(c:Code)(st:St)(e:Ex)(Aj:St):Prop:=∀ (C0:Cx) (M0:Mem) (w0:World) (a:Act) (w:World),M0.length≤k→Sim P C0 M0 w0 st a w→∀ (ro:Option Nat) (n:Nat),c.wpIn (Fen ro) n P (fun e' a' w'=>e'=e.toExit∧Sim P C0 M0 w0 Aj a' w') a w
theorem eK.cast{k:Nat}{c:Code}{st st1 st2:St}{e:Ex}(h:eK P k c st e st1)(q:st1=st2):eK P k c st e st2:=q ▸ h
theorem bOe(hT:∀ t i,T t=some i→bX P t=some i)(hE:nY P E)(hm:P.follows .mixedOrders=true){id:Nat}{ops:Array Oper}{d:Bool}{st Aj:St}{s s':AS}(h:bCa P T E ops d st s=some (Aj,s'))(g:bB s'){k:Nat}:eK P k (.region id ops d) st .normal Aj:=by
 intro C0 M0 w0 a w _ hs ro n;cases d with
 | false =>
  refine wpIn_region ?_;have:=tP hT hE ops.toList 0 (fun j=>by simp) h g C0 M0 w0 a w hs ro n (fun e' a' w'=>e'=Ex.normal.toExit∧Sim P C0 M0 w0 Aj a' w') (fun a' w' h'=>⟨rfl,h'⟩)
  simpa using this
 | true =>
  obtain ⟨_,s1,h1,k1⟩:=aD h;obtain ⟨e1,rfl⟩:=aF h1;obtain ⟨r,s2,h2,k2⟩:=aD k1;obtain ⟨_,s3,h3,k3⟩:=aD k2;obtain ⟨e3,rfl⟩:=aF h3;obtain ⟨rfl,rfl⟩:=aI k3;obtain ⟨hB,_⟩:=bO e1;obtain ⟨hA,_⟩:=bO e3;obtain ⟨os,hfts,hlex⟩:=vD ops.toList _ (fts:=r.1) (fin:=r.2) h2 g
  replace hB:=aHb hB
  unfold Region.lexB at hB
  rw [Bw] at hB
  have hlen:os.length=ops.toList.length:=by
   have:∀ {l:List Oper} {id:Nat} {st:St} {os:List xJ} {fin:St},aSk P T E ops.toList id l st os fin→os.length=l.length:=by
    intro l
    induction l with
    | nil=>intro id st os fin h;cases h;rfl
    | cons o l ih=>intro id st os fin h;cases h with | cons _ _ _ _ q os _ h hr=>simp [ih hr]
   exact this hlex
  have key:pZ P T E ops.toList st.m.length (fun k=>os.getD k (.any,[],none)) r.2 ops.toList.length (Array.replicate ops.size false) st:=by
   refine pZ.lex ops.toList 0 _ st os (fun j=>by simp) (fun j q hj=>by simp [Bj,hj]) (fun j hj=>absurd hj (bMd _)) (fun j oj hj hl => ?_) (fun i j _ hij hj => ?_) (by simpa using hB.2) (by simpa [ido] using hlex)
   ·exfalso
    rcases Nat.lt_or_ge j ops.size with h' | h'
    ·simp [h'] at hl
    ·simp [Nat.not_lt.2 h'] at hl
   have D4:j<os.length:=by
    rw [hlen];obtain ⟨o,ho⟩:=Option.isSome_iff_exists.1 hj;exact (Bg.1 ho).1
   have:=qA r.1 0 hA i j (aJp os[i]) (aJp os[j]) hij (by rw [hfts,gF,An (by omega)];rfl) (by rw [hfts,gF,An D4];rfl)
   rw [gP,gP] at this
   simp only [Bj,An D4,An (show i<os.length by omega),Option.getD_some,Array.toArray_toList]
   exact this
  refine wpIn_region_any hm ?_;have:=pZ.sound hT hE (C0:=C0) (M0:=M0) (w0:=w0) (ro:=ro) (n:=n) (Q:=fun e' a' w'=>e'=Ex.normal.toExit∧Sim P C0 M0 w0 r.2 a' w') (fun a' w' h'=>⟨rfl,h'⟩) _ _ _ a _ key (hs.drawn (w.drawn+1))
  simpa using this


noncomputable def bOf(c:Code)(st:St):Ask (Ex × St):=match c with
 | .region _ ops d=>do
  let Aj ← bCa Tp tT EO ops d st
  pure (.normal,Aj)
 | _=>fail
theorem eK.fin{k:Nat}{c:Code}{st Aj:St}{e:Ex}{g:Gh}{o:List OI}{l:List Prop}(h:bDq k g (bOf c st (asg o))=some (e,Aj,l,[]))(gd:bB (out l)):eK Tp k c st e Aj:=by
 unfold bDq at h
 split at h
 ·rename_i e1 st1 s hr
  split at h
  ·rename_i st2 hg
   simp only [Option.some.injEq,Prod.mk.injEq] at h
   obtain ⟨rfl,rfl,rfl,hs⟩:=h;unfold bOf at hr
   split at hr
   ·rename_i id ops d
    obtain ⟨st3,s1,h1,k1⟩:=aD hr;obtain ⟨he,rfl⟩:=aI k1;cases he;intro C0 M0 w0 a w hk hsm ro n;exact wpIn_mono (bOe (k:=k) aZu aZt mixed h1 (fun p hp=>gd p hp) C0 M0 w0 a w hk hsm ro n) (fun _ _ _ hq=>⟨hq.1,uZ hk hg hq.2⟩)
   ·exact (aT hr).elim
  ·cases h
 ·cases h
theorem eK.fi{k:Nat}{c:Code}{st Aj:St}{e:Ex}(g:Gh)(o:List OI){l:List Prop}(gd:bB (out l))(h:bDq k g (bOf c st (asg o))=some (e,Aj,l,[]):=by kernel_rfl):eK Tp k c st e Aj:=eK.fin h gd
end KV
end Go.Proofs
end
namespace Go.Proofs
namespace KV
open Tryz
section
variable {dl x0 x1 x2 x3 x4 x5:Int}{cl mb:Nat}

theorem bUw{v1 v2:Value}{es:List (Value × PV)}(h0:cJ .i64 es (.int .i64 x0))(h1:(eD es (.int .i64 x0))=true):eK Tp 5 (sub (cd Tryz.f45) br) ⟨fr 57 [(6,(.ptr 0 0)),(8,(.ptr 4 0))],[some (.box 106 [(.ptr 1 0)]),some (.box 169 [(pI dl),(.p (.v v1)),(.p (.v v2)),(.mp 2),(.p (.v (.map (some mb))))]),some (.mp es cl),some .dead,some (.box 84 [(pI x0),(pI x1),(pI x2),(pI x3),(pI x4),(pI x5)])]⟩ .normal ⟨fr 57 [(6,(.ptr 0 0)),(8,(.ptr 4 0))],[some (.box 106 [(.ptr 1 0)]),some (.box 169 [(pI dl),(.p (.v v1)),(.p (.v v2)),(.mp 2),(.p (.v (.map (some mb))))]),some (.mp (oR es (.int .i64 x0) (dcE x0 x1 x2 x3 x4 x5)) cl),some .dead,some (.box 84 [(pI x0),(pI x1),(pI x2),(pI x3),(pI x4),(pI x5)])]⟩:=eK.fi ⟨ai,[],[],[]⟩ [bT] (gc h1 (gc h0 gn))
theorem bUx{v1 v2:Value}{es:List (Value × PV)}(h0:cJ .i64 es (.int .i64 x0))(h1:(eD es (.int .i64 x0))=false):eK Tp 5 (sub (cd Tryz.f45) br) ⟨fr 57 [(6,(.ptr 0 0)),(8,(.ptr 4 0))],[some (.box 106 [(.ptr 1 0)]),some (.box 169 [(pI dl),(.p (.v v1)),(.p (.v v2)),(.mp 2),(.p (.v (.map (some mb))))]),some (.mp es cl),some .dead,some (.box 84 [(pI x0),(pI x1),(pI x2),(pI x3),(pI x4),(pI x5)])]⟩ .normal ⟨fr 57 [(6,(.ptr 0 0)),(8,(.ptr 4 0))],[some (.box 106 [(.ptr 1 0)]),some (.box 169 [(pI dl),(.p (.v v1)),(.p (.v v2)),(.mp 2),(.p (.v (.map (some mb))))]),some (.mp (es++[((.int .i64 x0),(dcE x0 x1 x2 x3 x4 x5))]) (cl+1)),some .dead,some (.box 84 [(pI x0),(pI x1),(pI x2),(pI x3),(pI x4),(pI x5)])]⟩:=eK.fi ⟨ai,[],[],[]⟩ [bF] (gc h1 (gc h0 gn))
theorem bUy{v1 v2:Value}{es:List (Value × PV)}:eK Tp 5 (sub (cd Tryz.f45) bl) ⟨fr 57 [(6,(.ptr 0 0)),(8,(.ptr 4 0))],[some (.box 106 [(.ptr 1 0)]),some (.box 169 [(pI dl),(.p (.v v1)),(.p (.v v2)),(.mp 2),(.p (.v (.map (some mb))))]),some (.mp es cl),some .dead,some (.box 84 [(pI x0),(pI x1),(pI x2),(pI x3),(pI x4),(pI x5)])]⟩ .normal ⟨fr 57 [(6,(.ptr 0 0)),(8,(.ptr 4 0)),(39,(pB (decide (x5 > 0))))],[some (.box 106 [(.ptr 1 0)]),some (.box 169 [(pI dl),(.p (.v v1)),(.p (.v v2)),(.mp 2),(.p (.v (.map (some mb))))]),some (.mp es cl),some .dead,some (.box 84 [(pI x0),(pI x1),(pI x2),(pI x3),(pI x4),(pI x5)])]⟩:=eK.fi ⟨[0,1,2,3,4,5,7,9,10,11,12,13,14,15,16,17,18,19,20,21,22,23,24,25,26,27,28,29,30,31,32,33,34,35,36,37,38,40,41,42,43,44,45,46,47,48,49,50,51,52,53,54,55,56],[],[],[]⟩ [] gn
end
end KV
end Go.Proofs
section
namespace Go.Proofs
open Go.RowKit
namespace KV
open Tryz
open Go.ChangeMaps (setBlock)
open Go.Maps Go.MapKept

section
variable {P:Program} {o:Oper} {a:Act} {W W':World}
theorem bOb{x:Operand}{p:Addr}(ho:o.op = .nilCheck x)(hv:a.eval x = .pointer (some p)):(execOp a.eval o).run P W = .ok (.value (.pointer (some p))) W:=by
 unfold execOp;rw [ho];simp [hv]
theorem wF{t:TypeId}{x:Operand}{f:Nat}{v r:Value}(ho:o.op = .fieldAddr t x f)(hx:a.eval x=v)(hr:(Instr.fieldAt t v f).run P W = .ok r W):(execOp a.eval o).run P W = .ok (.value r) W:=by
 unfold execOp;rw [ho];simp [hx,hr,Result.andThen]
theorem wG{t:TypeId}{fs:Array Field}{f:Nat}{fl:Field}{j:TI}(hd:P.underlying t=some (.struct fs))(hf:fs[f]? = some fl)(hj:bX P fl.type=some j)(h0:j.size≠0)(b off:Nat) :
  (Instr.fieldAt t (.pointer (some ⟨b,off,none⟩)) f).run P W = .ok (.pointer (some ⟨b,off+fl.offset,none⟩)) W:=by
 unfold Instr.fieldAt;rw [Sem.run_bind,run_underlying hd,Result.andThen_ok];simp only [hf];rw [Sem.run_bind];show ((pure (⟨b,off,none⟩:Addr):Sem Addr).run P W).andThen _=_;rw [Sem.run_pure,Result.andThen_ok,Sem.run_bind,qL hj h0,Result.andThen_ok];rfl
theorem bGe{t:Nat}{i:TI}(hi:bX P t=some i)(ha:i.agg=true){b:Nat}{l:List Value}{ty:TypeId}{fr:Nat × Nat}(hl:l.length=i.size)(h:W.heap[b]? = some (.cells l.toArray ty fr)):(Instr.loadAt t (.pointer (some ⟨b,0,none⟩))).run P W = .ok (.agg l.toArray) W:=by
 have:=lD (P:=P) (w:=W) hi ha (b:=b) (o:=0) (f:=fun j=>l.getD j undef) (fun j hj=>by
  rw [gP,bP h (by simpa using (by omega:j<l.length))]
  simp [Bj,An (show j<l.length by omega),Bm])
 have e:((List.range i.size).map fun j=>l.getD j undef).toArray=l.toArray:=by
  rw [← hl]
  congr 1
  apply List.ext_getElem
  ·simp
  ·intro j h1 h2
   simp [Bj,An h2]
 rw [e] at this
 unfold Instr.loadAt Instr.sureAddr;simpa using this
end
theorem Ms{x:List Int}(hx:x.length=6):Instr.fill (fun i=>some (i*6,6)) ((Array.range (1*6)).map (H8.cells[· % H8.cells.size]!)) [(0,.agg (vsL x).toArray)]=some (vsL x).toArray:=by
 obtain ⟨a,b,c,d,e,f,rfl⟩:=Bp hx
 kernel_rfl
theorem tiq{P:Program}{t:Nat}{b:Bool}{n:Nat}(h:(bX P t).map (fun i=>(i.agg,i.size))=some (b,n)):∃ i,bX P t=some i∧i.agg=b∧i.size=n:=by
 cases h2:bX P t with
 | none=>rw [h2] at h;simp at h
 | some i=>rw [h2] at h;simp at h;exact ⟨i,rfl,h.1,h.2⟩
theorem Mt:(bX Tp 106).map (fun i=>(i.agg,i.size))=some (false,1):=by kernel_rfl
theorem Mu:(bX Tp 167).map (fun i=>(i.agg,i.size))=some (false,1):=by kernel_rfl
theorem T0:(bX Tp 3).map (fun i=>(i.agg,i.size))=some (false,1):=by kernel_rfl
theorem Pw:(bX Tp 84).map (fun i=>(i.agg,i.size))=some (true,6):=by kernel_rfl
theorem Fu:(Tryz.prog.info? 84).map (fun i=>(i.zero,i.size,i.bytes))=some (some H8,6,48):=by kernel_rfl

structure bUu (mb:Nat) (es:Array MapEntry) (cl:Nat) (L:List Ent) (k:Int) (x:List Int) (W W':World) (Bn:Array MapEntry) (B5:Nat) (e:Ent):Prop where
 ok:MapOK mb Bn (putE L e)
 ky:e.k=k
 li:e.l=lookL L k++[x]
 born:(∀ y∈es.toList,y.born<cl)→∀ y∈Bn.toList,y.born<B5
 has:∀ p∈mapR mb Bn B5 (putE L e),W'.heap[p.1]? = some p.2∧((∃ p0∈mapR mb es cl L,p0.1=p.1)∨W.heap.size≤p.1)
 size:W.heap.size≤W'.heap.size
 os:W'.os=W.os
 tape:W'.tape=W.tape
 out:W'.output=W.output
 keep:∀ b,b<W.heap.size→(∀ q∈mapR mb es cl L,q.1≠b)→W'.heap[b]? = W.heap[b]?

theorem bUv:∃ l:List Oper,sub (cd Tryz.f45) b5 = .region 9 l.toArray true∧sH l [0,1,2,3,4,5,6,7,8,9,10,11,12,13] 14 15 16=true∧l.all zU=true∧l.map (fun o=>(o.op,o.dst))=[(.load 106 (.tmp 6),some 40),(.nilCheck (.tmp 40),some 41),(.fieldAddr 169 (.tmp 41) 2,some 42),(.load 167 (.tmp 42),some 43),(.fieldAddr 84 (.tmp 8) 5,some 44),(.load 3 (.tmp 44),some 45),(.load 106 (.tmp 6),some 46),(.nilCheck (.tmp 46),some 47),(.fieldAddr 169 (.tmp 47) 2,some 48),(.load 167 (.tmp 48),some 49),(.fieldAddr 84 (.tmp 8) 5,some 50),(.load 3 (.tmp 50),some 51),(.lookup 167 (.tmp 49) (.tmp 51) false,some 52),(.load 84 (.tmp 8),some 53),(.buildSlice 24 1 #[(0,.tmp 53)],some 54),(.call { callee := .builtin .append,args := #[.tmp 52,.tmp 54],argTypes := #[24,24] },some 55),(.mapUpdate 167 (.tmp 43) (.tmp 45) (.tmp 55),none)] :=
 ⟨match sub (cd Tryz.f45) b5 with | .region _ ops _=>ops.toList | _=>[],by kernel_rfl,by kernel_rfl,by kernel_rfl,by kernel_rfl⟩
set_option maxHeartbeats 4000000 in
theorem Pr{F:Fence}{n:Nat}(hall:∀ f,F.fn f){a:Act}{W:World}{b6 bd b8 mb cl:Nat}{es:Array MapEntry}{L:List Ent}{x:List Int}(J1:x.length=6){a6 ad:Array Value}{t6 td:TypeId}
  (hsz:a.tmps.size=57) (v6:a.tmps.getD 6 undef = .pointer (some ⟨b6,0,none⟩)) (v8:a.tmps.getD 8 undef = .pointer (some ⟨b8,0,none⟩))
  (h6:W.heap[b6]? = some (.cells a6 t6 (0,0))) (q6:0<a6.size∧a6.getD 0 undef = .pointer (some ⟨bd,0,none⟩)) (hd:W.heap[bd]? = some (.cells ad td (0,0))) (qd:4<ad.size∧ad.getD 4 undef = .map (some mb)) (h8:W.heap[b8]? = some (.cells (vsL x).toArray 84 (0,0)))
  (hM:MapOK mb es L) (hR:∀ p∈mapR mb es cl L,W.heap[p.1]? = some p.2) (hl:∀ e∈L,e.l.length≤1000) (hne:∀ p∈mapR mb es cl L,p.1≠b6∧p.1≠bd∧p.1≠b8) (hk:(Lit.int .i64 (dAb x)).wf=true) :
  (sub (cd Tryz.f45) b5).wpIn F n Tp (fun e a' W'=>e = .normal∧∃ Bn B5 e,bUu mb es cl L (dAb x) x W W' Bn B5 e) a W:=by
 obtain ⟨l,hc,hB,hcalm,hops⟩:=bUv;rw [hc];obtain ⟨o0,l0,rfl,h0,hops⟩:=Cv.1 hops;obtain ⟨o1,l1,rfl,h1,hops⟩:=Cv.1 hops;obtain ⟨o2,l2,rfl,h2,hops⟩:=Cv.1 hops;obtain ⟨o3,l3,rfl,h3,hops⟩:=Cv.1 hops;obtain ⟨o4,l4,rfl,h4,hops⟩:=Cv.1 hops;obtain ⟨o5,l5,rfl,h5,hops⟩:=Cv.1 hops;obtain ⟨o6,l6,rfl,N3,hops⟩:=Cv.1 hops;obtain ⟨o7,l7,rfl,h7,hops⟩:=Cv.1 hops;obtain ⟨o8,l8,rfl,N4,hops⟩:=Cv.1 hops;obtain ⟨o9,l9,rfl,h9,hops⟩:=Cv.1 hops;obtain ⟨Rr,l10,rfl,A5,hops⟩:=Cv.1 hops;obtain ⟨Rs,F4,rfl,Cb,hops⟩:=Cv.1 hops;obtain ⟨Px,T4,rfl,Bu,hops⟩:=Cv.1 hops;obtain ⟨N6,T5,rfl,Dd,hops⟩:=Cv.1 hops;obtain ⟨N7,T6,rfl,Dq,hops⟩:=Cv.1 hops;obtain ⟨Rt,l15,rfl,G3,hops⟩:=Cv.1 hops;obtain ⟨T8,l16,rfl,Gk,hops⟩:=Cv.1 hops;obtain rfl:=bSb.1 hops;obtain ⟨q0,d0⟩:=Prod.mk.inj h0;obtain ⟨q1,d1⟩:=Prod.mk.inj h1;obtain ⟨q2,d2⟩:=Prod.mk.inj h2;obtain ⟨q3,d3⟩:=Prod.mk.inj h3;obtain ⟨q4,d4⟩:=Prod.mk.inj h4;obtain ⟨q5,d5⟩:=Prod.mk.inj h5;obtain ⟨Ua,d6⟩:=Prod.mk.inj N3;obtain ⟨q7,d7⟩:=Prod.mk.inj h7;obtain ⟨q8,d8⟩:=Prod.mk.inj N4;obtain ⟨q9,d9⟩:=Prod.mk.inj h9;obtain ⟨Py,Cp⟩:=Prod.mk.inj A5;obtain ⟨Pz,Cq⟩:=Prod.mk.inj Cb;obtain ⟨P0,D8⟩:=Prod.mk.inj Bu;obtain ⟨P2,Ik⟩:=Prod.mk.inj Dd;obtain ⟨P3,Kw⟩:=Prod.mk.inj Dq;obtain ⟨Ub,P4⟩:=Prod.mk.inj G3;obtain ⟨Uc,d16⟩:=Prod.mk.inj Gk;clear h0 h1 h2 h3 h4 h5 N3 h7 N4 h9 A5 Cb Bu Dd Dq G3 Gk;have V6:a.eval (.tmp 6) = .pointer (some ⟨b6,0,none⟩):=v6;have V8:a.eval (.tmp 8) = .pointer (some ⟨b8,0,none⟩):=v8;obtain ⟨Ud,P5,P6,_⟩:=tiq Mt;obtain ⟨Ue,Mv,P7,P8⟩:=tiq Mu;obtain ⟨i3,t3,a3,s3⟩:=tiq T0;obtain ⟨Ts,Uf,Ug,Uh⟩:=tiq Pw;have fd:∀ U:World,(Instr.fieldAt 169 (.pointer (some ⟨bd,0,none⟩)) 2).run Tp U = .ok (.pointer (some ⟨bd,4,none⟩)) U:=fun U =>
  (wG (P:=Tp) (W:=U) Tryz.underlying169 (f:=2) rfl (by exact Mv) (by rw [P8];decide) bd 0)
 have f8:∀ U:World,(Instr.fieldAt 84 (.pointer (some ⟨b8,0,none⟩)) 5).run Tp U = .ok (.pointer (some ⟨b8,5,none⟩)) U:=fun U =>
  (wG (P:=Tp) (W:=U) Tryz.underlying84 (f:=5) rfl (by exact t3) (by rw [s3];decide) b8 0)
 obtain ⟨S,hSdef⟩:∃ S:World→Prop,S=fun U=>U.heap[b6]? = W.heap[b6]? ∧ U.heap[bd]? = W.heap[bd]? ∧ U.heap[b8]? = W.heap[b8]? ∧ U.heap[mb]? = W.heap[mb]? := ⟨_,rfl⟩
 have hmb:W.heap[mb]? = some (.map es cl):=hR (mb,.map es cl) (by simp [mapR])
 have r6:∀ U,S U→(Instr.loadAt 106 (.pointer (some ⟨b6,0,none⟩))).run Tp U = .ok (.pointer (some ⟨bd,0,none⟩)) U:=fun U hU=>by
  rw [hSdef] at hU
  refine run_load1 P5 P6 ?_;rw [dQ hU.1,bP h6 q6.1];have:=q6.2;simp only [Bm,oD q6.1,Option.getD_some] at this ⊢
  rw [this]
 have rd:∀ U,S U→(Instr.loadAt 167 (.pointer (some ⟨bd,4,none⟩))).run Tp U = .ok (.map (some mb)) U:=fun U hU=>by
  rw [hSdef] at hU
  refine run_load1 Mv P7 ?_;rw [dQ hU.2.1,bP hd qd.1];have:=qd.2;simp only [Bm,oD qd.1,Option.getD_some] at this ⊢
  rw [this]
 have x5:(vsL x)[5]? = some (.int .i64 (dAb x)):=by
  unfold vsL;rw [gF,An (by omega)]
  simp [dAb,Bj,An (show 5<x.length by omega)]
 have r5:∀ U,S U→(Instr.loadAt 3 (.pointer (some ⟨b8,5,none⟩))).run Tp U = .ok (.int .i64 (dAb x)) U:=fun U hU=>by
  rw [hSdef] at hU
  refine run_load1 t3 a3 ?_;have P9:5<(vsL x).length:=by simp [vsL,J1]
  rw [dQ hU.2.2.1,bP h8 (j:=5) (by simpa using P9)]
  simp only [An P9,Option.some.injEq] at x5
  simp [Bm,An P9,x5]
 have r8:∀ U,S U→(Instr.loadAt 84 (.pointer (some ⟨b8,0,none⟩))).run Tp U = .ok (.agg (vsL x).toArray) U:=fun U hU=>by
  rw [hSdef] at hU
  exact bGe Uf Ug (by simp [vsL,J1,Uh]) (hU.2.2.1.trans h8)
 have rz:∀ U:World,(zeroValue 24).run Tp U = .ok (.slice none 0 0) U:=fun U=>rfl
 have rl:∀ U,S U→(Instr.lookup 167 (.map (some mb)) (.int .i64 (dAb x)) false).run Tp U = .ok (lookV L (dAb x)) U:=fun U hU=>by
  rw [hSdef] at hU
  exact look_run Tryz.underlying167 Tryz.underlying3 (rz U) (hU.2.2.2.trans hmb) hM hk
 obtain ⟨W1,Mw⟩:∃ W1:World,W1={ W with drawn:=W.drawn+1 }:=⟨_,rfl⟩
 have Ia:W1.heap=W.heap:=by rw [Mw]
 have hs:Sim Tp ((⟨fun _=>none,fun _=>0,fun _=>False,[]⟩:Cx).with (mapR mb es cl L++[])) [] { W1 with heap := #[] } ⟨List.replicate 57 .any,[]⟩ { tmps:=a.tmps,defers:=[] } W1:=by
  refine ⟨⟨fun _=>none,fun _=>0,fun _=>False,[]⟩,⟨by simpa using hsz,fun j hj=>by rw [List.getElem_replicate];exact .any _⟩,⟨fun _ _ _ _ h=>by simp at h,fun _ _ _ h=>by simp at h,fun _ _ _ h=>by simp at h,fun _ _ _ _ _ h=>by simp at h,fun _ _ _ h=>by simp at h,fun _ h=>h.elim,fun _ _ _ h=>by simp at h⟩,
   ⟨rfl,rfl,rfl,Nat.zero_le _,fun b hb=>by simp at hb,fun _ _ h=>by simp at h,fun _ _ h=>by simp at h,fun _ _ h=>by simp at h,fun _ _ _ h=>by simp at h,fun _ h=>h,fun _ h=>h.elim⟩,?_⟩
  refine ⟨⟨[],rfl,.nil,fun D h=>by cases h⟩,fun p hp => ?_,.no (fun _ _ h=>by simp at h)⟩
  have Jv:p∈mapR mb es cl L:=by have h2:p∈mapR mb es cl L++[]:=hp;rwa [List.append_nil] at h2
  refine ⟨by rw [Ia];exact hR p Jv,Nat.zero_le _,?_,fun h=>h,fun _ _ h=>by simp at h⟩
  rcases mem_mapR.1 Jv with rfl | ⟨y,_,rfl⟩ <;> (intro h;cases h)
 obtain ⟨v2,w2,Bn,B5,e,hrun,hkeep,Em,⟨hsize,hborn,hold⟩,hup,Eb,hek,hel,_,hsim⟩:=mapStep (P:=Tp) (C0:=⟨fun _=>none,fun _=>0,fun _=>False,[]⟩) (kt:=3) (S22:=24) (ty:=Rt.type) (k:=dAb x) (x:=x) J1 Tryz.underlying167 Tryz.underlying3 Tryz.underlying24 Fu hs (fun p _ q hq=>by cases hq) hM hk hl
 have Ev:S w2:=by
  rw [hSdef];have hlt:∀ b o,W.heap[b]? = some o→b<W1.heap.size:=fun b o h=>by rw [Ia];exact bJ h
  refine ⟨(hkeep b6 (hlt _ _ h6) fun q hq=>(hne q hq).1).trans (by rw [Ia]),(hkeep bd (hlt _ _ hd) fun q hq=>(hne q hq).2.1).trans (by rw [Ia]),(hkeep b8 (hlt _ _ h8) fun q hq=>(hne q hq).2.2).trans (by rw [Ia]),Em.trans (by rw [Ia])⟩
 have I4:S { W with drawn:=W.drawn+1 }:=by rw [hSdef];exact ⟨rfl,rfl,rfl,rfl⟩
 refine bGg (P:=Tp) (o1:=N7) (o2:=Rt) (o3:=T8) (S:=S) hall (fun ⟨_,_,h,_⟩=>by cases h) hcalm [0,1,2,3,4,5,6,7,8,9,10,11,12,13] 14 15 16 mixed hB rfl rfl rfl (fun c a w h=>by cases h.1) I4
  [.pointer (some ⟨bd,0,none⟩),.pointer (some ⟨bd,0,none⟩),.pointer (some ⟨bd,4,none⟩),.map (some mb),.pointer (some ⟨b8,5,none⟩),.int .i64 (dAb x),.pointer (some ⟨bd,0,none⟩),.pointer (some ⟨bd,0,none⟩),.pointer (some ⟨bd,4,none⟩),.map (some mb),.pointer (some ⟨b8,5,none⟩),.int .i64 (dAb x),lookV L (dAb x),.agg (vsL x).toArray] rfl ?_ ?_
 ·refine ⟨fun U hU=>ex_load q0 V6 (r6 U hU),fun U hU=>bOb q1 (by simp [aO,aL,bE,hsz,V6,V8,d0,d1,d2,d3,d4,d5,d6,d7,d8,d9,Cp,Cq,D8]),fun U hU=>wF q2 (by simp [aO,aL,bE,hsz,V6,V8,d0,d1,d2,d3,d4,d5,d6,d7,d8,d9,Cp,Cq,D8]) (fd U),
   fun U hU=>ex_load q3 (by simp [aO,aL,bE,hsz,V6,V8,d0,d1,d2,d3,d4,d5,d6,d7,d8,d9,Cp,Cq,D8]) (rd U hU),fun U hU=>wF q4 (by simp [aO,aL,bE,hsz,V6,V8,d0,d1,d2,d3,d4,d5,d6,d7,d8,d9,Cp,Cq,D8]) (f8 U),fun U hU=>ex_load q5 (by simp [aO,aL,bE,hsz,V6,V8,d0,d1,d2,d3,d4,d5,d6,d7,d8,d9,Cp,Cq,D8]) (r5 U hU),
   fun U hU=>ex_load Ua (by simp [aO,aL,bE,hsz,V6,V8,d0,d1,d2,d3,d4,d5,d6,d7,d8,d9,Cp,Cq,D8]) (r6 U hU),fun U hU=>bOb q7 (by simp [aO,aL,bE,hsz,V6,V8,d0,d1,d2,d3,d4,d5,d6,d7,d8,d9,Cp,Cq,D8]),fun U hU=>wF q8 (by simp [aO,aL,bE,hsz,V6,V8,d0,d1,d2,d3,d4,d5,d6,d7,d8,d9,Cp,Cq,D8]) (fd U),
   fun U hU=>ex_load q9 (by simp [aO,aL,bE,hsz,V6,V8,d0,d1,d2,d3,d4,d5,d6,d7,d8,d9,Cp,Cq,D8]) (rd U hU),fun U hU=>wF Py (by simp [aO,aL,bE,hsz,V6,V8,d0,d1,d2,d3,d4,d5,d6,d7,d8,d9,Cp,Cq,D8]) (f8 U),fun U hU=>ex_load Pz (by simp [aO,aL,bE,hsz,V6,V8,d0,d1,d2,d3,d4,d5,d6,d7,d8,d9,Cp,Cq,D8]) (r5 U hU),
   fun U hU=>ex_lookup P0 (by simp [aO,aL,bE,hsz,V6,V8,d0,d1,d2,d3,d4,d5,d6,d7,d8,d9,Cp,Cq,D8]) (by simp [aO,aL,bE,hsz,V6,V8,d0,d1,d2,d3,d4,d5,d6,d7,d8,d9,Cp,Cq,D8]) (rl U hU),
   fun U hU=>ex_load P2 (by simp [aO,aL,bE,hsz,V6,V8,d0,d1,d2,d3,d4,d5,d6,d7,d8,d9,Cp,Cq,D8]) (r8 U hU),trivial⟩
 ·intro a' Gv
  have Ui:a'.eval (.tmp 43) = .map (some mb):=by rw [Gv];simp [mE,aO,aL,bE,hsz,V6,V8,d0,d1,d2,d3,d4,d5,d6,d7,d8,d9,Cp,Cq,D8,Ik]
  have Uj:a'.eval (.tmp 45) = .int .i64 (dAb x):=by rw [Gv];simp [mE,aO,aL,bE,hsz,V6,V8,d0,d1,d2,d3,d4,d5,d6,d7,d8,d9,Cp,Cq,D8,Ik]
  have Uk:a'.eval (.tmp 52)=lookV L (dAb x):=by rw [Gv];simp [mE,aO,aL,bE,hsz,V6,V8,d0,d1,d2,d3,d4,d5,d6,d7,d8,d9,Cp,Cq,D8,Ik]
  have Ul:a'.eval (.tmp 53) = .agg (vsL x).toArray:=by rw [Gv];simp [mE,aO,aL,bE,hsz,V6,V8,d0,d1,d2,d3,d4,d5,d6,d7,d8,d9,Cp,Cq,D8,Ik]
  have Qa:a'.tmps.size=57:=by rw [Gv];simp [mE,bE,hsz,d0,d1,d2,d3,d4,d5,d6,d7,d8,d9,Cp,Cq,D8,Ik]
  obtain ⟨inf,hi,hz,D5,Iv⟩:=info_parts Fu;have hvl:(vsL x).length=6:=by simp [vsL,J1]
  have hbld:∀ U:World,(Instr.buildSlice 24 1 #[(0,.agg (vsL x).toArray)]).run Tp U = .ok (.slice (some ⟨U.heap.size,0,none⟩) 1 1) (U.alloc (.cells (vsL x).toArray 84)):=fun U =>
   tY (P:=Tp) 24 84 inf 1 #[(0,.agg (vsL x).toArray)] (vsL x).toArray H8 Tryz.underlying24 hi hz (by rw [D5];decide) (by rw [D5];exact Ms J1)
  have Qb:({ W with drawn:=W.drawn+1 }:World)=W1:=Mw.symm
  rw [Qb] at I4 ⊢
  refine ⟨_,_,v2,w2,setBlock w2 mb (.map Bn B5),ex_build1 P3 Ul (hbld _),?_,ex_append Ub (by rw [Kw,aO rfl];exact Uk) (by rw [Kw,aL (by omega)]) hrun,Ev,ex_update Uc (by rw [Kw,P4,aO rfl,aO rfl];exact Ui) (by rw [Kw,P4,aO rfl,aO rfl];exact Uj) (by rw [Kw,P4,aL (by rw [bE];omega)]) hup,?_⟩
  ·obtain ⟨n1,n2,n3⟩:=eQ W1 (.cells (vsL x).toArray 84)
   rw [hSdef] at I4 ⊢
   have hlt:∀ b o,W.heap[b]? = some o→b<W1.heap.size:=fun b o h=>by rw [Ia];exact bJ h
   exact ⟨(n3 b6 (hlt _ _ h6)).trans I4.1,(n3 bd (hlt _ _ hd)).trans I4.2.1,(n3 b8 (hlt _ _ h8)).trans I4.2.2.1,(n3 mb (hlt _ _ hmb)).trans I4.2.2.2⟩
  ·refine ⟨rfl,Bn,B5,e,⟨Eb,hek,hel,hborn,fun p hp => ?_,?_,?_,?_,?_,fun b hb hno => ?_⟩⟩
   ·refine ⟨hsim.has p (gD _ hp),?_⟩
    rcases hold p hp with h | h
    ·exact .inl h
    ·right;rw [Ia] at h;exact h
   ·unfold setBlock;simp only [Array.size_setIfInBounds];rw [Ia] at hsize;exact hsize
   ·obtain ⟨C,_,_,hF,_⟩:=hsim
    exact hF.os.trans (by rw [Mw])
   ·obtain ⟨C,_,_,hF,_⟩:=hsim
    exact hF.tape.trans (by rw [Mw])
   ·obtain ⟨C,_,_,hF,_⟩:=hsim
    exact hF.out.trans (by rw [Mw])
   ·have hbm:b≠mb:=fun h=>hno (mb,.map es cl) (by simp [mapR]) h.symm
    have:(setBlock w2 mb (.map Bn B5)).heap[b]? = w2.heap[b]? := by
     unfold setBlock;simp only [Array.getElem?_setIfInBounds];rw [if_neg (Ne.symm hbm)]
    rw [this,hkeep b (by rw [Ia];exact hb) hno,Ia]
end KV
end Go.Proofs
end
section
namespace Go.Proofs
open Go.RowKit
namespace KV
open Tryz
open Go.ChangeMaps (setBlock)

mutual
def ffP:PV→Bool
 | .v _=>true
 | .agg cs=>bGd cs
 | _=>false
def bGd:List PV→Bool
 | []=>true
 | x::r=>ffP x && bGd r
end
theorem bAt:∀ {l:List PV},bGd l=true→∀ (i:Nat) (h:i<l.length),ffP l[i]=true
 | [],_,i,h=>by simp at h
 | x::r,hl,i,h=>by
  rw [bGd,Bw] at hl
  cases i with
  | zero=>exact hl.1
  | succ i=>exact bAt hl.2 i (by simpa using h)
theorem aPk{α:Type}(g:α→PV)(h:∀ x,ffP (g x)=true):∀ l:List α,bGd (l.map g)=true
 | []=>rfl
 | x::r=>by rw [iK,bGd,h,aPk g h r];rfl
theorem bQ.anyF{F F':Nat→Prop}{w w':World}{x:PV}{u:Value}(h:bQ F w x u)(hm:ffP x=true):bQ F' w' x u:=by
 induction h with
 | v x=>exact .v x
 | agg cs vs h0 h1 _ ih =>
  rw [ffP] at hm
  exact .agg cs vs h0 h1 fun i hi=>ih i hi (bAt hm i hi)
 | sl=>simp [ffP] at hm
 | mp=>simp [ffP] at hm
 | rp=>simp [ffP] at hm

def bUt(x:List Int):PV := .agg (x.map aA)
def nK(es:List (Value × PV))(x:List Int):List (Value × PV):=if eD es (.int .i64 (dN x)) then oR es (.int .i64 (dN x)) (bUt x) else es++[(.int .i64 (dN x),bUt x)]
def atF(q:Lqq):List (Value × PV):=q.foldl nK []
theorem aPl(q:Lqq)(x:List Int):atF (q++[x])=nK (atF q) x:=by unfold atF;rw [vX];rfl
structure aAo (es:List (Value × PV)):Prop where
 ky:∀ e∈es,aOe .i64 e.1=true
 nd:(es.map fun e=>jX e.1).Nodup
 nm:∀ e∈es,ffP e.2=true
theorem aDu{kv:Value}{x:PV}:∀ (es:List (Value × PV)),((oR es kv x).map fun e=>jX e.1)=es.map fun e=>jX e.1
 | []=>rfl
 | e::r=>by
  unfold oR
  split
  ·rename_i h
   rw [iK,iK,h]
  ·rw [iK,iK,aDu r]
theorem aDv{kv:Value}{x:PV}{e:Value × PV}:∀ {es:List (Value × PV)},e∈oR es kv x→e∈es∨e=(kv,x)
 | [],h=>by unfold oR at h;cases h
 | a::r,h=>by
  unfold oR at h
  split at h
  ·rcases eO.1 h with h | h
   ·exact .inr h
   ·exact .inl (B3 _ h)
  ·rcases eO.1 h with h | h
   ·exact .inl (h ▸ gO ..)
   ·rcases aDv h with h | h
    ·exact .inl (B3 _ h)
    ·exact .inr h
theorem bAu(x:List Int):ffP (bUt x)=true:=by unfold bUt;rw [ffP];exact aPk _ (fun _=>rfl) _
theorem aAo.step{es:List (Value × PV)}(h:aAo es){x:List Int}(hx : -1000000≤dN x∧dN x≤1000000):aAo (nK es x):=by
 unfold nK;cases hb:eD es (.int .i64 (dN x)) with
 | true =>
  rw [if_pos rfl];refine ⟨fun e he => ?_,by rw [aDu];exact h.nd,fun e he => ?_⟩
  ·rcases aDv he with h1 | rfl
   ·exact h.ky e h1
   ·exact nI hx
  ·rcases aDv he with h1 | rfl
   ·exact h.nm e h1
   ·exact bAu x
 | false =>
  rw [if_neg (by simp)]
  refine ⟨fun e he => ?_,?_,fun e he => ?_⟩
  ·rcases dY.1 he with h1 | h1
   ·exact h.ky e h1
   ·rw [List.mem_singleton.1 h1];exact nI hx
  ·rw [jJ,List.nodup_append]
   refine ⟨h.nd,by simp,fun a ha b Al hab => ?_⟩
   simp at Al
   subst Al;obtain ⟨e,he,rfl⟩:=Bi.1 ha;have:=(List.any_eq_false.1 (show es.any _=false from hb)) e he
   exact this (decide_eq_true hab)
  ·rcases dY.1 he with h1 | h1
   ·exact h.nm e h1
   ·rw [List.mem_singleton.1 h1];exact bAu x
theorem cCe{q:Lqq}(hq:∀ x∈q,-1000000≤dN x∧dN x≤1000000):aAo (atF q):=by
 have key:∀ (q:Lqq) (es:List (Value × PV)),(∀ x∈q,-1000000≤dN x∧dN x≤1000000)→aAo es→aAo (q.foldl nK es):=by
  intro q
  induction q with
  | nil=>intro es _ h;exact h
  | cons x q ih=>intro es hq h;exact ih _ (fun y hy=>hq y (B3 _ hy)) (h.step (hq x (gO ..)))
 exact key q [] hq ⟨fun e h=>(by cases h),by simp,fun e h=>(by cases h)⟩
theorem aAo.keys{es:List (Value × PV)}(h:aAo es){k:Int}(hk : -1000000≤k∧k≤1000000):cJ .i64 es (.int .i64 k):=⟨h.ky,nI hk,h.nd⟩
theorem bNz{kv:Value}{x:PV}(es:List (Value × PV)):(oR es kv x).length=es.length:=by
 have:=congrArg List.length (aDu (kv:=kv) (x:=x) es);simpa using this

abbrev dkB(dl:Int)(s1 s2:PV)(a b:AV):AO := .box 169 [.p (aA dl),.p s1,.p s2,a,b]
abbrev lK(dl:Int)(sk dc:Lqq):Mem:=[some (.box 106 [.ptr 1 0]),some (dkB dl (.sl sk.length (sk.flatten.map aA)) (.sl dc.length (dc.flatten.map aA)) (.mp 2) (.mp 3)),some (.mp [] 0),some (.mp [] 0)]
abbrev yH(dl:Int)(v1 v2:Value)(mb:Nat)(es:List (Value × PV)):Mem:=[some (.box 106 [.ptr 1 0]),some (dkB dl (.v v1) (.v v2) (.mp 2) (.p (.v (.map (some mb))))),some (.mp es es.length),some .dead]
abbrev fZ(dl:Int)(v1 v2:Value)(mb:Nat)(es:List (Value × PV))(x:List Int):Mem:=[some (.box 106 [.ptr 1 0]),some (dkB dl (.v v1) (.v v2) (.mp 2) (.p (.v (.map (some mb))))),some (.mp es es.length),some .dead,some (.box 84 ((x.map aA).map .p))]
theorem at4{α:Type}{a b c d x:α}{i:Nat}(h:[a,b,c,d][i]? = some x):(i=0∧x=a)∨(i=1∧x=b)∨(i=2∧x=c)∨(i=3∧x=d):=by
 match i with
 | 0=>simp at h;exact .inl ⟨rfl,h.symm⟩
 | 1=>simp at h;exact .inr (.inl ⟨rfl,h.symm⟩)
 | 2=>simp at h;exact .inr (.inr (.inl ⟨rfl,h.symm⟩))
 | 3=>simp at h;exact .inr (.inr (.inr ⟨rfl,h.symm⟩))
 | i+4=>simp at h
theorem Kv{α:Type}{a b c d e x:α}{i:Nat}(h:[a,b,c,d,e][i]? = some x):(i=0∧x=a)∨(i=1∧x=b)∨(i=2∧x=c)∨(i=3∧x=d)∨(i=4∧x=e):=by
 match i with
 | 0=>simp at h;exact .inl ⟨rfl,h.symm⟩
 | 1=>simp at h;exact .inr (.inl ⟨rfl,h.symm⟩)
 | 2=>simp at h;exact .inr (.inr (.inl ⟨rfl,h.symm⟩))
 | 3=>simp at h;exact .inr (.inr (.inr (.inl ⟨rfl,h.symm⟩)))
 | 4=>simp at h;exact .inr (.inr (.inr (.inr ⟨rfl,h.symm⟩)))
 | i+5=>simp at h
section
variable {dl:Int} {sk dc:Lqq} {v1 v2:Value} {mb:Nat} {es:List (Value × PV)} {x:List Int} {C C' C3:Cx} {w W W3 W4:World}

theorem sF{i:Nat}{o:AO}(h:(yH dl v1 v2 mb es)[i]? = some (some o))(hl:o.live=true):i=0∨i=1∨i=2:=by
 rcases at4 h with ⟨rfl,_⟩ | ⟨rfl,_⟩ | ⟨rfl,_⟩ | ⟨rfl,e⟩
 ·exact .inl rfl
 ·exact .inr (.inl rfl)
 ·exact .inr (.inr rfl)
 ·cases e;cases hl
theorem dZ(i:Nat)(h:i<4):∃ o,(lK dl sk dc)[i]? = some (some o)∧o.live=true:=by
 match i,h with
 | 0,_=>exact ⟨_,rfl,rfl⟩
 | 1,_=>exact ⟨_,rfl,rfl⟩
 | 2,_=>exact ⟨_,rfl,rfl⟩
 | 3,_=>exact ⟨_,rfl,rfl⟩
theorem bOa:aLi (lK dl sk dc) (yH dl v1 v2 mb es):=⟨fun i es cl h=>(by
 rcases at4 h with ⟨rfl,e⟩ | ⟨rfl,e⟩ | ⟨rfl,e⟩ | ⟨rfl,e⟩
 ·cases e
 ·cases e
 ·exact ⟨_,rfl,rfl⟩
 ·cases e),fun i o h=>by
 rcases at4 h with ⟨rfl,e⟩ | ⟨rfl,e⟩ | ⟨rfl,e⟩ | ⟨rfl,e⟩ <;> cases e <;> rfl⟩

structure aPm (dl:Int) (sk dc:Lqq) (v1 v2:Value) (C:Cx) (w:World) (mb:Nat) (q:Lqq) (W:World) (C':Cx) (es:Array MapEntry) (cl:Nat) (L:List Ent):Prop where
 inv:aGe Tp C (lK dl sk dc) w C' (yH dl v1 v2 mb (atF q)) W
 ok:MapOK mb es L
 ls:L.map (fun e=>(e.k,e.l))=q.foldl iN []
 born:∀ y∈es.toList,y.born<cl
 has:∀ p∈mapR mb es cl L,W.heap[p.1]? = some p.2∧¬ C'.F p.1∧(p.1=mb∨w.heap.size≤p.1)

theorem aPm.own{q:Lqq}{W':World}{ea:Array MapEntry}{cl:Nat}{L:List Ent}{row:Option Nat}(B4:aP Tp C (lK dl sk dc) w)(hmb:C.ι 3=some mb)(h:aPm dl sk dc v1 v2 C w mb q W C' ea cl L)(hg:W.grownBy W' row)
  (hr:∀ r,row=some r→w.heap.size≤r∧∃ o:Obj,W.heap[r]? = some o∧o.isCells=false):aPm dl sk dc v1 v2 C w mb q W' C' ea cl L:=by
 refine ⟨aGe.own bOa B4 h.inv hg hr,h.ok,h.ls,h.born,fun p hp => ?_⟩
 obtain ⟨h1,h2,h3⟩:=h.has p hp;refine ⟨(hg.block p.1 (bJ h1) fun e => ?_).trans h1,h2,h3⟩
 obtain ⟨q1,o,q2,q3⟩:=hr _ e.symm
 rcases mem_mapR.1 hp with rfl | ⟨y,_,rfl⟩
 ·have:=B4.lt 3 _ mb rfl rfl hmb
  dsimp only at q1
  omega
 ·rw [q2] at h1
  cases h1;cases q3

theorem bAv{b:Nat}{X:Nat→Prop}{Bn:List (Value × PV)}(B4:aP Tp C (lK dl sk dc) w)(hmb:C.ι 3=some mb)(hI:aGe Tp C (lK dl sk dc) w C' (yH dl v1 v2 mb es) W)(hb:w.heap.size≤b)(hbs:oJ W b)(hes:aAo Bn)
  (I9:aP Tp C3 (fZ dl v1 v2 mb Bn x) W3) (f:Fr ((C'.grow 4 b 1).with []) (fZ dl v1 v2 mb es x) W C3 (fZ dl v1 v2 mb Bn x) W3)
  (hsz:W3.heap.size≤W4.heap.size) (ho:W4.os=W3.os) (ht:W4.tape=W3.tape) (hu:W4.output=W3.output)
  (hX:∀ c,X c→¬ C.F c∧(c=mb∨w.heap.size≤c)∧c<W.heap.size∧c≠b∧(oJ W c∨c<w.heap.size)) (hk:∀ c,c<W3.heap.size→¬ X c→W4.heap[c]? = W3.heap[c]?) :
  ∃ C4,aGe Tp C (lK dl sk dc) w C4 (yH dl v1 v2 mb Bn) W4∧KeepsFrom w.heap.size W W4∧KpG C.F W W4:=by
 obtain ⟨hFI,hM,fI⟩:=hI;have gι:∀ i,i<4→(C'.grow 4 b 1).ι i=C'.ι i:=fun i hi=>by
  have:i≠4:=by omega
  simp [Cx.grow,this]
 have ιC:∀ i,i<4→C'.ι i=C.ι i:=fun i hi=>by
  obtain ⟨o,h1,_⟩:=dZ (dl:=dl) (sk:=sk) (dc:=dc) i hi;exact (fI.ids i o h1).2.1
 have κC:∀ i,i<4→C'.κ i=C.κ i:=fun i hi=>by
  obtain ⟨o,h1,_⟩:=dZ (dl:=dl) (sk:=sk) (dc:=dc) i hi;exact (fI.ids i o h1).2.2
 have ι3:∀ i,i<5→C3.ι i=(C'.grow 4 b 1).ι i∧C3.κ i=(C'.grow 4 b 1).κ i:=fun i hi=>by
  have:∃ o,(fZ dl v1 v2 mb es x)[i]? = some (some o):=by
   match i,hi with
   | 0,_=>exact ⟨_,rfl⟩
   | 1,_=>exact ⟨_,rfl⟩
   | 2,_=>exact ⟨_,rfl⟩
   | 3,_=>exact ⟨_,rfl⟩
   | 4,_=>exact ⟨_,rfl⟩
  obtain ⟨o,h⟩:=this;exact ⟨(f.ids i o h).2.1,(f.ids i o h).2.2⟩
 have ι4:(C'.grow 4 b 1).ι 4=some b:=by simp [Cx.grow]
 have H9:∀ (i:Nat) (o:AO) (c:Nat) (N5:List (Value × PV)),(fZ dl v1 v2 mb N5 x)[i]? = some (some o)→o.live=true→(C'.grow 4 b 1).ι i=some c→(∃ i,i<3∧C.ι i=some c)∨c=b:=fun i o c N5 h hl he=>by
  rcases Kv h with ⟨rfl,_⟩ | ⟨rfl,_⟩ | ⟨rfl,_⟩ | ⟨rfl,e⟩ | ⟨rfl,_⟩
  ·rw [gι 0 (by omega),ιC 0 (by omega)] at he;exact .inl ⟨0,by omega,he⟩
  ·rw [gι 1 (by omega),ιC 1 (by omega)] at he;exact .inl ⟨1,by omega,he⟩
  ·rw [gι 2 (by omega),ιC 2 (by omega)] at he;exact .inl ⟨2,by omega,he⟩
  ·cases e;cases hl
  ·rw [ι4] at he;exact .inr (Option.some.inj he).symm
 have Ku:∀ i c,i<3→C.ι i=some c→c<w.heap.size∧c≠mb:=fun i c hi hc=>by
  obtain ⟨o,h1,h2⟩:=dZ (dl:=dl) (sk:=sk) (dc:=dc) i (by omega)
  refine ⟨B4.lt i o c h1 h2 hc,fun e => ?_⟩
  subst e;have:=B4.inj i 3 o _ c h1 h2 rfl rfl hc hmb;omega
 have Xn3:∀ c,X c→∀ i,i<3→C.ι i≠some c:=fun c hc i hi he=>by
  obtain ⟨h1,h2⟩:=Ku i c hi he
  rcases (hX c hc).2.1 with h3 | h3
  ·exact h2 h3
  ·omega
 have far:∀ c,c<W.heap.size→c≠b→(∀ i,i<3→C.ι i≠some c)→¬ X c→W4.heap[c]? = W.heap[c]? := fun c hc hcb hn hx=>by
  refine (hk c (fK hc f.size) hx).trans (f.keep c hc fun i o h hl he => ?_)
  rcases H9 i o c _ h hl he with ⟨j,hj,h2⟩ | h2
  ·exact hn j hj h2
  ·exact hcb h2
 have XF3:∀ c,X c→¬ C3.F c:=fun c hc hf=>by
  obtain ⟨h1,h2,h3,h4,_⟩:=hX c hc
  rcases f.F2 c hf with h | h | ⟨i,o,q1,q2,q3⟩
  ·exact h1 ((hFI c).1 h)
  ·omega
  ·rcases H9 i o c _ q1 q2 q3 with ⟨j,hj,h5⟩ | h5
   ·exact Xn3 c hc j hj h5
   ·exact h4 h5
 obtain ⟨Tw,_⟩:=aDx I9 hsz (fun c hc=>hk c (I9.Fs c hc) fun hx=>XF3 c hx hc) (fun i o c h hl hc=>hk c (I9.lt i o c h hl hc) fun hx=>by
  have Tx:i<5:=(Bg.1 h).1;rw [(ι3 i Tx).1] at hc
  rcases H9 i o c _ h hl hc with ⟨j,hj,h5⟩ | h5
  ·exact Xn3 c hx j hj h5
  ·exact (hX c hx).2.2.2.1 h5)
 have I8:aP Tp C3 (yH dl v1 v2 mb Bn) W4:=bVa Tw (fun i o h=>by
   have hi:i<4:=(Bg.1 h).1
   match i,hi with
   | 0,_=>exact h
   | 1,_=>exact h
   | 2,_=>exact h
   | 3,_=>exact h) (fun i ty cs h y hy u hu=>by
   rcases at4 h with ⟨rfl,e⟩ | ⟨rfl,e⟩ | ⟨rfl,e⟩ | ⟨rfl,e⟩
   ·cases e
    rw [List.mem_singleton.1 hy] at hu ⊢
    exact aPo (M:=fZ dl v1 v2 mb Bn x) rfl hu
   ·cases e
    simp only [eO,List.not_mem_nil,or_false] at hy
    rcases hy with rfl | rfl | rfl | rfl | rfl
    ·exact sG hu
    ·exact sG hu
    ·exact sG hu
    ·exact aVp (M:=fZ dl v1 v2 mb Bn x) rfl hu
    ·exact sG hu
   ·cases e
   ·cases e)
 have Ty:∀ i (c:Nat),i<4→C3.ι i=some c→C.ι i=some c:=fun i c hi hc=>by rw [(ι3 i (by omega)).1,gι i hi,ιC i hi] at hc;exact hc
 have Tz:aP Tp ⟨C3.ι,C3.κ,C.F,[]⟩ (yH dl v1 v2 mb Bn) W4:=by
  refine ⟨fun i ty n cs h => ?_,fun i ty cs h => ?_,fun i N5 cl h => ?_,I8.inj,fun i o c h hl hc => ?_,fun c hc=>fK (B4.Fs c hc) (jY fI.size (jY f.size hsz)),I8.lt⟩
  ·rcases at4 h with ⟨rfl,e⟩ | ⟨rfl,e⟩ | ⟨rfl,e⟩ | ⟨rfl,e⟩ <;> cases e
  ·obtain ⟨b',arr,q0,q1,q2,q3,q4⟩:=I8.box _ _ _ h
   refine ⟨b',arr,q0,q1,q2,fun j hj => ?_,q4⟩
   have hq:=q3 j hj;have hp:∀ (y:PV) (u:Value),ffP y=true→Rep C3 (yH dl v1 v2 mb Bn) W4 (.p y) u→Rep ⟨C3.ι,C3.κ,C.F,[]⟩ (yH dl v1 v2 mb Bn) W4 (.p y) u:=fun y u hy hu=>by
    cases hu with
    | p _ _ h=>exact .p _ _ (h.anyF hy)
   rcases at4 h with ⟨rfl,e⟩ | ⟨rfl,e⟩ | ⟨rfl,e⟩ | ⟨rfl,e⟩
   ·cases e
    have:j=0:=by simp at hj;exact hj
    subst this;simp only [List.getElem_cons_zero] at hq ⊢
    cases hq with
    | ptr _ _ _ h0 ha h hp=>exact .ptr _ _ _ h0 ha h hp
   ·cases e
    match j,hj with
    | 0,_=>exact hp _ _ rfl hq
    | 1,_=>exact hp _ _ rfl hq
    | 2,_=>exact hp _ _ rfl hq
    | 3,_ =>
     simp only [List.getElem_cons_succ,List.getElem_cons_zero] at hq ⊢
     cases hq with
     | mp _ _ h0 ha h=>exact .mp _ _ h0 ha h
    | 4,_=>exact hp _ _ rfl hq
   ·cases e
   ·cases e
  ·obtain ⟨b',arr,q0,q1,q2,q3⟩:=I8.mp _ _ _ h
   refine ⟨b',arr,q0,q1,q2,fun j hj => ?_⟩
   obtain ⟨en,r1,r2,r3,r4⟩:=q3 j hj;have hff:ffP N5[j].2=true:=by
    rcases at4 h with ⟨rfl,e⟩ | ⟨rfl,e⟩ | ⟨rfl,e⟩ | ⟨rfl,e⟩
    ·cases e
    ·cases e
    ·cases e;exact hes.nm _ (eE hj)
    ·cases e
   exact ⟨en,r1,r2,r3,r4.anyF hff⟩
  ·have hi:=sF h hl
   obtain ⟨o2,h1,h2⟩:=dZ (dl:=dl) (sk:=sk) (dc:=dc) i (by omega)
   exact B4.nF i o2 c h1 h2 (Ty i c (by omega) hc)
 refine ⟨⟨C3.ι,C3.κ,C.F,[]⟩,⟨fun c=>Iff.rfl,Tz,⟨ho.trans (f.os.trans fI.os),ht.trans (f.tape.trans fI.tape),hu.trans (f.out.trans fI.out),jY fI.size (jY f.size hsz),fun c hc hno => ?_,fun i o h => ?_,fun i o h ty n cs hm => ?_,fun i o h o' hm hl => ?_,fun i o c hm hl hc => ?_,fun c hc=>hc,fun c hc => .inl hc⟩⟩,⟨jY f.size hsz,fun c o hc Ml hnc => ?_⟩,⟨jY f.size hsz,fun c hc => ?_⟩⟩
 ·have La:∀ i,i<3→C.ι i≠some c:=fun i hi=>by
   obtain ⟨o,h1,h2⟩:=dZ (dl:=dl) (sk:=sk) (dc:=dc) i (by omega)
   exact hno i o h1 h2
  have hcm:c≠mb:=fun e=>hno 3 _ rfl rfl (e ▸ hmb)
  refine (far c (fK hc fI.size) (by omega) La fun hx => ?_).trans (fI.keep c hc hno)
  rcases (hX c hx).2.1 with h | h
  ·exact hcm h
  ·omega
 ·have hi:i<4:=(Bg.1 h).1
  refine ⟨?_,by show C3.ι i=C.ι i;rw [(ι3 i (by omega)).1,gι i hi,ιC i hi],by
   show C3.κ i=C.κ i;rw [(ι3 i (by omega)).2,← κC i hi]
   have:i≠4:=by omega
   simp [Cx.grow,this]⟩
  match i,hi with
  | 0,_=>exact ⟨_,rfl⟩
  | 1,_=>exact ⟨_,rfl⟩
  | 2,_=>exact ⟨_,rfl⟩
  | 3,_=>exact ⟨_,rfl⟩
 ·rcases at4 hm with ⟨rfl,e⟩ | ⟨rfl,e⟩ | ⟨rfl,e⟩ | ⟨rfl,e⟩ <;> cases e
 ·have hi:i<4:=(Bg.1 h).1
  obtain ⟨o2,h1,h2⟩:=dZ (dl:=dl) (sk:=sk) (dc:=dc) i hi;rw [h] at h1;cases h1;exact h2
 ·have hi:=sF hm hl
  have Pv:i<4:=by omega
  obtain ⟨o2,h1,h2⟩:=dZ (dl:=dl) (sk:=sk) (dc:=dc) i Pv;exact .inr ⟨i,o2,h1,h2,by rw [← ιC i Pv,← gι i Pv,← (ι3 i (by omega)).1];exact hc⟩
 ·refine (far c (bJ Ml) (fun e => ?_) (fun i hi he => ?_) fun hx => ?_).trans Ml
  ·subst e
   obtain ⟨o2,e1,e2⟩:=hbs;rw [Ml] at e1;cases e1;rw [hnc] at e2;cases e2
  ·have:=(Ku i c hi he).1
   omega
  ·rcases (hX c hx).2.2.2.2 with ⟨o2,h1,h2⟩ | h
   ·rw [Ml] at h1;cases h1;rw [hnc] at h2;cases h2
   ·omega
 ·refine far c (fK (B4.Fs c hc) fI.size) (fun e => ?_) (fun i hi he => ?_) fun hx=>(hX c hx).1 hc
  ·have:=B4.Fs c hc;omega
  ·obtain ⟨o,h1,h2⟩:=dZ (dl:=dl) (sk:=sk) (dc:=dc) i (by omega)
   exact B4.nF i o c h1 h2 he hc
end
end KV
end Go.Proofs
end
section
namespace Go.Proofs
open Go.RowKit
namespace KV
open Tryz
open Go.ChangeMaps (setBlock)

def sR(e:Ent):Int × Lqq:=(e.k,e.l)
theorem cCc(L:List Ent)(e:Ent):(putE L e).map sR=aGd (L.map sR) e.k e.l:=by
 by_cases h:∃ y∈L,y.k=e.k
 ·obtain ⟨y,hy,he⟩:=h
  rw [rI hy he];unfold aGd;rw [if_pos (List.any_eq_true.2 ⟨sR y,Bi.2 ⟨y,hy,rfl⟩,by simpa [sR] using he⟩),sQ,sQ]
  refine xX fun z _ => ?_
  by_cases hk:z.k=e.k
  ·simp [sR,hk]
  ·simp [sR,hk]
 ·have h':∀ y∈L,y.k≠e.k:=fun y hy he=>h ⟨y,hy,he⟩
  rw [wI h'];unfold aGd;rw [if_neg (fun ha=>by
   obtain ⟨z,hz,he⟩:=List.any_eq_true.1 ha;obtain ⟨y,hy,rfl⟩:=Bi.1 hz;exact h' y hy (by simpa [sR] using he))]
  simp [sR]
theorem bUs(L:List Ent)(k:Int):lookL L k=zS (L.map sR) k:=by
 unfold lookL lookE zS
 induction L with
 | nil=>rfl
 | cons y r ih =>
  rw [iK,List.find?_cons,List.find?_cons]
  by_cases hk:y.k=k
  ·simp [sR,hk]
  ·have h1:(y.k == k)=false:=by simpa using hk
   have h2:((sR y).1 == k)=false:=h1;rw [h1,h2];exact ih

structure bNx (x:List Int):Prop where
 len:x.length=6
 n:1≤dN x∧dN x≤9999
 ab:0≤dAb x∧dAb x≤9998
theorem cCd{q:Lqq}(hq:∀ y∈q,bNx y):∀ e∈q.foldl iN [],e.2.length≤q.length:=fun e he=>by
 have:=yF q [] [] ⟨by simp,fun e h=>(by cases h),fun x h=>(by cases h)⟩ (fun x hx=>(hq x hx).ab.1)
 rw [List.nil_append] at this
 rw [(this.mem e he).2.2];exact aTv _ _

theorem Mm{dl:Int}{v1 v2:Value}{mb:Nat}{es:List (Value × PV)}{x:List Int}(hx:bNx x)(hes:aAo es):eK Tp 5 (sub (cd Tryz.f45) br) ⟨fr 57 [(6,(.ptr 0 0)),(8,(.ptr 4 0))],fZ dl v1 v2 mb es x⟩ .normal ⟨fr 57 [(6,(.ptr 0 0)),(8,(.ptr 4 0))],fZ dl v1 v2 mb (nK es x) x⟩:=by
 obtain ⟨a,b,c,d,e,f,rfl⟩:=Bp hx.len;have hk : -1000000≤dN [a,b,c,d,e,f]∧dN [a,b,c,d,e,f]≤1000000:=by have:=hx.n;omega
 have hK:=hes.keys hk;unfold nK;cases hb:eD es (.int .i64 (dN [a,b,c,d,e,f])) with
 | true =>
  rw [if_pos rfl];exact (bUw hK hb).cast (by unfold fZ;rw [bNz];rfl)
 | false =>
  rw [if_neg (by simp)]
  exact (bUx hK hb).cast (by unfold fZ;rw [kU];rfl)
theorem Mo{dl:Int}{v1 v2:Value}{mb:Nat}{es:List (Value × PV)}{x:List Int}(hx:x.length=6):eK Tp 5 (sub (cd Tryz.f45) bl) ⟨fr 57 [(6,(.ptr 0 0)),(8,(.ptr 4 0))],fZ dl v1 v2 mb es x⟩ .normal ⟨fr 57 [(6,(.ptr 0 0)),(8,(.ptr 4 0)),(39,(.p (blP (decide (dAb x > (0:Int))))))],fZ dl v1 v2 mb es x⟩:=by
 obtain ⟨a,b,c,d,e,f,rfl⟩:=Bp hx;exact bUy
theorem bGc:sub (cd Tryz.f45) [1,1,1,1,0,1,0,1] = .block 1 (.seq (sub (cd Tryz.f45) br) (.seq (sub (cd Tryz.f45) bl) (.cond (.tmp 39) (sub (cd Tryz.f45) b5) .skip))):=by kernel_rfl

section
variable {dl:Int} {sk dc:Lqq} {v1 v2:Value} {mb:Nat} {C C':Cx} {w W:World}
set_option maxHeartbeats 1000000 in
theorem bNy{l n b:Nat}{q:Lqq}{x:List Int}{ea:Array MapEntry}{cl:Nat}{L:List Ent}{a:Act}(hx:bNx x)(hq:∀ y∈q,bNx y)(hql:q.length≤1000)(B4:aP Tp C (lK dl sk dc) w)(hmb:C.ι 3=some mb)(hI:aPm dl sk dc v1 v2 C w mb q W C' ea cl L)
  (hsz:a.tmps.size=57) (hdf:a.defers=[]) (h6:Rep C (lK dl sk dc) w (.ptr 0 0) (a.tmps.getD 6 undef)) (h8:a.tmps.getD 8 undef = .pointer (some ⟨b,0,none⟩)) (hbw:w.heap.size≤b) (hbx:W.heap[b]? = some (.cells (vsL x).toArray 84 (0,0)))
  (hbn:∀ es cl,W.heap[mb]? = some (.map es cl)→∀ y∈es.toList,y.val.ownBlock≠some b) :
  (sub (cd Tryz.f45) [1,1,1,1,0,1,0,1]).wpIn (Fen (some l)) n Tp (fun e _ W4=>e = .normal∧KeepsFrom w.heap.size W W4∧KpG C.F W W4∧∃ C4 Mp B5 L',aPm dl sk dc v1 v2 C w mb (q++[x]) W4 C4 Mp B5 L') a W:=by
 obtain ⟨inv,hok,hls,hborn,hhas⟩:=hI;obtain ⟨hFI,hM,fI⟩:=inv;have hAt:aAo (atF q):=cCe fun y hy=>by have:=(hq y hy).n;omega
 have hmbh:=(hhas (mb,.map ea cl) (by simp [mapR])).1
 have hmblt:mb<w.heap.size:=B4.lt 3 _ mb rfl rfl hmb;have ιC:∀ i,i<4→C'.ι i=C.ι i:=fun i hi=>by
  obtain ⟨o,h1,_⟩:=dZ (dl:=dl) (sk:=sk) (dc:=dc) i hi;exact (fI.ids i o h1).2.1
 have Ku:∀ i c,i<3→C.ι i=some c→c<w.heap.size∧c≠mb:=fun i c hi hc=>by
  obtain ⟨o,h1,h2⟩:=dZ (dl:=dl) (sk:=sk) (dc:=dc) i (by omega)
  refine ⟨B4.lt i o c h1 h2 hc,fun e => ?_⟩
  subst e;have:=B4.inj i 3 o _ c h1 h2 rfl rfl hc hmb;omega
 have hbF:¬ C'.F b:=fun h=>by have:=B4.Fs b ((hFI b).1 h);omega
 obtain ⟨I8,Ro⟩:=aPp (b:=b) (ty:=84) (k:=4) (cs:=x.map aA) (arr:=(vsL x).toArray) hM (fun o h=>by have:=(Bg.1 h).1;simp at this) hbx hbF (fun i o h hl he=>by
   have hi:=sF h hl;rw [ιC i (by omega)] at he
   have:=(Ku i b (by omega) he).1
   omega) (by simp [vsL]) (fun j hj=>by
   have B6:j<x.length:=by simpa using hj
   rw [lE];have:(vsL x).toArray.getD j undef = .int .i64 x[j]:=by simp [vsL,Bm,B6]
   rw [this];exact .v _) (fun j hj=>by
   have B6:j<x.length:=by simpa using hj
   have:(vsL x).toArray.getD j undef = .int .i64 x[j]:=by simp [vsL,Bm,B6]
   rw [this];rfl)
 have hset:aX (yH dl v1 v2 mb (atF q)) 4 (some (.box 84 ((x.map aA).map .p)))=fZ dl v1 v2 mb (atF q) x:=rfl;rw [hset] at I8 Ro
 have N3:Rep (C'.grow 4 b 1) (fZ dl v1 v2 mb (atF q) x) W (.ptr 0 0) (a.tmps.getD 6 undef):=(h6.mono (B4.le fI)).mono Ro;have hSl:eC (C'.grow 4 b 1) (fZ dl v1 v2 mb (atF q) x) W (fr 57 [(6,(.ptr 0 0)),(8,(.ptr 4 0))]) a.tmps:=by
  have s0:eC (C'.grow 4 b 1) (fZ dl v1 v2 mb (atF q) x) W (List.replicate 57 .any) a.tmps:=⟨by simpa using hsz,fun j hj=>by rw [List.getElem_replicate];exact .any _⟩
  have set1:∀ (t:List AV) (i:Nat) (y:AV),eC (C'.grow 4 b 1) (fZ dl v1 v2 mb (atF q) x) W t a.tmps→Rep (C'.grow 4 b 1) (fZ dl v1 v2 mb (atF q) x) W y (a.tmps.getD i undef)→eC (C'.grow 4 b 1) (fZ dl v1 v2 mb (atF q) x) W (t.set i y) a.tmps:=fun t i y ht hy=>by
   refine ⟨by simpa using ht.size,fun j hj => ?_⟩
   rw [oG]
   split
   ·rename_i e;subst e;exact hy
   ·exact ht.rep j (by simpa using hj)
  have N4:Rep (C'.grow 4 b 1) (fZ dl v1 v2 mb (atF q) x) W (.ptr 4 0) (a.tmps.getD 8 undef):=by
   rw [h8];exact .ptr 4 0 _ rfl ⟨_,rfl⟩ (fun o ho hl=>⟨b,rfl,by simp [Cx.grow]⟩) ⟨b,rfl⟩
  exact set1 _ 8 _ (set1 _ 6 _ s0 N3) N4
 have hs:Sim Tp ((C'.grow 4 b 1).with []) (fZ dl v1 v2 mb (atF q) x) W ⟨fr 57 [(6,(.ptr 0 0)),(8,(.ptr 4 0))],fZ dl v1 v2 mb (atF q) x⟩ a W :=
  ⟨C'.grow 4 b 1,hSl,I8,(Fr.refl _ _ _).based [],by rw [hdf];exact .nil rfl (fun i o h=>by rcases Kv h with ⟨rfl,e⟩ | ⟨rfl,e⟩ | ⟨rfl,e⟩ | ⟨rfl,e⟩ | ⟨rfl,e⟩ <;> cases e <;> rfl)⟩
 rw [bGc];refine wpIn_block (wpIn_seq (wpIn_mono (Mm (dl:=dl) (v1:=v1) (v2:=v2) (mb:=mb) hx hAt _ _ _ _ _ (by simp) hs (some l) n) ?_))
 rintro e a7 W7 ⟨rfl,Tu⟩;refine wpIn_seq (wpIn_mono (Mo (dl:=dl) (v1:=v1) (v2:=v2) (mb:=mb) hx.len _ _ _ _ _ (by simp) Tu (some l) n) ?_)
 rintro e a8 W3 ⟨rfl,Po⟩;have v39:a8.eval (.tmp 39) = .bool (decide (dAb x > 0)):=Po.slot rfl;have Pp:a8.tmps.size=57:=Po.size;obtain ⟨C3,Rp,I9,f3,_⟩:=Po;have hblkL:∀ p∈mapR mb ea cl L,p.1≠b∧p.1<W.heap.size∧(∀ i,i<3→C.ι i≠some p.1):=fun p hp=>by
  obtain ⟨q1,q2,q3⟩:=hhas p hp;refine ⟨?_,bJ q1,fun i hi he => ?_⟩
  ·rcases mem_mapR.1 hp with rfl | ⟨y,hy,rfl⟩
   ·intro e;simp only at e;omega
   ·intro e
    obtain ⟨z,hz,_,z2⟩:=hok.e2 y hy;exact hbn ea cl hmbh z hz (by rw [z2,← e];rfl)
  ·obtain ⟨h1,h2⟩:=Ku i _ hi he
   rcases q3 with h | h
   ·exact h2 h
   ·omega
 have gι:∀ i,i<4→(C'.grow 4 b 1).ι i=C'.ι i:=fun i hi=>by
  have:i≠4:=by omega
  simp [Cx.grow,this]
 have Rq:∀ p∈mapR mb ea cl L,W3.heap[p.1]? = some p.2:=fun p hp=>by
  obtain ⟨h1,h2,h3⟩:=hblkL p hp;refine (f3.keep p.1 h2 fun i o h hl he => ?_).trans (hhas p hp).1
  change (C'.grow 4 b 1).ι i=some p.1 at he
  rcases Kv h with ⟨rfl,_⟩ | ⟨rfl,_⟩ | ⟨rfl,_⟩ | ⟨rfl,e⟩ | ⟨rfl,_⟩
  ·rw [gι 0 (by omega),ιC 0 (by omega)] at he;exact h3 0 (by omega) he
  ·rw [gι 1 (by omega),ιC 1 (by omega)] at he;exact h3 1 (by omega) he
  ·rw [gι 2 (by omega),ιC 2 (by omega)] at he;exact h3 2 (by omega) he
  ·cases e;cases hl
  ·simp [Cx.grow] at he;exact h1 he.symm
 have Mq:aAo (nK (atF q) x):=hAt.step (by have:=hx.n;omega)
 have hSol:oJ W b:=gL hbx;refine wpIn_cond_split v39 (fun ht => ?_) fun hf => ?_
 ·-- it is about another one
  have hpos:0<dAb x:=of_decide_eq_true ht;obtain ⟨b6,a6,r0,r1,r2,r3,_⟩:=I9.box 0 _ _ rfl;have r3:=r3 0 (by simp)
  simp only [List.getElem_cons_zero] at r3
  have u6:∃ bd,a6.getD 0 undef = .pointer (some ⟨bd,0,none⟩)∧C3.ι 1=some bd:=by
   generalize a6.getD 0 undef=u at r3
   cases r3 with
   | ptr _ _ _ h0 ha h hp=>exact h _ rfl rfl
  obtain ⟨bd,ud,ιd⟩:=u6;obtain ⟨bd',ad,s0,s1,s2,s3,_⟩:=I9.box 1 _ _ rfl;rw [ιd] at s0;cases s0
  have s3:=s3 4 (by simp)
  simp only [List.getElem_cons_succ,List.getElem_cons_zero] at s3
  have udm:ad.getD 4 undef = .map (some mb):=by
   generalize ad.getD 4 undef=u at s3
   cases s3 with
   | p _ _ h=>cases h;rfl
  obtain ⟨b8,Pq,t0,t1,t2,t3,_⟩:=I9.box 4 _ _ rfl;have ι4:C3.ι 4=some b:=by rw [(f3.ids 4 _ rfl).2.1];simp [Cx.with,Cx.grow]
  rw [ι4] at t0;cases t0
  have Tv:Pq=(vsL x).toArray:=by
   apply Array.ext
   ·rw [t2];simp [vsL]
   ·intro j h1 h2
    have hj:j<x.length:=by rw [t2] at h1;simpa using h1
    have:=t3 j (by simpa using hj)
    rw [lE,lE] at this
    have hu:Pq.getD j undef = .int .i64 x[j]:=by
     generalize Pq.getD j undef=u at this
     cases this with
     | p _ _ h=>cases h;rfl
    simp only [Bm,oD h1,Option.getD_some] at hu
    rw [hu];simp [vsL]
  subst Tv;have w6:a8.tmps.getD 6 undef = .pointer (some ⟨b6,0,none⟩):=by
   have:=Rp.at (i:=6) (x := .ptr 0 0) rfl
   generalize a8.tmps.getD 6 undef=u at this
   cases this with
   | ptr _ _ _ h0 ha h hp =>
    obtain ⟨b',h1,h2⟩:=h _ rfl rfl;rw [r0] at h2;cases h2
    exact h1
  have w8:a8.tmps.getD 8 undef = .pointer (some ⟨b,0,none⟩):=by
   have:=Rp.at (i:=8) (x := .ptr 4 0) rfl
   generalize a8.tmps.getD 8 undef=u at this
   cases this with
   | ptr _ _ _ h0 ha h hp =>
    obtain ⟨b',h1,h2⟩:=h _ rfl rfl;rw [ι4] at h2;cases h2
    exact h1
  have hLl:∀ e∈L,e.l.length≤1000:=fun e he=>by
   have:sR e∈q.foldl iN []:=by rw [← hls];exact Bi.2 ⟨e,he,rfl⟩
   have:=cCd hq _ this;simp only [sR] at this
   omega
  have ι0:C.ι 0=some b6:=by
   have:=(f3.ids 0 _ rfl).2.1;rw [r0] at this
   rw [← ιC 0 (by omega),← gι 0 (by omega)]
   exact this.symm
  have ι1:C.ι 1=some bd:=by
   have:=(f3.ids 1 _ rfl).2.1;rw [ιd] at this
   rw [← ιC 1 (by omega),← gι 1 (by omega)]
   exact this.symm
  refine wpIn_mono (Pr (F:=Fen (some l)) (n:=n) (fun _=>trivial) hx.len Pp w6 w8 r1 ⟨by rw [r2];simp,ud⟩ s1 ⟨by rw [s2];simp,udm⟩ t1 hok Rq hLl (fun p hp => ?_) ?_) ?_
  ·obtain ⟨h1,_,h3⟩:=hblkL p hp
   exact ⟨fun e=>h3 0 (by omega) (e ▸ ι0),fun e=>h3 1 (by omega) (e ▸ ι1),h1⟩
  ·have:aOe .i64 (.int .i64 (dAb x))=true:=nI (by have:=hx.ab;omega)
   simp only [aOe,Bw] at this
   exact this.2
  ·rintro e a9 W4 ⟨rfl,Mp,B5,e,A⟩
   obtain ⟨C4,Mr,Ps,Pu⟩:=bAv (x:=x) (X:=fun c=>∃ p∈mapR mb ea cl L,p.1=c) (Bn:=nK (atF q) x) B4 hmb ⟨hFI,hM,fI⟩ hbw hSol Mq I9 f3 A.size A.os A.tape A.out (fun c hc=>by
    obtain ⟨p,hp,rfl⟩:=hc;obtain ⟨h1,h2,h3⟩:=hblkL p hp;obtain ⟨g1,g2,g3⟩:=hhas p hp;refine ⟨fun h=>g2 ((hFI _).2 h),g3,h2,h1,?_⟩
    rcases mem_mapR.1 hp with rfl | ⟨y,_,rfl⟩
    ·exact .inr hmblt
    ·exact .inl (gL g1)) (fun c hc hn=>A.keep c hc fun p hp e=>hn ⟨p,hp,e⟩)
   refine ⟨rfl,Ps,Pu,C4,Mp,B5,putE L e,by rw [aPl];exact Mr,A.ok,?_,A.born hborn,fun p hp => ?_⟩
   ·show (putE L e).map sR=_
    rw [cCc,A.ky,A.li,bUs,vX];change aGd (L.map sR) _ _=iN (q.foldl iN []) x;have:L.map sR=q.foldl iN []:=hls;rw [this];unfold iN;rw [if_pos hpos]
   ·obtain ⟨h1,h2⟩:=A.has p hp
    refine ⟨h1,fun h => ?_,?_⟩
    ·have hF:=(Mr.1 _).1 h
     rcases h2 with ⟨p0,Gw,h3⟩ | h3
     ·rw [← h3] at hF
      exact (hhas p0 Gw).2.1 ((hFI _).2 hF)
     ·have:=B4.Fs _ hF
      have:=fI.size;have:=f3.size;omega
    ·rcases h2 with ⟨p0,Gw,h3⟩ | h3
     ·rw [← h3];exact (hhas p0 Gw).2.2
     ·right
      have:=fI.size;have:=f3.size;omega
 ·-- it is about none
  have hpos:¬ 0<dAb x:=of_decide_eq_false hf;obtain ⟨C4,Mr,Ps,Pu⟩:=bAv (x:=x) (X:=fun _=>False) (W4:=W3) (Bn:=nK (atF q) x) B4 hmb ⟨hFI,hM,fI⟩ hbw hSol Mq I9 f3 (dJ _) rfl rfl rfl (fun c hc=>hc.elim) (fun c _ _=>rfl)
  refine wpIn_skip ⟨rfl,Ps,Pu,C4,ea,cl,L,by rw [aPl];exact Mr,hok,?_,hborn,fun p hp=>⟨Rq p hp,fun h=>(hhas p hp).2.1 ((hFI _).2 ((Mr.1 _).1 h)),(hhas p hp).2.2⟩⟩
  rw [vX,hls];change _=iN (q.foldl iN []) x;unfold iN;rw [if_neg hpos]
end
end KV
end Go.Proofs
end
section
namespace Go.Proofs
open Go.RowKit
namespace KV
open Tryz
open Go.ChangeMaps (setBlock)

def abE(dc:Lqq):List (Value × PV):=(abM dc).map fun e=>(.int .i64 e.1,.sl e.2.length (e.2.flatten.map aA))
abbrev zT(dl:Int)(sk dc:Lqq):Mem:=[some (.box 106 [.ptr 1 0]),some (dkB dl (.sl sk.length (sk.flatten.map aA)) (.sl dc.length (dc.flatten.map aA)) (.mp 2) (.p (.mp (abE dc)))),some (.mp (atF dc.reverse) (atF dc.reverse).length),some .dead]
theorem bAs : sub (cd Tryz.f45) [1, 1, 1, 1, 0, 1, 0] = .rangeFunc (.tmp 27) #[28, 29] (.region 6 #[{ dst := some 8, op := .alloc 84, type := 0, pos := "jury.go:198", after := #[], guard := none }, { dst := none, op := .store 84 (.tmp 8) (.tmp 29), type := 0, pos := "jury.go:198", after := #[{ on := 0, ground := .data }, { on := 0, ground := .phase }], guard := none }] false) (sub (cd Tryz.f45) [1, 1, 1, 1, 0, 1, 0, 1]) := by kernel_rfl
theorem aVn{dc:Lqq}(h:dA dc):∀ x∈dc,bNx x:=fun x hx=>⟨h.ud x hx,(jM.1 (h.rng x hx)).1,yG h x hx⟩
theorem aDt{dc:Lqq}(x:Bk dc):mD dc x.1∈dc:=by
 unfold mD;rw [Bj,An x.2];exact eE x.2
theorem bNw{dc:Lqq}{xs:List (Bk dc)}(h:xs.map (fun x=>x.1)=bk dc.length 0):xs.map (fun x=>mD dc x.1)=dc.reverse:=by
 have:xs.map (fun x=>mD dc x.1)=(xs.map (fun x=>x.1)).map (mD dc):=by rw [sQ];rfl
 rw [this,h,bVd,List.map_reverse]
 congr 1
 apply List.ext_getElem
 ·simp
 ·intro i h1 h2
  simp [mD,Bj,An h2]

theorem aVo{F:Nat→Prop}{W:World}{mb cl:Nat}{ea:Array MapEntry}{L:List Ent}{dc:Lqq}(hok:MapOK mb ea L)(hls:L.map (fun e=>(e.k,e.l))=abM dc)(hborn:∀ y∈ea.toList,y.born<cl)
  (hhas:∀ p∈mapR mb ea cl L,W.heap[p.1]? = some p.2∧F p.1):bQ F W (.mp (abE dc)) (.map (some mb)):=by
 have hlen:ea.size=L.length:=by
  have:=congrArg List.length hok.ord;simpa using this
 have habE:abE dc=L.map fun e=>(.int .i64 e.k,.sl e.l.length (e.l.flatten.map aA)):=by
  unfold abE;rw [← hls,sQ];rfl
 obtain ⟨h0,Kt⟩:=hhas (mb,.map ea cl) (by simp [mapR])
 refine bQ.mp (abE dc) mb cl ea (fun j=>(L.map Ent.val).getD j undef) Kt h0 (by rw [habE];simpa using hlen) (fun j hj => ?_) (fun j hj => ?_)
 ·have hjL:j<L.length:=by rw [habE] at hj;simpa using hj
  have hje:j<ea.size:=by omega
  have ho:(ea.toList.map fun x=>(x.key,x.val))[j]? = (L.map fun e=>(Value.int .i64 e.k,e.val))[j]? := by rw [hok.ord]
  rw [gF,gF,An hjL,An (by simpa using hje)] at ho
  simp only [Option.map_some,Option.some.injEq,Prod.mk.injEq] at ho
  refine ⟨ea[j],oD hje,?_,hborn _ (by simp),?_⟩
  ·simp only [habE,lE]
   simpa using ho.1
  ·rw [Bj,gF,An hjL]
   simpa using ho.2
 ·have hjL:j<L.length:=by rw [habE] at hj;simpa using hj
  have hm:L[j]∈L:=eE hjL;have e1:(abE dc)[j].2 = .sl L[j].l.length (L[j].l.flatten.map aA):=by simp only [habE,lE]
  have e2:(L.map Ent.val).getD j undef=L[j].val:=by rw [Bj,gF,An hjL];rfl
  rw [e1,e2];generalize L[j]=e at hm
  have he:=hok.ok e hm;obtain ⟨g1,g2⟩:=hhas e.blk (mem_mapR.2 (.inr ⟨e,hm,rfl⟩));change W.heap[e.b]? = some (.cells e.arr 84 (0,0)) at g1
  have hfl:(e.l.flatten.map aA).length=e.l.length*6:=by rw [Bt,lF he.u]
  have hcell:∀ i,i<(e.l.flatten.map aA).length→∃ z,e.l.flatten[i]? = some z∧e.arr[i]? = some (.int .i64 z):=fun i hi=>by
   have Bs:i<e.l.flatten.length:=by rw [Bt] at hi;exact hi
   refine ⟨e.l.flatten[i],An Bs,?_⟩;have h1:(e.arr.toList.take (e.l.length*6))[i]? = (e.l.flatten.map (Value.int .i64))[i]? := by rw [he.at_]
   rw [List.getElem?_take_of_lt (by omega),gF,An Bs] at h1
   simpa using h1
  refine .sl _ _ _ _ (fun i=>e.arr.getD i undef) he.le he.cap (fun i hi => ?_) (fun i hi => ?_) (fun i hi => ?_)
  ·obtain ⟨z,_,h2⟩:=hcell i hi
   refine ⟨e.b,0,rfl,g2,?_⟩;obtain ⟨h3,h4⟩:=xW.1 h2;rw [gP,bP g1 h3]
  ·obtain ⟨z,h1,h2⟩:=hcell i hi
   have:e.arr.getD i undef = .int .i64 z:=by rw [Bm,h2];rfl
   rw [this,lE];obtain ⟨h3,h4⟩:=Bg.1 h1;rw [h4];exact .v _
  ·obtain ⟨z,h1,h2⟩:=hcell i hi
   have:e.arr.getD i undef = .int .i64 z:=by rw [Bm,h2];rfl
   rw [this];rfl
end KV
end Go.Proofs
end
section
namespace Go.Proofs
open Go.RowKit
namespace KV
open Tryz
open Go.ChangeMaps (setBlock)
section
variable {dl:Int} {sk dc:Lqq} {v1 v2:Value} {mb:Nat} {C C':Cx} {w W:World}

theorem bGa{Ks:Array MapEntry}(hM:aP Tp C (lK dl sk dc) w)(hmb:C.ι 3=some mb)(hmh:w.heap[mb]? = some (.map #[] 0))
  {bd:Nat} {ad:Array Value} {td:TypeId} (i1:C.ι 1=some bd) (hd:w.heap[bd]? = some (.cells ad td (0,0))) (q1:ad.getD 1 undef=v1) (q2:ad.getD 2 undef=v2):aPm dl sk dc v1 v2 C w mb [] w C #[] 0 []:=by
 have Kt:∀ (i:Nat) (o:AO),(yH dl v1 v2 mb [])[i]? = some (some o)→o.live=true→∃ o',(lK dl sk dc)[i]? = some (some o')∧o'.live=true:=fun i o h hl=>by
  have hi:=sF h hl;exact dZ i (by omega)
 refine ⟨⟨fun _=>Iff.rfl,⟨fun i ty n cs h => ?_,fun i ty cs h => ?_,fun i es cl h => ?_,fun i i' o o' b h1 l1 h2 l2 e1 e2 => ?_,fun i o b h hl hb => ?_,hM.Fs,fun i o b h hl hb => ?_⟩,
  ⟨rfl,rfl,rfl,dJ _,fun _ _ _=>rfl,fun i o h=>⟨?_,rfl,rfl⟩,fun i o h ty n cs hx => ?_,fun i o h o' hx hl => ?_,fun i o b h hl hb => ?_,fun _ h=>h,fun _ h => .inl h⟩⟩,MapOK.nil mb,rfl,fun y h=>by simp at h,fun p hp => ?_⟩
 ·rcases at4 h with ⟨rfl,e⟩ | ⟨rfl,e⟩ | ⟨rfl,e⟩ | ⟨rfl,e⟩ <;> cases e
 ·rcases at4 h with ⟨rfl,e⟩ | ⟨rfl,e⟩ | ⟨rfl,e⟩ | ⟨rfl,e⟩
  ·cases e
   obtain ⟨b,arr,r0,r1,r2,r3,r4⟩:=hM.box 0 _ _ rfl;refine ⟨b,arr,r0,r1,r2,fun j hj => ?_,r4⟩
   have:=r3 j hj;have Pm:j=0:=by simp at hj;exact hj
   subst Pm;simp only [List.getElem_cons_zero] at this ⊢
   cases this with
   | ptr _ _ _ h0 ha h hp =>
    refine .ptr _ _ _ h0 ⟨_,rfl⟩ (fun o ho hl => ?_) hp
    exact h _ rfl rfl
  ·cases e
   obtain ⟨b,arr,r0,r1,r2,r3,r4⟩:=hM.box 1 _ _ rfl;rw [i1] at r0;cases r0
   rw [hd] at r1;cases r1
   refine ⟨bd,ad,i1,hd,r2,fun j hj => ?_,r4⟩
   match j,hj with
   | 0,_ =>
    have:=r3 0 (by simp)
    cases this with
    | p _ _ h=>exact .p _ _ h
   | 1,_=>exact .p _ _ (by rw [q1];exact .v _)
   | 2,_=>exact .p _ _ (by rw [q2];exact .v _)
   | 3,_ =>
    have:=r3 3 (by simp)
    simp only [List.getElem_cons_succ,List.getElem_cons_zero] at this ⊢
    cases this with
    | mp _ _ h0 ha h =>
     refine .mp _ _ h0 ⟨_,rfl⟩ fun o ho hl => ?_
     exact h _ rfl rfl
   | 4,_ =>
    have:=r3 4 (by simp)
    simp only [List.getElem_cons_succ,List.getElem_cons_zero] at this ⊢
    generalize ad.getD 4 undef=u at this
    cases this with
    | mp _ _ h0 ha h =>
     obtain ⟨b,h1,h2⟩:=h _ rfl rfl;rw [hmb] at h2;cases h2
     rw [h1];exact .p _ _ (.v _)
  ·cases e
  ·cases e
 ·rcases at4 h with ⟨rfl,e⟩ | ⟨rfl,e⟩ | ⟨rfl,e⟩ | ⟨rfl,e⟩
  ·cases e
  ·cases e
  ·cases e;exact hM.mp 2 _ _ rfl
  ·cases e
 ·obtain ⟨p,q1,q2⟩:=Kt _ _ h1 l1
  obtain ⟨p',Io,Ip⟩:=Kt _ _ h2 l2;exact hM.inj i i' p p' b q1 q2 Io Ip e1 e2
 ·obtain ⟨p,q1,q2⟩:=Kt _ _ h hl
  exact hM.nF i p b q1 q2 hb
 ·obtain ⟨p,q1,q2⟩:=Kt _ _ h hl
  exact hM.lt i p b q1 q2 hb
 ·have hi:i<4:=(Bg.1 h).1
  match i,hi with
  | 0,_=>exact ⟨_,rfl⟩
  | 1,_=>exact ⟨_,rfl⟩
  | 2,_=>exact ⟨_,rfl⟩
  | 3,_=>exact ⟨_,rfl⟩
 ·rcases at4 hx with ⟨rfl,e⟩ | ⟨rfl,e⟩ | ⟨rfl,e⟩ | ⟨rfl,e⟩ <;> cases e
 ·have hi:i<4:=(Bg.1 h).1
  obtain ⟨p,q1,q2⟩:=dZ (dl:=dl) (sk:=sk) (dc:=dc) i hi;rw [h] at q1;cases q1;exact q2
 ·obtain ⟨p,q1,q2⟩:=Kt _ _ h hl
  exact .inr ⟨i,p,q1,q2,hb⟩
 ·have:p=(mb,.map #[] 0):=by simpa [mapR] using hp
  subst this;exact ⟨hmh,fun h=>hM.nF 3 _ mb rfl rfl hmb h,.inl rfl⟩

theorem bGb{ea:Array MapEntry}{cl:Nat}{L:List Ent}(B4:aP Tp C (lK dl sk dc) w)(hmb:C.ι 3=some mb)(r1:bQ C.F w (.sl sk.length (sk.flatten.map aA)) v1)(r2:bQ C.F w (.sl dc.length (dc.flatten.map aA)) v2)
  (hI:aPm dl sk dc v1 v2 C w mb dc.reverse W C' ea cl L) :
  ∃ C5,aP Tp C5 (zT dl sk dc) W∧Fr C (lK dl sk dc) w C5 (zT dl sk dc) W∧∀ D,W.heap[D]? = some (.deferred (some []))→w.heap.size≤D→¬ C5.F D:=by
 obtain ⟨⟨hFI,hM,fI⟩,hok,hls,hborn,hhas⟩:=hI;obtain ⟨F5,I6⟩:∃ F5:Nat→Prop,F5=fun c=>C'.F c∨∃ p∈mapR mb ea cl L,p.1=c:=⟨_,rfl⟩
 have toF:∀ c,C.F c→F5 c:=fun c hc=>by rw [I6];exact .inl ((hFI c).2 hc)
 have Pn:∀ c,C'.F c→F5 c:=fun c hc=>by rw [I6];exact .inl hc
 have same:∀ c,C.F c→W.heap[c]? = w.heap[c]? := fun c hc=>fI.keep c (B4.Fs c hc) fun i o h hl he=>B4.nF i o c h hl he hc
 have ιC:∀ i,i<4→C'.ι i=C.ι i:=fun i hi=>by
  obtain ⟨o,h1,_⟩:=dZ (dl:=dl) (sk:=sk) (dc:=dc) i hi;exact (fI.ids i o h1).2.1
 have F9:∀ {i:Nat} {o:AO},(zT dl sk dc)[i]? = some (some o)→o.live=true→(i=0∨i=1∨i=2)∧∃ o',(yH dl v1 v2 mb (atF dc.reverse))[i]? = some (some o')∧o'.live=true:=fun {i o} h hl=>by
  rcases at4 h with ⟨rfl,e⟩ | ⟨rfl,e⟩ | ⟨rfl,e⟩ | ⟨rfl,e⟩
  ·exact ⟨.inl rfl,_,rfl,rfl⟩
  ·exact ⟨.inr (.inl rfl),_,rfl,rfl⟩
  ·exact ⟨.inr (.inr rfl),_,rfl,rfl⟩
  ·cases e;cases hl
 have Ku:∀ i c,i<3→C.ι i=some c→c<w.heap.size∧c≠mb:=fun i c hi hc=>by
  obtain ⟨o,h1,h2⟩:=dZ (dl:=dl) (sk:=sk) (dc:=dc) i (by omega)
  refine ⟨B4.lt i o c h1 h2 hc,fun e => ?_⟩
  subst e;have:=B4.inj i 3 o _ c h1 h2 rfl rfl hc hmb;omega
 refine ⟨⟨C'.ι,C'.κ,F5,[]⟩,⟨fun i ty n cs h => ?_,fun i ty cs h => ?_,fun i es cl h => ?_,fun i i' o o' b h1 l1 h2 l2 e1 e2 => ?_,fun i o b h hl hb hf => ?_,fun c hc => ?_,fun i o b h hl hb => ?_⟩,
  ⟨fI.os,fI.tape,fI.out,fI.size,fI.keep,fun i o h=>⟨?_,(fI.ids i o h).2⟩,fun i o h ty n cs hx => ?_,fun i o h o' hx hl => ?_,fun i o b h hl hb => ?_,toF,fun c hc => ?_⟩,fun D hD hDs hf => ?_⟩
 ·rcases at4 h with ⟨rfl,e⟩ | ⟨rfl,e⟩ | ⟨rfl,e⟩ | ⟨rfl,e⟩ <;> cases e
 ·rcases at4 h with ⟨rfl,e⟩ | ⟨rfl,e⟩ | ⟨rfl,e⟩ | ⟨rfl,e⟩
  ·cases e
   obtain ⟨b,arr,r0,r1,r2,r3,r4⟩:=hM.box 0 _ _ rfl;refine ⟨b,arr,r0,r1,r2,fun j hj => ?_,r4⟩
   have:=r3 j hj;have Pm:j=0:=by simp at hj;exact hj
   subst Pm;simp only [List.getElem_cons_zero] at this ⊢
   cases this with
   | ptr _ _ _ h0 ha h hp =>
    refine .ptr _ _ _ h0 ⟨_,rfl⟩ (fun o ho hl => ?_) hp
    exact h _ rfl rfl
  ·cases e
   obtain ⟨b,arr,s0,s1,s2,s3,s4⟩:=hM.box 1 _ _ rfl;have opq:∀ (j:Nat) (v:Value),Rep C' (yH dl v1 v2 mb (atF dc.reverse)) W (.p (.v v)) (arr.getD j undef)→arr.getD j undef=v:=fun j v h=>by
    generalize arr.getD j undef=u at h
    cases h with
    | p _ _ h=>cases h;rfl
   refine ⟨b,arr,s0,s1,s2,fun j hj => ?_,s4⟩
   match j,hj with
   | 0,_ =>
    have:=s3 0 (by simp)
    cases this with
    | p _ _ h=>exact .p _ _ (h.anyF rfl)
   | 1,_ =>
    show Rep _ _ W (.p (.sl sk.length (sk.flatten.map aA))) (arr.getD 1 undef);rw [opq 1 v1 (s3 1 (by simp))]
    exact .p _ _ (r1.mono toF same)
   | 2,_ =>
    show Rep _ _ W (.p (.sl dc.length (dc.flatten.map aA))) (arr.getD 2 undef);rw [opq 2 v2 (s3 2 (by simp))]
    exact .p _ _ (r2.mono toF same)
   | 3,_ =>
    have:=s3 3 (by simp)
    simp only [List.getElem_cons_succ,List.getElem_cons_zero] at this ⊢
    cases this with
    | mp _ _ h0 ha h =>
     refine .mp _ _ h0 ⟨_,rfl⟩ fun o ho hl => ?_
     exact h _ rfl rfl
   | 4,_ =>
    show Rep _ _ W (.p (.mp (abE dc))) (arr.getD 4 undef);rw [opq 4 (.map (some mb)) (s3 4 (by simp))]
    exact .p _ _ (aVo hok hls hborn fun p hp=>⟨(hhas p hp).1,by rw [I6];exact .inr ⟨p,hp,rfl⟩⟩)
  ·cases e
  ·cases e
 ·rcases at4 h with ⟨rfl,e⟩ | ⟨rfl,e⟩ | ⟨rfl,e⟩ | ⟨rfl,e⟩
  ·cases e
  ·cases e
  ·cases e
   obtain ⟨b,arr,s0,s1,s2,s3⟩:=hM.mp 2 _ _ rfl;refine ⟨b,arr,s0,s1,s2,fun j hj => ?_⟩
   obtain ⟨en,t1,t2,t3,t4⟩:=s3 j hj;exact ⟨en,t1,t2,t3,t4.mono Pn (fun _ _=>rfl)⟩
  ·cases e
 ·obtain ⟨_,p,q1,q2⟩:=F9 h1 l1
  obtain ⟨_,p',Io,Ip⟩:=F9 h2 l2;exact hM.inj i i' p p' b q1 q2 Io Ip e1 e2
 ·obtain ⟨hi,p,q1,q2⟩:=F9 h hl
  rw [I6] at hf
  rcases hf with hf | ⟨p0,Gw,hpb⟩
  ·exact hM.nF i p b q1 q2 hb hf
  ·have Al:C.ι i=some b:=by rw [← ιC i (by omega)];exact hb
   obtain ⟨g1,g2⟩:=Ku i b (by omega) Al
   rcases (hhas p0 Gw).2.2 with h5 | h5 <;> omega
 ·rw [I6] at hc
  rcases hc with hc | ⟨p0,Gw,rfl⟩
  ·exact hM.Fs c hc
  ·exact bJ (hhas p0 Gw).1
 ·obtain ⟨_,p,q1,q2⟩:=F9 h hl
  exact hM.lt i p b q1 q2 hb
 ·have hi:i<4:=(Bg.1 h).1
  match i,hi with
  | 0,_=>exact ⟨_,rfl⟩
  | 1,_=>exact ⟨_,rfl⟩
  | 2,_=>exact ⟨_,rfl⟩
  | 3,_=>exact ⟨_,rfl⟩
 ·rcases at4 hx with ⟨rfl,e⟩ | ⟨rfl,e⟩ | ⟨rfl,e⟩ | ⟨rfl,e⟩ <;> cases e
 ·have hi:i<4:=(Bg.1 h).1
  obtain ⟨p,q1,q2⟩:=dZ (dl:=dl) (sk:=sk) (dc:=dc) i hi;rw [h] at q1;cases q1;exact q2
 ·obtain ⟨_,p,q1,q2⟩:=F9 h hl
  exact fI.new i p b q1 q2 hb
 ·rw [I6] at hc
  rcases hc with hc | ⟨p0,Gw,rfl⟩
  ·exact .inl ((hFI c).1 hc)
  ·rcases (hhas p0 Gw).2.2 with h5 | h5
   ·exact .inr (.inr ⟨3,_,rfl,rfl,by rw [h5];exact hmb⟩)
   ·exact .inr (.inl h5)
 ·rw [I6] at hf
  rcases hf with hf | ⟨p0,Gw,rfl⟩
  ·have:=B4.Fs D ((hFI D).1 hf);omega
  ·have h6:=(hhas p0 Gw).1
   rw [hD] at h6
   rcases mem_mapR.1 Gw with rfl | ⟨y,_,rfl⟩ <;> cases h6
end
theorem I7:∃ i,Tryz.prog.info? 84=some i∧i.zero=some H8∧i.size=6:=by
 obtain ⟨i,h1,h2,h3,_⟩:=info_parts Fu;exact ⟨i,h1,h2,h3⟩
theorem aPj(W:World):(Instr.alloc 84 true (.tuple #[])).run Tp W = .ok (.pointer (some ⟨W.heap.size,0,none⟩)) (W.alloc (.cells H8.cells 84)):=rfl
set_option maxHeartbeats 1000000 in
theorem bNv(dl:Int)(sk dc:Lqq)(hd:dA dc):aB Tp 0 (sub (cd Tryz.f45) [1,1,1,1,0,1,0]) ⟨fr 57 [(6,(.ptr 0 0)),(27,aPn dc)],lK dl sk dc⟩ .normal ⟨fr 57 [(6,(.ptr 0 0))],zT dl sk dc⟩:=by
 intro C0 M0 w0 a w hk hs ro hro n;have Kp:ro=none:=hro.resolve_right (by rw [bAs];simp [nrf])
 subst Kp;rw [bAs];refine aDo (n:=3) ?_;obtain ⟨C,hSl,hM,hF,hD⟩:=hs;obtain ⟨mb,Ks,hmb,hmh,hz,_⟩:=hM.mp 3 _ _ rfl;obtain rfl:Ks = #[]:=Array.eq_empty_of_size_eq_zero (by simpa using hz)
 obtain ⟨bd,ad,i1,hdh,Ey,Gg,Ml⟩:=hM.box 1 _ _ rfl;have r1:bQ C.F w (.sl sk.length (sk.flatten.map aA)) (ad.getD 1 undef):=by
  have:=Gg 1 (by simp)
  cases this with
  | p _ _ h=>exact h
 have r2:bQ C.F w (.sl dc.length (dc.flatten.map aA)) (ad.getD 2 undef):=by
  have:=Gg 2 (by simp)
  cases this with
  | p _ _ h=>exact h
 have hmblt:mb<w.heap.size:=hM.lt 3 _ mb rfl rfl hmb;have hsz:a.tmps.size=57:=hSl.size;have h6:=hSl.at (i:=6) (x := .ptr 0 0) rfl
 obtain ⟨lb,Sp,hu,hseq⟩:=bGf dc hd.ud hd.len C (lK dl sk dc) w _ (hSl.at (i:=27) (x:=aPn dc) rfl) hM.Fs
 have actT:∀ (x:Bk dc) (b:Nat),((({ tmps:=(a.tmps.setIfInBounds 28 (.int .i64 (x.1:Nat))).setIfInBounds 29 (.agg (Co (mD dc x.1))),defers:=[] }:Act).put (some 8) (.pointer (some ⟨b,0,none⟩))).tmps.size=57) ∧
   (({ tmps:=(a.tmps.setIfInBounds 28 (.int .i64 (x.1:Nat))).setIfInBounds 29 (.agg (Co (mD dc x.1))),defers:=[] }:Act).put (some 8) (.pointer (some ⟨b,0,none⟩))).tmps.getD 6 undef=a.tmps.getD 6 undef ∧
   (({ tmps:=(a.tmps.setIfInBounds 28 (.int .i64 (x.1:Nat))).setIfInBounds 29 (.agg (Co (mD dc x.1))),defers:=[] }:Act).put (some 8) (.pointer (some ⟨b,0,none⟩))).tmps.getD 8 undef = .pointer (some ⟨b,0,none⟩):=fun x b=>by
  refine ⟨by simp [Act.put,hsz],?_,?_⟩
  ·simp [Act.put,Bm]
  ·simp [Act.put,Bm,hsz]
 refine wpIn_rangeFunc_ownH (F:=Fen none) (n:=3) rfl (by omega) (gf:=157) (lb:=lb) hu trivial (fun args w=>rfl) hseq (fun h k=>h.trans k)
  (fun W l o o' hl h1 h2 h3=>⟨by simp,fun b hb=>(grownBy_putObj' W l o').block b (fK (hM.Fs b hb) (jY hl (Nat.le_of_lt (xW.1 h1).1))) (fun e=>by cases e;have:=hM.Fs _ hb;omega)⟩)
  (Below.refl _ _) (fun _=>rfl)
  (fun pre W=>∃ C' ea cl L,aPm dl sk dc (ad.getD 1 undef) (ad.getD 2 undef) C w mb (pre.map fun x=>mD dc x.1) W C' ea cl L) (fun _ _ _=>False)
  (fun pre X Y row hs hg hr=>by obtain ⟨C',ea,cl,L,h⟩:=hs;exact ⟨C',ea,cl,L,h.own hM hmb hg hr⟩) (fun _ _ _ _ _ hs _ _=>hs)
  ⟨C,#[],0,[],bGa (Ks := #[]) hM hmb hmh i1 hdh rfl rfl⟩
  (fun x a' W=>∃ b,a'=(({ tmps:=(a.tmps.setIfInBounds 28 (.int .i64 (x.1:Nat))).setIfInBounds 29 (.agg (Co (mD dc x.1))),defers:=[] }:Act).put (some 8) (.pointer (some ⟨b,0,none⟩)))∧w.heap.size≤b∧W.heap[b]? = some (.cells (vsL (mD dc x.1)).toArray 84 (0,0))∧∀ es cl,W.heap[mb]? = some (.map es cl)→∀ y∈es.toList,y.val.ownBlock≠some b)
  (fun x a' _ X Y row hs hg hr => ?hAx) ?assign ?body ?done ?stop
 case hAx =>
  obtain ⟨b,h1,h2,h3,h4⟩:=hs;have hno:∀ c,c<X.heap.size→(c<w.heap.size∨oJ X c)→Y.heap[c]? = X.heap[c]? := fun c hc hd=>hg.block c hc (fun e=>by
   obtain ⟨q1,o,q2,q3⟩:=hr c e.symm
   rcases hd with hd | hd
   ·omega
   ·exact lW q2 q3 hd)
  refine ⟨b,h1,h2,(hno b (bJ h3) (.inr (gL h3))).trans h3,fun es cl h => ?_⟩
  by_cases hlt:mb<X.heap.size
  ·rw [hno mb hlt (.inl hmblt)] at h
   exact h4 es cl h
  ·exact absurd (fK (bJ h3) (dJ _)) (by omega)
 case assign =>
  intro l pre x W K hI hK;rw [J0];obtain ⟨C',ea,cl,L,hI⟩:=hI;have hx:=aVn hd _ (aDt x);have hev:Co (mD dc x.1)=(vsL (mD dc x.1)).toArray:=rfl;refine wpIn_region_lit (wpListIn_plain rfl fun K' Ph => ?_)
  unfold Oper.wpIn;refine ⟨fun f _=>trivial,?_⟩
  rw [Oper.semAt_plain _ _ _ (by intro c F3;cases F3)]
  have e1 : ∀ ρ : Operand → Value, (execOp ρ { dst := some 8, op := .alloc 84, type := 0, pos := "jury.go:198", after := #[], guard := none }).run Tp W = .ok (.value (.pointer (some ⟨W.heap.size, 0, none⟩))) (W.alloc (.cells H8.cells 84)) := fun ρ => by
   unfold execOp;dsimp only;rw [Sem.run_bind,aPj,Result.andThen_ok,Sem.run_pure]
  rw [e1];refine Ph _ _ (wpListIn_plain rfl fun K2 Tq => ?_)
  unfold Oper.wpIn;refine ⟨fun f _=>trivial,?_⟩
  rw [Oper.semAt_plain _ _ _ (by intro c F3;cases F3)]
  obtain ⟨Ts,hi,Ls,D5⟩:=I7;have e8:(({ tmps:=(a.tmps.setIfInBounds 28 (.int .i64 (x.1:Nat))).setIfInBounds 29 (.agg (Co (mD dc x.1))),defers:=[] }:Act).put (some 8) (.pointer (some ⟨W.heap.size,0,none⟩))).eval (.tmp 8) = .pointer (some ⟨W.heap.size,0,none⟩):=(actT x W.heap.size).2.2;have Tt:(({ tmps:=(a.tmps.setIfInBounds 28 (.int .i64 (x.1:Nat))).setIfInBounds 29 (.agg (Co (mD dc x.1))),defers:=[] }:Act).put (some 8) (.pointer (some ⟨W.heap.size,0,none⟩))).eval (.tmp 29) = .agg (Co (mD dc x.1)):=by
   simp [Act.eval,Act.put,Bm,hsz]
  have e2:=run_storeAt_new (P:=Tp) W 84 H8.cells (Co (mD dc x.1)) (by rw [hi];simp [D5,hev,vsL,hx.len]) (by simp [hev,vsL,hx.len];rfl) (by
   rw [Array.all_eq_true];intro i h;simp [hev,vsL];rfl)
  have e3 : ∀ ρ : Operand → Value, ρ (.tmp 8) = .pointer (some ⟨W.heap.size, 0, none⟩) → ρ (.tmp 29) = .agg (Co (mD dc x.1)) → (execOp ρ { dst := none, op := .store 84 (.tmp 8) (.tmp 29), type := 0, pos := "jury.go:198", after := #[{ on := 0, ground := .data }, { on := 0, ground := .phase }], guard := none }).run Tp (W.alloc (.cells H8.cells 84)) = .ok .skip (W.alloc (.cells (Co (mD dc x.1)) 84)) := fun ρ h1 h2 => by
   unfold execOp;dsimp only;rw [h1,h2,Sem.run_bind,e2,Result.andThen_ok,Sem.run_pure]
  rw [e3 _ e8 Tt];refine Tq _ _ (wpListIn_nil (hK _ _ ?_ ?_ ?_ ?_))
  ·exact ⟨by simp,fun k o _ hk _=>((eQ W _).2.2 k (bJ hk)).trans hk⟩
  ·exact ⟨by simp,fun b hb=>(eQ W _).2.2 b (fK (hM.Fs b hb) hI.inv.2.2.size)⟩
  ·exact ⟨C',ea,cl,L,hI.own hM hmb (World.grownBy_alloc W _ none) (fun r e=>by cases e)⟩
  ·refine ⟨W.heap.size,rfl,hI.inv.2.2.size,(eQ W _).2.1,fun Q2 Q3 h y hy hyb => ?_⟩
   have Rn:=(hI.has (mb,.map ea cl) (by simp [mapR])).1
   rw [(eQ W _).2.2 mb (bJ Rn),Rn] at h
   cases h;obtain ⟨e,he,_,hv⟩:=hI.ok.e1 y hy;rw [hv] at hyb
   have Ct:e.b=W.heap.size:=by
    have:Ent.val e = .slice (some ⟨e.b,0,none⟩) e.l.length e.cap:=rfl;rw [this] at hyb
    exact Option.some.inj hyb
   have:=bJ (hI.has e.blk (mem_mapR.2 (.inr ⟨e,he,rfl⟩))).1;simp only [Ent.blk] at this
   omega
 case body =>
  rintro l pre x a' W hl _ ⟨C',ea,cl,L,hI⟩ ⟨b,rfl,Bl,Ct,J7⟩ hlt;obtain ⟨t1,t2,t3⟩:=actT x b;refine wpIn_mono (bNy (l:=l) (n:=1) (aVn hd _ (aDt x)) (fun y hy=>by
   obtain ⟨z,_,rfl⟩:=Bi.1 hy;exact aVn hd _ (aDt z)) (by rw [Bt];have:=hd.len;omega) hM hmb hI t1 rfl (by rw [t2];exact h6) t3 Bl Ct J7) ?_
  rintro e a2 W4 ⟨rfl,hK,hG,h⟩;exact ⟨hK,hG,by simpa [jJ] using h⟩
 case done =>
  intro D xs W Ka hSx hI hDm;obtain ⟨C',ea,cl,L,hI⟩:=hI;rw [bNw hSx] at hI
  obtain ⟨C5,I8,f5,I6⟩:=bGb hM hmb r1 r2 hI;have hnp:bCr (zT dl sk dc):=fun i o h=>by rcases at4 h with ⟨rfl,e⟩ | ⟨rfl,e⟩ | ⟨rfl,e⟩ | ⟨rfl,e⟩ <;> cases e <;> rfl
  refine ⟨rfl,C5,?_,I8,hF.trans f5,?_⟩
  ·have s0:eC C5 (zT dl sk dc) W (List.replicate 57 .any) a.tmps:=⟨by simpa using hsz,fun j hj=>by rw [List.getElem_replicate];exact .any _⟩
   refine ⟨hsz.trans rfl,fun j hj => ?_⟩
   have hfr:fr 57 [(6,.ptr 0 0)]=(List.replicate 57 AV.any).set 6 (.ptr 0 0):=rfl;simp only [hfr] at hj ⊢
   rw [oG]
   split
   ·rename_i e;subst e;exact h6.mono (hM.le f5)
   ·exact s0.rep j (by simpa using hj)
  ·obtain ⟨⟨l,e1,e2,e3⟩,hR⟩:=hD.fr hM (fun i to ti sz L h=>by have:=hnp _ _ h;cases this) f5
   obtain ⟨⟨l',Kq,_,Pi⟩,_⟩:=hD;have hll:l=l':=by
    have:=e1.symm.trans Kq;exact (List.map_inj_right (fun x y h=>by simpa [mark] using h)).1 this
   refine ⟨⟨D::l,by rw [e1];rfl,List.nodup_cons.2 ⟨fun hin => ?_,e2⟩,fun D' Pj => ?_⟩,hR⟩
   ·rw [hll] at hin
    have:=(xW.1 (Pi D hin).1).1;omega
   ·rcases eO.1 Pj with rfl | hin
    ·exact ⟨hDm,jY hF.size Ka,I6 _ hDm Ka⟩
    ·exact e3 D' hin
 case stop =>
  intro D c pre W _ _ h _;exact h.elim
end KV
end Go.Proofs
end
namespace Go.Proofs
namespace KV
open Tryz
section

theorem cFt(dc:Lqq){base:Nat}:FV Tp 89 [.p (fS dc)] base (aPn dc) []:=cFu
theorem aDs{dl:Int}{sk dc:Lqq}(h:fQ dl sk dc):dA (aW dc):=by
 have hm:∀ x,x∈aW dc↔x∈dc:=fun x=>(cB dc).mem_iff
 refine ⟨yA h.ud,by rw [oI];have:=h.len2;omega,fun x hx=>h.hdc x ((hm x).1 hx),?_,fun x hx=>h.ord x ((hm x).1 hx)⟩
 have hn:(bC (aW dc) 0).Nodup:=((cB dc).map _).nodup_iff.2 h.nd;have hs:=jL dc;unfold bC at hn
 rw [List.Nodup,List.pairwise_map] at hn
 exact (hs.and hn).imp fun ⟨h1,h2⟩=>by
  show _<_;unfold dN;omega
theorem bUq{dl:Int}{sk dc:Lqq}(h0:fQ dl sk dc)(h1:dA (aW dc)){base:Nat}:FV Tp 45 [(.p (.agg (qZ dl sk dc)))] base (.tup [(.rp [(aA dl),(.sl ((aW sk).length) ((aW sk).flatten.map aA)),(.sl ((aW dc).length) ((aW dc).flatten.map aA)),(.mp (atF (aW dc).reverse)),(.mp (abE (aW dc)))] 0),(pI 0)]) []:=have k1:=fk 1 (bZh dl sk dc h0) rfl;have k2:=fk 6 (cFt (aW dc)) rfl;FV.fi func45 [k1.o,bF,k2.o,.k 1 (gI [0,6,7,20,28,29] [5,4,2,3]) .normal ⟨fr 57 [(6,(.ptr 0 0))],zT dl (aW sk) (aW dc)⟩,.g 1 ⟨[],[0],[2,1],[]⟩] (gt (aB Tp 0 (sub (cd Tryz.f45) [1,1,1,1,0,1,0]) ⟨fr 57 [(6,(.ptr 0 0)),(27,aPn (aW dc))],lK dl (aW sk) (aW dc)⟩ .normal ⟨fr 57 [(6,(.ptr 0 0))],zT dl (aW sk) (aW dc)⟩) (bNv dl (aW sk) (aW dc) h1) (gc k2 (gt (((0:Int) != 0)=false) (by first | decide | simp) (gc k1 gn))))
abbrev aU(dl:Int)(sk dc:Lqq):List PV:=[aA dl,.sl sk.length (sk.flatten.map aA),.sl dc.length (dc.flatten.map aA),.mp (atF dc.reverse),.mp (abE dc)]
theorem bUr(dl:Int)(sk dc:Lqq)(h:fQ dl sk dc){base:Nat}:FV Tp 45 [.p (.agg (qZ dl sk dc))] base (.tup [.rp (aU dl (aW sk) (aW dc)) 0,.p (aA 0)]) []:=bUq h (aDs h)
end
section
section
variable {P:Program} {k:Nat} {b:Code} {β:Type}
theorem aE.ex{e:Ex}(S:Nat→β→St)(R:β→St)(Inv:Nat→β→Prop)(he:e ≠ .normal)(n:Nat)
  (hs:∀ (i:Nat) (acc:β),i<n→Inv i acc→∃ Bq,Inv (i+1) Bq∧aB P k b (S i acc) .normal (S (i+1) Bq))
  (hx:∀ acc,Inv n acc→aB P k b (S n acc) e (R acc)) {acc:β} (h0:Inv 0 acc):∃ Bq,Inv n Bq∧aE P k b (S 0 acc) e (R Bq):=by
 have key:∀ (d i:Nat) (acc:β),i+d=n→Inv i acc→∃ Bq,Inv n Bq∧aE P k b (S i acc) e (R Bq):=by
  intro d
  induction d with
  | zero =>
   intro i acc hi h;obtain rfl:i=n:=by omega
   exact ⟨acc,h,.exit (hx acc h) he⟩
  | succ d ih =>
   intro i acc hi h;obtain ⟨H7,h1,c1⟩:=hs i acc (by omega) h
   obtain ⟨Pl,h2,c2⟩:=ih (i+1) H7 (by omega) h1
   exact ⟨Pl,h2,.step c1 c2⟩
 exact key n 0 acc (by omega) h0
theorem aE.exF{e1 e2:Ex}(S R1:Nat→β→St)(R2:β→St)(Inv:β→Prop)(h1:e1 ≠ .normal)(h2:e2 ≠ .normal)(p:Nat→Bool)(n:Nat)
  (hs:∀ (i:Nat) (acc:β),i<n→Inv acc→p i=false→∃ Bq,Inv Bq∧aB P k b (S i acc) .normal (S (i+1) Bq))
  (hq:∀ (i:Nat) (acc:β),i<n→Inv acc→p i=true→∃ Bq,Inv Bq∧aB P k b (S i acc) e1 (R1 i Bq))
  (hx:∀ acc,Inv acc→aB P k b (S n acc) e2 (R2 acc)) {acc:β} (h0:Inv acc) :
  (∃ i Bq,i<n∧p i=true∧(∀ j,j<i→p j=false)∧Inv Bq∧aE P k b (S 0 acc) e1 (R1 i Bq))∨((∀ j,j<n→p j=false)∧∃ Bq,Inv Bq∧aE P k b (S 0 acc) e2 (R2 Bq)):=by
 have key:∀ (d i:Nat) (acc:β),i+d=n→Inv acc→(∀ j,j<i→p j=false)→(∃ i' Bq,i'<n∧p i'=true∧(∀ j,j<i'→p j=false)∧Inv Bq∧aE P k b (S i acc) e1 (R1 i' Bq))∨((∀ j,j<n→p j=false)∧∃ Bq,Inv Bq∧aE P k b (S i acc) e2 (R2 Bq)):=by
  intro d
  induction d with
  | zero =>
   intro i acc hi h hj;obtain rfl:i=n:=by omega
   exact .inr ⟨hj,acc,h,.exit (hx acc h) h2⟩
  | succ d ih =>
   intro i acc hi h hj;cases hp:p i with
   | true =>
    obtain ⟨H7,q1,c1⟩:=hq i acc (by omega) h hp
    exact .inl ⟨i,H7,by omega,hp,hj,q1,.exit c1 h1⟩
   | false =>
    obtain ⟨H7,q1,c1⟩:=hs i acc (by omega) h hp
    rcases ih (i+1) H7 (by omega) q1 (fun j D4=>by
     rcases Nat.lt_or_ge j i with h3 | h3
     ·exact hj j h3
     ·obtain rfl:j=i:=by omega
      exact hp) with ⟨i',Bq,r1,r2,r3,r4,r5⟩ | ⟨r1,Bq,r2,r3⟩
    ·exact .inl ⟨i',Bq,r1,r2,r3,r4,.step c1 r5⟩
    ·exact .inr ⟨r1,Bq,r2,.step c1 r3⟩
 exact key n 0 acc (by omega) h0 (fun j hj=>absurd hj (bMd _))
end
def aK(T:Lqb):List (Value × PV):=T.map fun p=>(.int .i64 p.1,blP p.2)
theorem bFx(T:Lqb)(n:Int)(b:Bool):aK (T++[(n,b)])=aK T++[(.int .i64 n,blP b)]:=by simp [aK]
structure cK (dl:Int) (oc:List Int) (dc:Lqq) (T:Lqb):Prop where
 nd:(T.map (·.1)).Nodup
 ok:∀ p∈T,∃ x∈dc,dN x=p.1∧dM dl oc dc x=p.2
section
variable {dl:Int} {oc:List Int} {dc:Lqq} {T:Lqb}
theorem cK.nil:cK dl oc dc []:=⟨by simp,fun p hp=>by cases hp⟩
theorem jP(h:dA dc){x:List Int}(hx:x∈dc):1≤dN x∧dN x≤9999:=(jM.1 (h.rng x hx)).1
theorem bAn(h:dA dc){x y:List Int}(hx:x∈dc)(hy:y∈dc)(e:dN x=dN y):x=y:=by
 obtain ⟨i,hi,rfl⟩:=List.mem_iff_getElem.1 hx;obtain ⟨j,hj,rfl⟩:=List.mem_iff_getElem.1 hy;have hu:=List.pairwise_iff_getElem.1 h.up
 rcases Nat.lt_trichotomy i j with q | q | q
 ·have:=hu i j hi hj q;omega
 ·subst q;rfl
 ·have:=hu j i hj hi q;omega
theorem cK.keys(h:cK dl oc dc T)(hd:dA dc){n:Int}(hn:1≤n∧n≤9999):cJ .i64 (aK T) (.int .i64 n):=by
 refine ⟨fun e he => ?_,nI (by omega),?_⟩
 ·obtain ⟨p,hp,rfl⟩:=Bi.1 he
  obtain ⟨x,hx,e1,_⟩:=h.ok p hp;have:=jP hd hx;exact nI (by omega)
 ·have:(aK T).map (fun e=>jX e.1)=T.map (·.1):=by
   unfold aK;rw [sQ];rfl
  rw [this];exact h.nd
theorem bAo{n:Int}:eD (aK T) (.int .i64 n)=T.any fun p=>p.1 == n:=by
 unfold eD aK;rw [List.any_map]
 congr 1
theorem bNq{n:Int}:jG (aK T) (.int .i64 n)=(T.find? fun p=>p.1 == n).map fun p=>blP p.2:=by
 unfold jG aK
 induction T with
 | nil=>rfl
 | cons p T ih =>
  rw [iK,List.find?_cons,List.find?_cons];have e:(decide (jX ((Value.int IntKind.i64 p.1,blP p.2):Value × PV).1=jX (Value.int IntKind.i64 n)))=(p.1 == n):=by
   show decide (p.1=n)=(p.1 == n);rw [Bool.eq_iff_iff];simp
  rw [e];cases p.1 == n with
  | true=>rfl
  | false=>exact ih
theorem cK.look(h:cK dl oc dc T)(hd:dA dc){x:List Int}(hx:x∈dc)(hh:eD (aK T) (.int .i64 (dN x))=true):jG (aK T) (.int .i64 (dN x))=some (blP (dM dl oc dc x)):=by
 rw [bAo] at hh
 rw [bNq];cases hf:T.find? fun p=>p.1 == dN x with
 | none =>
  obtain ⟨p,h1,h2⟩:=List.any_eq_true.1 hh;exact absurd h2 (aCx.1 hf p h1)
 | some p =>
  have h1:=aAh hf;have h2:p.1=dN x:=by simpa using bDo hf
  obtain ⟨y,hy,e1,e2⟩:=h.ok p h1;rw [bAn hd hy hx (e1.trans h2)] at e2
  rw [e2];rfl
theorem cK.again(h:cK dl oc dc T)(hd:dA dc){x:List Int}(hx:x∈dc):oR (aK T) (.int .i64 (dN x)) (blP (dM dl oc dc x))=aK T:=by
 have:∀ T':Lqb,(∀ p∈T',∃ x∈dc,dN x=p.1∧dM dl oc dc x=p.2)→oR (aK T') (.int .i64 (dN x)) (blP (dM dl oc dc x))=aK T':=by
  intro T'
  induction T' with
  | nil=>intro _;rfl
  | cons p T' ih =>
   intro hp;show (if p.1=dN x then ((.int .i64 (dN x),blP (dM dl oc dc x))::aK T':List (Value × PV)) else (.int .i64 p.1,blP p.2)::oR (aK T') (.int .i64 (dN x)) (blP (dM dl oc dc x)))=(.int .i64 p.1,blP p.2)::aK T'
   by_cases e:p.1=dN x
   ·rw [if_pos e]
    obtain ⟨y,hy,e1,e2⟩:=hp p (gO ..);rw [bAn hd hy hx (e1.trans e)] at e2
    rw [e,e2]
   ·rw [if_neg e,ih fun q hq=>hp q (B3 _ hq)]
 exact this T h.ok
theorem cK.put(h:cK dl oc dc T){x:List Int}(hx:x∈dc)(hh:eD (aK T) (.int .i64 (dN x))=false):cK dl oc dc (T++[(dN x,dM dl oc dc x)]):=by
 rw [bAo] at hh
 refine ⟨?_,fun p hp => ?_⟩
 ·rw [jJ,List.nodup_append]
  refine ⟨h.nd,by simp,fun a ha b hb e => ?_⟩
  simp only [iK,List.map_nil,List.mem_singleton] at hb
  obtain ⟨p,hp,rfl⟩:=Bi.1 ha;have:=List.any_eq_false.1 hh p hp;rw [e,hb] at this
  simp at this
 ·rcases dY.1 hp with hp | hp
  ·exact h.ok p hp
  ·rw [List.mem_singleton.1 hp]
   exact ⟨x,hx,rfl,rfl⟩
end
end
section
variable {b6 is r0 A8 I5 Hc Hd:Bool}{k c0 c1 c2 c3 c4 c5 x0 x1 x2 x3 x4 x5 z0 z1 z2 z3 z4 z5 c0'4 c0'5 c1'5 c1'6 c2'6 c2'7 c3'7 c3'8 c4'8 c4'9 c5'9 Aa Ab Ad Af Ae Ag c5'10:Int}{T t T7 t' Db Dz Hi T107 T109:Lqb}{l y0 Ri Ld Rj:Lqq}{i n i' Ar Ij Kr Rk Lf Rl base:Nat}{ov:PV}
variable {dl:Int}{sk dc:Lqq}

noncomputable abbrev iM:Code:=sub (cd Tryz.f100) [1,1,1,0,1,0,0]
noncomputable abbrev jO:Code:=sub (cd Tryz.f99) [1,0,1,0,0]
abbrev aPf(dl:Int)(sk dc:Lqq):AV := .rp (aU dl sk dc) 0
abbrev pH(dl:Int)(sk dc:Lqq)(ov:PV)(T:Lqb):Mem:=[some (.box 106 [(aPf dl sk dc)]),some (.box 31 [(.p ov)]),some (.box 119 [(.fn 100 [] [(.ptr 4 0),(.ptr 5 0),(.ptr 0 0),(.ptr 2 0)]),(.fn 102 [] [(.ptr 6 0)]),(.fn 103 [] [(.ptr 2 0),(.ptr 1 0)]),(.fn 106 [] [(.ptr 2 0)]),(.fn 104 [] [(.ptr 6 0)])]),some (.mp (aK T) T.length),some (.box 183 [(.mp 3)]),some (.box 115 [(.fn 98 [(aPf dl sk dc)] [])]),some (.box 185 [(.fn 99 [] [(.ptr 0 0),(.ptr 2 0)])])]
abbrev cBj:AV:=(.agg [(.fn 100 [] [(.ptr 4 0),(.ptr 5 0),(.ptr 0 0),(.ptr 2 0)]),(.fn 102 [] [(.ptr 6 0)]),(.fn 103 [] [(.ptr 2 0),(.ptr 1 0)]),(.fn 106 [] [(.ptr 2 0)]),(.fn 104 [] [(.ptr 6 0)])])
abbrev Tl(dl:Int)(sk dc:Lqq):AO:=.box 130 [.rp (aU dl sk dc) 0]
abbrev Tm:AO:=.box 139 [(.fn 154 [] [(.ptr 4 0),(.ptr 5 0),(.ptr 0 0),(.ptr 2 0)]),(.fn 156 [] [(.ptr 6 0)]),(.fn 157 [] [(.ptr 2 0),(.ptr 1 0)]),(.fn 160 [] [(.ptr 2 0)]),(.fn 158 [] [(.ptr 6 0)])]
abbrev Tn(dl:Int)(sk dc:Lqq):AO:=.box 124 [.fn 146 [.rp (aU dl sk dc) 0] []]
abbrev To:AO:=.box 209 [(.fn 153 [] [(.ptr 0 0),(.ptr 2 0)])]
abbrev vU(dl:Int)(sk dc:Lqq)(ov:PV)(T:Lqb):Upd:=[(0,Tl dl sk dc),(1,.box 33 [.p ov]),(2,Tm),(3,.mp (aK T) T.length),(4,.box 207 [.mp 3]),(5,Tn dl sk dc),(6,To)]
abbrev wD(dl:Int)(sk dc:Lqq)(ov:PV)(x:List Int)(b:Bool)(T T2:Lqb):Prop:=FMM Tp 100 [.p (.agg (x.map aA)),.ptr 4 0,.ptr 5 0,.ptr 0 0,.ptr 2 0] (pH dl sk dc ov T) (pB b) (pH dl sk dc ov T2)
abbrev cBk(g:Nat)(dl:Int)(sk dc:Lqq)(ov:PV)(x z:List Int)(b:Bool)(T T2:Lqb):Prop:=FMM Tp 99 [.p (.agg (x.map aA)),.fn g [] [],.ptr 0 0,.ptr 2 0] (pH dl sk dc ov T) (.tup [.p (.agg (z.map aA)),.p (blP b)]) (pH dl sk dc ov T2)
abbrev cBl(dl:Int)(sk dc:Lqq)(ov:PV)(x z:List Int)(b:Bool)(T T2:Lqb):Prop:=FMM Tp 102 [.p (.agg (x.map aA)),.ptr 6 0] (pH dl sk dc ov T) (.tup [.p (.agg (z.map aA)),.p (blP b)]) (pH dl sk dc ov T2)
abbrev cBm(dl:Int)(sk dc:Lqq)(ov:PV)(x z:List Int)(b:Bool)(T T2:Lqb):Prop:=FMM Tp 104 [.p (.agg (x.map aA)),.ptr 6 0] (pH dl sk dc ov T) (.tup [.p (.agg (z.map aA)),.p (blP b)]) (pH dl sk dc ov T2)
abbrev bUe(dl:Int)(sk dc:Lqq)(ov:PV)(x:List Int)(b:Bool)(T T2:Lqb):Prop:=FMM Tp 103 [.p (.agg (x.map aA)),.ptr 2 0,.ptr 1 0] (pH dl sk dc ov T) (pB b) (pH dl sk dc ov T2)
abbrev aAm(dl:Int)(sk dc:Lqq)(ov:PV)(x:List Int)(m:Int)(T T2:Lqb):Prop:=FMM Tp 106 [.p (.agg (x.map aA)),.ptr 2 0] (pH dl sk dc ov T) (pI m) (pH dl sk dc ov T2)
theorem bUf(h0:k=8):FV Tp 101 [(pI k)] base (pB true) []:=FV.fi func101 [bT,bT,bT] (Aq (cF h0) gn)
theorem bUg(h0:k≠8)(Ak:r0=(k == 9)):FV Tp 101 [(pI k)] base (pB r0) []:=by
 subst Ak;exact FV.fi func101 [bF,bF,bF] (Aq (bK h0) gn)
theorem bUh(Ak:r0=(k == 6)):FV Tp 105 [(pI k)] base (pB r0) []:=by
 subst Ak;exact FV.fi func105 [] gn
theorem cBn(h0:k=4):FV Tp 90 [(pI k)] base (pB true) []:=FV.fi func90 [bT,bT,bT] (Aq (cF h0) gn)
theorem cBo(h0:k≠4)(Ak:r0=(k == 7)):FV Tp 90 [(pI k)] base (pB r0) []:=by
 subst Ak;exact FV.fi func90 [bF,bF,bF] (Aq (bK h0) gn)
theorem mX(k:Int){base:Nat}:FV Tp 101 [.p (aA k)] base (pB (cL k)) []:=by
 by_cases h:k=8
 ·rw [show cL k=true by simp [cL,h]];exact bUf h
 ·exact bUg h (by simp [cL,h])
theorem aLc(k:Int){base:Nat}:FV Tp 105 [.p (aA k)] base (pB (k == 6)) []:=bUh rfl
theorem bNn(k:Int){base:Nat}:FV Tp 90 [.p (aA k)] base (pB (mY k)) []:=by
 by_cases h:k=4
 ·rw [show mY k=true by simp [mY,h]];exact cBn h
 ·exact cBo h (by simp [mY,h])
theorem cBp(h0:(mY x1)=true)(Ak:r0=(decide (x2 > dl))):FV Tp 98 [(.rp (aU dl sk dc) 0),(.p (dcE x0 x1 x2 x3 x4 x5))] base (pB r0) []:=by
 subst Ak;exact FV.fi func98 ([.c (pB (mY x1)) []]++rT 7++[.x (aA dl),bT,bT]) (Ap h0 (gr (aA dl) (Ea h0 (gc (fk 1 (bNn x1) rfl) gn))))
theorem cBq(h0:(mY x1)=false):FV Tp 98 [(.rp (aU dl sk dc) 0),(.p (dcE x0 x1 x2 x3 x4 x5))] base (pB false) []:=FV.fi func98 ([.c (pB (mY x1)) []]++rF 9) (Fy h0 (gc h0 (gc (fk 1 (bNn x1) rfl) gn)))
theorem aLd(dl:Int)(sk dc:Lqq)(x0 x1 x2 x3 x4 x5:Int){base:Nat}:FV Tp 98 [aPf dl sk dc,.p (.agg [aA x0,aA x1,aA x2,aA x3,aA x4,aA x5])] base (pB (pT dl [x0,x1,x2,x3,x4,x5])) []:=by
 cases h:mY x1 with
 | true=>exact cBp h (by show (mY x1 && decide (dl<x2))=_;rw [h];rfl)
 | false=>rw [show pT dl [x0,x1,x2,x3,x4,x5]=false by show (mY x1 && decide (dl<x2))=_;rw [h];rfl];exact cBq h
abbrev aAn(ov:PV)(n:Int)(b:Bool):Prop:=∀ base:Nat,FV Tp 22 [.p ov,.p (aA n)] base (pB b) []
abbrev aa(dl:Int)(sk dc:Lqq)(ov:PV)(te:List (Value × PV))(tk:Nat)(c0 c1 c2 c3 c4 c5:Int):Mem:=[some (.box 106 [(.rp (aU dl sk dc) 0)]),some (.box 31 [(.p ov)]),some (.box 119 [(.fn 100 [] [(.ptr 4 0),(.ptr 5 0),(.ptr 0 0),(.ptr 2 0)]),(.fn 102 [] [(.ptr 6 0)]),(.fn 103 [] [(.ptr 2 0),(.ptr 1 0)]),(.fn 106 [] [(.ptr 2 0)]),(.fn 104 [] [(.ptr 6 0)])]),some (.mp te tk),some (.box 183 [(.mp 3)]),some (.box 115 [(.fn 98 [(.rp (aU dl sk dc) 0)] [])]),some (.box 185 [(.fn 99 [] [(.ptr 0 0),(.ptr 2 0)])]),some (.box 84 [(pI c0),(pI c1),(pI c2),(pI c3),(pI c4),(pI c5)])]
def dG(dl:Int)(sk dc:Lqq)(ov:PV)(i:Nat)(l:Lqq)(n:Nat)(te:List (Value × PV))(tk:Nat)(c0 c1 c2 c3 c4 c5:Int):St:=⟨fr 35 [(1,(.fn 101 [] [])),(3,(.ptr 2 0)),(6,(.ptr 7 0)),(16,(.p (fS l))),(17,(pI (n:Int))),(18,(pI (i:Int)))],(aa dl sk dc ov te tk c0 c1 c2 c3 c4 c5)⟩
section
variable(h0:cJ .i64 (abE dc) (.int .i64 x0))(h1:(eD (abE dc) (.int .i64 x0))=true)(h2:jG (abE dc) (.int .i64 x0)=some (fS y0))
include h0 h1 h2
theorem bUi(Cw:aE Tp 7 jO (dG dl sk dc ov 0 y0 y0.length (aK T) T.length 0 0 0 0 0 0) (.exit 0) (dG dl sk dc ov Ij Ld Lf (aK Dz) Dz.length c0'5 c1'6 c2'7 c3'8 c4'9 c5'10)):FMM Tp 99 [(.p (dcE x0 x1 x2 x3 x4 x5)),(.fn 101 [] []),(.ptr 0 0),(.ptr 2 0)] [some (.box 106 [(.rp (aU dl sk dc) 0)]),some (.box 31 [(.p ov)]),some (.box 119 [(.fn 100 [] [(.ptr 4 0),(.ptr 5 0),(.ptr 0 0),(.ptr 2 0)]),(.fn 102 [] [(.ptr 6 0)]),(.fn 103 [] [(.ptr 2 0),(.ptr 1 0)]),(.fn 106 [] [(.ptr 2 0)]),(.fn 104 [] [(.ptr 6 0)])]),some (.mp (aK T) T.length),some (.box 183 [(.mp 3)]),some (.box 115 [(.fn 98 [(.rp (aU dl sk dc) 0)] [])]),some (.box 185 [(.fn 99 [] [(.ptr 0 0),(.ptr 2 0)])])] (.tup [(.p (dcE 0 0 0 0 0 0)),(pB false)]) [some (.box 106 [(.rp (aU dl sk dc) 0)]),some (.box 31 [(.p ov)]),some (.box 119 [(.fn 100 [] [(.ptr 4 0),(.ptr 5 0),(.ptr 0 0),(.ptr 2 0)]),(.fn 102 [] [(.ptr 6 0)]),(.fn 103 [] [(.ptr 2 0),(.ptr 1 0)]),(.fn 106 [] [(.ptr 2 0)]),(.fn 104 [] [(.ptr 6 0)])]),some (.mp (aK Dz) Dz.length),some (.box 183 [(.mp 3)]),some (.box 115 [(.fn 98 [(.rp (aU dl sk dc) 0)] [])]),some (.box 185 [(.fn 99 [] [(.ptr 0 0),(.ptr 2 0)])])]:=FMM.fi 7 gE func99 [.x (.mp (abE dc)),bT,.x (fS y0),Cw.k 1 (gI bm [8])] (gc Cw.code (gc h2 (gc h1 (gc h0 (gr (.mp (abE dc)) gn)))))
theorem bUj(Cw:aE Tp 7 jO (dG dl sk dc ov 0 y0 y0.length (aK T) T.length 0 0 0 0 0 0) .ret (bZ (dG dl sk dc ov Ij Ld Lf (aK Dz) Dz.length c0'5 c1'6 c2'7 c3'8 c4'9 c5'10) [(7,(.kb true))])):FMM Tp 99 [(.p (dcE x0 x1 x2 x3 x4 x5)),(.fn 101 [] []),(.ptr 0 0),(.ptr 2 0)] [some (.box 106 [(.rp (aU dl sk dc) 0)]),some (.box 31 [(.p ov)]),some (.box 119 [(.fn 100 [] [(.ptr 4 0),(.ptr 5 0),(.ptr 0 0),(.ptr 2 0)]),(.fn 102 [] [(.ptr 6 0)]),(.fn 103 [] [(.ptr 2 0),(.ptr 1 0)]),(.fn 106 [] [(.ptr 2 0)]),(.fn 104 [] [(.ptr 6 0)])]),some (.mp (aK T) T.length),some (.box 183 [(.mp 3)]),some (.box 115 [(.fn 98 [(.rp (aU dl sk dc) 0)] [])]),some (.box 185 [(.fn 99 [] [(.ptr 0 0),(.ptr 2 0)])])] (.tup [(.p (dcE c0'5 c1'6 c2'7 c3'8 c4'9 c5'10)),(pB true)]) [some (.box 106 [(.rp (aU dl sk dc) 0)]),some (.box 31 [(.p ov)]),some (.box 119 [(.fn 100 [] [(.ptr 4 0),(.ptr 5 0),(.ptr 0 0),(.ptr 2 0)]),(.fn 102 [] [(.ptr 6 0)]),(.fn 103 [] [(.ptr 2 0),(.ptr 1 0)]),(.fn 106 [] [(.ptr 2 0)]),(.fn 104 [] [(.ptr 6 0)])]),some (.mp (aK Dz) Dz.length),some (.box 183 [(.mp 3)]),some (.box 115 [(.fn 98 [(.rp (aU dl sk dc) 0)] [])]),some (.box 185 [(.fn 99 [] [(.ptr 0 0),(.ptr 2 0)])])]:=FMM.fi 7 gE func99 [.x (.mp (abE dc)),bT,.x (fS y0),Cw.k 1 (gI bm [8])] (gc Cw.code (gc h2 (gc h1 (gc h0 (gr (.mp (abE dc)) gn)))))
end
theorem bUk(h0:cJ .i64 (abE dc) (.int .i64 x0))(h1:(eD (abE dc) (.int .i64 x0))=false)(Bo:aE Tp 7 jO (dG dl sk dc ov 0 ([]:Lqq) 0 (aK T) T.length 0 0 0 0 0 0) (.exit 0) (dG dl sk dc ov Ar Ri Rk (aK Db) Db.length c0'4 c1'5 c2'6 c3'7 c4'8 c5'9)):FMM Tp 99 [(.p (dcE x0 x1 x2 x3 x4 x5)),(.fn 101 [] []),(.ptr 0 0),(.ptr 2 0)] [some (.box 106 [(.rp (aU dl sk dc) 0)]),some (.box 31 [(.p ov)]),some (.box 119 [(.fn 100 [] [(.ptr 4 0),(.ptr 5 0),(.ptr 0 0),(.ptr 2 0)]),(.fn 102 [] [(.ptr 6 0)]),(.fn 103 [] [(.ptr 2 0),(.ptr 1 0)]),(.fn 106 [] [(.ptr 2 0)]),(.fn 104 [] [(.ptr 6 0)])]),some (.mp (aK T) T.length),some (.box 183 [(.mp 3)]),some (.box 115 [(.fn 98 [(.rp (aU dl sk dc) 0)] [])]),some (.box 185 [(.fn 99 [] [(.ptr 0 0),(.ptr 2 0)])])] (.tup [(.p (dcE 0 0 0 0 0 0)),(pB false)]) [some (.box 106 [(.rp (aU dl sk dc) 0)]),some (.box 31 [(.p ov)]),some (.box 119 [(.fn 100 [] [(.ptr 4 0),(.ptr 5 0),(.ptr 0 0),(.ptr 2 0)]),(.fn 102 [] [(.ptr 6 0)]),(.fn 103 [] [(.ptr 2 0),(.ptr 1 0)]),(.fn 106 [] [(.ptr 2 0)]),(.fn 104 [] [(.ptr 6 0)])]),some (.mp (aK Db) Db.length),some (.box 183 [(.mp 3)]),some (.box 115 [(.fn 98 [(.rp (aU dl sk dc) 0)] [])]),some (.box 185 [(.fn 99 [] [(.ptr 0 0),(.ptr 2 0)])])]:=FMM.fi 7 gE func99 [.x (.mp (abE dc)),bF,Bo.k 1 (gN bm [8] [(16,99999)])] (gc Bo.code (gc h1 (gc h0 (gr (.mp (abE dc)) gn))))
section
variable(h0:(i:Int)<(n:Int))(h1:l[i]? = some [Aa,Ab,Ad,Af,Ae,Ag])(h2:uni 6 l)
include h0 h1 h2
theorem aVb(h3:(cL Ab)=true)(h4:wD dl sk dc ov [Aa,Ab,Ad,Af,Ae,Ag] A8 t T107)(h5:A8=true)(A6:aK t'=(aK T107))(A7:t'.length=T107.length):aB Tp 7 jO (dG dl sk dc ov i l n (aK t) t.length c0 c1 c2 c3 c4 c5) .ret (bZ (dG dl sk dc ov i l n (aK t') t'.length Aa Ab Ad Af Ae Ag) [(7,(.kb true))]):=by
 have k1:=fk 9 (mX Ab) rfl;have k2:=mq cn 9 h4;rw [A6,A7];exact aB.fi (gI [0,1,2,1,4,2,8,8,19,15] [7]) [bT,.x (dcE Aa Ab Ad Af Ae Ag),k1.o,bT,bT,bT,bT,k2.o,bT,bT] (gc h5 (gc h3 (gc k2 (Bf h3 (gc k1 (gfl h2 h1 (g0 h0)))))))
theorem aVc(h3:(cL Ab)=true)(h4:wD dl sk dc ov [Aa,Ab,Ad,Af,Ae,Ag] A8 t T107)(h5:A8=false)(h6:di i)(Ai:i'=(i+1))(A6:aK t'=(aK T107))(A7:t'.length=T107.length):aB Tp 7 jO (dG dl sk dc ov i l n (aK t) t.length c0 c1 c2 c3 c4 c5) .normal (dG dl sk dc ov i' l n (aK t') t'.length c0 c1 c2 c3 c4 c5):=by
 subst Ai;have k1:=fk 9 (mX Ab) rfl;have k2:=mq cn 9 h4;rw [A6,A7];exact aB.fi (gI bm [7]) [bT,.x (dcE Aa Ab Ad Af Ae Ag),k1.o,bT,bT,bT,bT,k2.o,bT,bF] (gc h6 (gc h5 (gc h3 (gc k2 (Bf h3 (gc k1 (gfl h2 h1 (g0 h0))))))))
theorem aVd(h3:(cL Ab)=false)(h4:di i)(Ai:i'=(i+1)):aB Tp 7 jO (dG dl sk dc ov i l n (aK t) t.length c0 c1 c2 c3 c4 c5) .normal (dG dl sk dc ov i' l n (aK t) t.length c0 c1 c2 c3 c4 c5):=by
 subst Ai;have k1:=fk 9 (mX Ab) rfl;exact aB.fi (gI bm [7]) ([bT,.x (dcE Aa Ab Ad Af Ae Ag),k1.o]++rF 5) (gc h4 (B7 h3 (gc k1 (gfl h2 h1 (g0 h0)))))
end
theorem aVe(h0:(n:Int)≤(i:Int)):aB Tp 7 jO (dG dl sk dc ov i l n (aK t) t.length c0 c1 c2 c3 c4 c5) (.exit 0) (dG dl sk dc ov i l n (aK t) t.length c0 c1 c2 c3 c4 c5):=aB.fi (gI bm [7]) [bF] (gc (aQ h0) gn)
def dH(dl:Int)(sk dc:Lqq)(ov:PV)(i:Nat)(l:Lqq)(n:Nat)(te:List (Value × PV))(tk:Nat)(c0 c1 c2 c3 c4 c5:Int):St:=⟨fr 35 [(1,(.fn 105 [] [])),(3,(.ptr 2 0)),(6,(.ptr 7 0)),(16,(.p (fS l))),(17,(pI (n:Int))),(18,(pI (i:Int)))],(aa dl sk dc ov te tk c0 c1 c2 c3 c4 c5)⟩
section
variable(h0:cJ .i64 (abE dc) (.int .i64 x0))(h1:(eD (abE dc) (.int .i64 x0))=true)(h2:jG (abE dc) (.int .i64 x0)=some (fS y0))
include h0 h1 h2
theorem bUl(Cw:aE Tp 7 jO (dH dl sk dc ov 0 y0 y0.length (aK T) T.length 0 0 0 0 0 0) (.exit 0) (dH dl sk dc ov Ij Ld Lf (aK Dz) Dz.length c0'5 c1'6 c2'7 c3'8 c4'9 c5'10)):FMM Tp 99 [(.p (dcE x0 x1 x2 x3 x4 x5)),(.fn 105 [] []),(.ptr 0 0),(.ptr 2 0)] [some (.box 106 [(.rp (aU dl sk dc) 0)]),some (.box 31 [(.p ov)]),some (.box 119 [(.fn 100 [] [(.ptr 4 0),(.ptr 5 0),(.ptr 0 0),(.ptr 2 0)]),(.fn 102 [] [(.ptr 6 0)]),(.fn 103 [] [(.ptr 2 0),(.ptr 1 0)]),(.fn 106 [] [(.ptr 2 0)]),(.fn 104 [] [(.ptr 6 0)])]),some (.mp (aK T) T.length),some (.box 183 [(.mp 3)]),some (.box 115 [(.fn 98 [(.rp (aU dl sk dc) 0)] [])]),some (.box 185 [(.fn 99 [] [(.ptr 0 0),(.ptr 2 0)])])] (.tup [(.p (dcE 0 0 0 0 0 0)),(pB false)]) [some (.box 106 [(.rp (aU dl sk dc) 0)]),some (.box 31 [(.p ov)]),some (.box 119 [(.fn 100 [] [(.ptr 4 0),(.ptr 5 0),(.ptr 0 0),(.ptr 2 0)]),(.fn 102 [] [(.ptr 6 0)]),(.fn 103 [] [(.ptr 2 0),(.ptr 1 0)]),(.fn 106 [] [(.ptr 2 0)]),(.fn 104 [] [(.ptr 6 0)])]),some (.mp (aK Dz) Dz.length),some (.box 183 [(.mp 3)]),some (.box 115 [(.fn 98 [(.rp (aU dl sk dc) 0)] [])]),some (.box 185 [(.fn 99 [] [(.ptr 0 0),(.ptr 2 0)])])]:=FMM.fi 7 gE func99 [.x (.mp (abE dc)),bT,.x (fS y0),Cw.k 1 (gI bm [8])] (gc Cw.code (gc h2 (gc h1 (gc h0 (gr (.mp (abE dc)) gn)))))
theorem bUm(Cw:aE Tp 7 jO (dH dl sk dc ov 0 y0 y0.length (aK T) T.length 0 0 0 0 0 0) .ret (bZ (dH dl sk dc ov Ij Ld Lf (aK Dz) Dz.length c0'5 c1'6 c2'7 c3'8 c4'9 c5'10) [(7,(.kb true))])):FMM Tp 99 [(.p (dcE x0 x1 x2 x3 x4 x5)),(.fn 105 [] []),(.ptr 0 0),(.ptr 2 0)] [some (.box 106 [(.rp (aU dl sk dc) 0)]),some (.box 31 [(.p ov)]),some (.box 119 [(.fn 100 [] [(.ptr 4 0),(.ptr 5 0),(.ptr 0 0),(.ptr 2 0)]),(.fn 102 [] [(.ptr 6 0)]),(.fn 103 [] [(.ptr 2 0),(.ptr 1 0)]),(.fn 106 [] [(.ptr 2 0)]),(.fn 104 [] [(.ptr 6 0)])]),some (.mp (aK T) T.length),some (.box 183 [(.mp 3)]),some (.box 115 [(.fn 98 [(.rp (aU dl sk dc) 0)] [])]),some (.box 185 [(.fn 99 [] [(.ptr 0 0),(.ptr 2 0)])])] (.tup [(.p (dcE c0'5 c1'6 c2'7 c3'8 c4'9 c5'10)),(pB true)]) [some (.box 106 [(.rp (aU dl sk dc) 0)]),some (.box 31 [(.p ov)]),some (.box 119 [(.fn 100 [] [(.ptr 4 0),(.ptr 5 0),(.ptr 0 0),(.ptr 2 0)]),(.fn 102 [] [(.ptr 6 0)]),(.fn 103 [] [(.ptr 2 0),(.ptr 1 0)]),(.fn 106 [] [(.ptr 2 0)]),(.fn 104 [] [(.ptr 6 0)])]),some (.mp (aK Dz) Dz.length),some (.box 183 [(.mp 3)]),some (.box 115 [(.fn 98 [(.rp (aU dl sk dc) 0)] [])]),some (.box 185 [(.fn 99 [] [(.ptr 0 0),(.ptr 2 0)])])]:=FMM.fi 7 gE func99 [.x (.mp (abE dc)),bT,.x (fS y0),Cw.k 1 (gI bm [8])] (gc Cw.code (gc h2 (gc h1 (gc h0 (gr (.mp (abE dc)) gn)))))
end
theorem bUn(h0:cJ .i64 (abE dc) (.int .i64 x0))(h1:(eD (abE dc) (.int .i64 x0))=false)(Bo:aE Tp 7 jO (dH dl sk dc ov 0 ([]:Lqq) 0 (aK T) T.length 0 0 0 0 0 0) (.exit 0) (dH dl sk dc ov Ar Ri Rk (aK Db) Db.length c0'4 c1'5 c2'6 c3'7 c4'8 c5'9)):FMM Tp 99 [(.p (dcE x0 x1 x2 x3 x4 x5)),(.fn 105 [] []),(.ptr 0 0),(.ptr 2 0)] [some (.box 106 [(.rp (aU dl sk dc) 0)]),some (.box 31 [(.p ov)]),some (.box 119 [(.fn 100 [] [(.ptr 4 0),(.ptr 5 0),(.ptr 0 0),(.ptr 2 0)]),(.fn 102 [] [(.ptr 6 0)]),(.fn 103 [] [(.ptr 2 0),(.ptr 1 0)]),(.fn 106 [] [(.ptr 2 0)]),(.fn 104 [] [(.ptr 6 0)])]),some (.mp (aK T) T.length),some (.box 183 [(.mp 3)]),some (.box 115 [(.fn 98 [(.rp (aU dl sk dc) 0)] [])]),some (.box 185 [(.fn 99 [] [(.ptr 0 0),(.ptr 2 0)])])] (.tup [(.p (dcE 0 0 0 0 0 0)),(pB false)]) [some (.box 106 [(.rp (aU dl sk dc) 0)]),some (.box 31 [(.p ov)]),some (.box 119 [(.fn 100 [] [(.ptr 4 0),(.ptr 5 0),(.ptr 0 0),(.ptr 2 0)]),(.fn 102 [] [(.ptr 6 0)]),(.fn 103 [] [(.ptr 2 0),(.ptr 1 0)]),(.fn 106 [] [(.ptr 2 0)]),(.fn 104 [] [(.ptr 6 0)])]),some (.mp (aK Db) Db.length),some (.box 183 [(.mp 3)]),some (.box 115 [(.fn 98 [(.rp (aU dl sk dc) 0)] [])]),some (.box 185 [(.fn 99 [] [(.ptr 0 0),(.ptr 2 0)])])]:=FMM.fi 7 gE func99 [.x (.mp (abE dc)),bF,Bo.k 1 (gN bm [8] [(16,99999)])] (gc Bo.code (gc h1 (gc h0 (gr (.mp (abE dc)) gn))))
section
variable(h0:(i:Int)<(n:Int))(h1:l[i]? = some [Aa,Ab,Ad,Af,Ae,Ag])(h2:uni 6 l)
include h0 h1 h2
theorem aVf(h3:(Ab == 6)=true)(h4:wD dl sk dc ov [Aa,Ab,Ad,Af,Ae,Ag] A8 t T107)(h5:A8=true)(A6:aK t'=(aK T107))(A7:t'.length=T107.length):aB Tp 7 jO (dH dl sk dc ov i l n (aK t) t.length c0 c1 c2 c3 c4 c5) .ret (bZ (dH dl sk dc ov i l n (aK t') t'.length Aa Ab Ad Af Ae Ag) [(7,(.kb true))]):=by
 have k1:=mq cn 9 h4;rw [A6,A7];exact aB.fi (gI [0,1,2,1,4,2,8,8,19,15] [7]) [bT,.x (dcE Aa Ab Ad Af Ae Ag),.c (pB (Ab == 6)) [],bT,bT,bT,bT,k1.o,bT,bT] (gc h5 (gc h3 (gc k1 (Bf h3 (gc (fk 9 (aLc Ab) rfl) (gfl h2 h1 (g0 h0)))))))
theorem aVg(h3:(Ab == 6)=true)(h4:wD dl sk dc ov [Aa,Ab,Ad,Af,Ae,Ag] A8 t T107)(h5:A8=false)(h6:di i)(Ai:i'=(i+1))(A6:aK t'=(aK T107))(A7:t'.length=T107.length):aB Tp 7 jO (dH dl sk dc ov i l n (aK t) t.length c0 c1 c2 c3 c4 c5) .normal (dH dl sk dc ov i' l n (aK t') t'.length c0 c1 c2 c3 c4 c5):=by
 subst Ai;have k1:=mq cn 9 h4;rw [A6,A7];exact aB.fi (gI bm [7]) [bT,.x (dcE Aa Ab Ad Af Ae Ag),.c (pB (Ab == 6)) [],bT,bT,bT,bT,k1.o,bT,bF] (gc h6 (gc h5 (gc h3 (gc k1 (Bf h3 (gc (fk 9 (aLc Ab) rfl) (gfl h2 h1 (g0 h0))))))))
theorem aVh(h3:(Ab == 6)=false)(h4:di i)(Ai:i'=(i+1)):aB Tp 7 jO (dH dl sk dc ov i l n (aK t) t.length c0 c1 c2 c3 c4 c5) .normal (dH dl sk dc ov i' l n (aK t) t.length c0 c1 c2 c3 c4 c5):=by
 subst Ai;exact aB.fi (gI bm [7]) ([bT,.x (dcE Aa Ab Ad Af Ae Ag),.c (pB (Ab == 6)) []]++rF 5) (gc h4 (B7 h3 (gc (fk 9 (aLc Ab) rfl) (gfl h2 h1 (g0 h0)))))
end
theorem aVi(h0:(n:Int)≤(i:Int)):aB Tp 7 jO (dH dl sk dc ov i l n (aK t) t.length c0 c1 c2 c3 c4 c5) (.exit 0) (dH dl sk dc ov i l n (aK t) t.length c0 c1 c2 c3 c4 c5):=aB.fi (gI bm [7]) [bF] (gc (aQ h0) gn)
def cnt_S0(dl:Int)(sk dc:Lqq)(ov:PV)(x0 x1 x2 x3 x4 x5:Int)(is:Bool)(i:Nat)(l:Lqq)(n:Nat)(te:List (Value × PV))(tk:Nat):St:=⟨fr 79 [(1,(.ptr 4 0)),(4,(.ptr 2 0)),(5,(.ptr 7 0)),(6,(.kb false)),(9,(pB is)),(32,(.p (fS l))),(33,(pI (n:Int))),(34,(pI (i:Int)))],[some (.box 106 [(.rp (aU dl sk dc) 0)]),some (.box 31 [(.p ov)]),some (.box 119 [(.fn 100 [] [(.ptr 4 0),(.ptr 5 0),(.ptr 0 0),(.ptr 2 0)]),(.fn 102 [] [(.ptr 6 0)]),(.fn 103 [] [(.ptr 2 0),(.ptr 1 0)]),(.fn 106 [] [(.ptr 2 0)]),(.fn 104 [] [(.ptr 6 0)])]),some (.mp te tk),some (.box 183 [(.mp 3)]),some (.box 115 [(.fn 98 [(.rp (aU dl sk dc) 0)] [])]),some (.box 185 [(.fn 99 [] [(.ptr 0 0),(.ptr 2 0)])]),some (.box 84 [(pI x0),(pI x1),(pI x2),(pI x3),(pI x4),(pI x5)])]⟩
theorem cnt_p0{y0:Bool}(h0:cJ .i64 (aK T) (.int .i64 x0))(h1:(eD (aK T) (.int .i64 x0))=true)(h2:jG (aK T) (.int .i64 x0)=some (blP y0)):FMM Tp 100 [(.p (dcE x0 x1 x2 x3 x4 x5)),(.ptr 4 0),(.ptr 5 0),(.ptr 0 0),(.ptr 2 0)] [some (.box 106 [(.rp (aU dl sk dc) 0)]),some (.box 31 [(.p ov)]),some (.box 119 [(.fn 100 [] [(.ptr 4 0),(.ptr 5 0),(.ptr 0 0),(.ptr 2 0)]),(.fn 102 [] [(.ptr 6 0)]),(.fn 103 [] [(.ptr 2 0),(.ptr 1 0)]),(.fn 106 [] [(.ptr 2 0)]),(.fn 104 [] [(.ptr 6 0)])]),some (.mp (aK T) T.length),some (.box 183 [(.mp 3)]),some (.box 115 [(.fn 98 [(.rp (aU dl sk dc) 0)] [])]),some (.box 185 [(.fn 99 [] [(.ptr 0 0),(.ptr 2 0)])])] (pB y0) [some (.box 106 [(.rp (aU dl sk dc) 0)]),some (.box 31 [(.p ov)]),some (.box 119 [(.fn 100 [] [(.ptr 4 0),(.ptr 5 0),(.ptr 0 0),(.ptr 2 0)]),(.fn 102 [] [(.ptr 6 0)]),(.fn 103 [] [(.ptr 2 0),(.ptr 1 0)]),(.fn 106 [] [(.ptr 2 0)]),(.fn 104 [] [(.ptr 6 0)])]),some (.mp (aK T) T.length),some (.box 183 [(.mp 3)]),some (.box 115 [(.fn 98 [(.rp (aU dl sk dc) 0)] [])]),some (.box 185 [(.fn 99 [] [(.ptr 0 0),(.ptr 2 0)])])]:=FMM.fi 7 gE func100 [bT,.x (blP y0)] (gc h2 (gc h1 (gc h0 gn)))
section
variable(h0:cJ .i64 (aK T) (.int .i64 x0))(h1:(eD (aK T) (.int .i64 x0))=false)(h2:cJ .i64 (abE dc) (.int .i64 x0))(h3:(eD (abE dc) (.int .i64 x0))=true)(h4:jG (abE dc) (.int .i64 x0)=some (fS y0))(F8:aE Tp 7 iM (cnt_S0 dl sk dc ov x0 x1 x2 x3 x4 x5 (!(pT dl [x0,x1,x2,x3,x4,x5])) 0 y0 y0.length (aK T) T.length) (.exit 0) (cnt_S0 dl sk dc ov x0 x1 x2 x3 x4 x5 Hd Kr Rj Rl (aK Hi) Hi.length))(h6:cJ .i64 (aK Hi) (.int .i64 x0))
include h0 h1 h2 h3 h4 F8 h6
theorem cBr(h7:(eD (aK Hi) (.int .i64 x0))=true):FMM Tp 100 [(.p (dcE x0 x1 x2 x3 x4 x5)),(.ptr 4 0),(.ptr 5 0),(.ptr 0 0),(.ptr 2 0)] [some (.box 106 [(.rp (aU dl sk dc) 0)]),some (.box 31 [(.p ov)]),some (.box 119 [(.fn 100 [] [(.ptr 4 0),(.ptr 5 0),(.ptr 0 0),(.ptr 2 0)]),(.fn 102 [] [(.ptr 6 0)]),(.fn 103 [] [(.ptr 2 0),(.ptr 1 0)]),(.fn 106 [] [(.ptr 2 0)]),(.fn 104 [] [(.ptr 6 0)])]),some (.mp (aK T) T.length),some (.box 183 [(.mp 3)]),some (.box 115 [(.fn 98 [(.rp (aU dl sk dc) 0)] [])]),some (.box 185 [(.fn 99 [] [(.ptr 0 0),(.ptr 2 0)])])] (pB Hd) [some (.box 106 [(.rp (aU dl sk dc) 0)]),some (.box 31 [(.p ov)]),some (.box 119 [(.fn 100 [] [(.ptr 4 0),(.ptr 5 0),(.ptr 0 0),(.ptr 2 0)]),(.fn 102 [] [(.ptr 6 0)]),(.fn 103 [] [(.ptr 2 0),(.ptr 1 0)]),(.fn 106 [] [(.ptr 2 0)]),(.fn 104 [] [(.ptr 6 0)])]),some (.mp (oR (aK Hi) (.int .i64 x0) (blP Hd)) Hi.length),some (.box 183 [(.mp 3)]),some (.box 115 [(.fn 98 [(.rp (aU dl sk dc) 0)] [])]),some (.box 185 [(.fn 99 [] [(.ptr 0 0),(.ptr 2 0)])])]:=have k1:=fk 8 (aLd dl sk dc x0 x1 x2 x3 x4 x5) rfl;FMM.fi 7 gE func100 [bF,k1.o,.x (.mp (abE dc)),bT,.x (fS y0),F8.k 1 (gI b9 [7]),bT] (gc h7 (gc h6 (gc F8.code (gc h4 (gc h3 (gc h2 (gr (.mp (abE dc)) (gc k1 (gc h1 (gc h0 gn))))))))))
theorem cBs(h7:(eD (aK Hi) (.int .i64 x0))=false):FMM Tp 100 [(.p (dcE x0 x1 x2 x3 x4 x5)),(.ptr 4 0),(.ptr 5 0),(.ptr 0 0),(.ptr 2 0)] [some (.box 106 [(.rp (aU dl sk dc) 0)]),some (.box 31 [(.p ov)]),some (.box 119 [(.fn 100 [] [(.ptr 4 0),(.ptr 5 0),(.ptr 0 0),(.ptr 2 0)]),(.fn 102 [] [(.ptr 6 0)]),(.fn 103 [] [(.ptr 2 0),(.ptr 1 0)]),(.fn 106 [] [(.ptr 2 0)]),(.fn 104 [] [(.ptr 6 0)])]),some (.mp (aK T) T.length),some (.box 183 [(.mp 3)]),some (.box 115 [(.fn 98 [(.rp (aU dl sk dc) 0)] [])]),some (.box 185 [(.fn 99 [] [(.ptr 0 0),(.ptr 2 0)])])] (pB Hd) [some (.box 106 [(.rp (aU dl sk dc) 0)]),some (.box 31 [(.p ov)]),some (.box 119 [(.fn 100 [] [(.ptr 4 0),(.ptr 5 0),(.ptr 0 0),(.ptr 2 0)]),(.fn 102 [] [(.ptr 6 0)]),(.fn 103 [] [(.ptr 2 0),(.ptr 1 0)]),(.fn 106 [] [(.ptr 2 0)]),(.fn 104 [] [(.ptr 6 0)])]),some (.mp ((aK Hi)++[((.int .i64 x0),(blP Hd))]) (Hi.length+1)),some (.box 183 [(.mp 3)]),some (.box 115 [(.fn 98 [(.rp (aU dl sk dc) 0)] [])]),some (.box 185 [(.fn 99 [] [(.ptr 0 0),(.ptr 2 0)])])]:=have k1:=fk 8 (aLd dl sk dc x0 x1 x2 x3 x4 x5) rfl;FMM.fi 7 gE func100 [bF,k1.o,.x (.mp (abE dc)),bT,.x (fS y0),F8.k 1 (gI b9 [7]),bF] (gc h7 (gc h6 (gc F8.code (gc h4 (gc h3 (gc h2 (gr (.mp (abE dc)) (gc k1 (gc h1 (gc h0 gn))))))))))
end
section
variable(h0:cJ .i64 (aK T) (.int .i64 x0))(h1:(eD (aK T) (.int .i64 x0))=false)(h2:cJ .i64 (abE dc) (.int .i64 x0))(h3:(eD (abE dc) (.int .i64 x0))=false)(H6:aE Tp 7 iM (cnt_S0 dl sk dc ov x0 x1 x2 x3 x4 x5 (!(pT dl [x0,x1,x2,x3,x4,x5])) 0 ([]:Lqq) 0 (aK T) T.length) (.exit 0) (cnt_S0 dl sk dc ov x0 x1 x2 x3 x4 x5 Hc Ij Ld Lf (aK Dz) Dz.length))(h5:cJ .i64 (aK Dz) (.int .i64 x0))
include h0 h1 h2 h3 H6 h5
theorem cBt(h6:(eD (aK Dz) (.int .i64 x0))=true):FMM Tp 100 [(.p (dcE x0 x1 x2 x3 x4 x5)),(.ptr 4 0),(.ptr 5 0),(.ptr 0 0),(.ptr 2 0)] [some (.box 106 [(.rp (aU dl sk dc) 0)]),some (.box 31 [(.p ov)]),some (.box 119 [(.fn 100 [] [(.ptr 4 0),(.ptr 5 0),(.ptr 0 0),(.ptr 2 0)]),(.fn 102 [] [(.ptr 6 0)]),(.fn 103 [] [(.ptr 2 0),(.ptr 1 0)]),(.fn 106 [] [(.ptr 2 0)]),(.fn 104 [] [(.ptr 6 0)])]),some (.mp (aK T) T.length),some (.box 183 [(.mp 3)]),some (.box 115 [(.fn 98 [(.rp (aU dl sk dc) 0)] [])]),some (.box 185 [(.fn 99 [] [(.ptr 0 0),(.ptr 2 0)])])] (pB Hc) [some (.box 106 [(.rp (aU dl sk dc) 0)]),some (.box 31 [(.p ov)]),some (.box 119 [(.fn 100 [] [(.ptr 4 0),(.ptr 5 0),(.ptr 0 0),(.ptr 2 0)]),(.fn 102 [] [(.ptr 6 0)]),(.fn 103 [] [(.ptr 2 0),(.ptr 1 0)]),(.fn 106 [] [(.ptr 2 0)]),(.fn 104 [] [(.ptr 6 0)])]),some (.mp (oR (aK Dz) (.int .i64 x0) (blP Hc)) Dz.length),some (.box 183 [(.mp 3)]),some (.box 115 [(.fn 98 [(.rp (aU dl sk dc) 0)] [])]),some (.box 185 [(.fn 99 [] [(.ptr 0 0),(.ptr 2 0)])])]:=have k1:=fk 8 (aLd dl sk dc x0 x1 x2 x3 x4 x5) rfl;FMM.fi 7 gE func100 [bF,k1.o,.x (.mp (abE dc)),bF,H6.k 1 (gN b9 [7] [(32,99999)]),bT] (gc h6 (gc h5 (gc H6.code (gc h3 (gc h2 (gr (.mp (abE dc)) (gc k1 (gc h1 (gc h0 gn)))))))))
theorem cBu(h6:(eD (aK Dz) (.int .i64 x0))=false):FMM Tp 100 [(.p (dcE x0 x1 x2 x3 x4 x5)),(.ptr 4 0),(.ptr 5 0),(.ptr 0 0),(.ptr 2 0)] [some (.box 106 [(.rp (aU dl sk dc) 0)]),some (.box 31 [(.p ov)]),some (.box 119 [(.fn 100 [] [(.ptr 4 0),(.ptr 5 0),(.ptr 0 0),(.ptr 2 0)]),(.fn 102 [] [(.ptr 6 0)]),(.fn 103 [] [(.ptr 2 0),(.ptr 1 0)]),(.fn 106 [] [(.ptr 2 0)]),(.fn 104 [] [(.ptr 6 0)])]),some (.mp (aK T) T.length),some (.box 183 [(.mp 3)]),some (.box 115 [(.fn 98 [(.rp (aU dl sk dc) 0)] [])]),some (.box 185 [(.fn 99 [] [(.ptr 0 0),(.ptr 2 0)])])] (pB Hc) [some (.box 106 [(.rp (aU dl sk dc) 0)]),some (.box 31 [(.p ov)]),some (.box 119 [(.fn 100 [] [(.ptr 4 0),(.ptr 5 0),(.ptr 0 0),(.ptr 2 0)]),(.fn 102 [] [(.ptr 6 0)]),(.fn 103 [] [(.ptr 2 0),(.ptr 1 0)]),(.fn 106 [] [(.ptr 2 0)]),(.fn 104 [] [(.ptr 6 0)])]),some (.mp ((aK Dz)++[((.int .i64 x0),(blP Hc))]) (Dz.length+1)),some (.box 183 [(.mp 3)]),some (.box 115 [(.fn 98 [(.rp (aU dl sk dc) 0)] [])]),some (.box 185 [(.fn 99 [] [(.ptr 0 0),(.ptr 2 0)])])]:=have k1:=fk 8 (aLd dl sk dc x0 x1 x2 x3 x4 x5) rfl;FMM.fi 7 gE func100 [bF,k1.o,.x (.mp (abE dc)),bF,H6.k 1 (gN b9 [7] [(32,99999)]),bF] (gc h6 (gc h5 (gc H6.code (gc h3 (gc h2 (gr (.mp (abE dc)) (gc k1 (gc h1 (gc h0 gn)))))))))
end
section
variable(h0:(i:Int)<(n:Int))(h1:l[i]? = some [Aa,Ab,Ad,Af,Ae,Ag])(h2:uni 6 l)(h3:Ab=5)
include h0 h1 h2 h3
theorem cnt_L0_p0(h4:is=true)(h5:wD dl sk dc ov [Aa,Ab,Ad,Af,Ae,Ag] A8 t T107)(h6:A8=true)(h7:di i)(Ai:i'=(i+1))(A6:aK t'=(aK T107))(A7:t'.length=T107.length):aB Tp 7 iM (cnt_S0 dl sk dc ov x0 x1 x2 x3 x4 x5 is i l n (aK t) t.length) .normal (cnt_S0 dl sk dc ov x0 x1 x2 x3 x4 x5 false i' l n (aK t') t'.length):=by
 subst Ai;have k1:=mq cn 9 h5;rw [A6,A7];exact aB.fi (gN b9 [7] [(9,0)]) ([bT,.x (dcE Aa Ab Ad Af Ae Ag)]++rT 8++[k1.o]++rT 11) (gc h7 (gc h6 (gc (cF h3) (gc h6 (Bf (cF h3) (Bf h6 (gc k1 (Ap h4 (Ho (cF h3) (gfl h2 h1 (g0 h0)))))))))))
theorem cnt_L0_p1(h4:is=true)(h5:wD dl sk dc ov [Aa,Ab,Ad,Af,Ae,Ag] A8 t T107)(h6:A8=false)(h7:di i)(Ai:i'=(i+1))(A6:aK t'=(aK T107))(A7:t'.length=T107.length):aB Tp 7 iM (cnt_S0 dl sk dc ov x0 x1 x2 x3 x4 x5 is i l n (aK t) t.length) .normal (cnt_S0 dl sk dc ov x0 x1 x2 x3 x4 x5 is i' l n (aK t') t'.length):=by
 subst Ai;have k1:=mq cn 9 h5;rw [A6,A7];exact aB.fi (gI b9 [7]) ([bT,.x (dcE Aa Ab Ad Af Ae Ag)]++rT 8++[k1.o]++rF 6) (gc h7 (Ho h6 (gc k1 (Ap h4 (Ho (cF h3) (gfl h2 h1 (g0 h0)))))))
theorem bFp(h4:is=false)(h5:di i)(Ai:i'=(i+1)):aB Tp 7 iM (cnt_S0 dl sk dc ov x0 x1 x2 x3 x4 x5 is i l n (aK t) t.length) .normal (cnt_S0 dl sk dc ov x0 x1 x2 x3 x4 x5 is i' l n (aK t) t.length):=by
 subst Ai;exact aB.fi (gI b9 [7]) ([bT,.x (dcE Aa Ab Ad Af Ae Ag)]++rT 6++[bF,bF]) (gc h5 (Ap h4 (Ho (cF h3) (gfl h2 h1 (g0 h0)))))
end
section
variable(h0:(i:Int)<(n:Int))(h1:l[i]? = some [Aa,Ab,Ad,Af,Ae,Ag])(h2:uni 6 l)(h3:Ab≠5)(h4:Ab=7)(h5:is=true)(h6:(cL x1)=false)(h7:wD dl sk dc ov [Aa,Ab,Ad,Af,Ae,Ag] A8 t T107)
include h0 h1 h2 h3 h4 h5 h6 h7
theorem bFq(h8:A8=true)(h9:bUe dl sk dc ov [Aa,Ab,Ad,Af,Ae,Ag] I5 T107 T109)(A5:I5=true)(Cb:di i)(Ai:i'=(i+1))(A6:aK t'=(aK T109))(A7:t'.length=T109.length):aB Tp 7 iM (cnt_S0 dl sk dc ov x0 x1 x2 x3 x4 x5 is i l n (aK t) t.length) .normal (cnt_S0 dl sk dc ov x0 x1 x2 x3 x4 x5 false i' l n (aK t') t'.length):=by
 subst Ai;have k1:=mq cn 9 h7;have k2:=mq cn 9 h9;rw [A6,A7];exact aB.fi (gN b9 [7] [(9,0)]) ([bT,.x (dcE Aa Ab Ad Af Ae Ag),bF,bF,bF,bF,bT,bT,bT,.c (pB (cL x1)) [],bT,bF,bT,bF]++rT 6++[k1.o]++rT 5++[bF,bF,bF,bF,k2.o,bT,bF,bT,bT]) (gc Cb (gc A5 (gc h8 (gc (bK h3) (gc h8 (gc k2 (Bf (bK h3) (Bf h8 (gc (cA h6) (gc k1 (Bf (cA h6) (Ap h5 (gc (bK h3) (gc (cF h4) (gc (bK h3) (gc (cF h4) (gc (fk 9 (mX x1) rfl) (Aq (cF h4) (Bf (bK h3) (gfl h2 h1 (g0 h0)))))))))))))))))))))
theorem bFr(h8:A8=true)(h9:bUe dl sk dc ov [Aa,Ab,Ad,Af,Ae,Ag] I5 T107 T109)(A5:I5=false)(Cb:di i)(Ai:i'=(i+1))(A6:aK t'=(aK T109))(A7:t'.length=T109.length):aB Tp 7 iM (cnt_S0 dl sk dc ov x0 x1 x2 x3 x4 x5 is i l n (aK t) t.length) .normal (cnt_S0 dl sk dc ov x0 x1 x2 x3 x4 x5 is i' l n (aK t') t'.length):=by
 subst Ai;have k1:=mq cn 9 h7;have k2:=mq cn 9 h9;rw [A6,A7];exact aB.fi (gI b9 [7]) ([bT,.x (dcE Aa Ab Ad Af Ae Ag),bF,bF,bF,bF,bT,bT,bT,.c (pB (cL x1)) [],bT,bF,bT,bF]++rT 6++[k1.o]++rT 5++[bF,bF,bF,bF,k2.o,bT,bF,bT,bF]) (gc Cb (gc A5 (gc h8 (gc (bK h3) (gc h8 (gc k2 (Bf (bK h3) (Bf h8 (gc (cA h6) (gc k1 (Bf (cA h6) (Ap h5 (gc (bK h3) (gc (cF h4) (gc (bK h3) (gc (cF h4) (gc (fk 9 (mX x1) rfl) (Aq (cF h4) (Bf (bK h3) (gfl h2 h1 (g0 h0)))))))))))))))))))))
theorem bFs(h8:A8=false)(h9:di i)(Ai:i'=(i+1))(A6:aK t'=(aK T107))(A7:t'.length=T107.length):aB Tp 7 iM (cnt_S0 dl sk dc ov x0 x1 x2 x3 x4 x5 is i l n (aK t) t.length) .normal (cnt_S0 dl sk dc ov x0 x1 x2 x3 x4 x5 is i' l n (aK t') t'.length):=by
 subst Ai;have k1:=mq cn 9 h7;rw [A6,A7];exact aB.fi (gI b9 [7]) ([bT,.x (dcE Aa Ab Ad Af Ae Ag),bF,bF,bF,bF,bT,bT,bT,.c (pB (cL x1)) [],bT,bF,bT,bF]++rT 6++[k1.o,bT]++rF 6) (gc h9 (Ho h8 (gc (cA h6) (gc k1 (Bf (cA h6) (Ap h5 (gc (bK h3) (gc (cF h4) (gc (bK h3) (gc (cF h4) (gc (fk 9 (mX x1) rfl) (Aq (cF h4) (Bf (bK h3) (gfl h2 h1 (g0 h0)))))))))))))))
end
section
variable(h0:(i:Int)<(n:Int))(h1:l[i]? = some [Aa,Ab,Ad,Af,Ae,Ag])(h2:uni 6 l)(h3:Ab≠5)
include h0 h1 h2 h3
theorem bFt(h4:Ab=7)(h5:is=true)(h6:(cL x1)=true)(h7:di i)(Ai:i'=(i+1)):aB Tp 7 iM (cnt_S0 dl sk dc ov x0 x1 x2 x3 x4 x5 is i l n (aK t) t.length) .normal (cnt_S0 dl sk dc ov x0 x1 x2 x3 x4 x5 is i' l n (aK t) t.length):=by
 subst Ai;exact aB.fi (gI b9 [7]) ([bT,.x (dcE Aa Ab Ad Af Ae Ag),bF,bF,bF,bF,bT,bT,bT,.c (pB (cL x1)) [],bT,bF,bT,bF,bT,bT]++rF 5) (gc h7 (B7 (aH h6) (Ap h5 (gc (bK h3) (gc (cF h4) (gc (bK h3) (gc (cF h4) (gc (fk 9 (mX x1) rfl) (Aq (cF h4) (Bf (bK h3) (gfl h2 h1 (g0 h0))))))))))))
theorem bFu(h4:Ab=7)(h5:is=false)(h6:di i)(Ai:i'=(i+1)):aB Tp 7 iM (cnt_S0 dl sk dc ov x0 x1 x2 x3 x4 x5 is i l n (aK t) t.length) .normal (cnt_S0 dl sk dc ov x0 x1 x2 x3 x4 x5 is i' l n (aK t) t.length):=by
 subst Ai;exact aB.fi (gI b9 [7]) [bT,.x (dcE Aa Ab Ad Af Ae Ag),bF,bF,bF,bF,bT,bT,bT,.c (pB (cL x1)) [],bT,bF,bT,bF,bF,bF] (gc h6 (Ap h5 (gc (bK h3) (gc (cF h4) (gc (bK h3) (gc (cF h4) (gc (fk 9 (mX x1) rfl) (Aq (cF h4) (Bf (bK h3) (gfl h2 h1 (g0 h0)))))))))))
theorem bFv(h4:Ab≠7)(h5:is=true)(h6:di i)(Ai:i'=(i+1)):aB Tp 7 iM (cnt_S0 dl sk dc ov x0 x1 x2 x3 x4 x5 is i l n (aK t) t.length) .normal (cnt_S0 dl sk dc ov x0 x1 x2 x3 x4 x5 is i' l n (aK t) t.length):=by
 subst Ai;exact aB.fi (gI b9 [7]) ([bT,.x (dcE Aa Ab Ad Af Ae Ag)]++rF 11++[bT,bT]) (gc h6 (Ap h5 (gc (bK h3) (gc (bK h4) (gc (bK h3) (Bf (bK h4) (Bf (bK h3) (gfl h2 h1 (g0 h0)))))))))
theorem bFw(h4:Ab≠7)(h5:is=false)(h6:di i)(Ai:i'=(i+1)):aB Tp 7 iM (cnt_S0 dl sk dc ov x0 x1 x2 x3 x4 x5 is i l n (aK t) t.length) .normal (cnt_S0 dl sk dc ov x0 x1 x2 x3 x4 x5 is i' l n (aK t) t.length):=by
 subst Ai;exact aB.fi (gI b9 [7]) ([bT,.x (dcE Aa Ab Ad Af Ae Ag)]++rF 13) (gc h6 (Ap h5 (gc (bK h3) (gc (bK h4) (gc (bK h3) (Bf (bK h4) (Bf (bK h3) (gfl h2 h1 (g0 h0)))))))))
end
theorem aVj(h0:(n:Int)≤(i:Int)):aB Tp 7 iM (cnt_S0 dl sk dc ov x0 x1 x2 x3 x4 x5 is i l n (aK t) t.length) (.exit 0) (cnt_S0 dl sk dc ov x0 x1 x2 x3 x4 x5 is i l n (aK t) t.length):=aB.fi (gI b9 [7]) [bF] (gc (aQ h0) gn)
theorem bNo(h0:cBk 101 dl sk dc ov [x0,x1,x2,x3,x4,x5] [z0,z1,z2,z3,z4,z5] b6 T T7):FMM Tp 102 [(.p (dcE x0 x1 x2 x3 x4 x5)),(.ptr 6 0)] [some (.box 106 [(.rp (aU dl sk dc) 0)]),some (.box 31 [(.p ov)]),some (.box 119 [(.fn 100 [] [(.ptr 4 0),(.ptr 5 0),(.ptr 0 0),(.ptr 2 0)]),(.fn 102 [] [(.ptr 6 0)]),(.fn 103 [] [(.ptr 2 0),(.ptr 1 0)]),(.fn 106 [] [(.ptr 2 0)]),(.fn 104 [] [(.ptr 6 0)])]),some (.mp (aK T) T.length),some (.box 183 [(.mp 3)]),some (.box 115 [(.fn 98 [(.rp (aU dl sk dc) 0)] [])]),some (.box 185 [(.fn 99 [] [(.ptr 0 0),(.ptr 2 0)])])] (.tup [(.p (dcE z0 z1 z2 z3 z4 z5)),(pB b6)]) [some (.box 106 [(.rp (aU dl sk dc) 0)]),some (.box 31 [(.p ov)]),some (.box 119 [(.fn 100 [] [(.ptr 4 0),(.ptr 5 0),(.ptr 0 0),(.ptr 2 0)]),(.fn 102 [] [(.ptr 6 0)]),(.fn 103 [] [(.ptr 2 0),(.ptr 1 0)]),(.fn 106 [] [(.ptr 2 0)]),(.fn 104 [] [(.ptr 6 0)])]),some (.mp (aK T7) T7.length),some (.box 183 [(.mp 3)]),some (.box 115 [(.fn 98 [(.rp (aU dl sk dc) 0)] [])]),some (.box 185 [(.fn 99 [] [(.ptr 0 0),(.ptr 2 0)])])]:=have k1:=mq cn 9 h0;FMM.fi 7 gE func102 [k1.o] (gc k1 gn)
theorem bNp(h0:cBk 105 dl sk dc ov [x0,x1,x2,x3,x4,x5] [z0,z1,z2,z3,z4,z5] b6 T T7):FMM Tp 104 [(.p (dcE x0 x1 x2 x3 x4 x5)),(.ptr 6 0)] [some (.box 106 [(.rp (aU dl sk dc) 0)]),some (.box 31 [(.p ov)]),some (.box 119 [(.fn 100 [] [(.ptr 4 0),(.ptr 5 0),(.ptr 0 0),(.ptr 2 0)]),(.fn 102 [] [(.ptr 6 0)]),(.fn 103 [] [(.ptr 2 0),(.ptr 1 0)]),(.fn 106 [] [(.ptr 2 0)]),(.fn 104 [] [(.ptr 6 0)])]),some (.mp (aK T) T.length),some (.box 183 [(.mp 3)]),some (.box 115 [(.fn 98 [(.rp (aU dl sk dc) 0)] [])]),some (.box 185 [(.fn 99 [] [(.ptr 0 0),(.ptr 2 0)])])] (.tup [(.p (dcE z0 z1 z2 z3 z4 z5)),(pB b6)]) [some (.box 106 [(.rp (aU dl sk dc) 0)]),some (.box 31 [(.p ov)]),some (.box 119 [(.fn 100 [] [(.ptr 4 0),(.ptr 5 0),(.ptr 0 0),(.ptr 2 0)]),(.fn 102 [] [(.ptr 6 0)]),(.fn 103 [] [(.ptr 2 0),(.ptr 1 0)]),(.fn 106 [] [(.ptr 2 0)]),(.fn 104 [] [(.ptr 6 0)])]),some (.mp (aK T7) T7.length),some (.box 183 [(.mp 3)]),some (.box 115 [(.fn 98 [(.rp (aU dl sk dc) 0)] [])]),some (.box 185 [(.fn 99 [] [(.ptr 0 0),(.ptr 2 0)])])]:=have k1:=mq cn 9 h0;FMM.fi 7 gE func104 [k1.o] (gc k1 gn)
section
variable(h0:cBl dl sk dc ov [x0,x1,x2,x3,x4,x5] [z0,z1,z2,z3,z4,z5] b6 T T7)
include h0
theorem cBv(h1:b6=true)(Ak:r0=(z1 == 8)):FMM Tp 103 [(.p (dcE x0 x1 x2 x3 x4 x5)),(.ptr 2 0),(.ptr 1 0)] [some (.box 106 [(.rp (aU dl sk dc) 0)]),some (.box 31 [(.p ov)]),some (.box 119 [(.fn 100 [] [(.ptr 4 0),(.ptr 5 0),(.ptr 0 0),(.ptr 2 0)]),(.fn 102 [] [(.ptr 6 0)]),(.fn 103 [] [(.ptr 2 0),(.ptr 1 0)]),(.fn 106 [] [(.ptr 2 0)]),(.fn 104 [] [(.ptr 6 0)])]),some (.mp (aK T) T.length),some (.box 183 [(.mp 3)]),some (.box 115 [(.fn 98 [(.rp (aU dl sk dc) 0)] [])]),some (.box 185 [(.fn 99 [] [(.ptr 0 0),(.ptr 2 0)])])] (pB r0) [some (.box 106 [(.rp (aU dl sk dc) 0)]),some (.box 31 [(.p ov)]),some (.box 119 [(.fn 100 [] [(.ptr 4 0),(.ptr 5 0),(.ptr 0 0),(.ptr 2 0)]),(.fn 102 [] [(.ptr 6 0)]),(.fn 103 [] [(.ptr 2 0),(.ptr 1 0)]),(.fn 106 [] [(.ptr 2 0)]),(.fn 104 [] [(.ptr 6 0)])]),some (.mp (aK T7) T7.length),some (.box 183 [(.mp 3)]),some (.box 115 [(.fn 98 [(.rp (aU dl sk dc) 0)] [])]),some (.box 185 [(.fn 99 [] [(.ptr 0 0),(.ptr 2 0)])])]:=by
 subst Ak;have k1:=mq cn 8 h0;exact FMM.fi 7 gE func103 [k1.o,bT] (gc h1 (gc k1 gn))
theorem cBw{b8:Bool}(h1:b6=false)(h2:aAn ov x0 b8):FMM Tp 103 [(.p (dcE x0 x1 x2 x3 x4 x5)),(.ptr 2 0),(.ptr 1 0)] [some (.box 106 [(.rp (aU dl sk dc) 0)]),some (.box 31 [(.p ov)]),some (.box 119 [(.fn 100 [] [(.ptr 4 0),(.ptr 5 0),(.ptr 0 0),(.ptr 2 0)]),(.fn 102 [] [(.ptr 6 0)]),(.fn 103 [] [(.ptr 2 0),(.ptr 1 0)]),(.fn 106 [] [(.ptr 2 0)]),(.fn 104 [] [(.ptr 6 0)])]),some (.mp (aK T) T.length),some (.box 183 [(.mp 3)]),some (.box 115 [(.fn 98 [(.rp (aU dl sk dc) 0)] [])]),some (.box 185 [(.fn 99 [] [(.ptr 0 0),(.ptr 2 0)])])] (pB b8) [some (.box 106 [(.rp (aU dl sk dc) 0)]),some (.box 31 [(.p ov)]),some (.box 119 [(.fn 100 [] [(.ptr 4 0),(.ptr 5 0),(.ptr 0 0),(.ptr 2 0)]),(.fn 102 [] [(.ptr 6 0)]),(.fn 103 [] [(.ptr 2 0),(.ptr 1 0)]),(.fn 106 [] [(.ptr 2 0)]),(.fn 104 [] [(.ptr 6 0)])]),some (.mp (aK T7) T7.length),some (.box 183 [(.mp 3)]),some (.box 115 [(.fn 98 [(.rp (aU dl sk dc) 0)] [])]),some (.box 185 [(.fn 99 [] [(.ptr 0 0),(.ptr 2 0)])])]:=have k1:=mq cn 8 h0;FMM.fi 7 gE func103 [k1.o,bF,.c (pB b8) []] (gc (fk 9 (h2 _) rfl) (gc h1 (gc k1 gn)))
end
section
variable(h0:cBm dl sk dc ov [x0,x1,x2,x3,x4,x5] [z0,z1,z2,z3,z4,z5] b6 T T7)
include h0
theorem cBx{m8:Int}{T9:Lqb}(h1:b6=true)(h2:aAm dl sk dc ov [z0,z1,z2,z3,z4,z5] m8 T7 T9):FMM Tp 106 [(.p (dcE x0 x1 x2 x3 x4 x5)),(.ptr 2 0)] [some (.box 106 [(.rp (aU dl sk dc) 0)]),some (.box 31 [(.p ov)]),some (.box 119 [(.fn 100 [] [(.ptr 4 0),(.ptr 5 0),(.ptr 0 0),(.ptr 2 0)]),(.fn 102 [] [(.ptr 6 0)]),(.fn 103 [] [(.ptr 2 0),(.ptr 1 0)]),(.fn 106 [] [(.ptr 2 0)]),(.fn 104 [] [(.ptr 6 0)])]),some (.mp (aK T) T.length),some (.box 183 [(.mp 3)]),some (.box 115 [(.fn 98 [(.rp (aU dl sk dc) 0)] [])]),some (.box 185 [(.fn 99 [] [(.ptr 0 0),(.ptr 2 0)])])] (pI m8) [some (.box 106 [(.rp (aU dl sk dc) 0)]),some (.box 31 [(.p ov)]),some (.box 119 [(.fn 100 [] [(.ptr 4 0),(.ptr 5 0),(.ptr 0 0),(.ptr 2 0)]),(.fn 102 [] [(.ptr 6 0)]),(.fn 103 [] [(.ptr 2 0),(.ptr 1 0)]),(.fn 106 [] [(.ptr 2 0)]),(.fn 104 [] [(.ptr 6 0)])]),some (.mp (aK T9) T9.length),some (.box 183 [(.mp 3)]),some (.box 115 [(.fn 98 [(.rp (aU dl sk dc) 0)] [])]),some (.box 185 [(.fn 99 [] [(.ptr 0 0),(.ptr 2 0)])])]:=have k1:=mq cn 8 h0;have k2:=mq cn 9 h2;FMM.fi 7 gE func106 [k1.o,bT,k2.o] (gc k2 (gc h1 (gc k1 gn)))
theorem cBy(h1:b6=false):FMM Tp 106 [(.p (dcE x0 x1 x2 x3 x4 x5)),(.ptr 2 0)] [some (.box 106 [(.rp (aU dl sk dc) 0)]),some (.box 31 [(.p ov)]),some (.box 119 [(.fn 100 [] [(.ptr 4 0),(.ptr 5 0),(.ptr 0 0),(.ptr 2 0)]),(.fn 102 [] [(.ptr 6 0)]),(.fn 103 [] [(.ptr 2 0),(.ptr 1 0)]),(.fn 106 [] [(.ptr 2 0)]),(.fn 104 [] [(.ptr 6 0)])]),some (.mp (aK T) T.length),some (.box 183 [(.mp 3)]),some (.box 115 [(.fn 98 [(.rp (aU dl sk dc) 0)] [])]),some (.box 185 [(.fn 99 [] [(.ptr 0 0),(.ptr 2 0)])])] (pI x4) [some (.box 106 [(.rp (aU dl sk dc) 0)]),some (.box 31 [(.p ov)]),some (.box 119 [(.fn 100 [] [(.ptr 4 0),(.ptr 5 0),(.ptr 0 0),(.ptr 2 0)]),(.fn 102 [] [(.ptr 6 0)]),(.fn 103 [] [(.ptr 2 0),(.ptr 1 0)]),(.fn 106 [] [(.ptr 2 0)]),(.fn 104 [] [(.ptr 6 0)])]),some (.mp (aK T7) T7.length),some (.box 183 [(.mp 3)]),some (.box 115 [(.fn 98 [(.rp (aU dl sk dc) 0)] [])]),some (.box 185 [(.fn 99 [] [(.ptr 0 0),(.ptr 2 0)])])]:=have k1:=mq cn 8 h0;FMM.fi 7 gE func106 [k1.o,bF] (gc h1 (gc k1 gn))
end
theorem bUo:FMM Tp 54 [(.rp (aU dl sk dc) 0),(.p cX)] [] (.agg [(.fn 100 [] [(.ptr 4 0),(.ptr 5 0),(.ptr 0 0),(.ptr 2 0)]),(.fn 102 [] [(.ptr 6 0)]),(.fn 103 [] [(.ptr 2 0),(.ptr 1 0)]),(.fn 106 [] [(.ptr 2 0)]),(.fn 104 [] [(.ptr 6 0)])]) [some (.box 106 [(.rp (aU dl sk dc) 0)]),some (.box 31 [(.p cX)]),some (.box 119 [(.fn 100 [] [(.ptr 4 0),(.ptr 5 0),(.ptr 0 0),(.ptr 2 0)]),(.fn 102 [] [(.ptr 6 0)]),(.fn 103 [] [(.ptr 2 0),(.ptr 1 0)]),(.fn 106 [] [(.ptr 2 0)]),(.fn 104 [] [(.ptr 6 0)])]),some (.mp [] 0),some (.box 183 [(.mp 3)]),some (.box 115 [(.fn 98 [(.rp (aU dl sk dc) 0)] [])]),some (.box 185 [(.fn 99 [] [(.ptr 0 0),(.ptr 2 0)])])]:=FMM.fi 0 ⟨[],[0,1,3,4,5,6,7],[],[]⟩ func54 [] gn
end
section
section
variable {dc:Lqq}
theorem aKz(h:dA dc){n:Int}(hn:1≤n∧n≤9999):cJ .i64 (abE dc) (.int .i64 n):=by
 have ha:=aVm h;refine ⟨fun e he => ?_,nI (by omega),?_⟩
 ·obtain ⟨p,hp,rfl⟩:=Bi.1 he
  obtain ⟨q1,q2,q3⟩:=ha.mem p hp;cases hx:p.2 with
  | nil=>exact absurd hx q2
  | cons x r =>
   have:x∈dc.reverse.filter fun x=>dAb x == p.1:=by rw [← q3,hx];exact gO ..
   obtain ⟨h1,h2⟩:=sP.1 this;have:=yG h x (bDn.1 h1);have h2:dAb x=p.1:=by simpa using h2
   exact nI (by omega)
 ·have:(abE dc).map (fun e=>jX e.1)=(abM dc).map (·.1):=by
   unfold abE;rw [sQ];rfl
  rw [this];exact ha.nd
theorem aLa(h:dA dc){n:Int}(hn:0<n):(eD (abE dc) (.int .i64 n)=true∧jG (abE dc) (.int .i64 n)=some (.sl (bR dc n).length ((bR dc n).flatten.map aA)))∨(eD (abE dc) (.int .i64 n)=false∧bR dc n=[]):=by
 have ha:=aVm h;have e1:eD (abE dc) (.int .i64 n)=(abM dc).any fun e=>e.1 == n:=by
  unfold eD abE;rw [List.any_map]
  congr 1
 have e2:jG (abE dc) (.int .i64 n)=((abM dc).find? fun e=>e.1 == n).map fun e => .sl e.2.length (e.2.flatten.map aA):=by
  unfold jG abE;generalize abM dc=L
  induction L with
  | nil=>rfl
  | cons p L ih =>
   rw [iK,List.find?_cons,List.find?_cons];have e:(decide (jX (((Value.int IntKind.i64 p.1),PV.sl p.2.length (p.2.flatten.map aA)):Value × PV).1=jX (Value.int IntKind.i64 n)))=(p.1 == n):=by
    show decide (p.1=n)=(p.1 == n);rw [Bool.eq_iff_iff];simp
   rw [e];cases p.1 == n with
   | true=>rfl
   | false=>exact ih
 rw [e1,e2];cases hf:(abM dc).find? fun e=>e.1 == n with
 | some e =>
  have h1:=aAh hf;have h2:e.1=n:=by simpa using bDo hf
  obtain ⟨q1,q2,q3⟩:=ha.mem e h1;refine .inl ⟨List.any_eq_true.2 ⟨e,h1,by simpa using h2⟩,?_⟩
  have:e.2=bR dc n:=by rw [q3,h2];rfl
  rw [Option.map_some,this]
 | none =>
  refine .inr ⟨?_,?_⟩
  ·rw [List.any_eq_false]
   intro e he;exact aCx.1 hf e he
  ·rw [← bNu h hn]
   unfold zS;rw [hf]
theorem iX(h:dA dc)(n:Int):uni 6 (bR dc n):=fun y hy=>h.ud y (eH hy).1
theorem yE(h:dA dc)(n:Int):(bR dc n).length≤1000:=by
 have:=aTv (fun x=>dAb x == n) dc.reverse
 have h2:=h.len;rw [List.length_reverse] at this
 unfold bR;omega
theorem bAk{α:Type}{p:α→Bool}{l:List α}{i:Nat}{x:α}(hi:l[i]? = some x)(hp:p x=true)(hj:∀ j y,j<i→l[j]? = some y→p y=false):l.find? p=some x:=by
 obtain ⟨h1,h2⟩:=Bg.1 hi;rw [List.find?_eq_some_iff_getElem];exact ⟨hp,i,h1,h2,fun j h=>by
  rw [hj j l[j] h (An (by omega))];rfl⟩
end
def H3:List Int:=[0,0,0,0,0,0]
section
variable (dl:Int) (sk dc:Lqq) (oc:List Int) (ov:PV)
def pR(x:List Int):Prop:=∀ T,cK dl oc dc T→∃ T',cK dl oc dc T'∧wD dl sk dc ov x (dM dl oc dc x) T T'
def bXv(g:Nat)(q:List Int→Bool)(x:List Int):Prop:=∀ T,cK dl oc dc T→∃ T',cK dl oc dc T'∧cBk g dl sk dc ov x (((bR dc (dN x)).find? fun y=>q y && dM dl oc dc y).getD H3) ((bR dc (dN x)).find? fun y=>q y && dM dl oc dc y).isSome T T'
def cFs(x:List Int):Prop:=∀ T,cK dl oc dc T→∃ T',cK dl oc dc T'∧cBl dl sk dc ov x ((aLe dl oc dc x).getD H3) (aLe dl oc dc x).isSome T T'
def bXw(x:List Int):Prop:=∀ T,cK dl oc dc T→∃ T',cK dl oc dc T'∧cBm dl sk dc ov x ((aLf dl oc dc x).getD H3) (aLf dl oc dc x).isSome T T'
def bAl(x:List Int):Prop:=∀ T,cK dl oc dc T→∃ T',cK dl oc dc T'∧bUe dl sk dc ov x (aGc dl oc dc x) T T'
def bXx(x:List Int):Prop:=∀ T,cK dl oc dc T→∃ T',cK dl oc dc T'∧aAm dl sk dc ov x (oK dl oc dc x) T T'
end
section
variable {dl:Int} {sk dc:Lqq} {oc:List Int} {ov:PV}
theorem bFn(l:Lqq)(hu:uni 6 l)(hl:l.length≤1000)(hC:∀ y∈l,pR dl sk dc oc ov y)(T:Lqb)(hT:cK dl oc dc T) :
  (∃ i T' y,l[i]? = some y∧(cL (dK y) && dM dl oc dc y)=true∧(∀ j z,j<i→l[j]? = some z→(cL (dK z) && dM dl oc dc z)=false)∧cK dl oc dc T'∧aE Tp 7 (sub (cd Tryz.f99) db) (dG dl sk dc ov 0 l l.length (aK T) T.length 0 0 0 0 0 0) .ret (bZ (dG dl sk dc ov i l l.length (aK T') T'.length (y.getD 0 0) (y.getD 1 0) (y.getD 2 0) (y.getD 3 0) (y.getD 4 0) (y.getD 5 0)) [(7,.kb true)])) ∨
  ((l.find? fun y=>cL (dK y) && dM dl oc dc y)=none∧∃ T',cK dl oc dc T'∧aE Tp 7 (sub (cd Tryz.f99) db) (dG dl sk dc ov 0 l l.length (aK T) T.length 0 0 0 0 0 0) (.exit 0) (dG dl sk dc ov l.length l l.length (aK T') T'.length 0 0 0 0 0 0)):=by
 have hx:∀ i,i<l.length→∃ a b c d e f,l[i]? = some [a,b,c,d,e,f]∧l.getD i []=[a,b,c,d,e,f]∧[a,b,c,d,e,f]∈l:=fun i hi=>by
  obtain ⟨a,b,c,d,e,f,h⟩:=Bp (hu _ (eE hi));have h1:l[i]? = some [a,b,c,d,e,f]:=by rw [An hi,h]
  exact ⟨a,b,c,d,e,f,h1,by rw [Bj,h1];rfl,Br h1⟩
 rcases aE.exF (P:=Tp) (k:=7) (b:=sub (cd Tryz.f99) db) (e1 := .ret) (e2 := .exit 0) (fun i T=>dG dl sk dc ov i l l.length (aK T) T.length 0 0 0 0 0 0)
  (fun i T=>bZ (dG dl sk dc ov i l l.length (aK T) T.length ((l.getD i []).getD 0 0) ((l.getD i []).getD 1 0) ((l.getD i []).getD 2 0) ((l.getD i []).getD 3 0) ((l.getD i []).getD 4 0) ((l.getD i []).getD 5 0)) [(7,.kb true)])
  (fun T=>dG dl sk dc ov l.length l l.length (aK T) T.length 0 0 0 0 0 0) (cK dl oc dc) (by simp) (by simp) (fun i=>cL (dK (l.getD i [])) && dM dl oc dc (l.getD i [])) l.length
  (fun i T1 hi h1 hp=>by
   obtain ⟨a,b,c,d,e,f,g1,g2,g3⟩:=hx i hi;rw [g2] at hp
   cases hq:cL b with
   | false=>exact ⟨T1,h1,aVd (by omega) g1 hu hq (aM (by omega)) rfl⟩
   | true =>
    have hp:(cL b && dM dl oc dc [a,b,c,d,e,f])=false:=hp;rw [hq,iL] at hp
    obtain ⟨T2,h2,c2⟩:=hC _ g3 T1 h1;rw [hp] at c2
    exact ⟨T2,h2,aVc (by omega) g1 hu hq c2 rfl (aM (by omega)) rfl rfl rfl⟩)
  (fun i T1 hi h1 hp=>by
   obtain ⟨a,b,c,d,e,f,g1,g2,g3⟩:=hx i hi;rw [g2] at hp ⊢
   rw [Bw] at hp
   obtain ⟨T2,h2,c2⟩:=hC _ g3 T1 h1;rw [hp.2] at c2
   exact ⟨T2,h2,aVb (by omega) g1 hu hp.1 c2 rfl rfl rfl⟩)
  (fun T1 h1=>aVe (by omega)) hT with ⟨i,T',h1,h2,h3,h4,h5⟩ | ⟨h1,T',h2,h3⟩
 ·obtain ⟨a,b,c,d,e,f,g1,g2,g3⟩:=hx i h1
  rw [g2] at h2 h5
  refine .inl ⟨i,T',_,g1,h2,fun j z hj hz => ?_,h4,h5⟩
  have:=h3 j hj;rw [Bj,hz] at this
  exact this
 ·refine .inr ⟨?_,T',h2,h3⟩
  rw [aCx];intro y hy;obtain ⟨i,hi,rfl⟩:=List.mem_iff_getElem.1 hy;have:=h1 i hi;rw [Bj,An hi] at this
  simpa using this
theorem bUb(hd:dA dc){x:List Int}(hx:x∈dc)(hC:∀ y∈bR dc (dN x),pR dl sk dc oc ov y):bXv dl sk dc oc ov 101 (fun y=>cL (dK y)) x:=fun T hT=>by
 have hn:=jP hd hx;have hk:=aKz hd hn;have hL:=bFn (bR dc (dN x)) (iX hd _) (yE hd _) hC T hT;obtain ⟨x0,x1,x2,x3,x4,x5,rfl⟩:=Bp (hd.ud x hx)
 rcases aLa hd (n:=dN [x0,x1,x2,x3,x4,x5]) (by omega) with ⟨h1,h2⟩ | ⟨h1,h2⟩
 ·rcases hL with ⟨i,T',y,q1,q2,q3,q4,q5⟩ | ⟨q1,T',q2,q3⟩
  ·have hf:=bAk (p:=fun y=>cL (dK y) && dM dl oc dc y) q1 q2 q3
   rw [hf];obtain ⟨a,b,c,d,e,f,rfl⟩:=Bp (iX hd _ _ (Br q1));exact ⟨T',q4,bUj hk h1 h2 q5⟩
  ·rw [q1]
   exact ⟨T',q2,bUi hk h1 h2 q3⟩
 ·rw [h2] at hL ⊢
  rcases hL with ⟨i,T',y,q1,q2,q3,q4,q5⟩ | ⟨q1,T',q2,q3⟩
  ·simp at q1
  ·exact ⟨T',q2,bUk hk h1 q3⟩
theorem bFo(l:Lqq)(hu:uni 6 l)(hl:l.length≤1000)(hC:∀ y∈l,pR dl sk dc oc ov y)(T:Lqb)(hT:cK dl oc dc T) :
  (∃ i T' y,l[i]? = some y∧(dK y == 6 && dM dl oc dc y)=true∧(∀ j z,j<i→l[j]? = some z→(dK z == 6 && dM dl oc dc z)=false)∧cK dl oc dc T'∧aE Tp 7 (sub (cd Tryz.f99) db) (dH dl sk dc ov 0 l l.length (aK T) T.length 0 0 0 0 0 0) .ret (bZ (dH dl sk dc ov i l l.length (aK T') T'.length (y.getD 0 0) (y.getD 1 0) (y.getD 2 0) (y.getD 3 0) (y.getD 4 0) (y.getD 5 0)) [(7,.kb true)])) ∨
  ((l.find? fun y=>dK y == 6 && dM dl oc dc y)=none∧∃ T',cK dl oc dc T'∧aE Tp 7 (sub (cd Tryz.f99) db) (dH dl sk dc ov 0 l l.length (aK T) T.length 0 0 0 0 0 0) (.exit 0) (dH dl sk dc ov l.length l l.length (aK T') T'.length 0 0 0 0 0 0)):=by
 have hx:∀ i,i<l.length→∃ a b c d e f,l[i]? = some [a,b,c,d,e,f]∧l.getD i []=[a,b,c,d,e,f]∧[a,b,c,d,e,f]∈l:=fun i hi=>by
  obtain ⟨a,b,c,d,e,f,h⟩:=Bp (hu _ (eE hi));have h1:l[i]? = some [a,b,c,d,e,f]:=by rw [An hi,h]
  exact ⟨a,b,c,d,e,f,h1,by rw [Bj,h1];rfl,Br h1⟩
 rcases aE.exF (P:=Tp) (k:=7) (b:=sub (cd Tryz.f99) db) (e1 := .ret) (e2 := .exit 0) (fun i T=>dH dl sk dc ov i l l.length (aK T) T.length 0 0 0 0 0 0)
  (fun i T=>bZ (dH dl sk dc ov i l l.length (aK T) T.length ((l.getD i []).getD 0 0) ((l.getD i []).getD 1 0) ((l.getD i []).getD 2 0) ((l.getD i []).getD 3 0) ((l.getD i []).getD 4 0) ((l.getD i []).getD 5 0)) [(7,.kb true)])
  (fun T=>dH dl sk dc ov l.length l l.length (aK T) T.length 0 0 0 0 0 0) (cK dl oc dc) (by simp) (by simp) (fun i=>dK (l.getD i []) == 6 && dM dl oc dc (l.getD i [])) l.length
  (fun i T1 hi h1 hp=>by
   obtain ⟨a,b,c,d,e,f,g1,g2,g3⟩:=hx i hi;rw [g2] at hp
   cases hq:(b == 6) with
   | false=>exact ⟨T1,h1,aVh (by omega) g1 hu hq (aM (by omega)) rfl⟩
   | true =>
    have hp:((b == 6) && dM dl oc dc [a,b,c,d,e,f])=false:=hp;rw [hq,iL] at hp
    obtain ⟨T2,h2,c2⟩:=hC _ g3 T1 h1;rw [hp] at c2
    exact ⟨T2,h2,aVg (by omega) g1 hu hq c2 rfl (aM (by omega)) rfl rfl rfl⟩)
  (fun i T1 hi h1 hp=>by
   obtain ⟨a,b,c,d,e,f,g1,g2,g3⟩:=hx i hi;rw [g2] at hp ⊢
   rw [Bw] at hp
   obtain ⟨T2,h2,c2⟩:=hC _ g3 T1 h1;rw [hp.2] at c2
   exact ⟨T2,h2,aVf (by omega) g1 hu hp.1 c2 rfl rfl rfl⟩)
  (fun T1 h1=>aVi (by omega)) hT with ⟨i,T',h1,h2,h3,h4,h5⟩ | ⟨h1,T',h2,h3⟩
 ·obtain ⟨a,b,c,d,e,f,g1,g2,g3⟩:=hx i h1
  rw [g2] at h2 h5
  refine .inl ⟨i,T',_,g1,h2,fun j z hj hz => ?_,h4,h5⟩
  have:=h3 j hj;rw [Bj,hz] at this
  exact this
 ·refine .inr ⟨?_,T',h2,h3⟩
  rw [aCx];intro y hy;obtain ⟨i,hi,rfl⟩:=List.mem_iff_getElem.1 hy;have:=h1 i hi;rw [Bj,An hi] at this
  simpa using this
theorem bUc(hd:dA dc){x:List Int}(hx:x∈dc)(hC:∀ y∈bR dc (dN x),pR dl sk dc oc ov y):bXv dl sk dc oc ov 105 (fun y=>dK y == 6) x:=fun T hT=>by
 have hn:=jP hd hx;have hk:=aKz hd hn;have hL:=bFo (bR dc (dN x)) (iX hd _) (yE hd _) hC T hT;obtain ⟨x0,x1,x2,x3,x4,x5,rfl⟩:=Bp (hd.ud x hx)
 rcases aLa hd (n:=dN [x0,x1,x2,x3,x4,x5]) (by omega) with ⟨h1,h2⟩ | ⟨h1,h2⟩
 ·rcases hL with ⟨i,T',y,q1,q2,q3,q4,q5⟩ | ⟨q1,T',q2,q3⟩
  ·have hf:=bAk (p:=fun y=>dK y == 6 && dM dl oc dc y) q1 q2 q3
   rw [hf];obtain ⟨a,b,c,d,e,f,rfl⟩:=Bp (iX hd _ _ (Br q1));exact ⟨T',q4,bUm hk h1 h2 q5⟩
  ·rw [q1]
   exact ⟨T',q2,bUl hk h1 h2 q3⟩
 ·rw [h2] at hL ⊢
  rcases hL with ⟨i,T',y,q1,q2,q3,q4,q5⟩ | ⟨q1,T',q2,q3⟩
  ·simp at q1
  ·exact ⟨T',q2,bUn hk h1 q3⟩

theorem cBf(hd:dA dc){x:List Int}(hx:x∈dc)(hC:∀ y∈bR dc (dN x),pR dl sk dc oc ov y):cFs dl sk dc oc ov x:=fun T hT=>by
 obtain ⟨T',h1,h2⟩:=bUb hd hx hC T hT;rw [← aLg hd hx] at h2
 obtain ⟨x0,x1,x2,x3,x4,x5,rfl⟩:=Bp (hd.ud x hx);have hz:∀ z,aLe dl oc dc [x0,x1,x2,x3,x4,x5]=some z→z.length=6:=fun z hz=>by
  rw [aLg hd hx] at hz
  exact iX hd _ z (aAh hz)
 cases hr:aLe dl oc dc [x0,x1,x2,x3,x4,x5] with
 | none =>
  rw [hr] at h2
  exact ⟨T',h1,bNo (z0:=0) (z1:=0) (z2:=0) (z3:=0) (z4:=0) (z5:=0) h2⟩
 | some z =>
  obtain ⟨a,b,c,d,e,f,rfl⟩:=Bp (hz z hr);rw [hr] at h2
  exact ⟨T',h1,bNo h2⟩
theorem cBg(hd:dA dc){x:List Int}(hx:x∈dc)(hC:∀ y∈bR dc (dN x),pR dl sk dc oc ov y):bXw dl sk dc oc ov x:=fun T hT=>by
 obtain ⟨T',h1,h2⟩:=bUc hd hx hC T hT;rw [← aDr hd hx] at h2
 obtain ⟨x0,x1,x2,x3,x4,x5,rfl⟩:=Bp (hd.ud x hx);have hz:∀ z,aLf dl oc dc [x0,x1,x2,x3,x4,x5]=some z→z.length=6:=fun z hz=>by
  rw [aDr hd hx] at hz
  exact iX hd _ z (aAh hz)
 cases hr:aLf dl oc dc [x0,x1,x2,x3,x4,x5] with
 | none =>
  rw [hr] at h2
  exact ⟨T',h1,bNp (z0:=0) (z1:=0) (z2:=0) (z3:=0) (z4:=0) (z5:=0) h2⟩
 | some z =>
  obtain ⟨a,b,c,d,e,f,rfl⟩:=Bp (hz z hr);rw [hr] at h2
  exact ⟨T',h1,bNp h2⟩
theorem bNl(hd:dA dc)(hov:∀ n,aAn ov n (oc.contains n)){x:List Int}(hx:x∈dc)(hC:∀ y∈bR dc (dN x),pR dl sk dc oc ov y):bAl dl sk dc oc ov x:=fun T hT=>by
 obtain ⟨T',h1,h2⟩:=cBf hd hx hC T hT;rw [cCb hd hx];obtain ⟨x0,x1,x2,x3,x4,x5,rfl⟩:=Bp (hd.ud x hx);have hz:∀ z,aLe dl oc dc [x0,x1,x2,x3,x4,x5]=some z→z.length=6:=fun z hz=>by
  rw [aLg hd hx] at hz
  exact iX hd _ z (aAh hz)
 cases hr:aLe dl oc dc [x0,x1,x2,x3,x4,x5] with
 | none =>
  rw [hr] at h2
  exact ⟨T',h1,cBw (z0:=0) (z1:=0) (z2:=0) (z3:=0) (z4:=0) (z5:=0) h2 rfl (hov _)⟩
 | some z =>
  obtain ⟨a,b,c,d,e,f,rfl⟩:=Bp (hz z hr);rw [hr] at h2
  exact ⟨T',h1,cBv h2 rfl rfl⟩
abbrev pG(dl:Int)(oc:List Int)(dc:Lqq)(x y:List Int):Bool:=wE x y && dM dl oc dc y && (dK y == 5 || aGc dl oc dc y)
theorem bNm{x0 x1 x2 x3 x4 x5:Int}(hd:dA dc)(l:Lqq)(hu:uni 6 l)(hl:l.length≤1000)(hC:∀ y∈l,pR dl sk dc oc ov y)(hU:∀ y∈l,bAl dl sk dc oc ov y)(T:Lqb)(hT:cK dl oc dc T)(is:Bool) :
  ∃ T',cK dl oc dc T'∧aE Tp 7 (sub (cd Tryz.f100) ck) (cnt_S0 dl sk dc ov x0 x1 x2 x3 x4 x5 is 0 l l.length (aK T) T.length) (.exit 0) (cnt_S0 dl sk dc ov x0 x1 x2 x3 x4 x5 (is && !(l.any (pG dl oc dc [x0,x1,x2,x3,x4,x5]))) l.length l l.length (aK T') T'.length):=by
 have hx:∀ i,i<l.length→∃ a b c d e f,l[i]? = some [a,b,c,d,e,f]∧[a,b,c,d,e,f]∈l:=fun i hi=>by
  obtain ⟨a,b,c,d,e,f,h⟩:=Bp (hu _ (eE hi));have h1:l[i]? = some [a,b,c,d,e,f]:=by rw [An hi,h]
  exact ⟨a,b,c,d,e,f,h1,Br h1⟩
 have et:∀ i y,l[i]? = some y→(l.take (i+1)).any (pG dl oc dc [x0,x1,x2,x3,x4,x5])=((l.take i).any (pG dl oc dc [x0,x1,x2,x3,x4,x5]) || pG dl oc dc [x0,x1,x2,x3,x4,x5] y):=fun i y h=>by
  rw [List.take_add_one,h,List.any_append];simp
 obtain ⟨acc, ⟨h1,h2⟩,h3⟩:=aE.ex (P:=Tp) (k:=7) (b:=sub (cd Tryz.f100) ck) (e := .exit 0) (fun i (a:Bool × Lqb)=>cnt_S0 dl sk dc ov x0 x1 x2 x3 x4 x5 a.1 i l l.length (aK a.2) a.2.length)
  (fun a=>cnt_S0 dl sk dc ov x0 x1 x2 x3 x4 x5 a.1 l.length l l.length (aK a.2) a.2.length) (fun i a=>cK dl oc dc a.2∧a.1=(is && !((l.take i).any (pG dl oc dc [x0,x1,x2,x3,x4,x5])))) (by simp) l.length
  (fun i acc hi hI=>by
   obtain ⟨b,T1⟩:=acc;obtain ⟨h1,h2⟩:=hI;dsimp only at h1 h2
   obtain ⟨a,k,c,d,e,f,g1,g3⟩:=hx i hi;rw [et i _ g1];cases hb:b with
   | false =>
    rw [hb] at h2
    have hI:∀ q:Bool,false=(is && !((l.take i).any (pG dl oc dc [x0,x1,x2,x3,x4,x5]) || q)):=fun q=>by
     revert h2;cases is <;> cases (l.take i).any (pG dl oc dc [x0,x1,x2,x3,x4,x5]) <;> cases q <;> simp
    by_cases h5:k=5
    ·exact ⟨(false,T1),⟨h1,hI _⟩,bFp (by omega) g1 hu h5 rfl (aM (by omega)) rfl⟩
    ·by_cases h7:k=7
     ·exact ⟨(false,T1),⟨h1,hI _⟩,bFu (by omega) g1 hu h5 h7 rfl (aM (by omega)) rfl⟩
     ·exact ⟨(false,T1),⟨h1,hI _⟩,bFw (by omega) g1 hu h5 h7 rfl (aM (by omega)) rfl⟩
   | true =>
    rw [hb] at h2
    have hI:∀ q:Bool,(!q)=(is && !((l.take i).any (pG dl oc dc [x0,x1,x2,x3,x4,x5]) || q)):=fun q=>by
     revert h2;cases is <;> cases (l.take i).any (pG dl oc dc [x0,x1,x2,x3,x4,x5]) <;> cases q <;> simp
    have hIt:∀ q:Bool,q=true→false=(is && !((l.take i).any (pG dl oc dc [x0,x1,x2,x3,x4,x5]) || q)):=fun q hq=>by
     rw [← hI,hq];rfl
    have hIf:∀ q:Bool,q=false→true=(is && !((l.take i).any (pG dl oc dc [x0,x1,x2,x3,x4,x5]) || q)):=fun q hq=>by
     rw [← hI,hq];rfl
    obtain ⟨T2,q1,q2⟩:=hC _ g3 T1 h1
    by_cases h5:k=5
    ·cases hc:dM dl oc dc [a,k,c,d,e,f] with
     | true =>
      rw [hc] at q2
      exact ⟨(false,T2),⟨q1,hIt _ (by subst h5;simp [pG,wE,hc])⟩,cnt_L0_p0 (by omega) g1 hu h5 rfl q2 rfl (aM (by omega)) rfl rfl rfl⟩
     | false =>
      rw [hc] at q2
      exact ⟨(true,T2),⟨q1,hIf _ (by simp [pG,hc])⟩,cnt_L0_p1 (by omega) g1 hu h5 rfl q2 rfl (aM (by omega)) rfl rfl rfl⟩
    ·by_cases h7:k=7
     ·cases hr:cL x1 with
      | true=>exact ⟨(true,T1),⟨h1,hIf _ (by simp [pG,wE,hr,h5])⟩,bFt (by omega) g1 hu h5 h7 rfl hr (aM (by omega)) rfl⟩
      | false =>
       cases hc:dM dl oc dc [a,k,c,d,e,f] with
       | true =>
        rw [hc] at q2
        obtain ⟨T3,q3,q4⟩:=hU _ g3 T2 q1;cases Hs:aGc dl oc dc [a,k,c,d,e,f] with
        | true =>
         rw [Hs] at q4
         exact ⟨(false,T3),⟨q3,hIt _ (by subst h7;simp [pG,wE,hc,hr,Hs])⟩,bFq (by omega) g1 hu h5 h7 rfl hr q2 rfl q4 rfl (aM (by omega)) rfl rfl rfl⟩
        | false =>
         rw [Hs] at q4
         exact ⟨(true,T3),⟨q3,hIf _ (by simp [pG,wE,Hs,h5])⟩,bFr (by omega) g1 hu h5 h7 rfl hr q2 rfl q4 rfl (aM (by omega)) rfl rfl rfl⟩
       | false =>
        rw [hc] at q2
        exact ⟨(true,T2),⟨q1,hIf _ (by simp [pG,hc])⟩,bFs (by omega) g1 hu h5 h7 rfl hr q2 rfl (aM (by omega)) rfl rfl rfl⟩
     ·exact ⟨(true,T1),⟨h1,hIf _ (by simp [pG,wE,h5,h7])⟩,bFv (by omega) g1 hu h5 h7 rfl (aM (by omega)) rfl⟩)
  (fun acc hI=>aVj (by omega)) (acc:=(is,T)) ⟨hT,by simp⟩
 obtain ⟨b,T1⟩:=acc;dsimp only at h1 h2 h3
 rw [List.take_length] at h2
 rw [h2] at h3
 exact ⟨T1,h1,h3⟩
theorem cBh(hd:dA dc){x:List Int}(hx:x∈dc)(hC:∀ y∈bR dc (dN x),pR dl sk dc oc ov y)(hU:∀ y∈bR dc (dN x),bAl dl sk dc oc ov y):pR dl sk dc oc ov x:=fun T hT=>by
 have hn:=jP hd hx;have hk:=aKz hd hn;obtain ⟨x0,x1,x2,x3,x4,x5,rfl⟩:=Bp (hd.ud x hx);obtain ⟨T',h1,hL⟩:=bNm (x0:=x0) (x1:=x1) (x2:=x2) (x3:=x3) (x4:=x4) (x5:=x5) hd (bR dc (dN [x0,x1,x2,x3,x4,x5])) (iX hd _) (yE hd _) hC hU T hT (!pT dl [x0,x1,x2,x3,x4,x5]);have hc:(!pT dl [x0,x1,x2,x3,x4,x5] && !((bR dc (dN [x0,x1,x2,x3,x4,x5])).any (pG dl oc dc [x0,x1,x2,x3,x4,x5])))=dM dl oc dc [x0,x1,x2,x3,x4,x5]:=(cCa hd hx).symm;rw [hc] at hL
 cases hh:eD (aK T) (.int .i64 (dN [x0,x1,x2,x3,x4,x5])) with
 | true=>exact ⟨T,hT,cnt_p0 (hT.keys hd hn) hh (hT.look hd hx hh)⟩
 | false =>
  cases Mk:eD (aK T') (.int .i64 (dN [x0,x1,x2,x3,x4,x5])) with
  | true =>
   refine ⟨T',h1,?_⟩
   rcases aLa hd (n:=dN [x0,x1,x2,x3,x4,x5]) (by omega) with ⟨a1,a2⟩ | ⟨a1,a2⟩
   ·have:=cBr (x0:=x0) (hT.keys hd hn) hh hk a1 a2 hL (h1.keys hd hn) Mk
    rw [show oR (aK T') (.int .i64 x0) (blP (dM dl oc dc [x0,x1,x2,x3,x4,x5]))=aK T' from h1.again hd hx] at this
    exact this
   ·rw [a2] at hL
    have:=cBt (x0:=x0) (hT.keys hd hn) hh hk a1 hL (h1.keys hd hn) Mk;rw [show oR (aK T') (.int .i64 x0) (blP (dM dl oc dc [x0,x1,x2,x3,x4,x5]))=aK T' from h1.again hd hx] at this
    exact this
  | false =>
   refine ⟨T'++[(x0,dM dl oc dc [x0,x1,x2,x3,x4,x5])],h1.put hx Mk,?_⟩;have e1:(T'++[(x0,dM dl oc dc [x0,x1,x2,x3,x4,x5])]).length=T'.length+1:=by simp
   unfold wD pH;rw [bFx,e1]
   rcases aLa hd (n:=dN [x0,x1,x2,x3,x4,x5]) (by omega) with ⟨a1,a2⟩ | ⟨a1,a2⟩
   ·exact cBs (hT.keys hd hn) hh hk a1 a2 hL (h1.keys hd hn) Mk
   ·rw [a2] at hL
    exact cBu (hT.keys hd hn) hh hk a1 hL (h1.keys hd hn) Mk
theorem rE(hd:dA dc){x y:List Int}(hx:x∈dc)(hy:y∈bR dc (dN x)):y∈dc∧dN x<dN y:=by
 obtain ⟨h1,h2⟩:=eH hy;exact ⟨h1,bNr hd h1 h2 (jP hd hx).1⟩
theorem aLb(hd:dA dc)(hov:∀ n,aAn ov n (oc.contains n)):∀ (n:Nat) (x:List Int),x∈dc→10000-dN x≤(n:Int)→pR dl sk dc oc ov x
 | 0,x,hx,h=>by have:=jP hd hx;omega
 | n+1,x,hx,h=>cBh hd hx (fun y hy=>by
   obtain ⟨h1,h2⟩:=rE hd hx hy;exact aLb hd hov n y h1 (by omega)) (fun y hy=>by
   obtain ⟨h1,h2⟩:=rE hd hx hy;exact bNl hd hov h1 fun z hz=>by
    obtain ⟨h3,h4⟩:=rE hd h1 hz;exact aLb hd hov n z h3 (by omega))
theorem cBi(hd:dA dc)(hov:∀ n,aAn ov n (oc.contains n)){x:List Int}(hx:x∈dc):pR dl sk dc oc ov x:=aLb hd hov 10000 x hx (by have:=jP hd hx;omega)
theorem cGi(hd:dA dc)(hov:∀ n,aAn ov n (oc.contains n)){x:List Int}(hx:x∈dc):bXw dl sk dc oc ov x:=cBg hd hx fun y hy=>cBi hd hov (eH hy).1
theorem cGj(hd:dA dc)(hov:∀ n,aAn ov n (oc.contains n)){x:List Int}(hx:x∈dc):bAl dl sk dc oc ov x:=bNl hd hov hx fun y hy=>cBi hd hov (eH hy).1
theorem bAm(hd:dA dc)(hov:∀ n,aAn ov n (oc.contains n)):∀ (n:Nat) (x:List Int),x∈dc→10000-dN x≤(n:Int)→bXx dl sk dc oc ov x
 | 0,x,hx,h=>by have:=jP hd hx;omega
 | n+1,x,hx,h=>fun T hT=>by
  obtain ⟨T',h1,h2⟩:=cGi (dl:=dl) (sk:=sk) hd hov hx T hT;rw [bAr hd hx];cases hr:aLf dl oc dc x with
  | none =>
   rw [hr] at h2
   obtain ⟨x0,x1,x2,x3,x4,x5,rfl⟩:=Bp (hd.ud x hx);exact ⟨T',h1,cBy (z0:=0) (z1:=0) (z2:=0) (z3:=0) (z4:=0) (z5:=0) h2 rfl⟩
  | some z =>
   have hz:z∈bR dc (dN x):=by
    rw [aDr hd hx] at hr
    exact aAh hr
   obtain ⟨a1,a2⟩:=rE hd hx hz;obtain ⟨T2,h3,h4⟩:=bAm hd hov n z a1 (by omega) T' h1
   rw [hr] at h2
   obtain ⟨x0,x1,x2,x3,x4,x5,rfl⟩:=Bp (hd.ud x hx);obtain ⟨a,b,c,d,e,f,rfl⟩:=Bp (hd.ud z a1);exact ⟨T2,h3,cBx h2 rfl h4⟩
theorem cGk(hd:dA dc)(hov:∀ n,aAn ov n (oc.contains n)){x:List Int}(hx:x∈dc):bXx dl sk dc oc ov x:=bAm hd hov 10000 x hx (by have:=jP hd hx;omega)
theorem bUd(n:Int):aAn cX n (([]:List Int).contains n):=fun base=>FV.argwk (bMs [] n (by simp)) (by kernel_rfl)
end
end
end KV
end Go.Proofs
