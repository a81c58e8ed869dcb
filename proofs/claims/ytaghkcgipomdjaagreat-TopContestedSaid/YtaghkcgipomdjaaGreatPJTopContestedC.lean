/- Parts of the proof of JTopContested: laws of walks, contracts of functions, plain models. No condition. -/
import Derived.Maps.Keyed
import Derived.Maps.AppendAt
import Derived.OrdersHeld
import Derived.Great.BuildSlice
import Derived.Lib.Small
import Derived.Below
import Derived.RangeFuncNested
import Derived.RangeFuncLeaves
import Derived.Shelf.Abstract
import Derived.OwnWalkIn
import Derived.TacticsInMore
import Derived.LoopNIn
import Derived.LoopIn
import Derived.OrdersIn
import Derived.Deep.WholeRow
import Derived.Test.YtaghkcgipomdjaaGreatPJTopContestedB
set_option linter.unusedVariables false
set_option linter.unusedSimpArgs false
set_option maxRecDepth 100000
namespace Go.Proofs
namespace KV
open Tryz
section
variable {j n mx nx r0 r1 r2 st tt x0:Int}{l o o':List Int}{i:Nat}

noncomputable abbrev bDt:Code:=sub (cd Tryz.f37) [1,1,0,1,0,0]
noncomputable abbrev bDu:Code:=sub (cd Tryz.f37) [1,1,1,0,1,0,0]
theorem bRv:(65519:Int)≠0:=by first | decide | simp
abbrev bW(n:Int):PV := .v (.int .u8 n)
theorem bXs(h0:n≤1):FMM Tp 30 [(.ptr 0 0),(pI n)] [some (.box 96 [(.p (.sl l.length (l.map bW))),(pI nx),(.p (.v (.int .u32 st)))])] (pI 0) [some (.box 96 [(.p (.sl l.length (l.map bW))),(pI nx),(.p (.v (.int .u32 st)))])]:=FMM.fi 1 gE func30 (rT 7) (Et (aCh h0) gn)
theorem bXt(h0:(1:Int)<n)(h1:(l.length:Int)=0):FMM Tp 30 [(.ptr 0 0),(pI n)] [some (.box 96 [(.p (.sl l.length (l.map bW))),(pI nx),(.p (.v (.int .u32 st)))])] (pI 0) [some (.box 96 [(.p (.sl l.length (l.map bW))),(pI nx),(.p (.v (.int .u32 st)))])]:=FMM.fi 1 gE func30 (rF 7++[bT]) (gc (cT h1) (Et (kT h0) gn))
theorem bXu(h0:(1:Int)<n)(h1 h2:(l.length:Int)≠0)(h3:l[(nx.tmod (l.length:Int)).toNat]? = some x0)(h4:0≤(nx.tmod (l.length:Int)))(h5:inR (nx.tdiv (l.length:Int)))(h6:inR (nx+1))(h7:(IntKind.wrap .u32 (nx.tdiv (l.length:Int)))=0)(h8:n≤256)(h9:inR (IntKind.wrap .u32 x0))(A0:n≠0)(Aq:r0=((IntKind.wrap .u32 x0).tmod n))(Kq:r1=(nx+1))(Kr:r2=((IntKind.wrap .u32 ((IntKind.wrap .u32 ((IntKind.wrap .u32 ((IntKind.wrap .u32 (st*45))+(IntKind.wrap .u32 x0)))+(IntKind.wrap .u32 ((77:Int)*(IntKind.wrap .u32 (nx.tdiv (l.length:Int)))))))+1)).tmod 65519)):FMM Tp 30 [(.ptr 0 0),(pI n)] [some (.box 96 [(.p (.sl l.length (l.map bW))),(pI nx),(.p (.v (.int .u32 st)))])] (pI r0) [some (.box 96 [(.p (.sl l.length (l.map bW))),(pI r1),(.p (.v (.int .u32 r2)))])]:=by
 subst Aq Kq Kr;exact FMM.fi 1 gE func30 (rF 8++[.x (.v (.int .u8 x0)),bT,bT,bT,bT]) (gc A0 (gc h9 (gc (aCh h8) (Ay (cT h7) (gc bRv (gc h6 (gc h5 (gc h2 (gt ((l.map bW)[((nx.tmod (l.length:Int)).toNat*1)]? = some (.v (.int .u8 x0))) (dF (i:=(nx.tmod (l.length:Int)).toNat) h3) (gc (jE (g:=bW) h4 h3) (gc h2 (gc (bE h1) (Et (kT h0) gn)))))))))))))
theorem bXv(h0:(1:Int)<n)(h1 h2:(l.length:Int)≠0)(h3:l[(nx.tmod (l.length:Int)).toNat]? = some x0)(h4:0≤(nx.tmod (l.length:Int)))(h5:inR (nx.tdiv (l.length:Int)))(h6:inR (nx+1))(h7:(IntKind.wrap .u32 (nx.tdiv (l.length:Int)))=0)(h8:(256:Int)<n)(h9:inR (IntKind.wrap .u32 ((IntKind.wrap .u32 (((IntKind.wrap .u32 ((IntKind.wrap .u32 ((IntKind.wrap .u32 ((IntKind.wrap .u32 (st*45))+(IntKind.wrap .u32 x0)))+(IntKind.wrap .u32 ((77:Int)*(IntKind.wrap .u32 (nx.tdiv (l.length:Int)))))))+1)).tmod 65519)*256))+(IntKind.wrap .u32 x0))))(A0:n≠0)(Aq:r0=((IntKind.wrap .u32 ((IntKind.wrap .u32 (((IntKind.wrap .u32 ((IntKind.wrap .u32 ((IntKind.wrap .u32 ((IntKind.wrap .u32 (st*45))+(IntKind.wrap .u32 x0)))+(IntKind.wrap .u32 ((77:Int)*(IntKind.wrap .u32 (nx.tdiv (l.length:Int)))))))+1)).tmod 65519)*256))+(IntKind.wrap .u32 x0))).tmod n))(Kq:r1=(nx+1))(Kr:r2=((IntKind.wrap .u32 ((IntKind.wrap .u32 ((IntKind.wrap .u32 ((IntKind.wrap .u32 (st*45))+(IntKind.wrap .u32 x0)))+(IntKind.wrap .u32 ((77:Int)*(IntKind.wrap .u32 (nx.tdiv (l.length:Int)))))))+1)).tmod 65519)):FMM Tp 30 [(.ptr 0 0),(pI n)] [some (.box 96 [(.p (.sl l.length (l.map bW))),(pI nx),(.p (.v (.int .u32 st)))])] (pI r0) [some (.box 96 [(.p (.sl l.length (l.map bW))),(pI r1),(.p (.v (.int .u32 r2)))])]:=by
 subst Aq Kq Kr;exact FMM.fi 1 gE func30 (rF 8++[.x (.v (.int .u8 x0)),bT,bT,bT,bF]) (gc A0 (gc h9 (gc (kT h8) (Ay (cT h7) (gc bRv (gc h6 (gc h5 (gc h2 (gt ((l.map bW)[((nx.tmod (l.length:Int)).toNat*1)]? = some (.v (.int .u8 x0))) (dF (i:=(nx.tmod (l.length:Int)).toNat) h3) (gc (jE (g:=bW) h4 h3) (gc h2 (gc (bE h1) (Et (kT h0) gn)))))))))))))
theorem bXw(h0:(1:Int)<n)(h1 h2:(l.length:Int)≠0)(h3:l[(nx.tmod (l.length:Int)).toNat]? = some x0)(h4:0≤(nx.tmod (l.length:Int)))(h5:inR (nx.tdiv (l.length:Int)))(h6:inR (nx+1))(h7:(IntKind.wrap .u32 (nx.tdiv (l.length:Int)))≠0)(h8:inR (IntKind.wrap .u32 ((IntKind.wrap .u32 (((IntKind.wrap .u32 ((IntKind.wrap .u32 ((IntKind.wrap .u32 ((IntKind.wrap .u32 (st*45))+(IntKind.wrap .u32 x0)))+(IntKind.wrap .u32 ((77:Int)*(IntKind.wrap .u32 (nx.tdiv (l.length:Int)))))))+1)).tmod 65519)*256))+(IntKind.wrap .u32 x0))))(h9:n≠0)(Aq:r0=((IntKind.wrap .u32 ((IntKind.wrap .u32 (((IntKind.wrap .u32 ((IntKind.wrap .u32 ((IntKind.wrap .u32 ((IntKind.wrap .u32 (st*45))+(IntKind.wrap .u32 x0)))+(IntKind.wrap .u32 ((77:Int)*(IntKind.wrap .u32 (nx.tdiv (l.length:Int)))))))+1)).tmod 65519)*256))+(IntKind.wrap .u32 x0))).tmod n))(Kq:r1=(nx+1))(Kr:r2=((IntKind.wrap .u32 ((IntKind.wrap .u32 ((IntKind.wrap .u32 ((IntKind.wrap .u32 (st*45))+(IntKind.wrap .u32 x0)))+(IntKind.wrap .u32 ((77:Int)*(IntKind.wrap .u32 (nx.tdiv (l.length:Int)))))))+1)).tmod 65519)):FMM Tp 30 [(.ptr 0 0),(pI n)] [some (.box 96 [(.p (.sl l.length (l.map bW))),(pI nx),(.p (.v (.int .u32 st)))])] (pI r0) [some (.box 96 [(.p (.sl l.length (l.map bW))),(pI r1),(.p (.v (.int .u32 r2)))])]:=by
 subst Aq Kq Kr;exact FMM.fi 1 gE func30 (rF 8++[.x (.v (.int .u8 x0)),bF,bF,bF]) (gc h9 (gc h8 (Ay (bE h7) (gc bRv (gc h6 (gc h5 (gc h2 (gt ((l.map bW)[((nx.tmod (l.length:Int)).toNat*1)]? = some (.v (.int .u8 x0))) (dF (i:=(nx.tmod (l.length:Int)).toNat) h3) (gc (jE (g:=bW) h4 h3) (gc h2 (gc (bE h1) (Et (kT h0) gn))))))))))))
def D2(z:Int):Int:=IntKind.wrap .u32 z
theorem aMz(z:Int):0≤D2 z∧D2 z<4294967296:=by
 unfold D2 IntKind.wrap;simp only [IntKind.bits,IntKind.signed,Bool.false_and,Bool.false_eq_true,if_false];omega
def aRs(l:List Int)(nx:Int):Int:=D2 (l.getD (nx.tmod (l.length:Int)).toNat 0)
def bRw(l:List Int)(nx st:Int):Int:=(D2 (D2 (D2 (D2 (st*45)+aRs l nx)+D2 (77*D2 (nx.tdiv (l.length:Int))))+1)).tmod 65519
def bA(n:Int)(l:List Int)(nx st:Int):Int × Int × Int:=if n≤1∨l.length=0 then (0,nx,st) else
 (if D2 (nx.tdiv (l.length:Int))=0∧n≤256 then (aRs l nx).tmod n else (D2 (D2 (bRw l nx st*256)+aRs l nx)).tmod n,nx+1,bRw l nx st)
theorem eL(n:Int)(l:List Int)(nx st:Int):0≤(bA n l nx st).1∧((bA n l nx st).1<n∨(bA n l nx st).1=0)∧nx≤(bA n l nx st).2.1∧(bA n l nx st).2.1≤nx+1:=by
 unfold bA
 split
 ·simp;omega
 ·rename_i h
  simp only [not_or] at h
  have h1:∀ z:Int,0≤z→0≤z.tmod n∧z.tmod n<n:=fun z hz=>⟨Int.tmod_nonneg n hz,Int.tmod_lt_of_pos z (by omega)⟩
  have h2:=(aMz (l.getD (nx.tmod (l.length:Int)).toNat 0)).1;have h3:=(aMz (D2 (bRw l nx st*256)+aRs l nx)).1;dsimp only
  split
  ·have:=h1 _ h2;unfold aRs;omega
  ·have:=h1 _ h3;omega
abbrev eV(l:List Int)(nx st:Int):AO := .box 96 [.p (.sl l.length (l.map bW)),.p (aA nx),.p (.v (.int .u32 st))]
theorem qY(n:Int)(l:List Int)(nx st:Int)(h:0≤nx∧nx≤1000000000):FMM Tp 30 [.ptr 0 0,.p (aA n)] [some (eV l nx st)] (.p (aA (bA n l nx st).1)) [some (eV l (bA n l nx st).2.1 (bA n l nx st).2.2)]:=by
 by_cases h1:n≤1
 ·have e:bA n l nx st=(0,nx,st):=by unfold bA;rw [if_pos (.inl h1)]
  rw [e];exact bXs h1
 ·by_cases h2:l.length=0
  ·have e:bA n l nx st=(0,nx,st):=by unfold bA;rw [if_pos (.inr h2)]
   rw [e];exact bXt (by omega) (by omega)
  ·have h0:0≤nx.tmod (l.length:Int)∧nx.tmod (l.length:Int)<(l.length:Int):=⟨Int.tmod_nonneg _ h.1,Int.tmod_lt_of_pos _ (by omega)⟩
   have hq:0≤nx.tdiv (l.length:Int)∧nx.tdiv (l.length:Int)≤nx:=⟨Int.tdiv_nonneg h.1 (by omega),Int.tdiv_le_self _ h.1⟩
   have hi:(nx.tmod (l.length:Int)).toNat<l.length:=by omega
   have hg:l[(nx.tmod (l.length:Int)).toNat]? = some (l.getD (nx.tmod (l.length:Int)).toNat 0):=by
    rw [Av hi,Bw,Av hi];rfl
   have hw:∀ z,inR (IntKind.wrap .u32 z):=fun z=>by have:=aMz z;unfold D2 at this;unfold inR;omega
   unfold bA;rw [if_neg (by simp only [not_or];exact ⟨h1,h2⟩)]
   dsimp only
   by_cases h3:D2 (nx.tdiv (l.length:Int))=0
   ·by_cases h4:n≤256
    ·rw [if_pos ⟨h3,h4⟩]
     exact bXu (by omega) (by omega) (by omega) hg h0.1 (by show _∧_;omega) (by show _∧_;omega) h3 h4 (hw _) (by omega) rfl rfl rfl
    ·rw [if_neg (fun h=>h4 h.2)]
     exact bXv (by omega) (by omega) (by omega) hg h0.1 (by show _∧_;omega) (by show _∧_;omega) h3 (by omega) (hw _) (by omega) rfl rfl rfl
   ·rw [if_neg (fun h=>h3 h.1)]
    exact bXw (by omega) (by omega) (by omega) hg h0.1 (by show _∧_;omega) (by show _∧_;omega) h3 (hw _) (by omega) rfl rfl rfl
theorem bXx{r0:Bool}(h0:0≤nx∧nx≤1000000000)(Aq:r0=(((bA n l nx st).1) == 0))(Kq:r1=((bA n l nx st).2.1))(Kr:r2=((bA n l nx st).2.2)):FMM Tp 15 [(.ptr 0 0),(pI n)] [some (.box 96 [(.p (.sl l.length (l.map bW))),(pI nx),(.p (.v (.int .u32 st)))])] (pB r0) [some (.box 96 [(.p (.sl l.length (l.map bW))),(pI r1),(.p (.v (.int .u32 r2)))])]:=by
 subst Aq Kq Kr;have k1:=mq [0] 1 (qY n l nx st h0);exact FMM.fi 1 gE func15 [k1.o] (gc k1 gn)
theorem cFg{lo hi:Int}(h0:inR (hi-lo))(h1:inR ((hi-lo)+1))(h2:0≤nx∧nx≤1000000000)(h3:inR (lo+((bA ((hi-lo)+1) l nx st).1)))(Aq:r0=(lo+((bA ((hi-lo)+1) l nx st).1)))(Kq:r1=((bA ((hi-lo)+1) l nx st).2.1))(Kr:r2=((bA ((hi-lo)+1) l nx st).2.2)):FMM Tp 9 [(.ptr 0 0),(pI lo),(pI hi)] [some (.box 96 [(.p (.sl l.length (l.map bW))),(pI nx),(.p (.v (.int .u32 st)))])] (pI r0) [some (.box 96 [(.p (.sl l.length (l.map bW))),(pI r1),(.p (.v (.int .u32 r2)))])]:=by
 subst Aq Kq Kr;have k1:=mq [0] 1 (qY ((hi-lo)+1) l nx st h2);exact FMM.fi 1 gE func9 [k1.o] (gc h3 (gc k1 (gc h1 (gc h0 gn))))
def aG(n:Int)(l:List Int)(nx st:Int):Bool × Int × Int:=((bA n l nx st).1 == 0,(bA n l nx st).2)
theorem eO(n:Int)(l:List Int)(nx st:Int)(h:0≤nx∧nx≤1000000000):FMM Tp 15 [.ptr 0 0,.p (aA n)] [some (eV l nx st)] (.p (blP (aG n l nx st).1)) [some (eV l (aG n l nx st).2.1 (aG n l nx st).2.2)]:=bXx h rfl rfl rfl
theorem nE(n:Int)(l:List Int)(nx st:Int):nx≤(aG n l nx st).2.1∧(aG n l nx st).2.1≤nx+1:=(eL n l nx st).2.2
def lD(lo hi:Int)(l:List Int)(nx st:Int):Int × Int × Int:=(lo+(bA (hi-lo+1) l nx st).1,(bA (hi-lo+1) l nx st).2)
theorem uG(lo hi:Int)(l:List Int)(nx st:Int):lo≤(lD lo hi l nx st).1∧((lD lo hi l nx st).1≤hi∨(lD lo hi l nx st).1=lo)∧nx≤(lD lo hi l nx st).2.1∧(lD lo hi l nx st).2.1≤nx+1:=by
 have:=eL (hi-lo+1) l nx st;unfold lD;dsimp only;omega
theorem cFh(lo hi:Int)(l:List Int)(nx st:Int)(h:0≤nx∧nx≤1000000000)(hb:(-1000000≤lo∧lo≤1000000) ∧ -1000000≤hi∧hi≤1000000):FMM Tp 9 [.ptr 0 0,.p (aA lo),.p (aA hi)] [some (eV l nx st)] (.p (aA (lD lo hi l nx st).1)) [some (eV l (lD lo hi l nx st).2.1 (lD lo hi l nx st).2.2)]:=by
 have:=uG lo hi l nx st;exact cFg (by show _∧_;omega) (by show _∧_;omega) h (show inR (lD lo hi l nx st).1 by unfold inR;omega) rfl rfl rfl
def nZ(n:Int)(l:List Int)(nx st:Int)(i on:Nat)(oc:List PV):St:=⟨fr 45 [(0,(.ptr 0 0)),(4,(.p cR)),(5,(.own 1)),(10,(pI (if n > 0 then n else 0))),(11,(pI (i:Int)))],[some (.box 96 [(.p (.sl l.length (l.map bW))),(pI nx),(.p (.v (.int .u32 st)))]),some (.row 3 on oc)]⟩
def oA(l:List Int)(j:Int)(on:Nat)(oc:List PV)(mx tt:Int):St:=⟨fr 45 [(0,(.ptr 0 0)),(4,(.p cR)),(5,(.own 1)),(7,(pI j))],[some (.box 96 [(.p (.sl l.length (l.map bW))),(pI mx),(.p (.v (.int .u32 tt)))]),some (.row 3 on oc)]⟩
theorem bDv{Aw:Nat}{A5:List Int}{Qw:Int}{I3:List Int}{Iq Ir:Int}(hl0:aF Tp 1 bDt (nZ n l nx st 0 0 []) (.exit 0) (nZ n l nx st Aw A5.length (A5.map aA)))(h1:inR ((A5.length:Int)-1))(hl2:aF Tp 1 bDu (oA l ((A5.length:Int)-1) A5.length (A5.map aA) nx st) (.exit 2) (oA l Qw I3.length (I3.map aA) Iq Ir)):FMM Tp 37 [(.ptr 0 0),(pI n)] [some (.box 96 [(.p (.sl l.length (l.map bW))),(pI nx),(.p (.v (.int .u32 st)))])] (.own 1) [some (.box 96 [(.p (.sl l.length (l.map bW))),(pI Iq),(.p (.v (.int .u32 Ir)))]),some (.row 3 I3.length (I3.map aA))]:=FMM.fi 1 ⟨[],[1],[],[]⟩ func37 [hl0.k 8 (gN [1,3,6,1,9,1,12,7] [1] [(5,3)]),hl2.k 4 (gI [1,3,6,1,8,36] [1])] (gc hl2.code (gc h1 (gc hl0.code gn)))
theorem aXr{i':Nat}(h0:(i:Int)<(if n > 0 then n else 0))(h1:[(aA (i:Int))].length=1*1∧o.length+1≤1000000)(h2:dv i)(Ak:i'=(i+1))(A6:o'.length=(o.length+1))(A7:o'.map aA=((o.map aA)++[(aA (i:Int))])):aB Tp 1 bDt (nZ n l nx st i o.length (o.map aA)) .normal (nZ n l nx st i' o'.length (o'.map aA)):=by
 subst Ak;rw [A6,A7];exact aB.fi (gI [1,3,6,1,9,1,12,7] [3]) [bT] (gc h2 (gc h1 (g0 h0)))
theorem aXs(h0:(if n > 0 then n else 0)≤(i:Int)):aB Tp 1 bDt (nZ n l nx st i o.length (o.map aA)) (.exit 0) (nZ n l nx st i o.length (o.map aA)):=aB.fi (gI [1,3,6,1,9,1,12,7] [1]) [bF] (gc (aQ h0) gn)
theorem aXt{B4 Bj j' Cm Ed:Int}(h0:(0:Int)<j)(h1:inR (j+1))(h2:0≤mx∧mx≤1000000000)(h3:o[((bA (j+1) l mx tt).1).toNat]? = some B4)(h4:0≤((bA (j+1) l mx tt).1))(h5:o[j.toNat]? = some Bj)(h6:0≤j)(h7:(j.toNat*1)<(o.map aA).length)(h8:0≤((bA (j+1) l mx tt).1)∧((bA (j+1) l mx tt).1)<(o.length:Int))(h9:(((bA (j+1) l mx tt).1).toNat*1)<((o.map aA).set (j.toNat*1) (aA B4)).length)(A0:inR (j-1))(Du:j'=(j-1))(A6:o'.length=o.length)(A7:o'.map aA=(((o.map aA).set (j.toNat*1) (aA B4)).set (((bA (j+1) l mx tt).1).toNat*1) (aA Bj)))(Db:Cm=((bA (j+1) l mx tt).2.1))(Dv:Ed=((bA (j+1) l mx tt).2.2)):aB Tp 1 bDu (oA l j o.length (o.map aA) mx tt) .normal (oA l j' o'.length (o'.map aA) Cm Ed):=by
 subst Du Db Dv;have k1:=mq [0] 2 (qY (j+1) l mx tt h2);rw [A6,A7];exact aB.fi (gI [1,3,6,1,8,36] [1]) [bT,k1.o,.x (aA B4),.x (aA Bj)] (gc A0 (gc h9 (gc h8 (gc h7 (gc (aX (i:=j) h6 h5) (gt ((o.map aA)[(j.toNat*1)]? = some (aA Bj)) (dF (i:=j.toNat) h5) (gc (aX (i:=j) h6 h5) (gt ((o.map aA)[(((bA (j+1) l mx tt).1).toNat*1)]? = some (aA B4)) (dF (i:=((bA (j+1) l mx tt).1).toNat) h3) (gc (aX (i:=((bA (j+1) l mx tt).1)) h4 h3) (gc k1 (gc h1 (g0 h0))))))))))))
theorem aEy(h0:j≤0):aB Tp 1 bDu (oA l j o.length (o.map aA) mx tt) (.exit 2) (oA l j o.length (o.map aA) mx tt):=aB.fi (gI [1,3,6,1,8,36] [1]) [bF] (gc (aQ h0) gn)
def aEz(o:List Int)(i k:Nat):List Int:=(o.set i (o.getD k 0)).set k (o.getD i 0)
theorem aFa(o:List Int){i k:Nat}(hi:i<o.length)(hk:k<o.length):(aEz o i k).Perm o:=by
 rw [List.perm_iff_count];intro x;unfold aEz;rw [List.count_set (by simpa using hk),List.count_set hi]
 simp only [xZ,Bw,Av hi,Av hk,Option.getD_some];have h1:∀ (j:Nat) (h:j<o.length),(o[j] == x)=true→0<List.count x o:=fun j h hx=>List.count_pos_iff.2 (by rw [← beq_iff_eq.1 hx];exact fG h)
 have a1:=h1 i hi;have a2:=h1 k hk
 by_cases hik:i=k
 ·subst hik
  simp only [if_pos rfl]
  by_cases hx:(o[i] == x)=true
  ·have:=a1 hx;simp only [hx,if_true];omega
  ·have Ic:¬ o[i]=x:=by simpa using hx
   simp [Ic]
 ·rw [if_neg hik]
  by_cases hx:(o[i] == x)=true <;> by_cases hy:(o[k] == x)=true
  ·have:=a1 hx;simp only [hx,hy,if_true];omega
  ·have:=a1 hx;simp only [hx,hy,if_true,if_false];simp;omega
  ·have:=a2 hy;simp only [hx,hy,if_true,if_false];simp
  ·simp only [hx,hy,if_false];simp
def pP(l:List Int):Nat→List Int→Int→Int→List Int × Int × Int
 | 0,o,nx,st=>(o,nx,st)
 | j+1,o,nx,st=>pP l j (aEz o (j+1) (bA ((j:Int)+1+1) l nx st).1.toNat) (bA ((j:Int)+1+1) l nx st).2.1 (bA ((j:Int)+1+1) l nx st).2.2
def upL(n:Nat):List Int:=(List.range n).map fun (i:Nat)=>(i:Int)
def cJ(n:Int)(l:List Int)(nx st:Int):List Int × Int × Int:=pP l (n.toNat-1) (upL n.toNat) nx st
theorem aFb(l:List Int):∀ (j:Nat) (o:List Int) (nx st:Int),j<o.length∨j=0→(pP l j o nx st).1.Perm o∧nx≤(pP l j o nx st).2.1∧(pP l j o nx st).2.1≤nx+j
 | 0,o,nx,st,_=>by unfold pP;exact ⟨.refl _,by simp,by simp⟩
 | j+1,o,nx,st,h=>by
  have hb:=eL ((j:Int)+1+1) l nx st;have hs:=aFa o (i:=j+1) (k:=(bA ((j:Int)+1+1) l nx st).1.toNat) (by omega) (by omega)
  have hl:=hs.length_eq;have ih:=aFb l j (aEz o (j+1) (bA ((j:Int)+1+1) l nx st).1.toNat) (bA ((j:Int)+1+1) l nx st).2.1 (bA ((j:Int)+1+1) l nx st).2.2 (by omega)
  unfold pP;exact ⟨ih.1.trans hs,by omega,by omega⟩
theorem aKf(l:List Int)(Vj G8:Int):∀ (j:Nat) (o:List Int) (nx st:Int),j<o.length∨j=0→0≤nx→nx+j≤1000000000→o.length≤1000 →
  ∃ j',aF Tp 1 bDu (oA l (j:Int) o.length (o.map aA) nx st) (.exit 2) (oA l j' (pP l j o nx st).1.length ((pP l j o nx st).1.map aA) (pP l j o nx st).2.1 (pP l j o nx st).2.2)
 | 0,o,nx,st,_,_,_,_=>by unfold pP;exact ⟨0,.exit (aEy (by omega)) (by simp)⟩
 | j+1,o,nx,st,h,h0,h1,h2=>by
  have hb:=eL ((j:Int)+1+1) l nx st;have hk:(bA ((j:Int)+1+1) l nx st).1.toNat<o.length:=by omega
  have hs:=aFa o (i:=j+1) (k:=(bA ((j:Int)+1+1) l nx st).1.toNat) (by omega) hk
  have hl:=hs.length_eq;obtain ⟨j',ih⟩:=aKf l Vj G8 j (aEz o (j+1) (bA ((j:Int)+1+1) l nx st).1.toNat) (bA ((j:Int)+1+1) l nx st).2.1 (bA ((j:Int)+1+1) l nx st).2.2 (by omega) (by omega) (by omega) (by omega)
  unfold pP;have ga:∀ i,i<o.length→o[i]? = some (o.getD i 0):=fun i hi=>by
   rw [Av hi,Bw,Av hi];rfl
  have hj:((j+1:Nat):Int)=(j:Int)+1:=by omega
  rw [hj];have ht:((j:Int)+1).toNat=j+1:=by omega
  refine ⟨j',.step (aXt (by omega) (by show _∧_;omega) (by omega) (ga _ hk) (by omega) (by rw [ht];exact ga _ (by omega)) (by omega) (by rw [ht];simp;omega) (by omega) (by simp;omega) (by show _∧_;omega) (j':=(j:Int)) (by omega) (o':=aEz o (j+1) (bA ((j:Int)+1+1) l nx st).1.toNat) hl (by rw [ht];simp [aEz,List.map_set]) rfl rfl) ih⟩
theorem bXy(n:Int)(l:List Int)(nx st:Int)(h:0≤nx∧nx≤1000000)(hn:0≤n∧n≤1000):FMM Tp 37 [.ptr 0 0,.p (aA n)] [some (eV l nx st)] (.own 1) [some (eV l (cJ n l nx st).2.1 (cJ n l nx st).2.2),some (.row 3 (cJ n l nx st).1.length ((cJ n l nx st).1.map aA))]:=by
 have e:(if n > 0 then n else 0)=n:=by split <;> omega
 have hL:=aF.times (P:=Tp) (k:=1) (b:=bDt) (e := .exit 0) (fun i (o:List Int)=>nZ n l nx st i o.length (o.map aA)) (fun o=>nZ n l nx st n.toNat o.length (o.map aA)) (fun acc i=>acc++[(i:Int)]) (fun i o=>o.length≤i) (by simp) n.toNat (a0:=[]) (by simp)
  (fun i o hi hI=>⟨by simp;omega,aXr (by rw [e];omega) (by simp;omega) (aI (by omega)) rfl (by simp) (by simp)⟩)
  (fun o _=>aXs (by rw [e];omega))
 rw [aKb,List.nil_append] at hL
 have hul:(upL n.toNat).length=n.toNat:=by simp [upL]
 by_cases h0:n=0
 ·subst h0
  exact bDv (A5:=upL 0) hL (by unfold inR;simp [upL]) (aF.exit (aEy (by simp [upL])) (by simp))
 ·obtain ⟨j',Eu⟩:=aKf l nx st (n.toNat-1) (upL n.toNat) nx st (by omega) (by omega) (by omega) (by omega)
  refine bDv (A5:=upL n.toNat) hL (by show _∧_;omega) (Qw:=j') ?_
  have e2:((n.toNat-1:Nat):Int)=((upL n.toNat).length:Int)-1:=by omega
  rw [e2] at Eu
  exact Eu
theorem nG{r Hf Am:Int}(lo hi:Int)(l:List Int)(nx st:Int)(h:0≤nx∧nx≤1000000000)(hb:(-1000000≤lo∧lo≤1000000) ∧ -1000000≤hi∧hi≤1000000)(e:lD lo hi l nx st=(r,Hf,Am)):FMM Tp 9 [.ptr 0 0,.p (aA lo),.p (aA hi)] [some (eV l nx st)] (pI r) [some (eV l Hf Am)]:=by
 have:=cFh lo hi l nx st h hb;rw [e] at this
 exact this
theorem eB{r Hf Am:Int}(n:Int)(l:List Int)(nx st:Int)(h:0≤nx∧nx≤1000000000)(e:bA n l nx st=(r,Hf,Am)):FMM Tp 30 [.ptr 0 0,.p (aA n)] [some (eV l nx st)] (pI r) [some (eV l Hf Am)]:=by
 have:=qY n l nx st h;rw [e] at this
 exact this
theorem uH{r:Bool}{Hf Am:Int}(n:Int)(l:List Int)(nx st:Int)(h:0≤nx∧nx≤1000000000)(e:aG n l nx st=(r,Hf,Am)):FMM Tp 15 [.ptr 0 0,.p (aA n)] [some (eV l nx st)] (pB r) [some (eV l Hf Am)]:=by
 have:=eO n l nx st h;rw [e] at this
 exact this
theorem cMd:FMM Tp 8 [(.p (.sl l.length (l.map bW)))] [] (.ptr 0 0) [some (.box 96 [(.p (.sl l.length (l.map bW))),(pI 0),(.p (.v (.int .u32 17)))])]:=FMM.fi 0 ⟨[],[0],[],[]⟩ func8 [] gn
end
section

end
section

theorem cGq(a b:Int):skB [a,b]=(within a 1 999 && within b (-1) 360000):=rfl
end
section

theorem aRv{f:Lqq}(h:(aZ f 0).Nodup):(aZ (aC f) 0).Nodup:=((dO f).map _).nodup_iff.2 h
end
section
mutual
def wkP:PV→PV
 | .v (.slice none 0 0) => .sl 0 []
 | .agg cs => .agg (bSh cs)
 | x=>x
def bSh:List PV→List PV
 | []=>[]
 | x::r=>wkP x::bSh r
end
theorem aRw:∀ l:List PV,bSh l=l.map wkP
 | []=>by simp [bSh]
 | x::r=>by rw [bSh,aRw r];rfl
def O8:AV→AV
 | .p x => .p (wkP x)
 | x=>x
theorem bZe{F:Nat→Prop}{w:World}{x:PV}{u:Value}(h:bQ F w x u):bQ F w (wkP x) u:=by
 induction h with
 | v x =>
  unfold wkP
  split
  ·rename_i e
   cases e;exact .sl 0 [] none 0 (fun _=>undef) (dG _) (Nat.zero_le _) (fun i h=>by simp at h) (fun i h=>by simp at h) (fun i h=>by simp at h)
  ·rename_i e;cases e
  ·exact .v x
 | sl n cs p cap us h1 h2 h3 h4 h5 _=>unfold wkP;exact .sl n cs p cap us h1 h2 h3 h4 h5
 | agg cs vs h0 h1 _ ih =>
  unfold wkP;rw [aRw];exact .agg _ vs (fun i hi=>h0 i (by simpa using hi)) (by simpa using h1) (fun i hi=>by
   have:=ih i (by simpa using hi)
   simpa using this)
 | mp es b cl arr us hb h0 h1 h2 h3 _=>unfold wkP;exact .mp es b cl arr us hb h0 h1 h2 h3
 | rp cs off b o us h1 h2 h3 _=>unfold wkP;exact .rp cs off b o us h1 h2 h3
theorem bZf{C:Cx}{M:Mem}{w:World}{x:AV}{u:Value}(h:Rep C M w x u):Rep C M w (O8 x) u:=by
 cases h with
 | p x u h=>exact .p _ _ (bZe h)
 | _=>unfold O8;constructor <;> assumption
theorem cN.wk{C:Cx}{M:Mem}{w:World}:∀ {args:List AV} {us:List Value},cN C M w args us→cN C M w (args.map O8) us
 | [],_,h=>by cases h;exact .nil
 | x::l,_,h=>by
  cases h with
  | cons _ _ u us h1 h2=>exact .cons _ _ _ _ (bZf h1) h2.wk
theorem FMM.argwk{P:Program}{f:Nat}{args A9:List AV}{r:AV}{M M':Mem}(h:FMM P f A9 M r M')(e:args.map O8=A9):FMM P f args M r M':=fun C w us hus hM n=>by
 subst e;exact h C w us hus.wk hM n
theorem FV.argwk{P:Program}{f base:Nat}{args A9:List AV}{y:AV}{L:Upd}(h:FV P f A9 base y L)(e:args.map O8=A9):FV P f args base y L:=by
 obtain ⟨r,M1,h1,h2⟩:=h;exact ⟨r,M1,h1.argwk e,h2⟩
end
section

end
section

end
section
variable {Kl Km:Bool}{c0 c1 c2 c3 c4 c5 d0 d1 d2 d3 d4 d5 ma mb mx na nb nd nu r0 r7 ta tb tt Nq Eh Kn Cn Co Da Hr Cu Gb Ei Bf D6 Ct Cw Ht F9 Ko D5 D7 D8 Hs Ee Hu Es Mt c0'212 c0'215 c1'213 c1'216 c2'214 c2'217 c3'215 c3'218 c4'216 c4'219 c5'217 c5'220 d0'221 d0'224 d1'222 d1'225 d2'223 d2'226 d3'224 d3'227 d4'225 d4'228 d5'226 d5'229 Gd Gf Gg Gi Gj Gk Gl Gm Gn Gp Gq Gr:Int}{dc sk Em Lw Al:Lqq}{l:List Int}{i j i' j':Nat}

noncomputable abbrev qX:Code:=sub (cd Tryz.f7) [1,1,1,1,0,1,0,0,1,1,0,0,1,1,1,1,0]
noncomputable abbrev zT:Code:=sub (cd Tryz.f7) [1,1,1,1,0,1,0,0]
noncomputable abbrev zU:Code:=sub (cd Tryz.f7) [1,1,1,1,0,1,0,0,1,1,0,0,1,1,1,0]
noncomputable abbrev aMy:Code:=sub (cd Tryz.f7) [1,1,0,1,0,0]
def mB(nd:Int)(l:List Int)(r0:Int)(i skn:Nat)(skc:List PV)(mx tt:Int):St:=⟨fr 121 [(0,(.ptr 0 0)),(2,(pI nd)),(6,(.ptr 1 0)),(7,(.ptr 2 0)),(15,(pI r0)),(16,(pI (i:Int)))],[some (.box 96 [(.p (.sl l.length (l.map bW))),(pI mx),(.p (.v (.int .u32 tt)))]),some (.box 26 [(pI 0),(.p cR),(.p cR)]),some (.box 26 [(pI 30),(.own 3),(.p cR)]),some (.row 80 skn skc)]⟩
def gH(l:List Int)(Al:Lqq)(r7:Int)(j dcn:Nat)(dcc:List PV)(nu mx tt:Int):St:=⟨fr 121 [(0,(.ptr 0 0)),(6,(.ptr 1 0)),(7,(.ptr 2 0)),(10,(pI nu)),(40,(pI r7)),(41,(pI (j:Int)))],[some (.box 96 [(.p (.sl l.length (l.map bW))),(pI mx),(.p (.v (.int .u32 tt)))]),some (.box 26 [(pI 0),(.p cR),(.p cR)]),some (.box 26 [(pI 30),(.own 3),(.own 4)]),some (.row 80 Al.length (Al.flatten.map aA)),some (.row 84 dcn dcc)]⟩
theorem cFf{ns nx st m1 t2:Int}{Vi:Nat}{Jg Mu m8 t9:Int}{R7:Nat}{Jh:Lqq}{Ov Lx Ly:Int}(h0:0≤nx∧nx≤1000000000)(h1:(-1000000≤1∧(1:Int)≤1000000) ∧ -1000000≤ns∧ns≤1000000)(h2:lD 1 ns l nx st=(r0,m1,t2))(B6:aF Tp 1 aMy (mB nd l r0 0 0 [] m1 t2) (.exit 0) (mB nd l r0 Vi Al.length (Al.flatten.map aA) Jg Mu))(h4:inR (nd+1))(h5:0≤Jg∧Jg≤1000000000)(h6:bA (nd+1) l Jg Mu=(r7,m8,t9))(Mv:aF Tp 1 zT (gH l Al r7 0 0 [] 0 m8 t9) (.exit 2) (gH l Al r7 R7 Jh.length (Jh.flatten.map aA) Ov Lx Ly)):FMM Tp 7 [(.ptr 0 0),(pI ns),(pI nd)] [some (.box 96 [(.p (.sl l.length (l.map bW))),(pI nx),(.p (.v (.int .u32 st)))])] (.p (.agg (kF 30 Al Jh))) [some (.box 96 [(.p (.sl l.length (l.map bW))),(pI Lx),(.p (.v (.int .u32 Ly)))])]:=have k1:=mq [0] 3 (nG 1 ns l nx st h0 h1 h2);have k2:=mq [0] 4 (eB (nd+1) l Jg Mu h5 h6);FMM.fi 1 ⟨[],[],[3,4],[]⟩ func7 [k1.o,B6.k 1 (gN bh [1,2,3] [(102001,80)]),k2.o,Mv.k 1 (gN bq [1,2,3,4] [(102002,84)])] (gc Mv.code (gc k2 (gc h4 (gc B6.code (gc k1 gn)))))
section
variable(h0:(i:Int)<r0)(h1:inR ((3:Int)*(i:Int)))(h2:inR (((3:Int)*(i:Int))+1))(h3:0≤mx∧mx≤1000000000)(h4:bA 20 l mx tt=(Ei,Eh,F9))(h5:inR ((50:Int)*Ei))(h6:inR ((15000:Int)+((50:Int)*Ei)))(h7:0≤Eh∧Eh≤1000000000)(h8:aG 12 l Eh F9=(Kl,Kn,Ko))
include h0 h1 h2 h3 h4 h5 h6 h7 h8
theorem bIr(h9:Kl=true)(A0:[(aA (((3:Int)*(i:Int))+1)),(aA (-1))].length=1*2∧sk.length+1≤1000000)(Bu:dv i)(Ak:i'=(i+1))(Ji:Lw.length=(sk.length+1))(Jj:Lw.flatten.map aA=((sk.flatten.map aA)++[(aA (((3:Int)*(i:Int))+1)),(aA (-1))])):aB Tp 1 aMy (mB nd l r0 i sk.length (sk.flatten.map aA) mx tt) .normal (mB nd l r0 i' Lw.length (Lw.flatten.map aA) Kn Ko):=by
 subst Ak;have k1:=mq [0] 4 (eB 20 l mx tt h3 h4);have k2:=mq [0] 5 (uH 12 l Eh F9 h7 h8);rw [Ji,Jj];exact aB.fi (gI bh [1,2,6]) [bT,k1.o,k2.o,bT] (gc Bu (gc A0 (gt ([(aA (((3:Int)*(i:Int))+1)),(aA (-1))].length=2) (by first | decide | simp) (gc h9 (gc k2 (gc h6 (gc h5 (gc k1 (gc h2 (gc h1 (g0 h0)))))))))))
theorem bIs(h9:Kl=false)(A0:[(aA (((3:Int)*(i:Int))+1)),(aA ((15000:Int)+((50:Int)*Ei)))].length=1*2∧sk.length+1≤1000000)(Bu:dv i)(Ak:i'=(i+1))(Ji:Lw.length=(sk.length+1))(Jj:Lw.flatten.map aA=((sk.flatten.map aA)++[(aA (((3:Int)*(i:Int))+1)),(aA ((15000:Int)+((50:Int)*Ei)))])):aB Tp 1 aMy (mB nd l r0 i sk.length (sk.flatten.map aA) mx tt) .normal (mB nd l r0 i' Lw.length (Lw.flatten.map aA) Kn Ko):=by
 subst Ak;have k1:=mq [0] 4 (eB 20 l mx tt h3 h4);have k2:=mq [0] 5 (uH 12 l Eh F9 h7 h8);rw [Ji,Jj];exact aB.fi (gI bh [1,2,6]) [bT,k1.o,k2.o,bF] (gc Bu (gc A0 (gt ([(aA (((3:Int)*(i:Int))+1)),(aA ((15000:Int)+((50:Int)*Ei)))].length=2) (by first | decide | simp) (gc h9 (gc k2 (gc h6 (gc h5 (gc k1 (gc h2 (gc h1 (g0 h0)))))))))))
end
theorem bIt(h0:r0≤(i:Int)):aB Tp 1 aMy (mB nd l r0 i sk.length (sk.flatten.map aA) mx tt) (.exit 0) (mB nd l r0 i sk.length (sk.flatten.map aA) mx tt):=aB.fi (gI bh [1,2,3]) [bF] (gc (aQ h0) gn)
def iO(l:List Int)(Al:Lqq)(r7:Int)(j:Nat)(dc:Lqq)(na ma ta c0 c1 c2 c3 c4 c5:Int):St:=⟨fr 121 [(0,(.ptr 0 0)),(6,(.ptr 1 0)),(7,(.ptr 2 0)),(10,(pI na)),(11,(.ptr 5 0)),(40,(pI r7)),(41,(pI (j:Int))),(42,(pB (decide ((j:Int)<r7))))],[some (.box 96 [(.p (.sl l.length (l.map bW))),(pI ma),(.p (.v (.int .u32 ta)))]),some (.box 26 [(pI 0),(.p cR),(.p cR)]),some (.box 26 [(pI 30),(.own 3),(.own 4)]),some (.row 80 Al.length (Al.flatten.map aA)),some (.row 84 dc.length (dc.flatten.map aA)),some (.box 84 [(pI c0),(pI c1),(pI c2),(pI c3),(pI c4),(pI c5)])]⟩
def eQ(l:List Int)(Al:Lqq)(r7:Int)(j:Nat)(dc:Lqq)(nb mb tb d0 d1 d2 d3 d4 d5:Int):St:=⟨fr 121 [(0,(.ptr 0 0)),(6,(.ptr 1 0)),(7,(.ptr 2 0)),(10,(pI nb)),(11,(.ptr 5 0)),(40,(pI r7)),(41,(pI (j:Int))),(42,(pB (decide ((j:Int)<r7))))],[some (.box 96 [(.p (.sl l.length (l.map bW))),(pI mb),(.p (.v (.int .u32 tb)))]),some (.box 26 [(pI 0),(.p cR),(.p cR)]),some (.box 26 [(pI 30),(.own 3),(.own 4)]),some (.row 80 Al.length (Al.flatten.map aA)),some (.row 84 dc.length (dc.flatten.map aA)),some (.box 84 [(pI d0),(pI d1),(pI d2),(pI d3),(pI d4),(pI d5)])]⟩
section
variable(h0:(j:Int)<r7)(h1:0≤mx∧mx≤1000000000)(h2:(-1000000≤1∧(1:Int)≤1000000) ∧ -1000000≤2∧(2:Int)≤1000000)(h3:lD 1 2 l mx tt=(Bf,Cn,D5))(h4:inR (nu+Bf))(h5:0≤Cn∧Cn≤1000000000)(h6:bA 10 l Cn D5=(D6,Co,D7))(h7:0≤Co∧Co≤1000000000)(h8:bA 36 l Co D7=(Ct,Da,D8))
include h0 h1 h2 h3 h4 h5 h6 h7 h8
theorem bIu(h9:(1:Int)<(nu+Bf))(A0:D6<5)(Bu:0≤Da∧Da≤1000000000)(Bh:aG 3 l Da D8=(Km,Hr,Hs))(Cb:Km=true)(Jk:aB Tp 1 zU (iO l Al r7 j dc (nu+Bf) Hr Hs (nu+Bf) 7 Ct 0 0 0) .normal (iO l Al r7 j dc Gk Gf Gp c0'215 c1'216 c2'217 c3'218 c4'219 c5'220))(Hg:aB Tp 1 qX (eQ l Al r7 j dc Gk Gf Gp c0'215 c1'216 c2'217 c3'218 c4'219 c5'220) .normal (eQ l Al r7 j dc Gm Gi Gr d0'224 d1'225 d2'226 d3'227 d4'228 d5'229))(Fh:[(aA d0'224),(aA d1'225),(aA d2'226),(aA d3'227),(aA d4'228),(aA d5'229)].length=1*6∧dc.length+1≤1000000)(Ip:dv j)(Du:j'=(j+1))(E7:Em.length=(dc.length+1))(E8:Em.flatten.map aA=((dc.flatten.map aA)++[(aA d0'224),(aA d1'225),(aA d2'226),(aA d3'227),(aA d4'228),(aA d5'229)])):aB Tp 1 zT (gH l Al r7 j dc.length (dc.flatten.map aA) nu mx tt) .normal (gH l Al r7 j' Em.length (Em.flatten.map aA) Gm Gi Gr):=by
 subst Du;have k1:=mq [0] 5 (nG 1 2 l mx tt h1 h2 h3);have k2:=mq [0] 5 (eB 10 l Cn D5 h5 h6);have k3:=mq [0] 5 (eB 36 l Co D7 h7 h8);have k4:=mq [0] 6 (uH 3 l Da D8 Bu Bh);rw [E7,E8];exact aB.fi (gI bq [1,2,3,7]) ([bT,k1.o,k2.o,k3.o]++rT 6++[k4.o,bT,bT,Jk.k 2 (gI br di),Hg.k 1 (gI br di)]) (gc Ip (gc Fh (gt ([(aA d0'224),(aA d1'225),(aA d2'226),(aA d3'227),(aA d4'228),(aA d5'229)].length=6) (by first | decide | simp) (gc Hg (gc Jk (gc Cb (gc (bG A0) (gc k4 (Az (bG A0) (A4 (bG h9) (gc k3 (gc k2 (gc h4 (gc k1 (g0 h0)))))))))))))))
theorem bIv(h9:(1:Int)<(nu+Bf))(A0:D6<5)(Bu:0≤Da∧Da≤1000000000)(Bh:aG 3 l Da D8=(Km,Hr,Hs))(Cb:Km=false)(Jk:aB Tp 1 zU (iO l Al r7 j dc (nu+Bf) Hr Hs (nu+Bf) D6 Ct 0 0 0) .normal (iO l Al r7 j dc Gk Gf Gp c0'215 c1'216 c2'217 c3'218 c4'219 c5'220))(Hg:aB Tp 1 qX (eQ l Al r7 j dc Gk Gf Gp c0'215 c1'216 c2'217 c3'218 c4'219 c5'220) .normal (eQ l Al r7 j dc Gm Gi Gr d0'224 d1'225 d2'226 d3'227 d4'228 d5'229))(Fh:[(aA d0'224),(aA d1'225),(aA d2'226),(aA d3'227),(aA d4'228),(aA d5'229)].length=1*6∧dc.length+1≤1000000)(Ip:dv j)(Du:j'=(j+1))(E7:Em.length=(dc.length+1))(E8:Em.flatten.map aA=((dc.flatten.map aA)++[(aA d0'224),(aA d1'225),(aA d2'226),(aA d3'227),(aA d4'228),(aA d5'229)])):aB Tp 1 zT (gH l Al r7 j dc.length (dc.flatten.map aA) nu mx tt) .normal (gH l Al r7 j' Em.length (Em.flatten.map aA) Gm Gi Gr):=by
 subst Du;have k1:=mq [0] 5 (nG 1 2 l mx tt h1 h2 h3);have k2:=mq [0] 5 (eB 10 l Cn D5 h5 h6);have k3:=mq [0] 5 (eB 36 l Co D7 h7 h8);have k4:=mq [0] 6 (uH 3 l Da D8 Bu Bh);rw [E7,E8];exact aB.fi (gI bq [1,2,3,7]) ([bT,k1.o,k2.o,k3.o]++rT 6++[k4.o,bT,bF,Jk.k 1 (gI br di),Hg.k 1 (gI br di)]) (gc Ip (gc Fh (gt ([(aA d0'224),(aA d1'225),(aA d2'226),(aA d3'227),(aA d4'228),(aA d5'229)].length=6) (by first | decide | simp) (gc Hg (gc Jk (gc Cb (gc (bG A0) (gc k4 (Az (bG A0) (A4 (bG h9) (gc k3 (gc k2 (gc h4 (gc k1 (g0 h0)))))))))))))))
theorem bIw(h9:(1:Int)<(nu+Bf))(A0:(5:Int)≤D6)(Df:aB Tp 1 zU (iO l Al r7 j dc (nu+Bf) Da D8 (nu+Bf) D6 Ct 0 0 0) .normal (iO l Al r7 j dc Gj Gd Gn c0'212 c1'213 c2'214 c3'215 c4'216 c5'217))(Ow:aB Tp 1 qX (eQ l Al r7 j dc Gj Gd Gn c0'212 c1'213 c2'214 c3'215 c4'216 c5'217) .normal (eQ l Al r7 j dc Gl Gg Gq d0'221 d1'222 d2'223 d3'224 d4'225 d5'226))(Cb:[(aA d0'221),(aA d1'222),(aA d2'223),(aA d3'224),(aA d4'225),(aA d5'226)].length=1*6∧dc.length+1≤1000000)(De:dv j)(Du:j'=(j+1))(E7:Em.length=(dc.length+1))(E8:Em.flatten.map aA=((dc.flatten.map aA)++[(aA d0'221),(aA d1'222),(aA d2'223),(aA d3'224),(aA d4'225),(aA d5'226)])):aB Tp 1 zT (gH l Al r7 j dc.length (dc.flatten.map aA) nu mx tt) .normal (gH l Al r7 j' Em.length (Em.flatten.map aA) Gl Gg Gq):=by
 subst Du;have k1:=mq [0] 5 (nG 1 2 l mx tt h1 h2 h3);have k2:=mq [0] 5 (eB 10 l Cn D5 h5 h6);have k3:=mq [0] 5 (eB 36 l Co D7 h7 h8);rw [E7,E8];exact aB.fi (gI bq [1,2,3,7]) [bT,k1.o,k2.o,k3.o,bT,bT,bT,bT,bF,bF,bF,Df.k 2 (gI br di),Ow.k 1 (gI br di)] (gc De (gc Cb (gt ([(aA d0'221),(aA d1'222),(aA d2'223),(aA d3'224),(aA d4'225),(aA d5'226)].length=6) (by first | decide | simp) (gc Ow (gc Df (Ay (aQ A0) (A4 (bG h9) (gc k3 (gc k2 (gc h4 (gc k1 (g0 h0))))))))))))
theorem bIx(h9:(nu+Bf)≤1)(E4:aB Tp 1 zU (iO l Al r7 j dc (nu+Bf) Da D8 (nu+Bf) D6 Ct 0 0 0) .normal (iO l Al r7 j dc Gj Gd Gn c0'212 c1'213 c2'214 c3'215 c4'216 c5'217))(Df:aB Tp 1 qX (eQ l Al r7 j dc Gj Gd Gn c0'212 c1'213 c2'214 c3'215 c4'216 c5'217) .normal (eQ l Al r7 j dc Gl Gg Gq d0'221 d1'222 d2'223 d3'224 d4'225 d5'226))(Bh:[(aA d0'221),(aA d1'222),(aA d2'223),(aA d3'224),(aA d4'225),(aA d5'226)].length=1*6∧dc.length+1≤1000000)(Cb:dv j)(Du:j'=(j+1))(E7:Em.length=(dc.length+1))(E8:Em.flatten.map aA=((dc.flatten.map aA)++[(aA d0'221),(aA d1'222),(aA d2'223),(aA d3'224),(aA d4'225),(aA d5'226)])):aB Tp 1 zT (gH l Al r7 j dc.length (dc.flatten.map aA) nu mx tt) .normal (gH l Al r7 j' Em.length (Em.flatten.map aA) Gl Gg Gq):=by
 subst Du;have k1:=mq [0] 5 (nG 1 2 l mx tt h1 h2 h3);have k2:=mq [0] 5 (eB 10 l Cn D5 h5 h6);have k3:=mq [0] 5 (eB 36 l Co D7 h7 h8);rw [E7,E8];exact aB.fi (gI bq [1,2,3,7]) [bT,k1.o,k2.o,k3.o,bF,bF,bF,bF,E4.k 2 (gI br di),Df.k 1 (gI br di)] (gc Cb (gc Bh (gt ([(aA d0'221),(aA d1'222),(aA d2'223),(aA d3'224),(aA d4'225),(aA d5'226)].length=6) (by first | decide | simp) (gc Df (gc E4 (A4 (aQ h9) (gc k3 (gc k2 (gc h4 (gc k1 (g0 h0)))))))))))
end
theorem bIy(h0:r7≤(j:Int)):aB Tp 1 zT (gH l Al r7 j dc.length (dc.flatten.map aA) nu mx tt) (.exit 2) (gH l Al r7 j dc.length (dc.flatten.map aA) nu mx tt):=aB.fi (gI bq [1,2,3,4]) [bF] (gc (aQ h0) gn)
theorem bIz{Ox Oy Oz:Int}(h0:na=1)(h1:0≤ma∧ma≤1000000000)(h2:bA 5 l ma ta=(Ox,Oy,Oz)):aB Tp 1 zU (iO l Al r7 j dc na ma ta c0 c1 c2 c3 c4 c5) .normal (iO l Al r7 j dc na Oy Oz c0 Ox c2 c3 c4 c5):=have k1:=mq [0] 6 (eB 5 l ma ta h1 h2);aB.fi (gI br di) [bT,k1.o] (gc k1 (gc (cT h0) gn))
theorem bJa(h0:na≠1):aB Tp 1 zU (iO l Al r7 j dc na ma ta c0 c1 c2 c3 c4 c5) .normal (iO l Al r7 j dc na ma ta c0 c1 c2 c3 c4 c5):=aB.fi (gI br di) [bF] (gc (bE h0) gn)
section
variable(h0:d1≤4)(h1:0≤mb∧mb≤1000000000)(h2:bA (Al.length:Int) l mb tb=(Cw,Cu,Ee))(h3:Al[Cw.toNat]? = some [Es,Mt])(h4:0≤Cw)(h5:uni 2 Al)(h6:0≤Cu∧Cu≤1000000000)(h7:bA 8 l Cu Ee=(Ht,Gb,Hu))(h8:inR ((50:Int)*Ht))
include h0 h1 h2 h3 h4 h5 h6 h7 h8
theorem bJb{O0 O1 O2:Int}(h9:d1=2)(A0:0≤Gb∧Gb≤1000000000)(Bu:bA 3 l Gb Hu=(O0,O1,O2))(Bh:d1≠3):aB Tp 1 qX (eQ l Al r7 j dc nb mb tb d0 d1 d2 d3 d4 d5) .normal (eQ l Al r7 j dc nb O1 O2 d0 d1 d2 Es O0 d5):=have k1:=mq [0] 7 (eB (Al.length:Int) l mb tb h1 h2);have k2:=mq [0] 6 (eB 8 l Cu Ee h6 h7);have k3:=mq [0] 6 (eB 3 l Gb Hu A0 Bu);aB.fi (gI br di) [bT,k1.o,.x (aA Es),k2.o,bT,k3.o,bF] (gc (bE Bh) (gc k3 (gc (cT h9) (gc h8 (gc k2 (gt ((Al.flatten.map aA)[(Cw.toNat*2)]? = some (aA Es)) (iX (i:=Cw.toNat) (f:=0) h5 h3 rfl) (gc (aX (i:=Cw) h4 h3) (gc k1 (gc (aCh h0) gn)))))))))
theorem bJc(h9:d1≠2)(A0:d1=3)(Jl:Nq=(0:Int)):aB Tp 1 qX (eQ l Al r7 j dc nb mb tb d0 d1 d2 d3 d4 d5) .normal (eQ l Al r7 j dc nb Gb Hu d0 d1 d2 Es Nq d5):=by
 subst Jl;have k1:=mq [0] 7 (eB (Al.length:Int) l mb tb h1 h2);have k2:=mq [0] 6 (eB 8 l Cu Ee h6 h7);exact aB.fi (gI br di) [bT,k1.o,.x (aA Es),k2.o,bF,bT] (gc (cT A0) (gc (bE h9) (gc h8 (gc k2 (gt ((Al.flatten.map aA)[(Cw.toNat*2)]? = some (aA Es)) (iX (i:=Cw.toNat) (f:=0) h5 h3 rfl) (gc (aX (i:=Cw) h4 h3) (gc k1 (gc (aCh h0) gn))))))))
theorem bJd(h9:d1≠2)(A0:d1≠3)(Jl:Nq=((50:Int)*Ht)):aB Tp 1 qX (eQ l Al r7 j dc nb mb tb d0 d1 d2 d3 d4 d5) .normal (eQ l Al r7 j dc nb Gb Hu d0 d1 d2 Es Nq d5):=by
 subst Jl;have k1:=mq [0] 7 (eB (Al.length:Int) l mb tb h1 h2);have k2:=mq [0] 6 (eB 8 l Cu Ee h6 h7);exact aB.fi (gI br di) [bT,k1.o,.x (aA Es),k2.o,bF,bF] (gc (bE A0) (gc (bE h9) (gc h8 (gc k2 (gt ((Al.flatten.map aA)[(Cw.toNat*2)]? = some (aA Es)) (iX (i:=Cw.toNat) (f:=0) h5 h3 rfl) (gc (aX (i:=Cw) h4 h3) (gc k1 (gc (aCh h0) gn))))))))
end
section
variable(h0:(4:Int)<d1)(h1:inR (nb-6))(h2:inR (nb-1))(h3:0≤mb∧mb≤1000000000)(h4:(-1000000≤(if (nb-6) > 1 then (nb-6) else 1)∧(if (nb-6) > 1 then (nb-6) else 1)≤1000000) ∧ -1000000≤(nb-1)∧(nb-1)≤1000000)(h5:lD (if (nb-6) > 1 then (nb-6) else 1) (nb-1) l mb tb=(Cw,Cu,Ee))
include h0 h1 h2 h3 h4 h5
theorem bJe{Mw O3 O4:Int}(h6:d1=6)(h7:0≤Cu∧Cu≤1000000000)(h8:bA 8 l Cu Ee=(Mw,O3,O4))(h9:inR ((50:Int)*Mw))(Jl:Nq=((50:Int)*Mw)):aB Tp 1 qX (eQ l Al r7 j dc nb mb tb d0 d1 d2 d3 d4 d5) .normal (eQ l Al r7 j dc nb O3 O4 d0 d1 d2 d3 Nq Cw):=by
 subst Jl;have k1:=mq [0] 6 (nG (if (nb-6) > 1 then (nb-6) else 1) (nb-1) l mb tb h3 h4 h5);have k2:=mq [0] 6 (eB 8 l Cu Ee h7 h8);exact aB.fi (gI br di) [bF,k1.o,bT,k2.o] (gc h9 (gc k2 (gc (cT h6) (gc k1 (gc h2 (gc h1 (gc (kT h0) gn)))))))
theorem bJf(h6:d1≠6):aB Tp 1 qX (eQ l Al r7 j dc nb mb tb d0 d1 d2 d3 d4 d5) .normal (eQ l Al r7 j dc nb Cu Ee d0 d1 d2 d3 d4 Cw):=have k1:=mq [0] 6 (nG (if (nb-6) > 1 then (nb-6) else 1) (nb-1) l mb tb h3 h4 h5);aB.fi (gI br di) [bF,k1.o,bF] (gc (bE h6) (gc k1 (gc h2 (gc h1 (gc (kT h0) gn)))))
end
end
section
theorem bXq{sk:Lqq}{i:Nat}{a b:Int}(h:sk[i]? = some [a,b]):a∈aZ sk 0:=by
 unfold aZ;exact Bq.2 ⟨_,Bp h,rfl⟩
theorem aEx{sk:Lqq}{a k mi b mu ab:Int}(ha:1≤a∧a≤9999)(hk:0≤k∧k≤9)(hmi:0≤mi∧mi≤10000)(hmu:0≤mu∧mu≤36000)(hz:mu=0∨(k≠3∧k≠5∧k≤6))(hp:k≤4→b∈aZ sk 0∧ab=0)(hq:4<k→b=0∧1≤ab∧ab≤a-1) :
  dcB [a,k,mi,b,mu,ab]=true∧inB sk [a,k,mi,b,mu,ab]=true∧orB [a,k,mi,b,mu,ab]=true:=by
 have hm:mu≤nH k:=by
  unfold nH
  repeat' split
  all_goals first | omega | (simp_all;omega)
 refine ⟨lM.2 ⟨ha,hk,hmi,hmu.1,hm⟩,?_,?_⟩
 ·show (if k≤4 then (aZ sk 0).contains b else b == 0)=true
  by_cases h:k≤4
  ·rw [if_pos h];simpa using (hp h).1
  ·rw [if_neg h];simpa using (hq (by omega)).1
 ·show (if k≤4 then ab == 0 else within ab 1 (a-1))=true
  by_cases h:k≤4
  ·rw [if_pos h];simpa using (hp h).2
  ·rw [if_neg h];exact within_iff.2 (hq (by omega)).2
structure aXq (sk:Lqq) (dc:Lqq) (nu mx:Int) (j:Nat):Prop where
 ud:uni 6 dc
 len:dc.length=j
 num:0≤nu∧nu≤2*(j:Int)
 deck:0≤mx∧mx≤1000+20*(j:Int)
 mem:∀ x∈dc,(dcB x=true∧inB sk x=true∧orB x=true)∧x.getD 0 0≤nu
 up:dc.Pairwise fun a b=>a.getD 0 0<b.getD 0 0
theorem aXq.snoc{sk dc:Lqq}{nu mx:Int}{j:Nat}(h:aXq sk dc nu mx j){a k mi b mu ab Cm:Int}(hr:dcB [a,k,mi,b,mu,ab]=true∧inB sk [a,k,mi,b,mu,ab]=true∧orB [a,k,mi,b,mu,ab]=true)(ha:nu<a∧a≤nu+2)(hm:mx≤Cm∧Cm≤mx+20):aXq sk (dc++[[a,k,mi,b,mu,ab]]) a Cm (j+1):=by
 obtain ⟨h1,h2,h3,h4,h5,h6⟩:=h;refine ⟨aRt h1 rfl,by simp [h2],by omega,by omega,fun x hx => ?_,?_⟩
 ·rcases fV.1 hx with hx | hx
  ·exact ⟨(h5 x hx).1,by have:=(h5 x hx).2;omega⟩
  ·rw [List.mem_singleton.1 hx]
   exact ⟨hr,aXg _⟩
 ·rw [List.pairwise_append]
  refine ⟨h6,List.pairwise_singleton _ _,fun x hx y hy => ?_⟩
  rw [List.mem_singleton.1 hy];have:=(h5 x hx).2;show x.getD 0 0<a;omega
theorem cFd{l:List Int}{Al dc:Lqq}{r7 na ma ta c0 c1 c2 c3 c4 c5:Int}{j:Nat}(hm:0≤ma∧ma≤1000000000)(hc:0≤c1∧c1≤9) :
  ∃ m t k,(ma≤m∧m≤ma+1)∧(0≤k∧k≤9)∧(na=1→k≤4)∧aB Tp 1 (sub (cd Tryz.f7) av) (iO l Al r7 j dc na ma ta c0 c1 c2 c3 c4 c5) .normal (iO l Al r7 j dc na m t c0 k c2 c3 c4 c5):=by
 by_cases h:na=1
 ·obtain ⟨r,m,t,e⟩:∃ r m t,bA (5:Int) l ma ta=(r,m,t):=⟨_,_,_,rfl⟩
  have b:=eL (5:Int) l ma ta;rw [e] at b
  dsimp only at b
  exact ⟨m,t,r,by omega,by omega,fun _=>by omega,bIz h hm e⟩
 ·exact ⟨ma,ta,c1,by omega,hc,fun q=>absurd q h,bJa h⟩
theorem cFe{l:List Int}{Al dc:Lqq}{r7 nb mb tb d1 d2:Int}{j:Nat}(hm:0≤mb∧mb≤100000000)(hn:1≤nb∧nb≤1000)(hk:0≤d1∧d1≤9)(J4:nb=1→d1≤4)(h2:0≤d2∧d2≤10000)(Jf:uni 2 Al)(hs:1≤Al.length∧Al.length≤100) :
  ∃ m t b mu ab,(mb≤m∧m≤mb+3)∧(dcB [nb,d1,d2,b,mu,ab]=true∧inB Al [nb,d1,d2,b,mu,ab]=true∧orB [nb,d1,d2,b,mu,ab]=true) ∧
   aB Tp 1 (sub (cd Tryz.f7) ar) (eQ l Al r7 j dc nb mb tb nb d1 d2 0 0 0) .normal (eQ l Al r7 j dc nb m t nb d1 d2 b mu ab):=by
 by_cases h4:d1≤4
 ·obtain ⟨r,m1,t1,e1⟩:∃ r m t,bA (Al.length:Int) l mb tb=(r,m,t):=⟨_,_,_,rfl⟩
  have b1:=eL (Al.length:Int) l mb tb;rw [e1] at b1
  dsimp only at b1
  have hr:0≤r∧r.toNat<Al.length:=by omega
  obtain ⟨a,t',ha⟩:=len2 (Jf _ (fG hr.2));have hx:Al[r.toNat]? = some [a,t']:=by rw [Av hr.2,ha]
  obtain ⟨r8,m2,t2,e2⟩:∃ r m t,bA (8:Int) l m1 t1=(r,m,t):=⟨_,_,_,rfl⟩;have b2:=eL (8:Int) l m1 t1;rw [e2] at b2
  dsimp only at b2
  have hp:d1≤4→a∈aZ Al 0∧(0:Int)=0:=fun _=>⟨bXq hx,rfl⟩
  by_cases k2:d1=2
  ·obtain ⟨r3,m3,t3,e3⟩:∃ r m t,bA (3:Int) l m2 t2=(r,m,t):=⟨_,_,_,rfl⟩
   have b3:=eL (3:Int) l m2 t2;rw [e3] at b3
   dsimp only at b3
   exact ⟨m3,t3,a,r3,0,by omega,aEx (by omega) hk h2 (by omega) (.inr (by omega)) hp (fun q=>by omega),bJb h4 (by omega) e1 hx hr.1 Jf (by omega) e2 (by show _∧_;omega) k2 (by omega) e3 (by omega)⟩
  ·by_cases k3:d1=3
   ·exact ⟨m2,t2,a,0,0,by omega,aEx (by omega) hk h2 (by omega) (.inl rfl) hp (fun q=>by omega),bJc h4 (by omega) e1 hx hr.1 Jf (by omega) e2 (by show _∧_;omega) k2 k3 rfl⟩
   ·exact ⟨m2,t2,a,50*r8,0,by omega,aEx (by omega) hk h2 (by omega) (.inr (by omega)) hp (fun q=>by omega),bJd h4 (by omega) e1 hx hr.1 Jf (by omega) e2 (by show _∧_;omega) k2 k3 rfl⟩
 ·have hg:(if nb-6 > (1:Int) then nb-6 else 1)=max 1 (nb-6):=by split <;> omega
  obtain ⟨r,m1,t1,e1⟩:∃ r m t,lD (if nb-(6:Int) > (1:Int) then nb-(6:Int) else (1:Int)) (nb-(1:Int)) l mb tb=(r,m,t):=⟨_,_,_,rfl⟩
  have b1:=uG (if nb-(6:Int) > (1:Int) then nb-(6:Int) else (1:Int)) (nb-(1:Int)) l mb tb
  rw [e1] at b1
  dsimp only at b1
  have Ja:nb≠1:=fun q=>h4 (J4 q)
  have hlo:1≤(if nb-(6:Int) > (1:Int) then nb-(6:Int) else (1:Int))∧(if nb-(6:Int) > (1:Int) then nb-(6:Int) else (1:Int))≤nb-1:=by rw [hg];omega
  have hq:4<d1→(0:Int)=0∧1≤r∧r≤nb-1:=fun _=>⟨rfl,by omega,by omega⟩
  by_cases k6:d1=6
  ·obtain ⟨r8,m2,t2,e2⟩:∃ r m t,bA (8:Int) l m1 t1=(r,m,t):=⟨_,_,_,rfl⟩
   have b2:=eL (8:Int) l m1 t1;rw [e2] at b2
   dsimp only at b2
   exact ⟨m2,t2,0,50*r8,r,by omega,aEx (by omega) hk h2 (by omega) (.inr (by omega)) (fun q=>absurd q h4) hq,bJe (by omega) (by show _∧_;omega) (by show _∧_;omega) (by omega) (by omega) e1 k6 (by omega) e2 (by show _∧_;omega) rfl⟩
  ·exact ⟨m1,t1,0,0,r,by omega,aEx (by omega) hk h2 (by omega) (.inl rfl) (fun q=>absurd q h4) hq,bJf (by omega) (by show _∧_;omega) (by show _∧_;omega) (by omega) (by omega) e1 k6⟩
theorem bXr{l:List Int}{Al dc:Lqq}{r7 nu mx tt:Int}{j:Nat}(hI:aXq Al dc nu mx j)(hj:(j:Int)<r7)(hr:r7≤100)(Jf:uni 2 Al)(hs:1≤Al.length∧Al.length≤100) :
  ∃ Em Qv Cm Ed,aXq Al Em Qv Cm (j+1)∧aB Tp 1 (sub (cd Tryz.f7) cj) (gH l Al r7 j dc.length (dc.flatten.map aA) nu mx tt) .normal (gH l Al r7 (j+1) Em.length (Em.flatten.map aA) Qv Cm Ed):=by
 have hlen:=hI.len;have hnum:=hI.num;have hdeck:=hI.deck;obtain ⟨Bf,Cn,D5,e3⟩:∃ r m t,lD (1:Int) (2:Int) l mx tt=(r,m,t):=⟨_,_,_,rfl⟩;have b3:=uG (1:Int) (2:Int) l mx tt;rw [e3] at b3
 dsimp only at b3
 obtain ⟨D6,Co,D7,e6⟩:∃ r m t,bA (10:Int) l Cn D5=(r,m,t):=⟨_,_,_,rfl⟩;have b6:=eL (10:Int) l Cn D5;rw [e6] at b6
 dsimp only at b6
 obtain ⟨Ct,Da,D8,e8⟩:∃ r m t,bA (36:Int) l Co D7=(r,m,t):=⟨_,_,_,rfl⟩;have b8:=eL (36:Int) l Co D7;rw [e8] at b8
 dsimp only at b8
 have hin:inR (((j+1):Nat):Int):=aI (by omega)
 have rest:∀ (m t k:Int),(Da≤m∧m≤Da+1)→(0≤k∧k≤9)→∃ m1 t1 k1 m2 t2 b mu ab,(mx≤m2∧m2≤mx+20)∧(dcB [nu+Bf,k1,Ct,b,mu,ab]=true∧inB Al [nu+Bf,k1,Ct,b,mu,ab]=true∧orB [nu+Bf,k1,Ct,b,mu,ab]=true) ∧
   aB Tp 1 (sub (cd Tryz.f7) av) (iO l Al r7 j dc (nu+Bf) m t (nu+Bf) k Ct 0 0 0) .normal (iO l Al r7 j dc (nu+Bf) m1 t1 (nu+Bf) k1 Ct 0 0 0) ∧
   aB Tp 1 (sub (cd Tryz.f7) ar) (eQ l Al r7 j dc (nu+Bf) m1 t1 (nu+Bf) k1 Ct 0 0 0) .normal (eQ l Al r7 j dc (nu+Bf) m2 t2 (nu+Bf) k1 Ct b mu ab):=fun m t k hm hk=>by
  obtain ⟨m1,t1,k1,q1,q2,q3,q4⟩:=cFd (l:=l) (Al:=Al) (dc:=dc) (r7:=r7) (na:=nu+Bf) (ma:=m) (ta:=t) (c0:=nu+Bf) (c1:=k) (c2:=Ct) (c3:=0) (c4:=0) (c5:=0) (j:=j) (by omega) hk
  obtain ⟨m2,t2,b,mu,ab,s1,s2,s3⟩:=cFe (l:=l) (Al:=Al) (dc:=dc) (r7:=r7) (nb:=nu+Bf) (mb:=m1) (tb:=t1) (d1:=k1) (d2:=Ct) (j:=j) (by omega) (by omega) q2 q3 (by omega) Jf hs
  exact ⟨m1,t1,k1,m2,t2,b,mu,ab,by omega,s2,q4,s3⟩
 by_cases h1:1<nu+Bf
 ·by_cases h5:D6<5
  ·obtain ⟨c,Hr,Hs,R6⟩:∃ r m t,aG (3:Int) l Da D8=(r,m,t):=⟨_,_,_,rfl⟩
   have T8:=nE (3:Int) l Da D8;rw [R6] at T8
   dsimp only at T8
   cases c with
   | true =>
    obtain ⟨m1,t1,k1,m2,t2,b,mu,ab,q1,q2,q3,q4⟩:=rest Hr Hs 7 (by omega) (by omega)
    exact ⟨_,_,_,_,hI.snoc q2 (by omega) q1,bIu (Em:=dc++[[nu+Bf,k1,Ct,b,mu,ab]]) hj (by omega) (by omega) e3 (by show _∧_;omega) (by omega) e6 (by omega) e8 h1 h5 (by omega) R6 rfl q3 q4 ⟨rfl,by omega⟩ hin rfl (by simp) (by simp)⟩
   | false =>
    obtain ⟨m1,t1,k1,m2,t2,b,mu,ab,q1,q2,q3,q4⟩:=rest Hr Hs D6 (by omega) (by omega)
    exact ⟨_,_,_,_,hI.snoc q2 (by omega) q1,bIv (Em:=dc++[[nu+Bf,k1,Ct,b,mu,ab]]) hj (by omega) (by omega) e3 (by show _∧_;omega) (by omega) e6 (by omega) e8 h1 h5 (by omega) R6 rfl q3 q4 ⟨rfl,by omega⟩ hin rfl (by simp) (by simp)⟩
  ·obtain ⟨m1,t1,k1,m2,t2,b,mu,ab,q1,q2,q3,q4⟩:=rest Da D8 D6 (by omega) (by omega)
   exact ⟨_,_,_,_,hI.snoc q2 (by omega) q1,bIw (Em:=dc++[[nu+Bf,k1,Ct,b,mu,ab]]) hj (by omega) (by omega) e3 (by show _∧_;omega) (by omega) e6 (by omega) e8 h1 (by omega) q3 q4 ⟨rfl,by omega⟩ hin rfl (by simp) (by simp)⟩
 ·obtain ⟨m1,t1,k1,m2,t2,b,mu,ab,q1,q2,q3,q4⟩:=rest Da D8 D6 (by omega) (by omega)
  exact ⟨_,_,_,_,hI.snoc q2 (by omega) q1,bIx (Em:=dc++[[nu+Bf,k1,Ct,b,mu,ab]]) hj (by omega) (by omega) e3 (by show _∧_;omega) (by omega) e6 (by omega) e8 (by omega) q3 q4 ⟨rfl,by omega⟩ hin rfl (by simp) (by simp)⟩
end
section

abbrev dN(x:List Int):Int:=x.getD 0 0
abbrev dK(x:List Int):Int:=x.getD 1 0
abbrev dMi(x:List Int):Int:=x.getD 2 0
abbrev dB(x:List Int):Int:=x.getD 3 0
abbrev dMu(x:List Int):Int:=x.getD 4 0
abbrev dAb(x:List Int):Int:=x.getD 5 0
def jR(k:Int):Bool:=k == 4 || k == 7
def cU(k:Int):Bool:=k == 8 || k == 9

def bN(dc:Lqq)(n:Int):Lqq:=dc.reverse.filter fun x=>dAb x == n

structure DS where
 x:List Int
 cnt:Bool
 upd:Bool
 rul:Option (List Int)
 chg:Option (List Int)
 much:Int

def jG(t:List DS)(n:Int):List DS:=t.reverse.filter fun s=>dAb s.x == n
def vG(dl:Int)(x:List Int):Bool:=jR (dK x) && decide (dl<dMi x)
def yE(x y:List Int):Bool:=dK y == 5 || (dK y == 7 && !cU (dK x))
def bSy(x:List Int)(s:DS):Bool:=yE x s.x && s.cnt && (dK s.x == 5 || s.upd)
def mkS(dl:Int)(oc x:List Int)(t:List DS):DS :=
 ⟨x,!vG dl x && !((jG t (dN x)).any (bSy x)),
  match (jG t (dN x)).find? fun s=>cU (dK s.x) && s.cnt with
   | some s=>dK s.x == 8
   | none=>oc.contains (dN x),
  ((jG t (dN x)).find? fun s=>cU (dK s.x) && s.cnt).map (·.x),
  ((jG t (dN x)).find? fun s=>dK s.x == 6 && s.cnt).map (·.x),
  match (jG t (dN x)).find? fun s=>dK s.x == 6 && s.cnt with
   | some s=>s.much
   | none=>dMu x⟩
def eY(dl:Int)(oc:List Int):Lqq→List DS
 | []=>[]
 | x::r=>mkS dl oc x (eY dl oc r)::eY dl oc r

theorem aNq(dl:Int)(oc:List Int):∀ dc:Lqq,(eY dl oc dc).map (·.x)=dc
 | []=>rfl
 | x::r=>by rw [eY,iB,aNq dl oc r];rfl
theorem bZt(dl:Int)(oc:List Int)(dc:Lqq)(n:Int):(jG (eY dl oc dc) n).map (·.x)=bN dc n:=by
 unfold jG bN
 conv=>rhs;rw [← aNq dl oc dc]
 rw [← List.map_reverse,List.filter_map];rfl

structure bZ (dc:Lqq):Prop where
 ud:uni 6 dc
 len:dc.length≤1000
 rng:∀ x∈dc,dcB x=true
 up:dc.Pairwise fun a b=>dN a<dN b
 ord:∀ x∈dc,orB x=true

theorem bZ.tail{x:List Int}{r:Lqq}(h:bZ (x::r)):bZ r :=
 ⟨fun y hy=>h.ud y (Cj _ hy),by have:=h.len;simp at this;omega,fun y hy=>h.rng y (Cj _ hy),(bXj.1 h.up).2,fun y hy=>h.ord y (Cj _ hy)⟩
theorem aZb{a r:Lqq}{x:List Int}(h:bZ (a++x::r)):bN (a++x::r) (dN x)=bN r (dN x):=by
 unfold bN;have e:a++x::r=(a++[x])++r:=by simp
 rw [e,List.reverse_append,oJ];have:(a++[x]).reverse.filter (fun y=>dAb y == dN x)=[]:=by
  rw [List.filter_eq_nil_iff];intro y hy;have hy:y∈a++[x]:=aCg.1 hy;have hm:y∈a++x::r:=by rw [e];exact mK _ hy
  have Nt:1≤dN x:=(lM.1 (h.rng x (by simp))).1.1
  have hle:dN y≤dN x:=by
   rcases fV.1 hy with hy | hy
   ·exact Int.le_of_lt ((List.pairwise_append.1 h.up).2.2 y hy x (by simp))
   ·simp at hy;rw [hy];exact aXg _
  have ho:=h.ord y hm;unfold orB at ho
  simp only [beq_iff_eq];show ¬ y.getD 5 0=x.getD 0 0
  split at ho
  ·have:y.getD 5 0=0:=by simpa using ho
   unfold dN at Nt;omega
  ·have:=within_iff.1 ho
   unfold dN at hle;omega
 rw [this,List.append_nil]

def aBn(L:List (Int × Lqq))(k:Int):Lqq:=match L.find? fun e=>e.1 == k with
 | some e=>e.2
 | none=>[]
def aId(L:List (Int × Lqq))(k:Int)(v:Lqq):List (Int × Lqq):=if L.any (fun e=>e.1 == k) then L.map (fun e=>if e.1 == k then (k,v) else e) else L++[(k,v)]
def jH(L:List (Int × Lqq))(x:List Int):List (Int × Lqq):=if 0<dAb x then aId L (dAb x) (aBn L (dAb x)++[x]) else L
def abM(dc:Lqq):List (Int × Lqq):=dc.reverse.foldl jH []

structure aSc (q:Lqq) (L:List (Int × Lqq)):Prop where
 nd:(L.map (·.1)).Nodup
 mem:∀ e∈L,0<e.1∧e.2≠[]∧e.2=q.filter fun x=>dAb x == e.1
 all:∀ x∈q,0<dAb x→dAb x∈L.map (·.1)
theorem aSc.look{q:Lqq}{L:List (Int × Lqq)}(h:aSc q L){n:Int}(hn:0<n):aBn L n=q.filter fun x=>dAb x == n:=by
 unfold aBn;cases hf:L.find? fun e=>e.1 == n with
 | some e =>
  have h1:=xV hf;have h2:e.1=n:=by simpa using aXf hf
  rw [← h2];exact (h.mem e h1).2.2
 | none =>
  symm;rw [List.filter_eq_nil_iff];intro x hx he;have he:dAb x=n:=by simpa using he
  obtain ⟨e,h1,h2⟩:=Bq.1 (h.all x hx (by omega))
  have:=aHx.1 hf e h1;exact this (by rw [h2,he];exact beq_self_eq_true n)
theorem bSz{L:List (Int × Lqq)}{k:Int}{v:Lqq}{e:Int × Lqq}(h:e∈aId L k v):e=(k,v)∨(e∈L∧e.1≠k):=by
 unfold aId at h
 split at h
 ·obtain ⟨z,hz,rfl⟩:=Bq.1 h
  by_cases hk:z.1=k
  ·left;simp [hk]
  ·right;simp [hk,hz]
 ·rename_i hn
  rcases fV.1 h with h | h
  ·right
   refine ⟨h,fun hk=>hn (List.any_eq_true.2 ⟨e,h,by simpa using hk⟩)⟩
  ·left;simpa using h
theorem bKu{L:List (Int × Lqq)}{k:Int}{v:Lqq}:(k∈L.map (·.1)∧(aId L k v).map (·.1)=L.map (·.1))∨(k∉L.map (·.1)∧(aId L k v).map (·.1)=L.map (·.1)++[k]):=by
 unfold aId
 by_cases h:L.any (fun e=>e.1 == k)=true
 ·left
  rw [if_pos h];refine ⟨?_,?_⟩
  ·obtain ⟨e,h1,h2⟩:=List.any_eq_true.1 h
   exact Bq.2 ⟨e,h1,by simpa using h2⟩
  ·rw [uT]
   refine xW fun e _ => ?_
   by_cases hk:e.1=k
   ·simp [hk]
   ·simp [hk]
 ·right
  rw [if_neg h];refine ⟨fun hm=>h ?_,by simp⟩
  obtain ⟨e,h1,h2⟩:=Bq.1 hm;exact List.any_eq_true.2 ⟨e,h1,by simpa using h2⟩
theorem aSc.step{q:Lqq}{L:List (Int × Lqq)}(h:aSc q L)(x:List Int)(hx:0≤dAb x):aSc (q++[x]) (jH L x):=by
 unfold jH
 by_cases hp:0<dAb x
 ·rw [if_pos hp]
  have hk:=bKu (L:=L) (k:=dAb x) (v:=aBn L (dAb x)++[x]);refine ⟨?_,fun e he => ?_,fun y hy h0 => ?_⟩
  ·rcases hk with ⟨_,hk⟩ | ⟨hn,hk⟩
   ·rw [hk];exact h.nd
   ·rw [hk,List.nodup_append]
    exact ⟨h.nd,by simp,fun a ha b hb he=>hn (by rw [← List.mem_singleton.1 hb,← he];exact ha)⟩
  ·rcases bSz he with rfl | ⟨h1,h2⟩
   ·refine ⟨hp,by simp,?_⟩
    dsimp only;rw [h.look hp,oJ];simp
   ·obtain ⟨q1,q2,q3⟩:=h.mem e h1
    refine ⟨q1,q2,?_⟩;rw [oJ,← q3];have:[x].filter (fun y=>dAb y == e.1)=[]:=by
     rw [List.filter_eq_nil_iff];intro y hy;simp at hy
     subst hy;simpa using fun he=>h2 he.symm
    rw [this,List.append_nil]
  ·have:dAb y=dAb x∨dAb y∈L.map (·.1):=by
    rcases fV.1 hy with hy | hy
    ·exact .inr (h.all y hy h0)
    ·simp at hy;left;rw [hy]
   rcases hk with ⟨hm,hk⟩ | ⟨hn,hk⟩
   ·rw [hk]
    rcases this with h1 | h1
    ·rw [h1];exact hm
    ·exact h1
   ·rw [hk]
    rcases this with h1 | h1
    ·rw [h1];simp
    ·exact mK _ h1
 ·rw [if_neg hp]
  have h0:dAb x=0:=by omega
  refine ⟨h.nd,fun e he => ?_,fun y hy h1 => ?_⟩
  ·obtain ⟨q1,q2,q3⟩:=h.mem e he
   refine ⟨q1,q2,?_⟩;rw [oJ,← q3];have:[x].filter (fun y=>dAb y == e.1)=[]:=by
    rw [List.filter_eq_nil_iff];intro y hy;simp at hy
    subst hy;simp only [beq_iff_eq];omega
   rw [this,List.append_nil]
  ·rcases fV.1 hy with hy | hy
   ·exact h.all y hy h1
   ·simp at hy;rw [hy] at h1;omega
theorem aAa:∀ (p q:Lqq) (L:List (Int × Lqq)),aSc q L→(∀ x∈p,0≤dAb x)→aSc (q++p) (p.foldl jH L)
 | [],q,L,h,_=>by simpa using h
 | x::p,q,L,h,hp=>by
  have:=aAa p (q++[x]) (jH L x) (h.step x (hp x (iN ..))) (fun y hy=>hp y (Cj _ hy))
  simpa using this
theorem pR{dc:Lqq}(h:bZ dc):∀ x∈dc,0≤dAb x∧dAb x≤9998:=fun x hx=>by
 have h1:=lM.1 (h.rng x hx);have ho:=h.ord x hx;unfold orB at ho
 show 0≤x.getD 5 0∧x.getD 5 0≤9998
 split at ho
 ·have:x.getD 5 0=0:=by simpa using ho
  omega
 ·have:=within_iff.1 ho;omega
theorem aZc{dc:Lqq}(h:bZ dc):aSc dc.reverse (abM dc):=by
 have:=aAa dc.reverse [] [] ⟨by simp,fun e he=>(by cases he),fun x hx=>(by cases hx)⟩ (fun x hx=>(pR h x (by simpa using hx)).1)
 simpa [abM] using this
theorem bTa{dc:Lqq}(h:bZ dc){n:Int}(hn:0<n):aBn (abM dc) n=bN dc n:=(aZc h).look hn
end
section

def stF(dl:Int)(oc:List Int)(dc:Lqq)(x:List Int):DS:=((eY dl oc dc).find? fun s=>s.x == x).getD (mkS dl oc x [])
def dX(dl:Int)(oc:List Int)(dc:Lqq)(x:List Int):Bool:=(stF dl oc dc x).cnt
def aIc(dl:Int)(oc:List Int)(dc:Lqq)(x:List Int):Bool:=(stF dl oc dc x).upd
def wK(dl:Int)(oc:List Int)(dc:Lqq)(x:List Int):Option (List Int):=(stF dl oc dc x).rul
def aNp(dl:Int)(oc:List Int)(dc:Lqq)(x:List Int):Option (List Int):=(stF dl oc dc x).chg
def pQ(dl:Int)(oc:List Int)(dc:Lqq)(x:List Int):Int:=(stF dl oc dc x).much

theorem aSa{a r:Lqq}{x:List Int}(h:bZ (a++x::r)){y:List Int}(hy:y∈a):dN y<dN x:=(List.pairwise_append.1 h.up).2.2 y hy x (by simp)
theorem aSb(dl:Int)(oc:List Int){x:List Int}{r:Lqq}:∀ (a:Lqq),bZ (a++x::r)→(eY dl oc (a++x::r)).find? (fun s=>s.x == x)=some (mkS dl oc x (eY dl oc r))
 | [],h=>by
  simp only [List.nil_append,eY];rw [List.find?_cons_of_pos];show (mkS dl oc x (eY dl oc r)).x == x;exact beq_self_eq_true x
 | y::a,h=>by
  simp only [List.cons_append,eY];rw [List.find?_cons_of_neg,aSb dl oc a h.tail];show ¬ ((mkS dl oc y (eY dl oc (a++x::r))).x == x)=true;have h1:=aSa h (y:=y) (by simp)
  intro he;have:y=x:=by simpa [mkS] using he
  rw [this] at h1;omega
theorem aFi{dl:Int}{oc:List Int}{a r:Lqq}{x:List Int}(h:bZ (a++x::r)):stF dl oc (a++x::r) x=mkS dl oc x (eY dl oc r):=by
 unfold stF;rw [aSb dl oc a h];rfl
theorem bEk(dl:Int)(oc:List Int)(r:Lqq):∀ a:Lqq,∃ l,eY dl oc (a++r)=l++eY dl oc r
 | []=>⟨[],rfl⟩
 | y::a=>by
  obtain ⟨l,h⟩:=bEk dl oc r a;exact ⟨mkS dl oc y (eY dl oc (a++r))::l,by simp [eY,h]⟩
theorem bEl{dl:Int}{oc:List Int}{s:DS}:∀ {dc:Lqq},s∈eY dl oc dc→∃ a r,dc=a++s.x::r∧s=mkS dl oc s.x (eY dl oc r)
 | [],h=>by simp [eY] at h
 | y::q,h=>by
  simp only [eY,gK] at h
  rcases h with rfl | h
  ·exact ⟨[],q,rfl,rfl⟩
  ·obtain ⟨a,r,h1,h2⟩:=bEl h
   exact ⟨y::a,r,by rw [h1];rfl,h2⟩
theorem bKt{dl:Int}{oc:List Int}{dc:Lqq}{s:DS}(h:bZ dc)(hs:s∈eY dl oc dc):stF dl oc dc s.x=s:=by
 obtain ⟨a,r,h1,h2⟩:=bEl hs;subst h1;rw [aFi h,← h2]
theorem aZa{dl:Int}{oc:List Int}{dc:Lqq}{x:List Int}(h:bZ dc)(hx:x∈dc):(stF dl oc dc x).x=x:=by
 obtain ⟨a,r,rfl⟩:=List.append_of_mem hx;rw [aFi h];rfl
theorem sZ{dl:Int}{oc:List Int}{a r:Lqq}{x:List Int}(h:bZ (a++x::r)):jG (eY dl oc r) (dN x)=(bN (a++x::r) (dN x)).map (stF dl oc (a++x::r)):=by
 rw [aZb h,← bZt dl oc r (dN x),uT]
 conv=>lhs;rw [← List.map_id (jG (eY dl oc r) (dN x))]
 refine xW fun s hs => ?_
 have hs:s∈eY dl oc r:=by
  unfold jG at hs
  exact aCg.1 (qR.1 hs).1
 have e:a++x::r=(a++[x])++r:=by simp
 have:s∈eY dl oc (a++x::r):=by
  obtain ⟨l,hl⟩:=bEk dl oc r (a++[x]);rw [e,hl];exact zQ _ hs
 exact (bKt h this).symm

theorem eJ{dc:Lqq}{n:Int}{y:List Int}(h:y∈bN dc n):y∈dc∧dAb y=n:=by
 unfold bN at h
 obtain ⟨h1,h2⟩:=qR.1 h;exact ⟨aCg.1 h1,by simpa using h2⟩
section
variable {dl:Int} {oc:List Int} {dc:Lqq} {x:List Int}
theorem cHu(h:bZ dc)(l:Lqq)(hl:∀ y∈l,y∈dc)(f:DS→Bool)(g:List Int→Bool)(hfg:∀ y∈dc,f (stF dl oc dc y)=g y):(l.map (stF dl oc dc)).any f=l.any g:=by
 rw [List.any_map]
 induction l with
 | nil=>rfl
 | cons y l ih =>
  rw [List.any_cons,List.any_cons,ih fun z hz=>hl z (Cj _ hz)]
  rw [Function.comp,hfg y (hl y (iN ..))]
theorem aCt(h:bZ dc)(l:Lqq)(hl:∀ y∈l,y∈dc)(f:DS→Bool)(g:List Int→Bool)(hfg:∀ y∈dc,f (stF dl oc dc y)=g y):(l.map (stF dl oc dc)).find? f=(l.find? g).map (stF dl oc dc):=by
 induction l with
 | nil=>rfl
 | cons y l ih =>
  rw [iB,List.find?_cons,List.find?_cons,hfg y (hl y (iN ..)),ih fun z hz=>hl z (Cj _ hz)]
  cases g y <;> rfl
theorem cHv(h:bZ dc)(hx:x∈dc):dX dl oc dc x=(!vG dl x && !((bN dc (dN x)).any fun y=>yE x y && dX dl oc dc y && (dK y == 5 || aIc dl oc dc y))):=by
 obtain ⟨a,r,rfl⟩:=List.append_of_mem hx;unfold dX;rw [aFi h];simp only [mkS];rw [sZ h,cHu (dl:=dl) (oc:=oc) h _ (fun y hy=>(eJ hy).1) (bSy x) (fun y=>yE x y && dX dl oc (a++x::r) y && (dK y == 5 || aIc dl oc (a++x::r) y)) (fun y hy => ?_)]
 ·rfl
 ·unfold bSy dX aIc
  rw [aZa h hy]
theorem vF{l:Lqq}{g:List Int→Bool}{y:List Int}(h:l.find? g=some y):y∈l:=xV h
theorem aFj(h:bZ dc)(l:Lqq)(hl:∀ y∈l,y∈dc)(g:List Int→Bool):((l.find? g).map (stF dl oc dc)).map (·.x)=l.find? g:=by
 cases hf:l.find? g with
 | none=>rfl
 | some y=>simp only [Option.map_some];rw [aZa h (hl y (vF hf))]
theorem aFk(h:bZ dc)(hx:x∈dc):wK dl oc dc x=(bN dc (dN x)).find? fun y=>cU (dK y) && dX dl oc dc y:=by
 obtain ⟨a,r,rfl⟩:=List.append_of_mem hx;unfold wK;rw [aFi h];simp only [mkS];rw [sZ h,aCt (dl:=dl) (oc:=oc) h _ (fun y hy=>(eJ hy).1) _ (fun y=>cU (dK y) && dX dl oc (a++x::r) y) (fun y hy => ?_),aFj h _ (fun y hy=>(eJ hy).1)]
 unfold dX;rw [aZa h hy]
theorem cHw(h:bZ dc)(hx:x∈dc):aIc dl oc dc x=match wK dl oc dc x with | some y=>dK y == 8 | none=>oc.contains (dN x):=by
 rw [aFk h hx];obtain ⟨a,r,rfl⟩:=List.append_of_mem hx;unfold aIc;rw [aFi h];simp only [mkS];rw [sZ h,aCt (dl:=dl) (oc:=oc) h _ (fun y hy=>(eJ hy).1) _ (fun y=>cU (dK y) && dX dl oc (a++x::r) y) (fun y hy => ?_)]
 ·cases hf:(bN (a++x::r) (dN x)).find? fun y=>cU (dK y) && dX dl oc (a++x::r) y with
  | none=>rfl
  | some y=>simp only [Option.map_some];rw [aZa h (eJ (vF hf)).1]
 ·unfold dX;rw [aZa h hy]
theorem aFl(h:bZ dc)(hx:x∈dc):aNp dl oc dc x=(bN dc (dN x)).find? fun y=>dK y == 6 && dX dl oc dc y:=by
 obtain ⟨a,r,rfl⟩:=List.append_of_mem hx;unfold aNp;rw [aFi h];simp only [mkS];rw [sZ h,aCt (dl:=dl) (oc:=oc) h _ (fun y hy=>(eJ hy).1) _ (fun y=>dK y == 6 && dX dl oc (a++x::r) y) (fun y hy => ?_),aFj h _ (fun y hy=>(eJ hy).1)]
 unfold dX;rw [aZa h hy]
theorem bEm(h:bZ dc)(hx:x∈dc):pQ dl oc dc x=match aNp dl oc dc x with | some y=>pQ dl oc dc y | none=>dMu x:=by
 rw [aFl h hx];obtain ⟨a,r,rfl⟩:=List.append_of_mem hx;unfold pQ;rw [aFi h];simp only [mkS];rw [sZ h,aCt (dl:=dl) (oc:=oc) h _ (fun y hy=>(eJ hy).1) _ (fun y=>dK y == 6 && dX dl oc (a++x::r) y) (fun y hy => ?_)]
 ·cases hf:(bN (a++x::r) (dN x)).find? fun y=>dK y == 6 && dX dl oc (a++x::r) y with
  | none=>rfl
  | some y=>rfl
 ·unfold dX;rw [aZa h hy]
theorem bSx(h:bZ dc){y:List Int}(hy:y∈dc){n:Int}(hn:dAb y=n)(h1:1≤n):n<dN y:=by
 have ho:=h.ord y hy;unfold orB at ho
 split at ho
 ·have:y.getD 5 0=0:=by simpa using ho
  rw [show y.getD 5 0=dAb y from rfl] at this;omega
 ·have:=within_iff.1 ho
  rw [show y.getD 5 0=dAb y from rfl] at this
  rw [show y.getD 0 0=dN y from rfl] at this
  omega
end
end
section

theorem cMm{dc:Lqq}{base:Nat}:FV Tp 89 [(.p (fS dc))] base (.fn 157 [] [(.rp [(fS dc)] 0)]) []:=FV.fi func89 [.g 3 ⟨[],[],[0],[]⟩] gn
end
section
variable {P:Program} {C C0:Cx} {M M0:Mem} {w w0:World}

theorem bP{w:World}{b:Nat}{o:Obj}(h:w.heap[b]? = some o):b<w.heap.size:=(qP.1 h).1

theorem aFq(hM:aO P C M w){w':World}(hsz:w.heap.size≤w'.heap.size)(hF:∀ b,C.F b→w'.heap[b]? = w.heap[b]?)(hL:∀ (id:Nat) (o:AO) (b:Nat),M[id]? = some (some o)→o.live=true→C.ι id=some b→w'.heap[b]? = w.heap[b]?) :
  aO P C M w'∧Le C C M M w w':=by
 have hle:Le C C M M w w':=⟨fun _ o h=>⟨o,h⟩,fun _ _ _ _ _ cs h=>⟨cs,h⟩,fun _ o h o' h' hl=>by rw [h] at h';cases h';exact ⟨hl,rfl,rfl⟩,fun _ h=>h,hF⟩
 refine ⟨⟨fun i Cr n cs hm => ?_,fun i Cr cs hm => ?_,fun i es cl hm => ?_,hM.inj,hM.nF,fun b hb=>fU (hM.Fs b hb) hsz,fun i x b hm hl hb=>fU (hM.lt i x b hm hl hb) hsz⟩,hle⟩
 ·rcases hM.row _ _ _ _ hm with h4 | ⟨b,arr,inf,q0,q1,q2,q3,q4,q5,q6,q7,q8⟩
  ·exact .inl h4
  ·exact .inr ⟨b,arr,inf,q0,by rw [hL _ _ _ hm rfl q0];exact q1,q2,q3,q4,q5,q6,fun j hj=>(q7 j hj).mono hle.F hle.fz,q8⟩
 ·obtain ⟨b,arr,q0,q1,q2,q3,q4⟩:=hM.box _ _ _ hm
  exact ⟨b,arr,q0,by rw [hL _ _ _ hm rfl q0];exact q1,q2,fun j hj=>(q3 j hj).mono hle,q4⟩
 ·obtain ⟨b,arr,q0,q1,q2,q3⟩:=hM.mp _ _ _ hm
  refine ⟨b,arr,q0,by rw [hL _ _ _ hm rfl q0];exact q1,q2,fun j hj => ?_⟩
  obtain ⟨en,r1,r2,r3,r4⟩:=q3 j hj;exact ⟨en,r1,r2,r3,r4.mono hle.F hle.fz⟩

theorem Sim.beside{R R':List (Nat × Obj)}{st:St}{a:Act}{w':World}(h:Sim P (C0.with R) M0 w0 st a w)(X:Nat→Prop)(hX:∀ b,X b→∃ o,(b,o)∈R)(h1:w'.os=w.os)(h2:w'.tape=w.tape)(h3:w'.output=w.output)
  (hsz:w.heap.size≤w'.heap.size) (hk:∀ b,b<w.heap.size→¬ X b→w'.heap[b]? = w.heap[b]?)
  (Ul:∀ p∈R',(p∈R∧¬ X p.1)∨(w'.heap[p.1]? = some p.2∧p.2 ≠ .deferred (some [])∧(w.heap.size≤p.1∨∃ o,(p.1,o)∈R))):Sim P (C0.with R') M0 w0 st a w':=by
 obtain ⟨C,hS,hM,hF,⟨l,m1,m2,m3⟩,hR,hP⟩:=h;have hXR:∀ b,X b→∃ o,w.heap[b]? = some o∧w0.heap.size≤b∧o ≠ .deferred (some [])∧¬ C.F b∧∀ (id:Nat) (o:AO),st.m[id]? = some (some o)→o.live=true→C.ι id≠some b:=fun b hb=>by
  obtain ⟨o,ho⟩:=hX b hb;exact ⟨o,hR _ ho⟩
 have hFz:∀ b,C.F b→w'.heap[b]? = w.heap[b]? := fun b hb=>hk b (hM.Fs b hb) (fun hx=>by obtain ⟨_,_,_,_,q,_⟩:=hXR b hx;exact q hb)
 have hLv:∀ (id:Nat) (o:AO) (b:Nat),st.m[id]? = some (some o)→o.live=true→C.ι id=some b→w'.heap[b]? = w.heap[b]? := fun id o b ho hl hb=>hk b (hM.lt _ _ _ ho hl hb) (fun hx=>by obtain ⟨_,_,_,_,_,q⟩:=hXR b hx;exact q id o ho hl hb)
 obtain ⟨G4,hle⟩:=aFq hM hsz hFz hLv;refine ⟨C,hS.le hle,G4,⟨h1.trans hF.os,h2.trans hF.tape,h3.trans hF.out,gL hF.size hsz,fun b hb hn=>(hk b (fU hb hF.size) (fun hx=>by obtain ⟨_,_,q,_⟩:=hXR b hx;omega)).trans (hF.keep b hb hn),hF.ids,hF.row,hF.liv,hF.new,hF.F1,hF.F2⟩,⟨l,m1,m2,fun D hD => ?_⟩,fun p hp => ?_,fun i to ti sz L hm => ?_,hP.2⟩
 ·obtain ⟨q1,q2,q3⟩:=m3 D hD
  refine ⟨(hk D (bP q1) (fun hx => ?_)).trans q1,q2,q3⟩
  obtain ⟨o,r1,_,r3,_⟩:=hXR D hx;rw [q1] at r1;cases r1;exact r3 rfl
 ·rcases Ul p hp with ⟨hin,hx⟩ | ⟨r1,r2,r3⟩
  ·obtain ⟨q1,q2,q3,q4,q5⟩:=hR p hin
   exact ⟨(hk _ (bP q1) hx).trans q1,q2,q3,q4,q5⟩
  ·rcases r3 with r3 | ⟨o,ho⟩
   ·refine ⟨r1,gL hF.size r3,r2,fun hf => ?_,fun id o ho hl hb => ?_⟩
    ·have:=hM.Fs _ hf;omega
    ·have:=hM.lt _ _ _ ho hl hb;omega
   ·obtain ⟨q1,q2,q3,q4,q5⟩:=hR _ ho
    exact ⟨r1,q2,r2,q4,q5⟩
 ·obtain ⟨p,p0,p1⟩:=hP.1 _ _ _ _ _ hm
  refine ⟨p.move p.io rfl (fun _ h=>h) hFz fun b hb=>⟨hk b (p.lt hb).1 fun hx => ?_,p.own b hb⟩,p0,fun b hb=>⟨(p1 b hb).1,fun q hq e => ?_⟩⟩
  ·obtain ⟨o,ho⟩:=hX b hx
   exact (p1 b hb).2 _ ho rfl
  ·rcases Ul q hq with ⟨hin,_⟩ | ⟨_,_,r3⟩
   ·exact (p1 b hb).2 q hin e
   ·rcases r3 with r3 | ⟨o,ho⟩
    ·have:=(p.lt hb).1;omega
    ·exact (p1 b hb).2 _ ho e

theorem Sim.has{R:List (Nat × Obj)}{st:St}{a:Act}(h:Sim P (C0.with R) M0 w0 st a w):∀ p∈R,w.heap[p.1]? = some p.2:=fun p hp=>by
 obtain ⟨C,_,_,_,_,hR,_⟩:=h;exact (hR p hp).1

end
section
open Go.Maps Go.MapKept
open Go.ChangeMaps (setBlock)

structure Ent where
 k:Int
 l:Lqq
 b:Nat
 cap:Nat
 arr:Array Value

def Ent.val(e:Ent):Value := .slice (some ⟨e.b,0,none⟩) e.l.length e.cap
def Ent.blk(e:Ent):Nat × Obj:=(e.b,.cells e.arr 84 (0,0))
structure Ent.OK (e:Ent):Prop where
 key:(Lit.int .i64 e.k).wf=true
 sz:e.arr.size=e.cap*6
 le:e.l.length≤e.cap
 cap:e.cap≤maxLen
 at_:e.arr.toList.take (e.l.length*6)=e.l.flatten.map (Value.int .i64)
 u:uni 6 e.l

structure mG (mb:Nat) (es:Array MapEntry) (L:List Ent):Prop where
 e1:∀ x∈es.toList,∃ e∈L,x.key = .int .i64 e.k∧x.val=e.val
 e2:∀ e∈L,∃ x∈es.toList,x.key = .int .i64 e.k∧x.val=e.val
 nd:es.toList.Pairwise (fun x y=>x.key≠y.key)
 ok:∀ e∈L,e.OK
 keys:(L.map (·.k)).Nodup
 blks:(mb::L.map (·.b)).Nodup
 ord:es.toList.map (fun x=>(x.key,x.val))=L.map fun e=>(Value.int .i64 e.k,e.val)

theorem mG.nil(mb:Nat):mG mb #[] []:=⟨fun x h=>by simp at h,fun e h=>by simp at h,by simp,fun e h=>by simp at h,by simp,by simp,rfl⟩

def tB(L:List Ent)(k:Int):Option Ent:=L.find? fun e=>e.k == k
def rQ(L:List Ent)(k:Int):Value:=match tB L k with
 | some e=>e.val
 | none => .slice none 0 0

theorem wM{L:List Ent}{k:Int}{e:Ent}(h:tB L k=some e):e∈L∧e.k=k:=⟨xV h,by simpa using aXf h⟩
theorem aZk{L:List Ent}{k:Int}(h:tB L k=none):∀ e∈L,e.k≠k:=fun e he hk=>by
 have:=aHx.1 h e he;simp [hk] at this
theorem bLi{L:List Ent}{k:Int}{e:Ent}(hn:(L.map (·.k)).Nodup)(he:e∈L)(hk:e.k=k):tB L k=some e:=by
 cases h:tB L k with
 | none=>exact absurd hk (aZk h e he)
 | some e' =>
  obtain ⟨h1,h2⟩:=wM h;have:∀ (l:List Ent),(l.map (·.k)).Nodup→e∈l→e'∈l→e=e':=by
   intro l
   induction l with
   | nil=>intro _ h;simp at h
   | cons x r ih =>
    intro hn h3 h4;rw [iB,List.nodup_cons] at hn
    rcases gK.1 h3 with e1 | h5
    ·rcases gK.1 h4 with e2 | h6
     ·rw [e1,e2]
     ·exact absurd (Bq.2 ⟨e',h6,by rw [h2,← hk,e1]⟩) hn.1
    ·rcases gK.1 h4 with e2 | h6
     ·exact absurd (Bq.2 ⟨e,h5,by rw [hk,← h2,e2]⟩) hn.1
     ·exact ih hn.2 h5 h6
  rw [this L hn he h1]

section
variable {P:Program} {w:World} {t kt et:TypeId} {mb:Nat} {es:Array MapEntry} {cl:Nat} {L:List Ent}

theorem aNv(hkt:P.underlying kt=some (.int .i64)){k:Int}(hk:(Lit.int .i64 k).wf=true):keyOf P kt (.int .i64 k)=some (.int .i64 k):=keyOf_int_mk hkt hk

theorem bTj(ht:P.underlying t=some (.map kt et))(hkt:P.underlying kt=some (.int .i64))(hz:(zeroValue et).run P w = .ok (.slice none 0 0) w)(hb:w.heap[mb]? = some (.map es cl))(hM:mG mb es L){k:Int}(hk:(Lit.int .i64 k).wf=true) :
  (Instr.lookup t (.map (some mb)) (.int .i64 k) false).run P w = .ok (rQ L k) w:=by
 have K:=int_keyed hkt;have hkey:=aNv hkt hk;have hes:∀ e∈es.toList,∃ l,keyOf P kt e.key=some l:=fun x hx=>by
  obtain ⟨e,he,h1,_⟩:=hM.e1 x hx;exact ⟨_,by rw [h1];exact aNv hkt (hM.ok e he).key⟩
 rcases K.find w hkey es.toList hes with ⟨h1,h2⟩ | ⟨j,e0,h1,h2,h3⟩
 ·have:tB L k=none:=by
   rw [tB,aHx];intro e he;obtain ⟨x,hx,h4,_⟩:=hM.e2 e he;have:=h2 x hx;rw [h4] at this
   intro G5;exact this (by rw [eq_of_beq G5])
  unfold rQ;rw [this];simp [Instr.lookup,run_underlying ht,MapKept.run_getObj_map hb,K.check w _ hkey,h1,hz,Result.andThen]
 ·obtain ⟨e,he,h4,h5⟩:=hM.e1 e0 (Bp h2)
  rw [h3] at h4
  have G5:e.k=k:=by injection h4 with _ h;exact h.symm
  unfold rQ;rw [bLi hM.keys he G5];simp [Instr.lookup,run_underlying ht,MapKept.run_getObj_map hb,K.check w _ hkey,h1,Result.andThen,h5]

def pU(L:List Ent)(e:Ent):List Ent:=if L.any (fun x=>x.k == e.k) then L.map (fun x=>if x.k == e.k then e else x) else L++[e]
theorem yK{L:List Ent}{e:Ent}(h:∀ x∈L,x.k≠e.k):pU L e=L++[e]:=by
 unfold pU;rw [if_neg];intro h1;obtain ⟨x,hx,he⟩:=List.any_eq_true.1 h1;exact h x hx (by simpa using he)
theorem tC{L:List Ent}{e x:Ent}(hx:x∈L)(he:x.k=e.k):pU L e=L.map (fun x=>if x.k == e.k then e else x):=by
 unfold pU;rw [if_pos (List.any_eq_true.2 ⟨x,hx,by simpa using he⟩)]
theorem gW{L:List Ent}{e x:Ent}:x∈pU L e↔(x∈L∧x.k≠e.k)∨x=e:=by
 by_cases h:∃ y∈L,y.k=e.k
 ·obtain ⟨y,hy,he⟩:=h
  rw [tC hy he,Bq];constructor
  ·rintro ⟨z,hz,rfl⟩
   by_cases hk:z.k=e.k
   ·rw [if_pos (by simpa using hk)];exact .inr rfl
   ·rw [if_neg (by simpa using hk)];exact .inl ⟨hz,hk⟩
  ·rintro (⟨h1,h2⟩ | rfl)
   ·exact ⟨x,h1,by rw [if_neg (by simpa using h2)]⟩
   ·exact ⟨y,hy,by rw [if_pos (by simpa using he)]⟩
 ·have h':∀ y∈L,y.k≠e.k:=fun y hy he=>h ⟨y,hy,he⟩
  rw [yK h',fV,List.mem_singleton];constructor
  ·rintro (h1 | h1)
   ·exact .inl ⟨h1,h' x h1⟩
   ·exact .inr h1
  ·rintro (⟨h1,_⟩ | h1)
   ·exact .inl h1
   ·exact .inr h1
theorem bLj{L:List Ent}{e:Ent}(hn:(L.map (·.k)).Nodup):((pU L e).map (·.k)).Nodup:=by
 by_cases h:∃ y∈L,y.k=e.k
 ·obtain ⟨y,hy,he⟩:=h
  rw [tC hy he,uT];have:L.map ((fun x=>x.k) ∘ fun x=>if x.k == e.k then e else x)=L.map (·.k):=xW fun x _=>by
   by_cases hk:x.k=e.k
   ·simp [hk]
   ·simp [hk]
  rw [this];exact hn
 ·have h':∀ y∈L,y.k≠e.k:=fun y hy he=>h ⟨y,hy,he⟩
  rw [yK h',iV,List.nodup_append];refine ⟨hn,by simp,fun x hx y hy => ?_⟩
  obtain ⟨z,hz,rfl⟩:=Bq.1 hx;simp at hy
  subst hy;exact h' z hz
theorem bLk{mb:Nat}{L:List Ent}{e:Ent}(hn:(L.map (·.k)).Nodup)(hb:(mb::L.map (·.b)).Nodup)(h1:e.b≠mb)(h2:∀ x∈L,x.k≠e.k→x.b≠e.b):(mb::(pU L e).map (·.b)).Nodup:=by
 obtain ⟨b1,b2⟩:=List.nodup_cons.1 hb;refine List.nodup_cons.2 ⟨?_,?_⟩
 ·intro hin
  obtain ⟨x,hx,hxb⟩:=Bq.1 hin
  rcases gW.1 hx with ⟨h1,_⟩ | rfl
  ·exact b1 (Bq.2 ⟨x,h1,hxb⟩)
  ·exact h1 hxb
 ·by_cases h:∃ y∈L,y.k=e.k
  ·obtain ⟨y,hy,he⟩:=h
   rw [tC hy he,uT,List.Nodup,List.pairwise_map];rw [List.Nodup,List.pairwise_map] at hn b2
   refine List.Pairwise.imp_of_mem ?_ (hn.and b2);intro x z hx hz ⟨q1,q2⟩;dsimp only [Function.comp]
   by_cases hk:x.k=e.k
   ·rw [if_pos (by simpa using hk),if_neg (by simp;rw [← hk];exact fun h=>q1 h.symm)]
    exact fun he=>h2 z hz (fun h=>q1 (by rw [hk,h])) he.symm
   ·rw [if_neg (by simpa using hk)]
    by_cases Er:z.k=e.k
    ·rw [if_pos (by simpa using Er)];exact h2 x hx hk
    ·rw [if_neg (by simpa using Er)];exact q2
  ·have h':∀ y∈L,y.k≠e.k:=fun y hy he=>h ⟨y,hy,he⟩
   rw [yK h',iV,List.nodup_append];refine ⟨b2,by simp,fun x hx y hy => ?_⟩
   obtain ⟨z,hz,rfl⟩:=Bq.1 hx;simp at hy
   subst hy;exact h2 z hz (h' z hz)

theorem cAh(ht:P.underlying t=some (.map kt et))(hkt:P.underlying kt=some (.int .i64))(hb:w.heap[mb]? = some (.map es cl))(hM:mG mb es L)(e:Ent)(he:e.OK)
  (hblk:e.b≠mb∧∀ x∈L,x.k≠e.k→x.b≠e.b) :
  ∃ Cs D1,(Instr.mapUpdate t (.map (some mb)) (.int .i64 e.k) e.val).run P w = .ok () (setBlock w mb (.map Cs D1))∧mG mb Cs (pU L e)∧((∀ x∈es.toList,x.born<cl)→∀ x∈Cs.toList,x.born<D1):=by
 have K:=int_keyed hkt;have hkey:=aNv hkt he.key;have hes:∀ e∈es.toList,∃ l,keyOf P kt e.key=some l:=fun x hx=>by
  obtain ⟨e,he,h1,_⟩:=hM.e1 x hx;exact ⟨_,by rw [h1];exact aNv hkt (hM.ok e he).key⟩
 have hok:∀ x∈pU L e,x.OK:=fun x hx=>by
  rcases gW.1 hx with ⟨h1,_⟩ | rfl
  ·exact hM.ok x h1
  ·exact he
 have hkeys:((pU L e).map (·.k)).Nodup:=bLj hM.keys
 have hblks:(mb::(pU L e).map (·.b)).Nodup:=bLk hM.keys hM.blks hblk.1 hblk.2
 rcases K.find w hkey es.toList hes with ⟨h1,h2⟩ | ⟨j,e0,h1,h2,h3⟩
 ·refine ⟨es.push ⟨.int .i64 e.k,e.val,cl⟩,cl+1,?_,⟨fun x hx => ?_,fun x hx => ?_,?_,hok,hkeys,hblks,?_⟩,fun hbn x hx => ?_⟩
  ·simp [Instr.mapUpdate,run_underlying ht,MapKept.run_getObj_map hb,K.check w false hkey,h1,MapKept.run_setObj_map _ hb,Result.andThen,setBlock]
  ·simp only [Array.toList_push,fV,List.mem_singleton] at hx
   rcases hx with hx | rfl
   ·obtain ⟨y,hy,q1,q2⟩:=hM.e1 x hx
    refine ⟨y,gW.2 (.inl ⟨hy,fun hk=>h2 x hx (by rw [q1,hk])⟩),q1,q2⟩
   ·exact ⟨e,gW.2 (.inr rfl),rfl,rfl⟩
  ·rcases gW.1 hx with ⟨q1,_⟩ | rfl
   ·obtain ⟨y,hy,q2⟩:=hM.e2 x q1
    exact ⟨y,by simp [hy],q2⟩
   ·exact ⟨⟨.int .i64 x.k,x.val,cl⟩,by simp,rfl,rfl⟩
  ·rw [Array.toList_push,List.pairwise_append]
   exact ⟨hM.nd,by simp,fun x hx y hy=>by simp at hy;subst hy;exact h2 x hx⟩
  ·have hno:∀ x∈L,x.k≠e.k:=fun x hx hk=>by
    obtain ⟨y,hy,q2,_⟩:=hM.e2 x hx;exact h2 y hy (by rw [q2,hk])
   rw [yK hno,Array.toList_push,iV,iV,hM.ord];rfl
  ·simp only [Array.toList_push,fV,List.mem_singleton] at hx
   rcases hx with hx | rfl
   ·exact Nat.lt_succ_of_lt (hbn x hx)
   ·exact Nat.lt_succ_self _
 ·have hj:es[j]? = some e0:=by simpa using h2
  have hlist:(es.modify j (fun e'=>{ e' with key := .int .i64 e.k,val:=e.val })).toList=es.toList.set j { e0 with key := .int .i64 e.k,val:=e.val }:=by
   rw [Array.toList_modify,Go.ChangeMaps.modify_eq_set _ _ _ _ h2]
  have hjl:j<es.toList.length:=(Bs.1 h2).1;have hother:∀ i x,es.toList[i]? = some x→i≠j→x.key ≠ .int .i64 e.k:=fun i x hi hij=>by
   rw [← h3];obtain ⟨Lm,rfl⟩:=Bs.1 hi;obtain ⟨J6,hje⟩:=Bs.1 h2;have:=List.pairwise_iff_getElem.1 hM.nd
   rcases Nat.lt_or_ge i j with h | h
   ·rw [← hje];exact this i j Lm J6 h
   ·rw [← hje];exact (this j i J6 Lm (by omega)).symm
  have who:∀ x∈es.toList.set j { e0 with key := .int .i64 e.k,val:=e.val },x={ e0 with key := .int .i64 e.k,val:=e.val }∨(x∈es.toList∧x.key ≠ .int .i64 e.k):=fun x hx=>by
   obtain ⟨i,hi,ex⟩:=List.getElem_of_mem hx;rw [xZ] at ex
   split at ex
   ·exact .inl ex.symm
   ·rename_i hne
    have Bi:i<es.toList.length:=by simpa using hi
    exact .inr ⟨ex ▸ fG Bi,hother i x (by rw [Av Bi,ex]) (fun e=>hne e.symm)⟩
  refine ⟨es.modify j (fun e'=>{ e' with key := .int .i64 e.k,val:=e.val }),cl,?_,⟨fun x hx => ?_,fun x hx => ?_,?_,hok,hkeys,hblks,?_⟩,fun hbn x hx => ?_⟩
  ·simp [Instr.mapUpdate,run_underlying ht,MapKept.run_getObj_map hb,K.check w false hkey,h1,hj,h3,K.stays w hkey,MapKept.run_setObj_map _ hb,Result.andThen,setBlock]
  ·rw [hlist] at hx
   rcases who x hx with rfl | ⟨q1,q2⟩
   ·exact ⟨e,gW.2 (.inr rfl),rfl,rfl⟩
   ·obtain ⟨y,hy,r1,r2⟩:=hM.e1 x q1
    exact ⟨y,gW.2 (.inl ⟨hy,fun hk=>q2 (by rw [r1,hk])⟩),r1,r2⟩
  ·rw [hlist]
   rcases gW.1 hx with ⟨q1,q2⟩ | rfl
   ·obtain ⟨y,hy,r1,r2⟩:=hM.e2 x q1
    obtain ⟨i,hi,rfl⟩:=List.getElem_of_mem hy;have hij:i≠j:=fun hij=>by
     subst hij;rw [Av hi] at h2;cases h2
     rw [h3] at r1;injection r1 with _ r1;exact q2 r1.symm
    exact ⟨es.toList[i],List.mem_iff_getElem.2 ⟨i,by simpa using hi,by rw [xZ,if_neg (Ne.symm hij)]⟩,r1,r2⟩
   ·exact ⟨_,List.mem_iff_getElem.2 ⟨j,by simpa using hjl,by rw [xZ,if_pos rfl]⟩,rfl,rfl⟩
  ·rw [hlist,List.pairwise_iff_getElem]
   intro i1 i2 Lm Hn hlt;simp only [zS] at Lm Hn
   have h0:=List.pairwise_iff_getElem.1 hM.nd i1 i2 Lm Hn hlt;rw [xZ,xZ]
   split
   ·rename_i e1
    rw [if_neg (by omega)]
    exact (hother i2 _ (Av Hn) (by omega)).symm
   ·split
    ·exact hother i1 _ (Av Lm) (by omega)
    ·exact h0
  ·obtain ⟨y,hy,q1,q2⟩:=hM.e1 e0 (Bp h2)
   have hyk:y.k=e.k:=by rw [h3] at q1;injection q1 with _ q1;exact q1.symm
   rw [hlist,tC hy hyk,uT];apply List.ext_getElem?;intro i;rw [jU,jU,List.getElem?_set];have hoi:(es.toList.map fun x=>(x.key,x.val))[i]? = (L.map fun e=>(Value.int .i64 e.k,e.val))[i]? := by rw [hM.ord]
   rw [jU,jU] at hoi
   by_cases hij:j=i
   ·subst hij
    rw [if_pos rfl,if_pos hjl];rw [h2] at hoi
    cases hL:L[j]? with
    | none=>rw [hL] at hoi;cases hoi
    | some z =>
     rw [hL] at hoi
     have hz:z.k=e.k:=by
      simp at hoi
      rw [h3] at hoi
      have:=hoi.1;injection this with _ h;exact h.symm
     simp [hz]
   ·rw [if_neg hij]
    cases hL:L[i]? with
    | none=>rw [hL] at hoi;rw [hoi];rfl
    | some z =>
     rw [hL] at hoi
     rw [hoi];have hz:z.k≠e.k:=fun hz=>by
      cases he:es.toList[i]? with
      | none=>rw [he] at hoi;cases hoi
      | some x =>
       rw [he] at hoi
       simp at hoi
       exact hother i x he (fun h=>hij h.symm) (by rw [hoi.1,hz])
     simp [hz]
  ·rw [hlist] at hx
   rcases who x hx with rfl | ⟨q1,_⟩
   ·exact hbn e0 (Bp h2)
   ·exact hbn x q1

theorem Ent.owns{e:Ent}(he:e.OK)(h:w.heap[e.b]? = some (.cells e.arr 84 (0,0))):w.ownsRow 0 84 6 e.val e.l.length (e.l.flatten.map (Value.int .i64)) :=
 ⟨by rw [B9,qV he.u],.inr ⟨e.b,e.cap,e.arr,rfl,Nat.zero_le _,h,he.le,he.cap,he.sz,he.at_⟩⟩
theorem bTk:w.ownsRow 0 84 6 (.slice none 0 0) 0 []:=⟨rfl,.inl ⟨rfl,rfl⟩⟩
theorem bTl{v:Value}{l:Lqq}{k:Int}(hk:(Lit.int .i64 k).wf=true)(hl:l≠[])(hu:uni 6 l)(h:w.ownsRow 0 84 6 v l.length (l.flatten.map (Value.int .i64))):∃ e:Ent,e.k=k∧e.l=l∧e.val=v∧e.OK∧w.heap[e.b]? = some (.cells e.arr 84 (0,0)):=by
 rcases h.2 with ⟨_,h0⟩ | ⟨g,cap,cur,rfl,_,h1,h2,h3,h4,h5⟩
 ·exact absurd (uS h0) hl
 ·exact ⟨⟨k,l,g,cap,cur⟩,rfl,rfl,rfl,⟨hk,h4,h2,h3,h5,hu⟩,h1⟩
end
end
section
variable {P:Program} {C C0:Cx} {M M0:Mem} {w w0:World}

abbrev SR:=St→List (Nat × Obj)→Prop
section
variable {k:Nat} {a b c:Code} {Ψ Ψ1 Ψ':SR} {e:Ex}
end

theorem Sim.slot{st:St}{a:Act}(h:Sim P C0 M0 w0 st a w){i:Nat}{v:Value}(hi:st.t[i]? = some (.p (.v v))):a.tmps.getD i undef=v:=by
 obtain ⟨C,hS,_⟩:=h;have:=hS.at hi
 cases this with
 | p _ _ h=>cases h;rfl
theorem Sim.size{st:St}{a:Act}(h:Sim P C0 M0 w0 st a w):a.tmps.size=st.t.length:=by
 obtain ⟨C,hS,_⟩:=h;exact hS.size
end
section
variable {P:Program} {ops:Array Oper} {md:Region.Mode} {S:World→Prop} {Q:Exit→Act→World→Prop} {L:Nat}

def tA(P:Program)(md:Region.Mode)(ops:Array Oper)(Q:Exit→Act→World→Prop)(S:World→Prop)(L:Nat):Nat→Array Bool→Act→World→Prop
 | 0,listed,a,w=>Region.ready md ops listed=[]∧Q .normal a w
 | fuel+1,listed,a,w=>(Region.ready md ops listed=[]→Q .normal a w) ∧
  ∀ i∈Region.ready md ops listed,wpOp P ops Q i (fun a' w'=>(i≠L→S w')∧tA P md ops Q S L fuel (listed.setIfInBounds i true) a' w') a w

theorem aFp:∀ (fuel:Nat) (listed:Array Bool) (a:Act) (w:World),tA P md ops Q S L fuel listed a w→wpAny P md ops Q fuel listed a w
 | 0,_,_,_,h=>h
 | fuel+1,_,_,_,h=>⟨h.1,fun i hi=>wpOp_mono (fun a' w' h'=>aFp fuel _ a' w' h'.2) (h.2 i hi)⟩

theorem aNs{i:Nat}{oi:Oper}{v:Value}(hi:ops[i]? = some oi)(hsel:∀ (j:Nat) (o:Oper) cs b,ops[j]? = some o→o.op ≠ .select cs b)
  (hQ:∀ c a w,Q (.panic c) (a.put oi.dst v) w→Q (.panic c) a w) (hL:∀ oL,ops[L]? = some oL→∃ e∈oL.after,Region.binds md e=true∧e.on=i) :
  ∀ (fuel:Nat) (listed:Array Bool) (a:Act) (w:World),
   (∀ j oj,ops[j]? = some oj→j≠i→listed.getD j true=false→(∀ e∈oj.after,Region.binds md e=true→e.on≠i)→oi.apart ops oj=true) →
   i∈Region.ready md ops listed→YieldsIf P ops S oi v a→S w →
   tA P md ops Q S L fuel (listed.setIfInBounds i true) (a.put oi.dst v) w→tA P md ops Q S L (fuel+1) listed a w:=by
 intro fuel
 induction fuel with
 | zero =>
  intro listed a w _ hr hy hS H;refine ⟨fun h=>(by rw [h] at hr;cases hr),fun j hj => ?_⟩
  by_cases hji:j=i
  ·subst hji;exact hy.wpOp hi hS ⟨fun _=>hS,H⟩
  ·have:=ready_mono hj hji
   rw [H.1] at this
   cases this
 | succ fuel ih =>
  intro listed a w hfree hr hy hS H;refine ⟨fun h=>(by rw [h] at hr;cases hr),fun j hj => ?_⟩
  by_cases hji:j=i
  ·subst hji;exact hy.wpOp hi hS ⟨fun _=>hS,H⟩
  ·have h1:=H.2 j (ready_mono hj hji)
   obtain ⟨hjun,oj,hoj,hall⟩:=mem_ready.1 hj;have hnot:∀ e∈oj.after,Region.binds md e=true→e.on≠i:=fun e he hb heq=>by
    have h1:=hall e he hb;have h0:=(mem_ready.1 hr).1;rw [heq] at h1
    rcases Nat.lt_or_ge i listed.size with h' | h'
    ·simp [h'] at h0 h1;rw [h0] at h1;cases h1
    ·simp [Array.getElem?_eq_none h'] at h1
   have hjL:j≠L:=fun e=>by
    subst e;obtain ⟨e,he,hb,ho⟩:=hL oj hoj;exact hnot e he hb ho
   have h2:=wpOp_putIf hoj (hfree j oj hoj hji hjun hnot) (fun cs b=>hsel i oi cs b hi) (fun cs b=>hsel j oj cs b hoj) hQ hy h1
   have M9:∀ k ok,ops[k]? = some ok→k≠i→(listed.setIfInBounds j true).getD k true=false →
     (∀ e∈ok.after,Region.binds md e=true→e.on≠i)→oi.apart ops ok=true:=fun k ok hk hki hun hno=>by
    refine hfree k ok hk hki ?_ hno
    by_cases hjk:j=k
    ·subst hjk;exact hjun
    ·rw [getD_set_ne true hjk] at hun;exact hun
   refine wpOp_mono (fun a' w' h3=>⟨h3.2.1,ih (listed.setIfInBounds j true) a' w' M9 (ready_mono hr (Ne.symm hji)) h3.1 (h3.2.1 hjL) ?_⟩) h2
   rw [Array.setIfInBounds_comm _ _ hji];exact h3.2.2

def aNt(P:Program)(S:World→Prop):List (Oper × Value)→Act→Prop
 | [],_=>True
 | (o,v)::r,a=>(∀ W,S W→(execOp a.eval o).run P W = .ok (.value v) W)∧aNt P S r (a.put o.dst v)
def aBq:List (Oper × Value)→Act→Act
 | [],a=>a
 | (o,v)::r,a=>aBq r (a.put o.dst v)

def aKj(md:Region.Mode)(ops:Array Oper)(L:Nat)(rs:List Nat):List Nat→Array Bool→Bool
 | [],listed=>chain rs listed
 | t::ts,listed=>(match ops[t]? with | some o=>o.guard.isNone | none=>false) && (Region.ready md ops listed).contains t && Region.free md ops listed t &&
   (match ops[L]? with | some oL=>oL.after.any fun e=>Region.binds md e && e.on == t | none=>false) && aKj md ops L rs ts (listed.setIfInBounds t true)
where chain:List Nat→Array Bool→Bool
 | [],listed=>(Region.ready md ops listed).isEmpty
 | r::rs,listed=>(match ops[r]? with | some o=>o.guard.isNone | none=>false) && decide (Region.ready md ops listed=[r]) && chain rs (listed.setIfInBounds r true)

theorem wL{r fuel:Nat}{listed:Array Bool}{o:Oper}{a:Act}{w:World}(hr:Region.ready md ops listed=[r])(ho:ops[r]? = some o)(hg:o.guard=none){v:Value}{w':World}
  (hrun:(execOp a.eval o).run P w = .ok (.value v) w'∨(execOp a.eval o).run P w = .ok .skip w'∧v=undef) (hS:r≠L→S w') (h:tA P md ops Q S L fuel (listed.setIfInBounds r true) (a.put o.dst v) w'):tA P md ops Q S L (fuel+1) listed a w:=by
 refine ⟨fun h0=>(by rw [hr] at h0;cases h0),fun i hi => ?_⟩
 rw [hr] at hi
 obtain rfl:i=r:=by simpa using hi
 unfold wpOp;simp only [ho];have hw:Region.wanted o (yielded ops a.tmps)=true:=by simp [Region.wanted,hg]
 rw [if_pos hw];refine .inl ?_;unfold Oper.wp
 rcases hrun with hrun | ⟨hrun,rfl⟩
 ·rw [hrun];exact ⟨hS,h⟩
 ·rw [hrun];exact ⟨hS,h⟩

theorem aKk(hsel:Region.noSelect ops=true)(hQ:∀ c a w,¬ Q (.panic c) a w)(rs:List Nat){w:World}(hS:S w):∀ (ts:List Nat) (vs:List Value) (listed:Array Bool) (a:Act),vs.length=ts.length→aKj md ops L rs ts listed=true →
  aNt P S ((ts.filterMap fun i=>ops[i]?).zip vs) a→(∀ Gy,aKj.chain md ops rs Gy=true→tA P md ops Q S L rs.length Gy (aBq ((ts.filterMap fun i=>ops[i]?).zip vs) a) w)→tA P md ops Q S L (ts.length+rs.length) listed a w
 | [],vs,listed,a,hl,hB,hy,h=>by
  have:vs=[]:=by simpa using hl
  subst this;simp only [List.length_nil,gS];exact h listed hB
 | t::ts,[],listed,a,hl,hB,hy,h=>by simp at hl
 | t::ts,v::vs,listed,a,hl,hB,hy,h=>by
  simp only [aKj,Cc] at hB
  obtain ⟨⟨⟨⟨hp,hrd⟩,hf⟩,hlast⟩,Rj⟩:=hB;cases ho:ops[t]? with
  | none=>rw [ho] at hp;cases hp
  | some o =>
   rw [ho] at hp
   simp only [Option.isNone_iff_eq_none] at hp
   have e0:(t::ts).filterMap (fun i=>ops[i]?)=o::ts.filterMap (fun i=>ops[i]?):=by simp [ho]
   rw [e0,List.zip_cons_cons] at hy h
   have hw:Region.wanted o (yielded ops a.tmps)=true:=by simp [Region.wanted,hp]
   have e:(t::ts).length+rs.length=(ts.length+rs.length)+1:=by simp;omega
   rw [e];refine aNs ho (Region.noSelect_spec hsel) (fun c a w hq=>absurd hq (hQ _ _ _)) (fun oL hoL => ?_) _ _ _ _ (Region.free_spec ho hf) (by simpa using hrd) (.inl ⟨hw,hy.1⟩) hS ?_
   ·rw [hoL] at hlast
    obtain ⟨e,he,hb⟩:=Array.any_eq_true'.1 hlast;simp only [Cc,beq_iff_eq] at hb
    exact ⟨e,he,hb.1,hb.2⟩
   ·exact aKk hsel hQ rs hS ts vs _ _ (by simpa using hl) Rj hy.2 h

def aNu(l:List Oper)(ts:List Nat)(r1 r2 r3:Nat):Bool :=
 Region.noSelect l.toArray && aKj .any l.toArray r3 [r1,r2,r3] ts (Array.replicate l.toArray.size false) && decide (ts.length+3=l.toArray.size) && decide (r1≠r3∧r2≠r3)

theorem bH{a:Act}{i:Nat}{v:Value}(h:i<a.tmps.size):(a.put (some i) v).eval (.tmp i)=v:=by
 simp [Act.eval,Act.put,h]
theorem bJ{a:Act}{i j:Nat}{v:Value}(h:(i == j)=false):(a.put (some i) v).eval (.tmp j)=a.eval (.tmp j):=by
 have:i≠j:=by simpa using h
 simp [Act.eval,Act.put,this]
theorem dD{a:Act}{i:Nat}{v:Value}:(a.put (some i) v).tmps.size=a.tmps.size:=by simp [Act.put]
end
section
open Go.Maps Go.MapKept
open Go.ChangeMaps (setBlock)
variable {P:Program} {C C0:Cx} {M M0:Mem} {w w0:World}

section
variable {o:Oper} {a:Act} {W W':World}
theorem rD{t:TypeId}{x:Operand}{v r:Value}(ho:o.op = .load t x)(hx:a.eval x=v)(hr:(Instr.loadAt t v).run P W = .ok r W):(execOp a.eval o).run P W = .ok (.value r) W:=by
 unfold execOp;rw [ho];simp [hx,hr,Result.andThen]
theorem bLd{t:TypeId}{x k:Operand}{v u r:Value}(ho:o.op = .lookup t x k false)(hx:a.eval x=v)(hk:a.eval k=u)(hr:(Instr.lookup t v u false).run P W = .ok r W):(execOp a.eval o).run P W = .ok (.value r) W:=by
 unfold execOp;rw [ho];simp [hx,hk,hr,Result.andThen]
theorem bLe{t:TypeId}{x:Operand}{v r:Value}(ho:o.op = .buildSlice t 1 #[(0,x)])(hx:a.eval x=v)(hr:(Instr.buildSlice t 1 #[(0,v)]).run P W = .ok r W'):(execOp a.eval o).run P W = .ok (.value r) W':=by
 unfold execOp;rw [ho];simp [hx,hr,Result.andThen]
theorem bLf{t:TypeId}{s x:Operand}{v u r:Value}(ho:o.op = .call { callee := .builtin .append,args := #[s,x],argTypes := #[t,t] })(hs:a.eval s=v)(hx:a.eval x=u)(hr:(Builtin.append_ #[t,t] o.type #[v,u]).run P W = .ok r W') :
  (execOp a.eval o).run P W = .ok (.value r) W':=by
 unfold execOp;simp only [ho,resolve,invoke,builtin,Sem.run_bind,Sem.run_pure,Result.andThen_ok,List.map_toArray,iB,List.map_nil,hs,hx,hr]
theorem bLg{t:TypeId}{m k x:Operand}{v u y:Value}(ho:o.op = .mapUpdate t m k x)(hm:a.eval m=v)(hk:a.eval k=u)(hx:a.eval x=y)(hr:(Instr.mapUpdate t v u y).run P W = .ok () W'):(execOp a.eval o).run P W = .ok .skip W':=by
 unfold execOp;rw [ho];simp [hm,hk,hx,hr,Result.andThen]
end

theorem aAd{t:Nat}{i:TI}(hi:cB P t=some i)(ha:i.agg=false){b o:Nat}{v:Value}(h:w.cell? ⟨b,o,none⟩=some v):(Instr.loadAt t (.pointer (some ⟨b,o,none⟩))).run P w = .ok v w:=by
 unfold Instr.loadAt Instr.sureAddr;simpa using mA hi ha h

def iH(mb:Nat)(es:Array MapEntry)(cl:Nat)(L:List Ent):List (Nat × Obj):=(mb,.map es cl)::L.map Ent.blk
theorem cV{mb:Nat}{es:Array MapEntry}{cl:Nat}{L:List Ent}{p:Nat × Obj}:p∈iH mb es cl L↔p=(mb,.map es cl)∨∃ e∈L,e.blk=p:=by simp [iH]
def pT(L:List Ent)(k:Int):Lqq:=match tB L k with
 | some e=>e.l
 | none=>[]
theorem yJ{α β:Type}(f:α→β){x y:α}:∀ (L:List α),(L.map f).Nodup→x∈L→y∈L→f x=f y→x=y
 | [],_,h,_,_=>by simp at h
 | a::r,hn,hx,hy,he=>by
  rw [iB,List.nodup_cons] at hn
  rcases gK.1 hx with e1 | h1
  ·rcases gK.1 hy with e2 | h2
   ·rw [e1,e2]
   ·exact absurd (Bq.2 ⟨y,h2,by rw [← he,e1]⟩) hn.1
  ·rcases gK.1 hy with e2 | h2
   ·exact absurd (Bq.2 ⟨x,h1,by rw [he,e2]⟩) hn.1
   ·exact yJ f r hn.2 h1 h2 he
theorem mG.b_inj{mb:Nat}{es:Array MapEntry}{L:List Ent}(h:mG mb es L){e e':Ent}(he:e∈L)(Ri:e'∈L)(hb:e.b=e'.b):e=e':=yJ (·.b) L (List.nodup_cons.1 h.blks).2 he Ri hb
theorem mG.b_mb{mb:Nat}{es:Array MapEntry}{L:List Ent}(h:mG mb es L){e:Ent}(he:e∈L):e.b≠mb:=fun hb=>(List.nodup_cons.1 h.blks).1 (Bq.2 ⟨e,he,hb⟩)

abbrev Jo:Value := .agg #[.int .i64 0,.int .i64 0,.int .i64 0,.int .i64 0,.int .i64 0,.int .i64 0]
def vsL(x:List Int):List Value:=x.map (Value.int .i64)
theorem bLh(w:World)(x:List Int):∀ j u,(vsL x)[j]? = some u→(w.alloc (.cells (vsL x).toArray 84)).cell? ((⟨w.heap.size,0,none⟩:Addr).add j)=some u:=fun j u h=>by
 have hj:j<(vsL x).length:=(Bs.1 h).1;have e:(⟨w.heap.size,0,none⟩:Addr).add j=⟨w.heap.size,j,none⟩:=by unfold Addr.add;split <;> simp_all
 rw [e];unfold World.cell? World.alloc;simp [h]
theorem cAg{t kt S22 ty:TypeId}{st:St}{a:Act}{mb cl:Nat}{es:Array MapEntry}{L:List Ent}{k:Int}{x:List Int}(L5:x.length=6)(ht:P.underlying t=some (.map kt S22))(hkt:P.underlying kt=some (.int .i64))(Wh:P.underlying S22=some (.slice 84))
  (K8:(P.info? 84).map (fun i=>(i.zero,i.size,i.bytes))=some (some Jo,6,48))
  (hs:Sim P (C0.with (iH mb es cl L++C0.R)) M0 w0 st a w) (hd:∀ p∈iH mb es cl L,∀ q∈C0.R,p.1≠q.1) (hM:mG mb es L) (hk:(Lit.int .i64 k).wf=true) (hl:∀ e∈L,e.l.length≤1000) :
  ∃ v2 w2 Cs D1 e,(Builtin.append_ #[S22,S22] ty #[rQ L k,.slice (some ⟨w.heap.size,0,none⟩) 1 1]).run P (w.alloc (.cells (vsL x).toArray 84)) = .ok v2 w2 ∧
   (∀ b,b<w.heap.size→(∀ q∈iH mb es cl L,q.1≠b)→w2.heap[b]? = w.heap[b]?)∧w2.heap[mb]? = w.heap[mb]? ∧
   (w.heap.size≤w2.heap.size∧((∀ x∈es.toList,x.born<cl)→∀ x∈Cs.toList,x.born<D1)∧∀ p∈iH mb Cs D1 (pU L e),(∃ p0∈iH mb es cl L,p0.1=p.1)∨w.heap.size≤p.1) ∧
   (Instr.mapUpdate t (.map (some mb)) (.int .i64 k) v2).run P w2 = .ok () (setBlock w2 mb (.map Cs D1))∧mG mb Cs (pU L e)∧e.k=k∧e.l=pT L k++[x] ∧
   (∀ p∈iH mb Cs D1 (pU L e),∀ q∈C0.R,p.1≠q.1)∧Sim P (C0.with (iH mb Cs D1 (pU L e)++C0.R)) M0 w0 st a (setBlock w2 mb (.map Cs D1)):=by
 obtain ⟨i,hi,hz,Fl,Nn⟩:=info_parts K8;have hhas:=hs.has;have hmb:w.heap[mb]? = some (.map es cl):=hhas (mb,.map es cl) (by simp [iH])
 have hmlt:=bP hmb;have hblkh:∀ e∈L,w.heap[e.b]? = some (.cells e.arr 84 (0,0)):=fun e he=>hhas e.blk (by simp [iH];exact .inr (.inl ⟨e,he,rfl⟩))
 obtain ⟨n1,n2,n3⟩:=jO w (.cells (vsL x).toArray 84);have hown:(w.alloc (.cells (vsL x).toArray 84)).ownsRow 0 84 6 (rQ L k) (pT L k).length ((pT L k).flatten.map (Value.int .i64))∧((rQ L k).ownBlock=none∨∃ e0∈L,e0.k=k∧(rQ L k).ownBlock=some e0.b)∧(pT L k).length≤1000:=by
  unfold rQ pT;cases h:tB L k with
  | none=>exact ⟨bTk,.inl rfl,by simp⟩
  | some e0 =>
   obtain ⟨q1,q2⟩:=wM h;exact ⟨Ent.owns (hM.ok e0 q1) ((n3 _ (bP (hblkh e0 q1))).trans (hblkh e0 q1)),.inr ⟨e0,q1,q2,rfl⟩,hl e0 q1⟩
 obtain ⟨ho,hbk,hlen⟩:=hown;have Wi:uni 6 (pT L k++[x]):=by
  intro y hy
  rcases fV.1 hy with h | h
  ·unfold pT at h
   cases hq:tB L k with
   | none=>rw [hq] at h;cases h
   | some e0=>rw [hq] at h;exact (hM.ok e0 (wM hq).1).u y h
  ·simp at h;rw [h];exact L5
 obtain ⟨v2,w2,hrun,J2,Hp,hnil,hat⟩:=run_append_own_at (P:=P) (w:=w.alloc (.cells (vsL x).toArray 84)) 0 S22 ty 84 i Jo 6 48 Wh hi hz Fl Nn rfl (by decide) (rQ L k) (pT L k).length _ ho
  ⟨w.heap.size,0,none⟩ 1 1 (vsL x) (by simp [vsL,L5]) (bLh w x) (fun u hu=>by obtain ⟨z,_,rfl⟩:=Bq.1 hu;rfl) (by unfold maxLen;omega) (by omega) (Nat.zero_le _)
 have S1:w2.ownsRow 0 84 6 v2 (pT L k++[x]).length ((pT L k++[x]).flatten.map (Value.int .i64)):=by
  rw [jT,bRd,iV,List.flatten_singleton];exact J2
 obtain ⟨e,rfl,hel,rfl,heo,heh⟩:=bTl hk (by simp) Wi S1
 have hvb:e.val.ownBlock=some e.b:=rfl;have hwhere:(∃ e0∈L,e0.k=e.k∧e0.b=e.b)∨e.b=w.heap.size+1:=by
  rcases hat with h | h
  ·rcases hbk with h0 | ⟨e0,q1,q2,q3⟩
   ·rw [h0,hvb] at h;cases h
   ·rw [q3,hvb] at h;exact .inl ⟨e0,q1,q2,(Option.some.inj h).symm⟩
  ·rw [hvb] at h
   right
   have:=Option.some.inj h;rw [this];simp
 have hrow:∀ b,b<w.heap.size→(∀ e0∈L,e0.k=e.k→e0.b≠b)→w2.heap[b]? = w.heap[b]? := fun b hb hno=>by
  refine (Hp.block b (by omega) (fun he => ?_)).trans (n3 b hb)
  rcases hbk with h0 | ⟨e0,q1,q2,q3⟩
  ·rw [h0] at he;cases he
  ·rw [q3] at he;exact hno e0 q1 q2 (Option.some.inj he).symm
 have hblk:e.b≠mb∧∀ y∈L,y.k≠e.k→y.b≠e.b:=by
  rcases hwhere with ⟨e0,q1,q2,q3⟩ | h
  ·refine ⟨q3 ▸ hM.b_mb q1,fun y hy hyk hb=>hyk ?_⟩
   have:=hM.b_inj hy q1 (hb.trans q3.symm);rw [this];exact q2
  ·refine ⟨by omega,fun y hy _ hb => ?_⟩
   have:=bP (hblkh y hy);omega
 have Jr:w2.heap[mb]? = w.heap[mb]? := hrow mb hmlt fun e0 Pv _=>hM.b_mb Pv
 obtain ⟨Cs,D1,hup,G4,hbn⟩:=cAh (P:=P) (w:=w2) ht hkt (Jr.trans hmb) hM e heo hblk;refine ⟨e.val,w2,Cs,D1,e,hrun,fun b hb hno=>hrow b hb fun e0 Pv _=>hno e0.blk (by simp [iH];exact .inr ⟨e0,Pv,rfl⟩),Jr,⟨by have:=Hp.size;omega,hbn,fun p hp => ?_⟩,hup,G4,rfl,hel,?_,?_⟩
 ·rcases cV.1 hp with rfl | ⟨y,hy,rfl⟩
  ·exact .inl ⟨_,cV.2 (.inl rfl),rfl⟩
  ·rcases gW.1 hy with ⟨q1,_⟩ | rfl
   ·exact .inl ⟨_,cV.2 (.inr ⟨y,q1,rfl⟩),rfl⟩
   ·rcases hwhere with ⟨e0,r1,_,r3⟩ | h
    ·exact .inl ⟨_,cV.2 (.inr ⟨e0,r1,rfl⟩),r3⟩
    ·exact .inr (by show w.heap.size≤y.b;omega)
 ·intro p hp q hq
  rcases cV.1 hp with rfl | ⟨y,hy,rfl⟩
  ·exact hd (mb,.map es cl) (by simp [iH]) q hq
  ·rcases gW.1 hy with ⟨q1,q2⟩ | rfl
   ·exact hd y.blk (cV.2 (.inr ⟨y,q1,rfl⟩)) q hq
   ·rcases hwhere with ⟨e0,q1,q2,q3⟩ | h
    ·exact fun hpq=>hd e0.blk (cV.2 (.inr ⟨e0,q1,rfl⟩)) q hq (by rw [← hpq];exact q3)
    ·have:=bP (hhas q (zQ _ hq))
     intro hpq;change y.b=q.1 at hpq
     omega
 ·have hne:∀ p∈C0.R,p.1≠mb∧∀ e0∈L,p.1≠e0.b:=fun p hp=>⟨fun h=>hd (mb,.map es cl) (by simp [iH]) p hp h.symm,fun e0 Pv h=>hd e0.blk (cV.2 (.inr ⟨e0,Pv,rfl⟩)) p hp h.symm⟩
  have hset:∀ b,b≠mb→(setBlock w2 mb (.map Cs D1)).heap[b]? = w2.heap[b]? := fun b hb=>by
   unfold setBlock;simp only [Array.getElem?_setIfInBounds];rw [if_neg (Ne.symm hb)]
  have hsetm:(setBlock w2 mb (.map Cs D1)).heap[mb]? = some (.map Cs D1):=by
   unfold setBlock;have:mb<w2.heap.size:=bP (Jr.trans hmb);simp [this]
  refine hs.beside (fun b=>b=mb∨∃ e0∈L,e0.k=e.k∧e0.b=b) (fun b hb => ?_) Hp.os Hp.tape Hp.output (by have:=Hp.size;unfold setBlock;simp only [Array.size_setIfInBounds];omega) (fun b hb hX => ?_) (fun p hp => ?_)
  ·rcases hb with rfl | ⟨e0,q1,q2,rfl⟩
   ·exact ⟨_,mK _ (cV.2 (.inl rfl))⟩
   ·exact ⟨_,mK _ (cV.2 (.inr ⟨e0,q1,rfl⟩))⟩
  ·rw [hset b (fun h=>hX (.inl h))]
   exact hrow b hb fun e0 q1 q2 q3=>hX (.inr ⟨e0,q1,q2,q3⟩)
  ·rcases fV.1 hp with hp | hp
   ·rcases cV.1 hp with rfl | ⟨y,hy,rfl⟩
    ·exact .inr ⟨hsetm,(fun h=>by cases h),.inr ⟨_,mK _ (cV.2 (.inl rfl))⟩⟩
    ·rcases gW.1 hy with ⟨q1,q2⟩ | rfl
     ·refine .inl ⟨mK _ (cV.2 (.inr ⟨y,q1,rfl⟩)),fun hX => ?_⟩
      rcases hX with hX | ⟨e0,r1,r2,r3⟩
      ·exact hM.b_mb q1 hX
      ·have:=hM.b_inj q1 r1 r3.symm
       exact q2 (this ▸ r2)
     ·refine .inr ⟨(hset _ hblk.1).trans heh,(fun h=>by cases h),?_⟩
      rcases hwhere with ⟨e0,r1,r2,r3⟩ | h
      ·exact .inr ⟨.cells e0.arr 84 (0,0),mK _ (cV.2 (.inr ⟨e0,r1,by unfold Ent.blk;rw [r3]⟩))⟩
      ·exact .inl (by show w.heap.size≤y.b;omega)
   ·refine .inl ⟨zQ _ hp,fun hX => ?_⟩
    rcases hX with hX | ⟨e0,r1,r2,r3⟩
    ·exact (hne p hp).1 hX
    ·exact (hne p hp).2 e0 r1 r3.symm
end
section
open Go.ChangeMaps (setBlock)
variable {P:Program} {C:Cx} {M:Mem} {w:World}

def aIe(P:Program)(C:Cx)(M:Mem)(w:World)(C':Cx)(M':Mem)(W:World):Prop:=(∀ b,C'.F b↔C.F b)∧aO P C' M' W∧Fr C M w C' M' W
def aNr(M M':Mem):Prop:=(∀ (i:Nat) (es:List (Value × PV)) (cl:Nat),M'[i]? = some (some (.mp es cl))→∃ o,M[i]? = some (some o)∧o.live=true)∧bGu M'

theorem aIe.same{M':Mem}{W W':World}{C':Cx}(hn:aNr M M')(Cy:aO P C M w)(h:aIe P C M w C' M' W)(hsz:W.heap.size≤W'.heap.size)(ho:W'.os=W.os)(ht:W'.tape=W.tape)(hu:W'.output=W.output)
  (hs:∀ b,b<W.heap.size→(b<w.heap.size∧(∀ (id:Nat) (o:AO),M[id]? = some (some o)→o.live=true→C.ι id=some b→∃ o',M'[id]? = some (some o')∧o'.live=true))∨(mE W b∧∃ (id:Nat) (o:AO),M'[id]? = some (some o)∧o.live=true∧C'.ι id=some b)→W'.heap[b]? = W.heap[b]?):aIe P C M w C' M' W':=by
 obtain ⟨hF,hM,f⟩:=h;have old:∀ (i:Nat) (o:AO),M[i]? = some (some o)→C'.ι i=C.ι i:=fun i o h=>(f.ids i o h).2.1
 have hFz:∀ b,C'.F b→W'.heap[b]? = W.heap[b]? := fun b hb=>hs b (hM.Fs b hb) (.inl ⟨Cy.Fs b ((hF b).1 hb),fun id o ho hl he=>absurd ((hF b).1 hb) (Cy.nF id o b ho hl he)⟩)
 have hL:Le C' C' M' M' W W':=⟨fun _ o h=>⟨o,h⟩,fun _ _ _ _ _ cs h=>⟨cs,h⟩,fun _ o h o' h' hl=>by rw [h] at h';cases h';exact ⟨hl,rfl,rfl⟩,fun _ h=>h,hFz⟩
 refine ⟨hF,⟨fun i ty n cs hm => ?_,fun i ty cs hm => ?_,fun i es cl hm => ?_,hM.inj,hM.nF,fun b hb=>fU (hM.Fs b hb) hsz,fun i o b ho hl hb=>fU (hM.lt i o b ho hl hb) hsz⟩,
  ⟨ho.trans f.os,ht.trans f.tape,hu.trans f.out,gL f.size hsz,fun b hb hno=>(hs b (fU hb f.size) (.inl ⟨hb,fun id o ho hl he=>absurd he (hno id o ho hl)⟩)).trans (f.keep b hb hno),f.ids,f.row,f.liv,f.new,f.F1,f.F2⟩⟩
 ·rcases hM.row _ _ _ _ hm with h4 | ⟨b,arr,inf,q0,q1,q2,q3,q4,q5,q6,q7,q8⟩
  ·exact .inl h4
  ·exact .inr ⟨b,arr,inf,q0,(hs b (bP q1) (.inr ⟨fJ q1,i,_,hm,rfl,q0⟩)).trans q1,q2,q3,q4,q5,q6,fun j hj=>(q7 j hj).mono hL.F hL.fz,q8⟩
 ·obtain ⟨b,arr,q0,q1,q2,q3,q4⟩:=hM.box _ _ _ hm
  exact ⟨b,arr,q0,(hs b (bP q1) (.inr ⟨fJ q1,i,_,hm,rfl,q0⟩)).trans q1,q2,fun j hj=>(q3 j hj).mono hL,q4⟩
 ·obtain ⟨b,arr,q0,q1,q2,q3⟩:=hM.mp _ _ _ hm
  obtain ⟨o,Dd,hl⟩:=hn.1 _ _ _ hm;have hb:C.ι i=some b:=by rw [← old i o Dd];exact q0
  refine ⟨b,arr,q0,(hs b (bP q1) (.inl ⟨Cy.lt i o b Dd hl hb,fun id o2 J2 hl2 he => ?_⟩)).trans q1,q2,fun j hj => ?_⟩
  ·obtain rfl:=Cy.inj id i o2 o b J2 hl2 Dd hl he hb
   exact ⟨_,hm,rfl⟩
  ·obtain ⟨en,r1,r2,r3,r4⟩:=q3 j hj
   exact ⟨en,r1,r2,r3,r4.mono hL.F hL.fz⟩

theorem aIe.own{M':Mem}{W W':World}{C':Cx}{row:Option Nat}(hn:aNr M M')(Cy:aO P C M w)(h:aIe P C M w C' M' W)(hg:W.grownBy W' row)
  (hr:∀ r,row=some r→w.heap.size≤r∧∃ o:Obj,W.heap[r]? = some o∧o.isCells=false):aIe P C M w C' M' W' :=
 h.same hn Cy hg.size hg.os hg.tape hg.output fun b hb hd=>hg.block b hb fun e=>by
  obtain ⟨q1,o,q2,q3⟩:=hr b e.symm
  rcases hd with ⟨hd,_⟩ | ⟨hd,_⟩
  ·omega
  ·exact jQ q2 q3 hd
end
end KV
end Go.Proofs
section
namespace Go.Proofs
open Go.RowKit Go.Lib
namespace KV
open Tryz
attribute [local go_sem] Oper.semAt_some

def bk(n i:Nat):List Nat:=((List.range n).drop i).reverse
theorem cAe{n i:Nat}(h:i<n):bk n i=bk n (i+1)++[i]:=by
 unfold bk;rw [aRk (by simpa using h),List.reverse_cons]
 simp
theorem cIa(n:Nat):bk n n=[]:=by unfold bk;rw [List.drop_eq_nil_of_le (by simp)];rfl
theorem cAf(n:Nat):bk n 0=(List.range n).reverse:=rfl
theorem aZj{n i:Nat}:(bk n i).length=n-i:=by simp [bk]
theorem bLc{n i:Nat}(h:i≤n):bk n i <+: bk n 0:=by
 unfold bk;rw [List.drop_zero];refine ⟨((List.range n).take i).reverse,?_⟩;rw [← List.reverse_append,bHp]
theorem cMn{n i:Nat}(h:i<n):(bk n (i+1)).length<(bk n 0).length:=by rw [aZj,aZj];omega
end KV
end Go.Proofs
end
section
namespace Go.Proofs
open Go.RowKit Go.Lib Go.Shelf
namespace KV
open Tryz
attribute [local go_sem] Oper.semAt_some
def Hid(p:Prop):Prop:=p
theorem hid{p:Prop}(h:p):Hid p:=h
theorem Hid.out{p:Prop}(h:Hid p):p:=h
def Dh(x:List Int):Array Value:=(x.map (Value.int .i64)).toArray
set_option maxRecDepth 1000000 in
set_option maxHeartbeats 2000000 in
theorem aZh(dc:Lqq)(hl:dc.length≤1000)(F0:Nat→Prop)(n l b1 o1 b2 o2 cap:Nat)(hn:1≤n)(J Jx:List Nat→World→Prop)
  (hY:∀ pre (k:Nat) (a b c d e f:Int) W,dc[k]? = some [a,b,c,d,e,f]→J pre W→pre.length<(bk dc.length 0).length→YieldAt Fence.wide (n-1) Tp l #[.int .i64 k,.agg #[.int .i64 a,.int .i64 b,.int .i64 c,.int .i64 d,.int .i64 e,.int .i64 f]] W fun e W' =>
   (e = .returned (.bool true)∧J (pre++[k]) W'∧KpG F0 W W')∨(e = .returned (.bool false)∧Jx (pre++[k]) W'))
  (W:World) (hJ:AbidesFrom W.heap.size J) (hF:∀ b,F0 b→b<W.heap.size)
  (hc:∀ W',KpG F0 W W'→∀ k:Nat,k<dc.length→∃ a b c d e f,dc[k]? = some [a,b,c,d,e,f]∧W'.cell? ⟨b2,o2+k*6,none⟩=some (.int .i64 a)∧W'.cell? ⟨b2,o2+k*6+1,none⟩=some (.int .i64 b)∧W'.cell? ⟨b2,o2+k*6+2,none⟩=some (.int .i64 c)∧W'.cell? ⟨b2,o2+k*6+3,none⟩=some (.int .i64 d)∧W'.cell? ⟨b2,o2+k*6+4,none⟩=some (.int .i64 e)∧W'.cell? ⟨b2,o2+k*6+5,none⟩=some (.int .i64 f))
  (hk:∀ W',KpG F0 W W'→W'.cell? ⟨b1,o1,none⟩=some (.slice (some ⟨b2,o2,none⟩) dc.length cap)) (h0:J [] W) :
  CallsIn Fence.wide n Tp 157 #[.func (.yield l) #[] #[],.pointer (some ⟨b1,o1,none⟩)] W fun e W'=>(∃ v,e = .returned v) ∧
   ((∃ ys,ys=bk dc.length 0∧J ys W')∨(∃ pre,pre <+: bk dc.length 0∧Jx pre W')):=by
 have HJ:=hid hJ;have HY:=hid hY;have HC:=hid hc;have HKC:=hid hk;have HF0:=hid hF;have HJ0:=hid h0;have k0:=hk W (KpG.refl _ _);clear hJ hY hc h0 hk hF;refine callsIn_of_wp func157 rfl trivial ?_ rfl;simp only [Tryz.ntmps157,List.size_toArray,nM,List.length_nil,Nat.reduceAdd,Nat.reduceSub,Array.replicate_succ,Array.replicate_zero,List.push_toArray,List.append_toArray,List.nil_append,List.cons_append]
 gi_wp2
 clear k0
 gi_loopw [3] (fun i wr=>∃ k:Nat,k≤dc.length∧i = .int .i64 ((k:Int)-1)∧J (bk dc.length k) wr∧KpG F0 W wr)
  (fun i _=>(intOf i+1).toNat)
 case atStart=>exact ⟨dc.length,dG _,by go_num,by rw [cIa];exact HJ0.out,KpG.refl _ _⟩
 case round =>
  obtain ⟨k,hk,rfl,hJk,hK⟩:=hrel;have HJK:=hid hJk;have HK:=hid hK;have k0:=HKC.out wr hK;have HFR:=hid (fun b (hb:F0 b)=>fU (HF0.out b hb) HK.out.size)
  clear hJk hK
  rcases Nat.eq_zero_or_pos k with rfl | hpos
  ·gi_wp2
   go_end0
   exact ⟨⟨_,rfl⟩,.inl ⟨_,rfl,HJK.out⟩⟩
  ·obtain ⟨k,rfl⟩:∃ j,k=j+1:=⟨k-1,by omega⟩
   have e1:((k+1:Nat):Int)-1=(k:Int):=by omega
   have hlt:(k:Int)<(dc.length:Int):=by omega
   have Wg:(dc.length:Int)≤1000:=by omega
   rw [e1];obtain ⟨a,b,c,d,e,f,Uk,c0,c1,c2,c3,c4,c5⟩:=HC.out wr HK.out k (by omega)
   have HL:=hid (cMn (n:=dc.length) (i:=k) (by omega))
   have HB:=hid (cAe (n:=dc.length) (i:=k) (by omega))
   have HP:=hid (bLc (n:=dc.length) (i:=k) (by omega))
   have hge:(k:Int) ≥ 0:=by omega
   obtain ⟨fn,tmps,assign,body,hy,hR⟩:=HY.out _ k a b c d e f wr Uk HJK.out HL.out;clear Uk
   gi_wp2_with (refine hR.mono ?_;clear hR;rintro e w3 (⟨rfl,Pu,M8⟩ | ⟨rfl,hx⟩))
   ·go_roundw
    case rel=>exact ⟨k,by omega,by go_num,by rw [HB.out];exact Pu,HK.out.trans M8⟩
    case measure=>simp [intOf]
   ·refine bodyPost_ret (results_none rfl _ _ _) rfl ?_
    exact ⟨⟨_,rfl⟩,.inr ⟨bk dc.length (k+1)++[k],HB.out ▸ HP.out,hx⟩⟩
set_option maxRecDepth 1000000 in
set_option maxHeartbeats 2000000 in
theorem aZi(n l b1 o1 cap:Nat)(p:Option Addr)(hn:1≤n)(J:World→Prop)(W:World)(hk:W.cell? ⟨b1,o1,none⟩=some (.slice p 0 cap))(h0:J W) :
  CallsIn Fence.wide n Tp 157 #[.func (.yield l) #[] #[],.pointer (some ⟨b1,o1,none⟩)] W fun e W'=>(∃ v,e = .returned v)∧J W':=by
 have HJ0:=hid h0;have k0:=hk;clear h0 hk;refine callsIn_of_wp func157 rfl trivial ?_ rfl;simp only [Tryz.ntmps157,List.size_toArray,nM,List.length_nil,Nat.reduceAdd,Nat.reduceSub,Array.replicate_succ,Array.replicate_zero,List.push_toArray,List.append_toArray,List.nil_append,List.cons_append]
 gi_wp2
 clear k0
 gi_loopw [3] (fun i wr=>i = .int .i64 (-1)∧J wr) (fun i _=>(intOf i+1).toNat)
 case atStart=>exact ⟨by go_num,HJ0.out⟩
 case round =>
  obtain ⟨rfl,hJk⟩:=hrel;have HJK:=hid hJk;clear hJk
  gi_wp2
  go_end0
  exact ⟨⟨_,rfl⟩,HJK.out⟩
end KV
end Go.Proofs
end
namespace Go.Proofs
namespace KV
open Tryz
section
variable {P:Program} {ops:Array Oper} {md:Region.Mode} {Q:Exit→Act→World→Prop} {F:Fence} {n:Nat}

def VS(P:Program)(m:Sem Next):Prop:=∀ w,(∃ v w',m.run P w = .ok (.value v) w')∨(∃ w',m.run P w = .ok .skip w')∨∃ x w',m.run P w = .halt x w'
theorem VS.val(m:Sem Value):VS P (do pure (.value (← m))):=fun w=>by
 cases h:m.run P w with
 | ok v w'=>exact .inl ⟨v,w',by simp [h,Result.andThen]⟩
 | halt x w'=>exact .inr (.inr ⟨x,w',by simp [h,Result.andThen]⟩)
theorem VS.unit(m:Sem Unit):VS P (do m;pure .skip):=fun w=>by
 cases h:m.run P w with
 | ok v w'=>exact .inr (.inl ⟨w',by simp [h,Result.andThen]⟩)
 | halt x w'=>exact .inr (.inr ⟨x,w',by simp [h,Result.andThen]⟩)
theorem VS.bind{α:Type}(m:Sem α)(f:α→Sem Next)(h:∀ x,VS P (f x)):VS P (m >>= f):=fun w=>by
 cases e:m.run P w with
 | ok v w' =>
  rcases h v w' with ⟨u,w2,q⟩ | ⟨w2,q⟩ | ⟨x,w2,q⟩
  ·exact .inl ⟨u,w2,by simp [e,Result.andThen,q]⟩
  ·exact .inr (.inl ⟨w2,by simp [e,Result.andThen,q]⟩)
  ·exact .inr (.inr ⟨x,w2,by simp [e,Result.andThen,q]⟩)
 | halt x w'=>exact .inr (.inr ⟨x,w',by simp [e,Result.andThen]⟩)
theorem VS.pure(v:Value):VS P (Pure.pure (.value v):Sem Next):=fun w => .inl ⟨v,w,rfl⟩
def aBp(o:Oper):Bool:=match o.op with
 | .move _=>true
 | .assign _=>true
 | .indexAddr _ _ _=>true
 | .fieldAddr _ _ _=>true
 | .field _ _ _=>true
 | .load _ _=>true
 | .store _ _ _=>true
 | .lookup _ _ _ _=>true
 | .buildSlice _ _ _=>true
 | .mapUpdate _ _ _ _=>true
 | .nilCheck _=>true
 | .call c=>match c.callee with
  | .builtin .append=>true
  | _=>false
 | _=>false
theorem cAd{o:Oper}(h:aBp o=true)(ρ:Operand→Value):VS P (execOp ρ o):=by
 unfold aBp at h
 unfold execOp;cases ho:o.op <;> rw [ho] at h <;> first | exact absurd h Bool.false_ne_true | exact VS.val _ | exact VS.unit _ | skip
 case move x=>exact fun w => .inl ⟨_,w,rfl⟩
 case assign x=>exact fun w => .inl ⟨_,w,rfl⟩
 case nilCheck x =>
  dsimp only
  split
  ·exact fun w => .inr (.inr ⟨_,_,rfl⟩)
  ·exact fun w => .inr (.inr ⟨_,_,rfl⟩)
  ·exact fun w => .inr (.inr ⟨_,_,rfl⟩)
  ·split
   ·exact fun w => .inr (.inr ⟨_,_,rfl⟩)
   ·refine VS.bind _ _ fun p=>VS.bind _ _ fun q => ?_
    split
    ·exact VS.bind _ _ fun _=>VS.pure _
    ·exact VS.pure _
   ·exact VS.pure _
  ·exact VS.pure _
 case call c =>
  dsimp only at h
  show VS P (resolve ρ c o.type >>= fun d=>invoke d.target d.args)
  split at h
  ·rename_i hc
   unfold resolve;rw [hc];exact VS.val _
  ·cases h
theorem aZg{o:Oper}(h:aBp o=true):∀ c,o.op ≠ .defer c:=fun c hc=>by unfold aBp at h;rw [hc] at h;cases h

theorem aSk(hall:∀ f,F.fn f){i:Nat}{K:Act→World→Prop}{a:Act}{w:World}(hL:¬ LetsOut Q)(hc:∀ o,ops[i]? = some o→aBp o=true)(h:wpOp P ops Q i K a w):wpOpIn F n P ops Q i K a w:=by
 unfold wpOp at h
 unfold wpOpIn;cases ho:ops[i]? with
 | none=>rw [ho] at h;exact h
 | some o =>
  rw [ho] at h
  dsimp only at h ⊢
  split
  ·rename_i hw
   rw [if_pos hw] at h
   rcases h with h | h
   ·unfold Oper.wp at h
    unfold Oper.wpIn;refine ⟨fun f _=>hall f,?_⟩
    rw [Oper.semAt_plain _ _ _ (aZg (hc o ho))]
    rcases cAd (P:=P) (hc o ho) a.eval w with ⟨v,w',e⟩ | ⟨w',e⟩ | ⟨x,w',e⟩
    ·rw [e] at h ⊢;exact h
    ·rw [e] at h ⊢;exact h
    ·rw [e] at h ⊢
     cases x <;> first | exact h | exact h.elim
   ·exact absurd h.2 hL
  ·rename_i hw
   rw [if_neg hw] at h
   exact ⟨fun f _=>hall f,h⟩
theorem yI(hall:∀ f,F.fn f)(hL:¬ LetsOut Q)(hc:∀ (i:Nat) (o:Oper),ops[i]? = some o→aBp o=true):∀ (fuel:Nat) (listed:Array Bool) (a:Act) (w:World),wpAny P md ops Q fuel listed a w→wpAnyIn F n P md ops Q fuel listed a w
 | 0,_,_,_,h=>h
 | fuel+1,listed,a,w,h=>⟨h.1,fun i hi=>wpOpIn_mono (fun a' w' h'=>yI hall hL hc fuel _ a' w' h') (aSk hall hL (hc i) (h.2 i hi))⟩

theorem bLb{S:World→Prop}{id:Nat}{l:List Oper}{a:Act}{w:World}{o1 o2 o3:Oper}(hall:∀ f,F.fn f)(hL:¬ LetsOut Q)(hcalm:l.all aBp=true)(ts:List Nat)(r1 r2 r3:Nat)(hm:P.follows .mixedOrders=true)(hB:aNu l ts r1 r2 r3=true)(h1:l[r1]? = some o1)(h2:l[r2]? = some o2)(h3:l[r3]? = some o3)
  (hQ:∀ c a w,¬ Q (.panic c) a w) (hS:S { w with drawn:=w.drawn+1 }) (vs:List Value) (hl:vs.length=ts.length) (hy:aNt P S ((ts.filterMap fun i=>l[i]?).zip vs) a)
  (h:∀ a',a'=aBq ((ts.filterMap fun i=>l[i]?).zip vs) a→∃ v1 w1 v2 w2 w3,(execOp a'.eval o1).run P { w with drawn:=w.drawn+1 } = .ok (.value v1) w1∧S w1∧(execOp (a'.put o1.dst v1).eval o2).run P w1 = .ok (.value v2) w2∧S w2 ∧
   (execOp ((a'.put o1.dst v1).put o2.dst v2).eval o3).run P w2 = .ok .skip w3∧Q .normal (((a'.put o1.dst v1).put o2.dst v2).put o3.dst undef) w3):(Code.region id l.toArray true).wpIn F n P Q a w:=by
 unfold aNu at hB
 simp only [Cc,decide_eq_true_eq] at hB
 obtain ⟨⟨⟨hsel,ht⟩,hsz⟩,hne⟩:=hB;refine wpIn_region_any hm (yI hall hL (fun i o ho=>gC.1 hcalm o (Bp (by simpa using ho))) _ _ _ _ (aFp (S:=S) (L:=r3) _ _ _ _ ?_))
 rw [← hsz];refine aKk (rs:=[r1,r2,r3]) hsel hQ hS ts vs _ a hl (by rw [hsz];exact ht) (by simpa using hy) (fun Gy hc => ?_)
 obtain ⟨v1,w1,v2,w2,w3,e1,s1,e2,s2,e3,hq⟩:=h _ rfl;simp only [aKj.chain,Cc,decide_eq_true_eq] at hc
 obtain ⟨⟨g1,c1⟩,⟨g2,c2⟩,⟨g3,c3⟩,c4⟩:=hc;have k1:l.toArray[r1]? = some o1:=by simpa using h1
 have k2:l.toArray[r2]? = some o2:=by simpa using h2
 have k3:l.toArray[r3]? = some o3:=by simpa using h3
 rw [k1] at g1;rw [k2] at g2;rw [k3] at g3
 simp only [Option.isNone_iff_eq_none] at g1 g2 g3
 have M6:((ts.filterMap fun i=>l.toArray[i]?))=(ts.filterMap fun i=>l[i]?):=by simp
 rw [M6];refine wL c1 k1 g1 (.inl e1) (fun _=>s1) ?_
 refine wL c2 k2 g2 (.inl e2) (fun _=>s2) ?_
 refine wL c3 k3 g3 (.inr ⟨e3,rfl⟩) (fun h=>absurd rfl h) ?_
 exact ⟨by simpa using c4,hq⟩
end
section
open Go.ChangeMaps (setBlock)
variable {P:Program} {C:Cx} {M:Mem} {w:World}

theorem cAc{M':Mem}(hM:aO P C M w)(h1:∀ (i:Nat) (o:AO),M'[i]? = some (some o)→M[i]? = some (some o))
  (h2:∀ (i ty:Nat) (cs:List AV),M'[i]? = some (some (.box ty cs))→∀ x∈cs,∀ u,Rep C M w x u→Rep C M' w x u):aO P C M' w:=by
 refine ⟨fun i ty n cs hm=>hM.row _ _ _ _ (h1 _ _ hm),fun i ty cs hm => ?_,fun i es cl hm=>hM.mp _ _ _ (h1 _ _ hm),fun i i' o o' b q1 q2 q3 q4=>hM.inj i i' o o' b (h1 _ _ q1) q2 (h1 _ _ q3) q4,fun i o b q1=>hM.nF i o b (h1 _ _ q1),hM.Fs,fun i o b q1=>hM.lt i o b (h1 _ _ q1)⟩
 obtain ⟨b,arr,q0,q1,q2,q3,q4⟩:=hM.box _ _ _ (h1 _ _ hm);exact ⟨b,arr,q0,q1,q2,fun j hj=>h2 _ _ _ hm _ (fG hj) _ (q3 j hj),q4⟩
theorem aSi{M':Mem}{i off:Nat}{u:Value}(hi:M'[i]? = M[i]?)(h:Rep C M w (.ptr i off) u):Rep C M' w (.ptr i off) u:=by
 cases h with
 | ptr _ _ _ h0 ha h hp=>exact .ptr i off u h0 (by rw [hi];exact ha) (by rw [hi];exact h) hp
theorem aZf{M':Mem}{i:Nat}{u:Value}(hi:M'[i]? = M[i]?)(h:Rep C M w (.mp i) u):Rep C M' w (.mp i) u:=by
 cases h with
 | mp _ _ h0 ha h=>exact .mp i u h0 (by rw [hi];exact ha) (by rw [hi];exact h)
theorem uK{M':Mem}{x:PV}{u:Value}(h:Rep C M w (.p x) u):Rep C M' w (.p x) u:=by
 cases h with
 | p _ _ h=>exact .p _ _ h

theorem aSj{b ty k:Nat}{cs:List PV}{arr:Array Value}(hM:aO P C M w)(hf:aCe M k)(hh:w.heap[b]? = some (.cells arr ty (0,0)))(hnF:¬ C.F b)(hnl:∀ (id:Nat) (o:AO),M[id]? = some (some o)→o.live=true→C.ι id≠some b)
  (hs:arr.size=cs.length) (hrep:∀ j (h:j<cs.length),bQ C.F w cs[j] (arr.getD j undef)) (h1:∀ j,j<cs.length→(arr.getD j undef).oneCell'=true) :
  aO P (C.grow k b 1) (aW M k (some (.box ty (cs.map .p)))) w∧Le C (C.grow k b 1) M (aW M k (some (.box ty (cs.map .p)))) w w:=by
 have hne:∀ (j:Nat) (o':AO),M[j]? = some (some o')→j≠k:=fun j o' h e=>hf o' (e ▸ h)
 have hold:∀ (j:Nat) (o':AO),j≠k→(aW M k (some (.box ty (cs.map .p))))[j]? = some (some o')→M[j]? = some (some o'):=fun j o' h=>(aP M k j _ o' (fun e=>h e.symm)).1
 have hfw:∀ (j:Nat) (o':AO),M[j]? = some (some o')→(aW M k (some (.box ty (cs.map .p))))[j]? = some (some o'):=fun j o' h=>(aP M k j _ o' (fun e=>hne j o' h e.symm)).2 h
 have hι:∀ j,j≠k→(C.grow k b 1).ι j=C.ι j:=fun j h=>by simp [Cx.grow,h]
 have hκ:∀ j,j≠k→(C.grow k b 1).κ j=C.κ j:=fun j h=>by simp [Cx.grow,h]
 have hιs:(C.grow k b 1).ι k=some b:=by simp [Cx.grow]
 have hle:Le C (C.grow k b 1) M (aW M k (some (.box ty (cs.map .p)))) w w:=by
  refine ⟨fun j o h=>⟨o,hfw j o h⟩,fun j o h Cr n' Bl hm=>⟨Bl,hold j _ (hne j o h) hm⟩,fun j o h o' hm hl => ?_,fun _ h=>h,fun _ _=>rfl⟩
  have:=hold j _ (hne j o h) hm;rw [h] at this;cases this
  exact ⟨hl,hι j (hne j o h),hκ j (hne j o h)⟩
 have hnew:∀ (o':AO),(aW M k (some (.box ty (cs.map .p))))[k]? = some (some o')→o' = .box ty (cs.map .p):=fun o' h=>by rw [aU] at h;cases h;rfl
 refine ⟨⟨fun j Cr n' Bl hm => ?_,fun j Cr Bl hm => ?_,fun j es cl hm => ?_,fun j j' o1 o2 b' hm hl Dt Ea B5 Dr => ?_,fun j o' b' hm hl Ar => ?_,hM.Fs,fun j o' b' hm hl Ar => ?_⟩,hle⟩
 ·by_cases e:j=k
  ·subst e;cases hnew _ hm
  ·rw [hι j e,hκ j e]
   rcases hM.row _ _ _ _ (hold j _ e hm) with h4 | ⟨b,arr,inf,q0,q1,q2,q3,q4,q5,q6,q7,q8⟩
   ·exact .inl h4
   ·exact .inr ⟨b,arr,inf,q0,q1,q2,q3,q4,q5,q6,fun j hj=>(q7 j hj).mono hle.F hle.fz,q8⟩
 ·by_cases e:j=k
  ·subst e
   cases hnew _ hm;refine ⟨b,arr,hιs,hh,by simpa using hs,fun i hi => ?_,fun i hi=>h1 i (by simpa using hi)⟩
   rw [mL];exact .p _ _ (hrep i (by simpa using hi))
  ·rw [hι j e]
   obtain ⟨b,arr,q0,q1,q2,q3,q4⟩:=hM.box _ _ _ (hold j _ e hm);exact ⟨b,arr,q0,q1,q2,fun j hj=>(q3 j hj).mono hle,q4⟩
 ·by_cases e:j=k
  ·subst e;cases hnew _ hm
  ·rw [hι j e]
   obtain ⟨b,arr,q0,q1,q2,q3⟩:=hM.mp _ _ _ (hold j _ e hm);refine ⟨b,arr,q0,q1,q2,fun j hj => ?_⟩
   obtain ⟨en,r1,r2,r3,r4⟩:=q3 j hj;exact ⟨en,r1,r2,r3,r4.mono hle.F hle.fz⟩
 ·by_cases e:j=k
  ·by_cases e':j'=k
   ·rw [e,e']
   ·subst e
    rw [hιs] at B5;cases B5
    rw [hι j' e'] at Dr
    exact absurd Dr (hnl _ _ (hold j' _ e' Dt) Ea)
  ·by_cases e':j'=k
   ·subst e'
    rw [hιs] at Dr;cases Dr
    rw [hι j e] at B5
    exact absurd B5 (hnl _ _ (hold j _ e hm) hl)
   ·rw [hι j e] at B5;rw [hι j' e'] at Dr
    exact hM.inj _ _ _ _ _ (hold j _ e hm) hl (hold j' _ e' Dt) Ea B5 Dr
 ·by_cases e:j=k
  ·subst e
   rw [hιs] at Ar;cases Ar
   exact hnF
  ·rw [hι j e] at Ar
   exact hM.nF _ _ _ (hold j _ e hm) hl Ar
 ·by_cases e:j=k
  ·subst e
   rw [hιs] at Ar;cases Ar
   exact bP hh
  ·rw [hι j e] at Ar
   exact hM.lt _ _ _ (hold j _ e hm) hl Ar
end
end KV
end Go.Proofs
section
namespace Go.Proofs
open Go.RowKit Go.Lib Go.Shelf
namespace KV
open Tryz
abbrev Bk(dc:Lqq):={ k:Nat // k<dc.length }
def nI(dc:Lqq)(k:Nat):List Int:=dc.getD k []
abbrev aSh(dc:Lqq):AV := .fn 157 [] [(.rp [(.sl dc.length (dc.flatten.map aA))] 0)]
theorem repVi{F:Nat→Prop}{w:World}{n:Int}{u:Value}(h:bQ F w (aA n) u):u = .int .i64 n:=by unfold aA at h;cases h;rfl
theorem cAb{dc:Lqq}(hu:uni 6 dc){k j:Nat}{x:List Int}(hx:dc[k]? = some x)(hj:j<6):dc.flatten[k*6+j]? = some (x.getD j 0):=by
 have hk:k<dc.length:=(Bs.1 hx).1
 induction dc generalizing k with
 | nil=>simp at hk
 | cons y r ih =>
  have hy:y.length=6:=hu y (iN ..);rw [xY];cases k with
  | zero =>
   simp at hx;subst hx
   rw [Nat.zero_mul,gS,zP (by omega),Bw,Av (by omega)];rfl
  | succ k =>
   rw [zO (by omega),hy,show (k+1)*6+j-6=k*6+j by omega]
   exact ih (fun z hz=>hu z (Cj _ hz)) (by simpa using hx) (by simpa using hk)
theorem cHz{F:Nat→Prop}{w:World}{n:Nat}{cs:List PV}{v:Value}(h:bQ F w (.sl n cs) v):∃ (p:Option Addr) (cap:Nat) (us:Nat→Value),v = .slice p n cap∧(∀ i,i<cs.length→∃ b o,p=some ⟨b,o,none⟩∧F b∧w.cell? ⟨b,o+i,none⟩=some (us i))∧∀ i (h:i<cs.length),bQ F w cs[i] (us i):=by
 cases h with
 | sl _ _ p cap us g1 g2 g3 g4 g5=>exact ⟨p,cap,us,rfl,g3,g4⟩
theorem bLa(dc:Lqq)(hu:uni 6 dc)(hl:dc.length≤1000):cGp Tp (aSh dc) (fun x:Bk dc => #[Value.int .i64 (x.1:Nat),.agg (Dh (nI dc x.1))]) 157 dc.length (fun ys=>ys.map (fun x=>x.1)=bk dc.length 0):=fun C M w u O5 hFs=>by
 cases O5 with
 | fn _ _ _ us vs h1 h2 h3 h4 =>
  obtain rfl:us = #[]:=by simpa using h1
  have q0:=h4 0 (by simp)
  simp only [List.getElem_cons_zero] at q0
  obtain ⟨x0,rfl⟩:∃ x0,vs = #[x0]:=by
   have:vs.toList.length=1:=by simpa using h2
   match hv:vs.toList,this with
   | [x0],_=>exact ⟨x0,by rw [← hv]⟩
  change Rep C M w (.rp [.sl dc.length (dc.flatten.map aA)] 0) x0 at q0
  cases q0 with
  | rp _ _ b1 o1 u1 e1 e2 e3 =>
   have r0:=e2 0 (by simp)
   change bQ C.F w (.sl dc.length (dc.flatten.map aA)) (u1 0) at r0
   have c0:=e1 0 (by simp)
   obtain ⟨p,cap,us2,hv,g3,g4⟩:=cHz r0;rw [hv] at c0
   clear r0 hv
   ·have hlf:(dc.flatten.map aA).length=dc.length*6:=by rw [B9,qV hu]
    refine ⟨_,fun pre=>True,rfl,fun l J Jx W hW hJ _ hY h0 => ?_⟩
    have hsame:∀ W',KpG C.F W W'→∀ b,C.F b→W'.heap[b]? = w.heap[b]? := fun W' hk b hb=>(hk.same b hb).trans (hW.block b (hFs b hb))
    obtain ⟨b2,o2,hp⟩:∃ b2 o2,dc.length=0∨p=some ⟨b2,o2,none⟩:=by
     by_cases hz:dc.length=0
     ·exact ⟨0,0,.inl hz⟩
     ·obtain ⟨b,o,h,_⟩:=g3 0 (by omega)
      exact ⟨b,o,.inr h⟩
    have hcell:∀ W',KpG C.F W W'→∀ k:Nat,k<dc.length→∃ a b c d e f,dc[k]? = some [a,b,c,d,e,f]∧W'.cell? ⟨b2,o2+k*6,none⟩=some (.int .i64 a)∧W'.cell? ⟨b2,o2+k*6+1,none⟩=some (.int .i64 b)∧W'.cell? ⟨b2,o2+k*6+2,none⟩=some (.int .i64 c)∧W'.cell? ⟨b2,o2+k*6+3,none⟩=some (.int .i64 d)∧W'.cell? ⟨b2,o2+k*6+4,none⟩=some (.int .i64 e)∧W'.cell? ⟨b2,o2+k*6+5,none⟩=some (.int .i64 f):=fun W' hk k hkn=>by
     obtain ⟨a,b,c,d,e,f,hx⟩:=Ua hu (i:=k) (by omega)
     have one:∀ j,j<6→W'.cell? ⟨b2,o2+(k*6+j),none⟩=some (.int .i64 ([a,b,c,d,e,f].getD j 0)):=fun j hj=>by
      have hi:k*6+j<(dc.flatten.map aA).length:=by omega
      obtain ⟨b',o',q1,q2,q3⟩:=g3 (k*6+j) hi
      rcases hp with hp | hp
      ·omega
      ·rw [hp] at q1
       cases q1;rw [eG (hsame W' hk b2 q2),q3];have:=g4 (k*6+j) hi;have he:(dc.flatten.map aA)[k*6+j]=aA ([a,b,c,d,e,f].getD j 0):=by
        have h5:=cAb hu hx hj;rw [mL]
        congr 1
        obtain ⟨_,h6⟩:=Bs.1 h5;exact h6
       rw [he] at this
       rw [repVi this]
     exact ⟨a,b,c,d,e,f,hx,one 0 (by omega),one 1 (by omega),one 2 (by omega),one 3 (by omega),one 4 (by omega),one 5 (by omega)⟩
    by_cases hz:dc.length=0
    ·-- nothing to yield: any address will do
     have h2:bk dc.length 0=[]:=by unfold bk;rw [hz];rfl
     rw [hz] at c0
     refine (aZi 2 l b1 o1 cap p (by omega) (J []) W ((eG (hsame W (KpG.refl _ _) b1 c0.1) _).trans c0.2) h0).mono ?_
     rintro e W' ⟨h5,h6⟩;exact ⟨h5,.inl ⟨[],by rw [h2];rfl,h6⟩⟩
    ·have hp:p=some ⟨b2,o2,none⟩:=hp.resolve_left hz
     subst hp;have:=aZh dc hl C.F 2 l b1 o1 b2 o2 cap (by omega) (fun ys W=>∃ zs:List (Bk dc),zs.map (fun x=>x.1)=ys∧J zs W) (fun ys W=>∃ zs:List (Bk dc),zs.map (fun x=>x.1)=ys∧Jx zs W)
      (fun pre k a b c d e f W1 hx hj hlt=>by
       obtain ⟨zs,rfl,hj⟩:=hj;have hk:k<dc.length:=(Bs.1 hx).1;obtain ⟨fn,tmps,assign,body,hy,hR⟩:=hY zs ⟨k,hk⟩ W1 hj (by simpa [aZj] using hlt)
       have ev:Dh (nI dc k) = #[.int .i64 a,.int .i64 b,.int .i64 c,.int .i64 d,.int .i64 e,.int .i64 f]:=by
        unfold nI;rw [Bw,hx];rfl
       dsimp only at hy
       rw [ev] at hy
       refine ⟨fn,tmps,assign,body,hy,hR.mono ?_⟩;rintro e w3 (⟨rfl,Pu,M8⟩ | ⟨rfl,K7⟩)
       ·exact .inl ⟨rfl,⟨zs++[⟨k,hk⟩],by rw [iV];rfl,Pu⟩,M8⟩
       ·exact .inr ⟨rfl,⟨zs++[⟨k,hk⟩],by rw [iV];rfl,K7⟩⟩)
      W (fun ys A B row hs hg hr=>by obtain ⟨zs,h1,h2⟩:=hs;exact ⟨zs,h1,hJ _ _ _ _ h2 hg hr⟩) (fun b hb=>fU (hFs b hb) hW.size)
      hcell
      (fun W' hk=>(eG (hsame W' hk b1 c0.1) _).trans c0.2)
      ⟨[],rfl,h0⟩
     refine this.mono ?_;rintro e W' ⟨h5,h6⟩;refine ⟨h5,?_⟩
     rcases h6 with ⟨ys,rfl,zs,h7,h8⟩ | ⟨pre,_,zs,h7,h8⟩
     ·exact .inl ⟨zs,h7,h8⟩
     ·exact .inr ⟨zs,trivial,h8⟩
end KV
end Go.Proofs
end
section
namespace Go.Proofs
open Go.RowKit
namespace KV
open Tryz
variable {P:Program} {T:TT} {E:Env} {C C0:Cx} {M M0:Mem} {w w0:World}
def eZ(P:Program)(k:Nat)(c:Code)(st:St)(e:Ex)(Am:St):Prop:=∀ (C0:Cx) (M0:Mem) (w0:World) (a:Act) (w:World),M0.length≤k→Sim P C0 M0 w0 st a w→∀ (ro:Option Nat) (n:Nat),c.wpIn (Fen ro) n P (fun e' a' w'=>e'=e.toExit∧Sim P C0 M0 w0 Am a' w') a w
theorem eZ.cast{k:Nat}{c:Code}{st st1 st2:St}{e:Ex}(h:eZ P k c st e st1)(q:st1=st2):eZ P k c st e st2:=q ▸ h
theorem bTm(hT:∀ t i,T t=some i→cB P t=some i)(hE:nA P E)(hm:P.follows .mixedOrders=true){id:Nat}{ops:Array Oper}{d:Bool}{st Am:St}{s s':AS}(h:bGd P T E ops d st s=some (Am,s'))(g:aY s'){k:Nat}:eZ P k (.region id ops d) st .normal Am:=by
 intro C0 M0 w0 a w _ hs ro n;cases d with
 | false =>
  refine wpIn_region ?_;have:=vT hT hE ops.toList 0 (fun j=>by simp) h g C0 M0 w0 a w hs ro n (fun e' a' w'=>e'=Ex.normal.toExit∧Sim P C0 M0 w0 Am a' w') (fun a' w' h'=>⟨rfl,h'⟩)
  simpa using this
 | true =>
  obtain ⟨_,s1,h1,k1⟩:=aD h;obtain ⟨e1,rfl⟩:=aH h1;obtain ⟨r,s2,h2,k2⟩:=aD k1;obtain ⟨_,s3,h3,k3⟩:=aD k2;obtain ⟨e3,rfl⟩:=aH h3;obtain ⟨rfl,rfl⟩:=aK k3;obtain ⟨hB,_⟩:=bL e1;obtain ⟨hA,_⟩:=bL e3;obtain ⟨os,hfts,hlex⟩:=xC ops.toList _ (fts:=r.1) (fin:=r.2) h2 g
  replace hB:=aJc hB
  unfold Region.lexB at hB
  rw [Cc] at hB
  have hlen:os.length=ops.toList.length:=by
   have:∀ {l:List Oper} {id:Nat} {st:St} {os:List zF} {fin:St},aVv P T E ops.toList id l st os fin→os.length=l.length:=by
    intro l
    induction l with
    | nil=>intro id st os fin h;cases h;rfl
    | cons o l ih=>intro id st os fin h;cases h with | cons _ _ _ _ q os _ h hr=>simp [ih hr]
   exact this hlex
  have key:rY P T E ops.toList st.m.length (fun k=>os.getD k (.any,[],none)) r.2 ops.toList.length (Array.replicate ops.size false) st:=by
   refine rY.lex ops.toList 0 _ st os (fun j=>by simp) (fun j q hj=>by simp [Bw,hj]) (fun j hj=>absurd hj (bRe _)) (fun j oj hj hl => ?_) (fun i j _ hij hj => ?_) (by simpa using hB.2) (by simpa [ido] using hlex)
   ·exfalso
    rcases Nat.lt_or_ge j ops.size with h' | h'
    ·simp [h'] at hl
    ·simp [Nat.not_lt.2 h'] at hl
   have Ec:j<os.length:=by
    rw [hlen];obtain ⟨o,ho⟩:=Option.isSome_iff_exists.1 hj;exact (Bs.1 ho).1
   have:=rZ r.1 0 hA i j (aLu os[i]) (aLu os[j]) hij (by rw [hfts,jU,Av (by omega)];rfl) (by rw [hfts,jU,Av Ec];rfl)
   rw [gS,gS] at this
   simp only [Bw,Av Ec,Av (show i<os.length by omega),Option.getD_some,Array.toArray_toList]
   exact this
  refine wpIn_region_any hm ?_;have:=rY.sound hT hE (C0:=C0) (M0:=M0) (w0:=w0) (ro:=ro) (n:=n) (Q:=fun e' a' w'=>e'=Ex.normal.toExit∧Sim P C0 M0 w0 r.2 a' w') (fun a' w' h'=>⟨rfl,h'⟩) _ _ _ a _ key (hs.drawn (w.drawn+1))
  simpa using this


noncomputable def bTn(c:Code)(st:St):Ask (Ex × St):=match c with
 | .region _ ops d=>do
  let Am ← bGd Tp tT EO ops d st
  pure (.normal,Am)
 | _=>fail
theorem eZ.fin{k:Nat}{c:Code}{st Am:St}{e:Ex}{g:Gh}{o:List OI}{l:List Prop}(h:aMt k g (bTn c st (asg o))=some (e,Am,l,[]))(gd:aY (out l)):eZ Tp k c st e Am:=by
 unfold aMt at h
 split at h
 ·rename_i e1 st1 s hr
  split at h
  ·rename_i st2 hg
   simp only [Option.some.injEq,Prod.mk.injEq] at h
   obtain ⟨rfl,rfl,rfl,hs⟩:=h;unfold bTn at hr
   split at hr
   ·rename_i id ops d
    obtain ⟨Wj,s1,h1,k1⟩:=aD hr;obtain ⟨he,rfl⟩:=aK k1;cases he;intro C0 M0 w0 a w hk hsm ro n;exact wpIn_mono (bTm (k:=k) aRn aRm mixed h1 (fun p hp=>gd p hp) C0 M0 w0 a w hk hsm ro n) (fun _ _ _ hq=>⟨hq.1,fD hk hg hq.2⟩)
   ·exact (aS hr).elim
  ·cases h
 ·cases h
theorem eZ.fi{k:Nat}{c:Code}{st Am:St}{e:Ex}(g:Gh)(o:List OI){l:List Prop}(gd:aY (out l))(h:aMt k g (bTn c st (asg o))=some (e,Am,l,[]):=by kernel_rfl):eZ Tp k c st e Am:=eZ.fin h gd
end KV
end Go.Proofs
end
namespace Go.Proofs
namespace KV
open Tryz
section
variable {dl x0 x1 x2 x3 x4 x5:Int}{cl mb:Nat}

theorem bZy{v1 v2:Value}{es:List (Value × PV)}(h0:cG .i64 es (.int .i64 x0))(h1:(dU es (.int .i64 x0))=true):eZ Tp 5 (sub (cd Tryz.f45) bt) ⟨fr 57 [(6,(.ptr 0 0)),(8,(.ptr 4 0))],[some (.box 106 [(.ptr 1 0)]),some (.box 169 [(pI dl),(.p (.v v1)),(.p (.v v2)),(.mp 2),(.p (.v (.map (some mb))))]),some (.mp es cl),some .dead,some (.box 84 [(pI x0),(pI x1),(pI x2),(pI x3),(pI x4),(pI x5)])]⟩ .normal ⟨fr 57 [(6,(.ptr 0 0)),(8,(.ptr 4 0))],[some (.box 106 [(.ptr 1 0)]),some (.box 169 [(pI dl),(.p (.v v1)),(.p (.v v2)),(.mp 2),(.p (.v (.map (some mb))))]),some (.mp (qA es (.int .i64 x0) (dcE x0 x1 x2 x3 x4 x5)) cl),some .dead,some (.box 84 [(pI x0),(pI x1),(pI x2),(pI x3),(pI x4),(pI x5)])]⟩:=eZ.fi ⟨ae,[],[],[]⟩ [bT] (gc h1 (gc h0 gn))
theorem bZz{v1 v2:Value}{es:List (Value × PV)}(h0:cG .i64 es (.int .i64 x0))(h1:(dU es (.int .i64 x0))=false):eZ Tp 5 (sub (cd Tryz.f45) bt) ⟨fr 57 [(6,(.ptr 0 0)),(8,(.ptr 4 0))],[some (.box 106 [(.ptr 1 0)]),some (.box 169 [(pI dl),(.p (.v v1)),(.p (.v v2)),(.mp 2),(.p (.v (.map (some mb))))]),some (.mp es cl),some .dead,some (.box 84 [(pI x0),(pI x1),(pI x2),(pI x3),(pI x4),(pI x5)])]⟩ .normal ⟨fr 57 [(6,(.ptr 0 0)),(8,(.ptr 4 0))],[some (.box 106 [(.ptr 1 0)]),some (.box 169 [(pI dl),(.p (.v v1)),(.p (.v v2)),(.mp 2),(.p (.v (.map (some mb))))]),some (.mp (es++[((.int .i64 x0),(dcE x0 x1 x2 x3 x4 x5))]) (cl+1)),some .dead,some (.box 84 [(pI x0),(pI x1),(pI x2),(pI x3),(pI x4),(pI x5)])]⟩:=eZ.fi ⟨ae,[],[],[]⟩ [bF] (gc h1 (gc h0 gn))
theorem cAa{v1 v2:Value}{es:List (Value × PV)}:eZ Tp 5 (sub (cd Tryz.f45) bn) ⟨fr 57 [(6,(.ptr 0 0)),(8,(.ptr 4 0))],[some (.box 106 [(.ptr 1 0)]),some (.box 169 [(pI dl),(.p (.v v1)),(.p (.v v2)),(.mp 2),(.p (.v (.map (some mb))))]),some (.mp es cl),some .dead,some (.box 84 [(pI x0),(pI x1),(pI x2),(pI x3),(pI x4),(pI x5)])]⟩ .normal ⟨fr 57 [(6,(.ptr 0 0)),(8,(.ptr 4 0)),(39,(pB (decide (x5 > 0))))],[some (.box 106 [(.ptr 1 0)]),some (.box 169 [(pI dl),(.p (.v v1)),(.p (.v v2)),(.mp 2),(.p (.v (.map (some mb))))]),some (.mp es cl),some .dead,some (.box 84 [(pI x0),(pI x1),(pI x2),(pI x3),(pI x4),(pI x5)])]⟩:=eZ.fi ⟨[0,1,2,3,4,5,7,9,10,11,12,13,14,15,16,17,18,19,20,21,22,23,24,25,26,27,28,29,30,31,32,33,34,35,36,37,38,40,41,42,43,44,45,46,47,48,49,50,51,52,53,54,55,56],[],[],[]⟩ [] gn
end
end KV
end Go.Proofs
section
namespace Go.Proofs
open Go.RowKit
namespace KV
open Tryz
open Go.ChangeMaps (setBlock)
open Go.Maps Go.MapKept

section
variable {P:Program} {o:Oper} {a:Act} {W W':World}
theorem bTi{x:Operand}{p:Addr}(ho:o.op = .nilCheck x)(hv:a.eval x = .pointer (some p)):(execOp a.eval o).run P W = .ok (.value (.pointer (some p))) W:=by
 unfold execOp;rw [ho];simp [hv]
theorem yG{t:TypeId}{x:Operand}{f:Nat}{v r:Value}(ho:o.op = .fieldAddr t x f)(hx:a.eval x=v)(hr:(Instr.fieldAt t v f).run P W = .ok r W):(execOp a.eval o).run P W = .ok (.value r) W:=by
 unfold execOp;rw [ho];simp [hx,hr,Result.andThen]
theorem yH{t:TypeId}{fs:Array Field}{f:Nat}{fl:Field}{j:TI}(hd:P.underlying t=some (.struct fs))(hf:fs[f]? = some fl)(hj:cB P fl.type=some j)(h0:j.size≠0)(b off:Nat) :
  (Instr.fieldAt t (.pointer (some ⟨b,off,none⟩)) f).run P W = .ok (.pointer (some ⟨b,off+fl.offset,none⟩)) W:=by
 unfold Instr.fieldAt;rw [Sem.run_bind,run_underlying hd,Result.andThen_ok];simp only [hf];rw [Sem.run_bind];show ((pure (⟨b,off,none⟩:Addr):Sem Addr).run P W).andThen _=_;rw [Sem.run_pure,Result.andThen_ok,Sem.run_bind,sL hj h0,Result.andThen_ok];rfl
theorem bKz{t:Nat}{i:TI}(hi:cB P t=some i)(ha:i.agg=true){b:Nat}{l:List Value}{ty:TypeId}{fr:Nat × Nat}(hl:l.length=i.size)(h:W.heap[b]? = some (.cells l.toArray ty fr)):(Instr.loadAt t (.pointer (some ⟨b,0,none⟩))).run P W = .ok (.agg l.toArray) W:=by
 have:=lZ (P:=P) (w:=W) hi ha (b:=b) (o:=0) (f:=fun j=>l.getD j undef) (fun j hj=>by
  rw [gS,bM h (by simpa using (by omega:j<l.length))]
  simp [Bw,Av (show j<l.length by omega),Bn])
 have e:((List.range i.size).map fun j=>l.getD j undef).toArray=l.toArray:=by
  rw [← hl]
  congr 1
  apply List.ext_getElem
  ·simp
  ·intro j h1 h2
   simp [Bw,Av h2]
 rw [e] at this
 unfold Instr.loadAt Instr.sureAddr;simpa using this
end
theorem Pn{x:List Int}(hx:x.length=6):Instr.fill (fun i=>some (i*6,6)) ((Array.range (1*6)).map (Jo.cells[· % Jo.cells.size]!)) [(0,.agg (vsL x).toArray)]=some (vsL x).toArray:=by
 obtain ⟨a,b,c,d,e,f,rfl⟩:=Bo hx
 kernel_rfl
theorem tiq{P:Program}{t:Nat}{b:Bool}{n:Nat}(h:(cB P t).map (fun i=>(i.agg,i.size))=some (b,n)):∃ i,cB P t=some i∧i.agg=b∧i.size=n:=by
 cases h2:cB P t with
 | none=>rw [h2] at h;simp at h
 | some i=>rw [h2] at h;simp at h;exact ⟨i,rfl,h.1,h.2⟩
theorem Po:(cB Tp 106).map (fun i=>(i.agg,i.size))=some (false,1):=by kernel_rfl
theorem Pp:(cB Tp 167).map (fun i=>(i.agg,i.size))=some (false,1):=by kernel_rfl
theorem Vt:(cB Tp 3).map (fun i=>(i.agg,i.size))=some (false,1):=by kernel_rfl
theorem Ss:(cB Tp 84).map (fun i=>(i.agg,i.size))=some (true,6):=by kernel_rfl
theorem Gu:(Tryz.prog.info? 84).map (fun i=>(i.zero,i.size,i.bytes))=some (some Jo,6,48):=by kernel_rfl

structure bZw (mb:Nat) (es:Array MapEntry) (cl:Nat) (L:List Ent) (k:Int) (x:List Int) (W W':World) (Cs:Array MapEntry) (D1:Nat) (e:Ent):Prop where
 ok:mG mb Cs (pU L e)
 ky:e.k=k
 li:e.l=pT L k++[x]
 born:(∀ y∈es.toList,y.born<cl)→∀ y∈Cs.toList,y.born<D1
 has:∀ p∈iH mb Cs D1 (pU L e),W'.heap[p.1]? = some p.2∧((∃ p0∈iH mb es cl L,p0.1=p.1)∨W.heap.size≤p.1)
 size:W.heap.size≤W'.heap.size
 os:W'.os=W.os
 tape:W'.tape=W.tape
 out:W'.output=W.output
 keep:∀ b,b<W.heap.size→(∀ q∈iH mb es cl L,q.1≠b)→W'.heap[b]? = W.heap[b]?

theorem bZx:∃ l:List Oper,sub (cd Tryz.f45) b9 = .region 9 l.toArray true∧aNu l [0,1,2,3,4,5,6,7,8,9,10,11,12,13] 14 15 16=true∧l.all aBp=true∧l.map (fun o=>(o.op,o.dst))=[(.load 106 (.tmp 6),some 40),(.nilCheck (.tmp 40),some 41),(.fieldAddr 169 (.tmp 41) 2,some 42),(.load 167 (.tmp 42),some 43),(.fieldAddr 84 (.tmp 8) 5,some 44),(.load 3 (.tmp 44),some 45),(.load 106 (.tmp 6),some 46),(.nilCheck (.tmp 46),some 47),(.fieldAddr 169 (.tmp 47) 2,some 48),(.load 167 (.tmp 48),some 49),(.fieldAddr 84 (.tmp 8) 5,some 50),(.load 3 (.tmp 50),some 51),(.lookup 167 (.tmp 49) (.tmp 51) false,some 52),(.load 84 (.tmp 8),some 53),(.buildSlice 24 1 #[(0,.tmp 53)],some 54),(.call { callee := .builtin .append,args := #[.tmp 52,.tmp 54],argTypes := #[24,24] },some 55),(.mapUpdate 167 (.tmp 43) (.tmp 45) (.tmp 55),none)] :=
 ⟨match sub (cd Tryz.f45) b9 with | .region _ ops _=>ops.toList | _=>[],by kernel_rfl,by kernel_rfl,by kernel_rfl,by kernel_rfl⟩
set_option maxHeartbeats 4000000 in
theorem Sn{F:Fence}{n:Nat}(hall:∀ f,F.fn f){a:Act}{W:World}{b6 bd b8 mb cl:Nat}{es:Array MapEntry}{L:List Ent}{x:List Int}(L5:x.length=6){a6 ad:Array Value}{t6 td:TypeId}
  (hsz:a.tmps.size=57) (v6:a.tmps.getD 6 undef = .pointer (some ⟨b6,0,none⟩)) (v8:a.tmps.getD 8 undef = .pointer (some ⟨b8,0,none⟩))
  (h6:W.heap[b6]? = some (.cells a6 t6 (0,0))) (q6:0<a6.size∧a6.getD 0 undef = .pointer (some ⟨bd,0,none⟩)) (hd:W.heap[bd]? = some (.cells ad td (0,0))) (qd:4<ad.size∧ad.getD 4 undef = .map (some mb)) (h8:W.heap[b8]? = some (.cells (vsL x).toArray 84 (0,0)))
  (hM:mG mb es L) (hR:∀ p∈iH mb es cl L,W.heap[p.1]? = some p.2) (hl:∀ e∈L,e.l.length≤1000) (hne:∀ p∈iH mb es cl L,p.1≠b6∧p.1≠bd∧p.1≠b8) (hk:(Lit.int .i64 (dAb x)).wf=true) :
  (sub (cd Tryz.f45) b9).wpIn F n Tp (fun e a' W'=>e = .normal∧∃ Cs D1 e,bZw mb es cl L (dAb x) x W W' Cs D1 e) a W:=by
 obtain ⟨l,hc,hB,hcalm,hops⟩:=bZx;rw [hc];obtain ⟨o0,l0,rfl,h0,hops⟩:=sP.1 hops;obtain ⟨o1,l1,rfl,h1,hops⟩:=sP.1 hops;obtain ⟨o2,l2,rfl,h2,hops⟩:=sP.1 hops;obtain ⟨o3,l3,rfl,h3,hops⟩:=sP.1 hops;obtain ⟨o4,l4,rfl,h4,hops⟩:=sP.1 hops;obtain ⟨o5,l5,rfl,h5,hops⟩:=sP.1 hops;obtain ⟨o6,l6,rfl,Qy,hops⟩:=sP.1 hops;obtain ⟨o7,l7,rfl,h7,hops⟩:=sP.1 hops;obtain ⟨o8,l8,rfl,Qz,hops⟩:=sP.1 hops;obtain ⟨o9,l9,rfl,h9,hops⟩:=sP.1 hops;obtain ⟨o10,l10,rfl,A0,hops⟩:=sP.1 hops;obtain ⟨o11,l11,rfl,Bu,hops⟩:=sP.1 hops;obtain ⟨o12,l12,rfl,Bh,hops⟩:=sP.1 hops;obtain ⟨o13,l13,rfl,Cb,hops⟩:=sP.1 hops;obtain ⟨Oc,l14,rfl,De,hops⟩:=sP.1 hops;obtain ⟨Uj,l15,rfl,G7,hops⟩:=sP.1 hops;obtain ⟨Vu,l16,rfl,Fh,hops⟩:=sP.1 hops;obtain rfl:=List.map_eq_nil_iff.1 hops;obtain ⟨q0,d0⟩:=Prod.mk.inj h0;obtain ⟨q1,d1⟩:=Prod.mk.inj h1;obtain ⟨q2,d2⟩:=Prod.mk.inj h2;obtain ⟨q3,d3⟩:=Prod.mk.inj h3;obtain ⟨q4,d4⟩:=Prod.mk.inj h4;obtain ⟨q5,d5⟩:=Prod.mk.inj h5;obtain ⟨Vv,d6⟩:=Prod.mk.inj Qy;obtain ⟨q7,d7⟩:=Prod.mk.inj h7;obtain ⟨q8,d8⟩:=Prod.mk.inj Qz;obtain ⟨q9,d9⟩:=Prod.mk.inj h9;obtain ⟨Vw,Gv⟩:=Prod.mk.inj A0;obtain ⟨Vx,Gw⟩:=Prod.mk.inj Bu;obtain ⟨Vy,Gx⟩:=Prod.mk.inj Bh;obtain ⟨Vz,Pq⟩:=Prod.mk.inj Cb;obtain ⟨V0,Pr⟩:=Prod.mk.inj De;obtain ⟨V1,Su⟩:=Prod.mk.inj G7;obtain ⟨V2,d16⟩:=Prod.mk.inj Fh;clear h0 h1 h2 h3 h4 h5 Qy h7 Qz h9 A0 Bu Bh Cb De G7 Fh;have V6:a.eval (.tmp 6) = .pointer (some ⟨b6,0,none⟩):=v6;have V8:a.eval (.tmp 8) = .pointer (some ⟨b8,0,none⟩):=v8;obtain ⟨V3,Sv,Sw,_⟩:=tiq Po;obtain ⟨V4,Ps,Sx,Sy⟩:=tiq Pp;obtain ⟨i3,t3,a3,s3⟩:=tiq Vt;obtain ⟨Vn,V5,V7,V9⟩:=tiq Ss;have fd:∀ U:World,(Instr.fieldAt 169 (.pointer (some ⟨bd,0,none⟩)) 2).run Tp U = .ok (.pointer (some ⟨bd,4,none⟩)) U:=fun U =>
  (yH (P:=Tp) (W:=U) Tryz.underlying169 (f:=2) rfl (by exact Ps) (by rw [Sy];decide) bd 0)
 have f8:∀ U:World,(Instr.fieldAt 84 (.pointer (some ⟨b8,0,none⟩)) 5).run Tp U = .ok (.pointer (some ⟨b8,5,none⟩)) U:=fun U =>
  (yH (P:=Tp) (W:=U) Tryz.underlying84 (f:=5) rfl (by exact t3) (by rw [s3];decide) b8 0)
 obtain ⟨S,hSdef⟩:∃ S:World→Prop,S=fun U=>U.heap[b6]? = W.heap[b6]? ∧ U.heap[bd]? = W.heap[bd]? ∧ U.heap[b8]? = W.heap[b8]? ∧ U.heap[mb]? = W.heap[mb]? := ⟨_,rfl⟩
 have hmb:W.heap[mb]? = some (.map es cl):=hR (mb,.map es cl) (by simp [iH])
 have r6:∀ U,S U→(Instr.loadAt 106 (.pointer (some ⟨b6,0,none⟩))).run Tp U = .ok (.pointer (some ⟨bd,0,none⟩)) U:=fun U hU=>by
  rw [hSdef] at hU
  refine aAd Sv Sw ?_;rw [eG hU.1,bM h6 q6.1];have:=q6.2;simp only [Bn,qQ q6.1,Option.getD_some] at this ⊢
  rw [this]
 have rd:∀ U,S U→(Instr.loadAt 167 (.pointer (some ⟨bd,4,none⟩))).run Tp U = .ok (.map (some mb)) U:=fun U hU=>by
  rw [hSdef] at hU
  refine aAd Ps Sx ?_;rw [eG hU.2.1,bM hd qd.1];have:=qd.2;simp only [Bn,qQ qd.1,Option.getD_some] at this ⊢
  rw [this]
 have x5:(vsL x)[5]? = some (.int .i64 (dAb x)):=by
  unfold vsL;rw [jU,Av (by omega)]
  simp [dAb,Bw,Av (show 5<x.length by omega)]
 have r5:∀ U,S U→(Instr.loadAt 3 (.pointer (some ⟨b8,5,none⟩))).run Tp U = .ok (.int .i64 (dAb x)) U:=fun U hU=>by
  rw [hSdef] at hU
  refine aAd t3 a3 ?_;have Sz:5<(vsL x).length:=by simp [vsL,L5]
  rw [eG hU.2.2.1,bM h8 (j:=5) (by simpa using Sz)]
  simp only [Av Sz,Option.some.injEq] at x5
  simp [Bn,Av Sz,x5]
 have r8:∀ U,S U→(Instr.loadAt 84 (.pointer (some ⟨b8,0,none⟩))).run Tp U = .ok (.agg (vsL x).toArray) U:=fun U hU=>by
  rw [hSdef] at hU
  exact bKz V5 V7 (by simp [vsL,L5,V9]) (hU.2.2.1.trans h8)
 have rz:∀ U:World,(zeroValue 24).run Tp U = .ok (.slice none 0 0) U:=fun U=>rfl
 have rl:∀ U,S U→(Instr.lookup 167 (.map (some mb)) (.int .i64 (dAb x)) false).run Tp U = .ok (rQ L (dAb x)) U:=fun U hU=>by
  rw [hSdef] at hU
  exact bTj Tryz.underlying167 Tryz.underlying3 (rz U) (hU.2.2.2.trans hmb) hM hk
 obtain ⟨W1,I5⟩:∃ W1:World,W1={ W with drawn:=W.drawn+1 }:=⟨_,rfl⟩
 have Jq:W1.heap=W.heap:=by rw [I5]
 have hs:Sim Tp ((⟨fun _=>none,fun _=>0,fun _=>False,[]⟩:Cx).with (iH mb es cl L++[])) [] { W1 with heap := #[] } ⟨List.replicate 57 .any,[]⟩ { tmps:=a.tmps,defers:=[] } W1:=by
  refine ⟨⟨fun _=>none,fun _=>0,fun _=>False,[]⟩,⟨by simpa using hsz,fun j hj=>by rw [List.getElem_replicate];exact .any _⟩,⟨fun _ _ _ _ h=>by simp at h,fun _ _ _ h=>by simp at h,fun _ _ _ h=>by simp at h,fun _ _ _ _ _ h=>by simp at h,fun _ _ _ h=>by simp at h,fun _ h=>h.elim,fun _ _ _ h=>by simp at h⟩,
   ⟨rfl,rfl,rfl,Nat.zero_le _,fun b hb=>by simp at hb,fun _ _ h=>by simp at h,fun _ _ h=>by simp at h,fun _ _ h=>by simp at h,fun _ _ _ h=>by simp at h,fun _ h=>h,fun _ h=>h.elim⟩,?_⟩
  refine ⟨⟨[],rfl,.nil,fun D h=>by cases h⟩,fun p hp => ?_,.no (fun _ _ h=>by simp at h)⟩
  have I2:p∈iH mb es cl L:=by have h2:p∈iH mb es cl L++[]:=hp;rwa [List.append_nil] at h2
  refine ⟨by rw [Jq];exact hR p I2,Nat.zero_le _,?_,fun h=>h,fun _ _ h=>by simp at h⟩
  rcases cV.1 I2 with rfl | ⟨y,_,rfl⟩ <;> (intro h;cases h)
 obtain ⟨v2,w2,Cs,D1,e,hrun,hkeep,Jr,⟨hsize,hborn,hold⟩,hup,G4,hek,hel,_,hsim⟩:=cAg (P:=Tp) (C0:=⟨fun _=>none,fun _=>0,fun _=>False,[]⟩) (kt:=3) (S22:=24) (ty:=Uj.type) (k:=dAb x) (x:=x) L5 Tryz.underlying167 Tryz.underlying3 Tryz.underlying24 Gu hs (fun p _ q hq=>by cases hq) hM hk hl
 have Ev:S w2:=by
  rw [hSdef];have hlt:∀ b o,W.heap[b]? = some o→b<W1.heap.size:=fun b o h=>by rw [Jq];exact bP h
  refine ⟨(hkeep b6 (hlt _ _ h6) fun q hq=>(hne q hq).1).trans (by rw [Jq]),(hkeep bd (hlt _ _ hd) fun q hq=>(hne q hq).2.1).trans (by rw [Jq]),(hkeep b8 (hlt _ _ h8) fun q hq=>(hne q hq).2.2).trans (by rw [Jq]),Jr.trans (by rw [Jq])⟩
 have K6:S { W with drawn:=W.drawn+1 }:=by rw [hSdef];exact ⟨rfl,rfl,rfl,rfl⟩
 refine bLb (P:=Tp) (o1:=Oc) (o2:=Uj) (o3:=Vu) (S:=S) hall (fun ⟨_,_,h,_⟩=>by cases h) hcalm [0,1,2,3,4,5,6,7,8,9,10,11,12,13] 14 15 16 mixed hB rfl rfl rfl (fun c a w h=>by cases h.1) K6
  [.pointer (some ⟨bd,0,none⟩),.pointer (some ⟨bd,0,none⟩),.pointer (some ⟨bd,4,none⟩),.map (some mb),.pointer (some ⟨b8,5,none⟩),.int .i64 (dAb x),.pointer (some ⟨bd,0,none⟩),.pointer (some ⟨bd,0,none⟩),.pointer (some ⟨bd,4,none⟩),.map (some mb),.pointer (some ⟨b8,5,none⟩),.int .i64 (dAb x),rQ L (dAb x),.agg (vsL x).toArray] rfl ?_ ?_
 ·refine ⟨fun U hU=>rD q0 V6 (r6 U hU),fun U hU=>bTi q1 (by simp [bJ,bH,dD,hsz,V6,V8,d0,d1,d2,d3,d4,d5,d6,d7,d8,d9,Gv,Gw,Gx]),fun U hU=>yG q2 (by simp [bJ,bH,dD,hsz,V6,V8,d0,d1,d2,d3,d4,d5,d6,d7,d8,d9,Gv,Gw,Gx]) (fd U),
   fun U hU=>rD q3 (by simp [bJ,bH,dD,hsz,V6,V8,d0,d1,d2,d3,d4,d5,d6,d7,d8,d9,Gv,Gw,Gx]) (rd U hU),fun U hU=>yG q4 (by simp [bJ,bH,dD,hsz,V6,V8,d0,d1,d2,d3,d4,d5,d6,d7,d8,d9,Gv,Gw,Gx]) (f8 U),fun U hU=>rD q5 (by simp [bJ,bH,dD,hsz,V6,V8,d0,d1,d2,d3,d4,d5,d6,d7,d8,d9,Gv,Gw,Gx]) (r5 U hU),
   fun U hU=>rD Vv (by simp [bJ,bH,dD,hsz,V6,V8,d0,d1,d2,d3,d4,d5,d6,d7,d8,d9,Gv,Gw,Gx]) (r6 U hU),fun U hU=>bTi q7 (by simp [bJ,bH,dD,hsz,V6,V8,d0,d1,d2,d3,d4,d5,d6,d7,d8,d9,Gv,Gw,Gx]),fun U hU=>yG q8 (by simp [bJ,bH,dD,hsz,V6,V8,d0,d1,d2,d3,d4,d5,d6,d7,d8,d9,Gv,Gw,Gx]) (fd U),
   fun U hU=>rD q9 (by simp [bJ,bH,dD,hsz,V6,V8,d0,d1,d2,d3,d4,d5,d6,d7,d8,d9,Gv,Gw,Gx]) (rd U hU),fun U hU=>yG Vw (by simp [bJ,bH,dD,hsz,V6,V8,d0,d1,d2,d3,d4,d5,d6,d7,d8,d9,Gv,Gw,Gx]) (f8 U),fun U hU=>rD Vx (by simp [bJ,bH,dD,hsz,V6,V8,d0,d1,d2,d3,d4,d5,d6,d7,d8,d9,Gv,Gw,Gx]) (r5 U hU),
   fun U hU=>bLd Vy (by simp [bJ,bH,dD,hsz,V6,V8,d0,d1,d2,d3,d4,d5,d6,d7,d8,d9,Gv,Gw,Gx]) (by simp [bJ,bH,dD,hsz,V6,V8,d0,d1,d2,d3,d4,d5,d6,d7,d8,d9,Gv,Gw,Gx]) (rl U hU),
   fun U hU=>rD Vz (by simp [bJ,bH,dD,hsz,V6,V8,d0,d1,d2,d3,d4,d5,d6,d7,d8,d9,Gv,Gw,Gx]) (r8 U hU),trivial⟩
 ·intro a' Lz
  have Wb:a'.eval (.tmp 43) = .map (some mb):=by rw [Lz];simp [aBq,bJ,bH,dD,hsz,V6,V8,d0,d1,d2,d3,d4,d5,d6,d7,d8,d9,Gv,Gw,Gx,Pq]
  have Pt:a'.eval (.tmp 45) = .int .i64 (dAb x):=by rw [Lz];simp [aBq,bJ,bH,dD,hsz,V6,V8,d0,d1,d2,d3,d4,d5,d6,d7,d8,d9,Gv,Gw,Gx,Pq]
  have Wc:a'.eval (.tmp 52)=rQ L (dAb x):=by rw [Lz];simp [aBq,bJ,bH,dD,hsz,V6,V8,d0,d1,d2,d3,d4,d5,d6,d7,d8,d9,Gv,Gw,Gx,Pq]
  have Wd:a'.eval (.tmp 53) = .agg (vsL x).toArray:=by rw [Lz];simp [aBq,bJ,bH,dD,hsz,V6,V8,d0,d1,d2,d3,d4,d5,d6,d7,d8,d9,Gv,Gw,Gx,Pq]
  have We:a'.tmps.size=57:=by rw [Lz];simp [aBq,dD,hsz,d0,d1,d2,d3,d4,d5,d6,d7,d8,d9,Gv,Gw,Gx,Pq]
  obtain ⟨inf,hi,hz,Fl,Nn⟩:=info_parts Gu;have hvl:(vsL x).length=6:=by simp [vsL,L5]
  have hbld:∀ U:World,(Instr.buildSlice 24 1 #[(0,.agg (vsL x).toArray)]).run Tp U = .ok (.slice (some ⟨U.heap.size,0,none⟩) 1 1) (U.alloc (.cells (vsL x).toArray 84)):=fun U =>
   aEk (P:=Tp) 24 84 inf 1 #[(0,.agg (vsL x).toArray)] (vsL x).toArray Jo Tryz.underlying24 hi hz (by rw [Fl];decide) (by rw [Fl];exact Pn L5)
  have S0:({ W with drawn:=W.drawn+1 }:World)=W1:=I5.symm
  rw [S0] at K6 ⊢
  refine ⟨_,_,v2,w2,setBlock w2 mb (.map Cs D1),bLe V0 Wd (hbld _),?_,bLf V1 (by rw [Pr,bJ rfl];exact Wc) (by rw [Pr,bH (by omega)]) hrun,Ev,bLg V2 (by rw [Pr,Su,bJ rfl,bJ rfl];exact Wb) (by rw [Pr,Su,bJ rfl,bJ rfl];exact Pt) (by rw [Pr,Su,bH (by rw [dD];omega)]) hup,?_⟩
  ·obtain ⟨n1,n2,n3⟩:=jO W1 (.cells (vsL x).toArray 84)
   rw [hSdef] at K6 ⊢
   have hlt:∀ b o,W.heap[b]? = some o→b<W1.heap.size:=fun b o h=>by rw [Jq];exact bP h
   exact ⟨(n3 b6 (hlt _ _ h6)).trans K6.1,(n3 bd (hlt _ _ hd)).trans K6.2.1,(n3 b8 (hlt _ _ h8)).trans K6.2.2.1,(n3 mb (hlt _ _ hmb)).trans K6.2.2.2⟩
  ·refine ⟨rfl,Cs,D1,e,⟨G4,hek,hel,hborn,fun p hp => ?_,?_,?_,?_,?_,fun b hb hno => ?_⟩⟩
   ·refine ⟨hsim.has p (mK _ hp),?_⟩
    rcases hold p hp with h | h
    ·exact .inl h
    ·right;rw [Jq] at h;exact h
   ·unfold setBlock;simp only [Array.size_setIfInBounds];rw [Jq] at hsize;exact hsize
   ·obtain ⟨C,_,_,hF,_⟩:=hsim
    exact hF.os.trans (by rw [I5])
   ·obtain ⟨C,_,_,hF,_⟩:=hsim
    exact hF.tape.trans (by rw [I5])
   ·obtain ⟨C,_,_,hF,_⟩:=hsim
    exact hF.out.trans (by rw [I5])
   ·have hbm:b≠mb:=fun h=>hno (mb,.map es cl) (by simp [iH]) h.symm
    have:(setBlock w2 mb (.map Cs D1)).heap[b]? = w2.heap[b]? := by
     unfold setBlock;simp only [Array.getElem?_setIfInBounds];rw [if_neg (Ne.symm hbm)]
    rw [this,hkeep b (by rw [Jq];exact hb) hno,Jq]
end KV
end Go.Proofs
end
section
namespace Go.Proofs
open Go.RowKit
namespace KV
open Tryz
open Go.ChangeMaps (setBlock)

mutual
def ffP:PV→Bool
 | .v _=>true
 | .agg cs=>bKy cs
 | _=>false
def bKy:List PV→Bool
 | []=>true
 | x::r=>ffP x && bKy r
end
theorem bEo:∀ {l:List PV},bKy l=true→∀ (i:Nat) (h:i<l.length),ffP l[i]=true
 | [],_,i,h=>by simp at h
 | x::r,hl,i,h=>by
  rw [bKy,Cc] at hl
  cases i with
  | zero=>exact hl.1
  | succ i=>exact bEo hl.2 i (by simpa using h)
theorem aSe{α:Type}(g:α→PV)(h:∀ x,ffP (g x)=true):∀ l:List α,bKy (l.map g)=true
 | []=>rfl
 | x::r=>by rw [iB,bKy,h,aSe g h r];rfl
theorem bQ.anyF{F F':Nat→Prop}{w w':World}{x:PV}{u:Value}(h:bQ F w x u)(hm:ffP x=true):bQ F' w' x u:=by
 induction h with
 | v x=>exact .v x
 | agg cs vs h0 h1 _ ih =>
  rw [ffP] at hm
  exact .agg cs vs h0 h1 fun i hi=>ih i hi (bEo hm i hi)
 | sl=>simp [ffP] at hm
 | mp=>simp [ffP] at hm
 | rp=>simp [ffP] at hm

def uV(x:List Int):PV := .agg (x.map aA)
def lF(es:List (Value × PV))(x:List Int):List (Value × PV):=if dU es (.int .i64 (dN x)) then qA es (.int .i64 (dN x)) (uV x) else es++[(.int .i64 (dN x),uV x)]
def atF(q:Lqq):List (Value × PV):=q.foldl lF []
theorem aSf(q:Lqq)(x:List Int):atF (q++[x])=lF (atF q) x:=by unfold atF;rw [xX];rfl
structure aAb (es:List (Value × PV)):Prop where
 ky:∀ e∈es,aQt .i64 e.1=true
 nd:(es.map fun e=>iU e.1).Nodup
 nm:∀ e∈es,ffP e.2=true
theorem aFn{kv:Value}{x:PV}:∀ (es:List (Value × PV)),((qA es kv x).map fun e=>iU e.1)=es.map fun e=>iU e.1
 | []=>rfl
 | e::r=>by
  unfold qA
  split
  ·rename_i h
   rw [iB,iB,h]
  ·rw [iB,iB,aFn r]
theorem aFo{kv:Value}{x:PV}{e:Value × PV}:∀ {es:List (Value × PV)},e∈qA es kv x→e∈es∨e=(kv,x)
 | [],h=>by unfold qA at h;cases h
 | a::r,h=>by
  unfold qA at h
  split at h
  ·rcases gK.1 h with h | h
   ·exact .inr h
   ·exact .inl (Cj _ h)
  ·rcases gK.1 h with h | h
   ·exact .inl (h ▸ iN ..)
   ·rcases aFo h with h | h
    ·exact .inl (Cj _ h)
    ·exact .inr h
theorem bEp(x:List Int):ffP (uV x)=true:=by unfold uV;rw [ffP];exact aSe _ (fun _=>rfl) _
theorem aAb.step{es:List (Value × PV)}(h:aAb es){x:List Int}(hx : -1000000≤dN x∧dN x≤1000000):aAb (lF es x):=by
 unfold lF;cases hb:dU es (.int .i64 (dN x)) with
 | true =>
  rw [if_pos rfl];refine ⟨fun e he => ?_,by rw [aFn];exact h.nd,fun e he => ?_⟩
  ·rcases aFo he with h1 | rfl
   ·exact h.ky e h1
   ·exact oN hx
  ·rcases aFo he with h1 | rfl
   ·exact h.nm e h1
   ·exact bEp x
 | false =>
  rw [if_neg (by simp)]
  refine ⟨fun e he => ?_,?_,fun e he => ?_⟩
  ·rcases fV.1 he with h1 | h1
   ·exact h.ky e h1
   ·rw [List.mem_singleton.1 h1];exact oN hx
  ·rw [iV,List.nodup_append]
   refine ⟨h.nd,by simp,fun a ha b Ar hab => ?_⟩
   simp at Ar
   subst Ar;obtain ⟨e,he,rfl⟩:=Bq.1 ha;have:=(List.any_eq_false.1 (show es.any _=false from hb)) e he
   exact this (decide_eq_true hab)
  ·rcases fV.1 he with h1 | h1
   ·exact h.nm e h1
   ·rw [List.mem_singleton.1 h1];exact bEp x
theorem bTf{q:Lqq}(hq:∀ x∈q,-1000000≤dN x∧dN x≤1000000):aAb (atF q):=by
 have key:∀ (q:Lqq) (es:List (Value × PV)),(∀ x∈q,-1000000≤dN x∧dN x≤1000000)→aAb es→aAb (q.foldl lF es):=by
  intro q
  induction q with
  | nil=>intro es _ h;exact h
  | cons x q ih=>intro es hq h;exact ih _ (fun y hy=>hq y (Cj _ hy)) (h.step (hq x (iN ..)))
 exact key q [] hq ⟨fun e h=>(by cases h),by simp,fun e h=>(by cases h)⟩
theorem aAb.keys{es:List (Value × PV)}(h:aAb es){k:Int}(hk : -1000000≤k∧k≤1000000):cG .i64 es (.int .i64 k):=⟨h.ky,oN hk,h.nd⟩
theorem bTg{kv:Value}{x:PV}(es:List (Value × PV)):(qA es kv x).length=es.length:=by
 have:=congrArg List.length (aFn (kv:=kv) (x:=x) es);simpa using this

abbrev dkB(dl:Int)(s1 s2:PV)(a b:AV):AO := .box 169 [.p (aA dl),.p s1,.p s2,a,b]
abbrev mF(dl:Int)(sk dc:Lqq):Mem:=[some (.box 106 [.ptr 1 0]),some (dkB dl (.sl sk.length (sk.flatten.map aA)) (.sl dc.length (dc.flatten.map aA)) (.mp 2) (.mp 3)),some (.mp [] 0),some (.mp [] 0)]
abbrev aAc(dl:Int)(v1 v2:Value)(mb:Nat)(es:List (Value × PV)):Mem:=[some (.box 106 [.ptr 1 0]),some (dkB dl (.v v1) (.v v2) (.mp 2) (.p (.v (.map (some mb))))),some (.mp es es.length),some .dead]
abbrev gV(dl:Int)(v1 v2:Value)(mb:Nat)(es:List (Value × PV))(x:List Int):Mem:=[some (.box 106 [.ptr 1 0]),some (dkB dl (.v v1) (.v v2) (.mp 2) (.p (.v (.map (some mb))))),some (.mp es es.length),some .dead,some (.box 84 ((x.map aA).map .p))]
theorem at4{α:Type}{a b c d x:α}{i:Nat}(h:[a,b,c,d][i]? = some x):(i=0∧x=a)∨(i=1∧x=b)∨(i=2∧x=c)∨(i=3∧x=d):=by
 match i with
 | 0=>simp at h;exact .inl ⟨rfl,h.symm⟩
 | 1=>simp at h;exact .inr (.inl ⟨rfl,h.symm⟩)
 | 2=>simp at h;exact .inr (.inr (.inl ⟨rfl,h.symm⟩))
 | 3=>simp at h;exact .inr (.inr (.inr ⟨rfl,h.symm⟩))
 | i+4=>simp at h
theorem M7{α:Type}{a b c d e x:α}{i:Nat}(h:[a,b,c,d,e][i]? = some x):(i=0∧x=a)∨(i=1∧x=b)∨(i=2∧x=c)∨(i=3∧x=d)∨(i=4∧x=e):=by
 match i with
 | 0=>simp at h;exact .inl ⟨rfl,h.symm⟩
 | 1=>simp at h;exact .inr (.inl ⟨rfl,h.symm⟩)
 | 2=>simp at h;exact .inr (.inr (.inl ⟨rfl,h.symm⟩))
 | 3=>simp at h;exact .inr (.inr (.inr (.inl ⟨rfl,h.symm⟩)))
 | 4=>simp at h;exact .inr (.inr (.inr (.inr ⟨rfl,h.symm⟩)))
 | i+5=>simp at h
section
variable {dl:Int} {sk dc:Lqq} {v1 v2:Value} {mb:Nat} {es:List (Value × PV)} {x:List Int} {C C' C3:Cx} {w W W3 W4:World}

theorem uJ{i:Nat}{o:AO}(h:(aAc dl v1 v2 mb es)[i]? = some (some o))(hl:o.live=true):i=0∨i=1∨i=2:=by
 rcases at4 h with ⟨rfl,_⟩ | ⟨rfl,_⟩ | ⟨rfl,_⟩ | ⟨rfl,e⟩
 ·exact .inl rfl
 ·exact .inr (.inl rfl)
 ·exact .inr (.inr rfl)
 ·cases e;cases hl
theorem eM(i:Nat)(h:i<4):∃ o,(mF dl sk dc)[i]? = some (some o)∧o.live=true:=by
 match i,h with
 | 0,_=>exact ⟨_,rfl,rfl⟩
 | 1,_=>exact ⟨_,rfl,rfl⟩
 | 2,_=>exact ⟨_,rfl,rfl⟩
 | 3,_=>exact ⟨_,rfl,rfl⟩
theorem bTh:aNr (mF dl sk dc) (aAc dl v1 v2 mb es):=⟨fun i es cl h=>(by
 rcases at4 h with ⟨rfl,e⟩ | ⟨rfl,e⟩ | ⟨rfl,e⟩ | ⟨rfl,e⟩
 ·cases e
 ·cases e
 ·exact ⟨_,rfl,rfl⟩
 ·cases e),fun i o h=>by
 rcases at4 h with ⟨rfl,e⟩ | ⟨rfl,e⟩ | ⟨rfl,e⟩ | ⟨rfl,e⟩ <;> cases e <;> rfl⟩

structure aSg (dl:Int) (sk dc:Lqq) (v1 v2:Value) (C:Cx) (w:World) (mb:Nat) (q:Lqq) (W:World) (C':Cx) (es:Array MapEntry) (cl:Nat) (L:List Ent):Prop where
 inv:aIe Tp C (mF dl sk dc) w C' (aAc dl v1 v2 mb (atF q)) W
 ok:mG mb es L
 ls:L.map (fun e=>(e.k,e.l))=q.foldl jH []
 born:∀ y∈es.toList,y.born<cl
 has:∀ p∈iH mb es cl L,W.heap[p.1]? = some p.2∧¬ C'.F p.1∧(p.1=mb∨w.heap.size≤p.1)

theorem aSg.own{q:Lqq}{W':World}{ea:Array MapEntry}{cl:Nat}{L:List Ent}{row:Option Nat}(Cy:aO Tp C (mF dl sk dc) w)(hmb:C.ι 3=some mb)(h:aSg dl sk dc v1 v2 C w mb q W C' ea cl L)(hg:W.grownBy W' row)
  (hr:∀ r,row=some r→w.heap.size≤r∧∃ o:Obj,W.heap[r]? = some o∧o.isCells=false):aSg dl sk dc v1 v2 C w mb q W' C' ea cl L:=by
 refine ⟨aIe.own bTh Cy h.inv hg hr,h.ok,h.ls,h.born,fun p hp => ?_⟩
 obtain ⟨h1,h2,h3⟩:=h.has p hp;refine ⟨(hg.block p.1 (bP h1) fun e => ?_).trans h1,h2,h3⟩
 obtain ⟨q1,o,q2,q3⟩:=hr _ e.symm
 rcases cV.1 hp with rfl | ⟨y,_,rfl⟩
 ·have:=Cy.lt 3 _ mb rfl rfl hmb
  dsimp only at q1
  omega
 ·rw [q2] at h1
  cases h1;cases q3

theorem bEq{b:Nat}{X:Nat→Prop}{Cs:List (Value × PV)}(Cy:aO Tp C (mF dl sk dc) w)(hmb:C.ι 3=some mb)(hI:aIe Tp C (mF dl sk dc) w C' (aAc dl v1 v2 mb es) W)(hb:w.heap.size≤b)(hbs:mE W b)(hes:aAb Cs)
  (Iz:aO Tp C3 (gV dl v1 v2 mb Cs x) W3) (f:Fr ((C'.grow 4 b 1).with []) (gV dl v1 v2 mb es x) W C3 (gV dl v1 v2 mb Cs x) W3)
  (hsz:W3.heap.size≤W4.heap.size) (ho:W4.os=W3.os) (ht:W4.tape=W3.tape) (hu:W4.output=W3.output)
  (hX:∀ c,X c→¬ C.F c∧(c=mb∨w.heap.size≤c)∧c<W.heap.size∧c≠b∧(mE W c∨c<w.heap.size)) (hk:∀ c,c<W3.heap.size→¬ X c→W4.heap[c]? = W3.heap[c]?) :
  ∃ C4,aIe Tp C (mF dl sk dc) w C4 (aAc dl v1 v2 mb Cs) W4∧KeepsFrom w.heap.size W W4∧KpG C.F W W4:=by
 obtain ⟨hFI,hM,fI⟩:=hI;have gι:∀ i,i<4→(C'.grow 4 b 1).ι i=C'.ι i:=fun i hi=>by
  have:i≠4:=by omega
  simp [Cx.grow,this]
 have ιC:∀ i,i<4→C'.ι i=C.ι i:=fun i hi=>by
  obtain ⟨o,h1,_⟩:=eM (dl:=dl) (sk:=sk) (dc:=dc) i hi;exact (fI.ids i o h1).2.1
 have κC:∀ i,i<4→C'.κ i=C.κ i:=fun i hi=>by
  obtain ⟨o,h1,_⟩:=eM (dl:=dl) (sk:=sk) (dc:=dc) i hi;exact (fI.ids i o h1).2.2
 have ι3:∀ i,i<5→C3.ι i=(C'.grow 4 b 1).ι i∧C3.κ i=(C'.grow 4 b 1).κ i:=fun i hi=>by
  have:∃ o,(gV dl v1 v2 mb es x)[i]? = some (some o):=by
   match i,hi with
   | 0,_=>exact ⟨_,rfl⟩
   | 1,_=>exact ⟨_,rfl⟩
   | 2,_=>exact ⟨_,rfl⟩
   | 3,_=>exact ⟨_,rfl⟩
   | 4,_=>exact ⟨_,rfl⟩
  obtain ⟨o,h⟩:=this;exact ⟨(f.ids i o h).2.1,(f.ids i o h).2.2⟩
 have ι4:(C'.grow 4 b 1).ι 4=some b:=by simp [Cx.grow]
 have Jp:∀ (i:Nat) (o:AO) (c:Nat) (Q0:List (Value × PV)),(gV dl v1 v2 mb Q0 x)[i]? = some (some o)→o.live=true→(C'.grow 4 b 1).ι i=some c→(∃ i,i<3∧C.ι i=some c)∨c=b:=fun i o c Q0 h hl he=>by
  rcases M7 h with ⟨rfl,_⟩ | ⟨rfl,_⟩ | ⟨rfl,_⟩ | ⟨rfl,e⟩ | ⟨rfl,_⟩
  ·rw [gι 0 (by omega),ιC 0 (by omega)] at he;exact .inl ⟨0,by omega,he⟩
  ·rw [gι 1 (by omega),ιC 1 (by omega)] at he;exact .inl ⟨1,by omega,he⟩
  ·rw [gι 2 (by omega),ιC 2 (by omega)] at he;exact .inl ⟨2,by omega,he⟩
  ·cases e;cases hl
  ·rw [ι4] at he;exact .inr (Option.some.inj he).symm
 have M4:∀ i c,i<3→C.ι i=some c→c<w.heap.size∧c≠mb:=fun i c hi hc=>by
  obtain ⟨o,h1,h2⟩:=eM (dl:=dl) (sk:=sk) (dc:=dc) i (by omega)
  refine ⟨Cy.lt i o c h1 h2 hc,fun e => ?_⟩
  subst e;have:=Cy.inj i 3 o _ c h1 h2 rfl rfl hc hmb;omega
 have Xn3:∀ c,X c→∀ i,i<3→C.ι i≠some c:=fun c hc i hi he=>by
  obtain ⟨h1,h2⟩:=M4 i c hi he
  rcases (hX c hc).2.1 with h3 | h3
  ·exact h2 h3
  ·omega
 have far:∀ c,c<W.heap.size→c≠b→(∀ i,i<3→C.ι i≠some c)→¬ X c→W4.heap[c]? = W.heap[c]? := fun c hc hcb hn hx=>by
  refine (hk c (fU hc f.size) hx).trans (f.keep c hc fun i o h hl he => ?_)
  rcases Jp i o c _ h hl he with ⟨j,hj,h2⟩ | h2
  ·exact hn j hj h2
  ·exact hcb h2
 have XF3:∀ c,X c→¬ C3.F c:=fun c hc hf=>by
  obtain ⟨h1,h2,h3,h4,_⟩:=hX c hc
  rcases f.F2 c hf with h | h | ⟨i,o,q1,q2,q3⟩
  ·exact h1 ((hFI c).1 h)
  ·omega
  ·rcases Jp i o c _ q1 q2 q3 with ⟨j,hj,h5⟩ | h5
   ·exact Xn3 c hc j hj h5
   ·exact h4 h5
 obtain ⟨Pm,_⟩:=aFq Iz hsz (fun c hc=>hk c (Iz.Fs c hc) fun hx=>XF3 c hx hc) (fun i o c h hl hc=>hk c (Iz.lt i o c h hl hc) fun hx=>by
  have Vq:i<5:=(Bs.1 h).1;rw [(ι3 i Vq).1] at hc
  rcases Jp i o c _ h hl hc with ⟨j,hj,h5⟩ | h5
  ·exact Xn3 c hx j hj h5
  ·exact (hX c hx).2.2.2.1 h5)
 have K5:aO Tp C3 (aAc dl v1 v2 mb Cs) W4:=cAc Pm (fun i o h=>by
   have hi:i<4:=(Bs.1 h).1
   match i,hi with
   | 0,_=>exact h
   | 1,_=>exact h
   | 2,_=>exact h
   | 3,_=>exact h) (fun i ty cs h y hy u hu=>by
   rcases at4 h with ⟨rfl,e⟩ | ⟨rfl,e⟩ | ⟨rfl,e⟩ | ⟨rfl,e⟩
   ·cases e
    rw [List.mem_singleton.1 hy] at hu ⊢
    exact aSi (M:=gV dl v1 v2 mb Cs x) rfl hu
   ·cases e
    simp only [gK,List.not_mem_nil,or_false] at hy
    rcases hy with rfl | rfl | rfl | rfl | rfl
    ·exact uK hu
    ·exact uK hu
    ·exact uK hu
    ·exact aZf (M:=gV dl v1 v2 mb Cs x) rfl hu
    ·exact uK hu
   ·cases e
   ·cases e)
 have Vr:∀ i (c:Nat),i<4→C3.ι i=some c→C.ι i=some c:=fun i c hi hc=>by rw [(ι3 i (by omega)).1,gι i hi,ιC i hi] at hc;exact hc
 have Vs:aO Tp ⟨C3.ι,C3.κ,C.F,[]⟩ (aAc dl v1 v2 mb Cs) W4:=by
  refine ⟨fun i ty n cs h => ?_,fun i ty cs h => ?_,fun i Q0 cl h => ?_,K5.inj,fun i o c h hl hc => ?_,fun c hc=>fU (Cy.Fs c hc) (gL fI.size (gL f.size hsz)),K5.lt⟩
  ·rcases at4 h with ⟨rfl,e⟩ | ⟨rfl,e⟩ | ⟨rfl,e⟩ | ⟨rfl,e⟩ <;> cases e
  ·obtain ⟨b',arr,q0,q1,q2,q3,q4⟩:=K5.box _ _ _ h
   refine ⟨b',arr,q0,q1,q2,fun j hj => ?_,q4⟩
   have hq:=q3 j hj;have hp:∀ (y:PV) (u:Value),ffP y=true→Rep C3 (aAc dl v1 v2 mb Cs) W4 (.p y) u→Rep ⟨C3.ι,C3.κ,C.F,[]⟩ (aAc dl v1 v2 mb Cs) W4 (.p y) u:=fun y u hy hu=>by
    cases hu with
    | p _ _ h=>exact .p _ _ (h.anyF hy)
   rcases at4 h with ⟨rfl,e⟩ | ⟨rfl,e⟩ | ⟨rfl,e⟩ | ⟨rfl,e⟩
   ·cases e
    have:j=0:=by simp at hj;exact hj
    subst this;simp only [List.getElem_cons_zero] at hq ⊢
    cases hq with
    | ptr _ _ _ h0 ha h hp=>exact .ptr _ _ _ h0 ha h hp
   ·cases e
    match j,hj with
    | 0,_=>exact hp _ _ rfl hq
    | 1,_=>exact hp _ _ rfl hq
    | 2,_=>exact hp _ _ rfl hq
    | 3,_ =>
     simp only [List.getElem_cons_succ,List.getElem_cons_zero] at hq ⊢
     cases hq with
     | mp _ _ h0 ha h=>exact .mp _ _ h0 ha h
    | 4,_=>exact hp _ _ rfl hq
   ·cases e
   ·cases e
  ·obtain ⟨b',arr,q0,q1,q2,q3⟩:=K5.mp _ _ _ h
   refine ⟨b',arr,q0,q1,q2,fun j hj => ?_⟩
   obtain ⟨en,r1,r2,r3,r4⟩:=q3 j hj;have hff:ffP Q0[j].2=true:=by
    rcases at4 h with ⟨rfl,e⟩ | ⟨rfl,e⟩ | ⟨rfl,e⟩ | ⟨rfl,e⟩
    ·cases e
    ·cases e
    ·cases e;exact hes.nm _ (fG hj)
    ·cases e
   exact ⟨en,r1,r2,r3,r4.anyF hff⟩
  ·have hi:=uJ h hl
   obtain ⟨o2,h1,h2⟩:=eM (dl:=dl) (sk:=sk) (dc:=dc) i (by omega)
   exact Cy.nF i o2 c h1 h2 (Vr i c (by omega) hc)
 refine ⟨⟨C3.ι,C3.κ,C.F,[]⟩,⟨fun c=>Iff.rfl,Vs,⟨ho.trans (f.os.trans fI.os),ht.trans (f.tape.trans fI.tape),hu.trans (f.out.trans fI.out),gL fI.size (gL f.size hsz),fun c hc hno => ?_,fun i o h => ?_,fun i o h ty n cs hm => ?_,fun i o h o' hm hl => ?_,fun i o c hm hl hc => ?_,fun c hc=>hc,fun c hc => .inl hc⟩⟩,⟨gL f.size hsz,fun c o hc Pb hnc => ?_⟩,⟨gL f.size hsz,fun c hc => ?_⟩⟩
 ·have Np:∀ i,i<3→C.ι i≠some c:=fun i hi=>by
   obtain ⟨o,h1,h2⟩:=eM (dl:=dl) (sk:=sk) (dc:=dc) i (by omega)
   exact hno i o h1 h2
  have hcm:c≠mb:=fun e=>hno 3 _ rfl rfl (e ▸ hmb)
  refine (far c (fU hc fI.size) (by omega) Np fun hx => ?_).trans (fI.keep c hc hno)
  rcases (hX c hx).2.1 with h | h
  ·exact hcm h
  ·omega
 ·have hi:i<4:=(Bs.1 h).1
  refine ⟨?_,by show C3.ι i=C.ι i;rw [(ι3 i (by omega)).1,gι i hi,ιC i hi],by
   show C3.κ i=C.κ i;rw [(ι3 i (by omega)).2,← κC i hi]
   have:i≠4:=by omega
   simp [Cx.grow,this]⟩
  match i,hi with
  | 0,_=>exact ⟨_,rfl⟩
  | 1,_=>exact ⟨_,rfl⟩
  | 2,_=>exact ⟨_,rfl⟩
  | 3,_=>exact ⟨_,rfl⟩
 ·rcases at4 hm with ⟨rfl,e⟩ | ⟨rfl,e⟩ | ⟨rfl,e⟩ | ⟨rfl,e⟩ <;> cases e
 ·have hi:i<4:=(Bs.1 h).1
  obtain ⟨o2,h1,h2⟩:=eM (dl:=dl) (sk:=sk) (dc:=dc) i hi;rw [h] at h1;cases h1;exact h2
 ·have hi:=uJ hm hl
  have Sr:i<4:=by omega
  obtain ⟨o2,h1,h2⟩:=eM (dl:=dl) (sk:=sk) (dc:=dc) i Sr;exact .inr ⟨i,o2,h1,h2,by rw [← ιC i Sr,← gι i Sr,← (ι3 i (by omega)).1];exact hc⟩
 ·refine (far c (bP Pb) (fun e => ?_) (fun i hi he => ?_) fun hx => ?_).trans Pb
  ·subst e
   obtain ⟨o2,e1,e2⟩:=hbs;rw [Pb] at e1;cases e1;rw [hnc] at e2;cases e2
  ·have:=(M4 i c hi he).1
   omega
  ·rcases (hX c hx).2.2.2.2 with ⟨o2,h1,h2⟩ | h
   ·rw [Pb] at h1;cases h1;rw [hnc] at h2;cases h2
   ·omega
 ·refine far c (fU (Cy.Fs c hc) fI.size) (fun e => ?_) (fun i hi he => ?_) fun hx=>(hX c hx).1 hc
  ·have:=Cy.Fs c hc;omega
  ·obtain ⟨o,h1,h2⟩:=eM (dl:=dl) (sk:=sk) (dc:=dc) i (by omega)
   exact Cy.nF i o c h1 h2 he hc
end
end KV
end Go.Proofs
end
section
namespace Go.Proofs
open Go.RowKit
namespace KV
open Tryz
open Go.ChangeMaps (setBlock)

def uU(e:Ent):Int × Lqq:=(e.k,e.l)
theorem cHx(L:List Ent)(e:Ent):(pU L e).map uU=aId (L.map uU) e.k e.l:=by
 by_cases h:∃ y∈L,y.k=e.k
 ·obtain ⟨y,hy,he⟩:=h
  rw [tC hy he];unfold aId;rw [if_pos (List.any_eq_true.2 ⟨uU y,Bq.2 ⟨y,hy,rfl⟩,by simpa [uU] using he⟩),uT,uT]
  refine xW fun z _ => ?_
  by_cases hk:z.k=e.k
  ·simp [uU,hk]
  ·simp [uU,hk]
 ·have h':∀ y∈L,y.k≠e.k:=fun y hy he=>h ⟨y,hy,he⟩
  rw [yK h'];unfold aId;rw [if_neg (fun ha=>by
   obtain ⟨z,hz,he⟩:=List.any_eq_true.1 ha;obtain ⟨y,hy,rfl⟩:=Bq.1 hz;exact h' y hy (by simpa [uU] using he))]
  simp [uU]
theorem bZv(L:List Ent)(k:Int):pT L k=aBn (L.map uU) k:=by
 unfold pT tB aBn
 induction L with
 | nil=>rfl
 | cons y r ih =>
  rw [iB,List.find?_cons,List.find?_cons]
  by_cases hk:y.k=k
  ·simp [uU,hk]
  ·have h1:(y.k == k)=false:=by simpa using hk
   have h2:((uU y).1 == k)=false:=h1;rw [h1,h2];exact ih

structure bTd (x:List Int):Prop where
 len:x.length=6
 n:1≤dN x∧dN x≤9999
 ab:0≤dAb x∧dAb x≤9998
theorem cHy{q:Lqq}(hq:∀ y∈q,bTd y):∀ e∈q.foldl jH [],e.2.length≤q.length:=fun e he=>by
 have:=aAa q [] [] ⟨by simp,fun e h=>(by cases h),fun x h=>(by cases h)⟩ (fun x hx=>(hq x hx).ab.1)
 rw [List.nil_append] at this
 rw [(this.mem e he).2.2];exact zR _ _

theorem Pg{dl:Int}{v1 v2:Value}{mb:Nat}{es:List (Value × PV)}{x:List Int}(hx:bTd x)(hes:aAb es):eZ Tp 5 (sub (cd Tryz.f45) bt) ⟨fr 57 [(6,(.ptr 0 0)),(8,(.ptr 4 0))],gV dl v1 v2 mb es x⟩ .normal ⟨fr 57 [(6,(.ptr 0 0)),(8,(.ptr 4 0))],gV dl v1 v2 mb (lF es x) x⟩:=by
 obtain ⟨a,b,c,d,e,f,rfl⟩:=Bo hx.len;have hk : -1000000≤dN [a,b,c,d,e,f]∧dN [a,b,c,d,e,f]≤1000000:=by have:=hx.n;omega
 have hK:=hes.keys hk;unfold lF;cases hb:dU es (.int .i64 (dN [a,b,c,d,e,f])) with
 | true =>
  rw [if_pos rfl];exact (bZy hK hb).cast (by unfold gV;rw [bTg];rfl)
 | false =>
  rw [if_neg (by simp)]
  exact (bZz hK hb).cast (by unfold gV;rw [jT];rfl)
theorem Ph{dl:Int}{v1 v2:Value}{mb:Nat}{es:List (Value × PV)}{x:List Int}(hx:x.length=6):eZ Tp 5 (sub (cd Tryz.f45) bn) ⟨fr 57 [(6,(.ptr 0 0)),(8,(.ptr 4 0))],gV dl v1 v2 mb es x⟩ .normal ⟨fr 57 [(6,(.ptr 0 0)),(8,(.ptr 4 0)),(39,(.p (blP (decide (dAb x > (0:Int))))))],gV dl v1 v2 mb es x⟩:=by
 obtain ⟨a,b,c,d,e,f,rfl⟩:=Bo hx;exact cAa
theorem bKx:sub (cd Tryz.f45) [1,1,1,1,0,1,0,1] = .block 1 (.seq (sub (cd Tryz.f45) bt) (.seq (sub (cd Tryz.f45) bn) (.cond (.tmp 39) (sub (cd Tryz.f45) b9) .skip))):=by kernel_rfl

section
variable {dl:Int} {sk dc:Lqq} {v1 v2:Value} {mb:Nat} {C C':Cx} {w W:World}
set_option maxHeartbeats 1000000 in
theorem bTe{l n b:Nat}{q:Lqq}{x:List Int}{ea:Array MapEntry}{cl:Nat}{L:List Ent}{a:Act}(hx:bTd x)(hq:∀ y∈q,bTd y)(hql:q.length≤1000)(Cy:aO Tp C (mF dl sk dc) w)(hmb:C.ι 3=some mb)(hI:aSg dl sk dc v1 v2 C w mb q W C' ea cl L)
  (hsz:a.tmps.size=57) (hdf:a.defers=[]) (h6:Rep C (mF dl sk dc) w (.ptr 0 0) (a.tmps.getD 6 undef)) (h8:a.tmps.getD 8 undef = .pointer (some ⟨b,0,none⟩)) (hbw:w.heap.size≤b) (hbx:W.heap[b]? = some (.cells (vsL x).toArray 84 (0,0)))
  (hbn:∀ es cl,W.heap[mb]? = some (.map es cl)→∀ y∈es.toList,y.val.ownBlock≠some b) :
  (sub (cd Tryz.f45) [1,1,1,1,0,1,0,1]).wpIn (Fen (some l)) n Tp (fun e _ W4=>e = .normal∧KeepsFrom w.heap.size W W4∧KpG C.F W W4∧∃ C4 Pi D1 L',aSg dl sk dc v1 v2 C w mb (q++[x]) W4 C4 Pi D1 L') a W:=by
 obtain ⟨inv,hok,hls,hborn,hhas⟩:=hI;obtain ⟨hFI,hM,fI⟩:=inv;have hAt:aAb (atF q):=bTf fun y hy=>by have:=(hq y hy).n;omega
 have hmbh:=(hhas (mb,.map ea cl) (by simp [iH])).1
 have hmblt:mb<w.heap.size:=Cy.lt 3 _ mb rfl rfl hmb;have ιC:∀ i,i<4→C'.ι i=C.ι i:=fun i hi=>by
  obtain ⟨o,h1,_⟩:=eM (dl:=dl) (sk:=sk) (dc:=dc) i hi;exact (fI.ids i o h1).2.1
 have M4:∀ i c,i<3→C.ι i=some c→c<w.heap.size∧c≠mb:=fun i c hi hc=>by
  obtain ⟨o,h1,h2⟩:=eM (dl:=dl) (sk:=sk) (dc:=dc) i (by omega)
  refine ⟨Cy.lt i o c h1 h2 hc,fun e => ?_⟩
  subst e;have:=Cy.inj i 3 o _ c h1 h2 rfl rfl hc hmb;omega
 have hbF:¬ C'.F b:=fun h=>by have:=Cy.Fs b ((hFI b).1 h);omega
 obtain ⟨K5,Uh⟩:=aSj (b:=b) (ty:=84) (k:=4) (cs:=x.map aA) (arr:=(vsL x).toArray) hM (fun o h=>by have:=(Bs.1 h).1;simp at this) hbx hbF (fun i o h hl he=>by
   have hi:=uJ h hl;rw [ιC i (by omega)] at he
   have:=(M4 i b (by omega) he).1
   omega) (by simp [vsL]) (fun j hj=>by
   have Ce:j<x.length:=by simpa using hj
   rw [mL];have:(vsL x).toArray.getD j undef = .int .i64 x[j]:=by simp [vsL,Bn,Ce]
   rw [this];exact .v _) (fun j hj=>by
   have Ce:j<x.length:=by simpa using hj
   have:(vsL x).toArray.getD j undef = .int .i64 x[j]:=by simp [vsL,Bn,Ce]
   rw [this];rfl)
 have hset:aW (aAc dl v1 v2 mb (atF q)) 4 (some (.box 84 ((x.map aA).map .p)))=gV dl v1 v2 mb (atF q) x:=rfl;rw [hset] at K5 Uh
 have Qy:Rep (C'.grow 4 b 1) (gV dl v1 v2 mb (atF q) x) W (.ptr 0 0) (a.tmps.getD 6 undef):=(h6.mono (Cy.le fI)).mono Uh;have hSl:eF (C'.grow 4 b 1) (gV dl v1 v2 mb (atF q) x) W (fr 57 [(6,(.ptr 0 0)),(8,(.ptr 4 0))]) a.tmps:=by
  have s0:eF (C'.grow 4 b 1) (gV dl v1 v2 mb (atF q) x) W (List.replicate 57 .any) a.tmps:=⟨by simpa using hsz,fun j hj=>by rw [List.getElem_replicate];exact .any _⟩
  have set1:∀ (t:List AV) (i:Nat) (y:AV),eF (C'.grow 4 b 1) (gV dl v1 v2 mb (atF q) x) W t a.tmps→Rep (C'.grow 4 b 1) (gV dl v1 v2 mb (atF q) x) W y (a.tmps.getD i undef)→eF (C'.grow 4 b 1) (gV dl v1 v2 mb (atF q) x) W (t.set i y) a.tmps:=fun t i y ht hy=>by
   refine ⟨by simpa using ht.size,fun j hj => ?_⟩
   rw [xZ]
   split
   ·rename_i e;subst e;exact hy
   ·exact ht.rep j (by simpa using hj)
  have Qz:Rep (C'.grow 4 b 1) (gV dl v1 v2 mb (atF q) x) W (.ptr 4 0) (a.tmps.getD 8 undef):=by
   rw [h8];exact .ptr 4 0 _ rfl ⟨_,rfl⟩ (fun o ho hl=>⟨b,rfl,by simp [Cx.grow]⟩) ⟨b,rfl⟩
  exact set1 _ 8 _ (set1 _ 6 _ s0 Qy) Qz
 have hs:Sim Tp ((C'.grow 4 b 1).with []) (gV dl v1 v2 mb (atF q) x) W ⟨fr 57 [(6,(.ptr 0 0)),(8,(.ptr 4 0))],gV dl v1 v2 mb (atF q) x⟩ a W :=
  ⟨C'.grow 4 b 1,hSl,K5,(Fr.refl _ _ _).based [],by rw [hdf];exact .nil rfl (fun i o h=>by rcases M7 h with ⟨rfl,e⟩ | ⟨rfl,e⟩ | ⟨rfl,e⟩ | ⟨rfl,e⟩ | ⟨rfl,e⟩ <;> cases e <;> rfl)⟩
 rw [bKx];refine wpIn_block (wpIn_seq (wpIn_mono (Pg (dl:=dl) (v1:=v1) (v2:=v2) (mb:=mb) hx hAt _ _ _ _ _ (by simp) hs (some l) n) ?_))
 rintro e a7 W7 ⟨rfl,Sj⟩;refine wpIn_seq (wpIn_mono (Ph (dl:=dl) (v1:=v1) (v2:=v2) (mb:=mb) hx.len _ _ _ _ _ (by simp) Sj (some l) n) ?_)
 rintro e a8 W3 ⟨rfl,Sk⟩;have v39:a8.eval (.tmp 39) = .bool (decide (dAb x > 0)):=Sk.slot rfl;have Sl:a8.tmps.size=57:=Sk.size;obtain ⟨C3,L4,Iz,f3,_⟩:=Sk;have hblkL:∀ p∈iH mb ea cl L,p.1≠b∧p.1<W.heap.size∧(∀ i,i<3→C.ι i≠some p.1):=fun p hp=>by
  obtain ⟨q1,q2,q3⟩:=hhas p hp;refine ⟨?_,bP q1,fun i hi he => ?_⟩
  ·rcases cV.1 hp with rfl | ⟨y,hy,rfl⟩
   ·intro e;simp only at e;omega
   ·intro e
    obtain ⟨z,hz,_,z2⟩:=hok.e2 y hy;exact hbn ea cl hmbh z hz (by rw [z2,← e];rfl)
  ·obtain ⟨h1,h2⟩:=M4 i _ hi he
   rcases q3 with h | h
   ·exact h2 h
   ·omega
 have gι:∀ i,i<4→(C'.grow 4 b 1).ι i=C'.ι i:=fun i hi=>by
  have:i≠4:=by omega
  simp [Cx.grow,this]
 have Ui:∀ p∈iH mb ea cl L,W3.heap[p.1]? = some p.2:=fun p hp=>by
  obtain ⟨h1,h2,h3⟩:=hblkL p hp;refine (f3.keep p.1 h2 fun i o h hl he => ?_).trans (hhas p hp).1
  change (C'.grow 4 b 1).ι i=some p.1 at he
  rcases M7 h with ⟨rfl,_⟩ | ⟨rfl,_⟩ | ⟨rfl,_⟩ | ⟨rfl,e⟩ | ⟨rfl,_⟩
  ·rw [gι 0 (by omega),ιC 0 (by omega)] at he;exact h3 0 (by omega) he
  ·rw [gι 1 (by omega),ιC 1 (by omega)] at he;exact h3 1 (by omega) he
  ·rw [gι 2 (by omega),ιC 2 (by omega)] at he;exact h3 2 (by omega) he
  ·cases e;cases hl
  ·simp [Cx.grow] at he;exact h1 he.symm
 have Pj:aAb (lF (atF q) x):=hAt.step (by have:=hx.n;omega)
 have hSol:mE W b:=fJ hbx;refine wpIn_cond_split v39 (fun ht => ?_) fun hf => ?_
 ·-- it is about another one
  have hpos:0<dAb x:=of_decide_eq_true ht;obtain ⟨b6,a6,r0,r1,r2,r3,_⟩:=Iz.box 0 _ _ rfl;have r3:=r3 0 (by simp)
  simp only [List.getElem_cons_zero] at r3
  have u6:∃ bd,a6.getD 0 undef = .pointer (some ⟨bd,0,none⟩)∧C3.ι 1=some bd:=by
   generalize a6.getD 0 undef=u at r3
   cases r3 with
   | ptr _ _ _ h0 ha h hp=>exact h _ rfl rfl
  obtain ⟨bd,ud,ιd⟩:=u6;obtain ⟨bd',ad,s0,s1,s2,s3,_⟩:=Iz.box 1 _ _ rfl;rw [ιd] at s0;cases s0
  have s3:=s3 4 (by simp)
  simp only [List.getElem_cons_succ,List.getElem_cons_zero] at s3
  have udm:ad.getD 4 undef = .map (some mb):=by
   generalize ad.getD 4 undef=u at s3
   cases s3 with
   | p _ _ h=>cases h;rfl
  obtain ⟨b8,Sm,t0,t1,t2,t3,_⟩:=Iz.box 4 _ _ rfl;have ι4:C3.ι 4=some b:=by rw [(f3.ids 4 _ rfl).2.1];simp [Cx.with,Cx.grow]
  rw [ι4] at t0;cases t0
  have Vp:Sm=(vsL x).toArray:=by
   apply Array.ext
   ·rw [t2];simp [vsL]
   ·intro j h1 h2
    have hj:j<x.length:=by rw [t2] at h1;simpa using h1
    have:=t3 j (by simpa using hj)
    rw [mL,mL] at this
    have hu:Sm.getD j undef = .int .i64 x[j]:=by
     generalize Sm.getD j undef=u at this
     cases this with
     | p _ _ h=>cases h;rfl
    simp only [Bn,qQ h1,Option.getD_some] at hu
    rw [hu];simp [vsL]
  subst Vp;have w6:a8.tmps.getD 6 undef = .pointer (some ⟨b6,0,none⟩):=by
   have:=L4.at (i:=6) (x := .ptr 0 0) rfl
   generalize a8.tmps.getD 6 undef=u at this
   cases this with
   | ptr _ _ _ h0 ha h hp =>
    obtain ⟨b',h1,h2⟩:=h _ rfl rfl;rw [r0] at h2;cases h2
    exact h1
  have w8:a8.tmps.getD 8 undef = .pointer (some ⟨b,0,none⟩):=by
   have:=L4.at (i:=8) (x := .ptr 4 0) rfl
   generalize a8.tmps.getD 8 undef=u at this
   cases this with
   | ptr _ _ _ h0 ha h hp =>
    obtain ⟨b',h1,h2⟩:=h _ rfl rfl;rw [ι4] at h2;cases h2
    exact h1
  have hLl:∀ e∈L,e.l.length≤1000:=fun e he=>by
   have:uU e∈q.foldl jH []:=by rw [← hls];exact Bq.2 ⟨e,he,rfl⟩
   have:=cHy hq _ this;simp only [uU] at this
   omega
  have ι0:C.ι 0=some b6:=by
   have:=(f3.ids 0 _ rfl).2.1;rw [r0] at this
   rw [← ιC 0 (by omega),← gι 0 (by omega)]
   exact this.symm
  have ι1:C.ι 1=some bd:=by
   have:=(f3.ids 1 _ rfl).2.1;rw [ιd] at this
   rw [← ιC 1 (by omega),← gι 1 (by omega)]
   exact this.symm
  refine wpIn_mono (Sn (F:=Fen (some l)) (n:=n) (fun _=>trivial) hx.len Sl w6 w8 r1 ⟨by rw [r2];simp,ud⟩ s1 ⟨by rw [s2];simp,udm⟩ t1 hok Ui hLl (fun p hp => ?_) ?_) ?_
  ·obtain ⟨h1,_,h3⟩:=hblkL p hp
   exact ⟨fun e=>h3 0 (by omega) (e ▸ ι0),fun e=>h3 1 (by omega) (e ▸ ι1),h1⟩
  ·have:aQt .i64 (.int .i64 (dAb x))=true:=oN (by have:=hx.ab;omega)
   simp only [aQt,Cc] at this
   exact this.2
  ·rintro e a9 W4 ⟨rfl,Pi,D1,e,A⟩
   obtain ⟨C4,Pk,Pl,Sq⟩:=bEq (x:=x) (X:=fun c=>∃ p∈iH mb ea cl L,p.1=c) (Cs:=lF (atF q) x) Cy hmb ⟨hFI,hM,fI⟩ hbw hSol Pj Iz f3 A.size A.os A.tape A.out (fun c hc=>by
    obtain ⟨p,hp,rfl⟩:=hc;obtain ⟨h1,h2,h3⟩:=hblkL p hp;obtain ⟨g1,g2,g3⟩:=hhas p hp;refine ⟨fun h=>g2 ((hFI _).2 h),g3,h2,h1,?_⟩
    rcases cV.1 hp with rfl | ⟨y,_,rfl⟩
    ·exact .inr hmblt
    ·exact .inl (fJ g1)) (fun c hc hn=>A.keep c hc fun p hp e=>hn ⟨p,hp,e⟩)
   refine ⟨rfl,Pl,Sq,C4,Pi,D1,pU L e,by rw [aSf];exact Pk,A.ok,?_,A.born hborn,fun p hp => ?_⟩
   ·show (pU L e).map uU=_
    rw [cHx,A.ky,A.li,bZv,xX];change aId (L.map uU) _ _=jH (q.foldl jH []) x;have:L.map uU=q.foldl jH []:=hls;rw [this];unfold jH;rw [if_pos hpos]
   ·obtain ⟨h1,h2⟩:=A.has p hp
    refine ⟨h1,fun h => ?_,?_⟩
    ·have hF:=(Pk.1 _).1 h
     rcases h2 with ⟨p0,Gs,h3⟩ | h3
     ·rw [← h3] at hF
      exact (hhas p0 Gs).2.1 ((hFI _).2 hF)
     ·have:=Cy.Fs _ hF
      have:=fI.size;have:=f3.size;omega
    ·rcases h2 with ⟨p0,Gs,h3⟩ | h3
     ·rw [← h3];exact (hhas p0 Gs).2.2
     ·right
      have:=fI.size;have:=f3.size;omega
 ·-- it is about none
  have hpos:¬ 0<dAb x:=of_decide_eq_false hf;obtain ⟨C4,Pk,Pl,Sq⟩:=bEq (x:=x) (X:=fun _=>False) (W4:=W3) (Cs:=lF (atF q) x) Cy hmb ⟨hFI,hM,fI⟩ hbw hSol Pj Iz f3 (dG _) rfl rfl rfl (fun c hc=>hc.elim) (fun c _ _=>rfl)
  refine wpIn_skip ⟨rfl,Pl,Sq,C4,ea,cl,L,by rw [aSf];exact Pk,hok,?_,hborn,fun p hp=>⟨Ui p hp,fun h=>(hhas p hp).2.1 ((hFI _).2 ((Pk.1 _).1 h)),(hhas p hp).2.2⟩⟩
  rw [xX,hls];change _=jH (q.foldl jH []) x;unfold jH;rw [if_neg hpos]
end
end KV
end Go.Proofs
end
section
namespace Go.Proofs
open Go.RowKit
namespace KV
open Tryz
open Go.ChangeMaps (setBlock)

def abE(dc:Lqq):List (Value × PV):=(abM dc).map fun e=>(.int .i64 e.1,.sl e.2.length (e.2.flatten.map aA))
abbrev aBo(dl:Int)(sk dc:Lqq):Mem:=[some (.box 106 [.ptr 1 0]),some (dkB dl (.sl sk.length (sk.flatten.map aA)) (.sl dc.length (dc.flatten.map aA)) (.mp 2) (.p (.mp (abE dc)))),some (.mp (atF dc.reverse) (atF dc.reverse).length),some .dead]
theorem bEn : sub (cd Tryz.f45) [1, 1, 1, 1, 0, 1, 0] = .rangeFunc (.tmp 27) #[28, 29] (.region 6 #[{ dst := some 8, op := .alloc 84, type := 0, pos := "jury.go:198", after := #[], guard := none }, { dst := none, op := .store 84 (.tmp 8) (.tmp 29), type := 0, pos := "jury.go:198", after := #[{ on := 0, ground := .data }, { on := 0, ground := .phase }], guard := none }] false) (sub (cd Tryz.f45) [1, 1, 1, 1, 0, 1, 0, 1]) := by kernel_rfl
theorem aZd{dc:Lqq}(h:bZ dc):∀ x∈dc,bTd x:=fun x hx=>⟨h.ud x hx,(lM.1 (h.rng x hx)).1,pR h x hx⟩
theorem aFm{dc:Lqq}(x:Bk dc):nI dc x.1∈dc:=by
 unfold nI;rw [Bw,Av x.2];exact fG x.2
theorem bTc{dc:Lqq}{xs:List (Bk dc)}(h:xs.map (fun x=>x.1)=bk dc.length 0):xs.map (fun x=>nI dc x.1)=dc.reverse:=by
 have:xs.map (fun x=>nI dc x.1)=(xs.map (fun x=>x.1)).map (nI dc):=by rw [uT];rfl
 rw [this,h,cAf,List.map_reverse]
 congr 1
 apply List.ext_getElem
 ·simp
 ·intro i h1 h2
  simp [nI,Bw,Av h2]

theorem aZe{F:Nat→Prop}{W:World}{mb cl:Nat}{ea:Array MapEntry}{L:List Ent}{dc:Lqq}(hok:mG mb ea L)(hls:L.map (fun e=>(e.k,e.l))=abM dc)(hborn:∀ y∈ea.toList,y.born<cl)
  (hhas:∀ p∈iH mb ea cl L,W.heap[p.1]? = some p.2∧F p.1):bQ F W (.mp (abE dc)) (.map (some mb)):=by
 have hlen:ea.size=L.length:=by
  have:=congrArg List.length hok.ord;simpa using this
 have habE:abE dc=L.map fun e=>(.int .i64 e.k,.sl e.l.length (e.l.flatten.map aA)):=by
  unfold abE;rw [← hls,uT];rfl
 obtain ⟨h0,M3⟩:=hhas (mb,.map ea cl) (by simp [iH])
 refine bQ.mp (abE dc) mb cl ea (fun j=>(L.map Ent.val).getD j undef) M3 h0 (by rw [habE];simpa using hlen) (fun j hj => ?_) (fun j hj => ?_)
 ·have hjL:j<L.length:=by rw [habE] at hj;simpa using hj
  have hje:j<ea.size:=by omega
  have ho:(ea.toList.map fun x=>(x.key,x.val))[j]? = (L.map fun e=>(Value.int .i64 e.k,e.val))[j]? := by rw [hok.ord]
  rw [jU,jU,Av hjL,Av (by simpa using hje)] at ho
  simp only [Option.map_some,Option.some.injEq,Prod.mk.injEq] at ho
  refine ⟨ea[j],qQ hje,?_,hborn _ (by simp),?_⟩
  ·simp only [habE,mL]
   simpa using ho.1
  ·rw [Bw,jU,Av hjL]
   simpa using ho.2
 ·have hjL:j<L.length:=by rw [habE] at hj;simpa using hj
  have hm:L[j]∈L:=fG hjL;have e1:(abE dc)[j].2 = .sl L[j].l.length (L[j].l.flatten.map aA):=by simp only [habE,mL]
  have e2:(L.map Ent.val).getD j undef=L[j].val:=by rw [Bw,jU,Av hjL];rfl
  rw [e1,e2];generalize L[j]=e at hm
  have he:=hok.ok e hm;obtain ⟨g1,g2⟩:=hhas e.blk (cV.2 (.inr ⟨e,hm,rfl⟩));change W.heap[e.b]? = some (.cells e.arr 84 (0,0)) at g1
  have hfl:(e.l.flatten.map aA).length=e.l.length*6:=by rw [B9,qV he.u]
  have hcell:∀ i,i<(e.l.flatten.map aA).length→∃ z,e.l.flatten[i]? = some z∧e.arr[i]? = some (.int .i64 z):=fun i hi=>by
   have Bi:i<e.l.flatten.length:=by rw [B9] at hi;exact hi
   refine ⟨e.l.flatten[i],Av Bi,?_⟩;have h1:(e.arr.toList.take (e.l.length*6))[i]? = (e.l.flatten.map (Value.int .i64))[i]? := by rw [he.at_]
   rw [List.getElem?_take_of_lt (by omega),jU,Av Bi] at h1
   simpa using h1
  refine .sl _ _ _ _ (fun i=>e.arr.getD i undef) he.le he.cap (fun i hi => ?_) (fun i hi => ?_) (fun i hi => ?_)
  ·obtain ⟨z,_,h2⟩:=hcell i hi
   refine ⟨e.b,0,rfl,g2,?_⟩;obtain ⟨h3,h4⟩:=qP.1 h2;rw [gS,bM g1 h3]
  ·obtain ⟨z,h1,h2⟩:=hcell i hi
   have:e.arr.getD i undef = .int .i64 z:=by rw [Bn,h2];rfl
   rw [this,mL];obtain ⟨h3,h4⟩:=Bs.1 h1;rw [h4];exact .v _
  ·obtain ⟨z,h1,h2⟩:=hcell i hi
   have:e.arr.getD i undef = .int .i64 z:=by rw [Bn,h2];rfl
   rw [this];rfl
end KV
end Go.Proofs
end
section
namespace Go.Proofs
open Go.RowKit
namespace KV
open Tryz
open Go.ChangeMaps (setBlock)
section
variable {dl:Int} {sk dc:Lqq} {v1 v2:Value} {mb:Nat} {C C':Cx} {w W:World}

theorem bKv{Mz:Array MapEntry}(hM:aO Tp C (mF dl sk dc) w)(hmb:C.ι 3=some mb)(hmh:w.heap[mb]? = some (.map #[] 0))
  {bd:Nat} {ad:Array Value} {td:TypeId} (i1:C.ι 1=some bd) (hd:w.heap[bd]? = some (.cells ad td (0,0))) (q1:ad.getD 1 undef=v1) (q2:ad.getD 2 undef=v2):aSg dl sk dc v1 v2 C w mb [] w C #[] 0 []:=by
 have M3:∀ (i:Nat) (o:AO),(aAc dl v1 v2 mb [])[i]? = some (some o)→o.live=true→∃ o',(mF dl sk dc)[i]? = some (some o')∧o'.live=true:=fun i o h hl=>by
  have hi:=uJ h hl;exact eM i (by omega)
 refine ⟨⟨fun _=>Iff.rfl,⟨fun i ty n cs h => ?_,fun i ty cs h => ?_,fun i es cl h => ?_,fun i i' o o' b h1 l1 h2 l2 e1 e2 => ?_,fun i o b h hl hb => ?_,hM.Fs,fun i o b h hl hb => ?_⟩,
  ⟨rfl,rfl,rfl,dG _,fun _ _ _=>rfl,fun i o h=>⟨?_,rfl,rfl⟩,fun i o h ty n cs hx => ?_,fun i o h o' hx hl => ?_,fun i o b h hl hb => ?_,fun _ h=>h,fun _ h => .inl h⟩⟩,mG.nil mb,rfl,fun y h=>by simp at h,fun p hp => ?_⟩
 ·rcases at4 h with ⟨rfl,e⟩ | ⟨rfl,e⟩ | ⟨rfl,e⟩ | ⟨rfl,e⟩ <;> cases e
 ·rcases at4 h with ⟨rfl,e⟩ | ⟨rfl,e⟩ | ⟨rfl,e⟩ | ⟨rfl,e⟩
  ·cases e
   obtain ⟨b,arr,r0,r1,r2,r3,r4⟩:=hM.box 0 _ _ rfl;refine ⟨b,arr,r0,r1,r2,fun j hj => ?_,r4⟩
   have:=r3 j hj;have Sf:j=0:=by simp at hj;exact hj
   subst Sf;simp only [List.getElem_cons_zero] at this ⊢
   cases this with
   | ptr _ _ _ h0 ha h hp =>
    refine .ptr _ _ _ h0 ⟨_,rfl⟩ (fun o ho hl => ?_) hp
    exact h _ rfl rfl
  ·cases e
   obtain ⟨b,arr,r0,r1,r2,r3,r4⟩:=hM.box 1 _ _ rfl;rw [i1] at r0;cases r0
   rw [hd] at r1;cases r1
   refine ⟨bd,ad,i1,hd,r2,fun j hj => ?_,r4⟩
   match j,hj with
   | 0,_ =>
    have:=r3 0 (by simp)
    cases this with
    | p _ _ h=>exact .p _ _ h
   | 1,_=>exact .p _ _ (by rw [q1];exact .v _)
   | 2,_=>exact .p _ _ (by rw [q2];exact .v _)
   | 3,_ =>
    have:=r3 3 (by simp)
    simp only [List.getElem_cons_succ,List.getElem_cons_zero] at this ⊢
    cases this with
    | mp _ _ h0 ha h =>
     refine .mp _ _ h0 ⟨_,rfl⟩ fun o ho hl => ?_
     exact h _ rfl rfl
   | 4,_ =>
    have:=r3 4 (by simp)
    simp only [List.getElem_cons_succ,List.getElem_cons_zero] at this ⊢
    generalize ad.getD 4 undef=u at this
    cases this with
    | mp _ _ h0 ha h =>
     obtain ⟨b,h1,h2⟩:=h _ rfl rfl;rw [hmb] at h2;cases h2
     rw [h1];exact .p _ _ (.v _)
  ·cases e
  ·cases e
 ·rcases at4 h with ⟨rfl,e⟩ | ⟨rfl,e⟩ | ⟨rfl,e⟩ | ⟨rfl,e⟩
  ·cases e
  ·cases e
  ·cases e;exact hM.mp 2 _ _ rfl
  ·cases e
 ·obtain ⟨p,q1,q2⟩:=M3 _ _ h1 l1
  obtain ⟨p',Kc,Kd⟩:=M3 _ _ h2 l2;exact hM.inj i i' p p' b q1 q2 Kc Kd e1 e2
 ·obtain ⟨p,q1,q2⟩:=M3 _ _ h hl
  exact hM.nF i p b q1 q2 hb
 ·obtain ⟨p,q1,q2⟩:=M3 _ _ h hl
  exact hM.lt i p b q1 q2 hb
 ·have hi:i<4:=(Bs.1 h).1
  match i,hi with
  | 0,_=>exact ⟨_,rfl⟩
  | 1,_=>exact ⟨_,rfl⟩
  | 2,_=>exact ⟨_,rfl⟩
  | 3,_=>exact ⟨_,rfl⟩
 ·rcases at4 hx with ⟨rfl,e⟩ | ⟨rfl,e⟩ | ⟨rfl,e⟩ | ⟨rfl,e⟩ <;> cases e
 ·have hi:i<4:=(Bs.1 h).1
  obtain ⟨p,q1,q2⟩:=eM (dl:=dl) (sk:=sk) (dc:=dc) i hi;rw [h] at q1;cases q1;exact q2
 ·obtain ⟨p,q1,q2⟩:=M3 _ _ h hl
  exact .inr ⟨i,p,q1,q2,hb⟩
 ·have:p=(mb,.map #[] 0):=by simpa [iH] using hp
  subst this;exact ⟨hmh,fun h=>hM.nF 3 _ mb rfl rfl hmb h,.inl rfl⟩

theorem bKw{ea:Array MapEntry}{cl:Nat}{L:List Ent}(Cy:aO Tp C (mF dl sk dc) w)(hmb:C.ι 3=some mb)(r1:bQ C.F w (.sl sk.length (sk.flatten.map aA)) v1)(r2:bQ C.F w (.sl dc.length (dc.flatten.map aA)) v2)
  (hI:aSg dl sk dc v1 v2 C w mb dc.reverse W C' ea cl L) :
  ∃ C5,aO Tp C5 (aBo dl sk dc) W∧Fr C (mF dl sk dc) w C5 (aBo dl sk dc) W∧∀ D,W.heap[D]? = some (.deferred (some []))→w.heap.size≤D→¬ C5.F D:=by
 obtain ⟨⟨hFI,hM,fI⟩,hok,hls,hborn,hhas⟩:=hI;obtain ⟨F5,Kz⟩:∃ F5:Nat→Prop,F5=fun c=>C'.F c∨∃ p∈iH mb ea cl L,p.1=c:=⟨_,rfl⟩
 have toF:∀ c,C.F c→F5 c:=fun c hc=>by rw [Kz];exact .inl ((hFI c).2 hc)
 have Sg:∀ c,C'.F c→F5 c:=fun c hc=>by rw [Kz];exact .inl hc
 have same:∀ c,C.F c→W.heap[c]? = w.heap[c]? := fun c hc=>fI.keep c (Cy.Fs c hc) fun i o h hl he=>Cy.nF i o c h hl he hc
 have ιC:∀ i,i<4→C'.ι i=C.ι i:=fun i hi=>by
  obtain ⟨o,h1,_⟩:=eM (dl:=dl) (sk:=sk) (dc:=dc) i hi;exact (fI.ids i o h1).2.1
 have Hh:∀ {i:Nat} {o:AO},(aBo dl sk dc)[i]? = some (some o)→o.live=true→(i=0∨i=1∨i=2)∧∃ o',(aAc dl v1 v2 mb (atF dc.reverse))[i]? = some (some o')∧o'.live=true:=fun {i o} h hl=>by
  rcases at4 h with ⟨rfl,e⟩ | ⟨rfl,e⟩ | ⟨rfl,e⟩ | ⟨rfl,e⟩
  ·exact ⟨.inl rfl,_,rfl,rfl⟩
  ·exact ⟨.inr (.inl rfl),_,rfl,rfl⟩
  ·exact ⟨.inr (.inr rfl),_,rfl,rfl⟩
  ·cases e;cases hl
 have M4:∀ i c,i<3→C.ι i=some c→c<w.heap.size∧c≠mb:=fun i c hi hc=>by
  obtain ⟨o,h1,h2⟩:=eM (dl:=dl) (sk:=sk) (dc:=dc) i (by omega)
  refine ⟨Cy.lt i o c h1 h2 hc,fun e => ?_⟩
  subst e;have:=Cy.inj i 3 o _ c h1 h2 rfl rfl hc hmb;omega
 refine ⟨⟨C'.ι,C'.κ,F5,[]⟩,⟨fun i ty n cs h => ?_,fun i ty cs h => ?_,fun i es cl h => ?_,fun i i' o o' b h1 l1 h2 l2 e1 e2 => ?_,fun i o b h hl hb hf => ?_,fun c hc => ?_,fun i o b h hl hb => ?_⟩,
  ⟨fI.os,fI.tape,fI.out,fI.size,fI.keep,fun i o h=>⟨?_,(fI.ids i o h).2⟩,fun i o h ty n cs hx => ?_,fun i o h o' hx hl => ?_,fun i o b h hl hb => ?_,toF,fun c hc => ?_⟩,fun D hD hDs hf => ?_⟩
 ·rcases at4 h with ⟨rfl,e⟩ | ⟨rfl,e⟩ | ⟨rfl,e⟩ | ⟨rfl,e⟩ <;> cases e
 ·rcases at4 h with ⟨rfl,e⟩ | ⟨rfl,e⟩ | ⟨rfl,e⟩ | ⟨rfl,e⟩
  ·cases e
   obtain ⟨b,arr,r0,r1,r2,r3,r4⟩:=hM.box 0 _ _ rfl;refine ⟨b,arr,r0,r1,r2,fun j hj => ?_,r4⟩
   have:=r3 j hj;have Sf:j=0:=by simp at hj;exact hj
   subst Sf;simp only [List.getElem_cons_zero] at this ⊢
   cases this with
   | ptr _ _ _ h0 ha h hp =>
    refine .ptr _ _ _ h0 ⟨_,rfl⟩ (fun o ho hl => ?_) hp
    exact h _ rfl rfl
  ·cases e
   obtain ⟨b,arr,s0,s1,s2,s3,s4⟩:=hM.box 1 _ _ rfl;have opq:∀ (j:Nat) (v:Value),Rep C' (aAc dl v1 v2 mb (atF dc.reverse)) W (.p (.v v)) (arr.getD j undef)→arr.getD j undef=v:=fun j v h=>by
    generalize arr.getD j undef=u at h
    cases h with
    | p _ _ h=>cases h;rfl
   refine ⟨b,arr,s0,s1,s2,fun j hj => ?_,s4⟩
   match j,hj with
   | 0,_ =>
    have:=s3 0 (by simp)
    cases this with
    | p _ _ h=>exact .p _ _ (h.anyF rfl)
   | 1,_ =>
    show Rep _ _ W (.p (.sl sk.length (sk.flatten.map aA))) (arr.getD 1 undef);rw [opq 1 v1 (s3 1 (by simp))]
    exact .p _ _ (r1.mono toF same)
   | 2,_ =>
    show Rep _ _ W (.p (.sl dc.length (dc.flatten.map aA))) (arr.getD 2 undef);rw [opq 2 v2 (s3 2 (by simp))]
    exact .p _ _ (r2.mono toF same)
   | 3,_ =>
    have:=s3 3 (by simp)
    simp only [List.getElem_cons_succ,List.getElem_cons_zero] at this ⊢
    cases this with
    | mp _ _ h0 ha h =>
     refine .mp _ _ h0 ⟨_,rfl⟩ fun o ho hl => ?_
     exact h _ rfl rfl
   | 4,_ =>
    show Rep _ _ W (.p (.mp (abE dc))) (arr.getD 4 undef);rw [opq 4 (.map (some mb)) (s3 4 (by simp))]
    exact .p _ _ (aZe hok hls hborn fun p hp=>⟨(hhas p hp).1,by rw [Kz];exact .inr ⟨p,hp,rfl⟩⟩)
  ·cases e
  ·cases e
 ·rcases at4 h with ⟨rfl,e⟩ | ⟨rfl,e⟩ | ⟨rfl,e⟩ | ⟨rfl,e⟩
  ·cases e
  ·cases e
  ·cases e
   obtain ⟨b,arr,s0,s1,s2,s3⟩:=hM.mp 2 _ _ rfl;refine ⟨b,arr,s0,s1,s2,fun j hj => ?_⟩
   obtain ⟨en,t1,t2,t3,t4⟩:=s3 j hj;exact ⟨en,t1,t2,t3,t4.mono Sg (fun _ _=>rfl)⟩
  ·cases e
 ·obtain ⟨_,p,q1,q2⟩:=Hh h1 l1
  obtain ⟨_,p',Kc,Kd⟩:=Hh h2 l2;exact hM.inj i i' p p' b q1 q2 Kc Kd e1 e2
 ·obtain ⟨hi,p,q1,q2⟩:=Hh h hl
  rw [Kz] at hf
  rcases hf with hf | ⟨p0,Gs,hpb⟩
  ·exact hM.nF i p b q1 q2 hb hf
  ·have Ar:C.ι i=some b:=by rw [← ιC i (by omega)];exact hb
   obtain ⟨g1,g2⟩:=M4 i b (by omega) Ar
   rcases (hhas p0 Gs).2.2 with h5 | h5 <;> omega
 ·rw [Kz] at hc
  rcases hc with hc | ⟨p0,Gs,rfl⟩
  ·exact hM.Fs c hc
  ·exact bP (hhas p0 Gs).1
 ·obtain ⟨_,p,q1,q2⟩:=Hh h hl
  exact hM.lt i p b q1 q2 hb
 ·have hi:i<4:=(Bs.1 h).1
  match i,hi with
  | 0,_=>exact ⟨_,rfl⟩
  | 1,_=>exact ⟨_,rfl⟩
  | 2,_=>exact ⟨_,rfl⟩
  | 3,_=>exact ⟨_,rfl⟩
 ·rcases at4 hx with ⟨rfl,e⟩ | ⟨rfl,e⟩ | ⟨rfl,e⟩ | ⟨rfl,e⟩ <;> cases e
 ·have hi:i<4:=(Bs.1 h).1
  obtain ⟨p,q1,q2⟩:=eM (dl:=dl) (sk:=sk) (dc:=dc) i hi;rw [h] at q1;cases q1;exact q2
 ·obtain ⟨_,p,q1,q2⟩:=Hh h hl
  exact fI.new i p b q1 q2 hb
 ·rw [Kz] at hc
  rcases hc with hc | ⟨p0,Gs,rfl⟩
  ·exact .inl ((hFI c).1 hc)
  ·rcases (hhas p0 Gs).2.2 with h5 | h5
   ·exact .inr (.inr ⟨3,_,rfl,rfl,by rw [h5];exact hmb⟩)
   ·exact .inr (.inl h5)
 ·rw [Kz] at hf
  rcases hf with hf | ⟨p0,Gs,rfl⟩
  ·have:=Cy.Fs D ((hFI D).1 hf);omega
  ·have h6:=(hhas p0 Gs).1
   rw [hD] at h6
   rcases cV.1 Gs with rfl | ⟨y,_,rfl⟩ <;> cases h6
end
theorem K0:∃ i,Tryz.prog.info? 84=some i∧i.zero=some Jo∧i.size=6:=by
 obtain ⟨i,h1,h2,h3,_⟩:=info_parts Gu;exact ⟨i,h1,h2,h3⟩
theorem aSd(W:World):(Instr.alloc 84 true (.tuple #[])).run Tp W = .ok (.pointer (some ⟨W.heap.size,0,none⟩)) (W.alloc (.cells Jo.cells 84)):=rfl
set_option maxHeartbeats 1000000 in
theorem bTb(dl:Int)(sk dc:Lqq)(hd:bZ dc):aB Tp 0 (sub (cd Tryz.f45) [1,1,1,1,0,1,0]) ⟨fr 57 [(6,(.ptr 0 0)),(27,aSh dc)],mF dl sk dc⟩ .normal ⟨fr 57 [(6,(.ptr 0 0))],aBo dl sk dc⟩:=by
 intro C0 M0 w0 a w hk hs ro hro n;have M5:ro=none:=hro.resolve_right (by rw [bEn];simp [nrf])
 subst M5;rw [bEn];refine aFh (n:=3) ?_;obtain ⟨C,hSl,hM,hF,hD⟩:=hs;obtain ⟨mb,Mz,hmb,hmh,hz,_⟩:=hM.mp 3 _ _ rfl;obtain rfl:Mz = #[]:=Array.eq_empty_of_size_eq_zero (by simpa using hz)
 obtain ⟨bd,ad,i1,hdh,Fu,Hl,Pb⟩:=hM.box 1 _ _ rfl;have r1:bQ C.F w (.sl sk.length (sk.flatten.map aA)) (ad.getD 1 undef):=by
  have:=Hl 1 (by simp)
  cases this with
  | p _ _ h=>exact h
 have r2:bQ C.F w (.sl dc.length (dc.flatten.map aA)) (ad.getD 2 undef):=by
  have:=Hl 2 (by simp)
  cases this with
  | p _ _ h=>exact h
 have hmblt:mb<w.heap.size:=hM.lt 3 _ mb rfl rfl hmb;have hsz:a.tmps.size=57:=hSl.size;have h6:=hSl.at (i:=6) (x := .ptr 0 0) rfl
 obtain ⟨lb,Sp,hu,hseq⟩:=bLa dc hd.ud hd.len C (mF dl sk dc) w _ (hSl.at (i:=27) (x:=aSh dc) rfl) hM.Fs
 have actT:∀ (x:Bk dc) (b:Nat),((({ tmps:=(a.tmps.setIfInBounds 28 (.int .i64 (x.1:Nat))).setIfInBounds 29 (.agg (Dh (nI dc x.1))),defers:=[] }:Act).put (some 8) (.pointer (some ⟨b,0,none⟩))).tmps.size=57) ∧
   (({ tmps:=(a.tmps.setIfInBounds 28 (.int .i64 (x.1:Nat))).setIfInBounds 29 (.agg (Dh (nI dc x.1))),defers:=[] }:Act).put (some 8) (.pointer (some ⟨b,0,none⟩))).tmps.getD 6 undef=a.tmps.getD 6 undef ∧
   (({ tmps:=(a.tmps.setIfInBounds 28 (.int .i64 (x.1:Nat))).setIfInBounds 29 (.agg (Dh (nI dc x.1))),defers:=[] }:Act).put (some 8) (.pointer (some ⟨b,0,none⟩))).tmps.getD 8 undef = .pointer (some ⟨b,0,none⟩):=fun x b=>by
  refine ⟨by simp [Act.put,hsz],?_,?_⟩
  ·simp [Act.put,Bn]
  ·simp [Act.put,Bn,hsz]
 refine wpIn_rangeFunc_ownH (F:=Fen none) (n:=3) rfl (by omega) (gf:=157) (lb:=lb) hu trivial (fun args w=>rfl) hseq (fun h k=>h.trans k)
  (fun W l o o' hl h1 h2 h3=>⟨by simp,fun b hb=>(grownBy_putObj' W l o').block b (fU (hM.Fs b hb) (gL hl (Nat.le_of_lt (qP.1 h1).1))) (fun e=>by cases e;have:=hM.Fs _ hb;omega)⟩)
  (Below.refl _ _) (fun _=>rfl)
  (fun pre W=>∃ C' ea cl L,aSg dl sk dc (ad.getD 1 undef) (ad.getD 2 undef) C w mb (pre.map fun x=>nI dc x.1) W C' ea cl L) (fun _ _ _=>False)
  (fun pre X Y row hs hg hr=>by obtain ⟨C',ea,cl,L,h⟩:=hs;exact ⟨C',ea,cl,L,h.own hM hmb hg hr⟩) (fun _ _ _ _ _ hs _ _=>hs)
  ⟨C,#[],0,[],bKv (Mz := #[]) hM hmb hmh i1 hdh rfl rfl⟩
  (fun x a' W=>∃ b,a'=(({ tmps:=(a.tmps.setIfInBounds 28 (.int .i64 (x.1:Nat))).setIfInBounds 29 (.agg (Dh (nI dc x.1))),defers:=[] }:Act).put (some 8) (.pointer (some ⟨b,0,none⟩)))∧w.heap.size≤b∧W.heap[b]? = some (.cells (vsL (nI dc x.1)).toArray 84 (0,0))∧∀ es cl,W.heap[mb]? = some (.map es cl)→∀ y∈es.toList,y.val.ownBlock≠some b)
  (fun x a' _ X Y row hs hg hr => ?hAx) ?assign ?body ?done ?stop
 case hAx =>
  obtain ⟨b,h1,h2,h3,h4⟩:=hs;have hno:∀ c,c<X.heap.size→(c<w.heap.size∨mE X c)→Y.heap[c]? = X.heap[c]? := fun c hc hd=>hg.block c hc (fun e=>by
   obtain ⟨q1,o,q2,q3⟩:=hr c e.symm
   rcases hd with hd | hd
   ·omega
   ·exact jQ q2 q3 hd)
  refine ⟨b,h1,h2,(hno b (bP h3) (.inr (fJ h3))).trans h3,fun es cl h => ?_⟩
  by_cases hlt:mb<X.heap.size
  ·rw [hno mb hlt (.inl hmblt)] at h
   exact h4 es cl h
  ·exact absurd (fU (bP h3) (dG _)) (by omega)
 case assign =>
  intro l pre x W K hI hK;rw [O7];obtain ⟨C',ea,cl,L,hI⟩:=hI;have hx:=aZd hd _ (aFm x);have hev:Dh (nI dc x.1)=(vsL (nI dc x.1)).toArray:=rfl;refine wpIn_region_lit (wpListIn_plain rfl fun K' Si => ?_)
  unfold Oper.wpIn;refine ⟨fun f _=>trivial,?_⟩
  rw [Oper.semAt_plain _ _ _ (by intro c Fg;cases Fg)]
  have e1 : ∀ ρ : Operand → Value, (execOp ρ { dst := some 8, op := .alloc 84, type := 0, pos := "jury.go:198", after := #[], guard := none }).run Tp W = .ok (.value (.pointer (some ⟨W.heap.size, 0, none⟩))) (W.alloc (.cells Jo.cells 84)) := fun ρ => by
   unfold execOp;dsimp only;rw [Sem.run_bind,aSd,Result.andThen_ok,Sem.run_pure]
  rw [e1];refine Si _ _ (wpListIn_plain rfl fun K2 Pd => ?_)
  unfold Oper.wpIn;refine ⟨fun f _=>trivial,?_⟩
  rw [Oper.semAt_plain _ _ _ (by intro c Fg;cases Fg)]
  obtain ⟨Vn,hi,N6,Fl⟩:=K0;have e8:(({ tmps:=(a.tmps.setIfInBounds 28 (.int .i64 (x.1:Nat))).setIfInBounds 29 (.agg (Dh (nI dc x.1))),defers:=[] }:Act).put (some 8) (.pointer (some ⟨W.heap.size,0,none⟩))).eval (.tmp 8) = .pointer (some ⟨W.heap.size,0,none⟩):=(actT x W.heap.size).2.2;have Vo:(({ tmps:=(a.tmps.setIfInBounds 28 (.int .i64 (x.1:Nat))).setIfInBounds 29 (.agg (Dh (nI dc x.1))),defers:=[] }:Act).put (some 8) (.pointer (some ⟨W.heap.size,0,none⟩))).eval (.tmp 29) = .agg (Dh (nI dc x.1)):=by
   simp [Act.eval,Act.put,Bn,hsz]
  have e2:=run_storeAt_new (P:=Tp) W 84 Jo.cells (Dh (nI dc x.1)) (by rw [hi];simp [Fl,hev,vsL,hx.len]) (by simp [hev,vsL,hx.len];rfl) (by
   rw [Array.all_eq_true];intro i h;simp [hev,vsL];rfl)
  have e3 : ∀ ρ : Operand → Value, ρ (.tmp 8) = .pointer (some ⟨W.heap.size, 0, none⟩) → ρ (.tmp 29) = .agg (Dh (nI dc x.1)) → (execOp ρ { dst := none, op := .store 84 (.tmp 8) (.tmp 29), type := 0, pos := "jury.go:198", after := #[{ on := 0, ground := .data }, { on := 0, ground := .phase }], guard := none }).run Tp (W.alloc (.cells Jo.cells 84)) = .ok .skip (W.alloc (.cells (Dh (nI dc x.1)) 84)) := fun ρ h1 h2 => by
   unfold execOp;dsimp only;rw [h1,h2,Sem.run_bind,e2,Result.andThen_ok,Sem.run_pure]
  rw [e3 _ e8 Vo];refine Pd _ _ (wpListIn_nil (hK _ _ ?_ ?_ ?_ ?_))
  ·exact ⟨by simp,fun k o _ hk _=>((jO W _).2.2 k (bP hk)).trans hk⟩
  ·exact ⟨by simp,fun b hb=>(jO W _).2.2 b (fU (hM.Fs b hb) hI.inv.2.2.size)⟩
  ·exact ⟨C',ea,cl,L,hI.own hM hmb (World.grownBy_alloc W _ none) (fun r e=>by cases e)⟩
  ·refine ⟨W.heap.size,rfl,hI.inv.2.2.size,(jO W _).2.1,fun Tv Tw h y hy hyb => ?_⟩
   have Cd:=(hI.has (mb,.map ea cl) (by simp [iH])).1
   rw [(jO W _).2.2 mb (bP Cd),Cd] at h
   cases h;obtain ⟨e,he,_,hv⟩:=hI.ok.e1 y hy;rw [hv] at hyb
   have Dr:e.b=W.heap.size:=by
    have:Ent.val e = .slice (some ⟨e.b,0,none⟩) e.l.length e.cap:=rfl;rw [this] at hyb
    exact Option.some.inj hyb
   have:=bP (hI.has e.blk (cV.2 (.inr ⟨e,he,rfl⟩))).1;simp only [Ent.blk] at this
   omega
 case body =>
  rintro l pre x a' W hl _ ⟨C',ea,cl,L,hI⟩ ⟨b,rfl,B5,Dr,N8⟩ hlt;obtain ⟨t1,t2,t3⟩:=actT x b;refine wpIn_mono (bTe (l:=l) (n:=1) (aZd hd _ (aFm x)) (fun y hy=>by
   obtain ⟨z,_,rfl⟩:=Bq.1 hy;exact aZd hd _ (aFm z)) (by rw [B9];have:=hd.len;omega) hM hmb hI t1 rfl (by rw [t2];exact h6) t3 B5 Dr N8) ?_
  rintro e a2 W4 ⟨rfl,hK,hG,h⟩;exact ⟨hK,hG,by simpa [iV] using h⟩
 case done =>
  intro D xs W Kb hSx hI hDm;obtain ⟨C',ea,cl,L,hI⟩:=hI;rw [bTc hSx] at hI
  obtain ⟨C5,K5,f5,Kz⟩:=bKw hM hmb r1 r2 hI;have hnp:bGu (aBo dl sk dc):=fun i o h=>by rcases at4 h with ⟨rfl,e⟩ | ⟨rfl,e⟩ | ⟨rfl,e⟩ | ⟨rfl,e⟩ <;> cases e <;> rfl
  refine ⟨rfl,C5,?_,K5,hF.trans f5,?_⟩
  ·have s0:eF C5 (aBo dl sk dc) W (List.replicate 57 .any) a.tmps:=⟨by simpa using hsz,fun j hj=>by rw [List.getElem_replicate];exact .any _⟩
   refine ⟨hsz.trans rfl,fun j hj => ?_⟩
   have hfr:fr 57 [(6,.ptr 0 0)]=(List.replicate 57 AV.any).set 6 (.ptr 0 0):=rfl;simp only [hfr] at hj ⊢
   rw [xZ]
   split
   ·rename_i e;subst e;exact h6.mono (hM.le f5)
   ·exact s0.rep j (by simpa using hj)
  ·obtain ⟨⟨l,e1,e2,e3⟩,hR⟩:=hD.fr hM (fun i to ti sz L h=>by have:=hnp _ _ h;cases this) f5
   obtain ⟨⟨l',M6,_,Pe⟩,_⟩:=hD;have hll:l=l':=by
    have:=e1.symm.trans M6;exact (List.map_inj_right (fun x y h=>by simpa [mark] using h)).1 this
   refine ⟨⟨D::l,by rw [e1];rfl,List.nodup_cons.2 ⟨fun hin => ?_,e2⟩,fun D' Pf => ?_⟩,hR⟩
   ·rw [hll] at hin
    have:=(qP.1 (Pe D hin).1).1;omega
   ·rcases gK.1 Pf with rfl | hin
    ·exact ⟨hDm,gL hF.size Kb,Kz _ hDm Kb⟩
    ·exact e3 D' hin
 case stop =>
  intro D c pre W _ _ h _;exact h.elim
end KV
end Go.Proofs
end
namespace Go.Proofs
namespace KV
open Tryz
section

theorem cMl(dc:Lqq){base:Nat}:FV Tp 89 [.p (fS dc)] base (aSh dc) []:=cMm
theorem kK{dl:Int}{sk dc:Lqq}(h:cK dl sk dc):bZ (aC dc):=by
 have hm:∀ x,x∈aC dc↔x∈dc:=fun x=>(dO dc).mem_iff
 refine ⟨mU h.ud,by rw [eI];have:=h.len2;omega,fun x hx=>h.hdc x ((hm x).1 hx),?_,fun x hx=>h.ord x ((hm x).1 hx)⟩
 have hn:(aZ (aC dc) 0).Nodup:=((dO dc).map _).nodup_iff.2 h.nd;have hs:=qZ dc;unfold aZ at hn
 rw [List.Nodup,List.pairwise_map] at hn
 exact (hs.and hn).imp fun ⟨h1,h2⟩=>by
  show _<_;unfold dN;omega
theorem bZu{dl:Int}{sk dc:Lqq}(h0:cK dl sk dc)(h1:bZ (aC dc)){base:Nat}:FV Tp 45 [(.p (.agg (kF dl sk dc)))] base (.tup [(.rp [(aA dl),(.sl ((aC sk).length) ((aC sk).flatten.map aA)),(.sl ((aC dc).length) ((aC dc).flatten.map aA)),(.mp (atF (aC dc).reverse)),(.mp (abE (aC dc)))] 0),(pI 0)]) []:=have k1:=fk 1 (cFj dl sk dc h0) rfl;have k2:=fk 6 (cMl (aC dc)) rfl;FV.fi func45 [k1.o,bF,k2.o,.k 1 (gI [0,6,7,20,28,29] [5,4,2,3]) .normal ⟨fr 57 [(6,(.ptr 0 0))],aBo dl (aC sk) (aC dc)⟩,.g 1 ⟨[],[0],[2,1],[]⟩] (gt (aB Tp 0 (sub (cd Tryz.f45) [1,1,1,1,0,1,0]) ⟨fr 57 [(6,(.ptr 0 0)),(27,aSh (aC dc))],mF dl (aC sk) (aC dc)⟩ .normal ⟨fr 57 [(6,(.ptr 0 0))],aBo dl (aC sk) (aC dc)⟩) (bTb dl (aC sk) (aC dc) h1) (gc k2 (gt (((0:Int) != 0)=false) (by first | decide | simp) (gc k1 gn))))
abbrev cC(dl:Int)(sk dc:Lqq):List PV:=[aA dl,.sl sk.length (sk.flatten.map aA),.sl dc.length (dc.flatten.map aA),.mp (atF dc.reverse),.mp (abE dc)]
theorem yF(dl:Int)(sk dc:Lqq)(h:cK dl sk dc){base:Nat}:FV Tp 45 [.p (.agg (kF dl sk dc))] base (.tup [.rp (cC dl (aC sk) (aC dc)) 0,.p (aA 0)]) []:=bZu h (kK h)
end
section
section
variable {P:Program} {k:Nat} {b:Code} {β:Type}
theorem aF.ex{e:Ex}(S:Nat→β→St)(R:β→St)(Inv:Nat→β→Prop)(he:e ≠ .normal)(n:Nat)
  (hs:∀ (i:Nat) (acc:β),i<n→Inv i acc→∃ Bv,Inv (i+1) Bv∧aB P k b (S i acc) .normal (S (i+1) Bv))
  (hx:∀ acc,Inv n acc→aB P k b (S n acc) e (R acc)) {acc:β} (h0:Inv 0 acc):∃ Bv,Inv n Bv∧aF P k b (S 0 acc) e (R Bv):=by
 have key:∀ (d i:Nat) (acc:β),i+d=n→Inv i acc→∃ Bv,Inv n Bv∧aF P k b (S i acc) e (R Bv):=by
  intro d
  induction d with
  | zero =>
   intro i acc hi h;obtain rfl:i=n:=by omega
   exact ⟨acc,h,.exit (hx acc h) he⟩
  | succ d ih =>
   intro i acc hi h;obtain ⟨Jn,h1,c1⟩:=hs i acc (by omega) h
   obtain ⟨Se,h2,c2⟩:=ih (i+1) Jn (by omega) h1
   exact ⟨Se,h2,.step c1 c2⟩
 exact key n 0 acc (by omega) h0
theorem aF.exF{e1 e2:Ex}(S R1:Nat→β→St)(R2:β→St)(Inv:β→Prop)(h1:e1 ≠ .normal)(h2:e2 ≠ .normal)(p:Nat→Bool)(n:Nat)
  (hs:∀ (i:Nat) (acc:β),i<n→Inv acc→p i=false→∃ Bv,Inv Bv∧aB P k b (S i acc) .normal (S (i+1) Bv))
  (hq:∀ (i:Nat) (acc:β),i<n→Inv acc→p i=true→∃ Bv,Inv Bv∧aB P k b (S i acc) e1 (R1 i Bv))
  (hx:∀ acc,Inv acc→aB P k b (S n acc) e2 (R2 acc)) {acc:β} (h0:Inv acc) :
  (∃ i Bv,i<n∧p i=true∧(∀ j,j<i→p j=false)∧Inv Bv∧aF P k b (S 0 acc) e1 (R1 i Bv))∨((∀ j,j<n→p j=false)∧∃ Bv,Inv Bv∧aF P k b (S 0 acc) e2 (R2 Bv)):=by
 have key:∀ (d i:Nat) (acc:β),i+d=n→Inv acc→(∀ j,j<i→p j=false)→(∃ i' Bv,i'<n∧p i'=true∧(∀ j,j<i'→p j=false)∧Inv Bv∧aF P k b (S i acc) e1 (R1 i' Bv))∨((∀ j,j<n→p j=false)∧∃ Bv,Inv Bv∧aF P k b (S i acc) e2 (R2 Bv)):=by
  intro d
  induction d with
  | zero =>
   intro i acc hi h hj;obtain rfl:i=n:=by omega
   exact .inr ⟨hj,acc,h,.exit (hx acc h) h2⟩
  | succ d ih =>
   intro i acc hi h hj;cases hp:p i with
   | true =>
    obtain ⟨Jn,q1,c1⟩:=hq i acc (by omega) h hp
    exact .inl ⟨i,Jn,by omega,hp,hj,q1,.exit c1 h1⟩
   | false =>
    obtain ⟨Jn,q1,c1⟩:=hs i acc (by omega) h hp
    rcases ih (i+1) Jn (by omega) q1 (fun j Ec=>by
     rcases Nat.lt_or_ge j i with h3 | h3
     ·exact hj j h3
     ·obtain rfl:j=i:=by omega
      exact hp) with ⟨i',Bv,r1,r2,r3,r4,r5⟩ | ⟨r1,Bv,r2,r3⟩
    ·exact .inl ⟨i',Bv,r1,r2,r3,r4,.step c1 r5⟩
    ·exact .inr ⟨r1,Bv,r2,.step c1 r3⟩
 exact key n 0 acc (by omega) h0 (fun j hj=>absurd hj (bRe _))
end
def aN(T:Lqb):List (Value × PV):=T.map fun p=>(.int .i64 p.1,blP p.2)
theorem bKs(T:Lqb)(n:Int)(b:Bool):aN (T++[(n,b)])=aN T++[(.int .i64 n,blP b)]:=by simp [aN]
structure cE (dl:Int) (oc:List Int) (dc:Lqq) (T:Lqb):Prop where
 nd:(T.map (·.1)).Nodup
 ok:∀ p∈T,∃ x∈dc,dN x=p.1∧dX dl oc dc x=p.2
section
variable {dl:Int} {oc:List Int} {dc:Lqq} {T:Lqb}
theorem cE.nil:cE dl oc dc []:=⟨by simp,fun p hp=>by cases hp⟩
theorem eX(h:bZ dc){x:List Int}(hx:x∈dc):1≤dN x∧dN x≤9999:=(lM.1 (h.rng x hx)).1
theorem aCs(h:bZ dc){x y:List Int}(hx:x∈dc)(hy:y∈dc)(e:dN x=dN y):x=y:=by
 obtain ⟨i,hi,rfl⟩:=List.mem_iff_getElem.1 hx;obtain ⟨j,hj,rfl⟩:=List.mem_iff_getElem.1 hy;have hu:=List.pairwise_iff_getElem.1 h.up
 rcases Nat.lt_trichotomy i j with q | q | q
 ·have:=hu i j hi hj q;omega
 ·subst q;rfl
 ·have:=hu j i hj hi q;omega
theorem cE.keys(h:cE dl oc dc T)(hd:bZ dc){n:Int}(hn:1≤n∧n≤9999):cG .i64 (aN T) (.int .i64 n):=by
 refine ⟨fun e he => ?_,oN (by omega),?_⟩
 ·obtain ⟨p,hp,rfl⟩:=Bq.1 he
  obtain ⟨x,hx,e1,_⟩:=h.ok p hp;have:=eX hd hx;exact oN (by omega)
 ·have:(aN T).map (fun e=>iU e.1)=T.map (·.1):=by
   unfold aN;rw [uT];rfl
  rw [this];exact h.nd
theorem bEj{n:Int}:dU (aN T) (.int .i64 n)=T.any fun p=>p.1 == n:=by
 unfold dU aN;rw [List.any_map]
 congr 1
theorem bSw{n:Int}:gP (aN T) (.int .i64 n)=(T.find? fun p=>p.1 == n).map fun p=>blP p.2:=by
 unfold gP aN
 induction T with
 | nil=>rfl
 | cons p T ih =>
  rw [iB,List.find?_cons,List.find?_cons];have e:(decide (iU ((Value.int IntKind.i64 p.1,blP p.2):Value × PV).1=iU (Value.int IntKind.i64 n)))=(p.1 == n):=by
   show decide (p.1=n)=(p.1 == n);rw [Bool.eq_iff_iff];simp
  rw [e];cases p.1 == n with
  | true=>rfl
  | false=>exact ih
theorem cE.look(h:cE dl oc dc T)(hd:bZ dc){x:List Int}(hx:x∈dc)(hh:dU (aN T) (.int .i64 (dN x))=true):gP (aN T) (.int .i64 (dN x))=some (blP (dX dl oc dc x)):=by
 rw [bEj] at hh
 rw [bSw];cases hf:T.find? fun p=>p.1 == dN x with
 | none =>
  obtain ⟨p,h1,h2⟩:=List.any_eq_true.1 hh;exact absurd h2 (aHx.1 hf p h1)
 | some p =>
  have h1:=xV hf;have h2:p.1=dN x:=by simpa using aXf hf
  obtain ⟨y,hy,e1,e2⟩:=h.ok p h1;rw [aCs hd hy hx (e1.trans h2)] at e2
  rw [e2];rfl
theorem cE.again(h:cE dl oc dc T)(hd:bZ dc){x:List Int}(hx:x∈dc):qA (aN T) (.int .i64 (dN x)) (blP (dX dl oc dc x))=aN T:=by
 have:∀ T':Lqb,(∀ p∈T',∃ x∈dc,dN x=p.1∧dX dl oc dc x=p.2)→qA (aN T') (.int .i64 (dN x)) (blP (dX dl oc dc x))=aN T':=by
  intro T'
  induction T' with
  | nil=>intro _;rfl
  | cons p T' ih =>
   intro hp;show (if p.1=dN x then ((.int .i64 (dN x),blP (dX dl oc dc x))::aN T':List (Value × PV)) else (.int .i64 p.1,blP p.2)::qA (aN T') (.int .i64 (dN x)) (blP (dX dl oc dc x)))=(.int .i64 p.1,blP p.2)::aN T'
   by_cases e:p.1=dN x
   ·rw [if_pos e]
    obtain ⟨y,hy,e1,e2⟩:=hp p (iN ..);rw [aCs hd hy hx (e1.trans e)] at e2
    rw [e,e2]
   ·rw [if_neg e,ih fun q hq=>hp q (Cj _ hq)]
 exact this T h.ok
theorem cE.put(h:cE dl oc dc T){x:List Int}(hx:x∈dc)(hh:dU (aN T) (.int .i64 (dN x))=false):cE dl oc dc (T++[(dN x,dX dl oc dc x)]):=by
 rw [bEj] at hh
 refine ⟨?_,fun p hp => ?_⟩
 ·rw [iV,List.nodup_append]
  refine ⟨h.nd,by simp,fun a ha b hb e => ?_⟩
  simp only [iB,List.map_nil,List.mem_singleton] at hb
  obtain ⟨p,hp,rfl⟩:=Bq.1 ha;have:=List.any_eq_false.1 hh p hp;rw [e,hb] at this
  simp at this
 ·rcases fV.1 hp with hp | hp
  ·exact h.ok p hp
  ·rw [List.mem_singleton.1 hp]
   exact ⟨x,hx,rfl,rfl⟩
end
end
section
variable {b6 is r0 Bd Ky Iw Iy:Bool}{k c0 c1 c2 c3 c4 c5 x0 x1 x2 x3 x4 x5 z0 z1 z2 z3 z4 z5 c0'4 c0'5 c1'5 c1'6 c2'6 c2'7 c3'7 c3'8 c4'8 c4'9 c5'9 Aa Ab Af Ah Ag Ai c5'10:Int}{T t T7 t' D9 Ew I4 T107 T109:Lqb}{l y0 Ud Nr Ue:Lqq}{i n i' Aw Hv Cp Uf Ns Ug base:Nat}{ov:PV}
variable {dl:Int}{sk dc:Lqq}

noncomputable abbrev jF:Code:=sub (cd Tryz.f100) [1,1,1,0,1,0,0]
noncomputable abbrev kJ:Code:=sub (cd Tryz.f99) [1,0,1,0,0]
abbrev sX(dl:Int)(sk dc:Lqq):AV := .rp (cC dl sk dc) 0
abbrev cY(dl:Int)(sk dc:Lqq)(ov:PV)(T:Lqb):Mem:=[some (.box 106 [(sX dl sk dc)]),some (.box 31 [(.p ov)]),some (.box 119 [(.fn 100 [] [(.ptr 4 0),(.ptr 5 0),(.ptr 0 0),(.ptr 2 0)]),(.fn 102 [] [(.ptr 6 0)]),(.fn 103 [] [(.ptr 2 0),(.ptr 1 0)]),(.fn 106 [] [(.ptr 2 0)]),(.fn 104 [] [(.ptr 6 0)])]),some (.mp (aN T) T.length),some (.box 183 [(.mp 3)]),some (.box 115 [(.fn 98 [(sX dl sk dc)] [])]),some (.box 185 [(.fn 99 [] [(.ptr 0 0),(.ptr 2 0)])])]
abbrev zY:AV:=(.agg [(.fn 100 [] [(.ptr 4 0),(.ptr 5 0),(.ptr 0 0),(.ptr 2 0)]),(.fn 102 [] [(.ptr 6 0)]),(.fn 103 [] [(.ptr 2 0),(.ptr 1 0)]),(.fn 106 [] [(.ptr 2 0)]),(.fn 104 [] [(.ptr 6 0)])])
abbrev Hw(dl:Int)(sk dc:Lqq):AO:=.box 106 [.rp (cC dl sk dc) 0]
abbrev G9:AO:=.box 119 [(.fn 100 [] [(.ptr 4 0),(.ptr 5 0),(.ptr 0 0),(.ptr 2 0)]),(.fn 102 [] [(.ptr 6 0)]),(.fn 103 [] [(.ptr 2 0),(.ptr 1 0)]),(.fn 106 [] [(.ptr 2 0)]),(.fn 104 [] [(.ptr 6 0)])]
abbrev Hy(dl:Int)(sk dc:Lqq):AO:=.box 115 [.fn 98 [.rp (cC dl sk dc) 0] []]
abbrev Hz:AO:=.box 185 [(.fn 99 [] [(.ptr 0 0),(.ptr 2 0)])]
abbrev vU(dl:Int)(sk dc:Lqq)(ov:PV)(T:Lqb):Upd:=[(0,Hw dl sk dc),(1,.box 31 [.p ov]),(2,G9),(3,.mp (aN T) T.length),(4,.box 183 [.mp 3]),(5,Hy dl sk dc),(6,Hz)]
abbrev sY(dl:Int)(sk dc:Lqq)(ov:PV)(x:List Int)(b:Bool)(T T2:Lqb):Prop:=FMM Tp 100 [.p (.agg (x.map aA)),.ptr 4 0,.ptr 5 0,.ptr 0 0,.ptr 2 0] (cY dl sk dc ov T) (pB b) (cY dl sk dc ov T2)
abbrev cHg(g:Nat)(dl:Int)(sk dc:Lqq)(ov:PV)(x z:List Int)(b:Bool)(T T2:Lqb):Prop:=FMM Tp 99 [.p (.agg (x.map aA)),.fn g [] [],.ptr 0 0,.ptr 2 0] (cY dl sk dc ov T) (.tup [.p (.agg (z.map aA)),.p (blP b)]) (cY dl sk dc ov T2)
abbrev aRz(dl:Int)(sk dc:Lqq)(ov:PV)(x z:List Int)(b:Bool)(T T2:Lqb):Prop:=FMM Tp 102 [.p (.agg (x.map aA)),.ptr 6 0] (cY dl sk dc ov T) (.tup [.p (.agg (z.map aA)),.p (blP b)]) (cY dl sk dc ov T2)
abbrev cHh(dl:Int)(sk dc:Lqq)(ov:PV)(x z:List Int)(b:Bool)(T T2:Lqb):Prop:=FMM Tp 104 [.p (.agg (x.map aA)),.ptr 6 0] (cY dl sk dc ov T) (.tup [.p (.agg (z.map aA)),.p (blP b)]) (cY dl sk dc ov T2)
abbrev bZj(dl:Int)(sk dc:Lqq)(ov:PV)(x:List Int)(b:Bool)(T T2:Lqb):Prop:=FMM Tp 103 [.p (.agg (x.map aA)),.ptr 2 0,.ptr 1 0] (cY dl sk dc ov T) (pB b) (cY dl sk dc ov T2)
abbrev aCk(dl:Int)(sk dc:Lqq)(ov:PV)(x:List Int)(m:Int)(T T2:Lqb):Prop:=FMM Tp 106 [.p (.agg (x.map aA)),.ptr 2 0] (cY dl sk dc ov T) (pI m) (cY dl sk dc ov T2)
theorem bZk(h0:k=8):FV Tp 101 [(pI k)] base (pB true) []:=FV.fi func101 [bT,bT,bT] (Ay (cT h0) gn)
theorem bZl(h0:k≠8)(Aq:r0=(k == 9)):FV Tp 101 [(pI k)] base (pB r0) []:=by
 subst Aq;exact FV.fi func101 [bF,bF,bF] (Ay (bE h0) gn)
theorem bZm(Aq:r0=(k == 6)):FV Tp 105 [(pI k)] base (pB r0) []:=by
 subst Aq;exact FV.fi func105 [] gn
theorem cHi(h0:k=4):FV Tp 90 [(pI k)] base (pB true) []:=FV.fi func90 [bT,bT,bT] (Ay (cT h0) gn)
theorem cHj(h0:k≠4)(Aq:r0=(k == 7)):FV Tp 90 [(pI k)] base (pB r0) []:=by
 subst Aq;exact FV.fi func90 [bF,bF,bF] (Ay (bE h0) gn)
theorem oC(k:Int){base:Nat}:FV Tp 101 [.p (aA k)] base (pB (cU k)) []:=by
 by_cases h:k=8
 ·rw [show cU k=true by simp [cU,h]];exact bZk h
 ·exact bZl h (by simp [cU,h])
theorem aNl(k:Int){base:Nat}:FV Tp 105 [.p (aA k)] base (pB (k == 6)) []:=bZm rfl
theorem zZ(k:Int){base:Nat}:FV Tp 90 [.p (aA k)] base (pB (jR k)) []:=by
 by_cases h:k=4
 ·rw [show jR k=true by simp [jR,h]];exact cHi h
 ·exact cHj h (by simp [jR,h])
theorem cHk(h0:(jR x1)=true)(Aq:r0=(decide (x2 > dl))):FV Tp 98 [(.rp (cC dl sk dc) 0),(.p (dcE x0 x1 x2 x3 x4 x5))] base (pB r0) []:=by
 subst Aq;exact FV.fi func98 ([.c (pB (jR x1)) []]++rT 7++[.x (aA dl),bT,bT]) (Az h0 (gr (aA dl) (Et h0 (gc (fk 1 (zZ x1) rfl) gn))))
theorem cHl(h0:(jR x1)=false):FV Tp 98 [(.rp (cC dl sk dc) 0),(.p (dcE x0 x1 x2 x3 x4 x5))] base (pB false) []:=FV.fi func98 ([.c (pB (jR x1)) []]++rF 9) (Ia h0 (gc h0 (gc (fk 1 (zZ x1) rfl) gn)))
theorem aNm(dl:Int)(sk dc:Lqq)(x0 x1 x2 x3 x4 x5:Int){base:Nat}:FV Tp 98 [sX dl sk dc,.p (.agg [aA x0,aA x1,aA x2,aA x3,aA x4,aA x5])] base (pB (vG dl [x0,x1,x2,x3,x4,x5])) []:=by
 cases h:jR x1 with
 | true=>exact cHk h (by show (jR x1 && decide (dl<x2))=_;rw [h];rfl)
 | false=>rw [show vG dl [x0,x1,x2,x3,x4,x5]=false by show (jR x1 && decide (dl<x2))=_;rw [h];rfl];exact cHl h
abbrev wJ(ov:PV)(n:Int)(b:Bool):Prop:=∀ base:Nat,FV Tp 22 [.p ov,.p (aA n)] base (pB b) []
def dV(dl:Int)(sk dc:Lqq)(ov:PV)(i:Nat)(l:Lqq)(n:Nat)(te:List (Value × PV))(tk:Nat)(c0 c1 c2 c3 c4 c5:Int):St:=⟨fr 35 [(1,(.fn 101 [] [])),(3,(.ptr 2 0)),(6,(.ptr 7 0)),(16,(.p (fS l))),(17,(pI (n:Int))),(18,(pI (i:Int)))],[some (Hw dl sk dc),some (.box 31 [(.p ov)]),some G9,some (.mp te tk),some (.box 183 [(.mp 3)]),some (Hy dl sk dc),some Hz,some (.box 84 [(pI c0),(pI c1),(pI c2),(pI c3),(pI c4),(pI c5)])]⟩
section
variable(h0:cG .i64 (abE dc) (.int .i64 x0))(h1:(dU (abE dc) (.int .i64 x0))=true)(h2:gP (abE dc) (.int .i64 x0)=some (fS y0))
include h0 h1 h2
theorem bZn(B6:aF Tp 7 kJ (dV dl sk dc ov 0 y0 y0.length (aN T) T.length 0 0 0 0 0 0) (.exit 0) (dV dl sk dc ov Hv Nr Ns (aN Ew) Ew.length c0'5 c1'6 c2'7 c3'8 c4'9 c5'10)):FMM Tp 99 [(.p (dcE x0 x1 x2 x3 x4 x5)),(.fn 101 [] []),(.ptr 0 0),(.ptr 2 0)] (cY dl sk dc ov T) (.tup [(.p (dcE 0 0 0 0 0 0)),(pB false)]) (cY dl sk dc ov Ew):=FMM.fi 7 gE func99 [.x (.mp (abE dc)),bT,.x (fS y0),B6.k 1 (gI bp [8])] (gc B6.code (gc h2 (gc h1 (gc h0 (gr (.mp (abE dc)) gn)))))
theorem bZo(B6:aF Tp 7 kJ (dV dl sk dc ov 0 y0 y0.length (aN T) T.length 0 0 0 0 0 0) .ret (cD (dV dl sk dc ov Hv Nr Ns (aN Ew) Ew.length c0'5 c1'6 c2'7 c3'8 c4'9 c5'10) [(7,(.kb true))])):FMM Tp 99 [(.p (dcE x0 x1 x2 x3 x4 x5)),(.fn 101 [] []),(.ptr 0 0),(.ptr 2 0)] (cY dl sk dc ov T) (.tup [(.p (dcE c0'5 c1'6 c2'7 c3'8 c4'9 c5'10)),(pB true)]) (cY dl sk dc ov Ew):=FMM.fi 7 gE func99 [.x (.mp (abE dc)),bT,.x (fS y0),B6.k 1 (gI bp [8])] (gc B6.code (gc h2 (gc h1 (gc h0 (gr (.mp (abE dc)) gn)))))
end
theorem bZp(h0:cG .i64 (abE dc) (.int .i64 x0))(h1:(dU (abE dc) (.int .i64 x0))=false)(hl2:aF Tp 7 kJ (dV dl sk dc ov 0 ([]:Lqq) 0 (aN T) T.length 0 0 0 0 0 0) (.exit 0) (dV dl sk dc ov Aw Ud Uf (aN D9) D9.length c0'4 c1'5 c2'6 c3'7 c4'8 c5'9)):FMM Tp 99 [(.p (dcE x0 x1 x2 x3 x4 x5)),(.fn 101 [] []),(.ptr 0 0),(.ptr 2 0)] (cY dl sk dc ov T) (.tup [(.p (dcE 0 0 0 0 0 0)),(pB false)]) (cY dl sk dc ov D9):=FMM.fi 7 gE func99 [.x (.mp (abE dc)),bF,hl2.k 1 (gN bp [8] [(16,99999)])] (gc hl2.code (gc h1 (gc h0 (gr (.mp (abE dc)) gn))))
section
variable(h0:(i:Int)<(n:Int))(h1:l[i]? = some [Aa,Ab,Af,Ah,Ag,Ai])(h2:uni 6 l)
include h0 h1 h2
theorem aYr(h3:(cU Ab)=true)(h4:sY dl sk dc ov [Aa,Ab,Af,Ah,Ag,Ai] Bd t T107)(h5:Bd=true)(A2:aN t'=(aN T107))(A3:t'.length=T107.length):aB Tp 7 kJ (dV dl sk dc ov i l n (aN t) t.length c0 c1 c2 c3 c4 c5) .ret (cD (dV dl sk dc ov i l n (aN t') t'.length Aa Ab Af Ah Ag Ai) [(7,(.kb true))]):=by
 have k1:=fk 9 (oC Ab) rfl;have k2:=mq cu 9 h4;rw [A2,A3];exact aB.fi (gI [0,1,2,1,4,2,8,8,19,15] [7]) [bT,.x (dcE Aa Ab Af Ah Ag Ai),k1.o,bT,bT,bT,bT,k2.o,bT,bT] (gc h5 (gc h3 (gc k2 (A4 h3 (gc k1 (gfl h2 h1 (g0 h0)))))))
theorem aYs(h3:(cU Ab)=true)(h4:sY dl sk dc ov [Aa,Ab,Af,Ah,Ag,Ai] Bd t T107)(h5:Bd=false)(h6:dv i)(Ak:i'=(i+1))(A2:aN t'=(aN T107))(A3:t'.length=T107.length):aB Tp 7 kJ (dV dl sk dc ov i l n (aN t) t.length c0 c1 c2 c3 c4 c5) .normal (dV dl sk dc ov i' l n (aN t') t'.length c0 c1 c2 c3 c4 c5):=by
 subst Ak;have k1:=fk 9 (oC Ab) rfl;have k2:=mq cu 9 h4;rw [A2,A3];exact aB.fi (gI bp [7]) [bT,.x (dcE Aa Ab Af Ah Ag Ai),k1.o,bT,bT,bT,bT,k2.o,bT,bF] (gc h6 (gc h5 (gc h3 (gc k2 (A4 h3 (gc k1 (gfl h2 h1 (g0 h0))))))))
theorem aYt(h3:(cU Ab)=false)(h4:dv i)(Ak:i'=(i+1)):aB Tp 7 kJ (dV dl sk dc ov i l n (aN t) t.length c0 c1 c2 c3 c4 c5) .normal (dV dl sk dc ov i' l n (aN t) t.length c0 c1 c2 c3 c4 c5):=by
 subst Ak;have k1:=fk 9 (oC Ab) rfl;exact aB.fi (gI bp [7]) ([bT,.x (dcE Aa Ab Af Ah Ag Ai),k1.o]++rF 5) (gc h4 (Cf h3 (gc k1 (gfl h2 h1 (g0 h0)))))
end
theorem aYu(h0:(n:Int)≤(i:Int)):aB Tp 7 kJ (dV dl sk dc ov i l n (aN t) t.length c0 c1 c2 c3 c4 c5) (.exit 0) (dV dl sk dc ov i l n (aN t) t.length c0 c1 c2 c3 c4 c5):=aB.fi (gI bp [7]) [bF] (gc (aQ h0) gn)
def dW(dl:Int)(sk dc:Lqq)(ov:PV)(i:Nat)(l:Lqq)(n:Nat)(te:List (Value × PV))(tk:Nat)(c0 c1 c2 c3 c4 c5:Int):St:=⟨fr 35 [(1,(.fn 105 [] [])),(3,(.ptr 2 0)),(6,(.ptr 7 0)),(16,(.p (fS l))),(17,(pI (n:Int))),(18,(pI (i:Int)))],[some (Hw dl sk dc),some (.box 31 [(.p ov)]),some G9,some (.mp te tk),some (.box 183 [(.mp 3)]),some (Hy dl sk dc),some Hz,some (.box 84 [(pI c0),(pI c1),(pI c2),(pI c3),(pI c4),(pI c5)])]⟩
section
variable(h0:cG .i64 (abE dc) (.int .i64 x0))(h1:(dU (abE dc) (.int .i64 x0))=true)(h2:gP (abE dc) (.int .i64 x0)=some (fS y0))
include h0 h1 h2
theorem bZq(B6:aF Tp 7 kJ (dW dl sk dc ov 0 y0 y0.length (aN T) T.length 0 0 0 0 0 0) (.exit 0) (dW dl sk dc ov Hv Nr Ns (aN Ew) Ew.length c0'5 c1'6 c2'7 c3'8 c4'9 c5'10)):FMM Tp 99 [(.p (dcE x0 x1 x2 x3 x4 x5)),(.fn 105 [] []),(.ptr 0 0),(.ptr 2 0)] (cY dl sk dc ov T) (.tup [(.p (dcE 0 0 0 0 0 0)),(pB false)]) (cY dl sk dc ov Ew):=FMM.fi 7 gE func99 [.x (.mp (abE dc)),bT,.x (fS y0),B6.k 1 (gI bp [8])] (gc B6.code (gc h2 (gc h1 (gc h0 (gr (.mp (abE dc)) gn)))))
theorem bZr(B6:aF Tp 7 kJ (dW dl sk dc ov 0 y0 y0.length (aN T) T.length 0 0 0 0 0 0) .ret (cD (dW dl sk dc ov Hv Nr Ns (aN Ew) Ew.length c0'5 c1'6 c2'7 c3'8 c4'9 c5'10) [(7,(.kb true))])):FMM Tp 99 [(.p (dcE x0 x1 x2 x3 x4 x5)),(.fn 105 [] []),(.ptr 0 0),(.ptr 2 0)] (cY dl sk dc ov T) (.tup [(.p (dcE c0'5 c1'6 c2'7 c3'8 c4'9 c5'10)),(pB true)]) (cY dl sk dc ov Ew):=FMM.fi 7 gE func99 [.x (.mp (abE dc)),bT,.x (fS y0),B6.k 1 (gI bp [8])] (gc B6.code (gc h2 (gc h1 (gc h0 (gr (.mp (abE dc)) gn)))))
end
theorem bZs(h0:cG .i64 (abE dc) (.int .i64 x0))(h1:(dU (abE dc) (.int .i64 x0))=false)(hl2:aF Tp 7 kJ (dW dl sk dc ov 0 ([]:Lqq) 0 (aN T) T.length 0 0 0 0 0 0) (.exit 0) (dW dl sk dc ov Aw Ud Uf (aN D9) D9.length c0'4 c1'5 c2'6 c3'7 c4'8 c5'9)):FMM Tp 99 [(.p (dcE x0 x1 x2 x3 x4 x5)),(.fn 105 [] []),(.ptr 0 0),(.ptr 2 0)] (cY dl sk dc ov T) (.tup [(.p (dcE 0 0 0 0 0 0)),(pB false)]) (cY dl sk dc ov D9):=FMM.fi 7 gE func99 [.x (.mp (abE dc)),bF,hl2.k 1 (gN bp [8] [(16,99999)])] (gc hl2.code (gc h1 (gc h0 (gr (.mp (abE dc)) gn))))
section
variable(h0:(i:Int)<(n:Int))(h1:l[i]? = some [Aa,Ab,Af,Ah,Ag,Ai])(h2:uni 6 l)
include h0 h1 h2
theorem aYv(h3:(Ab == 6)=true)(h4:sY dl sk dc ov [Aa,Ab,Af,Ah,Ag,Ai] Bd t T107)(h5:Bd=true)(A2:aN t'=(aN T107))(A3:t'.length=T107.length):aB Tp 7 kJ (dW dl sk dc ov i l n (aN t) t.length c0 c1 c2 c3 c4 c5) .ret (cD (dW dl sk dc ov i l n (aN t') t'.length Aa Ab Af Ah Ag Ai) [(7,(.kb true))]):=by
 have k1:=mq cu 9 h4;rw [A2,A3];exact aB.fi (gI [0,1,2,1,4,2,8,8,19,15] [7]) [bT,.x (dcE Aa Ab Af Ah Ag Ai),.c (pB (Ab == 6)) [],bT,bT,bT,bT,k1.o,bT,bT] (gc h5 (gc h3 (gc k1 (A4 h3 (gc (fk 9 (aNl Ab) rfl) (gfl h2 h1 (g0 h0)))))))
theorem aYw(h3:(Ab == 6)=true)(h4:sY dl sk dc ov [Aa,Ab,Af,Ah,Ag,Ai] Bd t T107)(h5:Bd=false)(h6:dv i)(Ak:i'=(i+1))(A2:aN t'=(aN T107))(A3:t'.length=T107.length):aB Tp 7 kJ (dW dl sk dc ov i l n (aN t) t.length c0 c1 c2 c3 c4 c5) .normal (dW dl sk dc ov i' l n (aN t') t'.length c0 c1 c2 c3 c4 c5):=by
 subst Ak;have k1:=mq cu 9 h4;rw [A2,A3];exact aB.fi (gI bp [7]) [bT,.x (dcE Aa Ab Af Ah Ag Ai),.c (pB (Ab == 6)) [],bT,bT,bT,bT,k1.o,bT,bF] (gc h6 (gc h5 (gc h3 (gc k1 (A4 h3 (gc (fk 9 (aNl Ab) rfl) (gfl h2 h1 (g0 h0))))))))
theorem aYx(h3:(Ab == 6)=false)(h4:dv i)(Ak:i'=(i+1)):aB Tp 7 kJ (dW dl sk dc ov i l n (aN t) t.length c0 c1 c2 c3 c4 c5) .normal (dW dl sk dc ov i' l n (aN t) t.length c0 c1 c2 c3 c4 c5):=by
 subst Ak;exact aB.fi (gI bp [7]) ([bT,.x (dcE Aa Ab Af Ah Ag Ai),.c (pB (Ab == 6)) []]++rF 5) (gc h4 (Cf h3 (gc (fk 9 (aNl Ab) rfl) (gfl h2 h1 (g0 h0)))))
end
theorem aYy(h0:(n:Int)≤(i:Int)):aB Tp 7 kJ (dW dl sk dc ov i l n (aN t) t.length c0 c1 c2 c3 c4 c5) (.exit 0) (dW dl sk dc ov i l n (aN t) t.length c0 c1 c2 c3 c4 c5):=aB.fi (gI bp [7]) [bF] (gc (aQ h0) gn)
def cnt_S0(dl:Int)(sk dc:Lqq)(ov:PV)(x0 x1 x2 x3 x4 x5:Int)(is:Bool)(i:Nat)(l:Lqq)(n:Nat)(te:List (Value × PV))(tk:Nat):St:=⟨fr 79 [(1,(.ptr 4 0)),(4,(.ptr 2 0)),(5,(.ptr 7 0)),(6,(.kb false)),(9,(pB is)),(32,(.p (fS l))),(33,(pI (n:Int))),(34,(pI (i:Int)))],[some (Hw dl sk dc),some (.box 31 [(.p ov)]),some G9,some (.mp te tk),some (.box 183 [(.mp 3)]),some (Hy dl sk dc),some Hz,some (.box 84 [(pI x0),(pI x1),(pI x2),(pI x3),(pI x4),(pI x5)])]⟩
theorem cnt_p0{y0:Bool}(h0:cG .i64 (aN T) (.int .i64 x0))(h1:(dU (aN T) (.int .i64 x0))=true)(h2:gP (aN T) (.int .i64 x0)=some (blP y0)):FMM Tp 100 [(.p (dcE x0 x1 x2 x3 x4 x5)),(.ptr 4 0),(.ptr 5 0),(.ptr 0 0),(.ptr 2 0)] (cY dl sk dc ov T) (pB y0) (cY dl sk dc ov T):=FMM.fi 7 gE func100 [bT,.x (blP y0)] (gc h2 (gc h1 (gc h0 gn)))
section
variable(h0:cG .i64 (aN T) (.int .i64 x0))(h1:(dU (aN T) (.int .i64 x0))=false)(h2:cG .i64 (abE dc) (.int .i64 x0))(h3:(dU (abE dc) (.int .i64 x0))=true)(h4:gP (abE dc) (.int .i64 x0)=some (fS y0))(Fw:aF Tp 7 jF (cnt_S0 dl sk dc ov x0 x1 x2 x3 x4 x5 (!(vG dl [x0,x1,x2,x3,x4,x5])) 0 y0 y0.length (aN T) T.length) (.exit 0) (cnt_S0 dl sk dc ov x0 x1 x2 x3 x4 x5 Iy Cp Ue Ug (aN I4) I4.length))(h6:cG .i64 (aN I4) (.int .i64 x0))
include h0 h1 h2 h3 h4 Fw h6
theorem cHm(h7:(dU (aN I4) (.int .i64 x0))=true):FMM Tp 100 [(.p (dcE x0 x1 x2 x3 x4 x5)),(.ptr 4 0),(.ptr 5 0),(.ptr 0 0),(.ptr 2 0)] (cY dl sk dc ov T) (pB Iy) [some (Hw dl sk dc),some (.box 31 [(.p ov)]),some G9,some (.mp (qA (aN I4) (.int .i64 x0) (blP Iy)) I4.length),some (.box 183 [(.mp 3)]),some (Hy dl sk dc),some Hz]:=have k1:=fk 8 (aNm dl sk dc x0 x1 x2 x3 x4 x5) rfl;FMM.fi 7 gE func100 [bF,k1.o,.x (.mp (abE dc)),bT,.x (fS y0),Fw.k 1 (gI ba [7]),bT] (gc h7 (gc h6 (gc Fw.code (gc h4 (gc h3 (gc h2 (gr (.mp (abE dc)) (gc k1 (gc h1 (gc h0 gn))))))))))
theorem cHn(h7:(dU (aN I4) (.int .i64 x0))=false):FMM Tp 100 [(.p (dcE x0 x1 x2 x3 x4 x5)),(.ptr 4 0),(.ptr 5 0),(.ptr 0 0),(.ptr 2 0)] (cY dl sk dc ov T) (pB Iy) [some (Hw dl sk dc),some (.box 31 [(.p ov)]),some G9,some (.mp ((aN I4)++[((.int .i64 x0),(blP Iy))]) (I4.length+1)),some (.box 183 [(.mp 3)]),some (Hy dl sk dc),some Hz]:=have k1:=fk 8 (aNm dl sk dc x0 x1 x2 x3 x4 x5) rfl;FMM.fi 7 gE func100 [bF,k1.o,.x (.mp (abE dc)),bT,.x (fS y0),Fw.k 1 (gI ba [7]),bF] (gc h7 (gc h6 (gc Fw.code (gc h4 (gc h3 (gc h2 (gr (.mp (abE dc)) (gc k1 (gc h1 (gc h0 gn))))))))))
end
section
variable(h0:cG .i64 (aN T) (.int .i64 x0))(h1:(dU (aN T) (.int .i64 x0))=false)(h2:cG .i64 (abE dc) (.int .i64 x0))(h3:(dU (abE dc) (.int .i64 x0))=false)(Jm:aF Tp 7 jF (cnt_S0 dl sk dc ov x0 x1 x2 x3 x4 x5 (!(vG dl [x0,x1,x2,x3,x4,x5])) 0 ([]:Lqq) 0 (aN T) T.length) (.exit 0) (cnt_S0 dl sk dc ov x0 x1 x2 x3 x4 x5 Iw Hv Nr Ns (aN Ew) Ew.length))(h5:cG .i64 (aN Ew) (.int .i64 x0))
include h0 h1 h2 h3 Jm h5
theorem cHo(h6:(dU (aN Ew) (.int .i64 x0))=true):FMM Tp 100 [(.p (dcE x0 x1 x2 x3 x4 x5)),(.ptr 4 0),(.ptr 5 0),(.ptr 0 0),(.ptr 2 0)] (cY dl sk dc ov T) (pB Iw) [some (Hw dl sk dc),some (.box 31 [(.p ov)]),some G9,some (.mp (qA (aN Ew) (.int .i64 x0) (blP Iw)) Ew.length),some (.box 183 [(.mp 3)]),some (Hy dl sk dc),some Hz]:=have k1:=fk 8 (aNm dl sk dc x0 x1 x2 x3 x4 x5) rfl;FMM.fi 7 gE func100 [bF,k1.o,.x (.mp (abE dc)),bF,Jm.k 1 (gN ba [7] [(32,99999)]),bT] (gc h6 (gc h5 (gc Jm.code (gc h3 (gc h2 (gr (.mp (abE dc)) (gc k1 (gc h1 (gc h0 gn)))))))))
theorem cHp(h6:(dU (aN Ew) (.int .i64 x0))=false):FMM Tp 100 [(.p (dcE x0 x1 x2 x3 x4 x5)),(.ptr 4 0),(.ptr 5 0),(.ptr 0 0),(.ptr 2 0)] (cY dl sk dc ov T) (pB Iw) [some (Hw dl sk dc),some (.box 31 [(.p ov)]),some G9,some (.mp ((aN Ew)++[((.int .i64 x0),(blP Iw))]) (Ew.length+1)),some (.box 183 [(.mp 3)]),some (Hy dl sk dc),some Hz]:=have k1:=fk 8 (aNm dl sk dc x0 x1 x2 x3 x4 x5) rfl;FMM.fi 7 gE func100 [bF,k1.o,.x (.mp (abE dc)),bF,Jm.k 1 (gN ba [7] [(32,99999)]),bF] (gc h6 (gc h5 (gc Jm.code (gc h3 (gc h2 (gr (.mp (abE dc)) (gc k1 (gc h1 (gc h0 gn)))))))))
end
section
variable(h0:(i:Int)<(n:Int))(h1:l[i]? = some [Aa,Ab,Af,Ah,Ag,Ai])(h2:uni 6 l)(h3:Ab=5)
include h0 h1 h2 h3
theorem cnt_L0_p0(h4:is=true)(h5:sY dl sk dc ov [Aa,Ab,Af,Ah,Ag,Ai] Bd t T107)(h6:Bd=true)(h7:dv i)(Ak:i'=(i+1))(A2:aN t'=(aN T107))(A3:t'.length=T107.length):aB Tp 7 jF (cnt_S0 dl sk dc ov x0 x1 x2 x3 x4 x5 is i l n (aN t) t.length) .normal (cnt_S0 dl sk dc ov x0 x1 x2 x3 x4 x5 false i' l n (aN t') t'.length):=by
 subst Ak;have k1:=mq cu 9 h5;rw [A2,A3];exact aB.fi (gN ba [7] [(9,0)]) ([bT,.x (dcE Aa Ab Af Ah Ag Ai)]++rT 8++[k1.o]++rT 11) (gc h7 (gc h6 (gc (cT h3) (gc h6 (A4 (cT h3) (A4 h6 (gc k1 (Az h4 (Lr (cT h3) (gfl h2 h1 (g0 h0)))))))))))
theorem cnt_L0_p1(h4:is=true)(h5:sY dl sk dc ov [Aa,Ab,Af,Ah,Ag,Ai] Bd t T107)(h6:Bd=false)(h7:dv i)(Ak:i'=(i+1))(A2:aN t'=(aN T107))(A3:t'.length=T107.length):aB Tp 7 jF (cnt_S0 dl sk dc ov x0 x1 x2 x3 x4 x5 is i l n (aN t) t.length) .normal (cnt_S0 dl sk dc ov x0 x1 x2 x3 x4 x5 is i' l n (aN t') t'.length):=by
 subst Ak;have k1:=mq cu 9 h5;rw [A2,A3];exact aB.fi (gI ba [7]) ([bT,.x (dcE Aa Ab Af Ah Ag Ai)]++rT 8++[k1.o]++rF 6) (gc h7 (Lr h6 (gc k1 (Az h4 (Lr (cT h3) (gfl h2 h1 (g0 h0)))))))
theorem bKk(h4:is=false)(h5:dv i)(Ak:i'=(i+1)):aB Tp 7 jF (cnt_S0 dl sk dc ov x0 x1 x2 x3 x4 x5 is i l n (aN t) t.length) .normal (cnt_S0 dl sk dc ov x0 x1 x2 x3 x4 x5 is i' l n (aN t) t.length):=by
 subst Ak;exact aB.fi (gI ba [7]) ([bT,.x (dcE Aa Ab Af Ah Ag Ai)]++rT 6++[bF,bF]) (gc h5 (Az h4 (Lr (cT h3) (gfl h2 h1 (g0 h0)))))
end
section
variable(h0:(i:Int)<(n:Int))(h1:l[i]? = some [Aa,Ab,Af,Ah,Ag,Ai])(h2:uni 6 l)(h3:Ab≠5)(h4:Ab=7)(h5:is=true)(h6:(cU x1)=false)(h7:sY dl sk dc ov [Aa,Ab,Af,Ah,Ag,Ai] Bd t T107)
include h0 h1 h2 h3 h4 h5 h6 h7
theorem bKl(h8:Bd=true)(h9:bZj dl sk dc ov [Aa,Ab,Af,Ah,Ag,Ai] Ky T107 T109)(A0:Ky=true)(Bu:dv i)(Ak:i'=(i+1))(A2:aN t'=(aN T109))(A3:t'.length=T109.length):aB Tp 7 jF (cnt_S0 dl sk dc ov x0 x1 x2 x3 x4 x5 is i l n (aN t) t.length) .normal (cnt_S0 dl sk dc ov x0 x1 x2 x3 x4 x5 false i' l n (aN t') t'.length):=by
 subst Ak;have k1:=mq cu 9 h7;have k2:=mq cu 9 h9;rw [A2,A3];exact aB.fi (gN ba [7] [(9,0)]) ([bT,.x (dcE Aa Ab Af Ah Ag Ai),bF,bF,bF,bF,bT,bT,bT,.c (pB (cU x1)) [],bT,bF,bT,bF]++rT 6++[k1.o]++rT 5++[bF,bF,bF,bF,k2.o,bT,bF,bT,bT]) (gc Bu (gc A0 (gc h8 (gc (bE h3) (gc h8 (gc k2 (A4 (bE h3) (A4 h8 (gc (cA h6) (gc k1 (A4 (cA h6) (Az h5 (gc (bE h3) (gc (cT h4) (gc (bE h3) (gc (cT h4) (gc (fk 9 (oC x1) rfl) (Ay (cT h4) (A4 (bE h3) (gfl h2 h1 (g0 h0)))))))))))))))))))))
theorem bKm(h8:Bd=true)(h9:bZj dl sk dc ov [Aa,Ab,Af,Ah,Ag,Ai] Ky T107 T109)(A0:Ky=false)(Bu:dv i)(Ak:i'=(i+1))(A2:aN t'=(aN T109))(A3:t'.length=T109.length):aB Tp 7 jF (cnt_S0 dl sk dc ov x0 x1 x2 x3 x4 x5 is i l n (aN t) t.length) .normal (cnt_S0 dl sk dc ov x0 x1 x2 x3 x4 x5 is i' l n (aN t') t'.length):=by
 subst Ak;have k1:=mq cu 9 h7;have k2:=mq cu 9 h9;rw [A2,A3];exact aB.fi (gI ba [7]) ([bT,.x (dcE Aa Ab Af Ah Ag Ai),bF,bF,bF,bF,bT,bT,bT,.c (pB (cU x1)) [],bT,bF,bT,bF]++rT 6++[k1.o]++rT 5++[bF,bF,bF,bF,k2.o,bT,bF,bT,bF]) (gc Bu (gc A0 (gc h8 (gc (bE h3) (gc h8 (gc k2 (A4 (bE h3) (A4 h8 (gc (cA h6) (gc k1 (A4 (cA h6) (Az h5 (gc (bE h3) (gc (cT h4) (gc (bE h3) (gc (cT h4) (gc (fk 9 (oC x1) rfl) (Ay (cT h4) (A4 (bE h3) (gfl h2 h1 (g0 h0)))))))))))))))))))))
theorem bKn(h8:Bd=false)(h9:dv i)(Ak:i'=(i+1))(A2:aN t'=(aN T107))(A3:t'.length=T107.length):aB Tp 7 jF (cnt_S0 dl sk dc ov x0 x1 x2 x3 x4 x5 is i l n (aN t) t.length) .normal (cnt_S0 dl sk dc ov x0 x1 x2 x3 x4 x5 is i' l n (aN t') t'.length):=by
 subst Ak;have k1:=mq cu 9 h7;rw [A2,A3];exact aB.fi (gI ba [7]) ([bT,.x (dcE Aa Ab Af Ah Ag Ai),bF,bF,bF,bF,bT,bT,bT,.c (pB (cU x1)) [],bT,bF,bT,bF]++rT 6++[k1.o,bT]++rF 6) (gc h9 (Lr h8 (gc (cA h6) (gc k1 (A4 (cA h6) (Az h5 (gc (bE h3) (gc (cT h4) (gc (bE h3) (gc (cT h4) (gc (fk 9 (oC x1) rfl) (Ay (cT h4) (A4 (bE h3) (gfl h2 h1 (g0 h0)))))))))))))))
end
section
variable(h0:(i:Int)<(n:Int))(h1:l[i]? = some [Aa,Ab,Af,Ah,Ag,Ai])(h2:uni 6 l)(h3:Ab≠5)
include h0 h1 h2 h3
theorem bKo(h4:Ab=7)(h5:is=true)(h6:(cU x1)=true)(h7:dv i)(Ak:i'=(i+1)):aB Tp 7 jF (cnt_S0 dl sk dc ov x0 x1 x2 x3 x4 x5 is i l n (aN t) t.length) .normal (cnt_S0 dl sk dc ov x0 x1 x2 x3 x4 x5 is i' l n (aN t) t.length):=by
 subst Ak;exact aB.fi (gI ba [7]) ([bT,.x (dcE Aa Ab Af Ah Ag Ai),bF,bF,bF,bF,bT,bT,bT,.c (pB (cU x1)) [],bT,bF,bT,bF,bT,bT]++rF 5) (gc h7 (Cf (aL h6) (Az h5 (gc (bE h3) (gc (cT h4) (gc (bE h3) (gc (cT h4) (gc (fk 9 (oC x1) rfl) (Ay (cT h4) (A4 (bE h3) (gfl h2 h1 (g0 h0))))))))))))
theorem bKp(h4:Ab=7)(h5:is=false)(h6:dv i)(Ak:i'=(i+1)):aB Tp 7 jF (cnt_S0 dl sk dc ov x0 x1 x2 x3 x4 x5 is i l n (aN t) t.length) .normal (cnt_S0 dl sk dc ov x0 x1 x2 x3 x4 x5 is i' l n (aN t) t.length):=by
 subst Ak;exact aB.fi (gI ba [7]) [bT,.x (dcE Aa Ab Af Ah Ag Ai),bF,bF,bF,bF,bT,bT,bT,.c (pB (cU x1)) [],bT,bF,bT,bF,bF,bF] (gc h6 (Az h5 (gc (bE h3) (gc (cT h4) (gc (bE h3) (gc (cT h4) (gc (fk 9 (oC x1) rfl) (Ay (cT h4) (A4 (bE h3) (gfl h2 h1 (g0 h0)))))))))))
theorem bKq(h4:Ab≠7)(h5:is=true)(h6:dv i)(Ak:i'=(i+1)):aB Tp 7 jF (cnt_S0 dl sk dc ov x0 x1 x2 x3 x4 x5 is i l n (aN t) t.length) .normal (cnt_S0 dl sk dc ov x0 x1 x2 x3 x4 x5 is i' l n (aN t) t.length):=by
 subst Ak;exact aB.fi (gI ba [7]) ([bT,.x (dcE Aa Ab Af Ah Ag Ai)]++rF 11++[bT,bT]) (gc h6 (Az h5 (gc (bE h3) (gc (bE h4) (gc (bE h3) (A4 (bE h4) (A4 (bE h3) (gfl h2 h1 (g0 h0)))))))))
theorem bKr(h4:Ab≠7)(h5:is=false)(h6:dv i)(Ak:i'=(i+1)):aB Tp 7 jF (cnt_S0 dl sk dc ov x0 x1 x2 x3 x4 x5 is i l n (aN t) t.length) .normal (cnt_S0 dl sk dc ov x0 x1 x2 x3 x4 x5 is i' l n (aN t) t.length):=by
 subst Ak;exact aB.fi (gI ba [7]) ([bT,.x (dcE Aa Ab Af Ah Ag Ai)]++rF 13) (gc h6 (Az h5 (gc (bE h3) (gc (bE h4) (gc (bE h3) (A4 (bE h4) (A4 (bE h3) (gfl h2 h1 (g0 h0)))))))))
end
theorem aYz(h0:(n:Int)≤(i:Int)):aB Tp 7 jF (cnt_S0 dl sk dc ov x0 x1 x2 x3 x4 x5 is i l n (aN t) t.length) (.exit 0) (cnt_S0 dl sk dc ov x0 x1 x2 x3 x4 x5 is i l n (aN t) t.length):=aB.fi (gI ba [7]) [bF] (gc (aQ h0) gn)
theorem bSu(h0:cHg 101 dl sk dc ov [x0,x1,x2,x3,x4,x5] [z0,z1,z2,z3,z4,z5] b6 T T7):FMM Tp 102 [(.p (dcE x0 x1 x2 x3 x4 x5)),(.ptr 6 0)] (cY dl sk dc ov T) (.tup [(.p (dcE z0 z1 z2 z3 z4 z5)),(pB b6)]) (cY dl sk dc ov T7):=have k1:=mq cu 9 h0;FMM.fi 7 gE func102 [k1.o] (gc k1 gn)
theorem bSv(h0:cHg 105 dl sk dc ov [x0,x1,x2,x3,x4,x5] [z0,z1,z2,z3,z4,z5] b6 T T7):FMM Tp 104 [(.p (dcE x0 x1 x2 x3 x4 x5)),(.ptr 6 0)] (cY dl sk dc ov T) (.tup [(.p (dcE z0 z1 z2 z3 z4 z5)),(pB b6)]) (cY dl sk dc ov T7):=have k1:=mq cu 9 h0;FMM.fi 7 gE func104 [k1.o] (gc k1 gn)
section
variable(h0:aRz dl sk dc ov [x0,x1,x2,x3,x4,x5] [z0,z1,z2,z3,z4,z5] b6 T T7)
include h0
theorem cHq(h1:b6=true)(Aq:r0=(z1 == 8)):FMM Tp 103 [(.p (dcE x0 x1 x2 x3 x4 x5)),(.ptr 2 0),(.ptr 1 0)] (cY dl sk dc ov T) (pB r0) (cY dl sk dc ov T7):=by
 subst Aq;have k1:=mq cu 8 h0;exact FMM.fi 7 gE func103 [k1.o,bT] (gc h1 (gc k1 gn))
theorem cHr{b8:Bool}(h1:b6=false)(h2:wJ ov x0 b8):FMM Tp 103 [(.p (dcE x0 x1 x2 x3 x4 x5)),(.ptr 2 0),(.ptr 1 0)] (cY dl sk dc ov T) (pB b8) (cY dl sk dc ov T7):=have k1:=mq cu 8 h0;FMM.fi 7 gE func103 [k1.o,bF,.c (pB b8) []] (gc (fk 9 (h2 _) rfl) (gc h1 (gc k1 gn)))
end
section
variable(h0:cHh dl sk dc ov [x0,x1,x2,x3,x4,x5] [z0,z1,z2,z3,z4,z5] b6 T T7)
include h0
theorem cHs{m8:Int}{T9:Lqb}(h1:b6=true)(h2:aCk dl sk dc ov [z0,z1,z2,z3,z4,z5] m8 T7 T9):FMM Tp 106 [(.p (dcE x0 x1 x2 x3 x4 x5)),(.ptr 2 0)] (cY dl sk dc ov T) (pI m8) (cY dl sk dc ov T9):=have k1:=mq cu 8 h0;have k2:=mq cu 9 h2;FMM.fi 7 gE func106 [k1.o,bT,k2.o] (gc k2 (gc h1 (gc k1 gn)))
theorem cHt(h1:b6=false):FMM Tp 106 [(.p (dcE x0 x1 x2 x3 x4 x5)),(.ptr 2 0)] (cY dl sk dc ov T) (pI x4) (cY dl sk dc ov T7):=have k1:=mq cu 8 h0;FMM.fi 7 gE func106 [k1.o,bF] (gc h1 (gc k1 gn))
end
theorem aNn:FMM Tp 54 [(.rp (cC dl sk dc) 0),(.p cR)] [] zY [some (Hw dl sk dc),some (.box 31 [(.p cR)]),some G9,some (.mp [] 0),some (.box 183 [(.mp 3)]),some (Hy dl sk dc),some Hz]:=FMM.fi 0 ⟨[],[0,1,3,4,5,6,7],[],[]⟩ func54 [] gn
theorem aNo{on:Nat}{ol:List PV}:FMM Tp 54 [(.rp (cC dl sk dc) 0),(.p (.sl on ol))] [] zY [some (Hw dl sk dc),some (.box 31 [(.p (.sl on ol))]),some G9,some (.mp [] 0),some (.box 183 [(.mp 3)]),some (Hy dl sk dc),some Hz]:=FMM.fi 0 ⟨[],[0,1,3,4,5,6,7],[],[]⟩ func54 [] gn
end
section
section
variable {dc:Lqq}
theorem aNh(h:bZ dc){n:Int}(hn:1≤n∧n≤9999):cG .i64 (abE dc) (.int .i64 n):=by
 have ha:=aZc h;refine ⟨fun e he => ?_,oN (by omega),?_⟩
 ·obtain ⟨p,hp,rfl⟩:=Bq.1 he
  obtain ⟨q1,q2,q3⟩:=ha.mem p hp;cases hx:p.2 with
  | nil=>exact absurd hx q2
  | cons x r =>
   have:x∈dc.reverse.filter fun x=>dAb x == p.1:=by rw [← q3,hx];exact iN ..
   obtain ⟨h1,h2⟩:=qR.1 this;have:=pR h x (aCg.1 h1);have h2:dAb x=p.1:=by simpa using h2
   exact oN (by omega)
 ·have:(abE dc).map (fun e=>iU e.1)=(abM dc).map (·.1):=by
   unfold abE;rw [uT];rfl
  rw [this];exact ha.nd
theorem aNi(h:bZ dc){n:Int}(hn:0<n):(dU (abE dc) (.int .i64 n)=true∧gP (abE dc) (.int .i64 n)=some (.sl (bN dc n).length ((bN dc n).flatten.map aA)))∨(dU (abE dc) (.int .i64 n)=false∧bN dc n=[]):=by
 have ha:=aZc h;have e1:dU (abE dc) (.int .i64 n)=(abM dc).any fun e=>e.1 == n:=by
  unfold dU abE;rw [List.any_map]
  congr 1
 have e2:gP (abE dc) (.int .i64 n)=((abM dc).find? fun e=>e.1 == n).map fun e => .sl e.2.length (e.2.flatten.map aA):=by
  unfold gP abE;generalize abM dc=L
  induction L with
  | nil=>rfl
  | cons p L ih =>
   rw [iB,List.find?_cons,List.find?_cons];have e:(decide (iU (((Value.int IntKind.i64 p.1),PV.sl p.2.length (p.2.flatten.map aA)):Value × PV).1=iU (Value.int IntKind.i64 n)))=(p.1 == n):=by
    show decide (p.1=n)=(p.1 == n);rw [Bool.eq_iff_iff];simp
   rw [e];cases p.1 == n with
   | true=>rfl
   | false=>exact ih
 rw [e1,e2];cases hf:(abM dc).find? fun e=>e.1 == n with
 | some e =>
  have h1:=xV hf;have h2:e.1=n:=by simpa using aXf hf
  obtain ⟨q1,q2,q3⟩:=ha.mem e h1;refine .inl ⟨List.any_eq_true.2 ⟨e,h1,by simpa using h2⟩,?_⟩
  have:e.2=bN dc n:=by rw [q3,h2];rfl
  rw [Option.map_some,this]
 | none =>
  refine .inr ⟨?_,?_⟩
  ·rw [List.any_eq_false]
   intro e he;exact aHx.1 hf e he
  ·rw [← bTa h hn]
   unfold aBn;rw [hf]
theorem iG(h:bZ dc)(n:Int):uni 6 (bN dc n):=fun y hy=>h.ud y (eJ hy).1
theorem zX(h:bZ dc)(n:Int):(bN dc n).length≤1000:=by
 have:=zR (fun x=>dAb x == n) dc.reverse
 have h2:=h.len;rw [List.length_reverse] at this
 unfold bN;omega
theorem bEg{α:Type}{p:α→Bool}{l:List α}{i:Nat}{x:α}(hi:l[i]? = some x)(hp:p x=true)(hj:∀ j y,j<i→l[j]? = some y→p y=false):l.find? p=some x:=by
 obtain ⟨h1,h2⟩:=Bs.1 hi;rw [List.find?_eq_some_iff_getElem];exact ⟨hp,i,h1,h2,fun j h=>by
  rw [hj j l[j] h (Av (by omega))];rfl⟩
end
def Ie:List Int:=[0,0,0,0,0,0]
section
variable (dl:Int) (sk dc:Lqq) (oc:List Int) (ov:PV)
def rP(x:List Int):Prop:=∀ T,cE dl oc dc T→∃ T',cE dl oc dc T'∧sY dl sk dc ov x (dX dl oc dc x) T T'
def cDx(g:Nat)(q:List Int→Bool)(x:List Int):Prop:=∀ T,cE dl oc dc T→∃ T',cE dl oc dc T'∧cHg g dl sk dc ov x (((bN dc (dN x)).find? fun y=>q y && dX dl oc dc y).getD Ie) ((bN dc (dN x)).find? fun y=>q y && dX dl oc dc y).isSome T T'
def cDy(x:List Int):Prop:=∀ T,cE dl oc dc T→∃ T',cE dl oc dc T'∧aRz dl sk dc ov x ((wK dl oc dc x).getD Ie) (wK dl oc dc x).isSome T T'
def cDz(x:List Int):Prop:=∀ T,cE dl oc dc T→∃ T',cE dl oc dc T'∧cHh dl sk dc ov x ((aNp dl oc dc x).getD Ie) (aNp dl oc dc x).isSome T T'
def bEh(x:List Int):Prop:=∀ T,cE dl oc dc T→∃ T',cE dl oc dc T'∧bZj dl sk dc ov x (aIc dl oc dc x) T T'
def cEa(x:List Int):Prop:=∀ T,cE dl oc dc T→∃ T',cE dl oc dc T'∧aCk dl sk dc ov x (pQ dl oc dc x) T T'
end
section
variable {dl:Int} {sk dc:Lqq} {oc:List Int} {ov:PV}
theorem bKi(l:Lqq)(hu:uni 6 l)(hl:l.length≤1000)(hC:∀ y∈l,rP dl sk dc oc ov y)(T:Lqb)(hT:cE dl oc dc T) :
  (∃ i T' y,l[i]? = some y∧(cU (dK y) && dX dl oc dc y)=true∧(∀ j z,j<i→l[j]? = some z→(cU (dK z) && dX dl oc dc z)=false)∧cE dl oc dc T'∧aF Tp 7 (sub (cd Tryz.f99) dh) (dV dl sk dc ov 0 l l.length (aN T) T.length 0 0 0 0 0 0) .ret (cD (dV dl sk dc ov i l l.length (aN T') T'.length (y.getD 0 0) (y.getD 1 0) (y.getD 2 0) (y.getD 3 0) (y.getD 4 0) (y.getD 5 0)) [(7,.kb true)])) ∨
  ((l.find? fun y=>cU (dK y) && dX dl oc dc y)=none∧∃ T',cE dl oc dc T'∧aF Tp 7 (sub (cd Tryz.f99) dh) (dV dl sk dc ov 0 l l.length (aN T) T.length 0 0 0 0 0 0) (.exit 0) (dV dl sk dc ov l.length l l.length (aN T') T'.length 0 0 0 0 0 0)):=by
 have hx:∀ i,i<l.length→∃ a b c d e f,l[i]? = some [a,b,c,d,e,f]∧l.getD i []=[a,b,c,d,e,f]∧[a,b,c,d,e,f]∈l:=fun i hi=>by
  obtain ⟨a,b,c,d,e,f,h⟩:=Bo (hu _ (fG hi));have h1:l[i]? = some [a,b,c,d,e,f]:=by rw [Av hi,h]
  exact ⟨a,b,c,d,e,f,h1,by rw [Bw,h1];rfl,Bp h1⟩
 rcases aF.exF (P:=Tp) (k:=7) (b:=sub (cd Tryz.f99) dh) (e1 := .ret) (e2 := .exit 0) (fun i T=>dV dl sk dc ov i l l.length (aN T) T.length 0 0 0 0 0 0)
  (fun i T=>cD (dV dl sk dc ov i l l.length (aN T) T.length ((l.getD i []).getD 0 0) ((l.getD i []).getD 1 0) ((l.getD i []).getD 2 0) ((l.getD i []).getD 3 0) ((l.getD i []).getD 4 0) ((l.getD i []).getD 5 0)) [(7,.kb true)])
  (fun T=>dV dl sk dc ov l.length l l.length (aN T) T.length 0 0 0 0 0 0) (cE dl oc dc) (by simp) (by simp) (fun i=>cU (dK (l.getD i [])) && dX dl oc dc (l.getD i [])) l.length
  (fun i T1 hi h1 hp=>by
   obtain ⟨a,b,c,d,e,f,g1,g2,g3⟩:=hx i hi;rw [g2] at hp
   cases hq:cU b with
   | false=>exact ⟨T1,h1,aYt (by omega) g1 hu hq (aI (by omega)) rfl⟩
   | true =>
    have hp:(cU b && dX dl oc dc [a,b,c,d,e,f])=false:=hp;rw [hq,iW] at hp
    obtain ⟨T2,h2,c2⟩:=hC _ g3 T1 h1;rw [hp] at c2
    exact ⟨T2,h2,aYs (by omega) g1 hu hq c2 rfl (aI (by omega)) rfl rfl rfl⟩)
  (fun i T1 hi h1 hp=>by
   obtain ⟨a,b,c,d,e,f,g1,g2,g3⟩:=hx i hi;rw [g2] at hp ⊢
   rw [Cc] at hp
   obtain ⟨T2,h2,c2⟩:=hC _ g3 T1 h1;rw [hp.2] at c2
   exact ⟨T2,h2,aYr (by omega) g1 hu hp.1 c2 rfl rfl rfl⟩)
  (fun T1 h1=>aYu (by omega)) hT with ⟨i,T',h1,h2,h3,h4,h5⟩ | ⟨h1,T',h2,h3⟩
 ·obtain ⟨a,b,c,d,e,f,g1,g2,g3⟩:=hx i h1
  rw [g2] at h2 h5
  refine .inl ⟨i,T',_,g1,h2,fun j z hj hz => ?_,h4,h5⟩
  have:=h3 j hj;rw [Bw,hz] at this
  exact this
 ·refine .inr ⟨?_,T',h2,h3⟩
  rw [aHx];intro y hy;obtain ⟨i,hi,rfl⟩:=List.mem_iff_getElem.1 hy;have:=h1 i hi;rw [Bw,Av hi] at this
  simpa using this
theorem bZh(hd:bZ dc){x:List Int}(hx:x∈dc)(hC:∀ y∈bN dc (dN x),rP dl sk dc oc ov y):cDx dl sk dc oc ov 101 (fun y=>cU (dK y)) x:=fun T hT=>by
 have hn:=eX hd hx;have hk:=aNh hd hn;have hL:=bKi (bN dc (dN x)) (iG hd _) (zX hd _) hC T hT;obtain ⟨x0,x1,x2,x3,x4,x5,rfl⟩:=Bo (hd.ud x hx)
 rcases aNi hd (n:=dN [x0,x1,x2,x3,x4,x5]) (by omega) with ⟨h1,h2⟩ | ⟨h1,h2⟩
 ·rcases hL with ⟨i,T',y,q1,q2,q3,q4,q5⟩ | ⟨q1,T',q2,q3⟩
  ·have hf:=bEg (p:=fun y=>cU (dK y) && dX dl oc dc y) q1 q2 q3
   rw [hf];obtain ⟨a,b,c,d,e,f,rfl⟩:=Bo (iG hd _ _ (Bp q1));exact ⟨T',q4,bZo hk h1 h2 q5⟩
  ·rw [q1]
   exact ⟨T',q2,bZn hk h1 h2 q3⟩
 ·rw [h2] at hL ⊢
  rcases hL with ⟨i,T',y,q1,q2,q3,q4,q5⟩ | ⟨q1,T',q2,q3⟩
  ·simp at q1
  ·exact ⟨T',q2,bZp hk h1 q3⟩
theorem bKj(l:Lqq)(hu:uni 6 l)(hl:l.length≤1000)(hC:∀ y∈l,rP dl sk dc oc ov y)(T:Lqb)(hT:cE dl oc dc T) :
  (∃ i T' y,l[i]? = some y∧(dK y == 6 && dX dl oc dc y)=true∧(∀ j z,j<i→l[j]? = some z→(dK z == 6 && dX dl oc dc z)=false)∧cE dl oc dc T'∧aF Tp 7 (sub (cd Tryz.f99) dh) (dW dl sk dc ov 0 l l.length (aN T) T.length 0 0 0 0 0 0) .ret (cD (dW dl sk dc ov i l l.length (aN T') T'.length (y.getD 0 0) (y.getD 1 0) (y.getD 2 0) (y.getD 3 0) (y.getD 4 0) (y.getD 5 0)) [(7,.kb true)])) ∨
  ((l.find? fun y=>dK y == 6 && dX dl oc dc y)=none∧∃ T',cE dl oc dc T'∧aF Tp 7 (sub (cd Tryz.f99) dh) (dW dl sk dc ov 0 l l.length (aN T) T.length 0 0 0 0 0 0) (.exit 0) (dW dl sk dc ov l.length l l.length (aN T') T'.length 0 0 0 0 0 0)):=by
 have hx:∀ i,i<l.length→∃ a b c d e f,l[i]? = some [a,b,c,d,e,f]∧l.getD i []=[a,b,c,d,e,f]∧[a,b,c,d,e,f]∈l:=fun i hi=>by
  obtain ⟨a,b,c,d,e,f,h⟩:=Bo (hu _ (fG hi));have h1:l[i]? = some [a,b,c,d,e,f]:=by rw [Av hi,h]
  exact ⟨a,b,c,d,e,f,h1,by rw [Bw,h1];rfl,Bp h1⟩
 rcases aF.exF (P:=Tp) (k:=7) (b:=sub (cd Tryz.f99) dh) (e1 := .ret) (e2 := .exit 0) (fun i T=>dW dl sk dc ov i l l.length (aN T) T.length 0 0 0 0 0 0)
  (fun i T=>cD (dW dl sk dc ov i l l.length (aN T) T.length ((l.getD i []).getD 0 0) ((l.getD i []).getD 1 0) ((l.getD i []).getD 2 0) ((l.getD i []).getD 3 0) ((l.getD i []).getD 4 0) ((l.getD i []).getD 5 0)) [(7,.kb true)])
  (fun T=>dW dl sk dc ov l.length l l.length (aN T) T.length 0 0 0 0 0 0) (cE dl oc dc) (by simp) (by simp) (fun i=>dK (l.getD i []) == 6 && dX dl oc dc (l.getD i [])) l.length
  (fun i T1 hi h1 hp=>by
   obtain ⟨a,b,c,d,e,f,g1,g2,g3⟩:=hx i hi;rw [g2] at hp
   cases hq:(b == 6) with
   | false=>exact ⟨T1,h1,aYx (by omega) g1 hu hq (aI (by omega)) rfl⟩
   | true =>
    have hp:((b == 6) && dX dl oc dc [a,b,c,d,e,f])=false:=hp;rw [hq,iW] at hp
    obtain ⟨T2,h2,c2⟩:=hC _ g3 T1 h1;rw [hp] at c2
    exact ⟨T2,h2,aYw (by omega) g1 hu hq c2 rfl (aI (by omega)) rfl rfl rfl⟩)
  (fun i T1 hi h1 hp=>by
   obtain ⟨a,b,c,d,e,f,g1,g2,g3⟩:=hx i hi;rw [g2] at hp ⊢
   rw [Cc] at hp
   obtain ⟨T2,h2,c2⟩:=hC _ g3 T1 h1;rw [hp.2] at c2
   exact ⟨T2,h2,aYv (by omega) g1 hu hp.1 c2 rfl rfl rfl⟩)
  (fun T1 h1=>aYy (by omega)) hT with ⟨i,T',h1,h2,h3,h4,h5⟩ | ⟨h1,T',h2,h3⟩
 ·obtain ⟨a,b,c,d,e,f,g1,g2,g3⟩:=hx i h1
  rw [g2] at h2 h5
  refine .inl ⟨i,T',_,g1,h2,fun j z hj hz => ?_,h4,h5⟩
  have:=h3 j hj;rw [Bw,hz] at this
  exact this
 ·refine .inr ⟨?_,T',h2,h3⟩
  rw [aHx];intro y hy;obtain ⟨i,hi,rfl⟩:=List.mem_iff_getElem.1 hy;have:=h1 i hi;rw [Bw,Av hi] at this
  simpa using this
theorem bZi(hd:bZ dc){x:List Int}(hx:x∈dc)(hC:∀ y∈bN dc (dN x),rP dl sk dc oc ov y):cDx dl sk dc oc ov 105 (fun y=>dK y == 6) x:=fun T hT=>by
 have hn:=eX hd hx;have hk:=aNh hd hn;have hL:=bKj (bN dc (dN x)) (iG hd _) (zX hd _) hC T hT;obtain ⟨x0,x1,x2,x3,x4,x5,rfl⟩:=Bo (hd.ud x hx)
 rcases aNi hd (n:=dN [x0,x1,x2,x3,x4,x5]) (by omega) with ⟨h1,h2⟩ | ⟨h1,h2⟩
 ·rcases hL with ⟨i,T',y,q1,q2,q3,q4,q5⟩ | ⟨q1,T',q2,q3⟩
  ·have hf:=bEg (p:=fun y=>dK y == 6 && dX dl oc dc y) q1 q2 q3
   rw [hf];obtain ⟨a,b,c,d,e,f,rfl⟩:=Bo (iG hd _ _ (Bp q1));exact ⟨T',q4,bZr hk h1 h2 q5⟩
  ·rw [q1]
   exact ⟨T',q2,bZq hk h1 h2 q3⟩
 ·rw [h2] at hL ⊢
  rcases hL with ⟨i,T',y,q1,q2,q3,q4,q5⟩ | ⟨q1,T',q2,q3⟩
  ·simp at q1
  ·exact ⟨T',q2,bZs hk h1 q3⟩

theorem bSq(hd:bZ dc){x:List Int}(hx:x∈dc)(hC:∀ y∈bN dc (dN x),rP dl sk dc oc ov y):cDy dl sk dc oc ov x:=fun T hT=>by
 obtain ⟨T',h1,h2⟩:=bZh hd hx hC T hT;rw [← aFk hd hx] at h2
 obtain ⟨x0,x1,x2,x3,x4,x5,rfl⟩:=Bo (hd.ud x hx);have hz:∀ z,wK dl oc dc [x0,x1,x2,x3,x4,x5]=some z→z.length=6:=fun z hz=>by
  rw [aFk hd hx] at hz
  exact iG hd _ z (xV hz)
 cases hr:wK dl oc dc [x0,x1,x2,x3,x4,x5] with
 | none =>
  rw [hr] at h2
  exact ⟨T',h1,bSu (z0:=0) (z1:=0) (z2:=0) (z3:=0) (z4:=0) (z5:=0) h2⟩
 | some z =>
  obtain ⟨a,b,c,d,e,f,rfl⟩:=Bo (hz z hr);rw [hr] at h2
  exact ⟨T',h1,bSu h2⟩
theorem cHe(hd:bZ dc){x:List Int}(hx:x∈dc)(hC:∀ y∈bN dc (dN x),rP dl sk dc oc ov y):cDz dl sk dc oc ov x:=fun T hT=>by
 obtain ⟨T',h1,h2⟩:=bZi hd hx hC T hT;rw [← aFl hd hx] at h2
 obtain ⟨x0,x1,x2,x3,x4,x5,rfl⟩:=Bo (hd.ud x hx);have hz:∀ z,aNp dl oc dc [x0,x1,x2,x3,x4,x5]=some z→z.length=6:=fun z hz=>by
  rw [aFl hd hx] at hz
  exact iG hd _ z (xV hz)
 cases hr:aNp dl oc dc [x0,x1,x2,x3,x4,x5] with
 | none =>
  rw [hr] at h2
  exact ⟨T',h1,bSv (z0:=0) (z1:=0) (z2:=0) (z3:=0) (z4:=0) (z5:=0) h2⟩
 | some z =>
  obtain ⟨a,b,c,d,e,f,rfl⟩:=Bo (hz z hr);rw [hr] at h2
  exact ⟨T',h1,bSv h2⟩
theorem bSr(hd:bZ dc)(hov:∀ n,wJ ov n (oc.contains n)){x:List Int}(hx:x∈dc)(hC:∀ y∈bN dc (dN x),rP dl sk dc oc ov y):bEh dl sk dc oc ov x:=fun T hT=>by
 obtain ⟨T',h1,h2⟩:=bSq hd hx hC T hT;rw [cHw hd hx];obtain ⟨x0,x1,x2,x3,x4,x5,rfl⟩:=Bo (hd.ud x hx);have hz:∀ z,wK dl oc dc [x0,x1,x2,x3,x4,x5]=some z→z.length=6:=fun z hz=>by
  rw [aFk hd hx] at hz
  exact iG hd _ z (xV hz)
 cases hr:wK dl oc dc [x0,x1,x2,x3,x4,x5] with
 | none =>
  rw [hr] at h2
  exact ⟨T',h1,cHr (z0:=0) (z1:=0) (z2:=0) (z3:=0) (z4:=0) (z5:=0) h2 rfl (hov _)⟩
 | some z =>
  obtain ⟨a,b,c,d,e,f,rfl⟩:=Bo (hz z hr);rw [hr] at h2
  exact ⟨T',h1,cHq h2 rfl rfl⟩
abbrev rC(dl:Int)(oc:List Int)(dc:Lqq)(x y:List Int):Bool:=yE x y && dX dl oc dc y && (dK y == 5 || aIc dl oc dc y)
theorem bSs{x0 x1 x2 x3 x4 x5:Int}(hd:bZ dc)(l:Lqq)(hu:uni 6 l)(hl:l.length≤1000)(hC:∀ y∈l,rP dl sk dc oc ov y)(hU:∀ y∈l,bEh dl sk dc oc ov y)(T:Lqb)(hT:cE dl oc dc T)(is:Bool) :
  ∃ T',cE dl oc dc T'∧aF Tp 7 (sub (cd Tryz.f100) ct) (cnt_S0 dl sk dc ov x0 x1 x2 x3 x4 x5 is 0 l l.length (aN T) T.length) (.exit 0) (cnt_S0 dl sk dc ov x0 x1 x2 x3 x4 x5 (is && !(l.any (rC dl oc dc [x0,x1,x2,x3,x4,x5]))) l.length l l.length (aN T') T'.length):=by
 have hx:∀ i,i<l.length→∃ a b c d e f,l[i]? = some [a,b,c,d,e,f]∧[a,b,c,d,e,f]∈l:=fun i hi=>by
  obtain ⟨a,b,c,d,e,f,h⟩:=Bo (hu _ (fG hi));have h1:l[i]? = some [a,b,c,d,e,f]:=by rw [Av hi,h]
  exact ⟨a,b,c,d,e,f,h1,Bp h1⟩
 have et:∀ i y,l[i]? = some y→(l.take (i+1)).any (rC dl oc dc [x0,x1,x2,x3,x4,x5])=((l.take i).any (rC dl oc dc [x0,x1,x2,x3,x4,x5]) || rC dl oc dc [x0,x1,x2,x3,x4,x5] y):=fun i y h=>by
  rw [List.take_add_one,h,List.any_append];simp
 obtain ⟨acc, ⟨h1,h2⟩,h3⟩:=aF.ex (P:=Tp) (k:=7) (b:=sub (cd Tryz.f100) ct) (e := .exit 0) (fun i (a:Bool × Lqb)=>cnt_S0 dl sk dc ov x0 x1 x2 x3 x4 x5 a.1 i l l.length (aN a.2) a.2.length)
  (fun a=>cnt_S0 dl sk dc ov x0 x1 x2 x3 x4 x5 a.1 l.length l l.length (aN a.2) a.2.length) (fun i a=>cE dl oc dc a.2∧a.1=(is && !((l.take i).any (rC dl oc dc [x0,x1,x2,x3,x4,x5])))) (by simp) l.length
  (fun i acc hi hI=>by
   obtain ⟨b,T1⟩:=acc;obtain ⟨h1,h2⟩:=hI;dsimp only at h1 h2
   obtain ⟨a,k,c,d,e,f,g1,g3⟩:=hx i hi;rw [et i _ g1];cases hb:b with
   | false =>
    rw [hb] at h2
    have hI:∀ q:Bool,false=(is && !((l.take i).any (rC dl oc dc [x0,x1,x2,x3,x4,x5]) || q)):=fun q=>by
     revert h2;cases is <;> cases (l.take i).any (rC dl oc dc [x0,x1,x2,x3,x4,x5]) <;> cases q <;> simp
    by_cases h5:k=5
    ·exact ⟨(false,T1),⟨h1,hI _⟩,bKk (by omega) g1 hu h5 rfl (aI (by omega)) rfl⟩
    ·by_cases h7:k=7
     ·exact ⟨(false,T1),⟨h1,hI _⟩,bKp (by omega) g1 hu h5 h7 rfl (aI (by omega)) rfl⟩
     ·exact ⟨(false,T1),⟨h1,hI _⟩,bKr (by omega) g1 hu h5 h7 rfl (aI (by omega)) rfl⟩
   | true =>
    rw [hb] at h2
    have hI:∀ q:Bool,(!q)=(is && !((l.take i).any (rC dl oc dc [x0,x1,x2,x3,x4,x5]) || q)):=fun q=>by
     revert h2;cases is <;> cases (l.take i).any (rC dl oc dc [x0,x1,x2,x3,x4,x5]) <;> cases q <;> simp
    have hIt:∀ q:Bool,q=true→false=(is && !((l.take i).any (rC dl oc dc [x0,x1,x2,x3,x4,x5]) || q)):=fun q hq=>by
     rw [← hI,hq];rfl
    have hIf:∀ q:Bool,q=false→true=(is && !((l.take i).any (rC dl oc dc [x0,x1,x2,x3,x4,x5]) || q)):=fun q hq=>by
     rw [← hI,hq];rfl
    obtain ⟨T2,q1,q2⟩:=hC _ g3 T1 h1
    by_cases h5:k=5
    ·cases hc:dX dl oc dc [a,k,c,d,e,f] with
     | true =>
      rw [hc] at q2
      exact ⟨(false,T2),⟨q1,hIt _ (by subst h5;simp [rC,yE,hc])⟩,cnt_L0_p0 (by omega) g1 hu h5 rfl q2 rfl (aI (by omega)) rfl rfl rfl⟩
     | false =>
      rw [hc] at q2
      exact ⟨(true,T2),⟨q1,hIf _ (by simp [rC,hc])⟩,cnt_L0_p1 (by omega) g1 hu h5 rfl q2 rfl (aI (by omega)) rfl rfl rfl⟩
    ·by_cases h7:k=7
     ·cases hr:cU x1 with
      | true=>exact ⟨(true,T1),⟨h1,hIf _ (by simp [rC,yE,hr,h5])⟩,bKo (by omega) g1 hu h5 h7 rfl hr (aI (by omega)) rfl⟩
      | false =>
       cases hc:dX dl oc dc [a,k,c,d,e,f] with
       | true =>
        rw [hc] at q2
        obtain ⟨T3,q3,q4⟩:=hU _ g3 T2 q1;cases Jf:aIc dl oc dc [a,k,c,d,e,f] with
        | true =>
         rw [Jf] at q4
         exact ⟨(false,T3),⟨q3,hIt _ (by subst h7;simp [rC,yE,hc,hr,Jf])⟩,bKl (by omega) g1 hu h5 h7 rfl hr q2 rfl q4 rfl (aI (by omega)) rfl rfl rfl⟩
        | false =>
         rw [Jf] at q4
         exact ⟨(true,T3),⟨q3,hIf _ (by simp [rC,yE,Jf,h5])⟩,bKm (by omega) g1 hu h5 h7 rfl hr q2 rfl q4 rfl (aI (by omega)) rfl rfl rfl⟩
       | false =>
        rw [hc] at q2
        exact ⟨(true,T2),⟨q1,hIf _ (by simp [rC,hc])⟩,bKn (by omega) g1 hu h5 h7 rfl hr q2 rfl (aI (by omega)) rfl rfl rfl⟩
     ·exact ⟨(true,T1),⟨h1,hIf _ (by simp [rC,yE,h5,h7])⟩,bKq (by omega) g1 hu h5 h7 rfl (aI (by omega)) rfl⟩)
  (fun acc hI=>aYz (by omega)) (acc:=(is,T)) ⟨hT,by simp⟩
 obtain ⟨b,T1⟩:=acc;dsimp only at h1 h2 h3
 rw [List.take_length] at h2
 rw [h2] at h3
 exact ⟨T1,h1,h3⟩
theorem cHf(hd:bZ dc){x:List Int}(hx:x∈dc)(hC:∀ y∈bN dc (dN x),rP dl sk dc oc ov y)(hU:∀ y∈bN dc (dN x),bEh dl sk dc oc ov y):rP dl sk dc oc ov x:=fun T hT=>by
 have hn:=eX hd hx;have hk:=aNh hd hn;obtain ⟨x0,x1,x2,x3,x4,x5,rfl⟩:=Bo (hd.ud x hx);obtain ⟨T',h1,hL⟩:=bSs (x0:=x0) (x1:=x1) (x2:=x2) (x3:=x3) (x4:=x4) (x5:=x5) hd (bN dc (dN [x0,x1,x2,x3,x4,x5])) (iG hd _) (zX hd _) hC hU T hT (!vG dl [x0,x1,x2,x3,x4,x5]);have hc:(!vG dl [x0,x1,x2,x3,x4,x5] && !((bN dc (dN [x0,x1,x2,x3,x4,x5])).any (rC dl oc dc [x0,x1,x2,x3,x4,x5])))=dX dl oc dc [x0,x1,x2,x3,x4,x5]:=(cHv hd hx).symm;rw [hc] at hL
 cases hh:dU (aN T) (.int .i64 (dN [x0,x1,x2,x3,x4,x5])) with
 | true=>exact ⟨T,hT,cnt_p0 (hT.keys hd hn) hh (hT.look hd hx hh)⟩
 | false =>
  cases O9:dU (aN T') (.int .i64 (dN [x0,x1,x2,x3,x4,x5])) with
  | true =>
   refine ⟨T',h1,?_⟩
   rcases aNi hd (n:=dN [x0,x1,x2,x3,x4,x5]) (by omega) with ⟨a1,a2⟩ | ⟨a1,a2⟩
   ·have:=cHm (x0:=x0) (hT.keys hd hn) hh hk a1 a2 hL (h1.keys hd hn) O9
    rw [show qA (aN T') (.int .i64 x0) (blP (dX dl oc dc [x0,x1,x2,x3,x4,x5]))=aN T' from h1.again hd hx] at this
    exact this
   ·rw [a2] at hL
    have:=cHo (x0:=x0) (hT.keys hd hn) hh hk a1 hL (h1.keys hd hn) O9;rw [show qA (aN T') (.int .i64 x0) (blP (dX dl oc dc [x0,x1,x2,x3,x4,x5]))=aN T' from h1.again hd hx] at this
    exact this
  | false =>
   refine ⟨T'++[(x0,dX dl oc dc [x0,x1,x2,x3,x4,x5])],h1.put hx O9,?_⟩;have e1:(T'++[(x0,dX dl oc dc [x0,x1,x2,x3,x4,x5])]).length=T'.length+1:=by simp
   unfold sY cY;rw [bKs,e1]
   rcases aNi hd (n:=dN [x0,x1,x2,x3,x4,x5]) (by omega) with ⟨a1,a2⟩ | ⟨a1,a2⟩
   ·exact cHn (hT.keys hd hn) hh hk a1 a2 hL (h1.keys hd hn) O9
   ·rw [a2] at hL
    exact cHp (hT.keys hd hn) hh hk a1 hL (h1.keys hd hn) O9
theorem sW(hd:bZ dc){x y:List Int}(hx:x∈dc)(hy:y∈bN dc (dN x)):y∈dc∧dN x<dN y:=by
 obtain ⟨h1,h2⟩:=eJ hy;exact ⟨h1,bSx hd h1 h2 (eX hd hx).1⟩
theorem aNj(hd:bZ dc)(hov:∀ n,wJ ov n (oc.contains n)):∀ (n:Nat) (x:List Int),x∈dc→10000-dN x≤(n:Int)→rP dl sk dc oc ov x
 | 0,x,hx,h=>by have:=eX hd hx;omega
 | n+1,x,hx,h=>cHf hd hx (fun y hy=>by
   obtain ⟨h1,h2⟩:=sW hd hx hy;exact aNj hd hov n y h1 (by omega)) (fun y hy=>by
   obtain ⟨h1,h2⟩:=sW hd hx hy;exact bSr hd hov h1 fun z hz=>by
    obtain ⟨h3,h4⟩:=sW hd h1 hz;exact aNj hd hov n z h3 (by omega))
theorem bSt(hd:bZ dc)(hov:∀ n,wJ ov n (oc.contains n)){x:List Int}(hx:x∈dc):rP dl sk dc oc ov x:=aNj hd hov 10000 x hx (by have:=eX hd hx;omega)
theorem cNd(hd:bZ dc)(hov:∀ n,wJ ov n (oc.contains n)){x:List Int}(hx:x∈dc):cDy dl sk dc oc ov x:=bSq hd hx fun y hy=>bSt hd hov (eJ hy).1
theorem cNe(hd:bZ dc)(hov:∀ n,wJ ov n (oc.contains n)){x:List Int}(hx:x∈dc):cDz dl sk dc oc ov x:=cHe hd hx fun y hy=>bSt hd hov (eJ hy).1
theorem cNf(hd:bZ dc)(hov:∀ n,wJ ov n (oc.contains n)){x:List Int}(hx:x∈dc):bEh dl sk dc oc ov x:=bSr hd hov hx fun y hy=>bSt hd hov (eJ hy).1
theorem bEi(hd:bZ dc)(hov:∀ n,wJ ov n (oc.contains n)):∀ (n:Nat) (x:List Int),x∈dc→10000-dN x≤(n:Int)→cEa dl sk dc oc ov x
 | 0,x,hx,h=>by have:=eX hd hx;omega
 | n+1,x,hx,h=>fun T hT=>by
  obtain ⟨T',h1,h2⟩:=cNe (dl:=dl) (sk:=sk) hd hov hx T hT;rw [bEm hd hx];cases hr:aNp dl oc dc x with
  | none =>
   rw [hr] at h2
   obtain ⟨x0,x1,x2,x3,x4,x5,rfl⟩:=Bo (hd.ud x hx);exact ⟨T',h1,cHt (z0:=0) (z1:=0) (z2:=0) (z3:=0) (z4:=0) (z5:=0) h2 rfl⟩
  | some z =>
   have hz:z∈bN dc (dN x):=by
    rw [aFl hd hx] at hr
    exact xV hr
   obtain ⟨a1,a2⟩:=sW hd hx hz;obtain ⟨T2,h3,h4⟩:=bEi hd hov n z a1 (by omega) T' h1
   rw [hr] at h2
   obtain ⟨x0,x1,x2,x3,x4,x5,rfl⟩:=Bo (hd.ud x hx);obtain ⟨a,b,c,d,e,f,rfl⟩:=Bo (hd.ud z a1);exact ⟨T2,h3,cHs h2 rfl h4⟩
theorem cNg(hd:bZ dc)(hov:∀ n,wJ ov n (oc.contains n)){x:List Int}(hx:x∈dc):cEa dl sk dc oc ov x:=bEi hd hov 10000 x hx (by have:=eX hd hx;omega)
theorem aNk(n:Int):wJ cR n (([]:List Int).contains n):=fun base=>FV.argwk (rA [] n (by simp)) (by kernel_rfl)
theorem aRy{l:List Int}(hl:l.length≤1000)(n:Int):wJ (aE l) n (l.contains n):=fun base=>rA l n hl
end
end
section
variable {P:Program} {T:TT} {E:Env} {C C0:Cx} {M M0 M1:Mem} {w w0:World}

def bkN(all:List Nat)(j:Nat):Option Nat:=all[j]?
def uW(Hi:List Nat):List Nat→Mem→Option Upd
 | i::r,some o::m=>match mpO (bkN Hi) o with
  | some o'=>(uW Hi r m).map ((i,o') :: ·)
  | none=>none
 | [],[]=>some []
 | _,_=>none

theorem aKl{Hi:List Nat}:∀ {ids:List Nat} {m:Mem} {L:Upd},uW Hi ids m=some L→ids.Nodup →
  m.length=ids.length ∧
  ∀ (N:Mem),(∀ (p i:Nat) (o':AO),ids[p]? = some i→(bK (upds N L) i=some o'↔∃ o,m[p]? = some (some o)∧mpO (bkN Hi) o=some o')) ∧
   ∀ j,j∉ids→bK (upds N L) j=bK N j
 | [],[],L,h,_=>by
  unfold uW at h;cases h
  refine ⟨rfl,fun N=>⟨fun p i o' hp=>by simp at hp,fun _ _=>rfl⟩⟩
 | i::r,some o::m,L,h,hd=>by
  unfold uW at h
  split at h
  ·rename_i o' ho
   simp only [lS] at h
   obtain ⟨L',Mo,rfl⟩:=h;obtain ⟨Im,Hq⟩:=List.nodup_cons.1 hd;obtain ⟨q1,q2⟩:=aKl (ids:=r) Mo Hq;refine ⟨by simpa using q1,fun N => ?_⟩
   obtain ⟨r1,r4⟩:=q2 (aW N i (some o'));refine ⟨fun p j o2 hp => ?_,fun j hj => ?_⟩
   ·cases p with
    | zero =>
     simp at hp;subst hp
     simp only [upds];rw [r4 i Im,cZ,if_pos rfl];constructor
     ·intro h;cases h;exact ⟨o,rfl,ho⟩
     ·rintro ⟨o3,h3,h4⟩
      simp at h3;subst h3
      rw [ho] at h4;exact h4
    | succ p =>
     simp only [upds];rw [List.getElem?_cons_succ] at hp
     rw [r1 p j o2 hp];rfl
   ·simp only [upds]
    rw [r4 j (fun e=>hj (Cj _ e)),cZ,if_neg (fun e=>hj (by simp [e]))]
  ·cases h
 | [],_::_,L,h,_=>by unfold uW at h;cases h
 | _::_,[],L,h,_=>by unfold uW at h;cases h
 | _::_,none::_,L,h,_=>by unfold uW at h;cases h

theorem aFr{Hi:List Nat}:∀ {ids:List Nat} {m:Mem} {L:Upd},uW Hi ids m=some L→∀ (p:Nat) (o1:AO),m[p]? = some (some o1)→∃ o',mpO (bkN Hi) o1=some o'
 | [],[],L,h,p,o1,hp=>by simp at hp
 | i::r,some o::m,L,h,p,o1,hp=>by
  unfold uW at h
  split at h
  ·rename_i hx
   simp only [lS] at h
   obtain ⟨L',Mo,_⟩:=h;cases p with
   | zero=>simp at hp;subst hp;exact ⟨_,hx⟩
   | succ p=>exact aFr Mo p o1 (by simpa using hp)
  ·cases h
 | [],_::_,L,h,_,_,_=>by unfold uW at h;cases h
 | _::_,[],L,h,_,_,_=>by unfold uW at h;cases h
 | _::_,none::_,L,h,_,_,_=>by unfold uW at h;cases h

def Cx.backN(C C1:Cx)(all:List Nat):Cx :=
 {ι:=fun j=>match idx all j 0 with | some p=>C1.ι p | none=>C.ι j
  κ:=fun j=>match idx all j 0 with | some p=>C1.κ p | none=>C.κ j
  F:=C1.F }

theorem bTo{ids news:List Nat}{r y:AV}{L:Upd}{C1:Cx}{w':World}{u:Value}(hd:distinct 0 ids=true)(hda:distinct 0 (ids++news)=true)(hb:∀ i∈news,gJ M i=true)
  (hs:rnM 0 ids (ids.map (at? M))=some M0) (hlv:∀ i∈ids,eC M i=true) (hU:uW (ids++news) (ids++news) M1=some L) (hy:mpA (bkN (ids++news)) r=some y)
  (hM:aO P C M w) (hF:Fr (C.rn 0 ids) M0 w C1 M1 w') (Ca:aO P C1 M1 w') (hr:Rep C1 M1 w' r u):Fr C M w (C.backN C1 (ids++news)) (upds M L) w'∧aO P (C.backN C1 (ids++news)) (upds M L) w'∧Rep (C.backN C1 (ids++news)) (upds M L) w' y u:=by
 obtain ⟨_,hnd⟩:=iS hd;obtain ⟨_,hna⟩:=iS hda;obtain ⟨Cy,hmp,hsrc⟩:=rW (k:=0) hM hd hs;have hlen:M0.length=ids.length:=by have:=(aDi hs).1;simpa using this
 generalize hall:ids++news=all at *
 obtain ⟨hl1,hup⟩:=aKl hU hna;obtain ⟨u1,u4⟩:=hup M;have hL:=Cy.le hF;have inA:∀ (p i:Nat),ids[p]? = some i→all[p]? = some i:=fun p i h=>by
  rw [← hall,zP (Bs.1 h).1];exact h
 have memA:∀ i,i∈all↔i∈ids∨i∈news:=fun i=>by rw [← hall];simp
 have newF:∀ (p i:Nat),all[p]? = some i→i∉ids→gJ M i=true:=fun p i h hn=>by
  rcases (memA i).1 (Bp h) with h | h
  ·exact absurd h hn
  ·exact hb i h
 have oldP:∀ (p i:Nat),all[p]? = some i→i∈ids→ids[p]? = some i:=fun p i h hn=>by
  obtain ⟨q,hq,he⟩:=List.mem_iff_getElem.1 hn;have h2:ids[q]? = some i:=by rw [Av hq,he]
  have e1:=qW hna 0 h;have e2:=qW hna 0 (inA q i h2);rw [e1] at e2
  have:p=q:=by simpa using e2
  rw [this];exact h2
 have rnp:∀ p i,ids[p]? = some i→rnI 0 ids i=some p:=fun p i h=>by
  have:=qW hnd 0 h;unfold rnI;rw [show Nat.blt i 0=false from rfl,this,gS]
 have Dl:∀ p i,ids[p]? = some i→∃ o o0,M[i]? = some (some o)∧o.live=true∧M0[p]? = some (some o0)∧o0.live=true∧(C.rn 0 ids).ι p=C.ι i∧(C.rn 0 ids).κ p=C.κ i:=fun p i hp=>by
  obtain ⟨o,h1,h2⟩:=dI (hlv i (Bp hp));obtain ⟨o0,h3,h4⟩:=hmp.fw _ _ _ (rnp p i hp) h1;exact ⟨o,o0,h1,h2,h3,by rw [bI h4];exact h2,hmp.at_ _ _ (rnp p i hp)⟩
 have sh_of:∀ (p:Nat) (o0:AO),M0[p]? = some (some o0)→∃ i o,ids[p]? = some i∧M[i]? = some (some o)∧o.live=true∧o0.live=true∧(C.rn 0 ids).ι p=C.ι i:=fun p o0 hp=>by
  obtain ⟨hl,_⟩:=Bs.1 hp;have I2:ids[p]? = some ids[p]:=Av (by omega)
  obtain ⟨o,o1,h1,h2,h3,h4,h5,_⟩:=Dl p _ I2;rw [hp] at h3;cases h3
  exact ⟨_,o,I2,h1,h2,h4,h5⟩
 have apart:∀ (j:Nat) (o:AO) (b:Nat),j∉ids→M[j]? = some (some o)→o.live=true→C.ι j=some b→w'.heap[b]? = w.heap[b]? ∧ ¬ C1.F b∧∀ (p:Nat) (o1:AO),M1[p]? = some (some o1)→o1.live=true→C1.ι p≠some b:=fun j o b hj h1 h2 h3=>by
  have B5:=hM.lt j o b h1 h2 h3;have Mp:∀ (p:Nat) (o0:AO),M0[p]? = some (some o0)→o0.live=true→(C.rn 0 ids).ι p≠some b:=fun p o0 hp _ he=>by
   obtain ⟨i,o2,q1,q2,q3,_,q4⟩:=sh_of p o0 hp;rw [q4] at he
   have:=hM.inj j i o o2 b h1 h2 q2 q3 h3 he;subst this;exact hj (Bp q1)
  refine ⟨hF.keep b B5 Mp,fun hf => ?_,fun p o1 hp hl he => ?_⟩
  ·rcases hF.F2 b hf with q | q | ⟨p,o0,q1,q2,q3⟩
   ·exact hM.nF j o b h1 h2 h3 q
   ·omega
   ·exact Mp p o0 q1 q2 q3
  ·rcases hF.new p o1 b hp hl he with q | ⟨p0,o0,q1,q2,q3⟩
   ·omega
   ·exact Mp p0 o0 q1 q2 q3
 have ix:∀ j,(j∈all→∃ p,idx all j 0=some p∧all[p]? = some j)∧(j∉all→idx all j 0=none):=fun j=>by
  refine ⟨fun hj => ?_,fun hj => ?_⟩
  ·obtain ⟨p,hp,he⟩:=List.mem_iff_getElem.1 hj
   have:all[p]? = some j:=by rw [Av hp,he]
   exact ⟨p,by simpa using qW hna 0 this,this⟩
  ·cases h1:idx all j 0 with
   | none=>rfl
   | some p =>
    obtain ⟨_,h2⟩:=wY _ _ _ _ h1;exact absurd (Bp h2) hj
 have cls:∀ (j:Nat) (o':AO),(upds M L)[j]? = some (some o')→(∃ p o1,all[p]? = some j∧M1[p]? = some (some o1)∧mpO (bkN all) o1=some o'∧(C.backN C1 all).ι j=C1.ι p∧(C.backN C1 all).κ j=C1.κ p) ∨
   (j∉ids∧j∉all∧M[j]? = some (some o')∧(C.backN C1 all).ι j=C.ι j∧(C.backN C1 all).κ j=C.κ j):=fun j o' hj=>by
  rw [← bD] at hj
  by_cases hm:j∈all
  ·obtain ⟨p,Ib,G6⟩:=(ix j).1 hm
   obtain ⟨o1,h1,h2⟩:=(u1 p j o' G6).1 hj;exact .inl ⟨p,o1,G6,h1,h2,by simp [Cx.backN,Ib],by simp [Cx.backN,Ib]⟩
  ·have hn:=(ix j).2 hm
   rw [u4 j hm] at hj
   exact .inr ⟨fun h=>hm ((memA j).2 (.inl h)),hm,bD.1 hj,by simp [Cx.backN,hn],by simp [Cx.backN,hn]⟩
 have Hm:Fr C M w (C.backN C1 all) (upds M L) w':=by
  refine ⟨hF.os,hF.tape,hF.out,hF.size,fun b B5 hn => ?_,fun i o ho => ?_,fun i o ho ty n cs hx => ?_,fun i o ho o' hx hl => ?_,fun j o b hj hl hjb => ?_,fun b hb=>hF.F1 b hb,fun b hb => ?_⟩
  ·exact hF.keep b B5 fun p o0 hp hl he=>by
    obtain ⟨i,o2,q1,q2,q3,_,q4⟩:=sh_of p o0 hp;rw [q4] at he
    exact hn i o2 q2 q3 he
  ·by_cases hm:i∈all
   ·obtain ⟨p,Ib,G6⟩:=(ix i).1 hm
    have hmi:i∈ids:=Classical.byContradiction fun hni=>cM (newF p i G6 hni) o ho
    obtain ⟨_,o0,_,_,h3,h4,h5,h6⟩:=Dl p i (oldP p i G6 hmi);obtain ⟨⟨o1,q1⟩,q2,q3⟩:=hF.ids p o0 h3;refine ⟨?_,by simp only [Cx.backN,Ib];rw [q2,h5],by simp only [Cx.backN,Ib];rw [q3,h6]⟩
    obtain ⟨o',hq⟩:=aFr hU p o1 q1;exact ⟨o',bD.1 ((u1 p i o' G6).2 ⟨o1,q1,hq⟩)⟩
   ·refine ⟨⟨o,bD.1 (by rw [u4 i hm];exact bD.2 ho)⟩,by simp [Cx.backN,(ix i).2 hm],by simp [Cx.backN,(ix i).2 hm]⟩
  ·rcases cls i _ hx with ⟨p,o1,q1,q2,q3,_⟩ | ⟨_,_,q3,_⟩
   ·have hmi:i∈ids:=Classical.byContradiction fun hni=>cM (newF p i q1 hni) o ho
    have q1:=oldP p i q1 hmi;rw [lK q3] at q2
    obtain ⟨o2,o0,h1,_,h3,_⟩:=Dl p i q1;obtain ⟨Bl,h5⟩:=hF.row p o0 h3 _ _ _ q2;obtain ⟨o4,h6,h7⟩:=hmp.bk _ _ _ (rnp p i q1) h5;rw [lK h7] at h6
    exact ⟨Bl,h6⟩
   ·exact ⟨cs,q3⟩
  ·rcases cls i _ hx with ⟨p,o1,q1,q2,q3,_⟩ | ⟨_,_,q3,_⟩
   ·have hmi:i∈ids:=Classical.byContradiction fun hni=>cM (newF p i q1 hni) o ho
    obtain ⟨o2,o0,h1,h2,h3,_⟩:=Dl p i (oldP p i q1 hmi);rw [ho] at h1;cases h1
    exact h2
   ·rw [ho] at q3;cases q3;exact hl
  ·have fin:∀ (p:Nat) (o1:AO),M1[p]? = some (some o1)→o1.live=true→C1.ι p=some b→w.heap.size≤b∨∃ (Ho:Nat) (o0:AO),M[Ho]? = some (some o0)∧o0.live=true∧C.ι Ho=some b:=fun p o1 h1 h2 h3=>by
    rcases hF.new p o1 b h1 h2 h3 with q | ⟨p0,o0,q1,q2,q3⟩
    ·exact .inl q
    ·obtain ⟨i,o2,r1,r2,r3,_,r4⟩:=sh_of p0 o0 q1
     rw [r4] at q3
     exact .inr ⟨i,o2,r2,r3,q3⟩
   rcases cls j _ hj with ⟨p,o1,q1,q2,q3,q4,_⟩ | ⟨_,_,q3,q4,_⟩
   ·rw [q4] at hjb
    exact fin p o1 q2 (by rw [← bI q3];exact hl) hjb
   ·rw [q4] at hjb
    exact .inr ⟨j,o,q3,hl,hjb⟩
  ·rcases hF.F2 b hb with q | q | ⟨p,o0,q1,q2,q3⟩
   ·exact .inl q
   ·exact .inr (.inl q)
   ·obtain ⟨i,o2,r1,r2,r3,_,r4⟩:=sh_of p o0 q1
    rw [r4] at q3
    exact .inr (.inr ⟨i,o2,r2,r3,q3⟩)
 have Eu:=hM.le Hm;have hbk:bGf (bkN all) C1 (C.backN C1 all) M1 (upds M L):=by
  refine ⟨fun i j o' hij hj=>(u1 i j o' hij).1 (bD.2 hj),fun i j o hij hi => ?_,fun i j hij => ?_,fun _ h=>h⟩
  ·obtain ⟨o',hq⟩:=aFr hU i o hi
   exact ⟨o',bD.1 ((u1 i j o' hij).2 ⟨o,hi,hq⟩),hq⟩
  ·have:=qW hna 0 hij
   rw [gS] at this
   simp [Cx.backN,this]
 refine ⟨Hm,⟨fun j ty n cs h => ?_,fun j ty cs h => ?_,fun j es cl h => ?_,fun j j' o1 o2 b q1 l1 q2 l2 e1 e2 => ?_,fun j o b h hl hb => ?_,Ca.Fs,fun j o b h hl hb => ?_⟩,tV hbk hr hy⟩
 ·rcases cls j _ h with ⟨p,o1,q1,q2,q3,q4,q5⟩ | ⟨q1,_,q3,q4,q5⟩
  ·rw [lK q3] at q2
   rw [q4,q5];exact Ca.row _ _ _ _ q2
  ·rw [q4,q5]
   rcases hM.row _ _ _ _ q3 with q | ⟨b,arr,inf,p0,p1,p2,p3,p4,p5,p6,p7,p8⟩
   ·exact .inl q
   ·exact .inr ⟨b,arr,inf,p0,by rw [(apart j _ b q1 q3 rfl p0).1];exact p1,p2,p3,p4,p5,p6,fun i hi=>(p7 i hi).mono Eu.F Eu.fz,p8⟩
 ·rcases cls j _ h with ⟨p,o1,q1,q2,q3,q4,q5⟩ | ⟨q1,_,q3,q4,q5⟩
  ·cases o1 with
   | box Cr l =>
    simp only [mpO,lS] at q3
    obtain ⟨l',Ea,e⟩:=q3;cases e;obtain ⟨b,arr,p0,p1,p2,p3,p4⟩:=Ca.box _ _ _ q2;obtain ⟨n1,n2⟩:=fY hbk (w:=w') (us:=fun j=>arr.getD j undef) p3 Ea
    exact ⟨b,arr,by rw [q4];exact p0,p1,by omega,n2,fun j hj=>p4 j (by omega)⟩
   | row=>simp [mpO] at q3
   | mp=>simp [mpO] at q3
   | pk=>simp [mpO] at q3
   | dead=>simp [mpO] at q3
  ·obtain ⟨b,arr,p0,p1,p2,p3,p4⟩:=hM.box _ _ _ q3
   exact ⟨b,arr,by rw [q4];exact p0,by rw [(apart j _ b q1 q3 rfl p0).1];exact p1,p2,fun i hi=>(p3 i hi).mono Eu,p4⟩
 ·rcases cls j _ h with ⟨p,o1,q1,q2,q3,q4,q5⟩ | ⟨q1,_,q3,q4,q5⟩
  ·cases o1 with
   | mp Cs D1 =>
    simp only [mpO,Option.some.injEq] at q3
    cases q3;obtain ⟨b,arr,p0,p1,p2,p3⟩:=Ca.mp _ _ _ q2;refine ⟨b,arr,by rw [q4];exact p0,p1,p2,fun j hj => ?_⟩
    obtain ⟨en,s1,s2,s3,s4⟩:=p3 j hj;exact ⟨en,s1,s2,s3,s4.mono hbk.F (fun _ _=>rfl)⟩
   | row=>simp [mpO] at q3
   | box=>simp [mpO] at q3
   | pk=>simp [mpO] at q3
   | dead=>simp [mpO] at q3
  ·obtain ⟨b,arr,p0,p1,p2,p3⟩:=hM.mp _ _ _ q3
   refine ⟨b,arr,by rw [q4];exact p0,by rw [(apart j _ b q1 q3 rfl p0).1];exact p1,p2,fun i hi => ?_⟩
   obtain ⟨en,s1,s2,s3,s4⟩:=p3 i hi;exact ⟨en,s1,s2,s3,s4.mono Eu.F Eu.fz⟩
 ·rcases cls j _ q1 with ⟨p,a1,r1,r2,r3,r4,_⟩ | ⟨r1,rb,r3,r4,_⟩ <;> rcases cls j' _ q2 with ⟨p',a2,t1,t2,t3,t4,_⟩ | ⟨t1,tb,t3,t4,_⟩
  all_goals (rw [r4] at e1;rw [t4] at e2)
  ·have:=Ca.inj p p' a1 a2 b r2 (by rw [← bI r3];exact l1) t2 (by rw [← bI t3];exact l2) e1 e2
   subst this;rw [r1] at t1;cases t1;rfl
  ·exact absurd e1 ((apart j' o2 b t1 t3 l2 e2).2.2 p a1 r2 (by rw [← bI r3];exact l1))
  ·exact absurd e2 ((apart j o1 b r1 r3 l1 e1).2.2 p' a2 t2 (by rw [← bI t3];exact l2))
  ·exact hM.inj j j' o1 o2 b r3 l1 t3 l2 e1 e2
 ·rcases cls j _ h with ⟨p,o1,q1,q2,q3,q4,q5⟩ | ⟨q1,_,q3,q4,q5⟩
  ·rw [q4] at hb
   exact Ca.nF _ _ b q2 (by rw [← bI q3];exact hl) hb
  ·rw [q4] at hb
   exact (apart j o b q1 q3 hl hb).2.1
 ·rcases cls j _ h with ⟨p,o1,q1,q2,q3,q4,q5⟩ | ⟨q1,_,q3,q4,q5⟩
  ·rw [q4] at hb
   exact Ca.lt _ _ b q2 (by rw [← bI q3];exact hl) hb
  ·rw [q4] at hb
   exact fU (hM.lt j o b q3 hl hb) hF.size

def aZl(ids news:List Nat)(args:List AV)(bs:Upd)(M1:Mem)(r:AV):Option (List AV × Mem × AV × Upd):=match distinct 0 ids && distinct 0 (ids++news) && ids.all (eC (upds [] bs)) with
 | true=>match rnM 0 ids (ids.map (at? (upds [] bs))) with
  | some M0=>match rnL 0 ids args with
   | some Bg=>match uW (ids++news) (ids++news) M1 with
    | some L=>match mpA (bkN (ids++news)) r with
     | some y=>some (Bg,M0,y,L)
     | none=>none
    | none=>none
   | none=>none
  | none=>none
 | false=>none
theorem FMM.fcN{f base k:Nat}(hk:Nat.ble k 8=true){ids:List Nat}{args Bg:List AV}{bs:Upd}{r y:AV}{L:Upd}(h:FMM P f Bg M0 r M1)(hs:aZl ids ((List.range k).map (base + ·)) args bs M1 r=some (Bg,M0,y,L)):FC P f args bs base y L:=fun M hb hf Kf=>by
 unfold aZl at hs
 have hsub:aVl (upds [] bs) M:=fun id o ho=>by
  rcases rU bs [] id o ho with h5 | h5
  ·exact hb _ h5
  ·simp [bK] at h5
 split at hs
 ·rename_i hd
  rw [Cc,Cc,gC] at hd
  obtain ⟨⟨Im,Hq⟩,Nu⟩:=hd;have hlv:∀ i∈ids,∃ o,bK (upds [] bs) i=some o∧bK M i=some o∧o.live=true:=fun i hi=>by
   obtain ⟨o,h1,h2⟩:=dI (Nu i hi);exact ⟨o,bD.2 h1,hsub _ _ (bD.2 h1),h2⟩
  split at hs
  ·rename_i h1
   split at hs
   ·rename_i h2
    split at hs
    ·rename_i h3
     split at hs
     ·rename_i h4
      cases hs;have he:ids.map (at? M)=ids.map (at? (upds [] bs)):=xW fun i hi=>by
       obtain ⟨o,q1,q2,_⟩:=hlv i hi;unfold at?
       rw [q1,q2]
      intro C w us hus hM n;have I7:rnM 0 ids (ids.map (at? M))=some M0:=by rw [he];exact h1
      obtain ⟨Cy,hmp,_⟩:=rW (k:=0) hM Im I7;refine (h (C.rn 0 ids) w us (aMu hmp hus h2) Cy n).mono ?_;rintro e w' ⟨u,rfl,C1,hF,Ca,hr⟩;exact ⟨u,rfl,C.backN C1 (ids++(List.range k).map (base + ·)),bTo Im Hq (fun i hi=>by
       obtain ⟨j,hj,rfl⟩:=Bq.1 hi;have hj:=lC.1 hj;have hk:=Nat.le_of_ble_eq_true hk;exact Kf j (by omega)) I7 (fun i hi=>by
       obtain ⟨o,_,q2,q3⟩:=hlv i hi;exact jC (bD.1 q2) q3) h3 h4 hM hF Ca hr⟩
     ·cases hs
    ·cases hs
   ·cases hs
  ·cases hs
 ·cases hs
def qF(ids:List Nat)(base:Nat):=bkN (ids++(List.range 7).map (base+·))
def qN(ids:List Nat)(base:Nat)(x:AV):AV:=(mpA (qF ids base) x).getD .any
theorem mN(ids:List Nat)(base:Nat){P:Program}{f:Nat}{Bg:List AV}{M0 M1:Mem}{r:AV}(h:FMM P f Bg M0 r M1)(hs:aZl ids ((List.range 7).map (base+·)) (Bg.map (qN ids base)) (qS ids (qF ids base) (Bg.map (qN ids base)) M0) M1 r=some (Bg,M0,qN ids base r,(uW (ids++(List.range 7).map (base+·)) (ids++(List.range 7).map (base+·)) M1).getD []):=by kernel_rfl):FC P f (Bg.map (qN ids base)) (qS ids (qF ids base) (Bg.map (qN ids base)) M0) base (qN ids base r) ((uW (ids++(List.range 7).map (base+·)) (ids++(List.range 7).map (base+·)) M1).getD []):=FMM.fcN (k:=7) rfl h hs
end
section
variable {b0 out Bd Iu Iv Fp Ig:Bool}{a b m r0 s0 s1 x0 x1 x2 x3 x4 x5 bib tot Ba D3 Aa Ab Af Ah Ag Ai Ks Kt Ku Kv Kw Kx En:Int}{T t T1 t' D9 T107 T109 T113 T115:Lqb}{l o:List Int}{i i' Hv Cp base:Nat}{ov:PV}
variable {dl:Int}{sk dc:Lqq}

noncomputable abbrev kH:Code:=sub (cd Tryz.f95) [1,1,0,1,0,0]
noncomputable abbrev zW:Code:=sub (cd Tryz.f46) [1,1,1,0,1,0,0]
theorem bSi:0≤(0:Int)∧(0:Int)<5:=by first | decide | simp
theorem bSj:0≤(1:Int)∧(1:Int)<5:=by first | decide | simp
theorem bSk:0≤(2:Int)∧(2:Int)<5:=by first | decide | simp
theorem bSl:0≤(3:Int)∧(3:Int)<5:=by first | decide | simp
theorem bSm:0≤(4:Int)∧(4:Int)<5:=by first | decide | simp
abbrev aCi(dl:Int)(sk dc:Lqq)(ov:PV)(x:List Int)(bib:Int)(b:Bool)(T T2:Lqb):Prop:=FMM Tp 164 [zY,.p (.agg (x.map aA)),.p (aA bib)] (cY dl sk dc ov T) (pB b) (cY dl sk dc ov T2)
abbrev bJs(dl:Int)(sk dc:Lqq)(ov:PV)(s:List Int)(n:Int)(b:Bool)(T T2:Lqb):Prop:=FMM Tp 95 [sX dl sk dc,.p (.agg (s.map aA)),zY] (cY dl sk dc ov T) (.tup [.p (aA n),.p (blP b)]) (cY dl sk dc ov T2)
section
variable(h0:(decide (x1≤4))=true)(h1:x3=bib)(h2:sY dl sk dc ov [x0,x1,x2,x3,x4,x5] b0 T T1)
include h0 h1 h2
theorem cGs(h3:b0=true)(h4:x1≠4):FMM Tp 164 [zY,(.p (dcE x0 x1 x2 x3 x4 x5)),(pI bib)] (cY dl sk dc ov T) (pB true) (cY dl sk dc ov T1):=have k1:=fk 9 (eE x1) rfl;have k2:=mq cu 9 h2;FMM.fi 7 gE func164 ([k1.o]++rT 9++[k2.o]++rT 12) (gc h3 (gc (kS h4) (gc h3 (A4 (kS h4) (A4 h3 (gc (cT h1) (gc k2 (A4 (cT h1) (Cf h0 (gc k1 gn))))))))))
theorem cGt{b2:Bool}{T3:Lqb}(h3:b0=true)(h4:x1=4)(h5:bZj dl sk dc ov [x0,x1,x2,x3,x4,x5] b2 T1 T3):FMM Tp 164 [zY,(.p (dcE x0 x1 x2 x3 x4 x5)),(pI bib)] (cY dl sk dc ov T) (pB b2) (cY dl sk dc ov T3):=have k1:=fk 9 (eE x1) rfl;have k2:=mq cu 9 h2;have k3:=mq cu 9 h5;FMM.fi 7 gE func164 ([k1.o]++rT 9++[k2.o]++rT 5++[bF,bF,bF,bF,k3.o,bT,bF,bT]) (gc h3 (gc (fW h4) (gc h3 (gc k3 (A4 (fW h4) (A4 h3 (gc (cT h1) (gc k2 (A4 (cT h1) (Cf h0 (gc k1 gn)))))))))))
theorem cGu(h3:b0=false):FMM Tp 164 [zY,(.p (dcE x0 x1 x2 x3 x4 x5)),(pI bib)] (cY dl sk dc ov T) (pB false) (cY dl sk dc ov T1):=have k1:=fk 9 (eE x1) rfl;have k2:=mq cu 9 h2;FMM.fi 7 gE func164 ([k1.o]++rT 9++[k2.o,bT]++rF 6) (Lr h3 (gc (cT h1) (gc k2 (A4 (cT h1) (Cf h0 (gc k1 gn))))))
end
theorem cGv(h0:(decide (x1≤4))=true)(h1:x3≠bib):FMM Tp 164 [zY,(.p (dcE x0 x1 x2 x3 x4 x5)),(pI bib)] (cY dl sk dc ov T) (pB false) (cY dl sk dc ov T):=have k1:=fk 9 (eE x1) rfl;FMM.fi 7 gE func164 ([k1.o]++rT 5++rF 5) (Cf (bE h1) (Cf h0 (gc k1 gn)))
theorem cGw(h0:(decide (x1≤4))=false):FMM Tp 164 [zY,(.p (dcE x0 x1 x2 x3 x4 x5)),(pI bib)] (cY dl sk dc ov T) (pB false) (cY dl sk dc ov T):=have k1:=fk 9 (eE x1) rfl;FMM.fi 7 gE func164 ([k1.o]++rF 5) (Cf h0 (gc k1 gn))
theorem cGx(h0:inR (a+b))(Aq:r0=(a+b)):FV Tp 210 [(pI a),(pI b)] base (pI r0) []:=by
 subst Aq;exact FV.fi func210 [] (gc h0 gn)
theorem cGy(h0:inR (a-b))(Aq:r0=(a-b)):FV Tp 211 [(pI a),(pI b)] base (pI r0) []:=by
 subst Aq;exact FV.fi func211 [] (gc h0 gn)
theorem cGz(h0:inR ((1200:Int)*b))(h1:inR (a+((1200:Int)*b)))(Aq:r0=(a+((1200:Int)*b))):FV Tp 212 [(pI a),(pI b)] base (pI r0) []:=by
 subst Aq;exact FV.fi func212 [] (gc h1 (gc h0 gn))
theorem cHa:FV Tp 213 [(pI a),(pI b)] base (pI a) []:=FV.fi func213 [] gn
theorem aNg(a b:Int)(h:inR (a+b)){base:Nat}:FV Tp 210 [.p (aA a),.p (aA b)] base (pI (a+b)) []:=cGx h rfl
theorem bSn(a b:Int)(h:inR (a-b)){base:Nat}:FV Tp 211 [.p (aA a),.p (aA b)] base (pI (a-b)) []:=cGy h rfl
theorem bSo(a b:Int)(h:inR (1200*b)∧inR (a+1200*b)){base:Nat}:FV Tp 212 [.p (aA a),.p (aA b)] base (pI (a+1200*b)) []:=cGz h.1 h.2 rfl
theorem bSp(a b:Int){base:Nat}:FV Tp 213 [.p (aA a),.p (aA b)] base (pI a) []:=cHa
theorem oO:FV Tp 165 [] base (.agg [(.fn 210 [] []),(.fn 211 [] []),(.fn 212 [] []),(.fn 213 [] []),(.fn 210 [] [])]) []:=FV.fi func165 [] gn
def sV(l:List Int)(m:Int)(i:Nat):St:=⟨fr 18 [(0,(pI m)),(4,(pI 0)),(7,(.p (aE l))),(8,(pI (l.length:Int))),(9,(pI (i:Int)))],[]⟩
theorem cHb{Ub:Int}(hl0:aF Tp 0 (sub (cd Tryz.f159) dh) (sV l a 0) (.exit 0) (sV l Ub Hv)):FV Tp 159 [(pI a),(.p (aE l))] base (pI Ub) []:=FV.fi func159 [hl0.k 6 (gZ [1,3,5,2,10,7])] (gc hl0.code gn)
theorem bJt{Ad m':Int}(h0:(i:Int)<(l.length:Int))(h1:l[i]? = some Ad)(h2:dv i)(Sd:m'=(if Ad > m then Ad else m))(Ak:i'=(i+1)):aB Tp 0 (sub (cd Tryz.f159) dh) (sV l m i) .normal (sV l m' i'):=by
 subst Sd Ak;exact aB.fi (gZ [1,3,5,2,10,7]) [bT,.x (aA Ad)] (gc h2 (gc (atm aA h1) (gc (ixn aA h1) (g0 h0))))
theorem bJu(h0:(l.length:Int)≤(i:Int)):aB Tp 0 (sub (cd Tryz.f159) dh) (sV l m i) (.exit 0) (sV l m i):=aB.fi (gZ [1,3,5,2,10,7]) [bF] (gc (aQ h0) gn)
def aCj(a:Int)(l:List Int):Int:=l.foldl (fun m x=>if x > m then x else m) a
theorem aYo(a:Int)(l:List Int)(hl:l.length≤1000){base:Nat}:FV Tp 159 [.p (aA a),.p (aE l)] base (pI (aCj a l)) [] :=
 cHb (aF.range (P:=Tp) (k:=0) (e := .exit 0) (fun i m=>sV l m i) (fun m=>sV l m l.length) (fun m x=>if x > m then x else m) (fun _ _=>True) (by simp) l trivial
  (fun i x acc hx _=>⟨trivial,bJt (by have:=aT hx;omega) hx (aI (by have:=aT hx;omega)) rfl rfl⟩) (fun acc _=>bJu (by omega)))
def tot_S0(dl:Int)(sk dc:Lqq)(ov:PV)(s0 s1:Int)(out:Bool)(tot:Int)(i:Nat)(te:List (Value × PV))(tk:Nat):St:=⟨fr 54 [(4,(.ptr 7 0)),(5,(.ptr 8 0)),(6,(pI 0)),(7,(.kb false)),(8,(pB out)),(9,(pI tot)),(21,(.p (fS dc))),(22,(pI (dc.length:Int))),(23,(pI (i:Int)))],[some (Hw dl sk dc),some (.box 31 [(.p ov)]),some G9,some (.mp te tk),some (.box 183 [(.mp 3)]),some (Hy dl sk dc),some Hz,some (.box 80 [(pI s0),(pI s1)]),some G9]⟩
section
variable(hl0:aF Tp 7 kH (tot_S0 dl sk dc ov s0 s1 (s1 == (-1)) s1 0 (aN T) T.length) (.exit 0) (tot_S0 dl sk dc ov s0 s1 Ig En Cp (aN D9) D9.length))
include hl0
theorem tot_p0(h1:Ig=true):FMM Tp 95 [(.rp (cC dl sk dc) 0),(.p (.agg [(aA s0),(aA s1)])),zY] (cY dl sk dc ov T) (.tup [(pI 0),(pB true)]) (cY dl sk dc ov D9):=FMM.fi 7 gE func95 [.x (fS dc),hl0.k 1 (gI ck [7,8]),bT] (gc h1 (gc hl0.code (gr (fS dc) gn)))
theorem cHc(h1:Ig=false)(h2:([En]:List Int).length≤1000)(Aq:r0=(aCj 0 ([En]:List Int))):FMM Tp 95 [(.rp (cC dl sk dc) 0),(.p (.agg [(aA s0),(aA s1)])),zY] (cY dl sk dc ov T) (.tup [(pI r0),(pB false)]) (cY dl sk dc ov D9):=by
 subst Aq;exact FMM.fi 7 gE func95 [.x (fS dc),hl0.k 1 (gI ck [7,8]),bF,.c (pI (aCj 0 ([En]:List Int))) []] (gt (FC Tp 159 [(pI 0),(.own 9)] [(9,(.row 3 1 [(aA En)]))] 10 (pI (aCj 0 ([En]:List Int))) []) (fv (aYo 0 ([En]:List Int) h2)) (gc h1 (gc hl0.code (gr (fS dc) gn))))
end
section
variable(h0:(i:Int)<(dc.length:Int))(h1:dc[i]? = some [Aa,(0:Int),Af,Ah,Ag,Ai])(h2:uni 6 dc)(h3:aCi dl sk dc ov [Aa,(0:Int),Af,Ah,Ag,Ai] s0 Bd t T107)(h4:Bd=true)
include h0 h1 h2 h3 h4
theorem tot_L0_p0(h5:out=true)(h6:aCk dl sk dc ov [Aa,(0:Int),Af,Ah,Ag,Ai] Ba T107 T109)(h7:inR (tot+Ba))(h8:dv i)(Cq:D3=(tot+Ba))(Ak:i'=(i+1))(A2:aN t'=(aN T109))(A3:t'.length=T109.length):aB Tp 7 kH (tot_S0 dl sk dc ov s0 s1 out tot i (aN t) t.length) .normal (tot_S0 dl sk dc ov s0 s1 true D3 i' (aN t') t'.length):=by
 subst Cq Ak;have k1:=mq cu 10 h3;have k2:=fk 10 oO rfl;have k3:=mq cu 18 h6;rw [A2,A3];exact aB.fi (gN ck [7,8] [(8,0)]) ([bT,.x (dcE Aa 0 Af Ah Ag Ai),k1.o]++rT 5++[k2.o,k3.o,.c (pI (tot+Ba)) []]) (gc h8 (gc (fk 26 (aNg tot Ba h7) rfl) (gc k3 (gc bSi (gc k2 (A4 h5 (gc h4 (gc k1 (gfl h2 h1 (g0 h0))))))))))
theorem tot_L0_p1(h5:out=false)(h6:aCk dl sk dc ov [Aa,(0:Int),Af,Ah,Ag,Ai] Ba T107 T109)(h7:inR (tot+Ba))(h8:dv i)(Ef:Fp=((0:Int) == 3))(Cq:D3=(tot+Ba))(Ak:i'=(i+1))(A2:aN t'=(aN T109))(A3:t'.length=T109.length):aB Tp 7 kH (tot_S0 dl sk dc ov s0 s1 out tot i (aN t) t.length) .normal (tot_S0 dl sk dc ov s0 s1 Fp D3 i' (aN t') t'.length):=by
 subst Ef Cq Ak;have k1:=mq cu 10 h3;have k2:=fk 10 oO rfl;have k3:=mq cu 18 h6;rw [A2,A3];exact aB.fi (gI ck [7,8]) [bT,.x (dcE Aa 0 Af Ah Ag Ai),k1.o,bT,bF,bF,bF,bF,k2.o,k3.o,.c (pI (tot+Ba)) []] (gc h8 (gc (fk 26 (aNg tot Ba h7) rfl) (gc k3 (gc bSi (gc k2 (A4 h5 (gc h4 (gc k1 (gfl h2 h1 (g0 h0))))))))))
end
section
variable(h0:(i:Int)<(dc.length:Int))(h1:dc[i]? = some [Aa,(1:Int),Af,Ah,Ag,Ai])(h2:uni 6 dc)(h3:aCi dl sk dc ov [Aa,(1:Int),Af,Ah,Ag,Ai] s0 Bd t T107)(h4:Bd=true)
include h0 h1 h2 h3 h4
theorem bJv(h5:out=true)(h6:aCk dl sk dc ov [Aa,(1:Int),Af,Ah,Ag,Ai] Ba T107 T109)(h7:inR (tot-Ba))(h8:dv i)(Cq:D3=(tot-Ba))(Ak:i'=(i+1))(A2:aN t'=(aN T109))(A3:t'.length=T109.length):aB Tp 7 kH (tot_S0 dl sk dc ov s0 s1 out tot i (aN t) t.length) .normal (tot_S0 dl sk dc ov s0 s1 true D3 i' (aN t') t'.length):=by
 subst Cq Ak;have k1:=mq cu 10 h3;have k2:=fk 10 oO rfl;have k3:=mq cu 18 h6;rw [A2,A3];exact aB.fi (gN ck [7,8] [(8,0)]) ([bT,.x (dcE Aa 1 Af Ah Ag Ai),k1.o]++rT 5++[k2.o,k3.o,.c (pI (tot-Ba)) []]) (gc h8 (gc (fk 26 (bSn tot Ba h7) rfl) (gc k3 (gc bSj (gc k2 (A4 h5 (gc h4 (gc k1 (gfl h2 h1 (g0 h0))))))))))
theorem bJw(h5:out=false)(h6:aCk dl sk dc ov [Aa,(1:Int),Af,Ah,Ag,Ai] Ba T107 T109)(h7:inR (tot-Ba))(h8:dv i)(Ef:Fp=((1:Int) == 3))(Cq:D3=(tot-Ba))(Ak:i'=(i+1))(A2:aN t'=(aN T109))(A3:t'.length=T109.length):aB Tp 7 kH (tot_S0 dl sk dc ov s0 s1 out tot i (aN t) t.length) .normal (tot_S0 dl sk dc ov s0 s1 Fp D3 i' (aN t') t'.length):=by
 subst Ef Cq Ak;have k1:=mq cu 10 h3;have k2:=fk 10 oO rfl;have k3:=mq cu 18 h6;rw [A2,A3];exact aB.fi (gI ck [7,8]) [bT,.x (dcE Aa 1 Af Ah Ag Ai),k1.o,bT,bF,bF,bF,bF,k2.o,k3.o,.c (pI (tot-Ba)) []] (gc h8 (gc (fk 26 (bSn tot Ba h7) rfl) (gc k3 (gc bSj (gc k2 (A4 h5 (gc h4 (gc k1 (gfl h2 h1 (g0 h0))))))))))
end
section
variable(h0:(i:Int)<(dc.length:Int))(h1:dc[i]? = some [Aa,(2:Int),Af,Ah,Ag,Ai])(h2:uni 6 dc)(h3:aCi dl sk dc ov [Aa,(2:Int),Af,Ah,Ag,Ai] s0 Bd t T107)(h4:Bd=true)
include h0 h1 h2 h3 h4
theorem bJx(h5:out=true)(h6:aCk dl sk dc ov [Aa,(2:Int),Af,Ah,Ag,Ai] Ba T107 T109)(h7:inR (1200*Ba)∧inR (tot+1200*Ba))(h8:dv i)(Cq:D3=(tot+1200*Ba))(Ak:i'=(i+1))(A2:aN t'=(aN T109))(A3:t'.length=T109.length):aB Tp 7 kH (tot_S0 dl sk dc ov s0 s1 out tot i (aN t) t.length) .normal (tot_S0 dl sk dc ov s0 s1 true D3 i' (aN t') t'.length):=by
 subst Cq Ak;have k1:=mq cu 10 h3;have k2:=fk 10 oO rfl;have k3:=mq cu 18 h6;have k4:=fk 26 (bSo tot Ba h7) rfl;rw [A2,A3];exact aB.fi (gN ck [7,8] [(8,0)]) ([bT,.x (dcE Aa 2 Af Ah Ag Ai),k1.o]++rT 5++[k2.o,k3.o,k4.o]) (gc h8 (gc k4 (gc k3 (gc bSk (gc k2 (A4 h5 (gc h4 (gc k1 (gfl h2 h1 (g0 h0))))))))))
theorem bJy(h5:out=false)(h6:aCk dl sk dc ov [Aa,(2:Int),Af,Ah,Ag,Ai] Ba T107 T109)(h7:inR (1200*Ba)∧inR (tot+1200*Ba))(h8:dv i)(Ef:Fp=((2:Int) == 3))(Cq:D3=(tot+1200*Ba))(Ak:i'=(i+1))(A2:aN t'=(aN T109))(A3:t'.length=T109.length):aB Tp 7 kH (tot_S0 dl sk dc ov s0 s1 out tot i (aN t) t.length) .normal (tot_S0 dl sk dc ov s0 s1 Fp D3 i' (aN t') t'.length):=by
 subst Ef Cq Ak;have k1:=mq cu 10 h3;have k2:=fk 10 oO rfl;have k3:=mq cu 18 h6;have k4:=fk 26 (bSo tot Ba h7) rfl;rw [A2,A3];exact aB.fi (gI ck [7,8]) [bT,.x (dcE Aa 2 Af Ah Ag Ai),k1.o,bT,bF,bF,bF,bF,k2.o,k3.o,k4.o] (gc h8 (gc k4 (gc k3 (gc bSk (gc k2 (A4 h5 (gc h4 (gc k1 (gfl h2 h1 (g0 h0))))))))))
end
section
variable(h0:(i:Int)<(dc.length:Int))(h1:dc[i]? = some [Aa,(3:Int),Af,Ah,Ag,Ai])(h2:uni 6 dc)(h3:aCi dl sk dc ov [Aa,(3:Int),Af,Ah,Ag,Ai] s0 Bd t T107)(h4:Bd=true)
include h0 h1 h2 h3 h4
theorem bJz(h5:out=true)(h6:aCk dl sk dc ov [Aa,(3:Int),Af,Ah,Ag,Ai] Ba T107 T109)(h7:dv i)(Ak:i'=(i+1))(A2:aN t'=(aN T109))(A3:t'.length=T109.length):aB Tp 7 kH (tot_S0 dl sk dc ov s0 s1 out tot i (aN t) t.length) .normal (tot_S0 dl sk dc ov s0 s1 true tot i' (aN t') t'.length):=by
 subst Ak;have k1:=mq cu 10 h3;have k2:=fk 10 oO rfl;have k3:=mq cu 18 h6;rw [A2,A3];exact aB.fi (gN ck [7,8] [(8,0)]) ([bT,.x (dcE Aa 3 Af Ah Ag Ai),k1.o]++rT 5++[k2.o,k3.o,.c (pI tot) []]) (gc h7 (gc (fk 26 (bSp tot Ba) rfl) (gc k3 (gc bSl (gc k2 (A4 h5 (gc h4 (gc k1 (gfl h2 h1 (g0 h0))))))))))
theorem bKa(h5:out=false)(h6:aCk dl sk dc ov [Aa,(3:Int),Af,Ah,Ag,Ai] Ba T107 T109)(h7:dv i)(Ef:Fp=((3:Int) == 3))(Ak:i'=(i+1))(A2:aN t'=(aN T109))(A3:t'.length=T109.length):aB Tp 7 kH (tot_S0 dl sk dc ov s0 s1 out tot i (aN t) t.length) .normal (tot_S0 dl sk dc ov s0 s1 Fp tot i' (aN t') t'.length):=by
 subst Ef Ak;have k1:=mq cu 10 h3;have k2:=fk 10 oO rfl;have k3:=mq cu 18 h6;rw [A2,A3];exact aB.fi (gI ck [7,8]) [bT,.x (dcE Aa 3 Af Ah Ag Ai),k1.o,bT,bF,bF,bF,bF,k2.o,k3.o,.c (pI tot) []] (gc h7 (gc (fk 26 (bSp tot Ba) rfl) (gc k3 (gc bSl (gc k2 (A4 h5 (gc h4 (gc k1 (gfl h2 h1 (g0 h0))))))))))
end
section
variable(h0:(i:Int)<(dc.length:Int))(h1:dc[i]? = some [Aa,(4:Int),Af,Ah,Ag,Ai])(h2:uni 6 dc)(h3:aCi dl sk dc ov [Aa,(4:Int),Af,Ah,Ag,Ai] s0 Bd t T107)(h4:Bd=true)
include h0 h1 h2 h3 h4
theorem bKb(h5:out=true)(h6:aCk dl sk dc ov [Aa,(4:Int),Af,Ah,Ag,Ai] Ba T107 T109)(h7:inR (tot+Ba))(h8:dv i)(Cq:D3=(tot+Ba))(Ak:i'=(i+1))(A2:aN t'=(aN T109))(A3:t'.length=T109.length):aB Tp 7 kH (tot_S0 dl sk dc ov s0 s1 out tot i (aN t) t.length) .normal (tot_S0 dl sk dc ov s0 s1 true D3 i' (aN t') t'.length):=by
 subst Cq Ak;have k1:=mq cu 10 h3;have k2:=fk 10 oO rfl;have k3:=mq cu 18 h6;rw [A2,A3];exact aB.fi (gN ck [7,8] [(8,0)]) ([bT,.x (dcE Aa 4 Af Ah Ag Ai),k1.o]++rT 5++[k2.o,k3.o,.c (pI (tot+Ba)) []]) (gc h8 (gc (fk 26 (aNg tot Ba h7) rfl) (gc k3 (gc bSm (gc k2 (A4 h5 (gc h4 (gc k1 (gfl h2 h1 (g0 h0))))))))))
theorem bKc(h5:out=false)(h6:aCk dl sk dc ov [Aa,(4:Int),Af,Ah,Ag,Ai] Ba T107 T109)(h7:inR (tot+Ba))(h8:dv i)(Ef:Fp=((4:Int) == 3))(Cq:D3=(tot+Ba))(Ak:i'=(i+1))(A2:aN t'=(aN T109))(A3:t'.length=T109.length):aB Tp 7 kH (tot_S0 dl sk dc ov s0 s1 out tot i (aN t) t.length) .normal (tot_S0 dl sk dc ov s0 s1 Fp D3 i' (aN t') t'.length):=by
 subst Ef Cq Ak;have k1:=mq cu 10 h3;have k2:=fk 10 oO rfl;have k3:=mq cu 18 h6;rw [A2,A3];exact aB.fi (gI ck [7,8]) [bT,.x (dcE Aa 4 Af Ah Ag Ai),k1.o,bT,bF,bF,bF,bF,k2.o,k3.o,.c (pI (tot+Ba)) []] (gc h8 (gc (fk 26 (aNg tot Ba h7) rfl) (gc k3 (gc bSm (gc k2 (A4 h5 (gc h4 (gc k1 (gfl h2 h1 (g0 h0))))))))))
end
theorem aYp(h0:(i:Int)<(dc.length:Int))(h1:dc[i]? = some [Aa,Ab,Af,Ah,Ag,Ai])(h2:uni 6 dc)(h3:aCi dl sk dc ov [Aa,Ab,Af,Ah,Ag,Ai] s0 Bd t T107)(h4:Bd=false)(h5:dv i)(Ak:i'=(i+1))(A2:aN t'=(aN T107))(A3:t'.length=T107.length):aB Tp 7 kH (tot_S0 dl sk dc ov s0 s1 out tot i (aN t) t.length) .normal (tot_S0 dl sk dc ov s0 s1 out tot i' (aN t') t'.length):=by
 subst Ak;have k1:=mq cu 10 h3;rw [A2,A3];exact aB.fi (gI ck [7,8]) [bT,.x (dcE Aa Ab Af Ah Ag Ai),k1.o,bF] (gc h5 (gc h4 (gc k1 (gfl h2 h1 (g0 h0)))))
theorem aYq(h0:(dc.length:Int)≤(i:Int)):aB Tp 7 kH (tot_S0 dl sk dc ov s0 s1 out tot i (aN t) t.length) (.exit 0) (tot_S0 dl sk dc ov s0 s1 out tot i (aN t) t.length):=aB.fi (gI ck [7,8]) [bF] (gc (aQ h0) gn)
def kI(dl:Int)(sk dc:Lqq)(on:Nat)(oc:List PV)(i:Nat)(te:List (Value × PV))(tk:Nat):St:=⟨fr 48 [(2,(.p cR)),(3,(.ptr 7 0)),(4,(.own 8)),(15,(.p (fS dc))),(16,(pI (dc.length:Int))),(17,(pI (i:Int)))],[some (Hw dl sk dc),some (.box 31 [(.p cR)]),some G9,some (.mp te tk),some (.box 183 [(.mp 3)]),some (Hy dl sk dc),some Hz,some G9,some (.row 3 on oc)]⟩
theorem cHd{L3:List Int}{Uc:Lqb}(hl0:aF Tp 0 zW (kI dl sk dc 0 [] 0 (aN ([]:Lqb)) 0) (.exit 0) (kI dl sk dc L3.length (L3.map aA) Hv (aN Uc) Uc.length)):FV Tp 46 [(.rp (cC dl sk dc) 0)] base (.own base) [(base,(.row 3 L3.length (L3.map aA)))]:=have k1:=mN [] 0 (aNn (dl:=dl) (sk:=sk) (dc:=dc));FV.fi func46 [k1.o,.x (fS dc),hl0.k 1 (gN co c9 [(4,3)])] (gc hl0.code (gr (fS dc) (gc k1 gn)))
section
variable(h0:(i:Int)<(dc.length:Int))(h1:dc[i]? = some [Aa,Ab,Af,Ah,Ag,Ai])(h2:uni 6 dc)(h3:aRz dl sk dc cR [Aa,Ab,Af,Ah,Ag,Ai] [Ks,Kt,Ku,Kv,Kw,Kx] Iu t T113)
include h0 h1 h2 h3
theorem bKd{o':List Int}(h4:(jR Ab)=true)(h5:sY dl sk dc cR [Aa,Ab,Af,Ah,Ag,Ai] Iv T113 T115)(h6:Iv=true)(h7:Iu=false)(h8:[(aA Aa)].length=1*1∧o.length+1≤1000000)(h9:dv i)(A6:o'.length=(o.length+1))(A7:o'.map aA=((o.map aA)++[(aA Aa)]))(Ak:i'=(i+1))(A2:aN t'=(aN T115))(A3:t'.length=T115.length):aB Tp 0 zW (kI dl sk dc o.length (o.map aA) i (aN t) t.length) .normal (kI dl sk dc o'.length (o'.map aA) i' (aN t') t'.length):=by
 subst Ak;have k1:=mq cu 10 h3;have k2:=fk 11 (zZ Ab) rfl;have k3:=mq cu 11 h5;rw [A6,A7,A2,A3];exact aB.fi (gI co [0,1,2,3,4,5,6,7,12]) ([bT,.x (dcE Aa Ab Af Ah Ag Ai),k1.o,k2.o,bT,bT,bT,bT,k3.o]++rT 5) (gc h9 (gc h8 (gc (cA h7) (Ay h6 (gc h4 (gc k3 (A4 h4 (gc k2 (gc k1 (gfl h2 h1 (g0 h0)))))))))))
theorem bKe(h4:(jR Ab)=true)(h5:sY dl sk dc cR [Aa,Ab,Af,Ah,Ag,Ai] Iv T113 T115)(h6:Iv=true)(h7:Iu=true)(h8:dv i)(Ak:i'=(i+1))(A2:aN t'=(aN T115))(A3:t'.length=T115.length):aB Tp 0 zW (kI dl sk dc o.length (o.map aA) i (aN t) t.length) .normal (kI dl sk dc o.length (o.map aA) i' (aN t') t'.length):=by
 subst Ak;have k1:=mq cu 10 h3;have k2:=fk 11 (zZ Ab) rfl;have k3:=mq cu 11 h5;rw [A2,A3];exact aB.fi (gI co c9) [bT,.x (dcE Aa Ab Af Ah Ag Ai),k1.o,k2.o,bT,bT,bT,bT,k3.o,bT,bT,bT,bT,bF] (gc h8 (gc (aL h7) (Ay h6 (gc h4 (gc k3 (A4 h4 (gc k2 (gc k1 (gfl h2 h1 (g0 h0))))))))))
theorem bKf(h4:(jR Ab)=true)(h5:sY dl sk dc cR [Aa,Ab,Af,Ah,Ag,Ai] Iv T113 T115)(h6:Iv=false)(h7:dv i)(Ak:i'=(i+1))(A2:aN t'=(aN T115))(A3:t'.length=T115.length):aB Tp 0 zW (kI dl sk dc o.length (o.map aA) i (aN t) t.length) .normal (kI dl sk dc o.length (o.map aA) i' (aN t') t'.length):=by
 subst Ak;have k1:=mq cu 10 h3;have k2:=fk 11 (zZ Ab) rfl;have k3:=mq cu 11 h5;rw [A2,A3];exact aB.fi (gI co c9) [bT,.x (dcE Aa Ab Af Ah Ag Ai),k1.o,k2.o,bT,bT,bT,bT,k3.o,bT,bF,bF,bF] (gc h7 (Ay h6 (gc h4 (gc k3 (A4 h4 (gc k2 (gc k1 (gfl h2 h1 (g0 h0)))))))))
theorem bKg(h4:(jR Ab)=false)(h5:dv i)(Ak:i'=(i+1))(A2:aN t'=(aN T113))(A3:t'.length=T113.length):aB Tp 0 zW (kI dl sk dc o.length (o.map aA) i (aN t) t.length) .normal (kI dl sk dc o.length (o.map aA) i' (aN t') t'.length):=by
 subst Ak;have k1:=mq cu 10 h3;have k2:=fk 11 (zZ Ab) rfl;rw [A2,A3];exact aB.fi (gI co c9) ([bT,.x (dcE Aa Ab Af Ah Ag Ai),k1.o,k2.o]++rF 5) (gc h5 (Cf h4 (gc k2 (gc k1 (gfl h2 h1 (g0 h0))))))
end
theorem bKh(h0:(dc.length:Int)≤(i:Int)):aB Tp 0 zW (kI dl sk dc o.length (o.map aA) i (aN t) t.length) (.exit 0) (kI dl sk dc o.length (o.map aA) i (aN t) t.length):=aB.fi (gI co c9) [bF] (gc (aQ h0) gn)
end
end KV
end Go.Proofs
