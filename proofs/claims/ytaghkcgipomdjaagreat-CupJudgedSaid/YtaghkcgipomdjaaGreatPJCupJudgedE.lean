/- Parts of the proof of JCupJudged: laws of walks, contracts of functions, plain models. No condition. -/
import Derived.Deep.QuietTactic
import Derived.BigQuiet
import Derived.StillTail
import Derived.OrdersHeld
import Derived.WalkKit
import Derived.Shelf.Abstract
import Derived.Sort.OwnSortedInts
import Derived.Lib.OwnBridge
import Derived.OneCell
import Derived.Deep.MidRow
import Derived.ChangeKeysEq
import Derived.Deep.Cut
import Derived.RangeFuncNested
import Derived.RangeFuncLeaves
import Derived.OwnWalkIn
import Derived.TacticsInMore
import Derived.LoopNIn
import Derived.LoopIn
import Derived.Shelf.Small.Bits
import Derived.Maps.Keyed
import Derived.Maps.AppendAt
import Derived.Great.BuildSlice
import Derived.Test.YtaghkcgipomdjaaGreatPJCupJudgedD
set_option linter.unusedVariables false
set_option linter.unusedSimpArgs false
set_option maxRecDepth 100000
section
namespace Go.Proofs
open KC
namespace KV
open Tryz
variable {Ax:Int}{F G Ao:List Int}{i j s j':Nat}
namespace CU
noncomputable abbrev aEv:Code:=sub (cd Tryz.f58) [1,1,1,0,1,0,0]
noncomputable abbrev aMe:Code:=sub (cd Tryz.f58) [1,1,0,1,0,0]
def rO(c:KC.Cup)(s i:Nat)(Fc:List PV):St:=⟨fr 59 [(1,(pI (s:Int))),(2,(.ptr 0 0)),(4,(.ptr 1 0)),(5,(.ptr 2 0)),(12,(.p (aC (KC.countedL c s)))),(13,(pI ((KC.countedL c s).length:Int))),(14,(pI (i:Int)))],[some (.box 98 [(pI c.sk),(pI c.ra),(pI c.be),(.p (aC c.pts)),(.p (aR c.done))]),some (.row 125 1 [(aA 0),(aA 0),(aA 0),(aA 0),(aA 0),(aA 0),(aA 0),(aA 0),(aA 0),(aA 0),(aA 0),(aA 0),(aA 0),(aA 0),(aA 0),(aA 0),(aA 0),(aA 0),(aA 0),(aA 0),(aA 0),(aA 0),(aA 0),(aA 0),(aA 0),(aA 0),(aA 0),(aA 0),(aA 0),(aA 0),(aA 0),(aA 0),(aA 0),(aA 0),(aA 0),(aA 0),(aA 0),(aA 0),(aA 0),(aA 0),(aA 0),(aA 0),(aA 0),(aA 0),(aA 0),(aA 0),(aA 0),(aA 0),(aA 0),(aA 0),(aA 0),(aA 0),(aA 0),(aA 0),(aA 0),(aA 0),(aA 0),(aA 0),(aA 0),(aA 0),(aA 0),(aA 0)]),some (.row 125 1 Fc)]⟩
def nM(c:KC.Cup)(s j:Nat)(Gc:List PV):St:=⟨fr 59 [(1,(pI (s:Int))),(4,(.ptr 0 0)),(5,(.ptr 1 0)),(36,(.p (aR c.done))),(37,(pI (c.done.length:Int))),(38,(pI (j:Int)))],[some (.row 125 1 [(aA 0),(aA 0),(aA 0),(aA 0),(aA 0),(aA 0),(aA 0),(aA 0),(aA 0),(aA 0),(aA 0),(aA 0),(aA 0),(aA 0),(aA 0),(aA 0),(aA 0),(aA 0),(aA 0),(aA 0),(aA 0),(aA 0),(aA 0),(aA 0),(aA 0),(aA 0),(aA 0),(aA 0),(aA 0),(aA 0),(aA 0),(aA 0),(aA 0),(aA 0),(aA 0),(aA 0),(aA 0),(aA 0),(aA 0),(aA 0),(aA 0),(aA 0),(aA 0),(aA 0),(aA 0),(aA 0),(aA 0),(aA 0),(aA 0),(aA 0),(aA 0),(aA 0),(aA 0),(aA 0),(aA 0),(aA 0),(aA 0),(aA 0),(aA 0),(aA 0),(aA 0),(aA 0)]),some (.row 125 1 Gc)]⟩
theorem cDh{c:KC.Cup}{Ar:Nat}{F'1:List Int}{N0:Nat}{G'3:List Int}(h0:KC.Valid c)(h1:((s:Nat):Int)<c.sk)(Bo:aE Tp 0 aMe (rO c s 0 [(aA 0),(aA 0),(aA 0),(aA 0),(aA 0),(aA 0),(aA 0),(aA 0),(aA 0),(aA 0),(aA 0),(aA 0),(aA 0),(aA 0),(aA 0),(aA 0),(aA 0),(aA 0),(aA 0),(aA 0),(aA 0),(aA 0),(aA 0),(aA 0),(aA 0),(aA 0),(aA 0),(aA 0),(aA 0),(aA 0),(aA 0),(aA 0),(aA 0),(aA 0),(aA 0),(aA 0),(aA 0),(aA 0),(aA 0),(aA 0),(aA 0),(aA 0),(aA 0),(aA 0),(aA 0),(aA 0),(aA 0),(aA 0),(aA 0),(aA 0),(aA 0),(aA 0),(aA 0),(aA 0),(aA 0),(aA 0),(aA 0),(aA 0),(aA 0),(aA 0),(aA 0),(aA 0)]) (.exit 0) (rO c s Ar (F'1.map aA)))(Cw:aE Tp 0 aEv (nM c s 0 (F'1.map aA)) (.exit 2) (nM c s N0 (G'3.map aA)))(h4:G'3.length=62)(h5:(G'3.map aA).length=62){base:Nat}:FV Tp 58 [(.p (cupP c)),(pI (s:Int))] base (.p (.agg (G'3.map aA))) []:=have k1:=fk 3 (aXg c h0 s h1) rfl;FV.fi func58 [k1.o,Bo.k 1 (gI bh [0,1,2]),Cw.k 4 (gI c6 [1,2]),.x (.agg (G'3.map aA)),.x (.agg (G'3.map aA))] (gt (some (.agg ((((G'3.map aA)++[]).drop 0).take 62):PV)=some (.agg (G'3.map aA))) (by rw [List.append_nil,List.drop_zero,List.take_of_length_le (by rw [Bt,h4];exact dJ _)]) (gt (0+62≤((G'3.map aA)++[]).length) (by rw [List.append_nil,Bt,h4];exact dJ _) (gt ((G'3.map aA).length=62∧0+62≤[(aA 0),(aA 0),(aA 0),(aA 0),(aA 0),(aA 0),(aA 0),(aA 0),(aA 0),(aA 0),(aA 0),(aA 0),(aA 0),(aA 0),(aA 0),(aA 0),(aA 0),(aA 0),(aA 0),(aA 0),(aA 0),(aA 0),(aA 0),(aA 0),(aA 0),(aA 0),(aA 0),(aA 0),(aA 0),(aA 0),(aA 0),(aA 0),(aA 0),(aA 0),(aA 0),(aA 0),(aA 0),(aA 0),(aA 0),(aA 0),(aA 0),(aA 0),(aA 0),(aA 0),(aA 0),(aA 0),(aA 0),(aA 0),(aA 0),(aA 0),(aA 0),(aA 0),(aA 0),(aA 0),(aA 0),(aA 0),(aA 0),(aA 0),(aA 0),(aA 0),(aA 0),(aA 0)].length) ⟨h5,by first | decide | simp⟩ (gt (some (.agg (((G'3.map aA).drop 0).take 62):PV)=some (.agg (G'3.map aA))) (by rw [List.drop_zero,List.take_of_length_le (by rw [Bt,h4];exact dJ _)]) (gt (0+62≤(G'3.map aA).length) (by rw [Bt,h4];exact dJ _) (gc Cw.code (gc Bo.code (gc k1 gn))))))))
theorem bHw{c:KC.Cup}{Ac Az:Int}{Dc:List Int}{i':Nat}{F':List Int}(h0:(i:Int)<((KC.countedL c s).length:Int))(h1:(KC.countedL c s)[i]? = some Ac)(h2:F[0]? = some Az)(h3:c.done[Ac.toNat]? = some Dc)(h4:0≤Ac)(h5:KC.Valid c)(h6:Dc.length≤1000)(h7:∀ x∈Dc,0≤x∧x≤60)(h8:s<Dc.length)(h9:small ([Az,(KC.scoreM c.pts Dc s)]:List Int).length)(A5:∀ k,inR (([Az,(KC.scoreM c.pts Dc s)]:List Int).take k).sum)(Cb:0<(F.map aA).length)(Bu:di i)(Ai:i'=(i+1))(Qp:F'.map aA=((F.map aA).set 0 (aA (([Az,(KC.scoreM c.pts Dc s)]:List Int).sum)))):aB Tp 0 aMe (rO c s i (F.map aA)) .normal (rO c s i' (F'.map aA)):=by
 subst Ai;have k1:=fk 3 (yR c h5 Dc h6 h7 s h8) rfl;rw [Qp];exact aB.fi (gI bh [0,1,2]) [bT,.x (aA Ac),.x (aA Az),.x (aC Dc),k1.o,.c (pI (([Az,(KC.scoreM c.pts Dc s)]:List Int).sum)) []] (gc Bu (gc Cb (gt (FC Tp 119 [(.own 11)] [(11,(.row 3 2 [(aA Az),(aA (KC.scoreM c.pts Dc s))]))] 12 (pI (([Az,(KC.scoreM c.pts Dc s)]:List Int).sum)) []) (fv (aXq ([Az,(KC.scoreM c.pts Dc s)]:List Int) h9 A5)) (gc k1 (gt ((c.done.map aC)[(Ac.toNat*1)]? = some (aC Dc)) (cE (i:=Ac.toNat) h3) (gc (gQ (g:=aC) h4 h3) (gt ((F.map aA)[0]? = some (aA Az)) (cE (i:=0) h2) (gc (atm aA h1) (gc (ixn aA h1) (g0 h0))))))))))
theorem bHx{c:KC.Cup}(h0:((KC.countedL c s).length:Int)≤(i:Int)):aB Tp 0 aMe (rO c s i (F.map aA)) (.exit 0) (rO c s i (F.map aA)):=aB.fi (gI bh [0,1,2]) [bF] (gc (aQ h0) gn)
section
variable{c:KC.Cup}(h0:(j:Int)<(c.done.length:Int))(h1:c.done[j]? = some Ao)(h2:Ao[s]? = some Ax)
include h0 h1 h2
theorem bHy{Ek:Int}{G':List Int}(h3:(0:Int)<Ax)(h4:0≤Ax∧Ax<61)(h5:G[(1+(Ax.toNat*1))]? = some Ek)(h6:inR (Ek+1))(h7:(1+(Ax.toNat*1))<(G.map aA).length)(h8:di j)(C6:j'=(j+1))(Qq:G'.map aA=((G.map aA).set (1+(Ax.toNat*1)) (aA (Ek+1)))):aB Tp 0 aEv (nM c s j (G.map aA)) .normal (nM c s j' (G'.map aA)):=by
 subst C6;rw [Qq];exact aB.fi (gI c6 [0,1]) [bT,.x (aC Ao),.x (aA Ax),bT,.x (aA Ax),.x (aA Ek)] (gc h8 (gc h7 (gc h4 (gc h6 (gt ((G.map aA)[(1+(Ax.toNat*1))]? = some (aA Ek)) (by rw [gF,h5];rfl) (gc h4 (gc (atm aA h2) (gc (ixn aA h2) (gc (bD h3) (gc (atm aA h2) (gc (ixn aA h2) (gc (atm aC h1) (gc (ixn aC h1) (g0 h0))))))))))))))
theorem bHz(h3:Ax≤0)(h4:di j)(C6:j'=(j+1)):aB Tp 0 aEv (nM c s j (G.map aA)) .normal (nM c s j' (G.map aA)):=by
 subst C6;exact aB.fi (gI c6 [0,1]) [bT,.x (aC Ao),.x (aA Ax),bF] (gc h4 (gc (aQ h3) (gc (atm aA h2) (gc (ixn aA h2) (gc (atm aC h1) (gc (ixn aC h1) (g0 h0)))))))
end
theorem bIa{c:KC.Cup}(h0:(c.done.length:Int)≤(j:Int)):aB Tp 0 aEv (nM c s j (G.map aA)) (.exit 2) (nM c s j (G.map aA)):=aB.fi (gI c6 [0,1]) [bF] (gc (aQ h0) gn)
abbrev bBg(c:KC.Cup)(s:Nat):PV := .agg (aA (KC.totalM c s)::(KC.placesM c s).map aA)
theorem wX(c:KC.Cup)(hV:KC.Valid c)(s:Nat)(hs:(s:Int)<c.sk){base:Nat}:FV Tp 58 [.p (cupP c),.p (aA (s:Int))] base (.p (bBg c s)) []:=by
 have hd:=hV.dn;have Ef:=hV.ra2;have hsk:=hV.sk2;have hcl:=KC.countedL_length c s;have L0:=aE.times (P:=Tp) (k:=0) (b:=aMe) (e := .exit 0) (fun i (F:List Int)=>rO c s i (F.map aA)) (fun F=>rO c s (KC.countedL c s).length (F.map aA)) (fun _ (i:Nat)=>KC.partTotal c s (i+1)::KC.zeros61) (fun i F=>F=KC.partTotal c s i::KC.zeros61) (by simp) (KC.countedL c s).length (a0:=KC.partTotal c s 0::KC.zeros61) rfl
  (fun i F hi hF=>by
   have hx:(KC.countedL c s)[i]? = some (KC.countedL c s)[i]:=An hi;obtain ⟨k,Jt,Eh⟩:=KC.countedL_mem (eE hi);obtain ⟨r,hr⟩:∃ r,c.done[k]? = some r:=⟨_,An Eh⟩;have mr:=Br hr;have lr:=hV.len _ mr;have e1:(KC.countedL c s)[i].toNat=k:=by rw [Jt];omega
   have hsc:KC.scoreAt c (KC.countedL c s)[i].toNat s=KC.scoreM c.pts r s:=by
    unfold KC.scoreAt;rw [e1,Bj,hr];rfl
   have hb:=KC.partTotal_bd c hV s i;have hq:=KC.scoreM_bd c.pts r s hV.pts;have hp:=KC.partTotal_succ c s i hi;rw [hsc] at hp
   have hsum:([KC.partTotal c s i,KC.scoreM c.pts r s]:List Int).sum=KC.partTotal c s (i+1):=by rw [hp];simp
   refine ⟨rfl,?_⟩;subst hF;exact bHw (F':=KC.partTotal c s (i+1)::KC.zeros61) (by omega) hx rfl (by rw [e1];exact hr) (by omega) hV (by omega) (hV.rows _ mr) (by omega) (show (2:Nat)<1000000 by decide) (fun k=>by
    show _∧_
    match k with
    | 0=>simp
    | 1=>simp;omega
    | k+2=>simp;omega) (by simp) (aM (by omega)) rfl (by rw [hsum];rfl))
  (fun F _=>bHx (by omega))
 have e0:∀ n:Nat,(List.range n).foldl (fun (_:List Int) (i:Nat)=>KC.partTotal c s (i+1)::KC.zeros61) (KC.partTotal c s 0::KC.zeros61)=KC.partTotal c s n::KC.zeros61:=by
  intro n
  induction n with
  | zero=>rfl
  | succ n ih=>rw [List.range_succ,vX,ih];rfl
 rw [e0] at L0
 have L1:=aE.times (P:=Tp) (k:=0) (b:=aEv) (e := .exit 2) (fun j (G:List Int)=>nM c s j (G.map aA)) (fun G=>nM c s c.done.length (G.map aA)) (fun _ (j:Nat)=>KC.partTotal c s (KC.countedL c s).length::KC.placesUpTo c s (j+1)) (fun j G=>G=KC.partTotal c s (KC.countedL c s).length::KC.placesUpTo c s j) (by simp) c.done.length (a0:=KC.partTotal c s (KC.countedL c s).length::KC.placesUpTo c s 0) rfl
  (fun j G hj hG=>by
   have hr:c.done[j]? = some c.done[j]:=An hj;have mr:=eE hj;have lr:=hV.len _ mr;have hsl:s<c.done[j].length:=by omega
   have hx:c.done[j][s]? = some c.done[j][s]:=An hsl;have hg:c.done[j].getD s 0=c.done[j][s]:=by rw [Bj,hx];rfl
   have hb:=hV.rows _ mr _ (eE hsl);refine ⟨rfl,?_⟩;subst hG
   by_cases h0:c.done[j][s]≤0
   ·rw [KC.placesUpTo_none c s j hj (by rw [hg];omega)]
    exact bHz (by omega) hr hx h0 (aM (by omega)) rfl
   ·obtain ⟨p,hp⟩:∃ p:Nat,c.done[j][s]=(p:Int):=⟨c.done[j][s].toNat,by omega⟩
    have hpl:p<(KC.placesUpTo c s j).length:=by rw [KC.placesUpTo_length];omega
    have hbd:=KC.placesUpTo_bd c s j p hpl;have hsome:=KC.placesUpTo_some c s j p hj (by rw [hg,hp]) (by omega) (by omega) hpl
    have e1:1+(c.done[j][s].toNat*1)=p+1:=by omega
    refine bHy (Ek:=(KC.placesUpTo c s j)[p]) (G':=KC.partTotal c s (KC.countedL c s).length::KC.placesUpTo c s (j+1)) (by omega) hr hx (by omega) (by omega) (by rw [e1];simp) (by show _∧_;omega) (by rw [e1];simp;omega) (aM (by omega)) rfl ?_
    rw [e1,hsome];simp [List.map_set])
  (fun G _=>bIa (by omega))
 have e1:∀ n:Nat,(List.range n).foldl (fun (_:List Int) (j:Nat)=>KC.partTotal c s (KC.countedL c s).length::KC.placesUpTo c s (j+1)) (KC.partTotal c s (KC.countedL c s).length::KC.placesUpTo c s 0)=KC.partTotal c s (KC.countedL c s).length::KC.placesUpTo c s n:=by
  intro n
  induction n with
  | zero=>rfl
  | succ n ih=>rw [List.range_succ,vX,ih];rfl
 rw [e1] at L1
 have et:KC.partTotal c s (KC.countedL c s).length=KC.totalM c s:=by unfold KC.partTotal KC.totalM;rw [List.take_length]
 rw [← KC.placesUpTo_zero c s] at L0
 rw [et] at L0 L1
 exact cDh hV hs L0 L1 (by rw [oF];unfold KC.placesUpTo;simp) (by rw [Bt,oF];unfold KC.placesUpTo;simp)
end CU
end KV
end Go.Proofs
end
section
section
namespace Go.Proofs
open Go.RowKit
namespace KC
section
variable {P:Program}

structure aJc (w:World) where
 W:World
 h:Below w.heap.size w W

instance (w:World):Nonempty (aJc w):=⟨⟨w,Below.refl _ _⟩⟩

theorem pL{id:Nat}{Q:Exit→Act→World→Prop}{a:Act}{w:World}{l:List Oper}(hm:P.follows .mixedOrders=true)(hB:Region.lexB .any l.toArray=true)
  (h:wpQuiet P l.toArray (fun w'=>∃ z:aJc w,w'=z.W) (fun a'=>∀ w',(∃ z:aJc w,w'=z.W)→Q .normal a' w') l a):(Code.region id l.toArray true).wp P Q a w :=
 wp_region_quiet (C:=fun w'=>∃ z:aJc w,w'=z.W) hm hB ⟨⟨_,(Below.refl _ w).drew⟩,rfl⟩ (by simpa using h)

theorem yS{w:World}{p:World→Prop}(h:∀ w2,Below w.heap.size w w2→p w2):∀ w',(∃ z:aJc w,w'=z.W)→p w':=by
 rintro _ ⟨z,rfl⟩;exact h z.W z.h

theorem pM{w:World}{b o:Nat}{u:Value}(h:w.cell? ⟨b,o,none⟩=some u)(z:aJc w):z.W.cell? ⟨b,o,none⟩=some u :=
 (z.h.cell (p:=⟨b,o,none⟩) (World.block_lt_of_cell? w _ h)).trans h
end
end KC
end Go.Proofs

end

section
namespace Go.Proofs
open Go.RowKit
namespace KC

theorem hid{p:Prop}(h:p):Hid p:=h

theorem xB{a b:Bool}(h:a=b):Ending.returned (.bool a) = .returned (.bool b):=by rw [h]

def Ret(v:Value)(w:World)(e:Ending)(w':World):Prop:=e = .returned v∧Below w.heap.size w w'
theorem bcell{W w1:World}(hb:Below W.heap.size W w1):(∀ b o,b<W.heap.size→w1.cell? ⟨b,o,none⟩=W.cell? ⟨b,o,none⟩)∧(∀ b o,b<W.heap.size→w1.frozen? ⟨b,o,none⟩=W.frozen? ⟨b,o,none⟩) :=
 ⟨fun b o h=>hb.cell (p:=⟨b,o,none⟩) h,fun b o h=>hb.frozen (p:=⟨b,o,none⟩) h⟩

section
variable {P:Program} {ops:Array Oper} {rest:List Oper} {dst:Option Tmp} {ty:TypeId} {pos:String} {af:Array Edge} {a:Act} {w:World} {Q:Exit→Act→World→Prop}

end

end KC
end Go.Proofs

end

section
namespace Go.Proofs
open Go.RowKit
namespace KC

theorem Nf:(Tryz.prog.info? 3).map (fun i=>i.size)=some 1:=by kernel_rfl
end KC
end Go.Proofs

end

section
namespace Go.Proofs
open Go.RowKit
namespace KC
section
variable {P:Program} {ops:Array Oper} {rest:List Oper} {dst:Option Tmp} {ty:TypeId} {pos:String} {af:Array Edge} {a:Act} {w:World} {Q:Exit→Act→World→Prop}

theorem iY{t e:TypeId}{x:Operand}{g:Nat}{cs:Array Value}{d:TypeDesc}(hg:w.heap[g]? = some (.cells cs e (0,0)))
  (hu:P.underlying t=some d) (hd:(match d with | .struct _ | .array _ _=>true | _=>false)=true) (hi:(P.info? t).map (·.size)=some cs.size)
  (hx:a.eval x = .pointer (some ⟨g,0,none⟩))
  (h:wpList P ops Q rest (a.put dst (.agg cs)) w) :
  wpList P ops Q ({ dst:=dst,op := .load t x,type:=ty,pos:=pos,after:=af,guard:=none }::rest) a w :=
 wpList_load_row rfl t x rfl g hx e cs (0,0) d hg hu hd hi h

end
end KC
end Go.Proofs

end

section
namespace Go.Proofs
open Go.RowKit Go.Lib Go.Sort
namespace KC

def formC(t:Int)(pl:List Int):Array Value:=(Value.int .i64 t::pl.map (Value.int .i64)).toArray
theorem Fv:(Tryz.prog.info? 125).map (·.size)=some 62:=by kernel_rfl

theorem uU(t:Int)(pl:List Int):(formC t pl).size=pl.length+1:=by simp [formC]
theorem aMq(t:Int)(pl:List Int):(formC t pl)[0]? = some (.int .i64 t):=by simp [formC]
theorem bBl(t:Int)(pl:List Int)(p:Nat)(h:p<pl.length):(formC t pl)[1+p]? = some (.int .i64 pl[p]):=by
 rw [Nat.add_comm];simp [formC,h]
end KC
end Go.Proofs

end

section
namespace Go.Proofs
open Go.RowKit Go.Lib Go.Sort
namespace KC

section
variable {P:Program}
theorem xC(w:World)(d e:Nat)(he:P.underlying e=some (.int .i64))(xs ys:List Int)(n:Nat)(hx:xs.length=n)(hy:ys.length=n) :
  ∀ is:List Nat,(∀ i∈is,i<n)→(Op.eqItems (d+1) e 1 (xs.map (Value.int .i64)).toArray (ys.map (Value.int .i64)).toArray is).run P w = .ok (is.all fun i=>xs.getD i 0 == ys.getD i 0) w
 | [],_=>by simp [Op.eqItems]
 | i::is,h=>by
  have hi:=h i (by simp)
  have ih:=xC w d e he xs ys n hx hy is (fun j hj=>h j (by simp [hj]))
  have px:(part e (xs.map (Value.int .i64)).toArray (i*1)).run P w = .ok (.int .i64 (xs.getD i 0)) w:=by
   simp [part,isAgg,run_underlying he,List.getD,List.getElem?_eq_getElem (show i<xs.length by omega)]
  have py:(part e (ys.map (Value.int .i64)).toArray (i*1)).run P w = .ok (.int .i64 (ys.getD i 0)) w:=by
   simp [part,isAgg,run_underlying he,List.getD,List.getElem?_eq_getElem (show i<ys.length by omega)]
  have pe:=run_equalIn_int (P:=P) w d e .i64 .i64 (xs.getD i 0) (ys.getD i 0) he;simp only [Op.eqItems,Sem.run_bind,px,py,pe,Result.andThen_ok,List.all_cons];cases hb:(xs.getD i 0 == ys.getD i 0)
  ·simp
  ·simp only [Bool.not_true,Bool.false_eq_true,if_false,Bool.true_and]
   exact ih

theorem yT(w:World)(d:Nat){t e:TypeId}{n:Nat}{i:TypeInfo}(hu:P.underlying t=some (.array n e))(hi:P.info? e=some i)(hc:P.cellsOf e=1)(he:P.underlying e=some (.int .i64))(xs ys:List Int)(hx:xs.length=n)(hy:ys.length=n) :
  (Op.equalIn (d+2) t (.agg (xs.map (Value.int .i64)).toArray) (.agg (ys.map (Value.int .i64)).toArray)).run P w = .ok (decide (xs=ys)) w:=by
 rw [run_equalIn_array w (d+1) _ _ hu hi,hc,xC w d e he xs ys n hx hy _ (fun i hi=>List.mem_range.1 hi),← hx,tG xs ys (hx.trans hy.symm)]
end

theorem info3some:∃ i,Tryz.prog.info? 3=some i:=by
 have:=Nf;cases h:Tryz.prog.info? 3 with
 | none=>simp [h] at this
 | some i=>exact ⟨i,rfl⟩

theorem bQn:Tryz.prog.cellsOf 3=1:=by kernel_rfl

theorem aJd(w:World)(p1 p2:List Int)(h1:p1.length=61)(h2:p2.length=61)(d:Nat) :
  (Op.equalIn (d+2) 123 (.agg (p1.map (Value.int .i64)).toArray) (.agg (p2.map (Value.int .i64)).toArray)).run Tryz.prog w = .ok (decide (p1=p2)) w:=by
 obtain ⟨i,hi⟩:=info3some;exact yT w d Tryz.underlying123 hi bQn Tryz.underlying3 p1 p2 h1 h2

theorem xD(t:Int)(p:List Int)(h:p.length=61):(formC t p).extract 1 62=(p.map (Value.int .i64)).toArray:=by
 unfold formC;apply Array.ext';simp [List.take_of_length_le,h]

theorem R7(w:World)(t:Int)(p:List Int):(part 3 (formC t p) 0).run Tryz.prog w = .ok (.int .i64 t) w:=by
 simp [part,isAgg,run_underlying Tryz.underlying3,aMq]
theorem J5(w:World)(t:Int)(p:List Int)(hp:p.length=61):(part 123 (formC t p) 1).run Tryz.prog w = .ok (.agg (p.map (Value.int .i64)).toArray) w:=by
 simp only [part,Sem.run_bind,Tryz.isAgg123 w,Result.andThen_ok,if_true,Tryz.sizeOf123 w,Sem.run_pure];rw [xD t p hp]

theorem bJk(w : World)(d : Nat)(t1 t2 : Int)(p1 p2 : List Int)(h1 : p1.length = 61)(h2 : p2.length = 61)(f g : Field)(Nt : f.name ≠ "_")(Iu : f.type = 3)(U5 : f.offset = 0)(U6 : g.name ≠ "_")(Es : g.type = 123)(U7 : g.offset = 1) :
  (Op.eqFields (d+2) (formC t1 p1) (formC t2 p2) [f,g]).run Tryz.prog w = .ok (decide (t1=t2∧p1=p2)) w:=by
 have e1:(Op.equalIn (d+2) 3 (.int .i64 t1) (.int .i64 t2)).run Tryz.prog w = .ok (t1 == t2) w:=run_equalIn_int (P:=Tryz.prog) w (d+1) 3 .i64 .i64 t1 t2 Tryz.underlying3;have e2:=aJd w p1 p2 h1 h2 d;rw [Op.eqFields,if_pos Nt,Iu,U5,Sem.run_bind,R7,Result.andThen_ok,Sem.run_bind,R7,Result.andThen_ok,Sem.run_bind,e1,Result.andThen_ok]
 by_cases ht:t1=t2
 ·subst ht
  rw [beq_self_eq_true,if_neg (by decide),Op.eqFields,if_pos U6,Es,U7,Sem.run_bind,J5 w t1 p1 h1,Result.andThen_ok,Sem.run_bind,J5 w t1 p2 h2,Result.andThen_ok,Sem.run_bind,e2,Result.andThen_ok]
  by_cases hp:p1=p2
  ·rw [decide_eq_true hp,decide_eq_true (p:=t1=t1∧p1=p2) ⟨rfl,hp⟩,if_neg (by decide),Op.eqFields,Sem.run_pure]
  ·rw [decide_eq_false hp,decide_eq_false (fun h=>hp h.2),if_pos (by decide),Sem.run_pure]
 ·have hb:(t1 == t2)=false:=by simp [ht]
  rw [hb,decide_eq_false (fun h=>ht h.1),if_pos (by decide),Sem.run_pure]

theorem bXf(w:World)(d:Nat)(t1 t2:Int)(p1 p2:List Int)(h1:p1.length=61)(h2:p2.length=61) :
  (Op.equalIn (d+3) 125 (.agg (formC t1 p1)) (.agg (formC t2 p2))).run Tryz.prog w = .ok (decide (t1=t2∧p1=p2)) w:=by
 have hf:Tryz.prog.underlying 125=some (.struct (Tryz.prog.fieldsOf 125)):=by simp only [Program.fieldsOf,Tryz.underlying125]
 rw [run_equalIn_struct (P:=Tryz.prog) w (d+2) 125 _ _ hf Tryz.stoodInHeld125];simp only [Program.fieldsOf,Tryz.underlying125];exact bJk w d t1 t2 p1 p2 h1 h2 _ _ (by decide) rfl rfl (by decide) rfl rfl

section
variable {ops:Array Oper} {rest:List Oper} {dst:Option Tmp} {ty:TypeId} {pos:String} {af:Array Edge} {a:Act} {w:World} {Q:Exit→Act→World→Prop}
theorem uV{x y:Operand}{t1 t2:Int}{p1 p2:List Int}{t':TypeId}{b:Bool}(h1:p1.length=61)(h2:p2.length=61)(hb:decide (t1=t2∧p1=p2)=b)
  (hx:a.eval x = .agg (formC t1 p1)) (hy:a.eval y = .agg (formC t2 p2)) (h:wpList Tryz.prog ops Q rest (a.put dst (.bool b)) w) :
  wpList Tryz.prog ops Q ({ dst:=dst,op := .binOp .eql 125 x y t',type:=ty,pos:=pos,after:=af,guard:=none }::rest) a w:=by
 refine wpList_plain rfl fun K hK => ?_
 have hg:=run_eqGuard_agg (P:=Tryz.prog) w .eql 125 x y (formC t1 p1) (formC t2 p2) Tryz.eqGuardType125;have he:=run_eql_struct (P:=Tryz.prog) w 125 (formC t1 p1) (formC t2 p2);rw [bXf w 9997 t1 t2 p1 p2 h1 h2,hb] at he
 unfold Oper.wp;simp only [execOp,hx,hy,Sem.run_bind,hg,he,Result.andThen_ok];exact hK _ _ h

theorem pN{x y:Operand}{p1 p2:List Int}{t':TypeId}{b:Bool}(h1:p1.length=61)(h2:p2.length=61)(hb:decide (p1=p2)=b)
  (hx:a.eval x = .agg (p1.map (Value.int .i64)).toArray) (hy:a.eval y = .agg (p2.map (Value.int .i64)).toArray) (h:wpList Tryz.prog ops Q rest (a.put dst (.bool b)) w) :
  wpList Tryz.prog ops Q ({ dst:=dst,op := .binOp .eql 123 x y t',type:=ty,pos:=pos,after:=af,guard:=none }::rest) a w:=by
 refine wpList_plain rfl fun K hK => ?_
 have hg:=run_eqGuard_agg (P:=Tryz.prog) w .eql 123 x y (p1.map (Value.int .i64)).toArray (p2.map (Value.int .i64)).toArray Tryz.eqGuardType123;have he:=run_eql_struct (P:=Tryz.prog) w 123 (p1.map (Value.int .i64)).toArray (p2.map (Value.int .i64)).toArray;rw [aJd w p1 p2 h1 h2 9998,hb] at he
 unfold Oper.wp;simp only [execOp,hx,hy,Sem.run_bind,hg,he,Result.andThen_ok];exact hK _ _ h

theorem eW{x:Operand}{g:Nat}{t:Int}{p:List Int}{e:TypeId}(hg:w.heap[g]? = some (.cells (formC t p) e (0,0)))(hp:p.length=61)
  (hx:a.eval x = .pointer (some ⟨g,1,none⟩)) (h:wpList Tryz.prog ops Q rest (a.put dst (.agg (p.map (Value.int .i64)).toArray)) w) :
  wpList Tryz.prog ops Q ({ dst:=dst,op := .load 123 x,type:=ty,pos:=pos,after:=af,guard:=none }::rest) a w:=by
 have hr:=World.rangeAt_of_block hg 1 61;rw [show 1+61=62 from rfl,xD t p hp] at hr
 refine wpList_load_mid rfl 123 x rfl g 1 hx _ _ hr Tryz.underlying123 rfl ?_ ?_
 ·simp only [List.length_map,hp];kernel_rfl
 ·simpa using h
end

set_option maxHeartbeats 2000000 in
set_option maxRecDepth 1000000 in
theorem better_any(t1 t2:Int)(p1 p2:List Int)(h1:p1.length=61)(h2:p2.length=61)(w:World) :
  Calls Tryz.prog 122 #[.agg (formC t1 p1),.agg (formC t2 p2)] w (Ret (.bool (betterF t1 t2 p1 p2)) w):=by
 have HW:=hid (((Below.refl w.heap.size w).alloc (Nat.le_refl _) (.cells (formC t1 p1) 125)).alloc (by simp) (.cells (formC t2 p2) 125))
 obtain ⟨W0,G7⟩:∃ W0,W0=(w.alloc (.cells (formC t1 p1) 125)).alloc (.cells (formC t2 p2) 125):=⟨_,rfl⟩;have g1:W0.heap[w.heap.size]? = some (.cells (formC t1 p1) 125 (0,0)):=by
  rw [G7,Go.heap_alloc_old _ _ (by simp)];exact heap_alloc_new w _
 have g2:W0.heap[w.heap.size+1]? = some (.cells (formC t2 p2) 125 (0,0)):=by
  rw [G7];have:=heap_alloc_new (w.alloc (.cells (formC t1 p1) 125)) (.cells (formC t2 p2) 125);simpa using this
 rw [← G7] at HW
 have HW0:=hid G7;have c1:W0.cell? ⟨w.heap.size,0,none⟩=some (.int .i64 t1):=by rw [cell_of_row _ _ _ _ _ _ g1,aMq]
 have c2:W0.cell? ⟨w.heap.size+1,0,none⟩=some (.int .i64 t2):=by rw [cell_of_row _ _ _ _ _ _ g2,aMq]
 have R8:∀ i,i<61→W0.cell? ⟨w.heap.size,1+i,none⟩=some (.int .i64 (p1.getD i 0)):=fun i hi=>by rw [cell_of_row _ _ _ _ _ _ g1,bBl _ _ _ (by omega),bBk _ _ (by omega)]
 have R9:∀ i,i<61→W0.cell? ⟨w.heap.size+1,1+i,none⟩=some (.int .i64 (p2.getD i 0)):=fun i hi=>by rw [cell_of_row _ _ _ _ _ _ g2,bBl _ _ _ (by omega),bBk _ _ (by omega)]
 have G1:=hid g1;have G2:=hid g2;have CP1:=hid R8;have CP2:=hid R9;have H1:=hid h1;have H2:=hid h2;have HS:=hid (show (Tryz.prog.info? 125).map (·.size)=some (formC t1 p1).size by rw [uU,h1];exact Fv)
 have HS2:=hid (show (Tryz.prog.info? 125).map (·.size)=some (formC t2 p2).size by rw [uU,h2];exact Fv)
 have L1:=hid (World.block_lt_of_cell? _ _ c1);clear G7 g1 g2 R8 R9 h1 h2
 go_enter Tryz.func122,Tryz.ntmps122
 go_upto_region 1 with (fail)
 rw [← HW0.out]
 by_cases ht:t1=t2
 ·have htt:(t1 != t2)=false:=by simp [ht]
  by_cases hp:p1=p2
  ·have HE:=hid (show decide (t1=t2∧p1=p2)=true by simp [ht,hp])
   have HEP:=hid (show decide (p1=p2)=true by simp [hp])
   have hlt:¬ t2<t1:=by omega
   have HR:=hid (show betterF t1 t2 p1 p2=false by unfold betterF;rw [if_pos ht,hp];exact xA _ _ _)
   clear ht hp htt
   go_wp2_with (first
    | ((with_reducible apply uV (h1:=H1.out) (h2:=H2.out) (hb:=HE.out));rfl;rfl)
    | ((with_reducible apply pN (h1:=H1.out) (h2:=H2.out) (hb:=HEP.out));rfl;rfl)
    | ((with_reducible apply eW (hg:=G1.out) (hp:=H1.out));rfl)
    | ((with_reducible apply eW (hg:=G2.out) (hp:=H2.out));rfl)
    | ((with_reducible apply iY (hg:=G1.out) (hu:=Tryz.underlying125) (hi:=HS.out));rfl;rfl)
    | ((with_reducible apply iY (hg:=G2.out) (hu:=Tryz.underlying125) (hi:=HS2.out));rfl;rfl))
   go_ret
   exact ⟨xB HR.out.symm,HW.out⟩
  ·have HE:=hid (show decide (t1=t2∧p1=p2)=false by simp [hp])
   have HEP:=hid (show decide (p1=p2)=false by simp [hp])
   have HR:=hid (show betterF t1 t2 p1 p2=lexFrom p1 p2 60 1 by unfold betterF;rw [if_pos ht])
   clear ht hp
   go_wp2_with (first
    | ((with_reducible apply uV (h1:=H1.out) (h2:=H2.out) (hb:=HE.out));rfl;rfl)
    | ((with_reducible apply pN (h1:=H1.out) (h2:=H2.out) (hb:=HEP.out));rfl;rfl)
    | ((with_reducible apply eW (hg:=G1.out) (hp:=H1.out));rfl)
    | ((with_reducible apply eW (hg:=G2.out) (hp:=H2.out));rfl)
    | ((with_reducible apply iY (hg:=G1.out) (hu:=Tryz.underlying125) (hi:=HS.out));rfl;rfl)
    | ((with_reducible apply iY (hg:=G2.out) (hu:=Tryz.underlying125) (hi:=HS2.out));rfl;rfl))
   go_loopw [5] (fun i wr=>∃ (k:Nat),1≤k∧k≤61∧i = .int .i64 k∧Below W0.heap.size W0 wr∧lexFrom p1 p2 60 1=lexFrom p1 p2 (61-k) k) (fun i _=>61-(intOf i).toNat)
   case atStart=>exact ⟨1,by omega,by omega,rfl,Below.refl _ _,rfl⟩
   case round =>
    clear c1 c2;obtain ⟨k,Jt,Eh,rfl,hB,hL⟩:=hrel;have HB:=hid hB;have HL:=hid hL;clear hL
    by_cases hlt:k≤60
    ·have d1:=((bcell hB).1 w.heap.size (1+k) (by have:=L1.out;exact this)).trans (CP1.out k (by omega))
     have d2:=((bcell hB).1 (w.heap.size+1) (1+k) (by have:=lt_of_block G2.out;exact this)).trans (CP2.out k (by omega))
     have HN:=hid (show lexFrom p1 p2 (61-k) k=if p1.getD k 0=p2.getD k 0 then lexFrom p1 p2 (61-(k+1)) (k+1) else decide (p2.getD k 0<p1.getD k 0) by rw [show 61-k=(61-(k+1))+1 by omega,lexFrom])
     obtain ⟨x,hx⟩:∃ x,x=p1.getD k 0:=⟨_,rfl⟩;obtain ⟨y,hy⟩:∃ y,y=p2.getD k 0:=⟨_,rfl⟩;rw [← hx] at d1 HN
     rw [← hy] at d2 HN
     have l1:=pM d1;have l2:=pM d2;have i61:(k:Int)<61:=by omega
     clear hx hy hB
     by_cases hxy:x=y
     ·have Bl:(x != y)=false:=by simp [hxy]
      have HXY:=hid hxy;clear hxy
      go_wp2
      refine pL (by kernel_rfl) (by kernel_rfl) ?_
      repeat (go_big_quiet_step (fail))
      refine wpQuiet_nil (yS fun w2 Ct => ?_)
      go_wp2
      go_roundw
      case rel=>exact ⟨k+1,by omega,by omega,by go_num,HB.out.trans (Ct.mono HB.out.size),by rw [HL.out,HN.out,if_pos HXY.out]⟩
      case measure=>simp [intOf];omega
     ·have Bl:(x != y)=true:=by simp [hxy]
      have HXY:=hid hxy;clear hxy
      go_wp2
      refine pL (by kernel_rfl) (by kernel_rfl) ?_
      repeat (go_big_quiet_step (fail))
      refine wpQuiet_nil (yS fun w2 Ct => ?_)
      have d3:=((bcell Ct).1 w.heap.size (1+k) (World.block_lt_of_cell? _ _ d1)).trans d1;have d4:=((bcell Ct).1 (w.heap.size+1) (1+k) (World.block_lt_of_cell? _ _ d2)).trans d2;have l3:=pM d3;have l4:=pM d4
      go_wp2
      refine pL (by kernel_rfl) (by kernel_rfl) ?_
      repeat (go_big_quiet_step (fail))
      refine wpQuiet_nil (yS fun w3 J7 => ?_)
      go_wp2
      go_ret
      refine ⟨xB ?_,HW.out.trans ((HB.out.trans (Ct.mono HB.out.size)).trans (J7.mono (Nat.le_trans HB.out.size Ct.size)) |>.mono HW.out.size)⟩
      rw [HR.out,HL.out,HN.out,if_neg HXY.out]
    ·have hk:k=61:=by omega
     have HE2:=hid (show lexFrom p1 p2 60 1=false by rw [HL.out,hk];rfl)
     clear hk
     go_wp2
     go_ret
     exact ⟨xB (HR.out.trans HE2.out).symm,HW.out.trans (HB.out.mono HW.out.size)⟩
 ·have htt:(t1 != t2)=true:=by simp [ht]
  have HE:=hid (show decide (t1=t2∧p1=p2)=false by simp [ht])
  have HEP:=hid (show decide (p1=p1)=true by simp)
  have HR:=hid (show betterF t1 t2 p1 p2=decide (t2<t1) by unfold betterF;rw [if_neg ht])
  clear ht
  go_wp2_with (first
   | ((with_reducible apply uV (h1:=H1.out) (h2:=H2.out) (hb:=HE.out));rfl;rfl)
   | ((with_reducible apply pN (h1:=H1.out) (h2:=H2.out) (hb:=HEP.out));rfl;rfl)
   | ((with_reducible apply eW (hg:=G1.out) (hp:=H1.out));rfl)
   | ((with_reducible apply eW (hg:=G2.out) (hp:=H2.out));rfl)
   | ((with_reducible apply iY (hg:=G1.out) (hu:=Tryz.underlying125) (hi:=HS.out));rfl;rfl)
   | ((with_reducible apply iY (hg:=G2.out) (hu:=Tryz.underlying125) (hi:=HS2.out));rfl;rfl))
  go_ret
  exact ⟨xB HR.out.symm,HW.out⟩
end KC
end Go.Proofs

end
end
section
namespace Go.Proofs
open Go.RowKit
namespace KV
open Tryz
namespace CU
variable {P:Program} {C:Cx} {M:Mem} {w w':World}
theorem FV.of_calls{f base:Nat}{args:List AV}{y:AV}(ho:aMy [] base y=some (y,[]))
  (h:∀ (C:Cx) (w:World) (us:List Value),cH C [] w args us→Calls P f us.toArray w fun e w'=>∃ u,e = .returned u∧Below w.heap.size w w'∧∀ (C2:Cx),(∀ b,C.F b→C2.F b)→(∀ b,w.heap.size≤b→b<w'.heap.size→C2.F b)→(∀ b,C.F b→w'.heap[b]? = w.heap[b]?)→Rep C2 [] w' y u):FV P f args base y []:=by
 refine ⟨y,[],fun C w us hus hM n=>(callsIn_wide.2 (h C w us hus)).mono ?_,ho⟩
 rintro e w' ⟨u,rfl,hb,hr⟩;obtain ⟨f1,m1⟩:=uX (C:=C) (M:=([]:Mem)) (w:=w) (w':=w') (kb:=none) hM hb.os hb.tape hb.output hb.size (fun b Al=>hb.block b Al)
 exact ⟨u,rfl,_,f1,m1,hr _ f1.F1 (fun b h1 h2 => .inr ⟨h1,h2,by simp⟩) (fun b hf=>hb.block b (hM.Fs b hf))⟩
theorem FV.of_ret{f base:Nat}{args:List AV}{y:PV}{v:Value}(hy:∀ (F:Nat→Prop) (w:World),bQ F w y v)(ho:aMy [] base (.p y)=some (.p y,[]))
  (h:∀ (C:Cx) (w:World) (us:List Value),cH C [] w args us→Calls P f us.toArray w (KC.Ret v w)):FV P f args base (.p y) [] :=
 FV.of_calls ho fun C w us hus=>(h C w us hus).mono fun e w' ⟨he,hb⟩=>⟨v,he,hb,fun C2 _ _ _ => .p _ _ (hy _ _)⟩
theorem aMd{F:Nat→Prop}{c:KC.Cup}{s:Nat}{u:Value}(h:bQ F w (bBg c s) u):u = .agg (KC.formC (KC.totalM c s) (KC.placesM c s)):=by
 have:∀ (l:List Int) (u:Value),bQ F w (.agg (l.map aA)) u→u = .agg (l.map (Value.int .i64)).toArray:=fun l u h=>by
  generalize hc:l.map aA=cs at h
  cases h with
  | agg cs vs h0 h1 h2 =>
   subst hc
   congr 1
   apply Array.ext
   ·simpa using h1
   ·intro i h3 h4
    have hi:i<l.length:=by simpa using h4
    have:=h2 i (by simpa using hi)
    rw [lE] at this
    have:=bYh this;rw [Bm,oD h3] at this
    simpa using this
 have h2:=this (KC.totalM c s::KC.placesM c s) u (by simpa using h)
 rw [h2];simp [KC.formC]
theorem bHv(c c':KC.Cup)(a b:Nat){base:Nat}:FV Tp 122 [.p (bBg c a),.p (bBg c' b)] base (.p (blP (KC.betterF (KC.totalM c a) (KC.totalM c' b) (KC.placesM c a) (KC.placesM c' b)))) [] :=
 FV.of_ret (fun _ _ => .v _) rfl fun C w us hus=>by
  obtain ⟨u,v,rfl,hu,hv⟩:=wA hus;cases hu with
  | p _ _ hu =>
   cases hv with
   | p _ _ hv =>
    rw [aMd hu,aMd hv];have h:∀ (c:KC.Cup) s,(KC.placesM c s).length=61:=fun c s=>by unfold KC.placesM;rw [KC.placesUpTo_length]
    exact KC.better_any _ _ _ _ (h c a) (h c' b) w
end CU
end KV
end Go.Proofs
end
section
namespace Go.Proofs
open Go.RowKit
namespace KV
open Tryz
namespace CU
theorem FV.calls{P:Program}{f:Nat}{args:List AV}{y:PV}(h:FV P f args 0 (.p y) [])(hn:iJ args=true){C:Cx}{w:World}{us:List Value}(hus:cH C [] w args us)(hM:aP P C [] w)(n:Nat) :
  CallsIn Fence.wide n P f us.toArray w (fun e w'=>∃ u,e = .returned u∧Below w.heap.size w w'∧∃ F:Nat→Prop,bQ F w' y u):=by
 refine ((h.fc (bs:=[]) hn) [] (by simp) rfl (fun _ _=>rfl) C w us hus hM n).mono ?_
 rintro e w' ⟨u,rfl,C',f,_,r⟩;cases r with
 | p _ _ hr=>exact ⟨u,rfl,⟨f.os,f.tape,f.out,f.size,fun b hb=>f.keep b hb (fun _ _ h=>by simp at h)⟩,C'.F,hr⟩
def cxG(F:Nat→Prop):Cx:={ ι:=fun _=>none,κ:=fun _=>0,F:=F }
theorem cDg{P:Program}{F:Nat→Prop}{w:World}(h:∀ b,F b→b<w.heap.size):aP P (cxG F) [] w :=
 ⟨fun _ _ _ _ h=>by simp at h,fun _ _ _ h=>by simp at h,fun _ _ _ h=>by simp at h,fun _ _ _ _ _ h=>by simp at h,fun _ _ _ h=>by simp at h,h,fun _ _ _ h=>by simp at h⟩
end CU
end KV
namespace KC
open KV KV.CU
def Ints(w:World)(v:Value)(l:List Int):Prop:=∃ F:Nat→Prop,(∀ b,F b→b<w.heap.size)∧bQ F w (aC l) v
def Rows(w:World)(v:Value)(l:List (List Int)):Prop:=∃ F:Nat→Prop,(∀ b,F b→b<w.heap.size)∧bQ F w (aR l) v
theorem Ints.open{w:World}{v:Value}{l:List Int}(h:Ints w v l):∃ p cap,v = .slice p l.length cap∧l.length≤cap∧cap≤maxLen∧True:=by
 obtain ⟨F,_,h⟩:=h;change bQ F w (.sl l.length (l.map aA)) v at h
 cases h with
 | sl n cs p cap us h1 h2=>exact ⟨p,cap,rfl,h1,h2,trivial⟩
theorem Rows.open{w:World}{v:Value}{l:List (List Int)}(h:Rows w v l):∃ p cap,v = .slice p l.length cap∧l.length≤cap∧cap≤maxLen∧True:=by
 obtain ⟨F,_,h⟩:=h;change bQ F w (.sl l.length (l.map aC)) v at h
 cases h with
 | sl n cs p cap us h1 h2=>exact ⟨p,cap,rfl,h1,h2,trivial⟩
theorem aEp{w w':World}{v:Value}{l:List Int}(h:Ints w v l)(hb:Below w.heap.size w w'):Ints w' v l:=by
 obtain ⟨F,h1,h2⟩:=h;exact ⟨F,fun b hf=>Nat.lt_of_lt_of_le (h1 b hf) hb.size,h2.mono (fun _ h=>h) fun b hf=>hb.block b (h1 b hf)⟩
theorem aEq{w w':World}{v:Value}{l:List (List Int)}(h:Rows w v l)(hb:Below w.heap.size w w'):Rows w' v l:=by
 obtain ⟨F,h1,h2⟩:=h;exact ⟨F,fun b hf=>Nat.lt_of_lt_of_le (h1 b hf) hb.size,h2.mono (fun _ h=>h) fun b hf=>hb.block b (h1 b hf)⟩
def zZ(w:World)(v:Value)(c:Cup):Prop:=∃ vp vd,v = .agg #[.int .i64 c.sk,.int .i64 c.ra,.int .i64 c.be,vp,vd]∧Ints w vp c.pts∧Rows w vd c.done
theorem zZ.below{w w':World}{v:Value}{c:Cup}(h:zZ w v c)(hb:Below w.heap.size w w'):zZ w' v c:=by
 obtain ⟨vp,vd,rfl,h1,h2⟩:=h;exact ⟨vp,vd,rfl,aEp h1 hb,aEq h2 hb⟩
theorem bWl{F:Nat→Prop}{w:World}{c:Cup}{vp vd:Value}(h1:bQ F w (aC c.pts) vp)(h2:bQ F w (aR c.done) vd):bQ F w (cupP c) (.agg #[.int .i64 c.sk,.int .i64 c.ra,.int .i64 c.be,vp,vd]):=by
 have o1:vp.oneCell'=true:=by cases h1;rfl
 have o2:vd.oneCell'=true:=by cases h2;rfl
 refine .agg _ _ (fun i hi => ?_) rfl (fun i hi => ?_)
 ·match i,hi with
  | 0,_=>rfl
  | 1,_=>rfl
  | 2,_=>rfl
  | 3,_=>exact o1
  | 4,_=>exact o2
 ·match i,hi with
  | 0,_=>exact .v _
  | 1,_=>exact .v _
  | 2,_=>exact .v _
  | 3,_=>exact h1
  | 4,_=>exact h2
def iF(c:Cup)(s:Nat):Array Value:=formC (totalM c s) (placesM c s)
theorem aEr(c:Cup)(hV:Valid c)(v:Value)(s:Nat)(w:World)(hv:zZ w v c)(hs:(s:Int)<c.sk):Calls Tryz.prog 58 #[v,.int .i64 s] w (Ret (.agg (iF c s)) w):=by
 obtain ⟨vp,vd,rfl,⟨F1,f1,h1⟩,F2,f2,h2⟩:=hv;have r1:=h1.mono (F':=fun b=>F1 b∨F2 b) (fun _ h => .inl h) (fun _ _=>rfl)
 have r2:=h2.mono (F':=fun b=>F1 b∨F2 b) (fun _ h => .inr h) (fun _ _=>rfl)
 refine (callsIn_wide (n:=1)).1 ((FV.calls (wX c hV s hs) rfl (C:=cxG fun b=>F1 b∨F2 b) (us:=[_,.int .i64 s]) (.cons _ _ _ _ (.p _ _ (bWl r1 r2)) (.cons _ _ _ _ (.p _ _ (.v _)) .nil)) (cDg fun b h=>h.elim (f1 b) (f2 b)) 1).mono ?_)
 rintro e w' ⟨u,rfl,hb,F,hr⟩;rw [aMd hr];exact ⟨rfl,hb⟩
end KC
end Go.Proofs
section
namespace Go.Proofs
open Go.RowKit
namespace KC

theorem rN{w w':World}(h:Below w.heap.size w w')(row:Option Nat):w.grownBy w' row :=
 ⟨h.os,h.tape,h.output,h.size,fun k hk _=>h.block k hk⟩

section
variable {P:Program} {ops:Array Oper} {rest:List Oper} {dst:Option Tmp} {ty:TypeId} {pos:String} {af:Array Edge} {a:Act} {w:World} {Q:Exit→Act→World→Prop}

end

end KC
end Go.Proofs

end

section
namespace Go.Proofs
open Go.RowKit Go.Lib Go.Sort
namespace KC

theorem aXe{w wr W:World}{row:Option Nat}(h:w.grownBy wr row)(hb:wr.grownBy W row):w.grownBy W row :=
 ⟨hb.os.trans h.os,hb.tape.trans h.tape,hb.output.trans h.output,Nat.le_trans h.size hb.size,fun k hk hne=>(hb.block k (Nat.lt_of_lt_of_le hk h.size) hne).trans (h.block k hk hne)⟩

end KC
end Go.Proofs

end

section
namespace Go.Proofs
open Go.RowKit Go.Lib Go.Sort
namespace KC

abbrev eB(c:Cup)(vp vd:Value):Obj := .cells #[.int .i64 c.sk,.int .i64 c.ra,.int .i64 c.be,vp,vd] 98
end KC
end Go.Proofs

end

section
namespace Go.Proofs
open Go.RowKit
namespace KC
section
variable {P:Program} {ops:Array Oper} {rest:List Oper} {dst:Option Tmp} {ty:TypeId} {pos:String} {af:Array Edge} {a:Act} {w:World} {Q:Exit→Act→World→Prop}

theorem tD(g:Nat)(e:TypeId):∀ (vs:List Value) (o:Nat) (w:World) (cs:Array Value),w.heap[g]? = some (.cells cs e (0,0))→o+vs.length≤cs.size →
  ∃ Be,(w.setCells g o vs).heap[g]? = some (.cells Be e (0,0))∧Be.size=cs.size∧(∀ j,j<o→Be[j]? = cs[j]?)∧(∀ j,j<vs.length→Be[o+j]? = vs[j]?)∧(∀ j,o+vs.length≤j→Be[j]? = cs[j]?)∧w.grownBy (w.setCells g o vs) (some g)∧(w.setCells g o vs).heap.size=w.heap.size
 | [],o,w,cs,hg,_=>⟨cs,hg,rfl,fun _ _=>rfl,fun j h=>by simp at h,fun _ _=>rfl,World.grownBy.refl _ _,rfl⟩
 | v::vs,o,w,cs,hg,hs=>by
  simp only [List.length_cons] at hs
  have h1:=heap_setCell_same w g o cs e v hg;obtain ⟨Be,h2,h3,h4,h5,h6,h7,h8⟩:=tD g e vs (o+1) (w.setCell ⟨g,o,none⟩ v) _ h1 (by simp;omega)
  refine ⟨Be,h2,by simpa using h3,fun j hj => ?_,fun j hj => ?_,fun j hj => ?_,?_,?_⟩
  ·rw [h4 j (by omega),Array.getElem?_setIfInBounds,if_neg (by omega)]
  ·cases j with
   | zero=>rw [Nat.add_zero,h4 o (by omega),Array.getElem?_setIfInBounds,if_pos rfl,if_pos (by omega)];rfl
   | succ j=>rw [show o+(j+1)=o+1+j by omega,h5 j (by simpa using hj)];rfl
  ·simp only [List.length_cons] at hj
   rw [h6 j (by omega),Array.getElem?_setIfInBounds,if_neg (by omega)]
  ·refine aXe (wr:=w.setCell ⟨g,o,none⟩ v) ⟨rfl,rfl,rfl,by simp,fun k _ hk=>heap_setCell_other w ⟨g,o,none⟩ k v (fun e=>hk (by simp [e]))⟩ h7
  ·exact h8.trans (by simp)

end
end KC
end Go.Proofs

end

section
namespace Go.Proofs
open Go.RowKit Go.Lib Go.Sort
namespace KC

def bBe:Array Value:=formC 0 zeros61


theorem G6:∀ w,(zeroValue 125).run Tryz.prog w = .ok (.agg bBe) w:=fun w=>by rw [Tryz.zeroValue125];rfl
theorem bHt(t:Int)(pl:List Int):(formC t pl).all (·.oneCell')=true:=by
 rw [Array.all_eq_true_iff_forall_mem];intro v hv;simp only [formC,List.mem_toArray,List.mem_cons,List.mem_map] at hv
 rcases hv with rfl | ⟨x,_,rfl⟩ <;> rfl

theorem uR{W:World}{b:Nat}{c:Cup}{vp vd:Value}(h:W.heap[b]? = some (eB c vp vd)) :
  W.cell? ⟨b,0,none⟩=some (.int .i64 c.sk)∧W.cell? ⟨b,1,none⟩=some (.int .i64 c.ra)∧W.cell? ⟨b,2,none⟩=some (.int .i64 c.be)∧W.cell? ⟨b,3,none⟩=some vp∧W.cell? ⟨b,4,none⟩=some vd:=by
 refine ⟨?_,?_,?_,?_,?_⟩ <;> rw [cell_of_row _ _ _ _ _ _ h] <;> rfl

theorem bHu(w:World)(b o:Nat)(u:Value):w.grownBy (w.setCell ⟨b,o,none⟩ u) (some b) :=
 ⟨rfl,rfl,rfl,by simp,fun q _ hq=>heap_setCell_other w ⟨b,o,none⟩ q u (fun e=>hq (by simp [e]))⟩

end KC
end Go.Proofs

end

section
namespace Go.Proofs
open Go.RowKit Go.Lib Go.Sort Go.Shelf
namespace KC

attribute [local go_sem] Oper.semAt_some

structure KpD (n₀ b:Nat) (A B:World):Prop where
 bel:Below n₀ A B
 one:B.heap[b]? = A.heap[b]?
 two:B.heap[b+1]? = A.heap[b+1]?

theorem KpD.refl(n₀ b:Nat)(A:World):KpD n₀ b A A:=⟨Below.refl _ _,rfl,rfl⟩
theorem KpD.trans{n₀ b:Nat}{A B C:World}(h:KpD n₀ b A B)(k:KpD n₀ b B C):KpD n₀ b A C:=⟨h.bel.trans k.bel,k.one.trans h.one,k.two.trans h.two⟩
theorem KpD.put{n₀ b:Nat}{w:World}(hn:n₀≤w.heap.size)(hb:b+1<w.heap.size)(W:World)(l:Nat)(o o':Obj)(hl:w.heap.size≤l)(h:W.heap[l]? = some o)(h1:o.isCells=false)(h2:o.isWalk=false):KpD n₀ b W (W.putObj l o') :=
 ⟨belowK_b hn W l o o' hl h h1 h2,(grownBy_putObj' W l o').block b (by have:=lt_of_block h;omega) (by simp;omega),(grownBy_putObj' W l o').block (b+1) (by have:=lt_of_block h;omega) (by simp;omega)⟩
theorem KpD.of_below{n₀ b:Nat}{A B:World}(h:Below A.heap.size A B)(hn:n₀≤A.heap.size)(hb:b+1<A.heap.size):KpD n₀ b A B :=
 ⟨h.mono hn,h.block _ (by omega),h.block _ hb⟩

set_option maxRecDepth 1000000 in
set_option maxHeartbeats 2000000 in
theorem aRm(c:Cup)(hV:Valid c)(w0:World)(vp vd:Value)(hc:zZ w0 (.agg #[.int .i64 c.sk,.int .i64 c.ra,.int .i64 c.be,vp,vd]) c)(n l b:Nat)(hn:1≤n)(skier:Nat)(J Jx:List Nat→World→Prop)
  (hY:∀ pre (x:Nat) W,J pre W→pre.length<(oth skier c.sk.toNat).length→YieldAt Fence.wide (n-1) Tryz.prog l #[.int .i64 x,.agg (iF c x)] W fun e W' =>
   (e = .returned (.bool true)∧J (pre++[x]) W'∧KpD w0.heap.size b W W')∨(e = .returned (.bool false)∧Jx (pre++[x]) W'))
  (W:World) (hJ:AbidesFrom W.heap.size J) (hB:Below w0.heap.size w0 W) (h1:W.heap[b]? = some (eB c vp vd)) (h2:W.heap[b+1]? = some (.cells #[.int .i64 skier] 3)) (h0:J [] W) :
  CallsIn Fence.wide n Tryz.prog 175 #[.func (.yield l) #[] #[],.pointer (some ⟨b,0,none⟩),.pointer (some ⟨b+1,0,none⟩)] W fun e W'=>(∃ v,e = .returned v) ∧
   ((∃ ys,ys=oth skier c.sk.toNat∧J ys W')∨(∃ pre,pre <+: oth skier c.sk.toNat∧Jx pre W')):=by
 have HJ:=hid hJ;have HY:=hid hY;have HB:=hid hB;have H1:=hid h1;have H2:=hid h2;have HC:=hid hc;have HJ0:=hid h0;have hsk:=hV.sk2;have Na:=hV.sk1;clear hJ hY hB h0 hc;obtain ⟨k0,k1,k2,k3,k4⟩:=uR h1;clear h1 h2;refine callsIn_of_wp Tryz.func175 rfl trivial ?_ rfl;simp only [Tryz.ntmps175,List.size_toArray,List.length_cons,List.length_nil,Nat.reduceAdd,Nat.reduceSub,Array.replicate_succ,Array.replicate_zero,List.push_toArray,List.append_toArray,List.nil_append,List.cons_append]
 gi_wp2
 clear k0 k1 k2 k3 k4
 gi_loopw [8] (fun i wr=>∃ k:Nat,(k:Int)≤c.sk∧i = .int .i64 k∧J (oth skier k) wr∧KpD w0.heap.size b W wr)
  (fun i _=>c.sk.toNat-(intOf i).toNat)
 case atStart=>exact ⟨0,by omega,rfl,HJ0.out,KpD.refl _ _ _⟩
 case round =>
  obtain ⟨k,hk,rfl,hJk,hK⟩:=hrel;have HJK:=hid hJk;have HK:=hid hK;have Hn:wr.heap[b]? = some (eB c vp vd):=hK.one.trans H1.out;have Gn:wr.heap[b+1]? = some (.cells #[.int .i64 skier] 3):=hK.two.trans H2.out;have K4:=lt_of_block Gn;obtain ⟨k0,k1,k2,k3,k4⟩:=uR Hn;have ks:wr.cell? ⟨b+1,0,none⟩=some (.int .i64 skier):=by rw [cell_of_row _ _ _ _ _ _ Gn];rfl
  have HBR:=hid (HB.out.trans hK.bel);clear hJk hK Hn Gn
  by_cases hlt:(k:Int)<c.sk
  ·by_cases hks:k=skier
   ·subst hks
    have HE:=hid (tH k);have Eh:(k:Int)<12:=by omega
    gi_wp2
    refine ⟨trivial,?_⟩
    gi_wp2
    refine ⟨fun _ h=>(by cases h),?_⟩
    gi_wp2
    go_roundw
    case rel=>exact ⟨k+1,by omega,by go_num,by rw [HE.out];exact HJK.out,HK.out⟩
    case measure=>simp [intOf];omega
   ·have HE:=hid (mH skier k hks)
    have hne:((k:Int) != skier)=true:=by simp;omega
    have HF:=hid (aEr c hV _ k wr (HC.out.below HBR.out) hlt);have HL:=hid (bQk skier (show k<c.sk.toNat by omega) hks)
    have HP:=hid (uT skier (show k+1≤c.sk.toNat by omega))
    have Eh:(k:Int)<12:=by omega
    have hbw:b+1<W.heap.size:=lt_of_block H2.out;have HWR:=hid (fun w1 (Bl:Below wr.heap.size wr w1)=>HJ.out _ wr w1 none HJK.out (rN Bl none) (fun r e=>by cases e))
    have HKD:=hid (fun w1 (Bl:Below wr.heap.size wr w1)=>HK.out.trans (KpD.of_below Bl HBR.out.size K4))
    gi_wp2_with (first
     | (refine ⟨trivial,?_⟩;gi_at_call 58;refine (callsIn_wide.2 HF.out).mono ?_;clear HF;rintro e w1 ⟨rfl,Bl⟩;have HB1:=hid Bl;clear Bl;obtain ⟨fn,tmps,assign,body,hy,hR⟩:=HY.out _ k w1 (HWR.out w1 HB1.out) HL.out)
     | (refine hR.mono ?_;clear hR;rintro e w3 (⟨rfl,Ja,Jb⟩ | ⟨rfl,hx⟩)))
    ·go_roundw
     case rel=>exact ⟨k+1,by omega,by go_num,by rw [HE.out];exact Ja,(HKD.out w1 HB1.out).trans Jb⟩
     case measure=>simp [intOf];omega
    ·refine bodyPost_ret (results_none rfl _ _ _) rfl ?_
     exact ⟨⟨_,rfl⟩,.inr ⟨oth skier k++[k],HE.out ▸ HP.out,hx⟩⟩
  ·have HE:=hid (show k=c.sk.toNat by omega)
   gi_wp2
   go_end0
   exact ⟨⟨_,rfl⟩,.inl (HE.out ▸ HJK.out)⟩

theorem aEs(c:Cup)(vp vd:Value)(skier:Nat)(w:World)(hp:Ints w vp c.pts)(hd:Rows w vd c.done) :
  Calls Tryz.prog 121 #[.agg #[.int .i64 c.sk,.int .i64 c.ra,.int .i64 c.be,vp,vd],.int .i64 skier] w fun e w' =>
   e = .returned (.func (.func 175) #[] #[.pointer (some ⟨w.heap.size,0,none⟩),.pointer (some ⟨w.heap.size+1,0,none⟩)])∧w'=(w.alloc (eB c vp vd)).alloc (.cells #[.int .i64 skier] 3):=by
 obtain ⟨pd,cd,rfl,Gn,Lg,_⟩:=hd.open;obtain ⟨pp,cp,rfl,Gj,Od,_⟩:=hp.open;unfold maxLen at Lg Od
 go_enter Tryz.func121,Tryz.ntmps121
 go_wp2
 go_ret
 exact ⟨rfl,rfl⟩

theorem aMb(c:Cup)(hV:Valid c)(w0:World)(vp vd:Value)(hc:zZ w0 (.agg #[.int .i64 c.sk,.int .i64 c.ra,.int .i64 c.be,vp,vd]) c)(n b:Nat)(hn:1≤n)(skier:Nat)(w:World)
  (hB:Below w0.heap.size w0 w) (h1:w.heap[b]? = some (eB c vp vd)) (h2:w.heap[b+1]? = some (.cells #[.int .i64 skier] 3)) :
  SeqStopsK Fence.wide n Tryz.prog 175 #[.pointer (some ⟨b,0,none⟩),.pointer (some ⟨b+1,0,none⟩)] (fun x:Nat => #[Value.int .i64 x,.agg (iF c x)]) (KpD w0.heap.size b) (fun ys=>ys=oth skier c.sk.toNat) (fun pre=>pre <+: oth skier c.sk.toNat) (oth skier c.sk.toNat).length w :=
 fun l J Jx W hW hJ _ hY h0=>aRm c hV w0 vp vd hc n l b hn skier J Jx hY W hJ (hB.trans (hW.mono hB.size)) ((hW.block b (lt_of_block h1)).trans h1) ((hW.block (b+1) (lt_of_block h2)).trans h2) h0
end KC
end Go.Proofs

end

section
namespace Go.Proofs
open Go.RowKit Go.Lib Go.Sort Go.Shelf
namespace KC

section
variable {F:Fence} {n:Nat} {P:Program} {ops:Array Oper} {rest:List Oper} {dst:Option Tmp} {ty:TypeId} {pos:String} {af:Array Edge} {a:Act} {w:World} {Q:Exit→Act→World→Prop}

theorem aEt{t:TypeId}{z:Value}(Z:Array Value)(hz:∀ w,(zeroValue t).run P w = .ok z w)(hZ:z.cells=Z)
  (h:wpListIn F n P ops Q rest (a.put dst (.pointer (some ⟨w.heap.size,0,none⟩))) (w.alloc (.cells Z t))) :
  wpListIn F n P ops Q ({ dst:=dst,op := .alloc t,type:=ty,pos:=pos,after:=af,guard:=none }::rest) a w:=by
 subst hZ;refine wpListIn_plain rfl fun K hK => ?_
 unfold Oper.wpIn;refine ⟨by simp [Oper.about],?_⟩
 rw [Oper.semAt_plain F _ _ (by intro c F3;cases F3)]
 simp only [execOp,Instr.alloc,Sem.run_bind,hz,Result.andThen_ok,newVar,newRow,newObj];exact hK _ _ h

theorem pK{t e:TypeId}{x:Operand}{g:Nat}{cs:Array Value}{d:TypeDesc}(hg:w.heap[g]? = some (.cells cs e (0,0)))
  (hu:P.underlying t=some d) (hd:(match d with | .struct _ | .array _ _=>true | _=>false)=true) (hi:(P.info? t).map (·.size)=some cs.size)
  (hx:a.eval x = .pointer (some ⟨g,0,none⟩))
  (h:wpListIn F n P ops Q rest (a.put dst (.agg cs)) w) :
  wpListIn F n P ops Q ({ dst:=dst,op := .load t x,type:=ty,pos:=pos,after:=af,guard:=none }::rest) a w:=by
 refine wpListIn_plain rfl fun K hK => ?_
 unfold Oper.wpIn;refine ⟨by simp [Oper.about],?_⟩
 rw [Oper.semAt_plain F _ _ (by intro c F3;cases F3)]
 simp only [execOp,hx,Instr.loadAt,Instr.sureAddr,Sem.run_bind,Sem.run_pure,Result.andThen_ok,run_loadVar_row w g e t cs (0,0) d hg hu hd hi];exact hK _ _ h

theorem tE{t e:TypeId}{x y:Operand}{g:Nat}{cs cells:Array Value}(hg:w.heap[g]? = some (.cells cs e (0,0)))(hi:(P.info? t).map (·.size)=some cells.size)
  (hsz:cells.size=cs.size) (h1:cells.all (·.oneCell')=true) (hx:a.eval x = .pointer (some ⟨g,0,none⟩)) (hy:a.eval y = .agg cells)
  (h:∀ w',w'.heap[g]? = some (.cells cells e (0,0))→w.grownBy w' (some g)→wpListIn F n P ops Q rest (a.put dst undef) w') :
  wpListIn F n P ops Q ({ dst:=dst,op := .store t x y,type:=ty,pos:=pos,after:=af,guard:=none }::rest) a w:=by
 refine wpListIn_plain rfl fun K hK => ?_
 unfold Oper.wpIn;refine ⟨by simp [Oper.about],?_⟩
 rw [Oper.semAt_plain F _ _ (by intro c F3;cases F3)]
 have ht:w.there g 0 cells.size:=fun j hj=>by
  rw [Nat.zero_add,cell_of_row w g j cs e (0,0) hg,frozen_of_row w g j cs e hg];refine ⟨?_,rfl⟩;rw [Array.getElem?_eq_getElem (by omega)]
  rfl
 simp only [execOp,hx,hy,Instr.storeAt,Instr.sureAddr,Sem.run_bind,Sem.run_pure,Result.andThen_ok,run_storeVar_mid w g 0 t cells ht hi h1];refine hK _ _ ?_;obtain ⟨Be,h2,h3,_,h5,_,h7,_⟩:=tD g e cells.toList 0 w cs hg (by simp;omega)
 have:Be=cells:=by
  apply Array.ext_getElem?;intro j
  by_cases hj:j<cells.size
  ·have:=h5 j (by simpa using hj)
   rw [Nat.zero_add] at this
   rw [this];simp
  ·rw [Array.getElem?_eq_none (by omega),Array.getElem?_eq_none (by omega)]
 subst this;exact h _ h2 h7
end

theorem aMc{β:Type}(B N:Nat):OwnFrom B (fun (_:β) W=>N≤W.heap.size):=fun _ _ _ _ hs hg _=>Nat.le_trans hs hg.size
theorem aIu{β:Type}(B:Nat)(f:β→Array Value)(t:TypeId)(fr:Nat × Nat):Own (fun s W=>W.heap[B]? = some (.cells (f s) t fr)):=fun s X Y row hs hg hrow =>
 (hg.block B (lt_of_block hs) (fun e=>by obtain ⟨o,ho,hc⟩:=hrow B e.symm;rw [hs] at ho;cases ho;cases hc)).trans hs

theorem aEu(c:Cup)(s:Nat):(iF c s).size=62:=by unfold iF;rw [uU];unfold placesM;rw [placesUpTo_length]
theorem bBf(c:Cup)(s:Nat):(iF c s).size=bBe.size:=by rw [aEu];rfl
theorem aIv(c:Cup)(s:Nat):(iF c s).all (·.oneCell')=true:=bHt _ _
theorem Ed(c:Cup)(s:Nat):(Tryz.prog.info? 125).map (·.size)=some (iF c s).size:=by rw [aEu];exact Fv

theorem aRn(c:Cup)(a b:Nat)(w:World):Calls Tryz.prog 122 #[.agg (iF c a),.agg (iF c b)] w (Ret (.bool (betS c a b)) w):=by
 have h:∀ s,(placesM c s).length=61:=fun s=>by unfold placesM;rw [placesUpTo_length]
 exact better_any _ _ _ _ (h a) (h b) w

theorem Jg(a b c d e:Value):(Tryz.prog.info? 98).map (·.size)=some (#[a,b,c,d,e]:Array Value).size:=by
 have:(Tryz.prog.info? 98).map (·.size)=some 5:=by kernel_rfl
 exact this

theorem Qn(p q:Nat)(a b:Value)(t:Array Value):(#[p,q].zip #[a,b]).foldl (fun t (x:Nat × Value)=>t.setIfInBounds x.1 x.2) t=(t.setIfInBounds p a).setIfInBounds q b:=by simp

theorem iS(B:Nat){W W':World}(h:Below W.heap.size W W'):KeepsFrom B W W':=⟨h.size,fun k o _ hk _=>(h.block k (lt_of_block hk)).trans hk⟩

attribute [local go_sem] Oper.semAt_some

set_option maxRecDepth 1000000 in
set_option maxHeartbeats 4000000 in
theorem bQa(c:Cup)(hV:Valid c)(v:Value)(s:Nat)(w:World)(hv:zZ w v c)(hs:(s:Int)<c.sk) :
    Calls Tryz.prog 59 #[v,.int .i64 s] w (Ret (.int .i64 (rankM c s)) w):=by
  have HC:=hid hv;obtain ⟨vp,vd,rfl,hp,hd⟩:=hv;have HP:=hid hp;have HD:=hid hd;obtain ⟨pd,cd,rfl,Gn,Lg,_⟩:=hd.open;obtain ⟨pp,cp,rfl,Gj,Od,_⟩:=hp.open;unfold maxLen at Lg Od
  clear hp hd;obtain ⟨vp,hvp⟩:∃ vp,vp=Value.slice pp c.pts.length cp:=⟨_,rfl⟩;obtain ⟨vd,hvd⟩:∃ vd,vd=Value.slice pd c.done.length cd:=⟨_,rfl⟩;have HBX:=hid (((Below.refl w.heap.size w).alloc (Nat.le_refl _) (eB c (Value.slice pp c.pts.length cp) (Value.slice pd c.done.length cd))));have HF:=hid (aEr c hV _ s (w.alloc (eB c (Value.slice pp c.pts.length cp) (Value.slice pd c.done.length cd))) (HC.out.below HBX.out) hs);refine (callsIn_wide (n:=3)).1 ?_;refine callsIn_of_wp_marks Tryz.func59 rfl trivial ?_ rfl;simp only [Tryz.ntmps59,List.size_toArray,List.length_cons,List.length_nil,Nat.reduceAdd,Nat.reduceSub,Array.replicate_succ,Array.replicate_zero,List.push_toArray,List.append_toArray,List.nil_append,List.cons_append];have HPX:=hid (fun W (h:Below w.heap.size w W)=>aEp HP.out h)
  have HDX:=hid (fun W (h:Below w.heap.size w W)=>aEq HD.out h)
  clear hvp hvd
  gi_wp2_with (first
    | (refine ⟨trivial,?_⟩;gi_at_call 58;refine (callsIn_wide.2 HF.out).mono ?_;clear HF;rintro e w1 ⟨rfl,Bl⟩;have HB1:=hid Bl;clear Bl)
    | (with_reducible apply aEt bBe G6 rfl)
    | ((with_reducible apply tE (hg:=heap_alloc_new _ _) (hi:=Ed c s) (hsz:=bBf c s) (h1:=aIv c s));rfl;rfl;intro w2 h2 Es
       have H5:=hid h2;have HG2:=hid Es;clear h2 Es;have HB2:=hid (show Below w1.heap.size w1 w2 from (((Below.refl _ w1).alloc (Nat.le_refl _) _).grown HG2.out (by simp) (fun q hq=>by cases hq;exact Nat.le_refl _)))
       have Ey:w.heap.size+1≤w1.heap.size:=by have:=HB1.out.size;simpa using this
       have Kb:w1.heap.size+1≤w2.heap.size:=by have:=HG2.out.size;simpa using this
       have Uy:=HB1.out.size;have HBW2:=hid (show Below w.heap.size w w2 from (HBX.out.trans (HB1.out.mono (by simp))).trans (HB2.out.mono (by omega)))
       have H2:=hid (show w2.heap[w.heap.size]? = some (eB c (Value.slice pp c.pts.length cp) (Value.slice pd c.done.length cd)) from by rw [HB2.out.block _ (by omega),HB1.out.block _ (by simp)];exact heap_alloc_new w _)
       have H2A:=hid (show (w2.alloc (.cells #[.int .i64 1] 3)).heap[w.heap.size]? = some (eB c (Value.slice pp c.pts.length cp) (Value.slice pd c.done.length cd)) from ((World.grownBy_alloc w2 _ none).block w.heap.size (by omega) (by simp)).trans H2.out))
    | ((with_reducible apply pK (hg:=H2A.out) (hu:=Tryz.underlying98) (hi:=Jg _ _ _ _ _));rfl;rfl)
    | (refine ⟨trivial,?_⟩;gi_at_call 121;refine (callsIn_wide.2 (aEs c _ _ s _ (HPX.out _ (HBW2.out.alloc (by omega) _)) (HDX.out _ (HBW2.out.alloc (by omega) _)))).mono ?_;rintro e w' ⟨rfl,rfl⟩))
  obtain ⟨W0,G7⟩:∃ W0,W0=((w2.alloc (.cells #[.int .i64 1] 3)).alloc (eB c (Value.slice pp c.pts.length cp) (Value.slice pd c.done.length cd))).alloc (.cells #[.int .i64 s] 3):=⟨_,rfl⟩;have HW0:=hid G7;have Uz:W0.heap.size=w2.heap.size+3:=by rw [G7];simp
  have HBW0:=hid (show Below w2.heap.size w2 W0 from by rw [G7];exact (((Below.refl _ w2).alloc (Nat.le_refl _) _).alloc (by simp) _).alloc (by simp;omega) _)
  have HBWW:=hid (show Below w.heap.size w W0 from HBW2.out.trans (HBW0.out.mono (by omega)))
  have b6:Boxed W0 w2.heap.size 3 (.int .i64 1):=by rw [G7];exact ((Boxed.new w2 3 _).alloc _).alloc _
  have hbD:W0.heap[w2.heap.size+1]? = some (eB c (Value.slice pp c.pts.length cp) (Value.slice pd c.done.length cd)):=by
    rw [G7];refine ((World.grownBy_alloc _ _ none).block _ (by simp) (by simp)).trans ?_
    have:=heap_alloc_new (w2.alloc (.cells #[.int .i64 1] 3)) (eB c (Value.slice pp c.pts.length cp) (Value.slice pd c.done.length cd));simpa using this
  have hbS:W0.heap[w2.heap.size+1+1]? = some (.cells #[.int .i64 s] 3 (0,0)):=by
    rw [G7];have:=heap_alloc_new ((w2.alloc (.cells #[.int .i64 1] 3)).alloc (eB c (Value.slice pp c.pts.length cp) (Value.slice pd c.done.length cd))) (.cells #[.int .i64 s] 3);simpa using this
  have h5:W0.heap[w1.heap.size]? = some (.cells (iF c s) 125 (0,0)):=(HBW0.out.block _ (by omega)).trans H5.out
  rw [← G7];have HRB:=hid (fun pre=>bJi c s pre)
  have HOL:=hid (aYp s c.sk.toNat);have U0:=hV.sk2;have Na:=hV.sk1;clear G7 HW0 H2A H2 HB1 HBX HPX HDX HP HD Gn Lg Gj Od;refine wpIn_rangeFunc_ownH rfl (by omega) (gf:=175) (lb := #[.pointer (some ⟨w2.heap.size+1,0,none⟩),.pointer (some ⟨w2.heap.size+1+1,0,none⟩)]) rfl trivial (enters_of Tryz.func175 (by kernel_rfl) rfl)
    (aMb c hV w _ _ HC.out (3-1) (w2.heap.size+1) (by omega) s W0 HBWW.out hbD hbS) (fun h k=>KpD.trans h k) (KpD.put (by omega) (by omega)) (Below.refl _ _) (fun _=>rfl)
    (fun pre W=>(Boxed W w2.heap.size 3 (.int .i64 (nQ c s pre))∧W.heap[w1.heap.size]? = some (.cells (iF c s) 125 (0,0)))∧(Below w.heap.size w W∧W0.heap.size≤W.heap.size))
    (fun _ _ _=>False)
    (OwnFrom.and (OwnFrom.and (Own.from (boxed_own _ _ (fun pre=>Value.int .i64 (nQ c s pre))) _) (Own.from (aIu _ (fun _=>iF c s) _ _) _)) (OwnFrom.and (ownFrom_below (Nat.le_refl _) (by omega)) (aMc _ _)))
    (fun _ _ _ _ _ hs _ _=>hs)
    ⟨⟨b6,h5⟩,HBWW.out,Nat.le_refl _⟩
    (fun x a' W=>∃ Bx,W.heap[Bx]? = some (.cells (iF c x) 125 (0,0))∧a'={ tmps := #[Value.agg #[Value.int .i64 c.sk,Value.int .i64 c.ra,Value.int .i64 c.be,Value.slice pp c.pts.length cp,Value.slice pd c.done.length cd],.int .i64 s,.pointer (some ⟨w.heap.size,0,none⟩),undef,.int .i64 0,.pointer (some ⟨w1.heap.size,0,none⟩),.pointer (some ⟨w2.heap.size,0,none⟩),undef,.pointer (some ⟨Bx,0,none⟩),undef,Value.agg #[Value.int .i64 c.sk,Value.int .i64 c.ra,Value.int .i64 c.be,Value.slice pp c.pts.length cp,Value.slice pd c.done.length cd],.int .i64 s,.agg (iF c s),Value.agg #[Value.int .i64 c.sk,Value.int .i64 c.ra,Value.int .i64 c.be,Value.slice pp c.pts.length cp,Value.slice pd c.done.length cd],.int .i64 s,.func (.func 175) #[] #[.pointer (some ⟨w2.heap.size+1,0,none⟩),.pointer (some ⟨w2.heap.size+1+1,0,none⟩)],.int .i64 x,.agg (iF c x),undef,undef,undef,undef,undef,undef,undef,undef],defers:=[] })
    (fun x a' _ X Y row hs hg hr=>by obtain ⟨Bx,h2,h3⟩:=hs;exact ⟨Bx,aIu Bx (fun (_:Unit)=>iF c x) _ _ () X Y row h2 hg (fun r e=>(hr r e).2),h3⟩)
    ?assign ?body ?done ?stop
  case assign =>
    rintro l pre x W K ⟨⟨J2,Nb⟩,Jh,hZ⟩ hK;have hsW:=Jh.size;have U1:=J2.lt;have F8:=lt_of_block Nb;refine wpIn_region_lit ?_;rw [show (#[16,17].zip #[Value.int .i64 x,.agg (iF c x)]).foldl _ _=_ from Qn 16 17 _ _ _]
    simp only [List.setIfInBounds_toArray,List.set_cons_succ,List.set_cons_zero];refine aEt bBe G6 rfl ?_;refine tE (hg:=heap_alloc_new _ _) (hi:=Ed c x) (hsz:=bBf c x) (h1:=aIv c x) ?_ ?_ ?_
    · rfl
    · rfl
    intro w4 h4 R4;have H4:=hid h4;have HG4:=hid R4;clear h4 R4;have hBW:RowKit.Below W.heap.size W w4:=(((Below.refl _ W).alloc (Nat.le_refl _) _).grown HG4.out (by simp) (fun q hq=>by cases hq;exact Nat.le_refl _))
    refine wpListIn_nil ?_;exact hK _ _ (iS _ hBW) (KpD.of_below hBW Jh.size (by omega)) ⟨⟨(hBW.block _ U1).trans J2,(hBW.block _ F8).trans Nb⟩,Jh.trans (hBW.mono hsW),Nat.le_trans hZ hBW.size⟩ ⟨W.heap.size,H4.out,rfl⟩
  case body =>
    rintro l pre x a' W hl ⟨r,hr⟩ ⟨⟨J2,Nb⟩,Jh,hZ⟩ ⟨Bx,hBx,rfl⟩ hlt;have hsW:=Jh.size;have HBET:=hid (fun W=>aRn c x s W)
    obtain ⟨bet,hbet⟩:∃ bet,bet=betS c x s:=⟨_,rfl⟩;rw [← hbet] at HBET
    have HBETE:=hid hbet;obtain ⟨ru,hru⟩:∃ ru,ru=nQ c s pre:=⟨_,rfl⟩;obtain ⟨Gg,Ef⟩:=HRB.out pre;have hol:=HOL.out;rw [← hru] at Gg Ef J2
    have HRU:=hid hru;have HX:=hid hBx;have H51:=hid Nb;clear hbet hru hBx Nb
    gi_wp2_with (first
      | ((with_reducible apply pK (hg:=HX.out) (hu:=Tryz.underlying125) (hi:=Ed c x));rfl;rfl)
      | ((with_reducible apply pK (hg:=H51.out) (hu:=Tryz.underlying125) (hi:=Ed c s));rfl;rfl)
      | (refine ⟨trivial,?_⟩;gi_at_call 122;refine (CallsIn.inRound l (callsIn_wide.2 (HBET.out _))).mono ?_;rintro e w4 ⟨rfl,Qo⟩;have HB4:=hid Qo;have Oe:Boxed w4 w2.heap.size 3 (.int .i64 ru):=(Qo.block _ J2.lt).trans J2;have cS4:=Oe.cell;have fS4:=Oe.frozen;clear Qo))
    · have HS:=aAa c s pre x
      rw [← HBETE.out,← HRU.out] at HS
      have K5:=bHu w4 w2.heap.size 0 (.int .i64 (ru+1));have F8:=lt_of_block H51.out;refine ⟨(iS _ HB4.out).trans (KeepsFrom.of_grownBy K5 (fun q hq=>by cases hq;omega)),(KpD.of_below HB4.out hsW (by omega)).trans ⟨(Below.refl _ w4).grown K5 (by have:=HB4.out.size;omega) (fun q hq=>by cases hq;omega),K5.block _ (by have:=HB4.out.size;omega) (by simp),K5.block _ (by have:=HB4.out.size;omega) (by simp;omega)⟩,⟨?_,?_⟩,?_,?_⟩
      · rw [HS,if_pos (by assumption)];exact Oe.set _
      · exact (K5.block _ (by have:=HB4.out.size;omega) (by simp;omega)).trans ((HB4.out.block _ F8).trans H51.out)
      · exact (Jh.trans (HB4.out.mono hsW)).grown K5 (by have:=HB4.out.size;omega) (fun q hq=>by cases hq;omega)
      · exact Nat.le_trans hZ (Nat.le_trans HB4.out.size K5.size)
    · have HS:=aAa c s pre x
      rw [← HBETE.out,← HRU.out] at HS
      have F8:=lt_of_block H51.out;refine ⟨iS _ HB4.out,KpD.of_below HB4.out hsW (by omega),⟨?_,(HB4.out.block _ F8).trans H51.out⟩,Jh.trans (HB4.out.mono hsW),Nat.le_trans hZ HB4.out.size⟩
      rw [HS,if_neg (by first | assumption | (intro hh;simp_all))];exact Oe
  case done =>
    rintro D zs W hD rfl ⟨⟨J2,_⟩,Jh,_⟩ hK;have cS:=J2.cell
    gi_wp2
    refine ⟨by simp,.inl ⟨_,_,rfl,run_takeDeferred hK,?_⟩⟩
    exact ⟨_,results_tmp rfl _ _ _,rfl,Jh.trans (belowK_b (w:=w) (Nat.le_refl _) W D _ _ (by omega) hK rfl rfl)⟩
  case stop =>
    rintro D c pre W _ _ h _;exact h.elim
end KC
end Go.Proofs

end
end
section
namespace Go.Proofs
open Go.RowKit Go.Lib Go.Sort Go.Shelf
namespace KV
open Tryz
namespace CU
open KC
attribute [local go_sem] Oper.semAt_some

theorem KpG.below{F:Nat→Prop}{A B:World}(h:Below A.heap.size A B)(hF:∀ b,F b→b<A.heap.size):KpG F A B:=⟨h.size,fun b hb=>h.block b (hF b hb)⟩

set_option maxRecDepth 1000000 in
set_option maxHeartbeats 2000000 in
theorem aMa(c:Cup)(hV:Valid c)(F0:Nat→Prop)(vp vd:Value)(n l b1 o1 b2 o2:Nat)(hn:1≤n)(skier:Nat)(J Jx:List Nat→World→Prop)
  (hY:∀ pre (x:Nat) W,(x:Int)<c.sk→x≠skier→J pre W→pre.length<(oth skier c.sk.toNat).length→YieldAt Fence.wide (n-1) Tp l #[.int .i64 x,.agg (iF c x)] W fun e W' =>
   (e = .returned (.bool true)∧J (pre++[x]) W'∧KpG F0 W W')∨(e = .returned (.bool false)∧Jx (pre++[x]) W'))
  (W:World) (hJ:AbidesFrom W.heap.size J) (hF:∀ b,F0 b→b<W.heap.size)
  (hc:∀ W',KpG F0 W W'→zZ W' (.agg #[.int .i64 c.sk,.int .i64 c.ra,.int .i64 c.be,vp,vd]) c)
  (hk:∀ W',KpG F0 W W'→W'.cell? ⟨b1,o1,none⟩=some (.int .i64 c.sk)∧W'.cell? ⟨b1,o1+1,none⟩=some (.int .i64 c.ra)∧W'.cell? ⟨b1,o1+2,none⟩=some (.int .i64 c.be)∧W'.cell? ⟨b1,o1+3,none⟩=some vp∧W'.cell? ⟨b1,o1+4,none⟩=some vd∧W'.cell? ⟨b2,o2,none⟩=some (.int .i64 skier)) (h0:J [] W) :
  CallsIn Fence.wide n Tp 175 #[.func (.yield l) #[] #[],.pointer (some ⟨b1,o1,none⟩),.pointer (some ⟨b2,o2,none⟩)] W fun e W'=>(∃ v,e = .returned v) ∧
   ((∃ ys,ys=oth skier c.sk.toNat∧J ys W')∨(∃ pre,pre <+: oth skier c.sk.toNat∧Jx pre W')):=by
 have HJ:=hid hJ;have HY:=hid hY;have HC:=hid hc;have HKC:=hid hk;have HF0:=hid hF;have HJ0:=hid h0;have hsk:=hV.sk2;have Na:=hV.sk1;obtain ⟨k0,k1,k2,k3,k4,ks⟩:=hk W (KpG.refl _ _);clear hJ hY hc h0 hk hF;refine callsIn_of_wp func175 rfl trivial ?_ rfl;simp only [Tryz.ntmps175,List.size_toArray,oF,List.length_nil,Nat.reduceAdd,Nat.reduceSub,Array.replicate_succ,Array.replicate_zero,List.push_toArray,List.append_toArray,List.nil_append,List.cons_append]
 gi_wp2
 clear k0 k1 k2 k3 k4 ks
 gi_loopw [8] (fun i wr=>∃ k:Nat,(k:Int)≤c.sk∧i = .int .i64 k∧J (oth skier k) wr∧KpG F0 W wr)
  (fun i _=>c.sk.toNat-(intOf i).toNat)
 case atStart=>exact ⟨0,by omega,rfl,HJ0.out,KpG.refl _ _⟩
 case round =>
  obtain ⟨k,hk,rfl,hJk,hK⟩:=hrel;have HJK:=hid hJk;have HK:=hid hK;obtain ⟨k0,k1,k2,k3,k4,ks⟩:=HKC.out wr hK;have HFR:=hid (fun b (hb:F0 b)=>fK (HF0.out b hb) HK.out.size)
  clear hJk hK
  by_cases hlt:(k:Int)<c.sk
  ·by_cases hks:k=skier
   ·subst hks
    have HE:=hid (tH k);have Eh:(k:Int)<12:=by omega
    gi_wp2
    refine ⟨trivial,?_⟩
    gi_wp2
    refine ⟨fun _ h=>(by cases h),?_⟩
    gi_wp2
    go_roundw
    case rel=>exact ⟨k+1,by omega,by go_num,by rw [HE.out];exact HJK.out,HK.out⟩
    case measure=>simp [intOf];omega
   ·have HE:=hid (mH skier k hks)
    have hne:((k:Int) != skier)=true:=by simp;omega
    have HFM:=hid (aEr c hV _ k wr (HC.out wr HK.out) hlt);have HL:=hid (bQk skier (show k<c.sk.toNat by omega) hks)
    have HP:=hid (uT skier (show k+1≤c.sk.toNat by omega))
    have HKS:=hid hks;have HLT:=hid hlt;have Eh:(k:Int)<12:=by omega
    have HWR:=hid (fun w1 (Bl:Below wr.heap.size wr w1)=>HJ.out _ wr w1 none HJK.out (rN Bl none) (fun r e=>by cases e))
    have HKD:=hid (fun w1 (Bl:Below wr.heap.size wr w1)=>HK.out.trans (KpG.below Bl HFR.out))
    gi_wp2_with (first
     | (refine ⟨trivial,?_⟩;gi_at_call 58;refine (callsIn_wide.2 HFM.out).mono ?_;clear HFM;rintro e w1 ⟨rfl,Bl⟩;have HB1:=hid Bl;clear Bl;obtain ⟨fn,tmps,assign,body,hy,hR⟩:=HY.out _ k w1 HLT.out HKS.out (HWR.out w1 HB1.out) HL.out)
     | (refine hR.mono ?_;clear hR;rintro e w3 (⟨rfl,Ja,Jb⟩ | ⟨rfl,hx⟩)))
    ·go_roundw
     case rel=>exact ⟨k+1,by omega,by go_num,by rw [HE.out];exact Ja,(HKD.out w1 HB1.out).trans Jb⟩
     case measure=>simp [intOf];omega
    ·refine bodyPost_ret (results_none rfl _ _ _) rfl ?_
     exact ⟨⟨_,rfl⟩,.inr ⟨oth skier k++[k],HE.out ▸ HP.out,hx⟩⟩
  ·have HE:=hid (show k=c.sk.toNat by omega)
   gi_wp2
   go_end0
   exact ⟨⟨_,rfl⟩,.inl (HE.out ▸ HJK.out)⟩

theorem bPy{P:Program}{C:Cx}{M:Mem}{w w':World}(hM:aP P C M w)(hb:Below w.heap.size w w')(X:Nat→Prop)(hX:∀ b,X b→w.heap.size≤b∧b<w'.heap.size) :
  aP P ⟨C.ι,C.κ,fun b=>C.F b∨X b,[]⟩ M w'∧Fr C M w ⟨C.ι,C.κ,fun b=>C.F b∨X b,[]⟩ M w':=by
 have hL:Le C ⟨C.ι,C.κ,fun b=>C.F b∨X b,[]⟩ M M w w':=⟨fun _ o h=>⟨o,h⟩,fun _ _ _ _ _ cs h=>⟨cs,h⟩,fun _ o h o' h' hl=>by rw [h] at h';cases h';exact ⟨hl,rfl,rfl⟩,fun _ h => .inl h,fun b h=>hb.block b (hM.Fs b h)⟩
 refine ⟨⟨fun i Cc n cs hm => ?_,fun i Cc cs hm => ?_,fun i es cl hm => ?_,hM.inj,fun i o b ho hl hbb hf => ?_,fun b h => ?_,fun i x b hm hl hbb=>fK (hM.lt i x b hm hl hbb) hb.size⟩,
  ⟨hb.os,hb.tape,hb.output,hb.size,fun b h _=>hb.block b h,fun _ x h=>⟨⟨x,h⟩,rfl,rfl⟩,fun _ _ _ _ _ cs h=>⟨cs,h⟩,fun _ o h o' h' hl=>by rw [h] at h';cases h';exact hl,fun i x _ h hl hbb => .inr ⟨i,x,h,hl,hbb⟩,fun _ h => .inl h,fun b h=>h.elim .inl (fun h => .inr (.inl (hX b h).1))⟩⟩
 ·rcases hM.row _ _ _ _ hm with h4 | ⟨b,arr,inf,q0,q1,q2,q3,q4,q5,q6,q7,q8⟩
  ·exact .inl h4
  ·exact .inr ⟨b,arr,inf,q0,(hb.block b (hM.lt i _ b hm rfl q0)).trans q1,q2,q3,q4,q5,q6,fun j hj=>(q7 j hj).mono hL.F hL.fz,q8⟩
 ·obtain ⟨b,arr,q0,q1,q2,q3,q4⟩:=hM.box _ _ _ hm
  exact ⟨b,arr,q0,(hb.block b (hM.lt i _ b hm rfl q0)).trans q1,q2,fun j hj=>(q3 j hj).mono hL,q4⟩
 ·obtain ⟨b,arr,q0,q1,q2,q3⟩:=hM.mp _ _ _ hm
  refine ⟨b,arr,q0,(hb.block b (hM.lt i _ b hm rfl q0)).trans q1,q2,fun j hj => ?_⟩
  obtain ⟨en,r1,r2,r3,r4⟩:=q3 j hj;exact ⟨en,r1,r2,r3,r4.mono hL.F hL.fz⟩
 ·rcases hf with h | h
  ·exact hM.nF i o b ho hl hbb h
  ·have:=hM.lt i o b ho hl hbb;have:=(hX b h).1;omega
 ·rcases h with h | h
  ·exact fK (hM.Fs b h) hb.size
  ·exact (hX b h).2

theorem repVi{F:Nat→Prop}{w:World}{n:Int}{u:Value}(h:bQ F w (aA n) u):u = .int .i64 n:=by unfold aA at h;cases h;rfl
theorem Qm{vs:Array Value}{a b c d e:Value}(hs:vs.size=5)(h0:vs.getD 0 undef=a)(h1:vs.getD 1 undef=b)(h2:vs.getD 2 undef=c)(h3:vs.getD 3 undef=d)(h4:vs.getD 4 undef=e):vs = #[a,b,c,d,e]:=by
 apply Array.ext
 ·simpa using hs
 ·intro i h5 h6
  have:i=0∨i=1∨i=2∨i=3∨i=4:=by omega
  rcases this with rfl | rfl | rfl | rfl | rfl <;> simp_all [Bm]
theorem bPz{F:Nat→Prop}{w:World}{c:Cup}{u:Value}(hF:∀ b,F b→b<w.heap.size)(h:bQ F w (cupP c) u):∃ vp vd,u = .agg #[.int .i64 c.sk,.int .i64 c.ra,.int .i64 c.be,vp,vd]∧KC.Ints w vp c.pts∧KC.Rows w vd c.done∧bQ F w (aC c.pts) vp∧bQ F w (aR c.done) vd:=by
 cases h with
 | agg cs vs h0 h1 h2 =>
  have e0:=repVi (h2 0 (by simp))
  have e1:=repVi (h2 1 (by simp))
  have e2:=repVi (h2 2 (by simp))
  have e3:=h2 3 (by simp)
  have e4:=h2 4 (by simp)
  exact ⟨_,_,congrArg Value.agg (Qm h1 e0 e1 e2 rfl rfl),⟨F,hF,e3⟩,⟨F,hF,e4⟩,e3,e4⟩

def cDf(c:KC.Cup)(s:Int):AV := .fn 175 [] [.rp [aA c.sk,aA c.ra,aA c.be,aC c.pts,aR c.done] 0,.rp [aA s] 0]
abbrev Oth(c:KC.Cup)(s:Nat):Type:={ x:Nat // (x:Int)<c.sk∧x≠s }

theorem aIt(c:KC.Cup)(s:Nat){bs:List (Nat × AO)}{base:Nat}:FC Tp 121 [.p (cupP c),.p (aA (s:Int))] bs base (cDf c s) []:=fun M _ _ _ C w us hus hM n=>by
 cases hus with
 | cons _ _ u us h1 h2 =>
  cases h2 with
  | cons _ _ u2 Um h3 h4 =>
   cases h4;cases h1 with
   | p _ _ h1 =>
    cases h3 with
    | p _ _ h3 =>
     cases h3;obtain ⟨vp,vd,rfl,hp,hd,rp,rd⟩:=bPz hM.Fs h1;refine (callsIn_wide.2 (aEs c vp vd s w hp hd)).mono ?_;rintro e w' ⟨rfl,rfl⟩;have hb:Below w.heap.size w ((w.alloc (eB c vp vd)).alloc (.cells #[.int .i64 s] 3)):=((Below.refl _ w).alloc (dJ _) _).alloc (by simp) _
     obtain ⟨Eb,Iq⟩:=bPy hM hb (fun b=>w.heap.size≤b∧b<w.heap.size+2) (fun b h=>⟨h.1,by have:=h.2;simpa using this⟩)
     have hL:=hM.le Iq;have hbk:((w.alloc (eB c vp vd)).alloc (.cells #[.int .i64 s] 3)).heap[w.heap.size]? = some (eB c vp vd):=by
      refine ((World.grownBy_alloc _ _ none).block _ (by simp) (by simp)).trans ?_
      exact heap_alloc_new w _
     have hbs:((w.alloc (eB c vp vd)).alloc (.cells #[.int .i64 s] 3)).heap[w.heap.size+1]? = some (.cells #[.int .i64 s] 3 (0,0)):=by
      have:=heap_alloc_new (w.alloc (eB c vp vd)) (.cells #[.int .i64 s] 3);simpa using this
     obtain ⟨k0,k1,k2,k3,k4⟩:=uR hbk;have Uw:=rp.mono hL.F hL.fz;have Ux:=rd.mono hL.F hL.fz;refine ⟨_,rfl,_,Iq,Eb,.fn 175 [] _ #[] _ rfl rfl (fun i hi=>by simp at hi) (fun i hi => ?_)⟩
     have h5:∀ {u:Value} {l:List Int},bQ C.F w (aC l) u→u.oneCell'=true:=fun h=>by cases h;rfl
     have h6:∀ {u:Value} {l:Lqq},bQ C.F w (aR l) u→u.oneCell'=true:=fun h=>by cases h;rfl
     have h5:=h5 rp;have h6:=h6 rd
     match i,hi with
     | 0,_ =>
      refine Rep.rp _ 0 w.heap.size 0 (fun i=>(#[Value.int .i64 c.sk,.int .i64 c.ra,.int .i64 c.be,vp,vd]:Array Value).getD i undef) (fun i hi=>⟨.inr ⟨by omega,by omega⟩,?_⟩) (fun i hi => ?_) (fun i hi => ?_)
      ·match i,hi with
       | 0,_=>exact k0
       | 1,_=>exact k1
       | 2,_=>exact k2
       | 3,_=>exact k3
       | 4,_=>exact k4
      ·match i,hi with
       | 0,_=>exact .v _
       | 1,_=>exact .v _
       | 2,_=>exact .v _
       | 3,_=>exact Uw
       | 4,_=>exact Ux
      ·match i,hi with
       | 0,_=>rfl
       | 1,_=>rfl
       | 2,_=>rfl
       | 3,_=>exact h5
       | 4,_=>exact h6
     | 1,_ =>
      refine Rep.rp _ 0 (w.heap.size+1) 0 (fun i=>(#[Value.int .i64 s]:Array Value).getD i undef) (fun i hi=>⟨.inr ⟨by omega,by omega⟩,?_⟩) (fun i hi => ?_) (fun i hi => ?_)
      ·match i,hi with
       | 0,_=>rw [cell_of_row _ _ _ _ _ _ hbs];rfl
      ·match i,hi with
       | 0,_=>exact .v _
      ·match i,hi with
       | 0,_=>rfl

theorem aRl(c:KC.Cup)(hV:KC.Valid c)(s:Nat):aKv Tp (cDf c s) (fun x:Oth c s => #[Value.int .i64 x.1,.agg (iF c x.1)]) 175 (oth s c.sk.toNat).length (fun ys=>ys.map (fun x=>x.1)=oth s c.sk.toNat):=fun C M w u hu hFs=>by
 cases hu with
 | fn _ _ _ us vs h1 h2 h3 h4 =>
  obtain rfl:us = #[]:=by simpa using h1
  have q0:=h4 0 (by simp)
  have q1:=h4 1 (by simp)
  simp only [List.getElem_cons_zero,List.getElem_cons_succ] at q0 q1
  obtain ⟨x0,x1,rfl⟩:∃ x0 x1,vs = #[x0,x1]:=by
   have:vs.toList.length=2:=by simpa using h2
   match hv:vs.toList,this with
   | [x0,x1],_=>exact ⟨x0,x1,by rw [← hv]⟩
  simp at q0 q1
  cases q0 with
  | rp _ _ b1 o1 u1 e1 e2 e3 =>
   cases q1 with
   | rp _ _ b2 o2 u2 g1 g2 g3 =>
    refine ⟨_,fun pre=>∃ ys:List Nat,True,rfl,fun l J Jx W hW hJ _ hY h0 => ?_⟩
    have hsame:∀ W',KpG C.F W W'→∀ b,C.F b→W'.heap[b]? = w.heap[b]? := fun W' hk b hb=>(hk.same b hb).trans (hW.block b (hFs b hb))
    have R3:∀ W',KpG C.F W W'→∀ i (h:i<5),bQ C.F W' ([aA c.sk,aA c.ra,aA c.be,aC c.pts,aR c.done][i]'h) (u1 i):=fun W' hk i hi=>(e2 i hi).mono (fun _ h=>h) (hsame W' hk)
    have z0:u1 0 = .int .i64 c.sk:=repVi (e2 0 (by simp))
    have z1:u1 1 = .int .i64 c.ra:=repVi (e2 1 (by simp))
    have z2:u1 2 = .int .i64 c.be:=repVi (e2 2 (by simp))
    have zs:u2 0 = .int .i64 s:=repVi (g2 0 (by simp))
    have:=aMa c hV C.F (u1 3) (u1 4) 2 l b1 o1 b2 o2 (by omega) s (fun ys W=>∃ zs:List (Oth c s),zs.map (fun x=>x.1)=ys∧J zs W) (fun ys W=>∃ zs:List (Oth c s),zs.map (fun x=>x.1)=ys∧Jx zs W)
     (fun pre x W1 hx hxs hj hl=>by
      obtain ⟨zs,rfl,hj⟩:=hj;obtain ⟨fn,tmps,assign,body,hy,hR⟩:=hY zs ⟨x,hx,hxs⟩ W1 hj (by simpa using hl)
      refine ⟨fn,tmps,assign,body,hy,hR.mono ?_⟩;rintro e w3 (⟨rfl,Ja,Jb⟩ | ⟨rfl,Qc⟩)
      ·exact .inl ⟨rfl,⟨zs++[⟨x,hx,hxs⟩],by rw [jJ];rfl,Ja⟩,Jb⟩
      ·exact .inr ⟨rfl,⟨zs++[⟨x,hx,hxs⟩],by rw [jJ];rfl,Qc⟩⟩)
     W (fun ys A B row hs hg hr=>by obtain ⟨zs,h1,h2⟩:=hs;exact ⟨zs,h1,hJ _ _ _ _ h2 hg hr⟩) (fun b hb=>fK (hFs b hb) hW.size)
     (fun W' hk=>⟨_,_,rfl,⟨C.F,fun b hb=>fK (fK (hFs b hb) hW.size) hk.size,R3 W' hk 3 (by omega)⟩,⟨C.F,fun b hb=>fK (fK (hFs b hb) hW.size) hk.size,R3 W' hk 4 (by omega)⟩⟩)
     (fun W' hk=>by
      have hc:∀ b o,C.F b→W'.cell? ⟨b,o,none⟩=w.cell? ⟨b,o,none⟩:=fun b o hb=>dQ (hsame W' hk b hb) o
      refine ⟨?_,?_,?_,?_,?_,?_⟩
      ·rw [hc _ _ (e1 0 (by simp)).1,← z0];exact (e1 0 (by simp)).2
      ·rw [hc _ _ (e1 1 (by simp)).1,← z1];exact (e1 1 (by simp)).2
      ·rw [hc _ _ (e1 2 (by simp)).1,← z2];exact (e1 2 (by simp)).2
      ·rw [hc _ _ (e1 3 (by simp)).1];exact (e1 3 (by simp)).2
      ·rw [hc _ _ (e1 4 (by simp)).1];exact (e1 4 (by simp)).2
      ·rw [hc _ _ (g1 0 (by simp)).1,← zs];exact (g1 0 (by simp)).2)
     ⟨[],rfl,h0⟩
    refine this.mono ?_;rintro e W' ⟨h5,h6⟩;refine ⟨h5,?_⟩
    rcases h6 with ⟨ys,rfl,zs,h7,h8⟩ | ⟨pre,_,zs,h7,h8⟩
    ·exact .inl ⟨zs,h7,h8⟩
    ·exact .inr ⟨zs,⟨[],trivial⟩,h8⟩
theorem aBh(c:Cup)(hV:Valid c)(s:Nat)(hs:(s:Int)<c.sk){base:Nat}:FV Tp 59 [.p (cupP c),.p (aA (s:Int))] base (.p (aA (rankM c s))) []:=by
 refine ⟨.p (aA (rankM c s)),[],fun C w us hus hM n => ?_,rfl⟩
 obtain ⟨u,v,rfl,hu,hv⟩:=wA hus;cases hu with
 | p _ _ hu =>
  cases hv with
  | p _ _ hv =>
   rw [repVi hv];obtain ⟨vp,vd,rfl,h1,h2,_⟩:=bPz hM.Fs hu;refine (callsIn_wide.2 (bQa c hV _ s w ⟨vp,vd,rfl,h1,h2⟩ hs)).mono ?_;rintro e w' ⟨rfl,hb⟩;obtain ⟨f1,m1⟩:=uX (C:=C) (M:=([]:Mem)) (w:=w) (w':=w') (kb:=none) hM hb.os hb.tape hb.output hb.size (fun b Al=>hb.block b Al)
   exact ⟨_,rfl,_,f1,m1,.p _ _ (.v _)⟩
end CU
end KV
end Go.Proofs
end
section
namespace Go.Proofs
open Go.RowKit
namespace KV
open Tryz
variable {o:List Int}{i s i' Ar base:Nat}
namespace CU
noncomputable abbrev aLx:Code:=sub (cd Tryz.f80) [1,1,0,1,0,0]
noncomputable abbrev aLy:Code:=sub (cd Tryz.f150) [1,1,1,0,1,0,0]
def tot_S0(c:KC.Cup)(i on:Nat)(oc:List PV):St:=⟨fr 20 [(1,(.ptr 0 0)),(2,(.p cX)),(3,(.own 1)),(7,(pI c.sk)),(8,(pI (i:Int)))],[some (.box 98 [(pI c.sk),(pI c.ra),(pI c.be),(.p (aC c.pts)),(.p (aR c.done))]),some (.row 3 on oc)]⟩
theorem tot_p0{c:KC.Cup}{A3:List Int}(hl0:aE Tp 0 aLx (tot_S0 c 0 0 []) (.exit 0) (tot_S0 c Ar A3.length (A3.map aA))):FV Tp 80 [(.p (cupP c))] base (.p (aC A3)) []:=FV.frz (FMM.fi 0 ⟨[],[],[1],[]⟩ func80 [hl0.k 8 (gN [0,1,4,3,9,10] [0,1] [(3,3)])] (gc hl0.code gn)) (by kernel_rfl)
theorem tot_L0_p0{c:KC.Cup}{o':List Int}(h0:(i:Int)<c.sk)(h1:KC.Valid c)(h2:((i:Nat):Int)<c.sk)(h3:[(aA (KC.totalM c i))].length=1*1∧o.length+1≤1000000)(h4:di i)(Ai:i'=(i+1))(B0:o'.length=(o.length+1))(B1:o'.map aA=((o.map aA)++[(aA (KC.totalM c i))])):aB Tp 0 aLx (tot_S0 c i o.length (o.map aA)) .normal (tot_S0 c i' o'.length (o'.map aA)):=by
 subst Ai;have k1:=fk 2 (wX c h1 i h2) rfl;rw [B0,B1];exact aB.fi (gI [0,1,4,3,9,10] [0,3]) [bT,k1.o] (gc h4 (gc h3 (gc k1 (g0 h0))))
theorem tot_L0_p1{c:KC.Cup}(h0:c.sk≤(i:Int)):aB Tp 0 aLx (tot_S0 c i o.length (o.map aA)) (.exit 0) (tot_S0 c i o.length (o.map aA)):=aB.fi (gI [0,1,4,3,9,10] [0,1]) [bF] (gc (aQ h0) gn)
theorem aIs(c:KC.Cup)(hV:KC.Valid c){base:Nat}:FV Tp 80 [.p (cupP c)] base (.p (aC (KC.totalsM c))) []:=by
 have h1:=hV.sk1;have h2:=hV.sk2;have h:=aE.times (P:=Tp) (k:=0) (b:=aLx) (e := .exit 0) (fun i (o:List Int)=>tot_S0 c i o.length (o.map aA)) (fun o=>tot_S0 c c.sk.toNat o.length (o.map aA)) (fun _ i=>KC.totalsUp c (i+1)) (fun i o=>o=KC.totalsUp c i) (by simp) c.sk.toNat (a0:=KC.totalsUp c 0) rfl
  (fun i o hi hI=>by
   subst hI;have hl:=KC.totalsUp_length c i;exact ⟨rfl,tot_L0_p0 (by omega) hV (by omega) (by rw [hl];simp;omega) (aM (by omega)) rfl (by rw [KC.totalsUp_length,hl]) (by rw [KC.totalsUp_succ];simp)⟩)
  (fun o _=>tot_L0_p1 (by omega))
 have e0:∀ n:Nat,(List.range n).foldl (fun (_:List Int) (i:Nat)=>KC.totalsUp c (i+1)) (KC.totalsUp c 0)=KC.totalsUp c n:=by
  intro n
  induction n with
  | zero=>rfl
  | succ n ih=>rw [List.range_succ,vX,ih];rfl
 rw [e0] at h
 exact tot_p0 h
theorem cDc{c:KC.Cup}{Hj:Nat}{Hk:List PV}(h0:0≤c.sk∧c.sk≤c.sk∧c.sk≤1000000)(h1:0≤(s:Int)∧(s:Int)<((c.sk.toNat:Nat):Int))(h2:(s*1)<(List.replicate c.sk.toNat (aA 0)).length)(Gx:Hj=c.sk.toNat)(Gy:Hk=((List.replicate c.sk.toNat (aA 0)).set (s*1) (aA 1))):FV Tp 197 [(.rp [(aA c.sk),(aA c.ra),(aA c.be),(aC c.pts),(aR c.done)] 0),(.rp [(aA (s:Int))] 0)] base (.own base) [(base,(.row 3 Hj Hk))]:=by
 subst Gx Gy;exact FV.fi func197 [.x (aA c.sk),.x (aA (s:Int))] (gc h2 (gc h1 (gr (aA (s:Int)) (gc h0 (gr (aA c.sk) gn)))))
theorem bHq{id ty n:Nat}{l:List Int}:aMz [(id,.row ty n (l.map aA))]=true:=by
 have hp:∀ l:List Int,yZ (l.map aA)=true:=fun l=>by
  induction l with
  | nil=>rfl
  | cons x l ih=>exact ih
 show (match yZ (l.map aA) with | true=>aMz [] | false=>false)=true
 rw [hp];rfl
theorem cDd(c:KC.Cup)(hV:KC.Valid c)(s:Nat)(hs:(s:Int)<c.sk){base:Nat}:FV Tp 197 [.rp (cFy c) 0,.rp [aA (s:Int)] 0] base (.own base) [(base,.row 3 (KC.wonRace c.sk.toNat s).length ((KC.wonRace c.sk.toNat s).map aA))] :=
 have h1:=hV.sk1;have h2:=hV.sk2
 cDc (by omega) (by omega) (by simp;omega) (by simp [KC.wonRace]) (by simp [KC.wonRace,List.map_set])
def rM(c:KC.Cup)(s i on:Nat)(oc:List PV):St:=⟨fr 25 [(4,(.p cX)),(5,(.fn 197 [] [(.ptr 0 0),(.ptr 1 0)])),(6,(.own 2)),(15,(pI (c.ra-(c.done.length:Int)))),(16,(pI (i:Int)))],[some (.box 98 [(pI c.sk),(pI c.ra),(pI c.be),(.p (aC c.pts)),(.p (aR c.done))]),some (.box 3 [(pI (s:Int))]),some (.row 31 on oc)]⟩
theorem cDe{c:KC.Cup}{A3:Lqq}(h0:inR (c.ra-(c.done.length:Int)))(hl1:aE Tp 0 aLy (rM c s 0 0 []) (.exit 0) (rM c s Ar A3.length (A3.map aC))):FV Tp 150 [(.p (cupP c)),(pI (s:Int))] base (.p (aR A3)) []:=FV.frz (FMM.fi 0 ⟨[],[],[2],[]⟩ func150 [hl1.k 10 (gN [0,4,7,8,17,7] [0,1,2] [(6,31)])] (gc hl1.code (gc h0 gn))) (by kernel_rfl)
theorem bHr{c:KC.Cup}{o o':Lqq}(h0:(i:Int)<(c.ra-(c.done.length:Int)))(h1:KC.Valid c)(h2:((s:Nat):Int)<c.sk)(h3:[(aC (KC.wonRace c.sk.toNat s))].length=1*1∧o.length+1≤1000000)(h4:di i)(Ai:i'=(i+1))(B0:o'.length=(o.length+1))(B1:o'.map aC=((o.map aC)++[(aC (KC.wonRace c.sk.toNat s))])):aB Tp 0 aLy (rM c s i o.length (o.map aC)) .normal (rM c s i' o'.length (o'.map aC)):=by
 subst Ai;rw [B0,B1];exact aB.fi (gI [0,4,7,8,17,7] [0,1,5]) [bT,.c (.own 3) [(3,(.row 3 ((KC.wonRace c.sk.toNat s).length) ((KC.wonRace c.sk.toNat s).map aA)))]] (gc h4 (gc h3 (gt (FC Tp 197 [(.ptr 0 0),(.ptr 1 0)] [(0,(.box 98 [(pI c.sk),(pI c.ra),(pI c.be),(.p (aC c.pts)),(.p (aR c.done))])),(1,(.box 3 [(pI (s:Int))]))] 3 (.own 3) [(3,(.row 3 ((KC.wonRace c.sk.toNat s).length) ((KC.wonRace c.sk.toNat s).map aA)))]) (FV.view (A2:=[(.rp [(aA c.sk),(aA c.ra),(aA c.be),(aC c.pts),(aR c.done)] 0),(.rp [(aA (s:Int))] 0)]) (cDd c h1 s h2) (by kernel_rfl) (by kernel_rfl) bHq) (g0 h0))))
theorem bHs{c:KC.Cup}{o:Lqq}(h0:(c.ra-(c.done.length:Int))≤(i:Int)):aB Tp 0 aLy (rM c s i o.length (o.map aC)) (.exit 0) (rM c s i o.length (o.map aC)):=aB.fi (gI [0,4,7,8,17,7] [0,1,2]) [bF] (gc (aQ h0) gn)
theorem aLz(c:KC.Cup)(hV:KC.Valid c)(s:Nat)(hs:(s:Int)<c.sk){base:Nat}:FV Tp 150 [.p (cupP c),.p (aA (s:Int))] base (.p (aR (KC.wonM c s))) []:=by
 have h1:=hV.ra1;have h2:=hV.ra2;have h3:=hV.dn;have h:=aE.times (P:=Tp) (k:=0) (b:=aLy) (e := .exit 0) (fun i (o:Lqq)=>rM c s i o.length (o.map aC)) (fun o=>rM c s (c.ra.toNat-c.done.length) o.length (o.map aC)) (fun o _=>o++[KC.wonRace c.sk.toNat s]) (fun i o=>o=List.replicate i (KC.wonRace c.sk.toNat s)) (by simp) (c.ra.toNat-c.done.length) (a0:=[]) rfl
  (fun i o hi hI=>by
   subst hI;exact ⟨KC.replicate_snoc _ _,bHr (by omega) hV hs (by rw [List.length_replicate];simp;omega) (aM (by omega)) rfl (by simp) (by simp)⟩)
  (fun o _=>bHs (by omega))
 have e0:∀ n:Nat,(List.range n).foldl (fun (o:Lqq) (_:Nat)=>o++[KC.wonRace c.sk.toNat s]) []=List.replicate n (KC.wonRace c.sk.toNat s):=by
  intro n
  induction n with
  | zero=>rfl
  | succ n ih=>rw [List.range_succ,vX,ih];exact KC.replicate_snoc _ _
 rw [e0] at h
 exact cDe (by show _∧_;omega) h
end CU
end KV
end Go.Proofs
end
namespace Go.Proofs
namespace KV
open Tryz
section
variable {k r0:Int}{L fs:Lqq}{i base:Nat}
namespace CU
open KC
noncomputable abbrev aLw:Code:=pS (cd Tryz.f56) 6 [0,1,0,0]
def nC(c:KC.Cup)(fs:Lqq)(i Ln:Nat)(Lc:List PV):St:=⟨fr 56 [(4,(.ptr 0 0)),(5,(.ptr 1 0)),(40,(.own 3)),(41,(pI (((c.done.length+fs.length):Nat):Int))),(42,(pI (i:Int)))],[some (.box 98 [(pI 0),(pI 0),(pI 0),(.p cX),(.p cX)]),some (.box 34 [(pI c.sk),(pI c.ra),(pI c.be),(.own 2),(.own 3)]),some (.row 3 c.pts.length (c.pts.map aA)),some (.row 31 Ln Lc)]⟩
theorem bWk{c:KC.Cup}{Ar:Nat}{L'1:Lqq}(h0:c.pts.length≤1000)(h1:inR (((c.done.length+fs.length):Nat):Int))(h2:0≤(c.done.length:Int)∧(c.done.length:Int)≤(((c.done.length+fs.length):Nat):Int)∧(((c.done.length+fs.length):Nat):Int)≤1000000)(h3:(fs.map aC).length=fs.length*1∧c.done.length+fs.length≤1000000)(H6:aE Tp 0 aLw (nC c fs 0 (c.done.length+fs.length) ((c.done.map aC)++(fs.map aC))) (.exit 0) (nC c fs Ar L'1.length (L'1.map aC))):FV Tp 56 [(.p (cupP c)),(.p (aR fs))] base (.p (.agg [(aA c.sk),(aA c.ra),(aA c.be),(aC c.pts),(aR L'1)])) []:=have k1:=fk 3 (sK c.pts h0) rfl;FV.fi func56 [k1.o,H6.k 10 (gI [0,4,6,34,43,11] [1,2,3,5])] (gc H6.code (gc h3 (gt ((c.done.map aC).length=c.done.length∧c.done.length=c.done.length) (by simp) (gc h2 (gc h1 (gc k1 gn))))))
theorem aXc{c:KC.Cup}{Ac:List Int}{i':Nat}{L':Lqq}(h0:(i:Int)<(((c.done.length+fs.length):Nat):Int))(h1:L[i]? = some Ac)(h2:Ac.length≤1000)(h3:(i*1)<(L.map aC).length)(h4:di i)(Ai:i'=(i+1))(Cm:L'.length=L.length)(Cn:L'.map aC=((L.map aC).set (i*1) (aC Ac))):aB Tp 0 aLw (nC c fs i L.length (L.map aC)) .normal (nC c fs i' L'.length (L'.map aC)):=by
 subst Ai;have k1:=fk 4 (sK Ac h2) rfl;rw [Cm,Cn];exact aB.fi (gI [0,4,6,34,43,11] [0,1,2,3]) [bT,.x (aC Ac),k1.o] (gc h4 (gc h3 (gc (aZ (i:=(i:Int)) (jA _) h1) (gc k1 (gc (atm aC h1) (gc (aZ (i:=(i:Int)) (jA _) h1) (g0 h0)))))))
theorem aXd{c:KC.Cup}(h0:(((c.done.length+fs.length):Nat):Int)≤(i:Int)):aB Tp 0 aLw (nC c fs i L.length (L.map aC)) (.exit 0) (nC c fs i L.length (L.map aC)):=aB.fi (gI [0,4,6,34,43,11] [0,1,2,3]) [bF] (gc (aQ h0) gn)
theorem wW(c:KC.Cup)(fs:Lqq)(hpl:c.pts.length≤1000)(hdl:c.done.length+fs.length≤1000)(hrl:∀ r∈c.done++fs,r.length≤1000){base:Nat} :
  FV Tp 56 [.p (cupP c),.p (aR fs)] base (.p (cupP (withC c fs))) []:=by
 have h:=aE.range (P:=Tp) (k:=0) (b:=aLw) (e := .exit 0) (fun i (_:Unit)=>nC c fs i (c.done++fs).length ((c.done++fs).map aC)) (fun _=>nC c fs (c.done++fs).length (c.done++fs).length ((c.done++fs).map aC)) (fun a _=>a) (fun _ _=>True) (by simp) (c.done++fs) (a0:=()) trivial
  (fun i x _ hx _=>⟨trivial,aXc (by have:=aY hx;rw [kU] at this;omega) hx (hrl x (Br hx)) (by have:=aY hx;simpa using this) (aM (by have:=aY hx;rw [kU] at this;omega)) rfl rfl (by
   apply List.ext_getElem?;intro j;rw [List.getElem?_set,Nat.mul_one]
   split
   ·rename_i e;subst e
    have:=aY hx;rw [gF,hx,if_pos (by simpa using this)];rfl
   ·rfl)⟩)
  (fun _ _=>aXd (L:=c.done++fs) (by rw [kU];omega))
 refine bWk (L'1:=c.done++fs) (Ar:=(c.done++fs).length) hpl (aM (by omega)) (by omega) (by simp;omega) ?_
 simpa using h
theorem bPt{c:KC.Cup}(h0:KC.Small c)(Ak:r0=(KC.checkP c)):FV Tp 41 [(.p (cupP c))] base (.tup [(.p (cupP c)),(pI r0)]) []:=by
 subst Ak;have k1:=fk 2 (aRq c h0) rfl;exact FV.fi func41 [k1.o] (gc k1 gn)
theorem gA(c:KC.Cup)(hS:KC.Small c){base:Nat}:FV Tp 41 [.p (cupP c)] base (.tup [.p (cupP c),.p (aA (KC.checkP c))]) []:=bPt hS rfl
section
variable{c:KC.Cup}(h0:KC.Small c)(h1:(KC.checkP c)=0)(h2:inR (c.sk-1))
include h0 h1 h2
theorem bPu(h3:(within k 0 (c.sk-1))=false):FV Tp 125 [(.p (cupP c)),(pI k)] base (.tup [(.p (cupP c)),(pI 1)]) []:=have k1:=fk 2 (gA c h0) rfl;have k2:=fk 3 (bA k 0 (c.sk-1)) rfl;FV.fi func125 ([k1.o]++rT 5++[k2.o,bT,bT,bT]) (gc (cA h3) (Ap (cF h1) (gc k2 (gc (cF h1) (gc h2 (Bf (cF h1) (gc k1 gn)))))))
theorem bPv(h3:(within k 0 (c.sk-1))=true)(Ak:r0=(KC.checkP c)):FV Tp 125 [(.p (cupP c)),(pI k)] base (.tup [(.p (cupP c)),(pI r0)]) []:=by
 subst Ak;have k1:=fk 2 (gA c h0) rfl;have k2:=fk 3 (bA k 0 (c.sk-1)) rfl;exact FV.fi func125 ([k1.o]++rT 5++[k2.o,bT,bT,bF]) (gc (aH h3) (Ap (cF h1) (gc k2 (gc (cF h1) (gc h2 (Bf (cF h1) (gc k1 gn)))))))
end
theorem bPw{c:KC.Cup}(h0:KC.Small c)(h1:(KC.checkP c)≠0)(Ak:r0=(KC.checkP c)):FV Tp 125 [(.p (cupP c)),(pI k)] base (.tup [(.p (cupP c)),(pI r0)]) []:=by
 subst Ak;have k1:=fk 2 (gA c h0) rfl;exact FV.fi func125 ([k1.o]++rF 7) (Ea (bK h1) (gc k1 gn))
theorem within_iff{n lo hi:Int}:within n lo hi=true↔lo≤n∧n≤hi:=by unfold within;simp
def iR(c:KC.Cup)(k:Int):Int:=if KC.checkP c≠0 then KC.checkP c else if within k 0 (c.sk-1) then 0 else 1
theorem aEo(c:KC.Cup)(hS:KC.Small c)(k:Int){base:Nat}:FV Tp 125 [.p (cupP c),.p (aA k)] base (.tup [.p (cupP c),.p (aA (iR c k))]) []:=by
 unfold iR
 by_cases h:KC.checkP c=0
 ·have hV:=(KC.valid_iff c).1 h
  have h1:=hV.sk1;have h2:=hV.sk2;rw [if_neg (by simpa using h)]
  cases hw:within k 0 (c.sk-1) with
  | true=>exact bPv hS h (by show _∧_;omega) hw (by simp [h])
  | false=>exact bPu hS h (by show _∧_;omega) hw
 ·rw [if_pos h];exact bPw hS h rfl
theorem bPx{c:KC.Cup}(h0:KC.Small c)(h1:(KC.checkP c)=0)(h2:(fs.length:Int)≤20)(h3:c.pts.length≤1000)(h4:c.done.length+fs.length≤1000)(h5:∀ r∈c.done++fs,r.length≤1000)(h6:KC.Small (KC.withC c fs))(h7:(KC.checkP (KC.withC c fs))=0):FV Tp 18 [(.p (cupP c)),(.p (aR fs))] base (.tup [(.p (.agg [(aA ((KC.withC c fs).sk)),(aA ((KC.withC c fs).ra)),(aA ((KC.withC c fs).be)),(aC ((KC.withC c fs).pts)),(aR ((KC.withC c fs).done))])),(pI 0)]) []:=have k1:=fk 2 (gA c h0) rfl;have k2:=fk 3 (wW c fs h3 h4 h5) rfl;have k3:=fk 4 (aRq (KC.withC c fs) h6) rfl;FV.frz (FMM.fi 0 gE func18 [k1.o,bF,bF,k2.o,k3.o,bF] (gc (cR h7) (gc k3 (gt (0+5≤[(aA ((KC.withC c fs).sk)),(aA ((KC.withC c fs).ra)),(aA ((KC.withC c fs).be)),(aC ((KC.withC c fs).pts)),(aR ((KC.withC c fs).done))].length) (by first | decide | simp) (gc k2 (gc (aQ h2) (gc (cR h1) (gc k1 gn)))))))) (by kernel_rfl)
def iE(p:Nat→Bool)(n:Nat):List Int:=((List.range n).filter p).map fun (s:Nat)=>(s:Int)
theorem after_ok(c:KC.Cup)(fs:Lqq)(hV:KC.Valid c)(hl:fs.length≤20)(Oc:KC.Valid (KC.withC c fs)){base:Nat}:FV Tp 18 [.p (cupP c),.p (aR fs)] base (.tup [.p (cupP (KC.withC c fs)),.p (aA 0)]) [] :=
 bPx hV.small ((KC.valid_iff c).2 hV) (by omega) hV.small.pts (by have:=Oc.small.done;simpa [KC.withC] using this) Oc.small.rows Oc.small ((KC.valid_iff _).2 Oc)

end CU
end
end KV
end Go.Proofs
section
namespace Go.Proofs
open Go.RowKit
namespace KV
open Tryz
variable {i s i' Ar base:Nat}
namespace CU
noncomputable abbrev uQ:Code:=sub (cd Tryz.f151) [1,0,1,0,0]
theorem cCw{c:KC.Cup}{r0:Bool}(h0:KC.Valid c)(h1:((s:Nat):Int)<c.sk)(h2:c.pts.length≤1000)(h3:c.done.length+(KC.wonM c s).length≤1000)(h4:∀ r∈c.done++(KC.wonM c s),r.length≤1000)(h5:KC.Valid (KC.withC c (KC.wonM c s)))(h6:((s:Nat):Int)<(KC.withC c (KC.wonM c s)).sk)(Ak:r0=((KC.rankM (KC.withC c (KC.wonM c s)) s) == 1)):FV Tp 86 [(.p (cupP c)),(pI (s:Int))] base (pB r0) []:=by
 subst Ak;have k1:=fk 1 (aLz c h0 s h1) rfl;have k2:=fk 9 (wW c (KC.wonM c s) h2 h3 h4) rfl;have k3:=fk 17 (aBh (KC.withC c (KC.wonM c s)) h5 s h6) rfl;exact FV.fi func86 [k1.o,k2.o,k3.o] (gc k3 (gc k2 (gc k1 gn)))
theorem aIr{c:KC.Cup}(hV:KC.Valid c){s:Nat}(hs:(s:Int)<c.sk):c.pts.length≤1000∧c.done.length+(KC.wonM c s).length≤1000∧∀ r∈c.done++KC.wonM c s,r.length≤1000:=by
 have h:=(KC.valid_won hV hs).small;refine ⟨hV.small.pts,?_,h.rows⟩;have:=h.done
 rwa [show (KC.withC c (KC.wonM c s)).done=c.done++KC.wonM c s from rfl,kU] at this
theorem bPr(c:KC.Cup)(hV:KC.Valid c)(s:Nat)(hs:(s:Int)<c.sk){base:Nat}:FV Tp 86 [.p (cupP c),.p (aA (s:Int))] base (pB (KC.canM c s)) [] :=
 have h:=aIr hV hs
 cCw hV hs h.1 h.2.1 h.2.2 (KC.valid_won hV hs) hs rfl
abbrev ah(c:KC.Cup):Mem:=[some (.box 98 [(pI c.sk),(pI c.ra),(pI c.be),(.p (aC c.pts)),(.p (aR c.done))])]
def iQ(c:KC.Cup)(s i:Nat):St:=⟨fr 30 [(1,(pI (s:Int))),(2,(.ptr 0 0)),(10,(pI c.sk)),(11,(pI (i:Int)))],(ah c)⟩
theorem cCx{c:KC.Cup}(hl0:aE Tp 0 uQ (iQ c s 0) (.exit 0) (iQ c s Ar)):FV Tp 151 [(.p (cupP c)),(pI (s:Int))] base (.tup [(.p cX),(pB false)]) []:=FV.fi func151 [hl0.k 6 (gI cr [0])] (gc hl0.code gn)
theorem cCy{c:KC.Cup}(hl0:aE Tp 0 uQ (iQ c s 0) .ret (bZ (iQ c s Ar) [(4,(.p (aR (KC.wonM c Ar)))),(5,(.kb true))])):FV Tp 151 [(.p (cupP c)),(pI (s:Int))] base (.tup [(.p (aR (KC.wonM c Ar))),(pB true)]) []:=FV.fi func151 [hl0.k 6 (gI cr [0])] (gc hl0.code gn)
section
variable{c:KC.Cup}(h0:(i:Int)<c.sk)(h1:KC.Valid c)(h2:((i:Nat):Int)<c.sk)(h3:(i:Int)≠(s:Int))(h4:c.pts.length≤1000)(h5:c.done.length+(KC.wonM c i).length≤1000)(h6:∀ r∈c.done++(KC.wonM c i),r.length≤1000)(h7:KC.Valid (KC.withC c (KC.wonM c i)))(h8:((s:Nat):Int)<(KC.withC c (KC.wonM c i)).sk)
include h0 h1 h2 h3 h4 h5 h6 h7 h8
theorem bHm(h9:(1:Int)<(KC.rankM (KC.withC c (KC.wonM c i)) s)):aB Tp 0 uQ (iQ c s i) .ret (bZ (iQ c s i) [(4,(.p (aR (KC.wonM c i)))),(5,(.kb true))]):=have k1:=fk 1 (aLz c h1 i h2) rfl;have k2:=fk 1 (wW c (KC.wonM c i) h4 h5 h6) rfl;have k3:=fk 1 (aBh (KC.withC c (KC.wonM c i)) h7 s h8) rfl;aB.fi (gI [0,1,3,1,6,4,12,18] [0]) [bT,k1.o,bT,bT,bT,k2.o,bT,bT,k3.o,bT,bT,bT] (gc (bD h9) (Ap (gY h3) (gc k3 (Ap (gY h3) (gc k2 (Aq (gY h3) (gc k1 (g0 h0))))))))
theorem bHn(h9:(KC.rankM (KC.withC c (KC.wonM c i)) s)≤1)(A5:di i)(Ai:i'=(i+1)):aB Tp 0 uQ (iQ c s i) .normal (iQ c s i'):=by
 subst Ai;have k1:=fk 1 (aLz c h1 i h2) rfl;have k2:=fk 1 (wW c (KC.wonM c i) h4 h5 h6) rfl;have k3:=fk 1 (aBh (KC.withC c (KC.wonM c i)) h7 s h8) rfl;exact aB.fi (gI cr [0]) [bT,k1.o,bT,bT,bT,k2.o,bT,bT,k3.o,bT,bT,bF] (gc A5 (gc (aQ h9) (Ap (gY h3) (gc k3 (Ap (gY h3) (gc k2 (Aq (gY h3) (gc k1 (g0 h0)))))))))
end
theorem bHo{c:KC.Cup}(h0:(i:Int)<c.sk)(h1:KC.Valid c)(h2:((i:Nat):Int)<c.sk)(h3:(i:Int)=(s:Int))(h4:di i)(Ai:i'=(i+1)):aB Tp 0 uQ (iQ c s i) .normal (iQ c s i'):=by
 subst Ai;have k1:=fk 1 (aLz c h1 i h2) rfl;exact aB.fi (gI cr [0]) ([bT,k1.o]++rF 7) (gc h4 (Ea (cR h3) (gc k1 (g0 h0))))
theorem bHp{c:KC.Cup}(h0:c.sk≤(i:Int)):aB Tp 0 uQ (iQ c s i) (.exit 0) (iQ c s i):=aB.fi (gI cr [0]) [bF] (gc (aQ h0) gn)
theorem bPs{n i x:Nat}(h:(List.range n)[i]? = some x):x=i∧i<n:=by
 have hi:i<n:=by
  have:=aY h;simpa using this
 rw [bMb hi] at h
 exact ⟨(Option.some.inj h).symm,hi⟩
theorem aEn{c:KC.Cup}{s k:Nat}:KC.passes c s k=true↔k≠s∧1<KC.rankM (KC.withC c (KC.wonM c k)) s:=by
 unfold KC.passes;simp
theorem wV{c:KC.Cup}{s:Nat}:∀ f k,(KC.againstAt c s f k).isSome=true↔∃ j,k≤j∧j<k+f∧KC.passes c s j=true
 | 0,k=>by
  constructor
  ·intro h;cases h
  ·rintro ⟨j,h1,h2,_⟩;omega
 | f+1,k=>by
  rw [KC.againstAt_step]
  by_cases h:KC.passes c s k=true
  ·rw [if_pos h]
   exact ⟨fun _=>⟨k,dJ _,by omega,h⟩,fun _=>rfl⟩
  ·rw [if_neg h,wV f (k+1)]
   constructor
   ·rintro ⟨j,h1,h2,h3⟩;exact ⟨j,by omega,by omega,h3⟩
   ·rintro ⟨j,h1,h2,h3⟩
    refine ⟨j,?_,by omega,h3⟩
    rcases Nat.lt_or_ge k j with h4 | h4
    ·exact h4
    ·obtain rfl:j=k:=by omega
     exact absurd h3 h
theorem aRk{c:KC.Cup}{s:Nat}:KC.sureM c s=true↔∀ k,k<c.sk.toNat→KC.passes c s k=false:=by
 unfold KC.sureM KC.againstM;have h:=wV (c:=c) (s:=s) c.sk.toNat 0;constructor
 ·intro h1 k hk
  cases hp:KC.passes c s k with
  | false=>rfl
  | true =>
   rw [h.2 ⟨k,by omega,by omega,hp⟩] at h1
   cases h1
 ·intro h1
  cases hq:(KC.againstAt c s c.sk.toNat 0).isSome with
  | false=>rfl
  | true =>
   obtain ⟨j,_,h3,h4⟩:=h.1 hq;rw [h1 j (by omega)] at h4
   cases h4
theorem cCz(c:KC.Cup)(hV:KC.Valid c)(s:Nat)(hs:(s:Int)<c.sk) :
  (∃ k,k<c.sk.toNat∧KC.passes c s k=true∧∀ base:Nat,FV Tp 151 [.p (cupP c),.p (aA (s:Int))] base (.tup [.p (aR (KC.wonM c k)),.p (blP true)]) []) ∨
  ((∀ k,k<c.sk.toNat→KC.passes c s k=false)∧∀ base:Nat,FV Tp 151 [.p (cupP c),.p (aA (s:Int))] base (.tup [.p cX,.p (blP false)]) []):=by
 have s1:=hV.sk1;have s2:=hV.sk2;have hW:∀ i:Nat,(i:Int)<c.sk→KC.Valid (KC.withC c (KC.wonM c i)):=fun i hi=>KC.valid_won hV hi
 have hw:=fun i (hi:((i:Nat):Int)<c.sk)=>aIr hV hi
 rcases aE.find (P:=Tp) (k:=0) (b:=uQ) (fun i=>iQ c s i) (fun i _=>bZ (iQ c s i) [(4,(.p (aR (KC.wonM c i)))),(5,(.kb true))]) (iQ c s c.sk.toNat) .ret (.exit 0) (by simp) (by simp) (fun k=>KC.passes c s k) (List.range c.sk.toNat)
  (fun i x hx hp=>by
   obtain ⟨rfl,hi⟩:=bPs hx;have Bs:(x:Int)<c.sk:=by omega
   by_cases e:x=s
   ·exact bHo Bs hV Bs (by omega) (aM (by omega)) rfl
   ·have hq:¬ (1<KC.rankM (KC.withC c (KC.wonM c x)) s):=fun h=>by
     rw [aEn.2 ⟨e,h⟩] at hp;cases hp
    exact bHn Bs hV Bs (by omega) (hw x Bs).1 (hw x Bs).2.1 (hw x Bs).2.2 (hW x Bs) hs (by omega) (aM (by omega)) rfl)
  (fun i x hx hp=>by
   obtain ⟨rfl,hi⟩:=bPs hx;have Bs:(x:Int)<c.sk:=by omega
   obtain ⟨q1,q2⟩:=aEn.1 hp;exact bHm Bs hV Bs (by omega) (hw x Bs).1 (hw x Bs).2.1 (hw x Bs).2.2 (hW x Bs) hs q2)
  (by rw [aGa];exact bHp (by omega)) with ⟨i,x,h1,h2,h3,h4⟩ | ⟨h1,h2,h3⟩
 ·obtain ⟨rfl,hi⟩:=bPs h1
  exact .inl ⟨x,hi,h3,fun base=>cCy h4⟩
 ·exact .inr ⟨fun k hk=>by
   have:=List.any_eq_false.1 h2 k (qT.2 hk);simpa using this,fun base=>cCx h3⟩
theorem cDa{c:KC.Cup}{k0:Nat}(h0:∀ base:Nat,FV Tp 151 [.p (cupP c),.p (aA (s:Int))] base (.tup [(.p (aR (KC.wonM c k0))),(pB true)]) []):FV Tp 87 [(.p (cupP c)),(pI (s:Int))] base (pB false) []:=FV.fi func87 [.c (.tup [(.p (aR (KC.wonM c k0))),(pB true)]) []] (gc (fk 1 (h0 _) rfl) gn)
theorem cDb{c:KC.Cup}(h0:∀ base:Nat,FV Tp 151 [.p (cupP c),.p (aA (s:Int))] base (.tup [(.p cX),(pB false)]) []):FV Tp 87 [(.p (cupP c)),(pI (s:Int))] base (pB true) []:=FV.fi func87 [.c (.tup [(.p cX),(pB false)]) []] (gc (fk 1 (h0 _) rfl) gn)
theorem bBd(c:KC.Cup)(hV:KC.Valid c)(s:Nat)(hs:(s:Int)<c.sk){base:Nat}:FV Tp 87 [.p (cupP c),.p (aA (s:Int))] base (pB (KC.sureM c s)) []:=by
 rcases cCz c hV s hs with ⟨k,h1,h2,h3⟩ | ⟨h1,h2⟩
 ·have e:KC.sureM c s=false:=by
   cases h:KC.sureM c s with
   | false=>rfl
   | true=>rw [aRk.1 h k h1] at h2;cases h2
  rw [e];exact cDa h3
 ·rw [aRk.2 h1]
  exact cDb h2
end CU
end KV
end Go.Proofs
end
namespace Go.Proofs
namespace KV
open Tryz
section
variable {o o' A3:List Int}{i i' Ar base:Nat}
namespace CU
open KC
noncomputable abbrev kP:Code:=sub (cd Tryz.f43) [1,1,0,1,0,0]
theorem aBf:FV Tp 42 [] base (.agg [(.fn 86 [] [])]) []:=FV.fi func42 [] gn
def kQ(c:KC.Cup)(i on:Nat)(oc:List PV):St:=⟨fr 24 [(2,(.ptr 0 0)),(3,(.ptr 1 0)),(4,(.p cX)),(5,(.own 2)),(9,(pI c.sk)),(10,(pI (i:Int)))],[some (.box 103 [(.fn 86 [] [])]),some (.box 98 [(pI c.sk),(pI c.ra),(pI c.be),(.p (aC c.pts)),(.p (aR c.done))]),some (.row 3 on oc)]⟩
theorem bWh{c:KC.Cup}(hl0:aE Tp 0 kP (kQ c 0 0 []) (.exit 0) (kQ c Ar A3.length (A3.map aA))):FV Tp 43 [(.agg [(.fn 86 [] [])]),(.p (cupP c))] base (.p (aC A3)) []:=FV.frz (FMM.fi 0 ⟨[],[],[2],[]⟩ func43 [hl0.k 8 (gN ct [0,1,2] [(5,3)])] (gc hl0.code gn)) (by kernel_rfl)
section
variable{c:KC.Cup}(h0:(i:Int)<c.sk)(h1:KC.Valid c)(h2:((i:Nat):Int)<c.sk)
include h0 h1 h2
theorem aWz(h3:(KC.canM c i)=true)(h4:[(aA (i:Int))].length=1*1∧o.length+1≤1000000)(h5:di i)(Ai:i'=(i+1))(B0:o'.length=(o.length+1))(B1:o'.map aA=((o.map aA)++[(aA (i:Int))])):aB Tp 0 kP (kQ c i o.length (o.map aA)) .normal (kQ c i' o'.length (o'.map aA)):=by
 subst Ai;have k1:=fk 3 (bPr c h1 i h2) rfl;rw [B0,B1];exact aB.fi (gI ct [0,1,4]) [bT,k1.o,bT] (gc h5 (gc h4 (gc h3 (gc k1 (g0 h0)))))
theorem aXa(h3:(KC.canM c i)=false)(h4:di i)(Ai:i'=(i+1)):aB Tp 0 kP (kQ c i o.length (o.map aA)) .normal (kQ c i' o.length (o.map aA)):=by
 subst Ai;have k1:=fk 3 (bPr c h1 i h2) rfl;exact aB.fi (gI ct [0,1,2]) [bT,k1.o,bF] (gc h4 (gc h3 (gc k1 (g0 h0))))
end
theorem aXb{c:KC.Cup}(h0:c.sk≤(i:Int)):aB Tp 0 kP (kQ c i o.length (o.map aA)) (.exit 0) (kQ c i o.length (o.map aA)):=aB.fi (gI ct [0,1,2]) [bF] (gc (aQ h0) gn)
theorem aBg(c:KC.Cup)(hV:KC.Valid c){base:Nat}:FV Tp 43 [.agg [.fn 86 [] []],.p (cupP c)] base (.p (aC (iE (KC.canM c) c.sk.toNat))) []:=by
 have h1:=hV.sk1;have h2:=hV.sk2;have h:=aE.times (P:=Tp) (k:=0) (b:=kP) (e := .exit 0) (fun i (o:List Int)=>kQ c i o.length (o.map aA)) (fun o=>kQ c c.sk.toNat o.length (o.map aA)) (fun acc s=>if KC.canM c s then acc++[(s:Int)] else acc) (fun i o=>o.length≤i) (by simp) c.sk.toNat (a0:=[]) (by simp)
  (fun i o hi hI=>by
   cases hc:KC.canM c i with
   | true=>exact ⟨by simp;omega,aWz (by omega) hV (by omega) hc (by simp;omega) (aM (by omega)) rfl (by simp) (by simp)⟩
   | false=>exact ⟨by simp;omega,aXa (by omega) hV (by omega) hc (aM (by omega)) rfl⟩)
  (fun o _=>aXb (by omega))
 rw [pD] at h
 exact bWh h
theorem bWi{c:KC.Cup}(h0:KC.Small c)(h1:(KC.checkP c)=0)(h2:KC.Valid c):FV Tp 11 [(.p (cupP c))] base (.tup [(.p (aC (iE (KC.canM c) c.sk.toNat))),(pI 0)]) []:=have k1:=fk 1 (gA c h0) rfl;have k2:=fk 2 aBf rfl;have k3:=fk 10 (aBg c h2) rfl;FV.frz (FMM.fi 0 gE func11 [k1.o,bF,k2.o,k3.o] (gc k3 (gc k2 (gc (cR h1) (gc k1 gn))))) (by kernel_rfl)
theorem bWj(c:KC.Cup)(hV:KC.Valid c){base:Nat}:FV Tp 11 [.p (cupP c)] base (.tup [.p (aC (iE (KC.canM c) c.sk.toNat)),.p (aA 0)]) []:=bWi hV.small ((KC.valid_iff c).2 hV) hV
theorem wT:FV Tp 44 [] base (.agg [(.fn 87 [] [])]) []:=FV.fi func44 [] gn
def iD(c:KC.Cup)(i on:Nat)(oc:List PV):St:=⟨fr 24 [(2,(.ptr 0 0)),(3,(.ptr 1 0)),(4,(.p cX)),(5,(.own 2)),(9,(pI c.sk)),(10,(pI (i:Int)))],[some (.box 103 [(.fn 87 [] [])]),some (.box 98 [(pI c.sk),(pI c.ra),(pI c.be),(.p (aC c.pts)),(.p (aR c.done))]),some (.row 3 on oc)]⟩
theorem bPo{c:KC.Cup}(hl0:aE Tp 0 kP (iD c 0 0 []) (.exit 0) (iD c Ar A3.length (A3.map aA))):FV Tp 43 [(.agg [(.fn 87 [] [])]),(.p (cupP c))] base (.p (aC A3)) []:=FV.frz (FMM.fi 0 ⟨[],[],[2],[]⟩ func43 [hl0.k 8 (gN ct [0,1,2] [(5,3)])] (gc hl0.code gn)) (by kernel_rfl)
section
variable{c:KC.Cup}(h0:(i:Int)<c.sk)(h1:KC.Valid c)(h2:((i:Nat):Int)<c.sk)
include h0 h1 h2
theorem aRh(h3:(KC.sureM c i)=true)(h4:[(aA (i:Int))].length=1*1∧o.length+1≤1000000)(h5:di i)(Ai:i'=(i+1))(B0:o'.length=(o.length+1))(B1:o'.map aA=((o.map aA)++[(aA (i:Int))])):aB Tp 0 kP (iD c i o.length (o.map aA)) .normal (iD c i' o'.length (o'.map aA)):=by
 subst Ai;have k1:=fk 3 (bBd c h1 i h2) rfl;rw [B0,B1];exact aB.fi (gI ct [0,1,4]) [bT,k1.o,bT] (gc h5 (gc h4 (gc h3 (gc k1 (g0 h0)))))
theorem aRi(h3:(KC.sureM c i)=false)(h4:di i)(Ai:i'=(i+1)):aB Tp 0 kP (iD c i o.length (o.map aA)) .normal (iD c i' o.length (o.map aA)):=by
 subst Ai;have k1:=fk 3 (bBd c h1 i h2) rfl;exact aB.fi (gI ct [0,1,2]) [bT,k1.o,bF] (gc h4 (gc h3 (gc k1 (g0 h0))))
end
theorem aRj{c:KC.Cup}(h0:c.sk≤(i:Int)):aB Tp 0 kP (iD c i o.length (o.map aA)) (.exit 0) (iD c i o.length (o.map aA)):=aB.fi (gI ct [0,1,2]) [bF] (gc (aQ h0) gn)
theorem wU(c:KC.Cup)(hV:KC.Valid c){base:Nat}:FV Tp 43 [.agg [.fn 87 [] []],.p (cupP c)] base (.p (aC (iE (KC.sureM c) c.sk.toNat))) []:=by
 have h1:=hV.sk1;have h2:=hV.sk2;have h:=aE.times (P:=Tp) (k:=0) (b:=kP) (e := .exit 0) (fun i (o:List Int)=>iD c i o.length (o.map aA)) (fun o=>iD c c.sk.toNat o.length (o.map aA)) (fun acc s=>if KC.sureM c s then acc++[(s:Int)] else acc) (fun i o=>o.length≤i) (by simp) c.sk.toNat (a0:=[]) (by simp)
  (fun i o hi hI=>by
   cases hc:KC.sureM c i with
   | true=>exact ⟨by simp;omega,aRh (by omega) hV (by omega) hc (by simp;omega) (aM (by omega)) rfl (by simp) (by simp)⟩
   | false=>exact ⟨by simp;omega,aRi (by omega) hV (by omega) hc (aM (by omega)) rfl⟩)
  (fun o _=>aRj (by omega))
 rw [pD] at h
 exact bPo h
theorem bPp{c:KC.Cup}(h0:KC.Small c)(h1:(KC.checkP c)=0)(h2:KC.Valid c):FV Tp 12 [(.p (cupP c))] base (.tup [(.p (aC (iE (KC.sureM c) c.sk.toNat))),(pI 0)]) []:=have k1:=fk 1 (gA c h0) rfl;have k2:=fk 2 wT rfl;have k3:=fk 10 (wU c h2) rfl;FV.frz (FMM.fi 0 gE func12 [k1.o,bF,k2.o,k3.o] (gc k3 (gc k2 (gc (cR h1) (gc k1 gn))))) (by kernel_rfl)
theorem bPq(c:KC.Cup)(hV:KC.Valid c){base:Nat}:FV Tp 12 [.p (cupP c)] base (.tup [.p (aC (iE (KC.sureM c) c.sk.toNat)),.p (aA 0)]) []:=bPp hV.small ((KC.valid_iff c).2 hV) hV
end CU
end
section
variable {j a0 a1 a2 a3 b0 b1 b2 b3 j' r0 A9 Av A0 A1 Bb Au Ch Ci Dy:Int}{L M l L' M' L'1 M'101:Lqq}{i i' Ar base:Nat}
namespace CU
open KC
noncomputable abbrev aEk:Code:=sub (cd Tryz.f176) [1,0,0,1,0,0,1,0,0]
noncomputable abbrev aEl:Code:=sub (cd Tryz.f217) [1,0,0,1,0,0,1,0,0]
noncomputable abbrev aEm:Code:=sub (cd Tryz.f233) [1,0,0,1,0,0,1,0,0]
noncomputable abbrev aLt:Code:=sub (cd Tryz.f176) [1,0,0]
noncomputable abbrev aLu:Code:=sub (cd Tryz.f217) [1,0,0]
noncomputable abbrev aLv:Code:=sub (cd Tryz.f233) [1,0,0]
theorem aWy:inR (1:Int):=by unfold inR;omega
def ltK(f:Nat)(x y:List Int):Bool:=decide (cmpI (x.getD f 0) (y.getD f 0)<0)
theorem aQj(Ak:r0=(cmpI a1 b1)):FV Tp 61 [(.p (.agg [(aA a0),(aA a1),(aA a2),(aA a3)])),(.p (.agg [(aA b0),(aA b1),(aA b2),(aA b3)]))] base (pI r0) []:=by
 subst Ak;have k1:=fk 2 (cmp_ok a1 b1) rfl;exact FV.fi func61 [k1.o] (gc k1 gn)
def kZ(l:Lqq)(i Ln:Nat)(Lc:List PV):St:=⟨fr 53 [(0,(.own 0)),(1,(pI 0)),(2,(pI (l.length:Int))),(3,(.fn 61 [] [])),(8,(pI (i:Int)))],[some (.row 54 Ln Lc)]⟩
theorem aQk(hl0:aE Tp 1 aLt (kZ l 1 l.length (l.flatten.map aA)) (.exit 0) (kZ l Ar L'1.length (L'1.flatten.map aA))):FMM Tp 176 [(.own 0),(pI 0),(pI (l.length:Int)),(.fn 61 [] [])] [some (.row 54 l.length (l.flatten.map aA))] (.tup []) [some (.row 54 L'1.length (L'1.flatten.map aA))]:=FMM.fi 1 gE func176 [hl0.k 3 (gZ dh)] (gc hl0.code (gc aWy gn))
def iA(l:Lqq)(i:Nat)(j:Int)(Mn:Nat)(Mc:List PV):St:=⟨fr 53 [(0,(.own 0)),(1,(pI 0)),(2,(pI (l.length:Int))),(3,(.fn 61 [] [])),(8,(pI (i:Int))),(9,(pI j)),(12,(pI (i:Int))),(13,(pI (l.length:Int))),(14,(pB (decide ((i:Int)<(l.length:Int))))),(17,(pI (i:Int)))],[some (.row 54 Mn Mc)]⟩
theorem aQl(h0:(i:Int)<(l.length:Int))(hl1:aE Tp 1 aEk (iA l i (i:Int) L.length (L.flatten.map aA)) (.exit 2) (iA l i Dy M'101.length (M'101.flatten.map aA)))(h2:di i)(Ai:i'=(i+1))(Cm:L'.length=M'101.length)(Cn:L'.flatten.map aA=(M'101.flatten.map aA)):aB Tp 1 aLt (kZ l i L.length (L.flatten.map aA)) .normal (kZ l i' L'.length (L'.flatten.map aA)):=by
 subst Ai;rw [Cm,Cn];exact aB.fi (gZ dh) [bT,hl1.k 5 (gZ cf)] (gc h2 (gc hl1.code (g0 h0)))
theorem zW(h0:(l.length:Int)≤(i:Int)):aB Tp 1 aLt (kZ l i L.length (L.flatten.map aA)) (.exit 0) (kZ l i L.length (L.flatten.map aA)):=aB.fi (gZ dh) [bF] (gc (aQ h0) gn)
section
variable(h0:(0:Int)<j)(h1:M[j.toNat]? = some [A9,Av,A0,A1])(h2:0≤j)(h3:uni 4 M)(h4:inR (j-1))(h5:M[(j-1).toNat]? = some [Bb,Au,Ch,Ci])(h6:0≤(j-1))
include h0 h1 h2 h3 h4 h5 h6
theorem aQm(h7:(cmpI Av Au)<0)(h8:[(aA Bb),(aA Au),(aA Ch),(aA Ci)].length=4∧(j.toNat*4)+4≤(M.flatten.map aA).length)(h9:0≤(j-1)∧(j-1)<(M.length:Int))(A5:[(aA A9),(aA Av),(aA A0),(aA A1)].length=4∧((j-1).toNat*4)+4≤((M.flatten.map aA).take (j.toNat*4)++[(aA Bb),(aA Au),(aA Ch),(aA Ci)]++(M.flatten.map aA).drop ((j.toNat*4)+4)).length)(C6:j'=(j-1))(Eo:M'.length=M.length)(Ep:M'.flatten.map aA=(((M.flatten.map aA).take (j.toNat*4)++[(aA Bb),(aA Au),(aA Ch),(aA Ci)]++(M.flatten.map aA).drop ((j.toNat*4)+4)).take ((j-1).toNat*4)++[(aA A9),(aA Av),(aA A0),(aA A1)]++((M.flatten.map aA).take (j.toNat*4)++[(aA Bb),(aA Au),(aA Ch),(aA Ci)]++(M.flatten.map aA).drop ((j.toNat*4)+4)).drop (((j-1).toNat*4)+4))):aB Tp 1 aEk (iA l i j M.length (M.flatten.map aA)) .normal (iA l i j' M'.length (M'.flatten.map aA)):=by
 subst C6;rw [Eo,Ep];exact aB.fi (gZ cf) (rT 5++[.x (.agg [(aA A9),(aA Av),(aA A0),(aA A1)])]++rT 5++[.x (.agg [(aA Bb),(aA Au),(aA Ch),(aA Ci)]),bT,.c (pI (cmpI Av Au)) [],bT,bT,bT,.x (.agg [(aA Bb),(aA Au),(aA Ch),(aA Ci)]),.x (.agg [(aA A9),(aA Av),(aA A0),(aA A1)])]) (gc h4 (gc A5 (gc h9 (gc h8 (gc (aZ (i:=j) h2 h1) (gc (cD (i:=j.toNat) h3 h1) (gc (cW (i:=j.toNat) h3 h1) (gc (aZ (i:=j) h2 h1) (gc (cD (i:=(j-1).toNat) h3 h5) (gc (cW (i:=(j-1).toNat) h3 h5) (gc (aZ (i:=(j-1)) h6 h5) (Ap h4 (gc (bD h7) (Ap (bD h0) (gt (FC Tp 61 [(.p (.agg [(aA A9),(aA Av),(aA A0),(aA A1)])),(.p (.agg [(aA Bb),(aA Au),(aA Ch),(aA Ci)]))] [] 1 (pI (cmpI Av Au)) []) (FV.fc (aQj rfl) rfl) (gc (bD h0) (gc (cD (i:=(j-1).toNat) h3 h5) (gc (cW (i:=(j-1).toNat) h3 h5) (gc (bD h0) (gc (aZ (i:=(j-1)) h6 h5) (gc (bD h0) (gc h4 (Aq (bD h0) (gc (cD (i:=j.toNat) h3 h1) (gc (cW (i:=j.toNat) h3 h1) (gc (bD h0) (gc (aZ (i:=j) h2 h1) (Aq (bD h0) (g0 h0)))))))))))))))))))))))))))))
theorem aQn(h7:(0:Int)≤(cmpI Av Au)):aB Tp 1 aEk (iA l i j M.length (M.flatten.map aA)) (.exit 2) (iA l i j M.length (M.flatten.map aA)):=aB.fi (gZ cf) (rT 5++[.x (.agg [(aA A9),(aA Av),(aA A0),(aA A1)])]++rT 5++[.x (.agg [(aA Bb),(aA Au),(aA Ch),(aA Ci)]),bT,.c (pI (cmpI Av Au)) [],bT,bT,bF]) (gc (aQ h7) (Ap (bD h0) (gt (FC Tp 61 [(.p (.agg [(aA A9),(aA Av),(aA A0),(aA A1)])),(.p (.agg [(aA Bb),(aA Au),(aA Ch),(aA Ci)]))] [] 1 (pI (cmpI Av Au)) []) (FV.fc (aQj rfl) rfl) (gc (bD h0) (gc (cD (i:=(j-1).toNat) h3 h5) (gc (cW (i:=(j-1).toNat) h3 h5) (gc (bD h0) (gc (aZ (i:=(j-1)) h6 h5) (gc (bD h0) (gc h4 (Aq (bD h0) (gc (cD (i:=j.toNat) h3 h1) (gc (cW (i:=j.toNat) h3 h1) (gc (bD h0) (gc (aZ (i:=j) h2 h1) (Aq (bD h0) (g0 h0)))))))))))))))))
end
theorem aQo(h0:j≤0):aB Tp 1 aEk (iA l i j M.length (M.flatten.map aA)) (.exit 2) (iA l i j M.length (M.flatten.map aA)):=aB.fi (gZ cf) (rF 13) (Fy (aQ h0) (B7 (aQ h0) gn))
theorem bWb(l:Lqq)(i:Nat)(A R:Lqq)(hA:A.length<1000)(hi:i=A.length)(x0 x1 x2 x3:Int)(hu:uni 4 (A++[x0,x1,x2,x3]::R)):∀ m,m≤A.length→(∀ t (h:t<A.length),m≤t→ltK 1 [x0,x1,x2,x3] A[t]=true) →
  aE Tp 1 aEk (iA l i (m:Int) (mv A [x0,x1,x2,x3] m R).length ((mv A [x0,x1,x2,x3] m R).flatten.map aA)) (.exit 2) (iA l i (insPos (ltK 1) [x0,x1,x2,x3] A:Int) (ins (ltK 1) A [x0,x1,x2,x3]++R).length ((ins (ltK 1) A [x0,x1,x2,x3]++R).flatten.map aA)):=by
 have huA:∀ y∈A,y.length=4:=fun y hy=>hu y (gD _ hy)
 have huM:∀ m,uni 4 (mv A [x0,x1,x2,x3] m R):=fun m y hy=>by
  unfold mv at hy
  rcases dY.1 hy with h | h
  ·exact huA y (List.mem_of_mem_take h)
  ·rcases eO.1 h with rfl | h
   ·rfl
   ·rcases dY.1 h with h | h
    ·exact huA y (List.mem_of_mem_drop h)
    ·exact hu y (oE _ (B3 _ h))
 intro m
 induction m with
 | zero =>
  intro _ hlt;have e:=insPos_eq (ltK 1) [x0,x1,x2,x3] A 0 (Nat.zero_le _) hlt (.inl rfl);rw [← mv_ins,e];exact .exit (aQo (by simp)) (by simp)
 | succ m ih =>
  intro hm hlt;have hy:=An (show m<A.length by omega)
  generalize A[m]=y at hy
  obtain ⟨y0,y1,y2,y3,rfl⟩:=Iw (huA y (Br hy));have e1:((m+1:Nat):Int).toNat=m+1:=by omega
  have e2:(((m+1:Nat):Int)-1).toNat=m:=by omega
  have hl:=mv_length A [x0,x1,x2,x3] (m+1) R hm;have g1:(mv A [x0,x1,x2,x3] (m+1) R)[m+1]? = some [x0,x1,x2,x3]:=by rw [mv_get A _ _ R hm];simp
  have g2:(mv A [x0,x1,x2,x3] (m+1) R)[m]? = some [y0,y1,y2,y3]:=by rw [mv_get A _ _ R hm,if_pos (by omega)];exact hy
  by_cases hc:cmpI x1 y1<0
  ·have st:=gX (k:=4) (i:=m+1) (x:=[y0,y1,y2,y3]) (huM (m+1)) (by omega) rfl
   have Ey:uni 4 ((mv A [x0,x1,x2,x3] (m+1) R).set (m+1) [y0,y1,y2,y3]):=vY (huM _) rfl;have st2:=gX (k:=4) (i:=m) (x:=[x0,x1,x2,x3]) Ey (by rw [lP];omega) rfl
   have gm:((mv A [x0,x1,x2,x3] (m+1) R).set (m+1) [y0,y1,y2,y3])[m]? = some [y0,y1,y2,y3]:=by rw [List.getElem?_set,if_neg (by omega)];exact g2
   have hsw:=mv_swap A [x0,x1,x2,x3] (m+1) R hm (by omega) [y0,y1,y2,y3] (by simpa using hy)
   rw [Nat.add_sub_cancel] at hsw
   simp only [iK,List.map_nil] at st st2
   refine .step (aQm (j:=((m+1:Nat):Int)) (j':=(m:Int)) (M':=mv A [x0,x1,x2,x3] m R) (by omega) (by rw [e1];exact g1) (by omega) (huM _) (by show _∧_;omega) (by rw [e2];exact g2) (by omega) hc ⟨rfl,by rw [e1];exact cW (huM _) g1⟩ ⟨by omega,by omega⟩ ⟨rfl,?_⟩ (by omega) (by rw [hl,mv_length A _ _ R (by omega)]) ?_) (ih (by omega) fun t ht h1 => ?_)
   ·rw [e1,e2,st];exact cW Ey gm
   ·rw [e1,e2,st,st2,hsw]
   ·by_cases h2:t=m
    ·subst h2
     have h3:=hy;rw [An ht,Option.some.injEq] at h3
     rw [h3];simpa [ltK] using hc
    ·exact hlt t ht (by omega)
  ·have e:=insPos_eq (ltK 1) [x0,x1,x2,x3] A (m+1) hm hlt (.inr ⟨[y0,y1,y2,y3],by simpa using hy,by simpa [ltK] using hc⟩)
   rw [← mv_ins,e];exact .exit (aQn (by omega) (by rw [e1];exact g1) (by omega) (huM _) (by show _∧_;omega) (by rw [e2];exact g2) (by omega) (by omega)) (by simp)
theorem bPc(l:Lqq)(hu:uni 4 l)(hn:l.length<1000):FMM Tp 176 [.own 0,.p (aA 0),.p (aA (l.length:Int)),.fn 61 [] []] [some (.row 54 l.length (l.flatten.map aA))] (.tup []) [some (.row 54 (isort (ltK 1) l).length ((isort (ltK 1) l).flatten.map aA))]:=by
 have hui:∀ i,uni 4 (isort (ltK 1) (l.take i)):=fun i y hy=>hu y (List.mem_of_mem_take ((isort_mem (ltK 1) _ y).1 hy))
 have key:∀ d i,i+d=l.length→1≤i→aE Tp 1 aLt (kZ l i (isort (ltK 1) (l.take i)++l.drop i).length ((isort (ltK 1) (l.take i)++l.drop i).flatten.map aA)) (.exit 0) (kZ l l.length (isort (ltK 1) l).length ((isort (ltK 1) l).flatten.map aA)):=by
  intro d
  induction d with
  | zero =>
   intro i hi _;obtain rfl:i=l.length:=by omega
   rw [List.take_length,List.drop_length,List.append_nil];exact .exit (zW (by omega)) (by simp)
  | succ d ih =>
   intro i hi h1;have hlt:i<l.length:=by omega
   have hx:=hu l[i] (eE hlt);generalize hxx:l[i]=x at hx
   obtain ⟨x0,x1,x2,x3,rfl⟩:=Iw hx;have hAl:(isort (ltK 1) (l.take i)).length=i:=by rw [isort_length,kV];omega
   have hdr:l.drop i=[x0,x1,x2,x3]::l.drop (i+1):=by rw [aFy hlt,hxx]
   have hin:=bWb l i (isort (ltK 1) (l.take i)) (l.drop (i+1)) (by omega) hAl.symm x0 x1 x2 x3 (by
    intro y hy
    rcases dY.1 hy with h | h
    ·exact hui i y h
    ·rcases eO.1 h with rfl | h
     ·rfl
     ·exact hu y (List.mem_of_mem_drop h)) i (by omega) (fun t ht h2=>by omega)
   have hmv:mv (isort (ltK 1) (l.take i)) [x0,x1,x2,x3] i (l.drop (i+1))=isort (ltK 1) (l.take i)++l.drop i:=by
    have:=mv_end (isort (ltK 1) (l.take i)) [x0,x1,x2,x3] (l.drop (i+1));rw [hAl] at this;rw [this,hdr]
   have hsn:=isort_snoc (ltK 1) l i hlt;rw [hxx] at hsn
   rw [hmv,← hsn] at hin
   exact .step (aQl (by omega) hin (by show _∧_;omega) rfl rfl rfl) (ih (i+1) (by omega) (by omega))
 rcases Nat.eq_zero_or_pos l.length with h0 | hp
 ·have:l=[]:=sO h0
  subst this;exact aQk (aE.exit (zW (l:=[]) (L:=[]) (i:=1) (by simp)) (by simp))
 ·have:=key (l.length-1) 1 (by omega) (by omega)
  have e1:isort (ltK 1) (l.take 1)++l.drop 1=l:=by
   cases l with
   | nil=>simp at hp
   | cons x r=>simp [isort,ins,insPos]
  rw [e1] at this
  exact aQk this
def wN(l:Lqq):St:=⟨fr 63 [(0,(.own 0)),(1,(pI (l.length:Int))),(2,(.fn 61 [] [])),(6,(pI 20)),(7,(pI 0)),(8,(pI 20))],[some (.row 54 l.length (l.flatten.map aA))]⟩
def wO(l:Lqq):St:=⟨fr 63 [(0,(.own 0)),(1,(pI (l.length:Int))),(2,(.fn 61 [] [])),(6,(pI 20)),(7,(pI 0)),(8,(pI 20))],[some (.row 54 ((isort (ltK 1) l).length) ((isort (ltK 1) l).flatten.map aA))]⟩
theorem bPd(hl0:aE Tp 1 (sub (cd Tryz.f123) de) (wN l) (.exit 0) (wN l))(h1:uni 4 l)(h2:l.length<1000)(Cw:aE Tp 1 (sub (cd Tryz.f123) cz) (wO l) (.exit 2) (wO l)):FMM Tp 123 [(.own 0),(pI (l.length:Int)),(.fn 61 [] [])] [some (.row 54 l.length (l.flatten.map aA))] (.tup []) [some (.row 54 ((isort (ltK 1) l).length) ((isort (ltK 1) l).flatten.map aA))]:=have k1:=mq [0] 1 (bPc l h1 h2);FMM.fi 1 gE func123 [hl0.k 6 (gZ az),k1.o,Cw.k 1 (gZ df)] (gc Cw.code (gc k1 (gc hl0.code gn)))
theorem aQp(h0:(l.length:Int)<20):aB Tp 1 (sub (cd Tryz.f123) de) (wN l) (.exit 0) (wN l):=aB.fi (gZ az) [bF] (gc (jZ h0) gn)
theorem aQq(h0:(l.length:Int)≤20):aB Tp 1 (sub (cd Tryz.f123) cz) (wO l) (.exit 2) (wO l):=aB.fi (gZ df) [bF] (gc (aQ h0) gn)
theorem bPe(l:Lqq)(hu:uni 4 l)(hn:l.length<20):FMM Tp 123 [.own 0,.p (aA (l.length:Int)),.fn 61 [] []] [some (.row 54 l.length (l.flatten.map aA))] (.tup []) [some (.row 54 (isort (ltK 1) l).length ((isort (ltK 1) l).flatten.map aA))] := 
 bPd (aE.exit (aQp (by omega)) (by simp)) hu (by omega) (aE.exit (aQq (by omega)) (by simp))
theorem bPf(h0:uni 4 l)(h1:l.length<20):FMM Tp 60 [(.own 0),(.fn 61 [] [])] [some (.row 54 l.length (l.flatten.map aA))] (.tup []) [some (.row 54 ((isort (ltK 1) l).length) ((isort (ltK 1) l).flatten.map aA))]:=have k1:=mq [0] 1 (bPe l h0 h1);FMM.fi 1 gE func60 [k1.o] (gc k1 gn)
theorem bWc(l:Lqq)(hu:uni 4 l)(hn:l.length<20):FMM Tp 60 [.own 0,.fn 61 [] []] [some (.row 54 l.length (l.flatten.map aA))] (.tup []) [some (.row 54 (isort (ltK 1) l).length ((isort (ltK 1) l).flatten.map aA))]:=bPf hu hn
theorem aQr(Ak:r0=(cmpI a1 b1)):FV Tp 128 [(.p (.agg [(aA a0),(aA a1)])),(.p (.agg [(aA b0),(aA b1)]))] base (pI r0) []:=by
 subst Ak;have k1:=fk 2 (cmp_ok a1 b1) rfl;exact FV.fi func128 [k1.o] (gc k1 gn)
def lA(l:Lqq)(i Ln:Nat)(Lc:List PV):St:=⟨fr 53 [(0,(.own 0)),(1,(pI 0)),(2,(pI (l.length:Int))),(3,(.fn 128 [] [])),(8,(pI (i:Int)))],[some (.row 133 Ln Lc)]⟩
theorem aQs(hl0:aE Tp 1 aLu (lA l 1 l.length (l.flatten.map aA)) (.exit 0) (lA l Ar L'1.length (L'1.flatten.map aA))):FMM Tp 217 [(.own 0),(pI 0),(pI (l.length:Int)),(.fn 128 [] [])] [some (.row 133 l.length (l.flatten.map aA))] (.tup []) [some (.row 133 L'1.length (L'1.flatten.map aA))]:=FMM.fi 1 gE func217 [hl0.k 3 (gZ dh)] (gc hl0.code (gc aWy gn))
def iB(l:Lqq)(i:Nat)(j:Int)(Mn:Nat)(Mc:List PV):St:=⟨fr 53 [(0,(.own 0)),(1,(pI 0)),(2,(pI (l.length:Int))),(3,(.fn 128 [] [])),(8,(pI (i:Int))),(9,(pI j)),(12,(pI (i:Int))),(13,(pI (l.length:Int))),(14,(pB (decide ((i:Int)<(l.length:Int))))),(17,(pI (i:Int)))],[some (.row 133 Mn Mc)]⟩
theorem aQt(h0:(i:Int)<(l.length:Int))(hl1:aE Tp 1 aEl (iB l i (i:Int) L.length (L.flatten.map aA)) (.exit 2) (iB l i Dy M'101.length (M'101.flatten.map aA)))(h2:di i)(Ai:i'=(i+1))(Cm:L'.length=M'101.length)(Cn:L'.flatten.map aA=(M'101.flatten.map aA)):aB Tp 1 aLu (lA l i L.length (L.flatten.map aA)) .normal (lA l i' L'.length (L'.flatten.map aA)):=by
 subst Ai;rw [Cm,Cn];exact aB.fi (gZ dh) [bT,hl1.k 5 (gZ cf)] (gc h2 (gc hl1.code (g0 h0)))
theorem zX(h0:(l.length:Int)≤(i:Int)):aB Tp 1 aLu (lA l i L.length (L.flatten.map aA)) (.exit 0) (lA l i L.length (L.flatten.map aA)):=aB.fi (gZ dh) [bF] (gc (aQ h0) gn)
section
variable(h0:(0:Int)<j)(h1:M[j.toNat]? = some [A9,Av])(h2:0≤j)(h3:uni 2 M)(h4:inR (j-1))(h5:M[(j-1).toNat]? = some [A0,A1])(h6:0≤(j-1))
include h0 h1 h2 h3 h4 h5 h6
theorem aQu(h7:(cmpI Av A1)<0)(h8:[(aA A0),(aA A1)].length=2∧(j.toNat*2)+2≤(M.flatten.map aA).length)(h9:0≤(j-1)∧(j-1)<(M.length:Int))(A5:[(aA A9),(aA Av)].length=2∧((j-1).toNat*2)+2≤((M.flatten.map aA).take (j.toNat*2)++[(aA A0),(aA A1)]++(M.flatten.map aA).drop ((j.toNat*2)+2)).length)(C6:j'=(j-1))(Eo:M'.length=M.length)(Ep:M'.flatten.map aA=(((M.flatten.map aA).take (j.toNat*2)++[(aA A0),(aA A1)]++(M.flatten.map aA).drop ((j.toNat*2)+2)).take ((j-1).toNat*2)++[(aA A9),(aA Av)]++((M.flatten.map aA).take (j.toNat*2)++[(aA A0),(aA A1)]++(M.flatten.map aA).drop ((j.toNat*2)+2)).drop (((j-1).toNat*2)+2))):aB Tp 1 aEl (iB l i j M.length (M.flatten.map aA)) .normal (iB l i j' M'.length (M'.flatten.map aA)):=by
 subst C6;rw [Eo,Ep];exact aB.fi (gZ cf) (rT 5++[.x (.agg [(aA A9),(aA Av)])]++rT 5++[.x (.agg [(aA A0),(aA A1)]),bT,.c (pI (cmpI Av A1)) [],bT,bT,bT,.x (.agg [(aA A0),(aA A1)]),.x (.agg [(aA A9),(aA Av)])]) (gc h4 (gc A5 (gc h9 (gc h8 (gc (aZ (i:=j) h2 h1) (gc (cD (i:=j.toNat) h3 h1) (gc (cW (i:=j.toNat) h3 h1) (gc (aZ (i:=j) h2 h1) (gc (cD (i:=(j-1).toNat) h3 h5) (gc (cW (i:=(j-1).toNat) h3 h5) (gc (aZ (i:=(j-1)) h6 h5) (Ap h4 (gc (bD h7) (Ap (bD h0) (gt (FC Tp 128 [(.p (.agg [(aA A9),(aA Av)])),(.p (.agg [(aA A0),(aA A1)]))] [] 1 (pI (cmpI Av A1)) []) (FV.fc (aQr rfl) rfl) (gc (bD h0) (gc (cD (i:=(j-1).toNat) h3 h5) (gc (cW (i:=(j-1).toNat) h3 h5) (gc (bD h0) (gc (aZ (i:=(j-1)) h6 h5) (gc (bD h0) (gc h4 (Aq (bD h0) (gc (cD (i:=j.toNat) h3 h1) (gc (cW (i:=j.toNat) h3 h1) (gc (bD h0) (gc (aZ (i:=j) h2 h1) (Aq (bD h0) (g0 h0)))))))))))))))))))))))))))))
theorem aQv(h7:(0:Int)≤(cmpI Av A1)):aB Tp 1 aEl (iB l i j M.length (M.flatten.map aA)) (.exit 2) (iB l i j M.length (M.flatten.map aA)):=aB.fi (gZ cf) (rT 5++[.x (.agg [(aA A9),(aA Av)])]++rT 5++[.x (.agg [(aA A0),(aA A1)]),bT,.c (pI (cmpI Av A1)) [],bT,bT,bF]) (gc (aQ h7) (Ap (bD h0) (gt (FC Tp 128 [(.p (.agg [(aA A9),(aA Av)])),(.p (.agg [(aA A0),(aA A1)]))] [] 1 (pI (cmpI Av A1)) []) (FV.fc (aQr rfl) rfl) (gc (bD h0) (gc (cD (i:=(j-1).toNat) h3 h5) (gc (cW (i:=(j-1).toNat) h3 h5) (gc (bD h0) (gc (aZ (i:=(j-1)) h6 h5) (gc (bD h0) (gc h4 (Aq (bD h0) (gc (cD (i:=j.toNat) h3 h1) (gc (cW (i:=j.toNat) h3 h1) (gc (bD h0) (gc (aZ (i:=j) h2 h1) (Aq (bD h0) (g0 h0)))))))))))))))))
end
theorem aQw(h0:j≤0):aB Tp 1 aEl (iB l i j M.length (M.flatten.map aA)) (.exit 2) (iB l i j M.length (M.flatten.map aA)):=aB.fi (gZ cf) (rF 13) (Fy (aQ h0) (B7 (aQ h0) gn))
theorem bWd(l:Lqq)(i:Nat)(A R:Lqq)(hA:A.length<1000)(hi:i=A.length)(x0 x1:Int)(hu:uni 2 (A++[x0,x1]::R)):∀ m,m≤A.length→(∀ t (h:t<A.length),m≤t→ltK 1 [x0,x1] A[t]=true) →
  aE Tp 1 aEl (iB l i (m:Int) (mv A [x0,x1] m R).length ((mv A [x0,x1] m R).flatten.map aA)) (.exit 2) (iB l i (insPos (ltK 1) [x0,x1] A:Int) (ins (ltK 1) A [x0,x1]++R).length ((ins (ltK 1) A [x0,x1]++R).flatten.map aA)):=by
 have huA:∀ y∈A,y.length=2:=fun y hy=>hu y (gD _ hy)
 have huM:∀ m,uni 2 (mv A [x0,x1] m R):=fun m y hy=>by
  unfold mv at hy
  rcases dY.1 hy with h | h
  ·exact huA y (List.mem_of_mem_take h)
  ·rcases eO.1 h with rfl | h
   ·rfl
   ·rcases dY.1 h with h | h
    ·exact huA y (List.mem_of_mem_drop h)
    ·exact hu y (oE _ (B3 _ h))
 intro m
 induction m with
 | zero =>
  intro _ hlt;have e:=insPos_eq (ltK 1) [x0,x1] A 0 (Nat.zero_le _) hlt (.inl rfl);rw [← mv_ins,e];exact .exit (aQw (by simp)) (by simp)
 | succ m ih =>
  intro hm hlt;have hy:=An (show m<A.length by omega)
  generalize A[m]=y at hy
  obtain ⟨y0,y1,rfl⟩:=len2 (huA y (Br hy));have e1:((m+1:Nat):Int).toNat=m+1:=by omega
  have e2:(((m+1:Nat):Int)-1).toNat=m:=by omega
  have hl:=mv_length A [x0,x1] (m+1) R hm;have g1:(mv A [x0,x1] (m+1) R)[m+1]? = some [x0,x1]:=by rw [mv_get A _ _ R hm];simp
  have g2:(mv A [x0,x1] (m+1) R)[m]? = some [y0,y1]:=by rw [mv_get A _ _ R hm,if_pos (by omega)];exact hy
  by_cases hc:cmpI x1 y1<0
  ·have st:=gX (k:=2) (i:=m+1) (x:=[y0,y1]) (huM (m+1)) (by omega) rfl
   have Ey:uni 2 ((mv A [x0,x1] (m+1) R).set (m+1) [y0,y1]):=vY (huM _) rfl;have st2:=gX (k:=2) (i:=m) (x:=[x0,x1]) Ey (by rw [lP];omega) rfl
   have gm:((mv A [x0,x1] (m+1) R).set (m+1) [y0,y1])[m]? = some [y0,y1]:=by rw [List.getElem?_set,if_neg (by omega)];exact g2
   have hsw:=mv_swap A [x0,x1] (m+1) R hm (by omega) [y0,y1] (by simpa using hy)
   rw [Nat.add_sub_cancel] at hsw
   simp only [iK,List.map_nil] at st st2
   refine .step (aQu (j:=((m+1:Nat):Int)) (j':=(m:Int)) (M':=mv A [x0,x1] m R) (by omega) (by rw [e1];exact g1) (by omega) (huM _) (by show _∧_;omega) (by rw [e2];exact g2) (by omega) hc ⟨rfl,by rw [e1];exact cW (huM _) g1⟩ ⟨by omega,by omega⟩ ⟨rfl,?_⟩ (by omega) (by rw [hl,mv_length A _ _ R (by omega)]) ?_) (ih (by omega) fun t ht h1 => ?_)
   ·rw [e1,e2,st];exact cW Ey gm
   ·rw [e1,e2,st,st2,hsw]
   ·by_cases h2:t=m
    ·subst h2
     have h3:=hy;rw [An ht,Option.some.injEq] at h3
     rw [h3];simpa [ltK] using hc
    ·exact hlt t ht (by omega)
  ·have e:=insPos_eq (ltK 1) [x0,x1] A (m+1) hm hlt (.inr ⟨[y0,y1],by simpa using hy,by simpa [ltK] using hc⟩)
   rw [← mv_ins,e];exact .exit (aQv (by omega) (by rw [e1];exact g1) (by omega) (huM _) (by show _∧_;omega) (by rw [e2];exact g2) (by omega) (by omega)) (by simp)
theorem bPg(l:Lqq)(hu:uni 2 l)(hn:l.length<1000):FMM Tp 217 [.own 0,.p (aA 0),.p (aA (l.length:Int)),.fn 128 [] []] [some (.row 133 l.length (l.flatten.map aA))] (.tup []) [some (.row 133 (isort (ltK 1) l).length ((isort (ltK 1) l).flatten.map aA))]:=by
 have hui:∀ i,uni 2 (isort (ltK 1) (l.take i)):=fun i y hy=>hu y (List.mem_of_mem_take ((isort_mem (ltK 1) _ y).1 hy))
 have key:∀ d i,i+d=l.length→1≤i→aE Tp 1 aLu (lA l i (isort (ltK 1) (l.take i)++l.drop i).length ((isort (ltK 1) (l.take i)++l.drop i).flatten.map aA)) (.exit 0) (lA l l.length (isort (ltK 1) l).length ((isort (ltK 1) l).flatten.map aA)):=by
  intro d
  induction d with
  | zero =>
   intro i hi _;obtain rfl:i=l.length:=by omega
   rw [List.take_length,List.drop_length,List.append_nil];exact .exit (zX (by omega)) (by simp)
  | succ d ih =>
   intro i hi h1;have hlt:i<l.length:=by omega
   have hx:=hu l[i] (eE hlt);generalize hxx:l[i]=x at hx
   obtain ⟨x0,x1,rfl⟩:=len2 hx;have hAl:(isort (ltK 1) (l.take i)).length=i:=by rw [isort_length,kV];omega
   have hdr:l.drop i=[x0,x1]::l.drop (i+1):=by rw [aFy hlt,hxx]
   have hin:=bWd l i (isort (ltK 1) (l.take i)) (l.drop (i+1)) (by omega) hAl.symm x0 x1 (by
    intro y hy
    rcases dY.1 hy with h | h
    ·exact hui i y h
    ·rcases eO.1 h with rfl | h
     ·rfl
     ·exact hu y (List.mem_of_mem_drop h)) i (by omega) (fun t ht h2=>by omega)
   have hmv:mv (isort (ltK 1) (l.take i)) [x0,x1] i (l.drop (i+1))=isort (ltK 1) (l.take i)++l.drop i:=by
    have:=mv_end (isort (ltK 1) (l.take i)) [x0,x1] (l.drop (i+1));rw [hAl] at this;rw [this,hdr]
   have hsn:=isort_snoc (ltK 1) l i hlt;rw [hxx] at hsn
   rw [hmv,← hsn] at hin
   exact .step (aQt (by omega) hin (by show _∧_;omega) rfl rfl rfl) (ih (i+1) (by omega) (by omega))
 rcases Nat.eq_zero_or_pos l.length with h0 | hp
 ·have:l=[]:=sO h0
  subst this;exact aQs (aE.exit (zX (l:=[]) (L:=[]) (i:=1) (by simp)) (by simp))
 ·have:=key (l.length-1) 1 (by omega) (by omega)
  have e1:isort (ltK 1) (l.take 1)++l.drop 1=l:=by
   cases l with
   | nil=>simp at hp
   | cons x r=>simp [isort,ins,insPos]
  rw [e1] at this
  exact aQs this
def wP(l:Lqq):St:=⟨fr 63 [(0,(.own 0)),(1,(pI (l.length:Int))),(2,(.fn 128 [] [])),(6,(pI 20)),(7,(pI 0)),(8,(pI 20))],[some (.row 133 l.length (l.flatten.map aA))]⟩
def wQ(l:Lqq):St:=⟨fr 63 [(0,(.own 0)),(1,(pI (l.length:Int))),(2,(.fn 128 [] [])),(6,(pI 20)),(7,(pI 0)),(8,(pI 20))],[some (.row 133 ((isort (ltK 1) l).length) ((isort (ltK 1) l).flatten.map aA))]⟩
theorem bPh(hl0:aE Tp 1 (sub (cd Tryz.f178) de) (wP l) (.exit 0) (wP l))(h1:uni 2 l)(h2:l.length<1000)(Cw:aE Tp 1 (sub (cd Tryz.f178) cz) (wQ l) (.exit 2) (wQ l)):FMM Tp 178 [(.own 0),(pI (l.length:Int)),(.fn 128 [] [])] [some (.row 133 l.length (l.flatten.map aA))] (.tup []) [some (.row 133 ((isort (ltK 1) l).length) ((isort (ltK 1) l).flatten.map aA))]:=have k1:=mq [0] 1 (bPg l h1 h2);FMM.fi 1 gE func178 [hl0.k 6 (gZ az),k1.o,Cw.k 1 (gZ df)] (gc Cw.code (gc k1 (gc hl0.code gn)))
theorem aQx(h0:(l.length:Int)<20):aB Tp 1 (sub (cd Tryz.f178) de) (wP l) (.exit 0) (wP l):=aB.fi (gZ az) [bF] (gc (jZ h0) gn)
theorem aQy(h0:(l.length:Int)≤20):aB Tp 1 (sub (cd Tryz.f178) cz) (wQ l) (.exit 2) (wQ l):=aB.fi (gZ df) [bF] (gc (aQ h0) gn)
theorem bPi(l:Lqq)(hu:uni 2 l)(hn:l.length<20):FMM Tp 178 [.own 0,.p (aA (l.length:Int)),.fn 128 [] []] [some (.row 133 l.length (l.flatten.map aA))] (.tup []) [some (.row 133 (isort (ltK 1) l).length ((isort (ltK 1) l).flatten.map aA))] := 
 bPh (aE.exit (aQx (by omega)) (by simp)) hu (by omega) (aE.exit (aQy (by omega)) (by simp))
theorem bPj(h0:uni 2 l)(h1:l.length<20):FMM Tp 127 [(.own 0),(.fn 128 [] [])] [some (.row 133 l.length (l.flatten.map aA))] (.tup []) [some (.row 133 ((isort (ltK 1) l).length) ((isort (ltK 1) l).flatten.map aA))]:=have k1:=mq [0] 1 (bPi l h0 h1);FMM.fi 1 gE func127 [k1.o] (gc k1 gn)
theorem bWe(l:Lqq)(hu:uni 2 l)(hn:l.length<20):FMM Tp 127 [.own 0,.fn 128 [] []] [some (.row 133 l.length (l.flatten.map aA))] (.tup []) [some (.row 133 (isort (ltK 1) l).length ((isort (ltK 1) l).flatten.map aA))]:=bPj hu hn
theorem aQz(Ak:r0=(cmpI a1 b1)):FV Tp 149 [(.p (.agg [(aA a0),(aA a1),(aA a2),(aA a3)])),(.p (.agg [(aA b0),(aA b1),(aA b2),(aA b3)]))] base (pI r0) []:=by
 subst Ak;have k1:=fk 2 (cmp_ok a1 b1) rfl;exact FV.fi func149 [k1.o] (gc k1 gn)
def lB(l:Lqq)(i Ln:Nat)(Lc:List PV):St:=⟨fr 53 [(0,(.own 0)),(1,(pI 0)),(2,(pI (l.length:Int))),(3,(.fn 149 [] [])),(8,(pI (i:Int)))],[some (.row 163 Ln Lc)]⟩
theorem aRa(hl0:aE Tp 1 aLv (lB l 1 l.length (l.flatten.map aA)) (.exit 0) (lB l Ar L'1.length (L'1.flatten.map aA))):FMM Tp 233 [(.own 0),(pI 0),(pI (l.length:Int)),(.fn 149 [] [])] [some (.row 163 l.length (l.flatten.map aA))] (.tup []) [some (.row 163 L'1.length (L'1.flatten.map aA))]:=FMM.fi 1 gE func233 [hl0.k 3 (gZ dh)] (gc hl0.code (gc aWy gn))
def iC(l:Lqq)(i:Nat)(j:Int)(Mn:Nat)(Mc:List PV):St:=⟨fr 53 [(0,(.own 0)),(1,(pI 0)),(2,(pI (l.length:Int))),(3,(.fn 149 [] [])),(8,(pI (i:Int))),(9,(pI j)),(12,(pI (i:Int))),(13,(pI (l.length:Int))),(14,(pB (decide ((i:Int)<(l.length:Int))))),(17,(pI (i:Int)))],[some (.row 163 Mn Mc)]⟩
theorem aRb(h0:(i:Int)<(l.length:Int))(hl1:aE Tp 1 aEm (iC l i (i:Int) L.length (L.flatten.map aA)) (.exit 2) (iC l i Dy M'101.length (M'101.flatten.map aA)))(h2:di i)(Ai:i'=(i+1))(Cm:L'.length=M'101.length)(Cn:L'.flatten.map aA=(M'101.flatten.map aA)):aB Tp 1 aLv (lB l i L.length (L.flatten.map aA)) .normal (lB l i' L'.length (L'.flatten.map aA)):=by
 subst Ai;rw [Cm,Cn];exact aB.fi (gZ dh) [bT,hl1.k 5 (gZ cf)] (gc h2 (gc hl1.code (g0 h0)))
theorem zY(h0:(l.length:Int)≤(i:Int)):aB Tp 1 aLv (lB l i L.length (L.flatten.map aA)) (.exit 0) (lB l i L.length (L.flatten.map aA)):=aB.fi (gZ dh) [bF] (gc (aQ h0) gn)
section
variable(h0:(0:Int)<j)(h1:M[j.toNat]? = some [A9,Av,A0,A1])(h2:0≤j)(h3:uni 4 M)(h4:inR (j-1))(h5:M[(j-1).toNat]? = some [Bb,Au,Ch,Ci])(h6:0≤(j-1))
include h0 h1 h2 h3 h4 h5 h6
theorem aRc(h7:(cmpI Av Au)<0)(h8:[(aA Bb),(aA Au),(aA Ch),(aA Ci)].length=4∧(j.toNat*4)+4≤(M.flatten.map aA).length)(h9:0≤(j-1)∧(j-1)<(M.length:Int))(A5:[(aA A9),(aA Av),(aA A0),(aA A1)].length=4∧((j-1).toNat*4)+4≤((M.flatten.map aA).take (j.toNat*4)++[(aA Bb),(aA Au),(aA Ch),(aA Ci)]++(M.flatten.map aA).drop ((j.toNat*4)+4)).length)(C6:j'=(j-1))(Eo:M'.length=M.length)(Ep:M'.flatten.map aA=(((M.flatten.map aA).take (j.toNat*4)++[(aA Bb),(aA Au),(aA Ch),(aA Ci)]++(M.flatten.map aA).drop ((j.toNat*4)+4)).take ((j-1).toNat*4)++[(aA A9),(aA Av),(aA A0),(aA A1)]++((M.flatten.map aA).take (j.toNat*4)++[(aA Bb),(aA Au),(aA Ch),(aA Ci)]++(M.flatten.map aA).drop ((j.toNat*4)+4)).drop (((j-1).toNat*4)+4))):aB Tp 1 aEm (iC l i j M.length (M.flatten.map aA)) .normal (iC l i j' M'.length (M'.flatten.map aA)):=by
 subst C6;rw [Eo,Ep];exact aB.fi (gZ cf) (rT 5++[.x (.agg [(aA A9),(aA Av),(aA A0),(aA A1)])]++rT 5++[.x (.agg [(aA Bb),(aA Au),(aA Ch),(aA Ci)]),bT,.c (pI (cmpI Av Au)) [],bT,bT,bT,.x (.agg [(aA Bb),(aA Au),(aA Ch),(aA Ci)]),.x (.agg [(aA A9),(aA Av),(aA A0),(aA A1)])]) (gc h4 (gc A5 (gc h9 (gc h8 (gc (aZ (i:=j) h2 h1) (gc (cD (i:=j.toNat) h3 h1) (gc (cW (i:=j.toNat) h3 h1) (gc (aZ (i:=j) h2 h1) (gc (cD (i:=(j-1).toNat) h3 h5) (gc (cW (i:=(j-1).toNat) h3 h5) (gc (aZ (i:=(j-1)) h6 h5) (Ap h4 (gc (bD h7) (Ap (bD h0) (gt (FC Tp 149 [(.p (.agg [(aA A9),(aA Av),(aA A0),(aA A1)])),(.p (.agg [(aA Bb),(aA Au),(aA Ch),(aA Ci)]))] [] 1 (pI (cmpI Av Au)) []) (FV.fc (aQz rfl) rfl) (gc (bD h0) (gc (cD (i:=(j-1).toNat) h3 h5) (gc (cW (i:=(j-1).toNat) h3 h5) (gc (bD h0) (gc (aZ (i:=(j-1)) h6 h5) (gc (bD h0) (gc h4 (Aq (bD h0) (gc (cD (i:=j.toNat) h3 h1) (gc (cW (i:=j.toNat) h3 h1) (gc (bD h0) (gc (aZ (i:=j) h2 h1) (Aq (bD h0) (g0 h0)))))))))))))))))))))))))))))
theorem aRd(h7:(0:Int)≤(cmpI Av Au)):aB Tp 1 aEm (iC l i j M.length (M.flatten.map aA)) (.exit 2) (iC l i j M.length (M.flatten.map aA)):=aB.fi (gZ cf) (rT 5++[.x (.agg [(aA A9),(aA Av),(aA A0),(aA A1)])]++rT 5++[.x (.agg [(aA Bb),(aA Au),(aA Ch),(aA Ci)]),bT,.c (pI (cmpI Av Au)) [],bT,bT,bF]) (gc (aQ h7) (Ap (bD h0) (gt (FC Tp 149 [(.p (.agg [(aA A9),(aA Av),(aA A0),(aA A1)])),(.p (.agg [(aA Bb),(aA Au),(aA Ch),(aA Ci)]))] [] 1 (pI (cmpI Av Au)) []) (FV.fc (aQz rfl) rfl) (gc (bD h0) (gc (cD (i:=(j-1).toNat) h3 h5) (gc (cW (i:=(j-1).toNat) h3 h5) (gc (bD h0) (gc (aZ (i:=(j-1)) h6 h5) (gc (bD h0) (gc h4 (Aq (bD h0) (gc (cD (i:=j.toNat) h3 h1) (gc (cW (i:=j.toNat) h3 h1) (gc (bD h0) (gc (aZ (i:=j) h2 h1) (Aq (bD h0) (g0 h0)))))))))))))))))
end
theorem aRe(h0:j≤0):aB Tp 1 aEm (iC l i j M.length (M.flatten.map aA)) (.exit 2) (iC l i j M.length (M.flatten.map aA)):=aB.fi (gZ cf) (rF 13) (Fy (aQ h0) (B7 (aQ h0) gn))
theorem bWf(l:Lqq)(i:Nat)(A R:Lqq)(hA:A.length<1000)(hi:i=A.length)(x0 x1 x2 x3:Int)(hu:uni 4 (A++[x0,x1,x2,x3]::R)):∀ m,m≤A.length→(∀ t (h:t<A.length),m≤t→ltK 1 [x0,x1,x2,x3] A[t]=true) →
  aE Tp 1 aEm (iC l i (m:Int) (mv A [x0,x1,x2,x3] m R).length ((mv A [x0,x1,x2,x3] m R).flatten.map aA)) (.exit 2) (iC l i (insPos (ltK 1) [x0,x1,x2,x3] A:Int) (ins (ltK 1) A [x0,x1,x2,x3]++R).length ((ins (ltK 1) A [x0,x1,x2,x3]++R).flatten.map aA)):=by
 have huA:∀ y∈A,y.length=4:=fun y hy=>hu y (gD _ hy)
 have huM:∀ m,uni 4 (mv A [x0,x1,x2,x3] m R):=fun m y hy=>by
  unfold mv at hy
  rcases dY.1 hy with h | h
  ·exact huA y (List.mem_of_mem_take h)
  ·rcases eO.1 h with rfl | h
   ·rfl
   ·rcases dY.1 h with h | h
    ·exact huA y (List.mem_of_mem_drop h)
    ·exact hu y (oE _ (B3 _ h))
 intro m
 induction m with
 | zero =>
  intro _ hlt;have e:=insPos_eq (ltK 1) [x0,x1,x2,x3] A 0 (Nat.zero_le _) hlt (.inl rfl);rw [← mv_ins,e];exact .exit (aRe (by simp)) (by simp)
 | succ m ih =>
  intro hm hlt;have hy:=An (show m<A.length by omega)
  generalize A[m]=y at hy
  obtain ⟨y0,y1,y2,y3,rfl⟩:=Iw (huA y (Br hy));have e1:((m+1:Nat):Int).toNat=m+1:=by omega
  have e2:(((m+1:Nat):Int)-1).toNat=m:=by omega
  have hl:=mv_length A [x0,x1,x2,x3] (m+1) R hm;have g1:(mv A [x0,x1,x2,x3] (m+1) R)[m+1]? = some [x0,x1,x2,x3]:=by rw [mv_get A _ _ R hm];simp
  have g2:(mv A [x0,x1,x2,x3] (m+1) R)[m]? = some [y0,y1,y2,y3]:=by rw [mv_get A _ _ R hm,if_pos (by omega)];exact hy
  by_cases hc:cmpI x1 y1<0
  ·have st:=gX (k:=4) (i:=m+1) (x:=[y0,y1,y2,y3]) (huM (m+1)) (by omega) rfl
   have Ey:uni 4 ((mv A [x0,x1,x2,x3] (m+1) R).set (m+1) [y0,y1,y2,y3]):=vY (huM _) rfl;have st2:=gX (k:=4) (i:=m) (x:=[x0,x1,x2,x3]) Ey (by rw [lP];omega) rfl
   have gm:((mv A [x0,x1,x2,x3] (m+1) R).set (m+1) [y0,y1,y2,y3])[m]? = some [y0,y1,y2,y3]:=by rw [List.getElem?_set,if_neg (by omega)];exact g2
   have hsw:=mv_swap A [x0,x1,x2,x3] (m+1) R hm (by omega) [y0,y1,y2,y3] (by simpa using hy)
   rw [Nat.add_sub_cancel] at hsw
   simp only [iK,List.map_nil] at st st2
   refine .step (aRc (j:=((m+1:Nat):Int)) (j':=(m:Int)) (M':=mv A [x0,x1,x2,x3] m R) (by omega) (by rw [e1];exact g1) (by omega) (huM _) (by show _∧_;omega) (by rw [e2];exact g2) (by omega) hc ⟨rfl,by rw [e1];exact cW (huM _) g1⟩ ⟨by omega,by omega⟩ ⟨rfl,?_⟩ (by omega) (by rw [hl,mv_length A _ _ R (by omega)]) ?_) (ih (by omega) fun t ht h1 => ?_)
   ·rw [e1,e2,st];exact cW Ey gm
   ·rw [e1,e2,st,st2,hsw]
   ·by_cases h2:t=m
    ·subst h2
     have h3:=hy;rw [An ht,Option.some.injEq] at h3
     rw [h3];simpa [ltK] using hc
    ·exact hlt t ht (by omega)
  ·have e:=insPos_eq (ltK 1) [x0,x1,x2,x3] A (m+1) hm hlt (.inr ⟨[y0,y1,y2,y3],by simpa using hy,by simpa [ltK] using hc⟩)
   rw [← mv_ins,e];exact .exit (aRd (by omega) (by rw [e1];exact g1) (by omega) (huM _) (by show _∧_;omega) (by rw [e2];exact g2) (by omega) (by omega)) (by simp)
theorem bPk(l:Lqq)(hu:uni 4 l)(hn:l.length<1000):FMM Tp 233 [.own 0,.p (aA 0),.p (aA (l.length:Int)),.fn 149 [] []] [some (.row 163 l.length (l.flatten.map aA))] (.tup []) [some (.row 163 (isort (ltK 1) l).length ((isort (ltK 1) l).flatten.map aA))]:=by
 have hui:∀ i,uni 4 (isort (ltK 1) (l.take i)):=fun i y hy=>hu y (List.mem_of_mem_take ((isort_mem (ltK 1) _ y).1 hy))
 have key:∀ d i,i+d=l.length→1≤i→aE Tp 1 aLv (lB l i (isort (ltK 1) (l.take i)++l.drop i).length ((isort (ltK 1) (l.take i)++l.drop i).flatten.map aA)) (.exit 0) (lB l l.length (isort (ltK 1) l).length ((isort (ltK 1) l).flatten.map aA)):=by
  intro d
  induction d with
  | zero =>
   intro i hi _;obtain rfl:i=l.length:=by omega
   rw [List.take_length,List.drop_length,List.append_nil];exact .exit (zY (by omega)) (by simp)
  | succ d ih =>
   intro i hi h1;have hlt:i<l.length:=by omega
   have hx:=hu l[i] (eE hlt);generalize hxx:l[i]=x at hx
   obtain ⟨x0,x1,x2,x3,rfl⟩:=Iw hx;have hAl:(isort (ltK 1) (l.take i)).length=i:=by rw [isort_length,kV];omega
   have hdr:l.drop i=[x0,x1,x2,x3]::l.drop (i+1):=by rw [aFy hlt,hxx]
   have hin:=bWf l i (isort (ltK 1) (l.take i)) (l.drop (i+1)) (by omega) hAl.symm x0 x1 x2 x3 (by
    intro y hy
    rcases dY.1 hy with h | h
    ·exact hui i y h
    ·rcases eO.1 h with rfl | h
     ·rfl
     ·exact hu y (List.mem_of_mem_drop h)) i (by omega) (fun t ht h2=>by omega)
   have hmv:mv (isort (ltK 1) (l.take i)) [x0,x1,x2,x3] i (l.drop (i+1))=isort (ltK 1) (l.take i)++l.drop i:=by
    have:=mv_end (isort (ltK 1) (l.take i)) [x0,x1,x2,x3] (l.drop (i+1));rw [hAl] at this;rw [this,hdr]
   have hsn:=isort_snoc (ltK 1) l i hlt;rw [hxx] at hsn
   rw [hmv,← hsn] at hin
   exact .step (aRb (by omega) hin (by show _∧_;omega) rfl rfl rfl) (ih (i+1) (by omega) (by omega))
 rcases Nat.eq_zero_or_pos l.length with h0 | hp
 ·have:l=[]:=sO h0
  subst this;exact aRa (aE.exit (zY (l:=[]) (L:=[]) (i:=1) (by simp)) (by simp))
 ·have:=key (l.length-1) 1 (by omega) (by omega)
  have e1:isort (ltK 1) (l.take 1)++l.drop 1=l:=by
   cases l with
   | nil=>simp at hp
   | cons x r=>simp [isort,ins,insPos]
  rw [e1] at this
  exact aRa this
def wR(l:Lqq):St:=⟨fr 63 [(0,(.own 0)),(1,(pI (l.length:Int))),(2,(.fn 149 [] [])),(6,(pI 20)),(7,(pI 0)),(8,(pI 20))],[some (.row 163 l.length (l.flatten.map aA))]⟩
def wS(l:Lqq):St:=⟨fr 63 [(0,(.own 0)),(1,(pI (l.length:Int))),(2,(.fn 149 [] [])),(6,(pI 20)),(7,(pI 0)),(8,(pI 20))],[some (.row 163 ((isort (ltK 1) l).length) ((isort (ltK 1) l).flatten.map aA))]⟩
theorem bPl(hl0:aE Tp 1 (sub (cd Tryz.f196) de) (wR l) (.exit 0) (wR l))(h1:uni 4 l)(h2:l.length<1000)(Cw:aE Tp 1 (sub (cd Tryz.f196) cz) (wS l) (.exit 2) (wS l)):FMM Tp 196 [(.own 0),(pI (l.length:Int)),(.fn 149 [] [])] [some (.row 163 l.length (l.flatten.map aA))] (.tup []) [some (.row 163 ((isort (ltK 1) l).length) ((isort (ltK 1) l).flatten.map aA))]:=have k1:=mq [0] 1 (bPk l h1 h2);FMM.fi 1 gE func196 [hl0.k 6 (gZ az),k1.o,Cw.k 1 (gZ df)] (gc Cw.code (gc k1 (gc hl0.code gn)))
theorem aRf(h0:(l.length:Int)<20):aB Tp 1 (sub (cd Tryz.f196) de) (wR l) (.exit 0) (wR l):=aB.fi (gZ az) [bF] (gc (jZ h0) gn)
theorem aRg(h0:(l.length:Int)≤20):aB Tp 1 (sub (cd Tryz.f196) cz) (wS l) (.exit 2) (wS l):=aB.fi (gZ df) [bF] (gc (aQ h0) gn)
theorem bPm(l:Lqq)(hu:uni 4 l)(hn:l.length<20):FMM Tp 196 [.own 0,.p (aA (l.length:Int)),.fn 149 [] []] [some (.row 163 l.length (l.flatten.map aA))] (.tup []) [some (.row 163 (isort (ltK 1) l).length ((isort (ltK 1) l).flatten.map aA))] := 
 bPl (aE.exit (aRf (by omega)) (by simp)) hu (by omega) (aE.exit (aRg (by omega)) (by simp))
theorem bPn(h0:uni 4 l)(h1:l.length<20):FMM Tp 148 [(.own 0),(.fn 149 [] [])] [some (.row 163 l.length (l.flatten.map aA))] (.tup []) [some (.row 163 ((isort (ltK 1) l).length) ((isort (ltK 1) l).flatten.map aA))]:=have k1:=mq [0] 1 (bPm l h0 h1);FMM.fi 1 gE func148 [k1.o] (gc k1 gn)
theorem bWg(l:Lqq)(hu:uni 4 l)(hn:l.length<20):FMM Tp 148 [.own 0,.fn 149 [] []] [some (.row 163 l.length (l.flatten.map aA))] (.tup []) [some (.row 163 (isort (ltK 1) l).length ((isort (ltK 1) l).flatten.map aA))]:=bPn hu hn
end CU
end
end KV
end Go.Proofs
section
namespace Go.Proofs
namespace KC

theorem nR:∀ (r:List Int) (v:Int) (k:Nat),(v::r).Pairwise (· ≤ ·) →
  ((∃ f,clashLoop (some v) (v+k) r=some f∧f≤61)↔(v+k+(r.count v:Nat)≤61∧∀ q∈r,v<q→v+k+(r.count v:Nat)≤q)∧∀ p∈r,v<p→p+(r.count p:Nat)≤61∧∀ q∈r,p<q→p+(r.count p:Nat)≤q)
 | [],v,k,_=>by simp [clashLoop]
 | x::r,v,k,hs=>by
  obtain ⟨h1,h2⟩:=List.pairwise_cons.1 hs;have hx:v≤x:=h1 x (by simp)
  obtain ⟨h3,h4⟩:=List.pairwise_cons.1 h2;have hr:∀ q∈r,x≤q:=h3;unfold clashLoop
  by_cases he:v=x
  ·subst he
   rw [if_pos rfl];have ih:=nR r v (k+1) h2;have e:v+((k+1:Nat):Int)=v+k+1:=by omega
   rw [e] at ih
   rw [ih];have c1:(((v::r).count v:Nat):Int)=(r.count v:Nat)+1:=by rw [List.count_cons_self];omega
   rw [c1];have c2:∀ p,v<p→(v::r).count p=r.count p:=fun p hp=>List.count_cons_of_ne (by omega)
   constructor
   ·rintro ⟨⟨q1,q2⟩,q3⟩
    refine ⟨⟨by omega,fun q hq hv => ?_⟩,fun p hp hv => ?_⟩
    ·rcases List.mem_cons.1 hq with rfl | hq
     ·omega
     ·have:=q2 q hq hv;omega
    ·rcases List.mem_cons.1 hp with rfl | hp
     ·omega
     ·rw [c2 p hv]
      obtain ⟨q4,q5⟩:=q3 p hp hv;refine ⟨q4,fun q hq E4 => ?_⟩
      rcases List.mem_cons.1 hq with rfl | hq
      ·omega
      ·exact q5 q hq E4
   ·rintro ⟨⟨q1,q2⟩,q3⟩
    refine ⟨⟨by omega,fun q hq hv => ?_⟩,fun p hp hv => ?_⟩
    ·have:=q2 q (List.mem_cons_of_mem _ hq) hv;omega
    ·obtain ⟨q4,q5⟩:=q3 p (List.mem_cons_of_mem _ hp) hv
     rw [c2 p hv] at q4 q5
     exact ⟨q4,fun q hq E4=>q5 q (List.mem_cons_of_mem _ hq) E4⟩
  ·have hlt:v<x:=by omega
   rw [if_neg (by simpa using he)]
   have c0:(x::r).count v=0:=List.count_eq_zero.2 fun hm=>by
    rcases List.mem_cons.1 hm with h | h
    ·omega
    ·have:=hr v h;omega
   rw [c0]
   by_cases hc:x<v+k
   ·rw [if_pos hc]
    constructor
    ·rintro ⟨f,h,_⟩;cases h
    ·rintro ⟨⟨_,q2⟩,_⟩
     have:=q2 x (by simp) hlt
     simp at this
     omega
   ·rw [if_neg hc]
    have ih:=nR r x 1 h2;have e:x+((1:Nat):Int)=x+1:=rfl;rw [e] at ih
    rw [ih];have c1:(((x::r).count x:Nat):Int)=(r.count x:Nat)+1:=by rw [List.count_cons_self];omega
    have c2:∀ p,x<p→(x::r).count p=r.count p:=fun p hp=>List.count_cons_of_ne (by omega)
    constructor
    ·rintro ⟨⟨q1,q2⟩,q3⟩
     refine ⟨⟨by simp;omega,fun q hq hv => ?_⟩,fun p hp hv => ?_⟩
     ·rcases List.mem_cons.1 hq with rfl | hq
      ·simp;omega
      ·have:=hr q hq;simp;omega
     ·have hpx:p=x∨(p∈r∧x<p):=by
       rcases List.mem_cons.1 hp with h | h
       ·exact .inl h
       ·have:=hr p h
        by_cases hpx:p=x
        ·exact .inl hpx
        ·exact .inr ⟨h,by omega⟩
      rcases hpx with rfl | ⟨hp,hxp⟩
      ·rw [c1]
       refine ⟨by omega,fun q hq E4 => ?_⟩
       rcases List.mem_cons.1 hq with rfl | hq
       ·omega
       ·have:=q2 q hq E4;omega
      ·rw [c2 p hxp]
       obtain ⟨q4,q5⟩:=q3 p hp hxp;refine ⟨q4,fun q hq E4 => ?_⟩
       rcases List.mem_cons.1 hq with rfl | hq
       ·omega
       ·exact q5 q hq E4
    ·rintro ⟨⟨q1,q2⟩,q3⟩
     obtain ⟨q4,q5⟩:=q3 x (by simp) hlt
     rw [c1] at q4 q5
     refine ⟨⟨by omega,fun q hq hv => ?_⟩,fun p hp hv => ?_⟩
     ·have:=q5 q (List.mem_cons_of_mem _ hq) hv;omega
     ·obtain ⟨q6,q7⟩:=q3 p (List.mem_cons_of_mem _ hp) (by omega)
      rw [c2 p hv] at q6 q7
      exact ⟨q6,fun q hq E4=>q7 q (List.mem_cons_of_mem _ hq) E4⟩

def NoClash(race:List Int):Prop:=∀ p∈race,p≠0→p+(race.count p:Nat)≤61∧∀ q∈race,p<q→p+(race.count p:Nat)≤q

theorem aJe:∀ a b c:Int,leB a b=true→leB b c=true→leB a c=true:=fun a b c h1 h2=>by simp [leB,KL.leB] at *;omega
theorem aJf:∀ a b:Int,(leB a b || leB b a)=true:=fun a b=>by simp [leB,KL.leB];omega

theorem clash_iff(race:List Int)(h0:∀ x∈race,0≤x):clashR race=false↔NoClash race:=by
 have hs:(placesOf race).Pairwise (· ≤ ·):=by
  have:=List.pairwise_mergeSort aJe aJf (race.filter fun x => !nz x)
  exact this.imp (fun h=>by simpa [leB,KL.leB] using h)
 have hm:∀ x,x∈placesOf race↔x∈race∧x≠0:=fun x=>by
  unfold placesOf;rw [List.mem_mergeSort,List.mem_filter];simp [nz]
 have hc:∀ x,x≠0→(placesOf race).count x=race.count x:=fun x hx=>by
  unfold placesOf;rw [(List.mergeSort_perm _ _).count_eq,List.count_filter];simp [nz,hx]
 have key:clashR race=false↔∃ f,clashLoop none 1 (placesOf race)=some f∧f≤61:=by
  unfold clashR;cases h:clashLoop none 1 (placesOf race) with
  | none=>simp
  | some f=>simp
 rw [key];have fin:∀ l:List Int,(∀ x,x∈l↔x∈race∧x≠0)→(∀ x,x≠0→l.count x=race.count x)→((∀ p∈l,p+(l.count p:Nat)≤61∧∀ q∈l,p<q→p+(l.count p:Nat)≤q)↔NoClash race):=fun l hm hc=>by
  constructor
  ·intro h p hp Gw
   obtain ⟨h1,h2⟩:=h p ((hm p).2 ⟨hp,Gw⟩);rw [hc p Gw] at h1 h2
   exact ⟨h1,fun q hq hlt=>h2 q ((hm q).2 ⟨hq,by have:=h0 p hp;omega⟩) hlt⟩
  ·intro h p hp
   obtain ⟨h1,h2⟩:=(hm p).1 hp;rw [hc p h2];obtain ⟨h3,h4⟩:=h p h1 h2;exact ⟨h3,fun q hq hlt=>h4 q ((hm q).1 hq).1 hlt⟩
 rw [← fin _ hm hc];cases hl:placesOf race with
 | nil=>simp [clashLoop]
 | cons x r =>
  rw [hl] at hs hm
  have Rm:1≤x:=by
   obtain ⟨h1,h2⟩:=(hm x).1 (by simp)
   have:=h0 x h1;omega
  unfold clashLoop;rw [if_neg (by simp),if_neg (by omega)]
  have:=nR r x 1 hs;rw [show x+((1:Nat):Int)=x+1 from rfl] at this
  rw [this];obtain ⟨h3,_⟩:=List.pairwise_cons.1 hs;have c1:(((x::r).count x:Nat):Int)=(r.count x:Nat)+1:=by rw [List.count_cons_self];omega
  have c2:∀ p,x<p→(x::r).count p=r.count p:=fun p hp=>List.count_cons_of_ne (by omega)
  constructor
  ·rintro ⟨⟨q1,q2⟩,q3⟩ p hp
   have hpx:p=x∨(p∈r∧x<p):=by
    rcases List.mem_cons.1 hp with h | h
    ·exact .inl h
    ·have:=h3 p h
     by_cases hpx:p=x
     ·exact .inl hpx
     ·exact .inr ⟨h,by omega⟩
   rcases hpx with rfl | ⟨hp,hxp⟩
   ·rw [c1]
    refine ⟨by omega,fun q hq E4 => ?_⟩
    rcases List.mem_cons.1 hq with rfl | hq
    ·omega
    ·have:=q2 q hq E4;omega
   ·rw [c2 p hxp]
    obtain ⟨q4,q5⟩:=q3 p hp hxp;refine ⟨q4,fun q hq E4 => ?_⟩
    rcases List.mem_cons.1 hq with rfl | hq
    ·omega
    ·exact q5 q hq E4
  ·intro h
   obtain ⟨q4,q5⟩:=h x (by simp)
   rw [c1] at q4 q5
   refine ⟨⟨by omega,fun q hq hv => ?_⟩,fun p hp hv => ?_⟩
   ·have:=q5 q (List.mem_cons_of_mem _ hq) hv;omega
   ·obtain ⟨q6,q7⟩:=h p (List.mem_cons_of_mem _ hp)
    rw [c2 p hv] at q6 q7
    exact ⟨q6,fun q hq E4=>q7 q (List.mem_cons_of_mem _ hq) E4⟩

theorem uW{c:Cup}(hV:Valid c)(n:Nat):Valid { c with done:=c.done.take n } :=
 ⟨hV.sk1,hV.sk2,hV.ra1,hV.ra2,hV.be1,hV.be2,hV.pt1,hV.pt2,by have:=hV.dn;simp;omega,fun r hr=>hV.len r (List.mem_of_mem_take hr),hV.pts,fun r hr=>hV.rows r (List.mem_of_mem_take hr),hV.falls,by
  have:=hV.clash;rw [List.any_eq_false] at this ⊢
  exact fun r hr=>this r (List.mem_of_mem_take hr)⟩
def race2(n o:Nat)(p:Int)(s:Nat)(w:Int):List Int:=((List.replicate n (0:Int)).set o p).set s w
theorem race2_length(n o:Nat)(p:Int)(s:Nat)(w:Int):(race2 n o p s w).length=n:=by simp [race2]
theorem aJg{n o s:Nat}{p w x:Int}(h:x∈race2 n o p s w):x=0∨x=p∨x=w:=by
 unfold race2 at h
 rcases List.mem_or_eq_of_mem_set h with h | h
 ·rcases List.mem_or_eq_of_mem_set h with h | h
  ·rw [List.mem_replicate] at h;exact .inl h.2
  ·exact .inr (.inl h)
 ·exact .inr (.inr h)
theorem xE{l:List Int}{i:Nat}{x y:Int}:(l.set i x).count y≤l.count y+if x=y then 1 else 0:=by
 by_cases hi:i<l.length
 ·rw [List.count_set hi]
  split <;> split <;> simp_all <;> omega
 ·rw [List.set_eq_of_length_le (by omega)];omega
theorem aGt{n o s:Nat}{p w:Int}(hp:0≤p∧p≤60)(hw:0≤w∧w≤60)(hne:p=0∨w=0∨p≠w):NoClash (race2 n o p s w):=by
 have hcnt:∀ x,x≠0→(race2 n o p s w).count x≤1:=fun x hx=>by
  have h1:=xE (l:=(List.replicate n (0:Int)).set o p) (i:=s) (x:=w) (y:=x);have h2:=xE (l:=List.replicate n (0:Int)) (i:=o) (x:=p) (y:=x);have h3:(List.replicate n (0:Int)).count x=0:=by rw [List.count_replicate];simp;omega
  unfold race2
  by_cases e1:w=x <;> by_cases e2:p=x <;> simp [e1,e2] at h1 h2 ⊢ <;> omega
 intro x hx h0;have:=hcnt x h0;refine ⟨?_,fun q hq hlt=>by omega⟩
 rcases aJg hx with h | h | h <;> omega
theorem valid_race{c:Cup}(hV:Valid c)(hd:(c.done.length:Int)<c.ra){race:List Int}(hl:(race.length:Int)=c.sk)(h0:∀ x∈race,0≤x∧x≤60)(hn:NoClash race):Valid (withC c [race]):=by
 refine aFe hV (by simp;omega) (fun r hr => ?_) (fun r hr => ?_) ?_
 ·rw [List.mem_singleton] at hr;subst hr;exact hl
 ·rw [List.mem_singleton] at hr;subst hr;exact h0
 ·simp [(clash_iff race fun x hx=>(h0 x hx).1).2 hn]
theorem valid_race2{c:Cup}(hV:Valid c)(hd:(c.done.length:Int)<c.ra){o s:Nat}{p w:Int}(hp:0≤p∧p≤60)(hw:0≤w∧w≤60)(hne:p=0∨w=0∨p≠w):Valid (withC c [race2 c.sk.toNat o p s w]) :=
 valid_race hV hd (by rw [race2_length];have:=hV.sk1;omega) (fun x hx=>by rcases aJg hx with h | h | h <;> omega) (aGt hp hw hne)
end KC
end Go.Proofs
end
namespace Go.Proofs
namespace KV
open Tryz
section
variable {f k p r nx r0 rk M5 Qk Oa Aa Ab D9:Int}{o o' A3 Ay:Lqq}{rc:List Int}{i s i' Ar base:Nat}
namespace CU
open KC
noncomputable abbrev uN:Code:=sub (cd Tryz.f64) [1,1,0,1,0,0]
noncomputable abbrev uO:Code:=sub (cd Tryz.f81) [1,0,1,1,1,1,0,1,0,0]
noncomputable abbrev uP:Code:=sub (cd Tryz.f64) [1,1,0,1,0,0,1,1,0,0,1,1,1,0,0,0]
noncomputable abbrev yN:Code:=pS (cd Tryz.f21) 5 [0,1,0,0]
noncomputable abbrev aLq:Code:=sub (cd Tryz.f19) [1,1,1,1,0,1,0,0]
def iP(c:KC.Cup)(i:Nat)(r f:Int):St:=⟨fr 58 [(2,(pI r)),(3,(pI 0)),(4,(pI (KC.checkP c))),(5,(.ptr 0 0)),(6,(pI f)),(23,(pI (((c.done.length+1):Nat):Int))),(24,(pI (i:Int)))],(ah c)⟩
section
variable{c:KC.Cup}(h0:KC.Small c)(h1:(KC.checkP c)=0)(h2:inR (((c.done.length+1):Nat):Int))(Cw:aE Tp 0 uO (iP c 0 0 (-1)) (.exit 0) (iP c Ar Qk M5))
include h0 h1 h2 Cw
theorem cCr(h4:M5<(0:Int)):FV Tp 81 [(.p (cupP c))] base (.tup [(pI 0),(pI 0),(pI 6)]) []:=have k1:=fk 1 (gA c h0) rfl;FV.frz (FMM.fi 0 gE func81 [k1.o,bF,Cw.k 7 (gI cj [1]),bT] (gc (bD h4) (gc Cw.code (gc h2 (gc (cR h1) (gc k1 gn)))))) (by kernel_rfl)
theorem cCs(h4:(0:Int)≤M5):FV Tp 81 [(.p (cupP c))] base (.tup [(pI Qk),(pI M5),(pI 0)]) []:=have k1:=fk 1 (gA c h0) rfl;FV.frz (FMM.fi 0 gE func81 [k1.o,bF,Cw.k 7 (gI cj [1]),bF] (gc (aQ h4) (gc Cw.code (gc h2 (gc (cR h1) (gc k1 gn)))))) (by kernel_rfl)
end
abbrev wM(c:KC.Cup)(Ay:Lqq):=iE (KC.sureM (⟨c.sk,c.ra,c.be,c.pts,Ay⟩:KC.Cup)) (⟨c.sk,c.ra,c.be,c.pts,Ay⟩:KC.Cup).sk.toNat
abbrev aIq(c:KC.Cup)(Ay:Lqq):=iE (KC.canM (⟨c.sk,c.ra,c.be,c.pts,Ay⟩:KC.Cup)) (⟨c.sk,c.ra,c.be,c.pts,Ay⟩:KC.Cup).sk.toNat
section
variable{c:KC.Cup}(h0:(i:Int)<(((c.done.length+1):Nat):Int))(h1:0≤(0:Int)∧(0:Int)≤(i:Int)∧(i:Int)≤(c.done.length:Int)∧(c.done.map aC).length=c.done.length*1)(h2:(i-0)=Ay.length)(h3:((c.done.map aC).take (i*1))=Ay.map aC)(h4:KC.Valid (⟨c.sk,c.ra,c.be,c.pts,Ay⟩:KC.Cup))
include h0 h1 h2 h3 h4
theorem bGz{Az r':Int}(h5:(0:Int)<((iE (KC.sureM (⟨c.sk,c.ra,c.be,c.pts,Ay⟩:KC.Cup)) (⟨c.sk,c.ra,c.be,c.pts,Ay⟩:KC.Cup).sk.toNat).length:Int))(h6:((iE (KC.canM (⟨c.sk,c.ra,c.be,c.pts,Ay⟩:KC.Cup)) (⟨c.sk,c.ra,c.be,c.pts,Ay⟩:KC.Cup).sk.toNat).length:Int)=1)(h7:(iE (KC.sureM (⟨c.sk,c.ra,c.be,c.pts,Ay⟩:KC.Cup)) (⟨c.sk,c.ra,c.be,c.pts,Ay⟩:KC.Cup).sk.toNat)[0]? = some Az)(Uu:r'=(i:Int)):aB Tp 0 uO (iP c i r f) (.exit 0) (iP c i r' Az):=by
 subst Uu;have k1:=fk 2 aBf rfl;have k2:=fk 18 wT rfl;exact aB.fi (gI cj [0]) ([bT,k1.o,.c (.p (aC (aIq c Ay))) [],k2.o,.c (.p (aC (wM c Ay))) []]++rT 5++[.x (aA Az)]) (gt (((wM c Ay).map aA)[0]? = some (aA Az)) (cE (i:=0) h7) (gt (0≤(0:Int)∧(0:Int)<((wM c Ay).length:Int)∧0<((wM c Ay).map aA).length) (gQ (i:=(0:Int)) (by first | decide | simp) h7) (gc (cF h6) (Bf (bD h5) (gt (FC Tp 43 [(.agg [(.fn 87 [] [])]),(.p (.agg [(aA c.sk),(aA c.ra),(aA c.be),(aC c.pts),(.sl (i-0) ((c.done.map aC).take (i*1)))]))] [] 26 (.p (aC (wM c Ay))) []) (FV.fc (by rw [show ((.sl (i-0) ((c.done.map aC).take (i*1))):PV)=aR Ay from lQ h2 h3];exact (wU (⟨c.sk,c.ra,c.be,c.pts,Ay⟩:KC.Cup) h4)) rfl) (gc k2 (gt (FC Tp 43 [(.agg [(.fn 86 [] [])]),(.p (.agg [(aA c.sk),(aA c.ra),(aA c.be),(aC c.pts),(.sl (i-0) ((c.done.map aC).take (i*1)))]))] [] 10 (.p (aC (aIq c Ay))) []) (FV.fc (by rw [show ((.sl (i-0) ((c.done.map aC).take (i*1))):PV)=aR Ay from lQ h2 h3];exact (aBg (⟨c.sk,c.ra,c.be,c.pts,Ay⟩:KC.Cup) h4)) rfl) (gc k1 (gc h1 (g0 h0))))))))))
theorem bHa(h5:(0:Int)<((iE (KC.sureM (⟨c.sk,c.ra,c.be,c.pts,Ay⟩:KC.Cup)) (⟨c.sk,c.ra,c.be,c.pts,Ay⟩:KC.Cup).sk.toNat).length:Int))(h6:((iE (KC.canM (⟨c.sk,c.ra,c.be,c.pts,Ay⟩:KC.Cup)) (⟨c.sk,c.ra,c.be,c.pts,Ay⟩:KC.Cup).sk.toNat).length:Int)≠1)(h7:di i)(Ai:i'=(i+1)):aB Tp 0 uO (iP c i r f) .normal (iP c i' r f):=by
 subst Ai;have k1:=fk 2 aBf rfl;have k2:=fk 18 wT rfl;exact aB.fi (gI cj [0]) [bT,k1.o,.c (.p (aC (aIq c Ay))) [],k2.o,.c (.p (aC (wM c Ay))) [],bT,bT,bT,bT,bF] (gc h7 (gc (bK h6) (Bf (bD h5) (gt (FC Tp 43 [(.agg [(.fn 87 [] [])]),(.p (.agg [(aA c.sk),(aA c.ra),(aA c.be),(aC c.pts),(.sl (i-0) ((c.done.map aC).take (i*1)))]))] [] 26 (.p (aC (wM c Ay))) []) (FV.fc (by rw [show ((.sl (i-0) ((c.done.map aC).take (i*1))):PV)=aR Ay from lQ h2 h3];exact (wU (⟨c.sk,c.ra,c.be,c.pts,Ay⟩:KC.Cup) h4)) rfl) (gc k2 (gt (FC Tp 43 [(.agg [(.fn 86 [] [])]),(.p (.agg [(aA c.sk),(aA c.ra),(aA c.be),(aC c.pts),(.sl (i-0) ((c.done.map aC).take (i*1)))]))] [] 10 (.p (aC (aIq c Ay))) []) (FV.fc (by rw [show ((.sl (i-0) ((c.done.map aC).take (i*1))):PV)=aR Ay from lQ h2 h3];exact (aBg (⟨c.sk,c.ra,c.be,c.pts,Ay⟩:KC.Cup) h4)) rfl) (gc k1 (gc h1 (g0 h0)))))))))
theorem bHb(h5:((iE (KC.sureM (⟨c.sk,c.ra,c.be,c.pts,Ay⟩:KC.Cup)) (⟨c.sk,c.ra,c.be,c.pts,Ay⟩:KC.Cup).sk.toNat).length:Int)≤0)(h6:di i)(Ai:i'=(i+1)):aB Tp 0 uO (iP c i r f) .normal (iP c i' r f):=by
 subst Ai;have k1:=fk 2 aBf rfl;have k2:=fk 18 wT rfl;exact aB.fi (gI cj [0]) [bT,k1.o,.c (.p (aC (aIq c Ay))) [],k2.o,.c (.p (aC (wM c Ay))) [],bF,bF,bF,bF] (gc h6 (Bf (aQ h5) (gt (FC Tp 43 [(.agg [(.fn 87 [] [])]),(.p (.agg [(aA c.sk),(aA c.ra),(aA c.be),(aC c.pts),(.sl (i-0) ((c.done.map aC).take (i*1)))]))] [] 26 (.p (aC (wM c Ay))) []) (FV.fc (by rw [show ((.sl (i-0) ((c.done.map aC).take (i*1))):PV)=aR Ay from lQ h2 h3];exact (wU (⟨c.sk,c.ra,c.be,c.pts,Ay⟩:KC.Cup) h4)) rfl) (gc k2 (gt (FC Tp 43 [(.agg [(.fn 86 [] [])]),(.p (.agg [(aA c.sk),(aA c.ra),(aA c.be),(aC c.pts),(.sl (i-0) ((c.done.map aC).take (i*1)))]))] [] 10 (.p (aC (aIq c Ay))) []) (FV.fc (by rw [show ((.sl (i-0) ((c.done.map aC).take (i*1))):PV)=aR Ay from lQ h2 h3];exact (aBg (⟨c.sk,c.ra,c.be,c.pts,Ay⟩:KC.Cup) h4)) rfl) (gc k1 (gc h1 (g0 h0))))))))
end
theorem bHc{c:KC.Cup}(h0:(((c.done.length+1):Nat):Int)≤(i:Int)):aB Tp 0 uO (iP c i r f) (.exit 0) (iP c i r f):=aB.fi (gI cj [0]) [bF] (gc (aQ h0) gn)
theorem jR{n i x:Nat}(h:(List.range n)[i]? = some x):x=i∧i<n:=by
 obtain ⟨h1,h2⟩:=Bg.1 h;rw [List.getElem_range] at h2
 exact ⟨h2.symm,by simpa using h1⟩
abbrev lI(c:KC.Cup)(n:Nat):KC.Cup:={ c with done:=c.done.take n }
def aWv(c:KC.Cup)(n:Nat):Bool:=decide (0<(iE (KC.sureM (lI c n)) c.sk.toNat).length) && decide ((iE (KC.canM (lI c n)) c.sk.toNat).length=1)
def aWw(c:KC.Cup):Int × Int × Int:=match (List.range (c.done.length+1)).findIdx? (aWv c) with
 | some n=>((n:Int),(iE (KC.sureM (lI c n)) c.sk.toNat).headD 0,0)
 | none=>(0,0,6)
theorem aPz{p:Nat→Bool}{n:Nat}{x:Int}(h:x∈iE p n):0≤x:=by
 unfold iE at h
 rw [Bi] at h
 obtain ⟨k,_,rfl⟩:=h;omega
theorem cCt(c:KC.Cup)(hV:KC.Valid c){base:Nat}:FV Tp 81 [.p (cupP c)] base (.tup [.p (aA (aWw c).1),.p (aA (aWw c).2.1),.p (aA (aWw c).2.2)]) []:=by
 have hdn:=hV.dn;have ra2:=hV.ra2;have hl:∀ i,i≤c.done.length→(i-0)=(c.done.take i).length:=fun i hi=>by simp;omega
 have hm:∀ i,((c.done.map aC).take (i*1))=(c.done.take i).map aC:=fun i=>by rw [Nat.mul_one,List.map_take]
 rcases aE.find (P:=Tp) (k:=0) (b:=uO) (fun i=>iP c i 0 (-1)) (fun i _=>iP c i (i:Int) ((iE (KC.sureM (lI c i)) c.sk.toNat).headD 0)) (iP c (c.done.length+1) 0 (-1)) (.exit 0) (.exit 0) (by simp) (by simp) (aWv c) (List.range (c.done.length+1))
  (fun i x hx hp=>by
   obtain ⟨rfl,hi⟩:=jR hx
   by_cases h1:0<(iE (KC.sureM (lI c x)) c.sk.toNat).length
   ·have h2:(iE (KC.canM (lI c x)) c.sk.toNat).length≠1:=fun h=>by simp [aWv,h1,h] at hp
    exact bHa (Ay:=c.done.take x) (by omega) ⟨by omega,by omega,by omega,by simp⟩ (hl x (by omega)) (hm x) (uW hV x) (by exact_mod_cast h1) (by exact_mod_cast h2) (aM (by omega)) rfl
   ·exact bHb (Ay:=c.done.take x) (by omega) ⟨by omega,by omega,by omega,by simp⟩ (hl x (by omega)) (hm x) (uW hV x) (by show ((iE (KC.sureM (lI c x)) c.sk.toNat).length:Int)≤0;omega) (aM (by omega)) rfl)
  (fun i x hx hp=>by
   obtain ⟨rfl,hi⟩:=jR hx;simp only [aWv,Bw,decide_eq_true_eq] at hp
   obtain ⟨h1,h2⟩:=hp;refine bGz (Ay:=c.done.take x) (Az:=(iE (KC.sureM (lI c x)) c.sk.toNat).headD 0) (by omega) ⟨by omega,by omega,by omega,by simp⟩ (hl x (by omega)) (hm x) (uW hV x) (by exact_mod_cast h1) (by exact_mod_cast h2) ?_ rfl
   show (iE (KC.sureM (lI c x)) c.sk.toNat)[0]? = _;generalize iE (KC.sureM (lI c x)) c.sk.toNat=l at h1
   cases l with
   | nil=>simp at h1
   | cons a r=>rfl)
  (by rw [aGa];exact bHc (by omega)) with ⟨i,x,h1,h2,h3,h4⟩ | ⟨h1,h2,h3⟩
 ·unfold aWw
  rw [h2];refine cCs hV.small ((KC.valid_iff c).2 hV) (aM (by omega)) h4 ?_
  obtain ⟨rfl,hi⟩:=jR h1;simp only [aWv,Bw,decide_eq_true_eq] at h3
  have h5:=h3.1;have:∀ l:List Int,(∀ y∈l,0≤y)→0≤l.headD 0:=fun l h=>by
   cases l with
   | nil=>simp
   | cons a r=>exact h a (by simp)
  exact this _ fun y hy=>aPz hy
 ·unfold aWw
  rw [h1];exact cCr hV.small ((KC.valid_iff c).2 hV) (aM (by omega)) h3 (by omega)
section
variable{c:KC.Cup}(h0:KC.Small c)(h1:(iR c k)=0)(h2:inR (c.ra-(c.done.length:Int)))
include h0 h1 h2
theorem bVx(h3:(c.ra-(c.done.length:Int))≠1):FV Tp 63 [(.p (cupP c)),(pI k)] base (.tup [(.p (cupP c)),(pI 9)]) []:=have k1:=fk 2 (aEo c h0 k) rfl;FV.fi func63 ([k1.o]++rT 11) (gc (gY h3) (Ap (cF h1) (gc h2 (Fy (cF h1) (gc k1 gn)))))
theorem bVy(h3:(c.ra-(c.done.length:Int))=1)(Ak:r0=(iR c k)):FV Tp 63 [(.p (cupP c)),(pI k)] base (.tup [(.p (cupP c)),(pI r0)]) []:=by
 subst Ak;have k1:=fk 2 (aEo c h0 k) rfl;exact FV.fi func63 ([k1.o]++rT 10++[bF]) (gc (cR h3) (Ap (cF h1) (gc h2 (Fy (cF h1) (gc k1 gn)))))
end
theorem bVz{c:KC.Cup}(h0:KC.Small c)(h1:(iR c k)≠0)(Ak:r0=(iR c k)):FV Tp 63 [(.p (cupP c)),(pI k)] base (.tup [(.p (cupP c)),(pI r0)]) []:=by
 subst Ak;have k1:=fk 2 (aEo c h0 k) rfl;exact FV.fi func63 ([k1.o]++rF 10) (Fy (bK h1) (Ap (bK h1) (gc k1 gn)))
def rK(c:KC.Cup)(k:Int):Int:=if iR c k≠0 then iR c k else if c.ra-(c.done.length:Int)≠1 then 9 else 0
theorem zV{c:KC.Cup}{k:Int}(h:iR c k=0):KC.Valid c∧0≤k∧k<c.sk:=by
 unfold iR at h
 by_cases h1:KC.checkP c=0
 ·rw [if_neg (by simpa using h1)] at h
  cases h2:within k 0 (c.sk-1) with
  | true=>obtain ⟨h3,h4⟩:=within_iff.1 h2;exact ⟨(KC.valid_iff c).1 h1,h3,by omega⟩
  | false=>rw [h2] at h;simp at h
 ·rw [if_pos h1] at h;exact absurd h h1
theorem aLr(c:KC.Cup)(hS:KC.Small c)(k:Int){base:Nat}:FV Tp 63 [.p (cupP c),.p (aA k)] base (.tup [.p (cupP c),.p (aA (rK c k))]) []:=by
 unfold rK
 by_cases h:iR c k=0
 ·have hV:=(zV h).1
  have h1:=hV.ra1;have h2:=hV.ra2;have h3:=hV.dn;rw [if_neg (by simpa using h)]
  by_cases h4:c.ra-(c.done.length:Int)=1
  ·rw [if_neg (by simpa using h4)];exact bVy hS h (by show _∧_;omega) h4 h.symm
  ·rw [if_pos h4];exact bVx hS h (by show _∧_;omega) h4
 ·rw [if_pos h];exact bVz hS h rfl
theorem aEh{c:KC.Cup}{k:Int}(h:rK c k=0):KC.Valid c∧0≤k∧k<c.sk∧c.ra=(c.done.length:Int)+1:=by
 unfold rK at h
 by_cases h1:iR c k=0
 ·obtain ⟨h2,h3,h4⟩:=zV h1
  rw [if_neg (by simpa using h1)] at h
  by_cases h5:c.ra-(c.done.length:Int)=1
  ·exact ⟨h2,h3,h4,by omega⟩
  ·rw [if_pos h5] at h;cases h
 ·rw [if_pos h1] at h;exact absurd h h1
theorem bOu{c:KC.Cup}{o:Nat}{w:Int}{l0:Lqq}{r0:Bool}(h0:0≤c.sk∧c.sk≤c.sk∧c.sk≤1000000)(h1:0≤(o:Int)∧(o:Int)<((c.sk.toNat:Nat):Int))(h2:(o*1)<(List.replicate c.sk.toNat (aA 0)).length)(h3:0≤(s:Int)∧(s:Int)<((c.sk.toNat:Nat):Int))(h4:(s*1)<((List.replicate c.sk.toNat (aA 0)).set (o*1) (aA p)).length)(h5:1=l0.length)(h6:[(.sl c.sk.toNat (((List.replicate c.sk.toNat (aA 0)).set (o*1) (aA p)).set (s*1) (aA w)))]=l0.map aC)(h7:c.pts.length≤1000)(h8:c.done.length+l0.length≤1000)(h9:∀ r∈c.done++l0,r.length≤1000)(A5:KC.Valid (KC.withC c l0))(Cb:((o:Nat):Int)<(KC.withC c l0).sk)(Bu:((s:Nat):Int)<(KC.withC c l0).sk)(Ak:r0=(KC.betterF (KC.totalM (KC.withC c l0) o) (KC.totalM (KC.withC c l0) s) (KC.placesM (KC.withC c l0) o) (KC.placesM (KC.withC c l0) s))):FV Tp 126 [(.p (cupP c)),(pI (o:Int)),(pI p),(pI (s:Int)),(pI w)] base (pB r0) []:=by
 subst Ak;have k1:=fk 4 (wX (KC.withC c l0) A5 o Cb) rfl;have k2:=fk 12 (wX (KC.withC c l0) A5 s Bu) rfl;have k3:=fk 20 (bHv (KC.withC c l0) (KC.withC c l0) o s) rfl;exact FV.fi func126 [.c (.p (.agg [(aA ((KC.withC c l0).sk)),(aA ((KC.withC c l0).ra)),(aA ((KC.withC c l0).be)),(aC ((KC.withC c l0).pts)),(aR ((KC.withC c l0).done))])) [(2,.dead)],k1.o,k2.o,k3.o] (gc k3 (gc k2 (gc k1 (gt (FC Tp 56 [(.p (cupP c)),(.own 2)] [(2,(.row 31 1 [(.sl c.sk.toNat (((List.replicate c.sk.toNat (aA 0)).set (o*1) (aA p)).set (s*1) (aA w)))]))] 3 (.p (.agg [(aA ((KC.withC c l0).sk)),(aA ((KC.withC c l0).ra)),(aA ((KC.withC c l0).be)),(aC ((KC.withC c l0).pts)),(aR ((KC.withC c l0).done))])) [(2,.dead)]) (FV.close (ids:=[2]) (A2:=[(.p (cupP c)),(.p (.sl 1 [(.sl c.sk.toNat (((List.replicate c.sk.toNat (aA 0)).set (o*1) (aA p)).set (s*1) (aA w)))]))]) (by rw [show ((.sl 1 [(.sl c.sk.toNat (((List.replicate c.sk.toNat (aA 0)).set (o*1) (aA p)).set (s*1) (aA w)))]):PV)=aR l0 from lQ h5 h6];exact (wW c l0 h7 h8 h9)) (by kernel_rfl)) (gc h4 (gc h3 (gc h2 (gc h1 (gc h0 gn)))))))))
def eG(c:KC.Cup)(o:Nat)(p:Int)(s:Nat)(w:Int):Bool:=KC.betS (KC.withC c [KC.race2 c.sk.toNat o p s w]) o s
structure jS (c:KC.Cup) (o:Nat) (p:Int) (s:Nat) (w:Int):Prop where
 hv:KC.Valid c
 hd:(c.done.length:Int)<c.ra
 ho:(o:Int)<c.sk
 hs:(s:Int)<c.sk
 hp:0≤p∧p≤60
 hw:0≤w∧w≤60
 hn:p=0∨w=0∨p≠w
theorem mF(c:KC.Cup)(o:Nat)(p:Int)(s:Nat)(w:Int)(h:jS c o p s w){base:Nat}:FV Tp 126 [.p (cupP c),.p (aA (o:Int)),.p (aA p),.p (aA (s:Int)),.p (aA w)] base (pB (eG c o p s w)) []:=by
 have hV:=h.hv;have h1:=hV.sk1;have h2:=hV.sk2;have h3:=hV.ra2;have ho:=h.ho;have hs:=h.hs;have hd:=h.hd;have Ef:=KC.valid_race2 hV h.hd (o:=o) (s:=s) h.hp h.hw h.hn;have hS:=Ef.small;refine bOu (l0:=[KC.race2 c.sk.toNat o p s w]) (by omega) (by omega) (by simp;omega) (by omega) (by simp;omega) rfl ?_ hV.small.pts (by simp;omega) hS.rows Ef (by show (o:Int)<c.sk;omega) (by show (s:Int)<c.sk;omega) rfl
 show [_]=[PV.sl (KC.race2 c.sk.toNat o p s w).length ((KC.race2 c.sk.toNat o p s w).map aA)];rw [KC.race2_length];simp [KC.race2,List.map_set]
def jT(c:KC.Cup)(s i on:Nat)(oc:List PV):St:=⟨fr 45 [(1,(pI (s:Int))),(2,(.ptr 0 0)),(4,(.p cX)),(5,(.own 1)),(10,(pI c.sk)),(11,(pI (i:Int)))],[some (.box 98 [(pI c.sk),(pI c.ra),(pI c.be),(.p (aC c.pts)),(.p (aR c.done))]),some (.row 133 on oc)]⟩
theorem cCu{c:KC.Cup}(hl0:aE Tp 0 uN (jT c s 0 0 []) (.exit 0) (jT c s Ar A3.length (A3.flatten.map aA)))(h1:uni 2 A3)(h2:A3.length<20):FV Tp 64 [(.p (cupP c)),(pI (s:Int))] base (.p (.sl ((isort (ltK 1) A3).length) ((isort (ltK 1) A3).flatten.map aA))) []:=have k1:=mq [1] 2 (bWe A3 h1 h2);FV.frz (FMM.fi 0 ⟨[],[],[1],[]⟩ func64 [hl0.k 8 (gN bi [0,1] [(5,133)]),k1.o] (gc k1 (gc hl0.code gn))) (by kernel_rfl)
def jU(c:KC.Cup)(s i:Nat)(o:Lqq)(p:Int):St:=⟨fr 45 [(1,(pI (s:Int))),(2,(.ptr 0 0)),(4,(.p cX)),(5,(.own 1)),(6,(pI (i:Int))),(7,(pI p)),(10,(pI c.sk)),(11,(pI (i:Int))),(12,(pB (decide ((i:Int)<c.sk)))),(13,(pI (i:Int))),(14,(pI (i:Int))),(15,(pI (s:Int))),(16,(pB ((i:Int) == (s:Int))))],[some (.box 98 [(pI c.sk),(pI c.ra),(pI c.be),(.p (aC c.pts)),(.p (aR c.done))]),some (.row 133 o.length (o.flatten.map aA))]⟩
theorem bHd{c:KC.Cup}(h0:(i:Int)<c.sk)(h1:(i:Int)=(s:Int))(h2:di i)(Ai:i'=(i+1)):aB Tp 0 uN (jT c s i o.length (o.flatten.map aA)) .normal (jT c s i' o.length (o.flatten.map aA)):=by
 subst Ai;exact aB.fi (gI bi [0,1]) [bT,bT] (gc h2 (gc (cF h1) (g0 h0)))
section
variable{c:KC.Cup}(h0:(i:Int)<c.sk)(h1:(i:Int)≠(s:Int))(Bo:aE Tp 0 uP (jU c s i o 0) (.exit 2) (jU c s i o D9))(h3:jS c i 0 s 0)
include h0 h1 Bo h3
theorem bHe(h4:(eG c i 0 s 0)=true)(h5:[(aA (i:Int)),(aA 61)].length=1*2∧o.length+1≤1000000)(h6:di i)(Ai:i'=(i+1))(B0:o'.length=(o.length+1))(B1:o'.flatten.map aA=((o.flatten.map aA)++[(aA (i:Int)),(aA 61)])):aB Tp 0 uN (jT c s i o.length (o.flatten.map aA)) .normal (jT c s i' o'.length (o'.flatten.map aA)):=by
 subst Ai;have k1:=fk 2 (mF c i 0 s 0 h3) rfl;rw [B0,B1];exact aB.fi (gI bi [0,3]) [bT,bF,Bo.k 4 (gI bj [0,1]),k1.o,bT,bT] (gc h6 (gc h5 (gt ([(aA (i:Int)),(aA 61)].length=2) (by first | decide | simp) (gt ((decide ((61:Int) > 0))=true) (by first | decide | simp) (gc h4 (gc k1 (gc Bo.code (gc (bK h1) (g0 h0)))))))))
theorem bHf(h4:(eG c i 0 s 0)=false)(h5:(0:Int)<D9)(h6:[(aA (i:Int)),(aA D9)].length=1*2∧o.length+1≤1000000)(h7:di i)(Ai:i'=(i+1))(B0:o'.length=(o.length+1))(B1:o'.flatten.map aA=((o.flatten.map aA)++[(aA (i:Int)),(aA D9)])):aB Tp 0 uN (jT c s i o.length (o.flatten.map aA)) .normal (jT c s i' o'.length (o'.flatten.map aA)):=by
 subst Ai;have k1:=fk 2 (mF c i 0 s 0 h3) rfl;rw [B0,B1];exact aB.fi (gI bi [0,3]) [bT,bF,Bo.k 4 (gI bj [0,1]),k1.o,bF,bT] (gc h7 (gc h6 (gt ([(aA (i:Int)),(aA D9)].length=2) (by first | decide | simp) (gc (bD h5) (gc h4 (gc k1 (gc Bo.code (gc (bK h1) (g0 h0)))))))))
theorem bHg(h4:(eG c i 0 s 0)=false)(h5:D9≤0)(h6:di i)(Ai:i'=(i+1)):aB Tp 0 uN (jT c s i o.length (o.flatten.map aA)) .normal (jT c s i' o.length (o.flatten.map aA)):=by
 subst Ai;have k1:=fk 2 (mF c i 0 s 0 h3) rfl;exact aB.fi (gI bi [0,1]) [bT,bF,Bo.k 4 (gI bj [0,1]),k1.o,bF,bF] (gc h6 (gc (aQ h5) (gc h4 (gc k1 (gc Bo.code (gc (bK h1) (g0 h0)))))))
end
theorem bHh{c:KC.Cup}(h0:c.sk≤(i:Int)):aB Tp 0 uN (jT c s i o.length (o.flatten.map aA)) (.exit 0) (jT c s i o.length (o.flatten.map aA)):=aB.fi (gI bi [0,1]) [bF] (gc (aQ h0) gn)
section
variable{c:KC.Cup}(h0:p<60)(h1:inR (p+1))(h2:jS c i (p+1) s 0)
include h0 h1 h2
theorem bHi{p':Int}(h3:(eG c i (p+1) s 0)=true)(Uv:p'=(p+1)):aB Tp 0 uP (jU c s i o p) .normal (jU c s i o p'):=by
 subst Uv;have k1:=fk 2 (mF c i (p+1) s 0 h2) rfl;exact aB.fi (gI bj [0,1]) (rT 6++[k1.o,bT,bT]) (gc h1 (gc h3 (gc (bD h0) (gc k1 (Ap (bD h0) (gc h1 (Aq (bD h0) (g0 h0))))))))
theorem bHj(h3:(eG c i (p+1) s 0)=false):aB Tp 0 uP (jU c s i o p) (.exit 2) (jU c s i o p):=have k1:=fk 2 (mF c i (p+1) s 0 h2) rfl;aB.fi (gI bj [0,1]) (rT 6++[k1.o,bT,bF]) (gc h3 (gc (bD h0) (gc k1 (Ap (bD h0) (gc h1 (Aq (bD h0) (g0 h0)))))))
end
theorem bHk{c:KC.Cup}(h0:(60:Int)≤p):aB Tp 0 uP (jU c s i o p) (.exit 2) (jU c s i o p):=aB.fi (gI bj [0,1]) (rF 7) (Ea (aQ h0) gn)
def upto(f:Int→Bool):Nat→Int→Int
 | 0,p=>p
 | n+1,p=>if f (p+1) then upto f n (p+1) else p
theorem aLs(f:Int→Bool):∀ n p,p≤upto f n p∧upto f n p≤p+n
 | 0,p=>by simp [upto]
 | n+1,p=>by
  unfold upto
  split
  ·have:=aLs f n (p+1);omega
  ·omega
def kX(c:KC.Cup)(s i:Nat):Int:=if eG c i 0 s 0 then 61 else upto (fun p=>eG c i p s 0) 60 0
def aQa(c:KC.Cup)(s i:Nat):Lqq:=if i=s then [] else if 0<kX c s i then [[(i:Int),kX c s i]] else []
def bHl(c:KC.Cup)(s:Nat):Lqq:=(List.range c.sk.toNat).flatMap (aQa c s)
def mG(c:KC.Cup)(s:Nat):Lqq:=isort (ltK 1) (bHl c s)
structure bXy (c:KC.Cup) (s:Nat):Prop where
 hv:KC.Valid c
 hd:(c.done.length:Int)<c.ra
 hs:(s:Int)<c.sk
theorem bOv(c:KC.Cup)(s i:Nat):0≤kX c s i∧kX c s i≤61:=by
 unfold kX
 split
 ·omega
 ·have:=aLs (fun p=>eG c i p s 0) 60 0;omega
theorem aQb{c:KC.Cup}{s:Nat}{x:List Int}(h:x∈bHl c s):∃ i:Nat,(i:Int)<c.sk∧i≠s∧x=[(i:Int),kX c s i]∧0<kX c s i:=by
 unfold bHl at h
 rw [List.mem_flatMap] at h
 obtain ⟨i,hi,hx⟩:=h;rw [qT] at hi
 unfold aQa at hx
 split at hx
 ·simp at hx
 ·split at hx
  ·rename_i h1 h2
   rw [List.mem_singleton] at hx
   exact ⟨i,by omega,h1,hx,h2⟩
  ·simp at hx
theorem rL{α:Type}{g:Nat→List α}(h:∀ i,(g i).length≤1):∀ l:List Nat,(l.flatMap g).length≤l.length
 | []=>by simp
 | x::l=>by rw [List.flatMap_cons,kU,oF];have:=rL h l;have:=h x;omega
theorem tC{α:Type}{g:Nat→List α}:∀ (l:List Nat) (a:List α),l.foldl (fun acc s=>acc++g s) a=a++l.flatMap g
 | [],a=>by simp
 | x::l,a=>by rw [qR,tC l,List.flatMap_cons,List.append_assoc]
theorem aEi(c:KC.Cup)(s i:Nat):(aQa c s i).length≤1:=by
 unfold aQa
 split
 ·simp
 ·split <;> simp
theorem bOw(c:KC.Cup)(s i:Nat)(o:Lqq)(hk:∀ p:Int,0≤p→p≤60→jS c i p s 0):∀ (n:Nat) (p:Int),0≤p→p+n=60 →
  aE Tp 0 uP (jU c s i o p) (.exit 2) (jU c s i o (upto (fun p=>eG c i p s 0) n p))
 | 0,p,h0,h1=>by
  unfold upto;exact .exit (bHk (by omega)) (by simp)
 | n+1,p,h0,h1=>by
  unfold upto
  by_cases hb:eG c i (p+1) s 0=true
  ·rw [if_pos hb]
   exact .step (bHi (by omega) (by show _∧_;omega) (hk _ (by omega) (by omega)) hb rfl) (bOw c s i o hk n (p+1) (by omega) (by omega))
  ·rw [if_neg hb]
   exact .exit (bHj (by omega) (by show _∧_;omega) (hk _ (by omega) (by omega)) (by simpa using hb)) (by simp)
theorem cCv(c:KC.Cup)(s:Nat)(h:bXy c s){base:Nat}:FV Tp 64 [.p (cupP c),.p (aA (s:Int))] base (.p (fS (mG c s))) []:=by
 have hV:=h.hv;have h1:=hV.sk1;have h2:=hV.sk2;have hL:=aE.times (P:=Tp) (k:=0) (b:=uN) (e := .exit 0) (fun i (o:Lqq)=>jT c s i o.length (o.flatten.map aA)) (fun o=>jT c s c.sk.toNat o.length (o.flatten.map aA)) (fun acc i=>acc++aQa c s i) (fun i o=>o.length≤i) (by simp) c.sk.toNat (a0:=[]) (by simp)
  (fun i o hi hI=>by
   have hgl:=aEi c s i;refine ⟨by rw [kU];omega,?_⟩
   have hk:∀ p:Int,0≤p→p≤60→jS c i p s 0:=fun p q1 q2=>⟨hV,h.hd,by omega,h.hs,⟨q1,q2⟩,by omega,.inr (.inl rfl)⟩
   unfold aQa
   by_cases his:i=s
   ·rw [if_pos his,List.append_nil]
    exact bHd (by omega) (by omega) (aM (by omega)) rfl
   ·rw [if_neg his]
    have hin:=bOw c s i o hk 60 0 (by omega) (by omega)
    have hbd:=aLs (fun p=>eG c i p s 0) 60 0
    by_cases hb:eG c i 0 s 0=true
    ·have e:kX c s i=61:=by unfold kX;rw [if_pos hb]
     rw [e,if_pos (by omega)]
     exact bHe (by omega) (by omega) hin (hk 0 (by omega) (by omega)) hb (by simp;omega) (aM (by omega)) rfl (by simp) (by simp)
    ·have hb:eG c i 0 s 0=false:=by simpa using hb
     have e:kX c s i=upto (fun p=>eG c i p s 0) 60 0:=by unfold kX;rw [hb];rfl
     rw [e]
     by_cases hp:0<upto (fun p=>eG c i p s 0) 60 0
     ·rw [if_pos hp]
      exact bHf (by omega) (by omega) hin (hk 0 (by omega) (by omega)) hb hp (by simp;omega) (aM (by omega)) rfl (by simp) (by simp)
     ·rw [if_neg hp,List.append_nil]
      exact bHg (by omega) (by omega) hin (hk 0 (by omega) (by omega)) hb (by omega) (aM (by omega)) rfl)
  (fun o _=>bHh (by omega))
 rw [tC,List.nil_append] at hL
 have hlen:=rL (aEi c s) (List.range c.sk.toNat);rw [aGa] at hlen
 exact cCu hL (fun x hx=>by obtain ⟨i,_,_,rfl,_⟩:=aQb hx;rfl) (by show (bHl c s).length<20;unfold bHl;omega)
def fE(c:KC.Cup)(s i:Nat)(rk nx:Int)(rcn:Nat)(rcc:List PV):St:=⟨fr 58 [(4,(pI 0)),(5,(.p cX)),(6,(pI 0)),(9,(.own 0)),(10,(pI rk)),(11,(pI nx)),(29,(.p (.sl ((mG c s).length) ((mG c s).flatten.map aA)))),(30,(pI ((mG c s).length:Int))),(31,(pI (i:Int)))],[some (.row 3 rcn rcc)]⟩
theorem bOx{c:KC.Cup}{M6 M7:Int}{K0:List Int}(h0:KC.Small c)(h1:(rK c (s:Int))=0)(h2:0≤c.sk∧c.sk≤c.sk∧c.sk≤1000000)(h3:bXy c s)(H6:aE Tp 0 yN (fE c s 0 1 1 c.sk.toNat (List.replicate c.sk.toNat (aA 0))) (.exit 0) (fE c s Ar M6 M7 K0.length (K0.map aA))):FV Tp 21 [(.p (cupP c)),(pI (s:Int))] base (.tup [(pI M6),(.p (aC K0)),(pI 0)]) []:=have k1:=fk 1 (aLr c h0 (s:Int)) rfl;have k2:=fk 3 (cCv c s h3) rfl;FV.frz (FMM.fi 0 ⟨[],[],[0],[]⟩ func21 [k1.o,bF,k2.o,H6.k 1 (gI bt [2])] (gc H6.code (gc k2 (gc h2 (gc (cR h1) (gc k1 gn)))))) (by kernel_rfl)
section
variable{c:KC.Cup}(h0:(i:Int)<((mG c s).length:Int))(h1:(mG c s)[i]? = some [Aa,Ab])(h2:uni 2 (mG c s))
include h0 h1 h2
theorem aQc(h3:(60:Int)<Ab)(h4:inR (rk+1))(h5:di i)(Ai:i'=(i+1))(K3:Oa=(rk+1)):aB Tp 0 yN (fE c s i rk nx rc.length (rc.map aA)) .normal (fE c s i' Oa nx rc.length (rc.map aA)):=by
 subst Ai K3;exact aB.fi (gI bt [0]) [bT,.x (.agg [(aA Aa),(aA Ab)]),bT] (gc h5 (gc h4 (gc (bD h3) (gfl h2 h1 (g0 h0)))))
theorem aQd{Dc F6:Int}{Ob:List Int}(h3:Ab≤60)(h4:nx≤Ab)(h5:rc[Aa.toNat]? = some Dc)(h6:0≤Aa)(h7:(Aa.toNat*1)<(rc.map aA).length)(h8:inR (nx+1))(h9:inR (rk+1))(A5:di i)(Ai:i'=(i+1))(K3:Oa=(rk+1))(Ql:F6=(nx+1))(M8:Ob.length=rc.length)(M9:Ob.map aA=((rc.map aA).set (Aa.toNat*1) (aA nx))):aB Tp 0 yN (fE c s i rk nx rc.length (rc.map aA)) .normal (fE c s i' Oa F6 Ob.length (Ob.map aA)):=by
 subst Ai K3 Ql;rw [M8,M9];exact aB.fi (gI bt [0]) [bT,.x (.agg [(aA Aa),(aA Ab)]),bF,bT] (gc A5 (gc h9 (gc h8 (gc h7 (gc (aZ (i:=Aa) h6 h5) (gc (uD h4) (gc (aQ h3) (gfl h2 h1 (g0 h0)))))))))
theorem aQe(h3:Ab≤60)(h4:Ab<nx)(h5:di i)(Ai:i'=(i+1)):aB Tp 0 yN (fE c s i rk nx rc.length (rc.map aA)) .normal (fE c s i' rk nx rc.length (rc.map aA)):=by
 subst Ai;exact aB.fi (gI bt [0]) [bT,.x (.agg [(aA Aa),(aA Ab)]),bF,bF] (gc h5 (gc (jZ h4) (gc (aQ h3) (gfl h2 h1 (g0 h0)))))
end
theorem aQf{c:KC.Cup}(h0:((mG c s).length:Int)≤(i:Int)):aB Tp 0 yN (fE c s i rk nx rc.length (rc.map aA)) (.exit 0) (fE c s i rk nx rc.length (rc.map aA)):=aB.fi (gI bt [0]) [bF] (gc (aQ h0) gn)
def kY(c:KC.Cup)(i on:Nat)(oc:List PV):St:=⟨fr 43 [(2,(.p cX)),(3,(pI 0)),(4,(.ptr 0 0)),(6,(.own 1)),(19,(pI c.sk)),(20,(pI (i:Int)))],[some (.box 98 [(pI c.sk),(pI c.ra),(pI c.be),(.p (aC c.pts)),(.p (aR c.done))]),some (.row 54 on oc)]⟩
theorem bOy{c:KC.Cup}(h0:KC.Small c)(h1:(KC.checkP c)=0)(Bo:aE Tp 0 aLq (kY c 0 0 []) (.exit 0) (kY c Ar A3.length (A3.flatten.map aA)))(h3:uni 4 A3)(h4:A3.length<20):FV Tp 19 [(.p (cupP c))] base (.tup [(.p (.sl ((isort (ltK 1) A3).length) ((isort (ltK 1) A3).flatten.map aA))),(pI 0)]) []:=have k1:=fk 1 (gA c h0) rfl;have k2:=mq [1] 2 (bWc A3 h3 h4);FV.frz (FMM.fi 0 ⟨[],[],[1],[]⟩ func19 [k1.o,bF,Bo.k 6 (gN bb [1,2] [(6,54)]),k2.o] (gc k2 (gc Bo.code (gc (cR h1) (gc k1 gn))))) (by kernel_rfl)
theorem aQg{c:KC.Cup}{Ac:Int}(h0:(i:Int)<c.sk)(h1:KC.Valid c)(h2:((i:Nat):Int)<c.sk)(h3:((aA (KC.totalM c i))::((KC.placesM c i).map aA)).length=62)(h4:(KC.placesM c i)[1]? = some Ac)(h5:[(aA (i:Int)),(aA (KC.rankM c i)),(aA (KC.totalM c i)),(aA Ac)].length=1*4∧o.length+1≤1000000)(h6:di i)(Ai:i'=(i+1))(B0:o'.length=(o.length+1))(B1:o'.flatten.map aA=((o.flatten.map aA)++[(aA (i:Int)),(aA (KC.rankM c i)),(aA (KC.totalM c i)),(aA Ac)])):aB Tp 0 aLq (kY c i o.length (o.flatten.map aA)) .normal (kY c i' o'.length (o'.flatten.map aA)):=by
 subst Ai;have k1:=fk 2 (wX c h1 i h2) rfl;have k2:=fk 3 (aBh c h1 i h2) rfl;rw [B0,B1];exact aB.fi (gI bb [0,12]) [bT,k1.o,k2.o,.x (aA (KC.totalM c i)),.x (aA Ac)] (gc h6 (gc h5 (gt ([(aA (i:Int)),(aA (KC.rankM c i)),(aA (KC.totalM c i)),(aA Ac)].length=4) (by first | decide | simp) (gt ((((aA (KC.totalM c i))::((KC.placesM c i).map aA))++[])[2]? = some (aA Ac)) (bMe (cE (i:=1) h4)) (gt (0≤(1:Int)∧(1:Int)<61) (by first | decide | simp) (gt ((((aA (KC.totalM c i))::((KC.placesM c i).map aA))++[])[0]? = some (aA (KC.totalM c i))) (bMe rfl) (gc k2 (gt (((aA (KC.totalM c i))::((KC.placesM c i).map aA)).length=62∧0+62≤[(aA 0),(aA 0),(aA 0),(aA 0),(aA 0),(aA 0),(aA 0),(aA 0),(aA 0),(aA 0),(aA 0),(aA 0),(aA 0),(aA 0),(aA 0),(aA 0),(aA 0),(aA 0),(aA 0),(aA 0),(aA 0),(aA 0),(aA 0),(aA 0),(aA 0),(aA 0),(aA 0),(aA 0),(aA 0),(aA 0),(aA 0),(aA 0),(aA 0),(aA 0),(aA 0),(aA 0),(aA 0),(aA 0),(aA 0),(aA 0),(aA 0),(aA 0),(aA 0),(aA 0),(aA 0),(aA 0),(aA 0),(aA 0),(aA 0),(aA 0),(aA 0),(aA 0),(aA 0),(aA 0),(aA 0),(aA 0),(aA 0),(aA 0),(aA 0),(aA 0),(aA 0),(aA 0)].length) ⟨h3,by first | decide | simp⟩ (gc k1 (g0 h0))))))))))
theorem aQh{c:KC.Cup}(h0:c.sk≤(i:Int)):aB Tp 0 aLq (kY c i o.length (o.flatten.map aA)) (.exit 0) (kY c i o.length (o.flatten.map aA)):=aB.fi (gI bb [0,1]) [bF] (gc (aQ h0) gn)
def bBc(a:Int × Int × List Int)(x:List Int):Int × Int × List Int:=if 60<x.getD 1 0 then (a.1+1,a.2.1,a.2.2) else if a.2.1≤x.getD 1 0 then (a.1+1,a.2.1+1,a.2.2.set (x.getD 0 0).toNat a.2.1) else a
def yO(c:KC.Cup)(s:Nat):Int × Int × List Int:=(mG c s).foldl bBc (1,1,List.replicate c.sk.toNat 0)
theorem aQi{c:KC.Cup}{s:Nat}{x:List Int}(h:x∈mG c s):∃ i:Nat,(i:Int)<c.sk∧i≠s∧x=[(i:Int),kX c s i]∧0<kX c s i:=aQb ((isort_mem _ _ _).1 h)
theorem bOz(c:KC.Cup)(s:Nat):(mG c s).length≤c.sk.toNat:=by
 unfold mG;rw [isort_length];have:=rL (aEi c s) (List.range c.sk.toNat)
 rwa [aGa] at this
theorem bPa(c:KC.Cup)(s:Nat)(h:rK c (s:Int)=0){base:Nat}:FV Tp 21 [.p (cupP c),.p (aA (s:Int))] base (.tup [.p (aA (yO c s).1),.p (aC (yO c s).2.2),.p (aA 0)]) []:=by
 obtain ⟨hV,Jo,hs,hra⟩:=aEh h;have h1:=hV.sk1;have h2:=hV.sk2;have hu:uni 2 (mG c s):=fun x hx=>by obtain ⟨i,_,_,rfl,_⟩:=aQi hx;rfl
 have hll:=bOz c s;have hL:=aE.range (P:=Tp) (k:=0) (b:=yN) (e := .exit 0) (fun i (a:Int × Int × List Int)=>fE c s i a.1 a.2.1 a.2.2.length (a.2.2.map aA)) (fun a=>fE c s (mG c s).length a.1 a.2.1 a.2.2.length (a.2.2.map aA)) bBc (fun i a=>0≤a.1∧a.1≤1+i∧0≤a.2.1∧a.2.1≤1+i∧a.2.2.length=c.sk.toNat) (by simp) (mG c s) (a0:=(1,1,List.replicate c.sk.toNat 0)) (by simp)
  (fun i x a hx hI=>by
   obtain ⟨q1,q2,q3,q4,q5⟩:=hI;obtain ⟨k,hk,_,rfl,hp⟩:=aQi (Br hx);have hi:=aY hx;have hbd:=bOv c s k;unfold bBc;simp only [List.getD_cons_succ,List.getD_cons_zero]
   by_cases c1:60<kX c s k
   ·rw [if_pos c1]
    exact ⟨⟨by simp;omega,by simp;omega,by simp;omega,by simp;omega,q5⟩,aQc (by omega) hx hu c1 (by show _∧_;omega) (aM (by omega)) rfl rfl⟩
   ·rw [if_neg c1]
    by_cases c2:a.2.1≤kX c s k
    ·rw [if_pos c2]
     have hkl:k<a.2.2.length:=by omega
     exact ⟨⟨by simp;omega,by simp;omega,by simp;omega,by simp;omega,by simpa using q5⟩,aQd (by omega) hx hu (by omega) c2 (Dc:=a.2.2[k]) (by rw [aTw];exact An hkl) (by omega) (by simp;omega) (by show _∧_;omega) (by show _∧_;omega) (aM (by omega)) rfl rfl rfl (by simp) (by simp [List.map_set])⟩
    ·rw [if_neg c2]
     exact ⟨⟨by omega,by omega,by omega,by omega,q5⟩,aQe (by omega) hx hu (by omega) (by omega) (aM (by omega)) rfl⟩)
  (fun a _=>aQf (by omega))
 refine bOx (s:=s) hV.small h (by omega) ⟨hV,by omega,hs⟩ (Ar:=(mG c s).length) (M7:=(yO c s).2.1) ?_
 simpa [yO] using hL
def bWa(c:KC.Cup):Lqq:=(List.range c.sk.toNat).map fun (i:Nat)=>[(i:Int),KC.rankM c i,KC.totalM c i,(KC.placesM c i).getD 1 0]
def aWx(c:KC.Cup):Lqq:=isort (ltK 1) (bWa c)
theorem aEj{g:Nat→List Int}:∀ (l:List Nat) (a:Lqq),l.foldl (fun acc s=>acc++[g s]) a=a++l.map g
 | [],a=>by simp
 | x::l,a=>by rw [qR,aEj l];simp
theorem bPb(c:KC.Cup)(hV:KC.Valid c){base:Nat}:FV Tp 19 [.p (cupP c)] base (.tup [.p (fS (aWx c)),.p (aA 0)]) []:=by
 have h1:=hV.sk1;have h2:=hV.sk2;have hpl:∀ i,(KC.placesM c i).length=61:=fun i=>by unfold KC.placesM;rw [KC.placesUpTo_length]
 have hL:=aE.times (P:=Tp) (k:=0) (b:=aLq) (e := .exit 0) (fun i (o:Lqq)=>kY c i o.length (o.flatten.map aA)) (fun o=>kY c c.sk.toNat o.length (o.flatten.map aA)) (fun acc i=>acc++[[(i:Int),KC.rankM c i,KC.totalM c i,(KC.placesM c i).getD 1 0]]) (fun i o=>o.length≤i) (by simp) c.sk.toNat (a0:=[]) (by simp)
  (fun i o hi hI=>⟨by simp;omega,aQg (Ac:=(KC.placesM c i).getD 1 0) (by omega) hV (by omega) (by simp [hpl]) (by
   have:=hpl i;rw [An (by omega),Bj,An (by omega)];rfl) (by simp;omega) (aM (by omega)) rfl (by simp) (by simp)⟩)
  (fun o _=>aQh (by omega))
 rw [aEj,List.nil_append] at hL
 exact bOy hV.small ((KC.valid_iff c).2 hV) hL (fun x hx=>by obtain ⟨i,_,rfl⟩:=Bi.1 hx;rfl) (show (bWa c).length<20 by unfold bWa;simp;omega)
end CU
end
section
variable {fo pl M4 Ao Cs:Int}{free Er:List Int}{s x base:Nat}
namespace CU
open KC
noncomputable abbrev uM:Code:=pS (cd Tryz.f83) 5 [0,1,0,0]
noncomputable abbrev aWn:Code:=pS (cd Tryz.f83) 5 [0,1,0,0,1,0,0,1,0,1,0]
noncomputable abbrev aLp:Code:=pS (cd Tryz.f83) 5 [0,1,0,0,1,0,0,1,0,1,0,1]
theorem He(args:Array Value)(w:World):(callFunc 175 args).run Tp w = .ok (.enter 175 args) w:=enters_of func175 (by kernel_rfl) rfl args w
def fR(c:KC.Cup)(s:Nat)(pl:Int)(freen:Nat)(freec:List PV):St:=⟨fr 66 [(3,(.ptr 0 0)),(6,(.ptr 1 0)),(8,(.ptr 3 0)),(9,(.ptr 4 0))],[some (.box 3 [(pI (s:Int))]),some (.box 98 [(pI c.sk),(pI c.ra),(pI c.be),(.p (aC c.pts)),(.p (aR c.done))]),some (.row 3 freen freec),some (.box 31 [(.own 2)]),some (.box 3 [(pI pl)])]⟩
section
variable{c:KC.Cup}(h0:KC.Small c)(h1:(rK c (s:Int))=0)(h2:0≤c.sk∧c.sk≤c.sk∧c.sk≤1000000)(h3:0≤(s:Int)∧(s:Int)<((c.sk.toNat:Nat):Int))(h4:(s*1)<(List.replicate c.sk.toNat (aA 0)).length)
include h0 h1 h2 h3 h4
theorem bVs(F8:aE Tp 0 uM (fR c s 2 c.sk.toNat ((List.replicate c.sk.toNat (aA 0)).set (s*1) (aA 1))) (.exit 0) (fR c s M4 Er.length (Er.map aA))):FV Tp 83 [(.p (cupP c)),(pI (s:Int))] base (.tup [(.p (aC Er)),(pI 0)]) []:=have k1:=fk 2 (aLr c h0 (s:Int)) rfl;FV.frz (FMM.fi 0 ⟨[],[],[2],[]⟩ func83 [k1.o,bF,F8.k 8 (gI c8 dd)] (gc F8.code (gc h4 (gc h3 (gc h2 (gc (cR h1) (gc k1 gn))))))) (by kernel_rfl)
theorem bVt(F8:aE Tp 0 uM (fR c s 2 c.sk.toNat ((List.replicate c.sk.toNat (aA 0)).set (s*1) (aA 1))) .ret (bZ (fR c s M4 Er.length (Er.map aA)) [(4,(.p cX)),(5,(pI 6))])):FV Tp 83 [(.p (cupP c)),(pI (s:Int))] base (.tup [(.p cX),(pI 6)]) []:=have k1:=fk 2 (aLr c h0 (s:Int)) rfl;FV.frz (FMM.fi 0 gE func83 [k1.o,bF,F8.k 8 (gI c8 dd)] (gc F8.code (gc h4 (gc h3 (gc h2 (gc (cR h1) (gc k1 gn))))))) (by kernel_rfl)
end
def eL(c:KC.Cup)(s:Nat)(pl:Int)(free:List Int)(fo:Int):St:=⟨fr 66 [(3,(.ptr 0 0)),(6,(.ptr 1 0)),(8,(.ptr 3 0)),(9,(.ptr 4 0)),(10,(.ptr 5 0)),(28,(pI pl)),(29,(.ptr 1 0)),(30,(.ptr 1 0)),(31,(pI c.sk)),(32,(pB (decide (pl≤c.sk)))),(35,(.p (cupP c))),(36,(pI (s:Int))),(37,(.fn 175 [] [(.rp [(aA c.sk),(aA c.ra),(aA c.be),(aC c.pts),(aR c.done)] 0),(.rp [(aA (s:Int))] 0)]))],[some (.box 3 [(pI (s:Int))]),some (.box 98 [(pI c.sk),(pI c.ra),(pI c.be),(.p (aC c.pts)),(.p (aR c.done))]),some (.row 3 free.length (free.map aA)),some (.box 31 [(.own 2)]),some (.box 3 [(pI pl)]),some (.box 3 [(pI fo)])]⟩
section
variable{c:KC.Cup}(h0:pl≤c.sk)(hl1:aB Tp 0 aWn (eL c s pl free (-1)) .normal (eL c s pl free Cs))
include h0 hl1
theorem aWo(h2:Cs<0):aB Tp 0 uM (fR c s pl free.length (free.map aA)) .ret (bZ (fR c s pl free.length (free.map aA)) [(4,(.p cX)),(5,(pI 6))]):=aB.fi (gI [0,3,7,1,10,55] [0,1,2,3,4]) [bT,.c (.fn 175 [] [(.rp [(aA c.sk),(aA c.ra),(aA c.be),(aC c.pts),(aR c.done)] 0),(.rp [(aA (s:Int))] 0)]) [],hl1.k 1 (gI bu [0,1,2,3,4,5]),bT] (gc (bD h2) (gc hl1 (gt (FC Tp 121 [(.p (cupP c)),(pI (s:Int))] [] 6 (.fn 175 [] [(.rp [(aA c.sk),(aA c.ra),(aA c.be),(aC c.pts),(aR c.done)] 0),(.rp [(aA (s:Int))] 0)]) []) (aIt c s) (gc (uD h0) gn))))
theorem aWp{Az Kz:Int}{Gd:List Int}(h2:(0:Int)≤Cs)(h3:free[Cs.toNat]? = some Az)(h4:0≤Cs)(h5:(Cs.toNat*1)<(free.map aA).length)(h6:inR (pl+1))(Qi:Kz=(pl+1))(Je:Gd.length=free.length)(Jf:Gd.map aA=((free.map aA).set (Cs.toNat*1) (aA pl))):aB Tp 0 uM (fR c s pl free.length (free.map aA)) .normal (fR c s Kz Gd.length (Gd.map aA)):=by
 subst Qi;rw [Je,Jf];exact aB.fi (gI c8 [0,1,2,3,6]) [bT,.c (.fn 175 [] [(.rp [(aA c.sk),(aA c.ra),(aA c.be),(aC c.pts),(aR c.done)] 0),(.rp [(aA (s:Int))] 0)]) [],hl1.k 1 (gI bu [0,1,2,3,4,5]),bF] (gc h6 (gc h5 (gc (aZ (i:=Cs) h4 h3) (gc (aQ h2) (gc hl1 (gt (FC Tp 121 [(.p (cupP c)),(pI (s:Int))] [] 6 (.fn 175 [] [(.rp [(aA c.sk),(aA c.ra),(aA c.be),(aC c.pts),(aR c.done)] 0),(.rp [(aA (s:Int))] 0)]) []) (aIt c s) (gc (uD h0) gn)))))))
end
theorem aWq{c:KC.Cup}(h0:c.sk<pl):aB Tp 0 uM (fR c s pl free.length (free.map aA)) (.exit 0) (fR c s pl free.length (free.map aA)):=aB.fi (gI c8 [0,1,2,3,4]) [bF] (gc (jZ h0) gn)
section
variable(h0:fo<0)(h1:free[x]? = some Ao)
include h0 h1
theorem aWr{c:KC.Cup}{Rz:Int}(h2:Ao=0)(h3:jS c x pl s 1)(h4:(eG c x pl s 1)=false)(Qj:Rz=(x:Int)):aB Tp 6 aLp (rfS (eL c s pl free fo) 38 39 11 (aA (x:Int))) .normal (eL c s pl free Rz):=by
 subst Qj;have k1:=fk 6 (mF c x pl s 1 h3) rfl;exact aB.fi (gZ bu) ([bT,bT,bT,bT,.x (aA Ao)]++rT 7++[k1.o,bT,bT,bT]) (gc (cA h4) (Ap (cF h2) (gc k1 (B7 (cF h2) (Ap (bD h0) (gc (atm aA h1) (gc (bD h0) (gc (aZ (i:=(x:Int)) (jA _) h1) (Ap (bD h0) (g0 h0))))))))))
theorem aWs{c:KC.Cup}(h2:Ao=0)(h3:jS c x pl s 1)(h4:(eG c x pl s 1)=true):aB Tp 6 aLp (rfS (eL c s pl free fo) 38 39 11 (aA (x:Int))) .normal (eL c s pl free fo):=have k1:=fk 6 (mF c x pl s 1 h3) rfl;aB.fi (gZ bu) ([bT,bT,bT,bT,.x (aA Ao)]++rT 7++[k1.o,bT,bT,bF]) (gc (aH h4) (Ap (cF h2) (gc k1 (B7 (cF h2) (Ap (bD h0) (gc (atm aA h1) (gc (bD h0) (gc (aZ (i:=(x:Int)) (jA _) h1) (Ap (bD h0) (g0 h0))))))))))
theorem aWt{c:KC.Cup}(h2:Ao≠0):aB Tp 6 aLp (rfS (eL c s pl free fo) 38 39 11 (aA (x:Int))) .normal (eL c s pl free fo):=aB.fi (gZ bu) ([bT,bT,bT,bT,.x (aA Ao),bT,bT]++rF 7) (Ea (bK h2) (Ap (bD h0) (gc (atm aA h1) (gc (bD h0) (gc (aZ (i:=(x:Int)) (jA _) h1) (Ap (bD h0) (g0 h0)))))))
end
theorem aWu{c:KC.Cup}(h0:(0:Int)≤fo):aB Tp 6 aLp (rfS (eL c s pl free fo) 38 39 11 (aA (x:Int))) .normal (eL c s pl free fo):=aB.fi (gZ bu) (rF 6) (Ho (aQ h0) gn)
def tB(c:KC.Cup)(s:Nat)(pl:Int)(free:List Int)(fo:Int)(x:Nat):Int:=if fo<0 then (if free.getD x 0=0 then (if eG c x pl s 1 then fo else (x:Int)) else fo) else fo
def pU(c:KC.Cup)(s:Nat)(pl:Int)(free:List Int):Int:=(oth s c.sk.toNat).foldl (tB c s pl free) (-1)
theorem aPy{c:KC.Cup}{s:Nat}{pl:Int}{free:List Int}{m:Int}:∀ (l:List Nat) (fo:Int),(∀ x∈l,(x:Int)<m)→(fo = -1∨0≤fo∧fo<m)→(l.foldl (tB c s pl free) fo = -1∨0≤l.foldl (tB c s pl free) fo∧l.foldl (tB c s pl free) fo<m)
 | [],_,_,h=>h
 | x::l,fo,hx,h=>by
  rw [qR];refine aPy l _ (fun y hy=>hx y (B3 _ hy)) ?_
  have:=hx x (gO ..);unfold tB
  repeat' split
  all_goals omega
theorem bOt(c:KC.Cup)(s:Nat)(pl:Int)(free:List Int):pU c s pl free = -1∨0≤pU c s pl free∧pU c s pl free<c.sk:=aPy _ _ (fun x hx=>by have:=(bXe hx).1;omega) (.inl rfl)
def aEg(c:KC.Cup)(s:Nat):Nat→Int→List Int→Option (List Int)
 | 0,_,free=>some free
 | n+1,pl,free=>if pU c s pl free<0 then none else aEg c s n (pl+1) (free.set (pU c s pl free).toNat pl)
def bBa(c:KC.Cup)(s:Nat):Option (List Int):=aEg c s (c.sk.toNat-1) 2 ((List.replicate c.sk.toNat 0).set s 1)
theorem bBb(l:List Int):wC (l.map aA)=true:=aDm _ (fun _=>rfl) l
theorem bVu(l:Lqq):wC (l.map aC)=true:=aDm aC (fun l=>(by rw [nmP];exact bBb l:nmP (.sl l.length (l.map aA))=true)) l
theorem bVv(c:KC.Cup)(s:Nat)(pl:Int)(free:List Int)(fo:Int):nmM (eL c s pl free fo).m=true:=by
 show nmM [_,_,_,_,_,_]=true;simp [nmM,nmL,nmA,bBb,bVu,nmP]
theorem bGy(c:KC.Cup)(s:Nat)(pl:Int)(free:List Int)(hV:KC.Valid c)(hl:free.length=c.sk.toNat)(h:∀ x:Nat,(x:Int)<c.sk→x≠s→jS c x pl s 1) :
  aB Tp 0 aWn (eL c s pl free (-1)) .normal (eL c s pl free (pU c s pl free)):=by
 refine aB.rangeAcc (P:=Tp) (kb:=6) (gi:=37) (gf:=175) (p1:=38) (p2:=39) (d:=11) (body:=sub (cd Tryz.f83) [1,1,1,1,1,0,1,0,0,1,0,0,1,0,1,0,1]) (g:=cDf c s) (xs:=oth s c.sk.toNat) (fun x:Oth c s=>x.1) (eL c s pl free) (eL c s pl free 0).t
  (fun x => .int .i64 x.1) (fun x => .agg (iF c x.1)) (fun fo x=>tB c s pl free fo x.1) (-1) (fun _ _=>True) (fun ys=>ys.foldl (tB c s pl free) (-1))
  rfl (fun _=>rfl) rfl (aRl c hV s) He (fun _=>rfl) (fun fo=>bVv c s pl free fo) (fun _=>dJ _) (by kernel_rfl) (fun _=>rfl) trivial (fun _ _ _ _ _=>trivial) (fun i fo x hi hI => ?_) (fun ys=>by rw [List.foldl_map])
 ·have hb:=h x.1 x.2.1 x.2.2
  have hx:=x.2.1;have hg:free[x.1]? = some (free.getD x.1 0):=by
   rw [An (by omega),Bj,An (by omega)];rfl
  unfold tB
  by_cases h1:fo<0
  ·rw [if_pos h1]
   by_cases h2:free.getD x.1 0=0
   ·rw [if_pos h2]
    cases hm:eG c x.1 pl s 1 with
    | true=>exact aWs h1 hg h2 hb hm
    | false=>exact aWr h1 hg h2 hb hm rfl
   ·rw [if_neg h2];exact aWt h1 hg h2
  ·rw [if_neg h1];exact aWu (by omega)
theorem aIp(c:KC.Cup)(s:Nat)(hV:KC.Valid c)(hd:(c.done.length:Int)<c.ra)(hs:(s:Int)<c.sk):∀ (n:Nat) (pl:Int) (free:List Int),2≤pl→pl+n=c.sk+1→free.length=c.sk.toNat →
  (∃ f,aEg c s n pl free=some f∧aE Tp 0 uM (fR c s pl free.length (free.map aA)) (.exit 0) (fR c s (c.sk+1) f.length (f.map aA))) ∨
  (aEg c s n pl free=none∧∃ (Kz:Int) (f:List Int),aE Tp 0 uM (fR c s pl free.length (free.map aA)) .ret (bZ (fR c s Kz f.length (f.map aA)) [(4,.p cX),(5,.p (aA 6))]))
 | 0,pl,free,h1,h2,h3=>by
  refine .inl ⟨free,rfl,?_⟩;obtain rfl:pl=c.sk+1:=by omega
  exact .exit (aWq (by omega)) (by simp)
 | n+1,pl,free,h1,h2,h3=>by
  have Nr:=hV.sk1;have Ns:=hV.sk2;have hf:=bGy c s pl free hV h3 (fun x hx hxs=>⟨hV,hd,hx,hs,by omega,by omega,by omega⟩)
  unfold aEg
  by_cases hn:pU c s pl free<0
  ·rw [if_pos hn]
   exact .inr ⟨rfl,pl,free,.exit (aWo (by omega) hf hn) (by simp)⟩
  ·rw [if_neg hn]
   have hb:=bOt c s pl free;have hi:(pU c s pl free).toNat<free.length:=by omega
   have st:=aWp (Gd:=free.set (pU c s pl free).toNat pl) (by omega) hf (by omega) (An hi) (by omega) (by rw [Nat.mul_one,Bt];exact hi) (by show _∧_;omega) rfl (by simp) (by simp [List.map_set])
   rcases aIp c s hV hd hs n (pl+1) (free.set (pU c s pl free).toNat pl) (by omega) (by omega) (by simpa using h3) with ⟨f,e,h⟩ | ⟨e,Kz,f,h⟩
   ·exact .inl ⟨f,e,.step st h⟩
   ·exact .inr ⟨e,Kz,f,.step st h⟩
theorem bVw(c:KC.Cup)(s:Nat)(h:rK c (s:Int)=0){base:Nat}:FV Tp 83 [.p (cupP c),.p (aA (s:Int))] base (match bBa c s with | some f => .tup [.p (aC f),.p (aA 0)] | none => .tup [.p cX,.p (aA 6)]) []:=by
 obtain ⟨hV,Jo,hs,hra⟩:=aEh h;have h1:=hV.sk1;have h2:=hV.sk2;have hset:((List.replicate c.sk.toNat (aA 0)).set (s*1) (aA 1))=(((List.replicate c.sk.toNat 0).set s 1).map aA):=by simp [List.map_set]
 have hle:c.sk.toNat=((List.replicate c.sk.toNat 0).set s 1:List Int).length:=by simp
 have hss:(s*1)<(List.replicate c.sk.toNat (aA 0)).length:=by simp;omega
 unfold bBa
 rcases aIp c s hV (by omega) hs (c.sk.toNat-1) 2 ((List.replicate c.sk.toNat 0).set s 1) (by omega) (by omega) (by simp) with ⟨f,e,hL⟩ | ⟨e,Kz,f,hL⟩
 ·rw [e]
  rw [← hset,← hle] at hL
  exact bVs hV.small h (by omega) (by omega) hss hL
 ·rw [e]
  rw [← hset,← hle] at hL
  exact bVt hV.small h (by omega) (by omega) hss hL
end CU
end
section
namespace CU
open KC
theorem bGx{c:KC.Cup}(h0:KC.Small c)(h1:(KC.checkP c)=0)(h2:KC.Valid c){base:Nat}:FV Tp 39 [(.p (cupP c))] base (.tup [(.p (aC (KC.totalsM c))),(pI 0)]) []:=have k1:=fk 1 (gA c h0) rfl;have k2:=fk 2 (aIs c h2) rfl;FV.fi func39 [k1.o,bF,k2.o] (gc k2 (gc (cR h1) (gc k1 gn)))
theorem totals2_ok(c:KC.Cup)(hV:KC.Valid c){base:Nat}:FV Tp 39 [.p (cupP c)] base (.tup [.p (aC (KC.totalsM c)),.p (aA 0)]) []:=bGx hV.small ((KC.valid_iff c).2 hV) hV
theorem bOs{c:KC.Cup}{k:Int}(hV:KC.Valid c)(h1:0≤k)(h2:k<c.sk):iR c k=0:=by
 unfold iR;rw [if_neg (by simpa using (KC.valid_iff c).2 hV),within_iff.2 ⟨h1,by omega⟩]
 simp
end CU
end
section
theorem aZv(g:Int→List Int):∀ (l:List Int) (a:Lqq),l.foldl (fun a x=>a++[g x]) a=a++l.map g
 | [],a=>by simp
 | x::l,a=>by rw [qR,aZv g l];simp
theorem bMg{a:List Int}{k:Nat}(h:a[k]? = some 1):∃ j:Nat,fC (fun x=>decide ((1:Int)=x)) a=(j:Int)∧a[j]? = some 1:=by
 unfold fC;cases e:a.findIdx? (fun x=>decide ((1:Int)=x)) with
 | none =>
  have:=List.findIdx?_eq_none_iff.1 e 1 (Br h);simp at this
 | some j =>
  obtain ⟨h1,h2,_⟩:=List.findIdx?_eq_some_iff_getElem.1 e;refine ⟨j,rfl,?_⟩;rw [An h1];have:(1:Int)=a[j]:=by simpa using h2
  rw [← this]
abbrev aAk(n:Int)(l:Lqq):KC.Cup:=⟨n,1,1,Dt,l⟩
theorem bDr(n:Int)(a:List Int)(s:Nat):KC.totalM (aAk n [a]) s=aWl Dt a (a.getD s 0):=by
 have e:KC.countedL (aAk n [a]) s=[0]:=by
  unfold KC.countedL;show (List.take 1 (KC.isort (KC.ltC (KC.cntCmp (aAk n [a]) s)) [0])).mergeSort KC.leB=[0];have:KC.isort (KC.ltC (KC.cntCmp (aAk n [a]) s)) [0]=[0]:=by simp [KC.isort,KC.ins,KC.insPos]
  rw [this];exact List.mergeSort_singleton _
 unfold KC.totalM;rw [e];simp [KC.scoreAt,KC.scoreM,KC.worthM,aWl,bGv]
theorem aId{n:Int}(h:1≤n∧n≤12):KC.Valid (aAk n []):=⟨h.1,h.2,by show (1:Int)≤1;decide,by show (1:Int)≤20;decide,by show (1:Int)≤1;decide,by show (1:Int)≤1;decide,by show 1≤Dt.length;decide,by show Dt.length≤60;decide,by show ((0:Nat):Int)≤1;decide,fun r hr=>by simp at hr,by show ∀ x∈Dt,0≤x∧x≤1000;decide,fun r hr=>by simp at hr,by show KC.fallsB Dt=true;decide +kernel,rfl⟩
theorem aOw{n:Int}(h:1≤n∧n≤12){a:List Int}(hl:(a.length:Int)=n)(h0:∀ x∈a,0≤x∧x≤60)(hn:KC.NoClash a):KC.Valid (aAk n [a]) :=
 KC.valid_race (aId h) (by show ((0:Nat):Int)<1;decide) hl h0 hn
theorem aIe{n:Int}(h:1≤n∧n≤12){a:List Int}(hl:(a.length:Int)=n)(h0:∀ x∈a,0≤x∧x≤60)(hn:KC.NoClash a){base:Nat} :
  FV Tp 18 [(.p (.agg [aA n,aA 1,aA 1,.sl 8 [aA 30,aA 24,aA 19,aA 15,aA 12,aA 10,aA 8,aA 7],cX])),(.p (.sl 1 [aC a]))] base (.tup [.p (.agg [aA n,aA 1,aA 1,.sl 8 [aA 30,aA 24,aA 19,aA 15,aA 12,aA 10,aA 8,aA 7],.sl 1 [aC a]]),.p (aA 0)]) [] :=
 FV.argwk (A2:=[.p (CU.cupP (aAk n [])),.p (aR [a])]) (CU.after_ok (aAk n []) [a] (aId h) (by show 1≤20;decide) (aOw h hl h0 hn)) (by kernel_rfl)
theorem aDb{n:Int}(h:1≤n∧n≤12){a:List Int}(hl:(a.length:Int)=n)(h0:∀ x∈a,0≤x∧x≤60)(hn:KC.NoClash a){base:Nat} :
  FV Tp 39 [(.p (.agg [aA n,aA 1,aA 1,.sl 8 [aA 30,aA 24,aA 19,aA 15,aA 12,aA 10,aA 8,aA 7],.sl 1 [aC a]]))] base (.tup [.p (aC (KC.totalsM (aAk n [a]))),.p (aA 0)]) [] :=
 CU.totals2_ok (aAk n [a]) (aOw h hl h0 hn)
theorem aTz{n:Int}{a:List Int}{k:Nat}(hl:(a.length:Int)=n)(hk:k<a.length):(KC.totalsM (aAk n [a]))[k]? = some (aWl Dt a (a.getD k 0)):=by
 unfold KC.totalsM KC.totalsUp;rw [gF,bMb (by show k<n.toNat;omega)]
 exact congrArg some (bDr n a k)
theorem aZw{n:Int}{a:List Int}(hl:(a.length:Int)=n):(KC.totalsM (aAk n [a])).length=a.length:=by
 unfold KC.totalsM;rw [KC.totalsUp_length];show n.toNat=_;omega
theorem aOx{sk dc:Lqq}(hl:sk.length≤8):(∀ x∈prM 30 sk dc,0≤x∧x≤60)∧KC.NoClash (prM 30 sk dc):=by
 refine ⟨fun x hx => ?_,aWk (cB sk) (by omega)⟩
 have:=bVo (f:=fun s=>dO 30 [] (aW dc) (sB s) (sT s)) (cB sk) x hx
 omega
theorem vZ(sk dc:Lqq):(prM 30 sk dc).length=sk.length:=Bt ..
theorem bYn{sk dc:Lqq}{i:Nat}{s:List Int}(h:sk[i]? = some s):(prM 30 sk dc).getD i 0=prP (gU (fun s=>dO 30 [] (aW dc) (sB s) (sT s)) (aW sk) s):=by
 unfold prM;rw [Bj,gF,h];rfl
theorem bMh{wh:Int}{Am Aw:Lqq}{D6 Et:List Int}(hl:Am.length≤8)(hp:∀ k,k<Am.length→D6[k]? = some (aWl Dt (prM 30 Am Aw) ((prM 30 Am Aw).getD k 0))) :
  aE Tp 0 (sub (cd Tryz.f6) aj) (jK wh Am Aw D6 Et 0) (.exit 2) (jK wh Am Aw D6 Et (prM 30 Am Aw).length) :=
 aE.count (P:=Tp) (k:=0) (b:=(sub (cd Tryz.f6) aj)) (e := .exit 2) (R:=jK wh Am Aw D6 Et (prM 30 Am Aw).length) (prM 30 Am Aw).length (fun i=>jK wh Am Aw D6 Et i)
  (fun k hk=>by
   have hlen:=vZ Am Aw;have hx:(prM 30 Am Aw)[k]? = some (prM 30 Am Aw)[k]:=An hk;have hpk:=hp k (by omega)
   have hg:(prM 30 Am Aw).getD k 0=(prM 30 Am Aw)[k]:=by rw [Bj,hx];rfl
   rw [hg] at hpk
   have hin:inR (((k+1):Nat):Int):=aM (by omega)
   by_cases h0:(prM 30 Am Aw)[k]=0
   ·exact bDu (by omega) hx h0 hpk (by rw [h0];rfl) (by omega) hin rfl
   ·by_cases h1:(prM 30 Am Aw)[k]=1
    ·obtain ⟨j,e1,e2⟩:=bMg (h1 ▸ hx)
     have hj:=aY e2;have hpj:=hp j (by omega)
     have hgj:(prM 30 Am Aw).getD j 0=1:=by rw [Bj,e2];rfl
     rw [hgj] at hpj
     rw [h1] at hpk
     exact bDv (by omega) hx h0 h1 hpk (by omega) (by rw [e1];exact hpj) (by rw [e1];omega) rfl hin rfl
    ·exact bDw (by omega) hx h0 h1 hin rfl)
  (bDx (by omega)) (by simp)
theorem bYo(hA:∀ {base:Nat},FV Tp 40 [] base (.p (blP true)) [])(l1 l2:List Int)(wh mu:Int)(hw:0≤wh∧wh≤255)(hm:0≤mu∧mu≤255){base:Nat}:FV Tp 6 [.p (.sl l1.length (l1.map cT)),.p (.sl l2.length (l2.map cT)),.p (.v (.int .u8 wh)),.p (.v (.int .u8 mu))] base (.p (blP true)) []:=by
 have M:=aOy (ns:=8) (nd:=16) (l:=l1) (nx:=0) (st:=17) (by decide) (by decide) (by decide)
 rcases hmd:bMk 8 16 l1 0 17 with ⟨Am,Aw,m2,t3⟩
 rw [hmd] at M
 obtain ⟨hr,Sy,O2,_,_,_,hb,_,_⟩:=M;dsimp only at hr Sy O2 hb
 have hlen:=hr.len;have hn:1≤(Am.length:Int)∧(Am.length:Int)≤12:=by omega
 have S1:=aWi (Aw.length:Int) l2 0 17
 rcases Ey:qW (Aw.length:Int) l2 0 17 with ⟨o4,m5,t6⟩
 rw [Ey,aTw] at S1
 obtain ⟨P1,_,_⟩:=S1;dsimp only at P1
 have K1:=bGu P1;have e1:aW (aWj Aw o4)=aW Aw:=aGf hr.nd K1;have Nv:=aE.range (P:=Tp) (k:=0) (b:=(sub (cd Tryz.f6) bv)) (e := .exit 0) (fun i (a:Lqq)=>qU wh mu Am Aw o4 i a.length (a.flatten.map aA)) (fun a=>qU wh mu Am Aw o4 o4.length a.length (a.flatten.map aA)) (fun a x=>a++[Aw.getD x.toNat []]) (fun i a=>a.length=i) (by simp) o4 (a0:=[]) rfl
  (fun i x a hx hI=>by
   obtain ⟨g1,g2⟩:=bVm P1 hx;have hi:=aY hx;have n1:o4.length=Aw.length:=by rw [P1.length_eq,bVn]
   obtain ⟨y1,y2,y3,y4,y5,y6,hy⟩:=Bp (hr.ud _ (eE g2));have g3:Aw[x.toNat]? = some [y1,y2,y3,y4,y5,y6]:=by rw [An g2,hy]
   have g4:Aw.getD x.toNat []=[y1,y2,y3,y4,y5,y6]:=by rw [Bj,g3];rfl
   rw [g4];exact ⟨by simp [hI],bDs (by omega) hx g3 g1 hr.ud ⟨rfl,by omega⟩ (aM (by omega)) rfl (by simp) (by simp)⟩)
  (fun a hI=>bDt (by omega))
 rw [aZv,List.nil_append] at Nv
 have ht:0≤wh.tmod (Am.length:Int)∧wh.tmod (Am.length:Int)<(Am.length:Int):=⟨Int.tmod_nonneg _ hw.1,Int.tmod_lt_of_pos _ (by omega)⟩
 have hidx:(wh.tmod (Am.length:Int)).toNat<Am.length:=by omega
 have Lw:=eE hidx;obtain ⟨y9,Lx,hy⟩:=len2 (hr.us _ Lw);have hx:Am[(wh.tmod (Am.length:Int)).toNat]? = some [y9,Lx]:=by rw [An hidx,hy]
 rw [hy] at Lw
 have hbib:y9∈bC Am 0:=Bi.2 ⟨_,Lw,rfl⟩;have Fx:fQ 30 Am (Aw++[[999,0,0,y9,mu,0]]):=hr.more (by omega) rfl (jM.2 (by
   show (1≤(999:Int)∧(999:Int)≤9999)∧(0≤(0:Int)∧(0:Int)≤9)∧((0:Int)≤0∧(0:Int)≤10000)∧0≤mu∧mu≤kW 0;refine ⟨by omega,by omega,by omega,hm.1,?_⟩
   have:kW 0=36000:=by decide
   omega))
  (by
   show (if (0:Int)≤4 then (bC Am 0).contains y9 else _)=true
   rw [if_pos (by omega),List.contains_iff_mem]
   exact hbib)
  (by
   show (if (0:Int)≤4 then ((0:Int) == 0) else _)=true
   rw [if_pos (by omega)];rfl)
  (fun y hy=>by
   have:=hb y hy;show y.getD 0 0≠999;omega)
 have hrm:fQ 30 Am (aWj Aw o4):=hr.sub (List.Perm.refl _) (r:=[]) (by rw [List.append_nil];exact K1)
 have hD:dA (aW Aw):=aDs hr;have hss:=bGw hr;have eR:aW (Aw++[[999,0,0,y9,mu,0]])=aW Aw++[[999,0,0,y9,mu,0]]:=aWm Fx.nd (fun y hy=>by
  have:=hb y hy;show y.getD 0 0≤999;omega)
 have hpos:∀ y∈aW Aw,dAb [999,0,0,y9,mu,0]≠dN y:=fun y hy=>by
  have:=(jM.1 (hD.rng y hy)).1.1;show (0:Int)≠y.getD 0 0;omega
 have hxn:([999,0,0,y9,mu,0]:List Int)∉aW Aw:=fun h=>by
  have:=hb _ ((cB Aw).mem_iff.1 h);simp at this
 have hne:∀ j∈aW Am,j≠[y9,Lx]→dO 30 [] (aW Aw++[[999,0,0,y9,mu,0]]) (sB j) (sT j)=dO 30 [] (aW Aw) (sB j) (sT j):=fun j hj hjn=>by
  refine bVr hpos hxn (.inl rfl) fun e=>hjn ?_
  exact aKs hr.ns ((cB Am).mem_iff.1 hj) Lw e.symm
 have hns:(aW Am).Nodup:=by
  have:=zR hr.ns;unfold bC at this
  exact (List.pairwise_map.1 this).imp fun h e=>h (by rw [e])
 have hle:=bVq (f:=fun s=>dO 30 [] (aW Aw) (sB s) (sT s)) (g:=fun s=>dO 30 [] (aW Aw++[[999,0,0,y9,mu,0]]) (sB s) (sT s)) (cB Am) (by omega) hns ((cB Am).mem_iff.2 Lw) hne
  (bOp (x:=[999,0,0,y9,mu,0]) (b:=y9) (t:=Lx) hpos hxn rfl hm.1 rfl)
 rw [← eR] at hle
 obtain ⟨a1,a2⟩:=aOx (dc:=Aw) (show Am.length≤8 by omega)
 obtain ⟨b1,b2⟩:=aOx (dc:=Aw++[[999,0,0,y9,mu,0]]) (show Am.length≤8 by omega)
 have la:((prM 30 Am Aw).length:Int)=(Am.length:Int):=by rw [vZ]
 have lb:((prM 30 Am (Aw++[[999,0,0,y9,mu,0]])).length:Int)=(Am.length:Int):=by rw [vZ]
 have na:=vZ Am Aw;have nb:=vZ Am (Aw++[[999,0,0,y9,mu,0]]);have pa:=aTz la (k:=(wh.tmod (Am.length:Int)).toNat) (by omega)
 have pb:=aTz lb (k:=(wh.tmod (Am.length:Int)).toNat) (by omega)
 rw [bYn hx] at pa pb
 exact bYp (by omega) (by omega) (by omega) hmd hr.us (by omega) hr.ud (by omega) (by omega) (by omega) Ey Nv (by show _∧_;omega) (by omega) hx ht.1 (by show _∧_;omega) ⟨rfl,by omega⟩ hr (by omega) hss hrm (F4:=Aw++[[999,0,0,y9,mu,0]]) (by simp) (by simp) Fx (by omega)
  (decide_eq_true (by
   show prM 30 Am Aw=prM 30 Am (aWj Aw o4);unfold prM;rw [e1]))
  (aIe hn la a1 a2) (aIe hn lb b1 b2) (aDb hn la a1 a2) (aDb hn lb b1 b2) (by rw [aZw la]) (by rw [aZw lb,na,nb])
  (bMh (by omega) fun k hk=>aTz la (by omega)) pb pa hle hA
end
section
variable {Ac Az Aa Ab Ad Af Ae Ag Cd Di:Int}{a b:Lqq}{i i' Ar base:Nat}
namespace CU
open KC
noncomputable abbrev yU:Code:=sub (cd Tryz.f38) [1,1,0,1,0,0]
noncomputable abbrev yV:Code:=sub (cd Tryz.f23) [1,1,0,1,0,0]
noncomputable abbrev yW:Code:=sub (cd Tryz.f85) [1,1,0,1,0,0]
def eqi_S0(a b:List Int)(i:Nat):St:=⟨fr 26 [(0,(.p (aC a))),(1,(.p (aC b))),(12,(pI (a.length:Int))),(13,(pI (i:Int)))],[]⟩
theorem eqi_p0{a b:List Int}(h0:(a.length:Int)≠(b.length:Int)):FV Tp 38 [(.p (aC a)),(.p (aC b))] base (pB false) []:=FV.fi func38 [bT] (gc (gY h0) gn)
theorem eqi_p1{a b:List Int}(h0:(a.length:Int)=(b.length:Int))(hl1:aE Tp 0 yU (eqi_S0 a b 0) (.exit 0) (eqi_S0 a b Ar)):FV Tp 38 [(.p (aC a)),(.p (aC b))] base (pB true) []:=FV.fi func38 [bF,hl1.k 4 (gZ da)] (gc hl1.code (gc (cR h0) gn))
theorem eqi_p2{a b:List Int}(h0:(a.length:Int)=(b.length:Int))(hl1:aE Tp 0 yU (eqi_S0 a b 0) .ret (bZ (eqi_S0 a b Ar) [(4,(.kb false))])):FV Tp 38 [(.p (aC a)),(.p (aC b))] base (pB false) []:=FV.fi func38 [bF,hl1.k 4 (gZ da)] (gc hl1.code (gc (cR h0) gn))
section
variable{a b:List Int}(h0:(i:Int)<(a.length:Int))(h1:a[i]? = some Ac)(h2:b[i]? = some Az)
include h0 h1 h2
theorem eqi_L0_p0(h3:Ac≠Az):aB Tp 0 yU (eqi_S0 a b i) .ret (bZ (eqi_S0 a b i) [(4,(.kb false))]):=aB.fi (gZ co) [bT,.x (aA Ac),.x (aA Az),bT] (gc (gY h3) (gc (atm aA h2) (gc (ixn aA h2) (gc (atm aA h1) (gc (ixn aA h1) (g0 h0))))))
theorem eqi_L0_p1(h3:Ac=Az)(h4:di i)(Ai:i'=(i+1)):aB Tp 0 yU (eqi_S0 a b i) .normal (eqi_S0 a b i'):=by
 subst Ai;exact aB.fi (gZ da) [bT,.x (aA Ac),.x (aA Az),bF] (gc h4 (gc (cR h3) (gc (atm aA h2) (gc (ixn aA h2) (gc (atm aA h1) (gc (ixn aA h1) (g0 h0)))))))
end
theorem eqi_L0_p2{a b:List Int}(h0:(a.length:Int)≤(i:Int)):aB Tp 0 yU (eqi_S0 a b i) (.exit 0) (eqi_S0 a b i):=aB.fi (gZ da) [bF] (gc (aQ h0) gn)
def kK(a b:Lqq)(i:Nat):St:=⟨fr 26 [(0,(.p (fS a))),(1,(.p (fS b))),(12,(pI (a.length:Int))),(13,(pI (i:Int)))],[]⟩
theorem cEu(h0:(a.length:Int)≠(b.length:Int)):FV Tp 23 [(.p (fS a)),(.p (fS b))] base (pB false) []:=FV.fi func23 [bT] (gc (gY h0) gn)
theorem cEv(h0:(a.length:Int)=(b.length:Int))(hl1:aE Tp 0 yV (kK a b 0) (.exit 0) (kK a b Ar)):FV Tp 23 [(.p (fS a)),(.p (fS b))] base (pB true) []:=FV.fi func23 [bF,hl1.k 4 (gZ da)] (gc hl1.code (gc (cR h0) gn))
theorem cEw(h0:(a.length:Int)=(b.length:Int))(hl1:aE Tp 0 yV (kK a b 0) .ret (bZ (kK a b Ar) [(4,(.kb false))])):FV Tp 23 [(.p (fS a)),(.p (fS b))] base (pB false) []:=FV.fi func23 [bF,hl1.k 4 (gZ da)] (gc hl1.code (gc (cR h0) gn))
section
variable(h0:(i:Int)<(a.length:Int))(h1:a[i]? = some [Aa,Ab,Ad,Af])(h2:uni 4 a)(h3:b[i]? = some [Ae,Ag,Cd,Di])(h4:uni 4 b)(h5:fW [(aA Aa),(aA Ab),(aA Ad),(aA Af)] [(0,3,true),(1,3,true),(2,3,true),(3,3,true)]=true∧fW [(aA Ae),(aA Ag),(aA Cd),(aA Di)] [(0,3,true),(1,3,true),(2,3,true),(3,3,true)]=true)
include h0 h1 h2 h3 h4 h5
theorem bKd(h6:(xO [(aA Aa),(aA Ab),(aA Ad),(aA Af)] [(aA Ae),(aA Ag),(aA Cd),(aA Di)] [(0,3,true),(1,3,true),(2,3,true),(3,3,true)])=false):aB Tp 0 yV (kK a b i) .ret (bZ (kK a b i) [(4,(.kb false))]):=aB.fi (gZ co) [bT,.x (.agg [(aA Aa),(aA Ab),(aA Ad),(aA Af)]),.x (.agg [(aA Ae),(aA Ag),(aA Cd),(aA Di)]),bT] (gc (cA h6) (gc h5 (gfl h4 h3 (gfl h2 h1 (g0 h0)))))
theorem bKe(h6:(xO [(aA Aa),(aA Ab),(aA Ad),(aA Af)] [(aA Ae),(aA Ag),(aA Cd),(aA Di)] [(0,3,true),(1,3,true),(2,3,true),(3,3,true)])=true)(h7:di i)(Ai:i'=(i+1)):aB Tp 0 yV (kK a b i) .normal (kK a b i'):=by
 subst Ai;exact aB.fi (gZ da) [bT,.x (.agg [(aA Aa),(aA Ab),(aA Ad),(aA Af)]),.x (.agg [(aA Ae),(aA Ag),(aA Cd),(aA Di)]),bF] (gc h7 (gc (aH h6) (gc h5 (gfl h4 h3 (gfl h2 h1 (g0 h0))))))
end
theorem bKf(h0:(a.length:Int)≤(i:Int)):aB Tp 0 yV (kK a b i) (.exit 0) (kK a b i):=aB.fi (gZ da) [bF] (gc (aQ h0) gn)
def kL(a b:Lqq)(i:Nat):St:=⟨fr 26 [(0,(.p (fS a))),(1,(.p (fS b))),(12,(pI (a.length:Int))),(13,(pI (i:Int)))],[]⟩
theorem cEx(h0:(a.length:Int)≠(b.length:Int)):FV Tp 85 [(.p (fS a)),(.p (fS b))] base (pB false) []:=FV.fi func85 [bT] (gc (gY h0) gn)
theorem cEy(h0:(a.length:Int)=(b.length:Int))(hl1:aE Tp 0 yW (kL a b 0) (.exit 0) (kL a b Ar)):FV Tp 85 [(.p (fS a)),(.p (fS b))] base (pB true) []:=FV.fi func85 [bF,hl1.k 4 (gZ da)] (gc hl1.code (gc (cR h0) gn))
theorem cEz(h0:(a.length:Int)=(b.length:Int))(hl1:aE Tp 0 yW (kL a b 0) .ret (bZ (kL a b Ar) [(4,(.kb false))])):FV Tp 85 [(.p (fS a)),(.p (fS b))] base (pB false) []:=FV.fi func85 [bF,hl1.k 4 (gZ da)] (gc hl1.code (gc (cR h0) gn))
section
variable(h0:(i:Int)<(a.length:Int))(h1:a[i]? = some [Aa,Ab,Ad,Af])(h2:uni 4 a)(h3:b[i]? = some [Ae,Ag,Cd,Di])(h4:uni 4 b)(h5:fW [(aA Aa),(aA Ab),(aA Ad),(aA Af)] [(0,3,true),(1,3,true),(2,3,true),(3,3,true)]=true∧fW [(aA Ae),(aA Ag),(aA Cd),(aA Di)] [(0,3,true),(1,3,true),(2,3,true),(3,3,true)]=true)
include h0 h1 h2 h3 h4 h5
theorem bKg(h6:(xO [(aA Aa),(aA Ab),(aA Ad),(aA Af)] [(aA Ae),(aA Ag),(aA Cd),(aA Di)] [(0,3,true),(1,3,true),(2,3,true),(3,3,true)])=false):aB Tp 0 yW (kL a b i) .ret (bZ (kL a b i) [(4,(.kb false))]):=aB.fi (gZ co) [bT,.x (.agg [(aA Aa),(aA Ab),(aA Ad),(aA Af)]),.x (.agg [(aA Ae),(aA Ag),(aA Cd),(aA Di)]),bT] (gc (cA h6) (gc h5 (gfl h4 h3 (gfl h2 h1 (g0 h0)))))
theorem bKh(h6:(xO [(aA Aa),(aA Ab),(aA Ad),(aA Af)] [(aA Ae),(aA Ag),(aA Cd),(aA Di)] [(0,3,true),(1,3,true),(2,3,true),(3,3,true)])=true)(h7:di i)(Ai:i'=(i+1)):aB Tp 0 yW (kL a b i) .normal (kL a b i'):=by
 subst Ai;exact aB.fi (gZ da) [bT,.x (.agg [(aA Aa),(aA Ab),(aA Ad),(aA Af)]),.x (.agg [(aA Ae),(aA Ag),(aA Cd),(aA Di)]),bF] (gc h7 (gc (aH h6) (gc h5 (gfl h4 h3 (gfl h2 h1 (g0 h0))))))
end
theorem bKi(h0:(a.length:Int)≤(i:Int)):aB Tp 0 yW (kL a b i) (.exit 0) (kL a b i):=aB.fi (gZ da) [bF] (gc (aQ h0) gn)
theorem eqi_ok(a b:List Int)(ha:a.length≤100000){base:Nat}:FV Tp 38 [.p (aC a),.p (aC b)] base (pB (decide (a=b))) []:=by
 by_cases hl:a.length=b.length
 ·have at':∀ (l:List Int) (j:Nat),j<l.length→l[j]? = some (l.getD j 0):=fun l j hj=>by
   rw [An hj,Bj,An hj];rfl
  rcases aE.find (P:=Tp) (k:=0) (b:=yU) (fun i=>eqi_S0 a b i) (fun i _=>bZ (eqi_S0 a b i) [(4,.kb false)]) (eqi_S0 a b a.length) .ret (.exit 0) (by simp) (by simp) (fun j=>decide (a.getD j 0≠b.getD j 0)) (List.range a.length)
   (fun i x hx hp=>by
    obtain ⟨rfl,hi⟩:=jR hx;exact eqi_L0_p1 (by omega) (at' a x hi) (at' b x (by omega)) (by simpa using hp) (aM (by omega)) rfl)
   (fun i x hx hp=>by
    obtain ⟨rfl,hi⟩:=jR hx;exact eqi_L0_p0 (by omega) (at' a x hi) (at' b x (by omega)) (by simpa using hp))
   (by rw [aGa];exact eqi_L0_p2 (by omega)) with ⟨i,x,h1,h2,h3,h4⟩ | ⟨h1,h2,h3⟩
  ·have hne:a≠b:=fun e=>by subst e;simp at h3
   rw [decide_eq_false hne];exact eqi_p2 (by omega) h4
  ·have he:a=b:=by
    refine List.ext_getElem hl fun j h5 h6 => ?_
    have h7:=List.any_eq_false.1 h2 j (qT.2 h5);have h8:a.getD j 0=b.getD j 0:=by simpa using h7
    rw [Bj,Bj,An h5,An h6] at h8
    exact h8
   rw [decide_eq_true he];exact eqi_p1 (by omega) h3
 ·have hne:a≠b:=fun e=>hl (by rw [e])
  rw [decide_eq_false hne];exact eqi_p0 (by omega)
theorem bBo(y0 y1 y2 y3 z0 z1 z2 z3:Int):xO [aA y0,aA y1,aA y2,aA y3] [aA z0,aA z1,aA z2,aA z3] [(0,3,true),(1,3,true),(2,3,true),(3,3,true)]=decide ([y0,y1,y2,y3]=[z0,z1,z2,z3]):=by
 rw [Bool.eq_iff_iff];simp [xO,bDf,aA]
theorem cFa(a b:Lqq)(ha:a.length≤100000)(ua:uni 4 a)(ub:uni 4 b){base:Nat}:FV Tp 23 [.p (fS a),.p (fS b)] base (pB (decide (a=b))) []:=by
 by_cases hl:a.length=b.length
 ·have at':∀ (l:Lqq) (j:Nat),uni 4 l→j<l.length→∃ y0 y1 y2 y3,l[j]? = some [y0,y1,y2,y3]∧l.getD j []=[y0,y1,y2,y3]:=fun l j hu hj=>by
   have h:=hu l[j] (eE hj)
   match e:l[j],h with
   | [y0,y1,y2,y3],_=>exact ⟨y0,y1,y2,y3,by rw [An hj,e],by rw [Bj,An hj,e];rfl⟩
  rcases aE.find (P:=Tp) (k:=0) (b:=yV) (fun i=>kK a b i) (fun i _=>bZ (kK a b i) [(4,.kb false)]) (kK a b a.length) .ret (.exit 0) (by simp) (by simp) (fun j=>decide (a.getD j []≠b.getD j [])) (List.range a.length)
   (fun i x hx hp=>by
    obtain ⟨rfl,hi⟩:=jR hx;obtain ⟨y0,y1,y2,y3,e1,e2⟩:=at' a x ua hi
    obtain ⟨z0,z1,z2,z3,e3,e4⟩:=at' b x ub (by omega)
    rw [e2,e4] at hp
    exact bKe (by omega) e1 ua e3 ub ⟨rfl,rfl⟩ (by rw [bBo];simpa using hp) (aM (by omega)) rfl)
   (fun i x hx hp=>by
    obtain ⟨rfl,hi⟩:=jR hx;obtain ⟨y0,y1,y2,y3,e1,e2⟩:=at' a x ua hi
    obtain ⟨z0,z1,z2,z3,e3,e4⟩:=at' b x ub (by omega)
    rw [e2,e4] at hp
    exact bKd (by omega) e1 ua e3 ub ⟨rfl,rfl⟩ (by rw [bBo];exact decide_eq_false (of_decide_eq_true hp)))
   (by rw [aGa];exact bKf (by omega)) with ⟨i,x,h1,h2,h3,h4⟩ | ⟨h1,h2,h3⟩
  ·have hne:a≠b:=fun e=>by subst e;simp at h3
   rw [decide_eq_false hne];exact cEw (by omega) h4
  ·have he:a=b:=by
    refine List.ext_getElem hl fun j h5 h6 => ?_
    have h7:=List.any_eq_false.1 h2 j (qT.2 h5);have h8:a.getD j []=b.getD j []:=by simpa using h7
    rw [Bj,Bj,An h5,An h6] at h8
    exact h8
   rw [decide_eq_true he];exact cEv (by omega) h3
 ·have hne:a≠b:=fun e=>hl (by rw [e])
  rw [decide_eq_false hne];exact cEu (by omega)
theorem cFb(a b:Lqq)(ha:a.length≤100000)(ua:uni 4 a)(ub:uni 4 b){base:Nat}:FV Tp 85 [.p (fS a),.p (fS b)] base (pB (decide (a=b))) []:=by
 by_cases hl:a.length=b.length
 ·have at':∀ (l:Lqq) (j:Nat),uni 4 l→j<l.length→∃ y0 y1 y2 y3,l[j]? = some [y0,y1,y2,y3]∧l.getD j []=[y0,y1,y2,y3]:=fun l j hu hj=>by
   have h:=hu l[j] (eE hj)
   match e:l[j],h with
   | [y0,y1,y2,y3],_=>exact ⟨y0,y1,y2,y3,by rw [An hj,e],by rw [Bj,An hj,e];rfl⟩
  rcases aE.find (P:=Tp) (k:=0) (b:=yW) (fun i=>kL a b i) (fun i _=>bZ (kL a b i) [(4,.kb false)]) (kL a b a.length) .ret (.exit 0) (by simp) (by simp) (fun j=>decide (a.getD j []≠b.getD j [])) (List.range a.length)
   (fun i x hx hp=>by
    obtain ⟨rfl,hi⟩:=jR hx;obtain ⟨y0,y1,y2,y3,e1,e2⟩:=at' a x ua hi
    obtain ⟨z0,z1,z2,z3,e3,e4⟩:=at' b x ub (by omega)
    rw [e2,e4] at hp
    exact bKh (by omega) e1 ua e3 ub ⟨rfl,rfl⟩ (by rw [bBo];simpa using hp) (aM (by omega)) rfl)
   (fun i x hx hp=>by
    obtain ⟨rfl,hi⟩:=jR hx;obtain ⟨y0,y1,y2,y3,e1,e2⟩:=at' a x ua hi
    obtain ⟨z0,z1,z2,z3,e3,e4⟩:=at' b x ub (by omega)
    rw [e2,e4] at hp
    exact bKg (by omega) e1 ua e3 ub ⟨rfl,rfl⟩ (by rw [bBo];exact decide_eq_false (of_decide_eq_true hp)))
   (by rw [aGa];exact bKi (by omega)) with ⟨i,x,h1,h2,h3,h4⟩ | ⟨h1,h2,h3⟩
  ·have hne:a≠b:=fun e=>by subst e;simp at h3
   rw [decide_eq_false hne];exact cEz (by omega) h4
  ·have he:a=b:=by
    refine List.ext_getElem hl fun j h5 h6 => ?_
    have h7:=List.any_eq_false.1 h2 j (qT.2 h5);have h8:a.getD j []=b.getD j []:=by simpa using h7
    rw [Bj,Bj,An h5,An h6] at h8
    exact h8
   rw [decide_eq_true he];exact cEy (by omega) h3
 ·have hne:a≠b:=fun e=>hl (by rw [e])
  rw [decide_eq_false hne];exact cEx (by omega)
end CU
end
end KV
end Go.Proofs
section
namespace Go.Proofs
open Go.RowKit
namespace KV
open Tryz
variable {j Ao Ax:Int}{L M l:List Int}{i:Nat}
namespace CU
noncomputable abbrev aFi:Code:=sub (cd Tryz.f186) [1,0,0,1,0,0,1,0,0]
noncomputable abbrev aMv:Code:=sub (cd Tryz.f186) [1,0,0]
theorem cFc{x y r0:Int}(Ak:r0=(cmpI y x)){base:Nat}:FV Tp 147 [(pI x),(pI y)] base (pI r0) []:=by
 subst Ak;exact FV.fi func147 [.c (pI (cmpI y x)) []] (gc (fk 0 (cmp_ok y x) rfl) gn)
theorem bRb(x y:Int){base:Nat}:FV Tp 147 [.p (aA x),.p (aA y)] base (pI (KC.cmpDown x y)) []:=cFc (by unfold KC.cmpDown;rfl)
def rR(l:List Int)(i Ln:Nat)(Lc:List PV):St:=⟨fr 53 [(0,(.own 0)),(1,(pI 0)),(2,(pI (l.length:Int))),(3,(.fn 147 [] [])),(8,(pI (i:Int)))],[some (.row 3 Ln Lc)]⟩
theorem bRc{Ar:Nat}{L'1:List Int}(hl0:aE Tp 1 aMv (rR l 1 l.length (l.map aA)) (.exit 0) (rR l Ar L'1.length (L'1.map aA))):FMM Tp 186 [(.own 0),(pI 0),(pI (l.length:Int)),(.fn 147 [] [])] [some (.row 3 l.length (l.map aA))] (.tup []) [some (.row 3 L'1.length (L'1.map aA))]:=FMM.fi 1 gE func186 [hl0.k 3 (gZ dh)] (gc hl0.code (gt (inR 1) (by show _∧_;omega) gn))
def nS(l:List Int)(i:Nat)(j:Int)(Mn:Nat)(Mc:List PV):St:=⟨fr 53 [(0,(.own 0)),(1,(pI 0)),(2,(pI (l.length:Int))),(3,(.fn 147 [] [])),(8,(pI (i:Int))),(9,(pI j)),(12,(pI (i:Int))),(13,(pI (l.length:Int))),(14,(pB (decide ((i:Int)<(l.length:Int))))),(17,(pI (i:Int)))],[some (.row 3 Mn Mc)]⟩
theorem bKj{Dy:Int}{M'101:List Int}{i':Nat}{L':List Int}(h0:(i:Int)<(l.length:Int))(hl1:aE Tp 1 aFi (nS l i (i:Int) L.length (L.map aA)) (.exit 2) (nS l i Dy M'101.length (M'101.map aA)))(h2:di i)(Ai:i'=(i+1))(Cm:L'.length=M'101.length)(Cn:L'.map aA=(M'101.map aA)):aB Tp 1 aMv (rR l i L.length (L.map aA)) .normal (rR l i' L'.length (L'.map aA)):=by
 subst Ai;rw [Cm,Cn];exact aB.fi (gZ dh) [bT,hl1.k 5 (gZ cf)] (gc h2 (gc hl1.code (g0 h0)))
theorem aJh(h0:(l.length:Int)≤(i:Int)):aB Tp 1 aMv (rR l i L.length (L.map aA)) (.exit 0) (rR l i L.length (L.map aA)):=aB.fi (gZ dh) [bF] (gc (aQ h0) gn)
section
variable(h0:(0:Int)<j)(h1:M[j.toNat]? = some Ao)(h2:0≤j)(h3:inR (j-1))(h4:M[(j-1).toNat]? = some Ax)(h5:0≤(j-1))
include h0 h1 h2 h3 h4 h5
theorem bKk{j':Int}{M':List Int}(h6:(KC.cmpDown Ao Ax)<0)(h7:(j.toNat*1)<(M.map aA).length)(h8:0≤(j-1)∧(j-1)<(M.length:Int))(h9:((j-1).toNat*1)<((M.map aA).set (j.toNat*1) (aA Ax)).length)(C6:j'=(j-1))(Eo:M'.length=M.length)(Ep:M'.map aA=(((M.map aA).set (j.toNat*1) (aA Ax)).set ((j-1).toNat*1) (aA Ao))):aB Tp 1 aFi (nS l i j M.length (M.map aA)) .normal (nS l i j' M'.length (M'.map aA)):=by
 subst C6;have k1:=fk 1 (bRb Ao Ax) rfl;rw [Eo,Ep];exact aB.fi (gZ cf) (rT 5++[.x (aA Ao)]++rT 5++[.x (aA Ax),bT,k1.o,bT,bT,bT,.x (aA Ax),.x (aA Ao)]) (gc h3 (gc h9 (gc h8 (gc h7 (gc (aZ (i:=j) h2 h1) (gt ((M.map aA)[(j.toNat*1)]? = some (aA Ao)) (cE (i:=j.toNat) h1) (gc (aZ (i:=j) h2 h1) (gt ((M.map aA)[((j-1).toNat*1)]? = some (aA Ax)) (cE (i:=(j-1).toNat) h4) (gc (aZ (i:=(j-1)) h5 h4) (Ap h3 (gc (bD h6) (Ap (bD h0) (gc k1 (gc (bD h0) (gt ((M.map aA)[((j-1).toNat*1)]? = some (aA Ax)) (cE (i:=(j-1).toNat) h4) (gc (bD h0) (gc (aZ (i:=(j-1)) h5 h4) (gc (bD h0) (gc h3 (Aq (bD h0) (gt ((M.map aA)[(j.toNat*1)]? = some (aA Ao)) (cE (i:=j.toNat) h1) (gc (bD h0) (gc (aZ (i:=j) h2 h1) (Aq (bD h0) (g0 h0)))))))))))))))))))))))))
theorem bKl(h6:(0:Int)≤(KC.cmpDown Ao Ax)):aB Tp 1 aFi (nS l i j M.length (M.map aA)) (.exit 2) (nS l i j M.length (M.map aA)):=have k1:=fk 1 (bRb Ao Ax) rfl;aB.fi (gZ cf) (rT 5++[.x (aA Ao)]++rT 5++[.x (aA Ax),bT,k1.o,bT,bT,bF]) (gc (aQ h6) (Ap (bD h0) (gc k1 (gc (bD h0) (gt ((M.map aA)[((j-1).toNat*1)]? = some (aA Ax)) (cE (i:=(j-1).toNat) h4) (gc (bD h0) (gc (aZ (i:=(j-1)) h5 h4) (gc (bD h0) (gc h3 (Aq (bD h0) (gt ((M.map aA)[(j.toNat*1)]? = some (aA Ao)) (cE (i:=j.toNat) h1) (gc (bD h0) (gc (aZ (i:=j) h2 h1) (Aq (bD h0) (g0 h0)))))))))))))))
end
theorem bKm(h0:j≤0):aB Tp 1 aFi (nS l i j M.length (M.map aA)) (.exit 2) (nS l i j M.length (M.map aA)):=aB.fi (gZ cf) (rF 13) (Fy (aQ h0) (B7 (aQ h0) gn))
abbrev ltD:Int→Int→Bool:=KC.ltC KC.cmpDown
def cC(l:List Int):List Int:=KC.isort (KC.ltC KC.cmpDown) l
theorem cFd(l:List Int)(i:Nat)(A R:List Int)(x:Int)(hA:A.length<100000)(hi:i=A.length):∀ m,m≤A.length→(∀ t (h:t<A.length),m≤t→ltD x A[t]=true) →
  aE Tp 1 aFi (nS l i (m:Int) (KC.mv A x m R).length ((KC.mv A x m R).map aA)) (.exit 2) (nS l i (KC.insPos (ltD) x A:Int) (KC.ins (ltD) A x++R).length ((KC.ins (ltD) A x++R).map aA)):=by
 intro m
 induction m with
 | zero =>
  intro _ hlt;have e:=KC.insPos_eq (ltD) x A 0 (Nat.zero_le _) hlt (.inl rfl);rw [← KC.mv_ins,e];exact .exit (bKm (by simp)) (by simp)
 | succ m ih =>
  intro hm hlt;have hy:=An (show m<A.length by omega)
  generalize A[m]=y at hy
  have e1:((m+1:Nat):Int).toNat=m+1:=by omega
  have e2:(((m+1:Nat):Int)-1).toNat=m:=by omega
  have hl:=KC.mv_length A x (m+1) R hm;have g1:(KC.mv A x (m+1) R)[m+1]? = some x:=by rw [KC.mv_get A _ _ R hm];simp
  have g2:(KC.mv A x (m+1) R)[m]? = some y:=by rw [KC.mv_get A _ _ R hm,if_pos (by omega)];exact hy
  by_cases hc:KC.cmpDown x y<0
  ·have hsw:=KC.mv_swap A x (m+1) R hm (by omega) y (by simpa using hy)
   rw [Nat.add_sub_cancel] at hsw
   have K4:m+1<(KC.mv A x (m+1) R).length:=aY g1;refine .step (bKk (j:=((m+1:Nat):Int)) (j':=(m:Int)) (M':=KC.mv A x m R) (by omega) (by rw [e1];exact g1) (by omega) (by show _∧_;omega) (by rw [e2];exact g2) (by omega)  hc (by rw [e1,Bt];omega) ⟨by omega,by omega⟩ (by rw [e2,lP,Bt];omega) (by omega) (by rw [hl,KC.mv_length A x m R (by omega)]) (by rw [e1,e2,Nat.mul_one,Nat.mul_one,← List.map_set,← List.map_set,hsw])) (ih (by omega) (fun t ht h1 => ?_))
   by_cases h2:t=m
   ·subst h2
    have h3:=hy;rw [An ht,Option.some.injEq] at h3
    rw [h3];simpa [ltD,KC.ltC] using hc
   ·exact hlt t ht (by omega)
  ·have e:=KC.insPos_eq (ltD) x A (m+1) hm hlt (.inr ⟨y,by simpa using hy,by simpa [ltD,KC.ltC] using hc⟩)
   rw [← KC.mv_ins,e];exact .exit (bKl (by omega) (by rw [e1];exact g1) (by omega) (by show _∧_;omega) (by rw [e2];exact g2) (by omega)  (by omega)) (by simp)
theorem cFe(l:List Int)(hn:l.length<100000):FMM Tp 186 [.own 0,.p (aA 0),.p (aA (l.length:Int)),(.fn 147 [] [])] [some (.row 3 l.length (l.map aA))] (.tup []) [some (.row 3 ((KC.isort ltD l).length) ((KC.isort ltD l).map aA))]:=by
 have key:∀ d i,i+d=l.length→1≤i→aE Tp 1 aMv (rR l i (KC.isort (ltD) (l.take i)++l.drop i).length ((KC.isort (ltD) (l.take i)++l.drop i).map aA)) (.exit 0) (rR l l.length (KC.isort (ltD) l).length ((KC.isort (ltD) l).map aA)):=by
  intro d
  induction d with
  | zero =>
   intro i hi _;obtain rfl:i=l.length:=by omega
   rw [List.take_length,List.drop_length,List.append_nil];exact .exit (aJh (by omega)) (by simp)
  | succ d ih =>
   intro i hi h1;have hlt:i<l.length:=by omega
   have hAl:(KC.isort (ltD) (l.take i)).length=i:=by rw [KC.isort_length,kV];omega
   have hdr:l.drop i=l[i]::l.drop (i+1):=aFy hlt;have hin:=cFd l i (KC.isort (ltD) (l.take i)) (l.drop (i+1)) l[i] (by omega) hAl.symm i (by omega) (fun t ht h2=>by omega)
   have hmv:KC.mv (KC.isort (ltD) (l.take i)) l[i] i (l.drop (i+1))=KC.isort (ltD) (l.take i)++l.drop i:=by
    have:=KC.mv_end (KC.isort (ltD) (l.take i)) l[i] (l.drop (i+1));rw [hAl] at this;rw [this,hdr]
   have hsn:=KC.isort_snoc (ltD) l i hlt;rw [hmv,← hsn] at hin
   exact .step (bKj (by omega) hin (by show _∧_;omega) rfl rfl rfl) (ih (i+1) (by omega) (by omega))
 rcases Nat.eq_zero_or_pos l.length with h0 | hp
 ·have:l=[]:=sO h0
  subst this;exact bRc (aE.exit (aJh (l:=[]) (L:=[]) (i:=1) (by simp)) (by simp))
 ·have:=key (l.length-1) 1 (by omega) (by omega)
  have e1:KC.isort (ltD) (l.take 1)++l.drop 1=l:=by
   cases l with
   | nil=>simp at hp
   | cons x r=>simp [KC.isort,KC.ins,KC.insPos]
  rw [e1] at this
  exact bRc this
theorem bXp(l:List Int)(k:Int)(hk:k=(l.length:Nat))(hl:l.length≤1000)(h1:1≤l.length):FMM Tp 186 [.own 0,.p (aA 0),.p (aA k),.fn 147 [] []] [some (fA l)] (.tup []) [some (fA (cC l))]:=by
 subst hk;exact cFe l (by omega)
theorem bRd(z:Int):0≤IntKind.wrap .u64 z∧IntKind.wrap .u64 z≤18446744073709551615:=by
 unfold IntKind.wrap;simp only [IntKind.bits,IntKind.signed,Bool.false_and,Bool.false_eq_true,if_false];omega
theorem aYs(n:Int){base:Nat}:FV Tp 195 [.p (.v (.int .u64 (IntKind.wrap .u64 n)))] base (pI (Lib.bitLen (IntKind.wrap .u64 n).toNat)) [] :=
 FV.of_ret (fun _ _ => .v _) rfl fun C w us hus=>by
  obtain ⟨u,rfl,hu⟩:=qY hus;cases hu with
  | p _ _ h =>
   cases h;refine (Any.bits_Len (ρ:=Tryz.lays189_ren) { Tryz.lays189 with } _ w (bRd n).1 (bRd n).2).mono ?_
   rintro e w' ⟨rfl,rfl⟩;exact ⟨rfl,Below.refl _ _⟩
end CU
end KV
end Go.Proofs
end
namespace Go.Proofs
namespace KV
open Tryz
section
variable {y mo lim Ni Dp Nj Nk Jk Jl Hf C9 Ha Hg Gf Nl:Int}{o p r p' B2:Lqq}{l ns qs ts:List Int}{i j n i' j' J6:Nat}{mv:PV}
namespace CU
open KC
noncomputable abbrev aMt:Code:=pS (cd Tryz.f84) 7 [0,1,0,0]
noncomputable abbrev aFh:Code:=pS (cd Tryz.f84) 7 [0,1,0,0,1,1,0,0,1,0,1,0,0]
def aMu(l:List Int)(lim:Int)(dn:Nat)(dc:List PV):St:=⟨fr 148 [(0,(.own 0)),(1,(pI 0)),(2,(pI (l.length:Int))),(3,(pI lim)),(4,(.fn 147 [] [])),(10,(.kb true)),(11,(.kb true))],[some (.row 3 dn dc)]⟩
theorem cEh{Of:List Int}(hl0:aE Tp 1 (sub (cd Tryz.f194) [1,1,0,0]) (aMu l lim l.length (l.map aA)) .ret (aMu l lim Of.length (Of.map aA))):FMM Tp 194 [(.own 0),(pI 0),(pI (l.length:Int)),(pI lim),(.fn 147 [] [])] [some (.row 3 l.length (l.map aA))] (.tup []) [some (.row 3 Of.length (Of.map aA))]:=FMM.fi 1 gE func194 [hl0.k 5 (gZ [5,5,12,136])] (gc hl0.code gn)
theorem bJw{d d':List Int}(h0:inR ((l.length:Int)-0))(h1:((l.length:Int)-0)≤12)(h2:(l.length:Int)=(d.length:Nat))(h3:d.length≤1000)(h4:1≤d.length)(Qv:d'.length=(cC d).length)(Qw:d'.map aA=((cC d).map aA)):aB Tp 1 (sub (cd Tryz.f194) [1,1,0,0]) (aMu l lim d.length (d.map aA)) .ret (aMu l lim d'.length (d'.map aA)):=by
 have k1:=mq [0] 1 (bXp d (l.length:Int) h2 h3 h4);rw [Qv,Qw];exact aB.fi (gZ [5,5,12,136]) [bT,k1.o] (gc k1 (gc (uD h1) (gc h0 gn)))
theorem cEi(l:List Int)(lim:Int)(hl:l.length≤12)(h1:1≤l.length):FMM Tp 194 [.own 0,.p (aA 0),.p (aA (l.length:Nat)),.p (aA lim),.fn 147 [] []] [some (fA l)] (.tup []) [some (fA (cC l))] :=
 cEh (.exit (bJw (d:=l) (d':=cC l) (by show _∧_;omega) (by omega) rfl (by omega) h1 rfl rfl) (by simp))
theorem cEj(h0:l.length≤12)(h1:1≤l.length):FMM Tp 146 [(.own 0),(.fn 147 [] [])] [some (.row 3 l.length (l.map aA))] (.tup []) [some (.row 3 ((cC l).length) ((cC l).map aA))]:=have k1:=fk 1 (aYs (l.length:Int)) rfl;have k2:=mq [0] 1 (cEi l (Lib.bitLen ((IntKind.wrap .u64 (l.length:Int))).toNat:Int) h0 h1);FMM.fi 1 gE func146 [k1.o,k2.o] (gc k2 (gc k1 gn))
theorem cEk{c:KC.Cup}{o0:PV}{e1:Int}(h0:KC.Small c)(h1:(KC.checkP c)=0)(h2:(ns.length:Int)=c.sk)(h3:(within (qs.length:Int) 1 31)=true)(h4:small ns.length)(h5:(ns.all fun x=>within x 0 30)=true)(h6:(within mo 1 12)=true)(h7:small qs.length)(h8:(qs.all fun x=>within x 0 20)=true)(h9:qs.length≤1000)(A5:(KC.fallsB qs)=true)(Ej:aB Tp 0 (sub (cd Tryz.f84) [1,1,1]) ⟨fr 161 [(1,(.p (aC ns))),(2,(pI mo)),(3,(.p (aC qs))),(10,(.ptr 0 0))],[some (.box 98 [(pI c.sk),(pI c.ra),(pI c.be),(.p (aC c.pts)),(.p (aR c.done))])]⟩ .ret ⟨fr 161 [(8,(.p o0)),(9,(pI e1))],[]⟩){base:Nat}:FV Tp 84 [(.p (cupP c)),(.p (aC ns)),(pI mo),(.p (aC qs))] base (.tup [(.p o0),(pI e1)]) []:=have k1:=fk 1 (gA c h0) rfl;have k2:=fk 2 (bA (qs.length:Int) 1 31) rfl;have k3:=fk 2 (bQh ns h4) rfl;have k4:=fk 2 (bA mo 1 12) rfl;have k5:=fk 2 (bQj qs h7) rfl;have k6:=fk 2 (wZ qs h9) rfl;FV.fi func84 [k1.o,bF,bF,bF,bF,k2.o,bF,bF,bF,k3.o,bF,bF,k4.o,bF,bF,bF,bF,k5.o,bF,bF,bF,k6.o,bF,Ej.k 0 (gI [0,1,4,6,11,150] [1])] (gc Ej (gc (aH A5) (gc k6 (gc (aH h8) (Ap (aH h6) (gc k5 (Ap (aH h6) (Ap (aH h5) (gc k4 (Ap (aH h5) (gc k3 (gc (aH h3) (Ap (cR h2) (gc k2 (Aq (cR h2) (gc (cR h1) (gc k1 gn)))))))))))))))))
theorem cEl{c:KC.Cup}(h0:KC.Valid c):aB Tp 0 (sub (cd Tryz.f84) cz) ⟨fr 161 [(1,(.p (aC ns))),(2,(pI mo)),(3,(.p (aC qs))),(10,(.ptr 0 0)),(12,(.p mv))],[some (.box 98 [(pI c.sk),(pI c.ra),(pI c.be),(.p (aC c.pts)),(.p (aR c.done))])]⟩ .normal ⟨fr 161 [(1,(.p (aC ns))),(2,(pI mo)),(3,(.p (aC qs))),(12,(.p mv)),(63,(.p (aC (KC.totalsM c)))),(64,(pI ((KC.totalsM c).length:Int))),(65,(pI 0))],[]⟩:=have k1:=fk 1 (aIs c h0) rfl;aB.fi (gZ bw) [k1.o] (gc k1 gn)
theorem bQy:aB Tp 0 (sub (cd Tryz.f84) c9) ⟨fr 161 [(1,(.p (aC ns))),(2,(pI mo)),(3,(.p (aC qs))),(12,(.p mv)),(63,(.p (aC ts))),(64,(pI (ts.length:Int))),(65,(pI (i:Int)))],[]⟩ .normal ⟨fr 161 [(1,(.p (aC ns))),(2,(pI mo)),(3,(.p (aC qs))),(12,(.p mv)),(63,(.p (aC ts))),(64,(pI (ts.length:Int))),(65,(pI (i:Int))),(66,(pB (decide ((i:Int)<(ts.length:Int)))))],[]⟩:=aB.fi (gZ [0,1,4,8,13,50,67,94]) [] gn
theorem bXk(h0:(i:Int)<(ts.length:Int)):aB Tp 0 (sub (cd Tryz.f84) bz) ⟨fr 161 [(1,(.p (aC ns))),(2,(pI mo)),(3,(.p (aC qs))),(12,(.p mv)),(63,(.p (aC ts))),(64,(pI (ts.length:Int))),(65,(pI (i:Int))),(66,(pB (decide ((i:Int)<(ts.length:Int)))))],[]⟩ .normal ⟨fr 161 [(1,(.p (aC ns))),(2,(pI mo)),(3,(.p (aC qs))),(12,(.p mv)),(63,(.p (aC ts))),(64,(pI (ts.length:Int))),(65,(pI (i:Int)))],[]⟩:=aB.fi (gZ bw) [bT] (g0 h0)
theorem bXl(h0:(ts.length:Int)≤(i:Int)):aB Tp 0 (sub (cd Tryz.f84) bz) ⟨fr 161 [(1,(.p (aC ns))),(2,(pI mo)),(3,(.p (aC qs))),(12,(.p mv)),(63,(.p (aC ts))),(64,(pI (ts.length:Int))),(65,(pI (i:Int))),(66,(pB (decide ((i:Int)<(ts.length:Int)))))],[]⟩ (.exit 1) ⟨fr 161 [(1,(.p (aC ns))),(2,(pI mo)),(3,(.p (aC qs))),(12,(.p mv)),(63,(.p (aC ts))),(64,(pI (ts.length:Int))),(65,(pI (i:Int)))],[]⟩:=aB.fi (gZ bw) [bF] (gc (aQ h0) gn)
theorem cEm{x0:Int}(h0:ts[i]? = some x0):aB Tp 0 (sub (cd Tryz.f84) [1,1,1,1,0,1,0,0,1,1,0,0,0]) ⟨fr 161 [(1,(.p (aC ns))),(2,(pI mo)),(3,(.p (aC qs))),(12,(.p mv)),(63,(.p (aC ts))),(64,(pI (ts.length:Int))),(65,(pI (i:Int)))],[]⟩ .normal ⟨fr 161 [(1,(.p (aC ns))),(2,(pI mo)),(3,(.p (aC qs))),(12,(.p mv)),(13,(pI (i:Int))),(14,(pI x0)),(63,(.p (aC ts))),(64,(pI (ts.length:Int))),(65,(pI (i:Int)))],[]⟩:=aB.fi (gZ [0,1,4,8,15,48,66,95]) [.x (aA x0)] (gc (atm aA h0) (gc (ixn aA h0) gn))
theorem cEn{x:Int}(h0:di i):aB Tp 0 (sub (cd Tryz.f84) [1,1,1,1,0,1,0,0,1,1,1]) ⟨fr 161 [(1,(.p (aC ns))),(2,(pI mo)),(3,(.p (aC qs))),(12,(.p mv)),(13,(pI (i:Int))),(14,(pI x)),(63,(.p (aC ts))),(64,(pI (ts.length:Int))),(65,(pI (i:Int)))],[]⟩ .normal ⟨fr 161 [(1,(.p (aC ns))),(2,(pI mo)),(3,(.p (aC qs))),(12,(.p mv)),(63,(.p (aC ts))),(64,(pI (ts.length:Int))),(65,(pI (((i+1):Nat):Int)))],[]⟩:=aB.fi (gZ bw) [] (gc h0 gn)
theorem cEo:aB Tp 0 (sub (cd Tryz.f84) [1,1,1,1,1,0]) ⟨fr 161 [(1,(.p (aC ns))),(2,(pI mo)),(3,(.p (aC qs))),(12,(.p mv)),(63,(.p (aC ts))),(64,(pI (ts.length:Int))),(65,(pI (i:Int)))],[]⟩ .normal ⟨fr 161 [(1,(.p (aC ns))),(2,(pI mo)),(3,(.p (aC qs))),(12,(.p mv)),(15,(.p cX))],[]⟩:=aB.fi (gZ [0,1,4,8,13,2,16,145]) [] gn
theorem cEp:aB Tp 0 (sub (cd Tryz.f84) [1,1,1,1,1,1,0,0]) ⟨fr 161 [(1,(.p (aC ns))),(2,(pI mo)),(3,(.p (aC qs))),(12,(.p mv)),(15,(.p cX))],[]⟩ .normal ⟨fr 161 [(1,(.p (aC ns))),(2,(pI mo)),(3,(.p (aC qs))),(12,(.p mv)),(15,(.own 0)),(85,(pI 0))],[some (.row 163 0 [])]⟩:=aB.fi (gN b4 [0] [(15,163)]) [] gn
theorem bQz:aB Tp 0 (sub (cd Tryz.f84) bn) ⟨fr 161 [(1,(.p (aC ns))),(2,(pI mo)),(3,(.p (aC qs))),(12,(.p mv)),(15,(.own 0)),(85,(pI (n:Int)))],[some (.row 163 o.length (o.flatten.map aA))]⟩ .normal ⟨fr 161 [(1,(.p (aC ns))),(2,(pI mo)),(3,(.p (aC qs))),(12,(.p mv)),(15,(.own 0)),(85,(pI (n:Int))),(86,(pB (decide ((n:Int)<31))))],[some (.row 163 o.length (o.flatten.map aA))]⟩:=aB.fi (gI [0,1,4,8,13,2,16,69,87,74] [0]) [] gn
theorem bXm(h0:(n:Int)<31):aB Tp 0 (sub (cd Tryz.f84) bc) ⟨fr 161 [(1,(.p (aC ns))),(2,(pI mo)),(3,(.p (aC qs))),(12,(.p mv)),(15,(.own 0)),(85,(pI (n:Int))),(86,(pB (decide ((n:Int)<31))))],[some (.row 163 o.length (o.flatten.map aA))]⟩ .normal ⟨fr 161 [(1,(.p (aC ns))),(2,(pI mo)),(3,(.p (aC qs))),(12,(.p mv)),(15,(.own 0)),(85,(pI (n:Int)))],[some (.row 163 o.length (o.flatten.map aA))]⟩:=aB.fi (gI b4 [0]) [bT] (g0 h0)
theorem bXn(h0:(31:Int)≤(n:Int)):aB Tp 0 (sub (cd Tryz.f84) bc) ⟨fr 161 [(1,(.p (aC ns))),(2,(pI mo)),(3,(.p (aC qs))),(12,(.p mv)),(15,(.own 0)),(85,(pI (n:Int))),(86,(pB (decide ((n:Int)<31))))],[some (.row 163 o.length (o.flatten.map aA))]⟩ (.exit 3) ⟨fr 161 [(1,(.p (aC ns))),(2,(pI mo)),(3,(.p (aC qs))),(12,(.p mv)),(15,(.own 0)),(85,(pI (n:Int)))],[some (.row 163 o.length (o.flatten.map aA))]⟩:=aB.fi (gI b4 [0]) [bF] (gc (aQ h0) gn)
theorem bRa:aB Tp 0 (sub (cd Tryz.f84) [1,1,1,1,1,1,0,1,0,0,1,1,0,0,0]) ⟨fr 161 [(1,(.p (aC ns))),(2,(pI mo)),(3,(.p (aC qs))),(12,(.p mv)),(15,(.own 0)),(85,(pI (n:Int)))],[some (.row 163 o.length (o.flatten.map aA))]⟩ .normal ⟨fr 161 [(1,(.p (aC ns))),(2,(pI mo)),(3,(.p (aC qs))),(12,(.p mv)),(15,(.own 0)),(16,(pI (n:Int))),(85,(pI (n:Int)))],[some (.row 163 o.length (o.flatten.map aA))]⟩:=aB.fi (gI [0,1,4,8,13,2,17,68,86,75] [0]) [] gn
theorem bXo:aB Tp 0 (sub (cd Tryz.f84) an) ⟨fr 161 [(1,(.p (aC ns))),(2,(pI mo)),(3,(.p (aC qs))),(12,(.p mv)),(15,(.own 0)),(16,(pI (n:Int))),(17,(.p cX)),(85,(pI (n:Int)))],[some (.row 163 o.length (o.flatten.map aA))]⟩ (.exit 4) ⟨fr 161 [(1,(.p (aC ns))),(2,(pI mo)),(3,(.p (aC qs))),(12,(.p mv)),(15,(.own 0)),(85,(pI (n:Int)))],[some (.row 163 o.length (o.flatten.map aA))]⟩:=aB.fi (gI b4 [0]) [] gn
theorem cEq:aB Tp 0 (sub (cd Tryz.f84) an) ⟨fr 161 [(1,(.p (aC ns))),(2,(pI mo)),(3,(.p (aC qs))),(12,(.p mv)),(15,(.own 0)),(16,(pI (n:Int))),(17,(.own 1)),(85,(pI (n:Int)))],[some (.row 163 o.length (o.flatten.map aA)),some (.row 3 (l.length+1) ((aA y)::(l.map aA)))]⟩ .normal ⟨fr 161 [(1,(.p (aC ns))),(2,(pI mo)),(3,(.p (aC qs))),(12,(.p mv)),(15,(.own 0)),(16,(pI (n:Int))),(17,(.own 1)),(85,(pI (n:Int)))],[some (.row 163 o.length (o.flatten.map aA)),some (.row 3 (l.length+1) ((aA y)::(l.map aA)))]⟩:=aB.fi (gI [0,1,4,8,13,2,18,67,86,75] [0,1]) [] gn
theorem cEr{l0:List Int}{o0:Lqq}(h0:((y::l)).length≤12)(h1:1≤((y::l)).length)(h2:0≤(0:Int)∧(0:Int)≤(if mo<((cC (y::l)).length:Int) then mo else ((cC (y::l)).length:Int))∧(if mo<((cC (y::l)).length:Int) then mo else ((cC (y::l)).length:Int))≤((cC (y::l)).length:Int))(h3:((if mo<((cC (y::l)).length:Int) then mo else ((cC (y::l)).length:Int)).toNat)=l0.length)(h4:((((cC (y::l)).map aA).drop 0).take ((if mo<((cC (y::l)).length:Int) then mo else ((cC (y::l)).length:Int)).toNat*(((cC (y::l)).map aA).length / ((cC (y::l)).length))))=l0.map aA)(h5:small l0.length)(h6:∀ k,inR (l0.take k).sum)(h7:[(aA (n:Int)),(aA 1),(aA l0.sum),(aA 0)].length=1*4∧o.length+1≤1000000)(Qx:o0.length=(o.length+1))(Qy:o0.flatten.map aA=((o.flatten.map aA)++[(aA (n:Int)),(aA 1),(aA l0.sum),(aA 0)])):aB Tp 0 (sub (cd Tryz.f84) ao) ⟨fr 161 [(1,(.p (aC ns))),(2,(pI mo)),(3,(.p (aC qs))),(12,(.p mv)),(15,(.own 0)),(16,(pI (n:Int))),(17,(.own 1)),(85,(pI (n:Int)))],[some (.row 163 o.length (o.flatten.map aA)),some (.row 3 (l.length+1) ((aA y)::(l.map aA)))]⟩ .normal ⟨fr 161 [(1,(.p (aC ns))),(2,(pI mo)),(3,(.p (aC qs))),(12,(.p mv)),(15,(.own 0)),(85,(pI (n:Int)))],[some (.row 163 o0.length (o0.flatten.map aA))]⟩:=by
 have k1:=mq [1] 2 (cEj (l:=(y::l)) h0 h1);rw [Qx,Qy];exact aB.fi (gI b4 [3]) [k1.o,.c (pI l0.sum) []] (gc h7 (gt ([(aA (n:Int)),(aA 1),(aA l0.sum),(aA 0)].length=4) (by first | decide | simp) (gt (FC Tp 119 [(.arr 1 0 ((if mo<((cC (y::l)).length:Int) then mo else ((cC (y::l)).length:Int)).toNat))] [(1,(.row 3 ((cC (y::l)).length) ((cC (y::l)).map aA)))] 2 (pI l0.sum) []) (FV.view (A2:=[(.p (.sl ((if mo<((cC (y::l)).length:Int) then mo else ((cC (y::l)).length:Int)).toNat) ((((cC (y::l)).map aA).drop 0).take ((if mo<((cC (y::l)).length:Int) then mo else ((cC (y::l)).length:Int)).toNat*(((cC (y::l)).map aA).length / ((cC (y::l)).length))))))]) (by rw [show ((.sl ((if mo<((cC (y::l)).length:Int) then mo else ((cC (y::l)).length:Int)).toNat) ((((cC (y::l)).map aA).drop 0).take ((if mo<((cC (y::l)).length:Int) then mo else ((cC (y::l)).length:Int)).toNat*(((cC (y::l)).map aA).length / ((cC (y::l)).length))))):PV)=aC l0 from lQ h3 h4];exact (aXq l0 h5 h6)) (by kernel_rfl) (by kernel_rfl) (by kernel_rfl)) (gc h2 (gc k1 gn)))))
theorem cEs(h0:di n):aB Tp 0 (sub (cd Tryz.f84) [1,1,1,1,1,1,0,1,0,0,1,1,1]) ⟨fr 161 [(1,(.p (aC ns))),(2,(pI mo)),(3,(.p (aC qs))),(12,(.p mv)),(15,(.own 0)),(85,(pI (n:Int)))],[some (.row 163 o.length (o.flatten.map aA))]⟩ .normal ⟨fr 161 [(1,(.p (aC ns))),(2,(pI mo)),(3,(.p (aC qs))),(12,(.p mv)),(15,(.own 0)),(85,(pI (((n+1):Nat):Int)))],[some (.row 163 o.length (o.flatten.map aA))]⟩:=aB.fi (gI b4 [0]) [] (gc h0 gn)
def lJ(qs:List Int)(o:Lqq)(i pn:Nat)(pc:List PV):St:=⟨fr 161 [(3,(.p (aC qs))),(15,(.own 0)),(109,(pI (o.length:Int))),(110,(pI (i:Int)))],[some (.row 163 pn pc)]⟩
theorem cEt{Ar:Nat}{K7:Lqq}(hl0:aE Tp 0 aMt (lJ qs o 0 o.length (o.flatten.map aA)) (.exit 5) (lJ qs o Ar K7.length (K7.flatten.map aA)))(h1:uni 4 K7)(h2:K7.length<20):aB Tp 0 (sub (cd Tryz.f84) [1,1,1,1,1,1,1]) ⟨fr 161 [(3,(.p (aC qs))),(15,(.own 0))],[some (.row 163 o.length (o.flatten.map aA))]⟩ .ret ⟨fr 161 [(8,(.p (.sl ((isort (ltK 1) K7).length) ((isort (ltK 1) K7).flatten.map aA)))),(9,(pI 0))],[]⟩:=have k1:=mq [0] 1 (bWg K7 h1 h2);aB.fi ⟨(rng [(0,8),(10,151)]),[],[0],[]⟩ [hl0.k 4 (gI aq [0]),k1.o] (gc k1 (gc hl0.code gn))
def jW(qs:List Int)(o:Lqq)(i:Nat)(p:Lqq)(j rn:Nat)(rc:List PV):St:=⟨fr 161 [(3,(.p (aC qs))),(15,(.own 0)),(18,(pI (i:Int))),(109,(pI (o.length:Int))),(110,(pI (i:Int))),(111,(pB (decide ((i:Int)<(o.length:Int))))),(112,(pI (i:Int))),(113,(.own 0)),(114,(pI (p.length:Int))),(115,(pI (j:Int)))],[some (.row 163 rn rc)]⟩
section
variable(h0:(i:Int)<(o.length:Int))(hl1:aE Tp 0 aFh (jW qs o i p 0 p.length (p.flatten.map aA)) (.exit 7) (jW qs o i p J6 B2.length (B2.flatten.map aA)))(h2:B2[i]? = some [Ni,Dp,Nj,Nk])(h3:uni 4 B2)
include h0 hl1 h2 h3
theorem bJx{Jm:Int}(h4:Dp≤(qs.length:Int))(h5:inR (Dp-1))(h6:qs[(Dp-1).toNat]? = some Jm)(h7:0≤(Dp-1))(h8:((i*4)+3)<(B2.flatten.map aA).length)(h9:di i)(Ai:i'=(i+1))(Ic:p'.length=B2.length)(Ie:p'.flatten.map aA=((B2.flatten.map aA).set ((i*4)+3) (aA Jm))):aB Tp 0 aMt (lJ qs o i p.length (p.flatten.map aA)) .normal (lJ qs o i' p'.length (p'.flatten.map aA)):=by
 subst Ai;rw [Ic,Ie];exact aB.fi (gI aq [0]) [bT,hl1.k 8 (gI al [0]),.x (aA Dp),bT,.x (aA Dp),.x (aA Jm)] (gc h9 (gc h8 (gc (aZ (i:=(i:Int)) (jA _) h2) (gt ((qs.map aA)[((Dp-1).toNat*1)]? = some (aA Jm)) (cE (i:=(Dp-1).toNat) h6) (gc (gQ (g:=aA) h7 h6) (gc h5 (gt ((B2.flatten.map aA)[((i*4)+1)]? = some (aA Dp)) (dL (i:=i) (f:=1) h3 h2 rfl) (gc (aZ (i:=(i:Int)) (jA _) h2) (gc (uD h4) (gt ((B2.flatten.map aA)[((i*4)+1)]? = some (aA Dp)) (dL (i:=i) (f:=1) h3 h2 rfl) (gc (aZ (i:=(i:Int)) (jA _) h2) (gc hl1.code (g0 h0)))))))))))))
theorem bJy(h4:(qs.length:Int)<Dp)(h5:di i)(Ai:i'=(i+1))(Ic:p'.length=B2.length)(Ie:p'.flatten.map aA=(B2.flatten.map aA)):aB Tp 0 aMt (lJ qs o i p.length (p.flatten.map aA)) .normal (lJ qs o i' p'.length (p'.flatten.map aA)):=by
 subst Ai;rw [Ic,Ie];exact aB.fi (gI aq [0]) [bT,hl1.k 8 (gI al [0]),.x (aA Dp),bF] (gc h5 (gc (jZ h4) (gt ((B2.flatten.map aA)[((i*4)+1)]? = some (aA Dp)) (dL (i:=i) (f:=1) h3 h2 rfl) (gc (aZ (i:=(i:Int)) (jA _) h2) (gc hl1.code (g0 h0))))))
end
theorem bJz(h0:(o.length:Int)≤(i:Int)):aB Tp 0 aMt (lJ qs o i p.length (p.flatten.map aA)) (.exit 5) (lJ qs o i p.length (p.flatten.map aA)):=aB.fi (gI aq [0]) [bF] (gc (aQ h0) gn)
section
variable(h0:(j:Int)<(p.length:Int))(h1:r[j]? = some [Jk,Jl,Hf,C9])(h2:uni 4 r)(h3:r[i]? = some [Ha,Hg,Gf,Nl])
include h0 h1 h2 h3
theorem bKa{r':Lqq}(h4:Gf<Hf)(h5:inR (Hg+1))(h6:((i*4)+1)<(r.flatten.map aA).length)(h7:di j)(C6:j'=(j+1))(Qz:r'.length=r.length)(Q0:r'.flatten.map aA=((r.flatten.map aA).set ((i*4)+1) (aA (Hg+1)))):aB Tp 0 aFh (jW qs o i p j r.length (r.flatten.map aA)) .normal (jW qs o i p j' r'.length (r'.flatten.map aA)):=by
 subst C6;rw [Qz,Q0];exact aB.fi (gI al [0]) [bT,.x (.agg [(aA Jk),(aA Jl),(aA Hf),(aA C9)]),.x (aA Gf),bT,.x (aA Hg)] (gc h7 (gc h6 (gc (aZ (i:=(i:Int)) (jA _) h3) (gc h5 (gt ((r.flatten.map aA)[((i*4)+1)]? = some (aA Hg)) (dL (i:=i) (f:=1) h2 h3 rfl) (gc (aZ (i:=(i:Int)) (jA _) h3) (gc (bD h4) (gt ((r.flatten.map aA)[((i*4)+2)]? = some (aA Gf)) (dL (i:=i) (f:=2) h2 h3 rfl) (gc (aZ (i:=(i:Int)) (jA _) h3) (gc (cD (i:=j) h2 h1) (gc (cW (i:=j) h2 h1) (gc (aZ (i:=(j:Int)) (jA _) h1) (g0 h0)))))))))))))
theorem bKb(h4:Hf≤Gf)(h5:di j)(C6:j'=(j+1)):aB Tp 0 aFh (jW qs o i p j r.length (r.flatten.map aA)) .normal (jW qs o i p j' r.length (r.flatten.map aA)):=by
 subst C6;exact aB.fi (gI al [0]) [bT,.x (.agg [(aA Jk),(aA Jl),(aA Hf),(aA C9)]),.x (aA Gf),bF] (gc h5 (gc (aQ h4) (gt ((r.flatten.map aA)[((i*4)+2)]? = some (aA Gf)) (dL (i:=i) (f:=2) h2 h3 rfl) (gc (aZ (i:=(i:Int)) (jA _) h3) (gc (cD (i:=j) h2 h1) (gc (cW (i:=j) h2 h1) (gc (aZ (i:=(j:Int)) (jA _) h1) (g0 h0))))))))
end
theorem bKc(h0:(p.length:Int)≤(j:Int)):aB Tp 0 aFh (jW qs o i p j r.length (r.flatten.map aA)) (.exit 7) (jW qs o i p j r.length (r.flatten.map aA)):=aB.fi (gI al [0]) [bF] (gc (aQ h0) gn)
end CU
end
section
namespace CU
open Go.Maps Go.MapKept
open Go.ChangeMaps (setBlock)

structure Ent where
 k:Int
 l:List Int
 b:Nat
 cap:Nat
 arr:Array Value

def Ent.val(e:Ent):Value := .slice (some ⟨e.b,0,none⟩) e.l.length e.cap
def Ent.blk(e:Ent):Nat × Obj:=(e.b,.cells e.arr 3 (0,0))
structure Ent.OK (e:Ent):Prop where
 key:(Lit.int .i64 e.k).wf=true
 sz:e.arr.size=e.cap
 le:e.l.length≤e.cap
 cap:e.cap≤maxLen
 at_:e.arr.toList.take e.l.length=e.l.map (Value.int .i64)

structure MapOK (mb:Nat) (es:Array MapEntry) (L:List Ent):Prop where
 e1:∀ x∈es.toList,∃ e∈L,x.key = .int .i64 e.k∧x.val=e.val
 e2:∀ e∈L,∃ x∈es.toList,x.key = .int .i64 e.k∧x.val=e.val
 nd:es.toList.Pairwise (fun x y=>x.key≠y.key)
 ok:∀ e∈L,e.OK
 keys:(L.map (·.k)).Nodup
 blks:(mb::L.map (·.b)).Nodup

theorem MapOK.nil(mb:Nat):MapOK mb #[] []:=⟨fun x h=>by simp at h,fun e h=>by simp at h,by simp,fun e h=>by simp at h,by simp,by simp⟩

def lookE(L:List Ent)(k:Int):Option Ent:=L.find? fun e=>e.k == k
def lookV(L:List Ent)(k:Int):Value:=match lookE L k with
 | some e=>e.val
 | none => .slice none 0 0

theorem lookE_some{L:List Ent}{k:Int}{e:Ent}(h:lookE L k=some e):e∈L∧e.k=k:=⟨aAh h,by simpa using bDo h⟩
theorem lookE_none{L:List Ent}{k:Int}(h:lookE L k=none):∀ e∈L,e.k≠k:=fun e he hk=>by
 have:=aCx.1 h e he;simp [hk] at this
theorem lookE_mem{L:List Ent}{k:Int}{e:Ent}(hn:(L.map (·.k)).Nodup)(he:e∈L)(hk:e.k=k):lookE L k=some e:=by
 cases h:lookE L k with
 | none=>exact absurd hk (lookE_none h e he)
 | some e' =>
  obtain ⟨h1,h2⟩:=lookE_some h;have:∀ (l:List Ent),(l.map (·.k)).Nodup→e∈l→e'∈l→e=e':=by
   intro l
   induction l with
   | nil=>intro _ h;simp at h
   | cons x r ih =>
    intro hn h3 h4;rw [iK,List.nodup_cons] at hn
    rcases eO.1 h3 with e1 | h5
    ·rcases eO.1 h4 with e2 | h6
     ·rw [e1,e2]
     ·exact absurd (Bi.2 ⟨e',h6,by rw [h2,← hk,e1]⟩) hn.1
    ·rcases eO.1 h4 with e2 | h6
     ·exact absurd (Bi.2 ⟨e,h5,by rw [hk,← h2,e2]⟩) hn.1
     ·exact ih hn.2 h5 h6
  rw [this L hn he h1]

section
variable {P:Program} {w:World} {t kt et:TypeId} {mb:Nat} {es:Array MapEntry} {cl:Nat} {L:List Ent}

theorem keyInt(hkt:P.underlying kt=some (.int .i64)){k:Int}(hk:(Lit.int .i64 k).wf=true):keyOf P kt (.int .i64 k)=some (.int .i64 k):=keyOf_int_mk hkt hk

theorem look_run(ht:P.underlying t=some (.map kt et))(hkt:P.underlying kt=some (.int .i64))(hz:(zeroValue et).run P w = .ok (.slice none 0 0) w)(hb:w.heap[mb]? = some (.map es cl))(hM:MapOK mb es L){k:Int}(hk:(Lit.int .i64 k).wf=true) :
  (Instr.lookup t (.map (some mb)) (.int .i64 k) false).run P w = .ok (lookV L k) w:=by
 have K:=int_keyed hkt;have hkey:=keyInt hkt hk;have hes:∀ e∈es.toList,∃ l,keyOf P kt e.key=some l:=fun x hx=>by
  obtain ⟨e,he,h1,_⟩:=hM.e1 x hx;exact ⟨_,by rw [h1];exact keyInt hkt (hM.ok e he).key⟩
 rcases K.find w hkey es.toList hes with ⟨h1,h2⟩ | ⟨j,e0,h1,h2,h3⟩
 ·have:lookE L k=none:=by
   rw [lookE,aCx];intro e he;obtain ⟨x,hx,h4,_⟩:=hM.e2 e he;have:=h2 x hx;rw [h4] at this
   intro Ez;exact this (by rw [eq_of_beq Ez])
  unfold lookV;rw [this];simp [Instr.lookup,run_underlying ht,MapKept.run_getObj_map hb,K.check w _ hkey,h1,hz,Result.andThen]
 ·obtain ⟨e,he,h4,h5⟩:=hM.e1 e0 (Br h2)
  rw [h3] at h4
  have Ez:e.k=k:=by injection h4 with _ h;exact h.symm
  unfold lookV;rw [lookE_mem hM.keys he Ez];simp [Instr.lookup,run_underlying ht,MapKept.run_getObj_map hb,K.check w _ hkey,h1,Result.andThen,h5]

def putE(L:List Ent)(e:Ent):List Ent:=L.filter (fun x=>x.k != e.k)++[e]
theorem mem_putE{L:List Ent}{e x:Ent}:x∈putE L e↔(x∈L∧x.k≠e.k)∨x=e:=by simp [putE]

theorem put_run(ht:P.underlying t=some (.map kt et))(hkt:P.underlying kt=some (.int .i64))(hb:w.heap[mb]? = some (.map es cl))(hM:MapOK mb es L)(e:Ent)(he:e.OK)
  (hblk:e.b≠mb∧∀ x∈L,x.k≠e.k→x.b≠e.b) :
  ∃ Bn B5,(Instr.mapUpdate t (.map (some mb)) (.int .i64 e.k) e.val).run P w = .ok () (setBlock w mb (.map Bn B5))∧MapOK mb Bn (putE L e):=by
 have K:=int_keyed hkt;have hkey:=keyInt hkt he.key;have hes:∀ e∈es.toList,∃ l,keyOf P kt e.key=some l:=fun x hx=>by
  obtain ⟨e,he,h1,_⟩:=hM.e1 x hx;exact ⟨_,by rw [h1];exact keyInt hkt (hM.ok e he).key⟩
 have hok:∀ x∈putE L e,x.OK:=fun x hx=>by
  rcases mem_putE.1 hx with ⟨h1,_⟩ | rfl
  ·exact hM.ok x h1
  ·exact he
 have hkeys:((putE L e).map (·.k)).Nodup:=by
  unfold putE;rw [jJ,List.nodup_append];refine ⟨?_,by simp,?_⟩
  ·exact (List.Sublist.map _ (List.filter_sublist)).nodup hM.keys
  ·intro x hx y hy
   obtain ⟨z,hz,rfl⟩:=Bi.1 hx;simp at hy
   subst hy;have:=(sP.1 hz).2;simpa using this
 have hblks:(mb::(putE L e).map (·.b)).Nodup:=by
  have h0:=List.nodup_cons.1 hM.blks;refine List.nodup_cons.2 ⟨?_,?_⟩
  ·intro hin
   obtain ⟨x,hx,hxb⟩:=Bi.1 hin
   rcases mem_putE.1 hx with ⟨h1,_⟩ | rfl
   ·exact h0.1 (Bi.2 ⟨x,h1,hxb⟩)
   ·exact hblk.1 hxb
  ·unfold putE
   rw [jJ,List.nodup_append];refine ⟨(List.Sublist.map _ (List.filter_sublist)).nodup h0.2,by simp,?_⟩
   intro x hx y hy;obtain ⟨z,hz,rfl⟩:=Bi.1 hx;simp at hy
   subst hy;obtain ⟨h1,h2⟩:=sP.1 hz;exact hblk.2 z h1 (by simpa using h2)
 rcases K.find w hkey es.toList hes with ⟨h1,h2⟩ | ⟨j,e0,h1,h2,h3⟩
 ·refine ⟨es.push ⟨.int .i64 e.k,e.val,cl⟩,cl+1,?_,⟨fun x hx => ?_,fun x hx => ?_,?_,hok,hkeys,hblks⟩⟩
  ·simp [Instr.mapUpdate,run_underlying ht,MapKept.run_getObj_map hb,K.check w false hkey,h1,MapKept.run_setObj_map _ hb,Result.andThen,setBlock]
  ·simp only [Array.toList_push,dY,List.mem_singleton] at hx
   rcases hx with hx | rfl
   ·obtain ⟨y,hy,q1,q2⟩:=hM.e1 x hx
    refine ⟨y,mem_putE.2 (.inl ⟨hy,fun hk=>h2 x hx (by rw [q1,hk])⟩),q1,q2⟩
   ·exact ⟨e,mem_putE.2 (.inr rfl),rfl,rfl⟩
  ·rcases mem_putE.1 hx with ⟨q1,_⟩ | rfl
   ·obtain ⟨y,hy,q2⟩:=hM.e2 x q1
    exact ⟨y,by simp [hy],q2⟩
   ·exact ⟨⟨.int .i64 x.k,x.val,cl⟩,by simp,rfl,rfl⟩
  ·rw [Array.toList_push,List.pairwise_append]
   exact ⟨hM.nd,by simp,fun x hx y hy=>by simp at hy;subst hy;exact h2 x hx⟩
 ·have hj:es[j]? = some e0:=by simpa using h2
  have hlist:(es.modify j (fun e'=>{ e' with key := .int .i64 e.k,val:=e.val })).toList=es.toList.set j { e0 with key := .int .i64 e.k,val:=e.val }:=by
   rw [Array.toList_modify,Go.ChangeMaps.modify_eq_set _ _ _ _ h2]
  have hjl:j<es.toList.length:=(Bg.1 h2).1;have hother:∀ i x,es.toList[i]? = some x→i≠j→x.key ≠ .int .i64 e.k:=fun i x hi hij=>by
   rw [← h3];obtain ⟨Gl,rfl⟩:=Bg.1 hi;obtain ⟨My,hje⟩:=Bg.1 h2;have:=List.pairwise_iff_getElem.1 hM.nd
   rcases Nat.lt_or_ge i j with h | h
   ·rw [← hje];exact this i j Gl My h
   ·rw [← hje];exact (this j i My Gl (by omega)).symm
  have who:∀ x∈es.toList.set j { e0 with key := .int .i64 e.k,val:=e.val },x={ e0 with key := .int .i64 e.k,val:=e.val }∨(x∈es.toList∧x.key ≠ .int .i64 e.k):=fun x hx=>by
   obtain ⟨i,hi,ex⟩:=List.getElem_of_mem hx;rw [oG] at ex
   split at ex
   ·exact .inl ex.symm
   ·rename_i hne
    have Bs:i<es.toList.length:=by simpa using hi
    exact .inr ⟨ex ▸ eE Bs,hother i x (by rw [An Bs,ex]) (fun e=>hne e.symm)⟩
  refine ⟨es.modify j (fun e'=>{ e' with key := .int .i64 e.k,val:=e.val }),cl,?_,⟨fun x hx => ?_,fun x hx => ?_,?_,hok,hkeys,hblks⟩⟩
  ·simp [Instr.mapUpdate,run_underlying ht,MapKept.run_getObj_map hb,K.check w false hkey,h1,hj,h3,K.stays w hkey,MapKept.run_setObj_map _ hb,Result.andThen,setBlock]
  ·rw [hlist] at hx
   rcases who x hx with rfl | ⟨q1,q2⟩
   ·exact ⟨e,mem_putE.2 (.inr rfl),rfl,rfl⟩
   ·obtain ⟨y,hy,r1,r2⟩:=hM.e1 x q1
    exact ⟨y,mem_putE.2 (.inl ⟨hy,fun hk=>q2 (by rw [r1,hk])⟩),r1,r2⟩
  ·rw [hlist]
   rcases mem_putE.1 hx with ⟨q1,q2⟩ | rfl
   ·obtain ⟨y,hy,r1,r2⟩:=hM.e2 x q1
    obtain ⟨i,hi,rfl⟩:=List.getElem_of_mem hy;have hij:i≠j:=fun hij=>by
     subst hij;rw [An hi] at h2;cases h2
     rw [h3] at r1;injection r1 with _ r1;exact q2 r1.symm
    exact ⟨es.toList[i],List.mem_iff_getElem.2 ⟨i,by simpa using hi,by rw [oG,if_neg (Ne.symm hij)]⟩,r1,r2⟩
   ·exact ⟨_,List.mem_iff_getElem.2 ⟨j,by simpa using hjl,by rw [oG,if_pos rfl]⟩,rfl,rfl⟩
  ·rw [hlist,List.pairwise_iff_getElem]
   intro i1 i2 Gl E5 hlt;simp only [lP] at Gl E5
   have h0:=List.pairwise_iff_getElem.1 hM.nd i1 i2 Gl E5 hlt;rw [oG,oG]
   split
   ·rename_i e1
    rw [if_neg (by omega)]
    exact (hother i2 _ (An E5) (by omega)).symm
   ·split
    ·exact hother i1 _ (An Gl) (by omega)
    ·exact h0

theorem Ent.owns{e:Ent}(he:e.OK)(h:w.heap[e.b]? = some (.cells e.arr 3 (0,0))):w.ownsRow 0 3 1 e.val e.l.length (e.l.map (Value.int .i64)) :=
 ⟨by simp,.inr ⟨e.b,e.cap,e.arr,rfl,Nat.zero_le _,h,he.le,he.cap,by rw [he.sz,Nat.mul_one],by rw [Nat.mul_one];exact he.at_⟩⟩
theorem nil_owns:w.ownsRow 0 3 1 (.slice none 0 0) 0 []:=⟨rfl,.inl ⟨rfl,rfl⟩⟩
theorem owns_ent{v:Value}{l:List Int}{k:Int}(hk:(Lit.int .i64 k).wf=true)(hl:l≠[])(h:w.ownsRow 0 3 1 v l.length (l.map (Value.int .i64))):∃ e:Ent,e.k=k∧e.l=l∧e.val=v∧e.OK∧w.heap[e.b]? = some (.cells e.arr 3 (0,0)):=by
 rcases h.2 with ⟨_,h0⟩ | ⟨g,cap,cur,rfl,_,h1,h2,h3,h4,h5⟩
 ·exact absurd (sO h0) hl
 ·exact ⟨⟨k,l,g,cap,cur⟩,rfl,rfl,rfl,⟨hk,by rw [h4,Nat.mul_one],h2,h3,by rw [Nat.mul_one] at h5;exact h5⟩,h1⟩
end
end CU
end
section
namespace CU
open Go.Maps Go.MapKept
open Go.ChangeMaps (setBlock)
variable {P:Program} {C C0:Cx} {M M0:Mem} {w w0:World}

section
variable {o:Oper} {a:Act} {W W':World}
theorem lS{x:Operand}{v:Value}(ho:o.op = .move x)(hv:a.eval x=v):(execOp a.eval o).run P W = .ok (.value v) W:=by
 unfold execOp;rw [ho];simp [hv]
theorem aJi{x:Operand}{v:Value}(ho:o.op = .assign x)(hv:a.eval x=v):(execOp a.eval o).run P W = .ok (.value v) W:=by
 unfold execOp;rw [ho];simp [hv]
theorem aRy{t:TypeId}{x ix:Operand}{v u r:Value}(ho:o.op = .indexAddr t x ix)(hx:a.eval x=v)(hi:a.eval ix=u)(hr:(Instr.indexAt t v u).run P W = .ok r W):(execOp a.eval o).run P W = .ok (.value r) W:=by
 unfold execOp;rw [ho];simp [hx,hi,hr,Result.andThen]
theorem ex_load{t:TypeId}{x:Operand}{v r:Value}(ho:o.op = .load t x)(hx:a.eval x=v)(hr:(Instr.loadAt t v).run P W = .ok r W):(execOp a.eval o).run P W = .ok (.value r) W:=by
 unfold execOp;rw [ho];simp [hx,hr,Result.andThen]
theorem ex_lookup{t:TypeId}{x k:Operand}{v u r:Value}(ho:o.op = .lookup t x k false)(hx:a.eval x=v)(hk:a.eval k=u)(hr:(Instr.lookup t v u false).run P W = .ok r W):(execOp a.eval o).run P W = .ok (.value r) W:=by
 unfold execOp;rw [ho];simp [hx,hk,hr,Result.andThen]
theorem ex_build1{t:TypeId}{x:Operand}{v r:Value}(ho:o.op = .buildSlice t 1 #[(0,x)])(hx:a.eval x=v)(hr:(Instr.buildSlice t 1 #[(0,v)]).run P W = .ok r W'):(execOp a.eval o).run P W = .ok (.value r) W':=by
 unfold execOp;rw [ho];simp [hx,hr,Result.andThen]
theorem ex_append{t:TypeId}{s x:Operand}{v u r:Value}(ho:o.op = .call { callee := .builtin .append,args := #[s,x],argTypes := #[t,t] })(hs:a.eval s=v)(hx:a.eval x=u)(hr:(Builtin.append_ #[t,t] o.type #[v,u]).run P W = .ok r W') :
  (execOp a.eval o).run P W = .ok (.value r) W':=by
 unfold execOp;simp only [ho,resolve,invoke,builtin,Sem.run_bind,Sem.run_pure,Result.andThen_ok,List.map_toArray,iK,List.map_nil,hs,hx,hr]
theorem ex_update{t:TypeId}{m k x:Operand}{v u y:Value}(ho:o.op = .mapUpdate t m k x)(hm:a.eval m=v)(hk:a.eval k=u)(hx:a.eval x=y)(hr:(Instr.mapUpdate t v u y).run P W = .ok () W'):(execOp a.eval o).run P W = .ok .skip W':=by
 unfold execOp;rw [ho];simp [hm,hk,hx,hr,Result.andThen]
theorem aYt{t:TypeId}(ho:o.op = .makeMap t none):(execOp a.eval o).run P W = .ok (.value (.map (some W.heap.size))) (W.alloc (.map #[] 0)):=by
 have hr:(Instr.makeMap t none).run P W = .ok (.map (some W.heap.size)) (W.alloc (.map #[] 0)):=rfl;unfold execOp;rw [ho];simp [hr,Result.andThen]
end

theorem run_load1{t:Nat}{i:TI}(hi:bX P t=some i)(ha:i.agg=false){b o:Nat}{v:Value}(h:w.cell? ⟨b,o,none⟩=some v):(Instr.loadAt t (.pointer (some ⟨b,o,none⟩))).run P w = .ok v w:=by
 unfold Instr.loadAt Instr.sureAddr;simpa using iH hi ha h

def mapR(mb:Nat)(es:Array MapEntry)(cl:Nat)(L:List Ent):List (Nat × Obj):=(mb,.map es cl)::L.map Ent.blk
theorem mem_mapR{mb:Nat}{es:Array MapEntry}{cl:Nat}{L:List Ent}{p:Nat × Obj}:p∈mapR mb es cl L↔p=(mb,.map es cl)∨∃ e∈L,e.blk=p:=by simp [mapR]
def lookL(L:List Ent)(k:Int):List Int:=match lookE L k with
 | some e=>e.l
 | none=>[]
theorem inj_of_nodup{α β:Type}(f:α→β){x y:α}:∀ (L:List α),(L.map f).Nodup→x∈L→y∈L→f x=f y→x=y
 | [],_,h,_,_=>by simp at h
 | a::r,hn,hx,hy,he=>by
  rw [iK,List.nodup_cons] at hn
  rcases eO.1 hx with e1 | h1
  ·rcases eO.1 hy with e2 | h2
   ·rw [e1,e2]
   ·exact absurd (Bi.2 ⟨y,h2,by rw [← he,e1]⟩) hn.1
  ·rcases eO.1 hy with e2 | h2
   ·exact absurd (Bi.2 ⟨x,h1,by rw [he,e2]⟩) hn.1
   ·exact inj_of_nodup f r hn.2 h1 h2 he
theorem MapOK.b_inj{mb:Nat}{es:Array MapEntry}{L:List Ent}(h:MapOK mb es L){e e':Ent}(he:e∈L)(Jp:e'∈L)(hb:e.b=e'.b):e=e':=inj_of_nodup (·.b) L (List.nodup_cons.1 h.blks).2 he Jp hb
theorem MapOK.b_mb{mb:Nat}{es:Array MapEntry}{L:List Ent}(h:MapOK mb es L){e:Ent}(he:e∈L):e.b≠mb:=fun hb=>(List.nodup_cons.1 h.blks).1 (Bi.2 ⟨e,he,hb⟩)

theorem mapStep{t kt S22 ty:TypeId}{st:St}{a:Act}{mb cl:Nat}{es:Array MapEntry}{L:List Ent}{k x:Int}(ht:P.underlying t=some (.map kt S22))(hkt:P.underlying kt=some (.int .i64))(Ix:P.underlying S22=some (.slice 3))
  (Qd:(P.info? 3).map (fun i=>(i.zero,i.size,i.bytes))=some (some (.int .i64 0),1,8))
  (hs:Sim P (C0.with (mapR mb es cl L++C0.R)) M0 w0 st a w) (hd:∀ p∈mapR mb es cl L,∀ q∈C0.R,p.1≠q.1) (hM:MapOK mb es L) (hk:(Lit.int .i64 k).wf=true) (hl:∀ e∈L,e.l.length≤1000) :
  ∃ v2 w2 Bn B5 e,(Builtin.append_ #[S22,S22] ty #[lookV L k,.slice (some ⟨w.heap.size,0,none⟩) 1 1]).run P (w.alloc (.cells #[.int .i64 x] 3)) = .ok v2 w2 ∧
   (∀ b,b<w.heap.size→(∀ q∈mapR mb es cl L,q.1≠b)→w2.heap[b]? = w.heap[b]?)∧w2.heap[mb]? = w.heap[mb]? ∧
   (Instr.mapUpdate t (.map (some mb)) (.int .i64 k) v2).run P w2 = .ok () (setBlock w2 mb (.map Bn B5))∧MapOK mb Bn (putE L e)∧e.k=k∧e.l=lookL L k++[x] ∧
   (∀ p∈mapR mb Bn B5 (putE L e),∀ q∈C0.R,p.1≠q.1)∧Sim P (C0.with (mapR mb Bn B5 (putE L e)++C0.R)) M0 w0 st a (setBlock w2 mb (.map Bn B5)):=by
 obtain ⟨i,hi,hz,D5,Iv⟩:=info_parts Qd;have hhas:=hs.has;have hmb:w.heap[mb]? = some (.map es cl):=hhas (mb,.map es cl) (by simp [mapR])
 have hmlt:=bJ hmb;have hblkh:∀ e∈L,w.heap[e.b]? = some (.cells e.arr 3 (0,0)):=fun e he=>hhas e.blk (by simp [mapR];exact .inr (.inl ⟨e,he,rfl⟩))
 obtain ⟨n1,n2,n3⟩:=eQ w (.cells #[.int .i64 x] 3);have hown:(w.alloc (.cells #[.int .i64 x] 3)).ownsRow 0 3 1 (lookV L k) (lookL L k).length ((lookL L k).map (Value.int .i64))∧((lookV L k).ownBlock=none∨∃ e0∈L,e0.k=k∧(lookV L k).ownBlock=some e0.b)∧(lookL L k).length≤1000:=by
  unfold lookV lookL;cases h:lookE L k with
  | none=>exact ⟨nil_owns,.inl rfl,by simp⟩
  | some e0 =>
   obtain ⟨q1,q2⟩:=lookE_some h;exact ⟨Ent.owns (hM.ok e0 q1) ((n3 _ (bJ (hblkh e0 q1))).trans (hblkh e0 q1)),.inr ⟨e0,q1,q2,rfl⟩,hl e0 q1⟩
 obtain ⟨ho,hbk,hlen⟩:=hown;obtain ⟨v2,w2,hrun,Jr,Es,hnil,hat⟩:=run_append_own_at (P:=P) (w:=w.alloc (.cells #[.int .i64 x] 3)) 0 S22 ty 3 i (.int .i64 0) 1 8 Ix hi hz D5 Iv rfl (by decide) (lookV L k) (lookL L k).length _ ho
  ⟨w.heap.size,0,none⟩ 1 1 [.int .i64 x] rfl (cell_one_new w (.int .i64 x) 3) (fun u hu=>by simp at hu;subst hu;rfl) (by unfold maxLen;omega) (by omega) (Nat.zero_le _)
 have Kx:w2.ownsRow 0 3 1 v2 (lookL L k++[x]).length ((lookL L k++[x]).map (Value.int .i64)):=by
  rw [kU,jJ];exact Jr
 obtain ⟨e,rfl,hel,rfl,heo,heh⟩:=owns_ent hk (by simp) Kx
 have hvb:e.val.ownBlock=some e.b:=rfl;have hwhere:(∃ e0∈L,e0.k=e.k∧e0.b=e.b)∨e.b=w.heap.size+1:=by
  rcases hat with h | h
  ·rcases hbk with h0 | ⟨e0,q1,q2,q3⟩
   ·rw [h0,hvb] at h;cases h
   ·rw [q3,hvb] at h;exact .inl ⟨e0,q1,q2,(Option.some.inj h).symm⟩
  ·rw [hvb] at h
   right
   have:=Option.some.inj h;rw [this];simp
 have hrow:∀ b,b<w.heap.size→(∀ e0∈L,e0.k=e.k→e0.b≠b)→w2.heap[b]? = w.heap[b]? := fun b hb hno=>by
  refine (Es.block b (by omega) (fun he => ?_)).trans (n3 b hb)
  rcases hbk with h0 | ⟨e0,q1,q2,q3⟩
  ·rw [h0] at he;cases he
  ·rw [q3] at he;exact hno e0 q1 q2 (Option.some.inj he).symm
 have hblk:e.b≠mb∧∀ y∈L,y.k≠e.k→y.b≠e.b:=by
  rcases hwhere with ⟨e0,q1,q2,q3⟩ | h
  ·refine ⟨q3 ▸ hM.b_mb q1,fun y hy hyk hb=>hyk ?_⟩
   have:=hM.b_inj hy q1 (hb.trans q3.symm);rw [this];exact q2
  ·refine ⟨by omega,fun y hy _ hb => ?_⟩
   have:=bJ (hblkh y hy);omega
 have Em:w2.heap[mb]? = w.heap[mb]? := hrow mb hmlt fun e0 Ib _=>hM.b_mb Ib
 obtain ⟨Bn,B5,hup,Eb⟩:=put_run (P:=P) (w:=w2) ht hkt (Em.trans hmb) hM e heo hblk;refine ⟨e.val,w2,Bn,B5,e,hrun,fun b hb hno=>hrow b hb fun e0 Ib _=>hno e0.blk (by simp [mapR];exact .inr ⟨e0,Ib,rfl⟩),Em,hup,Eb,rfl,hel,?_,?_⟩
 ·intro p hp q hq
  rcases mem_mapR.1 hp with rfl | ⟨y,hy,rfl⟩
  ·exact hd (mb,.map es cl) (by simp [mapR]) q hq
  ·rcases mem_putE.1 hy with ⟨q1,q2⟩ | rfl
   ·exact hd y.blk (mem_mapR.2 (.inr ⟨y,q1,rfl⟩)) q hq
   ·rcases hwhere with ⟨e0,q1,q2,q3⟩ | h
    ·exact fun hpq=>hd e0.blk (mem_mapR.2 (.inr ⟨e0,q1,rfl⟩)) q hq (by rw [← hpq];exact q3)
    ·have:=bJ (hhas q (oE _ hq))
     intro hpq;change y.b=q.1 at hpq
     omega
 ·have hne:∀ p∈C0.R,p.1≠mb∧∀ e0∈L,p.1≠e0.b:=fun p hp=>⟨fun h=>hd (mb,.map es cl) (by simp [mapR]) p hp h.symm,fun e0 Ib h=>hd e0.blk (mem_mapR.2 (.inr ⟨e0,Ib,rfl⟩)) p hp h.symm⟩
  have hset:∀ b,b≠mb→(setBlock w2 mb (.map Bn B5)).heap[b]? = w2.heap[b]? := fun b hb=>by
   unfold setBlock;simp only [Array.getElem?_setIfInBounds];rw [if_neg (Ne.symm hb)]
  have hsetm:(setBlock w2 mb (.map Bn B5)).heap[mb]? = some (.map Bn B5):=by
   unfold setBlock;have:mb<w2.heap.size:=bJ (Em.trans hmb);simp [this]
  refine hs.beside (fun b=>b=mb∨∃ e0∈L,e0.k=e.k∧e0.b=b) (fun b hb => ?_) Es.os Es.tape Es.output (by have:=Es.size;unfold setBlock;simp only [Array.size_setIfInBounds];omega) (fun b hb hX => ?_) (fun p hp => ?_)
  ·rcases hb with rfl | ⟨e0,q1,q2,rfl⟩
   ·exact ⟨_,gD _ (mem_mapR.2 (.inl rfl))⟩
   ·exact ⟨_,gD _ (mem_mapR.2 (.inr ⟨e0,q1,rfl⟩))⟩
  ·rw [hset b (fun h=>hX (.inl h))]
   exact hrow b hb fun e0 q1 q2 q3=>hX (.inr ⟨e0,q1,q2,q3⟩)
  ·rcases dY.1 hp with hp | hp
   ·rcases mem_mapR.1 hp with rfl | ⟨y,hy,rfl⟩
    ·exact .inr ⟨hsetm,(fun h=>by cases h),.inr ⟨_,gD _ (mem_mapR.2 (.inl rfl))⟩⟩
    ·rcases mem_putE.1 hy with ⟨q1,q2⟩ | rfl
     ·refine .inl ⟨gD _ (mem_mapR.2 (.inr ⟨y,q1,rfl⟩)),fun hX => ?_⟩
      rcases hX with hX | ⟨e0,r1,r2,r3⟩
      ·exact hM.b_mb q1 hX
      ·have:=hM.b_inj q1 r1 r3.symm
       exact q2 (this ▸ r2)
     ·refine .inr ⟨(hset _ hblk.1).trans heh,(fun h=>by cases h),?_⟩
      rcases hwhere with ⟨e0,r1,r2,r3⟩ | h
      ·exact .inr ⟨.cells e0.arr 3 (0,0),gD _ (mem_mapR.2 (.inr ⟨e0,r1,by unfold Ent.blk;rw [r3]⟩))⟩
      ·exact .inl (by show w.heap.size≤y.b;omega)
   ·refine .inl ⟨oE _ hp,fun hX => ?_⟩
    rcases hX with hX | ⟨e0,r1,r2,r3⟩
    ·exact (hne p hp).1 hX
    ·exact (hne p hp).2 e0 r1 r3.symm
end CU
end
end KV
end Go.Proofs
section
namespace Go.Proofs
open KC Go.RowKit
namespace KV
open Tryz
namespace CU
open Go.ChangeMaps (setBlock)
variable {C C0:Cx} {M M0:Mem} {w w0:World}

theorem Ig:(Tryz.prog.info? 3).map (fun i=>(i.zero,i.size,i.bytes))=some (some (.int .i64 0),1,8):=by kernel_rfl
theorem Va:∃ i,bX Tp 3=some i∧i.agg=false∧i.size=1:=by
 have h:(bX Tp 3).map (fun i=>(i.agg,i.size))=some (false,1):=by kernel_rfl
 cases h2:bX Tp 3 with
 | none=>rw [h2] at h;cases h
 | some i=>rw [h2] at h;simp at h;exact ⟨i,rfl,h.1,h.2⟩
abbrev mpv(mb:Nat):PV := .v (.map (some mb))
abbrev stT(c:KC.Cup)(ns:List Int)(mo:Int)(qs:List Int):St:=⟨fr 161 [(1,(.p (aC ns))),(2,(.p (aA mo))),(3,(.p (aC qs))),(10,(.ptr 0 0))],[some (.box 98 [(.p (aA c.sk)),(.p (aA c.ra)),(.p (aA c.be)),(.p (aC c.pts)),(.p (aR c.done))])]⟩
abbrev stA(c:KC.Cup)(ns:List Int)(mo:Int)(qs:List Int)(mv:PV):St:=⟨fr 161 [(1,(.p (aC ns))),(2,(.p (aA mo))),(3,(.p (aC qs))),(10,(.ptr 0 0)),(12,(.p mv))],[some (.box 98 [(.p (aA c.sk)),(.p (aA c.ra)),(.p (aA c.be)),(.p (aC c.pts)),(.p (aR c.done))])]⟩
abbrev stB(ns:List Int)(mo:Int)(qs:List Int)(mv:PV)(ts:List Int)(i:Nat):St:=⟨fr 161 [(1,(.p (aC ns))),(2,(.p (aA mo))),(3,(.p (aC qs))),(12,(.p mv)),(63,(.p (aC ts))),(64,(.p (aA (ts.length:Int)))),(65,(.p (aA (i:Int))))],[]⟩
abbrev stD(ns:List Int)(mo:Int)(qs:List Int)(mv:PV)(ts:List Int)(i:Nat)(x:Int):St:=⟨fr 161 [(1,(.p (aC ns))),(2,(.p (aA mo))),(3,(.p (aC qs))),(12,(.p mv)),(13,(.p (aA (i:Int)))),(14,(.p (aA x))),(63,(.p (aC ts))),(64,(.p (aA (ts.length:Int)))),(65,(.p (aA (i:Int))))],[]⟩
abbrev stF(ns:List Int)(mo:Int)(qs:List Int)(mv:PV)(n:Nat)(o:Lqq):St:=⟨fr 161 [(1,(.p (aC ns))),(2,(.p (aA mo))),(3,(.p (aC qs))),(12,(.p mv)),(15,(.own 0)),(85,(.p (aA (n:Int))))],[some (.row 163 o.length (o.flatten.map aA))]⟩
abbrev stG(ns:List Int)(mo:Int)(qs:List Int)(mv:PV)(n:Nat)(o:Lqq):St:=⟨fr 161 [(1,(.p (aC ns))),(2,(.p (aA mo))),(3,(.p (aC qs))),(12,(.p mv)),(15,(.own 0)),(16,(.p (aA (n:Int)))),(85,(.p (aA (n:Int))))],[some (.row 163 o.length (o.flatten.map aA))]⟩
abbrev stN(ns:List Int)(mo:Int)(qs:List Int)(mv:PV)(n:Nat)(o:Lqq):St:=⟨fr 161 [(1,(.p (aC ns))),(2,(.p (aA mo))),(3,(.p (aC qs))),(12,(.p mv)),(15,(.own 0)),(16,(.p (aA (n:Int)))),(17,(.p cX)),(85,(.p (aA (n:Int))))],[some (.row 163 o.length (o.flatten.map aA))]⟩
abbrev stH(ns:List Int)(mo:Int)(qs:List Int)(mv:PV)(n:Nat)(o:Lqq)(y:Int)(l:List Int):St:=⟨fr 161 [(1,(.p (aC ns))),(2,(.p (aA mo))),(3,(.p (aC qs))),(12,(.p mv)),(15,(.own 0)),(16,(.p (aA (n:Int)))),(17,(.own 1)),(85,(.p (aA (n:Int))))],[some (.row 163 o.length (o.flatten.map aA)),some (.row 3 (l.length+1) ((aA y)::(l.map aA)))]⟩

theorem bQx:∃ l:List Oper,sub (cd Tryz.f84) ay = .region 14 l.toArray true∧sH l [0,1,2,3,4,5,6,7,8,9,10,11] 12 13 14=true∧l.map (fun o=>(o.op,o.dst))=[(.move (.tmp 12),some 70),(.move (.tmp 1),some 71),(.move (.tmp 13),some 72),(.indexAddr 31 (.tmp 71) (.tmp 72),some 73),(.load 3 (.tmp 73),some 74),(.move (.tmp 12),some 75),(.move (.tmp 1),some 76),(.move (.tmp 13),some 77),(.indexAddr 31 (.tmp 76) (.tmp 77),some 78),(.load 3 (.tmp 78),some 79),(.lookup 217 (.tmp 75) (.tmp 79) false,some 80),(.move (.tmp 14),some 81),(.buildSlice 31 1 #[(0,.tmp 81)],some 82),(.call { callee := .builtin .append,args := #[.tmp 80,.tmp 82],argTypes := #[31,31] },some 83),(.mapUpdate 217 (.tmp 70) (.tmp 74) (.tmp 83),none)] :=
 ⟨match sub (cd Tryz.f84) ay with | .region _ ops _=>ops.toList | _=>[],by kernel_rfl,by kernel_rfl,by kernel_rfl⟩
theorem U9{ns ts:List Int}{mo:Int}{qs:List Int}{i:Nat}{k x:Int}(hk:ns[i]? = some k)(hkw:(Lit.int .i64 k).wf=true){G G':List Ent→Prop}(hGl:∀ L,G L→∀ e∈L,e.l.length≤1000)
  (hG:∀ L e mb es,G L→MapOK mb es L→e.k=k→e.l=lookL L k++[x]→G' (putE L e)) :
  bH Tp 0 (sub (cd Tryz.f84) ay) (fun st R=>∃ mb es cl L,st=stD ns mo qs (mpv mb) ts i x∧R=mapR mb es cl L∧MapOK mb es L∧G L) .normal
   (fun st R=>∃ mb es cl L,st=stD ns mo qs (mpv mb) ts i x∧R=mapR mb es cl L∧MapOK mb es L∧G' L):=by
 obtain ⟨l,hc,hB,hops⟩:=bQx;rw [hc];refine bH.hand fun C0 M0 w0 a w st R B4 hΨ hd hs => ?_
 obtain ⟨mb,es,cl,L,rfl,rfl,hM,hGL⟩:=hΨ;obtain ⟨o0,l0,rfl,h0,hops⟩:=Cv.1 hops;obtain ⟨o1,l1,rfl,h1,hops⟩:=Cv.1 hops;obtain ⟨o2,l2,rfl,h2,hops⟩:=Cv.1 hops;obtain ⟨o3,l3,rfl,h3,hops⟩:=Cv.1 hops;obtain ⟨o4,l4,rfl,h4,hops⟩:=Cv.1 hops;obtain ⟨o5,l5,rfl,h5,hops⟩:=Cv.1 hops;obtain ⟨o6,l6,rfl,h6,hops⟩:=Cv.1 hops;obtain ⟨o7,l7,rfl,h7,hops⟩:=Cv.1 hops;obtain ⟨o8,l8,rfl,h8,hops⟩:=Cv.1 hops;obtain ⟨o9,l9,rfl,h9,hops⟩:=Cv.1 hops;obtain ⟨Rr,l10,rfl,A5,hops⟩:=Cv.1 hops;obtain ⟨Rs,F4,rfl,Cb,hops⟩:=Cv.1 hops;obtain ⟨Px,T4,rfl,Bu,hops⟩:=Cv.1 hops;obtain ⟨N6,T5,rfl,Dd,hops⟩:=Cv.1 hops;obtain ⟨N7,T6,rfl,Dq,hops⟩:=Cv.1 hops;obtain rfl:=bSb.1 hops;obtain ⟨q0,d0⟩:=Prod.mk.inj h0;obtain ⟨q1,d1⟩:=Prod.mk.inj h1;obtain ⟨q2,d2⟩:=Prod.mk.inj h2;obtain ⟨q3,d3⟩:=Prod.mk.inj h3;obtain ⟨q4,d4⟩:=Prod.mk.inj h4;obtain ⟨q5,d5⟩:=Prod.mk.inj h5;obtain ⟨q6,d6⟩:=Prod.mk.inj h6;obtain ⟨q7,d7⟩:=Prod.mk.inj h7;obtain ⟨q8,d8⟩:=Prod.mk.inj h8;obtain ⟨q9,d9⟩:=Prod.mk.inj h9;obtain ⟨Py,Cp⟩:=Prod.mk.inj A5;obtain ⟨Pz,Cq⟩:=Prod.mk.inj Cb;obtain ⟨P0,D8⟩:=Prod.mk.inj Bu;obtain ⟨P2,Ik⟩:=Prod.mk.inj Dd;obtain ⟨P3,Kw⟩:=Prod.mk.inj Dq;have hsz:a.tmps.size=161:=hs.size;have Vb:a.tmps.getD 12 undef = .map (some mb):=hs.slot rfl;have Vd:a.tmps.getD 13 undef = .int .i64 i:=hs.slot rfl;have Ve:a.tmps.getD 14 undef = .int .i64 x:=hs.slot rfl;obtain ⟨p,cap,v1,Oq,Su,hcell⟩:=hs.ints (i:=1) (l:=ns) rfl;obtain ⟨b,o,rfl,hb,hcl,hne⟩:=hcell i k hk;have V12:a.eval (.tmp 12) = .map (some mb):=Vb;have V13:a.eval (.tmp 13) = .int .i64 i:=Vd;have V14:a.eval (.tmp 14) = .int .i64 x:=Ve;have V1:a.eval (.tmp 1) = .slice (some ⟨b,o,none⟩) ns.length cap:=v1;obtain ⟨i3,t3,Sa,Ow⟩:=Va;have hil:(i:Int)<(ns.length:Int):=by
  have:=(Bg.1 hk).1;omega
 have hix:∀ W,(Instr.indexAt 31 (.slice (some ⟨b,o,none⟩) ns.length cap) (.int .i64 i)).run Tp W = .ok (.pointer (some ⟨b,o+i,none⟩)) W:=fun W=>by
  have:=fP (P:=Tp) (w:=W) Tryz.underlying31 t3 (b:=b) (off:=o) (n:=ns.length) (cap:=cap) (k := .i64) (i:=(i:Int)) (by omega) hil
  rw [Ow,Nat.mul_one,aTw] at this
  exact this
 have hmb:w.heap[mb]? = some (.map es cl):=hs.has (mb,.map es cl) (by simp [mapR])
 have Bh:=hs.drawn (w.drawn+1);obtain ⟨v2,w2,Bn,B5,e,hrun,hkeep,Em,hup,Eb,hek,hel,Kf,hsim⟩:=mapStep (P:=Tp) (kt:=3) (S22:=31) (ty:=N6.type) (k:=k) (x:=x) Tryz.underlying217 Tryz.underlying3 Tryz.underlying31 Ig Bh hd hM hkw (hGl L hGL);refine Jc (P:=Tp) (o1:=Px) (o2:=N6) (o3:=N7) (S:=fun W=>W.cell? ⟨b,o+i,none⟩=some (.int .i64 k)∧W.heap[mb]? = some (.map es cl)) [0,1,2,3,4,5,6,7,8,9,10,11] 12 13 14 mixed hB rfl rfl rfl (fun c a w h=>by cases h.1) ⟨hcl,hmb⟩
  [.map (some mb),.slice (some ⟨b,o,none⟩) ns.length cap,.int .i64 i,.pointer (some ⟨b,o+i,none⟩),.int .i64 k,.map (some mb),.slice (some ⟨b,o,none⟩) ns.length cap,.int .i64 i,.pointer (some ⟨b,o+i,none⟩),.int .i64 k,lookV L k,.int .i64 x] rfl ?_ ?_
 ·refine ⟨fun W hW=>lS q0 (by simp [aO,aL,bE,hsz,V12,V13,V14,V1,d0,d1,d2,d3,d4,d5,d6,d7,d8,d9,Cp,Cq]),fun W hW=>lS q1 (by simp [aO,aL,bE,hsz,V12,V13,V14,V1,d0,d1,d2,d3,d4,d5,d6,d7,d8,d9,Cp,Cq]),fun W hW=>lS q2 (by simp [aO,aL,bE,hsz,V12,V13,V14,V1,d0,d1,d2,d3,d4,d5,d6,d7,d8,d9,Cp,Cq]),fun W hW=>aRy q3 (by simp [aO,aL,bE,hsz,V12,V13,V14,V1,d0,d1,d2,d3,d4,d5,d6,d7,d8,d9,Cp,Cq]) (by simp [aO,aL,bE,hsz,V12,V13,V14,V1,d0,d1,d2,d3,d4,d5,d6,d7,d8,d9,Cp,Cq]) (hix W),fun W hW=>ex_load q4 (by simp [aO,aL,bE,hsz,V12,V13,V14,V1,d0,d1,d2,d3,d4,d5,d6,d7,d8,d9,Cp,Cq]) (run_load1 t3 Sa hW.1),fun W hW=>lS q5 (by simp [aO,aL,bE,hsz,V12,V13,V14,V1,d0,d1,d2,d3,d4,d5,d6,d7,d8,d9,Cp,Cq]),fun W hW=>lS q6 (by simp [aO,aL,bE,hsz,V12,V13,V14,V1,d0,d1,d2,d3,d4,d5,d6,d7,d8,d9,Cp,Cq]),fun W hW=>lS q7 (by simp [aO,aL,bE,hsz,V12,V13,V14,V1,d0,d1,d2,d3,d4,d5,d6,d7,d8,d9,Cp,Cq]),fun W hW=>aRy q8 (by simp [aO,aL,bE,hsz,V12,V13,V14,V1,d0,d1,d2,d3,d4,d5,d6,d7,d8,d9,Cp,Cq]) (by simp [aO,aL,bE,hsz,V12,V13,V14,V1,d0,d1,d2,d3,d4,d5,d6,d7,d8,d9,Cp,Cq]) (hix W),fun W hW=>ex_load q9 (by simp [aO,aL,bE,hsz,V12,V13,V14,V1,d0,d1,d2,d3,d4,d5,d6,d7,d8,d9,Cp,Cq]) (run_load1 t3 Sa hW.1),fun W hW=>ex_lookup Py (by simp [aO,aL,bE,hsz,V12,V13,V14,V1,d0,d1,d2,d3,d4,d5,d6,d7,d8,d9,Cp,Cq]) (by simp [aO,aL,bE,hsz,V12,V13,V14,V1,d0,d1,d2,d3,d4,d5,d6,d7,d8,d9,Cp,Cq]) (look_run Tryz.underlying217 Tryz.underlying3 rfl hW.2 hM hkw),fun W hW=>lS Pz (by simp [aO,aL,bE,hsz,V12,V13,V14,V1,d0,d1,d2,d3,d4,d5,d6,d7,d8,d9,Cp,Cq]),trivial⟩
 ·intro a' Gv
  have Vf:a'.eval (.tmp 70) = .map (some mb):=by rw [Gv];simp [mE,aO,aL,bE,hsz,V12,V13,V14,V1,d0,d1,d2,d3,d4,d5,d6,d7,d8,d9,Cp,Cq]
  have Vg:a'.eval (.tmp 74) = .int .i64 k:=by rw [Gv];simp [mE,aO,aL,bE,hsz,V12,V13,V14,V1,d0,d1,d2,d3,d4,d5,d6,d7,d8,d9,Cp,Cq]
  have Vh:a'.eval (.tmp 80)=lookV L k:=by rw [Gv];simp [mE,aO,aL,bE,hsz,V12,V13,V14,V1,d0,d1,d2,d3,d4,d5,d6,d7,d8,d9,Cp,Cq]
  have Vi:a'.eval (.tmp 81) = .int .i64 x:=by rw [Gv];simp [mE,aO,aL,bE,hsz,V12,V13,V14,V1,d0,d1,d2,d3,d4,d5,d6,d7,d8,d9,Cp,Cq]
  have Qa:a'.tmps.size=161:=by rw [Gv];simp [mE,bE,hsz,d0,d1,d2,d3,d4,d5,d6,d7,d8,d9,Cp,Cq]
  obtain ⟨inf,hi,hz,D5,Iv⟩:=info_parts Ig;have hbld:∀ W:World,(Instr.buildSlice 31 1 #[(0,.int .i64 x)]).run Tp W = .ok (.slice (some ⟨W.heap.size,0,none⟩) 1 1) (W.alloc (.cells #[.int .i64 x] 3)):=fun W =>
   tY (P:=Tp) 31 3 inf 1 #[(0,.int .i64 x)] #[.int .i64 x] (.int .i64 0) Tryz.underlying31 hi hz (by rw [D5];decide) (by rw [D5];kernel_rfl)
  refine ⟨_,_,v2,w2,setBlock w2 mb (.map Bn B5),ex_build1 P0 Vi (hbld _),?_,ex_append P2 (by rw [D8,aO rfl];exact Vh) (by rw [D8,aL (by omega)]) hrun,⟨?_,Em.trans hmb⟩,ex_update P3 (by rw [D8,Ik,aO rfl,aO rfl];exact Vf) (by rw [D8,Ik,aO rfl,aO rfl];exact Vg) (by rw [D8,Ik,aL (by rw [bE];omega)]) hup,?_⟩
  ·obtain ⟨n1,n2,n3⟩:=eQ { w with drawn:=w.drawn+1 } (.cells #[.int .i64 x] 3)
   exact ⟨(dQ (n3 b hb) _).trans hcl,(n3 mb (bJ hmb)).trans hmb⟩
  ·exact (dQ (hkeep b hb fun q hq=>hne q (gD _ hq)) _).trans hcl
  ·refine ⟨rfl,_,_,⟨mb,Bn,B5,putE L e,rfl,rfl,Eb,hG L e mb es hGL hM hek hel⟩,Kf,?_⟩
   have h1:=(Sim.anyL [(o0,.map (some mb)),(o1,.slice (some ⟨b,o,none⟩) ns.length cap),(o2,.int .i64 i),(o3,.pointer (some ⟨b,o+i,none⟩)),(o4,.int .i64 k),(o5,.map (some mb)),(o6,.slice (some ⟨b,o,none⟩) ns.length cap),(o7,.int .i64 i),(o8,.pointer (some ⟨b,o+i,none⟩)),(o9,.int .i64 k),(Rr,lookV L k),(Rs,.int .i64 x)] hsim (by
    simp only [List.all_cons,List.all_nil,d0,d1,d2,d3,d4,d5,d6,d7,d8,d9,Cp,Cq];rfl))
   have h2:=((h1.any Px.dst (.slice (some ⟨w.heap.size,0,none⟩) 1 1) (fun i hi=>by rw [D8] at hi;cases hi;rfl)).any N6.dst v2 (fun i hi=>by rw [Ik] at hi;cases hi;rfl)).any N7.dst undef (fun i hi=>by rw [Kw] at hi;cases hi)
   rw [Gv];exact h2
end CU
end KV
end Go.Proofs
end
section
namespace Go.Proofs
open KC Go.RowKit
namespace KV
open Tryz
namespace CU
open Go.ChangeMaps (setBlock)
variable {C C0:Cx} {M M0:Mem} {w w0:World}

def grp(ns ts:List Int)(g:Int)(i:Nat):List Int:=((ns.zip ts).take i).filterMap fun p=>if p.1=g then some p.2 else none
theorem bQt(ns ts:List Int)(g:Int):grp ns ts g 0=[]:=rfl
theorem aFg{ns ts:List Int}{g k x:Int}{i:Nat}(hk:ns[i]? = some k)(hx:ts[i]? = some x):grp ns ts g (i+1)=grp ns ts g i++(if k=g then [x] else []):=by
 have:(ns.zip ts)[i]? = some (k,x):=List.getElem?_zip_eq_some.2 ⟨hk,hx⟩;unfold grp;rw [List.take_add_one,this,List.filterMap_append]
 by_cases h:k=g <;> simp [h]
theorem bBn(ns ts:List Int)(g:Int)(i:Nat):(grp ns ts g i).length≤i:=by
 unfold grp;exact jY (List.length_filterMap_le _ _) (List.length_take_le _ _)

structure fT (ns ts:List Int) (i:Nat) (L:List Ent):Prop where
 a:∀ e∈L,e.l=grp ns ts e.k i∧e.l≠[]
 b:∀ g,grp ns ts g i≠[]→∃ e∈L,e.k=g
theorem fT.nil(ns ts:List Int):fT ns ts 0 []:=⟨fun e h=>by simp at h,fun g h=>absurd (bQt ns ts g) h⟩
theorem fT.look{ns ts:List Int}{i:Nat}{L:List Ent}(h:fT ns ts i L)(k:Int):lookL L k=grp ns ts k i:=by
 unfold lookL;cases hl:lookE L k with
 | some e =>
  obtain ⟨h1,rfl⟩:=lookE_some hl;exact (h.a e h1).1
 | none =>
  cases hg:grp ns ts k i with
  | nil=>rfl
  | cons y l =>
   obtain ⟨e,he,hk⟩:=h.b k (by rw [hg];simp)
   exact absurd hk (lookE_none hl e he)
theorem fT.step{ns ts:List Int}{i:Nat}{L:List Ent}{k x:Int}(hk:ns[i]? = some k)(hx:ts[i]? = some x)(h:fT ns ts i L)(e:Ent)(hek:e.k=k)(hel:e.l=lookL L k++[x]):fT ns ts (i+1) (putE L e):=by
 refine ⟨fun y hy => ?_,fun g hg => ?_⟩
 ·rcases mem_putE.1 hy with ⟨h1,h2⟩ | rfl
  ·obtain ⟨q1,q2⟩:=h.a y h1
   refine ⟨?_,q2⟩;rw [aFg hk hx,if_neg (fun h=>h2 (by rw [hek,h])),List.append_nil]
   exact q1
  ·refine ⟨?_,by rw [hel];simp⟩
   rw [hel,h.look,aFg hk hx,hek,if_pos rfl]
 ·by_cases hgk:g=k
  ·exact ⟨e,mem_putE.2 (.inr rfl),by rw [hek,hgk]⟩
  ·rw [aFg hk hx,if_neg (fun h=>hgk h.symm),List.append_nil] at hg
   obtain ⟨y,hy,hyk⟩:=h.b g hg;exact ⟨y,mem_putE.2 (.inl ⟨hy,by rw [hyk,hek];exact hgk⟩),hyk⟩

def aRx(f:PV→St)(G:List Ent→Prop):SR:=fun st R=>∃ mb es cl L,st=f (mpv mb)∧R=mapR mb es cl L∧MapOK mb es L∧G L
def aGv(f:PV→St)(n:Nat)(G:List Ent→Prop):SR:=fun st R=>∃ mb es cl L,st=f (mpv mb)∧(mb,Obj.map es cl)∈R∧(∀ e∈L,(n:Int)≤e.k→e.blk∈R)∧MapOK mb es L∧G L
section
variable {c:Code} {f f':PV→St} {G:List Ent→Prop} {e:Ex}
theorem bH.ofM(h:∀ mb,aB Tp 0 c (f (mpv mb)) e (f' (mpv mb))):bH Tp 0 c (aRx f G) e (aRx f' G):=bH.of fun st R ⟨mb,es,cl,L,h1,h2,h3,h4⟩=>⟨_,⟨mb,es,cl,L,rfl,h2,h3,h4⟩,h1 ▸ h mb⟩
theorem bH.ofK{n n':Nat}(hn:n≤n')(h:∀ mb,aB Tp 0 c (f (mpv mb)) e (f' (mpv mb))):bH Tp 0 c (aGv f n G) e (aGv f' n' G):=bH.of fun st R ⟨mb,es,cl,L,h1,h2,h3,h4,h5⟩=>⟨_,⟨mb,es,cl,L,rfl,h2,fun e he hk=>h3 e he (by omega),h4,h5⟩,h1 ▸ h mb⟩
end

theorem bQu:∃ l:List Oper,sub (cd Tryz.f84) [1,1,1,0] = .region 10 l.toArray false∧l.map (fun o=>(o.op,o.dst,o.guard))=[(.makeMap 217 none,some 61,none),(.assign (.tmp 61),some 12,none)] :=
 ⟨match sub (cd Tryz.f84) [1,1,1,0] with | .region _ ops _=>ops.toList | _=>[],by kernel_rfl,by kernel_rfl⟩
theorem U8{c:KC.Cup}{ns:List Int}{mo:Int}{qs ts:List Int}:bH Tp 0 (sub (cd Tryz.f84) [1,1,1,0]) (fun st R=>st=stT c ns mo qs∧R=[]) .normal (aRx (stA c ns mo qs) (fT ns ts 0)):=by
 obtain ⟨l,hc,hops⟩:=bQu;rw [hc];refine bH.hand fun C0 M0 w0 a w st R B4 hΨ hd hs => ?_
 obtain ⟨rfl,rfl⟩:=hΨ;obtain ⟨o0,l0,rfl,h0,hops⟩:=Cv.1 hops;obtain ⟨o1,l1,rfl,h1,hops⟩:=Cv.1 hops;obtain rfl:=bSb.1 hops;obtain ⟨q0,h0⟩:=Prod.mk.inj h0;obtain ⟨d0,g0⟩:=Prod.mk.inj h0;obtain ⟨q1,h1⟩:=Prod.mk.inj h1;obtain ⟨d1,g1⟩:=Prod.mk.inj h1;have hsz:a.tmps.size=161:=hs.size;obtain ⟨n1,n2,n3⟩:=eQ w (.map #[] 0);refine wp_region_lit (sI (id:=10) g0 (aYt q0) (sI (id:=10) g1 (aJi (v := .map (some w.heap.size)) q1 (by rw [d0,aL (by omega)])) ?_))
 refine wpList_nil ⟨rfl,_,_,⟨w.heap.size,#[],0,[],rfl,rfl,MapOK.nil _,fT.nil _ _⟩,?_,?_⟩
 ·intro p hp q hq
  rcases mem_mapR.1 hp with rfl | ⟨e,he,_⟩
  ·intro hpq
   have:=bJ (hs.has q (oE _ hq));change w.heap.size=q.1 at hpq
   omega
  ·simp at he
 ·have h2:=hs.beside (R':=mapR w.heap.size #[] 0 []++C0.R) (w':=w.alloc (.map #[] 0)) (fun _=>False) (fun _ h=>h.elim) rfl rfl rfl (by omega) (fun b hb _=>n3 b hb) (fun p hp=>by
   rcases dY.1 hp with hp | hp
   ·rcases mem_mapR.1 hp with rfl | ⟨e,he,_⟩
    ·exact .inr ⟨n2,(fun h=>by cases h),.inl (dJ _)⟩
    ·simp at he
   ·exact .inl ⟨oE _ hp,fun h=>h⟩)
  have h3:=(h2.any o0.dst (.map (some w.heap.size)) (fun i hi=>by rw [d0] at hi;cases hi;rfl)).put (some 12) (x := .p (mpv w.heap.size)) (u := .map (some w.heap.size)) (fun _ _ => .p _ _ (.v _))
  rw [d1];exact h3

theorem bQv:∃ l:List Oper,sub (cd Tryz.f84) ar = .region 20 l.toArray false∧l.map (fun o=>(o.op,o.dst,o.guard))=[(.move (.tmp 12),some 88,none),(.move (.tmp 16),some 89,none),(.lookup 217 (.tmp 88) (.tmp 89) false,some 90,none),(.assign (.tmp 90),some 17,none)] :=
 ⟨match sub (cd Tryz.f84) ar with | .region _ ops _=>ops.toList | _=>[],by kernel_rfl,by kernel_rfl⟩
theorem bQw{n:Nat}(h:n≤1000):(Lit.int .i64 (n:Int)).wf=true:=by
 simp [Lit.wf,IntKind.min,IntKind.max,IntKind.bits,IntKind.signed];omega
theorem Nh{ns ts:List Int}{mo:Int}{qs:List Int}{n:Nat}{o:Lqq}{N:Nat}(hn:n≤1000)(K:Act→World→Prop){C0:Cx}{a:Act}{R:List (Nat × Obj)}{mb cl:Nat}{es:Array MapEntry}{L:List Ent}{Q:Exit→Act→World→Prop}(hm:(mb,Obj.map es cl)∈R)(hM:MapOK mb es L)
  (hs:Sim Tp (C0.with (R++C0.R)) M0 w0 (stG ns mo qs (mpv mb) n o) a w)
  (h:∀ a',(a'.tmps.getD 17 undef=lookV L n)→Sim Tp (C0.with (R++C0.R)) M0 w0 ⟨KV.put (stG ns mo qs (mpv mb) n o).t (some 17) .any,(stG ns mo qs (mpv mb) n o).m⟩ a' w→Q .normal a' w) :
  (sub (cd Tryz.f84) ar).wp Tp Q a w:=by
 obtain ⟨l,hc,hops⟩:=bQv;rw [hc];obtain ⟨o0,l0,rfl,h0,hops⟩:=Cv.1 hops;obtain ⟨o1,l1,rfl,h1,hops⟩:=Cv.1 hops;obtain ⟨o2,l2,rfl,h2,hops⟩:=Cv.1 hops;obtain ⟨o3,l3,rfl,h3,hops⟩:=Cv.1 hops;obtain rfl:=bSb.1 hops;obtain ⟨q0,h0⟩:=Prod.mk.inj h0;obtain ⟨d0,g0⟩:=Prod.mk.inj h0;obtain ⟨q1,h1⟩:=Prod.mk.inj h1;obtain ⟨d1,g1⟩:=Prod.mk.inj h1;obtain ⟨q2,h2⟩:=Prod.mk.inj h2;obtain ⟨d2,g2⟩:=Prod.mk.inj h2;obtain ⟨q3,h3⟩:=Prod.mk.inj h3;obtain ⟨d3,g3⟩:=Prod.mk.inj h3;have hsz:a.tmps.size=161:=hs.size;have V12:a.eval (.tmp 12) = .map (some mb):=hs.slot rfl;have V16:a.eval (.tmp 16) = .int .i64 n:=hs.slot rfl;have hmb:w.heap[mb]? = some (.map es cl):=hs.has (mb,.map es cl) (gD _ hm);refine wp_region_lit (sI (id:=20) g0 (lS (v := .map (some mb)) q0 V12) (sI (id:=20) g1 (lS (v := .int .i64 n) q1 (by rw [d0,aO rfl];exact V16)) (sI (id:=20) g2 (ex_lookup (v := .map (some mb)) (u := .int .i64 n) (r:=lookV L n) q2 (by rw [d0,d1,aO rfl,aL (by omega)]) (by rw [d0,d1,aL (by rw [bE];omega)])
  (look_run Tryz.underlying217 Tryz.underlying3 rfl hmb hM (bQw hn))) (sI (id:=20) g3 (aJi (v:=lookV L n) q3 (by rw [d2,aL (by rw [d0,d1,bE,bE];omega)])) ?_))))
 refine wpList_nil (h _ ?_ ?_)
 ·rw [d0,d1,d2,d3]
  rw [← bOc];exact aL (by rw [bE,bE,bE];omega)
 ·have h4:=((hs.any o0.dst (.map (some mb)) (fun i hi=>by rw [d0] at hi;cases hi;rfl)).any o1.dst (.int .i64 n) (fun i hi=>by rw [d1] at hi;cases hi;rfl)).any o2.dst (lookV L n) (fun i hi=>by rw [d2] at hi;cases hi;rfl)
  have h5:=h4.put (some 17) (x := .any) (u:=lookV L n) (fun _ _ => .any _)
  rw [d3];exact h5
theorem Qt{ns ts:List Int}{mo:Int}{qs:List Int}{n:Nat}{o:Lqq}{N:Nat}(hn:n≤1000)(hg:grp ns ts n N=[]):bH Tp 0 (sub (cd Tryz.f84) ar) (aGv (fun mv=>stG ns mo qs mv n o) n (fT ns ts N)) .normal
  (aGv (fun mv=>stN ns mo qs mv n o) n (fT ns ts N)):=by
 refine bH.hand fun C0 M0 w0 a w st R B4 hΨ hd hs => ?_
 obtain ⟨mb,es,cl,L,rfl,hm,hR,hM,hG⟩:=hΨ;refine Nh (ts:=ts) (N:=N) hn (fun _ _=>True) hm hM hs fun a' hv Bh=>⟨rfl,_,R,⟨mb,es,cl,L,rfl,hm,hR,hM,hG⟩,hd,?_⟩
 have hl:lookV L n = .slice none 0 0:=by
  unfold lookV;cases h:lookE L n with
  | none=>rfl
  | some e =>
   obtain ⟨h1,h2⟩:=lookE_some h;obtain ⟨q1,q2⟩:=hG.a e h1;rw [h2,hg] at q1
   exact absurd q1 q2
 have hput:a'.put (some 17) (.slice none 0 0)=a':=by
  unfold Act.put;have hsz:a'.tmps.size=161:=Bh.size;have:a'.tmps.setIfInBounds 17 (.slice none 0 0)=a'.tmps:=by
   apply Array.ext
   ·simp
   ·intro j h1 h2
    rw [Array.getElem_setIfInBounds (by simpa using h1)]
    split
    ·rename_i e
     subst e;rw [hl,Bm,oD h2] at hv
     exact hv.symm
    ·rfl
  simp only [this]
 have h5:=Bh.put (some 17) (x := .p cX) (u := .slice none 0 0) (fun _ _ => .p _ _ (.v _))
 rw [hput] at h5
 exact h5
theorem Qu{ns ts:List Int}{mo:Int}{qs:List Int}{n:Nat}{o:Lqq}{N:Nat}{y:Int}{l:List Int}(hn:n≤1000)(hg:grp ns ts n N=y::l):bH Tp 0 (sub (cd Tryz.f84) ar) (aGv (fun mv=>stG ns mo qs mv n o) n (fT ns ts N)) .normal
  (aGv (fun mv=>stH ns mo qs mv n o y l) (n+1) (fT ns ts N)):=by
 refine bH.hand fun C0 M0 w0 a w st R B4 hΨ hd hs => ?_
 obtain ⟨mb,es,cl,L,rfl,hm,hR,hM,hG⟩:=hΨ;obtain ⟨e,he,hek⟩:=hG.b n (by rw [hg];simp)
 obtain ⟨q1,q2⟩:=hG.a e he;rw [hek,hg] at q1
 have heR:=hR e he (by rw [hek];omega)
 have hl:lookV L n=e.val:=by unfold lookV;rw [lookE_mem hM.keys he hek]
 refine Nh (ts:=ts) (N:=N) hn (fun _ _=>True) hm hM hs fun a' hv Bh=>⟨rfl,_,R.filter (fun p=>p.1 != e.b),⟨mb,es,cl,L,rfl,sP.2 ⟨hm,by simpa using (hM.b_mb he).symm⟩,fun e' Jp hk=>sP.2 ⟨hR e' Jp (by omega),?_⟩,hM,hG⟩,fun p hp=>hd p ((sP.1 hp).1),?_⟩
 ·simp only [Ent.blk,bne_iff_ne,ne_eq]
  intro hb;have:=hM.b_inj Jp he hb;rw [this,hek] at hk
  omega
 ·have h6:=Bh.less (R':=e.blk::(R.filter (fun p=>p.1 != e.b)++C0.R)) (fun p hp=>by
   rcases eO.1 hp with rfl | hp
   ·exact gD _ heR
   ·rcases dY.1 hp with hp | hp
    ·exact gD _ ((sP.1 hp).1)
    ·exact oE _ hp)
  obtain ⟨i,hi,hsz⟩:=Gb;have hok:=hM.ok e he;have hat:=hok.at_;obtain ⟨r1,r2⟩:=wJ (w:=w) (fun _=>True) hat
  have h7:=h6.hand (k:=1) (d:=17) (n:=e.l.length) (cap:=e.cap) (cs:=e.l.map aA) (i:=i) (fun p hp=>by
    rcases dY.1 hp with hp | hp
    ·simpa using (sP.1 hp).2
    ·exact fun h=>hd e.blk heR p hp h.symm) (by omega) (fun o ho=>by cases ho) (by rw [hv,hl];rfl) hi (by rw [hsz,Nat.mul_one];exact hok.sz) (by rw [hsz];simp) hok.le hok.cap
   (fun F j hj=>(wJ (w:=w) F hat).1 j hj) r2
  rw [q1] at h7
  exact h7
end CU
end KV
end Go.Proofs
end
section
namespace Go.Proofs
open KC Go.RowKit
namespace KV
open Tryz
namespace CU

abbrev cGc(ns:List Int)(mo:Int)(qs:List Int)(mv:PV)(ts:List Int)(i:Nat):St:=⟨fr 161 [(1,(.p (aC ns))),(2,(.p (aA mo))),(3,(.p (aC qs))),(12,(.p mv)),(63,(.p (aC ts))),(64,(.p (aA (ts.length:Int)))),(65,(.p (aA (i:Int)))),(66,(.p (blP (decide ((i:Int)<(ts.length:Int))))))],[]⟩
abbrev cGd(ns:List Int)(mo:Int)(qs:List Int)(mv:PV)(n:Nat)(o:Lqq):St:=⟨fr 161 [(1,(.p (aC ns))),(2,(.p (aA mo))),(3,(.p (aC qs))),(12,(.p mv)),(15,(.own 0)),(85,(.p (aA (n:Int)))),(86,(.p (blP (decide ((n:Int)<(31:Int))))))],[some (.row 163 o.length (o.flatten.map aA))]⟩
theorem bJs{ns ts:List Int}{mo:Int}{qs:List Int}(hl:ns.length=ts.length)(hw:∀ k∈ns,(Lit.int .i64 k).wf=true)(hN:ts.length≤1000) :
  bH Tp 0 (sub (cd Tryz.f84) [1,1,1,1,0,1]) (aRx (fun mv=>stB ns mo qs mv ts 0) (fT ns ts 0)) .normal (aRx (fun mv=>stB ns mo qs mv ts ts.length) (fT ns ts ts.length)):=by
 rw [show sub (cd Tryz.f84) [1,1,1,1,0,1] = .block 1 (.loop (sub (cd Tryz.f84) cb)) from by kernel_rfl]
 refine bH.block (mZ.code (mZ.times ts.length (fun i=>aRx (fun mv=>stB ns mo qs mv ts i) (fT ns ts i)) (fun i hi => ?_) ?_ (by simp)))
 ·rw [show sub (cd Tryz.f84) cb = .seq (sub (cd Tryz.f84) c9) (.seq (sub (cd Tryz.f84) bz) (.seq (.block 2 (.seq (sub (cd Tryz.f84) [1,1,1,1,0,1,0,0,1,1,0,0,0]) (sub (cd Tryz.f84) ay))) (sub (cd Tryz.f84) [1,1,1,1,0,1,0,0,1,1,1]))) from by kernel_rfl]
  obtain ⟨k,hk⟩:∃ k,ns[i]? = some k:=⟨_,An (by omega)⟩
  obtain ⟨x,hx⟩:∃ x,ts[i]? = some x:=⟨_,An hi⟩;have hr:bH Tp 0 (sub (cd Tryz.f84) ay) (aRx (fun mv=>stD ns mo qs mv ts i x) (fT ns ts i)) .normal (aRx (fun mv=>stD ns mo qs mv ts i x) (fT ns ts (i+1))) :=
   U9 (G:=fT ns ts i) (G':=fT ns ts (i+1)) hk (hw k (Br hk)) (fun L hG e he=>by
    rw [(hG.a e he).1];have:=bBn ns ts e.k i;omega) (fun L e mb es hG hM hek hel=>hG.step hk hx e hek hel)
  exact bH.seq (bH.ofM (f':=fun mv=>cGc ns mo qs mv ts i) fun mb=>bQy) (bH.seq (bH.ofM (f':=fun mv=>stB ns mo qs mv ts i) fun mb=>bXk (by omega)) (bH.seq (bH.blockn (bH.seq (bH.ofM (f':=fun mv=>stD ns mo qs mv ts i x) fun mb=>cEm hx) hr)) (bH.ofM (f:=fun mv=>stD ns mo qs mv ts i x) (f':=fun mv=>stB ns mo qs mv ts (i+1)) fun mb=>cEn (aM (by omega)))))
 ·rw [show sub (cd Tryz.f84) cb = .seq (sub (cd Tryz.f84) c9) (.seq (sub (cd Tryz.f84) bz) (sub (cd Tryz.f84) [1,1,1,1,0,1,0,0,1,1])) from by kernel_rfl]
  exact bH.seq (bH.ofM (f':=fun mv=>cGc ns mo qs mv ts ts.length) fun mb=>bQy) (bH.seqx (bH.ofM fun mb=>bXl (by omega)) (by simp))

def cGe(mo:Int)(l:List Int):Int:=((cC l).take (min mo.toNat l.length)).sum
def aRv(ns ts:List Int)(mo:Int)(N g:Nat):Lqq:=if grp ns ts g N=[] then [] else [[(g:Int),1,cGe mo (grp ns ts g N),0]]
def kJ(ns ts:List Int)(mo:Int)(N n:Nat):Lqq:=(List.range n).flatMap (aRv ns ts mo N)
theorem sM(ns ts:List Int)(mo:Int)(N n:Nat):kJ ns ts mo N (n+1)=kJ ns ts mo N n++aRv ns ts mo N n:=by
 unfold kJ;rw [List.range_succ,List.flatMap_append,List.flatMap_singleton]
theorem aRw(ns ts:List Int)(mo:Int)(N n:Nat):(kJ ns ts mo N n).length≤n:=by
 induction n with
 | zero=>simp [kJ]
 | succ n ih =>
  rw [sM,kU];have:(aRv ns ts mo N n).length≤1:=by unfold aRv;split <;> simp
  omega
theorem sum_bd{l:List Int}(h:∀ x∈l,0≤x∧x≤1000000):0≤l.sum∧l.sum≤1000000*l.length:=by
 induction l with
 | nil=>simp
 | cons x r ih =>
  have h1:=h x (gO ..);have h2:=ih fun y hy=>h y (B3 _ hy)
  rw [List.sum_cons,oF];omega
theorem bXj{ns ts:List Int}{g x:Int}{i:Nat}(h:x∈grp ns ts g i):x∈ts:=by
 unfold grp at h
 obtain ⟨p,hp,hx⟩:=List.mem_filterMap.1 h
 split at hx
 ·cases hx
  exact (List.of_mem_zip (List.mem_of_mem_take hp)).2
 ·cases hx
theorem bJt{l:List Int}{x:Int}:x∈cC l↔x∈l:=isort_mem _ _ _
theorem bJu(l:List Int):(cC l).length=l.length:=isort_length _ _

theorem bJv{ns ts:List Int}{mo:Int}{qs:List Int}(hl:ns.length=ts.length)(hN:ts.length≤12)(hmo:1≤mo∧mo≤12)(hts:∀ x∈ts,0≤x∧x≤1000000) :
  bH Tp 0 (sub (cd Tryz.f84) [1,1,1,1,1,1,0,1]) (aGv (fun mv=>stF ns mo qs mv 0 []) 0 (fT ns ts ts.length)) .normal (aGv (fun mv=>stF ns mo qs mv 31 (kJ ns ts mo ts.length 31)) 31 (fT ns ts ts.length)):=by
 rw [show sub (cd Tryz.f84) [1,1,1,1,1,1,0,1] = .block 3 (.loop (sub (cd Tryz.f84) bv)) from by kernel_rfl]
 refine bH.block (mZ.code (mZ.times 31 (fun n=>aGv (fun mv=>stF ns mo qs mv n (kJ ns ts mo ts.length n)) n (fT ns ts ts.length)) (fun n hn => ?_) ?_ (by simp)))
 ·rw [show sub (cd Tryz.f84) bv = .seq (sub (cd Tryz.f84) bn) (.seq (sub (cd Tryz.f84) bc) (.seq (.block 4 (.seq (sub (cd Tryz.f84) [1,1,1,1,1,1,0,1,0,0,1,1,0,0,0]) (.seq (sub (cd Tryz.f84) ar) (.seq (sub (cd Tryz.f84) an) (sub (cd Tryz.f84) ao))))) (sub (cd Tryz.f84) [1,1,1,1,1,1,0,1,0,0,1,1,1]))) from by kernel_rfl]
  refine bH.seq (bH.ofK (f':=fun mv=>cGd ns mo qs mv n (kJ ns ts mo ts.length n)) (dJ _) fun mb=>bQz) (bH.seq (bH.ofK (f':=fun mv=>stF ns mo qs mv n (kJ ns ts mo ts.length n)) (dJ _) fun mb=>bXm (by omega)) (bH.seq (Ψ1:=aGv (fun mv=>stF ns mo qs mv n (kJ ns ts mo ts.length (n+1))) (n+1) (fT ns ts ts.length)) ?_ (bH.ofK (dJ _) fun mb=>cEs (aM (by omega)))))
  have hol:=aRw ns ts mo ts.length n;cases hg:grp ns ts n ts.length with
  | nil =>
   have e1:kJ ns ts mo ts.length (n+1)=kJ ns ts mo ts.length n:=by rw [sM,aRv,if_pos hg,List.append_nil]
   rw [e1];exact bH.block (bH.seq (bH.ofK (f':=fun mv=>stG ns mo qs mv n (kJ ns ts mo ts.length n)) (dJ _) fun mb=>bRa) (bH.seq (Qt (by omega) hg) (bH.seqx (bH.ofK (by omega) fun mb=>bXo) (by simp))))
  | cons y l =>
   have hgl:=bBn ns ts n ts.length;rw [hg] at hgl
   have hd:=bJu (y::l);have hmin:(if mo<((cC (y::l)).length:Int) then mo else ((cC (y::l)).length:Int))=((min mo.toNat (y::l).length:Nat):Int):=by
    rw [hd];split <;> omega
   have hle:min mo.toNat (y::l).length≤(cC (y::l)).length:=by rw [hd];omega
   have htk:((cC (y::l)).take (min mo.toNat (y::l).length)).length=min mo.toNat (y::l).length:=by rw [kV];omega
   have hmem:∀ j,∀ x∈(((cC (y::l)).take (min mo.toNat (y::l).length)).take j),0≤x∧x≤1000000:=fun j x hx=>hts x (bXj (g:=(n:Int)) (i:=ts.length) (by rw [hg];exact bJt.1 (List.mem_of_mem_take (List.mem_of_mem_take hx))))
   have e1:kJ ns ts mo ts.length (n+1)=kJ ns ts mo ts.length n++[[(n:Int),1,((cC (y::l)).take (min mo.toNat (y::l).length)).sum,0]]:=by
    rw [sM,aRv,if_neg (by rw [hg];simp),hg];rfl
   refine bH.blockn (bH.seq (bH.ofK (f':=fun mv=>stG ns mo qs mv n (kJ ns ts mo ts.length n)) (dJ _) fun mb=>bRa) (bH.seq (Qu (by omega) hg) (bH.seq (bH.ofK (f':=fun mv=>stH ns mo qs mv n (kJ ns ts mo ts.length n) y l) (dJ _) fun mb=>cEq) (bH.ofK (dJ _) fun mb=>cEr (l0:=(cC (y::l)).take (min mo.toNat (y::l).length)) ?_ (by simp) ?_ ?_ ?_ ?_ ?_ ?_ ?_ ?_))))
   ·omega
   ·rw [hmin];omega
   ·rw [hmin,htk];omega
   ·rw [hmin,aTw,List.drop_zero,Bt,Nat.div_self (by rw [hd];simp),Nat.mul_one,List.map_take]
   ·unfold small;rw [htk];simp only [oF] at hgl ⊢;omega
   ·intro j
    have:=sum_bd (hmem j);have h2:(((cC (y::l)).take (min mo.toNat (y::l).length)).take j).length≤12:=by
     rw [kV,htk];simp only [oF] at hgl ⊢;omega
    unfold inR;omega
   ·exact ⟨rfl,by omega⟩
   ·rw [e1,kU];rfl
   ·rw [e1,bDm,jJ];rfl
 ·rw [show sub (cd Tryz.f84) bv = .seq (sub (cd Tryz.f84) bn) (.seq (sub (cd Tryz.f84) bc) (sub (cd Tryz.f84) [1,1,1,1,1,1,0,1,0,0,1,1])) from by kernel_rfl]
  exact bH.seq (bH.ofK (f':=fun mv=>cGd ns mo qs mv 31 (kJ ns ts mo ts.length 31)) (dJ _) fun mb=>bQz) (bH.seqx (bH.ofK (dJ _) fun mb=>bXn (by omega)) (by simp))
end CU
end KV
end Go.Proofs
end
