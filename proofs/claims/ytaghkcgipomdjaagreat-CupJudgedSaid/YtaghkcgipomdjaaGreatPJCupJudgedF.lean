/- Parts of the proof of JCupJudged: laws of walks, contracts of functions, plain models. No condition. -/
import Derived.Test.YtaghkcgipomdjaaGreatPJCupJudgedE
set_option linter.unusedVariables false
set_option linter.unusedSimpArgs false
set_option maxRecDepth 100000
section
namespace Go.Proofs
open KC Go.RowKit
namespace KV
open Tryz
namespace CU

theorem aE.count{P:Program}{k:Nat}{b:Code}{e:Ex}{R:St}(N:Nat)(S:Nat→St)(hs:∀ i,i<N→aB P k b (S i) .normal (S (i+1)))(hx:aB P k b (S N) e R)(he:e ≠ .normal):aE P k b (S 0) e R:=by
  have key:∀ d i,i+d=N→aE P k b (S i) e R:=by
    intro d
    induction d with
    | zero => intro i hi;obtain rfl:i=N:=by omega
              exact .exit hx he
    | succ d ih=>intro i hi;exact .step (hs i (by omega)) (ih (i+1) (by omega))
  exact key N 0 (by omega)

theorem fl_setf{k i f:Nat}{L:Lqq}{x:List Int}{y:Int}(h:uni k L)(hx:L[i]? = some x)(hf:f<k):(L.flatten.map aA).set (i*k+f) (aA y)=((L.set i (x.set f y)).flatten.map aA):=by
 have hi:=(Bg.1 hx).1;have hxl:x.length=k:=h x (Br hx);have e:L=L.take i++x::L.drop (i+1):=by
  conv=>lhs;rw [← bDl i L]
  congr 1
  rw [aFy hi]
  congr 1
  exact (Bg.1 hx).2
 have hA:(L.take i).flatten.length=i*k:=by
  rw [lF (fun y hy=>h y (List.mem_of_mem_take hy)),kV]
  congr 1;omega
 have hset:L.set i (x.set f y)=L.take i++(x.set f y)::L.drop (i+1):=by
  rw [List.set_eq_take_append_cons_drop,if_pos hi]
 rw [hset,← List.map_set]
 congr 1
 conv=>lhs;rw [e]
 rw [bDm,aAj,bDm,aAj];rw [List.set_append_right _ _ (by omega),hA,Nat.add_sub_cancel_left,List.set_append_left _ _ (by omega)]

def iT(P:List Int)(v:Int)(j:Nat):Int:=1+(((P.take j).filter fun q=>decide (v<q)).length:Int)
theorem bJm(P:List Int)(v:Int):iT P v 0=1:=by simp [iT]
theorem bJn{P:List Int}{v q:Int}{j:Nat}(h:P[j]? = some q):iT P v (j+1)=if v<q then iT P v j+1 else iT P v j:=by
 unfold iT;rw [List.take_add_one,h,aFz,kU]
 split <;> rename_i h2 <;> simp [h2] <;> omega
theorem bBm(P:List Int)(v:Int)(j:Nat):1≤iT P v j∧iT P v j≤1+j:=by
 unfold iT;have:=jY (aTv (fun q=>decide (v<q)) (P.take j)) (List.length_take_le j P)
 omega
def bJo(qs:List Int)(rk:Int):Int:=if rk≤qs.length then qs.getD (rk-1).toNat 0 else 0
abbrev Bc(o:Lqq):List Int:=o.map fun x=>x.getD 2 0
def aGu(qs P x:List Int):List Int:=[x.getD 0 0,iT P (x.getD 2 0) P.length,x.getD 2 0,bJo qs (iT P (x.getD 2 0) P.length)]
def cGb(qs:List Int)(o:Lqq):Lqq:=isort (ltK 1) (o.map (aGu qs (Bc o)))
def fB(qs:List Int)(o:Lqq)(i:Nat):Lqq:=(o.take i).map (aGu qs (Bc o))++o.drop i
def Pt(P:List Int)(r:Lqq):Prop:=r.length=P.length∧∀ (j:Nat) (q:Int),P[j]? = some q→∃ a b d,r[j]? = some [a,b,q,d]
theorem Pt.uni{P:List Int}{r:Lqq}(h:Pt P r):uni 4 r:=fun x hx=>by
 obtain ⟨j,hj,rfl⟩:=List.getElem_of_mem hx;obtain ⟨a,b,d,hr⟩:=h.2 j (P[j]'(by rw [← h.1];exact hj)) (An _)
 rw [An hj] at hr
 rw [Option.some.inj hr];rfl
theorem Pt.set{P:List Int}{r:Lqq}{i:Nat}{a b q d:Int}(h:Pt P r)(hq:P[i]? = some q):Pt P (r.set i [a,b,q,d]):=by
 refine ⟨by rw [lP];exact h.1,fun j q' hj => ?_⟩
 have hjl:=(Bg.1 hj).1;have hrl:=h.1;rw [List.getElem?_set]
 by_cases e:i=j
 ·subst e
  rw [hq] at hj;cases hj
  rw [if_pos rfl,if_pos (by omega)]
  exact ⟨a,b,d,rfl⟩
 ·rw [if_neg e];exact h.2 j q' hj
def bXg(o:Lqq):Prop:=∀ x∈o,∃ g s,x=[g,1,s,0]
theorem bJp(ns ts:List Int)(mo:Int)(N n:Nat):bXg (kJ ns ts mo N n):=fun x hx=>by
 unfold kJ at hx
 obtain ⟨g,hg,hx⟩:=List.mem_flatMap.1 hx;unfold aRv at hx
 split at hx
 ·simp at hx
 ·simp at hx;exact ⟨_,_,hx⟩
theorem aMs{qs:List Int}{o:Lqq}{i j:Nat}(hi:i≤o.length):(fB qs o i)[j]? = if j<i then (o[j]?).map (aGu qs (Bc o)) else o[j]? := by
 unfold fB
 by_cases h:j<i
 ·rw [if_pos h,aFx (by rw [Bt,kV];omega),gF,List.getElem?_take,if_pos h]
 ·rw [if_neg h,aKl (by rw [Bt,kV];omega),Bt,kV,List.getElem?_drop]
  congr 1;omega
theorem sL{qs:List Int}{o:Lqq}{i:Nat}(hi:i≤o.length):(fB qs o i).length=o.length:=by
 unfold fB;rw [kU,Bt,kV,bMc];omega
theorem bQo{qs:List Int}{o:Lqq}{i:Nat}(hb:bXg o)(hi:i≤o.length):Pt (Bc o) (fB qs o i):=by
 refine ⟨by rw [sL hi,Bt],fun j q hj => ?_⟩
 rw [aMs hi];rw [gF] at hj
 cases ho:o[j]? with
 | none=>rw [ho] at hj;cases hj
 | some x =>
  rw [ho] at hj
  obtain ⟨g,s,rfl⟩:=hb x (Br ho);simp at hj
  subst hj
  split
  ·exact ⟨_,_,_,rfl⟩
  ·exact ⟨_,_,_,rfl⟩
theorem bQp(qs:List Int)(o:Lqq):fB qs o 0=o:=by simp [fB]
theorem bXh(qs:List Int)(o:Lqq):fB qs o o.length=o.map (aGu qs (Bc o)):=by simp [fB]
theorem bQq{qs:List Int}{o:Lqq}{i:Nat}{x:List Int}(h:o[i]? = some x):fB qs o (i+1)=(fB qs o i).set i (aGu qs (Bc o) x):=by
 have hi:=(Bg.1 h).1;apply List.ext_getElem?;intro j;rw [aMs (by omega),List.getElem?_set,sL (by omega),aMs (by omega)]
 by_cases e:i=j
 ·subst e
  rw [if_pos (by omega),if_pos rfl,if_pos hi,h];rfl
 ·rw [if_neg e]
  by_cases e2:j<i
  ·rw [if_pos (by omega),if_pos e2]
  ·rw [if_neg (by omega),if_neg e2]

section
variable {qs:List Int} {o:Lqq}
theorem bJq(hb:bXg o)(ho:o.length≤31){i:Nat}{g s:Int}(hx:o[i]? = some [g,1,s,0]) :
  aE Tp 0 (sub (cd Tryz.f84) ak) (jW qs o i (fB qs o i) 0 (fB qs o i).length ((fB qs o i).flatten.map aA)) (.exit 7)
   (jW qs o i (fB qs o i) o.length ((fB qs o i).set i [g,iT (Bc o) s o.length,s,0]).length (((fB qs o i).set i [g,iT (Bc o) s o.length,s,0]).flatten.map aA)):=by
 have hi:=(Bg.1 hx).1;have hml:(fB qs o i).length=o.length:=sL (by omega)
 have hpt:Pt (Bc o) (fB qs o i):=bQo hb (by omega)
 have hpi:(Bc o)[i]? = some s:=by rw [gF,hx];rfl
 have hmi:(fB qs o i)[i]? = some [g,1,s,0]:=by rw [aMs (by omega),if_neg (by omega),hx]
 have e0:(fB qs o i).set i [g,iT (Bc o) s 0,s,0]=fB qs o i:=by
  rw [bJm];obtain ⟨h1,h2⟩:=Bg.1 hmi;rw [← h2];exact List.set_getElem_self h1
 have:=aE.count (P:=Tp) (k:=0) (b:=sub (cd Tryz.f84) ak) (e := .exit 7) (R:=jW qs o i (fB qs o i) o.length ((fB qs o i).set i [g,iT (Bc o) s o.length,s,0]).length (((fB qs o i).set i [g,iT (Bc o) s o.length,s,0]).flatten.map aA)) o.length
  (fun j=>jW qs o i (fB qs o i) j ((fB qs o i).set i [g,iT (Bc o) s j,s,0]).length (((fB qs o i).set i [g,iT (Bc o) s j,s,0]).flatten.map aA)) (fun j hj => ?_) (bKc (by rw [hml];omega)) (by simp)
 ·rw [e0] at this;exact this
 ·have hr:Pt (Bc o) ((fB qs o i).set i [g,iT (Bc o) s j,s,0]):=hpt.set hpi
  obtain ⟨q,hq⟩:∃ q,(Bc o)[j]? = some q:=⟨_,An (by rw [Bt];omega)⟩
  obtain ⟨a,b,d,hrj⟩:=hr.2 j q hq;have hri:((fB qs o i).set i [g,iT (Bc o) s j,s,0])[i]? = some [g,iT (Bc o) s j,s,0]:=by
   rw [List.getElem?_set,if_pos rfl,if_pos (by omega)]
  have hbd:=bBm (Bc o) s j;have hsucc:=bJn (v:=s) hq
  by_cases hlt:s<q
  ·rw [if_pos hlt] at hsucc
   refine bKa (r':=(fB qs o i).set i [g,iT (Bc o) s (j+1),s,0]) (by rw [hml];omega) hrj hr.uni hri hlt (by show _∧_;omega) ?_ (aM (by omega)) rfl (by rw [lP,lP]) ?_
   ·rw [Bt,lF hr.uni,lP,hml];omega
   ·rw [fl_setf hr.uni hri (by decide),List.set_set,hsucc];rfl
  ·rw [if_neg hlt] at hsucc
   rw [hsucc];exact bKb (by rw [hml];omega) hrj hr.uni hri (by omega) (aM (by omega)) rfl

theorem bJr(hb:bXg o)(ho:o.length≤31)(hqs:qs.length≤31):aE Tp 0 (sub (cd Tryz.f84) [1,1,1,1,1,1,1,0,1,0,0]) (lJ qs o 0 o.length (o.flatten.map aA)) (.exit 5)
  (lJ qs o o.length (o.map (aGu qs (Bc o))).length ((o.map (aGu qs (Bc o))).flatten.map aA)):=by
 have:=aE.count (P:=Tp) (k:=0) (b:=sub (cd Tryz.f84) [1,1,1,1,1,1,1,0,1,0,0]) (e := .exit 5) (R:=lJ qs o o.length (o.map (aGu qs (Bc o))).length ((o.map (aGu qs (Bc o))).flatten.map aA)) o.length
  (fun i=>lJ qs o i (fB qs o i).length ((fB qs o i).flatten.map aA)) (fun i hi => ?_) (by rw [bXh];exact bJz (by omega)) (by simp)
 ·rw [bQp] at this;exact this
 ·obtain ⟨g,s,hgs⟩:=hb o[i] (eE hi)
  have hx:o[i]? = some [g,1,s,0]:=by rw [An hi,hgs]
  have hL:=bJq (qs:=qs) hb ho hx;have hml:(fB qs o i).length=o.length:=sL (by omega)
  have hpt:Pt (Bc o) (fB qs o i):=bQo hb (by omega)
  have hpi:(Bc o)[i]? = some s:=by rw [gF,hx];rfl
  have hr:Pt (Bc o) ((fB qs o i).set i [g,iT (Bc o) s o.length,s,0]):=hpt.set hpi;have hri:((fB qs o i).set i [g,iT (Bc o) s o.length,s,0])[i]? = some [g,iT (Bc o) s o.length,s,0]:=by
   rw [List.getElem?_set,if_pos rfl,if_pos (by omega)]
  have hbd:=bBm (Bc o) s o.length;have hpl:(Bc o).length=o.length:=Bt _;have efin:fB qs o (i+1)=(fB qs o i).set i [g,iT (Bc o) s o.length,s,bJo qs (iT (Bc o) s o.length)]:=by
   rw [bQq hx];unfold aGu;rw [hpl];rfl
  by_cases hle:iT (Bc o) s o.length≤(qs.length:Int)
  ·have hq:qs[(iT (Bc o) s o.length-1).toNat]? = some (bJo qs (iT (Bc o) s o.length)):=by
    unfold bJo;rw [if_pos hle,Bj,An (by omega)];rfl
   refine bJx (by omega) hL hri hr.uni hle (by show _∧_;omega) hq (by omega) ?_ (aM (by omega)) rfl (by rw [sL (by omega),lP,hml]) ?_
   ·rw [Bt,lF hr.uni,lP,hml];omega
   ·rw [fl_setf hr.uni hri (by decide),List.set_set,efin];rfl
  ·have hq:bJo qs (iT (Bc o) s o.length)=0:=by unfold bJo;rw [if_neg hle]
   rw [hq] at efin
   refine bJy (by omega) hL hri hr.uni (by omega) (aM (by omega)) rfl (by rw [sL (by omega),lP,hml]) (by rw [efin])
end

def oP(c:KC.Cup)(ns:List Int)(mo:Int)(qs:List Int):Lqq:=cGb qs (kJ ns (KC.totalsM c) mo (KC.totalsM c).length 31)
def bXi(c:KC.Cup)(ns:List Int)(mo:Int)(qs:List Int):Int :=
 if KC.checkP c≠0 then KC.checkP c else if (ns.length:Int)≠c.sk∨within (qs.length:Int) 1 31=false then 2 else
 if (ns.all fun x=>within x 0 30)=false∨within mo 1 12=false∨(qs.all fun x=>within x 0 20)=false then 3 else if KC.fallsB qs=false then 4 else 0
theorem aRu:∀ {S T:List Int},S.Nodup→(∀ g∈S,g∈T)→S.length≤T.length
 | [],_,_,_=>Nat.zero_le _
 | a::S,T,h,hs=>by
  obtain ⟨h1,h2⟩:=List.nodup_cons.1 h;have ha:=hs a (gO ..);have:=aRu (T:=T.erase a) h2 (fun g hg=>(List.mem_erase_of_ne (fun e=>h1 (by rw [← e];exact hg))).2 (hs g (B3 _ hg)))
  rw [List.length_erase_of_mem ha] at this
  have:0<T.length:=List.length_pos_of_mem ha;rw [oF];omega
theorem bQr(ns ts:List Int)(mo:Int)(N n:Nat)(h:(ns.zip ts).length≤12):(kJ ns ts mo N n).length≤12:=by
 have key:∀ n,∃ S:List Int,S.Nodup∧S.length=(kJ ns ts mo N n).length∧(∀ g∈S,g∈(ns.zip ts).map (·.1))∧∀ g∈S,g<n:=by
  intro n
  induction n with
  | zero=>exact ⟨[],.nil,rfl,by simp,by simp⟩
  | succ n ih =>
   obtain ⟨S,h1,h2,h3,h4⟩:=ih;rw [sM];unfold aRv
   split
   ·exact ⟨S,h1,by simpa using h2,h3,fun g hg=>by have:=h4 g hg;omega⟩
   ·rename_i hg
    refine ⟨(n:Int)::S,List.nodup_cons.2 ⟨fun hin=>by have:=h4 _ hin;omega,h1⟩,by simp [h2],fun g K6 => ?_,fun g K6 => ?_⟩
    ·rcases eO.1 K6 with rfl | K6
     ·obtain ⟨x,hx⟩:=List.exists_mem_of_ne_nil _ hg
      unfold grp at hx
      obtain ⟨p,hp,hx⟩:=List.mem_filterMap.1 hx
      split at hx
      ·rename_i he
       exact Bi.2 ⟨p,List.mem_of_mem_take hp,he⟩
      ·cases hx
     ·exact h3 g K6
    ·rcases eO.1 K6 with rfl | K6
     ·omega
     ·have:=h4 g K6;omega
 obtain ⟨S,h1,h2,h3,_⟩:=key n;rw [← h2];have:=aRu h1 h3;rw [Bt] at this
 omega
theorem bQs{c:KC.Cup}{ns:List Int}{mo:Int}{qs:List Int}(hV:KC.Valid c)(hl:(ns.length:Int)=c.sk)(hns:∀ k∈ns,0≤k∧k≤30)(hmo:1≤mo∧mo≤12)(hqs:qs.length≤31)(htl:(KC.totalsM c).length=c.sk.toNat)(hts:∀ x∈KC.totalsM c,0≤x∧x≤1000000) :
  aB Tp 0 (sub (cd Tryz.f84) [1,1,1]) (stT c ns mo qs) .ret ⟨fr 161 [(8,(.p (.sl (oP c ns mo qs).length ((oP c ns mo qs).flatten.map aA)))),(9,(.p (aA 0)))],[]⟩:=by
 have s1:=hV.sk1;have s2:=hV.sk2;refine bH.ok (by kernel_rfl) ?_
 rw [show sub (cd Tryz.f84) [1,1,1] = .seq (sub (cd Tryz.f84) [1,1,1,0]) (.seq (.seq (sub (cd Tryz.f84) cz) (sub (cd Tryz.f84) [1,1,1,1,0,1])) (.seq (sub (cd Tryz.f84) [1,1,1,1,1,0]) (.seq (.seq (sub (cd Tryz.f84) [1,1,1,1,1,1,0,0]) (sub (cd Tryz.f84) [1,1,1,1,1,1,0,1])) (sub (cd Tryz.f84) [1,1,1,1,1,1,1])))) from by kernel_rfl]
 have Ng:ns.length=(KC.totalsM c).length:=by omega
 have hw:∀ k∈ns,(Lit.int .i64 k).wf=true:=fun k hk=>by
  have:=hns k hk;have h:=bQw (n:=k.toNat) (by omega)
  rwa [Int.toNat_of_nonneg this.1] at h
 refine bH.seq (U8 (ts:=KC.totalsM c)) (bH.seq (bH.seq (bH.ofM (f':=fun mv=>stB ns mo qs mv (KC.totalsM c) 0) fun mb=>cEl hV) (bJs Ng hw (by omega))) (bH.seq (bH.ofM (f':=fun mv=>⟨fr 161 [(1,(.p (aC ns))),(2,(.p (aA mo))),(3,(.p (aC qs))),(12,(.p mv)),(15,(.p cX))],[]⟩) fun mb=>cEo) (bH.seq (bH.seq ?_ (bJv (qs:=qs) Ng (by omega) hmo hts)) ?_)))
 ·refine (bH.ofM (f':=fun mv=>stF ns mo qs mv 0 []) fun mb=>cEp).mono (fun _ _ h=>h) (fun st R h => ?_)
  obtain ⟨mb,es,cl,L,h1,rfl,h3,h4⟩:=h;exact ⟨mb,es,cl,L,h1,by simp [mapR],fun e he _=>by simp [mapR];exact .inr ⟨e,he,rfl⟩,h3,h4⟩
 ·refine bH.of fun st R h=>⟨_,rfl,?_⟩
  obtain ⟨mb,es,cl,L,rfl,_⟩:=h;have hol:=aRw ns (KC.totalsM c) mo (KC.totalsM c).length 31;have hb:=bJp ns (KC.totalsM c) mo (KC.totalsM c).length 31;have hlen:(kJ ns (KC.totalsM c) mo (KC.totalsM c).length 31).length≤12:=bQr _ _ _ _ _ (by rw [List.length_zip];omega)
  refine aB.pre (g:=⟨[1,2,12,85],[0],[],[]⟩) (st1:=⟨fr 161 [(3,(.p (aC qs))),(15,(.own 0))],[some (.row 163 (kJ ns (KC.totalsM c) mo (KC.totalsM c).length 31).length ((kJ ns (KC.totalsM c) mo (KC.totalsM c).length 31).flatten.map aA))]⟩) (by kernel_rfl) ?_
  exact cEt (bJr hb hol hqs) (fun x hx=>by
   obtain ⟨y,hy,rfl⟩:=Bi.1 hx;rfl) (by rw [Bt];omega)
end CU
end KV
end Go.Proofs
end
namespace Go.Proofs
namespace KV
open Tryz
section
variable {base:Nat}
namespace CU
open KC
theorem aMw:((0:Int) != 0)=false:=by first | decide | simp
theorem aYx:((0:Int) == 0)=true:=by first | decide | simp
theorem aMx:((3:Int) == 3)=true:=by first | decide | simp
theorem bRi:((1:Int) == 1)=true:=by first | decide | simp
abbrev bY:KC.Cup:=⟨3,3,2,[10,6,4],[[1,2,3],[3,1,1]]⟩
abbrev bXs:KC.Cup:=⟨2,4,4,[10,4],[[1,2],[1,2],[1,2]]⟩
theorem oQ:FV Tp 67 [] base (.p (.agg [(aA 3),(aA 3),(aA 2),(.sl 3 [(aA 10),(aA 6),(aA 4)]),(.sl 2 [(.sl 3 [(aA 1),(aA 2),(aA 3)]),(.sl 3 [(aA 3),(aA 1),(aA 1)])])])) []:=FV.frz (FMM.fi 0 ⟨[],[],[1,4],[]⟩ func67 [] gn) (by kernel_rfl)
theorem cFg:FV Tp 82 [] base (.p (.agg [(aA 2),(aA 4),(aA 4),(.sl 2 [(aA 10),(aA 4)]),(.sl 3 [(.sl 2 [(aA 1),(aA 2)]),(.sl 2 [(aA 1),(aA 2)]),(.sl 2 [(aA 1),(aA 2)])])])) []:=FV.frz (FMM.fi 0 ⟨[],[],[1,5],[]⟩ func82 [] gn) (by kernel_rfl)
theorem bRj(h34_0:∀ base:Nat,FV Tp 19 [(.p (.agg [(aA 3),(aA 3),(aA 2),(.sl 3 [(aA 10),(aA 6),(aA 4)]),(.sl 2 [(.sl 3 [(aA 1),(aA 2),(aA 3)]),(.sl 3 [(aA 3),(aA 1),(aA 1)])])]))] base (.tup [(.p (.sl 3 [(aA 1),(aA 1),(aA 14),(aA 1),(aA 0),(aA 2),(aA 14),(aA 1),(aA 2),(aA 3),(aA 12),(aA 1)])),(pI 0)]) [])(h37_1:∀ base:Nat,FV Tp 11 [(.p (.agg [(aA 3),(aA 3),(aA 2),(.sl 3 [(aA 10),(aA 6),(aA 4)]),(.sl 2 [(.sl 3 [(aA 1),(aA 2),(aA 3)]),(.sl 3 [(aA 3),(aA 1),(aA 1)])])]))] base (.tup [(.p (.sl 3 [(aA 0),(aA 1),(aA 2)])),(pI 0)]) [])(h38_2:∀ base:Nat,FV Tp 12 [(.p (.agg [(aA 3),(aA 3),(aA 2),(.sl 3 [(aA 10),(aA 6),(aA 4)]),(.sl 2 [(.sl 3 [(aA 1),(aA 2),(aA 3)]),(.sl 3 [(aA 3),(aA 1),(aA 1)])])]))] base (.tup [(.p (.sl 0 [])),(pI 0)]) [])(h55_3:∀ base:Nat,FV Tp 21 [(.p (.agg [(aA 3),(aA 3),(aA 2),(.sl 3 [(aA 10),(aA 6),(aA 4)]),(.sl 2 [(.sl 3 [(aA 1),(aA 2),(aA 3)]),(.sl 3 [(aA 3),(aA 1),(aA 1)])])])),(pI 1)] base (.tup [(pI 3),(.p (.sl 3 [(aA 1),(aA 0),(aA 2)])),(pI 0)]) [])(h39_4:∀ base:Nat,FV Tp 23 [(.p (.sl 3 [(aA 1),(aA 1),(aA 14),(aA 1),(aA 0),(aA 2),(aA 14),(aA 1),(aA 2),(aA 3),(aA 12),(aA 1)])),(.p (.sl 3 [(aA 1),(aA 1),(aA 14),(aA 1),(aA 0),(aA 2),(aA 14),(aA 1),(aA 2),(aA 3),(aA 12),(aA 1)]))] base (pB true) [])(h25_5:∀ base:Nat,FV Tp 38 [(.p (.sl 3 [(aA 0),(aA 1),(aA 2)])),(.p (.sl 3 [(aA 0),(aA 1),(aA 2)]))] base (pB true) [])(h73_6:∀ base:Nat,FV Tp 81 [(.p (.agg [(aA 2),(aA 4),(aA 4),(.sl 2 [(aA 10),(aA 4)]),(.sl 3 [(.sl 2 [(aA 1),(aA 2)]),(.sl 2 [(aA 1),(aA 2)]),(.sl 2 [(aA 1),(aA 2)])])]))] base (.tup [(pI 3),(pI 0),(pI 0)]) [])(h56_7:∀ base:Nat,FV Tp 83 [(.p (.agg [(aA 3),(aA 3),(aA 2),(.sl 3 [(aA 10),(aA 6),(aA 4)]),(.sl 2 [(.sl 3 [(aA 1),(aA 2),(aA 3)]),(.sl 3 [(aA 3),(aA 1),(aA 1)])])])),(pI 2)] base (.tup [(.p (.sl 3 [(aA 2),(aA 3),(aA 1)])),(pI 0)]) [])(h22_8:∀ base:Nat,FV Tp 84 [(.p (.agg [(aA 3),(aA 3),(aA 2),(.sl 3 [(aA 10),(aA 6),(aA 4)]),(.sl 2 [(.sl 3 [(aA 1),(aA 2),(aA 3)]),(.sl 3 [(aA 3),(aA 1),(aA 1)])])])),(.p (.sl 3 [(aA 5),(aA 5),(aA 9)])),(pI 1),(.p (.sl 2 [(aA 4),(aA 3)]))] base (.tup [(.p (.sl 2 [(aA 5),(aA 1),(aA 14),(aA 4),(aA 9),(aA 2),(aA 12),(aA 3)])),(pI 0)]) [])(h87_9:∀ base:Nat,FV Tp 85 [(.p (.sl 2 [(aA 5),(aA 1),(aA 14),(aA 4),(aA 9),(aA 2),(aA 12),(aA 3)])),(.p (.sl 2 [(aA 5),(aA 1),(aA 14),(aA 4),(aA 9),(aA 2),(aA 12),(aA 3)]))] base (pB true) []):FV Tp 40 [] base (pB true) []:=have k1:=fk 0 oQ rfl;have k2:=fk 0 oQ rfl;have k3:=fk 0 oQ rfl;have k4:=fk 0 oQ rfl;have k5:=fk 2 cFg rfl;have k6:=fk 2 oQ rfl;have k7:=fk 2 oQ rfl;FV.fi func40 ([k1.o,.c (.tup [(.p (.sl 3 [(aA 1),(aA 1),(aA 14),(aA 1),(aA 0),(aA 2),(aA 14),(aA 1),(aA 2),(aA 3),(aA 12),(aA 1)])),(pI 0)]) [],k2.o,.c (.tup [(.p (.sl 3 [(aA 0),(aA 1),(aA 2)])),(pI 0)]) [],k3.o,.c (.tup [(.p (.sl 0 [])),(pI 0)]) [],k4.o,.c (.tup [(pI 3),(.p (.sl 3 [(aA 1),(aA 0),(aA 2)])),(pI 0)]) []]++rF 15++[.c (pB true) []]++rF 5++[.c (pB true) []]++rF 10++[k5.o,.c (.tup [(pI 3),(pI 0),(pI 0)]) [],k6.o,.c (.tup [(.p (.sl 3 [(aA 2),(aA 3),(aA 1)])),(pI 0)]) [],k7.o,.c (.tup [(.p (.sl 2 [(aA 5),(aA 1),(aA 14),(aA 4),(aA 9),(aA 2),(aA 12),(aA 3)])),(pI 0)]) [(2,.dead),(3,.dead)]]++rT 19++[.x (aA 1)]++rT 7++[.c (pB true) [],bT]) (gc bRi (gt (FC Tp 85 [(.p (.sl 2 [(aA 5),(aA 1),(aA 14),(aA 4),(aA 9),(aA 2),(aA 12),(aA 3)])),(.own 4)] [(4,(.row 163 2 [(aA 5),(aA 1),(aA 14),(aA 4),(aA 9),(aA 2),(aA 12),(aA 3)]))] 5 (pB true) []) (fv (h87_9 _)) (B7 bRi (Ap aMx (gr (aA 1) (gc aMx (gt (0≤(2:Int)∧(2:Int)<3∧2<[(aA 2),(aA 3),(aA 1)].length) (by first | decide | simp) (Ap aMx (Bf aYx (Aq aMx (Fy aYx (gc aYx (gt (FC Tp 84 [(.p (.agg [(aA 3),(aA 3),(aA 2),(.sl 3 [(aA 10),(aA 6),(aA 4)]),(.sl 2 [(.sl 3 [(aA 1),(aA 2),(aA 3)]),(.sl 3 [(aA 3),(aA 1),(aA 1)])])])),(.own 2),(pI 1),(.own 3)] [(2,(.row 3 3 [(aA 5),(aA 5),(aA 9)])),(3,(.row 3 2 [(aA 4),(aA 3)]))] 4 (.tup [(.p (.sl 2 [(aA 5),(aA 1),(aA 14),(aA 4),(aA 9),(aA 2),(aA 12),(aA 3)])),(pI 0)]) [(2,.dead),(3,.dead)]) (FV.close (ids:=[2,3]) (A2:=[(.p (.agg [(aA 3),(aA 3),(aA 2),(.sl 3 [(aA 10),(aA 6),(aA 4)]),(.sl 2 [(.sl 3 [(aA 1),(aA 2),(aA 3)]),(.sl 3 [(aA 3),(aA 1),(aA 1)])])])),(.p (.sl 3 [(aA 5),(aA 5),(aA 9)])),(pI 1),(.p (.sl 2 [(aA 4),(aA 3)]))]) (h22_8 _) (by kernel_rfl)) (gc k7 (gc (fk 2 (h56_7 _) rfl) (gc k6 (gc (fk 2 (h73_6 _) rfl) (gc k5 (gt (((3:Int) != 3)=false) (by first | decide | simp) (Aq aMw (gf (gf (gf (gf (gf (gf (gt (FC Tp 38 [(.p (.sl 3 [(aA 0),(aA 1),(aA 2)])),(.own 1)] [(1,(.row 3 3 [(aA 0),(aA 1),(aA 2)]))] 2 (pB true) []) (fv (h25_5 _)) (gf (gf (gf (Ap aMw (gt (FC Tp 23 [(.p (.sl 3 [(aA 1),(aA 1),(aA 14),(aA 1),(aA 0),(aA 2),(aA 14),(aA 1),(aA 2),(aA 3),(aA 12),(aA 1)])),(.own 0)] [(0,(.row 54 3 [(aA 1),(aA 1),(aA 14),(aA 1),(aA 0),(aA 2),(aA 14),(aA 1),(aA 2),(aA 3),(aA 12),(aA 1)]))] 1 (pB true) []) (fv (h39_4 _)) (Fy aMw (Ea aMw (gc (fk 0 (h55_3 _) rfl) (gc k4 (gc (fk 0 (h38_2 _) rfl) (gc k3 (gc (fk 0 (h37_1 _) rfl) (gc k2 (gc (fk 0 (h34_0 _) rfl) (gc k1 gn))))))))))))))))))))))))))))))))))))))))))
end CU
end
end KV
end Go.Proofs
section
namespace Go.Proofs
namespace KC
def aYu(x:Int):List Int→List Int
 | []=>[x]
 | y::r=>if x≤y then x::y::r else y::aYu x r
def sortI:List Int→List Int
 | []=>[]
 | x::r=>aYu x (sortI r)
theorem yX(x:Int):∀ l,(aYu x l).Perm (x::l)
 | [] => .refl _
 | y::r=>by
  unfold aYu
  split
  ·exact .refl _
  ·exact ((yX x r).cons y).trans (List.Perm.swap x y r)
theorem aFj:∀ l,(sortI l).Perm l
 | [] => .refl _
 | x::r=>(yX x _).trans ((aFj r).cons x)
theorem aAb(x:Int):∀ l,l.Pairwise (· ≤ ·)→(aYu x l).Pairwise (· ≤ ·)
 | [],_=>by simp [aYu]
 | y::r,h=>by
  obtain ⟨h1,h2⟩:=List.pairwise_cons.1 h;unfold aYu
  split
  ·rename_i hx
   exact List.pairwise_cons.2 ⟨fun z hz=>by
    rcases List.mem_cons.1 hz with rfl | hz
    ·exact hx
    ·have:=h1 z hz;omega,h⟩
  ·rename_i hx
   refine List.pairwise_cons.2 ⟨fun z hz => ?_,aAb x r h2⟩
   rcases List.mem_cons.1 ((yX x r).mem_iff.1 hz) with rfl | hz
   ·omega
   ·exact h1 z hz
theorem xF:∀ l,(sortI l).Pairwise (· ≤ ·)
 | [] => .nil
 | x::r=>aAb x _ (xF r)
theorem aJj:∀ (a b:List Int),a.Perm b→a.Pairwise (· ≤ ·)→b.Pairwise (· ≤ ·)→a=b
 | [],b,h,_,_=>(List.nil_perm.1 h).symm
 | x::r,[],h,_,_=>absurd h.length_eq (by simp)
 | x::r,y::t,h,ha,hb=>by
  obtain ⟨h1,h2⟩:=List.pairwise_cons.1 ha;obtain ⟨h3,h4⟩:=List.pairwise_cons.1 hb;have e:x=y:=by
   have m1:x∈y::t:=h.mem_iff.1 (List.mem_cons_self ..);have m2:y∈x::r:=h.mem_iff.2 (List.mem_cons_self ..)
   rcases List.mem_cons.1 m1 with e | m1
   ·exact e
   ·rcases List.mem_cons.1 m2 with e | m2
    ·exact e.symm
    ·have:=h1 y m2;have:=h3 x m1;omega
  subst e;rw [aJj r t (List.Perm.cons_inv h) h2 h4]
theorem mergeSort_eq(l:List Int):l.mergeSort leB=sortI l:=by
 refine aJj _ _ ((List.mergeSort_perm _ _).trans (aFj l).symm) ?_ (xF l);have:=List.pairwise_mergeSort aJe aJf l;exact this.imp (fun h=>by simpa [leB,KL.leB] using h)
end KC
namespace KV
open Tryz
namespace CU
open KC
theorem Vj(base:Nat):FV Tryz.prog 23 [(.p (.sl 3 [(aA 1),(aA 1),(aA 14),(aA 1),(aA 0),(aA 2),(aA 14),(aA 1),(aA 2),(aA 3),(aA 12),(aA 1)])),(.p (.sl 3 [(aA 1),(aA 1),(aA 14),(aA 1),(aA 0),(aA 2),(aA 14),(aA 1),(aA 2),(aA 3),(aA 12),(aA 1)]))] base (.p (blP true)) [] :=
 cFa [[1,1,14,1],[0,2,14,1],[2,3,12,1]] [[1,1,14,1],[0,2,14,1],[2,3,12,1]] (by decide) (by unfold uni;decide) (by unfold uni;decide)
theorem O4(base:Nat):FV Tryz.prog 38 [(.p (.sl 3 [(aA 0),(aA 1),(aA 2)])),(.p (.sl 3 [(aA 0),(aA 1),(aA 2)]))] base (.p (blP true)) []:=eqi_ok [0,1,2] [0,1,2] (by decide)
theorem Vk(base:Nat):FV Tryz.prog 85 [(.p (.sl 2 [(aA 5),(aA 1),(aA 14),(aA 4),(aA 9),(aA 2),(aA 12),(aA 3)])),(.p (.sl 2 [(aA 5),(aA 1),(aA 14),(aA 4),(aA 9),(aA 2),(aA 12),(aA 3)]))] base (.p (blP true)) [] :=
 cFb [[5,1,14,4],[9,2,12,3]] [[5,1,14,4],[9,2,12,3]] (by decide) (by unfold uni;decide) (by unfold uni;decide)
theorem aAc(c:KC.Cup)(s:Nat):KC.countedL c s=KC.sortI ((KC.isort (KC.ltC (KC.cntCmp c s)) (KC.idx c.done.length)).take (min c.done.length c.be.toNat)):=by
 unfold KC.countedL;exact KC.mergeSort_eq _
def bKn(c:KC.Cup)(s:Nat):Int:=((KC.sortI ((KC.isort (KC.ltC (KC.cntCmp c s)) (KC.idx c.done.length)).take (min c.done.length c.be.toNat))).map fun i=>KC.scoreAt c i.toNat s).sum
theorem sN(c:KC.Cup)(s:Nat):KC.totalM c s=bKn c s:=by
 unfold KC.totalM bKn;rw [aAc]
def bXq(c:KC.Cup)(a b:Nat):Bool:=KC.betterF (bKn c a) (bKn c b) (KC.placesM c a) (KC.placesM c b)
theorem bBp(c:KC.Cup)(a b:Nat):KC.betS c a b=bXq c a b:=by
 unfold KC.betS bXq;rw [sN,sN]
def bBq(c:KC.Cup)(s:Nat):Int:=1+((KC.oth s c.sk.toNat).countP (fun x=>bXq c x s):Nat)
theorem aFk(c:KC.Cup)(s:Nat):KC.rankM c s=bBq c s:=by
 unfold KC.rankM bBq;simp only [bBp]
def cFf(c:KC.Cup)(s:Nat):Bool:=bBq (KC.withC c (KC.wonM c s)) s == 1
theorem bBr(c:KC.Cup):KC.canM c=cFf c:=by
 funext s
 unfold KC.canM cFf;rw [aFk]
set_option maxRecDepth 100000 in
theorem Vl:iE (KC.canM bY) 3=[0,1,2]:=by
 rw [bBr]
 kernel_rfl
theorem aFl{race:List Int}(h0:∀ x∈race,0≤x)(h:KC.NoClash race):KC.clashR race=false:=(KC.clash_iff race h0).2 h
theorem iZ:KC.Valid bY where
 sk1:=by decide
 sk2:=by decide
 ra1:=by decide
 ra2:=by decide
 be1:=by decide
 be2:=by decide
 pt1:=by decide
 pt2:=by decide
 dn:=by decide
 len:=by decide
 pts:=by decide
 rows:=by decide
 falls:=by kernel_rfl
 clash:=by
  show (KC.clashR [1,2,3] || (KC.clashR [3,1,1] || false))=false
  rw [aFl (by decide) (by unfold KC.NoClash;decide),aFl (by decide) (by unfold KC.NoClash;decide)]
  rfl
theorem bKo:KC.Valid bXs where
 sk1:=by decide
 sk2:=by decide
 ra1:=by decide
 ra2:=by decide
 be1:=by decide
 be2:=by decide
 pt1:=by decide
 pt2:=by decide
 dn:=by decide
 len:=by decide
 pts:=by decide
 rows:=by decide
 falls:=by kernel_rfl
 clash:=by
  show (KC.clashR [1,2] || (KC.clashR [1,2] || (KC.clashR [1,2] || false)))=false
  rw [aFl (by decide) (by unfold KC.NoClash;decide)]
  rfl
theorem O5(base:Nat):FV Tryz.prog 11 [.p (cupP bY)] base (.tup [.p (aC [0,1,2]),.p (aA 0)]) []:=by
 have:=bWj bY iZ (base:=base)
 rwa [show iE (KC.canM bY) bY.sk.toNat=[0,1,2] from Vl] at this
theorem Vm:aWx bY=[[1,1,14,1],[0,2,14,1],[2,3,12,1]]:=by
 unfold aWx bWa;simp only [aFk,sN]
 kernel_rfl
theorem Ny(base:Nat):FV Tryz.prog 19 [.p (cupP bY)] base (.tup [.p (.sl 3 ([[1,1,14,1],[0,2,14,1],[2,3,12,1]].flatten.map aA)),.p (aA 0)]) []:=by
 have:=bPb bY iZ (base:=base)
 rwa [Vm] at this
theorem aAd(k:Int)(h:0≤k∧k<3):rK bY k=0:=by
 unfold rK;rw [bOs iZ h.1 h.2];rfl
def aJk(c:KC.Cup)(o:Nat)(p:Int)(s:Nat)(w:Int):Bool:=bXq (KC.withC c [KC.race2 c.sk.toNat o p s w]) o s
theorem aFm:eG=aJk:=by funext c o p s w;unfold eG aJk;rw [bBp]
def bBs(c:KC.Cup)(s:Nat)(pl:Int)(free:List Int):Int:=(KC.oth s c.sk.toNat).foldl (fun fo x=>if fo<0 then (if free.getD x 0=0 then (if aJk c x pl s 1 then fo else (x:Int)) else fo) else fo) (-1)
theorem bRe(c:KC.Cup)(s:Nat)(pl:Int)(free:List Int):pU c s pl free=bBs c s pl free:=by
 have:tB c s pl free=fun fo x=>if fo<0 then (if free.getD x 0=0 then (if aJk c x pl s 1 then fo else (x:Int)) else fo) else fo:=by
  funext fo x
  unfold tB;rw [aFm]
 unfold pU bBs;rw [this]
def aYv(c:KC.Cup)(s:Nat):Nat→Int→List Int→Option (List Int)
 | 0,_,free=>some free
 | n+1,pl,free=>if bBs c s pl free<0 then none else aYv c s n (pl+1) (free.set (bBs c s pl free).toNat pl)
theorem aRz(c:KC.Cup)(s:Nat):∀ n pl free,aEg c s n pl free=aYv c s n pl free
 | 0,_,_=>rfl
 | n+1,pl,free=>by
  unfold aEg aYv;rw [bRe,aRz c s n]
theorem Vn:bBa bY 2=some [2,3,1]:=by
 unfold bBa;rw [aRz]
 kernel_rfl
theorem Vo(base:Nat):FV Tryz.prog 83 [.p (cupP bY),.p (aA 2)] base (.tup [.p (aC [2,3,1]),.p (aA 0)]) []:=by
 have:=bVw bY 2 (aAd 2 (by omega)) (base:=base)
 rw [Vn] at this
 exact this
def bRf(c:KC.Cup)(skier s:Nat):Bool:=decide (s≠skier) && decide (1<bBq (KC.withC c (KC.wonM c s)) skier)
theorem bKp(c:KC.Cup)(skier s:Nat):KC.passes c skier s=bRf c skier s:=by
 unfold KC.passes bRf;rw [aFk]
def agK(c:KC.Cup)(skier:Nat):Nat→Nat→Option Nat
 | 0,_=>none
 | f+1,k=>if bRf c skier k then some k else agK c skier f (k+1)
theorem bXz(c:KC.Cup)(skier:Nat):∀ f k,KC.againstAt c skier f k=agK c skier f k
 | 0,_=>rfl
 | f+1,k=>by
  unfold KC.againstAt agK;rw [bKp,bXz c skier f]
def bRg(c:KC.Cup)(s:Nat):Bool := !(agK c s c.sk.toNat 0).isSome
theorem aFn(c:KC.Cup):KC.sureM c=bRg c:=by
 funext s
 unfold KC.sureM bRg KC.againstM;rw [bXz]
theorem Vp:iE (KC.sureM bY) 3=[]:=by
 rw [aFn]
 kernel_rfl
theorem Vq(base:Nat):FV Tryz.prog 12 [.p (cupP bY)] base (.tup [.p (aC []),.p (aA 0)]) []:=by
 have:=bPq bY iZ (base:=base)
 rwa [show iE (KC.sureM bY) bY.sk.toNat=[] from Vp] at this
def bYa(c:KC.Cup)(n:Nat):Bool:=decide (0<(iE (bRg (lI c n)) c.sk.toNat).length) && decide ((iE (cFf (lI c n)) c.sk.toNat).length=1)
theorem bXr(c:KC.Cup):aWv c=bYa c:=by
 funext n
 unfold aWv bYa;rw [aFn,bBr]
theorem Vr:aWw bXs=(3,0,0):=by
 unfold aWw;rw [bXr];simp only [aFn]
 kernel_rfl
theorem Vs(base:Nat):FV Tryz.prog 81 [.p (cupP bXs)] base (.tup [.p (aA 3),.p (aA 0),.p (aA 0)]) []:=by
 have:=cCt bXs bKo (base:=base)
 rwa [Vr] at this
def aJl(c:KC.Cup)(s i:Nat):Int:=if aJk c i 0 s 0 then 61 else upto (fun p=>aJk c i p s 0) 60 0
theorem bRh(c:KC.Cup)(s i:Nat):kX c s i=aJl c s i:=by
 unfold kX aJl;rw [aFm]
theorem v55:yO bY 1=(3,3,[1,0,2]):=by
 have e:aQa bY 1=fun i=>if i=1 then [] else if 0<aJl bY 1 i then [[(i:Int),aJl bY 1 i]] else []:=by
  funext i
  unfold aQa;rw [bRh]
 have h:((KC.isort (ltK 1) ((List.range bY.sk.toNat).flatMap fun i=>if i=1 then [] else if 0<aJl bY 1 i then [[(i:Int),aJl bY 1 i]] else [])).foldl bBc (1,1,List.replicate bY.sk.toNat 0):Int × Int × List Int)=(3,3,[1,0,2]):=by kernel_rfl
 unfold yO mG bHl;rw [e];exact h
theorem Vt(base:Nat):FV Tryz.prog 21 [.p (cupP bY),.p (aA 1)] base (.tup [.p (aA 3),.p (aC [1,0,2]),.p (aA 0)]) []:=by
 have:=bPa bY 1 (aAd 1 (by omega)) (base:=base)
 rw [v55] at this
 exact this
theorem aYw(Ix:∀ base:Nat,FV Tryz.prog 84 [.p (cupP bY),.p (aC [5,5,9]),.p (aA 1),.p (aC [4,3])] base (.tup [.p (.sl 2 ([[5,1,14,4],[9,2,12,3]].flatten.map aA)),.p (aA 0)]) [])(base:Nat):FV Tryz.prog 40 [] base (.p (blP true)) [] :=
 bRj Ny O5 Vq Vt Vj O4 Vs Vo Ix Vk
end CU
end KV
end Go.Proofs
end
section
namespace Go.Proofs
open KC Go.RowKit
namespace KV
open Tryz
namespace CU

theorem bJl{c:KC.Cup}(hV:KC.Valid c)(s:Nat):0≤KC.totalM c s∧KC.totalM c s≤20000:=by
 unfold KC.totalM;have hl:((KC.countedL c s).map fun i=>KC.scoreAt c i.toNat s).length≤20:=by
  rw [Bt,aAc];have h1:∀ l,(KC.sortI l).length=l.length:=fun l=>by rw [← KC.mergeSort_eq];exact bSa l
  rw [h1,kV];have:=hV.be2;have:=hV.ra2;omega
 have hb:∀ x∈((KC.countedL c s).map fun i=>KC.scoreAt c i.toNat s),0≤x∧x≤1000:=fun x hx=>by
  obtain ⟨i,_,rfl⟩:=Bi.1 hx;exact KC.scoreM_bd _ _ _ hV.pts
 have key:∀ l:List Int,(∀ x∈l,0≤x∧x≤1000)→0≤l.sum∧l.sum≤1000*l.length:=fun l h=>by
  induction l with
  | nil=>simp
  | cons x r ih =>
   have h1:=h x (gO ..);have h2:=ih fun y hy=>h y (B3 _ hy)
   rw [List.sum_cons,oF];omega
 have:=key _ hb;omega
theorem aRs(c:KC.Cup):(KC.totalsM c).length=c.sk.toNat:=KC.totalsUp_length _ _
theorem aRt{c:KC.Cup}(hV:KC.Valid c):∀ x∈KC.totalsM c,0≤x∧x≤20000:=fun x hx=>by
 unfold KC.totalsM KC.totalsUp at hx
 obtain ⟨s,_,rfl⟩:=Bi.1 hx;exact bJl hV s
theorem aYr{l:List Int}{a b:Int}(h:(l.all fun x=>within x a b)=true):∀ x∈l,a≤x∧x≤b:=fun x hx=>by
 have:=fL.1 h x hx;exact within_iff.1 this
theorem cEg(c:KC.Cup)(ns:List Int)(mo:Int)(qs:List Int)(hS:KC.Small c)(hE:bXi c ns mo qs=0){base:Nat}:FV Tp 84 [.p (cupP c),.p (aC ns),.p (aA mo),.p (aC qs)] base
  (.tup [.p (.sl (oP c ns mo qs).length ((oP c ns mo qs).flatten.map aA)),.p (aA 0)]) []:=by
 unfold bXi at hE
 split at hE
 ·exact absurd hE ‹_›
 rename_i h1
 split at hE
 ·omega
 rename_i h2
 split at hE
 ·omega
 rename_i h3
 split at hE
 ·omega
 rename_i h4;have h1:KC.checkP c=0:=Decidable.byContradiction h1;have hV:=(KC.valid_iff c).1 h1;have a1:(ns.length:Int)=c.sk:=Decidable.byContradiction fun h=>h2 (.inl h)
 have a2:within (qs.length:Int) 1 31=true:=by
  cases h:within (qs.length:Int) 1 31
  ·exact absurd (.inr h) h2
  ·rfl
 have a3:(ns.all fun x=>within x 0 30)=true:=by
  cases h:(ns.all fun x=>within x 0 30)
  ·exact absurd (.inl h) h3
  ·rfl
 have a4:within mo 1 12=true:=by
  cases h:within mo 1 12
  ·exact absurd (.inr (.inl h)) h3
  ·rfl
 have a5:(qs.all fun x=>within x 0 20)=true:=by
  cases h:(qs.all fun x=>within x 0 20)
  ·exact absurd (.inr (.inr h)) h3
  ·rfl
 have a6:KC.fallsB qs=true:=by
  cases h:KC.fallsB qs
  ·exact absurd h h4
  ·rfl
 have b2:=within_iff.1 a2;have s2:=hV.sk2;exact cEk hS h1 a1 a2 (by unfold small;omega) a3 a4 (by unfold small;omega) a5 (by omega) a6 (bQs hV a1 (aYr a3) (within_iff.1 a4) (by omega) (aRs c) (fun x hx=>by have:=aRt hV x hx;omega))
theorem aMr:KC.totalsM bY=[14,14,12]:=by
 have e:KC.totalsM bY=(List.range 3).map (bKn bY):=by
  unfold KC.totalsM KC.totalsUp;exact xX fun s _=>sN bY s
 have h:(List.range 3).map (bKn bY)=[14,14,12]:=by kernel_rfl
 exact e.trans h
theorem v22:oP bY [5,5,9] 1 [4,3]=[[5,1,14,4],[9,2,12,3]]:=by
 unfold oP;have h:cGb [4,3] (kJ [5,5,9] [14,14,12] 1 ([14,14,12]:List Int).length 31)=[[5,1,14,4],[9,2,12,3]]:=by kernel_rfl
 rw [aMr];exact h
theorem Ix(base:Nat):FV Tp 84 [.p (cupP bY),.p (aC [5,5,9]),.p (aA 1),.p (aC [4,3])] base (.tup [.p (.sl 2 ([[5,1,14,4],[9,2,12,3]].flatten.map aA)),.p (aA 0)]) []:=by
 have hE:bXi bY [5,5,9] 1 [4,3]=0:=by
  unfold bXi;have h:(if (([5,5,9]:List Int).length:Int)≠bY.sk∨within (([4,3]:List Int).length:Int) 1 31=false then (2:Int) else if (([5,5,9]:List Int).all fun x=>within x 0 30)=false∨within 1 1 12=false∨(([4,3]:List Int).all fun x=>within x 0 20)=false then 3 else if KC.fallsB [4,3]=false then 4 else 0)=0:=by kernel_rfl
  rw [(KC.valid_iff bY).2 iZ,if_neg (by simp)]
  exact h
 have:=cEg bY [5,5,9] 1 [4,3] iZ.small hE (base:=base);rw [v22] at this
 exact this
theorem awake_ok(base:Nat):FV Tp 40 [] base (.p (blP true)) []:=aYw Ix base
end CU
end KV
end Go.Proofs
end
