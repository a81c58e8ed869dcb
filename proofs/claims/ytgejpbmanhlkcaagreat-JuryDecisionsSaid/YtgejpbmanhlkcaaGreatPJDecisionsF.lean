/- Parts of the proof of JDecisions: laws of walks, contracts of functions, plain models. No condition. -/
import Derived.Test.YtgejpbmanhlkcaaGreatPJDecisionsE
set_option linter.unusedVariables false
set_option linter.unusedSimpArgs false
set_option maxRecDepth 100000
namespace Go.Proofs
namespace KV
section

theorem bZa{dl:Int}{sk dc:Lqq}{num r6:Int}{x:List Int}{y0 y1 n2:Int}{b3:Bool}{T4:Lqb}(h0:(aB sk)[(bD (fun x=>decide (r6=x)) (aK (aB sk) 0)).toNat]? = some [y0,y1])(h1:0≤(bD (fun x=>decide (r6=x)) (aK (aB sk) 0)))(h2:uni 2 (aB sk))(h3:aDq dl (aB sk) (aB dc) (aG x) [y0,y1] n2 b3 ([]:Lqb) T4):aDa Tp 0 (sub (cd Tryz.f58) [1,1,1,1,1,1,1,1,1,0,1,0,1,0,0]) ⟨fr 102 [(3,(.rp [(aA num)] 0)),(6,(.rp [(PV.rp (aI dl (aB sk) (aB dc)) 0)] 0)),(9,(.rp [(aA r6)] 0)),(10,(.rp [(aA (bD (fun x=>decide (r6=x)) (aK (aB sk) 0)))] 0)),(11,(.p (aG x)))],[]⟩ .normal ⟨fr 102 [(3,(.rp [(aA num)] 0)),(6,(.rp [(PV.rp (aI dl (aB sk) (aB dc)) 0)] 0)),(9,(.rp [(aA r6)] 0)),(10,(.rp [(aA (bD (fun x=>decide (r6=x)) (aK (aB sk) 0)))] 0)),(11,(.p (aG x))),(12,(pI n2)),(13,(pB b3))],[]⟩:=by
 exact aDa.fin (g:=⟨(rng [(0,3),(4,2),(7,2),(14,88)]),[],[],[]⟩) (o:=[.x (PV.rp (aI dl (aB sk) (aB dc)) 0),.x (PV.rp (aI dl (aB sk) (aB dc)) 0),.x (.sl ((aB sk).length) ((aB sk).flatten.map aA)),.x (aA (bD (fun x=>decide (r6=x)) (aK (aB sk) 0))),.x (.agg [(aA y0),(aA y1)]),.x (PV.rp (aI dl (aB sk) (aB dc)) 0),.c fP (vU dl (aB sk) (aB dc) (aG x) ([]:Lqb)),.c (.tup [(pI n2),(pB b3)]) (vU dl (aB sk) (aB dc) (aG x) T4)]) (l:=[FC Tp 134 [(.rp (aI dl (aB sk) (aB dc)) 0),(.p (.agg [(aA y0),(aA y1)])),fP] [(4,(.box 207 [(.mp 3)])),(5,(vB5 dl (aB sk) (aB dc))),(0,(vB0 dl (aB sk) (aB dc))),(2,vB2),(6,vB6),(1,(.box 33 [(.p (aG x))])),(3,(.mp (aF ([]:Lqb)) 0))] 8 (.tup [(pI n2),(pB b3)]) (vU dl (aB sk) (aB dc) (aG x) T4),FC Tp 87 [(.rp (aI dl (aB sk) (aB dc)) 0),(.p (aG x))] [] 0 fP (vU dl (aB sk) (aB dc) (aG x) ([]:Lqb)),[(PV.rp (aI dl (aB sk) (aB dc)) 0)][0]? = some (PV.rp (aI dl (aB sk) (aB dc)) 0),_,_,0≤(bD (fun x=>decide (r6=x)) (aK (aB sk) 0))∧(bD (fun x=>decide (r6=x)) (aK (aB sk) 0))<(((aB sk).length:Nat):Int)∧((bD (fun x=>decide (r6=x)) (aK (aB sk) 0)).toNat*2)<((aB sk).flatten.map aA).length,[(aA (bD (fun x=>decide (r6=x)) (aK (aB sk) 0)))][0]? = some (aA (bD (fun x=>decide (r6=x)) (aK (aB sk) 0))),(aI dl (aB sk) (aB dc))[1]? = some (.sl ((aB sk).length) ((aB sk).flatten.map aA)),[(PV.rp (aI dl (aB sk) (aB dc)) 0)][0]? = some (PV.rp (aI dl (aB sk) (aB dc)) 0),[(PV.rp (aI dl (aB sk) (aB dc)) 0)][0]? = some (PV.rp (aI dl (aB sk) (aB dc)) 0)]) (by kernel_rfl) (gc (FMM.fc (ids:=[0,1,2,3,4,5,6]) h3 (by kernel_rfl)) (gc (FMM.fcN (k:=7) rfl (ids:=[]) (qA (dl:=dl) (sk:=(aB sk)) (dc:=(aB dc)) (on:=x.length) (ol:=(x.map aA))) (by kernel_rfl)) (gc rfl (gc (aL (i:=(bD (fun x=>decide (r6=x)) (aK (aB sk) 0)).toNat) h2 h0) (gc (aW (i:=(bD (fun x=>decide (r6=x)) (aK (aB sk) 0)).toNat) h2 h0) (gc (aV (k:=2) (i:=(bD (fun x=>decide (r6=x)) (aK (aB sk) 0))) (by decide) h2 h1 h0) (gc rfl (gc rfl (gc rfl (gc rfl gn))))))))))
end
end KV
end Go.Proofs
section
namespace Go.Proofs
open Go.RowKit
namespace KV
theorem bJu{P:Program}{C:Cx}{st:St}{a:Act}{w:World}(hS:eT C st.m w st.t a.tmps)(hM:aU P C st.m w)(hp:gC st.m=true)(hn:aNg st.m) :
  Sim P (cxF fun _=>False) [] { w with heap := #[] } st { a with defers:=[] } w :=
 ⟨C,hS,hM,⟨rfl,rfl,rfl,Nat.zero_le _,fun b hb=>absurd hb (aOl _),fun _ _ h=>by simp at h,fun _ _ h=>by simp at h,fun _ _ h=>by simp at h,fun _ _ b _ _ _ => .inl (Nat.zero_le _),fun _ h=>h.elim,fun b _ => .inr (.inl (Nat.zero_le _))⟩,.nil rfl hn⟩
theorem bEk{P:Program}{C:Cx}{M:Mem}{W W':World}(hM:aU P C M W)(hg:W.grownBy W' none):aU P C M W'∧Fr C M W C M W':=by
 have hsame:∀ b,b<W.heap.size→W'.heap[b]? = W.heap[b]? := fun b hb=>hg.block b hb (fun e=>by cases e)
 have hL:Le C C M M W W':=⟨fun _ o h=>⟨o,h⟩,fun _ _ _ _ _ cs h=>⟨cs,h⟩,fun _ o h o' h' hl=>by rw [h] at h';cases h';exact ⟨hl,rfl,rfl⟩,fun _ h=>h,fun b hb=>hsame b (hM.Fs b hb)⟩
 refine ⟨⟨fun i ty n cs hm => ?_,fun i ty cs hm => ?_,fun i es cl hm => ?_,hM.inj,hM.nF,fun b hb=>kQ8 (hM.Fs b hb) hg.size,fun i o b ho hl hb=>kQ8 (hM.lt i o b ho hl hb) hg.size⟩,
  ⟨hg.os,hg.tape,hg.output,hg.size,fun b hb _=>hsame b hb,fun i o h=>⟨⟨o,h⟩,rfl,rfl⟩,fun _ _ _ _ _ cs h=>⟨cs,h⟩,fun _ o h o' h' hl=>by rw [h] at h';cases h';exact hl,fun i o b ho hl hb => .inr ⟨i,o,ho,hl,hb⟩,fun _ h=>h,fun _ h => .inl h⟩⟩
 ·rcases hM.row _ _ _ _ hm with h4 | ⟨b,arr,inf,q0,q1,q2,q3,q4,q5,q6,q7,q8⟩
  ·exact .inl h4
  ·exact .inr ⟨b,arr,inf,q0,(hsame b (kQ9.1 q1).1).trans q1,q2,q3,q4,q5,q6,fun j hj=>(q7 j hj).mono hL.F hL.fz,q8⟩
 ·obtain ⟨b,arr,q0,q1,q2,q3,q4⟩:=hM.box _ _ _ hm
  exact ⟨b,arr,q0,(hsame b (kQ9.1 q1).1).trans q1,q2,fun j hj=>(q3 j hj).mono hL,q4⟩
 ·obtain ⟨b,arr,q0,q1,q2,q3⟩:=hM.mp _ _ _ hm
  refine ⟨b,arr,q0,(hsame b (kQ9.1 q1).1).trans q1,q2,fun j hj => ?_⟩
  obtain ⟨en,r1,r2,r3,r4⟩:=q3 j hj;exact ⟨en,r1,r2,r3,r4.mono hL.F hL.fz⟩
def bJv(t:List AV)(i:Nat):Bool:=match t[i]? with
 | some .any=>true
 | _=>false
theorem aUm{C:Cx}{M:Mem}{w:World}{v u:Value}(h:Rep C M w (.p (.v v)) u):u=v:=by
 cases h with
 | p _ _ h=>cases h;rfl
theorem bYz{P:Program}{k:Nat}{c:Code}{tA tB:List AV}{S:St}{g:Gh}{i1 i2:Nat}{v1 v2:Value}(hk:aDa P 0 c ⟨tA,[]⟩ .normal ⟨tB,[]⟩)(hg:gh 0 g S=some ⟨tA,[]⟩)(hn:gC S.m=true)
  (h1:tB[i1]? = some (.p (.v v1))) (h2:tB[i2]? = some (.p (.v v2))) (hne:i1≠i2) (hl:tB.length=S.t.length) (hall:((List.range S.t.length).all fun i => !wrR c i || Nat.beq i i1 || Nat.beq i i2 || bJv S.t i)=true) :
  aC P k c S .normal (bG S [(i1,.p (.v v1)),(i2,.p (.v v2))]):=by
 intro C0 M0 w0 a w hk0 hs ro _ n;obtain ⟨C,hS,hM,hF,hD⟩:=hs;obtain ⟨C1,hS1,hM1,_,_⟩:=eY (eG 0) hg (bJu hS hM hn (eP hn).2);have hs1:Sim P (C1.with []) [] w ⟨tA,[]⟩ { a with defers:=[] } w:=⟨C1,hS1,hM1,(Fr.refl _ _ _).based [],.nil rfl (eP (m:=[]) rfl).2⟩
 have:=hk (C1.with []) [] w _ w (eG 0) hs1 a.defers ro n
 refine wpIn_mono this ?_;rintro e' a' w' ⟨rfl,a2,rfl,⟨C2,hS2,hM2,hF2,⟨l2,d1,d2,d3⟩,_⟩,hkp⟩;have hg2:w.grownBy w' none:=aMh hF2;obtain ⟨hM3,hF3⟩:=bEk hM hg2;have hS3:=hS.le (hM.le hF3);refine ⟨rfl,C,⟨?_,fun i hi => ?_⟩,hM3,hF.trans hF3,?_⟩
 ·have e0:=hS2.size
  show a2.tmps.size=((S.t.set i1 _).set i2 _).length;rw [oT,oT];exact e0.trans hl
 ·have hi':i<S.t.length:=by
   have:i<((S.t.set i1 (.p (.v v1))).set i2 (.p (.v v2))).length:=hi
   rwa [oT,oT] at this
  have key:∀ x,((S.t.set i1 (.p (.v v1))).set i2 (.p (.v v2)))[i]? = some x→Rep C S.m w' x (a2.tmps.getD i undef):=by
   intro x hx
   by_cases e2:i2=i
   ·subst e2
    rw [bKm (by rw [oT];exact hi')] at hx
    cases hx;rw [aUm (hS2.at h2)]
    exact .p _ _ (.v _)
   rw [bKn e2] at hx
   by_cases e1:i1=i
   ·subst e1
    rw [bKm hi'] at hx
    cases hx;rw [aUm (hS2.at h1)]
    exact .p _ _ (.v _)
   rw [bKn e1] at hx
   have hc:=jY.1 hall i (sR.2 hi');cases hw:wrR c i with
   | false =>
    rw [hkp i hw];exact hS3.at hx
   | true =>
    have n1:Nat.beq i i1=false:=by
     cases h:Nat.beq i i1 with
     | false=>rfl
     | true=>exact absurd (Nat.eq_of_beq_eq_true h).symm e1
    have n2:Nat.beq i i2=false:=by
     cases h:Nat.beq i i2 with
     | false=>rfl
     | true=>exact absurd (Nat.eq_of_beq_eq_true h).symm e2
    rw [hw,n1,n2] at hc
    have hc:bJv S.t i=true:=hc;unfold bJv at hc
    rw [hx] at hc
    cases x <;> first | exact .any _ | cases hc
  exact key _ (kQ0 hi)
 ·obtain ⟨⟨l,e1,e2,e3⟩,hR⟩:=hD.fr hM .refl hF3
  obtain ⟨⟨l',e1',_,e3'⟩,_⟩:=hD;have hll:l=l':=by
   have:=e1.symm.trans e1';exact (List.map_inj_right (fun x y h=>by simpa [mark] using h)).1 this
  refine ⟨⟨l2++l,?_,?_,?_⟩,hR⟩
  ·show a2.defers++a.defers=_
   rw [d1,e1,iY]
  ·refine List.nodup_append.2 ⟨d2,e2,fun x hx y hy hxy => ?_⟩
   have:=(d3 x hx).2.1;have:=(kQ9.1 (e3' y (hll ▸ hy)).1).1;subst hxy;omega
  ·intro D hD2
   rcases nV.1 hD2 with h | h
   ·exact ⟨(d3 D h).1,gO hF.size (d3 D h).2.1,fun hf=>by
     have:=hM.Fs D hf;have:=(d3 D h).2.1;omega⟩
   ·exact e3 D h
end KV
end Go.Proofs
end
namespace Go.Proofs
namespace KV
section
variable {dl:Int}{sk dc:Lqq}
theorem bPk(l:List Int)(v:Int)(hl:l.length≤1000000){base:Nat}:FV Tp 126 [.p (aG l),.p (aA v)] base (pI (bD (fun x=>decide (v=x)) l)) []:=by
 rcases aE.find (P:=Tp) (k:=0) (b:=(sub (cd Tryz.f126) [1,0,1,0,0])) (fun i=>gQ l v i) (fun i _=>bG (gQ l v i) [(4,.p (aA (i:Int)))]) (gQ l v l.length) .ret (.exit 0) (by simp) (by simp) (fun x=>decide (v=x)) l
  (fun i x hx hp=>aFl (by have:=aT hx;omega) hx (by simpa using hp) (aO (by have:=aT hx;omega)) rfl)
  (fun i x hx hp=>aFk (by have:=aT hx;omega) hx (by simpa using hp))
  (aFm (l:=l) (i:=l.length) (by omega)) with ⟨i,x,h1,h2,h3,h4⟩ | ⟨h1,h2,h3⟩
 ·rw [eL h2];exact bGt h4
 ·rw [gL h1];exact bGs h3
theorem bPl(l:List Int)(v:Int)(hl:l.length≤1000000){base:Nat}:FV Tp 52 [.p (aG l),.p (aA v)] base (pB (l.contains v)) []:=by
 rw [← vN];exact FV.fin Tryz.func52 rfl (o:=[.c (pI (bD (fun x=>decide (v=x)) l)) []]) (l:=[_]) (by kernel_rfl) (gc (fk 0 (bPk l v hl) rfl) gn)
theorem bPm{l:List Int}(hl:l.length≤1000000)(n:Int):rN (aG l) n (l.contains n):=fun base=>bPl l n hl
def aDt(dl:Int)(sk dc:Lqq)(num r6:Int)(x:List Int):Bool := !(((fQ dl sk dc r6 x).1 == (fQ dl sk dc r6 (x++[num])).1) && ((fQ dl sk dc r6 x).2 == (fQ dl sk dc r6 (x++[num])).2))
theorem cAa(r t t':Int):kD [aA r,aA 0,aA t] [aA r,aA 0,aA t'] [(0,3,true),(1,3,true),(2,3,true)]=(t == t'):=by
 rw [Bool.eq_iff_iff];simp [kD,vB]
theorem aUl{r6 y0 y1:Int}(h:(aB sk)[(bD (fun x=>decide (r6=x)) (aK (aB sk) 0)).toNat]? = some [y0,y1])(x:List Int):fQ dl sk dc r6 x=lL dl x (aB dc) y0 y1:=by
 have e:(aB sk).getD (bD (fun x=>decide (r6=x)) (aK (aB sk) 0)).toNat []=[y0,y1]:=by
  rw [kQ5,h];rfl
 unfold fQ;rw [e];rfl
theorem bJs{dl:Int}{sk dc:Lqq}{num r6:Int}{x:List Int}(hd:cE (aB dc))(hu:uni 2 (aB sk))(hs:∀ s∈aB sk,-1≤s.getD 1 0∧s.getD 1 0≤360000)(hx:x.length≤1000){y0 y1:Int}(h0:(aB sk)[(bD (fun x=>decide (r6=x)) (aK (aB sk) 0)).toNat]? = some [y0,y1])(h1:0≤(bD (fun x=>decide (r6=x)) (aK (aB sk) 0))) :
  aC Tp 3 (sub (cd Tryz.f58) [1,1,1,1,1,1,1,1,1,0,1,0,1,0,0]) (iH dl sk dc num r6 x) .normal (bG (iH dl sk dc num r6 x) [(12,(pI ((fQ dl sk dc r6 x).1))),(13,(pB ((fQ dl sk dc r6 x).2)))]):=by
 obtain ⟨T',_,hT⟩:=bHl (sk:=aB sk) hd (fun n=>aCl hx n) y0 y1 (hs _ (kQ4 h0)) (T:=[]) cF.nil
 rw [aUl h0];exact bYz (bZa (num:=num) h0 h1 hu hT) (g:=⟨(rng [(0,3),(4,2),(7,2),(12,90)]),[],[2],[]⟩) (by kernel_rfl) rfl (by rfl) (by rfl) (by decide) (by rfl) (by kernel_rfl)
theorem bEi{dl:Int}{sk dc:Lqq}{num r6:Int}{x:List Int}(hd:cE (aB dc))(hu:uni 2 (aB sk))(hs:∀ s∈aB sk,-1≤s.getD 1 0∧s.getD 1 0≤360000)(hx:x.length≤1000){y0 y1:Int}(h0:(aB sk)[(bD (fun x=>decide (r6=x)) (aK (aB sk) 0)).toNat]? = some [y0,y1])(h1:0≤(bD (fun x=>decide (r6=x)) (aK (aB sk) 0))) :
  (aDt dl sk dc num r6 x=false→aC Tp 3 (sub (cd Tryz.f58) [1,1,1,1,1,1,1,1,1,0,1,0,1]) (rfO (mY dl sk dc num r6) 54 11 x) .normal (aRb dl sk dc num r6)) ∧
  (aDt dl sk dc num r6 x=true→aC Tp 3 (sub (cd Tryz.f58) [1,1,1,1,1,1,1,1,1,0,1,0,1]) (rfO (mY dl sk dc num r6) 54 11 x) .ret (aIi dl sk dc num r6)):=by
 have hn:=bJs (dl:=dl) (num:=num) hd hu hs hx h0 h1;obtain ⟨T',_,hT⟩:=bHl (dl:=dl) (sk:=aB sk) hd (fun n=>bPm (l:=x++[num]) (by rw [oS];show x.length+1≤_;omega) n) y0 y1 (hs _ (kQ4 h0)) (T:=[]) cF.nil
 rw [← aUl h0] at hT
 have hov:aG (x++[num]) = .sl (x.length+1) (x.map aA++[aA num]):=by
  show PV.sl (x++[num]).length ((x++[num]).map aA)=_;rw [oS,iY];rfl
 rw [hov] at hT
 have hq:=cAa r6 (fQ dl sk dc r6 x).1 (fQ dl sk dc r6 (x++[num])).1;unfold aDt;cases ha:((fQ dl sk dc r6 x).1 == (fQ dl sk dc r6 (x++[num])).1) with
 | false =>
  refine ⟨fun h=>(by cases h),fun _ => ?_⟩
  rw [ha] at hq
  exact bCi hn h0 h1 hu ⟨rfl,by omega⟩ hT ⟨rfl,rfl⟩ hq
 | true =>
  rw [ha] at hq
  cases hb:((fQ dl sk dc r6 x).2 == (fQ dl sk dc r6 (x++[num])).2) with
  | false =>
   refine ⟨fun h=>(by cases h),fun _ => ?_⟩
   exact bCj hn h0 h1 hu ⟨rfl,by omega⟩ hT ⟨rfl,rfl⟩ hq hb
  | true =>
   refine ⟨fun _ => ?_,fun h=>(by cases h)⟩
   exact bCk hn h0 h1 hu ⟨rfl,by omega⟩ hT ⟨rfl,rfl⟩ hq hb
theorem bEj{num r6:Int}(hd:cE (aB dc))(hu:uni 2 (aB sk))(hs:∀ s∈aB sk,-1≤s.getD 1 0∧s.getD 1 0≤360000){y0 y1:Int}(h0:(aB sk)[(bD (fun x=>decide (r6=x)) (aK (aB sk) 0)).toNat]? = some [y0,y1])(h1:0≤(bD (fun x=>decide (r6=x)) (aK (aB sk) 0)))(ho:((aP dl (aB dc)).filter fun n => !(n == num)).length≤60) :
  ((jX ((aP dl (aB dc)).filter fun n => !(n == num))).any (aDt dl sk dc num r6)=false→aC Tp 0 (sub (cd Tryz.f58) [1,1,1,1,1,1,1,1,1,0,1,0]) (uJ dl sk dc num r6) .normal (mY dl sk dc num r6)) ∧
  ((jX ((aP dl (aB dc)).filter fun n => !(n == num))).any (aDt dl sk dc num r6)=true→aC Tp 0 (sub (cd Tryz.f58) [1,1,1,1,1,1,1,1,1,0,1,0]) (uJ dl sk dc num r6) .ret (aCu dl sk dc num r6)):=by
 have main:=aFw (P:=Tp) (k:=0) (kb:=3) (kk:=2) (g0:=⟨[],[],[],[]⟩) (g1:=⟨[],[],[],[]⟩) (gR:=⟨[],[],[],[]⟩) (uJ dl sk dc num r6) (fun _=>mY dl sk dc num r6) (fun _ _=>aRb dl sk dc num r6) (fun _ _=>aIi dl sk dc num r6) (mY dl sk dc num r6).t (aCu dl sk dc num r6).m (fun _=>aDt dl sk dc num r6)
  (cc := sub (cd Tryz.f58) [1, 1, 1, 1, 1, 1, 1, 1, 1, 0, 1, 0]) (gi := 53) (p1 := 54) (d := 11) (id := 14) (ty := 33) (pos := "outcome.go:200") (body := sub (cd Tryz.f58) [1, 1, 1, 1, 1, 1, 1, 1, 1, 0, 1, 0, 1]) (by kernel_rfl)
  rfl (fun _=>rfl) (g := .fn 182 [] [.rp [aG ((aP dl (aB dc)).filter fun n => !(n == num))] 0]) (by rfl) (aFu _ ho) (fun args w=>rfl) (fun _=>rfl) (fun _=>rfl) (fun _ _=>rfl) (fun _ _=>rfl) rfl rfl (fun _=>by show 2<3;omega) (by kernel_rfl) (fun x=>rfl) (by show 2≤2;omega) rfl (by kernel_rfl) (fun pre l=>by kernel_rfl) (fun _ _ _=>by kernel_rfl) (fun pre l _ hx=>bEi hd hu hs hx h0 h1)
 refine ⟨fun h=>main.1 fun pre l hp => ?_,fun h=>main.2 ?_⟩
 ·have:=List.any_eq_false.1 h l (hp.subset (by simp))
  simpa using this
 ·obtain ⟨l,hl,hb⟩:=List.any_eq_true.1 h
  obtain ⟨s,t,e⟩:=List.append_of_mem hl;exact ⟨s,l,⟨t,by rw [e];simp⟩,hb⟩
def bJt(dl:Int)(sk dc:Lqq)(num:Int):Bool × Int :=
 if (aP dl (aB dc)).contains num=false then (false,1) else if 8<(aP dl (aB dc)).length then (false,10) else
 if bD (fun x=>decide (nE (aB dc) num=x)) (aK (aB sk) 0)<0 then (false,0) else ((jX ((aP dl (aB dc)).filter fun n => !(n == num))).any (aDt dl sk dc num (nE (aB dc) num)),0)
theorem bPn{α:Type}{p:α→Bool}{l:List α}(h:0≤bD p l):(bD p l).toNat<l.length:=by
 unfold bD at h ⊢
 cases e:l.findIdx? p with
 | none=>rw [e] at h;simp at h
 | some i =>
  obtain ⟨hi,_⟩:=List.findIdx?_eq_some_iff_getElem.1 e;simpa using hi
theorem bYy(h:cM dl sk dc)(num:Int){base:Nat}:FV Tp 58 [.p (.agg (bB dl sk dc)),.p (aA num)] base (.tup [.p (blP (bJt dl sk dc num).1),.p (aA (bJt dl sk dc num).2)]) []:=by
 have hd:=dQ h;obtain ⟨hu,hl,hs,_⟩:=vY h;have hol:(aP dl (aB dc)).length≤1000:=by
  unfold aP;rw [fL];exact gO (rF _ _) hd.len
 unfold bJt;cases hc:(aP dl (aB dc)).contains num with
 | false=>exact bWq h hd hol hc
 | true =>
  rw [if_neg (by simp)]
  by_cases h8:8<(aP dl (aB dc)).length
  ·rw [if_pos h8];exact bWr h hd hol hc (by omega)
  ·rw [if_neg h8]
   have hm:num∈aP dl (aB dc):=by simpa using hc
   have hm2:=hm;unfold aP at hm2
   obtain ⟨x,hx,rfl⟩:=fF.1 hm2;have hx:=(aOm.1 hx).1;have hr:=eN hd hx;have hsb:nE (aB dc) (dN x)=gV (aB dc) x:=by unfold nE;rw [aTr hd hx]
   obtain ⟨q1,q2⟩:=aHu hd hx;have hk:=pX hd (n:=dN x) (by unfold inR;omega)
   have hab:=kV hd x hx;rw [hsb];obtain ⟨a,b,c,d,e,f,rfl⟩:=len6 (hd.ud x hx);have hf:inR f:=by
    have:=(gU.1 (hd.rng _ hx));unfold inR;simp [dAb] at this hab ⊢;omega
   have hsbj:aMf dl (aB sk) (aB dc) [a,b,c,d,e,f] (gV (aB dc) [a,b,c,d,e,f]):=fun base=>aQf hd hf (.inl hx) hr.2
   have hcl:(aK (aB sk) 0).length≤1000:=by rw [mG];omega
   by_cases h0:bD (fun x=>decide (gV (aB dc) [a,b,c,d,e,f]=x)) (aK (aB sk) 0)<0
   ·rw [if_pos h0]
    exact bWs h hd hol hc (by omega) hk q1 q2 hsbj ⟨hu,by omega⟩ hcl h0
   ·rw [if_neg h0]
    have hi:=bPn (p:=fun x=>decide (gV (aB dc) [a,b,c,d,e,f]=x)) (l:=aK (aB sk) 0) (by omega)
    rw [mG] at hi
    obtain ⟨y0,y1,hy⟩:=at2 hu hi;have hrg:=bEj (dl:=dl) (num:=dN [a,b,c,d,e,f]) hd hu hs hy (by omega) (gO (rF _ _) (by omega))
    cases hb:(jX ((aP dl (aB dc)).filter fun n => !(n == dN [a,b,c,d,e,f]))).any (aDt dl sk dc (dN [a,b,c,d,e,f]) (gV (aB dc) [a,b,c,d,e,f])) with
    | false=>exact bWt h hd hol hc (by omega) hk q1 q2 hsbj ⟨hu,by omega⟩ hcl (by omega) (hrg.1 hb)
    | true=>exact bWu h hd hol hc (by omega) hk q1 q2 hsbj ⟨hu,by omega⟩ hcl (by omega) (hrg.2 hb)
end
section

theorem aSb:((0:Int) == (0:Int))=true:=by first | decide | simp
theorem aSc:((0:Int) != (0:Int))=false:=by first | decide | simp
theorem aIv:((3:Int) != (3:Int))=false:=by first | decide | simp
theorem bYw:((15100:Int) == (15100:Int))=true:=by first | decide | simp
abbrev thD:List PV:=[(aA 1),(aA 0),(aA 0),(aA 1),(aA 300),(aA 0),(aA 2),(aA 7),(aA 10),(aA 0),(aA 0),(aA 1),(aA 3),(aA 9),(aA 40),(aA 0),(aA 0),(aA 2),(aA 4),(aA 5),(aA 50),(aA 0),(aA 0),(aA 3),(aA 5),(aA 6),(aA 60),(aA 0),(aA 100),(aA 1)]
abbrev thS:List PV:=[(aA 1),(aA 15000),(aA 2),(aA 15100),(aA 3),(aA 15200)]
abbrev nG:AV:=(.p (.agg [(aA 30),(.sl 3 thS),(.sl 2 [(aA 1),(aA 0),(aA 0),(aA 1),(aA 300),(aA 0),(aA 2),(aA 7),(aA 10),(aA 0),(aA 0),(aA 1)])]))
abbrev bJp:AV:=(.p (.agg [(aA 30),(.sl 3 thS),(.sl 3 [(aA 1),(aA 0),(aA 0),(aA 1),(aA 300),(aA 0),(aA 2),(aA 7),(aA 10),(aA 0),(aA 0),(aA 1),(aA 3),(aA 9),(aA 40),(aA 0),(aA 0),(aA 2)])]))
abbrev bJq:AV:=(.p (.agg [(aA 30),(.sl 3 thS),(.sl 4 [(aA 1),(aA 0),(aA 0),(aA 1),(aA 300),(aA 0),(aA 2),(aA 7),(aA 10),(aA 0),(aA 0),(aA 1),(aA 3),(aA 9),(aA 40),(aA 0),(aA 0),(aA 2),(aA 4),(aA 5),(aA 50),(aA 0),(aA 0),(aA 3)])]))
abbrev bJr:AV:=(.p (.agg [(aA 30),(.sl 3 thS),(.sl 5 [(aA 1),(aA 0),(aA 0),(aA 1),(aA 300),(aA 0),(aA 2),(aA 7),(aA 10),(aA 0),(aA 0),(aA 1),(aA 3),(aA 9),(aA 40),(aA 0),(aA 0),(aA 2),(aA 4),(aA 5),(aA 50),(aA 0),(aA 0),(aA 3),(aA 5),(aA 6),(aA 60),(aA 0),(aA 100),(aA 1)])]))
theorem bPd{r0c:List PV}(h0:0≤(0:Int)∧(0:Int)≤2∧(2:Int)≤5)(er0c:r0c=((thD.drop 0).take (2*(thD.length / 5)))){base:Nat}:FV Tp 88 [(pI 2)] base (.p (.agg [(aA 30),(.sl 3 [(aA 1),(aA 15000),(aA 2),(aA 15100),(aA 3),(aA 15200)]),(.sl 2 r0c)])) []:=by
 subst er0c;exact FV.frz (FMM.fin (k:=0) (g:=⟨[],[],[2,1],[]⟩) rfl Tryz.func88 rfl (o:=[.c (.p (dcE 1 0 0 1 300 0)) [],.c (.p (dcE 2 7 10 0 0 1)) [],.c (.p (dcE 3 9 40 0 0 2)) [],.c (.p (dcE 4 5 50 0 0 3)) [],.c (.p (dcE 5 6 60 0 100 1)) []]) (l:=[_,FC Tp 49 [(pI 5),(pI 6),(pI 1),(pI 60),(pI 100)] [] 1 (.p (dcE 5 6 60 0 100 1)) [],FC Tp 49 [(pI 4),(pI 5),(pI 3),(pI 50),(pI 0)] [] 1 (.p (dcE 4 5 50 0 0 3)) [],FC Tp 49 [(pI 3),(pI 9),(pI 2),(pI 40),(pI 0)] [] 1 (.p (dcE 3 9 40 0 0 2)) [],FC Tp 49 [(pI 2),(pI 7),(pI 1),(pI 10),(pI 0)] [] 1 (.p (dcE 2 7 10 0 0 1)) [],FC Tp 23 [(pI 1),(pI 1),(pI 300)] [] 1 (.p (dcE 1 0 0 1 300 0)) []]) (by kernel_rfl) (gc h0 (gc (FV.fc (iU (a:=(5:Int)) (b:=(6:Int)) (c:=(1:Int)) (d:=(60:Int)) (e:=(100:Int))) rfl) (gc (FV.fc (iU (a:=(4:Int)) (b:=(5:Int)) (c:=(3:Int)) (d:=(50:Int)) (e:=(0:Int))) rfl) (gc (FV.fc (iU (a:=(3:Int)) (b:=(9:Int)) (c:=(2:Int)) (d:=(40:Int)) (e:=(0:Int))) rfl) (gc (FV.fc (iU (a:=(2:Int)) (b:=(7:Int)) (c:=(1:Int)) (d:=(10:Int)) (e:=(0:Int))) rfl) (gc (FV.fc (aIj (a:=(1:Int)) (b:=(1:Int)) (c:=(300:Int))) rfl) gn))))))) (by kernel_rfl)
theorem bPe{r0c:List PV}(h0:0≤(0:Int)∧(0:Int)≤3∧(3:Int)≤5)(er0c:r0c=((thD.drop 0).take (3*(thD.length / 5)))){base:Nat}:FV Tp 88 [(pI 3)] base (.p (.agg [(aA 30),(.sl 3 [(aA 1),(aA 15000),(aA 2),(aA 15100),(aA 3),(aA 15200)]),(.sl 3 r0c)])) []:=by
 subst er0c;exact FV.frz (FMM.fin (k:=0) (g:=⟨[],[],[2,1],[]⟩) rfl Tryz.func88 rfl (o:=[.c (.p (dcE 1 0 0 1 300 0)) [],.c (.p (dcE 2 7 10 0 0 1)) [],.c (.p (dcE 3 9 40 0 0 2)) [],.c (.p (dcE 4 5 50 0 0 3)) [],.c (.p (dcE 5 6 60 0 100 1)) []]) (l:=[_,FC Tp 49 [(pI 5),(pI 6),(pI 1),(pI 60),(pI 100)] [] 1 (.p (dcE 5 6 60 0 100 1)) [],FC Tp 49 [(pI 4),(pI 5),(pI 3),(pI 50),(pI 0)] [] 1 (.p (dcE 4 5 50 0 0 3)) [],FC Tp 49 [(pI 3),(pI 9),(pI 2),(pI 40),(pI 0)] [] 1 (.p (dcE 3 9 40 0 0 2)) [],FC Tp 49 [(pI 2),(pI 7),(pI 1),(pI 10),(pI 0)] [] 1 (.p (dcE 2 7 10 0 0 1)) [],FC Tp 23 [(pI 1),(pI 1),(pI 300)] [] 1 (.p (dcE 1 0 0 1 300 0)) []]) (by kernel_rfl) (gc h0 (gc (FV.fc (iU (a:=(5:Int)) (b:=(6:Int)) (c:=(1:Int)) (d:=(60:Int)) (e:=(100:Int))) rfl) (gc (FV.fc (iU (a:=(4:Int)) (b:=(5:Int)) (c:=(3:Int)) (d:=(50:Int)) (e:=(0:Int))) rfl) (gc (FV.fc (iU (a:=(3:Int)) (b:=(9:Int)) (c:=(2:Int)) (d:=(40:Int)) (e:=(0:Int))) rfl) (gc (FV.fc (iU (a:=(2:Int)) (b:=(7:Int)) (c:=(1:Int)) (d:=(10:Int)) (e:=(0:Int))) rfl) (gc (FV.fc (aIj (a:=(1:Int)) (b:=(1:Int)) (c:=(300:Int))) rfl) gn))))))) (by kernel_rfl)
theorem bPf{r0c:List PV}(h0:0≤(0:Int)∧(0:Int)≤4∧(4:Int)≤5)(er0c:r0c=((thD.drop 0).take (4*(thD.length / 5)))){base:Nat}:FV Tp 88 [(pI 4)] base (.p (.agg [(aA 30),(.sl 3 [(aA 1),(aA 15000),(aA 2),(aA 15100),(aA 3),(aA 15200)]),(.sl 4 r0c)])) []:=by
 subst er0c;exact FV.frz (FMM.fin (k:=0) (g:=⟨[],[],[2,1],[]⟩) rfl Tryz.func88 rfl (o:=[.c (.p (dcE 1 0 0 1 300 0)) [],.c (.p (dcE 2 7 10 0 0 1)) [],.c (.p (dcE 3 9 40 0 0 2)) [],.c (.p (dcE 4 5 50 0 0 3)) [],.c (.p (dcE 5 6 60 0 100 1)) []]) (l:=[_,FC Tp 49 [(pI 5),(pI 6),(pI 1),(pI 60),(pI 100)] [] 1 (.p (dcE 5 6 60 0 100 1)) [],FC Tp 49 [(pI 4),(pI 5),(pI 3),(pI 50),(pI 0)] [] 1 (.p (dcE 4 5 50 0 0 3)) [],FC Tp 49 [(pI 3),(pI 9),(pI 2),(pI 40),(pI 0)] [] 1 (.p (dcE 3 9 40 0 0 2)) [],FC Tp 49 [(pI 2),(pI 7),(pI 1),(pI 10),(pI 0)] [] 1 (.p (dcE 2 7 10 0 0 1)) [],FC Tp 23 [(pI 1),(pI 1),(pI 300)] [] 1 (.p (dcE 1 0 0 1 300 0)) []]) (by kernel_rfl) (gc h0 (gc (FV.fc (iU (a:=(5:Int)) (b:=(6:Int)) (c:=(1:Int)) (d:=(60:Int)) (e:=(100:Int))) rfl) (gc (FV.fc (iU (a:=(4:Int)) (b:=(5:Int)) (c:=(3:Int)) (d:=(50:Int)) (e:=(0:Int))) rfl) (gc (FV.fc (iU (a:=(3:Int)) (b:=(9:Int)) (c:=(2:Int)) (d:=(40:Int)) (e:=(0:Int))) rfl) (gc (FV.fc (iU (a:=(2:Int)) (b:=(7:Int)) (c:=(1:Int)) (d:=(10:Int)) (e:=(0:Int))) rfl) (gc (FV.fc (aIj (a:=(1:Int)) (b:=(1:Int)) (c:=(300:Int))) rfl) gn))))))) (by kernel_rfl)
theorem bPg{r0c:List PV}(h0:0≤(0:Int)∧(0:Int)≤5∧(5:Int)≤5)(er0c:r0c=((thD.drop 0).take (5*(thD.length / 5)))){base:Nat}:FV Tp 88 [(pI 5)] base (.p (.agg [(aA 30),(.sl 3 [(aA 1),(aA 15000),(aA 2),(aA 15100),(aA 3),(aA 15200)]),(.sl 5 r0c)])) []:=by
 subst er0c;exact FV.frz (FMM.fin (k:=0) (g:=⟨[],[],[2,1],[]⟩) rfl Tryz.func88 rfl (o:=[.c (.p (dcE 1 0 0 1 300 0)) [],.c (.p (dcE 2 7 10 0 0 1)) [],.c (.p (dcE 3 9 40 0 0 2)) [],.c (.p (dcE 4 5 50 0 0 3)) [],.c (.p (dcE 5 6 60 0 100 1)) []]) (l:=[_,FC Tp 49 [(pI 5),(pI 6),(pI 1),(pI 60),(pI 100)] [] 1 (.p (dcE 5 6 60 0 100 1)) [],FC Tp 49 [(pI 4),(pI 5),(pI 3),(pI 50),(pI 0)] [] 1 (.p (dcE 4 5 50 0 0 3)) [],FC Tp 49 [(pI 3),(pI 9),(pI 2),(pI 40),(pI 0)] [] 1 (.p (dcE 3 9 40 0 0 2)) [],FC Tp 49 [(pI 2),(pI 7),(pI 1),(pI 10),(pI 0)] [] 1 (.p (dcE 2 7 10 0 0 1)) [],FC Tp 23 [(pI 1),(pI 1),(pI 300)] [] 1 (.p (dcE 1 0 0 1 300 0)) []]) (by kernel_rfl) (gc h0 (gc (FV.fc (iU (a:=(5:Int)) (b:=(6:Int)) (c:=(1:Int)) (d:=(60:Int)) (e:=(100:Int))) rfl) (gc (FV.fc (iU (a:=(4:Int)) (b:=(5:Int)) (c:=(3:Int)) (d:=(50:Int)) (e:=(0:Int))) rfl) (gc (FV.fc (iU (a:=(3:Int)) (b:=(9:Int)) (c:=(2:Int)) (d:=(40:Int)) (e:=(0:Int))) rfl) (gc (FV.fc (iU (a:=(2:Int)) (b:=(7:Int)) (c:=(1:Int)) (d:=(10:Int)) (e:=(0:Int))) rfl) (gc (FV.fc (aIj (a:=(1:Int)) (b:=(1:Int)) (c:=(300:Int))) rfl) gn))))))) (by kernel_rfl)
theorem wE{base:Nat}:FV Tp 88 [.p (aA 2)] base nG []:=bPd (by decide) rfl
theorem bPh{base:Nat}:FV Tp 88 [.p (aA 3)] base bJp []:=bPe (by decide) rfl
theorem bPi{base:Nat}:FV Tp 88 [.p (aA 4)] base bJq []:=bPf (by decide) rfl
theorem bPj{base:Nat}:FV Tp 88 [.p (aA 5)] base bJr []:=bPg (by decide) rfl
theorem bYx(h28_0:∀ base:Nat,FV Tp 28 [nG] base (.tup [(.own base),(pI 0)]) [(base,(.row 48 3 [(aA 2),(aA 1),(aA 15100),(aA 3),(aA 2),(aA 15200),(aA 1),(aA 3),(aA 15300)]))])(h21_1:∀ base:Nat,FV Tp 21 [nG,(.p (.sl 1 [(aA 2)]))] base (.tup [(.own base),(pI 0)]) [(base,(.row 48 3 [(aA 1),(aA 1),(aA 15000),(aA 2),(aA 2),(aA 15100),(aA 3),(aA 3),(aA 15200)]))])(h71_2:∀ base:Nat,FV Tp 71 [nG,(pI 1)] base (.tup [(.p (.sl 2 [(aA 1),(aA 3)])),(pB false),(pI 0)]) [])(h33_3:∀ base:Nat,FV Tp 33 [nG,(pI 2)] base (.tup [(.p (.sl 1 [(aA 2)])),(pI 0)]) [])(h51_4:∀ base:Nat,FV Tp 51 [(.p (.sl 3 [(aA 2),(aA 1),(aA 15100),(aA 3),(aA 2),(aA 15200),(aA 1),(aA 3),(aA 15300)])),(.p (.sl 3 [(aA 2),(aA 1),(aA 15100),(aA 3),(aA 2),(aA 15200),(aA 1),(aA 3),(aA 15300)]))] base (pB true) [])(h5:dI [(aA 1),(aA 1),(aA 15000)] [(0,3,true),(1,3,true),(2,3,true)]=true∧dI [(aA 1),(aA 1),(aA 15000)] [(0,3,true),(1,3,true),(2,3,true)]=true)(h6:(kD [(aA 1),(aA 1),(aA 15000)] [(aA 1),(aA 1),(aA 15000)] [(0,3,true),(1,3,true),(2,3,true)])=true)(h41_7:∀ base:Nat,FV Tp 41 [(.p (.sl 2 [(aA 1),(aA 3)])),(.p (.sl 2 [(aA 1),(aA 3)]))] base (pB true) [])(h41_8:∀ base:Nat,FV Tp 41 [(.p (.sl 1 [(aA 2)])),(.p (.sl 1 [(aA 2)]))] base (pB true) [])(h19_9:∀ base:Nat,FV Tp 19 [bJp] base (.tup [(.p (.sl 0 [])),(pI 0)]) [])(h19_10:∀ base:Nat,FV Tp 19 [bJq] base (.tup [(.p (.sl 1 [(aA 2)])),(pI 0)]) [])(h61_11:∀ base:Nat,FV Tp 61 [bJr,(pI 1)] base (.tup [(pI 15100),(pB false),(pI 0)]) [])(h58_12:∀ base:Nat,FV Tp 58 [nG,(pI 2)] base (.tup [(pB true),(pI 0)]) []){base:Nat}:FV Tp 26 [] base (pB true) []:=by
 exact FV.fin Tryz.func26 rfl (o:=[.c nG [],.c (.tup [(.own 0),(pI 0)]) [(0,(.row 48 3 [(aA 2),(aA 1),(aA 15100),(aA 3),(aA 2),(aA 15200),(aA 1),(aA 3),(aA 15300)]))],.c nG [],.c (.tup [(.own 2),(pI 0)]) [(1,.dead),(2,(.row 48 3 [(aA 1),(aA 1),(aA 15000),(aA 2),(aA 2),(aA 15100),(aA 3),(aA 3),(aA 15200)]))],.c nG [],.c (.tup [(.p (.sl 2 [(aA 1),(aA 3)])),(pB false),(pI 0)]) [],.c nG [],.c (.tup [(.p (.sl 1 [(aA 2)])),(pI 0)]) [],bF,bF,bF,bF,bF,bF,bF,bF,bF,bF,bF,bF,bF,bF,bF,.c (pB true) [],bF,bF,bF,bF,bF,bF,bF,bF,bF,.x (.agg [(aA 1),(aA 1),(aA 15000)]),bF,bF,bF,bF,bF,bF,.c (pB true) [],bF,bF,bF,bF,bF,.c (pB true) [],bF,bF,bF,.c bJp [],.c (.tup [(.p (.sl 0 [])),(pI 0)]) [],.c bJq [],.c (.tup [(.p (.sl 1 [(aA 2)])),(pI 0)]) [],.c bJr [],.c (.tup [(pI 15100),(pB false),(pI 0)]) [],.c nG [],.c (.tup [(pB true),(pI 0)]) [],bT,bT,bT,bT,bT,bT,bT,bT,bT,bT,bT,bT,bT,bT,bT,bT,.c (pB true) [],bT,bT,bT,bT,bT,bT]) (l:=[_,_,true=true,true=true,true=true,_,FC Tp 41 [(.p (.sl 1 [(aA 2)])),(.own 6)] [(6,(.row 3 1 [(aA 2)]))] 7 (pB true) [],_,_,_,_,_,_,_,_,_,_,_,_,_,_,_,_,FC Tp 58 [nG,(pI 2)] [] 6 (.tup [(pB true),(pI 0)]) [],FC Tp 88 [(pI 2)] [] 6 nG [],FC Tp 61 [bJr,(pI 1)] [] 6 (.tup [(pI 15100),(pB false),(pI 0)]) [],FC Tp 88 [(pI 5)] [] 6 bJr [],FC Tp 19 [bJq] [] 6 (.tup [(.p (.sl 1 [(aA 2)])),(pI 0)]) [],FC Tp 88 [(pI 4)] [] 6 bJq [],FC Tp 19 [bJp] [] 6 (.tup [(.p (.sl 0 [])),(pI 0)]) [],FC Tp 88 [(pI 3)] [] 6 bJp [],false=false,false=false,false=false,FC Tp 41 [(.p (.sl 1 [(aA 2)])),(.own 5)] [(5,(.row 3 1 [(aA 2)]))] 6 (pB true) [],false=false,false=false,false=false,_,_,FC Tp 41 [(.p (.sl 2 [(aA 1),(aA 3)])),(.own 4)] [(4,(.row 3 2 [(aA 1),(aA 3)]))] 5 (pB true) [],_,_,_,_,_,_,_,some (.agg (([(aA 1),(aA 1),(aA 15000),(aA 2),(aA 2),(aA 15100),(aA 3),(aA 3),(aA 15200)].drop 0).take 3):PV)=some (.agg [(aA 1),(aA 1),(aA 15000)]),0+3≤[(aA 1),(aA 1),(aA 15000),(aA 2),(aA 2),(aA 15100),(aA 3),(aA 3),(aA 15200)].length,_,0≤(0:Int)∧(0:Int)<3,_,_,false=false,false=false,false=false,false=false,_,_,FC Tp 51 [(.own 0),(.own 3)] [(0,(.row 48 3 [(aA 2),(aA 1),(aA 15100),(aA 3),(aA 2),(aA 15200),(aA 1),(aA 3),(aA 15300)])),(3,(.row 48 3 [(aA 2),(aA 1),(aA 15100),(aA 3),(aA 2),(aA 15200),(aA 1),(aA 3),(aA 15300)]))] 4 (pB true) [],_,_,_,_,_,_,_,_,_,_,_,_,_,_,_,FC Tp 33 [nG,(pI 2)] [] 3 (.tup [(.p (.sl 1 [(aA 2)])),(pI 0)]) [],FC Tp 88 [(pI 2)] [] 3 nG [],FC Tp 71 [nG,(pI 1)] [] 3 (.tup [(.p (.sl 2 [(aA 1),(aA 3)])),(pB false),(pI 0)]) [],FC Tp 88 [(pI 2)] [] 3 nG [],FC Tp 21 [nG,(.own 1)] [(1,(.row 3 1 [(aA 2)]))] 2 (.tup [(.own 2),(pI 0)]) [(1,.dead),(2,(.row 48 3 [(aA 1),(aA 1),(aA 15000),(aA 2),(aA 2),(aA 15100),(aA 3),(aA 3),(aA 15200)]))],FC Tp 88 [(pI 2)] [] 1 nG [],FC Tp 28 [nG] [] 0 (.tup [(.own 0),(pI 0)]) [(0,(.row 48 3 [(aA 2),(aA 1),(aA 15100),(aA 3),(aA 2),(aA 15200),(aA 1),(aA 3),(aA 15300)]))],FC Tp 88 [(pI 2)] [] 0 nG []]) (by kernel_rfl) (g2c bYw (gc rfl (gc rfl (gc rfl (gc aSb (gc (fv (h41_8 _)) (g8c aSb (g8c aSb (gc (FV.fc (h58_12 _) rfl) (gc (FV.fc wE (by kernel_rfl)) (gc (FV.fc (h61_11 _) rfl) (gc (FV.fc bPj (by kernel_rfl)) (gc (FV.fc (h19_10 _) rfl) (gc (FV.fc bPi (by kernel_rfl)) (gc (FV.fc (h19_9 _) rfl) (gc (FV.fc bPh (by kernel_rfl)) (gc rfl (gc rfl (gc rfl (gc (fv (h41_8 _)) (gc rfl (gc rfl (gc rfl (g2c (bA h6) (gc (fv (h41_7 _)) (g3c (bA h6) (gc aIv (gc h5 (g2c aIv (gc rfl (gc (by first | decide | simp) (gc aIv (gc (by first | decide | simp) (g2c aIv (gc rfl (gc rfl (gc rfl (gc rfl (g2c aSc (gc (fv (h51_4 _)) (g8c aSc (g7c aSc (gc (FV.fc (h33_3 _) rfl) (gc (FV.fc wE (by kernel_rfl)) (gc (FV.fc (h71_2 _) rfl) (gc (FV.fc wE (by kernel_rfl)) (gc (FV.close (ids:=[1]) (args':=[nG,(.p (.sl 1 [(aA 2)]))]) (h21_1 _) (by kernel_rfl)) (gc (FV.fc wE (by kernel_rfl)) (gc (FV.fc (h28_0 _) rfl) (gc (FV.fc wE (by kernel_rfl)) gn))))))))))))))))))))))))))))))))))))))))))))))))))
end
section
abbrev sB(s:List Int):Int:=s.getD 0 0
abbrev sT(s:List Int):Int:=s.getD 1 0
def tG(dl:Int)(oc:List Int)(dc sk:Lqq):Lqq:=(sk.filter fun s => !(lL dl oc dc (sB s) (sT s)).2).map fun s=>[sB s,0,(lL dl oc dc (sB s) (sT s)).1]
def qE(dl:Int)(oc:List Int)(dc sk:Lqq):Lqq:=(sk.filter fun s=>(lL dl oc dc (sB s) (sT s)).2).map fun s=>[sB s,-1,0]
def plN(A:Lqq)(t:Int):Int:=match A.getLast? with
 | some y=>if y.getD 2 0=t then y.getD 1 0 else (A.length:Int)+1
 | none=>(A.length:Int)+1
def plS(A:Lqq)(x:List Int):Lqq:=A++[[x.getD 0 0,plN A (x.getD 2 0),x.getD 2 0]]
def rV(l:Lqq):Lqq:=l.foldl plS []
def aDd(dl:Int)(oc:List Int)(dc sk:Lqq):Lqq:=rV (isort (ltK 2) (tG dl oc dc sk))++qE dl oc dc sk

theorem bPp(A D:List PV)(a b c v:PV):(A++[a,b,c]++D).set (A.length+1) v=A++[a,v,c]++D:=by
 induction A with
 | nil=>rfl
 | cons x A ih=>simp
theorem zS{L:Lqq}{j:Nat}{a b c:Int}(hu:uni 3 L)(hj:L[j]? = some [a,b,c])(v:Int):(L.flatten.map aA).set (j*3+1) (aA v)=((L.set j [a,v,c]).flatten.map aA):=by
 obtain ⟨hlt,he⟩:=kQ3.1 hj;have h0:=vL (k:=3) (i:=j) (x:=[a,b,c]) hu hlt rfl;have h1:=vL (k:=3) (i:=j) (x:=[a,v,c]) hu hlt rfl;have hs:L.set j [a,b,c]=L:=by rw [← he];exact List.set_getElem_self hlt
 rw [hs] at h0
 rw [← h1];have hl:((L.flatten.map aA).take (j*3)).length=j*3:=by
  have:=aW hu hj;rw [nC];omega
 have:=bPp ((L.flatten.map aA).take (j*3)) ((L.flatten.map aA).drop (j*3+3)) (aA a) (aA b) (aA c) (aA v);rw [hl] at this
 conv=>lhs;rw [← h0]
 exact this
theorem bPq(A:Lqq)(x:List Int):(plS A x).length=A.length+1:=by simp [plS]
theorem aUn(l:Lqq):∀ A:Lqq,(l.foldl plS A).length=A.length+l.length:=by
 induction l with
 | nil=>intro A;simp
 | cons x l ih=>intro A;rw [yZ,ih,bPq];simp;omega
theorem aUo(l:Lqq):∀ A:Lqq,uni 3 A→uni 3 (l.foldl plS A):=by
 induction l with
 | nil=>intro A h;exact h
 | cons x l ih =>
  intro A h;rw [yZ];refine ih _ fun y hy => ?_
  unfold plS at hy
  rcases nV.1 hy with hy | hy
  ·exact h y hy
  ·rw [List.mem_singleton.1 hy];rfl
section
variable {dl:Int} {sk dc:Lqq} {oc:List Int} {ov:PV}
theorem aSe(l:Lqq)(hu:uni 3 l)(hl:l.length<1000)(p q:Lqq)(hp:(isort (ltK 2) p).length=l.length)(t:Lqb) :
  aE Tp 7 (sub (cd Tryz.f86) [1,1,1,1,0,1,0,0]) (fG dl sk dc ov p q t l.length (l.flatten.map aA) 0) (.exit 2) (fG dl sk dc ov p q t (rV l).length ((rV l).flatten.map aA) l.length):=by
 let St (j:Nat):Lqq:=(l.take j).foldl plS []++l.drop j
 have hlen:∀ j,j≤l.length→((l.take j).foldl plS []).length=j:=fun j hj=>by rw [aUn];simp;omega
 have hlS:∀ j,j≤l.length→(St j).length=l.length:=fun j hj=>by
  show (_++_:Lqq).length=_;rw [oS,hlen j hj,bKo];omega
 have huS:∀ j,uni 3 (St j):=fun j y hy=>by
  rcases nV.1 hy with hy | hy
  ·exact aUo _ [] (fun z hz=>by cases hz) y hy
  ·exact hu y (List.mem_of_mem_drop hy)
 have:=aE.count (P:=Tp) (k:=7) (b:=sub (cd Tryz.f86) [1,1,1,1,0,1,0,0]) (e := .exit 2) (R:=fG dl sk dc ov p q t (rV l).length ((rV l).flatten.map aA) l.length) l.length
  (fun j=>fG dl sk dc ov p q t (St j).length ((St j).flatten.map aA) j)
  (fun j hj=>by
   have hx:=hu _ (fV hj);obtain ⟨a,b,c,hx⟩:=len3 hx;have hA:=hlen j (by omega)
   have e1:(l.take (j+1)).foldl plS []=plS ((l.take j).foldl plS []) [a,b,c]:=by
    rw [List.take_add_one,kQ0 hj,hx];rw [aHg];rfl
   have hdr:l.drop j=[a,b,c]::l.drop (j+1):=by rw [aKr hj,hx]
   have g1:(St j)[j]? = some [a,b,c]:=by
    show ((l.take j).foldl plS []++l.drop j)[j]? = _;rw [wR (by omega),hA,aOn,hdr];rfl
   have hset:∀ v,(St j).set j [a,v,c]=(l.take j).foldl plS []++[a,v,c]::l.drop (j+1):=fun v=>by
    show ((l.take j).foldl plS []++l.drop j).set j [a,v,c]=_;rw [List.set_append_right _ _ (by omega),hA,aOn,hdr];rfl
   have hnext:St (j+1)=(St j).set j [a,plN ((l.take j).foldl plS []) c,c]:=by
    rw [hset];show (l.take (j+1)).foldl plS []++l.drop (j+1)=_;rw [e1];unfold plS;rw [List.append_assoc];rfl
   have hle:=aW (huS j) g1;have hpl:(j:Int)<((isort (ltK 2) p).length:Int):=by rw [hp];omega
   rw [hnext]
   rcases Nat.eq_zero_or_pos j with h0 | hpos
   ·have hn:plN ((l.take j).foldl plS []) c=(j:Int)+1:=by
     subst h0;rfl
    rw [hn];exact bEe (L:=St j) (L':=(St j).set j [a,((j+1:Nat):Int),c]) (by exact_mod_cast hpl) (aO (by omega)) g1 (by omega) (by omega) (by simp) (zS (huS j) g1 _).symm rfl
   ·have g2:∃ y0 y1 y2,((l.take j).foldl plS []).getLast? = some [y0,y1,y2]∧(St j)[((j:Int)-1).toNat]? = some [y0,y1,y2]:=by
     have hlt:j-1<((l.take j).foldl plS []).length:=by omega
     have h3:=aUo (l.take j) [] (fun z hz=>by cases hz) _ (fV hlt)
     obtain ⟨y0,y1,y2,hy⟩:=len3 h3;refine ⟨y0,y1,y2,?_,?_⟩
     ·rw [List.getLast?_eq_getElem?,hA,kQ0 hlt,hy]
     ·show ((l.take j).foldl plS []++l.drop j)[((j:Int)-1).toNat]? = _
      rw [show ((j:Int)-1).toNat=j-1 by omega,aBk hlt,kQ0 hlt,hy]
    obtain ⟨y0,y1,y2,g3,g4⟩:=g2
    by_cases hc:c=y2
    ·have hn:plN ((l.take j).foldl plS []) c=y1:=by
      unfold plN;rw [g3];show (if y2=c then y1 else _)=y1
      rw [if_pos hc.symm]
     rw [hn];have hu1:uni 3 ((St j).set j [a,((j+1:Nat):Int),c]):=aTc (huS j) rfl;have g5:((St j).set j [a,((j+1:Nat):Int),c])[j]? = some [a,((j+1:Nat):Int),c]:=by
      rw [bKm (by rw [hlS j (by omega)];omega)]
     refine bEc (L:=St j) (L':=(St j).set j [a,y1,c]) (by exact_mod_cast hpl) (aO (by omega)) g1 (by omega) (by omega) (huS j) (by unfold inR;omega) g4 (by omega) hc (by rw [oT];omega) (by simp) ?_ rfl
     rw [zS (huS j) g1,zS hu1 g5,List.set_set]
    ·have hn:plN ((l.take j).foldl plS []) c=(j:Int)+1:=by
      unfold plN;rw [g3];show (if y2=c then y1 else _)=_
      rw [if_neg (fun h=>hc h.symm),hA]
     rw [hn];exact bEd (L:=St j) (L':=(St j).set j [a,((j+1:Nat):Int),c]) (by exact_mod_cast hpl) (aO (by omega)) g1 (by omega) (by omega) (huS j) (by unfold inR;omega) g4 (by omega) hc (by simp) (zS (huS j) g1 _).symm rfl)
  (by
   have e:St l.length=rV l:=by
    show (l.take l.length).foldl plS []++l.drop l.length=_;rw [List.take_length,List.drop_length,List.append_nil];rfl
   rw [e];exact bEf (by rw [hp];omega)) (by simp)
 exact this
theorem aGe:(tG dl oc dc sk).length≤sk.length:=by
 unfold tG;rw [fL];exact rF _ _
theorem aDe:(qE dl oc dc sk).length≤sk.length:=by
 unfold qE;rw [fL];exact rF _ _
theorem aGf:uni 3 (tG dl oc dc sk):=fun y hy=>by
 obtain ⟨s,_,rfl⟩:=fF.1 hy;rfl
theorem aSf:uni 3 (qE dl oc dc sk):=fun y hy=>by
 obtain ⟨s,_,rfl⟩:=fF.1 hy;rfl
theorem aDf(f:Nat)(l:Lqq):(isort (ltK f) l).length=l.length:=wC _ _
theorem bEo{k f:Nat}{l:Lqq}(h:uni k l):uni k (isort (ltK f) l):=fun y hy=>h y ((aGb _ _ y).1 hy)
theorem aSg(l:Lqq):(rV l).length=l.length:=by unfold rV;rw [aUn];simp
theorem cAb(hd:cE dc)(hov:∀ n,rN ov n (oc.contains n))(hs:uni 2 sk)(hb:∀ x∈sk,skB x=true)(hl:sk.length<20){T:Lqb}(hT:cF dl oc dc T):∃ T',cF dl oc dc T'∧bYg dl sk dc ov (aDd dl oc dc sk) T T':=by
 obtain ⟨acc,⟨h1,h2,h3⟩,h4⟩:=aE.ex (P:=Tp) (k:=7) (b:=sub (cd Tryz.f86) [1,1,0,1,0,0]) (e := .exit 0) (fun i (a:(Lqq × Lqq) × Lqb)=>jP dl sk dc ov a.1.1.length (a.1.1.flatten.map aA) a.1.2.length (a.1.2.flatten.map aA) i (aF a.2) a.2.length)
  (fun a=>jP dl sk dc ov a.1.1.length (a.1.1.flatten.map aA) a.1.2.length (a.1.2.flatten.map aA) sk.length (aF a.2) a.2.length)
  (fun i a=>cF dl oc dc a.2∧a.1.1=tG dl oc dc (sk.take i)∧a.1.2=qE dl oc dc (sk.take i)) (by simp) sk.length
  (fun i acc hi hI=>by
   obtain ⟨⟨p,q⟩,T1⟩:=acc;obtain ⟨h1,h2,h3⟩:=hI;dsimp only at h1 h2 h3
   have hm:=fV hi;obtain ⟨a,b,hy⟩:=len2 (hs _ hm);have hx:sk[i]? = some [a,b]:=by rw [kQ0 hi,hy]
   rw [hy] at hm
   have hr : -1≤b∧b≤360000:=by
    have:=hb _ hm;rw [aPi,kQ6] at this
    exact bY.1 this.2
   obtain ⟨T2,q1,q2⟩:=bHl (sk:=sk) hd hov a b hr h1;have hp:p.length≤20:=by rw [h2];have:=aGe (dl:=dl) (oc:=oc) (dc:=dc) (sk:=sk.take i);rw [nC] at this;omega
   have hq:q.length≤20:=by rw [h3];have:=aDe (dl:=dl) (oc:=oc) (dc:=dc) (sk:=sk.take i);rw [nC] at this;omega
   have et:sk.take (i+1)=sk.take i++[[a,b]]:=by rw [List.take_add_one,hx];rfl
   rw [et];have e1:tG dl oc dc (sk.take i++[[a,b]])=p++if (lL dl oc dc a b).2 then [] else [[a,0,(lL dl oc dc a b).1]]:=by
    rw [h2];unfold tG;rw [sQ,iY]
    congr 1
    show (List.filter _ [[a,b]]).map _=_;cases hq:(lL dl oc dc a b).2 <;> simp [hq]
   have e2:qE dl oc dc (sk.take i++[[a,b]])=q++if (lL dl oc dc a b).2 then [[a,-1,0]] else []:=by
    rw [h3];unfold qE;rw [sQ,iY]
    congr 1
    show (List.filter _ [[a,b]]).map _=_;cases hq:(lL dl oc dc a b).2 <;> simp [hq]
   rw [e1,e2];cases hc:(lL dl oc dc a b).2 with
   | true =>
    rw [hc] at q2
    exact ⟨((p,q++[[a,-1,0]]),T2),⟨q1,by simp,by simp⟩,bDz (q:=q) (q':=q++[[a,-1,0]]) (by omega) hx hs q2 rfl ⟨rfl,by omega⟩ (aO (by omega)) (by simp) (by simp) rfl rfl rfl⟩
   | false =>
    rw [hc] at q2
    exact ⟨((p++[[a,0,(lL dl oc dc a b).1]],q),T2),⟨q1,by simp,by simp⟩,bEa (p:=p) (p':=p++[[a,0,(lL dl oc dc a b).1]]) (by omega) hx hs q2 rfl ⟨rfl,by omega⟩ (aO (by omega)) (by simp) (by simp) rfl rfl rfl⟩)
  (fun acc hI=>bEb (by omega)) (acc:=(([],[]),T)) ⟨hT,by simp [tG],by simp [qE]⟩
 obtain ⟨⟨p,q⟩,T1⟩:=acc;dsimp only at h1 h2 h3 h4
 rw [List.take_length] at h2 h3
 subst h2 h3;have hp:=aGe (dl:=dl) (oc:=oc) (dc:=dc) (sk:=sk);have hq:=aDe (dl:=dl) (oc:=oc) (dc:=dc) (sk:=sk);have hP:=aSe (dl:=dl) (sk:=sk) (dc:=dc) (ov:=ov) (isort (ltK 2) (tG dl oc dc sk)) (bEo aGf) (by rw [aDf];omega) (tG dl oc dc sk) (qE dl oc dc sk) rfl T1
 refine ⟨T1,h1,bYh (r0n:=(aDd dl oc dc sk).length) (r0c:=(aDd dl oc dc sk).flatten.map aA) h4 aGf (by omega) hP ⟨rI aSf,by rw [aSg,aDf];omega⟩ ?_ ?_⟩
 ·unfold aDd;rw [oS]
 ·unfold aDd;rw [aOk,iY]
end
theorem aUp{dl:Int}{sk dc:Lqq}(h:cM dl sk dc):∀ x∈aB sk,skB x=true:=fun x hx=>h.hsk x ((dY sk).mem_iff.1 hx)
theorem bZb{dl:Int}{sk dc:Lqq}(h:cM dl sk dc)(hl:sk.length<20){base:Nat}:FV Tp 28 [.p (.agg (bB dl sk dc))] base (.tup [.own base,.p (aA 0)]) [(base,.row 48 (aDd dl [] (aB dc) (aB sk)).length ((aDd dl [] (aB dc) (aB sk)).flatten.map aA))]:=by
 obtain ⟨T',h1,h2⟩:=cAb (dl:=dl) (sk:=aB sk) (dQ h) vP (mM h.us) (aUp h) (by rw [fM];exact hl) cF.nil
 exact bYi h h2
theorem bEp{dl:Int}{dc:Lqq}(hd:cE dc):(aP dl dc).length≤1000:=by
 unfold aP;rw [fL];have:=rF (jW dl dc) dc;have:=hd.len;omega
def wF(u:List Int):Bool:=(List.range u.length).all fun i=>i == 0 || decide (u.getD (i-1) 0<u.getD i 0)
theorem bJw{dl:Int}{sk dc:Lqq}(u:List Int)(hl:u.length≤1000):(wF u=true∧∃ i,aE Tp 0 (sub (cd Tryz.f21) [1,1,1,1,1,0,1,0,0]) (iJ dl sk dc u 1) (.exit 0) (iJ dl sk dc u i)) ∨
  (wF u=false∧∃ i,aE Tp 0 (sub (cd Tryz.f21) [1,1,1,1,1,0,1,0,0]) (iJ dl sk dc u 1) .ret (bG (iJ dl sk dc u i) [(4,.p bI),(5,.p (aA 4))])):=by
 rcases Nat.lt_or_ge u.length 2 with h2 | h2
 ·refine .inl ⟨?_,1,.exit (aFy (by omega)) (by simp)⟩
  unfold wF;rw [jY];intro i hi;have:=sR.1 hi;have:i=0:=by omega
  subst this;rfl
 ·have hget:∀ i,i<u.length→u[i]? = some (u.getD i 0):=fun i hi=>by rw [kQ5,kQ0 hi];rfl
  have key:∀ d i,i+d=u.length→1≤i→(∀ j,j<i→(j == 0 || decide (u.getD (j-1) 0<u.getD j 0))=true) →
   (wF u=true∧∃ k,aE Tp 0 (sub (cd Tryz.f21) [1,1,1,1,1,0,1,0,0]) (iJ dl sk dc u (i:Int)) (.exit 0) (iJ dl sk dc u k)) ∨
   (wF u=false∧∃ k,aE Tp 0 (sub (cd Tryz.f21) [1,1,1,1,1,0,1,0,0]) (iJ dl sk dc u (i:Int)) .ret (bG (iJ dl sk dc u k) [(4,.p bI),(5,.p (aA 4))])):=by
   intro d
   induction d with
   | zero =>
    intro i hi h1 hj;refine .inl ⟨?_,_,.exit (aFy (by omega)) (by simp)⟩
    unfold wF;rw [jY];intro j hjr;exact hj j (by have:=sR.1 hjr;omega)
   | succ d ih =>
    intro i hi h1 hj;have g1:u[((i:Nat):Int).toNat]? = some (u.getD i 0):=by rw [aWj];exact hget i (by omega)
    have g2:u[((i:Int)-1).toNat]? = some (u.getD (i-1) 0):=by rw [show ((i:Int)-1).toNat=i-1 by omega];exact hget (i-1) (by omega)
    by_cases hc:u.getD (i-1) 0<u.getD i 0
    ·have hst:=bEh (dl:=dl) (sk:=sk) (dc:=dc) (i:=(i:Int)) (i':=((i+1:Nat):Int)) (by omega) g1 (by omega) (by unfold inR;omega) g2 (by omega) hc (by unfold inR;omega) (by omega)
     rcases ih (i+1) (by omega) (by omega) (fun j hj2=>by
      rcases Nat.lt_or_ge j i with h3 | h3
      ·exact hj j h3
      ·obtain rfl:j=i:=by omega
       rw [decide_eq_true hc,Bool.or_true]) with ⟨q1,k,q2⟩ | ⟨q1,k,q2⟩
     ·exact .inl ⟨q1,k,.step hst q2⟩
     ·exact .inr ⟨q1,k,.step hst q2⟩
    ·refine .inr ⟨?_,_,.exit (bEg (i:=(i:Int)) (by omega) g1 (by omega) (by unfold inR;omega) g2 (by omega) (by omega)) (by simp)⟩
     cases hr:wF u with
     | false=>rfl
     | true =>
      unfold wF at hr
      have:=jY.1 hr i (sR.2 (by omega))
      rw [show (i == 0)=false by simp;omega,Bool.false_or] at this
      exact absurd (of_decide_eq_true this) hc
  have:=key (u.length-1) 1 (by omega) (by omega) (fun j hj=>by
   have:j=0:=by omega
   subst this;rfl)
  exact this
def cAc(dl:Int)(dc:Lqq)(u:List Int):Int:=if u.all (ocB (aP dl dc)) then (if wF u then 0 else 4) else 1
theorem bZc{dl:Int}{sk dc:Lqq}(h:cM dl sk dc)(hl:sk.length<20)(u:List Int)(hu:u.length≤1000)(he:cAc dl (aB dc) u=0){base:Nat}:FV Tp 21 [.p (.agg (bB dl sk dc)),.p (aG u)] base (.tup [.own base,.p (aA 0)]) [(base,.row 48 (aDd dl u (aB dc) (aB sk)).length ((aDd dl u (aB dc) (aB sk)).flatten.map aA))]:=by
 have hd:=dQ h;unfold cAc at he
 cases ha:u.all (ocB (aP dl (aB dc))) with
 | false=>rw [ha] at he;simp at he
 | true =>
  rw [ha,if_pos rfl] at he
  rcases bJw (dl:=dl) (sk:=sk) (dc:=dc) u hu with ⟨q1,i,q2⟩ | ⟨q1,i,q2⟩
  ·obtain ⟨T',h1,h2⟩:=cAb (dl:=dl) (sk:=aB sk) hd (aCl hu) (mM h.us) (aUp h) (by rw [fM];exact hl) cF.nil
   exact bYn h hd hu (fun _ _=>bEp hd) ha q2 h2
  ·rw [q1] at he;simp at he
end
end KV
end Go.Proofs
section
namespace Go.Proofs
namespace KL
def aSa(x:Int):List Int→List Int
 | []=>[x]
 | y::r=>if x≤y then x::y::r else y::aSa x r
def sortI:List Int→List Int
 | []=>[]
 | x::r=>aSa x (sortI r)
theorem xP(x:Int):∀ l,(aSa x l).Perm (x::l)
 | [] => .refl _
 | y::r=>by
  unfold aSa
  split
  ·exact .refl _
  ·exact ((xP x r).cons y).trans (List.Perm.swap x y r)
theorem aCz:∀ l,(sortI l).Perm l
 | [] => .refl _
 | x::r=>(xP x _).trans ((aCz r).cons x)
theorem yU(x:Int):∀ l,l.Pairwise (· ≤ ·)→(aSa x l).Pairwise (· ≤ ·)
 | [],_=>by simp [aSa]
 | y::r,h=>by
  obtain ⟨h1,h2⟩:=List.pairwise_cons.1 h;unfold aSa
  split
  ·rename_i hx
   exact List.pairwise_cons.2 ⟨fun z hz=>by
    rcases List.mem_cons.1 hz with rfl | hz
    ·exact hx
    ·have:=h1 z hz;omega,h⟩
  ·rename_i hx
   refine List.pairwise_cons.2 ⟨fun z hz => ?_,yU x r h2⟩
   rcases List.mem_cons.1 ((xP x r).mem_iff.1 hz) with rfl | hz
   ·omega
   ·exact h1 z hz
theorem wD:∀ l,(sortI l).Pairwise (· ≤ ·)
 | [] => .nil
 | x::r=>yU x _ (wD r)
theorem aGd:∀ (a b:List Int),a.Perm b→a.Pairwise (· ≤ ·)→b.Pairwise (· ≤ ·)→a=b
 | [],b,h,_,_=>(List.nil_perm.1 h).symm
 | x::r,[],h,_,_=>absurd h.length_eq (by simp)
 | x::r,y::t,h,ha,hb=>by
  obtain ⟨h1,h2⟩:=List.pairwise_cons.1 ha;obtain ⟨h3,h4⟩:=List.pairwise_cons.1 hb;have e:x=y:=by
   have m1:x∈y::t:=h.mem_iff.1 (List.mem_cons_self ..);have m2:y∈x::r:=h.mem_iff.2 (List.mem_cons_self ..)
   rcases List.mem_cons.1 m1 with e | m1
   ·exact e
   ·rcases List.mem_cons.1 m2 with e | m2
    ·exact e.symm
    ·have:=h1 y m2;have:=h3 x m1;omega
  subst e;rw [aGd r t (List.Perm.cons_inv h) h2 h4]
theorem mergeSort_eq(l:List Int):l.mergeSort leB=sortI l:=by
 refine aGd _ _ ((List.mergeSort_perm _ _).trans (aCz l).symm) ?_ (wD l);have:=List.pairwise_mergeSort (le:=leB) (fun a b c h1 h2=>by simp only [leB,decide_eq_true_eq] at *;omega) (fun a b=>by simp only [leB,Bool.or_eq_true,decide_eq_true_eq];omega) l
 exact this.imp (fun h=>by simpa [leB] using h)
end KL
namespace KV
abbrev sk3:List (List Int):=[[1,15000],[2,15100],[3,15200]]
abbrev dc2:List (List Int):=[[1,0,0,1,300,0],[2,7,10,0,0,1]]
abbrev dc3:List (List Int):=[[1,0,0,1,300,0],[2,7,10,0,0,1],[3,9,40,0,0,2]]
abbrev dc4:List (List Int):=[[1,0,0,1,300,0],[2,7,10,0,0,1],[3,9,40,0,0,2],[4,5,50,0,0,3]]
abbrev dc5:List (List Int):=[[1,0,0,1,300,0],[2,7,10,0,0,1],[3,9,40,0,0,2],[4,5,50,0,0,3],[5,6,60,0,100,1]]
theorem rU{l:List (List Int)}(h:l.Pairwise fun a b=>a.getD 0 0≤b.getD 0 0):aB l=l:=List.mergeSort_of_pairwise (h.imp fun h=>decide_eq_true h)
theorem aDs:aB sk3=sk3:=rU (by decide)
theorem srt2:aB dc2=dc2:=rU (by decide)
theorem srt3:aB dc3=dc3:=rU (by decide)
theorem srt4:aB dc4=dc4:=rU (by decide)
theorem srt5:aB dc5=dc5:=rU (by decide)
theorem rec2:cM 30 sk3 dc2:=⟨by unfold uni;decide,by unfold uni;decide,by decide,by decide,by decide,by decide,by decide,by decide,by decide,by decide,by decide⟩
theorem rec3:cM 30 sk3 dc3:=⟨by unfold uni;decide,by unfold uni;decide,by decide,by decide,by decide,by decide,by decide,by decide,by decide,by decide,by decide⟩
theorem rec4:cM 30 sk3 dc4:=⟨by unfold uni;decide,by unfold uni;decide,by decide,by decide,by decide,by decide,by decide,by decide,by decide,by decide,by decide⟩
theorem rec5:cM 30 sk3 dc5:=⟨by unfold uni;decide,by unfold uni;decide,by decide,by decide,by decide,by decide,by decide,by decide,by decide,by decide,by decide⟩
def bPc(al:List fR)(s:Nat)(c:List cV):List Int:=Lib.compact (KL.sortI (c.flatMap (chL al s)))
theorem aUk(al:List fR)(s:Nat)(c:List cV):mH al s c=bPc al s c:=by unfold mH bPc;rw [KL.mergeSort_eq]
def bJm(dl:Int)(sk dc:List (List Int))(f:Int)(i:Nat):Bool:=match (bQ dl sk dc)[i]? with
 | some h=>aIk (bPc (bQ dl sk dc) i h.1) (h.1.any fun x=>x.2.1) (h.1.any fun x => !x.2.1) f
 | none=>false
theorem bJn(dl:Int)(sk dc:List (List Int))(f:Int):yR dl sk dc f=bJm dl sk dc f:=by
 funext i
 unfold yR bJm
 split
 ·rename_i h e
  rw [e];simp only [aUk]
 ·rename_i e
  rw [e]
theorem h28(base:Nat):FV Tryz.prog 28 [.p (.agg (bB 30 sk3 dc2))] base (.tup [.own base,.p (aA 0)]) [(base,.row 48 3 ([[2,1,15100],[3,2,15200],[1,3,15300]].flatten.map aA))]:=by
 have:=bZb rec2 (by decide) (base:=base)
 rw [aDs,srt2,show aDd 30 [] dc2 sk3=[[2,1,15100],[3,2,15200],[1,3,15300]] from by decide +kernel] at this
 exact this
theorem h21(base:Nat):FV Tryz.prog 21 [.p (.agg (bB 30 sk3 dc2)),.p (aG [2])] base (.tup [.own base,.p (aA 0)]) [(base,.row 48 3 ([[1,1,15000],[2,2,15100],[3,3,15200]].flatten.map aA))]:=by
 have:=bZc rec2 (by decide) [2] (by decide) (by rw [srt2];decide +kernel) (base:=base)
 rw [aDs,srt2,show aDd 30 [2] dc2 sk3=[[1,1,15000],[2,2,15100],[3,3,15200]] from by decide +kernel] at this
 exact this
theorem open2:aP 30 dc2=[2]:=by decide +kernel
theorem h71(base:Nat):FV Tryz.prog 71 [.p (.agg (bB 30 sk3 dc2)),.p (aA 1)] base (.tup [.p (aG [1,3]),.p (blP false),.p (aA 0)]) []:=by
 have:=bXd rec2 (bib:=1) (i:=0) (s0:=1) (s1:=15000) (by rw [aDs];decide +kernel) (by rw [aDs];rfl) (by rw [srt2,open2];decide) (base:=base)
 rw [aDs,srt2,aUk,show bPc (bQ 30 sk3 dc2) 0 (oY 30 dc2 1 15000 (uK 30 dc2 1)).1=[1,3] from by decide +kernel,show ((oY 30 dc2 1 15000 (uK 30 dc2 1)).1.any fun x=>x.2.1)=false from by decide +kernel] at this
 exact this
theorem h33(base:Nat):FV Tryz.prog 33 [.p (.agg (bB 30 sk3 dc2)),.p (aA 2)] base (.tup [.p (aG [2]),.p (aA 0)]) []:=by
 have:=bXf rec2 (f:=2) (by decide) (by rw [srt2,open2];decide) (base:=base)
 have e:aMa 30 sk3 dc2 2=[2]:=by
  unfold aMa;rw [bJn];decide +kernel
 rw [aDs,srt2,e] at this
 exact this
theorem h19a(base:Nat):FV Tryz.prog 19 [.p (.agg (bB 30 sk3 dc3))] base (.tup [.p (aG []),.p (aA 0)]) []:=by
 have:=bHh rec3 (base:=base);rw [srt3,show aP 30 dc3=[] from by decide +kernel] at this
 exact this
theorem h19b(base:Nat):FV Tryz.prog 19 [.p (.agg (bB 30 sk3 dc4))] base (.tup [.p (aG [2]),.p (aA 0)]) []:=by
 have:=bHh rec4 (base:=base);rw [srt4,show aP 30 dc4=[2] from by decide +kernel] at this
 exact this
theorem h61(base:Nat):FV Tryz.prog 61 [.p (.agg (bB 30 sk3 dc5)),.p (aA 1)] base (.tup [.p (aA 15100),.p (blP false),.p (aA 0)]) []:=by
 obtain ⟨T',_,hT⟩:=bHl (dl:=30) (sk:=aB sk3) (dc:=aB dc5) (dQ rec5) vP 1 15000 (by decide) (T:=[]) cF.nil
 have:=bWv rec5 (bib:=1) (i0:=0) (s1:=1) (s2:=15000) (by rw [aDs];decide +kernel) (by rw [aDs];rfl) hT (base:=base)
 rw [srt5,show lL 30 [] dc5 1 15000=(15100,false) from by decide +kernel] at this
 exact this
theorem h58(base:Nat):FV Tryz.prog 58 [.p (.agg (bB 30 sk3 dc2)),.p (aA 2)] base (.tup [.p (blP true),.p (aA 0)]) []:=by
 have:=bYy rec2 2 (base:=base);have hB:∀ r6,aDt 30 sk3 dc2 2 r6=fun x => !(((lL 30 x dc2 ((sk3.getD (bD (fun x=>decide (r6=x)) (aK sk3 0)).toNat []).getD 0 0) ((sk3.getD (bD (fun x=>decide (r6=x)) (aK sk3 0)).toNat []).getD 1 0)).1 == (lL 30 (x++[2]) dc2 ((sk3.getD (bD (fun x=>decide (r6=x)) (aK sk3 0)).toNat []).getD 0 0) ((sk3.getD (bD (fun x=>decide (r6=x)) (aK sk3 0)).toNat []).getD 1 0)).1) && ((lL 30 x dc2 ((sk3.getD (bD (fun x=>decide (r6=x)) (aK sk3 0)).toNat []).getD 0 0) ((sk3.getD (bD (fun x=>decide (r6=x)) (aK sk3 0)).toNat []).getD 1 0)).2 == (lL 30 (x++[2]) dc2 ((sk3.getD (bD (fun x=>decide (r6=x)) (aK sk3 0)).toNat []).getD 0 0) ((sk3.getD (bD (fun x=>decide (r6=x)) (aK sk3 0)).toNat []).getD 1 0)).2)):=fun r6=>by
  funext x
  unfold aDt fQ;rw [aDs,srt2]
 have e:bJt 30 sk3 dc2 2=(true,0):=by
  unfold bJt;rw [aDs,srt2,hB];decide +kernel
 rw [e] at this
 exact this
theorem bJo{base:Nat}:FV Tryz.prog 26 [] base (.p (blP true)) [] :=
 bYx h28 h21 h71 h33 (fun base=>by
  have:=bWz [[2,1,15100],[3,2,15200],[1,3,15300]] [[2,1,15100],[3,2,15200],[1,3,15300]] (by unfold uni;decide) (by unfold uni;decide) (by decide) (base:=base)
  rw [decide_eq_true rfl] at this
  exact this) ⟨rfl,rfl⟩ (by decide) (fun base=>by
  have:=mZ [1,3] [1,3] (by decide) (base:=base)
  rw [decide_eq_true rfl] at this
  exact this) (fun base=>by
  have:=mZ [2] [2] (by decide) (base:=base)
  rw [decide_eq_true rfl] at this
  exact this) h19a h19b h61 h58
end KV
end Go.Proofs
end
