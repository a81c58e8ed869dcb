/- Parts of the proof of JPlaced: laws of walks, contracts of functions, plain models. No condition. -/
import Derived.Test.YtgejpbmanhlkcaaGreatPJPlacedD
set_option linter.unusedVariables false
set_option linter.unusedSimpArgs false
set_option maxRecDepth 100000
namespace Go.Proofs
namespace KV
abbrev kVL (a b c d e f:Nat):List AV:=[.fn 154 [] [.ptr a 0,.ptr b 0,.ptr c 0,.ptr d 0],.fn 156 [] [.ptr e 0],.fn 157 [] [.ptr d 0,.ptr f 0],.fn 160 [] [.ptr d 0],.fn 158 [] [.ptr e 0]]
section
structure aFy (p:List Int→Bool) (l:Lqq) (j:Nat) (x:Lqq × Nat):Prop where
 len:x.1.length=l.length
 le:x.2<j
 kept:x.1.take x.2=(l.take j).filter fun n => !p n
 rest:x.1.drop j=l.drop j
theorem aFy.skip{p:List Int→Bool}{l:Lqq}{j:Nat}{x:Lqq × Nat}(h:aFy p l j x)(hj:j<l.length){n:List Int}(hn:x.1[j]? = some n)(hp:p n=true):aFy p l (j+1) x:=by
 have hl:l[j]? = some n:=by
  have:=congrArg (·[0]?) h.rest
  simp only [List.getElem?_drop,Nat.add_zero] at this
  rw [← this];exact hn
 refine ⟨h.len,by have:=h.le;omega,?_,?_⟩
 ·rw [h.kept,List.take_add_one,hl]
  simp [lR,hp]
 ·rw [← List.drop_drop,h.rest,List.drop_drop]
theorem aFy.keep{p:List Int→Bool}{l:Lqq}{j:Nat}{x:Lqq × Nat}(h:aFy p l j x)(hj:j<l.length){n:List Int}(hn:x.1[j]? = some n)(hp:p n=false):aFy p l (j+1) (x.1.set x.2 n,x.2+1):=by
 have hl:l[j]? = some n:=by
  have:=congrArg (·[0]?) h.rest
  simp only [List.getElem?_drop,Nat.add_zero] at this
  rw [← this];exact hn
 have hle:=h.le;have hlen:=h.len;refine ⟨by simp [h.len],by simpa using hle,?_,?_⟩
 ·show (x.1.set x.2 n).take (x.2+1)=_
  rw [List.take_add_one,List.take_set_of_le (dM _),h.kept,bHm (by omega),List.take_add_one,hl]
  simp [lR,hp]
 ·show (x.1.set x.2 n).drop (j+1)=_
  rw [List.drop_set_of_lt (by omega),← List.drop_drop,h.rest,List.drop_drop]
theorem aFy.start{p:List Int→Bool}{l:Lqq}{i:Nat}{n:List Int}(hi:l[i]? = some n)(hp:p n=true)(hb:∀ m∈l.take i,p m=false):aFy p l (i+1) (l,i):=by
 refine ⟨rfl,Nat.lt_succ_self _,?_,rfl⟩;show l.take i=_;rw [List.take_add_one,hi];simp only [lR];rw [List.filter_eq_self.2 fun m hm=>by simp [hb m hm]]
 simp [hp]
theorem aKz{p:List Int→Bool}{l:Lqq}{i:Nat}(h:l.findIdx? p=some i):∀ m∈l.take i,p m=false:=fun m hm=>by
 obtain ⟨hi,h1,h2⟩:=List.findIdx?_eq_some_iff_getElem.1 h;obtain ⟨j,hj,rfl⟩:=List.getElem_of_mem hm;rw [List.getElem_take];rw [mY] at hj
 have:=h2 j (by omega)
 simpa using this
end
section
variable {P:Program}
theorem FC.close1{f base id ty n:Nat}{cs:List PV}{args args':List AV}{y:AV}{L:Upd}(h:FC P f args' [] base y L)(ha:fzL id n cs args=args'):FC P f args [(id,.row ty n cs)] base y ((id,.dead)::L):=fun M hb hf h8=>by
 have hoM:=hb _ (gY ..);subst ha;have fre:∀ j,fK M (base+j)=true→fK (aZ M id (some .dead)) (base+j)=true:=fun j hj=>by
  have hne:id≠base+j:=fun e=>by
   have:=cP hj;rw [← e] at this
   exact this _ (bE.1 hoM)
  unfold fK at hj ⊢
  rw [cX,if_neg hne];exact hj
 exact FM.close1 hoM (h _ (fun p hp=>by cases hp) (by have:=fre 0 (by simpa using hf);simpa using this) (fun j hj=>fre j (h8 j hj)))
end
section
variable {b103:Bool}{r6 y0 y1 y2 y3 y4 y5 num n102 y100 y101:Int}{T104:Lqb}{x:List Int}{base:Nat}
variable {dl:Int}{sk dc:Lqq}

noncomputable abbrev aUs:Code:=sub (cd Tryz.f58) [1,1,1,1,1,1,1,1,1,0,1,0,1,0,0]
noncomputable abbrev bLt:Code:=sub (cd Tryz.f58) [1,1,1,1,1,1,1,1,1,0,1,0]
noncomputable abbrev aUt:Code:=sub (cd Tryz.f58) [1,1,1,1,1,1,1,1,1,0,1,0,1]
theorem aEu:((0:Int) != (0:Int))=false:=by first | decide | simp
def kJ(dl:Int)(sk dc:Lqq)(r:Int)(x:List Int):Int × Bool:=cE dl x (aA dc) (((aA sk).getD (bK (fun x=>decide (r=x)) (aP (aA sk) 0)).toNat []).getD 0 0) (((aA sk).getD (bK (fun x=>decide (r=x)) (aP (aA sk) 0)).toNat []).getD 1 0)
def qQ(dl:Int)(sk:Lqq)(dc:Lqq)(num:Int)(r6:Int)  : St:=⟨fr 102 [(3,(.rp [(aB num)] 0)),(4,(.ptr 0 0)),(5,(.ptr 1 0)),(6,(.rp [(PV.rp (aX dl (aA sk) (aA dc)) 0)] 0)),(9,(.rp [(aB r6)] 0)),(10,(.rp [(aB (bK (fun x=>decide (r6=x)) (aP (aA sk) 0)))] 0)),(53,(.fn 182 [] [(.rp [(aF ((aN dl (aA dc)).filter fun n => !(n == num)))] 0)]))],[some (.box 4 [(pB false)]),some (.box 34 [(pI 0)])]⟩
def aEv(dl:Int)(sk:Lqq)(dc:Lqq)(num:Int)(r6:Int):St:=⟨fr 102 [(3,(.rp [(aB num)] 0)),(4,(.ptr 0 0)),(5,(.ptr 1 0)),(6,(.rp [(PV.rp (aX dl (aA sk) (aA dc)) 0)] 0)),(9,(.rp [(aB r6)] 0)),(10,(.rp [(aB (bK (fun x=>decide (r6=x)) (aP (aA sk) 0)))] 0)),(53,(.fn 182 [] [(.rp [(aF ((aN dl (aA dc)).filter fun n => !(n == num)))] 0)]))],[some (.box 4 [(pB false)]),some (.box 34 [(pI 0)])]⟩
def aUu(dl:Int)(sk:Lqq)(dc:Lqq)(num:Int)(r6:Int):St:=⟨fr 102 [(3,(.rp [(aB num)] 0)),(4,(.ptr 0 0)),(5,(.ptr 1 0)),(6,(.rp [(PV.rp (aX dl (aA sk) (aA dc)) 0)] 0)),(9,(.rp [(aB r6)] 0)),(10,(.rp [(aB (bK (fun x=>decide (r6=x)) (aP (aA sk) 0)))] 0)),(53,(.fn 182 [] [(.rp [(aF ((aN dl (aA dc)).filter fun n => !(n == num)))] 0)]))],[some (.box 4 [(.kb true)]),some (.box 34 [(pI 0)])]⟩
theorem bZv(h0:bG dl sk dc)(h1:bZ (aA dc))(h2:(aN dl (aA dc)).length≤1000)(h3:((aN dl (aA dc)).contains num)=false):FV Tp 58 [(.p (.agg (cR dl sk dc))),(pI num)] base (.tup [(pB false),(pI 1)]) []:=by
 have k1:=fk 4 (jF dl sk dc h0) rfl;have k2:=fk 3 (qE (dl:=dl) (sk:=(aA sk)) (dc:=(aA dc)) h1) rfl;exact FV.fi Tryz.func58 [k1.o,bF,.g 1 ⟨[],[0,2,3],[4,1],[]⟩,.x (PV.rp (aX dl (aA sk) (aA dc)) 0),k2.o,.x (aB num),.c (pB ((aN dl (aA dc)).contains num)) [],bT] (gc (bI h3) (gt (FC Tp 52 [(.own 3),(pI num)] [(3,(.row 3 ((aN dl (aA dc)).length) ((aN dl (aA dc)).map aB)))] 4 (pB ((aN dl (aA dc)).contains num)) []) (fv (oG (aN dl (aA dc)) num h2)) (gr (aB num) (gc k2 (gr (PV.rp (aX dl (aA sk) (aA dc)) 0) (gc aEu (gc k1 gn)))))))
theorem bZw(h0:bG dl sk dc)(h1:bZ (aA dc))(h2:(aN dl (aA dc)).length≤1000)(h3:((aN dl (aA dc)).contains num)=true)(h4:(8:Int)<(((aN dl (aA dc)).length:Nat):Int)):FV Tp 58 [(.p (.agg (cR dl sk dc))),(pI num)] base (.tup [(pB false),(pI 10)]) []:=by
 have k1:=fk 4 (jF dl sk dc h0) rfl;have k2:=fk 3 (qE (dl:=dl) (sk:=(aA sk)) (dc:=(aA dc)) h1) rfl;exact FV.fi Tryz.func58 [k1.o,bF,.g 1 ⟨[],[0,2,3],[4,1],[]⟩,.x (PV.rp (aX dl (aA sk) (aA dc)) 0),k2.o,.x (aB num),.c (pB ((aN dl (aA dc)).contains num)) [],bF,bT] (gc (aV h4) (gc (aI h3) (gt (FC Tp 52 [(.own 3),(pI num)] [(3,(.row 3 ((aN dl (aA dc)).length) ((aN dl (aA dc)).map aB)))] 4 (pB ((aN dl (aA dc)).contains num)) []) (fv (oG (aN dl (aA dc)) num h2)) (gr (aB num) (gc k2 (gr (PV.rp (aX dl (aA sk) (aA dc)) 0) (gc aEu (gc k1 gn))))))))
theorem bZx(h0:bG dl sk dc)(h1:bZ (aA dc))(h2:(aN dl (aA dc)).length≤1000)(h3:((aN dl (aA dc)).contains num)=true)(h4:(((aN dl (aA dc)).length:Nat):Int)≤8)(h5:cK .i64 (atF (aA dc).reverse) (.int .i64 num))(h6:(dS (atF (aA dc).reverse) (.int .i64 num))=true)(h7:fU (atF (aA dc).reverse) (.int .i64 num)=some (dcE y0 y1 y2 y3 y4 y5))(h8:bIm dl (aA sk) (aA dc) [y0,y1,y2,y3,y4,y5] r6)(h9:uni 2 (aA sk)∧(aA sk).length≤1000)(h10:(aP (aA sk) 0).length≤1000)(h11:(bK (fun x=>decide (r6=x)) (aP (aA sk) 0))<0):FV Tp 58 [(.p (.agg (cR dl sk dc))),(pI num)] base (.tup [(pB false),(pI 0)]) []:=by
 have k1:=fk 4 (jF dl sk dc h0) rfl;have k2:=fk 3 (qE (dl:=dl) (sk:=(aA sk)) (dc:=(aA dc)) h1) rfl;have k3:=fk 13 (oJ dl (aA sk) (aA dc) h9) rfl;exact FV.fi Tryz.func58 [k1.o,bF,.g 1 ⟨[],[0,2,3],[4,1],[]⟩,.x (PV.rp (aX dl (aA sk) (aA dc)) 0),k2.o,.x (aB num),.c (pB ((aN dl (aA dc)).contains num)) [],bF,bF,.x (PV.rp (aX dl (aA sk) (aA dc)) 0),.x (PV.rp (aX dl (aA sk) (aA dc)) 0),.x (.mp (atF (aA dc).reverse)),.x (aB num),bT,.x (dcE y0 y1 y2 y3 y4 y5),.c (pI r6) [],.x (PV.rp (aX dl (aA sk) (aA dc)) 0),.x (.agg (cR dl (aA sk) (aA dc))),k3.o,.c (pI (bK (fun x=>decide (r6=x)) (aP (aA sk) 0))) [],.g 2 ⟨[],[0,1,2,3,13],[12,29],[]⟩,.x (aB (bK (fun x=>decide (r6=x)) (aP (aA sk) 0))),bT] (gc (aV h11) (gr (aB (bK (fun x=>decide (r6=x)) (aP (aA sk) 0))) (gt (FC Tp 126 [(.own 13),(pI r6)] [(13,(.row 3 ((aP (aA sk) 0).length) ((aP (aA sk) 0).map aB)))] 21 (pI (bK (fun x=>decide (r6=x)) (aP (aA sk) 0))) []) (fv (aEd (aP (aA sk) 0) r6 h10)) (gc k3 (gr (.agg (cR dl (aA sk) (aA dc))) (gt (0+3≤(aX dl (aA sk) (aA dc)).length) (by first | decide | simp) (gr (PV.rp (aX dl (aA sk) (aA dc)) 0) (gc (fk 4 (h8 _) rfl) (gc h7 (gc h6 (gc h5 (gr (aB num) (gr (.mp (atF (aA dc).reverse)) (gr (PV.rp (aX dl (aA sk) (aA dc)) 0) (gr (PV.rp (aX dl (aA sk) (aA dc)) 0) (gc (bA h4) (gc (aI h3) (gt (FC Tp 52 [(.own 3),(pI num)] [(3,(.row 3 ((aN dl (aA dc)).length) ((aN dl (aA dc)).map aB)))] 4 (pB ((aN dl (aA dc)).contains num)) []) (fv (oG (aN dl (aA dc)) num h2)) (gr (aB num) (gc k2 (gr (PV.rp (aX dl (aA sk) (aA dc)) 0) (gc aEu (gc k1 gn)))))))))))))))))))))))
theorem bZy(h0:bG dl sk dc)(h1:bZ (aA dc))(h2:(aN dl (aA dc)).length≤1000)(h3:((aN dl (aA dc)).contains num)=true)(h4:(((aN dl (aA dc)).length:Nat):Int)≤8)(h5:cK .i64 (atF (aA dc).reverse) (.int .i64 num))(h6:(dS (atF (aA dc).reverse) (.int .i64 num))=true)(h7:fU (atF (aA dc).reverse) (.int .i64 num)=some (dcE y0 y1 y2 y3 y4 y5))(h8:bIm dl (aA sk) (aA dc) [y0,y1,y2,y3,y4,y5] r6)(h9:uni 2 (aA sk)∧(aA sk).length≤1000)(h10:(aP (aA sk) 0).length≤1000)(h11:(0:Int)≤(bK (fun x=>decide (r6=x)) (aP (aA sk) 0)))(hl12:aC Tp 0 bLt (aEv dl sk dc num r6) .normal (qQ dl sk dc num r6 )):FV Tp 58 [(.p (.agg (cR dl sk dc))),(pI num)] base (.tup [(pB false),(pI 0)]) []:=by
 have k1:=fk 4 (jF dl sk dc h0) rfl;have k2:=fk 3 (qE (dl:=dl) (sk:=(aA sk)) (dc:=(aA dc)) h1) rfl;have k3:=fk 13 (oJ dl (aA sk) (aA dc) h9) rfl;have k4:=fk 5 (aRr (q:=((aN dl (aA dc)).filter fun n => !(n == num)))) rfl;exact FV.fi Tryz.func58 [k1.o,bF,.g 1 ⟨[],[0,2,3],[4,1],[]⟩,.x (PV.rp (aX dl (aA sk) (aA dc)) 0),k2.o,.x (aB num),.c (pB ((aN dl (aA dc)).contains num)) [],bF,bF,.x (PV.rp (aX dl (aA sk) (aA dc)) 0),.x (PV.rp (aX dl (aA sk) (aA dc)) 0),.x (.mp (atF (aA dc).reverse)),.x (aB num),bT,.x (dcE y0 y1 y2 y3 y4 y5),.c (pI r6) [],.x (PV.rp (aX dl (aA sk) (aA dc)) 0),.x (.agg (cR dl (aA sk) (aA dc))),k3.o,.c (pI (bK (fun x=>decide (r6=x)) (aP (aA sk) 0))) [],.g 2 ⟨[],[0,1,2,3,13],[12,29],[]⟩,.x (aB (bK (fun x=>decide (r6=x)) (aP (aA sk) 0))),bF,.c (.p (aF ((aN dl (aA dc)).filter fun n => !(n == num)))) [(3,.dead)],k4.o,hl12.k 1 ⟨(rng [(0,3),(7,2),(11,42),(54,48)]),[1,2],[],[]⟩] (gc hl12 (gc k4 (gt (FC Tp 54 [(.own 3),(.fn 133 [] [(.rp [(aB num)] 0)])] [(3,(.row 3 ((aN dl (aA dc)).length) ((aN dl (aA dc)).map aB)))] 5 (.p (aF ((aN dl (aA dc)).filter fun n => !(n == num)))) [(3,.dead)]) (FMM.fc (ids:=[3]) (bIk (l:=(aN dl (aA dc))) (m:=num) h2 (fun _ _=>rfl)) (by kernel_rfl)) (gc (bA h11) (gr (aB (bK (fun x=>decide (r6=x)) (aP (aA sk) 0))) (gt (FC Tp 126 [(.own 13),(pI r6)] [(13,(.row 3 ((aP (aA sk) 0).length) ((aP (aA sk) 0).map aB)))] 21 (pI (bK (fun x=>decide (r6=x)) (aP (aA sk) 0))) []) (fv (aEd (aP (aA sk) 0) r6 h10)) (gc k3 (gr (.agg (cR dl (aA sk) (aA dc))) (gt (0+3≤(aX dl (aA sk) (aA dc)).length) (by first | decide | simp) (gr (PV.rp (aX dl (aA sk) (aA dc)) 0) (gc (fk 4 (h8 _) rfl) (gc h7 (gc h6 (gc h5 (gr (aB num) (gr (.mp (atF (aA dc).reverse)) (gr (PV.rp (aX dl (aA sk) (aA dc)) 0) (gr (PV.rp (aX dl (aA sk) (aA dc)) 0) (gc (bA h4) (gc (aI h3) (gt (FC Tp 52 [(.own 3),(pI num)] [(3,(.row 3 ((aN dl (aA dc)).length) ((aN dl (aA dc)).map aB)))] 4 (pB ((aN dl (aA dc)).contains num)) []) (fv (oG (aN dl (aA dc)) num h2)) (gr (aB num) (gc k2 (gr (PV.rp (aX dl (aA sk) (aA dc)) 0) (gc aEu (gc k1 gn))))))))))))))))))))))))))
theorem bZz(h0:bG dl sk dc)(h1:bZ (aA dc))(h2:(aN dl (aA dc)).length≤1000)(h3:((aN dl (aA dc)).contains num)=true)(h4:(((aN dl (aA dc)).length:Nat):Int)≤8)(h5:cK .i64 (atF (aA dc).reverse) (.int .i64 num))(h6:(dS (atF (aA dc).reverse) (.int .i64 num))=true)(h7:fU (atF (aA dc).reverse) (.int .i64 num)=some (dcE y0 y1 y2 y3 y4 y5))(h8:bIm dl (aA sk) (aA dc) [y0,y1,y2,y3,y4,y5] r6)(h9:uni 2 (aA sk)∧(aA sk).length≤1000)(h10:(aP (aA sk) 0).length≤1000)(h11:(0:Int)≤(bK (fun x=>decide (r6=x)) (aP (aA sk) 0)))(hl12:aC Tp 0 bLt (aEv dl sk dc num r6) .ret (aUu dl sk dc num r6)):FV Tp 58 [(.p (.agg (cR dl sk dc))),(pI num)] base (.tup [(pB true),(pI 0)]) []:=by
 have k1:=fk 4 (jF dl sk dc h0) rfl;have k2:=fk 3 (qE (dl:=dl) (sk:=(aA sk)) (dc:=(aA dc)) h1) rfl;have k3:=fk 13 (oJ dl (aA sk) (aA dc) h9) rfl;have k4:=fk 5 (aRr (q:=((aN dl (aA dc)).filter fun n => !(n == num)))) rfl;exact FV.fi Tryz.func58 [k1.o,bF,.g 1 ⟨[],[0,2,3],[4,1],[]⟩,.x (PV.rp (aX dl (aA sk) (aA dc)) 0),k2.o,.x (aB num),.c (pB ((aN dl (aA dc)).contains num)) [],bF,bF,.x (PV.rp (aX dl (aA sk) (aA dc)) 0),.x (PV.rp (aX dl (aA sk) (aA dc)) 0),.x (.mp (atF (aA dc).reverse)),.x (aB num),bT,.x (dcE y0 y1 y2 y3 y4 y5),.c (pI r6) [],.x (PV.rp (aX dl (aA sk) (aA dc)) 0),.x (.agg (cR dl (aA sk) (aA dc))),k3.o,.c (pI (bK (fun x=>decide (r6=x)) (aP (aA sk) 0))) [],.g 2 ⟨[],[0,1,2,3,13],[12,29],[]⟩,.x (aB (bK (fun x=>decide (r6=x)) (aP (aA sk) 0))),bF,.c (.p (aF ((aN dl (aA dc)).filter fun n => !(n == num)))) [(3,.dead)],k4.o,hl12.k 1 ⟨(rng [(0,3),(7,2),(11,42),(54,48)]),[1,2],[],[]⟩] (gc hl12 (gc k4 (gt (FC Tp 54 [(.own 3),(.fn 133 [] [(.rp [(aB num)] 0)])] [(3,(.row 3 ((aN dl (aA dc)).length) ((aN dl (aA dc)).map aB)))] 5 (.p (aF ((aN dl (aA dc)).filter fun n => !(n == num)))) [(3,.dead)]) (FMM.fc (ids:=[3]) (bIk (l:=(aN dl (aA dc))) (m:=num) h2 (fun _ _=>rfl)) (by kernel_rfl)) (gc (bA h11) (gr (aB (bK (fun x=>decide (r6=x)) (aP (aA sk) 0))) (gt (FC Tp 126 [(.own 13),(pI r6)] [(13,(.row 3 ((aP (aA sk) 0).length) ((aP (aA sk) 0).map aB)))] 21 (pI (bK (fun x=>decide (r6=x)) (aP (aA sk) 0))) []) (fv (aEd (aP (aA sk) 0) r6 h10)) (gc k3 (gr (.agg (cR dl (aA sk) (aA dc))) (gt (0+3≤(aX dl (aA sk) (aA dc)).length) (by first | decide | simp) (gr (PV.rp (aX dl (aA sk) (aA dc)) 0) (gc (fk 4 (h8 _) rfl) (gc h7 (gc h6 (gc h5 (gr (aB num) (gr (.mp (atF (aA dc).reverse)) (gr (PV.rp (aX dl (aA sk) (aA dc)) 0) (gr (PV.rp (aX dl (aA sk) (aA dc)) 0) (gc (bA h4) (gc (aI h3) (gt (FC Tp 52 [(.own 3),(pI num)] [(3,(.row 3 ((aN dl (aA dc)).length) ((aN dl (aA dc)).map aB)))] 4 (pB ((aN dl (aA dc)).contains num)) []) (fv (oG (aN dl (aA dc)) num h2)) (gr (aB num) (gc k2 (gr (PV.rp (aX dl (aA sk) (aA dc)) 0) (gc aEu (gc k1 gn))))))))))))))))))))))))))
def sO(dl:Int)(sk:Lqq)(dc:Lqq)(num:Int)(r6:Int)(x:List Int)  : St:=⟨fr 102 [(3,(.rp [(aB num)] 0)),(4,(.ptr 0 0)),(5,(.ptr 1 0)),(6,(.rp [(PV.rp (aX dl (aA sk) (aA dc)) 0)] 0)),(9,(.rp [(aB r6)] 0)),(10,(.rp [(aB (bK (fun x=>decide (r6=x)) (aP (aA sk) 0)))] 0)),(11,(.own 2)),(53,(.fn 182 [] [(.rp [(aF ((aN dl (aA dc)).filter fun n => !(n == num)))] 0)])),(54,(.own 2))],[some (.box 4 [(pB false)]),some (.box 34 [(pI 0)]),some (.row 3 x.length (x.map aB))]⟩
def aLc(dl:Int)(sk:Lqq)(dc:Lqq)(num:Int)(r6:Int)  : St:=⟨fr 102 [],[some (.box 4 [(.kb true)]),some (.box 34 [(pI 0)]),some .dead]⟩
theorem bFs(hl0:aC Tp 3 aUs (sO dl sk dc num r6 x ) .normal (dI (sO dl sk dc num r6 x ) [(12,(pI ((kJ dl sk dc r6 x).1))),(13,(pB ((kJ dl sk dc r6 x).2)))]))(h1:(aA sk)[(bK (fun x=>decide (r6=x)) (aP (aA sk) 0)).toNat]? = some [y100,y101])(h2:0≤(bK (fun x=>decide (r6=x)) (aP (aA sk) 0)))(h3:uni 2 (aA sk))(h4:[(aB num)].length=1*1∧x.length+1≤1000000)(h5:aFr dl (aA sk) (aA dc) (.sl (x.length+1) ((x.map aB)++[(aB num)])) [y100,y101] n102 b103 ([]:Lqb) T104)(h6:eF [(aB r6),(aB 0),(aB ((kJ dl sk dc r6 x).1))] [(0,3,true),(1,3,true),(2,3,true)]=true∧eF [(aB r6),(aB 0),(aB n102)] [(0,3,true),(1,3,true),(2,3,true)]=true)(h7:(nX [(aB r6),(aB 0),(aB ((kJ dl sk dc r6 x).1))] [(aB r6),(aB 0),(aB n102)] [(0,3,true),(1,3,true),(2,3,true)])=false):aC Tp 3 aUt (rfO (qQ dl sk dc num r6 ) 54 11 x) .ret (aLc dl sk dc num r6 ):=by
 have k1:=mq [5,6,7,8,9,10,11] 13 h5;exact aC.fi ⟨(rng [(0,102)]),[],[],[]⟩ [hl0.k 2 ⟨(rng [(0,3),(7,2),(12,2),(16,37),(55,16)]),[],[],[]⟩,.x (PV.rp (aX dl (aA sk) (aA dc)) 0),.x (PV.rp (aX dl (aA sk) (aA dc)) 0),.x (.sl ((aA sk).length) ((aA sk).flatten.map aB)),.x (aB (bK (fun x=>decide (r6=x)) (aP (aA sk) 0))),.x (.agg [(aB y100),(aB y101)]),.x (PV.rp (aX dl (aA sk) (aA dc)) 0),.x (aB num),.c (.agg (kVL 9 10 5 7 11 6)) [(4,.dead),(5,(vB0 dl (aA sk) (aA dc))),(6,(.box 33 [(.p (.sl (x.length+1) ((x.map aB)++[(aB num)])))])),(7,(.box 139 (kVL 9 10 5 7 11 6))),(8,(.mp (aL ([]:Lqb)) 0)),(9,(.box 207 [(.mp 8)])),(10,(vB5 dl (aA sk) (aA dc))),(11,(.box 209 [(.fn 153 [] [(.ptr 5 0),(.ptr 7 0)])]))],k1.o,.x (aB r6),.x (aB r6),bT,bT,bT,bT] (g4c (bI h7) (gc h6 (gr (aB r6) (gr (aB r6) (gc k1 (gt (FC Tp 87 [(.rp (aX dl (aA sk) (aA dc)) 0),(.own 4)] [(4,(.row 3 (x.length+1) ((x.map aB)++[(aB num)])))] 5 (.agg (kVL 9 10 5 7 11 6)) [(4,.dead),(5,(vB0 dl (aA sk) (aA dc))),(6,(.box 33 [(.p (.sl (x.length+1) ((x.map aB)++[(aB num)])))])),(7,(.box 139 (kVL 9 10 5 7 11 6))),(8,(.mp (aL ([]:Lqb)) 0)),(9,(.box 207 [(.mp 8)])),(10,(vB5 dl (aA sk) (aA dc))),(11,(.box 209 [(.fn 153 [] [(.ptr 5 0),(.ptr 7 0)])]))]) (FC.close1 (args':=[(.rp (aX dl (aA sk) (aA dc)) 0),(.p (.sl (x.length+1) ((x.map aB)++[(aB num)])))]) (FMM.fcN (k:=7) rfl (ids:=[]) (qH (dl:=dl) (sk:=(aA sk)) (dc:=(aA dc)) (on:=(x.length+1)) (ol:=((x.map aB)++[(aB num)]))) (by kernel_rfl)) (by kernel_rfl)) (gc h4 (gr (aB num) (gr (PV.rp (aX dl (aA sk) (aA dc)) 0) (gc (aT (i:=(bK (fun x=>decide (r6=x)) (aP (aA sk) 0)).toNat) h3 h1) (gc (bH (i:=(bK (fun x=>decide (r6=x)) (aP (aA sk) 0)).toNat) h3 h1) (gc (bR (k:=2) (i:=(bK (fun x=>decide (r6=x)) (aP (aA sk) 0))) (by decide) h3 h2 h1) (gr (aB (bK (fun x=>decide (r6=x)) (aP (aA sk) 0))) (gr (.sl ((aA sk).length) ((aA sk).flatten.map aB)) (gr (PV.rp (aX dl (aA sk) (aA dc)) 0) (gr (PV.rp (aX dl (aA sk) (aA dc)) 0) (gc hl0 gn)))))))))))))))))
theorem bFt(hl0:aC Tp 3 aUs (sO dl sk dc num r6 x ) .normal (dI (sO dl sk dc num r6 x ) [(12,(pI ((kJ dl sk dc r6 x).1))),(13,(pB ((kJ dl sk dc r6 x).2)))]))(h1:(aA sk)[(bK (fun x=>decide (r6=x)) (aP (aA sk) 0)).toNat]? = some [y100,y101])(h2:0≤(bK (fun x=>decide (r6=x)) (aP (aA sk) 0)))(h3:uni 2 (aA sk))(h4:[(aB num)].length=1*1∧x.length+1≤1000000)(h5:aFr dl (aA sk) (aA dc) (.sl (x.length+1) ((x.map aB)++[(aB num)])) [y100,y101] n102 b103 ([]:Lqb) T104)(h6:eF [(aB r6),(aB 0),(aB ((kJ dl sk dc r6 x).1))] [(0,3,true),(1,3,true),(2,3,true)]=true∧eF [(aB r6),(aB 0),(aB n102)] [(0,3,true),(1,3,true),(2,3,true)]=true)(h7:(nX [(aB r6),(aB 0),(aB ((kJ dl sk dc r6 x).1))] [(aB r6),(aB 0),(aB n102)] [(0,3,true),(1,3,true),(2,3,true)])=true)(h8:(((kJ dl sk dc r6 x).2) == b103)=false):aC Tp 3 aUt (rfO (qQ dl sk dc num r6 ) 54 11 x) .ret (aLc dl sk dc num r6 ):=by
 have k1:=mq [5,6,7,8,9,10,11] 13 h5;exact aC.fi ⟨(rng [(0,102)]),[],[],[]⟩ [hl0.k 2 ⟨(rng [(0,3),(7,2),(12,2),(16,37),(55,16)]),[],[],[]⟩,.x (PV.rp (aX dl (aA sk) (aA dc)) 0),.x (PV.rp (aX dl (aA sk) (aA dc)) 0),.x (.sl ((aA sk).length) ((aA sk).flatten.map aB)),.x (aB (bK (fun x=>decide (r6=x)) (aP (aA sk) 0))),.x (.agg [(aB y100),(aB y101)]),.x (PV.rp (aX dl (aA sk) (aA dc)) 0),.x (aB num),.c (.agg (kVL 9 10 5 7 11 6)) [(4,.dead),(5,(vB0 dl (aA sk) (aA dc))),(6,(.box 33 [(.p (.sl (x.length+1) ((x.map aB)++[(aB num)])))])),(7,(.box 139 (kVL 9 10 5 7 11 6))),(8,(.mp (aL ([]:Lqb)) 0)),(9,(.box 207 [(.mp 8)])),(10,(vB5 dl (aA sk) (aA dc))),(11,(.box 209 [(.fn 153 [] [(.ptr 5 0),(.ptr 7 0)])]))],k1.o,.x (aB r6),.x (aB r6),bF,bF,bF,bF,bT] (gc (bI h8) (g4c (aI h7) (gc h6 (gr (aB r6) (gr (aB r6) (gc k1 (gt (FC Tp 87 [(.rp (aX dl (aA sk) (aA dc)) 0),(.own 4)] [(4,(.row 3 (x.length+1) ((x.map aB)++[(aB num)])))] 5 (.agg (kVL 9 10 5 7 11 6)) [(4,.dead),(5,(vB0 dl (aA sk) (aA dc))),(6,(.box 33 [(.p (.sl (x.length+1) ((x.map aB)++[(aB num)])))])),(7,(.box 139 (kVL 9 10 5 7 11 6))),(8,(.mp (aL ([]:Lqb)) 0)),(9,(.box 207 [(.mp 8)])),(10,(vB5 dl (aA sk) (aA dc))),(11,(.box 209 [(.fn 153 [] [(.ptr 5 0),(.ptr 7 0)])]))]) (FC.close1 (args':=[(.rp (aX dl (aA sk) (aA dc)) 0),(.p (.sl (x.length+1) ((x.map aB)++[(aB num)])))]) (FMM.fcN (k:=7) rfl (ids:=[]) (qH (dl:=dl) (sk:=(aA sk)) (dc:=(aA dc)) (on:=(x.length+1)) (ol:=((x.map aB)++[(aB num)]))) (by kernel_rfl)) (by kernel_rfl)) (gc h4 (gr (aB num) (gr (PV.rp (aX dl (aA sk) (aA dc)) 0) (gc (aT (i:=(bK (fun x=>decide (r6=x)) (aP (aA sk) 0)).toNat) h3 h1) (gc (bH (i:=(bK (fun x=>decide (r6=x)) (aP (aA sk) 0)).toNat) h3 h1) (gc (bR (k:=2) (i:=(bK (fun x=>decide (r6=x)) (aP (aA sk) 0))) (by decide) h3 h2 h1) (gr (aB (bK (fun x=>decide (r6=x)) (aP (aA sk) 0))) (gr (.sl ((aA sk).length) ((aA sk).flatten.map aB)) (gr (PV.rp (aX dl (aA sk) (aA dc)) 0) (gr (PV.rp (aX dl (aA sk) (aA dc)) 0) (gc hl0 gn))))))))))))))))))
def aUv(dl:Int)(sk:Lqq)(dc:Lqq)(num:Int)(r6:Int)  : St:=⟨fr 102 [(3,(.rp [(aB num)] 0)),(4,(.ptr 0 0)),(5,(.ptr 1 0)),(6,(.rp [(PV.rp (aX dl (aA sk) (aA dc)) 0)] 0)),(9,(.rp [(aB r6)] 0)),(10,(.rp [(aB (bK (fun x=>decide (r6=x)) (aP (aA sk) 0)))] 0)),(53,(.fn 182 [] [(.rp [(aF ((aN dl (aA dc)).filter fun n => !(n == num)))] 0)]))],[some (.box 4 [(pB false)]),some (.box 34 [(pI 0)]),some .dead]⟩
theorem bFu(hl0:aC Tp 3 aUs (sO dl sk dc num r6 x ) .normal (dI (sO dl sk dc num r6 x ) [(12,(pI ((kJ dl sk dc r6 x).1))),(13,(pB ((kJ dl sk dc r6 x).2)))]))(h1:(aA sk)[(bK (fun x=>decide (r6=x)) (aP (aA sk) 0)).toNat]? = some [y100,y101])(h2:0≤(bK (fun x=>decide (r6=x)) (aP (aA sk) 0)))(h3:uni 2 (aA sk))(h4:[(aB num)].length=1*1∧x.length+1≤1000000)(h5:aFr dl (aA sk) (aA dc) (.sl (x.length+1) ((x.map aB)++[(aB num)])) [y100,y101] n102 b103 ([]:Lqb) T104)(h6:eF [(aB r6),(aB 0),(aB ((kJ dl sk dc r6 x).1))] [(0,3,true),(1,3,true),(2,3,true)]=true∧eF [(aB r6),(aB 0),(aB n102)] [(0,3,true),(1,3,true),(2,3,true)]=true)(h7:(nX [(aB r6),(aB 0),(aB ((kJ dl sk dc r6 x).1))] [(aB r6),(aB 0),(aB n102)] [(0,3,true),(1,3,true),(2,3,true)])=true)(h8:(((kJ dl sk dc r6 x).2) == b103)=true):aC Tp 3 aUt (rfO (qQ dl sk dc num r6 ) 54 11 x) .normal (aUv dl sk dc num r6 ):=by
 have k1:=mq [5,6,7,8,9,10,11] 13 h5;exact aC.fi ⟨(rng [(0,3),(7,2),(11,42),(54,48)]),[],[],[]⟩ [hl0.k 2 ⟨(rng [(0,3),(7,2),(12,2),(16,37),(55,16)]),[],[],[]⟩,.x (PV.rp (aX dl (aA sk) (aA dc)) 0),.x (PV.rp (aX dl (aA sk) (aA dc)) 0),.x (.sl ((aA sk).length) ((aA sk).flatten.map aB)),.x (aB (bK (fun x=>decide (r6=x)) (aP (aA sk) 0))),.x (.agg [(aB y100),(aB y101)]),.x (PV.rp (aX dl (aA sk) (aA dc)) 0),.x (aB num),.c (.agg (kVL 9 10 5 7 11 6)) [(4,.dead),(5,(vB0 dl (aA sk) (aA dc))),(6,(.box 33 [(.p (.sl (x.length+1) ((x.map aB)++[(aB num)])))])),(7,(.box 139 (kVL 9 10 5 7 11 6))),(8,(.mp (aL ([]:Lqb)) 0)),(9,(.box 207 [(.mp 8)])),(10,(vB5 dl (aA sk) (aA dc))),(11,(.box 209 [(.fn 153 [] [(.ptr 5 0),(.ptr 7 0)])]))],k1.o,.x (aB r6),.x (aB r6),bF,bF,bF,bF,bF] (gc (aI h8) (g4c (aI h7) (gc h6 (gr (aB r6) (gr (aB r6) (gc k1 (gt (FC Tp 87 [(.rp (aX dl (aA sk) (aA dc)) 0),(.own 4)] [(4,(.row 3 (x.length+1) ((x.map aB)++[(aB num)])))] 5 (.agg (kVL 9 10 5 7 11 6)) [(4,.dead),(5,(vB0 dl (aA sk) (aA dc))),(6,(.box 33 [(.p (.sl (x.length+1) ((x.map aB)++[(aB num)])))])),(7,(.box 139 (kVL 9 10 5 7 11 6))),(8,(.mp (aL ([]:Lqb)) 0)),(9,(.box 207 [(.mp 8)])),(10,(vB5 dl (aA sk) (aA dc))),(11,(.box 209 [(.fn 153 [] [(.ptr 5 0),(.ptr 7 0)])]))]) (FC.close1 (args':=[(.rp (aX dl (aA sk) (aA dc)) 0),(.p (.sl (x.length+1) ((x.map aB)++[(aB num)])))]) (FMM.fcN (k:=7) rfl (ids:=[]) (qH (dl:=dl) (sk:=(aA sk)) (dc:=(aA dc)) (on:=(x.length+1)) (ol:=((x.map aB)++[(aB num)]))) (by kernel_rfl)) (by kernel_rfl)) (gc h4 (gr (aB num) (gr (PV.rp (aX dl (aA sk) (aA dc)) 0) (gc (aT (i:=(bK (fun x=>decide (r6=x)) (aP (aA sk) 0)).toNat) h3 h1) (gc (bH (i:=(bK (fun x=>decide (r6=x)) (aP (aA sk) 0)).toNat) h3 h1) (gc (bR (k:=2) (i:=(bK (fun x=>decide (r6=x)) (aP (aA sk) 0))) (by decide) h3 h2 h1) (gr (aB (bK (fun x=>decide (r6=x)) (aP (aA sk) 0))) (gr (.sl ((aA sk).length) ((aA sk).flatten.map aB)) (gr (PV.rp (aX dl (aA sk) (aA dc)) 0) (gr (PV.rp (aX dl (aA sk) (aA dc)) 0) (gc hl0 gn))))))))))))))))))
end
section
variable {F:Fence} {n:Nat} {P:Program}
theorem aUr{o:Oper}{a:Act}{next next':Act→World→Prop}{Q Q':Exit→Act→World→Prop}{r:Result Next}(h:o.uponIn F n P a next Q r)
  (hn:∀ v d w',next (({ a with defers:=d }:Act).put o.dst v) w'→next' (({ a with defers:=d }:Act).put o.dst v) w') (hQ:∀ e a' w',e ≠ .normal→Q e a' w'→Q' e a' w') (hL:LetsOut Q→LetsOut Q'):o.uponIn F n P a next' Q' r:=by
 have hn':∀ v w',next (a.put o.dst v) w'→next' (a.put o.dst v) w':=fun v w'=>hn v a.defers w'
 cases r with
 | halt x w' =>
  cases x <;> first | exact hQ _ _ _ (by simp) h | exact h
 | ok nx w' =>
  cases nx with
  | value v=>exact hn' _ _ h
  | skip=>exact hn' _ _ h
  | defer d=>exact hn _ _ _ h
  | enter f us =>
   refine ⟨h.1,h.2.mono ?_⟩;intro e w'' he;cases e with
   | returned v=>exact hn' _ _ he
   | panicked c=>exact hQ _ _ _ (by simp) he
   | outgrown=>exact hL he
  | row r us=>exact ⟨h.1,h.2.mono fun v w'' he=>hn' _ _ he⟩
  | round l f tmps as1 bd =>
   refine ⟨h.1,h.2.mono ?_⟩;intro e w'' he;cases e with
   | returned v=>exact hn' _ _ he
   | panicked c=>exact hQ _ _ _ (by simp) he
   | outgrown=>exact hL he
  | _=>exact h
def Kps(ops:Array Oper)(a0 a:Act):Prop:=∀ i,(∀ o∈ops.toList,o.dst≠some i)→a.tmps.getD i undef=a0.tmps.getD i undef
theorem bFr{ops:Array Oper}{Q Q':Exit→Act→World→Prop}{i:Nat}{K K':Act→World→Prop}{a0 a:Act}{w:World}(h:wpOpIn F n P ops Q i K a w)(ha:Kps ops a0 a)(hK:∀ a' w',Kps ops a0 a'→K a' w'→K' a' w')
  (hQ:∀ e a' w',e ≠ .normal→Q e a' w'→Q' e a' w') (hL:LetsOut Q→LetsOut Q'):wpOpIn F n P ops Q' i K' a w:=by
 unfold wpOpIn at h ⊢
 split
 ·rename_i hi
  simp only [hi] at h
  exact hK _ _ ha h
 ·rename_i o hi
  simp only [hi] at h
  have hm:o∈ops.toList:=by
   obtain ⟨hl,he⟩:=mM.1 hi;rw [← he];exact Array.mem_toList_iff.2 (Array.getElem_mem hl)
  have hput:∀ v (d:List Deferred),Kps ops a0 (({ a with defers:=d }:Act).put o.dst v):=fun v d i hd=>by
   rw [pE (a:={ a with defers:=d }) (hd o hm)]
   exact ha i hd
  split at h
  ·rename_i hw
   rw [if_pos hw];exact ⟨h.1,aUr h.2 (fun v d w' hn=>hK _ _ (hput v d) hn) hQ hL⟩
  ·rename_i hw
   rw [if_neg hw];exact ⟨h.1,hK _ _ (hput undef a.defers) h.2⟩
theorem aEt{md:Region.Mode}{ops:Array Oper}{Q:Exit→Act→World→Prop}{a0:Act}:∀ (fuel:Nat) (listed:Array Bool) (a:Act) (w:World),wpAnyIn F n P md ops Q fuel listed a w→Kps ops a0 a →
  wpAnyIn F n P md ops (fun e a' w'=>Q e a' w'∧(e = .normal→Kps ops a0 a')) fuel listed a w
 | 0,listed,a,w,h,ha=>⟨h.1,h.2,fun _=>ha⟩
 | fuel+1,listed,a,w,h,ha=>by
  refine ⟨fun h0=>⟨h.1 h0,fun _=>ha⟩,fun j hj => ?_⟩
  exact bFr (h.2 j hj) ha (fun a' w' hk h'=>aEt fuel _ a' w' h' hk) (fun e a' w' hne hq=>⟨hq,fun he=>absurd he hne⟩) (fun ⟨a',w',hq⟩=>⟨a',w',hq,fun he=>by cases he⟩)
end
section
section
variable {F:Fence} {n:Nat} {P:Program}
def bkD(ds:List Deferred)(a:Act):Act:={ a with defers:=a.defers++ds }
theorem aLb(ds:List Deferred)(a:Act)(d:Option Nat)(v:Value):(bkD ds a).put d v=bkD ds (a.put d v):=by cases d <;> rfl
theorem aEs(ds:List Deferred)(a:Act):(bkD ds a).eval=a.eval:=by funext x;cases x <;> rfl
theorem bFp(ds:List Deferred){o:Oper}{a:Act}{next next':Act→World→Prop}{Q Q':Exit→Act→World→Prop}{r:Result Next}(h:o.uponIn F n P a next Q r)
  (hn:∀ a' w',next a' w'→next' (bkD ds a') w') (hQ:∀ e a' w',Q e a' w'→Q' e (bkD ds a') w') (hL:LetsOut Q→LetsOut Q'):o.uponIn F n P (bkD ds a) next' Q' r:=by
 have hv:∀ v w',next (a.put o.dst v) w'→next' ((bkD ds a).put o.dst v) w':=fun v w' h=>by rw [aLb];exact hn _ _ h
 cases r with
 | halt x w' =>
  cases x <;> first | exact hQ _ _ _ h | exact h
 | ok nx w' =>
  cases nx with
  | value v=>exact hv _ _ h
  | skip=>exact hv _ _ h
  | defer d =>
   have:=hn _ _ h;rw [← aLb] at this
   exact this
  | enter f us =>
   refine ⟨h.1,h.2.mono ?_⟩;intro e w'' he;cases e with
   | returned v=>exact hv _ _ he
   | panicked c=>exact hQ _ _ _ he
   | outgrown=>exact hL he
  | row r us=>exact ⟨h.1,h.2.mono fun v w'' he=>hv _ _ he⟩
  | round l f tmps as1 bd =>
   refine ⟨h.1,h.2.mono ?_⟩;intro e w'' he;cases e with
   | returned v=>exact hv _ _ he
   | panicked c=>exact hQ _ _ _ he
   | outgrown=>exact hL he
  | _=>exact h
theorem bSb(ds:List Deferred){ops:Array Oper}{Q Q':Exit→Act→World→Prop}{i:Nat}{K K':Act→World→Prop}{a:Act}{w:World}(h:wpOpIn F n P ops Q i K a w)(hK:∀ a' w',K a' w'→K' (bkD ds a') w')
  (hQ:∀ e a' w',Q e a' w'→Q' e (bkD ds a') w') (hL:LetsOut Q→LetsOut Q'):wpOpIn F n P ops Q' i K' (bkD ds a) w:=by
 unfold wpOpIn at h ⊢
 split
 ·rename_i hi
  simp only [hi] at h
  exact hK _ _ h
 ·rename_i o hi
  simp only [hi] at h
  have e1:(bkD ds a).tmps=a.tmps:=rfl;rw [e1]
  split at h
  ·rename_i hw
   rw [if_pos hw];refine ⟨by rw [aEs];exact h.1,?_⟩
   rw [aEs];exact bFp ds h.2 hK hQ hL
  ·rename_i hw
   rw [if_neg hw];exact ⟨by rw [aEs];exact h.1,by rw [aLb];exact hK _ _ h.2⟩
theorem aOx(ds:List Deferred){md:Region.Mode}{ops:Array Oper}{Q Q':Exit→Act→World→Prop}(hQ:∀ e a' w',Q e a' w'→Q' e (bkD ds a') w')(hL:LetsOut Q→LetsOut Q'):∀ (fuel:Nat) (listed:Array Bool) (a:Act) (w:World),wpAnyIn F n P md ops Q fuel listed a w→wpAnyIn F n P md ops Q' fuel listed (bkD ds a) w
 | 0,listed,a,w,h=>⟨h.1,hQ _ _ _ h.2⟩
 | fuel+1,listed,a,w,h=>⟨fun h0=>hQ _ _ _ (h.1 h0),fun j hj=>bSb ds (h.2 j hj) (fun a' w' h'=>aOx ds hQ hL fuel _ a' w' h') hQ hL⟩
end
variable {P:Program} {T:TT} {E:Env}
theorem bFq(ds:List Deferred)(hT:∀ t i,T t=some i→cJ P t=some i)(hE:mE P E)(hm:P.follows .mixedOrders=true){id:Nat}{ops:Array Oper}{st st':St}{s s':AS}(h:aLt P T E ops true st s=some (st',s'))(g:bB s')
  (C0:Cx) (M0:Mem) (w0:World) (a:Act) (w:World) (hs:Sim P C0 M0 w0 st a w) (ro:Option Nat) (n:Nat):(Code.region id ops true).wpIn (Fen ro) n P (fun e' a' w'=>e'=Ex.normal.toExit∧∃ a2,a'=bkD ds a2∧Sim P C0 M0 w0 st' a2 w'∧Kps ops a a2) (bkD ds a) w:=by
 obtain ⟨_,s1,h1,k1⟩:=aD h;obtain ⟨e1,rfl⟩:=aG h1;obtain ⟨r,s2,h2,k2⟩:=aD k1;obtain ⟨_,s3,h3,k3⟩:=aD k2;obtain ⟨e3,rfl⟩:=aG h3;obtain ⟨rfl,rfl⟩:=aJ k3;obtain ⟨hB,_⟩:=bP e1;obtain ⟨hA,_⟩:=bP e3;obtain ⟨os,hfts,hlex⟩:=rE ops.toList _ (fts:=r.1) (fin:=r.2) h2 g
 replace hB:=xK hB
 unfold Region.lexB at hB
 rw [kQ7] at hB
 have hlen:os.length=ops.toList.length:=by
  have:∀ {l:List Oper} {id:Nat} {st:St} {os:List vT} {fin:St},aLu P T E ops.toList id l st os fin→os.length=l.length:=by
   intro l
   induction l with
   | nil=>intro id st os fin h;cases h;rfl
   | cons o l ih=>intro id st os fin h;cases h with | cons _ _ _ _ q os _ h hr=>simp [ih hr]
  exact this hlex
 have key:oX P T E ops.toList st.m.length (fun k=>os.getD k (.any,[],none)) r.2 ops.toList.length (Array.replicate ops.size false) st:=by
  refine oX.lex ops.toList 0 _ st os (fun j=>by simp) (fun j q hj=>by simp [kQ4,hj]) (fun j hj=>absurd hj (aRg _)) (fun j oj hj hl => ?_) (fun i j _ hij hj => ?_) (by simpa using hB.2) (by simpa [ido] using hlex)
  ·exfalso
   rcases Nat.lt_or_ge j ops.size with h' | h'
   ·simp [h'] at hl
   ·simp [Nat.not_lt.2 h'] at hl
  have hj2:j<os.length:=by
   rw [hlen];obtain ⟨o,ho⟩:=Option.isSome_iff_exists.1 hj;exact (kQ3.1 ho).1
  have:=nK r.1 0 hA i j (aBv os[i]) (aBv os[j]) hij (by rw [hfts,jA,kQ0 (by omega)];rfl) (by rw [hfts,jA,kQ0 hj2];rfl)
  rw [gN,gN] at this
  simp only [kQ4,kQ0 hj2,kQ0 (show i<os.length by omega),Option.getD_some,Array.toArray_toList]
  exact this
 refine wpIn_region_any hm ?_;have:=oX.sound hT hE (C0:=C0) (M0:=M0) (w0:=w0) (ro:=ro) (n:=n) (Q:=fun e' a' w'=>e'=Ex.normal.toExit∧Sim P C0 M0 w0 r.2 a' w') (fun a' w' h'=>⟨rfl,h'⟩) _ _ _ a _ key (hs.drawn (w.drawn+1))
 have h2:=aEt (a0:=a) _ _ _ _ (by simpa using this) (fun _ _=>rfl)
 exact aOx ds (fun e a' w' h=>⟨h.1.1,a',rfl,h.1.2,h.2 h.1.1⟩) (fun ⟨a',w',h⟩=>by cases h.1.1) _ _ _ _ h2

end
section
def sN(P:Program)(k:Nat)(c:Code)(st:St)(e:Ex)(st':St):Prop:=∀ (C0:Cx) (M0:Mem) (w0:World) (a:Act) (w:World),M0.length≤k→Sim P C0 M0 w0 st a w→∀ (ds:List Deferred) (ro:Option Nat) (n:Nat),c.wpIn (Fen ro) n P (fun e' a' w'=>e'=e.toExit∧∃ a2,a'=bkD ds a2∧Sim P C0 M0 w0 st' a2 w'∧(∀ i,wrR c i=false→a2.tmps.getD i undef=a.tmps.getD i undef)) (bkD ds a) w
noncomputable def bLs(c:Code)(st:St):Ask (Ex × St):=match c with
 | .region _ ops true=>do
  let st' ← aLt Tp tT EO ops true st
  pure (.normal,st')
 | _=>fail
theorem sN.fin{k:Nat}{c:Code}{st st':St}{e:Ex}{g:Gh}{o:List OI}{l:List Prop}(h:aAl k g (bLs c st (asg o))=some (e,st',l,[]))(gd:bB (out l)):sN Tp k c st e st':=by
 unfold aAl at h
 split at h
 ·rename_i e1 st1 s hr
  split at h
  ·rename_i st2 hg
   simp only [Option.some.injEq,Prod.mk.injEq] at h
   obtain ⟨rfl,rfl,rfl,hs⟩:=h;unfold bLs at hr
   split at hr
   ·rename_i id ops
    obtain ⟨st3,s1,h1,k1⟩:=aD hr;obtain ⟨he,rfl⟩:=aJ k1;cases he;intro C0 M0 w0 a w hk hsm ds ro n;refine wpIn_mono (bFq ds aHf aHe mixed h1 (fun p hp=>gd p hp) C0 M0 w0 a w hsm ro n) ?_
    rintro e' a' w' ⟨rfl,a2,rfl,h',hkp⟩;exact ⟨rfl,a2,rfl,eQ hk hg h',fun i hi=>hkp i fun o ho e=>by
     unfold wrR at hi
     have:=List.any_eq_false.1 hi o ho;rw [e] at this
     exact this (Nat.beq_refl i)⟩
   ·cases hr
  ·cases h
 ·cases h
theorem sN.fi{k:Nat}{c:Code}{st st':St}{e:Ex}(g:Gh)(o:List OI){l:List Prop}(gd:bB (out l))(h:aAl k g (bLs c st (asg o))=some (e,st',l,[]):=by kernel_rfl):sN Tp k c st e st':=sN.fin h gd
end
section

theorem bZu{dl:Int}{sk dc:Lqq}{num r6:Int}{x:List Int}{y0 y1 n2:Int}{b3:Bool}{T4:Lqb}(h0:(aA sk)[(bK (fun x=>decide (r6=x)) (aP (aA sk) 0)).toNat]? = some [y0,y1])(h1:0≤(bK (fun x=>decide (r6=x)) (aP (aA sk) 0)))(h2:uni 2 (aA sk))(h3:aFr dl (aA sk) (aA dc) (aF x) [y0,y1] n2 b3 ([]:Lqb) T4):sN Tp 0 (sub (cd Tryz.f58) [1,1,1,1,1,1,1,1,1,0,1,0,1,0,0]) ⟨fr 102 [(3,(.rp [(aB num)] 0)),(6,(.rp [(PV.rp (aX dl (aA sk) (aA dc)) 0)] 0)),(9,(.rp [(aB r6)] 0)),(10,(.rp [(aB (bK (fun x=>decide (r6=x)) (aP (aA sk) 0)))] 0)),(11,(.p (aF x)))],[]⟩ .normal ⟨fr 102 [(3,(.rp [(aB num)] 0)),(6,(.rp [(PV.rp (aX dl (aA sk) (aA dc)) 0)] 0)),(9,(.rp [(aB r6)] 0)),(10,(.rp [(aB (bK (fun x=>decide (r6=x)) (aP (aA sk) 0)))] 0)),(11,(.p (aF x))),(12,(pI n2)),(13,(pB b3))],[]⟩:=by
 have k1:=mN [] 0 (qH (dl:=dl) (sk:=(aA sk)) (dc:=(aA dc)) (on:=x.length) (ol:=(x.map aB)));have k2:=mq [0,1,2,3,4,5,6] 8 h3;exact sN.fi ⟨(rng [(0,3),(4,2),(7,2),(14,88)]),[],[],[]⟩ [.x (PV.rp (aX dl (aA sk) (aA dc)) 0),.x (PV.rp (aX dl (aA sk) (aA dc)) 0),.x (.sl ((aA sk).length) ((aA sk).flatten.map aB)),.x (aB (bK (fun x=>decide (r6=x)) (aP (aA sk) 0))),.x (.agg [(aB y0),(aB y1)]),.x (PV.rp (aX dl (aA sk) (aA dc)) 0),k1.o,k2.o] (gc k2 (gc k1 (gr (PV.rp (aX dl (aA sk) (aA dc)) 0) (gc (aT (i:=(bK (fun x=>decide (r6=x)) (aP (aA sk) 0)).toNat) h2 h0) (gc (bH (i:=(bK (fun x=>decide (r6=x)) (aP (aA sk) 0)).toNat) h2 h0) (gc (bR (k:=2) (i:=(bK (fun x=>decide (r6=x)) (aP (aA sk) 0))) (by decide) h2 h1 h0) (gr (aB (bK (fun x=>decide (r6=x)) (aP (aA sk) 0))) (gr (.sl ((aA sk).length) ((aA sk).flatten.map aB)) (gr (PV.rp (aX dl (aA sk) (aA dc)) 0) (gr (PV.rp (aX dl (aA sk) (aA dc)) 0) gn))))))))))
end
end KV
end Go.Proofs
section
namespace Go.Proofs
open Go.RowKit
namespace KV
theorem bLq{P:Program}{C:Cx}{st:St}{a:Act}{w:World}(hS:eI C st.m w st.t a.tmps)(hM:aR P C st.m w)(hp:fZ st.m=true)(hn:aQc st.m) :
  Sim P (cxF fun _=>False) [] { w with heap := #[] } st { a with defers:=[] } w :=
 ⟨C,hS,hM,⟨rfl,rfl,rfl,Nat.zero_le _,fun b hb=>absurd hb (aRg _),fun _ _ h=>by simp at h,fun _ _ h=>by simp at h,fun _ _ h=>by simp at h,fun _ _ b _ _ _ => .inl (Nat.zero_le _),fun _ h=>h.elim,fun b _ => .inr (.inl (Nat.zero_le _))⟩,.nil rfl hn⟩
theorem bFo{P:Program}{C:Cx}{M:Mem}{W W':World}(hM:aR P C M W)(hg:W.grownBy W' none):aR P C M W'∧Fr C M W C M W':=by
 have hsame:∀ b,b<W.heap.size→W'.heap[b]? = W.heap[b]? := fun b hb=>hg.block b hb (fun e=>by cases e)
 have hL:Le C C M M W W':=⟨fun _ o h=>⟨o,h⟩,fun _ _ _ _ _ cs h=>⟨cs,h⟩,fun _ o h o' h' hl=>by rw [h] at h';cases h';exact ⟨hl,rfl,rfl⟩,fun _ h=>h,fun b hb=>hsame b (hM.Fs b hb)⟩
 refine ⟨⟨fun i ty n cs hm => ?_,fun i ty cs hm => ?_,fun i es cl hm => ?_,hM.inj,hM.nF,fun b hb=>kQ8 (hM.Fs b hb) hg.size,fun i o b ho hl hb=>kQ8 (hM.lt i o b ho hl hb) hg.size⟩,
  ⟨hg.os,hg.tape,hg.output,hg.size,fun b hb _=>hsame b hb,fun i o h=>⟨⟨o,h⟩,rfl,rfl⟩,fun _ _ _ _ _ cs h=>⟨cs,h⟩,fun _ o h o' h' hl=>by rw [h] at h';cases h';exact hl,fun i o b ho hl hb => .inr ⟨i,o,ho,hl,hb⟩,fun _ h=>h,fun _ h => .inl h⟩⟩
 ·rcases hM.row _ _ _ _ hm with h4 | ⟨b,arr,inf,q0,q1,q2,q3,q4,q5,q6,q7,q8⟩
  ·exact .inl h4
  ·exact .inr ⟨b,arr,inf,q0,(hsame b (mM.1 q1).1).trans q1,q2,q3,q4,q5,q6,fun j hj=>(q7 j hj).mono hL.F hL.fz,q8⟩
 ·obtain ⟨b,arr,q0,q1,q2,q3,q4⟩:=hM.box _ _ _ hm
  exact ⟨b,arr,q0,(hsame b (mM.1 q1).1).trans q1,q2,fun j hj=>(q3 j hj).mono hL,q4⟩
 ·obtain ⟨b,arr,q0,q1,q2,q3⟩:=hM.mp _ _ _ hm
  refine ⟨b,arr,q0,(hsame b (mM.1 q1).1).trans q1,q2,fun j hj => ?_⟩
  obtain ⟨en,r1,r2,r3,r4⟩:=q3 j hj;exact ⟨en,r1,r2,r3,r4.mono hL.F hL.fz⟩
def bLr(t:List AV)(i:Nat):Bool:=match t[i]? with
 | some .any=>true
 | _=>false
theorem aXe{C:Cx}{M:Mem}{w:World}{v u:Value}(h:Rep C M w (.p (.v v)) u):u=v:=by
 cases h with
 | p _ _ h=>cases h;rfl
theorem bZt{P:Program}{k:Nat}{c:Code}{tA tB:List AV}{S:St}{g:Gh}{i1 i2:Nat}{v1 v2:Value}(hk:sN P 0 c ⟨tA,[]⟩ .normal ⟨tB,[]⟩)(hg:gh 0 g S=some ⟨tA,[]⟩)(hn:fZ S.m=true)
  (h1:tB[i1]? = some (.p (.v v1))) (h2:tB[i2]? = some (.p (.v v2))) (hne:i1≠i2) (hl:tB.length=S.t.length) (hall:((List.range S.t.length).all fun i => !wrR c i || Nat.beq i i1 || Nat.beq i i2 || bLr S.t i)=true) :
  aC P k c S .normal (dI S [(i1,.p (.v v1)),(i2,.p (.v v2))]):=by
 intro C0 M0 w0 a w hk0 hs ro _ n;obtain ⟨C,hS,hM,hF,hD⟩:=hs;obtain ⟨C1,hS1,hM1,_,_⟩:=eQ (dM 0) hg (bLq hS hM hn (eG hn).2);have hs1:Sim P (C1.with []) [] w ⟨tA,[]⟩ { a with defers:=[] } w:=⟨C1,hS1,hM1,(Fr.refl _ _ _).based [],.nil rfl (eG (m:=[]) rfl).2⟩
 have:=hk (C1.with []) [] w _ w (dM 0) hs1 a.defers ro n
 refine wpIn_mono this ?_;rintro e' a' w' ⟨rfl,a2,rfl,⟨C2,hS2,hM2,hF2,⟨l2,d1,d2,d3⟩,_⟩,hkp⟩;have hg2:w.grownBy w' none:=aNo hF2;obtain ⟨hM3,hF3⟩:=bFo hM hg2;have hS3:=hS.le (hM.le hF3);refine ⟨rfl,C,⟨?_,fun i hi => ?_⟩,hM3,hF.trans hF3,?_⟩
 ·have e0:=hS2.size
  show a2.tmps.size=((S.t.set i1 _).set i2 _).length;rw [vA,vA];exact e0.trans hl
 ·have hi':i<S.t.length:=by
   have:i<((S.t.set i1 (.p (.v v1))).set i2 (.p (.v v2))).length:=hi
   rwa [vA,vA] at this
  have key:∀ x,((S.t.set i1 (.p (.v v1))).set i2 (.p (.v v2)))[i]? = some x→Rep C S.m w' x (a2.tmps.getD i undef):=by
   intro x hx
   by_cases e2:i2=i
   ·subst e2
    rw [bHm (by rw [vA];exact hi')] at hx
    cases hx;rw [aXe (hS2.at h2)]
    exact .p _ _ (.v _)
   rw [bMx e2] at hx
   by_cases e1:i1=i
   ·subst e1
    rw [bHm hi'] at hx
    cases hx;rw [aXe (hS2.at h1)]
    exact .p _ _ (.v _)
   rw [bMx e1] at hx
   have hc:=gA.1 hall i (lH.2 hi');cases hw:wrR c i with
   | false =>
    rw [hkp i hw];exact hS3.at hx
   | true =>
    have n1:Nat.beq i i1=false:=by
     cases h:Nat.beq i i1 with
     | false=>rfl
     | true=>exact absurd (Nat.eq_of_beq_eq_true h).symm e1
    have n2:Nat.beq i i2=false:=by
     cases h:Nat.beq i i2 with
     | false=>rfl
     | true=>exact absurd (Nat.eq_of_beq_eq_true h).symm e2
    rw [hw,n1,n2] at hc
    have hc:bLr S.t i=true:=hc;unfold bLr at hc
    rw [hx] at hc
    cases x <;> first | exact .any _ | cases hc
  exact key _ (kQ0 hi)
 ·obtain ⟨⟨l,e1,e2,e3⟩,hR⟩:=hD.fr hM .refl hF3
  obtain ⟨⟨l',e1',_,e3'⟩,_⟩:=hD;have hll:l=l':=by
   have:=e1.symm.trans e1';exact (List.map_inj_right (fun x y h=>by simpa [mark] using h)).1 this
  refine ⟨⟨l2++l,?_,?_,?_⟩,hR⟩
  ·show a2.defers++a.defers=_
   rw [d1,e1,gJ]
  ·refine List.nodup_append.2 ⟨d2,e2,fun x hx y hy hxy => ?_⟩
   have:=(d3 x hx).2.1;have:=(mM.1 (e3' y (hll ▸ hy)).1).1;subst hxy;omega
  ·intro D hD2
   rcases jB.1 hD2 with h | h
   ·exact ⟨(d3 D h).1,fT hF.size (d3 D h).2.1,fun hf=>by
     have:=hM.Fs D hf;have:=(d3 D h).2.1;omega⟩
   ·exact e3 D h
end KV
end Go.Proofs
end
namespace Go.Proofs
namespace KV
section
variable {dl:Int}{sk dc:Lqq}
theorem bRx(l:List Int)(v:Int)(hl:l.length≤1000000){base:Nat}:FV Tp 126 [.p (aF l),.p (aB v)] base (pI (bK (fun x=>decide (v=x)) l)) []:=by
 rcases aH.find (P:=Tp) (k:=0) (b:=(sub (cd Tryz.f126) [1,0,1,0,0])) (fun i=>iR l v i) (fun i _=>dI (iR l v i) [(4,.p (aB (i:Int)))]) (iR l v l.length) .ret (.exit 0) (by simp) (by simp) (fun x=>decide (v=x)) l
  (fun i x hx hp=>aHt (by have:=bC hx;omega) hx (by simpa using hp) (aO (by have:=bC hx;omega)) rfl)
  (fun i x hx hp=>aHs (by have:=bC hx;omega) hx (by simpa using hp))
  (aHu (l:=l) (i:=l.length) (by omega)) with ⟨i,x,h1,h2,h3,h4⟩ | ⟨h1,h2,h3⟩
 ·rw [iA h2];exact bJy h4
 ·rw [iB h1];exact bJx h3
theorem bRy(l:List Int)(v:Int)(hl:l.length≤1000000){base:Nat}:FV Tp 52 [.p (aF l),.p (aB v)] base (pB (l.contains v)) []:=by
 rw [← wS];have k1:=fk 0 (bRx l v hl) rfl;exact FV.fi Tryz.func52 [k1.o] (gc k1 gn)
theorem bRz{l:List Int}(hl:l.length≤1000000)(n:Int):tV (aF l) n (l.contains n):=fun base=>bRy l n hl
def aGa(dl:Int)(sk dc:Lqq)(num r6:Int)(x:List Int):Bool := !(((kJ dl sk dc r6 x).1 == (kJ dl sk dc r6 (x++[num])).1) && ((kJ dl sk dc r6 x).2 == (kJ dl sk dc r6 (x++[num])).2))
theorem cBi(r t t':Int):nX [aB r,aB 0,aB t] [aB r,aB 0,aB t'] [(0,3,true),(1,3,true),(2,3,true)]=(t == t'):=by
 rw [Bool.eq_iff_iff];simp [nX,aFm]
theorem aXd{r6 y0 y1:Int}(h:(aA sk)[(bK (fun x=>decide (r6=x)) (aP (aA sk) 0)).toNat]? = some [y0,y1])(x:List Int):kJ dl sk dc r6 x=cE dl x (aA dc) y0 y1:=by
 have e:(aA sk).getD (bK (fun x=>decide (r6=x)) (aP (aA sk) 0)).toNat []=[y0,y1]:=by
  rw [kQ4,h];rfl
 unfold kJ;rw [e];rfl
theorem bLo{dl:Int}{sk dc:Lqq}{num r6:Int}{x:List Int}(hd:bZ (aA dc))(hu:uni 2 (aA sk))(hs:∀ s∈aA sk,-1≤s.getD 1 0∧s.getD 1 0≤360000)(hx:x.length≤1000){y0 y1:Int}(h0:(aA sk)[(bK (fun x=>decide (r6=x)) (aP (aA sk) 0)).toNat]? = some [y0,y1])(h1:0≤(bK (fun x=>decide (r6=x)) (aP (aA sk) 0))) :
  aC Tp 3 (sub (cd Tryz.f58) [1,1,1,1,1,1,1,1,1,0,1,0,1,0,0]) (sO dl sk dc num r6 x) .normal (dI (sO dl sk dc num r6 x) [(12,(pI ((kJ dl sk dc r6 x).1))),(13,(pB ((kJ dl sk dc r6 x).2)))]):=by
 obtain ⟨T',_,hT⟩:=bJb (sk:=aA sk) hd (fun n=>aDw hx n) y0 y1 (hs _ (kQ5 h0)) (T:=[]) cL.nil
 rw [aXd h0];exact bZt (bZu (num:=num) h0 h1 hu hT) (g:=⟨(rng [(0,3),(4,2),(7,2),(12,90)]),[],[2],[]⟩) (by kernel_rfl) rfl (by rfl) (by rfl) (by decide) (by rfl) (by kernel_rfl)
theorem bFm{dl:Int}{sk dc:Lqq}{num r6:Int}{x:List Int}(hd:bZ (aA dc))(hu:uni 2 (aA sk))(hs:∀ s∈aA sk,-1≤s.getD 1 0∧s.getD 1 0≤360000)(hx:x.length≤1000){y0 y1:Int}(h0:(aA sk)[(bK (fun x=>decide (r6=x)) (aP (aA sk) 0)).toNat]? = some [y0,y1])(h1:0≤(bK (fun x=>decide (r6=x)) (aP (aA sk) 0))) :
  (aGa dl sk dc num r6 x=false→aC Tp 3 (sub (cd Tryz.f58) [1,1,1,1,1,1,1,1,1,0,1,0,1]) (rfO (qQ dl sk dc num r6) 54 11 x) .normal (aUv dl sk dc num r6)) ∧
  (aGa dl sk dc num r6 x=true→aC Tp 3 (sub (cd Tryz.f58) [1,1,1,1,1,1,1,1,1,0,1,0,1]) (rfO (qQ dl sk dc num r6) 54 11 x) .ret (aLc dl sk dc num r6)):=by
 have hn:=bLo (dl:=dl) (num:=num) hd hu hs hx h0 h1;obtain ⟨T',_,hT⟩:=bJb (dl:=dl) (sk:=aA sk) hd (fun n=>bRz (l:=x++[num]) (by rw [kT];show x.length+1≤_;omega) n) y0 y1 (hs _ (kQ5 h0)) (T:=[]) cL.nil
 rw [← aXd h0] at hT
 have hov:aF (x++[num]) = .sl (x.length+1) (x.map aB++[aB num]):=by
  show PV.sl (x++[num]).length ((x++[num]).map aB)=_;rw [kT,gJ];rfl
 rw [hov] at hT
 have hq:=cBi r6 (kJ dl sk dc r6 x).1 (kJ dl sk dc r6 (x++[num])).1;unfold aGa;cases ha:((kJ dl sk dc r6 x).1 == (kJ dl sk dc r6 (x++[num])).1) with
 | false =>
  refine ⟨fun h=>(by cases h),fun _ => ?_⟩
  rw [ha] at hq
  exact bFs hn h0 h1 hu ⟨rfl,by omega⟩ hT ⟨rfl,rfl⟩ hq
 | true =>
  rw [ha] at hq
  cases hb:((kJ dl sk dc r6 x).2 == (kJ dl sk dc r6 (x++[num])).2) with
  | false =>
   refine ⟨fun h=>(by cases h),fun _ => ?_⟩
   exact bFt hn h0 h1 hu ⟨rfl,by omega⟩ hT ⟨rfl,rfl⟩ hq hb
  | true =>
   refine ⟨fun _ => ?_,fun h=>(by cases h)⟩
   exact bFu hn h0 h1 hu ⟨rfl,by omega⟩ hT ⟨rfl,rfl⟩ hq hb
theorem bFn{num r6:Int}(hd:bZ (aA dc))(hu:uni 2 (aA sk))(hs:∀ s∈aA sk,-1≤s.getD 1 0∧s.getD 1 0≤360000){y0 y1:Int}(h0:(aA sk)[(bK (fun x=>decide (r6=x)) (aP (aA sk) 0)).toNat]? = some [y0,y1])(h1:0≤(bK (fun x=>decide (r6=x)) (aP (aA sk) 0)))(ho:((aN dl (aA dc)).filter fun n => !(n == num)).length≤60) :
  ((gL ((aN dl (aA dc)).filter fun n => !(n == num))).any (aGa dl sk dc num r6)=false→aC Tp 0 (sub (cd Tryz.f58) [1,1,1,1,1,1,1,1,1,0,1,0]) (aEv dl sk dc num r6) .normal (qQ dl sk dc num r6)) ∧
  ((gL ((aN dl (aA dc)).filter fun n => !(n == num))).any (aGa dl sk dc num r6)=true→aC Tp 0 (sub (cd Tryz.f58) [1,1,1,1,1,1,1,1,1,0,1,0]) (aEv dl sk dc num r6) .ret (aUu dl sk dc num r6)):=by
 have main:=aHl (P:=Tp) (k:=0) (kb:=3) (kk:=2) (g0:=⟨[],[],[],[]⟩) (g1:=⟨[],[],[],[]⟩) (gR:=⟨[],[],[],[]⟩) (aEv dl sk dc num r6) (fun _=>qQ dl sk dc num r6) (fun _ _=>aUv dl sk dc num r6) (fun _ _=>aLc dl sk dc num r6) (qQ dl sk dc num r6).t (aUu dl sk dc num r6).m (fun _=>aGa dl sk dc num r6)
  (cc := sub (cd Tryz.f58) [1, 1, 1, 1, 1, 1, 1, 1, 1, 0, 1, 0]) (gi := 53) (p1 := 54) (d := 11) (id := 14) (ty := 33) (pos := "outcome.go:200") (body := sub (cd Tryz.f58) [1, 1, 1, 1, 1, 1, 1, 1, 1, 0, 1, 0, 1]) (by kernel_rfl)
  rfl (fun _=>rfl) (g := .fn 182 [] [.rp [aF ((aN dl (aA dc)).filter fun n => !(n == num))] 0]) (by rfl) (aHj _ ho) (fun args w=>rfl) (fun _=>rfl) (fun _=>rfl) (fun _ _=>rfl) (fun _ _=>rfl) rfl rfl (fun _=>by show 2<3;omega) (by kernel_rfl) (fun x=>rfl) (by show 2≤2;omega) rfl (by kernel_rfl) (fun pre l=>by kernel_rfl) (fun _ _ _=>by kernel_rfl) (fun pre l _ hx=>bFm hd hu hs hx h0 h1)
 refine ⟨fun h=>main.1 fun pre l hp => ?_,fun h=>main.2 ?_⟩
 ·have:=List.any_eq_false.1 h l (hp.subset (by simp))
  simpa using this
 ·obtain ⟨l,hl,hb⟩:=List.any_eq_true.1 h
  obtain ⟨s,t,e⟩:=List.append_of_mem hl;exact ⟨s,l,⟨t,by rw [e];simp⟩,hb⟩
def bLp(dl:Int)(sk dc:Lqq)(num:Int):Bool × Int :=
 if (aN dl (aA dc)).contains num=false then (false,1) else if 8<(aN dl (aA dc)).length then (false,10) else
 if bK (fun x=>decide (tZ (aA dc) num=x)) (aP (aA sk) 0)<0 then (false,0) else ((gL ((aN dl (aA dc)).filter fun n => !(n == num))).any (aGa dl sk dc num (tZ (aA dc) num)),0)
theorem bSa{α:Type}{p:α→Bool}{l:List α}(h:0≤bK p l):(bK p l).toNat<l.length:=by
 unfold bK at h ⊢
 cases e:l.findIdx? p with
 | none=>rw [e] at h;simp at h
 | some i =>
  obtain ⟨hi,_⟩:=List.findIdx?_eq_some_iff_getElem.1 e;simpa using hi
theorem bZs(h:bG dl sk dc)(num:Int){base:Nat}:FV Tp 58 [.p (.agg (cR dl sk dc)),.p (aB num)] base (.tup [.p (blP (bLp dl sk dc num).1),.p (aB (bLp dl sk dc num).2)]) []:=by
 have hd:=eA h;obtain ⟨hu,hl,hs,_⟩:=lE h;have hol:(aN dl (aA dc)).length≤1000:=by
  unfold aN;rw [eR];exact fT (tR _ _) hd.len
 unfold bLp;cases hc:(aN dl (aA dc)).contains num with
 | false=>exact bZv h hd hol hc
 | true =>
  rw [if_neg (by simp)]
  by_cases h8:8<(aN dl (aA dc)).length
  ·rw [if_pos h8];exact bZw h hd hol hc (by omega)
  ·rw [if_neg h8]
   have hm:num∈aN dl (aA dc):=by simpa using hc
   have hm2:=hm;unfold aN at hm2
   obtain ⟨x,hx,rfl⟩:=kQ9.1 hm2;have hx:=(nA.1 hx).1;have hr:=eX hd hx;have hsb:tZ (aA dc) (dN x)=lJ (aA dc) x:=by unfold tZ;rw [aBb hd hx]
   obtain ⟨q1,q2⟩:=aSf hd hx;have hk:=wP hd (n:=dN x) (by unfold inR;omega)
   have hab:=mS hd x hx;rw [hsb];obtain ⟨a,b,c,d,e,f,rfl⟩:=len6 (hd.ud x hx);have hf:inR f:=by
    have:=(kF.1 (hd.rng _ hx));unfold inR;simp [dAb] at this hab ⊢;omega
   have hsbj:bIm dl (aA sk) (aA dc) [a,b,c,d,e,f] (lJ (aA dc) [a,b,c,d,e,f]):=fun base=>bIz hd hf (.inl hx) hr.2
   have hcl:(aP (aA sk) 0).length≤1000:=by rw [wR];omega
   by_cases h0:bK (fun x=>decide (lJ (aA dc) [a,b,c,d,e,f]=x)) (aP (aA sk) 0)<0
   ·rw [if_pos h0]
    exact bZx h hd hol hc (by omega) hk q1 q2 hsbj ⟨hu,by omega⟩ hcl h0
   ·rw [if_neg h0]
    have hi:=bSa (p:=fun x=>decide (lJ (aA dc) [a,b,c,d,e,f]=x)) (l:=aP (aA sk) 0) (by omega)
    rw [wR] at hi
    obtain ⟨y0,y1,hy⟩:=at2 hu hi;have hrg:=bFn (dl:=dl) (num:=dN [a,b,c,d,e,f]) hd hu hs hy (by omega) (fT (tR _ _) (by omega))
    cases hb:(gL ((aN dl (aA dc)).filter fun n => !(n == dN [a,b,c,d,e,f]))).any (aGa dl sk dc (dN [a,b,c,d,e,f]) (lJ (aA dc) [a,b,c,d,e,f])) with
    | false=>exact bZy h hd hol hc (by omega) hk q1 q2 hsbj ⟨hu,by omega⟩ hcl (by omega) (hrg.1 hb)
    | true=>exact bZz h hd hol hc (by omega) hk q1 q2 hsbj ⟨hu,by omega⟩ hcl (by omega) (hrg.2 hb)
end
section
variable {base:Nat}

theorem aUp:((0:Int) == (0:Int))=true:=by first | decide | simp
theorem aUq:((0:Int) != (0:Int))=false:=by first | decide | simp
theorem aLa:((3:Int) != (3:Int))=false:=by first | decide | simp
theorem bZn:((15100:Int) == (15100:Int))=true:=by first | decide | simp
abbrev thD:List PV:=[(aB 1),(aB 0),(aB 0),(aB 1),(aB 300),(aB 0),(aB 2),(aB 7),(aB 10),(aB 0),(aB 0),(aB 1),(aB 3),(aB 9),(aB 40),(aB 0),(aB 0),(aB 2),(aB 4),(aB 5),(aB 50),(aB 0),(aB 0),(aB 3),(aB 5),(aB 6),(aB 60),(aB 0),(aB 100),(aB 1)]
abbrev thS:List PV:=[(aB 1),(aB 15000),(aB 2),(aB 15100),(aB 3),(aB 15200)]
abbrev yW:AV:=(.p (.agg [(aB 30),(.sl 3 thS),(.sl 2 [(aB 1),(aB 0),(aB 0),(aB 1),(aB 300),(aB 0),(aB 2),(aB 7),(aB 10),(aB 0),(aB 0),(aB 1)])]))
abbrev bZo:AV:=(.p (.agg [(aB 30),(.sl 3 thS),(.sl 3 [(aB 1),(aB 0),(aB 0),(aB 1),(aB 300),(aB 0),(aB 2),(aB 7),(aB 10),(aB 0),(aB 0),(aB 1),(aB 3),(aB 9),(aB 40),(aB 0),(aB 0),(aB 2)])]))
abbrev bZp:AV:=(.p (.agg [(aB 30),(.sl 3 thS),(.sl 4 [(aB 1),(aB 0),(aB 0),(aB 1),(aB 300),(aB 0),(aB 2),(aB 7),(aB 10),(aB 0),(aB 0),(aB 1),(aB 3),(aB 9),(aB 40),(aB 0),(aB 0),(aB 2),(aB 4),(aB 5),(aB 50),(aB 0),(aB 0),(aB 3)])]))
abbrev bZq:AV:=(.p (.agg [(aB 30),(.sl 3 thS),(.sl 5 [(aB 1),(aB 0),(aB 0),(aB 1),(aB 300),(aB 0),(aB 2),(aB 7),(aB 10),(aB 0),(aB 0),(aB 1),(aB 3),(aB 9),(aB 40),(aB 0),(aB 0),(aB 2),(aB 4),(aB 5),(aB 50),(aB 0),(aB 0),(aB 3),(aB 5),(aB 6),(aB 60),(aB 0),(aB 100),(aB 1)])]))
theorem bRq{r0c:List PV}(h0:0≤(0:Int)∧(0:Int)≤2∧(2:Int)≤5)(er0c:r0c=((thD.drop 0).take (2*(thD.length / 5)))):FV Tp 88 [(pI 2)] base (.p (.agg [(aB 30),(.sl 3 [(aB 1),(aB 15000),(aB 2),(aB 15100),(aB 3),(aB 15200)]),(.sl 2 r0c)])) []:=by
 subst er0c;have k1:=fk 1 (aKr (a:=(1:Int)) (b:=(1:Int)) (c:=(300:Int))) rfl;have k2:=fk 1 (iV (a:=(2:Int)) (b:=(7:Int)) (c:=(1:Int)) (d:=(10:Int)) (e:=(0:Int))) rfl;have k3:=fk 1 (iV (a:=(3:Int)) (b:=(9:Int)) (c:=(2:Int)) (d:=(40:Int)) (e:=(0:Int))) rfl;have k4:=fk 1 (iV (a:=(4:Int)) (b:=(5:Int)) (c:=(3:Int)) (d:=(50:Int)) (e:=(0:Int))) rfl;have k5:=fk 1 (iV (a:=(5:Int)) (b:=(6:Int)) (c:=(1:Int)) (d:=(60:Int)) (e:=(100:Int))) rfl;exact FV.frz (FMM.fi 0 ⟨[],[],[2,1],[]⟩ Tryz.func88 [k1.o,k2.o,k3.o,k4.o,k5.o] (gc h0 (gc k5 (gc k4 (gc k3 (gc k2 (gc k1 gn))))))) (by kernel_rfl)
theorem bRr{r0c:List PV}(h0:0≤(0:Int)∧(0:Int)≤3∧(3:Int)≤5)(er0c:r0c=((thD.drop 0).take (3*(thD.length / 5)))):FV Tp 88 [(pI 3)] base (.p (.agg [(aB 30),(.sl 3 [(aB 1),(aB 15000),(aB 2),(aB 15100),(aB 3),(aB 15200)]),(.sl 3 r0c)])) []:=by
 subst er0c;have k1:=fk 1 (aKr (a:=(1:Int)) (b:=(1:Int)) (c:=(300:Int))) rfl;have k2:=fk 1 (iV (a:=(2:Int)) (b:=(7:Int)) (c:=(1:Int)) (d:=(10:Int)) (e:=(0:Int))) rfl;have k3:=fk 1 (iV (a:=(3:Int)) (b:=(9:Int)) (c:=(2:Int)) (d:=(40:Int)) (e:=(0:Int))) rfl;have k4:=fk 1 (iV (a:=(4:Int)) (b:=(5:Int)) (c:=(3:Int)) (d:=(50:Int)) (e:=(0:Int))) rfl;have k5:=fk 1 (iV (a:=(5:Int)) (b:=(6:Int)) (c:=(1:Int)) (d:=(60:Int)) (e:=(100:Int))) rfl;exact FV.frz (FMM.fi 0 ⟨[],[],[2,1],[]⟩ Tryz.func88 [k1.o,k2.o,k3.o,k4.o,k5.o] (gc h0 (gc k5 (gc k4 (gc k3 (gc k2 (gc k1 gn))))))) (by kernel_rfl)
theorem bRs{r0c:List PV}(h0:0≤(0:Int)∧(0:Int)≤4∧(4:Int)≤5)(er0c:r0c=((thD.drop 0).take (4*(thD.length / 5)))):FV Tp 88 [(pI 4)] base (.p (.agg [(aB 30),(.sl 3 [(aB 1),(aB 15000),(aB 2),(aB 15100),(aB 3),(aB 15200)]),(.sl 4 r0c)])) []:=by
 subst er0c;have k1:=fk 1 (aKr (a:=(1:Int)) (b:=(1:Int)) (c:=(300:Int))) rfl;have k2:=fk 1 (iV (a:=(2:Int)) (b:=(7:Int)) (c:=(1:Int)) (d:=(10:Int)) (e:=(0:Int))) rfl;have k3:=fk 1 (iV (a:=(3:Int)) (b:=(9:Int)) (c:=(2:Int)) (d:=(40:Int)) (e:=(0:Int))) rfl;have k4:=fk 1 (iV (a:=(4:Int)) (b:=(5:Int)) (c:=(3:Int)) (d:=(50:Int)) (e:=(0:Int))) rfl;have k5:=fk 1 (iV (a:=(5:Int)) (b:=(6:Int)) (c:=(1:Int)) (d:=(60:Int)) (e:=(100:Int))) rfl;exact FV.frz (FMM.fi 0 ⟨[],[],[2,1],[]⟩ Tryz.func88 [k1.o,k2.o,k3.o,k4.o,k5.o] (gc h0 (gc k5 (gc k4 (gc k3 (gc k2 (gc k1 gn))))))) (by kernel_rfl)
theorem bRt{r0c:List PV}(h0:0≤(0:Int)∧(0:Int)≤5∧(5:Int)≤5)(er0c:r0c=((thD.drop 0).take (5*(thD.length / 5)))):FV Tp 88 [(pI 5)] base (.p (.agg [(aB 30),(.sl 3 [(aB 1),(aB 15000),(aB 2),(aB 15100),(aB 3),(aB 15200)]),(.sl 5 r0c)])) []:=by
 subst er0c;have k1:=fk 1 (aKr (a:=(1:Int)) (b:=(1:Int)) (c:=(300:Int))) rfl;have k2:=fk 1 (iV (a:=(2:Int)) (b:=(7:Int)) (c:=(1:Int)) (d:=(10:Int)) (e:=(0:Int))) rfl;have k3:=fk 1 (iV (a:=(3:Int)) (b:=(9:Int)) (c:=(2:Int)) (d:=(40:Int)) (e:=(0:Int))) rfl;have k4:=fk 1 (iV (a:=(4:Int)) (b:=(5:Int)) (c:=(3:Int)) (d:=(50:Int)) (e:=(0:Int))) rfl;have k5:=fk 1 (iV (a:=(5:Int)) (b:=(6:Int)) (c:=(1:Int)) (d:=(60:Int)) (e:=(100:Int))) rfl;exact FV.frz (FMM.fi 0 ⟨[],[],[2,1],[]⟩ Tryz.func88 [k1.o,k2.o,k3.o,k4.o,k5.o] (gc h0 (gc k5 (gc k4 (gc k3 (gc k2 (gc k1 gn))))))) (by kernel_rfl)
theorem xE{base:Nat}:FV Tp 88 [.p (aB 2)] base yW []:=bRq (by decide) rfl
theorem bRu{base:Nat}:FV Tp 88 [.p (aB 3)] base bZo []:=bRr (by decide) rfl
theorem bRv{base:Nat}:FV Tp 88 [.p (aB 4)] base bZp []:=bRs (by decide) rfl
theorem bRw{base:Nat}:FV Tp 88 [.p (aB 5)] base bZq []:=bRt (by decide) rfl
theorem bZr(h28_0:∀ base:Nat,FV Tp 28 [yW] base (.tup [(.own base),(pI 0)]) [(base,(.row 48 3 [(aB 2),(aB 1),(aB 15100),(aB 3),(aB 2),(aB 15200),(aB 1),(aB 3),(aB 15300)]))])(h21_1:∀ base:Nat,FV Tp 21 [yW,(.p (.sl 1 [(aB 2)]))] base (.tup [(.own base),(pI 0)]) [(base,(.row 48 3 [(aB 1),(aB 1),(aB 15000),(aB 2),(aB 2),(aB 15100),(aB 3),(aB 3),(aB 15200)]))])(h71_2:∀ base:Nat,FV Tp 71 [yW,(pI 1)] base (.tup [(.p (.sl 2 [(aB 1),(aB 3)])),(pB false),(pI 0)]) [])(h33_3:∀ base:Nat,FV Tp 33 [yW,(pI 2)] base (.tup [(.p (.sl 1 [(aB 2)])),(pI 0)]) [])(h51_4:∀ base:Nat,FV Tp 51 [(.p (.sl 3 [(aB 2),(aB 1),(aB 15100),(aB 3),(aB 2),(aB 15200),(aB 1),(aB 3),(aB 15300)])),(.p (.sl 3 [(aB 2),(aB 1),(aB 15100),(aB 3),(aB 2),(aB 15200),(aB 1),(aB 3),(aB 15300)]))] base (pB true) [])(h5:eF [(aB 1),(aB 1),(aB 15000)] [(0,3,true),(1,3,true),(2,3,true)]=true∧eF [(aB 1),(aB 1),(aB 15000)] [(0,3,true),(1,3,true),(2,3,true)]=true)(h6:(nX [(aB 1),(aB 1),(aB 15000)] [(aB 1),(aB 1),(aB 15000)] [(0,3,true),(1,3,true),(2,3,true)])=true)(h41_7:∀ base:Nat,FV Tp 41 [(.p (.sl 2 [(aB 1),(aB 3)])),(.p (.sl 2 [(aB 1),(aB 3)]))] base (pB true) [])(h41_8:∀ base:Nat,FV Tp 41 [(.p (.sl 1 [(aB 2)])),(.p (.sl 1 [(aB 2)]))] base (pB true) [])(h19_9:∀ base:Nat,FV Tp 19 [bZo] base (.tup [(.p (.sl 0 [])),(pI 0)]) [])(h19_10:∀ base:Nat,FV Tp 19 [bZp] base (.tup [(.p (.sl 1 [(aB 2)])),(pI 0)]) [])(h61_11:∀ base:Nat,FV Tp 61 [bZq,(pI 1)] base (.tup [(pI 15100),(pB false),(pI 0)]) [])(h58_12:∀ base:Nat,FV Tp 58 [yW,(pI 2)] base (.tup [(pB true),(pI 0)]) []):FV Tp 26 [] base (pB true) []:=by
 exact FV.fi Tryz.func26 [.c yW [],.c (.tup [(.own 0),(pI 0)]) [(0,(.row 48 3 [(aB 2),(aB 1),(aB 15100),(aB 3),(aB 2),(aB 15200),(aB 1),(aB 3),(aB 15300)]))],.c yW [],.c (.tup [(.own 2),(pI 0)]) [(1,.dead),(2,(.row 48 3 [(aB 1),(aB 1),(aB 15000),(aB 2),(aB 2),(aB 15100),(aB 3),(aB 3),(aB 15200)]))],.c yW [],.c (.tup [(.p (.sl 2 [(aB 1),(aB 3)])),(pB false),(pI 0)]) [],.c yW [],.c (.tup [(.p (.sl 1 [(aB 2)])),(pI 0)]) [],bF,bF,bF,bF,bF,bF,bF,bF,bF,bF,bF,bF,bF,bF,bF,.c (pB true) [],bF,bF,bF,bF,bF,bF,bF,bF,bF,.x (.agg [(aB 1),(aB 1),(aB 15000)]),bF,bF,bF,bF,bF,bF,.c (pB true) [],bF,bF,bF,bF,bF,.c (pB true) [],bF,bF,bF,.c bZo [],.c (.tup [(.p (.sl 0 [])),(pI 0)]) [],.c bZp [],.c (.tup [(.p (.sl 1 [(aB 2)])),(pI 0)]) [],.c bZq [],.c (.tup [(pI 15100),(pB false),(pI 0)]) [],.c yW [],.c (.tup [(pB true),(pI 0)]) [],bT,bT,bT,bT,bT,bT,bT,bT,bT,bT,bT,bT,bT,bT,bT,bT,.c (pB true) [],bT,bT,bT,bT,bT,bT] (g2c bZn (gt (true=true) rfl (gt (true=true) rfl (gt (true=true) rfl (gc aUp (gt (FC Tp 41 [(.p (.sl 1 [(aB 2)])),(.own 6)] [(6,(.row 3 1 [(aB 2)]))] 7 (pB true) []) (fv (h41_8 _)) (g8c aUp (g8c aUp (gc (fk 6 (h58_12 _) rfl) (gc (fk 6 xE rfl) (gc (fk 6 (h61_11 _) rfl) (gc (fk 6 bRw rfl) (gc (fk 6 (h19_10 _) rfl) (gc (fk 6 bRv rfl) (gc (fk 6 (h19_9 _) rfl) (gc (fk 6 bRu rfl) (gf (gf (gf (gt (FC Tp 41 [(.p (.sl 1 [(aB 2)])),(.own 5)] [(5,(.row 3 1 [(aB 2)]))] 6 (pB true) []) (fv (h41_8 _)) (gf (gf (gf (g2c (aI h6) (gt (FC Tp 41 [(.p (.sl 2 [(aB 1),(aB 3)])),(.own 4)] [(4,(.row 3 2 [(aB 1),(aB 3)]))] 5 (pB true) []) (fv (h41_7 _)) (g3c (aI h6) (gc aLa (gc h5 (g2c aLa (gr (.agg [(aB 1),(aB 1),(aB 15000)]) (gt (0+3≤[(aB 1),(aB 1),(aB 15000),(aB 2),(aB 2),(aB 15100),(aB 3),(aB 3),(aB 15200)].length) (by first | decide | simp) (gc aLa (gt (0≤(0:Int)∧(0:Int)<3) (by first | decide | simp) (g2c aLa (gf (gf (gf (gf (g2c aUq (gt (FC Tp 51 [(.own 0),(.own 3)] [(0,(.row 48 3 [(aB 2),(aB 1),(aB 15100),(aB 3),(aB 2),(aB 15200),(aB 1),(aB 3),(aB 15300)])),(3,(.row 48 3 [(aB 2),(aB 1),(aB 15100),(aB 3),(aB 2),(aB 15200),(aB 1),(aB 3),(aB 15300)]))] 4 (pB true) []) (fv (h51_4 _)) (g8c aUq (g7c aUq (gc (fk 3 (h33_3 _) rfl) (gc (fk 3 xE rfl) (gc (fk 3 (h71_2 _) rfl) (gc (fk 3 xE rfl) (gt (FC Tp 21 [yW,(.own 1)] [(1,(.row 3 1 [(aB 2)]))] 2 (.tup [(.own 2),(pI 0)]) [(1,.dead),(2,(.row 48 3 [(aB 1),(aB 1),(aB 15000),(aB 2),(aB 2),(aB 15100),(aB 3),(aB 3),(aB 15200)]))]) (FV.close (ids:=[1]) (args':=[yW,(.p (.sl 1 [(aB 2)]))]) (h21_1 _) (by kernel_rfl)) (gc (fk 1 xE rfl) (gc (fk 0 (h28_0 _) rfl) (gc (fk 0 xE rfl) gn))))))))))))))))))))))))))))))))))))))))))))))))))
end
section
abbrev sB(s:List Int):Int:=s.getD 0 0
abbrev sT(s:List Int):Int:=s.getD 1 0
def fH(dl:Int)(oc:List Int)(dc sk:Lqq):Lqq:=(sk.filter fun s => !(cE dl oc dc (sB s) (sT s)).2).map fun s=>[sB s,0,(cE dl oc dc (sB s) (sT s)).1]
def fR(dl:Int)(oc:List Int)(dc sk:Lqq):Lqq:=(sk.filter fun s=>(cE dl oc dc (sB s) (sT s)).2).map fun s=>[sB s,-1,0]
def plN(A:Lqq)(t:Int):Int:=match A.getLast? with
 | some y=>if y.getD 2 0=t then y.getD 1 0 else (A.length:Int)+1
 | none=>(A.length:Int)+1
def plS(A:Lqq)(x:List Int):Lqq:=A++[[x.getD 0 0,plN A (x.getD 2 0),x.getD 2 0]]
def jL(l:Lqq):Lqq:=l.foldl plS []
def bL(dl:Int)(oc:List Int)(dc sk:Lqq):Lqq:=jL (isort (ltK 2) (fH dl oc dc sk))++fR dl oc dc sk

theorem bSc(A D:List PV)(a b c v:PV):(A++[a,b,c]++D).set (A.length+1) v=A++[a,v,c]++D:=by
 induction A with
 | nil=>rfl
 | cons x A ih=>simp
theorem aBj{L:Lqq}{j:Nat}{a b c:Int}(hu:uni 3 L)(hj:L[j]? = some [a,b,c])(v:Int):(L.flatten.map aB).set (j*3+1) (aB v)=((L.set j [a,v,c]).flatten.map aB):=by
 obtain ⟨hlt,he⟩:=kQ3.1 hj;have h0:=rV (k:=3) (i:=j) (x:=[a,b,c]) hu hlt rfl;have h1:=rV (k:=3) (i:=j) (x:=[a,v,c]) hu hlt rfl;have hs:L.set j [a,b,c]=L:=by rw [← he];exact List.set_getElem_self hlt
 rw [hs] at h0
 rw [← h1];have hl:((L.flatten.map aB).take (j*3)).length=j*3:=by
  have:=bH hu hj;rw [mY];omega
 have:=bSc ((L.flatten.map aB).take (j*3)) ((L.flatten.map aB).drop (j*3+3)) (aB a) (aB b) (aB c) (aB v);rw [hl] at this
 conv=>lhs;rw [← h0]
 exact this
theorem bSd(A:Lqq)(x:List Int):(plS A x).length=A.length+1:=by simp [plS]
theorem aXf(l:Lqq):∀ A:Lqq,(l.foldl plS A).length=A.length+l.length:=by
 induction l with
 | nil=>intro A;simp
 | cons x l ih=>intro A;rw [rU,ih,bSd];simp;omega
theorem aLd(l:Lqq):∀ A:Lqq,uni 3 A→uni 3 (l.foldl plS A):=by
 induction l with
 | nil=>intro A h;exact h
 | cons x l ih =>
  intro A h;rw [rU];refine ih _ fun y hy => ?_
  unfold plS at hy
  rcases jB.1 hy with hy | hy
  ·exact h y hy
  ·rw [List.mem_singleton.1 hy];rfl
section
variable {dl:Int} {sk dc:Lqq} {oc:List Int} {ov:PV}
theorem aUw(l:Lqq)(hu:uni 3 l)(hl:l.length<1000)(p q:Lqq)(hp:(isort (ltK 2) p).length=l.length)(t:Lqb) :
  aH Tp 7 (sub (cd Tryz.f86) [1,1,1,1,0,1,0,0]) (fO dl sk dc ov p q t l.length (l.flatten.map aB) 0) (.exit 2) (fO dl sk dc ov p q t (jL l).length ((jL l).flatten.map aB) l.length):=by
 let St (j:Nat):Lqq:=(l.take j).foldl plS []++l.drop j
 have hlen:∀ j,j≤l.length→((l.take j).foldl plS []).length=j:=fun j hj=>by rw [aXf];simp;omega
 have hlS:∀ j,j≤l.length→(St j).length=l.length:=fun j hj=>by
  show (_++_:Lqq).length=_;rw [kT,hlen j hj,bHr];omega
 have huS:∀ j,uni 3 (St j):=fun j y hy=>by
  rcases jB.1 hy with hy | hy
  ·exact aLd _ [] (fun z hz=>by cases hz) y hy
  ·exact hu y (List.mem_of_mem_drop hy)
 have:=aH.count (P:=Tp) (k:=7) (b:=sub (cd Tryz.f86) [1,1,1,1,0,1,0,0]) (e := .exit 2) (R:=fO dl sk dc ov p q t (jL l).length ((jL l).flatten.map aB) l.length) l.length
  (fun j=>fO dl sk dc ov p q t (St j).length ((St j).flatten.map aB) j)
  (fun j hj=>by
   have hx:=hu _ (gS hj);obtain ⟨a,b,c,hx⟩:=len3 hx;have hA:=hlen j (by omega)
   have e1:(l.take (j+1)).foldl plS []=plS ((l.take j).foldl plS []) [a,b,c]:=by
    rw [List.take_add_one,kQ0 hj,hx];rw [aJh];rfl
   have hdr:l.drop j=[a,b,c]::l.drop (j+1):=by rw [aZb hj,hx]
   have g1:(St j)[j]? = some [a,b,c]:=by
    show ((l.take j).foldl plS []++l.drop j)[j]? = _;rw [aAg (by omega),hA,aZd,hdr];rfl
   have hset:∀ v,(St j).set j [a,v,c]=(l.take j).foldl plS []++[a,v,c]::l.drop (j+1):=fun v=>by
    show ((l.take j).foldl plS []++l.drop j).set j [a,v,c]=_;rw [List.set_append_right _ _ (by omega),hA,aZd,hdr];rfl
   have hnext:St (j+1)=(St j).set j [a,plN ((l.take j).foldl plS []) c,c]:=by
    rw [hset];show (l.take (j+1)).foldl plS []++l.drop (j+1)=_;rw [e1];unfold plS;rw [List.append_assoc];rfl
   have hle:=bH (huS j) g1;have hpl:(j:Int)<((isort (ltK 2) p).length:Int):=by rw [hp];omega
   rw [hnext]
   rcases Nat.eq_zero_or_pos j with h0 | hpos
   ·have hn:plN ((l.take j).foldl plS []) c=(j:Int)+1:=by
     subst h0;rfl
    rw [hn];exact bBd (L:=St j) (L':=(St j).set j [a,((j+1:Nat):Int),c]) (by exact_mod_cast hpl) (aO (by omega)) g1 (by omega) (by omega) (by simp) (aBj (huS j) g1 _).symm rfl
   ·have g2:∃ y0 y1 y2,((l.take j).foldl plS []).getLast? = some [y0,y1,y2]∧(St j)[((j:Int)-1).toNat]? = some [y0,y1,y2]:=by
     have hlt:j-1<((l.take j).foldl plS []).length:=by omega
     have h3:=aLd (l.take j) [] (fun z hz=>by cases hz) _ (gS hlt)
     obtain ⟨y0,y1,y2,hy⟩:=len3 h3;refine ⟨y0,y1,y2,?_,?_⟩
     ·rw [List.getLast?_eq_getElem?,hA,kQ0 hlt,hy]
     ·show ((l.take j).foldl plS []++l.drop j)[((j:Int)-1).toNat]? = _
      rw [show ((j:Int)-1).toNat=j-1 by omega,aAh hlt,kQ0 hlt,hy]
    obtain ⟨y0,y1,y2,g3,g4⟩:=g2
    by_cases hc:c=y2
    ·have hn:plN ((l.take j).foldl plS []) c=y1:=by
      unfold plN;rw [g3];show (if y2=c then y1 else _)=y1
      rw [if_pos hc.symm]
     rw [hn];have hu1:uni 3 ((St j).set j [a,((j+1:Nat):Int),c]):=aVt (huS j) rfl;have g5:((St j).set j [a,((j+1:Nat):Int),c])[j]? = some [a,((j+1:Nat):Int),c]:=by
      rw [bHm (by rw [hlS j (by omega)];omega)]
     refine bBb (L:=St j) (L':=(St j).set j [a,y1,c]) (by exact_mod_cast hpl) (aO (by omega)) g1 (by omega) (by omega) (huS j) (by unfold inR;omega) g4 (by omega) hc (by rw [vA];omega) (by simp) ?_ rfl
     rw [aBj (huS j) g1,aBj hu1 g5,List.set_set]
    ·have hn:plN ((l.take j).foldl plS []) c=(j:Int)+1:=by
      unfold plN;rw [g3];show (if y2=c then y1 else _)=_
      rw [if_neg (fun h=>hc h.symm),hA]
     rw [hn];exact bBc (L:=St j) (L':=(St j).set j [a,((j+1:Nat):Int),c]) (by exact_mod_cast hpl) (aO (by omega)) g1 (by omega) (by omega) (huS j) (by unfold inR;omega) g4 (by omega) hc (by simp) (aBj (huS j) g1 _).symm rfl)
  (by
   have e:St l.length=jL l:=by
    show (l.take l.length).foldl plS []++l.drop l.length=_;rw [List.take_length,List.drop_length,List.append_nil];rfl
   rw [e];exact bBe (by rw [hp];omega)) (by simp)
 exact this
theorem aId:(fH dl oc dc sk).length≤sk.length:=by
 unfold fH;rw [eR];exact tR _ _
theorem aEw:(fR dl oc dc sk).length≤sk.length:=by
 unfold fR;rw [eR];exact tR _ _
theorem aIe:uni 3 (fH dl oc dc sk):=fun y hy=>by
 obtain ⟨s,_,rfl⟩:=kQ9.1 hy;rfl
theorem aEx:uni 3 (fR dl oc dc sk):=fun y hy=>by
 obtain ⟨s,_,rfl⟩:=kQ9.1 hy;rfl
theorem vN(f:Nat)(l:Lqq):(isort (ltK f) l).length=l.length:=xC _ _
theorem bFv{k f:Nat}{l:Lqq}(h:uni k l):uni k (isort (ltK f) l):=fun y hy=>h y ((tK _ _ y).1 hy)
theorem aEy(l:Lqq):(jL l).length=l.length:=by unfold jL;rw [aXf];simp
theorem aUx(l:Lqq):uni 3 (jL l):=aLd l [] fun z hz=>by cases hz
theorem kK:uni 3 (bL dl oc dc sk):=fun y hy=>by
 rcases jB.1 hy with hy | hy
 ·exact aUx _ y hy
 ·exact aEx y hy
theorem aOy{α:Type}(p:α→Bool):∀ l:List α,(l.filter fun x => !p x).length+(l.filter p).length=l.length
 | []=>rfl
 | x::l=>by
  have:=aOy p l;cases h:p x <;> simp [h] <;> omega
theorem pL:(bL dl oc dc sk).length=sk.length:=by
 unfold bL fH fR;rw [kT,aEy,vN,eR,eR];exact aOy _ sk
theorem cBj(hd:bZ dc)(hov:∀ n,tV ov n (oc.contains n))(hs:uni 2 sk)(hb:∀ x∈sk,skB x=true)(hl:sk.length<20){T:Lqb}(hT:cL dl oc dc T):∃ T',cL dl oc dc T'∧bUa dl sk dc ov (bL dl oc dc sk) T T':=by
 obtain ⟨acc,⟨h1,h2,h3⟩,h4⟩:=aH.ex (P:=Tp) (k:=7) (b:=sub (cd Tryz.f86) [1,1,0,1,0,0]) (e := .exit 0) (fun i (a:(Lqq × Lqq) × Lqb)=>kD dl sk dc ov a.1.1.length (a.1.1.flatten.map aB) a.1.2.length (a.1.2.flatten.map aB) i (aL a.2) a.2.length)
  (fun a=>kD dl sk dc ov a.1.1.length (a.1.1.flatten.map aB) a.1.2.length (a.1.2.flatten.map aB) sk.length (aL a.2) a.2.length)
  (fun i a=>cL dl oc dc a.2∧a.1.1=fH dl oc dc (sk.take i)∧a.1.2=fR dl oc dc (sk.take i)) (by simp) sk.length
  (fun i acc hi hI=>by
   obtain ⟨⟨p,q⟩,T1⟩:=acc;obtain ⟨h1,h2,h3⟩:=hI;dsimp only at h1 h2 h3
   have hm:=gS hi;obtain ⟨a,b,hy⟩:=len2 (hs _ hm);have hx:sk[i]? = some [a,b]:=by rw [kQ0 hi,hy]
   rw [hy] at hm
   have hr : -1≤b∧b≤360000:=by
    have:=hb _ hm;rw [bXm,kQ7] at this
    exact cH.1 this.2
   obtain ⟨T2,q1,q2⟩:=bJb (sk:=sk) hd hov a b hr h1;have hp:p.length≤20:=by rw [h2];have:=aId (dl:=dl) (oc:=oc) (dc:=dc) (sk:=sk.take i);rw [mY] at this;omega
   have hq:q.length≤20:=by rw [h3];have:=aEw (dl:=dl) (oc:=oc) (dc:=dc) (sk:=sk.take i);rw [mY] at this;omega
   have et:sk.take (i+1)=sk.take i++[[a,b]]:=by rw [List.take_add_one,hx];rfl
   rw [et];have e1:fH dl oc dc (sk.take i++[[a,b]])=p++if (cE dl oc dc a b).2 then [] else [[a,0,(cE dl oc dc a b).1]]:=by
    rw [h2];unfold fH;rw [lR,gJ]
    congr 1
    show (List.filter _ [[a,b]]).map _=_;cases hq:(cE dl oc dc a b).2 <;> simp [hq]
   have e2:fR dl oc dc (sk.take i++[[a,b]])=q++if (cE dl oc dc a b).2 then [[a,-1,0]] else []:=by
    rw [h3];unfold fR;rw [lR,gJ]
    congr 1
    show (List.filter _ [[a,b]]).map _=_;cases hq:(cE dl oc dc a b).2 <;> simp [hq]
   rw [e1,e2];cases hc:(cE dl oc dc a b).2 with
   | true =>
    rw [hc] at q2
    exact ⟨((p,q++[[a,-1,0]]),T2),⟨q1,by simp,by simp⟩,bAy (q:=q) (q':=q++[[a,-1,0]]) (by omega) hx hs q2 rfl ⟨rfl,by omega⟩ (aO (by omega)) (by simp) (by simp) rfl rfl rfl⟩
   | false =>
    rw [hc] at q2
    exact ⟨((p++[[a,0,(cE dl oc dc a b).1]],q),T2),⟨q1,by simp,by simp⟩,bAz (p:=p) (p':=p++[[a,0,(cE dl oc dc a b).1]]) (by omega) hx hs q2 rfl ⟨rfl,by omega⟩ (aO (by omega)) (by simp) (by simp) rfl rfl rfl⟩)
  (fun acc hI=>bBa (by omega)) (acc:=(([],[]),T)) ⟨hT,by simp [fH],by simp [fR]⟩
 obtain ⟨⟨p,q⟩,T1⟩:=acc;dsimp only at h1 h2 h3 h4
 rw [List.take_length] at h2 h3
 subst h2 h3;have hp:=aId (dl:=dl) (oc:=oc) (dc:=dc) (sk:=sk);have hq:=aEw (dl:=dl) (oc:=oc) (dc:=dc) (sk:=sk);have hP:=aUw (dl:=dl) (sk:=sk) (dc:=dc) (ov:=ov) (isort (ltK 2) (fH dl oc dc sk)) (bFv aIe) (by rw [vN];omega) (fH dl oc dc sk) (fR dl oc dc sk) rfl T1
 refine ⟨T1,h1,bUb (r0n:=(bL dl oc dc sk).length) (r0c:=(bL dl oc dc sk).flatten.map aB) h4 aIe (by omega) hP ⟨wX aEx,by rw [aEy,vN];omega⟩ ?_ ?_⟩
 ·unfold bL;rw [kT]
 ·unfold bL;rw [bHo,gJ]
end
theorem aXg{dl:Int}{sk dc:Lqq}(h:bG dl sk dc):∀ x∈aA sk,skB x=true:=fun x hx=>h.hsk x ((fG sk).mem_iff.1 hx)
theorem bLu{dl:Int}{sk dc:Lqq}(h:bG dl sk dc)(hl:sk.length<20){base:Nat}:FV Tp 28 [.p (.agg (cR dl sk dc))] base (.tup [.own base,.p (aB 0)]) [(base,.row 48 (bL dl [] (aA dc) (aA sk)).length ((bL dl [] (aA dc) (aA sk)).flatten.map aB))]:=by
 obtain ⟨T',h1,h2⟩:=cBj (dl:=dl) (sk:=aA sk) (eA h) aJz (mT h.us) (aXg h) (by rw [cQ];exact hl) cL.nil
 exact bUc h h2
theorem bFw{dl:Int}{dc:Lqq}(hd:bZ dc):(aN dl dc).length≤1000:=by
 unfold aN;rw [eR];have:=tR (qV dl dc) dc;have:=hd.len;omega
def sP(u:List Int):Bool:=(List.range u.length).all fun i=>i == 0 || decide (u.getD (i-1) 0<u.getD i 0)
theorem bLv{dl:Int}{sk dc:Lqq}(u:List Int)(hl:u.length≤1000):(sP u=true∧∃ i,aH Tp 0 (sub (cd Tryz.f21) [1,1,1,1,1,0,1,0,0]) (iQ dl sk dc u 1) (.exit 0) (iQ dl sk dc u i)) ∨
  (sP u=false∧∃ i,aH Tp 0 (sub (cd Tryz.f21) [1,1,1,1,1,0,1,0,0]) (iQ dl sk dc u 1) .ret (dI (iQ dl sk dc u i) [(4,.p dR),(5,.p (aB 4))])):=by
 rcases Nat.lt_or_ge u.length 2 with h2 | h2
 ·refine .inl ⟨?_,1,.exit (aHn (by omega)) (by simp)⟩
  unfold sP;rw [gA];intro i hi;have:=lH.1 hi;have:i=0:=by omega
  subst this;rfl
 ·have hget:∀ i,i<u.length→u[i]? = some (u.getD i 0):=fun i hi=>by rw [kQ4,kQ0 hi];rfl
  have key:∀ d i,i+d=u.length→1≤i→(∀ j,j<i→(j == 0 || decide (u.getD (j-1) 0<u.getD j 0))=true) →
   (sP u=true∧∃ k,aH Tp 0 (sub (cd Tryz.f21) [1,1,1,1,1,0,1,0,0]) (iQ dl sk dc u (i:Int)) (.exit 0) (iQ dl sk dc u k)) ∨
   (sP u=false∧∃ k,aH Tp 0 (sub (cd Tryz.f21) [1,1,1,1,1,0,1,0,0]) (iQ dl sk dc u (i:Int)) .ret (dI (iQ dl sk dc u k) [(4,.p dR),(5,.p (aB 4))])):=by
   intro d
   induction d with
   | zero =>
    intro i hi h1 hj;refine .inl ⟨?_,_,.exit (aHn (by omega)) (by simp)⟩
    unfold sP;rw [gA];intro j hjr;exact hj j (by have:=lH.1 hjr;omega)
   | succ d ih =>
    intro i hi h1 hj;have g1:u[((i:Nat):Int).toNat]? = some (u.getD i 0):=by rw [bHq];exact hget i (by omega)
    have g2:u[((i:Int)-1).toNat]? = some (u.getD (i-1) 0):=by rw [show ((i:Int)-1).toNat=i-1 by omega];exact hget (i-1) (by omega)
    by_cases hc:u.getD (i-1) 0<u.getD i 0
    ·have hst:=bBg (dl:=dl) (sk:=sk) (dc:=dc) (i:=(i:Int)) (i':=((i+1:Nat):Int)) (by omega) g1 (by omega) (by unfold inR;omega) g2 (by omega) hc (by unfold inR;omega) (by omega)
     rcases ih (i+1) (by omega) (by omega) (fun j hj2=>by
      rcases Nat.lt_or_ge j i with h3 | h3
      ·exact hj j h3
      ·obtain rfl:j=i:=by omega
       rw [decide_eq_true hc,Bool.or_true]) with ⟨q1,k,q2⟩ | ⟨q1,k,q2⟩
     ·exact .inl ⟨q1,k,.step hst q2⟩
     ·exact .inr ⟨q1,k,.step hst q2⟩
    ·refine .inr ⟨?_,_,.exit (bBf (i:=(i:Int)) (by omega) g1 (by omega) (by unfold inR;omega) g2 (by omega) (by omega)) (by simp)⟩
     cases hr:sP u with
     | false=>rfl
     | true =>
      unfold sP at hr
      have:=gA.1 hr i (lH.2 (by omega))
      rw [show (i == 0)=false by simp;omega,Bool.false_or] at this
      exact absurd (of_decide_eq_true this) hc
  have:=key (u.length-1) 1 (by omega) (by omega) (fun j hj=>by
   have:j=0:=by omega
   subst this;rfl)
  exact this
def aAs(dl:Int)(dc:Lqq)(u:List Int):Int:=if u.all (ocB (aN dl dc)) then (if sP u then 0 else 4) else 1
theorem aEz{dl:Int}{sk dc:Lqq}(h:bG dl sk dc)(hl:sk.length<20)(u:List Int)(hu:u.length≤1000)(he:aAs dl (aA dc) u=0){base:Nat}:FV Tp 21 [.p (.agg (cR dl sk dc)),.p (aF u)] base (.tup [.own base,.p (aB 0)]) [(base,.row 48 (bL dl u (aA dc) (aA sk)).length ((bL dl u (aA dc) (aA sk)).flatten.map aB))]:=by
 have hd:=eA h;unfold aAs at he
 cases ha:u.all (ocB (aN dl (aA dc))) with
 | false=>rw [ha] at he;simp at he
 | true =>
  rw [ha,if_pos rfl] at he
  rcases bLv (dl:=dl) (sk:=sk) (dc:=dc) u hu with ⟨q1,i,q2⟩ | ⟨q1,i,q2⟩
  ·obtain ⟨T',h1,h2⟩:=cBj (dl:=dl) (sk:=aA sk) hd (aDw hu) (mT h.us) (aXg h) (by rw [cQ];exact hl) cL.nil
   exact bUh h hd hu (fun _ _=>bFw hd) ha q2 h2
  ·rw [q1] at he;simp at he
end
end KV
end Go.Proofs
section
namespace Go.Proofs
namespace KL
def aUo(x:Int):List Int→List Int
 | []=>[x]
 | y::r=>if x≤y then x::y::r else y::aUo x r
def sortI:List Int→List Int
 | []=>[]
 | x::r=>aUo x (sortI r)
theorem yV(x:Int):∀ l,(aUo x l).Perm (x::l)
 | [] => .refl _
 | y::r=>by
  unfold aUo
  split
  ·exact .refl _
  ·exact ((yV x r).cons y).trans (List.Perm.swap x y r)
theorem aEr:∀ l,(sortI l).Perm l
 | [] => .refl _
 | x::r=>(yV x _).trans ((aEr r).cons x)
theorem aAb(x:Int):∀ l,l.Pairwise (· ≤ ·)→(aUo x l).Pairwise (· ≤ ·)
 | [],_=>by simp [aUo]
 | y::r,h=>by
  obtain ⟨h1,h2⟩:=List.pairwise_cons.1 h;unfold aUo
  split
  ·rename_i hx
   exact List.pairwise_cons.2 ⟨fun z hz=>by
    rcases List.mem_cons.1 hz with rfl | hz
    ·exact hx
    ·have:=h1 z hz;omega,h⟩
  ·rename_i hx
   refine List.pairwise_cons.2 ⟨fun z hz => ?_,aAb x r h2⟩
   rcases List.mem_cons.1 ((yV x r).mem_iff.1 hz) with rfl | hz
   ·omega
   ·exact h1 z hz
theorem xD:∀ l,(sortI l).Pairwise (· ≤ ·)
 | [] => .nil
 | x::r=>aAb x _ (xD r)
theorem aIc:∀ (a b:List Int),a.Perm b→a.Pairwise (· ≤ ·)→b.Pairwise (· ≤ ·)→a=b
 | [],b,h,_,_=>(List.nil_perm.1 h).symm
 | x::r,[],h,_,_=>absurd h.length_eq (by simp)
 | x::r,y::t,h,ha,hb=>by
  obtain ⟨h1,h2⟩:=List.pairwise_cons.1 ha;obtain ⟨h3,h4⟩:=List.pairwise_cons.1 hb;have e:x=y:=by
   have m1:x∈y::t:=h.mem_iff.1 (List.mem_cons_self ..);have m2:y∈x::r:=h.mem_iff.2 (List.mem_cons_self ..)
   rcases List.mem_cons.1 m1 with e | m1
   ·exact e
   ·rcases List.mem_cons.1 m2 with e | m2
    ·exact e.symm
    ·have:=h1 y m2;have:=h3 x m1;omega
  subst e;rw [aIc r t (List.Perm.cons_inv h) h2 h4]
theorem mergeSort_eq(l:List Int):l.mergeSort leB=sortI l:=by
 refine aIc _ _ ((List.mergeSort_perm _ _).trans (aEr l).symm) ?_ (xD l);have:=List.pairwise_mergeSort (le:=leB) (fun a b c h1 h2=>by simp only [leB,decide_eq_true_eq] at *;omega) (fun a b=>by simp only [leB,Bool.or_eq_true,decide_eq_true_eq];omega) l
 exact this.imp (fun h=>by simpa [leB] using h)
end KL
namespace KV
abbrev sk3:List (List Int):=[[1,15000],[2,15100],[3,15200]]
abbrev dc2:List (List Int):=[[1,0,0,1,300,0],[2,7,10,0,0,1]]
abbrev dc3:List (List Int):=[[1,0,0,1,300,0],[2,7,10,0,0,1],[3,9,40,0,0,2]]
abbrev dc4:List (List Int):=[[1,0,0,1,300,0],[2,7,10,0,0,1],[3,9,40,0,0,2],[4,5,50,0,0,3]]
abbrev dc5:List (List Int):=[[1,0,0,1,300,0],[2,7,10,0,0,1],[3,9,40,0,0,2],[4,5,50,0,0,3],[5,6,60,0,100,1]]
theorem sM{l:List (List Int)}(h:l.Pairwise fun a b=>a.getD 0 0≤b.getD 0 0):aA l=l:=List.mergeSort_of_pairwise (h.imp fun h=>decide_eq_true h)
theorem aFz:aA sk3=sk3:=sM (by decide)
theorem srt2:aA dc2=dc2:=sM (by decide)
theorem srt3:aA dc3=dc3:=sM (by decide)
theorem srt4:aA dc4=dc4:=sM (by decide)
theorem srt5:aA dc5=dc5:=sM (by decide)
theorem rec2:bG 30 sk3 dc2:=⟨by unfold uni;decide,by unfold uni;decide,by decide,by decide,by decide,by decide,by decide,by decide,by decide,by decide,by decide⟩
theorem rec3:bG 30 sk3 dc3:=⟨by unfold uni;decide,by unfold uni;decide,by decide,by decide,by decide,by decide,by decide,by decide,by decide,by decide,by decide⟩
theorem rec4:bG 30 sk3 dc4:=⟨by unfold uni;decide,by unfold uni;decide,by decide,by decide,by decide,by decide,by decide,by decide,by decide,by decide,by decide⟩
theorem rec5:bG 30 sk3 dc5:=⟨by unfold uni;decide,by unfold uni;decide,by decide,by decide,by decide,by decide,by decide,by decide,by decide,by decide,by decide⟩
def bRp(al:List eM)(s:Nat)(c:List aS):List Int:=Lib.compact (KL.sortI (c.flatMap (chL al s)))
theorem aXc(al:List eM)(s:Nat)(c:List aS):cU al s c=bRp al s c:=by unfold cU bRp;rw [KL.mergeSort_eq]
def bLl(dl:Int)(sk dc:List (List Int))(f:Int)(i:Nat):Bool:=match (aE dl sk dc)[i]? with
 | some h=>aFw (bRp (aE dl sk dc) i h.1) (h.1.any fun x=>x.2.1) (h.1.any fun x => !x.2.1) f
 | none=>false
theorem bLm(dl:Int)(sk dc:List (List Int))(f:Int):uJ dl sk dc f=bLl dl sk dc f:=by
 funext i
 unfold uJ bLl
 split
 ·rename_i h e
  first | rw [e] | skip
  simp only [aXc]
 ·rename_i e
  first | rw [e] | rfl
theorem h28(base:Nat):FV Tryz.prog 28 [.p (.agg (cR 30 sk3 dc2))] base (.tup [.own base,.p (aB 0)]) [(base,.row 48 3 ([[2,1,15100],[3,2,15200],[1,3,15300]].flatten.map aB))]:=by
 have:=bLu rec2 (by decide) (base:=base)
 rw [aFz,srt2,show bL 30 [] dc2 sk3=[[2,1,15100],[3,2,15200],[1,3,15300]] from by decide +kernel] at this
 exact this
theorem h21(base:Nat):FV Tryz.prog 21 [.p (.agg (cR 30 sk3 dc2)),.p (aF [2])] base (.tup [.own base,.p (aB 0)]) [(base,.row 48 3 ([[1,1,15000],[2,2,15100],[3,3,15200]].flatten.map aB))]:=by
 have:=aEz rec2 (by decide) [2] (by decide) (by rw [srt2];decide +kernel) (base:=base)
 rw [aFz,srt2,show bL 30 [2] dc2 sk3=[[1,1,15000],[2,2,15100],[3,3,15200]] from by decide +kernel] at this
 exact this
theorem open2:aN 30 dc2=[2]:=by decide +kernel
theorem h71(base:Nat):FV Tryz.prog 71 [.p (.agg (cR 30 sk3 dc2)),.p (aB 1)] base (.tup [.p (aF [1,3]),.p (blP false),.p (aB 0)]) []:=by
 have:=bKz rec2 (bib:=1) (i:=0) (s0:=1) (s1:=15000) (by rw [aFz];decide +kernel) (by rw [aFz];rfl) (by rw [srt2,open2];decide) (base:=base)
 rw [aFz,srt2,aXc,show bRp (aE 30 sk3 dc2) 0 (gM 30 dc2 1 15000 (jK 30 dc2 1)).1=[1,3] from by decide +kernel,show ((gM 30 dc2 1 15000 (jK 30 dc2 1)).1.any fun x=>x.2.1)=false from by decide +kernel] at this
 exact this
theorem h33(base:Nat):FV Tryz.prog 33 [.p (.agg (cR 30 sk3 dc2)),.p (aB 2)] base (.tup [.p (aF [2]),.p (aB 0)]) []:=by
 have:=bLa rec2 (f:=2) (by decide) (by rw [srt2,open2];decide) (base:=base)
 have e:nE 30 sk3 dc2 2=[2]:=by
  unfold nE;rw [bLm];decide +kernel
 rw [aFz,srt2,e] at this
 exact this
theorem h19a(base:Nat):FV Tryz.prog 19 [.p (.agg (cR 30 sk3 dc3))] base (.tup [.p (aF []),.p (aB 0)]) []:=by
 have:=sA rec3 (base:=base);rw [srt3,show aN 30 dc3=[] from by decide +kernel] at this
 exact this
theorem h19b(base:Nat):FV Tryz.prog 19 [.p (.agg (cR 30 sk3 dc4))] base (.tup [.p (aF [2]),.p (aB 0)]) []:=by
 have:=sA rec4 (base:=base);rw [srt4,show aN 30 dc4=[2] from by decide +kernel] at this
 exact this
theorem h61(base:Nat):FV Tryz.prog 61 [.p (.agg (cR 30 sk3 dc5)),.p (aB 1)] base (.tup [.p (aB 15100),.p (blP false),.p (aB 0)]) []:=by
 obtain ⟨T',_,hT⟩:=bJb (dl:=30) (sk:=aA sk3) (dc:=aA dc5) (eA rec5) aJz 1 15000 (by decide) (T:=[]) cL.nil
 have:=bYl rec5 (bib:=1) (i0:=0) (s1:=1) (s2:=15000) (by rw [aFz];decide +kernel) (by rw [aFz];rfl) hT (base:=base)
 rw [srt5,show cE 30 [] dc5 1 15000=(15100,false) from by decide +kernel] at this
 exact this
theorem h58(base:Nat):FV Tryz.prog 58 [.p (.agg (cR 30 sk3 dc2)),.p (aB 2)] base (.tup [.p (blP true),.p (aB 0)]) []:=by
 have:=bZs rec2 2 (base:=base);have hB:∀ r6,aGa 30 sk3 dc2 2 r6=fun x => !(((cE 30 x dc2 ((sk3.getD (bK (fun x=>decide (r6=x)) (aP sk3 0)).toNat []).getD 0 0) ((sk3.getD (bK (fun x=>decide (r6=x)) (aP sk3 0)).toNat []).getD 1 0)).1 == (cE 30 (x++[2]) dc2 ((sk3.getD (bK (fun x=>decide (r6=x)) (aP sk3 0)).toNat []).getD 0 0) ((sk3.getD (bK (fun x=>decide (r6=x)) (aP sk3 0)).toNat []).getD 1 0)).1) && ((cE 30 x dc2 ((sk3.getD (bK (fun x=>decide (r6=x)) (aP sk3 0)).toNat []).getD 0 0) ((sk3.getD (bK (fun x=>decide (r6=x)) (aP sk3 0)).toNat []).getD 1 0)).2 == (cE 30 (x++[2]) dc2 ((sk3.getD (bK (fun x=>decide (r6=x)) (aP sk3 0)).toNat []).getD 0 0) ((sk3.getD (bK (fun x=>decide (r6=x)) (aP sk3 0)).toNat []).getD 1 0)).2)):=fun r6=>by
  funext x
  unfold aGa kJ;rw [aFz,srt2]
 have e:bLp 30 sk3 dc2 2=(true,0):=by
  unfold bLp;rw [aFz,srt2,hB];decide +kernel
 rw [e] at this
 exact this
theorem bLn{base:Nat}:FV Tryz.prog 26 [] base (.p (blP true)) [] :=
 bZr h28 h21 h71 h33 (fun base=>by
  have:=bYp [[2,1,15100],[3,2,15200],[1,3,15300]] [[2,1,15100],[3,2,15200],[1,3,15300]] (by unfold uni;decide) (by unfold uni;decide) (by decide) (base:=base)
  rw [decide_eq_true rfl] at this
  exact this) ⟨rfl,rfl⟩ (by decide) (fun base=>by
  have:=bKy [1,3] [1,3] (by decide) (base:=base)
  rw [decide_eq_true rfl] at this
  exact this) (fun base=>by
  have:=bKy [2] [2] (by decide) (base:=base)
  rw [decide_eq_true rfl] at this
  exact this) h19a h19b h61 h58
end KV
end Go.Proofs
end
namespace Go.Proofs
namespace KV
section

abbrev RS:=Bool × Bool × Bool × Bool × Int × Int × Int
end
section
end
section
section
variable {dl:Int} {sk dc:Lqq} {q:List Int} {i:Int} {L:List RS} {y100 y101 y102 y103 y104 y105:Int}
end
end
section
end
section
section
variable {dl:Int} {sk dc:Lqq} {q:List Int}
end
end
section

end
section

theorem kI(l:List Int)(v:Int)(hl:l.length≤1000){base:Nat}:FV Tp 52 [.p (aF l),.p (aB v)] base (.p (blP (l.contains v))) []:=oG l v hl
end
section

end
section
section
variable {dl:Int} {sk dc:Lqq}
end
end
section

end
section
variable {a b r0:Bool}{y100 y101 y102 mn103 mx104:Int}{c l:Lqq}{o su:List Int}{i j i' j' i'0 base:Nat}
variable {dl:Int}{sk dc:Lqq}

noncomputable abbrev aDm:Code:=sub (cd Tryz.f93) [1,1,1,1,1,1,1,0,1,0,0]
noncomputable abbrev aDn:Code:=sub (cd Tryz.f162) [1,0,1,0,0]
noncomputable abbrev aDo:Code:=sub (cd Tryz.f97) [1,1,1,0,1,0,0]
theorem bIi:((0:Int) != (0:Int))=false:=by first | decide | simp
theorem bTm{l:List Int}(h0:(b == a)=false)(er0:r0=(decide ((l.length:Int)<2))):FV Tp 96 [(.p (aF l)),(pB a),(pB b)] base (pB r0) []:=by
 subst er0;exact FV.fi Tryz.func96 [bT,bT,bT,bT] (g4c (bI h0) gn)
theorem bTn{l:List Int}(h0:(b == a)=true):FV Tp 96 [(.p (aF l)),(pB a),(pB b)] base (pB false) []:=by
 exact FV.fi Tryz.func96 [bF,bF,bF,bF] (g4c (aI h0) gn)
def aDp(l:List Int)(a b:Bool):Bool:=(!(b == a)) && decide ((l.length:Int)<2)
theorem bIj(l:List Int)(a b:Bool){base:Nat}:FV Tp 96 [.p (aF l),.p (blP a),.p (blP b)] base (pB (aDp l a b)) []:=by
 unfold aDp;cases h:(b == a) with
 | false=>exact bTm h rfl
 | true=>exact bTn h
def lT(dl:Int)(sk:Lqq)(dc:Lqq)(on:Nat)(oc:List PV)(i:Nat):St:=⟨fr 58 [(2,(.fn 96 [] [])),(6,(.p dR)),(7,(pI 0)),(10,(.p (.sl ((aE dl (aA sk) (aA dc)).length) (((aE dl (aA sk) (aA dc)).map hpE).flatten)))),(11,(.own 0)),(36,(.p (.sl ((aA sk).length) ((aA sk).flatten.map aB)))),(37,(pI (((aA sk).length:Nat):Int))),(38,(pI (i:Int)))],[some (.row 3 on oc)]⟩
theorem bTo{fi:Int}{o'0:List Int}{i'1:Nat}(h0:bG dl sk dc)(h1:(1:Int)≤fi)(h2:(aN dl (aA dc)).length≤8)(hl3:aH Tp 0 aDm (lT dl sk dc 0 [] 0) (.exit 0) (lT dl sk dc o'0.length (o'0.map aB) i'1)):FV Tp 93 [(.p (.agg (cR dl sk dc))),(pI fi),(.fn 96 [] [])] base (.tup [(.p (aF o'0)),(pI 0)]) []:=by
 have k1:=fk 1 (jF dl sk dc h0) rfl;have k2:=fk 1 (aBi h0 h2) rfl;exact FV.frz (FMM.fi 0 ⟨[],[],[0],[]⟩ Tryz.func93 [k1.o,bF,bF,k2.o,bF,.g 1 ⟨[],[0],[1],[]⟩,.x (.sl ((aA sk).length) ((aA sk).flatten.map aB)),hl3.k 1 ⟨(rng [(0,2),(3,3),(8,2),(12,24),(39,18)]),[1],[],[(11,3)]⟩] (gc hl3.code (gr (.sl ((aA sk).length) ((aA sk).flatten.map aB)) (gc bIi (gc k2 (gc (bA h1) (gc bIi (gc k1 gn)))))))) (by kernel_rfl)
theorem bAg{c102:List aS}{o':List Int}(h0:(i:Int)<(((aA sk).length:Nat):Int))(h1:(aA sk)[i]? = some [y100,y101])(h2:uni 2 (aA sk))(h3:(aE dl (aA sk) (aA dc))[i]? = some (c102,mn103,mx104))(h4:(aE dl (aA sk) (aA dc)).length≤1000)(h5:c102.length≤256)(h6:(aDp (cU (aE dl (aA sk) (aA dc)) i c102) (c102.any fun x=>x.2.1) (c102.any fun x => !x.2.1))=true)(h7:[(aB y100)].length=1*1∧o.length+1≤1000000)(h8:inR (((i+1):Nat):Int))(eo'n:o'.length=(o.length+1))(eo'c:o'.map aB=((o.map aB)++[(aB y100)]))(ei':i'=(i+1)):aC Tp 0 aDm (lT dl sk dc o.length (o.map aB) i) .normal (lT dl sk dc o'.length (o'.map aB) i'):=by
 subst ei';have k1:=fk 2 (vM h4 h3 h5) rfl;have k2:=fk 2 (bIj (cU (aE dl (aA sk) (aA dc)) i c102) (c102.any fun x=>x.2.1) (c102.any fun x => !x.2.1)) rfl;have raw:aC Tp 0 aDm (lT dl sk dc o.length (o.map aB) i) .normal (lT dl sk dc (o.length+1) ((o.map aB)++[(aB y100)]) (i+1)):=aC.fi ⟨(rng [(0,2),(3,3),(8,2),(12,24),(39,18)]),[3],[],[]⟩ [bT,.x (.agg [(aB y100),(aB y101)]),k1.o,k2.o,bT] (gc h8 (gc h7 (gc h6 (gc k2 (gc k1 (gc (aT (i:=i) h2 h1) (gc (bH (i:=i) h2 h1) (gc (bR (k:=2) (i:=(i:Int)) (by decide) h2 (kQ1 _) h1) (gc (aV h0) gn)))))))))
 exact raw.cast (by rw [eo'n,eo'c])
theorem bAh{c102:List aS}(h0:(i:Int)<(((aA sk).length:Nat):Int))(h1:(aA sk)[i]? = some [y100,y101])(h2:uni 2 (aA sk))(h3:(aE dl (aA sk) (aA dc))[i]? = some (c102,mn103,mx104))(h4:(aE dl (aA sk) (aA dc)).length≤1000)(h5:c102.length≤256)(h6:(aDp (cU (aE dl (aA sk) (aA dc)) i c102) (c102.any fun x=>x.2.1) (c102.any fun x => !x.2.1))=false)(h7:inR (((i+1):Nat):Int))(ei':i'=(i+1)):aC Tp 0 aDm (lT dl sk dc o.length (o.map aB) i) .normal (lT dl sk dc o.length (o.map aB) i'):=by
 subst ei';have k1:=fk 2 (vM h4 h3 h5) rfl;have k2:=fk 2 (bIj (cU (aE dl (aA sk) (aA dc)) i c102) (c102.any fun x=>x.2.1) (c102.any fun x => !x.2.1)) rfl;exact aC.fi ⟨(rng [(0,2),(3,3),(8,2),(12,24),(39,18)]),[0],[],[]⟩ [bT,.x (.agg [(aB y100),(aB y101)]),k1.o,k2.o,bF] (gc h7 (gc h6 (gc k2 (gc k1 (gc (aT (i:=i) h2 h1) (gc (bH (i:=i) h2 h1) (gc (bR (k:=2) (i:=(i:Int)) (by decide) h2 (kQ1 _) h1) (gc (aV h0) gn))))))))
theorem bAi(h0:(((aA sk).length:Nat):Int)≤(i:Int)):aC Tp 0 aDm (lT dl sk dc o.length (o.map aB) i) (.exit 0) (lT dl sk dc o.length (o.map aB) i):=by
 exact aC.fi ⟨(rng [(0,2),(3,3),(8,2),(12,24),(39,18)]),[0],[],[]⟩ [bF] (gc (bA h0) gn)
theorem bTp{a b c:Int}(h0:su.length≤1000)(er0:r0=(!(su.contains a))):FV Tp 98 [(.p (.agg [(aB a),(aB b),(aB c)])),(.rp [(aF su)] 0)] base (pB r0) []:=by
 subst er0;have k1:=fk 1 (kI su a h0) rfl;exact FV.fi Tryz.func98 [.x (aF su),k1.o] (gc k1 (gr (aF su) gn))
theorem aJp(a b c:Int)(su:List Int)(h:su.length≤1000){base:Nat}:FV Tp 98 [.p (.agg [aB a,aB b,aB c]),.rp [aF su] 0] base (pB (!(su.contains a))) []:=bTp h rfl
def iC(l:Lqq)(su:List Int)(i:Nat):St:=⟨fr 19 [(0,(.own 0)),(1,(.fn 98 [] [(.rp [(aF su)] 0)])),(7,(pI (l.length:Int))),(8,(pI (i:Int)))],[some (.row 48 l.length (l.flatten.map aB))]⟩
theorem bNj(hl0:aH Tp 1 aDn (iC l su 0) (.exit 0) (iC l su i'0)):FMM Tp 162 [(.own 0),(.fn 98 [] [(.rp [(aF su)] 0)])] [some (.row 48 l.length (l.flatten.map aB))] (pI (-1:Int)) [some (.row 48 l.length (l.flatten.map aB))]:=by
 exact FMM.fi 1 ⟨[],[],[],[]⟩ Tryz.func162 [hl0.k 6 ⟨(rng [(2,5),(9,10)]),[],[],[]⟩] (gc hl0.code gn)
theorem bNk(hl0:aH Tp 1 aDn (iC l su 0) .ret (dI (iC l su i'0) [(4,(pI (i'0:Int)))])):FMM Tp 162 [(.own 0),(.fn 98 [] [(.rp [(aF su)] 0)])] [some (.row 48 l.length (l.flatten.map aB))] (pI (i'0:Int)) [some (.row 48 l.length (l.flatten.map aB))]:=by
 exact FMM.fi 1 ⟨[],[],[],[]⟩ Tryz.func162 [hl0.k 6 ⟨(rng [(2,5),(9,10)]),[],[],[]⟩] (gc hl0.code gn)
theorem aRo(h0:(i:Int)<(l.length:Int))(h1:l[i]? = some [y100,y101,y102])(h2:uni 3 l)(h3:su.length≤1000)(h4:(!(su.contains y100))=true):aC Tp 1 aDn (iC l su i) .ret (dI (iC l su i) [(4,(pI (i:Int)))]):=by
 have k1:=fk 1 (aJp y100 y101 y102 su h3) rfl;exact aC.fi ⟨(rng [(2,2),(5,2),(9,10)]),[],[],[]⟩ [bT,.x (.agg [(aB y100),(aB y101),(aB y102)]),k1.o,bT] (gc h4 (gc k1 (gc (aT (i:=i) h2 h1) (gc (bH (i:=i) h2 h1) (gc (cT (i:=(i:Int)) (kQ1 _) h1) (gc (aV h0) gn))))))
theorem aRp(h0:(i:Int)<(l.length:Int))(h1:l[i]? = some [y100,y101,y102])(h2:uni 3 l)(h3:su.length≤1000)(h4:(!(su.contains y100))=false)(h5:inR (((i+1):Nat):Int))(ei':i'=(i+1)):aC Tp 1 aDn (iC l su i) .normal (iC l su i'):=by
 subst ei';have k1:=fk 1 (aJp y100 y101 y102 su h3) rfl;exact aC.fi ⟨(rng [(2,5),(9,10)]),[],[],[]⟩ [bT,.x (.agg [(aB y100),(aB y101),(aB y102)]),k1.o,bF] (gc h5 (gc h4 (gc k1 (gc (aT (i:=i) h2 h1) (gc (bH (i:=i) h2 h1) (gc (cT (i:=(i:Int)) (kQ1 _) h1) (gc (aV h0) gn)))))))
theorem aRq(h0:(l.length:Int)≤(i:Int)):aC Tp 1 aDn (iC l su i) (.exit 0) (iC l su i):=by
 exact aC.fi ⟨(rng [(2,5),(9,10)]),[],[],[]⟩ [bF] (gc (bA h0) gn)
abbrev bNl(l:Lqq)(su:List Int)(i:Int):Prop:=FMM Tp 162 [.own 0,(.fn 98 [] [(.rp [(aF su)] 0)])] [some (.row 48 l.length (l.flatten.map aB))] (pI i) [some (.row 48 l.length (l.flatten.map aB))]
def lU(su:List Int)(cn:Nat)(cc:List PV)(i:Nat)(j:Nat):St:=⟨fr 42 [(0,(.own 0)),(1,(.fn 98 [] [(.rp [(aF su)] 0)])),(4,(.p dR)),(5,(pI (i:Int))),(6,(pI (j:Int)))],[some (.row 48 cn cc)]⟩
theorem bTq{i0:Nat}{c'1:Lqq}{i'2 j'3:Nat}{r0c:List PV}(h0:bNl l su (i0:Int))(h1:(i0:Int)≠(-1:Int))(h2:inR (((i0+1):Nat):Int))(hl3:aH Tp 1 aDo (lU su l.length (l.flatten.map aB) i0 (i0+1)) (.exit 0) (lU su c'1.length (c'1.flatten.map aB) i'2 j'3))(h4:0≤(i'2:Int)∧(i'2:Int)≤(c'1.length:Int)∧(c'1.length:Int)≤(c'1.length:Int))(h5:(i'2*3)+(c'1.length-i'2)*3≤(c'1.flatten.map aB).length)(h6:0≤(0:Int)∧(0:Int)≤(i'2:Int)∧(i'2:Int)≤(c'1.length:Int))(er0c:r0c=((((c'1.flatten.map aB).take (i'2*3)++(List.replicate (c'1.length-i'2) (List.map PV.v [(.int .i64 0),(.int .i64 0),(.int .i64 0)])).flatten++(c'1.flatten.map aB).drop ((i'2*3)+(c'1.length-i'2)*3)).drop 0).take (i'2*(((c'1.flatten.map aB).take (i'2*3)++(List.replicate (c'1.length-i'2) (List.map PV.v [(.int .i64 0),(.int .i64 0),(.int .i64 0)])).flatten++(c'1.flatten.map aB).drop ((i'2*3)+(c'1.length-i'2)*3)).length / c'1.length)))):FMM Tp 97 [(.own 0),(.fn 98 [] [(.rp [(aF su)] 0)])] [some (.row 48 l.length (l.flatten.map aB))] (.p (.sl i'2 r0c)) [some .dead]:=by
 subst er0c;have k1:=mq [0] 1 h0;exact FMM.fi 1 ⟨[],[],[0],[]⟩ Tryz.func97 [k1.o,bF,hl3.k 4 ⟨(rng [(2,2),(7,29)]),[],[],[]⟩] (gc h6 (gc h5 (gc h4 (gc hl3.code (gc h2 (gc (bJ h1) (gc k1 gn)))))))
theorem bTr(h0:bNl l su (-1:Int)):FMM Tp 97 [(.own 0),(.fn 98 [] [(.rp [(aF su)] 0)])] [some (.row 48 l.length (l.flatten.map aB))] (.p (fS l)) [some .dead]:=by
 have k1:=mq [0] 1 h0;exact FMM.fi 1 ⟨[],[],[0],[]⟩ Tryz.func97 [k1.o,bT] (gt (((-1:Int) == (-1:Int))=true) (by first | decide | simp) (gc k1 gn))
theorem bAj{y103 y104 y105:Int}{c':Lqq}(h0:(j:Int)<(c.length:Int))(h1:c[j]? = some [y100,y101,y102])(h2:uni 3 c)(h3:su.length≤1000)(h4:(!(su.contains y100))=false)(h5:c[i]? = some [y103,y104,y105])(h6:[(aB y100),(aB y101),(aB y102)].length=3∧(i*3)+3≤(c.flatten.map aB).length)(h7:inR (((i+1):Nat):Int))(h8:inR (((j+1):Nat):Int))(ec'n:c'.length=c.length)(ec'c:c'.flatten.map aB=((c.flatten.map aB).take (i*3)++[(aB y100),(aB y101),(aB y102)]++(c.flatten.map aB).drop ((i*3)+3)))(ei':i'=(i+1))(ej':j'=(j+1)):aC Tp 1 aDo (lU su c.length (c.flatten.map aB) i j) .normal (lU su c'.length (c'.flatten.map aB) i' j'):=by
 subst ei' ej';have k1:=fk 2 (aJp y100 y101 y102 su h3) rfl;have raw:aC Tp 1 aDo (lU su c.length (c.flatten.map aB) i j) .normal (lU su c.length ((c.flatten.map aB).take (i*3)++[(aB y100),(aB y101),(aB y102)]++(c.flatten.map aB).drop ((i*3)+3)) (i+1) (j+1)):=aC.fi ⟨(rng [(2,2),(7,29)]),[],[],[]⟩ [bT,.x (.agg [(aB y100),(aB y101),(aB y102)]),k1.o,bT] (gc h8 (gc h7 (gc h6 (gc (cT (i:=(i:Int)) (kQ1 _) h5) (gc (bI h4) (gc k1 (gc (aT (i:=j) h2 h1) (gc (bH (i:=j) h2 h1) (gc (cT (i:=(j:Int)) (kQ1 _) h1) (gc (aV h0) gn))))))))));exact raw.cast (by rw [ec'n,ec'c])
theorem bAk(h0:(j:Int)<(c.length:Int))(h1:c[j]? = some [y100,y101,y102])(h2:uni 3 c)(h3:su.length≤1000)(h4:(!(su.contains y100))=true)(h5:inR (((j+1):Nat):Int))(ej':j'=(j+1)):aC Tp 1 aDo (lU su c.length (c.flatten.map aB) i j) .normal (lU su c.length (c.flatten.map aB) i j'):=by
 subst ej';have k1:=fk 2 (aJp y100 y101 y102 su h3) rfl;exact aC.fi ⟨(rng [(2,2),(7,29)]),[],[],[]⟩ [bT,.x (.agg [(aB y100),(aB y101),(aB y102)]),k1.o,bF] (gc h5 (gc (aI h4) (gc k1 (gc (aT (i:=j) h2 h1) (gc (bH (i:=j) h2 h1) (gc (cT (i:=(j:Int)) (kQ1 _) h1) (gc (aV h0) gn)))))))
theorem bAl(h0:(c.length:Int)≤(j:Int)):aC Tp 1 aDo (lU su c.length (c.flatten.map aB) i j) (.exit 0) (lU su c.length (c.flatten.map aB) i j):=by
 exact aC.fi ⟨(rng [(2,2),(7,29)]),[],[],[]⟩ [bF] (gc (bA h0) gn)
abbrev aNm(dl:Int)(sk dc:Lqq)(fi:Int)(o:List Int):Prop:=∀ base:Nat,FV Tp 93 [.p (.agg (cR dl sk dc)),.p (aB fi),.fn 96 [] []] base (.tup [.p (aF o),.p (aB 0)]) []
end
section
variable {fb le fb8 b101 b204 b205:Bool}{ft mo pl s1 s2 bib ft7 mn4 mo' mx5 t100 t203 t204 mn201 mx202:Int}{o fq o' fq9 q102 q205 q206:List Int}{i k i' i0 k' i'0 i'6 base j203:Nat}
variable {dl:Int}{sk dc:Lqq}

noncomputable abbrev fY:Code:=sub (cd Tryz.f72) [1,0,1,1,1,1,1,1,1,1,1,0,1,0,0]
noncomputable abbrev vB:Code:=sub (cd Tryz.f72) [1,0,1,1,1,1,0,1,0,0]
noncomputable abbrev xY:Code:=sub (cd Tryz.f143) [1,0,1,0,0]
theorem rX:0≤(1:Int)∧(1:Int)<2:=by first | decide | simp
theorem xZ:0≤(0:Int)∧(0:Int)<2:=by first | decide | simp
theorem bIf:((0:Int) != (0:Int))=false:=by first | decide | simp
def bIg(st:St)(id:Nat)(o:Option AO):St:=⟨st.t,st.m.set id o⟩
theorem bTh{t:Int}{b:Bool}{q:List Int}{r0:Bool}(er0:r0=((decide (t<ft)) == le)):FV Tp 144 [(.p (.agg [(aB t),(blP b),(aF q)])),(.rp [(PV.rp [(aB ft),(blP fb),(aF fq)] 0)] 0),(.rp [(blP le)] 0)] base (pB r0) []:=by
 subst er0;exact FV.fi Tryz.func144 [.x (PV.rp [(aB ft),(blP fb),(aF fq)] 0),.x (aB ft),.x (blP le)] (gr (blP le) (gr (aB ft) (gr (PV.rp [(aB ft),(blP fb),(aF fq)] 0) gn)))
theorem bIh(t:Int)(b:Bool)(q:List Int)(ft:Int)(fb:Bool)(fq:List Int)(le:Bool){base:Nat}:FV Tp 144 [.p (.agg [aB t,blP b,aF q]),.rp [.rp [aB ft,blP fb,aF fq] 0] 0,.rp [blP le] 0] base (pB (decide (t<ft) == le)) []:=bTh rfl
def kU(c:List aS)(ft:Int)(fb:Bool)(fq:List Int)(le:Bool)(i:Nat):St:=⟨fr 19 [(0,(.p (.sl c.length ((c.map chE).flatten)))),(1,(.fn 144 [] [(.rp [(PV.rp [(aB ft),(blP fb),(aF fq)] 0)] 0),(.rp [(blP le)] 0)])),(7,(pI (c.length:Int))),(8,(pI (i:Int)))],[]⟩
theorem bTi{c:List aS}(hl0:aH Tp 0 xY (kU c ft fb fq le 0) (.exit 0) (kU c ft fb fq le i'0)):FV Tp 143 [(.p (.sl c.length ((c.map chE).flatten))),(.fn 144 [] [(.rp [(PV.rp [(aB ft),(blP fb),(aF fq)] 0)] 0),(.rp [(blP le)] 0)])] base (pI (-1:Int)) []:=by
 exact FV.fi Tryz.func143 [hl0.k 6 ⟨(rng [(2,5),(9,10)]),[],[],[]⟩] (gc hl0.code gn)
theorem bTj{c:List aS}(hl0:aH Tp 0 xY (kU c ft fb fq le 0) .ret (dI (kU c ft fb fq le i'0) [(4,(pI (i'0:Int)))])):FV Tp 143 [(.p (.sl c.length ((c.map chE).flatten))),(.fn 144 [] [(.rp [(PV.rp [(aB ft),(blP fb),(aF fq)] 0)] 0),(.rp [(blP le)] 0)])] base (pI (i'0:Int)) []:=by
 exact FV.fi Tryz.func143 [hl0.k 6 ⟨(rng [(2,5),(9,10)]),[],[],[]⟩] (gc hl0.code gn)
theorem aZo{c:List aS}(h0:(i:Int)<(c.length:Int))(h1:c[i]? = some (t100,b101,q102))(h2:(decide (t100<ft) == le)=true):aC Tp 0 xY (kU c ft fb fq le i) .ret (dI (kU c ft fb fq le i) [(4,(pI (i:Int)))]):=by
 have k1:=fk 0 (bIh t100 b101 q102 ft fb fq le) rfl;exact aC.fi ⟨(rng [(2,2),(5,2),(9,10)]),[],[],[]⟩ [bT,.x (.agg [(aB t100),(blP b101),(aF q102)]),k1.o,bT] (gc h2 (gc k1 (gc (cV (E:=chE) (i:=i) (k:=3) (fun _=>rfl) h1 rfl) (gc (fA (E:=chE) (i:=i) (k:=3) (fun _=>rfl) h1) (gc (cW (E:=chE) (k:=3) (i:=(i:Int)) (fun _=>rfl) (by decide) (kQ1 _) h1) (gc (aV h0) gn))))))
theorem aZp{c:List aS}(h0:(i:Int)<(c.length:Int))(h1:c[i]? = some (t100,b101,q102))(h2:(decide (t100<ft) == le)=false)(h3:inR (((i+1):Nat):Int))(ei':i'=(i+1)):aC Tp 0 xY (kU c ft fb fq le i) .normal (kU c ft fb fq le i'):=by
 subst ei';have k1:=fk 0 (bIh t100 b101 q102 ft fb fq le) rfl;exact aC.fi ⟨(rng [(2,5),(9,10)]),[],[],[]⟩ [bT,.x (.agg [(aB t100),(blP b101),(aF q102)]),k1.o,bF] (gc h3 (gc h2 (gc k1 (gc (cV (E:=chE) (i:=i) (k:=3) (fun _=>rfl) h1 rfl) (gc (fA (E:=chE) (i:=i) (k:=3) (fun _=>rfl) h1) (gc (cW (E:=chE) (k:=3) (i:=(i:Int)) (fun _=>rfl) (by decide) (kQ1 _) h1) (gc (aV h0) gn)))))))
theorem aZq{c:List aS}(h0:(c.length:Int)≤(i:Int)):aC Tp 0 xY (kU c ft fb fq le i) (.exit 0) (kU c ft fb fq le i):=by
 exact aC.fi ⟨(rng [(2,5),(9,10)]),[],[],[]⟩ [bF] (gc (bA h0) gn)
theorem rY(c:List aS)(ft:Int)(fb:Bool)(fq:List Int)(le:Bool)(hl:c.length≤1000){base:Nat}:FV Tp 143 [.p (.sl c.length (c.map chE).flatten),.fn 144 [] [.rp [.rp [aB ft,blP fb,aF fq] 0] 0,.rp [blP le] 0]] base (pI (bK (fun x=>decide (x.1<ft) == le) c)) []:=by
 rcases aH.find (P:=Tp) (k:=0) (b:=xY) (fun i=>kU c ft fb fq le i) (fun i _=>dI (kU c ft fb fq le i) [(4,.p (aB (i:Int)))]) (kU c ft fb fq le c.length) .ret (.exit 0) (by simp) (by simp) (fun x:aS=>decide (x.1<ft) == le) c
  (fun i x hx hq=>by
   obtain ⟨t,b,q⟩:=x;exact aZp (by have:=bC hx;omega) hx hq (aO (by have:=bC hx;omega)) rfl)
  (fun i x hx hq=>by
   obtain ⟨t,b,q⟩:=x;exact aZo (by have:=bC hx;omega) hx hq)
  (aZq (by omega)) with ⟨j,x,h1,h2,h3,h4⟩ | ⟨h1,h2,h3⟩
 ·rw [iA h2]
  exact bTj h4
 ·rw [iB h1]
  exact bTi h3
def fF(dl:Int)(sk:Lqq)(dc:Lqq)(pl:Int)(i0:Nat)(c3:List aS)(i:Nat):St:=⟨fr 137 [(2,(pI pl)),(6,(.p dR)),(7,(pI 0)),(8,(.p (.sl ((aE dl (aA sk) (aA dc)).length) (((aE dl (aA sk) (aA dc)).map hpE).flatten)))),(9,(pI (i0:Int))),(11,(.ptr 0 0)),(38,(.p (.sl c3.length ((c3.map chE).flatten)))),(39,(pI (c3.length:Int))),(40,(pI (i:Int)))],[some (.box 191 [(.p (.v (.pointer none)))])]⟩
def cF(dl:Int)(sk:Lqq)(dc:Lqq)(i0:Nat)(ft7:Int)(fb8:Bool)(fq9:List Int)(k:Nat)(on:Nat)(oc:List PV)(mo:Int):St:=⟨fr 137 [(6,(.p dR)),(7,(pI 0)),(9,(pI (i0:Int))),(11,(.rp [(PV.rp [(aB ft7),(blP fb8),(aF fq9)] 0)] 0)),(16,(.own 0)),(19,(pI mo)),(84,(.p (.sl ((aE dl (aA sk) (aA dc)).length) (((aE dl (aA sk) (aA dc)).map hpE).flatten)))),(85,(pI (((aE dl (aA sk) (aA dc)).length:Nat):Int))),(86,(pI (k:Int)))],[some (.row 3 on oc)]⟩
theorem bTk{c3:List aS}(h0:bG dl sk dc)(h1:kW (aA sk) bib=(i0:Int))(h2:(aA sk)[i0]? = some [s1,s2])(h3:(aN dl (aA dc)).length≤8)(h4:(aE dl (aA sk) (aA dc))[i0]? = some (c3,mn4,mx5))(hl5:aH Tp 0 vB (fF dl sk dc pl i0 c3 0) (.exit 0) (fF dl sk dc pl i0 c3 i'6)):FV Tp 72 [(.p (.agg (cR dl sk dc))),(pI bib),(pI pl)] base (.tup [(.p dR),(pI 6)]) []:=by
 have k1:=fk 1 (aUl h0 h1 h2 h3) rfl;exact FV.frz (FMM.fi 0 ⟨[],[],[],[]⟩ Tryz.func72 [k1.o,bF,.x (.sl c3.length ((c3.map chE).flatten)),hl5.k 1 ⟨(rng [(0,2),(3,3),(10,1),(12,4),(18,1),(24,14),(41,22),(135,1)]),[1],[],[]⟩] (gc hl5.code (gt ((((aE dl (aA sk) (aA dc)).map hpE).flatten)[(i0*3)]? = some (.sl c3.length ((c3.map chE).flatten))) (fQ (E:=hpE) (i:=i0) (f:=0) (k:=3) (fun _=>rfl) h4 rfl) (gc (cW (E:=hpE) (k:=3) (i:=(i0:Int)) (fun _=>rfl) (by decide) (kQ1 _) h4) (gc bIf (gc k1 gn)))))) (by kernel_rfl)
theorem bTl{c3:List aS}{k'10:Nat}{o'11:List Int}{mo'12:Int}(h0:bG dl sk dc)(h1:kW (aA sk) bib=(i0:Int))(h2:(aA sk)[i0]? = some [s1,s2])(h3:(aN dl (aA dc)).length≤8)(h4:(aE dl (aA sk) (aA dc))[i0]? = some (c3,mn4,mx5))(hl5:aH Tp 0 vB (fF dl sk dc pl i0 c3 0) (.exit 0) (bIg (fF dl sk dc pl i0 c3 i'6) 0 (some (.box 191 [(.rp [(aB ft7),(blP fb8),(aF fq9)] 0)]))))(h6:fq9.length≤1000)(h7:(aE dl (aA sk) (aA dc)).length≤1000)(h8:inR (pl-1))(h9:inR ((pl-1)-(((bM (aE dl (aA sk) (aA dc)) i0 ft7).1:Nat):Int)))(hl10:aH Tp 0 fY (cF dl sk dc i0 ft7 fb8 fq9 0 fq9.length (fq9.map aB) ((pl-1)-(((bM (aE dl (aA sk) (aA dc)) i0 ft7).1:Nat):Int))) (.exit 2) (cF dl sk dc i0 ft7 fb8 fq9 k'10 o'11.length (o'11.map aB) mo'12))(h11:o'11.length≤1000000):FV Tp 72 [(.p (.agg (cR dl sk dc))),(pI bib),(pI pl)] base (.tup [(.p (aF (o'11.mergeSort KL.leB))),(pI 0)]) []:=by
 have k1:=fk 1 (aUl h0 h1 h2 h3) rfl;have k2:=fk 0 (bLh fq9 h6) rfl;have k3:=fk 1 (aKu (aE dl (aA sk) (aA dc)) i0 ft7 h7) rfl;have k4:=mq [0] 1 (aOu o'11 h11);exact FV.frz (FMM.fi 0 ⟨[],[],[0],[]⟩ Tryz.func72 [k1.o,bF,.x (.sl c3.length ((c3.map chE).flatten)),hl5.k 1 ⟨(rng [(0,2),(3,3),(10,1),(12,4),(18,1),(24,14),(41,22),(135,1)]),[1],[],[]⟩,.g 5 ⟨[],[],[0],[]⟩,.x (PV.rp [(aB ft7),(blP fb8),(aF fq9)] 0),.x (aF fq9),k2.o,.x (PV.rp [(aB ft7),(blP fb8),(aF fq9)] 0),.x (aB ft7),k3.o,hl10.k 6 ⟨(rng [(0,6),(8,1),(10,1),(12,4),(17,2),(20,64),(87,47),(135,1)]),[0],[],[]⟩,k4.o] (gc k4 (gc hl10.code (gc h9 (gc h8 (gc k3 (gr (aB ft7) (gr (PV.rp [(aB ft7),(blP fb8),(aF fq9)] 0) (gc k2 (gr (aF fq9) (gr (PV.rp [(aB ft7),(blP fb8),(aF fq9)] 0) (gc hl5.code (gt ((((aE dl (aA sk) (aA dc)).map hpE).flatten)[(i0*3)]? = some (.sl c3.length ((c3.map chE).flatten))) (fQ (E:=hpE) (i:=i0) (f:=0) (k:=3) (fun _=>rfl) h4 rfl) (gc (cW (E:=hpE) (k:=3) (i:=(i0:Int)) (fun _=>rfl) (by decide) (kQ1 _) h4) (gc bIf (gc k1 gn)))))))))))))))) (by kernel_rfl)
theorem aZr{c3:List aS}(h0:(i:Int)<(c3.length:Int))(h1:c3[i]? = some (t100,b101,q102))(h2:b101=true)(h3:pl=(-1:Int)):aC Tp 0 vB (fF dl sk dc pl i0 c3 i) (.exit 0) (bIg (fF dl sk dc pl i0 c3 i) 0 (some (.box 191 [(.rp [(aB t100),(blP b101),(aF q102)] 0)]))):=by
 exact aC.fi ⟨(rng [(0,2),(3,3),(10,1),(12,4),(18,1),(24,14),(41,22),(135,1)]),[0],[],[]⟩ [bT,.x (.agg [(aB t100),(blP b101),(aF q102)]),bT,bT,.g 1 ⟨[],[0],[1],[]⟩] (gc (dX h3) (gc h2 (gc (cV (E:=chE) (i:=i) (k:=3) (fun _=>rfl) h1 rfl) (gc (fA (E:=chE) (i:=i) (k:=3) (fun _=>rfl) h1) (gc (cW (E:=chE) (k:=3) (i:=(i:Int)) (fun _=>rfl) (by decide) (kQ1 _) h1) (gc (aV h0) gn))))))
theorem aZs{c3:List aS}(h0:(i:Int)<(c3.length:Int))(h1:c3[i]? = some (t100,b101,q102))(h2:b101=true)(h3:pl≠(-1:Int))(h4:inR (((i+1):Nat):Int))(ei':i'=(i+1)):aC Tp 0 vB (fF dl sk dc pl i0 c3 i) .normal (fF dl sk dc pl i0 c3 i'):=by
 subst ei';exact aC.fi ⟨(rng [(0,2),(3,3),(10,1),(12,4),(18,1),(24,14),(41,22),(135,1)]),[0],[],[]⟩ [bT,.x (.agg [(aB t100),(blP b101),(aF q102)]),bT,bF] (gc h4 (gc (bJ h3) (gc h2 (gc (cV (E:=chE) (i:=i) (k:=3) (fun _=>rfl) h1 rfl) (gc (fA (E:=chE) (i:=i) (k:=3) (fun _=>rfl) h1) (gc (cW (E:=chE) (k:=3) (i:=(i:Int)) (fun _=>rfl) (by decide) (kQ1 _) h1) (gc (aV h0) gn)))))))
theorem aZt{c3:List aS}(h0:(i:Int)<(c3.length:Int))(h1:c3[i]? = some (t100,b101,q102))(h2:b101=false)(h3:(aE dl (aA sk) (aA dc)).length≤1000)(h4:inR ((((bM (aE dl (aA sk) (aA dc)) i0 t100).1+1):Nat):Int))(h5:inR ((((bM (aE dl (aA sk) (aA dc)) i0 t100).2+1):Nat):Int))(h6:(within pl ((((bM (aE dl (aA sk) (aA dc)) i0 t100).1+1):Nat):Int) ((((bM (aE dl (aA sk) (aA dc)) i0 t100).2+1):Nat):Int))=true):aC Tp 0 vB (fF dl sk dc pl i0 c3 i) (.exit 0) (bIg (fF dl sk dc pl i0 c3 i) 0 (some (.box 191 [(.rp [(aB t100),(blP b101),(aF q102)] 0)]))):=by
 have k1:=fk 2 (aKu (aE dl (aA sk) (aA dc)) i0 t100 h3) rfl;have k2:=fk 2 (bW pl ((((bM (aE dl (aA sk) (aA dc)) i0 t100).1+1):Nat):Int) ((((bM (aE dl (aA sk) (aA dc)) i0 t100).2+1):Nat):Int)) rfl;exact aC.fi ⟨(rng [(0,2),(3,3),(10,1),(12,4),(18,1),(24,14),(41,22),(135,1)]),[0],[],[]⟩ [bT,.x (.agg [(aB t100),(blP b101),(aF q102)]),bF,k1.o,k2.o,bT,.g 1 ⟨[],[0],[1],[]⟩] (gc h6 (gc k2 (gc h5 (gc h4 (gc k1 (gc h2 (gc (cV (E:=chE) (i:=i) (k:=3) (fun _=>rfl) h1 rfl) (gc (fA (E:=chE) (i:=i) (k:=3) (fun _=>rfl) h1) (gc (cW (E:=chE) (k:=3) (i:=(i:Int)) (fun _=>rfl) (by decide) (kQ1 _) h1) (gc (aV h0) gn))))))))))
theorem aZu{c3:List aS}(h0:(i:Int)<(c3.length:Int))(h1:c3[i]? = some (t100,b101,q102))(h2:b101=false)(h3:(aE dl (aA sk) (aA dc)).length≤1000)(h4:inR ((((bM (aE dl (aA sk) (aA dc)) i0 t100).1+1):Nat):Int))(h5:inR ((((bM (aE dl (aA sk) (aA dc)) i0 t100).2+1):Nat):Int))(h6:(within pl ((((bM (aE dl (aA sk) (aA dc)) i0 t100).1+1):Nat):Int) ((((bM (aE dl (aA sk) (aA dc)) i0 t100).2+1):Nat):Int))=false)(h7:inR (((i+1):Nat):Int))(ei':i'=(i+1)):aC Tp 0 vB (fF dl sk dc pl i0 c3 i) .normal (fF dl sk dc pl i0 c3 i'):=by
 subst ei';have k1:=fk 2 (aKu (aE dl (aA sk) (aA dc)) i0 t100 h3) rfl;have k2:=fk 2 (bW pl ((((bM (aE dl (aA sk) (aA dc)) i0 t100).1+1):Nat):Int) ((((bM (aE dl (aA sk) (aA dc)) i0 t100).2+1):Nat):Int)) rfl;exact aC.fi ⟨(rng [(0,2),(3,3),(10,1),(12,4),(18,1),(24,14),(41,22),(135,1)]),[0],[],[]⟩ [bT,.x (.agg [(aB t100),(blP b101),(aF q102)]),bF,k1.o,k2.o,bF] (gc h7 (gc h6 (gc k2 (gc h5 (gc h4 (gc k1 (gc h2 (gc (cV (E:=chE) (i:=i) (k:=3) (fun _=>rfl) h1 rfl) (gc (fA (E:=chE) (i:=i) (k:=3) (fun _=>rfl) h1) (gc (cW (E:=chE) (k:=3) (i:=(i:Int)) (fun _=>rfl) (by decide) (kQ1 _) h1) (gc (aV h0) gn)))))))))))
theorem aZv{c3:List aS}(h0:(c3.length:Int)≤(i:Int)):aC Tp 0 vB (fF dl sk dc pl i0 c3 i) (.exit 0) (fF dl sk dc pl i0 c3 i):=by
 exact aC.fi ⟨(rng [(0,2),(3,3),(10,1),(12,4),(18,1),(24,14),(41,22),(135,1)]),[0],[],[]⟩ [bF] (gc (bA h0) gn)
theorem aZw{c200:List aS}(h0:(k:Int)<(((aE dl (aA sk) (aA dc)).length:Nat):Int))(h1:(aE dl (aA sk) (aA dc))[k]? = some (c200,mn201,mx202))(h2:(k:Int)=(i0:Int))(h3:inR (((k+1):Nat):Int))(ek':k'=(k+1)):aC Tp 0 fY (cF dl sk dc i0 ft7 fb8 fq9 k o.length (o.map aB) mo) .normal (cF dl sk dc i0 ft7 fb8 fq9 k' o.length (o.map aB) mo):=by
 subst ek';exact aC.fi ⟨(rng [(0,6),(8,1),(10,1),(12,4),(17,2),(20,64),(87,47),(135,1)]),[0],[],[]⟩ [bT,.x (.agg [(.sl c200.length ((c200.map chE).flatten)),(aB mn201),(aB mx202)]),bT] (gc h3 (gc (dX h2) (gc (cV (E:=hpE) (i:=k) (k:=3) (fun _=>rfl) h1 rfl) (gc (fA (E:=hpE) (i:=k) (k:=3) (fun _=>rfl) h1) (gc (cW (E:=hpE) (k:=3) (i:=(k:Int)) (fun _=>rfl) (by decide) (kQ1 _) h1) (gc (aV h0) gn))))))
theorem aZx{c200:List aS}(h0:(k:Int)<(((aE dl (aA sk) (aA dc)).length:Nat):Int))(h1:(aE dl (aA sk) (aA dc))[k]? = some (c200,mn201,mx202))(h2:(k:Int)≠(i0:Int))(h3:ft7≤mx202)(h4:mn201<ft7)(h5:(0:Int)<mo)(h6:inR (mo-1))(h7:c200.length≤1000)(h8:bK (fun x=>decide (x.1<ft7) == true) c200=(j203:Int))(h9:c200[(if (j203:Int) > (0:Int) then (j203:Int) else (0:Int)).toNat]? = some (t204,b205,q206))(h10:0≤(if (j203:Int) > (0:Int) then (j203:Int) else (0:Int)))(h11:(q206.map aB).length=q206.length*1∧o.length+q206.length≤1000000)(h12:inR (((k+1):Nat):Int))(ek':k'=(k+1))(eo'n:o'.length=(o.length+q206.length))(eo'c:o'.map aB=((o.map aB)++(q206.map aB)))(emo':mo'=(mo-1)):aC Tp 0 fY (cF dl sk dc i0 ft7 fb8 fq9 k o.length (o.map aB) mo) .normal (cF dl sk dc i0 ft7 fb8 fq9 k' o'.length (o'.map aB) mo'):=by
 subst ek' emo';have raw:aC Tp 0 fY (cF dl sk dc i0 ft7 fb8 fq9 k o.length (o.map aB) mo) .normal (cF dl sk dc i0 ft7 fb8 fq9 (k+1) (o.length+q206.length) ((o.map aB)++(q206.map aB)) (mo-1)):=aC.fi ⟨(rng [(0,6),(8,1),(10,1),(12,4),(17,2),(20,64),(87,47),(135,1)]),[2],[],[]⟩ [bT,.x (.agg [(.sl c200.length ((c200.map chE).flatten)),(aB mn201),(aB mx202)]),bF,.x (PV.rp [(aB ft7),(blP fb8),(aF fq9)] 0),.x (aB ft7),bT,bT,bT,bT,.x (PV.rp [(aB ft7),(blP fb8),(aF fq9)] 0),bT,bT,bT,.x (aB ft7),bT,bT,bT,bT,bT,bT,.g 4 ⟨[],[0,1],[2],[]⟩,.c (pI (j203:Int)) [],.x (aF q206)] (gc h12 (gc h11 (gt (((c200.map chE).flatten)[(((if (j203:Int) > (0:Int) then (j203:Int) else (0:Int)).toNat*3)+2)]? = some (aF q206)) (fQ (E:=chE) (i:=(if (j203:Int) > (0:Int) then (j203:Int) else (0:Int)).toNat) (f:=2) (k:=3) (fun _=>rfl) h9 rfl) (gc (cW (E:=chE) (k:=3) (i:=(if (j203:Int) > (0:Int) then (j203:Int) else (0:Int))) (fun _=>rfl) (by decide) h10 h9) (gt (FC Tp 143 [(.p (.sl c200.length ((c200.map chE).flatten))),(.fn 144 [] [(.rp [(PV.rp [(aB ft7),(blP fb8),(aF fq9)] 0)] 0),(.rp [(blP true)] 0)])] [] 2 (pI (j203:Int)) []) (by rw [← h8];exact FV.fc (rY c200 ft7 fb8 fq9 true h7) (by kernel_rfl)) (gc h6 (gc (aV h5) (g3c (aV h4) (g2c (bI (bA h3)) (gr (aB ft7) (g3c (bI (bA h3)) (gr (PV.rp [(aB ft7),(blP fb8),(aF fq9)] 0) (g2c (bI (bA h3)) (gc xZ (g2c (bI (bA h3)) (gr (aB ft7) (gr (PV.rp [(aB ft7),(blP fb8),(aF fq9)] 0) (gc rX (gc (bJ h2) (gc (cV (E:=hpE) (i:=k) (k:=3) (fun _=>rfl) h1 rfl) (gc (fA (E:=hpE) (i:=k) (k:=3) (fun _=>rfl) h1) (gc (cW (E:=hpE) (k:=3) (i:=(k:Int)) (fun _=>rfl) (by decide) (kQ1 _) h1) (gc (aV h0) gn)))))))))))))))))))))))
 exact raw.cast (by rw [eo'n,eo'c])
theorem aZy{c200:List aS}(h0:(k:Int)<(((aE dl (aA sk) (aA dc)).length:Nat):Int))(h1:(aE dl (aA sk) (aA dc))[k]? = some (c200,mn201,mx202))(h2:(k:Int)≠(i0:Int))(h3:ft7≤mx202)(h4:mn201<ft7)(h5:(0:Int)<mo)(h6:inR (mo-1))(h7:c200.length≤1000)(h8:bK (fun x=>decide (x.1<ft7) == true) c200=(-1:Int))(h9:c200[(if (-1:Int) > (0:Int) then (-1:Int) else (0:Int)).toNat]? = some (t203,b204,q205))(h10:0≤(if (-1:Int) > (0:Int) then (-1:Int) else (0:Int)))(h11:(q205.map aB).length=q205.length*1∧o.length+q205.length≤1000000)(h12:inR (((k+1):Nat):Int))(ek':k'=(k+1))(eo'n:o'.length=(o.length+q205.length))(eo'c:o'.map aB=((o.map aB)++(q205.map aB)))(emo':mo'=(mo-1)):aC Tp 0 fY (cF dl sk dc i0 ft7 fb8 fq9 k o.length (o.map aB) mo) .normal (cF dl sk dc i0 ft7 fb8 fq9 k' o'.length (o'.map aB) mo'):=by
 subst ek' emo';have raw:aC Tp 0 fY (cF dl sk dc i0 ft7 fb8 fq9 k o.length (o.map aB) mo) .normal (cF dl sk dc i0 ft7 fb8 fq9 (k+1) (o.length+q205.length) ((o.map aB)++(q205.map aB)) (mo-1)):=aC.fi ⟨(rng [(0,6),(8,1),(10,1),(12,4),(17,2),(20,64),(87,47),(135,1)]),[2],[],[]⟩ [bT,.x (.agg [(.sl c200.length ((c200.map chE).flatten)),(aB mn201),(aB mx202)]),bF,.x (PV.rp [(aB ft7),(blP fb8),(aF fq9)] 0),.x (aB ft7),bT,bT,bT,bT,.x (PV.rp [(aB ft7),(blP fb8),(aF fq9)] 0),bT,bT,bT,.x (aB ft7),bT,bT,bT,bT,bT,bT,.g 4 ⟨[],[0,1],[2],[]⟩,.c (pI (-1:Int)) [],.x (aF q205)] (gc h12 (gc h11 (gt (((c200.map chE).flatten)[(((if (-1:Int) > (0:Int) then (-1:Int) else (0:Int)).toNat*3)+2)]? = some (aF q205)) (fQ (E:=chE) (i:=(if (-1:Int) > (0:Int) then (-1:Int) else (0:Int)).toNat) (f:=2) (k:=3) (fun _=>rfl) h9 rfl) (gc (cW (E:=chE) (k:=3) (i:=(if (-1:Int) > (0:Int) then (-1:Int) else (0:Int))) (fun _=>rfl) (by decide) h10 h9) (gt (FC Tp 143 [(.p (.sl c200.length ((c200.map chE).flatten))),(.fn 144 [] [(.rp [(PV.rp [(aB ft7),(blP fb8),(aF fq9)] 0)] 0),(.rp [(blP true)] 0)])] [] 2 (pI (-1:Int)) []) (by rw [← h8];exact FV.fc (rY c200 ft7 fb8 fq9 true h7) (by kernel_rfl)) (gc h6 (gc (aV h5) (g3c (aV h4) (g2c (bI (bA h3)) (gr (aB ft7) (g3c (bI (bA h3)) (gr (PV.rp [(aB ft7),(blP fb8),(aF fq9)] 0) (g2c (bI (bA h3)) (gc xZ (g2c (bI (bA h3)) (gr (aB ft7) (gr (PV.rp [(aB ft7),(blP fb8),(aF fq9)] 0) (gc rX (gc (bJ h2) (gc (cV (E:=hpE) (i:=k) (k:=3) (fun _=>rfl) h1 rfl) (gc (fA (E:=hpE) (i:=k) (k:=3) (fun _=>rfl) h1) (gc (cW (E:=hpE) (k:=3) (i:=(k:Int)) (fun _=>rfl) (by decide) (kQ1 _) h1) (gc (aV h0) gn)))))))))))))))))))))))
 exact raw.cast (by rw [eo'n,eo'c])
theorem aZz{c200:List aS}(h0:(k:Int)<(((aE dl (aA sk) (aA dc)).length:Nat):Int))(h1:(aE dl (aA sk) (aA dc))[k]? = some (c200,mn201,mx202))(h2:(k:Int)≠(i0:Int))(h3:ft7≤mx202)(h4:mn201<ft7)(h5:mo≤0)(h6:c200.length≤1000)(h7:bK (fun x=>decide (x.1<ft7) == (decide (mx202<ft7))) c200=(j203:Int))(h8:c200[(if (j203:Int) > (0:Int) then (j203:Int) else (0:Int)).toNat]? = some (t204,b205,q206))(h9:0≤(if (j203:Int) > (0:Int) then (j203:Int) else (0:Int)))(h10:(q206.map aB).length=q206.length*1∧o.length+q206.length≤1000000)(h11:inR (((k+1):Nat):Int))(ek':k'=(k+1))(eo'n:o'.length=(o.length+q206.length))(eo'c:o'.map aB=((o.map aB)++(q206.map aB))):aC Tp 0 fY (cF dl sk dc i0 ft7 fb8 fq9 k o.length (o.map aB) mo) .normal (cF dl sk dc i0 ft7 fb8 fq9 k' o'.length (o'.map aB) mo):=by
 subst ek';have raw:aC Tp 0 fY (cF dl sk dc i0 ft7 fb8 fq9 k o.length (o.map aB) mo) .normal (cF dl sk dc i0 ft7 fb8 fq9 (k+1) (o.length+q206.length) ((o.map aB)++(q206.map aB)) mo):=aC.fi ⟨(rng [(0,6),(8,1),(10,1),(12,4),(17,2),(20,64),(87,47),(135,1)]),[2],[],[]⟩ [bT,.x (.agg [(.sl c200.length ((c200.map chE).flatten)),(aB mn201),(aB mx202)]),bF,.x (PV.rp [(aB ft7),(blP fb8),(aF fq9)] 0),.x (aB ft7),bT,bT,bT,bT,.x (PV.rp [(aB ft7),(blP fb8),(aF fq9)] 0),bT,bT,bT,.x (aB ft7),bT,bT,bT,bT,bT,bF,.g 1 ⟨[],[0,1],[2],[]⟩,.c (pI (j203:Int)) [],.x (aF q206)] (gc h11 (gc h10 (gt (((c200.map chE).flatten)[(((if (j203:Int) > (0:Int) then (j203:Int) else (0:Int)).toNat*3)+2)]? = some (aF q206)) (fQ (E:=chE) (i:=(if (j203:Int) > (0:Int) then (j203:Int) else (0:Int)).toNat) (f:=2) (k:=3) (fun _=>rfl) h8 rfl) (gc (cW (E:=chE) (k:=3) (i:=(if (j203:Int) > (0:Int) then (j203:Int) else (0:Int))) (fun _=>rfl) (by decide) h9 h8) (gt (FC Tp 143 [(.p (.sl c200.length ((c200.map chE).flatten))),(.fn 144 [] [(.rp [(PV.rp [(aB ft7),(blP fb8),(aF fq9)] 0)] 0),(.rp [(blP (decide (mx202<ft7)))] 0)])] [] 2 (pI (j203:Int)) []) (by rw [← h7];exact FV.fc (rY c200 ft7 fb8 fq9 (decide (mx202<ft7)) h6) (by kernel_rfl)) (gc (bA h5) (g3c (aV h4) (g2c (bI (bA h3)) (gr (aB ft7) (g3c (bI (bA h3)) (gr (PV.rp [(aB ft7),(blP fb8),(aF fq9)] 0) (g2c (bI (bA h3)) (gc xZ (g2c (bI (bA h3)) (gr (aB ft7) (gr (PV.rp [(aB ft7),(blP fb8),(aF fq9)] 0) (gc rX (gc (bJ h2) (gc (cV (E:=hpE) (i:=k) (k:=3) (fun _=>rfl) h1 rfl) (gc (fA (E:=hpE) (i:=k) (k:=3) (fun _=>rfl) h1) (gc (cW (E:=hpE) (k:=3) (i:=(k:Int)) (fun _=>rfl) (by decide) (kQ1 _) h1) (gc (aV h0) gn))))))))))))))))))))))
 exact raw.cast (by rw [eo'n,eo'c])
theorem bAa{c200:List aS}(h0:(k:Int)<(((aE dl (aA sk) (aA dc)).length:Nat):Int))(h1:(aE dl (aA sk) (aA dc))[k]? = some (c200,mn201,mx202))(h2:(k:Int)≠(i0:Int))(h3:ft7≤mx202)(h4:mn201<ft7)(h5:mo≤0)(h6:c200.length≤1000)(h7:bK (fun x=>decide (x.1<ft7) == (decide (mx202<ft7))) c200=(-1:Int))(h8:c200[(if (-1:Int) > (0:Int) then (-1:Int) else (0:Int)).toNat]? = some (t203,b204,q205))(h9:0≤(if (-1:Int) > (0:Int) then (-1:Int) else (0:Int)))(h10:(q205.map aB).length=q205.length*1∧o.length+q205.length≤1000000)(h11:inR (((k+1):Nat):Int))(ek':k'=(k+1))(eo'n:o'.length=(o.length+q205.length))(eo'c:o'.map aB=((o.map aB)++(q205.map aB))):aC Tp 0 fY (cF dl sk dc i0 ft7 fb8 fq9 k o.length (o.map aB) mo) .normal (cF dl sk dc i0 ft7 fb8 fq9 k' o'.length (o'.map aB) mo):=by
 subst ek';have raw:aC Tp 0 fY (cF dl sk dc i0 ft7 fb8 fq9 k o.length (o.map aB) mo) .normal (cF dl sk dc i0 ft7 fb8 fq9 (k+1) (o.length+q205.length) ((o.map aB)++(q205.map aB)) mo):=aC.fi ⟨(rng [(0,6),(8,1),(10,1),(12,4),(17,2),(20,64),(87,47),(135,1)]),[2],[],[]⟩ [bT,.x (.agg [(.sl c200.length ((c200.map chE).flatten)),(aB mn201),(aB mx202)]),bF,.x (PV.rp [(aB ft7),(blP fb8),(aF fq9)] 0),.x (aB ft7),bT,bT,bT,bT,.x (PV.rp [(aB ft7),(blP fb8),(aF fq9)] 0),bT,bT,bT,.x (aB ft7),bT,bT,bT,bT,bT,bF,.g 1 ⟨[],[0,1],[2],[]⟩,.c (pI (-1:Int)) [],.x (aF q205)] (gc h11 (gc h10 (gt (((c200.map chE).flatten)[(((if (-1:Int) > (0:Int) then (-1:Int) else (0:Int)).toNat*3)+2)]? = some (aF q205)) (fQ (E:=chE) (i:=(if (-1:Int) > (0:Int) then (-1:Int) else (0:Int)).toNat) (f:=2) (k:=3) (fun _=>rfl) h8 rfl) (gc (cW (E:=chE) (k:=3) (i:=(if (-1:Int) > (0:Int) then (-1:Int) else (0:Int))) (fun _=>rfl) (by decide) h9 h8) (gt (FC Tp 143 [(.p (.sl c200.length ((c200.map chE).flatten))),(.fn 144 [] [(.rp [(PV.rp [(aB ft7),(blP fb8),(aF fq9)] 0)] 0),(.rp [(blP (decide (mx202<ft7)))] 0)])] [] 2 (pI (-1:Int)) []) (by rw [← h7];exact FV.fc (rY c200 ft7 fb8 fq9 (decide (mx202<ft7)) h6) (by kernel_rfl)) (gc (bA h5) (g3c (aV h4) (g2c (bI (bA h3)) (gr (aB ft7) (g3c (bI (bA h3)) (gr (PV.rp [(aB ft7),(blP fb8),(aF fq9)] 0) (g2c (bI (bA h3)) (gc xZ (g2c (bI (bA h3)) (gr (aB ft7) (gr (PV.rp [(aB ft7),(blP fb8),(aF fq9)] 0) (gc rX (gc (bJ h2) (gc (cV (E:=hpE) (i:=k) (k:=3) (fun _=>rfl) h1 rfl) (gc (fA (E:=hpE) (i:=k) (k:=3) (fun _=>rfl) h1) (gc (cW (E:=hpE) (k:=3) (i:=(k:Int)) (fun _=>rfl) (by decide) (kQ1 _) h1) (gc (aV h0) gn))))))))))))))))))))))
 exact raw.cast (by rw [eo'n,eo'c])
theorem bAb{c200:List aS}(h0:(k:Int)<(((aE dl (aA sk) (aA dc)).length:Nat):Int))(h1:(aE dl (aA sk) (aA dc))[k]? = some (c200,mn201,mx202))(h2:(k:Int)≠(i0:Int))(h3:ft7≤mx202)(h4:ft7≤mn201)(h5:c200.length≤1000)(h6:bK (fun x=>decide (x.1<ft7) == (decide (mx202<ft7))) c200=(j203:Int))(h7:c200[(if (j203:Int) > (0:Int) then (j203:Int) else (0:Int)).toNat]? = some (t204,b205,q206))(h8:0≤(if (j203:Int) > (0:Int) then (j203:Int) else (0:Int)))(h9:(q206.map aB).length=q206.length*1∧o.length+q206.length≤1000000)(h10:inR (((k+1):Nat):Int))(ek':k'=(k+1))(eo'n:o'.length=(o.length+q206.length))(eo'c:o'.map aB=((o.map aB)++(q206.map aB))):aC Tp 0 fY (cF dl sk dc i0 ft7 fb8 fq9 k o.length (o.map aB) mo) .normal (cF dl sk dc i0 ft7 fb8 fq9 k' o'.length (o'.map aB) mo):=by
 subst ek';have raw:aC Tp 0 fY (cF dl sk dc i0 ft7 fb8 fq9 k o.length (o.map aB) mo) .normal (cF dl sk dc i0 ft7 fb8 fq9 (k+1) (o.length+q206.length) ((o.map aB)++(q206.map aB)) mo):=aC.fi ⟨(rng [(0,6),(8,1),(10,1),(12,4),(17,2),(20,64),(87,47),(135,1)]),[2],[],[]⟩ [bT,.x (.agg [(.sl c200.length ((c200.map chE).flatten)),(aB mn201),(aB mx202)]),bF,.x (PV.rp [(aB ft7),(blP fb8),(aF fq9)] 0),.x (aB ft7),bT,bT,bT,bT,.x (PV.rp [(aB ft7),(blP fb8),(aF fq9)] 0),bT,bT,bT,.x (aB ft7),bT,bT,bF,bF,bF,.g 2 ⟨[],[0,1],[2],[]⟩,.c (pI (j203:Int)) [],.x (aF q206)] (gc h10 (gc h9 (gt (((c200.map chE).flatten)[(((if (j203:Int) > (0:Int) then (j203:Int) else (0:Int)).toNat*3)+2)]? = some (aF q206)) (fQ (E:=chE) (i:=(if (j203:Int) > (0:Int) then (j203:Int) else (0:Int)).toNat) (f:=2) (k:=3) (fun _=>rfl) h7 rfl) (gc (cW (E:=chE) (k:=3) (i:=(if (j203:Int) > (0:Int) then (j203:Int) else (0:Int))) (fun _=>rfl) (by decide) h8 h7) (gt (FC Tp 143 [(.p (.sl c200.length ((c200.map chE).flatten))),(.fn 144 [] [(.rp [(PV.rp [(aB ft7),(blP fb8),(aF fq9)] 0)] 0),(.rp [(blP (decide (mx202<ft7)))] 0)])] [] 2 (pI (j203:Int)) []) (by rw [← h6];exact FV.fc (rY c200 ft7 fb8 fq9 (decide (mx202<ft7)) h5) (by kernel_rfl)) (g3c (bA h4) (g2c (bI (bA h3)) (gr (aB ft7) (g3c (bI (bA h3)) (gr (PV.rp [(aB ft7),(blP fb8),(aF fq9)] 0) (g2c (bI (bA h3)) (gc xZ (g2c (bI (bA h3)) (gr (aB ft7) (gr (PV.rp [(aB ft7),(blP fb8),(aF fq9)] 0) (gc rX (gc (bJ h2) (gc (cV (E:=hpE) (i:=k) (k:=3) (fun _=>rfl) h1 rfl) (gc (fA (E:=hpE) (i:=k) (k:=3) (fun _=>rfl) h1) (gc (cW (E:=hpE) (k:=3) (i:=(k:Int)) (fun _=>rfl) (by decide) (kQ1 _) h1) (gc (aV h0) gn)))))))))))))))))))))
 exact raw.cast (by rw [eo'n,eo'c])
theorem bAc{c200:List aS}(h0:(k:Int)<(((aE dl (aA sk) (aA dc)).length:Nat):Int))(h1:(aE dl (aA sk) (aA dc))[k]? = some (c200,mn201,mx202))(h2:(k:Int)≠(i0:Int))(h3:ft7≤mx202)(h4:ft7≤mn201)(h5:c200.length≤1000)(h6:bK (fun x=>decide (x.1<ft7) == (decide (mx202<ft7))) c200=(-1:Int))(h7:c200[(if (-1:Int) > (0:Int) then (-1:Int) else (0:Int)).toNat]? = some (t203,b204,q205))(h8:0≤(if (-1:Int) > (0:Int) then (-1:Int) else (0:Int)))(h9:(q205.map aB).length=q205.length*1∧o.length+q205.length≤1000000)(h10:inR (((k+1):Nat):Int))(ek':k'=(k+1))(eo'n:o'.length=(o.length+q205.length))(eo'c:o'.map aB=((o.map aB)++(q205.map aB))):aC Tp 0 fY (cF dl sk dc i0 ft7 fb8 fq9 k o.length (o.map aB) mo) .normal (cF dl sk dc i0 ft7 fb8 fq9 k' o'.length (o'.map aB) mo):=by
 subst ek';have raw:aC Tp 0 fY (cF dl sk dc i0 ft7 fb8 fq9 k o.length (o.map aB) mo) .normal (cF dl sk dc i0 ft7 fb8 fq9 (k+1) (o.length+q205.length) ((o.map aB)++(q205.map aB)) mo):=aC.fi ⟨(rng [(0,6),(8,1),(10,1),(12,4),(17,2),(20,64),(87,47),(135,1)]),[2],[],[]⟩ [bT,.x (.agg [(.sl c200.length ((c200.map chE).flatten)),(aB mn201),(aB mx202)]),bF,.x (PV.rp [(aB ft7),(blP fb8),(aF fq9)] 0),.x (aB ft7),bT,bT,bT,bT,.x (PV.rp [(aB ft7),(blP fb8),(aF fq9)] 0),bT,bT,bT,.x (aB ft7),bT,bT,bF,bF,bF,.g 2 ⟨[],[0,1],[2],[]⟩,.c (pI (-1:Int)) [],.x (aF q205)] (gc h10 (gc h9 (gt (((c200.map chE).flatten)[(((if (-1:Int) > (0:Int) then (-1:Int) else (0:Int)).toNat*3)+2)]? = some (aF q205)) (fQ (E:=chE) (i:=(if (-1:Int) > (0:Int) then (-1:Int) else (0:Int)).toNat) (f:=2) (k:=3) (fun _=>rfl) h7 rfl) (gc (cW (E:=chE) (k:=3) (i:=(if (-1:Int) > (0:Int) then (-1:Int) else (0:Int))) (fun _=>rfl) (by decide) h8 h7) (gt (FC Tp 143 [(.p (.sl c200.length ((c200.map chE).flatten))),(.fn 144 [] [(.rp [(PV.rp [(aB ft7),(blP fb8),(aF fq9)] 0)] 0),(.rp [(blP (decide (mx202<ft7)))] 0)])] [] 2 (pI (-1:Int)) []) (by rw [← h6];exact FV.fc (rY c200 ft7 fb8 fq9 (decide (mx202<ft7)) h5) (by kernel_rfl)) (g3c (bA h4) (g2c (bI (bA h3)) (gr (aB ft7) (g3c (bI (bA h3)) (gr (PV.rp [(aB ft7),(blP fb8),(aF fq9)] 0) (g2c (bI (bA h3)) (gc xZ (g2c (bI (bA h3)) (gr (aB ft7) (gr (PV.rp [(aB ft7),(blP fb8),(aF fq9)] 0) (gc rX (gc (bJ h2) (gc (cV (E:=hpE) (i:=k) (k:=3) (fun _=>rfl) h1 rfl) (gc (fA (E:=hpE) (i:=k) (k:=3) (fun _=>rfl) h1) (gc (cW (E:=hpE) (k:=3) (i:=(k:Int)) (fun _=>rfl) (by decide) (kQ1 _) h1) (gc (aV h0) gn)))))))))))))))))))))
 exact raw.cast (by rw [eo'n,eo'c])
theorem bAd{c200:List aS}(h0:(k:Int)<(((aE dl (aA sk) (aA dc)).length:Nat):Int))(h1:(aE dl (aA sk) (aA dc))[k]? = some (c200,mn201,mx202))(h2:(k:Int)≠(i0:Int))(h3:mx202<ft7)(h4:c200.length≤1000)(h5:bK (fun x=>decide (x.1<ft7) == (decide (mx202<ft7))) c200=(j203:Int))(h6:c200[(if (j203:Int) > (0:Int) then (j203:Int) else (0:Int)).toNat]? = some (t204,b205,q206))(h7:0≤(if (j203:Int) > (0:Int) then (j203:Int) else (0:Int)))(h8:(q206.map aB).length=q206.length*1∧o.length+q206.length≤1000000)(h9:inR (((k+1):Nat):Int))(ek':k'=(k+1))(eo'n:o'.length=(o.length+q206.length))(eo'c:o'.map aB=((o.map aB)++(q206.map aB))):aC Tp 0 fY (cF dl sk dc i0 ft7 fb8 fq9 k o.length (o.map aB) mo) .normal (cF dl sk dc i0 ft7 fb8 fq9 k' o'.length (o'.map aB) mo):=by
 subst ek';have raw:aC Tp 0 fY (cF dl sk dc i0 ft7 fb8 fq9 k o.length (o.map aB) mo) .normal (cF dl sk dc i0 ft7 fb8 fq9 (k+1) (o.length+q206.length) ((o.map aB)++(q206.map aB)) mo):=aC.fi ⟨(rng [(0,6),(8,1),(10,1),(12,4),(17,2),(20,64),(87,47),(135,1)]),[2],[],[]⟩ [bT,.x (.agg [(.sl c200.length ((c200.map chE).flatten)),(aB mn201),(aB mx202)]),bF,.x (PV.rp [(aB ft7),(blP fb8),(aF fq9)] 0),.x (aB ft7),bF,bF,bF,bF,bF,bF,bF,bF,bF,.g 2 ⟨[],[0,1],[2],[]⟩,.c (pI (j203:Int)) [],.x (aF q206)] (gc h9 (gc h8 (gt (((c200.map chE).flatten)[(((if (j203:Int) > (0:Int) then (j203:Int) else (0:Int)).toNat*3)+2)]? = some (aF q206)) (fQ (E:=chE) (i:=(if (j203:Int) > (0:Int) then (j203:Int) else (0:Int)).toNat) (f:=2) (k:=3) (fun _=>rfl) h6 rfl) (gc (cW (E:=chE) (k:=3) (i:=(if (j203:Int) > (0:Int) then (j203:Int) else (0:Int))) (fun _=>rfl) (by decide) h7 h6) (gt (FC Tp 143 [(.p (.sl c200.length ((c200.map chE).flatten))),(.fn 144 [] [(.rp [(PV.rp [(aB ft7),(blP fb8),(aF fq9)] 0)] 0),(.rp [(blP (decide (mx202<ft7)))] 0)])] [] 2 (pI (j203:Int)) []) (by rw [← h5];exact FV.fc (rY c200 ft7 fb8 fq9 (decide (mx202<ft7)) h4) (by kernel_rfl)) (g8c (aI (aV h3)) (gc (aI (aV h3)) (gr (aB ft7) (gr (PV.rp [(aB ft7),(blP fb8),(aF fq9)] 0) (gc rX (gc (bJ h2) (gc (cV (E:=hpE) (i:=k) (k:=3) (fun _=>rfl) h1 rfl) (gc (fA (E:=hpE) (i:=k) (k:=3) (fun _=>rfl) h1) (gc (cW (E:=hpE) (k:=3) (i:=(k:Int)) (fun _=>rfl) (by decide) (kQ1 _) h1) (gc (aV h0) gn)))))))))))))))
 exact raw.cast (by rw [eo'n,eo'c])
theorem bAe{c200:List aS}(h0:(k:Int)<(((aE dl (aA sk) (aA dc)).length:Nat):Int))(h1:(aE dl (aA sk) (aA dc))[k]? = some (c200,mn201,mx202))(h2:(k:Int)≠(i0:Int))(h3:mx202<ft7)(h4:c200.length≤1000)(h5:bK (fun x=>decide (x.1<ft7) == (decide (mx202<ft7))) c200=(-1:Int))(h6:c200[(if (-1:Int) > (0:Int) then (-1:Int) else (0:Int)).toNat]? = some (t203,b204,q205))(h7:0≤(if (-1:Int) > (0:Int) then (-1:Int) else (0:Int)))(h8:(q205.map aB).length=q205.length*1∧o.length+q205.length≤1000000)(h9:inR (((k+1):Nat):Int))(ek':k'=(k+1))(eo'n:o'.length=(o.length+q205.length))(eo'c:o'.map aB=((o.map aB)++(q205.map aB))):aC Tp 0 fY (cF dl sk dc i0 ft7 fb8 fq9 k o.length (o.map aB) mo) .normal (cF dl sk dc i0 ft7 fb8 fq9 k' o'.length (o'.map aB) mo):=by
 subst ek';have raw:aC Tp 0 fY (cF dl sk dc i0 ft7 fb8 fq9 k o.length (o.map aB) mo) .normal (cF dl sk dc i0 ft7 fb8 fq9 (k+1) (o.length+q205.length) ((o.map aB)++(q205.map aB)) mo):=aC.fi ⟨(rng [(0,6),(8,1),(10,1),(12,4),(17,2),(20,64),(87,47),(135,1)]),[2],[],[]⟩ [bT,.x (.agg [(.sl c200.length ((c200.map chE).flatten)),(aB mn201),(aB mx202)]),bF,.x (PV.rp [(aB ft7),(blP fb8),(aF fq9)] 0),.x (aB ft7),bF,bF,bF,bF,bF,bF,bF,bF,bF,.g 2 ⟨[],[0,1],[2],[]⟩,.c (pI (-1:Int)) [],.x (aF q205)] (gc h9 (gc h8 (gt (((c200.map chE).flatten)[(((if (-1:Int) > (0:Int) then (-1:Int) else (0:Int)).toNat*3)+2)]? = some (aF q205)) (fQ (E:=chE) (i:=(if (-1:Int) > (0:Int) then (-1:Int) else (0:Int)).toNat) (f:=2) (k:=3) (fun _=>rfl) h6 rfl) (gc (cW (E:=chE) (k:=3) (i:=(if (-1:Int) > (0:Int) then (-1:Int) else (0:Int))) (fun _=>rfl) (by decide) h7 h6) (gt (FC Tp 143 [(.p (.sl c200.length ((c200.map chE).flatten))),(.fn 144 [] [(.rp [(PV.rp [(aB ft7),(blP fb8),(aF fq9)] 0)] 0),(.rp [(blP (decide (mx202<ft7)))] 0)])] [] 2 (pI (-1:Int)) []) (by rw [← h5];exact FV.fc (rY c200 ft7 fb8 fq9 (decide (mx202<ft7)) h4) (by kernel_rfl)) (g8c (aI (aV h3)) (gc (aI (aV h3)) (gr (aB ft7) (gr (PV.rp [(aB ft7),(blP fb8),(aF fq9)] 0) (gc rX (gc (bJ h2) (gc (cV (E:=hpE) (i:=k) (k:=3) (fun _=>rfl) h1 rfl) (gc (fA (E:=hpE) (i:=k) (k:=3) (fun _=>rfl) h1) (gc (cW (E:=hpE) (k:=3) (i:=(k:Int)) (fun _=>rfl) (by decide) (kQ1 _) h1) (gc (aV h0) gn)))))))))))))))
 exact raw.cast (by rw [eo'n,eo'c])
theorem bAf(h0:(((aE dl (aA sk) (aA dc)).length:Nat):Int)≤(k:Int)):aC Tp 0 fY (cF dl sk dc i0 ft7 fb8 fq9 k o.length (o.map aB) mo) (.exit 2) (cF dl sk dc i0 ft7 fb8 fq9 k o.length (o.map aB) mo):=by
 exact aC.fi ⟨(rng [(0,6),(8,1),(10,1),(12,4),(17,2),(20,64),(87,47),(135,1)]),[0],[],[]⟩ [bF] (gc (bA h0) gn)
end
section

end
section

theorem aPf{α:Type}{Q:List α→Prop}(h0:Q [])(hs:∀ l x,Q l→Q (l++[x]))(l:List α):Q l:=by
 have key:∀ r:List α,Q r.reverse:=fun r=>by
  induction r with
  | nil=>exact h0
  | cons a r ih=>rw [List.reverse_cons];exact hs _ _ ih
 have:=key l.reverse
 rwa [List.reverse_reverse] at this
def mC(L:Lqq)(t:Int):Nat:=(L.filter fun x=>decide (x.getD 2 0<t)).length
theorem aIi(L:Lqq)(x:List Int)(t:Int):mC (L++[x]) t=mC L t+if x.getD 2 0<t then 1 else 0:=by
 unfold mC;rw [lR,kT]
 congr 1
 by_cases h:x.getD 2 0<t
 ·rw [if_pos h,List.filter_cons,if_pos (decide_eq_true h)];rfl
 ·rw [if_neg h,List.filter_cons,if_neg (by rw [decide_eq_false h];simp)];rfl
theorem aFc(L:Lqq):L.Pairwise (fun a b=>a.getD 2 0≤b.getD 2 0)→jL L=L.map fun x=>[x.getD 0 0,(mC L (x.getD 2 0):Int)+1,x.getD 2 0]:=by
 refine aPf (Q:=fun L=>L.Pairwise (fun a b=>a.getD 2 0≤b.getD 2 0)→jL L=L.map fun x=>[x.getD 0 0,(mC L (x.getD 2 0):Int)+1,x.getD 2 0]) (fun _=>rfl) (fun l x ih hp => ?_) L
 obtain ⟨h1,_,h3⟩:=List.pairwise_append.1 hp;have h4:∀ a∈l,a.getD 2 0≤x.getD 2 0:=fun a ha=>h3 a ha x (by simp)
 have e:jL (l++[x])=jL l++[[x.getD 0 0,plN (jL l) (x.getD 2 0),x.getD 2 0]]:=by
  unfold jL;rw [aJh];rfl
 rw [e,ih h1,gJ]
 congr 1
 ·refine aAj fun y hy => ?_
  rw [aIi,if_neg (by have:=h4 y hy;omega)];rfl
 ·have hx:mC (l++[x]) (x.getD 2 0)=mC l (x.getD 2 0):=by rw [aIi,if_neg (by omega)];rfl
  show [[x.getD 0 0,plN _ (x.getD 2 0),x.getD 2 0]]=[[x.getD 0 0,(mC (l++[x]) (x.getD 2 0):Int)+1,x.getD 2 0]];rw [hx]
  congr 3
  rcases List.eq_nil_or_concat l with rfl | ⟨m,y,rfl⟩
  ·rfl
  ·rw [List.concat_eq_append] at *
   unfold plN;rw [gJ,gZ,List.map_nil,List.getLast?_concat];show (if y.getD 2 0=x.getD 2 0 then (mC (m++[y]) (y.getD 2 0):Int)+1 else _)=_
   by_cases hc:y.getD 2 0=x.getD 2 0
   ·rw [if_pos hc,hc]
   ·rw [if_neg hc]
    have h5:=h4 y (by simp)
    have h6:mC (m++[y]) (x.getD 2 0)=(m++[y]).length:=by
     unfold mC;rw [List.filter_eq_self.2];intro a ha;refine decide_eq_true ?_
     rcases jB.1 ha with ha | ha
     ·have:=(List.pairwise_append.1 h1).2.2 a ha y (by simp)
      omega
     ·obtain rfl:a=y:=by simpa using ha
      omega
    rw [h6];simp
section
variable {dl:Int} {oc:List Int} {sk dc:Lqq}
def cBl(a b:List Int):Prop:=(b.getD 1 0 = -1→a.getD 1 0 = -1→a.getD 0 0<b.getD 0 0)∧(b.getD 1 0 ≠ -1→a.getD 1 0 ≠ -1∧a.getD 2 0≤b.getD 2 0∧(a.getD 2 0=b.getD 2 0→a.getD 0 0<b.getD 0 0))
def inL(t:Int)(y:List Int):Bool:=decide (y.getD 1 0 ≠ -1∧y.getD 2 0<t)
theorem aPg(hs:sk.Pairwise fun a b=>a.getD 0 0<b.getD 0 0) :
  (bL dl oc dc sk).Pairwise cBl ∧
  (∀ y∈bL dl oc dc sk,y.getD 1 0 ≠ -1→y.getD 1 0=1+(((bL dl oc dc sk).filter (inL (y.getD 2 0))).length:Int)) ∧
  (∀ y∈bL dl oc dc sk,∃ s∈sk,s.getD 0 0=y.getD 0 0∧cE dl oc dc (sB s) (sT s)=(y.getD 2 0,decide (y.getD 1 0 = -1))):=by
 have hI0:(fH dl oc dc sk).Pairwise fun a b=>a.getD 0 0<b.getD 0 0:=by
  unfold fH;rw [List.pairwise_map];exact (hs.sublist List.filter_sublist)
 have hO:(fR dl oc dc sk).Pairwise fun a b=>a.getD 0 0<b.getD 0 0:=by
  unfold fR;rw [List.pairwise_map];exact (hs.sublist List.filter_sublist)
 have s1:=qL (f:=fun x:List Int=>x.getD 2 0) (fun x y=>aKo 2 x y) (fH dl oc dc sk)
 have s2:=aKq (f:=fun x:List Int=>x.getD 2 0) (g:=fun x:List Int=>x.getD 0 0) (fun x y=>aKo 2 x y) (fH dl oc dc sk) hI0
 have hpl:=aFc _ s1;have hmI:∀ x,x∈isort (ltK 2) (fH dl oc dc sk)→x∈fH dl oc dc sk:=fun x hx=>(tK _ _ x).1 hx
 have e:bL dl oc dc sk=((isort (ltK 2) (fH dl oc dc sk)).map fun x=>[x.getD 0 0,(mC (isort (ltK 2) (fH dl oc dc sk)) (x.getD 2 0):Int)+1,x.getD 2 0])++fR dl oc dc sk:=by
  unfold bL;rw [hpl]
 generalize isort (ltK 2) (fH dl oc dc sk)=I at s1 s2 hmI e
 have o1:∀ y∈fR dl oc dc sk,y.getD 1 0 = -1:=fun y hy=>by
  unfold fR at hy
  obtain ⟨s,_,rfl⟩:=kQ9.1 hy;rfl
 refine ⟨?_,?_,?_⟩
 ·rw [e]
  refine List.pairwise_append.2 ⟨?_,?_,?_⟩
  ·rw [List.pairwise_map]
   refine s2.imp fun {a b} h => ?_
   refine ⟨fun h1=>absurd h1 ?_,fun _=>⟨?_,?_,?_⟩⟩
   ·show (mC I (b.getD 2 0):Int)+1 ≠ -1
    omega
   ·show (mC I (a.getD 2 0):Int)+1 ≠ -1
    omega
   ·show a.getD 2 0≤b.getD 2 0
    omega
   ·show a.getD 2 0=b.getD 2 0→a.getD 0 0<b.getD 0 0
    omega
  ·refine hO.imp_of_mem fun {a b} ha hb h=>⟨fun _ _=>h,fun h1=>absurd (o1 b hb) h1⟩
  ·intro a ha b hb
   obtain ⟨x,_,rfl⟩:=kQ9.1 ha;refine ⟨fun _ h1=>absurd h1 ?_,fun h1=>absurd (o1 b hb) h1⟩
   show (mC I (x.getD 2 0):Int)+1 ≠ -1;omega
 ·have hc:∀ t,((bL dl oc dc sk).filter (inL t)).length=mC I t:=fun t=>by
   rw [e,lR,kT];have z:(fR dl oc dc sk).filter (inL t)=[]:=by
    rw [List.filter_eq_nil_iff];intro y hy;unfold inL;rw [o1 y hy];simp
   rw [z,List.filter_map,eR];unfold mC;rw [List.length_nil,Nat.add_zero]
   congr 1
   refine List.filter_congr fun x _ => ?_
   show decide ((mC I (x.getD 2 0):Int)+1 ≠ -1∧x.getD 2 0<t)=decide (x.getD 2 0<t)
   by_cases hx:x.getD 2 0<t
   ·rw [decide_eq_true hx,decide_eq_true ⟨by omega,hx⟩]
   ·rw [decide_eq_false hx,decide_eq_false fun h=>hx h.2]
  intro y hy h1;rw [hc];rw [e] at hy
  rcases jB.1 hy with hy | hy
  ·obtain ⟨x,_,rfl⟩:=kQ9.1 hy
   show (mC I (x.getD 2 0):Int)+1=1+(mC I (x.getD 2 0):Int);omega
  ·exact absurd (o1 y hy) h1
 ·intro y hy
  rw [e] at hy
  rcases jB.1 hy with hy | hy
  ·obtain ⟨x,hx,rfl⟩:=kQ9.1 hy
   have hx':=hmI x hx;unfold fH at hx'
   obtain ⟨s,hs',rfl⟩:=kQ9.1 hx';obtain ⟨m1,m2⟩:=nA.1 hs';refine ⟨s,m1,rfl,?_⟩;have m3:(cE dl oc dc (sB s) (sT s)).2=false:=by simpa using m2
   have m4:(decide ((mC I (cE dl oc dc (sB s) (sT s)).1:Int)+1 = -1))=false:=decide_eq_false (by omega)
   show cE dl oc dc (sB s) (sT s)=((cE dl oc dc (sB s) (sT s)).1,decide ((mC I (cE dl oc dc (sB s) (sT s)).1:Int)+1 = -1));rw [m4];exact Prod.ext rfl m3
  ·unfold fR at hy
   obtain ⟨s,hs',rfl⟩:=kQ9.1 hy;obtain ⟨m1,m2⟩:=nA.1 hs';refine ⟨s,m1,rfl,?_⟩;show cE dl oc dc (sB s) (sT s)=(0,true);unfold cE at m2 ⊢
   split at m2
   ·rename_i h;rw [if_pos h]
   ·cases m2
def bFy(f:List Int→Int × Bool)(S:Lqq)(t:Int):Nat:=(S.filter fun j => !(f j).2 && decide ((f j).1<t)).length
theorem aPh(hs:sk.Pairwise fun a b=>a.getD 0 0<b.getD 0 0)(t:Int):((bL dl oc dc sk).filter (inL t)).length=bFy (fun s=>cE dl oc dc (sB s) (sT s)) sk t:=by
 have s1:=qL (f:=fun x:List Int=>x.getD 2 0) (fun x y=>aKo 2 x y) (fH dl oc dc sk)
 have hp:=aUe (ltK 2) (fH dl oc dc sk);unfold bL;rw [lR,kT,aFc _ s1];have z:(fR dl oc dc sk).filter (inL t)=[]:=by
  rw [List.filter_eq_nil_iff];intro y hy;unfold fR at hy
  obtain ⟨s,_,rfl⟩:=kQ9.1 hy;simp [inL]
 rw [z,List.filter_map,eR,List.length_nil,Nat.add_zero];have e1:∀ (I J:Lqq),(J.filter (inL t ∘ fun x=>[x.getD 0 0,(mC I (x.getD 2 0):Int)+1,x.getD 2 0]))=J.filter fun x=>decide (x.getD 2 0<t):=fun I J=>by
  refine List.filter_congr fun x _ => ?_
  show decide ((mC I (x.getD 2 0):Int)+1 ≠ -1∧x.getD 2 0<t)=decide (x.getD 2 0<t)
  by_cases hx:x.getD 2 0<t
  ·rw [decide_eq_true hx,decide_eq_true ⟨by omega,hx⟩]
  ·rw [decide_eq_false hx,decide_eq_false fun h=>hx h.2]
 rw [e1,(hp.filter _).length_eq];unfold fH bFy;rw [List.filter_map,eR,List.filter_filter]
 congr 1
 refine List.filter_congr fun s _ => ?_
 show (decide ((cE dl oc dc (sB s) (sT s)).1<t) && !(cE dl oc dc (sB s) (sT s)).2)=_;rw [Bool.and_comm]
def uA(f:List Int→Int × Bool)(S:Lqq)(k:List Int):Int:=if (f k).2 then -1 else 1+(bFy f S (f k).1:Int)
theorem bMd(hs:sk.Pairwise fun a b=>a.getD 0 0<b.getD 0 0){k:List Int}(hk:k∈sk) :
  (bL dl oc dc sk).find? (fun y=>decide (y.getD 0 0=k.getD 0 0))=some [k.getD 0 0,uA (fun s=>cE dl oc dc (sB s) (sT s)) sk k,(cE dl oc dc (sB k) (sT k)).1]:=by
 obtain ⟨_,q2,q3⟩:=aPg (dl:=dl) (oc:=oc) (dc:=dc) hs;have hn:(aP sk 0).Nodup:=by
  unfold aP;rw [List.Nodup,List.pairwise_map];exact hs.imp fun h=>by omega
 cases hf:(bL dl oc dc sk).find? (fun y=>decide (y.getD 0 0=k.getD 0 0)) with
 | none =>
  exfalso
  have hno:=xT.1 hf;have hno':∀ y∈bL dl oc dc sk,y.getD 0 0≠k.getD 0 0:=fun y hy e=>hno y hy (decide_eq_true e)
  cases ho:(cE dl oc dc (sB k) (sT k)).2 with
  | true =>
   refine hno' [sB k,-1,0] (aDf _ ?_) rfl;unfold fR;exact kQ9.2 ⟨k,nA.2 ⟨hk,ho⟩,rfl⟩
  | false =>
   have s1:=qL (f:=fun x:List Int=>x.getD 2 0) (fun x y=>aKo 2 x y) (fH dl oc dc sk)
   have hm:[sB k,0,(cE dl oc dc (sB k) (sT k)).1]∈isort (ltK 2) (fH dl oc dc sk):=by
    rw [tK];unfold fH;exact kQ9.2 ⟨k,nA.2 ⟨hk,by rw [ho];rfl⟩,rfl⟩
   have hmem:[sB k,(mC (isort (ltK 2) (fH dl oc dc sk)) (cE dl oc dc (sB k) (sT k)).1:Int)+1,(cE dl oc dc (sB k) (sT k)).1]∈bL dl oc dc sk:=by
    unfold bL;rw [aFc _ s1];exact nZ _ (kQ9.2 ⟨_,hm,rfl⟩)
   exact hno' _ hmem rfl
 | some y =>
  have hy:=tQ hf;have hb:y.getD 0 0=k.getD 0 0:=by simpa using aNj hf
  obtain ⟨y0,y1,y2,rfl⟩:=len3 (kK y hy);obtain ⟨s,h1,h2,h3⟩:=q3 _ hy;obtain rfl:s=k:=aKf hn h1 hk (h2.trans hb);have h3':cE dl oc dc (sB s) (sT s)=(y2,decide (y1 = -1)):=h3;have hb':y0=s.getD 0 0:=hb;rw [Option.some.injEq,hb',h3']
  congr 2
  unfold uA;dsimp only
  by_cases hy1:y1 = -1
  ·rw [if_pos (by rw [h3'];exact decide_eq_true hy1)];exact hy1
  ·rw [if_neg (by rw [h3'];simpa using hy1),h3']
   have:=q2 _ hy hy1;rw [aPh hs] at this
   exact this
end
theorem cAe{sk:Lqq}(hn:(aP sk 0).Nodup){s:List Int}(hs:s∈sk):∃ i:Nat,kW sk (s.getD 0 0)=(i:Int)∧sk[i]? = some s:=by
 rcases bBh sk (s.getD 0 0) with ⟨i,x,h1,h2,h3⟩ | ⟨_,h2⟩
 ·exact ⟨i,h1,by rw [h2,aKf hn (kQ5 h2) hs h3]⟩
 ·exact absurd (kQ9.2 ⟨s,hs,rfl⟩) h2
end
section
section
variable {dl:Int} {oc:List Int} {D:Lqq} {x:List Int}
theorem xH{α β:Type}(f g:β→α→β):∀ (l:List α) (b:β),(∀ x∈l,∀ b,f b x=g b x)→l.foldl f b=l.foldl g b
 | [],_,_=>rfl
 | x::l,b,h=>by
  rw [rU,rU,h x (gY ..),xH f g l _ fun y hy=>h y (kQ6 _ hy)]
end
end
section
section
variable {dl:Int} {oc:List Int} {D:Lqq} {x:List Int}
end
theorem aPe{dl:Int}{D:Lqq}{u:List Int}(hd:D.Pairwise fun a b=>dN a<dN b)(hu:u.Sublist (aN dl D)):aAs dl D u=0:=by
 have h1:(aN dl D).Pairwise (· < ·):=by
  unfold aN;rw [List.pairwise_map];exact hd.sublist List.filter_sublist
 have h2:=h1.sublist hu;unfold aAs;rw [if_pos (gA.2 fun n hn=>by
  unfold ocB;rw [List.contains_iff_mem];exact hu.subset hn),if_pos]
 unfold sP;rw [gA];intro i hi;have hi:=lH.1 hi
 rcases Nat.eq_zero_or_pos i with rfl | h0
 ·rfl
 ·rw [xV]
  refine .inr (decide_eq_true ?_);have:=List.pairwise_iff_getElem.1 h2 (i-1) i (by omega) hi (by omega)
  rw [kQ4,kQ4,kQ0 hi,kQ0 (show i-1<u.length by omega)]
  exact this
theorem tP{dl:Int}{sk dc:Lqq}(h:bG dl sk dc):(aA sk).Pairwise fun a b=>a.getD 0 0<b.getD 0 0:=by
 have h1:=qJ sk;have h2:(aA sk).Pairwise fun a b=>a.getD 0 0≠b.getD 0 0:=by
  have:=zW h.ns;unfold aP at this
  exact List.pairwise_map.1 this
 exact (h1.and h2).imp fun {a b} h=>by have:=h.1;have:=h.2;omega
theorem aBm{dl:Int}{oc:List Int}{sk dc D:Lqq}(h:bG dl sk dc){k:List Int}(hk:k∈aA sk):kN (bL dl oc D (aA sk)) (k.getD 0 0)=[k.getD 0 0,uA (fun s=>cE dl oc D (sB s) (sT s)) (aA sk) k,(cE dl oc D (sB k) (sT k)).1]:=by
 unfold kN;rw [bMd (tP h) hk];rfl
end
section
theorem yX{α:Type}{p q:α→Bool}:∀ {l:List α},(∀ s∈l,p s=false→q s=false)→(l.filter p).find? q=l.find? q
 | [],_=>rfl
 | a::l,h=>by
  have ih:=yX (p:=p) (q:=q) (l:=l) fun s hs=>h s (kQ6 _ hs)
  cases hp:p a with
  | true=>rw [List.filter_cons_of_pos hp,List.find?_cons,List.find?_cons,ih]
  | false=>rw [List.filter_cons_of_neg (by rw [hp];exact Bool.false_ne_true),List.find?_cons_of_neg (by rw [h a (gY ..) hp];exact Bool.false_ne_true),ih]
section
variable {dl:Int} {oc:List Int} {R:List Int→Bool}
end
theorem cAd{dl:Int}{oc:List Int}{L:Lqq}{s:DS}(h:s∈fE dl oc L):s.x∈L:=by
 have:s.x∈(fE dl oc L).map (·.x):=kQ9.2 ⟨s,h,rfl⟩
 rwa [aKe] at this
end
section
section
variable {dl:Int} {oc oc':List Int}
end
section
variable {dl:Int} {oc oc':List Int} {F:List Int→Int}
end
section
variable {dc:Lqq}
theorem aFb(hd:bZ dc):∀ (k:Nat) (x:List Int),x∈dc→dN x<(k:Int)→lI dc k x=lI dc (k+1) x
 | 0,x,hx,hk=>by have:=eX hd hx;omega
 | k+1,x,hx,hk=>by
  unfold lI
  by_cases h4:dK x≤4
  ·rw [if_pos h4,if_pos h4]
  ·rw [if_neg h4,if_neg h4]
   cases h:ofN dc (dAb x) with
   | none=>rfl
   | some y =>
    obtain ⟨h1,h2⟩:=sC h;have ho:=hd.ord _ hx;unfold orB at ho
    rw [if_neg (show ¬ x.getD 1 0≤4 from h4)] at ho
    have ho2:=cH.1 ho;have h3:dAb x≤dN x-1:=ho2.2;exact aFb hd k y h1 (by omega)
theorem aUy(hd:bZ dc){s y:List Int}(hs:s∈dc)(hy:y∈dc)(e:dAb s=dN y):lJ dc s=lJ dc y:=by
 have hk:¬ dK s≤4:=fun h4=>by
  have ho:=hd.ord _ hs;unfold orB at ho
  rw [if_pos (show s.getD 1 0≤4 from h4)] at ho
  have h0:dAb s=0:=by simpa using ho
  have:=eX hd hy;omega
 unfold lJ;have e1:lI dc (10000+1) s=lI dc 10000 y:=by
  conv=>lhs;unfold lI
  rw [if_neg hk,e,aBb hd hy]
 rw [e1];exact aFb hd 10000 y hy (by have:=eX hd hy;omega)
theorem bMc{y:List Int}(h:dK y≤4):lJ dc y=dB y:=by
 unfold lJ lI;rw [if_pos h]
end
end
section
theorem bSf{s k j:Nat}(h:j<k):(s+2 ^ k) / 2 ^ j % 2=s / 2 ^ j % 2:=by
 obtain ⟨m,rfl⟩:∃ m,k=j+(m+1):=⟨k-j-1,by omega⟩
 have e:2 ^ (j+(m+1))=2 ^ j*(2*2 ^ m):=by rw [Nat.pow_add,Nat.pow_succ,bHs (2 ^ m) 2]
 rw [e,Nat.add_mul_div_left _ _ (Nat.two_pow_pos j)];omega
theorem bSg{s k:Nat}(h:s<2 ^ k):(s+2 ^ k) / 2 ^ k % 2=1:=by
 rw [Nat.add_div_right _ (Nat.two_pow_pos k),Nat.div_eq_of_lt h]
theorem bMa{s k:Nat}(h:s<2 ^ k):s / 2 ^ k % 2=0:=by
 rw [Nat.div_eq_of_lt h]
theorem tO(q:List Int)(s k:Nat):fC q s (k+1)=fC q s k++(if s / 2 ^ k % 2 == 1 then [q.getD k 0] else []):=by
 unfold fC;rw [List.range_succ,lR,gJ]
 congr 1
 by_cases h:(s / 2 ^ k % 2 == 1)=true
 ·rw [if_pos h,List.filter_cons_of_pos (p:=fun j=>s / 2 ^ j % 2 == 1) h];rfl
 ·rw [if_neg h,List.filter_cons_of_neg (p:=fun j=>s / 2 ^ j % 2 == 1) h];rfl
theorem vO(q r:List Int)(s s':Nat):∀ k,k≤q.length→(∀ j,j<k→s / 2 ^ j % 2=s' / 2 ^ j % 2)→fC (q++r) s k=fC q s' k
 | 0,_,_=>rfl
 | k+1,hk,h=>by
  rw [tO,tO,vO q r s s' k (by omega) (fun j hj=>h j (by omega)),h k (by omega)]
  congr 2
  rw [kQ4,kQ4,aAh (by omega)]
theorem bSh{n:Int}{u:List Int}(h:u.Sublist [n]):u=[]∨u=[n]:=by
 cases u with
 | nil=>exact .inl rfl
 | cons a t =>
  have hl:=h.length_le;rw [qZ,List.length_singleton] at hl
  have ht:t=[]:=aDe (by omega)
  have ha:a=n:=List.mem_singleton.1 (h.subset (gY ..));rw [ht,ha];exact .inr rfl
theorem bMb(q:List Int):∀ u:List Int,u.Sublist q→u∈gL q:=by
 refine aPf (Q:=fun q=>∀ u:List Int,u.Sublist q→u∈gL q) ?_ ?_ q
 ·intro u hu
  rw [List.sublist_nil.1 hu];exact gY ..
 ·intro q n ih u hu
  obtain ⟨u1,u2,rfl,h1,h2⟩:=List.sublist_append_iff.1 hu;obtain ⟨s,hs,e⟩:=kQ9.1 (ih u1 h1);have hs:s<2 ^ q.length:=lH.1 hs;have hl:(q++[n]).length=q.length+1:=by simp
  have hg:(q++[n]).getD q.length 0=n:=by rw [kQ4,aAg (by omega)];simp
  unfold gL;rw [hl]
  rcases bSh h2 with rfl | rfl
  ·refine kQ9.2 ⟨s,lH.2 (by rw [Nat.pow_succ];omega),?_⟩
   rw [tO,vO q [n] s s q.length (dM _) (fun _ _=>rfl),e,bMa hs]
   rfl
  ·refine kQ9.2 ⟨s+2 ^ q.length,lH.2 (by rw [Nat.pow_succ];omega),?_⟩
   rw [tO,vO q [n] (s+2 ^ q.length) s q.length (dM _) (fun j hj=>bSf hj),e,bSg hs,hg]
   rfl
section
variable {dl:Int} {sk dc:Lqq}
end
end
section

end
section

end
section
theorem aLj{dl:Int}{oc:List Int}{D:Lqq}{b:Int}(hd:bZ D):∀ (l:Lqq) (o:Bool) (t:Int),(∀ x∈l,x∈D)→(l.foldl (aFq dl oc D b) (o,t)).2≤t+43200000*(l.length:Int)
 | [],o,t,_=>by simp
 | x::l,o,t,h=>by
  have hm:=aWb (dl:=dl) (oc:=oc) hd (h x (gY ..));have hl:=fun y hy=>h y (kQ6 _ hy)
  rw [rU,qZ];unfold aFq;dsimp only
  by_cases hh:aSg dl oc D b x=true
  ·rw [if_pos hh]
   have ih:=aLj (dl:=dl) (oc:=oc) (b:=b) hd l (o || dK x == 3) (byI (dK x) t (pH dl oc D x)) hl
   unfold aFq at ih
   have:byI (dK x) t (pH dl oc D x)≤t+43200000:=by unfold byI;repeat' split <;> omega
   omega
  ·rw [if_neg hh]
   have ih:=aLj (dl:=dl) (oc:=oc) (b:=b) hd l o t hl;unfold aFq at ih
   omega
theorem aLk{dl:Int}{oc:List Int}{D:Lqq}{b t:Int}(hd:bZ D)(ht:t≤360000):0≤(cE dl oc D b t).1∧(cE dl oc D b t).1≤100000000000:=by
 have h:=aLj (dl:=dl) (oc:=oc) (b:=b) hd D (t == -1) t fun _ h=>h
 have hl:=hd.len;have h2:(aJu dl oc D b t).2≤t+43200000*(D.length:Int):=h;unfold cE
 split
 ·exact ⟨by simp,by simp⟩
 ·show 0≤max 0 (aJu dl oc D b t).2∧max 0 (aJu dl oc D b t).2≤100000000000
  omega
end
section
theorem bLz{q u:List Int}(h:u∈gL q):u.Sublist q:=by
 obtain ⟨s,_,rfl⟩:=kQ9.1 h;have e:((List.range q.length).map fun j=>q.getD j 0)=q:=by
  apply List.ext_getElem (by simp)
  intro i h1 h2;simp [kQ4,kQ0 h2]
 have h2:(fC q s q.length).Sublist ((List.range q.length).map fun j=>q.getD j 0):=by
  unfold fC;exact List.filter_sublist.map _
 rwa [e] at h2
theorem aBl(dl:Int)(dc:Lqq)(b:Int):(jK dl dc b).Sublist (aN dl dc):=List.filter_sublist
section
variable {dl:Int} {sk dc:Lqq}
end
end
section
theorem bSi{dl:Int}{D:Lqq}{u:List Int}(h2:u.Pairwise (· < ·))(hu:∀ n∈u,n∈aN dl D):aAs dl D u=0:=by
 unfold aAs;rw [if_pos (gA.2 fun n hn=>by
  unfold ocB;rw [List.contains_iff_mem];exact hu n hn),if_pos]
 unfold sP;rw [gA];intro i hi;have hi:=lH.1 hi
 rcases Nat.eq_zero_or_pos i with rfl | h0
 ·rfl
 ·rw [xV]
  refine .inr (decide_eq_true ?_);have:=List.pairwise_iff_getElem.1 h2 (i-1) i (by omega) hi (by omega)
  rw [kQ4,kQ4,kQ0 hi,kQ0 (show i-1<u.length by omega)]
  exact this
theorem aPi{dl:Int}{D:Lqq}(hd:bZ D):(aN dl D).Pairwise (· < ·):=by
 unfold aN;rw [List.pairwise_map];exact hd.up.sublist List.filter_sublist
theorem bSj{l:List Int}(h:l.Nodup):(l.mergeSort KL.leB).Pairwise (· < ·):=by
 have h1:(l.mergeSort KL.leB).Pairwise fun a b=>KL.leB a b=true:=List.pairwise_mergeSort (fun a b c h1 h2=>by simp only [KL.leB,decide_eq_true_eq] at *;omega) (fun a b=>by simp only [KL.leB,xV,decide_eq_true_eq];omega) l
 have h2:(l.mergeSort KL.leB).Nodup:=(List.mergeSort_perm l KL.leB).nodup_iff.2 h;exact (h1.and h2).imp fun {a b} q=>by
  have q1:a≤b:=of_decide_eq_true q.1;have q2:a≠b:=q.2;omega
end
section
section
variable {dl:Int} {oc oc':List Int} {F:List Int→Int}
theorem aPa{P:Int→Bool}:∀ {L:Lqq},bZ L→(∀ s∈L,∀ y∈L,dAb s=dN y→F s=F y)→(∀ y∈L,P (F y)=true→oc.contains (dN y)=oc'.contains (dN y))→(fE dl oc L).filter (fun s=>P (F s.x))=(fE dl oc' L).filter (fun s=>P (F s.x))
 | [],_,_,_=>rfl
 | y::L,hd,hF,ho=>by
  have ih:=aPa (P:=P) hd.tail (fun s hs z hz=>hF s (kQ6 _ hs) z (kQ6 _ hz)) fun z hz=>ho z (kQ6 _ hz)
  have ex:∀ q,(mkS dl q y (fE dl q L)).x=y:=fun _=>rfl
  cases hy:P (F y) with
  | false=>rw [fE,fE,List.filter_cons_of_neg (by rw [ex,hy];exact Bool.false_ne_true),List.filter_cons_of_neg (by rw [ex,hy];exact Bool.false_ne_true),ih]
  | true =>
   rw [fE,fE,List.filter_cons_of_pos (by rw [ex,hy]),List.filter_cons_of_pos (by rw [ex,hy]),ih]
   congr 1
   have key:∀ q,jI (fE dl q L) (dN y)=jI ((fE dl q L).filter fun s=>P (F s.x)) (dN y):=fun q=>by
    unfold jI;rw [← List.filter_reverse,List.filter_filter];refine List.filter_congr fun s hs => ?_
    cases e:dAb s.x == dN y with
    | false=>rfl
    | true =>
     have e:dAb s.x=dN y:=by simpa using e
     have:=hF s.x (kQ6 _ (cAd (aAk.1 hs))) y (gY ..) e;rw [this,hy];rfl
   have e:jI (fE dl oc L) (dN y)=jI (fE dl oc' L) (dN y):=by rw [key,key,ih]
   unfold mkS;rw [e,ho y (gY ..) hy]
theorem bLx{P:Int→Bool}{L:Lqq}(hd:bZ L)(hF:∀ s∈L,∀ y∈L,dAb s=dN y→F s=F y)(ho:∀ y∈L,P (F y)=true→oc.contains (dN y)=oc'.contains (dN y)){y:List Int}(hm:y∈L)(hy:P (F y)=true):stF dl oc L y=stF dl oc' L y:=by
 have h:=aPa (dl:=dl) (P:=P) hd hF ho;have key:∀ q,(fE dl q L).find? (fun s=>s.x == y)=((fE dl q L).filter fun s=>P (F s.x)).find? (fun s=>s.x == y):=fun q=>(yX fun s _ hs=>by
  cases e:s.x == y with
  | false=>rfl
  | true =>
   have e:s.x=y:=by simpa using e
   rw [e,hy] at hs
   cases hs).symm
 have hs:((fE dl oc L).find? fun s=>s.x == y).isSome=true:=by
  rw [List.find?_isSome];have hm:=hm;rw [← aKe dl oc L] at hm
  obtain ⟨s,h1,h2⟩:=kQ9.1 hm;exact ⟨s,h1,by rw [h2];exact beq_self_eq_true y⟩
 have e:(fE dl oc L).find? (fun s=>s.x == y)=(fE dl oc' L).find? (fun s=>s.x == y):=by rw [key oc,key oc',h]
 obtain ⟨s,hs1⟩:=Option.isSome_iff_exists.1 hs;unfold stF;rw [← e,hs1];rfl
theorem aIf{D:Lqq}(hd:bZ D){c t:Int}(ho:∀ y∈D,lJ D y=c→oc.contains (dN y)=oc'.contains (dN y)):cE dl oc D c t=cE dl oc' D c t:=by
 have e:aJu dl oc D c t=aJu dl oc' D c t:=by
  unfold aJu;refine xH _ _ _ _ fun y hy a => ?_
  unfold aFq aSg
  by_cases h4:dK y≤4
  ·by_cases hb:dB y=c
   ·have hs:stF dl oc D y=stF dl oc' D y:=bLx (F:=lJ D) (P:=fun b=>decide (b=c)) hd (fun s hs y hy e=>aUy hd hs hy e) (fun y hy h=>ho y hy (of_decide_eq_true h)) hy (decide_eq_true ((bMc h4).trans hb))
    unfold dY aFs pH;rw [hs]
   ·rw [show (dB y == c)=false by simpa using hb];simp
  ·rw [decide_eq_false h4];simp
 unfold cE;rw [e]
end
section
variable {dl:Int} {sk dc:Lqq}
def lM(dl:Int)(D:Lqq)(u:List Int)(s:List Int):Int:=(chM dl D (s.getD 0 0) (s.getD 1 0) u).1
theorem bLy(hr:bG dl sk dc){s:List Int}(hs:s∈aA sk)(u:List Int):0≤lM dl (aA dc) u s∧lM dl (aA dc) u s≤far:=by
 obtain ⟨_,_,h3,_⟩:=lE hr;have hb:=aLk (dl:=dl) (oc:=u) (b:=s.getD 0 0) (eA hr) (h3 s hs).2;unfold lM chM;dsimp only
 split
 ·exact ⟨by decide,aNk _⟩
 ·exact ⟨hb.1,Int.le_trans hb.2 (by decide)⟩
theorem cAc(hr:bG dl sk dc){s:List Int}(hs:s∈aA sk){u:List Int}{t:Int}(ht:t≤100000000000):decide (lM dl (aA dc) u s<t)=(!(cE dl u (aA dc) (sB s) (sT s)).2 && decide ((cE dl u (aA dc) (sB s) (sT s)).1<t)):=by
 unfold lM chM;dsimp only;cases h:(cE dl u (aA dc) (s.getD 0 0) (s.getD 1 0)).2 with
 | true =>
  rw [if_pos rfl];have:¬ (far<t):=by
   have:(far:Int)=1099511627776:=rfl;omega
  rw [decide_eq_false this];rfl
 | false =>
  rw [if_neg Bool.false_ne_true];rfl
theorem bSs(hd:bZ (aA dc)){y:List Int}(hy:y∈aA dc):tZ (aA dc) (dN y)=lJ (aA dc) y:=by unfold tZ;rw [aBb hd hy]
theorem aXj(hr:bG dl sk dc)(u:List Int)(s:List Int):chM dl (aA dc) (s.getD 0 0) (s.getD 1 0) u=((chM dl (aA dc) (s.getD 0 0) (s.getD 1 0) (u.filter fun n => !(tZ (aA dc) n != s.getD 0 0))).1,(chM dl (aA dc) (s.getD 0 0) (s.getD 1 0) (u.filter fun n => !(tZ (aA dc) n != s.getD 0 0))).2.1,u):=by
 have hd:=eA hr;have e:cE dl u (aA dc) (s.getD 0 0) (s.getD 1 0)=cE dl (u.filter fun n => !(tZ (aA dc) n != s.getD 0 0)) (aA dc) (s.getD 0 0) (s.getD 1 0):=aIf hd fun y hy h=>by
  rw [Bool.eq_iff_iff,List.contains_iff_mem,List.contains_iff_mem,nA,bSs hd hy,h];simp
 unfold chM;rw [e]
theorem aIg(hr:bG dl sk dc){u:List Int}(hu:u.Sublist (aN dl (aA dc)))(s:List Int):∃ x∈(gM dl (aA dc) (s.getD 0 0) (s.getD 1 0) (jK dl (aA dc) (s.getD 0 0))).1,x.1=lM dl (aA dc) u s∧x.2.1=(cE dl u (aA dc) (sB s) (sT s)).2:=by
 have hf:(u.filter fun n => !(tZ (aA dc) n != s.getD 0 0)).Sublist (jK dl (aA dc) (s.getD 0 0)):=hu.filter _
 refine ⟨_,kQ9.2 ⟨_,bMb _ _ hf,rfl⟩,?_,?_⟩
 ·unfold lM
  rw [aXj hr u s]
 ·have:=congrArg (fun x:aS=>x.2.1) (aXj hr u s)
  exact this.symm
theorem cBk{l:List aS}{x:aS}(hx:x∈l):mnM l≤x.1:=(aOr l far).2 x hx
theorem bSt{l:List aS}{x:aS}(hx:x∈l):x.1≤mxM l:=(aOs l 0).2 x hx
def aLi(dl:Int)(D:Lqq)(S:Lqq)(u:List Int)(t:Int)(n:Nat):Nat:=((S.take n).filter fun s=>decide (lM dl D u s<t)).length
theorem aIh{D S:Lqq}{u:List Int}{t:Int}{n:Nat}{s:List Int}(hs:S[n]? = some s):aLi dl D S u t (n+1)=aLi dl D S u t n+(if lM dl D u s<t then 1 else 0):=by
 unfold aLi;rw [List.take_add_one,hs];show ((S.take n++[s]).filter _).length=_;rw [lR,kT]
 congr 1
 by_cases h:lM dl D u s<t
 ·rw [if_pos h,List.filter_cons_of_pos (p:=fun s=>decide (lM dl D u s<t)) (decide_eq_true h)];rfl
 ·rw [if_neg h,List.filter_cons_of_neg (p:=fun s=>decide (lM dl D u s<t)) (by show ¬ decide (lM dl D u s<t)=true;rw [decide_eq_false h];exact Bool.false_ne_true)];rfl
theorem aPb(hr:bG dl sk dc){u:List Int}(hu:u.Sublist (aN dl (aA dc))){i:Nat}{si:List Int}(hi:(aA sk)[i]? = some si){t:Int}(ht:t=lM dl (aA dc) u si):∀ n,n≤(aA sk).length→(dA (aE dl (aA sk) (aA dc)) i t n).1≤aLi dl (aA dc) (aA sk) u t n∧aLi dl (aA dc) (aA sk) u t n≤(dA (aE dl (aA sk) (aA dc)) i t n).2
 | 0,_=>⟨Nat.zero_le _,Nat.zero_le _⟩
 | n+1,hn=>by
  obtain ⟨ih1,ih2⟩:=aPb hr hu hi ht n (by omega)
  have hs:(aA sk)[n]? = some (aA sk)[n]:=kQ0 (by omega)
  rw [aIh hs];unfold dA;rw [eV hs];dsimp only
  by_cases hin:n=i
  ·rw [if_pos hin]
   have e:si=(aA sk)[n]:=by subst hin;rw [hs] at hi;exact (Option.some.inj hi).symm
   rw [if_neg (by rw [← e,← ht];omega)]
   exact ⟨ih1,ih2⟩
  ·rw [if_neg hin]
   obtain ⟨x,hx,hx1,_⟩:=aIg hr hu (aA sk)[n];have h1:=cBk hx;have h2:=bSt hx;rw [hx1] at h1 h2
   have hmm:(gM dl (aA dc) ((aA sk)[n].getD 0 0) ((aA sk)[n].getD 1 0) (jK dl (aA dc) ((aA sk)[n].getD 0 0))).2.1≤lM dl (aA dc) u (aA sk)[n]∧lM dl (aA dc) u (aA sk)[n]≤(gM dl (aA dc) ((aA sk)[n].getD 0 0) ((aA sk)[n].getD 1 0) (jK dl (aA dc) ((aA sk)[n].getD 0 0))).2.2:=⟨h1,h2⟩;obtain ⟨h1,h2⟩:=hmm;dsimp only;constructor
   ·split <;> split <;> omega
   ·split <;> split <;> omega
theorem aPc(hr:bG dl sk dc){u:List Int}{t:Int}(ht:t≤100000000000):bFy (fun s=>cE dl u (aA dc) (sB s) (sT s)) (aA sk) t=aLi dl (aA dc) (aA sk) u t (aA sk).length:=by
 unfold bFy aLi;rw [List.take_length]
 congr 1
 exact List.filter_congr fun s hs=>(cAc hr hs ht).symm
theorem aPd{l:List Int}{n:Int}:n∈Lib.compact l↔n∈l:=by
 unfold Lib.compact Lib.compactUpTo;have ea:∀ j,(hj:j<l.length)→l.toArray[j]! = l[j]:=fun j hj=>by
  rw [getElem!_pos l.toArray j (by simpa using hj)];simp
 constructor
 ·intro h
  obtain ⟨j,hj,rfl⟩:=kQ9.1 h;have hj:=lH.1 (nA.1 hj).1;rw [ea j hj];exact gS hj
 ·intro h
  obtain ⟨j,hj,rfl⟩:=List.getElem_of_mem h
  suffices H:∀ j,(hj:j<l.length)→∃ k∈(List.range l.length).filter (Lib.keeps l.toArray),l.toArray[k]! = l[j] from by
   obtain ⟨k,hk,e⟩:=H j hj;exact kQ9.2 ⟨k,hk,e⟩
  intro j
  induction j with
  | zero=>exact fun hj=>⟨0,nA.2 ⟨lH.2 hj,Lib.keeps_lt_one _ 0 (by omega)⟩,ea 0 hj⟩
  | succ j ih =>
   intro hj
   by_cases he:l[j+1]=l[j]
   ·obtain ⟨k,hk,e⟩:=ih (by omega)
    exact ⟨k,hk,e.trans he.symm⟩
   ·refine ⟨j+1,nA.2 ⟨lH.2 hj,Lib.keeps_pos ?_⟩,ea (j+1) hj⟩
    rw [ea (j+1) hj,Nat.add_sub_cancel,ea j (by omega)]
    exact he
theorem tN{al:List eM}{i:Nat}{c:List aS}{n:Int}:n∈cU al i c↔∃ x∈c,x.2.1=false∧((bM al i x.1).1:Int)+1≤n∧n≤((bM al i x.1).2:Int)+1:=by
 unfold cU;rw [aPd,(List.mergeSort_perm _ _).mem_iff,List.mem_flatMap];constructor
 ·rintro ⟨x,hx,hn⟩
  unfold chL at hn
  cases ho:x.2.1 with
  | true=>rw [ho] at hn;cases hn
  | false =>
   rw [ho,if_neg Bool.false_ne_true] at hn
   unfold aFx at hn
   obtain ⟨j,hj,rfl⟩:=kQ9.1 hn;have hj:=lH.1 hj;exact ⟨x,hx,ho,by omega,by omega⟩
 ·rintro ⟨x,hx,ho,h1,h2⟩
  refine ⟨x,hx,?_⟩;unfold chL aFx;rw [ho,if_neg Bool.false_ne_true];exact kQ9.2 ⟨(n-1-((bM al i x.1).1:Int)).toNat,lH.2 (by omega),by omega⟩
theorem aFa(hr:bG dl sk dc){u:List Int}(hu:u.Sublist (aN dl (aA dc))){i:Nat}{s:List Int}(hi:(aA sk)[i]? = some s) :
  if (cE dl u (aA dc) (sB s) (sT s)).2 then ((gM dl (aA dc) (s.getD 0 0) (s.getD 1 0) (jK dl (aA dc) (s.getD 0 0))).1.any fun x=>x.2.1)=true∧uA (fun s=>cE dl u (aA dc) (sB s) (sT s)) (aA sk) s = -1
  else uA (fun s=>cE dl u (aA dc) (sB s) (sT s)) (aA sk) s∈cU (aE dl (aA sk) (aA dc)) i (gM dl (aA dc) (s.getD 0 0) (s.getD 1 0) (jK dl (aA dc) (s.getD 0 0))).1:=by
 have hs:=kQ5 hi;obtain ⟨x,hx,hx1,hx2⟩:=aIg hr hu s;cases ho:(cE dl u (aA dc) (sB s) (sT s)).2 with
 | true =>
  rw [if_pos rfl];refine ⟨List.any_eq_true.2 ⟨x,hx,by rw [hx2,ho]⟩,?_⟩
  unfold uA;rw [ho,if_pos rfl]
 | false =>
  rw [if_neg Bool.false_ne_true];obtain ⟨_,_,h3,_⟩:=lE hr;have hb:=aLk (dl:=dl) (oc:=u) (b:=sB s) (eA hr) (h3 s hs).2;have hv:lM dl (aA dc) u s=(cE dl u (aA dc) (sB s) (sT s)).1:=by
   unfold lM chM;dsimp only;have ho:(cE dl u (aA dc) (s.getD 0 0) (s.getD 1 0)).2=false:=ho;rw [ho];rfl
  refine tN.2 ⟨x,hx,by rw [hx2,ho],?_⟩
  rw [hx1];unfold uA;rw [ho,if_neg Bool.false_ne_true,← hv,aPc hr (by rw [hv];exact hb.2)]
  have hc:=aPb hr hu hi rfl (aA sk).length (dM _);have e:(aE dl (aA sk) (aA dc)).length=(aA sk).length:=gH ..;show ((dA (aE dl (aA sk) (aA dc)) i (lM dl (aA dc) u s) (aE dl (aA sk) (aA dc)).length).1:Int)+1≤_∧_≤((dA (aE dl (aA sk) (aA dc)) i (lM dl (aA dc) u s) (aE dl (aA sk) (aA dc)).length).2:Int)+1;rw [e];omega
end
end
section
def iN(t mo:Int)(h:eM):Bool:=decide (h.2.2<t) || (decide (h.2.1<t) && decide (0<mo))
def moM(t mo:Int)(h:eM):Int:=if h.2.2<t then mo else if h.2.1<t then (if 0<mo then mo-1 else mo) else mo
def gC(t:Int)(le:Bool)(c:List aS):aS:=c.getD (bK (fun x=>decide (x.1<t) == le) c).toNat (0,false,[])
def gD(al:List eM)(i:Nat)(t mo0:Int)(q0:List Int):Nat→List Int × Int
 | 0=>(q0,mo0)
 | k+1=>match al[k]? with
  | some h=>if k=i then gD al i t mo0 q0 k else ((gD al i t mo0 q0 k).1++(gC t (iN t (gD al i t mo0 q0 k).2 h) h.1).2.2,moM t (gD al i t mo0 q0 k).2 h)
  | none=>gD al i t mo0 q0 k
def aLe(al:List eM)(i:Nat)(pl:Int)(x:aS):Bool:=if x.2.1 then decide (pl = -1) else within pl (((bM al i x.1).1+1:Nat):Int) (((bM al i x.1).2+1:Nat):Int)
def xF(al:List eM)(i:Nat)(pl:Int)(f:aS):List Int:=(gD al i f.1 (pl-1-((bM al i f.1).1:Int)) f.2.2 al.length).1
def aAt(al:List eM)(i:Nat)(pl:Int)(c:List aS):Option (List Int):=(c.find? (aLe al i pl)).map fun f=>(xF al i pl f).mergeSort KL.leB
theorem lA(t:Int)(le:Bool){c:List aS}(hc:c≠[]):(∃ j:Nat,bK (fun x=>decide (x.1<t) == le) c=(j:Int)∧c[j]? = some (gC t le c)∧decide ((gC t le c).1<t)=le)∨(bK (fun x=>decide (x.1<t) == le) c = -1∧c[0]? = some (gC t le c)∧∀ x∈c,decide (x.1<t)≠le):=by
 have h0:0<c.length:=List.length_pos_iff.2 hc;cases hf:c.findIdx? (fun x=>decide (x.1<t) == le) with
 | some j =>
  obtain ⟨hj,h1,_⟩:=List.findIdx?_eq_some_iff_getElem.1 hf;have e:bK (fun x:aS=>decide (x.1<t) == le) c=(j:Int):=by unfold bK;rw [hf]
  have ep:gC t le c=c[j]:=by
   unfold gC;rw [e,bHq,kQ4,kQ0 hj];rfl
  refine .inl ⟨j,e,by rw [ep,kQ0 hj],?_⟩
  rw [ep];simpa using h1
 | none =>
  have e:bK (fun x:aS=>decide (x.1<t) == le) c = -1:=by unfold bK;rw [hf]
  have ep:gC t le c=c[0]:=by
   unfold gC;rw [e,kQ4,show (-1:Int).toNat=0 from rfl,kQ0 h0];rfl
  refine .inr ⟨e,by rw [ep,kQ0 h0],fun x hx => ?_⟩
  have:=List.findIdx?_eq_none_iff.1 hf x hx;simpa using this
theorem aXh(t:Int)(le:Bool){c:List aS}(hc:c≠[]):gC t le c∈c:=by
 rcases lA t le hc with ⟨j,_,h,_⟩ | ⟨_,h,_⟩
 ·exact kQ5 h
 ·exact kQ5 h
theorem cAa(l:List aS):mnM l=far∨∃ x∈l,x.1=mnM l:=by
 unfold mnM
 suffices H:∀ (l:List aS) (m:Int),l.foldl (fun m x=>if x.1<m then x.1 else m) m=m∨∃ x∈l,x.1=l.foldl (fun m x=>if x.1<m then x.1 else m) m from H l far
 intro l
 induction l with
 | nil=>exact fun m => .inl rfl
 | cons y l ih =>
  intro m;rw [rU]
  rcases ih (if y.1<m then y.1 else m) with h | ⟨x,hx,e⟩
  ·rw [h]
   split
   ·exact .inr ⟨y,gY ..,rfl⟩
   ·exact .inl rfl
  ·exact .inr ⟨x,kQ6 _ hx,e⟩
theorem cAb(l:List aS):mxM l=0∨∃ x∈l,x.1=mxM l:=by
 unfold mxM
 suffices H:∀ (l:List aS) (m:Int),l.foldl (fun m x=>if x.1 > m then x.1 else m) m=m∨∃ x∈l,x.1=l.foldl (fun m x=>if x.1 > m then x.1 else m) m from H l 0
 intro l
 induction l with
 | nil=>exact fun m => .inl rfl
 | cons y l ih =>
  intro m;rw [rU]
  rcases ih (if y.1 > m then y.1 else m) with h | ⟨x,hx,e⟩
  ·rw [h]
   split
   ·exact .inr ⟨y,gY ..,rfl⟩
   ·exact .inl rfl
  ·exact .inr ⟨x,kQ6 _ hx,e⟩
section
variable {dl:Int} {sk dc:Lqq}
abbrev hpM(dl:Int)(D:Lqq)(s:List Int):eM:=gM dl D (s.getD 0 0) (s.getD 1 0) (jK dl D (s.getD 0 0))
theorem aOz(D:Lqq)(s:List Int):(hpM dl D s).1≠[]:=fun e=>aWv _ (List.map_eq_nil_iff.1 e)
theorem oQ{D:Lqq}{s:List Int}{x:aS}(hx:x∈(hpM dl D s).1):x=chM dl D (s.getD 0 0) (s.getD 1 0) x.2.2∧x.2.2.Sublist (jK dl D (s.getD 0 0)):=by
 obtain ⟨q,hq,rfl⟩:=kQ9.1 hx;exact ⟨rfl,bLz hq⟩
theorem bLw{D:Lqq}{s:List Int}{x:aS}(hx:x∈(hpM dl D s).1):x.1=lM dl D x.2.2 s:=by
 have:=(oQ hx).1;exact congrArg (fun y:aS=>y.1) this
theorem bFx(hr:bG dl sk dc){s:List Int}(hs:s∈aA sk){t mo:Int}(ht:t≤far):decide ((gC t (iN t mo (hpM dl (aA dc) s)) (hpM dl (aA dc) s).1).1<t)=iN t mo (hpM dl (aA dc) s):=by
 rcases lA t (iN t mo (hpM dl (aA dc) s)) (aOz (aA dc) s) with ⟨j,_,_,h⟩ | ⟨_,_,h⟩
 ·exact h
 ·exfalso
  obtain ⟨y,hy⟩:=bMv _ (aOz (dl:=dl) (aA dc) s);cases hl:iN t mo (hpM dl (aA dc) s) with
  | true =>
   rw [hl] at h
   unfold iN at hl
   rw [xV,kQ7] at hl
   rcases hl with q | ⟨q,_⟩
   ·have q:=of_decide_eq_true q
    have:=bSt hy;have hmx:y.1≤(hpM dl (aA dc) s).2.2:=this;exact h y hy (decide_eq_true (by omega))
   ·have q:=of_decide_eq_true q
    rcases cAa (hpM dl (aA dc) s).1 with e | ⟨x,hx,e⟩
    ·have:(hpM dl (aA dc) s).2.1=far:=e
     omega
    ·have:x.1=(hpM dl (aA dc) s).2.1:=e
     exact h x hx (decide_eq_true (by omega))
  | false =>
   rw [hl] at h
   unfold iN at hl
   rw [Bool.or_eq_false_iff] at hl
   have q:=of_decide_eq_false hl.1
   rcases cAb (hpM dl (aA dc) s).1 with e | ⟨x,hx,e⟩
   ·have e:(hpM dl (aA dc) s).2.2=0:=e
    have hv:=(bLy hr hs y.2.2).1;rw [← bLw hy] at hv
    exact h y hy (decide_eq_false (by omega))
   ·have e:x.1=(hpM dl (aA dc) s).2.2:=e
    exact h x hx (decide_eq_false (by omega))
def chG(al:List eM)(i:Nat)(t mo0:Int)(f:aS)(k:Nat):aS:=if k=i then f else match al[k]? with
 | some h=>gC t (iN t (gD al i t mo0 f.2.2 k).2 h) h.1
 | none=>f
theorem aLf{i:Nat}{t mo0:Int}{f:aS}{si:List Int}(hi:(aA sk)[i]? = some si)(hf:f∈(hpM dl (aA dc) si).1){k:Nat}{s:List Int}(hk:(aA sk)[k]? = some s):chG (aE dl (aA sk) (aA dc)) i t mo0 f k∈(hpM dl (aA dc) s).1:=by
 unfold chG
 by_cases e:k=i
 ·rw [if_pos e]
  subst e;rw [hi] at hk
  cases hk;exact hf
 ·rw [if_neg e,eV hk]
  exact aXh _ _ (aOz (aA dc) s)
theorem aBk{i:Nat}{t mo0:Int}{f:aS}{n:Int}:∀ K,K≤(aA sk).length→(n∈(gD (aE dl (aA sk) (aA dc)) i t mo0 f.2.2 K).1↔n∈f.2.2∨∃ k,k<K∧k≠i∧n∈(chG (aE dl (aA sk) (aA dc)) i t mo0 f k).2.2)
 | 0,_=>⟨.inl,fun h=>h.resolve_right fun ⟨k,hk,_⟩=>by omega⟩
 | K+1,hK=>by
  have ih:=aBk (i:=i) (t:=t) (mo0:=mo0) (f:=f) (n:=n) K (by omega)
  have hs:(aA sk)[K]? = some (aA sk)[K]:=kQ0 (by omega)
  have hat:=eV (dl:=dl) (dc:=aA dc) hs;unfold gD;rw [hat];dsimp only
  by_cases e:K=i
  ·rw [if_pos e,ih]
   constructor
   ·rintro (h | ⟨k,h1,h2,h3⟩)
    ·exact .inl h
    ·exact .inr ⟨k,by omega,h2,h3⟩
   ·rintro (h | ⟨k,h1,h2,h3⟩)
    ·exact .inl h
    ·exact .inr ⟨k,by omega,h2,h3⟩
  ·rw [if_neg e,jB,ih]
   have eg:chG (aE dl (aA sk) (aA dc)) i t mo0 f K=gC t (iN t (gD (aE dl (aA sk) (aA dc)) i t mo0 f.2.2 K).2 (hpM dl (aA dc) (aA sk)[K])) (hpM dl (aA dc) (aA sk)[K]).1:=by
    unfold chG;rw [if_neg e,hat]
   constructor
   ·rintro ((h | ⟨k,h1,h2,h3⟩) | h)
    ·exact .inl h
    ·exact .inr ⟨k,by omega,h2,h3⟩
    ·exact .inr ⟨K,by omega,e,by rw [eg];exact h⟩
   ·rintro (h | ⟨k,h1,h2,h3⟩)
    ·exact .inl (.inl h)
    ·by_cases ek:k=K
     ·subst ek
      rw [eg] at h3
      exact .inr h3
     ·exact .inl (.inr ⟨k,by omega,h2,h3⟩)
theorem aLg{b n:Int}{D:Lqq}(h:n∈jK dl D b):n∈aN dl D∧tZ D n=b:=by
 unfold jK at h
 obtain ⟨h1,h2⟩:=nA.1 h;exact ⟨h1,by simpa using h2⟩
theorem aLh{i:Nat}{t mo0:Int}{f:aS}{si:List Int}(hi:(aA sk)[i]? = some si)(hf:f∈(hpM dl (aA dc) si).1){k:Nat}{s:List Int}(hk:(aA sk)[k]? = some s){n:Int}(hn:n∈(chG (aE dl (aA sk) (aA dc)) i t mo0 f k).2.2):n∈aN dl (aA dc)∧tZ (aA dc) n=s.getD 0 0:=aLg ((oQ (aLf hi hf hk)).2.subset hn)
theorem xG(hr:bG dl sk dc){j k:Nat}{s s':List Int}(hj:(aA sk)[j]? = some s)(hk:(aA sk)[k]? = some s')(e:s.getD 0 0=s'.getD 0 0):j=k:=by
 have hp:=tP hr;obtain ⟨hj1,hj2⟩:=kQ3.1 hj;obtain ⟨hk1,hk2⟩:=kQ3.1 hk
 rcases Nat.lt_trichotomy j k with q | q | q
 ·have:=List.pairwise_iff_getElem.1 hp j k hj1 hk1 q
  rw [hj2,hk2] at this
  omega
 ·exact q
 ·have:=List.pairwise_iff_getElem.1 hp k j hk1 hj1 q
  rw [hj2,hk2] at this
  omega
theorem tM(hr:bG dl sk dc){i:Nat}{t mo0:Int}{f:aS}{si:List Int}(hi:(aA sk)[i]? = some si)(hf:f∈(hpM dl (aA dc) si).1):∀ K,K≤(aA sk).length→(gD (aE dl (aA sk) (aA dc)) i t mo0 f.2.2 K).1.Nodup∧(gD (aE dl (aA sk) (aA dc)) i t mo0 f.2.2 K).1.length≤(aN dl (aA dc)).length*K+(aN dl (aA dc)).length
 | 0,_=>by
  have hsub:=(oQ hf).2.trans (aBl dl (aA dc) (si.getD 0 0));refine ⟨((aPi (dl:=dl) (eA hr)).sublist hsub).imp fun {a b} q e=>by omega,?_⟩
  have:=hsub.length_le;show f.2.2.length≤_;omega
 | K+1,hK=>by
  obtain ⟨ih,ihl⟩:=tM hr hi hf (t:=t) (mo0:=mo0) K (by omega)
  have hs:(aA sk)[K]? = some (aA sk)[K]:=kQ0 (by omega)
  have hat:=eV (dl:=dl) (dc:=aA dc) hs;have hm:(aN dl (aA dc)).length*(K+1)=(aN dl (aA dc)).length*K+(aN dl (aA dc)).length:=Nat.mul_succ ..;unfold gD;rw [hat];dsimp only
  by_cases e:K=i
  ·rw [if_pos e];exact ⟨ih,by omega⟩
  ·rw [if_neg e]
   have eg:chG (aE dl (aA sk) (aA dc)) i t mo0 f K=gC t (iN t (gD (aE dl (aA sk) (aA dc)) i t mo0 f.2.2 K).2 (hpM dl (aA dc) (aA sk)[K])) (hpM dl (aA dc) (aA sk)[K]).1:=by
    unfold chG;rw [if_neg e,hat]
   have hg:=aLf (t:=t) (mo0:=mo0) hi hf hs;have hsub:=(oQ hg).2.trans (aBl dl (aA dc) ((aA sk)[K].getD 0 0));have hsl:=hsub.length_le;rw [eg] at hsub hsl
   constructor
   ·rw [List.nodup_append]
    refine ⟨ih,((aPi (dl:=dl) (eA hr)).sublist hsub).imp fun {a b} q e=>by omega,fun a ha b hb hab => ?_⟩
    subst hab;rw [← eg] at hb
    have hb2:=(aLh hi hf hs hb).2
    rcases (aBk (dl:=dl) (dc:=dc) K (by omega)).1 ha with q | ⟨k,q1,q2,q3⟩
    ·have:=(aLg ((oQ hf).2.subset q)).2
     exact e (xG hr hs hi (by omega))
    ·have hk:(aA sk)[k]? = some (aA sk)[k]:=kQ0 (by omega)
     have:=(aLh hi hf hk q3).2;have:=xG hr hs hk (by omega)
     omega
   ·rw [kT]
    exact fT (Nat.add_le_add ihl hsl) (by omega)
theorem bSe(hr:bG dl sk dc){i:Nat}{t mo0:Int}{f:aS}{si:List Int}(hi:(aA sk)[i]? = some si)(hf:f∈(hpM dl (aA dc) si).1){k:Nat}{s:List Int}(hk:(aA sk)[k]? = some s) :
  cE dl ((gD (aE dl (aA sk) (aA dc)) i t mo0 f.2.2 (aA sk).length).1.mergeSort KL.leB) (aA dc) (sB s) (sT s)=cE dl (chG (aE dl (aA sk) (aA dc)) i t mo0 f k).2.2 (aA dc) (sB s) (sT s):=by
 have hd:=eA hr;have hkl:k<(aA sk).length:=(kQ3.1 hk).1;refine aIf hd fun y hy hsb => ?_
 have hsb2:=bSs hd hy;rw [Bool.eq_iff_iff,List.contains_iff_mem,List.contains_iff_mem,(List.mergeSort_perm _ _).mem_iff,aBk _ (dM _)];have efi:chG (aE dl (aA sk) (aA dc)) i t mo0 f i=f:=by unfold chG;rw [if_pos rfl]
 constructor
 ·rintro (q | ⟨j,q1,q2,q3⟩)
  ·have h1:=(aLg ((oQ hf).2.subset q)).2
   have:=xG hr hi hk (h1.symm.trans (hsb2.trans hsb));subst this;rw [efi];exact q
  ·have hj:(aA sk)[j]? = some (aA sk)[j]:=kQ0 q1
   have h1:=(aLh hi hf hj q3).2;have:=xG hr hj hk (h1.symm.trans (hsb2.trans hsb));subst this;exact q3
 ·intro q
  by_cases e:k=i
  ·subst e
   rw [efi] at q
   exact .inl q
  ·exact .inr ⟨k,hkl,e,q⟩
theorem aXi(hr:bG dl sk dc){i:Nat}{t mo0:Int}{f:aS}{si:List Int}(hi:(aA sk)[i]? = some si)(hf:f∈(hpM dl (aA dc) si).1)(ht:t=f.1)(hfar:t≤far)(hmo:0≤mo0){o:List Int}(ho:∀ k s,(aA sk)[k]? = some s→lM dl (aA dc) o s=(chG (aE dl (aA sk) (aA dc)) i t mo0 f k).1):∀ n,n≤(aA sk).length →
  ((aLi dl (aA dc) (aA sk) o t n:Nat):Int)=((dA (aE dl (aA sk) (aA dc)) i t n).1:Int)+(mo0-(gD (aE dl (aA sk) (aA dc)) i t mo0 f.2.2 n).2)∧0≤(gD (aE dl (aA sk) (aA dc)) i t mo0 f.2.2 n).2 ∧
  mo0-(gD (aE dl (aA sk) (aA dc)) i t mo0 f.2.2 n).2≤((dA (aE dl (aA sk) (aA dc)) i t n).2:Int)-((dA (aE dl (aA sk) (aA dc)) i t n).1:Int) ∧
  (0<(gD (aE dl (aA sk) (aA dc)) i t mo0 f.2.2 n).2→mo0-(gD (aE dl (aA sk) (aA dc)) i t mo0 f.2.2 n).2=((dA (aE dl (aA sk) (aA dc)) i t n).2:Int)-((dA (aE dl (aA sk) (aA dc)) i t n).1:Int))
 | 0,_=>by
  show ((0:Nat):Int)=((0:Nat):Int)+(mo0-mo0)∧0≤mo0∧mo0-mo0≤((0:Nat):Int)-((0:Nat):Int)∧(0<mo0→mo0-mo0=((0:Nat):Int)-((0:Nat):Int));omega
 | n+1,hn=>by
  obtain ⟨ih1,ih2,ih3,ih4⟩:=aXi hr hi hf ht hfar hmo ho n (by omega)
  have hs:(aA sk)[n]? = some (aA sk)[n]:=kQ0 (by omega)
  have hat:=eV (dl:=dl) (dc:=aA dc) hs;rw [aIh hs];have hv:=ho n _ hs
  by_cases e:n=i
  ·have e1:gD (aE dl (aA sk) (aA dc)) i t mo0 f.2.2 (n+1)=gD (aE dl (aA sk) (aA dc)) i t mo0 f.2.2 n:=by
    conv=>lhs;unfold gD
    rw [hat];dsimp only;rw [if_pos e]
   have e2:dA (aE dl (aA sk) (aA dc)) i t (n+1)=dA (aE dl (aA sk) (aA dc)) i t n:=by
    conv=>lhs;unfold dA
    rw [hat];dsimp only;rw [if_pos e]
   have e3:chG (aE dl (aA sk) (aA dc)) i t mo0 f n=f:=by unfold chG;rw [if_pos e]
   rw [e1,e2,if_neg (by rw [hv,e3,ht];omega)]
   exact ⟨by omega,ih2,ih3,ih4⟩
  ·have e1:gD (aE dl (aA sk) (aA dc)) i t mo0 f.2.2 (n+1)=((gD (aE dl (aA sk) (aA dc)) i t mo0 f.2.2 n).1++(gC t (iN t (gD (aE dl (aA sk) (aA dc)) i t mo0 f.2.2 n).2 (hpM dl (aA dc) (aA sk)[n])) (hpM dl (aA dc) (aA sk)[n]).1).2.2,moM t (gD (aE dl (aA sk) (aA dc)) i t mo0 f.2.2 n).2 (hpM dl (aA dc) (aA sk)[n])):=by
    conv=>lhs;unfold gD
    rw [hat];dsimp only;rw [if_neg e]
   have e2:dA (aE dl (aA sk) (aA dc)) i t (n+1)=((if (hpM dl (aA dc) (aA sk)[n]).2.2<t then (dA (aE dl (aA sk) (aA dc)) i t n).1+1 else (dA (aE dl (aA sk) (aA dc)) i t n).1),(if (hpM dl (aA dc) (aA sk)[n]).2.1<t then (dA (aE dl (aA sk) (aA dc)) i t n).2+1 else (dA (aE dl (aA sk) (aA dc)) i t n).2)):=by
    conv=>lhs;unfold dA
    rw [hat];dsimp only;rw [if_neg e]
   have e3:chG (aE dl (aA sk) (aA dc)) i t mo0 f n=gC t (iN t (gD (aE dl (aA sk) (aA dc)) i t mo0 f.2.2 n).2 (hpM dl (aA dc) (aA sk)[n])) (hpM dl (aA dc) (aA sk)[n]).1:=by
    unfold chG;rw [if_neg e,hat]
   have hside:=bFx hr (kQ5 hs) (t:=t) (mo:=(gD (aE dl (aA sk) (aA dc)) i t mo0 f.2.2 n).2) hfar;have hmm:(hpM dl (aA dc) (aA sk)[n]).2.1≤(hpM dl (aA dc) (aA sk)[n]).2.2:=aWw ..;rw [← e3,← hv] at hside
   rw [e1,e2];dsimp only;revert ih1 ih2 ih3 ih4 hside hmm;generalize (gD (aE dl (aA sk) (aA dc)) i t mo0 f.2.2 n).2=mo;generalize dA (aE dl (aA sk) (aA dc)) i t n=sp;generalize lM dl (aA dc) o (aA sk)[n]=v;generalize hpM dl (aA dc) (aA sk)[n]=h;generalize aLi dl (aA dc) (aA sk) o t n=cn;intro ih1 ih2 ih3 ih4 hside hmm;unfold iN at hside
   unfold moM
   by_cases c1:h.2.2<t
   ·have hv:v<t:=by
     rw [decide_eq_true c1,Bool.true_or] at hside
     exact of_decide_eq_true hside
    rw [if_pos hv,if_pos c1,if_pos c1,if_pos (by omega)]
    exact ⟨by omega,ih2,by omega,fun q=>by have:=ih4 q;omega⟩
   ·rw [decide_eq_false c1,Bool.false_or] at hside
    rw [if_neg c1,if_neg c1]
    by_cases c2:h.2.1<t
    ·rw [decide_eq_true c2,hZ] at hside
     rw [if_pos c2,if_pos c2]
     by_cases c3:0<mo
     ·have hv:v<t:=by
       rw [decide_eq_true c3] at hside
       exact of_decide_eq_true hside
      have:=ih4 c3;rw [if_pos hv,if_pos c3];exact ⟨by omega,by omega,by omega,fun q=>by omega⟩
     ·have hv:¬ v<t:=by
       rw [decide_eq_false c3] at hside
       exact of_decide_eq_false hside
      rw [if_neg hv,if_neg c3];exact ⟨by omega,ih2,by omega,fun q=>absurd q c3⟩
    ·have hv:¬ v<t:=by
      rw [decide_eq_false c2,Bool.false_and] at hside
      exact of_decide_eq_false hside
     rw [if_neg hv,if_neg c2,if_neg c2];exact ⟨by omega,ih2,ih3,ih4⟩
end
end
section
section
variable {dl:Int} {sk dc:Lqq}
theorem tF(j:Nat):(if (j:Int) > (0:Int) then (j:Int) else (0:Int)).toNat=j∧0≤(if (j:Int) > (0:Int) then (j:Int) else (0:Int)):=by
 split <;> omega
theorem bIa(hr:bG dl sk dc)(h8:(aN dl (aA dc)).length≤8){i:Nat}{t mo0:Int}{fb:Bool}{f:aS}{si:List Int}(hi:(aA sk)[i]? = some si)(hf:f∈(hpM dl (aA dc) si).1)(hb : -100000≤mo0∧mo0≤100000) :
  ∃ mo,aH Tp 0 (sub (cd Tryz.f72) [1,0,1,1,1,1,1,1,1,1,1,0,1,0,0]) (cF dl sk dc i t fb f.2.2 0 f.2.2.length (f.2.2.map aB) mo0) (.exit 2)
   (cF dl sk dc i t fb f.2.2 (aE dl (aA sk) (aA dc)).length (gD (aE dl (aA sk) (aA dc)) i t mo0 f.2.2 (aA sk).length).1.length ((gD (aE dl (aA sk) (aA dc)) i t mo0 f.2.2 (aA sk).length).1.map aB) mo):=by
 have hal:(aE dl (aA sk) (aA dc)).length=(aA sk).length:=gH ..;have hsl:(aA sk).length≤30:=by rw [cQ];exact hr.len.2
 obtain ⟨⟨o,mo⟩,⟨hI,_⟩,hL⟩:=aH.ex (P:=Tp) (k:=0) (b:=sub (cd Tryz.f72) [1,0,1,1,1,1,1,1,1,1,1,0,1,0,0]) (e := .exit 2)
  (fun k (a:List Int × Int)=>cF dl sk dc i t fb f.2.2 k a.1.length (a.1.map aB) a.2) (fun a=>cF dl sk dc i t fb f.2.2 (aE dl (aA sk) (aA dc)).length a.1.length (a.1.map aB) a.2)
  (fun k a=>a=gD (aE dl (aA sk) (aA dc)) i t mo0 f.2.2 k ∧ -100000-(k:Int)≤a.2∧a.2≤100000) (by simp) (aA sk).length
  (fun k a hk hI=>by
   obtain ⟨o,mo⟩:=a;obtain ⟨h1,h2,h3⟩:=hI;dsimp only at h2 h3
   have hs:(aA sk)[k]? = some (aA sk)[k]:=kQ0 hk;have hat:=eV (dl:=dl) (dc:=aA dc) hs;have hcl:=nG (dl:=dl) (dc:=aA dc) (s0:=(aA sk)[k].getD 0 0) (s1:=(aA sk)[k].getD 1 0) ((aA sk)[k].getD 0 0) h8;have hne:=aOz (dl:=dl) (aA dc) (aA sk)[k];have hol:o.length≤8*31:=by
    have:=(tM hr hi hf (t:=t) (mo0:=mo0) k (by omega)).2
    rw [← h1] at this
    have h4:(aN dl (aA dc)).length*k≤8*30:=Nat.mul_le_mul h8 (by omega)
    dsimp only at this
    omega
   have hk9:inR (((k+1):Nat):Int):=aO (by omega)
   have hkl:(k:Int)<(((aE dl (aA sk) (aA dc)).length:Nat):Int):=by rw [hal];omega
   have hstep:gD (aE dl (aA sk) (aA dc)) i t mo0 f.2.2 (k+1)=if k=i then (o,mo) else (o++(gC t (iN t mo (hpM dl (aA dc) (aA sk)[k])) (hpM dl (aA dc) (aA sk)[k]).1).2.2,moM t mo (hpM dl (aA dc) (aA sk)[k])):=by
    conv=>lhs;unfold gD
    rw [hat,← h1]
   by_cases hki:k=i
   ·refine ⟨(o,mo),⟨by rw [hstep,if_pos hki],by dsimp only;omega,h3⟩,?_⟩
    exact aZw hkl hat (by omega) hk9 rfl
   ·rw [if_neg hki] at hstep
    have hki2:(k:Int)≠(i:Int):=by omega
    have hq:∀ le,(gC t le (hpM dl (aA dc) (aA sk)[k]).1).2.2.length≤8:=fun le=>by
     have hm:=(oQ (aXh t le hne)).2.trans (aBl dl (aA dc) ((aA sk)[k].getD 0 0));have:=hm.length_le;omega
    have hap:∀ q:List Int,(o++q).length=o.length+q.length∧(o++q).map aB=o.map aB++q.map aB:=fun q=>⟨kT,gJ⟩
    have hqm:∀ q:List Int,(q.map aB).length=q.length*1:=fun q=>by simp
    revert hat hcl hne hstep hq;show (aE dl (aA sk) (aA dc))[k]? = some (hpM dl (aA dc) (aA sk)[k])→(hpM dl (aA dc) (aA sk)[k]).1.length≤256→_;generalize hpM dl (aA dc) (aA sk)[k]=h;obtain ⟨c,mn,mx⟩:=h;intro hat hcl hne hstep hq;dsimp only at hcl hne hq
    have hc1:c.length≤1000:=by omega
    by_cases c1:mx<t
    ·have el:iN t mo (c,mn,mx)=decide (mx<t):=by unfold iN;rw [decide_eq_true (show (c,mn,mx).2.2<t from c1),Bool.true_or]
     have em:moM t mo (c,mn,mx)=mo:=by unfold moM;rw [if_pos (show (c,mn,mx).2.2<t from c1)]
     rw [el,em] at hstep
     have hq:=hq (decide (mx<t));refine ⟨_,⟨hstep.symm,by dsimp only;omega,h3⟩,?_⟩
     rcases lA t (decide (mx<t)) hne with ⟨j,q1,q2,_⟩ | ⟨q1,q2,_⟩
     ·obtain ⟨z1,z2⟩:=tF j
      rcases hp:gC t (decide (mx<t)) c with ⟨a1,a2,a3⟩
      rw [hp] at q2 hq
      exact bAd hkl hat hki2 c1 hc1 q1 (by rw [z1];exact q2) z2 ⟨hqm _,by have hq:a3.length≤8:=hq;show o.length+a3.length≤1000000;omega⟩ hk9 rfl (hap _).1 (hap _).2
     ·rcases hp:gC t (decide (mx<t)) c with ⟨a1,a2,a3⟩
      rw [hp] at q2 hq
      exact bAe hkl hat hki2 c1 hc1 q1 q2 (by decide) ⟨hqm _,by have hq:a3.length≤8:=hq;show o.length+a3.length≤1000000;omega⟩ hk9 rfl (hap _).1 (hap _).2
    ·by_cases c2:mn<t
     ·by_cases c3:0<mo
      ·have el:iN t mo (c,mn,mx)=true:=by unfold iN;rw [decide_eq_true (show (c,mn,mx).2.1<t from c2),decide_eq_true c3];simp
       have em:moM t mo (c,mn,mx)=mo-1:=by unfold moM;rw [if_neg (show ¬ (c,mn,mx).2.2<t from c1),if_pos (show (c,mn,mx).2.1<t from c2),if_pos c3]
       rw [el,em] at hstep
       have hq:=hq true;refine ⟨_,⟨hstep.symm,by dsimp only;omega,by dsimp only;omega⟩,?_⟩
       rcases lA t true hne with ⟨j,q1,q2,_⟩ | ⟨q1,q2,_⟩
       ·obtain ⟨z1,z2⟩:=tF j
        rcases hp:gC t true c with ⟨a1,a2,a3⟩
        rw [hp] at q2 hq
        exact aZx hkl hat hki2 (by omega) c2 c3 (by unfold inR;omega) hc1 q1 (by rw [z1];exact q2) z2 ⟨hqm _,by have hq:a3.length≤8:=hq;show o.length+a3.length≤1000000;omega⟩ hk9 rfl (hap _).1 (hap _).2 rfl
       ·rcases hp:gC t true c with ⟨a1,a2,a3⟩
        rw [hp] at q2 hq
        exact aZy hkl hat hki2 (by omega) c2 c3 (by unfold inR;omega) hc1 q1 q2 (by decide) ⟨hqm _,by have hq:a3.length≤8:=hq;show o.length+a3.length≤1000000;omega⟩ hk9 rfl (hap _).1 (hap _).2 rfl
      ·have el:iN t mo (c,mn,mx)=decide (mx<t):=by unfold iN;rw [decide_eq_false c3,Bool.and_false,Bool.or_false]
       have em:moM t mo (c,mn,mx)=mo:=by unfold moM;rw [if_neg (show ¬ (c,mn,mx).2.2<t from c1),if_pos (show (c,mn,mx).2.1<t from c2),if_neg c3]
       rw [el,em] at hstep
       have hq:=hq (decide (mx<t));refine ⟨_,⟨hstep.symm,by dsimp only;omega,h3⟩,?_⟩
       rcases lA t (decide (mx<t)) hne with ⟨j,q1,q2,_⟩ | ⟨q1,q2,_⟩
       ·obtain ⟨z1,z2⟩:=tF j
        rcases hp:gC t (decide (mx<t)) c with ⟨a1,a2,a3⟩
        rw [hp] at q2 hq
        exact aZz hkl hat hki2 (by omega) c2 (by omega) hc1 q1 (by rw [z1];exact q2) z2 ⟨hqm _,by have hq:a3.length≤8:=hq;show o.length+a3.length≤1000000;omega⟩ hk9 rfl (hap _).1 (hap _).2
       ·rcases hp:gC t (decide (mx<t)) c with ⟨a1,a2,a3⟩
        rw [hp] at q2 hq
        exact bAa hkl hat hki2 (by omega) c2 (by omega) hc1 q1 q2 (by decide) ⟨hqm _,by have hq:a3.length≤8:=hq;show o.length+a3.length≤1000000;omega⟩ hk9 rfl (hap _).1 (hap _).2
     ·have el:iN t mo (c,mn,mx)=decide (mx<t):=by unfold iN;rw [decide_eq_false (show ¬ (c,mn,mx).2.1<t from c2),Bool.false_and,Bool.or_false]
      have em:moM t mo (c,mn,mx)=mo:=by unfold moM;rw [if_neg (show ¬ (c,mn,mx).2.2<t from c1),if_neg (show ¬ (c,mn,mx).2.1<t from c2)]
      rw [el,em] at hstep
      have hq:=hq (decide (mx<t));refine ⟨_,⟨hstep.symm,by dsimp only;omega,h3⟩,?_⟩
      rcases lA t (decide (mx<t)) hne with ⟨j,q1,q2,_⟩ | ⟨q1,q2,_⟩
      ·obtain ⟨z1,z2⟩:=tF j
       rcases hp:gC t (decide (mx<t)) c with ⟨a1,a2,a3⟩
       rw [hp] at q2 hq
       exact bAb hkl hat hki2 (by omega) (by omega) hc1 q1 (by rw [z1];exact q2) z2 ⟨hqm _,by have hq:a3.length≤8:=hq;show o.length+a3.length≤1000000;omega⟩ hk9 rfl (hap _).1 (hap _).2
      ·rcases hp:gC t (decide (mx<t)) c with ⟨a1,a2,a3⟩
       rw [hp] at q2 hq
       exact bAc hkl hat hki2 (by omega) (by omega) hc1 q1 q2 (by decide) ⟨hqm _,by have hq:a3.length≤8:=hq;show o.length+a3.length≤1000000;omega⟩ hk9 rfl (hap _).1 (hap _).2)
  (fun a _=>by
   have:=bAf (dl:=dl) (sk:=sk) (dc:=dc) (i0:=i) (ft7:=t) (fb8:=fb) (fq9:=f.2.2) (k:=(aA sk).length) (o:=a.1) (mo:=a.2) (by rw [hal];omega)
   rw [← hal] at this ⊢
   exact this) (acc:=(f.2.2,mo0)) ⟨rfl,by dsimp only;omega,hb.2⟩
 have e1:(gD (aE dl (aA sk) (aA dc)) i t mo0 f.2.2 (aA sk).length).1=o:=by rw [← hI]
 rw [e1];exact ⟨mo,hL⟩
theorem bIb(hr:bG dl sk dc){i:Nat}{pl:Int}{c:List aS}(hc:c.length≤256) :
  (c.find? (aLe (aE dl (aA sk) (aA dc)) i pl)=none∧aH Tp 0 (sub (cd Tryz.f72) [1,0,1,1,1,1,0,1,0,0]) (fF dl sk dc pl i c 0) (.exit 0) (fF dl sk dc pl i c c.length)) ∨
  (∃ f j,c.find? (aLe (aE dl (aA sk) (aA dc)) i pl)=some f∧aH Tp 0 (sub (cd Tryz.f72) [1,0,1,1,1,1,0,1,0,0]) (fF dl sk dc pl i c 0) (.exit 0) (bIg (fF dl sk dc pl i c j) 0 (some (.box 191 [(.rp [(aB f.1),(blP f.2.1),(aF f.2.2)] 0)])))):=by
 have hal:(aE dl (aA sk) (aA dc)).length=(aA sk).length:=gH ..;have hsl:(aA sk).length≤30:=by rw [cQ];exact hr.len.2
 have hsp:∀ t,(bM (aE dl (aA sk) (aA dc)) i t).1≤(aA sk).length∧(bM (aE dl (aA sk) (aA dc)) i t).2≤(aA sk).length:=fun t=>by
  rw [← hal];exact kH ..
 rcases aH.find (P:=Tp) (k:=0) (b:=sub (cd Tryz.f72) [1,0,1,1,1,1,0,1,0,0]) (fun j=>fF dl sk dc pl i c j) (fun j f=>bIg (fF dl sk dc pl i c j) 0 (some (.box 191 [(.rp [(aB f.1),(blP f.2.1),(aF f.2.2)] 0)]))) (fF dl sk dc pl i c c.length) (.exit 0) (.exit 0) (by simp) (by simp) (aLe (aE dl (aA sk) (aA dc)) i pl) c
  (fun j x hx hq=>by
   have hj:=bC hx;obtain ⟨t,b,q⟩:=x;have hs:=hsp t;unfold aLe at hq
   cases b with
   | true =>
    dsimp only at hq
    rw [if_pos rfl] at hq
    exact aZs (by omega) hx rfl (of_decide_eq_false hq) (aO (by omega)) rfl
   | false =>
    dsimp only at hq
    rw [if_neg Bool.false_ne_true] at hq
    exact aZu (t100:=t) (by omega) hx rfl (by omega) (aO (by omega)) (aO (by omega)) hq (aO (by omega)) rfl)
  (fun j x hx hq=>by
   have hj:=bC hx;obtain ⟨t,b,q⟩:=x;have hs:=hsp t;unfold aLe at hq
   cases b with
   | true =>
    dsimp only at hq
    rw [if_pos rfl] at hq
    exact aZr (by omega) hx rfl (of_decide_eq_true hq)
   | false =>
    dsimp only at hq
    rw [if_neg Bool.false_ne_true] at hq
    exact aZt (t100:=t) (by omega) hx rfl (by omega) (aO (by omega)) (aO (by omega)) hq)
  (aZv (by omega)) with ⟨j,x,h1,h2,h3,h4⟩ | ⟨h1,h2,h3⟩
 ·refine .inr ⟨x,j,?_,h4⟩
  obtain ⟨hj,q1,q2⟩:=List.findIdx?_eq_some_iff_getElem.1 h2;have hxe:c[j]=x:=(kQ3.1 h1).2;rw [List.find?_eq_some_iff_getElem];exact ⟨h3,j,hj,hxe,fun k hk=>by
   have:=q2 k hk;simpa using this⟩
 ·exact .inl ⟨xT.2 fun x hx=>by
   have:=List.findIdx?_eq_none_iff.1 h1 x hx;rw [this];exact Bool.false_ne_true,h3⟩
theorem aJo(hr:bG dl sk dc){bib:Int}{i:Nat}{s0 s1:Int}(hp:kW (aA sk) bib=(i:Int))(hs:(aA sk)[i]? = some [s0,s1])(h8:(aN dl (aA dc)).length≤8){pl:Int}(hpl : -1≤pl∧pl≤1000) :
  (aAt (aE dl (aA sk) (aA dc)) i pl (hpM dl (aA dc) [s0,s1]).1=none→∀ base,FV Tp 72 [.p (.agg (cR dl sk dc)),.p (aB bib),.p (aB pl)] base (.tup [.p dR,.p (aB 6)]) []) ∧
  (∀ o,aAt (aE dl (aA sk) (aA dc)) i pl (hpM dl (aA dc) [s0,s1]).1=some o→∀ base,FV Tp 72 [.p (.agg (cR dl sk dc)),.p (aB bib),.p (aB pl)] base (.tup [.p (aF o),.p (aB 0)]) []):=by
 have hat:=eV (dl:=dl) (dc:=aA dc) hs;have hat:(aE dl (aA sk) (aA dc))[i]? = some ((hpM dl (aA dc) [s0,s1]).1,(hpM dl (aA dc) [s0,s1]).2.1,(hpM dl (aA dc) [s0,s1]).2.2):=hat;have hcl:=nG (dl:=dl) (dc:=aA dc) (s0:=s0) (s1:=s1) s0 h8;have hcl:(hpM dl (aA dc) [s0,s1]).1.length≤256:=hcl;have hal:(aE dl (aA sk) (aA dc)).length=(aA sk).length:=gH ..;have hsl:(aA sk).length≤30:=by rw [cQ];exact hr.len.2
 unfold aAt
 rcases bIb (i:=i) (pl:=pl) hr hcl with ⟨h1,h2⟩ | ⟨f,j,h1,h2⟩
 ·rw [h1]
  exact ⟨fun _ base=>bTk hr hp hs h8 hat h2,fun o ho=>(by cases ho)⟩
 ·rw [h1]
  refine ⟨fun h=>(by cases h),fun o ho base => ?_⟩
  cases ho;have hf:=tQ h1;have hsub:=(oQ hf).2.trans (aBl dl (aA dc) _);have hql:=hsub.length_le;have hsp:(bM (aE dl (aA sk) (aA dc)) i f.1).1≤(aA sk).length:=by rw [← hal];exact (kH ..).1
  obtain ⟨mo,hw⟩:=bIa hr h8 (t:=f.1) (mo0:=pl-1-((bM (aE dl (aA sk) (aA dc)) i f.1).1:Int)) (fb:=f.2.1) hs hf (by omega)
  have hol:=(tM hr hs hf (t:=f.1) (mo0:=pl-1-((bM (aE dl (aA sk) (aA dc)) i f.1).1:Int)) (aA sk).length (dM _)).2;have h4:(aN dl (aA dc)).length*(aA sk).length≤8*30:=Nat.mul_le_mul h8 hsl;have:=bTl (pl:=pl) hr hp hs h8 hat h2 (by omega) (by omega) (by unfold inR;omega) (by unfold inR;omega) hw (by omega) (base:=base)
  unfold xF;rw [hal];exact this
theorem aVv{f:List Int→Int × Bool}{S:Lqq}{k:List Int}(h:(f k).2=true):uA f S k = -1:=by
 unfold uA;rw [h,if_pos rfl]
theorem bIc{f:List Int→Int × Bool}{S:Lqq}{k:List Int}{t:Int}(h:(f k).2=false)(ht:(f k).1=t):uA f S k=1+(bFy f S t:Int):=by
 unfold uA;rw [h,if_neg Bool.false_ne_true,ht]
theorem bId(hr:bG dl sk dc){i:Nat}{s:List Int}(hs:(aA sk)[i]? = some s){pl:Int}(h:aAt (aE dl (aA sk) (aA dc)) i pl (hpM dl (aA dc) s).1=none):¬ (pl = -1∧((hpM dl (aA dc) s).1.any fun x=>x.2.1)=true)∧pl∉cU (aE dl (aA sk) (aA dc)) i (hpM dl (aA dc) s).1:=by
 unfold aAt at h
 have h1:=xT.1 (Option.map_eq_none_iff.1 h);refine ⟨fun ⟨q1,q2⟩ => ?_,fun q => ?_⟩
 ·obtain ⟨x,hx,ho⟩:=List.any_eq_true.1 q2
  have:=h1 x hx;unfold aLe at this
  rw [ho,if_pos rfl,decide_eq_true q1] at this
  exact this rfl
 ·obtain ⟨x,hx,ho,q1,q2⟩:=tN.1 q
  have:=h1 x hx;unfold aLe at this
  rw [ho,if_neg Bool.false_ne_true] at this
  exact this (cH.2 (by omega))
theorem bIe(hr:bG dl sk dc)(h8:(aN dl (aA dc)).length≤8){i:Nat}{s:List Int}(hs:(aA sk)[i]? = some s){pl:Int}{o:List Int}(h:aAt (aE dl (aA sk) (aA dc)) i pl (hpM dl (aA dc) s).1=some o) :
  ((pl = -1∧((hpM dl (aA dc) s).1.any fun x=>x.2.1)=true)∨(pl ≠ -1∧pl∈cU (aE dl (aA sk) (aA dc)) i (hpM dl (aA dc) s).1))∧aAs dl (aA dc) o=0∧o.length≤1000∧uA (fun s=>cE dl o (aA dc) (sB s) (sT s)) (aA sk) s=pl:=by
 unfold aAt at h
 obtain ⟨f,h1,rfl⟩:=kL.1 h;have hf:=tQ h1;have hfb:=aNj h1;have hd:=eA hr;have hal:(aE dl (aA sk) (aA dc)).length=(aA sk).length:=gH ..;have hsl:(aA sk).length≤30:=by rw [cQ];exact hr.len.2
 obtain ⟨n1,n2⟩:=tM hr hs hf (t:=f.1) (mo0:=pl-1-((bM (aE dl (aA sk) (aA dc)) i f.1).1:Int)) (aA sk).length (dM _);have hm:=fun n=>aBk (dl:=dl) (sk:=sk) (dc:=dc) (i:=i) (t:=f.1) (mo0:=pl-1-((bM (aE dl (aA sk) (aA dc)) i f.1).1:Int)) (f:=f) (n:=n) (aA sk).length (dM _)
 have ht:=fun {k:Nat} {s':List Int} (hk:(aA sk)[k]? = some s')=>bSe hr hs hf (t:=f.1) (mo0:=pl-1-((bM (aE dl (aA sk) (aA dc)) i f.1).1:Int)) hk
 have hcnt:=fun (a:f.1≤far) (b:0≤pl-1-((bM (aE dl (aA sk) (aA dc)) i f.1).1:Int)) o ho=>aXi (o:=o) hr hs hf (t:=f.1) (mo0:=pl-1-((bM (aE dl (aA sk) (aA dc)) i f.1).1:Int)) rfl a b ho (aA sk).length (dM _)
 have hout:aAs dl (aA dc) ((xF (aE dl (aA sk) (aA dc)) i pl f).mergeSort KL.leB)=0:=by
  refine bSi (bSj ?_) fun n hn => ?_
  ·unfold xF;rw [hal];exact n1
  ·have hn:=(List.mergeSort_perm _ _).mem_iff.1 hn
   unfold xF at hn
   rw [hal] at hn
   rcases (hm n).1 hn with q | ⟨k,q1,q2,q3⟩
   ·exact (aLg ((oQ hf).2.subset q)).1
   ·exact (aLh hs hf (kQ0 q1) q3).1
 have hlen:((xF (aE dl (aA sk) (aA dc)) i pl f).mergeSort KL.leB).length≤1000:=by
  rw [bMw];unfold xF;rw [hal];have h4:(aN dl (aA dc)).length*(aA sk).length≤8*30:=Nat.mul_le_mul h8 hsl;omega
 have efi:∀ mo0,chG (aE dl (aA sk) (aA dc)) i f.1 mo0 f i=f:=fun mo0=>by unfold chG;rw [if_pos rfl]
 have hfc:=(oQ hf).1;have htf:=ht hs;rw [efi] at htf
 have eO:xF (aE dl (aA sk) (aA dc)) i pl f=(gD (aE dl (aA sk) (aA dc)) i f.1 (pl-1-((bM (aE dl (aA sk) (aA dc)) i f.1).1:Int)) f.2.2 (aA sk).length).1:=by unfold xF;rw [hal]
 rw [← eO] at htf
 have hoF:f.2.1=(cE dl f.2.2 (aA dc) (sB s) (sT s)).2:=congrArg (fun y:aS=>y.2.1) hfc
 have hvF:f.1=lM dl (aA dc) f.2.2 s:=congrArg (fun y:aS=>y.1) hfc
 unfold aLe at hfb
 cases ho:f.2.1 with
 | true =>
  rw [ho,if_pos rfl] at hfb
  have hpl:=of_decide_eq_true hfb;refine ⟨.inl ⟨hpl,List.any_eq_true.2 ⟨f,hf,ho⟩⟩,hout,hlen,?_⟩;exact (aVv (by show (cE dl ((xF (aE dl (aA sk) (aA dc)) i pl f).mergeSort KL.leB) (aA dc) (sB s) (sT s)).2=true;rw [htf,← hoF,ho])).trans hpl.symm
 | false =>
  rw [ho,if_neg Bool.false_ne_true] at hfb
  have hw:=cH.1 hfb;refine ⟨.inr ⟨by omega,tN.2 ⟨f,hf,ho,by omega,by omega⟩⟩,hout,hlen,?_⟩
  have hb:=bLy hr (kQ5 hs) f.2.2;have hfar:f.1≤far:=by rw [hvF];exact hb.2
  have hv2:f.1=(cE dl f.2.2 (aA dc) (sB s) (sT s)).1:=by
   rw [hvF];unfold lM chM;dsimp only;have h2:(cE dl f.2.2 (aA dc) (s.getD 0 0) (s.getD 1 0)).2=false:=by
    have:=hoF.symm.trans ho;exact this
   rw [h2];rfl
  obtain ⟨_,_,h3,_⟩:=lE hr;have hbd:=aLk (dl:=dl) (oc:=f.2.2) (b:=sB s) hd (h3 s (kQ5 hs)).2;refine (bIc (t:=f.1) (by show (cE dl ((xF (aE dl (aA sk) (aA dc)) i pl f).mergeSort KL.leB) (aA dc) (sB s) (sT s)).2=false;rw [htf,← hoF,ho]) (by show (cE dl ((xF (aE dl (aA sk) (aA dc)) i pl f).mergeSort KL.leB) (aA dc) (sB s) (sT s)).1=f.1;rw [htf,← hv2])).trans ?_
  rw [aPc hr (by rw [hv2];exact hbd.2)]
  obtain ⟨c1,c2,c3,c4⟩:=hcnt hfar (by omega) ((xF (aE dl (aA sk) (aA dc)) i pl f).mergeSort KL.leB) fun k s' hk=>by
   have h5:=ht hk;rw [← eO] at h5
   have hg:=aLf (t:=f.1) (mo0:=pl-1-((bM (aE dl (aA sk) (aA dc)) i f.1).1:Int)) hs hf hk;rw [bLw hg];unfold lM chM;have h5:cE dl ((xF (aE dl (aA sk) (aA dc)) i pl f).mergeSort KL.leB) (aA dc) (s'.getD 0 0) (s'.getD 1 0)=_:=h5;rw [h5]
  have e5:(bM (aE dl (aA sk) (aA dc)) i f.1)=dA (aE dl (aA sk) (aA dc)) i f.1 (aA sk).length:=by
   show dA _ _ _ (aE dl (aA sk) (aA dc)).length=_;rw [hal]
  rw [e5] at hw c1 c2 c3 c4
  omega
end
end
section
variable {a b:Bool}{f fi y100 y101 mn103 mx104:Int}{l o:List Int}{i i' base:Nat}
variable {dl:Int}{sk dc:Lqq}

noncomputable abbrev aFd:Code:=sub (cd Tryz.f93) [1,1,1,1,1,1,1,0,1,0,0]
theorem bMe:((0:Int) != (0:Int))=false:=by first | decide | simp
theorem cAh{x0:Int}{r0:Bool}(h0:b=true)(h1:l[0]? = some x0)(er0:r0=(decide (x0≤f))):FV Tp 94 [(.p (aF l)),(pB a),(pB b),(.rp [(aB f)] 0)] base (pB r0) []:=by
 subst er0;exact FV.fi Tryz.func94 [bT,bT,bT,.x (aB x0),bT,.x (aB f),bT,bT] (g2c h0 (gr (aB f) (gc h0 (gt ((l.map aB)[0]? = some (aB x0)) (iO (i:=0) h1) (gc h0 (gt (0≤(0:Int)∧(0:Int)<(l.length:Int)∧0<(l.map aB).length) (iP (i:=(0:Int)) (by first | decide | simp) h1) (g2c h0 gn)))))))
theorem cAi(h0:b=false):FV Tp 94 [(.p (aF l)),(pB a),(pB b),(.rp [(aB f)] 0)] base (pB false) []:=by
 exact FV.fi Tryz.func94 [bF,bF,bF,bF,bF,bF] (g6c h0 gn)
def aPk(l:List Int)(b:Bool)(f:Int):Bool:=b && decide (l.getD 0 0≤f)
theorem bMf(l:List Int)(a b:Bool)(f:Int)(hb:b=true→l≠[]){base:Nat}:FV Tp 94 [.p (aF l),.p (blP a),.p (blP b),.rp [aB f] 0] base (pB (aPk l b f)) []:=by
 cases b with
 | false=>exact cAi rfl
 | true =>
  have h0:=hb rfl;have h1:0<l.length:=List.length_pos_iff.2 h0;have h2:l[0]? = some (l.getD 0 0):=by rw [kQ4,kQ0 h1];rfl
  exact cAh (x0:=l.getD 0 0) rfl h2 (by unfold aPk;simp)
def mD(dl:Int)(sk:Lqq)(dc:Lqq)(fi:Int)(on:Nat)(oc:List PV)(i:Nat):St:=⟨fr 58 [(2,(.fn 94 [] [(.rp [(aB fi)] 0)])),(6,(.p dR)),(7,(pI 0)),(10,(.p (.sl ((aE dl (aA sk) (aA dc)).length) (((aE dl (aA sk) (aA dc)).map hpE).flatten)))),(11,(.own 0)),(36,(.p (.sl ((aA sk).length) ((aA sk).flatten.map aB)))),(37,(pI (((aA sk).length:Nat):Int))),(38,(pI (i:Int)))],[some (.row 3 on oc)]⟩
theorem cAj{o'0:List Int}{i'1:Nat}(h0:bG dl sk dc)(h1:(1:Int)≤fi)(h2:(aN dl (aA dc)).length≤8)(hl3:aH Tp 0 aFd (mD dl sk dc fi 0 [] 0) (.exit 0) (mD dl sk dc fi o'0.length (o'0.map aB) i'1)):FV Tp 93 [(.p (.agg (cR dl sk dc))),(pI fi),(.fn 94 [] [(.rp [(aB fi)] 0)])] base (.tup [(.p (aF o'0)),(pI 0)]) []:=by
 have k1:=fk 1 (jF dl sk dc h0) rfl;have k2:=fk 1 (aBi h0 h2) rfl;exact FV.frz (FMM.fi 0 ⟨[],[],[0],[]⟩ Tryz.func93 [k1.o,bF,bF,k2.o,bF,.g 1 ⟨[],[0],[1],[]⟩,.x (.sl ((aA sk).length) ((aA sk).flatten.map aB)),hl3.k 1 ⟨(rng [(0,2),(3,3),(8,2),(12,24),(39,18)]),[1],[],[(11,3)]⟩] (gc hl3.code (gr (.sl ((aA sk).length) ((aA sk).flatten.map aB)) (gc bMe (gc k2 (gc (bA h1) (gc bMe (gc k1 gn)))))))) (by kernel_rfl)
theorem bFz{c102:List aS}{o':List Int}(h0:(i:Int)<(((aA sk).length:Nat):Int))(h1:(aA sk)[i]? = some [y100,y101])(h2:uni 2 (aA sk))(h3:(aE dl (aA sk) (aA dc))[i]? = some (c102,mn103,mx104))(h4:(aE dl (aA sk) (aA dc)).length≤1000)(h5:c102.length≤256)(h6:(c102.any fun x => !x.2.1)=true→(cU (aE dl (aA sk) (aA dc)) i c102)≠[])(h7:(aPk (cU (aE dl (aA sk) (aA dc)) i c102) (c102.any fun x => !x.2.1) fi)=true)(h8:[(aB y100)].length=1*1∧o.length+1≤1000000)(h9:inR (((i+1):Nat):Int))(eo'n:o'.length=(o.length+1))(eo'c:o'.map aB=((o.map aB)++[(aB y100)]))(ei':i'=(i+1)):aC Tp 0 aFd (mD dl sk dc fi o.length (o.map aB) i) .normal (mD dl sk dc fi o'.length (o'.map aB) i'):=by
 subst ei';have k1:=fk 2 (vM h4 h3 h5) rfl;have k2:=fk 2 (bMf (cU (aE dl (aA sk) (aA dc)) i c102) (c102.any fun x=>x.2.1) (c102.any fun x => !x.2.1) fi h6) rfl;have raw:aC Tp 0 aFd (mD dl sk dc fi o.length (o.map aB) i) .normal (mD dl sk dc fi (o.length+1) ((o.map aB)++[(aB y100)]) (i+1)):=aC.fi ⟨(rng [(0,2),(3,3),(8,2),(12,24),(39,18)]),[3],[],[]⟩ [bT,.x (.agg [(aB y100),(aB y101)]),k1.o,k2.o,bT] (gc h9 (gc h8 (gc h7 (gc k2 (gc k1 (gc (aT (i:=i) h2 h1) (gc (bH (i:=i) h2 h1) (gc (bR (k:=2) (i:=(i:Int)) (by decide) h2 (kQ1 _) h1) (gc (aV h0) gn)))))))))
 exact raw.cast (by rw [eo'n,eo'c])
theorem bGa{c102:List aS}(h0:(i:Int)<(((aA sk).length:Nat):Int))(h1:(aA sk)[i]? = some [y100,y101])(h2:uni 2 (aA sk))(h3:(aE dl (aA sk) (aA dc))[i]? = some (c102,mn103,mx104))(h4:(aE dl (aA sk) (aA dc)).length≤1000)(h5:c102.length≤256)(h6:(c102.any fun x => !x.2.1)=true→(cU (aE dl (aA sk) (aA dc)) i c102)≠[])(h7:(aPk (cU (aE dl (aA sk) (aA dc)) i c102) (c102.any fun x => !x.2.1) fi)=false)(h8:inR (((i+1):Nat):Int))(ei':i'=(i+1)):aC Tp 0 aFd (mD dl sk dc fi o.length (o.map aB) i) .normal (mD dl sk dc fi o.length (o.map aB) i'):=by
 subst ei';have k1:=fk 2 (vM h4 h3 h5) rfl;have k2:=fk 2 (bMf (cU (aE dl (aA sk) (aA dc)) i c102) (c102.any fun x=>x.2.1) (c102.any fun x => !x.2.1) fi h6) rfl;exact aC.fi ⟨(rng [(0,2),(3,3),(8,2),(12,24),(39,18)]),[0],[],[]⟩ [bT,.x (.agg [(aB y100),(aB y101)]),k1.o,k2.o,bF] (gc h8 (gc h7 (gc k2 (gc k1 (gc (aT (i:=i) h2 h1) (gc (bH (i:=i) h2 h1) (gc (bR (k:=2) (i:=(i:Int)) (by decide) h2 (kQ1 _) h1) (gc (aV h0) gn))))))))
theorem bGb(h0:(((aA sk).length:Nat):Int)≤(i:Int)):aC Tp 0 aFd (mD dl sk dc fi o.length (o.map aB) i) (.exit 0) (mD dl sk dc fi o.length (o.map aB) i):=by
 exact aC.fi ⟨(rng [(0,2),(3,3),(8,2),(12,24),(39,18)]),[0],[],[]⟩ [bF] (gc (bA h0) gn)
abbrev cBm(dl:Int)(sk dc:Lqq)(fi:Int)(o:List Int):Prop:=∀ base:Nat,FV Tp 93 [.p (.agg (cR dl sk dc)),.p (aB fi),.fn 94 [] [.rp [aB fi] 0]] base (.tup [.p (aF o),.p (aB 0)]) []
theorem cAk{o0:List Int}(h0:cBm dl sk dc fi o0):FV Tp 32 [(.p (.agg (cR dl sk dc))),(pI fi)] base (.tup [(.p (aF o0)),(pI 0)]) []:=by
 exact FV.fi Tryz.func32 [.g 3 ⟨[],[0],[1],[]⟩,.x (aB fi),.c (.tup [(.p (aF o0)),(pI 0)]) []] (gc (fk 1 (h0 _) rfl) (gr (aB fi) gn))
end
section
def aPj(dl:Int)(sk dc:Lqq)(f:Int)(i:Nat):Bool:=match (aE dl sk dc)[i]? with
 | some h=>aPk (cU (aE dl sk dc) i h.1) (h.1.any fun x => !x.2.1) f
 | none=>false
def aAu(dl:Int)(sk dc:Lqq)(f:Int):List Int:=((List.range sk.length).filter (aPj dl sk dc f)).map fun i=>(sk.getD i []).getD 0 0
theorem cAf{dl:Int}{sk dc:Lqq}(h:bG dl sk dc){f:Int}(hf:1≤f)(ho:(aN dl (aA dc)).length≤8):cBm dl sk dc f (aAu dl (aA sk) (aA dc) f):=fun base=>by
 obtain ⟨h1,h2,_,_⟩:=lE h;obtain ⟨o,hI,hL⟩:=aH.ex (P:=Tp) (k:=0) (b:=sub (cd Tryz.f93) [1,1,1,1,1,1,1,0,1,0,0]) (e := .exit 0) (fun i (o:List Int)=>mD dl sk dc f o.length (o.map aB) i) (fun o=>mD dl sk dc f o.length (o.map aB) (aA sk).length)
  (fun i o=>o=((List.range i).filter (aPj dl (aA sk) (aA dc) f)).map fun i=>((aA sk).getD i []).getD 0 0) (by simp) (aA sk).length
  (fun i o hi hoE=>by
   obtain ⟨y0,y1,hy⟩:=at2 h1 hi;have hat:=eV (dl:=dl) (dc:=aA dc) hy;have hlen:o.length≤i:=by
    rw [hoE,eR];have:=tR (aPj dl (aA sk) (aA dc) f) (List.range i);simpa using this
   have hmb:aPj dl (aA sk) (aA dc) f i=aPk (cU (aE dl (aA sk) (aA dc)) i (gM dl (aA dc) y0 y1 (jK dl (aA dc) y0)).1) ((gM dl (aA dc) y0 y1 (jK dl (aA dc) y0)).1.any fun x => !x.2.1) f:=by
    unfold aPj;rw [hat];rfl
   have hal:(aE dl (aA sk) (aA dc)).length≤1000:=by rw [gH];omega
   have hc:=nG (s0:=y0) (s1:=y1) y0 ho;have hg:((aA sk).getD i []).getD 0 0=y0:=by simp [kQ4,hy]
   cases hb:aPj dl (aA sk) (aA dc) f i with
   | true =>
    refine ⟨o++[y0],?_,bFz (by omega) hy h1 hat hal hc (fun hn=>aEo (sK _ _ _) i hn) (by rw [← hb,hmb];rfl) ⟨rfl,by omega⟩ (aO (by omega)) (by simp) (by simp) rfl⟩
    rw [hoE,List.range_succ,lR,gJ];simp only [List.filter_cons,hb,if_true,List.filter_nil,gZ,List.map_nil,hg]
   | false =>
    refine ⟨o,?_,bGa (by omega) hy h1 hat hal hc (fun hn=>aEo (sK _ _ _) i hn) (by rw [← hb,hmb];rfl) (aO (by omega)) rfl⟩
    rw [hoE,List.range_succ,lR,gJ];simp [List.filter_cons,hb])
  (fun o _=>bGb (by omega)) (acc:=[]) (by simp)
 have e:o=aAu dl (aA sk) (aA dc) f:=hI;rw [← e];exact cAj h hf ho hL
theorem cAg{dl:Int}{sk dc:Lqq}(h:bG dl sk dc){f:Int}(hf:1≤f)(ho:(aN dl (aA dc)).length≤8){base:Nat}:FV Tp 32 [.p (.agg (cR dl sk dc)),.p (aB f)] base (.tup [.p (aF (aAu dl (aA sk) (aA dc) f)),.p (aB 0)]) []:=cAk (cAf h hf ho)
end
section
def cS(l:Lqq)(su:List Int):Lqq:=l.filter fun x => !(!(su.contains (x.getD 0 0)))
theorem bSk{l:Lqq}{su:List Int}(hu:uni 3 l)(hl:l.length≤1000)(hsu:su.length≤1000) :
  (∃ i n,l[i]? = some n∧l.findIdx? (fun x => !(su.contains (x.getD 0 0)))=some i∧(!(su.contains (n.getD 0 0)))=true∧bNl l su (i:Int))∨(l.any (fun x => !(su.contains (x.getD 0 0)))=false∧bNl l su (-1)):=by
 rcases aH.find (P:=Tp) (k:=1) (b:=(sub (cd Tryz.f162) [1,0,1,0,0])) (fun i=>iC l su i) (fun i _=>dI (iC l su i) [(4,.p (aB (i:Int)))]) (iC l su l.length) .ret (.exit 0) (by simp) (by simp) (fun x => !(su.contains (x.getD 0 0))) l
  (fun i x hx hq=>by
   obtain ⟨a,b,c,rfl⟩:=len3 (hu _ (kQ5 hx));exact aRp (by have:=bC hx;omega) hx hu hsu hq (aO (by have:=bC hx;omega)) rfl)
  (fun i x hx hq=>by
   obtain ⟨a,b,c,rfl⟩:=len3 (hu _ (kQ5 hx));exact aRo (by have:=bC hx;omega) hx hu hsu hq)
  (aRq (by omega)) with ⟨i,x,h1,h2,h3,h4⟩ | ⟨h1,h2,h3⟩
 ·exact .inl ⟨i,x,h1,h2,h3,bNk h4⟩
 ·exact .inr ⟨h2,bNj h3⟩
theorem cAm(l:Lqq)(su:List Int)(hu:uni 3 l)(hl:l.length≤1000)(hsu:su.length≤1000) :
  FMM Tp 97 [.own 0,.fn 98 [] [.rp [aF su] 0]] [some (.row 48 l.length (l.flatten.map aB))] (.p (.sl (cS l su).length ((cS l su).flatten.map aB))) [some .dead]:=by
 rcases bSk (su:=su) hu hl hsu with ⟨i,n,h1,h2,h3,h4⟩ | ⟨h1,h2⟩
 ·have hi:=bC h1
  obtain ⟨d,hm⟩:∃ d,i+1+d=l.length:=⟨l.length-(i+1),by omega⟩
  obtain ⟨⟨c,k⟩,hI,hL⟩:=aH.ex (P:=Tp) (k:=1) (b:=(sub (cd Tryz.f97) [1,1,1,0,1,0,0])) (e := .exit 0) (fun j (x:Lqq × Nat)=>lU su x.1.length (x.1.flatten.map aB) x.2 (i+1+j)) (fun x=>lU su x.1.length (x.1.flatten.map aB) x.2 l.length)
   (fun j x=>aFy (fun x => !(su.contains (x.getD 0 0))) l (i+1+j) x∧uni 3 x.1) (by simp) d
   (fun j x hj hx=>by
    obtain ⟨hI,hs⟩:=hx;have hlt:i+1+j<x.1.length:=by rw [hI.len];omega
    have hle:=hI.le;have hlen:=hI.len;obtain ⟨y,hy⟩:∃ y,x.1[i+1+j]? = some y:=⟨_,kQ0 hlt⟩;obtain ⟨y0,y1,y2,rfl⟩:=len3 (hs y (kQ5 hy));cases hq:(!(su.contains y0)) with
    | true=>exact ⟨x,⟨hI.skip (by omega) hy hq,hs⟩,bAk (by omega) hy hs hsu hq (aO (by omega)) rfl⟩
    | false =>
     obtain ⟨z,hz⟩:∃ z,x.1[x.2]? = some z:=⟨_,kQ0 (by omega)⟩
     obtain ⟨z0,z1,z2,rfl⟩:=len3 (hs z (kQ5 hz));have hle2:=bH hs hz;refine ⟨_,⟨hI.keep (by omega) hy hq,fun n hn => ?_⟩,bAj (c:=x.1) (c':=x.1.set x.2 [y0,y1,y2]) (by omega) hy hs hsu hq hz ⟨rfl,hle2⟩ (aO (by omega)) (aO (by omega)) (by simp) (rV hs (by omega) rfl).symm rfl rfl⟩
     rcases List.mem_or_eq_of_mem_set hn with h | rfl
     ·exact hs n h
     ·rfl)
   (fun x hx=>by
    have:=bAl (su:=su) (c:=x.1) (i:=x.2) (j:=l.length) (by rw [hx.1.len];omega)
    rw [show i+1+d=l.length from hm];exact this)
   (acc:=(l,i)) ⟨aFy.start h1 h3 (aKz h2),hu⟩
  obtain ⟨hI,hs⟩:=hI;have hlen:=hI.len;have hle:=hI.le;have hk:=hI.kept;simp only [hm,List.take_length] at hlen hle hk
  have hcl:(c.flatten.map aB).length=c.length*3:=wX hs;have hk3:k*3≤c.length*3:=Nat.mul_le_mul_right _ (by omega)
  have hsum:k*3+(c.length-k)*3=c.length*3:=by rw [← Nat.add_mul];congr 1;omega
  have fin:=bTq (l:=l) (c'1:=c) (i'2:=k) (j'3:=l.length) (r0c:=(c.take k).flatten.map aB) h4 (by omega) (aO (by omega)) hL ⟨by omega,by omega,by omega⟩ (by rw [hcl];omega) ⟨by omega,by omega,by omega⟩ (by
   have hz:((List.replicate (c.length-k) (List.map PV.v [(.int .i64 0),(.int .i64 0),(.int .i64 0)])).flatten).length=(c.length-k)*3:=by
    rw [List.length_flatten];simp
   have hL2:(((c.flatten.map aB).take (k*3))++(List.replicate (c.length-k) (List.map PV.v [(.int .i64 0),(.int .i64 0),(.int .i64 0)])).flatten++(c.flatten.map aB).drop (k*3+(c.length-k)*3)).length=c.length*3:=by
    rw [kT,kT,hz,mY,bHr,hcl];omega
   rw [List.drop_zero,hL2,bHs c.length 3,Nat.mul_div_cancel _ (by omega:0<c.length),List.append_assoc,List.take_append_of_le_length (by rw [mY,hcl];omega),List.take_take,Nat.min_self,← List.map_take,aJj _ hs])
  have hk':c.take k=cS l su:=hk;rw [← hk'];have e:(c.take k).length=k:=by rw [mY,Nat.min_eq_left (by omega)]
  rw [e];exact fin
 ·have:cS l su=l:=List.filter_eq_self.2 fun n hn=>by
   have:=List.any_eq_false.1 h1 n hn;simpa using this
  rw [this];exact bTr h2
def aLl(dl:Int)(sk dc:Lqq)(i:Nat):Bool:=match (aE dl sk dc)[i]? with
 | some h=>aDp (cU (aE dl sk dc) i h.1) (h.1.any fun x=>x.2.1) (h.1.any fun x => !x.2.1)
 | none=>false
def lN(dl:Int)(sk dc:Lqq):List Int:=((List.range sk.length).filter (aLl dl sk dc)).map fun i=>(sk.getD i []).getD 0 0
theorem cAn{dl:Int}{sk dc:Lqq}(h:bG dl sk dc){f:Int}(hf:1≤f)(ho:(aN dl (aA dc)).length≤8):aNm dl sk dc f (lN dl (aA sk) (aA dc)):=fun base=>by
 obtain ⟨h1,h2,_,_⟩:=lE h;obtain ⟨o,hI,hL⟩:=aH.ex (P:=Tp) (k:=0) (b:=sub (cd Tryz.f93) [1,1,1,1,1,1,1,0,1,0,0]) (e := .exit 0) (fun i (o:List Int)=>lT dl sk dc o.length (o.map aB) i) (fun o=>lT dl sk dc o.length (o.map aB) (aA sk).length)
  (fun i o=>o=((List.range i).filter (aLl dl (aA sk) (aA dc))).map fun i=>((aA sk).getD i []).getD 0 0) (by simp) (aA sk).length
  (fun i o hi hoE=>by
   obtain ⟨y0,y1,hy⟩:=at2 h1 hi;have hat:=eV (dl:=dl) (dc:=aA dc) hy;have hlen:o.length≤i:=by
    rw [hoE,eR];have:=tR (aLl dl (aA sk) (aA dc)) (List.range i);simpa using this
   have hmb:aLl dl (aA sk) (aA dc) i=aDp (cU (aE dl (aA sk) (aA dc)) i (gM dl (aA dc) y0 y1 (jK dl (aA dc) y0)).1) ((gM dl (aA dc) y0 y1 (jK dl (aA dc) y0)).1.any fun x=>x.2.1) ((gM dl (aA dc) y0 y1 (jK dl (aA dc) y0)).1.any fun x => !x.2.1):=by
    unfold aLl;rw [hat];rfl
   have hal:(aE dl (aA sk) (aA dc)).length≤1000:=by rw [gH];omega
   have hc:=nG (s0:=y0) (s1:=y1) y0 ho;have hg:((aA sk).getD i []).getD 0 0=y0:=by simp [kQ4,hy]
   cases hb:aLl dl (aA sk) (aA dc) i with
   | true =>
    refine ⟨o++[y0],?_,bAg (by omega) hy h1 hat hal hc (by rw [← hb,hmb];rfl) ⟨rfl,by omega⟩ (aO (by omega)) (by simp) (by simp) rfl⟩
    rw [hoE,List.range_succ,lR,gJ];simp only [List.filter_cons,hb,if_true,List.filter_nil,gZ,List.map_nil,hg]
   | false =>
    refine ⟨o,?_,bAh (by omega) hy h1 hat hal hc (by rw [← hb,hmb];rfl) (aO (by omega)) rfl⟩
    rw [hoE,List.range_succ,lR,gJ];simp [List.filter_cons,hb])
  (fun o _=>bAi (by omega)) (acc:=[]) (by simp)
 have e:o=lN dl (aA sk) (aA dc):=hI;rw [← e];exact bTo h hf ho hL
end
section

theorem cAl{dl:Int}{sk dc:Lqq}{o0:List Int}(h0:aNm dl sk dc (1:Int) o0)(h1:bG dl sk dc)(h2:sk.length<20)(h3:uni 3 (bL dl [] (aA dc) (aA sk)))(h4:(bL dl [] (aA dc) (aA sk)).length≤1000)(h5:o0.length≤1000){base:Nat}:FV Tp 34 [(.p (.agg (cR dl sk dc)))] base (.tup [(.p (.sl ((cS (bL dl [] (aA dc) (aA sk)) o0).length) ((cS (bL dl [] (aA dc) (aA sk)) o0).flatten.map aB))),(pI 0)]) []:=by
 have k1:=fk 2 (bLu h1 h2) rfl;have k2:=mq [1] 2 (cAm (bL dl [] (aA dc) (aA sk)) o0 h3 h4 h5);exact FV.frz (FMM.fi 0 ⟨[],[],[],[]⟩ Tryz.func34 [.c (.tup [(.p (aF o0)),(pI 0)]) [],bF,k1.o,.g 1 ⟨[],[0,2],[1],[]⟩,k2.o] (gc k2 (gc k1 (gt (((0:Int) != (0:Int))=false) (by first | decide | simp) (gc (fk 1 (h0 _) rfl) gn))))) (by kernel_rfl)
theorem aFe{dl:Int}{sk dc:Lqq}{o:List Int}(h:bG dl sk dc)(hs:sk.length<20)(hc:aNm dl sk dc 1 o)(ho:o.length≤1000){base:Nat}:FV Tp 34 [.p (.agg (cR dl sk dc))] base (.tup [.p (fS (cS (bL dl [] (aA dc) (aA sk)) o)),.p (aB 0)]) []:=by
 have hl:(bL dl [] (aA dc) (aA sk)).length≤1000:=by rw [pL,cQ];have:=h.len;omega
 exact cAl hc h hs kK hl ho
end
section
variable {o10:Bool}{m p t fi m2 p' s7 s8 t3 wh y4 y5 a15 a16 b16 b17 c17 c18 x14 x15 a103 a304 b104 b305 c105 c306 m'19 m'20 m101 p'21 p'22 s301 s302 t'20 t'21 t102:Int}{dc1 sk0:Lqq}{l1 l2 l9 c11 c12 o13 o303 u100:List Int}{j n i6 n' base i300 n'18 n'19 j'106:Nat}

noncomputable abbrev oB:Code:=sub (cd Tryz.f14) [1,1,1,1,1,1,1,1,1,1,1,1,1,1,0,1,0,0]
noncomputable abbrev rW:Code:=sub (cd Tryz.f14) [1,1,1,1,1,1,1,1,1,1,1,1,1,0,1,0,0]
noncomputable abbrev aJm:Code:=sub (cd Tryz.f14) [1,1,1,1,1,1,1,1,1,1,1,1,1,0,1,0,0,1,1,0,0,1,1,1,1,0,0]
theorem bU:((0:Int) != (0:Int))=false:=by first | decide | simp
theorem xX:(6:Int)≠0:=by first | decide | simp
theorem aJn:((6:Int) != (0:Int))=true:=by first | decide | simp
theorem aRk:((10:Int) != (0:Int))=true:=by first | decide | simp
theorem bHx:((6:Int) == (0:Int))=false:=by first | decide | simp
theorem bHy:((6:Int) != (6:Int))=false:=by first | decide | simp
theorem bHz:((0:Int) == (0:Int))=true:=by first | decide | simp
section
variable {dl:Int} {sk dc:Lqq}
theorem aDj(h:bG dl sk dc){bib:Int}{i:Nat}{s0 s1:Int}(hp:kW (aA sk) bib=(i:Int))(hs:(aA sk)[i]? = some [s0,s1])(ho:(aN dl (aA dc)).length≤8){l:List Int}{o:Bool}(hl:cU (aE dl (aA sk) (aA dc)) i (hpM dl (aA dc) [s0,s1]).1=l)(hb:((hpM dl (aA dc) [s0,s1]).1.any fun x=>x.2.1)=o){base:Nat}:FV Tp 71 [.p (.agg (cR dl sk dc)),.p (aB bib)] base (.tup [.p (aF l),.p (blP o),.p (aB 0)]) []:=by
 rw [← hl,← hb];exact bKz h hp hs ho
theorem aDk(h:bG dl sk dc){f:Int}(hf:1≤f)(ho:(aN dl (aA dc)).length≤8){c:List Int}(hc:aAu dl (aA sk) (aA dc) f=c){base:Nat}:FV Tp 32 [.p (.agg (cR dl sk dc)),.p (aB f)] base (.tup [.p (aF c),.p (aB 0)]) []:=by
 rw [← hc];exact cAg h hf ho
theorem aDl(h:bG dl sk dc){f:Int}(hf:1≤f)(ho:(aN dl (aA dc)).length≤8){c:List Int}(hc:nE dl (aA sk) (aA dc) f=c){base:Nat}:FV Tp 33 [.p (.agg (cR dl sk dc)),.p (aB f)] base (.tup [.p (aF c),.p (aB 0)]) []:=by
 rw [← hc];exact bLa h hf ho
end
def fM(l2:List Int)(sk0:Lqq)(dc1:Lqq)(y4:Int)(y5:Int)(l9:List Int)(o10:Bool)(o13:List Int)(n:Nat)(m:Int)(t:Int):St:=⟨fr 306 [(9,(.ptr 0 0)),(10,(.ptr 1 0)),(11,(.ptr 2 0)),(13,(.p (aF (aN (30:Int) (aA dc1))))),(15,(.p (aF l9))),(16,(pB o10)),(20,(.p (.sl ((cS (bL (30:Int) [] (aA dc1) (aA sk0)) o13).length) ((cS (bL (30:Int) [] (aA dc1) (aA sk0)) o13).flatten.map aB)))),(185,(pI (n:Int)))],[some (.box 26 [(pI 30),(.p (fS sk0)),(.p (fS dc1))]),some (.box 129 [(.p (.sl l2.length (l2.map cM))),(pI m),(.p (.v (.int .u32 t)))]),some (.box 31 [(pI y4),(pI y5)])]⟩
def eK(sk0:Lqq)(dc1:Lqq)(y4:Int)(y5:Int)(l9:List Int)(o10:Bool)(p:Int):St:=⟨fr 306 [(9,(.ptr 0 0)),(11,(.ptr 1 0)),(15,(.p (aF l9))),(16,(pB o10)),(27,(pI p))],[some (.box 26 [(pI 30),(.p (fS sk0)),(.p (fS dc1))]),some (.box 31 [(pI y4),(pI y5)])]⟩
theorem bNd{a14 b15 c16:Int}{n'17:Nat}{m'18 t'19 p'20:Int}(h0:0≤(0:Int)∧(0:Int)≤900)(h1:1≤(6:Int)∧(6:Int)≤30)(h2:0≤(14:Int)∧(14:Int)≤40)(h3:aFv (6:Int) (14:Int) l1 (0:Int) (17:Int)=(sk0,dc1,m2,t3))(h4:inR wh)(h5:(sk0.length:Int)≠0)(h6:sk0[(wh.tmod (sk0.length:Int)).toNat]? = some [y4,y5])(h7:0≤(wh.tmod (sk0.length:Int)))(h8:uni 2 sk0)(h9:inR fi)(h10:inR ((1:Int)+(fi.tmod (6:Int))))(h11:bG (30:Int) sk0 dc1)(h12:kW (aA sk0) y4=(i6:Int))(h13:(aA sk0)[i6]? = some [s7,s8])(h14:(aN (30:Int) (aA dc1)).length≤8)(h15:cU (aE (30:Int) (aA sk0) (aA dc1)) i6 (hpM (30:Int) (aA dc1) [s7,s8]).1=l9)(h16:((hpM (30:Int) (aA dc1) [s7,s8]).1.any fun x=>x.2.1)=o10)(h17:(((0:Int) == (10:Int)) == (decide ((((aN (30:Int) (aA dc1)).length:Nat):Int) > (8:Int))))=true)(h18:1≤((1:Int)+(fi.tmod (6:Int))))(h19:aAu (30:Int) (aA sk0) (aA dc1) ((1:Int)+(fi.tmod (6:Int)))=c11)(h20:nE (30:Int) (aA sk0) (aA dc1) ((1:Int)+(fi.tmod (6:Int)))=c12)(h21:sk0.length<20)(h22:aNm (30:Int) sk0 dc1 1 o13)(h23:o13.length≤1000)(h24:(l9.length:Int)=0)(h25:o10=true)(h26:c11.length≤1000)(h27:(l9.length:Int)≤0)(h28:((c11.contains y4) == false)=true)(h29:c12.length≤1000)(h30:((c12.contains y4) == false)=true)(h31:uni 3 (cS (bL (30:Int) [] (aA dc1) (aA sk0)) o13))(h32:(cS (bL (30:Int) [] (aA dc1) (aA sk0)) o13).length≤1000)(h33:kN (cS (bL (30:Int) [] (aA dc1) (aA sk0)) o13) y4=[a14,b15,c16])(h34:(l9.length:Int)≠1)(h35:((a14 == y4) == ((l9.length:Int) == (0:Int)))=true)(hl36:aH Tp 0 rW (fM l2 sk0 dc1 y4 y5 l9 o10 o13 0 (0:Int) (17:Int)) (.exit 0) (fM l2 sk0 dc1 y4 y5 l9 o10 o13 n'17 m'18 t'19))(hl37:aH Tp 0 oB (eK sk0 dc1 y4 y5 l9 o10 (-1:Int)) (.exit 4) (eK sk0 dc1 y4 y5 l9 o10 p'20))(h38:∀ {base:Nat},FV Tp 26 [] base (pB true) []):FV Tp 14 [(.p (.sl l1.length (l1.map cM))),(.p (.sl l2.length (l2.map cM))),(.p (.v (.int .u8 wh))),(.p (.v (.int .u8 fi)))] base (pB true) []:=by
 have k1:=mq [] 0 (ofO l1);have k2:=mq [0] 1 (yN (6:Int) (14:Int) l1 (0:Int) (17:Int) h0 h1 h2 h3);have k3:=mq [] 2 (ofO l2);have k4:=fk 5 (sA h11) rfl;have k5:=fk 5 (aDj h11 h12 h13 h14 h15 h16) rfl;have k6:=fk 5 (aDk h11 h18 h14 h19) rfl;have k7:=fk 5 (aDl h11 h18 h14 h20) rfl;have k8:=fk 5 (aFe h11 h21 h22 h23) rfl;have k9:=fk 6 (kI c11 y4 h26) rfl;have k10:=fk 15 (kI c12 y4 h29) rfl;have k11:=fk 25 (oN (cS (bL (30:Int) [] (aA dc1) (aA sk0)) o13) y4 h31 h32 h33) rfl;exact FV.fi Tryz.func14 [k1.o,k2.o,k3.o,.x (.agg [(aB y4),(aB y5)]),k4.o,k5.o,bF,bF,bF,bF,bF,bF,bF,bF,bF,bF,bF,bF,bF,bF,bF,bF,k6.o,k7.o,k8.o,bF,bF,bF,bF,bF,bF,bF,bF,bF,bF,bT,bT,bF,bT,bF,bF,bF,bF,bF,k9.o,bF,bF,bF,bF,bF,bF,bF,bF,bF,bF,bF,bF,bF,bF,bF,bF,bF,k10.o,bF,bF,bF,bF,bF,bF,bF,bF,bF,bF,bF,bF,bF,bF,bF,bF,k11.o,bF,bF,bF,bF,bF,bF,bF,bF,bF,bF,bF,bF,bF,bF,bF,bF,bF,hl36.k 4 ⟨(rng [(0,9),(12,1),(14,1),(17,3),(21,6),(32,153),(186,59)]),[1,2,4],[],[]⟩,hl37.k 4 ⟨(rng [(0,9),(10,1),(12,3),(17,10),(28,277)]),[0,2],[],[]⟩,.c (pB true) []] (gc (fk 2 h38 rfl) (gc hl37.code (gc hl36.code (gc (aI h35) (g4c (aI h30) (gc (bJ h34) (gc (aI h30) (g2c (bJ h34) (g8c (aI h30) (gc k11 (g4c (aI h30) (g4c (aI h28) (gc (bA h27) (gc (aI h28) (g2c (bA h27) (g4c (aI h28) (gc k10 (g4c (aI h28) (g2c (aI h25) (gc (bA h27) (gc (aI h25) (g5c (bA h27) (g4c (aI h25) (gc k9 (g4c (aI h25) (gc bU (gc (dX h24) (gc bU (g2c (dX h24) (g8c bU (g2c bU (gc k8 (gc k7 (gc k6 (gc bU (gc (aI h17) (gc bU (gc (aI h17) (g2c bU (g3c (aI h17) (g7c bU (gc k5 (gc k4 (gc h10 (gc xX (gc h9 (gc (aT (i:=(wh.tmod (sk0.length:Int)).toNat) h8 h6) (gc (bH (i:=(wh.tmod (sk0.length:Int)).toNat) h8 h6) (gc (bR (k:=2) (i:=(wh.tmod (sk0.length:Int))) (by decide) h8 h7 h6) (gc h5 (gc h4 (gc k3 (gc k2 (gc k1 gn))))))))))))))))))))))))))))))))))))))))))))))))))))))
theorem bNe(h0:0≤(0:Int)∧(0:Int)≤900)(h1:1≤(6:Int)∧(6:Int)≤30)(h2:0≤(14:Int)∧(14:Int)≤40)(h3:aFv (6:Int) (14:Int) l1 (0:Int) (17:Int)=(sk0,dc1,m2,t3))(h4:inR wh)(h5:(sk0.length:Int)≠0)(h6:sk0[(wh.tmod (sk0.length:Int)).toNat]? = some [y4,y5])(h7:0≤(wh.tmod (sk0.length:Int)))(h8:uni 2 sk0)(h9:inR fi)(h10:inR ((1:Int)+(fi.tmod (6:Int))))(h11:bG (30:Int) sk0 dc1)(h12:kW (aA sk0) y4=(i6:Int))(h13:(aA sk0)[i6]? = some [s7,s8])(h14:(aN (30:Int) (aA dc1)).length≤8)(h15:cU (aE (30:Int) (aA sk0) (aA dc1)) i6 (hpM (30:Int) (aA dc1) [s7,s8]).1=l9)(h16:((hpM (30:Int) (aA dc1) [s7,s8]).1.any fun x=>x.2.1)=o10)(h17:(((0:Int) == (10:Int)) == (decide ((((aN (30:Int) (aA dc1)).length:Nat):Int) > (8:Int))))=true)(h18:1≤((1:Int)+(fi.tmod (6:Int))))(h19:aAu (30:Int) (aA sk0) (aA dc1) ((1:Int)+(fi.tmod (6:Int)))=c11)(h20:nE (30:Int) (aA sk0) (aA dc1) ((1:Int)+(fi.tmod (6:Int)))=c12)(h21:sk0.length<20)(h22:aNm (30:Int) sk0 dc1 1 o13)(h23:o13.length≤1000)(h24:(l9.length:Int)≠0)(h25:c11.length≤1000)(h26:(0:Int)<(l9.length:Int))(h27:l9[0]? = some x14)(h28:((c11.contains y4) == (decide (x14≤((1:Int)+(fi.tmod (6:Int))))))=true)(h29:c12.length≤1000)(h30:o10=false)(h31:inR ((l9.length:Int)-1))(h32:l9[((l9.length:Int)-1).toNat]? = some x15)(h33:0≤((l9.length:Int)-1))(h34:((c12.contains y4) == (decide (x15≤((1:Int)+(fi.tmod (6:Int))))))=true)(h35:uni 3 (cS (bL (30:Int) [] (aA dc1) (aA sk0)) o13))(h36:(cS (bL (30:Int) [] (aA dc1) (aA sk0)) o13).length≤1000)(h37:kN (cS (bL (30:Int) [] (aA dc1) (aA sk0)) o13) y4=[a16,b17,c18])(h38:(l9.length:Int)=1)(h39:((a16 == y4) == true)=true)(hl40:aH Tp 0 rW (fM l2 sk0 dc1 y4 y5 l9 o10 o13 0 (0:Int) (17:Int)) (.exit 0) (fM l2 sk0 dc1 y4 y5 l9 o10 o13 n'19 m'20 t'21))(hl41:aH Tp 0 oB (eK sk0 dc1 y4 y5 l9 o10 (-1:Int)) (.exit 4) (eK sk0 dc1 y4 y5 l9 o10 p'22))(h42:∀ {base:Nat},FV Tp 26 [] base (pB true) []):FV Tp 14 [(.p (.sl l1.length (l1.map cM))),(.p (.sl l2.length (l2.map cM))),(.p (.v (.int .u8 wh))),(.p (.v (.int .u8 fi)))] base (pB true) []:=by
 have k1:=mq [] 0 (ofO l1);have k2:=mq [0] 1 (yN (6:Int) (14:Int) l1 (0:Int) (17:Int) h0 h1 h2 h3);have k3:=mq [] 2 (ofO l2);have k4:=fk 5 (sA h11) rfl;have k5:=fk 5 (aDj h11 h12 h13 h14 h15 h16) rfl;have k6:=fk 5 (aDk h11 h18 h14 h19) rfl;have k7:=fk 5 (aDl h11 h18 h14 h20) rfl;have k8:=fk 5 (aFe h11 h21 h22 h23) rfl;have k9:=fk 6 (kI c11 y4 h25) rfl;have k10:=fk 15 (kI c12 y4 h29) rfl;have k11:=fk 25 (oN (cS (bL (30:Int) [] (aA dc1) (aA sk0)) o13) y4 h35 h36 h37) rfl;exact FV.fi Tryz.func14 [k1.o,k2.o,k3.o,.x (.agg [(aB y4),(aB y5)]),k4.o,k5.o,bF,bF,bF,bF,bF,bF,bF,bF,bF,bF,bF,bF,bF,bF,bF,bF,k6.o,k7.o,k8.o,bF,bF,bF,bF,bF,bF,bF,bF,bF,bF,bF,bF,bF,bF,bF,k9.o,bT,bT,bT,.x (aB x14),bT,bT,bT,bF,bF,bF,bF,k10.o,bF,bF,bF,bF,bT,bT,bF,bT,bF,bT,bT,bT,bT,bT,bT,.x (aB x15),bT,bT,bF,bT,bF,bF,bF,bF,bF,bF,k11.o,bF,bF,bF,bF,bF,bF,bF,bF,bT,bT,bF,bT,bF,bT,bT,bT,bF,bT,bF,bF,bF,hl40.k 4 ⟨(rng [(0,9),(12,1),(14,1),(17,3),(21,6),(32,153),(186,59)]),[1,2,4],[],[]⟩,hl41.k 4 ⟨(rng [(0,9),(10,1),(12,3),(17,10),(28,277)]),[0,2],[],[]⟩,.c (pB true) []] (gc (fk 2 h42 rfl) (gc hl41.code (gc hl40.code (gc (aI h39) (g2c (aI h34) (gc (bI h30) (gc (aI h34) (g3c (bI h30) (gc (aI h34) (gc (dX h38) (gc (aI h34) (g2c (dX h38) (g8c (aI h34) (gc k11 (g4c (aI h34) (g2c (aI h28) (gc (bI h30) (gc (aI h28) (g2c (bI h30) (gt ((l9.map aB)[(((l9.length:Int)-1).toNat*1)]? = some (aB x15)) (iO (i:=((l9.length:Int)-1).toNat) h32) (gc (bI h30) (gc (iP (g:=aB) h33 h32) (gc (bI h30) (gc h31 (g4c (bI h30) (gc (aI h28) (gc (aV h26) (gc (aI h28) (g2c (aV h26) (g4c (aI h28) (gc k10 (g4c (aI h28) (g3c (aV h26) (gt ((l9.map aB)[0]? = some (aB x14)) (iO (i:=0) h27) (gc (aV h26) (gt (0≤(0:Int)∧(0:Int)<(l9.length:Int)∧0<(l9.map aB).length) (iP (i:=(0:Int)) (by first | decide | simp) h27) (g2c (aV h26) (gc k9 (gc bU (gc (bJ h24) (gc bU (g2c (bJ h24) (g8c bU (g2c bU (gc k8 (gc k7 (gc k6 (gc bU (gc (aI h17) (gc bU (gc (aI h17) (g2c bU (g3c (aI h17) (g7c bU (gc k5 (gc k4 (gc h10 (gc xX (gc h9 (gc (aT (i:=(wh.tmod (sk0.length:Int)).toNat) h8 h6) (gc (bH (i:=(wh.tmod (sk0.length:Int)).toNat) h8 h6) (gc (bR (k:=2) (i:=(wh.tmod (sk0.length:Int))) (by decide) h8 h7 h6) (gc h5 (gc h4 (gc k3 (gc k2 (gc k1 gn)))))))))))))))))))))))))))))))))))))))))))))))))))))))))))))))))))
theorem bNf(h0:0≤(0:Int)∧(0:Int)≤900)(h1:1≤(6:Int)∧(6:Int)≤30)(h2:0≤(14:Int)∧(14:Int)≤40)(h3:aFv (6:Int) (14:Int) l1 (0:Int) (17:Int)=(sk0,dc1,m2,t3))(h4:inR wh)(h5:(sk0.length:Int)≠0)(h6:sk0[(wh.tmod (sk0.length:Int)).toNat]? = some [y4,y5])(h7:0≤(wh.tmod (sk0.length:Int)))(h8:uni 2 sk0)(h9:inR fi)(h10:inR ((1:Int)+(fi.tmod (6:Int))))(h11:bG (30:Int) sk0 dc1)(h12:kW (aA sk0) y4=(i6:Int))(h13:(aA sk0)[i6]? = some [s7,s8])(h14:(aN (30:Int) (aA dc1)).length≤8)(h15:cU (aE (30:Int) (aA sk0) (aA dc1)) i6 (hpM (30:Int) (aA dc1) [s7,s8]).1=l9)(h16:((hpM (30:Int) (aA dc1) [s7,s8]).1.any fun x=>x.2.1)=o10)(h17:(((0:Int) == (10:Int)) == (decide ((((aN (30:Int) (aA dc1)).length:Nat):Int) > (8:Int))))=true)(h18:1≤((1:Int)+(fi.tmod (6:Int))))(h19:aAu (30:Int) (aA sk0) (aA dc1) ((1:Int)+(fi.tmod (6:Int)))=c11)(h20:nE (30:Int) (aA sk0) (aA dc1) ((1:Int)+(fi.tmod (6:Int)))=c12)(h21:sk0.length<20)(h22:aNm (30:Int) sk0 dc1 1 o13)(h23:o13.length≤1000)(h24:(l9.length:Int)≠0)(h25:c11.length≤1000)(h26:(0:Int)<(l9.length:Int))(h27:l9[0]? = some x14)(h28:((c11.contains y4) == (decide (x14≤((1:Int)+(fi.tmod (6:Int))))))=true)(h29:c12.length≤1000)(h30:o10=false)(h31:inR ((l9.length:Int)-1))(h32:l9[((l9.length:Int)-1).toNat]? = some x15)(h33:0≤((l9.length:Int)-1))(h34:((c12.contains y4) == (decide (x15≤((1:Int)+(fi.tmod (6:Int))))))=true)(h35:uni 3 (cS (bL (30:Int) [] (aA dc1) (aA sk0)) o13))(h36:(cS (bL (30:Int) [] (aA dc1) (aA sk0)) o13).length≤1000)(h37:kN (cS (bL (30:Int) [] (aA dc1) (aA sk0)) o13) y4=[a16,b17,c18])(h38:(l9.length:Int)≠1)(h39:((a16 == y4) == ((l9.length:Int) == (0:Int)))=true)(hl40:aH Tp 0 rW (fM l2 sk0 dc1 y4 y5 l9 o10 o13 0 (0:Int) (17:Int)) (.exit 0) (fM l2 sk0 dc1 y4 y5 l9 o10 o13 n'19 m'20 t'21))(hl41:aH Tp 0 oB (eK sk0 dc1 y4 y5 l9 o10 (-1:Int)) (.exit 4) (eK sk0 dc1 y4 y5 l9 o10 p'22))(h42:∀ {base:Nat},FV Tp 26 [] base (pB true) []):FV Tp 14 [(.p (.sl l1.length (l1.map cM))),(.p (.sl l2.length (l2.map cM))),(.p (.v (.int .u8 wh))),(.p (.v (.int .u8 fi)))] base (pB true) []:=by
 have k1:=mq [] 0 (ofO l1);have k2:=mq [0] 1 (yN (6:Int) (14:Int) l1 (0:Int) (17:Int) h0 h1 h2 h3);have k3:=mq [] 2 (ofO l2);have k4:=fk 5 (sA h11) rfl;have k5:=fk 5 (aDj h11 h12 h13 h14 h15 h16) rfl;have k6:=fk 5 (aDk h11 h18 h14 h19) rfl;have k7:=fk 5 (aDl h11 h18 h14 h20) rfl;have k8:=fk 5 (aFe h11 h21 h22 h23) rfl;have k9:=fk 6 (kI c11 y4 h25) rfl;have k10:=fk 15 (kI c12 y4 h29) rfl;have k11:=fk 25 (oN (cS (bL (30:Int) [] (aA dc1) (aA sk0)) o13) y4 h35 h36 h37) rfl;exact FV.fi Tryz.func14 [k1.o,k2.o,k3.o,.x (.agg [(aB y4),(aB y5)]),k4.o,k5.o,bF,bF,bF,bF,bF,bF,bF,bF,bF,bF,bF,bF,bF,bF,bF,bF,k6.o,k7.o,k8.o,bF,bF,bF,bF,bF,bF,bF,bF,bF,bF,bF,bF,bF,bF,bF,k9.o,bT,bT,bT,.x (aB x14),bT,bT,bT,bF,bF,bF,bF,k10.o,bF,bF,bF,bF,bT,bT,bF,bT,bF,bT,bT,bT,bT,bT,bT,.x (aB x15),bT,bT,bF,bT,bF,bF,bF,bF,bF,bF,k11.o,bF,bF,bF,bF,bF,bF,bF,bF,bF,bF,bF,bF,bF,bF,bF,bF,bF,hl40.k 4 ⟨(rng [(0,9),(12,1),(14,1),(17,3),(21,6),(32,153),(186,59)]),[1,2,4],[],[]⟩,hl41.k 4 ⟨(rng [(0,9),(10,1),(12,3),(17,10),(28,277)]),[0,2],[],[]⟩,.c (pB true) []] (gc (fk 2 h42 rfl) (gc hl41.code (gc hl40.code (gc (aI h39) (g4c (aI h34) (gc (bJ h38) (gc (aI h34) (g2c (bJ h38) (g8c (aI h34) (gc k11 (g4c (aI h34) (g2c (aI h28) (gc (bI h30) (gc (aI h28) (g2c (bI h30) (gt ((l9.map aB)[(((l9.length:Int)-1).toNat*1)]? = some (aB x15)) (iO (i:=((l9.length:Int)-1).toNat) h32) (gc (bI h30) (gc (iP (g:=aB) h33 h32) (gc (bI h30) (gc h31 (g4c (bI h30) (gc (aI h28) (gc (aV h26) (gc (aI h28) (g2c (aV h26) (g4c (aI h28) (gc k10 (g4c (aI h28) (g3c (aV h26) (gt ((l9.map aB)[0]? = some (aB x14)) (iO (i:=0) h27) (gc (aV h26) (gt (0≤(0:Int)∧(0:Int)<(l9.length:Int)∧0<(l9.map aB).length) (iP (i:=(0:Int)) (by first | decide | simp) h27) (g2c (aV h26) (gc k9 (gc bU (gc (bJ h24) (gc bU (g2c (bJ h24) (g8c bU (g2c bU (gc k8 (gc k7 (gc k6 (gc bU (gc (aI h17) (gc bU (gc (aI h17) (g2c bU (g3c (aI h17) (g7c bU (gc k5 (gc k4 (gc h10 (gc xX (gc h9 (gc (aT (i:=(wh.tmod (sk0.length:Int)).toNat) h8 h6) (gc (bH (i:=(wh.tmod (sk0.length:Int)).toNat) h8 h6) (gc (bR (k:=2) (i:=(wh.tmod (sk0.length:Int))) (by decide) h8 h7 h6) (gc h5 (gc h4 (gc k3 (gc k2 (gc k1 gn)))))))))))))))))))))))))))))))))))))))))))))))))))))))))))))))
theorem bNg(h0:0≤(0:Int)∧(0:Int)≤900)(h1:1≤(6:Int)∧(6:Int)≤30)(h2:0≤(14:Int)∧(14:Int)≤40)(h3:aFv (6:Int) (14:Int) l1 (0:Int) (17:Int)=(sk0,dc1,m2,t3))(h4:inR wh)(h5:(sk0.length:Int)≠0)(h6:sk0[(wh.tmod (sk0.length:Int)).toNat]? = some [y4,y5])(h7:0≤(wh.tmod (sk0.length:Int)))(h8:uni 2 sk0)(h9:inR fi)(h10:inR ((1:Int)+(fi.tmod (6:Int))))(h11:bG (30:Int) sk0 dc1)(h12:kW (aA sk0) y4=(i6:Int))(h13:(aA sk0)[i6]? = some [s7,s8])(h14:(aN (30:Int) (aA dc1)).length≤8)(h15:cU (aE (30:Int) (aA sk0) (aA dc1)) i6 (hpM (30:Int) (aA dc1) [s7,s8]).1=l9)(h16:((hpM (30:Int) (aA dc1) [s7,s8]).1.any fun x=>x.2.1)=o10)(h17:(((0:Int) == (10:Int)) == (decide ((((aN (30:Int) (aA dc1)).length:Nat):Int) > (8:Int))))=true)(h18:1≤((1:Int)+(fi.tmod (6:Int))))(h19:aAu (30:Int) (aA sk0) (aA dc1) ((1:Int)+(fi.tmod (6:Int)))=c11)(h20:nE (30:Int) (aA sk0) (aA dc1) ((1:Int)+(fi.tmod (6:Int)))=c12)(h21:sk0.length<20)(h22:aNm (30:Int) sk0 dc1 1 o13)(h23:o13.length≤1000)(h24:(l9.length:Int)≠0)(h25:c11.length≤1000)(h26:(0:Int)<(l9.length:Int))(h27:l9[0]? = some x14)(h28:((c11.contains y4) == (decide (x14≤((1:Int)+(fi.tmod (6:Int))))))=true)(h29:c12.length≤1000)(h30:o10=true)(h31:((c12.contains y4) == false)=true)(h32:uni 3 (cS (bL (30:Int) [] (aA dc1) (aA sk0)) o13))(h33:(cS (bL (30:Int) [] (aA dc1) (aA sk0)) o13).length≤1000)(h34:kN (cS (bL (30:Int) [] (aA dc1) (aA sk0)) o13) y4=[a15,b16,c17])(h35:(l9.length:Int)=1)(h36:((a15 == y4) == ((l9.length:Int) == (0:Int)))=true)(hl37:aH Tp 0 rW (fM l2 sk0 dc1 y4 y5 l9 o10 o13 0 (0:Int) (17:Int)) (.exit 0) (fM l2 sk0 dc1 y4 y5 l9 o10 o13 n'18 m'19 t'20))(hl38:aH Tp 0 oB (eK sk0 dc1 y4 y5 l9 o10 (-1:Int)) (.exit 4) (eK sk0 dc1 y4 y5 l9 o10 p'21))(h39:∀ {base:Nat},FV Tp 26 [] base (pB true) []):FV Tp 14 [(.p (.sl l1.length (l1.map cM))),(.p (.sl l2.length (l2.map cM))),(.p (.v (.int .u8 wh))),(.p (.v (.int .u8 fi)))] base (pB true) []:=by
 have k1:=mq [] 0 (ofO l1);have k2:=mq [0] 1 (yN (6:Int) (14:Int) l1 (0:Int) (17:Int) h0 h1 h2 h3);have k3:=mq [] 2 (ofO l2);have k4:=fk 5 (sA h11) rfl;have k5:=fk 5 (aDj h11 h12 h13 h14 h15 h16) rfl;have k6:=fk 5 (aDk h11 h18 h14 h19) rfl;have k7:=fk 5 (aDl h11 h18 h14 h20) rfl;have k8:=fk 5 (aFe h11 h21 h22 h23) rfl;have k9:=fk 6 (kI c11 y4 h25) rfl;have k10:=fk 15 (kI c12 y4 h29) rfl;have k11:=fk 25 (oN (cS (bL (30:Int) [] (aA dc1) (aA sk0)) o13) y4 h32 h33 h34) rfl;exact FV.fi Tryz.func14 [k1.o,k2.o,k3.o,.x (.agg [(aB y4),(aB y5)]),k4.o,k5.o,bF,bF,bF,bF,bF,bF,bF,bF,bF,bF,bF,bF,bF,bF,bF,bF,k6.o,k7.o,k8.o,bF,bF,bF,bF,bF,bF,bF,bF,bF,bF,bF,bF,bF,bF,bF,k9.o,bT,bT,bT,.x (aB x14),bT,bT,bT,bF,bF,bF,bF,k10.o,bF,bF,bF,bF,bT,bT,bF,bT,bF,bF,bF,bF,bF,bF,bF,bF,bF,bF,bF,bF,bF,bF,bF,bF,bF,k11.o,bF,bF,bF,bF,bF,bF,bF,bF,bT,bT,bF,bT,bF,bF,bF,bF,bF,bF,bF,bF,bF,hl37.k 4 ⟨(rng [(0,9),(12,1),(14,1),(17,3),(21,6),(32,153),(186,59)]),[1,2,4],[],[]⟩,hl38.k 4 ⟨(rng [(0,9),(10,1),(12,3),(17,10),(28,277)]),[0,2],[],[]⟩,.c (pB true) []] (gc (fk 2 h39 rfl) (gc hl38.code (gc hl37.code (gc (aI h36) (g2c (aI h31) (gc (aI h30) (gc (aI h31) (g3c (aI h30) (gc (aI h31) (gc (dX h35) (gc (aI h31) (g2c (dX h35) (g8c (aI h31) (gc k11 (g4c (aI h31) (g2c (aI h28) (gc (aI h30) (gc (aI h28) (g8c (aI h30) (gc (aI h28) (gc (aV h26) (gc (aI h28) (g2c (aV h26) (g4c (aI h28) (gc k10 (g4c (aI h28) (g3c (aV h26) (gt ((l9.map aB)[0]? = some (aB x14)) (iO (i:=0) h27) (gc (aV h26) (gt (0≤(0:Int)∧(0:Int)<(l9.length:Int)∧0<(l9.map aB).length) (iP (i:=(0:Int)) (by first | decide | simp) h27) (g2c (aV h26) (gc k9 (gc bU (gc (bJ h24) (gc bU (g2c (bJ h24) (g8c bU (g2c bU (gc k8 (gc k7 (gc k6 (gc bU (gc (aI h17) (gc bU (gc (aI h17) (g2c bU (g3c (aI h17) (g7c bU (gc k5 (gc k4 (gc h10 (gc xX (gc h9 (gc (aT (i:=(wh.tmod (sk0.length:Int)).toNat) h8 h6) (gc (bH (i:=(wh.tmod (sk0.length:Int)).toNat) h8 h6) (gc (bR (k:=2) (i:=(wh.tmod (sk0.length:Int))) (by decide) h8 h7 h6) (gc h5 (gc h4 (gc k3 (gc k2 (gc k1 gn)))))))))))))))))))))))))))))))))))))))))))))))))))))))))))))
theorem bNh(h0:0≤(0:Int)∧(0:Int)≤900)(h1:1≤(6:Int)∧(6:Int)≤30)(h2:0≤(14:Int)∧(14:Int)≤40)(h3:aFv (6:Int) (14:Int) l1 (0:Int) (17:Int)=(sk0,dc1,m2,t3))(h4:inR wh)(h5:(sk0.length:Int)≠0)(h6:sk0[(wh.tmod (sk0.length:Int)).toNat]? = some [y4,y5])(h7:0≤(wh.tmod (sk0.length:Int)))(h8:uni 2 sk0)(h9:inR fi)(h10:inR ((1:Int)+(fi.tmod (6:Int))))(h11:bG (30:Int) sk0 dc1)(h12:kW (aA sk0) y4=(i6:Int))(h13:(aA sk0)[i6]? = some [s7,s8])(h14:(aN (30:Int) (aA dc1)).length≤8)(h15:cU (aE (30:Int) (aA sk0) (aA dc1)) i6 (hpM (30:Int) (aA dc1) [s7,s8]).1=l9)(h16:((hpM (30:Int) (aA dc1) [s7,s8]).1.any fun x=>x.2.1)=o10)(h17:(((0:Int) == (10:Int)) == (decide ((((aN (30:Int) (aA dc1)).length:Nat):Int) > (8:Int))))=true)(h18:1≤((1:Int)+(fi.tmod (6:Int))))(h19:aAu (30:Int) (aA sk0) (aA dc1) ((1:Int)+(fi.tmod (6:Int)))=c11)(h20:nE (30:Int) (aA sk0) (aA dc1) ((1:Int)+(fi.tmod (6:Int)))=c12)(h21:sk0.length<20)(h22:aNm (30:Int) sk0 dc1 1 o13)(h23:o13.length≤1000)(h24:(l9.length:Int)≠0)(h25:c11.length≤1000)(h26:(0:Int)<(l9.length:Int))(h27:l9[0]? = some x14)(h28:((c11.contains y4) == (decide (x14≤((1:Int)+(fi.tmod (6:Int))))))=true)(h29:c12.length≤1000)(h30:o10=true)(h31:((c12.contains y4) == false)=true)(h32:uni 3 (cS (bL (30:Int) [] (aA dc1) (aA sk0)) o13))(h33:(cS (bL (30:Int) [] (aA dc1) (aA sk0)) o13).length≤1000)(h34:kN (cS (bL (30:Int) [] (aA dc1) (aA sk0)) o13) y4=[a15,b16,c17])(h35:(l9.length:Int)≠1)(h36:((a15 == y4) == ((l9.length:Int) == (0:Int)))=true)(hl37:aH Tp 0 rW (fM l2 sk0 dc1 y4 y5 l9 o10 o13 0 (0:Int) (17:Int)) (.exit 0) (fM l2 sk0 dc1 y4 y5 l9 o10 o13 n'18 m'19 t'20))(hl38:aH Tp 0 oB (eK sk0 dc1 y4 y5 l9 o10 (-1:Int)) (.exit 4) (eK sk0 dc1 y4 y5 l9 o10 p'21))(h39:∀ {base:Nat},FV Tp 26 [] base (pB true) []):FV Tp 14 [(.p (.sl l1.length (l1.map cM))),(.p (.sl l2.length (l2.map cM))),(.p (.v (.int .u8 wh))),(.p (.v (.int .u8 fi)))] base (pB true) []:=by
 have k1:=mq [] 0 (ofO l1);have k2:=mq [0] 1 (yN (6:Int) (14:Int) l1 (0:Int) (17:Int) h0 h1 h2 h3);have k3:=mq [] 2 (ofO l2);have k4:=fk 5 (sA h11) rfl;have k5:=fk 5 (aDj h11 h12 h13 h14 h15 h16) rfl;have k6:=fk 5 (aDk h11 h18 h14 h19) rfl;have k7:=fk 5 (aDl h11 h18 h14 h20) rfl;have k8:=fk 5 (aFe h11 h21 h22 h23) rfl;have k9:=fk 6 (kI c11 y4 h25) rfl;have k10:=fk 15 (kI c12 y4 h29) rfl;have k11:=fk 25 (oN (cS (bL (30:Int) [] (aA dc1) (aA sk0)) o13) y4 h32 h33 h34) rfl;exact FV.fi Tryz.func14 [k1.o,k2.o,k3.o,.x (.agg [(aB y4),(aB y5)]),k4.o,k5.o,bF,bF,bF,bF,bF,bF,bF,bF,bF,bF,bF,bF,bF,bF,bF,bF,k6.o,k7.o,k8.o,bF,bF,bF,bF,bF,bF,bF,bF,bF,bF,bF,bF,bF,bF,bF,k9.o,bT,bT,bT,.x (aB x14),bT,bT,bT,bF,bF,bF,bF,k10.o,bF,bF,bF,bF,bT,bT,bF,bT,bF,bF,bF,bF,bF,bF,bF,bF,bF,bF,bF,bF,bF,bF,bF,bF,bF,k11.o,bF,bF,bF,bF,bF,bF,bF,bF,bF,bF,bF,bF,bF,bF,bF,bF,bF,hl37.k 4 ⟨(rng [(0,9),(12,1),(14,1),(17,3),(21,6),(32,153),(186,59)]),[1,2,4],[],[]⟩,hl38.k 4 ⟨(rng [(0,9),(10,1),(12,3),(17,10),(28,277)]),[0,2],[],[]⟩,.c (pB true) []] (gc (fk 2 h39 rfl) (gc hl38.code (gc hl37.code (gc (aI h36) (g4c (aI h31) (gc (bJ h35) (gc (aI h31) (g2c (bJ h35) (g8c (aI h31) (gc k11 (g4c (aI h31) (g2c (aI h28) (gc (aI h30) (gc (aI h28) (g8c (aI h30) (gc (aI h28) (gc (aV h26) (gc (aI h28) (g2c (aV h26) (g4c (aI h28) (gc k10 (g4c (aI h28) (g3c (aV h26) (gt ((l9.map aB)[0]? = some (aB x14)) (iO (i:=0) h27) (gc (aV h26) (gt (0≤(0:Int)∧(0:Int)<(l9.length:Int)∧0<(l9.map aB).length) (iP (i:=(0:Int)) (by first | decide | simp) h27) (g2c (aV h26) (gc k9 (gc bU (gc (bJ h24) (gc bU (g2c (bJ h24) (g8c bU (g2c bU (gc k8 (gc k7 (gc k6 (gc bU (gc (aI h17) (gc bU (gc (aI h17) (g2c bU (g3c (aI h17) (g7c bU (gc k5 (gc k4 (gc h10 (gc xX (gc h9 (gc (aT (i:=(wh.tmod (sk0.length:Int)).toNat) h8 h6) (gc (bH (i:=(wh.tmod (sk0.length:Int)).toNat) h8 h6) (gc (bR (k:=2) (i:=(wh.tmod (sk0.length:Int))) (by decide) h8 h7 h6) (gc h5 (gc h4 (gc k3 (gc k2 (gc k1 gn)))))))))))))))))))))))))))))))))))))))))))))))))))))))))
theorem bNi(h0:0≤(0:Int)∧(0:Int)≤900)(h1:1≤(6:Int)∧(6:Int)≤30)(h2:0≤(14:Int)∧(14:Int)≤40)(h3:aFv (6:Int) (14:Int) l1 (0:Int) (17:Int)=(sk0,dc1,m2,t3))(h4:inR wh)(h5:(sk0.length:Int)≠0)(h6:sk0[(wh.tmod (sk0.length:Int)).toNat]? = some [y4,y5])(h7:0≤(wh.tmod (sk0.length:Int)))(h8:uni 2 sk0)(h9:inR fi)(h10:inR ((1:Int)+(fi.tmod (6:Int))))(h11:bG (30:Int) sk0 dc1)(h12:kW (aA sk0) y4=(i6:Int))(h13:(aA sk0)[i6]? = some [s7,s8])(h14:8<(aN (30:Int) (aA dc1)).length)(h15:(((10:Int) == (10:Int)) == (decide ((((aN (30:Int) (aA dc1)).length:Nat):Int) > (8:Int))))=true)(h16:∀ {base:Nat},FV Tp 26 [] base (pB true) []):FV Tp 14 [(.p (.sl l1.length (l1.map cM))),(.p (.sl l2.length (l2.map cM))),(.p (.v (.int .u8 wh))),(.p (.v (.int .u8 fi)))] base (pB true) []:=by
 have k1:=mq [] 0 (ofO l1);have k2:=mq [0] 1 (yN (6:Int) (14:Int) l1 (0:Int) (17:Int) h0 h1 h2 h3);have k3:=mq [] 2 (ofO l2);have k4:=fk 5 (sA h11) rfl;have k5:=fk 5 (bZd h11 h12 h13 h14) rfl;exact FV.fi Tryz.func14 [k1.o,k2.o,k3.o,.x (.agg [(aB y4),(aB y5)]),k4.o,k5.o,bF,bF,bF,bF,bF,bF,bF,bF,bF,bF,bT,bT,bF,bT,bF,bF,bT,.c (pB true) []] (gc (fk 5 h16 rfl) (gc aRk (gt (((10:Int) != (10:Int))=false) (by first | decide | simp) (gc (aI h15) (gc aRk (gc (aI h15) (g2c aRk (g3c (aI h15) (g7c bU (gc k5 (gc k4 (gc h10 (gc xX (gc h9 (gc (aT (i:=(wh.tmod (sk0.length:Int)).toNat) h8 h6) (gc (bH (i:=(wh.tmod (sk0.length:Int)).toNat) h8 h6) (gc (bR (k:=2) (i:=(wh.tmod (sk0.length:Int))) (by decide) h8 h7 h6) (gc h5 (gc h4 (gc k3 (gc k2 (gc k1 gn))))))))))))))))))))))
def lS(l2:List Int)(sk0:Lqq)(dc1:Lqq)(y4:Int)(y5:Int)(l9:List Int)(o10:Bool)(o13:List Int)(n:Nat)(u100:List Int)(m101:Int)(t102:Int)(j:Nat):St:=⟨fr 306 [(9,(.ptr 0 0)),(10,(.ptr 1 0)),(11,(.ptr 2 0)),(13,(.p (aF (aN (30:Int) (aA dc1))))),(15,(.p (aF l9))),(16,(pB o10)),(20,(.p (.sl ((cS (bL (30:Int) [] (aA dc1) (aA sk0)) o13).length) ((cS (bL (30:Int) [] (aA dc1) (aA sk0)) o13).flatten.map aB)))),(22,(.p (.sl ((bL (30:Int) u100 (aA dc1) (aA sk0)).length) ((bL (30:Int) u100 (aA dc1) (aA sk0)).flatten.map aB)))),(185,(pI (n:Int))),(229,(.p (.sl ((cS (bL (30:Int) [] (aA dc1) (aA sk0)) o13).length) ((cS (bL (30:Int) [] (aA dc1) (aA sk0)) o13).flatten.map aB)))),(230,(pI (((cS (bL (30:Int) [] (aA dc1) (aA sk0)) o13).length:Nat):Int))),(231,(pI (j:Int)))],[some (.box 26 [(pI 30),(.p (fS sk0)),(.p (fS dc1))]),some (.box 129 [(.p (.sl l2.length (l2.map cM))),(pI m101),(.p (.v (.int .u32 t102)))]),some (.box 31 [(pI y4),(pI y5)])]⟩
theorem aZh(h0:(n:Int)<5)(h1:0≤m∧m≤1000000)(h2:(aN (30:Int) (aA dc1)).length≤1000)(h3:zZ (aN (30:Int) (aA dc1)) l2 m t=(u100,m101,t102))(h4:bG (30:Int) sk0 dc1)(h5:sk0.length<20)(h6:u100.length≤1000)(h7:aAs (30:Int) (aA dc1) u100=0)(h8:uni 3 (bL (30:Int) u100 (aA dc1) (aA sk0)))(h9:(bL (30:Int) u100 (aA dc1) (aA sk0)).length≤1000)(h10:kN (bL (30:Int) u100 (aA dc1) (aA sk0)) y4=[a103,b104,c105])(h11:a103=y4)(h12:b104=(-1:Int))(h13:o10=true)(hl14:aH Tp 0 aJm (lS l2 sk0 dc1 y4 y5 l9 o10 o13 n u100 m101 t102 0) (.exit 2) (lS l2 sk0 dc1 y4 y5 l9 o10 o13 n u100 m101 t102 j'106))(h15:inR (((n+1):Nat):Int))(en':n'=(n+1)):aC Tp 0 rW (fM l2 sk0 dc1 y4 y5 l9 o10 o13 n m t) .normal (fM l2 sk0 dc1 y4 y5 l9 o10 o13 n' m101 t102):=by
 subst en';have k1:=mq [1] 3 (bKw (aN (30:Int) (aA dc1)) l2 m t h1 h2 h3);have k2:=fk 4 (oN (bL (30:Int) u100 (aA dc1) (aA sk0)) y4 h8 h9 h10) rfl;exact aC.fi ⟨(rng [(0,9),(12,1),(14,1),(17,3),(21,6),(32,153),(186,59)]),[0,1,2],[],[]⟩ [bT,k1.o,.c (.tup [(.own 11),(pI 0)]) [(11,(.row 48 ((bL (30:Int) u100 (aA dc1) (aA sk0)).length) ((bL (30:Int) u100 (aA dc1) (aA sk0)).flatten.map aB)))],.g 1 ⟨[],[0,1,2,3],[11],[]⟩,k2.o,bF,bF,bF,bF,bF,bF,bF,bF,bF,bF,bT,bT,bF,bT,bF,bF,bF,bF,bF,bF,bF,bF,bF,bF,bF,bF,bF,hl14.k 4 ⟨(rng [(0,9),(12,1),(14,1),(17,3),(21,1),(23,4),(32,153),(186,43),(232,12)]),[0,1,2],[],[]⟩] (gc h15 (gc hl14.code (gc (aI h13) (gc (gB h12) (gc (aI h13) (g5c (gB h12) (g4c (aI h13) (gc (gB h11) (gc (dX h12) (gc (gB h11) (g2c (dX h12) (g4c (gB h11) (g6c bU (gc k2 (gt (FC Tp 21 [(.p (.agg (cR 30 sk0 dc1))),(.own 3)] [(3,(.row 3 u100.length (u100.map aB)))] 11 (.tup [(.own 11),(pI 0)]) [(11,(.row 48 ((bL (30:Int) u100 (aA dc1) (aA sk0)).length) ((bL (30:Int) u100 (aA dc1) (aA sk0)).flatten.map aB)))]) (FV.view (args':=[(.p (.agg (cR 30 sk0 dc1))),(.p (aF u100))]) (aEz h4 h5 u100 h6 h7) (by kernel_rfl) (by kernel_rfl) aHi) (gc k1 (gc (aV h0) gn)))))))))))))))))
theorem aZi(h0:(n:Int)<5)(h1:0≤m∧m≤1000000)(h2:(aN (30:Int) (aA dc1)).length≤1000)(h3:zZ (aN (30:Int) (aA dc1)) l2 m t=(u100,m101,t102))(h4:bG (30:Int) sk0 dc1)(h5:sk0.length<20)(h6:u100.length≤1000)(h7:aAs (30:Int) (aA dc1) u100=0)(h8:uni 3 (bL (30:Int) u100 (aA dc1) (aA sk0)))(h9:(bL (30:Int) u100 (aA dc1) (aA sk0)).length≤1000)(h10:kN (bL (30:Int) u100 (aA dc1) (aA sk0)) y4=[a103,b104,c105])(h11:a103=y4)(h12:b104≠(-1:Int))(h13:l9.length≤1000)(h14:(l9.contains b104)=true)(hl15:aH Tp 0 aJm (lS l2 sk0 dc1 y4 y5 l9 o10 o13 n u100 m101 t102 0) (.exit 2) (lS l2 sk0 dc1 y4 y5 l9 o10 o13 n u100 m101 t102 j'106))(h16:inR (((n+1):Nat):Int))(en':n'=(n+1)):aC Tp 0 rW (fM l2 sk0 dc1 y4 y5 l9 o10 o13 n m t) .normal (fM l2 sk0 dc1 y4 y5 l9 o10 o13 n' m101 t102):=by
 subst en';have k1:=mq [1] 3 (bKw (aN (30:Int) (aA dc1)) l2 m t h1 h2 h3);have k2:=fk 4 (oN (bL (30:Int) u100 (aA dc1) (aA sk0)) y4 h8 h9 h10) rfl;have k3:=fk 5 (kI l9 b104 h13) rfl;exact aC.fi ⟨(rng [(0,9),(12,1),(14,1),(17,3),(21,6),(32,153),(186,59)]),[0,1,2],[],[]⟩ [bT,k1.o,.c (.tup [(.own 11),(pI 0)]) [(11,(.row 48 ((bL (30:Int) u100 (aA dc1) (aA sk0)).length) ((bL (30:Int) u100 (aA dc1) (aA sk0)).flatten.map aB)))],.g 1 ⟨[],[0,1,2,3],[11],[]⟩,k2.o,bF,bF,bF,bF,bF,bF,bF,bF,bF,bF,bF,bF,bF,bF,bF,bT,bT,bT,bT,k3.o,bT,bT,bF,hl15.k 3 ⟨(rng [(0,9),(12,1),(14,1),(17,3),(21,1),(23,4),(32,153),(186,43),(232,12)]),[0,1,2],[],[]⟩] (gc h16 (gc hl15.code (gc (aI h14) (g2c (nB h12) (gc k3 (g4c (nB h12) (gc (gB h11) (gc (bJ h12) (gc (gB h11) (g2c (bJ h12) (g4c (gB h11) (g6c bU (gc k2 (gt (FC Tp 21 [(.p (.agg (cR 30 sk0 dc1))),(.own 3)] [(3,(.row 3 u100.length (u100.map aB)))] 11 (.tup [(.own 11),(pI 0)]) [(11,(.row 48 ((bL (30:Int) u100 (aA dc1) (aA sk0)).length) ((bL (30:Int) u100 (aA dc1) (aA sk0)).flatten.map aB)))]) (FV.view (args':=[(.p (.agg (cR 30 sk0 dc1))),(.p (aF u100))]) (aEz h4 h5 u100 h6 h7) (by kernel_rfl) (by kernel_rfl) aHi) (gc k1 (gc (aV h0) gn))))))))))))))))
theorem aZj(h0:(5:Int)≤(n:Int)):aC Tp 0 rW (fM l2 sk0 dc1 y4 y5 l9 o10 o13 n m t) (.exit 0) (fM l2 sk0 dc1 y4 y5 l9 o10 o13 n m t):=by
 exact aC.fi ⟨(rng [(0,9),(12,1),(14,1),(17,3),(21,6),(32,153),(186,59)]),[0,1,2],[],[]⟩ [bF] (gc (bA h0) gn)
theorem aZk(h0:inR (((sk0.length+1):Nat):Int))(h1:p≤(((sk0.length+1):Nat):Int))(h2:bG (30:Int) sk0 dc1)(h3:kW (aA sk0) y4=(i300:Int))(h4:(aA sk0)[i300]? = some [s301,s302])(h5:(aN (30:Int) (aA dc1)).length≤8)(h6 : -1≤p∧p≤1000)(h7:aAt (aE (30:Int) (aA sk0) (aA dc1)) i300 p (hpM (30:Int) (aA dc1) [s301,s302]).1=none)(h8:p=(-1:Int))(h9:o10=false)(h10:(((6:Int) == (0:Int)) == false)=true)(h11:inR (p+1))(ep':p'=(p+1)):aC Tp 0 oB (eK sk0 dc1 y4 y5 l9 o10 p) .normal (eK sk0 dc1 y4 y5 l9 o10 p'):=by
 subst ep';exact aC.fi ⟨(rng [(0,9),(10,1),(12,3),(17,10),(28,277)]),[0,1],[],[]⟩ [bT,.c (.tup [(.p dR),(pI 6)]) [],bT,bT,bF,bF,bF,bF,bF,bF,bF,bF,bF,bF,bF,bF,bT,bT,bF,bT,bF,bF,bF] (gc h11 (gc bHx (gc bHy (gc (aI h10) (gc aJn (gc (aI h10) (g2c aJn (g3c (aI h10) (gc h9 (gc (gB h8) (gc h9 (g3c (gB h8) (g3c h9 (g2c (dX h8) (gc (fk 2 ((aJo h2 h3 h4 h5 h6).1 h7 _) rfl) (gc (aAm h1) (gc h0 gn)))))))))))))))))
theorem aZl(h0:inR (((sk0.length+1):Nat):Int))(h1:p≤(((sk0.length+1):Nat):Int))(h2:bG (30:Int) sk0 dc1)(h3:kW (aA sk0) y4=(i300:Int))(h4:(aA sk0)[i300]? = some [s301,s302])(h5:(aN (30:Int) (aA dc1)).length≤8)(h6 : -1≤p∧p≤1000)(h7:aAt (aE (30:Int) (aA sk0) (aA dc1)) i300 p (hpM (30:Int) (aA dc1) [s301,s302]).1=none)(h8:p≠(-1:Int))(h9:l9.length≤1000)(h10:(((6:Int) == (0:Int)) == (l9.contains p))=true)(h11:inR (p+1))(ep':p'=(p+1)):aC Tp 0 oB (eK sk0 dc1 y4 y5 l9 o10 p) .normal (eK sk0 dc1 y4 y5 l9 o10 p'):=by
 subst ep';have k1:=fk 2 (kI l9 p h9) rfl;exact aC.fi ⟨(rng [(0,9),(10,1),(12,3),(17,10),(28,277)]),[0,1],[],[]⟩ [bT,.c (.tup [(.p dR),(pI 6)]) [],bF,bF,bT,bT,bT,k1.o,bT,bF,bF,bF,bT,bT,bF,bT,bF,bF,bF] (gc h11 (gc bHx (gc bHy (gc (aI h10) (gc aJn (gc (aI h10) (g2c aJn (g3c (aI h10) (gc (nB h8) (gc k1 (g3c (nB h8) (g2c (bJ h8) (gc (fk 2 ((aJo h2 h3 h4 h5 h6).1 h7 _) rfl) (gc (aAm h1) (gc h0 gn)))))))))))))))
theorem aRl(h0:inR (((sk0.length+1):Nat):Int))(h1:p≤(((sk0.length+1):Nat):Int))(h2:bG (30:Int) sk0 dc1)(h3:kW (aA sk0) y4=(i300:Int))(h4:(aA sk0)[i300]? = some [s301,s302])(h5:(aN (30:Int) (aA dc1)).length≤8)(h6 : -1≤p∧p≤1000)(h7:aAt (aE (30:Int) (aA sk0) (aA dc1)) i300 p (hpM (30:Int) (aA dc1) [s301,s302]).1=some o303)(h8:p=(-1:Int))(h9:o10=true)(h10:(((0:Int) == (0:Int)) == true)=true)(h11:sk0.length<20)(h12:o303.length≤1000)(h13:aAs (30:Int) (aA dc1) o303=0)(h14:uni 3 (bL (30:Int) o303 (aA dc1) (aA sk0)))(h15:(bL (30:Int) o303 (aA dc1) (aA sk0)).length≤1000)(h16:kN (bL (30:Int) o303 (aA dc1) (aA sk0)) y4=[a304,b305,c306])(h17:b305=p)(h18:inR (p+1))(ep':p'=(p+1)):aC Tp 0 oB (eK sk0 dc1 y4 y5 l9 o10 p) .normal (eK sk0 dc1 y4 y5 l9 o10 p'):=by
 subst ep';have k1:=fk 2 (aEz h2 h11 o303 h12 h13) rfl;exact aC.fi ⟨(rng [(0,9),(10,1),(12,3),(17,10),(28,277)]),[0,1],[],[]⟩ [bT,.c (.tup [(.p (aF o303)),(pI 0)]) [],bT,bT,bT,bT,bT,bT,bT,bF,bF,bF,bF,bF,bF,bF,bF,bT,k1.o,bF,bF,bF,bF,.c (.p (.agg [(aB a304),(aB b305),(aB c306)])) [(2,.dead)],bF,bF,bF,bF,bF] (gc h18 (gc (gB h17) (g4c bU (gt (FC Tp 25 [(.own 2),(pI y4)] [(2,(.row 48 ((bL (30:Int) o303 (aA dc1) (aA sk0)).length) ((bL (30:Int) o303 (aA dc1) (aA sk0)).flatten.map aB)))] 3 (.p (.agg [(aB a304),(aB b305),(aB c306)])) [(2,.dead)]) (FV.close (ids:=[2]) (args':=[(.p (.sl ((bL (30:Int) o303 (aA dc1) (aA sk0)).length) ((bL (30:Int) o303 (aA dc1) (aA sk0)).flatten.map aB))),(pI y4)]) (oN (bL (30:Int) o303 (aA dc1) (aA sk0)) y4 h14 h15 h16) (by kernel_rfl)) (g4c bU (gc k1 (gc bHz (gc (aI h10) (gc bU (gc (aI h10) (g2c bU (g3c (aI h10) (g5c h9 (g2c (dX h8) (gc (fk 2 ((aJo h2 h3 h4 h5 h6).2 _ h7 _) rfl) (gc (aAm h1) (gc h0 gn)))))))))))))))))
theorem aRm(h0:inR (((sk0.length+1):Nat):Int))(h1:p≤(((sk0.length+1):Nat):Int))(h2:bG (30:Int) sk0 dc1)(h3:kW (aA sk0) y4=(i300:Int))(h4:(aA sk0)[i300]? = some [s301,s302])(h5:(aN (30:Int) (aA dc1)).length≤8)(h6 : -1≤p∧p≤1000)(h7:aAt (aE (30:Int) (aA sk0) (aA dc1)) i300 p (hpM (30:Int) (aA dc1) [s301,s302]).1=some o303)(h8:p≠(-1:Int))(h9:l9.length≤1000)(h10:(((0:Int) == (0:Int)) == (l9.contains p))=true)(h11:sk0.length<20)(h12:o303.length≤1000)(h13:aAs (30:Int) (aA dc1) o303=0)(h14:uni 3 (bL (30:Int) o303 (aA dc1) (aA sk0)))(h15:(bL (30:Int) o303 (aA dc1) (aA sk0)).length≤1000)(h16:kN (bL (30:Int) o303 (aA dc1) (aA sk0)) y4=[a304,b305,c306])(h17:b305=p)(h18:inR (p+1))(ep':p'=(p+1)):aC Tp 0 oB (eK sk0 dc1 y4 y5 l9 o10 p) .normal (eK sk0 dc1 y4 y5 l9 o10 p'):=by
 subst ep';have k1:=fk 2 (kI l9 p h9) rfl;have k2:=fk 2 (aEz h2 h11 o303 h12 h13) rfl;exact aC.fi ⟨(rng [(0,9),(10,1),(12,3),(17,10),(28,277)]),[0,1],[],[]⟩ [bT,.c (.tup [(.p (aF o303)),(pI 0)]) [],bF,bF,bT,bT,bT,k1.o,bT,bF,bF,bF,bF,bF,bF,bF,bF,bT,k2.o,bF,bF,bF,bF,.c (.p (.agg [(aB a304),(aB b305),(aB c306)])) [(2,.dead)],bF,bF,bF,bF,bF] (gc h18 (gc (gB h17) (g4c bU (gt (FC Tp 25 [(.own 2),(pI y4)] [(2,(.row 48 ((bL (30:Int) o303 (aA dc1) (aA sk0)).length) ((bL (30:Int) o303 (aA dc1) (aA sk0)).flatten.map aB)))] 3 (.p (.agg [(aB a304),(aB b305),(aB c306)])) [(2,.dead)]) (FV.close (ids:=[2]) (args':=[(.p (.sl ((bL (30:Int) o303 (aA dc1) (aA sk0)).length) ((bL (30:Int) o303 (aA dc1) (aA sk0)).flatten.map aB))),(pI y4)]) (oN (bL (30:Int) o303 (aA dc1) (aA sk0)) y4 h14 h15 h16) (by kernel_rfl)) (g4c bU (gc k2 (gc bHz (gc (aI h10) (gc bU (gc (aI h10) (g2c bU (g3c (aI h10) (gc (nB h8) (gc k1 (g3c (nB h8) (g2c (bJ h8) (gc (fk 2 ((aJo h2 h3 h4 h5 h6).2 _ h7 _) rfl) (gc (aAm h1) (gc h0 gn)))))))))))))))))))
theorem aRn(h0:inR (((sk0.length+1):Nat):Int))(h1:(((sk0.length+1):Nat):Int)<p):aC Tp 0 oB (eK sk0 dc1 y4 y5 l9 o10 p) (.exit 4) (eK sk0 dc1 y4 y5 l9 o10 p):=by
 exact aC.fi ⟨(rng [(0,9),(10,1),(12,3),(17,10),(28,277)]),[0,1],[],[]⟩ [bF] (gc (qU h1) (gc h0 gn))
theorem aZm{y200 y201 y202 a203 b204 c205:Int}{j':Nat}(h0:(j:Int)<(((cS (bL (30:Int) [] (aA dc1) (aA sk0)) o13).length:Nat):Int))(h1:(cS (bL (30:Int) [] (aA dc1) (aA sk0)) o13)[j]? = some [y200,y201,y202])(h2:uni 3 (cS (bL (30:Int) [] (aA dc1) (aA sk0)) o13))(h3:uni 3 (bL (30:Int) u100 (aA dc1) (aA sk0)))(h4:(bL (30:Int) u100 (aA dc1) (aA sk0)).length≤1000)(h5:kN (bL (30:Int) u100 (aA dc1) (aA sk0)) y200=[a203,b204,c205])(h6:b204=y201)(h7:inR (((j+1):Nat):Int))(ej':j'=(j+1)):aC Tp 0 aJm (lS l2 sk0 dc1 y4 y5 l9 o10 o13 n u100 m101 t102 j) .normal (lS l2 sk0 dc1 y4 y5 l9 o10 o13 n u100 m101 t102 j'):=by
 subst ej';have k1:=fk 4 (oN (bL (30:Int) u100 (aA dc1) (aA sk0)) y200 h3 h4 h5) rfl;exact aC.fi ⟨(rng [(0,9),(12,1),(14,1),(17,3),(21,1),(23,4),(32,153),(186,43),(232,12)]),[0,1,2],[],[]⟩ [bT,.x (.agg [(aB y200),(aB y201),(aB y202)]),k1.o,bF] (gc h7 (gc (gB h6) (gc k1 (gc (aT (i:=j) h2 h1) (gc (bH (i:=j) h2 h1) (gc (bR (k:=3) (i:=(j:Int)) (by decide) h2 (kQ1 _) h1) (gc (aV h0) gn)))))))
theorem aZn(h0:(((cS (bL (30:Int) [] (aA dc1) (aA sk0)) o13).length:Nat):Int)≤(j:Int)):aC Tp 0 aJm (lS l2 sk0 dc1 y4 y5 l9 o10 o13 n u100 m101 t102 j) (.exit 2) (lS l2 sk0 dc1 y4 y5 l9 o10 o13 n u100 m101 t102 j):=by
 exact aC.fi ⟨(rng [(0,9),(12,1),(14,1),(17,3),(21,1),(23,4),(32,153),(186,43),(232,12)]),[0,1,2],[],[]⟩ [bF] (gc (bA h0) gn)
end
section
section
variable {sk0 dc1:Lqq}
end
end
section
section
variable {sk0 dc1:Lqq}
theorem qB{dl:Int}(hr:bG dl sk0 dc1)(B:Nat→Bool){i:Nat}{s:List Int}(hi:(aA sk0)[i]? = some s):((((List.range (aA sk0).length).filter B).map fun j=>((aA sk0).getD j []).getD 0 0).contains (s.getD 0 0))=B i:=by
 obtain ⟨hil,hie⟩:=kQ3.1 hi;rw [Bool.eq_iff_iff,List.contains_iff_mem];have hg:∀ j,(hj:j<(aA sk0).length)→(aA sk0).getD j []=(aA sk0)[j]:=fun j hj=>by rw [kQ4,kQ0 hj];rfl
 constructor
 ·intro h
  obtain ⟨j,hj,e⟩:=kQ9.1 h;obtain ⟨hj1,hj2⟩:=nA.1 hj;have hj1:=lH.1 hj1;rw [hg j hj1] at e
  have:=xG hr (kQ0 hj1) hi e;rw [← this];exact hj2
 ·intro h
  refine kQ9.2 ⟨i,nA.2 ⟨lH.2 hil,h⟩,?_⟩;rw [hg i hil,hie]
theorem aZf{L:Lqq}{su:List Int}{b:Int}:kN (cS L su) b=if su.contains b then kN L b else [0,0,0]:=by
 unfold kN cS;cases hc:su.contains b with
 | true =>
  rw [if_pos rfl,yX fun x _ hx => ?_]
  by_cases e:x.getD 0 0=b
  ·rw [e,hc] at hx;cases hx
  ·exact decide_eq_false e
 | false =>
  rw [if_neg Bool.false_ne_true];have:(L.filter fun x => !(!(su.contains (x.getD 0 0)))).find? (fun y=>decide (y.getD 0 0=b))=none:=by
   rw [xT];intro x hx;have hx:=(nA.1 hx).2;rw [Bool.not_not] at hx
   intro h;rw [of_decide_eq_true h,hc] at hx
   cases hx
  rw [this];rfl
theorem bHt(hr:bG 30 sk0 dc1){u:List Int}{y:List Int}(hy:y∈bL 30 u (aA dc1) (aA sk0)):∃ (k:Nat) (s:List Int),(aA sk0)[k]? = some s∧s.getD 0 0=y.getD 0 0∧y.getD 1 0=uA (fun s=>cE 30 u (aA dc1) (sB s) (sT s)) (aA sk0) s:=by
 obtain ⟨_,q2,q3⟩:=aPg (dl:=30) (oc:=u) (dc:=aA dc1) (tP hr);obtain ⟨s,hs,e1,e2⟩:=q3 y hy;obtain ⟨k,hk,rfl⟩:=List.getElem_of_mem hs;refine ⟨k,_,kQ0 hk,e1,?_⟩
 by_cases h:y.getD 1 0 = -1
 ·rw [h]
  refine (aVv ?_).symm;show (cE 30 u (aA dc1) (sB (aA sk0)[k]) (sT (aA sk0)[k])).2=true;rw [e2];exact decide_eq_true h
 ·rw [q2 y hy h,aPh (tP hr)]
  refine (bIc (t:=y.getD 2 0) ?_ ?_).symm
  ·show (cE 30 u (aA dc1) (sB (aA sk0)[k]) (sT (aA sk0)[k])).2=false
   rw [e2];exact decide_eq_false h
  ·show (cE 30 u (aA dc1) (sB (aA sk0)[k]) (sT (aA sk0)[k])).1=y.getD 2 0
   rw [e2]
theorem aVu(hr:bG 30 sk0 dc1){i:Nat}{s:List Int}:((hpM 30 (aA dc1) s).1.any fun x => !x.2.1)=true↔cU (aE 30 (aA sk0) (aA dc1)) i (hpM 30 (aA dc1) s).1≠[]:=by
 constructor
 ·exact fun h=>aEo (sK _ _ _) i h
 ·intro h
  obtain ⟨n,hn⟩:=bMv _ h;obtain ⟨x,hx,ho,_⟩:=tN.1 hn;exact List.any_eq_true.2 ⟨x,hx,by rw [ho];rfl⟩
theorem bTf(s:List Int):((hpM 30 (aA dc1) s).1.any fun x => !x.2.1)=false→((hpM 30 (aA dc1) s).1.any fun x=>x.2.1)=true:=fun h=>by
 obtain ⟨x,hx⟩:=bMv _ (aOz (dl:=30) (aA dc1) s);have:=List.any_eq_false.1 h x hx;exact List.any_eq_true.2 ⟨x,hx,by simpa using this⟩
theorem bHu{l:List Int}(h:l.length<2){a b:Int}(ha:a∈l)(hb:b∈l):a=b:=by
 match l,h with
 | [],_=>cases ha
 | [x],_=>rw [List.mem_singleton.1 ha,List.mem_singleton.1 hb]
theorem aJl(hr:bG 30 sk0 dc1){u v:List Int}(hu:u.Sublist (aN 30 (aA dc1)))(hv:v.Sublist (aN 30 (aA dc1))){k:Nat}{s:List Int}(hk:(aA sk0)[k]? = some s)
  (hst:aDp (cU (aE 30 (aA sk0) (aA dc1)) k (hpM 30 (aA dc1) s).1) ((hpM 30 (aA dc1) s).1.any fun x=>x.2.1) ((hpM 30 (aA dc1) s).1.any fun x => !x.2.1)=true):uA (fun s=>cE 30 u (aA dc1) (sB s) (sT s)) (aA sk0) s=uA (fun s=>cE 30 v (aA dc1) (sB s) (sT s)) (aA sk0) s:=by
 have pu:=aFa hr hu hk;have pv:=aFa hr hv hk;unfold aDp at hst
 rw [kQ7] at hst
 have hl:=of_decide_eq_true hst.2;have hne:((hpM 30 (aA dc1) s).1.any fun x => !x.2.1)≠((hpM 30 (aA dc1) s).1.any fun x=>x.2.1):=by
  have h1:=hst.1;rw [Bool.not_eq_true',beq_eq_false_iff_ne] at h1
  exact h1
 have no:∀ {a:Int},a∈cU (aE 30 (aA sk0) (aA dc1)) k (hpM 30 (aA dc1) s).1→((hpM 30 (aA dc1) s).1.any fun x=>x.2.1)=true→False:=fun ha ho=>by
  have:=(aVu (i:=k) (s:=s) hr).2 (List.ne_nil_of_mem ha);rw [this,ho] at hne
  exact hne rfl
 cases hou:(cE 30 u (aA dc1) (sB s) (sT s)).2 with
 | true =>
  rw [hou,if_pos rfl] at pu
  cases hov:(cE 30 v (aA dc1) (sB s) (sT s)).2 with
  | true =>
   rw [hov,if_pos rfl] at pv
   rw [pu.2,pv.2]
  | false =>
   rw [hov,if_neg Bool.false_ne_true] at pv
   exact (no pv pu.1).elim
 | false =>
  rw [hou,if_neg Bool.false_ne_true] at pu
  cases hov:(cE 30 v (aA dc1) (sB s) (sT s)).2 with
  | true =>
   rw [hov,if_pos rfl] at pv
   exact (no pu pv.1).elim
  | false =>
   rw [hov,if_neg Bool.false_ne_true] at pv
   exact bHu (l:=cU (aE 30 (aA sk0) (aA dc1)) k (hpM 30 (aA dc1) s).1) (by omega) pu pv
theorem aRi{l:List Int}(h:l.Pairwise (· ≤ ·)):(Lib.compact l).Pairwise (· < ·):=by
 unfold Lib.compact Lib.compactUpTo;rw [List.pairwise_map];have ea:∀ j,(hj:j<l.length)→l.toArray[j]! = l[j]:=fun j hj=>by
  rw [getElem!_pos l.toArray j (by simpa using hj)];simp
 have hr:((List.range l.length).filter (Lib.keeps l.toArray)).Pairwise (· < ·):=List.pairwise_lt_range.sublist List.filter_sublist
 refine hr.imp_of_mem fun {j k} hj hk hjk => ?_
 obtain ⟨hk1,hk2⟩:=nA.1 hk;have hk1:=lH.1 hk1;unfold Lib.keeps at hk2
 have hk3:=(of_decide_eq_true hk2).resolve_left (by omega)
 rw [ea k hk1,ea (k-1) (by omega)] at hk3
 rw [ea j (by omega),ea k hk1]
 have h1:l[k-1]≤l[k]:=List.pairwise_iff_getElem.1 h (k-1) k (by omega) hk1 (by omega)
 have h2:l[j]≤l[k-1]:=by
  by_cases e:j=k-1
  ·subst e;exact aNk _
  ·exact List.pairwise_iff_getElem.1 h j (k-1) (by omega) (by omega) (by omega)
 omega
theorem bHv:∀ {l:List Int} {a b:Int},l.Pairwise (· < ·)→(∀ x∈l,a≤x∧x≤b)→(l.length:Int)≤max 0 (b-a+1)
 | [],a,b,_,_=>by show ((0:Nat):Int)≤_;omega
 | x::l,a,b,h,hb=>by
  obtain ⟨h1,h2⟩:=bHp.1 h;have hx:=hb x (gY ..);have ih:=bHv (a:=x+1) (b:=b) h2 fun y hy=>by
   have:=h1 y hy;have:=hb y (kQ6 _ hy);omega
  rw [qZ];omega
theorem xW(hr:bG 30 sk0 dc1){i:Nat}{s:List Int}(hi:(aA sk0)[i]? = some s):(cU (aE 30 (aA sk0) (aA dc1)) i (hpM 30 (aA dc1) s).1).length≤1000:=by
 have hal:(aE 30 (aA sk0) (aA dc1)).length=(aA sk0).length:=gH ..;have hsl:(aA sk0).length≤30:=by rw [cQ];exact hr.len.2
 have h1:(cU (aE 30 (aA sk0) (aA dc1)) i (hpM 30 (aA dc1) s).1).Pairwise (· < ·):=by
  unfold cU;refine aRi ?_;have:=List.pairwise_mergeSort (le:=KL.leB) (fun a b c h1 h2=>by simp only [KL.leB,decide_eq_true_eq] at *;omega) (fun a b=>by simp only [KL.leB,xV,decide_eq_true_eq];omega) ((hpM 30 (aA dc1) s).1.flatMap (chL (aE 30 (aA sk0) (aA dc1)) i))
  exact this.imp fun {a b} h=>of_decide_eq_true h
 have h2:=bHv (a:=1) (b:=31) h1 fun n hn=>by
  obtain ⟨x,_,_,q1,q2⟩:=tN.1 hn;have:=(kH (aE 30 (aA sk0) (aA dc1)) i x.1 (aE 30 (aA sk0) (aA dc1)).length).2;have:(bM (aE 30 (aA sk0) (aA dc1)) i x.1).2≤30:=fT this (by omega)
  omega
 omega
theorem aZg(hr:bG 30 sk0 dc1){l2:List Int}{y4 y5:Int}{l9:List Int}{o10:Bool}{n:Nat}{u:List Int}{m t:Int}(hu:u.Sublist (aN 30 (aA dc1))) :
  aH Tp 0 (sub (cd Tryz.f14) [1,1,1,1,1,1,1,1,1,1,1,1,1,0,1,0,0,1,1,0,0,1,1,1,1,0,0]) (lS l2 sk0 dc1 y4 y5 l9 o10 (lN 30 (aA sk0) (aA dc1)) n u m t 0) (.exit 2) (lS l2 sk0 dc1 y4 y5 l9 o10 (lN 30 (aA sk0) (aA dc1)) n u m t (cS (bL 30 [] (aA dc1) (aA sk0)) (lN 30 (aA sk0) (aA dc1))).length):=by
 have hlen:=hr.len;have hR:(bL 30 u (aA dc1) (aA sk0)).length≤1000:=by rw [pL,cQ];omega
 have hkl:(cS (bL 30 [] (aA dc1) (aA sk0)) (lN 30 (aA sk0) (aA dc1))).length≤30:=by
  refine fT (tR _ _) ?_;rw [pL,cQ];omega
 have huni:uni 3 (cS (bL 30 [] (aA dc1) (aA sk0)) (lN 30 (aA sk0) (aA dc1))):=fun y hy=>kK y (nA.1 hy).1
 refine aH.count (P:=Tp) (k:=0) (b:=sub (cd Tryz.f14) [1,1,1,1,1,1,1,1,1,1,1,1,1,0,1,0,0,1,1,0,0,1,1,1,1,0,0]) (e := .exit 2) (R:=lS l2 sk0 dc1 y4 y5 l9 o10 (lN 30 (aA sk0) (aA dc1)) n u m t (cS (bL 30 [] (aA dc1) (aA sk0)) (lN 30 (aA sk0) (aA dc1))).length) _
  (fun j=>lS l2 sk0 dc1 y4 y5 l9 o10 (lN 30 (aA sk0) (aA dc1)) n u m t j) (fun j hj => ?_) (aZn (by omega)) (by simp)
 have hmj:=gS hj;obtain ⟨a,b,c,hy⟩:=len3 (huni _ hmj);have hx:(cS (bL 30 [] (aA dc1) (aA sk0)) (lN 30 (aA sk0) (aA dc1)))[j]? = some [a,b,c]:=by rw [kQ0 hj,hy]
 rw [hy] at hmj
 obtain ⟨h1,h2⟩:=nA.1 hmj;rw [Bool.not_not] at h2
 obtain ⟨k,s,hk,e1,e2⟩:=bHt hr h1;have e1:s.getD 0 0=a:=e1;have e2:b=uA (fun s=>cE 30 [] (aA dc1) (sB s) (sT s)) (aA sk0) s:=e2
 have h2:(lN 30 (aA sk0) (aA dc1)).contains a=true:=h2;rw [← e1] at h2
 unfold lN at h2
 rw [qB hr _ hk] at h2
 unfold aLl at h2
 rw [eV hk] at h2
 have hl:=aBm (dl:=30) (oc:=u) (D:=aA dc1) hr (kQ5 hk);rw [e1] at hl
 exact aZm (by omega) hx huni kK hR hl (by rw [e2];exact aJl hr hu (List.nil_sublist _) hk h2) (aO (by omega)) rfl
theorem bHw(hr:bG 30 sk0 dc1)(hsl:sk0.length<20)(h8:(aN 30 (aA dc1)).length≤8){l2:List Int}{y4 y5:Int}{i:Nat}(hi:(aA sk0)[i]? = some [y4,y5]) :
  ∃ n m t,aH Tp 0 (sub (cd Tryz.f14) [1,1,1,1,1,1,1,1,1,1,1,1,1,0,1,0,0]) (fM l2 sk0 dc1 y4 y5 (cU (aE 30 (aA sk0) (aA dc1)) i (hpM 30 (aA dc1) [y4,y5]).1) ((hpM 30 (aA dc1) [y4,y5]).1.any fun x=>x.2.1) (lN 30 (aA sk0) (aA dc1)) 0 0 17) (.exit 0) (fM l2 sk0 dc1 y4 y5 (cU (aE 30 (aA sk0) (aA dc1)) i (hpM 30 (aA dc1) [y4,y5]).1) ((hpM 30 (aA dc1) [y4,y5]).1.any fun x=>x.2.1) (lN 30 (aA sk0) (aA dc1)) n m t):=by
 have hlen:=hr.len;have hd:=eA hr;have hcl:=nG (dl:=30) (dc:=aA dc1) (s0:=y4) (s1:=y5) y4 h8;have hhl:(cU (aE 30 (aA sk0) (aA dc1)) i (hpM 30 (aA dc1) [y4,y5]).1).length≤1000:=xW hr hi;obtain ⟨⟨m,t⟩,_,hL⟩:=aH.ex (P:=Tp) (k:=0) (b:=sub (cd Tryz.f14) [1,1,1,1,1,1,1,1,1,1,1,1,1,0,1,0,0]) (e := .exit 0)
  (fun n (a:Int × Int)=>fM l2 sk0 dc1 y4 y5 (cU (aE 30 (aA sk0) (aA dc1)) i (hpM 30 (aA dc1) [y4,y5]).1) ((hpM 30 (aA dc1) [y4,y5]).1.any fun x=>x.2.1) (lN 30 (aA sk0) (aA dc1)) n a.1 a.2)
  (fun a=>fM l2 sk0 dc1 y4 y5 (cU (aE 30 (aA sk0) (aA dc1)) i (hpM 30 (aA dc1) [y4,y5]).1) ((hpM 30 (aA dc1) [y4,y5]).1.any fun x=>x.2.1) (lN 30 (aA sk0) (aA dc1)) 5 a.1 a.2)
  (fun n a=>0≤a.1∧a.1≤8*(n:Int)) (by simp) 5
  (fun n a hn hI=>by
   obtain ⟨m,t⟩:=a;dsimp only at hI
   rcases hs:zZ (aN 30 (aA dc1)) l2 m t with ⟨u,m',t'⟩
   have S:=aUh (aN 30 (aA dc1)) l2 m t;rw [hs] at S
   obtain ⟨hu,hv1,hv2⟩:=S;dsimp only at hu hv1 hv2
   have hul:=hu.length_le;have hR:(bL 30 u (aA dc1) (aA sk0)).length≤1000:=by rw [pL,cQ];omega
   have hl:=aBm (dl:=30) (oc:=u) (D:=aA dc1) hr (kQ5 hi);have hp:=aFa hr hu hi;have hlp:=aZg (l2:=l2) (y4:=y4) (y5:=y5) (l9:=cU (aE 30 (aA sk0) (aA dc1)) i (hpM 30 (aA dc1) [y4,y5]).1) (o10:=(hpM 30 (aA dc1) [y4,y5]).1.any fun x=>x.2.1) (n:=n) (m:=m') (t:=t') hr hu
   refine ⟨(m',t'),⟨by dsimp only;omega,by dsimp only;omega⟩,?_⟩
   cases ho:(cE 30 u (aA dc1) (sB [y4,y5]) (sT [y4,y5])).2 with
   | true =>
    rw [ho,if_pos rfl] at hp
    exact aZh (by omega) (by omega) (by omega) hs hr hsl (by omega) (aPe hd.up hu) kK hR hl rfl hp.2 hp.1 hlp (aO (by omega)) rfl
   | false =>
    rw [ho,if_neg Bool.false_ne_true] at hp
    obtain ⟨x,_,_,q1,_⟩:=tN.1 hp;exact aZi (by omega) (by omega) (by omega) hs hr hsl (by omega) (aPe hd.up hu) kK hR hl rfl (by omega) hhl (List.contains_iff_mem.2 hp) hlp (aO (by omega)) rfl)
  (fun a _=>aZj (by omega)) (acc:=(0,17)) ⟨by simp,by simp⟩
 exact ⟨5,m,t,hL⟩
theorem aRj(hr:bG 30 sk0 dc1)(hsl:sk0.length<20)(h8:(aN 30 (aA dc1)).length≤8){y4 y5:Int}{i:Nat}(hp:kW (aA sk0) y4=(i:Int))(hi:(aA sk0)[i]? = some [y4,y5]) :
  ∃ p,aH Tp 0 (sub (cd Tryz.f14) [1,1,1,1,1,1,1,1,1,1,1,1,1,1,0,1,0,0]) (eK sk0 dc1 y4 y5 (cU (aE 30 (aA sk0) (aA dc1)) i (hpM 30 (aA dc1) [y4,y5]).1) ((hpM 30 (aA dc1) [y4,y5]).1.any fun x=>x.2.1) (-1)) (.exit 4) (eK sk0 dc1 y4 y5 (cU (aE 30 (aA sk0) (aA dc1)) i (hpM 30 (aA dc1) [y4,y5]).1) ((hpM 30 (aA dc1) [y4,y5]).1.any fun x=>x.2.1) p):=by
 have hlen:=hr.len;have hhl:(cU (aE 30 (aA sk0) (aA dc1)) i (hpM 30 (aA dc1) [y4,y5]).1).length≤1000:=xW hr hi;have hR:∀ {u:List Int},(bL 30 u (aA dc1) (aA sk0)).length≤1000:=fun {u}=>by rw [pL,cQ];omega
 refine ⟨((sk0.length+3:Nat):Int)-1,?_⟩;exact aH.count (P:=Tp) (k:=0) (b:=sub (cd Tryz.f14) [1,1,1,1,1,1,1,1,1,1,1,1,1,1,0,1,0,0]) (e := .exit 4) (R:=eK sk0 dc1 y4 y5 (cU (aE 30 (aA sk0) (aA dc1)) i (hpM 30 (aA dc1) [y4,y5]).1) ((hpM 30 (aA dc1) [y4,y5]).1.any fun x=>x.2.1) (((sk0.length+3:Nat):Int)-1)) (sk0.length+3)
  (fun n=>eK sk0 dc1 y4 y5 (cU (aE 30 (aA sk0) (aA dc1)) i (hpM 30 (aA dc1) [y4,y5]).1) ((hpM 30 (aA dc1) [y4,y5]).1.any fun x=>x.2.1) ((n:Int)-1))
  (fun n hn=>by
   obtain ⟨p,hpe⟩:∃ p:Int,p=(n:Int)-1:=⟨_,rfl⟩;have hp2:((n+1:Nat):Int)-1=p+1:=by omega
   rw [hp2,← hpe];have hin:inR (p+1):=by unfold inR;omega
   have hin0:inR (((sk0.length+1):Nat):Int):=aO (by omega)
   have hple:p≤(((sk0.length+1):Nat):Int):=by omega
   have hpr : -1≤p∧p≤1000:=by omega
   cases hF:aAt (aE 30 (aA sk0) (aA dc1)) i p (hpM 30 (aA dc1) [y4,y5]).1 with
   | none =>
    obtain ⟨q1,q2⟩:=bId hr hi hF
    by_cases h1:p = -1
    ·have ho:((hpM 30 (aA dc1) [y4,y5]).1.any fun x=>x.2.1)=false:=by
      rw [← Bool.not_eq_true];exact fun h=>q1 ⟨h1,h⟩
     exact aZk hin0 hple hr hp hi h8 hpr hF h1 ho rfl hin rfl
    ·have hc:(cU (aE 30 (aA sk0) (aA dc1)) i (hpM 30 (aA dc1) [y4,y5]).1).contains p=false:=by
      rw [← Bool.not_eq_true,List.contains_iff_mem];exact q2
     exact aZl hin0 hple hr hp hi h8 hpr hF h1 hhl (by rw [hc];rfl) hin rfl
   | some o =>
    obtain ⟨q1,q2,q3,q4⟩:=bIe hr h8 hi hF;have hl:=aBm (dl:=30) (oc:=o) (D:=aA dc1) hr (kQ5 hi)
    rcases q1 with ⟨h1,ho⟩ | ⟨h1,hm⟩
    ·exact aRl hin0 hple hr hp hi h8 hpr hF h1 ho rfl hsl q3 q2 kK hR hl q4 hin rfl
    ·exact aRm hin0 hple hr hp hi h8 hpr hF h1 hhl (by rw [List.contains_iff_mem.2 hm];rfl) hsl q3 q2 kK hR hl q4 hin rfl)
  (aRn (aO (by omega)) (by omega)) (by simp)
end
theorem bTg(hA:∀ {base:Nat},FV Tp 26 [] base (.p (blP true)) [])(l1 l2:List Int)(wh fi:Int)(hw:0≤wh∧wh≤255)(hf:0≤fi∧fi≤255){base:Nat}:FV Tp 14 [.p (.sl l1.length (l1.map cM)),.p (.sl l2.length (l2.map cM)),.p (.v (.int .u8 wh)),.p (.v (.int .u8 fi))] base (.p (blP true)) []:=by
 have M:=aOq (ns:=6) (nd:=14) (l:=l1) (nx:=0) (st:=17) (by decide) (by decide) (by decide)
 rcases hmd:aFv 6 14 l1 0 17 with ⟨sk0,dc1,m2,t3⟩
 rw [hmd] at M
 obtain ⟨hr,hl6,hl14,_,_,_,hb,_,_⟩:=M;dsimp only at hr hl6 hl14 hb
 have hlen:=hr.len;have hd:=eA hr;have ht:0≤wh.tmod (sk0.length:Int)∧wh.tmod (sk0.length:Int)<(sk0.length:Int):=⟨Int.tmod_nonneg _ hw.1,Int.tmod_lt_of_pos _ (by omega)⟩
 have hfm:0≤fi.tmod 6∧fi.tmod 6<6:=⟨Int.tmod_nonneg _ hf.1,Int.tmod_lt_of_pos _ (by omega)⟩
 have hidx:(wh.tmod (sk0.length:Int)).toNat<sk0.length:=by omega
 have hm0:=gS hidx;obtain ⟨y4,y5,hy⟩:=len2 (hr.us _ hm0);have hx:sk0[(wh.tmod (sk0.length:Int)).toNat]? = some [y4,y5]:=by rw [kQ0 hidx,hy]
 rw [hy] at hm0
 have hy4:1≤y4:=(aBe.1 (hr.hsk _ hm0)).1.1;obtain ⟨i,hp,hs⟩:=cAe (sk:=aA sk0) (zW hr.ns) ((fG sk0).mem_iff.2 hm0);have hp:kW (aA sk0) y4=(i:Int):=hp;have hinw:inR wh:=by unfold inR;omega
 have hinf:inR fi:=by unfold inR;omega
 have hink:inR ((1:Int)+fi.tmod 6):=by unfold inR;omega
 have hne:(sk0.length:Int)≠0:=by omega
 by_cases h8:8<(aN 30 (aA dc1)).length
 ·exact bNi (by omega) (by omega) (by omega) hmd hinw hne hx ht.1 hr.us hinf hink hr hp hs h8 (by rw [decide_eq_true (by omega)];rfl) hA
 have h8:(aN 30 (aA dc1)).length≤8:=by omega
 have hdec:(((0:Int) == (10:Int)) == (decide ((((aN 30 (aA dc1)).length:Nat):Int) > (8:Int))))=true:=by
  rw [decide_eq_false (by omega)];rfl
 obtain ⟨n,m,t,hL0⟩:=bHw (l2:=l2) hr (by omega) h8 hs
 obtain ⟨p,hL2⟩:=aRj hr (by omega) h8 hp hs
 have hhl:(cU (aE 30 (aA sk0) (aA dc1)) i (hpM 30 (aA dc1) [y4,y5]).1).length≤1000:=xW hr hs;have hin:=aVu (i:=i) (s:=[y4,y5]) hr;have hor:=bTf (dc1:=dc1) [y4,y5];have hcan:(aAu 30 (aA sk0) (aA dc1) (1+fi.tmod 6)).contains y4=aPk (cU (aE 30 (aA sk0) (aA dc1)) i (hpM 30 (aA dc1) [y4,y5]).1) ((hpM 30 (aA dc1) [y4,y5]).1.any fun x => !x.2.1) (1+fi.tmod 6):=by
  refine (qB hr (aPj 30 (aA sk0) (aA dc1) (1+fi.tmod 6)) hs).trans ?_;unfold aPj;rw [eV hs]
 have hmus:(nE 30 (aA sk0) (aA dc1) (1+fi.tmod 6)).contains y4=aFw (cU (aE 30 (aA sk0) (aA dc1)) i (hpM 30 (aA dc1) [y4,y5]).1) ((hpM 30 (aA dc1) [y4,y5]).1.any fun x=>x.2.1) ((hpM 30 (aA dc1) [y4,y5]).1.any fun x => !x.2.1) (1+fi.tmod 6):=by
  refine (qB hr (uJ 30 (aA sk0) (aA dc1) (1+fi.tmod 6)) hs).trans ?_;unfold uJ;rw [eV hs]
 have hstl:(lN 30 (aA sk0) (aA dc1)).contains y4=aDp (cU (aE 30 (aA sk0) (aA dc1)) i (hpM 30 (aA dc1) [y4,y5]).1) ((hpM 30 (aA dc1) [y4,y5]).1.any fun x=>x.2.1) ((hpM 30 (aA dc1) [y4,y5]).1.any fun x => !x.2.1):=by
  refine (qB hr (aLl 30 (aA sk0) (aA dc1)) hs).trans ?_;unfold aLl;rw [eV hs]
 have hlen3:∀ (B:Nat→Bool),(((List.range (aA sk0).length).filter B).map fun j=>((aA sk0).getD j []).getD 0 0).length≤1000:=fun B=>by
  rw [eR];refine fT (tR _ _) ?_;rw [bMy,cQ];omega
 have hc1:(aAu 30 (aA sk0) (aA dc1) (1+fi.tmod 6)).length≤1000:=hlen3 _;have hc2:(nE 30 (aA sk0) (aA dc1) (1+fi.tmod 6)).length≤1000:=hlen3 _;have hc3:(lN 30 (aA sk0) (aA dc1)).length≤1000:=hlen3 _;have huni:uni 3 (cS (bL 30 [] (aA dc1) (aA sk0)) (lN 30 (aA sk0) (aA dc1))):=fun y hy=>kK y (nA.1 hy).1
 have hkl:(cS (bL 30 [] (aA dc1) (aA sk0)) (lN 30 (aA sk0) (aA dc1))).length≤1000:=by
  refine fT (tR _ _) ?_;rw [pL,cQ];omega
 have hline:=aZf (L:=bL 30 [] (aA dc1) (aA sk0)) (su:=lN 30 (aA sk0) (aA dc1)) (b:=y4);have hl:=aBm (dl:=30) (oc:=[]) (D:=aA dc1) hr (kQ5 hs);have hl:kN (bL 30 [] (aA dc1) (aA sk0)) y4=_:=hl;rw [hl] at hline
 have hchs:=cAn hr (f:=1) (by decide) h8
 revert hL0 hL2 hhl hin hor hcan hmus hstl;have hav0:∃ l9,cU (aE 30 (aA sk0) (aA dc1)) i (hpM 30 (aA dc1) [y4,y5]).1=l9:=⟨_,rfl⟩;have out0:∃ o10,((hpM 30 (aA dc1) [y4,y5]).1.any fun x=>x.2.1)=o10:=⟨_,rfl⟩
 have in0:∃ i10,((hpM 30 (aA dc1) [y4,y5]).1.any fun x => !x.2.1)=i10:=⟨_,rfl⟩
 obtain ⟨l9,hl9⟩:=hav0;obtain ⟨o10,ho10⟩:=out0;obtain ⟨i10,hi10⟩:=in0;rw [hl9,ho10,hi10];intro hL0 hL2 hhl hin hor hcan hmus hstl;have hk1:1≤(1:Int)+fi.tmod 6:=by omega
 have hsl:sk0.length<20:=by omega
 by_cases hnil:l9=[]
 ·have hi0:i10=false:=by
   rw [← Bool.not_eq_true];exact fun h=>hin.1 h hnil
  have ho1:=hor hi0;subst hi0;rw [hnil] at hl9 hcan hmus hstl hL0 hL2 hhl
  have hst:(lN 30 (aA sk0) (aA dc1)).contains y4=true:=by rw [hstl,ho1];rfl
  rw [hst,if_pos rfl] at hline
  rw [ho1] at ho10 hL0 hL2
  exact bNd (l9:=[]) (by omega) (by omega) (by omega) hmd hinw hne hx ht.1 hr.us hinf hink hr hp hs h8 hl9 ho10 hdec hk1 rfl rfl hsl hchs hc3 rfl rfl hc1 (by simp) (by rw [hcan];rfl) hc2 (by rw [hmus];rfl) huni hkl hline (by simp) (by simp) hL0 hL2 hA
 ·have hi1:i10=true:=hin.2 hnil
  subst hi1;have hpos:0<l9.length:=List.length_pos_iff.2 hnil;have h0:l9[0]? = some (l9.getD 0 0):=by rw [kQ4,kQ0 hpos];rfl
  have hcan2:(aAu 30 (aA sk0) (aA dc1) (1+fi.tmod 6)).contains y4=decide (l9.getD 0 0≤1+fi.tmod 6):=by rw [hcan];unfold aPk;rw [hZ]
  have hle:(((l9.length:Int)-(1:Int)).toNat)=l9.length-1:=by omega
  cases o10 with
  | false =>
   have hlast:l9[((l9.length:Int)-(1:Int)).toNat]? = some (l9.getD (l9.length-1) 0):=by
    rw [hle,kQ4,kQ0 (by omega)];rfl
   have hmus2:(nE 30 (aA sk0) (aA dc1) (1+fi.tmod 6)).contains y4=decide (l9.getD (l9.length-1) 0≤1+fi.tmod 6):=by rw [hmus];unfold aFw;simp
   by_cases h1:l9.length=1
   ·have hst:(lN 30 (aA sk0) (aA dc1)).contains y4=true:=by
     rw [hstl];unfold aDp;rw [decide_eq_true (by omega)];rfl
    rw [hst,if_pos rfl] at hline
    exact bNe (by omega) (by omega) (by omega) hmd hinw hne hx ht.1 hr.us hinf hink hr hp hs h8 hl9 ho10 hdec hk1 rfl rfl hsl hchs hc3 (by omega) hc1 (by omega) h0 (by rw [hcan2];exact beq_self_eq_true _) hc2 rfl (by unfold inR;omega) hlast (by omega) (by rw [hmus2];exact beq_self_eq_true _) huni hkl hline (by omega) (by simp) hL0 hL2 hA
   ·have hst:(lN 30 (aA sk0) (aA dc1)).contains y4=false:=by
     rw [hstl];unfold aDp;rw [decide_eq_false (by omega),Bool.and_false]
    rw [hst,if_neg Bool.false_ne_true] at hline
    exact bNf (by omega) (by omega) (by omega) hmd hinw hne hx ht.1 hr.us hinf hink hr hp hs h8 hl9 ho10 hdec hk1 rfl rfl hsl hchs hc3 (by omega) hc1 (by omega) h0 (by rw [hcan2];exact beq_self_eq_true _) hc2 rfl (by unfold inR;omega) hlast (by omega) (by rw [hmus2];exact beq_self_eq_true _) huni hkl hline (by omega) (by
     rw [show ((0:Int) == y4)=false by simp;omega,show ((l9.length:Int) == (0:Int))=false by simp;omega];rfl) hL0 hL2 hA
  | true =>
   have hmus2:(nE 30 (aA sk0) (aA dc1) (1+fi.tmod 6)).contains y4=false:=by rw [hmus];unfold aFw;simp
   have hst:(lN 30 (aA sk0) (aA dc1)).contains y4=false:=by rw [hstl];rfl
   rw [hst,if_neg Bool.false_ne_true] at hline
   have hz:((((0:Int) == y4)) == ((l9.length:Int) == (0:Int)))=true:=by
    rw [show ((0:Int) == y4)=false by simp;omega,show ((l9.length:Int) == (0:Int))=false by simp;omega];rfl
   by_cases h1:l9.length=1
   ·exact bNg (by omega) (by omega) (by omega) hmd hinw hne hx ht.1 hr.us hinf hink hr hp hs h8 hl9 ho10 hdec hk1 rfl rfl hsl hchs hc3 (by omega) hc1 (by omega) h0 (by rw [hcan2];exact beq_self_eq_true _) hc2 rfl (by rw [hmus2];rfl) huni hkl hline (by omega) hz hL0 hL2 hA
   ·exact bNh (by omega) (by omega) (by omega) hmd hinw hne hx ht.1 hr.us hinf hink hr hp hs h8 hl9 ho10 hdec hk1 rfl rfl hsl hchs hc3 (by omega) hc1 (by omega) h0 (by rw [hcan2];exact beq_self_eq_true _) hc2 rfl (by rw [hmus2];rfl) huni hkl hline (by omega) hz hL0 hL2 hA
end
end KV
end Go.Proofs
