/- Parts of the proof of JLasts: laws of walks, contracts of functions, plain models. No condition. -/
import Derived.RangeFuncLeaves
import Derived.OwnWalkIn
import Derived.TacticsInMore
import Derived.Maps.Keyed
import Derived.Maps.AppendAt
import Derived.OrdersHeld
import Derived.Great.BuildSlice
import Derived.Test.YtgehgmllhmfbpaaGreatPJLastsC
set_option linter.unusedVariables false
set_option linter.unusedSimpArgs false
set_option maxRecDepth 100000
namespace Go.Proofs
namespace KV
section
open KL
noncomputable abbrev zK5c0:Code:=sub (cd Tryz.f127) [1,1,0,1,0,0]
noncomputable abbrev zK5c1:Code:=sub (cd Tryz.f73) [1,0,1,1,1,1,0,1,0,0]
noncomputable abbrev zK5c2:Code:=sub (cd Tryz.f127) [1,1,0,1,0,0,1,1,0,0,1,1,1,0,0,0]
noncomputable abbrev zK5c3:Code:=sub (cd Tryz.f55) [1,1,1,1,1,0,1,0,0]
noncomputable abbrev zK5c4:Code:=sub (cd Tryz.f34) [1,1,1,1,0,1,0,0]
def dec_S0(c:Cup)(i:Nat)(r:Int)(f:Int):St:=⟨fr 58 [(2,(.p (intP r))),(3,(.p (intP 0))),(4,(.p (intP (checkP c)))),(5,(.ptr 0 0)),(6,(.p (intP f))),(23,(.p (intP (((c.done.length+1):Nat):Int)))),(24,(.p (intP (i:Int))))],[some (.box 120 [(.p (intP c.sk)),(.p (intP c.ra)),(.p (intP c.be)),(.p (intsP c.pts)),(.p (rowsP c.done))])]⟩
theorem dec_p1{c:Cup}{i'0:Nat}{r'1 f'2:Int}(h0:KL.Small c)(h1:(checkP c)=(0:Int))(h2:inR (((c.done.length+1):Nat):Int))(hl3:LoopOK Tryz.prog 0 zK5c1 (dec_S0 c 0 (0:Int) (-1:Int)) (.exit 0) (dec_S0 c i'0 r'1 f'2))(h4:f'2<(0:Int)){base:Nat}:FV Tryz.prog 73 [(.p (cupP c))] base (.tup [(.p (intP 0)),(.p (intP 0)),(.p (intP 6))]) []:=by
  exact FV.frz (FMM.fin (k:=0) (g:=⟨[],[],[],[]⟩) rfl Tryz.func73 rfl (o:=[.c (.tup [(.p (cupP c)),(.p (intP (checkP c)))]) [],bF,.k 7 ⟨(rng [(0,2),(7,16),(25,29)]),[1],[],[]⟩ (.exit 0) (dec_S0 c i'0 r'1 f'2),bT]) (l:=[_,_,_,_,_]) (by kernel_rfl) (gc (q_lt h4) (gc hl3.code (gc h2 (gc (q_neF h1) (gc (fk 1 (asked_ok c h0) rfl) gn)))))) (by kernel_rfl)
theorem dec_p2{c:Cup}{i'0:Nat}{r'1 f'2:Int}(h0:KL.Small c)(h1:(checkP c)=(0:Int))(h2:inR (((c.done.length+1):Nat):Int))(hl3:LoopOK Tryz.prog 0 zK5c1 (dec_S0 c 0 (0:Int) (-1:Int)) (.exit 0) (dec_S0 c i'0 r'1 f'2))(h4:(0:Int)≤f'2){base:Nat}:FV Tryz.prog 73 [(.p (cupP c))] base (.tup [(.p (intP r'1)),(.p (intP f'2)),(.p (intP 0))]) []:=by
  exact FV.frz (FMM.fin (k:=0) (g:=⟨[],[],[],[]⟩) rfl Tryz.func73 rfl (o:=[.c (.tup [(.p (cupP c)),(.p (intP (checkP c)))]) [],bF,.k 7 ⟨(rng [(0,2),(7,16),(25,29)]),[1],[],[]⟩ (.exit 0) (dec_S0 c i'0 r'1 f'2),bF]) (l:=[_,_,_,_,_]) (by kernel_rfl) (gc (q_ltF h4) (gc hl3.code (gc h2 (gc (q_neF h1) (gc (fk 1 (asked_ok c h0) rfl) gn)))))) (by kernel_rfl)
abbrev zK50(c:Cup)(l100:List (List Int)):=whoM (sureM (⟨c.sk,c.ra,c.be,c.pts,l100⟩:Cup)) (⟨c.sk,c.ra,c.be,c.pts,l100⟩:Cup).sk.toNat
abbrev zK51(c:Cup)(l100:List (List Int)):=whoM (canM (⟨c.sk,c.ra,c.be,c.pts,l100⟩:Cup)) (⟨c.sk,c.ra,c.be,c.pts,l100⟩:Cup).sk.toNat
theorem dec_L0_p0{c:Cup}{i:Nat}{r f:Int}{l100:List (List Int)}{x101 r':Int}(h0:(i:Int)<(((c.done.length+1):Nat):Int))(h1:0≤(0:Int)∧(0:Int)≤(i:Int)∧(i:Int)≤(c.done.length:Int)∧(c.done.map intsP).length=c.done.length*1)(h2:(i-0)=l100.length)(h3:((c.done.map intsP).take (i*1))=l100.map intsP)(h4:KL.Valid (⟨c.sk,c.ra,c.be,c.pts,l100⟩:Cup))(h5:(0:Int)<(((whoM (sureM (⟨c.sk,c.ra,c.be,c.pts,l100⟩:Cup)) (⟨c.sk,c.ra,c.be,c.pts,l100⟩:Cup).sk.toNat).length:Nat):Int))(h6:(((whoM (canM (⟨c.sk,c.ra,c.be,c.pts,l100⟩:Cup)) (⟨c.sk,c.ra,c.be,c.pts,l100⟩:Cup).sk.toNat).length:Nat):Int)=(1:Int))(h7:(whoM (sureM (⟨c.sk,c.ra,c.be,c.pts,l100⟩:Cup)) (⟨c.sk,c.ra,c.be,c.pts,l100⟩:Cup).sk.toNat)[0]? = some x101)(er':r'=(i:Int)):CodeOK Tryz.prog 0 zK5c1 (dec_S0 c i r f) (.exit 0) (dec_S0 c i r' x101):=by
  subst er'
  exact CodeOK.fin (g:=⟨(rng [(0,2),(7,16),(25,29)]),[0],[],[]⟩) (o:=[bT,.c (.agg [(.fn 137 [] [])]) [],.c (.p (intsP (zK51 c l100))) [],.c (.agg [(.fn 149 [] [])]) [],.c (.p (intsP (zK50 c l100))) [],bT,bT,bT,bT,bT,.x (intP x101)]) (l:=[((zK50 c l100).map intP)[0]? = some (intP x101),0≤(0:Int)∧(0:Int)<(((zK50 c l100).length:Nat):Int)∧0<((zK50 c l100).map intP).length,_,_,_,_,_,FC Tryz.prog 110 [(.agg [(.fn 149 [] [])]),(.p (.agg [(intP c.sk),(intP c.ra),(intP c.be),(intsP c.pts),(.sl (i-0) ((c.done.map intsP).take (i*1)))]))] [] 14 (.p (intsP (zK50 c l100))) [],FC Tryz.prog 111 [] [] 10 (.agg [(.fn 149 [] [])]) [],FC Tryz.prog 110 [(.agg [(.fn 137 [] [])]),(.p (.agg [(intP c.sk),(intP c.ra),(intP c.be),(intsP c.pts),(.sl (i-0) ((c.done.map intsP).take (i*1)))]))] [] 6 (.p (intsP (zK51 c l100))) [],FC Tryz.prog 109 [] [] 2 (.agg [(.fn 137 [] [])]) [],_,_]) (by kernel_rfl) (gc (at_map (i:=0) h7) (gc (ix_map (i:=(0:Int)) (by first | decide | simp) h7) (gc (q_eq h6) (gc (q_lt h5) (gc (q_lt h5) (gc (q_lt h5) (gc (q_lt h5) (gc (FV.fc (by rw [show ((.sl (i-0) ((c.done.map intsP).take (i*1))):PV)=rowsP l100 from sl_cast h2 h3];exact (sureA_ok (⟨c.sk,c.ra,c.be,c.pts,l100⟩:Cup) h4)) rfl) (gc (FV.fc sureQ_p0 (by kernel_rfl)) (gc (FV.fc (by rw [show ((.sl (i-0) ((c.done.map intsP).take (i*1))):PV)=rowsP l100 from sl_cast h2 h3];exact (canA_ok (⟨c.sk,c.ra,c.be,c.pts,l100⟩:Cup) h4)) rfl) (gc (FV.fc canQ_p0 (by kernel_rfl)) (gc h1 (gc (q_lt h0) gn)))))))))))))
theorem dec_L0_p1{c:Cup}{i:Nat}{r f:Int}{l100:List (List Int)}{i':Nat}(h0:(i:Int)<(((c.done.length+1):Nat):Int))(h1:0≤(0:Int)∧(0:Int)≤(i:Int)∧(i:Int)≤(c.done.length:Int)∧(c.done.map intsP).length=c.done.length*1)(h2:(i-0)=l100.length)(h3:((c.done.map intsP).take (i*1))=l100.map intsP)(h4:KL.Valid (⟨c.sk,c.ra,c.be,c.pts,l100⟩:Cup))(h5:(0:Int)<(((whoM (sureM (⟨c.sk,c.ra,c.be,c.pts,l100⟩:Cup)) (⟨c.sk,c.ra,c.be,c.pts,l100⟩:Cup).sk.toNat).length:Nat):Int))(h6:(((whoM (canM (⟨c.sk,c.ra,c.be,c.pts,l100⟩:Cup)) (⟨c.sk,c.ra,c.be,c.pts,l100⟩:Cup).sk.toNat).length:Nat):Int)≠(1:Int))(h7:inR (((i+1):Nat):Int))(ei':i'=(i+1)):CodeOK Tryz.prog 0 zK5c1 (dec_S0 c i r f) .normal (dec_S0 c i' r f):=by
  subst ei'
  exact CodeOK.fin (g:=⟨(rng [(0,2),(7,16),(25,29)]),[0],[],[]⟩) (o:=[bT,.c (.agg [(.fn 137 [] [])]) [],.c (.p (intsP (zK51 c l100))) [],.c (.agg [(.fn 149 [] [])]) [],.c (.p (intsP (zK50 c l100))) [],bT,bT,bT,bT,bF]) (l:=[_,_,_,_,_,_,FC Tryz.prog 110 [(.agg [(.fn 149 [] [])]),(.p (.agg [(intP c.sk),(intP c.ra),(intP c.be),(intsP c.pts),(.sl (i-0) ((c.done.map intsP).take (i*1)))]))] [] 14 (.p (intsP (zK50 c l100))) [],FC Tryz.prog 111 [] [] 10 (.agg [(.fn 149 [] [])]) [],FC Tryz.prog 110 [(.agg [(.fn 137 [] [])]),(.p (.agg [(intP c.sk),(intP c.ra),(intP c.be),(intsP c.pts),(.sl (i-0) ((c.done.map intsP).take (i*1)))]))] [] 6 (.p (intsP (zK51 c l100))) [],FC Tryz.prog 109 [] [] 2 (.agg [(.fn 137 [] [])]) [],_,_]) (by kernel_rfl) (gc h7 (gc (q_ne h6) (gc (q_lt h5) (gc (q_lt h5) (gc (q_lt h5) (gc (q_lt h5) (gc (FV.fc (by rw [show ((.sl (i-0) ((c.done.map intsP).take (i*1))):PV)=rowsP l100 from sl_cast h2 h3];exact (sureA_ok (⟨c.sk,c.ra,c.be,c.pts,l100⟩:Cup) h4)) rfl) (gc (FV.fc sureQ_p0 (by kernel_rfl)) (gc (FV.fc (by rw [show ((.sl (i-0) ((c.done.map intsP).take (i*1))):PV)=rowsP l100 from sl_cast h2 h3];exact (canA_ok (⟨c.sk,c.ra,c.be,c.pts,l100⟩:Cup) h4)) rfl) (gc (FV.fc canQ_p0 (by kernel_rfl)) (gc h1 (gc (q_lt h0) gn))))))))))))
theorem dec_L0_p2{c:Cup}{i:Nat}{r f:Int}{l100:List (List Int)}{i':Nat}(h0:(i:Int)<(((c.done.length+1):Nat):Int))(h1:0≤(0:Int)∧(0:Int)≤(i:Int)∧(i:Int)≤(c.done.length:Int)∧(c.done.map intsP).length=c.done.length*1)(h2:(i-0)=l100.length)(h3:((c.done.map intsP).take (i*1))=l100.map intsP)(h4:KL.Valid (⟨c.sk,c.ra,c.be,c.pts,l100⟩:Cup))(h5:(((whoM (sureM (⟨c.sk,c.ra,c.be,c.pts,l100⟩:Cup)) (⟨c.sk,c.ra,c.be,c.pts,l100⟩:Cup).sk.toNat).length:Nat):Int)≤(0:Int))(h6:inR (((i+1):Nat):Int))(ei':i'=(i+1)):CodeOK Tryz.prog 0 zK5c1 (dec_S0 c i r f) .normal (dec_S0 c i' r f):=by
  subst ei'
  exact CodeOK.fin (g:=⟨(rng [(0,2),(7,16),(25,29)]),[0],[],[]⟩) (o:=[bT,.c (.agg [(.fn 137 [] [])]) [],.c (.p (intsP (zK51 c l100))) [],.c (.agg [(.fn 149 [] [])]) [],.c (.p (intsP (zK50 c l100))) [],bF,bF,bF,bF]) (l:=[_,_,_,_,_,FC Tryz.prog 110 [(.agg [(.fn 149 [] [])]),(.p (.agg [(intP c.sk),(intP c.ra),(intP c.be),(intsP c.pts),(.sl (i-0) ((c.done.map intsP).take (i*1)))]))] [] 14 (.p (intsP (zK50 c l100))) [],FC Tryz.prog 111 [] [] 10 (.agg [(.fn 149 [] [])]) [],FC Tryz.prog 110 [(.agg [(.fn 137 [] [])]),(.p (.agg [(intP c.sk),(intP c.ra),(intP c.be),(intsP c.pts),(.sl (i-0) ((c.done.map intsP).take (i*1)))]))] [] 6 (.p (intsP (zK51 c l100))) [],FC Tryz.prog 109 [] [] 2 (.agg [(.fn 137 [] [])]) [],_,_]) (by kernel_rfl) (gc h6 (gc (q_ltF h5) (gc (q_ltF h5) (gc (q_ltF h5) (gc (q_ltF h5) (gc (FV.fc (by rw [show ((.sl (i-0) ((c.done.map intsP).take (i*1))):PV)=rowsP l100 from sl_cast h2 h3];exact (sureA_ok (⟨c.sk,c.ra,c.be,c.pts,l100⟩:Cup) h4)) rfl) (gc (FV.fc sureQ_p0 (by kernel_rfl)) (gc (FV.fc (by rw [show ((.sl (i-0) ((c.done.map intsP).take (i*1))):PV)=rowsP l100 from sl_cast h2 h3];exact (canA_ok (⟨c.sk,c.ra,c.be,c.pts,l100⟩:Cup) h4)) rfl) (gc (FV.fc canQ_p0 (by kernel_rfl)) (gc h1 (gc (q_lt h0) gn)))))))))))
theorem dec_L0_p3{c:Cup}{i:Nat}{r f:Int}(h0:(((c.done.length+1):Nat):Int)≤(i:Int)):CodeOK Tryz.prog 0 zK5c1 (dec_S0 c i r f) (.exit 0) (dec_S0 c i r f):=by
  exact CodeOK.fin (g:=⟨(rng [(0,2),(7,16),(25,29)]),[0],[],[]⟩) (o:=[bF]) (l:=[_]) (by kernel_rfl) (gc (q_ltF h0) gn)
theorem range_at{n i x:Nat}(h:(List.range n)[i]? = some x):x=i∧i<n:=by
  obtain ⟨h1,h2⟩:=List.getElem?_eq_some_iff.1 h
  rw [List.getElem_range] at h2
  exact ⟨h2.symm,by simpa using h1⟩
abbrev earlyC(c:Cup)(n:Nat):Cup:={ c with done:=c.done.take n }
def decP(c:Cup)(n:Nat):Bool:=decide (0<(whoM (sureM (earlyC c n)) c.sk.toNat).length) && decide ((whoM (canM (earlyC c n)) c.sk.toNat).length=1)
def decM(c:Cup):Int × Int × Int:=match (List.range (c.done.length+1)).findIdx? (decP c) with
  | some n=>((n:Int),(whoM (sureM (earlyC c n)) c.sk.toNat).headD 0,0)
  | none=>(0,0,6)
theorem whoM_nonneg{p:Nat→Bool}{n:Nat}{x:Int}(h:x∈whoM p n):0≤x:=by
  unfold whoM at h
  rw [List.mem_map] at h
  obtain ⟨k,_,rfl⟩:=h
  omega
theorem dec_ok(c:Cup)(hV:KL.Valid c){base:Nat}:FV Tryz.prog 73 [.p (cupP c)] base (.tup [.p (intP (decM c).1),.p (intP (decM c).2.1),.p (intP (decM c).2.2)]) []:=by
  have hdn:=hV.dn
  have ra2:=hV.ra2
  have hl:∀ i,i≤c.done.length→(i-0)=(c.done.take i).length:=fun i hi=>by simp;omega
  have hm:∀ i,((c.done.map intsP).take (i*1))=(c.done.take i).map intsP:=fun i=>by rw [Nat.mul_one,List.map_take]
  rcases LoopOK.find (P:=Tryz.prog) (k:=0) (b:=zK5c1) (fun i=>dec_S0 c i 0 (-1)) (fun i _=>dec_S0 c i (i:Int) ((whoM (sureM (earlyC c i)) c.sk.toNat).headD 0)) (dec_S0 c (c.done.length+1) 0 (-1)) (.exit 0) (.exit 0) (by simp) (by simp) (decP c) (List.range (c.done.length+1))
    (fun i x hx hp=>by
      obtain ⟨rfl,hi⟩:=range_at hx
      by_cases h1:0<(whoM (sureM (earlyC c x)) c.sk.toNat).length
      · have h2:(whoM (canM (earlyC c x)) c.sk.toNat).length≠1:=fun h=>by simp [decP,h1,h] at hp
        exact dec_L0_p1 (l100:=c.done.take x) (by omega) ⟨by omega,by omega,by omega,by simp⟩ (hl x (by omega)) (hm x) (valid_take hV x) (by exact_mod_cast h1) (by exact_mod_cast h2) (inR_nat (by omega)) rfl
      · exact dec_L0_p2 (l100:=c.done.take x) (by omega) ⟨by omega,by omega,by omega,by simp⟩ (hl x (by omega)) (hm x) (valid_take hV x) (by show ((whoM (sureM (earlyC c x)) c.sk.toNat).length:Int)≤0;omega) (inR_nat (by omega)) rfl)
    (fun i x hx hp=>by
      obtain ⟨rfl,hi⟩:=range_at hx
      simp only [decP,Bool.and_eq_true,decide_eq_true_eq] at hp
      obtain ⟨h1,h2⟩:=hp
      refine dec_L0_p0 (l100:=c.done.take x) (x101:=(whoM (sureM (earlyC c x)) c.sk.toNat).headD 0) (by omega) ⟨by omega,by omega,by omega,by simp⟩ (hl x (by omega)) (hm x) (valid_take hV x) (by exact_mod_cast h1) (by exact_mod_cast h2) ?_ rfl
      show (whoM (sureM (earlyC c x)) c.sk.toNat)[0]? = _
      generalize whoM (sureM (earlyC c x)) c.sk.toNat=l at h1
      cases l with
      | nil=>simp at h1
      | cons a r=>rfl)
    (by rw [List.length_range];exact dec_L0_p3 (by omega)) with ⟨i,x,h1,h2,h3,h4⟩ | ⟨h1,h2,h3⟩
  · unfold decM
    rw [h2]
    refine dec_p2 hV.small ((KL.valid_iff c).2 hV) (inR_nat (by omega)) h4 ?_
    obtain ⟨rfl,hi⟩:=range_at h1
    simp only [decP,Bool.and_eq_true,decide_eq_true_eq] at h3
    have h5:=h3.1
    have:∀ l:List Int,(∀ y∈l,0≤y)→0≤l.headD 0:=fun l h=>by
      cases l with
      | nil=>simp
      | cons a r=>exact h a (by simp)
    exact this _ fun y hy=>whoM_nonneg hy
  · unfold decM
    rw [h1]
    exact dec_p1 hV.small ((KL.valid_iff c).2 hV) (inR_nat (by omega)) h3 (by omega)
theorem last_p0{c:Cup}{k:Int}(h0:KL.Small c)(h1:(namedE c k)=(0:Int))(h2:inR (c.ra-(c.done.length:Int)))(h3:(c.ra-(c.done.length:Int))≠(1:Int)){base:Nat}:FV Tryz.prog 126 [(.p (cupP c)),(.p (intP k))] base (.tup [(.p (cupP c)),(.p (intP 9))]) []:=by
  exact FV.fin Tryz.func126 rfl (o:=[.c (.tup [(.p (cupP c)),(.p (intP (namedE c k)))]) [],bT,bT,bT,bT,bT,bT,bT,bT,bT,bT,bT]) (l:=[_,_,_,_,_,_,_,_,_,_,_,_,_]) (by kernel_rfl) (gc (q_neT h3) (gc (q_eq h1) (gc (q_eq h1) (gc h2 (gc (q_eq h1) (gc (q_eq h1) (gc (q_eq h1) (gc (q_eq h1) (gc (q_eq h1) (gc (q_eq h1) (gc (q_eq h1) (gc (q_eq h1) (gc (fk 2 (named_ok c h0 k) rfl) gn)))))))))))))
theorem last_p1{c:Cup}{k r0:Int}(h0:KL.Small c)(h1:(namedE c k)=(0:Int))(h2:inR (c.ra-(c.done.length:Int)))(h3:(c.ra-(c.done.length:Int))=(1:Int))(er0:r0=(namedE c k)){base:Nat}:FV Tryz.prog 126 [(.p (cupP c)),(.p (intP k))] base (.tup [(.p (cupP c)),(.p (intP r0))]) []:=by
  subst er0
  exact FV.fin Tryz.func126 rfl (o:=[.c (.tup [(.p (cupP c)),(.p (intP (namedE c k)))]) [],bT,bT,bT,bT,bT,bT,bT,bT,bT,bT,bF]) (l:=[_,_,_,_,_,_,_,_,_,_,_,_,_]) (by kernel_rfl) (gc (q_neF h3) (gc (q_eq h1) (gc (q_eq h1) (gc h2 (gc (q_eq h1) (gc (q_eq h1) (gc (q_eq h1) (gc (q_eq h1) (gc (q_eq h1) (gc (q_eq h1) (gc (q_eq h1) (gc (q_eq h1) (gc (fk 2 (named_ok c h0 k) rfl) gn)))))))))))))
theorem last_p2{c:Cup}{k r0:Int}(h0:KL.Small c)(h1:(namedE c k)≠(0:Int))(er0:r0=(namedE c k)){base:Nat}:FV Tryz.prog 126 [(.p (cupP c)),(.p (intP k))] base (.tup [(.p (cupP c)),(.p (intP r0))]) []:=by
  subst er0
  exact FV.fin Tryz.func126 rfl (o:=[.c (.tup [(.p (cupP c)),(.p (intP (namedE c k)))]) [],bF,bF,bF,bF,bF,bF,bF,bF,bF,bF]) (l:=[_,_,_,_,_,_,_,_,_,_,_]) (by kernel_rfl) (gc (q_ne h1) (gc (q_ne h1) (gc (q_ne h1) (gc (q_ne h1) (gc (q_ne h1) (gc (q_ne h1) (gc (q_ne h1) (gc (q_ne h1) (gc (q_ne h1) (gc (q_ne h1) (gc (fk 2 (named_ok c h0 k) rfl) gn)))))))))))
def lastE(c:Cup)(k:Int):Int:=if namedE c k≠0 then namedE c k else if c.ra-(c.done.length:Int)≠1 then 9 else 0
theorem namedE_zero{c:Cup}{k:Int}(h:namedE c k=0):KL.Valid c∧0≤k∧k<c.sk:=by
  unfold namedE at h
  by_cases h1:checkP c=0
  · rw [if_neg (by simpa using h1)] at h
    cases h2:within k 0 (c.sk-1) with
    | true=>obtain ⟨h3,h4⟩:=within_iff.1 h2;exact ⟨(KL.valid_iff c).1 h1,h3,by omega⟩
    | false=>rw [h2] at h;simp at h
  · rw [if_pos h1] at h;exact absurd h h1
theorem last_ok(c:Cup)(hS:KL.Small c)(k:Int){base:Nat}:FV Tryz.prog 126 [.p (cupP c),.p (intP k)] base (.tup [.p (cupP c),.p (intP (lastE c k))]) []:=by
  unfold lastE
  by_cases h:namedE c k=0
  · have hV:=(namedE_zero h).1
    have h1:=hV.ra1
    have h2:=hV.ra2
    have h3:=hV.dn
    rw [if_neg (by simpa using h)]
    by_cases h4:c.ra-(c.done.length:Int)=1
    · rw [if_neg (by simpa using h4)];exact last_p1 hS h (by unfold inR;omega) h4 h.symm
    · rw [if_pos h4];exact last_p0 hS h (by unfold inR;omega) h4
  · rw [if_pos h];exact last_p2 hS h rfl
theorem lastE_zero{c:Cup}{k:Int}(h:lastE c k=0):KL.Valid c∧0≤k∧k<c.sk∧c.ra=(c.done.length:Int)+1:=by
  unfold lastE at h
  by_cases h1:namedE c k=0
  · obtain ⟨h2,h3,h4⟩:=namedE_zero h1
    rw [if_neg (by simpa using h1)] at h
    by_cases h5:c.ra-(c.done.length:Int)=1
    · exact ⟨h2,h3,h4,by omega⟩
    · rw [if_pos h5] at h;cases h
  · rw [if_pos h1] at h;exact absurd h h1
theorem beats_p0{c:Cup}{o:Nat}{p:Int}{s:Nat}{w:Int}{l0:List (List Int)}{r0:Bool}(h0:0≤c.sk∧c.sk≤c.sk∧c.sk≤1000000)(h1:0≤(o:Int)∧(o:Int)<((c.sk.toNat:Nat):Int))(h2:(o*1)<(List.replicate c.sk.toNat (intP 0)).length)(h3:0≤(s:Int)∧(s:Int)<((c.sk.toNat:Nat):Int))(h4:(s*1)<((List.replicate c.sk.toNat (intP 0)).set (o*1) (intP p)).length)(h5:1=l0.length)(h6:[(.sl c.sk.toNat (((List.replicate c.sk.toNat (intP 0)).set (o*1) (intP p)).set (s*1) (intP w)))]=l0.map intsP)(h7:c.pts.length≤1000)(h8:c.done.length+l0.length≤1000)(h9:∀ r∈c.done++l0,r.length≤1000)(h10:KL.Valid (withC c l0))(h11:((o:Nat):Int)<(withC c l0).sk)(h12:((s:Nat):Int)<(withC c l0).sk)(er0:r0=(KL.betterF (totalM (withC c l0) o) (totalM (withC c l0) s) (placesM (withC c l0) o) (placesM (withC c l0) s))){base:Nat}:FV Tryz.prog 129 [(.p (cupP c)),(.p (intP (o:Int))),(.p (intP p)),(.p (intP (s:Int))),(.p (intP w))] base (.p (blP r0)) []:=by
  subst er0
  exact FV.fin Tryz.func129 rfl (o:=[.c (.p (.agg [(intP ((withC c l0).sk)),(intP ((withC c l0).ra)),(intP ((withC c l0).be)),(intsP ((withC c l0).pts)),(rowsP ((withC c l0).done))])) [(2,.dead)],.c (.p (.agg ((intP (totalM (withC c l0) o))::((placesM (withC c l0) o).map intP)))) [],.c (.p (.agg ((intP (totalM (withC c l0) s))::((placesM (withC c l0) s).map intP)))) [],.c (.p (blP (KL.betterF (totalM (withC c l0) o) (totalM (withC c l0) s) (placesM (withC c l0) o) (placesM (withC c l0) s)))) []]) (l:=[_,_,_,FC Tryz.prog 115 [(.p (cupP c)),(.own 2)] [(2,(.row 22 1 [(.sl c.sk.toNat (((List.replicate c.sk.toNat (intP 0)).set (o*1) (intP p)).set (s*1) (intP w)))]))] 3 (.p (.agg [(intP ((withC c l0).sk)),(intP ((withC c l0).ra)),(intP ((withC c l0).be)),(intsP ((withC c l0).pts)),(rowsP ((withC c l0).done))])) [(2,.dead)],_,_,_,_,_]) (by kernel_rfl) (gc (fk 12 (better_ok (withC c l0) (withC c l0) o s) rfl) (gc (fk 8 (form_ok (withC c l0) h10 s h12) rfl) (gc (fk 4 (form_ok (withC c l0) h10 o h11) rfl) (gc (FV.close (ids:=[2]) (args':=[(.p (cupP c)),(.p (.sl 1 [(.sl c.sk.toNat (((List.replicate c.sk.toNat (intP 0)).set (o*1) (intP p)).set (s*1) (intP w)))]))]) (by rw [show ((.sl 1 [(.sl c.sk.toNat (((List.replicate c.sk.toNat (intP 0)).set (o*1) (intP p)).set (s*1) (intP w)))]):PV)=rowsP l0 from sl_cast h5 h6];exact (with_ok c l0 h7 h8 h9)) (by kernel_rfl)) (gc h4 (gc h3 (gc h2 (gc h1 (gc h0 gn)))))))))
def beatsM(c:Cup)(o:Nat)(p:Int)(s:Nat)(w:Int):Bool:=betS (withC c [KL.race2 c.sk.toNat o p s w]) o s
structure beatsOK (c:Cup) (o:Nat) (p:Int) (s:Nat) (w:Int):Prop where
  hv:KL.Valid c
  hd:(c.done.length:Int)<c.ra
  ho:(o:Int)<c.sk
  hs:(s:Int)<c.sk
  hp:0≤p∧p≤60
  hw:0≤w∧w≤60
  hn:p=0∨w=0∨p≠w
theorem beats_ok(c:Cup)(o:Nat)(p:Int)(s:Nat)(w:Int)(h:beatsOK c o p s w){base:Nat}:FV Tryz.prog 129 [.p (cupP c),.p (intP (o:Int)),.p (intP p),.p (intP (s:Int)),.p (intP w)] base (.p (blP (beatsM c o p s w))) []:=by
  have hV:=h.hv
  have h1:=hV.sk1
  have h2:=hV.sk2
  have h3:=hV.ra2
  have ho:=h.ho
  have hs:=h.hs
  have hd:=h.hd
  have hr2:=KL.valid_race2 hV h.hd (o:=o) (s:=s) h.hp h.hw h.hn
  have hS:=hr2.small
  refine beats_p0 (l0:=[KL.race2 c.sk.toNat o p s w]) (by omega) (by omega) (by simp;omega) (by omega) (by simp;omega) rfl ?_ hV.small.pts (by simp;omega) hS.rows hr2 (by show (o:Int)<c.sk;omega) (by show (s:Int)<c.sk;omega) rfl
  show [_]=[PV.sl (KL.race2 c.sk.toNat o p s w).length ((KL.race2 c.sk.toNat o p s w).map intP)]
  rw [KL.race2_length]
  simp [KL.race2,List.map_set]
def riv_S0(c:Cup)(s:Nat)(i:Nat)(on:Nat)(oc:List PV):St:=⟨fr 45 [(1,(.p (intP (s:Int)))),(2,(.ptr 0 0)),(4,(.p nilS)),(5,(.own 1)),(10,(.p (intP c.sk))),(11,(.p (intP (i:Int))))],[some (.box 120 [(.p (intP c.sk)),(.p (intP c.ra)),(.p (intP c.be)),(.p (intsP c.pts)),(.p (rowsP c.done))]),some (.row 155 on oc)]⟩
theorem riv_p0{c:Cup}{s i'0:Nat}{o'1:List (List Int)}(hl0:LoopOK Tryz.prog 0 zK5c0 (riv_S0 c s 0 0 []) (.exit 0) (riv_S0 c s i'0 o'1.length (o'1.flatten.map intP)))(h1:uni 2 o'1)(h2:o'1.length<20){base:Nat}:FV Tryz.prog 127 [(.p (cupP c)),(.p (intP (s:Int)))] base (.p (.sl ((isort (ltK 1) o'1).length) ((isort (ltK 1) o'1).flatten.map intP))) []:=by
  exact FV.frz (FMM.fin (k:=0) (g:=⟨[],[],[1],[]⟩) rfl Tryz.func127 rfl (o:=[.k 8 ⟨(rng [(0,1),(3,1),(6,4),(12,30),(43,1)]),[0,1],[],[(5,155)]⟩ (.exit 0) (riv_S0 c s i'0 o'1.length (o'1.flatten.map intP)),.c (.tup []) [(1,(.row 155 ((isort (ltK 1) o'1).length) ((isort (ltK 1) o'1).flatten.map intP)))]]) (l:=[FC Tryz.prog 157 [(.own 1),(.fn 158 [] [])] [(1,(.row 155 o'1.length (o'1.flatten.map intP)))] 2 (.tup []) [(1,(.row 155 ((isort (ltK 1) o'1).length) ((isort (ltK 1) o'1).flatten.map intP)))],_]) (by kernel_rfl) (gc (FMM.fc (ids:=[1]) (srtR_ok o'1 h1 h2) (by kernel_rfl)) (gc hl0.code gn))) (by kernel_rfl)
def riv_S1(c:Cup)(s:Nat)(i:Nat)(o:List (List Int))(p:Int):St:=⟨fr 45 [(1,(.p (intP (s:Int)))),(2,(.ptr 0 0)),(4,(.p nilS)),(5,(.own 1)),(6,(.p (intP (i:Int)))),(7,(.p (intP p))),(10,(.p (intP c.sk))),(11,(.p (intP (i:Int)))),(12,(.p (blP (decide ((i:Int)<c.sk))))),(13,(.p (intP (i:Int)))),(14,(.p (intP (i:Int)))),(15,(.p (intP (s:Int)))),(16,(.p (blP ((i:Int) == (s:Int)))))],[some (.box 120 [(.p (intP c.sk)),(.p (intP c.ra)),(.p (intP c.be)),(.p (intsP c.pts)),(.p (rowsP c.done))]),some (.row 155 o.length (o.flatten.map intP))]⟩
theorem riv_L0_p0{c:Cup}{s i:Nat}{o:List (List Int)}{i':Nat}(h0:(i:Int)<c.sk)(h1:(i:Int)=(s:Int))(h2:inR (((i+1):Nat):Int))(ei':i'=(i+1)):CodeOK Tryz.prog 0 zK5c0 (riv_S0 c s i o.length (o.flatten.map intP)) .normal (riv_S0 c s i' o.length (o.flatten.map intP)):=by
  subst ei'
  exact CodeOK.fin (g:=⟨(rng [(0,1),(3,1),(6,4),(12,30),(43,1)]),[0,1],[],[]⟩) (o:=[bT,bT]) (l:=[_,_,_]) (by kernel_rfl) (gc h2 (gc (q_eq h1) (gc (q_lt h0) gn)))
theorem riv_L0_p1{c:Cup}{s i:Nat}{o:List (List Int)}{p'100:Int}{i':Nat}{o':List (List Int)}(h0:(i:Int)<c.sk)(h1:(i:Int)≠(s:Int))(hl2:LoopOK Tryz.prog 0 zK5c2 (riv_S1 c s i o (0:Int)) (.exit 2) (riv_S1 c s i o p'100))(h3:beatsOK c i (0:Int) s (0:Int))(h4:(beatsM c i (0:Int) s (0:Int))=true)(h5:[(intP (i:Int)),(intP 61)].length=1*2∧o.length+1≤1000000)(h6:inR (((i+1):Nat):Int))(ei':i'=(i+1))(eo'n:o'.length=(o.length+1))(eo'c:o'.flatten.map intP=((o.flatten.map intP)++[(intP (i:Int)),(intP 61)])):CodeOK Tryz.prog 0 zK5c0 (riv_S0 c s i o.length (o.flatten.map intP)) .normal (riv_S0 c s i' o'.length (o'.flatten.map intP)):=by
  subst ei'
  have raw:CodeOK Tryz.prog 0 zK5c0 (riv_S0 c s i o.length (o.flatten.map intP)) .normal (riv_S0 c s (i+1) (o.length+1) ((o.flatten.map intP)++[(intP (i:Int)),(intP 61)])):=CodeOK.fin (g:=⟨(rng [(0,1),(3,1),(6,4),(12,30),(43,1)]),[0,3],[],[]⟩) (o:=[bT,bF,.k 4 ⟨(rng [(0,1),(3,1),(8,2),(17,12),(43,1)]),[0,1],[],[]⟩ (.exit 2) (riv_S1 c s i o p'100),.c (.p (blP (beatsM c i (0:Int) s (0:Int)))) [],bT,bT]) (l:=[_,_,[(intP (i:Int)),(intP 61)].length=2,(decide ((61:Int) > (0:Int)))=true,_,_,_,_,_]) (by kernel_rfl) (gc h6 (gc h5 (gc (by first | decide | simp) (gc (by first | decide | simp) (gc h4 (gc (fk 2 (beats_ok c i (0:Int) s (0:Int) h3) rfl) (gc hl2.code (gc (q_ne h1) (gc (q_lt h0) gn)))))))))
  exact raw.cast (by rw [eo'n,eo'c])
theorem riv_L0_p2{c:Cup}{s i:Nat}{o:List (List Int)}{p'100:Int}{i':Nat}{o':List (List Int)}(h0:(i:Int)<c.sk)(h1:(i:Int)≠(s:Int))(hl2:LoopOK Tryz.prog 0 zK5c2 (riv_S1 c s i o (0:Int)) (.exit 2) (riv_S1 c s i o p'100))(h3:beatsOK c i (0:Int) s (0:Int))(h4:(beatsM c i (0:Int) s (0:Int))=false)(h5:(0:Int)<p'100)(h6:[(intP (i:Int)),(intP p'100)].length=1*2∧o.length+1≤1000000)(h7:inR (((i+1):Nat):Int))(ei':i'=(i+1))(eo'n:o'.length=(o.length+1))(eo'c:o'.flatten.map intP=((o.flatten.map intP)++[(intP (i:Int)),(intP p'100)])):CodeOK Tryz.prog 0 zK5c0 (riv_S0 c s i o.length (o.flatten.map intP)) .normal (riv_S0 c s i' o'.length (o'.flatten.map intP)):=by
  subst ei'
  have raw:CodeOK Tryz.prog 0 zK5c0 (riv_S0 c s i o.length (o.flatten.map intP)) .normal (riv_S0 c s (i+1) (o.length+1) ((o.flatten.map intP)++[(intP (i:Int)),(intP p'100)])):=CodeOK.fin (g:=⟨(rng [(0,1),(3,1),(6,4),(12,30),(43,1)]),[0,3],[],[]⟩) (o:=[bT,bF,.k 4 ⟨(rng [(0,1),(3,1),(8,2),(17,12),(43,1)]),[0,1],[],[]⟩ (.exit 2) (riv_S1 c s i o p'100),.c (.p (blP (beatsM c i (0:Int) s (0:Int)))) [],bF,bT]) (l:=[_,_,[(intP (i:Int)),(intP p'100)].length=2,_,_,_,_,_,_]) (by kernel_rfl) (gc h7 (gc h6 (gc (by first | decide | simp) (gc (q_lt h5) (gc h4 (gc (fk 2 (beats_ok c i (0:Int) s (0:Int) h3) rfl) (gc hl2.code (gc (q_ne h1) (gc (q_lt h0) gn)))))))))
  exact raw.cast (by rw [eo'n,eo'c])
theorem riv_L0_p3{c:Cup}{s i:Nat}{o:List (List Int)}{p'100:Int}{i':Nat}(h0:(i:Int)<c.sk)(h1:(i:Int)≠(s:Int))(hl2:LoopOK Tryz.prog 0 zK5c2 (riv_S1 c s i o (0:Int)) (.exit 2) (riv_S1 c s i o p'100))(h3:beatsOK c i (0:Int) s (0:Int))(h4:(beatsM c i (0:Int) s (0:Int))=false)(h5:p'100≤(0:Int))(h6:inR (((i+1):Nat):Int))(ei':i'=(i+1)):CodeOK Tryz.prog 0 zK5c0 (riv_S0 c s i o.length (o.flatten.map intP)) .normal (riv_S0 c s i' o.length (o.flatten.map intP)):=by
  subst ei'
  exact CodeOK.fin (g:=⟨(rng [(0,1),(3,1),(6,4),(12,30),(43,1)]),[0,1],[],[]⟩) (o:=[bT,bF,.k 4 ⟨(rng [(0,1),(3,1),(8,2),(17,12),(43,1)]),[0,1],[],[]⟩ (.exit 2) (riv_S1 c s i o p'100),.c (.p (blP (beatsM c i (0:Int) s (0:Int)))) [],bF,bF]) (l:=[_,_,_,_,_,_,_]) (by kernel_rfl) (gc h6 (gc (q_ltF h5) (gc h4 (gc (fk 2 (beats_ok c i (0:Int) s (0:Int) h3) rfl) (gc hl2.code (gc (q_ne h1) (gc (q_lt h0) gn)))))))
theorem riv_L0_p4{c:Cup}{s i:Nat}{o:List (List Int)}(h0:c.sk≤(i:Int)):CodeOK Tryz.prog 0 zK5c0 (riv_S0 c s i o.length (o.flatten.map intP)) (.exit 0) (riv_S0 c s i o.length (o.flatten.map intP)):=by
  exact CodeOK.fin (g:=⟨(rng [(0,1),(3,1),(6,4),(12,30),(43,1)]),[0,1],[],[]⟩) (o:=[bF]) (l:=[_]) (by kernel_rfl) (gc (q_ltF h0) gn)
theorem riv_L1_p0{c:Cup}{s i:Nat}{o:List (List Int)}{p p':Int}(h0:p<(60:Int))(h1:inR (p+(1:Int)))(h2:beatsOK c i (p+(1:Int)) s (0:Int))(h3:(beatsM c i (p+(1:Int)) s (0:Int))=true)(ep':p'=(p+(1:Int))):CodeOK Tryz.prog 0 zK5c2 (riv_S1 c s i o p) .normal (riv_S1 c s i o p'):=by
  subst ep'
  exact CodeOK.fin (g:=⟨(rng [(0,1),(3,1),(8,2),(17,12),(43,1)]),[0,1],[],[]⟩) (o:=[bT,bT,bT,bT,bT,bT,.c (.p (blP (beatsM c i (p+(1:Int)) s (0:Int)))) [],bT,bT]) (l:=[_,_,_,_,_,_,_,_,_,_,_]) (by kernel_rfl) (gc h1 (gc h3 (gc (q_lt h0) (gc (fk 2 (beats_ok c i (p+(1:Int)) s (0:Int) h2) rfl) (gc (q_lt h0) (gc (q_lt h0) (gc h1 (gc (q_lt h0) (gc (q_lt h0) (gc (q_lt h0) (gc (q_lt h0) gn)))))))))))
theorem riv_L1_p1{c:Cup}{s i:Nat}{o:List (List Int)}{p:Int}(h0:p<(60:Int))(h1:inR (p+(1:Int)))(h2:beatsOK c i (p+(1:Int)) s (0:Int))(h3:(beatsM c i (p+(1:Int)) s (0:Int))=false):CodeOK Tryz.prog 0 zK5c2 (riv_S1 c s i o p) (.exit 2) (riv_S1 c s i o p):=by
  exact CodeOK.fin (g:=⟨(rng [(0,1),(3,1),(8,2),(17,12),(43,1)]),[0,1],[],[]⟩) (o:=[bT,bT,bT,bT,bT,bT,.c (.p (blP (beatsM c i (p+(1:Int)) s (0:Int)))) [],bT,bF]) (l:=[_,_,_,_,_,_,_,_,_,_]) (by kernel_rfl) (gc h3 (gc (q_lt h0) (gc (fk 2 (beats_ok c i (p+(1:Int)) s (0:Int) h2) rfl) (gc (q_lt h0) (gc (q_lt h0) (gc h1 (gc (q_lt h0) (gc (q_lt h0) (gc (q_lt h0) (gc (q_lt h0) gn))))))))))
theorem riv_L1_p2{c:Cup}{s i:Nat}{o:List (List Int)}{p:Int}(h0:(60:Int)≤p):CodeOK Tryz.prog 0 zK5c2 (riv_S1 c s i o p) (.exit 2) (riv_S1 c s i o p):=by
  exact CodeOK.fin (g:=⟨(rng [(0,1),(3,1),(8,2),(17,12),(43,1)]),[0,1],[],[]⟩) (o:=[bF,bF,bF,bF,bF,bF,bF]) (l:=[_,_,_,_,_,_,_]) (by kernel_rfl) (gc (q_ltF h0) (gc (q_ltF h0) (gc (q_ltF h0) (gc (q_ltF h0) (gc (q_ltF h0) (gc (q_ltF h0) (gc (q_ltF h0) gn)))))))
def upto(f:Int→Bool):Nat→Int→Int
  | 0,p=>p
  | n+1,p=>if f (p+1) then upto f n (p+1) else p
theorem upto_bd(f:Int→Bool):∀ n p,p≤upto f n p∧upto f n p≤p+n
  | 0,p=>by simp [upto]
  | n+1,p=>by
    unfold upto
    split
    · have:=upto_bd f n (p+1);omega
    · omega
def rivPl(c:Cup)(s i:Nat):Int:=if beatsM c i 0 s 0 then 61 else upto (fun p=>beatsM c i p s 0) 60 0
def rivG(c:Cup)(s i:Nat):List (List Int):=if i=s then [] else if 0<rivPl c s i then [[(i:Int),rivPl c s i]] else []
def rivL(c:Cup)(s:Nat):List (List Int):=(List.range c.sk.toNat).flatMap (rivG c s)
def rivM(c:Cup)(s:Nat):List (List Int):=isort (ltK 1) (rivL c s)
structure rivOK (c:Cup) (s:Nat):Prop where
  hv:KL.Valid c
  hd:(c.done.length:Int)<c.ra
  hs:(s:Int)<c.sk
theorem rivPl_bd(c:Cup)(s i:Nat):0≤rivPl c s i∧rivPl c s i≤61:=by
  unfold rivPl
  split
  · omega
  · have:=upto_bd (fun p=>beatsM c i p s 0) 60 0;omega
theorem rivL_mem{c:Cup}{s:Nat}{x:List Int}(h:x∈rivL c s):∃ i:Nat,(i:Int)<c.sk∧i≠s∧x=[(i:Int),rivPl c s i]∧0<rivPl c s i:=by
  unfold rivL at h
  rw [List.mem_flatMap] at h
  obtain ⟨i,hi,hx⟩:=h
  rw [List.mem_range] at hi
  unfold rivG at hx
  split at hx
  · simp at hx
  · split at hx
    · rename_i h1 h2
      rw [List.mem_singleton] at hx
      exact ⟨i,by omega,h1,hx,h2⟩
    · simp at hx
theorem flatMap_len{α:Type}{g:Nat→List α}(h:∀ i,(g i).length≤1):∀ l:List Nat,(l.flatMap g).length≤l.length
  | []=>by simp
  | x::l=>by rw [List.flatMap_cons,List.length_append,List.length_cons];have:=flatMap_len h l;have:=h x;omega
theorem foldl_flatMap{α:Type}{g:Nat→List α}:∀ (l:List Nat) (a:List α),l.foldl (fun acc s=>acc++g s) a=a++l.flatMap g
  | [],a=>by simp
  | x::l,a=>by rw [List.foldl_cons,foldl_flatMap l,List.flatMap_cons,List.append_assoc]
theorem rivG_len(c:Cup)(s i:Nat):(rivG c s i).length≤1:=by
  unfold rivG
  split
  · simp
  · split <;> simp
theorem riv_in(c:Cup)(s i:Nat)(o:List (List Int))(hk:∀ p:Int,0≤p→p≤60→beatsOK c i p s 0):∀ (n:Nat) (p:Int),0≤p→p+n=60 →
    LoopOK Tryz.prog 0 zK5c2 (riv_S1 c s i o p) (.exit 2) (riv_S1 c s i o (upto (fun p=>beatsM c i p s 0) n p))
  | 0,p,h0,h1=>by
    unfold upto
    exact .exit (riv_L1_p2 (by omega)) (by simp)
  | n+1,p,h0,h1=>by
    unfold upto
    by_cases hb:beatsM c i (p+1) s 0=true
    · rw [if_pos hb]
      exact .step (riv_L1_p0 (by omega) (by unfold inR;omega) (hk _ (by omega) (by omega)) hb rfl) (riv_in c s i o hk n (p+1) (by omega) (by omega))
    · rw [if_neg hb]
      exact .exit (riv_L1_p1 (by omega) (by unfold inR;omega) (hk _ (by omega) (by omega)) (by simpa using hb)) (by simp)
theorem riv_ok(c:Cup)(s:Nat)(h:rivOK c s){base:Nat}:FV Tryz.prog 127 [.p (cupP c),.p (intP (s:Int))] base (.p (.sl (rivM c s).length ((rivM c s).flatten.map intP))) []:=by
  have hV:=h.hv
  have h1:=hV.sk1
  have h2:=hV.sk2
  have hL:=LoopOK.times (P:=Tryz.prog) (k:=0) (b:=zK5c0) (e := .exit 0) (fun i (o:List (List Int))=>riv_S0 c s i o.length (o.flatten.map intP)) (fun o=>riv_S0 c s c.sk.toNat o.length (o.flatten.map intP)) (fun acc i=>acc++rivG c s i) (fun i o=>o.length≤i) (by simp) c.sk.toNat (a0:=[]) (by simp)
    (fun i o hi hI=>by
      have hgl:=rivG_len c s i
      refine ⟨by rw [List.length_append];omega,?_⟩
      have hk:∀ p:Int,0≤p→p≤60→beatsOK c i p s 0:=fun p q1 q2=>⟨hV,h.hd,by omega,h.hs,⟨q1,q2⟩,by omega,.inr (.inl rfl)⟩
      unfold rivG
      by_cases his:i=s
      · rw [if_pos his,List.append_nil]
        exact riv_L0_p0 (by omega) (by omega) (inR_nat (by omega)) rfl
      · rw [if_neg his]
        have hin:=riv_in c s i o hk 60 0 (by omega) (by omega)
        have hbd:=upto_bd (fun p=>beatsM c i p s 0) 60 0
        by_cases hb:beatsM c i 0 s 0=true
        · have e:rivPl c s i=61:=by unfold rivPl;rw [if_pos hb]
          rw [e,if_pos (by omega)]
          exact riv_L0_p1 (by omega) (by omega) hin (hk 0 (by omega) (by omega)) hb (by simp;omega) (inR_nat (by omega)) rfl (by simp) (by simp)
        · have hb:beatsM c i 0 s 0=false:=by simpa using hb
          have e:rivPl c s i=upto (fun p=>beatsM c i p s 0) 60 0:=by unfold rivPl;rw [hb];rfl
          rw [e]
          by_cases hp:0<upto (fun p=>beatsM c i p s 0) 60 0
          · rw [if_pos hp]
            exact riv_L0_p2 (by omega) (by omega) hin (hk 0 (by omega) (by omega)) hb hp (by simp;omega) (inR_nat (by omega)) rfl (by simp) (by simp)
          · rw [if_neg hp,List.append_nil]
            exact riv_L0_p3 (by omega) (by omega) hin (hk 0 (by omega) (by omega)) hb (by omega) (inR_nat (by omega)) rfl)
    (fun o _=>riv_L0_p4 (by omega))
  rw [foldl_flatMap,List.nil_append] at hL
  have hlen:=flatMap_len (rivG_len c s) (List.range c.sk.toNat)
  rw [List.length_range] at hlen
  exact riv_p0 hL (fun x hx=>by obtain ⟨i,_,_,rfl,_⟩:=rivL_mem hx;rfl) (by show (rivL c s).length<20;unfold rivL;omega)
def worst_S0(c:Cup)(s:Nat)(i:Nat)(rk:Int)(nx:Int)(rcn:Nat)(rcc:List PV):St:=⟨fr 58 [(4,(.p (intP 0))),(5,(.p nilS)),(6,(.p (intP 0))),(9,(.own 0)),(10,(.p (intP rk))),(11,(.p (intP nx))),(29,(.p (.sl ((rivM c s).length) ((rivM c s).flatten.map intP)))),(30,(.p (intP (((rivM c s).length:Nat):Int)))),(31,(.p (intP (i:Int))))],[some (.row 3 rcn rcc)]⟩
theorem worst_p1{c:Cup}{s i'0:Nat}{rk'1 nx'2:Int}{rc'3:List Int}(h0:KL.Small c)(h1:(lastE c (s:Int))=(0:Int))(h2:0≤c.sk∧c.sk≤c.sk∧c.sk≤1000000)(h3:rivOK c s)(hl4:LoopOK Tryz.prog 0 zK5c3 (worst_S0 c s 0 (1:Int) (1:Int) c.sk.toNat (List.replicate c.sk.toNat (intP 0))) (.exit 0) (worst_S0 c s i'0 rk'1 nx'2 rc'3.length (rc'3.map intP))){base:Nat}:FV Tryz.prog 55 [(.p (cupP c)),(.p (intP (s:Int)))] base (.tup [(.p (intP rk'1)),(.p (intsP rc'3)),(.p (intP 0))]) []:=by
  exact FV.frz (FMM.fin (k:=0) (g:=⟨[],[],[0],[]⟩) rfl Tryz.func55 rfl (o:=[.c (.tup [(.p (cupP c)),(.p (intP (lastE c (s:Int))))]) [],bF,.c (.p (.sl ((rivM c s).length) ((rivM c s).flatten.map intP))) [],.k 1 ⟨(rng [(0,4),(7,2),(12,17),(32,24)]),[2],[],[]⟩ (.exit 0) (worst_S0 c s i'0 rk'1 nx'2 rc'3.length (rc'3.map intP))]) (l:=[_,_,_,_,_]) (by kernel_rfl) (gc hl4.code (gc (fk 3 (riv_ok c s h3) rfl) (gc h2 (gc (q_neF h1) (gc (fk 1 (last_ok c h0 (s:Int)) rfl) gn)))))) (by kernel_rfl)
theorem worst_L0_p0{c:Cup}{s i:Nat}{rk nx:Int}{rc:List Int}{y100 y101:Int}{i':Nat}{rk':Int}(h0:(i:Int)<(((rivM c s).length:Nat):Int))(h1:(rivM c s)[i]? = some [y100,y101])(h2:uni 2 (rivM c s))(h3:(60:Int)<y101)(h4:inR (rk+(1:Int)))(h5:inR (((i+1):Nat):Int))(ei':i'=(i+1))(erk':rk'=(rk+(1:Int))):CodeOK Tryz.prog 0 zK5c3 (worst_S0 c s i rk nx rc.length (rc.map intP)) .normal (worst_S0 c s i' rk' nx rc.length (rc.map intP)):=by
  subst ei' erk'
  exact CodeOK.fin (g:=⟨(rng [(0,4),(7,2),(12,17),(32,24)]),[0],[],[]⟩) (o:=[bT,.x (.agg [(intP y100),(intP y101)]),bT]) (l:=[_,_,_,_,_,0≤(i:Int)∧(i:Int)<(((rivM c s).length:Nat):Int)∧(i*2)<((rivM c s).flatten.map intP).length,_]) (by kernel_rfl) (gc h5 (gc h4 (gc (q_lt h3) (gc (fl_load (i:=i) h2 h1) (gc (fl_le (i:=i) h2 h1) (gc (ix_fl (k:=2) (i:=(i:Int)) (by decide) h2 (Int.natCast_nonneg _) h1) (gc (q_lt h0) gn)))))))
theorem worst_L0_p1{c:Cup}{s i:Nat}{rk nx:Int}{rc:List Int}{y100 y101 x102:Int}{i':Nat}{rk' nx':Int}{rc':List Int}(h0:(i:Int)<(((rivM c s).length:Nat):Int))(h1:(rivM c s)[i]? = some [y100,y101])(h2:uni 2 (rivM c s))(h3:y101≤(60:Int))(h4:nx≤y101)(h5:rc[y100.toNat]? = some x102)(h6:0≤y100)(h7:(y100.toNat*1)<(rc.map intP).length)(h8:inR (nx+(1:Int)))(h9:inR (rk+(1:Int)))(h10:inR (((i+1):Nat):Int))(ei':i'=(i+1))(erk':rk'=(rk+(1:Int)))(enx':nx'=(nx+(1:Int)))(erc'n:rc'.length=rc.length)(erc'c:rc'.map intP=((rc.map intP).set (y100.toNat*1) (intP nx))):CodeOK Tryz.prog 0 zK5c3 (worst_S0 c s i rk nx rc.length (rc.map intP)) .normal (worst_S0 c s i' rk' nx' rc'.length (rc'.map intP)):=by
  subst ei' erk' enx'
  have raw:CodeOK Tryz.prog 0 zK5c3 (worst_S0 c s i rk nx rc.length (rc.map intP)) .normal (worst_S0 c s (i+1) (rk+(1:Int)) (nx+(1:Int)) rc.length ((rc.map intP).set (y100.toNat*1) (intP nx))):=CodeOK.fin (g:=⟨(rng [(0,4),(7,2),(12,17),(32,24)]),[0],[],[]⟩) (o:=[bT,.x (.agg [(intP y100),(intP y101)]),bF,bT]) (l:=[_,_,_,_,_,_,_,_,_,0≤(i:Int)∧(i:Int)<(((rivM c s).length:Nat):Int)∧(i*2)<((rivM c s).flatten.map intP).length,_]) (by kernel_rfl) (gc h10 (gc h9 (gc h8 (gc h7 (gc (ix_own (i:=y100) h6 h5) (gc (q_le h4) (gc (q_ltF h3) (gc (fl_load (i:=i) h2 h1) (gc (fl_le (i:=i) h2 h1) (gc (ix_fl (k:=2) (i:=(i:Int)) (by decide) h2 (Int.natCast_nonneg _) h1) (gc (q_lt h0) gn)))))))))))
  exact raw.cast (by rw [erc'n,erc'c])
theorem worst_L0_p2{c:Cup}{s i:Nat}{rk nx:Int}{rc:List Int}{y100 y101:Int}{i':Nat}(h0:(i:Int)<(((rivM c s).length:Nat):Int))(h1:(rivM c s)[i]? = some [y100,y101])(h2:uni 2 (rivM c s))(h3:y101≤(60:Int))(h4:y101<nx)(h5:inR (((i+1):Nat):Int))(ei':i'=(i+1)):CodeOK Tryz.prog 0 zK5c3 (worst_S0 c s i rk nx rc.length (rc.map intP)) .normal (worst_S0 c s i' rk nx rc.length (rc.map intP)):=by
  subst ei'
  exact CodeOK.fin (g:=⟨(rng [(0,4),(7,2),(12,17),(32,24)]),[0],[],[]⟩) (o:=[bT,.x (.agg [(intP y100),(intP y101)]),bF,bF]) (l:=[_,_,_,_,_,0≤(i:Int)∧(i:Int)<(((rivM c s).length:Nat):Int)∧(i*2)<((rivM c s).flatten.map intP).length,_]) (by kernel_rfl) (gc h5 (gc (q_leF h4) (gc (q_ltF h3) (gc (fl_load (i:=i) h2 h1) (gc (fl_le (i:=i) h2 h1) (gc (ix_fl (k:=2) (i:=(i:Int)) (by decide) h2 (Int.natCast_nonneg _) h1) (gc (q_lt h0) gn)))))))
theorem worst_L0_p3{c:Cup}{s i:Nat}{rk nx:Int}{rc:List Int}(h0:(((rivM c s).length:Nat):Int)≤(i:Int)):CodeOK Tryz.prog 0 zK5c3 (worst_S0 c s i rk nx rc.length (rc.map intP)) (.exit 0) (worst_S0 c s i rk nx rc.length (rc.map intP)):=by
  exact CodeOK.fin (g:=⟨(rng [(0,4),(7,2),(12,17),(32,24)]),[0],[],[]⟩) (o:=[bF]) (l:=[_]) (by kernel_rfl) (gc (q_ltF h0) gn)
def table_S0(c:Cup)(i:Nat)(on:Nat)(oc:List PV):St:=⟨fr 43 [(2,(.p nilS)),(3,(.p (intP 0))),(4,(.ptr 0 0)),(6,(.own 1)),(19,(.p (intP c.sk))),(20,(.p (intP (i:Int))))],[some (.box 120 [(.p (intP c.sk)),(.p (intP c.ra)),(.p (intP c.be)),(.p (intsP c.pts)),(.p (rowsP c.done))]),some (.row 61 on oc)]⟩
theorem table_p1{c:Cup}{i'0:Nat}{o'1:List (List Int)}(h0:KL.Small c)(h1:(checkP c)=(0:Int))(hl2:LoopOK Tryz.prog 0 zK5c4 (table_S0 c 0 0 []) (.exit 0) (table_S0 c i'0 o'1.length (o'1.flatten.map intP)))(h3:uni 4 o'1)(h4:o'1.length<20){base:Nat}:FV Tryz.prog 34 [(.p (cupP c))] base (.tup [(.p (.sl ((isort (ltK 1) o'1).length) ((isort (ltK 1) o'1).flatten.map intP))),(.p (intP 0))]) []:=by
  exact FV.frz (FMM.fin (k:=0) (g:=⟨[],[],[1],[]⟩) rfl Tryz.func34 rfl (o:=[.c (.tup [(.p (cupP c)),(.p (intP (checkP c)))]) [],bF,.k 6 ⟨(rng [(0,2),(5,1),(7,12),(21,19),(41,1)]),[1,2],[],[(6,61)]⟩ (.exit 0) (table_S0 c i'0 o'1.length (o'1.flatten.map intP)),.c (.tup []) [(1,(.row 61 ((isort (ltK 1) o'1).length) ((isort (ltK 1) o'1).flatten.map intP)))]]) (l:=[FC Tryz.prog 105 [(.own 1),(.fn 106 [] [])] [(1,(.row 61 o'1.length (o'1.flatten.map intP)))] 2 (.tup []) [(1,(.row 61 ((isort (ltK 1) o'1).length) ((isort (ltK 1) o'1).flatten.map intP)))],_,_,_]) (by kernel_rfl) (gc (FMM.fc (ids:=[1]) (srtL_ok o'1 h3 h4) (by kernel_rfl)) (gc hl2.code (gc (q_neF h1) (gc (fk 1 (asked_ok c h0) rfl) gn))))) (by kernel_rfl)
theorem table_L0_p0{c:Cup}{i:Nat}{o:List (List Int)}{x100:Int}{i':Nat}{o':List (List Int)}(h0:(i:Int)<c.sk)(h1:KL.Valid c)(h2:((i:Nat):Int)<c.sk)(h3:((intP (totalM c i))::((placesM c i).map intP)).length=62)(h4:(placesM c i)[1]? = some x100)(h5:[(intP (i:Int)),(intP (rankM c i)),(intP (totalM c i)),(intP x100)].length=1*4∧o.length+1≤1000000)(h6:inR (((i+1):Nat):Int))(ei':i'=(i+1))(eo'n:o'.length=(o.length+1))(eo'c:o'.flatten.map intP=((o.flatten.map intP)++[(intP (i:Int)),(intP (rankM c i)),(intP (totalM c i)),(intP x100)])):CodeOK Tryz.prog 0 zK5c4 (table_S0 c i o.length (o.flatten.map intP)) .normal (table_S0 c i' o'.length (o'.flatten.map intP)):=by
  subst ei'
  have raw:CodeOK Tryz.prog 0 zK5c4 (table_S0 c i o.length (o.flatten.map intP)) .normal (table_S0 c (i+1) (o.length+1) ((o.flatten.map intP)++[(intP (i:Int)),(intP (rankM c i)),(intP (totalM c i)),(intP x100)])):=CodeOK.fin (g:=⟨(rng [(0,2),(5,1),(7,12),(21,19),(41,1)]),[0,8],[],[]⟩) (o:=[bT,.c (.p (.agg ((intP (totalM c i))::((placesM c i).map intP)))) [],.c (.p (intP (rankM c i))) [],.x (intP (totalM c i)),.x (intP x100)]) (l:=[_,_,[(intP (i:Int)),(intP (rankM c i)),(intP (totalM c i)),(intP x100)].length=4,(((intP (totalM c i))::((placesM c i).map intP))++[])[2]? = some (intP x100),0≤(1:Int)∧(1:Int)<(61:Int),(((intP (totalM c i))::((placesM c i).map intP))++[])[0]? = some (intP (totalM c i)),_,((intP (totalM c i))::((placesM c i).map intP)).length=62∧0+62≤[(intP 0),(intP 0),(intP 0),(intP 0),(intP 0),(intP 0),(intP 0),(intP 0),(intP 0),(intP 0),(intP 0),(intP 0),(intP 0),(intP 0),(intP 0),(intP 0),(intP 0),(intP 0),(intP 0),(intP 0),(intP 0),(intP 0),(intP 0),(intP 0),(intP 0),(intP 0),(intP 0),(intP 0),(intP 0),(intP 0),(intP 0),(intP 0),(intP 0),(intP 0),(intP 0),(intP 0),(intP 0),(intP 0),(intP 0),(intP 0),(intP 0),(intP 0),(intP 0),(intP 0),(intP 0),(intP 0),(intP 0),(intP 0),(intP 0),(intP 0),(intP 0),(intP 0),(intP 0),(intP 0),(intP 0),(intP 0),(intP 0),(intP 0),(intP 0),(intP 0),(intP 0),(intP 0)].length,_,_]) (by kernel_rfl) (gc h6 (gc h5 (gc (by first | decide | simp) (gc (at_nil (at_map (i:=1) h4)) (gc (by first | decide | simp) (gc (at_nil rfl) (gc (fk 3 (rank_ok c h1 i h2) rfl) (gc ⟨h3,by first | decide | simp⟩ (gc (fk 2 (form_ok c h1 i h2) rfl) (gc (q_lt h0) gn))))))))))
  exact raw.cast (by rw [eo'n,eo'c])
theorem table_L0_p1{c:Cup}{i:Nat}{o:List (List Int)}(h0:c.sk≤(i:Int)):CodeOK Tryz.prog 0 zK5c4 (table_S0 c i o.length (o.flatten.map intP)) (.exit 0) (table_S0 c i o.length (o.flatten.map intP)):=by
  exact CodeOK.fin (g:=⟨(rng [(0,2),(5,1),(7,12),(21,19),(41,1)]),[0,1],[],[]⟩) (o:=[bF]) (l:=[_]) (by kernel_rfl) (gc (q_ltF h0) gn)
def wStep(a:Int × Int × List Int)(x:List Int):Int × Int × List Int:=if 60<x.getD 1 0 then (a.1+1,a.2.1,a.2.2) else if a.2.1≤x.getD 1 0 then (a.1+1,a.2.1+1,a.2.2.set (x.getD 0 0).toNat a.2.1) else a
def worstM(c:Cup)(s:Nat):Int × Int × List Int:=(rivM c s).foldl wStep (1,1,List.replicate c.sk.toNat 0)
theorem rivM_mem{c:Cup}{s:Nat}{x:List Int}(h:x∈rivM c s):∃ i:Nat,(i:Int)<c.sk∧i≠s∧x=[(i:Int),rivPl c s i]∧0<rivPl c s i:=rivL_mem ((isort_mem _ _ _).1 h)
theorem rivM_len(c:Cup)(s:Nat):(rivM c s).length≤c.sk.toNat:=by
  unfold rivM
  rw [isort_length]
  have:=flatMap_len (rivG_len c s) (List.range c.sk.toNat)
  rwa [List.length_range] at this
theorem worst_ok(c:Cup)(s:Nat)(h:lastE c (s:Int)=0){base:Nat}:FV Tryz.prog 55 [.p (cupP c),.p (intP (s:Int))] base (.tup [.p (intP (worstM c s).1),.p (intsP (worstM c s).2.2),.p (intP 0)]) []:=by
  obtain ⟨hV,hs0,hs,hra⟩:=lastE_zero h
  have h1:=hV.sk1
  have h2:=hV.sk2
  have hu:uni 2 (rivM c s):=fun x hx=>by obtain ⟨i,_,_,rfl,_⟩:=rivM_mem hx;rfl
  have hll:=rivM_len c s
  have hL:=LoopOK.range (P:=Tryz.prog) (k:=0) (b:=zK5c3) (e := .exit 0) (fun i (a:Int × Int × List Int)=>worst_S0 c s i a.1 a.2.1 a.2.2.length (a.2.2.map intP)) (fun a=>worst_S0 c s (rivM c s).length a.1 a.2.1 a.2.2.length (a.2.2.map intP)) wStep (fun i a=>0≤a.1∧a.1≤1+i∧0≤a.2.1∧a.2.1≤1+i∧a.2.2.length=c.sk.toNat) (by simp) (rivM c s) (a0:=(1,1,List.replicate c.sk.toNat 0)) (by simp)
    (fun i x a hx hI=>by
      obtain ⟨q1,q2,q3,q4,q5⟩:=hI
      obtain ⟨k,hk,_,rfl,hp⟩:=rivM_mem (List.mem_of_getElem? hx)
      have hi:=lt_of_at hx
      have hbd:=rivPl_bd c s k
      unfold wStep
      simp only [List.getD_cons_succ,List.getD_cons_zero]
      by_cases c1:60<rivPl c s k
      · rw [if_pos c1]
        exact ⟨⟨by simp;omega,by simp;omega,by simp;omega,by simp;omega,q5⟩,worst_L0_p0 (by omega) hx hu c1 (by unfold inR;omega) (inR_nat (by omega)) rfl rfl⟩
      · rw [if_neg c1]
        by_cases c2:a.2.1≤rivPl c s k
        · rw [if_pos c2]
          have hkl:k<a.2.2.length:=by omega
          exact ⟨⟨by simp;omega,by simp;omega,by simp;omega,by simp;omega,by simpa using q5⟩,worst_L0_p1 (by omega) hx hu (by omega) c2 (x102:=a.2.2[k]) (by rw [Int.toNat_natCast];exact List.getElem?_eq_getElem hkl) (by omega) (by simp;omega) (by unfold inR;omega) (by unfold inR;omega) (inR_nat (by omega)) rfl rfl rfl (by simp) (by simp [List.map_set])⟩
        · rw [if_neg c2]
          exact ⟨⟨by omega,by omega,by omega,by omega,q5⟩,worst_L0_p2 (by omega) hx hu (by omega) (by omega) (inR_nat (by omega)) rfl⟩)
    (fun a _=>worst_L0_p3 (by omega))
  refine worst_p1 (s:=s) hV.small h (by omega) ⟨hV,by omega,hs⟩ (i'0:=(rivM c s).length) (nx'2:=(worstM c s).2.1) ?_
  simpa [worstM] using hL
def tabL(c:Cup):List (List Int):=(List.range c.sk.toNat).map fun (i:Nat)=>[(i:Int),rankM c i,totalM c i,(placesM c i).getD 1 0]
def tableM(c:Cup):List (List Int):=isort (ltK 1) (tabL c)
theorem foldl_mapL{g:Nat→List Int}:∀ (l:List Nat) (a:List (List Int)),l.foldl (fun acc s=>acc++[g s]) a=a++l.map g
  | [],a=>by simp
  | x::l,a=>by rw [List.foldl_cons,foldl_mapL l];simp
theorem table_ok(c:Cup)(hV:KL.Valid c){base:Nat}:FV Tryz.prog 34 [.p (cupP c)] base (.tup [.p (.sl (tableM c).length ((tableM c).flatten.map intP)),.p (intP 0)]) []:=by
  have h1:=hV.sk1
  have h2:=hV.sk2
  have hpl:∀ i,(placesM c i).length=61:=fun i=>by unfold placesM;rw [KL.placesUpTo_length]
  have hL:=LoopOK.times (P:=Tryz.prog) (k:=0) (b:=zK5c4) (e := .exit 0) (fun i (o:List (List Int))=>table_S0 c i o.length (o.flatten.map intP)) (fun o=>table_S0 c c.sk.toNat o.length (o.flatten.map intP)) (fun acc i=>acc++[[(i:Int),rankM c i,totalM c i,(placesM c i).getD 1 0]]) (fun i o=>o.length≤i) (by simp) c.sk.toNat (a0:=[]) (by simp)
    (fun i o hi hI=>⟨by simp;omega,table_L0_p0 (x100:=(placesM c i).getD 1 0) (by omega) hV (by omega) (by simp [hpl]) (by
      have:=hpl i
      rw [List.getElem?_eq_getElem (by omega),List.getD_eq_getElem?_getD,List.getElem?_eq_getElem (by omega)];rfl) (by simp;omega) (inR_nat (by omega)) rfl (by simp) (by simp)⟩)
    (fun o _=>table_L0_p1 (by omega))
  rw [foldl_mapL,List.nil_append] at hL
  exact table_p1 hV.small ((KL.valid_iff c).2 hV) hL (fun x hx=>by rw [List.mem_map] at hx;obtain ⟨i,_,rfl⟩:=hx;rfl) (by simp;omega)
end
end KV
end Go.Proofs
section
namespace Go.Proofs
open Go.RowKit
namespace KV
variable {P:Program} {C C0:Cx} {M M0:Mem} {w w0:World}

def Solid(w:World)(b:Nat):Prop:=∃ o:Obj,w.heap[b]? = some o∧o.isCells=true
theorem solid_cell{b o:Nat}{v:Value}(h:w.cell? ⟨b,o,none⟩=some v):Solid w b:=cells_of_cell h
theorem solid_row{b ty:Nat}{arr:Array Value}{fr:Nat × Nat}(h:w.heap[b]? = some (.cells arr ty fr)):Solid w b:=⟨_,h,rfl⟩

theorem RepP.shrink{F F':Nat→Prop}{x:PV}{u:Value}(h:RepP F w x u)(hF:∀ b,F b→Solid w b→F' b):RepP F' w x u:=by
  induction h with
  | v x=>exact .v x
  | sl n cs p cap us h1 h2 h3 _ h5 ih =>
    refine .sl n cs p cap us h1 h2 (fun i hi => ?_) ih h5
    obtain ⟨b,o,hp,hb,hc⟩:=h3 i hi
    exact ⟨b,o,hp,hF b hb (solid_cell hc),hc⟩
  | agg cs vs h0 h1 _ ih=>exact .agg cs vs h0 h1 ih
theorem Rep.shrink{F':Nat→Prop}{x:AV}{u:Value}(h:Rep C M w x u)(hF:∀ b,C.F b→Solid w b→F' b):Rep ⟨C.ι,C.κ,F',[]⟩ M w x u:=by
  induction h with
  | p x u h=>exact .p x u (h.shrink hF)
  | any u=>exact .any u
  | kb b=>exact .kb b
  | yld l=>exact .yld l
  | own id u h0 ha h=>exact .own id u h0 ha h
  | arr id off n u h0 ha h=>exact .arr id off n u h0 ha h
  | ptr id off u h0 ha h=>exact .ptr id off u h0 ha h
  | mp id u h0 ha h=>exact .mp id u h0 ha h
  | rp cs off b o us h1 h2 h3=>exact .rp cs off b o us (fun i hi=>⟨hF b (h1 i hi).1 (solid_cell (h1 i hi).2),(h1 i hi).2⟩) (fun i hi=>(h2 i hi).shrink hF) h3
  | agg cs vs h0 h1 _ ih=>exact .agg cs vs h0 h1 ih
  | tup cs vs h1 _ ih=>exact .tup cs vs h1 ih
  | fn f cs ds us vs h1 h2 _ _ ih1 ih2=>exact .fn f cs ds us vs h1 h2 ih1 ih2

def NoMap(M:Mem):Prop:=∀ (i:Nat) (es:List (Value × PV)) (cl:Nat),M[i]? ≠ some (some (.mp es cl))

theorem inv_shrink{M':Mem}{W:World}(hn:NoMap M')(hF:∀ b,C.F b→b<w.heap.size){C':Cx}(hM:MemOK P C' M' W)(f:Fr C M w C' M' W) :
    ∃ C'',MemOK P C'' M' W∧Fr C M w C'' M' W∧(∀ b,C''.F b→b<w.heap.size∨Solid W b):=by
  refine ⟨⟨C'.ι,C'.κ,fun b=>C'.F b∧(b<w.heap.size∨Solid W b),[]⟩,⟨fun i ty n cs hm => ?_,fun i ty cs hm => ?_,fun i es cl hm=>absurd hm (hn _ _ _),hM.inj,fun i o b ho hl hb hf=>hM.nF i o b ho hl hb hf.1,fun b hb=>hM.Fs b hb.1,hM.lt⟩,
    ⟨f.os,f.tape,f.out,f.size,f.keep,f.ids,f.row,f.liv,f.new,fun b hb=>⟨f.F1 b hb,.inl (hF b hb)⟩,fun b hb=>f.F2 b hb.1⟩,fun b hb=>hb.2⟩
  · rcases hM.row _ _ _ _ hm with h4 | ⟨b,arr,inf,q0,q1,q2,q3,q4,q5,q6,q7,q8⟩
    · exact .inl h4
    · exact .inr ⟨b,arr,inf,q0,q1,q2,q3,q4,q5,q6,fun j hj=>(q7 j hj).shrink (fun b hb hs=>⟨hb,.inr hs⟩),q8⟩
  · obtain ⟨b,arr,q0,q1,q2,q3,q4⟩:=hM.box _ _ _ hm
    exact ⟨b,arr,q0,q1,q2,fun j hj=>(q3 j hj).shrink (fun b hb hs=>⟨hb,.inr hs⟩),q4⟩

def InvR(P:Program)(C:Cx)(M:Mem)(w:World)(M':Mem)(W:World):Prop:=∃ C',MemOK P C' M' W∧Fr C M w C' M' W

theorem not_solid{W:World}{b:Nat}{o:Obj}(h:W.heap[b]? = some o)(ho:o.isCells=false):¬ Solid W b:=fun ⟨o',h',hc⟩=>by rw [h] at h';cases h';rw [ho] at hc;cases hc

theorem InvR.own{M':Mem}{W W':World}{row:Option Nat}(hn:NoMap M')(hF:∀ b,C.F b→b<w.heap.size)(h:InvR P C M w M' W)(hg:W.grownBy W' row)
    (hr:∀ r,row=some r→w.heap.size≤r∧∃ o:Obj,W.heap[r]? = some o∧o.isCells=false):InvR P C M w M' W':=by
  obtain ⟨C1,h1,h2⟩:=h
  obtain ⟨C',hM,f,hS⟩:=inv_shrink hn hF h1 h2
  have hsame:∀ b,b<W.heap.size→(b<w.heap.size∨Solid W b)→W'.heap[b]? = W.heap[b]? := fun b hb hd=>hg.block b hb (fun e=>by
    obtain ⟨q1,o,q2,q3⟩:=hr b e.symm
    rcases hd with hd | hd
    · omega
    · exact not_solid q2 q3 hd)
  have hFz:∀ b,C'.F b→W'.heap[b]? = W.heap[b]? := fun b hb=>hsame b (hM.Fs b hb) (hS b hb)
  have hL:Le C' C' M' M' W W':=⟨fun _ o h=>⟨o,h⟩,fun _ _ _ _ _ cs h=>⟨cs,h⟩,fun _ o h o' h' hl=>by rw [h] at h';cases h';exact ⟨hl,rfl,rfl⟩,fun _ h=>h,hFz⟩
  refine ⟨C',⟨fun i ty n cs hm => ?_,fun i ty cs hm => ?_,fun i es cl hm=>absurd hm (hn _ _ _),hM.inj,hM.nF,fun b hb=>Nat.lt_of_lt_of_le (hM.Fs b hb) hg.size,fun i o b ho hl hb=>Nat.lt_of_lt_of_le (hM.lt i o b ho hl hb) hg.size⟩,
    ⟨hg.os.trans f.os,hg.tape.trans f.tape,hg.output.trans f.out,Nat.le_trans f.size hg.size,fun b hb hno=>(hsame b (Nat.lt_of_lt_of_le hb f.size) (.inl hb)).trans (f.keep b hb hno),f.ids,f.row,f.liv,f.new,f.F1,f.F2⟩⟩
  · rcases hM.row _ _ _ _ hm with h4 | ⟨b,arr,inf,q0,q1,q2,q3,q4,q5,q6,q7,q8⟩
    · exact .inl h4
    · exact .inr ⟨b,arr,inf,q0,(hsame b (Array.getElem?_eq_some_iff.1 q1).1 (.inr (solid_row q1))).trans q1,q2,q3,q4,q5,q6,fun j hj=>(q7 j hj).mono hL.F hL.fz,q8⟩
  · obtain ⟨b,arr,q0,q1,q2,q3,q4⟩:=hM.box _ _ _ hm
    exact ⟨b,arr,q0,(hsame b (Array.getElem?_eq_some_iff.1 q1).1 (.inr (solid_row q1))).trans q1,q2,fun j hj=>(q3 j hj).mono hL,q4⟩

structure KpG (F:Nat→Prop) (A B:World):Prop where
  size:A.heap.size≤B.heap.size
  same:∀ b,F b→B.heap[b]? = A.heap[b]?
theorem KpG.refl(F:Nat→Prop)(A:World):KpG F A A:=⟨Nat.le_refl _,fun _ _=>rfl⟩
theorem KpG.trans{F:Nat→Prop}{A B D:World}(h:KpG F A B)(k:KpG F B D):KpG F A D:=⟨Nat.le_trans h.size k.size,fun b hb=>(k.same b hb).trans (h.same b hb)⟩

def IterOK(P:Program){α:Type}(g:AV)(encs:α→Array Value)(gf N:Nat)(S:List α→Prop):Prop:=∀ (C:Cx) (M:Mem) (w:World) (u:Value),Rep C M w g u→(∀ b,C.F b→b<w.heap.size) →
  ∃ lb Sp,u = .func (.func gf) #[] lb∧SeqStopsK Fence.wide 2 P gf lb encs (KpG C.F) S Sp N w

theorem room_fen{ro:Option Nat}{n:Nat}:(Fen ro).room n:=fun d hd=>by cases hd
theorem wpIn_any_n{ro:Option Nat}{n m:Nat}{c:Code}{Q:Exit→Act→World→Prop}{a:Act}(h:c.wpIn (Fen ro) n P Q a w):c.wpIn (Fen ro) m P Q a w:=fun b k cs hro hb _=>h b k cs hro hb room_fen

theorem nosolid_live{C:Cx}{M:Mem}{W:World}(hM:MemOK P C M W)(hn:NoMap M){b:Nat}{o:Obj}(h:W.heap[b]? = some o)(ho:o.isCells=false):∀ (id:Nat) (x:AO),M[id]? = some (some x)→x.live=true→C.ι id≠some b:=fun id x hx hl hb=>by
  cases x with
  | row ty n cs =>
    rcases hM.row _ _ _ _ hx with ⟨h1,_⟩ | ⟨b',arr,i,h1,h2,_⟩
    · rw [hb] at h1;cases h1
    · rw [hb] at h1;cases h1;exact not_solid h ho (solid_row h2)
  | box ty cs =>
    obtain ⟨b',arr,h1,h2,_⟩:=hM.box _ _ _ hx
    rw [hb] at h1;cases h1;exact not_solid h ho (solid_row h2)
  | mp es cl=>exact hn _ _ _ hx
  | dead=>cases hl

theorem zip2'(p q:Nat)(a b:Value)(t:Array Value):(#[p,q].zip #[a,b]).foldl (fun t (x:Nat × Value)=>t.setIfInBounds x.1 x.2) t=(t.setIfInBounds p a).setIfInBounds q b:=by simp

theorem CodeOK.rangeFunc{α:Type}{k kb gi gf p1 p2 d id ty:Nat}{pos:String}{body:Code}{st:St}{g:AV}{N:Nat}{S:List α→Prop}(Mx:List α→Mem)(v1 v2:α→Value)(t':List α→α→List AV)(M':Mem)
    (hg:st.t[gi]? = some g) (h0:Mx []=st.m) (hit:IterOK P g (fun x => #[v1 x,v2 x]) gf N S) (eg:∀ args w,(callFunc gf args).run P w = .ok (.enter gf args) w)
    (hmp:∀ pre,NoMap (Mx pre)) (hlen:∀ pre,(Mx pre).length≤kb) (hnrf:nrf body=true)
    (hp:∀ x,(put (put st.t (some p1) (.p (.v (v1 x)))) (some p2) .any)[p1]? = some (.p (.v (v1 x))))
    (hbody:∀ pre x,pre.length<N→CodeOK P kb body ⟨put (put (put st.t (some p1) (.p (.v (v1 x)))) (some p2) .any) (some d) (.p (.v (v1 x))),Mx pre⟩ .normal ⟨t' pre x,Mx (pre++[x])⟩)
    (hS:∀ xs,S xs→Mx xs=M') :
    CodeOK P k (.rangeFunc (.tmp gi) #[p1,p2] (.region id #[{ dst:=some d,op := .assign (.tmp p1),type:=ty,pos:=pos,after := #[],guard:=none }] false) body) st .normal ⟨st.t,M'⟩:=by
  intro C0 M0 w0 a w hk hs ro hro n
  have hro':ro=none:=hro.resolve_right (by simp [nrf])
  subst hro'
  refine wpIn_any_n (n:=3) ?_
  obtain ⟨C,hSl,hM,hF,hD⟩:=hs
  obtain ⟨lb,Sp,hu,hseq⟩:=hit C st.m w _ (hSl.at hg) hM.Fs
  refine wpIn_rangeFunc_ownH (F:=Fen none) (n:=3) rfl (by omega) (gf:=gf) (lb:=lb) hu trivial eg hseq (fun h k=>h.trans k)
    (fun W l o o' hl h1 h2 h3=>⟨by simp,fun b hb=>(grownBy_putObj' W l o').block b (Nat.lt_of_lt_of_le (hM.Fs b hb) (Nat.le_trans hl (Nat.le_of_lt (Array.getElem?_eq_some_iff.1 h1).1))) (fun e=>by cases e;have:=hM.Fs _ hb;omega)⟩)
    (Below.refl _ _) (fun _=>rfl)
    (fun pre W=>InvR P C st.m w (Mx pre) W) (fun _ _ _=>False)
    (fun pre X Y row hs hg hr=>hs.own (hmp pre) hM.Fs hg hr) (fun _ _ _ _ _ hs _ _=>hs)
    ⟨C,by rw [h0];exact hM,by rw [h0];exact Fr.refl _ _ _⟩
    (fun x a' _=>a'=({ tmps:=(a.tmps.setIfInBounds p1 (v1 x)).setIfInBounds p2 (v2 x),defers:=[] }:Act).put (some d) (({ tmps:=(a.tmps.setIfInBounds p1 (v1 x)).setIfInBounds p2 (v2 x),defers:=[] }:Act).eval (.tmp p1)))
    (fun _ _ _ _ _ _ hs _ _=>hs) ?assign ?body ?done ?stop
  case assign =>
    intro l pre x W K hI hK
    rw [zip2']
    refine wpIn_region_lit (wpListIn_plain rfl fun K' hK' => ?_)
    unfold Oper.wpIn
    refine ⟨fun f _=>trivial,?_⟩
    rw [Oper.semAt_plain _ _ _ (by intro c hc';cases hc')]
    simp only [execOp,Sem.run_pure]
    exact hK' _ _ (wpListIn_nil (hK _ _ (KeepsFrom.refl _ _) (KpG.refl _ _) hI rfl))
  case body =>
    rintro l pre x a' W hl _ hI rfl hlt
    obtain ⟨C',hM',hF'⟩:=hI
    have hSW:=hSl.le (hM.le hF')
    have hS1:Slots C' (Mx pre) W (put (put (put st.t (some p1) (.p (.v (v1 x)))) (some p2) .any) (some d) (.p (.v (v1 x)))) (({ tmps:=(a.tmps.setIfInBounds p1 (v1 x)).setIfInBounds p2 (v2 x),defers:=[] }:Act).put (some d) (({ tmps:=(a.tmps.setIfInBounds p1 (v1 x)).setIfInBounds p2 (v2 x),defers:=[] }:Act).eval (.tmp p1))).tmps:=by
      have s1:Slots C' (Mx pre) W (put (put st.t (some p1) (.p (.v (v1 x)))) (some p2) .any) ((({ tmps:=a.tmps,defers:=[] }:Act).put (some p1) (v1 x)).put (some p2) (v2 x)).tmps :=
        Slots.put (Slots.put (a:={ tmps:=a.tmps,defers:=[] }) hSW (.p _ _ (.v _))) (.any _)
      exact Slots.put s1 (s1.at (hp x))
    refine wpIn_mono (hbody pre x hlt (C'.with []) (Mx pre) W _ W (hlen pre) ⟨C',hS1,hM',(Fr.refl _ _ _).based [],.nil rfl⟩ (some l) (.inr hnrf) 1) ?_
    rintro e a2 W2 ⟨rfl,C2,_,hM2,hF2,_⟩
    have hF2:=hF2.unbased
    refine ⟨⟨hF2.size,fun b o _ hb ho=>(hF2.keep b (Array.getElem?_eq_some_iff.1 hb).1 (nosolid_live hM' (hmp pre) hb ho)).trans hb⟩,⟨hF2.size,fun b hb=>(hF2.keep b (Nat.lt_of_lt_of_le (hM.Fs b hb) hF'.size) (fun id o ho hl he=>hM'.nF id o b ho hl he (hF'.F1 b hb)))⟩,C2,hM2,hF'.trans hF2⟩
  case done =>
    intro D xs W hD' hSx hI hDm
    obtain ⟨C1,h1,h2⟩:=hI
    rw [hS xs hSx] at h1 h2
    have hnm:NoMap M':=hS xs hSx ▸ hmp xs
    obtain ⟨C',hM',f,hSo⟩:=inv_shrink hnm hM.Fs h1 h2
    refine ⟨rfl,C',hSl.le (hM.le f),hM',hF.trans f,?_⟩
    obtain ⟨⟨l,e1,e2,e3⟩,hR⟩:=hD.fr hM f
    obtain ⟨⟨l',e1',_,e3'⟩,_⟩:=hD
    have hll:l=l':=by
      have:=e1.symm.trans e1'
      exact (List.map_inj_right (fun x y h=>by simpa [mark] using h)).1 this
    refine ⟨⟨D::l,by rw [e1];rfl,List.nodup_cons.2 ⟨fun hin => ?_,e2⟩,fun D' hD2 => ?_⟩,hR⟩
    · rw [hll] at hin
      have:=(Array.getElem?_eq_some_iff.1 (e3' D hin).1).1
      omega
    · rcases List.mem_cons.1 hD2 with rfl | hin
      · refine ⟨hDm,Nat.le_trans hF.size hD',fun hf => ?_⟩
        rcases hSo _ hf with h | h
        · omega
        · exact not_solid hDm rfl h
      · exact e3 D' hin
  case stop =>
    intro D c pre W _ _ h _
    exact h.elim
def rfS(st:St)(p1 p2 d:Nat)(x:PV):St:=⟨put (put (put st.t (some p1) (.p x)) (some p2) .any) (some d) (.p x),st.m⟩
theorem CodeOK.rangeAcc{α β β':Type}{k kb gi gf p1 p2 d id ty:Nat}{pos:String}{body:Code}{g:AV}{N:Nat}{xs:List β}(val:α→β)(S:β'→St)(T:List AV)(v1 v2:α→Value)(f:β'→α→β')(a0:β')(Inv:Nat→β'→Prop)(R:List β→β')
    {cc:Code} (hcc:cc = .rangeFunc (.tmp gi) #[p1,p2] (.region id #[{ dst:=some d,op := .assign (.tmp p1),type:=ty,pos:=pos,after := #[],guard:=none }] false) body) (hT:∀ acc,(S acc).t=T) (hg:T[gi]? = some g) (hit:IterOK P g (fun x => #[v1 x,v2 x]) gf N (fun ys=>ys.map val=xs)) (eg:∀ args w,(callFunc gf args).run P w = .ok (.enter gf args) w)
    (hmp:∀ acc,NoMap (S acc).m) (hlen:∀ acc,(S acc).m.length≤kb) (hnrf:nrf body=true)
    (hp:∀ x,(put (put T (some p1) (.p (.v (v1 x)))) (some p2) .any)[p1]? = some (.p (.v (v1 x))))
    (h0:Inv 0 a0) (hInv:∀ i acc x,i<N→Inv i acc→Inv (i+1) (f acc x))
    (hbody:∀ i acc x,i<N→Inv i acc→CodeOK P kb body (rfS (S acc) p1 p2 d (.v (v1 x))) .normal (S (f acc x)))
    (hR:∀ ys:List α,ys.foldl f a0=R (ys.map val)) :
    CodeOK P k cc (S a0) .normal (S (R xs)):=by
  subst hcc
  have hI':∀ (pre:List α) (i:Nat) (acc:β'),Inv i acc→i+pre.length≤N→Inv (i+pre.length) (pre.foldl f acc):=by
    intro pre
    induction pre with
    | nil=>intro i acc h _;exact h
    | cons x pre ih =>
      intro i acc h hl
      rw [List.length_cons] at hl ⊢
      have:=ih (i+1) (f acc x) (hInv i acc x (by omega) h) (by omega)
      rwa [show i+1+pre.length=i+(pre.length+1) by omega] at this
  have hI:∀ (pre:List α),pre.length≤N→Inv pre.length (pre.foldl f a0):=fun pre hl=>by
    have:=hI' pre 0 a0 h0 (by omega)
    rwa [Nat.zero_add] at this
  have:=CodeOK.rangeFunc (P:=P) (k:=k) (kb:=kb) (d:=d) (id:=id) (ty:=ty) (pos:=pos) (body:=body) (st:=S a0) (g:=g) (S:=fun ys=>ys.map val=xs) (fun pre=>(S (pre.foldl f a0)).m) v1 v2 (fun pre x=>T) (S (R xs)).m
    (by rw [hT];exact hg) rfl hit eg (fun pre=>hmp _) (fun pre=>hlen _) hnrf (by rw [hT];exact hp)
    (fun pre x hl=>by
      have h1:=hbody pre.length (pre.foldl f a0) x hl (hI pre (by omega))
      unfold rfS at h1
      rw [hT] at h1 ⊢
      rw [List.foldl_append]
      have h2:S (f (pre.foldl f a0) x)=⟨T,(S (f (pre.foldl f a0) x)).m⟩:=by rw [← hT (f (pre.foldl f a0) x)]
      rw [h2] at h1
      exact h1)
    (fun ys hy=>by rw [hR,hy])
  have h3:S (R xs)=⟨(S a0).t,(S (R xs)).m⟩:=by rw [hT,← hT (R xs)]
  rw [h3]
  exact this
end KV
end Go.Proofs
end
section
namespace Go.Proofs
open Go.RowKit Go.Lib Go.Sort Go.Shelf
namespace KV
open KL
attribute [local go_sem] Oper.semAt_some

theorem KpG.below{F:Nat→Prop}{A B:World}(h:Below A.heap.size A B)(hF:∀ b,F b→b<A.heap.size):KpG F A B:=⟨h.size,fun b hb=>h.block b (hF b hb)⟩

set_option maxRecDepth 1000000 in
set_option maxHeartbeats 2000000 in
theorem others_iterG(c:Cup)(hV:Valid c)(F0:Nat→Prop)(vp vd:Value)(n l b1 o1 b2 o2:Nat)(hn:1≤n)(skier:Nat)(J Jx:List Nat→World→Prop)
    (hY:∀ pre (x:Nat) W,(x:Int)<c.sk→x≠skier→J pre W→pre.length<(oth skier c.sk.toNat).length→YieldAt Fence.wide (n-1) Tryz.prog l #[.int .i64 x,.agg (formM c x)] W fun e W' =>
      (e = .returned (.bool true)∧J (pre++[x]) W'∧KpG F0 W W')∨(e = .returned (.bool false)∧Jx (pre++[x]) W'))
    (W:World) (hJ:AbidesFrom W.heap.size J) (hF:∀ b,F0 b→b<W.heap.size)
    (hc:∀ W',KpG F0 W W'→CupAt W' (.agg #[.int .i64 c.sk,.int .i64 c.ra,.int .i64 c.be,vp,vd]) c)
    (hk:∀ W',KpG F0 W W'→W'.cell? ⟨b1,o1,none⟩=some (.int .i64 c.sk)∧W'.cell? ⟨b1,o1+1,none⟩=some (.int .i64 c.ra)∧W'.cell? ⟨b1,o1+2,none⟩=some (.int .i64 c.be)∧W'.cell? ⟨b1,o1+3,none⟩=some vp∧W'.cell? ⟨b1,o1+4,none⟩=some vd∧W'.cell? ⟨b2,o2,none⟩=some (.int .i64 skier)) (h0:J [] W) :
    CallsIn Fence.wide n Tryz.prog 159 #[.func (.yield l) #[] #[],.pointer (some ⟨b1,o1,none⟩),.pointer (some ⟨b2,o2,none⟩)] W fun e W'=>(∃ v,e = .returned v) ∧
      ((∃ ys,ys=oth skier c.sk.toNat∧J ys W')∨(∃ pre,pre <+: oth skier c.sk.toNat∧Jx pre W')):=by
  have HJ:=hid hJ
  have HY:=hid hY
  have HC:=hid hc
  have HKC:=hid hk
  have HF0:=hid hF
  have HJ0:=hid h0
  have hsk:=hV.sk2
  have hsk1:=hV.sk1
  obtain ⟨k0,k1,k2,k3,k4,ks⟩:=hk W (KpG.refl _ _)
  clear hJ hY hc h0 hk hF
  refine callsIn_of_wp Tryz.func159 rfl trivial ?_ rfl
  simp only [Tryz.ntmps159,List.size_toArray,List.length_cons,List.length_nil,Nat.reduceAdd,Nat.reduceSub,Array.replicate_succ,Array.replicate_zero,List.push_toArray,List.append_toArray,List.nil_append,List.cons_append]
  gi_wp2
  clear k0 k1 k2 k3 k4 ks
  gi_loopw [8] (fun i wr=>∃ k:Nat,(k:Int)≤c.sk∧i = .int .i64 k∧J (oth skier k) wr∧KpG F0 W wr)
    (fun i _=>c.sk.toNat-(intOf i).toNat)
  case atStart=>exact ⟨0,by omega,rfl,HJ0.out,KpG.refl _ _⟩
  case round =>
    obtain ⟨k,hk,rfl,hJk,hK⟩:=hrel
    have HJK:=hid hJk
    have HK:=hid hK
    obtain ⟨k0,k1,k2,k3,k4,ks⟩:=HKC.out wr hK
    have HFR:=hid (fun b (hb:F0 b)=>Nat.lt_of_lt_of_le (HF0.out b hb) HK.out.size)
    clear hJk hK
    by_cases hlt:(k:Int)<c.sk
    · by_cases hks:k=skier
      · subst hks
        have HE:=hid (oth_succ_same k)
        have hk2:(k:Int)<12:=by omega
        gi_wp2
        refine ⟨trivial,?_⟩
        gi_wp2
        refine ⟨fun _ h=>(by cases h),?_⟩
        gi_wp2
        go_roundw
        case rel=>exact ⟨k+1,by omega,by go_num,by rw [HE.out];exact HJK.out,HK.out⟩
        case measure=>simp [intOf];omega
      · have HE:=hid (oth_succ_other skier k hks)
        have hne:((k:Int) != skier)=true:=by simp;omega
        have HFM:=hid (form_any c hV _ k wr (HC.out wr HK.out) hlt)
        have HL:=hid (oth_lt skier (show k<c.sk.toNat by omega) hks)
        have HP:=hid (oth_prefix skier (show k+1≤c.sk.toNat by omega))
        have HKS:=hid hks
        have HLT:=hid hlt
        have hk2:(k:Int)<12:=by omega
        have HWR:=hid (fun w1 (hb1:Below wr.heap.size wr w1)=>HJ.out _ wr w1 none HJK.out (grown_of_below hb1 none) (fun r e=>by cases e))
        have HKD:=hid (fun w1 (hb1:Below wr.heap.size wr w1)=>HK.out.trans (KpG.below hb1 HFR.out))
        gi_wp2_with (first
          | (refine ⟨trivial,?_⟩;gi_at_call 103;refine (callsIn_wide.2 HFM.out).mono ?_;clear HFM;rintro e w1 ⟨rfl,hb1⟩;have HB1:=hid hb1;clear hb1;obtain ⟨fn,tmps,assign,body,hy,hR⟩:=HY.out _ k w1 HLT.out HKS.out (HWR.out w1 HB1.out) HL.out)
          | (refine hR.mono ?_;clear hR;rintro e w3 (⟨rfl,hJ3,hK3⟩ | ⟨rfl,hx⟩)))
        · go_roundw
          case rel=>exact ⟨k+1,by omega,by go_num,by rw [HE.out];exact hJ3,(HKD.out w1 HB1.out).trans hK3⟩
          case measure=>simp [intOf];omega
        · refine bodyPost_ret (results_none rfl _ _ _) rfl ?_
          exact ⟨⟨_,rfl⟩,.inr ⟨oth skier k++[k],HE.out ▸ HP.out,hx⟩⟩
    · have HE:=hid (show k=c.sk.toNat by omega)
      gi_wp2
      go_end0
      exact ⟨⟨_,rfl⟩,.inl (HE.out ▸ HJK.out)⟩

theorem mem_froz{P:Program}{C:Cx}{M:Mem}{w w':World}(hM:MemOK P C M w)(hb:Below w.heap.size w w')(X:Nat→Prop)(hX:∀ b,X b→w.heap.size≤b∧b<w'.heap.size) :
    MemOK P ⟨C.ι,C.κ,fun b=>C.F b∨X b,[]⟩ M w'∧Fr C M w ⟨C.ι,C.κ,fun b=>C.F b∨X b,[]⟩ M w':=by
  have hL:Le C ⟨C.ι,C.κ,fun b=>C.F b∨X b,[]⟩ M M w w':=⟨fun _ o h=>⟨o,h⟩,fun _ _ _ _ _ cs h=>⟨cs,h⟩,fun _ o h o' h' hl=>by rw [h] at h';cases h';exact ⟨hl,rfl,rfl⟩,fun _ h => .inl h,fun b h=>hb.block b (hM.Fs b h)⟩
  refine ⟨⟨fun i ty' n cs hm => ?_,fun i ty' cs hm => ?_,fun i es cl hm => ?_,hM.inj,fun i o b ho hl hbb hf => ?_,fun b h => ?_,fun i x b hm hl hbb=>Nat.lt_of_lt_of_le (hM.lt i x b hm hl hbb) hb.size⟩,
    ⟨hb.os,hb.tape,hb.output,hb.size,fun b h _=>hb.block b h,fun _ x h=>⟨⟨x,h⟩,rfl,rfl⟩,fun _ _ _ _ _ cs h=>⟨cs,h⟩,fun _ o h o' h' hl=>by rw [h] at h';cases h';exact hl,fun i x _ h hl hbb => .inr ⟨i,x,h,hl,hbb⟩,fun _ h => .inl h,fun b h=>h.elim .inl (fun h => .inr (.inl (hX b h).1))⟩⟩
  · rcases hM.row _ _ _ _ hm with h4 | ⟨b,arr,inf,q0,q1,q2,q3,q4,q5,q6,q7,q8⟩
    · exact .inl h4
    · exact .inr ⟨b,arr,inf,q0,(hb.block b (hM.lt i _ b hm rfl q0)).trans q1,q2,q3,q4,q5,q6,fun j hj=>(q7 j hj).mono hL.F hL.fz,q8⟩
  · obtain ⟨b,arr,q0,q1,q2,q3,q4⟩:=hM.box _ _ _ hm
    exact ⟨b,arr,q0,(hb.block b (hM.lt i _ b hm rfl q0)).trans q1,q2,fun j hj=>(q3 j hj).mono hL,q4⟩
  · obtain ⟨b,arr,q0,q1,q2,q3⟩:=hM.mp _ _ _ hm
    refine ⟨b,arr,q0,(hb.block b (hM.lt i _ b hm rfl q0)).trans q1,q2,fun j hj => ?_⟩
    obtain ⟨en,r1,r2,r3,r4⟩:=q3 j hj
    exact ⟨en,r1,r2,r3,r4.mono hL.F hL.fz⟩
  · rcases hf with h | h
    · exact hM.nF i o b ho hl hbb h
    · have:=hM.lt i o b ho hl hbb;have:=(hX b h).1;omega
  · rcases h with h | h
    · exact Nat.lt_of_lt_of_le (hM.Fs b h) hb.size
    · exact (hX b h).2

def othA(c:KL.Cup)(s:Int):AV := .fn 159 [] [.rp [intP c.sk,intP c.ra,intP c.be,intsP c.pts,rowsP c.done] 0,.rp [intP s] 0]
abbrev Oth(c:KL.Cup)(s:Nat):Type:={ x:Nat // (x:Int)<c.sk∧x≠s }

theorem others_fc(c:KL.Cup)(s:Nat){bs:List (Nat × AO)}{base:Nat}:FC Tryz.prog 128 [.p (cupP c),.p (intP (s:Int))] bs base (othA c s) []:=fun M _ _ C w us hus hM n=>by
  cases hus with
  | cons _ _ u us h1 h2 =>
    cases h2 with
    | cons _ _ u2 us2 h3 h4 =>
      cases h4
      cases h1 with
      | p _ _ h1 =>
        cases h3 with
        | p _ _ h3 =>
          cases h3
          obtain ⟨vp,vd,rfl,hp,hd,rp,rd⟩:=cup_of h1
          refine (callsIn_wide.2 (others_any c vp vd s w hp hd)).mono ?_
          rintro e w' ⟨rfl,rfl⟩
          have hb:Below w.heap.size w ((w.alloc (deskBox c vp vd)).alloc (.cells #[.int .i64 s] 3)):=((Below.refl _ w).alloc (Nat.le_refl _) _).alloc (by simp) _
          obtain ⟨hM',hF'⟩:=mem_froz hM hb (fun b=>w.heap.size≤b∧b<w.heap.size+2) (fun b h=>⟨h.1,by have:=h.2;simpa using this⟩)
          have hL:=hM.le hF'
          have hbk:((w.alloc (deskBox c vp vd)).alloc (.cells #[.int .i64 s] 3)).heap[w.heap.size]? = some (deskBox c vp vd):=by
            refine ((World.grownBy_alloc _ _ none).block _ (by simp) (by simp)).trans ?_
            exact heap_alloc_new w _
          have hbs:((w.alloc (deskBox c vp vd)).alloc (.cells #[.int .i64 s] 3)).heap[w.heap.size+1]? = some (.cells #[.int .i64 s] 3 (0,0)):=by
            have:=heap_alloc_new (w.alloc (deskBox c vp vd)) (.cells #[.int .i64 s] 3)
            simpa using this
          obtain ⟨k0,k1,k2,k3,k4⟩:=desk_cells hbk
          have rp':=rp.mono hL.F hL.fz
          have rd':=rd.mono hL.F hL.fz
          refine ⟨_,rfl,_,hF',hM',.fn 159 [] _ #[] _ rfl rfl (fun i hi=>by simp at hi) (fun i hi => ?_)⟩
          have h5:∀ {u:Value} {l:List Int},RepP C.F w (intsP l) u→u.oneCell'=true:=fun h=>by cases h;rfl
          have h6:∀ {u:Value} {l:List (List Int)},RepP C.F w (rowsP l) u→u.oneCell'=true:=fun h=>by cases h;rfl
          have h5:=h5 rp
          have h6:=h6 rd
          match i,hi with
          | 0,_ =>
            refine Rep.rp _ 0 w.heap.size 0 (fun i=>(#[Value.int .i64 c.sk,.int .i64 c.ra,.int .i64 c.be,vp,vd]:Array Value).getD i undef) (fun i hi=>⟨.inr ⟨by omega,by omega⟩,?_⟩) (fun i hi => ?_) (fun i hi => ?_)
            · match i,hi with
              | 0,_=>exact k0
              | 1,_=>exact k1
              | 2,_=>exact k2
              | 3,_=>exact k3
              | 4,_=>exact k4
            · match i,hi with
              | 0,_=>exact .v _
              | 1,_=>exact .v _
              | 2,_=>exact .v _
              | 3,_=>exact rp'
              | 4,_=>exact rd'
            · match i,hi with
              | 0,_=>rfl
              | 1,_=>rfl
              | 2,_=>rfl
              | 3,_=>exact h5
              | 4,_=>exact h6
          | 1,_ =>
            refine Rep.rp _ 0 (w.heap.size+1) 0 (fun i=>(#[Value.int .i64 s]:Array Value).getD i undef) (fun i hi=>⟨.inr ⟨by omega,by omega⟩,?_⟩) (fun i hi => ?_) (fun i hi => ?_)
            · match i,hi with
              | 0,_=>rw [cell_of_row _ _ _ _ _ _ hbs];rfl
            · match i,hi with
              | 0,_=>exact .v _
            · match i,hi with
              | 0,_=>rfl

theorem repVi{F:Nat→Prop}{w:World}{n:Int}{u:Value}(h:RepP F w (intP n) u):u = .int .i64 n:=by unfold intP at h;cases h;rfl
theorem others_itok(c:KL.Cup)(hV:KL.Valid c)(s:Nat):IterOK Tryz.prog (othA c s) (fun x:Oth c s => #[Value.int .i64 x.1,.agg (formM c x.1)]) 159 (oth s c.sk.toNat).length (fun ys=>ys.map (fun x=>x.1)=oth s c.sk.toNat):=fun C M w u hu hFs=>by
  cases hu with
  | fn _ _ _ us vs h1 h2 h3 h4 =>
    obtain rfl:us = #[]:=by simpa using h1
    have q0:=h4 0 (by simp)
    have q1:=h4 1 (by simp)
    simp only [List.getElem_cons_zero,List.getElem_cons_succ] at q0 q1
    obtain ⟨x0,x1,rfl⟩:∃ x0 x1,vs = #[x0,x1]:=by
      have:vs.toList.length=2:=by simpa using h2
      match hv:vs.toList,this with
      | [x0,x1],_=>exact ⟨x0,x1,by rw [← hv]⟩
    simp at q0 q1
    cases q0 with
    | rp _ _ b1 o1 u1 e1 e2 e3 =>
      cases q1 with
      | rp _ _ b2 o2 u2 g1 g2 g3 =>
        refine ⟨_,fun pre=>∃ ys:List Nat,True,rfl,fun l J Jx W hW hJ _ hY h0 => ?_⟩
        have hsame:∀ W',KpG C.F W W'→∀ b,C.F b→W'.heap[b]? = w.heap[b]? := fun W' hk b hb=>(hk.same b hb).trans (hW.block b (hFs b hb))
        have e2':∀ W',KpG C.F W W'→∀ i (h:i<5),RepP C.F W' ([intP c.sk,intP c.ra,intP c.be,intsP c.pts,rowsP c.done][i]'h) (u1 i):=fun W' hk i hi=>(e2 i hi).mono (fun _ h=>h) (hsame W' hk)
        have z0:u1 0 = .int .i64 c.sk:=repVi (e2 0 (by simp))
        have z1:u1 1 = .int .i64 c.ra:=repVi (e2 1 (by simp))
        have z2:u1 2 = .int .i64 c.be:=repVi (e2 2 (by simp))
        have zs:u2 0 = .int .i64 s:=repVi (g2 0 (by simp))
        have:=others_iterG c hV C.F (u1 3) (u1 4) 2 l b1 o1 b2 o2 (by omega) s (fun ys W=>∃ zs:List (Oth c s),zs.map (fun x=>x.1)=ys∧J zs W) (fun ys W=>∃ zs:List (Oth c s),zs.map (fun x=>x.1)=ys∧Jx zs W)
          (fun pre x W1 hx hxs hj hl=>by
            obtain ⟨zs,rfl,hj⟩:=hj
            obtain ⟨fn,tmps,assign,body,hy,hR⟩:=hY zs ⟨x,hx,hxs⟩ W1 hj (by simpa using hl)
            refine ⟨fn,tmps,assign,body,hy,hR.mono ?_⟩
            rintro e w3 (⟨rfl,hJ3,hK3⟩ | ⟨rfl,hx3⟩)
            · exact .inl ⟨rfl,⟨zs++[⟨x,hx,hxs⟩],by rw [List.map_append];rfl,hJ3⟩,hK3⟩
            · exact .inr ⟨rfl,⟨zs++[⟨x,hx,hxs⟩],by rw [List.map_append];rfl,hx3⟩⟩)
          W (fun ys A B row hs hg hr=>by obtain ⟨zs,h1,h2⟩:=hs;exact ⟨zs,h1,hJ _ _ _ _ h2 hg hr⟩) (fun b hb=>Nat.lt_of_lt_of_le (hFs b hb) hW.size)
          (fun W' hk=>⟨_,_,rfl,ints_of (e2' W' hk 3 (by omega)),rows_of (e2' W' hk 4 (by omega))⟩)
          (fun W' hk=>by
            have hc:∀ b o,C.F b→W'.cell? ⟨b,o,none⟩=w.cell? ⟨b,o,none⟩:=fun b o hb=>cell_heap (hsame W' hk b hb) o
            refine ⟨?_,?_,?_,?_,?_,?_⟩
            · rw [hc _ _ (e1 0 (by simp)).1,← z0];exact (e1 0 (by simp)).2
            · rw [hc _ _ (e1 1 (by simp)).1,← z1];exact (e1 1 (by simp)).2
            · rw [hc _ _ (e1 2 (by simp)).1,← z2];exact (e1 2 (by simp)).2
            · rw [hc _ _ (e1 3 (by simp)).1];exact (e1 3 (by simp)).2
            · rw [hc _ _ (e1 4 (by simp)).1];exact (e1 4 (by simp)).2
            · rw [hc _ _ (g1 0 (by simp)).1,← zs];exact (g1 0 (by simp)).2)
          ⟨[],rfl,h0⟩
        refine this.mono ?_
        rintro e W' ⟨h5,h6⟩
        refine ⟨h5,?_⟩
        rcases h6 with ⟨ys,rfl,zs,h7,h8⟩ | ⟨pre,_,zs,h7,h8⟩
        · exact .inl ⟨zs,h7,h8⟩
        · exact .inr ⟨zs,⟨[],trivial⟩,h8⟩
end KV
end Go.Proofs
end
namespace Go.Proofs
namespace KV
section
open KL
noncomputable abbrev zK6c0:Code:=sub (cd Tryz.f56) [1,1,1,1,1,0,1,0,0]
noncomputable abbrev zK6c1:Code:=sub (cd Tryz.f57) [1,1,1,0,1,0,0]
noncomputable abbrev zK6c2:Code:=sub (cd Tryz.f56) [1,1,1,1,1,0,1,0,0,1,0,0,1,0,1,0]
noncomputable abbrev zK6c3:Code:=sub (cd Tryz.f56) [1,1,1,1,1,0,1,0,0,1,0,0,1,0,1,0,1]
def harm_S0(c:Cup)(s:Nat)(p:Int)(n:Int):St:=⟨fr 23 [(3,(.ptr 0 0)),(4,(.ptr 1 0)),(5,(.ptr 2 0)),(6,(.p (intP 0))),(7,(.ptr 3 0)),(11,(.fn 159 [] [(.rp [(intP c.sk),(intP c.ra),(intP c.be),(intsP c.pts),(rowsP c.done)] 0),(.rp [(intP (s:Int))] 0)]))],[some (.box 120 [(.p (intP c.sk)),(.p (intP c.ra)),(.p (intP c.be)),(.p (intsP c.pts)),(.p (rowsP c.done))]),some (.box 3 [(.p (intP (s:Int)))]),some (.box 3 [(.p (intP p))]),some (.box 3 [(.p (intP n))])]⟩
theorem harm_p0{c:Cup}{s:Nat}{p n'0:Int}(hl0:CodeOK Tryz.prog 0 (sub (cd Tryz.f160) [1,1,0,1,0]) (harm_S0 c s p (0:Int)) .normal (harm_S0 c s p n'0)){base:Nat}:FV Tryz.prog 160 [(.p (cupP c)),(.p (intP (s:Int))),(.p (intP p))] base (.p (intP n'0)) []:=by
  exact FV.fin Tryz.func160 rfl (o:=[.c (.fn 159 [] [(.rp [(intP c.sk),(intP c.ra),(intP c.be),(intsP c.pts),(rowsP c.done)] 0),(.rp [(intP (s:Int))] 0)]) [],.k 1 ⟨(rng [(0,3),(8,3),(12,10)]),[0,1,2,3],[],[]⟩ .normal (harm_S0 c s p n'0)]) (l:=[CodeOK Tryz.prog 0 (sub (cd Tryz.f160) [1,1,0,1,0]) (harm_S0 c s p (0:Int)) .normal (harm_S0 c s p n'0),FC Tryz.prog 128 [(.p (cupP c)),(.p (intP (s:Int)))] [] 4 (.fn 159 [] [(.rp [(intP c.sk),(intP c.ra),(intP c.be),(intsP c.pts),(rowsP c.done)] 0),(.rp [(intP (s:Int))] 0)]) []]) (by kernel_rfl) (gc hl0 (gc (others_fc c s) gn))
theorem harm_L0_p0{c:Cup}{s:Nat}{p n:Int}{x:Nat}{n':Int}(h0:beatsOK c x p s (1:Int))(h1:(beatsM c x p s (1:Int))=false)(h2:inR (n+(1:Int)))(en':n'=(n+(1:Int))):CodeOK Tryz.prog 4 (sub (cd Tryz.f160) [1,1,0,1,0,1]) (rfS (harm_S0 c s p n) 12 13 8 (intP (x:Int))) .normal (harm_S0 c s p n'):=by
  subst en'
  exact CodeOK.fin (g:=⟨(rng [(0,3),(8,3),(12,10)]),[],[],[]⟩) (o:=[.c (.p (blP (beatsM c x p s (1:Int)))) [],bT]) (l:=[_,_,_]) (by kernel_rfl) (gc h2 (gc (q_not h1) (gc (fk 4 (beats_ok c x p s (1:Int) h0) rfl) gn)))
theorem harm_L0_p1{c:Cup}{s:Nat}{p n:Int}{x:Nat}(h0:beatsOK c x p s (1:Int))(h1:(beatsM c x p s (1:Int))=true):CodeOK Tryz.prog 4 (sub (cd Tryz.f160) [1,1,0,1,0,1]) (rfS (harm_S0 c s p n) 12 13 8 (intP (x:Int))) .normal (harm_S0 c s p n):=by
  exact CodeOK.fin (g:=⟨(rng [(0,3),(8,3),(12,10)]),[],[],[]⟩) (o:=[.c (.p (blP (beatsM c x p s (1:Int)))) [],bF]) (l:=[_,_]) (by kernel_rfl) (gc (q_notF h1) (gc (fk 4 (beats_ok c x p s (1:Int) h0) rfl) gn))
theorem enters159(args:Array Value)(w:World):(callFunc 159 args).run Tryz.prog w = .ok (.enter 159 args) w:=enters_of Tryz.func159 (by kernel_rfl) rfl args w
def harmM(c:Cup)(s:Nat)(p:Int):Int:=(oth s c.sk.toNat).foldl (fun n x=>if beatsM c x p s 1 then n else n+1) 0
theorem oth_len(c:Cup)(hV:KL.Valid c)(s:Nat):(oth s c.sk.toNat).length≤12:=by
  have:=oth_length s c.sk.toNat
  have:=hV.sk2
  omega
theorem harm_ok(c:Cup)(s:Nat)(p:Int)(hV:KL.Valid c)(h:∀ x:Nat,(x:Int)<c.sk→x≠s→beatsOK c x p s 1){base:Nat}:FV Tryz.prog 160 [.p (cupP c),.p (intP (s:Int)),.p (intP p)] base (.p (intP (harmM c s p))) []:=by
  have hN:=oth_len c hV s
  refine harm_p0 ?_
  refine CodeOK.rangeAcc (P:=Tryz.prog) (kb:=4) (gi:=11) (gf:=159) (p1:=12) (p2:=13) (d:=8) (body:=sub (cd Tryz.f160) [1,1,0,1,0,1]) (g:=othA c s) (xs:=oth s c.sk.toNat) (fun x:Oth c s=>x.1) (harm_S0 c s p) (harm_S0 c s p 0).t
    (fun x => .int .i64 x.1) (fun x => .agg (formM c x.1)) (fun n x=>if beatsM c x.1 p s 1 then n else n+1) 0 (fun i n=>0≤n∧n≤i) (fun ys=>ys.foldl (fun n x=>if beatsM c x p s 1 then n else n+1) 0)
    rfl (fun _=>rfl) rfl (others_itok c hV s) enters159 (fun acc i es cl h => ?_) (fun _=>Nat.le_refl _) (by kernel_rfl) (fun _=>rfl) (by simp) (fun i n x _ hI=>by split <;> omega) (fun i n x hi hI => ?_) (fun ys=>by rw [List.foldl_map])
  · match i,h with
    | 0,h=>cases h
    | 1,h=>cases h
    | 2,h=>cases h
    | 3,h=>cases h
  · have hb:=h x.1 x.2.1 x.2.2
    cases hm:beatsM c x.1 p s 1 with
    | true=>exact harm_L0_p1 hb hm
    | false=>exact harm_L0_p0 hb hm (by unfold inR;omega) rfl
def full_S0(c:Cup)(s:Nat)(pl:Int)(freen:Nat)(freec:List PV):St:=⟨fr 66 [(3,(.ptr 0 0)),(6,(.ptr 1 0)),(8,(.ptr 3 0)),(9,(.ptr 4 0))],[some (.box 3 [(.p (intP (s:Int)))]),some (.box 120 [(.p (intP c.sk)),(.p (intP c.ra)),(.p (intP c.be)),(.p (intsP c.pts)),(.p (rowsP c.done))]),some (.row 3 freen freec),some (.box 22 [(.own 2)]),some (.box 3 [(.p (intP pl))])]⟩
theorem full_p1{c:Cup}{s:Nat}{pl'0:Int}{free'1:List Int}(h0:KL.Small c)(h1:(lastE c (s:Int))=(0:Int))(h2:0≤c.sk∧c.sk≤c.sk∧c.sk≤1000000)(h3:0≤(s:Int)∧(s:Int)<((c.sk.toNat:Nat):Int))(h4:(s*1)<(List.replicate c.sk.toNat (intP 0)).length)(hl5:LoopOK Tryz.prog 0 zK6c0 (full_S0 c s (2:Int) c.sk.toNat ((List.replicate c.sk.toNat (intP 0)).set (s*1) (intP 1))) (.exit 0) (full_S0 c s pl'0 free'1.length (free'1.map intP))){base:Nat}:FV Tryz.prog 56 [(.p (cupP c)),(.p (intP (s:Int)))] base (.tup [(.p (intsP free'1)),(.p (intP 0))]) []:=by
  exact FV.frz (FMM.fin (k:=0) (g:=⟨[],[],[2],[]⟩) rfl Tryz.func56 rfl (o:=[.c (.tup [(.p (cupP c)),(.p (intP (lastE c (s:Int))))]) [],bF,.k 8 ⟨(rng [(0,3),(4,2),(7,1),(10,55)]),[1,2,3,4,5],[],[]⟩ (.exit 0) (full_S0 c s pl'0 free'1.length (free'1.map intP))]) (l:=[_,_,_,_,_,_]) (by kernel_rfl) (gc hl5.code (gc h4 (gc h3 (gc h2 (gc (q_neF h1) (gc (fk 2 (last_ok c h0 (s:Int)) rfl) gn))))))) (by kernel_rfl)
theorem full_p2{c:Cup}{s:Nat}{pl'0:Int}{free'1:List Int}(h0:KL.Small c)(h1:(lastE c (s:Int))=(0:Int))(h2:0≤c.sk∧c.sk≤c.sk∧c.sk≤1000000)(h3:0≤(s:Int)∧(s:Int)<((c.sk.toNat:Nat):Int))(h4:(s*1)<(List.replicate c.sk.toNat (intP 0)).length)(hl5:LoopOK Tryz.prog 0 zK6c0 (full_S0 c s (2:Int) c.sk.toNat ((List.replicate c.sk.toNat (intP 0)).set (s*1) (intP 1))) .ret (setS (full_S0 c s pl'0 free'1.length (free'1.map intP)) [(4,(.p nilS)),(5,(.p (intP 6)))])){base:Nat}:FV Tryz.prog 56 [(.p (cupP c)),(.p (intP (s:Int)))] base (.tup [(.p nilS),(.p (intP 6))]) []:=by
  exact FV.frz (FMM.fin (k:=0) (g:=⟨[],[],[],[]⟩) rfl Tryz.func56 rfl (o:=[.c (.tup [(.p (cupP c)),(.p (intP (lastE c (s:Int))))]) [],bF,.k 8 ⟨(rng [(0,3),(4,2),(7,1),(10,55)]),[1,2,3,4,5],[],[]⟩ .ret (setS (full_S0 c s pl'0 free'1.length (free'1.map intP)) [(4,(.p nilS)),(5,(.p (intP 6)))])]) (l:=[_,_,_,_,_,_]) (by kernel_rfl) (gc hl5.code (gc h4 (gc h3 (gc h2 (gc (q_neF h1) (gc (fk 2 (last_ok c h0 (s:Int)) rfl) gn))))))) (by kernel_rfl)
def full_S1(c:Cup)(s:Nat)(pl:Int)(free:List Int)(fo:Int):St:=⟨fr 66 [(3,(.ptr 0 0)),(6,(.ptr 1 0)),(8,(.ptr 3 0)),(9,(.ptr 4 0)),(10,(.ptr 5 0)),(28,(.p (intP pl))),(29,(.ptr 1 0)),(30,(.ptr 1 0)),(31,(.p (intP c.sk))),(32,(.p (blP (decide (pl≤c.sk))))),(35,(.p (cupP c))),(36,(.p (intP (s:Int)))),(37,(.fn 159 [] [(.rp [(intP c.sk),(intP c.ra),(intP c.be),(intsP c.pts),(rowsP c.done)] 0),(.rp [(intP (s:Int))] 0)]))],[some (.box 3 [(.p (intP (s:Int)))]),some (.box 120 [(.p (intP c.sk)),(.p (intP c.ra)),(.p (intP c.be)),(.p (intsP c.pts)),(.p (rowsP c.done))]),some (.row 3 free.length (free.map intP)),some (.box 22 [(.own 2)]),some (.box 3 [(.p (intP pl))]),some (.box 3 [(.p (intP fo))])]⟩
theorem full_L0_p0{c:Cup}{s:Nat}{pl:Int}{free:List Int}{fo'100:Int}(h0:pl≤c.sk)(hl1:CodeOK Tryz.prog 0 zK6c2 (full_S1 c s pl free (-1:Int)) .normal (full_S1 c s pl free fo'100))(h2:fo'100<(0:Int)):CodeOK Tryz.prog 0 zK6c0 (full_S0 c s pl free.length (free.map intP)) .ret (setS (full_S0 c s pl free.length (free.map intP)) [(4,(.p nilS)),(5,(.p (intP 6)))]):=by
  exact CodeOK.fin (g:=⟨(rng [(0,3),(7,1),(10,55)]),[0,1,2,3,4],[],[]⟩) (o:=[bT,.c (.fn 159 [] [(.rp [(intP c.sk),(intP c.ra),(intP c.be),(intsP c.pts),(rowsP c.done)] 0),(.rp [(intP (s:Int))] 0)]) [],.k 1 ⟨(rng [(0,3),(7,1),(11,17),(38,20)]),[0,1,2,3,4,5],[],[]⟩ .normal (full_S1 c s pl free fo'100),bT]) (l:=[_,CodeOK Tryz.prog 0 zK6c2 (full_S1 c s pl free (-1:Int)) .normal (full_S1 c s pl free fo'100),FC Tryz.prog 128 [(.p (cupP c)),(.p (intP (s:Int)))] [] 6 (.fn 159 [] [(.rp [(intP c.sk),(intP c.ra),(intP c.be),(intsP c.pts),(rowsP c.done)] 0),(.rp [(intP (s:Int))] 0)]) [],_]) (by kernel_rfl) (gc (q_lt h2) (gc hl1 (gc (others_fc c s) (gc (q_le h0) gn))))
theorem full_L0_p1{c:Cup}{s:Nat}{pl:Int}{free:List Int}{fo'100 x101 pl':Int}{free':List Int}(h0:pl≤c.sk)(hl1:CodeOK Tryz.prog 0 zK6c2 (full_S1 c s pl free (-1:Int)) .normal (full_S1 c s pl free fo'100))(h2:(0:Int)≤fo'100)(h3:free[fo'100.toNat]? = some x101)(h4:0≤fo'100)(h5:(fo'100.toNat*1)<(free.map intP).length)(h6:inR (pl+(1:Int)))(epl':pl'=(pl+(1:Int)))(efree'n:free'.length=free.length)(efree'c:free'.map intP=((free.map intP).set (fo'100.toNat*1) (intP pl))):CodeOK Tryz.prog 0 zK6c0 (full_S0 c s pl free.length (free.map intP)) .normal (full_S0 c s pl' free'.length (free'.map intP)):=by
  subst epl'
  have raw:CodeOK Tryz.prog 0 zK6c0 (full_S0 c s pl free.length (free.map intP)) .normal (full_S0 c s (pl+(1:Int)) free.length ((free.map intP).set (fo'100.toNat*1) (intP pl))):=CodeOK.fin (g:=⟨(rng [(0,3),(4,2),(7,1),(10,55)]),[0,1,2,3,6],[],[]⟩) (o:=[bT,.c (.fn 159 [] [(.rp [(intP c.sk),(intP c.ra),(intP c.be),(intsP c.pts),(rowsP c.done)] 0),(.rp [(intP (s:Int))] 0)]) [],.k 1 ⟨(rng [(0,3),(7,1),(11,17),(38,20)]),[0,1,2,3,4,5],[],[]⟩ .normal (full_S1 c s pl free fo'100),bF]) (l:=[_,_,_,_,CodeOK Tryz.prog 0 zK6c2 (full_S1 c s pl free (-1:Int)) .normal (full_S1 c s pl free fo'100),FC Tryz.prog 128 [(.p (cupP c)),(.p (intP (s:Int)))] [] 6 (.fn 159 [] [(.rp [(intP c.sk),(intP c.ra),(intP c.be),(intsP c.pts),(rowsP c.done)] 0),(.rp [(intP (s:Int))] 0)]) [],_]) (by kernel_rfl) (gc h6 (gc h5 (gc (ix_own (i:=fo'100) h4 h3) (gc (q_ltF h2) (gc hl1 (gc (others_fc c s) (gc (q_le h0) gn)))))))
  exact raw.cast (by rw [efree'n,efree'c])
theorem full_L0_p2{c:Cup}{s:Nat}{pl:Int}{free:List Int}(h0:c.sk<pl):CodeOK Tryz.prog 0 zK6c0 (full_S0 c s pl free.length (free.map intP)) (.exit 0) (full_S0 c s pl free.length (free.map intP)):=by
  exact CodeOK.fin (g:=⟨(rng [(0,3),(4,2),(7,1),(10,55)]),[0,1,2,3,4],[],[]⟩) (o:=[bF]) (l:=[_]) (by kernel_rfl) (gc (q_leF h0) gn)
theorem full_L1_p0{c:Cup}{s:Nat}{pl:Int}{free:List Int}{fo:Int}{x:Nat}{x200 fo':Int}(h0:fo<(0:Int))(h1:free[x]? = some x200)(h2:x200=(0:Int))(h3:beatsOK c x pl s (1:Int))(h4:(beatsM c x pl s (1:Int))=false)(efo':fo'=(x:Int)):CodeOK Tryz.prog 6 zK6c3 (rfS (full_S1 c s pl free fo) 38 39 11 (intP (x:Int))) .normal (full_S1 c s pl free fo'):=by
  subst efo'
  exact CodeOK.fin (g:=⟨(rng [(0,3),(7,1),(11,17),(38,20)]),[],[],[]⟩) (o:=[bT,bT,bT,bT,.x (intP x200),bT,bT,bT,bT,bT,bT,bT,.c (.p (blP (beatsM c x pl s (1:Int)))) [],bT,bT,bT]) (l:=[_,_,_,_,_,_,_,_,_,_,_,_,_,_,_,_,_]) (by kernel_rfl) (gc (q_not h4) (gc (q_eq h2) (gc (q_eq h2) (gc (fk 6 (beats_ok c x pl s (1:Int) h3) rfl) (gc (q_eq h2) (gc (q_eq h2) (gc (q_eq h2) (gc (q_eq h2) (gc (q_eq h2) (gc (q_lt h0) (gc (q_lt h0) (gc (atm intP h1) (gc (q_lt h0) (gc (ix_own (i:=(x:Int)) (Int.natCast_nonneg _) h1) (gc (q_lt h0) (gc (q_lt h0) (gc (q_lt h0) gn)))))))))))))))))
theorem full_L1_p1{c:Cup}{s:Nat}{pl:Int}{free:List Int}{fo:Int}{x:Nat}{x200:Int}(h0:fo<(0:Int))(h1:free[x]? = some x200)(h2:x200=(0:Int))(h3:beatsOK c x pl s (1:Int))(h4:(beatsM c x pl s (1:Int))=true):CodeOK Tryz.prog 6 zK6c3 (rfS (full_S1 c s pl free fo) 38 39 11 (intP (x:Int))) .normal (full_S1 c s pl free fo):=by
  exact CodeOK.fin (g:=⟨(rng [(0,3),(7,1),(11,17),(38,20)]),[],[],[]⟩) (o:=[bT,bT,bT,bT,.x (intP x200),bT,bT,bT,bT,bT,bT,bT,.c (.p (blP (beatsM c x pl s (1:Int)))) [],bT,bT,bF]) (l:=[_,_,_,_,_,_,_,_,_,_,_,_,_,_,_,_,_]) (by kernel_rfl) (gc (q_notF h4) (gc (q_eq h2) (gc (q_eq h2) (gc (fk 6 (beats_ok c x pl s (1:Int) h3) rfl) (gc (q_eq h2) (gc (q_eq h2) (gc (q_eq h2) (gc (q_eq h2) (gc (q_eq h2) (gc (q_lt h0) (gc (q_lt h0) (gc (atm intP h1) (gc (q_lt h0) (gc (ix_own (i:=(x:Int)) (Int.natCast_nonneg _) h1) (gc (q_lt h0) (gc (q_lt h0) (gc (q_lt h0) gn)))))))))))))))))
theorem full_L1_p2{c:Cup}{s:Nat}{pl:Int}{free:List Int}{fo:Int}{x:Nat}{x200:Int}(h0:fo<(0:Int))(h1:free[x]? = some x200)(h2:x200≠(0:Int)):CodeOK Tryz.prog 6 zK6c3 (rfS (full_S1 c s pl free fo) 38 39 11 (intP (x:Int))) .normal (full_S1 c s pl free fo):=by
  exact CodeOK.fin (g:=⟨(rng [(0,3),(7,1),(11,17),(38,20)]),[],[],[]⟩) (o:=[bT,bT,bT,bT,.x (intP x200),bT,bT,bF,bF,bF,bF,bF,bF,bF]) (l:=[_,_,_,_,_,_,_,_,_,_,_,_,_,_,_]) (by kernel_rfl) (gc (q_ne h2) (gc (q_ne h2) (gc (q_ne h2) (gc (q_ne h2) (gc (q_ne h2) (gc (q_ne h2) (gc (q_ne h2) (gc (q_lt h0) (gc (q_lt h0) (gc (atm intP h1) (gc (q_lt h0) (gc (ix_own (i:=(x:Int)) (Int.natCast_nonneg _) h1) (gc (q_lt h0) (gc (q_lt h0) (gc (q_lt h0) gn)))))))))))))))
theorem full_L1_p3{c:Cup}{s:Nat}{pl:Int}{free:List Int}{fo:Int}{x:Nat}(h0:(0:Int)≤fo):CodeOK Tryz.prog 6 zK6c3 (rfS (full_S1 c s pl free fo) 38 39 11 (intP (x:Int))) .normal (full_S1 c s pl free fo):=by
  exact CodeOK.fin (g:=⟨(rng [(0,3),(7,1),(11,17),(38,20)]),[],[],[]⟩) (o:=[bF,bF,bF,bF,bF,bF]) (l:=[_,_,_,_,_,_]) (by kernel_rfl) (gc (q_ltF h0) (gc (q_ltF h0) (gc (q_ltF h0) (gc (q_ltF h0) (gc (q_ltF h0) (gc (q_ltF h0) gn))))))
def findF(c:Cup)(s:Nat)(pl:Int)(free:List Int)(fo:Int)(x:Nat):Int:=if fo<0 then (if free.getD x 0=0 then (if beatsM c x pl s 1 then fo else (x:Int)) else fo) else fo
def findM(c:Cup)(s:Nat)(pl:Int)(free:List Int):Int:=(oth s c.sk.toNat).foldl (findF c s pl free) (-1)
theorem findF_bd{c:Cup}{s:Nat}{pl:Int}{free:List Int}{m:Int}:∀ (l:List Nat) (fo:Int),(∀ x∈l,(x:Int)<m)→(fo = -1∨0≤fo∧fo<m)→(l.foldl (findF c s pl free) fo = -1∨0≤l.foldl (findF c s pl free) fo∧l.foldl (findF c s pl free) fo<m)
  | [],_,_,h=>h
  | x::l,fo,hx,h=>by
    rw [List.foldl_cons]
    refine findF_bd l _ (fun y hy=>hx y (List.mem_cons_of_mem _ hy)) ?_
    have:=hx x (List.mem_cons_self ..)
    unfold findF
    repeat' split
    all_goals omega
theorem findM_bd(c:Cup)(s:Nat)(pl:Int)(free:List Int):findM c s pl free = -1∨0≤findM c s pl free∧findM c s pl free<c.sk:=findF_bd _ _ (fun x hx=>by have:=(oth_mem hx).1;omega) (.inl rfl)
def fullR(c:Cup)(s:Nat):Nat→Int→List Int→Option (List Int)
  | 0,_,free=>some free
  | n+1,pl,free=>if findM c s pl free<0 then none else fullR c s n (pl+1) (free.set (findM c s pl free).toNat pl)
def fullM(c:Cup)(s:Nat):Option (List Int):=fullR c s (c.sk.toNat-1) 2 ((List.replicate c.sk.toNat 0).set s 1)
theorem full_find(c:Cup)(s:Nat)(pl:Int)(free:List Int)(hV:KL.Valid c)(hl:free.length=c.sk.toNat)(h:∀ x:Nat,(x:Int)<c.sk→x≠s→beatsOK c x pl s 1) :
    CodeOK Tryz.prog 0 zK6c2 (full_S1 c s pl free (-1)) .normal (full_S1 c s pl free (findM c s pl free)):=by
  refine CodeOK.rangeAcc (P:=Tryz.prog) (kb:=6) (gi:=37) (gf:=159) (p1:=38) (p2:=39) (d:=11) (body:=sub (cd Tryz.f56) [1,1,1,1,1,0,1,0,0,1,0,0,1,0,1,0,1]) (g:=othA c s) (xs:=oth s c.sk.toNat) (fun x:Oth c s=>x.1) (full_S1 c s pl free) (full_S1 c s pl free 0).t
    (fun x => .int .i64 x.1) (fun x => .agg (formM c x.1)) (fun fo x=>findF c s pl free fo x.1) (-1) (fun _ _=>True) (fun ys=>ys.foldl (findF c s pl free) (-1))
    rfl (fun _=>rfl) rfl (others_itok c hV s) enters159 (fun acc i es cl h => ?_) (fun _=>Nat.le_refl _) (by kernel_rfl) (fun _=>rfl) trivial (fun _ _ _ _ _=>trivial) (fun i fo x hi hI => ?_) (fun ys=>by rw [List.foldl_map])
  · match i,h with
    | 0,h=>cases h
    | 1,h=>cases h
    | 2,h=>cases h
    | 3,h=>cases h
    | 4,h=>cases h
    | 5,h=>cases h
  · have hb:=h x.1 x.2.1 x.2.2
    have hx:=x.2.1
    have hg:free[x.1]? = some (free.getD x.1 0):=by
      rw [List.getElem?_eq_getElem (by omega),List.getD_eq_getElem?_getD,List.getElem?_eq_getElem (by omega)];rfl
    unfold findF
    by_cases h1:fo<0
    · rw [if_pos h1]
      by_cases h2:free.getD x.1 0=0
      · rw [if_pos h2]
        cases hm:beatsM c x.1 pl s 1 with
        | true=>exact full_L1_p1 h1 hg h2 hb hm
        | false=>exact full_L1_p0 h1 hg h2 hb hm rfl
      · rw [if_neg h2];exact full_L1_p2 h1 hg h2
    · rw [if_neg h1];exact full_L1_p3 (by omega)
theorem full_loop(c:Cup)(s:Nat)(hV:KL.Valid c)(hd:(c.done.length:Int)<c.ra)(hs:(s:Int)<c.sk):∀ (n:Nat) (pl:Int) (free:List Int),2≤pl→pl+n=c.sk+1→free.length=c.sk.toNat →
    (∃ f,fullR c s n pl free=some f∧LoopOK Tryz.prog 0 zK6c0 (full_S0 c s pl free.length (free.map intP)) (.exit 0) (full_S0 c s (c.sk+1) f.length (f.map intP))) ∨
    (fullR c s n pl free=none∧∃ (pl':Int) (f:List Int),LoopOK Tryz.prog 0 zK6c0 (full_S0 c s pl free.length (free.map intP)) .ret (setS (full_S0 c s pl' f.length (f.map intP)) [(4,.p nilS),(5,.p (intP 6))]))
  | 0,pl,free,h1,h2,h3=>by
    refine .inl ⟨free,rfl,?_⟩
    obtain rfl:pl=c.sk+1:=by omega
    exact .exit (full_L0_p2 (by omega)) (by simp)
  | n+1,pl,free,h1,h2,h3=>by
    have hq1:=hV.sk1
    have hq2:=hV.sk2
    have hf:=full_find c s pl free hV h3 (fun x hx hxs=>⟨hV,hd,hx,hs,by omega,by omega,by omega⟩)
    unfold fullR
    by_cases hn:findM c s pl free<0
    · rw [if_pos hn]
      exact .inr ⟨rfl,pl,free,.exit (full_L0_p0 (by omega) hf hn) (by simp)⟩
    · rw [if_neg hn]
      have hb:=findM_bd c s pl free
      have hi:(findM c s pl free).toNat<free.length:=by omega
      have st:=full_L0_p1 (free':=free.set (findM c s pl free).toNat pl) (by omega) hf (by omega) (List.getElem?_eq_getElem hi) (by omega) (by rw [Nat.mul_one,List.length_map];exact hi) (by unfold inR;omega) rfl (by simp) (by simp [List.map_set])
      rcases full_loop c s hV hd hs n (pl+1) (free.set (findM c s pl free).toNat pl) (by omega) (by omega) (by simpa using h3) with ⟨f,e,h⟩ | ⟨e,pl',f,h⟩
      · exact .inl ⟨f,e,.step st h⟩
      · exact .inr ⟨e,pl',f,.step st h⟩
theorem full_ok(c:Cup)(s:Nat)(h:lastE c (s:Int)=0){base:Nat}:FV Tryz.prog 56 [.p (cupP c),.p (intP (s:Int))] base (match fullM c s with | some f => .tup [.p (intsP f),.p (intP 0)] | none => .tup [.p nilS,.p (intP 6)]) []:=by
  obtain ⟨hV,hs0,hs,hra⟩:=lastE_zero h
  have h1:=hV.sk1
  have h2:=hV.sk2
  have hset:((List.replicate c.sk.toNat (intP 0)).set (s*1) (intP 1))=(((List.replicate c.sk.toNat 0).set s 1).map intP):=by simp [List.map_set]
  have hle:c.sk.toNat=((List.replicate c.sk.toNat (0:Int)).set s 1).length:=by simp
  have hss:(s*1)<(List.replicate c.sk.toNat (intP 0)).length:=by simp;omega
  unfold fullM
  rcases full_loop c s hV (by omega) hs (c.sk.toNat-1) 2 ((List.replicate c.sk.toNat 0).set s 1) (by omega) (by omega) (by simp) with ⟨f,e,hL⟩ | ⟨e,pl',f,hL⟩
  · rw [e]
    rw [← hset,← hle] at hL
    exact full_p1 hV.small h (by omega) (by omega) hss hL
  · rw [e]
    rw [← hset,← hle] at hL
    exact full_p2 hV.small h (by omega) (by omega) hss hL
theorem blk_p0{c:Cup}{s:Nat}{p:Int}{r0:Bool}(h0:KL.Valid c)(h1:∀ x:Nat,(x:Int)<c.sk→x≠s→beatsOK c x p s 1)(h2:inR (p-(1:Int)))(er0:r0=(decide ((harmM c s p)<(p-(1:Int))))){base:Nat}:FV Tryz.prog 130 [(.p (cupP c)),(.p (intP (s:Int))),(.p (intP p))] base (.p (blP r0)) []:=by
  subst er0
  exact FV.fin Tryz.func130 rfl (o:=[.c (.p (intP (harmM c s p))) []]) (l:=[_,_]) (by kernel_rfl) (gc h2 (gc (fk 1 (harm_ok c s p h0 h1) rfl) gn))
def blkM(c:Cup)(s:Nat)(p:Int):Bool:=decide (harmM c s p<p-1)
structure blkOK (c:Cup) (s:Nat) (p:Int):Prop where
  hv:KL.Valid c
  hd:(c.done.length:Int)<c.ra
  hs:(s:Int)<c.sk
  hp:2≤p∧p≤12
theorem blkOK.beats{c:Cup}{s:Nat}{p:Int}(h:blkOK c s p):∀ x:Nat,(x:Int)<c.sk→x≠s→beatsOK c x p s 1:=fun x hx _=>⟨h.hv,h.hd,hx,h.hs,by have:=h.hp;omega,by omega,by have:=h.hp;omega⟩
theorem blk_ok(c:Cup)(s:Nat)(p:Int)(h:blkOK c s p){base:Nat}:FV Tryz.prog 130 [.p (cupP c),.p (intP (s:Int)),.p (intP p)] base (.p (blP (blkM c s p))) [] :=
  blk_p0 h.hv h.beats (by have:=h.hp;unfold inR;omega) rfl
def block_S0(c:Cup)(s:Nat)(p:Int):St:=⟨fr 30 [(1,(.p (intP (s:Int)))),(6,(.ptr 0 0)),(8,(.p (intP p)))],[some (.box 120 [(.p (intP c.sk)),(.p (intP c.ra)),(.p (intP c.be)),(.p (intsP c.pts)),(.p (rowsP c.done))])]⟩
theorem block_p1{c:Cup}{s:Nat}{p'0:Int}(h0:KL.Small c)(h1:(lastE c (s:Int))=(0:Int))(hl2:LoopOK Tryz.prog 0 zK6c1 (block_S0 c s (2:Int)) (.exit 0) (block_S0 c s p'0)){base:Nat}:FV Tryz.prog 57 [(.p (cupP c)),(.p (intP (s:Int)))] base (.tup [(.p (intP 0)),(.p (intP 6))]) []:=by
  exact FV.fin Tryz.func57 rfl (o:=[.c (.tup [(.p (cupP c)),(.p (intP (lastE c (s:Int))))]) [],bF,.k 4 ⟨(rng [(0,1),(2,4),(7,1),(9,21)]),[1],[],[]⟩ (.exit 0) (block_S0 c s p'0)]) (l:=[_,_,_]) (by kernel_rfl) (gc hl2.code (gc (q_neF h1) (gc (fk 1 (last_ok c h0 (s:Int)) rfl) gn)))
theorem block_p2{c:Cup}{s:Nat}{p'0:Int}(h0:KL.Small c)(h1:(lastE c (s:Int))=(0:Int))(hl2:LoopOK Tryz.prog 0 zK6c1 (block_S0 c s (2:Int)) .ret (setS (block_S0 c s p'0) [(4,(.p (intP p'0))),(5,(.p (intP 0)))])){base:Nat}:FV Tryz.prog 57 [(.p (cupP c)),(.p (intP (s:Int)))] base (.tup [(.p (intP p'0)),(.p (intP 0))]) []:=by
  exact FV.fin Tryz.func57 rfl (o:=[.c (.tup [(.p (cupP c)),(.p (intP (lastE c (s:Int))))]) [],bF,.k 4 ⟨(rng [(0,1),(2,4),(7,1),(9,21)]),[1],[],[]⟩ .ret (setS (block_S0 c s p'0) [(4,(.p (intP p'0))),(5,(.p (intP 0)))])]) (l:=[_,_,_]) (by kernel_rfl) (gc hl2.code (gc (q_neF h1) (gc (fk 1 (last_ok c h0 (s:Int)) rfl) gn)))
theorem block_L0_p0{c:Cup}{s:Nat}{p:Int}(h0:p≤c.sk)(h1:blkOK c s p)(h2:(blkM c s p)=true):CodeOK Tryz.prog 0 zK6c1 (block_S0 c s p) .ret (setS (block_S0 c s p) [(4,(.p (intP p))),(5,(.p (intP 0)))]):=by
  exact CodeOK.fin (g:=⟨(rng [(0,1),(2,2),(7,1),(9,21)]),[0],[],[]⟩) (o:=[bT,.c (.p (blP (blkM c s p))) [],bT]) (l:=[_,_,_]) (by kernel_rfl) (gc h2 (gc (fk 1 (blk_ok c s p h1) rfl) (gc (q_le h0) gn)))
theorem block_L0_p1{c:Cup}{s:Nat}{p p':Int}(h0:p≤c.sk)(h1:blkOK c s p)(h2:(blkM c s p)=false)(h3:inR (p+(1:Int)))(ep':p'=(p+(1:Int))):CodeOK Tryz.prog 0 zK6c1 (block_S0 c s p) .normal (block_S0 c s p'):=by
  subst ep'
  exact CodeOK.fin (g:=⟨(rng [(0,1),(2,4),(7,1),(9,21)]),[0],[],[]⟩) (o:=[bT,.c (.p (blP (blkM c s p))) [],bF]) (l:=[_,_,_,_]) (by kernel_rfl) (gc h3 (gc h2 (gc (fk 1 (blk_ok c s p h1) rfl) (gc (q_le h0) gn))))
theorem block_L0_p2{c:Cup}{s:Nat}{p:Int}(h0:c.sk<p):CodeOK Tryz.prog 0 zK6c1 (block_S0 c s p) (.exit 0) (block_S0 c s p):=by
  exact CodeOK.fin (g:=⟨(rng [(0,1),(2,4),(7,1),(9,21)]),[0],[],[]⟩) (o:=[bF]) (l:=[_]) (by kernel_rfl) (gc (q_leF h0) gn)
theorem blocks_p1{c:Cup}{s:Nat}{p:Int}(h0:KL.Small c)(h1:(lastE c (s:Int))=(0:Int))(h2:(within p (2:Int) c.sk)=false){base:Nat}:FV Tryz.prog 58 [(.p (cupP c)),(.p (intP (s:Int))),(.p (intP p))] base (.tup [(.p (blP false)),(.p (intP 3))]) []:=by
  exact FV.fin Tryz.func58 rfl (o:=[.c (.tup [(.p (cupP c)),(.p (intP (lastE c (s:Int))))]) [],bF,.c (.p (blP (within p (2:Int) c.sk))) [],bT]) (l:=[_,_,_,_]) (by kernel_rfl) (gc (q_not h2) (gc (fk 2 (within_ok p (2:Int) c.sk) rfl) (gc (q_neF h1) (gc (fk 1 (last_ok c h0 (s:Int)) rfl) gn))))
theorem blocks_p2{c:Cup}{s:Nat}{p:Int}{r0:Bool}(h0:KL.Small c)(h1:(lastE c (s:Int))=(0:Int))(h2:(within p (2:Int) c.sk)=true)(h3:blkOK c s p)(er0:r0=(blkM c s p)){base:Nat}:FV Tryz.prog 58 [(.p (cupP c)),(.p (intP (s:Int))),(.p (intP p))] base (.tup [(.p (blP r0)),(.p (intP 0))]) []:=by
  subst er0
  exact FV.fin Tryz.func58 rfl (o:=[.c (.tup [(.p (cupP c)),(.p (intP (lastE c (s:Int))))]) [],bF,.c (.p (blP (within p (2:Int) c.sk))) [],bF,.c (.p (blP (blkM c s p))) []]) (l:=[_,_,_,_,_]) (by kernel_rfl) (gc (fk 2 (blk_ok c s p h3) rfl) (gc (q_notF h2) (gc (fk 2 (within_ok p (2:Int) c.sk) rfl) (gc (q_neF h1) (gc (fk 1 (last_ok c h0 (s:Int)) rfl) gn)))))
def blockR(c:Cup)(s:Nat):Nat→Int→Option Int
  | 0,_=>none
  | n+1,p=>if blkM c s p then some p else blockR c s n (p+1)
def blockM(c:Cup)(s:Nat):Option Int:=blockR c s (c.sk.toNat-1) 2
theorem block_loop(c:Cup)(s:Nat)(hV:KL.Valid c)(hd:(c.done.length:Int)<c.ra)(hs:(s:Int)<c.sk):∀ (n:Nat) (p:Int),2≤p→p+n=c.sk+1 →
    (∃ q,blockR c s n p=some q∧LoopOK Tryz.prog 0 zK6c1 (block_S0 c s p) .ret (setS (block_S0 c s q) [(4,.p (intP q)),(5,.p (intP 0))]))∨(blockR c s n p=none∧LoopOK Tryz.prog 0 zK6c1 (block_S0 c s p) (.exit 0) (block_S0 c s (c.sk+1)))
  | 0,p,h1,h2=>by
    obtain rfl:p=c.sk+1:=by omega
    exact .inr ⟨rfl,.exit (block_L0_p2 (by omega)) (by simp)⟩
  | n+1,p,h1,h2=>by
    have hq:=hV.sk2
    have hk:blkOK c s p:=⟨hV,hd,hs,by omega⟩
    unfold blockR
    cases hb:blkM c s p with
    | true=>exact .inl ⟨p,rfl,.exit (block_L0_p0 (by omega) hk hb) (by simp)⟩
    | false =>
      have st:=block_L0_p1 (by omega) hk hb (by unfold inR;omega) rfl
      rcases block_loop c s hV hd hs n (p+1) (by omega) (by omega) with ⟨q,e,h⟩ | ⟨e,h⟩
      · exact .inl ⟨q,e,.step st h⟩
      · exact .inr ⟨e,.step st h⟩
theorem block_ok(c:Cup)(s:Nat)(h:lastE c (s:Int)=0){base:Nat}:FV Tryz.prog 57 [.p (cupP c),.p (intP (s:Int))] base (match blockM c s with | some q => .tup [.p (intP q),.p (intP 0)] | none => .tup [.p (intP 0),.p (intP 6)]) []:=by
  obtain ⟨hV,hs0,hs,hra⟩:=lastE_zero h
  have h1:=hV.sk1
  unfold blockM
  rcases block_loop c s hV (by omega) hs (c.sk.toNat-1) 2 (by omega) (by omega) with ⟨q,e,hL⟩ | ⟨e,hL⟩
  · rw [e];exact block_p2 hV.small h hL
  · rw [e];exact block_p1 hV.small h hL
theorem blocks_ok(c:Cup)(s:Nat)(p:Int)(h:lastE c (s:Int)=0){base:Nat}:FV Tryz.prog 58 [.p (cupP c),.p (intP (s:Int)),.p (intP p)] base (if within p 2 c.sk=true then .tup [.p (blP (blkM c s p)),.p (intP 0)] else .tup [.p (blP false),.p (intP 3)]) []:=by
  obtain ⟨hV,hs0,hs,hra⟩:=lastE_zero h
  have h2:=hV.sk2
  cases hw:within p 2 c.sk with
  | true =>
    obtain ⟨q1,q2⟩:=within_iff.1 hw
    rw [if_pos rfl]
    exact blocks_p2 hV.small h hw ⟨hV,by omega,hs,by omega⟩ rfl
  | false=>rw [if_neg (by simp)];exact blocks_p1 hV.small h hw
end
section
open KL
theorem named_in{c:Cup}{k:Int}(hV:KL.Valid c)(h1:0≤k)(h2:k<c.sk):namedE c k=0:=by
  unfold namedE
  rw [if_neg (by simpa using (KL.valid_iff c).2 hV),within_iff.2 ⟨h1,by omega⟩]
  simp
def scoreL(c:Cup)(race:List Int):List Int:=(List.range c.sk.toNat).map fun s=>scoreM c.pts race s
end
section
open KL
def u32w(z:Int):Int:=IntKind.wrap .u32 z
def drawB(l:List Int)(nx:Int):Int:=u32w (l.getD (nx.tmod (l.length:Int)).toNat 0)
def drawS(l:List Int)(nx st:Int):Int:=(u32w (u32w (u32w (u32w (st*45)+drawB l nx)+u32w (77*u32w (nx.tdiv (l.length:Int))))+1)).tmod 65519
def drawM(n:Int)(l:List Int)(nx st:Int):Int × Int × Int:=if n≤1∨l.length=0 then (0,nx,st) else
  (if u32w (nx.tdiv (l.length:Int))=0∧n≤256 then (drawB l nx).tmod n else (u32w (u32w (drawS l nx st*256)+drawB l nx)).tmod n,nx+1,drawS l nx st)
def coinM(n:Int)(l:List Int)(nx st:Int):Bool × Int × Int:=((drawM n l nx st).1 == 0,(drawM n l nx st).2)
def swapL(o:List Int)(i k:Nat):List Int:=(o.set i (o.getD k 0)).set k (o.getD i 0)
def shufR(l:List Int):Nat→List Int→Int→Int→List Int × Int × Int
  | 0,o,nx,st=>(o,nx,st)
  | j+1,o,nx,st=>shufR l j (swapL o (j+1) (drawM ((j:Int)+1+1) l nx st).1.toNat) (drawM ((j:Int)+1+1) l nx st).2.1 (drawM ((j:Int)+1+1) l nx st).2.2
def upL(n:Nat):List Int:=(List.range n).map fun (i:Nat)=>(i:Int)
def shufM(n:Int)(l:List Int)(nx st:Int):List Int × Int × Int:=shufR l (n.toNat-1) (upL n.toNat) nx st
end
end KV
end Go.Proofs
section
namespace Go.Proofs
namespace KL

structure RInv (ord:List Int) (n i:Nat) (o:List Int) (pl:Int) (la:List Int):Prop where
  len:o.length=n
  p1:1≤pl
  p2:pl≤1+3*(i:Int)
  nn:∀ x∈o,0≤x
  zero:∀ (j:Nat) (x:Int),i≤j→ord[j]? = some x→o.getD x.toNat 0=0
  cl:∀ p∈o,p≠0→p+(o.count p:Nat)≤pl∧∀ q∈o,p<q→p+(o.count p:Nat)≤q
  lst:∀ (y:Int) (r:List Int),la=y::r→0≤y∧y.toNat<n∧1≤o.getD y.toNat 0∧o.getD y.toNat 0+(o.count (o.getD y.toNat 0):Nat)=pl
  ll:la.length≤i

theorem count_pos'{o:List Int}{p:Int}(h:p∈o):1≤o.count p:=List.count_pos_iff.2 h
theorem count_setZ{o:List Int}{k:Nat}{a p:Int}(hk:k<o.length)(h0:o.getD k 0=0)(hp:p≠0):(o.set k a).count p=o.count p+if a=p then 1 else 0:=by
  have hg:o[k]=0:=by rw [List.getD_eq_getElem?_getD,List.getElem?_eq_getElem hk] at h0;exact h0
  rw [List.count_set hk,hg]
  have:((0:Int) == p)=false:=by simpa using fun h=>hp h.symm
  rw [this]
  by_cases h:a=p
  · subst h;simp
  · have h':(a == p)=false:=by simpa using h
    rw [h',if_neg h];simp
theorem mem_set'{o:List Int}{k:Nat}{a x:Int}(h:x∈o.set k a):x∈o∨x=a:=List.mem_or_eq_of_mem_set h
theorem getD_set'{o:List Int}{k j:Nat}{a:Int}(hk:k<o.length):(o.set k a).getD j 0=if k=j then a else o.getD j 0:=by
  rw [List.getD_eq_getElem?_getD,List.getElem?_set]
  by_cases h:k=j
  · subst h;rw [if_pos rfl,if_pos rfl,if_pos hk];rfl
  · rw [if_neg h,if_neg h,List.getD_eq_getElem?_getD]

variable {ord:List Int} {n i:Nat} {o:List Int} {pl:Int} {la:List Int}
theorem RInv.skip(h:RInv ord n i o pl la):RInv ord n (i+1) o pl la :=
  ⟨h.len,h.p1,by have:=h.p2;omega,h.nn,fun j x hj hx=>h.zero j x (by omega) hx,h.cl,h.lst,by have:=h.ll;omega⟩

theorem ord_ne{x y:Int}{j:Nat}(hnd:ord.Nodup)(hin:∀ x∈ord,0≤x)(hx:ord[i]? = some x)(hy:ord[j]? = some y)(hj:i<j):x.toNat≠y.toNat:=fun e=>by
  have h1:=hin x (List.mem_of_getElem? hx)
  have h2:=hin y (List.mem_of_getElem? hy)
  have h3:x=y:=by omega
  subst h3
  obtain ⟨hi,e1⟩:=List.getElem?_eq_some_iff.1 hx
  obtain ⟨hj',e2⟩:=List.getElem?_eq_some_iff.1 hy
  exact List.pairwise_iff_getElem.1 hnd i j hi hj' hj (e1.trans e2.symm)

theorem RInv.new(h:RInv ord n i o pl la)(hnd:ord.Nodup)(hin:∀ x∈ord,0≤x∧x.toNat<n){x d:Int}(hx:ord[i]? = some x)(hd:0≤d∧d≤2):RInv ord n (i+1) (o.set x.toNat (pl+d)) (pl+d+1) [x]:=by
  obtain ⟨x0,x1⟩:=hin x (List.mem_of_getElem? hx)
  have hp1:=h.p1
  have hk:x.toNat<o.length:=by rw [h.len];exact x1
  have hz:=h.zero i x (Nat.le_refl _) hx
  have hno:pl+d∉o:=fun hm=>by
    have:=(h.cl _ hm (by omega)).1
    have:=count_pos' hm
    omega
  have hcq:(o.set x.toNat (pl+d)).count (pl+d)=1:=by
    rw [count_setZ hk hz (by omega),if_pos rfl,List.count_eq_zero.2 hno]
  have hco:∀ p,p≠0→p≠pl+d→(o.set x.toNat (pl+d)).count p=o.count p:=fun p h0 h1=>by
    rw [count_setZ hk hz h0,if_neg (fun e=>h1 e.symm)];rfl
  refine ⟨by simpa using h.len,by omega,by have:=h.p2;omega,fun y hy => ?_,fun j y hj hy => ?_,fun p hp h0 => ?_,fun y r e => ?_,by simp⟩
  · rcases mem_set' hy with hm | rfl
    · exact h.nn _ hm
    · omega
  · rw [getD_set' hk,if_neg (ord_ne hnd (fun x hx=>(hin x hx).1) hx hy (by omega))]
    exact h.zero j y (by omega) hy
  · by_cases he:p=pl+d
    · subst he
      rw [hcq]
      refine ⟨by omega,fun q hq hlt => ?_⟩
      rcases mem_set' hq with hm | rfl
      · have:=(h.cl _ hm (by omega)).1
        have:=count_pos' hm
        omega
      · omega
    · rw [hco p h0 he]
      have hm:p∈o:=by
        rcases mem_set' hp with hm | e
        · exact hm
        · exact absurd e he
      obtain ⟨q1,q2⟩:=h.cl p hm h0
      refine ⟨by omega,fun q hq hlt => ?_⟩
      rcases mem_set' hq with hm2 | rfl
      · exact q2 q hm2 hlt
      · omega
  · cases e
    rw [getD_set' hk,if_pos rfl,hcq]
    exact ⟨x0,x1,by omega,by omega⟩

structure RaceOK (n:Nat) (race:List Int):Prop where
  len:race.length=n
  bd:∀ x∈race,0≤x∧x≤60
  cl:NoClash race
theorem RInv.race(h:RInv ord n i o pl la)(hi:i≤15):RaceOK n o:=by
  have hp2:=h.p2
  refine ⟨h.len,fun x hx=>⟨h.nn x hx,?_⟩,fun p hp h0 => ?_⟩
  · by_cases h0:x=0
    · omega
    · have:=(h.cl x hx h0).1;omega
  · obtain ⟨q1,q2⟩:=h.cl p hp h0
    exact ⟨by omega,q2⟩
end KL
end Go.Proofs
end
namespace Go.Proofs
namespace KV
section
open KL
end
section
open KL
theorem FMM.kb{P:Program}{f:Nat}{a b r:AV}{x:Bool}{M M':Mem}(h:FMM P f [a,b,.p (blP x)] M r M'):FMM P f [a,b,.kb x] M r M':=fun C w us hus hM n=>h C w us (by
  cases hus with
  | cons _ _ u us h1 h2 =>
    cases h2 with
    | cons _ _ u2 us2 h3 h4 =>
      cases h4 with
      | cons _ _ u3 us3 h5 h6 =>
        cases h5
        exact .cons _ _ _ _ h1 (.cons _ _ _ _ h3 (.cons _ _ _ _ (.p _ _ (.v _)) h6))) hM n
structure PInv (i:Nat) (pts:List Int) (pa:Int):Prop where
  len:pts.length=i
  pa1:0≤pa∧pa≤40
  bd:∀ x∈pts,pa≤x∧x≤40
  pw:pts.Pairwise (fun a b=>b≤a)
theorem PInv.next{i:Nat}{pts:List Int}{pa pa':Int}(h:PInv i pts pa)(h1:0≤pa')(h2:pa'≤pa):PInv (i+1) (pts++[pa]) pa':=by
  have:=h.pa1
  refine ⟨by simp [h.len],⟨h1,by omega⟩,fun x hx => ?_,List.pairwise_append.2 ⟨h.pw,by simp,fun a ha b hb => ?_⟩⟩
  · rcases List.mem_append.1 hx with hx | hx
    · have:=h.bd x hx;omega
    · simp at hx;omega
  · simp at hb;subst hb;exact (h.bd a ha).1
end
section
open KL
end
section
open KL
noncomputable abbrev zL5c0:Code:=sub (cd Tryz.f25) [1,1,0,1,0,0]
noncomputable abbrev zL5c1:Code:=sub (cd Tryz.f39) [1,1,0,1,0,0]
noncomputable abbrev zL5c2:Code:=sub (cd Tryz.f87) [1,1,0,1,0,0]
def eqi_S0(a:List Int)(b:List Int)(i:Nat):St:=⟨fr 26 [(0,(.p (intsP a))),(1,(.p (intsP b))),(12,(.p (intP (a.length:Int)))),(13,(.p (intP (i:Int))))],[]⟩
theorem eqi_p0{a b:List Int}(h0:(a.length:Int)≠(b.length:Int)){base:Nat}:FV Tryz.prog 25 [(.p (intsP a)),(.p (intsP b))] base (.p (blP false)) []:=by
  exact FV.fin Tryz.func25 rfl (o:=[bT]) (l:=[_]) (by kernel_rfl) (gc (q_neT h0) gn)
theorem eqi_p1{a b:List Int}{i'0:Nat}(h0:(a.length:Int)=(b.length:Int))(hl1:LoopOK Tryz.prog 0 zL5c0 (eqi_S0 a b 0) (.exit 0) (eqi_S0 a b i'0)){base:Nat}:FV Tryz.prog 25 [(.p (intsP a)),(.p (intsP b))] base (.p (blP true)) []:=by
  exact FV.fin Tryz.func25 rfl (o:=[bF,.k 4 ⟨(rng [(2,10),(14,12)]),[],[],[]⟩ (.exit 0) (eqi_S0 a b i'0)]) (l:=[_,_]) (by kernel_rfl) (gc hl1.code (gc (q_neF h0) gn))
theorem eqi_p2{a b:List Int}{i'0:Nat}(h0:(a.length:Int)=(b.length:Int))(hl1:LoopOK Tryz.prog 0 zL5c0 (eqi_S0 a b 0) .ret (setS (eqi_S0 a b i'0) [(4,(.kb false))])){base:Nat}:FV Tryz.prog 25 [(.p (intsP a)),(.p (intsP b))] base (.p (blP false)) []:=by
  exact FV.fin Tryz.func25 rfl (o:=[bF,.k 4 ⟨(rng [(2,10),(14,12)]),[],[],[]⟩ .ret (setS (eqi_S0 a b i'0) [(4,(.kb false))])]) (l:=[_,_]) (by kernel_rfl) (gc hl1.code (gc (q_neF h0) gn))
theorem eqi_L0_p0{a b:List Int}{i:Nat}{x100 x101:Int}(h0:(i:Int)<(a.length:Int))(h1:a[i]? = some x100)(h2:b[i]? = some x101)(h3:x100≠x101):CodeOK Tryz.prog 0 zL5c0 (eqi_S0 a b i) .ret (setS (eqi_S0 a b i) [(4,(.kb false))]):=by
  exact CodeOK.fin (g:=⟨(rng [(2,2),(5,7),(14,12)]),[],[],[]⟩) (o:=[bT,.x (intP x100),.x (intP x101),bT]) (l:=[_,_,_,_,_,_]) (by kernel_rfl) (gc (q_neT h3) (gc (atm intP h2) (gc (ixn intP h2) (gc (atm intP h1) (gc (ixn intP h1) (gc (q_lt h0) gn))))))
theorem eqi_L0_p1{a b:List Int}{i:Nat}{x100 x101:Int}{i':Nat}(h0:(i:Int)<(a.length:Int))(h1:a[i]? = some x100)(h2:b[i]? = some x101)(h3:x100=x101)(h4:inR (((i+1):Nat):Int))(ei':i'=(i+1)):CodeOK Tryz.prog 0 zL5c0 (eqi_S0 a b i) .normal (eqi_S0 a b i'):=by
  subst ei'
  exact CodeOK.fin (g:=⟨(rng [(2,10),(14,12)]),[],[],[]⟩) (o:=[bT,.x (intP x100),.x (intP x101),bF]) (l:=[_,_,_,_,_,_,_]) (by kernel_rfl) (gc h4 (gc (q_neF h3) (gc (atm intP h2) (gc (ixn intP h2) (gc (atm intP h1) (gc (ixn intP h1) (gc (q_lt h0) gn)))))))
theorem eqi_L0_p2{a b:List Int}{i:Nat}(h0:(a.length:Int)≤(i:Int)):CodeOK Tryz.prog 0 zL5c0 (eqi_S0 a b i) (.exit 0) (eqi_S0 a b i):=by
  exact CodeOK.fin (g:=⟨(rng [(2,10),(14,12)]),[],[],[]⟩) (o:=[bF]) (l:=[_]) (by kernel_rfl) (gc (q_ltF h0) gn)
def eql_S0(a:List (List Int))(b:List (List Int))(i:Nat):St:=⟨fr 26 [(0,(.p (.sl a.length (a.flatten.map intP)))),(1,(.p (.sl b.length (b.flatten.map intP)))),(12,(.p (intP (a.length:Int)))),(13,(.p (intP (i:Int))))],[]⟩
theorem eql_p0{a b:List (List Int)}(h0:(a.length:Int)≠(b.length:Int)){base:Nat}:FV Tryz.prog 39 [(.p (.sl a.length (a.flatten.map intP))),(.p (.sl b.length (b.flatten.map intP)))] base (.p (blP false)) []:=by
  exact FV.fin Tryz.func39 rfl (o:=[bT]) (l:=[_]) (by kernel_rfl) (gc (q_neT h0) gn)
theorem eql_p1{a b:List (List Int)}{i'0:Nat}(h0:(a.length:Int)=(b.length:Int))(hl1:LoopOK Tryz.prog 0 zL5c1 (eql_S0 a b 0) (.exit 0) (eql_S0 a b i'0)){base:Nat}:FV Tryz.prog 39 [(.p (.sl a.length (a.flatten.map intP))),(.p (.sl b.length (b.flatten.map intP)))] base (.p (blP true)) []:=by
  exact FV.fin Tryz.func39 rfl (o:=[bF,.k 4 ⟨(rng [(2,10),(14,12)]),[],[],[]⟩ (.exit 0) (eql_S0 a b i'0)]) (l:=[_,_]) (by kernel_rfl) (gc hl1.code (gc (q_neF h0) gn))
theorem eql_p2{a b:List (List Int)}{i'0:Nat}(h0:(a.length:Int)=(b.length:Int))(hl1:LoopOK Tryz.prog 0 zL5c1 (eql_S0 a b 0) .ret (setS (eql_S0 a b i'0) [(4,(.kb false))])){base:Nat}:FV Tryz.prog 39 [(.p (.sl a.length (a.flatten.map intP))),(.p (.sl b.length (b.flatten.map intP)))] base (.p (blP false)) []:=by
  exact FV.fin Tryz.func39 rfl (o:=[bF,.k 4 ⟨(rng [(2,10),(14,12)]),[],[],[]⟩ .ret (setS (eql_S0 a b i'0) [(4,(.kb false))])]) (l:=[_,_]) (by kernel_rfl) (gc hl1.code (gc (q_neF h0) gn))
theorem eql_L0_p0{a b:List (List Int)}{i:Nat}{y100 y101 y102 y103 y104 y105 y106 y107:Int}(h0:(i:Int)<(a.length:Int))(h1:a[i]? = some [y100,y101,y102,y103])(h2:uni 4 a)(h3:b[i]? = some [y104,y105,y106,y107])(h4:uni 4 b)(h5:intsOK [(intP y100),(intP y101),(intP y102),(intP y103)] [(0,3,true),(1,3,true),(2,3,true),(3,3,true)]=true∧intsOK [(intP y104),(intP y105),(intP y106),(intP y107)] [(0,3,true),(1,3,true),(2,3,true),(3,3,true)]=true)(h6:(eqFs [(intP y100),(intP y101),(intP y102),(intP y103)] [(intP y104),(intP y105),(intP y106),(intP y107)] [(0,3,true),(1,3,true),(2,3,true),(3,3,true)])=false):CodeOK Tryz.prog 0 zL5c1 (eql_S0 a b i) .ret (setS (eql_S0 a b i) [(4,(.kb false))]):=by
  exact CodeOK.fin (g:=⟨(rng [(2,2),(5,7),(14,12)]),[],[],[]⟩) (o:=[bT,.x (.agg [(intP y100),(intP y101),(intP y102),(intP y103)]),.x (.agg [(intP y104),(intP y105),(intP y106),(intP y107)]),bT]) (l:=[_,_,_,_,0≤(i:Int)∧(i:Int)<(b.length:Int)∧(i*4)<(b.flatten.map intP).length,_,_,0≤(i:Int)∧(i:Int)<(a.length:Int)∧(i*4)<(a.flatten.map intP).length,_]) (by kernel_rfl) (gc (q_not h6) (gc h5 (gc (fl_load (i:=i) h4 h3) (gc (fl_le (i:=i) h4 h3) (gc (ix_fl (k:=4) (i:=(i:Int)) (by decide) h4 (Int.natCast_nonneg _) h3) (gc (fl_load (i:=i) h2 h1) (gc (fl_le (i:=i) h2 h1) (gc (ix_fl (k:=4) (i:=(i:Int)) (by decide) h2 (Int.natCast_nonneg _) h1) (gc (q_lt h0) gn)))))))))
theorem eql_L0_p1{a b:List (List Int)}{i:Nat}{y100 y101 y102 y103 y104 y105 y106 y107:Int}{i':Nat}(h0:(i:Int)<(a.length:Int))(h1:a[i]? = some [y100,y101,y102,y103])(h2:uni 4 a)(h3:b[i]? = some [y104,y105,y106,y107])(h4:uni 4 b)(h5:intsOK [(intP y100),(intP y101),(intP y102),(intP y103)] [(0,3,true),(1,3,true),(2,3,true),(3,3,true)]=true∧intsOK [(intP y104),(intP y105),(intP y106),(intP y107)] [(0,3,true),(1,3,true),(2,3,true),(3,3,true)]=true)(h6:(eqFs [(intP y100),(intP y101),(intP y102),(intP y103)] [(intP y104),(intP y105),(intP y106),(intP y107)] [(0,3,true),(1,3,true),(2,3,true),(3,3,true)])=true)(h7:inR (((i+1):Nat):Int))(ei':i'=(i+1)):CodeOK Tryz.prog 0 zL5c1 (eql_S0 a b i) .normal (eql_S0 a b i'):=by
  subst ei'
  exact CodeOK.fin (g:=⟨(rng [(2,10),(14,12)]),[],[],[]⟩) (o:=[bT,.x (.agg [(intP y100),(intP y101),(intP y102),(intP y103)]),.x (.agg [(intP y104),(intP y105),(intP y106),(intP y107)]),bF]) (l:=[_,_,_,_,_,0≤(i:Int)∧(i:Int)<(b.length:Int)∧(i*4)<(b.flatten.map intP).length,_,_,0≤(i:Int)∧(i:Int)<(a.length:Int)∧(i*4)<(a.flatten.map intP).length,_]) (by kernel_rfl) (gc h7 (gc (q_notF h6) (gc h5 (gc (fl_load (i:=i) h4 h3) (gc (fl_le (i:=i) h4 h3) (gc (ix_fl (k:=4) (i:=(i:Int)) (by decide) h4 (Int.natCast_nonneg _) h3) (gc (fl_load (i:=i) h2 h1) (gc (fl_le (i:=i) h2 h1) (gc (ix_fl (k:=4) (i:=(i:Int)) (by decide) h2 (Int.natCast_nonneg _) h1) (gc (q_lt h0) gn))))))))))
theorem eql_L0_p2{a b:List (List Int)}{i:Nat}(h0:(a.length:Int)≤(i:Int)):CodeOK Tryz.prog 0 zL5c1 (eql_S0 a b i) (.exit 0) (eql_S0 a b i):=by
  exact CodeOK.fin (g:=⟨(rng [(2,10),(14,12)]),[],[],[]⟩) (o:=[bF]) (l:=[_]) (by kernel_rfl) (gc (q_ltF h0) gn)
def eqn_S0(a:List (List Int))(b:List (List Int))(i:Nat):St:=⟨fr 26 [(0,(.p (.sl a.length (a.flatten.map intP)))),(1,(.p (.sl b.length (b.flatten.map intP)))),(12,(.p (intP (a.length:Int)))),(13,(.p (intP (i:Int))))],[]⟩
theorem eqn_p0{a b:List (List Int)}(h0:(a.length:Int)≠(b.length:Int)){base:Nat}:FV Tryz.prog 87 [(.p (.sl a.length (a.flatten.map intP))),(.p (.sl b.length (b.flatten.map intP)))] base (.p (blP false)) []:=by
  exact FV.fin Tryz.func87 rfl (o:=[bT]) (l:=[_]) (by kernel_rfl) (gc (q_neT h0) gn)
theorem eqn_p1{a b:List (List Int)}{i'0:Nat}(h0:(a.length:Int)=(b.length:Int))(hl1:LoopOK Tryz.prog 0 zL5c2 (eqn_S0 a b 0) (.exit 0) (eqn_S0 a b i'0)){base:Nat}:FV Tryz.prog 87 [(.p (.sl a.length (a.flatten.map intP))),(.p (.sl b.length (b.flatten.map intP)))] base (.p (blP true)) []:=by
  exact FV.fin Tryz.func87 rfl (o:=[bF,.k 4 ⟨(rng [(2,10),(14,12)]),[],[],[]⟩ (.exit 0) (eqn_S0 a b i'0)]) (l:=[_,_]) (by kernel_rfl) (gc hl1.code (gc (q_neF h0) gn))
theorem eqn_p2{a b:List (List Int)}{i'0:Nat}(h0:(a.length:Int)=(b.length:Int))(hl1:LoopOK Tryz.prog 0 zL5c2 (eqn_S0 a b 0) .ret (setS (eqn_S0 a b i'0) [(4,(.kb false))])){base:Nat}:FV Tryz.prog 87 [(.p (.sl a.length (a.flatten.map intP))),(.p (.sl b.length (b.flatten.map intP)))] base (.p (blP false)) []:=by
  exact FV.fin Tryz.func87 rfl (o:=[bF,.k 4 ⟨(rng [(2,10),(14,12)]),[],[],[]⟩ .ret (setS (eqn_S0 a b i'0) [(4,(.kb false))])]) (l:=[_,_]) (by kernel_rfl) (gc hl1.code (gc (q_neF h0) gn))
theorem eqn_L0_p0{a b:List (List Int)}{i:Nat}{y100 y101 y102 y103 y104 y105 y106 y107:Int}(h0:(i:Int)<(a.length:Int))(h1:a[i]? = some [y100,y101,y102,y103])(h2:uni 4 a)(h3:b[i]? = some [y104,y105,y106,y107])(h4:uni 4 b)(h5:intsOK [(intP y100),(intP y101),(intP y102),(intP y103)] [(0,3,true),(1,3,true),(2,3,true),(3,3,true)]=true∧intsOK [(intP y104),(intP y105),(intP y106),(intP y107)] [(0,3,true),(1,3,true),(2,3,true),(3,3,true)]=true)(h6:(eqFs [(intP y100),(intP y101),(intP y102),(intP y103)] [(intP y104),(intP y105),(intP y106),(intP y107)] [(0,3,true),(1,3,true),(2,3,true),(3,3,true)])=false):CodeOK Tryz.prog 0 zL5c2 (eqn_S0 a b i) .ret (setS (eqn_S0 a b i) [(4,(.kb false))]):=by
  exact CodeOK.fin (g:=⟨(rng [(2,2),(5,7),(14,12)]),[],[],[]⟩) (o:=[bT,.x (.agg [(intP y100),(intP y101),(intP y102),(intP y103)]),.x (.agg [(intP y104),(intP y105),(intP y106),(intP y107)]),bT]) (l:=[_,_,_,_,0≤(i:Int)∧(i:Int)<(b.length:Int)∧(i*4)<(b.flatten.map intP).length,_,_,0≤(i:Int)∧(i:Int)<(a.length:Int)∧(i*4)<(a.flatten.map intP).length,_]) (by kernel_rfl) (gc (q_not h6) (gc h5 (gc (fl_load (i:=i) h4 h3) (gc (fl_le (i:=i) h4 h3) (gc (ix_fl (k:=4) (i:=(i:Int)) (by decide) h4 (Int.natCast_nonneg _) h3) (gc (fl_load (i:=i) h2 h1) (gc (fl_le (i:=i) h2 h1) (gc (ix_fl (k:=4) (i:=(i:Int)) (by decide) h2 (Int.natCast_nonneg _) h1) (gc (q_lt h0) gn)))))))))
theorem eqn_L0_p1{a b:List (List Int)}{i:Nat}{y100 y101 y102 y103 y104 y105 y106 y107:Int}{i':Nat}(h0:(i:Int)<(a.length:Int))(h1:a[i]? = some [y100,y101,y102,y103])(h2:uni 4 a)(h3:b[i]? = some [y104,y105,y106,y107])(h4:uni 4 b)(h5:intsOK [(intP y100),(intP y101),(intP y102),(intP y103)] [(0,3,true),(1,3,true),(2,3,true),(3,3,true)]=true∧intsOK [(intP y104),(intP y105),(intP y106),(intP y107)] [(0,3,true),(1,3,true),(2,3,true),(3,3,true)]=true)(h6:(eqFs [(intP y100),(intP y101),(intP y102),(intP y103)] [(intP y104),(intP y105),(intP y106),(intP y107)] [(0,3,true),(1,3,true),(2,3,true),(3,3,true)])=true)(h7:inR (((i+1):Nat):Int))(ei':i'=(i+1)):CodeOK Tryz.prog 0 zL5c2 (eqn_S0 a b i) .normal (eqn_S0 a b i'):=by
  subst ei'
  exact CodeOK.fin (g:=⟨(rng [(2,10),(14,12)]),[],[],[]⟩) (o:=[bT,.x (.agg [(intP y100),(intP y101),(intP y102),(intP y103)]),.x (.agg [(intP y104),(intP y105),(intP y106),(intP y107)]),bF]) (l:=[_,_,_,_,_,0≤(i:Int)∧(i:Int)<(b.length:Int)∧(i*4)<(b.flatten.map intP).length,_,_,0≤(i:Int)∧(i:Int)<(a.length:Int)∧(i*4)<(a.flatten.map intP).length,_]) (by kernel_rfl) (gc h7 (gc (q_notF h6) (gc h5 (gc (fl_load (i:=i) h4 h3) (gc (fl_le (i:=i) h4 h3) (gc (ix_fl (k:=4) (i:=(i:Int)) (by decide) h4 (Int.natCast_nonneg _) h3) (gc (fl_load (i:=i) h2 h1) (gc (fl_le (i:=i) h2 h1) (gc (ix_fl (k:=4) (i:=(i:Int)) (by decide) h2 (Int.natCast_nonneg _) h1) (gc (q_lt h0) gn))))))))))
theorem eqn_L0_p2{a b:List (List Int)}{i:Nat}(h0:(a.length:Int)≤(i:Int)):CodeOK Tryz.prog 0 zL5c2 (eqn_S0 a b i) (.exit 0) (eqn_S0 a b i):=by
  exact CodeOK.fin (g:=⟨(rng [(2,10),(14,12)]),[],[],[]⟩) (o:=[bF]) (l:=[_]) (by kernel_rfl) (gc (q_ltF h0) gn)
theorem eqi_ok(a b:List Int)(ha:a.length≤100000){base:Nat}:FV Tryz.prog 25 [.p (intsP a),.p (intsP b)] base (.p (blP (decide (a=b)))) []:=by
  by_cases hl:a.length=b.length
  · have at':∀ (l:List Int) (j:Nat),j<l.length→l[j]? = some (l.getD j 0):=fun l j hj=>by
      rw [List.getElem?_eq_getElem hj,List.getD_eq_getElem?_getD,List.getElem?_eq_getElem hj];rfl
    rcases LoopOK.find (P:=Tryz.prog) (k:=0) (b:=zL5c0) (fun i=>eqi_S0 a b i) (fun i _=>setS (eqi_S0 a b i) [(4,.kb false)]) (eqi_S0 a b a.length) .ret (.exit 0) (by simp) (by simp) (fun j=>decide (a.getD j 0≠b.getD j 0)) (List.range a.length)
      (fun i x hx hp=>by
        obtain ⟨rfl,hi⟩:=range_at hx
        exact eqi_L0_p1 (by omega) (at' a x hi) (at' b x (by omega)) (by simpa using hp) (inR_nat (by omega)) rfl)
      (fun i x hx hp=>by
        obtain ⟨rfl,hi⟩:=range_at hx
        exact eqi_L0_p0 (by omega) (at' a x hi) (at' b x (by omega)) (by simpa using hp))
      (by rw [List.length_range];exact eqi_L0_p2 (by omega)) with ⟨i,x,h1,h2,h3,h4⟩ | ⟨h1,h2,h3⟩
    · have hne:a≠b:=fun e=>by subst e;simp at h3
      rw [decide_eq_false hne]
      exact eqi_p2 (by omega) h4
    · have he:a=b:=by
        refine List.ext_getElem hl fun j h5 h6 => ?_
        have h7:=List.any_eq_false.1 h2 j (List.mem_range.2 h5)
        have h8:a.getD j 0=b.getD j 0:=by simpa using h7
        rw [List.getD_eq_getElem?_getD,List.getD_eq_getElem?_getD,List.getElem?_eq_getElem h5,List.getElem?_eq_getElem h6] at h8
        exact h8
      rw [decide_eq_true he]
      exact eqi_p1 (by omega) h3
  · have hne:a≠b:=fun e=>hl (by rw [e])
    rw [decide_eq_false hne]
    exact eqi_p0 (by omega)
theorem eqFs4(y0 y1 y2 y3 z0 z1 z2 z3:Int):eqFs [intP y0,intP y1,intP y2,intP y3] [intP z0,intP z1,intP z2,intP z3] [(0,3,true),(1,3,true),(2,3,true),(3,3,true)]=decide ([y0,y1,y2,y3]=[z0,z1,z2,z3]):=by
  rw [Bool.eq_iff_iff]
  simp [eqFs,intC,intP]
theorem eql_ok(a b:List (List Int))(ha:a.length≤100000)(ua:uni 4 a)(ub:uni 4 b){base:Nat}:FV Tryz.prog 39 [.p (.sl a.length (a.flatten.map intP)),.p (.sl b.length (b.flatten.map intP))] base (.p (blP (decide (a=b)))) []:=by
  by_cases hl:a.length=b.length
  · have at':∀ (l:List (List Int)) (j:Nat),uni 4 l→j<l.length→∃ y0 y1 y2 y3,l[j]? = some [y0,y1,y2,y3]∧l.getD j []=[y0,y1,y2,y3]:=fun l j hu hj=>by
      have h:=hu l[j] (List.getElem_mem hj)
      match e:l[j],h with
      | [y0,y1,y2,y3],_=>exact ⟨y0,y1,y2,y3,by rw [List.getElem?_eq_getElem hj,e],by rw [List.getD_eq_getElem?_getD,List.getElem?_eq_getElem hj,e];rfl⟩
    rcases LoopOK.find (P:=Tryz.prog) (k:=0) (b:=zL5c1) (fun i=>eql_S0 a b i) (fun i _=>setS (eql_S0 a b i) [(4,.kb false)]) (eql_S0 a b a.length) .ret (.exit 0) (by simp) (by simp) (fun j=>decide (a.getD j []≠b.getD j [])) (List.range a.length)
      (fun i x hx hp=>by
        obtain ⟨rfl,hi⟩:=range_at hx
        obtain ⟨y0,y1,y2,y3,e1,e2⟩:=at' a x ua hi
        obtain ⟨z0,z1,z2,z3,e3,e4⟩:=at' b x ub (by omega)
        rw [e2,e4] at hp
        exact eql_L0_p1 (by omega) e1 ua e3 ub ⟨rfl,rfl⟩ (by rw [eqFs4];simpa using hp) (inR_nat (by omega)) rfl)
      (fun i x hx hp=>by
        obtain ⟨rfl,hi⟩:=range_at hx
        obtain ⟨y0,y1,y2,y3,e1,e2⟩:=at' a x ua hi
        obtain ⟨z0,z1,z2,z3,e3,e4⟩:=at' b x ub (by omega)
        rw [e2,e4] at hp
        exact eql_L0_p0 (by omega) e1 ua e3 ub ⟨rfl,rfl⟩ (by rw [eqFs4];exact decide_eq_false (of_decide_eq_true hp)))
      (by rw [List.length_range];exact eql_L0_p2 (by omega)) with ⟨i,x,h1,h2,h3,h4⟩ | ⟨h1,h2,h3⟩
    · have hne:a≠b:=fun e=>by subst e;simp at h3
      rw [decide_eq_false hne]
      exact eql_p2 (by omega) h4
    · have he:a=b:=by
        refine List.ext_getElem hl fun j h5 h6 => ?_
        have h7:=List.any_eq_false.1 h2 j (List.mem_range.2 h5)
        have h8:a.getD j []=b.getD j []:=by simpa using h7
        rw [List.getD_eq_getElem?_getD,List.getD_eq_getElem?_getD,List.getElem?_eq_getElem h5,List.getElem?_eq_getElem h6] at h8
        exact h8
      rw [decide_eq_true he]
      exact eql_p1 (by omega) h3
  · have hne:a≠b:=fun e=>hl (by rw [e])
    rw [decide_eq_false hne]
    exact eql_p0 (by omega)
theorem eqn_ok(a b:List (List Int))(ha:a.length≤100000)(ua:uni 4 a)(ub:uni 4 b){base:Nat}:FV Tryz.prog 87 [.p (.sl a.length (a.flatten.map intP)),.p (.sl b.length (b.flatten.map intP))] base (.p (blP (decide (a=b)))) []:=by
  by_cases hl:a.length=b.length
  · have at':∀ (l:List (List Int)) (j:Nat),uni 4 l→j<l.length→∃ y0 y1 y2 y3,l[j]? = some [y0,y1,y2,y3]∧l.getD j []=[y0,y1,y2,y3]:=fun l j hu hj=>by
      have h:=hu l[j] (List.getElem_mem hj)
      match e:l[j],h with
      | [y0,y1,y2,y3],_=>exact ⟨y0,y1,y2,y3,by rw [List.getElem?_eq_getElem hj,e],by rw [List.getD_eq_getElem?_getD,List.getElem?_eq_getElem hj,e];rfl⟩
    rcases LoopOK.find (P:=Tryz.prog) (k:=0) (b:=zL5c2) (fun i=>eqn_S0 a b i) (fun i _=>setS (eqn_S0 a b i) [(4,.kb false)]) (eqn_S0 a b a.length) .ret (.exit 0) (by simp) (by simp) (fun j=>decide (a.getD j []≠b.getD j [])) (List.range a.length)
      (fun i x hx hp=>by
        obtain ⟨rfl,hi⟩:=range_at hx
        obtain ⟨y0,y1,y2,y3,e1,e2⟩:=at' a x ua hi
        obtain ⟨z0,z1,z2,z3,e3,e4⟩:=at' b x ub (by omega)
        rw [e2,e4] at hp
        exact eqn_L0_p1 (by omega) e1 ua e3 ub ⟨rfl,rfl⟩ (by rw [eqFs4];simpa using hp) (inR_nat (by omega)) rfl)
      (fun i x hx hp=>by
        obtain ⟨rfl,hi⟩:=range_at hx
        obtain ⟨y0,y1,y2,y3,e1,e2⟩:=at' a x ua hi
        obtain ⟨z0,z1,z2,z3,e3,e4⟩:=at' b x ub (by omega)
        rw [e2,e4] at hp
        exact eqn_L0_p0 (by omega) e1 ua e3 ub ⟨rfl,rfl⟩ (by rw [eqFs4];exact decide_eq_false (of_decide_eq_true hp)))
      (by rw [List.length_range];exact eqn_L0_p2 (by omega)) with ⟨i,x,h1,h2,h3,h4⟩ | ⟨h1,h2,h3⟩
    · have hne:a≠b:=fun e=>by subst e;simp at h3
      rw [decide_eq_false hne]
      exact eqn_p2 (by omega) h4
    · have he:a=b:=by
        refine List.ext_getElem hl fun j h5 h6 => ?_
        have h7:=List.any_eq_false.1 h2 j (List.mem_range.2 h5)
        have h8:a.getD j []=b.getD j []:=by simpa using h7
        rw [List.getD_eq_getElem?_getD,List.getD_eq_getElem?_getD,List.getElem?_eq_getElem h5,List.getElem?_eq_getElem h6] at h8
        exact h8
      rw [decide_eq_true he]
      exact eqn_p1 (by omega) h3
  · have hne:a≠b:=fun e=>hl (by rw [e])
    rw [decide_eq_false hne]
    exact eqn_p0 (by omega)
end
end KV
end Go.Proofs
section
namespace Go.Proofs
open Go.RowKit
namespace KL
theorem falls2_any(W:World)(x y:Int):Calls Tryz.prog 96 #[.int .i64 x,.int .i64 y] W fun e w'=>e = .returned (.int .i64 (cmpDown x y))∧W=w':=by
  go_enter Tryz.func96,Tryz.ntmps96
  go_wp2_with (go_at_call 97;refine (compare_any _ _ _).mono ?_;rintro e w' ⟨rfl,rfl⟩)
  go_ret
  exact ⟨rfl,rfl⟩
def downI(l:List Int):List Int:=isort (ltC cmpDown) l
theorem insD_own(base:Nat)(v:Value)(l:List Int)(w:World)(hv:OwnI w base v l)(hlen:l.length≤1000)(h1:1≤l.length) :
    Calls Tryz.prog 175 #[v,.int .i64 0,.int .i64 l.length,.func (.func 96) #[] #[]] w fun e w'=>e = .returned (.tuple #[])∧OwnI w' base v (downI l)∧w.grownBy w' v.ownBlock:=by
  have hv0:=hv
  rcases hv.2 with ⟨rfl,h0⟩ | ⟨gb,cap,cur,rfl,hb,hg,hnc,hcm,hs,ht⟩
  · omega
  · refine (insertion_ints base 3 gb l.length cap l 96 #[] cmpDown w hv0 hlen ⟨enters_of Tryz.func96 (by kernel_rfl) rfl,fun W x y _ _ _ => ?_⟩).mono ?_
    · refine (falls2_any W x y).mono ?_
      rintro e w' ⟨rfl,rfl⟩
      exact ⟨rfl,Below.refl _ _⟩
    · rintro e w' ⟨rfl,h,hg⟩
      refine ⟨rfl,?_,hg⟩
      unfold OwnI downI
      rw [isort_length]
      exact h
end KL
namespace KV
open KL
theorem insD_ok(l:List Int)(k:Int)(hk:k=(l.length:Nat))(hl:l.length≤1000)(h1:1≤l.length):FMM Tryz.prog 175 [.own 0,.p (intP 0),.p (intP k),.fn 96 [] []] [some (rowI l)] (.tup []) [some (rowI (downI l))]:=fun C w us hus hM n=>by
  subst hk
  cases hus with
  | cons _ u _ us hu h2 =>
    cases h2 with
    | cons _ u2 _ us h3 h2 =>
      obtain ⟨u3,v,rfl,h4,h5⟩:=repL_two h2
      obtain rfl:=rep_fn h5
      cases h3 with
      | p _ _ h3 =>
        cases h3
        cases h4 with
        | p _ _ h4 =>
          cases h4
          refine (callsIn_wide.2 (insD_own 0 u l w (own_in hM rfl hu) hl h1)).mono ?_
          rintro e w' ⟨rfl,h1,h2⟩
          obtain ⟨C',f,m,_⟩:=row_after (d:=false) hM hu h1 h2 rfl (fun _=>⟨rfl,isort_length _ _⟩)
          exact ⟨_,rfl,C',f,m,.tup [] #[] rfl (fun i h=>by simp at h)⟩
theorem u64_bd(z:Int):0≤IntKind.wrap .u64 z∧IntKind.wrap .u64 z≤18446744073709551615:=by
  unfold IntKind.wrap
  simp only [IntKind.bits,IntKind.signed,Bool.false_and,Bool.false_eq_true,if_false]
  omega
theorem bitsLen_ok(n:Int){base:Nat}:FV Tryz.prog 140 [.p (.v (.int .u64 (IntKind.wrap .u64 n)))] base (.p (intP (Lib.bitLen (IntKind.wrap .u64 n).toNat))) [] :=
  FV.of_ret (fun _ _ => .v _) rfl fun C w us hus=>by
    obtain ⟨u,rfl,hu⟩:=repL_one hus
    cases hu with
    | p _ _ h =>
      cases h
      refine (Tryz.bits_Len _ w (u64_bd n).1 (u64_bd n).2).mono ?_
      rintro e w' ⟨rfl,rfl⟩
      exact ⟨rfl,Below.refl _ _⟩
theorem falls_ok(l:List Int)(hl:l.length≤1000){base:Nat}:FV Tryz.prog 93 [.p (intsP l)] base (.p (blP (fallsB l))) [] :=
  FV.of_ret (fun _ _ => .v _) rfl fun C w us hus=>by
    obtain ⟨u,rfl,hu⟩:=repL_one hus
    cases hu with
    | p _ _ h=>exact falls_any u l w (ints_of h) hl
end KV
end Go.Proofs
end
namespace Go.Proofs
namespace KV
section
open KL
noncomputable abbrev zN0c0:Code:=sub (cd Tryz.f22) [1,1,1,1,1,1,1,0,1,0,0]
noncomputable abbrev zN0c1:Code:=sub (cd Tryz.f22) [1,1,1,1,1,1,1,0,1,0,0,1,1,0,0,1,0,1,0,0]
def pdq_S0(l:List Int)(lim:Int)(dn:Nat)(dc:List PV):St:=⟨fr 148 [(0,(.own 0)),(1,(.p (intP 0))),(2,(.p (intP (l.length:Int)))),(3,(.p (intP lim))),(4,(.fn 96 [] [])),(10,(.kb true)),(11,(.kb true))],[some (.row 3 dn dc)]⟩
theorem pdq_p0{l:List Int}{lim:Int}{d'0:List Int}(hl0:LoopOK Tryz.prog 1 (sub (cd Tryz.f144) [1,1,0,0]) (pdq_S0 l lim l.length (l.map intP)) .ret (pdq_S0 l lim d'0.length (d'0.map intP))):FMM Tryz.prog 144 [(.own 0),(.p (intP 0)),(.p (intP (l.length:Int))),(.p (intP lim)),(.fn 96 [] [])] [some (.row 3 l.length (l.map intP))] (.tup []) [some (.row 3 d'0.length (d'0.map intP))]:=by
  exact FMM.fin (k:=1) (g:=⟨[],[],[],[]⟩) rfl Tryz.func144 rfl (o:=[.k 5 ⟨(rng [(5,5),(12,136)]),[],[],[]⟩ .ret (pdq_S0 l lim d'0.length (d'0.map intP))]) (l:=[_]) (by kernel_rfl) (gc hl0.code gn)
theorem pdq_L0_p0{l:List Int}{lim:Int}{d d':List Int}(h0:inR ((l.length:Int)-(0:Int)))(h1:((l.length:Int)-(0:Int))≤(12:Int))(h2:(l.length:Int)=(d.length:Nat))(h3:d.length≤1000)(h4:1≤d.length)(ed'n:d'.length=(downI d).length)(ed'c:d'.map intP=((downI d).map intP)):CodeOK Tryz.prog 1 (sub (cd Tryz.f144) [1,1,0,0]) (pdq_S0 l lim d.length (d.map intP)) .ret (pdq_S0 l lim d'.length (d'.map intP)):=by
  have raw:CodeOK Tryz.prog 1 (sub (cd Tryz.f144) [1,1,0,0]) (pdq_S0 l lim d.length (d.map intP)) .ret (pdq_S0 l lim ((downI d).length) ((downI d).map intP)):=CodeOK.fin (g:=⟨(rng [(5,5),(12,136)]),[],[],[]⟩) (o:=[bT,.c (.tup []) [(0,(.row 3 ((downI d).length) ((downI d).map intP)))]]) (l:=[FC Tryz.prog 175 [(.own 0),(.p (intP 0)),(.p (intP (l.length:Int))),(.fn 96 [] [])] [(0,(.row 3 d.length (d.map intP)))] 1 (.tup []) [(0,(.row 3 ((downI d).length) ((downI d).map intP)))],_,_]) (by kernel_rfl) (gc (FMM.fc (ids:=[0]) (insD_ok d (l.length:Int) h2 h3 h4) (by kernel_rfl)) (gc (q_le h1) (gc h0 gn)))
  exact raw.cast (by rw [ed'n,ed'c])
theorem pdq_ok(l:List Int)(lim:Int)(hl:l.length≤12)(h1:1≤l.length):FMM Tryz.prog 144 [.own 0,.p (intP 0),.p (intP (l.length:Nat)),.p (intP lim),.fn 96 [] []] [some (rowI l)] (.tup []) [some (rowI (downI l))] :=
  pdq_p0 (.exit (pdq_L0_p0 (d:=l) (d':=downI l) (by unfold inR;omega) (by omega) rfl (by omega) h1 rfl rfl) (by simp))
theorem sfn_p0{l:List Int}(h0:l.length≤12)(h1:1≤l.length):FMM Tryz.prog 95 [(.own 0),(.fn 96 [] [])] [some (.row 3 l.length (l.map intP))] (.tup []) [some (.row 3 ((downI l).length) ((downI l).map intP))]:=by
  exact FMM.fin (k:=1) (g:=⟨[],[],[],[]⟩) rfl Tryz.func95 rfl (o:=[.c (.p (intP (Lib.bitLen ((IntKind.wrap .u64 (l.length:Int))).toNat:Int))) [],.c (.tup []) [(0,(.row 3 ((downI l).length) ((downI l).map intP)))]]) (l:=[FC Tryz.prog 144 [(.own 0),(.p (intP 0)),(.p (intP (l.length:Int))),(.p (intP (Lib.bitLen ((IntKind.wrap .u64 (l.length:Int))).toNat:Int))),(.fn 96 [] [])] [(0,(.row 3 l.length (l.map intP)))] 1 (.tup []) [(0,(.row 3 ((downI l).length) ((downI l).map intP)))],_]) (by kernel_rfl) (gc (FMM.fc (ids:=[0]) (pdq_ok l (Lib.bitLen ((IntKind.wrap .u64 (l.length:Int))).toNat:Int) h0 h1) (by kernel_rfl)) (gc (fk 1 (bitsLen_ok (l.length:Int)) rfl) gn))
theorem nat_p7{c:Cup}{ns:List Int}{mo:Int}{qs:List Int}{o0:PV}{e1:Int}(h0:KL.Small c)(h1:(checkP c)=(0:Int))(h2:(ns.length:Int)=c.sk)(h3:(within (qs.length:Int) (1:Int) (31:Int))=true)(h4:small ns.length)(h5:(ns.all fun x=>within x 0 30)=true)(h6:(within mo (1:Int) (12:Int))=true)(h7:small qs.length)(h8:(qs.all fun x=>within x 0 20)=true)(h9:qs.length≤1000)(h10:(KL.fallsB qs)=true)(hl11:CodeOK Tryz.prog 0 (sub (cd Tryz.f22) [1,1,1]) ⟨fr 161 [(1,(.p (intsP ns))),(2,(.p (intP mo))),(3,(.p (intsP qs))),(10,(.ptr 0 0))],[some (.box 120 [(.p (intP c.sk)),(.p (intP c.ra)),(.p (intP c.be)),(.p (intsP c.pts)),(.p (rowsP c.done))])]⟩ .ret ⟨fr 161 [(8,(.p o0)),(9,(.p (intP e1)))],[]⟩){base:Nat}:FV Tryz.prog 22 [(.p (cupP c)),(.p (intsP ns)),(.p (intP mo)),(.p (intsP qs))] base (.tup [(.p o0),(.p (intP e1))]) []:=by
  exact FV.fin Tryz.func22 rfl (o:=[.c (.tup [(.p (cupP c)),(.p (intP (checkP c)))]) [],bF,bF,bF,bF,.c (.p (blP (within (qs.length:Int) (1:Int) (31:Int)))) [],bF,bF,bF,.c (.p (blP (ns.all fun x=>within x 0 30))) [],bF,bF,.c (.p (blP (within mo (1:Int) (12:Int)))) [],bF,bF,bF,bF,.c (.p (blP (qs.all fun x=>within x 0 20))) [],bF,bF,bF,.c (.p (blP (KL.fallsB qs))) [],bF,.k 0 ⟨(rng [(0,1),(4,6),(11,150)]),[1],[],[]⟩ .ret ⟨fr 161 [(8,(.p o0)),(9,(.p (intP e1)))],[]⟩]) (l:=[CodeOK Tryz.prog 0 (sub (cd Tryz.f22) [1,1,1]) ⟨fr 161 [(1,(.p (intsP ns))),(2,(.p (intP mo))),(3,(.p (intsP qs))),(10,(.ptr 0 0))],[some (.box 120 [(.p (intP c.sk)),(.p (intP c.ra)),(.p (intP c.be)),(.p (intsP c.pts)),(.p (rowsP c.done))])]⟩ .ret ⟨fr 161 [(8,(.p o0)),(9,(.p (intP e1)))],[]⟩,_,_,_,_,_,_,_,_,_,_,_,_,_,_,_,_,_,_,_,_,_,_,_]) (by kernel_rfl) (gc hl11 (gc (q_notF h10) (gc (fk 2 (falls_ok qs h9) rfl) (gc (q_notF h8) (gc (q_notF h6) (gc (q_notF h6) (gc (fk 2 (all92_ok qs h7) rfl) (gc (q_notF h6) (gc (q_notF h6) (gc (q_notF h5) (gc (q_notF h5) (gc (fk 2 (within_ok mo (1:Int) (12:Int)) rfl) (gc (q_notF h5) (gc (q_notF h5) (gc (fk 2 (all91_ok ns h4) rfl) (gc (q_notF h3) (gc (q_neF h2) (gc (q_neF h2) (gc (fk 2 (within_ok (qs.length:Int) (1:Int) (31:Int)) rfl) (gc (q_neF h2) (gc (q_neF h2) (gc (q_neF h2) (gc (q_neF h1) (gc (fk 1 (asked_ok c h0) rfl) gn))))))))))))))))))))))))
theorem n11_p0{c:Cup}{ns:List Int}{mo:Int}{qs:List Int}{mv:PV}(h0:KL.Valid c):CodeOK Tryz.prog 0 (sub (cd Tryz.f22) [1,1,1,1,0,0]) ⟨fr 161 [(1,(.p (intsP ns))),(2,(.p (intP mo))),(3,(.p (intsP qs))),(10,(.ptr 0 0)),(12,(.p mv))],[some (.box 120 [(.p (intP c.sk)),(.p (intP c.ra)),(.p (intP c.be)),(.p (intsP c.pts)),(.p (rowsP c.done))])]⟩ .normal ⟨fr 161 [(1,(.p (intsP ns))),(2,(.p (intP mo))),(3,(.p (intsP qs))),(12,(.p mv)),(63,(.p (intsP (totalsM c)))),(64,(.p (intP (((totalsM c).length:Nat):Int)))),(65,(.p (intP 0)))],[]⟩:=by
  exact CodeOK.fin (g:=⟨(rng [(0,1),(4,8),(13,50),(66,95)]),[],[],[]⟩) (o:=[.c (.p (intsP (totalsM c))) []]) (l:=[_]) (by kernel_rfl) (gc (fk 1 (totals_ok c h0) rfl) gn)
theorem n12_p0{ns:List Int}{mo:Int}{qs:List Int}{mv:PV}{ts:List Int}{i:Nat}:CodeOK Tryz.prog 0 (sub (cd Tryz.f22) [1,1,1,1,0,1,0,0,0]) ⟨fr 161 [(1,(.p (intsP ns))),(2,(.p (intP mo))),(3,(.p (intsP qs))),(12,(.p mv)),(63,(.p (intsP ts))),(64,(.p (intP (ts.length:Int)))),(65,(.p (intP (i:Int))))],[]⟩ .normal ⟨fr 161 [(1,(.p (intsP ns))),(2,(.p (intP mo))),(3,(.p (intsP qs))),(12,(.p mv)),(63,(.p (intsP ts))),(64,(.p (intP (ts.length:Int)))),(65,(.p (intP (i:Int)))),(66,(.p (blP (decide ((i:Int)<(ts.length:Int))))))],[]⟩:=by
  exact CodeOK.fin (g:=⟨(rng [(0,1),(4,8),(13,50),(67,94)]),[],[],[]⟩) (o:=[]) (l:=[]) (by kernel_rfl) (gn)
theorem n12c_p0{ns:List Int}{mo:Int}{qs:List Int}{mv:PV}{ts:List Int}{i:Nat}(h0:(i:Int)<(ts.length:Int)):CodeOK Tryz.prog 0 (sub (cd Tryz.f22) [1,1,1,1,0,1,0,0,1,0]) ⟨fr 161 [(1,(.p (intsP ns))),(2,(.p (intP mo))),(3,(.p (intsP qs))),(12,(.p mv)),(63,(.p (intsP ts))),(64,(.p (intP (ts.length:Int)))),(65,(.p (intP (i:Int)))),(66,(.p (blP (decide ((i:Int)<(ts.length:Int))))))],[]⟩ .normal ⟨fr 161 [(1,(.p (intsP ns))),(2,(.p (intP mo))),(3,(.p (intsP qs))),(12,(.p mv)),(63,(.p (intsP ts))),(64,(.p (intP (ts.length:Int)))),(65,(.p (intP (i:Int))))],[]⟩:=by
  exact CodeOK.fin (g:=⟨(rng [(0,1),(4,8),(13,50),(66,95)]),[],[],[]⟩) (o:=[bT]) (l:=[_]) (by kernel_rfl) (gc (q_lt h0) gn)
theorem n12c_p1{ns:List Int}{mo:Int}{qs:List Int}{mv:PV}{ts:List Int}{i:Nat}(h0:(ts.length:Int)≤(i:Int)):CodeOK Tryz.prog 0 (sub (cd Tryz.f22) [1,1,1,1,0,1,0,0,1,0]) ⟨fr 161 [(1,(.p (intsP ns))),(2,(.p (intP mo))),(3,(.p (intsP qs))),(12,(.p mv)),(63,(.p (intsP ts))),(64,(.p (intP (ts.length:Int)))),(65,(.p (intP (i:Int)))),(66,(.p (blP (decide ((i:Int)<(ts.length:Int))))))],[]⟩ (.exit 1) ⟨fr 161 [(1,(.p (intsP ns))),(2,(.p (intP mo))),(3,(.p (intsP qs))),(12,(.p mv)),(63,(.p (intsP ts))),(64,(.p (intP (ts.length:Int)))),(65,(.p (intP (i:Int))))],[]⟩:=by
  exact CodeOK.fin (g:=⟨(rng [(0,1),(4,8),(13,50),(66,95)]),[],[],[]⟩) (o:=[bF]) (l:=[_]) (by kernel_rfl) (gc (q_ltF h0) gn)
theorem n13_p0{ns:List Int}{mo:Int}{qs:List Int}{mv:PV}{ts:List Int}{i:Nat}{x0:Int}(h0:ts[i]? = some x0):CodeOK Tryz.prog 0 (sub (cd Tryz.f22) [1,1,1,1,0,1,0,0,1,1,0,0,0]) ⟨fr 161 [(1,(.p (intsP ns))),(2,(.p (intP mo))),(3,(.p (intsP qs))),(12,(.p mv)),(63,(.p (intsP ts))),(64,(.p (intP (ts.length:Int)))),(65,(.p (intP (i:Int))))],[]⟩ .normal ⟨fr 161 [(1,(.p (intsP ns))),(2,(.p (intP mo))),(3,(.p (intsP qs))),(12,(.p mv)),(13,(.p (intP (i:Int)))),(14,(.p (intP x0))),(63,(.p (intsP ts))),(64,(.p (intP (ts.length:Int)))),(65,(.p (intP (i:Int))))],[]⟩:=by
  exact CodeOK.fin (g:=⟨(rng [(0,1),(4,8),(15,48),(66,95)]),[],[],[]⟩) (o:=[.x (intP x0)]) (l:=[_,_]) (by kernel_rfl) (gc (atm intP h0) (gc (ixn intP h0) gn))
theorem n15_p0{ns:List Int}{mo:Int}{qs:List Int}{mv:PV}{ts:List Int}{i:Nat}{x:Int}(h0:inR (((i+1):Nat):Int)):CodeOK Tryz.prog 0 (sub (cd Tryz.f22) [1,1,1,1,0,1,0,0,1,1,1]) ⟨fr 161 [(1,(.p (intsP ns))),(2,(.p (intP mo))),(3,(.p (intsP qs))),(12,(.p mv)),(13,(.p (intP (i:Int)))),(14,(.p (intP x))),(63,(.p (intsP ts))),(64,(.p (intP (ts.length:Int)))),(65,(.p (intP (i:Int))))],[]⟩ .normal ⟨fr 161 [(1,(.p (intsP ns))),(2,(.p (intP mo))),(3,(.p (intsP qs))),(12,(.p mv)),(63,(.p (intsP ts))),(64,(.p (intP (ts.length:Int)))),(65,(.p (intP (((i+1):Nat):Int))))],[]⟩:=by
  exact CodeOK.fin (g:=⟨(rng [(0,1),(4,8),(13,50),(66,95)]),[],[],[]⟩) (o:=[]) (l:=[_]) (by kernel_rfl) (gc h0 gn)
theorem n16_p0{ns:List Int}{mo:Int}{qs:List Int}{mv:PV}{ts:List Int}{i:Nat}:CodeOK Tryz.prog 0 (sub (cd Tryz.f22) [1,1,1,1,1,0]) ⟨fr 161 [(1,(.p (intsP ns))),(2,(.p (intP mo))),(3,(.p (intsP qs))),(12,(.p mv)),(63,(.p (intsP ts))),(64,(.p (intP (ts.length:Int)))),(65,(.p (intP (i:Int))))],[]⟩ .normal ⟨fr 161 [(1,(.p (intsP ns))),(2,(.p (intP mo))),(3,(.p (intsP qs))),(12,(.p mv)),(15,(.p nilS))],[]⟩:=by
  exact CodeOK.fin (g:=⟨(rng [(0,1),(4,8),(13,2),(16,145)]),[],[],[]⟩) (o:=[]) (l:=[]) (by kernel_rfl) (gn)
theorem n17_p0{ns:List Int}{mo:Int}{qs:List Int}{mv:PV}:CodeOK Tryz.prog 0 (sub (cd Tryz.f22) [1,1,1,1,1,1,0,0]) ⟨fr 161 [(1,(.p (intsP ns))),(2,(.p (intP mo))),(3,(.p (intsP qs))),(12,(.p mv)),(15,(.p nilS))],[]⟩ .normal ⟨fr 161 [(1,(.p (intsP ns))),(2,(.p (intP mo))),(3,(.p (intsP qs))),(12,(.p mv)),(15,(.own 0)),(85,(.p (intP 0)))],[some (.row 40 0 [])]⟩:=by
  exact CodeOK.fin (g:=⟨(rng [(0,1),(4,8),(13,2),(16,69),(86,75)]),[0],[],[(15,40)]⟩) (o:=[]) (l:=[]) (by kernel_rfl) (gn)
theorem n18_p0{ns:List Int}{mo:Int}{qs:List Int}{mv:PV}{n:Nat}{o:List (List Int)}:CodeOK Tryz.prog 0 (sub (cd Tryz.f22) [1,1,1,1,1,1,0,1,0,0,0]) ⟨fr 161 [(1,(.p (intsP ns))),(2,(.p (intP mo))),(3,(.p (intsP qs))),(12,(.p mv)),(15,(.own 0)),(85,(.p (intP (n:Int))))],[some (.row 40 o.length (o.flatten.map intP))]⟩ .normal ⟨fr 161 [(1,(.p (intsP ns))),(2,(.p (intP mo))),(3,(.p (intsP qs))),(12,(.p mv)),(15,(.own 0)),(85,(.p (intP (n:Int)))),(86,(.p (blP (decide ((n:Int)<(31:Int))))))],[some (.row 40 o.length (o.flatten.map intP))]⟩:=by
  exact CodeOK.fin (g:=⟨(rng [(0,1),(4,8),(13,2),(16,69),(87,74)]),[0],[],[]⟩) (o:=[]) (l:=[]) (by kernel_rfl) (gn)
theorem n18c_p0{ns:List Int}{mo:Int}{qs:List Int}{mv:PV}{n:Nat}{o:List (List Int)}(h0:(n:Int)<(31:Int)):CodeOK Tryz.prog 0 (sub (cd Tryz.f22) [1,1,1,1,1,1,0,1,0,0,1,0]) ⟨fr 161 [(1,(.p (intsP ns))),(2,(.p (intP mo))),(3,(.p (intsP qs))),(12,(.p mv)),(15,(.own 0)),(85,(.p (intP (n:Int)))),(86,(.p (blP (decide ((n:Int)<(31:Int))))))],[some (.row 40 o.length (o.flatten.map intP))]⟩ .normal ⟨fr 161 [(1,(.p (intsP ns))),(2,(.p (intP mo))),(3,(.p (intsP qs))),(12,(.p mv)),(15,(.own 0)),(85,(.p (intP (n:Int))))],[some (.row 40 o.length (o.flatten.map intP))]⟩:=by
  exact CodeOK.fin (g:=⟨(rng [(0,1),(4,8),(13,2),(16,69),(86,75)]),[0],[],[]⟩) (o:=[bT]) (l:=[_]) (by kernel_rfl) (gc (q_lt h0) gn)
theorem n18c_p1{ns:List Int}{mo:Int}{qs:List Int}{mv:PV}{n:Nat}{o:List (List Int)}(h0:(31:Int)≤(n:Int)):CodeOK Tryz.prog 0 (sub (cd Tryz.f22) [1,1,1,1,1,1,0,1,0,0,1,0]) ⟨fr 161 [(1,(.p (intsP ns))),(2,(.p (intP mo))),(3,(.p (intsP qs))),(12,(.p mv)),(15,(.own 0)),(85,(.p (intP (n:Int)))),(86,(.p (blP (decide ((n:Int)<(31:Int))))))],[some (.row 40 o.length (o.flatten.map intP))]⟩ (.exit 3) ⟨fr 161 [(1,(.p (intsP ns))),(2,(.p (intP mo))),(3,(.p (intsP qs))),(12,(.p mv)),(15,(.own 0)),(85,(.p (intP (n:Int))))],[some (.row 40 o.length (o.flatten.map intP))]⟩:=by
  exact CodeOK.fin (g:=⟨(rng [(0,1),(4,8),(13,2),(16,69),(86,75)]),[0],[],[]⟩) (o:=[bF]) (l:=[_]) (by kernel_rfl) (gc (q_ltF h0) gn)
theorem n19_p0{ns:List Int}{mo:Int}{qs:List Int}{mv:PV}{n:Nat}{o:List (List Int)}:CodeOK Tryz.prog 0 (sub (cd Tryz.f22) [1,1,1,1,1,1,0,1,0,0,1,1,0,0,0]) ⟨fr 161 [(1,(.p (intsP ns))),(2,(.p (intP mo))),(3,(.p (intsP qs))),(12,(.p mv)),(15,(.own 0)),(85,(.p (intP (n:Int))))],[some (.row 40 o.length (o.flatten.map intP))]⟩ .normal ⟨fr 161 [(1,(.p (intsP ns))),(2,(.p (intP mo))),(3,(.p (intsP qs))),(12,(.p mv)),(15,(.own 0)),(16,(.p (intP (n:Int)))),(85,(.p (intP (n:Int))))],[some (.row 40 o.length (o.flatten.map intP))]⟩:=by
  exact CodeOK.fin (g:=⟨(rng [(0,1),(4,8),(13,2),(17,68),(86,75)]),[0],[],[]⟩) (o:=[]) (l:=[]) (by kernel_rfl) (gn)
theorem n21n_p0{ns:List Int}{mo:Int}{qs:List Int}{mv:PV}{n:Nat}{o:List (List Int)}:CodeOK Tryz.prog 0 (sub (cd Tryz.f22) [1,1,1,1,1,1,0,1,0,0,1,1,0,0,1,1,0]) ⟨fr 161 [(1,(.p (intsP ns))),(2,(.p (intP mo))),(3,(.p (intsP qs))),(12,(.p mv)),(15,(.own 0)),(16,(.p (intP (n:Int)))),(17,(.p nilS)),(85,(.p (intP (n:Int))))],[some (.row 40 o.length (o.flatten.map intP))]⟩ (.exit 4) ⟨fr 161 [(1,(.p (intsP ns))),(2,(.p (intP mo))),(3,(.p (intsP qs))),(12,(.p mv)),(15,(.own 0)),(85,(.p (intP (n:Int))))],[some (.row 40 o.length (o.flatten.map intP))]⟩:=by
  exact CodeOK.fin (g:=⟨(rng [(0,1),(4,8),(13,2),(16,69),(86,75)]),[0],[],[]⟩) (o:=[]) (l:=[]) (by kernel_rfl) (gn)
theorem n21_p0{ns:List Int}{mo:Int}{qs:List Int}{mv:PV}{n:Nat}{o:List (List Int)}{y:Int}{l:List Int}:CodeOK Tryz.prog 0 (sub (cd Tryz.f22) [1,1,1,1,1,1,0,1,0,0,1,1,0,0,1,1,0]) ⟨fr 161 [(1,(.p (intsP ns))),(2,(.p (intP mo))),(3,(.p (intsP qs))),(12,(.p mv)),(15,(.own 0)),(16,(.p (intP (n:Int)))),(17,(.own 1)),(85,(.p (intP (n:Int))))],[some (.row 40 o.length (o.flatten.map intP)),some (.row 3 (l.length+1) ((intP y)::(l.map intP)))]⟩ .normal ⟨fr 161 [(1,(.p (intsP ns))),(2,(.p (intP mo))),(3,(.p (intsP qs))),(12,(.p mv)),(15,(.own 0)),(16,(.p (intP (n:Int)))),(17,(.own 1)),(85,(.p (intP (n:Int))))],[some (.row 40 o.length (o.flatten.map intP)),some (.row 3 (l.length+1) ((intP y)::(l.map intP)))]⟩:=by
  exact CodeOK.fin (g:=⟨(rng [(0,1),(4,8),(13,2),(18,67),(86,75)]),[0,1],[],[]⟩) (o:=[]) (l:=[]) (by kernel_rfl) (gn)
theorem n22_p0{ns:List Int}{mo:Int}{qs:List Int}{mv:PV}{n:Nat}{o:List (List Int)}{y:Int}{l l0:List Int}{o0:List (List Int)}(h0:((y::l)).length≤12)(h1:1≤((y::l)).length)(h2:0≤(0:Int)∧(0:Int)≤(if mo<(((downI (y::l)).length:Nat):Int) then mo else (((downI (y::l)).length:Nat):Int))∧(if mo<(((downI (y::l)).length:Nat):Int) then mo else (((downI (y::l)).length:Nat):Int))≤(((downI (y::l)).length:Nat):Int))(h3:((if mo<(((downI (y::l)).length:Nat):Int) then mo else (((downI (y::l)).length:Nat):Int)).toNat-0)=l0.length)(h4:((((downI (y::l)).map intP).drop 0).take (((if mo<(((downI (y::l)).length:Nat):Int) then mo else (((downI (y::l)).length:Nat):Int)).toNat-0)*(((downI (y::l)).map intP).length / ((downI (y::l)).length))))=l0.map intP)(h5:small l0.length)(h6:∀ k,inR (l0.take k).sum)(h7:[(intP (n:Int)),(intP 1),(intP l0.sum),(intP 0)].length=1*4∧o.length+1≤1000000)(eo0n:o0.length=(o.length+1))(eo0c:o0.flatten.map intP=((o.flatten.map intP)++[(intP (n:Int)),(intP 1),(intP l0.sum),(intP 0)])):CodeOK Tryz.prog 0 (sub (cd Tryz.f22) [1,1,1,1,1,1,0,1,0,0,1,1,0,0,1,1,1]) ⟨fr 161 [(1,(.p (intsP ns))),(2,(.p (intP mo))),(3,(.p (intsP qs))),(12,(.p mv)),(15,(.own 0)),(16,(.p (intP (n:Int)))),(17,(.own 1)),(85,(.p (intP (n:Int))))],[some (.row 40 o.length (o.flatten.map intP)),some (.row 3 (l.length+1) ((intP y)::(l.map intP)))]⟩ .normal ⟨fr 161 [(1,(.p (intsP ns))),(2,(.p (intP mo))),(3,(.p (intsP qs))),(12,(.p mv)),(15,(.own 0)),(85,(.p (intP (n:Int))))],[some (.row 40 o0.length (o0.flatten.map intP))]⟩:=by
  have raw:CodeOK Tryz.prog 0 (sub (cd Tryz.f22) [1,1,1,1,1,1,0,1,0,0,1,1,0,0,1,1,1]) ⟨fr 161 [(1,(.p (intsP ns))),(2,(.p (intP mo))),(3,(.p (intsP qs))),(12,(.p mv)),(15,(.own 0)),(16,(.p (intP (n:Int)))),(17,(.own 1)),(85,(.p (intP (n:Int))))],[some (.row 40 o.length (o.flatten.map intP)),some (.row 3 (l.length+1) ((intP y)::(l.map intP)))]⟩ .normal ⟨fr 161 [(1,(.p (intsP ns))),(2,(.p (intP mo))),(3,(.p (intsP qs))),(12,(.p mv)),(15,(.own 0)),(85,(.p (intP (n:Int))))],[some (.row 40 (o.length+1) ((o.flatten.map intP)++[(intP (n:Int)),(intP 1),(intP l0.sum),(intP 0)]))]⟩:=CodeOK.fin (g:=⟨(rng [(0,1),(4,8),(13,2),(16,69),(86,75)]),[3],[],[]⟩) (o:=[.c (.tup []) [(1,(.row 3 ((downI (y::l)).length) ((downI (y::l)).map intP)))],.c (.p (intP l0.sum)) []]) (l:=[_,[(intP (n:Int)),(intP 1),(intP l0.sum),(intP 0)].length=4,FC Tryz.prog 98 [(.arr 1 0 ((if mo<(((downI (y::l)).length:Nat):Int) then mo else (((downI (y::l)).length:Nat):Int)).toNat-0))] [(1,(.row 3 ((downI (y::l)).length) ((downI (y::l)).map intP)))] 2 (.p (intP l0.sum)) [],_,FC Tryz.prog 95 [(.own 1),(.fn 96 [] [])] [(1,(.row 3 (l.length+1) ((intP y)::(l.map intP))))] 2 (.tup []) [(1,(.row 3 ((downI (y::l)).length) ((downI (y::l)).map intP)))]]) (by kernel_rfl) (gc h7 (gc (by first | decide | simp) (gc (FV.view (args':=[(.p (.sl ((if mo<(((downI (y::l)).length:Nat):Int) then mo else (((downI (y::l)).length:Nat):Int)).toNat-0) ((((downI (y::l)).map intP).drop 0).take (((if mo<(((downI (y::l)).length:Nat):Int) then mo else (((downI (y::l)).length:Nat):Int)).toNat-0)*(((downI (y::l)).map intP).length / ((downI (y::l)).length))))))]) (by rw [show ((.sl ((if mo<(((downI (y::l)).length:Nat):Int) then mo else (((downI (y::l)).length:Nat):Int)).toNat-0) ((((downI (y::l)).map intP).drop 0).take (((if mo<(((downI (y::l)).length:Nat):Int) then mo else (((downI (y::l)).length:Nat):Int)).toNat-0)*(((downI (y::l)).map intP).length / ((downI (y::l)).length))))):PV)=intsP l0 from sl_cast h3 h4];exact (sum_ok l0 h5 h6)) (by kernel_rfl) (by kernel_rfl) (by kernel_rfl)) (gc h2 (gc (FMM.fc (ids:=[1]) (sfn_p0 (l:=(y::l)) h0 h1) (by kernel_rfl)) gn)))))
  exact raw.cast (by rw [eo0n,eo0c])
theorem n24_p0{ns:List Int}{mo:Int}{qs:List Int}{mv:PV}{n:Nat}{o:List (List Int)}(h0:inR (((n+1):Nat):Int)):CodeOK Tryz.prog 0 (sub (cd Tryz.f22) [1,1,1,1,1,1,0,1,0,0,1,1,1]) ⟨fr 161 [(1,(.p (intsP ns))),(2,(.p (intP mo))),(3,(.p (intsP qs))),(12,(.p mv)),(15,(.own 0)),(85,(.p (intP (n:Int))))],[some (.row 40 o.length (o.flatten.map intP))]⟩ .normal ⟨fr 161 [(1,(.p (intsP ns))),(2,(.p (intP mo))),(3,(.p (intsP qs))),(12,(.p mv)),(15,(.own 0)),(85,(.p (intP (((n+1):Nat):Int))))],[some (.row 40 o.length (o.flatten.map intP))]⟩:=by
  exact CodeOK.fin (g:=⟨(rng [(0,1),(4,8),(13,2),(16,69),(86,75)]),[0],[],[]⟩) (o:=[]) (l:=[_]) (by kernel_rfl) (gc h0 gn)
def nat_S2(qs:List Int)(o:List (List Int))(i:Nat)(pn:Nat)(pc:List PV):St:=⟨fr 161 [(3,(.p (intsP qs))),(15,(.own 0)),(109,(.p (intP (o.length:Int)))),(110,(.p (intP (i:Int))))],[some (.row 40 pn pc)]⟩
theorem n25_p0{qs:List Int}{o:List (List Int)}{i'0:Nat}{p'1:List (List Int)}(hl0:LoopOK Tryz.prog 0 zN0c0 (nat_S2 qs o 0 o.length (o.flatten.map intP)) (.exit 5) (nat_S2 qs o i'0 p'1.length (p'1.flatten.map intP)))(h1:uni 4 p'1)(h2:p'1.length<20):CodeOK Tryz.prog 0 (sub (cd Tryz.f22) [1,1,1,1,1,1,1]) ⟨fr 161 [(3,(.p (intsP qs))),(15,(.own 0))],[some (.row 40 o.length (o.flatten.map intP))]⟩ .ret ⟨fr 161 [(8,(.p (.sl ((isort (ltK 1) p'1).length) ((isort (ltK 1) p'1).flatten.map intP)))),(9,(.p (intP 0)))],[]⟩:=by
  exact CodeOK.fin (g:=⟨(rng [(0,8),(10,151)]),[],[0],[]⟩) (o:=[.k 4 ⟨(rng [(0,3),(4,4),(10,5),(16,93),(111,47),(159,1)]),[0],[],[]⟩ (.exit 5) (nat_S2 qs o i'0 p'1.length (p'1.flatten.map intP)),.c (.tup []) [(0,(.row 40 ((isort (ltK 1) p'1).length) ((isort (ltK 1) p'1).flatten.map intP)))]]) (l:=[FC Tryz.prog 99 [(.own 0),(.fn 100 [] [])] [(0,(.row 40 p'1.length (p'1.flatten.map intP)))] 1 (.tup []) [(0,(.row 40 ((isort (ltK 1) p'1).length) ((isort (ltK 1) p'1).flatten.map intP)))],_]) (by kernel_rfl) (gc (FMM.fc (ids:=[0]) (srtN_ok p'1 h1 h2) (by kernel_rfl)) (gc hl0.code gn))
def nat_S3(qs:List Int)(o:List (List Int))(i:Nat)(p:List (List Int))(j:Nat)(rn:Nat)(rc:List PV):St:=⟨fr 161 [(3,(.p (intsP qs))),(15,(.own 0)),(18,(.p (intP (i:Int)))),(109,(.p (intP (o.length:Int)))),(110,(.p (intP (i:Int)))),(111,(.p (blP (decide ((i:Int)<(o.length:Int)))))),(112,(.p (intP (i:Int)))),(113,(.own 0)),(114,(.p (intP (p.length:Int)))),(115,(.p (intP (j:Int))))],[some (.row 40 rn rc)]⟩
theorem nat_L2_p0{qs:List Int}{o:List (List Int)}{i:Nat}{p:List (List Int)}{j'300:Nat}{r'301:List (List Int)}{y302 y303 y304 y305 x306:Int}{i':Nat}{p':List (List Int)}(h0:(i:Int)<(o.length:Int))(hl1:LoopOK Tryz.prog 0 zN0c1 (nat_S3 qs o i p 0 p.length (p.flatten.map intP)) (.exit 7) (nat_S3 qs o i p j'300 r'301.length (r'301.flatten.map intP)))(h2:r'301[i]? = some [y302,y303,y304,y305])(h3:uni 4 r'301)(h4:y303≤(qs.length:Int))(h5:inR (y303-(1:Int)))(h6:qs[(y303-(1:Int)).toNat]? = some x306)(h7:0≤(y303-(1:Int)))(h8:((i*4)+3)<(r'301.flatten.map intP).length)(h9:inR (((i+1):Nat):Int))(ei':i'=(i+1))(ep'n:p'.length=r'301.length)(ep'c:p'.flatten.map intP=((r'301.flatten.map intP).set ((i*4)+3) (intP x306))):CodeOK Tryz.prog 0 zN0c0 (nat_S2 qs o i p.length (p.flatten.map intP)) .normal (nat_S2 qs o i' p'.length (p'.flatten.map intP)):=by
  subst ei'
  have raw:CodeOK Tryz.prog 0 zN0c0 (nat_S2 qs o i p.length (p.flatten.map intP)) .normal (nat_S2 qs o (i+1) r'301.length ((r'301.flatten.map intP).set ((i*4)+3) (intP x306))):=CodeOK.fin (g:=⟨(rng [(0,3),(4,4),(10,5),(16,93),(111,47),(159,1)]),[0],[],[]⟩) (o:=[bT,.k 8 ⟨(rng [(0,3),(4,4),(10,5),(16,2),(19,90),(116,20),(159,1)]),[0],[],[]⟩ (.exit 7) (nat_S3 qs o i p j'300 r'301.length (r'301.flatten.map intP)),.x (intP y303),bT,.x (intP y303),.x (intP x306)]) (l:=[_,_,_,(qs.map intP)[((y303-(1:Int)).toNat*1)]? = some (intP x306),_,_,(r'301.flatten.map intP)[((i*4)+1)]? = some (intP y303),_,_,(r'301.flatten.map intP)[((i*4)+1)]? = some (intP y303),_,_,_]) (by kernel_rfl) (gc h9 (gc h8 (gc (ix_own (i:=(i:Int)) (Int.natCast_nonneg _) h2) (gc (at_map (i:=(y303-(1:Int)).toNat) h6) (gc (ix_map (g:=intP) h7 h6) (gc h5 (gc (fl_field (i:=i) (f:=1) h3 h2 rfl) (gc (ix_own (i:=(i:Int)) (Int.natCast_nonneg _) h2) (gc (q_le h4) (gc (fl_field (i:=i) (f:=1) h3 h2 rfl) (gc (ix_own (i:=(i:Int)) (Int.natCast_nonneg _) h2) (gc hl1.code (gc (q_lt h0) gn)))))))))))))
  exact raw.cast (by rw [ep'n,ep'c])
theorem nat_L2_p1{qs:List Int}{o:List (List Int)}{i:Nat}{p:List (List Int)}{j'300:Nat}{r'301:List (List Int)}{y302 y303 y304 y305:Int}{i':Nat}{p':List (List Int)}(h0:(i:Int)<(o.length:Int))(hl1:LoopOK Tryz.prog 0 zN0c1 (nat_S3 qs o i p 0 p.length (p.flatten.map intP)) (.exit 7) (nat_S3 qs o i p j'300 r'301.length (r'301.flatten.map intP)))(h2:r'301[i]? = some [y302,y303,y304,y305])(h3:uni 4 r'301)(h4:(qs.length:Int)<y303)(h5:inR (((i+1):Nat):Int))(ei':i'=(i+1))(ep'n:p'.length=r'301.length)(ep'c:p'.flatten.map intP=(r'301.flatten.map intP)):CodeOK Tryz.prog 0 zN0c0 (nat_S2 qs o i p.length (p.flatten.map intP)) .normal (nat_S2 qs o i' p'.length (p'.flatten.map intP)):=by
  subst ei'
  have raw:CodeOK Tryz.prog 0 zN0c0 (nat_S2 qs o i p.length (p.flatten.map intP)) .normal (nat_S2 qs o (i+1) r'301.length (r'301.flatten.map intP)):=CodeOK.fin (g:=⟨(rng [(0,3),(4,4),(10,5),(16,93),(111,47),(159,1)]),[0],[],[]⟩) (o:=[bT,.k 8 ⟨(rng [(0,3),(4,4),(10,5),(16,2),(19,90),(116,20),(159,1)]),[0],[],[]⟩ (.exit 7) (nat_S3 qs o i p j'300 r'301.length (r'301.flatten.map intP)),.x (intP y303),bF]) (l:=[_,_,(r'301.flatten.map intP)[((i*4)+1)]? = some (intP y303),_,_,_]) (by kernel_rfl) (gc h5 (gc (q_leF h4) (gc (fl_field (i:=i) (f:=1) h3 h2 rfl) (gc (ix_own (i:=(i:Int)) (Int.natCast_nonneg _) h2) (gc hl1.code (gc (q_lt h0) gn))))))
  exact raw.cast (by rw [ep'n,ep'c])
theorem nat_L2_p2{qs:List Int}{o:List (List Int)}{i:Nat}{p:List (List Int)}(h0:(o.length:Int)≤(i:Int)):CodeOK Tryz.prog 0 zN0c0 (nat_S2 qs o i p.length (p.flatten.map intP)) (.exit 5) (nat_S2 qs o i p.length (p.flatten.map intP)):=by
  exact CodeOK.fin (g:=⟨(rng [(0,3),(4,4),(10,5),(16,93),(111,47),(159,1)]),[0],[],[]⟩) (o:=[bF]) (l:=[_]) (by kernel_rfl) (gc (q_ltF h0) gn)
theorem nat_L3_p0{qs:List Int}{o:List (List Int)}{i:Nat}{p:List (List Int)}{j:Nat}{r:List (List Int)}{y400 y401 y402 y403 y404 y405 y406 y407:Int}{j':Nat}{r':List (List Int)}(h0:(j:Int)<(p.length:Int))(h1:r[j]? = some [y400,y401,y402,y403])(h2:uni 4 r)(h3:r[i]? = some [y404,y405,y406,y407])(h4:y406<y402)(h5:inR (y405+(1:Int)))(h6:((i*4)+1)<(r.flatten.map intP).length)(h7:inR (((j+1):Nat):Int))(ej':j'=(j+1))(er'n:r'.length=r.length)(er'c:r'.flatten.map intP=((r.flatten.map intP).set ((i*4)+1) (intP (y405+(1:Int))))):CodeOK Tryz.prog 0 zN0c1 (nat_S3 qs o i p j r.length (r.flatten.map intP)) .normal (nat_S3 qs o i p j' r'.length (r'.flatten.map intP)):=by
  subst ej'
  have raw:CodeOK Tryz.prog 0 zN0c1 (nat_S3 qs o i p j r.length (r.flatten.map intP)) .normal (nat_S3 qs o i p (j+1) r.length ((r.flatten.map intP).set ((i*4)+1) (intP (y405+(1:Int))))):=CodeOK.fin (g:=⟨(rng [(0,3),(4,4),(10,5),(16,2),(19,90),(116,20),(159,1)]),[0],[],[]⟩) (o:=[bT,.x (.agg [(intP y400),(intP y401),(intP y402),(intP y403)]),.x (intP y406),bT,.x (intP y405)]) (l:=[_,_,_,_,(r.flatten.map intP)[((i*4)+1)]? = some (intP y405),_,_,(r.flatten.map intP)[((i*4)+2)]? = some (intP y406),_,_,_,_,_]) (by kernel_rfl) (gc h7 (gc h6 (gc (ix_own (i:=(i:Int)) (Int.natCast_nonneg _) h3) (gc h5 (gc (fl_field (i:=i) (f:=1) h2 h3 rfl) (gc (ix_own (i:=(i:Int)) (Int.natCast_nonneg _) h3) (gc (q_lt h4) (gc (fl_field (i:=i) (f:=2) h2 h3 rfl) (gc (ix_own (i:=(i:Int)) (Int.natCast_nonneg _) h3) (gc (fl_load (i:=j) h2 h1) (gc (fl_le (i:=j) h2 h1) (gc (ix_own (i:=(j:Int)) (Int.natCast_nonneg _) h1) (gc (q_lt h0) gn)))))))))))))
  exact raw.cast (by rw [er'n,er'c])
theorem nat_L3_p1{qs:List Int}{o:List (List Int)}{i:Nat}{p:List (List Int)}{j:Nat}{r:List (List Int)}{y400 y401 y402 y403 y404 y405 y406 y407:Int}{j':Nat}(h0:(j:Int)<(p.length:Int))(h1:r[j]? = some [y400,y401,y402,y403])(h2:uni 4 r)(h3:r[i]? = some [y404,y405,y406,y407])(h4:y402≤y406)(h5:inR (((j+1):Nat):Int))(ej':j'=(j+1)):CodeOK Tryz.prog 0 zN0c1 (nat_S3 qs o i p j r.length (r.flatten.map intP)) .normal (nat_S3 qs o i p j' r.length (r.flatten.map intP)):=by
  subst ej'
  exact CodeOK.fin (g:=⟨(rng [(0,3),(4,4),(10,5),(16,2),(19,90),(116,20),(159,1)]),[0],[],[]⟩) (o:=[bT,.x (.agg [(intP y400),(intP y401),(intP y402),(intP y403)]),.x (intP y406),bF]) (l:=[_,_,(r.flatten.map intP)[((i*4)+2)]? = some (intP y406),_,_,_,_,_]) (by kernel_rfl) (gc h5 (gc (q_ltF h4) (gc (fl_field (i:=i) (f:=2) h2 h3 rfl) (gc (ix_own (i:=(i:Int)) (Int.natCast_nonneg _) h3) (gc (fl_load (i:=j) h2 h1) (gc (fl_le (i:=j) h2 h1) (gc (ix_own (i:=(j:Int)) (Int.natCast_nonneg _) h1) (gc (q_lt h0) gn))))))))
theorem nat_L3_p2{qs:List Int}{o:List (List Int)}{i:Nat}{p:List (List Int)}{j:Nat}{r:List (List Int)}(h0:(p.length:Int)≤(j:Int)):CodeOK Tryz.prog 0 zN0c1 (nat_S3 qs o i p j r.length (r.flatten.map intP)) (.exit 7) (nat_S3 qs o i p j r.length (r.flatten.map intP)):=by
  exact CodeOK.fin (g:=⟨(rng [(0,3),(4,4),(10,5),(16,2),(19,90),(116,20),(159,1)]),[0],[],[]⟩) (o:=[bF]) (l:=[_]) (by kernel_rfl) (gc (q_ltF h0) gn)
end
section
variable {P:Program} {C C0:Cx} {M M0:Mem} {w w0:World}

theorem lt_of_some{w:World}{b:Nat}{o:Obj}(h:w.heap[b]? = some o):b<w.heap.size:=(Array.getElem?_eq_some_iff.1 h).1

theorem mem_beside(hM:MemOK P C M w){w':World}(hsz:w.heap.size≤w'.heap.size)(hF:∀ b,C.F b→w'.heap[b]? = w.heap[b]?)(hL:∀ (id:Nat) (o:AO) (b:Nat),M[id]? = some (some o)→o.live=true→C.ι id=some b→w'.heap[b]? = w.heap[b]?) :
    MemOK P C M w'∧Le C C M M w w':=by
  have hle:Le C C M M w w':=⟨fun _ o h=>⟨o,h⟩,fun _ _ _ _ _ cs h=>⟨cs,h⟩,fun _ o h o' h' hl=>by rw [h] at h';cases h';exact ⟨hl,rfl,rfl⟩,fun _ h=>h,hF⟩
  refine ⟨⟨fun i ty' n cs hm => ?_,fun i ty' cs hm => ?_,fun i es cl hm => ?_,hM.inj,hM.nF,fun b hb=>Nat.lt_of_lt_of_le (hM.Fs b hb) hsz,fun i x b hm hl hb=>Nat.lt_of_lt_of_le (hM.lt i x b hm hl hb) hsz⟩,hle⟩
  · rcases hM.row _ _ _ _ hm with h4 | ⟨b,arr,inf,q0,q1,q2,q3,q4,q5,q6,q7,q8⟩
    · exact .inl h4
    · exact .inr ⟨b,arr,inf,q0,by rw [hL _ _ _ hm rfl q0];exact q1,q2,q3,q4,q5,q6,fun j hj=>(q7 j hj).mono hle.F hle.fz,q8⟩
  · obtain ⟨b,arr,q0,q1,q2,q3,q4⟩:=hM.box _ _ _ hm
    exact ⟨b,arr,q0,by rw [hL _ _ _ hm rfl q0];exact q1,q2,fun j hj=>(q3 j hj).mono hle,q4⟩
  · obtain ⟨b,arr,q0,q1,q2,q3⟩:=hM.mp _ _ _ hm
    refine ⟨b,arr,q0,by rw [hL _ _ _ hm rfl q0];exact q1,q2,fun j hj => ?_⟩
    obtain ⟨en,r1,r2,r3,r4⟩:=q3 j hj
    exact ⟨en,r1,r2,r3,r4.mono hle.F hle.fz⟩

theorem Sim.beside{R R':List (Nat × Obj)}{st:St}{a:Act}{w':World}(h:Sim P (C0.with R) M0 w0 st a w)(X:Nat→Prop)(hX:∀ b,X b→∃ o,(b,o)∈R)(h1:w'.os=w.os)(h2:w'.tape=w.tape)(h3:w'.output=w.output)
    (hsz:w.heap.size≤w'.heap.size) (hk:∀ b,b<w.heap.size→¬ X b→w'.heap[b]? = w.heap[b]?)
    (hR':∀ p∈R',(p∈R∧¬ X p.1)∨(w'.heap[p.1]? = some p.2∧p.2 ≠ .deferred (some [])∧(w.heap.size≤p.1∨∃ o,(p.1,o)∈R))):Sim P (C0.with R') M0 w0 st a w':=by
  obtain ⟨C,hS,hM,hF,⟨l,m1,m2,m3⟩,hR⟩:=h
  have hXR:∀ b,X b→∃ o,w.heap[b]? = some o∧w0.heap.size≤b∧o ≠ .deferred (some [])∧¬ C.F b∧∀ (id:Nat) (o:AO),st.m[id]? = some (some o)→o.live=true→C.ι id≠some b:=fun b hb=>by
    obtain ⟨o,ho⟩:=hX b hb
    exact ⟨o,hR _ ho⟩
  have hFz:∀ b,C.F b→w'.heap[b]? = w.heap[b]? := fun b hb=>hk b (hM.Fs b hb) (fun hx=>by obtain ⟨_,_,_,_,q,_⟩:=hXR b hx;exact q hb)
  have hLv:∀ (id:Nat) (o:AO) (b:Nat),st.m[id]? = some (some o)→o.live=true→C.ι id=some b→w'.heap[b]? = w.heap[b]? := fun id o b ho hl hb=>hk b (hM.lt _ _ _ ho hl hb) (fun hx=>by obtain ⟨_,_,_,_,_,q⟩:=hXR b hx;exact q id o ho hl hb)
  obtain ⟨hM',hle⟩:=mem_beside hM hsz hFz hLv
  refine ⟨C,hS.le hle,hM',⟨h1.trans hF.os,h2.trans hF.tape,h3.trans hF.out,Nat.le_trans hF.size hsz,fun b hb hn=>(hk b (Nat.lt_of_lt_of_le hb hF.size) (fun hx=>by obtain ⟨_,_,q,_⟩:=hXR b hx;omega)).trans (hF.keep b hb hn),hF.ids,hF.row,hF.liv,hF.new,hF.F1,hF.F2⟩,⟨l,m1,m2,fun D hD => ?_⟩,fun p hp => ?_⟩
  · obtain ⟨q1,q2,q3⟩:=m3 D hD
    refine ⟨(hk D (lt_of_some q1) (fun hx => ?_)).trans q1,q2,q3⟩
    obtain ⟨o,r1,_,r3,_⟩:=hXR D hx
    rw [q1] at r1;cases r1;exact r3 rfl
  · rcases hR' p hp with ⟨hin,hx⟩ | ⟨r1,r2,r3⟩
    · obtain ⟨q1,q2,q3,q4,q5⟩:=hR p hin
      exact ⟨(hk _ (lt_of_some q1) hx).trans q1,q2,q3,q4,q5⟩
    · rcases r3 with r3 | ⟨o,ho⟩
      · refine ⟨r1,Nat.le_trans hF.size r3,r2,fun hf => ?_,fun id o ho hl hb => ?_⟩
        · have:=hM.Fs _ hf;omega
        · have:=hM.lt _ _ _ ho hl hb;omega
      · obtain ⟨q1,q2,q3,q4,q5⟩:=hR _ ho
        exact ⟨r1,q2,r2,q4,q5⟩

theorem Sim.less{R R':List (Nat × Obj)}{st:St}{a:Act}(h:Sim P (C0.with R) M0 w0 st a w)(hR:∀ p∈R',p∈R):Sim P (C0.with R') M0 w0 st a w :=
  h.beside (fun _=>False) (fun _ h=>h.elim) rfl rfl rfl (Nat.le_refl _) (fun _ _ _=>rfl) (fun p hp => .inl ⟨hR p hp,id⟩)

theorem Sim.has{R:List (Nat × Obj)}{st:St}{a:Act}(h:Sim P (C0.with R) M0 w0 st a w):∀ p∈R,w.heap[p.1]? = some p.2:=fun p hp=>by
  obtain ⟨C,_,_,_,_,hR⟩:=h
  exact (hR p hp).1

theorem Sim.put{st:St}{a:Act}(h:Sim P C0 M0 w0 st a w)(d:Option Tmp){x:AV}{u:Value}(hx:∀ (C:Cx) (M:Mem),Rep C M w x u):Sim P C0 M0 w0 ⟨KV.put st.t d x,st.m⟩ (a.put d u) w:=by
  obtain ⟨C,hS,hM,hF,hD⟩:=h
  refine ⟨C,hS.put (hx _ _),hM,hF,?_⟩
  have:(a.put d u).defers=a.defers:=by unfold Act.put;split <;> rfl
  rw [this]
  exact hD

theorem Sim.hand{R:List (Nat × Obj)}{st:St}{a:Act}{b ty n cap k d:Nat}{cs:List PV}{arr:Array Value}{i:TypeInfo}(h:Sim P (C0.with ((b,.cells arr ty (0,0))::R)) M0 w0 st a w)(hb:∀ p∈R,p.1≠b)
    (hk:M0.length≤k) (hf:Free st.m k) (hd:a.tmps.getD d undef = .slice (some ⟨b,0,none⟩) n cap) (hi:P.info? ty=some i) (harr:arr.size=cap*i.size) (hcs:cs.length=n*i.size) (hn:n≤cap) (hc:cap≤maxLen)
    (hrep:∀ (F:Nat→Prop) j (h:j<cs.length),RepP F w cs[j] (arr.getD j undef)) (h1:∀ j,j<cs.length→(arr.getD j undef).oneCell'=true):Sim P (C0.with R) M0 w0 ⟨st.t.set d (.own k),setAt st.m k (some (.row ty n cs))⟩ a w:=by
  obtain ⟨C,hS,hM,hF,hm,hR⟩:=h
  obtain ⟨q1,q2,q3,q4,q5⟩:=hR _ (List.mem_cons_self ..)
  dsimp only at q1 q2 q4 q5
  have hne:∀ (j:Nat) (o':AO),st.m[j]? = some (some o')→j≠k:=fun j o' h e=>hf o' (e ▸ h)
  have hold:∀ (j:Nat) (o':AO),j≠k→(setAt st.m k (some (.row ty n cs)))[j]? = some (some o')→st.m[j]? = some (some o'):=fun j o' h=>(setAt_other st.m k j _ o' (fun e=>h e.symm)).1
  have hfw:∀ (j:Nat) (o':AO),st.m[j]? = some (some o')→(setAt st.m k (some (.row ty n cs)))[j]? = some (some o'):=fun j o' h=>(setAt_other st.m k j _ o' (fun e=>hne j o' h e.symm)).2 h
  have hι:∀ j,j≠k→(C.grow k b cap).ι j=C.ι j:=fun j h=>by simp [Cx.grow,h]
  have hκ:∀ j,j≠k→(C.grow k b cap).κ j=C.κ j:=fun j h=>by simp [Cx.grow,h]
  have hιs:(C.grow k b cap).ι k=some b:=by simp [Cx.grow]
  have hκs:(C.grow k b cap).κ k=cap:=by simp [Cx.grow]
  have hle:Le C (C.grow k b cap) st.m (setAt st.m k (some (.row ty n cs))) w w:=by
    refine ⟨fun j o h=>⟨o,hfw j o h⟩,fun j o h ty' n' cs' hm=>⟨cs',hold j _ (hne j o h) hm⟩,fun j o h o' hm hl => ?_,fun _ h=>h,fun _ _=>rfl⟩
    have:=hold j _ (hne j o h) hm
    rw [h] at this;cases this
    exact ⟨hl,hι j (hne j o h),hκ j (hne j o h)⟩
  have hnew:∀ (o':AO),(setAt st.m k (some (.row ty n cs)))[k]? = some (some o')→o' = .row ty n cs:=fun o' h=>by rw [setAt_same] at h;cases h;rfl
  refine ⟨C.grow k b cap,⟨by simpa using hS.size,fun j hj => ?_⟩,⟨fun j ty' n' cs' hm => ?_,fun j ty' cs' hm => ?_,fun j es cl hm => ?_,fun j j' o1 o2 b' hm hl hm' hl' hb1 hb2 => ?_,fun j o' b' hm hl hb' => ?_,hM.Fs,fun j o' b' hm hl hb' => ?_⟩,
    ⟨hF.os,hF.tape,hF.out,hF.size,hF.keep,fun j o h => ?_,fun j o h ty' n' cs' hm => ?_,fun j o h o' hm hl => ?_,fun j o b' hm hl hb' => ?_,hF.F1,hF.F2⟩,hm,fun p hp => ?_⟩
  · simp only [List.length_set] at hj
    rw [List.getElem_set]
    split
    · rename_i e
      subst e
      rw [hd]
      exact .own k _ rfl ⟨_,setAt_same _ _ _⟩ (fun ty' n' cs' hm=>by cases hnew _ hm;exact .inr ⟨b,by rw [hκs],hιs⟩)
    · exact (hS.rep j hj).mono hle
  · by_cases e:j=k
    · subst e
      cases hnew _ hm
      exact .inr ⟨b,arr,i,hιs,q1,hi,by rw [hκs];exact harr,hcs,by rw [hκs];exact hn,by rw [hκs];exact hc,fun j hj=>hrep _ j hj,h1⟩
    · rw [hι j e,hκ j e]
      rcases hM.row _ _ _ _ (hold j _ e hm) with h4 | ⟨b,arr,inf,q0,q1,q2,q3,q4,q5,q6,q7,q8⟩
      · exact .inl h4
      · exact .inr ⟨b,arr,inf,q0,q1,q2,q3,q4,q5,q6,fun j hj=>(q7 j hj).mono hle.F hle.fz,q8⟩
  · by_cases e:j=k
    · subst e;cases hnew _ hm
    · rw [hι j e]
      obtain ⟨b,arr,q0,q1,q2,q3,q4⟩:=hM.box _ _ _ (hold j _ e hm)
      exact ⟨b,arr,q0,q1,q2,fun j hj=>(q3 j hj).mono hle,q4⟩
  · by_cases e:j=k
    · subst e;cases hnew _ hm
    · rw [hι j e]
      obtain ⟨b,arr,q0,q1,q2,q3⟩:=hM.mp _ _ _ (hold j _ e hm)
      refine ⟨b,arr,q0,q1,q2,fun j hj => ?_⟩
      obtain ⟨en,r1,r2,r3,r4⟩:=q3 j hj
      exact ⟨en,r1,r2,r3,r4.mono hle.F hle.fz⟩
  · by_cases e:j=k
    · by_cases e':j'=k
      · rw [e,e']
      · subst e
        rw [hιs] at hb1;cases hb1
        rw [hι j' e'] at hb2
        exact absurd hb2 (q5 _ _ (hold j' _ e' hm') hl')
    · by_cases e':j'=k
      · subst e'
        rw [hιs] at hb2;cases hb2
        rw [hι j e] at hb1
        exact absurd hb1 (q5 _ _ (hold j _ e hm) hl)
      · rw [hι j e] at hb1;rw [hι j' e'] at hb2
        exact hM.inj _ _ _ _ _ (hold j _ e hm) hl (hold j' _ e' hm') hl' hb1 hb2
  · by_cases e:j=k
    · subst e
      rw [hιs] at hb';cases hb'
      exact q4
    · rw [hι j e] at hb'
      exact hM.nF _ _ _ (hold j _ e hm) hl hb'
  · by_cases e:j=k
    · subst e
      rw [hιs] at hb';cases hb'
      exact lt_of_some q1
    · rw [hι j e] at hb'
      exact hM.lt _ _ _ (hold j _ e hm) hl hb'
  · have hj:j≠k:=by have:=(List.getElem?_eq_some_iff.1 h).1;omega
    obtain ⟨⟨o',r1⟩,r2,r3⟩:=hF.ids j o h
    exact ⟨⟨o',hfw j o' r1⟩,by rw [hι j hj];exact r2,by rw [hκ j hj];exact r3⟩
  · have hj:j≠k:=by have:=(List.getElem?_eq_some_iff.1 h).1;omega
    exact hF.row j o h _ _ _ (hold j _ hj hm)
  · have hj:j≠k:=by have:=(List.getElem?_eq_some_iff.1 h).1;omega
    exact hF.liv j o h o' (hold j _ hj hm) hl
  · by_cases e:j=k
    · subst e
      rw [hιs] at hb';cases hb'
      exact .inl q2
    · rw [hι j e] at hb'
      exact hF.new j o b' (hold j _ e hm) hl hb'
  · obtain ⟨r1,r2,r3,r4,r5⟩:=hR p (List.mem_cons_of_mem _ hp)
    refine ⟨r1,r2,r3,r4,fun j o ho hl hb' => ?_⟩
    by_cases e:j=k
    · subst e
      rw [hιs] at hb'
      exact hb p hp (Option.some.inj hb').symm
    · rw [hι j e] at hb'
      exact r5 j o (hold j _ e ho) hl hb'
end
section
open Go.Maps Go.MapKept
open Go.ChangeMaps (setBlock)

structure Ent where
  k:Int
  l:List Int
  b:Nat
  cap:Nat
  arr:Array Value

def Ent.val(e:Ent):Value := .slice (some ⟨e.b,0,none⟩) e.l.length e.cap
def Ent.blk(e:Ent):Nat × Obj:=(e.b,.cells e.arr 3 (0,0))
structure Ent.OK (e:Ent):Prop where
  key:(Lit.int .i64 e.k).wf=true
  sz:e.arr.size=e.cap
  le:e.l.length≤e.cap
  cap:e.cap≤maxLen
  at_:e.arr.toList.take e.l.length=e.l.map (Value.int .i64)

structure MapOK (mb:Nat) (es:Array MapEntry) (L:List Ent):Prop where
  e1:∀ x∈es.toList,∃ e∈L,x.key = .int .i64 e.k∧x.val=e.val
  e2:∀ e∈L,∃ x∈es.toList,x.key = .int .i64 e.k∧x.val=e.val
  nd:es.toList.Pairwise (fun x y=>x.key≠y.key)
  ok:∀ e∈L,e.OK
  keys:(L.map (·.k)).Nodup
  blks:(mb::L.map (·.b)).Nodup

theorem MapOK.nil(mb:Nat):MapOK mb #[] []:=⟨fun x h=>by simp at h,fun e h=>by simp at h,by simp,fun e h=>by simp at h,by simp,by simp⟩

def lookE(L:List Ent)(k:Int):Option Ent:=L.find? fun e=>e.k == k
def lookV(L:List Ent)(k:Int):Value:=match lookE L k with
  | some e=>e.val
  | none => .slice none 0 0

theorem lookE_some{L:List Ent}{k:Int}{e:Ent}(h:lookE L k=some e):e∈L∧e.k=k:=⟨List.mem_of_find?_eq_some h,by simpa using List.find?_some h⟩
theorem lookE_none{L:List Ent}{k:Int}(h:lookE L k=none):∀ e∈L,e.k≠k:=fun e he hk=>by
  have:=List.find?_eq_none.1 h e he
  simp [hk] at this
theorem lookE_mem{L:List Ent}{k:Int}{e:Ent}(hn:(L.map (·.k)).Nodup)(he:e∈L)(hk:e.k=k):lookE L k=some e:=by
  cases h:lookE L k with
  | none=>exact absurd hk (lookE_none h e he)
  | some e' =>
    obtain ⟨h1,h2⟩:=lookE_some h
    have:∀ (l:List Ent),(l.map (·.k)).Nodup→e∈l→e'∈l→e=e':=by
      intro l
      induction l with
      | nil=>intro _ h;simp at h
      | cons x r ih =>
        intro hn h3 h4
        rw [List.map_cons,List.nodup_cons] at hn
        rcases List.mem_cons.1 h3 with e1 | h5
        · rcases List.mem_cons.1 h4 with e2 | h6
          · rw [e1,e2]
          · exact absurd (List.mem_map.2 ⟨e',h6,by rw [h2,← hk,e1]⟩) hn.1
        · rcases List.mem_cons.1 h4 with e2 | h6
          · exact absurd (List.mem_map.2 ⟨e,h5,by rw [hk,← h2,e2]⟩) hn.1
          · exact ih hn.2 h5 h6
    rw [this L hn he h1]

section
variable {P:Program} {w:World} {t kt et:TypeId} {mb:Nat} {es:Array MapEntry} {cl:Nat} {L:List Ent}

theorem keyInt(hkt:P.underlying kt=some (.int .i64)){k:Int}(hk:(Lit.int .i64 k).wf=true):keyOf P kt (.int .i64 k)=some (.int .i64 k):=keyOf_int_mk hkt hk

theorem look_run(ht:P.underlying t=some (.map kt et))(hkt:P.underlying kt=some (.int .i64))(hz:(zeroValue et).run P w = .ok (.slice none 0 0) w)(hb:w.heap[mb]? = some (.map es cl))(hM:MapOK mb es L){k:Int}(hk:(Lit.int .i64 k).wf=true) :
    (Instr.lookup t (.map (some mb)) (.int .i64 k) false).run P w = .ok (lookV L k) w:=by
  have K:=int_keyed hkt
  have hkey:=keyInt hkt hk
  have hes:∀ e∈es.toList,∃ l,keyOf P kt e.key=some l:=fun x hx=>by
    obtain ⟨e,he,h1,_⟩:=hM.e1 x hx
    exact ⟨_,by rw [h1];exact keyInt hkt (hM.ok e he).key⟩
  rcases K.find w hkey es.toList hes with ⟨h1,h2⟩ | ⟨j,e0,h1,h2,h3⟩
  · have:lookE L k=none:=by
      rw [lookE,List.find?_eq_none]
      intro e he
      obtain ⟨x,hx,h4,_⟩:=hM.e2 e he
      have:=h2 x hx
      rw [h4] at this
      intro hk'
      exact this (by rw [eq_of_beq hk'])
    unfold lookV
    rw [this]
    simp [Instr.lookup,run_underlying ht,MapKept.run_getObj_map hb,K.check w _ hkey,h1,hz,Result.andThen]
  · obtain ⟨e,he,h4,h5⟩:=hM.e1 e0 (List.mem_of_getElem? h2)
    rw [h3] at h4
    have hk':e.k=k:=by injection h4 with _ h;exact h.symm
    unfold lookV
    rw [lookE_mem hM.keys he hk']
    simp [Instr.lookup,run_underlying ht,MapKept.run_getObj_map hb,K.check w _ hkey,h1,Result.andThen,h5]

def putE(L:List Ent)(e:Ent):List Ent:=L.filter (fun x=>x.k != e.k)++[e]
theorem mem_putE{L:List Ent}{e x:Ent}:x∈putE L e↔(x∈L∧x.k≠e.k)∨x=e:=by simp [putE]

theorem put_run(ht:P.underlying t=some (.map kt et))(hkt:P.underlying kt=some (.int .i64))(hb:w.heap[mb]? = some (.map es cl))(hM:MapOK mb es L)(e:Ent)(he:e.OK)
    (hblk:e.b≠mb∧∀ x∈L,x.k≠e.k→x.b≠e.b) :
    ∃ es' cl',(Instr.mapUpdate t (.map (some mb)) (.int .i64 e.k) e.val).run P w = .ok () (setBlock w mb (.map es' cl'))∧MapOK mb es' (putE L e):=by
  have K:=int_keyed hkt
  have hkey:=keyInt hkt he.key
  have hes:∀ e∈es.toList,∃ l,keyOf P kt e.key=some l:=fun x hx=>by
    obtain ⟨e,he,h1,_⟩:=hM.e1 x hx
    exact ⟨_,by rw [h1];exact keyInt hkt (hM.ok e he).key⟩
  have hok:∀ x∈putE L e,x.OK:=fun x hx=>by
    rcases mem_putE.1 hx with ⟨h1,_⟩ | rfl
    · exact hM.ok x h1
    · exact he
  have hkeys:((putE L e).map (·.k)).Nodup:=by
    unfold putE
    rw [List.map_append,List.nodup_append]
    refine ⟨?_,by simp,?_⟩
    · exact (List.Sublist.map _ (List.filter_sublist)).nodup hM.keys
    · intro x hx y hy
      obtain ⟨z,hz,rfl⟩:=List.mem_map.1 hx
      simp at hy
      subst hy
      have:=(List.mem_filter.1 hz).2
      simpa using this
  have hblks:(mb::(putE L e).map (·.b)).Nodup:=by
    have h0:=List.nodup_cons.1 hM.blks
    refine List.nodup_cons.2 ⟨?_,?_⟩
    · intro hin
      obtain ⟨x,hx,hxb⟩:=List.mem_map.1 hin
      rcases mem_putE.1 hx with ⟨h1,_⟩ | rfl
      · exact h0.1 (List.mem_map.2 ⟨x,h1,hxb⟩)
      · exact hblk.1 hxb
    · unfold putE
      rw [List.map_append,List.nodup_append]
      refine ⟨(List.Sublist.map _ (List.filter_sublist)).nodup h0.2,by simp,?_⟩
      intro x hx y hy
      obtain ⟨z,hz,rfl⟩:=List.mem_map.1 hx
      simp at hy
      subst hy
      obtain ⟨h1,h2⟩:=List.mem_filter.1 hz
      exact hblk.2 z h1 (by simpa using h2)
  rcases K.find w hkey es.toList hes with ⟨h1,h2⟩ | ⟨j,e0,h1,h2,h3⟩
  · refine ⟨es.push ⟨.int .i64 e.k,e.val,cl⟩,cl+1,?_,⟨fun x hx => ?_,fun x hx => ?_,?_,hok,hkeys,hblks⟩⟩
    · simp [Instr.mapUpdate,run_underlying ht,MapKept.run_getObj_map hb,K.check w false hkey,h1,MapKept.run_setObj_map _ hb,Result.andThen,setBlock]
    · simp only [Array.toList_push,List.mem_append,List.mem_singleton] at hx
      rcases hx with hx | rfl
      · obtain ⟨y,hy,q1,q2⟩:=hM.e1 x hx
        refine ⟨y,mem_putE.2 (.inl ⟨hy,fun hk=>h2 x hx (by rw [q1,hk])⟩),q1,q2⟩
      · exact ⟨e,mem_putE.2 (.inr rfl),rfl,rfl⟩
    · rcases mem_putE.1 hx with ⟨q1,_⟩ | rfl
      · obtain ⟨y,hy,q2⟩:=hM.e2 x q1
        exact ⟨y,by simp [hy],q2⟩
      · exact ⟨⟨.int .i64 x.k,x.val,cl⟩,by simp,rfl,rfl⟩
    · rw [Array.toList_push,List.pairwise_append]
      exact ⟨hM.nd,by simp,fun x hx y hy=>by simp at hy;subst hy;exact h2 x hx⟩
  · have hj:es[j]? = some e0:=by simpa using h2
    have hlist:(es.modify j (fun e'=>{ e' with key := .int .i64 e.k,val:=e.val })).toList=es.toList.set j { e0 with key := .int .i64 e.k,val:=e.val }:=by
      rw [Array.toList_modify,Go.ChangeMaps.modify_eq_set _ _ _ _ h2]
    have hjl:j<es.toList.length:=(List.getElem?_eq_some_iff.1 h2).1
    have hother:∀ i x,es.toList[i]? = some x→i≠j→x.key ≠ .int .i64 e.k:=fun i x hi hij=>by
      rw [← h3]
      obtain ⟨hi1,rfl⟩:=List.getElem?_eq_some_iff.1 hi
      obtain ⟨hj1,hje⟩:=List.getElem?_eq_some_iff.1 h2
      have:=List.pairwise_iff_getElem.1 hM.nd
      rcases Nat.lt_or_ge i j with h | h
      · rw [← hje];exact this i j hi1 hj1 h
      · rw [← hje];exact (this j i hj1 hi1 (by omega)).symm
    have who:∀ x∈es.toList.set j { e0 with key := .int .i64 e.k,val:=e.val },x={ e0 with key := .int .i64 e.k,val:=e.val }∨(x∈es.toList∧x.key ≠ .int .i64 e.k):=fun x hx=>by
      obtain ⟨i,hi,ex⟩:=List.getElem_of_mem hx
      rw [List.getElem_set] at ex
      split at ex
      · exact .inl ex.symm
      · rename_i hne
        have hi':i<es.toList.length:=by simpa using hi
        exact .inr ⟨ex ▸ List.getElem_mem hi',hother i x (by rw [List.getElem?_eq_getElem hi',ex]) (fun e=>hne e.symm)⟩
    refine ⟨es.modify j (fun e'=>{ e' with key := .int .i64 e.k,val:=e.val }),cl,?_,⟨fun x hx => ?_,fun x hx => ?_,?_,hok,hkeys,hblks⟩⟩
    · simp [Instr.mapUpdate,run_underlying ht,MapKept.run_getObj_map hb,K.check w false hkey,h1,hj,h3,K.stays w hkey,MapKept.run_setObj_map _ hb,Result.andThen,setBlock]
    · rw [hlist] at hx
      rcases who x hx with rfl | ⟨q1,q2⟩
      · exact ⟨e,mem_putE.2 (.inr rfl),rfl,rfl⟩
      · obtain ⟨y,hy,r1,r2⟩:=hM.e1 x q1
        exact ⟨y,mem_putE.2 (.inl ⟨hy,fun hk=>q2 (by rw [r1,hk])⟩),r1,r2⟩
    · rw [hlist]
      rcases mem_putE.1 hx with ⟨q1,q2⟩ | rfl
      · obtain ⟨y,hy,r1,r2⟩:=hM.e2 x q1
        obtain ⟨i,hi,rfl⟩:=List.getElem_of_mem hy
        have hij:i≠j:=fun hij=>by
          subst hij
          rw [List.getElem?_eq_getElem hi] at h2;cases h2
          rw [h3] at r1;injection r1 with _ r1;exact q2 r1.symm
        exact ⟨es.toList[i],List.mem_iff_getElem.2 ⟨i,by simpa using hi,by rw [List.getElem_set,if_neg (Ne.symm hij)]⟩,r1,r2⟩
      · exact ⟨_,List.mem_iff_getElem.2 ⟨j,by simpa using hjl,by rw [List.getElem_set,if_pos rfl]⟩,rfl,rfl⟩
    · rw [hlist,List.pairwise_iff_getElem]
      intro i1 i2 hi1 hi2 hlt
      simp only [List.length_set] at hi1 hi2
      have h0:=List.pairwise_iff_getElem.1 hM.nd i1 i2 hi1 hi2 hlt
      rw [List.getElem_set,List.getElem_set]
      split
      · rename_i e1
        rw [if_neg (by omega)]
        exact (hother i2 _ (List.getElem?_eq_getElem hi2) (by omega)).symm
      · split
        · exact hother i1 _ (List.getElem?_eq_getElem hi1) (by omega)
        · exact h0

theorem Ent.owns{e:Ent}(he:e.OK)(h:w.heap[e.b]? = some (.cells e.arr 3 (0,0))):w.ownsRow 0 3 1 e.val e.l.length (e.l.map (Value.int .i64)) :=
  ⟨by simp,.inr ⟨e.b,e.cap,e.arr,rfl,Nat.zero_le _,h,he.le,he.cap,by rw [he.sz,Nat.mul_one],by rw [Nat.mul_one];exact he.at_⟩⟩
theorem nil_owns:w.ownsRow 0 3 1 (.slice none 0 0) 0 []:=⟨rfl,.inl ⟨rfl,rfl⟩⟩
theorem owns_ent{v:Value}{l:List Int}{k:Int}(hk:(Lit.int .i64 k).wf=true)(hl:l≠[])(h:w.ownsRow 0 3 1 v l.length (l.map (Value.int .i64))):∃ e:Ent,e.k=k∧e.l=l∧e.val=v∧e.OK∧w.heap[e.b]? = some (.cells e.arr 3 (0,0)):=by
  rcases h.2 with ⟨_,h0⟩ | ⟨g,cap,cur,rfl,_,h1,h2,h3,h4,h5⟩
  · exact absurd (List.eq_nil_of_length_eq_zero h0) hl
  · exact ⟨⟨k,l,g,cap,cur⟩,rfl,rfl,rfl,⟨hk,by rw [h4,Nat.mul_one],h2,h3,by rw [Nat.mul_one] at h5;exact h5⟩,h1⟩
end
end
section
variable {P:Program} {C C0:Cx} {M M0:Mem} {w w0:World}

abbrev SR:=St→List (Nat × Obj)→Prop
def SimR(P:Program)(C0:Cx)(M0:Mem)(w0:World)(Ψ:SR)(a:Act)(w:World):Prop:=∃ st R,Ψ st R∧(∀ p∈R,∀ q∈C0.R,p.1≠q.1)∧Sim P (C0.with (R++C0.R)) M0 w0 st a w
def CodeR(P:Program)(k:Nat)(c:Code)(Ψ:SR)(e:Ex)(Ψ':SR):Prop:=∀ (C0:Cx) (M0:Mem) (w0:World) (a:Act) (w:World),M0.length≤k→SimR P C0 M0 w0 Ψ a w→∀ (n:Nat),c.wpIn (Fen none) n P (fun e' a' w'=>e'=e.toExit∧SimR P C0 M0 w0 Ψ' a' w') a w
def LoopR(P:Program)(k:Nat)(b:Code)(Ψ:SR)(e:Ex)(Ψ':SR):Prop:=∀ (C0:Cx) (M0:Mem) (w0:World) (a:Act) (w:World),M0.length≤k→SimR P C0 M0 w0 Ψ a w→∀ (n:Nat),LoopIn (Fen none) n P b (fun e' a' w'=>e'=e.toExit∧SimR P C0 M0 w0 Ψ' a' w') a w

section
variable {k:Nat} {a b c:Code} {Ψ Ψ1 Ψ':SR} {e:Ex}
theorem CodeR.of(h:∀ st R,Ψ st R→∃ st',Ψ' st' R∧CodeOK P k c st e st'):CodeR P k c Ψ e Ψ':=fun C0 M0 w0 a w hk ⟨st,R,hΨ,hd,hs⟩ n=>by
  obtain ⟨st',hΨ',hc⟩:=h st R hΨ
  refine wpIn_mono (hc (C0.with (R++C0.R)) M0 w0 a w hk hs none (.inl rfl) n) fun e' a' w' hq=>⟨hq.1,st',R,hΨ',hd,hq.2⟩
theorem CodeR.mono{Φ Φ':SR}(h:CodeR P k c Ψ e Ψ')(h1:∀ st R,Φ st R→Ψ st R)(h2:∀ st R,Ψ' st R→Φ' st R):CodeR P k c Φ e Φ':=fun C0 M0 w0 a w hk ⟨st,R,hΨ,hd,hs⟩ n =>
  wpIn_mono (h C0 M0 w0 a w hk ⟨st,R,h1 _ _ hΨ,hd,hs⟩ n) fun e' a' w' ⟨q,st',R',hq,hd',hs'⟩=>⟨q,st',R',h2 _ _ hq,hd',hs'⟩
theorem CodeR.seq(h:CodeR P k a Ψ .normal Ψ1)(h2:CodeR P k b Ψ1 e Ψ'):CodeR P k (.seq a b) Ψ e Ψ':=fun C0 M0 w0 ac w hk hs n=>by
  refine wpIn_seq (wpIn_mono (h C0 M0 w0 ac w hk hs n) ?_)
  rintro e' a' w' ⟨rfl,hs'⟩
  exact h2 C0 M0 w0 a' w' hk hs' n
theorem CodeR.seqx(h:CodeR P k a Ψ e Ψ')(he:e ≠ .normal):CodeR P k (.seq a b) Ψ e Ψ':=fun C0 M0 w0 ac w hk hs n=>by
  refine wpIn_seq (wpIn_mono (h C0 M0 w0 ac w hk hs n) ?_)
  rintro e' a' w' ⟨rfl,hs'⟩
  cases e with
  | normal=>exact absurd rfl he
  | ret=>exact ⟨rfl,hs'⟩
  | exit i=>exact ⟨rfl,hs'⟩
theorem CodeR.block{id:Nat}(h:CodeR P k b Ψ (.exit id) Ψ'):CodeR P k (.block id b) Ψ .normal Ψ':=fun C0 M0 w0 ac w hk hs n=>by
  refine wpIn_block (wpIn_mono (h C0 M0 w0 ac w hk hs n) ?_)
  rintro e' a' w' ⟨rfl,hs'⟩
  simp only [Ex.toExit,Exit.inBlock,if_true]
  exact ⟨trivial,hs'⟩
theorem CodeR.blockn{id:Nat}(h:CodeR P k b Ψ .normal Ψ'):CodeR P k (.block id b) Ψ .normal Ψ':=fun C0 M0 w0 ac w hk hs n=>by
  refine wpIn_block (wpIn_mono (h C0 M0 w0 ac w hk hs n) ?_)
  rintro e' a' w' ⟨rfl,hs'⟩
  exact ⟨rfl,hs'⟩
theorem LoopR.step(h:CodeR P k b Ψ .normal Ψ1)(hr:LoopR P k b Ψ1 e Ψ'):LoopR P k b Ψ e Ψ':=fun C0 M0 w0 a w hk hs n=>LoopIn.step (wpIn_mono (h C0 M0 w0 a w hk hs n) fun e' a' w' hq=>by
  obtain ⟨rfl,hs'⟩:=hq
  exact hr C0 M0 w0 a' w' hk hs' n)
theorem LoopR.exit(h:CodeR P k b Ψ e Ψ')(he:e ≠ .normal):LoopR P k b Ψ e Ψ':=fun C0 M0 w0 a w hk hs n=>LoopIn.step (wpIn_mono (h C0 M0 w0 a w hk hs n) fun e' a' w' hq=>by
  obtain ⟨rfl,hs'⟩:=hq
  cases e with
  | normal=>exact absurd rfl he
  | ret=>exact ⟨rfl,hs'⟩
  | exit id=>exact ⟨rfl,hs'⟩)
theorem LoopR.code(h:LoopR P k b Ψ e Ψ'):CodeR P k (.loop b) Ψ e Ψ':=fun C0 M0 w0 a w hk hs n=>LoopIn.wp (h C0 M0 w0 a w hk hs n)
theorem LoopR.times(N:Nat)(Ψ:Nat→SR)(hs:∀ i,i<N→CodeR P k b (Ψ i) .normal (Ψ (i+1)))(hx:CodeR P k b (Ψ N) e Ψ')(he:e ≠ .normal):LoopR P k b (Ψ 0) e Ψ':=by
  have key:∀ d i,i+d=N→LoopR P k b (Ψ i) e Ψ':=by
    intro d
    induction d with
    | zero => intro i hi;obtain rfl:i=N:=by omega
              exact .exit hx he
    | succ d ih=>intro i hi;exact .step (hs i (by omega)) (ih (i+1) (by omega))
  exact key N 0 (by omega)
theorem CodeR.ok{st st':St}(hn:nrf c=false)(h:CodeR P k c (fun s R=>s=st∧R=[]) e (fun s _=>s=st')):CodeOK P k c st e st':=fun C0 M0 w0 a w hk hs ro hro n=>by
  rcases hro with rfl | hro
  · refine wpIn_mono (h C0 M0 w0 a w hk ⟨st,[],⟨rfl,rfl⟩,by simp,hs⟩ n) ?_
    rintro e' a' w' ⟨q,st1,R,rfl,_,hs'⟩
    exact ⟨q,hs'.less fun p hp=>List.mem_append_right _ hp⟩
  · rw [hn] at hro;cases hro
theorem CodeR.hand(h:∀ (C0:Cx) (M0:Mem) (w0:World) (a:Act) (w:World) (st:St) (R:List (Nat × Obj)),M0.length≤k→Ψ st R→(∀ p∈R,∀ q∈C0.R,p.1≠q.1)→Sim P (C0.with (R++C0.R)) M0 w0 st a w→c.wp P (fun e' a' w'=>e'=e.toExit∧SimR P C0 M0 w0 Ψ' a' w') a w):CodeR P k c Ψ e Ψ':=fun C0 M0 w0 a w hk ⟨st,R,hΨ,hd,hs⟩ n =>
  (wpIn_wide (n:=n)).2 (h C0 M0 w0 a w st R hk hΨ hd hs)
end

theorem Sim.slot{st:St}{a:Act}(h:Sim P C0 M0 w0 st a w){i:Nat}{v:Value}(hi:st.t[i]? = some (.p (.v v))):a.tmps.getD i undef=v:=by
  obtain ⟨C,hS,_⟩:=h
  have:=hS.at hi
  cases this with
  | p _ _ h=>cases h;rfl
theorem Sim.size{st:St}{a:Act}(h:Sim P C0 M0 w0 st a w):a.tmps.size=st.t.length:=by
  obtain ⟨C,hS,_⟩:=h
  exact hS.size
theorem Sim.ints{st:St}{a:Act}{R:List (Nat × Obj)}(h:Sim P (C0.with R) M0 w0 st a w){i:Nat}{l:List Int}(hi:st.t[i]? = some (.p (.sl l.length (l.map fun n => .v (.int .i64 n))))) :
    ∃ p cap,a.tmps.getD i undef = .slice p l.length cap∧l.length≤cap∧cap≤maxLen∧∀ j n,l[j]? = some n→∃ b o,p=some ⟨b,o,none⟩∧b<w.heap.size∧w.cell? ⟨b,o+j,none⟩=some (.int .i64 n)∧∀ q∈R,q.1≠b:=by
  obtain ⟨C,hS,hM,_,_,hR⟩:=h
  have:=hS.at hi
  cases this with
  | p _ _ h =>
    generalize hv:a.tmps.getD i undef=v at h
    generalize hn:l.length=n at h
    generalize hc:(l.map fun n=>PV.v (.int .i64 n))=cs at h
    cases h with
    | sl n cs p cap us h1 h2 h3 h4 h5 =>
      refine ⟨p,cap,rfl,h1,h2,fun j m hj => ?_⟩
      have hjl:j<cs.length:=by
        rw [← hc,List.length_map]
        exact (List.getElem?_eq_some_iff.1 hj).1
      obtain ⟨b,o,q1,q2,q3⟩:=h3 j hjl
      refine ⟨b,o,q1,hM.Fs _ q2,?_,fun q hq e=>(hR q hq).2.2.2.1 (e ▸ q2)⟩
      rw [q3]
      have h6:=h4 j hjl
      have:cs[j] = .v (.int .i64 m):=by
        subst hc
        rw [List.getElem_map]
        obtain ⟨_,h7⟩:=List.getElem?_eq_some_iff.1 hj
        rw [h7]
      rw [this] at h6
      generalize us j=u at h6
      cases h6;rfl
end
section
variable {P:Program} {ops:Array Oper} {md:Region.Mode} {S:World→Prop} {Q:Exit→Act→World→Prop} {L:Nat}

def wpAnyL(P:Program)(md:Region.Mode)(ops:Array Oper)(Q:Exit→Act→World→Prop)(S:World→Prop)(L:Nat):Nat→Array Bool→Act→World→Prop
  | 0,listed,a,w=>Region.ready md ops listed=[]∧Q .normal a w
  | fuel+1,listed,a,w=>(Region.ready md ops listed=[]→Q .normal a w) ∧
    ∀ i∈Region.ready md ops listed,wpOp P ops Q i (fun a' w'=>(i≠L→S w')∧wpAnyL P md ops Q S L fuel (listed.setIfInBounds i true) a' w') a w

theorem wpAny_of_L:∀ (fuel:Nat) (listed:Array Bool) (a:Act) (w:World),wpAnyL P md ops Q S L fuel listed a w→wpAny P md ops Q fuel listed a w
  | 0,_,_,_,h=>h
  | fuel+1,_,_,_,h=>⟨h.1,fun i hi=>wpOp_mono (fun a' w' h'=>wpAny_of_L fuel _ a' w' h'.2) (h.2 i hi)⟩

theorem wpAnyL_first{i:Nat}{oi:Oper}{v:Value}(hi:ops[i]? = some oi)(hsel:∀ (j:Nat) (o:Oper) cs b,ops[j]? = some o→o.op ≠ .select cs b)
    (hQ:∀ c a w,Q (.panic c) (a.put oi.dst v) w→Q (.panic c) a w) (hL:∀ oL,ops[L]? = some oL→∃ e∈oL.after,Region.binds md e=true∧e.on=i) :
    ∀ (fuel:Nat) (listed:Array Bool) (a:Act) (w:World),
      (∀ j oj,ops[j]? = some oj→j≠i→listed.getD j true=false→(∀ e∈oj.after,Region.binds md e=true→e.on≠i)→oi.apart ops oj=true) →
      i∈Region.ready md ops listed→YieldsIf P ops S oi v a→S w →
      wpAnyL P md ops Q S L fuel (listed.setIfInBounds i true) (a.put oi.dst v) w→wpAnyL P md ops Q S L (fuel+1) listed a w:=by
  intro fuel
  induction fuel with
  | zero =>
    intro listed a w _ hr hy hS H
    refine ⟨fun h=>(by rw [h] at hr;cases hr),fun j hj => ?_⟩
    by_cases hji:j=i
    · subst hji;exact hy.wpOp hi hS ⟨fun _=>hS,H⟩
    · have:=ready_mono hj hji
      rw [H.1] at this
      cases this
  | succ fuel ih =>
    intro listed a w hfree hr hy hS H
    refine ⟨fun h=>(by rw [h] at hr;cases hr),fun j hj => ?_⟩
    by_cases hji:j=i
    · subst hji;exact hy.wpOp hi hS ⟨fun _=>hS,H⟩
    · have h1:=H.2 j (ready_mono hj hji)
      obtain ⟨hjun,oj,hoj,hall⟩:=mem_ready.1 hj
      have hnot:∀ e∈oj.after,Region.binds md e=true→e.on≠i:=fun e he hb heq=>by
        have h1:=hall e he hb
        have h0:=(mem_ready.1 hr).1
        rw [heq] at h1
        rcases Nat.lt_or_ge i listed.size with h' | h'
        · simp [h'] at h0 h1;rw [h0] at h1;cases h1
        · simp [Array.getElem?_eq_none h'] at h1
      have hjL:j≠L:=fun e=>by
        subst e
        obtain ⟨e,he,hb,ho⟩:=hL oj hoj
        exact hnot e he hb ho
      have h2:=wpOp_putIf hoj (hfree j oj hoj hji hjun hnot) (fun cs b=>hsel i oi cs b hi) (fun cs b=>hsel j oj cs b hoj) hQ hy h1
      have hfree':∀ k ok,ops[k]? = some ok→k≠i→(listed.setIfInBounds j true).getD k true=false →
          (∀ e∈ok.after,Region.binds md e=true→e.on≠i)→oi.apart ops ok=true:=fun k ok hk hki hun hno=>by
        refine hfree k ok hk hki ?_ hno
        by_cases hjk:j=k
        · subst hjk;exact hjun
        · rw [getD_set_ne true hjk] at hun;exact hun
      refine wpOp_mono (fun a' w' h3=>⟨h3.2.1,ih (listed.setIfInBounds j true) a' w' hfree' (ready_mono hr (Ne.symm hji)) h3.1 (h3.2.1 hjL) ?_⟩) h2
      rw [Array.setIfInBounds_comm _ _ hji]
      exact h3.2.2

def yieldsL(P:Program)(S:World→Prop):List (Oper × Value)→Act→Prop
  | [],_=>True
  | (o,v)::r,a=>(∀ W,S W→(execOp a.eval o).run P W = .ok (.value v) W)∧yieldsL P S r (a.put o.dst v)
def putsL:List (Oper × Value)→Act→Act
  | [],a=>a
  | (o,v)::r,a=>putsL r (a.put o.dst v)

def takeL(md:Region.Mode)(ops:Array Oper)(L:Nat)(rs:List Nat):List Nat→Array Bool→Bool
  | [],listed=>chain rs listed
  | t::ts,listed=>(match ops[t]? with | some o=>o.guard.isNone | none=>false) && (Region.ready md ops listed).contains t && Region.free md ops listed t &&
      (match ops[L]? with | some oL=>oL.after.any fun e=>Region.binds md e && e.on == t | none=>false) && takeL md ops L rs ts (listed.setIfInBounds t true)
where chain:List Nat→Array Bool→Bool
  | [],listed=>(Region.ready md ops listed).isEmpty
  | r::rs,listed=>(match ops[r]? with | some o=>o.guard.isNone | none=>false) && decide (Region.ready md ops listed=[r]) && chain rs (listed.setIfInBounds r true)

theorem wpAnyL_one{r fuel:Nat}{listed:Array Bool}{o:Oper}{a:Act}{w:World}(hr:Region.ready md ops listed=[r])(ho:ops[r]? = some o)(hg:o.guard=none){v:Value}{w':World}
    (hrun:(execOp a.eval o).run P w = .ok (.value v) w'∨(execOp a.eval o).run P w = .ok .skip w'∧v=undef) (hS:r≠L→S w') (h:wpAnyL P md ops Q S L fuel (listed.setIfInBounds r true) (a.put o.dst v) w'):wpAnyL P md ops Q S L (fuel+1) listed a w:=by
  refine ⟨fun h0=>(by rw [hr] at h0;cases h0),fun i hi => ?_⟩
  rw [hr] at hi
  obtain rfl:i=r:=by simpa using hi
  unfold wpOp
  simp only [ho]
  have hw:Region.wanted o (yielded ops a.tmps)=true:=by simp [Region.wanted,hg]
  rw [if_pos hw]
  refine .inl ?_
  unfold Oper.wp
  rcases hrun with hrun | ⟨hrun,rfl⟩
  · rw [hrun];exact ⟨hS,h⟩
  · rw [hrun];exact ⟨hS,h⟩

theorem takeL_any(hsel:Region.noSelect ops=true)(hQ:∀ c a w,¬ Q (.panic c) a w)(rs:List Nat){w:World}(hS:S w):∀ (ts:List Nat) (vs:List Value) (listed:Array Bool) (a:Act),vs.length=ts.length→takeL md ops L rs ts listed=true →
    yieldsL P S ((ts.filterMap fun i=>ops[i]?).zip vs) a→(∀ listed',takeL.chain md ops rs listed'=true→wpAnyL P md ops Q S L rs.length listed' (putsL ((ts.filterMap fun i=>ops[i]?).zip vs) a) w)→wpAnyL P md ops Q S L (ts.length+rs.length) listed a w
  | [],vs,listed,a,hl,hB,hy,h=>by
    have:vs=[]:=by simpa using hl
    subst this
    simp only [List.length_nil,Nat.zero_add]
    exact h listed hB
  | t::ts,[],listed,a,hl,hB,hy,h=>by simp at hl
  | t::ts,v::vs,listed,a,hl,hB,hy,h=>by
    simp only [takeL,Bool.and_eq_true] at hB
    obtain ⟨⟨⟨⟨hp,hrd⟩,hf⟩,hlast⟩,hB'⟩:=hB
    cases ho:ops[t]? with
    | none=>rw [ho] at hp;cases hp
    | some o =>
      rw [ho] at hp
      simp only [Option.isNone_iff_eq_none] at hp
      have e0:(t::ts).filterMap (fun i=>ops[i]?)=o::ts.filterMap (fun i=>ops[i]?):=by simp [ho]
      rw [e0,List.zip_cons_cons] at hy h
      have hw:Region.wanted o (yielded ops a.tmps)=true:=by simp [Region.wanted,hp]
      have e:(t::ts).length+rs.length=(ts.length+rs.length)+1:=by simp;omega
      rw [e]
      refine wpAnyL_first ho (Region.noSelect_spec hsel) (fun c a w hq=>absurd hq (hQ _ _ _)) (fun oL hoL => ?_) _ _ _ _ (Region.free_spec ho hf) (by simpa using hrd) (.inl ⟨hw,hy.1⟩) hS ?_
      · rw [hoL] at hlast
        obtain ⟨e,he,hb⟩:=Array.any_eq_true'.1 hlast
        simp only [Bool.and_eq_true,beq_iff_eq] at hb
        exact ⟨e,he,hb.1,hb.2⟩
      · exact takeL_any hsel hQ rs hS ts vs _ _ (by simpa using hl) hB' hy.2 h

def closedL(l:List Oper)(ts:List Nat)(r1 r2 r3:Nat):Bool :=
  Region.noSelect l.toArray && takeL .any l.toArray r3 [r1,r2,r3] ts (Array.replicate l.toArray.size false) && decide (ts.length+3=l.toArray.size) && decide (r1≠r3∧r2≠r3)

theorem region3{id:Nat}{l:List Oper}{a:Act}{w:World}{o1 o2 o3:Oper}(ts:List Nat)(r1 r2 r3:Nat)(hm:P.follows .mixedOrders=true)(hB:closedL l ts r1 r2 r3=true)(h1:l[r1]? = some o1)(h2:l[r2]? = some o2)(h3:l[r3]? = some o3)
    (hQ:∀ c a w,¬ Q (.panic c) a w) (hS:S { w with drawn:=w.drawn+1 }) (vs:List Value) (hl:vs.length=ts.length) (hy:yieldsL P S ((ts.filterMap fun i=>l[i]?).zip vs) a)
    (h:∀ a',a'=putsL ((ts.filterMap fun i=>l[i]?).zip vs) a→∃ v1 w1 v2 w2 w3,(execOp a'.eval o1).run P { w with drawn:=w.drawn+1 } = .ok (.value v1) w1∧S w1∧(execOp (a'.put o1.dst v1).eval o2).run P w1 = .ok (.value v2) w2∧S w2 ∧
      (execOp ((a'.put o1.dst v1).put o2.dst v2).eval o3).run P w2 = .ok .skip w3∧Q .normal (((a'.put o1.dst v1).put o2.dst v2).put o3.dst undef) w3):(Code.region id l.toArray true).wp P Q a w:=by
  unfold closedL at hB
  simp only [Bool.and_eq_true,decide_eq_true_eq] at hB
  obtain ⟨⟨⟨hsel,ht⟩,hsz⟩,hne⟩:=hB
  refine wp_region_any hm (wpAny_of_L (S:=S) (L:=r3) _ _ _ _ ?_)
  rw [← hsz]
  refine takeL_any (rs:=[r1,r2,r3]) hsel hQ hS ts vs _ a hl (by rw [hsz];exact ht) (by simpa using hy) (fun listed' hc => ?_)
  obtain ⟨v1,w1,v2,w2,w3,e1,s1,e2,s2,e3,hq⟩:=h _ rfl
  simp only [takeL.chain,Bool.and_eq_true,decide_eq_true_eq] at hc
  obtain ⟨⟨g1,c1⟩,⟨g2,c2⟩,⟨g3,c3⟩,c4⟩:=hc
  have k1:l.toArray[r1]? = some o1:=by simpa using h1
  have k2:l.toArray[r2]? = some o2:=by simpa using h2
  have k3:l.toArray[r3]? = some o3:=by simpa using h3
  rw [k1] at g1;rw [k2] at g2;rw [k3] at g3
  simp only [Option.isNone_iff_eq_none] at g1 g2 g3
  have e1':((ts.filterMap fun i=>l.toArray[i]?))=(ts.filterMap fun i=>l[i]?):=by simp
  rw [e1']
  refine wpAnyL_one c1 k1 g1 (.inl e1) (fun _=>s1) ?_
  refine wpAnyL_one c2 k2 g2 (.inl e2) (fun _=>s2) ?_
  refine wpAnyL_one c3 k3 g3 (.inr ⟨e3,rfl⟩) (fun h=>absurd rfl h) ?_
  exact ⟨by simpa using c4,hq⟩

theorem eval_put_same{a:Act}{i:Nat}{v:Value}(h:i<a.tmps.size):(a.put (some i) v).eval (.tmp i)=v:=by
  simp [Act.eval,Act.put,h]
theorem eval_put_ne{a:Act}{i j:Nat}{v:Value}(h:(i == j)=false):(a.put (some i) v).eval (.tmp j)=a.eval (.tmp j):=by
  have:i≠j:=by simpa using h
  simp [Act.eval,Act.put,this]
theorem eval_tmp{a:Act}{i:Nat}:a.eval (.tmp i)=a.tmps.getD i undef:=rfl
theorem put_size{a:Act}{i:Nat}{v:Value}:(a.put (some i) v).tmps.size=a.tmps.size:=by simp [Act.put]
theorem lex_one{id:Nat}{o:Oper}{rest:List Oper}{a:Act}{w w':World}{v:Value}(hg:o.guard=none)(hrun:(execOp a.eval o).run P w = .ok (.value v) w')(h:wpList P ops Q rest (a.put o.dst v) w'):wpList P ops Q (o::rest) a w :=
  wpList_plain hg fun K hK=>by
    unfold Oper.wp
    rw [hrun]
    exact hK _ _ h

def isAnyB:Option AV→Bool
  | some .any=>true
  | _=>false
theorem putAny{l:List AV}{d:Nat}(h:isAnyB l[d]? = true):l.set d .any=l:=by
  cases hd:l[d]? with
  | none=>rw [hd] at h;cases h
  | some x =>
    rw [hd] at h
    have hx:x = .any:=by cases x <;> first | rfl | cases h
    subst hx
    obtain ⟨h1,h2⟩:=List.getElem?_eq_some_iff.1 hd
    rw [← h2]
    exact List.set_getElem_self h1
theorem Sim.any{C0:Cx}{M0:Mem}{w0 w:World}{st:St}{a:Act}(h:Sim P C0 M0 w0 st a w)(d:Option Tmp)(v:Value)(hd:∀ i,d=some i→isAnyB st.t[i]? = true):Sim P C0 M0 w0 st (a.put d v) w:=by
  have h1:=h.put d (x := .any) (u:=v) (fun _ _ => .any _)
  cases d with
  | none=>exact h1
  | some i =>
    have:KV.put st.t (some i) .any=st.t:=putAny (hd i rfl)
    rw [this] at h1
    exact h1
theorem Sim.anyL{C0:Cx}{M0:Mem}{w0 w:World}{st:St}:∀ (l:List (Oper × Value)) {a:Act},Sim P C0 M0 w0 st a w→(l.all fun p=>match p.1.dst with | some i=>isAnyB st.t[i]? | none=>true)=true→Sim P C0 M0 w0 st (putsL l a) w
  | [],a,h,_=>h
  | (o,v)::r,a,h,hb=>by
    rw [List.all_cons,Bool.and_eq_true] at hb
    refine Sim.anyL r (h.any o.dst v fun i hi => ?_) hb.2
    have:=hb.1
    dsimp only at this
    rw [hi] at this
    exact this
end
section
open Go.Maps Go.MapKept
open Go.ChangeMaps (setBlock)
variable {P:Program} {C C0:Cx} {M M0:Mem} {w w0:World}

section
variable {o:Oper} {a:Act} {W W':World}
theorem ex_move{x:Operand}{v:Value}(ho:o.op = .move x)(hv:a.eval x=v):(execOp a.eval o).run P W = .ok (.value v) W:=by
  unfold execOp;rw [ho];simp [hv]
theorem ex_assign{x:Operand}{v:Value}(ho:o.op = .assign x)(hv:a.eval x=v):(execOp a.eval o).run P W = .ok (.value v) W:=by
  unfold execOp;rw [ho];simp [hv]
theorem ex_index{t:TypeId}{x ix:Operand}{v u r:Value}(ho:o.op = .indexAddr t x ix)(hx:a.eval x=v)(hi:a.eval ix=u)(hr:(Instr.indexAt t v u).run P W = .ok r W):(execOp a.eval o).run P W = .ok (.value r) W:=by
  unfold execOp;rw [ho];simp [hx,hi,hr,Result.andThen]
theorem ex_load{t:TypeId}{x:Operand}{v r:Value}(ho:o.op = .load t x)(hx:a.eval x=v)(hr:(Instr.loadAt t v).run P W = .ok r W):(execOp a.eval o).run P W = .ok (.value r) W:=by
  unfold execOp;rw [ho];simp [hx,hr,Result.andThen]
theorem ex_lookup{t:TypeId}{x k:Operand}{v u r:Value}(ho:o.op = .lookup t x k false)(hx:a.eval x=v)(hk:a.eval k=u)(hr:(Instr.lookup t v u false).run P W = .ok r W):(execOp a.eval o).run P W = .ok (.value r) W:=by
  unfold execOp;rw [ho];simp [hx,hk,hr,Result.andThen]
theorem ex_build1{t:TypeId}{x:Operand}{v r:Value}(ho:o.op = .buildSlice t 1 #[(0,x)])(hx:a.eval x=v)(hr:(Instr.buildSlice t 1 #[(0,v)]).run P W = .ok r W'):(execOp a.eval o).run P W = .ok (.value r) W':=by
  unfold execOp;rw [ho];simp [hx,hr,Result.andThen]
theorem ex_append{t:TypeId}{s x:Operand}{v u r:Value}(ho:o.op = .call { callee := .builtin .append,args := #[s,x],argTypes := #[t,t] })(hs:a.eval s=v)(hx:a.eval x=u)(hr:(Builtin.append_ #[t,t] o.type #[v,u]).run P W = .ok r W') :
    (execOp a.eval o).run P W = .ok (.value r) W':=by
  unfold execOp
  simp only [ho,resolve,invoke,builtin,Sem.run_bind,Sem.run_pure,Result.andThen_ok,List.map_toArray,List.map_cons,List.map_nil,hs,hx,hr]
theorem ex_update{t:TypeId}{m k x:Operand}{v u y:Value}(ho:o.op = .mapUpdate t m k x)(hm:a.eval m=v)(hk:a.eval k=u)(hx:a.eval x=y)(hr:(Instr.mapUpdate t v u y).run P W = .ok () W'):(execOp a.eval o).run P W = .ok .skip W':=by
  unfold execOp;rw [ho];simp [hm,hk,hx,hr,Result.andThen]
theorem ex_makeMap{t:TypeId}(ho:o.op = .makeMap t none):(execOp a.eval o).run P W = .ok (.value (.map (some W.heap.size))) (W.alloc (.map #[] 0)):=by
  have hr:(Instr.makeMap t none).run P W = .ok (.map (some W.heap.size)) (W.alloc (.map #[] 0)):=rfl
  unfold execOp;rw [ho];simp [hr,Result.andThen]
end

theorem run_load1{t:Nat}{i:TI}(hi:tiOf P t=some i)(ha:i.agg=false){b o:Nat}{v:Value}(h:w.cell? ⟨b,o,none⟩=some v):(Instr.loadAt t (.pointer (some ⟨b,o,none⟩))).run P w = .ok v w:=by
  unfold Instr.loadAt Instr.sureAddr
  simpa using run_loadVar_one hi ha h

def mapR(mb:Nat)(es:Array MapEntry)(cl:Nat)(L:List Ent):List (Nat × Obj):=(mb,.map es cl)::L.map Ent.blk
theorem mem_mapR{mb:Nat}{es:Array MapEntry}{cl:Nat}{L:List Ent}{p:Nat × Obj}:p∈mapR mb es cl L↔p=(mb,.map es cl)∨∃ e∈L,e.blk=p:=by simp [mapR]
def lookL(L:List Ent)(k:Int):List Int:=match lookE L k with
  | some e=>e.l
  | none=>[]
theorem inj_of_nodup{α β:Type}(f:α→β){x y:α}:∀ (L:List α),(L.map f).Nodup→x∈L→y∈L→f x=f y→x=y
  | [],_,h,_,_=>by simp at h
  | a::r,hn,hx,hy,he=>by
    rw [List.map_cons,List.nodup_cons] at hn
    rcases List.mem_cons.1 hx with e1 | h1
    · rcases List.mem_cons.1 hy with e2 | h2
      · rw [e1,e2]
      · exact absurd (List.mem_map.2 ⟨y,h2,by rw [← he,e1]⟩) hn.1
    · rcases List.mem_cons.1 hy with e2 | h2
      · exact absurd (List.mem_map.2 ⟨x,h1,by rw [he,e2]⟩) hn.1
      · exact inj_of_nodup f r hn.2 h1 h2 he
theorem MapOK.b_inj{mb:Nat}{es:Array MapEntry}{L:List Ent}(h:MapOK mb es L){e e':Ent}(he:e∈L)(he':e'∈L)(hb:e.b=e'.b):e=e':=inj_of_nodup (·.b) L (List.nodup_cons.1 h.blks).2 he he' hb
theorem MapOK.b_mb{mb:Nat}{es:Array MapEntry}{L:List Ent}(h:MapOK mb es L){e:Ent}(he:e∈L):e.b≠mb:=fun hb=>(List.nodup_cons.1 h.blks).1 (List.mem_map.2 ⟨e,he,hb⟩)

theorem mapStep{t kt:TypeId}{S22 ty:TypeId}{st:St}{a:Act}{mb cl:Nat}{es:Array MapEntry}{L:List Ent}{k x:Int}(ht:P.underlying t=some (.map kt S22))(hkt:P.underlying kt=some (.int .i64))(h22:P.underlying S22=some (.slice 3))
    (hi3:(P.info? 3).map (fun i=>(i.zero,i.size,i.bytes))=some (some (.int .i64 0),1,8))
    (hs:Sim P (C0.with (mapR mb es cl L++C0.R)) M0 w0 st a w) (hd:∀ p∈mapR mb es cl L,∀ q∈C0.R,p.1≠q.1) (hM:MapOK mb es L) (hk:(Lit.int .i64 k).wf=true) (hl:∀ e∈L,e.l.length≤1000) :
    ∃ v2 w2 es' cl' e,(Builtin.append_ #[S22,S22] ty #[lookV L k,.slice (some ⟨w.heap.size,0,none⟩) 1 1]).run P (w.alloc (.cells #[.int .i64 x] 3)) = .ok v2 w2 ∧
      (∀ b,b<w.heap.size→(∀ q∈mapR mb es cl L,q.1≠b)→w2.heap[b]? = w.heap[b]?)∧w2.heap[mb]? = w.heap[mb]? ∧
      (Instr.mapUpdate t (.map (some mb)) (.int .i64 k) v2).run P w2 = .ok () (setBlock w2 mb (.map es' cl'))∧MapOK mb es' (putE L e)∧e.k=k∧e.l=lookL L k++[x] ∧
      (∀ p∈mapR mb es' cl' (putE L e),∀ q∈C0.R,p.1≠q.1)∧Sim P (C0.with (mapR mb es' cl' (putE L e)++C0.R)) M0 w0 st a (setBlock w2 mb (.map es' cl')):=by
  obtain ⟨i,hi,hz,hz1,hz2⟩:=info_parts hi3
  have hhas:=hs.has
  have hmb:w.heap[mb]? = some (.map es cl):=hhas (mb,.map es cl) (by simp [mapR])
  have hmlt:=lt_of_some hmb
  have hblkh:∀ e∈L,w.heap[e.b]? = some (.cells e.arr 3 (0,0)):=fun e he=>hhas e.blk (by simp [mapR];exact .inr (.inl ⟨e,he,rfl⟩))
  obtain ⟨n1,n2,n3⟩:=heap_push w (.cells #[.int .i64 x] 3)
  have hown:(w.alloc (.cells #[.int .i64 x] 3)).ownsRow 0 3 1 (lookV L k) (lookL L k).length ((lookL L k).map (Value.int .i64))∧((lookV L k).ownBlock=none∨∃ e0∈L,e0.k=k∧(lookV L k).ownBlock=some e0.b)∧(lookL L k).length≤1000:=by
    unfold lookV lookL
    cases h:lookE L k with
    | none=>exact ⟨nil_owns,.inl rfl,by simp⟩
    | some e0 =>
      obtain ⟨q1,q2⟩:=lookE_some h
      exact ⟨Ent.owns (hM.ok e0 q1) ((n3 _ (lt_of_some (hblkh e0 q1))).trans (hblkh e0 q1)),.inr ⟨e0,q1,q2,rfl⟩,hl e0 q1⟩
  obtain ⟨ho,hbk,hlen⟩:=hown
  obtain ⟨v2,w2,hrun,ho2,hg2,hnil,hat⟩:=run_append_own_at (P:=P) (w:=w.alloc (.cells #[.int .i64 x] 3)) 0 S22 ty 3 i (.int .i64 0) 1 8 h22 hi hz hz1 hz2 rfl (by decide) (lookV L k) (lookL L k).length _ ho
    ⟨w.heap.size,0,none⟩ 1 1 [.int .i64 x] rfl (cell_one_new w (.int .i64 x) 3) (fun u hu=>by simp at hu;subst hu;rfl) (by unfold maxLen;omega) (by omega) (Nat.zero_le _)
  have ho2':w2.ownsRow 0 3 1 v2 (lookL L k++[x]).length ((lookL L k++[x]).map (Value.int .i64)):=by
    rw [List.length_append,List.map_append]
    exact ho2
  obtain ⟨e,rfl,hel,rfl,heo,heh⟩:=owns_ent hk (by simp) ho2'
  have hvb:e.val.ownBlock=some e.b:=rfl
  have hwhere:(∃ e0∈L,e0.k=e.k∧e0.b=e.b)∨e.b=w.heap.size+1:=by
    rcases hat with h | h
    · rcases hbk with h0 | ⟨e0,q1,q2,q3⟩
      · rw [h0,hvb] at h;cases h
      · rw [q3,hvb] at h;exact .inl ⟨e0,q1,q2,(Option.some.inj h).symm⟩
    · rw [hvb] at h
      right
      have:=Option.some.inj h
      rw [this];simp
  have hrow:∀ b,b<w.heap.size→(∀ e0∈L,e0.k=e.k→e0.b≠b)→w2.heap[b]? = w.heap[b]? := fun b hb hno=>by
    refine (hg2.block b (by omega) (fun he => ?_)).trans (n3 b hb)
    rcases hbk with h0 | ⟨e0,q1,q2,q3⟩
    · rw [h0] at he;cases he
    · rw [q3] at he;exact hno e0 q1 q2 (Option.some.inj he).symm
  have hblk:e.b≠mb∧∀ y∈L,y.k≠e.k→y.b≠e.b:=by
    rcases hwhere with ⟨e0,q1,q2,q3⟩ | h
    · refine ⟨q3 ▸ hM.b_mb q1,fun y hy hyk hb=>hyk ?_⟩
      have:=hM.b_inj hy q1 (hb.trans q3.symm)
      rw [this];exact q2
    · refine ⟨by omega,fun y hy _ hb => ?_⟩
      have:=lt_of_some (hblkh y hy)
      omega
  have hmb2:w2.heap[mb]? = w.heap[mb]? := hrow mb hmlt fun e0 he0 _=>hM.b_mb he0
  obtain ⟨es',cl',hup,hM'⟩:=put_run (P:=P) (w:=w2) ht hkt (hmb2.trans hmb) hM e heo hblk
  refine ⟨e.val,w2,es',cl',e,hrun,fun b hb hno=>hrow b hb fun e0 he0 _=>hno e0.blk (by simp [mapR];exact .inr ⟨e0,he0,rfl⟩),hmb2,hup,hM',rfl,hel,?_,?_⟩
  · intro p hp q hq
    rcases mem_mapR.1 hp with rfl | ⟨y,hy,rfl⟩
    · exact hd (mb,.map es cl) (by simp [mapR]) q hq
    · rcases mem_putE.1 hy with ⟨q1,q2⟩ | rfl
      · exact hd y.blk (mem_mapR.2 (.inr ⟨y,q1,rfl⟩)) q hq
      · rcases hwhere with ⟨e0,q1,q2,q3⟩ | h
        · exact fun hpq=>hd e0.blk (mem_mapR.2 (.inr ⟨e0,q1,rfl⟩)) q hq (by rw [← hpq];exact q3)
        · have:=lt_of_some (hhas q (List.mem_append_right _ hq))
          intro hpq
          change y.b=q.1 at hpq
          omega
  · have hne:∀ p∈C0.R,p.1≠mb∧∀ e0∈L,p.1≠e0.b:=fun p hp=>⟨fun h=>hd (mb,.map es cl) (by simp [mapR]) p hp h.symm,fun e0 he0 h=>hd e0.blk (mem_mapR.2 (.inr ⟨e0,he0,rfl⟩)) p hp h.symm⟩
    have hset:∀ b,b≠mb→(setBlock w2 mb (.map es' cl')).heap[b]? = w2.heap[b]? := fun b hb=>by
      unfold setBlock
      simp only [Array.getElem?_setIfInBounds]
      rw [if_neg (Ne.symm hb)]
    have hsetm:(setBlock w2 mb (.map es' cl')).heap[mb]? = some (.map es' cl'):=by
      unfold setBlock
      have:mb<w2.heap.size:=lt_of_some (hmb2.trans hmb)
      simp [this]
    refine hs.beside (fun b=>b=mb∨∃ e0∈L,e0.k=e.k∧e0.b=b) (fun b hb => ?_) hg2.os hg2.tape hg2.output (by have:=hg2.size;unfold setBlock;simp only [Array.size_setIfInBounds];omega) (fun b hb hX => ?_) (fun p hp => ?_)
    · rcases hb with rfl | ⟨e0,q1,q2,rfl⟩
      · exact ⟨_,List.mem_append_left _ (mem_mapR.2 (.inl rfl))⟩
      · exact ⟨_,List.mem_append_left _ (mem_mapR.2 (.inr ⟨e0,q1,rfl⟩))⟩
    · rw [hset b (fun h=>hX (.inl h))]
      exact hrow b hb fun e0 q1 q2 q3=>hX (.inr ⟨e0,q1,q2,q3⟩)
    · rcases List.mem_append.1 hp with hp | hp
      · rcases mem_mapR.1 hp with rfl | ⟨y,hy,rfl⟩
        · exact .inr ⟨hsetm,(fun h=>by cases h),.inr ⟨_,List.mem_append_left _ (mem_mapR.2 (.inl rfl))⟩⟩
        · rcases mem_putE.1 hy with ⟨q1,q2⟩ | rfl
          · refine .inl ⟨List.mem_append_left _ (mem_mapR.2 (.inr ⟨y,q1,rfl⟩)),fun hX => ?_⟩
            rcases hX with hX | ⟨e0,r1,r2,r3⟩
            · exact hM.b_mb q1 hX
            · have:=hM.b_inj q1 r1 r3.symm
              exact q2 (this ▸ r2)
          · refine .inr ⟨(hset _ hblk.1).trans heh,(fun h=>by cases h),?_⟩
            rcases hwhere with ⟨e0,r1,r2,r3⟩ | h
            · exact .inr ⟨.cells e0.arr 3 (0,0),List.mem_append_left _ (mem_mapR.2 (.inr ⟨e0,r1,by unfold Ent.blk;rw [r3]⟩))⟩
            · exact .inl (by show w.heap.size≤y.b;omega)
      · refine .inl ⟨List.mem_append_right _ hp,fun hX => ?_⟩
        rcases hX with hX | ⟨e0,r1,r2,r3⟩
        · exact (hne p hp).1 hX
        · exact (hne p hp).2 e0 r1 r3.symm
end
end KV
end Go.Proofs
section
namespace Go.Proofs
open KL Go.RowKit
namespace KV
open Go.ChangeMaps (setBlock)
variable {C C0:Cx} {M M0:Mem} {w w0:World}

theorem info3z:(Tryz.prog.info? 3).map (fun i=>(i.zero,i.size,i.bytes))=some (some (.int .i64 0),1,8):=by kernel_rfl
theorem ti3:∃ i,tiOf Tryz.prog 3=some i∧i.agg=false∧i.size=1:=by
  have h:(tiOf Tryz.prog 3).map (fun i=>(i.agg,i.size))=some (false,1):=by kernel_rfl
  cases h2:tiOf Tryz.prog 3 with
  | none=>rw [h2] at h;cases h
  | some i=>rw [h2] at h;simp at h;exact ⟨i,rfl,h.1,h.2⟩
abbrev mpv(mb:Nat):PV := .v (.map (some mb))
abbrev stT(c:KL.Cup)(ns:List Int)(mo:Int)(qs:List Int):St:=⟨fr 161 [(1,(.p (intsP ns))),(2,(.p (intP mo))),(3,(.p (intsP qs))),(10,(.ptr 0 0))],[some (.box 120 [(.p (intP c.sk)),(.p (intP c.ra)),(.p (intP c.be)),(.p (intsP c.pts)),(.p (rowsP c.done))])]⟩
abbrev stA(c:KL.Cup)(ns:List Int)(mo:Int)(qs:List Int)(mv:PV):St:=⟨fr 161 [(1,(.p (intsP ns))),(2,(.p (intP mo))),(3,(.p (intsP qs))),(10,(.ptr 0 0)),(12,(.p mv))],[some (.box 120 [(.p (intP c.sk)),(.p (intP c.ra)),(.p (intP c.be)),(.p (intsP c.pts)),(.p (rowsP c.done))])]⟩
abbrev stB(ns:List Int)(mo:Int)(qs:List Int)(mv:PV)(ts:List Int)(i:Nat):St:=⟨fr 161 [(1,(.p (intsP ns))),(2,(.p (intP mo))),(3,(.p (intsP qs))),(12,(.p mv)),(63,(.p (intsP ts))),(64,(.p (intP (ts.length:Int)))),(65,(.p (intP (i:Int))))],[]⟩
abbrev stD(ns:List Int)(mo:Int)(qs:List Int)(mv:PV)(ts:List Int)(i:Nat)(x:Int):St:=⟨fr 161 [(1,(.p (intsP ns))),(2,(.p (intP mo))),(3,(.p (intsP qs))),(12,(.p mv)),(13,(.p (intP (i:Int)))),(14,(.p (intP x))),(63,(.p (intsP ts))),(64,(.p (intP (ts.length:Int)))),(65,(.p (intP (i:Int))))],[]⟩
abbrev stF(ns:List Int)(mo:Int)(qs:List Int)(mv:PV)(n:Nat)(o:List (List Int)):St:=⟨fr 161 [(1,(.p (intsP ns))),(2,(.p (intP mo))),(3,(.p (intsP qs))),(12,(.p mv)),(15,(.own 0)),(85,(.p (intP (n:Int))))],[some (.row 40 o.length (o.flatten.map intP))]⟩
abbrev stG(ns:List Int)(mo:Int)(qs:List Int)(mv:PV)(n:Nat)(o:List (List Int)):St:=⟨fr 161 [(1,(.p (intsP ns))),(2,(.p (intP mo))),(3,(.p (intsP qs))),(12,(.p mv)),(15,(.own 0)),(16,(.p (intP (n:Int)))),(85,(.p (intP (n:Int))))],[some (.row 40 o.length (o.flatten.map intP))]⟩
abbrev stN(ns:List Int)(mo:Int)(qs:List Int)(mv:PV)(n:Nat)(o:List (List Int)):St:=⟨fr 161 [(1,(.p (intsP ns))),(2,(.p (intP mo))),(3,(.p (intsP qs))),(12,(.p mv)),(15,(.own 0)),(16,(.p (intP (n:Int)))),(17,(.p nilS)),(85,(.p (intP (n:Int))))],[some (.row 40 o.length (o.flatten.map intP))]⟩
abbrev stH(ns:List Int)(mo:Int)(qs:List Int)(mv:PV)(n:Nat)(o:List (List Int))(y:Int)(l:List Int):St:=⟨fr 161 [(1,(.p (intsP ns))),(2,(.p (intP mo))),(3,(.p (intsP qs))),(12,(.p mv)),(15,(.own 0)),(16,(.p (intP (n:Int)))),(17,(.own 1)),(85,(.p (intP (n:Int))))],[some (.row 40 o.length (o.flatten.map intP)),some (.row 3 (l.length+1) ((intP y)::(l.map intP)))]⟩

theorem ops14_ex:∃ l:List Oper,sub (cd Tryz.f22) [1,1,1,1,0,1,0,0,1,1,0,0,1] = .region 14 l.toArray true∧closedL l [0,1,2,3,4,5,6,7,8,9,10,11] 12 13 14=true∧l.map (fun o=>(o.op,o.dst))=[(.move (.tmp 12),some 70),(.move (.tmp 1),some 71),(.move (.tmp 13),some 72),(.indexAddr 22 (.tmp 71) (.tmp 72),some 73),(.load 3 (.tmp 73),some 74),(.move (.tmp 12),some 75),(.move (.tmp 1),some 76),(.move (.tmp 13),some 77),(.indexAddr 22 (.tmp 76) (.tmp 77),some 78),(.load 3 (.tmp 78),some 79),(.lookup 124 (.tmp 75) (.tmp 79) false,some 80),(.move (.tmp 14),some 81),(.buildSlice 22 1 #[(0,.tmp 81)],some 82),(.call { callee := .builtin .append,args := #[.tmp 80,.tmp 82],argTypes := #[22,22] },some 83),(.mapUpdate 124 (.tmp 70) (.tmp 74) (.tmp 83),none)] :=
  ⟨match sub (cd Tryz.f22) [1,1,1,1,0,1,0,0,1,1,0,0,1] with | .region _ ops _=>ops.toList | _=>[],by kernel_rfl,by kernel_rfl,by kernel_rfl⟩
theorem r14{ns ts:List Int}{mo:Int}{qs:List Int}{i:Nat}{k x:Int}(hk:ns[i]? = some k)(hkw:(Lit.int .i64 k).wf=true){G G':List Ent→Prop}(hGl:∀ L,G L→∀ e∈L,e.l.length≤1000)
    (hG:∀ L e mb es,G L→MapOK mb es L→e.k=k→e.l=lookL L k++[x]→G' (putE L e)) :
    CodeR Tryz.prog 0 (sub (cd Tryz.f22) [1,1,1,1,0,1,0,0,1,1,0,0,1]) (fun st R=>∃ mb es cl L,st=stD ns mo qs (mpv mb) ts i x∧R=mapR mb es cl L∧MapOK mb es L∧G L) .normal
      (fun st R=>∃ mb es cl L,st=stD ns mo qs (mpv mb) ts i x∧R=mapR mb es cl L∧MapOK mb es L∧G' L):=by
  obtain ⟨l,hc,hB,hops⟩:=ops14_ex
  rw [hc]
  refine CodeR.hand fun C0 M0 w0 a w st R hM0 hΨ hd hs => ?_
  obtain ⟨mb,es,cl,L,rfl,rfl,hM,hGL⟩:=hΨ
  obtain ⟨o0,l0,rfl,h0,hops⟩:=List.map_eq_cons_iff.1 hops
  obtain ⟨o1,l1,rfl,h1,hops⟩:=List.map_eq_cons_iff.1 hops
  obtain ⟨o2,l2,rfl,h2,hops⟩:=List.map_eq_cons_iff.1 hops
  obtain ⟨o3,l3,rfl,h3,hops⟩:=List.map_eq_cons_iff.1 hops
  obtain ⟨o4,l4,rfl,h4,hops⟩:=List.map_eq_cons_iff.1 hops
  obtain ⟨o5,l5,rfl,h5,hops⟩:=List.map_eq_cons_iff.1 hops
  obtain ⟨o6,l6,rfl,h6,hops⟩:=List.map_eq_cons_iff.1 hops
  obtain ⟨o7,l7,rfl,h7,hops⟩:=List.map_eq_cons_iff.1 hops
  obtain ⟨o8,l8,rfl,h8,hops⟩:=List.map_eq_cons_iff.1 hops
  obtain ⟨o9,l9,rfl,h9,hops⟩:=List.map_eq_cons_iff.1 hops
  obtain ⟨o10,l10,rfl,h10,hops⟩:=List.map_eq_cons_iff.1 hops
  obtain ⟨o11,l11,rfl,h11,hops⟩:=List.map_eq_cons_iff.1 hops
  obtain ⟨o12,l12,rfl,h12,hops⟩:=List.map_eq_cons_iff.1 hops
  obtain ⟨o13,l13,rfl,h13,hops⟩:=List.map_eq_cons_iff.1 hops
  obtain ⟨o14,l14,rfl,h14,hops⟩:=List.map_eq_cons_iff.1 hops
  obtain rfl:=List.map_eq_nil_iff.1 hops
  obtain ⟨q0,d0⟩:=Prod.mk.inj h0
  obtain ⟨q1,d1⟩:=Prod.mk.inj h1
  obtain ⟨q2,d2⟩:=Prod.mk.inj h2
  obtain ⟨q3,d3⟩:=Prod.mk.inj h3
  obtain ⟨q4,d4⟩:=Prod.mk.inj h4
  obtain ⟨q5,d5⟩:=Prod.mk.inj h5
  obtain ⟨q6,d6⟩:=Prod.mk.inj h6
  obtain ⟨q7,d7⟩:=Prod.mk.inj h7
  obtain ⟨q8,d8⟩:=Prod.mk.inj h8
  obtain ⟨q9,d9⟩:=Prod.mk.inj h9
  obtain ⟨q10,d10⟩:=Prod.mk.inj h10
  obtain ⟨q11,d11⟩:=Prod.mk.inj h11
  obtain ⟨q12,d12⟩:=Prod.mk.inj h12
  obtain ⟨q13,d13⟩:=Prod.mk.inj h13
  obtain ⟨q14,d14⟩:=Prod.mk.inj h14
  have hsz:a.tmps.size=161:=hs.size
  have v12:a.tmps.getD 12 undef = .map (some mb):=hs.slot rfl
  have v13:a.tmps.getD 13 undef = .int .i64 i:=hs.slot rfl
  have v14:a.tmps.getD 14 undef = .int .i64 x:=hs.slot rfl
  obtain ⟨p,cap,v1,hc1,hc2,hcell⟩:=hs.ints (i:=1) (l:=ns) rfl
  obtain ⟨b,o,rfl,hb,hcl,hne⟩:=hcell i k hk
  have V12:a.eval (.tmp 12) = .map (some mb):=v12
  have V13:a.eval (.tmp 13) = .int .i64 i:=v13
  have V14:a.eval (.tmp 14) = .int .i64 x:=v14
  have V1:a.eval (.tmp 1) = .slice (some ⟨b,o,none⟩) ns.length cap:=v1
  obtain ⟨i3,t3,ha3,hs3⟩:=ti3
  have hil:(i:Int)<(ns.length:Int):=by
    have:=(List.getElem?_eq_some_iff.1 hk).1
    omega
  have hix:∀ W,(Instr.indexAt 22 (.slice (some ⟨b,o,none⟩) ns.length cap) (.int .i64 i)).run Tryz.prog W = .ok (.pointer (some ⟨b,o+i,none⟩)) W:=fun W=>by
    have:=run_indexAt_slice (P:=Tryz.prog) (w:=W) Tryz.underlying22 t3 (b:=b) (off:=o) (n:=ns.length) (cap:=cap) (k := .i64) (i:=(i:Int)) (by omega) hil
    rw [hs3,Nat.mul_one,Int.toNat_natCast] at this
    exact this
  have hmb:w.heap[mb]? = some (.map es cl):=hs.has (mb,.map es cl) (by simp [mapR])
  have hs':=hs.drawn (w.drawn+1)
  obtain ⟨v2,w2,es',cl',e,hrun,hkeep,hmb2,hup,hM',hek,hel,hd',hsim⟩:=mapStep (P:=Tryz.prog) (kt:=3) (S22:=22) (ty:=o13.type) (k:=k) (x:=x) Tryz.underlying124 Tryz.underlying3 Tryz.underlying22 info3z hs' hd hM hkw (hGl L hGL)
  refine region3 (P:=Tryz.prog) (o1:=o12) (o2:=o13) (o3:=o14) (S:=fun W=>W.cell? ⟨b,o+i,none⟩=some (.int .i64 k)∧W.heap[mb]? = some (.map es cl)) [0,1,2,3,4,5,6,7,8,9,10,11] 12 13 14 mixed hB rfl rfl rfl (fun c a w h=>by cases h.1) ⟨hcl,hmb⟩
    [.map (some mb),.slice (some ⟨b,o,none⟩) ns.length cap,.int .i64 i,.pointer (some ⟨b,o+i,none⟩),.int .i64 k,.map (some mb),.slice (some ⟨b,o,none⟩) ns.length cap,.int .i64 i,.pointer (some ⟨b,o+i,none⟩),.int .i64 k,lookV L k,.int .i64 x] rfl ?_ ?_
  · refine ⟨fun W hW=>ex_move q0 (by simp [eval_put_ne,eval_put_same,put_size,hsz,V12,V13,V14,V1,d0,d1,d2,d3,d4,d5,d6,d7,d8,d9,d10,d11]),fun W hW=>ex_move q1 (by simp [eval_put_ne,eval_put_same,put_size,hsz,V12,V13,V14,V1,d0,d1,d2,d3,d4,d5,d6,d7,d8,d9,d10,d11]),fun W hW=>ex_move q2 (by simp [eval_put_ne,eval_put_same,put_size,hsz,V12,V13,V14,V1,d0,d1,d2,d3,d4,d5,d6,d7,d8,d9,d10,d11]),fun W hW=>ex_index q3 (by simp [eval_put_ne,eval_put_same,put_size,hsz,V12,V13,V14,V1,d0,d1,d2,d3,d4,d5,d6,d7,d8,d9,d10,d11]) (by simp [eval_put_ne,eval_put_same,put_size,hsz,V12,V13,V14,V1,d0,d1,d2,d3,d4,d5,d6,d7,d8,d9,d10,d11]) (hix W),fun W hW=>ex_load q4 (by simp [eval_put_ne,eval_put_same,put_size,hsz,V12,V13,V14,V1,d0,d1,d2,d3,d4,d5,d6,d7,d8,d9,d10,d11]) (run_load1 t3 ha3 hW.1),fun W hW=>ex_move q5 (by simp [eval_put_ne,eval_put_same,put_size,hsz,V12,V13,V14,V1,d0,d1,d2,d3,d4,d5,d6,d7,d8,d9,d10,d11]),fun W hW=>ex_move q6 (by simp [eval_put_ne,eval_put_same,put_size,hsz,V12,V13,V14,V1,d0,d1,d2,d3,d4,d5,d6,d7,d8,d9,d10,d11]),fun W hW=>ex_move q7 (by simp [eval_put_ne,eval_put_same,put_size,hsz,V12,V13,V14,V1,d0,d1,d2,d3,d4,d5,d6,d7,d8,d9,d10,d11]),fun W hW=>ex_index q8 (by simp [eval_put_ne,eval_put_same,put_size,hsz,V12,V13,V14,V1,d0,d1,d2,d3,d4,d5,d6,d7,d8,d9,d10,d11]) (by simp [eval_put_ne,eval_put_same,put_size,hsz,V12,V13,V14,V1,d0,d1,d2,d3,d4,d5,d6,d7,d8,d9,d10,d11]) (hix W),fun W hW=>ex_load q9 (by simp [eval_put_ne,eval_put_same,put_size,hsz,V12,V13,V14,V1,d0,d1,d2,d3,d4,d5,d6,d7,d8,d9,d10,d11]) (run_load1 t3 ha3 hW.1),fun W hW=>ex_lookup q10 (by simp [eval_put_ne,eval_put_same,put_size,hsz,V12,V13,V14,V1,d0,d1,d2,d3,d4,d5,d6,d7,d8,d9,d10,d11]) (by simp [eval_put_ne,eval_put_same,put_size,hsz,V12,V13,V14,V1,d0,d1,d2,d3,d4,d5,d6,d7,d8,d9,d10,d11]) (look_run Tryz.underlying124 Tryz.underlying3 rfl hW.2 hM hkw),fun W hW=>ex_move q11 (by simp [eval_put_ne,eval_put_same,put_size,hsz,V12,V13,V14,V1,d0,d1,d2,d3,d4,d5,d6,d7,d8,d9,d10,d11]),trivial⟩
  · intro a' ha'
    have e70:a'.eval (.tmp 70) = .map (some mb):=by rw [ha'];simp [putsL,eval_put_ne,eval_put_same,put_size,hsz,V12,V13,V14,V1,d0,d1,d2,d3,d4,d5,d6,d7,d8,d9,d10,d11]
    have e74:a'.eval (.tmp 74) = .int .i64 k:=by rw [ha'];simp [putsL,eval_put_ne,eval_put_same,put_size,hsz,V12,V13,V14,V1,d0,d1,d2,d3,d4,d5,d6,d7,d8,d9,d10,d11]
    have e80:a'.eval (.tmp 80)=lookV L k:=by rw [ha'];simp [putsL,eval_put_ne,eval_put_same,put_size,hsz,V12,V13,V14,V1,d0,d1,d2,d3,d4,d5,d6,d7,d8,d9,d10,d11]
    have e81:a'.eval (.tmp 81) = .int .i64 x:=by rw [ha'];simp [putsL,eval_put_ne,eval_put_same,put_size,hsz,V12,V13,V14,V1,d0,d1,d2,d3,d4,d5,d6,d7,d8,d9,d10,d11]
    have hsz':a'.tmps.size=161:=by rw [ha'];simp [putsL,put_size,hsz,d0,d1,d2,d3,d4,d5,d6,d7,d8,d9,d10,d11]
    obtain ⟨inf,hi,hz,hz1,hz2⟩:=info_parts info3z
    have hbld:∀ W:World,(Instr.buildSlice 22 1 #[(0,.int .i64 x)]).run Tryz.prog W = .ok (.slice (some ⟨W.heap.size,0,none⟩) 1 1) (W.alloc (.cells #[.int .i64 x] 3)):=fun W =>
      run_build0 (P:=Tryz.prog) 22 3 inf 1 #[(0,.int .i64 x)] #[.int .i64 x] (.int .i64 0) Tryz.underlying22 hi hz (by rw [hz1];decide) (by rw [hz1];kernel_rfl)
    refine ⟨_,_,v2,w2,setBlock w2 mb (.map es' cl'),ex_build1 q12 e81 (hbld _),?_,ex_append q13 (by rw [d12,eval_put_ne rfl];exact e80) (by rw [d12,eval_put_same (by omega)]) hrun,⟨?_,hmb2.trans hmb⟩,ex_update q14 (by rw [d12,d13,eval_put_ne rfl,eval_put_ne rfl];exact e70) (by rw [d12,d13,eval_put_ne rfl,eval_put_ne rfl];exact e74) (by rw [d12,d13,eval_put_same (by rw [put_size];omega)]) hup,?_⟩
    · obtain ⟨n1,n2,n3⟩:=heap_push { w with drawn:=w.drawn+1 } (.cells #[.int .i64 x] 3)
      exact ⟨(cell_heap (n3 b hb) _).trans hcl,(n3 mb (lt_of_some hmb)).trans hmb⟩
    · exact (cell_heap (hkeep b hb fun q hq=>hne q (List.mem_append_left _ hq)) _).trans hcl
    · refine ⟨rfl,_,_,⟨mb,es',cl',putE L e,rfl,rfl,hM',hG L e mb es hGL hM hek hel⟩,hd',?_⟩
      have h1:=(Sim.anyL [(o0,.map (some mb)),(o1,.slice (some ⟨b,o,none⟩) ns.length cap),(o2,.int .i64 i),(o3,.pointer (some ⟨b,o+i,none⟩)),(o4,.int .i64 k),(o5,.map (some mb)),(o6,.slice (some ⟨b,o,none⟩) ns.length cap),(o7,.int .i64 i),(o8,.pointer (some ⟨b,o+i,none⟩)),(o9,.int .i64 k),(o10,lookV L k),(o11,.int .i64 x)] hsim (by
        simp only [List.all_cons,List.all_nil,d0,d1,d2,d3,d4,d5,d6,d7,d8,d9,d10,d11]
        rfl))
      have h2:=((h1.any o12.dst (.slice (some ⟨w.heap.size,0,none⟩) 1 1) (fun i hi=>by rw [d12] at hi;cases hi;rfl)).any o13.dst v2 (fun i hi=>by rw [d13] at hi;cases hi;rfl)).any o14.dst undef (fun i hi=>by rw [d14] at hi;cases hi)
      rw [ha']
      exact h2
end KV
end Go.Proofs
end
section
namespace Go.Proofs
open KL Go.RowKit
namespace KV
open Go.ChangeMaps (setBlock)
variable {C C0:Cx} {M M0:Mem} {w w0:World}

def grp(ns ts:List Int)(g:Int)(i:Nat):List Int:=((ns.zip ts).take i).filterMap fun p=>if p.1=g then some p.2 else none
theorem grp_zero(ns ts:List Int)(g:Int):grp ns ts g 0=[]:=rfl
theorem grp_succ{ns ts:List Int}{g k x:Int}{i:Nat}(hk:ns[i]? = some k)(hx:ts[i]? = some x):grp ns ts g (i+1)=grp ns ts g i++(if k=g then [x] else []):=by
  have:(ns.zip ts)[i]? = some (k,x):=List.getElem?_zip_eq_some.2 ⟨hk,hx⟩
  unfold grp
  rw [List.take_add_one,this,List.filterMap_append]
  by_cases h:k=g <;> simp [h]
theorem grp_len(ns ts:List Int)(g:Int)(i:Nat):(grp ns ts g i).length≤i:=by
  unfold grp
  exact Nat.le_trans (List.length_filterMap_le _ _) (List.length_take_le _ _)

structure GrpOK (ns ts:List Int) (i:Nat) (L:List Ent):Prop where
  a:∀ e∈L,e.l=grp ns ts e.k i∧e.l≠[]
  b:∀ g,grp ns ts g i≠[]→∃ e∈L,e.k=g
theorem GrpOK.nil(ns ts:List Int):GrpOK ns ts 0 []:=⟨fun e h=>by simp at h,fun g h=>absurd (grp_zero ns ts g) h⟩
theorem GrpOK.look{ns ts:List Int}{i:Nat}{L:List Ent}(h:GrpOK ns ts i L)(k:Int):lookL L k=grp ns ts k i:=by
  unfold lookL
  cases hl:lookE L k with
  | some e =>
    obtain ⟨h1,rfl⟩:=lookE_some hl
    exact (h.a e h1).1
  | none =>
    cases hg:grp ns ts k i with
    | nil=>rfl
    | cons y l =>
      obtain ⟨e,he,hk⟩:=h.b k (by rw [hg];simp)
      exact absurd hk (lookE_none hl e he)
theorem GrpOK.step{ns ts:List Int}{i:Nat}{L:List Ent}{k x:Int}(hk:ns[i]? = some k)(hx:ts[i]? = some x)(h:GrpOK ns ts i L)(e:Ent)(hek:e.k=k)(hel:e.l=lookL L k++[x]):GrpOK ns ts (i+1) (putE L e):=by
  refine ⟨fun y hy => ?_,fun g hg => ?_⟩
  · rcases mem_putE.1 hy with ⟨h1,h2⟩ | rfl
    · obtain ⟨q1,q2⟩:=h.a y h1
      refine ⟨?_,q2⟩
      rw [grp_succ hk hx,if_neg (fun h=>h2 (by rw [hek,h])),List.append_nil]
      exact q1
    · refine ⟨?_,by rw [hel];simp⟩
      rw [hel,h.look,grp_succ hk hx,hek,if_pos rfl]
  · by_cases hgk:g=k
    · exact ⟨e,mem_putE.2 (.inr rfl),by rw [hek,hgk]⟩
    · rw [grp_succ hk hx,if_neg (fun h=>hgk h.symm),List.append_nil] at hg
      obtain ⟨y,hy,hyk⟩:=h.b g hg
      exact ⟨y,mem_putE.2 (.inl ⟨hy,by rw [hyk,hek];exact hgk⟩),hyk⟩

def PsiM(f:PV→St)(G:List Ent→Prop):SR:=fun st R=>∃ mb es cl L,st=f (mpv mb)∧R=mapR mb es cl L∧MapOK mb es L∧G L
def PsiK(f:PV→St)(n:Nat)(G:List Ent→Prop):SR:=fun st R=>∃ mb es cl L,st=f (mpv mb)∧(mb,Obj.map es cl)∈R∧(∀ e∈L,(n:Int)≤e.k→e.blk∈R)∧MapOK mb es L∧G L
section
variable {c:Code} {f f':PV→St} {G:List Ent→Prop} {e:Ex}
theorem CodeR.ofM(h:∀ mb,CodeOK Tryz.prog 0 c (f (mpv mb)) e (f' (mpv mb))):CodeR Tryz.prog 0 c (PsiM f G) e (PsiM f' G):=CodeR.of fun st R ⟨mb,es,cl,L,h1,h2,h3,h4⟩=>⟨_,⟨mb,es,cl,L,rfl,h2,h3,h4⟩,h1 ▸ h mb⟩
theorem CodeR.ofK{n n':Nat}(hn:n≤n')(h:∀ mb,CodeOK Tryz.prog 0 c (f (mpv mb)) e (f' (mpv mb))):CodeR Tryz.prog 0 c (PsiK f n G) e (PsiK f' n' G):=CodeR.of fun st R ⟨mb,es,cl,L,h1,h2,h3,h4,h5⟩=>⟨_,⟨mb,es,cl,L,rfl,h2,fun e he hk=>h3 e he (by omega),h4,h5⟩,h1 ▸ h mb⟩
end

theorem ops10_ex:∃ l:List Oper,sub (cd Tryz.f22) [1,1,1,0] = .region 10 l.toArray false∧l.map (fun o=>(o.op,o.dst,o.guard))=[(.makeMap 124 none,some 61,none),(.assign (.tmp 61),some 12,none)] :=
  ⟨match sub (cd Tryz.f22) [1,1,1,0] with | .region _ ops _=>ops.toList | _=>[],by kernel_rfl,by kernel_rfl⟩
theorem r10{c:KL.Cup}{ns:List Int}{mo:Int}{qs ts:List Int}:CodeR Tryz.prog 0 (sub (cd Tryz.f22) [1,1,1,0]) (fun st R=>st=stT c ns mo qs∧R=[]) .normal (PsiM (stA c ns mo qs) (GrpOK ns ts 0)):=by
  obtain ⟨l,hc,hops⟩:=ops10_ex
  rw [hc]
  refine CodeR.hand fun C0 M0 w0 a w st R hM0 hΨ hd hs => ?_
  obtain ⟨rfl,rfl⟩:=hΨ
  obtain ⟨o0,l0,rfl,h0,hops⟩:=List.map_eq_cons_iff.1 hops
  obtain ⟨o1,l1,rfl,h1,hops⟩:=List.map_eq_cons_iff.1 hops
  obtain rfl:=List.map_eq_nil_iff.1 hops
  obtain ⟨q0,h0⟩:=Prod.mk.inj h0
  obtain ⟨d0,g0⟩:=Prod.mk.inj h0
  obtain ⟨q1,h1⟩:=Prod.mk.inj h1
  obtain ⟨d1,g1⟩:=Prod.mk.inj h1
  have hsz:a.tmps.size=161:=hs.size
  obtain ⟨n1,n2,n3⟩:=heap_push w (.map #[] 0)
  refine wp_region_lit (lex_one (id:=10) g0 (ex_makeMap q0) (lex_one (id:=10) g1 (ex_assign (v := .map (some w.heap.size)) q1 (by rw [d0,eval_put_same (by omega)])) ?_))
  refine wpList_nil ⟨rfl,_,_,⟨w.heap.size,#[],0,[],rfl,rfl,MapOK.nil _,GrpOK.nil _ _⟩,?_,?_⟩
  · intro p hp q hq
    rcases mem_mapR.1 hp with rfl | ⟨e,he,_⟩
    · intro hpq
      have:=lt_of_some (hs.has q (List.mem_append_right _ hq))
      change w.heap.size=q.1 at hpq
      omega
    · simp at he
  · have h2:=hs.beside (R':=mapR w.heap.size #[] 0 []++C0.R) (w':=w.alloc (.map #[] 0)) (fun _=>False) (fun _ h=>h.elim) rfl rfl rfl (by omega) (fun b hb _=>n3 b hb) (fun p hp=>by
      rcases List.mem_append.1 hp with hp | hp
      · rcases mem_mapR.1 hp with rfl | ⟨e,he,_⟩
        · exact .inr ⟨n2,(fun h=>by cases h),.inl (Nat.le_refl _)⟩
        · simp at he
      · exact .inl ⟨List.mem_append_right _ hp,fun h=>h⟩)
    have h3:=(h2.any o0.dst (.map (some w.heap.size)) (fun i hi=>by rw [d0] at hi;cases hi;rfl)).put (some 12) (x := .p (mpv w.heap.size)) (u := .map (some w.heap.size)) (fun _ _ => .p _ _ (.v _))
    rw [d1]
    exact h3

theorem ops20_ex:∃ l:List Oper,sub (cd Tryz.f22) [1,1,1,1,1,1,0,1,0,0,1,1,0,0,1,0] = .region 20 l.toArray false∧l.map (fun o=>(o.op,o.dst,o.guard))=[(.move (.tmp 12),some 88,none),(.move (.tmp 16),some 89,none),(.lookup 124 (.tmp 88) (.tmp 89) false,some 90,none),(.assign (.tmp 90),some 17,none)] :=
  ⟨match sub (cd Tryz.f22) [1,1,1,1,1,1,0,1,0,0,1,1,0,0,1,0] with | .region _ ops _=>ops.toList | _=>[],by kernel_rfl,by kernel_rfl⟩
theorem wf_int{n:Nat}(h:n≤1000):(Lit.int .i64 (n:Int)).wf=true:=by
  simp [Lit.wf,IntKind.min,IntKind.max,IntKind.bits,IntKind.signed]
  omega
theorem r20a{ns ts:List Int}{mo:Int}{qs:List Int}{n:Nat}{o:List (List Int)}{N:Nat}(hn:n≤1000)(K:Act→World→Prop){C0:Cx}{a:Act}{R:List (Nat × Obj)}{mb cl:Nat}{es:Array MapEntry}{L:List Ent}{Q:Exit→Act→World→Prop}(hm:(mb,Obj.map es cl)∈R)(hM:MapOK mb es L)
    (hs:Sim Tryz.prog (C0.with (R++C0.R)) M0 w0 (stG ns mo qs (mpv mb) n o) a w)
    (h:∀ a',(a'.tmps.getD 17 undef=lookV L n)→Sim Tryz.prog (C0.with (R++C0.R)) M0 w0 ⟨KV.put (stG ns mo qs (mpv mb) n o).t (some 17) .any,(stG ns mo qs (mpv mb) n o).m⟩ a' w→Q .normal a' w) :
    (sub (cd Tryz.f22) [1,1,1,1,1,1,0,1,0,0,1,1,0,0,1,0]).wp Tryz.prog Q a w:=by
  obtain ⟨l,hc,hops⟩:=ops20_ex
  rw [hc]
  obtain ⟨o0,l0,rfl,h0,hops⟩:=List.map_eq_cons_iff.1 hops
  obtain ⟨o1,l1,rfl,h1,hops⟩:=List.map_eq_cons_iff.1 hops
  obtain ⟨o2,l2,rfl,h2,hops⟩:=List.map_eq_cons_iff.1 hops
  obtain ⟨o3,l3,rfl,h3,hops⟩:=List.map_eq_cons_iff.1 hops
  obtain rfl:=List.map_eq_nil_iff.1 hops
  obtain ⟨q0,h0⟩:=Prod.mk.inj h0
  obtain ⟨d0,g0⟩:=Prod.mk.inj h0
  obtain ⟨q1,h1⟩:=Prod.mk.inj h1
  obtain ⟨d1,g1⟩:=Prod.mk.inj h1
  obtain ⟨q2,h2⟩:=Prod.mk.inj h2
  obtain ⟨d2,g2⟩:=Prod.mk.inj h2
  obtain ⟨q3,h3⟩:=Prod.mk.inj h3
  obtain ⟨d3,g3⟩:=Prod.mk.inj h3
  have hsz:a.tmps.size=161:=hs.size
  have V12:a.eval (.tmp 12) = .map (some mb):=hs.slot rfl
  have V16:a.eval (.tmp 16) = .int .i64 n:=hs.slot rfl
  have hmb:w.heap[mb]? = some (.map es cl):=hs.has (mb,.map es cl) (List.mem_append_left _ hm)
  refine wp_region_lit (lex_one (id:=20) g0 (ex_move (v := .map (some mb)) q0 V12) (lex_one (id:=20) g1 (ex_move (v := .int .i64 n) q1 (by rw [d0,eval_put_ne rfl];exact V16)) (lex_one (id:=20) g2 (ex_lookup (v := .map (some mb)) (u := .int .i64 n) (r:=lookV L n) q2 (by rw [d0,d1,eval_put_ne rfl,eval_put_same (by omega)]) (by rw [d0,d1,eval_put_same (by rw [put_size];omega)])
    (look_run Tryz.underlying124 Tryz.underlying3 rfl hmb hM (wf_int hn))) (lex_one (id:=20) g3 (ex_assign (v:=lookV L n) q3 (by rw [d2,eval_put_same (by rw [d0,d1,put_size,put_size];omega)])) ?_))))
  refine wpList_nil (h _ ?_ ?_)
  · rw [d0,d1,d2,d3]
    rw [← eval_tmp]
    exact eval_put_same (by rw [put_size,put_size,put_size];omega)
  · have h4:=((hs.any o0.dst (.map (some mb)) (fun i hi=>by rw [d0] at hi;cases hi;rfl)).any o1.dst (.int .i64 n) (fun i hi=>by rw [d1] at hi;cases hi;rfl)).any o2.dst (lookV L n) (fun i hi=>by rw [d2] at hi;cases hi;rfl)
    have h5:=h4.put (some 17) (x := .any) (u:=lookV L n) (fun _ _ => .any _)
    rw [d3]
    exact h5
theorem r20n{ns ts:List Int}{mo:Int}{qs:List Int}{n:Nat}{o:List (List Int)}{N:Nat}(hn:n≤1000)(hg:grp ns ts n N=[]):CodeR Tryz.prog 0 (sub (cd Tryz.f22) [1,1,1,1,1,1,0,1,0,0,1,1,0,0,1,0]) (PsiK (fun mv=>stG ns mo qs mv n o) n (GrpOK ns ts N)) .normal
    (PsiK (fun mv=>stN ns mo qs mv n o) n (GrpOK ns ts N)):=by
  refine CodeR.hand fun C0 M0 w0 a w st R hM0 hΨ hd hs => ?_
  obtain ⟨mb,es,cl,L,rfl,hm,hR,hM,hG⟩:=hΨ
  refine r20a (ts:=ts) (N:=N) hn (fun _ _=>True) hm hM hs fun a' hv hs'=>⟨rfl,_,R,⟨mb,es,cl,L,rfl,hm,hR,hM,hG⟩,hd,?_⟩
  have hl:lookV L n = .slice none 0 0:=by
    unfold lookV
    cases h:lookE L n with
    | none=>rfl
    | some e =>
      obtain ⟨h1,h2⟩:=lookE_some h
      obtain ⟨q1,q2⟩:=hG.a e h1
      rw [h2,hg] at q1
      exact absurd q1 q2
  have hput:a'.put (some 17) (.slice none 0 0)=a':=by
    unfold Act.put
    have hsz:a'.tmps.size=161:=hs'.size
    have:a'.tmps.setIfInBounds 17 (.slice none 0 0)=a'.tmps:=by
      apply Array.ext
      · simp
      · intro j h1 h2
        rw [Array.getElem_setIfInBounds (by simpa using h1)]
        split
        · rename_i e
          subst e
          rw [hl,Array.getD_eq_getD_getElem?,Array.getElem?_eq_getElem h2] at hv
          exact hv.symm
        · rfl
    simp only [this]
  have h5:=hs'.put (some 17) (x := .p nilS) (u := .slice none 0 0) (fun _ _ => .p _ _ (.v _))
  rw [hput] at h5
  exact h5
theorem r20c{ns ts:List Int}{mo:Int}{qs:List Int}{n:Nat}{o:List (List Int)}{N:Nat}{y:Int}{l:List Int}(hn:n≤1000)(hg:grp ns ts n N=y::l):CodeR Tryz.prog 0 (sub (cd Tryz.f22) [1,1,1,1,1,1,0,1,0,0,1,1,0,0,1,0]) (PsiK (fun mv=>stG ns mo qs mv n o) n (GrpOK ns ts N)) .normal
    (PsiK (fun mv=>stH ns mo qs mv n o y l) (n+1) (GrpOK ns ts N)):=by
  refine CodeR.hand fun C0 M0 w0 a w st R hM0 hΨ hd hs => ?_
  obtain ⟨mb,es,cl,L,rfl,hm,hR,hM,hG⟩:=hΨ
  obtain ⟨e,he,hek⟩:=hG.b n (by rw [hg];simp)
  obtain ⟨q1,q2⟩:=hG.a e he
  rw [hek,hg] at q1
  have heR:=hR e he (by rw [hek];omega)
  have hl:lookV L n=e.val:=by unfold lookV;rw [lookE_mem hM.keys he hek]
  refine r20a (ts:=ts) (N:=N) hn (fun _ _=>True) hm hM hs fun a' hv hs'=>⟨rfl,_,R.filter (fun p=>p.1 != e.b),⟨mb,es,cl,L,rfl,List.mem_filter.2 ⟨hm,by simpa using (hM.b_mb he).symm⟩,fun e' he' hk=>List.mem_filter.2 ⟨hR e' he' (by omega),?_⟩,hM,hG⟩,fun p hp=>hd p ((List.mem_filter.1 hp).1),?_⟩
  · simp only [Ent.blk,bne_iff_ne,ne_eq]
    intro hb
    have:=hM.b_inj he' he hb
    rw [this,hek] at hk
    omega
  · have h6:=hs'.less (R':=e.blk::(R.filter (fun p=>p.1 != e.b)++C0.R)) (fun p hp=>by
      rcases List.mem_cons.1 hp with rfl | hp
      · exact List.mem_append_left _ heR
      · rcases List.mem_append.1 hp with hp | hp
        · exact List.mem_append_left _ ((List.mem_filter.1 hp).1)
        · exact List.mem_append_right _ hp)
    obtain ⟨i,hi,hsz⟩:=size3
    have hok:=hM.ok e he
    have hat:=hok.at_
    obtain ⟨r1,r2⟩:=vals_arr (w:=w) (fun _=>True) hat
    have h7:=h6.hand (k:=1) (d:=17) (n:=e.l.length) (cap:=e.cap) (cs:=e.l.map intP) (i:=i) (fun p hp=>by
        rcases List.mem_append.1 hp with hp | hp
        · simpa using (List.mem_filter.1 hp).2
        · exact fun h=>hd e.blk heR p hp h.symm) (by omega) (fun o ho=>by cases ho) (by rw [hv,hl];rfl) hi (by rw [hsz,Nat.mul_one];exact hok.sz) (by rw [hsz];simp) hok.le hok.cap
      (fun F j hj=>(vals_arr (w:=w) F hat).1 j hj) r2
    rw [q1] at h7
    exact h7
end KV
end Go.Proofs
end
section
namespace Go.Proofs
open KL Go.RowKit
namespace KV

abbrev stB6(ns:List Int)(mo:Int)(qs:List Int)(mv:PV)(ts:List Int)(i:Nat):St:=⟨fr 161 [(1,(.p (intsP ns))),(2,(.p (intP mo))),(3,(.p (intsP qs))),(12,(.p mv)),(63,(.p (intsP ts))),(64,(.p (intP (ts.length:Int)))),(65,(.p (intP (i:Int)))),(66,(.p (blP (decide ((i:Int)<(ts.length:Int))))))],[]⟩
abbrev stF6(ns:List Int)(mo:Int)(qs:List Int)(mv:PV)(n:Nat)(o:List (List Int)):St:=⟨fr 161 [(1,(.p (intsP ns))),(2,(.p (intP mo))),(3,(.p (intsP qs))),(12,(.p mv)),(15,(.own 0)),(85,(.p (intP (n:Int)))),(86,(.p (blP (decide ((n:Int)<(31:Int))))))],[some (.row 40 o.length (o.flatten.map intP))]⟩
theorem nat_loop1{ns ts:List Int}{mo:Int}{qs:List Int}(hl:ns.length=ts.length)(hw:∀ k∈ns,(Lit.int .i64 k).wf=true)(hN:ts.length≤1000) :
    CodeR Tryz.prog 0 (sub (cd Tryz.f22) [1,1,1,1,0,1]) (PsiM (fun mv=>stB ns mo qs mv ts 0) (GrpOK ns ts 0)) .normal (PsiM (fun mv=>stB ns mo qs mv ts ts.length) (GrpOK ns ts ts.length)):=by
  rw [show sub (cd Tryz.f22) [1,1,1,1,0,1] = .block 1 (.loop (sub (cd Tryz.f22) [1,1,1,1,0,1,0,0])) from by kernel_rfl]
  refine CodeR.block (LoopR.code (LoopR.times ts.length (fun i=>PsiM (fun mv=>stB ns mo qs mv ts i) (GrpOK ns ts i)) (fun i hi => ?_) ?_ (by simp)))
  · rw [show sub (cd Tryz.f22) [1,1,1,1,0,1,0,0] = .seq (sub (cd Tryz.f22) [1,1,1,1,0,1,0,0,0]) (.seq (sub (cd Tryz.f22) [1,1,1,1,0,1,0,0,1,0]) (.seq (.block 2 (.seq (sub (cd Tryz.f22) [1,1,1,1,0,1,0,0,1,1,0,0,0]) (sub (cd Tryz.f22) [1,1,1,1,0,1,0,0,1,1,0,0,1]))) (sub (cd Tryz.f22) [1,1,1,1,0,1,0,0,1,1,1]))) from by kernel_rfl]
    obtain ⟨k,hk⟩:∃ k,ns[i]? = some k:=⟨_,List.getElem?_eq_getElem (by omega)⟩
    obtain ⟨x,hx⟩:∃ x,ts[i]? = some x:=⟨_,List.getElem?_eq_getElem hi⟩
    have hr:CodeR Tryz.prog 0 (sub (cd Tryz.f22) [1,1,1,1,0,1,0,0,1,1,0,0,1]) (PsiM (fun mv=>stD ns mo qs mv ts i x) (GrpOK ns ts i)) .normal (PsiM (fun mv=>stD ns mo qs mv ts i x) (GrpOK ns ts (i+1))) :=
      r14 (G:=GrpOK ns ts i) (G':=GrpOK ns ts (i+1)) hk (hw k (List.mem_of_getElem? hk)) (fun L hG e he=>by
        rw [(hG.a e he).1]
        have:=grp_len ns ts e.k i
        omega) (fun L e mb es hG hM hek hel=>hG.step hk hx e hek hel)
    exact CodeR.seq (CodeR.ofM (f':=fun mv=>stB6 ns mo qs mv ts i) fun mb=>n12_p0) (CodeR.seq (CodeR.ofM (f':=fun mv=>stB ns mo qs mv ts i) fun mb=>n12c_p0 (by omega)) (CodeR.seq (CodeR.blockn (CodeR.seq (CodeR.ofM (f':=fun mv=>stD ns mo qs mv ts i x) fun mb=>n13_p0 hx) hr)) (CodeR.ofM (f:=fun mv=>stD ns mo qs mv ts i x) (f':=fun mv=>stB ns mo qs mv ts (i+1)) fun mb=>n15_p0 (inR_nat (by omega)))))
  · rw [show sub (cd Tryz.f22) [1,1,1,1,0,1,0,0] = .seq (sub (cd Tryz.f22) [1,1,1,1,0,1,0,0,0]) (.seq (sub (cd Tryz.f22) [1,1,1,1,0,1,0,0,1,0]) (sub (cd Tryz.f22) [1,1,1,1,0,1,0,0,1,1])) from by kernel_rfl]
    exact CodeR.seq (CodeR.ofM (f':=fun mv=>stB6 ns mo qs mv ts ts.length) fun mb=>n12_p0) (CodeR.seqx (CodeR.ofM fun mb=>n12c_p1 (by omega)) (by simp))

def bestS(mo:Int)(l:List Int):Int:=((downI l).take (min mo.toNat l.length)).sum
def outG(ns ts:List Int)(mo:Int)(N g:Nat):List (List Int):=if grp ns ts g N=[] then [] else [[(g:Int),1,bestS mo (grp ns ts g N),0]]
def outL(ns ts:List Int)(mo:Int)(N n:Nat):List (List Int):=(List.range n).flatMap (outG ns ts mo N)
theorem outL_succ(ns ts:List Int)(mo:Int)(N n:Nat):outL ns ts mo N (n+1)=outL ns ts mo N n++outG ns ts mo N n:=by
  unfold outL
  rw [List.range_succ,List.flatMap_append,List.flatMap_singleton]
theorem outL_len(ns ts:List Int)(mo:Int)(N n:Nat):(outL ns ts mo N n).length≤n:=by
  induction n with
  | zero=>simp [outL]
  | succ n ih =>
    rw [outL_succ,List.length_append]
    have:(outG ns ts mo N n).length≤1:=by unfold outG;split <;> simp
    omega
theorem sum_bd{l:List Int}(h:∀ x∈l,0≤x∧x≤1000000):0≤l.sum∧l.sum≤1000000*l.length:=by
  induction l with
  | nil=>simp
  | cons x r ih =>
    have h1:=h x (List.mem_cons_self ..)
    have h2:=ih fun y hy=>h y (List.mem_cons_of_mem _ hy)
    rw [List.sum_cons,List.length_cons]
    omega
theorem grp_mem{ns ts:List Int}{g x:Int}{i:Nat}(h:x∈grp ns ts g i):x∈ts:=by
  unfold grp at h
  obtain ⟨p,hp,hx⟩:=List.mem_filterMap.1 h
  split at hx
  · cases hx
    exact (List.of_mem_zip (List.mem_of_mem_take hp)).2
  · cases hx
theorem downI_mem{l:List Int}{x:Int}:x∈downI l↔x∈l:=isort_mem _ _ _
theorem downI_len(l:List Int):(downI l).length=l.length:=isort_length _ _

theorem nat_loop2{ns ts:List Int}{mo:Int}{qs:List Int}(hl:ns.length=ts.length)(hN:ts.length≤12)(hmo:1≤mo∧mo≤12)(hts:∀ x∈ts,0≤x∧x≤1000000) :
    CodeR Tryz.prog 0 (sub (cd Tryz.f22) [1,1,1,1,1,1,0,1]) (PsiK (fun mv=>stF ns mo qs mv 0 []) 0 (GrpOK ns ts ts.length)) .normal (PsiK (fun mv=>stF ns mo qs mv 31 (outL ns ts mo ts.length 31)) 31 (GrpOK ns ts ts.length)):=by
  rw [show sub (cd Tryz.f22) [1,1,1,1,1,1,0,1] = .block 3 (.loop (sub (cd Tryz.f22) [1,1,1,1,1,1,0,1,0,0])) from by kernel_rfl]
  refine CodeR.block (LoopR.code (LoopR.times 31 (fun n=>PsiK (fun mv=>stF ns mo qs mv n (outL ns ts mo ts.length n)) n (GrpOK ns ts ts.length)) (fun n hn => ?_) ?_ (by simp)))
  · rw [show sub (cd Tryz.f22) [1,1,1,1,1,1,0,1,0,0] = .seq (sub (cd Tryz.f22) [1,1,1,1,1,1,0,1,0,0,0]) (.seq (sub (cd Tryz.f22) [1,1,1,1,1,1,0,1,0,0,1,0]) (.seq (.block 4 (.seq (sub (cd Tryz.f22) [1,1,1,1,1,1,0,1,0,0,1,1,0,0,0]) (.seq (sub (cd Tryz.f22) [1,1,1,1,1,1,0,1,0,0,1,1,0,0,1,0]) (.seq (sub (cd Tryz.f22) [1,1,1,1,1,1,0,1,0,0,1,1,0,0,1,1,0]) (sub (cd Tryz.f22) [1,1,1,1,1,1,0,1,0,0,1,1,0,0,1,1,1]))))) (sub (cd Tryz.f22) [1,1,1,1,1,1,0,1,0,0,1,1,1]))) from by kernel_rfl]
    refine CodeR.seq (CodeR.ofK (f':=fun mv=>stF6 ns mo qs mv n (outL ns ts mo ts.length n)) (Nat.le_refl _) fun mb=>n18_p0) (CodeR.seq (CodeR.ofK (f':=fun mv=>stF ns mo qs mv n (outL ns ts mo ts.length n)) (Nat.le_refl _) fun mb=>n18c_p0 (by omega)) (CodeR.seq (Ψ1:=PsiK (fun mv=>stF ns mo qs mv n (outL ns ts mo ts.length (n+1))) (n+1) (GrpOK ns ts ts.length)) ?_ (CodeR.ofK (Nat.le_refl _) fun mb=>n24_p0 (inR_nat (by omega)))))
    have hol:=outL_len ns ts mo ts.length n
    cases hg:grp ns ts n ts.length with
    | nil =>
      have e1:outL ns ts mo ts.length (n+1)=outL ns ts mo ts.length n:=by rw [outL_succ,outG,if_pos hg,List.append_nil]
      rw [e1]
      exact CodeR.block (CodeR.seq (CodeR.ofK (f':=fun mv=>stG ns mo qs mv n (outL ns ts mo ts.length n)) (Nat.le_refl _) fun mb=>n19_p0) (CodeR.seq (r20n (by omega) hg) (CodeR.seqx (CodeR.ofK (by omega) fun mb=>n21n_p0) (by simp))))
    | cons y l =>
      have hgl:=grp_len ns ts n ts.length
      rw [hg] at hgl
      have hd:=downI_len (y::l)
      have hmin:(if mo<(((downI (y::l)).length:Nat):Int) then mo else (((downI (y::l)).length:Nat):Int))=((min mo.toNat (y::l).length:Nat):Int):=by
        rw [hd];split <;> omega
      have hle:min mo.toNat (y::l).length≤(downI (y::l)).length:=by rw [hd];omega
      have htk:((downI (y::l)).take (min mo.toNat (y::l).length)).length=min mo.toNat (y::l).length:=by rw [List.length_take];omega
      have hmem:∀ j,∀ x∈(((downI (y::l)).take (min mo.toNat (y::l).length)).take j),0≤x∧x≤1000000:=fun j x hx=>hts x (grp_mem (g:=(n:Int)) (i:=ts.length) (by rw [hg];exact downI_mem.1 (List.mem_of_mem_take (List.mem_of_mem_take hx))))
      have e1:outL ns ts mo ts.length (n+1)=outL ns ts mo ts.length n++[[(n:Int),1,((downI (y::l)).take (min mo.toNat (y::l).length)).sum,0]]:=by
        rw [outL_succ,outG,if_neg (by rw [hg];simp),hg];rfl
      refine CodeR.blockn (CodeR.seq (CodeR.ofK (f':=fun mv=>stG ns mo qs mv n (outL ns ts mo ts.length n)) (Nat.le_refl _) fun mb=>n19_p0) (CodeR.seq (r20c (by omega) hg) (CodeR.seq (CodeR.ofK (f':=fun mv=>stH ns mo qs mv n (outL ns ts mo ts.length n) y l) (Nat.le_refl _) fun mb=>n21_p0) (CodeR.ofK (Nat.le_refl _) fun mb=>n22_p0 (l0:=(downI (y::l)).take (min mo.toNat (y::l).length)) ?_ (by simp) ?_ ?_ ?_ ?_ ?_ ?_ ?_ ?_))))
      · omega
      · rw [hmin];omega
      · rw [hmin,htk];omega
      · rw [hmin,Nat.sub_zero,Int.toNat_natCast,List.drop_zero,List.length_map,Nat.div_self (by rw [hd];simp),Nat.mul_one,List.map_take]
      · unfold small;rw [htk];simp only [List.length_cons] at hgl ⊢;omega
      · intro j
        have:=sum_bd (hmem j)
        have h2:(((downI (y::l)).take (min mo.toNat (y::l).length)).take j).length≤12:=by
          rw [List.length_take,htk];simp only [List.length_cons] at hgl ⊢;omega
        unfold inR
        omega
      · exact ⟨rfl,by omega⟩
      · rw [e1,List.length_append];rfl
      · rw [e1,List.flatten_append,List.map_append];rfl
  · rw [show sub (cd Tryz.f22) [1,1,1,1,1,1,0,1,0,0] = .seq (sub (cd Tryz.f22) [1,1,1,1,1,1,0,1,0,0,0]) (.seq (sub (cd Tryz.f22) [1,1,1,1,1,1,0,1,0,0,1,0]) (sub (cd Tryz.f22) [1,1,1,1,1,1,0,1,0,0,1,1])) from by kernel_rfl]
    exact CodeR.seq (CodeR.ofK (f':=fun mv=>stF6 ns mo qs mv 31 (outL ns ts mo ts.length 31)) (Nat.le_refl _) fun mb=>n18_p0) (CodeR.seqx (CodeR.ofK (Nat.le_refl _) fun mb=>n18c_p1 (by omega)) (by simp))
end KV
end Go.Proofs
end
section
namespace Go.Proofs
open KL Go.RowKit
namespace KV

theorem LoopOK.count{P:Program}{k:Nat}{b:Code}{e:Ex}{R:St}(N:Nat)(S:Nat→St)(hs:∀ i,i<N→CodeOK P k b (S i) .normal (S (i+1)))(hx:CodeOK P k b (S N) e R)(he:e ≠ .normal):LoopOK P k b (S 0) e R:=by
  have key:∀ d i,i+d=N→LoopOK P k b (S i) e R:=by
    intro d
    induction d with
    | zero => intro i hi;obtain rfl:i=N:=by omega
              exact .exit hx he
    | succ d ih=>intro i hi;exact .step (hs i (by omega)) (ih (i+1) (by omega))
  exact key N 0 (by omega)

theorem fl_setf{k i f:Nat}{L:List (List Int)}{x:List Int}{y:Int}(h:uni k L)(hx:L[i]? = some x)(hf:f<k):(L.flatten.map intP).set (i*k+f) (intP y)=((L.set i (x.set f y)).flatten.map intP):=by
  have hi:=(List.getElem?_eq_some_iff.1 hx).1
  have hxl:x.length=k:=h x (List.mem_of_getElem? hx)
  have e:L=L.take i++x::L.drop (i+1):=by
    conv=>lhs;rw [← List.take_append_drop i L]
    congr 1
    rw [List.drop_eq_getElem_cons hi]
    congr 1
    exact (List.getElem?_eq_some_iff.1 hx).2
  have hA:(L.take i).flatten.length=i*k:=by
    rw [fl_len (fun y hy=>h y (List.mem_of_mem_take hy)),List.length_take]
    congr 1;omega
  have hset:L.set i (x.set f y)=L.take i++(x.set f y)::L.drop (i+1):=by
    rw [List.set_eq_take_append_cons_drop,if_pos hi]
  rw [hset,← List.map_set]
  congr 1
  conv=>lhs;rw [e]
  rw [List.flatten_append,List.flatten_cons,List.flatten_append,List.flatten_cons]
  rw [List.set_append_right _ _ (by omega),hA,Nat.add_sub_cancel_left,List.set_append_left _ _ (by omega)]

def rkOf(P:List Int)(v:Int)(j:Nat):Int:=1+(((P.take j).filter fun q=>decide (v<q)).length:Int)
theorem rkOf_zero(P:List Int)(v:Int):rkOf P v 0=1:=by simp [rkOf]
theorem rkOf_succ{P:List Int}{v q:Int}{j:Nat}(h:P[j]? = some q):rkOf P v (j+1)=if v<q then rkOf P v j+1 else rkOf P v j:=by
  unfold rkOf
  rw [List.take_add_one,h,List.filter_append,List.length_append]
  split <;> rename_i h2 <;> simp [h2] <;> omega
theorem rkOf_bd(P:List Int)(v:Int)(j:Nat):1≤rkOf P v j∧rkOf P v j≤1+j:=by
  unfold rkOf
  have:=Nat.le_trans (List.length_filter_le (fun q=>decide (v<q)) (P.take j)) (List.length_take_le j P)
  omega
def qtOf(qs:List Int)(rk:Int):Int:=if rk≤qs.length then qs.getD (rk-1).toNat 0 else 0
abbrev pts3(o:List (List Int)):List Int:=o.map fun x=>x.getD 2 0
def finR(qs P:List Int)(x:List Int):List Int:=[x.getD 0 0,rkOf P (x.getD 2 0) P.length,x.getD 2 0,qtOf qs (rkOf P (x.getD 2 0) P.length)]
def natL(qs:List Int)(o:List (List Int)):List (List Int):=isort (ltK 1) (o.map (finR qs (pts3 o)))
def midL(qs:List Int)(o:List (List Int))(i:Nat):List (List Int):=(o.take i).map (finR qs (pts3 o))++o.drop i
def Pt(P:List Int)(r:List (List Int)):Prop:=r.length=P.length∧∀ (j:Nat) (q:Int),P[j]? = some q→∃ a b d,r[j]? = some [a,b,q,d]
theorem Pt.uni{P:List Int}{r:List (List Int)}(h:Pt P r):uni 4 r:=fun x hx=>by
  obtain ⟨j,hj,rfl⟩:=List.getElem_of_mem hx
  obtain ⟨a,b,d,hr⟩:=h.2 j (P[j]'(by rw [← h.1];exact hj)) (List.getElem?_eq_getElem _)
  rw [List.getElem?_eq_getElem hj] at hr
  rw [Option.some.inj hr];rfl
theorem Pt.set{P:List Int}{r:List (List Int)}{i:Nat}{a b q d:Int}(h:Pt P r)(hq:P[i]? = some q):Pt P (r.set i [a,b,q,d]):=by
  refine ⟨by rw [List.length_set];exact h.1,fun j q' hj => ?_⟩
  have hjl:=(List.getElem?_eq_some_iff.1 hj).1
  have hrl:=h.1
  rw [List.getElem?_set]
  by_cases e:i=j
  · subst e
    rw [hq] at hj;cases hj
    rw [if_pos rfl,if_pos (by omega)]
    exact ⟨a,b,d,rfl⟩
  · rw [if_neg e];exact h.2 j q' hj
def Base(o:List (List Int)):Prop:=∀ x∈o,∃ g s,x=[g,1,s,0]
theorem base_outL(ns ts:List Int)(mo:Int)(N n:Nat):Base (outL ns ts mo N n):=fun x hx=>by
  unfold outL at hx
  obtain ⟨g,hg,hx⟩:=List.mem_flatMap.1 hx
  unfold outG at hx
  split at hx
  · simp at hx
  · simp at hx;exact ⟨_,_,hx⟩
theorem mid_at{qs:List Int}{o:List (List Int)}{i j:Nat}(hi:i≤o.length):(midL qs o i)[j]? = if j<i then (o[j]?).map (finR qs (pts3 o)) else o[j]? := by
  unfold midL
  by_cases h:j<i
  · rw [if_pos h,List.getElem?_append_left (by rw [List.length_map,List.length_take];omega),List.getElem?_map,List.getElem?_take,if_pos h]
  · rw [if_neg h,List.getElem?_append_right (by rw [List.length_map,List.length_take];omega),List.length_map,List.length_take,List.getElem?_drop]
    congr 1;omega
theorem mid_len{qs:List Int}{o:List (List Int)}{i:Nat}(hi:i≤o.length):(midL qs o i).length=o.length:=by
  unfold midL;rw [List.length_append,List.length_map,List.length_take,List.length_drop];omega
theorem mid_pt{qs:List Int}{o:List (List Int)}{i:Nat}(hb:Base o)(hi:i≤o.length):Pt (pts3 o) (midL qs o i):=by
  refine ⟨by rw [mid_len hi,List.length_map],fun j q hj => ?_⟩
  rw [mid_at hi]
  rw [List.getElem?_map] at hj
  cases ho:o[j]? with
  | none=>rw [ho] at hj;cases hj
  | some x =>
    rw [ho] at hj
    obtain ⟨g,s,rfl⟩:=hb x (List.mem_of_getElem? ho)
    simp at hj
    subst hj
    split
    · exact ⟨_,_,_,rfl⟩
    · exact ⟨_,_,_,rfl⟩
theorem mid_zero(qs:List Int)(o:List (List Int)):midL qs o 0=o:=by simp [midL]
theorem mid_end(qs:List Int)(o:List (List Int)):midL qs o o.length=o.map (finR qs (pts3 o)):=by simp [midL]
theorem mid_succ{qs:List Int}{o:List (List Int)}{i:Nat}{x:List Int}(h:o[i]? = some x):midL qs o (i+1)=(midL qs o i).set i (finR qs (pts3 o) x):=by
  have hi:=(List.getElem?_eq_some_iff.1 h).1
  apply List.ext_getElem?
  intro j
  rw [mid_at (by omega),List.getElem?_set,mid_len (by omega),mid_at (by omega)]
  by_cases e:i=j
  · subst e
    rw [if_pos (by omega),if_pos rfl,if_pos hi,h];rfl
  · rw [if_neg e]
    by_cases e2:j<i
    · rw [if_pos (by omega),if_pos e2]
    · rw [if_neg (by omega),if_neg e2]

section
variable {qs:List Int} {o:List (List Int)}
theorem nat_inner(hb:Base o)(ho:o.length≤31){i:Nat}{g s:Int}(hx:o[i]? = some [g,1,s,0]) :
    LoopOK Tryz.prog 0 (sub (cd Tryz.f22) [1,1,1,1,1,1,1,0,1,0,0,1,1,0,0,1,0,1,0,0]) (nat_S3 qs o i (midL qs o i) 0 (midL qs o i).length ((midL qs o i).flatten.map intP)) (.exit 7)
      (nat_S3 qs o i (midL qs o i) o.length ((midL qs o i).set i [g,rkOf (pts3 o) s o.length,s,0]).length (((midL qs o i).set i [g,rkOf (pts3 o) s o.length,s,0]).flatten.map intP)):=by
  have hi:=(List.getElem?_eq_some_iff.1 hx).1
  have hml:(midL qs o i).length=o.length:=mid_len (by omega)
  have hpt:Pt (pts3 o) (midL qs o i):=mid_pt hb (by omega)
  have hpi:(pts3 o)[i]? = some s:=by rw [List.getElem?_map,hx];rfl
  have hmi:(midL qs o i)[i]? = some [g,1,s,0]:=by rw [mid_at (by omega),if_neg (by omega),hx]
  have e0:(midL qs o i).set i [g,rkOf (pts3 o) s 0,s,0]=midL qs o i:=by
    rw [rkOf_zero]
    obtain ⟨h1,h2⟩:=List.getElem?_eq_some_iff.1 hmi
    rw [← h2];exact List.set_getElem_self h1
  have:=LoopOK.count (P:=Tryz.prog) (k:=0) (b:=sub (cd Tryz.f22) [1,1,1,1,1,1,1,0,1,0,0,1,1,0,0,1,0,1,0,0]) (e := .exit 7) (R:=nat_S3 qs o i (midL qs o i) o.length ((midL qs o i).set i [g,rkOf (pts3 o) s o.length,s,0]).length (((midL qs o i).set i [g,rkOf (pts3 o) s o.length,s,0]).flatten.map intP)) o.length
    (fun j=>nat_S3 qs o i (midL qs o i) j ((midL qs o i).set i [g,rkOf (pts3 o) s j,s,0]).length (((midL qs o i).set i [g,rkOf (pts3 o) s j,s,0]).flatten.map intP)) (fun j hj => ?_) (nat_L3_p2 (by rw [hml];omega)) (by simp)
  · rw [e0] at this;exact this
  · have hr:Pt (pts3 o) ((midL qs o i).set i [g,rkOf (pts3 o) s j,s,0]):=hpt.set hpi
    obtain ⟨q,hq⟩:∃ q,(pts3 o)[j]? = some q:=⟨_,List.getElem?_eq_getElem (by rw [List.length_map];omega)⟩
    obtain ⟨a,b,d,hrj⟩:=hr.2 j q hq
    have hri:((midL qs o i).set i [g,rkOf (pts3 o) s j,s,0])[i]? = some [g,rkOf (pts3 o) s j,s,0]:=by
      rw [List.getElem?_set,if_pos rfl,if_pos (by omega)]
    have hbd:=rkOf_bd (pts3 o) s j
    have hsucc:=rkOf_succ (v:=s) hq
    by_cases hlt:s<q
    · rw [if_pos hlt] at hsucc
      refine nat_L3_p0 (r':=(midL qs o i).set i [g,rkOf (pts3 o) s (j+1),s,0]) (by rw [hml];omega) hrj hr.uni hri hlt (by unfold inR;omega) ?_ (inR_nat (by omega)) rfl (by rw [List.length_set,List.length_set]) ?_
      · rw [List.length_map,fl_len hr.uni,List.length_set,hml];omega
      · rw [fl_setf hr.uni hri (by decide),List.set_set,hsucc];rfl
    · rw [if_neg hlt] at hsucc
      rw [hsucc]
      exact nat_L3_p1 (by rw [hml];omega) hrj hr.uni hri (by omega) (inR_nat (by omega)) rfl

theorem nat_outer(hb:Base o)(ho:o.length≤31)(hqs:qs.length≤31):LoopOK Tryz.prog 0 (sub (cd Tryz.f22) [1,1,1,1,1,1,1,0,1,0,0]) (nat_S2 qs o 0 o.length (o.flatten.map intP)) (.exit 5)
    (nat_S2 qs o o.length (o.map (finR qs (pts3 o))).length ((o.map (finR qs (pts3 o))).flatten.map intP)):=by
  have:=LoopOK.count (P:=Tryz.prog) (k:=0) (b:=sub (cd Tryz.f22) [1,1,1,1,1,1,1,0,1,0,0]) (e := .exit 5) (R:=nat_S2 qs o o.length (o.map (finR qs (pts3 o))).length ((o.map (finR qs (pts3 o))).flatten.map intP)) o.length
    (fun i=>nat_S2 qs o i (midL qs o i).length ((midL qs o i).flatten.map intP)) (fun i hi => ?_) (by rw [mid_end];exact nat_L2_p2 (by omega)) (by simp)
  · rw [mid_zero] at this;exact this
  · obtain ⟨g,s,hgs⟩:=hb o[i] (List.getElem_mem hi)
    have hx:o[i]? = some [g,1,s,0]:=by rw [List.getElem?_eq_getElem hi,hgs]
    have hL:=nat_inner (qs:=qs) hb ho hx
    have hml:(midL qs o i).length=o.length:=mid_len (by omega)
    have hpt:Pt (pts3 o) (midL qs o i):=mid_pt hb (by omega)
    have hpi:(pts3 o)[i]? = some s:=by rw [List.getElem?_map,hx];rfl
    have hr:Pt (pts3 o) ((midL qs o i).set i [g,rkOf (pts3 o) s o.length,s,0]):=hpt.set hpi
    have hri:((midL qs o i).set i [g,rkOf (pts3 o) s o.length,s,0])[i]? = some [g,rkOf (pts3 o) s o.length,s,0]:=by
      rw [List.getElem?_set,if_pos rfl,if_pos (by omega)]
    have hbd:=rkOf_bd (pts3 o) s o.length
    have hpl:(pts3 o).length=o.length:=List.length_map _
    have efin:midL qs o (i+1)=(midL qs o i).set i [g,rkOf (pts3 o) s o.length,s,qtOf qs (rkOf (pts3 o) s o.length)]:=by
      rw [mid_succ hx];unfold finR;rw [hpl];rfl
    by_cases hle:rkOf (pts3 o) s o.length≤(qs.length:Int)
    · have hq:qs[(rkOf (pts3 o) s o.length-1).toNat]? = some (qtOf qs (rkOf (pts3 o) s o.length)):=by
        unfold qtOf
        rw [if_pos hle,List.getD_eq_getElem?_getD,List.getElem?_eq_getElem (by omega)];rfl
      refine nat_L2_p0 (by omega) hL hri hr.uni hle (by unfold inR;omega) hq (by omega) ?_ (inR_nat (by omega)) rfl (by rw [mid_len (by omega),List.length_set,hml]) ?_
      · rw [List.length_map,fl_len hr.uni,List.length_set,hml];omega
      · rw [fl_setf hr.uni hri (by decide),List.set_set,efin];rfl
    · have hq:qtOf qs (rkOf (pts3 o) s o.length)=0:=by unfold qtOf;rw [if_neg hle]
      rw [hq] at efin
      refine nat_L2_p1 (by omega) hL hri hr.uni (by omega) (inR_nat (by omega)) rfl (by rw [mid_len (by omega),List.length_set,hml]) (by rw [efin])
end

def nationsM(c:KL.Cup)(ns:List Int)(mo:Int)(qs:List Int):List (List Int):=natL qs (outL ns (KL.totalsM c) mo (KL.totalsM c).length 31)
def natE(c:KL.Cup)(ns:List Int)(mo:Int)(qs:List Int):Int :=
  if KL.checkP c≠0 then KL.checkP c else if (ns.length:Int)≠c.sk∨within (qs.length:Int) 1 31=false then 2 else
  if (ns.all fun x=>within x 0 30)=false∨within mo 1 12=false∨(qs.all fun x=>within x 0 20)=false then 3 else if KL.fallsB qs=false then 4 else 0
theorem nodup_le:∀ {S T:List Int},S.Nodup→(∀ g∈S,g∈T)→S.length≤T.length
  | [],_,_,_=>Nat.zero_le _
  | a::S,T,h,hs=>by
    obtain ⟨h1,h2⟩:=List.nodup_cons.1 h
    have ha:=hs a (List.mem_cons_self ..)
    have:=nodup_le (T:=T.erase a) h2 (fun g hg=>(List.mem_erase_of_ne (fun e=>h1 (by rw [← e];exact hg))).2 (hs g (List.mem_cons_of_mem _ hg)))
    rw [List.length_erase_of_mem ha] at this
    have:0<T.length:=List.length_pos_of_mem ha
    rw [List.length_cons]
    omega
theorem outL_few(ns ts:List Int)(mo:Int)(N n:Nat)(h:(ns.zip ts).length≤12):(outL ns ts mo N n).length≤12:=by
  have key:∀ n,∃ S:List Int,S.Nodup∧S.length=(outL ns ts mo N n).length∧(∀ g∈S,g∈(ns.zip ts).map (·.1))∧∀ g∈S,g<n:=by
    intro n
    induction n with
    | zero=>exact ⟨[],.nil,rfl,by simp,by simp⟩
    | succ n ih =>
      obtain ⟨S,h1,h2,h3,h4⟩:=ih
      rw [outL_succ]
      unfold outG
      split
      · exact ⟨S,h1,by simpa using h2,h3,fun g hg=>by have:=h4 g hg;omega⟩
      · rename_i hg
        refine ⟨(n:Int)::S,List.nodup_cons.2 ⟨fun hin=>by have:=h4 _ hin;omega,h1⟩,by simp [h2],fun g hg' => ?_,fun g hg' => ?_⟩
        · rcases List.mem_cons.1 hg' with rfl | hg'
          · obtain ⟨x,hx⟩:=List.exists_mem_of_ne_nil _ hg
            unfold grp at hx
            obtain ⟨p,hp,hx⟩:=List.mem_filterMap.1 hx
            split at hx
            · rename_i he
              exact List.mem_map.2 ⟨p,List.mem_of_mem_take hp,he⟩
            · cases hx
          · exact h3 g hg'
        · rcases List.mem_cons.1 hg' with rfl | hg'
          · omega
          · have:=h4 g hg';omega
  obtain ⟨S,h1,h2,h3,_⟩:=key n
  rw [← h2]
  have:=nodup_le h1 h3
  rw [List.length_map] at this
  omega
theorem nat_main{c:KL.Cup}{ns:List Int}{mo:Int}{qs:List Int}(hV:KL.Valid c)(hl:(ns.length:Int)=c.sk)(hns:∀ k∈ns,0≤k∧k≤30)(hmo:1≤mo∧mo≤12)(hqs:qs.length≤31)(htl:(KL.totalsM c).length=c.sk.toNat)(hts:∀ x∈KL.totalsM c,0≤x∧x≤1000000) :
    CodeOK Tryz.prog 0 (sub (cd Tryz.f22) [1,1,1]) (stT c ns mo qs) .ret ⟨fr 161 [(8,(.p (.sl (nationsM c ns mo qs).length ((nationsM c ns mo qs).flatten.map intP)))),(9,(.p (intP 0)))],[]⟩:=by
  have s1:=hV.sk1
  have s2:=hV.sk2
  refine CodeR.ok (by kernel_rfl) ?_
  rw [show sub (cd Tryz.f22) [1,1,1] = .seq (sub (cd Tryz.f22) [1,1,1,0]) (.seq (.seq (sub (cd Tryz.f22) [1,1,1,1,0,0]) (sub (cd Tryz.f22) [1,1,1,1,0,1])) (.seq (sub (cd Tryz.f22) [1,1,1,1,1,0]) (.seq (.seq (sub (cd Tryz.f22) [1,1,1,1,1,1,0,0]) (sub (cd Tryz.f22) [1,1,1,1,1,1,0,1])) (sub (cd Tryz.f22) [1,1,1,1,1,1,1])))) from by kernel_rfl]
  have htl':ns.length=(KL.totalsM c).length:=by omega
  have hw:∀ k∈ns,(Lit.int .i64 k).wf=true:=fun k hk=>by
    have:=hns k hk
    have h:=wf_int (n:=k.toNat) (by omega)
    rwa [Int.toNat_of_nonneg this.1] at h
  refine CodeR.seq (r10 (ts:=KL.totalsM c)) (CodeR.seq (CodeR.seq (CodeR.ofM (f':=fun mv=>stB ns mo qs mv (KL.totalsM c) 0) fun mb=>n11_p0 hV) (nat_loop1 htl' hw (by omega))) (CodeR.seq (CodeR.ofM (f':=fun mv=>⟨fr 161 [(1,(.p (intsP ns))),(2,(.p (intP mo))),(3,(.p (intsP qs))),(12,(.p mv)),(15,(.p nilS))],[]⟩) fun mb=>n16_p0) (CodeR.seq (CodeR.seq ?_ (nat_loop2 (qs:=qs) htl' (by omega) hmo hts)) ?_)))
  · refine (CodeR.ofM (f':=fun mv=>stF ns mo qs mv 0 []) fun mb=>n17_p0).mono (fun _ _ h=>h) (fun st R h => ?_)
    obtain ⟨mb,es,cl,L,h1,rfl,h3,h4⟩:=h
    exact ⟨mb,es,cl,L,h1,by simp [mapR],fun e he _=>by simp [mapR];exact .inr ⟨e,he,rfl⟩,h3,h4⟩
  · refine CodeR.of fun st R h=>⟨_,rfl,?_⟩
    obtain ⟨mb,es,cl,L,rfl,_⟩:=h
    have hol:=outL_len ns (KL.totalsM c) mo (KL.totalsM c).length 31
    have hb:=base_outL ns (KL.totalsM c) mo (KL.totalsM c).length 31
    have hlen:(outL ns (KL.totalsM c) mo (KL.totalsM c).length 31).length≤12:=outL_few _ _ _ _ _ (by rw [List.length_zip];omega)
    refine CodeOK.pre (g:=⟨[1,2,12,85],[0],[],[]⟩) (st1:=⟨fr 161 [(3,(.p (intsP qs))),(15,(.own 0))],[some (.row 40 (outL ns (KL.totalsM c) mo (KL.totalsM c).length 31).length ((outL ns (KL.totalsM c) mo (KL.totalsM c).length 31).flatten.map intP))]⟩) (by kernel_rfl) ?_
    exact n25_p0 (nat_outer hb hol hqs) (fun x hx=>by
      obtain ⟨y,hy,rfl⟩:=List.mem_map.1 hx
      rfl) (by rw [List.length_map];omega)
end KV
end Go.Proofs
end
namespace Go.Proofs
namespace KV
section
open KL
theorem zL6q0:((0:Int) != (0:Int))=false:=by first | decide | simp
theorem zL6q1:((0:Int) == (0:Int))=true:=by first | decide | simp
theorem zL6q2:((3:Int) == (3:Int))=true:=by first | decide | simp
theorem zL6q3:((1:Int) == (1:Int))=true:=by first | decide | simp
abbrev threeC:Cup:=⟨3,3,2,[10,6,4],[[1,2,3],[3,1,1]]⟩
abbrev twoC:Cup:=⟨2,4,4,[10,4],[[1,2],[1,2],[1,2]]⟩
theorem three_p0{base:Nat}:FV Tryz.prog 85 [] base (.p (.agg [(intP 3),(intP 3),(intP 2),(.sl 3 [(intP 10),(intP 6),(intP 4)]),(.sl 2 [(.sl 3 [(intP 1),(intP 2),(intP 3)]),(.sl 3 [(intP 3),(intP 1),(intP 1)])])])) []:=by
  exact FV.frz (FMM.fin (k:=0) (g:=⟨[],[],[1,4],[]⟩) rfl Tryz.func85 rfl (o:=[]) (l:=[]) (by kernel_rfl) (gn)) (by kernel_rfl)
theorem two_p0{base:Nat}:FV Tryz.prog 86 [] base (.p (.agg [(intP 2),(intP 4),(intP 4),(.sl 2 [(intP 10),(intP 4)]),(.sl 3 [(.sl 2 [(intP 1),(intP 2)]),(.sl 2 [(intP 1),(intP 2)]),(.sl 2 [(intP 1),(intP 2)])])])) []:=by
  exact FV.frz (FMM.fin (k:=0) (g:=⟨[],[],[1,5],[]⟩) rfl Tryz.func86 rfl (o:=[]) (l:=[]) (by kernel_rfl) (gn)) (by kernel_rfl)
theorem awake_p0(h34_0:∀ base:Nat,FV Tryz.prog 34 [(.p (.agg [(intP 3),(intP 3),(intP 2),(.sl 3 [(intP 10),(intP 6),(intP 4)]),(.sl 2 [(.sl 3 [(intP 1),(intP 2),(intP 3)]),(.sl 3 [(intP 3),(intP 1),(intP 1)])])]))] base (.tup [(.p (.sl 3 [(intP 1),(intP 1),(intP 14),(intP 1),(intP 0),(intP 2),(intP 14),(intP 1),(intP 2),(intP 3),(intP 12),(intP 1)])),(.p (intP 0))]) [])(h37_1:∀ base:Nat,FV Tryz.prog 37 [(.p (.agg [(intP 3),(intP 3),(intP 2),(.sl 3 [(intP 10),(intP 6),(intP 4)]),(.sl 2 [(.sl 3 [(intP 1),(intP 2),(intP 3)]),(.sl 3 [(intP 3),(intP 1),(intP 1)])])]))] base (.tup [(.p (.sl 3 [(intP 0),(intP 1),(intP 2)])),(.p (intP 0))]) [])(h38_2:∀ base:Nat,FV Tryz.prog 38 [(.p (.agg [(intP 3),(intP 3),(intP 2),(.sl 3 [(intP 10),(intP 6),(intP 4)]),(.sl 2 [(.sl 3 [(intP 1),(intP 2),(intP 3)]),(.sl 3 [(intP 3),(intP 1),(intP 1)])])]))] base (.tup [(.p (.sl 0 [])),(.p (intP 0))]) [])(h55_3:∀ base:Nat,FV Tryz.prog 55 [(.p (.agg [(intP 3),(intP 3),(intP 2),(.sl 3 [(intP 10),(intP 6),(intP 4)]),(.sl 2 [(.sl 3 [(intP 1),(intP 2),(intP 3)]),(.sl 3 [(intP 3),(intP 1),(intP 1)])])])),(.p (intP 1))] base (.tup [(.p (intP 3)),(.p (.sl 3 [(intP 1),(intP 0),(intP 2)])),(.p (intP 0))]) [])(h39_4:∀ base:Nat,FV Tryz.prog 39 [(.p (.sl 3 [(intP 1),(intP 1),(intP 14),(intP 1),(intP 0),(intP 2),(intP 14),(intP 1),(intP 2),(intP 3),(intP 12),(intP 1)])),(.p (.sl 3 [(intP 1),(intP 1),(intP 14),(intP 1),(intP 0),(intP 2),(intP 14),(intP 1),(intP 2),(intP 3),(intP 12),(intP 1)]))] base (.p (blP true)) [])(h25_5:∀ base:Nat,FV Tryz.prog 25 [(.p (.sl 3 [(intP 0),(intP 1),(intP 2)])),(.p (.sl 3 [(intP 0),(intP 1),(intP 2)]))] base (.p (blP true)) [])(h73_6:∀ base:Nat,FV Tryz.prog 73 [(.p (.agg [(intP 2),(intP 4),(intP 4),(.sl 2 [(intP 10),(intP 4)]),(.sl 3 [(.sl 2 [(intP 1),(intP 2)]),(.sl 2 [(intP 1),(intP 2)]),(.sl 2 [(intP 1),(intP 2)])])]))] base (.tup [(.p (intP 3)),(.p (intP 0)),(.p (intP 0))]) [])(h56_7:∀ base:Nat,FV Tryz.prog 56 [(.p (.agg [(intP 3),(intP 3),(intP 2),(.sl 3 [(intP 10),(intP 6),(intP 4)]),(.sl 2 [(.sl 3 [(intP 1),(intP 2),(intP 3)]),(.sl 3 [(intP 3),(intP 1),(intP 1)])])])),(.p (intP 2))] base (.tup [(.p (.sl 3 [(intP 2),(intP 3),(intP 1)])),(.p (intP 0))]) [])(h22_8:∀ base:Nat,FV Tryz.prog 22 [(.p (.agg [(intP 3),(intP 3),(intP 2),(.sl 3 [(intP 10),(intP 6),(intP 4)]),(.sl 2 [(.sl 3 [(intP 1),(intP 2),(intP 3)]),(.sl 3 [(intP 3),(intP 1),(intP 1)])])])),(.p (.sl 3 [(intP 5),(intP 5),(intP 9)])),(.p (intP 1)),(.p (.sl 2 [(intP 4),(intP 3)]))] base (.tup [(.p (.sl 2 [(intP 5),(intP 1),(intP 14),(intP 4),(intP 9),(intP 2),(intP 12),(intP 3)])),(.p (intP 0))]) [])(h87_9:∀ base:Nat,FV Tryz.prog 87 [(.p (.sl 2 [(intP 5),(intP 1),(intP 14),(intP 4),(intP 9),(intP 2),(intP 12),(intP 3)])),(.p (.sl 2 [(intP 5),(intP 1),(intP 14),(intP 4),(intP 9),(intP 2),(intP 12),(intP 3)]))] base (.p (blP true)) []){base:Nat}:FV Tryz.prog 19 [] base (.p (blP true)) []:=by
  exact FV.fin Tryz.func19 rfl (o:=[.c (.p (.agg [(intP 3),(intP 3),(intP 2),(.sl 3 [(intP 10),(intP 6),(intP 4)]),(.sl 2 [(.sl 3 [(intP 1),(intP 2),(intP 3)]),(.sl 3 [(intP 3),(intP 1),(intP 1)])])])) [],.c (.tup [(.p (.sl 3 [(intP 1),(intP 1),(intP 14),(intP 1),(intP 0),(intP 2),(intP 14),(intP 1),(intP 2),(intP 3),(intP 12),(intP 1)])),(.p (intP 0))]) [],.c (.p (.agg [(intP 3),(intP 3),(intP 2),(.sl 3 [(intP 10),(intP 6),(intP 4)]),(.sl 2 [(.sl 3 [(intP 1),(intP 2),(intP 3)]),(.sl 3 [(intP 3),(intP 1),(intP 1)])])])) [],.c (.tup [(.p (.sl 3 [(intP 0),(intP 1),(intP 2)])),(.p (intP 0))]) [],.c (.p (.agg [(intP 3),(intP 3),(intP 2),(.sl 3 [(intP 10),(intP 6),(intP 4)]),(.sl 2 [(.sl 3 [(intP 1),(intP 2),(intP 3)]),(.sl 3 [(intP 3),(intP 1),(intP 1)])])])) [],.c (.tup [(.p (.sl 0 [])),(.p (intP 0))]) [],.c (.p (.agg [(intP 3),(intP 3),(intP 2),(.sl 3 [(intP 10),(intP 6),(intP 4)]),(.sl 2 [(.sl 3 [(intP 1),(intP 2),(intP 3)]),(.sl 3 [(intP 3),(intP 1),(intP 1)])])])) [],.c (.tup [(.p (intP 3)),(.p (.sl 3 [(intP 1),(intP 0),(intP 2)])),(.p (intP 0))]) [],bF,bF,bF,bF,bF,bF,bF,bF,bF,bF,bF,bF,bF,bF,bF,.c (.p (blP true)) [],bF,bF,bF,bF,bF,.c (.p (blP true)) [],bF,bF,bF,bF,bF,bF,bF,bF,bF,bF,.c (.p (.agg [(intP 2),(intP 4),(intP 4),(.sl 2 [(intP 10),(intP 4)]),(.sl 3 [(.sl 2 [(intP 1),(intP 2)]),(.sl 2 [(intP 1),(intP 2)]),(.sl 2 [(intP 1),(intP 2)])])])) [],.c (.tup [(.p (intP 3)),(.p (intP 0)),(.p (intP 0))]) [],.c (.p (.agg [(intP 3),(intP 3),(intP 2),(.sl 3 [(intP 10),(intP 6),(intP 4)]),(.sl 2 [(.sl 3 [(intP 1),(intP 2),(intP 3)]),(.sl 3 [(intP 3),(intP 1),(intP 1)])])])) [],.c (.tup [(.p (.sl 3 [(intP 2),(intP 3),(intP 1)])),(.p (intP 0))]) [],.c (.p (.agg [(intP 3),(intP 3),(intP 2),(.sl 3 [(intP 10),(intP 6),(intP 4)]),(.sl 2 [(.sl 3 [(intP 1),(intP 2),(intP 3)]),(.sl 3 [(intP 3),(intP 1),(intP 1)])])])) [],.c (.tup [(.p (.sl 2 [(intP 5),(intP 1),(intP 14),(intP 4),(intP 9),(intP 2),(intP 12),(intP 3)])),(.p (intP 0))]) [(2,.dead),(3,.dead)],bT,bT,bT,bT,bT,bT,bT,bT,bT,bT,bT,bT,bT,bT,bT,bT,bT,bT,bT,.x (intP 1),bT,bT,bT,bT,bT,bT,bT,.c (.p (blP true)) [],bT]) (l:=[_,FC Tryz.prog 87 [(.p (.sl 2 [(intP 5),(intP 1),(intP 14),(intP 4),(intP 9),(intP 2),(intP 12),(intP 3)])),(.own 4)] [(4,(.row 40 2 [(intP 5),(intP 1),(intP 14),(intP 4),(intP 9),(intP 2),(intP 12),(intP 3)]))] 5 (.p (blP true)) [],_,_,_,_,_,_,_,[(intP 2),(intP 3),(intP 1)][2]? = some (intP 1),_,0≤(2:Int)∧(2:Int)<(3:Int)∧2<[(intP 2),(intP 3),(intP 1)].length,_,_,_,_,_,_,_,_,_,_,_,_,_,_,_,_,_,_,FC Tryz.prog 22 [(.p (.agg [(intP 3),(intP 3),(intP 2),(.sl 3 [(intP 10),(intP 6),(intP 4)]),(.sl 2 [(.sl 3 [(intP 1),(intP 2),(intP 3)]),(.sl 3 [(intP 3),(intP 1),(intP 1)])])])),(.own 2),(.p (intP 1)),(.own 3)] [(2,(.row 3 3 [(intP 5),(intP 5),(intP 9)])),(3,(.row 3 2 [(intP 4),(intP 3)]))] 4 (.tup [(.p (.sl 2 [(intP 5),(intP 1),(intP 14),(intP 4),(intP 9),(intP 2),(intP 12),(intP 3)])),(.p (intP 0))]) [(2,.dead),(3,.dead)],FC Tryz.prog 85 [] [] 2 (.p (.agg [(intP 3),(intP 3),(intP 2),(.sl 3 [(intP 10),(intP 6),(intP 4)]),(.sl 2 [(.sl 3 [(intP 1),(intP 2),(intP 3)]),(.sl 3 [(intP 3),(intP 1),(intP 1)])])])) [],FC Tryz.prog 56 [(.p (.agg [(intP 3),(intP 3),(intP 2),(.sl 3 [(intP 10),(intP 6),(intP 4)]),(.sl 2 [(.sl 3 [(intP 1),(intP 2),(intP 3)]),(.sl 3 [(intP 3),(intP 1),(intP 1)])])])),(.p (intP 2))] [] 2 (.tup [(.p (.sl 3 [(intP 2),(intP 3),(intP 1)])),(.p (intP 0))]) [],FC Tryz.prog 85 [] [] 2 (.p (.agg [(intP 3),(intP 3),(intP 2),(.sl 3 [(intP 10),(intP 6),(intP 4)]),(.sl 2 [(.sl 3 [(intP 1),(intP 2),(intP 3)]),(.sl 3 [(intP 3),(intP 1),(intP 1)])])])) [],FC Tryz.prog 73 [(.p (.agg [(intP 2),(intP 4),(intP 4),(.sl 2 [(intP 10),(intP 4)]),(.sl 3 [(.sl 2 [(intP 1),(intP 2)]),(.sl 2 [(intP 1),(intP 2)]),(.sl 2 [(intP 1),(intP 2)])])]))] [] 2 (.tup [(.p (intP 3)),(.p (intP 0)),(.p (intP 0))]) [],FC Tryz.prog 86 [] [] 2 (.p (.agg [(intP 2),(intP 4),(intP 4),(.sl 2 [(intP 10),(intP 4)]),(.sl 3 [(.sl 2 [(intP 1),(intP 2)]),(.sl 2 [(intP 1),(intP 2)]),(.sl 2 [(intP 1),(intP 2)])])])) [],((3:Int) != (3:Int))=false,_,_,_,false=false,false=false,false=false,false=false,false=false,false=false,FC Tryz.prog 25 [(.p (.sl 3 [(intP 0),(intP 1),(intP 2)])),(.own 1)] [(1,(.row 3 3 [(intP 0),(intP 1),(intP 2)]))] 2 (.p (blP true)) [],false=false,false=false,false=false,_,_,FC Tryz.prog 39 [(.p (.sl 3 [(intP 1),(intP 1),(intP 14),(intP 1),(intP 0),(intP 2),(intP 14),(intP 1),(intP 2),(intP 3),(intP 12),(intP 1)])),(.own 0)] [(0,(.row 61 3 [(intP 1),(intP 1),(intP 14),(intP 1),(intP 0),(intP 2),(intP 14),(intP 1),(intP 2),(intP 3),(intP 12),(intP 1)]))] 1 (.p (blP true)) [],_,_,_,_,_,_,_,_,_,_,_,_,_,_,_,FC Tryz.prog 55 [(.p (.agg [(intP 3),(intP 3),(intP 2),(.sl 3 [(intP 10),(intP 6),(intP 4)]),(.sl 2 [(.sl 3 [(intP 1),(intP 2),(intP 3)]),(.sl 3 [(intP 3),(intP 1),(intP 1)])])])),(.p (intP 1))] [] 0 (.tup [(.p (intP 3)),(.p (.sl 3 [(intP 1),(intP 0),(intP 2)])),(.p (intP 0))]) [],FC Tryz.prog 85 [] [] 0 (.p (.agg [(intP 3),(intP 3),(intP 2),(.sl 3 [(intP 10),(intP 6),(intP 4)]),(.sl 2 [(.sl 3 [(intP 1),(intP 2),(intP 3)]),(.sl 3 [(intP 3),(intP 1),(intP 1)])])])) [],FC Tryz.prog 38 [(.p (.agg [(intP 3),(intP 3),(intP 2),(.sl 3 [(intP 10),(intP 6),(intP 4)]),(.sl 2 [(.sl 3 [(intP 1),(intP 2),(intP 3)]),(.sl 3 [(intP 3),(intP 1),(intP 1)])])]))] [] 0 (.tup [(.p (.sl 0 [])),(.p (intP 0))]) [],FC Tryz.prog 85 [] [] 0 (.p (.agg [(intP 3),(intP 3),(intP 2),(.sl 3 [(intP 10),(intP 6),(intP 4)]),(.sl 2 [(.sl 3 [(intP 1),(intP 2),(intP 3)]),(.sl 3 [(intP 3),(intP 1),(intP 1)])])])) [],FC Tryz.prog 37 [(.p (.agg [(intP 3),(intP 3),(intP 2),(.sl 3 [(intP 10),(intP 6),(intP 4)]),(.sl 2 [(.sl 3 [(intP 1),(intP 2),(intP 3)]),(.sl 3 [(intP 3),(intP 1),(intP 1)])])]))] [] 0 (.tup [(.p (.sl 3 [(intP 0),(intP 1),(intP 2)])),(.p (intP 0))]) [],FC Tryz.prog 85 [] [] 0 (.p (.agg [(intP 3),(intP 3),(intP 2),(.sl 3 [(intP 10),(intP 6),(intP 4)]),(.sl 2 [(.sl 3 [(intP 1),(intP 2),(intP 3)]),(.sl 3 [(intP 3),(intP 1),(intP 1)])])])) [],FC Tryz.prog 34 [(.p (.agg [(intP 3),(intP 3),(intP 2),(.sl 3 [(intP 10),(intP 6),(intP 4)]),(.sl 2 [(.sl 3 [(intP 1),(intP 2),(intP 3)]),(.sl 3 [(intP 3),(intP 1),(intP 1)])])]))] [] 0 (.tup [(.p (.sl 3 [(intP 1),(intP 1),(intP 14),(intP 1),(intP 0),(intP 2),(intP 14),(intP 1),(intP 2),(intP 3),(intP 12),(intP 1)])),(.p (intP 0))]) [],FC Tryz.prog 85 [] [] 0 (.p (.agg [(intP 3),(intP 3),(intP 2),(.sl 3 [(intP 10),(intP 6),(intP 4)]),(.sl 2 [(.sl 3 [(intP 1),(intP 2),(intP 3)]),(.sl 3 [(intP 3),(intP 1),(intP 1)])])])) []]) (by kernel_rfl) (gc zL6q3 (gc (fv (h87_9 _)) (gc zL6q3 (gc zL6q3 (gc zL6q3 (gc zL6q3 (gc zL6q3 (gc zL6q2 (gc zL6q2 (gc rfl (gc zL6q2 (gc (by first | decide | simp) (gc zL6q2 (gc zL6q2 (gc zL6q1 (gc zL6q1 (gc zL6q1 (gc zL6q1 (gc zL6q2 (gc zL6q2 (gc zL6q2 (gc zL6q1 (gc zL6q1 (gc zL6q1 (gc zL6q1 (gc zL6q1 (gc zL6q1 (gc zL6q1 (gc zL6q1 (gc zL6q1 (gc (FV.close (ids:=[2,3]) (args':=[(.p (.agg [(intP 3),(intP 3),(intP 2),(.sl 3 [(intP 10),(intP 6),(intP 4)]),(.sl 2 [(.sl 3 [(intP 1),(intP 2),(intP 3)]),(.sl 3 [(intP 3),(intP 1),(intP 1)])])])),(.p (.sl 3 [(intP 5),(intP 5),(intP 9)])),(.p (intP 1)),(.p (.sl 2 [(intP 4),(intP 3)]))]) (h22_8 _) (by kernel_rfl)) (gc (FV.fc three_p0 (by kernel_rfl)) (gc (FV.fc (h56_7 _) rfl) (gc (FV.fc three_p0 (by kernel_rfl)) (gc (FV.fc (h73_6 _) rfl) (gc (FV.fc two_p0 (by kernel_rfl)) (gc (by first | decide | simp) (gc zL6q0 (gc zL6q0 (gc zL6q0 (gc rfl (gc rfl (gc rfl (gc rfl (gc rfl (gc rfl (gc (fv (h25_5 _)) (gc rfl (gc rfl (gc rfl (gc zL6q0 (gc zL6q0 (gc (fv (h39_4 _)) (gc zL6q0 (gc zL6q0 (gc zL6q0 (gc zL6q0 (gc zL6q0 (gc zL6q0 (gc zL6q0 (gc zL6q0 (gc zL6q0 (gc zL6q0 (gc zL6q0 (gc zL6q0 (gc zL6q0 (gc zL6q0 (gc zL6q0 (gc (FV.fc (h55_3 _) rfl) (gc (FV.fc three_p0 (by kernel_rfl)) (gc (FV.fc (h38_2 _) rfl) (gc (FV.fc three_p0 (by kernel_rfl)) (gc (FV.fc (h37_1 _) rfl) (gc (FV.fc three_p0 (by kernel_rfl)) (gc (FV.fc (h34_0 _) rfl) (gc (FV.fc three_p0 (by kernel_rfl)) gn))))))))))))))))))))))))))))))))))))))))))))))))))))))))))))))))))))))))))))
end
end KV
end Go.Proofs
section
namespace Go.Proofs
namespace KL
def insI(x:Int):List Int→List Int
  | []=>[x]
  | y::r=>if x≤y then x::y::r else y::insI x r
def sortI:List Int→List Int
  | []=>[]
  | x::r=>insI x (sortI r)
theorem insI_perm(x:Int):∀ l,(insI x l).Perm (x::l)
  | [] => .refl _
  | y::r=>by
    unfold insI
    split
    · exact .refl _
    · exact ((insI_perm x r).cons y).trans (List.Perm.swap x y r)
theorem sortI_perm:∀ l,(sortI l).Perm l
  | [] => .refl _
  | x::r=>(insI_perm x _).trans ((sortI_perm r).cons x)
theorem insI_sorted(x:Int):∀ l,l.Pairwise (· ≤ ·)→(insI x l).Pairwise (· ≤ ·)
  | [],_=>by simp [insI]
  | y::r,h=>by
    obtain ⟨h1,h2⟩:=List.pairwise_cons.1 h
    unfold insI
    split
    · rename_i hx
      exact List.pairwise_cons.2 ⟨fun z hz=>by
        rcases List.mem_cons.1 hz with rfl | hz
        · exact hx
        · have:=h1 z hz;omega,h⟩
    · rename_i hx
      refine List.pairwise_cons.2 ⟨fun z hz => ?_,insI_sorted x r h2⟩
      rcases List.mem_cons.1 ((insI_perm x r).mem_iff.1 hz) with rfl | hz
      · omega
      · exact h1 z hz
theorem sortI_sorted:∀ l,(sortI l).Pairwise (· ≤ ·)
  | [] => .nil
  | x::r=>insI_sorted x _ (sortI_sorted r)
theorem sorted_eq:∀ (a b:List Int),a.Perm b→a.Pairwise (· ≤ ·)→b.Pairwise (· ≤ ·)→a=b
  | [],b,h,_,_=>(List.nil_perm.1 h).symm
  | x::r,[],h,_,_=>absurd h.length_eq (by simp)
  | x::r,y::t,h,ha,hb=>by
    obtain ⟨h1,h2⟩:=List.pairwise_cons.1 ha
    obtain ⟨h3,h4⟩:=List.pairwise_cons.1 hb
    have e:x=y:=by
      have m1:x∈y::t:=h.mem_iff.1 (List.mem_cons_self ..)
      have m2:y∈x::r:=h.mem_iff.2 (List.mem_cons_self ..)
      rcases List.mem_cons.1 m1 with e | m1
      · exact e
      · rcases List.mem_cons.1 m2 with e | m2
        · exact e.symm
        · have:=h1 y m2;have:=h3 x m1;omega
    subst e
    rw [sorted_eq r t (List.Perm.cons_inv h) h2 h4]
theorem mergeSort_eq(l:List Int):l.mergeSort leB=sortI l:=by
  refine sorted_eq _ _ ((List.mergeSort_perm _ _).trans (sortI_perm l).symm) ?_ (sortI_sorted l)
  have:=List.pairwise_mergeSort leB_trans leB_total l
  exact this.imp (fun h=>by simpa [leB] using h)
end KL
namespace KV
open KL
theorem h39(base:Nat):FV Tryz.prog 39 [(.p (.sl 3 [(intP 1),(intP 1),(intP 14),(intP 1),(intP 0),(intP 2),(intP 14),(intP 1),(intP 2),(intP 3),(intP 12),(intP 1)])),(.p (.sl 3 [(intP 1),(intP 1),(intP 14),(intP 1),(intP 0),(intP 2),(intP 14),(intP 1),(intP 2),(intP 3),(intP 12),(intP 1)]))] base (.p (blP true)) [] :=
  eql_ok [[1,1,14,1],[0,2,14,1],[2,3,12,1]] [[1,1,14,1],[0,2,14,1],[2,3,12,1]] (by decide) (by unfold uni;decide) (by unfold uni;decide)
theorem h25(base:Nat):FV Tryz.prog 25 [(.p (.sl 3 [(intP 0),(intP 1),(intP 2)])),(.p (.sl 3 [(intP 0),(intP 1),(intP 2)]))] base (.p (blP true)) []:=eqi_ok [0,1,2] [0,1,2] (by decide)
theorem h87(base:Nat):FV Tryz.prog 87 [(.p (.sl 2 [(intP 5),(intP 1),(intP 14),(intP 4),(intP 9),(intP 2),(intP 12),(intP 3)])),(.p (.sl 2 [(intP 5),(intP 1),(intP 14),(intP 4),(intP 9),(intP 2),(intP 12),(intP 3)]))] base (.p (blP true)) [] :=
  eqn_ok [[5,1,14,4],[9,2,12,3]] [[5,1,14,4],[9,2,12,3]] (by decide) (by unfold uni;decide) (by unfold uni;decide)
theorem countedL_eq(c:Cup)(s:Nat):countedL c s=KL.sortI ((KL.isort (KL.ltC (KL.cntCmp c s)) (KL.idx c.done.length)).take (min c.done.length c.be.toNat)):=by
  unfold countedL
  exact KL.mergeSort_eq _
def totK(c:Cup)(s:Nat):Int:=((KL.sortI ((KL.isort (KL.ltC (KL.cntCmp c s)) (KL.idx c.done.length)).take (min c.done.length c.be.toNat))).map fun i=>scoreAt c i.toNat s).sum
theorem totalM_eq(c:Cup)(s:Nat):totalM c s=totK c s:=by
  unfold totalM totK
  rw [countedL_eq]
def betK(c:Cup)(a b:Nat):Bool:=KL.betterF (totK c a) (totK c b) (placesM c a) (placesM c b)
theorem betS_eq(c:Cup)(a b:Nat):betS c a b=betK c a b:=by
  unfold betS betK
  rw [totalM_eq,totalM_eq]
def rankK(c:Cup)(s:Nat):Int:=1+((KL.oth s c.sk.toNat).countP (fun x=>betK c x s):Nat)
theorem rankM_eq(c:Cup)(s:Nat):rankM c s=rankK c s:=by
  unfold rankM rankK
  simp only [betS_eq]
def canK(c:Cup)(s:Nat):Bool:=rankK (withC c (wonM c s)) s == 1
theorem canM_eq(c:Cup):canM c=canK c:=by
  funext s
  unfold canM canK
  rw [rankM_eq]
set_option maxRecDepth 100000 in
theorem v37:whoM (canM threeC) 3=[0,1,2]:=by
  rw [canM_eq]
  kernel_rfl
theorem clash_no{race:List Int}(h0:∀ x∈race,0≤x)(h:KL.NoClash race):KL.clashR race=false:=(KL.clash_iff race h0).2 h
theorem valid_three:KL.Valid threeC where
  sk1:=by decide
  sk2:=by decide
  ra1:=by decide
  ra2:=by decide
  be1:=by decide
  be2:=by decide
  pt1:=by decide
  pt2:=by decide
  dn:=by decide
  len:=by decide
  pts:=by decide
  rows:=by decide
  falls:=by kernel_rfl
  clash:=by
    show (KL.clashR [1,2,3] || (KL.clashR [3,1,1] || false))=false
    rw [clash_no (by decide) (by unfold KL.NoClash;decide),clash_no (by decide) (by unfold KL.NoClash;decide)]
    rfl
theorem valid_two:KL.Valid twoC where
  sk1:=by decide
  sk2:=by decide
  ra1:=by decide
  ra2:=by decide
  be1:=by decide
  be2:=by decide
  pt1:=by decide
  pt2:=by decide
  dn:=by decide
  len:=by decide
  pts:=by decide
  rows:=by decide
  falls:=by kernel_rfl
  clash:=by
    show (KL.clashR [1,2] || (KL.clashR [1,2] || (KL.clashR [1,2] || false)))=false
    rw [clash_no (by decide) (by unfold KL.NoClash;decide)]
    rfl
theorem h37(base:Nat):FV Tryz.prog 37 [.p (cupP threeC)] base (.tup [.p (intsP [0,1,2]),.p (intP 0)]) []:=by
  have:=canE_ok threeC valid_three (base:=base)
  rwa [show whoM (canM threeC) threeC.sk.toNat=[0,1,2] from v37] at this
theorem v34:tableM threeC=[[1,1,14,1],[0,2,14,1],[2,3,12,1]]:=by
  unfold tableM tabL
  simp only [rankM_eq,totalM_eq]
  kernel_rfl
theorem h34(base:Nat):FV Tryz.prog 34 [.p (cupP threeC)] base (.tup [.p (.sl 3 ([[1,1,14,1],[0,2,14,1],[2,3,12,1]].flatten.map intP)),.p (intP 0)]) []:=by
  have:=table_ok threeC valid_three (base:=base)
  rwa [v34] at this
theorem lastE_three(k:Int)(h:0≤k∧k<3):lastE threeC k=0:=by
  unfold lastE
  rw [named_in valid_three h.1 h.2]
  rfl
def beatK(c:Cup)(o:Nat)(p:Int)(s:Nat)(w:Int):Bool:=betK (withC c [KL.race2 c.sk.toNat o p s w]) o s
theorem beatsM_fun:beatsM=beatK:=by funext c o p s w;unfold beatsM beatK;rw [betS_eq]
def findK(c:Cup)(s:Nat)(pl:Int)(free:List Int):Int:=(KL.oth s c.sk.toNat).foldl (fun fo x=>if fo<0 then (if free.getD x 0=0 then (if beatK c x pl s 1 then fo else (x:Int)) else fo) else fo) (-1)
theorem findM_eq(c:Cup)(s:Nat)(pl:Int)(free:List Int):findM c s pl free=findK c s pl free:=by
  have:findF c s pl free=fun fo x=>if fo<0 then (if free.getD x 0=0 then (if beatK c x pl s 1 then fo else (x:Int)) else fo) else fo:=by
    funext fo x
    unfold findF
    rw [beatsM_fun]
  unfold findM findK
  rw [this]
def fullRK(c:Cup)(s:Nat):Nat→Int→List Int→Option (List Int)
  | 0,_,free=>some free
  | n+1,pl,free=>if findK c s pl free<0 then none else fullRK c s n (pl+1) (free.set (findK c s pl free).toNat pl)
theorem fullR_eq(c:Cup)(s:Nat):∀ n pl free,fullR c s n pl free=fullRK c s n pl free
  | 0,_,_=>rfl
  | n+1,pl,free=>by
    unfold fullR fullRK
    rw [findM_eq,fullR_eq c s n]
theorem v56:fullM threeC 2=some [2,3,1]:=by
  unfold fullM
  rw [fullR_eq]
  kernel_rfl
theorem h56(base:Nat):FV Tryz.prog 56 [.p (cupP threeC),.p (intP 2)] base (.tup [.p (intsP [2,3,1]),.p (intP 0)]) []:=by
  have:=full_ok threeC 2 (lastE_three 2 (by omega)) (base:=base)
  rw [v56] at this
  exact this
def passK(c:Cup)(skier s:Nat):Bool:=decide (s≠skier) && decide (1<rankK (withC c (wonM c s)) skier)
theorem passes_eq(c:Cup)(skier s:Nat):KL.passes c skier s=passK c skier s:=by
  unfold KL.passes passK
  rw [rankM_eq]
def agK(c:Cup)(skier:Nat):Nat→Nat→Option Nat
  | 0,_=>none
  | f+1,k=>if passK c skier k then some k else agK c skier f (k+1)
theorem ag_eq(c:Cup)(skier:Nat):∀ f k,KL.againstAt c skier f k=agK c skier f k
  | 0,_=>rfl
  | f+1,k=>by
    unfold KL.againstAt agK
    rw [passes_eq,ag_eq c skier f]
def sureK(c:Cup)(s:Nat):Bool := !(agK c s c.sk.toNat 0).isSome
theorem sureM_eq(c:Cup):sureM c=sureK c:=by
  funext s
  unfold sureM sureK KL.againstM
  rw [ag_eq]
theorem v38:whoM (sureM threeC) 3=[]:=by
  rw [sureM_eq]
  kernel_rfl
theorem h38(base:Nat):FV Tryz.prog 38 [.p (cupP threeC)] base (.tup [.p (intsP []),.p (intP 0)]) []:=by
  have:=sureE_ok threeC valid_three (base:=base)
  rwa [show whoM (sureM threeC) threeC.sk.toNat=[] from v38] at this
def decPK(c:Cup)(n:Nat):Bool:=decide (0<(whoM (sureK (earlyC c n)) c.sk.toNat).length) && decide ((whoM (canK (earlyC c n)) c.sk.toNat).length=1)
theorem decP_eq(c:Cup):decP c=decPK c:=by
  funext n
  unfold decP decPK
  rw [sureM_eq,canM_eq]
theorem v73:decM twoC=(3,0,0):=by
  unfold decM
  rw [decP_eq]
  simp only [sureM_eq]
  kernel_rfl
theorem h73(base:Nat):FV Tryz.prog 73 [.p (cupP twoC)] base (.tup [.p (intP 3),.p (intP 0),.p (intP 0)]) []:=by
  have:=dec_ok twoC valid_two (base:=base)
  rwa [v73] at this
def rivPK(c:Cup)(s i:Nat):Int:=if beatK c i 0 s 0 then 61 else upto (fun p=>beatK c i p s 0) 60 0
theorem rivPl_eq(c:Cup)(s i:Nat):rivPl c s i=rivPK c s i:=by
  unfold rivPl rivPK
  rw [beatsM_fun]
theorem v55:worstM threeC 1=(3,3,[1,0,2]):=by
  have e:rivG threeC 1=fun i=>if i=1 then [] else if 0<rivPK threeC 1 i then [[(i:Int),rivPK threeC 1 i]] else []:=by
    funext i
    unfold rivG
    rw [rivPl_eq]
  have h:((KL.isort (ltK 1) ((List.range threeC.sk.toNat).flatMap fun i=>if i=1 then [] else if 0<rivPK threeC 1 i then [[(i:Int),rivPK threeC 1 i]] else [])).foldl wStep (1,1,List.replicate threeC.sk.toNat 0):Int × Int × List Int)=(3,3,[1,0,2]):=by kernel_rfl
  unfold worstM rivM rivL
  rw [e]
  exact h
theorem h55(base:Nat):FV Tryz.prog 55 [.p (cupP threeC),.p (intP 1)] base (.tup [.p (intP 3),.p (intsP [1,0,2]),.p (intP 0)]) []:=by
  have:=worst_ok threeC 1 (lastE_three 1 (by omega)) (base:=base)
  rw [v55] at this
  exact this
theorem awake_told(h22:∀ base:Nat,FV Tryz.prog 22 [.p (cupP threeC),.p (intsP [5,5,9]),.p (intP 1),.p (intsP [4,3])] base (.tup [.p (.sl 2 ([[5,1,14,4],[9,2,12,3]].flatten.map intP)),.p (intP 0)]) [])(base:Nat):FV Tryz.prog 19 [] base (.p (blP true)) [] :=
  awake_p0 h34 h37 h38 h55 h39 h25 h73 h56 h22 h87
end KV
end Go.Proofs
end
section
namespace Go.Proofs
open KL Go.RowKit
namespace KV

theorem totalM_bd{c:KL.Cup}(hV:KL.Valid c)(s:Nat):0≤KL.totalM c s∧KL.totalM c s≤20000:=by
  unfold KL.totalM
  have hl:((KL.countedL c s).map fun i=>KL.scoreAt c i.toNat s).length≤20:=by
    rw [List.length_map,countedL_eq]
    have h1:∀ l,(KL.sortI l).length=l.length:=fun l=>by rw [← KL.mergeSort_eq];exact List.length_mergeSort l
    rw [h1,List.length_take]
    have:=hV.be2
    have:=hV.ra2
    omega
  have hb:∀ x∈((KL.countedL c s).map fun i=>KL.scoreAt c i.toNat s),0≤x∧x≤1000:=fun x hx=>by
    obtain ⟨i,_,rfl⟩:=List.mem_map.1 hx
    exact KL.scoreM_bd _ _ _ hV.pts
  have key:∀ l:List Int,(∀ x∈l,0≤x∧x≤1000)→0≤l.sum∧l.sum≤1000*l.length:=fun l h=>by
    induction l with
    | nil=>simp
    | cons x r ih =>
      have h1:=h x (List.mem_cons_self ..)
      have h2:=ih fun y hy=>h y (List.mem_cons_of_mem _ hy)
      rw [List.sum_cons,List.length_cons]
      omega
  have:=key _ hb
  omega
theorem totalsM_len(c:KL.Cup):(KL.totalsM c).length=c.sk.toNat:=KL.totalsUp_length _ _
theorem totalsM_mem{c:KL.Cup}(hV:KL.Valid c):∀ x∈KL.totalsM c,0≤x∧x≤20000:=fun x hx=>by
  unfold KL.totalsM KL.totalsUp at hx
  obtain ⟨s,_,rfl⟩:=List.mem_map.1 hx
  exact totalM_bd hV s
theorem all_within{l:List Int}{a b:Int}(h:(l.all fun x=>within x a b)=true):∀ x∈l,a≤x∧x≤b:=fun x hx=>by
  have:=List.all_eq_true.1 h x hx
  exact within_iff.1 this
theorem nat_ok(c:KL.Cup)(ns:List Int)(mo:Int)(qs:List Int)(hS:KL.Small c)(hE:natE c ns mo qs=0){base:Nat}:FV Tryz.prog 22 [.p (cupP c),.p (intsP ns),.p (intP mo),.p (intsP qs)] base
    (.tup [.p (.sl (nationsM c ns mo qs).length ((nationsM c ns mo qs).flatten.map intP)),.p (intP 0)]) []:=by
  unfold natE at hE
  split at hE
  · exact absurd hE ‹_›
  rename_i h1
  split at hE
  · omega
  rename_i h2
  split at hE
  · omega
  rename_i h3
  split at hE
  · omega
  rename_i h4
  have h1:KL.checkP c=0:=Decidable.byContradiction h1
  have hV:=(KL.valid_iff c).1 h1
  have a1:(ns.length:Int)=c.sk:=Decidable.byContradiction fun h=>h2 (.inl h)
  have a2:within (qs.length:Int) 1 31=true:=by
    cases h:within (qs.length:Int) 1 31
    · exact absurd (.inr h) h2
    · rfl
  have a3:(ns.all fun x=>within x 0 30)=true:=by
    cases h:(ns.all fun x=>within x 0 30)
    · exact absurd (.inl h) h3
    · rfl
  have a4:within mo 1 12=true:=by
    cases h:within mo 1 12
    · exact absurd (.inr (.inl h)) h3
    · rfl
  have a5:(qs.all fun x=>within x 0 20)=true:=by
    cases h:(qs.all fun x=>within x 0 20)
    · exact absurd (.inr (.inr h)) h3
    · rfl
  have a6:KL.fallsB qs=true:=by
    cases h:KL.fallsB qs
    · exact absurd h h4
    · rfl
  have b2:=within_iff.1 a2
  have s2:=hV.sk2
  exact nat_p7 hS h1 a1 a2 (by unfold small;omega) a3 a4 (by unfold small;omega) a5 (by omega) a6 (nat_main hV a1 (all_within a3) (within_iff.1 a4) (by omega) (totalsM_len c) (fun x hx=>by have:=totalsM_mem hV x hx;omega))
theorem totals_three:KL.totalsM threeC=[14,14,12]:=by
  have e:KL.totalsM threeC=(List.range 3).map (totK threeC):=by
    unfold KL.totalsM KL.totalsUp
    exact List.map_congr_left fun s _=>totalM_eq threeC s
  have h:(List.range 3).map (totK threeC)=[14,14,12]:=by kernel_rfl
  exact e.trans h
theorem v22:nationsM threeC [5,5,9] 1 [4,3]=[[5,1,14,4],[9,2,12,3]]:=by
  unfold nationsM
  have h:natL [4,3] (outL [5,5,9] [14,14,12] 1 ([14,14,12]:List Int).length 31)=[[5,1,14,4],[9,2,12,3]]:=by kernel_rfl
  rw [totals_three]
  exact h
theorem h22(base:Nat):FV Tryz.prog 22 [.p (cupP threeC),.p (intsP [5,5,9]),.p (intP 1),.p (intsP [4,3])] base (.tup [.p (.sl 2 ([[5,1,14,4],[9,2,12,3]].flatten.map intP)),.p (intP 0)]) []:=by
  have hE:natE threeC [5,5,9] 1 [4,3]=0:=by
    unfold natE
    have h:(if (([5,5,9]:List Int).length:Int)≠threeC.sk∨within (([4,3]:List Int).length:Int) 1 31=false then (2:Int) else if (([5,5,9]:List Int).all fun x=>within x 0 30)=false∨within 1 1 12=false∨(([4,3]:List Int).all fun x=>within x 0 20)=false then 3 else if KL.fallsB [4,3]=false then 4 else 0)=0:=by kernel_rfl
    rw [(KL.valid_iff threeC).2 valid_three,if_neg (by simp)]
    exact h
  have:=nat_ok threeC [5,5,9] 1 [4,3] valid_three.small hE (base:=base)
  rw [v22] at this
  exact this
theorem awake_ok(base:Nat):FV Tryz.prog 19 [] base (.p (blP true)) []:=awake_told h22 base
end KV
end Go.Proofs
end
section
namespace Go.Proofs
namespace KL
section
variable {α:Type}
theorem ins_split(lt:α→α→Bool)(A:List α)(x:α):∃ B D:List α,A=B++D∧ins lt A x=B++x::D∧(∀ d∈D,lt x d=true)∧(B=[]∨∃ B' h,B=B'++[h]∧lt x h=false):=by
  have hA:A=(A.reverse.dropWhile (lt x)).reverse++(A.reverse.takeWhile (lt x)).reverse:=by
    rw [← List.reverse_append,List.takeWhile_append_dropWhile,List.reverse_reverse]
  generalize hdw:A.reverse.dropWhile (lt x)=dw at hA
  generalize htw:A.reverse.takeWhile (lt x)=tw at hA
  have hp:insPos lt x A=dw.reverse.length:=by unfold insPos;rw [hdw,List.length_reverse]
  refine ⟨dw.reverse,tw.reverse,hA,?_,fun d hd => ?_,?_⟩
  · unfold ins
    rw [hp]
    conv=>lhs;rw [hA]
    rw [List.take_left',List.drop_left'] <;> rfl
  · rw [List.mem_reverse,← htw] at hd
    exact List.all_eq_true.1 List.all_takeWhile d hd
  · cases dw with
    | nil=>exact .inl rfl
    | cons h r =>
      refine .inr ⟨r.reverse,h,by simp,?_⟩
      have:=List.head_dropWhile_not (lt x) (l:=A.reverse) (by rw [hdw];simp)
      simp only [hdw,List.head_cons] at this
      simpa using this
theorem ins_perm(lt:α→α→Bool)(A:List α)(x:α):(ins lt A x).Perm (x::A):=by
  obtain ⟨B,D,h1,h2,_⟩:=ins_split lt A x
  rw [h2,h1]
  exact List.perm_middle
theorem isort_perm(lt:α→α→Bool)(l:List α):(isort lt l).Perm l:=by
  unfold isort
  have:∀ (l A:List α),(l.foldl (ins lt) A).Perm (A++l):=by
    intro l
    induction l with
    | nil=>intro A;simp
    | cons x r ih =>
      intro A
      rw [List.foldl_cons]
      refine (ih _).trans (((ins_perm lt A x).append_right r).trans ?_)
      exact List.perm_middle.symm
  simpa using this l []
theorem ins_sorted{f:α→Int}{lt:α→α→Bool}(hlt:∀ x y,lt x y=decide (f x<f y)){A:List α}(x:α)(hs:A.Pairwise (fun a b=>f a≤f b)):(ins lt A x).Pairwise (fun a b=>f a≤f b):=by
  obtain ⟨B,D,rfl,h2,h3,h4⟩:=ins_split lt A x
  rw [h2]
  obtain ⟨s1,s2,s3⟩:=List.pairwise_append.1 hs
  have hB:∀ b∈B,f b≤f x:=fun b hb=>by
    rcases h4 with rfl | ⟨B',h,rfl,hx⟩
    · simp at hb
    · rw [hlt,decide_eq_false_iff_not] at hx
      rcases List.mem_append.1 hb with hb | hb
      · have:=(List.pairwise_append.1 s1).2.2 b hb h (by simp)
        omega
      · simp at hb;subst hb;omega
  have hD:∀ d∈D,f x≤f d:=fun d hd=>by
    have:=h3 d hd
    rw [hlt,decide_eq_true_eq] at this
    omega
  refine List.pairwise_append.2 ⟨s1,List.pairwise_cons.2 ⟨hD,s2⟩,fun a ha b hb => ?_⟩
  rcases List.mem_cons.1 hb with rfl | hb
  · exact hB a ha
  · exact s3 a ha b hb
theorem isort_sorted{f:α→Int}{lt:α→α→Bool}(hlt:∀ x y,lt x y=decide (f x<f y))(l:List α):(isort lt l).Pairwise (fun a b=>f a≤f b):=by
  unfold isort
  have:∀ (l A:List α),A.Pairwise (fun a b=>f a≤f b)→(l.foldl (ins lt) A).Pairwise (fun a b=>f a≤f b):=by
    intro l
    induction l with
    | nil=>intro A h;exact h
    | cons x r ih=>intro A h;rw [List.foldl_cons];exact ih _ (ins_sorted hlt x h)
  exact this l [] .nil
end
end KL
end Go.Proofs
end
namespace Go.Proofs
namespace KV
section
open KL
def ofM(L:List (List Int))(n:Int):List Int:=(L.find? fun x=>x.getD 0 0 == n).getD [0,-1,0,0]
end
end KV
end Go.Proofs
section
namespace Go.Proofs
open KL Go.RowKit
namespace KV

theorem cmp_dec(a b:Int):decide (KL.cmpI a b<0)=decide (a<b):=by
  unfold KL.cmpI
  split
  · rename_i h;simp [h]
  · rename_i h
    split
    · rename_i h2;simp;omega
    · simp;omega
theorem sum_nonneg{l:List Int}(h:∀ x∈l,0≤x):0≤l.sum:=by
  induction l with
  | nil=>simp
  | cons x r ih =>
    have:=h x (List.mem_cons_self ..)
    have:=ih fun y hy=>h y (List.mem_cons_of_mem _ hy)
    rw [List.sum_cons];omega
theorem sum_perm{l r:List Int}(h:l.Perm r):l.sum=r.sum:=by
  induction h with
  | nil=>rfl
  | cons x _ ih=>rw [List.sum_cons,List.sum_cons,ih]
  | swap x y l=>simp only [List.sum_cons];omega
  | trans _ _ h1 h2=>rw [h1,h2]

section
variable {ns ts:List Int} {mo:Int} {qs:List Int} {N:Nat}
end

end KV
end Go.Proofs
end
namespace Go.Proofs
namespace KV
section
open KL
noncomputable abbrev zM3c0:Code:=sub (cd Tryz.f42) [1,1,0,1,0,0]
theorem cli_p0{l:List Int}(h0:(l.map intP).length=l.length*1∧l.length≤1000000){base:Nat}:FV Tryz.prog 21 [(.p (intsP l))] base (.p (intsP l)) []:=by
  exact FV.frz (FMM.fin (k:=0) (g:=⟨[],[],[0],[]⟩) rfl Tryz.func21 rfl (o:=[]) (l:=[_]) (by kernel_rfl) (gc h0 gn)) (by kernel_rfl)
theorem cli_ok(l:List Int)(hl:l.length≤1000){base:Nat}:FV Tryz.prog 21 [.p (intsP l)] base (.p (intsP l)) []:=cli_p0 ⟨by simp,by omega⟩
def cla_S0(l:List (List Int))(i:Nat)(on:Nat)(oc:List PV):St:=⟨fr 19 [(2,(.p nilS)),(3,(.own 0)),(6,(.p (rowsP l))),(7,(.p (intP (l.length:Int)))),(8,(.p (intP (i:Int))))],[some (.row 22 on oc)]⟩
theorem cla_p0{l:List (List Int)}{i'0:Nat}{o'1:List (List Int)}(hl0:LoopOK Tryz.prog 0 zM3c0 (cla_S0 l 0 0 []) (.exit 0) (cla_S0 l i'0 o'1.length (o'1.map intsP))){base:Nat}:FV Tryz.prog 42 [(.p (rowsP l))] base (.p (rowsP o'1)) []:=by
  exact FV.frz (FMM.fin (k:=0) (g:=⟨[],[],[0],[]⟩) rfl Tryz.func42 rfl (o:=[.k 8 ⟨(rng [(0,2),(4,2),(9,9)]),[0],[],[(3,22)]⟩ (.exit 0) (cla_S0 l i'0 o'1.length (o'1.map intsP))]) (l:=[_]) (by kernel_rfl) (gc hl0.code gn)) (by kernel_rfl)
theorem cla_L0_p0{l:List (List Int)}{i:Nat}{o:List (List Int)}{x100:List Int}{i':Nat}{o':List (List Int)}(h0:(i:Int)<(l.length:Int))(h1:l[i]? = some x100)(h2:x100.length≤1000)(h3:[(intsP x100)].length=1*1∧o.length+1≤1000000)(h4:inR (((i+1):Nat):Int))(ei':i'=(i+1))(eo'n:o'.length=(o.length+1))(eo'c:o'.map intsP=((o.map intsP)++[(intsP x100)])):CodeOK Tryz.prog 0 zM3c0 (cla_S0 l i o.length (o.map intsP)) .normal (cla_S0 l i' o'.length (o'.map intsP)):=by
  subst ei'
  have raw:CodeOK Tryz.prog 0 zM3c0 (cla_S0 l i o.length (o.map intsP)) .normal (cla_S0 l (i+1) (o.length+1) ((o.map intsP)++[(intsP x100)])):=CodeOK.fin (g:=⟨(rng [(0,2),(4,2),(9,9)]),[2],[],[]⟩) (o:=[bT,.x (intsP x100),.c (.p (intsP x100)) []]) (l:=[_,_,_,_,_,_]) (by kernel_rfl) (gc h4 (gc h3 (gc (fk 1 (cli_ok x100 h2) rfl) (gc (atm intsP h1) (gc (ixn intsP h1) (gc (q_lt h0) gn))))))
  exact raw.cast (by rw [eo'n,eo'c])
theorem cla_L0_p1{l:List (List Int)}{i:Nat}{o:List (List Int)}(h0:(l.length:Int)≤(i:Int)):CodeOK Tryz.prog 0 zM3c0 (cla_S0 l i o.length (o.map intsP)) (.exit 0) (cla_S0 l i o.length (o.map intsP)):=by
  exact CodeOK.fin (g:=⟨(rng [(0,2),(4,2),(9,9)]),[0],[],[]⟩) (o:=[bF]) (l:=[_]) (by kernel_rfl) (gc (q_ltF h0) gn)
theorem cla_ok(l:List (List Int))(hl:l.length≤1000)(hr:∀ r∈l,r.length≤1000){base:Nat}:FV Tryz.prog 42 [.p (rowsP l)] base (.p (rowsP l)) []:=by
  have h:=LoopOK.count (P:=Tryz.prog) (k:=0) (b:=zM3c0) (e := .exit 0) (R:=cla_S0 l l.length l.length (l.map intsP)) l.length (fun i=>cla_S0 l i (l.take i).length ((l.take i).map intsP))
    (fun i hi=>cla_L0_p0 (o:=l.take i) (o':=l.take (i+1)) (by omega) (List.getElem?_eq_getElem hi) (hr _ (List.getElem_mem hi)) (by simp;omega) (inR_nat (by omega)) rfl (by simp;omega) (by rw [List.take_add_one,List.getElem?_eq_getElem hi,List.map_append];rfl))
    (by rw [List.take_length];exact cla_L0_p1 (by omega)) (by simp)
  exact cla_p0 (o'1:=l) h
theorem cln_p0{c:Cup}(h0:c.pts.length≤1000)(h1:c.done.length≤1000)(h2:∀ r∈c.done,r.length≤1000){base:Nat}:FV Tryz.prog 20 [(.p (cupP c))] base (.p (cupP c)) []:=by
  exact FV.fin Tryz.func20 rfl (o:=[.c (.p (intsP c.pts)) [],.c (.p (rowsP c.done)) []]) (l:=[_,_]) (by kernel_rfl) (gc (fk 6 (cla_ok c.done h1 h2) rfl) (gc (fk 2 (cli_ok c.pts h0) rfl) gn))
theorem cln_ok(c:Cup)(hS:KL.Small c){base:Nat}:FV Tryz.prog 20 [.p (cupP c)] base (.p (cupP c)) []:=cln_p0 hS.pts hS.done hS.rows
end
end KV
end Go.Proofs
