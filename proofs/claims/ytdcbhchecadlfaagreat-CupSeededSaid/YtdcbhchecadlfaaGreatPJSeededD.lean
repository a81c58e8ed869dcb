/- Parts of the proof of JSeeded: laws of walks, contracts of functions, plain models. No condition. -/
import Derived.RangeFuncLeaves
import Derived.OwnWalkIn
import Derived.TacticsInMore
import Derived.Maps.Keyed
import Derived.Maps.AppendAt
import Derived.OrdersHeld
import Derived.Great.BuildSlice
import Derived.Test.YtdcbhchecadlfaaGreatPJSeededC
set_option linter.unusedVariables false
set_option linter.unusedSimpArgs false
set_option maxRecDepth 100000
namespace Go.Proofs
namespace KV
section
open KL
noncomputable abbrev zK5c0:Code:=sub (cd Tryz.f130) [1,1,0,1,0,0]
noncomputable abbrev zK5c1:Code:=sub (cd Tryz.f74) [1,0,1,1,1,1,0,1,0,0]
noncomputable abbrev zK5c2:Code:=sub (cd Tryz.f130) [1,1,0,1,0,0,1,1,0,0,1,1,1,0,0,0]
noncomputable abbrev zK5c3:Code:=sub (cd Tryz.f56) [1,1,1,1,1,0,1,0,0]
noncomputable abbrev zK5c4:Code:=sub (cd Tryz.f35) [1,1,1,1,0,1,0,0]
def dec_S0(c:Cup)(i:Nat)(r:Int)(f:Int):St:=⟨fr 58 [(2,(.p (intP r))),(3,(.p (intP 0))),(4,(.p (intP (checkP c)))),(5,(.ptr 0 0)),(6,(.p (intP f))),(23,(.p (intP (((c.done.length+1):Nat):Int)))),(24,(.p (intP (i:Int))))],[some (.box 129 [(.p (intP c.sk)),(.p (intP c.ra)),(.p (intP c.be)),(.p (intsP c.pts)),(.p (rowsP c.done))])]⟩
theorem dec_p1{c:Cup}{i'0:Nat}{r'1 f'2:Int}(h0:KL.Small c)(h1:(checkP c)=(0:Int))(h2:inR (((c.done.length+1):Nat):Int))(hl3:LoopOK Tryz.prog 0 zK5c1 (dec_S0 c 0 (0:Int) (-1:Int)) (.exit 0) (dec_S0 c i'0 r'1 f'2))(h4:f'2<(0:Int)){base:Nat}:FV Tryz.prog 74 [(.p (cupP c))] base (.tup [(.p (intP 0)),(.p (intP 0)),(.p (intP 6))]) []:=by
  exact FV.frz (FMM.fin (k:=0) (g:=⟨[],[],[],[]⟩) rfl Tryz.func74 rfl (o:=[.c (.tup [(.p (cupP c)),(.p (intP (checkP c)))]) [],bF,.k 7 ⟨(rng [(0,2),(7,16),(25,29)]),[1],[],[]⟩ (.exit 0) (dec_S0 c i'0 r'1 f'2),bT]) (l:=[_,_,_,_,_]) (by kernel_rfl) (gc (q_lt h4) (gc hl3.code (gc h2 (gc (q_neF h1) (gc (fk 1 (asked_ok c h0) rfl) gn)))))) (by kernel_rfl)
theorem dec_p2{c:Cup}{i'0:Nat}{r'1 f'2:Int}(h0:KL.Small c)(h1:(checkP c)=(0:Int))(h2:inR (((c.done.length+1):Nat):Int))(hl3:LoopOK Tryz.prog 0 zK5c1 (dec_S0 c 0 (0:Int) (-1:Int)) (.exit 0) (dec_S0 c i'0 r'1 f'2))(h4:(0:Int)≤f'2){base:Nat}:FV Tryz.prog 74 [(.p (cupP c))] base (.tup [(.p (intP r'1)),(.p (intP f'2)),(.p (intP 0))]) []:=by
  exact FV.frz (FMM.fin (k:=0) (g:=⟨[],[],[],[]⟩) rfl Tryz.func74 rfl (o:=[.c (.tup [(.p (cupP c)),(.p (intP (checkP c)))]) [],bF,.k 7 ⟨(rng [(0,2),(7,16),(25,29)]),[1],[],[]⟩ (.exit 0) (dec_S0 c i'0 r'1 f'2),bF]) (l:=[_,_,_,_,_]) (by kernel_rfl) (gc (q_ltF h4) (gc hl3.code (gc h2 (gc (q_neF h1) (gc (fk 1 (asked_ok c h0) rfl) gn)))))) (by kernel_rfl)
abbrev zK50(c:Cup)(l100:List (List Int)):=whoM (sureM (⟨c.sk,c.ra,c.be,c.pts,l100⟩:Cup)) (⟨c.sk,c.ra,c.be,c.pts,l100⟩:Cup).sk.toNat
abbrev zK51(c:Cup)(l100:List (List Int)):=whoM (canM (⟨c.sk,c.ra,c.be,c.pts,l100⟩:Cup)) (⟨c.sk,c.ra,c.be,c.pts,l100⟩:Cup).sk.toNat
theorem dec_L0_p0{c:Cup}{i:Nat}{r f:Int}{l100:List (List Int)}{x101 r':Int}(h0:(i:Int)<(((c.done.length+1):Nat):Int))(h1:0≤(0:Int)∧(0:Int)≤(i:Int)∧(i:Int)≤(c.done.length:Int)∧(c.done.map intsP).length=c.done.length*1)(h2:(i-0)=l100.length)(h3:((c.done.map intsP).take (i*1))=l100.map intsP)(h4:KL.Valid (⟨c.sk,c.ra,c.be,c.pts,l100⟩:Cup))(h5:(0:Int)<(((whoM (sureM (⟨c.sk,c.ra,c.be,c.pts,l100⟩:Cup)) (⟨c.sk,c.ra,c.be,c.pts,l100⟩:Cup).sk.toNat).length:Nat):Int))(h6:(((whoM (canM (⟨c.sk,c.ra,c.be,c.pts,l100⟩:Cup)) (⟨c.sk,c.ra,c.be,c.pts,l100⟩:Cup).sk.toNat).length:Nat):Int)=(1:Int))(h7:(whoM (sureM (⟨c.sk,c.ra,c.be,c.pts,l100⟩:Cup)) (⟨c.sk,c.ra,c.be,c.pts,l100⟩:Cup).sk.toNat)[0]? = some x101)(er':r'=(i:Int)):CodeOK Tryz.prog 0 zK5c1 (dec_S0 c i r f) (.exit 0) (dec_S0 c i r' x101):=by
  subst er'
  exact CodeOK.fin (g:=⟨(rng [(0,2),(7,16),(25,29)]),[0],[],[]⟩) (o:=[bT,.c (.agg [(.fn 140 [] [])]) [],.c (.p (intsP (zK51 c l100))) [],.c (.agg [(.fn 159 [] [])]) [],.c (.p (intsP (zK50 c l100))) [],bT,bT,bT,bT,bT,.x (intP x101)]) (l:=[((zK50 c l100).map intP)[0]? = some (intP x101),0≤(0:Int)∧(0:Int)<(((zK50 c l100).length:Nat):Int)∧0<((zK50 c l100).map intP).length,_,_,_,_,_,FC Tryz.prog 113 [(.agg [(.fn 159 [] [])]),(.p (.agg [(intP c.sk),(intP c.ra),(intP c.be),(intsP c.pts),(.sl (i-0) ((c.done.map intsP).take (i*1)))]))] [] 14 (.p (intsP (zK50 c l100))) [],FC Tryz.prog 114 [] [] 10 (.agg [(.fn 159 [] [])]) [],FC Tryz.prog 113 [(.agg [(.fn 140 [] [])]),(.p (.agg [(intP c.sk),(intP c.ra),(intP c.be),(intsP c.pts),(.sl (i-0) ((c.done.map intsP).take (i*1)))]))] [] 6 (.p (intsP (zK51 c l100))) [],FC Tryz.prog 112 [] [] 2 (.agg [(.fn 140 [] [])]) [],_,_]) (by kernel_rfl) (gc (at_map (i:=0) h7) (gc (ix_map (i:=(0:Int)) (by first | decide | simp) h7) (gc (q_eq h6) (gc (q_lt h5) (gc (q_lt h5) (gc (q_lt h5) (gc (q_lt h5) (gc (FV.fc (by rw [show ((.sl (i-0) ((c.done.map intsP).take (i*1))):PV)=rowsP l100 from sl_cast h2 h3];exact (sureA_ok (⟨c.sk,c.ra,c.be,c.pts,l100⟩:Cup) h4)) rfl) (gc (FV.fc sureQ_p0 (by kernel_rfl)) (gc (FV.fc (by rw [show ((.sl (i-0) ((c.done.map intsP).take (i*1))):PV)=rowsP l100 from sl_cast h2 h3];exact (canA_ok (⟨c.sk,c.ra,c.be,c.pts,l100⟩:Cup) h4)) rfl) (gc (FV.fc canQ_p0 (by kernel_rfl)) (gc h1 (gc (q_lt h0) gn)))))))))))))
theorem dec_L0_p1{c:Cup}{i:Nat}{r f:Int}{l100:List (List Int)}{i':Nat}(h0:(i:Int)<(((c.done.length+1):Nat):Int))(h1:0≤(0:Int)∧(0:Int)≤(i:Int)∧(i:Int)≤(c.done.length:Int)∧(c.done.map intsP).length=c.done.length*1)(h2:(i-0)=l100.length)(h3:((c.done.map intsP).take (i*1))=l100.map intsP)(h4:KL.Valid (⟨c.sk,c.ra,c.be,c.pts,l100⟩:Cup))(h5:(0:Int)<(((whoM (sureM (⟨c.sk,c.ra,c.be,c.pts,l100⟩:Cup)) (⟨c.sk,c.ra,c.be,c.pts,l100⟩:Cup).sk.toNat).length:Nat):Int))(h6:(((whoM (canM (⟨c.sk,c.ra,c.be,c.pts,l100⟩:Cup)) (⟨c.sk,c.ra,c.be,c.pts,l100⟩:Cup).sk.toNat).length:Nat):Int)≠(1:Int))(h7:inR (((i+1):Nat):Int))(ei':i'=(i+1)):CodeOK Tryz.prog 0 zK5c1 (dec_S0 c i r f) .normal (dec_S0 c i' r f):=by
  subst ei'
  exact CodeOK.fin (g:=⟨(rng [(0,2),(7,16),(25,29)]),[0],[],[]⟩) (o:=[bT,.c (.agg [(.fn 140 [] [])]) [],.c (.p (intsP (zK51 c l100))) [],.c (.agg [(.fn 159 [] [])]) [],.c (.p (intsP (zK50 c l100))) [],bT,bT,bT,bT,bF]) (l:=[_,_,_,_,_,_,FC Tryz.prog 113 [(.agg [(.fn 159 [] [])]),(.p (.agg [(intP c.sk),(intP c.ra),(intP c.be),(intsP c.pts),(.sl (i-0) ((c.done.map intsP).take (i*1)))]))] [] 14 (.p (intsP (zK50 c l100))) [],FC Tryz.prog 114 [] [] 10 (.agg [(.fn 159 [] [])]) [],FC Tryz.prog 113 [(.agg [(.fn 140 [] [])]),(.p (.agg [(intP c.sk),(intP c.ra),(intP c.be),(intsP c.pts),(.sl (i-0) ((c.done.map intsP).take (i*1)))]))] [] 6 (.p (intsP (zK51 c l100))) [],FC Tryz.prog 112 [] [] 2 (.agg [(.fn 140 [] [])]) [],_,_]) (by kernel_rfl) (gc h7 (gc (q_ne h6) (gc (q_lt h5) (gc (q_lt h5) (gc (q_lt h5) (gc (q_lt h5) (gc (FV.fc (by rw [show ((.sl (i-0) ((c.done.map intsP).take (i*1))):PV)=rowsP l100 from sl_cast h2 h3];exact (sureA_ok (⟨c.sk,c.ra,c.be,c.pts,l100⟩:Cup) h4)) rfl) (gc (FV.fc sureQ_p0 (by kernel_rfl)) (gc (FV.fc (by rw [show ((.sl (i-0) ((c.done.map intsP).take (i*1))):PV)=rowsP l100 from sl_cast h2 h3];exact (canA_ok (⟨c.sk,c.ra,c.be,c.pts,l100⟩:Cup) h4)) rfl) (gc (FV.fc canQ_p0 (by kernel_rfl)) (gc h1 (gc (q_lt h0) gn))))))))))))
theorem dec_L0_p2{c:Cup}{i:Nat}{r f:Int}{l100:List (List Int)}{i':Nat}(h0:(i:Int)<(((c.done.length+1):Nat):Int))(h1:0≤(0:Int)∧(0:Int)≤(i:Int)∧(i:Int)≤(c.done.length:Int)∧(c.done.map intsP).length=c.done.length*1)(h2:(i-0)=l100.length)(h3:((c.done.map intsP).take (i*1))=l100.map intsP)(h4:KL.Valid (⟨c.sk,c.ra,c.be,c.pts,l100⟩:Cup))(h5:(((whoM (sureM (⟨c.sk,c.ra,c.be,c.pts,l100⟩:Cup)) (⟨c.sk,c.ra,c.be,c.pts,l100⟩:Cup).sk.toNat).length:Nat):Int)≤(0:Int))(h6:inR (((i+1):Nat):Int))(ei':i'=(i+1)):CodeOK Tryz.prog 0 zK5c1 (dec_S0 c i r f) .normal (dec_S0 c i' r f):=by
  subst ei'
  exact CodeOK.fin (g:=⟨(rng [(0,2),(7,16),(25,29)]),[0],[],[]⟩) (o:=[bT,.c (.agg [(.fn 140 [] [])]) [],.c (.p (intsP (zK51 c l100))) [],.c (.agg [(.fn 159 [] [])]) [],.c (.p (intsP (zK50 c l100))) [],bF,bF,bF,bF]) (l:=[_,_,_,_,_,FC Tryz.prog 113 [(.agg [(.fn 159 [] [])]),(.p (.agg [(intP c.sk),(intP c.ra),(intP c.be),(intsP c.pts),(.sl (i-0) ((c.done.map intsP).take (i*1)))]))] [] 14 (.p (intsP (zK50 c l100))) [],FC Tryz.prog 114 [] [] 10 (.agg [(.fn 159 [] [])]) [],FC Tryz.prog 113 [(.agg [(.fn 140 [] [])]),(.p (.agg [(intP c.sk),(intP c.ra),(intP c.be),(intsP c.pts),(.sl (i-0) ((c.done.map intsP).take (i*1)))]))] [] 6 (.p (intsP (zK51 c l100))) [],FC Tryz.prog 112 [] [] 2 (.agg [(.fn 140 [] [])]) [],_,_]) (by kernel_rfl) (gc h6 (gc (q_ltF h5) (gc (q_ltF h5) (gc (q_ltF h5) (gc (q_ltF h5) (gc (FV.fc (by rw [show ((.sl (i-0) ((c.done.map intsP).take (i*1))):PV)=rowsP l100 from sl_cast h2 h3];exact (sureA_ok (⟨c.sk,c.ra,c.be,c.pts,l100⟩:Cup) h4)) rfl) (gc (FV.fc sureQ_p0 (by kernel_rfl)) (gc (FV.fc (by rw [show ((.sl (i-0) ((c.done.map intsP).take (i*1))):PV)=rowsP l100 from sl_cast h2 h3];exact (canA_ok (⟨c.sk,c.ra,c.be,c.pts,l100⟩:Cup) h4)) rfl) (gc (FV.fc canQ_p0 (by kernel_rfl)) (gc h1 (gc (q_lt h0) gn)))))))))))
theorem dec_L0_p3{c:Cup}{i:Nat}{r f:Int}(h0:(((c.done.length+1):Nat):Int)≤(i:Int)):CodeOK Tryz.prog 0 zK5c1 (dec_S0 c i r f) (.exit 0) (dec_S0 c i r f):=by
  exact CodeOK.fin (g:=⟨(rng [(0,2),(7,16),(25,29)]),[0],[],[]⟩) (o:=[bF]) (l:=[_]) (by kernel_rfl) (gc (q_ltF h0) gn)
theorem range_at{n i x:Nat}(h:(List.range n)[i]? = some x):x=i∧i<n:=by
  obtain ⟨h1,h2⟩:=List.getElem?_eq_some_iff.1 h
  rw [List.getElem_range] at h2
  exact ⟨h2.symm,by simpa using h1⟩
abbrev earlyC(c:Cup)(n:Nat):Cup:={ c with done:=c.done.take n }
def decP(c:Cup)(n:Nat):Bool:=decide (0<(whoM (sureM (earlyC c n)) c.sk.toNat).length) && decide ((whoM (canM (earlyC c n)) c.sk.toNat).length=1)
def decM(c:Cup):Int × Int × Int:=match (List.range (c.done.length+1)).findIdx? (decP c) with
  | some n=>((n:Int),(whoM (sureM (earlyC c n)) c.sk.toNat).headD 0,0)
  | none=>(0,0,6)
theorem whoM_nonneg{p:Nat→Bool}{n:Nat}{x:Int}(h:x∈whoM p n):0≤x:=by
  unfold whoM at h
  rw [List.mem_map] at h
  obtain ⟨k,_,rfl⟩:=h
  omega
theorem dec_ok(c:Cup)(hV:KL.Valid c){base:Nat}:FV Tryz.prog 74 [.p (cupP c)] base (.tup [.p (intP (decM c).1),.p (intP (decM c).2.1),.p (intP (decM c).2.2)]) []:=by
  have hdn:=hV.dn
  have ra2:=hV.ra2
  have hl:∀ i,i≤c.done.length→(i-0)=(c.done.take i).length:=fun i hi=>by simp;omega
  have hm:∀ i,((c.done.map intsP).take (i*1))=(c.done.take i).map intsP:=fun i=>by rw [Nat.mul_one,List.map_take]
  rcases LoopOK.find (P:=Tryz.prog) (k:=0) (b:=zK5c1) (fun i=>dec_S0 c i 0 (-1)) (fun i _=>dec_S0 c i (i:Int) ((whoM (sureM (earlyC c i)) c.sk.toNat).headD 0)) (dec_S0 c (c.done.length+1) 0 (-1)) (.exit 0) (.exit 0) (by simp) (by simp) (decP c) (List.range (c.done.length+1))
    (fun i x hx hp=>by
      obtain ⟨rfl,hi⟩:=range_at hx
      by_cases h1:0<(whoM (sureM (earlyC c x)) c.sk.toNat).length
      · have h2:(whoM (canM (earlyC c x)) c.sk.toNat).length≠1:=fun h=>by simp [decP,h1,h] at hp
        exact dec_L0_p1 (l100:=c.done.take x) (by omega) ⟨by omega,by omega,by omega,by simp⟩ (hl x (by omega)) (hm x) (valid_take hV x) (by exact_mod_cast h1) (by exact_mod_cast h2) (inR_nat (by omega)) rfl
      · exact dec_L0_p2 (l100:=c.done.take x) (by omega) ⟨by omega,by omega,by omega,by simp⟩ (hl x (by omega)) (hm x) (valid_take hV x) (by show ((whoM (sureM (earlyC c x)) c.sk.toNat).length:Int)≤0;omega) (inR_nat (by omega)) rfl)
    (fun i x hx hp=>by
      obtain ⟨rfl,hi⟩:=range_at hx
      simp only [decP,Bool.and_eq_true,decide_eq_true_eq] at hp
      obtain ⟨h1,h2⟩:=hp
      refine dec_L0_p0 (l100:=c.done.take x) (x101:=(whoM (sureM (earlyC c x)) c.sk.toNat).headD 0) (by omega) ⟨by omega,by omega,by omega,by simp⟩ (hl x (by omega)) (hm x) (valid_take hV x) (by exact_mod_cast h1) (by exact_mod_cast h2) ?_ rfl
      show (whoM (sureM (earlyC c x)) c.sk.toNat)[0]? = _
      generalize whoM (sureM (earlyC c x)) c.sk.toNat=l at h1
      cases l with
      | nil=>simp at h1
      | cons a r=>rfl)
    (by rw [List.length_range];exact dec_L0_p3 (by omega)) with ⟨i,x,h1,h2,h3,h4⟩ | ⟨h1,h2,h3⟩
  · unfold decM
    rw [h2]
    refine dec_p2 hV.small ((KL.valid_iff c).2 hV) (inR_nat (by omega)) h4 ?_
    obtain ⟨rfl,hi⟩:=range_at h1
    simp only [decP,Bool.and_eq_true,decide_eq_true_eq] at h3
    have h5:=h3.1
    have:∀ l:List Int,(∀ y∈l,0≤y)→0≤l.headD 0:=fun l h=>by
      cases l with
      | nil=>simp
      | cons a r=>exact h a (by simp)
    exact this _ fun y hy=>whoM_nonneg hy
  · unfold decM
    rw [h1]
    exact dec_p1 hV.small ((KL.valid_iff c).2 hV) (inR_nat (by omega)) h3 (by omega)
theorem last_p0{c:Cup}{k:Int}(h0:KL.Small c)(h1:(namedE c k)=(0:Int))(h2:inR (c.ra-(c.done.length:Int)))(h3:(c.ra-(c.done.length:Int))≠(1:Int)){base:Nat}:FV Tryz.prog 129 [(.p (cupP c)),(.p (intP k))] base (.tup [(.p (cupP c)),(.p (intP 9))]) []:=by
  exact FV.fin Tryz.func129 rfl (o:=[.c (.tup [(.p (cupP c)),(.p (intP (namedE c k)))]) [],bT,bT,bT,bT,bT,bT,bT,bT,bT,bT,bT]) (l:=[_,_,_,_,_,_,_,_,_,_,_,_,_]) (by kernel_rfl) (gc (q_neT h3) (gc (q_eq h1) (gc (q_eq h1) (gc h2 (gc (q_eq h1) (gc (q_eq h1) (gc (q_eq h1) (gc (q_eq h1) (gc (q_eq h1) (gc (q_eq h1) (gc (q_eq h1) (gc (q_eq h1) (gc (fk 2 (named_ok c h0 k) rfl) gn)))))))))))))
theorem last_p1{c:Cup}{k r0:Int}(h0:KL.Small c)(h1:(namedE c k)=(0:Int))(h2:inR (c.ra-(c.done.length:Int)))(h3:(c.ra-(c.done.length:Int))=(1:Int))(er0:r0=(namedE c k)){base:Nat}:FV Tryz.prog 129 [(.p (cupP c)),(.p (intP k))] base (.tup [(.p (cupP c)),(.p (intP r0))]) []:=by
  subst er0
  exact FV.fin Tryz.func129 rfl (o:=[.c (.tup [(.p (cupP c)),(.p (intP (namedE c k)))]) [],bT,bT,bT,bT,bT,bT,bT,bT,bT,bT,bF]) (l:=[_,_,_,_,_,_,_,_,_,_,_,_,_]) (by kernel_rfl) (gc (q_neF h3) (gc (q_eq h1) (gc (q_eq h1) (gc h2 (gc (q_eq h1) (gc (q_eq h1) (gc (q_eq h1) (gc (q_eq h1) (gc (q_eq h1) (gc (q_eq h1) (gc (q_eq h1) (gc (q_eq h1) (gc (fk 2 (named_ok c h0 k) rfl) gn)))))))))))))
theorem last_p2{c:Cup}{k r0:Int}(h0:KL.Small c)(h1:(namedE c k)≠(0:Int))(er0:r0=(namedE c k)){base:Nat}:FV Tryz.prog 129 [(.p (cupP c)),(.p (intP k))] base (.tup [(.p (cupP c)),(.p (intP r0))]) []:=by
  subst er0
  exact FV.fin Tryz.func129 rfl (o:=[.c (.tup [(.p (cupP c)),(.p (intP (namedE c k)))]) [],bF,bF,bF,bF,bF,bF,bF,bF,bF,bF]) (l:=[_,_,_,_,_,_,_,_,_,_,_]) (by kernel_rfl) (gc (q_ne h1) (gc (q_ne h1) (gc (q_ne h1) (gc (q_ne h1) (gc (q_ne h1) (gc (q_ne h1) (gc (q_ne h1) (gc (q_ne h1) (gc (q_ne h1) (gc (q_ne h1) (gc (fk 2 (named_ok c h0 k) rfl) gn)))))))))))
def lastE(c:Cup)(k:Int):Int:=if namedE c k≠0 then namedE c k else if c.ra-(c.done.length:Int)≠1 then 9 else 0
theorem namedE_zero{c:Cup}{k:Int}(h:namedE c k=0):KL.Valid c∧0≤k∧k<c.sk:=by
  unfold namedE at h
  by_cases h1:checkP c=0
  · rw [if_neg (by simpa using h1)] at h
    cases h2:within k 0 (c.sk-1) with
    | true=>obtain ⟨h3,h4⟩:=within_iff.1 h2;exact ⟨(KL.valid_iff c).1 h1,h3,by omega⟩
    | false=>rw [h2] at h;simp at h
  · rw [if_pos h1] at h;exact absurd h h1
theorem last_ok(c:Cup)(hS:KL.Small c)(k:Int){base:Nat}:FV Tryz.prog 129 [.p (cupP c),.p (intP k)] base (.tup [.p (cupP c),.p (intP (lastE c k))]) []:=by
  unfold lastE
  by_cases h:namedE c k=0
  · have hV:=(namedE_zero h).1
    have h1:=hV.ra1
    have h2:=hV.ra2
    have h3:=hV.dn
    rw [if_neg (by simpa using h)]
    by_cases h4:c.ra-(c.done.length:Int)=1
    · rw [if_neg (by simpa using h4)];exact last_p1 hS h (by unfold inR;omega) h4 h.symm
    · rw [if_pos h4];exact last_p0 hS h (by unfold inR;omega) h4
  · rw [if_pos h];exact last_p2 hS h rfl
theorem lastE_zero{c:Cup}{k:Int}(h:lastE c k=0):KL.Valid c∧0≤k∧k<c.sk∧c.ra=(c.done.length:Int)+1:=by
  unfold lastE at h
  by_cases h1:namedE c k=0
  · obtain ⟨h2,h3,h4⟩:=namedE_zero h1
    rw [if_neg (by simpa using h1)] at h
    by_cases h5:c.ra-(c.done.length:Int)=1
    · exact ⟨h2,h3,h4,by omega⟩
    · rw [if_pos h5] at h;cases h
  · rw [if_pos h1] at h;exact absurd h h1
theorem beats_p0{c:Cup}{o:Nat}{p:Int}{s:Nat}{w:Int}{l0:List (List Int)}{r0:Bool}(h0:0≤c.sk∧c.sk≤c.sk∧c.sk≤1000000)(h1:0≤(o:Int)∧(o:Int)<((c.sk.toNat:Nat):Int))(h2:(o*1)<(List.replicate c.sk.toNat (intP 0)).length)(h3:0≤(s:Int)∧(s:Int)<((c.sk.toNat:Nat):Int))(h4:(s*1)<((List.replicate c.sk.toNat (intP 0)).set (o*1) (intP p)).length)(h5:1=l0.length)(h6:[(.sl c.sk.toNat (((List.replicate c.sk.toNat (intP 0)).set (o*1) (intP p)).set (s*1) (intP w)))]=l0.map intsP)(h7:c.pts.length≤1000)(h8:c.done.length+l0.length≤1000)(h9:∀ r∈c.done++l0,r.length≤1000)(h10:KL.Valid (withC c l0))(h11:((o:Nat):Int)<(withC c l0).sk)(h12:((s:Nat):Int)<(withC c l0).sk)(er0:r0=(KL.betterF (totalM (withC c l0) o) (totalM (withC c l0) s) (placesM (withC c l0) o) (placesM (withC c l0) s))){base:Nat}:FV Tryz.prog 132 [(.p (cupP c)),(.p (intP (o:Int))),(.p (intP p)),(.p (intP (s:Int))),(.p (intP w))] base (.p (blP r0)) []:=by
  subst er0
  exact FV.fin Tryz.func132 rfl (o:=[.c (.p (.agg [(intP ((withC c l0).sk)),(intP ((withC c l0).ra)),(intP ((withC c l0).be)),(intsP ((withC c l0).pts)),(rowsP ((withC c l0).done))])) [(2,.dead)],.c (.p (.agg ((intP (totalM (withC c l0) o))::((placesM (withC c l0) o).map intP)))) [],.c (.p (.agg ((intP (totalM (withC c l0) s))::((placesM (withC c l0) s).map intP)))) [],.c (.p (blP (KL.betterF (totalM (withC c l0) o) (totalM (withC c l0) s) (placesM (withC c l0) o) (placesM (withC c l0) s)))) []]) (l:=[_,_,_,FC Tryz.prog 118 [(.p (cupP c)),(.own 2)] [(2,(.row 22 1 [(.sl c.sk.toNat (((List.replicate c.sk.toNat (intP 0)).set (o*1) (intP p)).set (s*1) (intP w)))]))] 3 (.p (.agg [(intP ((withC c l0).sk)),(intP ((withC c l0).ra)),(intP ((withC c l0).be)),(intsP ((withC c l0).pts)),(rowsP ((withC c l0).done))])) [(2,.dead)],_,_,_,_,_]) (by kernel_rfl) (gc (fk 12 (better_ok (withC c l0) (withC c l0) o s) rfl) (gc (fk 8 (form_ok (withC c l0) h10 s h12) rfl) (gc (fk 4 (form_ok (withC c l0) h10 o h11) rfl) (gc (FV.close (ids:=[2]) (args':=[(.p (cupP c)),(.p (.sl 1 [(.sl c.sk.toNat (((List.replicate c.sk.toNat (intP 0)).set (o*1) (intP p)).set (s*1) (intP w)))]))]) (by rw [show ((.sl 1 [(.sl c.sk.toNat (((List.replicate c.sk.toNat (intP 0)).set (o*1) (intP p)).set (s*1) (intP w)))]):PV)=rowsP l0 from sl_cast h5 h6];exact (with_ok c l0 h7 h8 h9)) (by kernel_rfl)) (gc h4 (gc h3 (gc h2 (gc h1 (gc h0 gn)))))))))
def beatsM(c:Cup)(o:Nat)(p:Int)(s:Nat)(w:Int):Bool:=betS (withC c [KL.race2 c.sk.toNat o p s w]) o s
structure beatsOK (c:Cup) (o:Nat) (p:Int) (s:Nat) (w:Int):Prop where
  hv:KL.Valid c
  hd:(c.done.length:Int)<c.ra
  ho:(o:Int)<c.sk
  hs:(s:Int)<c.sk
  hp:0≤p∧p≤60
  hw:0≤w∧w≤60
  hn:p=0∨w=0∨p≠w
theorem beats_ok(c:Cup)(o:Nat)(p:Int)(s:Nat)(w:Int)(h:beatsOK c o p s w){base:Nat}:FV Tryz.prog 132 [.p (cupP c),.p (intP (o:Int)),.p (intP p),.p (intP (s:Int)),.p (intP w)] base (.p (blP (beatsM c o p s w))) []:=by
  have hV:=h.hv
  have h1:=hV.sk1
  have h2:=hV.sk2
  have h3:=hV.ra2
  have ho:=h.ho
  have hs:=h.hs
  have hd:=h.hd
  have hr2:=KL.valid_race2 hV h.hd (o:=o) (s:=s) h.hp h.hw h.hn
  have hS:=hr2.small
  refine beats_p0 (l0:=[KL.race2 c.sk.toNat o p s w]) (by omega) (by omega) (by simp;omega) (by omega) (by simp;omega) rfl ?_ hV.small.pts (by simp;omega) hS.rows hr2 (by show (o:Int)<c.sk;omega) (by show (s:Int)<c.sk;omega) rfl
  show [_]=[PV.sl (KL.race2 c.sk.toNat o p s w).length ((KL.race2 c.sk.toNat o p s w).map intP)]
  rw [KL.race2_length]
  simp [KL.race2,List.map_set]
def riv_S0(c:Cup)(s:Nat)(i:Nat)(on:Nat)(oc:List PV):St:=⟨fr 45 [(1,(.p (intP (s:Int)))),(2,(.ptr 0 0)),(4,(.p nilS)),(5,(.own 1)),(10,(.p (intP c.sk))),(11,(.p (intP (i:Int))))],[some (.box 129 [(.p (intP c.sk)),(.p (intP c.ra)),(.p (intP c.be)),(.p (intsP c.pts)),(.p (rowsP c.done))]),some (.row 164 on oc)]⟩
theorem riv_p0{c:Cup}{s i'0:Nat}{o'1:List (List Int)}(hl0:LoopOK Tryz.prog 0 zK5c0 (riv_S0 c s 0 0 []) (.exit 0) (riv_S0 c s i'0 o'1.length (o'1.flatten.map intP)))(h1:uni 2 o'1)(h2:o'1.length<20){base:Nat}:FV Tryz.prog 130 [(.p (cupP c)),(.p (intP (s:Int)))] base (.p (.sl ((isort (ltK 1) o'1).length) ((isort (ltK 1) o'1).flatten.map intP))) []:=by
  exact FV.frz (FMM.fin (k:=0) (g:=⟨[],[],[1],[]⟩) rfl Tryz.func130 rfl (o:=[.k 8 ⟨(rng [(0,1),(3,1),(6,4),(12,30),(43,1)]),[0,1],[],[(5,164)]⟩ (.exit 0) (riv_S0 c s i'0 o'1.length (o'1.flatten.map intP)),.c (.tup []) [(1,(.row 164 ((isort (ltK 1) o'1).length) ((isort (ltK 1) o'1).flatten.map intP)))]]) (l:=[FC Tryz.prog 166 [(.own 1),(.fn 167 [] [])] [(1,(.row 164 o'1.length (o'1.flatten.map intP)))] 2 (.tup []) [(1,(.row 164 ((isort (ltK 1) o'1).length) ((isort (ltK 1) o'1).flatten.map intP)))],_]) (by kernel_rfl) (gc (FMM.fc (ids:=[1]) (srtR_ok o'1 h1 h2) (by kernel_rfl)) (gc hl0.code gn))) (by kernel_rfl)
def riv_S1(c:Cup)(s:Nat)(i:Nat)(o:List (List Int))(p:Int):St:=⟨fr 45 [(1,(.p (intP (s:Int)))),(2,(.ptr 0 0)),(4,(.p nilS)),(5,(.own 1)),(6,(.p (intP (i:Int)))),(7,(.p (intP p))),(10,(.p (intP c.sk))),(11,(.p (intP (i:Int)))),(12,(.p (blP (decide ((i:Int)<c.sk))))),(13,(.p (intP (i:Int)))),(14,(.p (intP (i:Int)))),(15,(.p (intP (s:Int)))),(16,(.p (blP ((i:Int) == (s:Int)))))],[some (.box 129 [(.p (intP c.sk)),(.p (intP c.ra)),(.p (intP c.be)),(.p (intsP c.pts)),(.p (rowsP c.done))]),some (.row 164 o.length (o.flatten.map intP))]⟩
theorem riv_L0_p0{c:Cup}{s i:Nat}{o:List (List Int)}{i':Nat}(h0:(i:Int)<c.sk)(h1:(i:Int)=(s:Int))(h2:inR (((i+1):Nat):Int))(ei':i'=(i+1)):CodeOK Tryz.prog 0 zK5c0 (riv_S0 c s i o.length (o.flatten.map intP)) .normal (riv_S0 c s i' o.length (o.flatten.map intP)):=by
  subst ei'
  exact CodeOK.fin (g:=⟨(rng [(0,1),(3,1),(6,4),(12,30),(43,1)]),[0,1],[],[]⟩) (o:=[bT,bT]) (l:=[_,_,_]) (by kernel_rfl) (gc h2 (gc (q_eq h1) (gc (q_lt h0) gn)))
theorem riv_L0_p1{c:Cup}{s i:Nat}{o:List (List Int)}{p'100:Int}{i':Nat}{o':List (List Int)}(h0:(i:Int)<c.sk)(h1:(i:Int)≠(s:Int))(hl2:LoopOK Tryz.prog 0 zK5c2 (riv_S1 c s i o (0:Int)) (.exit 2) (riv_S1 c s i o p'100))(h3:beatsOK c i (0:Int) s (0:Int))(h4:(beatsM c i (0:Int) s (0:Int))=true)(h5:[(intP (i:Int)),(intP 61)].length=1*2∧o.length+1≤1000000)(h6:inR (((i+1):Nat):Int))(ei':i'=(i+1))(eo'n:o'.length=(o.length+1))(eo'c:o'.flatten.map intP=((o.flatten.map intP)++[(intP (i:Int)),(intP 61)])):CodeOK Tryz.prog 0 zK5c0 (riv_S0 c s i o.length (o.flatten.map intP)) .normal (riv_S0 c s i' o'.length (o'.flatten.map intP)):=by
  subst ei'
  have raw:CodeOK Tryz.prog 0 zK5c0 (riv_S0 c s i o.length (o.flatten.map intP)) .normal (riv_S0 c s (i+1) (o.length+1) ((o.flatten.map intP)++[(intP (i:Int)),(intP 61)])):=CodeOK.fin (g:=⟨(rng [(0,1),(3,1),(6,4),(12,30),(43,1)]),[0,3],[],[]⟩) (o:=[bT,bF,.k 4 ⟨(rng [(0,1),(3,1),(8,2),(17,12),(43,1)]),[0,1],[],[]⟩ (.exit 2) (riv_S1 c s i o p'100),.c (.p (blP (beatsM c i (0:Int) s (0:Int)))) [],bT,bT]) (l:=[_,_,[(intP (i:Int)),(intP 61)].length=2,(decide ((61:Int) > (0:Int)))=true,_,_,_,_,_]) (by kernel_rfl) (gc h6 (gc h5 (gc (by first | decide | simp) (gc (by first | decide | simp) (gc h4 (gc (fk 2 (beats_ok c i (0:Int) s (0:Int) h3) rfl) (gc hl2.code (gc (q_ne h1) (gc (q_lt h0) gn)))))))))
  exact raw.cast (by rw [eo'n,eo'c])
theorem riv_L0_p2{c:Cup}{s i:Nat}{o:List (List Int)}{p'100:Int}{i':Nat}{o':List (List Int)}(h0:(i:Int)<c.sk)(h1:(i:Int)≠(s:Int))(hl2:LoopOK Tryz.prog 0 zK5c2 (riv_S1 c s i o (0:Int)) (.exit 2) (riv_S1 c s i o p'100))(h3:beatsOK c i (0:Int) s (0:Int))(h4:(beatsM c i (0:Int) s (0:Int))=false)(h5:(0:Int)<p'100)(h6:[(intP (i:Int)),(intP p'100)].length=1*2∧o.length+1≤1000000)(h7:inR (((i+1):Nat):Int))(ei':i'=(i+1))(eo'n:o'.length=(o.length+1))(eo'c:o'.flatten.map intP=((o.flatten.map intP)++[(intP (i:Int)),(intP p'100)])):CodeOK Tryz.prog 0 zK5c0 (riv_S0 c s i o.length (o.flatten.map intP)) .normal (riv_S0 c s i' o'.length (o'.flatten.map intP)):=by
  subst ei'
  have raw:CodeOK Tryz.prog 0 zK5c0 (riv_S0 c s i o.length (o.flatten.map intP)) .normal (riv_S0 c s (i+1) (o.length+1) ((o.flatten.map intP)++[(intP (i:Int)),(intP p'100)])):=CodeOK.fin (g:=⟨(rng [(0,1),(3,1),(6,4),(12,30),(43,1)]),[0,3],[],[]⟩) (o:=[bT,bF,.k 4 ⟨(rng [(0,1),(3,1),(8,2),(17,12),(43,1)]),[0,1],[],[]⟩ (.exit 2) (riv_S1 c s i o p'100),.c (.p (blP (beatsM c i (0:Int) s (0:Int)))) [],bF,bT]) (l:=[_,_,[(intP (i:Int)),(intP p'100)].length=2,_,_,_,_,_,_]) (by kernel_rfl) (gc h7 (gc h6 (gc (by first | decide | simp) (gc (q_lt h5) (gc h4 (gc (fk 2 (beats_ok c i (0:Int) s (0:Int) h3) rfl) (gc hl2.code (gc (q_ne h1) (gc (q_lt h0) gn)))))))))
  exact raw.cast (by rw [eo'n,eo'c])
theorem riv_L0_p3{c:Cup}{s i:Nat}{o:List (List Int)}{p'100:Int}{i':Nat}(h0:(i:Int)<c.sk)(h1:(i:Int)≠(s:Int))(hl2:LoopOK Tryz.prog 0 zK5c2 (riv_S1 c s i o (0:Int)) (.exit 2) (riv_S1 c s i o p'100))(h3:beatsOK c i (0:Int) s (0:Int))(h4:(beatsM c i (0:Int) s (0:Int))=false)(h5:p'100≤(0:Int))(h6:inR (((i+1):Nat):Int))(ei':i'=(i+1)):CodeOK Tryz.prog 0 zK5c0 (riv_S0 c s i o.length (o.flatten.map intP)) .normal (riv_S0 c s i' o.length (o.flatten.map intP)):=by
  subst ei'
  exact CodeOK.fin (g:=⟨(rng [(0,1),(3,1),(6,4),(12,30),(43,1)]),[0,1],[],[]⟩) (o:=[bT,bF,.k 4 ⟨(rng [(0,1),(3,1),(8,2),(17,12),(43,1)]),[0,1],[],[]⟩ (.exit 2) (riv_S1 c s i o p'100),.c (.p (blP (beatsM c i (0:Int) s (0:Int)))) [],bF,bF]) (l:=[_,_,_,_,_,_,_]) (by kernel_rfl) (gc h6 (gc (q_ltF h5) (gc h4 (gc (fk 2 (beats_ok c i (0:Int) s (0:Int) h3) rfl) (gc hl2.code (gc (q_ne h1) (gc (q_lt h0) gn)))))))
theorem riv_L0_p4{c:Cup}{s i:Nat}{o:List (List Int)}(h0:c.sk≤(i:Int)):CodeOK Tryz.prog 0 zK5c0 (riv_S0 c s i o.length (o.flatten.map intP)) (.exit 0) (riv_S0 c s i o.length (o.flatten.map intP)):=by
  exact CodeOK.fin (g:=⟨(rng [(0,1),(3,1),(6,4),(12,30),(43,1)]),[0,1],[],[]⟩) (o:=[bF]) (l:=[_]) (by kernel_rfl) (gc (q_ltF h0) gn)
theorem riv_L1_p0{c:Cup}{s i:Nat}{o:List (List Int)}{p p':Int}(h0:p<(60:Int))(h1:inR (p+(1:Int)))(h2:beatsOK c i (p+(1:Int)) s (0:Int))(h3:(beatsM c i (p+(1:Int)) s (0:Int))=true)(ep':p'=(p+(1:Int))):CodeOK Tryz.prog 0 zK5c2 (riv_S1 c s i o p) .normal (riv_S1 c s i o p'):=by
  subst ep'
  exact CodeOK.fin (g:=⟨(rng [(0,1),(3,1),(8,2),(17,12),(43,1)]),[0,1],[],[]⟩) (o:=[bT,bT,bT,bT,bT,bT,.c (.p (blP (beatsM c i (p+(1:Int)) s (0:Int)))) [],bT,bT]) (l:=[_,_,_,_,_,_,_,_,_,_,_]) (by kernel_rfl) (gc h1 (gc h3 (gc (q_lt h0) (gc (fk 2 (beats_ok c i (p+(1:Int)) s (0:Int) h2) rfl) (gc (q_lt h0) (gc (q_lt h0) (gc h1 (gc (q_lt h0) (gc (q_lt h0) (gc (q_lt h0) (gc (q_lt h0) gn)))))))))))
theorem riv_L1_p1{c:Cup}{s i:Nat}{o:List (List Int)}{p:Int}(h0:p<(60:Int))(h1:inR (p+(1:Int)))(h2:beatsOK c i (p+(1:Int)) s (0:Int))(h3:(beatsM c i (p+(1:Int)) s (0:Int))=false):CodeOK Tryz.prog 0 zK5c2 (riv_S1 c s i o p) (.exit 2) (riv_S1 c s i o p):=by
  exact CodeOK.fin (g:=⟨(rng [(0,1),(3,1),(8,2),(17,12),(43,1)]),[0,1],[],[]⟩) (o:=[bT,bT,bT,bT,bT,bT,.c (.p (blP (beatsM c i (p+(1:Int)) s (0:Int)))) [],bT,bF]) (l:=[_,_,_,_,_,_,_,_,_,_]) (by kernel_rfl) (gc h3 (gc (q_lt h0) (gc (fk 2 (beats_ok c i (p+(1:Int)) s (0:Int) h2) rfl) (gc (q_lt h0) (gc (q_lt h0) (gc h1 (gc (q_lt h0) (gc (q_lt h0) (gc (q_lt h0) (gc (q_lt h0) gn))))))))))
theorem riv_L1_p2{c:Cup}{s i:Nat}{o:List (List Int)}{p:Int}(h0:(60:Int)≤p):CodeOK Tryz.prog 0 zK5c2 (riv_S1 c s i o p) (.exit 2) (riv_S1 c s i o p):=by
  exact CodeOK.fin (g:=⟨(rng [(0,1),(3,1),(8,2),(17,12),(43,1)]),[0,1],[],[]⟩) (o:=[bF,bF,bF,bF,bF,bF,bF]) (l:=[_,_,_,_,_,_,_]) (by kernel_rfl) (gc (q_ltF h0) (gc (q_ltF h0) (gc (q_ltF h0) (gc (q_ltF h0) (gc (q_ltF h0) (gc (q_ltF h0) (gc (q_ltF h0) gn)))))))
def upto(f:Int→Bool):Nat→Int→Int
  | 0,p=>p
  | n+1,p=>if f (p+1) then upto f n (p+1) else p
theorem upto_bd(f:Int→Bool):∀ n p,p≤upto f n p∧upto f n p≤p+n
  | 0,p=>by simp [upto]
  | n+1,p=>by
    unfold upto
    split
    · have:=upto_bd f n (p+1);omega
    · omega
def rivPl(c:Cup)(s i:Nat):Int:=if beatsM c i 0 s 0 then 61 else upto (fun p=>beatsM c i p s 0) 60 0
def rivG(c:Cup)(s i:Nat):List (List Int):=if i=s then [] else if 0<rivPl c s i then [[(i:Int),rivPl c s i]] else []
def rivL(c:Cup)(s:Nat):List (List Int):=(List.range c.sk.toNat).flatMap (rivG c s)
def rivM(c:Cup)(s:Nat):List (List Int):=isort (ltK 1) (rivL c s)
structure rivOK (c:Cup) (s:Nat):Prop where
  hv:KL.Valid c
  hd:(c.done.length:Int)<c.ra
  hs:(s:Int)<c.sk
theorem rivPl_bd(c:Cup)(s i:Nat):0≤rivPl c s i∧rivPl c s i≤61:=by
  unfold rivPl
  split
  · omega
  · have:=upto_bd (fun p=>beatsM c i p s 0) 60 0;omega
theorem rivL_mem{c:Cup}{s:Nat}{x:List Int}(h:x∈rivL c s):∃ i:Nat,(i:Int)<c.sk∧i≠s∧x=[(i:Int),rivPl c s i]∧0<rivPl c s i:=by
  unfold rivL at h
  rw [List.mem_flatMap] at h
  obtain ⟨i,hi,hx⟩:=h
  rw [List.mem_range] at hi
  unfold rivG at hx
  split at hx
  · simp at hx
  · split at hx
    · rename_i h1 h2
      rw [List.mem_singleton] at hx
      exact ⟨i,by omega,h1,hx,h2⟩
    · simp at hx
theorem flatMap_len{α:Type}{g:Nat→List α}(h:∀ i,(g i).length≤1):∀ l:List Nat,(l.flatMap g).length≤l.length
  | []=>by simp
  | x::l=>by rw [List.flatMap_cons,List.length_append,List.length_cons];have:=flatMap_len h l;have:=h x;omega
theorem foldl_flatMap{α:Type}{g:Nat→List α}:∀ (l:List Nat) (a:List α),l.foldl (fun acc s=>acc++g s) a=a++l.flatMap g
  | [],a=>by simp
  | x::l,a=>by rw [List.foldl_cons,foldl_flatMap l,List.flatMap_cons,List.append_assoc]
theorem rivG_len(c:Cup)(s i:Nat):(rivG c s i).length≤1:=by
  unfold rivG
  split
  · simp
  · split <;> simp
theorem riv_in(c:Cup)(s i:Nat)(o:List (List Int))(hk:∀ p:Int,0≤p→p≤60→beatsOK c i p s 0):∀ (n:Nat) (p:Int),0≤p→p+n=60 →
    LoopOK Tryz.prog 0 zK5c2 (riv_S1 c s i o p) (.exit 2) (riv_S1 c s i o (upto (fun p=>beatsM c i p s 0) n p))
  | 0,p,h0,h1=>by
    unfold upto
    exact .exit (riv_L1_p2 (by omega)) (by simp)
  | n+1,p,h0,h1=>by
    unfold upto
    by_cases hb:beatsM c i (p+1) s 0=true
    · rw [if_pos hb]
      exact .step (riv_L1_p0 (by omega) (by unfold inR;omega) (hk _ (by omega) (by omega)) hb rfl) (riv_in c s i o hk n (p+1) (by omega) (by omega))
    · rw [if_neg hb]
      exact .exit (riv_L1_p1 (by omega) (by unfold inR;omega) (hk _ (by omega) (by omega)) (by simpa using hb)) (by simp)
theorem riv_ok(c:Cup)(s:Nat)(h:rivOK c s){base:Nat}:FV Tryz.prog 130 [.p (cupP c),.p (intP (s:Int))] base (.p (.sl (rivM c s).length ((rivM c s).flatten.map intP))) []:=by
  have hV:=h.hv
  have h1:=hV.sk1
  have h2:=hV.sk2
  have hL:=LoopOK.times (P:=Tryz.prog) (k:=0) (b:=zK5c0) (e := .exit 0) (fun i (o:List (List Int))=>riv_S0 c s i o.length (o.flatten.map intP)) (fun o=>riv_S0 c s c.sk.toNat o.length (o.flatten.map intP)) (fun acc i=>acc++rivG c s i) (fun i o=>o.length≤i) (by simp) c.sk.toNat (a0:=[]) (by simp)
    (fun i o hi hI=>by
      have hgl:=rivG_len c s i
      refine ⟨by rw [List.length_append];omega,?_⟩
      have hk:∀ p:Int,0≤p→p≤60→beatsOK c i p s 0:=fun p q1 q2=>⟨hV,h.hd,by omega,h.hs,⟨q1,q2⟩,by omega,.inr (.inl rfl)⟩
      unfold rivG
      by_cases his:i=s
      · rw [if_pos his,List.append_nil]
        exact riv_L0_p0 (by omega) (by omega) (inR_nat (by omega)) rfl
      · rw [if_neg his]
        have hin:=riv_in c s i o hk 60 0 (by omega) (by omega)
        have hbd:=upto_bd (fun p=>beatsM c i p s 0) 60 0
        by_cases hb:beatsM c i 0 s 0=true
        · have e:rivPl c s i=61:=by unfold rivPl;rw [if_pos hb]
          rw [e,if_pos (by omega)]
          exact riv_L0_p1 (by omega) (by omega) hin (hk 0 (by omega) (by omega)) hb (by simp;omega) (inR_nat (by omega)) rfl (by simp) (by simp)
        · have hb:beatsM c i 0 s 0=false:=by simpa using hb
          have e:rivPl c s i=upto (fun p=>beatsM c i p s 0) 60 0:=by unfold rivPl;rw [hb];rfl
          rw [e]
          by_cases hp:0<upto (fun p=>beatsM c i p s 0) 60 0
          · rw [if_pos hp]
            exact riv_L0_p2 (by omega) (by omega) hin (hk 0 (by omega) (by omega)) hb hp (by simp;omega) (inR_nat (by omega)) rfl (by simp) (by simp)
          · rw [if_neg hp,List.append_nil]
            exact riv_L0_p3 (by omega) (by omega) hin (hk 0 (by omega) (by omega)) hb (by omega) (inR_nat (by omega)) rfl)
    (fun o _=>riv_L0_p4 (by omega))
  rw [foldl_flatMap,List.nil_append] at hL
  have hlen:=flatMap_len (rivG_len c s) (List.range c.sk.toNat)
  rw [List.length_range] at hlen
  exact riv_p0 hL (fun x hx=>by obtain ⟨i,_,_,rfl,_⟩:=rivL_mem hx;rfl) (by show (rivL c s).length<20;unfold rivL;omega)
def worst_S0(c:Cup)(s:Nat)(i:Nat)(rk:Int)(nx:Int)(rcn:Nat)(rcc:List PV):St:=⟨fr 58 [(4,(.p (intP 0))),(5,(.p nilS)),(6,(.p (intP 0))),(9,(.own 0)),(10,(.p (intP rk))),(11,(.p (intP nx))),(29,(.p (.sl ((rivM c s).length) ((rivM c s).flatten.map intP)))),(30,(.p (intP (((rivM c s).length:Nat):Int)))),(31,(.p (intP (i:Int))))],[some (.row 3 rcn rcc)]⟩
theorem worst_p1{c:Cup}{s i'0:Nat}{rk'1 nx'2:Int}{rc'3:List Int}(h0:KL.Small c)(h1:(lastE c (s:Int))=(0:Int))(h2:0≤c.sk∧c.sk≤c.sk∧c.sk≤1000000)(h3:rivOK c s)(hl4:LoopOK Tryz.prog 0 zK5c3 (worst_S0 c s 0 (1:Int) (1:Int) c.sk.toNat (List.replicate c.sk.toNat (intP 0))) (.exit 0) (worst_S0 c s i'0 rk'1 nx'2 rc'3.length (rc'3.map intP))){base:Nat}:FV Tryz.prog 56 [(.p (cupP c)),(.p (intP (s:Int)))] base (.tup [(.p (intP rk'1)),(.p (intsP rc'3)),(.p (intP 0))]) []:=by
  exact FV.frz (FMM.fin (k:=0) (g:=⟨[],[],[0],[]⟩) rfl Tryz.func56 rfl (o:=[.c (.tup [(.p (cupP c)),(.p (intP (lastE c (s:Int))))]) [],bF,.c (.p (.sl ((rivM c s).length) ((rivM c s).flatten.map intP))) [],.k 1 ⟨(rng [(0,4),(7,2),(12,17),(32,24)]),[2],[],[]⟩ (.exit 0) (worst_S0 c s i'0 rk'1 nx'2 rc'3.length (rc'3.map intP))]) (l:=[_,_,_,_,_]) (by kernel_rfl) (gc hl4.code (gc (fk 3 (riv_ok c s h3) rfl) (gc h2 (gc (q_neF h1) (gc (fk 1 (last_ok c h0 (s:Int)) rfl) gn)))))) (by kernel_rfl)
theorem worst_L0_p0{c:Cup}{s i:Nat}{rk nx:Int}{rc:List Int}{y100 y101:Int}{i':Nat}{rk':Int}(h0:(i:Int)<(((rivM c s).length:Nat):Int))(h1:(rivM c s)[i]? = some [y100,y101])(h2:uni 2 (rivM c s))(h3:(60:Int)<y101)(h4:inR (rk+(1:Int)))(h5:inR (((i+1):Nat):Int))(ei':i'=(i+1))(erk':rk'=(rk+(1:Int))):CodeOK Tryz.prog 0 zK5c3 (worst_S0 c s i rk nx rc.length (rc.map intP)) .normal (worst_S0 c s i' rk' nx rc.length (rc.map intP)):=by
  subst ei' erk'
  exact CodeOK.fin (g:=⟨(rng [(0,4),(7,2),(12,17),(32,24)]),[0],[],[]⟩) (o:=[bT,.x (.agg [(intP y100),(intP y101)]),bT]) (l:=[_,_,_,_,_,0≤(i:Int)∧(i:Int)<(((rivM c s).length:Nat):Int)∧(i*2)<((rivM c s).flatten.map intP).length,_]) (by kernel_rfl) (gc h5 (gc h4 (gc (q_lt h3) (gc (fl_load (i:=i) h2 h1) (gc (fl_le (i:=i) h2 h1) (gc (ix_fl (k:=2) (i:=(i:Int)) (by decide) h2 (Int.natCast_nonneg _) h1) (gc (q_lt h0) gn)))))))
theorem worst_L0_p1{c:Cup}{s i:Nat}{rk nx:Int}{rc:List Int}{y100 y101 x102:Int}{i':Nat}{rk' nx':Int}{rc':List Int}(h0:(i:Int)<(((rivM c s).length:Nat):Int))(h1:(rivM c s)[i]? = some [y100,y101])(h2:uni 2 (rivM c s))(h3:y101≤(60:Int))(h4:nx≤y101)(h5:rc[y100.toNat]? = some x102)(h6:0≤y100)(h7:(y100.toNat*1)<(rc.map intP).length)(h8:inR (nx+(1:Int)))(h9:inR (rk+(1:Int)))(h10:inR (((i+1):Nat):Int))(ei':i'=(i+1))(erk':rk'=(rk+(1:Int)))(enx':nx'=(nx+(1:Int)))(erc'n:rc'.length=rc.length)(erc'c:rc'.map intP=((rc.map intP).set (y100.toNat*1) (intP nx))):CodeOK Tryz.prog 0 zK5c3 (worst_S0 c s i rk nx rc.length (rc.map intP)) .normal (worst_S0 c s i' rk' nx' rc'.length (rc'.map intP)):=by
  subst ei' erk' enx'
  have raw:CodeOK Tryz.prog 0 zK5c3 (worst_S0 c s i rk nx rc.length (rc.map intP)) .normal (worst_S0 c s (i+1) (rk+(1:Int)) (nx+(1:Int)) rc.length ((rc.map intP).set (y100.toNat*1) (intP nx))):=CodeOK.fin (g:=⟨(rng [(0,4),(7,2),(12,17),(32,24)]),[0],[],[]⟩) (o:=[bT,.x (.agg [(intP y100),(intP y101)]),bF,bT]) (l:=[_,_,_,_,_,_,_,_,_,0≤(i:Int)∧(i:Int)<(((rivM c s).length:Nat):Int)∧(i*2)<((rivM c s).flatten.map intP).length,_]) (by kernel_rfl) (gc h10 (gc h9 (gc h8 (gc h7 (gc (ix_own (i:=y100) h6 h5) (gc (q_le h4) (gc (q_ltF h3) (gc (fl_load (i:=i) h2 h1) (gc (fl_le (i:=i) h2 h1) (gc (ix_fl (k:=2) (i:=(i:Int)) (by decide) h2 (Int.natCast_nonneg _) h1) (gc (q_lt h0) gn)))))))))))
  exact raw.cast (by rw [erc'n,erc'c])
theorem worst_L0_p2{c:Cup}{s i:Nat}{rk nx:Int}{rc:List Int}{y100 y101:Int}{i':Nat}(h0:(i:Int)<(((rivM c s).length:Nat):Int))(h1:(rivM c s)[i]? = some [y100,y101])(h2:uni 2 (rivM c s))(h3:y101≤(60:Int))(h4:y101<nx)(h5:inR (((i+1):Nat):Int))(ei':i'=(i+1)):CodeOK Tryz.prog 0 zK5c3 (worst_S0 c s i rk nx rc.length (rc.map intP)) .normal (worst_S0 c s i' rk nx rc.length (rc.map intP)):=by
  subst ei'
  exact CodeOK.fin (g:=⟨(rng [(0,4),(7,2),(12,17),(32,24)]),[0],[],[]⟩) (o:=[bT,.x (.agg [(intP y100),(intP y101)]),bF,bF]) (l:=[_,_,_,_,_,0≤(i:Int)∧(i:Int)<(((rivM c s).length:Nat):Int)∧(i*2)<((rivM c s).flatten.map intP).length,_]) (by kernel_rfl) (gc h5 (gc (q_leF h4) (gc (q_ltF h3) (gc (fl_load (i:=i) h2 h1) (gc (fl_le (i:=i) h2 h1) (gc (ix_fl (k:=2) (i:=(i:Int)) (by decide) h2 (Int.natCast_nonneg _) h1) (gc (q_lt h0) gn)))))))
theorem worst_L0_p3{c:Cup}{s i:Nat}{rk nx:Int}{rc:List Int}(h0:(((rivM c s).length:Nat):Int)≤(i:Int)):CodeOK Tryz.prog 0 zK5c3 (worst_S0 c s i rk nx rc.length (rc.map intP)) (.exit 0) (worst_S0 c s i rk nx rc.length (rc.map intP)):=by
  exact CodeOK.fin (g:=⟨(rng [(0,4),(7,2),(12,17),(32,24)]),[0],[],[]⟩) (o:=[bF]) (l:=[_]) (by kernel_rfl) (gc (q_ltF h0) gn)
def table_S0(c:Cup)(i:Nat)(on:Nat)(oc:List PV):St:=⟨fr 43 [(2,(.p nilS)),(3,(.p (intP 0))),(4,(.ptr 0 0)),(6,(.own 1)),(19,(.p (intP c.sk))),(20,(.p (intP (i:Int))))],[some (.box 129 [(.p (intP c.sk)),(.p (intP c.ra)),(.p (intP c.be)),(.p (intsP c.pts)),(.p (rowsP c.done))]),some (.row 61 on oc)]⟩
theorem table_p1{c:Cup}{i'0:Nat}{o'1:List (List Int)}(h0:KL.Small c)(h1:(checkP c)=(0:Int))(hl2:LoopOK Tryz.prog 0 zK5c4 (table_S0 c 0 0 []) (.exit 0) (table_S0 c i'0 o'1.length (o'1.flatten.map intP)))(h3:uni 4 o'1)(h4:o'1.length<20){base:Nat}:FV Tryz.prog 35 [(.p (cupP c))] base (.tup [(.p (.sl ((isort (ltK 1) o'1).length) ((isort (ltK 1) o'1).flatten.map intP))),(.p (intP 0))]) []:=by
  exact FV.frz (FMM.fin (k:=0) (g:=⟨[],[],[1],[]⟩) rfl Tryz.func35 rfl (o:=[.c (.tup [(.p (cupP c)),(.p (intP (checkP c)))]) [],bF,.k 6 ⟨(rng [(0,2),(5,1),(7,12),(21,19),(41,1)]),[1,2],[],[(6,61)]⟩ (.exit 0) (table_S0 c i'0 o'1.length (o'1.flatten.map intP)),.c (.tup []) [(1,(.row 61 ((isort (ltK 1) o'1).length) ((isort (ltK 1) o'1).flatten.map intP)))]]) (l:=[FC Tryz.prog 108 [(.own 1),(.fn 109 [] [])] [(1,(.row 61 o'1.length (o'1.flatten.map intP)))] 2 (.tup []) [(1,(.row 61 ((isort (ltK 1) o'1).length) ((isort (ltK 1) o'1).flatten.map intP)))],_,_,_]) (by kernel_rfl) (gc (FMM.fc (ids:=[1]) (srtL_ok o'1 h3 h4) (by kernel_rfl)) (gc hl2.code (gc (q_neF h1) (gc (fk 1 (asked_ok c h0) rfl) gn))))) (by kernel_rfl)
theorem table_L0_p0{c:Cup}{i:Nat}{o:List (List Int)}{x100:Int}{i':Nat}{o':List (List Int)}(h0:(i:Int)<c.sk)(h1:KL.Valid c)(h2:((i:Nat):Int)<c.sk)(h3:((intP (totalM c i))::((placesM c i).map intP)).length=62)(h4:(placesM c i)[1]? = some x100)(h5:[(intP (i:Int)),(intP (rankM c i)),(intP (totalM c i)),(intP x100)].length=1*4∧o.length+1≤1000000)(h6:inR (((i+1):Nat):Int))(ei':i'=(i+1))(eo'n:o'.length=(o.length+1))(eo'c:o'.flatten.map intP=((o.flatten.map intP)++[(intP (i:Int)),(intP (rankM c i)),(intP (totalM c i)),(intP x100)])):CodeOK Tryz.prog 0 zK5c4 (table_S0 c i o.length (o.flatten.map intP)) .normal (table_S0 c i' o'.length (o'.flatten.map intP)):=by
  subst ei'
  have raw:CodeOK Tryz.prog 0 zK5c4 (table_S0 c i o.length (o.flatten.map intP)) .normal (table_S0 c (i+1) (o.length+1) ((o.flatten.map intP)++[(intP (i:Int)),(intP (rankM c i)),(intP (totalM c i)),(intP x100)])):=CodeOK.fin (g:=⟨(rng [(0,2),(5,1),(7,12),(21,19),(41,1)]),[0,8],[],[]⟩) (o:=[bT,.c (.p (.agg ((intP (totalM c i))::((placesM c i).map intP)))) [],.c (.p (intP (rankM c i))) [],.x (intP (totalM c i)),.x (intP x100)]) (l:=[_,_,[(intP (i:Int)),(intP (rankM c i)),(intP (totalM c i)),(intP x100)].length=4,(((intP (totalM c i))::((placesM c i).map intP))++[])[2]? = some (intP x100),0≤(1:Int)∧(1:Int)<(61:Int),(((intP (totalM c i))::((placesM c i).map intP))++[])[0]? = some (intP (totalM c i)),_,((intP (totalM c i))::((placesM c i).map intP)).length=62∧0+62≤[(intP 0),(intP 0),(intP 0),(intP 0),(intP 0),(intP 0),(intP 0),(intP 0),(intP 0),(intP 0),(intP 0),(intP 0),(intP 0),(intP 0),(intP 0),(intP 0),(intP 0),(intP 0),(intP 0),(intP 0),(intP 0),(intP 0),(intP 0),(intP 0),(intP 0),(intP 0),(intP 0),(intP 0),(intP 0),(intP 0),(intP 0),(intP 0),(intP 0),(intP 0),(intP 0),(intP 0),(intP 0),(intP 0),(intP 0),(intP 0),(intP 0),(intP 0),(intP 0),(intP 0),(intP 0),(intP 0),(intP 0),(intP 0),(intP 0),(intP 0),(intP 0),(intP 0),(intP 0),(intP 0),(intP 0),(intP 0),(intP 0),(intP 0),(intP 0),(intP 0),(intP 0),(intP 0)].length,_,_]) (by kernel_rfl) (gc h6 (gc h5 (gc (by first | decide | simp) (gc (at_nil (at_map (i:=1) h4)) (gc (by first | decide | simp) (gc (at_nil rfl) (gc (fk 3 (rank_ok c h1 i h2) rfl) (gc ⟨h3,by first | decide | simp⟩ (gc (fk 2 (form_ok c h1 i h2) rfl) (gc (q_lt h0) gn))))))))))
  exact raw.cast (by rw [eo'n,eo'c])
theorem table_L0_p1{c:Cup}{i:Nat}{o:List (List Int)}(h0:c.sk≤(i:Int)):CodeOK Tryz.prog 0 zK5c4 (table_S0 c i o.length (o.flatten.map intP)) (.exit 0) (table_S0 c i o.length (o.flatten.map intP)):=by
  exact CodeOK.fin (g:=⟨(rng [(0,2),(5,1),(7,12),(21,19),(41,1)]),[0,1],[],[]⟩) (o:=[bF]) (l:=[_]) (by kernel_rfl) (gc (q_ltF h0) gn)
def wStep(a:Int × Int × List Int)(x:List Int):Int × Int × List Int:=if 60<x.getD 1 0 then (a.1+1,a.2.1,a.2.2) else if a.2.1≤x.getD 1 0 then (a.1+1,a.2.1+1,a.2.2.set (x.getD 0 0).toNat a.2.1) else a
def worstM(c:Cup)(s:Nat):Int × Int × List Int:=(rivM c s).foldl wStep (1,1,List.replicate c.sk.toNat 0)
theorem rivM_mem{c:Cup}{s:Nat}{x:List Int}(h:x∈rivM c s):∃ i:Nat,(i:Int)<c.sk∧i≠s∧x=[(i:Int),rivPl c s i]∧0<rivPl c s i:=rivL_mem ((isort_mem _ _ _).1 h)
theorem rivM_len(c:Cup)(s:Nat):(rivM c s).length≤c.sk.toNat:=by
  unfold rivM
  rw [isort_length]
  have:=flatMap_len (rivG_len c s) (List.range c.sk.toNat)
  rwa [List.length_range] at this
theorem worst_ok(c:Cup)(s:Nat)(h:lastE c (s:Int)=0){base:Nat}:FV Tryz.prog 56 [.p (cupP c),.p (intP (s:Int))] base (.tup [.p (intP (worstM c s).1),.p (intsP (worstM c s).2.2),.p (intP 0)]) []:=by
  obtain ⟨hV,hs0,hs,hra⟩:=lastE_zero h
  have h1:=hV.sk1
  have h2:=hV.sk2
  have hu:uni 2 (rivM c s):=fun x hx=>by obtain ⟨i,_,_,rfl,_⟩:=rivM_mem hx;rfl
  have hll:=rivM_len c s
  have hL:=LoopOK.range (P:=Tryz.prog) (k:=0) (b:=zK5c3) (e := .exit 0) (fun i (a:Int × Int × List Int)=>worst_S0 c s i a.1 a.2.1 a.2.2.length (a.2.2.map intP)) (fun a=>worst_S0 c s (rivM c s).length a.1 a.2.1 a.2.2.length (a.2.2.map intP)) wStep (fun i a=>0≤a.1∧a.1≤1+i∧0≤a.2.1∧a.2.1≤1+i∧a.2.2.length=c.sk.toNat) (by simp) (rivM c s) (a0:=(1,1,List.replicate c.sk.toNat 0)) (by simp)
    (fun i x a hx hI=>by
      obtain ⟨q1,q2,q3,q4,q5⟩:=hI
      obtain ⟨k,hk,_,rfl,hp⟩:=rivM_mem (List.mem_of_getElem? hx)
      have hi:=lt_of_at hx
      have hbd:=rivPl_bd c s k
      unfold wStep
      simp only [List.getD_cons_succ,List.getD_cons_zero]
      by_cases c1:60<rivPl c s k
      · rw [if_pos c1]
        exact ⟨⟨by simp;omega,by simp;omega,by simp;omega,by simp;omega,q5⟩,worst_L0_p0 (by omega) hx hu c1 (by unfold inR;omega) (inR_nat (by omega)) rfl rfl⟩
      · rw [if_neg c1]
        by_cases c2:a.2.1≤rivPl c s k
        · rw [if_pos c2]
          have hkl:k<a.2.2.length:=by omega
          exact ⟨⟨by simp;omega,by simp;omega,by simp;omega,by simp;omega,by simpa using q5⟩,worst_L0_p1 (by omega) hx hu (by omega) c2 (x102:=a.2.2[k]) (by rw [Int.toNat_natCast];exact List.getElem?_eq_getElem hkl) (by omega) (by simp;omega) (by unfold inR;omega) (by unfold inR;omega) (inR_nat (by omega)) rfl rfl rfl (by simp) (by simp [List.map_set])⟩
        · rw [if_neg c2]
          exact ⟨⟨by omega,by omega,by omega,by omega,q5⟩,worst_L0_p2 (by omega) hx hu (by omega) (by omega) (inR_nat (by omega)) rfl⟩)
    (fun a _=>worst_L0_p3 (by omega))
  refine worst_p1 (s:=s) hV.small h (by omega) ⟨hV,by omega,hs⟩ (i'0:=(rivM c s).length) (nx'2:=(worstM c s).2.1) ?_
  simpa [worstM] using hL
def tabL(c:Cup):List (List Int):=(List.range c.sk.toNat).map fun (i:Nat)=>[(i:Int),rankM c i,totalM c i,(placesM c i).getD 1 0]
def tableM(c:Cup):List (List Int):=isort (ltK 1) (tabL c)
theorem foldl_mapL{g:Nat→List Int}:∀ (l:List Nat) (a:List (List Int)),l.foldl (fun acc s=>acc++[g s]) a=a++l.map g
  | [],a=>by simp
  | x::l,a=>by rw [List.foldl_cons,foldl_mapL l];simp
theorem table_ok(c:Cup)(hV:KL.Valid c){base:Nat}:FV Tryz.prog 35 [.p (cupP c)] base (.tup [.p (.sl (tableM c).length ((tableM c).flatten.map intP)),.p (intP 0)]) []:=by
  have h1:=hV.sk1
  have h2:=hV.sk2
  have hpl:∀ i,(placesM c i).length=61:=fun i=>by unfold placesM;rw [KL.placesUpTo_length]
  have hL:=LoopOK.times (P:=Tryz.prog) (k:=0) (b:=zK5c4) (e := .exit 0) (fun i (o:List (List Int))=>table_S0 c i o.length (o.flatten.map intP)) (fun o=>table_S0 c c.sk.toNat o.length (o.flatten.map intP)) (fun acc i=>acc++[[(i:Int),rankM c i,totalM c i,(placesM c i).getD 1 0]]) (fun i o=>o.length≤i) (by simp) c.sk.toNat (a0:=[]) (by simp)
    (fun i o hi hI=>⟨by simp;omega,table_L0_p0 (x100:=(placesM c i).getD 1 0) (by omega) hV (by omega) (by simp [hpl]) (by
      have:=hpl i
      rw [List.getElem?_eq_getElem (by omega),List.getD_eq_getElem?_getD,List.getElem?_eq_getElem (by omega)];rfl) (by simp;omega) (inR_nat (by omega)) rfl (by simp) (by simp)⟩)
    (fun o _=>table_L0_p1 (by omega))
  rw [foldl_mapL,List.nil_append] at hL
  exact table_p1 hV.small ((KL.valid_iff c).2 hV) hL (fun x hx=>by rw [List.mem_map] at hx;obtain ⟨i,_,rfl⟩:=hx;rfl) (by simp;omega)
end
end KV
end Go.Proofs
section
namespace Go.Proofs
open Go.RowKit
namespace KV
variable {P:Program} {C C0:Cx} {M M0:Mem} {w w0:World}

def Solid(w:World)(b:Nat):Prop:=∃ o:Obj,w.heap[b]? = some o∧o.isCells=true
theorem solid_cell{b o:Nat}{v:Value}(h:w.cell? ⟨b,o,none⟩=some v):Solid w b:=cells_of_cell h
theorem solid_row{b ty:Nat}{arr:Array Value}{fr:Nat × Nat}(h:w.heap[b]? = some (.cells arr ty fr)):Solid w b:=⟨_,h,rfl⟩

theorem RepP.shrink{F F':Nat→Prop}{x:PV}{u:Value}(h:RepP F w x u)(hF:∀ b,F b→Solid w b→F' b):RepP F' w x u:=by
  induction h with
  | v x=>exact .v x
  | sl n cs p cap us h1 h2 h3 _ h5 ih =>
    refine .sl n cs p cap us h1 h2 (fun i hi => ?_) ih h5
    obtain ⟨b,o,hp,hb,hc⟩:=h3 i hi
    exact ⟨b,o,hp,hF b hb (solid_cell hc),hc⟩
  | agg cs vs h0 h1 _ ih=>exact .agg cs vs h0 h1 ih
theorem Rep.shrink{F':Nat→Prop}{x:AV}{u:Value}(h:Rep C M w x u)(hF:∀ b,C.F b→Solid w b→F' b):Rep ⟨C.ι,C.κ,F',[]⟩ M w x u:=by
  induction h with
  | p x u h=>exact .p x u (h.shrink hF)
  | any u=>exact .any u
  | kb b=>exact .kb b
  | yld l=>exact .yld l
  | own id u h0 ha h=>exact .own id u h0 ha h
  | arr id off n u h0 ha h=>exact .arr id off n u h0 ha h
  | ptr id off u h0 ha h=>exact .ptr id off u h0 ha h
  | mp id u h0 ha h=>exact .mp id u h0 ha h
  | rp cs off b o us h1 h2 h3=>exact .rp cs off b o us (fun i hi=>⟨hF b (h1 i hi).1 (solid_cell (h1 i hi).2),(h1 i hi).2⟩) (fun i hi=>(h2 i hi).shrink hF) h3
  | agg cs vs h0 h1 _ ih=>exact .agg cs vs h0 h1 ih
  | tup cs vs h1 _ ih=>exact .tup cs vs h1 ih
  | fn f cs ds us vs h1 h2 _ _ ih1 ih2=>exact .fn f cs ds us vs h1 h2 ih1 ih2

def NoMap(M:Mem):Prop:=∀ (i:Nat) (es:List (Value × PV)) (cl:Nat),M[i]? ≠ some (some (.mp es cl))

theorem inv_shrink{M':Mem}{W:World}(hn:NoMap M')(hF:∀ b,C.F b→b<w.heap.size){C':Cx}(hM:MemOK P C' M' W)(f:Fr C M w C' M' W) :
    ∃ C'',MemOK P C'' M' W∧Fr C M w C'' M' W∧(∀ b,C''.F b→b<w.heap.size∨Solid W b):=by
  refine ⟨⟨C'.ι,C'.κ,fun b=>C'.F b∧(b<w.heap.size∨Solid W b),[]⟩,⟨fun i ty n cs hm => ?_,fun i ty cs hm => ?_,fun i es cl hm=>absurd hm (hn _ _ _),hM.inj,fun i o b ho hl hb hf=>hM.nF i o b ho hl hb hf.1,fun b hb=>hM.Fs b hb.1,hM.lt⟩,
    ⟨f.os,f.tape,f.out,f.size,f.keep,f.ids,f.row,f.liv,f.new,fun b hb=>⟨f.F1 b hb,.inl (hF b hb)⟩,fun b hb=>f.F2 b hb.1⟩,fun b hb=>hb.2⟩
  · rcases hM.row _ _ _ _ hm with h4 | ⟨b,arr,inf,q0,q1,q2,q3,q4,q5,q6,q7,q8⟩
    · exact .inl h4
    · exact .inr ⟨b,arr,inf,q0,q1,q2,q3,q4,q5,q6,fun j hj=>(q7 j hj).shrink (fun b hb hs=>⟨hb,.inr hs⟩),q8⟩
  · obtain ⟨b,arr,q0,q1,q2,q3,q4⟩:=hM.box _ _ _ hm
    exact ⟨b,arr,q0,q1,q2,fun j hj=>(q3 j hj).shrink (fun b hb hs=>⟨hb,.inr hs⟩),q4⟩

def InvR(P:Program)(C:Cx)(M:Mem)(w:World)(M':Mem)(W:World):Prop:=∃ C',MemOK P C' M' W∧Fr C M w C' M' W

theorem not_solid{W:World}{b:Nat}{o:Obj}(h:W.heap[b]? = some o)(ho:o.isCells=false):¬ Solid W b:=fun ⟨o',h',hc⟩=>by rw [h] at h';cases h';rw [ho] at hc;cases hc

theorem InvR.own{M':Mem}{W W':World}{row:Option Nat}(hn:NoMap M')(hF:∀ b,C.F b→b<w.heap.size)(h:InvR P C M w M' W)(hg:W.grownBy W' row)
    (hr:∀ r,row=some r→w.heap.size≤r∧∃ o:Obj,W.heap[r]? = some o∧o.isCells=false):InvR P C M w M' W':=by
  obtain ⟨C1,h1,h2⟩:=h
  obtain ⟨C',hM,f,hS⟩:=inv_shrink hn hF h1 h2
  have hsame:∀ b,b<W.heap.size→(b<w.heap.size∨Solid W b)→W'.heap[b]? = W.heap[b]? := fun b hb hd=>hg.block b hb (fun e=>by
    obtain ⟨q1,o,q2,q3⟩:=hr b e.symm
    rcases hd with hd | hd
    · omega
    · exact not_solid q2 q3 hd)
  have hFz:∀ b,C'.F b→W'.heap[b]? = W.heap[b]? := fun b hb=>hsame b (hM.Fs b hb) (hS b hb)
  have hL:Le C' C' M' M' W W':=⟨fun _ o h=>⟨o,h⟩,fun _ _ _ _ _ cs h=>⟨cs,h⟩,fun _ o h o' h' hl=>by rw [h] at h';cases h';exact ⟨hl,rfl,rfl⟩,fun _ h=>h,hFz⟩
  refine ⟨C',⟨fun i ty n cs hm => ?_,fun i ty cs hm => ?_,fun i es cl hm=>absurd hm (hn _ _ _),hM.inj,hM.nF,fun b hb=>Nat.lt_of_lt_of_le (hM.Fs b hb) hg.size,fun i o b ho hl hb=>Nat.lt_of_lt_of_le (hM.lt i o b ho hl hb) hg.size⟩,
    ⟨hg.os.trans f.os,hg.tape.trans f.tape,hg.output.trans f.out,Nat.le_trans f.size hg.size,fun b hb hno=>(hsame b (Nat.lt_of_lt_of_le hb f.size) (.inl hb)).trans (f.keep b hb hno),f.ids,f.row,f.liv,f.new,f.F1,f.F2⟩⟩
  · rcases hM.row _ _ _ _ hm with h4 | ⟨b,arr,inf,q0,q1,q2,q3,q4,q5,q6,q7,q8⟩
    · exact .inl h4
    · exact .inr ⟨b,arr,inf,q0,(hsame b (Array.getElem?_eq_some_iff.1 q1).1 (.inr (solid_row q1))).trans q1,q2,q3,q4,q5,q6,fun j hj=>(q7 j hj).mono hL.F hL.fz,q8⟩
  · obtain ⟨b,arr,q0,q1,q2,q3,q4⟩:=hM.box _ _ _ hm
    exact ⟨b,arr,q0,(hsame b (Array.getElem?_eq_some_iff.1 q1).1 (.inr (solid_row q1))).trans q1,q2,fun j hj=>(q3 j hj).mono hL,q4⟩

structure KpG (F:Nat→Prop) (A B:World):Prop where
  size:A.heap.size≤B.heap.size
  same:∀ b,F b→B.heap[b]? = A.heap[b]?
theorem KpG.refl(F:Nat→Prop)(A:World):KpG F A A:=⟨Nat.le_refl _,fun _ _=>rfl⟩
theorem KpG.trans{F:Nat→Prop}{A B D:World}(h:KpG F A B)(k:KpG F B D):KpG F A D:=⟨Nat.le_trans h.size k.size,fun b hb=>(k.same b hb).trans (h.same b hb)⟩

def IterOK(P:Program){α:Type}(g:AV)(encs:α→Array Value)(gf N:Nat)(S:List α→Prop):Prop:=∀ (C:Cx) (M:Mem) (w:World) (u:Value),Rep C M w g u→(∀ b,C.F b→b<w.heap.size) →
  ∃ lb Sp,u = .func (.func gf) #[] lb∧SeqStopsK Fence.wide 2 P gf lb encs (KpG C.F) S Sp N w

theorem room_fen{ro:Option Nat}{n:Nat}:(Fen ro).room n:=fun d hd=>by cases hd
theorem wpIn_any_n{ro:Option Nat}{n m:Nat}{c:Code}{Q:Exit→Act→World→Prop}{a:Act}(h:c.wpIn (Fen ro) n P Q a w):c.wpIn (Fen ro) m P Q a w:=fun b k cs hro hb _=>h b k cs hro hb room_fen

theorem nosolid_live{C:Cx}{M:Mem}{W:World}(hM:MemOK P C M W)(hn:NoMap M){b:Nat}{o:Obj}(h:W.heap[b]? = some o)(ho:o.isCells=false):∀ (id:Nat) (x:AO),M[id]? = some (some x)→x.live=true→C.ι id≠some b:=fun id x hx hl hb=>by
  cases x with
  | row ty n cs =>
    rcases hM.row _ _ _ _ hx with ⟨h1,_⟩ | ⟨b',arr,i,h1,h2,_⟩
    · rw [hb] at h1;cases h1
    · rw [hb] at h1;cases h1;exact not_solid h ho (solid_row h2)
  | box ty cs =>
    obtain ⟨b',arr,h1,h2,_⟩:=hM.box _ _ _ hx
    rw [hb] at h1;cases h1;exact not_solid h ho (solid_row h2)
  | mp es cl=>exact hn _ _ _ hx
  | dead=>cases hl

theorem zip2'(p q:Nat)(a b:Value)(t:Array Value):(#[p,q].zip #[a,b]).foldl (fun t (x:Nat × Value)=>t.setIfInBounds x.1 x.2) t=(t.setIfInBounds p a).setIfInBounds q b:=by simp

theorem CodeOK.rangeFunc{α:Type}{k kb gi gf p1 p2 d id ty:Nat}{pos:String}{body:Code}{st:St}{g:AV}{N:Nat}{S:List α→Prop}(Mx:List α→Mem)(v1 v2:α→Value)(t':List α→α→List AV)(M':Mem)
    (hg:st.t[gi]? = some g) (h0:Mx []=st.m) (hit:IterOK P g (fun x => #[v1 x,v2 x]) gf N S) (eg:∀ args w,(callFunc gf args).run P w = .ok (.enter gf args) w)
    (hmp:∀ pre,NoMap (Mx pre)) (hlen:∀ pre,(Mx pre).length≤kb) (hnrf:nrf body=true)
    (hp:∀ x,(put (put st.t (some p1) (.p (.v (v1 x)))) (some p2) .any)[p1]? = some (.p (.v (v1 x))))
    (hbody:∀ pre x,pre.length<N→CodeOK P kb body ⟨put (put (put st.t (some p1) (.p (.v (v1 x)))) (some p2) .any) (some d) (.p (.v (v1 x))),Mx pre⟩ .normal ⟨t' pre x,Mx (pre++[x])⟩)
    (hS:∀ xs,S xs→Mx xs=M') :
    CodeOK P k (.rangeFunc (.tmp gi) #[p1,p2] (.region id #[{ dst:=some d,op := .assign (.tmp p1),type:=ty,pos:=pos,after := #[],guard:=none }] false) body) st .normal ⟨st.t,M'⟩:=by
  intro C0 M0 w0 a w hk hs ro hro n
  have hro':ro=none:=hro.resolve_right (by simp [nrf])
  subst hro'
  refine wpIn_any_n (n:=3) ?_
  obtain ⟨C,hSl,hM,hF,hD⟩:=hs
  obtain ⟨lb,Sp,hu,hseq⟩:=hit C st.m w _ (hSl.at hg) hM.Fs
  refine wpIn_rangeFunc_ownH (F:=Fen none) (n:=3) rfl (by omega) (gf:=gf) (lb:=lb) hu trivial eg hseq (fun h k=>h.trans k)
    (fun W l o o' hl h1 h2 h3=>⟨by simp,fun b hb=>(grownBy_putObj' W l o').block b (Nat.lt_of_lt_of_le (hM.Fs b hb) (Nat.le_trans hl (Nat.le_of_lt (Array.getElem?_eq_some_iff.1 h1).1))) (fun e=>by cases e;have:=hM.Fs _ hb;omega)⟩)
    (Below.refl _ _) (fun _=>rfl)
    (fun pre W=>InvR P C st.m w (Mx pre) W) (fun _ _ _=>False)
    (fun pre X Y row hs hg hr=>hs.own (hmp pre) hM.Fs hg hr) (fun _ _ _ _ _ hs _ _=>hs)
    ⟨C,by rw [h0];exact hM,by rw [h0];exact Fr.refl _ _ _⟩
    (fun x a' _=>a'=({ tmps:=(a.tmps.setIfInBounds p1 (v1 x)).setIfInBounds p2 (v2 x),defers:=[] }:Act).put (some d) (({ tmps:=(a.tmps.setIfInBounds p1 (v1 x)).setIfInBounds p2 (v2 x),defers:=[] }:Act).eval (.tmp p1)))
    (fun _ _ _ _ _ _ hs _ _=>hs) ?assign ?body ?done ?stop
  case assign =>
    intro l pre x W K hI hK
    rw [zip2']
    refine wpIn_region_lit (wpListIn_plain rfl fun K' hK' => ?_)
    unfold Oper.wpIn
    refine ⟨fun f _=>trivial,?_⟩
    rw [Oper.semAt_plain _ _ _ (by intro c hc';cases hc')]
    simp only [execOp,Sem.run_pure]
    exact hK' _ _ (wpListIn_nil (hK _ _ (KeepsFrom.refl _ _) (KpG.refl _ _) hI rfl))
  case body =>
    rintro l pre x a' W hl _ hI rfl hlt
    obtain ⟨C',hM',hF'⟩:=hI
    have hSW:=hSl.le (hM.le hF')
    have hS1:Slots C' (Mx pre) W (put (put (put st.t (some p1) (.p (.v (v1 x)))) (some p2) .any) (some d) (.p (.v (v1 x)))) (({ tmps:=(a.tmps.setIfInBounds p1 (v1 x)).setIfInBounds p2 (v2 x),defers:=[] }:Act).put (some d) (({ tmps:=(a.tmps.setIfInBounds p1 (v1 x)).setIfInBounds p2 (v2 x),defers:=[] }:Act).eval (.tmp p1))).tmps:=by
      have s1:Slots C' (Mx pre) W (put (put st.t (some p1) (.p (.v (v1 x)))) (some p2) .any) ((({ tmps:=a.tmps,defers:=[] }:Act).put (some p1) (v1 x)).put (some p2) (v2 x)).tmps :=
        Slots.put (Slots.put (a:={ tmps:=a.tmps,defers:=[] }) hSW (.p _ _ (.v _))) (.any _)
      exact Slots.put s1 (s1.at (hp x))
    refine wpIn_mono (hbody pre x hlt (C'.with []) (Mx pre) W _ W (hlen pre) ⟨C',hS1,hM',(Fr.refl _ _ _).based [],.nil rfl⟩ (some l) (.inr hnrf) 1) ?_
    rintro e a2 W2 ⟨rfl,C2,_,hM2,hF2,_⟩
    have hF2:=hF2.unbased
    refine ⟨⟨hF2.size,fun b o _ hb ho=>(hF2.keep b (Array.getElem?_eq_some_iff.1 hb).1 (nosolid_live hM' (hmp pre) hb ho)).trans hb⟩,⟨hF2.size,fun b hb=>(hF2.keep b (Nat.lt_of_lt_of_le (hM.Fs b hb) hF'.size) (fun id o ho hl he=>hM'.nF id o b ho hl he (hF'.F1 b hb)))⟩,C2,hM2,hF'.trans hF2⟩
  case done =>
    intro D xs W hD' hSx hI hDm
    obtain ⟨C1,h1,h2⟩:=hI
    rw [hS xs hSx] at h1 h2
    have hnm:NoMap M':=hS xs hSx ▸ hmp xs
    obtain ⟨C',hM',f,hSo⟩:=inv_shrink hnm hM.Fs h1 h2
    refine ⟨rfl,C',hSl.le (hM.le f),hM',hF.trans f,?_⟩
    obtain ⟨⟨l,e1,e2,e3⟩,hR⟩:=hD.fr hM f
    obtain ⟨⟨l',e1',_,e3'⟩,_⟩:=hD
    have hll:l=l':=by
      have:=e1.symm.trans e1'
      exact (List.map_inj_right (fun x y h=>by simpa [mark] using h)).1 this
    refine ⟨⟨D::l,by rw [e1];rfl,List.nodup_cons.2 ⟨fun hin => ?_,e2⟩,fun D' hD2 => ?_⟩,hR⟩
    · rw [hll] at hin
      have:=(Array.getElem?_eq_some_iff.1 (e3' D hin).1).1
      omega
    · rcases List.mem_cons.1 hD2 with rfl | hin
      · refine ⟨hDm,Nat.le_trans hF.size hD',fun hf => ?_⟩
        rcases hSo _ hf with h | h
        · omega
        · exact not_solid hDm rfl h
      · exact e3 D' hin
  case stop =>
    intro D c pre W _ _ h _
    exact h.elim
def rfS(st:St)(p1 p2 d:Nat)(x:PV):St:=⟨put (put (put st.t (some p1) (.p x)) (some p2) .any) (some d) (.p x),st.m⟩
theorem CodeOK.rangeAcc{α β β':Type}{k kb gi gf p1 p2 d id ty:Nat}{pos:String}{body:Code}{g:AV}{N:Nat}{xs:List β}(val:α→β)(S:β'→St)(T:List AV)(v1 v2:α→Value)(f:β'→α→β')(a0:β')(Inv:Nat→β'→Prop)(R:List β→β')
    {cc:Code} (hcc:cc = .rangeFunc (.tmp gi) #[p1,p2] (.region id #[{ dst:=some d,op := .assign (.tmp p1),type:=ty,pos:=pos,after := #[],guard:=none }] false) body) (hT:∀ acc,(S acc).t=T) (hg:T[gi]? = some g) (hit:IterOK P g (fun x => #[v1 x,v2 x]) gf N (fun ys=>ys.map val=xs)) (eg:∀ args w,(callFunc gf args).run P w = .ok (.enter gf args) w)
    (hmp:∀ acc,NoMap (S acc).m) (hlen:∀ acc,(S acc).m.length≤kb) (hnrf:nrf body=true)
    (hp:∀ x,(put (put T (some p1) (.p (.v (v1 x)))) (some p2) .any)[p1]? = some (.p (.v (v1 x))))
    (h0:Inv 0 a0) (hInv:∀ i acc x,i<N→Inv i acc→Inv (i+1) (f acc x))
    (hbody:∀ i acc x,i<N→Inv i acc→CodeOK P kb body (rfS (S acc) p1 p2 d (.v (v1 x))) .normal (S (f acc x)))
    (hR:∀ ys:List α,ys.foldl f a0=R (ys.map val)) :
    CodeOK P k cc (S a0) .normal (S (R xs)):=by
  subst hcc
  have hI':∀ (pre:List α) (i:Nat) (acc:β'),Inv i acc→i+pre.length≤N→Inv (i+pre.length) (pre.foldl f acc):=by
    intro pre
    induction pre with
    | nil=>intro i acc h _;exact h
    | cons x pre ih =>
      intro i acc h hl
      rw [List.length_cons] at hl ⊢
      have:=ih (i+1) (f acc x) (hInv i acc x (by omega) h) (by omega)
      rwa [show i+1+pre.length=i+(pre.length+1) by omega] at this
  have hI:∀ (pre:List α),pre.length≤N→Inv pre.length (pre.foldl f a0):=fun pre hl=>by
    have:=hI' pre 0 a0 h0 (by omega)
    rwa [Nat.zero_add] at this
  have:=CodeOK.rangeFunc (P:=P) (k:=k) (kb:=kb) (d:=d) (id:=id) (ty:=ty) (pos:=pos) (body:=body) (st:=S a0) (g:=g) (S:=fun ys=>ys.map val=xs) (fun pre=>(S (pre.foldl f a0)).m) v1 v2 (fun pre x=>T) (S (R xs)).m
    (by rw [hT];exact hg) rfl hit eg (fun pre=>hmp _) (fun pre=>hlen _) hnrf (by rw [hT];exact hp)
    (fun pre x hl=>by
      have h1:=hbody pre.length (pre.foldl f a0) x hl (hI pre (by omega))
      unfold rfS at h1
      rw [hT] at h1 ⊢
      rw [List.foldl_append]
      have h2:S (f (pre.foldl f a0) x)=⟨T,(S (f (pre.foldl f a0) x)).m⟩:=by rw [← hT (f (pre.foldl f a0) x)]
      rw [h2] at h1
      exact h1)
    (fun ys hy=>by rw [hR,hy])
  have h3:S (R xs)=⟨(S a0).t,(S (R xs)).m⟩:=by rw [hT,← hT (R xs)]
  rw [h3]
  exact this
end KV
end Go.Proofs
end
section
namespace Go.Proofs
open Go.RowKit Go.Lib Go.Sort Go.Shelf
namespace KV
open KL
attribute [local go_sem] Oper.semAt_some

theorem KpG.below{F:Nat→Prop}{A B:World}(h:Below A.heap.size A B)(hF:∀ b,F b→b<A.heap.size):KpG F A B:=⟨h.size,fun b hb=>h.block b (hF b hb)⟩

set_option maxRecDepth 1000000 in
set_option maxHeartbeats 2000000 in
theorem others_iterG(c:Cup)(hV:Valid c)(F0:Nat→Prop)(vp vd:Value)(n l b1 o1 b2 o2:Nat)(hn:1≤n)(skier:Nat)(J Jx:List Nat→World→Prop)
    (hY:∀ pre (x:Nat) W,(x:Int)<c.sk→x≠skier→J pre W→pre.length<(oth skier c.sk.toNat).length→YieldAt Fence.wide (n-1) Tryz.prog l #[.int .i64 x,.agg (formM c x)] W fun e W' =>
      (e = .returned (.bool true)∧J (pre++[x]) W'∧KpG F0 W W')∨(e = .returned (.bool false)∧Jx (pre++[x]) W'))
    (W:World) (hJ:AbidesFrom W.heap.size J) (hF:∀ b,F0 b→b<W.heap.size)
    (hc:∀ W',KpG F0 W W'→CupAt W' (.agg #[.int .i64 c.sk,.int .i64 c.ra,.int .i64 c.be,vp,vd]) c)
    (hk:∀ W',KpG F0 W W'→W'.cell? ⟨b1,o1,none⟩=some (.int .i64 c.sk)∧W'.cell? ⟨b1,o1+1,none⟩=some (.int .i64 c.ra)∧W'.cell? ⟨b1,o1+2,none⟩=some (.int .i64 c.be)∧W'.cell? ⟨b1,o1+3,none⟩=some vp∧W'.cell? ⟨b1,o1+4,none⟩=some vd∧W'.cell? ⟨b2,o2,none⟩=some (.int .i64 skier)) (h0:J [] W) :
    CallsIn Fence.wide n Tryz.prog 168 #[.func (.yield l) #[] #[],.pointer (some ⟨b1,o1,none⟩),.pointer (some ⟨b2,o2,none⟩)] W fun e W'=>(∃ v,e = .returned v) ∧
      ((∃ ys,ys=oth skier c.sk.toNat∧J ys W')∨(∃ pre,pre <+: oth skier c.sk.toNat∧Jx pre W')):=by
  have HJ:=hid hJ
  have HY:=hid hY
  have HC:=hid hc
  have HKC:=hid hk
  have HF0:=hid hF
  have HJ0:=hid h0
  have hsk:=hV.sk2
  have hsk1:=hV.sk1
  obtain ⟨k0,k1,k2,k3,k4,ks⟩:=hk W (KpG.refl _ _)
  clear hJ hY hc h0 hk hF
  refine callsIn_of_wp Tryz.func168 rfl trivial ?_ rfl
  simp only [Tryz.ntmps168,List.size_toArray,List.length_cons,List.length_nil,Nat.reduceAdd,Nat.reduceSub,Array.replicate_succ,Array.replicate_zero,List.push_toArray,List.append_toArray,List.nil_append,List.cons_append]
  gi_wp2
  clear k0 k1 k2 k3 k4 ks
  gi_loopw [8] (fun i wr=>∃ k:Nat,(k:Int)≤c.sk∧i = .int .i64 k∧J (oth skier k) wr∧KpG F0 W wr)
    (fun i _=>c.sk.toNat-(intOf i).toNat)
  case atStart=>exact ⟨0,by omega,rfl,HJ0.out,KpG.refl _ _⟩
  case round =>
    obtain ⟨k,hk,rfl,hJk,hK⟩:=hrel
    have HJK:=hid hJk
    have HK:=hid hK
    obtain ⟨k0,k1,k2,k3,k4,ks⟩:=HKC.out wr hK
    have HFR:=hid (fun b (hb:F0 b)=>Nat.lt_of_lt_of_le (HF0.out b hb) HK.out.size)
    clear hJk hK
    by_cases hlt:(k:Int)<c.sk
    · by_cases hks:k=skier
      · subst hks
        have HE:=hid (oth_succ_same k)
        have hk2:(k:Int)<12:=by omega
        gi_wp2
        refine ⟨trivial,?_⟩
        gi_wp2
        refine ⟨fun _ h=>(by cases h),?_⟩
        gi_wp2
        go_roundw
        case rel=>exact ⟨k+1,by omega,by go_num,by rw [HE.out];exact HJK.out,HK.out⟩
        case measure=>simp [intOf];omega
      · have HE:=hid (oth_succ_other skier k hks)
        have hne:((k:Int) != skier)=true:=by simp;omega
        have HFM:=hid (form_any c hV _ k wr (HC.out wr HK.out) hlt)
        have HL:=hid (oth_lt skier (show k<c.sk.toNat by omega) hks)
        have HP:=hid (oth_prefix skier (show k+1≤c.sk.toNat by omega))
        have HKS:=hid hks
        have HLT:=hid hlt
        have hk2:(k:Int)<12:=by omega
        have HWR:=hid (fun w1 (hb1:Below wr.heap.size wr w1)=>HJ.out _ wr w1 none HJK.out (grown_of_below hb1 none) (fun r e=>by cases e))
        have HKD:=hid (fun w1 (hb1:Below wr.heap.size wr w1)=>HK.out.trans (KpG.below hb1 HFR.out))
        gi_wp2_with (first
          | (refine ⟨trivial,?_⟩;gi_at_call 106;refine (callsIn_wide.2 HFM.out).mono ?_;clear HFM;rintro e w1 ⟨rfl,hb1⟩;have HB1:=hid hb1;clear hb1;obtain ⟨fn,tmps,assign,body,hy,hR⟩:=HY.out _ k w1 HLT.out HKS.out (HWR.out w1 HB1.out) HL.out)
          | (refine hR.mono ?_;clear hR;rintro e w3 (⟨rfl,hJ3,hK3⟩ | ⟨rfl,hx⟩)))
        · go_roundw
          case rel=>exact ⟨k+1,by omega,by go_num,by rw [HE.out];exact hJ3,(HKD.out w1 HB1.out).trans hK3⟩
          case measure=>simp [intOf];omega
        · refine bodyPost_ret (results_none rfl _ _ _) rfl ?_
          exact ⟨⟨_,rfl⟩,.inr ⟨oth skier k++[k],HE.out ▸ HP.out,hx⟩⟩
    · have HE:=hid (show k=c.sk.toNat by omega)
      gi_wp2
      go_end0
      exact ⟨⟨_,rfl⟩,.inl (HE.out ▸ HJK.out)⟩

theorem mem_froz{P:Program}{C:Cx}{M:Mem}{w w':World}(hM:MemOK P C M w)(hb:Below w.heap.size w w')(X:Nat→Prop)(hX:∀ b,X b→w.heap.size≤b∧b<w'.heap.size) :
    MemOK P ⟨C.ι,C.κ,fun b=>C.F b∨X b,[]⟩ M w'∧Fr C M w ⟨C.ι,C.κ,fun b=>C.F b∨X b,[]⟩ M w':=by
  have hL:Le C ⟨C.ι,C.κ,fun b=>C.F b∨X b,[]⟩ M M w w':=⟨fun _ o h=>⟨o,h⟩,fun _ _ _ _ _ cs h=>⟨cs,h⟩,fun _ o h o' h' hl=>by rw [h] at h';cases h';exact ⟨hl,rfl,rfl⟩,fun _ h => .inl h,fun b h=>hb.block b (hM.Fs b h)⟩
  refine ⟨⟨fun i ty' n cs hm => ?_,fun i ty' cs hm => ?_,fun i es cl hm => ?_,hM.inj,fun i o b ho hl hbb hf => ?_,fun b h => ?_,fun i x b hm hl hbb=>Nat.lt_of_lt_of_le (hM.lt i x b hm hl hbb) hb.size⟩,
    ⟨hb.os,hb.tape,hb.output,hb.size,fun b h _=>hb.block b h,fun _ x h=>⟨⟨x,h⟩,rfl,rfl⟩,fun _ _ _ _ _ cs h=>⟨cs,h⟩,fun _ o h o' h' hl=>by rw [h] at h';cases h';exact hl,fun i x _ h hl hbb => .inr ⟨i,x,h,hl,hbb⟩,fun _ h => .inl h,fun b h=>h.elim .inl (fun h => .inr (.inl (hX b h).1))⟩⟩
  · rcases hM.row _ _ _ _ hm with h4 | ⟨b,arr,inf,q0,q1,q2,q3,q4,q5,q6,q7,q8⟩
    · exact .inl h4
    · exact .inr ⟨b,arr,inf,q0,(hb.block b (hM.lt i _ b hm rfl q0)).trans q1,q2,q3,q4,q5,q6,fun j hj=>(q7 j hj).mono hL.F hL.fz,q8⟩
  · obtain ⟨b,arr,q0,q1,q2,q3,q4⟩:=hM.box _ _ _ hm
    exact ⟨b,arr,q0,(hb.block b (hM.lt i _ b hm rfl q0)).trans q1,q2,fun j hj=>(q3 j hj).mono hL,q4⟩
  · obtain ⟨b,arr,q0,q1,q2,q3⟩:=hM.mp _ _ _ hm
    refine ⟨b,arr,q0,(hb.block b (hM.lt i _ b hm rfl q0)).trans q1,q2,fun j hj => ?_⟩
    obtain ⟨en,r1,r2,r3,r4⟩:=q3 j hj
    exact ⟨en,r1,r2,r3,r4.mono hL.F hL.fz⟩
  · rcases hf with h | h
    · exact hM.nF i o b ho hl hbb h
    · have:=hM.lt i o b ho hl hbb;have:=(hX b h).1;omega
  · rcases h with h | h
    · exact Nat.lt_of_lt_of_le (hM.Fs b h) hb.size
    · exact (hX b h).2

def othA(c:KL.Cup)(s:Int):AV := .fn 168 [] [.rp [intP c.sk,intP c.ra,intP c.be,intsP c.pts,rowsP c.done] 0,.rp [intP s] 0]
abbrev Oth(c:KL.Cup)(s:Nat):Type:={ x:Nat // (x:Int)<c.sk∧x≠s }

theorem others_fc(c:KL.Cup)(s:Nat){bs:List (Nat × AO)}{base:Nat}:FC Tryz.prog 131 [.p (cupP c),.p (intP (s:Int))] bs base (othA c s) []:=fun M _ _ C w us hus hM n=>by
  cases hus with
  | cons _ _ u us h1 h2 =>
    cases h2 with
    | cons _ _ u2 us2 h3 h4 =>
      cases h4
      cases h1 with
      | p _ _ h1 =>
        cases h3 with
        | p _ _ h3 =>
          cases h3
          obtain ⟨vp,vd,rfl,hp,hd,rp,rd⟩:=cup_of h1
          refine (callsIn_wide.2 (others_any c vp vd s w hp hd)).mono ?_
          rintro e w' ⟨rfl,rfl⟩
          have hb:Below w.heap.size w ((w.alloc (deskBox c vp vd)).alloc (.cells #[.int .i64 s] 3)):=((Below.refl _ w).alloc (Nat.le_refl _) _).alloc (by simp) _
          obtain ⟨hM',hF'⟩:=mem_froz hM hb (fun b=>w.heap.size≤b∧b<w.heap.size+2) (fun b h=>⟨h.1,by have:=h.2;simpa using this⟩)
          have hL:=hM.le hF'
          have hbk:((w.alloc (deskBox c vp vd)).alloc (.cells #[.int .i64 s] 3)).heap[w.heap.size]? = some (deskBox c vp vd):=by
            refine ((World.grownBy_alloc _ _ none).block _ (by simp) (by simp)).trans ?_
            exact heap_alloc_new w _
          have hbs:((w.alloc (deskBox c vp vd)).alloc (.cells #[.int .i64 s] 3)).heap[w.heap.size+1]? = some (.cells #[.int .i64 s] 3 (0,0)):=by
            have:=heap_alloc_new (w.alloc (deskBox c vp vd)) (.cells #[.int .i64 s] 3)
            simpa using this
          obtain ⟨k0,k1,k2,k3,k4⟩:=desk_cells hbk
          have rp':=rp.mono hL.F hL.fz
          have rd':=rd.mono hL.F hL.fz
          refine ⟨_,rfl,_,hF',hM',.fn 168 [] _ #[] _ rfl rfl (fun i hi=>by simp at hi) (fun i hi => ?_)⟩
          have h5:∀ {u:Value} {l:List Int},RepP C.F w (intsP l) u→u.oneCell'=true:=fun h=>by cases h;rfl
          have h6:∀ {u:Value} {l:List (List Int)},RepP C.F w (rowsP l) u→u.oneCell'=true:=fun h=>by cases h;rfl
          have h5:=h5 rp
          have h6:=h6 rd
          match i,hi with
          | 0,_ =>
            refine Rep.rp _ 0 w.heap.size 0 (fun i=>(#[Value.int .i64 c.sk,.int .i64 c.ra,.int .i64 c.be,vp,vd]:Array Value).getD i undef) (fun i hi=>⟨.inr ⟨by omega,by omega⟩,?_⟩) (fun i hi => ?_) (fun i hi => ?_)
            · match i,hi with
              | 0,_=>exact k0
              | 1,_=>exact k1
              | 2,_=>exact k2
              | 3,_=>exact k3
              | 4,_=>exact k4
            · match i,hi with
              | 0,_=>exact .v _
              | 1,_=>exact .v _
              | 2,_=>exact .v _
              | 3,_=>exact rp'
              | 4,_=>exact rd'
            · match i,hi with
              | 0,_=>rfl
              | 1,_=>rfl
              | 2,_=>rfl
              | 3,_=>exact h5
              | 4,_=>exact h6
          | 1,_ =>
            refine Rep.rp _ 0 (w.heap.size+1) 0 (fun i=>(#[Value.int .i64 s]:Array Value).getD i undef) (fun i hi=>⟨.inr ⟨by omega,by omega⟩,?_⟩) (fun i hi => ?_) (fun i hi => ?_)
            · match i,hi with
              | 0,_=>rw [cell_of_row _ _ _ _ _ _ hbs];rfl
            · match i,hi with
              | 0,_=>exact .v _
            · match i,hi with
              | 0,_=>rfl

theorem repVi{F:Nat→Prop}{w:World}{n:Int}{u:Value}(h:RepP F w (intP n) u):u = .int .i64 n:=by unfold intP at h;cases h;rfl
theorem others_itok(c:KL.Cup)(hV:KL.Valid c)(s:Nat):IterOK Tryz.prog (othA c s) (fun x:Oth c s => #[Value.int .i64 x.1,.agg (formM c x.1)]) 168 (oth s c.sk.toNat).length (fun ys=>ys.map (fun x=>x.1)=oth s c.sk.toNat):=fun C M w u hu hFs=>by
  cases hu with
  | fn _ _ _ us vs h1 h2 h3 h4 =>
    obtain rfl:us = #[]:=by simpa using h1
    have q0:=h4 0 (by simp)
    have q1:=h4 1 (by simp)
    simp only [List.getElem_cons_zero,List.getElem_cons_succ] at q0 q1
    obtain ⟨x0,x1,rfl⟩:∃ x0 x1,vs = #[x0,x1]:=by
      have:vs.toList.length=2:=by simpa using h2
      match hv:vs.toList,this with
      | [x0,x1],_=>exact ⟨x0,x1,by rw [← hv]⟩
    simp at q0 q1
    cases q0 with
    | rp _ _ b1 o1 u1 e1 e2 e3 =>
      cases q1 with
      | rp _ _ b2 o2 u2 g1 g2 g3 =>
        refine ⟨_,fun pre=>∃ ys:List Nat,True,rfl,fun l J Jx W hW hJ _ hY h0 => ?_⟩
        have hsame:∀ W',KpG C.F W W'→∀ b,C.F b→W'.heap[b]? = w.heap[b]? := fun W' hk b hb=>(hk.same b hb).trans (hW.block b (hFs b hb))
        have e2':∀ W',KpG C.F W W'→∀ i (h:i<5),RepP C.F W' ([intP c.sk,intP c.ra,intP c.be,intsP c.pts,rowsP c.done][i]'h) (u1 i):=fun W' hk i hi=>(e2 i hi).mono (fun _ h=>h) (hsame W' hk)
        have z0:u1 0 = .int .i64 c.sk:=repVi (e2 0 (by simp))
        have z1:u1 1 = .int .i64 c.ra:=repVi (e2 1 (by simp))
        have z2:u1 2 = .int .i64 c.be:=repVi (e2 2 (by simp))
        have zs:u2 0 = .int .i64 s:=repVi (g2 0 (by simp))
        have:=others_iterG c hV C.F (u1 3) (u1 4) 2 l b1 o1 b2 o2 (by omega) s (fun ys W=>∃ zs:List (Oth c s),zs.map (fun x=>x.1)=ys∧J zs W) (fun ys W=>∃ zs:List (Oth c s),zs.map (fun x=>x.1)=ys∧Jx zs W)
          (fun pre x W1 hx hxs hj hl=>by
            obtain ⟨zs,rfl,hj⟩:=hj
            obtain ⟨fn,tmps,assign,body,hy,hR⟩:=hY zs ⟨x,hx,hxs⟩ W1 hj (by simpa using hl)
            refine ⟨fn,tmps,assign,body,hy,hR.mono ?_⟩
            rintro e w3 (⟨rfl,hJ3,hK3⟩ | ⟨rfl,hx3⟩)
            · exact .inl ⟨rfl,⟨zs++[⟨x,hx,hxs⟩],by rw [List.map_append];rfl,hJ3⟩,hK3⟩
            · exact .inr ⟨rfl,⟨zs++[⟨x,hx,hxs⟩],by rw [List.map_append];rfl,hx3⟩⟩)
          W (fun ys A B row hs hg hr=>by obtain ⟨zs,h1,h2⟩:=hs;exact ⟨zs,h1,hJ _ _ _ _ h2 hg hr⟩) (fun b hb=>Nat.lt_of_lt_of_le (hFs b hb) hW.size)
          (fun W' hk=>⟨_,_,rfl,ints_of (e2' W' hk 3 (by omega)),rows_of (e2' W' hk 4 (by omega))⟩)
          (fun W' hk=>by
            have hc:∀ b o,C.F b→W'.cell? ⟨b,o,none⟩=w.cell? ⟨b,o,none⟩:=fun b o hb=>cell_heap (hsame W' hk b hb) o
            refine ⟨?_,?_,?_,?_,?_,?_⟩
            · rw [hc _ _ (e1 0 (by simp)).1,← z0];exact (e1 0 (by simp)).2
            · rw [hc _ _ (e1 1 (by simp)).1,← z1];exact (e1 1 (by simp)).2
            · rw [hc _ _ (e1 2 (by simp)).1,← z2];exact (e1 2 (by simp)).2
            · rw [hc _ _ (e1 3 (by simp)).1];exact (e1 3 (by simp)).2
            · rw [hc _ _ (e1 4 (by simp)).1];exact (e1 4 (by simp)).2
            · rw [hc _ _ (g1 0 (by simp)).1,← zs];exact (g1 0 (by simp)).2)
          ⟨[],rfl,h0⟩
        refine this.mono ?_
        rintro e W' ⟨h5,h6⟩
        refine ⟨h5,?_⟩
        rcases h6 with ⟨ys,rfl,zs,h7,h8⟩ | ⟨pre,_,zs,h7,h8⟩
        · exact .inl ⟨zs,h7,h8⟩
        · exact .inr ⟨zs,⟨[],trivial⟩,h8⟩
end KV
end Go.Proofs
end
namespace Go.Proofs
namespace KV
section
open KL
noncomputable abbrev zK6c0:Code:=sub (cd Tryz.f57) [1,1,1,1,1,0,1,0,0]
noncomputable abbrev zK6c1:Code:=sub (cd Tryz.f57) [1,1,1,1,1,0,1,0,0,1,0,0,1,0,1,0]
noncomputable abbrev zK6c2:Code:=sub (cd Tryz.f57) [1,1,1,1,1,0,1,0,0,1,0,0,1,0,1,0,1]
theorem enters159(args:Array Value)(w:World):(callFunc 168 args).run Tryz.prog w = .ok (.enter 168 args) w:=enters_of Tryz.func168 (by kernel_rfl) rfl args w
def harmM(c:Cup)(s:Nat)(p:Int):Int:=(oth s c.sk.toNat).foldl (fun n x=>if beatsM c x p s 1 then n else n+1) 0
def full_S0(c:Cup)(s:Nat)(pl:Int)(freen:Nat)(freec:List PV):St:=⟨fr 66 [(3,(.ptr 0 0)),(6,(.ptr 1 0)),(8,(.ptr 3 0)),(9,(.ptr 4 0))],[some (.box 3 [(.p (intP (s:Int)))]),some (.box 129 [(.p (intP c.sk)),(.p (intP c.ra)),(.p (intP c.be)),(.p (intsP c.pts)),(.p (rowsP c.done))]),some (.row 3 freen freec),some (.box 22 [(.own 2)]),some (.box 3 [(.p (intP pl))])]⟩
theorem full_p1{c:Cup}{s:Nat}{pl'0:Int}{free'1:List Int}(h0:KL.Small c)(h1:(lastE c (s:Int))=(0:Int))(h2:0≤c.sk∧c.sk≤c.sk∧c.sk≤1000000)(h3:0≤(s:Int)∧(s:Int)<((c.sk.toNat:Nat):Int))(h4:(s*1)<(List.replicate c.sk.toNat (intP 0)).length)(hl5:LoopOK Tryz.prog 0 zK6c0 (full_S0 c s (2:Int) c.sk.toNat ((List.replicate c.sk.toNat (intP 0)).set (s*1) (intP 1))) (.exit 0) (full_S0 c s pl'0 free'1.length (free'1.map intP))){base:Nat}:FV Tryz.prog 57 [(.p (cupP c)),(.p (intP (s:Int)))] base (.tup [(.p (intsP free'1)),(.p (intP 0))]) []:=by
  exact FV.frz (FMM.fin (k:=0) (g:=⟨[],[],[2],[]⟩) rfl Tryz.func57 rfl (o:=[.c (.tup [(.p (cupP c)),(.p (intP (lastE c (s:Int))))]) [],bF,.k 8 ⟨(rng [(0,3),(4,2),(7,1),(10,55)]),[1,2,3,4,5],[],[]⟩ (.exit 0) (full_S0 c s pl'0 free'1.length (free'1.map intP))]) (l:=[_,_,_,_,_,_]) (by kernel_rfl) (gc hl5.code (gc h4 (gc h3 (gc h2 (gc (q_neF h1) (gc (fk 2 (last_ok c h0 (s:Int)) rfl) gn))))))) (by kernel_rfl)
theorem full_p2{c:Cup}{s:Nat}{pl'0:Int}{free'1:List Int}(h0:KL.Small c)(h1:(lastE c (s:Int))=(0:Int))(h2:0≤c.sk∧c.sk≤c.sk∧c.sk≤1000000)(h3:0≤(s:Int)∧(s:Int)<((c.sk.toNat:Nat):Int))(h4:(s*1)<(List.replicate c.sk.toNat (intP 0)).length)(hl5:LoopOK Tryz.prog 0 zK6c0 (full_S0 c s (2:Int) c.sk.toNat ((List.replicate c.sk.toNat (intP 0)).set (s*1) (intP 1))) .ret (setS (full_S0 c s pl'0 free'1.length (free'1.map intP)) [(4,(.p nilS)),(5,(.p (intP 6)))])){base:Nat}:FV Tryz.prog 57 [(.p (cupP c)),(.p (intP (s:Int)))] base (.tup [(.p nilS),(.p (intP 6))]) []:=by
  exact FV.frz (FMM.fin (k:=0) (g:=⟨[],[],[],[]⟩) rfl Tryz.func57 rfl (o:=[.c (.tup [(.p (cupP c)),(.p (intP (lastE c (s:Int))))]) [],bF,.k 8 ⟨(rng [(0,3),(4,2),(7,1),(10,55)]),[1,2,3,4,5],[],[]⟩ .ret (setS (full_S0 c s pl'0 free'1.length (free'1.map intP)) [(4,(.p nilS)),(5,(.p (intP 6)))])]) (l:=[_,_,_,_,_,_]) (by kernel_rfl) (gc hl5.code (gc h4 (gc h3 (gc h2 (gc (q_neF h1) (gc (fk 2 (last_ok c h0 (s:Int)) rfl) gn))))))) (by kernel_rfl)
def full_S1(c:Cup)(s:Nat)(pl:Int)(free:List Int)(fo:Int):St:=⟨fr 66 [(3,(.ptr 0 0)),(6,(.ptr 1 0)),(8,(.ptr 3 0)),(9,(.ptr 4 0)),(10,(.ptr 5 0)),(28,(.p (intP pl))),(29,(.ptr 1 0)),(30,(.ptr 1 0)),(31,(.p (intP c.sk))),(32,(.p (blP (decide (pl≤c.sk))))),(35,(.p (cupP c))),(36,(.p (intP (s:Int)))),(37,(.fn 168 [] [(.rp [(intP c.sk),(intP c.ra),(intP c.be),(intsP c.pts),(rowsP c.done)] 0),(.rp [(intP (s:Int))] 0)]))],[some (.box 3 [(.p (intP (s:Int)))]),some (.box 129 [(.p (intP c.sk)),(.p (intP c.ra)),(.p (intP c.be)),(.p (intsP c.pts)),(.p (rowsP c.done))]),some (.row 3 free.length (free.map intP)),some (.box 22 [(.own 2)]),some (.box 3 [(.p (intP pl))]),some (.box 3 [(.p (intP fo))])]⟩
theorem full_L0_p0{c:Cup}{s:Nat}{pl:Int}{free:List Int}{fo'100:Int}(h0:pl≤c.sk)(hl1:CodeOK Tryz.prog 0 zK6c1 (full_S1 c s pl free (-1:Int)) .normal (full_S1 c s pl free fo'100))(h2:fo'100<(0:Int)):CodeOK Tryz.prog 0 zK6c0 (full_S0 c s pl free.length (free.map intP)) .ret (setS (full_S0 c s pl free.length (free.map intP)) [(4,(.p nilS)),(5,(.p (intP 6)))]):=by
  exact CodeOK.fin (g:=⟨(rng [(0,3),(7,1),(10,55)]),[0,1,2,3,4],[],[]⟩) (o:=[bT,.c (.fn 168 [] [(.rp [(intP c.sk),(intP c.ra),(intP c.be),(intsP c.pts),(rowsP c.done)] 0),(.rp [(intP (s:Int))] 0)]) [],.k 1 ⟨(rng [(0,3),(7,1),(11,17),(38,20)]),[0,1,2,3,4,5],[],[]⟩ .normal (full_S1 c s pl free fo'100),bT]) (l:=[_,CodeOK Tryz.prog 0 zK6c1 (full_S1 c s pl free (-1:Int)) .normal (full_S1 c s pl free fo'100),FC Tryz.prog 131 [(.p (cupP c)),(.p (intP (s:Int)))] [] 6 (.fn 168 [] [(.rp [(intP c.sk),(intP c.ra),(intP c.be),(intsP c.pts),(rowsP c.done)] 0),(.rp [(intP (s:Int))] 0)]) [],_]) (by kernel_rfl) (gc (q_lt h2) (gc hl1 (gc (others_fc c s) (gc (q_le h0) gn))))
theorem full_L0_p1{c:Cup}{s:Nat}{pl:Int}{free:List Int}{fo'100 x101 pl':Int}{free':List Int}(h0:pl≤c.sk)(hl1:CodeOK Tryz.prog 0 zK6c1 (full_S1 c s pl free (-1:Int)) .normal (full_S1 c s pl free fo'100))(h2:(0:Int)≤fo'100)(h3:free[fo'100.toNat]? = some x101)(h4:0≤fo'100)(h5:(fo'100.toNat*1)<(free.map intP).length)(h6:inR (pl+(1:Int)))(epl':pl'=(pl+(1:Int)))(efree'n:free'.length=free.length)(efree'c:free'.map intP=((free.map intP).set (fo'100.toNat*1) (intP pl))):CodeOK Tryz.prog 0 zK6c0 (full_S0 c s pl free.length (free.map intP)) .normal (full_S0 c s pl' free'.length (free'.map intP)):=by
  subst epl'
  have raw:CodeOK Tryz.prog 0 zK6c0 (full_S0 c s pl free.length (free.map intP)) .normal (full_S0 c s (pl+(1:Int)) free.length ((free.map intP).set (fo'100.toNat*1) (intP pl))):=CodeOK.fin (g:=⟨(rng [(0,3),(4,2),(7,1),(10,55)]),[0,1,2,3,6],[],[]⟩) (o:=[bT,.c (.fn 168 [] [(.rp [(intP c.sk),(intP c.ra),(intP c.be),(intsP c.pts),(rowsP c.done)] 0),(.rp [(intP (s:Int))] 0)]) [],.k 1 ⟨(rng [(0,3),(7,1),(11,17),(38,20)]),[0,1,2,3,4,5],[],[]⟩ .normal (full_S1 c s pl free fo'100),bF]) (l:=[_,_,_,_,CodeOK Tryz.prog 0 zK6c1 (full_S1 c s pl free (-1:Int)) .normal (full_S1 c s pl free fo'100),FC Tryz.prog 131 [(.p (cupP c)),(.p (intP (s:Int)))] [] 6 (.fn 168 [] [(.rp [(intP c.sk),(intP c.ra),(intP c.be),(intsP c.pts),(rowsP c.done)] 0),(.rp [(intP (s:Int))] 0)]) [],_]) (by kernel_rfl) (gc h6 (gc h5 (gc (ix_own (i:=fo'100) h4 h3) (gc (q_ltF h2) (gc hl1 (gc (others_fc c s) (gc (q_le h0) gn)))))))
  exact raw.cast (by rw [efree'n,efree'c])
theorem full_L0_p2{c:Cup}{s:Nat}{pl:Int}{free:List Int}(h0:c.sk<pl):CodeOK Tryz.prog 0 zK6c0 (full_S0 c s pl free.length (free.map intP)) (.exit 0) (full_S0 c s pl free.length (free.map intP)):=by
  exact CodeOK.fin (g:=⟨(rng [(0,3),(4,2),(7,1),(10,55)]),[0,1,2,3,4],[],[]⟩) (o:=[bF]) (l:=[_]) (by kernel_rfl) (gc (q_leF h0) gn)
theorem full_L1_p0{c:Cup}{s:Nat}{pl:Int}{free:List Int}{fo:Int}{x:Nat}{x200 fo':Int}(h0:fo<(0:Int))(h1:free[x]? = some x200)(h2:x200=(0:Int))(h3:beatsOK c x pl s (1:Int))(h4:(beatsM c x pl s (1:Int))=false)(efo':fo'=(x:Int)):CodeOK Tryz.prog 6 zK6c2 (rfS (full_S1 c s pl free fo) 38 39 11 (intP (x:Int))) .normal (full_S1 c s pl free fo'):=by
  subst efo'
  exact CodeOK.fin (g:=⟨(rng [(0,3),(7,1),(11,17),(38,20)]),[],[],[]⟩) (o:=[bT,bT,bT,bT,.x (intP x200),bT,bT,bT,bT,bT,bT,bT,.c (.p (blP (beatsM c x pl s (1:Int)))) [],bT,bT,bT]) (l:=[_,_,_,_,_,_,_,_,_,_,_,_,_,_,_,_,_]) (by kernel_rfl) (gc (q_not h4) (gc (q_eq h2) (gc (q_eq h2) (gc (fk 6 (beats_ok c x pl s (1:Int) h3) rfl) (gc (q_eq h2) (gc (q_eq h2) (gc (q_eq h2) (gc (q_eq h2) (gc (q_eq h2) (gc (q_lt h0) (gc (q_lt h0) (gc (atm intP h1) (gc (q_lt h0) (gc (ix_own (i:=(x:Int)) (Int.natCast_nonneg _) h1) (gc (q_lt h0) (gc (q_lt h0) (gc (q_lt h0) gn)))))))))))))))))
theorem full_L1_p1{c:Cup}{s:Nat}{pl:Int}{free:List Int}{fo:Int}{x:Nat}{x200:Int}(h0:fo<(0:Int))(h1:free[x]? = some x200)(h2:x200=(0:Int))(h3:beatsOK c x pl s (1:Int))(h4:(beatsM c x pl s (1:Int))=true):CodeOK Tryz.prog 6 zK6c2 (rfS (full_S1 c s pl free fo) 38 39 11 (intP (x:Int))) .normal (full_S1 c s pl free fo):=by
  exact CodeOK.fin (g:=⟨(rng [(0,3),(7,1),(11,17),(38,20)]),[],[],[]⟩) (o:=[bT,bT,bT,bT,.x (intP x200),bT,bT,bT,bT,bT,bT,bT,.c (.p (blP (beatsM c x pl s (1:Int)))) [],bT,bT,bF]) (l:=[_,_,_,_,_,_,_,_,_,_,_,_,_,_,_,_,_]) (by kernel_rfl) (gc (q_notF h4) (gc (q_eq h2) (gc (q_eq h2) (gc (fk 6 (beats_ok c x pl s (1:Int) h3) rfl) (gc (q_eq h2) (gc (q_eq h2) (gc (q_eq h2) (gc (q_eq h2) (gc (q_eq h2) (gc (q_lt h0) (gc (q_lt h0) (gc (atm intP h1) (gc (q_lt h0) (gc (ix_own (i:=(x:Int)) (Int.natCast_nonneg _) h1) (gc (q_lt h0) (gc (q_lt h0) (gc (q_lt h0) gn)))))))))))))))))
theorem full_L1_p2{c:Cup}{s:Nat}{pl:Int}{free:List Int}{fo:Int}{x:Nat}{x200:Int}(h0:fo<(0:Int))(h1:free[x]? = some x200)(h2:x200≠(0:Int)):CodeOK Tryz.prog 6 zK6c2 (rfS (full_S1 c s pl free fo) 38 39 11 (intP (x:Int))) .normal (full_S1 c s pl free fo):=by
  exact CodeOK.fin (g:=⟨(rng [(0,3),(7,1),(11,17),(38,20)]),[],[],[]⟩) (o:=[bT,bT,bT,bT,.x (intP x200),bT,bT,bF,bF,bF,bF,bF,bF,bF]) (l:=[_,_,_,_,_,_,_,_,_,_,_,_,_,_,_]) (by kernel_rfl) (gc (q_ne h2) (gc (q_ne h2) (gc (q_ne h2) (gc (q_ne h2) (gc (q_ne h2) (gc (q_ne h2) (gc (q_ne h2) (gc (q_lt h0) (gc (q_lt h0) (gc (atm intP h1) (gc (q_lt h0) (gc (ix_own (i:=(x:Int)) (Int.natCast_nonneg _) h1) (gc (q_lt h0) (gc (q_lt h0) (gc (q_lt h0) gn)))))))))))))))
theorem full_L1_p3{c:Cup}{s:Nat}{pl:Int}{free:List Int}{fo:Int}{x:Nat}(h0:(0:Int)≤fo):CodeOK Tryz.prog 6 zK6c2 (rfS (full_S1 c s pl free fo) 38 39 11 (intP (x:Int))) .normal (full_S1 c s pl free fo):=by
  exact CodeOK.fin (g:=⟨(rng [(0,3),(7,1),(11,17),(38,20)]),[],[],[]⟩) (o:=[bF,bF,bF,bF,bF,bF]) (l:=[_,_,_,_,_,_]) (by kernel_rfl) (gc (q_ltF h0) (gc (q_ltF h0) (gc (q_ltF h0) (gc (q_ltF h0) (gc (q_ltF h0) (gc (q_ltF h0) gn))))))
def findF(c:Cup)(s:Nat)(pl:Int)(free:List Int)(fo:Int)(x:Nat):Int:=if fo<0 then (if free.getD x 0=0 then (if beatsM c x pl s 1 then fo else (x:Int)) else fo) else fo
def findM(c:Cup)(s:Nat)(pl:Int)(free:List Int):Int:=(oth s c.sk.toNat).foldl (findF c s pl free) (-1)
theorem findF_bd{c:Cup}{s:Nat}{pl:Int}{free:List Int}{m:Int}:∀ (l:List Nat) (fo:Int),(∀ x∈l,(x:Int)<m)→(fo = -1∨0≤fo∧fo<m)→(l.foldl (findF c s pl free) fo = -1∨0≤l.foldl (findF c s pl free) fo∧l.foldl (findF c s pl free) fo<m)
  | [],_,_,h=>h
  | x::l,fo,hx,h=>by
    rw [List.foldl_cons]
    refine findF_bd l _ (fun y hy=>hx y (List.mem_cons_of_mem _ hy)) ?_
    have:=hx x (List.mem_cons_self ..)
    unfold findF
    repeat' split
    all_goals omega
theorem findM_bd(c:Cup)(s:Nat)(pl:Int)(free:List Int):findM c s pl free = -1∨0≤findM c s pl free∧findM c s pl free<c.sk:=findF_bd _ _ (fun x hx=>by have:=(oth_mem hx).1;omega) (.inl rfl)
def fullR(c:Cup)(s:Nat):Nat→Int→List Int→Option (List Int)
  | 0,_,free=>some free
  | n+1,pl,free=>if findM c s pl free<0 then none else fullR c s n (pl+1) (free.set (findM c s pl free).toNat pl)
def fullM(c:Cup)(s:Nat):Option (List Int):=fullR c s (c.sk.toNat-1) 2 ((List.replicate c.sk.toNat 0).set s 1)
theorem full_find(c:Cup)(s:Nat)(pl:Int)(free:List Int)(hV:KL.Valid c)(hl:free.length=c.sk.toNat)(h:∀ x:Nat,(x:Int)<c.sk→x≠s→beatsOK c x pl s 1) :
    CodeOK Tryz.prog 0 zK6c1 (full_S1 c s pl free (-1)) .normal (full_S1 c s pl free (findM c s pl free)):=by
  refine CodeOK.rangeAcc (P:=Tryz.prog) (kb:=6) (gi:=37) (gf:=168) (p1:=38) (p2:=39) (d:=11) (body:=sub (cd Tryz.f57) [1,1,1,1,1,0,1,0,0,1,0,0,1,0,1,0,1]) (g:=othA c s) (xs:=oth s c.sk.toNat) (fun x:Oth c s=>x.1) (full_S1 c s pl free) (full_S1 c s pl free 0).t
    (fun x => .int .i64 x.1) (fun x => .agg (formM c x.1)) (fun fo x=>findF c s pl free fo x.1) (-1) (fun _ _=>True) (fun ys=>ys.foldl (findF c s pl free) (-1))
    rfl (fun _=>rfl) rfl (others_itok c hV s) enters159 (fun acc i es cl h => ?_) (fun _=>Nat.le_refl _) (by kernel_rfl) (fun _=>rfl) trivial (fun _ _ _ _ _=>trivial) (fun i fo x hi hI => ?_) (fun ys=>by rw [List.foldl_map])
  · match i,h with
    | 0,h=>cases h
    | 1,h=>cases h
    | 2,h=>cases h
    | 3,h=>cases h
    | 4,h=>cases h
    | 5,h=>cases h
  · have hb:=h x.1 x.2.1 x.2.2
    have hx:=x.2.1
    have hg:free[x.1]? = some (free.getD x.1 0):=by
      rw [List.getElem?_eq_getElem (by omega),List.getD_eq_getElem?_getD,List.getElem?_eq_getElem (by omega)];rfl
    unfold findF
    by_cases h1:fo<0
    · rw [if_pos h1]
      by_cases h2:free.getD x.1 0=0
      · rw [if_pos h2]
        cases hm:beatsM c x.1 pl s 1 with
        | true=>exact full_L1_p1 h1 hg h2 hb hm
        | false=>exact full_L1_p0 h1 hg h2 hb hm rfl
      · rw [if_neg h2];exact full_L1_p2 h1 hg h2
    · rw [if_neg h1];exact full_L1_p3 (by omega)
theorem full_loop(c:Cup)(s:Nat)(hV:KL.Valid c)(hd:(c.done.length:Int)<c.ra)(hs:(s:Int)<c.sk):∀ (n:Nat) (pl:Int) (free:List Int),2≤pl→pl+n=c.sk+1→free.length=c.sk.toNat →
    (∃ f,fullR c s n pl free=some f∧LoopOK Tryz.prog 0 zK6c0 (full_S0 c s pl free.length (free.map intP)) (.exit 0) (full_S0 c s (c.sk+1) f.length (f.map intP))) ∨
    (fullR c s n pl free=none∧∃ (pl':Int) (f:List Int),LoopOK Tryz.prog 0 zK6c0 (full_S0 c s pl free.length (free.map intP)) .ret (setS (full_S0 c s pl' f.length (f.map intP)) [(4,.p nilS),(5,.p (intP 6))]))
  | 0,pl,free,h1,h2,h3=>by
    refine .inl ⟨free,rfl,?_⟩
    obtain rfl:pl=c.sk+1:=by omega
    exact .exit (full_L0_p2 (by omega)) (by simp)
  | n+1,pl,free,h1,h2,h3=>by
    have hq1:=hV.sk1
    have hq2:=hV.sk2
    have hf:=full_find c s pl free hV h3 (fun x hx hxs=>⟨hV,hd,hx,hs,by omega,by omega,by omega⟩)
    unfold fullR
    by_cases hn:findM c s pl free<0
    · rw [if_pos hn]
      exact .inr ⟨rfl,pl,free,.exit (full_L0_p0 (by omega) hf hn) (by simp)⟩
    · rw [if_neg hn]
      have hb:=findM_bd c s pl free
      have hi:(findM c s pl free).toNat<free.length:=by omega
      have st:=full_L0_p1 (free':=free.set (findM c s pl free).toNat pl) (by omega) hf (by omega) (List.getElem?_eq_getElem hi) (by omega) (by rw [Nat.mul_one,List.length_map];exact hi) (by unfold inR;omega) rfl (by simp) (by simp [List.map_set])
      rcases full_loop c s hV hd hs n (pl+1) (free.set (findM c s pl free).toNat pl) (by omega) (by omega) (by simpa using h3) with ⟨f,e,h⟩ | ⟨e,pl',f,h⟩
      · exact .inl ⟨f,e,.step st h⟩
      · exact .inr ⟨e,pl',f,.step st h⟩
theorem full_ok(c:Cup)(s:Nat)(h:lastE c (s:Int)=0){base:Nat}:FV Tryz.prog 57 [.p (cupP c),.p (intP (s:Int))] base (match fullM c s with | some f => .tup [.p (intsP f),.p (intP 0)] | none => .tup [.p nilS,.p (intP 6)]) []:=by
  obtain ⟨hV,hs0,hs,hra⟩:=lastE_zero h
  have h1:=hV.sk1
  have h2:=hV.sk2
  have hset:((List.replicate c.sk.toNat (intP 0)).set (s*1) (intP 1))=(((List.replicate c.sk.toNat 0).set s 1).map intP):=by simp [List.map_set]
  have hle:c.sk.toNat=((List.replicate c.sk.toNat (0:Int)).set s 1).length:=by simp
  have hss:(s*1)<(List.replicate c.sk.toNat (intP 0)).length:=by simp;omega
  unfold fullM
  rcases full_loop c s hV (by omega) hs (c.sk.toNat-1) 2 ((List.replicate c.sk.toNat 0).set s 1) (by omega) (by omega) (by simp) with ⟨f,e,hL⟩ | ⟨e,pl',f,hL⟩
  · rw [e]
    rw [← hset,← hle] at hL
    exact full_p1 hV.small h (by omega) (by omega) hss hL
  · rw [e]
    rw [← hset,← hle] at hL
    exact full_p2 hV.small h (by omega) (by omega) hss hL
def blkM(c:Cup)(s:Nat)(p:Int):Bool:=decide (harmM c s p<p-1)
end
section
open KL
theorem named_in{c:Cup}{k:Int}(hV:KL.Valid c)(h1:0≤k)(h2:k<c.sk):namedE c k=0:=by
  unfold namedE
  rw [if_neg (by simpa using (KL.valid_iff c).2 hV),within_iff.2 ⟨h1,by omega⟩]
  simp
def scoreL(c:Cup)(race:List Int):List Int:=(List.range c.sk.toNat).map fun s=>scoreM c.pts race s
end
section
open KL
noncomputable abbrev zL0c0:Code:=sub (cd Tryz.f37) [1,1,0,1,0,0]
noncomputable abbrev zL0c1:Code:=sub (cd Tryz.f37) [1,1,1,0,1,0,0]
theorem zL0q0:(65519:Int)≠0:=by first | decide | simp
abbrev byteP(n:Int):PV := .v (.int .u8 n)
theorem draw_p0{l:List Int}{nx st n:Int}(h0:n≤(1:Int)):FMM Tryz.prog 29 [(.ptr 0 0),(.p (intP n))] [some (.box 141 [(.p (.sl l.length (l.map byteP))),(.p (intP nx)),(.p (.v (.int .u32 st)))])] (.p (intP 0)) [some (.box 141 [(.p (.sl l.length (l.map byteP))),(.p (intP nx)),(.p (.v (.int .u32 st)))])]:=by
  exact FMM.fin (k:=1) (g:=⟨[],[],[],[]⟩) rfl Tryz.func29 rfl (o:=[bT,bT,bT,bT,bT,bT,bT]) (l:=[_,_,_,_,_,_,_]) (by kernel_rfl) (gc (q_le h0) (gc (q_le h0) (gc (q_le h0) (gc (q_le h0) (gc (q_le h0) (gc (q_le h0) (gc (q_le h0) gn)))))))
theorem draw_p1{l:List Int}{nx st n:Int}(h0:(1:Int)<n)(h1:(l.length:Int)=(0:Int)):FMM Tryz.prog 29 [(.ptr 0 0),(.p (intP n))] [some (.box 141 [(.p (.sl l.length (l.map byteP))),(.p (intP nx)),(.p (.v (.int .u32 st)))])] (.p (intP 0)) [some (.box 141 [(.p (.sl l.length (l.map byteP))),(.p (intP nx)),(.p (.v (.int .u32 st)))])]:=by
  exact FMM.fin (k:=1) (g:=⟨[],[],[],[]⟩) rfl Tryz.func29 rfl (o:=[bF,bF,bF,bF,bF,bF,bF,bT]) (l:=[_,_,_,_,_,_,_,_]) (by kernel_rfl) (gc (q_eq h1) (gc (q_leF h0) (gc (q_leF h0) (gc (q_leF h0) (gc (q_leF h0) (gc (q_leF h0) (gc (q_leF h0) (gc (q_leF h0) gn))))))))
theorem draw_p2{l:List Int}{nx st n x0 r0 r1 r2:Int}(h0:(1:Int)<n)(h1:(l.length:Int)≠(0:Int))(h2:(l.length:Int)≠0)(h3:l[(nx.tmod (l.length:Int)).toNat]? = some x0)(h4:0≤(nx.tmod (l.length:Int)))(h5:inR (nx.tdiv (l.length:Int)))(h6:inR (nx+(1:Int)))(h7:(IntKind.wrap .u32 (nx.tdiv (l.length:Int)))=(0:Int))(h8:n≤(256:Int))(h9:inR (IntKind.wrap .u32 x0))(h10:n≠0)(er0:r0=((IntKind.wrap .u32 x0).tmod n))(er1:r1=(nx+(1:Int)))(er2:r2=((IntKind.wrap .u32 ((IntKind.wrap .u32 ((IntKind.wrap .u32 ((IntKind.wrap .u32 (st*(45:Int)))+(IntKind.wrap .u32 x0)))+(IntKind.wrap .u32 ((77:Int)*(IntKind.wrap .u32 (nx.tdiv (l.length:Int)))))))+(1:Int))).tmod (65519:Int))):FMM Tryz.prog 29 [(.ptr 0 0),(.p (intP n))] [some (.box 141 [(.p (.sl l.length (l.map byteP))),(.p (intP nx)),(.p (.v (.int .u32 st)))])] (.p (intP r0)) [some (.box 141 [(.p (.sl l.length (l.map byteP))),(.p (intP r1)),(.p (.v (.int .u32 r2)))])]:=by
  subst er0 er1 er2
  exact FMM.fin (k:=1) (g:=⟨[],[],[],[]⟩) rfl Tryz.func29 rfl (o:=[bF,bF,bF,bF,bF,bF,bF,bF,.x (.v (.int .u8 x0)),bT,bT,bT,bT]) (l:=[_,_,_,_,_,_,_,_,_,_,(l.map byteP)[((nx.tmod (l.length:Int)).toNat*1)]? = some (.v (.int .u8 x0)),_,_,_,_,_,_,_,_,_,_]) (by kernel_rfl) (gc h10 (gc h9 (gc (q_le h8) (gc (q_eq h7) (gc (q_eq h7) (gc (q_eq h7) (gc zL0q0 (gc h6 (gc h5 (gc h2 (gc (at_map (i:=(nx.tmod (l.length:Int)).toNat) h3) (gc (ix_map (g:=byteP) h4 h3) (gc h2 (gc (q_ne h1) (gc (q_leF h0) (gc (q_leF h0) (gc (q_leF h0) (gc (q_leF h0) (gc (q_leF h0) (gc (q_leF h0) (gc (q_leF h0) gn)))))))))))))))))))))
theorem draw_p3{l:List Int}{nx st n x0 r0 r1 r2:Int}(h0:(1:Int)<n)(h1:(l.length:Int)≠(0:Int))(h2:(l.length:Int)≠0)(h3:l[(nx.tmod (l.length:Int)).toNat]? = some x0)(h4:0≤(nx.tmod (l.length:Int)))(h5:inR (nx.tdiv (l.length:Int)))(h6:inR (nx+(1:Int)))(h7:(IntKind.wrap .u32 (nx.tdiv (l.length:Int)))=(0:Int))(h8:(256:Int)<n)(h9:inR (IntKind.wrap .u32 ((IntKind.wrap .u32 (((IntKind.wrap .u32 ((IntKind.wrap .u32 ((IntKind.wrap .u32 ((IntKind.wrap .u32 (st*(45:Int)))+(IntKind.wrap .u32 x0)))+(IntKind.wrap .u32 ((77:Int)*(IntKind.wrap .u32 (nx.tdiv (l.length:Int)))))))+(1:Int))).tmod (65519:Int))*(256:Int)))+(IntKind.wrap .u32 x0))))(h10:n≠0)(er0:r0=((IntKind.wrap .u32 ((IntKind.wrap .u32 (((IntKind.wrap .u32 ((IntKind.wrap .u32 ((IntKind.wrap .u32 ((IntKind.wrap .u32 (st*(45:Int)))+(IntKind.wrap .u32 x0)))+(IntKind.wrap .u32 ((77:Int)*(IntKind.wrap .u32 (nx.tdiv (l.length:Int)))))))+(1:Int))).tmod (65519:Int))*(256:Int)))+(IntKind.wrap .u32 x0))).tmod n))(er1:r1=(nx+(1:Int)))(er2:r2=((IntKind.wrap .u32 ((IntKind.wrap .u32 ((IntKind.wrap .u32 ((IntKind.wrap .u32 (st*(45:Int)))+(IntKind.wrap .u32 x0)))+(IntKind.wrap .u32 ((77:Int)*(IntKind.wrap .u32 (nx.tdiv (l.length:Int)))))))+(1:Int))).tmod (65519:Int))):FMM Tryz.prog 29 [(.ptr 0 0),(.p (intP n))] [some (.box 141 [(.p (.sl l.length (l.map byteP))),(.p (intP nx)),(.p (.v (.int .u32 st)))])] (.p (intP r0)) [some (.box 141 [(.p (.sl l.length (l.map byteP))),(.p (intP r1)),(.p (.v (.int .u32 r2)))])]:=by
  subst er0 er1 er2
  exact FMM.fin (k:=1) (g:=⟨[],[],[],[]⟩) rfl Tryz.func29 rfl (o:=[bF,bF,bF,bF,bF,bF,bF,bF,.x (.v (.int .u8 x0)),bT,bT,bT,bF]) (l:=[_,_,_,_,_,_,_,_,_,_,(l.map byteP)[((nx.tmod (l.length:Int)).toNat*1)]? = some (.v (.int .u8 x0)),_,_,_,_,_,_,_,_,_,_]) (by kernel_rfl) (gc h10 (gc h9 (gc (q_leF h8) (gc (q_eq h7) (gc (q_eq h7) (gc (q_eq h7) (gc zL0q0 (gc h6 (gc h5 (gc h2 (gc (at_map (i:=(nx.tmod (l.length:Int)).toNat) h3) (gc (ix_map (g:=byteP) h4 h3) (gc h2 (gc (q_ne h1) (gc (q_leF h0) (gc (q_leF h0) (gc (q_leF h0) (gc (q_leF h0) (gc (q_leF h0) (gc (q_leF h0) (gc (q_leF h0) gn)))))))))))))))))))))
theorem draw_p4{l:List Int}{nx st n x0 r0 r1 r2:Int}(h0:(1:Int)<n)(h1:(l.length:Int)≠(0:Int))(h2:(l.length:Int)≠0)(h3:l[(nx.tmod (l.length:Int)).toNat]? = some x0)(h4:0≤(nx.tmod (l.length:Int)))(h5:inR (nx.tdiv (l.length:Int)))(h6:inR (nx+(1:Int)))(h7:(IntKind.wrap .u32 (nx.tdiv (l.length:Int)))≠(0:Int))(h8:inR (IntKind.wrap .u32 ((IntKind.wrap .u32 (((IntKind.wrap .u32 ((IntKind.wrap .u32 ((IntKind.wrap .u32 ((IntKind.wrap .u32 (st*(45:Int)))+(IntKind.wrap .u32 x0)))+(IntKind.wrap .u32 ((77:Int)*(IntKind.wrap .u32 (nx.tdiv (l.length:Int)))))))+(1:Int))).tmod (65519:Int))*(256:Int)))+(IntKind.wrap .u32 x0))))(h9:n≠0)(er0:r0=((IntKind.wrap .u32 ((IntKind.wrap .u32 (((IntKind.wrap .u32 ((IntKind.wrap .u32 ((IntKind.wrap .u32 ((IntKind.wrap .u32 (st*(45:Int)))+(IntKind.wrap .u32 x0)))+(IntKind.wrap .u32 ((77:Int)*(IntKind.wrap .u32 (nx.tdiv (l.length:Int)))))))+(1:Int))).tmod (65519:Int))*(256:Int)))+(IntKind.wrap .u32 x0))).tmod n))(er1:r1=(nx+(1:Int)))(er2:r2=((IntKind.wrap .u32 ((IntKind.wrap .u32 ((IntKind.wrap .u32 ((IntKind.wrap .u32 (st*(45:Int)))+(IntKind.wrap .u32 x0)))+(IntKind.wrap .u32 ((77:Int)*(IntKind.wrap .u32 (nx.tdiv (l.length:Int)))))))+(1:Int))).tmod (65519:Int))):FMM Tryz.prog 29 [(.ptr 0 0),(.p (intP n))] [some (.box 141 [(.p (.sl l.length (l.map byteP))),(.p (intP nx)),(.p (.v (.int .u32 st)))])] (.p (intP r0)) [some (.box 141 [(.p (.sl l.length (l.map byteP))),(.p (intP r1)),(.p (.v (.int .u32 r2)))])]:=by
  subst er0 er1 er2
  exact FMM.fin (k:=1) (g:=⟨[],[],[],[]⟩) rfl Tryz.func29 rfl (o:=[bF,bF,bF,bF,bF,bF,bF,bF,.x (.v (.int .u8 x0)),bF,bF,bF]) (l:=[_,_,_,_,_,_,_,_,_,(l.map byteP)[((nx.tmod (l.length:Int)).toNat*1)]? = some (.v (.int .u8 x0)),_,_,_,_,_,_,_,_,_,_]) (by kernel_rfl) (gc h9 (gc h8 (gc (q_ne h7) (gc (q_ne h7) (gc (q_ne h7) (gc zL0q0 (gc h6 (gc h5 (gc h2 (gc (at_map (i:=(nx.tmod (l.length:Int)).toNat) h3) (gc (ix_map (g:=byteP) h4 h3) (gc h2 (gc (q_ne h1) (gc (q_leF h0) (gc (q_leF h0) (gc (q_leF h0) (gc (q_leF h0) (gc (q_leF h0) (gc (q_leF h0) (gc (q_leF h0) gn))))))))))))))))))))
def u32w(z:Int):Int:=IntKind.wrap .u32 z
theorem u32w_bd(z:Int):0≤u32w z∧u32w z<4294967296:=by
  unfold u32w IntKind.wrap
  simp only [IntKind.bits,IntKind.signed,Bool.false_and,Bool.false_eq_true,if_false]
  omega
def drawB(l:List Int)(nx:Int):Int:=u32w (l.getD (nx.tmod (l.length:Int)).toNat 0)
def drawS(l:List Int)(nx st:Int):Int:=(u32w (u32w (u32w (u32w (st*45)+drawB l nx)+u32w (77*u32w (nx.tdiv (l.length:Int))))+1)).tmod 65519
def drawM(n:Int)(l:List Int)(nx st:Int):Int × Int × Int:=if n≤1∨l.length=0 then (0,nx,st) else
  (if u32w (nx.tdiv (l.length:Int))=0∧n≤256 then (drawB l nx).tmod n else (u32w (u32w (drawS l nx st*256)+drawB l nx)).tmod n,nx+1,drawS l nx st)
theorem drawM_bd(n:Int)(l:List Int)(nx st:Int):0≤(drawM n l nx st).1∧((drawM n l nx st).1<n∨(drawM n l nx st).1=0)∧nx≤(drawM n l nx st).2.1∧(drawM n l nx st).2.1≤nx+1:=by
  unfold drawM
  split
  · simp;omega
  · rename_i h
    simp only [not_or] at h
    have h1:∀ z:Int,0≤z→0≤z.tmod n∧z.tmod n<n:=fun z hz=>⟨Int.tmod_nonneg n hz,Int.tmod_lt_of_pos z (by omega)⟩
    have h2:=(u32w_bd (l.getD (nx.tmod (l.length:Int)).toNat 0)).1
    have h3:=(u32w_bd (u32w (drawS l nx st*256)+drawB l nx)).1
    dsimp only
    split
    · have:=h1 _ h2;unfold drawB;omega
    · have:=h1 _ h3;omega
abbrev deckO(l:List Int)(nx st:Int):AO := .box 141 [.p (.sl l.length (l.map byteP)),.p (intP nx),.p (.v (.int .u32 st))]
theorem draw_ok(n:Int)(l:List Int)(nx st:Int)(h:0≤nx∧nx≤1000000000):FMM Tryz.prog 29 [.ptr 0 0,.p (intP n)] [some (deckO l nx st)] (.p (intP (drawM n l nx st).1)) [some (deckO l (drawM n l nx st).2.1 (drawM n l nx st).2.2)]:=by
  by_cases h1:n≤1
  · have e:drawM n l nx st=(0,nx,st):=by unfold drawM;rw [if_pos (.inl h1)]
    rw [e];exact draw_p0 h1
  · by_cases h2:l.length=0
    · have e:drawM n l nx st=(0,nx,st):=by unfold drawM;rw [if_pos (.inr h2)]
      rw [e];exact draw_p1 (by omega) (by omega)
    · have h0:0≤nx.tmod (l.length:Int)∧nx.tmod (l.length:Int)<(l.length:Int):=⟨Int.tmod_nonneg _ h.1,Int.tmod_lt_of_pos _ (by omega)⟩
      have hq:0≤nx.tdiv (l.length:Int)∧nx.tdiv (l.length:Int)≤nx:=⟨Int.tdiv_nonneg h.1 (by omega),Int.tdiv_le_self _ h.1⟩
      have hi:(nx.tmod (l.length:Int)).toNat<l.length:=by omega
      have hg:l[(nx.tmod (l.length:Int)).toNat]? = some (l.getD (nx.tmod (l.length:Int)).toNat 0):=by
        rw [List.getElem?_eq_getElem hi,List.getD_eq_getElem?_getD,List.getElem?_eq_getElem hi];rfl
      have hw:∀ z,inR (IntKind.wrap .u32 z):=fun z=>by have:=u32w_bd z;unfold u32w at this;unfold inR;omega
      unfold drawM
      rw [if_neg (by simp only [not_or];exact ⟨h1,h2⟩)]
      dsimp only
      by_cases h3:u32w (nx.tdiv (l.length:Int))=0
      · by_cases h4:n≤256
        · rw [if_pos ⟨h3,h4⟩]
          exact draw_p2 (by omega) (by omega) (by omega) hg h0.1 (by unfold inR;omega) (by unfold inR;omega) h3 h4 (hw _) (by omega) rfl rfl rfl
        · rw [if_neg (fun h=>h4 h.2)]
          exact draw_p3 (by omega) (by omega) (by omega) hg h0.1 (by unfold inR;omega) (by unfold inR;omega) h3 (by omega) (hw _) (by omega) rfl rfl rfl
      · rw [if_neg (fun h=>h3 h.1)]
        exact draw_p4 (by omega) (by omega) (by omega) hg h0.1 (by unfold inR;omega) (by unfold inR;omega) h3 (hw _) (by omega) rfl rfl rfl
theorem coin_p0{n:Int}{l:List Int}{nx st:Int}{r0:Bool}{r1 r2:Int}(h0:0≤nx∧nx≤1000000000)(er0:r0=(((drawM n l nx st).1) == (0:Int)))(er1:r1=((drawM n l nx st).2.1))(er2:r2=((drawM n l nx st).2.2)):FMM Tryz.prog 137 [(.ptr 0 0),(.p (intP n))] [some (.box 141 [(.p (.sl l.length (l.map byteP))),(.p (intP nx)),(.p (.v (.int .u32 st)))])] (.p (blP r0)) [some (.box 141 [(.p (.sl l.length (l.map byteP))),(.p (intP r1)),(.p (.v (.int .u32 r2)))])]:=by
  subst er0 er1 er2
  exact FMM.fin (k:=1) (g:=⟨[],[],[],[]⟩) rfl Tryz.func137 rfl (o:=[.c (.p (intP ((drawM n l nx st).1))) [(0,(.box 141 [(.p (.sl l.length (l.map byteP))),(.p (intP ((drawM n l nx st).2.1))),(.p (.v (.int .u32 ((drawM n l nx st).2.2))))]))]]) (l:=[FC Tryz.prog 29 [(.ptr 0 0),(.p (intP n))] [(0,(.box 141 [(.p (.sl l.length (l.map byteP))),(.p (intP nx)),(.p (.v (.int .u32 st)))]))] 1 (.p (intP ((drawM n l nx st).1))) [(0,(.box 141 [(.p (.sl l.length (l.map byteP))),(.p (intP ((drawM n l nx st).2.1))),(.p (.v (.int .u32 ((drawM n l nx st).2.2))))]))]]) (by kernel_rfl) (gc (FMM.fc (ids:=[0]) (draw_ok n l nx st h0) (by kernel_rfl)) gn)
theorem btw_p0{lo hi:Int}{l:List Int}{nx st r0 r1 r2:Int}(h0:inR (hi-lo))(h1:inR ((hi-lo)+(1:Int)))(h2:0≤nx∧nx≤1000000000)(h3:inR (lo+((drawM ((hi-lo)+(1:Int)) l nx st).1)))(er0:r0=(lo+((drawM ((hi-lo)+(1:Int)) l nx st).1)))(er1:r1=((drawM ((hi-lo)+(1:Int)) l nx st).2.1))(er2:r2=((drawM ((hi-lo)+(1:Int)) l nx st).2.2)):FMM Tryz.prog 30 [(.ptr 0 0),(.p (intP lo)),(.p (intP hi))] [some (.box 141 [(.p (.sl l.length (l.map byteP))),(.p (intP nx)),(.p (.v (.int .u32 st)))])] (.p (intP r0)) [some (.box 141 [(.p (.sl l.length (l.map byteP))),(.p (intP r1)),(.p (.v (.int .u32 r2)))])]:=by
  subst er0 er1 er2
  exact FMM.fin (k:=1) (g:=⟨[],[],[],[]⟩) rfl Tryz.func30 rfl (o:=[.c (.p (intP ((drawM ((hi-lo)+(1:Int)) l nx st).1))) [(0,(.box 141 [(.p (.sl l.length (l.map byteP))),(.p (intP ((drawM ((hi-lo)+(1:Int)) l nx st).2.1))),(.p (.v (.int .u32 ((drawM ((hi-lo)+(1:Int)) l nx st).2.2))))]))]]) (l:=[_,FC Tryz.prog 29 [(.ptr 0 0),(.p (intP ((hi-lo)+(1:Int))))] [(0,(.box 141 [(.p (.sl l.length (l.map byteP))),(.p (intP nx)),(.p (.v (.int .u32 st)))]))] 1 (.p (intP ((drawM ((hi-lo)+(1:Int)) l nx st).1))) [(0,(.box 141 [(.p (.sl l.length (l.map byteP))),(.p (intP ((drawM ((hi-lo)+(1:Int)) l nx st).2.1))),(.p (.v (.int .u32 ((drawM ((hi-lo)+(1:Int)) l nx st).2.2))))]))],_,_]) (by kernel_rfl) (gc h3 (gc (FMM.fc (ids:=[0]) (draw_ok ((hi-lo)+(1:Int)) l nx st h2) (by kernel_rfl)) (gc h1 (gc h0 gn))))
def coinM(n:Int)(l:List Int)(nx st:Int):Bool × Int × Int:=((drawM n l nx st).1 == 0,(drawM n l nx st).2)
theorem coin_ok(n:Int)(l:List Int)(nx st:Int)(h:0≤nx∧nx≤1000000000):FMM Tryz.prog 137 [.ptr 0 0,.p (intP n)] [some (deckO l nx st)] (.p (blP (coinM n l nx st).1)) [some (deckO l (coinM n l nx st).2.1 (coinM n l nx st).2.2)]:=coin_p0 h rfl rfl rfl
theorem coinM_bd(n:Int)(l:List Int)(nx st:Int):nx≤(coinM n l nx st).2.1∧(coinM n l nx st).2.1≤nx+1:=(drawM_bd n l nx st).2.2
def btwM(lo hi:Int)(l:List Int)(nx st:Int):Int × Int × Int:=(lo+(drawM (hi-lo+1) l nx st).1,(drawM (hi-lo+1) l nx st).2)
theorem btwM_bd(lo hi:Int)(l:List Int)(nx st:Int):lo≤(btwM lo hi l nx st).1∧((btwM lo hi l nx st).1≤hi∨(btwM lo hi l nx st).1=lo)∧nx≤(btwM lo hi l nx st).2.1∧(btwM lo hi l nx st).2.1≤nx+1:=by
  have:=drawM_bd (hi-lo+1) l nx st
  unfold btwM
  dsimp only
  omega
theorem btw_ok(lo hi:Int)(l:List Int)(nx st:Int)(h:0≤nx∧nx≤1000000000)(hb:(-1000000≤lo∧lo≤1000000) ∧ -1000000≤hi∧hi≤1000000):FMM Tryz.prog 30 [.ptr 0 0,.p (intP lo),.p (intP hi)] [some (deckO l nx st)] (.p (intP (btwM lo hi l nx st).1)) [some (deckO l (btwM lo hi l nx st).2.1 (btwM lo hi l nx st).2.2)]:=by
  have:=btwM_bd lo hi l nx st
  exact btw_p0 (by unfold inR;omega) (by unfold inR;omega) h (show inR (btwM lo hi l nx st).1 by unfold inR;omega) rfl rfl rfl
def shuf_S0(n:Int)(l:List Int)(nx:Int)(st:Int)(i:Nat)(on:Nat)(oc:List PV):St:=⟨fr 45 [(0,(.ptr 0 0)),(4,(.p nilS)),(5,(.own 1)),(10,(.p (intP (if n > (0:Int) then n else (0:Int))))),(11,(.p (intP (i:Int))))],[some (.box 141 [(.p (.sl l.length (l.map byteP))),(.p (intP nx)),(.p (.v (.int .u32 st)))]),some (.row 3 on oc)]⟩
def shuf_S1(l:List Int)(j:Int)(on:Nat)(oc:List PV)(mx:Int)(tt:Int):St:=⟨fr 45 [(0,(.ptr 0 0)),(4,(.p nilS)),(5,(.own 1)),(7,(.p (intP j)))],[some (.box 141 [(.p (.sl l.length (l.map byteP))),(.p (intP mx)),(.p (.v (.int .u32 tt)))]),some (.row 3 on oc)]⟩
theorem shuf_p0{n:Int}{l:List Int}{nx st:Int}{i'0:Nat}{o'1:List Int}{j'2:Int}{o'3:List Int}{mx'4 tt'5:Int}(hl0:LoopOK Tryz.prog 1 zL0c0 (shuf_S0 n l nx st 0 0 []) (.exit 0) (shuf_S0 n l nx st i'0 o'1.length (o'1.map intP)))(h1:inR ((o'1.length:Int)-(1:Int)))(hl2:LoopOK Tryz.prog 1 zL0c1 (shuf_S1 l ((o'1.length:Int)-(1:Int)) o'1.length (o'1.map intP) nx st) (.exit 2) (shuf_S1 l j'2 o'3.length (o'3.map intP) mx'4 tt'5)):FMM Tryz.prog 37 [(.ptr 0 0),(.p (intP n))] [some (.box 141 [(.p (.sl l.length (l.map byteP))),(.p (intP nx)),(.p (.v (.int .u32 st)))])] (.own 1) [some (.box 141 [(.p (.sl l.length (l.map byteP))),(.p (intP mx'4)),(.p (.v (.int .u32 tt'5)))]),some (.row 3 o'3.length (o'3.map intP))]:=by
  exact FMM.fin (k:=1) (g:=⟨[],[1],[],[]⟩) rfl Tryz.func37 rfl (o:=[.k 8 ⟨(rng [(1,3),(6,1),(9,1),(12,7)]),[1],[],[(5,3)]⟩ (.exit 0) (shuf_S0 n l nx st i'0 o'1.length (o'1.map intP)),.k 4 ⟨(rng [(1,3),(6,1),(8,36)]),[1],[],[]⟩ (.exit 2) (shuf_S1 l j'2 o'3.length (o'3.map intP) mx'4 tt'5)]) (l:=[_,_,_]) (by kernel_rfl) (gc hl2.code (gc h1 (gc hl0.code gn)))
theorem shuf_L0_p0{n:Int}{l:List Int}{nx st:Int}{i:Nat}{o:List Int}{i':Nat}{o':List Int}(h0:(i:Int)<(if n > (0:Int) then n else (0:Int)))(h1:[(intP (i:Int))].length=1*1∧o.length+1≤1000000)(h2:inR (((i+1):Nat):Int))(ei':i'=(i+1))(eo'n:o'.length=(o.length+1))(eo'c:o'.map intP=((o.map intP)++[(intP (i:Int))])):CodeOK Tryz.prog 1 zL0c0 (shuf_S0 n l nx st i o.length (o.map intP)) .normal (shuf_S0 n l nx st i' o'.length (o'.map intP)):=by
  subst ei'
  have raw:CodeOK Tryz.prog 1 zL0c0 (shuf_S0 n l nx st i o.length (o.map intP)) .normal (shuf_S0 n l nx st (i+1) (o.length+1) ((o.map intP)++[(intP (i:Int))])):=CodeOK.fin (g:=⟨(rng [(1,3),(6,1),(9,1),(12,7)]),[3],[],[]⟩) (o:=[bT]) (l:=[_,_,_]) (by kernel_rfl) (gc h2 (gc h1 (gc (q_lt h0) gn)))
  exact raw.cast (by rw [eo'n,eo'c])
theorem shuf_L0_p1{n:Int}{l:List Int}{nx st:Int}{i:Nat}{o:List Int}(h0:(if n > (0:Int) then n else (0:Int))≤(i:Int)):CodeOK Tryz.prog 1 zL0c0 (shuf_S0 n l nx st i o.length (o.map intP)) (.exit 0) (shuf_S0 n l nx st i o.length (o.map intP)):=by
  exact CodeOK.fin (g:=⟨(rng [(1,3),(6,1),(9,1),(12,7)]),[1],[],[]⟩) (o:=[bF]) (l:=[_]) (by kernel_rfl) (gc (q_ltF h0) gn)
theorem shuf_L1_p0{l:List Int}{j:Int}{o:List Int}{mx tt x200 x201 j':Int}{o':List Int}{mx' tt':Int}(h0:(0:Int)<j)(h1:inR (j+(1:Int)))(h2:0≤mx∧mx≤1000000000)(h3:o[((drawM (j+(1:Int)) l mx tt).1).toNat]? = some x200)(h4:0≤((drawM (j+(1:Int)) l mx tt).1))(h5:o[j.toNat]? = some x201)(h6:0≤j)(h7:(j.toNat*1)<(o.map intP).length)(h8:0≤((drawM (j+(1:Int)) l mx tt).1)∧((drawM (j+(1:Int)) l mx tt).1)<(o.length:Int))(h9:(((drawM (j+(1:Int)) l mx tt).1).toNat*1)<((o.map intP).set (j.toNat*1) (intP x200)).length)(h10:inR (j-(1:Int)))(ej':j'=(j-(1:Int)))(eo'n:o'.length=o.length)(eo'c:o'.map intP=(((o.map intP).set (j.toNat*1) (intP x200)).set (((drawM (j+(1:Int)) l mx tt).1).toNat*1) (intP x201)))(emx':mx'=((drawM (j+(1:Int)) l mx tt).2.1))(ett':tt'=((drawM (j+(1:Int)) l mx tt).2.2)):CodeOK Tryz.prog 1 zL0c1 (shuf_S1 l j o.length (o.map intP) mx tt) .normal (shuf_S1 l j' o'.length (o'.map intP) mx' tt'):=by
  subst ej' emx' ett'
  have raw:CodeOK Tryz.prog 1 zL0c1 (shuf_S1 l j o.length (o.map intP) mx tt) .normal (shuf_S1 l (j-(1:Int)) o.length (((o.map intP).set (j.toNat*1) (intP x200)).set (((drawM (j+(1:Int)) l mx tt).1).toNat*1) (intP x201)) ((drawM (j+(1:Int)) l mx tt).2.1) ((drawM (j+(1:Int)) l mx tt).2.2)):=CodeOK.fin (g:=⟨(rng [(1,3),(6,1),(8,36)]),[1],[],[]⟩) (o:=[bT,.c (.p (intP ((drawM (j+(1:Int)) l mx tt).1))) [(0,(.box 141 [(.p (.sl l.length (l.map byteP))),(.p (intP ((drawM (j+(1:Int)) l mx tt).2.1))),(.p (.v (.int .u32 ((drawM (j+(1:Int)) l mx tt).2.2))))]))],.x (intP x200),.x (intP x201)]) (l:=[_,_,_,_,_,(o.map intP)[(j.toNat*1)]? = some (intP x201),_,(o.map intP)[(((drawM (j+(1:Int)) l mx tt).1).toNat*1)]? = some (intP x200),_,FC Tryz.prog 29 [(.ptr 0 0),(.p (intP (j+(1:Int))))] [(0,(.box 141 [(.p (.sl l.length (l.map byteP))),(.p (intP mx)),(.p (.v (.int .u32 tt)))]))] 2 (.p (intP ((drawM (j+(1:Int)) l mx tt).1))) [(0,(.box 141 [(.p (.sl l.length (l.map byteP))),(.p (intP ((drawM (j+(1:Int)) l mx tt).2.1))),(.p (.v (.int .u32 ((drawM (j+(1:Int)) l mx tt).2.2))))]))],_,_]) (by kernel_rfl) (gc h10 (gc h9 (gc h8 (gc h7 (gc (ix_own (i:=j) h6 h5) (gc (at_map (i:=j.toNat) h5) (gc (ix_own (i:=j) h6 h5) (gc (at_map (i:=((drawM (j+(1:Int)) l mx tt).1).toNat) h3) (gc (ix_own (i:=((drawM (j+(1:Int)) l mx tt).1)) h4 h3) (gc (FMM.fc (ids:=[0]) (draw_ok (j+(1:Int)) l mx tt h2) (by kernel_rfl)) (gc h1 (gc (q_lt h0) gn))))))))))))
  exact raw.cast (by rw [eo'n,eo'c])
theorem shuf_L1_p1{l:List Int}{j:Int}{o:List Int}{mx tt:Int}(h0:j≤(0:Int)):CodeOK Tryz.prog 1 zL0c1 (shuf_S1 l j o.length (o.map intP) mx tt) (.exit 2) (shuf_S1 l j o.length (o.map intP) mx tt):=by
  exact CodeOK.fin (g:=⟨(rng [(1,3),(6,1),(8,36)]),[1],[],[]⟩) (o:=[bF]) (l:=[_]) (by kernel_rfl) (gc (q_ltF h0) gn)
def swapL(o:List Int)(i k:Nat):List Int:=(o.set i (o.getD k 0)).set k (o.getD i 0)
theorem swapL_perm(o:List Int){i k:Nat}(hi:i<o.length)(hk:k<o.length):(swapL o i k).Perm o:=by
  rw [List.perm_iff_count]
  intro x
  unfold swapL
  rw [List.count_set (by simpa using hk),List.count_set hi]
  simp only [List.getElem_set,List.getD_eq_getElem?_getD,List.getElem?_eq_getElem hi,List.getElem?_eq_getElem hk,Option.getD_some]
  have h1:∀ (j:Nat) (h:j<o.length),(o[j] == x)=true→0<List.count x o:=fun j h hx=>List.count_pos_iff.2 (by rw [← beq_iff_eq.1 hx];exact List.getElem_mem h)
  have a1:=h1 i hi
  have a2:=h1 k hk
  by_cases hik:i=k
  · subst hik
    simp only [if_pos rfl]
    by_cases hx:(o[i] == x)=true
    · have:=a1 hx;simp only [hx,if_true];omega
    · have hx':¬ o[i]=x:=by simpa using hx
      simp [hx']
  · rw [if_neg hik]
    by_cases hx:(o[i] == x)=true <;> by_cases hy:(o[k] == x)=true
    · have:=a1 hx;simp only [hx,hy,if_true];omega
    · have:=a1 hx;simp only [hx,hy,if_true,if_false];simp;omega
    · have:=a2 hy;simp only [hx,hy,if_true,if_false];simp
    · simp only [hx,hy,if_false];simp
def shufR(l:List Int):Nat→List Int→Int→Int→List Int × Int × Int
  | 0,o,nx,st=>(o,nx,st)
  | j+1,o,nx,st=>shufR l j (swapL o (j+1) (drawM ((j:Int)+1+1) l nx st).1.toNat) (drawM ((j:Int)+1+1) l nx st).2.1 (drawM ((j:Int)+1+1) l nx st).2.2
def upL(n:Nat):List Int:=(List.range n).map fun (i:Nat)=>(i:Int)
def shufM(n:Int)(l:List Int)(nx st:Int):List Int × Int × Int:=shufR l (n.toNat-1) (upL n.toNat) nx st
theorem shufR_spec(l:List Int):∀ (j:Nat) (o:List Int) (nx st:Int),j<o.length∨j=0→(shufR l j o nx st).1.Perm o∧nx≤(shufR l j o nx st).2.1∧(shufR l j o nx st).2.1≤nx+j
  | 0,o,nx,st,_=>by unfold shufR;exact ⟨.refl _,by simp,by simp⟩
  | j+1,o,nx,st,h=>by
    have hb:=drawM_bd ((j:Int)+1+1) l nx st
    have hs:=swapL_perm o (i:=j+1) (k:=(drawM ((j:Int)+1+1) l nx st).1.toNat) (by omega) (by omega)
    have hl:=hs.length_eq
    have ih:=shufR_spec l j (swapL o (j+1) (drawM ((j:Int)+1+1) l nx st).1.toNat) (drawM ((j:Int)+1+1) l nx st).2.1 (drawM ((j:Int)+1+1) l nx st).2.2 (by omega)
    unfold shufR
    exact ⟨ih.1.trans hs,by omega,by omega⟩
theorem shuf_loop(l:List Int)(nx0 st0:Int):∀ (j:Nat) (o:List Int) (nx st:Int),j<o.length∨j=0→0≤nx→nx+j≤1000000000→o.length≤1000 →
    ∃ j',LoopOK Tryz.prog 1 zL0c1 (shuf_S1 l (j:Int) o.length (o.map intP) nx st) (.exit 2) (shuf_S1 l j' (shufR l j o nx st).1.length ((shufR l j o nx st).1.map intP) (shufR l j o nx st).2.1 (shufR l j o nx st).2.2)
  | 0,o,nx,st,_,_,_,_=>by unfold shufR;exact ⟨0,.exit (shuf_L1_p1 (by omega)) (by simp)⟩
  | j+1,o,nx,st,h,h0,h1,h2=>by
    have hb:=drawM_bd ((j:Int)+1+1) l nx st
    have hk:(drawM ((j:Int)+1+1) l nx st).1.toNat<o.length:=by omega
    have hs:=swapL_perm o (i:=j+1) (k:=(drawM ((j:Int)+1+1) l nx st).1.toNat) (by omega) hk
    have hl:=hs.length_eq
    obtain ⟨j',ih⟩:=shuf_loop l nx0 st0 j (swapL o (j+1) (drawM ((j:Int)+1+1) l nx st).1.toNat) (drawM ((j:Int)+1+1) l nx st).2.1 (drawM ((j:Int)+1+1) l nx st).2.2 (by omega) (by omega) (by omega) (by omega)
    unfold shufR
    have ga:∀ i,i<o.length→o[i]? = some (o.getD i 0):=fun i hi=>by
      rw [List.getElem?_eq_getElem hi,List.getD_eq_getElem?_getD,List.getElem?_eq_getElem hi];rfl
    have hj:((j+1:Nat):Int)=(j:Int)+1:=by omega
    rw [hj]
    have ht:((j:Int)+1).toNat=j+1:=by omega
    refine ⟨j',.step (shuf_L1_p0 (by omega) (by unfold inR;omega) (by omega) (ga _ hk) (by omega) (by rw [ht];exact ga _ (by omega)) (by omega) (by rw [ht];simp;omega) (by omega) (by simp;omega) (by unfold inR;omega) (j':=(j:Int)) (by omega) (o':=swapL o (j+1) (drawM ((j:Int)+1+1) l nx st).1.toNat) hl (by rw [ht];simp [swapL,List.map_set]) rfl rfl) ih⟩
theorem shuf_ok(n:Int)(l:List Int)(nx st:Int)(h:0≤nx∧nx≤1000000)(hn:0≤n∧n≤1000):FMM Tryz.prog 37 [.ptr 0 0,.p (intP n)] [some (deckO l nx st)] (.own 1) [some (deckO l (shufM n l nx st).2.1 (shufM n l nx st).2.2),some (.row 3 (shufM n l nx st).1.length ((shufM n l nx st).1.map intP))]:=by
  have e:(if n > (0:Int) then n else (0:Int))=n:=by split <;> omega
  have hL:=LoopOK.times (P:=Tryz.prog) (k:=1) (b:=zL0c0) (e := .exit 0) (fun i (o:List Int)=>shuf_S0 n l nx st i o.length (o.map intP)) (fun o=>shuf_S0 n l nx st n.toNat o.length (o.map intP)) (fun acc i=>acc++[(i:Int)]) (fun i o=>o.length≤i) (by simp) n.toNat (a0:=[]) (by simp)
    (fun i o hi hI=>⟨by simp;omega,shuf_L0_p0 (by rw [e];omega) (by simp;omega) (inR_nat (by omega)) rfl (by simp) (by simp)⟩)
    (fun o _=>shuf_L0_p1 (by rw [e];omega))
  rw [foldl_map,List.nil_append] at hL
  have hul:(upL n.toNat).length=n.toNat:=by simp [upL]
  by_cases h0:n=0
  · subst h0
    exact shuf_p0 (o'1:=upL 0) hL (by unfold inR;simp [upL]) (LoopOK.exit (shuf_L1_p1 (by simp [upL])) (by simp))
  · obtain ⟨j',hL2⟩:=shuf_loop l nx st (n.toNat-1) (upL n.toNat) nx st (by omega) (by omega) (by omega) (by omega)
    refine shuf_p0 (o'1:=upL n.toNat) hL (by unfold inR;omega) (j'2:=j') ?_
    have e2:((n.toNat-1:Nat):Int)=((upL n.toNat).length:Int)-1:=by omega
    rw [e2] at hL2
    exact hL2
end
end KV
end Go.Proofs
section
namespace Go.Proofs
namespace KL

structure RInv (ord:List Int) (n i:Nat) (o:List Int) (pl:Int) (la:List Int):Prop where
  len:o.length=n
  p1:1≤pl
  p2:pl≤1+3*(i:Int)
  nn:∀ x∈o,0≤x
  zero:∀ (j:Nat) (x:Int),i≤j→ord[j]? = some x→o.getD x.toNat 0=0
  cl:∀ p∈o,p≠0→p+(o.count p:Nat)≤pl∧∀ q∈o,p<q→p+(o.count p:Nat)≤q
  lst:∀ (y:Int) (r:List Int),la=y::r→0≤y∧y.toNat<n∧1≤o.getD y.toNat 0∧o.getD y.toNat 0+(o.count (o.getD y.toNat 0):Nat)=pl
  ll:la.length≤i

theorem count_pos'{o:List Int}{p:Int}(h:p∈o):1≤o.count p:=List.count_pos_iff.2 h
theorem count_setZ{o:List Int}{k:Nat}{a p:Int}(hk:k<o.length)(h0:o.getD k 0=0)(hp:p≠0):(o.set k a).count p=o.count p+if a=p then 1 else 0:=by
  have hg:o[k]=0:=by rw [List.getD_eq_getElem?_getD,List.getElem?_eq_getElem hk] at h0;exact h0
  rw [List.count_set hk,hg]
  have:((0:Int) == p)=false:=by simpa using fun h=>hp h.symm
  rw [this]
  by_cases h:a=p
  · subst h;simp
  · have h':(a == p)=false:=by simpa using h
    rw [h',if_neg h];simp
theorem mem_set'{o:List Int}{k:Nat}{a x:Int}(h:x∈o.set k a):x∈o∨x=a:=List.mem_or_eq_of_mem_set h
theorem getD_set'{o:List Int}{k j:Nat}{a:Int}(hk:k<o.length):(o.set k a).getD j 0=if k=j then a else o.getD j 0:=by
  rw [List.getD_eq_getElem?_getD,List.getElem?_set]
  by_cases h:k=j
  · subst h;rw [if_pos rfl,if_pos rfl,if_pos hk];rfl
  · rw [if_neg h,if_neg h,List.getD_eq_getElem?_getD]

variable {ord:List Int} {n i:Nat} {o:List Int} {pl:Int} {la:List Int}
theorem RInv.skip(h:RInv ord n i o pl la):RInv ord n (i+1) o pl la :=
  ⟨h.len,h.p1,by have:=h.p2;omega,h.nn,fun j x hj hx=>h.zero j x (by omega) hx,h.cl,h.lst,by have:=h.ll;omega⟩

theorem ord_ne{x y:Int}{j:Nat}(hnd:ord.Nodup)(hin:∀ x∈ord,0≤x)(hx:ord[i]? = some x)(hy:ord[j]? = some y)(hj:i<j):x.toNat≠y.toNat:=fun e=>by
  have h1:=hin x (List.mem_of_getElem? hx)
  have h2:=hin y (List.mem_of_getElem? hy)
  have h3:x=y:=by omega
  subst h3
  obtain ⟨hi,e1⟩:=List.getElem?_eq_some_iff.1 hx
  obtain ⟨hj',e2⟩:=List.getElem?_eq_some_iff.1 hy
  exact List.pairwise_iff_getElem.1 hnd i j hi hj' hj (e1.trans e2.symm)

theorem RInv.new(h:RInv ord n i o pl la)(hnd:ord.Nodup)(hin:∀ x∈ord,0≤x∧x.toNat<n){x d:Int}(hx:ord[i]? = some x)(hd:0≤d∧d≤2):RInv ord n (i+1) (o.set x.toNat (pl+d)) (pl+d+1) [x]:=by
  obtain ⟨x0,x1⟩:=hin x (List.mem_of_getElem? hx)
  have hp1:=h.p1
  have hk:x.toNat<o.length:=by rw [h.len];exact x1
  have hz:=h.zero i x (Nat.le_refl _) hx
  have hno:pl+d∉o:=fun hm=>by
    have:=(h.cl _ hm (by omega)).1
    have:=count_pos' hm
    omega
  have hcq:(o.set x.toNat (pl+d)).count (pl+d)=1:=by
    rw [count_setZ hk hz (by omega),if_pos rfl,List.count_eq_zero.2 hno]
  have hco:∀ p,p≠0→p≠pl+d→(o.set x.toNat (pl+d)).count p=o.count p:=fun p h0 h1=>by
    rw [count_setZ hk hz h0,if_neg (fun e=>h1 e.symm)];rfl
  refine ⟨by simpa using h.len,by omega,by have:=h.p2;omega,fun y hy => ?_,fun j y hj hy => ?_,fun p hp h0 => ?_,fun y r e => ?_,by simp⟩
  · rcases mem_set' hy with hm | rfl
    · exact h.nn _ hm
    · omega
  · rw [getD_set' hk,if_neg (ord_ne hnd (fun x hx=>(hin x hx).1) hx hy (by omega))]
    exact h.zero j y (by omega) hy
  · by_cases he:p=pl+d
    · subst he
      rw [hcq]
      refine ⟨by omega,fun q hq hlt => ?_⟩
      rcases mem_set' hq with hm | rfl
      · have:=(h.cl _ hm (by omega)).1
        have:=count_pos' hm
        omega
      · omega
    · rw [hco p h0 he]
      have hm:p∈o:=by
        rcases mem_set' hp with hm | e
        · exact hm
        · exact absurd e he
      obtain ⟨q1,q2⟩:=h.cl p hm h0
      refine ⟨by omega,fun q hq hlt => ?_⟩
      rcases mem_set' hq with hm2 | rfl
      · exact q2 q hm2 hlt
      · omega
  · cases e
    rw [getD_set' hk,if_pos rfl,hcq]
    exact ⟨x0,x1,by omega,by omega⟩

theorem RInv.share(h:RInv ord n i o pl la)(hnd:ord.Nodup)(hin:∀ x∈ord,0≤x∧x.toNat<n){x y:Int}{r:List Int}(hx:ord[i]? = some x)(hla:la=y::r):RInv ord n (i+1) (o.set x.toNat (o.getD y.toNat 0)) (pl+1) (la++[x]):=by
  obtain ⟨x0,x1⟩:=hin x (List.mem_of_getElem? hx)
  obtain ⟨y0,y1,y2,y3⟩:=h.lst y r hla
  have hp1:=h.p1
  have hk:x.toNat<o.length:=by rw [h.len];exact x1
  have hz:=h.zero i x (Nat.le_refl _) hx
  obtain ⟨q,hq⟩:∃ q,q=o.getD y.toNat 0:=⟨_,rfl⟩
  rw [← hq] at y2 y3 ⊢
  have hxy:x.toNat≠y.toNat:=fun e=>by rw [e] at hz;omega
  have hqm:q∈o:=by
    rw [hq,List.getD_eq_getElem?_getD,List.getElem?_eq_getElem (by rw [h.len];exact y1)]
    exact List.getElem_mem _
  have hcq:(o.set x.toNat q).count q=o.count q+1:=by rw [count_setZ hk hz (by omega),if_pos rfl]
  have hco:∀ p,p≠0→p≠q→(o.set x.toNat q).count p=o.count p:=fun p h0 h1=>by
    rw [count_setZ hk hz h0,if_neg (fun e=>h1 e.symm)];rfl
  have hmem:∀ p,p∈o.set x.toNat q→p∈o:=fun p hp=>by
    rcases mem_set' hp with hm | rfl
    · exact hm
    · exact hqm
  refine ⟨by simpa using h.len,by omega,by have:=h.p2;omega,fun z hzm=>h.nn _ (hmem z hzm),fun j z hj hzz => ?_,fun p hp h0 => ?_,fun z r' e => ?_,by have:=h.ll;simp;omega⟩
  · rw [getD_set' hk,if_neg (ord_ne hnd (fun x hx=>(hin x hx).1) hx hzz (by omega))]
    exact h.zero j z (by omega) hzz
  · obtain ⟨q1,q2⟩:=h.cl p (hmem p hp) h0
    by_cases he:p=q
    · subst he
      rw [hcq]
      refine ⟨by omega,fun q' hq' hlt => ?_⟩
      have:=q2 q' (hmem _ hq') hlt
      have h5:=(h.cl q' (hmem _ hq') (by omega)).1
      have:=count_pos' (hmem _ hq')
      omega
    · rw [hco p h0 he]
      exact ⟨by omega,fun q' hq' hlt=>q2 q' (hmem _ hq') hlt⟩
  · rw [hla] at e
    cases e
    rw [getD_set' hk,if_neg hxy,← hq,hcq]
    exact ⟨y0,y1,by omega,by omega⟩

structure RaceOK (n:Nat) (race:List Int):Prop where
  len:race.length=n
  bd:∀ x∈race,0≤x∧x≤60
  cl:NoClash race
theorem RInv.race(h:RInv ord n i o pl la)(hi:i≤15):RaceOK n o:=by
  have hp2:=h.p2
  refine ⟨h.len,fun x hx=>⟨h.nn x hx,?_⟩,fun p hp h0 => ?_⟩
  · by_cases h0:x=0
    · omega
    · have:=(h.cl x hx h0).1;omega
  · obtain ⟨q1,q2⟩:=h.cl p hp h0
    exact ⟨by omega,q2⟩
theorem RInv.start{n:Nat}:RInv ord n 0 (List.replicate n 0) 1 [] :=
  ⟨by simp,by omega,by omega,fun x hx=>by rw [List.mem_replicate] at hx;omega,fun j x _ _=>by
    rw [List.getD_eq_getElem?_getD,List.getElem?_replicate];split <;> rfl,fun p hp h0=>by rw [List.mem_replicate] at hp;exact absurd hp.2 h0,fun y r e=>(by cases e),by simp⟩
end KL
end Go.Proofs
end
namespace Go.Proofs
namespace KV
section
open KL
noncomputable abbrev zL1c0:Code:=sub (cd Tryz.f68) [1,1,1,1,0,1,0,0]
def raced_S0(n:Int)(sh:Bool)(l:List Int)(nx:Int)(st:Int)(i:Nat)(on:Nat)(oc:List PV)(pl:Int)(lan:Nat)(lac:List PV)(mx:Int)(tt:Int):St:=⟨fr 65 [(0,(.ptr 0 0)),(2,(.p (blP sh))),(6,(.p nilS)),(7,(.own 1)),(8,(.p (intP pl))),(9,(.own 3)),(16,(.own 2)),(17,(.p (intP ((((shufM n l nx st).1).length:Nat):Int)))),(18,(.p (intP (i:Int))))],[some (.box 141 [(.p (.sl l.length (l.map byteP))),(.p (intP mx)),(.p (.v (.int .u32 tt)))]),some (.row 3 on oc),some (.row 3 (((shufM n l nx st).1).length) (((shufM n l nx st).1).map intP)),some (.row 3 lan lac)]⟩
theorem raced_p0{n:Int}{sh:Bool}{l:List Int}{nx st:Int}{i'0:Nat}{o'1:List Int}{pl'2:Int}{la'3:List Int}{mx'4 tt'5:Int}(h0:0≤n∧n≤n∧n≤1000000)(h1:0≤nx∧nx≤1000000)(h2:0≤n∧n≤1000)(hl3:LoopOK Tryz.prog 1 zL1c0 (raced_S0 n sh l nx st 0 n.toNat (List.replicate n.toNat (intP 0)) (1:Int) 0 [] ((shufM n l nx st).2.1) ((shufM n l nx st).2.2)) (.exit 0) (raced_S0 n sh l nx st i'0 o'1.length (o'1.map intP) pl'2 la'3.length (la'3.map intP) mx'4 tt'5)):FMM Tryz.prog 68 [(.ptr 0 0),(.p (intP n)),(.p (blP sh))] [some (.box 141 [(.p (.sl l.length (l.map byteP))),(.p (intP nx)),(.p (.v (.int .u32 st)))])] (.own 1) [some (.box 141 [(.p (.sl l.length (l.map byteP))),(.p (intP mx'4)),(.p (.v (.int .u32 tt'5)))]),some (.row 3 o'1.length (o'1.map intP))]:=by
  exact FMM.fin (k:=1) (g:=⟨[],[1],[],[]⟩) rfl Tryz.func68 rfl (o:=[.c (.own 2) [(0,(.box 141 [(.p (.sl l.length (l.map byteP))),(.p (intP ((shufM n l nx st).2.1))),(.p (.v (.int .u32 ((shufM n l nx st).2.2))))])),(2,(.row 3 (((shufM n l nx st).1).length) (((shufM n l nx st).1).map intP)))],.k 1 ⟨(rng [(1,1),(3,3),(10,6),(19,45)]),[1,2,3],[],[(9,3)]⟩ (.exit 0) (raced_S0 n sh l nx st i'0 o'1.length (o'1.map intP) pl'2 la'3.length (la'3.map intP) mx'4 tt'5)]) (l:=[_,FC Tryz.prog 37 [(.ptr 0 0),(.p (intP n))] [(0,(.box 141 [(.p (.sl l.length (l.map byteP))),(.p (intP nx)),(.p (.v (.int .u32 st)))]))] 2 (.own 2) [(0,(.box 141 [(.p (.sl l.length (l.map byteP))),(.p (intP ((shufM n l nx st).2.1))),(.p (.v (.int .u32 ((shufM n l nx st).2.2))))])),(2,(.row 3 (((shufM n l nx st).1).length) (((shufM n l nx st).1).map intP)))],_]) (by kernel_rfl) (gc hl3.code (gc (FMM.fc (ids:=[0]) (shuf_ok n l nx st h1 h2) (by kernel_rfl)) (gc h0 gn)))
abbrev zL10(l:List Int)(mx:Int)(tt:Int):=coinM (4:Int) l ((coinM (7:Int) l mx tt).2.1) ((coinM (7:Int) l mx tt).2.2)
abbrev zL11(l:List Int)(mx:Int)(tt:Int):=coinM (5:Int) l ((coinM (7:Int) l mx tt).2.1) ((coinM (7:Int) l mx tt).2.2)
abbrev zL12(l:List Int)(mx:Int)(tt:Int):=coinM (5:Int) l ((zL10 l mx tt).2.1) ((zL10 l mx tt).2.2)
abbrev zL13(l:List Int)(mx:Int)(tt:Int):=drawM (3:Int) l ((zL11 l mx tt).2.1) ((zL11 l mx tt).2.2)
abbrev zL14(l:List Int)(mx:Int)(tt:Int):=coinM (7:Int) l mx tt
abbrev zL15(l:List Int)(mx:Int)(tt:Int):=drawM (3:Int) l ((zL12 l mx tt).2.1) ((zL12 l mx tt).2.2)
theorem raced_L0_p0{n:Int}{sh:Bool}{l:List Int}{nx st:Int}{i:Nat}{o:List Int}{pl:Int}{la:List Int}{mx tt x100:Int}{i':Nat}{mx' tt':Int}(h0:(i:Int)<((((shufM n l nx st).1).length:Nat):Int))(h1:((shufM n l nx st).1)[i]? = some x100)(h2:0≤mx∧mx≤1000000000)(h3:((coinM (7:Int) l mx tt).1)=true)(h4:inR (((i+1):Nat):Int))(ei':i'=(i+1))(emx':mx'=((coinM (7:Int) l mx tt).2.1))(ett':tt'=((coinM (7:Int) l mx tt).2.2)):CodeOK Tryz.prog 1 zL1c0 (raced_S0 n sh l nx st i o.length (o.map intP) pl la.length (la.map intP) mx tt) .normal (raced_S0 n sh l nx st i' o.length (o.map intP) pl la.length (la.map intP) mx' tt'):=by
  subst ei' emx' ett'
  exact CodeOK.fin (g:=⟨(rng [(1,1),(3,3),(10,6),(19,45)]),[1,2,3],[],[]⟩) (o:=[bT,.x (intP x100),.c (.p (blP ((zL14 l mx tt).1))) [(0,(.box 141 [(.p (.sl l.length (l.map byteP))),(.p (intP ((zL14 l mx tt).2.1))),(.p (.v (.int .u32 ((zL14 l mx tt).2.2))))]))],bT]) (l:=[_,_,FC Tryz.prog 137 [(.ptr 0 0),(.p (intP 7))] [(0,(.box 141 [(.p (.sl l.length (l.map byteP))),(.p (intP mx)),(.p (.v (.int .u32 tt)))]))] 4 (.p (blP ((zL14 l mx tt).1))) [(0,(.box 141 [(.p (.sl l.length (l.map byteP))),(.p (intP ((zL14 l mx tt).2.1))),(.p (.v (.int .u32 ((zL14 l mx tt).2.2))))]))],_,_,_]) (by kernel_rfl) (gc h4 (gc h3 (gc (FMM.fc (ids:=[0]) (coin_ok (7:Int) l mx tt h2) (by kernel_rfl)) (gc (atm intP h1) (gc (ix_own (i:=(i:Int)) (Int.natCast_nonneg _) h1) (gc (q_lt h0) gn))))))
theorem raced_L0_p1{n:Int}{sh:Bool}{l:List Int}{nx st:Int}{i:Nat}{o:List Int}{pl:Int}{la:List Int}{mx tt x100 x101 x102 x103:Int}{i':Nat}{o':List Int}{pl':Int}{la':List Int}{mx' tt':Int}(h0:(i:Int)<((((shufM n l nx st).1).length:Nat):Int))(h1:((shufM n l nx st).1)[i]? = some x100)(h2:0≤mx∧mx≤1000000000)(h3:((coinM (7:Int) l mx tt).1)=false)(h4:sh=true)(h5:(0:Int)<(la.length:Int))(h6:0≤((coinM (7:Int) l mx tt).2.1)∧((coinM (7:Int) l mx tt).2.1)≤1000000000)(h7:((coinM (4:Int) l ((coinM (7:Int) l mx tt).2.1) ((coinM (7:Int) l mx tt).2.2)).1)=true)(h8:la[0]? = some x101)(h9:o[x101.toNat]? = some x102)(h10:0≤x101)(h11:o[x100.toNat]? = some x103)(h12:0≤x100)(h13:(x100.toNat*1)<(o.map intP).length)(h14:[(intP x100)].length=1*1∧la.length+1≤1000000)(h15:inR (pl+(1:Int)))(h16:inR (((i+1):Nat):Int))(ei':i'=(i+1))(eo'n:o'.length=o.length)(eo'c:o'.map intP=((o.map intP).set (x100.toNat*1) (intP x102)))(epl':pl'=(pl+(1:Int)))(ela'n:la'.length=(la.length+1))(ela'c:la'.map intP=((la.map intP)++[(intP x100)]))(emx':mx'=((coinM (4:Int) l ((coinM (7:Int) l mx tt).2.1) ((coinM (7:Int) l mx tt).2.2)).2.1))(ett':tt'=((coinM (4:Int) l ((coinM (7:Int) l mx tt).2.1) ((coinM (7:Int) l mx tt).2.2)).2.2)):CodeOK Tryz.prog 1 zL1c0 (raced_S0 n sh l nx st i o.length (o.map intP) pl la.length (la.map intP) mx tt) .normal (raced_S0 n sh l nx st i' o'.length (o'.map intP) pl' la'.length (la'.map intP) mx' tt'):=by
  subst ei' epl' emx' ett'
  have raw:CodeOK Tryz.prog 1 zL1c0 (raced_S0 n sh l nx st i o.length (o.map intP) pl la.length (la.map intP) mx tt) .normal (raced_S0 n sh l nx st (i+1) o.length ((o.map intP).set (x100.toNat*1) (intP x102)) (pl+(1:Int)) (la.length+1) ((la.map intP)++[(intP x100)]) ((zL10 l mx tt).2.1) ((zL10 l mx tt).2.2)):=CodeOK.fin (g:=⟨(rng [(1,1),(3,3),(10,6),(19,45)]),[1,2,5],[],[]⟩) (o:=[bT,.x (intP x100),.c (.p (blP ((zL14 l mx tt).1))) [(0,(.box 141 [(.p (.sl l.length (l.map byteP))),(.p (intP ((zL14 l mx tt).2.1))),(.p (.v (.int .u32 ((zL14 l mx tt).2.2))))]))],bF,bT,bT,bT,bT,bT,bT,.c (.p (blP ((zL10 l mx tt).1))) [(0,(.box 141 [(.p (.sl l.length (l.map byteP))),(.p (intP ((zL10 l mx tt).2.1))),(.p (.v (.int .u32 ((zL10 l mx tt).2.2))))]))],bT,bT,.x (intP x101),.x (intP x102)]) (l:=[_,_,_,_,_,(o.map intP)[(x101.toNat*1)]? = some (intP x102),_,(la.map intP)[0]? = some (intP x101),_,_,_,FC Tryz.prog 137 [(.ptr 0 0),(.p (intP 4))] [(0,(.box 141 [(.p (.sl l.length (l.map byteP))),(.p (intP ((zL14 l mx tt).2.1))),(.p (.v (.int .u32 ((zL14 l mx tt).2.2))))]))] 4 (.p (blP ((zL10 l mx tt).1))) [(0,(.box 141 [(.p (.sl l.length (l.map byteP))),(.p (intP ((zL10 l mx tt).2.1))),(.p (.v (.int .u32 ((zL10 l mx tt).2.2))))]))],_,_,_,_,_,_,_,FC Tryz.prog 137 [(.ptr 0 0),(.p (intP 7))] [(0,(.box 141 [(.p (.sl l.length (l.map byteP))),(.p (intP mx)),(.p (.v (.int .u32 tt)))]))] 4 (.p (blP ((zL14 l mx tt).1))) [(0,(.box 141 [(.p (.sl l.length (l.map byteP))),(.p (intP ((zL14 l mx tt).2.1))),(.p (.v (.int .u32 ((zL14 l mx tt).2.2))))]))],_,_,_]) (by kernel_rfl) (gc h16 (gc h15 (gc h14 (gc h13 (gc (ix_own (i:=x100) h12 h11) (gc (at_map (i:=x101.toNat) h9) (gc (ix_own (i:=x101) h10 h9) (gc (at_map (i:=0) h8) (gc (ix_own (i:=(0:Int)) (by first | decide | simp) h8) (gc h7 (gc (q_lt h5) (gc (FMM.fc (ids:=[0]) (coin_ok (4:Int) l ((zL14 l mx tt).2.1) ((zL14 l mx tt).2.2) h6) (by kernel_rfl)) (gc (q_lt h5) (gc (q_lt h5) (gc h4 (gc h4 (gc h4 (gc h4 (gc h3 (gc (FMM.fc (ids:=[0]) (coin_ok (7:Int) l mx tt h2) (by kernel_rfl)) (gc (atm intP h1) (gc (ix_own (i:=(i:Int)) (Int.natCast_nonneg _) h1) (gc (q_lt h0) gn)))))))))))))))))))))))
  exact raw.cast (by rw [eo'n,eo'c,ela'n,ela'c])
theorem raced_L0_p2{n:Int}{sh:Bool}{l:List Int}{nx st:Int}{i:Nat}{o:List Int}{pl:Int}{la:List Int}{mx tt x100 x101:Int}{i':Nat}{o':List Int}{pl':Int}{la':List Int}{mx' tt':Int}(h0:(i:Int)<((((shufM n l nx st).1).length:Nat):Int))(h1:((shufM n l nx st).1)[i]? = some x100)(h2:0≤mx∧mx≤1000000000)(h3:((coinM (7:Int) l mx tt).1)=false)(h4:sh=true)(h5:(0:Int)<(la.length:Int))(h6:0≤((coinM (7:Int) l mx tt).2.1)∧((coinM (7:Int) l mx tt).2.1)≤1000000000)(h7:((coinM (4:Int) l ((coinM (7:Int) l mx tt).2.1) ((coinM (7:Int) l mx tt).2.2)).1)=false)(h8:0≤((coinM (4:Int) l ((coinM (7:Int) l mx tt).2.1) ((coinM (7:Int) l mx tt).2.2)).2.1)∧((coinM (4:Int) l ((coinM (7:Int) l mx tt).2.1) ((coinM (7:Int) l mx tt).2.2)).2.1)≤1000000000)(h9:((coinM (5:Int) l ((coinM (4:Int) l ((coinM (7:Int) l mx tt).2.1) ((coinM (7:Int) l mx tt).2.2)).2.1) ((coinM (4:Int) l ((coinM (7:Int) l mx tt).2.1) ((coinM (7:Int) l mx tt).2.2)).2.2)).1)=true)(h10:0≤((coinM (5:Int) l ((coinM (4:Int) l ((coinM (7:Int) l mx tt).2.1) ((coinM (7:Int) l mx tt).2.2)).2.1) ((coinM (4:Int) l ((coinM (7:Int) l mx tt).2.1) ((coinM (7:Int) l mx tt).2.2)).2.2)).2.1)∧((coinM (5:Int) l ((coinM (4:Int) l ((coinM (7:Int) l mx tt).2.1) ((coinM (7:Int) l mx tt).2.2)).2.1) ((coinM (4:Int) l ((coinM (7:Int) l mx tt).2.1) ((coinM (7:Int) l mx tt).2.2)).2.2)).2.1)≤1000000000)(h11:inR (pl+((drawM (3:Int) l ((coinM (5:Int) l ((coinM (4:Int) l ((coinM (7:Int) l mx tt).2.1) ((coinM (7:Int) l mx tt).2.2)).2.1) ((coinM (4:Int) l ((coinM (7:Int) l mx tt).2.1) ((coinM (7:Int) l mx tt).2.2)).2.2)).2.1) ((coinM (5:Int) l ((coinM (4:Int) l ((coinM (7:Int) l mx tt).2.1) ((coinM (7:Int) l mx tt).2.2)).2.1) ((coinM (4:Int) l ((coinM (7:Int) l mx tt).2.1) ((coinM (7:Int) l mx tt).2.2)).2.2)).2.2)).1)))(h12:o[x100.toNat]? = some x101)(h13:0≤x100)(h14:(x100.toNat*1)<(o.map intP).length)(h15:inR ((pl+((drawM (3:Int) l ((coinM (5:Int) l ((coinM (4:Int) l ((coinM (7:Int) l mx tt).2.1) ((coinM (7:Int) l mx tt).2.2)).2.1) ((coinM (4:Int) l ((coinM (7:Int) l mx tt).2.1) ((coinM (7:Int) l mx tt).2.2)).2.2)).2.1) ((coinM (5:Int) l ((coinM (4:Int) l ((coinM (7:Int) l mx tt).2.1) ((coinM (7:Int) l mx tt).2.2)).2.1) ((coinM (4:Int) l ((coinM (7:Int) l mx tt).2.1) ((coinM (7:Int) l mx tt).2.2)).2.2)).2.2)).1))+(1:Int)))(h16:inR (((i+1):Nat):Int))(ei':i'=(i+1))(eo'n:o'.length=o.length)(eo'c:o'.map intP=((o.map intP).set (x100.toNat*1) (intP (pl+((drawM (3:Int) l ((coinM (5:Int) l ((coinM (4:Int) l ((coinM (7:Int) l mx tt).2.1) ((coinM (7:Int) l mx tt).2.2)).2.1) ((coinM (4:Int) l ((coinM (7:Int) l mx tt).2.1) ((coinM (7:Int) l mx tt).2.2)).2.2)).2.1) ((coinM (5:Int) l ((coinM (4:Int) l ((coinM (7:Int) l mx tt).2.1) ((coinM (7:Int) l mx tt).2.2)).2.1) ((coinM (4:Int) l ((coinM (7:Int) l mx tt).2.1) ((coinM (7:Int) l mx tt).2.2)).2.2)).2.2)).1)))))(epl':pl'=((pl+((drawM (3:Int) l ((coinM (5:Int) l ((coinM (4:Int) l ((coinM (7:Int) l mx tt).2.1) ((coinM (7:Int) l mx tt).2.2)).2.1) ((coinM (4:Int) l ((coinM (7:Int) l mx tt).2.1) ((coinM (7:Int) l mx tt).2.2)).2.2)).2.1) ((coinM (5:Int) l ((coinM (4:Int) l ((coinM (7:Int) l mx tt).2.1) ((coinM (7:Int) l mx tt).2.2)).2.1) ((coinM (4:Int) l ((coinM (7:Int) l mx tt).2.1) ((coinM (7:Int) l mx tt).2.2)).2.2)).2.2)).1))+(1:Int)))(ela'n:la'.length=1)(ela'c:la'.map intP=[(intP x100)])(emx':mx'=((drawM (3:Int) l ((coinM (5:Int) l ((coinM (4:Int) l ((coinM (7:Int) l mx tt).2.1) ((coinM (7:Int) l mx tt).2.2)).2.1) ((coinM (4:Int) l ((coinM (7:Int) l mx tt).2.1) ((coinM (7:Int) l mx tt).2.2)).2.2)).2.1) ((coinM (5:Int) l ((coinM (4:Int) l ((coinM (7:Int) l mx tt).2.1) ((coinM (7:Int) l mx tt).2.2)).2.1) ((coinM (4:Int) l ((coinM (7:Int) l mx tt).2.1) ((coinM (7:Int) l mx tt).2.2)).2.2)).2.2)).2.1))(ett':tt'=((drawM (3:Int) l ((coinM (5:Int) l ((coinM (4:Int) l ((coinM (7:Int) l mx tt).2.1) ((coinM (7:Int) l mx tt).2.2)).2.1) ((coinM (4:Int) l ((coinM (7:Int) l mx tt).2.1) ((coinM (7:Int) l mx tt).2.2)).2.2)).2.1) ((coinM (5:Int) l ((coinM (4:Int) l ((coinM (7:Int) l mx tt).2.1) ((coinM (7:Int) l mx tt).2.2)).2.1) ((coinM (4:Int) l ((coinM (7:Int) l mx tt).2.1) ((coinM (7:Int) l mx tt).2.2)).2.2)).2.2)).2.2)):CodeOK Tryz.prog 1 zL1c0 (raced_S0 n sh l nx st i o.length (o.map intP) pl la.length (la.map intP) mx tt) .normal (raced_S0 n sh l nx st i' o'.length (o'.map intP) pl' la'.length (la'.map intP) mx' tt'):=by
  subst ei' epl' emx' ett'
  have raw:CodeOK Tryz.prog 1 zL1c0 (raced_S0 n sh l nx st i o.length (o.map intP) pl la.length (la.map intP) mx tt) .normal (raced_S0 n sh l nx st (i+1) o.length ((o.map intP).set (x100.toNat*1) (intP (pl+((zL15 l mx tt).1)))) ((pl+((zL15 l mx tt).1))+(1:Int)) 1 [(intP x100)] ((zL15 l mx tt).2.1) ((zL15 l mx tt).2.2)):=CodeOK.fin (g:=⟨(rng [(1,1),(3,3),(10,6),(19,45)]),[1,2,4],[],[]⟩) (o:=[bT,.x (intP x100),.c (.p (blP ((zL14 l mx tt).1))) [(0,(.box 141 [(.p (.sl l.length (l.map byteP))),(.p (intP ((zL14 l mx tt).2.1))),(.p (.v (.int .u32 ((zL14 l mx tt).2.2))))]))],bF,bT,bT,bT,bT,bT,bT,.c (.p (blP ((zL10 l mx tt).1))) [(0,(.box 141 [(.p (.sl l.length (l.map byteP))),(.p (intP ((zL10 l mx tt).2.1))),(.p (.v (.int .u32 ((zL10 l mx tt).2.2))))]))],bT,bF,.c (.p (blP ((zL12 l mx tt).1))) [(0,(.box 141 [(.p (.sl l.length (l.map byteP))),(.p (intP ((zL12 l mx tt).2.1))),(.p (.v (.int .u32 ((zL12 l mx tt).2.2))))]))],bT,.c (.p (intP ((zL15 l mx tt).1))) [(0,(.box 141 [(.p (.sl l.length (l.map byteP))),(.p (intP ((zL15 l mx tt).2.1))),(.p (.v (.int .u32 ((zL15 l mx tt).2.2))))]))]]) (l:=[_,_,_,_,_,FC Tryz.prog 29 [(.ptr 0 0),(.p (intP 3))] [(0,(.box 141 [(.p (.sl l.length (l.map byteP))),(.p (intP ((zL12 l mx tt).2.1))),(.p (.v (.int .u32 ((zL12 l mx tt).2.2))))]))] 4 (.p (intP ((zL15 l mx tt).1))) [(0,(.box 141 [(.p (.sl l.length (l.map byteP))),(.p (intP ((zL15 l mx tt).2.1))),(.p (.v (.int .u32 ((zL15 l mx tt).2.2))))]))],_,FC Tryz.prog 137 [(.ptr 0 0),(.p (intP 5))] [(0,(.box 141 [(.p (.sl l.length (l.map byteP))),(.p (intP ((zL10 l mx tt).2.1))),(.p (.v (.int .u32 ((zL10 l mx tt).2.2))))]))] 4 (.p (blP ((zL12 l mx tt).1))) [(0,(.box 141 [(.p (.sl l.length (l.map byteP))),(.p (intP ((zL12 l mx tt).2.1))),(.p (.v (.int .u32 ((zL12 l mx tt).2.2))))]))],_,_,FC Tryz.prog 137 [(.ptr 0 0),(.p (intP 4))] [(0,(.box 141 [(.p (.sl l.length (l.map byteP))),(.p (intP ((zL14 l mx tt).2.1))),(.p (.v (.int .u32 ((zL14 l mx tt).2.2))))]))] 4 (.p (blP ((zL10 l mx tt).1))) [(0,(.box 141 [(.p (.sl l.length (l.map byteP))),(.p (intP ((zL10 l mx tt).2.1))),(.p (.v (.int .u32 ((zL10 l mx tt).2.2))))]))],_,_,_,_,_,_,_,FC Tryz.prog 137 [(.ptr 0 0),(.p (intP 7))] [(0,(.box 141 [(.p (.sl l.length (l.map byteP))),(.p (intP mx)),(.p (.v (.int .u32 tt)))]))] 4 (.p (blP ((zL14 l mx tt).1))) [(0,(.box 141 [(.p (.sl l.length (l.map byteP))),(.p (intP ((zL14 l mx tt).2.1))),(.p (.v (.int .u32 ((zL14 l mx tt).2.2))))]))],_,_,_]) (by kernel_rfl) (gc h16 (gc h15 (gc h14 (gc (ix_own (i:=x100) h13 h12) (gc h11 (gc (FMM.fc (ids:=[0]) (draw_ok (3:Int) l ((zL12 l mx tt).2.1) ((zL12 l mx tt).2.2) h10) (by kernel_rfl)) (gc h9 (gc (FMM.fc (ids:=[0]) (coin_ok (5:Int) l ((zL10 l mx tt).2.1) ((zL10 l mx tt).2.2) h8) (by kernel_rfl)) (gc h7 (gc (q_lt h5) (gc (FMM.fc (ids:=[0]) (coin_ok (4:Int) l ((zL14 l mx tt).2.1) ((zL14 l mx tt).2.2) h6) (by kernel_rfl)) (gc (q_lt h5) (gc (q_lt h5) (gc h4 (gc h4 (gc h4 (gc h4 (gc h3 (gc (FMM.fc (ids:=[0]) (coin_ok (7:Int) l mx tt h2) (by kernel_rfl)) (gc (atm intP h1) (gc (ix_own (i:=(i:Int)) (Int.natCast_nonneg _) h1) (gc (q_lt h0) gn))))))))))))))))))))))
  exact raw.cast (by rw [eo'n,eo'c,ela'n,ela'c])
theorem raced_L0_p3{n:Int}{sh:Bool}{l:List Int}{nx st:Int}{i:Nat}{o:List Int}{pl:Int}{la:List Int}{mx tt x100 x101:Int}{i':Nat}{o':List Int}{pl':Int}{la':List Int}{mx' tt':Int}(h0:(i:Int)<((((shufM n l nx st).1).length:Nat):Int))(h1:((shufM n l nx st).1)[i]? = some x100)(h2:0≤mx∧mx≤1000000000)(h3:((coinM (7:Int) l mx tt).1)=false)(h4:sh=true)(h5:(0:Int)<(la.length:Int))(h6:0≤((coinM (7:Int) l mx tt).2.1)∧((coinM (7:Int) l mx tt).2.1)≤1000000000)(h7:((coinM (4:Int) l ((coinM (7:Int) l mx tt).2.1) ((coinM (7:Int) l mx tt).2.2)).1)=false)(h8:0≤((coinM (4:Int) l ((coinM (7:Int) l mx tt).2.1) ((coinM (7:Int) l mx tt).2.2)).2.1)∧((coinM (4:Int) l ((coinM (7:Int) l mx tt).2.1) ((coinM (7:Int) l mx tt).2.2)).2.1)≤1000000000)(h9:((coinM (5:Int) l ((coinM (4:Int) l ((coinM (7:Int) l mx tt).2.1) ((coinM (7:Int) l mx tt).2.2)).2.1) ((coinM (4:Int) l ((coinM (7:Int) l mx tt).2.1) ((coinM (7:Int) l mx tt).2.2)).2.2)).1)=false)(h10:o[x100.toNat]? = some x101)(h11:0≤x100)(h12:(x100.toNat*1)<(o.map intP).length)(h13:inR (pl+(1:Int)))(h14:inR (((i+1):Nat):Int))(ei':i'=(i+1))(eo'n:o'.length=o.length)(eo'c:o'.map intP=((o.map intP).set (x100.toNat*1) (intP pl)))(epl':pl'=(pl+(1:Int)))(ela'n:la'.length=1)(ela'c:la'.map intP=[(intP x100)])(emx':mx'=((coinM (5:Int) l ((coinM (4:Int) l ((coinM (7:Int) l mx tt).2.1) ((coinM (7:Int) l mx tt).2.2)).2.1) ((coinM (4:Int) l ((coinM (7:Int) l mx tt).2.1) ((coinM (7:Int) l mx tt).2.2)).2.2)).2.1))(ett':tt'=((coinM (5:Int) l ((coinM (4:Int) l ((coinM (7:Int) l mx tt).2.1) ((coinM (7:Int) l mx tt).2.2)).2.1) ((coinM (4:Int) l ((coinM (7:Int) l mx tt).2.1) ((coinM (7:Int) l mx tt).2.2)).2.2)).2.2)):CodeOK Tryz.prog 1 zL1c0 (raced_S0 n sh l nx st i o.length (o.map intP) pl la.length (la.map intP) mx tt) .normal (raced_S0 n sh l nx st i' o'.length (o'.map intP) pl' la'.length (la'.map intP) mx' tt'):=by
  subst ei' epl' emx' ett'
  have raw:CodeOK Tryz.prog 1 zL1c0 (raced_S0 n sh l nx st i o.length (o.map intP) pl la.length (la.map intP) mx tt) .normal (raced_S0 n sh l nx st (i+1) o.length ((o.map intP).set (x100.toNat*1) (intP pl)) (pl+(1:Int)) 1 [(intP x100)] ((zL12 l mx tt).2.1) ((zL12 l mx tt).2.2)):=CodeOK.fin (g:=⟨(rng [(1,1),(3,3),(10,6),(19,45)]),[1,2,4],[],[]⟩) (o:=[bT,.x (intP x100),.c (.p (blP ((zL14 l mx tt).1))) [(0,(.box 141 [(.p (.sl l.length (l.map byteP))),(.p (intP ((zL14 l mx tt).2.1))),(.p (.v (.int .u32 ((zL14 l mx tt).2.2))))]))],bF,bT,bT,bT,bT,bT,bT,.c (.p (blP ((zL10 l mx tt).1))) [(0,(.box 141 [(.p (.sl l.length (l.map byteP))),(.p (intP ((zL10 l mx tt).2.1))),(.p (.v (.int .u32 ((zL10 l mx tt).2.2))))]))],bT,bF,.c (.p (blP ((zL12 l mx tt).1))) [(0,(.box 141 [(.p (.sl l.length (l.map byteP))),(.p (intP ((zL12 l mx tt).2.1))),(.p (.v (.int .u32 ((zL12 l mx tt).2.2))))]))],bF]) (l:=[_,_,_,_,_,FC Tryz.prog 137 [(.ptr 0 0),(.p (intP 5))] [(0,(.box 141 [(.p (.sl l.length (l.map byteP))),(.p (intP ((zL10 l mx tt).2.1))),(.p (.v (.int .u32 ((zL10 l mx tt).2.2))))]))] 4 (.p (blP ((zL12 l mx tt).1))) [(0,(.box 141 [(.p (.sl l.length (l.map byteP))),(.p (intP ((zL12 l mx tt).2.1))),(.p (.v (.int .u32 ((zL12 l mx tt).2.2))))]))],_,_,FC Tryz.prog 137 [(.ptr 0 0),(.p (intP 4))] [(0,(.box 141 [(.p (.sl l.length (l.map byteP))),(.p (intP ((zL14 l mx tt).2.1))),(.p (.v (.int .u32 ((zL14 l mx tt).2.2))))]))] 4 (.p (blP ((zL10 l mx tt).1))) [(0,(.box 141 [(.p (.sl l.length (l.map byteP))),(.p (intP ((zL10 l mx tt).2.1))),(.p (.v (.int .u32 ((zL10 l mx tt).2.2))))]))],_,_,_,_,_,_,_,FC Tryz.prog 137 [(.ptr 0 0),(.p (intP 7))] [(0,(.box 141 [(.p (.sl l.length (l.map byteP))),(.p (intP mx)),(.p (.v (.int .u32 tt)))]))] 4 (.p (blP ((zL14 l mx tt).1))) [(0,(.box 141 [(.p (.sl l.length (l.map byteP))),(.p (intP ((zL14 l mx tt).2.1))),(.p (.v (.int .u32 ((zL14 l mx tt).2.2))))]))],_,_,_]) (by kernel_rfl) (gc h14 (gc h13 (gc h12 (gc (ix_own (i:=x100) h11 h10) (gc h9 (gc (FMM.fc (ids:=[0]) (coin_ok (5:Int) l ((zL10 l mx tt).2.1) ((zL10 l mx tt).2.2) h8) (by kernel_rfl)) (gc h7 (gc (q_lt h5) (gc (FMM.fc (ids:=[0]) (coin_ok (4:Int) l ((zL14 l mx tt).2.1) ((zL14 l mx tt).2.2) h6) (by kernel_rfl)) (gc (q_lt h5) (gc (q_lt h5) (gc h4 (gc h4 (gc h4 (gc h4 (gc h3 (gc (FMM.fc (ids:=[0]) (coin_ok (7:Int) l mx tt h2) (by kernel_rfl)) (gc (atm intP h1) (gc (ix_own (i:=(i:Int)) (Int.natCast_nonneg _) h1) (gc (q_lt h0) gn))))))))))))))))))))
  exact raw.cast (by rw [eo'n,eo'c,ela'n,ela'c])
theorem raced_L0_p4{n:Int}{sh:Bool}{l:List Int}{nx st:Int}{i:Nat}{o:List Int}{pl:Int}{la:List Int}{mx tt x100 x101:Int}{i':Nat}{o':List Int}{pl':Int}{la':List Int}{mx' tt':Int}(h0:(i:Int)<((((shufM n l nx st).1).length:Nat):Int))(h1:((shufM n l nx st).1)[i]? = some x100)(h2:0≤mx∧mx≤1000000000)(h3:((coinM (7:Int) l mx tt).1)=false)(h4:sh=true)(h5:(la.length:Int)≤(0:Int))(h6:0≤((coinM (7:Int) l mx tt).2.1)∧((coinM (7:Int) l mx tt).2.1)≤1000000000)(h7:((coinM (5:Int) l ((coinM (7:Int) l mx tt).2.1) ((coinM (7:Int) l mx tt).2.2)).1)=true)(h8:0≤((coinM (5:Int) l ((coinM (7:Int) l mx tt).2.1) ((coinM (7:Int) l mx tt).2.2)).2.1)∧((coinM (5:Int) l ((coinM (7:Int) l mx tt).2.1) ((coinM (7:Int) l mx tt).2.2)).2.1)≤1000000000)(h9:inR (pl+((drawM (3:Int) l ((coinM (5:Int) l ((coinM (7:Int) l mx tt).2.1) ((coinM (7:Int) l mx tt).2.2)).2.1) ((coinM (5:Int) l ((coinM (7:Int) l mx tt).2.1) ((coinM (7:Int) l mx tt).2.2)).2.2)).1)))(h10:o[x100.toNat]? = some x101)(h11:0≤x100)(h12:(x100.toNat*1)<(o.map intP).length)(h13:inR ((pl+((drawM (3:Int) l ((coinM (5:Int) l ((coinM (7:Int) l mx tt).2.1) ((coinM (7:Int) l mx tt).2.2)).2.1) ((coinM (5:Int) l ((coinM (7:Int) l mx tt).2.1) ((coinM (7:Int) l mx tt).2.2)).2.2)).1))+(1:Int)))(h14:inR (((i+1):Nat):Int))(ei':i'=(i+1))(eo'n:o'.length=o.length)(eo'c:o'.map intP=((o.map intP).set (x100.toNat*1) (intP (pl+((drawM (3:Int) l ((coinM (5:Int) l ((coinM (7:Int) l mx tt).2.1) ((coinM (7:Int) l mx tt).2.2)).2.1) ((coinM (5:Int) l ((coinM (7:Int) l mx tt).2.1) ((coinM (7:Int) l mx tt).2.2)).2.2)).1)))))(epl':pl'=((pl+((drawM (3:Int) l ((coinM (5:Int) l ((coinM (7:Int) l mx tt).2.1) ((coinM (7:Int) l mx tt).2.2)).2.1) ((coinM (5:Int) l ((coinM (7:Int) l mx tt).2.1) ((coinM (7:Int) l mx tt).2.2)).2.2)).1))+(1:Int)))(ela'n:la'.length=1)(ela'c:la'.map intP=[(intP x100)])(emx':mx'=((drawM (3:Int) l ((coinM (5:Int) l ((coinM (7:Int) l mx tt).2.1) ((coinM (7:Int) l mx tt).2.2)).2.1) ((coinM (5:Int) l ((coinM (7:Int) l mx tt).2.1) ((coinM (7:Int) l mx tt).2.2)).2.2)).2.1))(ett':tt'=((drawM (3:Int) l ((coinM (5:Int) l ((coinM (7:Int) l mx tt).2.1) ((coinM (7:Int) l mx tt).2.2)).2.1) ((coinM (5:Int) l ((coinM (7:Int) l mx tt).2.1) ((coinM (7:Int) l mx tt).2.2)).2.2)).2.2)):CodeOK Tryz.prog 1 zL1c0 (raced_S0 n sh l nx st i o.length (o.map intP) pl la.length (la.map intP) mx tt) .normal (raced_S0 n sh l nx st i' o'.length (o'.map intP) pl' la'.length (la'.map intP) mx' tt'):=by
  subst ei' epl' emx' ett'
  have raw:CodeOK Tryz.prog 1 zL1c0 (raced_S0 n sh l nx st i o.length (o.map intP) pl la.length (la.map intP) mx tt) .normal (raced_S0 n sh l nx st (i+1) o.length ((o.map intP).set (x100.toNat*1) (intP (pl+((zL13 l mx tt).1)))) ((pl+((zL13 l mx tt).1))+(1:Int)) 1 [(intP x100)] ((zL13 l mx tt).2.1) ((zL13 l mx tt).2.2)):=CodeOK.fin (g:=⟨(rng [(1,1),(3,3),(10,6),(19,45)]),[1,2,4],[],[]⟩) (o:=[bT,.x (intP x100),.c (.p (blP ((zL14 l mx tt).1))) [(0,(.box 141 [(.p (.sl l.length (l.map byteP))),(.p (intP ((zL14 l mx tt).2.1))),(.p (.v (.int .u32 ((zL14 l mx tt).2.2))))]))],bF,bT,bT,bT,bT,bF,bF,bF,.c (.p (blP ((zL11 l mx tt).1))) [(0,(.box 141 [(.p (.sl l.length (l.map byteP))),(.p (intP ((zL11 l mx tt).2.1))),(.p (.v (.int .u32 ((zL11 l mx tt).2.2))))]))],bT,.c (.p (intP ((zL13 l mx tt).1))) [(0,(.box 141 [(.p (.sl l.length (l.map byteP))),(.p (intP ((zL13 l mx tt).2.1))),(.p (.v (.int .u32 ((zL13 l mx tt).2.2))))]))]]) (l:=[_,_,_,_,_,FC Tryz.prog 29 [(.ptr 0 0),(.p (intP 3))] [(0,(.box 141 [(.p (.sl l.length (l.map byteP))),(.p (intP ((zL11 l mx tt).2.1))),(.p (.v (.int .u32 ((zL11 l mx tt).2.2))))]))] 4 (.p (intP ((zL13 l mx tt).1))) [(0,(.box 141 [(.p (.sl l.length (l.map byteP))),(.p (intP ((zL13 l mx tt).2.1))),(.p (.v (.int .u32 ((zL13 l mx tt).2.2))))]))],_,FC Tryz.prog 137 [(.ptr 0 0),(.p (intP 5))] [(0,(.box 141 [(.p (.sl l.length (l.map byteP))),(.p (intP ((zL14 l mx tt).2.1))),(.p (.v (.int .u32 ((zL14 l mx tt).2.2))))]))] 4 (.p (blP ((zL11 l mx tt).1))) [(0,(.box 141 [(.p (.sl l.length (l.map byteP))),(.p (intP ((zL11 l mx tt).2.1))),(.p (.v (.int .u32 ((zL11 l mx tt).2.2))))]))],_,_,_,_,_,_,_,_,FC Tryz.prog 137 [(.ptr 0 0),(.p (intP 7))] [(0,(.box 141 [(.p (.sl l.length (l.map byteP))),(.p (intP mx)),(.p (.v (.int .u32 tt)))]))] 4 (.p (blP ((zL14 l mx tt).1))) [(0,(.box 141 [(.p (.sl l.length (l.map byteP))),(.p (intP ((zL14 l mx tt).2.1))),(.p (.v (.int .u32 ((zL14 l mx tt).2.2))))]))],_,_,_]) (by kernel_rfl) (gc h14 (gc h13 (gc h12 (gc (ix_own (i:=x100) h11 h10) (gc h9 (gc (FMM.fc (ids:=[0]) (draw_ok (3:Int) l ((zL11 l mx tt).2.1) ((zL11 l mx tt).2.2) h8) (by kernel_rfl)) (gc h7 (gc (FMM.fc (ids:=[0]) (coin_ok (5:Int) l ((zL14 l mx tt).2.1) ((zL14 l mx tt).2.2) h6) (by kernel_rfl)) (gc (q_ltF h5) (gc (q_ltF h5) (gc (q_ltF h5) (gc h4 (gc h4 (gc h4 (gc h4 (gc h3 (gc (FMM.fc (ids:=[0]) (coin_ok (7:Int) l mx tt h2) (by kernel_rfl)) (gc (atm intP h1) (gc (ix_own (i:=(i:Int)) (Int.natCast_nonneg _) h1) (gc (q_lt h0) gn))))))))))))))))))))
  exact raw.cast (by rw [eo'n,eo'c,ela'n,ela'c])
theorem raced_L0_p5{n:Int}{sh:Bool}{l:List Int}{nx st:Int}{i:Nat}{o:List Int}{pl:Int}{la:List Int}{mx tt x100 x101:Int}{i':Nat}{o':List Int}{pl':Int}{la':List Int}{mx' tt':Int}(h0:(i:Int)<((((shufM n l nx st).1).length:Nat):Int))(h1:((shufM n l nx st).1)[i]? = some x100)(h2:0≤mx∧mx≤1000000000)(h3:((coinM (7:Int) l mx tt).1)=false)(h4:sh=true)(h5:(la.length:Int)≤(0:Int))(h6:0≤((coinM (7:Int) l mx tt).2.1)∧((coinM (7:Int) l mx tt).2.1)≤1000000000)(h7:((coinM (5:Int) l ((coinM (7:Int) l mx tt).2.1) ((coinM (7:Int) l mx tt).2.2)).1)=false)(h8:o[x100.toNat]? = some x101)(h9:0≤x100)(h10:(x100.toNat*1)<(o.map intP).length)(h11:inR (pl+(1:Int)))(h12:inR (((i+1):Nat):Int))(ei':i'=(i+1))(eo'n:o'.length=o.length)(eo'c:o'.map intP=((o.map intP).set (x100.toNat*1) (intP pl)))(epl':pl'=(pl+(1:Int)))(ela'n:la'.length=1)(ela'c:la'.map intP=[(intP x100)])(emx':mx'=((coinM (5:Int) l ((coinM (7:Int) l mx tt).2.1) ((coinM (7:Int) l mx tt).2.2)).2.1))(ett':tt'=((coinM (5:Int) l ((coinM (7:Int) l mx tt).2.1) ((coinM (7:Int) l mx tt).2.2)).2.2)):CodeOK Tryz.prog 1 zL1c0 (raced_S0 n sh l nx st i o.length (o.map intP) pl la.length (la.map intP) mx tt) .normal (raced_S0 n sh l nx st i' o'.length (o'.map intP) pl' la'.length (la'.map intP) mx' tt'):=by
  subst ei' epl' emx' ett'
  have raw:CodeOK Tryz.prog 1 zL1c0 (raced_S0 n sh l nx st i o.length (o.map intP) pl la.length (la.map intP) mx tt) .normal (raced_S0 n sh l nx st (i+1) o.length ((o.map intP).set (x100.toNat*1) (intP pl)) (pl+(1:Int)) 1 [(intP x100)] ((zL11 l mx tt).2.1) ((zL11 l mx tt).2.2)):=CodeOK.fin (g:=⟨(rng [(1,1),(3,3),(10,6),(19,45)]),[1,2,4],[],[]⟩) (o:=[bT,.x (intP x100),.c (.p (blP ((zL14 l mx tt).1))) [(0,(.box 141 [(.p (.sl l.length (l.map byteP))),(.p (intP ((zL14 l mx tt).2.1))),(.p (.v (.int .u32 ((zL14 l mx tt).2.2))))]))],bF,bT,bT,bT,bT,bF,bF,bF,.c (.p (blP ((zL11 l mx tt).1))) [(0,(.box 141 [(.p (.sl l.length (l.map byteP))),(.p (intP ((zL11 l mx tt).2.1))),(.p (.v (.int .u32 ((zL11 l mx tt).2.2))))]))],bF]) (l:=[_,_,_,_,_,FC Tryz.prog 137 [(.ptr 0 0),(.p (intP 5))] [(0,(.box 141 [(.p (.sl l.length (l.map byteP))),(.p (intP ((zL14 l mx tt).2.1))),(.p (.v (.int .u32 ((zL14 l mx tt).2.2))))]))] 4 (.p (blP ((zL11 l mx tt).1))) [(0,(.box 141 [(.p (.sl l.length (l.map byteP))),(.p (intP ((zL11 l mx tt).2.1))),(.p (.v (.int .u32 ((zL11 l mx tt).2.2))))]))],_,_,_,_,_,_,_,_,FC Tryz.prog 137 [(.ptr 0 0),(.p (intP 7))] [(0,(.box 141 [(.p (.sl l.length (l.map byteP))),(.p (intP mx)),(.p (.v (.int .u32 tt)))]))] 4 (.p (blP ((zL14 l mx tt).1))) [(0,(.box 141 [(.p (.sl l.length (l.map byteP))),(.p (intP ((zL14 l mx tt).2.1))),(.p (.v (.int .u32 ((zL14 l mx tt).2.2))))]))],_,_,_]) (by kernel_rfl) (gc h12 (gc h11 (gc h10 (gc (ix_own (i:=x100) h9 h8) (gc h7 (gc (FMM.fc (ids:=[0]) (coin_ok (5:Int) l ((zL14 l mx tt).2.1) ((zL14 l mx tt).2.2) h6) (by kernel_rfl)) (gc (q_ltF h5) (gc (q_ltF h5) (gc (q_ltF h5) (gc h4 (gc h4 (gc h4 (gc h4 (gc h3 (gc (FMM.fc (ids:=[0]) (coin_ok (7:Int) l mx tt h2) (by kernel_rfl)) (gc (atm intP h1) (gc (ix_own (i:=(i:Int)) (Int.natCast_nonneg _) h1) (gc (q_lt h0) gn))))))))))))))))))
  exact raw.cast (by rw [eo'n,eo'c,ela'n,ela'c])
theorem raced_L0_p6{n:Int}{sh:Bool}{l:List Int}{nx st:Int}{i:Nat}{o:List Int}{pl:Int}{la:List Int}{mx tt x100 x101:Int}{i':Nat}{o':List Int}{pl':Int}{la':List Int}{mx' tt':Int}(h0:(i:Int)<((((shufM n l nx st).1).length:Nat):Int))(h1:((shufM n l nx st).1)[i]? = some x100)(h2:0≤mx∧mx≤1000000000)(h3:((coinM (7:Int) l mx tt).1)=false)(h4:sh=false)(h5:0≤((coinM (7:Int) l mx tt).2.1)∧((coinM (7:Int) l mx tt).2.1)≤1000000000)(h6:((coinM (5:Int) l ((coinM (7:Int) l mx tt).2.1) ((coinM (7:Int) l mx tt).2.2)).1)=true)(h7:0≤((coinM (5:Int) l ((coinM (7:Int) l mx tt).2.1) ((coinM (7:Int) l mx tt).2.2)).2.1)∧((coinM (5:Int) l ((coinM (7:Int) l mx tt).2.1) ((coinM (7:Int) l mx tt).2.2)).2.1)≤1000000000)(h8:inR (pl+((drawM (3:Int) l ((coinM (5:Int) l ((coinM (7:Int) l mx tt).2.1) ((coinM (7:Int) l mx tt).2.2)).2.1) ((coinM (5:Int) l ((coinM (7:Int) l mx tt).2.1) ((coinM (7:Int) l mx tt).2.2)).2.2)).1)))(h9:o[x100.toNat]? = some x101)(h10:0≤x100)(h11:(x100.toNat*1)<(o.map intP).length)(h12:inR ((pl+((drawM (3:Int) l ((coinM (5:Int) l ((coinM (7:Int) l mx tt).2.1) ((coinM (7:Int) l mx tt).2.2)).2.1) ((coinM (5:Int) l ((coinM (7:Int) l mx tt).2.1) ((coinM (7:Int) l mx tt).2.2)).2.2)).1))+(1:Int)))(h13:inR (((i+1):Nat):Int))(ei':i'=(i+1))(eo'n:o'.length=o.length)(eo'c:o'.map intP=((o.map intP).set (x100.toNat*1) (intP (pl+((drawM (3:Int) l ((coinM (5:Int) l ((coinM (7:Int) l mx tt).2.1) ((coinM (7:Int) l mx tt).2.2)).2.1) ((coinM (5:Int) l ((coinM (7:Int) l mx tt).2.1) ((coinM (7:Int) l mx tt).2.2)).2.2)).1)))))(epl':pl'=((pl+((drawM (3:Int) l ((coinM (5:Int) l ((coinM (7:Int) l mx tt).2.1) ((coinM (7:Int) l mx tt).2.2)).2.1) ((coinM (5:Int) l ((coinM (7:Int) l mx tt).2.1) ((coinM (7:Int) l mx tt).2.2)).2.2)).1))+(1:Int)))(ela'n:la'.length=1)(ela'c:la'.map intP=[(intP x100)])(emx':mx'=((drawM (3:Int) l ((coinM (5:Int) l ((coinM (7:Int) l mx tt).2.1) ((coinM (7:Int) l mx tt).2.2)).2.1) ((coinM (5:Int) l ((coinM (7:Int) l mx tt).2.1) ((coinM (7:Int) l mx tt).2.2)).2.2)).2.1))(ett':tt'=((drawM (3:Int) l ((coinM (5:Int) l ((coinM (7:Int) l mx tt).2.1) ((coinM (7:Int) l mx tt).2.2)).2.1) ((coinM (5:Int) l ((coinM (7:Int) l mx tt).2.1) ((coinM (7:Int) l mx tt).2.2)).2.2)).2.2)):CodeOK Tryz.prog 1 zL1c0 (raced_S0 n sh l nx st i o.length (o.map intP) pl la.length (la.map intP) mx tt) .normal (raced_S0 n sh l nx st i' o'.length (o'.map intP) pl' la'.length (la'.map intP) mx' tt'):=by
  subst ei' epl' emx' ett'
  have raw:CodeOK Tryz.prog 1 zL1c0 (raced_S0 n sh l nx st i o.length (o.map intP) pl la.length (la.map intP) mx tt) .normal (raced_S0 n sh l nx st (i+1) o.length ((o.map intP).set (x100.toNat*1) (intP (pl+((zL13 l mx tt).1)))) ((pl+((zL13 l mx tt).1))+(1:Int)) 1 [(intP x100)] ((zL13 l mx tt).2.1) ((zL13 l mx tt).2.2)):=CodeOK.fin (g:=⟨(rng [(1,1),(3,3),(10,6),(19,45)]),[1,2,4],[],[]⟩) (o:=[bT,.x (intP x100),.c (.p (blP ((zL14 l mx tt).1))) [(0,(.box 141 [(.p (.sl l.length (l.map byteP))),(.p (intP ((zL14 l mx tt).2.1))),(.p (.v (.int .u32 ((zL14 l mx tt).2.2))))]))],bF,bF,bF,bF,bF,.c (.p (blP ((zL11 l mx tt).1))) [(0,(.box 141 [(.p (.sl l.length (l.map byteP))),(.p (intP ((zL11 l mx tt).2.1))),(.p (.v (.int .u32 ((zL11 l mx tt).2.2))))]))],bT,.c (.p (intP ((zL13 l mx tt).1))) [(0,(.box 141 [(.p (.sl l.length (l.map byteP))),(.p (intP ((zL13 l mx tt).2.1))),(.p (.v (.int .u32 ((zL13 l mx tt).2.2))))]))]]) (l:=[_,_,_,_,_,FC Tryz.prog 29 [(.ptr 0 0),(.p (intP 3))] [(0,(.box 141 [(.p (.sl l.length (l.map byteP))),(.p (intP ((zL11 l mx tt).2.1))),(.p (.v (.int .u32 ((zL11 l mx tt).2.2))))]))] 4 (.p (intP ((zL13 l mx tt).1))) [(0,(.box 141 [(.p (.sl l.length (l.map byteP))),(.p (intP ((zL13 l mx tt).2.1))),(.p (.v (.int .u32 ((zL13 l mx tt).2.2))))]))],_,FC Tryz.prog 137 [(.ptr 0 0),(.p (intP 5))] [(0,(.box 141 [(.p (.sl l.length (l.map byteP))),(.p (intP ((zL14 l mx tt).2.1))),(.p (.v (.int .u32 ((zL14 l mx tt).2.2))))]))] 4 (.p (blP ((zL11 l mx tt).1))) [(0,(.box 141 [(.p (.sl l.length (l.map byteP))),(.p (intP ((zL11 l mx tt).2.1))),(.p (.v (.int .u32 ((zL11 l mx tt).2.2))))]))],_,_,_,_,_,FC Tryz.prog 137 [(.ptr 0 0),(.p (intP 7))] [(0,(.box 141 [(.p (.sl l.length (l.map byteP))),(.p (intP mx)),(.p (.v (.int .u32 tt)))]))] 4 (.p (blP ((zL14 l mx tt).1))) [(0,(.box 141 [(.p (.sl l.length (l.map byteP))),(.p (intP ((zL14 l mx tt).2.1))),(.p (.v (.int .u32 ((zL14 l mx tt).2.2))))]))],_,_,_]) (by kernel_rfl) (gc h13 (gc h12 (gc h11 (gc (ix_own (i:=x100) h10 h9) (gc h8 (gc (FMM.fc (ids:=[0]) (draw_ok (3:Int) l ((zL11 l mx tt).2.1) ((zL11 l mx tt).2.2) h7) (by kernel_rfl)) (gc h6 (gc (FMM.fc (ids:=[0]) (coin_ok (5:Int) l ((zL14 l mx tt).2.1) ((zL14 l mx tt).2.2) h5) (by kernel_rfl)) (gc h4 (gc h4 (gc h4 (gc h4 (gc h3 (gc (FMM.fc (ids:=[0]) (coin_ok (7:Int) l mx tt h2) (by kernel_rfl)) (gc (atm intP h1) (gc (ix_own (i:=(i:Int)) (Int.natCast_nonneg _) h1) (gc (q_lt h0) gn)))))))))))))))))
  exact raw.cast (by rw [eo'n,eo'c,ela'n,ela'c])
theorem raced_L0_p7{n:Int}{sh:Bool}{l:List Int}{nx st:Int}{i:Nat}{o:List Int}{pl:Int}{la:List Int}{mx tt x100 x101:Int}{i':Nat}{o':List Int}{pl':Int}{la':List Int}{mx' tt':Int}(h0:(i:Int)<((((shufM n l nx st).1).length:Nat):Int))(h1:((shufM n l nx st).1)[i]? = some x100)(h2:0≤mx∧mx≤1000000000)(h3:((coinM (7:Int) l mx tt).1)=false)(h4:sh=false)(h5:0≤((coinM (7:Int) l mx tt).2.1)∧((coinM (7:Int) l mx tt).2.1)≤1000000000)(h6:((coinM (5:Int) l ((coinM (7:Int) l mx tt).2.1) ((coinM (7:Int) l mx tt).2.2)).1)=false)(h7:o[x100.toNat]? = some x101)(h8:0≤x100)(h9:(x100.toNat*1)<(o.map intP).length)(h10:inR (pl+(1:Int)))(h11:inR (((i+1):Nat):Int))(ei':i'=(i+1))(eo'n:o'.length=o.length)(eo'c:o'.map intP=((o.map intP).set (x100.toNat*1) (intP pl)))(epl':pl'=(pl+(1:Int)))(ela'n:la'.length=1)(ela'c:la'.map intP=[(intP x100)])(emx':mx'=((coinM (5:Int) l ((coinM (7:Int) l mx tt).2.1) ((coinM (7:Int) l mx tt).2.2)).2.1))(ett':tt'=((coinM (5:Int) l ((coinM (7:Int) l mx tt).2.1) ((coinM (7:Int) l mx tt).2.2)).2.2)):CodeOK Tryz.prog 1 zL1c0 (raced_S0 n sh l nx st i o.length (o.map intP) pl la.length (la.map intP) mx tt) .normal (raced_S0 n sh l nx st i' o'.length (o'.map intP) pl' la'.length (la'.map intP) mx' tt'):=by
  subst ei' epl' emx' ett'
  have raw:CodeOK Tryz.prog 1 zL1c0 (raced_S0 n sh l nx st i o.length (o.map intP) pl la.length (la.map intP) mx tt) .normal (raced_S0 n sh l nx st (i+1) o.length ((o.map intP).set (x100.toNat*1) (intP pl)) (pl+(1:Int)) 1 [(intP x100)] ((zL11 l mx tt).2.1) ((zL11 l mx tt).2.2)):=CodeOK.fin (g:=⟨(rng [(1,1),(3,3),(10,6),(19,45)]),[1,2,4],[],[]⟩) (o:=[bT,.x (intP x100),.c (.p (blP ((zL14 l mx tt).1))) [(0,(.box 141 [(.p (.sl l.length (l.map byteP))),(.p (intP ((zL14 l mx tt).2.1))),(.p (.v (.int .u32 ((zL14 l mx tt).2.2))))]))],bF,bF,bF,bF,bF,.c (.p (blP ((zL11 l mx tt).1))) [(0,(.box 141 [(.p (.sl l.length (l.map byteP))),(.p (intP ((zL11 l mx tt).2.1))),(.p (.v (.int .u32 ((zL11 l mx tt).2.2))))]))],bF]) (l:=[_,_,_,_,_,FC Tryz.prog 137 [(.ptr 0 0),(.p (intP 5))] [(0,(.box 141 [(.p (.sl l.length (l.map byteP))),(.p (intP ((zL14 l mx tt).2.1))),(.p (.v (.int .u32 ((zL14 l mx tt).2.2))))]))] 4 (.p (blP ((zL11 l mx tt).1))) [(0,(.box 141 [(.p (.sl l.length (l.map byteP))),(.p (intP ((zL11 l mx tt).2.1))),(.p (.v (.int .u32 ((zL11 l mx tt).2.2))))]))],_,_,_,_,_,FC Tryz.prog 137 [(.ptr 0 0),(.p (intP 7))] [(0,(.box 141 [(.p (.sl l.length (l.map byteP))),(.p (intP mx)),(.p (.v (.int .u32 tt)))]))] 4 (.p (blP ((zL14 l mx tt).1))) [(0,(.box 141 [(.p (.sl l.length (l.map byteP))),(.p (intP ((zL14 l mx tt).2.1))),(.p (.v (.int .u32 ((zL14 l mx tt).2.2))))]))],_,_,_]) (by kernel_rfl) (gc h11 (gc h10 (gc h9 (gc (ix_own (i:=x100) h8 h7) (gc h6 (gc (FMM.fc (ids:=[0]) (coin_ok (5:Int) l ((zL14 l mx tt).2.1) ((zL14 l mx tt).2.2) h5) (by kernel_rfl)) (gc h4 (gc h4 (gc h4 (gc h4 (gc h3 (gc (FMM.fc (ids:=[0]) (coin_ok (7:Int) l mx tt h2) (by kernel_rfl)) (gc (atm intP h1) (gc (ix_own (i:=(i:Int)) (Int.natCast_nonneg _) h1) (gc (q_lt h0) gn)))))))))))))))
  exact raw.cast (by rw [eo'n,eo'c,ela'n,ela'c])
theorem raced_L0_p8{n:Int}{sh:Bool}{l:List Int}{nx st:Int}{i:Nat}{o:List Int}{pl:Int}{la:List Int}{mx tt:Int}(h0:((((shufM n l nx st).1).length:Nat):Int)≤(i:Int)):CodeOK Tryz.prog 1 zL1c0 (raced_S0 n sh l nx st i o.length (o.map intP) pl la.length (la.map intP) mx tt) (.exit 0) (raced_S0 n sh l nx st i o.length (o.map intP) pl la.length (la.map intP) mx tt):=by
  exact CodeOK.fin (g:=⟨(rng [(1,1),(3,3),(10,6),(19,45)]),[1,2,3],[],[]⟩) (o:=[bF]) (l:=[_]) (by kernel_rfl) (gc (q_ltF h0) gn)
theorem shufM_perm(n:Int)(l:List Int)(nx st:Int):(shufM n l nx st).1.Perm (upL n.toNat)∧nx≤(shufM n l nx st).2.1∧(shufM n l nx st).2.1≤nx+n.toNat:=by
  have hul:(upL n.toNat).length=n.toNat:=by simp [upL]
  have:=shufR_spec l (n.toNat-1) (upL n.toNat) nx st (by omega)
  unfold shufM
  exact ⟨this.1,by omega,by omega⟩
theorem upL_nodup(n:Nat):(upL n).Nodup:=by
  unfold upL
  refine List.Pairwise.map _ (fun a b h => ?_) List.nodup_range
  intro e
  exact h (by omega)
theorem upL_mem{n:Nat}{x:Int}(h:x∈upL n):0≤x∧x.toNat<n:=by
  unfold upL at h
  rw [List.mem_map] at h
  obtain ⟨k,hk,rfl⟩:=h
  rw [List.mem_range] at hk
  omega
theorem raced_step{n:Int}{sh:Bool}{l:List Int}{nx st:Int}{i:Nat}{o:List Int}{pl:Int}{la:List Int}{mx tt:Int}(hI:KL.RInv (shufM n l nx st).1 n.toNat i o pl la)(hi:i<(shufM n l nx st).1.length)(hi2:i≤20)(h0:0≤mx∧mx≤900000000) :
    ∃ (o':List Int) (pl':Int) (la':List Int) (mx' tt':Int),CodeOK Tryz.prog 1 zL1c0 (raced_S0 n sh l nx st i o.length (o.map intP) pl la.length (la.map intP) mx tt) .normal (raced_S0 n sh l nx st (i+1) o'.length (o'.map intP) pl' la'.length (la'.map intP) mx' tt')∧KL.RInv (shufM n l nx st).1 n.toNat (i+1) o' pl' la'∧mx≤mx'∧mx'≤mx+4:=by
  obtain ⟨hp,_,_⟩:=shufM_perm n l nx st
  have hnd:(shufM n l nx st).1.Nodup:=(hp.nodup_iff).2 (upL_nodup _)
  have hin:∀ x∈(shufM n l nx st).1,0≤x∧x.toNat<n.toNat:=fun x hx=>upL_mem (hp.mem_iff.1 hx)
  obtain ⟨x,hx⟩:∃ x,(shufM n l nx st).1[i]? = some x:=⟨_,List.getElem?_eq_getElem hi⟩
  obtain ⟨x0,x1⟩:=hin x (List.mem_of_getElem? hx)
  have hol:=hI.len
  have hx2:o[x.toNat]? = some (o[x.toNat]'(by omega)):=List.getElem?_eq_getElem (by omega)
  have hx3:(x.toNat*1)<(o.map intP).length:=by simp;omega
  have hp1:=hI.p1
  have hp2:=hI.p2
  have hll:=hI.ll
  have hri:inR (((i+1:Nat):Int)):=inR_nat (by omega)
  have hi':(i:Int)<(((shufM n l nx st).1.length:Nat):Int):=by omega
  have b7:=coinM_bd 7 l mx tt
  have fin:∀ d:Int,0≤d→d≤2→KL.RInv (shufM n l nx st).1 n.toNat (i+1) (o.set x.toNat (pl+d)) (pl+d+1) [x]:=fun d h1 h2=>hI.new hnd hin hx ⟨h1,h2⟩
  have fin0:KL.RInv (shufM n l nx st).1 n.toNat (i+1) (o.set x.toNat pl) (pl+1) [x]:=by have:=fin 0 (by omega) (by omega);rwa [show pl+0=pl by omega] at this
  cases h3:(coinM 7 l mx tt).1 with
  | true=>exact ⟨o,pl,la,_,_,raced_L0_p0 hi' hx (by omega) h3 hri rfl rfl rfl,hI.skip,by omega,by omega⟩
  | false =>
    obtain ⟨m1,hm1⟩:∃ m,m=(coinM 7 l mx tt).2.1:=⟨_,rfl⟩
    obtain ⟨t1,ht1⟩:∃ t,t=(coinM 7 l mx tt).2.2:=⟨_,rfl⟩
    rw [← hm1] at b7
    have b5:=coinM_bd 5 l m1 t1
    have b4:=coinM_bd 4 l m1 t1
    have b3:=drawM_bd 3 l (coinM 5 l m1 t1).2.1 (coinM 5 l m1 t1).2.2
    cases sh with
    | false =>
      cases h6:(coinM 5 l m1 t1).1 with
      | true =>
        refine ⟨_,_,[x],_,_,raced_L0_p6 (o':=o.set x.toNat (pl+(drawM 3 l (coinM 5 l m1 t1).2.1 (coinM 5 l m1 t1).2.2).1)) (la':=[x]) hi' hx (by omega) h3 rfl (by rw [← hm1];omega) (by rw [← hm1,← ht1];exact h6) (by rw [← hm1,← ht1];omega) (by rw [← hm1,← ht1];unfold inR;omega) hx2 x0 hx3 (by rw [← hm1,← ht1];unfold inR;omega) hri rfl (by simp) (by rw [← hm1,← ht1];simp [List.map_set]) rfl rfl rfl rfl rfl,?_,?_,?_⟩
        · rw [← hm1,← ht1];exact fin _ b3.1 (by omega)
        · rw [← hm1,← ht1];omega
        · rw [← hm1,← ht1];omega
      | false =>
        refine ⟨_,_,[x],_,_,raced_L0_p7 (o':=o.set x.toNat pl) (la':=[x]) hi' hx (by omega) h3 rfl (by rw [← hm1];omega) (by rw [← hm1,← ht1];exact h6) hx2 x0 hx3 (by unfold inR;omega) hri rfl (by simp) (by simp [List.map_set]) rfl rfl rfl rfl rfl,fin0,?_,?_⟩
        · rw [← hm1,← ht1];omega
        · rw [← hm1,← ht1];omega
    | true =>
      cases la with
      | nil =>
        cases h6:(coinM 5 l m1 t1).1 with
        | true =>
          refine ⟨_,_,[x],_,_,raced_L0_p4 (o':=o.set x.toNat (pl+(drawM 3 l (coinM 5 l m1 t1).2.1 (coinM 5 l m1 t1).2.2).1)) (la':=[x]) hi' hx (by omega) h3 rfl (by simp) (by rw [← hm1];omega) (by rw [← hm1,← ht1];exact h6) (by rw [← hm1,← ht1];omega) (by rw [← hm1,← ht1];unfold inR;omega) hx2 x0 hx3 (by rw [← hm1,← ht1];unfold inR;omega) hri rfl (by simp) (by rw [← hm1,← ht1];simp [List.map_set]) rfl rfl rfl rfl rfl,?_,?_,?_⟩
          · rw [← hm1,← ht1];exact fin _ b3.1 (by omega)
          · rw [← hm1,← ht1];omega
          · rw [← hm1,← ht1];omega
        | false =>
          refine ⟨_,_,[x],_,_,raced_L0_p5 (o':=o.set x.toNat pl) (la':=[x]) hi' hx (by omega) h3 rfl (by simp) (by rw [← hm1];omega) (by rw [← hm1,← ht1];exact h6) hx2 x0 hx3 (by unfold inR;omega) hri rfl (by simp) (by simp [List.map_set]) rfl rfl rfl rfl rfl,fin0,?_,?_⟩
          · rw [← hm1,← ht1];omega
          · rw [← hm1,← ht1];omega
      | cons y r =>
        obtain ⟨y0,y1,y2,y3⟩:=hI.lst y r rfl
        obtain ⟨m2,hm2⟩:∃ m,m=(coinM 4 l m1 t1).2.1:=⟨_,rfl⟩
        obtain ⟨t2,ht2⟩:∃ t,t=(coinM 4 l m1 t1).2.2:=⟨_,rfl⟩
        rw [← hm2] at b4
        have b5:=coinM_bd 5 l m2 t2
        have b3:=drawM_bd 3 l (coinM 5 l m2 t2).2.1 (coinM 5 l m2 t2).2.2
        cases h7:(coinM 4 l m1 t1).1 with
        | true =>
          have hy:o[y.toNat]? = some (o.getD y.toNat 0):=by rw [List.getElem?_eq_getElem (by omega),List.getD_eq_getElem?_getD,List.getElem?_eq_getElem (by omega)];rfl
          refine ⟨_,_,(y::r)++[x],_,_,raced_L0_p1 (o':=o.set x.toNat (o.getD y.toNat 0)) (la':=(y::r)++[x]) hi' hx (by omega) h3 rfl (by rw [List.length_cons];omega) (by rw [← hm1];omega) (by rw [← hm1,← ht1];exact h7) rfl hy y0 hx2 x0 hx3 (by simp at hll ⊢;omega) (by unfold inR;omega) hri rfl (by simp) (by simp [List.map_set]) rfl (by simp) (by simp) rfl rfl,hI.share hnd hin hx rfl,?_,?_⟩
          · rw [← hm1,← ht1,← hm2];omega
          · rw [← hm1,← ht1,← hm2];omega
        | false =>
          cases h6:(coinM 5 l m2 t2).1 with
          | true =>
            refine ⟨_,_,[x],_,_,raced_L0_p2 (o':=o.set x.toNat (pl+(drawM 3 l (coinM 5 l m2 t2).2.1 (coinM 5 l m2 t2).2.2).1)) (la':=[x]) hi' hx (by omega) h3 rfl (by rw [List.length_cons];omega) (by rw [← hm1];omega) (by rw [← hm1,← ht1];exact h7) (by rw [← hm1,← ht1,← hm2];omega) (by rw [← hm1,← ht1,← hm2,← ht2];exact h6) (by rw [← hm1,← ht1,← hm2,← ht2];omega) (by rw [← hm1,← ht1,← hm2,← ht2];unfold inR;omega) hx2 x0 hx3 (by rw [← hm1,← ht1,← hm2,← ht2];unfold inR;omega) hri rfl (by simp) (by rw [← hm1,← ht1,← hm2,← ht2];simp [List.map_set]) rfl rfl rfl rfl rfl,?_,?_,?_⟩
            · rw [← hm1,← ht1,← hm2,← ht2];exact fin _ b3.1 (by omega)
            · rw [← hm1,← ht1,← hm2,← ht2];omega
            · rw [← hm1,← ht1,← hm2,← ht2];omega
          | false =>
            refine ⟨_,_,[x],_,_,raced_L0_p3 (o':=o.set x.toNat pl) (la':=[x]) hi' hx (by omega) h3 rfl (by rw [List.length_cons];omega) (by rw [← hm1];omega) (by rw [← hm1,← ht1];exact h7) (by rw [← hm1,← ht1,← hm2];omega) (by rw [← hm1,← ht1,← hm2,← ht2];exact h6) hx2 x0 hx3 (by unfold inR;omega) hri rfl (by simp) (by simp [List.map_set]) rfl rfl rfl rfl rfl,fin0,?_,?_⟩
            · rw [← hm1,← ht1,← hm2,← ht2];omega
            · rw [← hm1,← ht1,← hm2,← ht2];omega
theorem raced_loop{n:Int}{sh:Bool}{l:List Int}{nx st:Int}(hn:(shufM n l nx st).1.length≤15):∀ (k i:Nat) (o:List Int) (pl:Int) (la:List Int) (mx tt:Int),KL.RInv (shufM n l nx st).1 n.toNat i o pl la→i+k=(shufM n l nx st).1.length→0≤mx→mx+4*k≤900000000 →
    ∃ (o':List Int) (pl':Int) (la':List Int) (mx' tt':Int),LoopOK Tryz.prog 1 zL1c0 (raced_S0 n sh l nx st i o.length (o.map intP) pl la.length (la.map intP) mx tt) (.exit 0) (raced_S0 n sh l nx st (i+k) o'.length (o'.map intP) pl' la'.length (la'.map intP) mx' tt')∧KL.RInv (shufM n l nx st).1 n.toNat (i+k) o' pl' la'∧mx≤mx'∧mx'≤mx+4*k
  | 0,i,o,pl,la,mx,tt,h,hk,h0,h1=>⟨o,pl,la,mx,tt,.exit (raced_L0_p8 (by omega)) (by simp),h,by omega,by omega⟩
  | k+1,i,o,pl,la,mx,tt,h,hk,h0,h1=>by
    obtain ⟨o1,pl1,la1,m1,t1,c1,i1,b1,b2⟩:=raced_step (sh:=sh) (tt:=tt) h (by omega) (by omega) ⟨h0,by omega⟩
    obtain ⟨o2,pl2,la2,m2,t2,c2,i2,b3,b4⟩:=raced_loop hn k (i+1) o1 pl1 la1 m1 t1 i1 (by omega) (by omega) (by omega)
    rw [show i+1+k=i+(k+1) by omega] at c2 i2
    exact ⟨o2,pl2,la2,m2,t2,.step c1 c2,i2,by omega,by omega⟩
theorem raced_ex(n:Int)(sh:Bool)(l:List Int)(nx st:Int)(h:0≤nx∧nx≤1000000)(hn:0≤n∧n≤15):∃ r:List Int × Int × Int,FMM Tryz.prog 68 [.ptr 0 0,.p (intP n),.p (blP sh)] [some (deckO l nx st)] (.own 1) [some (deckO l r.2.1 r.2.2),some (.row 3 r.1.length (r.1.map intP))]∧KL.RaceOK n.toNat r.1∧nx≤r.2.1∧r.2.1≤nx+100:=by
  obtain ⟨hp,b1,b2⟩:=shufM_perm n l nx st
  have hl:(shufM n l nx st).1.length=n.toNat:=by rw [hp.length_eq];simp [upL]
  obtain ⟨o,pl,la,mx,tt,hL,hI,b3,b4⟩:=raced_loop (sh:=sh) (l:=l) (nx:=nx) (st:=st) (n:=n) (by omega) n.toNat 0 (List.replicate n.toNat 0) 1 [] (shufM n l nx st).2.1 (shufM n l nx st).2.2 KL.RInv.start (by omega) (by omega) (by omega)
  refine ⟨(o,mx,tt),raced_p0 (by omega) h (by omega) (i'0:=n.toNat) (pl'2:=pl) (la'3:=la) (o'1:=o) (mx'4:=mx) (tt'5:=tt) ?_,hI.race (by omega),by dsimp only;omega,by dsimp only;omega⟩
  rw [List.length_replicate,List.map_replicate,Nat.zero_add] at hL
  exact hL
open Classical in
noncomputable def racedM(n:Int)(sh:Bool)(l:List Int)(nx st:Int):List Int × Int × Int:=if h:(0≤nx∧nx≤1000000)∧0≤n∧n≤15 then Classical.choose (raced_ex n sh l nx st h.1 h.2) else ([],nx,st)
theorem racedM_spec(n:Int)(sh:Bool)(l:List Int)(nx st:Int)(h:0≤nx∧nx≤1000000)(hn:0≤n∧n≤15):FMM Tryz.prog 68 [.ptr 0 0,.p (intP n),.p (blP sh)] [some (deckO l nx st)] (.own 1) [some (deckO l (racedM n sh l nx st).2.1 (racedM n sh l nx st).2.2),some (.row 3 (racedM n sh l nx st).1.length ((racedM n sh l nx st).1.map intP))]∧KL.RaceOK n.toNat (racedM n sh l nx st).1∧nx≤(racedM n sh l nx st).2.1∧(racedM n sh l nx st).2.1≤nx+100:=by
  unfold racedM
  rw [dif_pos ⟨h,hn⟩]
  exact Classical.choose_spec (raced_ex n sh l nx st h hn)
theorem raced_ok(n:Int)(sh:Bool)(l:List Int)(nx st:Int)(h:0≤nx∧nx≤1000000)(hn:0≤n∧n≤15):FMM Tryz.prog 68 [.ptr 0 0,.p (intP n),.p (blP sh)] [some (deckO l nx st)] (.own 1) [some (deckO l (racedM n sh l nx st).2.1 (racedM n sh l nx st).2.2),some (.row 3 (racedM n sh l nx st).1.length ((racedM n sh l nx st).1.map intP))]:=(racedM_spec n sh l nx st h hn).1
end
section
open KL
noncomputable abbrev zL2c0:Code:=sub (cd Tryz.f27) [1,1,1,1,0,1,0,0]
noncomputable abbrev zL2c1:Code:=sub (cd Tryz.f27) [1,1,1,1,1,0,1,0,0]
theorem btw_eq{r nx' st':Int}(lo hi:Int)(l:List Int)(nx st:Int)(h:0≤nx∧nx≤1000000000)(hb:(-1000000≤lo∧lo≤1000000) ∧ -1000000≤hi∧hi≤1000000)(e:btwM lo hi l nx st=(r,nx',st')):FMM Tryz.prog 30 [.ptr 0 0,.p (intP lo),.p (intP hi)] [some (deckO l nx st)] (.p (intP r)) [some (deckO l nx' st')]:=by
  have:=btw_ok lo hi l nx st h hb
  rw [e] at this
  exact this
theorem draw_eq{r nx' st':Int}(n:Int)(l:List Int)(nx st:Int)(h:0≤nx∧nx≤1000000000)(e:drawM n l nx st=(r,nx',st')):FMM Tryz.prog 29 [.ptr 0 0,.p (intP n)] [some (deckO l nx st)] (.p (intP r)) [some (deckO l nx' st')]:=by
  have:=draw_ok n l nx st h
  rw [e] at this
  exact this
theorem FMM.kb{P:Program}{f:Nat}{a b r:AV}{x:Bool}{M M':Mem}(h:FMM P f [a,b,.p (blP x)] M r M'):FMM P f [a,b,.kb x] M r M':=fun C w us hus hM n=>h C w us (by
  cases hus with
  | cons _ _ u us h1 h2 =>
    cases h2 with
    | cons _ _ u2 us2 h3 h4 =>
      cases h4 with
      | cons _ _ u3 us3 h5 h6 =>
        cases h5
        exact .cons _ _ _ _ h1 (.cons _ _ _ _ h3 (.cons _ _ _ _ (.p _ _ (.v _)) h6))) hM n
theorem raced_eq{r:List Int}{nx' st':Int}(n:Int)(sh:Bool)(l:List Int)(nx st:Int)(h:0≤nx∧nx≤1000000)(hn:0≤n∧n≤15)(e:racedM n sh l nx st=(r,nx',st')):FMM Tryz.prog 68 [.ptr 0 0,.p (intP n),.kb sh] [some (deckO l nx st)] (.own 1) [some (deckO l nx' st'),some (.row 3 r.length (r.map intP))]:=by
  have:=FMM.kb (raced_ok n sh l nx st h hn)
  rw [e] at this
  exact this
theorem of_p0{l:List Int}:FMM Tryz.prog 28 [(.p (.sl l.length (l.map byteP)))] [] (.ptr 0 0) [some (.box 141 [(.p (.sl l.length (l.map byteP))),(.p (intP 0)),(.p (.v (.int .u32 (17:Int))))])]:=by
  exact FMM.fin (k:=0) (g:=⟨[],[0],[],[]⟩) rfl Tryz.func28 rfl (o:=[]) (l:=[]) (by kernel_rfl) (gn)
def made_S0(l:List Int)(r0:Int)(r3:Int)(r6:Int)(r12:Int)(i:Nat)(ptsn:Nat)(ptsc:List PV)(pa:Int)(mx:Int)(tt:Int):St:=⟨fr 57 [(0,(.ptr 0 0)),(6,(.ptr 1 0)),(7,(.ptr 2 0)),(8,(.p (intP pa))),(24,(.p (intP r12))),(25,(.p (intP (i:Int))))],[some (.box 141 [(.p (.sl l.length (l.map byteP))),(.p (intP mx)),(.p (.v (.int .u32 tt)))]),some (.box 25 [(.p (intP 0)),(.p (intP 0)),(.p (intP 0)),(.p nilS),(.p nilS)]),some (.box 25 [(.p (intP r0)),(.p (intP r3)),(.p (intP r6)),(.own 3),(.p nilS)]),some (.row 3 ptsn ptsc)]⟩
def made_S1(l:List Int)(r0:Int)(r3:Int)(r6:Int)(pts'16:List Int)(r20:Int)(j:Nat)(dnn:Nat)(dnc:List PV)(mx:Int)(tt:Int):St:=⟨fr 57 [(0,(.ptr 0 0)),(6,(.ptr 1 0)),(7,(.ptr 2 0)),(43,(.p (intP r20))),(44,(.p (intP (j:Int))))],[some (.box 141 [(.p (.sl l.length (l.map byteP))),(.p (intP mx)),(.p (.v (.int .u32 tt)))]),some (.box 25 [(.p (intP 0)),(.p (intP 0)),(.p (intP 0)),(.p nilS),(.p nilS)]),some (.box 25 [(.p (intP r0)),(.p (intP r3)),(.p (intP r6)),(.own 3),(.own 4)]),some (.row 3 pts'16.length (pts'16.map intP)),some (.row 22 dnn dnc)]⟩
theorem made_p0{ns nr:Int}{l:List Int}{nx st r0 m1 t2 r3 m4 t5 r6 m7 t8 r9 m10 t11 r12 m13 t14:Int}{i'15:Nat}{pts'16:List Int}{pa'17 mx'18 tt'19 r20 m21 t22:Int}{j'23:Nat}{dn'24:List (List Int)}{mx'25 tt'26:Int}(h0:0≤nx∧nx≤1000000000)(h1:(-1000000≤(2:Int)∧(2:Int)≤1000000) ∧ -1000000≤ns∧ns≤1000000)(h2:btwM (2:Int) ns l nx st=(r0,m1,t2))(h3:0≤m1∧m1≤1000000000)(h4:(-1000000≤(1:Int)∧(1:Int)≤1000000) ∧ -1000000≤nr∧nr≤1000000)(h5:btwM (1:Int) nr l m1 t2=(r3,m4,t5))(h6:0≤m4∧m4≤1000000000)(h7:(-1000000≤(1:Int)∧(1:Int)≤1000000) ∧ -1000000≤r3∧r3≤1000000)(h8:btwM (1:Int) r3 l m4 t5=(r6,m7,t8))(h9:0≤m7∧m7≤1000000000)(h10:(-1000000≤(10:Int)∧(10:Int)≤1000000) ∧ -1000000≤(40:Int)∧(40:Int)≤1000000)(h11:btwM (10:Int) (40:Int) l m7 t8=(r9,m10,t11))(h12:0≤m10∧m10≤1000000000)(h13:(-1000000≤(1:Int)∧(1:Int)≤1000000) ∧ -1000000≤(10:Int)∧(10:Int)≤1000000)(h14:btwM (1:Int) (10:Int) l m10 t11=(r12,m13,t14))(hl15:LoopOK Tryz.prog 1 zL2c0 (made_S0 l r0 r3 r6 r12 0 0 [] r9 m13 t14) (.exit 0) (made_S0 l r0 r3 r6 r12 i'15 pts'16.length (pts'16.map intP) pa'17 mx'18 tt'19))(h16:inR (r3+(1:Int)))(h17:0≤mx'18∧mx'18≤1000000000)(h18:drawM (r3+(1:Int)) l mx'18 tt'19=(r20,m21,t22))(hl19:LoopOK Tryz.prog 1 zL2c1 (made_S1 l r0 r3 r6 pts'16 r20 0 0 [] m21 t22) (.exit 2) (made_S1 l r0 r3 r6 pts'16 r20 j'23 dn'24.length (dn'24.map intsP) mx'25 tt'26)):FMM Tryz.prog 27 [(.ptr 0 0),(.p (intP ns)),(.p (intP nr))] [some (.box 141 [(.p (.sl l.length (l.map byteP))),(.p (intP nx)),(.p (.v (.int .u32 st)))])] (.p (.agg [(intP r0),(intP r3),(intP r6),(intsP pts'16),(rowsP dn'24)])) [some (.box 141 [(.p (.sl l.length (l.map byteP))),(.p (intP mx'25)),(.p (.v (.int .u32 tt'26)))])]:=by
  exact FMM.fin (k:=1) (g:=⟨[],[],[3,4],[]⟩) rfl Tryz.func27 rfl (o:=[.c (.p (intP r0)) [(0,(.box 141 [(.p (.sl l.length (l.map byteP))),(.p (intP m1)),(.p (.v (.int .u32 t2)))]))],.c (.p (intP r3)) [(0,(.box 141 [(.p (.sl l.length (l.map byteP))),(.p (intP m4)),(.p (.v (.int .u32 t5)))]))],.c (.p (intP r6)) [(0,(.box 141 [(.p (.sl l.length (l.map byteP))),(.p (intP m7)),(.p (.v (.int .u32 t8)))]))],.c (.p (intP r9)) [(0,(.box 141 [(.p (.sl l.length (l.map byteP))),(.p (intP m10)),(.p (.v (.int .u32 t11)))]))],.c (.p (intP r12)) [(0,(.box 141 [(.p (.sl l.length (l.map byteP))),(.p (intP m13)),(.p (.v (.int .u32 t14)))]))],.k 1 ⟨(rng [(1,5),(9,15),(26,13)]),[1,2,3],[],[(102003,3)]⟩ (.exit 0) (made_S0 l r0 r3 r6 r12 i'15 pts'16.length (pts'16.map intP) pa'17 mx'18 tt'19),.c (.p (intP r20)) [(0,(.box 141 [(.p (.sl l.length (l.map byteP))),(.p (intP m21)),(.p (.v (.int .u32 t22)))]))],.k 1 ⟨(rng [(1,5),(8,35),(45,11)]),[1,2,3,4],[],[(102004,22)]⟩ (.exit 2) (made_S1 l r0 r3 r6 pts'16 r20 j'23 dn'24.length (dn'24.map intsP) mx'25 tt'26)]) (l:=[_,FC Tryz.prog 29 [(.ptr 0 0),(.p (intP (r3+(1:Int))))] [(0,(.box 141 [(.p (.sl l.length (l.map byteP))),(.p (intP mx'18)),(.p (.v (.int .u32 tt'19)))]))] 4 (.p (intP r20)) [(0,(.box 141 [(.p (.sl l.length (l.map byteP))),(.p (intP m21)),(.p (.v (.int .u32 t22)))]))],_,_,FC Tryz.prog 30 [(.ptr 0 0),(.p (intP 1)),(.p (intP 10))] [(0,(.box 141 [(.p (.sl l.length (l.map byteP))),(.p (intP m10)),(.p (.v (.int .u32 t11)))]))] 3 (.p (intP r12)) [(0,(.box 141 [(.p (.sl l.length (l.map byteP))),(.p (intP m13)),(.p (.v (.int .u32 t14)))]))],FC Tryz.prog 30 [(.ptr 0 0),(.p (intP 10)),(.p (intP 40))] [(0,(.box 141 [(.p (.sl l.length (l.map byteP))),(.p (intP m7)),(.p (.v (.int .u32 t8)))]))] 3 (.p (intP r9)) [(0,(.box 141 [(.p (.sl l.length (l.map byteP))),(.p (intP m10)),(.p (.v (.int .u32 t11)))]))],FC Tryz.prog 30 [(.ptr 0 0),(.p (intP 1)),(.p (intP r3))] [(0,(.box 141 [(.p (.sl l.length (l.map byteP))),(.p (intP m4)),(.p (.v (.int .u32 t5)))]))] 3 (.p (intP r6)) [(0,(.box 141 [(.p (.sl l.length (l.map byteP))),(.p (intP m7)),(.p (.v (.int .u32 t8)))]))],FC Tryz.prog 30 [(.ptr 0 0),(.p (intP 1)),(.p (intP nr))] [(0,(.box 141 [(.p (.sl l.length (l.map byteP))),(.p (intP m1)),(.p (.v (.int .u32 t2)))]))] 2 (.p (intP r3)) [(0,(.box 141 [(.p (.sl l.length (l.map byteP))),(.p (intP m4)),(.p (.v (.int .u32 t5)))]))],FC Tryz.prog 30 [(.ptr 0 0),(.p (intP 2)),(.p (intP ns))] [(0,(.box 141 [(.p (.sl l.length (l.map byteP))),(.p (intP nx)),(.p (.v (.int .u32 st)))]))] 2 (.p (intP r0)) [(0,(.box 141 [(.p (.sl l.length (l.map byteP))),(.p (intP m1)),(.p (.v (.int .u32 t2)))]))]]) (by kernel_rfl) (gc hl19.code (gc (FMM.fc (ids:=[0]) (draw_eq (r3+(1:Int)) l mx'18 tt'19 h17 h18) (by kernel_rfl)) (gc h16 (gc hl15.code (gc (FMM.fc (ids:=[0]) (btw_eq (1:Int) (10:Int) l m10 t11 h12 h13 h14) (by kernel_rfl)) (gc (FMM.fc (ids:=[0]) (btw_eq (10:Int) (40:Int) l m7 t8 h9 h10 h11) (by kernel_rfl)) (gc (FMM.fc (ids:=[0]) (btw_eq (1:Int) r3 l m4 t5 h6 h7 h8) (by kernel_rfl)) (gc (FMM.fc (ids:=[0]) (btw_eq (1:Int) nr l m1 t2 h3 h4 h5) (by kernel_rfl)) (gc (FMM.fc (ids:=[0]) (btw_eq (2:Int) ns l nx st h0 h1 h2) (by kernel_rfl)) gn)))))))))
theorem made_L0_p0{l:List Int}{r0 r3 r6 r12:Int}{i:Nat}{pts:List Int}{pa mx tt r100 m101 t102:Int}{i':Nat}{pts':List Int}{pa':Int}(h0:(i:Int)<r12)(h1:[(intP pa)].length=1*1∧pts.length+1≤1000000)(h2:0≤mx∧mx≤1000000000)(h3:drawM (8:Int) l mx tt=(r100,m101,t102))(h4:inR (pa-r100))(h5:inR (((i+1):Nat):Int))(ei':i'=(i+1))(epts'n:pts'.length=(pts.length+1))(epts'c:pts'.map intP=((pts.map intP)++[(intP pa)]))(epa':pa'=(if (pa-r100) > (0:Int) then (pa-r100) else (0:Int))):CodeOK Tryz.prog 1 zL2c0 (made_S0 l r0 r3 r6 r12 i pts.length (pts.map intP) pa mx tt) .normal (made_S0 l r0 r3 r6 r12 i' pts'.length (pts'.map intP) pa' m101 t102):=by
  subst ei' epa'
  have raw:CodeOK Tryz.prog 1 zL2c0 (made_S0 l r0 r3 r6 r12 i pts.length (pts.map intP) pa mx tt) .normal (made_S0 l r0 r3 r6 r12 (i+1) (pts.length+1) ((pts.map intP)++[(intP pa)]) (if (pa-r100) > (0:Int) then (pa-r100) else (0:Int)) m101 t102):=CodeOK.fin (g:=⟨(rng [(1,5),(9,15),(26,13)]),[1,2,5],[],[]⟩) (o:=[bT,.c (.p (intP r100)) [(0,(.box 141 [(.p (.sl l.length (l.map byteP))),(.p (intP m101)),(.p (.v (.int .u32 t102)))]))]]) (l:=[_,_,FC Tryz.prog 29 [(.ptr 0 0),(.p (intP 8))] [(0,(.box 141 [(.p (.sl l.length (l.map byteP))),(.p (intP mx)),(.p (.v (.int .u32 tt)))]))] 6 (.p (intP r100)) [(0,(.box 141 [(.p (.sl l.length (l.map byteP))),(.p (intP m101)),(.p (.v (.int .u32 t102)))]))],_,_]) (by kernel_rfl) (gc h5 (gc h4 (gc (FMM.fc (ids:=[0]) (draw_eq (8:Int) l mx tt h2 h3) (by kernel_rfl)) (gc h1 (gc (q_lt h0) gn)))))
  exact raw.cast (by rw [epts'n,epts'c])
theorem made_L0_p1{l:List Int}{r0 r3 r6 r12:Int}{i:Nat}{pts:List Int}{pa mx tt:Int}(h0:r12≤(i:Int)):CodeOK Tryz.prog 1 zL2c0 (made_S0 l r0 r3 r6 r12 i pts.length (pts.map intP) pa mx tt) (.exit 0) (made_S0 l r0 r3 r6 r12 i pts.length (pts.map intP) pa mx tt):=by
  exact CodeOK.fin (g:=⟨(rng [(1,5),(9,15),(26,13)]),[1,2,3],[],[]⟩) (o:=[bF]) (l:=[_]) (by kernel_rfl) (gc (q_ltF h0) gn)
theorem made_L1_p0{l:List Int}{r0 r3 r6:Int}{pts'16:List Int}{r20:Int}{j:Nat}{dn:List (List Int)}{mx tt:Int}{r200:List Int}{m201 t202:Int}{j':Nat}{dn':List (List Int)}(h0:(j:Int)<r20)(h1:0≤mx∧mx≤1000000)(h2:0≤r0∧r0≤15)(h3:racedM r0 true l mx tt=(r200,m201,t202))(h4:[(intsP r200)].length=1*1∧dn.length+1≤1000000)(h5:inR (((j+1):Nat):Int))(ej':j'=(j+1))(edn'n:dn'.length=(dn.length+1))(edn'c:dn'.map intsP=((dn.map intsP)++[(intsP r200)])):CodeOK Tryz.prog 1 zL2c1 (made_S1 l r0 r3 r6 pts'16 r20 j dn.length (dn.map intsP) mx tt) .normal (made_S1 l r0 r3 r6 pts'16 r20 j' dn'.length (dn'.map intsP) m201 t202):=by
  subst ej'
  have raw:CodeOK Tryz.prog 1 zL2c1 (made_S1 l r0 r3 r6 pts'16 r20 j dn.length (dn.map intsP) mx tt) .normal (made_S1 l r0 r3 r6 pts'16 r20 (j+1) (dn.length+1) ((dn.map intsP)++[(intsP r200)]) m201 t202):=CodeOK.fin (g:=⟨(rng [(1,5),(8,35),(45,11)]),[1,2,3,10],[],[]⟩) (o:=[bT,.c (.own 5) [(0,(.box 141 [(.p (.sl l.length (l.map byteP))),(.p (intP m201)),(.p (.v (.int .u32 t202)))])),(5,(.row 3 r200.length (r200.map intP)))]]) (l:=[_,_,FC Tryz.prog 68 [(.ptr 0 0),(.p (intP r0)),(.kb true)] [(0,(.box 141 [(.p (.sl l.length (l.map byteP))),(.p (intP mx)),(.p (.v (.int .u32 tt)))]))] 5 (.own 5) [(0,(.box 141 [(.p (.sl l.length (l.map byteP))),(.p (intP m201)),(.p (.v (.int .u32 t202)))])),(5,(.row 3 r200.length (r200.map intP)))],_]) (by kernel_rfl) (gc h5 (gc h4 (gc (FMM.fc (ids:=[0]) (raced_eq r0 true l mx tt h1 h2 h3) (by kernel_rfl)) (gc (q_lt h0) gn))))
  exact raw.cast (by rw [edn'n,edn'c])
theorem made_L1_p1{l:List Int}{r0 r3 r6:Int}{pts'16:List Int}{r20:Int}{j:Nat}{dn:List (List Int)}{mx tt:Int}(h0:r20≤(j:Int)):CodeOK Tryz.prog 1 zL2c1 (made_S1 l r0 r3 r6 pts'16 r20 j dn.length (dn.map intsP) mx tt) (.exit 2) (made_S1 l r0 r3 r6 pts'16 r20 j dn.length (dn.map intsP) mx tt):=by
  exact CodeOK.fin (g:=⟨(rng [(1,5),(8,35),(45,11)]),[1,2,3,4],[],[]⟩) (o:=[bF]) (l:=[_]) (by kernel_rfl) (gc (q_ltF h0) gn)
theorem falls_of{l:List Int}(h:l.Pairwise (fun a b=>b≤a)):KL.fallsB l=true:=by
  unfold KL.fallsB KL.sortedB
  rw [decide_eq_true_iff]
  intro j hj
  have h1:=List.pairwise_iff_getElem.1 h j (j+1) (by omega) (by omega) (by omega)
  rw [KL.getD_at _ _ (by omega),KL.getD_at _ _ (by omega)]
  unfold KL.cmpDown KL.cmpI
  repeat' split
  all_goals omega
structure PInv (i:Nat) (pts:List Int) (pa:Int):Prop where
  len:pts.length=i
  pa1:0≤pa∧pa≤40
  bd:∀ x∈pts,pa≤x∧x≤40
  pw:pts.Pairwise (fun a b=>b≤a)
theorem PInv.next{i:Nat}{pts:List Int}{pa pa':Int}(h:PInv i pts pa)(h1:0≤pa')(h2:pa'≤pa):PInv (i+1) (pts++[pa]) pa':=by
  have:=h.pa1
  refine ⟨by simp [h.len],⟨h1,by omega⟩,fun x hx => ?_,List.pairwise_append.2 ⟨h.pw,by simp,fun a ha b hb => ?_⟩⟩
  · rcases List.mem_append.1 hx with hx | hx
    · have:=h.bd x hx;omega
    · simp at hx;omega
  · simp at hb;subst hb;exact (h.bd a ha).1
theorem made_pts{l:List Int}{r0 r3 r6 r12:Int}(hr:r12≤100):∀ (k i:Nat) (pts:List Int) (pa mx tt:Int),(i:Int)+k=r12→PInv i pts pa→0≤mx→mx+k≤1000000000 →
    ∃ (pts':List Int) (pa' mx' tt':Int),LoopOK Tryz.prog 1 zL2c0 (made_S0 l r0 r3 r6 r12 i pts.length (pts.map intP) pa mx tt) (.exit 0) (made_S0 l r0 r3 r6 r12 (i+k) pts'.length (pts'.map intP) pa' mx' tt')∧PInv (i+k) pts' pa'∧mx≤mx'∧mx'≤mx+k
  | 0,i,pts,pa,mx,tt,hk,h,h0,h1=>⟨pts,pa,mx,tt,.exit (made_L0_p1 (by omega)) (by simp),h,by omega,by omega⟩
  | k+1,i,pts,pa,mx,tt,hk,h,h0,h1=>by
    have hb:=drawM_bd 8 l mx tt
    have hpa:=h.pa1
    have hl:=h.len
    have c1:=made_L0_p0 (r0:=r0) (r3:=r3) (r6:=r6) (r12:=r12) (i:=i) (pts:=pts) (pa:=pa) (pts':=pts++[pa]) (by omega) (by simp;omega) ⟨h0,by omega⟩ (show drawM 8 l mx tt=((drawM 8 l mx tt).1,(drawM 8 l mx tt).2.1,(drawM 8 l mx tt).2.2) from rfl) (by unfold inR;omega) (inR_nat (by omega)) rfl (by simp) (by simp) rfl
    have i1:PInv (i+1) (pts++[pa]) (if pa-(drawM 8 l mx tt).1 > 0 then pa-(drawM 8 l mx tt).1 else 0):=h.next (by split <;> omega) (by split <;> omega)
    obtain ⟨pts2,pa2,m2,t2,c2,i2,b1,b2⟩:=made_pts hr k (i+1) (pts++[pa]) _ (drawM 8 l mx tt).2.1 (drawM 8 l mx tt).2.2 (by omega) i1 (by omega) (by omega)
    rw [show i+1+k=i+(k+1) by omega] at c2 i2
    exact ⟨pts2,pa2,m2,t2,.step c1 c2,i2,by omega,by omega⟩
theorem made_done{l:List Int}{r0 r3 r6 r20:Int}{pts:List Int}(hr:r20≤1000)(hr0:0≤r0∧r0≤15):∀ (k j:Nat) (dn:List (List Int)) (mx tt:Int),(j:Int)+k=r20→dn.length=j→(∀ r∈dn,KL.RaceOK r0.toNat r)→0≤mx→mx+100*k≤900000 →
    ∃ (dn':List (List Int)) (mx' tt':Int),LoopOK Tryz.prog 1 zL2c1 (made_S1 l r0 r3 r6 pts r20 j dn.length (dn.map intsP) mx tt) (.exit 2) (made_S1 l r0 r3 r6 pts r20 (j+k) dn'.length (dn'.map intsP) mx' tt')∧dn'.length=j+k∧(∀ r∈dn',KL.RaceOK r0.toNat r)∧mx≤mx'∧mx'≤mx+100*k
  | 0,j,dn,mx,tt,hk,hl,h,h0,h1=>⟨dn,mx,tt,.exit (made_L1_p1 (by omega)) (by simp),hl,h,by omega,by omega⟩
  | k+1,j,dn,mx,tt,hk,hl,h,h0,h1=>by
    obtain ⟨_,q1,q2,q3⟩:=racedM_spec r0 true l mx tt ⟨h0,by omega⟩ hr0
    have c1:=made_L1_p0 (r3:=r3) (r6:=r6) (pts'16:=pts) (r20:=r20) (j:=j) (dn:=dn) (dn':=dn++[(racedM r0 true l mx tt).1]) (by omega) ⟨h0,by omega⟩ hr0 (show racedM r0 true l mx tt=((racedM r0 true l mx tt).1,(racedM r0 true l mx tt).2.1,(racedM r0 true l mx tt).2.2) from rfl) (by simp;omega) (inR_nat (by omega)) rfl (by simp) (by simp)
    obtain ⟨dn2,m2,t2,c2,l2,i2,b1,b2⟩:=made_done hr hr0 k (j+1) (dn++[(racedM r0 true l mx tt).1]) (racedM r0 true l mx tt).2.1 (racedM r0 true l mx tt).2.2 (by omega) (by simp;omega) (fun r hr=>by
      rcases List.mem_append.1 hr with hr | hr
      · exact h r hr
      · simp at hr;rw [hr];exact q1) (by omega) (by omega)
    rw [show j+1+k=j+(k+1) by omega] at c2 l2
    exact ⟨dn2,m2,t2,.step c1 c2,l2,i2,by omega,by omega⟩
theorem made_ex(ns nr:Int)(l:List Int)(nx st:Int)(h:0≤nx∧nx≤100000)(hs:2≤ns∧ns≤12)(hr:1≤nr∧nr≤20):∃ r:Cup × Int × Int,FMM Tryz.prog 27 [.ptr 0 0,.p (intP ns),.p (intP nr)] [some (deckO l nx st)] (.p (cupP r.1)) [some (deckO l r.2.1 r.2.2)]∧KL.Valid r.1∧2≤r.1.sk∧r.1.sk≤ns∧r.1.ra≤nr∧r.1.pts.length≤10∧(∀ x∈r.1.pts,x≤40)∧nx≤r.2.1∧r.2.1≤nx+3000:=by
  have a1:=btwM_bd 2 ns l nx st
  obtain ⟨⟨r0,m1,t2⟩,e1⟩:∃ q,q=btwM 2 ns l nx st:=⟨_,rfl⟩
  rw [← e1] at a1
  have a2:=btwM_bd 1 nr l m1 t2
  obtain ⟨⟨r3,m4,t5⟩,e2⟩:∃ q,q=btwM 1 nr l m1 t2:=⟨_,rfl⟩
  rw [← e2] at a2
  have a3:=btwM_bd 1 r3 l m4 t5
  obtain ⟨⟨r6,m7,t8⟩,e3⟩:∃ q,q=btwM 1 r3 l m4 t5:=⟨_,rfl⟩
  rw [← e3] at a3
  have a4:=btwM_bd 10 40 l m7 t8
  obtain ⟨⟨r9,m10,t11⟩,e4⟩:∃ q,q=btwM 10 40 l m7 t8:=⟨_,rfl⟩
  rw [← e4] at a4
  have a5:=btwM_bd 1 10 l m10 t11
  obtain ⟨⟨r12,m13,t14⟩,e5⟩:∃ q,q=btwM 1 10 l m10 t11:=⟨_,rfl⟩
  rw [← e5] at a5
  dsimp only at a1 a2 a3 a4 a5
  obtain ⟨pts,pa,mx,tt,L1,i1,b1,b2⟩:=made_pts (l:=l) (r0:=r0) (r3:=r3) (r6:=r6) (r12:=r12) (by omega) r12.toNat 0 [] r9 m13 t14 (by omega) ⟨rfl,by omega,by simp,.nil⟩ (by omega) (by omega)
  have a6:=drawM_bd (r3+1) l mx tt
  obtain ⟨⟨r20,m21,t22⟩,e6⟩:∃ q,q=drawM (r3+1) l mx tt:=⟨_,rfl⟩
  rw [← e6] at a6
  dsimp only at a6
  obtain ⟨dn,mx2,tt2,L2,l2,i2,b3,b4⟩:=made_done (l:=l) (r0:=r0) (r3:=r3) (r6:=r6) (r20:=r20) (pts:=pts) (by omega) (by omega) r20.toNat 0 [] m21 t22 (by omega) rfl (by simp) (by omega) (by omega)
  rw [Nat.zero_add] at L1 L2 l2 i1
  refine ⟨(⟨r0,r3,r6,pts,dn⟩,mx2,tt2),made_p0 (r0:=r0) (r3:=r3) (r6:=r6) (pts'16:=pts) (dn'24:=dn) (mx'25:=mx2) (tt'26:=tt2) (by omega) (by omega) e1.symm (by omega) (by omega) e2.symm (by omega) (by omega) e3.symm (by omega) (by omega) e4.symm (by omega) (by omega) e5.symm L1 (by unfold inR;omega) (by omega) e6.symm L2,?_,by dsimp only;omega,by dsimp only;omega,by dsimp only;omega,by have:=i1.len;dsimp only;omega,fun x hx=>(i1.bd x hx).2,by dsimp only;omega,by dsimp only;omega⟩
  have hpl:=i1.len
  exact { sk1:=by dsimp only;omega,sk2:=by dsimp only;omega,ra1:=by dsimp only;omega,ra2:=by dsimp only;omega,be1:=by dsimp only;omega,be2:=by dsimp only;omega,pt1:=by dsimp only;omega,pt2:=by dsimp only;omega,dn:=by dsimp only;omega,
          len:=fun r hr=>by have:=(i2 r hr).len;dsimp only;omega,
          pts:=fun x hx=>by have:=i1.bd x hx;have:=i1.pa1;omega,
          rows:=fun r hr x hx=>(i2 r hr).bd x hx,
          falls:=falls_of i1.pw,
          clash:=by
            rw [List.any_eq_false]
            intro r hr
            have:=(KL.clash_iff r (fun x hx=>((i2 r hr).bd x hx).1)).2 (i2 r hr).cl
            simp [this] }
end
section
open KL
open Classical in
noncomputable def madeM(ns nr:Int)(l:List Int)(nx st:Int):Cup × Int × Int:=if h:(0≤nx∧nx≤100000)∧(2≤ns∧ns≤12)∧1≤nr∧nr≤20 then Classical.choose (made_ex ns nr l nx st h.1 h.2.1 h.2.2) else (⟨0,0,0,[],[]⟩,nx,st)
theorem madeM_spec(ns nr:Int)(l:List Int)(nx st:Int)(h:0≤nx∧nx≤100000)(hs:2≤ns∧ns≤12)(hr:1≤nr∧nr≤20):FMM Tryz.prog 27 [.ptr 0 0,.p (intP ns),.p (intP nr)] [some (deckO l nx st)] (.p (cupP (madeM ns nr l nx st).1)) [some (deckO l (madeM ns nr l nx st).2.1 (madeM ns nr l nx st).2.2)]∧KL.Valid (madeM ns nr l nx st).1∧2≤(madeM ns nr l nx st).1.sk∧(madeM ns nr l nx st).1.sk≤ns∧(madeM ns nr l nx st).1.ra≤nr∧(madeM ns nr l nx st).1.pts.length≤10∧(∀ x∈(madeM ns nr l nx st).1.pts,x≤40)∧nx≤(madeM ns nr l nx st).2.1∧(madeM ns nr l nx st).2.1≤nx+3000:=by
  unfold madeM
  rw [dif_pos ⟨h,hs,hr⟩]
  exact Classical.choose_spec (made_ex ns nr l nx st h hs hr)
theorem made_eq{c:Cup}{nx' st':Int}(ns nr:Int)(l:List Int)(nx st:Int)(h:0≤nx∧nx≤100000)(hs:2≤ns∧ns≤12)(hr:1≤nr∧nr≤20)(e:madeM ns nr l nx st=(c,nx',st')):FMM Tryz.prog 27 [.ptr 0 0,.p (intP ns),.p (intP nr)] [some (deckO l nx st)] (.p (cupP c)) [some (deckO l nx' st')]:=by
  have:=(madeM_spec ns nr l nx st h hs hr).1
  rw [e] at this
  exact this
theorem of_ok(l:List Int):FMM Tryz.prog 28 [.p (.sl l.length (l.map byteP))] [] (.ptr 0 0) [some (deckO l 0 17)]:=of_p0
end
section
open KL
noncomputable abbrev zL5c0:Code:=sub (cd Tryz.f26) [1,1,0,1,0,0]
noncomputable abbrev zL5c1:Code:=sub (cd Tryz.f40) [1,1,0,1,0,0]
noncomputable abbrev zL5c2:Code:=sub (cd Tryz.f90) [1,1,0,1,0,0]
def eqi_S0(a:List Int)(b:List Int)(i:Nat):St:=⟨fr 26 [(0,(.p (intsP a))),(1,(.p (intsP b))),(12,(.p (intP (a.length:Int)))),(13,(.p (intP (i:Int))))],[]⟩
theorem eqi_p0{a b:List Int}(h0:(a.length:Int)≠(b.length:Int)){base:Nat}:FV Tryz.prog 26 [(.p (intsP a)),(.p (intsP b))] base (.p (blP false)) []:=by
  exact FV.fin Tryz.func26 rfl (o:=[bT]) (l:=[_]) (by kernel_rfl) (gc (q_neT h0) gn)
theorem eqi_p1{a b:List Int}{i'0:Nat}(h0:(a.length:Int)=(b.length:Int))(hl1:LoopOK Tryz.prog 0 zL5c0 (eqi_S0 a b 0) (.exit 0) (eqi_S0 a b i'0)){base:Nat}:FV Tryz.prog 26 [(.p (intsP a)),(.p (intsP b))] base (.p (blP true)) []:=by
  exact FV.fin Tryz.func26 rfl (o:=[bF,.k 4 ⟨(rng [(2,10),(14,12)]),[],[],[]⟩ (.exit 0) (eqi_S0 a b i'0)]) (l:=[_,_]) (by kernel_rfl) (gc hl1.code (gc (q_neF h0) gn))
theorem eqi_p2{a b:List Int}{i'0:Nat}(h0:(a.length:Int)=(b.length:Int))(hl1:LoopOK Tryz.prog 0 zL5c0 (eqi_S0 a b 0) .ret (setS (eqi_S0 a b i'0) [(4,(.kb false))])){base:Nat}:FV Tryz.prog 26 [(.p (intsP a)),(.p (intsP b))] base (.p (blP false)) []:=by
  exact FV.fin Tryz.func26 rfl (o:=[bF,.k 4 ⟨(rng [(2,10),(14,12)]),[],[],[]⟩ .ret (setS (eqi_S0 a b i'0) [(4,(.kb false))])]) (l:=[_,_]) (by kernel_rfl) (gc hl1.code (gc (q_neF h0) gn))
theorem eqi_L0_p0{a b:List Int}{i:Nat}{x100 x101:Int}(h0:(i:Int)<(a.length:Int))(h1:a[i]? = some x100)(h2:b[i]? = some x101)(h3:x100≠x101):CodeOK Tryz.prog 0 zL5c0 (eqi_S0 a b i) .ret (setS (eqi_S0 a b i) [(4,(.kb false))]):=by
  exact CodeOK.fin (g:=⟨(rng [(2,2),(5,7),(14,12)]),[],[],[]⟩) (o:=[bT,.x (intP x100),.x (intP x101),bT]) (l:=[_,_,_,_,_,_]) (by kernel_rfl) (gc (q_neT h3) (gc (atm intP h2) (gc (ixn intP h2) (gc (atm intP h1) (gc (ixn intP h1) (gc (q_lt h0) gn))))))
theorem eqi_L0_p1{a b:List Int}{i:Nat}{x100 x101:Int}{i':Nat}(h0:(i:Int)<(a.length:Int))(h1:a[i]? = some x100)(h2:b[i]? = some x101)(h3:x100=x101)(h4:inR (((i+1):Nat):Int))(ei':i'=(i+1)):CodeOK Tryz.prog 0 zL5c0 (eqi_S0 a b i) .normal (eqi_S0 a b i'):=by
  subst ei'
  exact CodeOK.fin (g:=⟨(rng [(2,10),(14,12)]),[],[],[]⟩) (o:=[bT,.x (intP x100),.x (intP x101),bF]) (l:=[_,_,_,_,_,_,_]) (by kernel_rfl) (gc h4 (gc (q_neF h3) (gc (atm intP h2) (gc (ixn intP h2) (gc (atm intP h1) (gc (ixn intP h1) (gc (q_lt h0) gn)))))))
theorem eqi_L0_p2{a b:List Int}{i:Nat}(h0:(a.length:Int)≤(i:Int)):CodeOK Tryz.prog 0 zL5c0 (eqi_S0 a b i) (.exit 0) (eqi_S0 a b i):=by
  exact CodeOK.fin (g:=⟨(rng [(2,10),(14,12)]),[],[],[]⟩) (o:=[bF]) (l:=[_]) (by kernel_rfl) (gc (q_ltF h0) gn)
def eql_S0(a:List (List Int))(b:List (List Int))(i:Nat):St:=⟨fr 26 [(0,(.p (.sl a.length (a.flatten.map intP)))),(1,(.p (.sl b.length (b.flatten.map intP)))),(12,(.p (intP (a.length:Int)))),(13,(.p (intP (i:Int))))],[]⟩
theorem eql_p0{a b:List (List Int)}(h0:(a.length:Int)≠(b.length:Int)){base:Nat}:FV Tryz.prog 40 [(.p (.sl a.length (a.flatten.map intP))),(.p (.sl b.length (b.flatten.map intP)))] base (.p (blP false)) []:=by
  exact FV.fin Tryz.func40 rfl (o:=[bT]) (l:=[_]) (by kernel_rfl) (gc (q_neT h0) gn)
theorem eql_p1{a b:List (List Int)}{i'0:Nat}(h0:(a.length:Int)=(b.length:Int))(hl1:LoopOK Tryz.prog 0 zL5c1 (eql_S0 a b 0) (.exit 0) (eql_S0 a b i'0)){base:Nat}:FV Tryz.prog 40 [(.p (.sl a.length (a.flatten.map intP))),(.p (.sl b.length (b.flatten.map intP)))] base (.p (blP true)) []:=by
  exact FV.fin Tryz.func40 rfl (o:=[bF,.k 4 ⟨(rng [(2,10),(14,12)]),[],[],[]⟩ (.exit 0) (eql_S0 a b i'0)]) (l:=[_,_]) (by kernel_rfl) (gc hl1.code (gc (q_neF h0) gn))
theorem eql_p2{a b:List (List Int)}{i'0:Nat}(h0:(a.length:Int)=(b.length:Int))(hl1:LoopOK Tryz.prog 0 zL5c1 (eql_S0 a b 0) .ret (setS (eql_S0 a b i'0) [(4,(.kb false))])){base:Nat}:FV Tryz.prog 40 [(.p (.sl a.length (a.flatten.map intP))),(.p (.sl b.length (b.flatten.map intP)))] base (.p (blP false)) []:=by
  exact FV.fin Tryz.func40 rfl (o:=[bF,.k 4 ⟨(rng [(2,10),(14,12)]),[],[],[]⟩ .ret (setS (eql_S0 a b i'0) [(4,(.kb false))])]) (l:=[_,_]) (by kernel_rfl) (gc hl1.code (gc (q_neF h0) gn))
theorem eql_L0_p0{a b:List (List Int)}{i:Nat}{y100 y101 y102 y103 y104 y105 y106 y107:Int}(h0:(i:Int)<(a.length:Int))(h1:a[i]? = some [y100,y101,y102,y103])(h2:uni 4 a)(h3:b[i]? = some [y104,y105,y106,y107])(h4:uni 4 b)(h5:intsOK [(intP y100),(intP y101),(intP y102),(intP y103)] [(0,3,true),(1,3,true),(2,3,true),(3,3,true)]=true∧intsOK [(intP y104),(intP y105),(intP y106),(intP y107)] [(0,3,true),(1,3,true),(2,3,true),(3,3,true)]=true)(h6:(eqFs [(intP y100),(intP y101),(intP y102),(intP y103)] [(intP y104),(intP y105),(intP y106),(intP y107)] [(0,3,true),(1,3,true),(2,3,true),(3,3,true)])=false):CodeOK Tryz.prog 0 zL5c1 (eql_S0 a b i) .ret (setS (eql_S0 a b i) [(4,(.kb false))]):=by
  exact CodeOK.fin (g:=⟨(rng [(2,2),(5,7),(14,12)]),[],[],[]⟩) (o:=[bT,.x (.agg [(intP y100),(intP y101),(intP y102),(intP y103)]),.x (.agg [(intP y104),(intP y105),(intP y106),(intP y107)]),bT]) (l:=[_,_,_,_,0≤(i:Int)∧(i:Int)<(b.length:Int)∧(i*4)<(b.flatten.map intP).length,_,_,0≤(i:Int)∧(i:Int)<(a.length:Int)∧(i*4)<(a.flatten.map intP).length,_]) (by kernel_rfl) (gc (q_not h6) (gc h5 (gc (fl_load (i:=i) h4 h3) (gc (fl_le (i:=i) h4 h3) (gc (ix_fl (k:=4) (i:=(i:Int)) (by decide) h4 (Int.natCast_nonneg _) h3) (gc (fl_load (i:=i) h2 h1) (gc (fl_le (i:=i) h2 h1) (gc (ix_fl (k:=4) (i:=(i:Int)) (by decide) h2 (Int.natCast_nonneg _) h1) (gc (q_lt h0) gn)))))))))
theorem eql_L0_p1{a b:List (List Int)}{i:Nat}{y100 y101 y102 y103 y104 y105 y106 y107:Int}{i':Nat}(h0:(i:Int)<(a.length:Int))(h1:a[i]? = some [y100,y101,y102,y103])(h2:uni 4 a)(h3:b[i]? = some [y104,y105,y106,y107])(h4:uni 4 b)(h5:intsOK [(intP y100),(intP y101),(intP y102),(intP y103)] [(0,3,true),(1,3,true),(2,3,true),(3,3,true)]=true∧intsOK [(intP y104),(intP y105),(intP y106),(intP y107)] [(0,3,true),(1,3,true),(2,3,true),(3,3,true)]=true)(h6:(eqFs [(intP y100),(intP y101),(intP y102),(intP y103)] [(intP y104),(intP y105),(intP y106),(intP y107)] [(0,3,true),(1,3,true),(2,3,true),(3,3,true)])=true)(h7:inR (((i+1):Nat):Int))(ei':i'=(i+1)):CodeOK Tryz.prog 0 zL5c1 (eql_S0 a b i) .normal (eql_S0 a b i'):=by
  subst ei'
  exact CodeOK.fin (g:=⟨(rng [(2,10),(14,12)]),[],[],[]⟩) (o:=[bT,.x (.agg [(intP y100),(intP y101),(intP y102),(intP y103)]),.x (.agg [(intP y104),(intP y105),(intP y106),(intP y107)]),bF]) (l:=[_,_,_,_,_,0≤(i:Int)∧(i:Int)<(b.length:Int)∧(i*4)<(b.flatten.map intP).length,_,_,0≤(i:Int)∧(i:Int)<(a.length:Int)∧(i*4)<(a.flatten.map intP).length,_]) (by kernel_rfl) (gc h7 (gc (q_notF h6) (gc h5 (gc (fl_load (i:=i) h4 h3) (gc (fl_le (i:=i) h4 h3) (gc (ix_fl (k:=4) (i:=(i:Int)) (by decide) h4 (Int.natCast_nonneg _) h3) (gc (fl_load (i:=i) h2 h1) (gc (fl_le (i:=i) h2 h1) (gc (ix_fl (k:=4) (i:=(i:Int)) (by decide) h2 (Int.natCast_nonneg _) h1) (gc (q_lt h0) gn))))))))))
theorem eql_L0_p2{a b:List (List Int)}{i:Nat}(h0:(a.length:Int)≤(i:Int)):CodeOK Tryz.prog 0 zL5c1 (eql_S0 a b i) (.exit 0) (eql_S0 a b i):=by
  exact CodeOK.fin (g:=⟨(rng [(2,10),(14,12)]),[],[],[]⟩) (o:=[bF]) (l:=[_]) (by kernel_rfl) (gc (q_ltF h0) gn)
def eqn_S0(a:List (List Int))(b:List (List Int))(i:Nat):St:=⟨fr 26 [(0,(.p (.sl a.length (a.flatten.map intP)))),(1,(.p (.sl b.length (b.flatten.map intP)))),(12,(.p (intP (a.length:Int)))),(13,(.p (intP (i:Int))))],[]⟩
theorem eqn_p0{a b:List (List Int)}(h0:(a.length:Int)≠(b.length:Int)){base:Nat}:FV Tryz.prog 90 [(.p (.sl a.length (a.flatten.map intP))),(.p (.sl b.length (b.flatten.map intP)))] base (.p (blP false)) []:=by
  exact FV.fin Tryz.func90 rfl (o:=[bT]) (l:=[_]) (by kernel_rfl) (gc (q_neT h0) gn)
theorem eqn_p1{a b:List (List Int)}{i'0:Nat}(h0:(a.length:Int)=(b.length:Int))(hl1:LoopOK Tryz.prog 0 zL5c2 (eqn_S0 a b 0) (.exit 0) (eqn_S0 a b i'0)){base:Nat}:FV Tryz.prog 90 [(.p (.sl a.length (a.flatten.map intP))),(.p (.sl b.length (b.flatten.map intP)))] base (.p (blP true)) []:=by
  exact FV.fin Tryz.func90 rfl (o:=[bF,.k 4 ⟨(rng [(2,10),(14,12)]),[],[],[]⟩ (.exit 0) (eqn_S0 a b i'0)]) (l:=[_,_]) (by kernel_rfl) (gc hl1.code (gc (q_neF h0) gn))
theorem eqn_p2{a b:List (List Int)}{i'0:Nat}(h0:(a.length:Int)=(b.length:Int))(hl1:LoopOK Tryz.prog 0 zL5c2 (eqn_S0 a b 0) .ret (setS (eqn_S0 a b i'0) [(4,(.kb false))])){base:Nat}:FV Tryz.prog 90 [(.p (.sl a.length (a.flatten.map intP))),(.p (.sl b.length (b.flatten.map intP)))] base (.p (blP false)) []:=by
  exact FV.fin Tryz.func90 rfl (o:=[bF,.k 4 ⟨(rng [(2,10),(14,12)]),[],[],[]⟩ .ret (setS (eqn_S0 a b i'0) [(4,(.kb false))])]) (l:=[_,_]) (by kernel_rfl) (gc hl1.code (gc (q_neF h0) gn))
theorem eqn_L0_p0{a b:List (List Int)}{i:Nat}{y100 y101 y102 y103 y104 y105 y106 y107:Int}(h0:(i:Int)<(a.length:Int))(h1:a[i]? = some [y100,y101,y102,y103])(h2:uni 4 a)(h3:b[i]? = some [y104,y105,y106,y107])(h4:uni 4 b)(h5:intsOK [(intP y100),(intP y101),(intP y102),(intP y103)] [(0,3,true),(1,3,true),(2,3,true),(3,3,true)]=true∧intsOK [(intP y104),(intP y105),(intP y106),(intP y107)] [(0,3,true),(1,3,true),(2,3,true),(3,3,true)]=true)(h6:(eqFs [(intP y100),(intP y101),(intP y102),(intP y103)] [(intP y104),(intP y105),(intP y106),(intP y107)] [(0,3,true),(1,3,true),(2,3,true),(3,3,true)])=false):CodeOK Tryz.prog 0 zL5c2 (eqn_S0 a b i) .ret (setS (eqn_S0 a b i) [(4,(.kb false))]):=by
  exact CodeOK.fin (g:=⟨(rng [(2,2),(5,7),(14,12)]),[],[],[]⟩) (o:=[bT,.x (.agg [(intP y100),(intP y101),(intP y102),(intP y103)]),.x (.agg [(intP y104),(intP y105),(intP y106),(intP y107)]),bT]) (l:=[_,_,_,_,0≤(i:Int)∧(i:Int)<(b.length:Int)∧(i*4)<(b.flatten.map intP).length,_,_,0≤(i:Int)∧(i:Int)<(a.length:Int)∧(i*4)<(a.flatten.map intP).length,_]) (by kernel_rfl) (gc (q_not h6) (gc h5 (gc (fl_load (i:=i) h4 h3) (gc (fl_le (i:=i) h4 h3) (gc (ix_fl (k:=4) (i:=(i:Int)) (by decide) h4 (Int.natCast_nonneg _) h3) (gc (fl_load (i:=i) h2 h1) (gc (fl_le (i:=i) h2 h1) (gc (ix_fl (k:=4) (i:=(i:Int)) (by decide) h2 (Int.natCast_nonneg _) h1) (gc (q_lt h0) gn)))))))))
theorem eqn_L0_p1{a b:List (List Int)}{i:Nat}{y100 y101 y102 y103 y104 y105 y106 y107:Int}{i':Nat}(h0:(i:Int)<(a.length:Int))(h1:a[i]? = some [y100,y101,y102,y103])(h2:uni 4 a)(h3:b[i]? = some [y104,y105,y106,y107])(h4:uni 4 b)(h5:intsOK [(intP y100),(intP y101),(intP y102),(intP y103)] [(0,3,true),(1,3,true),(2,3,true),(3,3,true)]=true∧intsOK [(intP y104),(intP y105),(intP y106),(intP y107)] [(0,3,true),(1,3,true),(2,3,true),(3,3,true)]=true)(h6:(eqFs [(intP y100),(intP y101),(intP y102),(intP y103)] [(intP y104),(intP y105),(intP y106),(intP y107)] [(0,3,true),(1,3,true),(2,3,true),(3,3,true)])=true)(h7:inR (((i+1):Nat):Int))(ei':i'=(i+1)):CodeOK Tryz.prog 0 zL5c2 (eqn_S0 a b i) .normal (eqn_S0 a b i'):=by
  subst ei'
  exact CodeOK.fin (g:=⟨(rng [(2,10),(14,12)]),[],[],[]⟩) (o:=[bT,.x (.agg [(intP y100),(intP y101),(intP y102),(intP y103)]),.x (.agg [(intP y104),(intP y105),(intP y106),(intP y107)]),bF]) (l:=[_,_,_,_,_,0≤(i:Int)∧(i:Int)<(b.length:Int)∧(i*4)<(b.flatten.map intP).length,_,_,0≤(i:Int)∧(i:Int)<(a.length:Int)∧(i*4)<(a.flatten.map intP).length,_]) (by kernel_rfl) (gc h7 (gc (q_notF h6) (gc h5 (gc (fl_load (i:=i) h4 h3) (gc (fl_le (i:=i) h4 h3) (gc (ix_fl (k:=4) (i:=(i:Int)) (by decide) h4 (Int.natCast_nonneg _) h3) (gc (fl_load (i:=i) h2 h1) (gc (fl_le (i:=i) h2 h1) (gc (ix_fl (k:=4) (i:=(i:Int)) (by decide) h2 (Int.natCast_nonneg _) h1) (gc (q_lt h0) gn))))))))))
theorem eqn_L0_p2{a b:List (List Int)}{i:Nat}(h0:(a.length:Int)≤(i:Int)):CodeOK Tryz.prog 0 zL5c2 (eqn_S0 a b i) (.exit 0) (eqn_S0 a b i):=by
  exact CodeOK.fin (g:=⟨(rng [(2,10),(14,12)]),[],[],[]⟩) (o:=[bF]) (l:=[_]) (by kernel_rfl) (gc (q_ltF h0) gn)
theorem eqi_ok(a b:List Int)(ha:a.length≤100000){base:Nat}:FV Tryz.prog 26 [.p (intsP a),.p (intsP b)] base (.p (blP (decide (a=b)))) []:=by
  by_cases hl:a.length=b.length
  · have at':∀ (l:List Int) (j:Nat),j<l.length→l[j]? = some (l.getD j 0):=fun l j hj=>by
      rw [List.getElem?_eq_getElem hj,List.getD_eq_getElem?_getD,List.getElem?_eq_getElem hj];rfl
    rcases LoopOK.find (P:=Tryz.prog) (k:=0) (b:=zL5c0) (fun i=>eqi_S0 a b i) (fun i _=>setS (eqi_S0 a b i) [(4,.kb false)]) (eqi_S0 a b a.length) .ret (.exit 0) (by simp) (by simp) (fun j=>decide (a.getD j 0≠b.getD j 0)) (List.range a.length)
      (fun i x hx hp=>by
        obtain ⟨rfl,hi⟩:=range_at hx
        exact eqi_L0_p1 (by omega) (at' a x hi) (at' b x (by omega)) (by simpa using hp) (inR_nat (by omega)) rfl)
      (fun i x hx hp=>by
        obtain ⟨rfl,hi⟩:=range_at hx
        exact eqi_L0_p0 (by omega) (at' a x hi) (at' b x (by omega)) (by simpa using hp))
      (by rw [List.length_range];exact eqi_L0_p2 (by omega)) with ⟨i,x,h1,h2,h3,h4⟩ | ⟨h1,h2,h3⟩
    · have hne:a≠b:=fun e=>by subst e;simp at h3
      rw [decide_eq_false hne]
      exact eqi_p2 (by omega) h4
    · have he:a=b:=by
        refine List.ext_getElem hl fun j h5 h6 => ?_
        have h7:=List.any_eq_false.1 h2 j (List.mem_range.2 h5)
        have h8:a.getD j 0=b.getD j 0:=by simpa using h7
        rw [List.getD_eq_getElem?_getD,List.getD_eq_getElem?_getD,List.getElem?_eq_getElem h5,List.getElem?_eq_getElem h6] at h8
        exact h8
      rw [decide_eq_true he]
      exact eqi_p1 (by omega) h3
  · have hne:a≠b:=fun e=>hl (by rw [e])
    rw [decide_eq_false hne]
    exact eqi_p0 (by omega)
theorem eqFs4(y0 y1 y2 y3 z0 z1 z2 z3:Int):eqFs [intP y0,intP y1,intP y2,intP y3] [intP z0,intP z1,intP z2,intP z3] [(0,3,true),(1,3,true),(2,3,true),(3,3,true)]=decide ([y0,y1,y2,y3]=[z0,z1,z2,z3]):=by
  rw [Bool.eq_iff_iff]
  simp [eqFs,intC,intP]
theorem eql_ok(a b:List (List Int))(ha:a.length≤100000)(ua:uni 4 a)(ub:uni 4 b){base:Nat}:FV Tryz.prog 40 [.p (.sl a.length (a.flatten.map intP)),.p (.sl b.length (b.flatten.map intP))] base (.p (blP (decide (a=b)))) []:=by
  by_cases hl:a.length=b.length
  · have at':∀ (l:List (List Int)) (j:Nat),uni 4 l→j<l.length→∃ y0 y1 y2 y3,l[j]? = some [y0,y1,y2,y3]∧l.getD j []=[y0,y1,y2,y3]:=fun l j hu hj=>by
      have h:=hu l[j] (List.getElem_mem hj)
      match e:l[j],h with
      | [y0,y1,y2,y3],_=>exact ⟨y0,y1,y2,y3,by rw [List.getElem?_eq_getElem hj,e],by rw [List.getD_eq_getElem?_getD,List.getElem?_eq_getElem hj,e];rfl⟩
    rcases LoopOK.find (P:=Tryz.prog) (k:=0) (b:=zL5c1) (fun i=>eql_S0 a b i) (fun i _=>setS (eql_S0 a b i) [(4,.kb false)]) (eql_S0 a b a.length) .ret (.exit 0) (by simp) (by simp) (fun j=>decide (a.getD j []≠b.getD j [])) (List.range a.length)
      (fun i x hx hp=>by
        obtain ⟨rfl,hi⟩:=range_at hx
        obtain ⟨y0,y1,y2,y3,e1,e2⟩:=at' a x ua hi
        obtain ⟨z0,z1,z2,z3,e3,e4⟩:=at' b x ub (by omega)
        rw [e2,e4] at hp
        exact eql_L0_p1 (by omega) e1 ua e3 ub ⟨rfl,rfl⟩ (by rw [eqFs4];simpa using hp) (inR_nat (by omega)) rfl)
      (fun i x hx hp=>by
        obtain ⟨rfl,hi⟩:=range_at hx
        obtain ⟨y0,y1,y2,y3,e1,e2⟩:=at' a x ua hi
        obtain ⟨z0,z1,z2,z3,e3,e4⟩:=at' b x ub (by omega)
        rw [e2,e4] at hp
        exact eql_L0_p0 (by omega) e1 ua e3 ub ⟨rfl,rfl⟩ (by rw [eqFs4];exact decide_eq_false (of_decide_eq_true hp)))
      (by rw [List.length_range];exact eql_L0_p2 (by omega)) with ⟨i,x,h1,h2,h3,h4⟩ | ⟨h1,h2,h3⟩
    · have hne:a≠b:=fun e=>by subst e;simp at h3
      rw [decide_eq_false hne]
      exact eql_p2 (by omega) h4
    · have he:a=b:=by
        refine List.ext_getElem hl fun j h5 h6 => ?_
        have h7:=List.any_eq_false.1 h2 j (List.mem_range.2 h5)
        have h8:a.getD j []=b.getD j []:=by simpa using h7
        rw [List.getD_eq_getElem?_getD,List.getD_eq_getElem?_getD,List.getElem?_eq_getElem h5,List.getElem?_eq_getElem h6] at h8
        exact h8
      rw [decide_eq_true he]
      exact eql_p1 (by omega) h3
  · have hne:a≠b:=fun e=>hl (by rw [e])
    rw [decide_eq_false hne]
    exact eql_p0 (by omega)
theorem eqn_ok(a b:List (List Int))(ha:a.length≤100000)(ua:uni 4 a)(ub:uni 4 b){base:Nat}:FV Tryz.prog 90 [.p (.sl a.length (a.flatten.map intP)),.p (.sl b.length (b.flatten.map intP))] base (.p (blP (decide (a=b)))) []:=by
  by_cases hl:a.length=b.length
  · have at':∀ (l:List (List Int)) (j:Nat),uni 4 l→j<l.length→∃ y0 y1 y2 y3,l[j]? = some [y0,y1,y2,y3]∧l.getD j []=[y0,y1,y2,y3]:=fun l j hu hj=>by
      have h:=hu l[j] (List.getElem_mem hj)
      match e:l[j],h with
      | [y0,y1,y2,y3],_=>exact ⟨y0,y1,y2,y3,by rw [List.getElem?_eq_getElem hj,e],by rw [List.getD_eq_getElem?_getD,List.getElem?_eq_getElem hj,e];rfl⟩
    rcases LoopOK.find (P:=Tryz.prog) (k:=0) (b:=zL5c2) (fun i=>eqn_S0 a b i) (fun i _=>setS (eqn_S0 a b i) [(4,.kb false)]) (eqn_S0 a b a.length) .ret (.exit 0) (by simp) (by simp) (fun j=>decide (a.getD j []≠b.getD j [])) (List.range a.length)
      (fun i x hx hp=>by
        obtain ⟨rfl,hi⟩:=range_at hx
        obtain ⟨y0,y1,y2,y3,e1,e2⟩:=at' a x ua hi
        obtain ⟨z0,z1,z2,z3,e3,e4⟩:=at' b x ub (by omega)
        rw [e2,e4] at hp
        exact eqn_L0_p1 (by omega) e1 ua e3 ub ⟨rfl,rfl⟩ (by rw [eqFs4];simpa using hp) (inR_nat (by omega)) rfl)
      (fun i x hx hp=>by
        obtain ⟨rfl,hi⟩:=range_at hx
        obtain ⟨y0,y1,y2,y3,e1,e2⟩:=at' a x ua hi
        obtain ⟨z0,z1,z2,z3,e3,e4⟩:=at' b x ub (by omega)
        rw [e2,e4] at hp
        exact eqn_L0_p0 (by omega) e1 ua e3 ub ⟨rfl,rfl⟩ (by rw [eqFs4];exact decide_eq_false (of_decide_eq_true hp)))
      (by rw [List.length_range];exact eqn_L0_p2 (by omega)) with ⟨i,x,h1,h2,h3,h4⟩ | ⟨h1,h2,h3⟩
    · have hne:a≠b:=fun e=>by subst e;simp at h3
      rw [decide_eq_false hne]
      exact eqn_p2 (by omega) h4
    · have he:a=b:=by
        refine List.ext_getElem hl fun j h5 h6 => ?_
        have h7:=List.any_eq_false.1 h2 j (List.mem_range.2 h5)
        have h8:a.getD j []=b.getD j []:=by simpa using h7
        rw [List.getD_eq_getElem?_getD,List.getD_eq_getElem?_getD,List.getElem?_eq_getElem h5,List.getElem?_eq_getElem h6] at h8
        exact h8
      rw [decide_eq_true he]
      exact eqn_p1 (by omega) h3
  · have hne:a≠b:=fun e=>hl (by rw [e])
    rw [decide_eq_false hne]
    exact eqn_p0 (by omega)
end
end KV
end Go.Proofs
section
namespace Go.Proofs
open Go.RowKit
namespace KL
theorem falls2_any(W:World)(x y:Int):Calls Tryz.prog 99 #[.int .i64 x,.int .i64 y] W fun e w'=>e = .returned (.int .i64 (cmpDown x y))∧W=w':=by
  go_enter Tryz.func99,Tryz.ntmps99
  go_wp2_with (go_at_call 100;refine (compare_any _ _ _).mono ?_;rintro e w' ⟨rfl,rfl⟩)
  go_ret
  exact ⟨rfl,rfl⟩
def downI(l:List Int):List Int:=isort (ltC cmpDown) l
theorem insD_own(base:Nat)(v:Value)(l:List Int)(w:World)(hv:OwnI w base v l)(hlen:l.length≤1000)(h1:1≤l.length) :
    Calls Tryz.prog 189 #[v,.int .i64 0,.int .i64 l.length,.func (.func 99) #[] #[]] w fun e w'=>e = .returned (.tuple #[])∧OwnI w' base v (downI l)∧w.grownBy w' v.ownBlock:=by
  have hv0:=hv
  rcases hv.2 with ⟨rfl,h0⟩ | ⟨gb,cap,cur,rfl,hb,hg,hnc,hcm,hs,ht⟩
  · omega
  · refine (insertion_ints base 3 gb l.length cap l 99 #[] cmpDown w hv0 hlen ⟨enters_of Tryz.func99 (by kernel_rfl) rfl,fun W x y _ _ _ => ?_⟩).mono ?_
    · refine (falls2_any W x y).mono ?_
      rintro e w' ⟨rfl,rfl⟩
      exact ⟨rfl,Below.refl _ _⟩
    · rintro e w' ⟨rfl,h,hg⟩
      refine ⟨rfl,?_,hg⟩
      unfold OwnI downI
      rw [isort_length]
      exact h
end KL
namespace KV
open KL
theorem insD_ok(l:List Int)(k:Int)(hk:k=(l.length:Nat))(hl:l.length≤1000)(h1:1≤l.length):FMM Tryz.prog 189 [.own 0,.p (intP 0),.p (intP k),.fn 99 [] []] [some (rowI l)] (.tup []) [some (rowI (downI l))]:=fun C w us hus hM n=>by
  subst hk
  cases hus with
  | cons _ u _ us hu h2 =>
    cases h2 with
    | cons _ u2 _ us h3 h2 =>
      obtain ⟨u3,v,rfl,h4,h5⟩:=repL_two h2
      obtain rfl:=rep_fn h5
      cases h3 with
      | p _ _ h3 =>
        cases h3
        cases h4 with
        | p _ _ h4 =>
          cases h4
          refine (callsIn_wide.2 (insD_own 0 u l w (own_in hM rfl hu) hl h1)).mono ?_
          rintro e w' ⟨rfl,h1,h2⟩
          obtain ⟨C',f,m,_⟩:=row_after (d:=false) hM hu h1 h2 rfl (fun _=>⟨rfl,isort_length _ _⟩)
          exact ⟨_,rfl,C',f,m,.tup [] #[] rfl (fun i h=>by simp at h)⟩
theorem u64_bd(z:Int):0≤IntKind.wrap .u64 z∧IntKind.wrap .u64 z≤18446744073709551615:=by
  unfold IntKind.wrap
  simp only [IntKind.bits,IntKind.signed,Bool.false_and,Bool.false_eq_true,if_false]
  omega
theorem bitsLen_ok(n:Int){base:Nat}:FV Tryz.prog 143 [.p (.v (.int .u64 (IntKind.wrap .u64 n)))] base (.p (intP (Lib.bitLen (IntKind.wrap .u64 n).toNat))) [] :=
  FV.of_ret (fun _ _ => .v _) rfl fun C w us hus=>by
    obtain ⟨u,rfl,hu⟩:=repL_one hus
    cases hu with
    | p _ _ h =>
      cases h
      refine (Tryz.bits_Len _ w (u64_bd n).1 (u64_bd n).2).mono ?_
      rintro e w' ⟨rfl,rfl⟩
      exact ⟨rfl,Below.refl _ _⟩
theorem falls_ok(l:List Int)(hl:l.length≤1000){base:Nat}:FV Tryz.prog 96 [.p (intsP l)] base (.p (blP (fallsB l))) [] :=
  FV.of_ret (fun _ _ => .v _) rfl fun C w us hus=>by
    obtain ⟨u,rfl,hu⟩:=repL_one hus
    cases hu with
    | p _ _ h=>exact falls_any u l w (ints_of h) hl
end KV
end Go.Proofs
end
namespace Go.Proofs
namespace KV
section
open KL
noncomputable abbrev zN0c0:Code:=sub (cd Tryz.f23) [1,1,1,1,1,1,1,0,1,0,0]
noncomputable abbrev zN0c1:Code:=sub (cd Tryz.f23) [1,1,1,1,1,1,1,0,1,0,0,1,1,0,0,1,0,1,0,0]
def pdq_S0(l:List Int)(lim:Int)(dn:Nat)(dc:List PV):St:=⟨fr 148 [(0,(.own 0)),(1,(.p (intP 0))),(2,(.p (intP (l.length:Int)))),(3,(.p (intP lim))),(4,(.fn 99 [] [])),(10,(.kb true)),(11,(.kb true))],[some (.row 3 dn dc)]⟩
theorem pdq_p0{l:List Int}{lim:Int}{d'0:List Int}(hl0:LoopOK Tryz.prog 1 (sub (cd Tryz.f154) [1,1,0,0]) (pdq_S0 l lim l.length (l.map intP)) .ret (pdq_S0 l lim d'0.length (d'0.map intP))):FMM Tryz.prog 154 [(.own 0),(.p (intP 0)),(.p (intP (l.length:Int))),(.p (intP lim)),(.fn 99 [] [])] [some (.row 3 l.length (l.map intP))] (.tup []) [some (.row 3 d'0.length (d'0.map intP))]:=by
  exact FMM.fin (k:=1) (g:=⟨[],[],[],[]⟩) rfl Tryz.func154 rfl (o:=[.k 5 ⟨(rng [(5,5),(12,136)]),[],[],[]⟩ .ret (pdq_S0 l lim d'0.length (d'0.map intP))]) (l:=[_]) (by kernel_rfl) (gc hl0.code gn)
theorem pdq_L0_p0{l:List Int}{lim:Int}{d d':List Int}(h0:inR ((l.length:Int)-(0:Int)))(h1:((l.length:Int)-(0:Int))≤(12:Int))(h2:(l.length:Int)=(d.length:Nat))(h3:d.length≤1000)(h4:1≤d.length)(ed'n:d'.length=(downI d).length)(ed'c:d'.map intP=((downI d).map intP)):CodeOK Tryz.prog 1 (sub (cd Tryz.f154) [1,1,0,0]) (pdq_S0 l lim d.length (d.map intP)) .ret (pdq_S0 l lim d'.length (d'.map intP)):=by
  have raw:CodeOK Tryz.prog 1 (sub (cd Tryz.f154) [1,1,0,0]) (pdq_S0 l lim d.length (d.map intP)) .ret (pdq_S0 l lim ((downI d).length) ((downI d).map intP)):=CodeOK.fin (g:=⟨(rng [(5,5),(12,136)]),[],[],[]⟩) (o:=[bT,.c (.tup []) [(0,(.row 3 ((downI d).length) ((downI d).map intP)))]]) (l:=[FC Tryz.prog 189 [(.own 0),(.p (intP 0)),(.p (intP (l.length:Int))),(.fn 99 [] [])] [(0,(.row 3 d.length (d.map intP)))] 1 (.tup []) [(0,(.row 3 ((downI d).length) ((downI d).map intP)))],_,_]) (by kernel_rfl) (gc (FMM.fc (ids:=[0]) (insD_ok d (l.length:Int) h2 h3 h4) (by kernel_rfl)) (gc (q_le h1) (gc h0 gn)))
  exact raw.cast (by rw [ed'n,ed'c])
theorem pdq_ok(l:List Int)(lim:Int)(hl:l.length≤12)(h1:1≤l.length):FMM Tryz.prog 154 [.own 0,.p (intP 0),.p (intP (l.length:Nat)),.p (intP lim),.fn 99 [] []] [some (rowI l)] (.tup []) [some (rowI (downI l))] :=
  pdq_p0 (.exit (pdq_L0_p0 (d:=l) (d':=downI l) (by unfold inR;omega) (by omega) rfl (by omega) h1 rfl rfl) (by simp))
theorem sfn_p0{l:List Int}(h0:l.length≤12)(h1:1≤l.length):FMM Tryz.prog 98 [(.own 0),(.fn 99 [] [])] [some (.row 3 l.length (l.map intP))] (.tup []) [some (.row 3 ((downI l).length) ((downI l).map intP))]:=by
  exact FMM.fin (k:=1) (g:=⟨[],[],[],[]⟩) rfl Tryz.func98 rfl (o:=[.c (.p (intP (Lib.bitLen ((IntKind.wrap .u64 (l.length:Int))).toNat:Int))) [],.c (.tup []) [(0,(.row 3 ((downI l).length) ((downI l).map intP)))]]) (l:=[FC Tryz.prog 154 [(.own 0),(.p (intP 0)),(.p (intP (l.length:Int))),(.p (intP (Lib.bitLen ((IntKind.wrap .u64 (l.length:Int))).toNat:Int))),(.fn 99 [] [])] [(0,(.row 3 l.length (l.map intP)))] 1 (.tup []) [(0,(.row 3 ((downI l).length) ((downI l).map intP)))],_]) (by kernel_rfl) (gc (FMM.fc (ids:=[0]) (pdq_ok l (Lib.bitLen ((IntKind.wrap .u64 (l.length:Int))).toNat:Int) h0 h1) (by kernel_rfl)) (gc (fk 1 (bitsLen_ok (l.length:Int)) rfl) gn))
theorem nat_p7{c:Cup}{ns:List Int}{mo:Int}{qs:List Int}{o0:PV}{e1:Int}(h0:KL.Small c)(h1:(checkP c)=(0:Int))(h2:(ns.length:Int)=c.sk)(h3:(within (qs.length:Int) (1:Int) (31:Int))=true)(h4:small ns.length)(h5:(ns.all fun x=>within x 0 30)=true)(h6:(within mo (1:Int) (12:Int))=true)(h7:small qs.length)(h8:(qs.all fun x=>within x 0 20)=true)(h9:qs.length≤1000)(h10:(KL.fallsB qs)=true)(hl11:CodeOK Tryz.prog 0 (sub (cd Tryz.f23) [1,1,1]) ⟨fr 161 [(1,(.p (intsP ns))),(2,(.p (intP mo))),(3,(.p (intsP qs))),(10,(.ptr 0 0))],[some (.box 129 [(.p (intP c.sk)),(.p (intP c.ra)),(.p (intP c.be)),(.p (intsP c.pts)),(.p (rowsP c.done))])]⟩ .ret ⟨fr 161 [(8,(.p o0)),(9,(.p (intP e1)))],[]⟩){base:Nat}:FV Tryz.prog 23 [(.p (cupP c)),(.p (intsP ns)),(.p (intP mo)),(.p (intsP qs))] base (.tup [(.p o0),(.p (intP e1))]) []:=by
  exact FV.fin Tryz.func23 rfl (o:=[.c (.tup [(.p (cupP c)),(.p (intP (checkP c)))]) [],bF,bF,bF,bF,.c (.p (blP (within (qs.length:Int) (1:Int) (31:Int)))) [],bF,bF,bF,.c (.p (blP (ns.all fun x=>within x 0 30))) [],bF,bF,.c (.p (blP (within mo (1:Int) (12:Int)))) [],bF,bF,bF,bF,.c (.p (blP (qs.all fun x=>within x 0 20))) [],bF,bF,bF,.c (.p (blP (KL.fallsB qs))) [],bF,.k 0 ⟨(rng [(0,1),(4,6),(11,150)]),[1],[],[]⟩ .ret ⟨fr 161 [(8,(.p o0)),(9,(.p (intP e1)))],[]⟩]) (l:=[CodeOK Tryz.prog 0 (sub (cd Tryz.f23) [1,1,1]) ⟨fr 161 [(1,(.p (intsP ns))),(2,(.p (intP mo))),(3,(.p (intsP qs))),(10,(.ptr 0 0))],[some (.box 129 [(.p (intP c.sk)),(.p (intP c.ra)),(.p (intP c.be)),(.p (intsP c.pts)),(.p (rowsP c.done))])]⟩ .ret ⟨fr 161 [(8,(.p o0)),(9,(.p (intP e1)))],[]⟩,_,_,_,_,_,_,_,_,_,_,_,_,_,_,_,_,_,_,_,_,_,_,_]) (by kernel_rfl) (gc hl11 (gc (q_notF h10) (gc (fk 2 (falls_ok qs h9) rfl) (gc (q_notF h8) (gc (q_notF h6) (gc (q_notF h6) (gc (fk 2 (all92_ok qs h7) rfl) (gc (q_notF h6) (gc (q_notF h6) (gc (q_notF h5) (gc (q_notF h5) (gc (fk 2 (within_ok mo (1:Int) (12:Int)) rfl) (gc (q_notF h5) (gc (q_notF h5) (gc (fk 2 (all91_ok ns h4) rfl) (gc (q_notF h3) (gc (q_neF h2) (gc (q_neF h2) (gc (fk 2 (within_ok (qs.length:Int) (1:Int) (31:Int)) rfl) (gc (q_neF h2) (gc (q_neF h2) (gc (q_neF h2) (gc (q_neF h1) (gc (fk 1 (asked_ok c h0) rfl) gn))))))))))))))))))))))))
theorem n11_p0{c:Cup}{ns:List Int}{mo:Int}{qs:List Int}{mv:PV}(h0:KL.Valid c):CodeOK Tryz.prog 0 (sub (cd Tryz.f23) [1,1,1,1,0,0]) ⟨fr 161 [(1,(.p (intsP ns))),(2,(.p (intP mo))),(3,(.p (intsP qs))),(10,(.ptr 0 0)),(12,(.p mv))],[some (.box 129 [(.p (intP c.sk)),(.p (intP c.ra)),(.p (intP c.be)),(.p (intsP c.pts)),(.p (rowsP c.done))])]⟩ .normal ⟨fr 161 [(1,(.p (intsP ns))),(2,(.p (intP mo))),(3,(.p (intsP qs))),(12,(.p mv)),(63,(.p (intsP (totalsM c)))),(64,(.p (intP (((totalsM c).length:Nat):Int)))),(65,(.p (intP 0)))],[]⟩:=by
  exact CodeOK.fin (g:=⟨(rng [(0,1),(4,8),(13,50),(66,95)]),[],[],[]⟩) (o:=[.c (.p (intsP (totalsM c))) []]) (l:=[_]) (by kernel_rfl) (gc (fk 1 (totals_ok c h0) rfl) gn)
theorem n12_p0{ns:List Int}{mo:Int}{qs:List Int}{mv:PV}{ts:List Int}{i:Nat}:CodeOK Tryz.prog 0 (sub (cd Tryz.f23) [1,1,1,1,0,1,0,0,0]) ⟨fr 161 [(1,(.p (intsP ns))),(2,(.p (intP mo))),(3,(.p (intsP qs))),(12,(.p mv)),(63,(.p (intsP ts))),(64,(.p (intP (ts.length:Int)))),(65,(.p (intP (i:Int))))],[]⟩ .normal ⟨fr 161 [(1,(.p (intsP ns))),(2,(.p (intP mo))),(3,(.p (intsP qs))),(12,(.p mv)),(63,(.p (intsP ts))),(64,(.p (intP (ts.length:Int)))),(65,(.p (intP (i:Int)))),(66,(.p (blP (decide ((i:Int)<(ts.length:Int))))))],[]⟩:=by
  exact CodeOK.fin (g:=⟨(rng [(0,1),(4,8),(13,50),(67,94)]),[],[],[]⟩) (o:=[]) (l:=[]) (by kernel_rfl) (gn)
theorem n12c_p0{ns:List Int}{mo:Int}{qs:List Int}{mv:PV}{ts:List Int}{i:Nat}(h0:(i:Int)<(ts.length:Int)):CodeOK Tryz.prog 0 (sub (cd Tryz.f23) [1,1,1,1,0,1,0,0,1,0]) ⟨fr 161 [(1,(.p (intsP ns))),(2,(.p (intP mo))),(3,(.p (intsP qs))),(12,(.p mv)),(63,(.p (intsP ts))),(64,(.p (intP (ts.length:Int)))),(65,(.p (intP (i:Int)))),(66,(.p (blP (decide ((i:Int)<(ts.length:Int))))))],[]⟩ .normal ⟨fr 161 [(1,(.p (intsP ns))),(2,(.p (intP mo))),(3,(.p (intsP qs))),(12,(.p mv)),(63,(.p (intsP ts))),(64,(.p (intP (ts.length:Int)))),(65,(.p (intP (i:Int))))],[]⟩:=by
  exact CodeOK.fin (g:=⟨(rng [(0,1),(4,8),(13,50),(66,95)]),[],[],[]⟩) (o:=[bT]) (l:=[_]) (by kernel_rfl) (gc (q_lt h0) gn)
theorem n12c_p1{ns:List Int}{mo:Int}{qs:List Int}{mv:PV}{ts:List Int}{i:Nat}(h0:(ts.length:Int)≤(i:Int)):CodeOK Tryz.prog 0 (sub (cd Tryz.f23) [1,1,1,1,0,1,0,0,1,0]) ⟨fr 161 [(1,(.p (intsP ns))),(2,(.p (intP mo))),(3,(.p (intsP qs))),(12,(.p mv)),(63,(.p (intsP ts))),(64,(.p (intP (ts.length:Int)))),(65,(.p (intP (i:Int)))),(66,(.p (blP (decide ((i:Int)<(ts.length:Int))))))],[]⟩ (.exit 1) ⟨fr 161 [(1,(.p (intsP ns))),(2,(.p (intP mo))),(3,(.p (intsP qs))),(12,(.p mv)),(63,(.p (intsP ts))),(64,(.p (intP (ts.length:Int)))),(65,(.p (intP (i:Int))))],[]⟩:=by
  exact CodeOK.fin (g:=⟨(rng [(0,1),(4,8),(13,50),(66,95)]),[],[],[]⟩) (o:=[bF]) (l:=[_]) (by kernel_rfl) (gc (q_ltF h0) gn)
theorem n13_p0{ns:List Int}{mo:Int}{qs:List Int}{mv:PV}{ts:List Int}{i:Nat}{x0:Int}(h0:ts[i]? = some x0):CodeOK Tryz.prog 0 (sub (cd Tryz.f23) [1,1,1,1,0,1,0,0,1,1,0,0,0]) ⟨fr 161 [(1,(.p (intsP ns))),(2,(.p (intP mo))),(3,(.p (intsP qs))),(12,(.p mv)),(63,(.p (intsP ts))),(64,(.p (intP (ts.length:Int)))),(65,(.p (intP (i:Int))))],[]⟩ .normal ⟨fr 161 [(1,(.p (intsP ns))),(2,(.p (intP mo))),(3,(.p (intsP qs))),(12,(.p mv)),(13,(.p (intP (i:Int)))),(14,(.p (intP x0))),(63,(.p (intsP ts))),(64,(.p (intP (ts.length:Int)))),(65,(.p (intP (i:Int))))],[]⟩:=by
  exact CodeOK.fin (g:=⟨(rng [(0,1),(4,8),(15,48),(66,95)]),[],[],[]⟩) (o:=[.x (intP x0)]) (l:=[_,_]) (by kernel_rfl) (gc (atm intP h0) (gc (ixn intP h0) gn))
theorem n15_p0{ns:List Int}{mo:Int}{qs:List Int}{mv:PV}{ts:List Int}{i:Nat}{x:Int}(h0:inR (((i+1):Nat):Int)):CodeOK Tryz.prog 0 (sub (cd Tryz.f23) [1,1,1,1,0,1,0,0,1,1,1]) ⟨fr 161 [(1,(.p (intsP ns))),(2,(.p (intP mo))),(3,(.p (intsP qs))),(12,(.p mv)),(13,(.p (intP (i:Int)))),(14,(.p (intP x))),(63,(.p (intsP ts))),(64,(.p (intP (ts.length:Int)))),(65,(.p (intP (i:Int))))],[]⟩ .normal ⟨fr 161 [(1,(.p (intsP ns))),(2,(.p (intP mo))),(3,(.p (intsP qs))),(12,(.p mv)),(63,(.p (intsP ts))),(64,(.p (intP (ts.length:Int)))),(65,(.p (intP (((i+1):Nat):Int))))],[]⟩:=by
  exact CodeOK.fin (g:=⟨(rng [(0,1),(4,8),(13,50),(66,95)]),[],[],[]⟩) (o:=[]) (l:=[_]) (by kernel_rfl) (gc h0 gn)
theorem n16_p0{ns:List Int}{mo:Int}{qs:List Int}{mv:PV}{ts:List Int}{i:Nat}:CodeOK Tryz.prog 0 (sub (cd Tryz.f23) [1,1,1,1,1,0]) ⟨fr 161 [(1,(.p (intsP ns))),(2,(.p (intP mo))),(3,(.p (intsP qs))),(12,(.p mv)),(63,(.p (intsP ts))),(64,(.p (intP (ts.length:Int)))),(65,(.p (intP (i:Int))))],[]⟩ .normal ⟨fr 161 [(1,(.p (intsP ns))),(2,(.p (intP mo))),(3,(.p (intsP qs))),(12,(.p mv)),(15,(.p nilS))],[]⟩:=by
  exact CodeOK.fin (g:=⟨(rng [(0,1),(4,8),(13,2),(16,145)]),[],[],[]⟩) (o:=[]) (l:=[]) (by kernel_rfl) (gn)
theorem n17_p0{ns:List Int}{mo:Int}{qs:List Int}{mv:PV}:CodeOK Tryz.prog 0 (sub (cd Tryz.f23) [1,1,1,1,1,1,0,0]) ⟨fr 161 [(1,(.p (intsP ns))),(2,(.p (intP mo))),(3,(.p (intsP qs))),(12,(.p mv)),(15,(.p nilS))],[]⟩ .normal ⟨fr 161 [(1,(.p (intsP ns))),(2,(.p (intP mo))),(3,(.p (intsP qs))),(12,(.p mv)),(15,(.own 0)),(85,(.p (intP 0)))],[some (.row 40 0 [])]⟩:=by
  exact CodeOK.fin (g:=⟨(rng [(0,1),(4,8),(13,2),(16,69),(86,75)]),[0],[],[(15,40)]⟩) (o:=[]) (l:=[]) (by kernel_rfl) (gn)
theorem n18_p0{ns:List Int}{mo:Int}{qs:List Int}{mv:PV}{n:Nat}{o:List (List Int)}:CodeOK Tryz.prog 0 (sub (cd Tryz.f23) [1,1,1,1,1,1,0,1,0,0,0]) ⟨fr 161 [(1,(.p (intsP ns))),(2,(.p (intP mo))),(3,(.p (intsP qs))),(12,(.p mv)),(15,(.own 0)),(85,(.p (intP (n:Int))))],[some (.row 40 o.length (o.flatten.map intP))]⟩ .normal ⟨fr 161 [(1,(.p (intsP ns))),(2,(.p (intP mo))),(3,(.p (intsP qs))),(12,(.p mv)),(15,(.own 0)),(85,(.p (intP (n:Int)))),(86,(.p (blP (decide ((n:Int)<(31:Int))))))],[some (.row 40 o.length (o.flatten.map intP))]⟩:=by
  exact CodeOK.fin (g:=⟨(rng [(0,1),(4,8),(13,2),(16,69),(87,74)]),[0],[],[]⟩) (o:=[]) (l:=[]) (by kernel_rfl) (gn)
theorem n18c_p0{ns:List Int}{mo:Int}{qs:List Int}{mv:PV}{n:Nat}{o:List (List Int)}(h0:(n:Int)<(31:Int)):CodeOK Tryz.prog 0 (sub (cd Tryz.f23) [1,1,1,1,1,1,0,1,0,0,1,0]) ⟨fr 161 [(1,(.p (intsP ns))),(2,(.p (intP mo))),(3,(.p (intsP qs))),(12,(.p mv)),(15,(.own 0)),(85,(.p (intP (n:Int)))),(86,(.p (blP (decide ((n:Int)<(31:Int))))))],[some (.row 40 o.length (o.flatten.map intP))]⟩ .normal ⟨fr 161 [(1,(.p (intsP ns))),(2,(.p (intP mo))),(3,(.p (intsP qs))),(12,(.p mv)),(15,(.own 0)),(85,(.p (intP (n:Int))))],[some (.row 40 o.length (o.flatten.map intP))]⟩:=by
  exact CodeOK.fin (g:=⟨(rng [(0,1),(4,8),(13,2),(16,69),(86,75)]),[0],[],[]⟩) (o:=[bT]) (l:=[_]) (by kernel_rfl) (gc (q_lt h0) gn)
theorem n18c_p1{ns:List Int}{mo:Int}{qs:List Int}{mv:PV}{n:Nat}{o:List (List Int)}(h0:(31:Int)≤(n:Int)):CodeOK Tryz.prog 0 (sub (cd Tryz.f23) [1,1,1,1,1,1,0,1,0,0,1,0]) ⟨fr 161 [(1,(.p (intsP ns))),(2,(.p (intP mo))),(3,(.p (intsP qs))),(12,(.p mv)),(15,(.own 0)),(85,(.p (intP (n:Int)))),(86,(.p (blP (decide ((n:Int)<(31:Int))))))],[some (.row 40 o.length (o.flatten.map intP))]⟩ (.exit 3) ⟨fr 161 [(1,(.p (intsP ns))),(2,(.p (intP mo))),(3,(.p (intsP qs))),(12,(.p mv)),(15,(.own 0)),(85,(.p (intP (n:Int))))],[some (.row 40 o.length (o.flatten.map intP))]⟩:=by
  exact CodeOK.fin (g:=⟨(rng [(0,1),(4,8),(13,2),(16,69),(86,75)]),[0],[],[]⟩) (o:=[bF]) (l:=[_]) (by kernel_rfl) (gc (q_ltF h0) gn)
theorem n19_p0{ns:List Int}{mo:Int}{qs:List Int}{mv:PV}{n:Nat}{o:List (List Int)}:CodeOK Tryz.prog 0 (sub (cd Tryz.f23) [1,1,1,1,1,1,0,1,0,0,1,1,0,0,0]) ⟨fr 161 [(1,(.p (intsP ns))),(2,(.p (intP mo))),(3,(.p (intsP qs))),(12,(.p mv)),(15,(.own 0)),(85,(.p (intP (n:Int))))],[some (.row 40 o.length (o.flatten.map intP))]⟩ .normal ⟨fr 161 [(1,(.p (intsP ns))),(2,(.p (intP mo))),(3,(.p (intsP qs))),(12,(.p mv)),(15,(.own 0)),(16,(.p (intP (n:Int)))),(85,(.p (intP (n:Int))))],[some (.row 40 o.length (o.flatten.map intP))]⟩:=by
  exact CodeOK.fin (g:=⟨(rng [(0,1),(4,8),(13,2),(17,68),(86,75)]),[0],[],[]⟩) (o:=[]) (l:=[]) (by kernel_rfl) (gn)
theorem n21n_p0{ns:List Int}{mo:Int}{qs:List Int}{mv:PV}{n:Nat}{o:List (List Int)}:CodeOK Tryz.prog 0 (sub (cd Tryz.f23) [1,1,1,1,1,1,0,1,0,0,1,1,0,0,1,1,0]) ⟨fr 161 [(1,(.p (intsP ns))),(2,(.p (intP mo))),(3,(.p (intsP qs))),(12,(.p mv)),(15,(.own 0)),(16,(.p (intP (n:Int)))),(17,(.p nilS)),(85,(.p (intP (n:Int))))],[some (.row 40 o.length (o.flatten.map intP))]⟩ (.exit 4) ⟨fr 161 [(1,(.p (intsP ns))),(2,(.p (intP mo))),(3,(.p (intsP qs))),(12,(.p mv)),(15,(.own 0)),(85,(.p (intP (n:Int))))],[some (.row 40 o.length (o.flatten.map intP))]⟩:=by
  exact CodeOK.fin (g:=⟨(rng [(0,1),(4,8),(13,2),(16,69),(86,75)]),[0],[],[]⟩) (o:=[]) (l:=[]) (by kernel_rfl) (gn)
theorem n21_p0{ns:List Int}{mo:Int}{qs:List Int}{mv:PV}{n:Nat}{o:List (List Int)}{y:Int}{l:List Int}:CodeOK Tryz.prog 0 (sub (cd Tryz.f23) [1,1,1,1,1,1,0,1,0,0,1,1,0,0,1,1,0]) ⟨fr 161 [(1,(.p (intsP ns))),(2,(.p (intP mo))),(3,(.p (intsP qs))),(12,(.p mv)),(15,(.own 0)),(16,(.p (intP (n:Int)))),(17,(.own 1)),(85,(.p (intP (n:Int))))],[some (.row 40 o.length (o.flatten.map intP)),some (.row 3 (l.length+1) ((intP y)::(l.map intP)))]⟩ .normal ⟨fr 161 [(1,(.p (intsP ns))),(2,(.p (intP mo))),(3,(.p (intsP qs))),(12,(.p mv)),(15,(.own 0)),(16,(.p (intP (n:Int)))),(17,(.own 1)),(85,(.p (intP (n:Int))))],[some (.row 40 o.length (o.flatten.map intP)),some (.row 3 (l.length+1) ((intP y)::(l.map intP)))]⟩:=by
  exact CodeOK.fin (g:=⟨(rng [(0,1),(4,8),(13,2),(18,67),(86,75)]),[0,1],[],[]⟩) (o:=[]) (l:=[]) (by kernel_rfl) (gn)
theorem n22_p0{ns:List Int}{mo:Int}{qs:List Int}{mv:PV}{n:Nat}{o:List (List Int)}{y:Int}{l l0:List Int}{o0:List (List Int)}(h0:((y::l)).length≤12)(h1:1≤((y::l)).length)(h2:0≤(0:Int)∧(0:Int)≤(if mo<(((downI (y::l)).length:Nat):Int) then mo else (((downI (y::l)).length:Nat):Int))∧(if mo<(((downI (y::l)).length:Nat):Int) then mo else (((downI (y::l)).length:Nat):Int))≤(((downI (y::l)).length:Nat):Int))(h3:((if mo<(((downI (y::l)).length:Nat):Int) then mo else (((downI (y::l)).length:Nat):Int)).toNat-0)=l0.length)(h4:((((downI (y::l)).map intP).drop 0).take (((if mo<(((downI (y::l)).length:Nat):Int) then mo else (((downI (y::l)).length:Nat):Int)).toNat-0)*(((downI (y::l)).map intP).length / ((downI (y::l)).length))))=l0.map intP)(h5:small l0.length)(h6:∀ k,inR (l0.take k).sum)(h7:[(intP (n:Int)),(intP 1),(intP l0.sum),(intP 0)].length=1*4∧o.length+1≤1000000)(eo0n:o0.length=(o.length+1))(eo0c:o0.flatten.map intP=((o.flatten.map intP)++[(intP (n:Int)),(intP 1),(intP l0.sum),(intP 0)])):CodeOK Tryz.prog 0 (sub (cd Tryz.f23) [1,1,1,1,1,1,0,1,0,0,1,1,0,0,1,1,1]) ⟨fr 161 [(1,(.p (intsP ns))),(2,(.p (intP mo))),(3,(.p (intsP qs))),(12,(.p mv)),(15,(.own 0)),(16,(.p (intP (n:Int)))),(17,(.own 1)),(85,(.p (intP (n:Int))))],[some (.row 40 o.length (o.flatten.map intP)),some (.row 3 (l.length+1) ((intP y)::(l.map intP)))]⟩ .normal ⟨fr 161 [(1,(.p (intsP ns))),(2,(.p (intP mo))),(3,(.p (intsP qs))),(12,(.p mv)),(15,(.own 0)),(85,(.p (intP (n:Int))))],[some (.row 40 o0.length (o0.flatten.map intP))]⟩:=by
  have raw:CodeOK Tryz.prog 0 (sub (cd Tryz.f23) [1,1,1,1,1,1,0,1,0,0,1,1,0,0,1,1,1]) ⟨fr 161 [(1,(.p (intsP ns))),(2,(.p (intP mo))),(3,(.p (intsP qs))),(12,(.p mv)),(15,(.own 0)),(16,(.p (intP (n:Int)))),(17,(.own 1)),(85,(.p (intP (n:Int))))],[some (.row 40 o.length (o.flatten.map intP)),some (.row 3 (l.length+1) ((intP y)::(l.map intP)))]⟩ .normal ⟨fr 161 [(1,(.p (intsP ns))),(2,(.p (intP mo))),(3,(.p (intsP qs))),(12,(.p mv)),(15,(.own 0)),(85,(.p (intP (n:Int))))],[some (.row 40 (o.length+1) ((o.flatten.map intP)++[(intP (n:Int)),(intP 1),(intP l0.sum),(intP 0)]))]⟩:=CodeOK.fin (g:=⟨(rng [(0,1),(4,8),(13,2),(16,69),(86,75)]),[3],[],[]⟩) (o:=[.c (.tup []) [(1,(.row 3 ((downI (y::l)).length) ((downI (y::l)).map intP)))],.c (.p (intP l0.sum)) []]) (l:=[_,[(intP (n:Int)),(intP 1),(intP l0.sum),(intP 0)].length=4,FC Tryz.prog 101 [(.arr 1 0 ((if mo<(((downI (y::l)).length:Nat):Int) then mo else (((downI (y::l)).length:Nat):Int)).toNat-0))] [(1,(.row 3 ((downI (y::l)).length) ((downI (y::l)).map intP)))] 2 (.p (intP l0.sum)) [],_,FC Tryz.prog 98 [(.own 1),(.fn 99 [] [])] [(1,(.row 3 (l.length+1) ((intP y)::(l.map intP))))] 2 (.tup []) [(1,(.row 3 ((downI (y::l)).length) ((downI (y::l)).map intP)))]]) (by kernel_rfl) (gc h7 (gc (by first | decide | simp) (gc (FV.view (args':=[(.p (.sl ((if mo<(((downI (y::l)).length:Nat):Int) then mo else (((downI (y::l)).length:Nat):Int)).toNat-0) ((((downI (y::l)).map intP).drop 0).take (((if mo<(((downI (y::l)).length:Nat):Int) then mo else (((downI (y::l)).length:Nat):Int)).toNat-0)*(((downI (y::l)).map intP).length / ((downI (y::l)).length))))))]) (by rw [show ((.sl ((if mo<(((downI (y::l)).length:Nat):Int) then mo else (((downI (y::l)).length:Nat):Int)).toNat-0) ((((downI (y::l)).map intP).drop 0).take (((if mo<(((downI (y::l)).length:Nat):Int) then mo else (((downI (y::l)).length:Nat):Int)).toNat-0)*(((downI (y::l)).map intP).length / ((downI (y::l)).length))))):PV)=intsP l0 from sl_cast h3 h4];exact (sum_ok l0 h5 h6)) (by kernel_rfl) (by kernel_rfl) (by kernel_rfl)) (gc h2 (gc (FMM.fc (ids:=[1]) (sfn_p0 (l:=(y::l)) h0 h1) (by kernel_rfl)) gn)))))
  exact raw.cast (by rw [eo0n,eo0c])
theorem n24_p0{ns:List Int}{mo:Int}{qs:List Int}{mv:PV}{n:Nat}{o:List (List Int)}(h0:inR (((n+1):Nat):Int)):CodeOK Tryz.prog 0 (sub (cd Tryz.f23) [1,1,1,1,1,1,0,1,0,0,1,1,1]) ⟨fr 161 [(1,(.p (intsP ns))),(2,(.p (intP mo))),(3,(.p (intsP qs))),(12,(.p mv)),(15,(.own 0)),(85,(.p (intP (n:Int))))],[some (.row 40 o.length (o.flatten.map intP))]⟩ .normal ⟨fr 161 [(1,(.p (intsP ns))),(2,(.p (intP mo))),(3,(.p (intsP qs))),(12,(.p mv)),(15,(.own 0)),(85,(.p (intP (((n+1):Nat):Int))))],[some (.row 40 o.length (o.flatten.map intP))]⟩:=by
  exact CodeOK.fin (g:=⟨(rng [(0,1),(4,8),(13,2),(16,69),(86,75)]),[0],[],[]⟩) (o:=[]) (l:=[_]) (by kernel_rfl) (gc h0 gn)
def nat_S2(qs:List Int)(o:List (List Int))(i:Nat)(pn:Nat)(pc:List PV):St:=⟨fr 161 [(3,(.p (intsP qs))),(15,(.own 0)),(109,(.p (intP (o.length:Int)))),(110,(.p (intP (i:Int))))],[some (.row 40 pn pc)]⟩
theorem n25_p0{qs:List Int}{o:List (List Int)}{i'0:Nat}{p'1:List (List Int)}(hl0:LoopOK Tryz.prog 0 zN0c0 (nat_S2 qs o 0 o.length (o.flatten.map intP)) (.exit 5) (nat_S2 qs o i'0 p'1.length (p'1.flatten.map intP)))(h1:uni 4 p'1)(h2:p'1.length<20):CodeOK Tryz.prog 0 (sub (cd Tryz.f23) [1,1,1,1,1,1,1]) ⟨fr 161 [(3,(.p (intsP qs))),(15,(.own 0))],[some (.row 40 o.length (o.flatten.map intP))]⟩ .ret ⟨fr 161 [(8,(.p (.sl ((isort (ltK 1) p'1).length) ((isort (ltK 1) p'1).flatten.map intP)))),(9,(.p (intP 0)))],[]⟩:=by
  exact CodeOK.fin (g:=⟨(rng [(0,8),(10,151)]),[],[0],[]⟩) (o:=[.k 4 ⟨(rng [(0,3),(4,4),(10,5),(16,93),(111,47),(159,1)]),[0],[],[]⟩ (.exit 5) (nat_S2 qs o i'0 p'1.length (p'1.flatten.map intP)),.c (.tup []) [(0,(.row 40 ((isort (ltK 1) p'1).length) ((isort (ltK 1) p'1).flatten.map intP)))]]) (l:=[FC Tryz.prog 102 [(.own 0),(.fn 103 [] [])] [(0,(.row 40 p'1.length (p'1.flatten.map intP)))] 1 (.tup []) [(0,(.row 40 ((isort (ltK 1) p'1).length) ((isort (ltK 1) p'1).flatten.map intP)))],_]) (by kernel_rfl) (gc (FMM.fc (ids:=[0]) (srtN_ok p'1 h1 h2) (by kernel_rfl)) (gc hl0.code gn))
def nat_S3(qs:List Int)(o:List (List Int))(i:Nat)(p:List (List Int))(j:Nat)(rn:Nat)(rc:List PV):St:=⟨fr 161 [(3,(.p (intsP qs))),(15,(.own 0)),(18,(.p (intP (i:Int)))),(109,(.p (intP (o.length:Int)))),(110,(.p (intP (i:Int)))),(111,(.p (blP (decide ((i:Int)<(o.length:Int)))))),(112,(.p (intP (i:Int)))),(113,(.own 0)),(114,(.p (intP (p.length:Int)))),(115,(.p (intP (j:Int))))],[some (.row 40 rn rc)]⟩
theorem nat_L2_p0{qs:List Int}{o:List (List Int)}{i:Nat}{p:List (List Int)}{j'300:Nat}{r'301:List (List Int)}{y302 y303 y304 y305 x306:Int}{i':Nat}{p':List (List Int)}(h0:(i:Int)<(o.length:Int))(hl1:LoopOK Tryz.prog 0 zN0c1 (nat_S3 qs o i p 0 p.length (p.flatten.map intP)) (.exit 7) (nat_S3 qs o i p j'300 r'301.length (r'301.flatten.map intP)))(h2:r'301[i]? = some [y302,y303,y304,y305])(h3:uni 4 r'301)(h4:y303≤(qs.length:Int))(h5:inR (y303-(1:Int)))(h6:qs[(y303-(1:Int)).toNat]? = some x306)(h7:0≤(y303-(1:Int)))(h8:((i*4)+3)<(r'301.flatten.map intP).length)(h9:inR (((i+1):Nat):Int))(ei':i'=(i+1))(ep'n:p'.length=r'301.length)(ep'c:p'.flatten.map intP=((r'301.flatten.map intP).set ((i*4)+3) (intP x306))):CodeOK Tryz.prog 0 zN0c0 (nat_S2 qs o i p.length (p.flatten.map intP)) .normal (nat_S2 qs o i' p'.length (p'.flatten.map intP)):=by
  subst ei'
  have raw:CodeOK Tryz.prog 0 zN0c0 (nat_S2 qs o i p.length (p.flatten.map intP)) .normal (nat_S2 qs o (i+1) r'301.length ((r'301.flatten.map intP).set ((i*4)+3) (intP x306))):=CodeOK.fin (g:=⟨(rng [(0,3),(4,4),(10,5),(16,93),(111,47),(159,1)]),[0],[],[]⟩) (o:=[bT,.k 8 ⟨(rng [(0,3),(4,4),(10,5),(16,2),(19,90),(116,20),(159,1)]),[0],[],[]⟩ (.exit 7) (nat_S3 qs o i p j'300 r'301.length (r'301.flatten.map intP)),.x (intP y303),bT,.x (intP y303),.x (intP x306)]) (l:=[_,_,_,(qs.map intP)[((y303-(1:Int)).toNat*1)]? = some (intP x306),_,_,(r'301.flatten.map intP)[((i*4)+1)]? = some (intP y303),_,_,(r'301.flatten.map intP)[((i*4)+1)]? = some (intP y303),_,_,_]) (by kernel_rfl) (gc h9 (gc h8 (gc (ix_own (i:=(i:Int)) (Int.natCast_nonneg _) h2) (gc (at_map (i:=(y303-(1:Int)).toNat) h6) (gc (ix_map (g:=intP) h7 h6) (gc h5 (gc (fl_field (i:=i) (f:=1) h3 h2 rfl) (gc (ix_own (i:=(i:Int)) (Int.natCast_nonneg _) h2) (gc (q_le h4) (gc (fl_field (i:=i) (f:=1) h3 h2 rfl) (gc (ix_own (i:=(i:Int)) (Int.natCast_nonneg _) h2) (gc hl1.code (gc (q_lt h0) gn)))))))))))))
  exact raw.cast (by rw [ep'n,ep'c])
theorem nat_L2_p1{qs:List Int}{o:List (List Int)}{i:Nat}{p:List (List Int)}{j'300:Nat}{r'301:List (List Int)}{y302 y303 y304 y305:Int}{i':Nat}{p':List (List Int)}(h0:(i:Int)<(o.length:Int))(hl1:LoopOK Tryz.prog 0 zN0c1 (nat_S3 qs o i p 0 p.length (p.flatten.map intP)) (.exit 7) (nat_S3 qs o i p j'300 r'301.length (r'301.flatten.map intP)))(h2:r'301[i]? = some [y302,y303,y304,y305])(h3:uni 4 r'301)(h4:(qs.length:Int)<y303)(h5:inR (((i+1):Nat):Int))(ei':i'=(i+1))(ep'n:p'.length=r'301.length)(ep'c:p'.flatten.map intP=(r'301.flatten.map intP)):CodeOK Tryz.prog 0 zN0c0 (nat_S2 qs o i p.length (p.flatten.map intP)) .normal (nat_S2 qs o i' p'.length (p'.flatten.map intP)):=by
  subst ei'
  have raw:CodeOK Tryz.prog 0 zN0c0 (nat_S2 qs o i p.length (p.flatten.map intP)) .normal (nat_S2 qs o (i+1) r'301.length (r'301.flatten.map intP)):=CodeOK.fin (g:=⟨(rng [(0,3),(4,4),(10,5),(16,93),(111,47),(159,1)]),[0],[],[]⟩) (o:=[bT,.k 8 ⟨(rng [(0,3),(4,4),(10,5),(16,2),(19,90),(116,20),(159,1)]),[0],[],[]⟩ (.exit 7) (nat_S3 qs o i p j'300 r'301.length (r'301.flatten.map intP)),.x (intP y303),bF]) (l:=[_,_,(r'301.flatten.map intP)[((i*4)+1)]? = some (intP y303),_,_,_]) (by kernel_rfl) (gc h5 (gc (q_leF h4) (gc (fl_field (i:=i) (f:=1) h3 h2 rfl) (gc (ix_own (i:=(i:Int)) (Int.natCast_nonneg _) h2) (gc hl1.code (gc (q_lt h0) gn))))))
  exact raw.cast (by rw [ep'n,ep'c])
theorem nat_L2_p2{qs:List Int}{o:List (List Int)}{i:Nat}{p:List (List Int)}(h0:(o.length:Int)≤(i:Int)):CodeOK Tryz.prog 0 zN0c0 (nat_S2 qs o i p.length (p.flatten.map intP)) (.exit 5) (nat_S2 qs o i p.length (p.flatten.map intP)):=by
  exact CodeOK.fin (g:=⟨(rng [(0,3),(4,4),(10,5),(16,93),(111,47),(159,1)]),[0],[],[]⟩) (o:=[bF]) (l:=[_]) (by kernel_rfl) (gc (q_ltF h0) gn)
theorem nat_L3_p0{qs:List Int}{o:List (List Int)}{i:Nat}{p:List (List Int)}{j:Nat}{r:List (List Int)}{y400 y401 y402 y403 y404 y405 y406 y407:Int}{j':Nat}{r':List (List Int)}(h0:(j:Int)<(p.length:Int))(h1:r[j]? = some [y400,y401,y402,y403])(h2:uni 4 r)(h3:r[i]? = some [y404,y405,y406,y407])(h4:y406<y402)(h5:inR (y405+(1:Int)))(h6:((i*4)+1)<(r.flatten.map intP).length)(h7:inR (((j+1):Nat):Int))(ej':j'=(j+1))(er'n:r'.length=r.length)(er'c:r'.flatten.map intP=((r.flatten.map intP).set ((i*4)+1) (intP (y405+(1:Int))))):CodeOK Tryz.prog 0 zN0c1 (nat_S3 qs o i p j r.length (r.flatten.map intP)) .normal (nat_S3 qs o i p j' r'.length (r'.flatten.map intP)):=by
  subst ej'
  have raw:CodeOK Tryz.prog 0 zN0c1 (nat_S3 qs o i p j r.length (r.flatten.map intP)) .normal (nat_S3 qs o i p (j+1) r.length ((r.flatten.map intP).set ((i*4)+1) (intP (y405+(1:Int))))):=CodeOK.fin (g:=⟨(rng [(0,3),(4,4),(10,5),(16,2),(19,90),(116,20),(159,1)]),[0],[],[]⟩) (o:=[bT,.x (.agg [(intP y400),(intP y401),(intP y402),(intP y403)]),.x (intP y406),bT,.x (intP y405)]) (l:=[_,_,_,_,(r.flatten.map intP)[((i*4)+1)]? = some (intP y405),_,_,(r.flatten.map intP)[((i*4)+2)]? = some (intP y406),_,_,_,_,_]) (by kernel_rfl) (gc h7 (gc h6 (gc (ix_own (i:=(i:Int)) (Int.natCast_nonneg _) h3) (gc h5 (gc (fl_field (i:=i) (f:=1) h2 h3 rfl) (gc (ix_own (i:=(i:Int)) (Int.natCast_nonneg _) h3) (gc (q_lt h4) (gc (fl_field (i:=i) (f:=2) h2 h3 rfl) (gc (ix_own (i:=(i:Int)) (Int.natCast_nonneg _) h3) (gc (fl_load (i:=j) h2 h1) (gc (fl_le (i:=j) h2 h1) (gc (ix_own (i:=(j:Int)) (Int.natCast_nonneg _) h1) (gc (q_lt h0) gn)))))))))))))
  exact raw.cast (by rw [er'n,er'c])
theorem nat_L3_p1{qs:List Int}{o:List (List Int)}{i:Nat}{p:List (List Int)}{j:Nat}{r:List (List Int)}{y400 y401 y402 y403 y404 y405 y406 y407:Int}{j':Nat}(h0:(j:Int)<(p.length:Int))(h1:r[j]? = some [y400,y401,y402,y403])(h2:uni 4 r)(h3:r[i]? = some [y404,y405,y406,y407])(h4:y402≤y406)(h5:inR (((j+1):Nat):Int))(ej':j'=(j+1)):CodeOK Tryz.prog 0 zN0c1 (nat_S3 qs o i p j r.length (r.flatten.map intP)) .normal (nat_S3 qs o i p j' r.length (r.flatten.map intP)):=by
  subst ej'
  exact CodeOK.fin (g:=⟨(rng [(0,3),(4,4),(10,5),(16,2),(19,90),(116,20),(159,1)]),[0],[],[]⟩) (o:=[bT,.x (.agg [(intP y400),(intP y401),(intP y402),(intP y403)]),.x (intP y406),bF]) (l:=[_,_,(r.flatten.map intP)[((i*4)+2)]? = some (intP y406),_,_,_,_,_]) (by kernel_rfl) (gc h5 (gc (q_ltF h4) (gc (fl_field (i:=i) (f:=2) h2 h3 rfl) (gc (ix_own (i:=(i:Int)) (Int.natCast_nonneg _) h3) (gc (fl_load (i:=j) h2 h1) (gc (fl_le (i:=j) h2 h1) (gc (ix_own (i:=(j:Int)) (Int.natCast_nonneg _) h1) (gc (q_lt h0) gn))))))))
theorem nat_L3_p2{qs:List Int}{o:List (List Int)}{i:Nat}{p:List (List Int)}{j:Nat}{r:List (List Int)}(h0:(p.length:Int)≤(j:Int)):CodeOK Tryz.prog 0 zN0c1 (nat_S3 qs o i p j r.length (r.flatten.map intP)) (.exit 7) (nat_S3 qs o i p j r.length (r.flatten.map intP)):=by
  exact CodeOK.fin (g:=⟨(rng [(0,3),(4,4),(10,5),(16,2),(19,90),(116,20),(159,1)]),[0],[],[]⟩) (o:=[bF]) (l:=[_]) (by kernel_rfl) (gc (q_ltF h0) gn)
end
section
variable {P:Program} {C C0:Cx} {M M0:Mem} {w w0:World}

theorem lt_of_some{w:World}{b:Nat}{o:Obj}(h:w.heap[b]? = some o):b<w.heap.size:=(Array.getElem?_eq_some_iff.1 h).1

theorem mem_beside(hM:MemOK P C M w){w':World}(hsz:w.heap.size≤w'.heap.size)(hF:∀ b,C.F b→w'.heap[b]? = w.heap[b]?)(hL:∀ (id:Nat) (o:AO) (b:Nat),M[id]? = some (some o)→o.live=true→C.ι id=some b→w'.heap[b]? = w.heap[b]?) :
    MemOK P C M w'∧Le C C M M w w':=by
  have hle:Le C C M M w w':=⟨fun _ o h=>⟨o,h⟩,fun _ _ _ _ _ cs h=>⟨cs,h⟩,fun _ o h o' h' hl=>by rw [h] at h';cases h';exact ⟨hl,rfl,rfl⟩,fun _ h=>h,hF⟩
  refine ⟨⟨fun i ty' n cs hm => ?_,fun i ty' cs hm => ?_,fun i es cl hm => ?_,hM.inj,hM.nF,fun b hb=>Nat.lt_of_lt_of_le (hM.Fs b hb) hsz,fun i x b hm hl hb=>Nat.lt_of_lt_of_le (hM.lt i x b hm hl hb) hsz⟩,hle⟩
  · rcases hM.row _ _ _ _ hm with h4 | ⟨b,arr,inf,q0,q1,q2,q3,q4,q5,q6,q7,q8⟩
    · exact .inl h4
    · exact .inr ⟨b,arr,inf,q0,by rw [hL _ _ _ hm rfl q0];exact q1,q2,q3,q4,q5,q6,fun j hj=>(q7 j hj).mono hle.F hle.fz,q8⟩
  · obtain ⟨b,arr,q0,q1,q2,q3,q4⟩:=hM.box _ _ _ hm
    exact ⟨b,arr,q0,by rw [hL _ _ _ hm rfl q0];exact q1,q2,fun j hj=>(q3 j hj).mono hle,q4⟩
  · obtain ⟨b,arr,q0,q1,q2,q3⟩:=hM.mp _ _ _ hm
    refine ⟨b,arr,q0,by rw [hL _ _ _ hm rfl q0];exact q1,q2,fun j hj => ?_⟩
    obtain ⟨en,r1,r2,r3,r4⟩:=q3 j hj
    exact ⟨en,r1,r2,r3,r4.mono hle.F hle.fz⟩

theorem Sim.beside{R R':List (Nat × Obj)}{st:St}{a:Act}{w':World}(h:Sim P (C0.with R) M0 w0 st a w)(X:Nat→Prop)(hX:∀ b,X b→∃ o,(b,o)∈R)(h1:w'.os=w.os)(h2:w'.tape=w.tape)(h3:w'.output=w.output)
    (hsz:w.heap.size≤w'.heap.size) (hk:∀ b,b<w.heap.size→¬ X b→w'.heap[b]? = w.heap[b]?)
    (hR':∀ p∈R',(p∈R∧¬ X p.1)∨(w'.heap[p.1]? = some p.2∧p.2 ≠ .deferred (some [])∧(w.heap.size≤p.1∨∃ o,(p.1,o)∈R))):Sim P (C0.with R') M0 w0 st a w':=by
  obtain ⟨C,hS,hM,hF,⟨l,m1,m2,m3⟩,hR⟩:=h
  have hXR:∀ b,X b→∃ o,w.heap[b]? = some o∧w0.heap.size≤b∧o ≠ .deferred (some [])∧¬ C.F b∧∀ (id:Nat) (o:AO),st.m[id]? = some (some o)→o.live=true→C.ι id≠some b:=fun b hb=>by
    obtain ⟨o,ho⟩:=hX b hb
    exact ⟨o,hR _ ho⟩
  have hFz:∀ b,C.F b→w'.heap[b]? = w.heap[b]? := fun b hb=>hk b (hM.Fs b hb) (fun hx=>by obtain ⟨_,_,_,_,q,_⟩:=hXR b hx;exact q hb)
  have hLv:∀ (id:Nat) (o:AO) (b:Nat),st.m[id]? = some (some o)→o.live=true→C.ι id=some b→w'.heap[b]? = w.heap[b]? := fun id o b ho hl hb=>hk b (hM.lt _ _ _ ho hl hb) (fun hx=>by obtain ⟨_,_,_,_,_,q⟩:=hXR b hx;exact q id o ho hl hb)
  obtain ⟨hM',hle⟩:=mem_beside hM hsz hFz hLv
  refine ⟨C,hS.le hle,hM',⟨h1.trans hF.os,h2.trans hF.tape,h3.trans hF.out,Nat.le_trans hF.size hsz,fun b hb hn=>(hk b (Nat.lt_of_lt_of_le hb hF.size) (fun hx=>by obtain ⟨_,_,q,_⟩:=hXR b hx;omega)).trans (hF.keep b hb hn),hF.ids,hF.row,hF.liv,hF.new,hF.F1,hF.F2⟩,⟨l,m1,m2,fun D hD => ?_⟩,fun p hp => ?_⟩
  · obtain ⟨q1,q2,q3⟩:=m3 D hD
    refine ⟨(hk D (lt_of_some q1) (fun hx => ?_)).trans q1,q2,q3⟩
    obtain ⟨o,r1,_,r3,_⟩:=hXR D hx
    rw [q1] at r1;cases r1;exact r3 rfl
  · rcases hR' p hp with ⟨hin,hx⟩ | ⟨r1,r2,r3⟩
    · obtain ⟨q1,q2,q3,q4,q5⟩:=hR p hin
      exact ⟨(hk _ (lt_of_some q1) hx).trans q1,q2,q3,q4,q5⟩
    · rcases r3 with r3 | ⟨o,ho⟩
      · refine ⟨r1,Nat.le_trans hF.size r3,r2,fun hf => ?_,fun id o ho hl hb => ?_⟩
        · have:=hM.Fs _ hf;omega
        · have:=hM.lt _ _ _ ho hl hb;omega
      · obtain ⟨q1,q2,q3,q4,q5⟩:=hR _ ho
        exact ⟨r1,q2,r2,q4,q5⟩

theorem Sim.less{R R':List (Nat × Obj)}{st:St}{a:Act}(h:Sim P (C0.with R) M0 w0 st a w)(hR:∀ p∈R',p∈R):Sim P (C0.with R') M0 w0 st a w :=
  h.beside (fun _=>False) (fun _ h=>h.elim) rfl rfl rfl (Nat.le_refl _) (fun _ _ _=>rfl) (fun p hp => .inl ⟨hR p hp,id⟩)

theorem Sim.has{R:List (Nat × Obj)}{st:St}{a:Act}(h:Sim P (C0.with R) M0 w0 st a w):∀ p∈R,w.heap[p.1]? = some p.2:=fun p hp=>by
  obtain ⟨C,_,_,_,_,hR⟩:=h
  exact (hR p hp).1

theorem Sim.put{st:St}{a:Act}(h:Sim P C0 M0 w0 st a w)(d:Option Tmp){x:AV}{u:Value}(hx:∀ (C:Cx) (M:Mem),Rep C M w x u):Sim P C0 M0 w0 ⟨KV.put st.t d x,st.m⟩ (a.put d u) w:=by
  obtain ⟨C,hS,hM,hF,hD⟩:=h
  refine ⟨C,hS.put (hx _ _),hM,hF,?_⟩
  have:(a.put d u).defers=a.defers:=by unfold Act.put;split <;> rfl
  rw [this]
  exact hD

theorem Sim.hand{R:List (Nat × Obj)}{st:St}{a:Act}{b ty n cap k d:Nat}{cs:List PV}{arr:Array Value}{i:TypeInfo}(h:Sim P (C0.with ((b,.cells arr ty (0,0))::R)) M0 w0 st a w)(hb:∀ p∈R,p.1≠b)
    (hk:M0.length≤k) (hf:Free st.m k) (hd:a.tmps.getD d undef = .slice (some ⟨b,0,none⟩) n cap) (hi:P.info? ty=some i) (harr:arr.size=cap*i.size) (hcs:cs.length=n*i.size) (hn:n≤cap) (hc:cap≤maxLen)
    (hrep:∀ (F:Nat→Prop) j (h:j<cs.length),RepP F w cs[j] (arr.getD j undef)) (h1:∀ j,j<cs.length→(arr.getD j undef).oneCell'=true):Sim P (C0.with R) M0 w0 ⟨st.t.set d (.own k),setAt st.m k (some (.row ty n cs))⟩ a w:=by
  obtain ⟨C,hS,hM,hF,hm,hR⟩:=h
  obtain ⟨q1,q2,q3,q4,q5⟩:=hR _ (List.mem_cons_self ..)
  dsimp only at q1 q2 q4 q5
  have hne:∀ (j:Nat) (o':AO),st.m[j]? = some (some o')→j≠k:=fun j o' h e=>hf o' (e ▸ h)
  have hold:∀ (j:Nat) (o':AO),j≠k→(setAt st.m k (some (.row ty n cs)))[j]? = some (some o')→st.m[j]? = some (some o'):=fun j o' h=>(setAt_other st.m k j _ o' (fun e=>h e.symm)).1
  have hfw:∀ (j:Nat) (o':AO),st.m[j]? = some (some o')→(setAt st.m k (some (.row ty n cs)))[j]? = some (some o'):=fun j o' h=>(setAt_other st.m k j _ o' (fun e=>hne j o' h e.symm)).2 h
  have hι:∀ j,j≠k→(C.grow k b cap).ι j=C.ι j:=fun j h=>by simp [Cx.grow,h]
  have hκ:∀ j,j≠k→(C.grow k b cap).κ j=C.κ j:=fun j h=>by simp [Cx.grow,h]
  have hιs:(C.grow k b cap).ι k=some b:=by simp [Cx.grow]
  have hκs:(C.grow k b cap).κ k=cap:=by simp [Cx.grow]
  have hle:Le C (C.grow k b cap) st.m (setAt st.m k (some (.row ty n cs))) w w:=by
    refine ⟨fun j o h=>⟨o,hfw j o h⟩,fun j o h ty' n' cs' hm=>⟨cs',hold j _ (hne j o h) hm⟩,fun j o h o' hm hl => ?_,fun _ h=>h,fun _ _=>rfl⟩
    have:=hold j _ (hne j o h) hm
    rw [h] at this;cases this
    exact ⟨hl,hι j (hne j o h),hκ j (hne j o h)⟩
  have hnew:∀ (o':AO),(setAt st.m k (some (.row ty n cs)))[k]? = some (some o')→o' = .row ty n cs:=fun o' h=>by rw [setAt_same] at h;cases h;rfl
  refine ⟨C.grow k b cap,⟨by simpa using hS.size,fun j hj => ?_⟩,⟨fun j ty' n' cs' hm => ?_,fun j ty' cs' hm => ?_,fun j es cl hm => ?_,fun j j' o1 o2 b' hm hl hm' hl' hb1 hb2 => ?_,fun j o' b' hm hl hb' => ?_,hM.Fs,fun j o' b' hm hl hb' => ?_⟩,
    ⟨hF.os,hF.tape,hF.out,hF.size,hF.keep,fun j o h => ?_,fun j o h ty' n' cs' hm => ?_,fun j o h o' hm hl => ?_,fun j o b' hm hl hb' => ?_,hF.F1,hF.F2⟩,hm,fun p hp => ?_⟩
  · simp only [List.length_set] at hj
    rw [List.getElem_set]
    split
    · rename_i e
      subst e
      rw [hd]
      exact .own k _ rfl ⟨_,setAt_same _ _ _⟩ (fun ty' n' cs' hm=>by cases hnew _ hm;exact .inr ⟨b,by rw [hκs],hιs⟩)
    · exact (hS.rep j hj).mono hle
  · by_cases e:j=k
    · subst e
      cases hnew _ hm
      exact .inr ⟨b,arr,i,hιs,q1,hi,by rw [hκs];exact harr,hcs,by rw [hκs];exact hn,by rw [hκs];exact hc,fun j hj=>hrep _ j hj,h1⟩
    · rw [hι j e,hκ j e]
      rcases hM.row _ _ _ _ (hold j _ e hm) with h4 | ⟨b,arr,inf,q0,q1,q2,q3,q4,q5,q6,q7,q8⟩
      · exact .inl h4
      · exact .inr ⟨b,arr,inf,q0,q1,q2,q3,q4,q5,q6,fun j hj=>(q7 j hj).mono hle.F hle.fz,q8⟩
  · by_cases e:j=k
    · subst e;cases hnew _ hm
    · rw [hι j e]
      obtain ⟨b,arr,q0,q1,q2,q3,q4⟩:=hM.box _ _ _ (hold j _ e hm)
      exact ⟨b,arr,q0,q1,q2,fun j hj=>(q3 j hj).mono hle,q4⟩
  · by_cases e:j=k
    · subst e;cases hnew _ hm
    · rw [hι j e]
      obtain ⟨b,arr,q0,q1,q2,q3⟩:=hM.mp _ _ _ (hold j _ e hm)
      refine ⟨b,arr,q0,q1,q2,fun j hj => ?_⟩
      obtain ⟨en,r1,r2,r3,r4⟩:=q3 j hj
      exact ⟨en,r1,r2,r3,r4.mono hle.F hle.fz⟩
  · by_cases e:j=k
    · by_cases e':j'=k
      · rw [e,e']
      · subst e
        rw [hιs] at hb1;cases hb1
        rw [hι j' e'] at hb2
        exact absurd hb2 (q5 _ _ (hold j' _ e' hm') hl')
    · by_cases e':j'=k
      · subst e'
        rw [hιs] at hb2;cases hb2
        rw [hι j e] at hb1
        exact absurd hb1 (q5 _ _ (hold j _ e hm) hl)
      · rw [hι j e] at hb1;rw [hι j' e'] at hb2
        exact hM.inj _ _ _ _ _ (hold j _ e hm) hl (hold j' _ e' hm') hl' hb1 hb2
  · by_cases e:j=k
    · subst e
      rw [hιs] at hb';cases hb'
      exact q4
    · rw [hι j e] at hb'
      exact hM.nF _ _ _ (hold j _ e hm) hl hb'
  · by_cases e:j=k
    · subst e
      rw [hιs] at hb';cases hb'
      exact lt_of_some q1
    · rw [hι j e] at hb'
      exact hM.lt _ _ _ (hold j _ e hm) hl hb'
  · have hj:j≠k:=by have:=(List.getElem?_eq_some_iff.1 h).1;omega
    obtain ⟨⟨o',r1⟩,r2,r3⟩:=hF.ids j o h
    exact ⟨⟨o',hfw j o' r1⟩,by rw [hι j hj];exact r2,by rw [hκ j hj];exact r3⟩
  · have hj:j≠k:=by have:=(List.getElem?_eq_some_iff.1 h).1;omega
    exact hF.row j o h _ _ _ (hold j _ hj hm)
  · have hj:j≠k:=by have:=(List.getElem?_eq_some_iff.1 h).1;omega
    exact hF.liv j o h o' (hold j _ hj hm) hl
  · by_cases e:j=k
    · subst e
      rw [hιs] at hb';cases hb'
      exact .inl q2
    · rw [hι j e] at hb'
      exact hF.new j o b' (hold j _ e hm) hl hb'
  · obtain ⟨r1,r2,r3,r4,r5⟩:=hR p (List.mem_cons_of_mem _ hp)
    refine ⟨r1,r2,r3,r4,fun j o ho hl hb' => ?_⟩
    by_cases e:j=k
    · subst e
      rw [hιs] at hb'
      exact hb p hp (Option.some.inj hb').symm
    · rw [hι j e] at hb'
      exact r5 j o (hold j _ e ho) hl hb'
end
section
open Go.Maps Go.MapKept
open Go.ChangeMaps (setBlock)

structure Ent where
  k:Int
  l:List Int
  b:Nat
  cap:Nat
  arr:Array Value

def Ent.val(e:Ent):Value := .slice (some ⟨e.b,0,none⟩) e.l.length e.cap
def Ent.blk(e:Ent):Nat × Obj:=(e.b,.cells e.arr 3 (0,0))
structure Ent.OK (e:Ent):Prop where
  key:(Lit.int .i64 e.k).wf=true
  sz:e.arr.size=e.cap
  le:e.l.length≤e.cap
  cap:e.cap≤maxLen
  at_:e.arr.toList.take e.l.length=e.l.map (Value.int .i64)

structure MapOK (mb:Nat) (es:Array MapEntry) (L:List Ent):Prop where
  e1:∀ x∈es.toList,∃ e∈L,x.key = .int .i64 e.k∧x.val=e.val
  e2:∀ e∈L,∃ x∈es.toList,x.key = .int .i64 e.k∧x.val=e.val
  nd:es.toList.Pairwise (fun x y=>x.key≠y.key)
  ok:∀ e∈L,e.OK
  keys:(L.map (·.k)).Nodup
  blks:(mb::L.map (·.b)).Nodup

theorem MapOK.nil(mb:Nat):MapOK mb #[] []:=⟨fun x h=>by simp at h,fun e h=>by simp at h,by simp,fun e h=>by simp at h,by simp,by simp⟩

def lookE(L:List Ent)(k:Int):Option Ent:=L.find? fun e=>e.k == k
def lookV(L:List Ent)(k:Int):Value:=match lookE L k with
  | some e=>e.val
  | none => .slice none 0 0

theorem lookE_some{L:List Ent}{k:Int}{e:Ent}(h:lookE L k=some e):e∈L∧e.k=k:=⟨List.mem_of_find?_eq_some h,by simpa using List.find?_some h⟩
theorem lookE_none{L:List Ent}{k:Int}(h:lookE L k=none):∀ e∈L,e.k≠k:=fun e he hk=>by
  have:=List.find?_eq_none.1 h e he
  simp [hk] at this
theorem lookE_mem{L:List Ent}{k:Int}{e:Ent}(hn:(L.map (·.k)).Nodup)(he:e∈L)(hk:e.k=k):lookE L k=some e:=by
  cases h:lookE L k with
  | none=>exact absurd hk (lookE_none h e he)
  | some e' =>
    obtain ⟨h1,h2⟩:=lookE_some h
    have:∀ (l:List Ent),(l.map (·.k)).Nodup→e∈l→e'∈l→e=e':=by
      intro l
      induction l with
      | nil=>intro _ h;simp at h
      | cons x r ih =>
        intro hn h3 h4
        rw [List.map_cons,List.nodup_cons] at hn
        rcases List.mem_cons.1 h3 with e1 | h5
        · rcases List.mem_cons.1 h4 with e2 | h6
          · rw [e1,e2]
          · exact absurd (List.mem_map.2 ⟨e',h6,by rw [h2,← hk,e1]⟩) hn.1
        · rcases List.mem_cons.1 h4 with e2 | h6
          · exact absurd (List.mem_map.2 ⟨e,h5,by rw [hk,← h2,e2]⟩) hn.1
          · exact ih hn.2 h5 h6
    rw [this L hn he h1]

section
variable {P:Program} {w:World} {t kt et:TypeId} {mb:Nat} {es:Array MapEntry} {cl:Nat} {L:List Ent}

theorem keyInt(hkt:P.underlying kt=some (.int .i64)){k:Int}(hk:(Lit.int .i64 k).wf=true):keyOf P kt (.int .i64 k)=some (.int .i64 k):=keyOf_int_mk hkt hk

theorem look_run(ht:P.underlying t=some (.map kt et))(hkt:P.underlying kt=some (.int .i64))(hz:(zeroValue et).run P w = .ok (.slice none 0 0) w)(hb:w.heap[mb]? = some (.map es cl))(hM:MapOK mb es L){k:Int}(hk:(Lit.int .i64 k).wf=true) :
    (Instr.lookup t (.map (some mb)) (.int .i64 k) false).run P w = .ok (lookV L k) w:=by
  have K:=int_keyed hkt
  have hkey:=keyInt hkt hk
  have hes:∀ e∈es.toList,∃ l,keyOf P kt e.key=some l:=fun x hx=>by
    obtain ⟨e,he,h1,_⟩:=hM.e1 x hx
    exact ⟨_,by rw [h1];exact keyInt hkt (hM.ok e he).key⟩
  rcases K.find w hkey es.toList hes with ⟨h1,h2⟩ | ⟨j,e0,h1,h2,h3⟩
  · have:lookE L k=none:=by
      rw [lookE,List.find?_eq_none]
      intro e he
      obtain ⟨x,hx,h4,_⟩:=hM.e2 e he
      have:=h2 x hx
      rw [h4] at this
      intro hk'
      exact this (by rw [eq_of_beq hk'])
    unfold lookV
    rw [this]
    simp [Instr.lookup,run_underlying ht,MapKept.run_getObj_map hb,K.check w _ hkey,h1,hz,Result.andThen]
  · obtain ⟨e,he,h4,h5⟩:=hM.e1 e0 (List.mem_of_getElem? h2)
    rw [h3] at h4
    have hk':e.k=k:=by injection h4 with _ h;exact h.symm
    unfold lookV
    rw [lookE_mem hM.keys he hk']
    simp [Instr.lookup,run_underlying ht,MapKept.run_getObj_map hb,K.check w _ hkey,h1,Result.andThen,h5]

def putE(L:List Ent)(e:Ent):List Ent:=L.filter (fun x=>x.k != e.k)++[e]
theorem mem_putE{L:List Ent}{e x:Ent}:x∈putE L e↔(x∈L∧x.k≠e.k)∨x=e:=by simp [putE]

theorem put_run(ht:P.underlying t=some (.map kt et))(hkt:P.underlying kt=some (.int .i64))(hb:w.heap[mb]? = some (.map es cl))(hM:MapOK mb es L)(e:Ent)(he:e.OK)
    (hblk:e.b≠mb∧∀ x∈L,x.k≠e.k→x.b≠e.b) :
    ∃ es' cl',(Instr.mapUpdate t (.map (some mb)) (.int .i64 e.k) e.val).run P w = .ok () (setBlock w mb (.map es' cl'))∧MapOK mb es' (putE L e):=by
  have K:=int_keyed hkt
  have hkey:=keyInt hkt he.key
  have hes:∀ e∈es.toList,∃ l,keyOf P kt e.key=some l:=fun x hx=>by
    obtain ⟨e,he,h1,_⟩:=hM.e1 x hx
    exact ⟨_,by rw [h1];exact keyInt hkt (hM.ok e he).key⟩
  have hok:∀ x∈putE L e,x.OK:=fun x hx=>by
    rcases mem_putE.1 hx with ⟨h1,_⟩ | rfl
    · exact hM.ok x h1
    · exact he
  have hkeys:((putE L e).map (·.k)).Nodup:=by
    unfold putE
    rw [List.map_append,List.nodup_append]
    refine ⟨?_,by simp,?_⟩
    · exact (List.Sublist.map _ (List.filter_sublist)).nodup hM.keys
    · intro x hx y hy
      obtain ⟨z,hz,rfl⟩:=List.mem_map.1 hx
      simp at hy
      subst hy
      have:=(List.mem_filter.1 hz).2
      simpa using this
  have hblks:(mb::(putE L e).map (·.b)).Nodup:=by
    have h0:=List.nodup_cons.1 hM.blks
    refine List.nodup_cons.2 ⟨?_,?_⟩
    · intro hin
      obtain ⟨x,hx,hxb⟩:=List.mem_map.1 hin
      rcases mem_putE.1 hx with ⟨h1,_⟩ | rfl
      · exact h0.1 (List.mem_map.2 ⟨x,h1,hxb⟩)
      · exact hblk.1 hxb
    · unfold putE
      rw [List.map_append,List.nodup_append]
      refine ⟨(List.Sublist.map _ (List.filter_sublist)).nodup h0.2,by simp,?_⟩
      intro x hx y hy
      obtain ⟨z,hz,rfl⟩:=List.mem_map.1 hx
      simp at hy
      subst hy
      obtain ⟨h1,h2⟩:=List.mem_filter.1 hz
      exact hblk.2 z h1 (by simpa using h2)
  rcases K.find w hkey es.toList hes with ⟨h1,h2⟩ | ⟨j,e0,h1,h2,h3⟩
  · refine ⟨es.push ⟨.int .i64 e.k,e.val,cl⟩,cl+1,?_,⟨fun x hx => ?_,fun x hx => ?_,?_,hok,hkeys,hblks⟩⟩
    · simp [Instr.mapUpdate,run_underlying ht,MapKept.run_getObj_map hb,K.check w false hkey,h1,MapKept.run_setObj_map _ hb,Result.andThen,setBlock]
    · simp only [Array.toList_push,List.mem_append,List.mem_singleton] at hx
      rcases hx with hx | rfl
      · obtain ⟨y,hy,q1,q2⟩:=hM.e1 x hx
        refine ⟨y,mem_putE.2 (.inl ⟨hy,fun hk=>h2 x hx (by rw [q1,hk])⟩),q1,q2⟩
      · exact ⟨e,mem_putE.2 (.inr rfl),rfl,rfl⟩
    · rcases mem_putE.1 hx with ⟨q1,_⟩ | rfl
      · obtain ⟨y,hy,q2⟩:=hM.e2 x q1
        exact ⟨y,by simp [hy],q2⟩
      · exact ⟨⟨.int .i64 x.k,x.val,cl⟩,by simp,rfl,rfl⟩
    · rw [Array.toList_push,List.pairwise_append]
      exact ⟨hM.nd,by simp,fun x hx y hy=>by simp at hy;subst hy;exact h2 x hx⟩
  · have hj:es[j]? = some e0:=by simpa using h2
    have hlist:(es.modify j (fun e'=>{ e' with key := .int .i64 e.k,val:=e.val })).toList=es.toList.set j { e0 with key := .int .i64 e.k,val:=e.val }:=by
      rw [Array.toList_modify,Go.ChangeMaps.modify_eq_set _ _ _ _ h2]
    have hjl:j<es.toList.length:=(List.getElem?_eq_some_iff.1 h2).1
    have hother:∀ i x,es.toList[i]? = some x→i≠j→x.key ≠ .int .i64 e.k:=fun i x hi hij=>by
      rw [← h3]
      obtain ⟨hi1,rfl⟩:=List.getElem?_eq_some_iff.1 hi
      obtain ⟨hj1,hje⟩:=List.getElem?_eq_some_iff.1 h2
      have:=List.pairwise_iff_getElem.1 hM.nd
      rcases Nat.lt_or_ge i j with h | h
      · rw [← hje];exact this i j hi1 hj1 h
      · rw [← hje];exact (this j i hj1 hi1 (by omega)).symm
    have who:∀ x∈es.toList.set j { e0 with key := .int .i64 e.k,val:=e.val },x={ e0 with key := .int .i64 e.k,val:=e.val }∨(x∈es.toList∧x.key ≠ .int .i64 e.k):=fun x hx=>by
      obtain ⟨i,hi,ex⟩:=List.getElem_of_mem hx
      rw [List.getElem_set] at ex
      split at ex
      · exact .inl ex.symm
      · rename_i hne
        have hi':i<es.toList.length:=by simpa using hi
        exact .inr ⟨ex ▸ List.getElem_mem hi',hother i x (by rw [List.getElem?_eq_getElem hi',ex]) (fun e=>hne e.symm)⟩
    refine ⟨es.modify j (fun e'=>{ e' with key := .int .i64 e.k,val:=e.val }),cl,?_,⟨fun x hx => ?_,fun x hx => ?_,?_,hok,hkeys,hblks⟩⟩
    · simp [Instr.mapUpdate,run_underlying ht,MapKept.run_getObj_map hb,K.check w false hkey,h1,hj,h3,K.stays w hkey,MapKept.run_setObj_map _ hb,Result.andThen,setBlock]
    · rw [hlist] at hx
      rcases who x hx with rfl | ⟨q1,q2⟩
      · exact ⟨e,mem_putE.2 (.inr rfl),rfl,rfl⟩
      · obtain ⟨y,hy,r1,r2⟩:=hM.e1 x q1
        exact ⟨y,mem_putE.2 (.inl ⟨hy,fun hk=>q2 (by rw [r1,hk])⟩),r1,r2⟩
    · rw [hlist]
      rcases mem_putE.1 hx with ⟨q1,q2⟩ | rfl
      · obtain ⟨y,hy,r1,r2⟩:=hM.e2 x q1
        obtain ⟨i,hi,rfl⟩:=List.getElem_of_mem hy
        have hij:i≠j:=fun hij=>by
          subst hij
          rw [List.getElem?_eq_getElem hi] at h2;cases h2
          rw [h3] at r1;injection r1 with _ r1;exact q2 r1.symm
        exact ⟨es.toList[i],List.mem_iff_getElem.2 ⟨i,by simpa using hi,by rw [List.getElem_set,if_neg (Ne.symm hij)]⟩,r1,r2⟩
      · exact ⟨_,List.mem_iff_getElem.2 ⟨j,by simpa using hjl,by rw [List.getElem_set,if_pos rfl]⟩,rfl,rfl⟩
    · rw [hlist,List.pairwise_iff_getElem]
      intro i1 i2 hi1 hi2 hlt
      simp only [List.length_set] at hi1 hi2
      have h0:=List.pairwise_iff_getElem.1 hM.nd i1 i2 hi1 hi2 hlt
      rw [List.getElem_set,List.getElem_set]
      split
      · rename_i e1
        rw [if_neg (by omega)]
        exact (hother i2 _ (List.getElem?_eq_getElem hi2) (by omega)).symm
      · split
        · exact hother i1 _ (List.getElem?_eq_getElem hi1) (by omega)
        · exact h0

theorem Ent.owns{e:Ent}(he:e.OK)(h:w.heap[e.b]? = some (.cells e.arr 3 (0,0))):w.ownsRow 0 3 1 e.val e.l.length (e.l.map (Value.int .i64)) :=
  ⟨by simp,.inr ⟨e.b,e.cap,e.arr,rfl,Nat.zero_le _,h,he.le,he.cap,by rw [he.sz,Nat.mul_one],by rw [Nat.mul_one];exact he.at_⟩⟩
theorem nil_owns:w.ownsRow 0 3 1 (.slice none 0 0) 0 []:=⟨rfl,.inl ⟨rfl,rfl⟩⟩
theorem owns_ent{v:Value}{l:List Int}{k:Int}(hk:(Lit.int .i64 k).wf=true)(hl:l≠[])(h:w.ownsRow 0 3 1 v l.length (l.map (Value.int .i64))):∃ e:Ent,e.k=k∧e.l=l∧e.val=v∧e.OK∧w.heap[e.b]? = some (.cells e.arr 3 (0,0)):=by
  rcases h.2 with ⟨_,h0⟩ | ⟨g,cap,cur,rfl,_,h1,h2,h3,h4,h5⟩
  · exact absurd (List.eq_nil_of_length_eq_zero h0) hl
  · exact ⟨⟨k,l,g,cap,cur⟩,rfl,rfl,rfl,⟨hk,by rw [h4,Nat.mul_one],h2,h3,by rw [Nat.mul_one] at h5;exact h5⟩,h1⟩
end
end
section
variable {P:Program} {C C0:Cx} {M M0:Mem} {w w0:World}

abbrev SR:=St→List (Nat × Obj)→Prop
def SimR(P:Program)(C0:Cx)(M0:Mem)(w0:World)(Ψ:SR)(a:Act)(w:World):Prop:=∃ st R,Ψ st R∧(∀ p∈R,∀ q∈C0.R,p.1≠q.1)∧Sim P (C0.with (R++C0.R)) M0 w0 st a w
def CodeR(P:Program)(k:Nat)(c:Code)(Ψ:SR)(e:Ex)(Ψ':SR):Prop:=∀ (C0:Cx) (M0:Mem) (w0:World) (a:Act) (w:World),M0.length≤k→SimR P C0 M0 w0 Ψ a w→∀ (n:Nat),c.wpIn (Fen none) n P (fun e' a' w'=>e'=e.toExit∧SimR P C0 M0 w0 Ψ' a' w') a w
def LoopR(P:Program)(k:Nat)(b:Code)(Ψ:SR)(e:Ex)(Ψ':SR):Prop:=∀ (C0:Cx) (M0:Mem) (w0:World) (a:Act) (w:World),M0.length≤k→SimR P C0 M0 w0 Ψ a w→∀ (n:Nat),LoopIn (Fen none) n P b (fun e' a' w'=>e'=e.toExit∧SimR P C0 M0 w0 Ψ' a' w') a w

section
variable {k:Nat} {a b c:Code} {Ψ Ψ1 Ψ':SR} {e:Ex}
theorem CodeR.of(h:∀ st R,Ψ st R→∃ st',Ψ' st' R∧CodeOK P k c st e st'):CodeR P k c Ψ e Ψ':=fun C0 M0 w0 a w hk ⟨st,R,hΨ,hd,hs⟩ n=>by
  obtain ⟨st',hΨ',hc⟩:=h st R hΨ
  refine wpIn_mono (hc (C0.with (R++C0.R)) M0 w0 a w hk hs none (.inl rfl) n) fun e' a' w' hq=>⟨hq.1,st',R,hΨ',hd,hq.2⟩
theorem CodeR.mono{Φ Φ':SR}(h:CodeR P k c Ψ e Ψ')(h1:∀ st R,Φ st R→Ψ st R)(h2:∀ st R,Ψ' st R→Φ' st R):CodeR P k c Φ e Φ':=fun C0 M0 w0 a w hk ⟨st,R,hΨ,hd,hs⟩ n =>
  wpIn_mono (h C0 M0 w0 a w hk ⟨st,R,h1 _ _ hΨ,hd,hs⟩ n) fun e' a' w' ⟨q,st',R',hq,hd',hs'⟩=>⟨q,st',R',h2 _ _ hq,hd',hs'⟩
theorem CodeR.seq(h:CodeR P k a Ψ .normal Ψ1)(h2:CodeR P k b Ψ1 e Ψ'):CodeR P k (.seq a b) Ψ e Ψ':=fun C0 M0 w0 ac w hk hs n=>by
  refine wpIn_seq (wpIn_mono (h C0 M0 w0 ac w hk hs n) ?_)
  rintro e' a' w' ⟨rfl,hs'⟩
  exact h2 C0 M0 w0 a' w' hk hs' n
theorem CodeR.seqx(h:CodeR P k a Ψ e Ψ')(he:e ≠ .normal):CodeR P k (.seq a b) Ψ e Ψ':=fun C0 M0 w0 ac w hk hs n=>by
  refine wpIn_seq (wpIn_mono (h C0 M0 w0 ac w hk hs n) ?_)
  rintro e' a' w' ⟨rfl,hs'⟩
  cases e with
  | normal=>exact absurd rfl he
  | ret=>exact ⟨rfl,hs'⟩
  | exit i=>exact ⟨rfl,hs'⟩
theorem CodeR.block{id:Nat}(h:CodeR P k b Ψ (.exit id) Ψ'):CodeR P k (.block id b) Ψ .normal Ψ':=fun C0 M0 w0 ac w hk hs n=>by
  refine wpIn_block (wpIn_mono (h C0 M0 w0 ac w hk hs n) ?_)
  rintro e' a' w' ⟨rfl,hs'⟩
  simp only [Ex.toExit,Exit.inBlock,if_true]
  exact ⟨trivial,hs'⟩
theorem CodeR.blockn{id:Nat}(h:CodeR P k b Ψ .normal Ψ'):CodeR P k (.block id b) Ψ .normal Ψ':=fun C0 M0 w0 ac w hk hs n=>by
  refine wpIn_block (wpIn_mono (h C0 M0 w0 ac w hk hs n) ?_)
  rintro e' a' w' ⟨rfl,hs'⟩
  exact ⟨rfl,hs'⟩
theorem LoopR.step(h:CodeR P k b Ψ .normal Ψ1)(hr:LoopR P k b Ψ1 e Ψ'):LoopR P k b Ψ e Ψ':=fun C0 M0 w0 a w hk hs n=>LoopIn.step (wpIn_mono (h C0 M0 w0 a w hk hs n) fun e' a' w' hq=>by
  obtain ⟨rfl,hs'⟩:=hq
  exact hr C0 M0 w0 a' w' hk hs' n)
theorem LoopR.exit(h:CodeR P k b Ψ e Ψ')(he:e ≠ .normal):LoopR P k b Ψ e Ψ':=fun C0 M0 w0 a w hk hs n=>LoopIn.step (wpIn_mono (h C0 M0 w0 a w hk hs n) fun e' a' w' hq=>by
  obtain ⟨rfl,hs'⟩:=hq
  cases e with
  | normal=>exact absurd rfl he
  | ret=>exact ⟨rfl,hs'⟩
  | exit id=>exact ⟨rfl,hs'⟩)
theorem LoopR.code(h:LoopR P k b Ψ e Ψ'):CodeR P k (.loop b) Ψ e Ψ':=fun C0 M0 w0 a w hk hs n=>LoopIn.wp (h C0 M0 w0 a w hk hs n)
theorem LoopR.times(N:Nat)(Ψ:Nat→SR)(hs:∀ i,i<N→CodeR P k b (Ψ i) .normal (Ψ (i+1)))(hx:CodeR P k b (Ψ N) e Ψ')(he:e ≠ .normal):LoopR P k b (Ψ 0) e Ψ':=by
  have key:∀ d i,i+d=N→LoopR P k b (Ψ i) e Ψ':=by
    intro d
    induction d with
    | zero => intro i hi;obtain rfl:i=N:=by omega
              exact .exit hx he
    | succ d ih=>intro i hi;exact .step (hs i (by omega)) (ih (i+1) (by omega))
  exact key N 0 (by omega)
theorem CodeR.ok{st st':St}(hn:nrf c=false)(h:CodeR P k c (fun s R=>s=st∧R=[]) e (fun s _=>s=st')):CodeOK P k c st e st':=fun C0 M0 w0 a w hk hs ro hro n=>by
  rcases hro with rfl | hro
  · refine wpIn_mono (h C0 M0 w0 a w hk ⟨st,[],⟨rfl,rfl⟩,by simp,hs⟩ n) ?_
    rintro e' a' w' ⟨q,st1,R,rfl,_,hs'⟩
    exact ⟨q,hs'.less fun p hp=>List.mem_append_right _ hp⟩
  · rw [hn] at hro;cases hro
theorem CodeR.hand(h:∀ (C0:Cx) (M0:Mem) (w0:World) (a:Act) (w:World) (st:St) (R:List (Nat × Obj)),M0.length≤k→Ψ st R→(∀ p∈R,∀ q∈C0.R,p.1≠q.1)→Sim P (C0.with (R++C0.R)) M0 w0 st a w→c.wp P (fun e' a' w'=>e'=e.toExit∧SimR P C0 M0 w0 Ψ' a' w') a w):CodeR P k c Ψ e Ψ':=fun C0 M0 w0 a w hk ⟨st,R,hΨ,hd,hs⟩ n =>
  (wpIn_wide (n:=n)).2 (h C0 M0 w0 a w st R hk hΨ hd hs)
end

theorem Sim.slot{st:St}{a:Act}(h:Sim P C0 M0 w0 st a w){i:Nat}{v:Value}(hi:st.t[i]? = some (.p (.v v))):a.tmps.getD i undef=v:=by
  obtain ⟨C,hS,_⟩:=h
  have:=hS.at hi
  cases this with
  | p _ _ h=>cases h;rfl
theorem Sim.size{st:St}{a:Act}(h:Sim P C0 M0 w0 st a w):a.tmps.size=st.t.length:=by
  obtain ⟨C,hS,_⟩:=h
  exact hS.size
theorem Sim.ints{st:St}{a:Act}{R:List (Nat × Obj)}(h:Sim P (C0.with R) M0 w0 st a w){i:Nat}{l:List Int}(hi:st.t[i]? = some (.p (.sl l.length (l.map fun n => .v (.int .i64 n))))) :
    ∃ p cap,a.tmps.getD i undef = .slice p l.length cap∧l.length≤cap∧cap≤maxLen∧∀ j n,l[j]? = some n→∃ b o,p=some ⟨b,o,none⟩∧b<w.heap.size∧w.cell? ⟨b,o+j,none⟩=some (.int .i64 n)∧∀ q∈R,q.1≠b:=by
  obtain ⟨C,hS,hM,_,_,hR⟩:=h
  have:=hS.at hi
  cases this with
  | p _ _ h =>
    generalize hv:a.tmps.getD i undef=v at h
    generalize hn:l.length=n at h
    generalize hc:(l.map fun n=>PV.v (.int .i64 n))=cs at h
    cases h with
    | sl n cs p cap us h1 h2 h3 h4 h5 =>
      refine ⟨p,cap,rfl,h1,h2,fun j m hj => ?_⟩
      have hjl:j<cs.length:=by
        rw [← hc,List.length_map]
        exact (List.getElem?_eq_some_iff.1 hj).1
      obtain ⟨b,o,q1,q2,q3⟩:=h3 j hjl
      refine ⟨b,o,q1,hM.Fs _ q2,?_,fun q hq e=>(hR q hq).2.2.2.1 (e ▸ q2)⟩
      rw [q3]
      have h6:=h4 j hjl
      have:cs[j] = .v (.int .i64 m):=by
        subst hc
        rw [List.getElem_map]
        obtain ⟨_,h7⟩:=List.getElem?_eq_some_iff.1 hj
        rw [h7]
      rw [this] at h6
      generalize us j=u at h6
      cases h6;rfl
end
section
variable {P:Program} {ops:Array Oper} {md:Region.Mode} {S:World→Prop} {Q:Exit→Act→World→Prop} {L:Nat}

def wpAnyL(P:Program)(md:Region.Mode)(ops:Array Oper)(Q:Exit→Act→World→Prop)(S:World→Prop)(L:Nat):Nat→Array Bool→Act→World→Prop
  | 0,listed,a,w=>Region.ready md ops listed=[]∧Q .normal a w
  | fuel+1,listed,a,w=>(Region.ready md ops listed=[]→Q .normal a w) ∧
    ∀ i∈Region.ready md ops listed,wpOp P ops Q i (fun a' w'=>(i≠L→S w')∧wpAnyL P md ops Q S L fuel (listed.setIfInBounds i true) a' w') a w

theorem wpAny_of_L:∀ (fuel:Nat) (listed:Array Bool) (a:Act) (w:World),wpAnyL P md ops Q S L fuel listed a w→wpAny P md ops Q fuel listed a w
  | 0,_,_,_,h=>h
  | fuel+1,_,_,_,h=>⟨h.1,fun i hi=>wpOp_mono (fun a' w' h'=>wpAny_of_L fuel _ a' w' h'.2) (h.2 i hi)⟩

theorem wpAnyL_first{i:Nat}{oi:Oper}{v:Value}(hi:ops[i]? = some oi)(hsel:∀ (j:Nat) (o:Oper) cs b,ops[j]? = some o→o.op ≠ .select cs b)
    (hQ:∀ c a w,Q (.panic c) (a.put oi.dst v) w→Q (.panic c) a w) (hL:∀ oL,ops[L]? = some oL→∃ e∈oL.after,Region.binds md e=true∧e.on=i) :
    ∀ (fuel:Nat) (listed:Array Bool) (a:Act) (w:World),
      (∀ j oj,ops[j]? = some oj→j≠i→listed.getD j true=false→(∀ e∈oj.after,Region.binds md e=true→e.on≠i)→oi.apart ops oj=true) →
      i∈Region.ready md ops listed→YieldsIf P ops S oi v a→S w →
      wpAnyL P md ops Q S L fuel (listed.setIfInBounds i true) (a.put oi.dst v) w→wpAnyL P md ops Q S L (fuel+1) listed a w:=by
  intro fuel
  induction fuel with
  | zero =>
    intro listed a w _ hr hy hS H
    refine ⟨fun h=>(by rw [h] at hr;cases hr),fun j hj => ?_⟩
    by_cases hji:j=i
    · subst hji;exact hy.wpOp hi hS ⟨fun _=>hS,H⟩
    · have:=ready_mono hj hji
      rw [H.1] at this
      cases this
  | succ fuel ih =>
    intro listed a w hfree hr hy hS H
    refine ⟨fun h=>(by rw [h] at hr;cases hr),fun j hj => ?_⟩
    by_cases hji:j=i
    · subst hji;exact hy.wpOp hi hS ⟨fun _=>hS,H⟩
    · have h1:=H.2 j (ready_mono hj hji)
      obtain ⟨hjun,oj,hoj,hall⟩:=mem_ready.1 hj
      have hnot:∀ e∈oj.after,Region.binds md e=true→e.on≠i:=fun e he hb heq=>by
        have h1:=hall e he hb
        have h0:=(mem_ready.1 hr).1
        rw [heq] at h1
        rcases Nat.lt_or_ge i listed.size with h' | h'
        · simp [h'] at h0 h1;rw [h0] at h1;cases h1
        · simp [Array.getElem?_eq_none h'] at h1
      have hjL:j≠L:=fun e=>by
        subst e
        obtain ⟨e,he,hb,ho⟩:=hL oj hoj
        exact hnot e he hb ho
      have h2:=wpOp_putIf hoj (hfree j oj hoj hji hjun hnot) (fun cs b=>hsel i oi cs b hi) (fun cs b=>hsel j oj cs b hoj) hQ hy h1
      have hfree':∀ k ok,ops[k]? = some ok→k≠i→(listed.setIfInBounds j true).getD k true=false →
          (∀ e∈ok.after,Region.binds md e=true→e.on≠i)→oi.apart ops ok=true:=fun k ok hk hki hun hno=>by
        refine hfree k ok hk hki ?_ hno
        by_cases hjk:j=k
        · subst hjk;exact hjun
        · rw [getD_set_ne true hjk] at hun;exact hun
      refine wpOp_mono (fun a' w' h3=>⟨h3.2.1,ih (listed.setIfInBounds j true) a' w' hfree' (ready_mono hr (Ne.symm hji)) h3.1 (h3.2.1 hjL) ?_⟩) h2
      rw [Array.setIfInBounds_comm _ _ hji]
      exact h3.2.2

def yieldsL(P:Program)(S:World→Prop):List (Oper × Value)→Act→Prop
  | [],_=>True
  | (o,v)::r,a=>(∀ W,S W→(execOp a.eval o).run P W = .ok (.value v) W)∧yieldsL P S r (a.put o.dst v)
def putsL:List (Oper × Value)→Act→Act
  | [],a=>a
  | (o,v)::r,a=>putsL r (a.put o.dst v)

def takeL(md:Region.Mode)(ops:Array Oper)(L:Nat)(rs:List Nat):List Nat→Array Bool→Bool
  | [],listed=>chain rs listed
  | t::ts,listed=>(match ops[t]? with | some o=>o.guard.isNone | none=>false) && (Region.ready md ops listed).contains t && Region.free md ops listed t &&
      (match ops[L]? with | some oL=>oL.after.any fun e=>Region.binds md e && e.on == t | none=>false) && takeL md ops L rs ts (listed.setIfInBounds t true)
where chain:List Nat→Array Bool→Bool
  | [],listed=>(Region.ready md ops listed).isEmpty
  | r::rs,listed=>(match ops[r]? with | some o=>o.guard.isNone | none=>false) && decide (Region.ready md ops listed=[r]) && chain rs (listed.setIfInBounds r true)

theorem wpAnyL_one{r fuel:Nat}{listed:Array Bool}{o:Oper}{a:Act}{w:World}(hr:Region.ready md ops listed=[r])(ho:ops[r]? = some o)(hg:o.guard=none){v:Value}{w':World}
    (hrun:(execOp a.eval o).run P w = .ok (.value v) w'∨(execOp a.eval o).run P w = .ok .skip w'∧v=undef) (hS:r≠L→S w') (h:wpAnyL P md ops Q S L fuel (listed.setIfInBounds r true) (a.put o.dst v) w'):wpAnyL P md ops Q S L (fuel+1) listed a w:=by
  refine ⟨fun h0=>(by rw [hr] at h0;cases h0),fun i hi => ?_⟩
  rw [hr] at hi
  obtain rfl:i=r:=by simpa using hi
  unfold wpOp
  simp only [ho]
  have hw:Region.wanted o (yielded ops a.tmps)=true:=by simp [Region.wanted,hg]
  rw [if_pos hw]
  refine .inl ?_
  unfold Oper.wp
  rcases hrun with hrun | ⟨hrun,rfl⟩
  · rw [hrun];exact ⟨hS,h⟩
  · rw [hrun];exact ⟨hS,h⟩

theorem takeL_any(hsel:Region.noSelect ops=true)(hQ:∀ c a w,¬ Q (.panic c) a w)(rs:List Nat){w:World}(hS:S w):∀ (ts:List Nat) (vs:List Value) (listed:Array Bool) (a:Act),vs.length=ts.length→takeL md ops L rs ts listed=true →
    yieldsL P S ((ts.filterMap fun i=>ops[i]?).zip vs) a→(∀ listed',takeL.chain md ops rs listed'=true→wpAnyL P md ops Q S L rs.length listed' (putsL ((ts.filterMap fun i=>ops[i]?).zip vs) a) w)→wpAnyL P md ops Q S L (ts.length+rs.length) listed a w
  | [],vs,listed,a,hl,hB,hy,h=>by
    have:vs=[]:=by simpa using hl
    subst this
    simp only [List.length_nil,Nat.zero_add]
    exact h listed hB
  | t::ts,[],listed,a,hl,hB,hy,h=>by simp at hl
  | t::ts,v::vs,listed,a,hl,hB,hy,h=>by
    simp only [takeL,Bool.and_eq_true] at hB
    obtain ⟨⟨⟨⟨hp,hrd⟩,hf⟩,hlast⟩,hB'⟩:=hB
    cases ho:ops[t]? with
    | none=>rw [ho] at hp;cases hp
    | some o =>
      rw [ho] at hp
      simp only [Option.isNone_iff_eq_none] at hp
      have e0:(t::ts).filterMap (fun i=>ops[i]?)=o::ts.filterMap (fun i=>ops[i]?):=by simp [ho]
      rw [e0,List.zip_cons_cons] at hy h
      have hw:Region.wanted o (yielded ops a.tmps)=true:=by simp [Region.wanted,hp]
      have e:(t::ts).length+rs.length=(ts.length+rs.length)+1:=by simp;omega
      rw [e]
      refine wpAnyL_first ho (Region.noSelect_spec hsel) (fun c a w hq=>absurd hq (hQ _ _ _)) (fun oL hoL => ?_) _ _ _ _ (Region.free_spec ho hf) (by simpa using hrd) (.inl ⟨hw,hy.1⟩) hS ?_
      · rw [hoL] at hlast
        obtain ⟨e,he,hb⟩:=Array.any_eq_true'.1 hlast
        simp only [Bool.and_eq_true,beq_iff_eq] at hb
        exact ⟨e,he,hb.1,hb.2⟩
      · exact takeL_any hsel hQ rs hS ts vs _ _ (by simpa using hl) hB' hy.2 h

def closedL(l:List Oper)(ts:List Nat)(r1 r2 r3:Nat):Bool :=
  Region.noSelect l.toArray && takeL .any l.toArray r3 [r1,r2,r3] ts (Array.replicate l.toArray.size false) && decide (ts.length+3=l.toArray.size) && decide (r1≠r3∧r2≠r3)

theorem region3{id:Nat}{l:List Oper}{a:Act}{w:World}{o1 o2 o3:Oper}(ts:List Nat)(r1 r2 r3:Nat)(hm:P.follows .mixedOrders=true)(hB:closedL l ts r1 r2 r3=true)(h1:l[r1]? = some o1)(h2:l[r2]? = some o2)(h3:l[r3]? = some o3)
    (hQ:∀ c a w,¬ Q (.panic c) a w) (hS:S { w with drawn:=w.drawn+1 }) (vs:List Value) (hl:vs.length=ts.length) (hy:yieldsL P S ((ts.filterMap fun i=>l[i]?).zip vs) a)
    (h:∀ a',a'=putsL ((ts.filterMap fun i=>l[i]?).zip vs) a→∃ v1 w1 v2 w2 w3,(execOp a'.eval o1).run P { w with drawn:=w.drawn+1 } = .ok (.value v1) w1∧S w1∧(execOp (a'.put o1.dst v1).eval o2).run P w1 = .ok (.value v2) w2∧S w2 ∧
      (execOp ((a'.put o1.dst v1).put o2.dst v2).eval o3).run P w2 = .ok .skip w3∧Q .normal (((a'.put o1.dst v1).put o2.dst v2).put o3.dst undef) w3):(Code.region id l.toArray true).wp P Q a w:=by
  unfold closedL at hB
  simp only [Bool.and_eq_true,decide_eq_true_eq] at hB
  obtain ⟨⟨⟨hsel,ht⟩,hsz⟩,hne⟩:=hB
  refine wp_region_any hm (wpAny_of_L (S:=S) (L:=r3) _ _ _ _ ?_)
  rw [← hsz]
  refine takeL_any (rs:=[r1,r2,r3]) hsel hQ hS ts vs _ a hl (by rw [hsz];exact ht) (by simpa using hy) (fun listed' hc => ?_)
  obtain ⟨v1,w1,v2,w2,w3,e1,s1,e2,s2,e3,hq⟩:=h _ rfl
  simp only [takeL.chain,Bool.and_eq_true,decide_eq_true_eq] at hc
  obtain ⟨⟨g1,c1⟩,⟨g2,c2⟩,⟨g3,c3⟩,c4⟩:=hc
  have k1:l.toArray[r1]? = some o1:=by simpa using h1
  have k2:l.toArray[r2]? = some o2:=by simpa using h2
  have k3:l.toArray[r3]? = some o3:=by simpa using h3
  rw [k1] at g1;rw [k2] at g2;rw [k3] at g3
  simp only [Option.isNone_iff_eq_none] at g1 g2 g3
  have e1':((ts.filterMap fun i=>l.toArray[i]?))=(ts.filterMap fun i=>l[i]?):=by simp
  rw [e1']
  refine wpAnyL_one c1 k1 g1 (.inl e1) (fun _=>s1) ?_
  refine wpAnyL_one c2 k2 g2 (.inl e2) (fun _=>s2) ?_
  refine wpAnyL_one c3 k3 g3 (.inr ⟨e3,rfl⟩) (fun h=>absurd rfl h) ?_
  exact ⟨by simpa using c4,hq⟩

theorem eval_put_same{a:Act}{i:Nat}{v:Value}(h:i<a.tmps.size):(a.put (some i) v).eval (.tmp i)=v:=by
  simp [Act.eval,Act.put,h]
theorem eval_put_ne{a:Act}{i j:Nat}{v:Value}(h:(i == j)=false):(a.put (some i) v).eval (.tmp j)=a.eval (.tmp j):=by
  have:i≠j:=by simpa using h
  simp [Act.eval,Act.put,this]
theorem eval_tmp{a:Act}{i:Nat}:a.eval (.tmp i)=a.tmps.getD i undef:=rfl
theorem put_size{a:Act}{i:Nat}{v:Value}:(a.put (some i) v).tmps.size=a.tmps.size:=by simp [Act.put]
theorem lex_one{id:Nat}{o:Oper}{rest:List Oper}{a:Act}{w w':World}{v:Value}(hg:o.guard=none)(hrun:(execOp a.eval o).run P w = .ok (.value v) w')(h:wpList P ops Q rest (a.put o.dst v) w'):wpList P ops Q (o::rest) a w :=
  wpList_plain hg fun K hK=>by
    unfold Oper.wp
    rw [hrun]
    exact hK _ _ h

def isAnyB:Option AV→Bool
  | some .any=>true
  | _=>false
theorem putAny{l:List AV}{d:Nat}(h:isAnyB l[d]? = true):l.set d .any=l:=by
  cases hd:l[d]? with
  | none=>rw [hd] at h;cases h
  | some x =>
    rw [hd] at h
    have hx:x = .any:=by cases x <;> first | rfl | cases h
    subst hx
    obtain ⟨h1,h2⟩:=List.getElem?_eq_some_iff.1 hd
    rw [← h2]
    exact List.set_getElem_self h1
theorem Sim.any{C0:Cx}{M0:Mem}{w0 w:World}{st:St}{a:Act}(h:Sim P C0 M0 w0 st a w)(d:Option Tmp)(v:Value)(hd:∀ i,d=some i→isAnyB st.t[i]? = true):Sim P C0 M0 w0 st (a.put d v) w:=by
  have h1:=h.put d (x := .any) (u:=v) (fun _ _ => .any _)
  cases d with
  | none=>exact h1
  | some i =>
    have:KV.put st.t (some i) .any=st.t:=putAny (hd i rfl)
    rw [this] at h1
    exact h1
theorem Sim.anyL{C0:Cx}{M0:Mem}{w0 w:World}{st:St}:∀ (l:List (Oper × Value)) {a:Act},Sim P C0 M0 w0 st a w→(l.all fun p=>match p.1.dst with | some i=>isAnyB st.t[i]? | none=>true)=true→Sim P C0 M0 w0 st (putsL l a) w
  | [],a,h,_=>h
  | (o,v)::r,a,h,hb=>by
    rw [List.all_cons,Bool.and_eq_true] at hb
    refine Sim.anyL r (h.any o.dst v fun i hi => ?_) hb.2
    have:=hb.1
    dsimp only at this
    rw [hi] at this
    exact this
end
section
open Go.Maps Go.MapKept
open Go.ChangeMaps (setBlock)
variable {P:Program} {C C0:Cx} {M M0:Mem} {w w0:World}

section
variable {o:Oper} {a:Act} {W W':World}
theorem ex_move{x:Operand}{v:Value}(ho:o.op = .move x)(hv:a.eval x=v):(execOp a.eval o).run P W = .ok (.value v) W:=by
  unfold execOp;rw [ho];simp [hv]
theorem ex_assign{x:Operand}{v:Value}(ho:o.op = .assign x)(hv:a.eval x=v):(execOp a.eval o).run P W = .ok (.value v) W:=by
  unfold execOp;rw [ho];simp [hv]
theorem ex_index{t:TypeId}{x ix:Operand}{v u r:Value}(ho:o.op = .indexAddr t x ix)(hx:a.eval x=v)(hi:a.eval ix=u)(hr:(Instr.indexAt t v u).run P W = .ok r W):(execOp a.eval o).run P W = .ok (.value r) W:=by
  unfold execOp;rw [ho];simp [hx,hi,hr,Result.andThen]
theorem ex_load{t:TypeId}{x:Operand}{v r:Value}(ho:o.op = .load t x)(hx:a.eval x=v)(hr:(Instr.loadAt t v).run P W = .ok r W):(execOp a.eval o).run P W = .ok (.value r) W:=by
  unfold execOp;rw [ho];simp [hx,hr,Result.andThen]
theorem ex_lookup{t:TypeId}{x k:Operand}{v u r:Value}(ho:o.op = .lookup t x k false)(hx:a.eval x=v)(hk:a.eval k=u)(hr:(Instr.lookup t v u false).run P W = .ok r W):(execOp a.eval o).run P W = .ok (.value r) W:=by
  unfold execOp;rw [ho];simp [hx,hk,hr,Result.andThen]
theorem ex_build1{t:TypeId}{x:Operand}{v r:Value}(ho:o.op = .buildSlice t 1 #[(0,x)])(hx:a.eval x=v)(hr:(Instr.buildSlice t 1 #[(0,v)]).run P W = .ok r W'):(execOp a.eval o).run P W = .ok (.value r) W':=by
  unfold execOp;rw [ho];simp [hx,hr,Result.andThen]
theorem ex_append{t:TypeId}{s x:Operand}{v u r:Value}(ho:o.op = .call { callee := .builtin .append,args := #[s,x],argTypes := #[t,t] })(hs:a.eval s=v)(hx:a.eval x=u)(hr:(Builtin.append_ #[t,t] o.type #[v,u]).run P W = .ok r W') :
    (execOp a.eval o).run P W = .ok (.value r) W':=by
  unfold execOp
  simp only [ho,resolve,invoke,builtin,Sem.run_bind,Sem.run_pure,Result.andThen_ok,List.map_toArray,List.map_cons,List.map_nil,hs,hx,hr]
theorem ex_update{t:TypeId}{m k x:Operand}{v u y:Value}(ho:o.op = .mapUpdate t m k x)(hm:a.eval m=v)(hk:a.eval k=u)(hx:a.eval x=y)(hr:(Instr.mapUpdate t v u y).run P W = .ok () W'):(execOp a.eval o).run P W = .ok .skip W':=by
  unfold execOp;rw [ho];simp [hm,hk,hx,hr,Result.andThen]
theorem ex_makeMap{t:TypeId}(ho:o.op = .makeMap t none):(execOp a.eval o).run P W = .ok (.value (.map (some W.heap.size))) (W.alloc (.map #[] 0)):=by
  have hr:(Instr.makeMap t none).run P W = .ok (.map (some W.heap.size)) (W.alloc (.map #[] 0)):=rfl
  unfold execOp;rw [ho];simp [hr,Result.andThen]
end

theorem run_load1{t:Nat}{i:TI}(hi:tiOf P t=some i)(ha:i.agg=false){b o:Nat}{v:Value}(h:w.cell? ⟨b,o,none⟩=some v):(Instr.loadAt t (.pointer (some ⟨b,o,none⟩))).run P w = .ok v w:=by
  unfold Instr.loadAt Instr.sureAddr
  simpa using run_loadVar_one hi ha h

def mapR(mb:Nat)(es:Array MapEntry)(cl:Nat)(L:List Ent):List (Nat × Obj):=(mb,.map es cl)::L.map Ent.blk
theorem mem_mapR{mb:Nat}{es:Array MapEntry}{cl:Nat}{L:List Ent}{p:Nat × Obj}:p∈mapR mb es cl L↔p=(mb,.map es cl)∨∃ e∈L,e.blk=p:=by simp [mapR]
def lookL(L:List Ent)(k:Int):List Int:=match lookE L k with
  | some e=>e.l
  | none=>[]
theorem inj_of_nodup{α β:Type}(f:α→β){x y:α}:∀ (L:List α),(L.map f).Nodup→x∈L→y∈L→f x=f y→x=y
  | [],_,h,_,_=>by simp at h
  | a::r,hn,hx,hy,he=>by
    rw [List.map_cons,List.nodup_cons] at hn
    rcases List.mem_cons.1 hx with e1 | h1
    · rcases List.mem_cons.1 hy with e2 | h2
      · rw [e1,e2]
      · exact absurd (List.mem_map.2 ⟨y,h2,by rw [← he,e1]⟩) hn.1
    · rcases List.mem_cons.1 hy with e2 | h2
      · exact absurd (List.mem_map.2 ⟨x,h1,by rw [he,e2]⟩) hn.1
      · exact inj_of_nodup f r hn.2 h1 h2 he
theorem MapOK.b_inj{mb:Nat}{es:Array MapEntry}{L:List Ent}(h:MapOK mb es L){e e':Ent}(he:e∈L)(he':e'∈L)(hb:e.b=e'.b):e=e':=inj_of_nodup (·.b) L (List.nodup_cons.1 h.blks).2 he he' hb
theorem MapOK.b_mb{mb:Nat}{es:Array MapEntry}{L:List Ent}(h:MapOK mb es L){e:Ent}(he:e∈L):e.b≠mb:=fun hb=>(List.nodup_cons.1 h.blks).1 (List.mem_map.2 ⟨e,he,hb⟩)

theorem mapStep{t kt:TypeId}{S22 ty:TypeId}{st:St}{a:Act}{mb cl:Nat}{es:Array MapEntry}{L:List Ent}{k x:Int}(ht:P.underlying t=some (.map kt S22))(hkt:P.underlying kt=some (.int .i64))(h22:P.underlying S22=some (.slice 3))
    (hi3:(P.info? 3).map (fun i=>(i.zero,i.size,i.bytes))=some (some (.int .i64 0),1,8))
    (hs:Sim P (C0.with (mapR mb es cl L++C0.R)) M0 w0 st a w) (hd:∀ p∈mapR mb es cl L,∀ q∈C0.R,p.1≠q.1) (hM:MapOK mb es L) (hk:(Lit.int .i64 k).wf=true) (hl:∀ e∈L,e.l.length≤1000) :
    ∃ v2 w2 es' cl' e,(Builtin.append_ #[S22,S22] ty #[lookV L k,.slice (some ⟨w.heap.size,0,none⟩) 1 1]).run P (w.alloc (.cells #[.int .i64 x] 3)) = .ok v2 w2 ∧
      (∀ b,b<w.heap.size→(∀ q∈mapR mb es cl L,q.1≠b)→w2.heap[b]? = w.heap[b]?)∧w2.heap[mb]? = w.heap[mb]? ∧
      (Instr.mapUpdate t (.map (some mb)) (.int .i64 k) v2).run P w2 = .ok () (setBlock w2 mb (.map es' cl'))∧MapOK mb es' (putE L e)∧e.k=k∧e.l=lookL L k++[x] ∧
      (∀ p∈mapR mb es' cl' (putE L e),∀ q∈C0.R,p.1≠q.1)∧Sim P (C0.with (mapR mb es' cl' (putE L e)++C0.R)) M0 w0 st a (setBlock w2 mb (.map es' cl')):=by
  obtain ⟨i,hi,hz,hz1,hz2⟩:=info_parts hi3
  have hhas:=hs.has
  have hmb:w.heap[mb]? = some (.map es cl):=hhas (mb,.map es cl) (by simp [mapR])
  have hmlt:=lt_of_some hmb
  have hblkh:∀ e∈L,w.heap[e.b]? = some (.cells e.arr 3 (0,0)):=fun e he=>hhas e.blk (by simp [mapR];exact .inr (.inl ⟨e,he,rfl⟩))
  obtain ⟨n1,n2,n3⟩:=heap_push w (.cells #[.int .i64 x] 3)
  have hown:(w.alloc (.cells #[.int .i64 x] 3)).ownsRow 0 3 1 (lookV L k) (lookL L k).length ((lookL L k).map (Value.int .i64))∧((lookV L k).ownBlock=none∨∃ e0∈L,e0.k=k∧(lookV L k).ownBlock=some e0.b)∧(lookL L k).length≤1000:=by
    unfold lookV lookL
    cases h:lookE L k with
    | none=>exact ⟨nil_owns,.inl rfl,by simp⟩
    | some e0 =>
      obtain ⟨q1,q2⟩:=lookE_some h
      exact ⟨Ent.owns (hM.ok e0 q1) ((n3 _ (lt_of_some (hblkh e0 q1))).trans (hblkh e0 q1)),.inr ⟨e0,q1,q2,rfl⟩,hl e0 q1⟩
  obtain ⟨ho,hbk,hlen⟩:=hown
  obtain ⟨v2,w2,hrun,ho2,hg2,hnil,hat⟩:=run_append_own_at (P:=P) (w:=w.alloc (.cells #[.int .i64 x] 3)) 0 S22 ty 3 i (.int .i64 0) 1 8 h22 hi hz hz1 hz2 rfl (by decide) (lookV L k) (lookL L k).length _ ho
    ⟨w.heap.size,0,none⟩ 1 1 [.int .i64 x] rfl (cell_one_new w (.int .i64 x) 3) (fun u hu=>by simp at hu;subst hu;rfl) (by unfold maxLen;omega) (by omega) (Nat.zero_le _)
  have ho2':w2.ownsRow 0 3 1 v2 (lookL L k++[x]).length ((lookL L k++[x]).map (Value.int .i64)):=by
    rw [List.length_append,List.map_append]
    exact ho2
  obtain ⟨e,rfl,hel,rfl,heo,heh⟩:=owns_ent hk (by simp) ho2'
  have hvb:e.val.ownBlock=some e.b:=rfl
  have hwhere:(∃ e0∈L,e0.k=e.k∧e0.b=e.b)∨e.b=w.heap.size+1:=by
    rcases hat with h | h
    · rcases hbk with h0 | ⟨e0,q1,q2,q3⟩
      · rw [h0,hvb] at h;cases h
      · rw [q3,hvb] at h;exact .inl ⟨e0,q1,q2,(Option.some.inj h).symm⟩
    · rw [hvb] at h
      right
      have:=Option.some.inj h
      rw [this];simp
  have hrow:∀ b,b<w.heap.size→(∀ e0∈L,e0.k=e.k→e0.b≠b)→w2.heap[b]? = w.heap[b]? := fun b hb hno=>by
    refine (hg2.block b (by omega) (fun he => ?_)).trans (n3 b hb)
    rcases hbk with h0 | ⟨e0,q1,q2,q3⟩
    · rw [h0] at he;cases he
    · rw [q3] at he;exact hno e0 q1 q2 (Option.some.inj he).symm
  have hblk:e.b≠mb∧∀ y∈L,y.k≠e.k→y.b≠e.b:=by
    rcases hwhere with ⟨e0,q1,q2,q3⟩ | h
    · refine ⟨q3 ▸ hM.b_mb q1,fun y hy hyk hb=>hyk ?_⟩
      have:=hM.b_inj hy q1 (hb.trans q3.symm)
      rw [this];exact q2
    · refine ⟨by omega,fun y hy _ hb => ?_⟩
      have:=lt_of_some (hblkh y hy)
      omega
  have hmb2:w2.heap[mb]? = w.heap[mb]? := hrow mb hmlt fun e0 he0 _=>hM.b_mb he0
  obtain ⟨es',cl',hup,hM'⟩:=put_run (P:=P) (w:=w2) ht hkt (hmb2.trans hmb) hM e heo hblk
  refine ⟨e.val,w2,es',cl',e,hrun,fun b hb hno=>hrow b hb fun e0 he0 _=>hno e0.blk (by simp [mapR];exact .inr ⟨e0,he0,rfl⟩),hmb2,hup,hM',rfl,hel,?_,?_⟩
  · intro p hp q hq
    rcases mem_mapR.1 hp with rfl | ⟨y,hy,rfl⟩
    · exact hd (mb,.map es cl) (by simp [mapR]) q hq
    · rcases mem_putE.1 hy with ⟨q1,q2⟩ | rfl
      · exact hd y.blk (mem_mapR.2 (.inr ⟨y,q1,rfl⟩)) q hq
      · rcases hwhere with ⟨e0,q1,q2,q3⟩ | h
        · exact fun hpq=>hd e0.blk (mem_mapR.2 (.inr ⟨e0,q1,rfl⟩)) q hq (by rw [← hpq];exact q3)
        · have:=lt_of_some (hhas q (List.mem_append_right _ hq))
          intro hpq
          change y.b=q.1 at hpq
          omega
  · have hne:∀ p∈C0.R,p.1≠mb∧∀ e0∈L,p.1≠e0.b:=fun p hp=>⟨fun h=>hd (mb,.map es cl) (by simp [mapR]) p hp h.symm,fun e0 he0 h=>hd e0.blk (mem_mapR.2 (.inr ⟨e0,he0,rfl⟩)) p hp h.symm⟩
    have hset:∀ b,b≠mb→(setBlock w2 mb (.map es' cl')).heap[b]? = w2.heap[b]? := fun b hb=>by
      unfold setBlock
      simp only [Array.getElem?_setIfInBounds]
      rw [if_neg (Ne.symm hb)]
    have hsetm:(setBlock w2 mb (.map es' cl')).heap[mb]? = some (.map es' cl'):=by
      unfold setBlock
      have:mb<w2.heap.size:=lt_of_some (hmb2.trans hmb)
      simp [this]
    refine hs.beside (fun b=>b=mb∨∃ e0∈L,e0.k=e.k∧e0.b=b) (fun b hb => ?_) hg2.os hg2.tape hg2.output (by have:=hg2.size;unfold setBlock;simp only [Array.size_setIfInBounds];omega) (fun b hb hX => ?_) (fun p hp => ?_)
    · rcases hb with rfl | ⟨e0,q1,q2,rfl⟩
      · exact ⟨_,List.mem_append_left _ (mem_mapR.2 (.inl rfl))⟩
      · exact ⟨_,List.mem_append_left _ (mem_mapR.2 (.inr ⟨e0,q1,rfl⟩))⟩
    · rw [hset b (fun h=>hX (.inl h))]
      exact hrow b hb fun e0 q1 q2 q3=>hX (.inr ⟨e0,q1,q2,q3⟩)
    · rcases List.mem_append.1 hp with hp | hp
      · rcases mem_mapR.1 hp with rfl | ⟨y,hy,rfl⟩
        · exact .inr ⟨hsetm,(fun h=>by cases h),.inr ⟨_,List.mem_append_left _ (mem_mapR.2 (.inl rfl))⟩⟩
        · rcases mem_putE.1 hy with ⟨q1,q2⟩ | rfl
          · refine .inl ⟨List.mem_append_left _ (mem_mapR.2 (.inr ⟨y,q1,rfl⟩)),fun hX => ?_⟩
            rcases hX with hX | ⟨e0,r1,r2,r3⟩
            · exact hM.b_mb q1 hX
            · have:=hM.b_inj q1 r1 r3.symm
              exact q2 (this ▸ r2)
          · refine .inr ⟨(hset _ hblk.1).trans heh,(fun h=>by cases h),?_⟩
            rcases hwhere with ⟨e0,r1,r2,r3⟩ | h
            · exact .inr ⟨.cells e0.arr 3 (0,0),List.mem_append_left _ (mem_mapR.2 (.inr ⟨e0,r1,by unfold Ent.blk;rw [r3]⟩))⟩
            · exact .inl (by show w.heap.size≤y.b;omega)
      · refine .inl ⟨List.mem_append_right _ hp,fun hX => ?_⟩
        rcases hX with hX | ⟨e0,r1,r2,r3⟩
        · exact (hne p hp).1 hX
        · exact (hne p hp).2 e0 r1 r3.symm
end
end KV
end Go.Proofs
