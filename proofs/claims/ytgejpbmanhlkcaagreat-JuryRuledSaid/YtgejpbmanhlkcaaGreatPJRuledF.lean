/- Parts of the proof of JRuled: laws of walks, contracts of functions, plain models. No condition. -/
import Derived.Test.YtgejpbmanhlkcaaGreatPJRuledE
set_option linter.unusedVariables false
set_option linter.unusedSimpArgs false
set_option maxRecDepth 100000
namespace Go.Proofs
namespace KV
section

noncomputable abbrev aBi:Code:=sub (cd Tryz.f8) [1,1,1,1,1,1,1,1,1,1,1,1,1,1,1,1,1,1,1,1,1,1,1,1,0,1,0,0]
theorem iW:((0:Int) != (0:Int))=false:=by first | decide | simp
theorem bDq{dl:Int}{sk dc:Lqq}{n b e:Int}(us:uni 2 sk)(ud:uni 6 dc)(hn:inR n)(h:yP dl sk dc n=(b,e)){base:Nat}:FV Tp 53 [.p (.agg (bJ dl sk dc)),.p (aA n)] base (.tup [.p (aA b),.p (aA e)]) []:=by
 have:=bVp (dl:=dl) us ud hn (base:=base);rw [h] at this
 exact this
theorem aLc(u:List Int)(x:Int)(hl:u.length+1≤1000000):FMM Tp 57 [.own 0] [some (.row 3 (u.length+1) (u.map aA++[aA x]))] (.tup []) [some (.row 3 ((u++[x]).mergeSort KL.leB).length (((u++[x]).mergeSort KL.leB).map aA))]:=by
 have h:=aMq (u++[x]) (by simpa using hl)
 have e:nS (u++[x]) = .row 3 (u.length+1) (u.map aA++[aA x]):=by unfold nS;simp
 rw [e] at h
 exact h
def iG(sk0:Lqq)(dc1:Lqq)(x4:Int)(b5:Int)(u7:List Int)(k:Nat):St:=⟨fr 242 [(26,(pI b5)),(28,(.p (.sl ((aY (30:Int) u7 (aB dc1) (aB sk0)).length) ((aY (30:Int) u7 (aB dc1) (aB sk0)).flatten.map aA)))),(29,(.p (.sl ((aY (30:Int) ((u7++[x4]).mergeSort KL.leB) (aB dc1) (aB sk0)).length) ((aY (30:Int) ((u7++[x4]).mergeSort KL.leB) (aB dc1) (aB sk0)).flatten.map aA)))),(206,(.p (fS sk0))),(207,(pI (sk0.length:Int))),(208,(pI (k:Int)))],[]⟩
theorem bOq{l1 l2:List Int}{wh:Int}{sk0 dc1:Lqq}{m2 t3:Int}(h0:0≤(0:Int)∧(0:Int)≤900)(h1:1≤(6:Int)∧(6:Int)≤30)(h2:0≤(16:Int)∧(16:Int)≤40)(h3:aRn (6:Int) (16:Int) l1 (0:Int) (17:Int)=(sk0,dc1,m2,t3))(h4:cA (30:Int) sk0 dc1)(h5:(((aI (30:Int) (aB dc1)).length:Nat):Int)=0)(h6:∀ {base:Nat},FV Tp 26 [] base (pB true) []){base:Nat}:FV Tp 8 [(.p (.sl l1.length (l1.map aO))),(.p (.sl l2.length (l2.map aO))),(.p (.v (.int .u8 wh)))] base (pB true) []:=by
 exact FV.fin Tryz.func8 rfl (o:=[.c (.ptr 0 0) [(0,(.box 129 [(.p (.sl l1.length (l1.map aO))),(pI 0),(.p (.v (.int .u32 (17:Int))))]))],.c (.p (.agg (bJ 30 sk0 dc1))) [(0,(.box 129 [(.p (.sl l1.length (l1.map aO))),(pI m2),(.p (.v (.int .u32 t3)))]))],.c (.ptr 2 0) [(2,(.box 129 [(.p (.sl l2.length (l2.map aO))),(pI 0),(.p (.v (.int .u32 (17:Int))))]))],.c (.tup [(.p (aG (aI (30:Int) (aB dc1)))),(pI 0)]) [],bF,bT,.c (pB true) []]) (l:=[FC Tp 26 [] [] 3 (pB true) [],_,_,_,FC Tp 17 [(.p (.sl l2.length (l2.map aO)))] [] 2 (.ptr 2 0) [(2,(.box 129 [(.p (.sl l2.length (l2.map aO))),(pI 0),(.p (.v (.int .u32 (17:Int))))]))],FC Tp 16 [(.ptr 0 0),(pI 6),(pI 16)] [(0,(.box 129 [(.p (.sl l1.length (l1.map aO))),(pI 0),(.p (.v (.int .u32 (17:Int))))]))] 1 (.p (.agg (bJ 30 sk0 dc1))) [(0,(.box 129 [(.p (.sl l1.length (l1.map aO))),(pI m2),(.p (.v (.int .u32 t3)))]))],FC Tp 17 [(.p (.sl l1.length (l1.map aO)))] [] 0 (.ptr 0 0) [(0,(.box 129 [(.p (.sl l1.length (l1.map aO))),(pI 0),(.p (.v (.int .u32 (17:Int))))]))]]) (by kernel_rfl) (gc (FV.fc h6 (by kernel_rfl)) (gc (eV h5) (gc iW (gc (fk 3 (pJ h4) rfl) (gc (FMM.fc (ids:=[]) (ofO l2) (by kernel_rfl)) (gc (FMM.fc (ids:=[0]) (aRo (6:Int) (16:Int) l1 (0:Int) (17:Int) h0 h1 h2 h3) (by kernel_rfl)) (gc (FMM.fc (ids:=[]) (ofO l1) (by kernel_rfl)) gn)))))))
theorem bOr{l1 l2:List Int}{wh:Int}{sk0 dc1:Lqq}{m2 t3 x4 b5 e6:Int}{u7:List Int}{m8 t9:Int}{k'10:Nat}(h0:0≤(0:Int)∧(0:Int)≤900)(h1:1≤(6:Int)∧(6:Int)≤30)(h2:0≤(16:Int)∧(16:Int)≤40)(h3:aRn (6:Int) (16:Int) l1 (0:Int) (17:Int)=(sk0,dc1,m2,t3))(h4:cA (30:Int) sk0 dc1)(h5:(((aI (30:Int) (aB dc1)).length:Nat):Int)≠0)(h6:inR wh)(h7:(((aI (30:Int) (aB dc1)).length:Nat):Int)≠0)(h8:(aI (30:Int) (aB dc1))[(wh.tmod (((aI (30:Int) (aB dc1)).length:Nat):Int)).toNat]? = some x4)(h9:0≤(wh.tmod (((aI (30:Int) (aB dc1)).length:Nat):Int)))(h10:uni 6 dc1)(h11:dc1.length≤1000)(h12:∀ x∈dc1,x.getD 0 0≤9999)(h13:uni 2 sk0)(h14:sk0.length≤1000)(h15:sk0.length<20)(h16:([x4]:List Int).length≤1000)(h17:uC (30:Int) (aB dc1) ([x4]:List Int)=0)(h18:cA (30:Int) sk0 (dc1++[[(aZ dc1),(8:Int),(0:Int),(0:Int),(0:Int),x4]]))(h19:([]:List Int).length≤1000)(h20:uC (30:Int) (aB dc1) ([]:List Int)=0)(h21:cA (30:Int) sk0 (dc1++[[(aZ dc1),(9:Int),(0:Int),(0:Int),(0:Int),x4]]))(h22:uni 3 (aY (30:Int) ([x4]:List Int) (aB dc1) (aB sk0)))(h23:uni 3 (aY (30:Int) [] (aB (dc1++[[(aZ dc1),(8:Int),(0:Int),(0:Int),(0:Int),x4]])) (aB sk0)))(h24:(aY (30:Int) ([x4]:List Int) (aB dc1) (aB sk0)).length≤1000)(h25:(decide ((aY (30:Int) ([x4]:List Int) (aB dc1) (aB sk0))=(aY (30:Int) [] (aB (dc1++[[(aZ dc1),(8:Int),(0:Int),(0:Int),(0:Int),x4]])) (aB sk0))))=true)(h26:uni 3 (aY (30:Int) ([]:List Int) (aB dc1) (aB sk0)))(h27:uni 3 (aY (30:Int) [] (aB (dc1++[[(aZ dc1),(9:Int),(0:Int),(0:Int),(0:Int),x4]])) (aB sk0)))(h28:(aY (30:Int) ([]:List Int) (aB dc1) (aB sk0)).length≤1000)(h29:(decide ((aY (30:Int) ([]:List Int) (aB dc1) (aB sk0))=(aY (30:Int) [] (aB (dc1++[[(aZ dc1),(9:Int),(0:Int),(0:Int),(0:Int),x4]])) (aB sk0))))=true)(h30:(aI (30:Int) (aB (dc1++[[(aZ dc1),(8:Int),(0:Int),(0:Int),(0:Int),x4]]))).length≤1000)(h31:((aI (30:Int) (aB (dc1++[[(aZ dc1),(8:Int),(0:Int),(0:Int),(0:Int),x4]]))).contains x4)=false)(h32:(aI (30:Int) (aB (dc1++[[(aZ dc1),(9:Int),(0:Int),(0:Int),(0:Int),x4]]))).length≤1000)(h33:((aI (30:Int) (aB (dc1++[[(aZ dc1),(9:Int),(0:Int),(0:Int),(0:Int),x4]]))).contains x4)=false)(h34:inR x4)(h35:yP (30:Int) sk0 dc1 x4=(b5,e6))(h36:e6≠0)(h37:e6=6)(h38:(aI (30:Int) (aB dc1)).length≤1000)(h39:0≤(0:Int)∧(0:Int)≤1000000)(h40:((aI (30:Int) (aB dc1)).filter fun n => !(n == x4)).length≤1000)(h41:yK ((aI (30:Int) (aB dc1)).filter fun n => !(n == x4)) l2 (0:Int) (17:Int)=(u7,m8,t9))(h42:u7.length≤1000)(h43:uC (30:Int) (aB dc1) u7=0)(h44:[(aA x4)].length=1*1∧u7.length+1≤1000000)(h45:u7.length+1≤1000000)(h46:((u7++[x4]).mergeSort KL.leB).length≤1000)(h47:uC (30:Int) (aB dc1) ((u7++[x4]).mergeSort KL.leB)=0)(h48:(((aY (30:Int) u7 (aB dc1) (aB sk0)).length:Nat):Int)=(sk0.length:Int))(h49:(((aY (30:Int) ((u7++[x4]).mergeSort KL.leB) (aB dc1) (aB sk0)).length:Nat):Int)=(((aY (30:Int) u7 (aB dc1) (aB sk0)).length:Nat):Int))(hl50:aJ Tp 0 aBi (iG sk0 dc1 x4 b5 u7 0) (.exit 0) (iG sk0 dc1 x4 b5 u7 k'10))(h51:∀ {base:Nat},FV Tp 26 [] base (pB true) []){base:Nat}:FV Tp 8 [(.p (.sl l1.length (l1.map aO))),(.p (.sl l2.length (l2.map aO))),(.p (.v (.int .u8 wh)))] base (pB true) []:=by
 exact FV.fin Tryz.func8 rfl (o:=[.c (.ptr 0 0) [(0,(.box 129 [(.p (.sl l1.length (l1.map aO))),(pI 0),(.p (.v (.int .u32 (17:Int))))]))],.c (.p (.agg (bJ 30 sk0 dc1))) [(0,(.box 129 [(.p (.sl l1.length (l1.map aO))),(pI m2),(.p (.v (.int .u32 t3)))]))],.c (.ptr 2 0) [(2,(.box 129 [(.p (.sl l2.length (l2.map aO))),(pI 0),(.p (.v (.int .u32 (17:Int))))]))],.c (.tup [(.p (aG (aI (30:Int) (aB dc1)))),(pI 0)]) [],bF,bF,.x (aA x4),.c (pI (aZ dc1)) [],.c (.p (dcE (aZ dc1) 8 0 0 0 x4)) [],.c (.p (.agg (bJ 30 sk0 (dc1++[[(aZ dc1),(8:Int),(0:Int),(0:Int),(0:Int),x4]])))) [(12,.dead)],.c (.p (dcE (aZ dc1) 9 0 0 0 x4)) [],.c (.p (.agg (bJ 30 sk0 (dc1++[[(aZ dc1),(9:Int),(0:Int),(0:Int),(0:Int),x4]])))) [(29,.dead)],.c (.tup [(.own 41),(pI 0)]) [(41,(.row 48 ((aY (30:Int) ([x4]:List Int) (aB dc1) (aB sk0)).length) ((aY (30:Int) ([x4]:List Int) (aB dc1) (aB sk0)).flatten.map aA)))],.c (.tup [(.own 42),(pI 0)]) [(42,(.row 48 ((aY (30:Int) [] (aB (dc1++[[(aZ dc1),(8:Int),(0:Int),(0:Int),(0:Int),x4]])) (aB sk0)).length) ((aY (30:Int) [] (aB (dc1++[[(aZ dc1),(8:Int),(0:Int),(0:Int),(0:Int),x4]])) (aB sk0)).flatten.map aA)))],.c (.tup [(.own 43),(pI 0)]) [(43,(.row 48 ((aY (30:Int) ([]:List Int) (aB dc1) (aB sk0)).length) ((aY (30:Int) ([]:List Int) (aB dc1) (aB sk0)).flatten.map aA)))],.c (.tup [(.own 44),(pI 0)]) [(44,(.row 48 ((aY (30:Int) [] (aB (dc1++[[(aZ dc1),(9:Int),(0:Int),(0:Int),(0:Int),x4]])) (aB sk0)).length) ((aY (30:Int) [] (aB (dc1++[[(aZ dc1),(9:Int),(0:Int),(0:Int),(0:Int),x4]])) (aB sk0)).flatten.map aA)))],.c (.tup [(.p (aG (aI (30:Int) (aB (dc1++[[(aZ dc1),(8:Int),(0:Int),(0:Int),(0:Int),x4]]))))),(pI 0)]) [],.c (.tup [(.p (aG (aI (30:Int) (aB (dc1++[[(aZ dc1),(9:Int),(0:Int),(0:Int),(0:Int),x4]]))))),(pI 0)]) [],bF,bF,bF,bF,bF,bF,bF,bF,bF,bF,bF,bF,bF,bF,bF,bF,bF,bF,.c (pB (decide ((aY (30:Int) ([x4]:List Int) (aB dc1) (aB sk0))=(aY (30:Int) [] (aB (dc1++[[(aZ dc1),(8:Int),(0:Int),(0:Int),(0:Int),x4]])) (aB sk0))))) [],bF,bF,bF,bF,bF,.c (pB (decide ((aY (30:Int) ([]:List Int) (aB dc1) (aB sk0))=(aY (30:Int) [] (aB (dc1++[[(aZ dc1),(9:Int),(0:Int),(0:Int),(0:Int),x4]])) (aB sk0))))) [],bF,bF,bF,bF,bF,.c (pB ((aI (30:Int) (aB (dc1++[[(aZ dc1),(8:Int),(0:Int),(0:Int),(0:Int),x4]]))).contains x4)) [],bF,bF,bF,bF,.c (pB ((aI (30:Int) (aB (dc1++[[(aZ dc1),(9:Int),(0:Int),(0:Int),(0:Int),x4]]))).contains x4)) [],bF,bF,.c (.tup [(pI b5),(pI e6)]) [],bT,bT,bT,bF,.g 1 ⟨[64,70],[0,1,2,38,39,40,41,42,43,44],[3],[]⟩,.c (.own 10) [(10,(.row 3 ((aI (30:Int) (aB dc1)).length) ((aI (30:Int) (aB dc1)).map aA)))],.c (.p (aG ((aI (30:Int) (aB dc1)).filter fun n => !(n == x4)))) [(10,.dead)],.c (.own 11) [(2,(.box 129 [(.p (.sl l2.length (l2.map aO))),(pI m8),(.p (.v (.int .u32 t9)))])),(11,(.row 3 u7.length (u7.map aA)))],.c (.tup [(.own 12),(pI 0)]) [(12,(.row 48 ((aY (30:Int) u7 (aB dc1) (aB sk0)).length) ((aY (30:Int) u7 (aB dc1) (aB sk0)).flatten.map aA)))],.x (aA x4),.c (.tup []) [(14,(.row 3 (((u7++[x4]).mergeSort KL.leB).length) (((u7++[x4]).mergeSort KL.leB).map aA)))],.c (.tup [(.own 15),(pI 0)]) [(15,(.row 48 ((aY (30:Int) ((u7++[x4]).mergeSort KL.leB) (aB dc1) (aB sk0)).length) ((aY (30:Int) ((u7++[x4]).mergeSort KL.leB) (aB dc1) (aB sk0)).flatten.map aA)))],bF,bF,bF,bF,bF,bF,bF,bF,bF,bF,bF,bF,bF,bF,bF,bF,bF,.k 4 ⟨(rng [(0,26),(27,1),(30,176),(209,32)]),[],[12,15],[]⟩ (.exit 0) (iG sk0 dc1 x4 b5 u7 k'10),.c (pB true) []]) (l:=[FC Tp 26 [] [] 0 (pB true) [],_,_,_,_,_,_,_,_,_,_,_,_,_,_,_,_,_,_,FC Tp 21 [(.p (.agg (bJ 30 sk0 dc1))),(.own 14)] [(14,(.row 3 (((u7++[x4]).mergeSort KL.leB).length) (((u7++[x4]).mergeSort KL.leB).map aA)))] 15 (.tup [(.own 15),(pI 0)]) [(15,(.row 48 ((aY (30:Int) ((u7++[x4]).mergeSort KL.leB) (aB dc1) (aB sk0)).length) ((aY (30:Int) ((u7++[x4]).mergeSort KL.leB) (aB dc1) (aB sk0)).flatten.map aA)))],FC Tp 57 [(.own 14)] [(14,(.row 3 (u7.length+1) ((u7.map aA)++[(aA x4)])))] 15 (.tup []) [(14,(.row 3 (((u7++[x4]).mergeSort KL.leB).length) (((u7++[x4]).mergeSort KL.leB).map aA)))],_,[(aA x4)][0]? = some (aA x4),FC Tp 21 [(.p (.agg (bJ 30 sk0 dc1))),(.own 11)] [(11,(.row 3 u7.length (u7.map aA)))] 12 (.tup [(.own 12),(pI 0)]) [(12,(.row 48 ((aY (30:Int) u7 (aB dc1) (aB sk0)).length) ((aY (30:Int) u7 (aB dc1) (aB sk0)).flatten.map aA)))],FC Tp 20 [(.ptr 2 0),(.p (aG ((aI (30:Int) (aB dc1)).filter fun n => !(n == x4))))] [(2,(.box 129 [(.p (.sl l2.length (l2.map aO))),(pI 0),(.p (.v (.int .u32 (17:Int))))]))] 11 (.own 11) [(2,(.box 129 [(.p (.sl l2.length (l2.map aO))),(pI m8),(.p (.v (.int .u32 t9)))])),(11,(.row 3 u7.length (u7.map aA)))],FC Tp 54 [(.own 10),(.fn 56 [] [(.rp [(aA x4)] 0)])] [(10,(.row 3 ((aI (30:Int) (aB dc1)).length) ((aI (30:Int) (aB dc1)).map aA)))] 11 (.p (aG ((aI (30:Int) (aB dc1)).filter fun n => !(n == x4)))) [(10,.dead)],_,_,_,_,_,_,_,_,_,_,_,_,_,_,_,_,_,_,_,FC Tp 51 [(.own 43),(.own 44)] [(43,(.row 48 ((aY (30:Int) ([]:List Int) (aB dc1) (aB sk0)).length) ((aY (30:Int) ([]:List Int) (aB dc1) (aB sk0)).flatten.map aA))),(44,(.row 48 ((aY (30:Int) [] (aB (dc1++[[(aZ dc1),(9:Int),(0:Int),(0:Int),(0:Int),x4]])) (aB sk0)).length) ((aY (30:Int) [] (aB (dc1++[[(aZ dc1),(9:Int),(0:Int),(0:Int),(0:Int),x4]])) (aB sk0)).flatten.map aA)))] 45 (pB (decide ((aY (30:Int) ([]:List Int) (aB dc1) (aB sk0))=(aY (30:Int) [] (aB (dc1++[[(aZ dc1),(9:Int),(0:Int),(0:Int),(0:Int),x4]])) (aB sk0))))) [],_,_,_,_,_,FC Tp 51 [(.own 41),(.own 42)] [(41,(.row 48 ((aY (30:Int) ([x4]:List Int) (aB dc1) (aB sk0)).length) ((aY (30:Int) ([x4]:List Int) (aB dc1) (aB sk0)).flatten.map aA))),(42,(.row 48 ((aY (30:Int) [] (aB (dc1++[[(aZ dc1),(8:Int),(0:Int),(0:Int),(0:Int),x4]])) (aB sk0)).length) ((aY (30:Int) [] (aB (dc1++[[(aZ dc1),(8:Int),(0:Int),(0:Int),(0:Int),x4]])) (aB sk0)).flatten.map aA)))] 45 (pB (decide ((aY (30:Int) ([x4]:List Int) (aB dc1) (aB sk0))=(aY (30:Int) [] (aB (dc1++[[(aZ dc1),(8:Int),(0:Int),(0:Int),(0:Int),x4]])) (aB sk0))))) [],_,_,_,_,_,_,_,_,_,_,_,_,_,_,_,_,_,_,_,_,_,_,_,FC Tp 21 [(.p (.agg (bJ 30 sk0 dc1))),(.own 40)] [(40,(.row 3 1 [(aA x4)]))] 41 (.tup [(.own 41),(pI 0)]) [(41,(.row 48 ((aY (30:Int) ([x4]:List Int) (aB dc1) (aB sk0)).length) ((aY (30:Int) ([x4]:List Int) (aB dc1) (aB sk0)).flatten.map aA)))],FC Tp 24 [(.p (.agg (bJ 30 sk0 dc1))),(.own 29)] [(29,(.row 44 1 [(aA (aZ dc1)),(aA 9),(aA 0),(aA 0),(aA 0),(aA x4)]))] 30 (.p (.agg (bJ 30 sk0 (dc1++[[(aZ dc1),(9:Int),(0:Int),(0:Int),(0:Int),x4]])))) [(29,.dead)],[(aA (aZ dc1)),(aA 9),(aA 0),(aA 0),(aA 0),(aA x4)].length=6,_,FC Tp 24 [(.p (.agg (bJ 30 sk0 dc1))),(.own 12)] [(12,(.row 44 1 [(aA (aZ dc1)),(aA 8),(aA 0),(aA 0),(aA 0),(aA x4)]))] 13 (.p (.agg (bJ 30 sk0 (dc1++[[(aZ dc1),(8:Int),(0:Int),(0:Int),(0:Int),x4]])))) [(12,.dead)],[(aA (aZ dc1)),(aA 8),(aA 0),(aA 0),(aA 0),(aA x4)].length=6,_,_,((aI (30:Int) (aB dc1)).map aA)[((wh.tmod (((aI (30:Int) (aB dc1)).length:Nat):Int)).toNat*1)]? = some (aA x4),_,_,_,_,_,_,FC Tp 17 [(.p (.sl l2.length (l2.map aO)))] [] 2 (.ptr 2 0) [(2,(.box 129 [(.p (.sl l2.length (l2.map aO))),(pI 0),(.p (.v (.int .u32 (17:Int))))]))],FC Tp 16 [(.ptr 0 0),(pI 6),(pI 16)] [(0,(.box 129 [(.p (.sl l1.length (l1.map aO))),(pI 0),(.p (.v (.int .u32 (17:Int))))]))] 1 (.p (.agg (bJ 30 sk0 dc1))) [(0,(.box 129 [(.p (.sl l1.length (l1.map aO))),(pI m2),(.p (.v (.int .u32 t3)))]))],FC Tp 17 [(.p (.sl l1.length (l1.map aO)))] [] 0 (.ptr 0 0) [(0,(.box 129 [(.p (.sl l1.length (l1.map aO))),(pI 0),(.p (.v (.int .u32 (17:Int))))]))]]) (by kernel_rfl) (gc (FV.fc h51 (by kernel_rfl)) (gc hl50.code (gc (iP h49) (g6c (iP h48) (g8c iW (g2c iW (gc (FV.view (args':=[(.p (.agg (bJ 30 sk0 dc1))),(.p (aG ((u7++[x4]).mergeSort KL.leB)))]) (pS h4 h15 ((u7++[x4]).mergeSort KL.leB) h46 h47) (by kernel_rfl) (by kernel_rfl) lU) (gc (FMM.fc (ids:=[14]) (aLc u7 x4 h45) (by kernel_rfl)) (gc h44 (gc rfl (gc (FV.view (args':=[(.p (.agg (bJ 30 sk0 dc1))),(.p (aG u7))]) (pS h4 h15 u7 h42 h43) (by kernel_rfl) (by kernel_rfl) lU) (gc (FMM.fc (ids:=[2]) (bGe ((aI (30:Int) (aB dc1)).filter fun n => !(n == x4)) l2 (0:Int) (17:Int) h39 h40 h41) (by kernel_rfl)) (gc (FMM.fc (ids:=[10]) (bDr (l:=(aI (30:Int) (aB dc1))) (m:=x4) h38 (fun _ _=>rfl)) (by kernel_rfl)) (gc (fk 10 (aRt (aI (30:Int) (aB dc1)) h38) rfl) (gc (iP h37) (g3c (kW h36) (gc (fk 45 (bDq h13 h10 h34 h35) rfl) (gc h33 (gc h31 (gc (fk 45 (aIu (aI (30:Int) (aB (dc1++[[(aZ dc1),(9:Int),(0:Int),(0:Int),(0:Int),x4]]))) x4 h32) rfl) (g3c h31 (gc (aX h29) (gc (fk 45 (aIu (aI (30:Int) (aB (dc1++[[(aZ dc1),(8:Int),(0:Int),(0:Int),(0:Int),x4]]))) x4 h30) rfl) (g3c (aX h29) (g2c (aX h25) (gc (fv (aCn (aY (30:Int) ([]:List Int) (aB dc1) (aB sk0)) (aY (30:Int) [] (aB (dc1++[[(aZ dc1),(9:Int),(0:Int),(0:Int),(0:Int),x4]])) (aB sk0)) h26 h27 h28)) (g3c (aX h25) (g2c iW (gc (fv (aCn (aY (30:Int) ([x4]:List Int) (aB dc1) (aB sk0)) (aY (30:Int) [] (aB (dc1++[[(aZ dc1),(8:Int),(0:Int),(0:Int),(0:Int),x4]])) (aB sk0)) h22 h23 h24)) (g8c iW (g8c iW (g2c iW (gc (fk 45 (pJ h21) rfl) (gc (fk 45 (pJ h18) rfl) (gc (fk 44 (aCz h21 h15) rfl) (gc (fk 43 (FV.argwk (args:=[(.p (.agg (bJ 30 sk0 dc1))),(.p cD)]) (pS h4 h15 ([]:List Int) h19 h20) (by kernel_rfl)) rfl) (gc (fk 42 (aCz h18 h15) rfl) (gc (FV.view (args':=[(.p (.agg (bJ 30 sk0 dc1))),(.p (.sl 1 [(aA x4)]))]) (pS h4 h15 ([x4]:List Int) h16 h17) (by kernel_rfl) (by kernel_rfl) lU) (gc (FV.close (ids:=[29]) (args':=[(.p (.agg (bJ 30 sk0 dc1))),(.p (.sl 1 [(aA (aZ dc1)),(aA 9),(aA 0),(aA 0),(aA 0),(aA x4)]))]) (aIk (30:Int) sk0 dc1 [[(aZ dc1),(9:Int),(0:Int),(0:Int),(0:Int),x4]] h13 h14 h10 h11 (aIv rfl) (by simp)) (by kernel_rfl)) (gc (by first | decide | simp) (gc (fk 21 (aIt (aZ dc1) (9:Int) x4 (0:Int) (0:Int)) rfl) (gc (FV.close (ids:=[12]) (args':=[(.p (.agg (bJ 30 sk0 dc1))),(.p (.sl 1 [(aA (aZ dc1)),(aA 8),(aA 0),(aA 0),(aA 0),(aA x4)]))]) (aIk (30:Int) sk0 dc1 [[(aZ dc1),(8:Int),(0:Int),(0:Int),(0:Int),x4]] h13 h14 h10 h11 (aIv rfl) (by simp)) (by kernel_rfl)) (gc (by first | decide | simp) (gc (fk 4 (aIt (aZ dc1) (8:Int) x4 (0:Int) (0:Int)) rfl) (gc (fk 4 (bGd (30:Int) sk0 dc1 h10 h11 h12) rfl) (gc (mB (i:=(wh.tmod (((aI (30:Int) (aB dc1)).length:Nat):Int)).toNat) h8) (gc (mC (g:=aA) h9 h8) (gc h7 (gc h6 (gc (bR h5) (gc iW (gc (fk 3 (pJ h4) rfl) (gc (FMM.fc (ids:=[]) (ofO l2) (by kernel_rfl)) (gc (FMM.fc (ids:=[0]) (aRo (6:Int) (16:Int) l1 (0:Int) (17:Int) h0 h1 h2 h3) (by kernel_rfl)) (gc (FMM.fc (ids:=[]) (ofO l1) (by kernel_rfl)) gn)))))))))))))))))))))))))))))))))))))))))))))))))))))))
theorem bIq{l1 l2:List Int}{wh:Int}{sk0 dc1:Lqq}{m2 t3 x4 b5 e6:Int}{u7:List Int}{m8 t9:Int}{k'10:Nat}(h0:0≤(0:Int)∧(0:Int)≤900)(h1:1≤(6:Int)∧(6:Int)≤30)(h2:0≤(16:Int)∧(16:Int)≤40)(h3:aRn (6:Int) (16:Int) l1 (0:Int) (17:Int)=(sk0,dc1,m2,t3))(h4:cA (30:Int) sk0 dc1)(h5:(((aI (30:Int) (aB dc1)).length:Nat):Int)≠0)(h6:inR wh)(h7:(((aI (30:Int) (aB dc1)).length:Nat):Int)≠0)(h8:(aI (30:Int) (aB dc1))[(wh.tmod (((aI (30:Int) (aB dc1)).length:Nat):Int)).toNat]? = some x4)(h9:0≤(wh.tmod (((aI (30:Int) (aB dc1)).length:Nat):Int)))(h10:uni 6 dc1)(h11:dc1.length≤1000)(h12:∀ x∈dc1,x.getD 0 0≤9999)(h13:uni 2 sk0)(h14:sk0.length≤1000)(h15:sk0.length<20)(h16:([x4]:List Int).length≤1000)(h17:uC (30:Int) (aB dc1) ([x4]:List Int)=0)(h18:cA (30:Int) sk0 (dc1++[[(aZ dc1),(8:Int),(0:Int),(0:Int),(0:Int),x4]]))(h19:([]:List Int).length≤1000)(h20:uC (30:Int) (aB dc1) ([]:List Int)=0)(h21:cA (30:Int) sk0 (dc1++[[(aZ dc1),(9:Int),(0:Int),(0:Int),(0:Int),x4]]))(h22:uni 3 (aY (30:Int) ([x4]:List Int) (aB dc1) (aB sk0)))(h23:uni 3 (aY (30:Int) [] (aB (dc1++[[(aZ dc1),(8:Int),(0:Int),(0:Int),(0:Int),x4]])) (aB sk0)))(h24:(aY (30:Int) ([x4]:List Int) (aB dc1) (aB sk0)).length≤1000)(h25:(decide ((aY (30:Int) ([x4]:List Int) (aB dc1) (aB sk0))=(aY (30:Int) [] (aB (dc1++[[(aZ dc1),(8:Int),(0:Int),(0:Int),(0:Int),x4]])) (aB sk0))))=true)(h26:uni 3 (aY (30:Int) ([]:List Int) (aB dc1) (aB sk0)))(h27:uni 3 (aY (30:Int) [] (aB (dc1++[[(aZ dc1),(9:Int),(0:Int),(0:Int),(0:Int),x4]])) (aB sk0)))(h28:(aY (30:Int) ([]:List Int) (aB dc1) (aB sk0)).length≤1000)(h29:(decide ((aY (30:Int) ([]:List Int) (aB dc1) (aB sk0))=(aY (30:Int) [] (aB (dc1++[[(aZ dc1),(9:Int),(0:Int),(0:Int),(0:Int),x4]])) (aB sk0))))=true)(h30:(aI (30:Int) (aB (dc1++[[(aZ dc1),(8:Int),(0:Int),(0:Int),(0:Int),x4]]))).length≤1000)(h31:((aI (30:Int) (aB (dc1++[[(aZ dc1),(8:Int),(0:Int),(0:Int),(0:Int),x4]]))).contains x4)=false)(h32:(aI (30:Int) (aB (dc1++[[(aZ dc1),(9:Int),(0:Int),(0:Int),(0:Int),x4]]))).length≤1000)(h33:((aI (30:Int) (aB (dc1++[[(aZ dc1),(9:Int),(0:Int),(0:Int),(0:Int),x4]]))).contains x4)=false)(h34:inR x4)(h35:yP (30:Int) sk0 dc1 x4=(b5,e6))(h36:e6=0)(h37:(aI (30:Int) (aB dc1)).length≤1000)(h38:0≤(0:Int)∧(0:Int)≤1000000)(h39:((aI (30:Int) (aB dc1)).filter fun n => !(n == x4)).length≤1000)(h40:yK ((aI (30:Int) (aB dc1)).filter fun n => !(n == x4)) l2 (0:Int) (17:Int)=(u7,m8,t9))(h41:u7.length≤1000)(h42:uC (30:Int) (aB dc1) u7=0)(h43:[(aA x4)].length=1*1∧u7.length+1≤1000000)(h44:u7.length+1≤1000000)(h45:((u7++[x4]).mergeSort KL.leB).length≤1000)(h46:uC (30:Int) (aB dc1) ((u7++[x4]).mergeSort KL.leB)=0)(h47:(((aY (30:Int) u7 (aB dc1) (aB sk0)).length:Nat):Int)=(sk0.length:Int))(h48:(((aY (30:Int) ((u7++[x4]).mergeSort KL.leB) (aB dc1) (aB sk0)).length:Nat):Int)=(((aY (30:Int) u7 (aB dc1) (aB sk0)).length:Nat):Int))(hl49:aJ Tp 0 aBi (iG sk0 dc1 x4 b5 u7 0) (.exit 0) (iG sk0 dc1 x4 b5 u7 k'10))(h50:∀ {base:Nat},FV Tp 26 [] base (pB true) []){base:Nat}:FV Tp 8 [(.p (.sl l1.length (l1.map aO))),(.p (.sl l2.length (l2.map aO))),(.p (.v (.int .u8 wh)))] base (pB true) []:=by
 exact FV.fin Tryz.func8 rfl (o:=[.c (.ptr 0 0) [(0,(.box 129 [(.p (.sl l1.length (l1.map aO))),(pI 0),(.p (.v (.int .u32 (17:Int))))]))],.c (.p (.agg (bJ 30 sk0 dc1))) [(0,(.box 129 [(.p (.sl l1.length (l1.map aO))),(pI m2),(.p (.v (.int .u32 t3)))]))],.c (.ptr 2 0) [(2,(.box 129 [(.p (.sl l2.length (l2.map aO))),(pI 0),(.p (.v (.int .u32 (17:Int))))]))],.c (.tup [(.p (aG (aI (30:Int) (aB dc1)))),(pI 0)]) [],bF,bF,.x (aA x4),.c (pI (aZ dc1)) [],.c (.p (dcE (aZ dc1) 8 0 0 0 x4)) [],.c (.p (.agg (bJ 30 sk0 (dc1++[[(aZ dc1),(8:Int),(0:Int),(0:Int),(0:Int),x4]])))) [(12,.dead)],.c (.p (dcE (aZ dc1) 9 0 0 0 x4)) [],.c (.p (.agg (bJ 30 sk0 (dc1++[[(aZ dc1),(9:Int),(0:Int),(0:Int),(0:Int),x4]])))) [(29,.dead)],.c (.tup [(.own 41),(pI 0)]) [(41,(.row 48 ((aY (30:Int) ([x4]:List Int) (aB dc1) (aB sk0)).length) ((aY (30:Int) ([x4]:List Int) (aB dc1) (aB sk0)).flatten.map aA)))],.c (.tup [(.own 42),(pI 0)]) [(42,(.row 48 ((aY (30:Int) [] (aB (dc1++[[(aZ dc1),(8:Int),(0:Int),(0:Int),(0:Int),x4]])) (aB sk0)).length) ((aY (30:Int) [] (aB (dc1++[[(aZ dc1),(8:Int),(0:Int),(0:Int),(0:Int),x4]])) (aB sk0)).flatten.map aA)))],.c (.tup [(.own 43),(pI 0)]) [(43,(.row 48 ((aY (30:Int) ([]:List Int) (aB dc1) (aB sk0)).length) ((aY (30:Int) ([]:List Int) (aB dc1) (aB sk0)).flatten.map aA)))],.c (.tup [(.own 44),(pI 0)]) [(44,(.row 48 ((aY (30:Int) [] (aB (dc1++[[(aZ dc1),(9:Int),(0:Int),(0:Int),(0:Int),x4]])) (aB sk0)).length) ((aY (30:Int) [] (aB (dc1++[[(aZ dc1),(9:Int),(0:Int),(0:Int),(0:Int),x4]])) (aB sk0)).flatten.map aA)))],.c (.tup [(.p (aG (aI (30:Int) (aB (dc1++[[(aZ dc1),(8:Int),(0:Int),(0:Int),(0:Int),x4]]))))),(pI 0)]) [],.c (.tup [(.p (aG (aI (30:Int) (aB (dc1++[[(aZ dc1),(9:Int),(0:Int),(0:Int),(0:Int),x4]]))))),(pI 0)]) [],bF,bF,bF,bF,bF,bF,bF,bF,bF,bF,bF,bF,bF,bF,bF,bF,bF,bF,.c (pB (decide ((aY (30:Int) ([x4]:List Int) (aB dc1) (aB sk0))=(aY (30:Int) [] (aB (dc1++[[(aZ dc1),(8:Int),(0:Int),(0:Int),(0:Int),x4]])) (aB sk0))))) [],bF,bF,bF,bF,bF,.c (pB (decide ((aY (30:Int) ([]:List Int) (aB dc1) (aB sk0))=(aY (30:Int) [] (aB (dc1++[[(aZ dc1),(9:Int),(0:Int),(0:Int),(0:Int),x4]])) (aB sk0))))) [],bF,bF,bF,bF,bF,.c (pB ((aI (30:Int) (aB (dc1++[[(aZ dc1),(8:Int),(0:Int),(0:Int),(0:Int),x4]]))).contains x4)) [],bF,bF,bF,bF,.c (pB ((aI (30:Int) (aB (dc1++[[(aZ dc1),(9:Int),(0:Int),(0:Int),(0:Int),x4]]))).contains x4)) [],bF,bF,.c (.tup [(pI b5),(pI e6)]) [],bF,bF,bF,.g 2 ⟨[64,70],[0,1,2,38,39,40,41,42,43,44],[3],[]⟩,.c (.own 10) [(10,(.row 3 ((aI (30:Int) (aB dc1)).length) ((aI (30:Int) (aB dc1)).map aA)))],.c (.p (aG ((aI (30:Int) (aB dc1)).filter fun n => !(n == x4)))) [(10,.dead)],.c (.own 11) [(2,(.box 129 [(.p (.sl l2.length (l2.map aO))),(pI m8),(.p (.v (.int .u32 t9)))])),(11,(.row 3 u7.length (u7.map aA)))],.c (.tup [(.own 12),(pI 0)]) [(12,(.row 48 ((aY (30:Int) u7 (aB dc1) (aB sk0)).length) ((aY (30:Int) u7 (aB dc1) (aB sk0)).flatten.map aA)))],.x (aA x4),.c (.tup []) [(14,(.row 3 (((u7++[x4]).mergeSort KL.leB).length) (((u7++[x4]).mergeSort KL.leB).map aA)))],.c (.tup [(.own 15),(pI 0)]) [(15,(.row 48 ((aY (30:Int) ((u7++[x4]).mergeSort KL.leB) (aB dc1) (aB sk0)).length) ((aY (30:Int) ((u7++[x4]).mergeSort KL.leB) (aB dc1) (aB sk0)).flatten.map aA)))],bF,bF,bF,bF,bF,bF,bF,bF,bF,bF,bF,bF,bF,bF,bF,bF,bF,.k 4 ⟨(rng [(0,26),(27,1),(30,176),(209,32)]),[],[12,15],[]⟩ (.exit 0) (iG sk0 dc1 x4 b5 u7 k'10),.c (pB true) []]) (l:=[FC Tp 26 [] [] 0 (pB true) [],_,_,_,_,_,_,_,_,_,_,_,_,_,_,_,_,_,_,FC Tp 21 [(.p (.agg (bJ 30 sk0 dc1))),(.own 14)] [(14,(.row 3 (((u7++[x4]).mergeSort KL.leB).length) (((u7++[x4]).mergeSort KL.leB).map aA)))] 15 (.tup [(.own 15),(pI 0)]) [(15,(.row 48 ((aY (30:Int) ((u7++[x4]).mergeSort KL.leB) (aB dc1) (aB sk0)).length) ((aY (30:Int) ((u7++[x4]).mergeSort KL.leB) (aB dc1) (aB sk0)).flatten.map aA)))],FC Tp 57 [(.own 14)] [(14,(.row 3 (u7.length+1) ((u7.map aA)++[(aA x4)])))] 15 (.tup []) [(14,(.row 3 (((u7++[x4]).mergeSort KL.leB).length) (((u7++[x4]).mergeSort KL.leB).map aA)))],_,[(aA x4)][0]? = some (aA x4),FC Tp 21 [(.p (.agg (bJ 30 sk0 dc1))),(.own 11)] [(11,(.row 3 u7.length (u7.map aA)))] 12 (.tup [(.own 12),(pI 0)]) [(12,(.row 48 ((aY (30:Int) u7 (aB dc1) (aB sk0)).length) ((aY (30:Int) u7 (aB dc1) (aB sk0)).flatten.map aA)))],FC Tp 20 [(.ptr 2 0),(.p (aG ((aI (30:Int) (aB dc1)).filter fun n => !(n == x4))))] [(2,(.box 129 [(.p (.sl l2.length (l2.map aO))),(pI 0),(.p (.v (.int .u32 (17:Int))))]))] 11 (.own 11) [(2,(.box 129 [(.p (.sl l2.length (l2.map aO))),(pI m8),(.p (.v (.int .u32 t9)))])),(11,(.row 3 u7.length (u7.map aA)))],FC Tp 54 [(.own 10),(.fn 56 [] [(.rp [(aA x4)] 0)])] [(10,(.row 3 ((aI (30:Int) (aB dc1)).length) ((aI (30:Int) (aB dc1)).map aA)))] 11 (.p (aG ((aI (30:Int) (aB dc1)).filter fun n => !(n == x4)))) [(10,.dead)],_,_,_,_,_,_,_,_,_,_,_,_,_,_,_,_,_,_,FC Tp 51 [(.own 43),(.own 44)] [(43,(.row 48 ((aY (30:Int) ([]:List Int) (aB dc1) (aB sk0)).length) ((aY (30:Int) ([]:List Int) (aB dc1) (aB sk0)).flatten.map aA))),(44,(.row 48 ((aY (30:Int) [] (aB (dc1++[[(aZ dc1),(9:Int),(0:Int),(0:Int),(0:Int),x4]])) (aB sk0)).length) ((aY (30:Int) [] (aB (dc1++[[(aZ dc1),(9:Int),(0:Int),(0:Int),(0:Int),x4]])) (aB sk0)).flatten.map aA)))] 45 (pB (decide ((aY (30:Int) ([]:List Int) (aB dc1) (aB sk0))=(aY (30:Int) [] (aB (dc1++[[(aZ dc1),(9:Int),(0:Int),(0:Int),(0:Int),x4]])) (aB sk0))))) [],_,_,_,_,_,FC Tp 51 [(.own 41),(.own 42)] [(41,(.row 48 ((aY (30:Int) ([x4]:List Int) (aB dc1) (aB sk0)).length) ((aY (30:Int) ([x4]:List Int) (aB dc1) (aB sk0)).flatten.map aA))),(42,(.row 48 ((aY (30:Int) [] (aB (dc1++[[(aZ dc1),(8:Int),(0:Int),(0:Int),(0:Int),x4]])) (aB sk0)).length) ((aY (30:Int) [] (aB (dc1++[[(aZ dc1),(8:Int),(0:Int),(0:Int),(0:Int),x4]])) (aB sk0)).flatten.map aA)))] 45 (pB (decide ((aY (30:Int) ([x4]:List Int) (aB dc1) (aB sk0))=(aY (30:Int) [] (aB (dc1++[[(aZ dc1),(8:Int),(0:Int),(0:Int),(0:Int),x4]])) (aB sk0))))) [],_,_,_,_,_,_,_,_,_,_,_,_,_,_,_,_,_,_,_,_,_,_,_,FC Tp 21 [(.p (.agg (bJ 30 sk0 dc1))),(.own 40)] [(40,(.row 3 1 [(aA x4)]))] 41 (.tup [(.own 41),(pI 0)]) [(41,(.row 48 ((aY (30:Int) ([x4]:List Int) (aB dc1) (aB sk0)).length) ((aY (30:Int) ([x4]:List Int) (aB dc1) (aB sk0)).flatten.map aA)))],FC Tp 24 [(.p (.agg (bJ 30 sk0 dc1))),(.own 29)] [(29,(.row 44 1 [(aA (aZ dc1)),(aA 9),(aA 0),(aA 0),(aA 0),(aA x4)]))] 30 (.p (.agg (bJ 30 sk0 (dc1++[[(aZ dc1),(9:Int),(0:Int),(0:Int),(0:Int),x4]])))) [(29,.dead)],[(aA (aZ dc1)),(aA 9),(aA 0),(aA 0),(aA 0),(aA x4)].length=6,_,FC Tp 24 [(.p (.agg (bJ 30 sk0 dc1))),(.own 12)] [(12,(.row 44 1 [(aA (aZ dc1)),(aA 8),(aA 0),(aA 0),(aA 0),(aA x4)]))] 13 (.p (.agg (bJ 30 sk0 (dc1++[[(aZ dc1),(8:Int),(0:Int),(0:Int),(0:Int),x4]])))) [(12,.dead)],[(aA (aZ dc1)),(aA 8),(aA 0),(aA 0),(aA 0),(aA x4)].length=6,_,_,((aI (30:Int) (aB dc1)).map aA)[((wh.tmod (((aI (30:Int) (aB dc1)).length:Nat):Int)).toNat*1)]? = some (aA x4),_,_,_,_,_,_,FC Tp 17 [(.p (.sl l2.length (l2.map aO)))] [] 2 (.ptr 2 0) [(2,(.box 129 [(.p (.sl l2.length (l2.map aO))),(pI 0),(.p (.v (.int .u32 (17:Int))))]))],FC Tp 16 [(.ptr 0 0),(pI 6),(pI 16)] [(0,(.box 129 [(.p (.sl l1.length (l1.map aO))),(pI 0),(.p (.v (.int .u32 (17:Int))))]))] 1 (.p (.agg (bJ 30 sk0 dc1))) [(0,(.box 129 [(.p (.sl l1.length (l1.map aO))),(pI m2),(.p (.v (.int .u32 t3)))]))],FC Tp 17 [(.p (.sl l1.length (l1.map aO)))] [] 0 (.ptr 0 0) [(0,(.box 129 [(.p (.sl l1.length (l1.map aO))),(pI 0),(.p (.v (.int .u32 (17:Int))))]))]]) (by kernel_rfl) (gc (FV.fc h50 (by kernel_rfl)) (gc hl49.code (gc (iP h48) (g6c (iP h47) (g8c iW (g2c iW (gc (FV.view (args':=[(.p (.agg (bJ 30 sk0 dc1))),(.p (aG ((u7++[x4]).mergeSort KL.leB)))]) (pS h4 h15 ((u7++[x4]).mergeSort KL.leB) h45 h46) (by kernel_rfl) (by kernel_rfl) lU) (gc (FMM.fc (ids:=[14]) (aLc u7 x4 h44) (by kernel_rfl)) (gc h43 (gc rfl (gc (FV.view (args':=[(.p (.agg (bJ 30 sk0 dc1))),(.p (aG u7))]) (pS h4 h15 u7 h41 h42) (by kernel_rfl) (by kernel_rfl) lU) (gc (FMM.fc (ids:=[2]) (bGe ((aI (30:Int) (aB dc1)).filter fun n => !(n == x4)) l2 (0:Int) (17:Int) h38 h39 h40) (by kernel_rfl)) (gc (FMM.fc (ids:=[10]) (bDr (l:=(aI (30:Int) (aB dc1))) (m:=x4) h37 (fun _ _=>rfl)) (by kernel_rfl)) (gc (fk 10 (aRt (aI (30:Int) (aB dc1)) h37) rfl) (g3c (iP h36) (gc (fk 45 (bDq h13 h10 h34 h35) rfl) (gc h33 (gc h31 (gc (fk 45 (aIu (aI (30:Int) (aB (dc1++[[(aZ dc1),(9:Int),(0:Int),(0:Int),(0:Int),x4]]))) x4 h32) rfl) (g3c h31 (gc (aX h29) (gc (fk 45 (aIu (aI (30:Int) (aB (dc1++[[(aZ dc1),(8:Int),(0:Int),(0:Int),(0:Int),x4]]))) x4 h30) rfl) (g3c (aX h29) (g2c (aX h25) (gc (fv (aCn (aY (30:Int) ([]:List Int) (aB dc1) (aB sk0)) (aY (30:Int) [] (aB (dc1++[[(aZ dc1),(9:Int),(0:Int),(0:Int),(0:Int),x4]])) (aB sk0)) h26 h27 h28)) (g3c (aX h25) (g2c iW (gc (fv (aCn (aY (30:Int) ([x4]:List Int) (aB dc1) (aB sk0)) (aY (30:Int) [] (aB (dc1++[[(aZ dc1),(8:Int),(0:Int),(0:Int),(0:Int),x4]])) (aB sk0)) h22 h23 h24)) (g8c iW (g8c iW (g2c iW (gc (fk 45 (pJ h21) rfl) (gc (fk 45 (pJ h18) rfl) (gc (fk 44 (aCz h21 h15) rfl) (gc (fk 43 (FV.argwk (args:=[(.p (.agg (bJ 30 sk0 dc1))),(.p cD)]) (pS h4 h15 ([]:List Int) h19 h20) (by kernel_rfl)) rfl) (gc (fk 42 (aCz h18 h15) rfl) (gc (FV.view (args':=[(.p (.agg (bJ 30 sk0 dc1))),(.p (.sl 1 [(aA x4)]))]) (pS h4 h15 ([x4]:List Int) h16 h17) (by kernel_rfl) (by kernel_rfl) lU) (gc (FV.close (ids:=[29]) (args':=[(.p (.agg (bJ 30 sk0 dc1))),(.p (.sl 1 [(aA (aZ dc1)),(aA 9),(aA 0),(aA 0),(aA 0),(aA x4)]))]) (aIk (30:Int) sk0 dc1 [[(aZ dc1),(9:Int),(0:Int),(0:Int),(0:Int),x4]] h13 h14 h10 h11 (aIv rfl) (by simp)) (by kernel_rfl)) (gc (by first | decide | simp) (gc (fk 21 (aIt (aZ dc1) (9:Int) x4 (0:Int) (0:Int)) rfl) (gc (FV.close (ids:=[12]) (args':=[(.p (.agg (bJ 30 sk0 dc1))),(.p (.sl 1 [(aA (aZ dc1)),(aA 8),(aA 0),(aA 0),(aA 0),(aA x4)]))]) (aIk (30:Int) sk0 dc1 [[(aZ dc1),(8:Int),(0:Int),(0:Int),(0:Int),x4]] h13 h14 h10 h11 (aIv rfl) (by simp)) (by kernel_rfl)) (gc (by first | decide | simp) (gc (fk 4 (aIt (aZ dc1) (8:Int) x4 (0:Int) (0:Int)) rfl) (gc (fk 4 (bGd (30:Int) sk0 dc1 h10 h11 h12) rfl) (gc (mB (i:=(wh.tmod (((aI (30:Int) (aB dc1)).length:Nat):Int)).toNat) h8) (gc (mC (g:=aA) h9 h8) (gc h7 (gc h6 (gc (bR h5) (gc iW (gc (fk 3 (pJ h4) rfl) (gc (FMM.fc (ids:=[]) (ofO l2) (by kernel_rfl)) (gc (FMM.fc (ids:=[0]) (aRo (6:Int) (16:Int) l1 (0:Int) (17:Int) h0 h1 h2 h3) (by kernel_rfl)) (gc (FMM.fc (ids:=[]) (ofO l1) (by kernel_rfl)) gn))))))))))))))))))))))))))))))))))))))))))))))))))))))
theorem aWh{sk0 dc1:Lqq}{x4 b5:Int}{u7:List Int}{k:Nat}{y100 y101 a102 b103 c104 a105 b106 c107:Int}{k':Nat}(h0:(k:Int)<(sk0.length:Int))(h1:sk0[k]? = some [y100,y101])(h2:uni 2 sk0)(h3:uni 3 (aY (30:Int) u7 (aB dc1) (aB sk0)))(h4:(aY (30:Int) u7 (aB dc1) (aB sk0)).length≤1000)(h5:yL (aY (30:Int) u7 (aB dc1) (aB sk0)) y100=[a102,b103,c104])(h6:uni 3 (aY (30:Int) ((u7++[x4]).mergeSort KL.leB) (aB dc1) (aB sk0)))(h7:(aY (30:Int) ((u7++[x4]).mergeSort KL.leB) (aB dc1) (aB sk0)).length≤1000)(h8:yL (aY (30:Int) ((u7++[x4]).mergeSort KL.leB) (aB dc1) (aB sk0)) y100=[a105,b106,c107])(h9:y100≠b5)(h10:c104=c107)(h11:((b103 == (-1:Int)) == (b106 == (-1:Int)))=true)(h12:inR (((k+1):Nat):Int))(ek':k'=(k+1)):aC Tp 0 aBi (iG sk0 dc1 x4 b5 u7 k) .normal (iG sk0 dc1 x4 b5 u7 k'):=by
 subst ek';exact aC.fin (g:=⟨(rng [(0,26),(27,1),(30,176),(209,32)]),[],[],[]⟩) (o:=[bT,.x (.agg [(aA y100),(aA y101)]),.c (.p (.agg [(aA a102),(aA b103),(aA c104)])) [],.c (.p (.agg [(aA a105),(aA b106),(aA c107)])) [],bT,bT,bT,bT,bT,bT,bF,bF,bF,bF,bF,bF,bF,bT,bF,bT,bF]) (l:=[_,_,_,_,_,_,_,_,_,_,_,_,_,_,_,_,_,_,_,_,_,_,0≤(k:Int)∧(k:Int)<(sk0.length:Int)∧(k*2)<(sk0.flatten.map aA).length,_]) (by kernel_rfl) (gc h12 (gc (aX h11) (gc (kW h9) (gc (iP h10) (gc (kW h9) (g7c (iP h10) (g6c (kW h9) (gc (fk 9 (aIj (aY (30:Int) ((u7++[x4]).mergeSort KL.leB) (aB dc1) (aB sk0)) y100 h6 h7 h8) rfl) (gc (fk 1 (aIj (aY (30:Int) u7 (aB dc1) (aB sk0)) y100 h3 h4 h5) rfl) (gc (aV (i:=k) h2 h1) (gc (bL (i:=k) h2 h1) (gc (bX (k:=2) (i:=(k:Int)) (by decide) h2 (kQ3 _) h1) (gc (bC h0) gn)))))))))))))
theorem aWi{sk0 dc1:Lqq}{x4 b5:Int}{u7:List Int}{k:Nat}{y100 y101 a102 b103 c104 a105 b106 c107:Int}{k':Nat}(h0:(k:Int)<(sk0.length:Int))(h1:sk0[k]? = some [y100,y101])(h2:uni 2 sk0)(h3:uni 3 (aY (30:Int) u7 (aB dc1) (aB sk0)))(h4:(aY (30:Int) u7 (aB dc1) (aB sk0)).length≤1000)(h5:yL (aY (30:Int) u7 (aB dc1) (aB sk0)) y100=[a102,b103,c104])(h6:uni 3 (aY (30:Int) ((u7++[x4]).mergeSort KL.leB) (aB dc1) (aB sk0)))(h7:(aY (30:Int) ((u7++[x4]).mergeSort KL.leB) (aB dc1) (aB sk0)).length≤1000)(h8:yL (aY (30:Int) ((u7++[x4]).mergeSort KL.leB) (aB dc1) (aB sk0)) y100=[a105,b106,c107])(h9:y100=b5)(h10:inR (((k+1):Nat):Int))(ek':k'=(k+1)):aC Tp 0 aBi (iG sk0 dc1 x4 b5 u7 k) .normal (iG sk0 dc1 x4 b5 u7 k'):=by
 subst ek';exact aC.fin (g:=⟨(rng [(0,26),(27,1),(30,176),(209,32)]),[],[],[]⟩) (o:=[bT,.x (.agg [(aA y100),(aA y101)]),.c (.p (.agg [(aA a102),(aA b103),(aA c104)])) [],.c (.p (.agg [(aA a105),(aA b106),(aA c107)])) [],bF,bF,bF,bF,bF,bF,bF,bF]) (l:=[_,_,_,_,_,_,_,_,_,_,_,_,_,0≤(k:Int)∧(k:Int)<(sk0.length:Int)∧(k*2)<(sk0.flatten.map aA).length,_]) (by kernel_rfl) (gc h10 (g8c (iP h9) (gc (fk 9 (aIj (aY (30:Int) ((u7++[x4]).mergeSort KL.leB) (aB dc1) (aB sk0)) y100 h6 h7 h8) rfl) (gc (fk 1 (aIj (aY (30:Int) u7 (aB dc1) (aB sk0)) y100 h3 h4 h5) rfl) (gc (aV (i:=k) h2 h1) (gc (bL (i:=k) h2 h1) (gc (bX (k:=2) (i:=(k:Int)) (by decide) h2 (kQ3 _) h1) (gc (bC h0) gn))))))))
theorem aWj{sk0 dc1:Lqq}{x4 b5:Int}{u7:List Int}{k:Nat}(h0:(sk0.length:Int)≤(k:Int)):aC Tp 0 aBi (iG sk0 dc1 x4 b5 u7 k) (.exit 0) (iG sk0 dc1 x4 b5 u7 k):=by
 exact aC.fin (g:=⟨(rng [(0,26),(27,1),(30,176),(209,32)]),[],[],[]⟩) (o:=[bF]) (l:=[_]) (by kernel_rfl) (gc (bP h0) gn)
end
section

end
section

theorem bHn{α:Type}{Q:List α→Prop}(h0:Q [])(hs:∀ l x,Q l→Q (l++[x]))(l:List α):Q l:=by
 have key:∀ r:List α,Q r.reverse:=fun r=>by
  induction r with
  | nil=>exact h0
  | cons a r ih=>rw [List.reverse_cons];exact hs _ _ ih
 have:=key l.reverse
 rwa [List.reverse_reverse] at this
def lF(L:Lqq)(t:Int):Nat:=(L.filter fun x=>decide (x.getD 2 0<t)).length
theorem aGe(L:Lqq)(x:List Int)(t:Int):lF (L++[x]) t=lF L t+if x.getD 2 0<t then 1 else 0:=by
 unfold lF;rw [sE,lD]
 congr 1
 by_cases h:x.getD 2 0<t
 ·rw [if_pos h,List.filter_cons,if_pos (decide_eq_true h)];rfl
 ·rw [if_neg h,List.filter_cons,if_neg (by rw [decide_eq_false h];simp)];rfl
theorem aDc(L:Lqq):L.Pairwise (fun a b=>a.getD 2 0≤b.getD 2 0)→jB L=L.map fun x=>[x.getD 0 0,(lF L (x.getD 2 0):Int)+1,x.getD 2 0]:=by
 refine bHn (Q:=fun L=>L.Pairwise (fun a b=>a.getD 2 0≤b.getD 2 0)→jB L=L.map fun x=>[x.getD 0 0,(lF L (x.getD 2 0):Int)+1,x.getD 2 0]) (fun _=>rfl) (fun l x ih hp => ?_) L
 obtain ⟨h1,_,h3⟩:=List.pairwise_append.1 hp;have h4:∀ a∈l,a.getD 2 0≤x.getD 2 0:=fun a ha=>h3 a ha x (by simp)
 have e:jB (l++[x])=jB l++[[x.getD 0 0,plN (jB l) (x.getD 2 0),x.getD 2 0]]:=by
  unfold jB;rw [aDp];rfl
 rw [e,ih h1,gK]
 congr 1
 ·refine yU fun y hy => ?_
  rw [aGe,if_neg (by have:=h4 y hy;omega)];rfl
 ·have hx:lF (l++[x]) (x.getD 2 0)=lF l (x.getD 2 0):=by rw [aGe,if_neg (by omega)];rfl
  show [[x.getD 0 0,plN _ (x.getD 2 0),x.getD 2 0]]=[[x.getD 0 0,(lF (l++[x]) (x.getD 2 0):Int)+1,x.getD 2 0]];rw [hx]
  congr 3
  rcases List.eq_nil_or_concat l with rfl | ⟨m,y,rfl⟩
  ·rfl
  ·rw [List.concat_eq_append] at *
   unfold plN;rw [gK,gY,List.map_nil,List.getLast?_concat];show (if y.getD 2 0=x.getD 2 0 then (lF (m++[y]) (y.getD 2 0):Int)+1 else _)=_
   by_cases hc:y.getD 2 0=x.getD 2 0
   ·rw [if_pos hc,hc]
   ·rw [if_neg hc]
    have h5:=h4 y (by simp)
    have h6:lF (m++[y]) (x.getD 2 0)=(m++[y]).length:=by
     unfold lF;rw [List.filter_eq_self.2];intro a ha;refine decide_eq_true ?_
     rcases gX.1 ha with ha | ha
     ·have:=(List.pairwise_append.1 h1).2.2 a ha y (by simp)
      omega
     ·obtain rfl:a=y:=by simpa using ha
      omega
    rw [h6];simp
section
variable {dl:Int} {oc:List Int} {sk dc:Lqq}
def bWp(a b:List Int):Prop:=(b.getD 1 0 = -1→a.getD 1 0 = -1→a.getD 0 0<b.getD 0 0)∧(b.getD 1 0 ≠ -1→a.getD 1 0 ≠ -1∧a.getD 2 0≤b.getD 2 0∧(a.getD 2 0=b.getD 2 0→a.getD 0 0<b.getD 0 0))
def inL(t:Int)(y:List Int):Bool:=decide (y.getD 1 0 ≠ -1∧y.getD 2 0<t)
theorem bHo(hs:sk.Pairwise fun a b=>a.getD 0 0<b.getD 0 0) :
  (aY dl oc dc sk).Pairwise bWp ∧
  (∀ y∈aY dl oc dc sk,y.getD 1 0 ≠ -1→y.getD 1 0=1+(((aY dl oc dc sk).filter (inL (y.getD 2 0))).length:Int)) ∧
  (∀ y∈aY dl oc dc sk,∃ s∈sk,s.getD 0 0=y.getD 0 0∧dP dl oc dc (sB s) (sT s)=(y.getD 2 0,decide (y.getD 1 0 = -1))):=by
 have hI0:(eW dl oc dc sk).Pairwise fun a b=>a.getD 0 0<b.getD 0 0:=by
  unfold eW;rw [List.pairwise_map];exact (hs.sublist List.filter_sublist)
 have hO:(eY dl oc dc sk).Pairwise fun a b=>a.getD 0 0<b.getD 0 0:=by
  unfold eY;rw [List.pairwise_map];exact (hs.sublist List.filter_sublist)
 have s1:=pQ (f:=fun x:List Int=>x.getD 2 0) (fun x y=>aIg 2 x y) (eW dl oc dc sk)
 have s2:=aIi (f:=fun x:List Int=>x.getD 2 0) (g:=fun x:List Int=>x.getD 0 0) (fun x y=>aIg 2 x y) (eW dl oc dc sk) hI0
 have hpl:=aDc _ s1;have hmI:∀ x,x∈isort (ltK 2) (eW dl oc dc sk)→x∈eW dl oc dc sk:=fun x hx=>(sA _ _ x).1 hx
 have e:aY dl oc dc sk=((isort (ltK 2) (eW dl oc dc sk)).map fun x=>[x.getD 0 0,(lF (isort (ltK 2) (eW dl oc dc sk)) (x.getD 2 0):Int)+1,x.getD 2 0])++eY dl oc dc sk:=by
  unfold aY;rw [hpl]
 generalize isort (ltK 2) (eW dl oc dc sk)=I at s1 s2 hmI e
 have o1:∀ y∈eY dl oc dc sk,y.getD 1 0 = -1:=fun y hy=>by
  unfold eY at hy
  obtain ⟨s,_,rfl⟩:=dR.1 hy;rfl
 refine ⟨?_,?_,?_⟩
 ·rw [e]
  refine List.pairwise_append.2 ⟨?_,?_,?_⟩
  ·rw [List.pairwise_map]
   refine s2.imp fun {a b} h => ?_
   refine ⟨fun h1=>absurd h1 ?_,fun _=>⟨?_,?_,?_⟩⟩
   ·show (lF I (b.getD 2 0):Int)+1 ≠ -1
    omega
   ·show (lF I (a.getD 2 0):Int)+1 ≠ -1
    omega
   ·show a.getD 2 0≤b.getD 2 0
    omega
   ·show a.getD 2 0=b.getD 2 0→a.getD 0 0<b.getD 0 0
    omega
  ·refine hO.imp_of_mem fun {a b} ha hb h=>⟨fun _ _=>h,fun h1=>absurd (o1 b hb) h1⟩
  ·intro a ha b hb
   obtain ⟨x,_,rfl⟩:=dR.1 ha;refine ⟨fun _ h1=>absurd h1 ?_,fun h1=>absurd (o1 b hb) h1⟩
   show (lF I (x.getD 2 0):Int)+1 ≠ -1;omega
 ·have hc:∀ t,((aY dl oc dc sk).filter (inL t)).length=lF I t:=fun t=>by
   rw [e,sE,lD];have z:(eY dl oc dc sk).filter (inL t)=[]:=by
    rw [List.filter_eq_nil_iff];intro y hy;unfold inL;rw [o1 y hy];simp
   rw [z,List.filter_map,kQ9];unfold lF;rw [List.length_nil,Nat.add_zero]
   congr 1
   refine List.filter_congr fun x _ => ?_
   show decide ((lF I (x.getD 2 0):Int)+1 ≠ -1∧x.getD 2 0<t)=decide (x.getD 2 0<t)
   by_cases hx:x.getD 2 0<t
   ·rw [decide_eq_true hx,decide_eq_true ⟨by omega,hx⟩]
   ·rw [decide_eq_false hx,decide_eq_false fun h=>hx h.2]
  intro y hy h1;rw [hc];rw [e] at hy
  rcases gX.1 hy with hy | hy
  ·obtain ⟨x,_,rfl⟩:=dR.1 hy
   show (lF I (x.getD 2 0):Int)+1=1+(lF I (x.getD 2 0):Int);omega
  ·exact absurd (o1 y hy) h1
 ·intro y hy
  rw [e] at hy
  rcases gX.1 hy with hy | hy
  ·obtain ⟨x,hx,rfl⟩:=dR.1 hy
   have hx':=hmI x hx;unfold eW at hx'
   obtain ⟨s,hs',rfl⟩:=dR.1 hx';obtain ⟨m1,m2⟩:=tL.1 hs';refine ⟨s,m1,rfl,?_⟩;have m3:(dP dl oc dc (sB s) (sT s)).2=false:=by simpa using m2
   have m4:(decide ((lF I (dP dl oc dc (sB s) (sT s)).1:Int)+1 = -1))=false:=decide_eq_false (by omega)
   show dP dl oc dc (sB s) (sT s)=((dP dl oc dc (sB s) (sT s)).1,decide ((lF I (dP dl oc dc (sB s) (sT s)).1:Int)+1 = -1));rw [m4];exact Prod.ext rfl m3
  ·unfold eY at hy
   obtain ⟨s,hs',rfl⟩:=dR.1 hy;obtain ⟨m1,m2⟩:=tL.1 hs';refine ⟨s,m1,rfl,?_⟩;show dP dl oc dc (sB s) (sT s)=(0,true);unfold dP at m2 ⊢
   split at m2
   ·rename_i h;rw [if_pos h]
   ·cases m2
def bVr(f:List Int→Int × Bool)(S:Lqq)(t:Int):Nat:=(S.filter fun j => !(f j).2 && decide ((f j).1<t)).length
theorem bHp(hs:sk.Pairwise fun a b=>a.getD 0 0<b.getD 0 0)(t:Int):((aY dl oc dc sk).filter (inL t)).length=bVr (fun s=>dP dl oc dc (sB s) (sT s)) sk t:=by
 have s1:=pQ (f:=fun x:List Int=>x.getD 2 0) (fun x y=>aIg 2 x y) (eW dl oc dc sk)
 have hp:=aRj (ltK 2) (eW dl oc dc sk);unfold aY;rw [sE,lD,aDc _ s1];have z:(eY dl oc dc sk).filter (inL t)=[]:=by
  rw [List.filter_eq_nil_iff];intro y hy;unfold eY at hy
  obtain ⟨s,_,rfl⟩:=dR.1 hy;simp [inL]
 rw [z,List.filter_map,kQ9,List.length_nil,Nat.add_zero];have e1:∀ (I J:Lqq),(J.filter (inL t ∘ fun x=>[x.getD 0 0,(lF I (x.getD 2 0):Int)+1,x.getD 2 0]))=J.filter fun x=>decide (x.getD 2 0<t):=fun I J=>by
  refine List.filter_congr fun x _ => ?_
  show decide ((lF I (x.getD 2 0):Int)+1 ≠ -1∧x.getD 2 0<t)=decide (x.getD 2 0<t)
  by_cases hx:x.getD 2 0<t
  ·rw [decide_eq_true hx,decide_eq_true ⟨by omega,hx⟩]
  ·rw [decide_eq_false hx,decide_eq_false fun h=>hx h.2]
 rw [e1,(hp.filter _).length_eq];unfold eW bVr;rw [List.filter_map,kQ9,List.filter_filter]
 congr 1
 refine List.filter_congr fun s _ => ?_
 show (decide ((dP dl oc dc (sB s) (sT s)).1<t) && !(dP dl oc dc (sB s) (sT s)).2)=_;rw [Bool.and_comm]
def bHq(f:List Int→Int × Bool)(S:Lqq)(k:List Int):Int:=if (f k).2 then -1 else 1+(bVr f S (f k).1:Int)
theorem bHr(hs:sk.Pairwise fun a b=>a.getD 0 0<b.getD 0 0){k:List Int}(hk:k∈sk) :
  (aY dl oc dc sk).find? (fun y=>decide (y.getD 0 0=k.getD 0 0))=some [k.getD 0 0,bHq (fun s=>dP dl oc dc (sB s) (sT s)) sk k,(dP dl oc dc (sB k) (sT k)).1]:=by
 obtain ⟨_,q2,q3⟩:=bHo (dl:=dl) (oc:=oc) (dc:=dc) hs;have hn:(aM sk 0).Nodup:=by
  unfold aM;rw [List.Nodup,List.pairwise_map];exact hs.imp fun h=>by omega
 cases hf:(aY dl oc dc sk).find? (fun y=>decide (y.getD 0 0=k.getD 0 0)) with
 | none =>
  exfalso
  have hno:=aDo.1 hf;have hno':∀ y∈aY dl oc dc sk,y.getD 0 0≠k.getD 0 0:=fun y hy e=>hno y hy (decide_eq_true e)
  cases ho:(dP dl oc dc (sB k) (sT k)).2 with
  | true =>
   refine hno' [sB k,-1,0] (aBd _ ?_) rfl;unfold eY;exact dR.2 ⟨k,tL.2 ⟨hk,ho⟩,rfl⟩
  | false =>
   have s1:=pQ (f:=fun x:List Int=>x.getD 2 0) (fun x y=>aIg 2 x y) (eW dl oc dc sk)
   have hm:[sB k,0,(dP dl oc dc (sB k) (sT k)).1]∈isort (ltK 2) (eW dl oc dc sk):=by
    rw [sA];unfold eW;exact dR.2 ⟨k,tL.2 ⟨hk,by rw [ho];rfl⟩,rfl⟩
   have hmem:[sB k,(lF (isort (ltK 2) (eW dl oc dc sk)) (dP dl oc dc (sB k) (sT k)).1:Int)+1,(dP dl oc dc (sB k) (sT k)).1]∈aY dl oc dc sk:=by
    unfold aY;rw [aDc _ s1];exact nH _ (dR.2 ⟨_,hm,rfl⟩)
   exact hno' _ hmem rfl
 | some y =>
  have hy:=vB hf;have hb:y.getD 0 0=k.getD 0 0:=by simpa using aOu hf
  obtain ⟨y0,y1,y2,rfl⟩:=len3 (fH y hy);obtain ⟨s,h1,h2,h3⟩:=q3 _ hy;obtain rfl:s=k:=aTm hn h1 hk (h2.trans hb);have h3':dP dl oc dc (sB s) (sT s)=(y2,decide (y1 = -1)):=h3;have hb':y0=s.getD 0 0:=hb;rw [Option.some.injEq,hb',h3']
  congr 2
  unfold bHq;dsimp only
  by_cases hy1:y1 = -1
  ·rw [if_pos (by rw [h3'];exact decide_eq_true hy1)];exact hy1
  ·rw [if_neg (by rw [h3'];simpa using hy1),h3']
   have:=q2 _ hy hy1;rw [bHp hs] at this
   exact this
end
end
section
section
variable {dl:Int} {oc:List Int} {D:Lqq} {x:List Int}
theorem bHm{y:List Int}{t:List DS}{s:DS}(h:dAb s.x≠dN y):mkS dl oc y (t++[s])=mkS dl oc y t:=by
 have e:dH (t++[s]) (dN y)=dH t (dN y):=by
  unfold dH;rw [List.reverse_append,List.reverse_singleton,List.singleton_append,List.filter_cons_of_neg];simpa using h
 unfold mkS;rw [e]
theorem pT{α β:Type}(f g:β→α→β):∀ (l:List α) (b:β),(∀ x∈l,∀ b,f b x=g b x)→l.foldl f b=l.foldl g b
 | [],_,_=>rfl
 | x::l,b,h=>by
  rw [tN,tN,h x (iN ..),pT f g l _ fun y hy=>h y (kQ6 _ hy)]
end
theorem aDb{l:Lqq}{x:List Int}(hn:(aM (l++[x]) 0).Nodup)(h:∀ y∈l,y.getD 0 0≤x.getD 0 0):aB (l++[x])=aB l++[x]:=by
 refine (aCa hn ((dU l).append_right [x]) ?_).symm;rw [List.pairwise_append];refine ⟨lP l,List.pairwise_singleton _ _,fun a ha b hb => ?_⟩
 rw [List.mem_singleton.1 hb];exact h a ((dU l).mem_iff.1 ha)
end
section
section
variable {dl:Int} {oc:List Int} {D:Lqq} {x:List Int}
end
theorem cA.more{dl:Int}{sk dc:Lqq}{x:List Int}(h:cA dl sk dc)(hl:dc.length<40)(h6:x.length=6)(h1:dcB x=true)(h2:inB sk x=true)(h3:orB x=true)(hn:∀ y∈dc,y.getD 0 0≠x.getD 0 0):cA dl sk (dc++[x]):=by
 have mem:∀ {p:List Int→Prop},(∀ y∈dc,p y)→p x→∀ y∈dc++[x],p y:=fun h hx y hy=>by
  rcases gX.1 hy with hy | hy
  ·exact h y hy
  ·rw [List.mem_singleton.1 hy];exact hx
 refine ⟨h.us,mem h.ud h6,h.len,by simp;omega,h.hdl,h.hsk,mem h.hdc h1,h.ns,?_,mem h.inb h2,mem h.ord h3⟩
 unfold aM;rw [gK,List.nodup_append];refine ⟨h.nd,by simp,fun a ha b hb => ?_⟩
 obtain ⟨y,hy,rfl⟩:=dR.1 ha;obtain rfl:b=x.getD 0 0:=by simpa using hb
 exact hn y hy
theorem oO{dl:Int}{D:Lqq}{u:List Int}(hd:D.Pairwise fun a b=>dN a<dN b)(hu:u.Sublist (aI dl D)):uC dl D u=0:=by
 have h1:(aI dl D).Pairwise (· < ·):=by
  unfold aI;rw [List.pairwise_map];exact hd.sublist List.filter_sublist
 have h2:=h1.sublist hu;unfold uC;rw [if_pos (fN.2 fun n hn=>by
  unfold ocB;rw [List.contains_iff_mem];exact hu.subset hn),if_pos]
 unfold rJ;rw [fN];intro i hi;have hi:=tO.1 hi
 rcases Nat.eq_zero_or_pos i with rfl | h0
 ·rfl
 ·rw [aBe]
  refine .inr (decide_eq_true ?_);have:=List.pairwise_iff_getElem.1 h2 (i-1) i (by omega) hi (by omega)
  rw [kQ4,kQ4,kQ0 hi,kQ0 (show i-1<u.length by omega)]
  exact this
theorem bCa{dl:Int}{sk dc:Lqq}(h:cA dl sk dc):(aB sk).Pairwise fun a b=>a.getD 0 0<b.getD 0 0:=by
 have h1:=lP sk;have h2:(aB sk).Pairwise fun a b=>a.getD 0 0≠b.getD 0 0:=by
  have:=aLx h.ns;unfold aM at this
  exact List.pairwise_map.1 this
 exact (h1.and h2).imp fun {a b} h=>by have:=h.1;have:=h.2;omega
theorem aUk{dl:Int}{oc:List Int}{sk dc D:Lqq}(h:cA dl sk dc){k:List Int}(hk:k∈aB sk):yL (aY dl oc D (aB sk)) (k.getD 0 0)=[k.getD 0 0,bHq (fun s=>dP dl oc D (sB s) (sT s)) (aB sk) k,(dP dl oc D (sB k) (sT k)).1]:=by
 unfold yL;rw [bHr (bCa h) hk];rfl
end
section
theorem aGd{α:Type}{p q:α→Bool}:∀ {l:List α},(∀ s∈l,p s=false→q s=false)→(l.filter p).find? q=l.find? q
 | [],_=>rfl
 | a::l,h=>by
  have ih:=aGd (p:=p) (q:=q) (l:=l) fun s hs=>h s (kQ6 _ hs)
  cases hp:p a with
  | true=>rw [List.filter_cons_of_pos hp,List.find?_cons,List.find?_cons,ih]
  | false=>rw [List.filter_cons_of_neg (by rw [hp];exact Bool.false_ne_true),List.find?_cons_of_neg (by rw [h a (iN ..) hp];exact Bool.false_ne_true),ih]
section
variable {dl:Int} {oc:List Int} {R:List Int→Bool}
theorem aMy{c:List Int}:∀ (D:Lqq),mkS dl oc c []∈dD dl oc (D++[c])
 | []=>iN ..
 | y::D=>by
  rw [List.cons_append,dD];exact kQ6 _ (aMy D)
end
theorem cA.about{dl:Int}{sk dc:Lqq}{n k a m:Int}(h:cA dl sk dc)(hl:dc.length<40)(h1:1≤n∧n≤9999)(h2:5≤k∧k≤9)(h3:m=0∨(k=6∧0≤m∧m≤36000))(h4:1≤a∧a<n)(hn:∀ y∈dc,y.getD 0 0≠n):cA dl sk (dc++[[n,k,0,0,m,a]]):=by
 refine h.more hl rfl (iA.2 ?_) ?_ ?_ hn
 ·show (1≤n∧n≤9999)∧(0≤k∧k≤9)∧((0:Int)≤0∧(0:Int)≤10000)∧0≤m∧m≤jW k
  have hm:0≤jW k:=by unfold jW;split <;> omega
  refine ⟨h1,by omega,by omega,?_⟩
  rcases h3 with rfl | ⟨rfl,q⟩
  ·exact ⟨by omega,hm⟩
  ·exact q
 ·show (if k≤4 then _ else ((0:Int) == 0))=true
  rw [if_neg (by omega)];rfl
 ·show (if k≤4 then _ else within a 1 (n-1))=true
  rw [if_neg (by omega)]
  exact cK.2 (by omega)
theorem bVq{dl:Int}{oc:List Int}{L:Lqq}{s:DS}(h:s∈dD dl oc L):s.x∈L:=by
 have:s.x∈(dD dl oc L).map (·.x):=dR.2 ⟨s,h,rfl⟩
 rwa [aBx] at this
end
section
def jU(s:DS):DS:={ s with rul:=none }
theorem aSc(t:List DS)(n:Int):dH (t.map jU) n=(dH t n).map jU:=by
 unfold dH;rw [← List.map_reverse,List.filter_map];rfl
section
variable {dl:Int} {oc oc':List Int}
theorem aMw(y:List Int)(t:List DS):mkS dl oc y (t.map jU)=mkS dl oc y t:=by
 unfold mkS;rw [aSc,List.any_map,List.find?_map,List.find?_map];have e1:aBw y ∘ jU=aBw y:=rfl;have e2:(fun s:DS=>cE (dK s.x) && s.cnt) ∘ jU=fun s=>cE (dK s.x) && s.cnt:=rfl
 have e3:(fun s:DS=>dK s.x == 6 && s.cnt) ∘ jU=fun s=>dK s.x == 6 && s.cnt:=rfl
 rw [e1,e2,e3];cases (dH t (dN y)).find? fun s=>cE (dK s.x) && s.cnt <;> cases (dH t (dN y)).find? fun s=>dK s.x == 6 && s.cnt <;> rfl
theorem bHf{y:List Int}{t:List DS}(h:oc.contains (dN y)=oc'.contains (dN y)):mkS dl oc y t=mkS dl oc' y t:=by
 unfold mkS;rw [h]
theorem bHg:∀ {L:Lqq},(∀ y∈L,oc.contains (dN y)=oc'.contains (dN y))→dD dl oc L=dD dl oc' L
 | [],_=>rfl
 | y::L,h=>by
  rw [dD,dD,bHg fun z hz=>h z (kQ6 _ hz),bHf (h y (iN ..))]
theorem aSd(t:List DS)(u:DS)(n:Int)(h:dAb u.x=n):dH (t++[u]) n=u::dH t n:=by
 unfold dH;rw [List.reverse_append,List.reverse_singleton,List.singleton_append,List.filter_cons_of_pos];simpa using h
theorem bHh{x:List Int}{t:List DS}{n k:Int}(hk:k=8∨k=9)(hN:((dH t (dN x)).find? fun s=>cE (dK s.x) && s.cnt)=none)(hoc:oc'.contains (dN x)=(k == 8)) :
  jU (mkS dl [] x (t++[mkS dl [] [n,k,0,0,0,dN x] []]))=jU (mkS dl oc' x t):=by
 have hc:(mkS dl [] [n,k,0,0,0,dN x] []).cnt=true:=by
  show (!(eT k && _) && !(([]:List DS).reverse.filter _).any _)=true;have:eT k=false:=by unfold eT;rcases hk with rfl | rfl <;> rfl
  rw [this];rfl
 have hx:(mkS dl [] [n,k,0,0,0,dN x] []).x=[n,k,0,0,0,dN x]:=rfl;revert hc hx;generalize mkS dl [] [n,k,0,0,0,dN x] []=u;intro hc hx;have hku:dK u.x=k:=by rw [hx];rfl
 have h5:(k == 5)=false:=by rcases hk with rfl | rfl <;> rfl
 have h7:(k == 7)=false:=by rcases hk with rfl | rfl <;> rfl
 have h6:(k == 6)=false:=by rcases hk with rfl | rfl <;> rfl
 have hr:cE k=true:=by rcases hk with rfl | rfl <;> rfl
 have e1:aBw x u=false:=by
  unfold aBw sR;rw [hku,h5,h7];simp
 unfold mkS jU;rw [aSd t u (dN x) (by rw [hx];rfl),List.any_cons,e1,Bool.false_or,List.find?_cons_of_pos (by rw [hku,hr,hc];rfl),List.find?_cons_of_neg (by rw [hku,h6];simp),hN]
 dsimp only;rw [hku,hoc]
theorem aMx{x:List Int}{n k:Int}(hk:k=8∨k=9)(hoc:∀ m,oc'.contains m=(k == 8 && m == dN x)):∀ {D:Lqq},(∀ a r,D=a++x::r→((dH (dD dl oc' r) (dN x)).find? fun s=>cE (dK s.x) && s.cnt)=none)→(∀ y∈D,dN y=dN x→y=x) →
  ∃ T,dD dl [] (D++[[n,k,0,0,0,dN x]])=T++[mkS dl [] [n,k,0,0,0,dN x] []]∧T.map jU=(dD dl oc' D).map jU
 | [],_,_=>⟨[],rfl,rfl⟩
 | y::D,h,hu=>by
  obtain ⟨T,e1,e2⟩:=aMx hk hoc (D:=D) (fun a r e=>h (y::a) r (by rw [e];rfl)) fun z hz=>hu z (kQ6 _ hz)
  refine ⟨mkS dl [] y (T++[mkS dl [] [n,k,0,0,0,dN x] []])::T,by rw [List.cons_append,dD,e1];rfl,?_⟩
  rw [dD,gY,gY,e2]
  congr 1
  have et:mkS dl [] y (T++[mkS dl [] [n,k,0,0,0,dN x] []])=mkS dl [] y (dD dl oc' D++[mkS dl [] [n,k,0,0,0,dN x] []]):=by
   rw [← aMw,← aMw y (dD dl oc' D++_),gK,gK,e2]
  rw [et]
  by_cases q:dN y=dN x
  ·have:=hu y (iN ..) q
   subst this;exact bHh hk (h [] D rfl) (by rw [hoc];simp)
  ·rw [bHm (by show dN x≠dN y;exact fun e=>q e.symm)]
   congr 1
   refine bHf ?_;rw [hoc,show (dN y == dN x)=false by simpa using q,Bool.and_false]
   rfl
theorem aGa{T:List DS}{y:List Int}:(T.map jU).find? (fun s=>s.x == y)=(T.find? fun s=>s.x == y).map jU:=by
 rw [List.find?_map];rfl
theorem bHi{D:Lqq}{T:List DS}{L:Lqq}{u:DS}{y:List Int}(e1:dD dl oc L=T++[u])(e2:T.map jU=(dD dl oc' D).map jU)(hy:y∈D):jU (stF dl oc L y)=jU (stF dl oc' D y):=by
 have h1:((dD dl oc' D).find? fun s=>s.x == y).isSome=true:=by
  rw [List.find?_isSome];rw [← aBx dl oc' D] at hy
  obtain ⟨s,h1,h2⟩:=dR.1 hy;exact ⟨s,h1,by rw [h2];exact beq_self_eq_true y⟩
 obtain ⟨s,hs⟩:=Option.isSome_iff_exists.1 h1;have h2:(T.find? fun s=>s.x == y).map jU=some (jU s):=by
  rw [← aGa,e2,aGa,hs];rfl
 obtain ⟨s',hs',e'⟩:=kD.1 h2;unfold stF;rw [e1,List.find?_append,hs',hs];exact e'
theorem bBz{D:Lqq}{x:List Int}{n k:Int}(hk:k=8∨k=9)(hoc:∀ m,oc'.contains m=(k == 8 && m == dN x))(hd:bZ D)(hx:x∈D)(hr:oH dl [] D x=none)(b t:Int):aHn dl [] (D++[[n,k,0,0,0,dN x]]) b t=aHn dl oc' D b t:=by
 obtain ⟨T,e1,e2⟩:=aMx (dl:=dl) (n:=n) hk hoc (D:=D) (fun a r e=>by
  subst e;have h2:=hr;unfold oH at h2
  rw [vG hd] at h2
  have et:dD dl oc' r=dD dl [] r:=bHg fun y hy=>by
   rw [hoc];have hup:=(List.pairwise_append.1 hd.up).2.1;have:=(bDn.1 hup).1 y hy;have q:(dN y == dN x)=false:=by simp only [beq_eq_false_iff_ne,ne_eq];omega
   rw [q,Bool.and_false];rfl
  rw [et];exact Option.map_eq_none_iff.1 h2) fun y hy e=>pO hd hy hx e
 unfold aHn;rw [aDp];have e:D.foldl (aBq dl [] (D++[[n,k,0,0,0,dN x]]) b) (t == -1,t)=D.foldl (aBq dl oc' D b) (t == -1,t):=pT _ _ _ _ fun y hy a=>by
  have hc:=bHi e1 e2 hy;unfold aBq aLk dS aBs pY;have c1:(stF dl [] (D++[[n,k,0,0,0,dN x]]) y).cnt=(stF dl oc' D y).cnt:=by have:=congrArg DS.cnt hc;exact this
  have c2:(stF dl [] (D++[[n,k,0,0,0,dN x]]) y).upd=(stF dl oc' D y).upd:=by have:=congrArg DS.upd hc;exact this
  have c3:(stF dl [] (D++[[n,k,0,0,0,dN x]]) y).much=(stF dl oc' D y).much:=by have:=congrArg DS.much hc;exact this
  rw [c1,c2,c3]
 rw [e];show aBq dl [] (D++[[n,k,0,0,0,dN x]]) b _ [n,k,0,0,0,dN x]=_;unfold aBq aLk;rw [if_neg];rw [decide_eq_false (by show ¬ k≤4;omega)]
 simp
theorem aGb{D sk:Lqq}{x:List Int}{n k:Int}(hk:k=8∨k=9)(hoc:∀ m,oc'.contains m=(k == 8 && m == dN x))(hd:bZ D)(hx:x∈D)(hr:oH dl [] D x=none):aY dl [] (D++[[n,k,0,0,0,dN x]]) sk=aY dl oc' D sk:=by
 unfold aY eW eY dP;simp only [bBz hk hoc hd hx hr]
theorem aGc{D:Lqq}{x:List Int}{n k:Int}(hk:k=8∨k=9)(hd:bZ (D++[[n,k,0,0,0,dN x]]))(hx:x∈D):(aI dl (D++[[n,k,0,0,0,dN x]])).contains (dN x)=false:=by
 rw [← Bool.not_eq_true,List.contains_iff_mem];intro h;unfold aI at h
 obtain ⟨y,hy,e⟩:=dR.1 h;obtain ⟨hy,ho⟩:=tL.1 hy;have:=pO hd hy (gX.2 (.inl hx)) e;subst this;obtain ⟨a,r,rfl⟩:=List.append_of_mem hx;have hd':bZ (a++y::(r++[[n,k,0,0,0,dN y]])):=by
  rw [List.append_assoc,List.cons_append] at hd
  exact hd
 have hst:=vG (dl:=dl) (oc:=[]) hd';unfold nA oH at ho
 rw [List.append_assoc,List.cons_append,hst] at ho
 rw [kQ7,kQ7] at ho
 have hc:(mkS dl [] [n,k,0,0,0,dN y] []).cnt=true:=by
  show (!(eT k && _) && !(([]:List DS).reverse.filter _).any _)=true;have:eT k=false:=by unfold eT;rcases hk with rfl | rfl <;> rfl
  rw [this];rfl
 have hs:((dH (dD dl [] (r++[[n,k,0,0,0,dN y]])) (dN y)).find? fun s=>cE (dK s.x) && s.cnt).isSome=true:=by
  rw [List.find?_isSome];refine ⟨mkS dl [] [n,k,0,0,0,dN y] [],?_,?_⟩
  ·unfold dH
   refine tL.2 ⟨wL.2 (aMy r),?_⟩;show (dN y == dN y)=true;exact beq_self_eq_true _
  ·rw [hc]
   show (cE k && true)=true
   rcases hk with rfl | rfl <;> rfl
 obtain ⟨s,hs⟩:=Option.isSome_iff_exists.1 hs;have h2:=ho.2.2;unfold mkS at h2
 rw [hs] at h2
 cases h2
end
section
variable {dl:Int} {oc oc':List Int} {F:List Int→Int}
theorem aUj{b:Int}:∀ {L:Lqq},bZ L→(∀ s∈L,∀ y∈L,dAb s=dN y→F s=F y)→(∀ y∈L,F y≠b→oc.contains (dN y)=oc'.contains (dN y))→(dD dl oc L).filter (fun s=>decide (F s.x≠b))=(dD dl oc' L).filter (fun s=>decide (F s.x≠b))
 | [],_,_,_=>rfl
 | y::L,hd,hF,ho=>by
  have ih:=aUj (b:=b) hd.tail (fun s hs z hz=>hF s (kQ6 _ hs) z (kQ6 _ hz)) fun z hz=>ho z (kQ6 _ hz)
  have ex:∀ q,(mkS dl q y (dD dl q L)).x=y:=fun _=>rfl
  by_cases hy:F y=b
  ·rw [dD,dD,List.filter_cons_of_neg (by rw [ex];simpa using hy),List.filter_cons_of_neg (by rw [ex];simpa using hy),ih]
  ·rw [dD,dD,List.filter_cons_of_pos (by rw [ex];simpa using hy),List.filter_cons_of_pos (by rw [ex];simpa using hy),ih]
   congr 1
   have key:∀ q,dH (dD dl q L) (dN y)=dH ((dD dl q L).filter fun s=>decide (F s.x≠b)) (dN y):=fun q=>by
    unfold dH;rw [← List.filter_reverse,List.filter_filter];refine List.filter_congr fun s hs => ?_
    cases e:dAb s.x == dN y with
    | false=>rfl
    | true =>
     have e:dAb s.x=dN y:=by simpa using e
     have:=hF s.x (kQ6 _ (bVq (wL.1 hs))) y (iN ..) e;rw [this,decide_eq_true hy];rfl
   have e:dH (dD dl oc L) (dN y)=dH (dD dl oc' L) (dN y):=by rw [key,key,ih]
   unfold mkS;rw [e,ho y (iN ..) hy]
theorem bNt{b:Int}{L:Lqq}(hd:bZ L)(hF:∀ s∈L,∀ y∈L,dAb s=dN y→F s=F y)(ho:∀ y∈L,F y≠b→oc.contains (dN y)=oc'.contains (dN y)){y:List Int}(hm:y∈L)(hy:F y≠b):stF dl oc L y=stF dl oc' L y:=by
 have h:=aUj (dl:=dl) hd hF ho;have key:∀ q,(dD dl q L).find? (fun s=>s.x == y)=((dD dl q L).filter fun s=>decide (F s.x≠b)).find? (fun s=>s.x == y):=fun q=>(aGd fun s _ hs=>by
  cases e:s.x == y with
  | false=>rfl
  | true =>
   have e:s.x=y:=by simpa using e
   rw [e,decide_eq_true hy] at hs
   cases hs).symm
 have hs:∀ q,((dD dl q L).find? fun s=>s.x == y).isSome=true:=fun q=>by
  rw [List.find?_isSome];have hm:=hm;rw [← aBx dl q L] at hm
  obtain ⟨s,h1,h2⟩:=dR.1 hm;exact ⟨s,h1,by rw [h2];exact beq_self_eq_true y⟩
 have e:(dD dl oc L).find? (fun s=>s.x == y)=(dD dl oc' L).find? (fun s=>s.x == y):=by rw [key oc,key oc',h]
 obtain ⟨s,hs1⟩:=Option.isSome_iff_exists.1 (hs oc);unfold stF;rw [← e,hs1];rfl
theorem bHj{b:Int}{L:Lqq}(hd:bZ L)(hF:∀ s∈L,∀ y∈L,dAb s=dN y→F s=F y)(hB:∀ y∈L,dK y≤4→F y=dB y)(ho:∀ y∈L,F y≠b→oc.contains (dN y)=oc'.contains (dN y)){c t:Int}(hc:c≠b):aHn dl oc L c t=aHn dl oc' L c t:=by
 unfold aHn;refine pT _ _ _ _ fun y hy a => ?_
 unfold aBq aLk
 by_cases h4:dK y≤4
 ·by_cases hb:dB y=c
  ·have hy2:F y≠b:=by rw [hB y hy h4,hb];exact hc
   unfold dS aBs pY;rw [bNt hd hF ho hy hy2]
  ·rw [show (dB y == c)=false by simpa using hb];simp
 ·rw [decide_eq_false h4];simp
end
section
variable {dc:Lqq}
theorem aDa(hd:bZ dc):∀ (k:Nat) (x:List Int),x∈dc→dN x<(k:Int)→kX dc k x=kX dc (k+1) x
 | 0,x,hx,hk=>by have:=dW hd hx;omega
 | k+1,x,hx,hk=>by
  unfold kX
  by_cases h4:dK x≤4
  ·rw [if_pos h4,if_pos h4]
  ·rw [if_neg h4,if_neg h4]
   cases h:ofN dc (dAb x) with
   | none=>rfl
   | some y =>
    obtain ⟨h1,h2⟩:=mD h;have ho:=hd.ord _ hx;unfold orB at ho
    rw [if_neg (show ¬ x.getD 1 0≤4 from h4)] at ho
    have ho2:=cK.1 ho;have h3:dAb x≤dN x-1:=ho2.2;exact aDa hd k y h1 (by omega)
theorem aSe(hd:bZ dc){s y:List Int}(hs:s∈dc)(hy:y∈dc)(e:dAb s=dN y):eR dc s=eR dc y:=by
 have hk:¬ dK s≤4:=fun h4=>by
  have ho:=hd.ord _ hs;unfold orB at ho
  rw [if_pos (show s.getD 1 0≤4 from h4)] at ho
  have h0:dAb s=0:=by simpa using ho
  have:=dW hd hy;omega
 unfold eR;have e1:kX dc (10000+1) s=kX dc 10000 y:=by
  conv=>lhs;unfold kX
  rw [if_neg hk,e,zE hd hy]
 rw [e1];exact aDa hd 10000 y hy (by have:=dW hd hy;omega)
theorem bHk{y:List Int}(h:dK y≤4):eR dc y=dB y:=by
 unfold eR kX;rw [if_pos h]
theorem bHl{dl:Int}{oc oc':List Int}(hd:bZ dc){x:List Int}(hx:x∈dc)(ho:∀ m,m≠dN x→oc.contains m=oc'.contains m){c t:Int}(hc:c≠eR dc x):dP dl oc dc c t=dP dl oc' dc c t:=by
 unfold dP;rw [bHj (F:=eR dc) (b:=eR dc x) hd (fun s hs y hy e=>aSe hd hs hy e) (fun y hy h4=>bHk h4) (fun y hy hF=>ho _ fun e=>hF (by rw [pO hd hy hx e])) hc]
end
end
section
theorem bIo{dl:Int}{D:Lqq}{u:List Int}(h2:u.Pairwise (· < ·))(hu:∀ n∈u,n∈aI dl D):uC dl D u=0:=by
 unfold uC;rw [if_pos (fN.2 fun n hn=>by
  unfold ocB;rw [List.contains_iff_mem];exact hu n hn),if_pos]
 unfold rJ;rw [fN];intro i hi;have hi:=tO.1 hi
 rcases Nat.eq_zero_or_pos i with rfl | h0
 ·rfl
 ·rw [aBe]
  refine .inr (decide_eq_true ?_);have:=List.pairwise_iff_getElem.1 h2 (i-1) i (by omega) hi (by omega)
  rw [kQ4,kQ4,kQ0 hi,kQ0 (show i-1<u.length by omega)]
  exact this
theorem bDp{dl:Int}{D:Lqq}(hd:bZ D):(aI dl D).Pairwise (· < ·):=by
 unfold aI;rw [List.pairwise_map];exact hd.up.sublist List.filter_sublist
theorem bIp{l:List Int}(h:l.Nodup):(l.mergeSort KL.leB).Pairwise (· < ·):=by
 have h1:(l.mergeSort KL.leB).Pairwise fun a b=>KL.leB a b=true:=List.pairwise_mergeSort (fun a b c h1 h2=>by simp only [KL.leB,decide_eq_true_eq] at *;omega) (fun a b=>by simp only [KL.leB,aBe,decide_eq_true_eq];omega) l
 have h2:(l.mergeSort KL.leB).Nodup:=(List.mergeSort_perm l KL.leB).nodup_iff.2 h;exact (h1.and h2).imp fun {a b} q=>by
  have q1:a≤b:=of_decide_eq_true q.1;have q2:a≠b:=q.2;omega
theorem aLb{f:List Int→Int × Bool}{S:Lqq}{k:List Int}:(bHq f S k == (-1:Int))=(f k).2:=by
 unfold bHq;cases (f k).2 with
 | true=>rfl
 | false =>
  rw [if_neg (by simp)]
  simp only [beq_eq_false_iff_ne,ne_eq];omega
theorem bOp(hA:∀ {base:Nat},FV Tp 26 [] base (.p (blP true)) [])(l1 l2:List Int)(wh:Int)(hw:0≤wh∧wh≤255){base:Nat}:FV Tp 8 [.p (.sl l1.length (l1.map aO)),.p (.sl l2.length (l2.map aO)),.p (.v (.int .u8 wh))] base (.p (blP true)) []:=by
 have M:=aMi (ns:=6) (nd:=16) (l:=l1) (nx:=0) (st:=17) (by decide) (by decide) (by decide)
 rcases hmd:aRn 6 16 l1 0 17 with ⟨sk0,dc1,m2,t3⟩
 rw [hmd] at M
 obtain ⟨hr,hl6,hl16,_,_,_,hb,_,_⟩:=M;dsimp only at hr hl6 hl16 hb
 have hlen:=hr.len;have hD:=eO hr;have hol:=sD (dl:=30) hD
 by_cases h0:(((aI 30 (aB dc1)).length:Nat):Int)=0
 ·exact bOq (by omega) (by omega) (by omega) hmd hr h0 hA
 have ht:0≤wh.tmod ((aI 30 (aB dc1)).length:Int)∧wh.tmod ((aI 30 (aB dc1)).length:Int)<((aI 30 (aB dc1)).length:Int):=⟨Int.tmod_nonneg _ hw.1,Int.tmod_lt_of_pos _ (by omega)⟩
 have hidx:(wh.tmod ((aI 30 (aB dc1)).length:Int)).toNat<(aI 30 (aB dc1)).length:=by omega
 have hm0:=gW hidx;obtain ⟨x4,hx4⟩:∃ x4,(aI 30 (aB dc1))[(wh.tmod ((aI 30 (aB dc1)).length:Int)).toNat]=x4:=⟨_,rfl⟩;have hx:(aI 30 (aB dc1))[(wh.tmod ((aI 30 (aB dc1)).length:Int)).toNat]? = some x4:=by rw [kQ0 hidx,hx4]
 rw [hx4] at hm0
 have hm1:=hm0;unfold aI at hm1
 obtain ⟨x,hxo,hxn⟩:=dR.1 hm1;obtain ⟨hxD,hop⟩:=tL.1 hxo;have hrul:oH 30 [] (aB dc1) x=none:=by
  unfold nA at hop
  rw [kQ7,kQ7] at hop
  exact Option.isNone_iff_eq_none.1 hop.2.2
 obtain ⟨hn1,hn2,hn3⟩:=aCj (dc:=dc1) (b:=80) (by omega) hb
 have hrg:=dW hD hxD;have hxlt:dN x<aZ dc1:=hn3 x ((dU dc1).mem_iff.1 hxD);subst hxn
 rcases hs1:yK ((aI 30 (aB dc1)).filter fun n => !(n == dN x)) l2 0 17 with ⟨u7,m8,t9⟩
 have S1:=aRm ((aI 30 (aB dc1)).filter fun n => !(n == dN x)) l2 0 17
 rw [hs1] at S1
 obtain ⟨hu,_,_⟩:=S1;dsimp only at hu
 have p8 := @bOr l1 l2 wh sk0 dc1 m2 t3 (dN x);have p11 := @bIq l1 l2 wh sk0 dc1 m2 t3 (dN x);revert hn1 hn2 hn3 hxlt p8 p11;generalize aZ dc1=n;intro hn1 hn2 hn3 hxlt p8 p11;have fresh:∀ y∈dc1,y.getD 0 0≠n:=fun y hy=>by have:=hn3 y hy;omega
 have r8:cA 30 sk0 (dc1++[[n,8,0,0,0,dN x]]):=hr.about (by omega) (by omega) (by omega) (.inl rfl) (by omega) fresh
 have r9:cA 30 sk0 (dc1++[[n,9,0,0,0,dN x]]):=hr.about (by omega) (by omega) (by omega) (.inl rfl) (by omega) fresh
 have s8:aB (dc1++[[n,8,0,0,0,dN x]])=aB dc1++[[n,8,0,0,0,dN x]]:=aDb r8.nd fun y hy=>by
  have:=hn3 y hy;show y.getD 0 0≤n;omega
 have s9:aB (dc1++[[n,9,0,0,0,dN x]])=aB dc1++[[n,9,0,0,0,dN x]]:=aDb r9.nd fun y hy=>by
  have:=hn3 y hy;show y.getD 0 0≤n;omega
 have d8:=eO r8;have d9:=eO r9;rw [s8] at d8
 rw [s9] at d9
 have e8:aY 30 [dN x] (aB dc1) (aB sk0)=aY 30 [] (aB (dc1++[[n,8,0,0,0,dN x]])) (aB sk0):=by
  rw [s8];exact (aGb (.inl rfl) (fun m=>by
   rw [List.contains_cons];show (m == dN x || false)=(true && (m == dN x))
   rw [Bool.or_false,iF]) hD hxD hrul).symm
 have e9:aY 30 [] (aB dc1) (aB sk0)=aY 30 [] (aB (dc1++[[n,9,0,0,0,dN x]])) (aB sk0):=by
  rw [s9];exact (aGb (.inr rfl) (fun m=>rfl) hD hxD hrul).symm
 have o8:(aI 30 (aB (dc1++[[n,8,0,0,0,dN x]]))).contains (dN x)=false:=by
  rw [s8];exact aGc (.inl rfl) d8 hxD
 have o9:(aI 30 (aB (dc1++[[n,9,0,0,0,dN x]]))).contains (dN x)=false:=by
  rw [s9];exact aGc (.inr rfl) d9 hxD
 have hl8:=sD (dl:=30) (eO r8);have hl9:=sD (dl:=30) (eO r9);have hup:=bDp (dl:=30) hD;have hlen2:∀ {q:Lqq} {u:List Int},(aY 30 u q (aB sk0)).length≤1000:=fun {q u}=>by rw [aMv,fF];omega
 have hlen3:∀ {q:Lqq} {u:List Int},(aY 30 u q (aB sk0)).length=sk0.length:=fun {q u}=>by rw [aMv,fF]
 have hfl:((aI 30 (aB dc1)).filter fun n => !(n == dN x)).length≤1000:=gC (wK _ _) hol
 have hul:=hu.length_le;have hu2:u7.Sublist (aI 30 (aB dc1)):=hu.trans List.filter_sublist;have hnu:dN x∉u7:=fun q=>by
  have:=(tL.1 (hu.subset q)).2;simp at this
 have hnd:(u7++[dN x]).Nodup:=by
  rw [List.nodup_append];refine ⟨(hup.sublist hu2).imp fun {a b} q e=>by omega,by simp,fun a ha b hb e => ?_⟩
  rw [List.mem_singleton.1 hb] at e
  exact hnu (e ▸ ha)
 have hvm:∀ m,m∈(u7++[dN x]).mergeSort KL.leB↔m∈u7∨m=dN x:=fun m=>by
  rw [(List.mergeSort_perm _ _).mem_iff,gX,List.mem_singleton]
 have hv:uC 30 (aB dc1) ((u7++[dN x]).mergeSort KL.leB)=0:=bIo (bIp hnd) fun m hm=>by
  rcases (hvm m).1 hm with q | q
  ·exact hu2.subset q
  ·rw [q];exact hm0
 have hvl:((u7++[dN x]).mergeSort KL.leB).length=u7.length+1:=by rw [bIi,lD,List.length_singleton]
 have hol2:(aI 30 (aB dc1)).length≤16:=by
  unfold aI;rw [kQ9];refine gC (wK _ _) ?_;rw [fF];omega
 have hul2:=hu2.length_le;have hco:∀ m,m≠dN x→u7.contains m=((u7++[dN x]).mergeSort KL.leB).contains m:=fun m hm=>by
  rw [Bool.eq_iff_iff,List.contains_iff_mem,List.contains_iff_mem,hvm];exact ⟨.inl,fun q=>q.resolve_right hm⟩
 have loop:∀ b:Int,(∀ s∈sk0,s.getD 0 0≠b→s.getD 0 0≠eR (aB dc1) x)→aJ Tp 0 (sub (cd Tryz.f8) [1,1,1,1,1,1,1,1,1,1,1,1,1,1,1,1,1,1,1,1,1,1,1,1,0,1,0,0]) (iG sk0 dc1 (dN x) b u7 0) (.exit 0) (iG sk0 dc1 (dN x) b u7 sk0.length):=fun b hbb =>
  aJ.count (P:=Tp) (k:=0) (b:=sub (cd Tryz.f8) [1,1,1,1,1,1,1,1,1,1,1,1,1,1,1,1,1,1,1,1,1,1,1,1,0,1,0,0]) (e := .exit 0) (R:=iG sk0 dc1 (dN x) b u7 sk0.length) sk0.length
  (fun k=>iG sk0 dc1 (dN x) b u7 k)
  (fun k hk=>by
   have hmk:=gW hk;obtain ⟨a,t,ha⟩:=len2 (hr.us _ hmk);have hxk:sk0[k]? = some [a,t]:=by rw [kQ0 hk,ha]
   rw [ha] at hmk
   have hm1:[a,t]∈aB sk0:=(dU sk0).mem_iff.2 hmk;have l1:=aUk (dl:=30) (oc:=u7) (D:=aB dc1) hr hm1;have l2:=aUk (dl:=30) (oc:=(u7++[dN x]).mergeSort KL.leB) (D:=aB dc1) hr hm1
   by_cases hab:a=b
   ·exact aWi (by omega) hxk hr.us fH hlen2 l1 fH hlen2 l2 hab (aP (by omega)) rfl
   ·have he:dP 30 u7 (aB dc1) a t=dP 30 ((u7++[dN x]).mergeSort KL.leB) (aB dc1) a t:=bHl hD hxD hco (hbb _ hmk hab)
    refine aWh (by omega) hxk hr.us fH hlen2 l1 fH hlen2 l2 hab ?_ ?_ (aP (by omega)) rfl
    ·show (dP 30 u7 (aB dc1) a t).1=(dP 30 ((u7++[dN x]).mergeSort KL.leB) (aB dc1) a t).1
     rw [he]
    ·rw [aLb,aLb]
     show ((dP 30 u7 (aB dc1) a t).2 == (dP 30 ((u7++[dN x]).mergeSort KL.leB) (aB dc1) a t).2)=true;rw [he];exact beq_self_eq_true _)
  (aWj (by omega)) (by simp)
 have hbp:∀ s∈sk0,1≤s.getD 0 0:=fun s hs=>(zG.1 (hr.hsk s hs)).1.1
 have hsE:yP 30 sk0 dc1 (dN x)=if 0<eR (aB dc1) x then (eR (aB dc1) x,0) else (0,6):=by
  unfold yP;rw [if_neg (by rw [Ne,(aHx hr.us hr.ud).2 hr];exact fun q=>q rfl),zE hD hxD]
 have hin:∀ {z:Int},0≤z∧z≤9999→inR z:=fun h=>by unfold inR;omega
 by_cases hsj:0<eR (aB dc1) x
 ·rw [if_pos hsj] at hsE
  exact p11 (by omega) (by omega) (by omega) hmd hr h0 (hin (by omega)) h0 hx ht.1 hr.ud (by omega) (fun x hx=>by have:=hb x hx;omega) hr.us (by omega) (by omega) (by simp) (oO hD.up (List.singleton_sublist.2 hm0)) r8 (by simp) (oO hD.up (List.nil_sublist _)) r9 fH fH hlen2 (decide_eq_true e8) fH fH hlen2 (decide_eq_true e9) hl8 o8 hl9 o9 (hin (by omega)) hsE rfl hol (by omega) hfl hs1 (by omega) (oO hD.up hu2) ⟨rfl,by omega⟩ (by omega) (by omega) hv (by rw [hlen3]) (by rw [hlen3,hlen3]) (loop _ fun s hs q=>q) hA
 ·rw [if_neg hsj] at hsE
  exact p8 (by omega) (by omega) (by omega) hmd hr h0 (hin (by omega)) h0 hx ht.1 hr.ud (by omega) (fun x hx=>by have:=hb x hx;omega) hr.us (by omega) (by omega) (by simp) (oO hD.up (List.singleton_sublist.2 hm0)) r8 (by simp) (oO hD.up (List.nil_sublist _)) r9 fH fH hlen2 (decide_eq_true e8) fH fH hlen2 (decide_eq_true e9) hl8 o8 hl9 o9 (hin (by omega)) hsE (by decide) rfl hol (by omega) hfl hs1 (by omega) (oO hD.up hu2) ⟨rfl,by omega⟩ (by omega) (by omega) hv (by rw [hlen3]) (by rw [hlen3,hlen3]) (loop _ fun s hs _=>by have:=hbp s hs;omega) hA
end
end KV
end Go.Proofs
