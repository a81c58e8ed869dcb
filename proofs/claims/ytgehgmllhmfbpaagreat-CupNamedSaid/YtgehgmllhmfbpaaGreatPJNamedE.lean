/- Parts of the proof of JNamed: laws of walks, contracts of functions, plain models. No condition. -/
import Derived.Maps.Keyed
import Derived.Maps.AppendAt
import Derived.OrdersHeld
import Derived.Great.BuildSlice
import Derived.Test.YtgehgmllhmfbpaaGreatPJNamedD
set_option linter.unusedVariables false
set_option linter.unusedSimpArgs false
set_option maxRecDepth 100000
namespace Go.Proofs
namespace KV
section
open KL
noncomputable abbrev zL2c0:Code:=sub (cd Tryz.f26) [1,1,1,1,0,1,0,0]
noncomputable abbrev zL2c1:Code:=sub (cd Tryz.f26) [1,1,1,1,1,0,1,0,0]
theorem btw_eq{r nx' st':Int}(lo hi:Int)(l:List Int)(nx st:Int)(h:0≤nx∧nx≤1000000000)(hb:(-1000000≤lo∧lo≤1000000) ∧ -1000000≤hi∧hi≤1000000)(e:btwM lo hi l nx st=(r,nx',st')):FMM Tryz.prog 29 [.ptr 0 0,.p (intP lo),.p (intP hi)] [some (deckO l nx st)] (.p (intP r)) [some (deckO l nx' st')]:=by
  have:=btw_ok lo hi l nx st h hb
  rw [e] at this
  exact this
theorem draw_eq{r nx' st':Int}(n:Int)(l:List Int)(nx st:Int)(h:0≤nx∧nx≤1000000000)(e:drawM n l nx st=(r,nx',st')):FMM Tryz.prog 28 [.ptr 0 0,.p (intP n)] [some (deckO l nx st)] (.p (intP r)) [some (deckO l nx' st')]:=by
  have:=draw_ok n l nx st h
  rw [e] at this
  exact this
theorem FMM.kb{P:Program}{f:Nat}{a b r:AV}{x:Bool}{M M':Mem}(h:FMM P f [a,b,.p (blP x)] M r M'):FMM P f [a,b,.kb x] M r M':=fun C w us hus hM n=>h C w us (by
  cases hus with
  | cons _ _ u us h1 h2 =>
    cases h2 with
    | cons _ _ u2 us2 h3 h4 =>
      cases h4 with
      | cons _ _ u3 us3 h5 h6 =>
        cases h5
        exact .cons _ _ _ _ h1 (.cons _ _ _ _ h3 (.cons _ _ _ _ (.p _ _ (.v _)) h6))) hM n
theorem raced_eq{r:List Int}{nx' st':Int}(n:Int)(sh:Bool)(l:List Int)(nx st:Int)(h:0≤nx∧nx≤1000000)(hn:0≤n∧n≤15)(e:racedM n sh l nx st=(r,nx',st')):FMM Tryz.prog 67 [.ptr 0 0,.p (intP n),.kb sh] [some (deckO l nx st)] (.own 1) [some (deckO l nx' st'),some (.row 3 r.length (r.map intP))]:=by
  have:=FMM.kb (raced_ok n sh l nx st h hn)
  rw [e] at this
  exact this
theorem of_p0{l:List Int}:FMM Tryz.prog 27 [(.p (.sl l.length (l.map byteP)))] [] (.ptr 0 0) [some (deckO l 0 (17:Int))]:=by
  exact FMM.fin (k:=0) (g:=⟨[],[0],[],[]⟩) rfl Tryz.func27 rfl (o:=[]) (l:=[]) (by kernel_rfl) (gn)
def made_S0(l:List Int)(r0:Int)(r3:Int)(r6:Int)(r12:Int)(i:Nat)(ptsn:Nat)(ptsc:List PV)(pa:Int)(mx:Int)(tt:Int):St:=⟨fr 57 [(0,(.ptr 0 0)),(6,(.ptr 1 0)),(7,(.ptr 2 0)),(8,(.p (intP pa))),(24,(.p (intP r12))),(25,(.p (intP (i:Int))))],[some (deckO l mx tt),some (.box 25 [(.p (intP 0)),(.p (intP 0)),(.p (intP 0)),(.p nilS),(.p nilS)]),some (.box 25 [(.p (intP r0)),(.p (intP r3)),(.p (intP r6)),(.own 3),(.p nilS)]),some (.row 3 ptsn ptsc)]⟩
def made_S1(l:List Int)(r0:Int)(r3:Int)(r6:Int)(pts'16:List Int)(r20:Int)(j:Nat)(dnn:Nat)(dnc:List PV)(mx:Int)(tt:Int):St:=⟨fr 57 [(0,(.ptr 0 0)),(6,(.ptr 1 0)),(7,(.ptr 2 0)),(43,(.p (intP r20))),(44,(.p (intP (j:Int))))],[some (deckO l mx tt),some (.box 25 [(.p (intP 0)),(.p (intP 0)),(.p (intP 0)),(.p nilS),(.p nilS)]),some (.box 25 [(.p (intP r0)),(.p (intP r3)),(.p (intP r6)),(.own 3),(.own 4)]),some (.row 3 pts'16.length (pts'16.map intP)),some (.row 22 dnn dnc)]⟩
theorem made_p0{ns nr:Int}{l:List Int}{nx st r0 m1 t2 r3 m4 t5 r6 m7 t8 r9 m10 t11 r12 m13 t14:Int}{i'15:Nat}{pts'16:List Int}{pa'17 mx'18 tt'19 r20 m21 t22:Int}{j'23:Nat}{dn'24:List (List Int)}{mx'25 tt'26:Int}(h0:0≤nx∧nx≤1000000000)(h1:(-1000000≤(2:Int)∧(2:Int)≤1000000) ∧ -1000000≤ns∧ns≤1000000)(h2:btwM (2:Int) ns l nx st=(r0,m1,t2))(h3:0≤m1∧m1≤1000000000)(h4:(-1000000≤(1:Int)∧(1:Int)≤1000000) ∧ -1000000≤nr∧nr≤1000000)(h5:btwM (1:Int) nr l m1 t2=(r3,m4,t5))(h6:0≤m4∧m4≤1000000000)(h7:(-1000000≤(1:Int)∧(1:Int)≤1000000) ∧ -1000000≤r3∧r3≤1000000)(h8:btwM (1:Int) r3 l m4 t5=(r6,m7,t8))(h9:0≤m7∧m7≤1000000000)(h10:(-1000000≤(10:Int)∧(10:Int)≤1000000) ∧ -1000000≤(40:Int)∧(40:Int)≤1000000)(h11:btwM (10:Int) (40:Int) l m7 t8=(r9,m10,t11))(h12:0≤m10∧m10≤1000000000)(h13:(-1000000≤(1:Int)∧(1:Int)≤1000000) ∧ -1000000≤(10:Int)∧(10:Int)≤1000000)(h14:btwM (1:Int) (10:Int) l m10 t11=(r12,m13,t14))(hl15:LoopOK Tryz.prog 1 zL2c0 (made_S0 l r0 r3 r6 r12 0 0 [] r9 m13 t14) (.exit 0) (made_S0 l r0 r3 r6 r12 i'15 pts'16.length (pts'16.map intP) pa'17 mx'18 tt'19))(h16:inR (r3+(1:Int)))(h17:0≤mx'18∧mx'18≤1000000000)(h18:drawM (r3+(1:Int)) l mx'18 tt'19=(r20,m21,t22))(hl19:LoopOK Tryz.prog 1 zL2c1 (made_S1 l r0 r3 r6 pts'16 r20 0 0 [] m21 t22) (.exit 2) (made_S1 l r0 r3 r6 pts'16 r20 j'23 dn'24.length (dn'24.map intsP) mx'25 tt'26)):FMM Tryz.prog 26 [(.ptr 0 0),(.p (intP ns)),(.p (intP nr))] [some (deckO l nx st)] (.p (.agg [(intP r0),(intP r3),(intP r6),(intsP pts'16),(rowsP dn'24)])) [some (deckO l mx'25 tt'26)]:=by
  exact FMM.fin (k:=1) (g:=⟨[],[],[3,4],[]⟩) rfl Tryz.func26 rfl (o:=[.c (.p (intP r0)) [(0,(deckO l m1 t2))],.c (.p (intP r3)) [(0,(deckO l m4 t5))],.c (.p (intP r6)) [(0,(deckO l m7 t8))],.c (.p (intP r9)) [(0,(deckO l m10 t11))],.c (.p (intP r12)) [(0,(deckO l m13 t14))],.k 1 ⟨(rng [(1,5),(9,15),(26,13)]),[1,2,3],[],[(102003,3)]⟩ (.exit 0) (made_S0 l r0 r3 r6 r12 i'15 pts'16.length (pts'16.map intP) pa'17 mx'18 tt'19),.c (.p (intP r20)) [(0,(deckO l m21 t22))],.k 1 ⟨(rng [(1,5),(8,35),(45,11)]),[1,2,3,4],[],[(102004,22)]⟩ (.exit 2) (made_S1 l r0 r3 r6 pts'16 r20 j'23 dn'24.length (dn'24.map intsP) mx'25 tt'26)]) (l:=[_,FC Tryz.prog 28 [(.ptr 0 0),(.p (intP (r3+(1:Int))))] [(0,(deckO l mx'18 tt'19))] 4 (.p (intP r20)) [(0,(deckO l m21 t22))],_,_,FC Tryz.prog 29 [(.ptr 0 0),(.p (intP 1)),(.p (intP 10))] [(0,(deckO l m10 t11))] 3 (.p (intP r12)) [(0,(deckO l m13 t14))],FC Tryz.prog 29 [(.ptr 0 0),(.p (intP 10)),(.p (intP 40))] [(0,(deckO l m7 t8))] 3 (.p (intP r9)) [(0,(deckO l m10 t11))],FC Tryz.prog 29 [(.ptr 0 0),(.p (intP 1)),(.p (intP r3))] [(0,(deckO l m4 t5))] 3 (.p (intP r6)) [(0,(deckO l m7 t8))],FC Tryz.prog 29 [(.ptr 0 0),(.p (intP 1)),(.p (intP nr))] [(0,(deckO l m1 t2))] 2 (.p (intP r3)) [(0,(deckO l m4 t5))],FC Tryz.prog 29 [(.ptr 0 0),(.p (intP 2)),(.p (intP ns))] [(0,(deckO l nx st))] 2 (.p (intP r0)) [(0,(deckO l m1 t2))]]) (by kernel_rfl) (gc hl19.code (gc (FMM.fc (ids:=[0]) (draw_eq (r3+(1:Int)) l mx'18 tt'19 h17 h18) (by kernel_rfl)) (gc h16 (gc hl15.code (gc (FMM.fc (ids:=[0]) (btw_eq (1:Int) (10:Int) l m10 t11 h12 h13 h14) (by kernel_rfl)) (gc (FMM.fc (ids:=[0]) (btw_eq (10:Int) (40:Int) l m7 t8 h9 h10 h11) (by kernel_rfl)) (gc (FMM.fc (ids:=[0]) (btw_eq (1:Int) r3 l m4 t5 h6 h7 h8) (by kernel_rfl)) (gc (FMM.fc (ids:=[0]) (btw_eq (1:Int) nr l m1 t2 h3 h4 h5) (by kernel_rfl)) (gc (FMM.fc (ids:=[0]) (btw_eq (2:Int) ns l nx st h0 h1 h2) (by kernel_rfl)) gn)))))))))
theorem made_L0_p0{l:List Int}{r0 r3 r6 r12:Int}{i:Nat}{pts:List Int}{pa mx tt r100 m101 t102:Int}{i':Nat}{pts':List Int}{pa':Int}(h0:(i:Int)<r12)(h1:[(intP pa)].length=1*1∧pts.length+1≤1000000)(h2:0≤mx∧mx≤1000000000)(h3:drawM (8:Int) l mx tt=(r100,m101,t102))(h4:inR (pa-r100))(h5:inR (((i+1):Nat):Int))(ei':i'=(i+1))(epts'n:pts'.length=(pts.length+1))(epts'c:pts'.map intP=((pts.map intP)++[(intP pa)]))(epa':pa'=(if (pa-r100) > (0:Int) then (pa-r100) else (0:Int))):CodeOK Tryz.prog 1 zL2c0 (made_S0 l r0 r3 r6 r12 i pts.length (pts.map intP) pa mx tt) .normal (made_S0 l r0 r3 r6 r12 i' pts'.length (pts'.map intP) pa' m101 t102):=by
  subst ei' epa'
  have raw:CodeOK Tryz.prog 1 zL2c0 (made_S0 l r0 r3 r6 r12 i pts.length (pts.map intP) pa mx tt) .normal (made_S0 l r0 r3 r6 r12 (i+1) (pts.length+1) ((pts.map intP)++[(intP pa)]) (if (pa-r100) > (0:Int) then (pa-r100) else (0:Int)) m101 t102):=CodeOK.fin (g:=⟨(rng [(1,5),(9,15),(26,13)]),[1,2,5],[],[]⟩) (o:=[bT,.c (.p (intP r100)) [(0,(deckO l m101 t102))]]) (l:=[_,_,FC Tryz.prog 28 [(.ptr 0 0),(.p (intP 8))] [(0,(deckO l mx tt))] 6 (.p (intP r100)) [(0,(deckO l m101 t102))],_,_]) (by kernel_rfl) (gc h5 (gc h4 (gc (FMM.fc (ids:=[0]) (draw_eq (8:Int) l mx tt h2 h3) (by kernel_rfl)) (gc h1 (gc (q_lt h0) gn)))))
  exact raw.cast (by rw [epts'n,epts'c])
theorem made_L0_p1{l:List Int}{r0 r3 r6 r12:Int}{i:Nat}{pts:List Int}{pa mx tt:Int}(h0:r12≤(i:Int)):CodeOK Tryz.prog 1 zL2c0 (made_S0 l r0 r3 r6 r12 i pts.length (pts.map intP) pa mx tt) (.exit 0) (made_S0 l r0 r3 r6 r12 i pts.length (pts.map intP) pa mx tt):=by
  exact CodeOK.fin (g:=⟨(rng [(1,5),(9,15),(26,13)]),[1,2,3],[],[]⟩) (o:=[bF]) (l:=[_]) (by kernel_rfl) (gc (q_ltF h0) gn)
theorem made_L1_p0{l:List Int}{r0 r3 r6:Int}{pts'16:List Int}{r20:Int}{j:Nat}{dn:List (List Int)}{mx tt:Int}{r200:List Int}{m201 t202:Int}{j':Nat}{dn':List (List Int)}(h0:(j:Int)<r20)(h1:0≤mx∧mx≤1000000)(h2:0≤r0∧r0≤15)(h3:racedM r0 true l mx tt=(r200,m201,t202))(h4:[(intsP r200)].length=1*1∧dn.length+1≤1000000)(h5:inR (((j+1):Nat):Int))(ej':j'=(j+1))(edn'n:dn'.length=(dn.length+1))(edn'c:dn'.map intsP=((dn.map intsP)++[(intsP r200)])):CodeOK Tryz.prog 1 zL2c1 (made_S1 l r0 r3 r6 pts'16 r20 j dn.length (dn.map intsP) mx tt) .normal (made_S1 l r0 r3 r6 pts'16 r20 j' dn'.length (dn'.map intsP) m201 t202):=by
  subst ej'
  have raw:CodeOK Tryz.prog 1 zL2c1 (made_S1 l r0 r3 r6 pts'16 r20 j dn.length (dn.map intsP) mx tt) .normal (made_S1 l r0 r3 r6 pts'16 r20 (j+1) (dn.length+1) ((dn.map intsP)++[(intsP r200)]) m201 t202):=CodeOK.fin (g:=⟨(rng [(1,5),(8,35),(45,11)]),[1,2,3,10],[],[]⟩) (o:=[bT,.c (.own 5) [(0,(deckO l m201 t202)),(5,(.row 3 r200.length (r200.map intP)))]]) (l:=[_,_,FC Tryz.prog 67 [(.ptr 0 0),(.p (intP r0)),(.kb true)] [(0,(deckO l mx tt))] 5 (.own 5) [(0,(deckO l m201 t202)),(5,(.row 3 r200.length (r200.map intP)))],_]) (by kernel_rfl) (gc h5 (gc h4 (gc (FMM.fc (ids:=[0]) (raced_eq r0 true l mx tt h1 h2 h3) (by kernel_rfl)) (gc (q_lt h0) gn))))
  exact raw.cast (by rw [edn'n,edn'c])
theorem made_L1_p1{l:List Int}{r0 r3 r6:Int}{pts'16:List Int}{r20:Int}{j:Nat}{dn:List (List Int)}{mx tt:Int}(h0:r20≤(j:Int)):CodeOK Tryz.prog 1 zL2c1 (made_S1 l r0 r3 r6 pts'16 r20 j dn.length (dn.map intsP) mx tt) (.exit 2) (made_S1 l r0 r3 r6 pts'16 r20 j dn.length (dn.map intsP) mx tt):=by
  exact CodeOK.fin (g:=⟨(rng [(1,5),(8,35),(45,11)]),[1,2,3,4],[],[]⟩) (o:=[bF]) (l:=[_]) (by kernel_rfl) (gc (q_ltF h0) gn)
theorem falls_of{l:List Int}(h:l.Pairwise (fun a b=>b≤a)):KL.fallsB l=true:=by
  unfold KL.fallsB KL.sortedB
  rw [decide_eq_true_iff]
  intro j hj
  have h1:=List.pairwise_iff_getElem.1 h j (j+1) (by omega) (by omega) (by omega)
  rw [KL.getD_at _ _ (by omega),KL.getD_at _ _ (by omega)]
  unfold KL.cmpDown KL.cmpI
  repeat' split
  all_goals omega
structure PInv (i:Nat) (pts:List Int) (pa:Int):Prop where
  len:pts.length=i
  pa1:0≤pa∧pa≤40
  bd:∀ x∈pts,pa≤x∧x≤40
  pw:pts.Pairwise (fun a b=>b≤a)
theorem PInv.next{i:Nat}{pts:List Int}{pa pa':Int}(h:PInv i pts pa)(h1:0≤pa')(h2:pa'≤pa):PInv (i+1) (pts++[pa]) pa':=by
  have:=h.pa1
  refine ⟨by simp [h.len],⟨h1,by omega⟩,fun x hx => ?_,List.pairwise_append.2 ⟨h.pw,by simp,fun a ha b hb => ?_⟩⟩
  · rcases List.mem_append.1 hx with hx | hx
    · have:=h.bd x hx;omega
    · simp at hx;omega
  · simp at hb;subst hb;exact (h.bd a ha).1
theorem made_pts{l:List Int}{r0 r3 r6 r12:Int}(hr:r12≤100):∀ (k i:Nat) (pts:List Int) (pa mx tt:Int),(i:Int)+k=r12→PInv i pts pa→0≤mx→mx+k≤1000000000 →
    ∃ (pts':List Int) (pa' mx' tt':Int),LoopOK Tryz.prog 1 zL2c0 (made_S0 l r0 r3 r6 r12 i pts.length (pts.map intP) pa mx tt) (.exit 0) (made_S0 l r0 r3 r6 r12 (i+k) pts'.length (pts'.map intP) pa' mx' tt')∧PInv (i+k) pts' pa'∧mx≤mx'∧mx'≤mx+k
  | 0,i,pts,pa,mx,tt,hk,h,h0,h1=>⟨pts,pa,mx,tt,.exit (made_L0_p1 (by omega)) (by simp),h,by omega,by omega⟩
  | k+1,i,pts,pa,mx,tt,hk,h,h0,h1=>by
    have hb:=drawM_bd 8 l mx tt
    have hpa:=h.pa1
    have hl:=h.len
    have c1:=made_L0_p0 (r0:=r0) (r3:=r3) (r6:=r6) (r12:=r12) (i:=i) (pts:=pts) (pa:=pa) (pts':=pts++[pa]) (by omega) (by simp;omega) ⟨h0,by omega⟩ (show drawM 8 l mx tt=((drawM 8 l mx tt).1,(drawM 8 l mx tt).2.1,(drawM 8 l mx tt).2.2) from rfl) (by unfold inR;omega) (inR_nat (by omega)) rfl (by simp) (by simp) rfl
    have i1:PInv (i+1) (pts++[pa]) (if pa-(drawM 8 l mx tt).1 > 0 then pa-(drawM 8 l mx tt).1 else 0):=h.next (by split <;> omega) (by split <;> omega)
    obtain ⟨pts2,pa2,m2,t2,c2,i2,b1,b2⟩:=made_pts hr k (i+1) (pts++[pa]) _ (drawM 8 l mx tt).2.1 (drawM 8 l mx tt).2.2 (by omega) i1 (by omega) (by omega)
    rw [show i+1+k=i+(k+1) by omega] at c2 i2
    exact ⟨pts2,pa2,m2,t2,.step c1 c2,i2,by omega,by omega⟩
theorem made_done{l:List Int}{r0 r3 r6 r20:Int}{pts:List Int}(hr:r20≤1000)(hr0:0≤r0∧r0≤15):∀ (k j:Nat) (dn:List (List Int)) (mx tt:Int),(j:Int)+k=r20→dn.length=j→(∀ r∈dn,KL.RaceOK r0.toNat r)→0≤mx→mx+100*k≤900000 →
    ∃ (dn':List (List Int)) (mx' tt':Int),LoopOK Tryz.prog 1 zL2c1 (made_S1 l r0 r3 r6 pts r20 j dn.length (dn.map intsP) mx tt) (.exit 2) (made_S1 l r0 r3 r6 pts r20 (j+k) dn'.length (dn'.map intsP) mx' tt')∧dn'.length=j+k∧(∀ r∈dn',KL.RaceOK r0.toNat r)∧mx≤mx'∧mx'≤mx+100*k
  | 0,j,dn,mx,tt,hk,hl,h,h0,h1=>⟨dn,mx,tt,.exit (made_L1_p1 (by omega)) (by simp),hl,h,by omega,by omega⟩
  | k+1,j,dn,mx,tt,hk,hl,h,h0,h1=>by
    obtain ⟨_,q1,q2,q3⟩:=racedM_spec r0 true l mx tt ⟨h0,by omega⟩ hr0
    have c1:=made_L1_p0 (r3:=r3) (r6:=r6) (pts'16:=pts) (r20:=r20) (j:=j) (dn:=dn) (dn':=dn++[(racedM r0 true l mx tt).1]) (by omega) ⟨h0,by omega⟩ hr0 (show racedM r0 true l mx tt=((racedM r0 true l mx tt).1,(racedM r0 true l mx tt).2.1,(racedM r0 true l mx tt).2.2) from rfl) (by simp;omega) (inR_nat (by omega)) rfl (by simp) (by simp)
    obtain ⟨dn2,m2,t2,c2,l2,i2,b1,b2⟩:=made_done hr hr0 k (j+1) (dn++[(racedM r0 true l mx tt).1]) (racedM r0 true l mx tt).2.1 (racedM r0 true l mx tt).2.2 (by omega) (by simp;omega) (fun r hr=>by
      rcases List.mem_append.1 hr with hr | hr
      · exact h r hr
      · simp at hr;rw [hr];exact q1) (by omega) (by omega)
    rw [show j+1+k=j+(k+1) by omega] at c2 l2
    exact ⟨dn2,m2,t2,.step c1 c2,l2,i2,by omega,by omega⟩
theorem made_ex(ns nr:Int)(l:List Int)(nx st:Int)(h:0≤nx∧nx≤100000)(hs:2≤ns∧ns≤12)(hr:1≤nr∧nr≤20):∃ r:Cup × Int × Int,FMM Tryz.prog 26 [.ptr 0 0,.p (intP ns),.p (intP nr)] [some (deckO l nx st)] (.p (cupP r.1)) [some (deckO l r.2.1 r.2.2)]∧KL.Valid r.1∧2≤r.1.sk∧r.1.sk≤ns∧r.1.ra≤nr∧r.1.pts.length≤10∧(∀ x∈r.1.pts,x≤40)∧nx≤r.2.1∧r.2.1≤nx+3000:=by
  have a1:=btwM_bd 2 ns l nx st
  obtain ⟨⟨r0,m1,t2⟩,e1⟩:∃ q,q=btwM 2 ns l nx st:=⟨_,rfl⟩
  rw [← e1] at a1
  have a2:=btwM_bd 1 nr l m1 t2
  obtain ⟨⟨r3,m4,t5⟩,e2⟩:∃ q,q=btwM 1 nr l m1 t2:=⟨_,rfl⟩
  rw [← e2] at a2
  have a3:=btwM_bd 1 r3 l m4 t5
  obtain ⟨⟨r6,m7,t8⟩,e3⟩:∃ q,q=btwM 1 r3 l m4 t5:=⟨_,rfl⟩
  rw [← e3] at a3
  have a4:=btwM_bd 10 40 l m7 t8
  obtain ⟨⟨r9,m10,t11⟩,e4⟩:∃ q,q=btwM 10 40 l m7 t8:=⟨_,rfl⟩
  rw [← e4] at a4
  have a5:=btwM_bd 1 10 l m10 t11
  obtain ⟨⟨r12,m13,t14⟩,e5⟩:∃ q,q=btwM 1 10 l m10 t11:=⟨_,rfl⟩
  rw [← e5] at a5
  dsimp only at a1 a2 a3 a4 a5
  obtain ⟨pts,pa,mx,tt,L1,i1,b1,b2⟩:=made_pts (l:=l) (r0:=r0) (r3:=r3) (r6:=r6) (r12:=r12) (by omega) r12.toNat 0 [] r9 m13 t14 (by omega) ⟨rfl,by omega,by simp,.nil⟩ (by omega) (by omega)
  have a6:=drawM_bd (r3+1) l mx tt
  obtain ⟨⟨r20,m21,t22⟩,e6⟩:∃ q,q=drawM (r3+1) l mx tt:=⟨_,rfl⟩
  rw [← e6] at a6
  dsimp only at a6
  obtain ⟨dn,mx2,tt2,L2,l2,i2,b3,b4⟩:=made_done (l:=l) (r0:=r0) (r3:=r3) (r6:=r6) (r20:=r20) (pts:=pts) (by omega) (by omega) r20.toNat 0 [] m21 t22 (by omega) rfl (by simp) (by omega) (by omega)
  rw [Nat.zero_add] at L1 L2 l2 i1
  refine ⟨(⟨r0,r3,r6,pts,dn⟩,mx2,tt2),made_p0 (r0:=r0) (r3:=r3) (r6:=r6) (pts'16:=pts) (dn'24:=dn) (mx'25:=mx2) (tt'26:=tt2) (by omega) (by omega) e1.symm (by omega) (by omega) e2.symm (by omega) (by omega) e3.symm (by omega) (by omega) e4.symm (by omega) (by omega) e5.symm L1 (by unfold inR;omega) (by omega) e6.symm L2,?_,by dsimp only;omega,by dsimp only;omega,by dsimp only;omega,by have:=i1.len;dsimp only;omega,fun x hx=>(i1.bd x hx).2,by dsimp only;omega,by dsimp only;omega⟩
  have hpl:=i1.len
  exact { sk1:=by dsimp only;omega,sk2:=by dsimp only;omega,ra1:=by dsimp only;omega,ra2:=by dsimp only;omega,be1:=by dsimp only;omega,be2:=by dsimp only;omega,pt1:=by dsimp only;omega,pt2:=by dsimp only;omega,dn:=by dsimp only;omega,
          len:=fun r hr=>by have:=(i2 r hr).len;dsimp only;omega,
          pts:=fun x hx=>by have:=i1.bd x hx;have:=i1.pa1;omega,
          rows:=fun r hr x hx=>(i2 r hr).bd x hx,
          falls:=falls_of i1.pw,
          clash:=by
            rw [List.any_eq_false]
            intro r hr
            have:=(KL.clash_iff r (fun x hx=>((i2 r hr).bd x hx).1)).2 (i2 r hr).cl
            simp [this] }
end
section
open KL
open Classical in
noncomputable def madeM(ns nr:Int)(l:List Int)(nx st:Int):Cup × Int × Int:=if h:(0≤nx∧nx≤100000)∧(2≤ns∧ns≤12)∧1≤nr∧nr≤20 then Classical.choose (made_ex ns nr l nx st h.1 h.2.1 h.2.2) else (⟨0,0,0,[],[]⟩,nx,st)
theorem madeM_spec(ns nr:Int)(l:List Int)(nx st:Int)(h:0≤nx∧nx≤100000)(hs:2≤ns∧ns≤12)(hr:1≤nr∧nr≤20):FMM Tryz.prog 26 [.ptr 0 0,.p (intP ns),.p (intP nr)] [some (deckO l nx st)] (.p (cupP (madeM ns nr l nx st).1)) [some (deckO l (madeM ns nr l nx st).2.1 (madeM ns nr l nx st).2.2)]∧KL.Valid (madeM ns nr l nx st).1∧2≤(madeM ns nr l nx st).1.sk∧(madeM ns nr l nx st).1.sk≤ns∧(madeM ns nr l nx st).1.ra≤nr∧(madeM ns nr l nx st).1.pts.length≤10∧(∀ x∈(madeM ns nr l nx st).1.pts,x≤40)∧nx≤(madeM ns nr l nx st).2.1∧(madeM ns nr l nx st).2.1≤nx+3000:=by
  unfold madeM
  rw [dif_pos ⟨h,hs,hr⟩]
  exact Classical.choose_spec (made_ex ns nr l nx st h hs hr)
theorem made_eq{c:Cup}{nx' st':Int}(ns nr:Int)(l:List Int)(nx st:Int)(h:0≤nx∧nx≤100000)(hs:2≤ns∧ns≤12)(hr:1≤nr∧nr≤20)(e:madeM ns nr l nx st=(c,nx',st')):FMM Tryz.prog 26 [.ptr 0 0,.p (intP ns),.p (intP nr)] [some (deckO l nx st)] (.p (cupP c)) [some (deckO l nx' st')]:=by
  have:=(madeM_spec ns nr l nx st h hs hr).1
  rw [e] at this
  exact this
theorem of_ok(l:List Int):FMM Tryz.prog 27 [.p (.sl l.length (l.map byteP))] [] (.ptr 0 0) [some (deckO l 0 17)]:=of_p0
end
section
open KL
noncomputable abbrev zL5c0:Code:=sub (cd Tryz.f25) [1,1,0,1,0,0]
noncomputable abbrev zL5c1:Code:=sub (cd Tryz.f39) [1,1,0,1,0,0]
noncomputable abbrev zL5c2:Code:=sub (cd Tryz.f87) [1,1,0,1,0,0]
def eqi_S0(a:List Int)(b:List Int)(i:Nat):St:=⟨fr 26 [(0,(.p (intsP a))),(1,(.p (intsP b))),(12,(.p (intP (a.length:Int)))),(13,(.p (intP (i:Int))))],[]⟩
theorem eqi_p0{a b:List Int}(h0:(a.length:Int)≠(b.length:Int)){base:Nat}:FV Tryz.prog 25 [(.p (intsP a)),(.p (intsP b))] base (.p (blP false)) []:=by
  exact FV.fin Tryz.func25 rfl (o:=[bT]) (l:=[_]) (by kernel_rfl) (gc (q_neT h0) gn)
theorem eqi_p1{a b:List Int}{i'0:Nat}(h0:(a.length:Int)=(b.length:Int))(hl1:LoopOK Tryz.prog 0 zL5c0 (eqi_S0 a b 0) (.exit 0) (eqi_S0 a b i'0)){base:Nat}:FV Tryz.prog 25 [(.p (intsP a)),(.p (intsP b))] base (.p (blP true)) []:=by
  exact FV.fin Tryz.func25 rfl (o:=[bF,.k 4 ⟨(rng [(2,10),(14,12)]),[],[],[]⟩ (.exit 0) (eqi_S0 a b i'0)]) (l:=[_,_]) (by kernel_rfl) (gc hl1.code (gc (q_neF h0) gn))
theorem eqi_p2{a b:List Int}{i'0:Nat}(h0:(a.length:Int)=(b.length:Int))(hl1:LoopOK Tryz.prog 0 zL5c0 (eqi_S0 a b 0) .ret (setS (eqi_S0 a b i'0) [(4,(.kb false))])){base:Nat}:FV Tryz.prog 25 [(.p (intsP a)),(.p (intsP b))] base (.p (blP false)) []:=by
  exact FV.fin Tryz.func25 rfl (o:=[bF,.k 4 ⟨(rng [(2,10),(14,12)]),[],[],[]⟩ .ret (setS (eqi_S0 a b i'0) [(4,(.kb false))])]) (l:=[_,_]) (by kernel_rfl) (gc hl1.code (gc (q_neF h0) gn))
theorem eqi_L0_p0{a b:List Int}{i:Nat}{x100 x101:Int}(h0:(i:Int)<(a.length:Int))(h1:a[i]? = some x100)(h2:b[i]? = some x101)(h3:x100≠x101):CodeOK Tryz.prog 0 zL5c0 (eqi_S0 a b i) .ret (setS (eqi_S0 a b i) [(4,(.kb false))]):=by
  exact CodeOK.fin (g:=⟨(rng [(2,2),(5,7),(14,12)]),[],[],[]⟩) (o:=[bT,.x (intP x100),.x (intP x101),bT]) (l:=[_,_,_,_,_,_]) (by kernel_rfl) (gc (q_neT h3) (gc (atm intP h2) (gc (ixn intP h2) (gc (atm intP h1) (gc (ixn intP h1) (gc (q_lt h0) gn))))))
theorem eqi_L0_p1{a b:List Int}{i:Nat}{x100 x101:Int}{i':Nat}(h0:(i:Int)<(a.length:Int))(h1:a[i]? = some x100)(h2:b[i]? = some x101)(h3:x100=x101)(h4:inR (((i+1):Nat):Int))(ei':i'=(i+1)):CodeOK Tryz.prog 0 zL5c0 (eqi_S0 a b i) .normal (eqi_S0 a b i'):=by
  subst ei'
  exact CodeOK.fin (g:=⟨(rng [(2,10),(14,12)]),[],[],[]⟩) (o:=[bT,.x (intP x100),.x (intP x101),bF]) (l:=[_,_,_,_,_,_,_]) (by kernel_rfl) (gc h4 (gc (q_neF h3) (gc (atm intP h2) (gc (ixn intP h2) (gc (atm intP h1) (gc (ixn intP h1) (gc (q_lt h0) gn)))))))
theorem eqi_L0_p2{a b:List Int}{i:Nat}(h0:(a.length:Int)≤(i:Int)):CodeOK Tryz.prog 0 zL5c0 (eqi_S0 a b i) (.exit 0) (eqi_S0 a b i):=by
  exact CodeOK.fin (g:=⟨(rng [(2,10),(14,12)]),[],[],[]⟩) (o:=[bF]) (l:=[_]) (by kernel_rfl) (gc (q_ltF h0) gn)
def eql_S0(a:List (List Int))(b:List (List Int))(i:Nat):St:=⟨fr 26 [(0,(.p (.sl a.length (a.flatten.map intP)))),(1,(.p (.sl b.length (b.flatten.map intP)))),(12,(.p (intP (a.length:Int)))),(13,(.p (intP (i:Int))))],[]⟩
theorem eql_p0{a b:List (List Int)}(h0:(a.length:Int)≠(b.length:Int)){base:Nat}:FV Tryz.prog 39 [(.p (.sl a.length (a.flatten.map intP))),(.p (.sl b.length (b.flatten.map intP)))] base (.p (blP false)) []:=by
  exact FV.fin Tryz.func39 rfl (o:=[bT]) (l:=[_]) (by kernel_rfl) (gc (q_neT h0) gn)
theorem eql_p1{a b:List (List Int)}{i'0:Nat}(h0:(a.length:Int)=(b.length:Int))(hl1:LoopOK Tryz.prog 0 zL5c1 (eql_S0 a b 0) (.exit 0) (eql_S0 a b i'0)){base:Nat}:FV Tryz.prog 39 [(.p (.sl a.length (a.flatten.map intP))),(.p (.sl b.length (b.flatten.map intP)))] base (.p (blP true)) []:=by
  exact FV.fin Tryz.func39 rfl (o:=[bF,.k 4 ⟨(rng [(2,10),(14,12)]),[],[],[]⟩ (.exit 0) (eql_S0 a b i'0)]) (l:=[_,_]) (by kernel_rfl) (gc hl1.code (gc (q_neF h0) gn))
theorem eql_p2{a b:List (List Int)}{i'0:Nat}(h0:(a.length:Int)=(b.length:Int))(hl1:LoopOK Tryz.prog 0 zL5c1 (eql_S0 a b 0) .ret (setS (eql_S0 a b i'0) [(4,(.kb false))])){base:Nat}:FV Tryz.prog 39 [(.p (.sl a.length (a.flatten.map intP))),(.p (.sl b.length (b.flatten.map intP)))] base (.p (blP false)) []:=by
  exact FV.fin Tryz.func39 rfl (o:=[bF,.k 4 ⟨(rng [(2,10),(14,12)]),[],[],[]⟩ .ret (setS (eql_S0 a b i'0) [(4,(.kb false))])]) (l:=[_,_]) (by kernel_rfl) (gc hl1.code (gc (q_neF h0) gn))
theorem eql_L0_p0{a b:List (List Int)}{i:Nat}{y100 y101 y102 y103 y104 y105 y106 y107:Int}(h0:(i:Int)<(a.length:Int))(h1:a[i]? = some [y100,y101,y102,y103])(h2:uni 4 a)(h3:b[i]? = some [y104,y105,y106,y107])(h4:uni 4 b)(h5:intsOK [(intP y100),(intP y101),(intP y102),(intP y103)] [(0,3,true),(1,3,true),(2,3,true),(3,3,true)]=true∧intsOK [(intP y104),(intP y105),(intP y106),(intP y107)] [(0,3,true),(1,3,true),(2,3,true),(3,3,true)]=true)(h6:(eqFs [(intP y100),(intP y101),(intP y102),(intP y103)] [(intP y104),(intP y105),(intP y106),(intP y107)] [(0,3,true),(1,3,true),(2,3,true),(3,3,true)])=false):CodeOK Tryz.prog 0 zL5c1 (eql_S0 a b i) .ret (setS (eql_S0 a b i) [(4,(.kb false))]):=by
  exact CodeOK.fin (g:=⟨(rng [(2,2),(5,7),(14,12)]),[],[],[]⟩) (o:=[bT,.x (.agg [(intP y100),(intP y101),(intP y102),(intP y103)]),.x (.agg [(intP y104),(intP y105),(intP y106),(intP y107)]),bT]) (l:=[_,_,_,_,0≤(i:Int)∧(i:Int)<(b.length:Int)∧(i*4)<(b.flatten.map intP).length,_,_,0≤(i:Int)∧(i:Int)<(a.length:Int)∧(i*4)<(a.flatten.map intP).length,_]) (by kernel_rfl) (gc (q_not h6) (gc h5 (gc (fl_load (i:=i) h4 h3) (gc (fl_le (i:=i) h4 h3) (gc (ix_fl (k:=4) (i:=(i:Int)) (by decide) h4 (Int.natCast_nonneg _) h3) (gc (fl_load (i:=i) h2 h1) (gc (fl_le (i:=i) h2 h1) (gc (ix_fl (k:=4) (i:=(i:Int)) (by decide) h2 (Int.natCast_nonneg _) h1) (gc (q_lt h0) gn)))))))))
theorem eql_L0_p1{a b:List (List Int)}{i:Nat}{y100 y101 y102 y103 y104 y105 y106 y107:Int}{i':Nat}(h0:(i:Int)<(a.length:Int))(h1:a[i]? = some [y100,y101,y102,y103])(h2:uni 4 a)(h3:b[i]? = some [y104,y105,y106,y107])(h4:uni 4 b)(h5:intsOK [(intP y100),(intP y101),(intP y102),(intP y103)] [(0,3,true),(1,3,true),(2,3,true),(3,3,true)]=true∧intsOK [(intP y104),(intP y105),(intP y106),(intP y107)] [(0,3,true),(1,3,true),(2,3,true),(3,3,true)]=true)(h6:(eqFs [(intP y100),(intP y101),(intP y102),(intP y103)] [(intP y104),(intP y105),(intP y106),(intP y107)] [(0,3,true),(1,3,true),(2,3,true),(3,3,true)])=true)(h7:inR (((i+1):Nat):Int))(ei':i'=(i+1)):CodeOK Tryz.prog 0 zL5c1 (eql_S0 a b i) .normal (eql_S0 a b i'):=by
  subst ei'
  exact CodeOK.fin (g:=⟨(rng [(2,10),(14,12)]),[],[],[]⟩) (o:=[bT,.x (.agg [(intP y100),(intP y101),(intP y102),(intP y103)]),.x (.agg [(intP y104),(intP y105),(intP y106),(intP y107)]),bF]) (l:=[_,_,_,_,_,0≤(i:Int)∧(i:Int)<(b.length:Int)∧(i*4)<(b.flatten.map intP).length,_,_,0≤(i:Int)∧(i:Int)<(a.length:Int)∧(i*4)<(a.flatten.map intP).length,_]) (by kernel_rfl) (gc h7 (gc (q_notF h6) (gc h5 (gc (fl_load (i:=i) h4 h3) (gc (fl_le (i:=i) h4 h3) (gc (ix_fl (k:=4) (i:=(i:Int)) (by decide) h4 (Int.natCast_nonneg _) h3) (gc (fl_load (i:=i) h2 h1) (gc (fl_le (i:=i) h2 h1) (gc (ix_fl (k:=4) (i:=(i:Int)) (by decide) h2 (Int.natCast_nonneg _) h1) (gc (q_lt h0) gn))))))))))
theorem eql_L0_p2{a b:List (List Int)}{i:Nat}(h0:(a.length:Int)≤(i:Int)):CodeOK Tryz.prog 0 zL5c1 (eql_S0 a b i) (.exit 0) (eql_S0 a b i):=by
  exact CodeOK.fin (g:=⟨(rng [(2,10),(14,12)]),[],[],[]⟩) (o:=[bF]) (l:=[_]) (by kernel_rfl) (gc (q_ltF h0) gn)
def eqn_S0(a:List (List Int))(b:List (List Int))(i:Nat):St:=⟨fr 26 [(0,(.p (.sl a.length (a.flatten.map intP)))),(1,(.p (.sl b.length (b.flatten.map intP)))),(12,(.p (intP (a.length:Int)))),(13,(.p (intP (i:Int))))],[]⟩
theorem eqn_p0{a b:List (List Int)}(h0:(a.length:Int)≠(b.length:Int)){base:Nat}:FV Tryz.prog 87 [(.p (.sl a.length (a.flatten.map intP))),(.p (.sl b.length (b.flatten.map intP)))] base (.p (blP false)) []:=by
  exact FV.fin Tryz.func87 rfl (o:=[bT]) (l:=[_]) (by kernel_rfl) (gc (q_neT h0) gn)
theorem eqn_p1{a b:List (List Int)}{i'0:Nat}(h0:(a.length:Int)=(b.length:Int))(hl1:LoopOK Tryz.prog 0 zL5c2 (eqn_S0 a b 0) (.exit 0) (eqn_S0 a b i'0)){base:Nat}:FV Tryz.prog 87 [(.p (.sl a.length (a.flatten.map intP))),(.p (.sl b.length (b.flatten.map intP)))] base (.p (blP true)) []:=by
  exact FV.fin Tryz.func87 rfl (o:=[bF,.k 4 ⟨(rng [(2,10),(14,12)]),[],[],[]⟩ (.exit 0) (eqn_S0 a b i'0)]) (l:=[_,_]) (by kernel_rfl) (gc hl1.code (gc (q_neF h0) gn))
theorem eqn_p2{a b:List (List Int)}{i'0:Nat}(h0:(a.length:Int)=(b.length:Int))(hl1:LoopOK Tryz.prog 0 zL5c2 (eqn_S0 a b 0) .ret (setS (eqn_S0 a b i'0) [(4,(.kb false))])){base:Nat}:FV Tryz.prog 87 [(.p (.sl a.length (a.flatten.map intP))),(.p (.sl b.length (b.flatten.map intP)))] base (.p (blP false)) []:=by
  exact FV.fin Tryz.func87 rfl (o:=[bF,.k 4 ⟨(rng [(2,10),(14,12)]),[],[],[]⟩ .ret (setS (eqn_S0 a b i'0) [(4,(.kb false))])]) (l:=[_,_]) (by kernel_rfl) (gc hl1.code (gc (q_neF h0) gn))
theorem eqn_L0_p0{a b:List (List Int)}{i:Nat}{y100 y101 y102 y103 y104 y105 y106 y107:Int}(h0:(i:Int)<(a.length:Int))(h1:a[i]? = some [y100,y101,y102,y103])(h2:uni 4 a)(h3:b[i]? = some [y104,y105,y106,y107])(h4:uni 4 b)(h5:intsOK [(intP y100),(intP y101),(intP y102),(intP y103)] [(0,3,true),(1,3,true),(2,3,true),(3,3,true)]=true∧intsOK [(intP y104),(intP y105),(intP y106),(intP y107)] [(0,3,true),(1,3,true),(2,3,true),(3,3,true)]=true)(h6:(eqFs [(intP y100),(intP y101),(intP y102),(intP y103)] [(intP y104),(intP y105),(intP y106),(intP y107)] [(0,3,true),(1,3,true),(2,3,true),(3,3,true)])=false):CodeOK Tryz.prog 0 zL5c2 (eqn_S0 a b i) .ret (setS (eqn_S0 a b i) [(4,(.kb false))]):=by
  exact CodeOK.fin (g:=⟨(rng [(2,2),(5,7),(14,12)]),[],[],[]⟩) (o:=[bT,.x (.agg [(intP y100),(intP y101),(intP y102),(intP y103)]),.x (.agg [(intP y104),(intP y105),(intP y106),(intP y107)]),bT]) (l:=[_,_,_,_,0≤(i:Int)∧(i:Int)<(b.length:Int)∧(i*4)<(b.flatten.map intP).length,_,_,0≤(i:Int)∧(i:Int)<(a.length:Int)∧(i*4)<(a.flatten.map intP).length,_]) (by kernel_rfl) (gc (q_not h6) (gc h5 (gc (fl_load (i:=i) h4 h3) (gc (fl_le (i:=i) h4 h3) (gc (ix_fl (k:=4) (i:=(i:Int)) (by decide) h4 (Int.natCast_nonneg _) h3) (gc (fl_load (i:=i) h2 h1) (gc (fl_le (i:=i) h2 h1) (gc (ix_fl (k:=4) (i:=(i:Int)) (by decide) h2 (Int.natCast_nonneg _) h1) (gc (q_lt h0) gn)))))))))
theorem eqn_L0_p1{a b:List (List Int)}{i:Nat}{y100 y101 y102 y103 y104 y105 y106 y107:Int}{i':Nat}(h0:(i:Int)<(a.length:Int))(h1:a[i]? = some [y100,y101,y102,y103])(h2:uni 4 a)(h3:b[i]? = some [y104,y105,y106,y107])(h4:uni 4 b)(h5:intsOK [(intP y100),(intP y101),(intP y102),(intP y103)] [(0,3,true),(1,3,true),(2,3,true),(3,3,true)]=true∧intsOK [(intP y104),(intP y105),(intP y106),(intP y107)] [(0,3,true),(1,3,true),(2,3,true),(3,3,true)]=true)(h6:(eqFs [(intP y100),(intP y101),(intP y102),(intP y103)] [(intP y104),(intP y105),(intP y106),(intP y107)] [(0,3,true),(1,3,true),(2,3,true),(3,3,true)])=true)(h7:inR (((i+1):Nat):Int))(ei':i'=(i+1)):CodeOK Tryz.prog 0 zL5c2 (eqn_S0 a b i) .normal (eqn_S0 a b i'):=by
  subst ei'
  exact CodeOK.fin (g:=⟨(rng [(2,10),(14,12)]),[],[],[]⟩) (o:=[bT,.x (.agg [(intP y100),(intP y101),(intP y102),(intP y103)]),.x (.agg [(intP y104),(intP y105),(intP y106),(intP y107)]),bF]) (l:=[_,_,_,_,_,0≤(i:Int)∧(i:Int)<(b.length:Int)∧(i*4)<(b.flatten.map intP).length,_,_,0≤(i:Int)∧(i:Int)<(a.length:Int)∧(i*4)<(a.flatten.map intP).length,_]) (by kernel_rfl) (gc h7 (gc (q_notF h6) (gc h5 (gc (fl_load (i:=i) h4 h3) (gc (fl_le (i:=i) h4 h3) (gc (ix_fl (k:=4) (i:=(i:Int)) (by decide) h4 (Int.natCast_nonneg _) h3) (gc (fl_load (i:=i) h2 h1) (gc (fl_le (i:=i) h2 h1) (gc (ix_fl (k:=4) (i:=(i:Int)) (by decide) h2 (Int.natCast_nonneg _) h1) (gc (q_lt h0) gn))))))))))
theorem eqn_L0_p2{a b:List (List Int)}{i:Nat}(h0:(a.length:Int)≤(i:Int)):CodeOK Tryz.prog 0 zL5c2 (eqn_S0 a b i) (.exit 0) (eqn_S0 a b i):=by
  exact CodeOK.fin (g:=⟨(rng [(2,10),(14,12)]),[],[],[]⟩) (o:=[bF]) (l:=[_]) (by kernel_rfl) (gc (q_ltF h0) gn)
theorem eqi_ok(a b:List Int)(ha:a.length≤100000){base:Nat}:FV Tryz.prog 25 [.p (intsP a),.p (intsP b)] base (.p (blP (decide (a=b)))) []:=by
  by_cases hl:a.length=b.length
  · have at':∀ (l:List Int) (j:Nat),j<l.length→l[j]? = some (l.getD j 0):=fun l j hj=>by
      rw [List.getElem?_eq_getElem hj,List.getD_eq_getElem?_getD,List.getElem?_eq_getElem hj];rfl
    rcases LoopOK.find (P:=Tryz.prog) (k:=0) (b:=zL5c0) (fun i=>eqi_S0 a b i) (fun i _=>setS (eqi_S0 a b i) [(4,.kb false)]) (eqi_S0 a b a.length) .ret (.exit 0) (by simp) (by simp) (fun j=>decide (a.getD j 0≠b.getD j 0)) (List.range a.length)
      (fun i x hx hp=>by
        obtain ⟨rfl,hi⟩:=range_at hx
        exact eqi_L0_p1 (by omega) (at' a x hi) (at' b x (by omega)) (by simpa using hp) (inR_nat (by omega)) rfl)
      (fun i x hx hp=>by
        obtain ⟨rfl,hi⟩:=range_at hx
        exact eqi_L0_p0 (by omega) (at' a x hi) (at' b x (by omega)) (by simpa using hp))
      (by rw [List.length_range];exact eqi_L0_p2 (by omega)) with ⟨i,x,h1,h2,h3,h4⟩ | ⟨h1,h2,h3⟩
    · have hne:a≠b:=fun e=>by subst e;simp at h3
      rw [decide_eq_false hne]
      exact eqi_p2 (by omega) h4
    · have he:a=b:=by
        refine List.ext_getElem hl fun j h5 h6 => ?_
        have h7:=List.any_eq_false.1 h2 j (List.mem_range.2 h5)
        have h8:a.getD j 0=b.getD j 0:=by simpa using h7
        rw [List.getD_eq_getElem?_getD,List.getD_eq_getElem?_getD,List.getElem?_eq_getElem h5,List.getElem?_eq_getElem h6] at h8
        exact h8
      rw [decide_eq_true he]
      exact eqi_p1 (by omega) h3
  · have hne:a≠b:=fun e=>hl (by rw [e])
    rw [decide_eq_false hne]
    exact eqi_p0 (by omega)
theorem eqFs4(y0 y1 y2 y3 z0 z1 z2 z3:Int):eqFs [intP y0,intP y1,intP y2,intP y3] [intP z0,intP z1,intP z2,intP z3] [(0,3,true),(1,3,true),(2,3,true),(3,3,true)]=decide ([y0,y1,y2,y3]=[z0,z1,z2,z3]):=by
  rw [Bool.eq_iff_iff]
  simp [eqFs,intC,intP]
theorem eql_ok(a b:List (List Int))(ha:a.length≤100000)(ua:uni 4 a)(ub:uni 4 b){base:Nat}:FV Tryz.prog 39 [.p (.sl a.length (a.flatten.map intP)),.p (.sl b.length (b.flatten.map intP))] base (.p (blP (decide (a=b)))) []:=by
  by_cases hl:a.length=b.length
  · have at':∀ (l:List (List Int)) (j:Nat),uni 4 l→j<l.length→∃ y0 y1 y2 y3,l[j]? = some [y0,y1,y2,y3]∧l.getD j []=[y0,y1,y2,y3]:=fun l j hu hj=>by
      have h:=hu l[j] (List.getElem_mem hj)
      match e:l[j],h with
      | [y0,y1,y2,y3],_=>exact ⟨y0,y1,y2,y3,by rw [List.getElem?_eq_getElem hj,e],by rw [List.getD_eq_getElem?_getD,List.getElem?_eq_getElem hj,e];rfl⟩
    rcases LoopOK.find (P:=Tryz.prog) (k:=0) (b:=zL5c1) (fun i=>eql_S0 a b i) (fun i _=>setS (eql_S0 a b i) [(4,.kb false)]) (eql_S0 a b a.length) .ret (.exit 0) (by simp) (by simp) (fun j=>decide (a.getD j []≠b.getD j [])) (List.range a.length)
      (fun i x hx hp=>by
        obtain ⟨rfl,hi⟩:=range_at hx
        obtain ⟨y0,y1,y2,y3,e1,e2⟩:=at' a x ua hi
        obtain ⟨z0,z1,z2,z3,e3,e4⟩:=at' b x ub (by omega)
        rw [e2,e4] at hp
        exact eql_L0_p1 (by omega) e1 ua e3 ub ⟨rfl,rfl⟩ (by rw [eqFs4];simpa using hp) (inR_nat (by omega)) rfl)
      (fun i x hx hp=>by
        obtain ⟨rfl,hi⟩:=range_at hx
        obtain ⟨y0,y1,y2,y3,e1,e2⟩:=at' a x ua hi
        obtain ⟨z0,z1,z2,z3,e3,e4⟩:=at' b x ub (by omega)
        rw [e2,e4] at hp
        exact eql_L0_p0 (by omega) e1 ua e3 ub ⟨rfl,rfl⟩ (by rw [eqFs4];exact decide_eq_false (of_decide_eq_true hp)))
      (by rw [List.length_range];exact eql_L0_p2 (by omega)) with ⟨i,x,h1,h2,h3,h4⟩ | ⟨h1,h2,h3⟩
    · have hne:a≠b:=fun e=>by subst e;simp at h3
      rw [decide_eq_false hne]
      exact eql_p2 (by omega) h4
    · have he:a=b:=by
        refine List.ext_getElem hl fun j h5 h6 => ?_
        have h7:=List.any_eq_false.1 h2 j (List.mem_range.2 h5)
        have h8:a.getD j []=b.getD j []:=by simpa using h7
        rw [List.getD_eq_getElem?_getD,List.getD_eq_getElem?_getD,List.getElem?_eq_getElem h5,List.getElem?_eq_getElem h6] at h8
        exact h8
      rw [decide_eq_true he]
      exact eql_p1 (by omega) h3
  · have hne:a≠b:=fun e=>hl (by rw [e])
    rw [decide_eq_false hne]
    exact eql_p0 (by omega)
theorem eqn_ok(a b:List (List Int))(ha:a.length≤100000)(ua:uni 4 a)(ub:uni 4 b){base:Nat}:FV Tryz.prog 87 [.p (.sl a.length (a.flatten.map intP)),.p (.sl b.length (b.flatten.map intP))] base (.p (blP (decide (a=b)))) []:=by
  by_cases hl:a.length=b.length
  · have at':∀ (l:List (List Int)) (j:Nat),uni 4 l→j<l.length→∃ y0 y1 y2 y3,l[j]? = some [y0,y1,y2,y3]∧l.getD j []=[y0,y1,y2,y3]:=fun l j hu hj=>by
      have h:=hu l[j] (List.getElem_mem hj)
      match e:l[j],h with
      | [y0,y1,y2,y3],_=>exact ⟨y0,y1,y2,y3,by rw [List.getElem?_eq_getElem hj,e],by rw [List.getD_eq_getElem?_getD,List.getElem?_eq_getElem hj,e];rfl⟩
    rcases LoopOK.find (P:=Tryz.prog) (k:=0) (b:=zL5c2) (fun i=>eqn_S0 a b i) (fun i _=>setS (eqn_S0 a b i) [(4,.kb false)]) (eqn_S0 a b a.length) .ret (.exit 0) (by simp) (by simp) (fun j=>decide (a.getD j []≠b.getD j [])) (List.range a.length)
      (fun i x hx hp=>by
        obtain ⟨rfl,hi⟩:=range_at hx
        obtain ⟨y0,y1,y2,y3,e1,e2⟩:=at' a x ua hi
        obtain ⟨z0,z1,z2,z3,e3,e4⟩:=at' b x ub (by omega)
        rw [e2,e4] at hp
        exact eqn_L0_p1 (by omega) e1 ua e3 ub ⟨rfl,rfl⟩ (by rw [eqFs4];simpa using hp) (inR_nat (by omega)) rfl)
      (fun i x hx hp=>by
        obtain ⟨rfl,hi⟩:=range_at hx
        obtain ⟨y0,y1,y2,y3,e1,e2⟩:=at' a x ua hi
        obtain ⟨z0,z1,z2,z3,e3,e4⟩:=at' b x ub (by omega)
        rw [e2,e4] at hp
        exact eqn_L0_p0 (by omega) e1 ua e3 ub ⟨rfl,rfl⟩ (by rw [eqFs4];exact decide_eq_false (of_decide_eq_true hp)))
      (by rw [List.length_range];exact eqn_L0_p2 (by omega)) with ⟨i,x,h1,h2,h3,h4⟩ | ⟨h1,h2,h3⟩
    · have hne:a≠b:=fun e=>by subst e;simp at h3
      rw [decide_eq_false hne]
      exact eqn_p2 (by omega) h4
    · have he:a=b:=by
        refine List.ext_getElem hl fun j h5 h6 => ?_
        have h7:=List.any_eq_false.1 h2 j (List.mem_range.2 h5)
        have h8:a.getD j []=b.getD j []:=by simpa using h7
        rw [List.getD_eq_getElem?_getD,List.getD_eq_getElem?_getD,List.getElem?_eq_getElem h5,List.getElem?_eq_getElem h6] at h8
        exact h8
      rw [decide_eq_true he]
      exact eqn_p1 (by omega) h3
  · have hne:a≠b:=fun e=>hl (by rw [e])
    rw [decide_eq_false hne]
    exact eqn_p0 (by omega)
end
end KV
end Go.Proofs
section
namespace Go.Proofs
open Go.RowKit
namespace KL
theorem falls2_any(W:World)(x y:Int):Calls Tryz.prog 96 #[.int .i64 x,.int .i64 y] W fun e w'=>e = .returned (.int .i64 (cmpDown x y))∧W=w':=by
  go_enter Tryz.func96,Tryz.ntmps96
  go_wp2_with (go_at_call 97;refine (compare_any _ _ _).mono ?_;rintro e w' ⟨rfl,rfl⟩)
  go_ret
  exact ⟨rfl,rfl⟩
def downI(l:List Int):List Int:=isort (ltC cmpDown) l
theorem insD_own(base:Nat)(v:Value)(l:List Int)(w:World)(hv:OwnI w base v l)(hlen:l.length≤1000)(h1:1≤l.length) :
    Calls Tryz.prog 175 #[v,.int .i64 0,.int .i64 l.length,.func (.func 96) #[] #[]] w fun e w'=>e = .returned (.tuple #[])∧OwnI w' base v (downI l)∧w.grownBy w' v.ownBlock:=by
  have hv0:=hv
  rcases hv.2 with ⟨rfl,h0⟩ | ⟨gb,cap,cur,rfl,hb,hg,hnc,hcm,hs,ht⟩
  · omega
  · refine (insertion_ints base 3 gb l.length cap l 96 #[] cmpDown w hv0 hlen ⟨enters_of Tryz.func96 (by kernel_rfl) rfl,fun W x y _ _ _ => ?_⟩).mono ?_
    · refine (falls2_any W x y).mono ?_
      rintro e w' ⟨rfl,rfl⟩
      exact ⟨rfl,Below.refl _ _⟩
    · rintro e w' ⟨rfl,h,hg⟩
      refine ⟨rfl,?_,hg⟩
      unfold OwnI downI
      rw [isort_length]
      exact h
end KL
namespace KV
open KL
theorem insD_ok(l:List Int)(k:Int)(hk:k=(l.length:Nat))(hl:l.length≤1000)(h1:1≤l.length):FMM Tryz.prog 175 [.own 0,.p (intP 0),.p (intP k),.fn 96 [] []] [some (rowI l)] (.tup []) [some (rowI (downI l))]:=fun C w us hus hM n=>by
  subst hk
  cases hus with
  | cons _ u _ us hu h2 =>
    cases h2 with
    | cons _ u2 _ us h3 h2 =>
      obtain ⟨u3,v,rfl,h4,h5⟩:=repL_two h2
      obtain rfl:=rep_fn h5
      cases h3 with
      | p _ _ h3 =>
        cases h3
        cases h4 with
        | p _ _ h4 =>
          cases h4
          refine (callsIn_wide.2 (insD_own 0 u l w (own_in hM rfl hu) hl h1)).mono ?_
          rintro e w' ⟨rfl,h1,h2⟩
          obtain ⟨C',f,m,_⟩:=row_after (d:=false) hM hu h1 h2 rfl (fun _=>⟨rfl,isort_length _ _⟩)
          exact ⟨_,rfl,C',f,m,.tup [] #[] rfl (fun i h=>by simp at h)⟩
theorem u64_bd(z:Int):0≤IntKind.wrap .u64 z∧IntKind.wrap .u64 z≤18446744073709551615:=by
  unfold IntKind.wrap
  simp only [IntKind.bits,IntKind.signed,Bool.false_and,Bool.false_eq_true,if_false]
  omega
theorem bitsLen_ok(n:Int){base:Nat}:FV Tryz.prog 140 [.p (.v (.int .u64 (IntKind.wrap .u64 n)))] base (.p (intP (Lib.bitLen (IntKind.wrap .u64 n).toNat))) [] :=
  FV.of_ret (fun _ _ => .v _) rfl fun C w us hus=>by
    obtain ⟨u,rfl,hu⟩:=repL_one hus
    cases hu with
    | p _ _ h =>
      cases h
      refine (Tryz.bits_Len _ w (u64_bd n).1 (u64_bd n).2).mono ?_
      rintro e w' ⟨rfl,rfl⟩
      exact ⟨rfl,Below.refl _ _⟩
theorem falls_ok(l:List Int)(hl:l.length≤1000){base:Nat}:FV Tryz.prog 93 [.p (intsP l)] base (.p (blP (fallsB l))) [] :=
  FV.of_ret (fun _ _ => .v _) rfl fun C w us hus=>by
    obtain ⟨u,rfl,hu⟩:=repL_one hus
    cases hu with
    | p _ _ h=>exact falls_any u l w (ints_of h) hl
end KV
end Go.Proofs
end
namespace Go.Proofs
namespace KV
section
open KL
noncomputable abbrev zN0c0:Code:=sub (cd Tryz.f22) [1,1,1,1,1,1,1,0,1,0,0]
noncomputable abbrev zN0c1:Code:=sub (cd Tryz.f22) [1,1,1,1,1,1,1,0,1,0,0,1,1,0,0,1,0,1,0,0]
def pdq_S0(l:List Int)(lim:Int)(dn:Nat)(dc:List PV):St:=⟨fr 148 [(0,(.own 0)),(1,(.p (intP 0))),(2,(.p (intP (l.length:Int)))),(3,(.p (intP lim))),(4,(.fn 96 [] [])),(10,(.kb true)),(11,(.kb true))],[some (.row 3 dn dc)]⟩
theorem pdq_p0{l:List Int}{lim:Int}{d'0:List Int}(hl0:LoopOK Tryz.prog 1 (sub (cd Tryz.f144) [1,1,0,0]) (pdq_S0 l lim l.length (l.map intP)) .ret (pdq_S0 l lim d'0.length (d'0.map intP))):FMM Tryz.prog 144 [(.own 0),(.p (intP 0)),(.p (intP (l.length:Int))),(.p (intP lim)),(.fn 96 [] [])] [some (.row 3 l.length (l.map intP))] (.tup []) [some (.row 3 d'0.length (d'0.map intP))]:=by
  exact FMM.fin (k:=1) (g:=⟨[],[],[],[]⟩) rfl Tryz.func144 rfl (o:=[.k 5 ⟨(rng [(5,5),(12,136)]),[],[],[]⟩ .ret (pdq_S0 l lim d'0.length (d'0.map intP))]) (l:=[_]) (by kernel_rfl) (gc hl0.code gn)
theorem pdq_L0_p0{l:List Int}{lim:Int}{d d':List Int}(h0:inR ((l.length:Int)-(0:Int)))(h1:((l.length:Int)-(0:Int))≤(12:Int))(h2:(l.length:Int)=(d.length:Nat))(h3:d.length≤1000)(h4:1≤d.length)(ed'n:d'.length=(downI d).length)(ed'c:d'.map intP=((downI d).map intP)):CodeOK Tryz.prog 1 (sub (cd Tryz.f144) [1,1,0,0]) (pdq_S0 l lim d.length (d.map intP)) .ret (pdq_S0 l lim d'.length (d'.map intP)):=by
  have raw:CodeOK Tryz.prog 1 (sub (cd Tryz.f144) [1,1,0,0]) (pdq_S0 l lim d.length (d.map intP)) .ret (pdq_S0 l lim ((downI d).length) ((downI d).map intP)):=CodeOK.fin (g:=⟨(rng [(5,5),(12,136)]),[],[],[]⟩) (o:=[bT,.c (.tup []) [(0,(.row 3 ((downI d).length) ((downI d).map intP)))]]) (l:=[FC Tryz.prog 175 [(.own 0),(.p (intP 0)),(.p (intP (l.length:Int))),(.fn 96 [] [])] [(0,(.row 3 d.length (d.map intP)))] 1 (.tup []) [(0,(.row 3 ((downI d).length) ((downI d).map intP)))],_,_]) (by kernel_rfl) (gc (FMM.fc (ids:=[0]) (insD_ok d (l.length:Int) h2 h3 h4) (by kernel_rfl)) (gc (q_le h1) (gc h0 gn)))
  exact raw.cast (by rw [ed'n,ed'c])
theorem pdq_ok(l:List Int)(lim:Int)(hl:l.length≤12)(h1:1≤l.length):FMM Tryz.prog 144 [.own 0,.p (intP 0),.p (intP (l.length:Nat)),.p (intP lim),.fn 96 [] []] [some (rowI l)] (.tup []) [some (rowI (downI l))] :=
  pdq_p0 (.exit (pdq_L0_p0 (d:=l) (d':=downI l) (by unfold inR;omega) (by omega) rfl (by omega) h1 rfl rfl) (by simp))
theorem sfn_p0{l:List Int}(h0:l.length≤12)(h1:1≤l.length):FMM Tryz.prog 95 [(.own 0),(.fn 96 [] [])] [some (.row 3 l.length (l.map intP))] (.tup []) [some (.row 3 ((downI l).length) ((downI l).map intP))]:=by
  exact FMM.fin (k:=1) (g:=⟨[],[],[],[]⟩) rfl Tryz.func95 rfl (o:=[.c (.p (intP (Lib.bitLen ((IntKind.wrap .u64 (l.length:Int))).toNat:Int))) [],.c (.tup []) [(0,(.row 3 ((downI l).length) ((downI l).map intP)))]]) (l:=[FC Tryz.prog 144 [(.own 0),(.p (intP 0)),(.p (intP (l.length:Int))),(.p (intP (Lib.bitLen ((IntKind.wrap .u64 (l.length:Int))).toNat:Int))),(.fn 96 [] [])] [(0,(.row 3 l.length (l.map intP)))] 1 (.tup []) [(0,(.row 3 ((downI l).length) ((downI l).map intP)))],_]) (by kernel_rfl) (gc (FMM.fc (ids:=[0]) (pdq_ok l (Lib.bitLen ((IntKind.wrap .u64 (l.length:Int))).toNat:Int) h0 h1) (by kernel_rfl)) (gc (fk 1 (bitsLen_ok (l.length:Int)) rfl) gn))
theorem nat_p7{c:Cup}{ns:List Int}{mo:Int}{qs:List Int}{o0:PV}{e1:Int}(h0:KL.Small c)(h1:(checkP c)=(0:Int))(h2:(ns.length:Int)=c.sk)(h3:(within (qs.length:Int) (1:Int) (31:Int))=true)(h4:small ns.length)(h5:(ns.all fun x=>within x 0 30)=true)(h6:(within mo (1:Int) (12:Int))=true)(h7:small qs.length)(h8:(qs.all fun x=>within x 0 20)=true)(h9:qs.length≤1000)(h10:(KL.fallsB qs)=true)(hl11:CodeOK Tryz.prog 0 (sub (cd Tryz.f22) [1,1,1]) ⟨fr 161 [(1,(.p (intsP ns))),(2,(.p (intP mo))),(3,(.p (intsP qs))),(10,(.ptr 0 0))],[some (.box 120 [(.p (intP c.sk)),(.p (intP c.ra)),(.p (intP c.be)),(.p (intsP c.pts)),(.p (rowsP c.done))])]⟩ .ret ⟨fr 161 [(8,(.p o0)),(9,(.p (intP e1)))],[]⟩){base:Nat}:FV Tryz.prog 22 [(.p (cupP c)),(.p (intsP ns)),(.p (intP mo)),(.p (intsP qs))] base (.tup [(.p o0),(.p (intP e1))]) []:=by
  exact FV.fin Tryz.func22 rfl (o:=[.c (.tup [(.p (cupP c)),(.p (intP (checkP c)))]) [],bF,bF,bF,bF,.c (.p (blP (within (qs.length:Int) (1:Int) (31:Int)))) [],bF,bF,bF,.c (.p (blP (ns.all fun x=>within x 0 30))) [],bF,bF,.c (.p (blP (within mo (1:Int) (12:Int)))) [],bF,bF,bF,bF,.c (.p (blP (qs.all fun x=>within x 0 20))) [],bF,bF,bF,.c (.p (blP (KL.fallsB qs))) [],bF,.k 0 ⟨(rng [(0,1),(4,6),(11,150)]),[1],[],[]⟩ .ret ⟨fr 161 [(8,(.p o0)),(9,(.p (intP e1)))],[]⟩]) (l:=[CodeOK Tryz.prog 0 (sub (cd Tryz.f22) [1,1,1]) ⟨fr 161 [(1,(.p (intsP ns))),(2,(.p (intP mo))),(3,(.p (intsP qs))),(10,(.ptr 0 0))],[some (.box 120 [(.p (intP c.sk)),(.p (intP c.ra)),(.p (intP c.be)),(.p (intsP c.pts)),(.p (rowsP c.done))])]⟩ .ret ⟨fr 161 [(8,(.p o0)),(9,(.p (intP e1)))],[]⟩,_,_,_,_,_,_,_,_,_,_,_,_,_,_,_,_,_,_,_,_,_,_,_]) (by kernel_rfl) (gc hl11 (gc (q_notF h10) (gc (fk 2 (falls_ok qs h9) rfl) (gc (q_notF h8) (gc (q_notF h6) (gc (q_notF h6) (gc (fk 2 (all92_ok qs h7) rfl) (gc (q_notF h6) (gc (q_notF h6) (gc (q_notF h5) (gc (q_notF h5) (gc (fk 2 (within_ok mo (1:Int) (12:Int)) rfl) (gc (q_notF h5) (gc (q_notF h5) (gc (fk 2 (all91_ok ns h4) rfl) (gc (q_notF h3) (gc (q_neF h2) (gc (q_neF h2) (gc (fk 2 (within_ok (qs.length:Int) (1:Int) (31:Int)) rfl) (gc (q_neF h2) (gc (q_neF h2) (gc (q_neF h2) (gc (q_neF h1) (gc (fk 1 (asked_ok c h0) rfl) gn))))))))))))))))))))))))
theorem n11_p0{c:Cup}{ns:List Int}{mo:Int}{qs:List Int}{mv:PV}(h0:KL.Valid c):CodeOK Tryz.prog 0 (sub (cd Tryz.f22) [1,1,1,1,0,0]) ⟨fr 161 [(1,(.p (intsP ns))),(2,(.p (intP mo))),(3,(.p (intsP qs))),(10,(.ptr 0 0)),(12,(.p mv))],[some (.box 120 [(.p (intP c.sk)),(.p (intP c.ra)),(.p (intP c.be)),(.p (intsP c.pts)),(.p (rowsP c.done))])]⟩ .normal ⟨fr 161 [(1,(.p (intsP ns))),(2,(.p (intP mo))),(3,(.p (intsP qs))),(12,(.p mv)),(63,(.p (intsP (totalsM c)))),(64,(.p (intP (((totalsM c).length:Nat):Int)))),(65,(.p (intP 0)))],[]⟩:=by
  exact CodeOK.fin (g:=⟨(rng [(0,1),(4,8),(13,50),(66,95)]),[],[],[]⟩) (o:=[.c (.p (intsP (totalsM c))) []]) (l:=[_]) (by kernel_rfl) (gc (fk 1 (totals_ok c h0) rfl) gn)
theorem n12_p0{ns:List Int}{mo:Int}{qs:List Int}{mv:PV}{ts:List Int}{i:Nat}:CodeOK Tryz.prog 0 (sub (cd Tryz.f22) [1,1,1,1,0,1,0,0,0]) ⟨fr 161 [(1,(.p (intsP ns))),(2,(.p (intP mo))),(3,(.p (intsP qs))),(12,(.p mv)),(63,(.p (intsP ts))),(64,(.p (intP (ts.length:Int)))),(65,(.p (intP (i:Int))))],[]⟩ .normal ⟨fr 161 [(1,(.p (intsP ns))),(2,(.p (intP mo))),(3,(.p (intsP qs))),(12,(.p mv)),(63,(.p (intsP ts))),(64,(.p (intP (ts.length:Int)))),(65,(.p (intP (i:Int)))),(66,(.p (blP (decide ((i:Int)<(ts.length:Int))))))],[]⟩:=by
  exact CodeOK.fin (g:=⟨(rng [(0,1),(4,8),(13,50),(67,94)]),[],[],[]⟩) (o:=[]) (l:=[]) (by kernel_rfl) (gn)
theorem n12c_p0{ns:List Int}{mo:Int}{qs:List Int}{mv:PV}{ts:List Int}{i:Nat}(h0:(i:Int)<(ts.length:Int)):CodeOK Tryz.prog 0 (sub (cd Tryz.f22) [1,1,1,1,0,1,0,0,1,0]) ⟨fr 161 [(1,(.p (intsP ns))),(2,(.p (intP mo))),(3,(.p (intsP qs))),(12,(.p mv)),(63,(.p (intsP ts))),(64,(.p (intP (ts.length:Int)))),(65,(.p (intP (i:Int)))),(66,(.p (blP (decide ((i:Int)<(ts.length:Int))))))],[]⟩ .normal ⟨fr 161 [(1,(.p (intsP ns))),(2,(.p (intP mo))),(3,(.p (intsP qs))),(12,(.p mv)),(63,(.p (intsP ts))),(64,(.p (intP (ts.length:Int)))),(65,(.p (intP (i:Int))))],[]⟩:=by
  exact CodeOK.fin (g:=⟨(rng [(0,1),(4,8),(13,50),(66,95)]),[],[],[]⟩) (o:=[bT]) (l:=[_]) (by kernel_rfl) (gc (q_lt h0) gn)
theorem n12c_p1{ns:List Int}{mo:Int}{qs:List Int}{mv:PV}{ts:List Int}{i:Nat}(h0:(ts.length:Int)≤(i:Int)):CodeOK Tryz.prog 0 (sub (cd Tryz.f22) [1,1,1,1,0,1,0,0,1,0]) ⟨fr 161 [(1,(.p (intsP ns))),(2,(.p (intP mo))),(3,(.p (intsP qs))),(12,(.p mv)),(63,(.p (intsP ts))),(64,(.p (intP (ts.length:Int)))),(65,(.p (intP (i:Int)))),(66,(.p (blP (decide ((i:Int)<(ts.length:Int))))))],[]⟩ (.exit 1) ⟨fr 161 [(1,(.p (intsP ns))),(2,(.p (intP mo))),(3,(.p (intsP qs))),(12,(.p mv)),(63,(.p (intsP ts))),(64,(.p (intP (ts.length:Int)))),(65,(.p (intP (i:Int))))],[]⟩:=by
  exact CodeOK.fin (g:=⟨(rng [(0,1),(4,8),(13,50),(66,95)]),[],[],[]⟩) (o:=[bF]) (l:=[_]) (by kernel_rfl) (gc (q_ltF h0) gn)
theorem n13_p0{ns:List Int}{mo:Int}{qs:List Int}{mv:PV}{ts:List Int}{i:Nat}{x0:Int}(h0:ts[i]? = some x0):CodeOK Tryz.prog 0 (sub (cd Tryz.f22) [1,1,1,1,0,1,0,0,1,1,0,0,0]) ⟨fr 161 [(1,(.p (intsP ns))),(2,(.p (intP mo))),(3,(.p (intsP qs))),(12,(.p mv)),(63,(.p (intsP ts))),(64,(.p (intP (ts.length:Int)))),(65,(.p (intP (i:Int))))],[]⟩ .normal ⟨fr 161 [(1,(.p (intsP ns))),(2,(.p (intP mo))),(3,(.p (intsP qs))),(12,(.p mv)),(13,(.p (intP (i:Int)))),(14,(.p (intP x0))),(63,(.p (intsP ts))),(64,(.p (intP (ts.length:Int)))),(65,(.p (intP (i:Int))))],[]⟩:=by
  exact CodeOK.fin (g:=⟨(rng [(0,1),(4,8),(15,48),(66,95)]),[],[],[]⟩) (o:=[.x (intP x0)]) (l:=[_,_]) (by kernel_rfl) (gc (atm intP h0) (gc (ixn intP h0) gn))
theorem n15_p0{ns:List Int}{mo:Int}{qs:List Int}{mv:PV}{ts:List Int}{i:Nat}{x:Int}(h0:inR (((i+1):Nat):Int)):CodeOK Tryz.prog 0 (sub (cd Tryz.f22) [1,1,1,1,0,1,0,0,1,1,1]) ⟨fr 161 [(1,(.p (intsP ns))),(2,(.p (intP mo))),(3,(.p (intsP qs))),(12,(.p mv)),(13,(.p (intP (i:Int)))),(14,(.p (intP x))),(63,(.p (intsP ts))),(64,(.p (intP (ts.length:Int)))),(65,(.p (intP (i:Int))))],[]⟩ .normal ⟨fr 161 [(1,(.p (intsP ns))),(2,(.p (intP mo))),(3,(.p (intsP qs))),(12,(.p mv)),(63,(.p (intsP ts))),(64,(.p (intP (ts.length:Int)))),(65,(.p (intP (((i+1):Nat):Int))))],[]⟩:=by
  exact CodeOK.fin (g:=⟨(rng [(0,1),(4,8),(13,50),(66,95)]),[],[],[]⟩) (o:=[]) (l:=[_]) (by kernel_rfl) (gc h0 gn)
theorem n16_p0{ns:List Int}{mo:Int}{qs:List Int}{mv:PV}{ts:List Int}{i:Nat}:CodeOK Tryz.prog 0 (sub (cd Tryz.f22) [1,1,1,1,1,0]) ⟨fr 161 [(1,(.p (intsP ns))),(2,(.p (intP mo))),(3,(.p (intsP qs))),(12,(.p mv)),(63,(.p (intsP ts))),(64,(.p (intP (ts.length:Int)))),(65,(.p (intP (i:Int))))],[]⟩ .normal ⟨fr 161 [(1,(.p (intsP ns))),(2,(.p (intP mo))),(3,(.p (intsP qs))),(12,(.p mv)),(15,(.p nilS))],[]⟩:=by
  exact CodeOK.fin (g:=⟨(rng [(0,1),(4,8),(13,2),(16,145)]),[],[],[]⟩) (o:=[]) (l:=[]) (by kernel_rfl) (gn)
theorem n17_p0{ns:List Int}{mo:Int}{qs:List Int}{mv:PV}:CodeOK Tryz.prog 0 (sub (cd Tryz.f22) [1,1,1,1,1,1,0,0]) ⟨fr 161 [(1,(.p (intsP ns))),(2,(.p (intP mo))),(3,(.p (intsP qs))),(12,(.p mv)),(15,(.p nilS))],[]⟩ .normal ⟨fr 161 [(1,(.p (intsP ns))),(2,(.p (intP mo))),(3,(.p (intsP qs))),(12,(.p mv)),(15,(.own 0)),(85,(.p (intP 0)))],[some (.row 40 0 [])]⟩:=by
  exact CodeOK.fin (g:=⟨(rng [(0,1),(4,8),(13,2),(16,69),(86,75)]),[0],[],[(15,40)]⟩) (o:=[]) (l:=[]) (by kernel_rfl) (gn)
theorem n18_p0{ns:List Int}{mo:Int}{qs:List Int}{mv:PV}{n:Nat}{o:List (List Int)}:CodeOK Tryz.prog 0 (sub (cd Tryz.f22) [1,1,1,1,1,1,0,1,0,0,0]) ⟨fr 161 [(1,(.p (intsP ns))),(2,(.p (intP mo))),(3,(.p (intsP qs))),(12,(.p mv)),(15,(.own 0)),(85,(.p (intP (n:Int))))],[some (.row 40 o.length (o.flatten.map intP))]⟩ .normal ⟨fr 161 [(1,(.p (intsP ns))),(2,(.p (intP mo))),(3,(.p (intsP qs))),(12,(.p mv)),(15,(.own 0)),(85,(.p (intP (n:Int)))),(86,(.p (blP (decide ((n:Int)<(31:Int))))))],[some (.row 40 o.length (o.flatten.map intP))]⟩:=by
  exact CodeOK.fin (g:=⟨(rng [(0,1),(4,8),(13,2),(16,69),(87,74)]),[0],[],[]⟩) (o:=[]) (l:=[]) (by kernel_rfl) (gn)
theorem n18c_p0{ns:List Int}{mo:Int}{qs:List Int}{mv:PV}{n:Nat}{o:List (List Int)}(h0:(n:Int)<(31:Int)):CodeOK Tryz.prog 0 (sub (cd Tryz.f22) [1,1,1,1,1,1,0,1,0,0,1,0]) ⟨fr 161 [(1,(.p (intsP ns))),(2,(.p (intP mo))),(3,(.p (intsP qs))),(12,(.p mv)),(15,(.own 0)),(85,(.p (intP (n:Int)))),(86,(.p (blP (decide ((n:Int)<(31:Int))))))],[some (.row 40 o.length (o.flatten.map intP))]⟩ .normal ⟨fr 161 [(1,(.p (intsP ns))),(2,(.p (intP mo))),(3,(.p (intsP qs))),(12,(.p mv)),(15,(.own 0)),(85,(.p (intP (n:Int))))],[some (.row 40 o.length (o.flatten.map intP))]⟩:=by
  exact CodeOK.fin (g:=⟨(rng [(0,1),(4,8),(13,2),(16,69),(86,75)]),[0],[],[]⟩) (o:=[bT]) (l:=[_]) (by kernel_rfl) (gc (q_lt h0) gn)
theorem n18c_p1{ns:List Int}{mo:Int}{qs:List Int}{mv:PV}{n:Nat}{o:List (List Int)}(h0:(31:Int)≤(n:Int)):CodeOK Tryz.prog 0 (sub (cd Tryz.f22) [1,1,1,1,1,1,0,1,0,0,1,0]) ⟨fr 161 [(1,(.p (intsP ns))),(2,(.p (intP mo))),(3,(.p (intsP qs))),(12,(.p mv)),(15,(.own 0)),(85,(.p (intP (n:Int)))),(86,(.p (blP (decide ((n:Int)<(31:Int))))))],[some (.row 40 o.length (o.flatten.map intP))]⟩ (.exit 3) ⟨fr 161 [(1,(.p (intsP ns))),(2,(.p (intP mo))),(3,(.p (intsP qs))),(12,(.p mv)),(15,(.own 0)),(85,(.p (intP (n:Int))))],[some (.row 40 o.length (o.flatten.map intP))]⟩:=by
  exact CodeOK.fin (g:=⟨(rng [(0,1),(4,8),(13,2),(16,69),(86,75)]),[0],[],[]⟩) (o:=[bF]) (l:=[_]) (by kernel_rfl) (gc (q_ltF h0) gn)
theorem n19_p0{ns:List Int}{mo:Int}{qs:List Int}{mv:PV}{n:Nat}{o:List (List Int)}:CodeOK Tryz.prog 0 (sub (cd Tryz.f22) [1,1,1,1,1,1,0,1,0,0,1,1,0,0,0]) ⟨fr 161 [(1,(.p (intsP ns))),(2,(.p (intP mo))),(3,(.p (intsP qs))),(12,(.p mv)),(15,(.own 0)),(85,(.p (intP (n:Int))))],[some (.row 40 o.length (o.flatten.map intP))]⟩ .normal ⟨fr 161 [(1,(.p (intsP ns))),(2,(.p (intP mo))),(3,(.p (intsP qs))),(12,(.p mv)),(15,(.own 0)),(16,(.p (intP (n:Int)))),(85,(.p (intP (n:Int))))],[some (.row 40 o.length (o.flatten.map intP))]⟩:=by
  exact CodeOK.fin (g:=⟨(rng [(0,1),(4,8),(13,2),(17,68),(86,75)]),[0],[],[]⟩) (o:=[]) (l:=[]) (by kernel_rfl) (gn)
theorem n21n_p0{ns:List Int}{mo:Int}{qs:List Int}{mv:PV}{n:Nat}{o:List (List Int)}:CodeOK Tryz.prog 0 (sub (cd Tryz.f22) [1,1,1,1,1,1,0,1,0,0,1,1,0,0,1,1,0]) ⟨fr 161 [(1,(.p (intsP ns))),(2,(.p (intP mo))),(3,(.p (intsP qs))),(12,(.p mv)),(15,(.own 0)),(16,(.p (intP (n:Int)))),(17,(.p nilS)),(85,(.p (intP (n:Int))))],[some (.row 40 o.length (o.flatten.map intP))]⟩ (.exit 4) ⟨fr 161 [(1,(.p (intsP ns))),(2,(.p (intP mo))),(3,(.p (intsP qs))),(12,(.p mv)),(15,(.own 0)),(85,(.p (intP (n:Int))))],[some (.row 40 o.length (o.flatten.map intP))]⟩:=by
  exact CodeOK.fin (g:=⟨(rng [(0,1),(4,8),(13,2),(16,69),(86,75)]),[0],[],[]⟩) (o:=[]) (l:=[]) (by kernel_rfl) (gn)
theorem n21_p0{ns:List Int}{mo:Int}{qs:List Int}{mv:PV}{n:Nat}{o:List (List Int)}{y:Int}{l:List Int}:CodeOK Tryz.prog 0 (sub (cd Tryz.f22) [1,1,1,1,1,1,0,1,0,0,1,1,0,0,1,1,0]) ⟨fr 161 [(1,(.p (intsP ns))),(2,(.p (intP mo))),(3,(.p (intsP qs))),(12,(.p mv)),(15,(.own 0)),(16,(.p (intP (n:Int)))),(17,(.own 1)),(85,(.p (intP (n:Int))))],[some (.row 40 o.length (o.flatten.map intP)),some (.row 3 (l.length+1) ((intP y)::(l.map intP)))]⟩ .normal ⟨fr 161 [(1,(.p (intsP ns))),(2,(.p (intP mo))),(3,(.p (intsP qs))),(12,(.p mv)),(15,(.own 0)),(16,(.p (intP (n:Int)))),(17,(.own 1)),(85,(.p (intP (n:Int))))],[some (.row 40 o.length (o.flatten.map intP)),some (.row 3 (l.length+1) ((intP y)::(l.map intP)))]⟩:=by
  exact CodeOK.fin (g:=⟨(rng [(0,1),(4,8),(13,2),(18,67),(86,75)]),[0,1],[],[]⟩) (o:=[]) (l:=[]) (by kernel_rfl) (gn)
theorem n22_p0{ns:List Int}{mo:Int}{qs:List Int}{mv:PV}{n:Nat}{o:List (List Int)}{y:Int}{l l0:List Int}{o0:List (List Int)}(h0:((y::l)).length≤12)(h1:1≤((y::l)).length)(h2:0≤(0:Int)∧(0:Int)≤(if mo<(((downI (y::l)).length:Nat):Int) then mo else (((downI (y::l)).length:Nat):Int))∧(if mo<(((downI (y::l)).length:Nat):Int) then mo else (((downI (y::l)).length:Nat):Int))≤(((downI (y::l)).length:Nat):Int))(h3:((if mo<(((downI (y::l)).length:Nat):Int) then mo else (((downI (y::l)).length:Nat):Int)).toNat-0)=l0.length)(h4:((((downI (y::l)).map intP).drop 0).take (((if mo<(((downI (y::l)).length:Nat):Int) then mo else (((downI (y::l)).length:Nat):Int)).toNat-0)*(((downI (y::l)).map intP).length / ((downI (y::l)).length))))=l0.map intP)(h5:small l0.length)(h6:∀ k,inR (l0.take k).sum)(h7:[(intP (n:Int)),(intP 1),(intP l0.sum),(intP 0)].length=1*4∧o.length+1≤1000000)(eo0n:o0.length=(o.length+1))(eo0c:o0.flatten.map intP=((o.flatten.map intP)++[(intP (n:Int)),(intP 1),(intP l0.sum),(intP 0)])):CodeOK Tryz.prog 0 (sub (cd Tryz.f22) [1,1,1,1,1,1,0,1,0,0,1,1,0,0,1,1,1]) ⟨fr 161 [(1,(.p (intsP ns))),(2,(.p (intP mo))),(3,(.p (intsP qs))),(12,(.p mv)),(15,(.own 0)),(16,(.p (intP (n:Int)))),(17,(.own 1)),(85,(.p (intP (n:Int))))],[some (.row 40 o.length (o.flatten.map intP)),some (.row 3 (l.length+1) ((intP y)::(l.map intP)))]⟩ .normal ⟨fr 161 [(1,(.p (intsP ns))),(2,(.p (intP mo))),(3,(.p (intsP qs))),(12,(.p mv)),(15,(.own 0)),(85,(.p (intP (n:Int))))],[some (.row 40 o0.length (o0.flatten.map intP))]⟩:=by
  have raw:CodeOK Tryz.prog 0 (sub (cd Tryz.f22) [1,1,1,1,1,1,0,1,0,0,1,1,0,0,1,1,1]) ⟨fr 161 [(1,(.p (intsP ns))),(2,(.p (intP mo))),(3,(.p (intsP qs))),(12,(.p mv)),(15,(.own 0)),(16,(.p (intP (n:Int)))),(17,(.own 1)),(85,(.p (intP (n:Int))))],[some (.row 40 o.length (o.flatten.map intP)),some (.row 3 (l.length+1) ((intP y)::(l.map intP)))]⟩ .normal ⟨fr 161 [(1,(.p (intsP ns))),(2,(.p (intP mo))),(3,(.p (intsP qs))),(12,(.p mv)),(15,(.own 0)),(85,(.p (intP (n:Int))))],[some (.row 40 (o.length+1) ((o.flatten.map intP)++[(intP (n:Int)),(intP 1),(intP l0.sum),(intP 0)]))]⟩:=CodeOK.fin (g:=⟨(rng [(0,1),(4,8),(13,2),(16,69),(86,75)]),[3],[],[]⟩) (o:=[.c (.tup []) [(1,(.row 3 ((downI (y::l)).length) ((downI (y::l)).map intP)))],.c (.p (intP l0.sum)) []]) (l:=[_,[(intP (n:Int)),(intP 1),(intP l0.sum),(intP 0)].length=4,FC Tryz.prog 98 [(.arr 1 0 ((if mo<(((downI (y::l)).length:Nat):Int) then mo else (((downI (y::l)).length:Nat):Int)).toNat-0))] [(1,(.row 3 ((downI (y::l)).length) ((downI (y::l)).map intP)))] 2 (.p (intP l0.sum)) [],_,FC Tryz.prog 95 [(.own 1),(.fn 96 [] [])] [(1,(.row 3 (l.length+1) ((intP y)::(l.map intP))))] 2 (.tup []) [(1,(.row 3 ((downI (y::l)).length) ((downI (y::l)).map intP)))]]) (by kernel_rfl) (gc h7 (gc (by first | decide | simp) (gc (FV.view (args':=[(.p (.sl ((if mo<(((downI (y::l)).length:Nat):Int) then mo else (((downI (y::l)).length:Nat):Int)).toNat-0) ((((downI (y::l)).map intP).drop 0).take (((if mo<(((downI (y::l)).length:Nat):Int) then mo else (((downI (y::l)).length:Nat):Int)).toNat-0)*(((downI (y::l)).map intP).length / ((downI (y::l)).length))))))]) (by rw [show ((.sl ((if mo<(((downI (y::l)).length:Nat):Int) then mo else (((downI (y::l)).length:Nat):Int)).toNat-0) ((((downI (y::l)).map intP).drop 0).take (((if mo<(((downI (y::l)).length:Nat):Int) then mo else (((downI (y::l)).length:Nat):Int)).toNat-0)*(((downI (y::l)).map intP).length / ((downI (y::l)).length))))):PV)=intsP l0 from sl_cast h3 h4];exact (sum_ok l0 h5 h6)) (by kernel_rfl) (by kernel_rfl) (by kernel_rfl)) (gc h2 (gc (FMM.fc (ids:=[1]) (sfn_p0 (l:=(y::l)) h0 h1) (by kernel_rfl)) gn)))))
  exact raw.cast (by rw [eo0n,eo0c])
theorem n24_p0{ns:List Int}{mo:Int}{qs:List Int}{mv:PV}{n:Nat}{o:List (List Int)}(h0:inR (((n+1):Nat):Int)):CodeOK Tryz.prog 0 (sub (cd Tryz.f22) [1,1,1,1,1,1,0,1,0,0,1,1,1]) ⟨fr 161 [(1,(.p (intsP ns))),(2,(.p (intP mo))),(3,(.p (intsP qs))),(12,(.p mv)),(15,(.own 0)),(85,(.p (intP (n:Int))))],[some (.row 40 o.length (o.flatten.map intP))]⟩ .normal ⟨fr 161 [(1,(.p (intsP ns))),(2,(.p (intP mo))),(3,(.p (intsP qs))),(12,(.p mv)),(15,(.own 0)),(85,(.p (intP (((n+1):Nat):Int))))],[some (.row 40 o.length (o.flatten.map intP))]⟩:=by
  exact CodeOK.fin (g:=⟨(rng [(0,1),(4,8),(13,2),(16,69),(86,75)]),[0],[],[]⟩) (o:=[]) (l:=[_]) (by kernel_rfl) (gc h0 gn)
def nat_S2(qs:List Int)(o:List (List Int))(i:Nat)(pn:Nat)(pc:List PV):St:=⟨fr 161 [(3,(.p (intsP qs))),(15,(.own 0)),(109,(.p (intP (o.length:Int)))),(110,(.p (intP (i:Int))))],[some (.row 40 pn pc)]⟩
theorem n25_p0{qs:List Int}{o:List (List Int)}{i'0:Nat}{p'1:List (List Int)}(hl0:LoopOK Tryz.prog 0 zN0c0 (nat_S2 qs o 0 o.length (o.flatten.map intP)) (.exit 5) (nat_S2 qs o i'0 p'1.length (p'1.flatten.map intP)))(h1:uni 4 p'1)(h2:p'1.length<20):CodeOK Tryz.prog 0 (sub (cd Tryz.f22) [1,1,1,1,1,1,1]) ⟨fr 161 [(3,(.p (intsP qs))),(15,(.own 0))],[some (.row 40 o.length (o.flatten.map intP))]⟩ .ret ⟨fr 161 [(8,(.p (.sl ((isort (ltK 1) p'1).length) ((isort (ltK 1) p'1).flatten.map intP)))),(9,(.p (intP 0)))],[]⟩:=by
  exact CodeOK.fin (g:=⟨(rng [(0,8),(10,151)]),[],[0],[]⟩) (o:=[.k 4 ⟨(rng [(0,3),(4,4),(10,5),(16,93),(111,47),(159,1)]),[0],[],[]⟩ (.exit 5) (nat_S2 qs o i'0 p'1.length (p'1.flatten.map intP)),.c (.tup []) [(0,(.row 40 ((isort (ltK 1) p'1).length) ((isort (ltK 1) p'1).flatten.map intP)))]]) (l:=[FC Tryz.prog 99 [(.own 0),(.fn 100 [] [])] [(0,(.row 40 p'1.length (p'1.flatten.map intP)))] 1 (.tup []) [(0,(.row 40 ((isort (ltK 1) p'1).length) ((isort (ltK 1) p'1).flatten.map intP)))],_]) (by kernel_rfl) (gc (FMM.fc (ids:=[0]) (srtN_ok p'1 h1 h2) (by kernel_rfl)) (gc hl0.code gn))
def nat_S3(qs:List Int)(o:List (List Int))(i:Nat)(p:List (List Int))(j:Nat)(rn:Nat)(rc:List PV):St:=⟨fr 161 [(3,(.p (intsP qs))),(15,(.own 0)),(18,(.p (intP (i:Int)))),(109,(.p (intP (o.length:Int)))),(110,(.p (intP (i:Int)))),(111,(.p (blP (decide ((i:Int)<(o.length:Int)))))),(112,(.p (intP (i:Int)))),(113,(.own 0)),(114,(.p (intP (p.length:Int)))),(115,(.p (intP (j:Int))))],[some (.row 40 rn rc)]⟩
theorem nat_L2_p0{qs:List Int}{o:List (List Int)}{i:Nat}{p:List (List Int)}{j'300:Nat}{r'301:List (List Int)}{y302 y303 y304 y305 x306:Int}{i':Nat}{p':List (List Int)}(h0:(i:Int)<(o.length:Int))(hl1:LoopOK Tryz.prog 0 zN0c1 (nat_S3 qs o i p 0 p.length (p.flatten.map intP)) (.exit 7) (nat_S3 qs o i p j'300 r'301.length (r'301.flatten.map intP)))(h2:r'301[i]? = some [y302,y303,y304,y305])(h3:uni 4 r'301)(h4:y303≤(qs.length:Int))(h5:inR (y303-(1:Int)))(h6:qs[(y303-(1:Int)).toNat]? = some x306)(h7:0≤(y303-(1:Int)))(h8:((i*4)+3)<(r'301.flatten.map intP).length)(h9:inR (((i+1):Nat):Int))(ei':i'=(i+1))(ep'n:p'.length=r'301.length)(ep'c:p'.flatten.map intP=((r'301.flatten.map intP).set ((i*4)+3) (intP x306))):CodeOK Tryz.prog 0 zN0c0 (nat_S2 qs o i p.length (p.flatten.map intP)) .normal (nat_S2 qs o i' p'.length (p'.flatten.map intP)):=by
  subst ei'
  have raw:CodeOK Tryz.prog 0 zN0c0 (nat_S2 qs o i p.length (p.flatten.map intP)) .normal (nat_S2 qs o (i+1) r'301.length ((r'301.flatten.map intP).set ((i*4)+3) (intP x306))):=CodeOK.fin (g:=⟨(rng [(0,3),(4,4),(10,5),(16,93),(111,47),(159,1)]),[0],[],[]⟩) (o:=[bT,.k 8 ⟨(rng [(0,3),(4,4),(10,5),(16,2),(19,90),(116,20),(159,1)]),[0],[],[]⟩ (.exit 7) (nat_S3 qs o i p j'300 r'301.length (r'301.flatten.map intP)),.x (intP y303),bT,.x (intP y303),.x (intP x306)]) (l:=[_,_,_,(qs.map intP)[((y303-(1:Int)).toNat*1)]? = some (intP x306),_,_,(r'301.flatten.map intP)[((i*4)+1)]? = some (intP y303),_,_,(r'301.flatten.map intP)[((i*4)+1)]? = some (intP y303),_,_,_]) (by kernel_rfl) (gc h9 (gc h8 (gc (ix_own (i:=(i:Int)) (Int.natCast_nonneg _) h2) (gc (at_map (i:=(y303-(1:Int)).toNat) h6) (gc (ix_map (g:=intP) h7 h6) (gc h5 (gc (fl_field (i:=i) (f:=1) h3 h2 rfl) (gc (ix_own (i:=(i:Int)) (Int.natCast_nonneg _) h2) (gc (q_le h4) (gc (fl_field (i:=i) (f:=1) h3 h2 rfl) (gc (ix_own (i:=(i:Int)) (Int.natCast_nonneg _) h2) (gc hl1.code (gc (q_lt h0) gn)))))))))))))
  exact raw.cast (by rw [ep'n,ep'c])
theorem nat_L2_p1{qs:List Int}{o:List (List Int)}{i:Nat}{p:List (List Int)}{j'300:Nat}{r'301:List (List Int)}{y302 y303 y304 y305:Int}{i':Nat}{p':List (List Int)}(h0:(i:Int)<(o.length:Int))(hl1:LoopOK Tryz.prog 0 zN0c1 (nat_S3 qs o i p 0 p.length (p.flatten.map intP)) (.exit 7) (nat_S3 qs o i p j'300 r'301.length (r'301.flatten.map intP)))(h2:r'301[i]? = some [y302,y303,y304,y305])(h3:uni 4 r'301)(h4:(qs.length:Int)<y303)(h5:inR (((i+1):Nat):Int))(ei':i'=(i+1))(ep'n:p'.length=r'301.length)(ep'c:p'.flatten.map intP=(r'301.flatten.map intP)):CodeOK Tryz.prog 0 zN0c0 (nat_S2 qs o i p.length (p.flatten.map intP)) .normal (nat_S2 qs o i' p'.length (p'.flatten.map intP)):=by
  subst ei'
  have raw:CodeOK Tryz.prog 0 zN0c0 (nat_S2 qs o i p.length (p.flatten.map intP)) .normal (nat_S2 qs o (i+1) r'301.length (r'301.flatten.map intP)):=CodeOK.fin (g:=⟨(rng [(0,3),(4,4),(10,5),(16,93),(111,47),(159,1)]),[0],[],[]⟩) (o:=[bT,.k 8 ⟨(rng [(0,3),(4,4),(10,5),(16,2),(19,90),(116,20),(159,1)]),[0],[],[]⟩ (.exit 7) (nat_S3 qs o i p j'300 r'301.length (r'301.flatten.map intP)),.x (intP y303),bF]) (l:=[_,_,(r'301.flatten.map intP)[((i*4)+1)]? = some (intP y303),_,_,_]) (by kernel_rfl) (gc h5 (gc (q_leF h4) (gc (fl_field (i:=i) (f:=1) h3 h2 rfl) (gc (ix_own (i:=(i:Int)) (Int.natCast_nonneg _) h2) (gc hl1.code (gc (q_lt h0) gn))))))
  exact raw.cast (by rw [ep'n,ep'c])
theorem nat_L2_p2{qs:List Int}{o:List (List Int)}{i:Nat}{p:List (List Int)}(h0:(o.length:Int)≤(i:Int)):CodeOK Tryz.prog 0 zN0c0 (nat_S2 qs o i p.length (p.flatten.map intP)) (.exit 5) (nat_S2 qs o i p.length (p.flatten.map intP)):=by
  exact CodeOK.fin (g:=⟨(rng [(0,3),(4,4),(10,5),(16,93),(111,47),(159,1)]),[0],[],[]⟩) (o:=[bF]) (l:=[_]) (by kernel_rfl) (gc (q_ltF h0) gn)
theorem nat_L3_p0{qs:List Int}{o:List (List Int)}{i:Nat}{p:List (List Int)}{j:Nat}{r:List (List Int)}{y400 y401 y402 y403 y404 y405 y406 y407:Int}{j':Nat}{r':List (List Int)}(h0:(j:Int)<(p.length:Int))(h1:r[j]? = some [y400,y401,y402,y403])(h2:uni 4 r)(h3:r[i]? = some [y404,y405,y406,y407])(h4:y406<y402)(h5:inR (y405+(1:Int)))(h6:((i*4)+1)<(r.flatten.map intP).length)(h7:inR (((j+1):Nat):Int))(ej':j'=(j+1))(er'n:r'.length=r.length)(er'c:r'.flatten.map intP=((r.flatten.map intP).set ((i*4)+1) (intP (y405+(1:Int))))):CodeOK Tryz.prog 0 zN0c1 (nat_S3 qs o i p j r.length (r.flatten.map intP)) .normal (nat_S3 qs o i p j' r'.length (r'.flatten.map intP)):=by
  subst ej'
  have raw:CodeOK Tryz.prog 0 zN0c1 (nat_S3 qs o i p j r.length (r.flatten.map intP)) .normal (nat_S3 qs o i p (j+1) r.length ((r.flatten.map intP).set ((i*4)+1) (intP (y405+(1:Int))))):=CodeOK.fin (g:=⟨(rng [(0,3),(4,4),(10,5),(16,2),(19,90),(116,20),(159,1)]),[0],[],[]⟩) (o:=[bT,.x (.agg [(intP y400),(intP y401),(intP y402),(intP y403)]),.x (intP y406),bT,.x (intP y405)]) (l:=[_,_,_,_,(r.flatten.map intP)[((i*4)+1)]? = some (intP y405),_,_,(r.flatten.map intP)[((i*4)+2)]? = some (intP y406),_,_,_,_,_]) (by kernel_rfl) (gc h7 (gc h6 (gc (ix_own (i:=(i:Int)) (Int.natCast_nonneg _) h3) (gc h5 (gc (fl_field (i:=i) (f:=1) h2 h3 rfl) (gc (ix_own (i:=(i:Int)) (Int.natCast_nonneg _) h3) (gc (q_lt h4) (gc (fl_field (i:=i) (f:=2) h2 h3 rfl) (gc (ix_own (i:=(i:Int)) (Int.natCast_nonneg _) h3) (gc (fl_load (i:=j) h2 h1) (gc (fl_le (i:=j) h2 h1) (gc (ix_own (i:=(j:Int)) (Int.natCast_nonneg _) h1) (gc (q_lt h0) gn)))))))))))))
  exact raw.cast (by rw [er'n,er'c])
theorem nat_L3_p1{qs:List Int}{o:List (List Int)}{i:Nat}{p:List (List Int)}{j:Nat}{r:List (List Int)}{y400 y401 y402 y403 y404 y405 y406 y407:Int}{j':Nat}(h0:(j:Int)<(p.length:Int))(h1:r[j]? = some [y400,y401,y402,y403])(h2:uni 4 r)(h3:r[i]? = some [y404,y405,y406,y407])(h4:y402≤y406)(h5:inR (((j+1):Nat):Int))(ej':j'=(j+1)):CodeOK Tryz.prog 0 zN0c1 (nat_S3 qs o i p j r.length (r.flatten.map intP)) .normal (nat_S3 qs o i p j' r.length (r.flatten.map intP)):=by
  subst ej'
  exact CodeOK.fin (g:=⟨(rng [(0,3),(4,4),(10,5),(16,2),(19,90),(116,20),(159,1)]),[0],[],[]⟩) (o:=[bT,.x (.agg [(intP y400),(intP y401),(intP y402),(intP y403)]),.x (intP y406),bF]) (l:=[_,_,(r.flatten.map intP)[((i*4)+2)]? = some (intP y406),_,_,_,_,_]) (by kernel_rfl) (gc h5 (gc (q_ltF h4) (gc (fl_field (i:=i) (f:=2) h2 h3 rfl) (gc (ix_own (i:=(i:Int)) (Int.natCast_nonneg _) h3) (gc (fl_load (i:=j) h2 h1) (gc (fl_le (i:=j) h2 h1) (gc (ix_own (i:=(j:Int)) (Int.natCast_nonneg _) h1) (gc (q_lt h0) gn))))))))
theorem nat_L3_p2{qs:List Int}{o:List (List Int)}{i:Nat}{p:List (List Int)}{j:Nat}{r:List (List Int)}(h0:(p.length:Int)≤(j:Int)):CodeOK Tryz.prog 0 zN0c1 (nat_S3 qs o i p j r.length (r.flatten.map intP)) (.exit 7) (nat_S3 qs o i p j r.length (r.flatten.map intP)):=by
  exact CodeOK.fin (g:=⟨(rng [(0,3),(4,4),(10,5),(16,2),(19,90),(116,20),(159,1)]),[0],[],[]⟩) (o:=[bF]) (l:=[_]) (by kernel_rfl) (gc (q_ltF h0) gn)
end
section
variable {P:Program} {C C0:Cx} {M M0:Mem} {w w0:World}

theorem lt_of_some{w:World}{b:Nat}{o:Obj}(h:w.heap[b]? = some o):b<w.heap.size:=(Array.getElem?_eq_some_iff.1 h).1

theorem mem_beside(hM:MemOK P C M w){w':World}(hsz:w.heap.size≤w'.heap.size)(hF:∀ b,C.F b→w'.heap[b]? = w.heap[b]?)(hL:∀ (id:Nat) (o:AO) (b:Nat),M[id]? = some (some o)→o.live=true→C.ι id=some b→w'.heap[b]? = w.heap[b]?) :
    MemOK P C M w'∧Le C C M M w w':=by
  have hle:Le C C M M w w':=⟨fun _ o h=>⟨o,h⟩,fun _ _ _ _ _ cs h=>⟨cs,h⟩,fun _ o h o' h' hl=>by rw [h] at h';cases h';exact ⟨hl,rfl,rfl⟩,fun _ h=>h,hF⟩
  refine ⟨⟨fun i ty' n cs hm => ?_,fun i ty' cs hm => ?_,fun i es cl hm => ?_,hM.inj,hM.nF,fun b hb=>Nat.lt_of_lt_of_le (hM.Fs b hb) hsz,fun i x b hm hl hb=>Nat.lt_of_lt_of_le (hM.lt i x b hm hl hb) hsz⟩,hle⟩
  · rcases hM.row _ _ _ _ hm with h4 | ⟨b,arr,inf,q0,q1,q2,q3,q4,q5,q6,q7,q8⟩
    · exact .inl h4
    · exact .inr ⟨b,arr,inf,q0,by rw [hL _ _ _ hm rfl q0];exact q1,q2,q3,q4,q5,q6,fun j hj=>(q7 j hj).mono hle.F hle.fz,q8⟩
  · obtain ⟨b,arr,q0,q1,q2,q3,q4⟩:=hM.box _ _ _ hm
    exact ⟨b,arr,q0,by rw [hL _ _ _ hm rfl q0];exact q1,q2,fun j hj=>(q3 j hj).mono hle,q4⟩
  · obtain ⟨b,arr,q0,q1,q2,q3⟩:=hM.mp _ _ _ hm
    refine ⟨b,arr,q0,by rw [hL _ _ _ hm rfl q0];exact q1,q2,fun j hj => ?_⟩
    obtain ⟨en,r1,r2,r3,r4⟩:=q3 j hj
    exact ⟨en,r1,r2,r3,r4.mono hle.F hle.fz⟩

theorem Sim.beside{R R':List (Nat × Obj)}{st:St}{a:Act}{w':World}(h:Sim P (C0.with R) M0 w0 st a w)(X:Nat→Prop)(hX:∀ b,X b→∃ o,(b,o)∈R)(h1:w'.os=w.os)(h2:w'.tape=w.tape)(h3:w'.output=w.output)
    (hsz:w.heap.size≤w'.heap.size) (hk:∀ b,b<w.heap.size→¬ X b→w'.heap[b]? = w.heap[b]?)
    (hR':∀ p∈R',(p∈R∧¬ X p.1)∨(w'.heap[p.1]? = some p.2∧p.2 ≠ .deferred (some [])∧(w.heap.size≤p.1∨∃ o,(p.1,o)∈R))):Sim P (C0.with R') M0 w0 st a w':=by
  obtain ⟨C,hS,hM,hF,⟨l,m1,m2,m3⟩,hR,hP⟩:=h
  have hXR:∀ b,X b→∃ o,w.heap[b]? = some o∧w0.heap.size≤b∧o ≠ .deferred (some [])∧¬ C.F b∧∀ (id:Nat) (o:AO),st.m[id]? = some (some o)→o.live=true→C.ι id≠some b:=fun b hb=>by
    obtain ⟨o,ho⟩:=hX b hb
    exact ⟨o,hR _ ho⟩
  have hFz:∀ b,C.F b→w'.heap[b]? = w.heap[b]? := fun b hb=>hk b (hM.Fs b hb) (fun hx=>by obtain ⟨_,_,_,_,q,_⟩:=hXR b hx;exact q hb)
  have hLv:∀ (id:Nat) (o:AO) (b:Nat),st.m[id]? = some (some o)→o.live=true→C.ι id=some b→w'.heap[b]? = w.heap[b]? := fun id o b ho hl hb=>hk b (hM.lt _ _ _ ho hl hb) (fun hx=>by obtain ⟨_,_,_,_,_,q⟩:=hXR b hx;exact q id o ho hl hb)
  obtain ⟨hM',hle⟩:=mem_beside hM hsz hFz hLv
  refine ⟨C,hS.le hle,hM',⟨h1.trans hF.os,h2.trans hF.tape,h3.trans hF.out,Nat.le_trans hF.size hsz,fun b hb hn=>(hk b (Nat.lt_of_lt_of_le hb hF.size) (fun hx=>by obtain ⟨_,_,q,_⟩:=hXR b hx;omega)).trans (hF.keep b hb hn),hF.ids,hF.row,hF.liv,hF.new,hF.F1,hF.F2⟩,⟨l,m1,m2,fun D hD => ?_⟩,fun p hp => ?_,fun i to ti sz L hm => ?_,hP.2⟩
  · obtain ⟨q1,q2,q3⟩:=m3 D hD
    refine ⟨(hk D (lt_of_some q1) (fun hx => ?_)).trans q1,q2,q3⟩
    obtain ⟨o,r1,_,r3,_⟩:=hXR D hx
    rw [q1] at r1;cases r1;exact r3 rfl
  · rcases hR' p hp with ⟨hin,hx⟩ | ⟨r1,r2,r3⟩
    · obtain ⟨q1,q2,q3,q4,q5⟩:=hR p hin
      exact ⟨(hk _ (lt_of_some q1) hx).trans q1,q2,q3,q4,q5⟩
    · rcases r3 with r3 | ⟨o,ho⟩
      · refine ⟨r1,Nat.le_trans hF.size r3,r2,fun hf => ?_,fun id o ho hl hb => ?_⟩
        · have:=hM.Fs _ hf;omega
        · have:=hM.lt _ _ _ ho hl hb;omega
      · obtain ⟨q1,q2,q3,q4,q5⟩:=hR _ ho
        exact ⟨r1,q2,r2,q4,q5⟩
  · obtain ⟨p,p0,p1⟩:=hP.1 _ _ _ _ _ hm
    refine ⟨p.move p.io rfl (fun _ h=>h) hFz fun b hb=>⟨hk b (p.lt hb).1 fun hx => ?_,p.own b hb⟩,p0,fun b hb=>⟨(p1 b hb).1,fun q hq e => ?_⟩⟩
    · obtain ⟨o,ho⟩:=hX b hx
      exact (p1 b hb).2 _ ho rfl
    · rcases hR' q hq with ⟨hin,_⟩ | ⟨_,_,r3⟩
      · exact (p1 b hb).2 q hin e
      · rcases r3 with r3 | ⟨o,ho⟩
        · have:=(p.lt hb).1;omega
        · exact (p1 b hb).2 _ ho e

theorem Sim.less{R R':List (Nat × Obj)}{st:St}{a:Act}(h:Sim P (C0.with R) M0 w0 st a w)(hR:∀ p∈R',p∈R):Sim P (C0.with R') M0 w0 st a w :=
  h.beside (fun _=>False) (fun _ h=>h.elim) rfl rfl rfl (Nat.le_refl _) (fun _ _ _=>rfl) (fun p hp => .inl ⟨hR p hp,id⟩)

theorem Sim.has{R:List (Nat × Obj)}{st:St}{a:Act}(h:Sim P (C0.with R) M0 w0 st a w):∀ p∈R,w.heap[p.1]? = some p.2:=fun p hp=>by
  obtain ⟨C,_,_,_,_,hR,_⟩:=h
  exact (hR p hp).1

theorem Sim.put{st:St}{a:Act}(h:Sim P C0 M0 w0 st a w)(d:Option Tmp){x:AV}{u:Value}(hx:∀ (C:Cx) (M:Mem),Rep C M w x u):Sim P C0 M0 w0 ⟨KV.put st.t d x,st.m⟩ (a.put d u) w:=by
  obtain ⟨C,hS,hM,hF,hD⟩:=h
  refine ⟨C,hS.put (hx _ _),hM,hF,?_⟩
  have:(a.put d u).defers=a.defers:=by unfold Act.put;split <;> rfl
  rw [this]
  exact hD

theorem Sim.hand{R:List (Nat × Obj)}{st:St}{a:Act}{b ty n cap k d:Nat}{cs:List PV}{arr:Array Value}{i:TypeInfo}(h:Sim P (C0.with ((b,.cells arr ty (0,0))::R)) M0 w0 st a w)(hb:∀ p∈R,p.1≠b)
    (hk:M0.length≤k) (hf:Free st.m k) (hd:a.tmps.getD d undef = .slice (some ⟨b,0,none⟩) n cap) (hi:P.info? ty=some i) (harr:arr.size=cap*i.size) (hcs:cs.length=n*i.size) (hn:n≤cap) (hc:cap≤maxLen)
    (hrep:∀ (F:Nat→Prop) j (h:j<cs.length),RepP F w cs[j] (arr.getD j undef)) (h1:∀ j,j<cs.length→(arr.getD j undef).oneCell'=true):Sim P (C0.with R) M0 w0 ⟨st.t.set d (.own k),setAt st.m k (some (.row ty n cs))⟩ a w:=by
  obtain ⟨C,hS,hM,hF,hm,hR,hP⟩:=h
  obtain ⟨q1,q2,q3,q4,q5⟩:=hR _ (List.mem_cons_self ..)
  dsimp only at q1 q2 q4 q5
  have hne:∀ (j:Nat) (o':AO),st.m[j]? = some (some o')→j≠k:=fun j o' h e=>hf o' (e ▸ h)
  have hold:∀ (j:Nat) (o':AO),j≠k→(setAt st.m k (some (.row ty n cs)))[j]? = some (some o')→st.m[j]? = some (some o'):=fun j o' h=>(setAt_other st.m k j _ o' (fun e=>h e.symm)).1
  have hfw:∀ (j:Nat) (o':AO),st.m[j]? = some (some o')→(setAt st.m k (some (.row ty n cs)))[j]? = some (some o'):=fun j o' h=>(setAt_other st.m k j _ o' (fun e=>hne j o' h e.symm)).2 h
  have hι:∀ j,j≠k→(C.grow k b cap).ι j=C.ι j:=fun j h=>by simp [Cx.grow,h]
  have hκ:∀ j,j≠k→(C.grow k b cap).κ j=C.κ j:=fun j h=>by simp [Cx.grow,h]
  have hιs:(C.grow k b cap).ι k=some b:=by simp [Cx.grow]
  have hκs:(C.grow k b cap).κ k=cap:=by simp [Cx.grow]
  have hle:Le C (C.grow k b cap) st.m (setAt st.m k (some (.row ty n cs))) w w:=by
    refine ⟨fun j o h=>⟨o,hfw j o h⟩,fun j o h ty' n' cs' hm=>⟨cs',hold j _ (hne j o h) hm⟩,fun j o h o' hm hl => ?_,fun _ h=>h,fun _ _=>rfl⟩
    have:=hold j _ (hne j o h) hm
    rw [h] at this;cases this
    exact ⟨hl,hι j (hne j o h),hκ j (hne j o h)⟩
  have hnew:∀ (o':AO),(setAt st.m k (some (.row ty n cs)))[k]? = some (some o')→o' = .row ty n cs:=fun o' h=>by rw [setAt_same] at h;cases h;rfl
  refine ⟨C.grow k b cap,⟨by simpa using hS.size,fun j hj => ?_⟩,⟨fun j ty' n' cs' hm => ?_,fun j ty' cs' hm => ?_,fun j es cl hm => ?_,fun j j' o1 o2 b' hm hl hm' hl' hb1 hb2 => ?_,fun j o' b' hm hl hb' => ?_,hM.Fs,fun j o' b' hm hl hb' => ?_⟩,
    ⟨hF.os,hF.tape,hF.out,hF.size,hF.keep,fun j o h => ?_,fun j o h ty' n' cs' hm => ?_,fun j o h o' hm hl => ?_,fun j o b' hm hl hb' => ?_,hF.F1,hF.F2⟩,hm,fun p hp => ?_,fun j to ti sz L hq => ?_,fun j j' to ti sz to' ti' sz' L L' hq hq' hne2 c hc hc' => ?_⟩
  · simp only [List.length_set] at hj
    rw [List.getElem_set]
    split
    · rename_i e
      subst e
      rw [hd]
      exact .own k _ rfl ⟨_,setAt_same _ _ _⟩ (fun ty' n' cs' hm=>by cases hnew _ hm;exact .inr ⟨b,by rw [hκs],hιs⟩)
    · exact (hS.rep j hj).mono hle
  · by_cases e:j=k
    · subst e
      cases hnew _ hm
      exact .inr ⟨b,arr,i,hιs,q1,hi,by rw [hκs];exact harr,hcs,by rw [hκs];exact hn,by rw [hκs];exact hc,fun j hj=>hrep _ j hj,h1⟩
    · rw [hι j e,hκ j e]
      rcases hM.row _ _ _ _ (hold j _ e hm) with h4 | ⟨b,arr,inf,q0,q1,q2,q3,q4,q5,q6,q7,q8⟩
      · exact .inl h4
      · exact .inr ⟨b,arr,inf,q0,q1,q2,q3,q4,q5,q6,fun j hj=>(q7 j hj).mono hle.F hle.fz,q8⟩
  · by_cases e:j=k
    · subst e;cases hnew _ hm
    · rw [hι j e]
      obtain ⟨b,arr,q0,q1,q2,q3,q4⟩:=hM.box _ _ _ (hold j _ e hm)
      exact ⟨b,arr,q0,q1,q2,fun j hj=>(q3 j hj).mono hle,q4⟩
  · by_cases e:j=k
    · subst e;cases hnew _ hm
    · rw [hι j e]
      obtain ⟨b,arr,q0,q1,q2,q3⟩:=hM.mp _ _ _ (hold j _ e hm)
      refine ⟨b,arr,q0,q1,q2,fun j hj => ?_⟩
      obtain ⟨en,r1,r2,r3,r4⟩:=q3 j hj
      exact ⟨en,r1,r2,r3,r4.mono hle.F hle.fz⟩
  · by_cases e:j=k
    · by_cases e':j'=k
      · rw [e,e']
      · subst e
        rw [hιs] at hb1;cases hb1
        rw [hι j' e'] at hb2
        exact absurd hb2 (q5 _ _ (hold j' _ e' hm') hl')
    · by_cases e':j'=k
      · subst e'
        rw [hιs] at hb2;cases hb2
        rw [hι j e] at hb1
        exact absurd hb1 (q5 _ _ (hold j _ e hm) hl)
      · rw [hι j e] at hb1;rw [hι j' e'] at hb2
        exact hM.inj _ _ _ _ _ (hold j _ e hm) hl (hold j' _ e' hm') hl' hb1 hb2
  · by_cases e:j=k
    · subst e
      rw [hιs] at hb';cases hb'
      exact q4
    · rw [hι j e] at hb'
      exact hM.nF _ _ _ (hold j _ e hm) hl hb'
  · by_cases e:j=k
    · subst e
      rw [hιs] at hb';cases hb'
      exact lt_of_some q1
    · rw [hι j e] at hb'
      exact hM.lt _ _ _ (hold j _ e hm) hl hb'
  · have hj:j≠k:=by have:=(List.getElem?_eq_some_iff.1 h).1;omega
    obtain ⟨⟨o',r1⟩,r2,r3⟩:=hF.ids j o h
    exact ⟨⟨o',hfw j o' r1⟩,by rw [hι j hj];exact r2,by rw [hκ j hj];exact r3⟩
  · have hj:j≠k:=by have:=(List.getElem?_eq_some_iff.1 h).1;omega
    exact hF.row j o h _ _ _ (hold j _ hj hm)
  · have hj:j≠k:=by have:=(List.getElem?_eq_some_iff.1 h).1;omega
    exact hF.liv j o h o' (hold j _ hj hm) hl
  · by_cases e:j=k
    · subst e
      rw [hιs] at hb';cases hb'
      exact .inl q2
    · rw [hι j e] at hb'
      exact hF.new j o b' (hold j _ e hm) hl hb'
  · obtain ⟨r1,r2,r3,r4,r5⟩:=hR p (List.mem_cons_of_mem _ hp)
    refine ⟨r1,r2,r3,r4,fun j o ho hl hb' => ?_⟩
    by_cases e:j=k
    · subst e
      rw [hιs] at hb'
      exact hb p hp (Option.some.inj hb').symm
    · rw [hι j e] at hb'
      exact r5 j o (hold j _ e ho) hl hb'
  · have e:j≠k:=fun e=>by subst e;cases hnew _ hq
    obtain ⟨p,p0,p1⟩:=hP.1 _ _ _ _ _ (hold j _ e hq)
    refine ⟨p.move (by rw [hι j e];exact p.io) (hκ j e) hle.F hle.fz fun c hc=>⟨rfl,(p.own c hc).1,fun j2 o2 ho hl hb' => ?_⟩,p0,by rw [hκ j e];exact fun c hc=>⟨(p1 c hc).1,fun q hq2=>(p1 c hc).2 q (List.mem_cons_of_mem _ hq2)⟩⟩
    by_cases e2:j2=k
    · subst e2
      rw [hιs] at hb'
      exact (p1 c hc).2 _ (List.mem_cons_self ..) (Option.some.inj hb')
    · rw [hι j2 e2] at hb'
      exact (p.own c hc).2 j2 o2 (hold j2 _ e2 ho) hl hb'
  · have e:j≠k:=fun e=>by subst e;cases hnew _ hq
    have e':j'≠k:=fun e=>by subst e;cases hnew _ hq'
    rw [hκ j e] at hc;rw [hκ j' e'] at hc'
    exact hP.2 _ _ _ _ _ _ _ _ _ _ (hold j _ e hq) (hold j' _ e' hq') hne2 c hc hc'
end
section
open Go.Maps Go.MapKept
open Go.ChangeMaps (setBlock)

structure Ent where
  k:Int
  l:List Int
  b:Nat
  cap:Nat
  arr:Array Value

def Ent.val(e:Ent):Value := .slice (some ⟨e.b,0,none⟩) e.l.length e.cap
def Ent.blk(e:Ent):Nat × Obj:=(e.b,.cells e.arr 3 (0,0))
structure Ent.OK (e:Ent):Prop where
  key:(Lit.int .i64 e.k).wf=true
  sz:e.arr.size=e.cap
  le:e.l.length≤e.cap
  cap:e.cap≤maxLen
  at_:e.arr.toList.take e.l.length=e.l.map (Value.int .i64)

structure MapOK (mb:Nat) (es:Array MapEntry) (L:List Ent):Prop where
  e1:∀ x∈es.toList,∃ e∈L,x.key = .int .i64 e.k∧x.val=e.val
  e2:∀ e∈L,∃ x∈es.toList,x.key = .int .i64 e.k∧x.val=e.val
  nd:es.toList.Pairwise (fun x y=>x.key≠y.key)
  ok:∀ e∈L,e.OK
  keys:(L.map (·.k)).Nodup
  blks:(mb::L.map (·.b)).Nodup

theorem MapOK.nil(mb:Nat):MapOK mb #[] []:=⟨fun x h=>by simp at h,fun e h=>by simp at h,by simp,fun e h=>by simp at h,by simp,by simp⟩

def lookE(L:List Ent)(k:Int):Option Ent:=L.find? fun e=>e.k == k
def lookV(L:List Ent)(k:Int):Value:=match lookE L k with
  | some e=>e.val
  | none => .slice none 0 0

theorem lookE_some{L:List Ent}{k:Int}{e:Ent}(h:lookE L k=some e):e∈L∧e.k=k:=⟨List.mem_of_find?_eq_some h,by simpa using List.find?_some h⟩
theorem lookE_none{L:List Ent}{k:Int}(h:lookE L k=none):∀ e∈L,e.k≠k:=fun e he hk=>by
  have:=List.find?_eq_none.1 h e he
  simp [hk] at this
theorem lookE_mem{L:List Ent}{k:Int}{e:Ent}(hn:(L.map (·.k)).Nodup)(he:e∈L)(hk:e.k=k):lookE L k=some e:=by
  cases h:lookE L k with
  | none=>exact absurd hk (lookE_none h e he)
  | some e' =>
    obtain ⟨h1,h2⟩:=lookE_some h
    have:∀ (l:List Ent),(l.map (·.k)).Nodup→e∈l→e'∈l→e=e':=by
      intro l
      induction l with
      | nil=>intro _ h;simp at h
      | cons x r ih =>
        intro hn h3 h4
        rw [List.map_cons,List.nodup_cons] at hn
        rcases List.mem_cons.1 h3 with e1 | h5
        · rcases List.mem_cons.1 h4 with e2 | h6
          · rw [e1,e2]
          · exact absurd (List.mem_map.2 ⟨e',h6,by rw [h2,← hk,e1]⟩) hn.1
        · rcases List.mem_cons.1 h4 with e2 | h6
          · exact absurd (List.mem_map.2 ⟨e,h5,by rw [hk,← h2,e2]⟩) hn.1
          · exact ih hn.2 h5 h6
    rw [this L hn he h1]

section
variable {P:Program} {w:World} {t kt et:TypeId} {mb:Nat} {es:Array MapEntry} {cl:Nat} {L:List Ent}

theorem keyInt(hkt:P.underlying kt=some (.int .i64)){k:Int}(hk:(Lit.int .i64 k).wf=true):keyOf P kt (.int .i64 k)=some (.int .i64 k):=keyOf_int_mk hkt hk

theorem look_run(ht:P.underlying t=some (.map kt et))(hkt:P.underlying kt=some (.int .i64))(hz:(zeroValue et).run P w = .ok (.slice none 0 0) w)(hb:w.heap[mb]? = some (.map es cl))(hM:MapOK mb es L){k:Int}(hk:(Lit.int .i64 k).wf=true) :
    (Instr.lookup t (.map (some mb)) (.int .i64 k) false).run P w = .ok (lookV L k) w:=by
  have K:=int_keyed hkt
  have hkey:=keyInt hkt hk
  have hes:∀ e∈es.toList,∃ l,keyOf P kt e.key=some l:=fun x hx=>by
    obtain ⟨e,he,h1,_⟩:=hM.e1 x hx
    exact ⟨_,by rw [h1];exact keyInt hkt (hM.ok e he).key⟩
  rcases K.find w hkey es.toList hes with ⟨h1,h2⟩ | ⟨j,e0,h1,h2,h3⟩
  · have:lookE L k=none:=by
      rw [lookE,List.find?_eq_none]
      intro e he
      obtain ⟨x,hx,h4,_⟩:=hM.e2 e he
      have:=h2 x hx
      rw [h4] at this
      intro hk'
      exact this (by rw [eq_of_beq hk'])
    unfold lookV
    rw [this]
    simp [Instr.lookup,run_underlying ht,MapKept.run_getObj_map hb,K.check w _ hkey,h1,hz,Result.andThen]
  · obtain ⟨e,he,h4,h5⟩:=hM.e1 e0 (List.mem_of_getElem? h2)
    rw [h3] at h4
    have hk':e.k=k:=by injection h4 with _ h;exact h.symm
    unfold lookV
    rw [lookE_mem hM.keys he hk']
    simp [Instr.lookup,run_underlying ht,MapKept.run_getObj_map hb,K.check w _ hkey,h1,Result.andThen,h5]

def putE(L:List Ent)(e:Ent):List Ent:=L.filter (fun x=>x.k != e.k)++[e]
theorem mem_putE{L:List Ent}{e x:Ent}:x∈putE L e↔(x∈L∧x.k≠e.k)∨x=e:=by simp [putE]

theorem put_run(ht:P.underlying t=some (.map kt et))(hkt:P.underlying kt=some (.int .i64))(hb:w.heap[mb]? = some (.map es cl))(hM:MapOK mb es L)(e:Ent)(he:e.OK)
    (hblk:e.b≠mb∧∀ x∈L,x.k≠e.k→x.b≠e.b) :
    ∃ es' cl',(Instr.mapUpdate t (.map (some mb)) (.int .i64 e.k) e.val).run P w = .ok () (setBlock w mb (.map es' cl'))∧MapOK mb es' (putE L e):=by
  have K:=int_keyed hkt
  have hkey:=keyInt hkt he.key
  have hes:∀ e∈es.toList,∃ l,keyOf P kt e.key=some l:=fun x hx=>by
    obtain ⟨e,he,h1,_⟩:=hM.e1 x hx
    exact ⟨_,by rw [h1];exact keyInt hkt (hM.ok e he).key⟩
  have hok:∀ x∈putE L e,x.OK:=fun x hx=>by
    rcases mem_putE.1 hx with ⟨h1,_⟩ | rfl
    · exact hM.ok x h1
    · exact he
  have hkeys:((putE L e).map (·.k)).Nodup:=by
    unfold putE
    rw [List.map_append,List.nodup_append]
    refine ⟨?_,by simp,?_⟩
    · exact (List.Sublist.map _ (List.filter_sublist)).nodup hM.keys
    · intro x hx y hy
      obtain ⟨z,hz,rfl⟩:=List.mem_map.1 hx
      simp at hy
      subst hy
      have:=(List.mem_filter.1 hz).2
      simpa using this
  have hblks:(mb::(putE L e).map (·.b)).Nodup:=by
    have h0:=List.nodup_cons.1 hM.blks
    refine List.nodup_cons.2 ⟨?_,?_⟩
    · intro hin
      obtain ⟨x,hx,hxb⟩:=List.mem_map.1 hin
      rcases mem_putE.1 hx with ⟨h1,_⟩ | rfl
      · exact h0.1 (List.mem_map.2 ⟨x,h1,hxb⟩)
      · exact hblk.1 hxb
    · unfold putE
      rw [List.map_append,List.nodup_append]
      refine ⟨(List.Sublist.map _ (List.filter_sublist)).nodup h0.2,by simp,?_⟩
      intro x hx y hy
      obtain ⟨z,hz,rfl⟩:=List.mem_map.1 hx
      simp at hy
      subst hy
      obtain ⟨h1,h2⟩:=List.mem_filter.1 hz
      exact hblk.2 z h1 (by simpa using h2)
  rcases K.find w hkey es.toList hes with ⟨h1,h2⟩ | ⟨j,e0,h1,h2,h3⟩
  · refine ⟨es.push ⟨.int .i64 e.k,e.val,cl⟩,cl+1,?_,⟨fun x hx => ?_,fun x hx => ?_,?_,hok,hkeys,hblks⟩⟩
    · simp [Instr.mapUpdate,run_underlying ht,MapKept.run_getObj_map hb,K.check w false hkey,h1,MapKept.run_setObj_map _ hb,Result.andThen,setBlock]
    · simp only [Array.toList_push,List.mem_append,List.mem_singleton] at hx
      rcases hx with hx | rfl
      · obtain ⟨y,hy,q1,q2⟩:=hM.e1 x hx
        refine ⟨y,mem_putE.2 (.inl ⟨hy,fun hk=>h2 x hx (by rw [q1,hk])⟩),q1,q2⟩
      · exact ⟨e,mem_putE.2 (.inr rfl),rfl,rfl⟩
    · rcases mem_putE.1 hx with ⟨q1,_⟩ | rfl
      · obtain ⟨y,hy,q2⟩:=hM.e2 x q1
        exact ⟨y,by simp [hy],q2⟩
      · exact ⟨⟨.int .i64 x.k,x.val,cl⟩,by simp,rfl,rfl⟩
    · rw [Array.toList_push,List.pairwise_append]
      exact ⟨hM.nd,by simp,fun x hx y hy=>by simp at hy;subst hy;exact h2 x hx⟩
  · have hj:es[j]? = some e0:=by simpa using h2
    have hlist:(es.modify j (fun e'=>{ e' with key := .int .i64 e.k,val:=e.val })).toList=es.toList.set j { e0 with key := .int .i64 e.k,val:=e.val }:=by
      rw [Array.toList_modify,Go.ChangeMaps.modify_eq_set _ _ _ _ h2]
    have hjl:j<es.toList.length:=(List.getElem?_eq_some_iff.1 h2).1
    have hother:∀ i x,es.toList[i]? = some x→i≠j→x.key ≠ .int .i64 e.k:=fun i x hi hij=>by
      rw [← h3]
      obtain ⟨hi1,rfl⟩:=List.getElem?_eq_some_iff.1 hi
      obtain ⟨hj1,hje⟩:=List.getElem?_eq_some_iff.1 h2
      have:=List.pairwise_iff_getElem.1 hM.nd
      rcases Nat.lt_or_ge i j with h | h
      · rw [← hje];exact this i j hi1 hj1 h
      · rw [← hje];exact (this j i hj1 hi1 (by omega)).symm
    have who:∀ x∈es.toList.set j { e0 with key := .int .i64 e.k,val:=e.val },x={ e0 with key := .int .i64 e.k,val:=e.val }∨(x∈es.toList∧x.key ≠ .int .i64 e.k):=fun x hx=>by
      obtain ⟨i,hi,ex⟩:=List.getElem_of_mem hx
      rw [List.getElem_set] at ex
      split at ex
      · exact .inl ex.symm
      · rename_i hne
        have hi':i<es.toList.length:=by simpa using hi
        exact .inr ⟨ex ▸ List.getElem_mem hi',hother i x (by rw [List.getElem?_eq_getElem hi',ex]) (fun e=>hne e.symm)⟩
    refine ⟨es.modify j (fun e'=>{ e' with key := .int .i64 e.k,val:=e.val }),cl,?_,⟨fun x hx => ?_,fun x hx => ?_,?_,hok,hkeys,hblks⟩⟩
    · simp [Instr.mapUpdate,run_underlying ht,MapKept.run_getObj_map hb,K.check w false hkey,h1,hj,h3,K.stays w hkey,MapKept.run_setObj_map _ hb,Result.andThen,setBlock]
    · rw [hlist] at hx
      rcases who x hx with rfl | ⟨q1,q2⟩
      · exact ⟨e,mem_putE.2 (.inr rfl),rfl,rfl⟩
      · obtain ⟨y,hy,r1,r2⟩:=hM.e1 x q1
        exact ⟨y,mem_putE.2 (.inl ⟨hy,fun hk=>q2 (by rw [r1,hk])⟩),r1,r2⟩
    · rw [hlist]
      rcases mem_putE.1 hx with ⟨q1,q2⟩ | rfl
      · obtain ⟨y,hy,r1,r2⟩:=hM.e2 x q1
        obtain ⟨i,hi,rfl⟩:=List.getElem_of_mem hy
        have hij:i≠j:=fun hij=>by
          subst hij
          rw [List.getElem?_eq_getElem hi] at h2;cases h2
          rw [h3] at r1;injection r1 with _ r1;exact q2 r1.symm
        exact ⟨es.toList[i],List.mem_iff_getElem.2 ⟨i,by simpa using hi,by rw [List.getElem_set,if_neg (Ne.symm hij)]⟩,r1,r2⟩
      · exact ⟨_,List.mem_iff_getElem.2 ⟨j,by simpa using hjl,by rw [List.getElem_set,if_pos rfl]⟩,rfl,rfl⟩
    · rw [hlist,List.pairwise_iff_getElem]
      intro i1 i2 hi1 hi2 hlt
      simp only [List.length_set] at hi1 hi2
      have h0:=List.pairwise_iff_getElem.1 hM.nd i1 i2 hi1 hi2 hlt
      rw [List.getElem_set,List.getElem_set]
      split
      · rename_i e1
        rw [if_neg (by omega)]
        exact (hother i2 _ (List.getElem?_eq_getElem hi2) (by omega)).symm
      · split
        · exact hother i1 _ (List.getElem?_eq_getElem hi1) (by omega)
        · exact h0

theorem Ent.owns{e:Ent}(he:e.OK)(h:w.heap[e.b]? = some (.cells e.arr 3 (0,0))):w.ownsRow 0 3 1 e.val e.l.length (e.l.map (Value.int .i64)) :=
  ⟨by simp,.inr ⟨e.b,e.cap,e.arr,rfl,Nat.zero_le _,h,he.le,he.cap,by rw [he.sz,Nat.mul_one],by rw [Nat.mul_one];exact he.at_⟩⟩
theorem nil_owns:w.ownsRow 0 3 1 (.slice none 0 0) 0 []:=⟨rfl,.inl ⟨rfl,rfl⟩⟩
theorem owns_ent{v:Value}{l:List Int}{k:Int}(hk:(Lit.int .i64 k).wf=true)(hl:l≠[])(h:w.ownsRow 0 3 1 v l.length (l.map (Value.int .i64))):∃ e:Ent,e.k=k∧e.l=l∧e.val=v∧e.OK∧w.heap[e.b]? = some (.cells e.arr 3 (0,0)):=by
  rcases h.2 with ⟨_,h0⟩ | ⟨g,cap,cur,rfl,_,h1,h2,h3,h4,h5⟩
  · exact absurd (List.eq_nil_of_length_eq_zero h0) hl
  · exact ⟨⟨k,l,g,cap,cur⟩,rfl,rfl,rfl,⟨hk,by rw [h4,Nat.mul_one],h2,h3,by rw [Nat.mul_one] at h5;exact h5⟩,h1⟩
end
end
section
variable {P:Program} {C C0:Cx} {M M0:Mem} {w w0:World}

abbrev SR:=St→List (Nat × Obj)→Prop
def SimR(P:Program)(C0:Cx)(M0:Mem)(w0:World)(Ψ:SR)(a:Act)(w:World):Prop:=∃ st R,Ψ st R∧(∀ p∈R,∀ q∈C0.R,p.1≠q.1)∧Sim P (C0.with (R++C0.R)) M0 w0 st a w
def CodeR(P:Program)(k:Nat)(c:Code)(Ψ:SR)(e:Ex)(Ψ':SR):Prop:=∀ (C0:Cx) (M0:Mem) (w0:World) (a:Act) (w:World),M0.length≤k→SimR P C0 M0 w0 Ψ a w→∀ (n:Nat),c.wpIn (Fen none) n P (fun e' a' w'=>e'=e.toExit∧SimR P C0 M0 w0 Ψ' a' w') a w
def LoopR(P:Program)(k:Nat)(b:Code)(Ψ:SR)(e:Ex)(Ψ':SR):Prop:=∀ (C0:Cx) (M0:Mem) (w0:World) (a:Act) (w:World),M0.length≤k→SimR P C0 M0 w0 Ψ a w→∀ (n:Nat),LoopIn (Fen none) n P b (fun e' a' w'=>e'=e.toExit∧SimR P C0 M0 w0 Ψ' a' w') a w

section
variable {k:Nat} {a b c:Code} {Ψ Ψ1 Ψ':SR} {e:Ex}
theorem CodeR.of(h:∀ st R,Ψ st R→∃ st',Ψ' st' R∧CodeOK P k c st e st'):CodeR P k c Ψ e Ψ':=fun C0 M0 w0 a w hk ⟨st,R,hΨ,hd,hs⟩ n=>by
  obtain ⟨st',hΨ',hc⟩:=h st R hΨ
  refine wpIn_mono (hc (C0.with (R++C0.R)) M0 w0 a w hk hs none (.inl rfl) n) fun e' a' w' hq=>⟨hq.1,st',R,hΨ',hd,hq.2⟩
theorem CodeR.mono{Φ Φ':SR}(h:CodeR P k c Ψ e Ψ')(h1:∀ st R,Φ st R→Ψ st R)(h2:∀ st R,Ψ' st R→Φ' st R):CodeR P k c Φ e Φ':=fun C0 M0 w0 a w hk ⟨st,R,hΨ,hd,hs⟩ n =>
  wpIn_mono (h C0 M0 w0 a w hk ⟨st,R,h1 _ _ hΨ,hd,hs⟩ n) fun e' a' w' ⟨q,st',R',hq,hd',hs'⟩=>⟨q,st',R',h2 _ _ hq,hd',hs'⟩
theorem CodeR.seq(h:CodeR P k a Ψ .normal Ψ1)(h2:CodeR P k b Ψ1 e Ψ'):CodeR P k (.seq a b) Ψ e Ψ':=fun C0 M0 w0 ac w hk hs n=>by
  refine wpIn_seq (wpIn_mono (h C0 M0 w0 ac w hk hs n) ?_)
  rintro e' a' w' ⟨rfl,hs'⟩
  exact h2 C0 M0 w0 a' w' hk hs' n
theorem CodeR.seqx(h:CodeR P k a Ψ e Ψ')(he:e ≠ .normal):CodeR P k (.seq a b) Ψ e Ψ':=fun C0 M0 w0 ac w hk hs n=>by
  refine wpIn_seq (wpIn_mono (h C0 M0 w0 ac w hk hs n) ?_)
  rintro e' a' w' ⟨rfl,hs'⟩
  cases e with
  | normal=>exact absurd rfl he
  | ret=>exact ⟨rfl,hs'⟩
  | exit i=>exact ⟨rfl,hs'⟩
theorem CodeR.block{id:Nat}(h:CodeR P k b Ψ (.exit id) Ψ'):CodeR P k (.block id b) Ψ .normal Ψ':=fun C0 M0 w0 ac w hk hs n=>by
  refine wpIn_block (wpIn_mono (h C0 M0 w0 ac w hk hs n) ?_)
  rintro e' a' w' ⟨rfl,hs'⟩
  simp only [Ex.toExit,Exit.inBlock,if_true]
  exact ⟨trivial,hs'⟩
theorem CodeR.blockn{id:Nat}(h:CodeR P k b Ψ .normal Ψ'):CodeR P k (.block id b) Ψ .normal Ψ':=fun C0 M0 w0 ac w hk hs n=>by
  refine wpIn_block (wpIn_mono (h C0 M0 w0 ac w hk hs n) ?_)
  rintro e' a' w' ⟨rfl,hs'⟩
  exact ⟨rfl,hs'⟩
theorem LoopR.step(h:CodeR P k b Ψ .normal Ψ1)(hr:LoopR P k b Ψ1 e Ψ'):LoopR P k b Ψ e Ψ':=fun C0 M0 w0 a w hk hs n=>LoopIn.step (wpIn_mono (h C0 M0 w0 a w hk hs n) fun e' a' w' hq=>by
  obtain ⟨rfl,hs'⟩:=hq
  exact hr C0 M0 w0 a' w' hk hs' n)
theorem LoopR.exit(h:CodeR P k b Ψ e Ψ')(he:e ≠ .normal):LoopR P k b Ψ e Ψ':=fun C0 M0 w0 a w hk hs n=>LoopIn.step (wpIn_mono (h C0 M0 w0 a w hk hs n) fun e' a' w' hq=>by
  obtain ⟨rfl,hs'⟩:=hq
  cases e with
  | normal=>exact absurd rfl he
  | ret=>exact ⟨rfl,hs'⟩
  | exit id=>exact ⟨rfl,hs'⟩)
theorem LoopR.code(h:LoopR P k b Ψ e Ψ'):CodeR P k (.loop b) Ψ e Ψ':=fun C0 M0 w0 a w hk hs n=>LoopIn.wp (h C0 M0 w0 a w hk hs n)
theorem LoopR.times(N:Nat)(Ψ:Nat→SR)(hs:∀ i,i<N→CodeR P k b (Ψ i) .normal (Ψ (i+1)))(hx:CodeR P k b (Ψ N) e Ψ')(he:e ≠ .normal):LoopR P k b (Ψ 0) e Ψ':=by
  have key:∀ d i,i+d=N→LoopR P k b (Ψ i) e Ψ':=by
    intro d
    induction d with
    | zero => intro i hi;obtain rfl:i=N:=by omega
              exact .exit hx he
    | succ d ih=>intro i hi;exact .step (hs i (by omega)) (ih (i+1) (by omega))
  exact key N 0 (by omega)
theorem CodeR.ok{st st':St}(hn:nrf c=false)(h:CodeR P k c (fun s R=>s=st∧R=[]) e (fun s _=>s=st')):CodeOK P k c st e st':=fun C0 M0 w0 a w hk hs ro hro n=>by
  rcases hro with rfl | hro
  · refine wpIn_mono (h C0 M0 w0 a w hk ⟨st,[],⟨rfl,rfl⟩,by simp,hs⟩ n) ?_
    rintro e' a' w' ⟨q,st1,R,rfl,_,hs'⟩
    exact ⟨q,hs'.less fun p hp=>List.mem_append_right _ hp⟩
  · rw [hn] at hro;cases hro
theorem CodeR.hand(h:∀ (C0:Cx) (M0:Mem) (w0:World) (a:Act) (w:World) (st:St) (R:List (Nat × Obj)),M0.length≤k→Ψ st R→(∀ p∈R,∀ q∈C0.R,p.1≠q.1)→Sim P (C0.with (R++C0.R)) M0 w0 st a w→c.wp P (fun e' a' w'=>e'=e.toExit∧SimR P C0 M0 w0 Ψ' a' w') a w):CodeR P k c Ψ e Ψ':=fun C0 M0 w0 a w hk ⟨st,R,hΨ,hd,hs⟩ n =>
  (wpIn_wide (n:=n)).2 (h C0 M0 w0 a w st R hk hΨ hd hs)
end

theorem Sim.slot{st:St}{a:Act}(h:Sim P C0 M0 w0 st a w){i:Nat}{v:Value}(hi:st.t[i]? = some (.p (.v v))):a.tmps.getD i undef=v:=by
  obtain ⟨C,hS,_⟩:=h
  have:=hS.at hi
  cases this with
  | p _ _ h=>cases h;rfl
theorem Sim.size{st:St}{a:Act}(h:Sim P C0 M0 w0 st a w):a.tmps.size=st.t.length:=by
  obtain ⟨C,hS,_⟩:=h
  exact hS.size
theorem Sim.ints{st:St}{a:Act}{R:List (Nat × Obj)}(h:Sim P (C0.with R) M0 w0 st a w){i:Nat}{l:List Int}(hi:st.t[i]? = some (.p (.sl l.length (l.map fun n => .v (.int .i64 n))))) :
    ∃ p cap,a.tmps.getD i undef = .slice p l.length cap∧l.length≤cap∧cap≤maxLen∧∀ j n,l[j]? = some n→∃ b o,p=some ⟨b,o,none⟩∧b<w.heap.size∧w.cell? ⟨b,o+j,none⟩=some (.int .i64 n)∧∀ q∈R,q.1≠b:=by
  obtain ⟨C,hS,hM,_,_,hR,_⟩:=h
  have:=hS.at hi
  cases this with
  | p _ _ h =>
    generalize hv:a.tmps.getD i undef=v at h
    generalize hn:l.length=n at h
    generalize hc:(l.map fun n=>PV.v (.int .i64 n))=cs at h
    cases h with
    | sl n cs p cap us h1 h2 h3 h4 h5 =>
      refine ⟨p,cap,rfl,h1,h2,fun j m hj => ?_⟩
      have hjl:j<cs.length:=by
        rw [← hc,List.length_map]
        exact (List.getElem?_eq_some_iff.1 hj).1
      obtain ⟨b,o,q1,q2,q3⟩:=h3 j hjl
      refine ⟨b,o,q1,hM.Fs _ q2,?_,fun q hq e=>(hR q hq).2.2.2.1 (e ▸ q2)⟩
      rw [q3]
      have h6:=h4 j hjl
      have:cs[j] = .v (.int .i64 m):=by
        subst hc
        rw [List.getElem_map]
        obtain ⟨_,h7⟩:=List.getElem?_eq_some_iff.1 hj
        rw [h7]
      rw [this] at h6
      generalize us j=u at h6
      cases h6;rfl
end
section
variable {P:Program} {ops:Array Oper} {md:Region.Mode} {S:World→Prop} {Q:Exit→Act→World→Prop} {L:Nat}

def wpAnyL(P:Program)(md:Region.Mode)(ops:Array Oper)(Q:Exit→Act→World→Prop)(S:World→Prop)(L:Nat):Nat→Array Bool→Act→World→Prop
  | 0,listed,a,w=>Region.ready md ops listed=[]∧Q .normal a w
  | fuel+1,listed,a,w=>(Region.ready md ops listed=[]→Q .normal a w) ∧
    ∀ i∈Region.ready md ops listed,wpOp P ops Q i (fun a' w'=>(i≠L→S w')∧wpAnyL P md ops Q S L fuel (listed.setIfInBounds i true) a' w') a w

theorem wpAny_of_L:∀ (fuel:Nat) (listed:Array Bool) (a:Act) (w:World),wpAnyL P md ops Q S L fuel listed a w→wpAny P md ops Q fuel listed a w
  | 0,_,_,_,h=>h
  | fuel+1,_,_,_,h=>⟨h.1,fun i hi=>wpOp_mono (fun a' w' h'=>wpAny_of_L fuel _ a' w' h'.2) (h.2 i hi)⟩

theorem wpAnyL_first{i:Nat}{oi:Oper}{v:Value}(hi:ops[i]? = some oi)(hsel:∀ (j:Nat) (o:Oper) cs b,ops[j]? = some o→o.op ≠ .select cs b)
    (hQ:∀ c a w,Q (.panic c) (a.put oi.dst v) w→Q (.panic c) a w) (hL:∀ oL,ops[L]? = some oL→∃ e∈oL.after,Region.binds md e=true∧e.on=i) :
    ∀ (fuel:Nat) (listed:Array Bool) (a:Act) (w:World),
      (∀ j oj,ops[j]? = some oj→j≠i→listed.getD j true=false→(∀ e∈oj.after,Region.binds md e=true→e.on≠i)→oi.apart ops oj=true) →
      i∈Region.ready md ops listed→YieldsIf P ops S oi v a→S w →
      wpAnyL P md ops Q S L fuel (listed.setIfInBounds i true) (a.put oi.dst v) w→wpAnyL P md ops Q S L (fuel+1) listed a w:=by
  intro fuel
  induction fuel with
  | zero =>
    intro listed a w _ hr hy hS H
    refine ⟨fun h=>(by rw [h] at hr;cases hr),fun j hj => ?_⟩
    by_cases hji:j=i
    · subst hji;exact hy.wpOp hi hS ⟨fun _=>hS,H⟩
    · have:=ready_mono hj hji
      rw [H.1] at this
      cases this
  | succ fuel ih =>
    intro listed a w hfree hr hy hS H
    refine ⟨fun h=>(by rw [h] at hr;cases hr),fun j hj => ?_⟩
    by_cases hji:j=i
    · subst hji;exact hy.wpOp hi hS ⟨fun _=>hS,H⟩
    · have h1:=H.2 j (ready_mono hj hji)
      obtain ⟨hjun,oj,hoj,hall⟩:=mem_ready.1 hj
      have hnot:∀ e∈oj.after,Region.binds md e=true→e.on≠i:=fun e he hb heq=>by
        have h1:=hall e he hb
        have h0:=(mem_ready.1 hr).1
        rw [heq] at h1
        rcases Nat.lt_or_ge i listed.size with h' | h'
        · simp [h'] at h0 h1;rw [h0] at h1;cases h1
        · simp [Array.getElem?_eq_none h'] at h1
      have hjL:j≠L:=fun e=>by
        subst e
        obtain ⟨e,he,hb,ho⟩:=hL oj hoj
        exact hnot e he hb ho
      have h2:=wpOp_putIf hoj (hfree j oj hoj hji hjun hnot) (fun cs b=>hsel i oi cs b hi) (fun cs b=>hsel j oj cs b hoj) hQ hy h1
      have hfree':∀ k ok,ops[k]? = some ok→k≠i→(listed.setIfInBounds j true).getD k true=false →
          (∀ e∈ok.after,Region.binds md e=true→e.on≠i)→oi.apart ops ok=true:=fun k ok hk hki hun hno=>by
        refine hfree k ok hk hki ?_ hno
        by_cases hjk:j=k
        · subst hjk;exact hjun
        · rw [getD_set_ne true hjk] at hun;exact hun
      refine wpOp_mono (fun a' w' h3=>⟨h3.2.1,ih (listed.setIfInBounds j true) a' w' hfree' (ready_mono hr (Ne.symm hji)) h3.1 (h3.2.1 hjL) ?_⟩) h2
      rw [Array.setIfInBounds_comm _ _ hji]
      exact h3.2.2

def yieldsL(P:Program)(S:World→Prop):List (Oper × Value)→Act→Prop
  | [],_=>True
  | (o,v)::r,a=>(∀ W,S W→(execOp a.eval o).run P W = .ok (.value v) W)∧yieldsL P S r (a.put o.dst v)
def putsL:List (Oper × Value)→Act→Act
  | [],a=>a
  | (o,v)::r,a=>putsL r (a.put o.dst v)

def takeL(md:Region.Mode)(ops:Array Oper)(L:Nat)(rs:List Nat):List Nat→Array Bool→Bool
  | [],listed=>chain rs listed
  | t::ts,listed=>(match ops[t]? with | some o=>o.guard.isNone | none=>false) && (Region.ready md ops listed).contains t && Region.free md ops listed t &&
      (match ops[L]? with | some oL=>oL.after.any fun e=>Region.binds md e && e.on == t | none=>false) && takeL md ops L rs ts (listed.setIfInBounds t true)
where chain:List Nat→Array Bool→Bool
  | [],listed=>(Region.ready md ops listed).isEmpty
  | r::rs,listed=>(match ops[r]? with | some o=>o.guard.isNone | none=>false) && decide (Region.ready md ops listed=[r]) && chain rs (listed.setIfInBounds r true)

theorem wpAnyL_one{r fuel:Nat}{listed:Array Bool}{o:Oper}{a:Act}{w:World}(hr:Region.ready md ops listed=[r])(ho:ops[r]? = some o)(hg:o.guard=none){v:Value}{w':World}
    (hrun:(execOp a.eval o).run P w = .ok (.value v) w'∨(execOp a.eval o).run P w = .ok .skip w'∧v=undef) (hS:r≠L→S w') (h:wpAnyL P md ops Q S L fuel (listed.setIfInBounds r true) (a.put o.dst v) w'):wpAnyL P md ops Q S L (fuel+1) listed a w:=by
  refine ⟨fun h0=>(by rw [hr] at h0;cases h0),fun i hi => ?_⟩
  rw [hr] at hi
  obtain rfl:i=r:=by simpa using hi
  unfold wpOp
  simp only [ho]
  have hw:Region.wanted o (yielded ops a.tmps)=true:=by simp [Region.wanted,hg]
  rw [if_pos hw]
  refine .inl ?_
  unfold Oper.wp
  rcases hrun with hrun | ⟨hrun,rfl⟩
  · rw [hrun];exact ⟨hS,h⟩
  · rw [hrun];exact ⟨hS,h⟩

theorem takeL_any(hsel:Region.noSelect ops=true)(hQ:∀ c a w,¬ Q (.panic c) a w)(rs:List Nat){w:World}(hS:S w):∀ (ts:List Nat) (vs:List Value) (listed:Array Bool) (a:Act),vs.length=ts.length→takeL md ops L rs ts listed=true →
    yieldsL P S ((ts.filterMap fun i=>ops[i]?).zip vs) a→(∀ listed',takeL.chain md ops rs listed'=true→wpAnyL P md ops Q S L rs.length listed' (putsL ((ts.filterMap fun i=>ops[i]?).zip vs) a) w)→wpAnyL P md ops Q S L (ts.length+rs.length) listed a w
  | [],vs,listed,a,hl,hB,hy,h=>by
    have:vs=[]:=by simpa using hl
    subst this
    simp only [List.length_nil,Nat.zero_add]
    exact h listed hB
  | t::ts,[],listed,a,hl,hB,hy,h=>by simp at hl
  | t::ts,v::vs,listed,a,hl,hB,hy,h=>by
    simp only [takeL,Bool.and_eq_true] at hB
    obtain ⟨⟨⟨⟨hp,hrd⟩,hf⟩,hlast⟩,hB'⟩:=hB
    cases ho:ops[t]? with
    | none=>rw [ho] at hp;cases hp
    | some o =>
      rw [ho] at hp
      simp only [Option.isNone_iff_eq_none] at hp
      have e0:(t::ts).filterMap (fun i=>ops[i]?)=o::ts.filterMap (fun i=>ops[i]?):=by simp [ho]
      rw [e0,List.zip_cons_cons] at hy h
      have hw:Region.wanted o (yielded ops a.tmps)=true:=by simp [Region.wanted,hp]
      have e:(t::ts).length+rs.length=(ts.length+rs.length)+1:=by simp;omega
      rw [e]
      refine wpAnyL_first ho (Region.noSelect_spec hsel) (fun c a w hq=>absurd hq (hQ _ _ _)) (fun oL hoL => ?_) _ _ _ _ (Region.free_spec ho hf) (by simpa using hrd) (.inl ⟨hw,hy.1⟩) hS ?_
      · rw [hoL] at hlast
        obtain ⟨e,he,hb⟩:=Array.any_eq_true'.1 hlast
        simp only [Bool.and_eq_true,beq_iff_eq] at hb
        exact ⟨e,he,hb.1,hb.2⟩
      · exact takeL_any hsel hQ rs hS ts vs _ _ (by simpa using hl) hB' hy.2 h

def closedL(l:List Oper)(ts:List Nat)(r1 r2 r3:Nat):Bool :=
  Region.noSelect l.toArray && takeL .any l.toArray r3 [r1,r2,r3] ts (Array.replicate l.toArray.size false) && decide (ts.length+3=l.toArray.size) && decide (r1≠r3∧r2≠r3)

theorem region3{id:Nat}{l:List Oper}{a:Act}{w:World}{o1 o2 o3:Oper}(ts:List Nat)(r1 r2 r3:Nat)(hm:P.follows .mixedOrders=true)(hB:closedL l ts r1 r2 r3=true)(h1:l[r1]? = some o1)(h2:l[r2]? = some o2)(h3:l[r3]? = some o3)
    (hQ:∀ c a w,¬ Q (.panic c) a w) (hS:S { w with drawn:=w.drawn+1 }) (vs:List Value) (hl:vs.length=ts.length) (hy:yieldsL P S ((ts.filterMap fun i=>l[i]?).zip vs) a)
    (h:∀ a',a'=putsL ((ts.filterMap fun i=>l[i]?).zip vs) a→∃ v1 w1 v2 w2 w3,(execOp a'.eval o1).run P { w with drawn:=w.drawn+1 } = .ok (.value v1) w1∧S w1∧(execOp (a'.put o1.dst v1).eval o2).run P w1 = .ok (.value v2) w2∧S w2 ∧
      (execOp ((a'.put o1.dst v1).put o2.dst v2).eval o3).run P w2 = .ok .skip w3∧Q .normal (((a'.put o1.dst v1).put o2.dst v2).put o3.dst undef) w3):(Code.region id l.toArray true).wp P Q a w:=by
  unfold closedL at hB
  simp only [Bool.and_eq_true,decide_eq_true_eq] at hB
  obtain ⟨⟨⟨hsel,ht⟩,hsz⟩,hne⟩:=hB
  refine wp_region_any hm (wpAny_of_L (S:=S) (L:=r3) _ _ _ _ ?_)
  rw [← hsz]
  refine takeL_any (rs:=[r1,r2,r3]) hsel hQ hS ts vs _ a hl (by rw [hsz];exact ht) (by simpa using hy) (fun listed' hc => ?_)
  obtain ⟨v1,w1,v2,w2,w3,e1,s1,e2,s2,e3,hq⟩:=h _ rfl
  simp only [takeL.chain,Bool.and_eq_true,decide_eq_true_eq] at hc
  obtain ⟨⟨g1,c1⟩,⟨g2,c2⟩,⟨g3,c3⟩,c4⟩:=hc
  have k1:l.toArray[r1]? = some o1:=by simpa using h1
  have k2:l.toArray[r2]? = some o2:=by simpa using h2
  have k3:l.toArray[r3]? = some o3:=by simpa using h3
  rw [k1] at g1;rw [k2] at g2;rw [k3] at g3
  simp only [Option.isNone_iff_eq_none] at g1 g2 g3
  have e1':((ts.filterMap fun i=>l.toArray[i]?))=(ts.filterMap fun i=>l[i]?):=by simp
  rw [e1']
  refine wpAnyL_one c1 k1 g1 (.inl e1) (fun _=>s1) ?_
  refine wpAnyL_one c2 k2 g2 (.inl e2) (fun _=>s2) ?_
  refine wpAnyL_one c3 k3 g3 (.inr ⟨e3,rfl⟩) (fun h=>absurd rfl h) ?_
  exact ⟨by simpa using c4,hq⟩

theorem eval_put_same{a:Act}{i:Nat}{v:Value}(h:i<a.tmps.size):(a.put (some i) v).eval (.tmp i)=v:=by
  simp [Act.eval,Act.put,h]
theorem eval_put_ne{a:Act}{i j:Nat}{v:Value}(h:(i == j)=false):(a.put (some i) v).eval (.tmp j)=a.eval (.tmp j):=by
  have:i≠j:=by simpa using h
  simp [Act.eval,Act.put,this]
theorem eval_tmp{a:Act}{i:Nat}:a.eval (.tmp i)=a.tmps.getD i undef:=rfl
theorem put_size{a:Act}{i:Nat}{v:Value}:(a.put (some i) v).tmps.size=a.tmps.size:=by simp [Act.put]
theorem lex_one{id:Nat}{o:Oper}{rest:List Oper}{a:Act}{w w':World}{v:Value}(hg:o.guard=none)(hrun:(execOp a.eval o).run P w = .ok (.value v) w')(h:wpList P ops Q rest (a.put o.dst v) w'):wpList P ops Q (o::rest) a w :=
  wpList_plain hg fun K hK=>by
    unfold Oper.wp
    rw [hrun]
    exact hK _ _ h

def isAnyB:Option AV→Bool
  | some .any=>true
  | _=>false
theorem putAny{l:List AV}{d:Nat}(h:isAnyB l[d]? = true):l.set d .any=l:=by
  cases hd:l[d]? with
  | none=>rw [hd] at h;cases h
  | some x =>
    rw [hd] at h
    have hx:x = .any:=by cases x <;> first | rfl | cases h
    subst hx
    obtain ⟨h1,h2⟩:=List.getElem?_eq_some_iff.1 hd
    rw [← h2]
    exact List.set_getElem_self h1
theorem Sim.any{C0:Cx}{M0:Mem}{w0 w:World}{st:St}{a:Act}(h:Sim P C0 M0 w0 st a w)(d:Option Tmp)(v:Value)(hd:∀ i,d=some i→isAnyB st.t[i]? = true):Sim P C0 M0 w0 st (a.put d v) w:=by
  have h1:=h.put d (x := .any) (u:=v) (fun _ _ => .any _)
  cases d with
  | none=>exact h1
  | some i =>
    have:KV.put st.t (some i) .any=st.t:=putAny (hd i rfl)
    rw [this] at h1
    exact h1
theorem Sim.anyL{C0:Cx}{M0:Mem}{w0 w:World}{st:St}:∀ (l:List (Oper × Value)) {a:Act},Sim P C0 M0 w0 st a w→(l.all fun p=>match p.1.dst with | some i=>isAnyB st.t[i]? | none=>true)=true→Sim P C0 M0 w0 st (putsL l a) w
  | [],a,h,_=>h
  | (o,v)::r,a,h,hb=>by
    rw [List.all_cons,Bool.and_eq_true] at hb
    refine Sim.anyL r (h.any o.dst v fun i hi => ?_) hb.2
    have:=hb.1
    dsimp only at this
    rw [hi] at this
    exact this
end
section
open Go.Maps Go.MapKept
open Go.ChangeMaps (setBlock)
variable {P:Program} {C C0:Cx} {M M0:Mem} {w w0:World}

section
variable {o:Oper} {a:Act} {W W':World}
theorem ex_move{x:Operand}{v:Value}(ho:o.op = .move x)(hv:a.eval x=v):(execOp a.eval o).run P W = .ok (.value v) W:=by
  unfold execOp;rw [ho];simp [hv]
theorem ex_assign{x:Operand}{v:Value}(ho:o.op = .assign x)(hv:a.eval x=v):(execOp a.eval o).run P W = .ok (.value v) W:=by
  unfold execOp;rw [ho];simp [hv]
theorem ex_index{t:TypeId}{x ix:Operand}{v u r:Value}(ho:o.op = .indexAddr t x ix)(hx:a.eval x=v)(hi:a.eval ix=u)(hr:(Instr.indexAt t v u).run P W = .ok r W):(execOp a.eval o).run P W = .ok (.value r) W:=by
  unfold execOp;rw [ho];simp [hx,hi,hr,Result.andThen]
theorem ex_load{t:TypeId}{x:Operand}{v r:Value}(ho:o.op = .load t x)(hx:a.eval x=v)(hr:(Instr.loadAt t v).run P W = .ok r W):(execOp a.eval o).run P W = .ok (.value r) W:=by
  unfold execOp;rw [ho];simp [hx,hr,Result.andThen]
theorem ex_lookup{t:TypeId}{x k:Operand}{v u r:Value}(ho:o.op = .lookup t x k false)(hx:a.eval x=v)(hk:a.eval k=u)(hr:(Instr.lookup t v u false).run P W = .ok r W):(execOp a.eval o).run P W = .ok (.value r) W:=by
  unfold execOp;rw [ho];simp [hx,hk,hr,Result.andThen]
theorem ex_build1{t:TypeId}{x:Operand}{v r:Value}(ho:o.op = .buildSlice t 1 #[(0,x)])(hx:a.eval x=v)(hr:(Instr.buildSlice t 1 #[(0,v)]).run P W = .ok r W'):(execOp a.eval o).run P W = .ok (.value r) W':=by
  unfold execOp;rw [ho];simp [hx,hr,Result.andThen]
theorem ex_append{t:TypeId}{s x:Operand}{v u r:Value}(ho:o.op = .call { callee := .builtin .append,args := #[s,x],argTypes := #[t,t] })(hs:a.eval s=v)(hx:a.eval x=u)(hr:(Builtin.append_ #[t,t] o.type #[v,u]).run P W = .ok r W') :
    (execOp a.eval o).run P W = .ok (.value r) W':=by
  unfold execOp
  simp only [ho,resolve,invoke,builtin,Sem.run_bind,Sem.run_pure,Result.andThen_ok,List.map_toArray,List.map_cons,List.map_nil,hs,hx,hr]
theorem ex_update{t:TypeId}{m k x:Operand}{v u y:Value}(ho:o.op = .mapUpdate t m k x)(hm:a.eval m=v)(hk:a.eval k=u)(hx:a.eval x=y)(hr:(Instr.mapUpdate t v u y).run P W = .ok () W'):(execOp a.eval o).run P W = .ok .skip W':=by
  unfold execOp;rw [ho];simp [hm,hk,hx,hr,Result.andThen]
theorem ex_makeMap{t:TypeId}(ho:o.op = .makeMap t none):(execOp a.eval o).run P W = .ok (.value (.map (some W.heap.size))) (W.alloc (.map #[] 0)):=by
  have hr:(Instr.makeMap t none).run P W = .ok (.map (some W.heap.size)) (W.alloc (.map #[] 0)):=rfl
  unfold execOp;rw [ho];simp [hr,Result.andThen]
end

theorem run_load1{t:Nat}{i:TI}(hi:tiOf P t=some i)(ha:i.agg=false){b o:Nat}{v:Value}(h:w.cell? ⟨b,o,none⟩=some v):(Instr.loadAt t (.pointer (some ⟨b,o,none⟩))).run P w = .ok v w:=by
  unfold Instr.loadAt Instr.sureAddr
  simpa using run_loadVar_one hi ha h

def mapR(mb:Nat)(es:Array MapEntry)(cl:Nat)(L:List Ent):List (Nat × Obj):=(mb,.map es cl)::L.map Ent.blk
theorem mem_mapR{mb:Nat}{es:Array MapEntry}{cl:Nat}{L:List Ent}{p:Nat × Obj}:p∈mapR mb es cl L↔p=(mb,.map es cl)∨∃ e∈L,e.blk=p:=by simp [mapR]
def lookL(L:List Ent)(k:Int):List Int:=match lookE L k with
  | some e=>e.l
  | none=>[]
theorem inj_of_nodup{α β:Type}(f:α→β){x y:α}:∀ (L:List α),(L.map f).Nodup→x∈L→y∈L→f x=f y→x=y
  | [],_,h,_,_=>by simp at h
  | a::r,hn,hx,hy,he=>by
    rw [List.map_cons,List.nodup_cons] at hn
    rcases List.mem_cons.1 hx with e1 | h1
    · rcases List.mem_cons.1 hy with e2 | h2
      · rw [e1,e2]
      · exact absurd (List.mem_map.2 ⟨y,h2,by rw [← he,e1]⟩) hn.1
    · rcases List.mem_cons.1 hy with e2 | h2
      · exact absurd (List.mem_map.2 ⟨x,h1,by rw [he,e2]⟩) hn.1
      · exact inj_of_nodup f r hn.2 h1 h2 he
theorem MapOK.b_inj{mb:Nat}{es:Array MapEntry}{L:List Ent}(h:MapOK mb es L){e e':Ent}(he:e∈L)(he':e'∈L)(hb:e.b=e'.b):e=e':=inj_of_nodup (·.b) L (List.nodup_cons.1 h.blks).2 he he' hb
theorem MapOK.b_mb{mb:Nat}{es:Array MapEntry}{L:List Ent}(h:MapOK mb es L){e:Ent}(he:e∈L):e.b≠mb:=fun hb=>(List.nodup_cons.1 h.blks).1 (List.mem_map.2 ⟨e,he,hb⟩)

theorem mapStep{t kt:TypeId}{S22 ty:TypeId}{st:St}{a:Act}{mb cl:Nat}{es:Array MapEntry}{L:List Ent}{k x:Int}(ht:P.underlying t=some (.map kt S22))(hkt:P.underlying kt=some (.int .i64))(h22:P.underlying S22=some (.slice 3))
    (hi3:(P.info? 3).map (fun i=>(i.zero,i.size,i.bytes))=some (some (.int .i64 0),1,8))
    (hs:Sim P (C0.with (mapR mb es cl L++C0.R)) M0 w0 st a w) (hd:∀ p∈mapR mb es cl L,∀ q∈C0.R,p.1≠q.1) (hM:MapOK mb es L) (hk:(Lit.int .i64 k).wf=true) (hl:∀ e∈L,e.l.length≤1000) :
    ∃ v2 w2 es' cl' e,(Builtin.append_ #[S22,S22] ty #[lookV L k,.slice (some ⟨w.heap.size,0,none⟩) 1 1]).run P (w.alloc (.cells #[.int .i64 x] 3)) = .ok v2 w2 ∧
      (∀ b,b<w.heap.size→(∀ q∈mapR mb es cl L,q.1≠b)→w2.heap[b]? = w.heap[b]?)∧w2.heap[mb]? = w.heap[mb]? ∧
      (Instr.mapUpdate t (.map (some mb)) (.int .i64 k) v2).run P w2 = .ok () (setBlock w2 mb (.map es' cl'))∧MapOK mb es' (putE L e)∧e.k=k∧e.l=lookL L k++[x] ∧
      (∀ p∈mapR mb es' cl' (putE L e),∀ q∈C0.R,p.1≠q.1)∧Sim P (C0.with (mapR mb es' cl' (putE L e)++C0.R)) M0 w0 st a (setBlock w2 mb (.map es' cl')):=by
  obtain ⟨i,hi,hz,hz1,hz2⟩:=info_parts hi3
  have hhas:=hs.has
  have hmb:w.heap[mb]? = some (.map es cl):=hhas (mb,.map es cl) (by simp [mapR])
  have hmlt:=lt_of_some hmb
  have hblkh:∀ e∈L,w.heap[e.b]? = some (.cells e.arr 3 (0,0)):=fun e he=>hhas e.blk (by simp [mapR];exact .inr (.inl ⟨e,he,rfl⟩))
  obtain ⟨n1,n2,n3⟩:=heap_push w (.cells #[.int .i64 x] 3)
  have hown:(w.alloc (.cells #[.int .i64 x] 3)).ownsRow 0 3 1 (lookV L k) (lookL L k).length ((lookL L k).map (Value.int .i64))∧((lookV L k).ownBlock=none∨∃ e0∈L,e0.k=k∧(lookV L k).ownBlock=some e0.b)∧(lookL L k).length≤1000:=by
    unfold lookV lookL
    cases h:lookE L k with
    | none=>exact ⟨nil_owns,.inl rfl,by simp⟩
    | some e0 =>
      obtain ⟨q1,q2⟩:=lookE_some h
      exact ⟨Ent.owns (hM.ok e0 q1) ((n3 _ (lt_of_some (hblkh e0 q1))).trans (hblkh e0 q1)),.inr ⟨e0,q1,q2,rfl⟩,hl e0 q1⟩
  obtain ⟨ho,hbk,hlen⟩:=hown
  obtain ⟨v2,w2,hrun,ho2,hg2,hnil,hat⟩:=run_append_own_at (P:=P) (w:=w.alloc (.cells #[.int .i64 x] 3)) 0 S22 ty 3 i (.int .i64 0) 1 8 h22 hi hz hz1 hz2 rfl (by decide) (lookV L k) (lookL L k).length _ ho
    ⟨w.heap.size,0,none⟩ 1 1 [.int .i64 x] rfl (cell_one_new w (.int .i64 x) 3) (fun u hu=>by simp at hu;subst hu;rfl) (by unfold maxLen;omega) (by omega) (Nat.zero_le _)
  have ho2':w2.ownsRow 0 3 1 v2 (lookL L k++[x]).length ((lookL L k++[x]).map (Value.int .i64)):=by
    rw [List.length_append,List.map_append]
    exact ho2
  obtain ⟨e,rfl,hel,rfl,heo,heh⟩:=owns_ent hk (by simp) ho2'
  have hvb:e.val.ownBlock=some e.b:=rfl
  have hwhere:(∃ e0∈L,e0.k=e.k∧e0.b=e.b)∨e.b=w.heap.size+1:=by
    rcases hat with h | h
    · rcases hbk with h0 | ⟨e0,q1,q2,q3⟩
      · rw [h0,hvb] at h;cases h
      · rw [q3,hvb] at h;exact .inl ⟨e0,q1,q2,(Option.some.inj h).symm⟩
    · rw [hvb] at h
      right
      have:=Option.some.inj h
      rw [this];simp
  have hrow:∀ b,b<w.heap.size→(∀ e0∈L,e0.k=e.k→e0.b≠b)→w2.heap[b]? = w.heap[b]? := fun b hb hno=>by
    refine (hg2.block b (by omega) (fun he => ?_)).trans (n3 b hb)
    rcases hbk with h0 | ⟨e0,q1,q2,q3⟩
    · rw [h0] at he;cases he
    · rw [q3] at he;exact hno e0 q1 q2 (Option.some.inj he).symm
  have hblk:e.b≠mb∧∀ y∈L,y.k≠e.k→y.b≠e.b:=by
    rcases hwhere with ⟨e0,q1,q2,q3⟩ | h
    · refine ⟨q3 ▸ hM.b_mb q1,fun y hy hyk hb=>hyk ?_⟩
      have:=hM.b_inj hy q1 (hb.trans q3.symm)
      rw [this];exact q2
    · refine ⟨by omega,fun y hy _ hb => ?_⟩
      have:=lt_of_some (hblkh y hy)
      omega
  have hmb2:w2.heap[mb]? = w.heap[mb]? := hrow mb hmlt fun e0 he0 _=>hM.b_mb he0
  obtain ⟨es',cl',hup,hM'⟩:=put_run (P:=P) (w:=w2) ht hkt (hmb2.trans hmb) hM e heo hblk
  refine ⟨e.val,w2,es',cl',e,hrun,fun b hb hno=>hrow b hb fun e0 he0 _=>hno e0.blk (by simp [mapR];exact .inr ⟨e0,he0,rfl⟩),hmb2,hup,hM',rfl,hel,?_,?_⟩
  · intro p hp q hq
    rcases mem_mapR.1 hp with rfl | ⟨y,hy,rfl⟩
    · exact hd (mb,.map es cl) (by simp [mapR]) q hq
    · rcases mem_putE.1 hy with ⟨q1,q2⟩ | rfl
      · exact hd y.blk (mem_mapR.2 (.inr ⟨y,q1,rfl⟩)) q hq
      · rcases hwhere with ⟨e0,q1,q2,q3⟩ | h
        · exact fun hpq=>hd e0.blk (mem_mapR.2 (.inr ⟨e0,q1,rfl⟩)) q hq (by rw [← hpq];exact q3)
        · have:=lt_of_some (hhas q (List.mem_append_right _ hq))
          intro hpq
          change y.b=q.1 at hpq
          omega
  · have hne:∀ p∈C0.R,p.1≠mb∧∀ e0∈L,p.1≠e0.b:=fun p hp=>⟨fun h=>hd (mb,.map es cl) (by simp [mapR]) p hp h.symm,fun e0 he0 h=>hd e0.blk (mem_mapR.2 (.inr ⟨e0,he0,rfl⟩)) p hp h.symm⟩
    have hset:∀ b,b≠mb→(setBlock w2 mb (.map es' cl')).heap[b]? = w2.heap[b]? := fun b hb=>by
      unfold setBlock
      simp only [Array.getElem?_setIfInBounds]
      rw [if_neg (Ne.symm hb)]
    have hsetm:(setBlock w2 mb (.map es' cl')).heap[mb]? = some (.map es' cl'):=by
      unfold setBlock
      have:mb<w2.heap.size:=lt_of_some (hmb2.trans hmb)
      simp [this]
    refine hs.beside (fun b=>b=mb∨∃ e0∈L,e0.k=e.k∧e0.b=b) (fun b hb => ?_) hg2.os hg2.tape hg2.output (by have:=hg2.size;unfold setBlock;simp only [Array.size_setIfInBounds];omega) (fun b hb hX => ?_) (fun p hp => ?_)
    · rcases hb with rfl | ⟨e0,q1,q2,rfl⟩
      · exact ⟨_,List.mem_append_left _ (mem_mapR.2 (.inl rfl))⟩
      · exact ⟨_,List.mem_append_left _ (mem_mapR.2 (.inr ⟨e0,q1,rfl⟩))⟩
    · rw [hset b (fun h=>hX (.inl h))]
      exact hrow b hb fun e0 q1 q2 q3=>hX (.inr ⟨e0,q1,q2,q3⟩)
    · rcases List.mem_append.1 hp with hp | hp
      · rcases mem_mapR.1 hp with rfl | ⟨y,hy,rfl⟩
        · exact .inr ⟨hsetm,(fun h=>by cases h),.inr ⟨_,List.mem_append_left _ (mem_mapR.2 (.inl rfl))⟩⟩
        · rcases mem_putE.1 hy with ⟨q1,q2⟩ | rfl
          · refine .inl ⟨List.mem_append_left _ (mem_mapR.2 (.inr ⟨y,q1,rfl⟩)),fun hX => ?_⟩
            rcases hX with hX | ⟨e0,r1,r2,r3⟩
            · exact hM.b_mb q1 hX
            · have:=hM.b_inj q1 r1 r3.symm
              exact q2 (this ▸ r2)
          · refine .inr ⟨(hset _ hblk.1).trans heh,(fun h=>by cases h),?_⟩
            rcases hwhere with ⟨e0,r1,r2,r3⟩ | h
            · exact .inr ⟨.cells e0.arr 3 (0,0),List.mem_append_left _ (mem_mapR.2 (.inr ⟨e0,r1,by unfold Ent.blk;rw [r3]⟩))⟩
            · exact .inl (by show w.heap.size≤y.b;omega)
      · refine .inl ⟨List.mem_append_right _ hp,fun hX => ?_⟩
        rcases hX with hX | ⟨e0,r1,r2,r3⟩
        · exact (hne p hp).1 hX
        · exact (hne p hp).2 e0 r1 r3.symm
end
end KV
end Go.Proofs
section
namespace Go.Proofs
open KL Go.RowKit
namespace KV
open Go.ChangeMaps (setBlock)
variable {C C0:Cx} {M M0:Mem} {w w0:World}

theorem info3z:(Tryz.prog.info? 3).map (fun i=>(i.zero,i.size,i.bytes))=some (some (.int .i64 0),1,8):=by kernel_rfl
theorem ti3:∃ i,tiOf Tryz.prog 3=some i∧i.agg=false∧i.size=1:=by
  have h:(tiOf Tryz.prog 3).map (fun i=>(i.agg,i.size))=some (false,1):=by kernel_rfl
  cases h2:tiOf Tryz.prog 3 with
  | none=>rw [h2] at h;cases h
  | some i=>rw [h2] at h;simp at h;exact ⟨i,rfl,h.1,h.2⟩
abbrev mpv(mb:Nat):PV := .v (.map (some mb))
abbrev stT(c:KL.Cup)(ns:List Int)(mo:Int)(qs:List Int):St:=⟨fr 161 [(1,(.p (intsP ns))),(2,(.p (intP mo))),(3,(.p (intsP qs))),(10,(.ptr 0 0))],[some (.box 120 [(.p (intP c.sk)),(.p (intP c.ra)),(.p (intP c.be)),(.p (intsP c.pts)),(.p (rowsP c.done))])]⟩
abbrev stA(c:KL.Cup)(ns:List Int)(mo:Int)(qs:List Int)(mv:PV):St:=⟨fr 161 [(1,(.p (intsP ns))),(2,(.p (intP mo))),(3,(.p (intsP qs))),(10,(.ptr 0 0)),(12,(.p mv))],[some (.box 120 [(.p (intP c.sk)),(.p (intP c.ra)),(.p (intP c.be)),(.p (intsP c.pts)),(.p (rowsP c.done))])]⟩
abbrev stB(ns:List Int)(mo:Int)(qs:List Int)(mv:PV)(ts:List Int)(i:Nat):St:=⟨fr 161 [(1,(.p (intsP ns))),(2,(.p (intP mo))),(3,(.p (intsP qs))),(12,(.p mv)),(63,(.p (intsP ts))),(64,(.p (intP (ts.length:Int)))),(65,(.p (intP (i:Int))))],[]⟩
abbrev stD(ns:List Int)(mo:Int)(qs:List Int)(mv:PV)(ts:List Int)(i:Nat)(x:Int):St:=⟨fr 161 [(1,(.p (intsP ns))),(2,(.p (intP mo))),(3,(.p (intsP qs))),(12,(.p mv)),(13,(.p (intP (i:Int)))),(14,(.p (intP x))),(63,(.p (intsP ts))),(64,(.p (intP (ts.length:Int)))),(65,(.p (intP (i:Int))))],[]⟩
abbrev stF(ns:List Int)(mo:Int)(qs:List Int)(mv:PV)(n:Nat)(o:List (List Int)):St:=⟨fr 161 [(1,(.p (intsP ns))),(2,(.p (intP mo))),(3,(.p (intsP qs))),(12,(.p mv)),(15,(.own 0)),(85,(.p (intP (n:Int))))],[some (.row 40 o.length (o.flatten.map intP))]⟩
abbrev stG(ns:List Int)(mo:Int)(qs:List Int)(mv:PV)(n:Nat)(o:List (List Int)):St:=⟨fr 161 [(1,(.p (intsP ns))),(2,(.p (intP mo))),(3,(.p (intsP qs))),(12,(.p mv)),(15,(.own 0)),(16,(.p (intP (n:Int)))),(85,(.p (intP (n:Int))))],[some (.row 40 o.length (o.flatten.map intP))]⟩
abbrev stN(ns:List Int)(mo:Int)(qs:List Int)(mv:PV)(n:Nat)(o:List (List Int)):St:=⟨fr 161 [(1,(.p (intsP ns))),(2,(.p (intP mo))),(3,(.p (intsP qs))),(12,(.p mv)),(15,(.own 0)),(16,(.p (intP (n:Int)))),(17,(.p nilS)),(85,(.p (intP (n:Int))))],[some (.row 40 o.length (o.flatten.map intP))]⟩
abbrev stH(ns:List Int)(mo:Int)(qs:List Int)(mv:PV)(n:Nat)(o:List (List Int))(y:Int)(l:List Int):St:=⟨fr 161 [(1,(.p (intsP ns))),(2,(.p (intP mo))),(3,(.p (intsP qs))),(12,(.p mv)),(15,(.own 0)),(16,(.p (intP (n:Int)))),(17,(.own 1)),(85,(.p (intP (n:Int))))],[some (.row 40 o.length (o.flatten.map intP)),some (.row 3 (l.length+1) ((intP y)::(l.map intP)))]⟩

theorem ops14_ex:∃ l:List Oper,sub (cd Tryz.f22) [1,1,1,1,0,1,0,0,1,1,0,0,1] = .region 14 l.toArray true∧closedL l [0,1,2,3,4,5,6,7,8,9,10,11] 12 13 14=true∧l.map (fun o=>(o.op,o.dst))=[(.move (.tmp 12),some 70),(.move (.tmp 1),some 71),(.move (.tmp 13),some 72),(.indexAddr 22 (.tmp 71) (.tmp 72),some 73),(.load 3 (.tmp 73),some 74),(.move (.tmp 12),some 75),(.move (.tmp 1),some 76),(.move (.tmp 13),some 77),(.indexAddr 22 (.tmp 76) (.tmp 77),some 78),(.load 3 (.tmp 78),some 79),(.lookup 124 (.tmp 75) (.tmp 79) false,some 80),(.move (.tmp 14),some 81),(.buildSlice 22 1 #[(0,.tmp 81)],some 82),(.call { callee := .builtin .append,args := #[.tmp 80,.tmp 82],argTypes := #[22,22] },some 83),(.mapUpdate 124 (.tmp 70) (.tmp 74) (.tmp 83),none)] :=
  ⟨match sub (cd Tryz.f22) [1,1,1,1,0,1,0,0,1,1,0,0,1] with | .region _ ops _=>ops.toList | _=>[],by kernel_rfl,by kernel_rfl,by kernel_rfl⟩
theorem r14{ns ts:List Int}{mo:Int}{qs:List Int}{i:Nat}{k x:Int}(hk:ns[i]? = some k)(hkw:(Lit.int .i64 k).wf=true){G G':List Ent→Prop}(hGl:∀ L,G L→∀ e∈L,e.l.length≤1000)
    (hG:∀ L e mb es,G L→MapOK mb es L→e.k=k→e.l=lookL L k++[x]→G' (putE L e)) :
    CodeR Tryz.prog 0 (sub (cd Tryz.f22) [1,1,1,1,0,1,0,0,1,1,0,0,1]) (fun st R=>∃ mb es cl L,st=stD ns mo qs (mpv mb) ts i x∧R=mapR mb es cl L∧MapOK mb es L∧G L) .normal
      (fun st R=>∃ mb es cl L,st=stD ns mo qs (mpv mb) ts i x∧R=mapR mb es cl L∧MapOK mb es L∧G' L):=by
  obtain ⟨l,hc,hB,hops⟩:=ops14_ex
  rw [hc]
  refine CodeR.hand fun C0 M0 w0 a w st R hM0 hΨ hd hs => ?_
  obtain ⟨mb,es,cl,L,rfl,rfl,hM,hGL⟩:=hΨ
  obtain ⟨o0,l0,rfl,h0,hops⟩:=List.map_eq_cons_iff.1 hops
  obtain ⟨o1,l1,rfl,h1,hops⟩:=List.map_eq_cons_iff.1 hops
  obtain ⟨o2,l2,rfl,h2,hops⟩:=List.map_eq_cons_iff.1 hops
  obtain ⟨o3,l3,rfl,h3,hops⟩:=List.map_eq_cons_iff.1 hops
  obtain ⟨o4,l4,rfl,h4,hops⟩:=List.map_eq_cons_iff.1 hops
  obtain ⟨o5,l5,rfl,h5,hops⟩:=List.map_eq_cons_iff.1 hops
  obtain ⟨o6,l6,rfl,h6,hops⟩:=List.map_eq_cons_iff.1 hops
  obtain ⟨o7,l7,rfl,h7,hops⟩:=List.map_eq_cons_iff.1 hops
  obtain ⟨o8,l8,rfl,h8,hops⟩:=List.map_eq_cons_iff.1 hops
  obtain ⟨o9,l9,rfl,h9,hops⟩:=List.map_eq_cons_iff.1 hops
  obtain ⟨o10,l10,rfl,h10,hops⟩:=List.map_eq_cons_iff.1 hops
  obtain ⟨o11,l11,rfl,h11,hops⟩:=List.map_eq_cons_iff.1 hops
  obtain ⟨o12,l12,rfl,h12,hops⟩:=List.map_eq_cons_iff.1 hops
  obtain ⟨o13,l13,rfl,h13,hops⟩:=List.map_eq_cons_iff.1 hops
  obtain ⟨o14,l14,rfl,h14,hops⟩:=List.map_eq_cons_iff.1 hops
  obtain rfl:=List.map_eq_nil_iff.1 hops
  obtain ⟨q0,d0⟩:=Prod.mk.inj h0
  obtain ⟨q1,d1⟩:=Prod.mk.inj h1
  obtain ⟨q2,d2⟩:=Prod.mk.inj h2
  obtain ⟨q3,d3⟩:=Prod.mk.inj h3
  obtain ⟨q4,d4⟩:=Prod.mk.inj h4
  obtain ⟨q5,d5⟩:=Prod.mk.inj h5
  obtain ⟨q6,d6⟩:=Prod.mk.inj h6
  obtain ⟨q7,d7⟩:=Prod.mk.inj h7
  obtain ⟨q8,d8⟩:=Prod.mk.inj h8
  obtain ⟨q9,d9⟩:=Prod.mk.inj h9
  obtain ⟨q10,d10⟩:=Prod.mk.inj h10
  obtain ⟨q11,d11⟩:=Prod.mk.inj h11
  obtain ⟨q12,d12⟩:=Prod.mk.inj h12
  obtain ⟨q13,d13⟩:=Prod.mk.inj h13
  obtain ⟨q14,d14⟩:=Prod.mk.inj h14
  have hsz:a.tmps.size=161:=hs.size
  have v12:a.tmps.getD 12 undef = .map (some mb):=hs.slot rfl
  have v13:a.tmps.getD 13 undef = .int .i64 i:=hs.slot rfl
  have v14:a.tmps.getD 14 undef = .int .i64 x:=hs.slot rfl
  obtain ⟨p,cap,v1,hc1,hc2,hcell⟩:=hs.ints (i:=1) (l:=ns) rfl
  obtain ⟨b,o,rfl,hb,hcl,hne⟩:=hcell i k hk
  have V12:a.eval (.tmp 12) = .map (some mb):=v12
  have V13:a.eval (.tmp 13) = .int .i64 i:=v13
  have V14:a.eval (.tmp 14) = .int .i64 x:=v14
  have V1:a.eval (.tmp 1) = .slice (some ⟨b,o,none⟩) ns.length cap:=v1
  obtain ⟨i3,t3,ha3,hs3⟩:=ti3
  have hil:(i:Int)<(ns.length:Int):=by
    have:=(List.getElem?_eq_some_iff.1 hk).1
    omega
  have hix:∀ W,(Instr.indexAt 22 (.slice (some ⟨b,o,none⟩) ns.length cap) (.int .i64 i)).run Tryz.prog W = .ok (.pointer (some ⟨b,o+i,none⟩)) W:=fun W=>by
    have:=run_indexAt_slice (P:=Tryz.prog) (w:=W) Tryz.underlying22 t3 (b:=b) (off:=o) (n:=ns.length) (cap:=cap) (k := .i64) (i:=(i:Int)) (by omega) hil
    rw [hs3,Nat.mul_one,Int.toNat_natCast] at this
    exact this
  have hmb:w.heap[mb]? = some (.map es cl):=hs.has (mb,.map es cl) (by simp [mapR])
  have hs':=hs.drawn (w.drawn+1)
  obtain ⟨v2,w2,es',cl',e,hrun,hkeep,hmb2,hup,hM',hek,hel,hd',hsim⟩:=mapStep (P:=Tryz.prog) (kt:=3) (S22:=22) (ty:=o13.type) (k:=k) (x:=x) Tryz.underlying124 Tryz.underlying3 Tryz.underlying22 info3z hs' hd hM hkw (hGl L hGL)
  refine region3 (P:=Tryz.prog) (o1:=o12) (o2:=o13) (o3:=o14) (S:=fun W=>W.cell? ⟨b,o+i,none⟩=some (.int .i64 k)∧W.heap[mb]? = some (.map es cl)) [0,1,2,3,4,5,6,7,8,9,10,11] 12 13 14 mixed hB rfl rfl rfl (fun c a w h=>by cases h.1) ⟨hcl,hmb⟩
    [.map (some mb),.slice (some ⟨b,o,none⟩) ns.length cap,.int .i64 i,.pointer (some ⟨b,o+i,none⟩),.int .i64 k,.map (some mb),.slice (some ⟨b,o,none⟩) ns.length cap,.int .i64 i,.pointer (some ⟨b,o+i,none⟩),.int .i64 k,lookV L k,.int .i64 x] rfl ?_ ?_
  · refine ⟨fun W hW=>ex_move q0 (by simp [eval_put_ne,eval_put_same,put_size,hsz,V12,V13,V14,V1,d0,d1,d2,d3,d4,d5,d6,d7,d8,d9,d10,d11]),fun W hW=>ex_move q1 (by simp [eval_put_ne,eval_put_same,put_size,hsz,V12,V13,V14,V1,d0,d1,d2,d3,d4,d5,d6,d7,d8,d9,d10,d11]),fun W hW=>ex_move q2 (by simp [eval_put_ne,eval_put_same,put_size,hsz,V12,V13,V14,V1,d0,d1,d2,d3,d4,d5,d6,d7,d8,d9,d10,d11]),fun W hW=>ex_index q3 (by simp [eval_put_ne,eval_put_same,put_size,hsz,V12,V13,V14,V1,d0,d1,d2,d3,d4,d5,d6,d7,d8,d9,d10,d11]) (by simp [eval_put_ne,eval_put_same,put_size,hsz,V12,V13,V14,V1,d0,d1,d2,d3,d4,d5,d6,d7,d8,d9,d10,d11]) (hix W),fun W hW=>ex_load q4 (by simp [eval_put_ne,eval_put_same,put_size,hsz,V12,V13,V14,V1,d0,d1,d2,d3,d4,d5,d6,d7,d8,d9,d10,d11]) (run_load1 t3 ha3 hW.1),fun W hW=>ex_move q5 (by simp [eval_put_ne,eval_put_same,put_size,hsz,V12,V13,V14,V1,d0,d1,d2,d3,d4,d5,d6,d7,d8,d9,d10,d11]),fun W hW=>ex_move q6 (by simp [eval_put_ne,eval_put_same,put_size,hsz,V12,V13,V14,V1,d0,d1,d2,d3,d4,d5,d6,d7,d8,d9,d10,d11]),fun W hW=>ex_move q7 (by simp [eval_put_ne,eval_put_same,put_size,hsz,V12,V13,V14,V1,d0,d1,d2,d3,d4,d5,d6,d7,d8,d9,d10,d11]),fun W hW=>ex_index q8 (by simp [eval_put_ne,eval_put_same,put_size,hsz,V12,V13,V14,V1,d0,d1,d2,d3,d4,d5,d6,d7,d8,d9,d10,d11]) (by simp [eval_put_ne,eval_put_same,put_size,hsz,V12,V13,V14,V1,d0,d1,d2,d3,d4,d5,d6,d7,d8,d9,d10,d11]) (hix W),fun W hW=>ex_load q9 (by simp [eval_put_ne,eval_put_same,put_size,hsz,V12,V13,V14,V1,d0,d1,d2,d3,d4,d5,d6,d7,d8,d9,d10,d11]) (run_load1 t3 ha3 hW.1),fun W hW=>ex_lookup q10 (by simp [eval_put_ne,eval_put_same,put_size,hsz,V12,V13,V14,V1,d0,d1,d2,d3,d4,d5,d6,d7,d8,d9,d10,d11]) (by simp [eval_put_ne,eval_put_same,put_size,hsz,V12,V13,V14,V1,d0,d1,d2,d3,d4,d5,d6,d7,d8,d9,d10,d11]) (look_run Tryz.underlying124 Tryz.underlying3 rfl hW.2 hM hkw),fun W hW=>ex_move q11 (by simp [eval_put_ne,eval_put_same,put_size,hsz,V12,V13,V14,V1,d0,d1,d2,d3,d4,d5,d6,d7,d8,d9,d10,d11]),trivial⟩
  · intro a' ha'
    have e70:a'.eval (.tmp 70) = .map (some mb):=by rw [ha'];simp [putsL,eval_put_ne,eval_put_same,put_size,hsz,V12,V13,V14,V1,d0,d1,d2,d3,d4,d5,d6,d7,d8,d9,d10,d11]
    have e74:a'.eval (.tmp 74) = .int .i64 k:=by rw [ha'];simp [putsL,eval_put_ne,eval_put_same,put_size,hsz,V12,V13,V14,V1,d0,d1,d2,d3,d4,d5,d6,d7,d8,d9,d10,d11]
    have e80:a'.eval (.tmp 80)=lookV L k:=by rw [ha'];simp [putsL,eval_put_ne,eval_put_same,put_size,hsz,V12,V13,V14,V1,d0,d1,d2,d3,d4,d5,d6,d7,d8,d9,d10,d11]
    have e81:a'.eval (.tmp 81) = .int .i64 x:=by rw [ha'];simp [putsL,eval_put_ne,eval_put_same,put_size,hsz,V12,V13,V14,V1,d0,d1,d2,d3,d4,d5,d6,d7,d8,d9,d10,d11]
    have hsz':a'.tmps.size=161:=by rw [ha'];simp [putsL,put_size,hsz,d0,d1,d2,d3,d4,d5,d6,d7,d8,d9,d10,d11]
    obtain ⟨inf,hi,hz,hz1,hz2⟩:=info_parts info3z
    have hbld:∀ W:World,(Instr.buildSlice 22 1 #[(0,.int .i64 x)]).run Tryz.prog W = .ok (.slice (some ⟨W.heap.size,0,none⟩) 1 1) (W.alloc (.cells #[.int .i64 x] 3)):=fun W =>
      run_build0 (P:=Tryz.prog) 22 3 inf 1 #[(0,.int .i64 x)] #[.int .i64 x] (.int .i64 0) Tryz.underlying22 hi hz (by rw [hz1];decide) (by rw [hz1];kernel_rfl)
    refine ⟨_,_,v2,w2,setBlock w2 mb (.map es' cl'),ex_build1 q12 e81 (hbld _),?_,ex_append q13 (by rw [d12,eval_put_ne rfl];exact e80) (by rw [d12,eval_put_same (by omega)]) hrun,⟨?_,hmb2.trans hmb⟩,ex_update q14 (by rw [d12,d13,eval_put_ne rfl,eval_put_ne rfl];exact e70) (by rw [d12,d13,eval_put_ne rfl,eval_put_ne rfl];exact e74) (by rw [d12,d13,eval_put_same (by rw [put_size];omega)]) hup,?_⟩
    · obtain ⟨n1,n2,n3⟩:=heap_push { w with drawn:=w.drawn+1 } (.cells #[.int .i64 x] 3)
      exact ⟨(cell_heap (n3 b hb) _).trans hcl,(n3 mb (lt_of_some hmb)).trans hmb⟩
    · exact (cell_heap (hkeep b hb fun q hq=>hne q (List.mem_append_left _ hq)) _).trans hcl
    · refine ⟨rfl,_,_,⟨mb,es',cl',putE L e,rfl,rfl,hM',hG L e mb es hGL hM hek hel⟩,hd',?_⟩
      have h1:=(Sim.anyL [(o0,.map (some mb)),(o1,.slice (some ⟨b,o,none⟩) ns.length cap),(o2,.int .i64 i),(o3,.pointer (some ⟨b,o+i,none⟩)),(o4,.int .i64 k),(o5,.map (some mb)),(o6,.slice (some ⟨b,o,none⟩) ns.length cap),(o7,.int .i64 i),(o8,.pointer (some ⟨b,o+i,none⟩)),(o9,.int .i64 k),(o10,lookV L k),(o11,.int .i64 x)] hsim (by
        simp only [List.all_cons,List.all_nil,d0,d1,d2,d3,d4,d5,d6,d7,d8,d9,d10,d11]
        rfl))
      have h2:=((h1.any o12.dst (.slice (some ⟨w.heap.size,0,none⟩) 1 1) (fun i hi=>by rw [d12] at hi;cases hi;rfl)).any o13.dst v2 (fun i hi=>by rw [d13] at hi;cases hi;rfl)).any o14.dst undef (fun i hi=>by rw [d14] at hi;cases hi)
      rw [ha']
      exact h2
end KV
end Go.Proofs
end
section
namespace Go.Proofs
open KL Go.RowKit
namespace KV
open Go.ChangeMaps (setBlock)
variable {C C0:Cx} {M M0:Mem} {w w0:World}

def grp(ns ts:List Int)(g:Int)(i:Nat):List Int:=((ns.zip ts).take i).filterMap fun p=>if p.1=g then some p.2 else none
theorem grp_zero(ns ts:List Int)(g:Int):grp ns ts g 0=[]:=rfl
theorem grp_succ{ns ts:List Int}{g k x:Int}{i:Nat}(hk:ns[i]? = some k)(hx:ts[i]? = some x):grp ns ts g (i+1)=grp ns ts g i++(if k=g then [x] else []):=by
  have:(ns.zip ts)[i]? = some (k,x):=List.getElem?_zip_eq_some.2 ⟨hk,hx⟩
  unfold grp
  rw [List.take_add_one,this,List.filterMap_append]
  by_cases h:k=g <;> simp [h]
theorem grp_len(ns ts:List Int)(g:Int)(i:Nat):(grp ns ts g i).length≤i:=by
  unfold grp
  exact Nat.le_trans (List.length_filterMap_le _ _) (List.length_take_le _ _)

structure GrpOK (ns ts:List Int) (i:Nat) (L:List Ent):Prop where
  a:∀ e∈L,e.l=grp ns ts e.k i∧e.l≠[]
  b:∀ g,grp ns ts g i≠[]→∃ e∈L,e.k=g
theorem GrpOK.nil(ns ts:List Int):GrpOK ns ts 0 []:=⟨fun e h=>by simp at h,fun g h=>absurd (grp_zero ns ts g) h⟩
theorem GrpOK.look{ns ts:List Int}{i:Nat}{L:List Ent}(h:GrpOK ns ts i L)(k:Int):lookL L k=grp ns ts k i:=by
  unfold lookL
  cases hl:lookE L k with
  | some e =>
    obtain ⟨h1,rfl⟩:=lookE_some hl
    exact (h.a e h1).1
  | none =>
    cases hg:grp ns ts k i with
    | nil=>rfl
    | cons y l =>
      obtain ⟨e,he,hk⟩:=h.b k (by rw [hg];simp)
      exact absurd hk (lookE_none hl e he)
theorem GrpOK.step{ns ts:List Int}{i:Nat}{L:List Ent}{k x:Int}(hk:ns[i]? = some k)(hx:ts[i]? = some x)(h:GrpOK ns ts i L)(e:Ent)(hek:e.k=k)(hel:e.l=lookL L k++[x]):GrpOK ns ts (i+1) (putE L e):=by
  refine ⟨fun y hy => ?_,fun g hg => ?_⟩
  · rcases mem_putE.1 hy with ⟨h1,h2⟩ | rfl
    · obtain ⟨q1,q2⟩:=h.a y h1
      refine ⟨?_,q2⟩
      rw [grp_succ hk hx,if_neg (fun h=>h2 (by rw [hek,h])),List.append_nil]
      exact q1
    · refine ⟨?_,by rw [hel];simp⟩
      rw [hel,h.look,grp_succ hk hx,hek,if_pos rfl]
  · by_cases hgk:g=k
    · exact ⟨e,mem_putE.2 (.inr rfl),by rw [hek,hgk]⟩
    · rw [grp_succ hk hx,if_neg (fun h=>hgk h.symm),List.append_nil] at hg
      obtain ⟨y,hy,hyk⟩:=h.b g hg
      exact ⟨y,mem_putE.2 (.inl ⟨hy,by rw [hyk,hek];exact hgk⟩),hyk⟩

def PsiM(f:PV→St)(G:List Ent→Prop):SR:=fun st R=>∃ mb es cl L,st=f (mpv mb)∧R=mapR mb es cl L∧MapOK mb es L∧G L
def PsiK(f:PV→St)(n:Nat)(G:List Ent→Prop):SR:=fun st R=>∃ mb es cl L,st=f (mpv mb)∧(mb,Obj.map es cl)∈R∧(∀ e∈L,(n:Int)≤e.k→e.blk∈R)∧MapOK mb es L∧G L
section
variable {c:Code} {f f':PV→St} {G:List Ent→Prop} {e:Ex}
theorem CodeR.ofM(h:∀ mb,CodeOK Tryz.prog 0 c (f (mpv mb)) e (f' (mpv mb))):CodeR Tryz.prog 0 c (PsiM f G) e (PsiM f' G):=CodeR.of fun st R ⟨mb,es,cl,L,h1,h2,h3,h4⟩=>⟨_,⟨mb,es,cl,L,rfl,h2,h3,h4⟩,h1 ▸ h mb⟩
theorem CodeR.ofK{n n':Nat}(hn:n≤n')(h:∀ mb,CodeOK Tryz.prog 0 c (f (mpv mb)) e (f' (mpv mb))):CodeR Tryz.prog 0 c (PsiK f n G) e (PsiK f' n' G):=CodeR.of fun st R ⟨mb,es,cl,L,h1,h2,h3,h4,h5⟩=>⟨_,⟨mb,es,cl,L,rfl,h2,fun e he hk=>h3 e he (by omega),h4,h5⟩,h1 ▸ h mb⟩
end

theorem ops10_ex:∃ l:List Oper,sub (cd Tryz.f22) [1,1,1,0] = .region 10 l.toArray false∧l.map (fun o=>(o.op,o.dst,o.guard))=[(.makeMap 124 none,some 61,none),(.assign (.tmp 61),some 12,none)] :=
  ⟨match sub (cd Tryz.f22) [1,1,1,0] with | .region _ ops _=>ops.toList | _=>[],by kernel_rfl,by kernel_rfl⟩
theorem r10{c:KL.Cup}{ns:List Int}{mo:Int}{qs ts:List Int}:CodeR Tryz.prog 0 (sub (cd Tryz.f22) [1,1,1,0]) (fun st R=>st=stT c ns mo qs∧R=[]) .normal (PsiM (stA c ns mo qs) (GrpOK ns ts 0)):=by
  obtain ⟨l,hc,hops⟩:=ops10_ex
  rw [hc]
  refine CodeR.hand fun C0 M0 w0 a w st R hM0 hΨ hd hs => ?_
  obtain ⟨rfl,rfl⟩:=hΨ
  obtain ⟨o0,l0,rfl,h0,hops⟩:=List.map_eq_cons_iff.1 hops
  obtain ⟨o1,l1,rfl,h1,hops⟩:=List.map_eq_cons_iff.1 hops
  obtain rfl:=List.map_eq_nil_iff.1 hops
  obtain ⟨q0,h0⟩:=Prod.mk.inj h0
  obtain ⟨d0,g0⟩:=Prod.mk.inj h0
  obtain ⟨q1,h1⟩:=Prod.mk.inj h1
  obtain ⟨d1,g1⟩:=Prod.mk.inj h1
  have hsz:a.tmps.size=161:=hs.size
  obtain ⟨n1,n2,n3⟩:=heap_push w (.map #[] 0)
  refine wp_region_lit (lex_one (id:=10) g0 (ex_makeMap q0) (lex_one (id:=10) g1 (ex_assign (v := .map (some w.heap.size)) q1 (by rw [d0,eval_put_same (by omega)])) ?_))
  refine wpList_nil ⟨rfl,_,_,⟨w.heap.size,#[],0,[],rfl,rfl,MapOK.nil _,GrpOK.nil _ _⟩,?_,?_⟩
  · intro p hp q hq
    rcases mem_mapR.1 hp with rfl | ⟨e,he,_⟩
    · intro hpq
      have:=lt_of_some (hs.has q (List.mem_append_right _ hq))
      change w.heap.size=q.1 at hpq
      omega
    · simp at he
  · have h2:=hs.beside (R':=mapR w.heap.size #[] 0 []++C0.R) (w':=w.alloc (.map #[] 0)) (fun _=>False) (fun _ h=>h.elim) rfl rfl rfl (by omega) (fun b hb _=>n3 b hb) (fun p hp=>by
      rcases List.mem_append.1 hp with hp | hp
      · rcases mem_mapR.1 hp with rfl | ⟨e,he,_⟩
        · exact .inr ⟨n2,(fun h=>by cases h),.inl (Nat.le_refl _)⟩
        · simp at he
      · exact .inl ⟨List.mem_append_right _ hp,fun h=>h⟩)
    have h3:=(h2.any o0.dst (.map (some w.heap.size)) (fun i hi=>by rw [d0] at hi;cases hi;rfl)).put (some 12) (x := .p (mpv w.heap.size)) (u := .map (some w.heap.size)) (fun _ _ => .p _ _ (.v _))
    rw [d1]
    exact h3

theorem ops20_ex:∃ l:List Oper,sub (cd Tryz.f22) [1,1,1,1,1,1,0,1,0,0,1,1,0,0,1,0] = .region 20 l.toArray false∧l.map (fun o=>(o.op,o.dst,o.guard))=[(.move (.tmp 12),some 88,none),(.move (.tmp 16),some 89,none),(.lookup 124 (.tmp 88) (.tmp 89) false,some 90,none),(.assign (.tmp 90),some 17,none)] :=
  ⟨match sub (cd Tryz.f22) [1,1,1,1,1,1,0,1,0,0,1,1,0,0,1,0] with | .region _ ops _=>ops.toList | _=>[],by kernel_rfl,by kernel_rfl⟩
theorem wf_int{n:Nat}(h:n≤1000):(Lit.int .i64 (n:Int)).wf=true:=by
  simp [Lit.wf,IntKind.min,IntKind.max,IntKind.bits,IntKind.signed]
  omega
theorem r20a{ns ts:List Int}{mo:Int}{qs:List Int}{n:Nat}{o:List (List Int)}{N:Nat}(hn:n≤1000)(K:Act→World→Prop){C0:Cx}{a:Act}{R:List (Nat × Obj)}{mb cl:Nat}{es:Array MapEntry}{L:List Ent}{Q:Exit→Act→World→Prop}(hm:(mb,Obj.map es cl)∈R)(hM:MapOK mb es L)
    (hs:Sim Tryz.prog (C0.with (R++C0.R)) M0 w0 (stG ns mo qs (mpv mb) n o) a w)
    (h:∀ a',(a'.tmps.getD 17 undef=lookV L n)→Sim Tryz.prog (C0.with (R++C0.R)) M0 w0 ⟨KV.put (stG ns mo qs (mpv mb) n o).t (some 17) .any,(stG ns mo qs (mpv mb) n o).m⟩ a' w→Q .normal a' w) :
    (sub (cd Tryz.f22) [1,1,1,1,1,1,0,1,0,0,1,1,0,0,1,0]).wp Tryz.prog Q a w:=by
  obtain ⟨l,hc,hops⟩:=ops20_ex
  rw [hc]
  obtain ⟨o0,l0,rfl,h0,hops⟩:=List.map_eq_cons_iff.1 hops
  obtain ⟨o1,l1,rfl,h1,hops⟩:=List.map_eq_cons_iff.1 hops
  obtain ⟨o2,l2,rfl,h2,hops⟩:=List.map_eq_cons_iff.1 hops
  obtain ⟨o3,l3,rfl,h3,hops⟩:=List.map_eq_cons_iff.1 hops
  obtain rfl:=List.map_eq_nil_iff.1 hops
  obtain ⟨q0,h0⟩:=Prod.mk.inj h0
  obtain ⟨d0,g0⟩:=Prod.mk.inj h0
  obtain ⟨q1,h1⟩:=Prod.mk.inj h1
  obtain ⟨d1,g1⟩:=Prod.mk.inj h1
  obtain ⟨q2,h2⟩:=Prod.mk.inj h2
  obtain ⟨d2,g2⟩:=Prod.mk.inj h2
  obtain ⟨q3,h3⟩:=Prod.mk.inj h3
  obtain ⟨d3,g3⟩:=Prod.mk.inj h3
  have hsz:a.tmps.size=161:=hs.size
  have V12:a.eval (.tmp 12) = .map (some mb):=hs.slot rfl
  have V16:a.eval (.tmp 16) = .int .i64 n:=hs.slot rfl
  have hmb:w.heap[mb]? = some (.map es cl):=hs.has (mb,.map es cl) (List.mem_append_left _ hm)
  refine wp_region_lit (lex_one (id:=20) g0 (ex_move (v := .map (some mb)) q0 V12) (lex_one (id:=20) g1 (ex_move (v := .int .i64 n) q1 (by rw [d0,eval_put_ne rfl];exact V16)) (lex_one (id:=20) g2 (ex_lookup (v := .map (some mb)) (u := .int .i64 n) (r:=lookV L n) q2 (by rw [d0,d1,eval_put_ne rfl,eval_put_same (by omega)]) (by rw [d0,d1,eval_put_same (by rw [put_size];omega)])
    (look_run Tryz.underlying124 Tryz.underlying3 rfl hmb hM (wf_int hn))) (lex_one (id:=20) g3 (ex_assign (v:=lookV L n) q3 (by rw [d2,eval_put_same (by rw [d0,d1,put_size,put_size];omega)])) ?_))))
  refine wpList_nil (h _ ?_ ?_)
  · rw [d0,d1,d2,d3]
    rw [← eval_tmp]
    exact eval_put_same (by rw [put_size,put_size,put_size];omega)
  · have h4:=((hs.any o0.dst (.map (some mb)) (fun i hi=>by rw [d0] at hi;cases hi;rfl)).any o1.dst (.int .i64 n) (fun i hi=>by rw [d1] at hi;cases hi;rfl)).any o2.dst (lookV L n) (fun i hi=>by rw [d2] at hi;cases hi;rfl)
    have h5:=h4.put (some 17) (x := .any) (u:=lookV L n) (fun _ _ => .any _)
    rw [d3]
    exact h5
theorem r20n{ns ts:List Int}{mo:Int}{qs:List Int}{n:Nat}{o:List (List Int)}{N:Nat}(hn:n≤1000)(hg:grp ns ts n N=[]):CodeR Tryz.prog 0 (sub (cd Tryz.f22) [1,1,1,1,1,1,0,1,0,0,1,1,0,0,1,0]) (PsiK (fun mv=>stG ns mo qs mv n o) n (GrpOK ns ts N)) .normal
    (PsiK (fun mv=>stN ns mo qs mv n o) n (GrpOK ns ts N)):=by
  refine CodeR.hand fun C0 M0 w0 a w st R hM0 hΨ hd hs => ?_
  obtain ⟨mb,es,cl,L,rfl,hm,hR,hM,hG⟩:=hΨ
  refine r20a (ts:=ts) (N:=N) hn (fun _ _=>True) hm hM hs fun a' hv hs'=>⟨rfl,_,R,⟨mb,es,cl,L,rfl,hm,hR,hM,hG⟩,hd,?_⟩
  have hl:lookV L n = .slice none 0 0:=by
    unfold lookV
    cases h:lookE L n with
    | none=>rfl
    | some e =>
      obtain ⟨h1,h2⟩:=lookE_some h
      obtain ⟨q1,q2⟩:=hG.a e h1
      rw [h2,hg] at q1
      exact absurd q1 q2
  have hput:a'.put (some 17) (.slice none 0 0)=a':=by
    unfold Act.put
    have hsz:a'.tmps.size=161:=hs'.size
    have:a'.tmps.setIfInBounds 17 (.slice none 0 0)=a'.tmps:=by
      apply Array.ext
      · simp
      · intro j h1 h2
        rw [Array.getElem_setIfInBounds (by simpa using h1)]
        split
        · rename_i e
          subst e
          rw [hl,Array.getD_eq_getD_getElem?,Array.getElem?_eq_getElem h2] at hv
          exact hv.symm
        · rfl
    simp only [this]
  have h5:=hs'.put (some 17) (x := .p nilS) (u := .slice none 0 0) (fun _ _ => .p _ _ (.v _))
  rw [hput] at h5
  exact h5
theorem r20c{ns ts:List Int}{mo:Int}{qs:List Int}{n:Nat}{o:List (List Int)}{N:Nat}{y:Int}{l:List Int}(hn:n≤1000)(hg:grp ns ts n N=y::l):CodeR Tryz.prog 0 (sub (cd Tryz.f22) [1,1,1,1,1,1,0,1,0,0,1,1,0,0,1,0]) (PsiK (fun mv=>stG ns mo qs mv n o) n (GrpOK ns ts N)) .normal
    (PsiK (fun mv=>stH ns mo qs mv n o y l) (n+1) (GrpOK ns ts N)):=by
  refine CodeR.hand fun C0 M0 w0 a w st R hM0 hΨ hd hs => ?_
  obtain ⟨mb,es,cl,L,rfl,hm,hR,hM,hG⟩:=hΨ
  obtain ⟨e,he,hek⟩:=hG.b n (by rw [hg];simp)
  obtain ⟨q1,q2⟩:=hG.a e he
  rw [hek,hg] at q1
  have heR:=hR e he (by rw [hek];omega)
  have hl:lookV L n=e.val:=by unfold lookV;rw [lookE_mem hM.keys he hek]
  refine r20a (ts:=ts) (N:=N) hn (fun _ _=>True) hm hM hs fun a' hv hs'=>⟨rfl,_,R.filter (fun p=>p.1 != e.b),⟨mb,es,cl,L,rfl,List.mem_filter.2 ⟨hm,by simpa using (hM.b_mb he).symm⟩,fun e' he' hk=>List.mem_filter.2 ⟨hR e' he' (by omega),?_⟩,hM,hG⟩,fun p hp=>hd p ((List.mem_filter.1 hp).1),?_⟩
  · simp only [Ent.blk,bne_iff_ne,ne_eq]
    intro hb
    have:=hM.b_inj he' he hb
    rw [this,hek] at hk
    omega
  · have h6:=hs'.less (R':=e.blk::(R.filter (fun p=>p.1 != e.b)++C0.R)) (fun p hp=>by
      rcases List.mem_cons.1 hp with rfl | hp
      · exact List.mem_append_left _ heR
      · rcases List.mem_append.1 hp with hp | hp
        · exact List.mem_append_left _ ((List.mem_filter.1 hp).1)
        · exact List.mem_append_right _ hp)
    obtain ⟨i,hi,hsz⟩:=size3
    have hok:=hM.ok e he
    have hat:=hok.at_
    obtain ⟨r1,r2⟩:=vals_arr (w:=w) (fun _=>True) hat
    have h7:=h6.hand (k:=1) (d:=17) (n:=e.l.length) (cap:=e.cap) (cs:=e.l.map intP) (i:=i) (fun p hp=>by
        rcases List.mem_append.1 hp with hp | hp
        · simpa using (List.mem_filter.1 hp).2
        · exact fun h=>hd e.blk heR p hp h.symm) (by omega) (fun o ho=>by cases ho) (by rw [hv,hl];rfl) hi (by rw [hsz,Nat.mul_one];exact hok.sz) (by rw [hsz];simp) hok.le hok.cap
      (fun F j hj=>(vals_arr (w:=w) F hat).1 j hj) r2
    rw [q1] at h7
    exact h7
end KV
end Go.Proofs
end
section
namespace Go.Proofs
open KL Go.RowKit
namespace KV

abbrev stB6(ns:List Int)(mo:Int)(qs:List Int)(mv:PV)(ts:List Int)(i:Nat):St:=⟨fr 161 [(1,(.p (intsP ns))),(2,(.p (intP mo))),(3,(.p (intsP qs))),(12,(.p mv)),(63,(.p (intsP ts))),(64,(.p (intP (ts.length:Int)))),(65,(.p (intP (i:Int)))),(66,(.p (blP (decide ((i:Int)<(ts.length:Int))))))],[]⟩
abbrev stF6(ns:List Int)(mo:Int)(qs:List Int)(mv:PV)(n:Nat)(o:List (List Int)):St:=⟨fr 161 [(1,(.p (intsP ns))),(2,(.p (intP mo))),(3,(.p (intsP qs))),(12,(.p mv)),(15,(.own 0)),(85,(.p (intP (n:Int)))),(86,(.p (blP (decide ((n:Int)<(31:Int))))))],[some (.row 40 o.length (o.flatten.map intP))]⟩
theorem nat_loop1{ns ts:List Int}{mo:Int}{qs:List Int}(hl:ns.length=ts.length)(hw:∀ k∈ns,(Lit.int .i64 k).wf=true)(hN:ts.length≤1000) :
    CodeR Tryz.prog 0 (sub (cd Tryz.f22) [1,1,1,1,0,1]) (PsiM (fun mv=>stB ns mo qs mv ts 0) (GrpOK ns ts 0)) .normal (PsiM (fun mv=>stB ns mo qs mv ts ts.length) (GrpOK ns ts ts.length)):=by
  rw [show sub (cd Tryz.f22) [1,1,1,1,0,1] = .block 1 (.loop (sub (cd Tryz.f22) [1,1,1,1,0,1,0,0])) from by kernel_rfl]
  refine CodeR.block (LoopR.code (LoopR.times ts.length (fun i=>PsiM (fun mv=>stB ns mo qs mv ts i) (GrpOK ns ts i)) (fun i hi => ?_) ?_ (by simp)))
  · rw [show sub (cd Tryz.f22) [1,1,1,1,0,1,0,0] = .seq (sub (cd Tryz.f22) [1,1,1,1,0,1,0,0,0]) (.seq (sub (cd Tryz.f22) [1,1,1,1,0,1,0,0,1,0]) (.seq (.block 2 (.seq (sub (cd Tryz.f22) [1,1,1,1,0,1,0,0,1,1,0,0,0]) (sub (cd Tryz.f22) [1,1,1,1,0,1,0,0,1,1,0,0,1]))) (sub (cd Tryz.f22) [1,1,1,1,0,1,0,0,1,1,1]))) from by kernel_rfl]
    obtain ⟨k,hk⟩:∃ k,ns[i]? = some k:=⟨_,List.getElem?_eq_getElem (by omega)⟩
    obtain ⟨x,hx⟩:∃ x,ts[i]? = some x:=⟨_,List.getElem?_eq_getElem hi⟩
    have hr:CodeR Tryz.prog 0 (sub (cd Tryz.f22) [1,1,1,1,0,1,0,0,1,1,0,0,1]) (PsiM (fun mv=>stD ns mo qs mv ts i x) (GrpOK ns ts i)) .normal (PsiM (fun mv=>stD ns mo qs mv ts i x) (GrpOK ns ts (i+1))) :=
      r14 (G:=GrpOK ns ts i) (G':=GrpOK ns ts (i+1)) hk (hw k (List.mem_of_getElem? hk)) (fun L hG e he=>by
        rw [(hG.a e he).1]
        have:=grp_len ns ts e.k i
        omega) (fun L e mb es hG hM hek hel=>hG.step hk hx e hek hel)
    exact CodeR.seq (CodeR.ofM (f':=fun mv=>stB6 ns mo qs mv ts i) fun mb=>n12_p0) (CodeR.seq (CodeR.ofM (f':=fun mv=>stB ns mo qs mv ts i) fun mb=>n12c_p0 (by omega)) (CodeR.seq (CodeR.blockn (CodeR.seq (CodeR.ofM (f':=fun mv=>stD ns mo qs mv ts i x) fun mb=>n13_p0 hx) hr)) (CodeR.ofM (f:=fun mv=>stD ns mo qs mv ts i x) (f':=fun mv=>stB ns mo qs mv ts (i+1)) fun mb=>n15_p0 (inR_nat (by omega)))))
  · rw [show sub (cd Tryz.f22) [1,1,1,1,0,1,0,0] = .seq (sub (cd Tryz.f22) [1,1,1,1,0,1,0,0,0]) (.seq (sub (cd Tryz.f22) [1,1,1,1,0,1,0,0,1,0]) (sub (cd Tryz.f22) [1,1,1,1,0,1,0,0,1,1])) from by kernel_rfl]
    exact CodeR.seq (CodeR.ofM (f':=fun mv=>stB6 ns mo qs mv ts ts.length) fun mb=>n12_p0) (CodeR.seqx (CodeR.ofM fun mb=>n12c_p1 (by omega)) (by simp))

def bestS(mo:Int)(l:List Int):Int:=((downI l).take (min mo.toNat l.length)).sum
def outG(ns ts:List Int)(mo:Int)(N g:Nat):List (List Int):=if grp ns ts g N=[] then [] else [[(g:Int),1,bestS mo (grp ns ts g N),0]]
def outL(ns ts:List Int)(mo:Int)(N n:Nat):List (List Int):=(List.range n).flatMap (outG ns ts mo N)
theorem outL_succ(ns ts:List Int)(mo:Int)(N n:Nat):outL ns ts mo N (n+1)=outL ns ts mo N n++outG ns ts mo N n:=by
  unfold outL
  rw [List.range_succ,List.flatMap_append,List.flatMap_singleton]
theorem outL_len(ns ts:List Int)(mo:Int)(N n:Nat):(outL ns ts mo N n).length≤n:=by
  induction n with
  | zero=>simp [outL]
  | succ n ih =>
    rw [outL_succ,List.length_append]
    have:(outG ns ts mo N n).length≤1:=by unfold outG;split <;> simp
    omega
theorem sum_bd{l:List Int}(h:∀ x∈l,0≤x∧x≤1000000):0≤l.sum∧l.sum≤1000000*l.length:=by
  induction l with
  | nil=>simp
  | cons x r ih =>
    have h1:=h x (List.mem_cons_self ..)
    have h2:=ih fun y hy=>h y (List.mem_cons_of_mem _ hy)
    rw [List.sum_cons,List.length_cons]
    omega
theorem grp_mem{ns ts:List Int}{g x:Int}{i:Nat}(h:x∈grp ns ts g i):x∈ts:=by
  unfold grp at h
  obtain ⟨p,hp,hx⟩:=List.mem_filterMap.1 h
  split at hx
  · cases hx
    exact (List.of_mem_zip (List.mem_of_mem_take hp)).2
  · cases hx
theorem downI_mem{l:List Int}{x:Int}:x∈downI l↔x∈l:=isort_mem _ _ _
theorem downI_len(l:List Int):(downI l).length=l.length:=isort_length _ _

theorem nat_loop2{ns ts:List Int}{mo:Int}{qs:List Int}(hl:ns.length=ts.length)(hN:ts.length≤12)(hmo:1≤mo∧mo≤12)(hts:∀ x∈ts,0≤x∧x≤1000000) :
    CodeR Tryz.prog 0 (sub (cd Tryz.f22) [1,1,1,1,1,1,0,1]) (PsiK (fun mv=>stF ns mo qs mv 0 []) 0 (GrpOK ns ts ts.length)) .normal (PsiK (fun mv=>stF ns mo qs mv 31 (outL ns ts mo ts.length 31)) 31 (GrpOK ns ts ts.length)):=by
  rw [show sub (cd Tryz.f22) [1,1,1,1,1,1,0,1] = .block 3 (.loop (sub (cd Tryz.f22) [1,1,1,1,1,1,0,1,0,0])) from by kernel_rfl]
  refine CodeR.block (LoopR.code (LoopR.times 31 (fun n=>PsiK (fun mv=>stF ns mo qs mv n (outL ns ts mo ts.length n)) n (GrpOK ns ts ts.length)) (fun n hn => ?_) ?_ (by simp)))
  · rw [show sub (cd Tryz.f22) [1,1,1,1,1,1,0,1,0,0] = .seq (sub (cd Tryz.f22) [1,1,1,1,1,1,0,1,0,0,0]) (.seq (sub (cd Tryz.f22) [1,1,1,1,1,1,0,1,0,0,1,0]) (.seq (.block 4 (.seq (sub (cd Tryz.f22) [1,1,1,1,1,1,0,1,0,0,1,1,0,0,0]) (.seq (sub (cd Tryz.f22) [1,1,1,1,1,1,0,1,0,0,1,1,0,0,1,0]) (.seq (sub (cd Tryz.f22) [1,1,1,1,1,1,0,1,0,0,1,1,0,0,1,1,0]) (sub (cd Tryz.f22) [1,1,1,1,1,1,0,1,0,0,1,1,0,0,1,1,1]))))) (sub (cd Tryz.f22) [1,1,1,1,1,1,0,1,0,0,1,1,1]))) from by kernel_rfl]
    refine CodeR.seq (CodeR.ofK (f':=fun mv=>stF6 ns mo qs mv n (outL ns ts mo ts.length n)) (Nat.le_refl _) fun mb=>n18_p0) (CodeR.seq (CodeR.ofK (f':=fun mv=>stF ns mo qs mv n (outL ns ts mo ts.length n)) (Nat.le_refl _) fun mb=>n18c_p0 (by omega)) (CodeR.seq (Ψ1:=PsiK (fun mv=>stF ns mo qs mv n (outL ns ts mo ts.length (n+1))) (n+1) (GrpOK ns ts ts.length)) ?_ (CodeR.ofK (Nat.le_refl _) fun mb=>n24_p0 (inR_nat (by omega)))))
    have hol:=outL_len ns ts mo ts.length n
    cases hg:grp ns ts n ts.length with
    | nil =>
      have e1:outL ns ts mo ts.length (n+1)=outL ns ts mo ts.length n:=by rw [outL_succ,outG,if_pos hg,List.append_nil]
      rw [e1]
      exact CodeR.block (CodeR.seq (CodeR.ofK (f':=fun mv=>stG ns mo qs mv n (outL ns ts mo ts.length n)) (Nat.le_refl _) fun mb=>n19_p0) (CodeR.seq (r20n (by omega) hg) (CodeR.seqx (CodeR.ofK (by omega) fun mb=>n21n_p0) (by simp))))
    | cons y l =>
      have hgl:=grp_len ns ts n ts.length
      rw [hg] at hgl
      have hd:=downI_len (y::l)
      have hmin:(if mo<(((downI (y::l)).length:Nat):Int) then mo else (((downI (y::l)).length:Nat):Int))=((min mo.toNat (y::l).length:Nat):Int):=by
        rw [hd];split <;> omega
      have hle:min mo.toNat (y::l).length≤(downI (y::l)).length:=by rw [hd];omega
      have htk:((downI (y::l)).take (min mo.toNat (y::l).length)).length=min mo.toNat (y::l).length:=by rw [List.length_take];omega
      have hmem:∀ j,∀ x∈(((downI (y::l)).take (min mo.toNat (y::l).length)).take j),0≤x∧x≤1000000:=fun j x hx=>hts x (grp_mem (g:=(n:Int)) (i:=ts.length) (by rw [hg];exact downI_mem.1 (List.mem_of_mem_take (List.mem_of_mem_take hx))))
      have e1:outL ns ts mo ts.length (n+1)=outL ns ts mo ts.length n++[[(n:Int),1,((downI (y::l)).take (min mo.toNat (y::l).length)).sum,0]]:=by
        rw [outL_succ,outG,if_neg (by rw [hg];simp),hg];rfl
      refine CodeR.blockn (CodeR.seq (CodeR.ofK (f':=fun mv=>stG ns mo qs mv n (outL ns ts mo ts.length n)) (Nat.le_refl _) fun mb=>n19_p0) (CodeR.seq (r20c (by omega) hg) (CodeR.seq (CodeR.ofK (f':=fun mv=>stH ns mo qs mv n (outL ns ts mo ts.length n) y l) (Nat.le_refl _) fun mb=>n21_p0) (CodeR.ofK (Nat.le_refl _) fun mb=>n22_p0 (l0:=(downI (y::l)).take (min mo.toNat (y::l).length)) ?_ (by simp) ?_ ?_ ?_ ?_ ?_ ?_ ?_ ?_))))
      · omega
      · rw [hmin];omega
      · rw [hmin,htk];omega
      · rw [hmin,Nat.sub_zero,Int.toNat_natCast,List.drop_zero,List.length_map,Nat.div_self (by rw [hd];simp),Nat.mul_one,List.map_take]
      · unfold small;rw [htk];simp only [List.length_cons] at hgl ⊢;omega
      · intro j
        have:=sum_bd (hmem j)
        have h2:(((downI (y::l)).take (min mo.toNat (y::l).length)).take j).length≤12:=by
          rw [List.length_take,htk];simp only [List.length_cons] at hgl ⊢;omega
        unfold inR
        omega
      · exact ⟨rfl,by omega⟩
      · rw [e1,List.length_append];rfl
      · rw [e1,List.flatten_append,List.map_append];rfl
  · rw [show sub (cd Tryz.f22) [1,1,1,1,1,1,0,1,0,0] = .seq (sub (cd Tryz.f22) [1,1,1,1,1,1,0,1,0,0,0]) (.seq (sub (cd Tryz.f22) [1,1,1,1,1,1,0,1,0,0,1,0]) (sub (cd Tryz.f22) [1,1,1,1,1,1,0,1,0,0,1,1])) from by kernel_rfl]
    exact CodeR.seq (CodeR.ofK (f':=fun mv=>stF6 ns mo qs mv 31 (outL ns ts mo ts.length 31)) (Nat.le_refl _) fun mb=>n18_p0) (CodeR.seqx (CodeR.ofK (Nat.le_refl _) fun mb=>n18c_p1 (by omega)) (by simp))
end KV
end Go.Proofs
end
section
namespace Go.Proofs
open KL Go.RowKit
namespace KV

theorem LoopOK.count{P:Program}{k:Nat}{b:Code}{e:Ex}{R:St}(N:Nat)(S:Nat→St)(hs:∀ i,i<N→CodeOK P k b (S i) .normal (S (i+1)))(hx:CodeOK P k b (S N) e R)(he:e ≠ .normal):LoopOK P k b (S 0) e R:=by
  have key:∀ d i,i+d=N→LoopOK P k b (S i) e R:=by
    intro d
    induction d with
    | zero => intro i hi;obtain rfl:i=N:=by omega
              exact .exit hx he
    | succ d ih=>intro i hi;exact .step (hs i (by omega)) (ih (i+1) (by omega))
  exact key N 0 (by omega)

theorem fl_setf{k i f:Nat}{L:List (List Int)}{x:List Int}{y:Int}(h:uni k L)(hx:L[i]? = some x)(hf:f<k):(L.flatten.map intP).set (i*k+f) (intP y)=((L.set i (x.set f y)).flatten.map intP):=by
  have hi:=(List.getElem?_eq_some_iff.1 hx).1
  have hxl:x.length=k:=h x (List.mem_of_getElem? hx)
  have e:L=L.take i++x::L.drop (i+1):=by
    conv=>lhs;rw [← List.take_append_drop i L]
    congr 1
    rw [List.drop_eq_getElem_cons hi]
    congr 1
    exact (List.getElem?_eq_some_iff.1 hx).2
  have hA:(L.take i).flatten.length=i*k:=by
    rw [fl_len (fun y hy=>h y (List.mem_of_mem_take hy)),List.length_take]
    congr 1;omega
  have hset:L.set i (x.set f y)=L.take i++(x.set f y)::L.drop (i+1):=by
    rw [List.set_eq_take_append_cons_drop,if_pos hi]
  rw [hset,← List.map_set]
  congr 1
  conv=>lhs;rw [e]
  rw [List.flatten_append,List.flatten_cons,List.flatten_append,List.flatten_cons]
  rw [List.set_append_right _ _ (by omega),hA,Nat.add_sub_cancel_left,List.set_append_left _ _ (by omega)]

def rkOf(P:List Int)(v:Int)(j:Nat):Int:=1+(((P.take j).filter fun q=>decide (v<q)).length:Int)
theorem rkOf_zero(P:List Int)(v:Int):rkOf P v 0=1:=by simp [rkOf]
theorem rkOf_succ{P:List Int}{v q:Int}{j:Nat}(h:P[j]? = some q):rkOf P v (j+1)=if v<q then rkOf P v j+1 else rkOf P v j:=by
  unfold rkOf
  rw [List.take_add_one,h,List.filter_append,List.length_append]
  split <;> rename_i h2 <;> simp [h2] <;> omega
theorem rkOf_bd(P:List Int)(v:Int)(j:Nat):1≤rkOf P v j∧rkOf P v j≤1+j:=by
  unfold rkOf
  have:=Nat.le_trans (List.length_filter_le (fun q=>decide (v<q)) (P.take j)) (List.length_take_le j P)
  omega
def qtOf(qs:List Int)(rk:Int):Int:=if rk≤qs.length then qs.getD (rk-1).toNat 0 else 0
abbrev pts3(o:List (List Int)):List Int:=o.map fun x=>x.getD 2 0
def finR(qs P:List Int)(x:List Int):List Int:=[x.getD 0 0,rkOf P (x.getD 2 0) P.length,x.getD 2 0,qtOf qs (rkOf P (x.getD 2 0) P.length)]
def natL(qs:List Int)(o:List (List Int)):List (List Int):=isort (ltK 1) (o.map (finR qs (pts3 o)))
def midL(qs:List Int)(o:List (List Int))(i:Nat):List (List Int):=(o.take i).map (finR qs (pts3 o))++o.drop i
def Pt(P:List Int)(r:List (List Int)):Prop:=r.length=P.length∧∀ (j:Nat) (q:Int),P[j]? = some q→∃ a b d,r[j]? = some [a,b,q,d]
theorem Pt.uni{P:List Int}{r:List (List Int)}(h:Pt P r):uni 4 r:=fun x hx=>by
  obtain ⟨j,hj,rfl⟩:=List.getElem_of_mem hx
  obtain ⟨a,b,d,hr⟩:=h.2 j (P[j]'(by rw [← h.1];exact hj)) (List.getElem?_eq_getElem _)
  rw [List.getElem?_eq_getElem hj] at hr
  rw [Option.some.inj hr];rfl
theorem Pt.set{P:List Int}{r:List (List Int)}{i:Nat}{a b q d:Int}(h:Pt P r)(hq:P[i]? = some q):Pt P (r.set i [a,b,q,d]):=by
  refine ⟨by rw [List.length_set];exact h.1,fun j q' hj => ?_⟩
  have hjl:=(List.getElem?_eq_some_iff.1 hj).1
  have hrl:=h.1
  rw [List.getElem?_set]
  by_cases e:i=j
  · subst e
    rw [hq] at hj;cases hj
    rw [if_pos rfl,if_pos (by omega)]
    exact ⟨a,b,d,rfl⟩
  · rw [if_neg e];exact h.2 j q' hj
def Base(o:List (List Int)):Prop:=∀ x∈o,∃ g s,x=[g,1,s,0]
theorem base_outL(ns ts:List Int)(mo:Int)(N n:Nat):Base (outL ns ts mo N n):=fun x hx=>by
  unfold outL at hx
  obtain ⟨g,hg,hx⟩:=List.mem_flatMap.1 hx
  unfold outG at hx
  split at hx
  · simp at hx
  · simp at hx;exact ⟨_,_,hx⟩
theorem mid_at{qs:List Int}{o:List (List Int)}{i j:Nat}(hi:i≤o.length):(midL qs o i)[j]? = if j<i then (o[j]?).map (finR qs (pts3 o)) else o[j]? := by
  unfold midL
  by_cases h:j<i
  · rw [if_pos h,List.getElem?_append_left (by rw [List.length_map,List.length_take];omega),List.getElem?_map,List.getElem?_take,if_pos h]
  · rw [if_neg h,List.getElem?_append_right (by rw [List.length_map,List.length_take];omega),List.length_map,List.length_take,List.getElem?_drop]
    congr 1;omega
theorem mid_len{qs:List Int}{o:List (List Int)}{i:Nat}(hi:i≤o.length):(midL qs o i).length=o.length:=by
  unfold midL;rw [List.length_append,List.length_map,List.length_take,List.length_drop];omega
theorem mid_pt{qs:List Int}{o:List (List Int)}{i:Nat}(hb:Base o)(hi:i≤o.length):Pt (pts3 o) (midL qs o i):=by
  refine ⟨by rw [mid_len hi,List.length_map],fun j q hj => ?_⟩
  rw [mid_at hi]
  rw [List.getElem?_map] at hj
  cases ho:o[j]? with
  | none=>rw [ho] at hj;cases hj
  | some x =>
    rw [ho] at hj
    obtain ⟨g,s,rfl⟩:=hb x (List.mem_of_getElem? ho)
    simp at hj
    subst hj
    split
    · exact ⟨_,_,_,rfl⟩
    · exact ⟨_,_,_,rfl⟩
theorem mid_zero(qs:List Int)(o:List (List Int)):midL qs o 0=o:=by simp [midL]
theorem mid_end(qs:List Int)(o:List (List Int)):midL qs o o.length=o.map (finR qs (pts3 o)):=by simp [midL]
theorem mid_succ{qs:List Int}{o:List (List Int)}{i:Nat}{x:List Int}(h:o[i]? = some x):midL qs o (i+1)=(midL qs o i).set i (finR qs (pts3 o) x):=by
  have hi:=(List.getElem?_eq_some_iff.1 h).1
  apply List.ext_getElem?
  intro j
  rw [mid_at (by omega),List.getElem?_set,mid_len (by omega),mid_at (by omega)]
  by_cases e:i=j
  · subst e
    rw [if_pos (by omega),if_pos rfl,if_pos hi,h];rfl
  · rw [if_neg e]
    by_cases e2:j<i
    · rw [if_pos (by omega),if_pos e2]
    · rw [if_neg (by omega),if_neg e2]

section
variable {qs:List Int} {o:List (List Int)}
theorem nat_inner(hb:Base o)(ho:o.length≤31){i:Nat}{g s:Int}(hx:o[i]? = some [g,1,s,0]) :
    LoopOK Tryz.prog 0 (sub (cd Tryz.f22) [1,1,1,1,1,1,1,0,1,0,0,1,1,0,0,1,0,1,0,0]) (nat_S3 qs o i (midL qs o i) 0 (midL qs o i).length ((midL qs o i).flatten.map intP)) (.exit 7)
      (nat_S3 qs o i (midL qs o i) o.length ((midL qs o i).set i [g,rkOf (pts3 o) s o.length,s,0]).length (((midL qs o i).set i [g,rkOf (pts3 o) s o.length,s,0]).flatten.map intP)):=by
  have hi:=(List.getElem?_eq_some_iff.1 hx).1
  have hml:(midL qs o i).length=o.length:=mid_len (by omega)
  have hpt:Pt (pts3 o) (midL qs o i):=mid_pt hb (by omega)
  have hpi:(pts3 o)[i]? = some s:=by rw [List.getElem?_map,hx];rfl
  have hmi:(midL qs o i)[i]? = some [g,1,s,0]:=by rw [mid_at (by omega),if_neg (by omega),hx]
  have e0:(midL qs o i).set i [g,rkOf (pts3 o) s 0,s,0]=midL qs o i:=by
    rw [rkOf_zero]
    obtain ⟨h1,h2⟩:=List.getElem?_eq_some_iff.1 hmi
    rw [← h2];exact List.set_getElem_self h1
  have:=LoopOK.count (P:=Tryz.prog) (k:=0) (b:=sub (cd Tryz.f22) [1,1,1,1,1,1,1,0,1,0,0,1,1,0,0,1,0,1,0,0]) (e := .exit 7) (R:=nat_S3 qs o i (midL qs o i) o.length ((midL qs o i).set i [g,rkOf (pts3 o) s o.length,s,0]).length (((midL qs o i).set i [g,rkOf (pts3 o) s o.length,s,0]).flatten.map intP)) o.length
    (fun j=>nat_S3 qs o i (midL qs o i) j ((midL qs o i).set i [g,rkOf (pts3 o) s j,s,0]).length (((midL qs o i).set i [g,rkOf (pts3 o) s j,s,0]).flatten.map intP)) (fun j hj => ?_) (nat_L3_p2 (by rw [hml];omega)) (by simp)
  · rw [e0] at this;exact this
  · have hr:Pt (pts3 o) ((midL qs o i).set i [g,rkOf (pts3 o) s j,s,0]):=hpt.set hpi
    obtain ⟨q,hq⟩:∃ q,(pts3 o)[j]? = some q:=⟨_,List.getElem?_eq_getElem (by rw [List.length_map];omega)⟩
    obtain ⟨a,b,d,hrj⟩:=hr.2 j q hq
    have hri:((midL qs o i).set i [g,rkOf (pts3 o) s j,s,0])[i]? = some [g,rkOf (pts3 o) s j,s,0]:=by
      rw [List.getElem?_set,if_pos rfl,if_pos (by omega)]
    have hbd:=rkOf_bd (pts3 o) s j
    have hsucc:=rkOf_succ (v:=s) hq
    by_cases hlt:s<q
    · rw [if_pos hlt] at hsucc
      refine nat_L3_p0 (r':=(midL qs o i).set i [g,rkOf (pts3 o) s (j+1),s,0]) (by rw [hml];omega) hrj hr.uni hri hlt (by unfold inR;omega) ?_ (inR_nat (by omega)) rfl (by rw [List.length_set,List.length_set]) ?_
      · rw [List.length_map,fl_len hr.uni,List.length_set,hml];omega
      · rw [fl_setf hr.uni hri (by decide),List.set_set,hsucc];rfl
    · rw [if_neg hlt] at hsucc
      rw [hsucc]
      exact nat_L3_p1 (by rw [hml];omega) hrj hr.uni hri (by omega) (inR_nat (by omega)) rfl

theorem nat_outer(hb:Base o)(ho:o.length≤31)(hqs:qs.length≤31):LoopOK Tryz.prog 0 (sub (cd Tryz.f22) [1,1,1,1,1,1,1,0,1,0,0]) (nat_S2 qs o 0 o.length (o.flatten.map intP)) (.exit 5)
    (nat_S2 qs o o.length (o.map (finR qs (pts3 o))).length ((o.map (finR qs (pts3 o))).flatten.map intP)):=by
  have:=LoopOK.count (P:=Tryz.prog) (k:=0) (b:=sub (cd Tryz.f22) [1,1,1,1,1,1,1,0,1,0,0]) (e := .exit 5) (R:=nat_S2 qs o o.length (o.map (finR qs (pts3 o))).length ((o.map (finR qs (pts3 o))).flatten.map intP)) o.length
    (fun i=>nat_S2 qs o i (midL qs o i).length ((midL qs o i).flatten.map intP)) (fun i hi => ?_) (by rw [mid_end];exact nat_L2_p2 (by omega)) (by simp)
  · rw [mid_zero] at this;exact this
  · obtain ⟨g,s,hgs⟩:=hb o[i] (List.getElem_mem hi)
    have hx:o[i]? = some [g,1,s,0]:=by rw [List.getElem?_eq_getElem hi,hgs]
    have hL:=nat_inner (qs:=qs) hb ho hx
    have hml:(midL qs o i).length=o.length:=mid_len (by omega)
    have hpt:Pt (pts3 o) (midL qs o i):=mid_pt hb (by omega)
    have hpi:(pts3 o)[i]? = some s:=by rw [List.getElem?_map,hx];rfl
    have hr:Pt (pts3 o) ((midL qs o i).set i [g,rkOf (pts3 o) s o.length,s,0]):=hpt.set hpi
    have hri:((midL qs o i).set i [g,rkOf (pts3 o) s o.length,s,0])[i]? = some [g,rkOf (pts3 o) s o.length,s,0]:=by
      rw [List.getElem?_set,if_pos rfl,if_pos (by omega)]
    have hbd:=rkOf_bd (pts3 o) s o.length
    have hpl:(pts3 o).length=o.length:=List.length_map _
    have efin:midL qs o (i+1)=(midL qs o i).set i [g,rkOf (pts3 o) s o.length,s,qtOf qs (rkOf (pts3 o) s o.length)]:=by
      rw [mid_succ hx];unfold finR;rw [hpl];rfl
    by_cases hle:rkOf (pts3 o) s o.length≤(qs.length:Int)
    · have hq:qs[(rkOf (pts3 o) s o.length-1).toNat]? = some (qtOf qs (rkOf (pts3 o) s o.length)):=by
        unfold qtOf
        rw [if_pos hle,List.getD_eq_getElem?_getD,List.getElem?_eq_getElem (by omega)];rfl
      refine nat_L2_p0 (by omega) hL hri hr.uni hle (by unfold inR;omega) hq (by omega) ?_ (inR_nat (by omega)) rfl (by rw [mid_len (by omega),List.length_set,hml]) ?_
      · rw [List.length_map,fl_len hr.uni,List.length_set,hml];omega
      · rw [fl_setf hr.uni hri (by decide),List.set_set,efin];rfl
    · have hq:qtOf qs (rkOf (pts3 o) s o.length)=0:=by unfold qtOf;rw [if_neg hle]
      rw [hq] at efin
      refine nat_L2_p1 (by omega) hL hri hr.uni (by omega) (inR_nat (by omega)) rfl (by rw [mid_len (by omega),List.length_set,hml]) (by rw [efin])
end

def nationsM(c:KL.Cup)(ns:List Int)(mo:Int)(qs:List Int):List (List Int):=natL qs (outL ns (KL.totalsM c) mo (KL.totalsM c).length 31)
def natE(c:KL.Cup)(ns:List Int)(mo:Int)(qs:List Int):Int :=
  if KL.checkP c≠0 then KL.checkP c else if (ns.length:Int)≠c.sk∨within (qs.length:Int) 1 31=false then 2 else
  if (ns.all fun x=>within x 0 30)=false∨within mo 1 12=false∨(qs.all fun x=>within x 0 20)=false then 3 else if KL.fallsB qs=false then 4 else 0
theorem nodup_le:∀ {S T:List Int},S.Nodup→(∀ g∈S,g∈T)→S.length≤T.length
  | [],_,_,_=>Nat.zero_le _
  | a::S,T,h,hs=>by
    obtain ⟨h1,h2⟩:=List.nodup_cons.1 h
    have ha:=hs a (List.mem_cons_self ..)
    have:=nodup_le (T:=T.erase a) h2 (fun g hg=>(List.mem_erase_of_ne (fun e=>h1 (by rw [← e];exact hg))).2 (hs g (List.mem_cons_of_mem _ hg)))
    rw [List.length_erase_of_mem ha] at this
    have:0<T.length:=List.length_pos_of_mem ha
    rw [List.length_cons]
    omega
theorem outL_few(ns ts:List Int)(mo:Int)(N n:Nat)(h:(ns.zip ts).length≤12):(outL ns ts mo N n).length≤12:=by
  have key:∀ n,∃ S:List Int,S.Nodup∧S.length=(outL ns ts mo N n).length∧(∀ g∈S,g∈(ns.zip ts).map (·.1))∧∀ g∈S,g<n:=by
    intro n
    induction n with
    | zero=>exact ⟨[],.nil,rfl,by simp,by simp⟩
    | succ n ih =>
      obtain ⟨S,h1,h2,h3,h4⟩:=ih
      rw [outL_succ]
      unfold outG
      split
      · exact ⟨S,h1,by simpa using h2,h3,fun g hg=>by have:=h4 g hg;omega⟩
      · rename_i hg
        refine ⟨(n:Int)::S,List.nodup_cons.2 ⟨fun hin=>by have:=h4 _ hin;omega,h1⟩,by simp [h2],fun g hg' => ?_,fun g hg' => ?_⟩
        · rcases List.mem_cons.1 hg' with rfl | hg'
          · obtain ⟨x,hx⟩:=List.exists_mem_of_ne_nil _ hg
            unfold grp at hx
            obtain ⟨p,hp,hx⟩:=List.mem_filterMap.1 hx
            split at hx
            · rename_i he
              exact List.mem_map.2 ⟨p,List.mem_of_mem_take hp,he⟩
            · cases hx
          · exact h3 g hg'
        · rcases List.mem_cons.1 hg' with rfl | hg'
          · omega
          · have:=h4 g hg';omega
  obtain ⟨S,h1,h2,h3,_⟩:=key n
  rw [← h2]
  have:=nodup_le h1 h3
  rw [List.length_map] at this
  omega
theorem nat_main{c:KL.Cup}{ns:List Int}{mo:Int}{qs:List Int}(hV:KL.Valid c)(hl:(ns.length:Int)=c.sk)(hns:∀ k∈ns,0≤k∧k≤30)(hmo:1≤mo∧mo≤12)(hqs:qs.length≤31)(htl:(KL.totalsM c).length=c.sk.toNat)(hts:∀ x∈KL.totalsM c,0≤x∧x≤1000000) :
    CodeOK Tryz.prog 0 (sub (cd Tryz.f22) [1,1,1]) (stT c ns mo qs) .ret ⟨fr 161 [(8,(.p (.sl (nationsM c ns mo qs).length ((nationsM c ns mo qs).flatten.map intP)))),(9,(.p (intP 0)))],[]⟩:=by
  have s1:=hV.sk1
  have s2:=hV.sk2
  refine CodeR.ok (by kernel_rfl) ?_
  rw [show sub (cd Tryz.f22) [1,1,1] = .seq (sub (cd Tryz.f22) [1,1,1,0]) (.seq (.seq (sub (cd Tryz.f22) [1,1,1,1,0,0]) (sub (cd Tryz.f22) [1,1,1,1,0,1])) (.seq (sub (cd Tryz.f22) [1,1,1,1,1,0]) (.seq (.seq (sub (cd Tryz.f22) [1,1,1,1,1,1,0,0]) (sub (cd Tryz.f22) [1,1,1,1,1,1,0,1])) (sub (cd Tryz.f22) [1,1,1,1,1,1,1])))) from by kernel_rfl]
  have htl':ns.length=(KL.totalsM c).length:=by omega
  have hw:∀ k∈ns,(Lit.int .i64 k).wf=true:=fun k hk=>by
    have:=hns k hk
    have h:=wf_int (n:=k.toNat) (by omega)
    rwa [Int.toNat_of_nonneg this.1] at h
  refine CodeR.seq (r10 (ts:=KL.totalsM c)) (CodeR.seq (CodeR.seq (CodeR.ofM (f':=fun mv=>stB ns mo qs mv (KL.totalsM c) 0) fun mb=>n11_p0 hV) (nat_loop1 htl' hw (by omega))) (CodeR.seq (CodeR.ofM (f':=fun mv=>⟨fr 161 [(1,(.p (intsP ns))),(2,(.p (intP mo))),(3,(.p (intsP qs))),(12,(.p mv)),(15,(.p nilS))],[]⟩) fun mb=>n16_p0) (CodeR.seq (CodeR.seq ?_ (nat_loop2 (qs:=qs) htl' (by omega) hmo hts)) ?_)))
  · refine (CodeR.ofM (f':=fun mv=>stF ns mo qs mv 0 []) fun mb=>n17_p0).mono (fun _ _ h=>h) (fun st R h => ?_)
    obtain ⟨mb,es,cl,L,h1,rfl,h3,h4⟩:=h
    exact ⟨mb,es,cl,L,h1,by simp [mapR],fun e he _=>by simp [mapR];exact .inr ⟨e,he,rfl⟩,h3,h4⟩
  · refine CodeR.of fun st R h=>⟨_,rfl,?_⟩
    obtain ⟨mb,es,cl,L,rfl,_⟩:=h
    have hol:=outL_len ns (KL.totalsM c) mo (KL.totalsM c).length 31
    have hb:=base_outL ns (KL.totalsM c) mo (KL.totalsM c).length 31
    have hlen:(outL ns (KL.totalsM c) mo (KL.totalsM c).length 31).length≤12:=outL_few _ _ _ _ _ (by rw [List.length_zip];omega)
    refine CodeOK.pre (g:=⟨[1,2,12,85],[0],[],[]⟩) (st1:=⟨fr 161 [(3,(.p (intsP qs))),(15,(.own 0))],[some (.row 40 (outL ns (KL.totalsM c) mo (KL.totalsM c).length 31).length ((outL ns (KL.totalsM c) mo (KL.totalsM c).length 31).flatten.map intP))]⟩) (by kernel_rfl) ?_
    exact n25_p0 (nat_outer hb hol hqs) (fun x hx=>by
      obtain ⟨y,hy,rfl⟩:=List.mem_map.1 hx
      rfl) (by rw [List.length_map];omega)
end KV
end Go.Proofs
end
namespace Go.Proofs
namespace KV
section
open KL
theorem zL6q0:((0:Int) != (0:Int))=false:=by first | decide | simp
theorem zL6q1:((0:Int) == (0:Int))=true:=by first | decide | simp
theorem zL6q2:((3:Int) == (3:Int))=true:=by first | decide | simp
theorem zL6q3:((1:Int) == (1:Int))=true:=by first | decide | simp
abbrev threeC:Cup:=⟨3,3,2,[10,6,4],[[1,2,3],[3,1,1]]⟩
abbrev twoC:Cup:=⟨2,4,4,[10,4],[[1,2],[1,2],[1,2]]⟩
theorem three_p0{base:Nat}:FV Tryz.prog 85 [] base (.p (.agg [(intP 3),(intP 3),(intP 2),(.sl 3 [(intP 10),(intP 6),(intP 4)]),(.sl 2 [(.sl 3 [(intP 1),(intP 2),(intP 3)]),(.sl 3 [(intP 3),(intP 1),(intP 1)])])])) []:=by
  exact FV.frz (FMM.fin (k:=0) (g:=⟨[],[],[1,4],[]⟩) rfl Tryz.func85 rfl (o:=[]) (l:=[]) (by kernel_rfl) (gn)) (by kernel_rfl)
theorem two_p0{base:Nat}:FV Tryz.prog 86 [] base (.p (.agg [(intP 2),(intP 4),(intP 4),(.sl 2 [(intP 10),(intP 4)]),(.sl 3 [(.sl 2 [(intP 1),(intP 2)]),(.sl 2 [(intP 1),(intP 2)]),(.sl 2 [(intP 1),(intP 2)])])])) []:=by
  exact FV.frz (FMM.fin (k:=0) (g:=⟨[],[],[1,5],[]⟩) rfl Tryz.func86 rfl (o:=[]) (l:=[]) (by kernel_rfl) (gn)) (by kernel_rfl)
theorem awake_p0(h34_0:∀ base:Nat,FV Tryz.prog 34 [(.p (.agg [(intP 3),(intP 3),(intP 2),(.sl 3 [(intP 10),(intP 6),(intP 4)]),(.sl 2 [(.sl 3 [(intP 1),(intP 2),(intP 3)]),(.sl 3 [(intP 3),(intP 1),(intP 1)])])]))] base (.tup [(.p (.sl 3 [(intP 1),(intP 1),(intP 14),(intP 1),(intP 0),(intP 2),(intP 14),(intP 1),(intP 2),(intP 3),(intP 12),(intP 1)])),(.p (intP 0))]) [])(h37_1:∀ base:Nat,FV Tryz.prog 37 [(.p (.agg [(intP 3),(intP 3),(intP 2),(.sl 3 [(intP 10),(intP 6),(intP 4)]),(.sl 2 [(.sl 3 [(intP 1),(intP 2),(intP 3)]),(.sl 3 [(intP 3),(intP 1),(intP 1)])])]))] base (.tup [(.p (.sl 3 [(intP 0),(intP 1),(intP 2)])),(.p (intP 0))]) [])(h38_2:∀ base:Nat,FV Tryz.prog 38 [(.p (.agg [(intP 3),(intP 3),(intP 2),(.sl 3 [(intP 10),(intP 6),(intP 4)]),(.sl 2 [(.sl 3 [(intP 1),(intP 2),(intP 3)]),(.sl 3 [(intP 3),(intP 1),(intP 1)])])]))] base (.tup [(.p (.sl 0 [])),(.p (intP 0))]) [])(h55_3:∀ base:Nat,FV Tryz.prog 55 [(.p (.agg [(intP 3),(intP 3),(intP 2),(.sl 3 [(intP 10),(intP 6),(intP 4)]),(.sl 2 [(.sl 3 [(intP 1),(intP 2),(intP 3)]),(.sl 3 [(intP 3),(intP 1),(intP 1)])])])),(.p (intP 1))] base (.tup [(.p (intP 3)),(.p (.sl 3 [(intP 1),(intP 0),(intP 2)])),(.p (intP 0))]) [])(h39_4:∀ base:Nat,FV Tryz.prog 39 [(.p (.sl 3 [(intP 1),(intP 1),(intP 14),(intP 1),(intP 0),(intP 2),(intP 14),(intP 1),(intP 2),(intP 3),(intP 12),(intP 1)])),(.p (.sl 3 [(intP 1),(intP 1),(intP 14),(intP 1),(intP 0),(intP 2),(intP 14),(intP 1),(intP 2),(intP 3),(intP 12),(intP 1)]))] base (.p (blP true)) [])(h25_5:∀ base:Nat,FV Tryz.prog 25 [(.p (.sl 3 [(intP 0),(intP 1),(intP 2)])),(.p (.sl 3 [(intP 0),(intP 1),(intP 2)]))] base (.p (blP true)) [])(h73_6:∀ base:Nat,FV Tryz.prog 73 [(.p (.agg [(intP 2),(intP 4),(intP 4),(.sl 2 [(intP 10),(intP 4)]),(.sl 3 [(.sl 2 [(intP 1),(intP 2)]),(.sl 2 [(intP 1),(intP 2)]),(.sl 2 [(intP 1),(intP 2)])])]))] base (.tup [(.p (intP 3)),(.p (intP 0)),(.p (intP 0))]) [])(h56_7:∀ base:Nat,FV Tryz.prog 56 [(.p (.agg [(intP 3),(intP 3),(intP 2),(.sl 3 [(intP 10),(intP 6),(intP 4)]),(.sl 2 [(.sl 3 [(intP 1),(intP 2),(intP 3)]),(.sl 3 [(intP 3),(intP 1),(intP 1)])])])),(.p (intP 2))] base (.tup [(.p (.sl 3 [(intP 2),(intP 3),(intP 1)])),(.p (intP 0))]) [])(h22_8:∀ base:Nat,FV Tryz.prog 22 [(.p (.agg [(intP 3),(intP 3),(intP 2),(.sl 3 [(intP 10),(intP 6),(intP 4)]),(.sl 2 [(.sl 3 [(intP 1),(intP 2),(intP 3)]),(.sl 3 [(intP 3),(intP 1),(intP 1)])])])),(.p (.sl 3 [(intP 5),(intP 5),(intP 9)])),(.p (intP 1)),(.p (.sl 2 [(intP 4),(intP 3)]))] base (.tup [(.p (.sl 2 [(intP 5),(intP 1),(intP 14),(intP 4),(intP 9),(intP 2),(intP 12),(intP 3)])),(.p (intP 0))]) [])(h87_9:∀ base:Nat,FV Tryz.prog 87 [(.p (.sl 2 [(intP 5),(intP 1),(intP 14),(intP 4),(intP 9),(intP 2),(intP 12),(intP 3)])),(.p (.sl 2 [(intP 5),(intP 1),(intP 14),(intP 4),(intP 9),(intP 2),(intP 12),(intP 3)]))] base (.p (blP true)) []){base:Nat}:FV Tryz.prog 19 [] base (.p (blP true)) []:=by
  exact FV.fin Tryz.func19 rfl (o:=[.c (.p (.agg [(intP 3),(intP 3),(intP 2),(.sl 3 [(intP 10),(intP 6),(intP 4)]),(.sl 2 [(.sl 3 [(intP 1),(intP 2),(intP 3)]),(.sl 3 [(intP 3),(intP 1),(intP 1)])])])) [],.c (.tup [(.p (.sl 3 [(intP 1),(intP 1),(intP 14),(intP 1),(intP 0),(intP 2),(intP 14),(intP 1),(intP 2),(intP 3),(intP 12),(intP 1)])),(.p (intP 0))]) [],.c (.p (.agg [(intP 3),(intP 3),(intP 2),(.sl 3 [(intP 10),(intP 6),(intP 4)]),(.sl 2 [(.sl 3 [(intP 1),(intP 2),(intP 3)]),(.sl 3 [(intP 3),(intP 1),(intP 1)])])])) [],.c (.tup [(.p (.sl 3 [(intP 0),(intP 1),(intP 2)])),(.p (intP 0))]) [],.c (.p (.agg [(intP 3),(intP 3),(intP 2),(.sl 3 [(intP 10),(intP 6),(intP 4)]),(.sl 2 [(.sl 3 [(intP 1),(intP 2),(intP 3)]),(.sl 3 [(intP 3),(intP 1),(intP 1)])])])) [],.c (.tup [(.p (.sl 0 [])),(.p (intP 0))]) [],.c (.p (.agg [(intP 3),(intP 3),(intP 2),(.sl 3 [(intP 10),(intP 6),(intP 4)]),(.sl 2 [(.sl 3 [(intP 1),(intP 2),(intP 3)]),(.sl 3 [(intP 3),(intP 1),(intP 1)])])])) [],.c (.tup [(.p (intP 3)),(.p (.sl 3 [(intP 1),(intP 0),(intP 2)])),(.p (intP 0))]) [],bF,bF,bF,bF,bF,bF,bF,bF,bF,bF,bF,bF,bF,bF,bF,.c (.p (blP true)) [],bF,bF,bF,bF,bF,.c (.p (blP true)) [],bF,bF,bF,bF,bF,bF,bF,bF,bF,bF,.c (.p (.agg [(intP 2),(intP 4),(intP 4),(.sl 2 [(intP 10),(intP 4)]),(.sl 3 [(.sl 2 [(intP 1),(intP 2)]),(.sl 2 [(intP 1),(intP 2)]),(.sl 2 [(intP 1),(intP 2)])])])) [],.c (.tup [(.p (intP 3)),(.p (intP 0)),(.p (intP 0))]) [],.c (.p (.agg [(intP 3),(intP 3),(intP 2),(.sl 3 [(intP 10),(intP 6),(intP 4)]),(.sl 2 [(.sl 3 [(intP 1),(intP 2),(intP 3)]),(.sl 3 [(intP 3),(intP 1),(intP 1)])])])) [],.c (.tup [(.p (.sl 3 [(intP 2),(intP 3),(intP 1)])),(.p (intP 0))]) [],.c (.p (.agg [(intP 3),(intP 3),(intP 2),(.sl 3 [(intP 10),(intP 6),(intP 4)]),(.sl 2 [(.sl 3 [(intP 1),(intP 2),(intP 3)]),(.sl 3 [(intP 3),(intP 1),(intP 1)])])])) [],.c (.tup [(.p (.sl 2 [(intP 5),(intP 1),(intP 14),(intP 4),(intP 9),(intP 2),(intP 12),(intP 3)])),(.p (intP 0))]) [(2,.dead),(3,.dead)],bT,bT,bT,bT,bT,bT,bT,bT,bT,bT,bT,bT,bT,bT,bT,bT,bT,bT,bT,.x (intP 1),bT,bT,bT,bT,bT,bT,bT,.c (.p (blP true)) [],bT]) (l:=[_,FC Tryz.prog 87 [(.p (.sl 2 [(intP 5),(intP 1),(intP 14),(intP 4),(intP 9),(intP 2),(intP 12),(intP 3)])),(.own 4)] [(4,(.row 40 2 [(intP 5),(intP 1),(intP 14),(intP 4),(intP 9),(intP 2),(intP 12),(intP 3)]))] 5 (.p (blP true)) [],_,_,_,_,_,_,_,[(intP 2),(intP 3),(intP 1)][2]? = some (intP 1),_,0≤(2:Int)∧(2:Int)<(3:Int)∧2<[(intP 2),(intP 3),(intP 1)].length,_,_,_,_,_,_,_,_,_,_,_,_,_,_,_,_,_,_,FC Tryz.prog 22 [(.p (.agg [(intP 3),(intP 3),(intP 2),(.sl 3 [(intP 10),(intP 6),(intP 4)]),(.sl 2 [(.sl 3 [(intP 1),(intP 2),(intP 3)]),(.sl 3 [(intP 3),(intP 1),(intP 1)])])])),(.own 2),(.p (intP 1)),(.own 3)] [(2,(.row 3 3 [(intP 5),(intP 5),(intP 9)])),(3,(.row 3 2 [(intP 4),(intP 3)]))] 4 (.tup [(.p (.sl 2 [(intP 5),(intP 1),(intP 14),(intP 4),(intP 9),(intP 2),(intP 12),(intP 3)])),(.p (intP 0))]) [(2,.dead),(3,.dead)],FC Tryz.prog 85 [] [] 2 (.p (.agg [(intP 3),(intP 3),(intP 2),(.sl 3 [(intP 10),(intP 6),(intP 4)]),(.sl 2 [(.sl 3 [(intP 1),(intP 2),(intP 3)]),(.sl 3 [(intP 3),(intP 1),(intP 1)])])])) [],FC Tryz.prog 56 [(.p (.agg [(intP 3),(intP 3),(intP 2),(.sl 3 [(intP 10),(intP 6),(intP 4)]),(.sl 2 [(.sl 3 [(intP 1),(intP 2),(intP 3)]),(.sl 3 [(intP 3),(intP 1),(intP 1)])])])),(.p (intP 2))] [] 2 (.tup [(.p (.sl 3 [(intP 2),(intP 3),(intP 1)])),(.p (intP 0))]) [],FC Tryz.prog 85 [] [] 2 (.p (.agg [(intP 3),(intP 3),(intP 2),(.sl 3 [(intP 10),(intP 6),(intP 4)]),(.sl 2 [(.sl 3 [(intP 1),(intP 2),(intP 3)]),(.sl 3 [(intP 3),(intP 1),(intP 1)])])])) [],FC Tryz.prog 73 [(.p (.agg [(intP 2),(intP 4),(intP 4),(.sl 2 [(intP 10),(intP 4)]),(.sl 3 [(.sl 2 [(intP 1),(intP 2)]),(.sl 2 [(intP 1),(intP 2)]),(.sl 2 [(intP 1),(intP 2)])])]))] [] 2 (.tup [(.p (intP 3)),(.p (intP 0)),(.p (intP 0))]) [],FC Tryz.prog 86 [] [] 2 (.p (.agg [(intP 2),(intP 4),(intP 4),(.sl 2 [(intP 10),(intP 4)]),(.sl 3 [(.sl 2 [(intP 1),(intP 2)]),(.sl 2 [(intP 1),(intP 2)]),(.sl 2 [(intP 1),(intP 2)])])])) [],((3:Int) != (3:Int))=false,_,_,_,false=false,false=false,false=false,false=false,false=false,false=false,FC Tryz.prog 25 [(.p (.sl 3 [(intP 0),(intP 1),(intP 2)])),(.own 1)] [(1,(.row 3 3 [(intP 0),(intP 1),(intP 2)]))] 2 (.p (blP true)) [],false=false,false=false,false=false,_,_,FC Tryz.prog 39 [(.p (.sl 3 [(intP 1),(intP 1),(intP 14),(intP 1),(intP 0),(intP 2),(intP 14),(intP 1),(intP 2),(intP 3),(intP 12),(intP 1)])),(.own 0)] [(0,(.row 61 3 [(intP 1),(intP 1),(intP 14),(intP 1),(intP 0),(intP 2),(intP 14),(intP 1),(intP 2),(intP 3),(intP 12),(intP 1)]))] 1 (.p (blP true)) [],_,_,_,_,_,_,_,_,_,_,_,_,_,_,_,FC Tryz.prog 55 [(.p (.agg [(intP 3),(intP 3),(intP 2),(.sl 3 [(intP 10),(intP 6),(intP 4)]),(.sl 2 [(.sl 3 [(intP 1),(intP 2),(intP 3)]),(.sl 3 [(intP 3),(intP 1),(intP 1)])])])),(.p (intP 1))] [] 0 (.tup [(.p (intP 3)),(.p (.sl 3 [(intP 1),(intP 0),(intP 2)])),(.p (intP 0))]) [],FC Tryz.prog 85 [] [] 0 (.p (.agg [(intP 3),(intP 3),(intP 2),(.sl 3 [(intP 10),(intP 6),(intP 4)]),(.sl 2 [(.sl 3 [(intP 1),(intP 2),(intP 3)]),(.sl 3 [(intP 3),(intP 1),(intP 1)])])])) [],FC Tryz.prog 38 [(.p (.agg [(intP 3),(intP 3),(intP 2),(.sl 3 [(intP 10),(intP 6),(intP 4)]),(.sl 2 [(.sl 3 [(intP 1),(intP 2),(intP 3)]),(.sl 3 [(intP 3),(intP 1),(intP 1)])])]))] [] 0 (.tup [(.p (.sl 0 [])),(.p (intP 0))]) [],FC Tryz.prog 85 [] [] 0 (.p (.agg [(intP 3),(intP 3),(intP 2),(.sl 3 [(intP 10),(intP 6),(intP 4)]),(.sl 2 [(.sl 3 [(intP 1),(intP 2),(intP 3)]),(.sl 3 [(intP 3),(intP 1),(intP 1)])])])) [],FC Tryz.prog 37 [(.p (.agg [(intP 3),(intP 3),(intP 2),(.sl 3 [(intP 10),(intP 6),(intP 4)]),(.sl 2 [(.sl 3 [(intP 1),(intP 2),(intP 3)]),(.sl 3 [(intP 3),(intP 1),(intP 1)])])]))] [] 0 (.tup [(.p (.sl 3 [(intP 0),(intP 1),(intP 2)])),(.p (intP 0))]) [],FC Tryz.prog 85 [] [] 0 (.p (.agg [(intP 3),(intP 3),(intP 2),(.sl 3 [(intP 10),(intP 6),(intP 4)]),(.sl 2 [(.sl 3 [(intP 1),(intP 2),(intP 3)]),(.sl 3 [(intP 3),(intP 1),(intP 1)])])])) [],FC Tryz.prog 34 [(.p (.agg [(intP 3),(intP 3),(intP 2),(.sl 3 [(intP 10),(intP 6),(intP 4)]),(.sl 2 [(.sl 3 [(intP 1),(intP 2),(intP 3)]),(.sl 3 [(intP 3),(intP 1),(intP 1)])])]))] [] 0 (.tup [(.p (.sl 3 [(intP 1),(intP 1),(intP 14),(intP 1),(intP 0),(intP 2),(intP 14),(intP 1),(intP 2),(intP 3),(intP 12),(intP 1)])),(.p (intP 0))]) [],FC Tryz.prog 85 [] [] 0 (.p (.agg [(intP 3),(intP 3),(intP 2),(.sl 3 [(intP 10),(intP 6),(intP 4)]),(.sl 2 [(.sl 3 [(intP 1),(intP 2),(intP 3)]),(.sl 3 [(intP 3),(intP 1),(intP 1)])])])) []]) (by kernel_rfl) (gc zL6q3 (gc (fv (h87_9 _)) (gc zL6q3 (gc zL6q3 (gc zL6q3 (gc zL6q3 (gc zL6q3 (gc zL6q2 (gc zL6q2 (gc rfl (gc zL6q2 (gc (by first | decide | simp) (gc zL6q2 (gc zL6q2 (gc zL6q1 (gc zL6q1 (gc zL6q1 (gc zL6q1 (gc zL6q2 (gc zL6q2 (gc zL6q2 (gc zL6q1 (gc zL6q1 (gc zL6q1 (gc zL6q1 (gc zL6q1 (gc zL6q1 (gc zL6q1 (gc zL6q1 (gc zL6q1 (gc (FV.close (ids:=[2,3]) (args':=[(.p (.agg [(intP 3),(intP 3),(intP 2),(.sl 3 [(intP 10),(intP 6),(intP 4)]),(.sl 2 [(.sl 3 [(intP 1),(intP 2),(intP 3)]),(.sl 3 [(intP 3),(intP 1),(intP 1)])])])),(.p (.sl 3 [(intP 5),(intP 5),(intP 9)])),(.p (intP 1)),(.p (.sl 2 [(intP 4),(intP 3)]))]) (h22_8 _) (by kernel_rfl)) (gc (FV.fc three_p0 (by kernel_rfl)) (gc (FV.fc (h56_7 _) rfl) (gc (FV.fc three_p0 (by kernel_rfl)) (gc (FV.fc (h73_6 _) rfl) (gc (FV.fc two_p0 (by kernel_rfl)) (gc (by first | decide | simp) (gc zL6q0 (gc zL6q0 (gc zL6q0 (gc rfl (gc rfl (gc rfl (gc rfl (gc rfl (gc rfl (gc (fv (h25_5 _)) (gc rfl (gc rfl (gc rfl (gc zL6q0 (gc zL6q0 (gc (fv (h39_4 _)) (gc zL6q0 (gc zL6q0 (gc zL6q0 (gc zL6q0 (gc zL6q0 (gc zL6q0 (gc zL6q0 (gc zL6q0 (gc zL6q0 (gc zL6q0 (gc zL6q0 (gc zL6q0 (gc zL6q0 (gc zL6q0 (gc zL6q0 (gc (FV.fc (h55_3 _) rfl) (gc (FV.fc three_p0 (by kernel_rfl)) (gc (FV.fc (h38_2 _) rfl) (gc (FV.fc three_p0 (by kernel_rfl)) (gc (FV.fc (h37_1 _) rfl) (gc (FV.fc three_p0 (by kernel_rfl)) (gc (FV.fc (h34_0 _) rfl) (gc (FV.fc three_p0 (by kernel_rfl)) gn))))))))))))))))))))))))))))))))))))))))))))))))))))))))))))))))))))))))))))
end
end KV
end Go.Proofs
section
namespace Go.Proofs
namespace KL
def insI(x:Int):List Int→List Int
  | []=>[x]
  | y::r=>if x≤y then x::y::r else y::insI x r
def sortI:List Int→List Int
  | []=>[]
  | x::r=>insI x (sortI r)
theorem insI_perm(x:Int):∀ l,(insI x l).Perm (x::l)
  | [] => .refl _
  | y::r=>by
    unfold insI
    split
    · exact .refl _
    · exact ((insI_perm x r).cons y).trans (List.Perm.swap x y r)
theorem sortI_perm:∀ l,(sortI l).Perm l
  | [] => .refl _
  | x::r=>(insI_perm x _).trans ((sortI_perm r).cons x)
theorem insI_sorted(x:Int):∀ l,l.Pairwise (· ≤ ·)→(insI x l).Pairwise (· ≤ ·)
  | [],_=>by simp [insI]
  | y::r,h=>by
    obtain ⟨h1,h2⟩:=List.pairwise_cons.1 h
    unfold insI
    split
    · rename_i hx
      exact List.pairwise_cons.2 ⟨fun z hz=>by
        rcases List.mem_cons.1 hz with rfl | hz
        · exact hx
        · have:=h1 z hz;omega,h⟩
    · rename_i hx
      refine List.pairwise_cons.2 ⟨fun z hz => ?_,insI_sorted x r h2⟩
      rcases List.mem_cons.1 ((insI_perm x r).mem_iff.1 hz) with rfl | hz
      · omega
      · exact h1 z hz
theorem sortI_sorted:∀ l,(sortI l).Pairwise (· ≤ ·)
  | [] => .nil
  | x::r=>insI_sorted x _ (sortI_sorted r)
theorem sorted_eq:∀ (a b:List Int),a.Perm b→a.Pairwise (· ≤ ·)→b.Pairwise (· ≤ ·)→a=b
  | [],b,h,_,_=>(List.nil_perm.1 h).symm
  | x::r,[],h,_,_=>absurd h.length_eq (by simp)
  | x::r,y::t,h,ha,hb=>by
    obtain ⟨h1,h2⟩:=List.pairwise_cons.1 ha
    obtain ⟨h3,h4⟩:=List.pairwise_cons.1 hb
    have e:x=y:=by
      have m1:x∈y::t:=h.mem_iff.1 (List.mem_cons_self ..)
      have m2:y∈x::r:=h.mem_iff.2 (List.mem_cons_self ..)
      rcases List.mem_cons.1 m1 with e | m1
      · exact e
      · rcases List.mem_cons.1 m2 with e | m2
        · exact e.symm
        · have:=h1 y m2;have:=h3 x m1;omega
    subst e
    rw [sorted_eq r t (List.Perm.cons_inv h) h2 h4]
theorem mergeSort_eq(l:List Int):l.mergeSort leB=sortI l:=by
  refine sorted_eq _ _ ((List.mergeSort_perm _ _).trans (sortI_perm l).symm) ?_ (sortI_sorted l)
  have:=List.pairwise_mergeSort leB_trans leB_total l
  exact this.imp (fun h=>by simpa [leB] using h)
end KL
namespace KV
open KL
theorem h39(base:Nat):FV Tryz.prog 39 [(.p (.sl 3 [(intP 1),(intP 1),(intP 14),(intP 1),(intP 0),(intP 2),(intP 14),(intP 1),(intP 2),(intP 3),(intP 12),(intP 1)])),(.p (.sl 3 [(intP 1),(intP 1),(intP 14),(intP 1),(intP 0),(intP 2),(intP 14),(intP 1),(intP 2),(intP 3),(intP 12),(intP 1)]))] base (.p (blP true)) [] :=
  eql_ok [[1,1,14,1],[0,2,14,1],[2,3,12,1]] [[1,1,14,1],[0,2,14,1],[2,3,12,1]] (by decide) (by unfold uni;decide) (by unfold uni;decide)
theorem h25(base:Nat):FV Tryz.prog 25 [(.p (.sl 3 [(intP 0),(intP 1),(intP 2)])),(.p (.sl 3 [(intP 0),(intP 1),(intP 2)]))] base (.p (blP true)) []:=eqi_ok [0,1,2] [0,1,2] (by decide)
theorem h87(base:Nat):FV Tryz.prog 87 [(.p (.sl 2 [(intP 5),(intP 1),(intP 14),(intP 4),(intP 9),(intP 2),(intP 12),(intP 3)])),(.p (.sl 2 [(intP 5),(intP 1),(intP 14),(intP 4),(intP 9),(intP 2),(intP 12),(intP 3)]))] base (.p (blP true)) [] :=
  eqn_ok [[5,1,14,4],[9,2,12,3]] [[5,1,14,4],[9,2,12,3]] (by decide) (by unfold uni;decide) (by unfold uni;decide)
theorem countedL_eq(c:Cup)(s:Nat):countedL c s=KL.sortI ((KL.isort (KL.ltC (KL.cntCmp c s)) (KL.idx c.done.length)).take (min c.done.length c.be.toNat)):=by
  unfold countedL
  exact KL.mergeSort_eq _
def totK(c:Cup)(s:Nat):Int:=((KL.sortI ((KL.isort (KL.ltC (KL.cntCmp c s)) (KL.idx c.done.length)).take (min c.done.length c.be.toNat))).map fun i=>scoreAt c i.toNat s).sum
theorem totalM_eq(c:Cup)(s:Nat):totalM c s=totK c s:=by
  unfold totalM totK
  rw [countedL_eq]
def betK(c:Cup)(a b:Nat):Bool:=KL.betterF (totK c a) (totK c b) (placesM c a) (placesM c b)
theorem betS_eq(c:Cup)(a b:Nat):betS c a b=betK c a b:=by
  unfold betS betK
  rw [totalM_eq,totalM_eq]
def rankK(c:Cup)(s:Nat):Int:=1+((KL.oth s c.sk.toNat).countP (fun x=>betK c x s):Nat)
theorem rankM_eq(c:Cup)(s:Nat):rankM c s=rankK c s:=by
  unfold rankM rankK
  simp only [betS_eq]
def canK(c:Cup)(s:Nat):Bool:=rankK (withC c (wonM c s)) s == 1
theorem canM_eq(c:Cup):canM c=canK c:=by
  funext s
  unfold canM canK
  rw [rankM_eq]
set_option maxRecDepth 100000 in
theorem v37:whoM (canM threeC) 3=[0,1,2]:=by
  rw [canM_eq]
  kernel_rfl
theorem clash_no{race:List Int}(h0:∀ x∈race,0≤x)(h:KL.NoClash race):KL.clashR race=false:=(KL.clash_iff race h0).2 h
theorem valid_three:KL.Valid threeC where
  sk1:=by decide
  sk2:=by decide
  ra1:=by decide
  ra2:=by decide
  be1:=by decide
  be2:=by decide
  pt1:=by decide
  pt2:=by decide
  dn:=by decide
  len:=by decide
  pts:=by decide
  rows:=by decide
  falls:=by kernel_rfl
  clash:=by
    show (KL.clashR [1,2,3] || (KL.clashR [3,1,1] || false))=false
    rw [clash_no (by decide) (by unfold KL.NoClash;decide),clash_no (by decide) (by unfold KL.NoClash;decide)]
    rfl
theorem valid_two:KL.Valid twoC where
  sk1:=by decide
  sk2:=by decide
  ra1:=by decide
  ra2:=by decide
  be1:=by decide
  be2:=by decide
  pt1:=by decide
  pt2:=by decide
  dn:=by decide
  len:=by decide
  pts:=by decide
  rows:=by decide
  falls:=by kernel_rfl
  clash:=by
    show (KL.clashR [1,2] || (KL.clashR [1,2] || (KL.clashR [1,2] || false)))=false
    rw [clash_no (by decide) (by unfold KL.NoClash;decide)]
    rfl
theorem h37(base:Nat):FV Tryz.prog 37 [.p (cupP threeC)] base (.tup [.p (intsP [0,1,2]),.p (intP 0)]) []:=by
  have:=canE_ok threeC valid_three (base:=base)
  rwa [show whoM (canM threeC) threeC.sk.toNat=[0,1,2] from v37] at this
theorem v34:tableM threeC=[[1,1,14,1],[0,2,14,1],[2,3,12,1]]:=by
  unfold tableM tabL
  simp only [rankM_eq,totalM_eq]
  kernel_rfl
theorem h34(base:Nat):FV Tryz.prog 34 [.p (cupP threeC)] base (.tup [.p (.sl 3 ([[1,1,14,1],[0,2,14,1],[2,3,12,1]].flatten.map intP)),.p (intP 0)]) []:=by
  have:=table_ok threeC valid_three (base:=base)
  rwa [v34] at this
theorem lastE_three(k:Int)(h:0≤k∧k<3):lastE threeC k=0:=by
  unfold lastE
  rw [named_in valid_three h.1 h.2]
  rfl
def beatK(c:Cup)(o:Nat)(p:Int)(s:Nat)(w:Int):Bool:=betK (withC c [KL.race2 c.sk.toNat o p s w]) o s
theorem beatsM_fun:beatsM=beatK:=by funext c o p s w;unfold beatsM beatK;rw [betS_eq]
def findK(c:Cup)(s:Nat)(pl:Int)(free:List Int):Int:=(KL.oth s c.sk.toNat).foldl (fun fo x=>if fo<0 then (if free.getD x 0=0 then (if beatK c x pl s 1 then fo else (x:Int)) else fo) else fo) (-1)
theorem findM_eq(c:Cup)(s:Nat)(pl:Int)(free:List Int):findM c s pl free=findK c s pl free:=by
  have:findF c s pl free=fun fo x=>if fo<0 then (if free.getD x 0=0 then (if beatK c x pl s 1 then fo else (x:Int)) else fo) else fo:=by
    funext fo x
    unfold findF
    rw [beatsM_fun]
  unfold findM findK
  rw [this]
def fullRK(c:Cup)(s:Nat):Nat→Int→List Int→Option (List Int)
  | 0,_,free=>some free
  | n+1,pl,free=>if findK c s pl free<0 then none else fullRK c s n (pl+1) (free.set (findK c s pl free).toNat pl)
theorem fullR_eq(c:Cup)(s:Nat):∀ n pl free,fullR c s n pl free=fullRK c s n pl free
  | 0,_,_=>rfl
  | n+1,pl,free=>by
    unfold fullR fullRK
    rw [findM_eq,fullR_eq c s n]
theorem v56:fullM threeC 2=some [2,3,1]:=by
  unfold fullM
  rw [fullR_eq]
  kernel_rfl
theorem h56(base:Nat):FV Tryz.prog 56 [.p (cupP threeC),.p (intP 2)] base (.tup [.p (intsP [2,3,1]),.p (intP 0)]) []:=by
  have:=full_ok threeC 2 (lastE_three 2 (by omega)) (base:=base)
  rw [v56] at this
  exact this
def passK(c:Cup)(skier s:Nat):Bool:=decide (s≠skier) && decide (1<rankK (withC c (wonM c s)) skier)
theorem passes_eq(c:Cup)(skier s:Nat):KL.passes c skier s=passK c skier s:=by
  unfold KL.passes passK
  rw [rankM_eq]
def agK(c:Cup)(skier:Nat):Nat→Nat→Option Nat
  | 0,_=>none
  | f+1,k=>if passK c skier k then some k else agK c skier f (k+1)
theorem ag_eq(c:Cup)(skier:Nat):∀ f k,KL.againstAt c skier f k=agK c skier f k
  | 0,_=>rfl
  | f+1,k=>by
    unfold KL.againstAt agK
    rw [passes_eq,ag_eq c skier f]
def sureK(c:Cup)(s:Nat):Bool := !(agK c s c.sk.toNat 0).isSome
theorem sureM_eq(c:Cup):sureM c=sureK c:=by
  funext s
  unfold sureM sureK KL.againstM
  rw [ag_eq]
theorem v38:whoM (sureM threeC) 3=[]:=by
  rw [sureM_eq]
  kernel_rfl
theorem h38(base:Nat):FV Tryz.prog 38 [.p (cupP threeC)] base (.tup [.p (intsP []),.p (intP 0)]) []:=by
  have:=sureE_ok threeC valid_three (base:=base)
  rwa [show whoM (sureM threeC) threeC.sk.toNat=[] from v38] at this
def decPK(c:Cup)(n:Nat):Bool:=decide (0<(whoM (sureK (earlyC c n)) c.sk.toNat).length) && decide ((whoM (canK (earlyC c n)) c.sk.toNat).length=1)
theorem decP_eq(c:Cup):decP c=decPK c:=by
  funext n
  unfold decP decPK
  rw [sureM_eq,canM_eq]
theorem v73:decM twoC=(3,0,0):=by
  unfold decM
  rw [decP_eq]
  simp only [sureM_eq]
  kernel_rfl
theorem h73(base:Nat):FV Tryz.prog 73 [.p (cupP twoC)] base (.tup [.p (intP 3),.p (intP 0),.p (intP 0)]) []:=by
  have:=dec_ok twoC valid_two (base:=base)
  rwa [v73] at this
def rivPK(c:Cup)(s i:Nat):Int:=if beatK c i 0 s 0 then 61 else upto (fun p=>beatK c i p s 0) 60 0
theorem rivPl_eq(c:Cup)(s i:Nat):rivPl c s i=rivPK c s i:=by
  unfold rivPl rivPK
  rw [beatsM_fun]
theorem v55:worstM threeC 1=(3,3,[1,0,2]):=by
  have e:rivG threeC 1=fun i=>if i=1 then [] else if 0<rivPK threeC 1 i then [[(i:Int),rivPK threeC 1 i]] else []:=by
    funext i
    unfold rivG
    rw [rivPl_eq]
  have h:((KL.isort (ltK 1) ((List.range threeC.sk.toNat).flatMap fun i=>if i=1 then [] else if 0<rivPK threeC 1 i then [[(i:Int),rivPK threeC 1 i]] else [])).foldl wStep (1,1,List.replicate threeC.sk.toNat 0):Int × Int × List Int)=(3,3,[1,0,2]):=by kernel_rfl
  unfold worstM rivM rivL
  rw [e]
  exact h
theorem h55(base:Nat):FV Tryz.prog 55 [.p (cupP threeC),.p (intP 1)] base (.tup [.p (intP 3),.p (intsP [1,0,2]),.p (intP 0)]) []:=by
  have:=worst_ok threeC 1 (lastE_three 1 (by omega)) (base:=base)
  rw [v55] at this
  exact this
theorem awake_told(h22:∀ base:Nat,FV Tryz.prog 22 [.p (cupP threeC),.p (intsP [5,5,9]),.p (intP 1),.p (intsP [4,3])] base (.tup [.p (.sl 2 ([[5,1,14,4],[9,2,12,3]].flatten.map intP)),.p (intP 0)]) [])(base:Nat):FV Tryz.prog 19 [] base (.p (blP true)) [] :=
  awake_p0 h34 h37 h38 h55 h39 h25 h73 h56 h22 h87
end KV
end Go.Proofs
end
section
namespace Go.Proofs
open KL Go.RowKit
namespace KV

theorem totalM_bd{c:KL.Cup}(hV:KL.Valid c)(s:Nat):0≤KL.totalM c s∧KL.totalM c s≤20000:=by
  unfold KL.totalM
  have hl:((KL.countedL c s).map fun i=>KL.scoreAt c i.toNat s).length≤20:=by
    rw [List.length_map,countedL_eq]
    have h1:∀ l,(KL.sortI l).length=l.length:=fun l=>by rw [← KL.mergeSort_eq];exact List.length_mergeSort l
    rw [h1,List.length_take]
    have:=hV.be2
    have:=hV.ra2
    omega
  have hb:∀ x∈((KL.countedL c s).map fun i=>KL.scoreAt c i.toNat s),0≤x∧x≤1000:=fun x hx=>by
    obtain ⟨i,_,rfl⟩:=List.mem_map.1 hx
    exact KL.scoreM_bd _ _ _ hV.pts
  have key:∀ l:List Int,(∀ x∈l,0≤x∧x≤1000)→0≤l.sum∧l.sum≤1000*l.length:=fun l h=>by
    induction l with
    | nil=>simp
    | cons x r ih =>
      have h1:=h x (List.mem_cons_self ..)
      have h2:=ih fun y hy=>h y (List.mem_cons_of_mem _ hy)
      rw [List.sum_cons,List.length_cons]
      omega
  have:=key _ hb
  omega
theorem totalsM_len(c:KL.Cup):(KL.totalsM c).length=c.sk.toNat:=KL.totalsUp_length _ _
theorem totalsM_mem{c:KL.Cup}(hV:KL.Valid c):∀ x∈KL.totalsM c,0≤x∧x≤20000:=fun x hx=>by
  unfold KL.totalsM KL.totalsUp at hx
  obtain ⟨s,_,rfl⟩:=List.mem_map.1 hx
  exact totalM_bd hV s
theorem all_within{l:List Int}{a b:Int}(h:(l.all fun x=>within x a b)=true):∀ x∈l,a≤x∧x≤b:=fun x hx=>by
  have:=List.all_eq_true.1 h x hx
  exact within_iff.1 this
theorem nat_ok(c:KL.Cup)(ns:List Int)(mo:Int)(qs:List Int)(hS:KL.Small c)(hE:natE c ns mo qs=0){base:Nat}:FV Tryz.prog 22 [.p (cupP c),.p (intsP ns),.p (intP mo),.p (intsP qs)] base
    (.tup [.p (.sl (nationsM c ns mo qs).length ((nationsM c ns mo qs).flatten.map intP)),.p (intP 0)]) []:=by
  unfold natE at hE
  split at hE
  · exact absurd hE ‹_›
  rename_i h1
  split at hE
  · omega
  rename_i h2
  split at hE
  · omega
  rename_i h3
  split at hE
  · omega
  rename_i h4
  have h1:KL.checkP c=0:=Decidable.byContradiction h1
  have hV:=(KL.valid_iff c).1 h1
  have a1:(ns.length:Int)=c.sk:=Decidable.byContradiction fun h=>h2 (.inl h)
  have a2:within (qs.length:Int) 1 31=true:=by
    cases h:within (qs.length:Int) 1 31
    · exact absurd (.inr h) h2
    · rfl
  have a3:(ns.all fun x=>within x 0 30)=true:=by
    cases h:(ns.all fun x=>within x 0 30)
    · exact absurd (.inl h) h3
    · rfl
  have a4:within mo 1 12=true:=by
    cases h:within mo 1 12
    · exact absurd (.inr (.inl h)) h3
    · rfl
  have a5:(qs.all fun x=>within x 0 20)=true:=by
    cases h:(qs.all fun x=>within x 0 20)
    · exact absurd (.inr (.inr h)) h3
    · rfl
  have a6:KL.fallsB qs=true:=by
    cases h:KL.fallsB qs
    · exact absurd h h4
    · rfl
  have b2:=within_iff.1 a2
  have s2:=hV.sk2
  exact nat_p7 hS h1 a1 a2 (by unfold small;omega) a3 a4 (by unfold small;omega) a5 (by omega) a6 (nat_main hV a1 (all_within a3) (within_iff.1 a4) (by omega) (totalsM_len c) (fun x hx=>by have:=totalsM_mem hV x hx;omega))
theorem totals_three:KL.totalsM threeC=[14,14,12]:=by
  have e:KL.totalsM threeC=(List.range 3).map (totK threeC):=by
    unfold KL.totalsM KL.totalsUp
    exact List.map_congr_left fun s _=>totalM_eq threeC s
  have h:(List.range 3).map (totK threeC)=[14,14,12]:=by kernel_rfl
  exact e.trans h
theorem v22:nationsM threeC [5,5,9] 1 [4,3]=[[5,1,14,4],[9,2,12,3]]:=by
  unfold nationsM
  have h:natL [4,3] (outL [5,5,9] [14,14,12] 1 ([14,14,12]:List Int).length 31)=[[5,1,14,4],[9,2,12,3]]:=by kernel_rfl
  rw [totals_three]
  exact h
theorem h22(base:Nat):FV Tryz.prog 22 [.p (cupP threeC),.p (intsP [5,5,9]),.p (intP 1),.p (intsP [4,3])] base (.tup [.p (.sl 2 ([[5,1,14,4],[9,2,12,3]].flatten.map intP)),.p (intP 0)]) []:=by
  have hE:natE threeC [5,5,9] 1 [4,3]=0:=by
    unfold natE
    have h:(if (([5,5,9]:List Int).length:Int)≠threeC.sk∨within (([4,3]:List Int).length:Int) 1 31=false then (2:Int) else if (([5,5,9]:List Int).all fun x=>within x 0 30)=false∨within 1 1 12=false∨(([4,3]:List Int).all fun x=>within x 0 20)=false then 3 else if KL.fallsB [4,3]=false then 4 else 0)=0:=by kernel_rfl
    rw [(KL.valid_iff threeC).2 valid_three,if_neg (by simp)]
    exact h
  have:=nat_ok threeC [5,5,9] 1 [4,3] valid_three.small hE (base:=base)
  rw [v22] at this
  exact this
theorem awake_ok(base:Nat):FV Tryz.prog 19 [] base (.p (blP true)) []:=awake_told h22 base
end KV
end Go.Proofs
end
section
namespace Go.Proofs
namespace KL
section
variable {α:Type}
theorem ins_split(lt:α→α→Bool)(A:List α)(x:α):∃ B D:List α,A=B++D∧ins lt A x=B++x::D∧(∀ d∈D,lt x d=true)∧(B=[]∨∃ B' h,B=B'++[h]∧lt x h=false):=by
  have hA:A=(A.reverse.dropWhile (lt x)).reverse++(A.reverse.takeWhile (lt x)).reverse:=by
    rw [← List.reverse_append,List.takeWhile_append_dropWhile,List.reverse_reverse]
  generalize hdw:A.reverse.dropWhile (lt x)=dw at hA
  generalize htw:A.reverse.takeWhile (lt x)=tw at hA
  have hp:insPos lt x A=dw.reverse.length:=by unfold insPos;rw [hdw,List.length_reverse]
  refine ⟨dw.reverse,tw.reverse,hA,?_,fun d hd => ?_,?_⟩
  · unfold ins
    rw [hp]
    conv=>lhs;rw [hA]
    rw [List.take_left',List.drop_left'] <;> rfl
  · rw [List.mem_reverse,← htw] at hd
    exact List.all_eq_true.1 List.all_takeWhile d hd
  · cases dw with
    | nil=>exact .inl rfl
    | cons h r =>
      refine .inr ⟨r.reverse,h,by simp,?_⟩
      have:=List.head_dropWhile_not (lt x) (l:=A.reverse) (by rw [hdw];simp)
      simp only [hdw,List.head_cons] at this
      simpa using this
theorem ins_perm(lt:α→α→Bool)(A:List α)(x:α):(ins lt A x).Perm (x::A):=by
  obtain ⟨B,D,h1,h2,_⟩:=ins_split lt A x
  rw [h2,h1]
  exact List.perm_middle
theorem isort_perm(lt:α→α→Bool)(l:List α):(isort lt l).Perm l:=by
  unfold isort
  have:∀ (l A:List α),(l.foldl (ins lt) A).Perm (A++l):=by
    intro l
    induction l with
    | nil=>intro A;simp
    | cons x r ih =>
      intro A
      rw [List.foldl_cons]
      refine (ih _).trans (((ins_perm lt A x).append_right r).trans ?_)
      exact List.perm_middle.symm
  simpa using this l []
end
end KL
end Go.Proofs
end
namespace Go.Proofs
namespace KV
section
open KL
def ofM(L:List (List Int))(n:Int):List Int:=(L.find? fun x=>x.getD 0 0 == n).getD [0,-1,0,0]
end
end KV
end Go.Proofs
section
namespace Go.Proofs
open KL Go.RowKit
namespace KV

theorem cmp_dec(a b:Int):decide (KL.cmpI a b<0)=decide (a<b):=by
  unfold KL.cmpI
  split
  · rename_i h;simp [h]
  · rename_i h
    split
    · rename_i h2;simp;omega
    · simp;omega
theorem sum_perm{l r:List Int}(h:l.Perm r):l.sum=r.sum:=by
  induction h with
  | nil=>rfl
  | cons x _ ih=>rw [List.sum_cons,List.sum_cons,ih]
  | swap x y l=>simp only [List.sum_cons];omega
  | trans _ _ h1 h2=>rw [h1,h2]

section
variable {ns ts:List Int} {mo:Int} {qs:List Int} {N:Nat}
end

end KV
end Go.Proofs
end
namespace Go.Proofs
namespace KV
section
open KL
noncomputable abbrev zM3c0:Code:=sub (cd Tryz.f113) [1,0,1,0,0]
noncomputable abbrev zM3c1:Code:=sub (cd Tryz.f42) [1,1,0,1,0,0]
def idx_S0(l:List Int)(v:Int)(i:Nat):St:=⟨fr 19 [(0,(.p (intsP l))),(1,(.p (intP v))),(7,(.p (intP (l.length:Int)))),(8,(.p (intP (i:Int))))],[]⟩
theorem idx_p0{l:List Int}{v:Int}{i'0:Nat}(hl0:LoopOK Tryz.prog 0 zM3c0 (idx_S0 l v 0) (.exit 0) (idx_S0 l v i'0)){base:Nat}:FV Tryz.prog 113 [(.p (intsP l)),(.p (intP v))] base (.p (intP (-1:Int))) []:=by
  exact FV.fin Tryz.func113 rfl (o:=[.k 6 ⟨(rng [(2,5),(9,10)]),[],[],[]⟩ (.exit 0) (idx_S0 l v i'0)]) (l:=[_]) (by kernel_rfl) (gc hl0.code gn)
theorem idx_p1{l:List Int}{v:Int}{i'0:Nat}(hl0:LoopOK Tryz.prog 0 zM3c0 (idx_S0 l v 0) .ret (setS (idx_S0 l v i'0) [(4,(.p (intP (i'0:Int))))])){base:Nat}:FV Tryz.prog 113 [(.p (intsP l)),(.p (intP v))] base (.p (intP (i'0:Int))) []:=by
  exact FV.fin Tryz.func113 rfl (o:=[.k 6 ⟨(rng [(2,5),(9,10)]),[],[],[]⟩ .ret (setS (idx_S0 l v i'0) [(4,(.p (intP (i'0:Int))))])]) (l:=[_]) (by kernel_rfl) (gc hl0.code gn)
theorem idx_L0_p0{l:List Int}{v:Int}{i:Nat}{x100:Int}(h0:(i:Int)<(l.length:Int))(h1:l[i]? = some x100)(h2:v=x100):CodeOK Tryz.prog 0 zM3c0 (idx_S0 l v i) .ret (setS (idx_S0 l v i) [(4,(.p (intP (i:Int))))]):=by
  exact CodeOK.fin (g:=⟨(rng [(2,2),(5,2),(9,10)]),[],[],[]⟩) (o:=[bT,.x (intP x100),bT]) (l:=[_,_,_,_]) (by kernel_rfl) (gc (q_eq h2) (gc (atm intP h1) (gc (ixn intP h1) (gc (q_lt h0) gn))))
theorem idx_L0_p1{l:List Int}{v:Int}{i:Nat}{x100:Int}{i':Nat}(h0:(i:Int)<(l.length:Int))(h1:l[i]? = some x100)(h2:v≠x100)(h3:inR (((i+1):Nat):Int))(ei':i'=(i+1)):CodeOK Tryz.prog 0 zM3c0 (idx_S0 l v i) .normal (idx_S0 l v i'):=by
  subst ei'
  exact CodeOK.fin (g:=⟨(rng [(2,5),(9,10)]),[],[],[]⟩) (o:=[bT,.x (intP x100),bF]) (l:=[_,_,_,_,_]) (by kernel_rfl) (gc h3 (gc (q_ne h2) (gc (atm intP h1) (gc (ixn intP h1) (gc (q_lt h0) gn)))))
theorem idx_L0_p2{l:List Int}{v:Int}{i:Nat}(h0:(l.length:Int)≤(i:Int)):CodeOK Tryz.prog 0 zM3c0 (idx_S0 l v i) (.exit 0) (idx_S0 l v i):=by
  exact CodeOK.fin (g:=⟨(rng [(2,5),(9,10)]),[],[],[]⟩) (o:=[bF]) (l:=[_]) (by kernel_rfl) (gc (q_ltF h0) gn)
theorem idxV_ok(l:List Int)(v:Int)(hl:small l.length){base:Nat}:FV Tryz.prog 113 [.p (intsP l),.p (intP v)] base (.p (intP (idxF (fun x=>decide (v=x)) l))) []:=by
  rcases LoopOK.find (P:=Tryz.prog) (k:=0) (b:=zM3c0) (fun i=>idx_S0 l v i) (fun i _=>setS (idx_S0 l v i) [(4,.p (intP (i:Int)))]) (idx_S0 l v l.length) .ret (.exit 0) (by simp) (by simp) (fun x=>decide (v=x)) l
    (fun i x hx hp=>idx_L0_p1 (by have:=lt_of_at hx;omega) hx (by simpa using hp) (inR_nat (by have:=lt_of_at hx;omega)) rfl)
    (fun i x hx hp=>idx_L0_p0 (by have:=lt_of_at hx;omega) hx (by simpa using hp))
    (idx_L0_p2 (l:=l) (i:=l.length) (by omega)) with ⟨i,x,h1,h2,h3,h4⟩ | ⟨h1,h2,h3⟩
  · rw [idxF_some h2];exact idx_p1 h4
  · rw [idxF_none h1];exact idx_p0 h3
theorem hasV_p0{l:List Int}{v:Int}{r0:Bool}(h0:small l.length)(er0:r0=(decide ((idxF (fun x=>decide (v=x)) l) ≥ (0:Int)))){base:Nat}:FV Tryz.prog 41 [(.p (intsP l)),(.p (intP v))] base (.p (blP r0)) []:=by
  subst er0
  exact FV.fin Tryz.func41 rfl (o:=[.c (.p (intP (idxF (fun x=>decide (v=x)) l))) []]) (l:=[_]) (by kernel_rfl) (gc (fk 0 (idxV_ok l v h0) rfl) gn)
theorem hasV_ok(l:List Int)(v:Int)(hl:small l.length){base:Nat}:FV Tryz.prog 41 [.p (intsP l),.p (intP v)] base (.p (blP (l.any fun x=>decide (v=x)))) []:=hasV_p0 hl (idxF_any _ _).symm
theorem cli_p0{l:List Int}(h0:(l.map intP).length=l.length*1∧l.length≤1000000){base:Nat}:FV Tryz.prog 21 [(.p (intsP l))] base (.p (intsP l)) []:=by
  exact FV.frz (FMM.fin (k:=0) (g:=⟨[],[],[0],[]⟩) rfl Tryz.func21 rfl (o:=[]) (l:=[_]) (by kernel_rfl) (gc h0 gn)) (by kernel_rfl)
theorem cli_ok(l:List Int)(hl:l.length≤1000){base:Nat}:FV Tryz.prog 21 [.p (intsP l)] base (.p (intsP l)) []:=cli_p0 ⟨by simp,by omega⟩
def cla_S0(l:List (List Int))(i:Nat)(on:Nat)(oc:List PV):St:=⟨fr 19 [(2,(.p nilS)),(3,(.own 0)),(6,(.p (rowsP l))),(7,(.p (intP (l.length:Int)))),(8,(.p (intP (i:Int))))],[some (.row 22 on oc)]⟩
theorem cla_p0{l:List (List Int)}{i'0:Nat}{o'1:List (List Int)}(hl0:LoopOK Tryz.prog 0 zM3c1 (cla_S0 l 0 0 []) (.exit 0) (cla_S0 l i'0 o'1.length (o'1.map intsP))){base:Nat}:FV Tryz.prog 42 [(.p (rowsP l))] base (.p (rowsP o'1)) []:=by
  exact FV.frz (FMM.fin (k:=0) (g:=⟨[],[],[0],[]⟩) rfl Tryz.func42 rfl (o:=[.k 8 ⟨(rng [(0,2),(4,2),(9,9)]),[0],[],[(3,22)]⟩ (.exit 0) (cla_S0 l i'0 o'1.length (o'1.map intsP))]) (l:=[_]) (by kernel_rfl) (gc hl0.code gn)) (by kernel_rfl)
theorem cla_L0_p0{l:List (List Int)}{i:Nat}{o:List (List Int)}{x100:List Int}{i':Nat}{o':List (List Int)}(h0:(i:Int)<(l.length:Int))(h1:l[i]? = some x100)(h2:x100.length≤1000)(h3:[(intsP x100)].length=1*1∧o.length+1≤1000000)(h4:inR (((i+1):Nat):Int))(ei':i'=(i+1))(eo'n:o'.length=(o.length+1))(eo'c:o'.map intsP=((o.map intsP)++[(intsP x100)])):CodeOK Tryz.prog 0 zM3c1 (cla_S0 l i o.length (o.map intsP)) .normal (cla_S0 l i' o'.length (o'.map intsP)):=by
  subst ei'
  have raw:CodeOK Tryz.prog 0 zM3c1 (cla_S0 l i o.length (o.map intsP)) .normal (cla_S0 l (i+1) (o.length+1) ((o.map intsP)++[(intsP x100)])):=CodeOK.fin (g:=⟨(rng [(0,2),(4,2),(9,9)]),[2],[],[]⟩) (o:=[bT,.x (intsP x100),.c (.p (intsP x100)) []]) (l:=[_,_,_,_,_,_]) (by kernel_rfl) (gc h4 (gc h3 (gc (fk 1 (cli_ok x100 h2) rfl) (gc (atm intsP h1) (gc (ixn intsP h1) (gc (q_lt h0) gn))))))
  exact raw.cast (by rw [eo'n,eo'c])
theorem cla_L0_p1{l:List (List Int)}{i:Nat}{o:List (List Int)}(h0:(l.length:Int)≤(i:Int)):CodeOK Tryz.prog 0 zM3c1 (cla_S0 l i o.length (o.map intsP)) (.exit 0) (cla_S0 l i o.length (o.map intsP)):=by
  exact CodeOK.fin (g:=⟨(rng [(0,2),(4,2),(9,9)]),[0],[],[]⟩) (o:=[bF]) (l:=[_]) (by kernel_rfl) (gc (q_ltF h0) gn)
theorem cla_ok(l:List (List Int))(hl:l.length≤1000)(hr:∀ r∈l,r.length≤1000){base:Nat}:FV Tryz.prog 42 [.p (rowsP l)] base (.p (rowsP l)) []:=by
  have h:=LoopOK.count (P:=Tryz.prog) (k:=0) (b:=zM3c1) (e := .exit 0) (R:=cla_S0 l l.length l.length (l.map intsP)) l.length (fun i=>cla_S0 l i (l.take i).length ((l.take i).map intsP))
    (fun i hi=>cla_L0_p0 (o:=l.take i) (o':=l.take (i+1)) (by omega) (List.getElem?_eq_getElem hi) (hr _ (List.getElem_mem hi)) (by simp;omega) (inR_nat (by omega)) rfl (by simp;omega) (by rw [List.take_add_one,List.getElem?_eq_getElem hi,List.map_append];rfl))
    (by rw [List.take_length];exact cla_L0_p1 (by omega)) (by simp)
  exact cla_p0 (o'1:=l) h
end
end KV
end Go.Proofs
section
namespace Go.Proofs
open KL Go.RowKit
namespace KL
section
variable {α:Type}
theorem ins_stable{f g:α→Int}{lt:α→α→Bool}(hlt:∀ x y,lt x y=decide (f x<f y)){A:List α}(x:α)(hs:A.Pairwise (fun a b=>f a<f b∨f a=f b∧g a<g b))(hg:∀ a∈A,g a<g x):(ins lt A x).Pairwise (fun a b=>f a<f b∨f a=f b∧g a<g b):=by
  obtain ⟨B,D,rfl,h2,h3,h4⟩:=ins_split lt A x
  rw [h2]
  obtain ⟨s1,s2,s3⟩:=List.pairwise_append.1 hs
  have hB:∀ b∈B,f b≤f x:=fun b hb=>by
    rcases h4 with rfl | ⟨B',h,rfl,hx⟩
    · simp at hb
    · rw [hlt,decide_eq_false_iff_not] at hx
      rcases List.mem_append.1 hb with hb | hb
      · have:=(List.pairwise_append.1 s1).2.2 b hb h (by simp)
        omega
      · simp at hb;subst hb;omega
  have hD:∀ d∈D,f x<f d:=fun d hd=>by
    have:=h3 d hd
    rwa [hlt,decide_eq_true_eq] at this
  refine List.pairwise_append.2 ⟨s1,List.pairwise_cons.2 ⟨fun d hd => .inl (hD d hd),s2⟩,fun a ha b hb => ?_⟩
  rcases List.mem_cons.1 hb with rfl | hb
  · have h5:=hB a ha
    have h6:=hg a (List.mem_append_left _ ha)
    by_cases e:f a=f b
    · exact .inr ⟨e,h6⟩
    · exact .inl (by omega)
  · exact s3 a ha b hb
theorem isort_stable{f g:α→Int}{lt:α→α→Bool}(hlt:∀ x y,lt x y=decide (f x<f y))(l:List α)(hl:l.Pairwise (fun a b=>g a<g b)):(isort lt l).Pairwise (fun a b=>f a<f b∨f a=f b∧g a<g b):=by
  unfold isort
  have:∀ (l A:List α),l.Pairwise (fun a b=>g a<g b)→(∀ a∈A,∀ x∈l,g a<g x)→A.Pairwise (fun a b=>f a<f b∨f a=f b∧g a<g b)→(l.foldl (ins lt) A).Pairwise (fun a b=>f a<f b∨f a=f b∧g a<g b):=by
    intro l
    induction l with
    | nil=>intro A _ _ h;exact h
    | cons x r ih =>
      intro A hl hA h
      obtain ⟨h1,h2⟩:=List.pairwise_cons.1 hl
      rw [List.foldl_cons]
      refine ih _ h2 (fun a ha y hy => ?_) (ins_stable hlt x h (fun a ha=>hA a ha x (List.mem_cons_self ..)))
      rcases List.mem_cons.1 ((ins_perm lt A x).mem_iff.1 ha) with rfl | ha
      · exact h1 y hy
      · exact hA a ha y (List.mem_cons_of_mem _ hy)
  exact this l [] hl (fun a ha=>by simp at ha) .nil
end
end KL
namespace KV

abbrev scF(c:Cup)(s:Nat)(x:Int):Int:=scoreAt c x.toNat s
abbrev srtC(c:Cup)(s:Nat):List Int:=KL.isort (KL.ltC (KL.cntCmp c s)) (KL.idx c.done.length)
theorem idx_pw(n:Nat):(KL.idx n).Pairwise (· < ·):=by
  unfold KL.idx
  rw [List.pairwise_map]
  exact List.Pairwise.imp (fun h=>by omega) List.pairwise_lt_range
theorem srtC_pw(c:Cup)(s:Nat):(srtC c s).Pairwise (fun a b => -scF c s a < -scF c s b ∨ -scF c s a = -scF c s b∧a<b):=by
  refine isort_stable (f:=fun x => -scF c s x) (g:=fun x=>x) (fun x y => ?_) _ (idx_pw _)
  refine (cmp_dec _ _).trans ?_
  rw [decide_eq_decide]
  show scF c s y<scF c s x ↔ -scF c s x < -scF c s y
  omega
theorem srtC_perm(c:Cup)(s:Nat):(srtC c s).Perm (KL.idx c.done.length):=isort_perm _ _
theorem cntd_perm(c:Cup)(s:Nat):(countedL c s).Perm ((srtC c s).take (min c.done.length c.be.toNat)):=by
  rw [countedL_eq]
  exact KL.sortI_perm _
theorem totalM_take(c:Cup)(s:Nat):totalM c s=(((srtC c s).map (scF c s)).take (min c.done.length c.be.toNat)).sum:=by
  unfold totalM
  rw [← List.map_take]
  exact sum_perm ((cntd_perm c s).map _)
theorem totals_at{c:Cup}{j:Nat}(h:(j:Int)<c.sk):(totalsM c)[j]? = some (totalM c j):=by
  unfold totalsM KL.totalsUp
  rw [List.getElem?_map,List.getElem?_range (by omega)];rfl

end KV
end Go.Proofs
end
namespace Go.Proofs
namespace KV
section
open KL
def mostM(c:Cup)(n:Nat):List Int:=(List.range n).map fun s=>totalM (withC c (wonM c s)) s
end
end KV
end Go.Proofs
section
namespace Go.Proofs
namespace KL
theorem worth_snoc(pts:List Int)(p m:Nat):worthM pts p (m+1)=worthM pts p m+pts.getD (p-1+m) 0:=by
  unfold worthM
  rw [List.take_add_one,List.sum_append,List.getElem?_drop,List.getD_eq_getElem?_getD]
  cases pts[p-1+m]? <;> simp
theorem falls_le{pts:List Int}(h:fallsB pts=true)(h0:∀ x∈pts,0≤x):∀ (d a:Nat),pts.getD (a+d) 0≤pts.getD a 0:=by
  have nn:∀ a,0≤pts.getD a 0:=fun a=>by
    rw [List.getD_eq_getElem?_getD]
    cases e:pts[a]? with
    | none=>simp
    | some x=>simpa using h0 x (List.mem_of_getElem? e)
  have hz:∀ a,pts.length≤a→pts.getD a 0=0:=fun a ha=>by rw [List.getD_eq_getElem?_getD,List.getElem?_eq_none ha];rfl
  unfold fallsB sortedB at h
  rw [decide_eq_true_iff] at h
  intro d
  induction d with
  | zero=>intro a;exact Int.le_refl _
  | succ d ih =>
    intro a
    refine Int.le_trans ?_ (ih a)
    rw [← Nat.add_assoc]
    by_cases hl:a+d+1<pts.length
    · have:=h (a+d) (by omega)
      unfold cmpDown cmpI at this
      repeat' split at this
      all_goals omega
    · rw [hz _ (by omega)];exact nn _
end KL
end Go.Proofs
end
section
namespace Go.Proofs
open KL Go.RowKit
namespace KV

def pos(x:Int):Int:=if 0≤x then x else 0
abbrev scR(c:Cup)(s:Nat)(r:List Int):Int:=scoreM c.pts r s
abbrev srtS(c:Cup)(s:Nat):List Int:=(srtC c s).map (scF c s)
theorem srtS_pw(c:Cup)(s:Nat):(srtS c s).Pairwise (fun a b=>b≤a):=by
  unfold srtS
  rw [List.pairwise_map]
  exact (srtC_pw c s).imp fun h=>by omega
theorem srtS_perm(c:Cup)(s:Nat):(srtS c s).Perm (c.done.map (scR c s)):=by
  refine ((srtC_perm c s).map _).trans ?_
  have:(KL.idx c.done.length).map (scF c s)=c.done.map (scR c s):=by
    unfold KL.idx
    rw [List.map_map]
    refine List.ext_getElem (by simp) fun i h1 h2 => ?_
    have hi:i<c.done.length:=by simpa using h2
    simp only [List.getElem_map,List.getElem_range,Function.comp]
    show scoreM c.pts (c.done.getD (i:Int).toNat []) s=scoreM c.pts c.done[i] s
    rw [Int.toNat_natCast,List.getD_eq_getElem?_getD,List.getElem?_eq_getElem hi];rfl
  rw [this]
theorem total_top(c:Cup)(s:Nat):totalM c s=((srtS c s).take c.be.toNat).sum:=by
  rw [totalM_take]
  have hl:(srtS c s).length=c.done.length:=by rw [(srtS_perm c s).length_eq,List.length_map]
  by_cases h:c.be.toNat≤c.done.length
  · rw [Nat.min_eq_right h]
  · rw [Nat.min_eq_left (by omega),List.take_of_length_le (l:=srtS c s) (by omega),List.take_of_length_le (l:=srtS c s) (by omega)]
end KV
end Go.Proofs
end
section
namespace Go.Proofs
open KL Go.RowKit
namespace KV

theorem wonRace_at{n x o:Nat}(hx:x<n):(KL.wonRace n x).getD o 0=if o=x then 1 else 0:=by
  unfold KL.wonRace
  rw [List.getD_eq_getElem?_getD,List.getElem?_set]
  by_cases e:x=o
  · subst e
    rw [if_pos rfl,if_pos (by simpa using hx),if_pos rfl];rfl
  · rw [if_neg e,if_neg (fun h=>e h.symm),List.getElem?_replicate]
    split <;> rfl
section
variable {c:Cup} {F:List (List Int)} {x:Nat}
end
end KV
end Go.Proofs
end
section
namespace Go.Proofs
open KL Go.RowKit
namespace KV

theorem srt_ext{α:Type}{r:α→α→Prop}(has:∀ a b,r a b→¬ r b a):∀ {a b:List α},a.Pairwise r→b.Pairwise r→(∀ x,x∈a↔x∈b)→a=b
  | [],[],_,_,_=>rfl
  | [],y::b,_,_,h=>by have:=(h y).2 (by simp);simp at this
  | x::a,[],_,_,h=>by have:=(h x).1 (by simp);simp at this
  | x::a,y::b,ha,hb,h=>by
    obtain ⟨a1,a2⟩:=List.pairwise_cons.1 ha
    obtain ⟨b1,b2⟩:=List.pairwise_cons.1 hb
    have e:x=y:=by
      rcases List.mem_cons.1 ((h x).1 (by simp)) with e | h1
      · exact e
      · rcases List.mem_cons.1 ((h y).2 (by simp)) with e | h2
        · exact e.symm
        · exact absurd (b1 x h1) (has _ _ (a1 y h2))
    subst e
    rw [srt_ext has a2 b2 fun z => ?_]
    constructor
    · intro hz
      rcases List.mem_cons.1 ((h z).1 (List.mem_cons_of_mem _ hz)) with e | h1
      · subst e;exact absurd (a1 z hz) (has _ _ (a1 z hz))
      · exact h1
    · intro hz
      rcases List.mem_cons.1 ((h z).2 (List.mem_cons_of_mem _ hz)) with e | h1
      · subst e;exact absurd (b1 z hz) (has _ _ (b1 z hz))
      · exact h1

theorem betS_self(c:Cup)(s:Nat):betS c s s=false:=by
  unfold betS KL.betterF
  rw [if_pos rfl]
  exact KL.lexFrom_same _ _ _
def bttrUp(c:Cup)(s n:Nat):Int:=1+((List.range n).countP (fun x=>betS c x s):Nat)
theorem rank_ref(c:Cup)(s:Nat):rankM c s=bttrUp c s c.sk.toNat:=by
  unfold rankM bttrUp KL.oth
  rw [List.countP_filter]
  congr 2
  refine List.countP_congr fun x hx => ?_
  by_cases e:x=s
  · subst e;simp [betS_self]
  · simp [e]
theorem rank_bd(c:Cup)(s:Nat)(hs:(s:Int)<c.sk):1≤rankM c s∧rankM c s≤c.sk:=by
  rw [rank_ref]
  unfold bttrUp
  have h1:=List.countP_le_length (p:=fun x=>betS c x s) (l:=List.range c.sk.toNat)
  rw [List.length_range] at h1
  rcases Nat.lt_or_ge ((List.range c.sk.toNat).countP fun x=>betS c x s) c.sk.toNat with h2 | h2
  · omega
  · have h3:(List.range c.sk.toNat).countP (fun x=>betS c x s)=(List.range c.sk.toNat).length:=by rw [List.length_range];omega
    have:=List.countP_eq_length.1 h3 s (List.mem_range.2 (by omega))
    rw [betS_self] at this
    cases this

def rowT(c:Cup)(s:Nat):List Int:=[(s:Int),rankM c s,totalM c s,(placesM c s).getD 1 0]
def rkL(c:Cup)(r n:Nat):List (List Int):=((List.range n).filter fun s=>decide (rankM c s=(r:Int)+1)).map (rowT c)
def tabR(c:Cup)(n:Nat):List (List Int):=(List.range n).flatMap fun r=>rkL c r c.sk.toNat
abbrev ordT(a b:List Int):Prop:=a.getD 1 0<b.getD 1 0∨a.getD 1 0=b.getD 1 0∧a.getD 0 0<b.getD 0 0
theorem table_ref(c:Cup):tableM c=tabR c c.sk.toNat:=by
  refine srt_ext (r:=ordT) (fun a b h1 h2=>by unfold ordT at *;omega) ?_ ?_ fun x => ?_
  · refine isort_stable (f:=fun a:List Int=>a.getD 1 0) (g:=fun a:List Int=>a.getD 0 0) (fun x y=>cmp_dec _ _) _ ?_
    unfold tabL
    rw [List.pairwise_map]
    exact List.pairwise_lt_range.imp fun h=>by simp;omega
  · unfold tabR
    rw [List.pairwise_flatMap]
    refine ⟨fun r hr => ?_,List.pairwise_lt_range.imp fun {r1 r2} h => ?_⟩
    · unfold rkL
      rw [List.pairwise_map]
      refine (List.Pairwise.imp_of_mem (fun {a b} ha hb h => ?_) (List.pairwise_lt_range.filter _))
      obtain ⟨_,h1⟩:=List.mem_filter.1 ha
      obtain ⟨_,h2⟩:=List.mem_filter.1 hb
      have h1:=of_decide_eq_true h1
      have h2:=of_decide_eq_true h2
      refine .inr ⟨?_,?_⟩
      · show rankM c a=rankM c b
        omega
      · show (a:Int)<b
        omega
    · intro x hx y hy
      unfold rkL at hx hy
      obtain ⟨a,ha,rfl⟩:=List.mem_map.1 hx
      obtain ⟨b,hb,rfl⟩:=List.mem_map.1 hy
      have h1:=of_decide_eq_true (List.mem_filter.1 ha).2
      have h2:=of_decide_eq_true (List.mem_filter.1 hb).2
      refine .inl ?_
      show rankM c a<rankM c b
      omega
  · unfold tableM
    rw [(isort_perm _ _).mem_iff]
    unfold tabL tabR rkL
    rw [List.mem_map,List.mem_flatMap]
    constructor
    · rintro ⟨s,hs,rfl⟩
      have hs':=List.mem_range.1 hs
      have hb:=rank_bd c s (by omega)
      exact ⟨(rankM c s-1).toNat,List.mem_range.2 (by omega),List.mem_map.2 ⟨s,List.mem_filter.2 ⟨hs,decide_eq_true (by omega)⟩,rfl⟩⟩
    · rintro ⟨r,hr,hx⟩
      obtain ⟨s,hs,rfl⟩:=List.mem_map.1 hx
      exact ⟨s,(List.mem_filter.1 hs).1,rfl⟩
theorem tabR_uni(c:Cup)(n:Nat):uni 4 (tabR c n):=fun x hx=>by
  unfold tabR rkL at hx
  obtain ⟨r,_,hx⟩:=List.mem_flatMap.1 hx
  obtain ⟨s,_,rfl⟩:=List.mem_map.1 hx
  rfl

def badP(r:List Int)(p:Int):Bool:=decide (p≠0) && (decide (60<p+(r.count p:Int)-1) || r.any fun q=>decide (p<q) && decide (q≤p+(r.count p:Int)-1))
theorem clash_any(r:List Int)(h0:∀ x∈r,0≤x):KL.clashR r=r.any (badP r):=by
  cases e:r.any (badP r) with
  | false =>
    rw [KL.clash_iff r h0]
    intro p hp p0
    have h1:=List.any_eq_false.1 e p hp
    unfold badP at h1
    simp only [ne_eq,p0,not_false_eq_true,decide_true,Bool.true_and,Bool.or_eq_true,decide_eq_true_eq,not_or,Int.not_lt,List.any_eq_true,Bool.and_eq_true,not_exists,not_and] at h1
    obtain ⟨h2,h3⟩:=h1
    refine ⟨by omega,fun q hq hlt => ?_⟩
    have:=h3 q hq hlt
    omega
  | true =>
    obtain ⟨p,hp,h1⟩:=List.any_eq_true.1 e
    cases ec:KL.clashR r with
    | true=>rfl
    | false =>
      have hn:=(KL.clash_iff r h0).1 ec
      unfold badP at h1
      simp only [ne_eq,Bool.and_eq_true,decide_eq_true_eq,Bool.or_eq_true,List.any_eq_true] at h1
      obtain ⟨p0,h2⟩:=h1
      obtain ⟨n1,n2⟩:=hn p hp p0
      rcases h2 with h2 | ⟨q,hq,h3,h4⟩
      · omega
      · have:=n2 q hq h3
        omega
end KV
end Go.Proofs
end
namespace Go.Proofs
namespace KV
section
open KL
end
end KV
end Go.Proofs
section
namespace Go.Proofs
open KL Go.RowKit
namespace KV

theorem sureM_iff{c:Cup}{s:Nat}:sureM c s=true↔∀ k,k<c.sk.toNat→KL.passes c s k=false:=by
  unfold sureM KL.againstM
  have key:∀ f k,(KL.againstAt c s f k).isSome=true↔∃ j,k≤j∧j<k+f∧KL.passes c s j=true:=by
    intro f
    induction f with
    | zero=>intro k;unfold KL.againstAt;simp;intro j h1 h2;omega
    | succ f ih =>
      intro k
      unfold KL.againstAt
      cases e:KL.passes c s k with
      | true=>simp [e];exact ⟨k,by omega,by omega,e⟩
      | false =>
        simp only [e,Bool.false_eq_true,if_false]
        rw [ih (k+1)]
        constructor
        · rintro ⟨j,j1,j2,j3⟩;exact ⟨j,by omega,by omega,j3⟩
        · rintro ⟨j,j1,j2,j3⟩
          refine ⟨j,?_,by omega,j3⟩
          by_cases ej:j=k
          · subst ej;rw [e] at j3;cases j3
          · omega
  have k0:=key c.sk.toNat 0
  cases e:(KL.againstAt c s c.sk.toNat 0).isSome with
  | true =>
    obtain ⟨j,_,j2,j3⟩:=k0.1 e
    simp only [Bool.not_true,Bool.false_eq_true,false_iff]
    intro h
    rw [h j (by omega)] at j3;cases j3
  | false =>
    simp only [Bool.not_false,true_iff]
    intro k hk
    cases e2:KL.passes c s k with
    | false=>rfl
    | true=>rw [k0.2 ⟨k,by omega,by omega,e2⟩] at e;cases e

section
variable {c:Cup} {F:List (List Int)} {s:Nat}
end
theorem who_mem{p:Nat→Bool}{n s:Nat}(hs:s<n):((whoM p n).any fun x=>decide ((s:Int)=x))=p s:=by
  unfold whoM
  rw [Bool.eq_iff_iff,List.any_eq_true]
  constructor
  · rintro ⟨x,hx,he⟩
    obtain ⟨k,hk,rfl⟩:=List.mem_map.1 hx
    have:k=s:=by have:=of_decide_eq_true he;omega
    subst this
    exact (List.mem_filter.1 hk).2
  · intro h
    exact ⟨(s:Int),List.mem_map.2 ⟨s,List.mem_filter.2 ⟨List.mem_range.2 hs,h⟩,rfl⟩,by simp⟩
end KV
end Go.Proofs
end
namespace Go.Proofs
namespace KV
section
open KL
theorem tabL_map(c:Cup):tabL c=(List.range c.sk.toNat).map (rowT c):=rfl
theorem table_perm(c:Cup):(tableM c).Perm ((List.range c.sk.toNat).map (rowT c)):=isort_perm _ _
theorem table_len(c:Cup):(tableM c).length=c.sk.toNat:=by rw [(table_perm c).length_eq];simp
theorem table_row(c:Cup){i:Nat}(hi:i<(tableM c).length):∃ k,k<c.sk.toNat∧(tableM c)[i]? = some (rowT c k):=by
  have h:=(table_perm c).mem_iff.1 (List.getElem_mem hi)
  obtain ⟨k,hk,e⟩:=List.mem_map.1 h
  exact ⟨k,List.mem_range.1 hk,by rw [List.getElem?_eq_getElem hi,e]⟩
end
section
end
section
open KL
def outB(n a b:Int):Bool:=decide (n<a) || decide (b<n)
theorem falls_any(pts:List Int):KL.fallsB pts = !((List.range (pts.length-1)).any fun j=>decide (pts.getD j 0<pts.getD (j+1) 0)):=by
  unfold KL.fallsB KL.sortedB
  rw [Bool.eq_iff_iff]
  simp only [decide_eq_true_eq,Bool.not_eq_true',List.any_eq_false,List.mem_range,decide_eq_true_eq,Int.not_lt]
  constructor
  · intro h j hj
    have:=h j hj
    unfold KL.cmpDown KL.cmpI at this
    split at this
    · omega
    · split at this <;> omega
  · intro h j hj
    have:=h j hj
    unfold KL.cmpDown KL.cmpI
    repeat' split
    all_goals omega
end
section
open KL
def cntI(c:Cup)(s:Nat)(p:Int):Nat:=c.done.countP fun r=>decide (r.getD s 0=p)
def grtB(c:Cup)(k:Int):Bool:=(decide (k<c.sk) && decide (c.sk≤12)) || decide (65<c.pts.length) || decide (25<c.done.length) || c.done.any fun r=>decide (16<r.length)
end
section
open KL
theorem totalsUp_succ(c:Cup)(n:Nat):KL.totalsUp c (n+1)=KL.totalsUp c n++[totalM c n]:=by
  unfold KL.totalsUp
  rw [List.range_succ,List.map_append];rfl
end
section
open KL
theorem tableM_uni(c:Cup):uni 4 (tableM c):=by rw [table_ref];exact tabR_uni c _
end
section
open KL Go.RowKit Go.Lib Go.Sort Go.Shelf
def NSh(r:List Int):Prop:=∀ p:Int,p≠0→r.count p≤1
theorem NSh.nodup{r:List Int}(h:NSh r):(r.filter fun x => !KL.nz x).Nodup:=by
  rw [List.nodup_iff_count]
  intro a
  by_cases e:a=0
  · subst e
    rw [List.count_eq_zero.2 (fun hm=>by have:=(List.mem_filter.1 hm).2;simp [KL.nz] at this)]
    omega
  · rw [List.count_filter (by simp [KL.nz,e])]
    exact h a e
def plT(_:List Int):Bool:=true
theorem NSh.new{ord:List Int}{n i:Nat}{o:List Int}{pl:Int}{la:List Int}(h:KL.RInv ord n i o pl la)(hin:∀ x∈ord,0≤x∧x.toNat<n){x d:Int}(hx:ord[i]? = some x)(hd:0≤d)(hs:NSh o):NSh (o.set x.toNat (pl+d)):=by
  obtain ⟨x0,x1⟩:=hin x (List.mem_of_getElem? hx)
  have hp1:=h.p1
  have hk:x.toNat<o.length:=by rw [h.len];exact x1
  have hz:=h.zero i x (Nat.le_refl _) hx
  have hno:pl+d∉o:=fun hm=>by
    have:=(h.cl _ hm (by omega)).1
    have:=KL.count_pos' hm
    omega
  intro p hp
  rw [KL.count_setZ hk hz hp]
  by_cases e:pl+d=p
  · subst e;rw [if_pos rfl,List.count_eq_zero.2 hno];omega
  · rw [if_neg e];exact hs p hp
end
section
open KL
def ptP(pts:List Int)(p:Int):Int:=if p=0 then 0 else pts.getD (p.toNat-1) 0
theorem score_ns{pts r:List Int}(hN:NSh r){o:Nat}(ho:o<r.length):scoreM pts r o=ptP pts (r.getD o 0):=by
  unfold scoreM ptP
  by_cases e:r.getD o 0=0
  · rw [if_pos e,if_pos e]
  · have hm:r.getD o 0∈r:=by rw [List.getD_eq_getElem?_getD,List.getElem?_eq_getElem ho];exact List.getElem_mem _
    have h1:=hN _ e
    have h2:=KL.count_pos' hm
    have hc:r.count (r.getD o 0)=1:=by omega
    rw [if_neg e,if_neg e,hc]
    have hw:=KL.worth_snoc pts (r.getD o 0).toNat 0
    have h0:KL.worthM pts (r.getD o 0).toNat 0=0:=by unfold KL.worthM;simp
    rw [hw,h0];simp
section
variable {c:Cup} {r1 r2:List Int} {o s:Nat}
structure LastOK (c:Cup) (s:Nat):Prop where
  hv:KL.Valid c
  hd:(c.done.length:Int)<c.ra
  hs:s<c.sk.toNat
structure RaceN (c:Cup) (r:List Int):Prop where
  ok:KL.RaceOK c.sk.toNat r
  ns:NSh r
theorem RaceN.valid(hL:LastOK c s)(h:RaceN c r1):KL.Valid (withC c [r1]):=by
  have:=hL.hv.sk1
  exact KL.valid_race hL.hv hL.hd (by rw [h.ok.len];omega) h.ok.bd h.ok.cl
end
end
section
open KL
abbrev doneC(c:Cup)(d:List (List Int)):Cup:={ c with done:=d }
section
variable {c:Cup} {d F:List (List Int)} {s o k:Nat}
theorem tot_perm(h:c.done.Perm d)(s:Nat):totalM (doneC c d) s=totalM c s:=by
  rw [total_top,total_top]
  have e:srtS (doneC c d) s=srtS c s:=by
    refine List.Perm.eq_of_pairwise (le:=fun a b:Int=>b≤a) (fun a b _ _ h1 h2=>by omega) (srtS_pw _ _) (srtS_pw _ _) ?_
    exact (srtS_perm _ _).trans ((h.symm.map _).trans (srtS_perm c s).symm)
  rw [e]
theorem pla_perm(h:c.done.Perm d)(s:Nat):placesM (doneC c d) s=placesM c s:=by
  unfold placesM KL.placesUpTo
  refine List.map_congr_left fun p _ => ?_
  unfold KL.oftenUpTo
  split
  · rfl
  · show (((d.take d.length).countP _:Nat):Int)=((c.done.take c.done.length).countP _:Nat)
    rw [List.take_length,List.take_length,h.symm.countP_eq]
theorem bet_perm(h:c.done.Perm d)(a b:Nat):betS (doneC c d) a b=betS c a b:=by
  unfold betS
  rw [tot_perm h,tot_perm h,pla_perm h,pla_perm h]
theorem rank_perm(h:c.done.Perm d)(s:Nat):rankM (doneC c d) s=rankM c s:=by
  unfold rankM
  show 1+(((oth s c.sk.toNat).countP fun x=>betS (doneC c d) x s:Nat):Int)=_
  simp only [bet_perm h]

structure Alone (r:List Int) (s:Nat):Prop where
  ne:r.getD s 0≠1
  no:∀ j,j<r.length→j≠s→r.getD j 0=0∨0<r.getD s 0∧r.getD s 0<r.getD j 0
end
section
variable {c:Cup} {r:List Int} {s o i:Nat}
theorem getD_set(r:List Int){s j:Nat}(hs:s<r.length)(x:Int):(r.set s x).getD j 0=if j=s then x else r.getD j 0:=by
  rw [List.getD_eq_getElem?_getD,List.getD_eq_getElem?_getD,List.getElem?_set]
  by_cases e:s=j
  · subst e;rw [if_pos rfl,if_pos hs,if_pos rfl];rfl
  · rw [if_neg e,if_neg (fun h=>e h.symm)]
theorem mem_getD{x:Int}(h:x∈r):∃ j,j<r.length∧r.getD j 0=x:=by
  obtain ⟨j,hj,rfl⟩:=List.getElem_of_mem h
  exact ⟨j,hj,by rw [List.getD_eq_getElem?_getD,List.getElem?_eq_getElem hj];rfl⟩
theorem Alone.one(h:Alone r s)(h0:∀ x∈r,0≤x):r.count 1=0:=by
  refine List.count_eq_zero.2 fun hm => ?_
  obtain ⟨j,hj,e⟩:=mem_getD hm
  by_cases ej:j=s
  · subst ej;exact h.ne e
  · rcases h.no j hj ej with h1 | ⟨h1,h2⟩ <;> omega
theorem Alone.cnt_o(h:Alone r s)(hs:s<r.length){q:Int}(hq:q≠1)(hn:q≠r.getD s 0):(r.set s 1).count q=r.count q:=by
  rw [List.count_set hs]
  have e2:r.getD s 0=r[s]:=by rw [List.getD_eq_getElem?_getD,List.getElem?_eq_getElem hs];rfl
  have h1:(r[s] == q)=false:=by simp;omega
  have h2:((1:Int) == q)=false:=by simp;omega
  rw [h1,h2];simp
theorem Alone.cnt_1(h:Alone r s)(hs:s<r.length)(h0:∀ x∈r,0≤x):(r.set s 1).count 1=1:=by
  rw [List.count_set hs,h.one h0];simp
theorem Alone.valid(hV:KL.Valid c)(hr:c.done[i]? = some r)(h:Alone r s)(hs:s<r.length):KL.Valid (doneC c (c.done.set i (r.set s 1))):=by
  have hm:=List.mem_of_getElem? hr
  have hb:=hV.rows r hm
  have mem:∀ x∈c.done.set i (r.set s 1),x∈c.done∨x=r.set s 1:=fun x hx=>List.mem_or_eq_of_mem_set hx
  have hc1:KL.clashR r=false:=by
    have:=hV.clash
    rw [List.any_eq_false] at this
    simpa using this r hm
  refine ⟨hV.sk1,hV.sk2,hV.ra1,hV.ra2,hV.be1,hV.be2,hV.pt1,hV.pt2,by show ((c.done.set i (r.set s 1)).length:Int)≤c.ra;rw [List.length_set];exact hV.dn,fun x hx => ?_,hV.pts,fun x hx y hy => ?_,hV.falls,?_⟩
  · rcases mem x hx with hx | rfl
    · exact hV.len x hx
    · rw [List.length_set];exact hV.len r hm
  · rcases mem x hx with hx | rfl
    · exact hV.rows x hx y hy
    · rcases List.mem_or_eq_of_mem_set hy with hy | rfl
      · exact hb y hy
      · omega
  · rw [List.any_eq_false]
    intro x hx
    rcases mem x hx with hx | rfl
    · have:=hV.clash
      rw [List.any_eq_false] at this
      exact this x hx
    · have hN:=(KL.clash_iff r fun x hx=>(hb x hx).1).1 hc1
      have h0':∀ x∈r.set s 1,0≤x:=fun x hx=>by
        rcases List.mem_or_eq_of_mem_set hx with hx | rfl
        · exact (hb x hx).1
        · omega
      have:KL.NoClash (r.set s 1):=by
        intro p hp hp0
        obtain ⟨j,hj,e⟩:=mem_getD hp
        rw [getD_set r hs] at e
        rw [List.length_set] at hj
        by_cases ej:j=s
        · rw [if_pos ej] at e
          subst e
          rw [h.cnt_1 hs fun x hx=>(hb x hx).1]
          exact ⟨by omega,fun q hq hlt=>by omega⟩
        · rw [if_neg ej] at e
          subst e
          have hmj:r.getD j 0∈r:=by rw [List.getD_eq_getElem?_getD,List.getElem?_eq_getElem hj];exact List.getElem_mem _
          have h3:=(hb _ hmj).1
          have h4:r.getD j 0≠1:=fun e1=>by
            have h5:=h.one fun x hx=>(hb x hx).1
            rw [e1] at hmj
            exact List.count_eq_zero.1 h5 hmj
          have h6:r.getD j 0≠r.getD s 0:=by rcases h.no j hj ej with h1 | ⟨h1,h2⟩ <;> omega
          rw [h.cnt_o hs h4 h6]
          obtain ⟨h7,h8⟩:=hN _ hmj hp0
          refine ⟨h7,fun q hq hlt => ?_⟩
          rcases List.mem_or_eq_of_mem_set hq with hq | rfl
          · exact h8 q hq hlt
          · omega
      rw [(KL.clash_iff (r.set s 1) h0').2 this];simp
end
end
section
def pkL(l:List (List Int)):List (Nat × List PV):=l.map fun r=>(r.length,r.map intP)
section
variable {l:List (List Int)} {j i:Nat} {xs:List Int} {v:Int}
theorem pk_at?(h:l[j]? = some xs):(pkL l)[j]? = some (xs.length,xs.map intP):=by
  unfold pkL;rw [List.getElem?_map,h];rfl
theorem cell_pk(h:l[j]? = some xs)(h2:xs[i]? = some v):cellL (pkL l) j (i*1)=some (intP v):=by
  unfold cellL
  rw [pk_at? h]
  show (xs.map intP)[i*1]? = _
  rw [Nat.mul_one,List.getElem?_map,h2];rfl
theorem num_pk(h:l[j]? = some xs):numL (pkL l) j=some (intP (xs.length:Nat)):=by
  unfold numL
  rw [pk_at? h]
theorem pk_len:(pkL l).length=l.length:=by unfold pkL;rw [List.length_map]
theorem pk_lt(h:l[j]? = some xs):j<(pkL l).length:=by
  rw [pk_len];exact (List.getElem?_eq_some_iff.1 h).1
theorem pk_ix{i:Int}(h0:0≤i)(h:l[i.toNat]? = some xs):0≤i∧i<((pkL l).length:Int):=by
  have:=pk_lt h
  exact ⟨h0,by omega⟩
theorem setL_pk(h:l[j]? = some xs):setL (pkL l) j (i*1) (intP v)=pkL (l.set j (xs.set i v)):=by
  unfold setL
  rw [pk_at? h]
  show (pkL l).set j (xs.length,(xs.map intP).set (i*1) (intP v))=_
  unfold pkL
  rw [List.map_set,List.length_set,Nat.mul_one,List.map_set]
theorem slL_pk:slL (pkL l)=rowsP l:=by
  unfold slL
  rw [pk_len]
  unfold pkL
  rw [List.map_map]
  rfl
end
end
section
open KL
noncomputable abbrev zU28c0:Code:=sub (cd Tryz.f42) [1,1,0,1,0,0]
theorem clo_p0{l:List Int}(h0:(l.map intP).length=l.length*1∧l.length≤1000000){base:Nat}:FV Tryz.prog 21 [(.p (intsP l))] base (.own base) [(base,(.row 3 l.length (l.map intP)))]:=by
  exact FV.fin Tryz.func21 rfl (o:=[]) (l:=[_]) (by kernel_rfl) (gc h0 gn)
theorem clo_ok(l:List Int)(hl:l.length≤1000){base:Nat}:FV Tryz.prog 21 [.p (intsP l)] base (.own base) [(base,.row 3 l.length (l.map intP))]:=clo_p0 ⟨by simp,by omega⟩
def clp_S0(l:List (List Int))(i:Nat)(oL:List (Nat × List PV)):St:=⟨fr 19 [(2,(.p nilS)),(3,(.pa 0 .root)),(6,(.p (rowsP l))),(7,(.p (intP (l.length:Int)))),(8,(.p (intP (i:Int))))],[some (.pk 22 3 1 oL)]⟩
theorem clp_p0{l:List (List Int)}{i'0:Nat}{o'1:List (List Int)}(hl0:LoopOK Tryz.prog 0 zU28c0 (clp_S0 l 0 []) (.exit 0) (clp_S0 l i'0 (pkL o'1))):FMMP Tryz.prog 42 [(.p (rowsP l))] [] (.pa 0 .root) [some (.pk 22 3 1 (pkL o'1))]:=by
  exact FMMP.fin (k:=0) (g:=⟨[],[0],[],[]⟩) rfl Tryz.func42 rfl (o:=[.k 8 ⟨(rng [(0,2),(4,2),(9,9)]),[0],[],[(3,1022000301)]⟩ (.exit 0) (clp_S0 l i'0 (pkL o'1))]) (l:=[_]) (by kernel_rfl) (gc hl0.code gn)
theorem clp_L0_p0{l:List (List Int)}{i:Nat}{o:List (List Int)}{x100:List Int}{i':Nat}{o':List (List Int)}(h0:(i:Int)<(l.length:Int))(h1:l[i]? = some x100)(h2:x100.length≤1000)(h3:0<x100.length)(h4:0<[(x100.length,(x100.map intP))].length∧(pkL o).length+[(x100.length,(x100.map intP))].length≤1000000)(h5:inR (((i+1):Nat):Int))(ei':i'=(i+1))(eo'L:pkL o'=(pkL o)++[(x100.length,(x100.map intP))]):CodeOK Tryz.prog 0 zU28c0 (clp_S0 l i (pkL o)) .normal (clp_S0 l i' (pkL o')):=by
  subst ei'
  have raw:CodeOK Tryz.prog 0 zU28c0 (clp_S0 l i (pkL o)) .normal (clp_S0 l (i+1) ((pkL o)++[(x100.length,(x100.map intP))])):=CodeOK.fin (g:=⟨(rng [(0,2),(4,2),(9,9)]),[3],[],[]⟩) (o:=[bT,.x (intsP x100),.c (.own 1) [(1,(.row 3 x100.length (x100.map intP)))],.q,.q]) (l:=[_,_,_,_,_,_,_]) (by kernel_rfl) (gc h5 (gc h4 (gc h3 (gc (fk 1 (clo_ok x100 h2) rfl) (gc (atm intsP h1) (gc (ixn intsP h1) (gc (q_lt h0) gn)))))))
  exact raw.cast (by rw [eo'L])
theorem clp_L0_p1{l:List (List Int)}{i:Nat}{o:List (List Int)}(h0:(l.length:Int)≤(i:Int)):CodeOK Tryz.prog 0 zU28c0 (clp_S0 l i (pkL o)) (.exit 0) (clp_S0 l i (pkL o)):=by
  exact CodeOK.fin (g:=⟨(rng [(0,2),(4,2),(9,9)]),[0],[],[]⟩) (o:=[bF]) (l:=[_]) (by kernel_rfl) (gc (q_ltF h0) gn)
theorem clp_ok(l:List (List Int))(hl:l.length≤1000)(hr:∀ r∈l,0<r.length∧r.length≤1000):FMMP Tryz.prog 42 [.p (rowsP l)] [] (.pa 0 .root) [some (.pk 22 3 1 (pkL l))]:=by
  have h:=LoopOK.count (P:=Tryz.prog) (k:=0) (b:=zU28c0) (e := .exit 0) (R:=clp_S0 l l.length (pkL l)) l.length (fun i=>clp_S0 l i (pkL (l.take i)))
    (fun i hi=>by
      have h2:=hr _ (List.getElem_mem hi)
      exact clp_L0_p0 (o:=l.take i) (o':=l.take (i+1)) (by omega) (List.getElem?_eq_getElem hi) h2.2 h2.1 (by rw [pk_len,List.length_take];simp;omega) (inR_nat (by omega)) rfl (by rw [List.take_add_one,List.getElem?_eq_getElem hi];unfold pkL;rw [List.map_append];rfl))
    (by rw [List.take_length];exact clp_L0_p1 (by omega)) (by simp)
  exact clp_p0 (o'1:=l) h
theorem clk_p0{c:Cup}(h0:c.pts.length≤1000)(h1:c.done.length≤1000)(h2:∀ r∈c.done,0<r.length∧r.length≤1000):FMMP Tryz.prog 20 [(.p (cupP c))] [] (.agg [(.p (intP c.sk)),(.p (intP c.ra)),(.p (intP c.be)),(.p (intsP c.pts)),(.pa 0 .root)]) [some (.pk 22 3 1 (pkL c.done))]:=by
  exact FMMP.fin (k:=0) (g:=⟨[],[6],[],[]⟩) rfl Tryz.func20 rfl (o:=[.c (.p (intsP c.pts)) [],.q,.c (.pa 6 .root) [(6,(.pk 22 3 1 (pkL c.done)))]]) (l:=[FCP Tryz.prog 42 [(.p (rowsP c.done))] 6 (.pa 6 .root) (.pk 22 3 1 (pkL c.done)),_]) (by kernel_rfl) (gc (FMMP.fcp (clp_ok c.done h1 h2) (by kernel_rfl) (by kernel_rfl)) (gc (fk 2 (cli_ok c.pts h0) rfl) gn))
theorem clk_ok(c:Cup)(h:KL.Valid c):FMMP Tryz.prog 20 [.p (cupP c)] [] (.agg [.p (intP c.sk),.p (intP c.ra),.p (intP c.be),.p (intsP c.pts),.pa 0 .root]) [some (.pk 22 3 1 (pkL c.done))] :=
  clk_p0 h.small.pts h.small.done fun r hr=>⟨by have:=h.len r hr;have:=h.sk1;omega,h.small.rows r hr⟩
end
section
open KL
inductive FA {α β:Type} (R:α→β→Prop):List α→List β→Prop
  | nil:FA R [] []
  | cons {x:α} {y:β} {l:List α} {k:List β} (h:R x y) (t:FA R l k):FA R (x::l) (y::k)
structure Perm1 (n:Nat) (f:Nat→Nat):Prop where
  lt:∀ s,s<n→f s<n
  perm:((List.range n).map f).Perm (List.range n)
theorem Perm1.inj{n:Nat}{f:Nat→Nat}(h:Perm1 n f){a b:Nat}(ha:a<n)(hb:b<n)(e:f a=f b):a=b:=by
  have hn:((List.range n).map f).Nodup:=h.perm.nodup_iff.2 List.nodup_range
  have:=(List.nodup_iff_pairwise_ne.1 hn)
  rw [List.pairwise_map,List.pairwise_iff_getElem] at this
  rcases Nat.lt_trichotomy a b with hl | hl | hl
  · have:=this a b (by simpa) (by simpa) hl
    simp at this;exact absurd e this
  · exact hl
  · have:=this b a (by simpa) (by simpa) hl
    simp at this;exact absurd e.symm this
theorem Perm1.onto{n:Nat}{f:Nat→Nat}(h:Perm1 n f){b:Nat}(hb:b<n):∃ a,a<n∧f a=b:=by
  have:=h.perm.mem_iff.2 (List.mem_range.2 hb)
  obtain ⟨a,ha,e⟩:=List.mem_map.1 this
  exact ⟨a,List.mem_range.1 ha,e⟩
structure RowN (n:Nat) (f:Nat→Nat) (r r':List Int):Prop where
  l1:r.length=n
  l2:r'.length=n
  at':∀ s,s<n→r'.getD (f s) 0=r.getD s 0
theorem getD_range{r:List Int}:(List.range r.length).map (fun s=>r.getD s 0)=r:=by
  refine List.ext_getElem (by simp) fun i h1 h2 => ?_
  simp only [List.getElem_map,List.getElem_range]
  rw [List.getD_eq_getElem?_getD,List.getElem?_eq_getElem h2];rfl
section
variable {n:Nat} {f:Nat→Nat} {r r':List Int} {c c':Cup} {F F':List (List Int)} {s a b:Nat}
theorem RowN.perm(hf:Perm1 n f)(h:RowN n f r r'):r.Perm r':=by
  have e1:r=((List.range n).map f).map (fun s=>r'.getD s 0):=by
    rw [List.map_map]
    refine (getD_range (r:=r)).symm.trans ?_
    rw [h.l1]
    exact List.map_congr_left fun s hs=>(h.at' s (List.mem_range.1 hs)).symm
  rw [e1]
  refine (hf.perm.map _).trans ?_
  rw [← h.l2,getD_range]
theorem RowN.score(hf:Perm1 n f)(h:RowN n f r r')(pts:List Int)(hs:s<n):scoreM pts r' (f s)=scoreM pts r s:=by
  unfold scoreM
  rw [h.at' s hs,(h.perm hf).count_eq]
structure NmC (n:Nat) (f:Nat→Nat) (c c':Cup):Prop where
  sk:c.sk.toNat=n
  sk':c'.sk=c.sk
  ra:c'.ra=c.ra
  be:c'.be=c.be
  pts:c'.pts=c.pts
  done:FA (RowN n f) c.done c'.done
theorem fa_map{α β γ:Type}{R:α→β→Prop}{g:α→γ}{g':β→γ}{l:List α}{l':List β}(h:FA R l l')(hg:∀ x y,R x y→g' y=g x):l'.map g'=l.map g:=by
  induction h with
  | nil=>rfl
  | cons h1 _ ih=>rw [List.map_cons,List.map_cons,hg _ _ h1,ih]
theorem fa_app{α β:Type}{R:α→β→Prop}{l k:List α}{l' k':List β}(h:FA R l l')(h2:FA R k k'):FA R (l++k) (l'++k'):=by
  induction h with
  | nil=>exact h2
  | cons h1 _ ih=>exact .cons h1 ih
theorem fa_rep{α β:Type}{R:α→β→Prop}{x:α}{y:β}(h:R x y):∀ n,FA R (List.replicate n x) (List.replicate n y)
  | 0 => .nil
  | n+1 => .cons h (fa_rep h n)
theorem fa_len{α β:Type}{R:α→β→Prop}{l:List α}{l':List β}(h:FA R l l'):l'.length=l.length:=by
  induction h with
  | nil=>rfl
  | cons _ _ ih=>rw [List.length_cons,List.length_cons,ih]
theorem NmC.scores(hf:Perm1 n f)(h:NmC n f c c')(hs:s<n):c'.done.map (scR c' (f s))=c.done.map (scR c s) :=
  fa_map h.done fun x y hxy=>by
    show scoreM c'.pts y (f s)=scoreM c.pts x s
    rw [h.pts];exact hxy.score hf _ hs
theorem NmC.total(hf:Perm1 n f)(h:NmC n f c c')(hs:s<n):totalM c' (f s)=totalM c s:=by
  rw [total_top,total_top,h.be]
  have e:srtS c' (f s)=srtS c s:=by
    refine List.Perm.eq_of_pairwise (le:=fun a b:Int=>b≤a) (fun a b _ _ h1 h2=>by omega) (srtS_pw _ _) (srtS_pw _ _) ?_
    refine (srtS_perm _ _).trans (List.Perm.trans ?_ (srtS_perm _ _).symm)
    rw [h.scores hf hs]
  rw [e]
theorem fa_countP{α β:Type}{R:α→β→Prop}{p:α→Bool}{q:β→Bool}{l:List α}{l':List β}(h:FA R l l')(hg:∀ x y,R x y→q y=p x):l'.countP q=l.countP p:=by
  induction h with
  | nil=>rfl
  | cons h1 _ ih=>rw [List.countP_cons,List.countP_cons,hg _ _ h1,ih]
theorem NmC.places(hf:Perm1 n f)(h:NmC n f c c')(hs:s<n):placesM c' (f s)=placesM c s:=by
  unfold placesM KL.placesUpTo
  refine List.map_congr_left fun p _ => ?_
  unfold KL.oftenUpTo
  split
  · rfl
  · rw [List.take_length,List.take_length,fa_countP (p:=fun r:List Int=>decide (r.getD s 0=(p:Int))) h.done fun x y hxy=>by rw [hxy.at' s hs]]
theorem NmC.bet(hf:Perm1 n f)(h:NmC n f c c')(ha:a<n)(hb:b<n):betS c' (f a) (f b)=betS c a b:=by
  unfold betS
  rw [h.total hf ha,h.total hf hb,h.places hf ha,h.places hf hb]
theorem NmC.rank(hf:Perm1 n f)(h:NmC n f c c')(hs:s<n):rankM c' (f s)=rankM c s:=by
  rw [rank_ref,rank_ref]
  unfold bttrUp
  rw [h.sk',h.sk,← hf.perm.countP_eq,List.countP_map]
  congr 2
  refine List.countP_congr fun x hx => ?_
  rw [Function.comp,h.bet hf (List.mem_range.1 hx) hs]
theorem won_row(hf:Perm1 n f)(hs:s<n):RowN n f (KL.wonRace n s) (KL.wonRace n (f s)):=by
  refine ⟨KL.wonRace_length ..,KL.wonRace_length ..,fun o ho => ?_⟩
  rw [wonRace_at (hf.lt s hs),wonRace_at hs]
  by_cases e:o=s
  · subst e;rw [if_pos rfl,if_pos rfl]
  · rw [if_neg e,if_neg fun q=>e (hf.inj ho hs q)]
theorem NmC.won(hf:Perm1 n f)(h:NmC n f c c')(hs:s<n):NmC n f (withC c (wonM c s)) (withC c' (wonM c' (f s))):=by
  refine ⟨h.sk,h.sk',h.ra,h.be,h.pts,fa_app h.done ?_⟩
  unfold wonM
  rw [h.sk',h.sk,h.ra,fa_len h.done]
  exact fa_rep (won_row hf hs) _
theorem NmC.can(hf:Perm1 n f)(h:NmC n f c c')(hs:s<n):canM c' (f s)=canM c s:=by
  unfold canM
  rw [(h.won hf hs).rank hf hs]
theorem NmC.sure(hf:Perm1 n f)(h:NmC n f c c')(hs:s<n):sureM c' (f s)=sureM c s:=by
  have key:∀ k,k<n→KL.passes c' (f s) (f k)=KL.passes c s k:=fun k hk=>by
    unfold KL.passes
    rw [(h.won hf hk).rank hf hs]
    congr 1
    by_cases e:k=s
    · subst e;simp
    · rw [decide_eq_true (show k≠s from e),decide_eq_true (show f k≠f s from fun q=>e (hf.inj hk hs q))]
  have hn':c'.sk.toNat=n:=by rw [h.sk'];exact h.sk
  have:sureM c' (f s)=true↔sureM c s=true:=by
    rw [sureM_iff,sureM_iff,hn',h.sk]
    constructor
    · intro q k hk;rw [← key k hk];exact q _ (hf.lt k hk)
    · intro q k hk
      obtain ⟨j,hj,rfl⟩:=hf.onto hk
      rw [key j hj];exact q j hj
  cases e1:sureM c' (f s) <;> cases e2:sureM c s <;> simp_all
theorem NmC.row(hf:Perm1 n f)(h:NmC n f c c')(hs:s<n):rowT c' (f s)=[((f s:Nat):Int),rankM c s,totalM c s,(placesM c s).getD 1 0]:=by
  unfold rowT
  rw [h.rank hf hs,h.total hf hs,h.places hf hs]
theorem NmC.table(hf:Perm1 n f)(h:NmC n f c c')(hs:s<n):rowT c' (f s)∈tableM c':=by
  refine (table_perm c').mem_iff.2 (List.mem_map.2 ⟨f s,List.mem_range.2 ?_,rfl⟩)
  rw [h.sk',h.sk];exact hf.lt s hs
theorem NmC.valid(hf:Perm1 n f)(h:NmC n f c c')(hV:KL.Valid c):KL.Valid c':=by
  have s1:=hV.sk1
  have hk:=h.sk
  have back:∀ x∈c'.done,∃ y∈c.done,RowN n f y x:=by
    have:∀ {l l':List (List Int)},FA (RowN n f) l l'→∀ x∈l',∃ y∈l,RowN n f y x:=fun hh=>by
      induction hh with
      | nil=>intro x hx;cases hx
      | cons h1 _ ih =>
        intro x hx
        rcases List.mem_cons.1 hx with rfl | hx
        · exact ⟨_,List.mem_cons_self ..,h1⟩
        · obtain ⟨y,hy,hxy⟩:=ih x hx
          exact ⟨y,List.mem_cons_of_mem _ hy,hxy⟩
    exact this h.done
  refine ⟨by rw [h.sk'];exact s1,by rw [h.sk'];exact hV.sk2,by rw [h.ra];exact hV.ra1,by rw [h.ra];exact hV.ra2,by rw [h.be];exact hV.be1,by rw [h.be,h.ra];exact hV.be2,by rw [h.pts];exact hV.pt1,by rw [h.pts];exact hV.pt2,
    by rw [fa_len h.done,h.ra];exact hV.dn,fun x hx => ?_,by rw [h.pts];exact hV.pts,fun x hx y hy => ?_,by rw [h.pts];exact hV.falls,?_⟩
  · obtain ⟨y,hy,q⟩:=back x hx
    have:=hV.len y hy
    have:=q.l1;have:=q.l2
    rw [h.sk'];omega
  · obtain ⟨z,hz,q⟩:=back x hx
    exact hV.rows z hz y ((q.perm hf).mem_iff.2 hy)
  · have hc:=hV.clash
    rw [List.any_eq_false] at hc ⊢
    intro x hx
    obtain ⟨z,hz,q⟩:=back x hx
    have hp:=q.perm hf
    have h1:KL.NoClash z:=(KL.clash_iff z fun y hy=>(hV.rows z hz y hy).1).1 (by simpa using hc z hz)
    have h2:KL.NoClash x:=fun p hp' hp0=>by
      obtain ⟨a,b⟩:=h1 p (hp.mem_iff.2 hp') hp0
      rw [← hp.count_eq]
      exact ⟨a,fun q hq=>b q (hp.mem_iff.2 hq)⟩
    rw [(KL.clash_iff x fun y hy=>(hV.rows z hz y (hp.mem_iff.2 hy)).1).2 h2];simp

theorem table_mixed{d:List (List Int)}(h:c.done.Perm d):tableM (doneC c d)=tableM c:=by
  have:tabL (doneC c d)=tabL c:=by
    rw [tabL_map,tabL_map]
    refine List.map_congr_left fun s _ => ?_
    unfold rowT
    rw [rank_perm h,tot_perm h,pla_perm h]
  unfold tableM
  rw [this]
theorem valid_mixed{d:List (List Int)}(h:c.done.Perm d)(hV:KL.Valid c):KL.Valid (doneC c d) :=
  ⟨hV.sk1,hV.sk2,hV.ra1,hV.ra2,hV.be1,hV.be2,hV.pt1,hV.pt2,by have:=hV.dn;show (d.length:Int)≤c.ra;rw [← h.length_eq];exact this,fun x hx=>hV.len x (h.mem_iff.2 hx),hV.pts,fun x hx=>hV.rows x (h.mem_iff.2 hx),hV.falls,by
    have:=hV.clash
    rw [List.any_eq_false] at this ⊢
    exact fun x hx=>this x (h.mem_iff.2 hx)⟩

abbrev greatC(c:Cup)(k:Int):Cup:={ c with pts:=c.pts.map (k * ·) }
theorem great_score{k:Int}(hN:NSh r)(hs:s<r.length)(pts:List Int):scoreM (pts.map (k * ·)) r s=k*scoreM pts r s:=by
  rw [score_ns hN hs,score_ns hN hs]
  unfold ptP
  split
  · omega
  · generalize (r.getD s 0).toNat-1=j
    rw [List.getD_eq_getElem?_getD,List.getD_eq_getElem?_getD,List.getElem?_map]
    cases pts[j]? with
    | none=>simp
    | some x=>rfl
theorem sum_scale(k:Int):∀ l:List Int,(l.map (k * ·)).sum=k*l.sum
  | []=>by simp
  | x::l=>by rw [List.map_cons,List.sum_cons,List.sum_cons,sum_scale k l,Int.mul_add]
theorem great_total{k:Int}(hk:0≤k)(hV:KL.Valid c)(hs:(s:Int)<c.sk)(hN:∀ r∈c.done,NSh r):totalM (greatC c k) s=k*totalM c s:=by
  have e:srtS (greatC c k) s=(srtS c s).map (k * ·):=by
    refine List.Perm.eq_of_pairwise (le:=fun a b:Int=>b≤a) (fun a b _ _ h1 h2=>by omega) (srtS_pw _ _) ?_ ?_
    · rw [List.pairwise_map]
      exact (srtS_pw c s).imp fun h=>Int.mul_le_mul_of_nonneg_left h hk
    · refine (srtS_perm _ _).trans (List.Perm.trans ?_ ((srtS_perm c s).map _).symm)
      rw [List.map_map]
      have:(greatC c k).done.map (scR (greatC c k) s)=c.done.map ((k * ·) ∘ scR c s):=by
        refine List.map_congr_left fun r hr => ?_
        have:=hV.len r hr
        exact great_score (hN r hr) (by omega) c.pts
      rw [this]
  rw [total_top,total_top,e]
  show (((srtS c s).map (k * ·)).take c.be.toNat).sum=_
  rw [← List.map_take,sum_scale]
end
end
section
open KL
noncomputable abbrev zU30c0:Code:=sub (cd Tryz.f112) [1,0,1,0,0]
noncomputable abbrev zU30c1:Code:=sub (cd Tryz.f42) [1,1,0,1,0,0]
def ixn_S0(l:List (List Int))(y0:Int)(y1:Int)(y2:Int)(y3:Int)(i:Nat):St:=⟨fr 19 [(0,(.p (.sl l.length (l.flatten.map intP)))),(3,(.ptr 0 0)),(7,(.p (intP (l.length:Int)))),(8,(.p (intP (i:Int))))],[some (.box 61 [(.p (intP y0)),(.p (intP y1)),(.p (intP y2)),(.p (intP y3))])]⟩
theorem ixn_p0{l:List (List Int)}{y0 y1 y2 y3:Int}{i'0:Nat}(hl0:LoopOK Tryz.prog 0 zU30c0 (ixn_S0 l y0 y1 y2 y3 0) (.exit 0) (ixn_S0 l y0 y1 y2 y3 i'0)){base:Nat}:FV Tryz.prog 112 [(.p (.sl l.length (l.flatten.map intP))),(.p (.agg [(intP y0),(intP y1),(intP y2),(intP y3)]))] base (.p (intP (-1:Int))) []:=by
  exact FV.fin Tryz.func112 rfl (o:=[.k 6 ⟨(rng [(1,2),(4,3),(9,10)]),[0],[],[]⟩ (.exit 0) (ixn_S0 l y0 y1 y2 y3 i'0)]) (l:=[_]) (by kernel_rfl) (gc hl0.code gn)
theorem ixn_p1{l:List (List Int)}{y0 y1 y2 y3:Int}{i'0:Nat}(hl0:LoopOK Tryz.prog 0 zU30c0 (ixn_S0 l y0 y1 y2 y3 0) .ret (setS (ixn_S0 l y0 y1 y2 y3 i'0) [(4,(.p (intP (i'0:Int))))])){base:Nat}:FV Tryz.prog 112 [(.p (.sl l.length (l.flatten.map intP))),(.p (.agg [(intP y0),(intP y1),(intP y2),(intP y3)]))] base (.p (intP (i'0:Int))) []:=by
  exact FV.fin Tryz.func112 rfl (o:=[.k 6 ⟨(rng [(1,2),(4,3),(9,10)]),[0],[],[]⟩ .ret (setS (ixn_S0 l y0 y1 y2 y3 i'0) [(4,(.p (intP (i'0:Int))))])]) (l:=[_]) (by kernel_rfl) (gc hl0.code gn)
theorem ixn_L0_p0{l:List (List Int)}{y0 y1 y2 y3:Int}{i:Nat}{y100 y101 y102 y103:Int}(h0:(i:Int)<(l.length:Int))(h1:l[i]? = some [y100,y101,y102,y103])(h2:uni 4 l)(h3:intsOK [(intP y0),(intP y1),(intP y2),(intP y3)] [(0,3,true),(1,3,true),(2,3,true),(3,3,true)]=true∧intsOK [(intP y100),(intP y101),(intP y102),(intP y103)] [(0,3,true),(1,3,true),(2,3,true),(3,3,true)]=true)(h4:(eqFs [(intP y0),(intP y1),(intP y2),(intP y3)] [(intP y100),(intP y101),(intP y102),(intP y103)] [(0,3,true),(1,3,true),(2,3,true),(3,3,true)])=true):CodeOK Tryz.prog 0 zU30c0 (ixn_S0 l y0 y1 y2 y3 i) .ret (setS (ixn_S0 l y0 y1 y2 y3 i) [(4,(.p (intP (i:Int))))]):=by
  exact CodeOK.fin (g:=⟨(rng [(1,2),(5,2),(9,10)]),[0],[],[]⟩) (o:=[bT,.x (.agg [(intP y100),(intP y101),(intP y102),(intP y103)]),bT]) (l:=[_,_,_,_,0≤(i:Int)∧(i:Int)<(l.length:Int)∧(i*4)<(l.flatten.map intP).length,_]) (by kernel_rfl) (gc h4 (gc h3 (gc (fl_load (i:=i) h2 h1) (gc (fl_le (i:=i) h2 h1) (gc (ix_fl (k:=4) (i:=(i:Int)) (by decide) h2 (Int.natCast_nonneg _) h1) (gc (q_lt h0) gn))))))
theorem ixn_L0_p1{l:List (List Int)}{y0 y1 y2 y3:Int}{i:Nat}{y100 y101 y102 y103:Int}{i':Nat}(h0:(i:Int)<(l.length:Int))(h1:l[i]? = some [y100,y101,y102,y103])(h2:uni 4 l)(h3:intsOK [(intP y0),(intP y1),(intP y2),(intP y3)] [(0,3,true),(1,3,true),(2,3,true),(3,3,true)]=true∧intsOK [(intP y100),(intP y101),(intP y102),(intP y103)] [(0,3,true),(1,3,true),(2,3,true),(3,3,true)]=true)(h4:(eqFs [(intP y0),(intP y1),(intP y2),(intP y3)] [(intP y100),(intP y101),(intP y102),(intP y103)] [(0,3,true),(1,3,true),(2,3,true),(3,3,true)])=false)(h5:inR (((i+1):Nat):Int))(ei':i'=(i+1)):CodeOK Tryz.prog 0 zU30c0 (ixn_S0 l y0 y1 y2 y3 i) .normal (ixn_S0 l y0 y1 y2 y3 i'):=by
  subst ei'
  exact CodeOK.fin (g:=⟨(rng [(1,2),(4,3),(9,10)]),[0],[],[]⟩) (o:=[bT,.x (.agg [(intP y100),(intP y101),(intP y102),(intP y103)]),bF]) (l:=[_,_,_,_,_,0≤(i:Int)∧(i:Int)<(l.length:Int)∧(i*4)<(l.flatten.map intP).length,_]) (by kernel_rfl) (gc h5 (gc h4 (gc h3 (gc (fl_load (i:=i) h2 h1) (gc (fl_le (i:=i) h2 h1) (gc (ix_fl (k:=4) (i:=(i:Int)) (by decide) h2 (Int.natCast_nonneg _) h1) (gc (q_lt h0) gn)))))))
theorem ixn_L0_p2{l:List (List Int)}{y0 y1 y2 y3:Int}{i:Nat}(h0:(l.length:Int)≤(i:Int)):CodeOK Tryz.prog 0 zU30c0 (ixn_S0 l y0 y1 y2 y3 i) (.exit 0) (ixn_S0 l y0 y1 y2 y3 i):=by
  exact CodeOK.fin (g:=⟨(rng [(1,2),(4,3),(9,10)]),[0],[],[]⟩) (o:=[bF]) (l:=[_]) (by kernel_rfl) (gc (q_ltF h0) gn)
theorem ixn_ok(l:List (List Int))(y0 y1 y2 y3:Int)(hl:small l.length)(hu:uni 4 l){base:Nat}:FV Tryz.prog 112 [.p (.sl l.length (l.flatten.map intP)),.p (.agg [intP y0,intP y1,intP y2,intP y3])] base (.p (intP (idxF (fun x=>decide ([y0,y1,y2,y3]=x)) l))) []:=by
  rcases LoopOK.find (P:=Tryz.prog) (k:=0) (b:=zU30c0) (fun i=>ixn_S0 l y0 y1 y2 y3 i) (fun i _=>setS (ixn_S0 l y0 y1 y2 y3 i) [(4,.p (intP (i:Int)))]) (ixn_S0 l y0 y1 y2 y3 l.length) .ret (.exit 0) (by simp) (by simp) (fun x:List Int=>decide ([y0,y1,y2,y3]=x)) l
    (fun i x hx hp=>by
      have h4:=hu _ (List.mem_of_getElem? hx)
      match x,h4 with
      | [z0,z1,z2,z3],_=>exact ixn_L0_p1 (by have:=lt_of_at hx;omega) hx hu ⟨rfl,rfl⟩ (by rw [eqFs4];exact hp) (inR_nat (by have:=lt_of_at hx;omega)) rfl)
    (fun i x hx hp=>by
      have h4:=hu _ (List.mem_of_getElem? hx)
      match x,h4 with
      | [z0,z1,z2,z3],_=>exact ixn_L0_p0 (by have:=lt_of_at hx;omega) hx hu ⟨rfl,rfl⟩ (by rw [eqFs4];exact hp))
    (ixn_L0_p2 (l:=l) (i:=l.length) (by omega)) with ⟨i,x,h1,h2,h3,h4⟩ | ⟨h1,h2,h3⟩
  · rw [idxF_some h2];exact ixn_p1 h4
  · rw [idxF_none h1];exact ixn_p0 h3
theorem hsn_p0{l:List (List Int)}{y0 y1 y2 y3:Int}{r0:Bool}(h0:small l.length)(h1:uni 4 l)(er0:r0=(decide ((idxF (fun x=>decide ([y0,y1,y2,y3]=x)) l) ≥ (0:Int)))){base:Nat}:FV Tryz.prog 40 [(.p (.sl l.length (l.flatten.map intP))),(.p (.agg [(intP y0),(intP y1),(intP y2),(intP y3)]))] base (.p (blP r0)) []:=by
  subst er0
  exact FV.fin Tryz.func40 rfl (o:=[.c (.p (intP (idxF (fun x=>decide ([y0,y1,y2,y3]=x)) l))) []]) (l:=[_]) (by kernel_rfl) (gc (fk 1 (ixn_ok l y0 y1 y2 y3 h0 h1) rfl) gn)
theorem hsn_ok(l:List (List Int))(y0 y1 y2 y3:Int)(hl:small l.length)(hu:uni 4 l){base:Nat}:FV Tryz.prog 40 [.p (.sl l.length (l.flatten.map intP)),.p (.agg [intP y0,intP y1,intP y2,intP y3])] base (.p (blP (l.any fun x=>decide ([y0,y1,y2,y3]=x)))) []:=hsn_p0 hl hu (idxF_any _ _).symm
theorem shuf_eq{r:List Int}{nx' st':Int}(n:Int)(l:List Int)(nx st:Int)(h:0≤nx∧nx≤1000000)(hn:0≤n∧n≤100)(e:shufM n l nx st=(r,nx',st')):FMM Tryz.prog 36 [.ptr 0 0,.p (intP n)] [some (deckO l nx st)] (.own 1) [some (deckO l nx' st'),some (.row 3 r.length (r.map intP))]:=by
  have:=shuf_ok n l nx st ⟨h.1,by omega⟩ ⟨hn.1,by omega⟩
  rw [e] at this
  exact this
def clr_S0(l:List (List Int))(i:Nat)(on:Nat)(oc:List PV):St:=⟨fr 19 [(2,(.p nilS)),(3,(.own 0)),(6,(.p (rowsP l))),(7,(.p (intP (l.length:Int)))),(8,(.p (intP (i:Int))))],[some (.row 22 on oc)]⟩
theorem clr_p0{l:List (List Int)}{i'0:Nat}{o'1:List (List Int)}(hl0:LoopOK Tryz.prog 0 zU30c1 (clr_S0 l 0 0 []) (.exit 0) (clr_S0 l i'0 o'1.length (o'1.map intsP))){base:Nat}:FV Tryz.prog 42 [(.p (rowsP l))] base (.own base) [(base,(.row 22 o'1.length (o'1.map intsP)))]:=by
  exact FV.fin Tryz.func42 rfl (o:=[.k 8 ⟨(rng [(0,2),(4,2),(9,9)]),[0],[],[(3,22)]⟩ (.exit 0) (clr_S0 l i'0 o'1.length (o'1.map intsP))]) (l:=[_]) (by kernel_rfl) (gc hl0.code gn)
theorem clr_L0_p0{l:List (List Int)}{i:Nat}{o:List (List Int)}{x100:List Int}{i':Nat}{o':List (List Int)}(h0:(i:Int)<(l.length:Int))(h1:l[i]? = some x100)(h2:x100.length≤1000)(h3:[(intsP x100)].length=1*1∧o.length+1≤1000000)(h4:inR (((i+1):Nat):Int))(ei':i'=(i+1))(eo'n:o'.length=(o.length+1))(eo'c:o'.map intsP=((o.map intsP)++[(intsP x100)])):CodeOK Tryz.prog 0 zU30c1 (clr_S0 l i o.length (o.map intsP)) .normal (clr_S0 l i' o'.length (o'.map intsP)):=by
  subst ei'
  have raw:CodeOK Tryz.prog 0 zU30c1 (clr_S0 l i o.length (o.map intsP)) .normal (clr_S0 l (i+1) (o.length+1) ((o.map intsP)++[(intsP x100)])):=CodeOK.fin (g:=⟨(rng [(0,2),(4,2),(9,9)]),[2],[],[]⟩) (o:=[bT,.x (intsP x100),.c (.p (intsP x100)) []]) (l:=[_,_,_,_,_,_]) (by kernel_rfl) (gc h4 (gc h3 (gc (fk 1 (cli_ok x100 h2) rfl) (gc (atm intsP h1) (gc (ixn intsP h1) (gc (q_lt h0) gn))))))
  exact raw.cast (by rw [eo'n,eo'c])
theorem clr_L0_p1{l:List (List Int)}{i:Nat}{o:List (List Int)}(h0:(l.length:Int)≤(i:Int)):CodeOK Tryz.prog 0 zU30c1 (clr_S0 l i o.length (o.map intsP)) (.exit 0) (clr_S0 l i o.length (o.map intsP)):=by
  exact CodeOK.fin (g:=⟨(rng [(0,2),(4,2),(9,9)]),[0],[],[]⟩) (o:=[bF]) (l:=[_]) (by kernel_rfl) (gc (q_ltF h0) gn)
theorem clr_ok(l:List (List Int))(hl:l.length≤1000)(hr:∀ r∈l,r.length≤1000){base:Nat}:FV Tryz.prog 42 [.p (rowsP l)] base (.own base) [(base,.row 22 l.length (l.map intsP))]:=by
  have h:=LoopOK.count (P:=Tryz.prog) (k:=0) (b:=zU30c1) (e := .exit 0) (R:=clr_S0 l l.length l.length (l.map intsP)) l.length (fun i=>clr_S0 l i (l.take i).length ((l.take i).map intsP))
    (fun i hi=>clr_L0_p0 (o:=l.take i) (o':=l.take (i+1)) (by omega) (List.getElem?_eq_getElem hi) (hr _ (List.getElem_mem hi)) (by simp;omega) (inR_nat (by omega)) rfl (by simp;omega) (by rw [List.take_add_one,List.getElem?_eq_getElem hi,List.map_append];rfl))
    (by rw [List.take_length];exact clr_L0_p1 (by omega)) (by simp)
  exact clr_p0 (o'1:=l) h
theorem clm_p0{c:Cup}(h0:c.pts.length≤1000)(h1:c.done.length≤1000)(h2:∀ r∈c.done,r.length≤1000):FMM Tryz.prog 20 [(.p (cupP c))] [] (.agg [(.p (intP c.sk)),(.p (intP c.ra)),(.p (intP c.be)),(.p (intsP c.pts)),(.own 0)]) [some (.row 22 c.done.length (c.done.map intsP))]:=by
  exact FMM.fin (k:=0) (g:=⟨[],[6],[],[]⟩) rfl Tryz.func20 rfl (o:=[.c (.p (intsP c.pts)) [],.c (.own 6) [(6,(.row 22 c.done.length (c.done.map intsP)))]]) (l:=[_,_]) (by kernel_rfl) (gc (fk 6 (clr_ok c.done h1 h2) rfl) (gc (fk 2 (cli_ok c.pts h0) rfl) gn))
theorem clg_p0{c:Cup}(h0:c.pts.length≤1000)(h1:c.done.length≤1000)(h2:∀ r∈c.done,r.length≤1000):FMM Tryz.prog 20 [(.p (cupP c))] [] (.agg [(.p (intP c.sk)),(.p (intP c.ra)),(.p (intP c.be)),(.own 0),(.p (rowsP c.done))]) [some (.row 3 c.pts.length (c.pts.map intP))]:=by
  exact FMM.fin (k:=0) (g:=⟨[],[2],[],[]⟩) rfl Tryz.func20 rfl (o:=[.c (.own 2) [(2,(.row 3 c.pts.length (c.pts.map intP)))],.c (.p (rowsP c.done)) []]) (l:=[_,_]) (by kernel_rfl) (gc (fk 6 (cla_ok c.done h1 h2) rfl) (gc (fk 2 (clo_ok c.pts h0) rfl) gn))
theorem clm_ok(c:Cup)(h:KL.Valid c):FMM Tryz.prog 20 [.p (cupP c)] [] (.agg [.p (intP c.sk),.p (intP c.ra),.p (intP c.be),.p (intsP c.pts),.own 0]) [some (.row 22 c.done.length (c.done.map intsP))]:=clm_p0 h.small.pts h.small.done h.small.rows
theorem clg_ok(c:Cup)(h:KL.Valid c):FMM Tryz.prog 20 [.p (cupP c)] [] (.agg [.p (intP c.sk),.p (intP c.ra),.p (intP c.be),.own 0,.p (rowsP c.done)]) [some (.row 3 c.pts.length (c.pts.map intP))]:=clg_p0 h.small.pts h.small.done h.small.rows
end
section
open KL
theorem who_sm(p:Nat→Bool){n:Nat}(h:n≤12):(whoM p n).length≤12:=by
  unfold whoM
  rw [List.length_map]
  have:=List.length_filter_le p (List.range n)
  rw [List.length_range] at this
  omega
end
end KV
end Go.Proofs
