/- Parts of the proof of JNamed: laws of walks, contracts of functions, plain models. No condition. -/
import Derived.RangeFuncLeaves
import Derived.OwnWalkIn
import Derived.TacticsInMore
import Derived.Test.YtgehgmllhmfbpaaGreatPJNamedC
set_option linter.unusedVariables false
set_option linter.unusedSimpArgs false
set_option maxRecDepth 100000
section
namespace Go.Proofs
open Go.RowKit Go.Lib Go.Sort
namespace KL

def canM(c:Cup)(s:Nat):Bool:=rankM (withC c (wonM c s)) s == 1

theorem OwnR.real{w:World}{base:Nat}{v:Value}{L:List (List Int)}(h:OwnR w base v L):Real v:=by
  obtain ⟨us,ho,_⟩:=h
  intro n cap e
  rcases ho.2 with ⟨h1,_⟩ | ⟨g,c',cur,h1,_⟩
  · rw [h1] at e;cases e;rfl
  · rw [h1] at e;cases e

set_option maxHeartbeats 2000000 in
set_option maxRecDepth 1000000 in
theorem can_any(c:Cup)(hV:Valid c)(vp vd:Value)(s:Nat)(hs:(s:Int)<c.sk)(w:World)(hp:Ints w vp c.pts)(hd:Rows w vd c.done) :
    Calls Tryz.prog 137 #[deskV c vp vd,.int .i64 s] w (Ret (.bool (canM c s)) w):=by
  have HP:=hid (fun W (hW:Below w.heap.size w W)=>ints_below hp hW)
  have HD:=hid (fun W (hW:Below w.heap.size w W)=>rows_below hd hW)
  have HB0:=hid ((Below.refl w.heap.size w).alloc (Nat.le_refl _) (deskBox c vp vd))
  have HC0:=hid (heap_alloc_new w (deskBox c vp vd))
  have HRK:=hid (fun v W (h:CupAt W v (withC c (wonM c s)))=>rank_any (withC c (wonM c s)) (valid_won hV hs) v s W h hs)
  have HCM:=hid (show canM c s=(rankM (withC c (wonM c s)) s == 1) from rfl)
  obtain ⟨pd,cd,rfl,hd2,hd3,_⟩:=hd.open
  obtain ⟨pp,cp,rfl,hp2,hp3,_⟩:=hp.open
  unfold maxLen at hd3 hp3
  have HWL:=hid (show (wonM c s).length≤20∧c.done.length≤20∧c.pts.length≤60∧∀ r∈c.done++wonM c s,r.length≤1000 from by
    have h1:=hV.dn
    have h2:=hV.ra2
    refine ⟨by unfold wonM;rw [List.length_replicate];omega,by omega,hV.pt2,fun r hr => ?_⟩
    have:=(valid_won hV hs).len r hr
    have h3:=hV.sk2
    have h4:(withC c (wonM c s)).sk=c.sk:=rfl
    omega)
  obtain ⟨rk,hrk⟩:∃ rk,rk=rankM (withC c (wonM c s)) s:=⟨_,rfl⟩
  rw [← hrk] at HRK HCM
  rw [HCM.out]
  clear hp hd hrk HCM
  obtain ⟨k0,k1,k2,k3,k4⟩:=desk_cells HC0.out
  have l0:=later_cellB (B:=w.heap.size+1) k0 (by omega)
  have l1:=later_cellB (B:=w.heap.size+1) k1 (by omega)
  have l2:=later_cellB (B:=w.heap.size+1) k2 (by omega)
  have l3:=later_cellB (B:=w.heap.size+1) k3 (by omega)
  have l4:=later_cellB (B:=w.heap.size+1) k4 (by omega)
  clear k0 k1 k2 k3 k4
  go_enter Tryz.func137,Tryz.ntmps137
  go_wp2
  refine wp_region_S (w.heap.size+1) [0,1,2,5] [3,4,6,7,8] (by kernel_rfl) (by kernel_rfl) (by intro d v c a1 w1 h;cases d <;> exact h) (fun w0 hb0 he0 => ?_)
  simp only [List.filterMap_cons,List.filterMap_nil,List.getElem?_cons_zero,List.getElem?_cons_succ]
  change wpQuiet _ _ _ (fun a'=>wpSeq _ _ _ _ (_::_::_::_::_::[]) a' w0) (_::_::_::_::[]) _
  repeat (go_big_quiet_step ((go_at_call 150;fail)))
  refine wpQuiet_nil ?_
  have hA:Below w.heap.size w w0:=HB0.out.trans (hb0.mono (by simp))
  have HA:=hid hA
  have HB1:=hid (show Below (w.heap.size+1) (w.alloc (deskBox c (.slice pp c.pts.length cp) (.slice pd c.done.length cd))) w0 from hb0.mono (by simp))
  have HWON:=hid (won_any c hV _ _ s hs w0 (HP.out w0 hA) (HD.out w0 hA))
  have hsz0:=hb0.size
  simp only [World.size_alloc] at hsz0
  clear hA hb0 he0 l0 l1 l2 l3 l4
  change wpList _ _ (Exit.then _ _) (_::[]) _ w0
  go_wp2_with (go_at_call 133;refine HWON.out.mono ?_;clear HWON;rintro e w1 ⟨p1,n1,c1,rfl,hn1,ho1,hb1⟩;have HN1:=hid hn1;have HO1:=hid ho1;have HW1:=hid hb1;clear hn1 ho1 hb1)
  have hB1:=HB1.out.trans (HW1.out.mono hsz0)
  have hA1:Below w.heap.size w w1:=HA.out.trans (HW1.out.mono HA.out.size)
  have HA1:=hid hA1
  have HWITH:=hid (with_any c _ _ _ (wonM c s) w1 (HP.out w1 hA1) (HD.out w1 hA1) HO1.out.rows HO1.out.real (by have:=HWL.out.2.2.1;omega) (by have:=HWL.out.1;have:=HWL.out.2.1;omega) HWL.out.2.2.2)
  refine ⟨⟨⟨w1,hB1⟩,rfl⟩,?_⟩
  have HB2:=hid hB1
  have hsz1:w.heap.size+1≤w1.heap.size:=Nat.le_trans hsz0 HW1.out.size
  clear hB1 hA1
  change wpList _ _ (Exit.then _ _) (_::[]) _ w1
  go_wp2_with (go_at_call 115;refine HWITH.out.mono ?_;clear HWITH;rintro e w2 ⟨xp,xd,rfl,ho2,ho3,hb2⟩;have HO2:=hid ho2;have HO3:=hid ho3;have HW2:=hid hb2;clear ho2 ho3 hb2)
  have hB2:=HB2.out.trans (HW2.out.mono hsz1)
  have hA2:Below w.heap.size w w2:=HA1.out.trans (HW2.out.mono HA1.out.size)
  have HA2:=hid hA2
  have HRANK:=hid (HRK.out _ w2 ⟨xp,xd,rfl,HO2.out.ints,HO3.out.rows⟩)
  refine ⟨⟨⟨w2,hB2⟩,rfl⟩,?_⟩
  have HB3:=hid hB2
  have hsz2:w.heap.size+1≤w2.heap.size:=Nat.le_trans hsz1 HW2.out.size
  clear hB2 hA2
  change wpList _ _ (Exit.then _ _) (_::[]) _ w2
  go_wp2_with (go_at_call 104;refine HRANK.out.mono ?_;clear HRANK;rintro e w3 ⟨rfl,hb3⟩;have HW3:=hid hb3;clear hb3)
  have hB3:=HB3.out.trans (HW3.out.mono hsz2)
  have HA3:=hid (HA2.out.trans (HW3.out.mono HA2.out.size))
  have HB4:=hid hB3
  refine ⟨⟨⟨w3,hB3⟩,rfl⟩,?_⟩
  clear hB3
  change wpList _ _ (Exit.then _ _) (_::[]) _ w3
  go_wp2
  refine ⟨⟨⟨w3,HB4.out⟩,rfl⟩,?_⟩
  change wpList _ _ (Exit.then _ _) (_::[]) _ w3
  go_wp2
  refine ⟨⟨⟨w3,HB4.out⟩,rfl⟩,?_⟩
  change (Exit.then _ _) Exit.normal _ _
  go_wp2
  go_ret
  exact ⟨rfl,HA3.out⟩
end KL
end Go.Proofs
end
section
namespace Go.Proofs
open Go.RowKit Go.Lib Go.Sort
namespace KL

def passes(c:Cup)(skier s:Nat):Bool:=decide (s≠skier) && decide (1<rankM (withC c (wonM c s)) skier)
def againstAt(c:Cup)(skier:Nat):Nat→Nat→Option Nat
  | 0,_=>none
  | f+1,k=>if passes c skier k then some k else againstAt c skier f (k+1)
def againstM(c:Cup)(skier:Nat):Option Nat:=againstAt c skier c.sk.toNat 0

def againstL(c:Cup)(o:Option Nat):List (List Int):=o.elim [] (wonM c)

def RetRB(L:List (List Int))(b:Bool)(w:World)(e:Ending)(w':World):Prop:=∃ p n cap,e = .returned (.tuple #[.slice p n cap,.bool b])∧n=L.length∧OwnR w' w.heap.size (.slice p n cap) L∧Below w.heap.size w w'

theorem againstAt_step(c:Cup)(skier f k:Nat):againstAt c skier (f+1) k=if passes c skier k then some k else againstAt c skier f (k+1):=rfl

set_option maxHeartbeats 2000000 in
set_option maxRecDepth 1000000 in
theorem against_any(c:Cup)(hV:Valid c)(vp vd:Value)(skier:Nat)(hs:(skier:Int)<c.sk)(w:World)(hp:Ints w vp c.pts)(hd:Rows w vd c.done) :
    Calls Tryz.prog 138 #[deskV c vp vd,.int .i64 skier] w (RetRB (againstL c (againstM c skier)) (againstM c skier).isSome w):=by
  have HP:=hid (fun W (hW:Below w.heap.size w W)=>ints_below hp hW)
  have HD:=hid (fun W (hW:Below w.heap.size w W)=>rows_below hd hW)
  have HB0:=hid ((Below.refl w.heap.size w).alloc (Nat.le_refl _) (deskBox c vp vd))
  have HC0:=hid (heap_alloc_new w (deskBox c vp vd))
  have hsk1:=hV.sk1
  have hsk2:=hV.sk2
  obtain ⟨pd,cd,rfl,hd2,hd3,_⟩:=hd.open
  obtain ⟨pp,cp,rfl,hp2,hp3,_⟩:=hp.open
  unfold maxLen at hd3 hp3
  clear hp hd
  have hBB:=Below.refl (w.heap.size+1) (w.alloc (deskBox c (.slice pp c.pts.length cp) (.slice pd c.done.length cd)))
  obtain ⟨k0,k1,k2,k3,k4⟩:=desk_cells HC0.out
  go_enter Tryz.func138,Tryz.ntmps138
  go_wp2
  clear k0 k1 k2 k3 k4
  go_loopw [11] (fun i wr=>∃ k:Nat,(k:Int)≤c.sk∧i = .int .i64 k∧againstM c skier=againstAt c skier (c.sk.toNat-k) k ∧
      Below (w.heap.size+1) (w.alloc (deskBox c (.slice pp c.pts.length cp) (.slice pd c.done.length cd))) wr) (fun i _=>c.sk.toNat-(intOf i).toNat)
  case atStart=>exact ⟨0,by omega,rfl,rfl,hBB⟩
  case round =>
    obtain ⟨k,hk,rfl,hag,hB⟩:=hrel
    have HAG:=hid hag
    have HB:=hid hB
    have hsz:w.heap.size+1≤wr.heap.size:=by have:=hB.size;simpa using this
    have H2:=hid ((hB.block w.heap.size (by omega)).trans HC0.out)
    have hbw:Below w.heap.size w wr:=HB0.out.trans (hB.mono (by omega))
    have HBW:=hid hbw
    obtain ⟨k0,k1,k2,k3,k4⟩:=desk_cells H2.out
    clear hag hB hBB hbw
    by_cases hlt:(k:Int)<c.sk
    · have HWON:=hid (won_any c hV _ _ k hlt wr (HP.out wr HBW.out) (HD.out wr HBW.out))
      have HST:=hid (show againstM c skier=if passes c skier k then some k else againstAt c skier (c.sk.toNat-(k+1)) (k+1) from by
        rw [HAG.out,show c.sk.toNat-k=(c.sk.toNat-(k+1))+1 by omega,againstAt_step])
      by_cases hks:k=skier
      · subst hks
        go_wp2_with (go_at_call 133;refine HWON.out.mono ?_;clear HWON;rintro e w1 ⟨p1,n1,c1,rfl,hn1,ho1,hb1⟩;have HN1:=hid hn1;have HW1:=hid hb1;clear hn1 ho1 hb1)
        go_roundw
        case rel =>
          refine ⟨k+1,by omega,by go_num,?_,HB.out.trans (HW1.out.mono hsz)⟩
          rw [HST.out,if_neg (by simp [passes])]
        case measure=>simp [intOf];omega
      · have hne:((k:Int) != skier)=true:=by simp;omega
        have HRK:=hid (fun v W (h:CupAt W v (withC c (wonM c k)))=>rank_any (withC c (wonM c k)) (valid_won hV hlt) v skier W h hs)
        have HPS:=hid (show passes c skier k=decide (1<rankM (withC c (wonM c k)) skier) from by simp [passes,hks])
        obtain ⟨rk,hrk⟩:∃ rk,rk=rankM (withC c (wonM c k)) skier:=⟨_,rfl⟩
        rw [← hrk] at HRK HPS
        have HWL:=hid (show (wonM c k).length≤20∧c.done.length≤20∧c.pts.length≤60∧∀ r∈c.done++wonM c k,r.length≤1000 from by
          have h1:=hV.dn
          have h2:=hV.ra2
          refine ⟨by unfold wonM;rw [List.length_replicate];omega,by omega,hV.pt2,fun r hr => ?_⟩
          have:=(valid_won hV hlt).len r hr
          have h4:(withC c (wonM c k)).sk=c.sk:=rfl
          omega)
        clear hrk
        go_wp2_with (first
          | (go_at_call 133;refine HWON.out.mono ?_;clear HWON;rintro e w1 ⟨p1,n1,c1,rfl,hn1,ho1,hb1⟩;have HN1:=hid hn1;have HW1:=hid hb1;have HO1:=hid ho1
             have H21:=hid ((hb1.block w.heap.size (by omega)).trans H2.out)
             obtain ⟨k0,k1,k2,k3,k4⟩:=desk_cells H21.out
             have HA1:=hid (HBW.out.trans (hb1.mono HBW.out.size))
             have HWITH:=hid (with_any c _ _ _ (wonM c k) w1 (HP.out w1 HA1.out) (HD.out w1 HA1.out) ho1.rows ho1.real (by have:=HWL.out.2.2.1;omega) (by have:=HWL.out.1;have:=HWL.out.2.1;omega) HWL.out.2.2.2);clear hn1 ho1 hb1)
          | (go_at_call 115;refine HWITH.out.mono ?_;clear HWITH;rintro e w2 ⟨xp,xd,rfl,ho2,ho3,hb2⟩;have HW2:=hid hb2;have HRANK:=hid (HRK.out _ w2 ⟨xp,xd,rfl,ho2.ints,ho3.rows⟩);clear ho2 ho3 hb2)
          | (go_at_call 104;refine HRANK.out.mono ?_;clear HRANK;rintro e w3 ⟨rfl,hb3⟩;have HW3:=hid hb3;clear hb3))
        · have hsz1:=HW1.out.size
          have hsz2:=HW2.out.size
          have hb13:Below w1.heap.size w1 _:=HW2.out.trans (HW3.out.mono hsz2)
          refine bodyPost_ret (results_tmp2 rfl _ _) rfl ?_
          rw [HST.out,HPS.out,if_pos (by simpa using (by assumption))]
          exact (show RetRB (wonM c k) true w _ _ from ⟨p1,n1,c1,rfl,HN1.out,((HO1.out.later hb13).base (by omega)),HA1.out.trans (hb13.mono HA1.out.size)⟩)
        · have hsz1:=HW1.out.size
          have hsz2:=HW2.out.size
          have hb13:Below w1.heap.size w1 _:=HW2.out.trans (HW3.out.mono hsz2)
          go_roundw
          case rel =>
            refine ⟨k+1,by omega,by go_num,?_,HB.out.trans ((HW1.out.trans (hb13.mono hsz1)).mono hsz)⟩
            rw [HST.out,HPS.out,if_neg (by simp;omega)]
          case measure=>simp [intOf];omega
    · have HK:=hid (show k=c.sk.toNat by omega)
      have HE:=hid (show againstM c skier=none by rw [HAG.out,HK.out,Nat.sub_self];rfl)
      go_wp2
      refine bodyPost_ret (results_tmp2 rfl _ _) rfl ?_
      rw [HE.out]
      exact (show RetRB [] false w _ _ from ⟨none,0,0,rfl,rfl,OwnR.nil _ _,HBW.out⟩)
end KL
end Go.Proofs
end
section
namespace Go.Proofs
open Go.RowKit Go.Lib Go.Sort
namespace KL

def sureM(c:Cup)(s:Nat):Bool := !(againstM c s).isSome

set_option maxHeartbeats 1000000 in
theorem sure_any(c:Cup)(hV:Valid c)(vp vd:Value)(s:Nat)(hs:(s:Int)<c.sk)(w:World)(hp:Ints w vp c.pts)(hd:Rows w vd c.done) :
    Calls Tryz.prog 149 #[deskV c vp vd,.int .i64 s] w (Ret (.bool (sureM c s)) w):=by
  have hB0:=(Below.refl w.heap.size w).alloc (Nat.le_refl _) (deskBox c vp vd)
  have HA:=hid (against_any c hV vp vd s hs (w.alloc (deskBox c vp vd)) (ints_below hp hB0) (rows_below hd hB0))
  have HB0:=hid hB0
  have HSM:=hid (show sureM c s = !(againstM c s).isSome from rfl)
  obtain ⟨pd,cd,rfl,hd2,hd3,_⟩:=hd.open
  obtain ⟨pp,cp,rfl,hp2,hp3,_⟩:=hp.open
  unfold maxLen at hd3 hp3
  obtain ⟨b,hb⟩:∃ b,b=(againstM c s).isSome:=⟨_,rfl⟩
  rw [← hb] at HA HSM
  rw [HSM.out]
  clear hp hd hB0 hb
  go_enter Tryz.func149,Tryz.ntmps149
  go_wp2_with (go_at_call 138;refine HA.out.mono ?_;clear HA;rintro e w1 ⟨p1,n1,c1,rfl,hn1,ho1,hb1⟩;have HN1:=hid hn1;have HW1:=hid hb1;clear hn1 ho1 hb1)
  go_ret
  exact ⟨rfl,HB0.out.trans (HW1.out.mono (by simp))⟩
end KL
end Go.Proofs
end
section
namespace Go.Proofs
open KL Go.RowKit
namespace KV
variable {P:Program} {C:Cx} {M:Mem} {w w':World}

theorem FV.of_calls{f base:Nat}{args:List AV}{y:AV}(ho:outP [] base y=some (y,[]))
    (h:∀ (C:Cx) (w:World) (us:List Value),RepL C [] w args us→Calls P f us.toArray w fun e w'=>∃ u,e = .returned u∧Below w.heap.size w w'∧∀ (C2:Cx),(∀ b,C.F b→C2.F b)→(∀ b,w.heap.size≤b→b<w'.heap.size→C2.F b)→(∀ b,C.F b→w'.heap[b]? = w.heap[b]?)→Rep C2 [] w' y u):FV P f args base y []:=by
  refine ⟨y,[],fun C w us hus hM n=>(callsIn_wide.2 (h C w us hus)).mono ?_,ho⟩
  rintro e w' ⟨u,rfl,hb,hr⟩
  obtain ⟨f1,m1⟩:=fr_after (C:=C) (M:=([]:Mem)) (w:=w) (w':=w') (kb:=none) hM hb.os hb.tape hb.output hb.size (fun b hb'=>hb.block b hb')
  exact ⟨u,rfl,_,f1,m1,hr _ f1.F1 (fun b h1 h2 => .inr ⟨h1,h2,by simp⟩) (fun b hf=>hb.block b (hM.Fs b hf))⟩

theorem rows_of{F:Nat→Prop}{l:List (List Int)}{u:Value}(h:RepP F w (rowsP l) u):KL.Rows w u l:=by
  change RepP F w (.sl l.length (l.map intsP)) u at h
  generalize hn:l.length=n at h
  generalize hc:l.map intsP=cs at h
  cases h with
  | sl n cs p cap us h1 h2 h3 h4 h5 =>
    subst hn
    refine ⟨p,cap,rfl,h1,h2,fun i hi => ?_⟩
    have hl:i<cs.length:=by rw [← hc];simpa using hi
    obtain ⟨b,o,hp,_,hw⟩:=h3 i hl
    refine ⟨b,o,us i,hp,hw,?_⟩
    have:=h4 i hl
    subst hc
    rw [List.getElem_map] at this
    exact ints_of this

abbrev cupC(c:KL.Cup):List PV:=[intP c.sk,intP c.ra,intP c.be,intsP c.pts,rowsP c.done]
abbrev cupP(c:KL.Cup):PV := .agg (cupC c)
theorem repV_int{F:Nat→Prop}{k:IntKind}{n:Int}{u:Value}(h:RepP F w (.v (.int k n)) u):u = .int k n:=repV h
theorem agg5{vs:Array Value}{a b c d e:Value}(hs:vs.size=5)(h0:vs.getD 0 undef=a)(h1:vs.getD 1 undef=b)(h2:vs.getD 2 undef=c)(h3:vs.getD 3 undef=d)(h4:vs.getD 4 undef=e):vs = #[a,b,c,d,e]:=by
  apply Array.ext
  · simpa using hs
  · intro i h5 h6
    have:i=0∨i=1∨i=2∨i=3∨i=4:=by omega
    rcases this with rfl | rfl | rfl | rfl | rfl <;> simp_all [Array.getD_eq_getD_getElem?]
theorem cup_of{F:Nat→Prop}{c:KL.Cup}{u:Value}(h:RepP F w (cupP c) u):∃ vp vd,u=deskV c vp vd∧Ints w vp c.pts∧KL.Rows w vd c.done∧RepP F w (intsP c.pts) vp∧RepP F w (rowsP c.done) vd:=by
  cases h with
  | agg cs vs h0 h1 h2 =>
    have e0:=repV_int (h2 0 (by simp))
    have e1:=repV_int (h2 1 (by simp))
    have e2:=repV_int (h2 2 (by simp))
    have e3:=h2 3 (by simp)
    have e4:=h2 4 (by simp)
    refine ⟨_,_,?_,ints_of e3,rows_of e4,e3,e4⟩
    exact congrArg Value.agg (agg5 h1 e0 e1 e2 rfl rfl)
theorem repP_own{F:Nat→Prop}{base:Nat}{u:Value}{l:List Int}(h:OwnI w base u l)(hF:∀ b,base≤b→b<w.heap.size→F b):RepP F w (intsP l) u:=by
  rcases h.2 with ⟨rfl,h0⟩ | ⟨g,cap,cur,rfl,hb,hh,r1,r2,r3,r4⟩
  · have:l=[]:=List.eq_nil_of_length_eq_zero h0
    subst this
    exact .sl 0 [] none 0 (fun _=>undef) (Nat.le_refl _) (by unfold maxLen;omega) (fun i h=>by simp at h) (fun i h=>by simp at h) (fun i h=>by simp at h)
  · obtain ⟨q1,q2⟩:=vals_arr (w:=w) F (by simpa using r4)
    refine .sl _ _ _ _ (fun j=>cur.getD j undef) r1 r2 (fun i hi=>⟨g,0,rfl,hF g hb (lt_of_block hh),?_⟩) q1 q2
    rw [Nat.zero_add]
    exact cell_of_heap hh (by have:i<l.length:=by simpa using hi
                              omega)
section
variable {f base:Nat} {args:List AV}
theorem FV.of_ret{y:PV}{v:Value}(hy:∀ (F:Nat→Prop) (w:World),RepP F w y v)(ho:outP [] base (.p y)=some (.p y,[]))
    (h:∀ (C:Cx) (w:World) (us:List Value),RepL C [] w args us→Calls P f us.toArray w (Ret v w)):FV P f args base (.p y) [] :=
  FV.of_calls ho fun C w us hus=>(h C w us hus).mono fun e w' ⟨he,hb⟩=>⟨v,he,hb,fun C2 _ _ _ => .p _ _ (hy _ _)⟩
theorem FV.of_own{l:List Int}(h:∀ (C:Cx) (w:World) (us:List Value),RepL C [] w args us→Calls P f us.toArray w (RetOwn l w)):FV P f args base (.p (intsP l)) [] :=
  FV.of_calls rfl fun C w us hus=>(h C w us hus).mono fun e w' ⟨p,n,cap,he,hn,ho,hb⟩=>⟨_,he,hb,fun C2 _ h2 _ => .p _ _ (repP_own ho h2)⟩
end

theorem repL_cup{C:Cx}{c:KL.Cup}{us:List Value}(h:RepL C M w [.p (cupP c)] us):∃ vp vd,us=[deskV c vp vd]∧Ints w vp c.pts∧KL.Rows w vd c.done:=by
  obtain ⟨u,rfl,hu⟩:=repL_one h
  cases hu with
  | p _ _ hu =>
    obtain ⟨vp,vd,rfl,h1,h2,_⟩:=cup_of hu
    exact ⟨vp,vd,rfl,h1,h2⟩
theorem repL_cupI{C:Cx}{c:KL.Cup}{n:Int}{us:List Value}(h:RepL C M w [.p (cupP c),.p (intP n)] us):∃ vp vd,us=[deskV c vp vd,.int .i64 n]∧Ints w vp c.pts∧KL.Rows w vd c.done:=by
  obtain ⟨u,v,rfl,hu,hv⟩:=repL_two h
  cases hu with
  | p _ _ hu =>
    cases hv with
    | p _ _ hv =>
      obtain ⟨vp,vd,rfl,h1,h2,_⟩:=cup_of hu
      rw [repV_int hv]
      exact ⟨vp,vd,rfl,h1,h2⟩

theorem check_ok(c:KL.Cup)(hS:Small c){base:Nat}:FV Tryz.prog 49 [.p (cupP c)] base (.p (intP (checkP c))) [] :=
  FV.of_ret (fun _ _ => .v _) rfl fun C w us hus=>by
    obtain ⟨vp,vd,rfl,h1,h2⟩:=repL_cup hus
    exact check_any c _ w ⟨vp,vd,rfl,h1,h2⟩ hS
theorem rank_ok(c:KL.Cup)(hV:Valid c)(s:Nat)(hs:(s:Int)<c.sk){base:Nat}:FV Tryz.prog 104 [.p (cupP c),.p (intP (s:Int))] base (.p (intP (rankM c s))) [] :=
  FV.of_ret (fun _ _ => .v _) rfl fun C w us hus=>by
    obtain ⟨vp,vd,rfl,h1,h2⟩:=repL_cupI hus
    exact rank_any c hV _ s w ⟨vp,vd,rfl,h1,h2⟩ hs
theorem can_ok(c:KL.Cup)(hV:Valid c)(s:Nat)(hs:(s:Int)<c.sk){base:Nat}:FV Tryz.prog 137 [.p (cupP c),.p (intP (s:Int))] base (.p (blP (canM c s))) [] :=
  FV.of_ret (fun _ _ => .v _) rfl fun C w us hus=>by
    obtain ⟨vp,vd,rfl,h1,h2⟩:=repL_cupI hus
    exact can_any c hV vp vd s hs w h1 h2
theorem sure_ok(c:KL.Cup)(hV:Valid c)(s:Nat)(hs:(s:Int)<c.sk){base:Nat}:FV Tryz.prog 149 [.p (cupP c),.p (intP (s:Int))] base (.p (blP (sureM c s))) [] :=
  FV.of_ret (fun _ _ => .v _) rfl fun C w us hus=>by
    obtain ⟨vp,vd,rfl,h1,h2⟩:=repL_cupI hus
    exact sure_any c hV vp vd s hs w h1 h2
theorem totals_ok(c:KL.Cup)(hV:Valid c){base:Nat}:FV Tryz.prog 94 [.p (cupP c)] base (.p (intsP (totalsM c))) [] :=
  FV.of_own fun C w us hus=>by
    obtain ⟨vp,vd,rfl,h1,h2⟩:=repL_cup hus
    exact totals_any c hV vp vd w h1 h2
abbrev formP(c:KL.Cup)(s:Nat):PV := .agg (intP (totalM c s)::(placesM c s).map intP)
theorem rep_ints(F:Nat→Prop)(w:World)(l:List Int):RepP F w (.agg (l.map intP)) (.agg (l.map (Value.int .i64)).toArray):=by
  have hg:∀ i (h:i<l.length),(l.map (Value.int .i64)).toArray.getD i undef = .int .i64 l[i]:=fun i h=>by
    rw [Array.getD_eq_getD_getElem?,Array.getElem?_eq_getElem (by simpa using h)];simp
  refine .agg _ _ (fun i hi => ?_) (by simp) (fun i hi => ?_)
  · rw [hg i (by simpa using hi)];rfl
  · rw [hg i (by simpa using hi),List.getElem_map];exact .v _
theorem form_ok(c:KL.Cup)(hV:Valid c)(s:Nat)(hs:(s:Int)<c.sk){base:Nat}:FV Tryz.prog 103 [.p (cupP c),.p (intP (s:Int))] base (.p (formP c s)) [] :=
  FV.of_ret (v := .agg (formM c s)) (fun F w=>by
    have:=rep_ints F w (totalM c s::placesM c s)
    simpa [formM,formC] using this) rfl fun C w us hus=>by
    obtain ⟨vp,vd,rfl,h1,h2⟩:=repL_cupI hus
    exact form_any c hV _ s w ⟨vp,vd,rfl,h1,h2⟩ hs
theorem form_of{F:Nat→Prop}{c:KL.Cup}{s:Nat}{u:Value}(h:RepP F w (formP c s) u):u = .agg (formM c s):=by
  have:∀ (l:List Int) (u:Value),RepP F w (.agg (l.map intP)) u→u = .agg (l.map (Value.int .i64)).toArray:=fun l u h=>by
    generalize hc:l.map intP=cs at h
    cases h with
    | agg cs vs h0 h1 h2 =>
      subst hc
      congr 1
      apply Array.ext
      · simpa using h1
      · intro i h3 h4
        have hi:i<l.length:=by simpa using h4
        have:=h2 i (by simpa using hi)
        rw [List.getElem_map] at this
        have:=repV_int this
        rw [Array.getD_eq_getD_getElem?,Array.getElem?_eq_getElem h3] at this
        simpa using this
  have h2:=this (totalM c s::placesM c s) u (by simpa using h)
  rw [h2]
  simp [formM,formC]
theorem better_ok(c c':KL.Cup)(a b:Nat){base:Nat}:FV Tryz.prog 108 [.p (formP c a),.p (formP c' b)] base (.p (blP (betterF (totalM c a) (totalM c' b) (placesM c a) (placesM c' b)))) [] :=
  FV.of_ret (fun _ _ => .v _) rfl fun C w us hus=>by
    obtain ⟨u,v,rfl,hu,hv⟩:=repL_two hus
    cases hu with
    | p _ _ hu =>
      cases hv with
      | p _ _ hv =>
        rw [form_of hu,form_of hv]
        have h:∀ (c:KL.Cup) s,(placesM c s).length=61:=fun c s=>by unfold placesM;rw [placesUpTo_length]
        exact better_any _ _ _ _ (h c a) (h c' b) w
end KV
end Go.Proofs
end
namespace Go.Proofs
namespace KV
section
theorem within_p0{n lo hi:Int}{r0:Bool}(h0:lo≤n)(er0:r0=(decide (n≤hi))){base:Nat}:FV Tryz.prog 89 [(.p (intP n)),(.p (intP lo)),(.p (intP hi))] base (.p (blP r0)) []:=by
  subst er0
  exact FV.fin Tryz.func89 rfl (o:=[.b true,.b true,.b true,.b true]) (l:=[(decide (n ≥ lo))=true,(decide (n ≥ lo))=true,(decide (n ≥ lo))=true,(decide (n ≥ lo))=true]) (by kernel_rfl) (gc (q_le h0) (gc (q_le h0) (gc (q_le h0) (gc (q_le h0) gn))))
theorem within_p1{n lo hi:Int}(h0:n<lo){base:Nat}:FV Tryz.prog 89 [(.p (intP n)),(.p (intP lo)),(.p (intP hi))] base (.p (blP false)) []:=by
  exact FV.fin Tryz.func89 rfl (o:=[.b false,.b false,.b false,.b false]) (l:=[(decide (n ≥ lo))=false,(decide (n ≥ lo))=false,(decide (n ≥ lo))=false,(decide (n ≥ lo))=false]) (by kernel_rfl) (gc (q_leF h0) (gc (q_leF h0) (gc (q_leF h0) (gc (q_leF h0) gn))))
def within(n lo hi:Int):Bool:=decide (lo≤n) && decide (n≤hi)
theorem within_ok(n lo hi:Int){base:Nat}:FV Tryz.prog 89 [.p (intP n),.p (intP lo),.p (intP hi)] base (.p (blP (within n lo hi))) []:=by
  by_cases h:lo≤n
  · exact within_p0 h (by simp [within,h])
  · have e:within n lo hi=false:=by simp [within,h]
    rw [e];exact within_p1 (show n<lo by omega)
def sum_S0(l:List Int)(i:Nat)(a:Int):St:=⟨fr 17 [(2,(.p (intP 0))),(3,(.p (intP a))),(6,(.p (intsP l))),(7,(.p (intP (l.length:Int)))),(8,(.p (intP (i:Int))))],[]⟩
theorem sum_p0{l:List Int}{i'0:Nat}{a'1:Int}(hl0:LoopOK Tryz.prog 0 (sub (cd Tryz.f98) [1,1,0,1,0,0]) (sum_S0 l 0 (0:Int)) (.exit 0) (sum_S0 l i'0 a'1)){base:Nat}:FV Tryz.prog 98 [(.p (intsP l))] base (.p (intP a'1)) []:=by
  exact FV.fin Tryz.func98 rfl (o:=[.k 8 ⟨[0,1,4,5,9,10,11,12,13,14,15],[],[],[]⟩ (.exit 0) (sum_S0 l i'0 a'1)]) (l:=[CodeOK Tryz.prog 0 (.loop (sub (cd Tryz.f98) [1,1,0,1,0,0])) (sum_S0 l 0 (0:Int)) (.exit 0) (sum_S0 l i'0 a'1)]) (by kernel_rfl) (gc hl0.code gn)
theorem sum_L0_p0{l:List Int}{i:Nat}{a x100:Int}{i':Nat}{a':Int}(h0:(i:Int)<(l.length:Int))(h1:l[i]? = some x100)(h2:inR (a+x100))(h3:inR (((i+1):Nat):Int))(ei':i'=(i+1))(ea':a'=(a+x100)):CodeOK Tryz.prog 0 (sub (cd Tryz.f98) [1,1,0,1,0,0]) (sum_S0 l i a) .normal (sum_S0 l i' a'):=by
  subst ei' ea'
  exact CodeOK.fin (g:=⟨[0,1,4,5,9,10,11,12,13,14,15],[],[],[]⟩) (o:=[.b true,.x (intP x100)]) (l:=[inR (((i+1):Nat):Int),inR (a+x100),(l.map intP)[(i*1)]? = some (intP x100),0≤(i:Int)∧(i:Int)<(l.length:Int)∧(i*1)<(l.map intP).length,(decide ((i:Int)<(l.length:Int)))=true]) (by kernel_rfl) (gc h3 (gc h2 (gc (at_map (i:=i) h1) (gc (ix_map (i:=(i:Int)) (Int.natCast_nonneg _) h1) (gc (q_lt h0) gn)))))
theorem sum_L0_p1{l:List Int}{i:Nat}{a:Int}(h0:(l.length:Int)≤(i:Int)):CodeOK Tryz.prog 0 (sub (cd Tryz.f98) [1,1,0,1,0,0]) (sum_S0 l i a) (.exit 0) (sum_S0 l i a):=by
  exact CodeOK.fin (g:=⟨[0,1,4,5,9,10,11,12,13,14,15],[],[],[]⟩) (o:=[.b false]) (l:=[(decide ((i:Int)<(l.length:Int)))=false]) (by kernel_rfl) (gc (q_ltF h0) gn)
theorem sum_ok(l:List Int)(hl:small l.length)(hr:∀ k,inR (l.take k).sum){base:Nat}:FV Tryz.prog 98 [.p (intsP l)] base (.p (intP l.sum)) []:=by
  have h:=LoopOK.range (P:=Tryz.prog) (k:=0) (b:=sub (cd Tryz.f98) [1,1,0,1,0,0]) (e := .exit 0) (fun i a=>sum_S0 l i a) (fun a=>sum_S0 l l.length a) (fun a x=>a+x) (fun i a=>a=(l.take i).sum) (by simp) l (a0:=0) (by simp)
    (fun i x acc hx hI=>by
      have hi:=lt_of_at hx
      have he:(l.take (i+1)).sum=acc+x:=by
        rw [List.take_add_one,hx,hI];simp
      exact ⟨he.symm,sum_L0_p0 (by omega) hx (he ▸ hr (i+1)) (inR_nat (by omega)) rfl rfl⟩)
    (fun acc _=>sum_L0_p1 (by omega))
  have e:l.foldl (fun a x=>a+x) 0=l.sum:=by rw [List.sum_eq_foldl]
  rw [e] at h
  exact sum_p0 h
theorem nan_p0{x:Int}{r0:Bool}(er0:r0=(x != x)){base:Nat}:FV Tryz.prog 145 [(.p (intP x))] base (.p (blP r0)) []:=by
  subst er0
  exact FV.fin Tryz.func145 rfl (o:=[]) (l:=[]) (by kernel_rfl) (gn)
theorem nan_ok(x:Int){base:Nat}:FV Tryz.prog 145 [.p (intP x)] base (.p (blP false)) []:=nan_p0 (by simp)
theorem cmp_p0{x y:Int}(h0:x<y){base:Nat}:FV Tryz.prog 97 [(.p (intP x)),(.p (intP y))] base (.p (intP (-1:Int))) []:=by
  exact FV.fin Tryz.func97 rfl (o:=[.c (.p (blP false)) [],.c (.p (blP false)) [],.b false,.b false,.b true]) (l:=[(decide (x<y))=true,false=false,false=false,FC Tryz.prog 145 [(.p (intP y))] [] 0 (.p (blP false)) [],FC Tryz.prog 145 [(.p (intP x))] [] 0 (.p (blP false)) []]) (by kernel_rfl) (gc (q_lt h0) (gc rfl (gc rfl (gc (FV.fc (nan_ok y) rfl) (gc (FV.fc (nan_ok x) rfl) gn)))))
theorem cmp_p1{x y:Int}(h0:y≤x)(h1:y<x){base:Nat}:FV Tryz.prog 97 [(.p (intP x)),(.p (intP y))] base (.p (intP 1)) []:=by
  exact FV.fin Tryz.func97 rfl (o:=[.c (.p (blP false)) [],.c (.p (blP false)) [],.b false,.b false,.b false,.b true]) (l:=[(decide (x > y))=true,(decide (x<y))=false,false=false,false=false,FC Tryz.prog 145 [(.p (intP y))] [] 0 (.p (blP false)) [],FC Tryz.prog 145 [(.p (intP x))] [] 0 (.p (blP false)) []]) (by kernel_rfl) (gc (q_lt h1) (gc (q_ltF h0) (gc rfl (gc rfl (gc (FV.fc (nan_ok y) rfl) (gc (FV.fc (nan_ok x) rfl) gn))))))
theorem cmp_p2{x y:Int}(h0:y≤x)(h1:x≤y){base:Nat}:FV Tryz.prog 97 [(.p (intP x)),(.p (intP y))] base (.p (intP 0)) []:=by
  exact FV.fin Tryz.func97 rfl (o:=[.c (.p (blP false)) [],.c (.p (blP false)) [],.b false,.b false,.b false,.b false]) (l:=[(decide (x > y))=false,(decide (x<y))=false,false=false,false=false,FC Tryz.prog 145 [(.p (intP y))] [] 0 (.p (blP false)) [],FC Tryz.prog 145 [(.p (intP x))] [] 0 (.p (blP false)) []]) (by kernel_rfl) (gc (q_ltF h1) (gc (q_ltF h0) (gc rfl (gc rfl (gc (FV.fc (nan_ok y) rfl) (gc (FV.fc (nan_ok x) rfl) gn))))))
def cmpI(x y:Int):Int:=if x<y then -1 else if y<x then 1 else 0
theorem cmp_ok(x y:Int){base:Nat}:FV Tryz.prog 97 [.p (intP x),.p (intP y)] base (.p (intP (cmpI x y))) []:=by
  unfold cmpI
  by_cases h1:x<y
  · rw [if_pos h1];exact cmp_p0 h1
  · rw [if_neg h1]
    by_cases h2:y<x
    · rw [if_pos h2];exact cmp_p1 (by omega) h2
    · rw [if_neg h2];exact cmp_p2 (by omega) (by omega)
theorem t91_p0{n:Int}{r0:Bool}(er0:r0=(within n (0:Int) (30:Int))){base:Nat}:FV Tryz.prog 91 [(.p (intP n))] base (.p (blP r0)) []:=by
  subst er0
  exact FV.fin Tryz.func91 rfl (o:=[.c (.p (blP (within n (0:Int) (30:Int)))) []]) (l:=[FC Tryz.prog 89 [(.p (intP n)),(.p (intP 0)),(.p (intP 30))] [] 0 (.p (blP (within n (0:Int) (30:Int)))) []]) (by kernel_rfl) (gc (FV.fc (within_ok n (0:Int) (30:Int)) rfl) gn)
theorem t91_ok(n:Int){base:Nat}:FV Tryz.prog 91 [.p (intP n)] base (.p (blP (within n 0 30))) []:=t91_p0 rfl
theorem t92_p0{n:Int}{r0:Bool}(er0:r0=(within n (0:Int) (20:Int))){base:Nat}:FV Tryz.prog 92 [(.p (intP n))] base (.p (blP r0)) []:=by
  subst er0
  exact FV.fin Tryz.func92 rfl (o:=[.c (.p (blP (within n (0:Int) (20:Int)))) []]) (l:=[FC Tryz.prog 89 [(.p (intP n)),(.p (intP 0)),(.p (intP 20))] [] 0 (.p (blP (within n (0:Int) (20:Int)))) []]) (by kernel_rfl) (gc (FV.fc (within_ok n (0:Int) (20:Int)) rfl) gn)
theorem t92_ok(n:Int){base:Nat}:FV Tryz.prog 92 [.p (intP n)] base (.p (blP (within n 0 20))) []:=t92_p0 rfl
theorem all91N_p0{x:Int}{r0:Bool}(er0:r0=(!(within x 0 30))):FMM Tryz.prog 141 [(.p (intP x)),(.ptr 0 0)] [some (.box 98 [(.fn 91 [] [])])] (.p (blP r0)) [some (.box 98 [(.fn 91 [] [])])]:=by
  subst er0
  exact FMM.fin (k:=1) (g:=⟨[],[],[],[]⟩) rfl Tryz.func141 rfl (o:=[.c (.p (blP (within x 0 30))) []]) (l:=[FC Tryz.prog 91 [(.p (intP x))] [] 1 (.p (blP (within x 0 30))) []]) (by kernel_rfl) (gc (FV.fc (t91_ok x) rfl) gn)
theorem all91N_ok(x:Int)  : FMM Tryz.prog 141 [(.p (intP x)),.ptr 0 0] [some (.box 98 [(.fn 91 [] [])])] (.p (blP (!(within x 0 30)))) [some (.box 98 [(.fn 91 [] [])])]:=all91N_p0 rfl
def all91I_S0(l:List Int)(i:Nat):St:=⟨fr 19 [(0,(.p (intsP l))),(1,(.fn 141 [] [(.ptr 0 0)])),(7,(.p (intP (l.length:Int)))),(8,(.p (intP (i:Int))))],[some (.box 98 [(.fn 91 [] [])])]⟩
theorem all91I_p0{l:List Int}{i'0:Nat}(hl0:LoopOK Tryz.prog 1 (sub (cd Tryz.f135) [1,0,1,0,0]) (all91I_S0 l 0) (.exit 0) (all91I_S0 l i'0)):FMM Tryz.prog 135 [(.p (intsP l)),(.fn 141 [] [(.ptr 0 0)])] [some (.box 98 [(.fn 91 [] [])])] (.p (intP (-1:Int))) [some (.box 98 [(.fn 91 [] [])])]:=by
  exact FMM.fin (k:=1) (g:=⟨[],[],[],[]⟩) rfl Tryz.func135 rfl (o:=[.k 6 ⟨(rng [(2,5),(9,10)]),[],[],[]⟩ (.exit 0) (all91I_S0 l i'0)]) (l:=[CodeOK Tryz.prog 1 (.loop (sub (cd Tryz.f135) [1,0,1,0,0])) (all91I_S0 l 0) (.exit 0) (all91I_S0 l i'0)]) (by kernel_rfl) (gc hl0.code gn)
theorem all91I_p1{l:List Int}{i'0:Nat}(hl0:LoopOK Tryz.prog 1 (sub (cd Tryz.f135) [1,0,1,0,0]) (all91I_S0 l 0) .ret (setS (all91I_S0 l i'0) [(4,(.p (intP (i'0:Int))))])):FMM Tryz.prog 135 [(.p (intsP l)),(.fn 141 [] [(.ptr 0 0)])] [some (.box 98 [(.fn 91 [] [])])] (.p (intP (i'0:Int))) [some (.box 98 [(.fn 91 [] [])])]:=by
  exact FMM.fin (k:=1) (g:=⟨[],[],[],[]⟩) rfl Tryz.func135 rfl (o:=[.k 6 ⟨(rng [(2,5),(9,10)]),[],[],[]⟩ .ret (setS (all91I_S0 l i'0) [(4,(.p (intP (i'0:Int))))])]) (l:=[CodeOK Tryz.prog 1 (.loop (sub (cd Tryz.f135) [1,0,1,0,0])) (all91I_S0 l 0) .ret (setS (all91I_S0 l i'0) [(4,(.p (intP (i'0:Int))))])]) (by kernel_rfl) (gc hl0.code gn)
theorem all91I_L0_p0{l:List Int}{i:Nat}{x100:Int}(h0:(i:Int)<(l.length:Int))(h1:l[i]? = some x100)(h2:(within x100 0 30)=false):CodeOK Tryz.prog 1 (sub (cd Tryz.f135) [1,0,1,0,0]) (all91I_S0 l i) .ret (setS (all91I_S0 l i) [(4,(.p (intP (i:Int))))]):=by
  exact CodeOK.fin (g:=⟨(rng [(2,2),(5,2),(9,10)]),[],[],[]⟩) (o:=[.b true,.x (intP x100),.c (.p (blP (!(within x100 0 30)))) [(0,(.box 98 [(.fn 91 [] [])]))],.b true]) (l:=[(!(within x100 0 30))=true,FC Tryz.prog 141 [(.p (intP x100)),(.ptr 0 0)] [(0,(.box 98 [(.fn 91 [] [])]))] 1 (.p (blP (!(within x100 0 30)))) [(0,(.box 98 [(.fn 91 [] [])]))],(l.map intP)[(i*1)]? = some (intP x100),0≤(i:Int)∧(i:Int)<(l.length:Int)∧(i*1)<(l.map intP).length,(decide ((i:Int)<(l.length:Int)))=true]) (by kernel_rfl) (gc (q_not h2) (gc (FMM.fc (ids:=[0]) (all91N_ok x100) (by kernel_rfl)) (gc (at_map (i:=i) h1) (gc (ix_map (i:=(i:Int)) (Int.natCast_nonneg _) h1) (gc (q_lt h0) gn)))))
theorem all91I_L0_p1{l:List Int}{i:Nat}{x100:Int}{i':Nat}(h0:(i:Int)<(l.length:Int))(h1:l[i]? = some x100)(h2:(within x100 0 30)=true)(h3:inR (((i+1):Nat):Int))(ei':i'=(i+1)):CodeOK Tryz.prog 1 (sub (cd Tryz.f135) [1,0,1,0,0]) (all91I_S0 l i) .normal (all91I_S0 l i'):=by
  subst ei'
  exact CodeOK.fin (g:=⟨(rng [(2,5),(9,10)]),[],[],[]⟩) (o:=[.b true,.x (intP x100),.c (.p (blP (!(within x100 0 30)))) [(0,(.box 98 [(.fn 91 [] [])]))],.b false]) (l:=[inR (((i+1):Nat):Int),(!(within x100 0 30))=false,FC Tryz.prog 141 [(.p (intP x100)),(.ptr 0 0)] [(0,(.box 98 [(.fn 91 [] [])]))] 1 (.p (blP (!(within x100 0 30)))) [(0,(.box 98 [(.fn 91 [] [])]))],(l.map intP)[(i*1)]? = some (intP x100),0≤(i:Int)∧(i:Int)<(l.length:Int)∧(i*1)<(l.map intP).length,(decide ((i:Int)<(l.length:Int)))=true]) (by kernel_rfl) (gc h3 (gc (q_notF h2) (gc (FMM.fc (ids:=[0]) (all91N_ok x100) (by kernel_rfl)) (gc (at_map (i:=i) h1) (gc (ix_map (i:=(i:Int)) (Int.natCast_nonneg _) h1) (gc (q_lt h0) gn))))))
theorem all91I_L0_p2{l:List Int}{i:Nat}(h0:(l.length:Int)≤(i:Int)):CodeOK Tryz.prog 1 (sub (cd Tryz.f135) [1,0,1,0,0]) (all91I_S0 l i) (.exit 0) (all91I_S0 l i):=by
  exact CodeOK.fin (g:=⟨(rng [(2,5),(9,10)]),[],[],[]⟩) (o:=[.b false]) (l:=[(decide ((i:Int)<(l.length:Int)))=false]) (by kernel_rfl) (gc (q_ltF h0) gn)
theorem all91I_ok(l:List Int)(hl:small l.length):FMM Tryz.prog 135 [.p (intsP l),(.fn 141 [] [(.ptr 0 0)])] [some (.box 98 [(.fn 91 [] [])])] (.p (intP (idxF (fun x => !(within x 0 30)) l))) [some (.box 98 [(.fn 91 [] [])])]:=by
  rcases LoopOK.find (P:=Tryz.prog) (k:=1) (b:=sub (cd Tryz.f135) [1,0,1,0,0]) (fun i=>all91I_S0 l i) (fun i _=>setS (all91I_S0 l i) [(4,.p (intP (i:Int)))]) (all91I_S0 l l.length) .ret (.exit 0) (by simp) (by simp) (fun x => !(within x 0 30)) l
    (fun i x hx hp=>all91I_L0_p1 (by have:=lt_of_at hx;omega) hx (by simpa using hp) (inR_nat (by have:=lt_of_at hx;omega)) rfl)
    (fun i x hx hp=>all91I_L0_p0 (by have:=lt_of_at hx;omega) hx (by simpa using hp))
    (all91I_L0_p2 (l:=l) (i:=l.length) (by omega)) with ⟨i,x,h1,h2,h3,h4⟩ | ⟨h1,h2,h3⟩
  · rw [idxF_some h2];exact all91I_p1 h4
  · rw [idxF_none h1];exact all91I_p0 h3
theorem all91C_p0{l:List Int}{r0:Bool}(h0:small l.length)(er0:r0=(decide ((idxF (fun x => !(within x 0 30)) l) ≥ (0:Int)))):FMM Tryz.prog 68 [(.p (intsP l)),(.fn 141 [] [(.ptr 0 0)])] [some (.box 98 [(.fn 91 [] [])])] (.p (blP r0)) [some (.box 98 [(.fn 91 [] [])])]:=by
  subst er0
  exact FMM.fin (k:=1) (g:=⟨[],[],[],[]⟩) rfl Tryz.func68 rfl (o:=[.c (.p (intP (idxF (fun x => !(within x 0 30)) l))) [(0,(.box 98 [(.fn 91 [] [])]))]]) (l:=[FC Tryz.prog 135 [(.p (intsP l)),(.fn 141 [] [(.ptr 0 0)])] [(0,(.box 98 [(.fn 91 [] [])]))] 1 (.p (intP (idxF (fun x => !(within x 0 30)) l))) [(0,(.box 98 [(.fn 91 [] [])]))]]) (by kernel_rfl) (gc (FMM.fc (ids:=[0]) (all91I_ok l h0) (by kernel_rfl)) gn)
theorem all91C_ok(l:List Int)(hl:small l.length):FMM Tryz.prog 68 [.p (intsP l),(.fn 141 [] [(.ptr 0 0)])] [some (.box 98 [(.fn 91 [] [])])] (.p (blP (l.any fun x => !(within x 0 30)))) [some (.box 98 [(.fn 91 [] [])])]:=all91C_p0 hl (idxF_any _ _).symm
theorem all91_p0{l:List Int}{r0:Bool}(h0:small l.length)(er0:r0=(!(l.any fun x => !(within x 0 30)))){base:Nat}:FV Tryz.prog 90 [(.p (intsP l)),(.fn 91 [] [])] base (.p (blP r0)) []:=by
  subst er0
  exact FV.fin Tryz.func90 rfl (o:=[.c (.p (blP (l.any fun x => !(within x 0 30)))) [(0,(.box 98 [(.fn 91 [] [])]))]]) (l:=[FC Tryz.prog 68 [(.p (intsP l)),(.fn 141 [] [(.ptr 0 0)])] [(0,(.box 98 [(.fn 91 [] [])]))] 1 (.p (blP (l.any fun x => !(within x 0 30)))) [(0,(.box 98 [(.fn 91 [] [])]))]]) (by kernel_rfl) (gc (FMM.fc (ids:=[0]) (all91C_ok l h0) (by kernel_rfl)) gn)
theorem all91_ok(l:List Int)(hl:small l.length){base:Nat}:FV Tryz.prog 90 [.p (intsP l),(.fn 91 [] [])] base (.p (blP (l.all fun x=>within x 0 30))) []:=all91_p0 hl (by rw [List.all_eq_not_any_not])
theorem all92N_p0{x:Int}{r0:Bool}(er0:r0=(!(within x 0 20))):FMM Tryz.prog 141 [(.p (intP x)),(.ptr 0 0)] [some (.box 98 [(.fn 92 [] [])])] (.p (blP r0)) [some (.box 98 [(.fn 92 [] [])])]:=by
  subst er0
  exact FMM.fin (k:=1) (g:=⟨[],[],[],[]⟩) rfl Tryz.func141 rfl (o:=[.c (.p (blP (within x 0 20))) []]) (l:=[FC Tryz.prog 92 [(.p (intP x))] [] 1 (.p (blP (within x 0 20))) []]) (by kernel_rfl) (gc (FV.fc (t92_ok x) rfl) gn)
theorem all92N_ok(x:Int)  : FMM Tryz.prog 141 [(.p (intP x)),.ptr 0 0] [some (.box 98 [(.fn 92 [] [])])] (.p (blP (!(within x 0 20)))) [some (.box 98 [(.fn 92 [] [])])]:=all92N_p0 rfl
def all92I_S0(l:List Int)(i:Nat):St:=⟨fr 19 [(0,(.p (intsP l))),(1,(.fn 141 [] [(.ptr 0 0)])),(7,(.p (intP (l.length:Int)))),(8,(.p (intP (i:Int))))],[some (.box 98 [(.fn 92 [] [])])]⟩
theorem all92I_p0{l:List Int}{i'0:Nat}(hl0:LoopOK Tryz.prog 1 (sub (cd Tryz.f135) [1,0,1,0,0]) (all92I_S0 l 0) (.exit 0) (all92I_S0 l i'0)):FMM Tryz.prog 135 [(.p (intsP l)),(.fn 141 [] [(.ptr 0 0)])] [some (.box 98 [(.fn 92 [] [])])] (.p (intP (-1:Int))) [some (.box 98 [(.fn 92 [] [])])]:=by
  exact FMM.fin (k:=1) (g:=⟨[],[],[],[]⟩) rfl Tryz.func135 rfl (o:=[.k 6 ⟨(rng [(2,5),(9,10)]),[],[],[]⟩ (.exit 0) (all92I_S0 l i'0)]) (l:=[CodeOK Tryz.prog 1 (.loop (sub (cd Tryz.f135) [1,0,1,0,0])) (all92I_S0 l 0) (.exit 0) (all92I_S0 l i'0)]) (by kernel_rfl) (gc hl0.code gn)
theorem all92I_p1{l:List Int}{i'0:Nat}(hl0:LoopOK Tryz.prog 1 (sub (cd Tryz.f135) [1,0,1,0,0]) (all92I_S0 l 0) .ret (setS (all92I_S0 l i'0) [(4,(.p (intP (i'0:Int))))])):FMM Tryz.prog 135 [(.p (intsP l)),(.fn 141 [] [(.ptr 0 0)])] [some (.box 98 [(.fn 92 [] [])])] (.p (intP (i'0:Int))) [some (.box 98 [(.fn 92 [] [])])]:=by
  exact FMM.fin (k:=1) (g:=⟨[],[],[],[]⟩) rfl Tryz.func135 rfl (o:=[.k 6 ⟨(rng [(2,5),(9,10)]),[],[],[]⟩ .ret (setS (all92I_S0 l i'0) [(4,(.p (intP (i'0:Int))))])]) (l:=[CodeOK Tryz.prog 1 (.loop (sub (cd Tryz.f135) [1,0,1,0,0])) (all92I_S0 l 0) .ret (setS (all92I_S0 l i'0) [(4,(.p (intP (i'0:Int))))])]) (by kernel_rfl) (gc hl0.code gn)
theorem all92I_L0_p0{l:List Int}{i:Nat}{x100:Int}(h0:(i:Int)<(l.length:Int))(h1:l[i]? = some x100)(h2:(within x100 0 20)=false):CodeOK Tryz.prog 1 (sub (cd Tryz.f135) [1,0,1,0,0]) (all92I_S0 l i) .ret (setS (all92I_S0 l i) [(4,(.p (intP (i:Int))))]):=by
  exact CodeOK.fin (g:=⟨(rng [(2,2),(5,2),(9,10)]),[],[],[]⟩) (o:=[.b true,.x (intP x100),.c (.p (blP (!(within x100 0 20)))) [(0,(.box 98 [(.fn 92 [] [])]))],.b true]) (l:=[(!(within x100 0 20))=true,FC Tryz.prog 141 [(.p (intP x100)),(.ptr 0 0)] [(0,(.box 98 [(.fn 92 [] [])]))] 1 (.p (blP (!(within x100 0 20)))) [(0,(.box 98 [(.fn 92 [] [])]))],(l.map intP)[(i*1)]? = some (intP x100),0≤(i:Int)∧(i:Int)<(l.length:Int)∧(i*1)<(l.map intP).length,(decide ((i:Int)<(l.length:Int)))=true]) (by kernel_rfl) (gc (q_not h2) (gc (FMM.fc (ids:=[0]) (all92N_ok x100) (by kernel_rfl)) (gc (at_map (i:=i) h1) (gc (ix_map (i:=(i:Int)) (Int.natCast_nonneg _) h1) (gc (q_lt h0) gn)))))
theorem all92I_L0_p1{l:List Int}{i:Nat}{x100:Int}{i':Nat}(h0:(i:Int)<(l.length:Int))(h1:l[i]? = some x100)(h2:(within x100 0 20)=true)(h3:inR (((i+1):Nat):Int))(ei':i'=(i+1)):CodeOK Tryz.prog 1 (sub (cd Tryz.f135) [1,0,1,0,0]) (all92I_S0 l i) .normal (all92I_S0 l i'):=by
  subst ei'
  exact CodeOK.fin (g:=⟨(rng [(2,5),(9,10)]),[],[],[]⟩) (o:=[.b true,.x (intP x100),.c (.p (blP (!(within x100 0 20)))) [(0,(.box 98 [(.fn 92 [] [])]))],.b false]) (l:=[inR (((i+1):Nat):Int),(!(within x100 0 20))=false,FC Tryz.prog 141 [(.p (intP x100)),(.ptr 0 0)] [(0,(.box 98 [(.fn 92 [] [])]))] 1 (.p (blP (!(within x100 0 20)))) [(0,(.box 98 [(.fn 92 [] [])]))],(l.map intP)[(i*1)]? = some (intP x100),0≤(i:Int)∧(i:Int)<(l.length:Int)∧(i*1)<(l.map intP).length,(decide ((i:Int)<(l.length:Int)))=true]) (by kernel_rfl) (gc h3 (gc (q_notF h2) (gc (FMM.fc (ids:=[0]) (all92N_ok x100) (by kernel_rfl)) (gc (at_map (i:=i) h1) (gc (ix_map (i:=(i:Int)) (Int.natCast_nonneg _) h1) (gc (q_lt h0) gn))))))
theorem all92I_L0_p2{l:List Int}{i:Nat}(h0:(l.length:Int)≤(i:Int)):CodeOK Tryz.prog 1 (sub (cd Tryz.f135) [1,0,1,0,0]) (all92I_S0 l i) (.exit 0) (all92I_S0 l i):=by
  exact CodeOK.fin (g:=⟨(rng [(2,5),(9,10)]),[],[],[]⟩) (o:=[.b false]) (l:=[(decide ((i:Int)<(l.length:Int)))=false]) (by kernel_rfl) (gc (q_ltF h0) gn)
theorem all92I_ok(l:List Int)(hl:small l.length):FMM Tryz.prog 135 [.p (intsP l),(.fn 141 [] [(.ptr 0 0)])] [some (.box 98 [(.fn 92 [] [])])] (.p (intP (idxF (fun x => !(within x 0 20)) l))) [some (.box 98 [(.fn 92 [] [])])]:=by
  rcases LoopOK.find (P:=Tryz.prog) (k:=1) (b:=sub (cd Tryz.f135) [1,0,1,0,0]) (fun i=>all92I_S0 l i) (fun i _=>setS (all92I_S0 l i) [(4,.p (intP (i:Int)))]) (all92I_S0 l l.length) .ret (.exit 0) (by simp) (by simp) (fun x => !(within x 0 20)) l
    (fun i x hx hp=>all92I_L0_p1 (by have:=lt_of_at hx;omega) hx (by simpa using hp) (inR_nat (by have:=lt_of_at hx;omega)) rfl)
    (fun i x hx hp=>all92I_L0_p0 (by have:=lt_of_at hx;omega) hx (by simpa using hp))
    (all92I_L0_p2 (l:=l) (i:=l.length) (by omega)) with ⟨i,x,h1,h2,h3,h4⟩ | ⟨h1,h2,h3⟩
  · rw [idxF_some h2];exact all92I_p1 h4
  · rw [idxF_none h1];exact all92I_p0 h3
theorem all92C_p0{l:List Int}{r0:Bool}(h0:small l.length)(er0:r0=(decide ((idxF (fun x => !(within x 0 20)) l) ≥ (0:Int)))):FMM Tryz.prog 68 [(.p (intsP l)),(.fn 141 [] [(.ptr 0 0)])] [some (.box 98 [(.fn 92 [] [])])] (.p (blP r0)) [some (.box 98 [(.fn 92 [] [])])]:=by
  subst er0
  exact FMM.fin (k:=1) (g:=⟨[],[],[],[]⟩) rfl Tryz.func68 rfl (o:=[.c (.p (intP (idxF (fun x => !(within x 0 20)) l))) [(0,(.box 98 [(.fn 92 [] [])]))]]) (l:=[FC Tryz.prog 135 [(.p (intsP l)),(.fn 141 [] [(.ptr 0 0)])] [(0,(.box 98 [(.fn 92 [] [])]))] 1 (.p (intP (idxF (fun x => !(within x 0 20)) l))) [(0,(.box 98 [(.fn 92 [] [])]))]]) (by kernel_rfl) (gc (FMM.fc (ids:=[0]) (all92I_ok l h0) (by kernel_rfl)) gn)
theorem all92C_ok(l:List Int)(hl:small l.length):FMM Tryz.prog 68 [.p (intsP l),(.fn 141 [] [(.ptr 0 0)])] [some (.box 98 [(.fn 92 [] [])])] (.p (blP (l.any fun x => !(within x 0 20)))) [some (.box 98 [(.fn 92 [] [])])]:=all92C_p0 hl (idxF_any _ _).symm
theorem all92_p0{l:List Int}{r0:Bool}(h0:small l.length)(er0:r0=(!(l.any fun x => !(within x 0 20)))){base:Nat}:FV Tryz.prog 90 [(.p (intsP l)),(.fn 92 [] [])] base (.p (blP r0)) []:=by
  subst er0
  exact FV.fin Tryz.func90 rfl (o:=[.c (.p (blP (l.any fun x => !(within x 0 20)))) [(0,(.box 98 [(.fn 92 [] [])]))]]) (l:=[FC Tryz.prog 68 [(.p (intsP l)),(.fn 141 [] [(.ptr 0 0)])] [(0,(.box 98 [(.fn 92 [] [])]))] 1 (.p (blP (l.any fun x => !(within x 0 20)))) [(0,(.box 98 [(.fn 92 [] [])]))]]) (by kernel_rfl) (gc (FMM.fc (ids:=[0]) (all92C_ok l h0) (by kernel_rfl)) gn)
theorem all92_ok(l:List Int)(hl:small l.length){base:Nat}:FV Tryz.prog 90 [.p (intsP l),(.fn 92 [] [])] base (.p (blP (l.all fun x=>within x 0 20))) []:=all92_p0 hl (by rw [List.all_eq_not_any_not])
end
section
open KL
noncomputable abbrev zK3c0:Code:=sub (cd Tryz.f110) [1,1,0,1,0,0]
noncomputable abbrev zK3c1:Code:=sub (cd Tryz.f115) [1,1,1,1,1,1,0,1,0,0]
def with_S0(c:Cup)(fs:List (List Int))(i:Nat)(Ln:Nat)(Lc:List PV):St:=⟨fr 56 [(4,(.ptr 0 0)),(5,(.ptr 1 0)),(40,(.own 3)),(41,(.p (intP (((c.done.length+fs.length):Nat):Int)))),(42,(.p (intP (i:Int))))],[some (.box 120 [(.p (intP 0)),(.p (intP 0)),(.p (intP 0)),(.p nilS),(.p nilS)]),some (.box 25 [(.p (intP c.sk)),(.p (intP c.ra)),(.p (intP c.be)),(.own 2),(.own 3)]),some (.row 3 c.pts.length (c.pts.map intP)),some (.row 22 Ln Lc)]⟩
theorem with_p0{c:Cup}{fs:List (List Int)}{i'0:Nat}{L'1:List (List Int)}(h0:c.pts.length≤1000)(h1:inR (((c.done.length+fs.length):Nat):Int))(h2:0≤(c.done.length:Int)∧(c.done.length:Int)≤(((c.done.length+fs.length):Nat):Int)∧(((c.done.length+fs.length):Nat):Int)≤1000000)(h3:(fs.map intsP).length=fs.length*1∧c.done.length+fs.length≤1000000)(hl4:LoopOK Tryz.prog 0 zK3c1 (with_S0 c fs 0 (c.done.length+fs.length) ((c.done.map intsP)++(fs.map intsP))) (.exit 0) (with_S0 c fs i'0 L'1.length (L'1.map intsP))){base:Nat}:FV Tryz.prog 115 [(.p (cupP c)),(.p (rowsP fs))] base (.p (.agg [(intP c.sk),(intP c.ra),(intP c.be),(intsP c.pts),(rowsP L'1)])) []:=by
  exact FV.fin Tryz.func115 rfl (o:=[.c (.own 3) [(3,(.row 3 c.pts.length (c.pts.map intP)))],.k 10 ⟨(rng [(0,4),(6,34),(43,11)]),[1,2,3,5],[],[]⟩ (.exit 0) (with_S0 c fs i'0 L'1.length (L'1.map intsP))]) (l:=[_,_,(c.done.map intsP).length=c.done.length∧c.done.length=c.done.length,_,_,_]) (by kernel_rfl) (gc hl4.code (gc h3 (gc (by simp) (gc h2 (gc h1 (gc (fk 3 (cloneI_ok c.pts h0) rfl) gn))))))
theorem with_L0_p0{c:Cup}{fs:List (List Int)}{i:Nat}{L:List (List Int)}{x100:List Int}{i':Nat}{L':List (List Int)}(h0:(i:Int)<(((c.done.length+fs.length):Nat):Int))(h1:L[i]? = some x100)(h2:x100.length≤1000)(h3:(i*1)<(L.map intsP).length)(h4:inR (((i+1):Nat):Int))(ei':i'=(i+1))(eL'n:L'.length=L.length)(eL'c:L'.map intsP=((L.map intsP).set (i*1) (intsP x100))):CodeOK Tryz.prog 0 zK3c1 (with_S0 c fs i L.length (L.map intsP)) .normal (with_S0 c fs i' L'.length (L'.map intsP)):=by
  subst ei'
  have raw:CodeOK Tryz.prog 0 zK3c1 (with_S0 c fs i L.length (L.map intsP)) .normal (with_S0 c fs (i+1) L.length ((L.map intsP).set (i*1) (intsP x100))):=CodeOK.fin (g:=⟨(rng [(0,4),(6,34),(43,11)]),[0,1,2,3],[],[]⟩) (o:=[bT,.x (intsP x100),.c (.own 4) [(4,(.row 3 x100.length (x100.map intP)))]]) (l:=[_,_,_,_,_,_,_]) (by kernel_rfl) (gc h4 (gc h3 (gc (ix_own (i:=(i:Int)) (Int.natCast_nonneg _) h1) (gc (fk 4 (cloneI_ok x100 h2) rfl) (gc (atm intsP h1) (gc (ix_own (i:=(i:Int)) (Int.natCast_nonneg _) h1) (gc (q_lt h0) gn)))))))
  exact raw.cast (by rw [eL'n,eL'c])
theorem with_L0_p1{c:Cup}{fs:List (List Int)}{i:Nat}{L:List (List Int)}(h0:(((c.done.length+fs.length):Nat):Int)≤(i:Int)):CodeOK Tryz.prog 0 zK3c1 (with_S0 c fs i L.length (L.map intsP)) (.exit 0) (with_S0 c fs i L.length (L.map intsP)):=by
  exact CodeOK.fin (g:=⟨(rng [(0,4),(6,34),(43,11)]),[0,1,2,3],[],[]⟩) (o:=[bF]) (l:=[_]) (by kernel_rfl) (gc (q_ltF h0) gn)
theorem with_ok(c:Cup)(fs:List (List Int))(hpl:c.pts.length≤1000)(hdl:c.done.length+fs.length≤1000)(hrl:∀ r∈c.done++fs,r.length≤1000){base:Nat} :
    FV Tryz.prog 115 [.p (cupP c),.p (rowsP fs)] base (.p (cupP (withC c fs))) []:=by
  have h:=LoopOK.range (P:=Tryz.prog) (k:=0) (b:=zK3c1) (e := .exit 0) (fun i (_:Unit)=>with_S0 c fs i (c.done++fs).length ((c.done++fs).map intsP)) (fun _=>with_S0 c fs (c.done++fs).length (c.done++fs).length ((c.done++fs).map intsP)) (fun a _=>a) (fun _ _=>True) (by simp) (c.done++fs) (a0:=()) trivial
    (fun i x _ hx _=>⟨trivial,with_L0_p0 (by have:=lt_of_at hx;rw [List.length_append] at this;omega) hx (hrl x (List.mem_of_getElem? hx)) (by have:=lt_of_at hx;simpa using this) (inR_nat (by have:=lt_of_at hx;rw [List.length_append] at this;omega)) rfl rfl (by
      apply List.ext_getElem?
      intro j
      rw [List.getElem?_set,Nat.mul_one]
      split
      · rename_i e;subst e
        have:=lt_of_at hx
        rw [List.getElem?_map,hx,if_pos (by simpa using this)];rfl
      · rfl)⟩)
    (fun _ _=>with_L0_p1 (L:=c.done++fs) (by rw [List.length_append];omega))
  refine with_p0 (L'1:=c.done++fs) (i'0:=(c.done++fs).length) hpl (inR_nat (by omega)) (by omega) (by simp;omega) ?_
  simpa using h
theorem asked_p0{c:Cup}{r0:Int}(h0:KL.Small c)(er0:r0=(checkP c)){base:Nat}:FV Tryz.prog 88 [(.p (cupP c))] base (.tup [(.p (cupP c)),(.p (intP r0))]) []:=by
  subst er0
  exact FV.fin Tryz.func88 rfl (o:=[.c (.p (intP (checkP c))) []]) (l:=[_]) (by kernel_rfl) (gc (fk 2 (check_ok c h0) rfl) gn)
theorem asked_ok(c:Cup)(hS:KL.Small c){base:Nat}:FV Tryz.prog 88 [.p (cupP c)] base (.tup [.p (cupP c),.p (intP (checkP c))]) []:=asked_p0 hS rfl
theorem named_p0{c:Cup}{k:Int}(h0:KL.Small c)(h1:(checkP c)=(0:Int))(h2:inR (c.sk-(1:Int)))(h3:(within k (0:Int) (c.sk-(1:Int)))=false){base:Nat}:FV Tryz.prog 107 [(.p (cupP c)),(.p (intP k))] base (.tup [(.p (cupP c)),(.p (intP 1))]) []:=by
  exact FV.fin Tryz.func107 rfl (o:=[.c (.tup [(.p (cupP c)),(.p (intP (checkP c)))]) [],bT,bT,bT,bT,bT,.c (.p (blP (within k (0:Int) (c.sk-(1:Int))))) [],bT,bT,bT]) (l:=[_,_,_,_,_,_,_,_,_,_,_]) (by kernel_rfl) (gc (q_not h3) (gc (q_eq h1) (gc (q_eq h1) (gc (fk 3 (within_ok k (0:Int) (c.sk-(1:Int))) rfl) (gc (q_eq h1) (gc h2 (gc (q_eq h1) (gc (q_eq h1) (gc (q_eq h1) (gc (q_eq h1) (gc (fk 2 (asked_ok c h0) rfl) gn)))))))))))
theorem named_p1{c:Cup}{k r0:Int}(h0:KL.Small c)(h1:(checkP c)=(0:Int))(h2:inR (c.sk-(1:Int)))(h3:(within k (0:Int) (c.sk-(1:Int)))=true)(er0:r0=(checkP c)){base:Nat}:FV Tryz.prog 107 [(.p (cupP c)),(.p (intP k))] base (.tup [(.p (cupP c)),(.p (intP r0))]) []:=by
  subst er0
  exact FV.fin Tryz.func107 rfl (o:=[.c (.tup [(.p (cupP c)),(.p (intP (checkP c)))]) [],bT,bT,bT,bT,bT,.c (.p (blP (within k (0:Int) (c.sk-(1:Int))))) [],bT,bT,bF]) (l:=[_,_,_,_,_,_,_,_,_,_,_]) (by kernel_rfl) (gc (q_notF h3) (gc (q_eq h1) (gc (q_eq h1) (gc (fk 3 (within_ok k (0:Int) (c.sk-(1:Int))) rfl) (gc (q_eq h1) (gc h2 (gc (q_eq h1) (gc (q_eq h1) (gc (q_eq h1) (gc (q_eq h1) (gc (fk 2 (asked_ok c h0) rfl) gn)))))))))))
theorem named_p2{c:Cup}{k r0:Int}(h0:KL.Small c)(h1:(checkP c)≠(0:Int))(er0:r0=(checkP c)){base:Nat}:FV Tryz.prog 107 [(.p (cupP c)),(.p (intP k))] base (.tup [(.p (cupP c)),(.p (intP r0))]) []:=by
  subst er0
  exact FV.fin Tryz.func107 rfl (o:=[.c (.tup [(.p (cupP c)),(.p (intP (checkP c)))]) [],bF,bF,bF,bF,bF,bF,bF]) (l:=[_,_,_,_,_,_,_,_]) (by kernel_rfl) (gc (q_ne h1) (gc (q_ne h1) (gc (q_ne h1) (gc (q_ne h1) (gc (q_ne h1) (gc (q_ne h1) (gc (q_ne h1) (gc (fk 2 (asked_ok c h0) rfl) gn))))))))
theorem within_iff{n lo hi:Int}:within n lo hi=true↔lo≤n∧n≤hi:=by unfold within;simp
def namedE(c:Cup)(k:Int):Int:=if checkP c≠0 then checkP c else if within k 0 (c.sk-1) then 0 else 1
theorem named_ok(c:Cup)(hS:KL.Small c)(k:Int){base:Nat}:FV Tryz.prog 107 [.p (cupP c),.p (intP k)] base (.tup [.p (cupP c),.p (intP (namedE c k))]) []:=by
  unfold namedE
  by_cases h:checkP c=0
  · have hV:=(KL.valid_iff c).1 h
    have h1:=hV.sk1
    have h2:=hV.sk2
    rw [if_neg (by simpa using h)]
    cases hw:within k 0 (c.sk-1) with
    | true=>exact named_p1 hS h (by unfold inR;omega) hw (by simp [h])
    | false=>exact named_p0 hS h (by unfold inR;omega) hw
  · rw [if_pos h];exact named_p2 hS h rfl
def whoM(p:Nat→Bool)(n:Nat):List Int:=((List.range n).filter p).map fun (s:Nat)=>(s:Int)
theorem canQ_p0{base:Nat}:FV Tryz.prog 109 [] base (.agg [(.fn 137 [] [])]) []:=by
  exact FV.fin Tryz.func109 rfl (o:=[]) (l:=[]) (by kernel_rfl) (gn)
def canA_S0(c:Cup)(i:Nat)(on:Nat)(oc:List PV):St:=⟨fr 24 [(2,(.ptr 0 0)),(3,(.ptr 1 0)),(4,(.p nilS)),(5,(.own 2)),(9,(.p (intP c.sk))),(10,(.p (intP (i:Int))))],[some (.box 144 [(.fn 137 [] [])]),some (.box 120 [(.p (intP c.sk)),(.p (intP c.ra)),(.p (intP c.be)),(.p (intsP c.pts)),(.p (rowsP c.done))]),some (.row 3 on oc)]⟩
theorem canA_p0{c:Cup}{i'0:Nat}{o'1:List Int}(hl0:LoopOK Tryz.prog 0 zK3c0 (canA_S0 c 0 0 []) (.exit 0) (canA_S0 c i'0 o'1.length (o'1.map intP))){base:Nat}:FV Tryz.prog 110 [(.agg [(.fn 137 [] [])]),(.p (cupP c))] base (.p (intsP o'1)) []:=by
  exact FV.frz (FMM.fin (k:=0) (g:=⟨[],[],[2],[]⟩) rfl Tryz.func110 rfl (o:=[.k 8 ⟨(rng [(0,2),(6,3),(11,12)]),[0,1,2],[],[(5,3)]⟩ (.exit 0) (canA_S0 c i'0 o'1.length (o'1.map intP))]) (l:=[_]) (by kernel_rfl) (gc hl0.code gn)) (by kernel_rfl)
theorem canA_L0_p0{c:Cup}{i:Nat}{o:List Int}{i':Nat}{o':List Int}(h0:(i:Int)<c.sk)(h1:KL.Valid c)(h2:((i:Nat):Int)<c.sk)(h3:(canM c i)=true)(h4:[(intP (i:Int))].length=1*1∧o.length+1≤1000000)(h5:inR (((i+1):Nat):Int))(ei':i'=(i+1))(eo'n:o'.length=(o.length+1))(eo'c:o'.map intP=((o.map intP)++[(intP (i:Int))])):CodeOK Tryz.prog 0 zK3c0 (canA_S0 c i o.length (o.map intP)) .normal (canA_S0 c i' o'.length (o'.map intP)):=by
  subst ei'
  have raw:CodeOK Tryz.prog 0 zK3c0 (canA_S0 c i o.length (o.map intP)) .normal (canA_S0 c (i+1) (o.length+1) ((o.map intP)++[(intP (i:Int))])):=CodeOK.fin (g:=⟨(rng [(0,2),(6,3),(11,12)]),[0,1,4],[],[]⟩) (o:=[bT,.c (.p (blP (canM c i))) [],bT]) (l:=[_,_,_,_,_]) (by kernel_rfl) (gc h5 (gc h4 (gc h3 (gc (fk 3 (can_ok c h1 i h2) rfl) (gc (q_lt h0) gn)))))
  exact raw.cast (by rw [eo'n,eo'c])
theorem canA_L0_p1{c:Cup}{i:Nat}{o:List Int}{i':Nat}(h0:(i:Int)<c.sk)(h1:KL.Valid c)(h2:((i:Nat):Int)<c.sk)(h3:(canM c i)=false)(h4:inR (((i+1):Nat):Int))(ei':i'=(i+1)):CodeOK Tryz.prog 0 zK3c0 (canA_S0 c i o.length (o.map intP)) .normal (canA_S0 c i' o.length (o.map intP)):=by
  subst ei'
  exact CodeOK.fin (g:=⟨(rng [(0,2),(6,3),(11,12)]),[0,1,2],[],[]⟩) (o:=[bT,.c (.p (blP (canM c i))) [],bF]) (l:=[_,_,_,_]) (by kernel_rfl) (gc h4 (gc h3 (gc (fk 3 (can_ok c h1 i h2) rfl) (gc (q_lt h0) gn))))
theorem canA_L0_p2{c:Cup}{i:Nat}{o:List Int}(h0:c.sk≤(i:Int)):CodeOK Tryz.prog 0 zK3c0 (canA_S0 c i o.length (o.map intP)) (.exit 0) (canA_S0 c i o.length (o.map intP)):=by
  exact CodeOK.fin (g:=⟨(rng [(0,2),(6,3),(11,12)]),[0,1,2],[],[]⟩) (o:=[bF]) (l:=[_]) (by kernel_rfl) (gc (q_ltF h0) gn)
theorem canA_ok(c:Cup)(hV:KL.Valid c){base:Nat}:FV Tryz.prog 110 [.agg [.fn 137 [] []],.p (cupP c)] base (.p (intsP (whoM (canM c) c.sk.toNat))) []:=by
  have h1:=hV.sk1
  have h2:=hV.sk2
  have h:=LoopOK.times (P:=Tryz.prog) (k:=0) (b:=zK3c0) (e := .exit 0) (fun i (o:List Int)=>canA_S0 c i o.length (o.map intP)) (fun o=>canA_S0 c c.sk.toNat o.length (o.map intP)) (fun acc s=>if canM c s then acc++[(s:Int)] else acc) (fun i o=>o.length≤i) (by simp) c.sk.toNat (a0:=[]) (by simp)
    (fun i o hi hI=>by
      cases hc:canM c i with
      | true=>exact ⟨by simp;omega,canA_L0_p0 (by omega) hV (by omega) hc (by simp;omega) (inR_nat (by omega)) rfl (by simp) (by simp)⟩
      | false=>exact ⟨by simp;omega,canA_L0_p1 (by omega) hV (by omega) hc (inR_nat (by omega)) rfl⟩)
    (fun o _=>canA_L0_p2 (by omega))
  rw [foldl_filter] at h
  exact canA_p0 h
theorem canE_p1{c:Cup}(h0:KL.Small c)(h1:(checkP c)=(0:Int))(h2:KL.Valid c){base:Nat}:FV Tryz.prog 37 [(.p (cupP c))] base (.tup [(.p (intsP (whoM (canM c) c.sk.toNat))),(.p (intP 0))]) []:=by
  exact FV.frz (FMM.fin (k:=0) (g:=⟨[],[],[],[]⟩) rfl Tryz.func37 rfl (o:=[.c (.tup [(.p (cupP c)),(.p (intP (checkP c)))]) [],bF,.c (.agg [(.fn 137 [] [])]) [],.c (.p (intsP (whoM (canM c) c.sk.toNat))) []]) (l:=[_,FC Tryz.prog 109 [] [] 2 (.agg [(.fn 137 [] [])]) [],_,_]) (by kernel_rfl) (gc (fk 6 (canA_ok c h2) rfl) (gc (FV.fc canQ_p0 (by kernel_rfl)) (gc (q_neF h1) (gc (fk 1 (asked_ok c h0) rfl) gn))))) (by kernel_rfl)
theorem canE_ok(c:Cup)(hV:KL.Valid c){base:Nat}:FV Tryz.prog 37 [.p (cupP c)] base (.tup [.p (intsP (whoM (canM c) c.sk.toNat)),.p (intP 0)]) []:=canE_p1 hV.small ((KL.valid_iff c).2 hV) hV
theorem sureQ_p0{base:Nat}:FV Tryz.prog 111 [] base (.agg [(.fn 149 [] [])]) []:=by
  exact FV.fin Tryz.func111 rfl (o:=[]) (l:=[]) (by kernel_rfl) (gn)
def sureA_S0(c:Cup)(i:Nat)(on:Nat)(oc:List PV):St:=⟨fr 24 [(2,(.ptr 0 0)),(3,(.ptr 1 0)),(4,(.p nilS)),(5,(.own 2)),(9,(.p (intP c.sk))),(10,(.p (intP (i:Int))))],[some (.box 144 [(.fn 149 [] [])]),some (.box 120 [(.p (intP c.sk)),(.p (intP c.ra)),(.p (intP c.be)),(.p (intsP c.pts)),(.p (rowsP c.done))]),some (.row 3 on oc)]⟩
theorem sureA_p0{c:Cup}{i'0:Nat}{o'1:List Int}(hl0:LoopOK Tryz.prog 0 zK3c0 (sureA_S0 c 0 0 []) (.exit 0) (sureA_S0 c i'0 o'1.length (o'1.map intP))){base:Nat}:FV Tryz.prog 110 [(.agg [(.fn 149 [] [])]),(.p (cupP c))] base (.p (intsP o'1)) []:=by
  exact FV.frz (FMM.fin (k:=0) (g:=⟨[],[],[2],[]⟩) rfl Tryz.func110 rfl (o:=[.k 8 ⟨(rng [(0,2),(6,3),(11,12)]),[0,1,2],[],[(5,3)]⟩ (.exit 0) (sureA_S0 c i'0 o'1.length (o'1.map intP))]) (l:=[_]) (by kernel_rfl) (gc hl0.code gn)) (by kernel_rfl)
theorem sureA_L0_p0{c:Cup}{i:Nat}{o:List Int}{i':Nat}{o':List Int}(h0:(i:Int)<c.sk)(h1:KL.Valid c)(h2:((i:Nat):Int)<c.sk)(h3:(sureM c i)=true)(h4:[(intP (i:Int))].length=1*1∧o.length+1≤1000000)(h5:inR (((i+1):Nat):Int))(ei':i'=(i+1))(eo'n:o'.length=(o.length+1))(eo'c:o'.map intP=((o.map intP)++[(intP (i:Int))])):CodeOK Tryz.prog 0 zK3c0 (sureA_S0 c i o.length (o.map intP)) .normal (sureA_S0 c i' o'.length (o'.map intP)):=by
  subst ei'
  have raw:CodeOK Tryz.prog 0 zK3c0 (sureA_S0 c i o.length (o.map intP)) .normal (sureA_S0 c (i+1) (o.length+1) ((o.map intP)++[(intP (i:Int))])):=CodeOK.fin (g:=⟨(rng [(0,2),(6,3),(11,12)]),[0,1,4],[],[]⟩) (o:=[bT,.c (.p (blP (sureM c i))) [],bT]) (l:=[_,_,_,_,_]) (by kernel_rfl) (gc h5 (gc h4 (gc h3 (gc (fk 3 (sure_ok c h1 i h2) rfl) (gc (q_lt h0) gn)))))
  exact raw.cast (by rw [eo'n,eo'c])
theorem sureA_L0_p1{c:Cup}{i:Nat}{o:List Int}{i':Nat}(h0:(i:Int)<c.sk)(h1:KL.Valid c)(h2:((i:Nat):Int)<c.sk)(h3:(sureM c i)=false)(h4:inR (((i+1):Nat):Int))(ei':i'=(i+1)):CodeOK Tryz.prog 0 zK3c0 (sureA_S0 c i o.length (o.map intP)) .normal (sureA_S0 c i' o.length (o.map intP)):=by
  subst ei'
  exact CodeOK.fin (g:=⟨(rng [(0,2),(6,3),(11,12)]),[0,1,2],[],[]⟩) (o:=[bT,.c (.p (blP (sureM c i))) [],bF]) (l:=[_,_,_,_]) (by kernel_rfl) (gc h4 (gc h3 (gc (fk 3 (sure_ok c h1 i h2) rfl) (gc (q_lt h0) gn))))
theorem sureA_L0_p2{c:Cup}{i:Nat}{o:List Int}(h0:c.sk≤(i:Int)):CodeOK Tryz.prog 0 zK3c0 (sureA_S0 c i o.length (o.map intP)) (.exit 0) (sureA_S0 c i o.length (o.map intP)):=by
  exact CodeOK.fin (g:=⟨(rng [(0,2),(6,3),(11,12)]),[0,1,2],[],[]⟩) (o:=[bF]) (l:=[_]) (by kernel_rfl) (gc (q_ltF h0) gn)
theorem sureA_ok(c:Cup)(hV:KL.Valid c){base:Nat}:FV Tryz.prog 110 [.agg [.fn 149 [] []],.p (cupP c)] base (.p (intsP (whoM (sureM c) c.sk.toNat))) []:=by
  have h1:=hV.sk1
  have h2:=hV.sk2
  have h:=LoopOK.times (P:=Tryz.prog) (k:=0) (b:=zK3c0) (e := .exit 0) (fun i (o:List Int)=>sureA_S0 c i o.length (o.map intP)) (fun o=>sureA_S0 c c.sk.toNat o.length (o.map intP)) (fun acc s=>if sureM c s then acc++[(s:Int)] else acc) (fun i o=>o.length≤i) (by simp) c.sk.toNat (a0:=[]) (by simp)
    (fun i o hi hI=>by
      cases hc:sureM c i with
      | true=>exact ⟨by simp;omega,sureA_L0_p0 (by omega) hV (by omega) hc (by simp;omega) (inR_nat (by omega)) rfl (by simp) (by simp)⟩
      | false=>exact ⟨by simp;omega,sureA_L0_p1 (by omega) hV (by omega) hc (inR_nat (by omega)) rfl⟩)
    (fun o _=>sureA_L0_p2 (by omega))
  rw [foldl_filter] at h
  exact sureA_p0 h
theorem sureE_p1{c:Cup}(h0:KL.Small c)(h1:(checkP c)=(0:Int))(h2:KL.Valid c){base:Nat}:FV Tryz.prog 38 [(.p (cupP c))] base (.tup [(.p (intsP (whoM (sureM c) c.sk.toNat))),(.p (intP 0))]) []:=by
  exact FV.frz (FMM.fin (k:=0) (g:=⟨[],[],[],[]⟩) rfl Tryz.func38 rfl (o:=[.c (.tup [(.p (cupP c)),(.p (intP (checkP c)))]) [],bF,.c (.agg [(.fn 149 [] [])]) [],.c (.p (intsP (whoM (sureM c) c.sk.toNat))) []]) (l:=[_,FC Tryz.prog 111 [] [] 2 (.agg [(.fn 149 [] [])]) [],_,_]) (by kernel_rfl) (gc (fk 6 (sureA_ok c h2) rfl) (gc (FV.fc sureQ_p0 (by kernel_rfl)) (gc (q_neF h1) (gc (fk 1 (asked_ok c h0) rfl) gn))))) (by kernel_rfl)
theorem sureE_ok(c:Cup)(hV:KL.Valid c){base:Nat}:FV Tryz.prog 38 [.p (cupP c)] base (.tup [.p (intsP (whoM (sureM c) c.sk.toNat)),.p (intP 0)]) []:=sureE_p1 hV.small ((KL.valid_iff c).2 hV) hV
end
section
open KL
noncomputable abbrev zK4c0:Code:=sub (cd Tryz.f185) [1,0,0,1,0,0,1,0,0]
noncomputable abbrev zK4c1:Code:=sub (cd Tryz.f200) [1,0,0,1,0,0,1,0,0]
noncomputable abbrev zK4c2:Code:=sub (cd Tryz.f183) [1,0,0,1,0,0,1,0,0]
noncomputable abbrev zK4c3:Code:=sub (cd Tryz.f185) [1,0,0]
noncomputable abbrev zK4c4:Code:=sub (cd Tryz.f200) [1,0,0]
noncomputable abbrev zK4c5:Code:=sub (cd Tryz.f183) [1,0,0]
theorem zK4q0:inR (1:Int):=by unfold inR;omega
def ltK(f:Nat)(x y:List Int):Bool:=decide (cmpI (x.getD f 0) (y.getD f 0)<0)
theorem srtLc_p0{a0 a1 a2 a3 b0 b1 b2 b3 r0:Int}(er0:r0=(cmpI a1 b1)){base:Nat}:FV Tryz.prog 106 [(.p (.agg [(intP a0),(intP a1),(intP a2),(intP a3)])),(.p (.agg [(intP b0),(intP b1),(intP b2),(intP b3)]))] base (.p (intP r0)) []:=by
  subst er0
  exact FV.fin Tryz.func106 rfl (o:=[.c (.p (intP (cmpI a1 b1))) []]) (l:=[_]) (by kernel_rfl) (gc (fk 2 (cmp_ok a1 b1) rfl) gn)
def srtLI_S0(l:List (List Int))(i:Nat)(Ln:Nat)(Lc:List PV):St:=⟨fr 53 [(0,(.own 0)),(1,(.p (intP 0))),(2,(.p (intP (l.length:Int)))),(3,(.fn 106 [] [])),(8,(.p (intP (i:Int))))],[some (.row 61 Ln Lc)]⟩
theorem srtLI_p0{l:List (List Int)}{i'0:Nat}{L'1:List (List Int)}(hl0:LoopOK Tryz.prog 1 zK4c3 (srtLI_S0 l 1 l.length (l.flatten.map intP)) (.exit 0) (srtLI_S0 l i'0 L'1.length (L'1.flatten.map intP))):FMM Tryz.prog 185 [(.own 0),(.p (intP 0)),(.p (intP (l.length:Int))),(.fn 106 [] [])] [some (.row 61 l.length (l.flatten.map intP))] (.tup []) [some (.row 61 L'1.length (L'1.flatten.map intP))]:=by
  exact FMM.fin (k:=1) (g:=⟨[],[],[],[]⟩) rfl Tryz.func185 rfl (o:=[.k 3 ⟨(rng [(4,4),(9,44)]),[],[],[]⟩ (.exit 0) (srtLI_S0 l i'0 L'1.length (L'1.flatten.map intP))]) (l:=[_,_]) (by kernel_rfl) (gc hl0.code (gc zK4q0 gn))
def srtLI_S1(l:List (List Int))(i:Nat)(j:Int)(Mn:Nat)(Mc:List PV):St:=⟨fr 53 [(0,(.own 0)),(1,(.p (intP 0))),(2,(.p (intP (l.length:Int)))),(3,(.fn 106 [] [])),(8,(.p (intP (i:Int)))),(9,(.p (intP j))),(12,(.p (intP (i:Int)))),(13,(.p (intP (l.length:Int)))),(14,(.p (blP (decide ((i:Int)<(l.length:Int)))))),(17,(.p (intP (i:Int))))],[some (.row 61 Mn Mc)]⟩
theorem srtLI_L0_p0{l:List (List Int)}{i:Nat}{L:List (List Int)}{j'100:Int}{M'101:List (List Int)}{i':Nat}{L':List (List Int)}(h0:(i:Int)<(l.length:Int))(hl1:LoopOK Tryz.prog 1 zK4c0 (srtLI_S1 l i (i:Int) L.length (L.flatten.map intP)) (.exit 2) (srtLI_S1 l i j'100 M'101.length (M'101.flatten.map intP)))(h2:inR (((i+1):Nat):Int))(ei':i'=(i+1))(eL'n:L'.length=M'101.length)(eL'c:L'.flatten.map intP=(M'101.flatten.map intP)):CodeOK Tryz.prog 1 zK4c3 (srtLI_S0 l i L.length (L.flatten.map intP)) .normal (srtLI_S0 l i' L'.length (L'.flatten.map intP)):=by
  subst ei'
  have raw:CodeOK Tryz.prog 1 zK4c3 (srtLI_S0 l i L.length (L.flatten.map intP)) .normal (srtLI_S0 l (i+1) M'101.length (M'101.flatten.map intP)):=CodeOK.fin (g:=⟨(rng [(4,4),(9,44)]),[],[],[]⟩) (o:=[bT,.k 5 ⟨(rng [(4,4),(10,2),(18,35)]),[],[],[]⟩ (.exit 2) (srtLI_S1 l i j'100 M'101.length (M'101.flatten.map intP))]) (l:=[_,_,_]) (by kernel_rfl) (gc h2 (gc hl1.code (gc (q_lt h0) gn)))
  exact raw.cast (by rw [eL'n,eL'c])
theorem srtLI_L0_p1{l:List (List Int)}{i:Nat}{L:List (List Int)}(h0:(l.length:Int)≤(i:Int)):CodeOK Tryz.prog 1 zK4c3 (srtLI_S0 l i L.length (L.flatten.map intP)) (.exit 0) (srtLI_S0 l i L.length (L.flatten.map intP)):=by
  exact CodeOK.fin (g:=⟨(rng [(4,4),(9,44)]),[],[],[]⟩) (o:=[bF]) (l:=[_]) (by kernel_rfl) (gc (q_ltF h0) gn)
theorem srtLI_L1_p0{l:List (List Int)}{i:Nat}{j:Int}{M:List (List Int)}{y200 y201 y202 y203 y204 y205 y206 y207 j':Int}{M':List (List Int)}(h0:(0:Int)<j)(h1:M[j.toNat]? = some [y200,y201,y202,y203])(h2:0≤j)(h3:uni 4 M)(h4:inR (j-(1:Int)))(h5:M[(j-(1:Int)).toNat]? = some [y204,y205,y206,y207])(h6:0≤(j-(1:Int)))(h7:(cmpI y201 y205)<(0:Int))(h8:[(intP y204),(intP y205),(intP y206),(intP y207)].length=4∧(j.toNat*4)+4≤(M.flatten.map intP).length)(h9:0≤(j-(1:Int))∧(j-(1:Int))<(M.length:Int))(h10:[(intP y200),(intP y201),(intP y202),(intP y203)].length=4∧((j-(1:Int)).toNat*4)+4≤((M.flatten.map intP).take (j.toNat*4)++[(intP y204),(intP y205),(intP y206),(intP y207)]++(M.flatten.map intP).drop ((j.toNat*4)+4)).length)(ej':j'=(j-(1:Int)))(eM'n:M'.length=M.length)(eM'c:M'.flatten.map intP=(((M.flatten.map intP).take (j.toNat*4)++[(intP y204),(intP y205),(intP y206),(intP y207)]++(M.flatten.map intP).drop ((j.toNat*4)+4)).take ((j-(1:Int)).toNat*4)++[(intP y200),(intP y201),(intP y202),(intP y203)]++((M.flatten.map intP).take (j.toNat*4)++[(intP y204),(intP y205),(intP y206),(intP y207)]++(M.flatten.map intP).drop ((j.toNat*4)+4)).drop (((j-(1:Int)).toNat*4)+4))):CodeOK Tryz.prog 1 zK4c0 (srtLI_S1 l i j M.length (M.flatten.map intP)) .normal (srtLI_S1 l i j' M'.length (M'.flatten.map intP)):=by
  subst ej'
  have raw:CodeOK Tryz.prog 1 zK4c0 (srtLI_S1 l i j M.length (M.flatten.map intP)) .normal (srtLI_S1 l i (j-(1:Int)) M.length (((M.flatten.map intP).take (j.toNat*4)++[(intP y204),(intP y205),(intP y206),(intP y207)]++(M.flatten.map intP).drop ((j.toNat*4)+4)).take ((j-(1:Int)).toNat*4)++[(intP y200),(intP y201),(intP y202),(intP y203)]++((M.flatten.map intP).take (j.toNat*4)++[(intP y204),(intP y205),(intP y206),(intP y207)]++(M.flatten.map intP).drop ((j.toNat*4)+4)).drop (((j-(1:Int)).toNat*4)+4))):=CodeOK.fin (g:=⟨(rng [(4,4),(10,2),(18,35)]),[],[],[]⟩) (o:=[bT,bT,bT,bT,bT,.x (.agg [(intP y200),(intP y201),(intP y202),(intP y203)]),bT,bT,bT,bT,bT,.x (.agg [(intP y204),(intP y205),(intP y206),(intP y207)]),bT,.c (.p (intP (cmpI y201 y205))) [],bT,bT,bT,.x (.agg [(intP y204),(intP y205),(intP y206),(intP y207)]),.x (.agg [(intP y200),(intP y201),(intP y202),(intP y203)])]) (l:=[_,_,_,_,_,_,_,_,_,_,_,_,_,_,_,_,FC Tryz.prog 106 [(.p (.agg [(intP y200),(intP y201),(intP y202),(intP y203)])),(.p (.agg [(intP y204),(intP y205),(intP y206),(intP y207)]))] [] 1 (.p (intP (cmpI y201 y205))) [],_,_,_,_,_,_,_,_,_,_,_,_,_,_,_,_,_,_]) (by kernel_rfl) (gc h4 (gc h10 (gc h9 (gc h8 (gc (ix_own (i:=j) h2 h1) (gc (fl_load (i:=j.toNat) h3 h1) (gc (fl_le (i:=j.toNat) h3 h1) (gc (ix_own (i:=j) h2 h1) (gc (fl_load (i:=(j-(1:Int)).toNat) h3 h5) (gc (fl_le (i:=(j-(1:Int)).toNat) h3 h5) (gc (ix_own (i:=(j-(1:Int))) h6 h5) (gc h4 (gc h4 (gc (q_lt h7) (gc (q_lt h0) (gc (q_lt h0) (gc (FV.fc (srtLc_p0 rfl) rfl) (gc (q_lt h0) (gc (fl_load (i:=(j-(1:Int)).toNat) h3 h5) (gc (fl_le (i:=(j-(1:Int)).toNat) h3 h5) (gc (q_lt h0) (gc (ix_own (i:=(j-(1:Int))) h6 h5) (gc (q_lt h0) (gc h4 (gc (q_lt h0) (gc (q_lt h0) (gc (q_lt h0) (gc (fl_load (i:=j.toNat) h3 h1) (gc (fl_le (i:=j.toNat) h3 h1) (gc (q_lt h0) (gc (ix_own (i:=j) h2 h1) (gc (q_lt h0) (gc (q_lt h0) (gc (q_lt h0) (gc (q_lt h0) gn)))))))))))))))))))))))))))))))))))
  exact raw.cast (by rw [eM'n,eM'c])
theorem srtLI_L1_p1{l:List (List Int)}{i:Nat}{j:Int}{M:List (List Int)}{y200 y201 y202 y203 y204 y205 y206 y207:Int}(h0:(0:Int)<j)(h1:M[j.toNat]? = some [y200,y201,y202,y203])(h2:0≤j)(h3:uni 4 M)(h4:inR (j-(1:Int)))(h5:M[(j-(1:Int)).toNat]? = some [y204,y205,y206,y207])(h6:0≤(j-(1:Int)))(h7:(0:Int)≤(cmpI y201 y205)):CodeOK Tryz.prog 1 zK4c0 (srtLI_S1 l i j M.length (M.flatten.map intP)) (.exit 2) (srtLI_S1 l i j M.length (M.flatten.map intP)):=by
  exact CodeOK.fin (g:=⟨(rng [(4,4),(10,2),(18,35)]),[],[],[]⟩) (o:=[bT,bT,bT,bT,bT,.x (.agg [(intP y200),(intP y201),(intP y202),(intP y203)]),bT,bT,bT,bT,bT,.x (.agg [(intP y204),(intP y205),(intP y206),(intP y207)]),bT,.c (.p (intP (cmpI y201 y205))) [],bT,bT,bF]) (l:=[_,_,_,FC Tryz.prog 106 [(.p (.agg [(intP y200),(intP y201),(intP y202),(intP y203)])),(.p (.agg [(intP y204),(intP y205),(intP y206),(intP y207)]))] [] 1 (.p (intP (cmpI y201 y205))) [],_,_,_,_,_,_,_,_,_,_,_,_,_,_,_,_,_,_]) (by kernel_rfl) (gc (q_ltF h7) (gc (q_lt h0) (gc (q_lt h0) (gc (FV.fc (srtLc_p0 rfl) rfl) (gc (q_lt h0) (gc (fl_load (i:=(j-(1:Int)).toNat) h3 h5) (gc (fl_le (i:=(j-(1:Int)).toNat) h3 h5) (gc (q_lt h0) (gc (ix_own (i:=(j-(1:Int))) h6 h5) (gc (q_lt h0) (gc h4 (gc (q_lt h0) (gc (q_lt h0) (gc (q_lt h0) (gc (fl_load (i:=j.toNat) h3 h1) (gc (fl_le (i:=j.toNat) h3 h1) (gc (q_lt h0) (gc (ix_own (i:=j) h2 h1) (gc (q_lt h0) (gc (q_lt h0) (gc (q_lt h0) (gc (q_lt h0) gn))))))))))))))))))))))
theorem srtLI_L1_p2{l:List (List Int)}{i:Nat}{j:Int}{M:List (List Int)}(h0:j≤(0:Int)):CodeOK Tryz.prog 1 zK4c0 (srtLI_S1 l i j M.length (M.flatten.map intP)) (.exit 2) (srtLI_S1 l i j M.length (M.flatten.map intP)):=by
  exact CodeOK.fin (g:=⟨(rng [(4,4),(10,2),(18,35)]),[],[],[]⟩) (o:=[bF,bF,bF,bF,bF,bF,bF,bF,bF,bF,bF,bF,bF]) (l:=[_,_,_,_,_,_,_,_,_,_,_,_,_]) (by kernel_rfl) (gc (q_ltF h0) (gc (q_ltF h0) (gc (q_ltF h0) (gc (q_ltF h0) (gc (q_ltF h0) (gc (q_ltF h0) (gc (q_ltF h0) (gc (q_ltF h0) (gc (q_ltF h0) (gc (q_ltF h0) (gc (q_ltF h0) (gc (q_ltF h0) (gc (q_ltF h0) gn)))))))))))))
theorem srtL_in(l:List (List Int))(i:Nat)(A R:List (List Int))(hA:A.length<1000)(hi:i=A.length)(x0 x1 x2 x3:Int)(hu:uni 4 (A++[x0,x1,x2,x3]::R)):∀ m,m≤A.length→(∀ t (h:t<A.length),m≤t→ltK 1 [x0,x1,x2,x3] A[t]=true) →
    LoopOK Tryz.prog 1 zK4c0 (srtLI_S1 l i (m:Int) (mv A [x0,x1,x2,x3] m R).length ((mv A [x0,x1,x2,x3] m R).flatten.map intP)) (.exit 2) (srtLI_S1 l i (insPos (ltK 1) [x0,x1,x2,x3] A:Int) (ins (ltK 1) A [x0,x1,x2,x3]++R).length ((ins (ltK 1) A [x0,x1,x2,x3]++R).flatten.map intP)):=by
  have huA:∀ y∈A,y.length=4:=fun y hy=>hu y (List.mem_append_left _ hy)
  have huM:∀ m,uni 4 (mv A [x0,x1,x2,x3] m R):=fun m y hy=>by
    unfold mv at hy
    rcases List.mem_append.1 hy with h | h
    · exact huA y (List.mem_of_mem_take h)
    · rcases List.mem_cons.1 h with rfl | h
      · rfl
      · rcases List.mem_append.1 h with h | h
        · exact huA y (List.mem_of_mem_drop h)
        · exact hu y (List.mem_append_right _ (List.mem_cons_of_mem _ h))
  intro m
  induction m with
  | zero =>
    intro _ hlt
    have e:=insPos_eq (ltK 1) [x0,x1,x2,x3] A 0 (Nat.zero_le _) hlt (.inl rfl)
    rw [← mv_ins,e]
    exact .exit (srtLI_L1_p2 (by simp)) (by simp)
  | succ m ih =>
    intro hm hlt
    have hy:=List.getElem?_eq_getElem (show m<A.length by omega)
    generalize A[m]=y at hy
    obtain ⟨y0,y1,y2,y3,rfl⟩:=len4 (huA y (List.mem_of_getElem? hy))
    have e1:((m+1:Nat):Int).toNat=m+1:=by omega
    have e2:(((m+1:Nat):Int)-1).toNat=m:=by omega
    have hl:=mv_length A [x0,x1,x2,x3] (m+1) R hm
    have g1:(mv A [x0,x1,x2,x3] (m+1) R)[m+1]? = some [x0,x1,x2,x3]:=by rw [mv_get A _ _ R hm];simp
    have g2:(mv A [x0,x1,x2,x3] (m+1) R)[m]? = some [y0,y1,y2,y3]:=by rw [mv_get A _ _ R hm,if_pos (by omega)];exact hy
    by_cases hc:cmpI x1 y1<0
    · have st:=fl_store (k:=4) (i:=m+1) (x:=[y0,y1,y2,y3]) (huM (m+1)) (by omega) rfl
      have hs1:uni 4 ((mv A [x0,x1,x2,x3] (m+1) R).set (m+1) [y0,y1,y2,y3]):=uni_set (huM _) rfl
      have st2:=fl_store (k:=4) (i:=m) (x:=[x0,x1,x2,x3]) hs1 (by rw [List.length_set];omega) rfl
      have gm:((mv A [x0,x1,x2,x3] (m+1) R).set (m+1) [y0,y1,y2,y3])[m]? = some [y0,y1,y2,y3]:=by rw [List.getElem?_set,if_neg (by omega)];exact g2
      have hsw:=mv_swap A [x0,x1,x2,x3] (m+1) R hm (by omega) [y0,y1,y2,y3] (by simpa using hy)
      rw [Nat.add_sub_cancel] at hsw
      simp only [List.map_cons,List.map_nil] at st st2
      refine .step (srtLI_L1_p0 (j:=((m+1:Nat):Int)) (j':=(m:Int)) (M':=mv A [x0,x1,x2,x3] m R) (by omega) (by rw [e1];exact g1) (by omega) (huM _) (by unfold inR;omega) (by rw [e2];exact g2) (by omega) hc ⟨rfl,by rw [e1];exact fl_le (huM _) g1⟩ ⟨by omega,by omega⟩ ⟨rfl,?_⟩ (by omega) (by rw [hl,mv_length A _ _ R (by omega)]) ?_) (ih (by omega) fun t ht h1 => ?_)
      · rw [e1,e2,st];exact fl_le hs1 gm
      · rw [e1,e2,st,st2,hsw]
      · by_cases h2:t=m
        · subst h2
          have h3:=hy
          rw [List.getElem?_eq_getElem ht,Option.some.injEq] at h3
          rw [h3]
          simpa [ltK] using hc
        · exact hlt t ht (by omega)
    · have e:=insPos_eq (ltK 1) [x0,x1,x2,x3] A (m+1) hm hlt (.inr ⟨[y0,y1,y2,y3],by simpa using hy,by simpa [ltK] using hc⟩)
      rw [← mv_ins,e]
      exact .exit (srtLI_L1_p1 (by omega) (by rw [e1];exact g1) (by omega) (huM _) (by unfold inR;omega) (by rw [e2];exact g2) (by omega) (by omega)) (by simp)
theorem srtL_ins(l:List (List Int))(hu:uni 4 l)(hn:l.length<1000):FMM Tryz.prog 185 [.own 0,.p (intP 0),.p (intP (l.length:Int)),.fn 106 [] []] [some (.row 61 l.length (l.flatten.map intP))] (.tup []) [some (.row 61 (isort (ltK 1) l).length ((isort (ltK 1) l).flatten.map intP))]:=by
  have hui:∀ i,uni 4 (isort (ltK 1) (l.take i)):=fun i y hy=>hu y (List.mem_of_mem_take ((isort_mem (ltK 1) _ y).1 hy))
  have key:∀ d i,i+d=l.length→1≤i→LoopOK Tryz.prog 1 zK4c3 (srtLI_S0 l i (isort (ltK 1) (l.take i)++l.drop i).length ((isort (ltK 1) (l.take i)++l.drop i).flatten.map intP)) (.exit 0) (srtLI_S0 l l.length (isort (ltK 1) l).length ((isort (ltK 1) l).flatten.map intP)):=by
    intro d
    induction d with
    | zero =>
      intro i hi _
      obtain rfl:i=l.length:=by omega
      rw [List.take_length,List.drop_length,List.append_nil]
      exact .exit (srtLI_L0_p1 (by omega)) (by simp)
    | succ d ih =>
      intro i hi h1
      have hlt:i<l.length:=by omega
      have hx:=hu l[i] (List.getElem_mem hlt)
      generalize hxx:l[i]=x at hx
      obtain ⟨x0,x1,x2,x3,rfl⟩:=len4 hx
      have hAl:(isort (ltK 1) (l.take i)).length=i:=by rw [isort_length,List.length_take];omega
      have hdr:l.drop i=[x0,x1,x2,x3]::l.drop (i+1):=by rw [List.drop_eq_getElem_cons hlt,hxx]
      have hin:=srtL_in l i (isort (ltK 1) (l.take i)) (l.drop (i+1)) (by omega) hAl.symm x0 x1 x2 x3 (by
        intro y hy
        rcases List.mem_append.1 hy with h | h
        · exact hui i y h
        · rcases List.mem_cons.1 h with rfl | h
          · rfl
          · exact hu y (List.mem_of_mem_drop h)) i (by omega) (fun t ht h2=>by omega)
      have hmv:mv (isort (ltK 1) (l.take i)) [x0,x1,x2,x3] i (l.drop (i+1))=isort (ltK 1) (l.take i)++l.drop i:=by
        have:=mv_end (isort (ltK 1) (l.take i)) [x0,x1,x2,x3] (l.drop (i+1))
        rw [hAl] at this;rw [this,hdr]
      have hsn:=isort_snoc (ltK 1) l i hlt
      rw [hxx] at hsn
      rw [hmv,← hsn] at hin
      exact .step (srtLI_L0_p0 (by omega) hin (by unfold inR;omega) rfl rfl rfl) (ih (i+1) (by omega) (by omega))
  rcases Nat.eq_zero_or_pos l.length with h0 | hp
  · have:l=[]:=List.eq_nil_of_length_eq_zero h0
    subst this
    exact srtLI_p0 (LoopOK.exit (srtLI_L0_p1 (l:=[]) (L:=[]) (i:=1) (by simp)) (by simp))
  · have:=key (l.length-1) 1 (by omega) (by omega)
    have e1:isort (ltK 1) (l.take 1)++l.drop 1=l:=by
      cases l with
      | nil=>simp at hp
      | cons x r=>simp [isort,ins,insPos]
    rw [e1] at this
    exact srtLI_p0 this
def srtLS_S0(l:List (List Int))  : St:=⟨fr 63 [(0,(.own 0)),(1,(.p (intP (l.length:Int)))),(2,(.fn 106 [] [])),(6,(.p (intP 20))),(7,(.p (intP 0))),(8,(.p (intP 20)))],[some (.row 61 l.length (l.flatten.map intP))]⟩
def srtLS_S1(l:List (List Int))  : St:=⟨fr 63 [(0,(.own 0)),(1,(.p (intP (l.length:Int)))),(2,(.fn 106 [] [])),(6,(.p (intP 20))),(7,(.p (intP 0))),(8,(.p (intP 20)))],[some (.row 61 ((isort (ltK 1) l).length) ((isort (ltK 1) l).flatten.map intP))]⟩
abbrev zK40(l:List (List Int)):=isort (ltK 1) l
theorem srtLS_p0{l:List (List Int)}(hl0:LoopOK Tryz.prog 1 (sub (cd Tryz.f148) [1,1,0,0,0]) (srtLS_S0 l ) (.exit 0) (srtLS_S0 l ))(h1:uni 4 l)(h2:l.length<1000)(hl3:LoopOK Tryz.prog 1 (sub (cd Tryz.f148) [1,1,1,1,0,0]) (srtLS_S1 l ) (.exit 2) (srtLS_S1 l )):FMM Tryz.prog 148 [(.own 0),(.p (intP (l.length:Int))),(.fn 106 [] [])] [some (.row 61 l.length (l.flatten.map intP))] (.tup []) [some (.row 61 ((isort (ltK 1) l).length) ((isort (ltK 1) l).flatten.map intP))]:=by
  exact FMM.fin (k:=1) (g:=⟨[],[],[],[]⟩) rfl Tryz.func148 rfl (o:=[.k 6 ⟨(rng [(3,3),(10,13),(27,1),(43,1),(60,1)]),[],[],[]⟩ (.exit 0) (srtLS_S0 l ),.c (.tup []) [(0,(.row 61 ((zK40 l).length) ((zK40 l).flatten.map intP)))],.k 1 ⟨(rng [(3,3),(10,53)]),[],[],[]⟩ (.exit 2) (srtLS_S1 l )]) (l:=[_,FC Tryz.prog 185 [(.own 0),(.p (intP 0)),(.p (intP (l.length:Int))),(.fn 106 [] [])] [(0,(.row 61 l.length (l.flatten.map intP)))] 1 (.tup []) [(0,(.row 61 ((zK40 l).length) ((zK40 l).flatten.map intP)))],_]) (by kernel_rfl) (gc hl3.code (gc (FMM.fc (ids:=[0]) (srtL_ins l h1 h2) (by kernel_rfl)) (gc hl0.code gn)))
theorem srtLS_L0_p0{l:List (List Int)}(h0:(l.length:Int)<(20:Int)):CodeOK Tryz.prog 1 (sub (cd Tryz.f148) [1,1,0,0,0]) (srtLS_S0 l ) (.exit 0) (srtLS_S0 l ):=by
  exact CodeOK.fin (g:=⟨(rng [(3,3),(10,13),(27,1),(43,1),(60,1)]),[],[],[]⟩) (o:=[bF]) (l:=[_]) (by kernel_rfl) (gc (q_leF h0) gn)
theorem srtLS_L1_p0{l:List (List Int)}(h0:(l.length:Int)≤(20:Int)):CodeOK Tryz.prog 1 (sub (cd Tryz.f148) [1,1,1,1,0,0]) (srtLS_S1 l ) (.exit 2) (srtLS_S1 l ):=by
  exact CodeOK.fin (g:=⟨(rng [(3,3),(10,53)]),[],[],[]⟩) (o:=[bF]) (l:=[_]) (by kernel_rfl) (gc (q_ltF h0) gn)
theorem srtL_stb(l:List (List Int))(hu:uni 4 l)(hn:l.length<20):FMM Tryz.prog 148 [.own 0,.p (intP (l.length:Int)),.fn 106 [] []] [some (.row 61 l.length (l.flatten.map intP))] (.tup []) [some (.row 61 (isort (ltK 1) l).length ((isort (ltK 1) l).flatten.map intP))] := 
  srtLS_p0 (LoopOK.exit (srtLS_L0_p0 (by omega)) (by simp)) hu (by omega) (LoopOK.exit (srtLS_L1_p0 (by omega)) (by simp))
theorem srtLT_p0{l:List (List Int)}(h0:uni 4 l)(h1:l.length<20):FMM Tryz.prog 105 [(.own 0),(.fn 106 [] [])] [some (.row 61 l.length (l.flatten.map intP))] (.tup []) [some (.row 61 ((isort (ltK 1) l).length) ((isort (ltK 1) l).flatten.map intP))]:=by
  exact FMM.fin (k:=1) (g:=⟨[],[],[],[]⟩) rfl Tryz.func105 rfl (o:=[.c (.tup []) [(0,(.row 61 ((zK40 l).length) ((zK40 l).flatten.map intP)))]]) (l:=[FC Tryz.prog 148 [(.own 0),(.p (intP (l.length:Int))),(.fn 106 [] [])] [(0,(.row 61 l.length (l.flatten.map intP)))] 1 (.tup []) [(0,(.row 61 ((zK40 l).length) ((zK40 l).flatten.map intP)))]]) (by kernel_rfl) (gc (FMM.fc (ids:=[0]) (srtL_stb l h0 h1) (by kernel_rfl)) gn)
theorem srtL_ok(l:List (List Int))(hu:uni 4 l)(hn:l.length<20):FMM Tryz.prog 105 [.own 0,.fn 106 [] []] [some (.row 61 l.length (l.flatten.map intP))] (.tup []) [some (.row 61 (isort (ltK 1) l).length ((isort (ltK 1) l).flatten.map intP))]:=srtLT_p0 hu hn
theorem srtRc_p0{a0 a1 b0 b1 r0:Int}(er0:r0=(cmpI a1 b1)){base:Nat}:FV Tryz.prog 158 [(.p (.agg [(intP a0),(intP a1)])),(.p (.agg [(intP b0),(intP b1)]))] base (.p (intP r0)) []:=by
  subst er0
  exact FV.fin Tryz.func158 rfl (o:=[.c (.p (intP (cmpI a1 b1))) []]) (l:=[_]) (by kernel_rfl) (gc (fk 2 (cmp_ok a1 b1) rfl) gn)
def srtRI_S0(l:List (List Int))(i:Nat)(Ln:Nat)(Lc:List PV):St:=⟨fr 53 [(0,(.own 0)),(1,(.p (intP 0))),(2,(.p (intP (l.length:Int)))),(3,(.fn 158 [] [])),(8,(.p (intP (i:Int))))],[some (.row 155 Ln Lc)]⟩
theorem srtRI_p0{l:List (List Int)}{i'0:Nat}{L'1:List (List Int)}(hl0:LoopOK Tryz.prog 1 zK4c4 (srtRI_S0 l 1 l.length (l.flatten.map intP)) (.exit 0) (srtRI_S0 l i'0 L'1.length (L'1.flatten.map intP))):FMM Tryz.prog 200 [(.own 0),(.p (intP 0)),(.p (intP (l.length:Int))),(.fn 158 [] [])] [some (.row 155 l.length (l.flatten.map intP))] (.tup []) [some (.row 155 L'1.length (L'1.flatten.map intP))]:=by
  exact FMM.fin (k:=1) (g:=⟨[],[],[],[]⟩) rfl Tryz.func200 rfl (o:=[.k 3 ⟨(rng [(4,4),(9,44)]),[],[],[]⟩ (.exit 0) (srtRI_S0 l i'0 L'1.length (L'1.flatten.map intP))]) (l:=[_,_]) (by kernel_rfl) (gc hl0.code (gc zK4q0 gn))
def srtRI_S1(l:List (List Int))(i:Nat)(j:Int)(Mn:Nat)(Mc:List PV):St:=⟨fr 53 [(0,(.own 0)),(1,(.p (intP 0))),(2,(.p (intP (l.length:Int)))),(3,(.fn 158 [] [])),(8,(.p (intP (i:Int)))),(9,(.p (intP j))),(12,(.p (intP (i:Int)))),(13,(.p (intP (l.length:Int)))),(14,(.p (blP (decide ((i:Int)<(l.length:Int)))))),(17,(.p (intP (i:Int))))],[some (.row 155 Mn Mc)]⟩
theorem srtRI_L0_p0{l:List (List Int)}{i:Nat}{L:List (List Int)}{j'100:Int}{M'101:List (List Int)}{i':Nat}{L':List (List Int)}(h0:(i:Int)<(l.length:Int))(hl1:LoopOK Tryz.prog 1 zK4c1 (srtRI_S1 l i (i:Int) L.length (L.flatten.map intP)) (.exit 2) (srtRI_S1 l i j'100 M'101.length (M'101.flatten.map intP)))(h2:inR (((i+1):Nat):Int))(ei':i'=(i+1))(eL'n:L'.length=M'101.length)(eL'c:L'.flatten.map intP=(M'101.flatten.map intP)):CodeOK Tryz.prog 1 zK4c4 (srtRI_S0 l i L.length (L.flatten.map intP)) .normal (srtRI_S0 l i' L'.length (L'.flatten.map intP)):=by
  subst ei'
  have raw:CodeOK Tryz.prog 1 zK4c4 (srtRI_S0 l i L.length (L.flatten.map intP)) .normal (srtRI_S0 l (i+1) M'101.length (M'101.flatten.map intP)):=CodeOK.fin (g:=⟨(rng [(4,4),(9,44)]),[],[],[]⟩) (o:=[bT,.k 5 ⟨(rng [(4,4),(10,2),(18,35)]),[],[],[]⟩ (.exit 2) (srtRI_S1 l i j'100 M'101.length (M'101.flatten.map intP))]) (l:=[_,_,_]) (by kernel_rfl) (gc h2 (gc hl1.code (gc (q_lt h0) gn)))
  exact raw.cast (by rw [eL'n,eL'c])
theorem srtRI_L0_p1{l:List (List Int)}{i:Nat}{L:List (List Int)}(h0:(l.length:Int)≤(i:Int)):CodeOK Tryz.prog 1 zK4c4 (srtRI_S0 l i L.length (L.flatten.map intP)) (.exit 0) (srtRI_S0 l i L.length (L.flatten.map intP)):=by
  exact CodeOK.fin (g:=⟨(rng [(4,4),(9,44)]),[],[],[]⟩) (o:=[bF]) (l:=[_]) (by kernel_rfl) (gc (q_ltF h0) gn)
theorem srtRI_L1_p0{l:List (List Int)}{i:Nat}{j:Int}{M:List (List Int)}{y200 y201 y202 y203 j':Int}{M':List (List Int)}(h0:(0:Int)<j)(h1:M[j.toNat]? = some [y200,y201])(h2:0≤j)(h3:uni 2 M)(h4:inR (j-(1:Int)))(h5:M[(j-(1:Int)).toNat]? = some [y202,y203])(h6:0≤(j-(1:Int)))(h7:(cmpI y201 y203)<(0:Int))(h8:[(intP y202),(intP y203)].length=2∧(j.toNat*2)+2≤(M.flatten.map intP).length)(h9:0≤(j-(1:Int))∧(j-(1:Int))<(M.length:Int))(h10:[(intP y200),(intP y201)].length=2∧((j-(1:Int)).toNat*2)+2≤((M.flatten.map intP).take (j.toNat*2)++[(intP y202),(intP y203)]++(M.flatten.map intP).drop ((j.toNat*2)+2)).length)(ej':j'=(j-(1:Int)))(eM'n:M'.length=M.length)(eM'c:M'.flatten.map intP=(((M.flatten.map intP).take (j.toNat*2)++[(intP y202),(intP y203)]++(M.flatten.map intP).drop ((j.toNat*2)+2)).take ((j-(1:Int)).toNat*2)++[(intP y200),(intP y201)]++((M.flatten.map intP).take (j.toNat*2)++[(intP y202),(intP y203)]++(M.flatten.map intP).drop ((j.toNat*2)+2)).drop (((j-(1:Int)).toNat*2)+2))):CodeOK Tryz.prog 1 zK4c1 (srtRI_S1 l i j M.length (M.flatten.map intP)) .normal (srtRI_S1 l i j' M'.length (M'.flatten.map intP)):=by
  subst ej'
  have raw:CodeOK Tryz.prog 1 zK4c1 (srtRI_S1 l i j M.length (M.flatten.map intP)) .normal (srtRI_S1 l i (j-(1:Int)) M.length (((M.flatten.map intP).take (j.toNat*2)++[(intP y202),(intP y203)]++(M.flatten.map intP).drop ((j.toNat*2)+2)).take ((j-(1:Int)).toNat*2)++[(intP y200),(intP y201)]++((M.flatten.map intP).take (j.toNat*2)++[(intP y202),(intP y203)]++(M.flatten.map intP).drop ((j.toNat*2)+2)).drop (((j-(1:Int)).toNat*2)+2))):=CodeOK.fin (g:=⟨(rng [(4,4),(10,2),(18,35)]),[],[],[]⟩) (o:=[bT,bT,bT,bT,bT,.x (.agg [(intP y200),(intP y201)]),bT,bT,bT,bT,bT,.x (.agg [(intP y202),(intP y203)]),bT,.c (.p (intP (cmpI y201 y203))) [],bT,bT,bT,.x (.agg [(intP y202),(intP y203)]),.x (.agg [(intP y200),(intP y201)])]) (l:=[_,_,_,_,_,_,_,_,_,_,_,_,_,_,_,_,FC Tryz.prog 158 [(.p (.agg [(intP y200),(intP y201)])),(.p (.agg [(intP y202),(intP y203)]))] [] 1 (.p (intP (cmpI y201 y203))) [],_,_,_,_,_,_,_,_,_,_,_,_,_,_,_,_,_,_]) (by kernel_rfl) (gc h4 (gc h10 (gc h9 (gc h8 (gc (ix_own (i:=j) h2 h1) (gc (fl_load (i:=j.toNat) h3 h1) (gc (fl_le (i:=j.toNat) h3 h1) (gc (ix_own (i:=j) h2 h1) (gc (fl_load (i:=(j-(1:Int)).toNat) h3 h5) (gc (fl_le (i:=(j-(1:Int)).toNat) h3 h5) (gc (ix_own (i:=(j-(1:Int))) h6 h5) (gc h4 (gc h4 (gc (q_lt h7) (gc (q_lt h0) (gc (q_lt h0) (gc (FV.fc (srtRc_p0 rfl) rfl) (gc (q_lt h0) (gc (fl_load (i:=(j-(1:Int)).toNat) h3 h5) (gc (fl_le (i:=(j-(1:Int)).toNat) h3 h5) (gc (q_lt h0) (gc (ix_own (i:=(j-(1:Int))) h6 h5) (gc (q_lt h0) (gc h4 (gc (q_lt h0) (gc (q_lt h0) (gc (q_lt h0) (gc (fl_load (i:=j.toNat) h3 h1) (gc (fl_le (i:=j.toNat) h3 h1) (gc (q_lt h0) (gc (ix_own (i:=j) h2 h1) (gc (q_lt h0) (gc (q_lt h0) (gc (q_lt h0) (gc (q_lt h0) gn)))))))))))))))))))))))))))))))))))
  exact raw.cast (by rw [eM'n,eM'c])
theorem srtRI_L1_p1{l:List (List Int)}{i:Nat}{j:Int}{M:List (List Int)}{y200 y201 y202 y203:Int}(h0:(0:Int)<j)(h1:M[j.toNat]? = some [y200,y201])(h2:0≤j)(h3:uni 2 M)(h4:inR (j-(1:Int)))(h5:M[(j-(1:Int)).toNat]? = some [y202,y203])(h6:0≤(j-(1:Int)))(h7:(0:Int)≤(cmpI y201 y203)):CodeOK Tryz.prog 1 zK4c1 (srtRI_S1 l i j M.length (M.flatten.map intP)) (.exit 2) (srtRI_S1 l i j M.length (M.flatten.map intP)):=by
  exact CodeOK.fin (g:=⟨(rng [(4,4),(10,2),(18,35)]),[],[],[]⟩) (o:=[bT,bT,bT,bT,bT,.x (.agg [(intP y200),(intP y201)]),bT,bT,bT,bT,bT,.x (.agg [(intP y202),(intP y203)]),bT,.c (.p (intP (cmpI y201 y203))) [],bT,bT,bF]) (l:=[_,_,_,FC Tryz.prog 158 [(.p (.agg [(intP y200),(intP y201)])),(.p (.agg [(intP y202),(intP y203)]))] [] 1 (.p (intP (cmpI y201 y203))) [],_,_,_,_,_,_,_,_,_,_,_,_,_,_,_,_,_,_]) (by kernel_rfl) (gc (q_ltF h7) (gc (q_lt h0) (gc (q_lt h0) (gc (FV.fc (srtRc_p0 rfl) rfl) (gc (q_lt h0) (gc (fl_load (i:=(j-(1:Int)).toNat) h3 h5) (gc (fl_le (i:=(j-(1:Int)).toNat) h3 h5) (gc (q_lt h0) (gc (ix_own (i:=(j-(1:Int))) h6 h5) (gc (q_lt h0) (gc h4 (gc (q_lt h0) (gc (q_lt h0) (gc (q_lt h0) (gc (fl_load (i:=j.toNat) h3 h1) (gc (fl_le (i:=j.toNat) h3 h1) (gc (q_lt h0) (gc (ix_own (i:=j) h2 h1) (gc (q_lt h0) (gc (q_lt h0) (gc (q_lt h0) (gc (q_lt h0) gn))))))))))))))))))))))
theorem srtRI_L1_p2{l:List (List Int)}{i:Nat}{j:Int}{M:List (List Int)}(h0:j≤(0:Int)):CodeOK Tryz.prog 1 zK4c1 (srtRI_S1 l i j M.length (M.flatten.map intP)) (.exit 2) (srtRI_S1 l i j M.length (M.flatten.map intP)):=by
  exact CodeOK.fin (g:=⟨(rng [(4,4),(10,2),(18,35)]),[],[],[]⟩) (o:=[bF,bF,bF,bF,bF,bF,bF,bF,bF,bF,bF,bF,bF]) (l:=[_,_,_,_,_,_,_,_,_,_,_,_,_]) (by kernel_rfl) (gc (q_ltF h0) (gc (q_ltF h0) (gc (q_ltF h0) (gc (q_ltF h0) (gc (q_ltF h0) (gc (q_ltF h0) (gc (q_ltF h0) (gc (q_ltF h0) (gc (q_ltF h0) (gc (q_ltF h0) (gc (q_ltF h0) (gc (q_ltF h0) (gc (q_ltF h0) gn)))))))))))))
theorem srtR_in(l:List (List Int))(i:Nat)(A R:List (List Int))(hA:A.length<1000)(hi:i=A.length)(x0 x1:Int)(hu:uni 2 (A++[x0,x1]::R)):∀ m,m≤A.length→(∀ t (h:t<A.length),m≤t→ltK 1 [x0,x1] A[t]=true) →
    LoopOK Tryz.prog 1 zK4c1 (srtRI_S1 l i (m:Int) (mv A [x0,x1] m R).length ((mv A [x0,x1] m R).flatten.map intP)) (.exit 2) (srtRI_S1 l i (insPos (ltK 1) [x0,x1] A:Int) (ins (ltK 1) A [x0,x1]++R).length ((ins (ltK 1) A [x0,x1]++R).flatten.map intP)):=by
  have huA:∀ y∈A,y.length=2:=fun y hy=>hu y (List.mem_append_left _ hy)
  have huM:∀ m,uni 2 (mv A [x0,x1] m R):=fun m y hy=>by
    unfold mv at hy
    rcases List.mem_append.1 hy with h | h
    · exact huA y (List.mem_of_mem_take h)
    · rcases List.mem_cons.1 h with rfl | h
      · rfl
      · rcases List.mem_append.1 h with h | h
        · exact huA y (List.mem_of_mem_drop h)
        · exact hu y (List.mem_append_right _ (List.mem_cons_of_mem _ h))
  intro m
  induction m with
  | zero =>
    intro _ hlt
    have e:=insPos_eq (ltK 1) [x0,x1] A 0 (Nat.zero_le _) hlt (.inl rfl)
    rw [← mv_ins,e]
    exact .exit (srtRI_L1_p2 (by simp)) (by simp)
  | succ m ih =>
    intro hm hlt
    have hy:=List.getElem?_eq_getElem (show m<A.length by omega)
    generalize A[m]=y at hy
    obtain ⟨y0,y1,rfl⟩:=len2 (huA y (List.mem_of_getElem? hy))
    have e1:((m+1:Nat):Int).toNat=m+1:=by omega
    have e2:(((m+1:Nat):Int)-1).toNat=m:=by omega
    have hl:=mv_length A [x0,x1] (m+1) R hm
    have g1:(mv A [x0,x1] (m+1) R)[m+1]? = some [x0,x1]:=by rw [mv_get A _ _ R hm];simp
    have g2:(mv A [x0,x1] (m+1) R)[m]? = some [y0,y1]:=by rw [mv_get A _ _ R hm,if_pos (by omega)];exact hy
    by_cases hc:cmpI x1 y1<0
    · have st:=fl_store (k:=2) (i:=m+1) (x:=[y0,y1]) (huM (m+1)) (by omega) rfl
      have hs1:uni 2 ((mv A [x0,x1] (m+1) R).set (m+1) [y0,y1]):=uni_set (huM _) rfl
      have st2:=fl_store (k:=2) (i:=m) (x:=[x0,x1]) hs1 (by rw [List.length_set];omega) rfl
      have gm:((mv A [x0,x1] (m+1) R).set (m+1) [y0,y1])[m]? = some [y0,y1]:=by rw [List.getElem?_set,if_neg (by omega)];exact g2
      have hsw:=mv_swap A [x0,x1] (m+1) R hm (by omega) [y0,y1] (by simpa using hy)
      rw [Nat.add_sub_cancel] at hsw
      simp only [List.map_cons,List.map_nil] at st st2
      refine .step (srtRI_L1_p0 (j:=((m+1:Nat):Int)) (j':=(m:Int)) (M':=mv A [x0,x1] m R) (by omega) (by rw [e1];exact g1) (by omega) (huM _) (by unfold inR;omega) (by rw [e2];exact g2) (by omega) hc ⟨rfl,by rw [e1];exact fl_le (huM _) g1⟩ ⟨by omega,by omega⟩ ⟨rfl,?_⟩ (by omega) (by rw [hl,mv_length A _ _ R (by omega)]) ?_) (ih (by omega) fun t ht h1 => ?_)
      · rw [e1,e2,st];exact fl_le hs1 gm
      · rw [e1,e2,st,st2,hsw]
      · by_cases h2:t=m
        · subst h2
          have h3:=hy
          rw [List.getElem?_eq_getElem ht,Option.some.injEq] at h3
          rw [h3]
          simpa [ltK] using hc
        · exact hlt t ht (by omega)
    · have e:=insPos_eq (ltK 1) [x0,x1] A (m+1) hm hlt (.inr ⟨[y0,y1],by simpa using hy,by simpa [ltK] using hc⟩)
      rw [← mv_ins,e]
      exact .exit (srtRI_L1_p1 (by omega) (by rw [e1];exact g1) (by omega) (huM _) (by unfold inR;omega) (by rw [e2];exact g2) (by omega) (by omega)) (by simp)
theorem srtR_ins(l:List (List Int))(hu:uni 2 l)(hn:l.length<1000):FMM Tryz.prog 200 [.own 0,.p (intP 0),.p (intP (l.length:Int)),.fn 158 [] []] [some (.row 155 l.length (l.flatten.map intP))] (.tup []) [some (.row 155 (isort (ltK 1) l).length ((isort (ltK 1) l).flatten.map intP))]:=by
  have hui:∀ i,uni 2 (isort (ltK 1) (l.take i)):=fun i y hy=>hu y (List.mem_of_mem_take ((isort_mem (ltK 1) _ y).1 hy))
  have key:∀ d i,i+d=l.length→1≤i→LoopOK Tryz.prog 1 zK4c4 (srtRI_S0 l i (isort (ltK 1) (l.take i)++l.drop i).length ((isort (ltK 1) (l.take i)++l.drop i).flatten.map intP)) (.exit 0) (srtRI_S0 l l.length (isort (ltK 1) l).length ((isort (ltK 1) l).flatten.map intP)):=by
    intro d
    induction d with
    | zero =>
      intro i hi _
      obtain rfl:i=l.length:=by omega
      rw [List.take_length,List.drop_length,List.append_nil]
      exact .exit (srtRI_L0_p1 (by omega)) (by simp)
    | succ d ih =>
      intro i hi h1
      have hlt:i<l.length:=by omega
      have hx:=hu l[i] (List.getElem_mem hlt)
      generalize hxx:l[i]=x at hx
      obtain ⟨x0,x1,rfl⟩:=len2 hx
      have hAl:(isort (ltK 1) (l.take i)).length=i:=by rw [isort_length,List.length_take];omega
      have hdr:l.drop i=[x0,x1]::l.drop (i+1):=by rw [List.drop_eq_getElem_cons hlt,hxx]
      have hin:=srtR_in l i (isort (ltK 1) (l.take i)) (l.drop (i+1)) (by omega) hAl.symm x0 x1 (by
        intro y hy
        rcases List.mem_append.1 hy with h | h
        · exact hui i y h
        · rcases List.mem_cons.1 h with rfl | h
          · rfl
          · exact hu y (List.mem_of_mem_drop h)) i (by omega) (fun t ht h2=>by omega)
      have hmv:mv (isort (ltK 1) (l.take i)) [x0,x1] i (l.drop (i+1))=isort (ltK 1) (l.take i)++l.drop i:=by
        have:=mv_end (isort (ltK 1) (l.take i)) [x0,x1] (l.drop (i+1))
        rw [hAl] at this;rw [this,hdr]
      have hsn:=isort_snoc (ltK 1) l i hlt
      rw [hxx] at hsn
      rw [hmv,← hsn] at hin
      exact .step (srtRI_L0_p0 (by omega) hin (by unfold inR;omega) rfl rfl rfl) (ih (i+1) (by omega) (by omega))
  rcases Nat.eq_zero_or_pos l.length with h0 | hp
  · have:l=[]:=List.eq_nil_of_length_eq_zero h0
    subst this
    exact srtRI_p0 (LoopOK.exit (srtRI_L0_p1 (l:=[]) (L:=[]) (i:=1) (by simp)) (by simp))
  · have:=key (l.length-1) 1 (by omega) (by omega)
    have e1:isort (ltK 1) (l.take 1)++l.drop 1=l:=by
      cases l with
      | nil=>simp at hp
      | cons x r=>simp [isort,ins,insPos]
    rw [e1] at this
    exact srtRI_p0 this
def srtRS_S0(l:List (List Int))  : St:=⟨fr 63 [(0,(.own 0)),(1,(.p (intP (l.length:Int)))),(2,(.fn 158 [] [])),(6,(.p (intP 20))),(7,(.p (intP 0))),(8,(.p (intP 20)))],[some (.row 155 l.length (l.flatten.map intP))]⟩
def srtRS_S1(l:List (List Int))  : St:=⟨fr 63 [(0,(.own 0)),(1,(.p (intP (l.length:Int)))),(2,(.fn 158 [] [])),(6,(.p (intP 20))),(7,(.p (intP 0))),(8,(.p (intP 20)))],[some (.row 155 ((isort (ltK 1) l).length) ((isort (ltK 1) l).flatten.map intP))]⟩
theorem srtRS_p0{l:List (List Int)}(hl0:LoopOK Tryz.prog 1 (sub (cd Tryz.f188) [1,1,0,0,0]) (srtRS_S0 l ) (.exit 0) (srtRS_S0 l ))(h1:uni 2 l)(h2:l.length<1000)(hl3:LoopOK Tryz.prog 1 (sub (cd Tryz.f188) [1,1,1,1,0,0]) (srtRS_S1 l ) (.exit 2) (srtRS_S1 l )):FMM Tryz.prog 188 [(.own 0),(.p (intP (l.length:Int))),(.fn 158 [] [])] [some (.row 155 l.length (l.flatten.map intP))] (.tup []) [some (.row 155 ((isort (ltK 1) l).length) ((isort (ltK 1) l).flatten.map intP))]:=by
  exact FMM.fin (k:=1) (g:=⟨[],[],[],[]⟩) rfl Tryz.func188 rfl (o:=[.k 6 ⟨(rng [(3,3),(10,13),(27,1),(43,1),(60,1)]),[],[],[]⟩ (.exit 0) (srtRS_S0 l ),.c (.tup []) [(0,(.row 155 ((zK40 l).length) ((zK40 l).flatten.map intP)))],.k 1 ⟨(rng [(3,3),(10,53)]),[],[],[]⟩ (.exit 2) (srtRS_S1 l )]) (l:=[_,FC Tryz.prog 200 [(.own 0),(.p (intP 0)),(.p (intP (l.length:Int))),(.fn 158 [] [])] [(0,(.row 155 l.length (l.flatten.map intP)))] 1 (.tup []) [(0,(.row 155 ((zK40 l).length) ((zK40 l).flatten.map intP)))],_]) (by kernel_rfl) (gc hl3.code (gc (FMM.fc (ids:=[0]) (srtR_ins l h1 h2) (by kernel_rfl)) (gc hl0.code gn)))
theorem srtRS_L0_p0{l:List (List Int)}(h0:(l.length:Int)<(20:Int)):CodeOK Tryz.prog 1 (sub (cd Tryz.f188) [1,1,0,0,0]) (srtRS_S0 l ) (.exit 0) (srtRS_S0 l ):=by
  exact CodeOK.fin (g:=⟨(rng [(3,3),(10,13),(27,1),(43,1),(60,1)]),[],[],[]⟩) (o:=[bF]) (l:=[_]) (by kernel_rfl) (gc (q_leF h0) gn)
theorem srtRS_L1_p0{l:List (List Int)}(h0:(l.length:Int)≤(20:Int)):CodeOK Tryz.prog 1 (sub (cd Tryz.f188) [1,1,1,1,0,0]) (srtRS_S1 l ) (.exit 2) (srtRS_S1 l ):=by
  exact CodeOK.fin (g:=⟨(rng [(3,3),(10,53)]),[],[],[]⟩) (o:=[bF]) (l:=[_]) (by kernel_rfl) (gc (q_ltF h0) gn)
theorem srtR_stb(l:List (List Int))(hu:uni 2 l)(hn:l.length<20):FMM Tryz.prog 188 [.own 0,.p (intP (l.length:Int)),.fn 158 [] []] [some (.row 155 l.length (l.flatten.map intP))] (.tup []) [some (.row 155 (isort (ltK 1) l).length ((isort (ltK 1) l).flatten.map intP))] := 
  srtRS_p0 (LoopOK.exit (srtRS_L0_p0 (by omega)) (by simp)) hu (by omega) (LoopOK.exit (srtRS_L1_p0 (by omega)) (by simp))
theorem srtRT_p0{l:List (List Int)}(h0:uni 2 l)(h1:l.length<20):FMM Tryz.prog 157 [(.own 0),(.fn 158 [] [])] [some (.row 155 l.length (l.flatten.map intP))] (.tup []) [some (.row 155 ((isort (ltK 1) l).length) ((isort (ltK 1) l).flatten.map intP))]:=by
  exact FMM.fin (k:=1) (g:=⟨[],[],[],[]⟩) rfl Tryz.func157 rfl (o:=[.c (.tup []) [(0,(.row 155 ((zK40 l).length) ((zK40 l).flatten.map intP)))]]) (l:=[FC Tryz.prog 188 [(.own 0),(.p (intP (l.length:Int))),(.fn 158 [] [])] [(0,(.row 155 l.length (l.flatten.map intP)))] 1 (.tup []) [(0,(.row 155 ((zK40 l).length) ((zK40 l).flatten.map intP)))]]) (by kernel_rfl) (gc (FMM.fc (ids:=[0]) (srtR_stb l h0 h1) (by kernel_rfl)) gn)
theorem srtR_ok(l:List (List Int))(hu:uni 2 l)(hn:l.length<20):FMM Tryz.prog 157 [.own 0,.fn 158 [] []] [some (.row 155 l.length (l.flatten.map intP))] (.tup []) [some (.row 155 (isort (ltK 1) l).length ((isort (ltK 1) l).flatten.map intP))]:=srtRT_p0 hu hn
theorem srtNc_p0{a0 a1 a2 a3 b0 b1 b2 b3 r0:Int}(er0:r0=(cmpI a1 b1)){base:Nat}:FV Tryz.prog 100 [(.p (.agg [(intP a0),(intP a1),(intP a2),(intP a3)])),(.p (.agg [(intP b0),(intP b1),(intP b2),(intP b3)]))] base (.p (intP r0)) []:=by
  subst er0
  exact FV.fin Tryz.func100 rfl (o:=[.c (.p (intP (cmpI a1 b1))) []]) (l:=[_]) (by kernel_rfl) (gc (fk 2 (cmp_ok a1 b1) rfl) gn)
def srtNI_S0(l:List (List Int))(i:Nat)(Ln:Nat)(Lc:List PV):St:=⟨fr 53 [(0,(.own 0)),(1,(.p (intP 0))),(2,(.p (intP (l.length:Int)))),(3,(.fn 100 [] [])),(8,(.p (intP (i:Int))))],[some (.row 40 Ln Lc)]⟩
theorem srtNI_p0{l:List (List Int)}{i'0:Nat}{L'1:List (List Int)}(hl0:LoopOK Tryz.prog 1 zK4c5 (srtNI_S0 l 1 l.length (l.flatten.map intP)) (.exit 0) (srtNI_S0 l i'0 L'1.length (L'1.flatten.map intP))):FMM Tryz.prog 183 [(.own 0),(.p (intP 0)),(.p (intP (l.length:Int))),(.fn 100 [] [])] [some (.row 40 l.length (l.flatten.map intP))] (.tup []) [some (.row 40 L'1.length (L'1.flatten.map intP))]:=by
  exact FMM.fin (k:=1) (g:=⟨[],[],[],[]⟩) rfl Tryz.func183 rfl (o:=[.k 3 ⟨(rng [(4,4),(9,44)]),[],[],[]⟩ (.exit 0) (srtNI_S0 l i'0 L'1.length (L'1.flatten.map intP))]) (l:=[_,_]) (by kernel_rfl) (gc hl0.code (gc zK4q0 gn))
def srtNI_S1(l:List (List Int))(i:Nat)(j:Int)(Mn:Nat)(Mc:List PV):St:=⟨fr 53 [(0,(.own 0)),(1,(.p (intP 0))),(2,(.p (intP (l.length:Int)))),(3,(.fn 100 [] [])),(8,(.p (intP (i:Int)))),(9,(.p (intP j))),(12,(.p (intP (i:Int)))),(13,(.p (intP (l.length:Int)))),(14,(.p (blP (decide ((i:Int)<(l.length:Int)))))),(17,(.p (intP (i:Int))))],[some (.row 40 Mn Mc)]⟩
theorem srtNI_L0_p0{l:List (List Int)}{i:Nat}{L:List (List Int)}{j'100:Int}{M'101:List (List Int)}{i':Nat}{L':List (List Int)}(h0:(i:Int)<(l.length:Int))(hl1:LoopOK Tryz.prog 1 zK4c2 (srtNI_S1 l i (i:Int) L.length (L.flatten.map intP)) (.exit 2) (srtNI_S1 l i j'100 M'101.length (M'101.flatten.map intP)))(h2:inR (((i+1):Nat):Int))(ei':i'=(i+1))(eL'n:L'.length=M'101.length)(eL'c:L'.flatten.map intP=(M'101.flatten.map intP)):CodeOK Tryz.prog 1 zK4c5 (srtNI_S0 l i L.length (L.flatten.map intP)) .normal (srtNI_S0 l i' L'.length (L'.flatten.map intP)):=by
  subst ei'
  have raw:CodeOK Tryz.prog 1 zK4c5 (srtNI_S0 l i L.length (L.flatten.map intP)) .normal (srtNI_S0 l (i+1) M'101.length (M'101.flatten.map intP)):=CodeOK.fin (g:=⟨(rng [(4,4),(9,44)]),[],[],[]⟩) (o:=[bT,.k 5 ⟨(rng [(4,4),(10,2),(18,35)]),[],[],[]⟩ (.exit 2) (srtNI_S1 l i j'100 M'101.length (M'101.flatten.map intP))]) (l:=[_,_,_]) (by kernel_rfl) (gc h2 (gc hl1.code (gc (q_lt h0) gn)))
  exact raw.cast (by rw [eL'n,eL'c])
theorem srtNI_L0_p1{l:List (List Int)}{i:Nat}{L:List (List Int)}(h0:(l.length:Int)≤(i:Int)):CodeOK Tryz.prog 1 zK4c5 (srtNI_S0 l i L.length (L.flatten.map intP)) (.exit 0) (srtNI_S0 l i L.length (L.flatten.map intP)):=by
  exact CodeOK.fin (g:=⟨(rng [(4,4),(9,44)]),[],[],[]⟩) (o:=[bF]) (l:=[_]) (by kernel_rfl) (gc (q_ltF h0) gn)
theorem srtNI_L1_p0{l:List (List Int)}{i:Nat}{j:Int}{M:List (List Int)}{y200 y201 y202 y203 y204 y205 y206 y207 j':Int}{M':List (List Int)}(h0:(0:Int)<j)(h1:M[j.toNat]? = some [y200,y201,y202,y203])(h2:0≤j)(h3:uni 4 M)(h4:inR (j-(1:Int)))(h5:M[(j-(1:Int)).toNat]? = some [y204,y205,y206,y207])(h6:0≤(j-(1:Int)))(h7:(cmpI y201 y205)<(0:Int))(h8:[(intP y204),(intP y205),(intP y206),(intP y207)].length=4∧(j.toNat*4)+4≤(M.flatten.map intP).length)(h9:0≤(j-(1:Int))∧(j-(1:Int))<(M.length:Int))(h10:[(intP y200),(intP y201),(intP y202),(intP y203)].length=4∧((j-(1:Int)).toNat*4)+4≤((M.flatten.map intP).take (j.toNat*4)++[(intP y204),(intP y205),(intP y206),(intP y207)]++(M.flatten.map intP).drop ((j.toNat*4)+4)).length)(ej':j'=(j-(1:Int)))(eM'n:M'.length=M.length)(eM'c:M'.flatten.map intP=(((M.flatten.map intP).take (j.toNat*4)++[(intP y204),(intP y205),(intP y206),(intP y207)]++(M.flatten.map intP).drop ((j.toNat*4)+4)).take ((j-(1:Int)).toNat*4)++[(intP y200),(intP y201),(intP y202),(intP y203)]++((M.flatten.map intP).take (j.toNat*4)++[(intP y204),(intP y205),(intP y206),(intP y207)]++(M.flatten.map intP).drop ((j.toNat*4)+4)).drop (((j-(1:Int)).toNat*4)+4))):CodeOK Tryz.prog 1 zK4c2 (srtNI_S1 l i j M.length (M.flatten.map intP)) .normal (srtNI_S1 l i j' M'.length (M'.flatten.map intP)):=by
  subst ej'
  have raw:CodeOK Tryz.prog 1 zK4c2 (srtNI_S1 l i j M.length (M.flatten.map intP)) .normal (srtNI_S1 l i (j-(1:Int)) M.length (((M.flatten.map intP).take (j.toNat*4)++[(intP y204),(intP y205),(intP y206),(intP y207)]++(M.flatten.map intP).drop ((j.toNat*4)+4)).take ((j-(1:Int)).toNat*4)++[(intP y200),(intP y201),(intP y202),(intP y203)]++((M.flatten.map intP).take (j.toNat*4)++[(intP y204),(intP y205),(intP y206),(intP y207)]++(M.flatten.map intP).drop ((j.toNat*4)+4)).drop (((j-(1:Int)).toNat*4)+4))):=CodeOK.fin (g:=⟨(rng [(4,4),(10,2),(18,35)]),[],[],[]⟩) (o:=[bT,bT,bT,bT,bT,.x (.agg [(intP y200),(intP y201),(intP y202),(intP y203)]),bT,bT,bT,bT,bT,.x (.agg [(intP y204),(intP y205),(intP y206),(intP y207)]),bT,.c (.p (intP (cmpI y201 y205))) [],bT,bT,bT,.x (.agg [(intP y204),(intP y205),(intP y206),(intP y207)]),.x (.agg [(intP y200),(intP y201),(intP y202),(intP y203)])]) (l:=[_,_,_,_,_,_,_,_,_,_,_,_,_,_,_,_,FC Tryz.prog 100 [(.p (.agg [(intP y200),(intP y201),(intP y202),(intP y203)])),(.p (.agg [(intP y204),(intP y205),(intP y206),(intP y207)]))] [] 1 (.p (intP (cmpI y201 y205))) [],_,_,_,_,_,_,_,_,_,_,_,_,_,_,_,_,_,_]) (by kernel_rfl) (gc h4 (gc h10 (gc h9 (gc h8 (gc (ix_own (i:=j) h2 h1) (gc (fl_load (i:=j.toNat) h3 h1) (gc (fl_le (i:=j.toNat) h3 h1) (gc (ix_own (i:=j) h2 h1) (gc (fl_load (i:=(j-(1:Int)).toNat) h3 h5) (gc (fl_le (i:=(j-(1:Int)).toNat) h3 h5) (gc (ix_own (i:=(j-(1:Int))) h6 h5) (gc h4 (gc h4 (gc (q_lt h7) (gc (q_lt h0) (gc (q_lt h0) (gc (FV.fc (srtNc_p0 rfl) rfl) (gc (q_lt h0) (gc (fl_load (i:=(j-(1:Int)).toNat) h3 h5) (gc (fl_le (i:=(j-(1:Int)).toNat) h3 h5) (gc (q_lt h0) (gc (ix_own (i:=(j-(1:Int))) h6 h5) (gc (q_lt h0) (gc h4 (gc (q_lt h0) (gc (q_lt h0) (gc (q_lt h0) (gc (fl_load (i:=j.toNat) h3 h1) (gc (fl_le (i:=j.toNat) h3 h1) (gc (q_lt h0) (gc (ix_own (i:=j) h2 h1) (gc (q_lt h0) (gc (q_lt h0) (gc (q_lt h0) (gc (q_lt h0) gn)))))))))))))))))))))))))))))))))))
  exact raw.cast (by rw [eM'n,eM'c])
theorem srtNI_L1_p1{l:List (List Int)}{i:Nat}{j:Int}{M:List (List Int)}{y200 y201 y202 y203 y204 y205 y206 y207:Int}(h0:(0:Int)<j)(h1:M[j.toNat]? = some [y200,y201,y202,y203])(h2:0≤j)(h3:uni 4 M)(h4:inR (j-(1:Int)))(h5:M[(j-(1:Int)).toNat]? = some [y204,y205,y206,y207])(h6:0≤(j-(1:Int)))(h7:(0:Int)≤(cmpI y201 y205)):CodeOK Tryz.prog 1 zK4c2 (srtNI_S1 l i j M.length (M.flatten.map intP)) (.exit 2) (srtNI_S1 l i j M.length (M.flatten.map intP)):=by
  exact CodeOK.fin (g:=⟨(rng [(4,4),(10,2),(18,35)]),[],[],[]⟩) (o:=[bT,bT,bT,bT,bT,.x (.agg [(intP y200),(intP y201),(intP y202),(intP y203)]),bT,bT,bT,bT,bT,.x (.agg [(intP y204),(intP y205),(intP y206),(intP y207)]),bT,.c (.p (intP (cmpI y201 y205))) [],bT,bT,bF]) (l:=[_,_,_,FC Tryz.prog 100 [(.p (.agg [(intP y200),(intP y201),(intP y202),(intP y203)])),(.p (.agg [(intP y204),(intP y205),(intP y206),(intP y207)]))] [] 1 (.p (intP (cmpI y201 y205))) [],_,_,_,_,_,_,_,_,_,_,_,_,_,_,_,_,_,_]) (by kernel_rfl) (gc (q_ltF h7) (gc (q_lt h0) (gc (q_lt h0) (gc (FV.fc (srtNc_p0 rfl) rfl) (gc (q_lt h0) (gc (fl_load (i:=(j-(1:Int)).toNat) h3 h5) (gc (fl_le (i:=(j-(1:Int)).toNat) h3 h5) (gc (q_lt h0) (gc (ix_own (i:=(j-(1:Int))) h6 h5) (gc (q_lt h0) (gc h4 (gc (q_lt h0) (gc (q_lt h0) (gc (q_lt h0) (gc (fl_load (i:=j.toNat) h3 h1) (gc (fl_le (i:=j.toNat) h3 h1) (gc (q_lt h0) (gc (ix_own (i:=j) h2 h1) (gc (q_lt h0) (gc (q_lt h0) (gc (q_lt h0) (gc (q_lt h0) gn))))))))))))))))))))))
theorem srtNI_L1_p2{l:List (List Int)}{i:Nat}{j:Int}{M:List (List Int)}(h0:j≤(0:Int)):CodeOK Tryz.prog 1 zK4c2 (srtNI_S1 l i j M.length (M.flatten.map intP)) (.exit 2) (srtNI_S1 l i j M.length (M.flatten.map intP)):=by
  exact CodeOK.fin (g:=⟨(rng [(4,4),(10,2),(18,35)]),[],[],[]⟩) (o:=[bF,bF,bF,bF,bF,bF,bF,bF,bF,bF,bF,bF,bF]) (l:=[_,_,_,_,_,_,_,_,_,_,_,_,_]) (by kernel_rfl) (gc (q_ltF h0) (gc (q_ltF h0) (gc (q_ltF h0) (gc (q_ltF h0) (gc (q_ltF h0) (gc (q_ltF h0) (gc (q_ltF h0) (gc (q_ltF h0) (gc (q_ltF h0) (gc (q_ltF h0) (gc (q_ltF h0) (gc (q_ltF h0) (gc (q_ltF h0) gn)))))))))))))
theorem srtN_in(l:List (List Int))(i:Nat)(A R:List (List Int))(hA:A.length<1000)(hi:i=A.length)(x0 x1 x2 x3:Int)(hu:uni 4 (A++[x0,x1,x2,x3]::R)):∀ m,m≤A.length→(∀ t (h:t<A.length),m≤t→ltK 1 [x0,x1,x2,x3] A[t]=true) →
    LoopOK Tryz.prog 1 zK4c2 (srtNI_S1 l i (m:Int) (mv A [x0,x1,x2,x3] m R).length ((mv A [x0,x1,x2,x3] m R).flatten.map intP)) (.exit 2) (srtNI_S1 l i (insPos (ltK 1) [x0,x1,x2,x3] A:Int) (ins (ltK 1) A [x0,x1,x2,x3]++R).length ((ins (ltK 1) A [x0,x1,x2,x3]++R).flatten.map intP)):=by
  have huA:∀ y∈A,y.length=4:=fun y hy=>hu y (List.mem_append_left _ hy)
  have huM:∀ m,uni 4 (mv A [x0,x1,x2,x3] m R):=fun m y hy=>by
    unfold mv at hy
    rcases List.mem_append.1 hy with h | h
    · exact huA y (List.mem_of_mem_take h)
    · rcases List.mem_cons.1 h with rfl | h
      · rfl
      · rcases List.mem_append.1 h with h | h
        · exact huA y (List.mem_of_mem_drop h)
        · exact hu y (List.mem_append_right _ (List.mem_cons_of_mem _ h))
  intro m
  induction m with
  | zero =>
    intro _ hlt
    have e:=insPos_eq (ltK 1) [x0,x1,x2,x3] A 0 (Nat.zero_le _) hlt (.inl rfl)
    rw [← mv_ins,e]
    exact .exit (srtNI_L1_p2 (by simp)) (by simp)
  | succ m ih =>
    intro hm hlt
    have hy:=List.getElem?_eq_getElem (show m<A.length by omega)
    generalize A[m]=y at hy
    obtain ⟨y0,y1,y2,y3,rfl⟩:=len4 (huA y (List.mem_of_getElem? hy))
    have e1:((m+1:Nat):Int).toNat=m+1:=by omega
    have e2:(((m+1:Nat):Int)-1).toNat=m:=by omega
    have hl:=mv_length A [x0,x1,x2,x3] (m+1) R hm
    have g1:(mv A [x0,x1,x2,x3] (m+1) R)[m+1]? = some [x0,x1,x2,x3]:=by rw [mv_get A _ _ R hm];simp
    have g2:(mv A [x0,x1,x2,x3] (m+1) R)[m]? = some [y0,y1,y2,y3]:=by rw [mv_get A _ _ R hm,if_pos (by omega)];exact hy
    by_cases hc:cmpI x1 y1<0
    · have st:=fl_store (k:=4) (i:=m+1) (x:=[y0,y1,y2,y3]) (huM (m+1)) (by omega) rfl
      have hs1:uni 4 ((mv A [x0,x1,x2,x3] (m+1) R).set (m+1) [y0,y1,y2,y3]):=uni_set (huM _) rfl
      have st2:=fl_store (k:=4) (i:=m) (x:=[x0,x1,x2,x3]) hs1 (by rw [List.length_set];omega) rfl
      have gm:((mv A [x0,x1,x2,x3] (m+1) R).set (m+1) [y0,y1,y2,y3])[m]? = some [y0,y1,y2,y3]:=by rw [List.getElem?_set,if_neg (by omega)];exact g2
      have hsw:=mv_swap A [x0,x1,x2,x3] (m+1) R hm (by omega) [y0,y1,y2,y3] (by simpa using hy)
      rw [Nat.add_sub_cancel] at hsw
      simp only [List.map_cons,List.map_nil] at st st2
      refine .step (srtNI_L1_p0 (j:=((m+1:Nat):Int)) (j':=(m:Int)) (M':=mv A [x0,x1,x2,x3] m R) (by omega) (by rw [e1];exact g1) (by omega) (huM _) (by unfold inR;omega) (by rw [e2];exact g2) (by omega) hc ⟨rfl,by rw [e1];exact fl_le (huM _) g1⟩ ⟨by omega,by omega⟩ ⟨rfl,?_⟩ (by omega) (by rw [hl,mv_length A _ _ R (by omega)]) ?_) (ih (by omega) fun t ht h1 => ?_)
      · rw [e1,e2,st];exact fl_le hs1 gm
      · rw [e1,e2,st,st2,hsw]
      · by_cases h2:t=m
        · subst h2
          have h3:=hy
          rw [List.getElem?_eq_getElem ht,Option.some.injEq] at h3
          rw [h3]
          simpa [ltK] using hc
        · exact hlt t ht (by omega)
    · have e:=insPos_eq (ltK 1) [x0,x1,x2,x3] A (m+1) hm hlt (.inr ⟨[y0,y1,y2,y3],by simpa using hy,by simpa [ltK] using hc⟩)
      rw [← mv_ins,e]
      exact .exit (srtNI_L1_p1 (by omega) (by rw [e1];exact g1) (by omega) (huM _) (by unfold inR;omega) (by rw [e2];exact g2) (by omega) (by omega)) (by simp)
theorem srtN_ins(l:List (List Int))(hu:uni 4 l)(hn:l.length<1000):FMM Tryz.prog 183 [.own 0,.p (intP 0),.p (intP (l.length:Int)),.fn 100 [] []] [some (.row 40 l.length (l.flatten.map intP))] (.tup []) [some (.row 40 (isort (ltK 1) l).length ((isort (ltK 1) l).flatten.map intP))]:=by
  have hui:∀ i,uni 4 (isort (ltK 1) (l.take i)):=fun i y hy=>hu y (List.mem_of_mem_take ((isort_mem (ltK 1) _ y).1 hy))
  have key:∀ d i,i+d=l.length→1≤i→LoopOK Tryz.prog 1 zK4c5 (srtNI_S0 l i (isort (ltK 1) (l.take i)++l.drop i).length ((isort (ltK 1) (l.take i)++l.drop i).flatten.map intP)) (.exit 0) (srtNI_S0 l l.length (isort (ltK 1) l).length ((isort (ltK 1) l).flatten.map intP)):=by
    intro d
    induction d with
    | zero =>
      intro i hi _
      obtain rfl:i=l.length:=by omega
      rw [List.take_length,List.drop_length,List.append_nil]
      exact .exit (srtNI_L0_p1 (by omega)) (by simp)
    | succ d ih =>
      intro i hi h1
      have hlt:i<l.length:=by omega
      have hx:=hu l[i] (List.getElem_mem hlt)
      generalize hxx:l[i]=x at hx
      obtain ⟨x0,x1,x2,x3,rfl⟩:=len4 hx
      have hAl:(isort (ltK 1) (l.take i)).length=i:=by rw [isort_length,List.length_take];omega
      have hdr:l.drop i=[x0,x1,x2,x3]::l.drop (i+1):=by rw [List.drop_eq_getElem_cons hlt,hxx]
      have hin:=srtN_in l i (isort (ltK 1) (l.take i)) (l.drop (i+1)) (by omega) hAl.symm x0 x1 x2 x3 (by
        intro y hy
        rcases List.mem_append.1 hy with h | h
        · exact hui i y h
        · rcases List.mem_cons.1 h with rfl | h
          · rfl
          · exact hu y (List.mem_of_mem_drop h)) i (by omega) (fun t ht h2=>by omega)
      have hmv:mv (isort (ltK 1) (l.take i)) [x0,x1,x2,x3] i (l.drop (i+1))=isort (ltK 1) (l.take i)++l.drop i:=by
        have:=mv_end (isort (ltK 1) (l.take i)) [x0,x1,x2,x3] (l.drop (i+1))
        rw [hAl] at this;rw [this,hdr]
      have hsn:=isort_snoc (ltK 1) l i hlt
      rw [hxx] at hsn
      rw [hmv,← hsn] at hin
      exact .step (srtNI_L0_p0 (by omega) hin (by unfold inR;omega) rfl rfl rfl) (ih (i+1) (by omega) (by omega))
  rcases Nat.eq_zero_or_pos l.length with h0 | hp
  · have:l=[]:=List.eq_nil_of_length_eq_zero h0
    subst this
    exact srtNI_p0 (LoopOK.exit (srtNI_L0_p1 (l:=[]) (L:=[]) (i:=1) (by simp)) (by simp))
  · have:=key (l.length-1) 1 (by omega) (by omega)
    have e1:isort (ltK 1) (l.take 1)++l.drop 1=l:=by
      cases l with
      | nil=>simp at hp
      | cons x r=>simp [isort,ins,insPos]
    rw [e1] at this
    exact srtNI_p0 this
def srtNS_S0(l:List (List Int))  : St:=⟨fr 63 [(0,(.own 0)),(1,(.p (intP (l.length:Int)))),(2,(.fn 100 [] [])),(6,(.p (intP 20))),(7,(.p (intP 0))),(8,(.p (intP 20)))],[some (.row 40 l.length (l.flatten.map intP))]⟩
def srtNS_S1(l:List (List Int))  : St:=⟨fr 63 [(0,(.own 0)),(1,(.p (intP (l.length:Int)))),(2,(.fn 100 [] [])),(6,(.p (intP 20))),(7,(.p (intP 0))),(8,(.p (intP 20)))],[some (.row 40 ((isort (ltK 1) l).length) ((isort (ltK 1) l).flatten.map intP))]⟩
theorem srtNS_p0{l:List (List Int)}(hl0:LoopOK Tryz.prog 1 (sub (cd Tryz.f146) [1,1,0,0,0]) (srtNS_S0 l ) (.exit 0) (srtNS_S0 l ))(h1:uni 4 l)(h2:l.length<1000)(hl3:LoopOK Tryz.prog 1 (sub (cd Tryz.f146) [1,1,1,1,0,0]) (srtNS_S1 l ) (.exit 2) (srtNS_S1 l )):FMM Tryz.prog 146 [(.own 0),(.p (intP (l.length:Int))),(.fn 100 [] [])] [some (.row 40 l.length (l.flatten.map intP))] (.tup []) [some (.row 40 ((isort (ltK 1) l).length) ((isort (ltK 1) l).flatten.map intP))]:=by
  exact FMM.fin (k:=1) (g:=⟨[],[],[],[]⟩) rfl Tryz.func146 rfl (o:=[.k 6 ⟨(rng [(3,3),(10,13),(27,1),(43,1),(60,1)]),[],[],[]⟩ (.exit 0) (srtNS_S0 l ),.c (.tup []) [(0,(.row 40 ((zK40 l).length) ((zK40 l).flatten.map intP)))],.k 1 ⟨(rng [(3,3),(10,53)]),[],[],[]⟩ (.exit 2) (srtNS_S1 l )]) (l:=[_,FC Tryz.prog 183 [(.own 0),(.p (intP 0)),(.p (intP (l.length:Int))),(.fn 100 [] [])] [(0,(.row 40 l.length (l.flatten.map intP)))] 1 (.tup []) [(0,(.row 40 ((zK40 l).length) ((zK40 l).flatten.map intP)))],_]) (by kernel_rfl) (gc hl3.code (gc (FMM.fc (ids:=[0]) (srtN_ins l h1 h2) (by kernel_rfl)) (gc hl0.code gn)))
theorem srtNS_L0_p0{l:List (List Int)}(h0:(l.length:Int)<(20:Int)):CodeOK Tryz.prog 1 (sub (cd Tryz.f146) [1,1,0,0,0]) (srtNS_S0 l ) (.exit 0) (srtNS_S0 l ):=by
  exact CodeOK.fin (g:=⟨(rng [(3,3),(10,13),(27,1),(43,1),(60,1)]),[],[],[]⟩) (o:=[bF]) (l:=[_]) (by kernel_rfl) (gc (q_leF h0) gn)
theorem srtNS_L1_p0{l:List (List Int)}(h0:(l.length:Int)≤(20:Int)):CodeOK Tryz.prog 1 (sub (cd Tryz.f146) [1,1,1,1,0,0]) (srtNS_S1 l ) (.exit 2) (srtNS_S1 l ):=by
  exact CodeOK.fin (g:=⟨(rng [(3,3),(10,53)]),[],[],[]⟩) (o:=[bF]) (l:=[_]) (by kernel_rfl) (gc (q_ltF h0) gn)
theorem srtN_stb(l:List (List Int))(hu:uni 4 l)(hn:l.length<20):FMM Tryz.prog 146 [.own 0,.p (intP (l.length:Int)),.fn 100 [] []] [some (.row 40 l.length (l.flatten.map intP))] (.tup []) [some (.row 40 (isort (ltK 1) l).length ((isort (ltK 1) l).flatten.map intP))] := 
  srtNS_p0 (LoopOK.exit (srtNS_L0_p0 (by omega)) (by simp)) hu (by omega) (LoopOK.exit (srtNS_L1_p0 (by omega)) (by simp))
theorem srtNT_p0{l:List (List Int)}(h0:uni 4 l)(h1:l.length<20):FMM Tryz.prog 99 [(.own 0),(.fn 100 [] [])] [some (.row 40 l.length (l.flatten.map intP))] (.tup []) [some (.row 40 ((isort (ltK 1) l).length) ((isort (ltK 1) l).flatten.map intP))]:=by
  exact FMM.fin (k:=1) (g:=⟨[],[],[],[]⟩) rfl Tryz.func99 rfl (o:=[.c (.tup []) [(0,(.row 40 ((zK40 l).length) ((zK40 l).flatten.map intP)))]]) (l:=[FC Tryz.prog 146 [(.own 0),(.p (intP (l.length:Int))),(.fn 100 [] [])] [(0,(.row 40 l.length (l.flatten.map intP)))] 1 (.tup []) [(0,(.row 40 ((zK40 l).length) ((zK40 l).flatten.map intP)))]]) (by kernel_rfl) (gc (FMM.fc (ids:=[0]) (srtN_stb l h0 h1) (by kernel_rfl)) gn)
theorem srtN_ok(l:List (List Int))(hu:uni 4 l)(hn:l.length<20):FMM Tryz.prog 99 [.own 0,.fn 100 [] []] [some (.row 40 l.length (l.flatten.map intP))] (.tup []) [some (.row 40 (isort (ltK 1) l).length ((isort (ltK 1) l).flatten.map intP))]:=srtNT_p0 hu hn
end
end KV
end Go.Proofs
section
namespace Go.Proofs
namespace KL

theorem clashLoop_iff:∀ (r:List Int) (v:Int) (k:Nat),(v::r).Pairwise (· ≤ ·) →
    ((∃ f,clashLoop (some v) (v+k) r=some f∧f≤61)↔(v+k+(r.count v:Nat)≤61∧∀ q∈r,v<q→v+k+(r.count v:Nat)≤q)∧∀ p∈r,v<p→p+(r.count p:Nat)≤61∧∀ q∈r,p<q→p+(r.count p:Nat)≤q)
  | [],v,k,_=>by simp [clashLoop]
  | x::r,v,k,hs=>by
    obtain ⟨h1,h2⟩:=List.pairwise_cons.1 hs
    have hx:v≤x:=h1 x (by simp)
    obtain ⟨h3,h4⟩:=List.pairwise_cons.1 h2
    have hr:∀ q∈r,x≤q:=h3
    unfold clashLoop
    by_cases he:v=x
    · subst he
      rw [if_pos rfl]
      have ih:=clashLoop_iff r v (k+1) h2
      have e:v+((k+1:Nat):Int)=v+k+1:=by omega
      rw [e] at ih
      rw [ih]
      have c1:(((v::r).count v:Nat):Int)=(r.count v:Nat)+1:=by rw [List.count_cons_self];omega
      rw [c1]
      have c2:∀ p,v<p→(v::r).count p=r.count p:=fun p hp=>List.count_cons_of_ne (by omega)
      constructor
      · rintro ⟨⟨q1,q2⟩,q3⟩
        refine ⟨⟨by omega,fun q hq hv => ?_⟩,fun p hp hv => ?_⟩
        · rcases List.mem_cons.1 hq with rfl | hq
          · omega
          · have:=q2 q hq hv;omega
        · rcases List.mem_cons.1 hp with rfl | hp
          · omega
          · rw [c2 p hv]
            obtain ⟨q4,q5⟩:=q3 p hp hv
            refine ⟨q4,fun q hq hv2 => ?_⟩
            rcases List.mem_cons.1 hq with rfl | hq
            · omega
            · exact q5 q hq hv2
      · rintro ⟨⟨q1,q2⟩,q3⟩
        refine ⟨⟨by omega,fun q hq hv => ?_⟩,fun p hp hv => ?_⟩
        · have:=q2 q (List.mem_cons_of_mem _ hq) hv;omega
        · obtain ⟨q4,q5⟩:=q3 p (List.mem_cons_of_mem _ hp) hv
          rw [c2 p hv] at q4 q5
          exact ⟨q4,fun q hq hv2=>q5 q (List.mem_cons_of_mem _ hq) hv2⟩
    · have hlt:v<x:=by omega
      rw [if_neg (by simpa using he)]
      have c0:(x::r).count v=0:=List.count_eq_zero.2 fun hm=>by
        rcases List.mem_cons.1 hm with h | h
        · omega
        · have:=hr v h;omega
      rw [c0]
      by_cases hc:x<v+k
      · rw [if_pos hc]
        constructor
        · rintro ⟨f,h,_⟩;cases h
        · rintro ⟨⟨_,q2⟩,_⟩
          have:=q2 x (by simp) hlt
          simp at this
          omega
      · rw [if_neg hc]
        have ih:=clashLoop_iff r x 1 h2
        have e:x+((1:Nat):Int)=x+1:=rfl
        rw [e] at ih
        rw [ih]
        have c1:(((x::r).count x:Nat):Int)=(r.count x:Nat)+1:=by rw [List.count_cons_self];omega
        have c2:∀ p,x<p→(x::r).count p=r.count p:=fun p hp=>List.count_cons_of_ne (by omega)
        constructor
        · rintro ⟨⟨q1,q2⟩,q3⟩
          refine ⟨⟨by simp;omega,fun q hq hv => ?_⟩,fun p hp hv => ?_⟩
          · rcases List.mem_cons.1 hq with rfl | hq
            · simp;omega
            · have:=hr q hq;simp;omega
          · have hpx:p=x∨(p∈r∧x<p):=by
              rcases List.mem_cons.1 hp with h | h
              · exact .inl h
              · have:=hr p h
                by_cases hpx:p=x
                · exact .inl hpx
                · exact .inr ⟨h,by omega⟩
            rcases hpx with rfl | ⟨hp,hxp⟩
            · rw [c1]
              refine ⟨by omega,fun q hq hv2 => ?_⟩
              rcases List.mem_cons.1 hq with rfl | hq
              · omega
              · have:=q2 q hq hv2;omega
            · rw [c2 p hxp]
              obtain ⟨q4,q5⟩:=q3 p hp hxp
              refine ⟨q4,fun q hq hv2 => ?_⟩
              rcases List.mem_cons.1 hq with rfl | hq
              · omega
              · exact q5 q hq hv2
        · rintro ⟨⟨q1,q2⟩,q3⟩
          obtain ⟨q4,q5⟩:=q3 x (by simp) hlt
          rw [c1] at q4 q5
          refine ⟨⟨by omega,fun q hq hv => ?_⟩,fun p hp hv => ?_⟩
          · have:=q5 q (List.mem_cons_of_mem _ hq) hv;omega
          · obtain ⟨q6,q7⟩:=q3 p (List.mem_cons_of_mem _ hp) (by omega)
            rw [c2 p hv] at q6 q7
            exact ⟨q6,fun q hq hv2=>q7 q (List.mem_cons_of_mem _ hq) hv2⟩

def NoClash(race:List Int):Prop:=∀ p∈race,p≠0→p+(race.count p:Nat)≤61∧∀ q∈race,p<q→p+(race.count p:Nat)≤q

theorem leB_trans:∀ a b c:Int,leB a b=true→leB b c=true→leB a c=true:=fun a b c h1 h2=>by simp [leB] at *;omega
theorem leB_total:∀ a b:Int,(leB a b || leB b a)=true:=fun a b=>by simp [leB];omega

theorem clash_iff(race:List Int)(h0:∀ x∈race,0≤x):clashR race=false↔NoClash race:=by
  have hs:(placesOf race).Pairwise (· ≤ ·):=by
    have:=List.pairwise_mergeSort leB_trans leB_total (race.filter fun x => !nz x)
    exact this.imp (fun h=>by simpa [leB] using h)
  have hm:∀ x,x∈placesOf race↔x∈race∧x≠0:=fun x=>by
    unfold placesOf;rw [List.mem_mergeSort,List.mem_filter];simp [nz]
  have hc:∀ x,x≠0→(placesOf race).count x=race.count x:=fun x hx=>by
    unfold placesOf
    rw [(List.mergeSort_perm _ _).count_eq,List.count_filter]
    simp [nz,hx]
  have key:clashR race=false↔∃ f,clashLoop none 1 (placesOf race)=some f∧f≤61:=by
    unfold clashR
    cases h:clashLoop none 1 (placesOf race) with
    | none=>simp
    | some f=>simp
  rw [key]
  have fin:∀ l:List Int,(∀ x,x∈l↔x∈race∧x≠0)→(∀ x,x≠0→l.count x=race.count x)→((∀ p∈l,p+(l.count p:Nat)≤61∧∀ q∈l,p<q→p+(l.count p:Nat)≤q)↔NoClash race):=fun l hm hc=>by
    constructor
    · intro h p hp hp0
      obtain ⟨h1,h2⟩:=h p ((hm p).2 ⟨hp,hp0⟩)
      rw [hc p hp0] at h1 h2
      exact ⟨h1,fun q hq hlt=>h2 q ((hm q).2 ⟨hq,by have:=h0 p hp;omega⟩) hlt⟩
    · intro h p hp
      obtain ⟨h1,h2⟩:=(hm p).1 hp
      rw [hc p h2]
      obtain ⟨h3,h4⟩:=h p h1 h2
      exact ⟨h3,fun q hq hlt=>h4 q ((hm q).1 hq).1 hlt⟩
  rw [← fin _ hm hc]
  cases hl:placesOf race with
  | nil=>simp [clashLoop]
  | cons x r =>
    rw [hl] at hs hm
    have hx1:1≤x:=by
      obtain ⟨h1,h2⟩:=(hm x).1 (by simp)
      have:=h0 x h1;omega
    unfold clashLoop
    rw [if_neg (by simp),if_neg (by omega)]
    have:=clashLoop_iff r x 1 hs
    rw [show x+((1:Nat):Int)=x+1 from rfl] at this
    rw [this]
    obtain ⟨h3,_⟩:=List.pairwise_cons.1 hs
    have c1:(((x::r).count x:Nat):Int)=(r.count x:Nat)+1:=by rw [List.count_cons_self];omega
    have c2:∀ p,x<p→(x::r).count p=r.count p:=fun p hp=>List.count_cons_of_ne (by omega)
    constructor
    · rintro ⟨⟨q1,q2⟩,q3⟩ p hp
      have hpx:p=x∨(p∈r∧x<p):=by
        rcases List.mem_cons.1 hp with h | h
        · exact .inl h
        · have:=h3 p h
          by_cases hpx:p=x
          · exact .inl hpx
          · exact .inr ⟨h,by omega⟩
      rcases hpx with rfl | ⟨hp,hxp⟩
      · rw [c1]
        refine ⟨by omega,fun q hq hv2 => ?_⟩
        rcases List.mem_cons.1 hq with rfl | hq
        · omega
        · have:=q2 q hq hv2;omega
      · rw [c2 p hxp]
        obtain ⟨q4,q5⟩:=q3 p hp hxp
        refine ⟨q4,fun q hq hv2 => ?_⟩
        rcases List.mem_cons.1 hq with rfl | hq
        · omega
        · exact q5 q hq hv2
    · intro h
      obtain ⟨q4,q5⟩:=h x (by simp)
      rw [c1] at q4 q5
      refine ⟨⟨by omega,fun q hq hv => ?_⟩,fun p hp hv => ?_⟩
      · have:=q5 q (List.mem_cons_of_mem _ hq) hv;omega
      · obtain ⟨q6,q7⟩:=h p (List.mem_cons_of_mem _ hp)
        rw [c2 p hv] at q6 q7
        exact ⟨q6,fun q hq hv2=>q7 q (List.mem_cons_of_mem _ hq) hv2⟩

theorem valid_take{c:Cup}(hV:Valid c)(n:Nat):Valid { c with done:=c.done.take n } :=
  ⟨hV.sk1,hV.sk2,hV.ra1,hV.ra2,hV.be1,hV.be2,hV.pt1,hV.pt2,by have:=hV.dn;simp;omega,fun r hr=>hV.len r (List.mem_of_mem_take hr),hV.pts,fun r hr=>hV.rows r (List.mem_of_mem_take hr),hV.falls,by
    have:=hV.clash
    rw [List.any_eq_false] at this ⊢
    exact fun r hr=>this r (List.mem_of_mem_take hr)⟩
def race2(n o:Nat)(p:Int)(s:Nat)(w:Int):List Int:=((List.replicate n (0:Int)).set o p).set s w
theorem race2_length(n o:Nat)(p:Int)(s:Nat)(w:Int):(race2 n o p s w).length=n:=by simp [race2]
theorem race2_mem{n o s:Nat}{p w x:Int}(h:x∈race2 n o p s w):x=0∨x=p∨x=w:=by
  unfold race2 at h
  rcases List.mem_or_eq_of_mem_set h with h | h
  · rcases List.mem_or_eq_of_mem_set h with h | h
    · rw [List.mem_replicate] at h;exact .inl h.2
    · exact .inr (.inl h)
  · exact .inr (.inr h)
theorem count_set_le{l:List Int}{i:Nat}{x y:Int}:(l.set i x).count y≤l.count y+if x=y then 1 else 0:=by
  by_cases hi:i<l.length
  · rw [List.count_set hi]
    split <;> split <;> simp_all <;> omega
  · rw [List.set_eq_of_length_le (by omega)];omega
theorem race2_noClash{n o s:Nat}{p w:Int}(hp:0≤p∧p≤60)(hw:0≤w∧w≤60)(hne:p=0∨w=0∨p≠w):NoClash (race2 n o p s w):=by
  have hcnt:∀ x,x≠0→(race2 n o p s w).count x≤1:=fun x hx=>by
    have h1:=count_set_le (l:=(List.replicate n (0:Int)).set o p) (i:=s) (x:=w) (y:=x)
    have h2:=count_set_le (l:=List.replicate n (0:Int)) (i:=o) (x:=p) (y:=x)
    have h3:(List.replicate n (0:Int)).count x=0:=by rw [List.count_replicate];simp;omega
    unfold race2
    by_cases e1:w=x <;> by_cases e2:p=x <;> simp [e1,e2] at h1 h2 ⊢ <;> omega
  intro x hx h0
  have:=hcnt x h0
  refine ⟨?_,fun q hq hlt=>by omega⟩
  rcases race2_mem hx with h | h | h <;> omega
theorem valid_race{c:Cup}(hV:Valid c)(hd:(c.done.length:Int)<c.ra){race:List Int}(hl:(race.length:Int)=c.sk)(h0:∀ x∈race,0≤x∧x≤60)(hn:NoClash race):Valid (withC c [race]):=by
  refine valid_with hV (by simp;omega) (fun r hr => ?_) (fun r hr => ?_) ?_
  · rw [List.mem_singleton] at hr;subst hr;exact hl
  · rw [List.mem_singleton] at hr;subst hr;exact h0
  · simp [(clash_iff race fun x hx=>(h0 x hx).1).2 hn]
theorem valid_race2{c:Cup}(hV:Valid c)(hd:(c.done.length:Int)<c.ra){o s:Nat}{p w:Int}(hp:0≤p∧p≤60)(hw:0≤w∧w≤60)(hne:p=0∨w=0∨p≠w):Valid (withC c [race2 c.sk.toNat o p s w]) :=
  valid_race hV hd (by rw [race2_length];have:=hV.sk1;omega) (fun x hx=>by rcases race2_mem hx with h | h | h <;> omega) (race2_noClash hp hw hne)
end KL
end Go.Proofs
end
namespace Go.Proofs
namespace KV
section
open KL
noncomputable abbrev zK5c0:Code:=sub (cd Tryz.f127) [1,1,0,1,0,0]
noncomputable abbrev zK5c1:Code:=sub (cd Tryz.f73) [1,0,1,1,1,1,0,1,0,0]
noncomputable abbrev zK5c2:Code:=sub (cd Tryz.f127) [1,1,0,1,0,0,1,1,0,0,1,1,1,0,0,0]
noncomputable abbrev zK5c3:Code:=sub (cd Tryz.f55) [1,1,1,1,1,0,1,0,0]
noncomputable abbrev zK5c4:Code:=sub (cd Tryz.f34) [1,1,1,1,0,1,0,0]
def dec_S0(c:Cup)(i:Nat)(r:Int)(f:Int):St:=⟨fr 58 [(2,(.p (intP r))),(3,(.p (intP 0))),(4,(.p (intP (checkP c)))),(5,(.ptr 0 0)),(6,(.p (intP f))),(23,(.p (intP (((c.done.length+1):Nat):Int)))),(24,(.p (intP (i:Int))))],[some (.box 120 [(.p (intP c.sk)),(.p (intP c.ra)),(.p (intP c.be)),(.p (intsP c.pts)),(.p (rowsP c.done))])]⟩
theorem dec_p1{c:Cup}{i'0:Nat}{r'1 f'2:Int}(h0:KL.Small c)(h1:(checkP c)=(0:Int))(h2:inR (((c.done.length+1):Nat):Int))(hl3:LoopOK Tryz.prog 0 zK5c1 (dec_S0 c 0 (0:Int) (-1:Int)) (.exit 0) (dec_S0 c i'0 r'1 f'2))(h4:f'2<(0:Int)){base:Nat}:FV Tryz.prog 73 [(.p (cupP c))] base (.tup [(.p (intP 0)),(.p (intP 0)),(.p (intP 6))]) []:=by
  exact FV.frz (FMM.fin (k:=0) (g:=⟨[],[],[],[]⟩) rfl Tryz.func73 rfl (o:=[.c (.tup [(.p (cupP c)),(.p (intP (checkP c)))]) [],bF,.k 7 ⟨(rng [(0,2),(7,16),(25,29)]),[1],[],[]⟩ (.exit 0) (dec_S0 c i'0 r'1 f'2),bT]) (l:=[_,_,_,_,_]) (by kernel_rfl) (gc (q_lt h4) (gc hl3.code (gc h2 (gc (q_neF h1) (gc (fk 1 (asked_ok c h0) rfl) gn)))))) (by kernel_rfl)
theorem dec_p2{c:Cup}{i'0:Nat}{r'1 f'2:Int}(h0:KL.Small c)(h1:(checkP c)=(0:Int))(h2:inR (((c.done.length+1):Nat):Int))(hl3:LoopOK Tryz.prog 0 zK5c1 (dec_S0 c 0 (0:Int) (-1:Int)) (.exit 0) (dec_S0 c i'0 r'1 f'2))(h4:(0:Int)≤f'2){base:Nat}:FV Tryz.prog 73 [(.p (cupP c))] base (.tup [(.p (intP r'1)),(.p (intP f'2)),(.p (intP 0))]) []:=by
  exact FV.frz (FMM.fin (k:=0) (g:=⟨[],[],[],[]⟩) rfl Tryz.func73 rfl (o:=[.c (.tup [(.p (cupP c)),(.p (intP (checkP c)))]) [],bF,.k 7 ⟨(rng [(0,2),(7,16),(25,29)]),[1],[],[]⟩ (.exit 0) (dec_S0 c i'0 r'1 f'2),bF]) (l:=[_,_,_,_,_]) (by kernel_rfl) (gc (q_ltF h4) (gc hl3.code (gc h2 (gc (q_neF h1) (gc (fk 1 (asked_ok c h0) rfl) gn)))))) (by kernel_rfl)
abbrev zK50(c:Cup)(l100:List (List Int)):=whoM (sureM (⟨c.sk,c.ra,c.be,c.pts,l100⟩:Cup)) (⟨c.sk,c.ra,c.be,c.pts,l100⟩:Cup).sk.toNat
abbrev zK51(c:Cup)(l100:List (List Int)):=whoM (canM (⟨c.sk,c.ra,c.be,c.pts,l100⟩:Cup)) (⟨c.sk,c.ra,c.be,c.pts,l100⟩:Cup).sk.toNat
theorem dec_L0_p0{c:Cup}{i:Nat}{r f:Int}{l100:List (List Int)}{x101 r':Int}(h0:(i:Int)<(((c.done.length+1):Nat):Int))(h1:0≤(0:Int)∧(0:Int)≤(i:Int)∧(i:Int)≤(c.done.length:Int)∧(c.done.map intsP).length=c.done.length*1)(h2:(i-0)=l100.length)(h3:((c.done.map intsP).take (i*1))=l100.map intsP)(h4:KL.Valid (⟨c.sk,c.ra,c.be,c.pts,l100⟩:Cup))(h5:(0:Int)<(((whoM (sureM (⟨c.sk,c.ra,c.be,c.pts,l100⟩:Cup)) (⟨c.sk,c.ra,c.be,c.pts,l100⟩:Cup).sk.toNat).length:Nat):Int))(h6:(((whoM (canM (⟨c.sk,c.ra,c.be,c.pts,l100⟩:Cup)) (⟨c.sk,c.ra,c.be,c.pts,l100⟩:Cup).sk.toNat).length:Nat):Int)=(1:Int))(h7:(whoM (sureM (⟨c.sk,c.ra,c.be,c.pts,l100⟩:Cup)) (⟨c.sk,c.ra,c.be,c.pts,l100⟩:Cup).sk.toNat)[0]? = some x101)(er':r'=(i:Int)):CodeOK Tryz.prog 0 zK5c1 (dec_S0 c i r f) (.exit 0) (dec_S0 c i r' x101):=by
  subst er'
  exact CodeOK.fin (g:=⟨(rng [(0,2),(7,16),(25,29)]),[0],[],[]⟩) (o:=[bT,.c (.agg [(.fn 137 [] [])]) [],.c (.p (intsP (zK51 c l100))) [],.c (.agg [(.fn 149 [] [])]) [],.c (.p (intsP (zK50 c l100))) [],bT,bT,bT,bT,bT,.x (intP x101)]) (l:=[((zK50 c l100).map intP)[0]? = some (intP x101),0≤(0:Int)∧(0:Int)<(((zK50 c l100).length:Nat):Int)∧0<((zK50 c l100).map intP).length,_,_,_,_,_,FC Tryz.prog 110 [(.agg [(.fn 149 [] [])]),(.p (.agg [(intP c.sk),(intP c.ra),(intP c.be),(intsP c.pts),(.sl (i-0) ((c.done.map intsP).take (i*1)))]))] [] 14 (.p (intsP (zK50 c l100))) [],FC Tryz.prog 111 [] [] 10 (.agg [(.fn 149 [] [])]) [],FC Tryz.prog 110 [(.agg [(.fn 137 [] [])]),(.p (.agg [(intP c.sk),(intP c.ra),(intP c.be),(intsP c.pts),(.sl (i-0) ((c.done.map intsP).take (i*1)))]))] [] 6 (.p (intsP (zK51 c l100))) [],FC Tryz.prog 109 [] [] 2 (.agg [(.fn 137 [] [])]) [],_,_]) (by kernel_rfl) (gc (at_map (i:=0) h7) (gc (ix_map (i:=(0:Int)) (by first | decide | simp) h7) (gc (q_eq h6) (gc (q_lt h5) (gc (q_lt h5) (gc (q_lt h5) (gc (q_lt h5) (gc (FV.fc (by rw [show ((.sl (i-0) ((c.done.map intsP).take (i*1))):PV)=rowsP l100 from sl_cast h2 h3];exact (sureA_ok (⟨c.sk,c.ra,c.be,c.pts,l100⟩:Cup) h4)) rfl) (gc (FV.fc sureQ_p0 (by kernel_rfl)) (gc (FV.fc (by rw [show ((.sl (i-0) ((c.done.map intsP).take (i*1))):PV)=rowsP l100 from sl_cast h2 h3];exact (canA_ok (⟨c.sk,c.ra,c.be,c.pts,l100⟩:Cup) h4)) rfl) (gc (FV.fc canQ_p0 (by kernel_rfl)) (gc h1 (gc (q_lt h0) gn)))))))))))))
theorem dec_L0_p1{c:Cup}{i:Nat}{r f:Int}{l100:List (List Int)}{i':Nat}(h0:(i:Int)<(((c.done.length+1):Nat):Int))(h1:0≤(0:Int)∧(0:Int)≤(i:Int)∧(i:Int)≤(c.done.length:Int)∧(c.done.map intsP).length=c.done.length*1)(h2:(i-0)=l100.length)(h3:((c.done.map intsP).take (i*1))=l100.map intsP)(h4:KL.Valid (⟨c.sk,c.ra,c.be,c.pts,l100⟩:Cup))(h5:(0:Int)<(((whoM (sureM (⟨c.sk,c.ra,c.be,c.pts,l100⟩:Cup)) (⟨c.sk,c.ra,c.be,c.pts,l100⟩:Cup).sk.toNat).length:Nat):Int))(h6:(((whoM (canM (⟨c.sk,c.ra,c.be,c.pts,l100⟩:Cup)) (⟨c.sk,c.ra,c.be,c.pts,l100⟩:Cup).sk.toNat).length:Nat):Int)≠(1:Int))(h7:inR (((i+1):Nat):Int))(ei':i'=(i+1)):CodeOK Tryz.prog 0 zK5c1 (dec_S0 c i r f) .normal (dec_S0 c i' r f):=by
  subst ei'
  exact CodeOK.fin (g:=⟨(rng [(0,2),(7,16),(25,29)]),[0],[],[]⟩) (o:=[bT,.c (.agg [(.fn 137 [] [])]) [],.c (.p (intsP (zK51 c l100))) [],.c (.agg [(.fn 149 [] [])]) [],.c (.p (intsP (zK50 c l100))) [],bT,bT,bT,bT,bF]) (l:=[_,_,_,_,_,_,FC Tryz.prog 110 [(.agg [(.fn 149 [] [])]),(.p (.agg [(intP c.sk),(intP c.ra),(intP c.be),(intsP c.pts),(.sl (i-0) ((c.done.map intsP).take (i*1)))]))] [] 14 (.p (intsP (zK50 c l100))) [],FC Tryz.prog 111 [] [] 10 (.agg [(.fn 149 [] [])]) [],FC Tryz.prog 110 [(.agg [(.fn 137 [] [])]),(.p (.agg [(intP c.sk),(intP c.ra),(intP c.be),(intsP c.pts),(.sl (i-0) ((c.done.map intsP).take (i*1)))]))] [] 6 (.p (intsP (zK51 c l100))) [],FC Tryz.prog 109 [] [] 2 (.agg [(.fn 137 [] [])]) [],_,_]) (by kernel_rfl) (gc h7 (gc (q_ne h6) (gc (q_lt h5) (gc (q_lt h5) (gc (q_lt h5) (gc (q_lt h5) (gc (FV.fc (by rw [show ((.sl (i-0) ((c.done.map intsP).take (i*1))):PV)=rowsP l100 from sl_cast h2 h3];exact (sureA_ok (⟨c.sk,c.ra,c.be,c.pts,l100⟩:Cup) h4)) rfl) (gc (FV.fc sureQ_p0 (by kernel_rfl)) (gc (FV.fc (by rw [show ((.sl (i-0) ((c.done.map intsP).take (i*1))):PV)=rowsP l100 from sl_cast h2 h3];exact (canA_ok (⟨c.sk,c.ra,c.be,c.pts,l100⟩:Cup) h4)) rfl) (gc (FV.fc canQ_p0 (by kernel_rfl)) (gc h1 (gc (q_lt h0) gn))))))))))))
theorem dec_L0_p2{c:Cup}{i:Nat}{r f:Int}{l100:List (List Int)}{i':Nat}(h0:(i:Int)<(((c.done.length+1):Nat):Int))(h1:0≤(0:Int)∧(0:Int)≤(i:Int)∧(i:Int)≤(c.done.length:Int)∧(c.done.map intsP).length=c.done.length*1)(h2:(i-0)=l100.length)(h3:((c.done.map intsP).take (i*1))=l100.map intsP)(h4:KL.Valid (⟨c.sk,c.ra,c.be,c.pts,l100⟩:Cup))(h5:(((whoM (sureM (⟨c.sk,c.ra,c.be,c.pts,l100⟩:Cup)) (⟨c.sk,c.ra,c.be,c.pts,l100⟩:Cup).sk.toNat).length:Nat):Int)≤(0:Int))(h6:inR (((i+1):Nat):Int))(ei':i'=(i+1)):CodeOK Tryz.prog 0 zK5c1 (dec_S0 c i r f) .normal (dec_S0 c i' r f):=by
  subst ei'
  exact CodeOK.fin (g:=⟨(rng [(0,2),(7,16),(25,29)]),[0],[],[]⟩) (o:=[bT,.c (.agg [(.fn 137 [] [])]) [],.c (.p (intsP (zK51 c l100))) [],.c (.agg [(.fn 149 [] [])]) [],.c (.p (intsP (zK50 c l100))) [],bF,bF,bF,bF]) (l:=[_,_,_,_,_,FC Tryz.prog 110 [(.agg [(.fn 149 [] [])]),(.p (.agg [(intP c.sk),(intP c.ra),(intP c.be),(intsP c.pts),(.sl (i-0) ((c.done.map intsP).take (i*1)))]))] [] 14 (.p (intsP (zK50 c l100))) [],FC Tryz.prog 111 [] [] 10 (.agg [(.fn 149 [] [])]) [],FC Tryz.prog 110 [(.agg [(.fn 137 [] [])]),(.p (.agg [(intP c.sk),(intP c.ra),(intP c.be),(intsP c.pts),(.sl (i-0) ((c.done.map intsP).take (i*1)))]))] [] 6 (.p (intsP (zK51 c l100))) [],FC Tryz.prog 109 [] [] 2 (.agg [(.fn 137 [] [])]) [],_,_]) (by kernel_rfl) (gc h6 (gc (q_ltF h5) (gc (q_ltF h5) (gc (q_ltF h5) (gc (q_ltF h5) (gc (FV.fc (by rw [show ((.sl (i-0) ((c.done.map intsP).take (i*1))):PV)=rowsP l100 from sl_cast h2 h3];exact (sureA_ok (⟨c.sk,c.ra,c.be,c.pts,l100⟩:Cup) h4)) rfl) (gc (FV.fc sureQ_p0 (by kernel_rfl)) (gc (FV.fc (by rw [show ((.sl (i-0) ((c.done.map intsP).take (i*1))):PV)=rowsP l100 from sl_cast h2 h3];exact (canA_ok (⟨c.sk,c.ra,c.be,c.pts,l100⟩:Cup) h4)) rfl) (gc (FV.fc canQ_p0 (by kernel_rfl)) (gc h1 (gc (q_lt h0) gn)))))))))))
theorem dec_L0_p3{c:Cup}{i:Nat}{r f:Int}(h0:(((c.done.length+1):Nat):Int)≤(i:Int)):CodeOK Tryz.prog 0 zK5c1 (dec_S0 c i r f) (.exit 0) (dec_S0 c i r f):=by
  exact CodeOK.fin (g:=⟨(rng [(0,2),(7,16),(25,29)]),[0],[],[]⟩) (o:=[bF]) (l:=[_]) (by kernel_rfl) (gc (q_ltF h0) gn)
theorem range_at{n i x:Nat}(h:(List.range n)[i]? = some x):x=i∧i<n:=by
  obtain ⟨h1,h2⟩:=List.getElem?_eq_some_iff.1 h
  rw [List.getElem_range] at h2
  exact ⟨h2.symm,by simpa using h1⟩
abbrev earlyC(c:Cup)(n:Nat):Cup:={ c with done:=c.done.take n }
def decP(c:Cup)(n:Nat):Bool:=decide (0<(whoM (sureM (earlyC c n)) c.sk.toNat).length) && decide ((whoM (canM (earlyC c n)) c.sk.toNat).length=1)
def decM(c:Cup):Int × Int × Int:=match (List.range (c.done.length+1)).findIdx? (decP c) with
  | some n=>((n:Int),(whoM (sureM (earlyC c n)) c.sk.toNat).headD 0,0)
  | none=>(0,0,6)
theorem whoM_nonneg{p:Nat→Bool}{n:Nat}{x:Int}(h:x∈whoM p n):0≤x:=by
  unfold whoM at h
  rw [List.mem_map] at h
  obtain ⟨k,_,rfl⟩:=h
  omega
theorem dec_ok(c:Cup)(hV:KL.Valid c){base:Nat}:FV Tryz.prog 73 [.p (cupP c)] base (.tup [.p (intP (decM c).1),.p (intP (decM c).2.1),.p (intP (decM c).2.2)]) []:=by
  have hdn:=hV.dn
  have ra2:=hV.ra2
  have hl:∀ i,i≤c.done.length→(i-0)=(c.done.take i).length:=fun i hi=>by simp;omega
  have hm:∀ i,((c.done.map intsP).take (i*1))=(c.done.take i).map intsP:=fun i=>by rw [Nat.mul_one,List.map_take]
  rcases LoopOK.find (P:=Tryz.prog) (k:=0) (b:=zK5c1) (fun i=>dec_S0 c i 0 (-1)) (fun i _=>dec_S0 c i (i:Int) ((whoM (sureM (earlyC c i)) c.sk.toNat).headD 0)) (dec_S0 c (c.done.length+1) 0 (-1)) (.exit 0) (.exit 0) (by simp) (by simp) (decP c) (List.range (c.done.length+1))
    (fun i x hx hp=>by
      obtain ⟨rfl,hi⟩:=range_at hx
      by_cases h1:0<(whoM (sureM (earlyC c x)) c.sk.toNat).length
      · have h2:(whoM (canM (earlyC c x)) c.sk.toNat).length≠1:=fun h=>by simp [decP,h1,h] at hp
        exact dec_L0_p1 (l100:=c.done.take x) (by omega) ⟨by omega,by omega,by omega,by simp⟩ (hl x (by omega)) (hm x) (valid_take hV x) (by exact_mod_cast h1) (by exact_mod_cast h2) (inR_nat (by omega)) rfl
      · exact dec_L0_p2 (l100:=c.done.take x) (by omega) ⟨by omega,by omega,by omega,by simp⟩ (hl x (by omega)) (hm x) (valid_take hV x) (by show ((whoM (sureM (earlyC c x)) c.sk.toNat).length:Int)≤0;omega) (inR_nat (by omega)) rfl)
    (fun i x hx hp=>by
      obtain ⟨rfl,hi⟩:=range_at hx
      simp only [decP,Bool.and_eq_true,decide_eq_true_eq] at hp
      obtain ⟨h1,h2⟩:=hp
      refine dec_L0_p0 (l100:=c.done.take x) (x101:=(whoM (sureM (earlyC c x)) c.sk.toNat).headD 0) (by omega) ⟨by omega,by omega,by omega,by simp⟩ (hl x (by omega)) (hm x) (valid_take hV x) (by exact_mod_cast h1) (by exact_mod_cast h2) ?_ rfl
      show (whoM (sureM (earlyC c x)) c.sk.toNat)[0]? = _
      generalize whoM (sureM (earlyC c x)) c.sk.toNat=l at h1
      cases l with
      | nil=>simp at h1
      | cons a r=>rfl)
    (by rw [List.length_range];exact dec_L0_p3 (by omega)) with ⟨i,x,h1,h2,h3,h4⟩ | ⟨h1,h2,h3⟩
  · unfold decM
    rw [h2]
    refine dec_p2 hV.small ((KL.valid_iff c).2 hV) (inR_nat (by omega)) h4 ?_
    obtain ⟨rfl,hi⟩:=range_at h1
    simp only [decP,Bool.and_eq_true,decide_eq_true_eq] at h3
    have h5:=h3.1
    have:∀ l:List Int,(∀ y∈l,0≤y)→0≤l.headD 0:=fun l h=>by
      cases l with
      | nil=>simp
      | cons a r=>exact h a (by simp)
    exact this _ fun y hy=>whoM_nonneg hy
  · unfold decM
    rw [h1]
    exact dec_p1 hV.small ((KL.valid_iff c).2 hV) (inR_nat (by omega)) h3 (by omega)
theorem last_p0{c:Cup}{k:Int}(h0:KL.Small c)(h1:(namedE c k)=(0:Int))(h2:inR (c.ra-(c.done.length:Int)))(h3:(c.ra-(c.done.length:Int))≠(1:Int)){base:Nat}:FV Tryz.prog 126 [(.p (cupP c)),(.p (intP k))] base (.tup [(.p (cupP c)),(.p (intP 9))]) []:=by
  exact FV.fin Tryz.func126 rfl (o:=[.c (.tup [(.p (cupP c)),(.p (intP (namedE c k)))]) [],bT,bT,bT,bT,bT,bT,bT,bT,bT,bT,bT]) (l:=[_,_,_,_,_,_,_,_,_,_,_,_,_]) (by kernel_rfl) (gc (q_neT h3) (gc (q_eq h1) (gc (q_eq h1) (gc h2 (gc (q_eq h1) (gc (q_eq h1) (gc (q_eq h1) (gc (q_eq h1) (gc (q_eq h1) (gc (q_eq h1) (gc (q_eq h1) (gc (q_eq h1) (gc (fk 2 (named_ok c h0 k) rfl) gn)))))))))))))
theorem last_p1{c:Cup}{k r0:Int}(h0:KL.Small c)(h1:(namedE c k)=(0:Int))(h2:inR (c.ra-(c.done.length:Int)))(h3:(c.ra-(c.done.length:Int))=(1:Int))(er0:r0=(namedE c k)){base:Nat}:FV Tryz.prog 126 [(.p (cupP c)),(.p (intP k))] base (.tup [(.p (cupP c)),(.p (intP r0))]) []:=by
  subst er0
  exact FV.fin Tryz.func126 rfl (o:=[.c (.tup [(.p (cupP c)),(.p (intP (namedE c k)))]) [],bT,bT,bT,bT,bT,bT,bT,bT,bT,bT,bF]) (l:=[_,_,_,_,_,_,_,_,_,_,_,_,_]) (by kernel_rfl) (gc (q_neF h3) (gc (q_eq h1) (gc (q_eq h1) (gc h2 (gc (q_eq h1) (gc (q_eq h1) (gc (q_eq h1) (gc (q_eq h1) (gc (q_eq h1) (gc (q_eq h1) (gc (q_eq h1) (gc (q_eq h1) (gc (fk 2 (named_ok c h0 k) rfl) gn)))))))))))))
theorem last_p2{c:Cup}{k r0:Int}(h0:KL.Small c)(h1:(namedE c k)≠(0:Int))(er0:r0=(namedE c k)){base:Nat}:FV Tryz.prog 126 [(.p (cupP c)),(.p (intP k))] base (.tup [(.p (cupP c)),(.p (intP r0))]) []:=by
  subst er0
  exact FV.fin Tryz.func126 rfl (o:=[.c (.tup [(.p (cupP c)),(.p (intP (namedE c k)))]) [],bF,bF,bF,bF,bF,bF,bF,bF,bF,bF]) (l:=[_,_,_,_,_,_,_,_,_,_,_]) (by kernel_rfl) (gc (q_ne h1) (gc (q_ne h1) (gc (q_ne h1) (gc (q_ne h1) (gc (q_ne h1) (gc (q_ne h1) (gc (q_ne h1) (gc (q_ne h1) (gc (q_ne h1) (gc (q_ne h1) (gc (fk 2 (named_ok c h0 k) rfl) gn)))))))))))
def lastE(c:Cup)(k:Int):Int:=if namedE c k≠0 then namedE c k else if c.ra-(c.done.length:Int)≠1 then 9 else 0
theorem namedE_zero{c:Cup}{k:Int}(h:namedE c k=0):KL.Valid c∧0≤k∧k<c.sk:=by
  unfold namedE at h
  by_cases h1:checkP c=0
  · rw [if_neg (by simpa using h1)] at h
    cases h2:within k 0 (c.sk-1) with
    | true=>obtain ⟨h3,h4⟩:=within_iff.1 h2;exact ⟨(KL.valid_iff c).1 h1,h3,by omega⟩
    | false=>rw [h2] at h;simp at h
  · rw [if_pos h1] at h;exact absurd h h1
theorem last_ok(c:Cup)(hS:KL.Small c)(k:Int){base:Nat}:FV Tryz.prog 126 [.p (cupP c),.p (intP k)] base (.tup [.p (cupP c),.p (intP (lastE c k))]) []:=by
  unfold lastE
  by_cases h:namedE c k=0
  · have hV:=(namedE_zero h).1
    have h1:=hV.ra1
    have h2:=hV.ra2
    have h3:=hV.dn
    rw [if_neg (by simpa using h)]
    by_cases h4:c.ra-(c.done.length:Int)=1
    · rw [if_neg (by simpa using h4)];exact last_p1 hS h (by unfold inR;omega) h4 h.symm
    · rw [if_pos h4];exact last_p0 hS h (by unfold inR;omega) h4
  · rw [if_pos h];exact last_p2 hS h rfl
theorem lastE_zero{c:Cup}{k:Int}(h:lastE c k=0):KL.Valid c∧0≤k∧k<c.sk∧c.ra=(c.done.length:Int)+1:=by
  unfold lastE at h
  by_cases h1:namedE c k=0
  · obtain ⟨h2,h3,h4⟩:=namedE_zero h1
    rw [if_neg (by simpa using h1)] at h
    by_cases h5:c.ra-(c.done.length:Int)=1
    · exact ⟨h2,h3,h4,by omega⟩
    · rw [if_pos h5] at h;cases h
  · rw [if_pos h1] at h;exact absurd h h1
theorem beats_p0{c:Cup}{o:Nat}{p:Int}{s:Nat}{w:Int}{l0:List (List Int)}{r0:Bool}(h0:0≤c.sk∧c.sk≤c.sk∧c.sk≤1000000)(h1:0≤(o:Int)∧(o:Int)<((c.sk.toNat:Nat):Int))(h2:(o*1)<(List.replicate c.sk.toNat (intP 0)).length)(h3:0≤(s:Int)∧(s:Int)<((c.sk.toNat:Nat):Int))(h4:(s*1)<((List.replicate c.sk.toNat (intP 0)).set (o*1) (intP p)).length)(h5:1=l0.length)(h6:[(.sl c.sk.toNat (((List.replicate c.sk.toNat (intP 0)).set (o*1) (intP p)).set (s*1) (intP w)))]=l0.map intsP)(h7:c.pts.length≤1000)(h8:c.done.length+l0.length≤1000)(h9:∀ r∈c.done++l0,r.length≤1000)(h10:KL.Valid (withC c l0))(h11:((o:Nat):Int)<(withC c l0).sk)(h12:((s:Nat):Int)<(withC c l0).sk)(er0:r0=(KL.betterF (totalM (withC c l0) o) (totalM (withC c l0) s) (placesM (withC c l0) o) (placesM (withC c l0) s))){base:Nat}:FV Tryz.prog 129 [(.p (cupP c)),(.p (intP (o:Int))),(.p (intP p)),(.p (intP (s:Int))),(.p (intP w))] base (.p (blP r0)) []:=by
  subst er0
  exact FV.fin Tryz.func129 rfl (o:=[.c (.p (.agg [(intP ((withC c l0).sk)),(intP ((withC c l0).ra)),(intP ((withC c l0).be)),(intsP ((withC c l0).pts)),(rowsP ((withC c l0).done))])) [(2,.dead)],.c (.p (.agg ((intP (totalM (withC c l0) o))::((placesM (withC c l0) o).map intP)))) [],.c (.p (.agg ((intP (totalM (withC c l0) s))::((placesM (withC c l0) s).map intP)))) [],.c (.p (blP (KL.betterF (totalM (withC c l0) o) (totalM (withC c l0) s) (placesM (withC c l0) o) (placesM (withC c l0) s)))) []]) (l:=[_,_,_,FC Tryz.prog 115 [(.p (cupP c)),(.own 2)] [(2,(.row 22 1 [(.sl c.sk.toNat (((List.replicate c.sk.toNat (intP 0)).set (o*1) (intP p)).set (s*1) (intP w)))]))] 3 (.p (.agg [(intP ((withC c l0).sk)),(intP ((withC c l0).ra)),(intP ((withC c l0).be)),(intsP ((withC c l0).pts)),(rowsP ((withC c l0).done))])) [(2,.dead)],_,_,_,_,_]) (by kernel_rfl) (gc (fk 12 (better_ok (withC c l0) (withC c l0) o s) rfl) (gc (fk 8 (form_ok (withC c l0) h10 s h12) rfl) (gc (fk 4 (form_ok (withC c l0) h10 o h11) rfl) (gc (FV.close (ids:=[2]) (args':=[(.p (cupP c)),(.p (.sl 1 [(.sl c.sk.toNat (((List.replicate c.sk.toNat (intP 0)).set (o*1) (intP p)).set (s*1) (intP w)))]))]) (by rw [show ((.sl 1 [(.sl c.sk.toNat (((List.replicate c.sk.toNat (intP 0)).set (o*1) (intP p)).set (s*1) (intP w)))]):PV)=rowsP l0 from sl_cast h5 h6];exact (with_ok c l0 h7 h8 h9)) (by kernel_rfl)) (gc h4 (gc h3 (gc h2 (gc h1 (gc h0 gn)))))))))
def beatsM(c:Cup)(o:Nat)(p:Int)(s:Nat)(w:Int):Bool:=betS (withC c [KL.race2 c.sk.toNat o p s w]) o s
structure beatsOK (c:Cup) (o:Nat) (p:Int) (s:Nat) (w:Int):Prop where
  hv:KL.Valid c
  hd:(c.done.length:Int)<c.ra
  ho:(o:Int)<c.sk
  hs:(s:Int)<c.sk
  hp:0≤p∧p≤60
  hw:0≤w∧w≤60
  hn:p=0∨w=0∨p≠w
theorem beats_ok(c:Cup)(o:Nat)(p:Int)(s:Nat)(w:Int)(h:beatsOK c o p s w){base:Nat}:FV Tryz.prog 129 [.p (cupP c),.p (intP (o:Int)),.p (intP p),.p (intP (s:Int)),.p (intP w)] base (.p (blP (beatsM c o p s w))) []:=by
  have hV:=h.hv
  have h1:=hV.sk1
  have h2:=hV.sk2
  have h3:=hV.ra2
  have ho:=h.ho
  have hs:=h.hs
  have hd:=h.hd
  have hr2:=KL.valid_race2 hV h.hd (o:=o) (s:=s) h.hp h.hw h.hn
  have hS:=hr2.small
  refine beats_p0 (l0:=[KL.race2 c.sk.toNat o p s w]) (by omega) (by omega) (by simp;omega) (by omega) (by simp;omega) rfl ?_ hV.small.pts (by simp;omega) hS.rows hr2 (by show (o:Int)<c.sk;omega) (by show (s:Int)<c.sk;omega) rfl
  show [_]=[PV.sl (KL.race2 c.sk.toNat o p s w).length ((KL.race2 c.sk.toNat o p s w).map intP)]
  rw [KL.race2_length]
  simp [KL.race2,List.map_set]
def riv_S0(c:Cup)(s:Nat)(i:Nat)(on:Nat)(oc:List PV):St:=⟨fr 45 [(1,(.p (intP (s:Int)))),(2,(.ptr 0 0)),(4,(.p nilS)),(5,(.own 1)),(10,(.p (intP c.sk))),(11,(.p (intP (i:Int))))],[some (.box 120 [(.p (intP c.sk)),(.p (intP c.ra)),(.p (intP c.be)),(.p (intsP c.pts)),(.p (rowsP c.done))]),some (.row 155 on oc)]⟩
theorem riv_p0{c:Cup}{s i'0:Nat}{o'1:List (List Int)}(hl0:LoopOK Tryz.prog 0 zK5c0 (riv_S0 c s 0 0 []) (.exit 0) (riv_S0 c s i'0 o'1.length (o'1.flatten.map intP)))(h1:uni 2 o'1)(h2:o'1.length<20){base:Nat}:FV Tryz.prog 127 [(.p (cupP c)),(.p (intP (s:Int)))] base (.p (.sl ((isort (ltK 1) o'1).length) ((isort (ltK 1) o'1).flatten.map intP))) []:=by
  exact FV.frz (FMM.fin (k:=0) (g:=⟨[],[],[1],[]⟩) rfl Tryz.func127 rfl (o:=[.k 8 ⟨(rng [(0,1),(3,1),(6,4),(12,30),(43,1)]),[0,1],[],[(5,155)]⟩ (.exit 0) (riv_S0 c s i'0 o'1.length (o'1.flatten.map intP)),.c (.tup []) [(1,(.row 155 ((isort (ltK 1) o'1).length) ((isort (ltK 1) o'1).flatten.map intP)))]]) (l:=[FC Tryz.prog 157 [(.own 1),(.fn 158 [] [])] [(1,(.row 155 o'1.length (o'1.flatten.map intP)))] 2 (.tup []) [(1,(.row 155 ((isort (ltK 1) o'1).length) ((isort (ltK 1) o'1).flatten.map intP)))],_]) (by kernel_rfl) (gc (FMM.fc (ids:=[1]) (srtR_ok o'1 h1 h2) (by kernel_rfl)) (gc hl0.code gn))) (by kernel_rfl)
def riv_S1(c:Cup)(s:Nat)(i:Nat)(o:List (List Int))(p:Int):St:=⟨fr 45 [(1,(.p (intP (s:Int)))),(2,(.ptr 0 0)),(4,(.p nilS)),(5,(.own 1)),(6,(.p (intP (i:Int)))),(7,(.p (intP p))),(10,(.p (intP c.sk))),(11,(.p (intP (i:Int)))),(12,(.p (blP (decide ((i:Int)<c.sk))))),(13,(.p (intP (i:Int)))),(14,(.p (intP (i:Int)))),(15,(.p (intP (s:Int)))),(16,(.p (blP ((i:Int) == (s:Int)))))],[some (.box 120 [(.p (intP c.sk)),(.p (intP c.ra)),(.p (intP c.be)),(.p (intsP c.pts)),(.p (rowsP c.done))]),some (.row 155 o.length (o.flatten.map intP))]⟩
theorem riv_L0_p0{c:Cup}{s i:Nat}{o:List (List Int)}{i':Nat}(h0:(i:Int)<c.sk)(h1:(i:Int)=(s:Int))(h2:inR (((i+1):Nat):Int))(ei':i'=(i+1)):CodeOK Tryz.prog 0 zK5c0 (riv_S0 c s i o.length (o.flatten.map intP)) .normal (riv_S0 c s i' o.length (o.flatten.map intP)):=by
  subst ei'
  exact CodeOK.fin (g:=⟨(rng [(0,1),(3,1),(6,4),(12,30),(43,1)]),[0,1],[],[]⟩) (o:=[bT,bT]) (l:=[_,_,_]) (by kernel_rfl) (gc h2 (gc (q_eq h1) (gc (q_lt h0) gn)))
theorem riv_L0_p1{c:Cup}{s i:Nat}{o:List (List Int)}{p'100:Int}{i':Nat}{o':List (List Int)}(h0:(i:Int)<c.sk)(h1:(i:Int)≠(s:Int))(hl2:LoopOK Tryz.prog 0 zK5c2 (riv_S1 c s i o (0:Int)) (.exit 2) (riv_S1 c s i o p'100))(h3:beatsOK c i (0:Int) s (0:Int))(h4:(beatsM c i (0:Int) s (0:Int))=true)(h5:[(intP (i:Int)),(intP 61)].length=1*2∧o.length+1≤1000000)(h6:inR (((i+1):Nat):Int))(ei':i'=(i+1))(eo'n:o'.length=(o.length+1))(eo'c:o'.flatten.map intP=((o.flatten.map intP)++[(intP (i:Int)),(intP 61)])):CodeOK Tryz.prog 0 zK5c0 (riv_S0 c s i o.length (o.flatten.map intP)) .normal (riv_S0 c s i' o'.length (o'.flatten.map intP)):=by
  subst ei'
  have raw:CodeOK Tryz.prog 0 zK5c0 (riv_S0 c s i o.length (o.flatten.map intP)) .normal (riv_S0 c s (i+1) (o.length+1) ((o.flatten.map intP)++[(intP (i:Int)),(intP 61)])):=CodeOK.fin (g:=⟨(rng [(0,1),(3,1),(6,4),(12,30),(43,1)]),[0,3],[],[]⟩) (o:=[bT,bF,.k 4 ⟨(rng [(0,1),(3,1),(8,2),(17,12),(43,1)]),[0,1],[],[]⟩ (.exit 2) (riv_S1 c s i o p'100),.c (.p (blP (beatsM c i (0:Int) s (0:Int)))) [],bT,bT]) (l:=[_,_,[(intP (i:Int)),(intP 61)].length=2,(decide ((61:Int) > (0:Int)))=true,_,_,_,_,_]) (by kernel_rfl) (gc h6 (gc h5 (gc (by first | decide | simp) (gc (by first | decide | simp) (gc h4 (gc (fk 2 (beats_ok c i (0:Int) s (0:Int) h3) rfl) (gc hl2.code (gc (q_ne h1) (gc (q_lt h0) gn)))))))))
  exact raw.cast (by rw [eo'n,eo'c])
theorem riv_L0_p2{c:Cup}{s i:Nat}{o:List (List Int)}{p'100:Int}{i':Nat}{o':List (List Int)}(h0:(i:Int)<c.sk)(h1:(i:Int)≠(s:Int))(hl2:LoopOK Tryz.prog 0 zK5c2 (riv_S1 c s i o (0:Int)) (.exit 2) (riv_S1 c s i o p'100))(h3:beatsOK c i (0:Int) s (0:Int))(h4:(beatsM c i (0:Int) s (0:Int))=false)(h5:(0:Int)<p'100)(h6:[(intP (i:Int)),(intP p'100)].length=1*2∧o.length+1≤1000000)(h7:inR (((i+1):Nat):Int))(ei':i'=(i+1))(eo'n:o'.length=(o.length+1))(eo'c:o'.flatten.map intP=((o.flatten.map intP)++[(intP (i:Int)),(intP p'100)])):CodeOK Tryz.prog 0 zK5c0 (riv_S0 c s i o.length (o.flatten.map intP)) .normal (riv_S0 c s i' o'.length (o'.flatten.map intP)):=by
  subst ei'
  have raw:CodeOK Tryz.prog 0 zK5c0 (riv_S0 c s i o.length (o.flatten.map intP)) .normal (riv_S0 c s (i+1) (o.length+1) ((o.flatten.map intP)++[(intP (i:Int)),(intP p'100)])):=CodeOK.fin (g:=⟨(rng [(0,1),(3,1),(6,4),(12,30),(43,1)]),[0,3],[],[]⟩) (o:=[bT,bF,.k 4 ⟨(rng [(0,1),(3,1),(8,2),(17,12),(43,1)]),[0,1],[],[]⟩ (.exit 2) (riv_S1 c s i o p'100),.c (.p (blP (beatsM c i (0:Int) s (0:Int)))) [],bF,bT]) (l:=[_,_,[(intP (i:Int)),(intP p'100)].length=2,_,_,_,_,_,_]) (by kernel_rfl) (gc h7 (gc h6 (gc (by first | decide | simp) (gc (q_lt h5) (gc h4 (gc (fk 2 (beats_ok c i (0:Int) s (0:Int) h3) rfl) (gc hl2.code (gc (q_ne h1) (gc (q_lt h0) gn)))))))))
  exact raw.cast (by rw [eo'n,eo'c])
theorem riv_L0_p3{c:Cup}{s i:Nat}{o:List (List Int)}{p'100:Int}{i':Nat}(h0:(i:Int)<c.sk)(h1:(i:Int)≠(s:Int))(hl2:LoopOK Tryz.prog 0 zK5c2 (riv_S1 c s i o (0:Int)) (.exit 2) (riv_S1 c s i o p'100))(h3:beatsOK c i (0:Int) s (0:Int))(h4:(beatsM c i (0:Int) s (0:Int))=false)(h5:p'100≤(0:Int))(h6:inR (((i+1):Nat):Int))(ei':i'=(i+1)):CodeOK Tryz.prog 0 zK5c0 (riv_S0 c s i o.length (o.flatten.map intP)) .normal (riv_S0 c s i' o.length (o.flatten.map intP)):=by
  subst ei'
  exact CodeOK.fin (g:=⟨(rng [(0,1),(3,1),(6,4),(12,30),(43,1)]),[0,1],[],[]⟩) (o:=[bT,bF,.k 4 ⟨(rng [(0,1),(3,1),(8,2),(17,12),(43,1)]),[0,1],[],[]⟩ (.exit 2) (riv_S1 c s i o p'100),.c (.p (blP (beatsM c i (0:Int) s (0:Int)))) [],bF,bF]) (l:=[_,_,_,_,_,_,_]) (by kernel_rfl) (gc h6 (gc (q_ltF h5) (gc h4 (gc (fk 2 (beats_ok c i (0:Int) s (0:Int) h3) rfl) (gc hl2.code (gc (q_ne h1) (gc (q_lt h0) gn)))))))
theorem riv_L0_p4{c:Cup}{s i:Nat}{o:List (List Int)}(h0:c.sk≤(i:Int)):CodeOK Tryz.prog 0 zK5c0 (riv_S0 c s i o.length (o.flatten.map intP)) (.exit 0) (riv_S0 c s i o.length (o.flatten.map intP)):=by
  exact CodeOK.fin (g:=⟨(rng [(0,1),(3,1),(6,4),(12,30),(43,1)]),[0,1],[],[]⟩) (o:=[bF]) (l:=[_]) (by kernel_rfl) (gc (q_ltF h0) gn)
theorem riv_L1_p0{c:Cup}{s i:Nat}{o:List (List Int)}{p p':Int}(h0:p<(60:Int))(h1:inR (p+(1:Int)))(h2:beatsOK c i (p+(1:Int)) s (0:Int))(h3:(beatsM c i (p+(1:Int)) s (0:Int))=true)(ep':p'=(p+(1:Int))):CodeOK Tryz.prog 0 zK5c2 (riv_S1 c s i o p) .normal (riv_S1 c s i o p'):=by
  subst ep'
  exact CodeOK.fin (g:=⟨(rng [(0,1),(3,1),(8,2),(17,12),(43,1)]),[0,1],[],[]⟩) (o:=[bT,bT,bT,bT,bT,bT,.c (.p (blP (beatsM c i (p+(1:Int)) s (0:Int)))) [],bT,bT]) (l:=[_,_,_,_,_,_,_,_,_,_,_]) (by kernel_rfl) (gc h1 (gc h3 (gc (q_lt h0) (gc (fk 2 (beats_ok c i (p+(1:Int)) s (0:Int) h2) rfl) (gc (q_lt h0) (gc (q_lt h0) (gc h1 (gc (q_lt h0) (gc (q_lt h0) (gc (q_lt h0) (gc (q_lt h0) gn)))))))))))
theorem riv_L1_p1{c:Cup}{s i:Nat}{o:List (List Int)}{p:Int}(h0:p<(60:Int))(h1:inR (p+(1:Int)))(h2:beatsOK c i (p+(1:Int)) s (0:Int))(h3:(beatsM c i (p+(1:Int)) s (0:Int))=false):CodeOK Tryz.prog 0 zK5c2 (riv_S1 c s i o p) (.exit 2) (riv_S1 c s i o p):=by
  exact CodeOK.fin (g:=⟨(rng [(0,1),(3,1),(8,2),(17,12),(43,1)]),[0,1],[],[]⟩) (o:=[bT,bT,bT,bT,bT,bT,.c (.p (blP (beatsM c i (p+(1:Int)) s (0:Int)))) [],bT,bF]) (l:=[_,_,_,_,_,_,_,_,_,_]) (by kernel_rfl) (gc h3 (gc (q_lt h0) (gc (fk 2 (beats_ok c i (p+(1:Int)) s (0:Int) h2) rfl) (gc (q_lt h0) (gc (q_lt h0) (gc h1 (gc (q_lt h0) (gc (q_lt h0) (gc (q_lt h0) (gc (q_lt h0) gn))))))))))
theorem riv_L1_p2{c:Cup}{s i:Nat}{o:List (List Int)}{p:Int}(h0:(60:Int)≤p):CodeOK Tryz.prog 0 zK5c2 (riv_S1 c s i o p) (.exit 2) (riv_S1 c s i o p):=by
  exact CodeOK.fin (g:=⟨(rng [(0,1),(3,1),(8,2),(17,12),(43,1)]),[0,1],[],[]⟩) (o:=[bF,bF,bF,bF,bF,bF,bF]) (l:=[_,_,_,_,_,_,_]) (by kernel_rfl) (gc (q_ltF h0) (gc (q_ltF h0) (gc (q_ltF h0) (gc (q_ltF h0) (gc (q_ltF h0) (gc (q_ltF h0) (gc (q_ltF h0) gn)))))))
def upto(f:Int→Bool):Nat→Int→Int
  | 0,p=>p
  | n+1,p=>if f (p+1) then upto f n (p+1) else p
theorem upto_bd(f:Int→Bool):∀ n p,p≤upto f n p∧upto f n p≤p+n
  | 0,p=>by simp [upto]
  | n+1,p=>by
    unfold upto
    split
    · have:=upto_bd f n (p+1);omega
    · omega
def rivPl(c:Cup)(s i:Nat):Int:=if beatsM c i 0 s 0 then 61 else upto (fun p=>beatsM c i p s 0) 60 0
def rivG(c:Cup)(s i:Nat):List (List Int):=if i=s then [] else if 0<rivPl c s i then [[(i:Int),rivPl c s i]] else []
def rivL(c:Cup)(s:Nat):List (List Int):=(List.range c.sk.toNat).flatMap (rivG c s)
def rivM(c:Cup)(s:Nat):List (List Int):=isort (ltK 1) (rivL c s)
structure rivOK (c:Cup) (s:Nat):Prop where
  hv:KL.Valid c
  hd:(c.done.length:Int)<c.ra
  hs:(s:Int)<c.sk
theorem rivPl_bd(c:Cup)(s i:Nat):0≤rivPl c s i∧rivPl c s i≤61:=by
  unfold rivPl
  split
  · omega
  · have:=upto_bd (fun p=>beatsM c i p s 0) 60 0;omega
theorem rivL_mem{c:Cup}{s:Nat}{x:List Int}(h:x∈rivL c s):∃ i:Nat,(i:Int)<c.sk∧i≠s∧x=[(i:Int),rivPl c s i]∧0<rivPl c s i:=by
  unfold rivL at h
  rw [List.mem_flatMap] at h
  obtain ⟨i,hi,hx⟩:=h
  rw [List.mem_range] at hi
  unfold rivG at hx
  split at hx
  · simp at hx
  · split at hx
    · rename_i h1 h2
      rw [List.mem_singleton] at hx
      exact ⟨i,by omega,h1,hx,h2⟩
    · simp at hx
theorem flatMap_len{α:Type}{g:Nat→List α}(h:∀ i,(g i).length≤1):∀ l:List Nat,(l.flatMap g).length≤l.length
  | []=>by simp
  | x::l=>by rw [List.flatMap_cons,List.length_append,List.length_cons];have:=flatMap_len h l;have:=h x;omega
theorem foldl_flatMap{α:Type}{g:Nat→List α}:∀ (l:List Nat) (a:List α),l.foldl (fun acc s=>acc++g s) a=a++l.flatMap g
  | [],a=>by simp
  | x::l,a=>by rw [List.foldl_cons,foldl_flatMap l,List.flatMap_cons,List.append_assoc]
theorem rivG_len(c:Cup)(s i:Nat):(rivG c s i).length≤1:=by
  unfold rivG
  split
  · simp
  · split <;> simp
theorem riv_in(c:Cup)(s i:Nat)(o:List (List Int))(hk:∀ p:Int,0≤p→p≤60→beatsOK c i p s 0):∀ (n:Nat) (p:Int),0≤p→p+n=60 →
    LoopOK Tryz.prog 0 zK5c2 (riv_S1 c s i o p) (.exit 2) (riv_S1 c s i o (upto (fun p=>beatsM c i p s 0) n p))
  | 0,p,h0,h1=>by
    unfold upto
    exact .exit (riv_L1_p2 (by omega)) (by simp)
  | n+1,p,h0,h1=>by
    unfold upto
    by_cases hb:beatsM c i (p+1) s 0=true
    · rw [if_pos hb]
      exact .step (riv_L1_p0 (by omega) (by unfold inR;omega) (hk _ (by omega) (by omega)) hb rfl) (riv_in c s i o hk n (p+1) (by omega) (by omega))
    · rw [if_neg hb]
      exact .exit (riv_L1_p1 (by omega) (by unfold inR;omega) (hk _ (by omega) (by omega)) (by simpa using hb)) (by simp)
theorem riv_ok(c:Cup)(s:Nat)(h:rivOK c s){base:Nat}:FV Tryz.prog 127 [.p (cupP c),.p (intP (s:Int))] base (.p (.sl (rivM c s).length ((rivM c s).flatten.map intP))) []:=by
  have hV:=h.hv
  have h1:=hV.sk1
  have h2:=hV.sk2
  have hL:=LoopOK.times (P:=Tryz.prog) (k:=0) (b:=zK5c0) (e := .exit 0) (fun i (o:List (List Int))=>riv_S0 c s i o.length (o.flatten.map intP)) (fun o=>riv_S0 c s c.sk.toNat o.length (o.flatten.map intP)) (fun acc i=>acc++rivG c s i) (fun i o=>o.length≤i) (by simp) c.sk.toNat (a0:=[]) (by simp)
    (fun i o hi hI=>by
      have hgl:=rivG_len c s i
      refine ⟨by rw [List.length_append];omega,?_⟩
      have hk:∀ p:Int,0≤p→p≤60→beatsOK c i p s 0:=fun p q1 q2=>⟨hV,h.hd,by omega,h.hs,⟨q1,q2⟩,by omega,.inr (.inl rfl)⟩
      unfold rivG
      by_cases his:i=s
      · rw [if_pos his,List.append_nil]
        exact riv_L0_p0 (by omega) (by omega) (inR_nat (by omega)) rfl
      · rw [if_neg his]
        have hin:=riv_in c s i o hk 60 0 (by omega) (by omega)
        have hbd:=upto_bd (fun p=>beatsM c i p s 0) 60 0
        by_cases hb:beatsM c i 0 s 0=true
        · have e:rivPl c s i=61:=by unfold rivPl;rw [if_pos hb]
          rw [e,if_pos (by omega)]
          exact riv_L0_p1 (by omega) (by omega) hin (hk 0 (by omega) (by omega)) hb (by simp;omega) (inR_nat (by omega)) rfl (by simp) (by simp)
        · have hb:beatsM c i 0 s 0=false:=by simpa using hb
          have e:rivPl c s i=upto (fun p=>beatsM c i p s 0) 60 0:=by unfold rivPl;rw [hb];rfl
          rw [e]
          by_cases hp:0<upto (fun p=>beatsM c i p s 0) 60 0
          · rw [if_pos hp]
            exact riv_L0_p2 (by omega) (by omega) hin (hk 0 (by omega) (by omega)) hb hp (by simp;omega) (inR_nat (by omega)) rfl (by simp) (by simp)
          · rw [if_neg hp,List.append_nil]
            exact riv_L0_p3 (by omega) (by omega) hin (hk 0 (by omega) (by omega)) hb (by omega) (inR_nat (by omega)) rfl)
    (fun o _=>riv_L0_p4 (by omega))
  rw [foldl_flatMap,List.nil_append] at hL
  have hlen:=flatMap_len (rivG_len c s) (List.range c.sk.toNat)
  rw [List.length_range] at hlen
  exact riv_p0 hL (fun x hx=>by obtain ⟨i,_,_,rfl,_⟩:=rivL_mem hx;rfl) (by show (rivL c s).length<20;unfold rivL;omega)
def worst_S0(c:Cup)(s:Nat)(i:Nat)(rk:Int)(nx:Int)(rcn:Nat)(rcc:List PV):St:=⟨fr 58 [(4,(.p (intP 0))),(5,(.p nilS)),(6,(.p (intP 0))),(9,(.own 0)),(10,(.p (intP rk))),(11,(.p (intP nx))),(29,(.p (.sl ((rivM c s).length) ((rivM c s).flatten.map intP)))),(30,(.p (intP (((rivM c s).length:Nat):Int)))),(31,(.p (intP (i:Int))))],[some (.row 3 rcn rcc)]⟩
theorem worst_p1{c:Cup}{s i'0:Nat}{rk'1 nx'2:Int}{rc'3:List Int}(h0:KL.Small c)(h1:(lastE c (s:Int))=(0:Int))(h2:0≤c.sk∧c.sk≤c.sk∧c.sk≤1000000)(h3:rivOK c s)(hl4:LoopOK Tryz.prog 0 zK5c3 (worst_S0 c s 0 (1:Int) (1:Int) c.sk.toNat (List.replicate c.sk.toNat (intP 0))) (.exit 0) (worst_S0 c s i'0 rk'1 nx'2 rc'3.length (rc'3.map intP))){base:Nat}:FV Tryz.prog 55 [(.p (cupP c)),(.p (intP (s:Int)))] base (.tup [(.p (intP rk'1)),(.p (intsP rc'3)),(.p (intP 0))]) []:=by
  exact FV.frz (FMM.fin (k:=0) (g:=⟨[],[],[0],[]⟩) rfl Tryz.func55 rfl (o:=[.c (.tup [(.p (cupP c)),(.p (intP (lastE c (s:Int))))]) [],bF,.c (.p (.sl ((rivM c s).length) ((rivM c s).flatten.map intP))) [],.k 1 ⟨(rng [(0,4),(7,2),(12,17),(32,24)]),[2],[],[]⟩ (.exit 0) (worst_S0 c s i'0 rk'1 nx'2 rc'3.length (rc'3.map intP))]) (l:=[_,_,_,_,_]) (by kernel_rfl) (gc hl4.code (gc (fk 3 (riv_ok c s h3) rfl) (gc h2 (gc (q_neF h1) (gc (fk 1 (last_ok c h0 (s:Int)) rfl) gn)))))) (by kernel_rfl)
theorem worst_L0_p0{c:Cup}{s i:Nat}{rk nx:Int}{rc:List Int}{y100 y101:Int}{i':Nat}{rk':Int}(h0:(i:Int)<(((rivM c s).length:Nat):Int))(h1:(rivM c s)[i]? = some [y100,y101])(h2:uni 2 (rivM c s))(h3:(60:Int)<y101)(h4:inR (rk+(1:Int)))(h5:inR (((i+1):Nat):Int))(ei':i'=(i+1))(erk':rk'=(rk+(1:Int))):CodeOK Tryz.prog 0 zK5c3 (worst_S0 c s i rk nx rc.length (rc.map intP)) .normal (worst_S0 c s i' rk' nx rc.length (rc.map intP)):=by
  subst ei' erk'
  exact CodeOK.fin (g:=⟨(rng [(0,4),(7,2),(12,17),(32,24)]),[0],[],[]⟩) (o:=[bT,.x (.agg [(intP y100),(intP y101)]),bT]) (l:=[_,_,_,_,_,0≤(i:Int)∧(i:Int)<(((rivM c s).length:Nat):Int)∧(i*2)<((rivM c s).flatten.map intP).length,_]) (by kernel_rfl) (gc h5 (gc h4 (gc (q_lt h3) (gc (fl_load (i:=i) h2 h1) (gc (fl_le (i:=i) h2 h1) (gc (ix_fl (k:=2) (i:=(i:Int)) (by decide) h2 (Int.natCast_nonneg _) h1) (gc (q_lt h0) gn)))))))
theorem worst_L0_p1{c:Cup}{s i:Nat}{rk nx:Int}{rc:List Int}{y100 y101 x102:Int}{i':Nat}{rk' nx':Int}{rc':List Int}(h0:(i:Int)<(((rivM c s).length:Nat):Int))(h1:(rivM c s)[i]? = some [y100,y101])(h2:uni 2 (rivM c s))(h3:y101≤(60:Int))(h4:nx≤y101)(h5:rc[y100.toNat]? = some x102)(h6:0≤y100)(h7:(y100.toNat*1)<(rc.map intP).length)(h8:inR (nx+(1:Int)))(h9:inR (rk+(1:Int)))(h10:inR (((i+1):Nat):Int))(ei':i'=(i+1))(erk':rk'=(rk+(1:Int)))(enx':nx'=(nx+(1:Int)))(erc'n:rc'.length=rc.length)(erc'c:rc'.map intP=((rc.map intP).set (y100.toNat*1) (intP nx))):CodeOK Tryz.prog 0 zK5c3 (worst_S0 c s i rk nx rc.length (rc.map intP)) .normal (worst_S0 c s i' rk' nx' rc'.length (rc'.map intP)):=by
  subst ei' erk' enx'
  have raw:CodeOK Tryz.prog 0 zK5c3 (worst_S0 c s i rk nx rc.length (rc.map intP)) .normal (worst_S0 c s (i+1) (rk+(1:Int)) (nx+(1:Int)) rc.length ((rc.map intP).set (y100.toNat*1) (intP nx))):=CodeOK.fin (g:=⟨(rng [(0,4),(7,2),(12,17),(32,24)]),[0],[],[]⟩) (o:=[bT,.x (.agg [(intP y100),(intP y101)]),bF,bT]) (l:=[_,_,_,_,_,_,_,_,_,0≤(i:Int)∧(i:Int)<(((rivM c s).length:Nat):Int)∧(i*2)<((rivM c s).flatten.map intP).length,_]) (by kernel_rfl) (gc h10 (gc h9 (gc h8 (gc h7 (gc (ix_own (i:=y100) h6 h5) (gc (q_le h4) (gc (q_ltF h3) (gc (fl_load (i:=i) h2 h1) (gc (fl_le (i:=i) h2 h1) (gc (ix_fl (k:=2) (i:=(i:Int)) (by decide) h2 (Int.natCast_nonneg _) h1) (gc (q_lt h0) gn)))))))))))
  exact raw.cast (by rw [erc'n,erc'c])
theorem worst_L0_p2{c:Cup}{s i:Nat}{rk nx:Int}{rc:List Int}{y100 y101:Int}{i':Nat}(h0:(i:Int)<(((rivM c s).length:Nat):Int))(h1:(rivM c s)[i]? = some [y100,y101])(h2:uni 2 (rivM c s))(h3:y101≤(60:Int))(h4:y101<nx)(h5:inR (((i+1):Nat):Int))(ei':i'=(i+1)):CodeOK Tryz.prog 0 zK5c3 (worst_S0 c s i rk nx rc.length (rc.map intP)) .normal (worst_S0 c s i' rk nx rc.length (rc.map intP)):=by
  subst ei'
  exact CodeOK.fin (g:=⟨(rng [(0,4),(7,2),(12,17),(32,24)]),[0],[],[]⟩) (o:=[bT,.x (.agg [(intP y100),(intP y101)]),bF,bF]) (l:=[_,_,_,_,_,0≤(i:Int)∧(i:Int)<(((rivM c s).length:Nat):Int)∧(i*2)<((rivM c s).flatten.map intP).length,_]) (by kernel_rfl) (gc h5 (gc (q_leF h4) (gc (q_ltF h3) (gc (fl_load (i:=i) h2 h1) (gc (fl_le (i:=i) h2 h1) (gc (ix_fl (k:=2) (i:=(i:Int)) (by decide) h2 (Int.natCast_nonneg _) h1) (gc (q_lt h0) gn)))))))
theorem worst_L0_p3{c:Cup}{s i:Nat}{rk nx:Int}{rc:List Int}(h0:(((rivM c s).length:Nat):Int)≤(i:Int)):CodeOK Tryz.prog 0 zK5c3 (worst_S0 c s i rk nx rc.length (rc.map intP)) (.exit 0) (worst_S0 c s i rk nx rc.length (rc.map intP)):=by
  exact CodeOK.fin (g:=⟨(rng [(0,4),(7,2),(12,17),(32,24)]),[0],[],[]⟩) (o:=[bF]) (l:=[_]) (by kernel_rfl) (gc (q_ltF h0) gn)
def table_S0(c:Cup)(i:Nat)(on:Nat)(oc:List PV):St:=⟨fr 43 [(2,(.p nilS)),(3,(.p (intP 0))),(4,(.ptr 0 0)),(6,(.own 1)),(19,(.p (intP c.sk))),(20,(.p (intP (i:Int))))],[some (.box 120 [(.p (intP c.sk)),(.p (intP c.ra)),(.p (intP c.be)),(.p (intsP c.pts)),(.p (rowsP c.done))]),some (.row 61 on oc)]⟩
theorem table_p1{c:Cup}{i'0:Nat}{o'1:List (List Int)}(h0:KL.Small c)(h1:(checkP c)=(0:Int))(hl2:LoopOK Tryz.prog 0 zK5c4 (table_S0 c 0 0 []) (.exit 0) (table_S0 c i'0 o'1.length (o'1.flatten.map intP)))(h3:uni 4 o'1)(h4:o'1.length<20){base:Nat}:FV Tryz.prog 34 [(.p (cupP c))] base (.tup [(.p (.sl ((isort (ltK 1) o'1).length) ((isort (ltK 1) o'1).flatten.map intP))),(.p (intP 0))]) []:=by
  exact FV.frz (FMM.fin (k:=0) (g:=⟨[],[],[1],[]⟩) rfl Tryz.func34 rfl (o:=[.c (.tup [(.p (cupP c)),(.p (intP (checkP c)))]) [],bF,.k 6 ⟨(rng [(0,2),(5,1),(7,12),(21,19),(41,1)]),[1,2],[],[(6,61)]⟩ (.exit 0) (table_S0 c i'0 o'1.length (o'1.flatten.map intP)),.c (.tup []) [(1,(.row 61 ((isort (ltK 1) o'1).length) ((isort (ltK 1) o'1).flatten.map intP)))]]) (l:=[FC Tryz.prog 105 [(.own 1),(.fn 106 [] [])] [(1,(.row 61 o'1.length (o'1.flatten.map intP)))] 2 (.tup []) [(1,(.row 61 ((isort (ltK 1) o'1).length) ((isort (ltK 1) o'1).flatten.map intP)))],_,_,_]) (by kernel_rfl) (gc (FMM.fc (ids:=[1]) (srtL_ok o'1 h3 h4) (by kernel_rfl)) (gc hl2.code (gc (q_neF h1) (gc (fk 1 (asked_ok c h0) rfl) gn))))) (by kernel_rfl)
theorem table_L0_p0{c:Cup}{i:Nat}{o:List (List Int)}{x100:Int}{i':Nat}{o':List (List Int)}(h0:(i:Int)<c.sk)(h1:KL.Valid c)(h2:((i:Nat):Int)<c.sk)(h3:((intP (totalM c i))::((placesM c i).map intP)).length=62)(h4:(placesM c i)[1]? = some x100)(h5:[(intP (i:Int)),(intP (rankM c i)),(intP (totalM c i)),(intP x100)].length=1*4∧o.length+1≤1000000)(h6:inR (((i+1):Nat):Int))(ei':i'=(i+1))(eo'n:o'.length=(o.length+1))(eo'c:o'.flatten.map intP=((o.flatten.map intP)++[(intP (i:Int)),(intP (rankM c i)),(intP (totalM c i)),(intP x100)])):CodeOK Tryz.prog 0 zK5c4 (table_S0 c i o.length (o.flatten.map intP)) .normal (table_S0 c i' o'.length (o'.flatten.map intP)):=by
  subst ei'
  have raw:CodeOK Tryz.prog 0 zK5c4 (table_S0 c i o.length (o.flatten.map intP)) .normal (table_S0 c (i+1) (o.length+1) ((o.flatten.map intP)++[(intP (i:Int)),(intP (rankM c i)),(intP (totalM c i)),(intP x100)])):=CodeOK.fin (g:=⟨(rng [(0,2),(5,1),(7,12),(21,19),(41,1)]),[0,8],[],[]⟩) (o:=[bT,.c (.p (.agg ((intP (totalM c i))::((placesM c i).map intP)))) [],.c (.p (intP (rankM c i))) [],.x (intP (totalM c i)),.x (intP x100)]) (l:=[_,_,[(intP (i:Int)),(intP (rankM c i)),(intP (totalM c i)),(intP x100)].length=4,(((intP (totalM c i))::((placesM c i).map intP))++[])[2]? = some (intP x100),0≤(1:Int)∧(1:Int)<(61:Int),(((intP (totalM c i))::((placesM c i).map intP))++[])[0]? = some (intP (totalM c i)),_,((intP (totalM c i))::((placesM c i).map intP)).length=62∧0+62≤[(intP 0),(intP 0),(intP 0),(intP 0),(intP 0),(intP 0),(intP 0),(intP 0),(intP 0),(intP 0),(intP 0),(intP 0),(intP 0),(intP 0),(intP 0),(intP 0),(intP 0),(intP 0),(intP 0),(intP 0),(intP 0),(intP 0),(intP 0),(intP 0),(intP 0),(intP 0),(intP 0),(intP 0),(intP 0),(intP 0),(intP 0),(intP 0),(intP 0),(intP 0),(intP 0),(intP 0),(intP 0),(intP 0),(intP 0),(intP 0),(intP 0),(intP 0),(intP 0),(intP 0),(intP 0),(intP 0),(intP 0),(intP 0),(intP 0),(intP 0),(intP 0),(intP 0),(intP 0),(intP 0),(intP 0),(intP 0),(intP 0),(intP 0),(intP 0),(intP 0),(intP 0),(intP 0)].length,_,_]) (by kernel_rfl) (gc h6 (gc h5 (gc (by first | decide | simp) (gc (at_nil (at_map (i:=1) h4)) (gc (by first | decide | simp) (gc (at_nil rfl) (gc (fk 3 (rank_ok c h1 i h2) rfl) (gc ⟨h3,by first | decide | simp⟩ (gc (fk 2 (form_ok c h1 i h2) rfl) (gc (q_lt h0) gn))))))))))
  exact raw.cast (by rw [eo'n,eo'c])
theorem table_L0_p1{c:Cup}{i:Nat}{o:List (List Int)}(h0:c.sk≤(i:Int)):CodeOK Tryz.prog 0 zK5c4 (table_S0 c i o.length (o.flatten.map intP)) (.exit 0) (table_S0 c i o.length (o.flatten.map intP)):=by
  exact CodeOK.fin (g:=⟨(rng [(0,2),(5,1),(7,12),(21,19),(41,1)]),[0,1],[],[]⟩) (o:=[bF]) (l:=[_]) (by kernel_rfl) (gc (q_ltF h0) gn)
def wStep(a:Int × Int × List Int)(x:List Int):Int × Int × List Int:=if 60<x.getD 1 0 then (a.1+1,a.2.1,a.2.2) else if a.2.1≤x.getD 1 0 then (a.1+1,a.2.1+1,a.2.2.set (x.getD 0 0).toNat a.2.1) else a
def worstM(c:Cup)(s:Nat):Int × Int × List Int:=(rivM c s).foldl wStep (1,1,List.replicate c.sk.toNat 0)
theorem rivM_mem{c:Cup}{s:Nat}{x:List Int}(h:x∈rivM c s):∃ i:Nat,(i:Int)<c.sk∧i≠s∧x=[(i:Int),rivPl c s i]∧0<rivPl c s i:=rivL_mem ((isort_mem _ _ _).1 h)
theorem rivM_len(c:Cup)(s:Nat):(rivM c s).length≤c.sk.toNat:=by
  unfold rivM
  rw [isort_length]
  have:=flatMap_len (rivG_len c s) (List.range c.sk.toNat)
  rwa [List.length_range] at this
theorem worst_ok(c:Cup)(s:Nat)(h:lastE c (s:Int)=0){base:Nat}:FV Tryz.prog 55 [.p (cupP c),.p (intP (s:Int))] base (.tup [.p (intP (worstM c s).1),.p (intsP (worstM c s).2.2),.p (intP 0)]) []:=by
  obtain ⟨hV,hs0,hs,hra⟩:=lastE_zero h
  have h1:=hV.sk1
  have h2:=hV.sk2
  have hu:uni 2 (rivM c s):=fun x hx=>by obtain ⟨i,_,_,rfl,_⟩:=rivM_mem hx;rfl
  have hll:=rivM_len c s
  have hL:=LoopOK.range (P:=Tryz.prog) (k:=0) (b:=zK5c3) (e := .exit 0) (fun i (a:Int × Int × List Int)=>worst_S0 c s i a.1 a.2.1 a.2.2.length (a.2.2.map intP)) (fun a=>worst_S0 c s (rivM c s).length a.1 a.2.1 a.2.2.length (a.2.2.map intP)) wStep (fun i a=>0≤a.1∧a.1≤1+i∧0≤a.2.1∧a.2.1≤1+i∧a.2.2.length=c.sk.toNat) (by simp) (rivM c s) (a0:=(1,1,List.replicate c.sk.toNat 0)) (by simp)
    (fun i x a hx hI=>by
      obtain ⟨q1,q2,q3,q4,q5⟩:=hI
      obtain ⟨k,hk,_,rfl,hp⟩:=rivM_mem (List.mem_of_getElem? hx)
      have hi:=lt_of_at hx
      have hbd:=rivPl_bd c s k
      unfold wStep
      simp only [List.getD_cons_succ,List.getD_cons_zero]
      by_cases c1:60<rivPl c s k
      · rw [if_pos c1]
        exact ⟨⟨by simp;omega,by simp;omega,by simp;omega,by simp;omega,q5⟩,worst_L0_p0 (by omega) hx hu c1 (by unfold inR;omega) (inR_nat (by omega)) rfl rfl⟩
      · rw [if_neg c1]
        by_cases c2:a.2.1≤rivPl c s k
        · rw [if_pos c2]
          have hkl:k<a.2.2.length:=by omega
          exact ⟨⟨by simp;omega,by simp;omega,by simp;omega,by simp;omega,by simpa using q5⟩,worst_L0_p1 (by omega) hx hu (by omega) c2 (x102:=a.2.2[k]) (by rw [Int.toNat_natCast];exact List.getElem?_eq_getElem hkl) (by omega) (by simp;omega) (by unfold inR;omega) (by unfold inR;omega) (inR_nat (by omega)) rfl rfl rfl (by simp) (by simp [List.map_set])⟩
        · rw [if_neg c2]
          exact ⟨⟨by omega,by omega,by omega,by omega,q5⟩,worst_L0_p2 (by omega) hx hu (by omega) (by omega) (inR_nat (by omega)) rfl⟩)
    (fun a _=>worst_L0_p3 (by omega))
  refine worst_p1 (s:=s) hV.small h (by omega) ⟨hV,by omega,hs⟩ (i'0:=(rivM c s).length) (nx'2:=(worstM c s).2.1) ?_
  simpa [worstM] using hL
def tabL(c:Cup):List (List Int):=(List.range c.sk.toNat).map fun (i:Nat)=>[(i:Int),rankM c i,totalM c i,(placesM c i).getD 1 0]
def tableM(c:Cup):List (List Int):=isort (ltK 1) (tabL c)
theorem foldl_mapL{g:Nat→List Int}:∀ (l:List Nat) (a:List (List Int)),l.foldl (fun acc s=>acc++[g s]) a=a++l.map g
  | [],a=>by simp
  | x::l,a=>by rw [List.foldl_cons,foldl_mapL l];simp
theorem table_ok(c:Cup)(hV:KL.Valid c){base:Nat}:FV Tryz.prog 34 [.p (cupP c)] base (.tup [.p (.sl (tableM c).length ((tableM c).flatten.map intP)),.p (intP 0)]) []:=by
  have h1:=hV.sk1
  have h2:=hV.sk2
  have hpl:∀ i,(placesM c i).length=61:=fun i=>by unfold placesM;rw [KL.placesUpTo_length]
  have hL:=LoopOK.times (P:=Tryz.prog) (k:=0) (b:=zK5c4) (e := .exit 0) (fun i (o:List (List Int))=>table_S0 c i o.length (o.flatten.map intP)) (fun o=>table_S0 c c.sk.toNat o.length (o.flatten.map intP)) (fun acc i=>acc++[[(i:Int),rankM c i,totalM c i,(placesM c i).getD 1 0]]) (fun i o=>o.length≤i) (by simp) c.sk.toNat (a0:=[]) (by simp)
    (fun i o hi hI=>⟨by simp;omega,table_L0_p0 (x100:=(placesM c i).getD 1 0) (by omega) hV (by omega) (by simp [hpl]) (by
      have:=hpl i
      rw [List.getElem?_eq_getElem (by omega),List.getD_eq_getElem?_getD,List.getElem?_eq_getElem (by omega)];rfl) (by simp;omega) (inR_nat (by omega)) rfl (by simp) (by simp)⟩)
    (fun o _=>table_L0_p1 (by omega))
  rw [foldl_mapL,List.nil_append] at hL
  exact table_p1 hV.small ((KL.valid_iff c).2 hV) hL (fun x hx=>by rw [List.mem_map] at hx;obtain ⟨i,_,rfl⟩:=hx;rfl) (by simp;omega)
end
end KV
end Go.Proofs
section
namespace Go.Proofs
open Go.RowKit
namespace KV
variable {P:Program} {C C0:Cx} {M M0:Mem} {w w0:World}

def Solid(w:World)(b:Nat):Prop:=∃ o:Obj,w.heap[b]? = some o∧o.isCells=true
theorem solid_cell{b o:Nat}{v:Value}(h:w.cell? ⟨b,o,none⟩=some v):Solid w b:=cells_of_cell h
theorem solid_row{b ty:Nat}{arr:Array Value}{fr:Nat × Nat}(h:w.heap[b]? = some (.cells arr ty fr)):Solid w b:=⟨_,h,rfl⟩

theorem RepP.shrink{F F':Nat→Prop}{x:PV}{u:Value}(h:RepP F w x u)(hF:∀ b,F b→Solid w b→F' b):RepP F' w x u:=by
  induction h with
  | v x=>exact .v x
  | sl n cs p cap us h1 h2 h3 _ h5 ih =>
    refine .sl n cs p cap us h1 h2 (fun i hi => ?_) ih h5
    obtain ⟨b,o,hp,hb,hc⟩:=h3 i hi
    exact ⟨b,o,hp,hF b hb (solid_cell hc),hc⟩
  | agg cs vs h0 h1 _ ih=>exact .agg cs vs h0 h1 ih
theorem Rep.shrink{F':Nat→Prop}{x:AV}{u:Value}(h:Rep C M w x u)(hF:∀ b,C.F b→Solid w b→F' b):Rep ⟨C.ι,C.κ,F',[]⟩ M w x u:=by
  induction h with
  | p x u h=>exact .p x u (h.shrink hF)
  | any u=>exact .any u
  | kb b=>exact .kb b
  | yld l=>exact .yld l
  | own id u h0 ha h=>exact .own id u h0 ha h
  | arr id off n u h0 ha h=>exact .arr id off n u h0 ha h
  | ptr id off u h0 ha h=>exact .ptr id off u h0 ha h
  | mp id u h0 ha h=>exact .mp id u h0 ha h
  | pa id q u h0 ha h=>exact .pa id q u h0 ha h
  | rp cs off b o us h1 h2 h3=>exact .rp cs off b o us (fun i hi=>⟨hF b (h1 i hi).1 (solid_cell (h1 i hi).2),(h1 i hi).2⟩) (fun i hi=>(h2 i hi).shrink hF) h3
  | agg cs vs h0 h1 _ ih=>exact .agg cs vs h0 h1 ih
  | tup cs vs h1 _ ih=>exact .tup cs vs h1 ih
  | fn f cs ds us vs h1 h2 _ _ ih1 ih2=>exact .fn f cs ds us vs h1 h2 ih1 ih2

def NoMap(M:Mem):Prop:=(∀ (i:Nat) (es:List (Value × PV)) (cl:Nat),M[i]? ≠ some (some (.mp es cl)))∧NoPk M
def noMapM:Mem→Bool
  | []=>true
  | some (.pk _ _ _ _)::_=>false
  | some (.mp _ _)::_=>false
  | _::r=>noMapM r
theorem noMapM_inv:∀ {m:Mem},noMapM m=true→NoMap m
  | [],_=>⟨fun i es cl h=>by simp at h,fun i o h=>by simp at h⟩
  | none::r,hm=>by
    obtain ⟨h1,h2⟩:=noMapM_inv (m:=r) hm
    refine ⟨fun i es cl h => ?_,fun i o h => ?_⟩
    · cases i with
      | zero=>simp at h
      | succ i=>exact h1 i es cl (by simpa using h)
    · cases i with
      | zero=>simp at h
      | succ i=>exact h2 i o (by simpa using h)
  | some x::r,hm=>by
    have hr:noMapM r=true∧x.isPk=false∧∀ es cl,x ≠ .mp es cl:=by
      cases x with
      | pk=>simp [noMapM] at hm
      | mp=>simp [noMapM] at hm
      | _=>exact ⟨by simpa [noMapM] using hm,rfl,fun _ _ e=>by cases e⟩
    obtain ⟨h1,h2⟩:=noMapM_inv (m:=r) hr.1
    refine ⟨fun i es cl h => ?_,fun i o h => ?_⟩
    · cases i with
      | zero=>simp at h;exact hr.2.2 _ _ h
      | succ i=>exact h1 i es cl (by simpa using h)
    · cases i with
      | zero=>simp at h;rw [← h];exact hr.2.1
      | succ i=>exact h2 i o (by simpa using h)

theorem inv_shrink{M':Mem}{W:World}(hn:NoMap M')(hF:∀ b,C.F b→b<w.heap.size){C':Cx}(hM:MemOK P C' M' W)(f:Fr C M w C' M' W) :
    ∃ C'',MemOK P C'' M' W∧Fr C M w C'' M' W∧(∀ b,C''.F b→b<w.heap.size∨Solid W b):=by
  refine ⟨⟨C'.ι,C'.κ,fun b=>C'.F b∧(b<w.heap.size∨Solid W b),[]⟩,⟨fun i ty n cs hm => ?_,fun i ty cs hm => ?_,fun i es cl hm=>absurd hm (hn.1 _ _ _),hM.inj,fun i o b ho hl hb hf=>hM.nF i o b ho hl hb hf.1,fun b hb=>hM.Fs b hb.1,hM.lt⟩,
    ⟨f.os,f.tape,f.out,f.size,f.keep,f.ids,f.row,f.liv,f.new,fun b hb=>⟨f.F1 b hb,.inl (hF b hb)⟩,fun b hb=>f.F2 b hb.1⟩,fun b hb=>hb.2⟩
  · rcases hM.row _ _ _ _ hm with h4 | ⟨b,arr,inf,q0,q1,q2,q3,q4,q5,q6,q7,q8⟩
    · exact .inl h4
    · exact .inr ⟨b,arr,inf,q0,q1,q2,q3,q4,q5,q6,fun j hj=>(q7 j hj).shrink (fun b hb hs=>⟨hb,.inr hs⟩),q8⟩
  · obtain ⟨b,arr,q0,q1,q2,q3,q4⟩:=hM.box _ _ _ hm
    exact ⟨b,arr,q0,q1,q2,fun j hj=>(q3 j hj).shrink (fun b hb hs=>⟨hb,.inr hs⟩),q4⟩

def InvR(P:Program)(C:Cx)(M:Mem)(w:World)(M':Mem)(W:World):Prop:=∃ C',MemOK P C' M' W∧Fr C M w C' M' W

theorem not_solid{W:World}{b:Nat}{o:Obj}(h:W.heap[b]? = some o)(ho:o.isCells=false):¬ Solid W b:=fun ⟨o',h',hc⟩=>by rw [h] at h';cases h';rw [ho] at hc;cases hc

theorem InvR.own{M':Mem}{W W':World}{row:Option Nat}(hn:NoMap M')(hF:∀ b,C.F b→b<w.heap.size)(h:InvR P C M w M' W)(hg:W.grownBy W' row)
    (hr:∀ r,row=some r→w.heap.size≤r∧∃ o:Obj,W.heap[r]? = some o∧o.isCells=false):InvR P C M w M' W':=by
  obtain ⟨C1,h1,h2⟩:=h
  obtain ⟨C',hM,f,hS⟩:=inv_shrink hn hF h1 h2
  have hsame:∀ b,b<W.heap.size→(b<w.heap.size∨Solid W b)→W'.heap[b]? = W.heap[b]? := fun b hb hd=>hg.block b hb (fun e=>by
    obtain ⟨q1,o,q2,q3⟩:=hr b e.symm
    rcases hd with hd | hd
    · omega
    · exact not_solid q2 q3 hd)
  have hFz:∀ b,C'.F b→W'.heap[b]? = W.heap[b]? := fun b hb=>hsame b (hM.Fs b hb) (hS b hb)
  have hL:Le C' C' M' M' W W':=⟨fun _ o h=>⟨o,h⟩,fun _ _ _ _ _ cs h=>⟨cs,h⟩,fun _ o h o' h' hl=>by rw [h] at h';cases h';exact ⟨hl,rfl,rfl⟩,fun _ h=>h,hFz⟩
  refine ⟨C',⟨fun i ty n cs hm => ?_,fun i ty cs hm => ?_,fun i es cl hm=>absurd hm (hn.1 _ _ _),hM.inj,hM.nF,fun b hb=>Nat.lt_of_lt_of_le (hM.Fs b hb) hg.size,fun i o b ho hl hb=>Nat.lt_of_lt_of_le (hM.lt i o b ho hl hb) hg.size⟩,
    ⟨hg.os.trans f.os,hg.tape.trans f.tape,hg.output.trans f.out,Nat.le_trans f.size hg.size,fun b hb hno=>(hsame b (Nat.lt_of_lt_of_le hb f.size) (.inl hb)).trans (f.keep b hb hno),f.ids,f.row,f.liv,f.new,f.F1,f.F2⟩⟩
  · rcases hM.row _ _ _ _ hm with h4 | ⟨b,arr,inf,q0,q1,q2,q3,q4,q5,q6,q7,q8⟩
    · exact .inl h4
    · exact .inr ⟨b,arr,inf,q0,(hsame b (Array.getElem?_eq_some_iff.1 q1).1 (.inr (solid_row q1))).trans q1,q2,q3,q4,q5,q6,fun j hj=>(q7 j hj).mono hL.F hL.fz,q8⟩
  · obtain ⟨b,arr,q0,q1,q2,q3,q4⟩:=hM.box _ _ _ hm
    exact ⟨b,arr,q0,(hsame b (Array.getElem?_eq_some_iff.1 q1).1 (.inr (solid_row q1))).trans q1,q2,fun j hj=>(q3 j hj).mono hL,q4⟩

structure KpG (F:Nat→Prop) (A B:World):Prop where
  size:A.heap.size≤B.heap.size
  same:∀ b,F b→B.heap[b]? = A.heap[b]?
theorem KpG.refl(F:Nat→Prop)(A:World):KpG F A A:=⟨Nat.le_refl _,fun _ _=>rfl⟩
theorem KpG.trans{F:Nat→Prop}{A B D:World}(h:KpG F A B)(k:KpG F B D):KpG F A D:=⟨Nat.le_trans h.size k.size,fun b hb=>(k.same b hb).trans (h.same b hb)⟩

def IterOK(P:Program){α:Type}(g:AV)(encs:α→Array Value)(gf N:Nat)(S:List α→Prop):Prop:=∀ (C:Cx) (M:Mem) (w:World) (u:Value),Rep C M w g u→(∀ b,C.F b→b<w.heap.size) →
  ∃ lb Sp,u = .func (.func gf) #[] lb∧SeqStopsK Fence.wide 2 P gf lb encs (KpG C.F) S Sp N w

theorem room_fen{ro:Option Nat}{n:Nat}:(Fen ro).room n:=fun d hd=>by cases hd
theorem wpIn_any_n{ro:Option Nat}{n m:Nat}{c:Code}{Q:Exit→Act→World→Prop}{a:Act}(h:c.wpIn (Fen ro) n P Q a w):c.wpIn (Fen ro) m P Q a w:=fun b k cs hro hb _=>h b k cs hro hb room_fen

theorem nosolid_live{C:Cx}{M:Mem}{W:World}(hM:MemOK P C M W)(hn:NoMap M){b:Nat}{o:Obj}(h:W.heap[b]? = some o)(ho:o.isCells=false):∀ (id:Nat) (x:AO),M[id]? = some (some x)→x.live=true→C.ι id≠some b:=fun id x hx hl hb=>by
  cases x with
  | row ty n cs =>
    rcases hM.row _ _ _ _ hx with ⟨h1,_⟩ | ⟨b',arr,i,h1,h2,_⟩
    · rw [hb] at h1;cases h1
    · rw [hb] at h1;cases h1;exact not_solid h ho (solid_row h2)
  | box ty cs =>
    obtain ⟨b',arr,h1,h2,_⟩:=hM.box _ _ _ hx
    rw [hb] at h1;cases h1;exact not_solid h ho (solid_row h2)
  | mp es cl=>exact hn.1 _ _ _ hx
  | pk to ti sz L=>have:=hn.2 _ _ hx;cases this
  | dead=>cases hl

theorem zip2'(p q:Nat)(a b:Value)(t:Array Value):(#[p,q].zip #[a,b]).foldl (fun t (x:Nat × Value)=>t.setIfInBounds x.1 x.2) t=(t.setIfInBounds p a).setIfInBounds q b:=by simp

theorem CodeOK.rangeFunc{α:Type}{k kb gi gf p1 p2 d id ty:Nat}{pos:String}{body:Code}{st:St}{g:AV}{N:Nat}{S:List α→Prop}(Mx:List α→Mem)(v1 v2:α→Value)(t':List α→α→List AV)(M':Mem)
    (hg:st.t[gi]? = some g) (h0:Mx []=st.m) (hit:IterOK P g (fun x => #[v1 x,v2 x]) gf N S) (eg:∀ args w,(callFunc gf args).run P w = .ok (.enter gf args) w)
    (hmp':∀ pre,noMapM (Mx pre)=true) (hlen:∀ pre,(Mx pre).length≤kb) (hnrf:nrf body=true)
    (hp:∀ x,(put (put st.t (some p1) (.p (.v (v1 x)))) (some p2) .any)[p1]? = some (.p (.v (v1 x))))
    (hbody:∀ pre x,pre.length<N→CodeOK P kb body ⟨put (put (put st.t (some p1) (.p (.v (v1 x)))) (some p2) .any) (some d) (.p (.v (v1 x))),Mx pre⟩ .normal ⟨t' pre x,Mx (pre++[x])⟩)
    (hS:∀ xs,S xs→Mx xs=M') :
    CodeOK P k (.rangeFunc (.tmp gi) #[p1,p2] (.region id #[{ dst:=some d,op := .assign (.tmp p1),type:=ty,pos:=pos,after := #[],guard:=none }] false) body) st .normal ⟨st.t,M'⟩:=by
  have hmp:∀ pre,NoMap (Mx pre):=fun pre=>noMapM_inv (hmp' pre)
  intro C0 M0 w0 a w hk hs ro hro n
  have hro':ro=none:=hro.resolve_right (by simp [nrf])
  subst hro'
  refine wpIn_any_n (n:=3) ?_
  obtain ⟨C,hSl,hM,hF,hD⟩:=hs
  obtain ⟨lb,Sp,hu,hseq⟩:=hit C st.m w _ (hSl.at hg) hM.Fs
  refine wpIn_rangeFunc_ownH (F:=Fen none) (n:=3) rfl (by omega) (gf:=gf) (lb:=lb) hu trivial eg hseq (fun h k=>h.trans k)
    (fun W l o o' hl h1 h2 h3=>⟨by simp,fun b hb=>(grownBy_putObj' W l o').block b (Nat.lt_of_lt_of_le (hM.Fs b hb) (Nat.le_trans hl (Nat.le_of_lt (Array.getElem?_eq_some_iff.1 h1).1))) (fun e=>by cases e;have:=hM.Fs _ hb;omega)⟩)
    (Below.refl _ _) (fun _=>rfl)
    (fun pre W=>InvR P C st.m w (Mx pre) W) (fun _ _ _=>False)
    (fun pre X Y row hs hg hr=>hs.own (hmp pre) hM.Fs hg hr) (fun _ _ _ _ _ hs _ _=>hs)
    ⟨C,by rw [h0];exact hM,by rw [h0];exact Fr.refl _ _ _⟩
    (fun x a' _=>a'=({ tmps:=(a.tmps.setIfInBounds p1 (v1 x)).setIfInBounds p2 (v2 x),defers:=[] }:Act).put (some d) (({ tmps:=(a.tmps.setIfInBounds p1 (v1 x)).setIfInBounds p2 (v2 x),defers:=[] }:Act).eval (.tmp p1)))
    (fun _ _ _ _ _ _ hs _ _=>hs) ?assign ?body ?done ?stop
  case assign =>
    intro l pre x W K hI hK
    rw [zip2']
    refine wpIn_region_lit (wpListIn_plain rfl fun K' hK' => ?_)
    unfold Oper.wpIn
    refine ⟨fun f _=>trivial,?_⟩
    rw [Oper.semAt_plain _ _ _ (by intro c hc';cases hc')]
    simp only [execOp,Sem.run_pure]
    exact hK' _ _ (wpListIn_nil (hK _ _ (KeepsFrom.refl _ _) (KpG.refl _ _) hI rfl))
  case body =>
    rintro l pre x a' W hl _ hI rfl hlt
    obtain ⟨C',hM',hF'⟩:=hI
    have hSW:=hSl.le (hM.le hF')
    have hS1:Slots C' (Mx pre) W (put (put (put st.t (some p1) (.p (.v (v1 x)))) (some p2) .any) (some d) (.p (.v (v1 x)))) (({ tmps:=(a.tmps.setIfInBounds p1 (v1 x)).setIfInBounds p2 (v2 x),defers:=[] }:Act).put (some d) (({ tmps:=(a.tmps.setIfInBounds p1 (v1 x)).setIfInBounds p2 (v2 x),defers:=[] }:Act).eval (.tmp p1))).tmps:=by
      have s1:Slots C' (Mx pre) W (put (put st.t (some p1) (.p (.v (v1 x)))) (some p2) .any) ((({ tmps:=a.tmps,defers:=[] }:Act).put (some p1) (v1 x)).put (some p2) (v2 x)).tmps :=
        Slots.put (Slots.put (a:={ tmps:=a.tmps,defers:=[] }) hSW (.p _ _ (.v _))) (.any _)
      exact Slots.put s1 (s1.at (hp x))
    refine wpIn_mono (hbody pre x hlt (C'.with []) (Mx pre) W _ W (hlen pre) ⟨C',hS1,hM',(Fr.refl _ _ _).based [],.nil rfl (hmp pre).2⟩ (some l) (.inr hnrf) 1) ?_
    rintro e a2 W2 ⟨rfl,C2,_,hM2,hF2,_⟩
    have hF2:=hF2.unbased
    refine ⟨⟨hF2.size,fun b o _ hb ho=>(hF2.keep b (Array.getElem?_eq_some_iff.1 hb).1 (nosolid_live hM' (hmp pre) hb ho)).trans hb⟩,⟨hF2.size,fun b hb=>(hF2.keep b (Nat.lt_of_lt_of_le (hM.Fs b hb) hF'.size) (fun id o ho hl he=>hM'.nF id o b ho hl he (hF'.F1 b hb)))⟩,C2,hM2,hF'.trans hF2⟩
  case done =>
    intro D xs W hD' hSx hI hDm
    obtain ⟨C1,h1,h2⟩:=hI
    rw [hS xs hSx] at h1 h2
    have hnm:NoMap M':=hS xs hSx ▸ hmp xs
    obtain ⟨C',hM',f,hSo⟩:=inv_shrink hnm hM.Fs h1 h2
    refine ⟨rfl,C',hSl.le (hM.le f),hM',hF.trans f,?_⟩
    obtain ⟨⟨l,e1,e2,e3⟩,hR⟩:=hD.fr hM (fun i to ti sz L h=>by have:=hnm.2 _ _ h;cases this) f
    obtain ⟨⟨l',e1',_,e3'⟩,_⟩:=hD
    have hll:l=l':=by
      have:=e1.symm.trans e1'
      exact (List.map_inj_right (fun x y h=>by simpa [mark] using h)).1 this
    refine ⟨⟨D::l,by rw [e1];rfl,List.nodup_cons.2 ⟨fun hin => ?_,e2⟩,fun D' hD2 => ?_⟩,hR⟩
    · rw [hll] at hin
      have:=(Array.getElem?_eq_some_iff.1 (e3' D hin).1).1
      omega
    · rcases List.mem_cons.1 hD2 with rfl | hin
      · refine ⟨hDm,Nat.le_trans hF.size hD',fun hf => ?_⟩
        rcases hSo _ hf with h | h
        · omega
        · exact not_solid hDm rfl h
      · exact e3 D' hin
  case stop =>
    intro D c pre W _ _ h _
    exact h.elim
def rfS(st:St)(p1 p2 d:Nat)(x:PV):St:=⟨put (put (put st.t (some p1) (.p x)) (some p2) .any) (some d) (.p x),st.m⟩
theorem CodeOK.rangeAcc{α β β':Type}{k kb gi gf p1 p2 d id ty:Nat}{pos:String}{body:Code}{g:AV}{N:Nat}{xs:List β}(val:α→β)(S:β'→St)(T:List AV)(v1 v2:α→Value)(f:β'→α→β')(a0:β')(Inv:Nat→β'→Prop)(R:List β→β')
    {cc:Code} (hcc:cc = .rangeFunc (.tmp gi) #[p1,p2] (.region id #[{ dst:=some d,op := .assign (.tmp p1),type:=ty,pos:=pos,after := #[],guard:=none }] false) body) (hT:∀ acc,(S acc).t=T) (hg:T[gi]? = some g) (hit:IterOK P g (fun x => #[v1 x,v2 x]) gf N (fun ys=>ys.map val=xs)) (eg:∀ args w,(callFunc gf args).run P w = .ok (.enter gf args) w)
    (hmp:∀ acc,noMapM (S acc).m=true) (hlen:∀ acc,(S acc).m.length≤kb) (hnrf:nrf body=true)
    (hp:∀ x,(put (put T (some p1) (.p (.v (v1 x)))) (some p2) .any)[p1]? = some (.p (.v (v1 x))))
    (h0:Inv 0 a0) (hInv:∀ i acc x,i<N→Inv i acc→Inv (i+1) (f acc x))
    (hbody:∀ i acc x,i<N→Inv i acc→CodeOK P kb body (rfS (S acc) p1 p2 d (.v (v1 x))) .normal (S (f acc x)))
    (hR:∀ ys:List α,ys.foldl f a0=R (ys.map val)) :
    CodeOK P k cc (S a0) .normal (S (R xs)):=by
  subst hcc
  have hI':∀ (pre:List α) (i:Nat) (acc:β'),Inv i acc→i+pre.length≤N→Inv (i+pre.length) (pre.foldl f acc):=by
    intro pre
    induction pre with
    | nil=>intro i acc h _;exact h
    | cons x pre ih =>
      intro i acc h hl
      rw [List.length_cons] at hl ⊢
      have:=ih (i+1) (f acc x) (hInv i acc x (by omega) h) (by omega)
      rwa [show i+1+pre.length=i+(pre.length+1) by omega] at this
  have hI:∀ (pre:List α),pre.length≤N→Inv pre.length (pre.foldl f a0):=fun pre hl=>by
    have:=hI' pre 0 a0 h0 (by omega)
    rwa [Nat.zero_add] at this
  have:=CodeOK.rangeFunc (P:=P) (k:=k) (kb:=kb) (d:=d) (id:=id) (ty:=ty) (pos:=pos) (body:=body) (st:=S a0) (g:=g) (S:=fun ys=>ys.map val=xs) (fun pre=>(S (pre.foldl f a0)).m) v1 v2 (fun pre x=>T) (S (R xs)).m
    (by rw [hT];exact hg) rfl hit eg (fun pre=>hmp _) (fun pre=>hlen _) hnrf (by rw [hT];exact hp)
    (fun pre x hl=>by
      have h1:=hbody pre.length (pre.foldl f a0) x hl (hI pre (by omega))
      unfold rfS at h1
      rw [hT] at h1 ⊢
      rw [List.foldl_append]
      have h2:S (f (pre.foldl f a0) x)=⟨T,(S (f (pre.foldl f a0) x)).m⟩:=by rw [← hT (f (pre.foldl f a0) x)]
      rw [h2] at h1
      exact h1)
    (fun ys hy=>by rw [hR,hy])
  have h3:S (R xs)=⟨(S a0).t,(S (R xs)).m⟩:=by rw [hT,← hT (R xs)]
  rw [h3]
  exact this
end KV
end Go.Proofs
end
section
namespace Go.Proofs
open Go.RowKit Go.Lib Go.Sort Go.Shelf
namespace KV
open KL
attribute [local go_sem] Oper.semAt_some

theorem KpG.below{F:Nat→Prop}{A B:World}(h:Below A.heap.size A B)(hF:∀ b,F b→b<A.heap.size):KpG F A B:=⟨h.size,fun b hb=>h.block b (hF b hb)⟩

set_option maxRecDepth 1000000 in
set_option maxHeartbeats 2000000 in
theorem others_iterG(c:Cup)(hV:Valid c)(F0:Nat→Prop)(vp vd:Value)(n l b1 o1 b2 o2:Nat)(hn:1≤n)(skier:Nat)(J Jx:List Nat→World→Prop)
    (hY:∀ pre (x:Nat) W,(x:Int)<c.sk→x≠skier→J pre W→pre.length<(oth skier c.sk.toNat).length→YieldAt Fence.wide (n-1) Tryz.prog l #[.int .i64 x,.agg (formM c x)] W fun e W' =>
      (e = .returned (.bool true)∧J (pre++[x]) W'∧KpG F0 W W')∨(e = .returned (.bool false)∧Jx (pre++[x]) W'))
    (W:World) (hJ:AbidesFrom W.heap.size J) (hF:∀ b,F0 b→b<W.heap.size)
    (hc:∀ W',KpG F0 W W'→CupAt W' (.agg #[.int .i64 c.sk,.int .i64 c.ra,.int .i64 c.be,vp,vd]) c)
    (hk:∀ W',KpG F0 W W'→W'.cell? ⟨b1,o1,none⟩=some (.int .i64 c.sk)∧W'.cell? ⟨b1,o1+1,none⟩=some (.int .i64 c.ra)∧W'.cell? ⟨b1,o1+2,none⟩=some (.int .i64 c.be)∧W'.cell? ⟨b1,o1+3,none⟩=some vp∧W'.cell? ⟨b1,o1+4,none⟩=some vd∧W'.cell? ⟨b2,o2,none⟩=some (.int .i64 skier)) (h0:J [] W) :
    CallsIn Fence.wide n Tryz.prog 159 #[.func (.yield l) #[] #[],.pointer (some ⟨b1,o1,none⟩),.pointer (some ⟨b2,o2,none⟩)] W fun e W'=>(∃ v,e = .returned v) ∧
      ((∃ ys,ys=oth skier c.sk.toNat∧J ys W')∨(∃ pre,pre <+: oth skier c.sk.toNat∧Jx pre W')):=by
  have HJ:=hid hJ
  have HY:=hid hY
  have HC:=hid hc
  have HKC:=hid hk
  have HF0:=hid hF
  have HJ0:=hid h0
  have hsk:=hV.sk2
  have hsk1:=hV.sk1
  obtain ⟨k0,k1,k2,k3,k4,ks⟩:=hk W (KpG.refl _ _)
  clear hJ hY hc h0 hk hF
  refine callsIn_of_wp Tryz.func159 rfl trivial ?_ rfl
  simp only [Tryz.ntmps159,List.size_toArray,List.length_cons,List.length_nil,Nat.reduceAdd,Nat.reduceSub,Array.replicate_succ,Array.replicate_zero,List.push_toArray,List.append_toArray,List.nil_append,List.cons_append]
  gi_wp2
  clear k0 k1 k2 k3 k4 ks
  gi_loopw [8] (fun i wr=>∃ k:Nat,(k:Int)≤c.sk∧i = .int .i64 k∧J (oth skier k) wr∧KpG F0 W wr)
    (fun i _=>c.sk.toNat-(intOf i).toNat)
  case atStart=>exact ⟨0,by omega,rfl,HJ0.out,KpG.refl _ _⟩
  case round =>
    obtain ⟨k,hk,rfl,hJk,hK⟩:=hrel
    have HJK:=hid hJk
    have HK:=hid hK
    obtain ⟨k0,k1,k2,k3,k4,ks⟩:=HKC.out wr hK
    have HFR:=hid (fun b (hb:F0 b)=>Nat.lt_of_lt_of_le (HF0.out b hb) HK.out.size)
    clear hJk hK
    by_cases hlt:(k:Int)<c.sk
    · by_cases hks:k=skier
      · subst hks
        have HE:=hid (oth_succ_same k)
        have hk2:(k:Int)<12:=by omega
        gi_wp2
        refine ⟨trivial,?_⟩
        gi_wp2
        refine ⟨fun _ h=>(by cases h),?_⟩
        gi_wp2
        go_roundw
        case rel=>exact ⟨k+1,by omega,by go_num,by rw [HE.out];exact HJK.out,HK.out⟩
        case measure=>simp [intOf];omega
      · have HE:=hid (oth_succ_other skier k hks)
        have hne:((k:Int) != skier)=true:=by simp;omega
        have HFM:=hid (form_any c hV _ k wr (HC.out wr HK.out) hlt)
        have HL:=hid (oth_lt skier (show k<c.sk.toNat by omega) hks)
        have HP:=hid (oth_prefix skier (show k+1≤c.sk.toNat by omega))
        have HKS:=hid hks
        have HLT:=hid hlt
        have hk2:(k:Int)<12:=by omega
        have HWR:=hid (fun w1 (hb1:Below wr.heap.size wr w1)=>HJ.out _ wr w1 none HJK.out (grown_of_below hb1 none) (fun r e=>by cases e))
        have HKD:=hid (fun w1 (hb1:Below wr.heap.size wr w1)=>HK.out.trans (KpG.below hb1 HFR.out))
        gi_wp2_with (first
          | (refine ⟨trivial,?_⟩;gi_at_call 103;refine (callsIn_wide.2 HFM.out).mono ?_;clear HFM;rintro e w1 ⟨rfl,hb1⟩;have HB1:=hid hb1;clear hb1;obtain ⟨fn,tmps,assign,body,hy,hR⟩:=HY.out _ k w1 HLT.out HKS.out (HWR.out w1 HB1.out) HL.out)
          | (refine hR.mono ?_;clear hR;rintro e w3 (⟨rfl,hJ3,hK3⟩ | ⟨rfl,hx⟩)))
        · go_roundw
          case rel=>exact ⟨k+1,by omega,by go_num,by rw [HE.out];exact hJ3,(HKD.out w1 HB1.out).trans hK3⟩
          case measure=>simp [intOf];omega
        · refine bodyPost_ret (results_none rfl _ _ _) rfl ?_
          exact ⟨⟨_,rfl⟩,.inr ⟨oth skier k++[k],HE.out ▸ HP.out,hx⟩⟩
    · have HE:=hid (show k=c.sk.toNat by omega)
      gi_wp2
      go_end0
      exact ⟨⟨_,rfl⟩,.inl (HE.out ▸ HJK.out)⟩

theorem mem_froz{P:Program}{C:Cx}{M:Mem}{w w':World}(hM:MemOK P C M w)(hb:Below w.heap.size w w')(X:Nat→Prop)(hX:∀ b,X b→w.heap.size≤b∧b<w'.heap.size) :
    MemOK P ⟨C.ι,C.κ,fun b=>C.F b∨X b,[]⟩ M w'∧Fr C M w ⟨C.ι,C.κ,fun b=>C.F b∨X b,[]⟩ M w':=by
  have hL:Le C ⟨C.ι,C.κ,fun b=>C.F b∨X b,[]⟩ M M w w':=⟨fun _ o h=>⟨o,h⟩,fun _ _ _ _ _ cs h=>⟨cs,h⟩,fun _ o h o' h' hl=>by rw [h] at h';cases h';exact ⟨hl,rfl,rfl⟩,fun _ h => .inl h,fun b h=>hb.block b (hM.Fs b h)⟩
  refine ⟨⟨fun i ty' n cs hm => ?_,fun i ty' cs hm => ?_,fun i es cl hm => ?_,hM.inj,fun i o b ho hl hbb hf => ?_,fun b h => ?_,fun i x b hm hl hbb=>Nat.lt_of_lt_of_le (hM.lt i x b hm hl hbb) hb.size⟩,
    ⟨hb.os,hb.tape,hb.output,hb.size,fun b h _=>hb.block b h,fun _ x h=>⟨⟨x,h⟩,rfl,rfl⟩,fun _ _ _ _ _ cs h=>⟨cs,h⟩,fun _ o h o' h' hl=>by rw [h] at h';cases h';exact hl,fun i x _ h hl hbb => .inr ⟨i,x,h,hl,hbb⟩,fun _ h => .inl h,fun b h=>h.elim .inl (fun h => .inr (.inl (hX b h).1))⟩⟩
  · rcases hM.row _ _ _ _ hm with h4 | ⟨b,arr,inf,q0,q1,q2,q3,q4,q5,q6,q7,q8⟩
    · exact .inl h4
    · exact .inr ⟨b,arr,inf,q0,(hb.block b (hM.lt i _ b hm rfl q0)).trans q1,q2,q3,q4,q5,q6,fun j hj=>(q7 j hj).mono hL.F hL.fz,q8⟩
  · obtain ⟨b,arr,q0,q1,q2,q3,q4⟩:=hM.box _ _ _ hm
    exact ⟨b,arr,q0,(hb.block b (hM.lt i _ b hm rfl q0)).trans q1,q2,fun j hj=>(q3 j hj).mono hL,q4⟩
  · obtain ⟨b,arr,q0,q1,q2,q3⟩:=hM.mp _ _ _ hm
    refine ⟨b,arr,q0,(hb.block b (hM.lt i _ b hm rfl q0)).trans q1,q2,fun j hj => ?_⟩
    obtain ⟨en,r1,r2,r3,r4⟩:=q3 j hj
    exact ⟨en,r1,r2,r3,r4.mono hL.F hL.fz⟩
  · rcases hf with h | h
    · exact hM.nF i o b ho hl hbb h
    · have:=hM.lt i o b ho hl hbb;have:=(hX b h).1;omega
  · rcases h with h | h
    · exact Nat.lt_of_lt_of_le (hM.Fs b h) hb.size
    · exact (hX b h).2

def othA(c:KL.Cup)(s:Int):AV := .fn 159 [] [.rp [intP c.sk,intP c.ra,intP c.be,intsP c.pts,rowsP c.done] 0,.rp [intP s] 0]
abbrev Oth(c:KL.Cup)(s:Nat):Type:={ x:Nat // (x:Int)<c.sk∧x≠s }

theorem others_fc(c:KL.Cup)(s:Nat){bs:List (Nat × AO)}{base:Nat}:FC Tryz.prog 128 [.p (cupP c),.p (intP (s:Int))] bs base (othA c s) []:=fun M _ _ C w us hus hM n=>by
  cases hus with
  | cons _ _ u us h1 h2 =>
    cases h2 with
    | cons _ _ u2 us2 h3 h4 =>
      cases h4
      cases h1 with
      | p _ _ h1 =>
        cases h3 with
        | p _ _ h3 =>
          cases h3
          obtain ⟨vp,vd,rfl,hp,hd,rp,rd⟩:=cup_of h1
          refine (callsIn_wide.2 (others_any c vp vd s w hp hd)).mono ?_
          rintro e w' ⟨rfl,rfl⟩
          have hb:Below w.heap.size w ((w.alloc (deskBox c vp vd)).alloc (.cells #[.int .i64 s] 3)):=((Below.refl _ w).alloc (Nat.le_refl _) _).alloc (by simp) _
          obtain ⟨hM',hF'⟩:=mem_froz hM hb (fun b=>w.heap.size≤b∧b<w.heap.size+2) (fun b h=>⟨h.1,by have:=h.2;simpa using this⟩)
          have hL:=hM.le hF'
          have hbk:((w.alloc (deskBox c vp vd)).alloc (.cells #[.int .i64 s] 3)).heap[w.heap.size]? = some (deskBox c vp vd):=by
            refine ((World.grownBy_alloc _ _ none).block _ (by simp) (by simp)).trans ?_
            exact heap_alloc_new w _
          have hbs:((w.alloc (deskBox c vp vd)).alloc (.cells #[.int .i64 s] 3)).heap[w.heap.size+1]? = some (.cells #[.int .i64 s] 3 (0,0)):=by
            have:=heap_alloc_new (w.alloc (deskBox c vp vd)) (.cells #[.int .i64 s] 3)
            simpa using this
          obtain ⟨k0,k1,k2,k3,k4⟩:=desk_cells hbk
          have rp':=rp.mono hL.F hL.fz
          have rd':=rd.mono hL.F hL.fz
          refine ⟨_,rfl,_,hF',hM',.fn 159 [] _ #[] _ rfl rfl (fun i hi=>by simp at hi) (fun i hi => ?_)⟩
          have h5:∀ {u:Value} {l:List Int},RepP C.F w (intsP l) u→u.oneCell'=true:=fun h=>by cases h;rfl
          have h6:∀ {u:Value} {l:List (List Int)},RepP C.F w (rowsP l) u→u.oneCell'=true:=fun h=>by cases h;rfl
          have h5:=h5 rp
          have h6:=h6 rd
          match i,hi with
          | 0,_ =>
            refine Rep.rp _ 0 w.heap.size 0 (fun i=>(#[Value.int .i64 c.sk,.int .i64 c.ra,.int .i64 c.be,vp,vd]:Array Value).getD i undef) (fun i hi=>⟨.inr ⟨by omega,by omega⟩,?_⟩) (fun i hi => ?_) (fun i hi => ?_)
            · match i,hi with
              | 0,_=>exact k0
              | 1,_=>exact k1
              | 2,_=>exact k2
              | 3,_=>exact k3
              | 4,_=>exact k4
            · match i,hi with
              | 0,_=>exact .v _
              | 1,_=>exact .v _
              | 2,_=>exact .v _
              | 3,_=>exact rp'
              | 4,_=>exact rd'
            · match i,hi with
              | 0,_=>rfl
              | 1,_=>rfl
              | 2,_=>rfl
              | 3,_=>exact h5
              | 4,_=>exact h6
          | 1,_ =>
            refine Rep.rp _ 0 (w.heap.size+1) 0 (fun i=>(#[Value.int .i64 s]:Array Value).getD i undef) (fun i hi=>⟨.inr ⟨by omega,by omega⟩,?_⟩) (fun i hi => ?_) (fun i hi => ?_)
            · match i,hi with
              | 0,_=>rw [cell_of_row _ _ _ _ _ _ hbs];rfl
            · match i,hi with
              | 0,_=>exact .v _
            · match i,hi with
              | 0,_=>rfl

theorem repVi{F:Nat→Prop}{w:World}{n:Int}{u:Value}(h:RepP F w (intP n) u):u = .int .i64 n:=by unfold intP at h;cases h;rfl
theorem others_itok(c:KL.Cup)(hV:KL.Valid c)(s:Nat):IterOK Tryz.prog (othA c s) (fun x:Oth c s => #[Value.int .i64 x.1,.agg (formM c x.1)]) 159 (oth s c.sk.toNat).length (fun ys=>ys.map (fun x=>x.1)=oth s c.sk.toNat):=fun C M w u hu hFs=>by
  cases hu with
  | fn _ _ _ us vs h1 h2 h3 h4 =>
    obtain rfl:us = #[]:=by simpa using h1
    have q0:=h4 0 (by simp)
    have q1:=h4 1 (by simp)
    simp only [List.getElem_cons_zero,List.getElem_cons_succ] at q0 q1
    obtain ⟨x0,x1,rfl⟩:∃ x0 x1,vs = #[x0,x1]:=by
      have:vs.toList.length=2:=by simpa using h2
      match hv:vs.toList,this with
      | [x0,x1],_=>exact ⟨x0,x1,by rw [← hv]⟩
    simp at q0 q1
    cases q0 with
    | rp _ _ b1 o1 u1 e1 e2 e3 =>
      cases q1 with
      | rp _ _ b2 o2 u2 g1 g2 g3 =>
        refine ⟨_,fun pre=>∃ ys:List Nat,True,rfl,fun l J Jx W hW hJ _ hY h0 => ?_⟩
        have hsame:∀ W',KpG C.F W W'→∀ b,C.F b→W'.heap[b]? = w.heap[b]? := fun W' hk b hb=>(hk.same b hb).trans (hW.block b (hFs b hb))
        have e2':∀ W',KpG C.F W W'→∀ i (h:i<5),RepP C.F W' ([intP c.sk,intP c.ra,intP c.be,intsP c.pts,rowsP c.done][i]'h) (u1 i):=fun W' hk i hi=>(e2 i hi).mono (fun _ h=>h) (hsame W' hk)
        have z0:u1 0 = .int .i64 c.sk:=repVi (e2 0 (by simp))
        have z1:u1 1 = .int .i64 c.ra:=repVi (e2 1 (by simp))
        have z2:u1 2 = .int .i64 c.be:=repVi (e2 2 (by simp))
        have zs:u2 0 = .int .i64 s:=repVi (g2 0 (by simp))
        have:=others_iterG c hV C.F (u1 3) (u1 4) 2 l b1 o1 b2 o2 (by omega) s (fun ys W=>∃ zs:List (Oth c s),zs.map (fun x=>x.1)=ys∧J zs W) (fun ys W=>∃ zs:List (Oth c s),zs.map (fun x=>x.1)=ys∧Jx zs W)
          (fun pre x W1 hx hxs hj hl=>by
            obtain ⟨zs,rfl,hj⟩:=hj
            obtain ⟨fn,tmps,assign,body,hy,hR⟩:=hY zs ⟨x,hx,hxs⟩ W1 hj (by simpa using hl)
            refine ⟨fn,tmps,assign,body,hy,hR.mono ?_⟩
            rintro e w3 (⟨rfl,hJ3,hK3⟩ | ⟨rfl,hx3⟩)
            · exact .inl ⟨rfl,⟨zs++[⟨x,hx,hxs⟩],by rw [List.map_append];rfl,hJ3⟩,hK3⟩
            · exact .inr ⟨rfl,⟨zs++[⟨x,hx,hxs⟩],by rw [List.map_append];rfl,hx3⟩⟩)
          W (fun ys A B row hs hg hr=>by obtain ⟨zs,h1,h2⟩:=hs;exact ⟨zs,h1,hJ _ _ _ _ h2 hg hr⟩) (fun b hb=>Nat.lt_of_lt_of_le (hFs b hb) hW.size)
          (fun W' hk=>⟨_,_,rfl,ints_of (e2' W' hk 3 (by omega)),rows_of (e2' W' hk 4 (by omega))⟩)
          (fun W' hk=>by
            have hc:∀ b o,C.F b→W'.cell? ⟨b,o,none⟩=w.cell? ⟨b,o,none⟩:=fun b o hb=>cell_heap (hsame W' hk b hb) o
            refine ⟨?_,?_,?_,?_,?_,?_⟩
            · rw [hc _ _ (e1 0 (by simp)).1,← z0];exact (e1 0 (by simp)).2
            · rw [hc _ _ (e1 1 (by simp)).1,← z1];exact (e1 1 (by simp)).2
            · rw [hc _ _ (e1 2 (by simp)).1,← z2];exact (e1 2 (by simp)).2
            · rw [hc _ _ (e1 3 (by simp)).1];exact (e1 3 (by simp)).2
            · rw [hc _ _ (e1 4 (by simp)).1];exact (e1 4 (by simp)).2
            · rw [hc _ _ (g1 0 (by simp)).1,← zs];exact (g1 0 (by simp)).2)
          ⟨[],rfl,h0⟩
        refine this.mono ?_
        rintro e W' ⟨h5,h6⟩
        refine ⟨h5,?_⟩
        rcases h6 with ⟨ys,rfl,zs,h7,h8⟩ | ⟨pre,_,zs,h7,h8⟩
        · exact .inl ⟨zs,h7,h8⟩
        · exact .inr ⟨zs,⟨[],trivial⟩,h8⟩
end KV
end Go.Proofs
end
namespace Go.Proofs
namespace KV
section
open KL
noncomputable abbrev zK6c0:Code:=sub (cd Tryz.f56) [1,1,1,1,1,0,1,0,0]
noncomputable abbrev zK6c1:Code:=sub (cd Tryz.f56) [1,1,1,1,1,0,1,0,0,1,0,0,1,0,1,0]
noncomputable abbrev zK6c2:Code:=sub (cd Tryz.f56) [1,1,1,1,1,0,1,0,0,1,0,0,1,0,1,0,1]
theorem enters159(args:Array Value)(w:World):(callFunc 159 args).run Tryz.prog w = .ok (.enter 159 args) w:=enters_of Tryz.func159 (by kernel_rfl) rfl args w
def harmM(c:Cup)(s:Nat)(p:Int):Int:=(oth s c.sk.toNat).foldl (fun n x=>if beatsM c x p s 1 then n else n+1) 0
def full_S0(c:Cup)(s:Nat)(pl:Int)(freen:Nat)(freec:List PV):St:=⟨fr 66 [(3,(.ptr 0 0)),(6,(.ptr 1 0)),(8,(.ptr 3 0)),(9,(.ptr 4 0))],[some (.box 3 [(.p (intP (s:Int)))]),some (.box 120 [(.p (intP c.sk)),(.p (intP c.ra)),(.p (intP c.be)),(.p (intsP c.pts)),(.p (rowsP c.done))]),some (.row 3 freen freec),some (.box 22 [(.own 2)]),some (.box 3 [(.p (intP pl))])]⟩
theorem full_p1{c:Cup}{s:Nat}{pl'0:Int}{free'1:List Int}(h0:KL.Small c)(h1:(lastE c (s:Int))=(0:Int))(h2:0≤c.sk∧c.sk≤c.sk∧c.sk≤1000000)(h3:0≤(s:Int)∧(s:Int)<((c.sk.toNat:Nat):Int))(h4:(s*1)<(List.replicate c.sk.toNat (intP 0)).length)(hl5:LoopOK Tryz.prog 0 zK6c0 (full_S0 c s (2:Int) c.sk.toNat ((List.replicate c.sk.toNat (intP 0)).set (s*1) (intP 1))) (.exit 0) (full_S0 c s pl'0 free'1.length (free'1.map intP))){base:Nat}:FV Tryz.prog 56 [(.p (cupP c)),(.p (intP (s:Int)))] base (.tup [(.p (intsP free'1)),(.p (intP 0))]) []:=by
  exact FV.frz (FMM.fin (k:=0) (g:=⟨[],[],[2],[]⟩) rfl Tryz.func56 rfl (o:=[.c (.tup [(.p (cupP c)),(.p (intP (lastE c (s:Int))))]) [],bF,.k 8 ⟨(rng [(0,3),(4,2),(7,1),(10,55)]),[1,2,3,4,5],[],[]⟩ (.exit 0) (full_S0 c s pl'0 free'1.length (free'1.map intP))]) (l:=[_,_,_,_,_,_]) (by kernel_rfl) (gc hl5.code (gc h4 (gc h3 (gc h2 (gc (q_neF h1) (gc (fk 2 (last_ok c h0 (s:Int)) rfl) gn))))))) (by kernel_rfl)
theorem full_p2{c:Cup}{s:Nat}{pl'0:Int}{free'1:List Int}(h0:KL.Small c)(h1:(lastE c (s:Int))=(0:Int))(h2:0≤c.sk∧c.sk≤c.sk∧c.sk≤1000000)(h3:0≤(s:Int)∧(s:Int)<((c.sk.toNat:Nat):Int))(h4:(s*1)<(List.replicate c.sk.toNat (intP 0)).length)(hl5:LoopOK Tryz.prog 0 zK6c0 (full_S0 c s (2:Int) c.sk.toNat ((List.replicate c.sk.toNat (intP 0)).set (s*1) (intP 1))) .ret (setS (full_S0 c s pl'0 free'1.length (free'1.map intP)) [(4,(.p nilS)),(5,(.p (intP 6)))])){base:Nat}:FV Tryz.prog 56 [(.p (cupP c)),(.p (intP (s:Int)))] base (.tup [(.p nilS),(.p (intP 6))]) []:=by
  exact FV.frz (FMM.fin (k:=0) (g:=⟨[],[],[],[]⟩) rfl Tryz.func56 rfl (o:=[.c (.tup [(.p (cupP c)),(.p (intP (lastE c (s:Int))))]) [],bF,.k 8 ⟨(rng [(0,3),(4,2),(7,1),(10,55)]),[1,2,3,4,5],[],[]⟩ .ret (setS (full_S0 c s pl'0 free'1.length (free'1.map intP)) [(4,(.p nilS)),(5,(.p (intP 6)))])]) (l:=[_,_,_,_,_,_]) (by kernel_rfl) (gc hl5.code (gc h4 (gc h3 (gc h2 (gc (q_neF h1) (gc (fk 2 (last_ok c h0 (s:Int)) rfl) gn))))))) (by kernel_rfl)
def full_S1(c:Cup)(s:Nat)(pl:Int)(free:List Int)(fo:Int):St:=⟨fr 66 [(3,(.ptr 0 0)),(6,(.ptr 1 0)),(8,(.ptr 3 0)),(9,(.ptr 4 0)),(10,(.ptr 5 0)),(28,(.p (intP pl))),(29,(.ptr 1 0)),(30,(.ptr 1 0)),(31,(.p (intP c.sk))),(32,(.p (blP (decide (pl≤c.sk))))),(35,(.p (cupP c))),(36,(.p (intP (s:Int)))),(37,(.fn 159 [] [(.rp [(intP c.sk),(intP c.ra),(intP c.be),(intsP c.pts),(rowsP c.done)] 0),(.rp [(intP (s:Int))] 0)]))],[some (.box 3 [(.p (intP (s:Int)))]),some (.box 120 [(.p (intP c.sk)),(.p (intP c.ra)),(.p (intP c.be)),(.p (intsP c.pts)),(.p (rowsP c.done))]),some (.row 3 free.length (free.map intP)),some (.box 22 [(.own 2)]),some (.box 3 [(.p (intP pl))]),some (.box 3 [(.p (intP fo))])]⟩
theorem full_L0_p0{c:Cup}{s:Nat}{pl:Int}{free:List Int}{fo'100:Int}(h0:pl≤c.sk)(hl1:CodeOK Tryz.prog 0 zK6c1 (full_S1 c s pl free (-1:Int)) .normal (full_S1 c s pl free fo'100))(h2:fo'100<(0:Int)):CodeOK Tryz.prog 0 zK6c0 (full_S0 c s pl free.length (free.map intP)) .ret (setS (full_S0 c s pl free.length (free.map intP)) [(4,(.p nilS)),(5,(.p (intP 6)))]):=by
  exact CodeOK.fin (g:=⟨(rng [(0,3),(7,1),(10,55)]),[0,1,2,3,4],[],[]⟩) (o:=[bT,.c (.fn 159 [] [(.rp [(intP c.sk),(intP c.ra),(intP c.be),(intsP c.pts),(rowsP c.done)] 0),(.rp [(intP (s:Int))] 0)]) [],.k 1 ⟨(rng [(0,3),(7,1),(11,17),(38,20)]),[0,1,2,3,4,5],[],[]⟩ .normal (full_S1 c s pl free fo'100),bT]) (l:=[_,CodeOK Tryz.prog 0 zK6c1 (full_S1 c s pl free (-1:Int)) .normal (full_S1 c s pl free fo'100),FC Tryz.prog 128 [(.p (cupP c)),(.p (intP (s:Int)))] [] 6 (.fn 159 [] [(.rp [(intP c.sk),(intP c.ra),(intP c.be),(intsP c.pts),(rowsP c.done)] 0),(.rp [(intP (s:Int))] 0)]) [],_]) (by kernel_rfl) (gc (q_lt h2) (gc hl1 (gc (others_fc c s) (gc (q_le h0) gn))))
theorem full_L0_p1{c:Cup}{s:Nat}{pl:Int}{free:List Int}{fo'100 x101 pl':Int}{free':List Int}(h0:pl≤c.sk)(hl1:CodeOK Tryz.prog 0 zK6c1 (full_S1 c s pl free (-1:Int)) .normal (full_S1 c s pl free fo'100))(h2:(0:Int)≤fo'100)(h3:free[fo'100.toNat]? = some x101)(h4:0≤fo'100)(h5:(fo'100.toNat*1)<(free.map intP).length)(h6:inR (pl+(1:Int)))(epl':pl'=(pl+(1:Int)))(efree'n:free'.length=free.length)(efree'c:free'.map intP=((free.map intP).set (fo'100.toNat*1) (intP pl))):CodeOK Tryz.prog 0 zK6c0 (full_S0 c s pl free.length (free.map intP)) .normal (full_S0 c s pl' free'.length (free'.map intP)):=by
  subst epl'
  have raw:CodeOK Tryz.prog 0 zK6c0 (full_S0 c s pl free.length (free.map intP)) .normal (full_S0 c s (pl+(1:Int)) free.length ((free.map intP).set (fo'100.toNat*1) (intP pl))):=CodeOK.fin (g:=⟨(rng [(0,3),(4,2),(7,1),(10,55)]),[0,1,2,3,6],[],[]⟩) (o:=[bT,.c (.fn 159 [] [(.rp [(intP c.sk),(intP c.ra),(intP c.be),(intsP c.pts),(rowsP c.done)] 0),(.rp [(intP (s:Int))] 0)]) [],.k 1 ⟨(rng [(0,3),(7,1),(11,17),(38,20)]),[0,1,2,3,4,5],[],[]⟩ .normal (full_S1 c s pl free fo'100),bF]) (l:=[_,_,_,_,CodeOK Tryz.prog 0 zK6c1 (full_S1 c s pl free (-1:Int)) .normal (full_S1 c s pl free fo'100),FC Tryz.prog 128 [(.p (cupP c)),(.p (intP (s:Int)))] [] 6 (.fn 159 [] [(.rp [(intP c.sk),(intP c.ra),(intP c.be),(intsP c.pts),(rowsP c.done)] 0),(.rp [(intP (s:Int))] 0)]) [],_]) (by kernel_rfl) (gc h6 (gc h5 (gc (ix_own (i:=fo'100) h4 h3) (gc (q_ltF h2) (gc hl1 (gc (others_fc c s) (gc (q_le h0) gn)))))))
  exact raw.cast (by rw [efree'n,efree'c])
theorem full_L0_p2{c:Cup}{s:Nat}{pl:Int}{free:List Int}(h0:c.sk<pl):CodeOK Tryz.prog 0 zK6c0 (full_S0 c s pl free.length (free.map intP)) (.exit 0) (full_S0 c s pl free.length (free.map intP)):=by
  exact CodeOK.fin (g:=⟨(rng [(0,3),(4,2),(7,1),(10,55)]),[0,1,2,3,4],[],[]⟩) (o:=[bF]) (l:=[_]) (by kernel_rfl) (gc (q_leF h0) gn)
theorem full_L1_p0{c:Cup}{s:Nat}{pl:Int}{free:List Int}{fo:Int}{x:Nat}{x200 fo':Int}(h0:fo<(0:Int))(h1:free[x]? = some x200)(h2:x200=(0:Int))(h3:beatsOK c x pl s (1:Int))(h4:(beatsM c x pl s (1:Int))=false)(efo':fo'=(x:Int)):CodeOK Tryz.prog 6 zK6c2 (rfS (full_S1 c s pl free fo) 38 39 11 (intP (x:Int))) .normal (full_S1 c s pl free fo'):=by
  subst efo'
  exact CodeOK.fin (g:=⟨(rng [(0,3),(7,1),(11,17),(38,20)]),[],[],[]⟩) (o:=[bT,bT,bT,bT,.x (intP x200),bT,bT,bT,bT,bT,bT,bT,.c (.p (blP (beatsM c x pl s (1:Int)))) [],bT,bT,bT]) (l:=[_,_,_,_,_,_,_,_,_,_,_,_,_,_,_,_,_]) (by kernel_rfl) (gc (q_not h4) (gc (q_eq h2) (gc (q_eq h2) (gc (fk 6 (beats_ok c x pl s (1:Int) h3) rfl) (gc (q_eq h2) (gc (q_eq h2) (gc (q_eq h2) (gc (q_eq h2) (gc (q_eq h2) (gc (q_lt h0) (gc (q_lt h0) (gc (atm intP h1) (gc (q_lt h0) (gc (ix_own (i:=(x:Int)) (Int.natCast_nonneg _) h1) (gc (q_lt h0) (gc (q_lt h0) (gc (q_lt h0) gn)))))))))))))))))
theorem full_L1_p1{c:Cup}{s:Nat}{pl:Int}{free:List Int}{fo:Int}{x:Nat}{x200:Int}(h0:fo<(0:Int))(h1:free[x]? = some x200)(h2:x200=(0:Int))(h3:beatsOK c x pl s (1:Int))(h4:(beatsM c x pl s (1:Int))=true):CodeOK Tryz.prog 6 zK6c2 (rfS (full_S1 c s pl free fo) 38 39 11 (intP (x:Int))) .normal (full_S1 c s pl free fo):=by
  exact CodeOK.fin (g:=⟨(rng [(0,3),(7,1),(11,17),(38,20)]),[],[],[]⟩) (o:=[bT,bT,bT,bT,.x (intP x200),bT,bT,bT,bT,bT,bT,bT,.c (.p (blP (beatsM c x pl s (1:Int)))) [],bT,bT,bF]) (l:=[_,_,_,_,_,_,_,_,_,_,_,_,_,_,_,_,_]) (by kernel_rfl) (gc (q_notF h4) (gc (q_eq h2) (gc (q_eq h2) (gc (fk 6 (beats_ok c x pl s (1:Int) h3) rfl) (gc (q_eq h2) (gc (q_eq h2) (gc (q_eq h2) (gc (q_eq h2) (gc (q_eq h2) (gc (q_lt h0) (gc (q_lt h0) (gc (atm intP h1) (gc (q_lt h0) (gc (ix_own (i:=(x:Int)) (Int.natCast_nonneg _) h1) (gc (q_lt h0) (gc (q_lt h0) (gc (q_lt h0) gn)))))))))))))))))
theorem full_L1_p2{c:Cup}{s:Nat}{pl:Int}{free:List Int}{fo:Int}{x:Nat}{x200:Int}(h0:fo<(0:Int))(h1:free[x]? = some x200)(h2:x200≠(0:Int)):CodeOK Tryz.prog 6 zK6c2 (rfS (full_S1 c s pl free fo) 38 39 11 (intP (x:Int))) .normal (full_S1 c s pl free fo):=by
  exact CodeOK.fin (g:=⟨(rng [(0,3),(7,1),(11,17),(38,20)]),[],[],[]⟩) (o:=[bT,bT,bT,bT,.x (intP x200),bT,bT,bF,bF,bF,bF,bF,bF,bF]) (l:=[_,_,_,_,_,_,_,_,_,_,_,_,_,_,_]) (by kernel_rfl) (gc (q_ne h2) (gc (q_ne h2) (gc (q_ne h2) (gc (q_ne h2) (gc (q_ne h2) (gc (q_ne h2) (gc (q_ne h2) (gc (q_lt h0) (gc (q_lt h0) (gc (atm intP h1) (gc (q_lt h0) (gc (ix_own (i:=(x:Int)) (Int.natCast_nonneg _) h1) (gc (q_lt h0) (gc (q_lt h0) (gc (q_lt h0) gn)))))))))))))))
theorem full_L1_p3{c:Cup}{s:Nat}{pl:Int}{free:List Int}{fo:Int}{x:Nat}(h0:(0:Int)≤fo):CodeOK Tryz.prog 6 zK6c2 (rfS (full_S1 c s pl free fo) 38 39 11 (intP (x:Int))) .normal (full_S1 c s pl free fo):=by
  exact CodeOK.fin (g:=⟨(rng [(0,3),(7,1),(11,17),(38,20)]),[],[],[]⟩) (o:=[bF,bF,bF,bF,bF,bF]) (l:=[_,_,_,_,_,_]) (by kernel_rfl) (gc (q_ltF h0) (gc (q_ltF h0) (gc (q_ltF h0) (gc (q_ltF h0) (gc (q_ltF h0) (gc (q_ltF h0) gn))))))
def findF(c:Cup)(s:Nat)(pl:Int)(free:List Int)(fo:Int)(x:Nat):Int:=if fo<0 then (if free.getD x 0=0 then (if beatsM c x pl s 1 then fo else (x:Int)) else fo) else fo
def findM(c:Cup)(s:Nat)(pl:Int)(free:List Int):Int:=(oth s c.sk.toNat).foldl (findF c s pl free) (-1)
theorem findF_bd{c:Cup}{s:Nat}{pl:Int}{free:List Int}{m:Int}:∀ (l:List Nat) (fo:Int),(∀ x∈l,(x:Int)<m)→(fo = -1∨0≤fo∧fo<m)→(l.foldl (findF c s pl free) fo = -1∨0≤l.foldl (findF c s pl free) fo∧l.foldl (findF c s pl free) fo<m)
  | [],_,_,h=>h
  | x::l,fo,hx,h=>by
    rw [List.foldl_cons]
    refine findF_bd l _ (fun y hy=>hx y (List.mem_cons_of_mem _ hy)) ?_
    have:=hx x (List.mem_cons_self ..)
    unfold findF
    repeat' split
    all_goals omega
theorem findM_bd(c:Cup)(s:Nat)(pl:Int)(free:List Int):findM c s pl free = -1∨0≤findM c s pl free∧findM c s pl free<c.sk:=findF_bd _ _ (fun x hx=>by have:=(oth_mem hx).1;omega) (.inl rfl)
def fullR(c:Cup)(s:Nat):Nat→Int→List Int→Option (List Int)
  | 0,_,free=>some free
  | n+1,pl,free=>if findM c s pl free<0 then none else fullR c s n (pl+1) (free.set (findM c s pl free).toNat pl)
def fullM(c:Cup)(s:Nat):Option (List Int):=fullR c s (c.sk.toNat-1) 2 ((List.replicate c.sk.toNat 0).set s 1)
theorem full_find(c:Cup)(s:Nat)(pl:Int)(free:List Int)(hV:KL.Valid c)(hl:free.length=c.sk.toNat)(h:∀ x:Nat,(x:Int)<c.sk→x≠s→beatsOK c x pl s 1) :
    CodeOK Tryz.prog 0 zK6c1 (full_S1 c s pl free (-1)) .normal (full_S1 c s pl free (findM c s pl free)):=by
  refine CodeOK.rangeAcc (P:=Tryz.prog) (kb:=6) (gi:=37) (gf:=159) (p1:=38) (p2:=39) (d:=11) (body:=sub (cd Tryz.f56) [1,1,1,1,1,0,1,0,0,1,0,0,1,0,1,0,1]) (g:=othA c s) (xs:=oth s c.sk.toNat) (fun x:Oth c s=>x.1) (full_S1 c s pl free) (full_S1 c s pl free 0).t
    (fun x => .int .i64 x.1) (fun x => .agg (formM c x.1)) (fun fo x=>findF c s pl free fo x.1) (-1) (fun _ _=>True) (fun ys=>ys.foldl (findF c s pl free) (-1))
    rfl (fun _=>rfl) rfl (others_itok c hV s) enters159 (fun _=>rfl) (fun _=>Nat.le_refl _) (by kernel_rfl) (fun _=>rfl) trivial (fun _ _ _ _ _=>trivial) (fun i fo x hi hI => ?_) (fun ys=>by rw [List.foldl_map])
  · have hb:=h x.1 x.2.1 x.2.2
    have hx:=x.2.1
    have hg:free[x.1]? = some (free.getD x.1 0):=by
      rw [List.getElem?_eq_getElem (by omega),List.getD_eq_getElem?_getD,List.getElem?_eq_getElem (by omega)];rfl
    unfold findF
    by_cases h1:fo<0
    · rw [if_pos h1]
      by_cases h2:free.getD x.1 0=0
      · rw [if_pos h2]
        cases hm:beatsM c x.1 pl s 1 with
        | true=>exact full_L1_p1 h1 hg h2 hb hm
        | false=>exact full_L1_p0 h1 hg h2 hb hm rfl
      · rw [if_neg h2];exact full_L1_p2 h1 hg h2
    · rw [if_neg h1];exact full_L1_p3 (by omega)
theorem full_loop(c:Cup)(s:Nat)(hV:KL.Valid c)(hd:(c.done.length:Int)<c.ra)(hs:(s:Int)<c.sk):∀ (n:Nat) (pl:Int) (free:List Int),2≤pl→pl+n=c.sk+1→free.length=c.sk.toNat →
    (∃ f,fullR c s n pl free=some f∧LoopOK Tryz.prog 0 zK6c0 (full_S0 c s pl free.length (free.map intP)) (.exit 0) (full_S0 c s (c.sk+1) f.length (f.map intP))) ∨
    (fullR c s n pl free=none∧∃ (pl':Int) (f:List Int),LoopOK Tryz.prog 0 zK6c0 (full_S0 c s pl free.length (free.map intP)) .ret (setS (full_S0 c s pl' f.length (f.map intP)) [(4,.p nilS),(5,.p (intP 6))]))
  | 0,pl,free,h1,h2,h3=>by
    refine .inl ⟨free,rfl,?_⟩
    obtain rfl:pl=c.sk+1:=by omega
    exact .exit (full_L0_p2 (by omega)) (by simp)
  | n+1,pl,free,h1,h2,h3=>by
    have hq1:=hV.sk1
    have hq2:=hV.sk2
    have hf:=full_find c s pl free hV h3 (fun x hx hxs=>⟨hV,hd,hx,hs,by omega,by omega,by omega⟩)
    unfold fullR
    by_cases hn:findM c s pl free<0
    · rw [if_pos hn]
      exact .inr ⟨rfl,pl,free,.exit (full_L0_p0 (by omega) hf hn) (by simp)⟩
    · rw [if_neg hn]
      have hb:=findM_bd c s pl free
      have hi:(findM c s pl free).toNat<free.length:=by omega
      have st:=full_L0_p1 (free':=free.set (findM c s pl free).toNat pl) (by omega) hf (by omega) (List.getElem?_eq_getElem hi) (by omega) (by rw [Nat.mul_one,List.length_map];exact hi) (by unfold inR;omega) rfl (by simp) (by simp [List.map_set])
      rcases full_loop c s hV hd hs n (pl+1) (free.set (findM c s pl free).toNat pl) (by omega) (by omega) (by simpa using h3) with ⟨f,e,h⟩ | ⟨e,pl',f,h⟩
      · exact .inl ⟨f,e,.step st h⟩
      · exact .inr ⟨e,pl',f,.step st h⟩
theorem full_ok(c:Cup)(s:Nat)(h:lastE c (s:Int)=0){base:Nat}:FV Tryz.prog 56 [.p (cupP c),.p (intP (s:Int))] base (match fullM c s with | some f => .tup [.p (intsP f),.p (intP 0)] | none => .tup [.p nilS,.p (intP 6)]) []:=by
  obtain ⟨hV,hs0,hs,hra⟩:=lastE_zero h
  have h1:=hV.sk1
  have h2:=hV.sk2
  have hset:((List.replicate c.sk.toNat (intP 0)).set (s*1) (intP 1))=(((List.replicate c.sk.toNat 0).set s 1).map intP):=by simp [List.map_set]
  have hle:c.sk.toNat=((List.replicate c.sk.toNat (0:Int)).set s 1).length:=by simp
  have hss:(s*1)<(List.replicate c.sk.toNat (intP 0)).length:=by simp;omega
  unfold fullM
  rcases full_loop c s hV (by omega) hs (c.sk.toNat-1) 2 ((List.replicate c.sk.toNat 0).set s 1) (by omega) (by omega) (by simp) with ⟨f,e,hL⟩ | ⟨e,pl',f,hL⟩
  · rw [e]
    rw [← hset,← hle] at hL
    exact full_p1 hV.small h (by omega) (by omega) hss hL
  · rw [e]
    rw [← hset,← hle] at hL
    exact full_p2 hV.small h (by omega) (by omega) hss hL
def blkM(c:Cup)(s:Nat)(p:Int):Bool:=decide (harmM c s p<p-1)
end
section
open KL
theorem totals_p1{c:Cup}(h0:KL.Small c)(h1:(checkP c)=(0:Int))(h2:KL.Valid c){base:Nat}:FV Tryz.prog 30 [(.p (cupP c))] base (.tup [(.p (intsP (totalsM c))),(.p (intP 0))]) []:=by
  exact FV.fin Tryz.func30 rfl (o:=[.c (.tup [(.p (cupP c)),(.p (intP (checkP c)))]) [],bF,.c (.p (intsP (totalsM c))) []]) (l:=[_,_,_]) (by kernel_rfl) (gc (fk 2 (totals_ok c h2) rfl) (gc (q_neF h1) (gc (fk 1 (asked_ok c h0) rfl) gn)))
theorem totals2_ok(c:Cup)(hV:KL.Valid c){base:Nat}:FV Tryz.prog 30 [.p (cupP c)] base (.tup [.p (intsP (totalsM c)),.p (intP 0)]) []:=totals_p1 hV.small ((KL.valid_iff c).2 hV) hV
theorem named_in{c:Cup}{k:Int}(hV:KL.Valid c)(h1:0≤k)(h2:k<c.sk):namedE c k=0:=by
  unfold namedE
  rw [if_neg (by simpa using (KL.valid_iff c).2 hV),within_iff.2 ⟨h1,by omega⟩]
  simp
def scoreL(c:Cup)(race:List Int):List Int:=(List.range c.sk.toNat).map fun s=>scoreM c.pts race s
end
section
open KL
noncomputable abbrev zL0c0:Code:=sub (cd Tryz.f36) [1,1,0,1,0,0]
noncomputable abbrev zL0c1:Code:=sub (cd Tryz.f36) [1,1,1,0,1,0,0]
theorem zL0q0:(65519:Int)≠0:=by first | decide | simp
abbrev byteP(n:Int):PV := .v (.int .u8 n)
theorem draw_p0{l:List Int}{nx st n:Int}(h0:n≤(1:Int)):FMM Tryz.prog 28 [(.ptr 0 0),(.p (intP n))] [some (.box 132 [(.p (.sl l.length (l.map byteP))),(.p (intP nx)),(.p (.v (.int .u32 st)))])] (.p (intP 0)) [some (.box 132 [(.p (.sl l.length (l.map byteP))),(.p (intP nx)),(.p (.v (.int .u32 st)))])]:=by
  exact FMM.fin (k:=1) (g:=⟨[],[],[],[]⟩) rfl Tryz.func28 rfl (o:=[bT,bT,bT,bT,bT,bT,bT]) (l:=[_,_,_,_,_,_,_]) (by kernel_rfl) (gc (q_le h0) (gc (q_le h0) (gc (q_le h0) (gc (q_le h0) (gc (q_le h0) (gc (q_le h0) (gc (q_le h0) gn)))))))
theorem draw_p1{l:List Int}{nx st n:Int}(h0:(1:Int)<n)(h1:(l.length:Int)=(0:Int)):FMM Tryz.prog 28 [(.ptr 0 0),(.p (intP n))] [some (.box 132 [(.p (.sl l.length (l.map byteP))),(.p (intP nx)),(.p (.v (.int .u32 st)))])] (.p (intP 0)) [some (.box 132 [(.p (.sl l.length (l.map byteP))),(.p (intP nx)),(.p (.v (.int .u32 st)))])]:=by
  exact FMM.fin (k:=1) (g:=⟨[],[],[],[]⟩) rfl Tryz.func28 rfl (o:=[bF,bF,bF,bF,bF,bF,bF,bT]) (l:=[_,_,_,_,_,_,_,_]) (by kernel_rfl) (gc (q_eq h1) (gc (q_leF h0) (gc (q_leF h0) (gc (q_leF h0) (gc (q_leF h0) (gc (q_leF h0) (gc (q_leF h0) (gc (q_leF h0) gn))))))))
theorem draw_p2{l:List Int}{nx st n x0 r0 r1 r2:Int}(h0:(1:Int)<n)(h1:(l.length:Int)≠(0:Int))(h2:(l.length:Int)≠0)(h3:l[(nx.tmod (l.length:Int)).toNat]? = some x0)(h4:0≤(nx.tmod (l.length:Int)))(h5:inR (nx.tdiv (l.length:Int)))(h6:inR (nx+(1:Int)))(h7:(IntKind.wrap .u32 (nx.tdiv (l.length:Int)))=(0:Int))(h8:n≤(256:Int))(h9:inR (IntKind.wrap .u32 x0))(h10:n≠0)(er0:r0=((IntKind.wrap .u32 x0).tmod n))(er1:r1=(nx+(1:Int)))(er2:r2=((IntKind.wrap .u32 ((IntKind.wrap .u32 ((IntKind.wrap .u32 ((IntKind.wrap .u32 (st*(45:Int)))+(IntKind.wrap .u32 x0)))+(IntKind.wrap .u32 ((77:Int)*(IntKind.wrap .u32 (nx.tdiv (l.length:Int)))))))+(1:Int))).tmod (65519:Int))):FMM Tryz.prog 28 [(.ptr 0 0),(.p (intP n))] [some (.box 132 [(.p (.sl l.length (l.map byteP))),(.p (intP nx)),(.p (.v (.int .u32 st)))])] (.p (intP r0)) [some (.box 132 [(.p (.sl l.length (l.map byteP))),(.p (intP r1)),(.p (.v (.int .u32 r2)))])]:=by
  subst er0 er1 er2
  exact FMM.fin (k:=1) (g:=⟨[],[],[],[]⟩) rfl Tryz.func28 rfl (o:=[bF,bF,bF,bF,bF,bF,bF,bF,.x (.v (.int .u8 x0)),bT,bT,bT,bT]) (l:=[_,_,_,_,_,_,_,_,_,_,(l.map byteP)[((nx.tmod (l.length:Int)).toNat*1)]? = some (.v (.int .u8 x0)),_,_,_,_,_,_,_,_,_,_]) (by kernel_rfl) (gc h10 (gc h9 (gc (q_le h8) (gc (q_eq h7) (gc (q_eq h7) (gc (q_eq h7) (gc zL0q0 (gc h6 (gc h5 (gc h2 (gc (at_map (i:=(nx.tmod (l.length:Int)).toNat) h3) (gc (ix_map (g:=byteP) h4 h3) (gc h2 (gc (q_ne h1) (gc (q_leF h0) (gc (q_leF h0) (gc (q_leF h0) (gc (q_leF h0) (gc (q_leF h0) (gc (q_leF h0) (gc (q_leF h0) gn)))))))))))))))))))))
theorem draw_p3{l:List Int}{nx st n x0 r0 r1 r2:Int}(h0:(1:Int)<n)(h1:(l.length:Int)≠(0:Int))(h2:(l.length:Int)≠0)(h3:l[(nx.tmod (l.length:Int)).toNat]? = some x0)(h4:0≤(nx.tmod (l.length:Int)))(h5:inR (nx.tdiv (l.length:Int)))(h6:inR (nx+(1:Int)))(h7:(IntKind.wrap .u32 (nx.tdiv (l.length:Int)))=(0:Int))(h8:(256:Int)<n)(h9:inR (IntKind.wrap .u32 ((IntKind.wrap .u32 (((IntKind.wrap .u32 ((IntKind.wrap .u32 ((IntKind.wrap .u32 ((IntKind.wrap .u32 (st*(45:Int)))+(IntKind.wrap .u32 x0)))+(IntKind.wrap .u32 ((77:Int)*(IntKind.wrap .u32 (nx.tdiv (l.length:Int)))))))+(1:Int))).tmod (65519:Int))*(256:Int)))+(IntKind.wrap .u32 x0))))(h10:n≠0)(er0:r0=((IntKind.wrap .u32 ((IntKind.wrap .u32 (((IntKind.wrap .u32 ((IntKind.wrap .u32 ((IntKind.wrap .u32 ((IntKind.wrap .u32 (st*(45:Int)))+(IntKind.wrap .u32 x0)))+(IntKind.wrap .u32 ((77:Int)*(IntKind.wrap .u32 (nx.tdiv (l.length:Int)))))))+(1:Int))).tmod (65519:Int))*(256:Int)))+(IntKind.wrap .u32 x0))).tmod n))(er1:r1=(nx+(1:Int)))(er2:r2=((IntKind.wrap .u32 ((IntKind.wrap .u32 ((IntKind.wrap .u32 ((IntKind.wrap .u32 (st*(45:Int)))+(IntKind.wrap .u32 x0)))+(IntKind.wrap .u32 ((77:Int)*(IntKind.wrap .u32 (nx.tdiv (l.length:Int)))))))+(1:Int))).tmod (65519:Int))):FMM Tryz.prog 28 [(.ptr 0 0),(.p (intP n))] [some (.box 132 [(.p (.sl l.length (l.map byteP))),(.p (intP nx)),(.p (.v (.int .u32 st)))])] (.p (intP r0)) [some (.box 132 [(.p (.sl l.length (l.map byteP))),(.p (intP r1)),(.p (.v (.int .u32 r2)))])]:=by
  subst er0 er1 er2
  exact FMM.fin (k:=1) (g:=⟨[],[],[],[]⟩) rfl Tryz.func28 rfl (o:=[bF,bF,bF,bF,bF,bF,bF,bF,.x (.v (.int .u8 x0)),bT,bT,bT,bF]) (l:=[_,_,_,_,_,_,_,_,_,_,(l.map byteP)[((nx.tmod (l.length:Int)).toNat*1)]? = some (.v (.int .u8 x0)),_,_,_,_,_,_,_,_,_,_]) (by kernel_rfl) (gc h10 (gc h9 (gc (q_leF h8) (gc (q_eq h7) (gc (q_eq h7) (gc (q_eq h7) (gc zL0q0 (gc h6 (gc h5 (gc h2 (gc (at_map (i:=(nx.tmod (l.length:Int)).toNat) h3) (gc (ix_map (g:=byteP) h4 h3) (gc h2 (gc (q_ne h1) (gc (q_leF h0) (gc (q_leF h0) (gc (q_leF h0) (gc (q_leF h0) (gc (q_leF h0) (gc (q_leF h0) (gc (q_leF h0) gn)))))))))))))))))))))
theorem draw_p4{l:List Int}{nx st n x0 r0 r1 r2:Int}(h0:(1:Int)<n)(h1:(l.length:Int)≠(0:Int))(h2:(l.length:Int)≠0)(h3:l[(nx.tmod (l.length:Int)).toNat]? = some x0)(h4:0≤(nx.tmod (l.length:Int)))(h5:inR (nx.tdiv (l.length:Int)))(h6:inR (nx+(1:Int)))(h7:(IntKind.wrap .u32 (nx.tdiv (l.length:Int)))≠(0:Int))(h8:inR (IntKind.wrap .u32 ((IntKind.wrap .u32 (((IntKind.wrap .u32 ((IntKind.wrap .u32 ((IntKind.wrap .u32 ((IntKind.wrap .u32 (st*(45:Int)))+(IntKind.wrap .u32 x0)))+(IntKind.wrap .u32 ((77:Int)*(IntKind.wrap .u32 (nx.tdiv (l.length:Int)))))))+(1:Int))).tmod (65519:Int))*(256:Int)))+(IntKind.wrap .u32 x0))))(h9:n≠0)(er0:r0=((IntKind.wrap .u32 ((IntKind.wrap .u32 (((IntKind.wrap .u32 ((IntKind.wrap .u32 ((IntKind.wrap .u32 ((IntKind.wrap .u32 (st*(45:Int)))+(IntKind.wrap .u32 x0)))+(IntKind.wrap .u32 ((77:Int)*(IntKind.wrap .u32 (nx.tdiv (l.length:Int)))))))+(1:Int))).tmod (65519:Int))*(256:Int)))+(IntKind.wrap .u32 x0))).tmod n))(er1:r1=(nx+(1:Int)))(er2:r2=((IntKind.wrap .u32 ((IntKind.wrap .u32 ((IntKind.wrap .u32 ((IntKind.wrap .u32 (st*(45:Int)))+(IntKind.wrap .u32 x0)))+(IntKind.wrap .u32 ((77:Int)*(IntKind.wrap .u32 (nx.tdiv (l.length:Int)))))))+(1:Int))).tmod (65519:Int))):FMM Tryz.prog 28 [(.ptr 0 0),(.p (intP n))] [some (.box 132 [(.p (.sl l.length (l.map byteP))),(.p (intP nx)),(.p (.v (.int .u32 st)))])] (.p (intP r0)) [some (.box 132 [(.p (.sl l.length (l.map byteP))),(.p (intP r1)),(.p (.v (.int .u32 r2)))])]:=by
  subst er0 er1 er2
  exact FMM.fin (k:=1) (g:=⟨[],[],[],[]⟩) rfl Tryz.func28 rfl (o:=[bF,bF,bF,bF,bF,bF,bF,bF,.x (.v (.int .u8 x0)),bF,bF,bF]) (l:=[_,_,_,_,_,_,_,_,_,(l.map byteP)[((nx.tmod (l.length:Int)).toNat*1)]? = some (.v (.int .u8 x0)),_,_,_,_,_,_,_,_,_,_]) (by kernel_rfl) (gc h9 (gc h8 (gc (q_ne h7) (gc (q_ne h7) (gc (q_ne h7) (gc zL0q0 (gc h6 (gc h5 (gc h2 (gc (at_map (i:=(nx.tmod (l.length:Int)).toNat) h3) (gc (ix_map (g:=byteP) h4 h3) (gc h2 (gc (q_ne h1) (gc (q_leF h0) (gc (q_leF h0) (gc (q_leF h0) (gc (q_leF h0) (gc (q_leF h0) (gc (q_leF h0) (gc (q_leF h0) gn))))))))))))))))))))
def u32w(z:Int):Int:=IntKind.wrap .u32 z
theorem u32w_bd(z:Int):0≤u32w z∧u32w z<4294967296:=by
  unfold u32w IntKind.wrap
  simp only [IntKind.bits,IntKind.signed,Bool.false_and,Bool.false_eq_true,if_false]
  omega
def drawB(l:List Int)(nx:Int):Int:=u32w (l.getD (nx.tmod (l.length:Int)).toNat 0)
def drawS(l:List Int)(nx st:Int):Int:=(u32w (u32w (u32w (u32w (st*45)+drawB l nx)+u32w (77*u32w (nx.tdiv (l.length:Int))))+1)).tmod 65519
def drawM(n:Int)(l:List Int)(nx st:Int):Int × Int × Int:=if n≤1∨l.length=0 then (0,nx,st) else
  (if u32w (nx.tdiv (l.length:Int))=0∧n≤256 then (drawB l nx).tmod n else (u32w (u32w (drawS l nx st*256)+drawB l nx)).tmod n,nx+1,drawS l nx st)
theorem drawM_bd(n:Int)(l:List Int)(nx st:Int):0≤(drawM n l nx st).1∧((drawM n l nx st).1<n∨(drawM n l nx st).1=0)∧nx≤(drawM n l nx st).2.1∧(drawM n l nx st).2.1≤nx+1:=by
  unfold drawM
  split
  · simp;omega
  · rename_i h
    simp only [not_or] at h
    have h1:∀ z:Int,0≤z→0≤z.tmod n∧z.tmod n<n:=fun z hz=>⟨Int.tmod_nonneg n hz,Int.tmod_lt_of_pos z (by omega)⟩
    have h2:=(u32w_bd (l.getD (nx.tmod (l.length:Int)).toNat 0)).1
    have h3:=(u32w_bd (u32w (drawS l nx st*256)+drawB l nx)).1
    dsimp only
    split
    · have:=h1 _ h2;unfold drawB;omega
    · have:=h1 _ h3;omega
abbrev deckO(l:List Int)(nx st:Int):AO := .box 132 [.p (.sl l.length (l.map byteP)),.p (intP nx),.p (.v (.int .u32 st))]
theorem draw_ok(n:Int)(l:List Int)(nx st:Int)(h:0≤nx∧nx≤1000000000):FMM Tryz.prog 28 [.ptr 0 0,.p (intP n)] [some (deckO l nx st)] (.p (intP (drawM n l nx st).1)) [some (deckO l (drawM n l nx st).2.1 (drawM n l nx st).2.2)]:=by
  by_cases h1:n≤1
  · have e:drawM n l nx st=(0,nx,st):=by unfold drawM;rw [if_pos (.inl h1)]
    rw [e];exact draw_p0 h1
  · by_cases h2:l.length=0
    · have e:drawM n l nx st=(0,nx,st):=by unfold drawM;rw [if_pos (.inr h2)]
      rw [e];exact draw_p1 (by omega) (by omega)
    · have h0:0≤nx.tmod (l.length:Int)∧nx.tmod (l.length:Int)<(l.length:Int):=⟨Int.tmod_nonneg _ h.1,Int.tmod_lt_of_pos _ (by omega)⟩
      have hq:0≤nx.tdiv (l.length:Int)∧nx.tdiv (l.length:Int)≤nx:=⟨Int.tdiv_nonneg h.1 (by omega),Int.tdiv_le_self _ h.1⟩
      have hi:(nx.tmod (l.length:Int)).toNat<l.length:=by omega
      have hg:l[(nx.tmod (l.length:Int)).toNat]? = some (l.getD (nx.tmod (l.length:Int)).toNat 0):=by
        rw [List.getElem?_eq_getElem hi,List.getD_eq_getElem?_getD,List.getElem?_eq_getElem hi];rfl
      have hw:∀ z,inR (IntKind.wrap .u32 z):=fun z=>by have:=u32w_bd z;unfold u32w at this;unfold inR;omega
      unfold drawM
      rw [if_neg (by simp only [not_or];exact ⟨h1,h2⟩)]
      dsimp only
      by_cases h3:u32w (nx.tdiv (l.length:Int))=0
      · by_cases h4:n≤256
        · rw [if_pos ⟨h3,h4⟩]
          exact draw_p2 (by omega) (by omega) (by omega) hg h0.1 (by unfold inR;omega) (by unfold inR;omega) h3 h4 (hw _) (by omega) rfl rfl rfl
        · rw [if_neg (fun h=>h4 h.2)]
          exact draw_p3 (by omega) (by omega) (by omega) hg h0.1 (by unfold inR;omega) (by unfold inR;omega) h3 (by omega) (hw _) (by omega) rfl rfl rfl
      · rw [if_neg (fun h=>h3 h.1)]
        exact draw_p4 (by omega) (by omega) (by omega) hg h0.1 (by unfold inR;omega) (by unfold inR;omega) h3 (hw _) (by omega) rfl rfl rfl
theorem coin_p0{n:Int}{l:List Int}{nx st:Int}{r0:Bool}{r1 r2:Int}(h0:0≤nx∧nx≤1000000000)(er0:r0=(((drawM n l nx st).1) == (0:Int)))(er1:r1=((drawM n l nx st).2.1))(er2:r2=((drawM n l nx st).2.2)):FMM Tryz.prog 134 [(.ptr 0 0),(.p (intP n))] [some (.box 132 [(.p (.sl l.length (l.map byteP))),(.p (intP nx)),(.p (.v (.int .u32 st)))])] (.p (blP r0)) [some (.box 132 [(.p (.sl l.length (l.map byteP))),(.p (intP r1)),(.p (.v (.int .u32 r2)))])]:=by
  subst er0 er1 er2
  exact FMM.fin (k:=1) (g:=⟨[],[],[],[]⟩) rfl Tryz.func134 rfl (o:=[.c (.p (intP ((drawM n l nx st).1))) [(0,(.box 132 [(.p (.sl l.length (l.map byteP))),(.p (intP ((drawM n l nx st).2.1))),(.p (.v (.int .u32 ((drawM n l nx st).2.2))))]))]]) (l:=[FC Tryz.prog 28 [(.ptr 0 0),(.p (intP n))] [(0,(.box 132 [(.p (.sl l.length (l.map byteP))),(.p (intP nx)),(.p (.v (.int .u32 st)))]))] 1 (.p (intP ((drawM n l nx st).1))) [(0,(.box 132 [(.p (.sl l.length (l.map byteP))),(.p (intP ((drawM n l nx st).2.1))),(.p (.v (.int .u32 ((drawM n l nx st).2.2))))]))]]) (by kernel_rfl) (gc (FMM.fc (ids:=[0]) (draw_ok n l nx st h0) (by kernel_rfl)) gn)
theorem btw_p0{lo hi:Int}{l:List Int}{nx st r0 r1 r2:Int}(h0:inR (hi-lo))(h1:inR ((hi-lo)+(1:Int)))(h2:0≤nx∧nx≤1000000000)(h3:inR (lo+((drawM ((hi-lo)+(1:Int)) l nx st).1)))(er0:r0=(lo+((drawM ((hi-lo)+(1:Int)) l nx st).1)))(er1:r1=((drawM ((hi-lo)+(1:Int)) l nx st).2.1))(er2:r2=((drawM ((hi-lo)+(1:Int)) l nx st).2.2)):FMM Tryz.prog 29 [(.ptr 0 0),(.p (intP lo)),(.p (intP hi))] [some (.box 132 [(.p (.sl l.length (l.map byteP))),(.p (intP nx)),(.p (.v (.int .u32 st)))])] (.p (intP r0)) [some (.box 132 [(.p (.sl l.length (l.map byteP))),(.p (intP r1)),(.p (.v (.int .u32 r2)))])]:=by
  subst er0 er1 er2
  exact FMM.fin (k:=1) (g:=⟨[],[],[],[]⟩) rfl Tryz.func29 rfl (o:=[.c (.p (intP ((drawM ((hi-lo)+(1:Int)) l nx st).1))) [(0,(.box 132 [(.p (.sl l.length (l.map byteP))),(.p (intP ((drawM ((hi-lo)+(1:Int)) l nx st).2.1))),(.p (.v (.int .u32 ((drawM ((hi-lo)+(1:Int)) l nx st).2.2))))]))]]) (l:=[_,FC Tryz.prog 28 [(.ptr 0 0),(.p (intP ((hi-lo)+(1:Int))))] [(0,(.box 132 [(.p (.sl l.length (l.map byteP))),(.p (intP nx)),(.p (.v (.int .u32 st)))]))] 1 (.p (intP ((drawM ((hi-lo)+(1:Int)) l nx st).1))) [(0,(.box 132 [(.p (.sl l.length (l.map byteP))),(.p (intP ((drawM ((hi-lo)+(1:Int)) l nx st).2.1))),(.p (.v (.int .u32 ((drawM ((hi-lo)+(1:Int)) l nx st).2.2))))]))],_,_]) (by kernel_rfl) (gc h3 (gc (FMM.fc (ids:=[0]) (draw_ok ((hi-lo)+(1:Int)) l nx st h2) (by kernel_rfl)) (gc h1 (gc h0 gn))))
def coinM(n:Int)(l:List Int)(nx st:Int):Bool × Int × Int:=((drawM n l nx st).1 == 0,(drawM n l nx st).2)
theorem coin_ok(n:Int)(l:List Int)(nx st:Int)(h:0≤nx∧nx≤1000000000):FMM Tryz.prog 134 [.ptr 0 0,.p (intP n)] [some (deckO l nx st)] (.p (blP (coinM n l nx st).1)) [some (deckO l (coinM n l nx st).2.1 (coinM n l nx st).2.2)]:=coin_p0 h rfl rfl rfl
theorem coinM_bd(n:Int)(l:List Int)(nx st:Int):nx≤(coinM n l nx st).2.1∧(coinM n l nx st).2.1≤nx+1:=(drawM_bd n l nx st).2.2
def btwM(lo hi:Int)(l:List Int)(nx st:Int):Int × Int × Int:=(lo+(drawM (hi-lo+1) l nx st).1,(drawM (hi-lo+1) l nx st).2)
theorem btwM_bd(lo hi:Int)(l:List Int)(nx st:Int):lo≤(btwM lo hi l nx st).1∧((btwM lo hi l nx st).1≤hi∨(btwM lo hi l nx st).1=lo)∧nx≤(btwM lo hi l nx st).2.1∧(btwM lo hi l nx st).2.1≤nx+1:=by
  have:=drawM_bd (hi-lo+1) l nx st
  unfold btwM
  dsimp only
  omega
theorem btw_ok(lo hi:Int)(l:List Int)(nx st:Int)(h:0≤nx∧nx≤1000000000)(hb:(-1000000≤lo∧lo≤1000000) ∧ -1000000≤hi∧hi≤1000000):FMM Tryz.prog 29 [.ptr 0 0,.p (intP lo),.p (intP hi)] [some (deckO l nx st)] (.p (intP (btwM lo hi l nx st).1)) [some (deckO l (btwM lo hi l nx st).2.1 (btwM lo hi l nx st).2.2)]:=by
  have:=btwM_bd lo hi l nx st
  exact btw_p0 (by unfold inR;omega) (by unfold inR;omega) h (show inR (btwM lo hi l nx st).1 by unfold inR;omega) rfl rfl rfl
def shuf_S0(n:Int)(l:List Int)(nx:Int)(st:Int)(i:Nat)(on:Nat)(oc:List PV):St:=⟨fr 45 [(0,(.ptr 0 0)),(4,(.p nilS)),(5,(.own 1)),(10,(.p (intP (if n > (0:Int) then n else (0:Int))))),(11,(.p (intP (i:Int))))],[some (.box 132 [(.p (.sl l.length (l.map byteP))),(.p (intP nx)),(.p (.v (.int .u32 st)))]),some (.row 3 on oc)]⟩
def shuf_S1(l:List Int)(j:Int)(on:Nat)(oc:List PV)(mx:Int)(tt:Int):St:=⟨fr 45 [(0,(.ptr 0 0)),(4,(.p nilS)),(5,(.own 1)),(7,(.p (intP j)))],[some (.box 132 [(.p (.sl l.length (l.map byteP))),(.p (intP mx)),(.p (.v (.int .u32 tt)))]),some (.row 3 on oc)]⟩
theorem shuf_p0{n:Int}{l:List Int}{nx st:Int}{i'0:Nat}{o'1:List Int}{j'2:Int}{o'3:List Int}{mx'4 tt'5:Int}(hl0:LoopOK Tryz.prog 1 zL0c0 (shuf_S0 n l nx st 0 0 []) (.exit 0) (shuf_S0 n l nx st i'0 o'1.length (o'1.map intP)))(h1:inR ((o'1.length:Int)-(1:Int)))(hl2:LoopOK Tryz.prog 1 zL0c1 (shuf_S1 l ((o'1.length:Int)-(1:Int)) o'1.length (o'1.map intP) nx st) (.exit 2) (shuf_S1 l j'2 o'3.length (o'3.map intP) mx'4 tt'5)):FMM Tryz.prog 36 [(.ptr 0 0),(.p (intP n))] [some (.box 132 [(.p (.sl l.length (l.map byteP))),(.p (intP nx)),(.p (.v (.int .u32 st)))])] (.own 1) [some (.box 132 [(.p (.sl l.length (l.map byteP))),(.p (intP mx'4)),(.p (.v (.int .u32 tt'5)))]),some (.row 3 o'3.length (o'3.map intP))]:=by
  exact FMM.fin (k:=1) (g:=⟨[],[1],[],[]⟩) rfl Tryz.func36 rfl (o:=[.k 8 ⟨(rng [(1,3),(6,1),(9,1),(12,7)]),[1],[],[(5,3)]⟩ (.exit 0) (shuf_S0 n l nx st i'0 o'1.length (o'1.map intP)),.k 4 ⟨(rng [(1,3),(6,1),(8,36)]),[1],[],[]⟩ (.exit 2) (shuf_S1 l j'2 o'3.length (o'3.map intP) mx'4 tt'5)]) (l:=[_,_,_]) (by kernel_rfl) (gc hl2.code (gc h1 (gc hl0.code gn)))
theorem shuf_L0_p0{n:Int}{l:List Int}{nx st:Int}{i:Nat}{o:List Int}{i':Nat}{o':List Int}(h0:(i:Int)<(if n > (0:Int) then n else (0:Int)))(h1:[(intP (i:Int))].length=1*1∧o.length+1≤1000000)(h2:inR (((i+1):Nat):Int))(ei':i'=(i+1))(eo'n:o'.length=(o.length+1))(eo'c:o'.map intP=((o.map intP)++[(intP (i:Int))])):CodeOK Tryz.prog 1 zL0c0 (shuf_S0 n l nx st i o.length (o.map intP)) .normal (shuf_S0 n l nx st i' o'.length (o'.map intP)):=by
  subst ei'
  have raw:CodeOK Tryz.prog 1 zL0c0 (shuf_S0 n l nx st i o.length (o.map intP)) .normal (shuf_S0 n l nx st (i+1) (o.length+1) ((o.map intP)++[(intP (i:Int))])):=CodeOK.fin (g:=⟨(rng [(1,3),(6,1),(9,1),(12,7)]),[3],[],[]⟩) (o:=[bT]) (l:=[_,_,_]) (by kernel_rfl) (gc h2 (gc h1 (gc (q_lt h0) gn)))
  exact raw.cast (by rw [eo'n,eo'c])
theorem shuf_L0_p1{n:Int}{l:List Int}{nx st:Int}{i:Nat}{o:List Int}(h0:(if n > (0:Int) then n else (0:Int))≤(i:Int)):CodeOK Tryz.prog 1 zL0c0 (shuf_S0 n l nx st i o.length (o.map intP)) (.exit 0) (shuf_S0 n l nx st i o.length (o.map intP)):=by
  exact CodeOK.fin (g:=⟨(rng [(1,3),(6,1),(9,1),(12,7)]),[1],[],[]⟩) (o:=[bF]) (l:=[_]) (by kernel_rfl) (gc (q_ltF h0) gn)
theorem shuf_L1_p0{l:List Int}{j:Int}{o:List Int}{mx tt x200 x201 j':Int}{o':List Int}{mx' tt':Int}(h0:(0:Int)<j)(h1:inR (j+(1:Int)))(h2:0≤mx∧mx≤1000000000)(h3:o[((drawM (j+(1:Int)) l mx tt).1).toNat]? = some x200)(h4:0≤((drawM (j+(1:Int)) l mx tt).1))(h5:o[j.toNat]? = some x201)(h6:0≤j)(h7:(j.toNat*1)<(o.map intP).length)(h8:0≤((drawM (j+(1:Int)) l mx tt).1)∧((drawM (j+(1:Int)) l mx tt).1)<(o.length:Int))(h9:(((drawM (j+(1:Int)) l mx tt).1).toNat*1)<((o.map intP).set (j.toNat*1) (intP x200)).length)(h10:inR (j-(1:Int)))(ej':j'=(j-(1:Int)))(eo'n:o'.length=o.length)(eo'c:o'.map intP=(((o.map intP).set (j.toNat*1) (intP x200)).set (((drawM (j+(1:Int)) l mx tt).1).toNat*1) (intP x201)))(emx':mx'=((drawM (j+(1:Int)) l mx tt).2.1))(ett':tt'=((drawM (j+(1:Int)) l mx tt).2.2)):CodeOK Tryz.prog 1 zL0c1 (shuf_S1 l j o.length (o.map intP) mx tt) .normal (shuf_S1 l j' o'.length (o'.map intP) mx' tt'):=by
  subst ej' emx' ett'
  have raw:CodeOK Tryz.prog 1 zL0c1 (shuf_S1 l j o.length (o.map intP) mx tt) .normal (shuf_S1 l (j-(1:Int)) o.length (((o.map intP).set (j.toNat*1) (intP x200)).set (((drawM (j+(1:Int)) l mx tt).1).toNat*1) (intP x201)) ((drawM (j+(1:Int)) l mx tt).2.1) ((drawM (j+(1:Int)) l mx tt).2.2)):=CodeOK.fin (g:=⟨(rng [(1,3),(6,1),(8,36)]),[1],[],[]⟩) (o:=[bT,.c (.p (intP ((drawM (j+(1:Int)) l mx tt).1))) [(0,(.box 132 [(.p (.sl l.length (l.map byteP))),(.p (intP ((drawM (j+(1:Int)) l mx tt).2.1))),(.p (.v (.int .u32 ((drawM (j+(1:Int)) l mx tt).2.2))))]))],.x (intP x200),.x (intP x201)]) (l:=[_,_,_,_,_,(o.map intP)[(j.toNat*1)]? = some (intP x201),_,(o.map intP)[(((drawM (j+(1:Int)) l mx tt).1).toNat*1)]? = some (intP x200),_,FC Tryz.prog 28 [(.ptr 0 0),(.p (intP (j+(1:Int))))] [(0,(.box 132 [(.p (.sl l.length (l.map byteP))),(.p (intP mx)),(.p (.v (.int .u32 tt)))]))] 2 (.p (intP ((drawM (j+(1:Int)) l mx tt).1))) [(0,(.box 132 [(.p (.sl l.length (l.map byteP))),(.p (intP ((drawM (j+(1:Int)) l mx tt).2.1))),(.p (.v (.int .u32 ((drawM (j+(1:Int)) l mx tt).2.2))))]))],_,_]) (by kernel_rfl) (gc h10 (gc h9 (gc h8 (gc h7 (gc (ix_own (i:=j) h6 h5) (gc (at_map (i:=j.toNat) h5) (gc (ix_own (i:=j) h6 h5) (gc (at_map (i:=((drawM (j+(1:Int)) l mx tt).1).toNat) h3) (gc (ix_own (i:=((drawM (j+(1:Int)) l mx tt).1)) h4 h3) (gc (FMM.fc (ids:=[0]) (draw_ok (j+(1:Int)) l mx tt h2) (by kernel_rfl)) (gc h1 (gc (q_lt h0) gn))))))))))))
  exact raw.cast (by rw [eo'n,eo'c])
theorem shuf_L1_p1{l:List Int}{j:Int}{o:List Int}{mx tt:Int}(h0:j≤(0:Int)):CodeOK Tryz.prog 1 zL0c1 (shuf_S1 l j o.length (o.map intP) mx tt) (.exit 2) (shuf_S1 l j o.length (o.map intP) mx tt):=by
  exact CodeOK.fin (g:=⟨(rng [(1,3),(6,1),(8,36)]),[1],[],[]⟩) (o:=[bF]) (l:=[_]) (by kernel_rfl) (gc (q_ltF h0) gn)
def swapL(o:List Int)(i k:Nat):List Int:=(o.set i (o.getD k 0)).set k (o.getD i 0)
theorem swapL_perm(o:List Int){i k:Nat}(hi:i<o.length)(hk:k<o.length):(swapL o i k).Perm o:=by
  rw [List.perm_iff_count]
  intro x
  unfold swapL
  rw [List.count_set (by simpa using hk),List.count_set hi]
  simp only [List.getElem_set,List.getD_eq_getElem?_getD,List.getElem?_eq_getElem hi,List.getElem?_eq_getElem hk,Option.getD_some]
  have h1:∀ (j:Nat) (h:j<o.length),(o[j] == x)=true→0<List.count x o:=fun j h hx=>List.count_pos_iff.2 (by rw [← beq_iff_eq.1 hx];exact List.getElem_mem h)
  have a1:=h1 i hi
  have a2:=h1 k hk
  by_cases hik:i=k
  · subst hik
    simp only [if_pos rfl]
    by_cases hx:(o[i] == x)=true
    · have:=a1 hx;simp only [hx,if_true];omega
    · have hx':¬ o[i]=x:=by simpa using hx
      simp [hx']
  · rw [if_neg hik]
    by_cases hx:(o[i] == x)=true <;> by_cases hy:(o[k] == x)=true
    · have:=a1 hx;simp only [hx,hy,if_true];omega
    · have:=a1 hx;simp only [hx,hy,if_true,if_false];simp;omega
    · have:=a2 hy;simp only [hx,hy,if_true,if_false];simp
    · simp only [hx,hy,if_false];simp
def shufR(l:List Int):Nat→List Int→Int→Int→List Int × Int × Int
  | 0,o,nx,st=>(o,nx,st)
  | j+1,o,nx,st=>shufR l j (swapL o (j+1) (drawM ((j:Int)+1+1) l nx st).1.toNat) (drawM ((j:Int)+1+1) l nx st).2.1 (drawM ((j:Int)+1+1) l nx st).2.2
def upL(n:Nat):List Int:=(List.range n).map fun (i:Nat)=>(i:Int)
def shufM(n:Int)(l:List Int)(nx st:Int):List Int × Int × Int:=shufR l (n.toNat-1) (upL n.toNat) nx st
theorem shufR_spec(l:List Int):∀ (j:Nat) (o:List Int) (nx st:Int),j<o.length∨j=0→(shufR l j o nx st).1.Perm o∧nx≤(shufR l j o nx st).2.1∧(shufR l j o nx st).2.1≤nx+j
  | 0,o,nx,st,_=>by unfold shufR;exact ⟨.refl _,by simp,by simp⟩
  | j+1,o,nx,st,h=>by
    have hb:=drawM_bd ((j:Int)+1+1) l nx st
    have hs:=swapL_perm o (i:=j+1) (k:=(drawM ((j:Int)+1+1) l nx st).1.toNat) (by omega) (by omega)
    have hl:=hs.length_eq
    have ih:=shufR_spec l j (swapL o (j+1) (drawM ((j:Int)+1+1) l nx st).1.toNat) (drawM ((j:Int)+1+1) l nx st).2.1 (drawM ((j:Int)+1+1) l nx st).2.2 (by omega)
    unfold shufR
    exact ⟨ih.1.trans hs,by omega,by omega⟩
theorem shuf_loop(l:List Int)(nx0 st0:Int):∀ (j:Nat) (o:List Int) (nx st:Int),j<o.length∨j=0→0≤nx→nx+j≤1000000000→o.length≤1000 →
    ∃ j',LoopOK Tryz.prog 1 zL0c1 (shuf_S1 l (j:Int) o.length (o.map intP) nx st) (.exit 2) (shuf_S1 l j' (shufR l j o nx st).1.length ((shufR l j o nx st).1.map intP) (shufR l j o nx st).2.1 (shufR l j o nx st).2.2)
  | 0,o,nx,st,_,_,_,_=>by unfold shufR;exact ⟨0,.exit (shuf_L1_p1 (by omega)) (by simp)⟩
  | j+1,o,nx,st,h,h0,h1,h2=>by
    have hb:=drawM_bd ((j:Int)+1+1) l nx st
    have hk:(drawM ((j:Int)+1+1) l nx st).1.toNat<o.length:=by omega
    have hs:=swapL_perm o (i:=j+1) (k:=(drawM ((j:Int)+1+1) l nx st).1.toNat) (by omega) hk
    have hl:=hs.length_eq
    obtain ⟨j',ih⟩:=shuf_loop l nx0 st0 j (swapL o (j+1) (drawM ((j:Int)+1+1) l nx st).1.toNat) (drawM ((j:Int)+1+1) l nx st).2.1 (drawM ((j:Int)+1+1) l nx st).2.2 (by omega) (by omega) (by omega) (by omega)
    unfold shufR
    have ga:∀ i,i<o.length→o[i]? = some (o.getD i 0):=fun i hi=>by
      rw [List.getElem?_eq_getElem hi,List.getD_eq_getElem?_getD,List.getElem?_eq_getElem hi];rfl
    have hj:((j+1:Nat):Int)=(j:Int)+1:=by omega
    rw [hj]
    have ht:((j:Int)+1).toNat=j+1:=by omega
    refine ⟨j',.step (shuf_L1_p0 (by omega) (by unfold inR;omega) (by omega) (ga _ hk) (by omega) (by rw [ht];exact ga _ (by omega)) (by omega) (by rw [ht];simp;omega) (by omega) (by simp;omega) (by unfold inR;omega) (j':=(j:Int)) (by omega) (o':=swapL o (j+1) (drawM ((j:Int)+1+1) l nx st).1.toNat) hl (by rw [ht];simp [swapL,List.map_set]) rfl rfl) ih⟩
theorem shuf_ok(n:Int)(l:List Int)(nx st:Int)(h:0≤nx∧nx≤1000000)(hn:0≤n∧n≤1000):FMM Tryz.prog 36 [.ptr 0 0,.p (intP n)] [some (deckO l nx st)] (.own 1) [some (deckO l (shufM n l nx st).2.1 (shufM n l nx st).2.2),some (.row 3 (shufM n l nx st).1.length ((shufM n l nx st).1.map intP))]:=by
  have e:(if n > (0:Int) then n else (0:Int))=n:=by split <;> omega
  have hL:=LoopOK.times (P:=Tryz.prog) (k:=1) (b:=zL0c0) (e := .exit 0) (fun i (o:List Int)=>shuf_S0 n l nx st i o.length (o.map intP)) (fun o=>shuf_S0 n l nx st n.toNat o.length (o.map intP)) (fun acc i=>acc++[(i:Int)]) (fun i o=>o.length≤i) (by simp) n.toNat (a0:=[]) (by simp)
    (fun i o hi hI=>⟨by simp;omega,shuf_L0_p0 (by rw [e];omega) (by simp;omega) (inR_nat (by omega)) rfl (by simp) (by simp)⟩)
    (fun o _=>shuf_L0_p1 (by rw [e];omega))
  rw [foldl_map,List.nil_append] at hL
  have hul:(upL n.toNat).length=n.toNat:=by simp [upL]
  by_cases h0:n=0
  · subst h0
    exact shuf_p0 (o'1:=upL 0) hL (by unfold inR;simp [upL]) (LoopOK.exit (shuf_L1_p1 (by simp [upL])) (by simp))
  · obtain ⟨j',hL2⟩:=shuf_loop l nx st (n.toNat-1) (upL n.toNat) nx st (by omega) (by omega) (by omega) (by omega)
    refine shuf_p0 (o'1:=upL n.toNat) hL (by unfold inR;omega) (j'2:=j') ?_
    have e2:((n.toNat-1:Nat):Int)=((upL n.toNat).length:Int)-1:=by omega
    rw [e2] at hL2
    exact hL2
end
end KV
end Go.Proofs
section
namespace Go.Proofs
namespace KL

structure RInv (ord:List Int) (n i:Nat) (o:List Int) (pl:Int) (la:List Int):Prop where
  len:o.length=n
  p1:1≤pl
  p2:pl≤1+3*(i:Int)
  nn:∀ x∈o,0≤x
  zero:∀ (j:Nat) (x:Int),i≤j→ord[j]? = some x→o.getD x.toNat 0=0
  cl:∀ p∈o,p≠0→p+(o.count p:Nat)≤pl∧∀ q∈o,p<q→p+(o.count p:Nat)≤q
  lst:∀ (y:Int) (r:List Int),la=y::r→0≤y∧y.toNat<n∧1≤o.getD y.toNat 0∧o.getD y.toNat 0+(o.count (o.getD y.toNat 0):Nat)=pl
  ll:la.length≤i

theorem count_pos'{o:List Int}{p:Int}(h:p∈o):1≤o.count p:=List.count_pos_iff.2 h
theorem count_setZ{o:List Int}{k:Nat}{a p:Int}(hk:k<o.length)(h0:o.getD k 0=0)(hp:p≠0):(o.set k a).count p=o.count p+if a=p then 1 else 0:=by
  have hg:o[k]=0:=by rw [List.getD_eq_getElem?_getD,List.getElem?_eq_getElem hk] at h0;exact h0
  rw [List.count_set hk,hg]
  have:((0:Int) == p)=false:=by simpa using fun h=>hp h.symm
  rw [this]
  by_cases h:a=p
  · subst h;simp
  · have h':(a == p)=false:=by simpa using h
    rw [h',if_neg h];simp
theorem mem_set'{o:List Int}{k:Nat}{a x:Int}(h:x∈o.set k a):x∈o∨x=a:=List.mem_or_eq_of_mem_set h
theorem getD_set'{o:List Int}{k j:Nat}{a:Int}(hk:k<o.length):(o.set k a).getD j 0=if k=j then a else o.getD j 0:=by
  rw [List.getD_eq_getElem?_getD,List.getElem?_set]
  by_cases h:k=j
  · subst h;rw [if_pos rfl,if_pos rfl,if_pos hk];rfl
  · rw [if_neg h,if_neg h,List.getD_eq_getElem?_getD]

variable {ord:List Int} {n i:Nat} {o:List Int} {pl:Int} {la:List Int}
theorem RInv.skip(h:RInv ord n i o pl la):RInv ord n (i+1) o pl la :=
  ⟨h.len,h.p1,by have:=h.p2;omega,h.nn,fun j x hj hx=>h.zero j x (by omega) hx,h.cl,h.lst,by have:=h.ll;omega⟩

theorem ord_ne{x y:Int}{j:Nat}(hnd:ord.Nodup)(hin:∀ x∈ord,0≤x)(hx:ord[i]? = some x)(hy:ord[j]? = some y)(hj:i<j):x.toNat≠y.toNat:=fun e=>by
  have h1:=hin x (List.mem_of_getElem? hx)
  have h2:=hin y (List.mem_of_getElem? hy)
  have h3:x=y:=by omega
  subst h3
  obtain ⟨hi,e1⟩:=List.getElem?_eq_some_iff.1 hx
  obtain ⟨hj',e2⟩:=List.getElem?_eq_some_iff.1 hy
  exact List.pairwise_iff_getElem.1 hnd i j hi hj' hj (e1.trans e2.symm)

theorem RInv.new(h:RInv ord n i o pl la)(hnd:ord.Nodup)(hin:∀ x∈ord,0≤x∧x.toNat<n){x d:Int}(hx:ord[i]? = some x)(hd:0≤d∧d≤2):RInv ord n (i+1) (o.set x.toNat (pl+d)) (pl+d+1) [x]:=by
  obtain ⟨x0,x1⟩:=hin x (List.mem_of_getElem? hx)
  have hp1:=h.p1
  have hk:x.toNat<o.length:=by rw [h.len];exact x1
  have hz:=h.zero i x (Nat.le_refl _) hx
  have hno:pl+d∉o:=fun hm=>by
    have:=(h.cl _ hm (by omega)).1
    have:=count_pos' hm
    omega
  have hcq:(o.set x.toNat (pl+d)).count (pl+d)=1:=by
    rw [count_setZ hk hz (by omega),if_pos rfl,List.count_eq_zero.2 hno]
  have hco:∀ p,p≠0→p≠pl+d→(o.set x.toNat (pl+d)).count p=o.count p:=fun p h0 h1=>by
    rw [count_setZ hk hz h0,if_neg (fun e=>h1 e.symm)];rfl
  refine ⟨by simpa using h.len,by omega,by have:=h.p2;omega,fun y hy => ?_,fun j y hj hy => ?_,fun p hp h0 => ?_,fun y r e => ?_,by simp⟩
  · rcases mem_set' hy with hm | rfl
    · exact h.nn _ hm
    · omega
  · rw [getD_set' hk,if_neg (ord_ne hnd (fun x hx=>(hin x hx).1) hx hy (by omega))]
    exact h.zero j y (by omega) hy
  · by_cases he:p=pl+d
    · subst he
      rw [hcq]
      refine ⟨by omega,fun q hq hlt => ?_⟩
      rcases mem_set' hq with hm | rfl
      · have:=(h.cl _ hm (by omega)).1
        have:=count_pos' hm
        omega
      · omega
    · rw [hco p h0 he]
      have hm:p∈o:=by
        rcases mem_set' hp with hm | e
        · exact hm
        · exact absurd e he
      obtain ⟨q1,q2⟩:=h.cl p hm h0
      refine ⟨by omega,fun q hq hlt => ?_⟩
      rcases mem_set' hq with hm2 | rfl
      · exact q2 q hm2 hlt
      · omega
  · cases e
    rw [getD_set' hk,if_pos rfl,hcq]
    exact ⟨x0,x1,by omega,by omega⟩

theorem RInv.share(h:RInv ord n i o pl la)(hnd:ord.Nodup)(hin:∀ x∈ord,0≤x∧x.toNat<n){x y:Int}{r:List Int}(hx:ord[i]? = some x)(hla:la=y::r):RInv ord n (i+1) (o.set x.toNat (o.getD y.toNat 0)) (pl+1) (la++[x]):=by
  obtain ⟨x0,x1⟩:=hin x (List.mem_of_getElem? hx)
  obtain ⟨y0,y1,y2,y3⟩:=h.lst y r hla
  have hp1:=h.p1
  have hk:x.toNat<o.length:=by rw [h.len];exact x1
  have hz:=h.zero i x (Nat.le_refl _) hx
  obtain ⟨q,hq⟩:∃ q,q=o.getD y.toNat 0:=⟨_,rfl⟩
  rw [← hq] at y2 y3 ⊢
  have hxy:x.toNat≠y.toNat:=fun e=>by rw [e] at hz;omega
  have hqm:q∈o:=by
    rw [hq,List.getD_eq_getElem?_getD,List.getElem?_eq_getElem (by rw [h.len];exact y1)]
    exact List.getElem_mem _
  have hcq:(o.set x.toNat q).count q=o.count q+1:=by rw [count_setZ hk hz (by omega),if_pos rfl]
  have hco:∀ p,p≠0→p≠q→(o.set x.toNat q).count p=o.count p:=fun p h0 h1=>by
    rw [count_setZ hk hz h0,if_neg (fun e=>h1 e.symm)];rfl
  have hmem:∀ p,p∈o.set x.toNat q→p∈o:=fun p hp=>by
    rcases mem_set' hp with hm | rfl
    · exact hm
    · exact hqm
  refine ⟨by simpa using h.len,by omega,by have:=h.p2;omega,fun z hzm=>h.nn _ (hmem z hzm),fun j z hj hzz => ?_,fun p hp h0 => ?_,fun z r' e => ?_,by have:=h.ll;simp;omega⟩
  · rw [getD_set' hk,if_neg (ord_ne hnd (fun x hx=>(hin x hx).1) hx hzz (by omega))]
    exact h.zero j z (by omega) hzz
  · obtain ⟨q1,q2⟩:=h.cl p (hmem p hp) h0
    by_cases he:p=q
    · subst he
      rw [hcq]
      refine ⟨by omega,fun q' hq' hlt => ?_⟩
      have:=q2 q' (hmem _ hq') hlt
      have h5:=(h.cl q' (hmem _ hq') (by omega)).1
      have:=count_pos' (hmem _ hq')
      omega
    · rw [hco p h0 he]
      exact ⟨by omega,fun q' hq' hlt=>q2 q' (hmem _ hq') hlt⟩
  · rw [hla] at e
    cases e
    rw [getD_set' hk,if_neg hxy,← hq,hcq]
    exact ⟨y0,y1,by omega,by omega⟩

structure RaceOK (n:Nat) (race:List Int):Prop where
  len:race.length=n
  bd:∀ x∈race,0≤x∧x≤60
  cl:NoClash race
theorem RInv.race(h:RInv ord n i o pl la)(hi:i≤15):RaceOK n o:=by
  have hp2:=h.p2
  refine ⟨h.len,fun x hx=>⟨h.nn x hx,?_⟩,fun p hp h0 => ?_⟩
  · by_cases h0:x=0
    · omega
    · have:=(h.cl x hx h0).1;omega
  · obtain ⟨q1,q2⟩:=h.cl p hp h0
    exact ⟨by omega,q2⟩
theorem RInv.start{n:Nat}:RInv ord n 0 (List.replicate n 0) 1 [] :=
  ⟨by simp,by omega,by omega,fun x hx=>by rw [List.mem_replicate] at hx;omega,fun j x _ _=>by
    rw [List.getD_eq_getElem?_getD,List.getElem?_replicate];split <;> rfl,fun p hp h0=>by rw [List.mem_replicate] at hp;exact absurd hp.2 h0,fun y r e=>(by cases e),by simp⟩
end KL
end Go.Proofs
end
namespace Go.Proofs
namespace KV
section
open KL
noncomputable abbrev zL1c0:Code:=sub (cd Tryz.f67) [1,1,1,1,0,1,0,0]
def raced_S0(n:Int)(sh:Bool)(l:List Int)(nx:Int)(st:Int)(i:Nat)(on:Nat)(oc:List PV)(pl:Int)(lan:Nat)(lac:List PV)(mx:Int)(tt:Int):St:=⟨fr 65 [(0,(.ptr 0 0)),(2,(.p (blP sh))),(6,(.p nilS)),(7,(.own 1)),(8,(.p (intP pl))),(9,(.own 3)),(16,(.own 2)),(17,(.p (intP ((((shufM n l nx st).1).length:Nat):Int)))),(18,(.p (intP (i:Int))))],[some (deckO l mx tt),some (.row 3 on oc),some (.row 3 (((shufM n l nx st).1).length) (((shufM n l nx st).1).map intP)),some (.row 3 lan lac)]⟩
theorem raced_p0{n:Int}{sh:Bool}{l:List Int}{nx st:Int}{i'0:Nat}{o'1:List Int}{pl'2:Int}{la'3:List Int}{mx'4 tt'5:Int}(h0:0≤n∧n≤n∧n≤1000000)(h1:0≤nx∧nx≤1000000)(h2:0≤n∧n≤1000)(hl3:LoopOK Tryz.prog 1 zL1c0 (raced_S0 n sh l nx st 0 n.toNat (List.replicate n.toNat (intP 0)) (1:Int) 0 [] ((shufM n l nx st).2.1) ((shufM n l nx st).2.2)) (.exit 0) (raced_S0 n sh l nx st i'0 o'1.length (o'1.map intP) pl'2 la'3.length (la'3.map intP) mx'4 tt'5)):FMM Tryz.prog 67 [(.ptr 0 0),(.p (intP n)),(.p (blP sh))] [some (deckO l nx st)] (.own 1) [some (deckO l mx'4 tt'5),some (.row 3 o'1.length (o'1.map intP))]:=by
  exact FMM.fin (k:=1) (g:=⟨[],[1],[],[]⟩) rfl Tryz.func67 rfl (o:=[.c (.own 2) [(0,(deckO l ((shufM n l nx st).2.1) ((shufM n l nx st).2.2))),(2,(.row 3 (((shufM n l nx st).1).length) (((shufM n l nx st).1).map intP)))],.k 1 ⟨(rng [(1,1),(3,3),(10,6),(19,45)]),[1,2,3],[],[(9,3)]⟩ (.exit 0) (raced_S0 n sh l nx st i'0 o'1.length (o'1.map intP) pl'2 la'3.length (la'3.map intP) mx'4 tt'5)]) (l:=[_,FC Tryz.prog 36 [(.ptr 0 0),(.p (intP n))] [(0,(deckO l nx st))] 2 (.own 2) [(0,(deckO l ((shufM n l nx st).2.1) ((shufM n l nx st).2.2))),(2,(.row 3 (((shufM n l nx st).1).length) (((shufM n l nx st).1).map intP)))],_]) (by kernel_rfl) (gc hl3.code (gc (FMM.fc (ids:=[0]) (shuf_ok n l nx st h1 h2) (by kernel_rfl)) (gc h0 gn)))
abbrev zL10(l:List Int)(mx:Int)(tt:Int):=coinM (4:Int) l ((coinM (7:Int) l mx tt).2.1) ((coinM (7:Int) l mx tt).2.2)
abbrev zL11(l:List Int)(mx:Int)(tt:Int):=coinM (5:Int) l ((coinM (7:Int) l mx tt).2.1) ((coinM (7:Int) l mx tt).2.2)
abbrev zL12(l:List Int)(mx:Int)(tt:Int):=coinM (5:Int) l ((zL10 l mx tt).2.1) ((zL10 l mx tt).2.2)
abbrev zL13(l:List Int)(mx:Int)(tt:Int):=drawM (3:Int) l ((zL11 l mx tt).2.1) ((zL11 l mx tt).2.2)
abbrev zL14(l:List Int)(mx:Int)(tt:Int):=coinM (7:Int) l mx tt
abbrev zL15(l:List Int)(mx:Int)(tt:Int):=drawM (3:Int) l ((zL12 l mx tt).2.1) ((zL12 l mx tt).2.2)
theorem raced_L0_p0{n:Int}{sh:Bool}{l:List Int}{nx st:Int}{i:Nat}{o:List Int}{pl:Int}{la:List Int}{mx tt x100:Int}{i':Nat}{mx' tt':Int}(h0:(i:Int)<((((shufM n l nx st).1).length:Nat):Int))(h1:((shufM n l nx st).1)[i]? = some x100)(h2:0≤mx∧mx≤1000000000)(h3:((coinM (7:Int) l mx tt).1)=true)(h4:inR (((i+1):Nat):Int))(ei':i'=(i+1))(emx':mx'=((coinM (7:Int) l mx tt).2.1))(ett':tt'=((coinM (7:Int) l mx tt).2.2)):CodeOK Tryz.prog 1 zL1c0 (raced_S0 n sh l nx st i o.length (o.map intP) pl la.length (la.map intP) mx tt) .normal (raced_S0 n sh l nx st i' o.length (o.map intP) pl la.length (la.map intP) mx' tt'):=by
  subst ei' emx' ett'
  exact CodeOK.fin (g:=⟨(rng [(1,1),(3,3),(10,6),(19,45)]),[1,2,3],[],[]⟩) (o:=[bT,.x (intP x100),.c (.p (blP ((zL14 l mx tt).1))) [(0,(deckO l ((zL14 l mx tt).2.1) ((zL14 l mx tt).2.2)))],bT]) (l:=[_,_,FC Tryz.prog 134 [(.ptr 0 0),(.p (intP 7))] [(0,(deckO l mx tt))] 4 (.p (blP ((zL14 l mx tt).1))) [(0,(deckO l ((zL14 l mx tt).2.1) ((zL14 l mx tt).2.2)))],_,_,_]) (by kernel_rfl) (gc h4 (gc h3 (gc (FMM.fc (ids:=[0]) (coin_ok (7:Int) l mx tt h2) (by kernel_rfl)) (gc (atm intP h1) (gc (ix_own (i:=(i:Int)) (Int.natCast_nonneg _) h1) (gc (q_lt h0) gn))))))
theorem raced_L0_p1{n:Int}{sh:Bool}{l:List Int}{nx st:Int}{i:Nat}{o:List Int}{pl:Int}{la:List Int}{mx tt x100 x101 x102 x103:Int}{i':Nat}{o':List Int}{pl':Int}{la':List Int}{mx' tt':Int}(h0:(i:Int)<((((shufM n l nx st).1).length:Nat):Int))(h1:((shufM n l nx st).1)[i]? = some x100)(h2:0≤mx∧mx≤1000000000)(h3:((coinM (7:Int) l mx tt).1)=false)(h4:sh=true)(h5:(0:Int)<(la.length:Int))(h6:0≤((coinM (7:Int) l mx tt).2.1)∧((coinM (7:Int) l mx tt).2.1)≤1000000000)(h7:((coinM (4:Int) l ((coinM (7:Int) l mx tt).2.1) ((coinM (7:Int) l mx tt).2.2)).1)=true)(h8:la[0]? = some x101)(h9:o[x101.toNat]? = some x102)(h10:0≤x101)(h11:o[x100.toNat]? = some x103)(h12:0≤x100)(h13:(x100.toNat*1)<(o.map intP).length)(h14:[(intP x100)].length=1*1∧la.length+1≤1000000)(h15:inR (pl+(1:Int)))(h16:inR (((i+1):Nat):Int))(ei':i'=(i+1))(eo'n:o'.length=o.length)(eo'c:o'.map intP=((o.map intP).set (x100.toNat*1) (intP x102)))(epl':pl'=(pl+(1:Int)))(ela'n:la'.length=(la.length+1))(ela'c:la'.map intP=((la.map intP)++[(intP x100)]))(emx':mx'=((coinM (4:Int) l ((coinM (7:Int) l mx tt).2.1) ((coinM (7:Int) l mx tt).2.2)).2.1))(ett':tt'=((coinM (4:Int) l ((coinM (7:Int) l mx tt).2.1) ((coinM (7:Int) l mx tt).2.2)).2.2)):CodeOK Tryz.prog 1 zL1c0 (raced_S0 n sh l nx st i o.length (o.map intP) pl la.length (la.map intP) mx tt) .normal (raced_S0 n sh l nx st i' o'.length (o'.map intP) pl' la'.length (la'.map intP) mx' tt'):=by
  subst ei' epl' emx' ett'
  have raw:CodeOK Tryz.prog 1 zL1c0 (raced_S0 n sh l nx st i o.length (o.map intP) pl la.length (la.map intP) mx tt) .normal (raced_S0 n sh l nx st (i+1) o.length ((o.map intP).set (x100.toNat*1) (intP x102)) (pl+(1:Int)) (la.length+1) ((la.map intP)++[(intP x100)]) ((zL10 l mx tt).2.1) ((zL10 l mx tt).2.2)):=CodeOK.fin (g:=⟨(rng [(1,1),(3,3),(10,6),(19,45)]),[1,2,5],[],[]⟩) (o:=[bT,.x (intP x100),.c (.p (blP ((zL14 l mx tt).1))) [(0,(deckO l ((zL14 l mx tt).2.1) ((zL14 l mx tt).2.2)))],bF,bT,bT,bT,bT,bT,bT,.c (.p (blP ((zL10 l mx tt).1))) [(0,(deckO l ((zL10 l mx tt).2.1) ((zL10 l mx tt).2.2)))],bT,bT,.x (intP x101),.x (intP x102)]) (l:=[_,_,_,_,_,(o.map intP)[(x101.toNat*1)]? = some (intP x102),_,(la.map intP)[0]? = some (intP x101),_,_,_,FC Tryz.prog 134 [(.ptr 0 0),(.p (intP 4))] [(0,(deckO l ((zL14 l mx tt).2.1) ((zL14 l mx tt).2.2)))] 4 (.p (blP ((zL10 l mx tt).1))) [(0,(deckO l ((zL10 l mx tt).2.1) ((zL10 l mx tt).2.2)))],_,_,_,_,_,_,_,FC Tryz.prog 134 [(.ptr 0 0),(.p (intP 7))] [(0,(deckO l mx tt))] 4 (.p (blP ((zL14 l mx tt).1))) [(0,(deckO l ((zL14 l mx tt).2.1) ((zL14 l mx tt).2.2)))],_,_,_]) (by kernel_rfl) (gc h16 (gc h15 (gc h14 (gc h13 (gc (ix_own (i:=x100) h12 h11) (gc (at_map (i:=x101.toNat) h9) (gc (ix_own (i:=x101) h10 h9) (gc (at_map (i:=0) h8) (gc (ix_own (i:=(0:Int)) (by first | decide | simp) h8) (gc h7 (gc (q_lt h5) (gc (FMM.fc (ids:=[0]) (coin_ok (4:Int) l ((zL14 l mx tt).2.1) ((zL14 l mx tt).2.2) h6) (by kernel_rfl)) (gc (q_lt h5) (gc (q_lt h5) (gc h4 (gc h4 (gc h4 (gc h4 (gc h3 (gc (FMM.fc (ids:=[0]) (coin_ok (7:Int) l mx tt h2) (by kernel_rfl)) (gc (atm intP h1) (gc (ix_own (i:=(i:Int)) (Int.natCast_nonneg _) h1) (gc (q_lt h0) gn)))))))))))))))))))))))
  exact raw.cast (by rw [eo'n,eo'c,ela'n,ela'c])
theorem raced_L0_p2{n:Int}{sh:Bool}{l:List Int}{nx st:Int}{i:Nat}{o:List Int}{pl:Int}{la:List Int}{mx tt x100 x101:Int}{i':Nat}{o':List Int}{pl':Int}{la':List Int}{mx' tt':Int}(h0:(i:Int)<((((shufM n l nx st).1).length:Nat):Int))(h1:((shufM n l nx st).1)[i]? = some x100)(h2:0≤mx∧mx≤1000000000)(h3:((coinM (7:Int) l mx tt).1)=false)(h4:sh=true)(h5:(0:Int)<(la.length:Int))(h6:0≤((coinM (7:Int) l mx tt).2.1)∧((coinM (7:Int) l mx tt).2.1)≤1000000000)(h7:((coinM (4:Int) l ((coinM (7:Int) l mx tt).2.1) ((coinM (7:Int) l mx tt).2.2)).1)=false)(h8:0≤((coinM (4:Int) l ((coinM (7:Int) l mx tt).2.1) ((coinM (7:Int) l mx tt).2.2)).2.1)∧((coinM (4:Int) l ((coinM (7:Int) l mx tt).2.1) ((coinM (7:Int) l mx tt).2.2)).2.1)≤1000000000)(h9:((coinM (5:Int) l ((coinM (4:Int) l ((coinM (7:Int) l mx tt).2.1) ((coinM (7:Int) l mx tt).2.2)).2.1) ((coinM (4:Int) l ((coinM (7:Int) l mx tt).2.1) ((coinM (7:Int) l mx tt).2.2)).2.2)).1)=true)(h10:0≤((coinM (5:Int) l ((coinM (4:Int) l ((coinM (7:Int) l mx tt).2.1) ((coinM (7:Int) l mx tt).2.2)).2.1) ((coinM (4:Int) l ((coinM (7:Int) l mx tt).2.1) ((coinM (7:Int) l mx tt).2.2)).2.2)).2.1)∧((coinM (5:Int) l ((coinM (4:Int) l ((coinM (7:Int) l mx tt).2.1) ((coinM (7:Int) l mx tt).2.2)).2.1) ((coinM (4:Int) l ((coinM (7:Int) l mx tt).2.1) ((coinM (7:Int) l mx tt).2.2)).2.2)).2.1)≤1000000000)(h11:inR (pl+((drawM (3:Int) l ((coinM (5:Int) l ((coinM (4:Int) l ((coinM (7:Int) l mx tt).2.1) ((coinM (7:Int) l mx tt).2.2)).2.1) ((coinM (4:Int) l ((coinM (7:Int) l mx tt).2.1) ((coinM (7:Int) l mx tt).2.2)).2.2)).2.1) ((coinM (5:Int) l ((coinM (4:Int) l ((coinM (7:Int) l mx tt).2.1) ((coinM (7:Int) l mx tt).2.2)).2.1) ((coinM (4:Int) l ((coinM (7:Int) l mx tt).2.1) ((coinM (7:Int) l mx tt).2.2)).2.2)).2.2)).1)))(h12:o[x100.toNat]? = some x101)(h13:0≤x100)(h14:(x100.toNat*1)<(o.map intP).length)(h15:inR ((pl+((drawM (3:Int) l ((coinM (5:Int) l ((coinM (4:Int) l ((coinM (7:Int) l mx tt).2.1) ((coinM (7:Int) l mx tt).2.2)).2.1) ((coinM (4:Int) l ((coinM (7:Int) l mx tt).2.1) ((coinM (7:Int) l mx tt).2.2)).2.2)).2.1) ((coinM (5:Int) l ((coinM (4:Int) l ((coinM (7:Int) l mx tt).2.1) ((coinM (7:Int) l mx tt).2.2)).2.1) ((coinM (4:Int) l ((coinM (7:Int) l mx tt).2.1) ((coinM (7:Int) l mx tt).2.2)).2.2)).2.2)).1))+(1:Int)))(h16:inR (((i+1):Nat):Int))(ei':i'=(i+1))(eo'n:o'.length=o.length)(eo'c:o'.map intP=((o.map intP).set (x100.toNat*1) (intP (pl+((drawM (3:Int) l ((coinM (5:Int) l ((coinM (4:Int) l ((coinM (7:Int) l mx tt).2.1) ((coinM (7:Int) l mx tt).2.2)).2.1) ((coinM (4:Int) l ((coinM (7:Int) l mx tt).2.1) ((coinM (7:Int) l mx tt).2.2)).2.2)).2.1) ((coinM (5:Int) l ((coinM (4:Int) l ((coinM (7:Int) l mx tt).2.1) ((coinM (7:Int) l mx tt).2.2)).2.1) ((coinM (4:Int) l ((coinM (7:Int) l mx tt).2.1) ((coinM (7:Int) l mx tt).2.2)).2.2)).2.2)).1)))))(epl':pl'=((pl+((drawM (3:Int) l ((coinM (5:Int) l ((coinM (4:Int) l ((coinM (7:Int) l mx tt).2.1) ((coinM (7:Int) l mx tt).2.2)).2.1) ((coinM (4:Int) l ((coinM (7:Int) l mx tt).2.1) ((coinM (7:Int) l mx tt).2.2)).2.2)).2.1) ((coinM (5:Int) l ((coinM (4:Int) l ((coinM (7:Int) l mx tt).2.1) ((coinM (7:Int) l mx tt).2.2)).2.1) ((coinM (4:Int) l ((coinM (7:Int) l mx tt).2.1) ((coinM (7:Int) l mx tt).2.2)).2.2)).2.2)).1))+(1:Int)))(ela'n:la'.length=1)(ela'c:la'.map intP=[(intP x100)])(emx':mx'=((drawM (3:Int) l ((coinM (5:Int) l ((coinM (4:Int) l ((coinM (7:Int) l mx tt).2.1) ((coinM (7:Int) l mx tt).2.2)).2.1) ((coinM (4:Int) l ((coinM (7:Int) l mx tt).2.1) ((coinM (7:Int) l mx tt).2.2)).2.2)).2.1) ((coinM (5:Int) l ((coinM (4:Int) l ((coinM (7:Int) l mx tt).2.1) ((coinM (7:Int) l mx tt).2.2)).2.1) ((coinM (4:Int) l ((coinM (7:Int) l mx tt).2.1) ((coinM (7:Int) l mx tt).2.2)).2.2)).2.2)).2.1))(ett':tt'=((drawM (3:Int) l ((coinM (5:Int) l ((coinM (4:Int) l ((coinM (7:Int) l mx tt).2.1) ((coinM (7:Int) l mx tt).2.2)).2.1) ((coinM (4:Int) l ((coinM (7:Int) l mx tt).2.1) ((coinM (7:Int) l mx tt).2.2)).2.2)).2.1) ((coinM (5:Int) l ((coinM (4:Int) l ((coinM (7:Int) l mx tt).2.1) ((coinM (7:Int) l mx tt).2.2)).2.1) ((coinM (4:Int) l ((coinM (7:Int) l mx tt).2.1) ((coinM (7:Int) l mx tt).2.2)).2.2)).2.2)).2.2)):CodeOK Tryz.prog 1 zL1c0 (raced_S0 n sh l nx st i o.length (o.map intP) pl la.length (la.map intP) mx tt) .normal (raced_S0 n sh l nx st i' o'.length (o'.map intP) pl' la'.length (la'.map intP) mx' tt'):=by
  subst ei' epl' emx' ett'
  have raw:CodeOK Tryz.prog 1 zL1c0 (raced_S0 n sh l nx st i o.length (o.map intP) pl la.length (la.map intP) mx tt) .normal (raced_S0 n sh l nx st (i+1) o.length ((o.map intP).set (x100.toNat*1) (intP (pl+((zL15 l mx tt).1)))) ((pl+((zL15 l mx tt).1))+(1:Int)) 1 [(intP x100)] ((zL15 l mx tt).2.1) ((zL15 l mx tt).2.2)):=CodeOK.fin (g:=⟨(rng [(1,1),(3,3),(10,6),(19,45)]),[1,2,4],[],[]⟩) (o:=[bT,.x (intP x100),.c (.p (blP ((zL14 l mx tt).1))) [(0,(deckO l ((zL14 l mx tt).2.1) ((zL14 l mx tt).2.2)))],bF,bT,bT,bT,bT,bT,bT,.c (.p (blP ((zL10 l mx tt).1))) [(0,(deckO l ((zL10 l mx tt).2.1) ((zL10 l mx tt).2.2)))],bT,bF,.c (.p (blP ((zL12 l mx tt).1))) [(0,(deckO l ((zL12 l mx tt).2.1) ((zL12 l mx tt).2.2)))],bT,.c (.p (intP ((zL15 l mx tt).1))) [(0,(deckO l ((zL15 l mx tt).2.1) ((zL15 l mx tt).2.2)))]]) (l:=[_,_,_,_,_,FC Tryz.prog 28 [(.ptr 0 0),(.p (intP 3))] [(0,(deckO l ((zL12 l mx tt).2.1) ((zL12 l mx tt).2.2)))] 4 (.p (intP ((zL15 l mx tt).1))) [(0,(deckO l ((zL15 l mx tt).2.1) ((zL15 l mx tt).2.2)))],_,FC Tryz.prog 134 [(.ptr 0 0),(.p (intP 5))] [(0,(deckO l ((zL10 l mx tt).2.1) ((zL10 l mx tt).2.2)))] 4 (.p (blP ((zL12 l mx tt).1))) [(0,(deckO l ((zL12 l mx tt).2.1) ((zL12 l mx tt).2.2)))],_,_,FC Tryz.prog 134 [(.ptr 0 0),(.p (intP 4))] [(0,(deckO l ((zL14 l mx tt).2.1) ((zL14 l mx tt).2.2)))] 4 (.p (blP ((zL10 l mx tt).1))) [(0,(deckO l ((zL10 l mx tt).2.1) ((zL10 l mx tt).2.2)))],_,_,_,_,_,_,_,FC Tryz.prog 134 [(.ptr 0 0),(.p (intP 7))] [(0,(deckO l mx tt))] 4 (.p (blP ((zL14 l mx tt).1))) [(0,(deckO l ((zL14 l mx tt).2.1) ((zL14 l mx tt).2.2)))],_,_,_]) (by kernel_rfl) (gc h16 (gc h15 (gc h14 (gc (ix_own (i:=x100) h13 h12) (gc h11 (gc (FMM.fc (ids:=[0]) (draw_ok (3:Int) l ((zL12 l mx tt).2.1) ((zL12 l mx tt).2.2) h10) (by kernel_rfl)) (gc h9 (gc (FMM.fc (ids:=[0]) (coin_ok (5:Int) l ((zL10 l mx tt).2.1) ((zL10 l mx tt).2.2) h8) (by kernel_rfl)) (gc h7 (gc (q_lt h5) (gc (FMM.fc (ids:=[0]) (coin_ok (4:Int) l ((zL14 l mx tt).2.1) ((zL14 l mx tt).2.2) h6) (by kernel_rfl)) (gc (q_lt h5) (gc (q_lt h5) (gc h4 (gc h4 (gc h4 (gc h4 (gc h3 (gc (FMM.fc (ids:=[0]) (coin_ok (7:Int) l mx tt h2) (by kernel_rfl)) (gc (atm intP h1) (gc (ix_own (i:=(i:Int)) (Int.natCast_nonneg _) h1) (gc (q_lt h0) gn))))))))))))))))))))))
  exact raw.cast (by rw [eo'n,eo'c,ela'n,ela'c])
theorem raced_L0_p3{n:Int}{sh:Bool}{l:List Int}{nx st:Int}{i:Nat}{o:List Int}{pl:Int}{la:List Int}{mx tt x100 x101:Int}{i':Nat}{o':List Int}{pl':Int}{la':List Int}{mx' tt':Int}(h0:(i:Int)<((((shufM n l nx st).1).length:Nat):Int))(h1:((shufM n l nx st).1)[i]? = some x100)(h2:0≤mx∧mx≤1000000000)(h3:((coinM (7:Int) l mx tt).1)=false)(h4:sh=true)(h5:(0:Int)<(la.length:Int))(h6:0≤((coinM (7:Int) l mx tt).2.1)∧((coinM (7:Int) l mx tt).2.1)≤1000000000)(h7:((coinM (4:Int) l ((coinM (7:Int) l mx tt).2.1) ((coinM (7:Int) l mx tt).2.2)).1)=false)(h8:0≤((coinM (4:Int) l ((coinM (7:Int) l mx tt).2.1) ((coinM (7:Int) l mx tt).2.2)).2.1)∧((coinM (4:Int) l ((coinM (7:Int) l mx tt).2.1) ((coinM (7:Int) l mx tt).2.2)).2.1)≤1000000000)(h9:((coinM (5:Int) l ((coinM (4:Int) l ((coinM (7:Int) l mx tt).2.1) ((coinM (7:Int) l mx tt).2.2)).2.1) ((coinM (4:Int) l ((coinM (7:Int) l mx tt).2.1) ((coinM (7:Int) l mx tt).2.2)).2.2)).1)=false)(h10:o[x100.toNat]? = some x101)(h11:0≤x100)(h12:(x100.toNat*1)<(o.map intP).length)(h13:inR (pl+(1:Int)))(h14:inR (((i+1):Nat):Int))(ei':i'=(i+1))(eo'n:o'.length=o.length)(eo'c:o'.map intP=((o.map intP).set (x100.toNat*1) (intP pl)))(epl':pl'=(pl+(1:Int)))(ela'n:la'.length=1)(ela'c:la'.map intP=[(intP x100)])(emx':mx'=((coinM (5:Int) l ((coinM (4:Int) l ((coinM (7:Int) l mx tt).2.1) ((coinM (7:Int) l mx tt).2.2)).2.1) ((coinM (4:Int) l ((coinM (7:Int) l mx tt).2.1) ((coinM (7:Int) l mx tt).2.2)).2.2)).2.1))(ett':tt'=((coinM (5:Int) l ((coinM (4:Int) l ((coinM (7:Int) l mx tt).2.1) ((coinM (7:Int) l mx tt).2.2)).2.1) ((coinM (4:Int) l ((coinM (7:Int) l mx tt).2.1) ((coinM (7:Int) l mx tt).2.2)).2.2)).2.2)):CodeOK Tryz.prog 1 zL1c0 (raced_S0 n sh l nx st i o.length (o.map intP) pl la.length (la.map intP) mx tt) .normal (raced_S0 n sh l nx st i' o'.length (o'.map intP) pl' la'.length (la'.map intP) mx' tt'):=by
  subst ei' epl' emx' ett'
  have raw:CodeOK Tryz.prog 1 zL1c0 (raced_S0 n sh l nx st i o.length (o.map intP) pl la.length (la.map intP) mx tt) .normal (raced_S0 n sh l nx st (i+1) o.length ((o.map intP).set (x100.toNat*1) (intP pl)) (pl+(1:Int)) 1 [(intP x100)] ((zL12 l mx tt).2.1) ((zL12 l mx tt).2.2)):=CodeOK.fin (g:=⟨(rng [(1,1),(3,3),(10,6),(19,45)]),[1,2,4],[],[]⟩) (o:=[bT,.x (intP x100),.c (.p (blP ((zL14 l mx tt).1))) [(0,(deckO l ((zL14 l mx tt).2.1) ((zL14 l mx tt).2.2)))],bF,bT,bT,bT,bT,bT,bT,.c (.p (blP ((zL10 l mx tt).1))) [(0,(deckO l ((zL10 l mx tt).2.1) ((zL10 l mx tt).2.2)))],bT,bF,.c (.p (blP ((zL12 l mx tt).1))) [(0,(deckO l ((zL12 l mx tt).2.1) ((zL12 l mx tt).2.2)))],bF]) (l:=[_,_,_,_,_,FC Tryz.prog 134 [(.ptr 0 0),(.p (intP 5))] [(0,(deckO l ((zL10 l mx tt).2.1) ((zL10 l mx tt).2.2)))] 4 (.p (blP ((zL12 l mx tt).1))) [(0,(deckO l ((zL12 l mx tt).2.1) ((zL12 l mx tt).2.2)))],_,_,FC Tryz.prog 134 [(.ptr 0 0),(.p (intP 4))] [(0,(deckO l ((zL14 l mx tt).2.1) ((zL14 l mx tt).2.2)))] 4 (.p (blP ((zL10 l mx tt).1))) [(0,(deckO l ((zL10 l mx tt).2.1) ((zL10 l mx tt).2.2)))],_,_,_,_,_,_,_,FC Tryz.prog 134 [(.ptr 0 0),(.p (intP 7))] [(0,(deckO l mx tt))] 4 (.p (blP ((zL14 l mx tt).1))) [(0,(deckO l ((zL14 l mx tt).2.1) ((zL14 l mx tt).2.2)))],_,_,_]) (by kernel_rfl) (gc h14 (gc h13 (gc h12 (gc (ix_own (i:=x100) h11 h10) (gc h9 (gc (FMM.fc (ids:=[0]) (coin_ok (5:Int) l ((zL10 l mx tt).2.1) ((zL10 l mx tt).2.2) h8) (by kernel_rfl)) (gc h7 (gc (q_lt h5) (gc (FMM.fc (ids:=[0]) (coin_ok (4:Int) l ((zL14 l mx tt).2.1) ((zL14 l mx tt).2.2) h6) (by kernel_rfl)) (gc (q_lt h5) (gc (q_lt h5) (gc h4 (gc h4 (gc h4 (gc h4 (gc h3 (gc (FMM.fc (ids:=[0]) (coin_ok (7:Int) l mx tt h2) (by kernel_rfl)) (gc (atm intP h1) (gc (ix_own (i:=(i:Int)) (Int.natCast_nonneg _) h1) (gc (q_lt h0) gn))))))))))))))))))))
  exact raw.cast (by rw [eo'n,eo'c,ela'n,ela'c])
theorem raced_L0_p4{n:Int}{sh:Bool}{l:List Int}{nx st:Int}{i:Nat}{o:List Int}{pl:Int}{la:List Int}{mx tt x100 x101:Int}{i':Nat}{o':List Int}{pl':Int}{la':List Int}{mx' tt':Int}(h0:(i:Int)<((((shufM n l nx st).1).length:Nat):Int))(h1:((shufM n l nx st).1)[i]? = some x100)(h2:0≤mx∧mx≤1000000000)(h3:((coinM (7:Int) l mx tt).1)=false)(h4:sh=true)(h5:(la.length:Int)≤(0:Int))(h6:0≤((coinM (7:Int) l mx tt).2.1)∧((coinM (7:Int) l mx tt).2.1)≤1000000000)(h7:((coinM (5:Int) l ((coinM (7:Int) l mx tt).2.1) ((coinM (7:Int) l mx tt).2.2)).1)=true)(h8:0≤((coinM (5:Int) l ((coinM (7:Int) l mx tt).2.1) ((coinM (7:Int) l mx tt).2.2)).2.1)∧((coinM (5:Int) l ((coinM (7:Int) l mx tt).2.1) ((coinM (7:Int) l mx tt).2.2)).2.1)≤1000000000)(h9:inR (pl+((drawM (3:Int) l ((coinM (5:Int) l ((coinM (7:Int) l mx tt).2.1) ((coinM (7:Int) l mx tt).2.2)).2.1) ((coinM (5:Int) l ((coinM (7:Int) l mx tt).2.1) ((coinM (7:Int) l mx tt).2.2)).2.2)).1)))(h10:o[x100.toNat]? = some x101)(h11:0≤x100)(h12:(x100.toNat*1)<(o.map intP).length)(h13:inR ((pl+((drawM (3:Int) l ((coinM (5:Int) l ((coinM (7:Int) l mx tt).2.1) ((coinM (7:Int) l mx tt).2.2)).2.1) ((coinM (5:Int) l ((coinM (7:Int) l mx tt).2.1) ((coinM (7:Int) l mx tt).2.2)).2.2)).1))+(1:Int)))(h14:inR (((i+1):Nat):Int))(ei':i'=(i+1))(eo'n:o'.length=o.length)(eo'c:o'.map intP=((o.map intP).set (x100.toNat*1) (intP (pl+((drawM (3:Int) l ((coinM (5:Int) l ((coinM (7:Int) l mx tt).2.1) ((coinM (7:Int) l mx tt).2.2)).2.1) ((coinM (5:Int) l ((coinM (7:Int) l mx tt).2.1) ((coinM (7:Int) l mx tt).2.2)).2.2)).1)))))(epl':pl'=((pl+((drawM (3:Int) l ((coinM (5:Int) l ((coinM (7:Int) l mx tt).2.1) ((coinM (7:Int) l mx tt).2.2)).2.1) ((coinM (5:Int) l ((coinM (7:Int) l mx tt).2.1) ((coinM (7:Int) l mx tt).2.2)).2.2)).1))+(1:Int)))(ela'n:la'.length=1)(ela'c:la'.map intP=[(intP x100)])(emx':mx'=((drawM (3:Int) l ((coinM (5:Int) l ((coinM (7:Int) l mx tt).2.1) ((coinM (7:Int) l mx tt).2.2)).2.1) ((coinM (5:Int) l ((coinM (7:Int) l mx tt).2.1) ((coinM (7:Int) l mx tt).2.2)).2.2)).2.1))(ett':tt'=((drawM (3:Int) l ((coinM (5:Int) l ((coinM (7:Int) l mx tt).2.1) ((coinM (7:Int) l mx tt).2.2)).2.1) ((coinM (5:Int) l ((coinM (7:Int) l mx tt).2.1) ((coinM (7:Int) l mx tt).2.2)).2.2)).2.2)):CodeOK Tryz.prog 1 zL1c0 (raced_S0 n sh l nx st i o.length (o.map intP) pl la.length (la.map intP) mx tt) .normal (raced_S0 n sh l nx st i' o'.length (o'.map intP) pl' la'.length (la'.map intP) mx' tt'):=by
  subst ei' epl' emx' ett'
  have raw:CodeOK Tryz.prog 1 zL1c0 (raced_S0 n sh l nx st i o.length (o.map intP) pl la.length (la.map intP) mx tt) .normal (raced_S0 n sh l nx st (i+1) o.length ((o.map intP).set (x100.toNat*1) (intP (pl+((zL13 l mx tt).1)))) ((pl+((zL13 l mx tt).1))+(1:Int)) 1 [(intP x100)] ((zL13 l mx tt).2.1) ((zL13 l mx tt).2.2)):=CodeOK.fin (g:=⟨(rng [(1,1),(3,3),(10,6),(19,45)]),[1,2,4],[],[]⟩) (o:=[bT,.x (intP x100),.c (.p (blP ((zL14 l mx tt).1))) [(0,(deckO l ((zL14 l mx tt).2.1) ((zL14 l mx tt).2.2)))],bF,bT,bT,bT,bT,bF,bF,bF,.c (.p (blP ((zL11 l mx tt).1))) [(0,(deckO l ((zL11 l mx tt).2.1) ((zL11 l mx tt).2.2)))],bT,.c (.p (intP ((zL13 l mx tt).1))) [(0,(deckO l ((zL13 l mx tt).2.1) ((zL13 l mx tt).2.2)))]]) (l:=[_,_,_,_,_,FC Tryz.prog 28 [(.ptr 0 0),(.p (intP 3))] [(0,(deckO l ((zL11 l mx tt).2.1) ((zL11 l mx tt).2.2)))] 4 (.p (intP ((zL13 l mx tt).1))) [(0,(deckO l ((zL13 l mx tt).2.1) ((zL13 l mx tt).2.2)))],_,FC Tryz.prog 134 [(.ptr 0 0),(.p (intP 5))] [(0,(deckO l ((zL14 l mx tt).2.1) ((zL14 l mx tt).2.2)))] 4 (.p (blP ((zL11 l mx tt).1))) [(0,(deckO l ((zL11 l mx tt).2.1) ((zL11 l mx tt).2.2)))],_,_,_,_,_,_,_,_,FC Tryz.prog 134 [(.ptr 0 0),(.p (intP 7))] [(0,(deckO l mx tt))] 4 (.p (blP ((zL14 l mx tt).1))) [(0,(deckO l ((zL14 l mx tt).2.1) ((zL14 l mx tt).2.2)))],_,_,_]) (by kernel_rfl) (gc h14 (gc h13 (gc h12 (gc (ix_own (i:=x100) h11 h10) (gc h9 (gc (FMM.fc (ids:=[0]) (draw_ok (3:Int) l ((zL11 l mx tt).2.1) ((zL11 l mx tt).2.2) h8) (by kernel_rfl)) (gc h7 (gc (FMM.fc (ids:=[0]) (coin_ok (5:Int) l ((zL14 l mx tt).2.1) ((zL14 l mx tt).2.2) h6) (by kernel_rfl)) (gc (q_ltF h5) (gc (q_ltF h5) (gc (q_ltF h5) (gc h4 (gc h4 (gc h4 (gc h4 (gc h3 (gc (FMM.fc (ids:=[0]) (coin_ok (7:Int) l mx tt h2) (by kernel_rfl)) (gc (atm intP h1) (gc (ix_own (i:=(i:Int)) (Int.natCast_nonneg _) h1) (gc (q_lt h0) gn))))))))))))))))))))
  exact raw.cast (by rw [eo'n,eo'c,ela'n,ela'c])
theorem raced_L0_p5{n:Int}{sh:Bool}{l:List Int}{nx st:Int}{i:Nat}{o:List Int}{pl:Int}{la:List Int}{mx tt x100 x101:Int}{i':Nat}{o':List Int}{pl':Int}{la':List Int}{mx' tt':Int}(h0:(i:Int)<((((shufM n l nx st).1).length:Nat):Int))(h1:((shufM n l nx st).1)[i]? = some x100)(h2:0≤mx∧mx≤1000000000)(h3:((coinM (7:Int) l mx tt).1)=false)(h4:sh=true)(h5:(la.length:Int)≤(0:Int))(h6:0≤((coinM (7:Int) l mx tt).2.1)∧((coinM (7:Int) l mx tt).2.1)≤1000000000)(h7:((coinM (5:Int) l ((coinM (7:Int) l mx tt).2.1) ((coinM (7:Int) l mx tt).2.2)).1)=false)(h8:o[x100.toNat]? = some x101)(h9:0≤x100)(h10:(x100.toNat*1)<(o.map intP).length)(h11:inR (pl+(1:Int)))(h12:inR (((i+1):Nat):Int))(ei':i'=(i+1))(eo'n:o'.length=o.length)(eo'c:o'.map intP=((o.map intP).set (x100.toNat*1) (intP pl)))(epl':pl'=(pl+(1:Int)))(ela'n:la'.length=1)(ela'c:la'.map intP=[(intP x100)])(emx':mx'=((coinM (5:Int) l ((coinM (7:Int) l mx tt).2.1) ((coinM (7:Int) l mx tt).2.2)).2.1))(ett':tt'=((coinM (5:Int) l ((coinM (7:Int) l mx tt).2.1) ((coinM (7:Int) l mx tt).2.2)).2.2)):CodeOK Tryz.prog 1 zL1c0 (raced_S0 n sh l nx st i o.length (o.map intP) pl la.length (la.map intP) mx tt) .normal (raced_S0 n sh l nx st i' o'.length (o'.map intP) pl' la'.length (la'.map intP) mx' tt'):=by
  subst ei' epl' emx' ett'
  have raw:CodeOK Tryz.prog 1 zL1c0 (raced_S0 n sh l nx st i o.length (o.map intP) pl la.length (la.map intP) mx tt) .normal (raced_S0 n sh l nx st (i+1) o.length ((o.map intP).set (x100.toNat*1) (intP pl)) (pl+(1:Int)) 1 [(intP x100)] ((zL11 l mx tt).2.1) ((zL11 l mx tt).2.2)):=CodeOK.fin (g:=⟨(rng [(1,1),(3,3),(10,6),(19,45)]),[1,2,4],[],[]⟩) (o:=[bT,.x (intP x100),.c (.p (blP ((zL14 l mx tt).1))) [(0,(deckO l ((zL14 l mx tt).2.1) ((zL14 l mx tt).2.2)))],bF,bT,bT,bT,bT,bF,bF,bF,.c (.p (blP ((zL11 l mx tt).1))) [(0,(deckO l ((zL11 l mx tt).2.1) ((zL11 l mx tt).2.2)))],bF]) (l:=[_,_,_,_,_,FC Tryz.prog 134 [(.ptr 0 0),(.p (intP 5))] [(0,(deckO l ((zL14 l mx tt).2.1) ((zL14 l mx tt).2.2)))] 4 (.p (blP ((zL11 l mx tt).1))) [(0,(deckO l ((zL11 l mx tt).2.1) ((zL11 l mx tt).2.2)))],_,_,_,_,_,_,_,_,FC Tryz.prog 134 [(.ptr 0 0),(.p (intP 7))] [(0,(deckO l mx tt))] 4 (.p (blP ((zL14 l mx tt).1))) [(0,(deckO l ((zL14 l mx tt).2.1) ((zL14 l mx tt).2.2)))],_,_,_]) (by kernel_rfl) (gc h12 (gc h11 (gc h10 (gc (ix_own (i:=x100) h9 h8) (gc h7 (gc (FMM.fc (ids:=[0]) (coin_ok (5:Int) l ((zL14 l mx tt).2.1) ((zL14 l mx tt).2.2) h6) (by kernel_rfl)) (gc (q_ltF h5) (gc (q_ltF h5) (gc (q_ltF h5) (gc h4 (gc h4 (gc h4 (gc h4 (gc h3 (gc (FMM.fc (ids:=[0]) (coin_ok (7:Int) l mx tt h2) (by kernel_rfl)) (gc (atm intP h1) (gc (ix_own (i:=(i:Int)) (Int.natCast_nonneg _) h1) (gc (q_lt h0) gn))))))))))))))))))
  exact raw.cast (by rw [eo'n,eo'c,ela'n,ela'c])
theorem raced_L0_p6{n:Int}{sh:Bool}{l:List Int}{nx st:Int}{i:Nat}{o:List Int}{pl:Int}{la:List Int}{mx tt x100 x101:Int}{i':Nat}{o':List Int}{pl':Int}{la':List Int}{mx' tt':Int}(h0:(i:Int)<((((shufM n l nx st).1).length:Nat):Int))(h1:((shufM n l nx st).1)[i]? = some x100)(h2:0≤mx∧mx≤1000000000)(h3:((coinM (7:Int) l mx tt).1)=false)(h4:sh=false)(h5:0≤((coinM (7:Int) l mx tt).2.1)∧((coinM (7:Int) l mx tt).2.1)≤1000000000)(h6:((coinM (5:Int) l ((coinM (7:Int) l mx tt).2.1) ((coinM (7:Int) l mx tt).2.2)).1)=true)(h7:0≤((coinM (5:Int) l ((coinM (7:Int) l mx tt).2.1) ((coinM (7:Int) l mx tt).2.2)).2.1)∧((coinM (5:Int) l ((coinM (7:Int) l mx tt).2.1) ((coinM (7:Int) l mx tt).2.2)).2.1)≤1000000000)(h8:inR (pl+((drawM (3:Int) l ((coinM (5:Int) l ((coinM (7:Int) l mx tt).2.1) ((coinM (7:Int) l mx tt).2.2)).2.1) ((coinM (5:Int) l ((coinM (7:Int) l mx tt).2.1) ((coinM (7:Int) l mx tt).2.2)).2.2)).1)))(h9:o[x100.toNat]? = some x101)(h10:0≤x100)(h11:(x100.toNat*1)<(o.map intP).length)(h12:inR ((pl+((drawM (3:Int) l ((coinM (5:Int) l ((coinM (7:Int) l mx tt).2.1) ((coinM (7:Int) l mx tt).2.2)).2.1) ((coinM (5:Int) l ((coinM (7:Int) l mx tt).2.1) ((coinM (7:Int) l mx tt).2.2)).2.2)).1))+(1:Int)))(h13:inR (((i+1):Nat):Int))(ei':i'=(i+1))(eo'n:o'.length=o.length)(eo'c:o'.map intP=((o.map intP).set (x100.toNat*1) (intP (pl+((drawM (3:Int) l ((coinM (5:Int) l ((coinM (7:Int) l mx tt).2.1) ((coinM (7:Int) l mx tt).2.2)).2.1) ((coinM (5:Int) l ((coinM (7:Int) l mx tt).2.1) ((coinM (7:Int) l mx tt).2.2)).2.2)).1)))))(epl':pl'=((pl+((drawM (3:Int) l ((coinM (5:Int) l ((coinM (7:Int) l mx tt).2.1) ((coinM (7:Int) l mx tt).2.2)).2.1) ((coinM (5:Int) l ((coinM (7:Int) l mx tt).2.1) ((coinM (7:Int) l mx tt).2.2)).2.2)).1))+(1:Int)))(ela'n:la'.length=1)(ela'c:la'.map intP=[(intP x100)])(emx':mx'=((drawM (3:Int) l ((coinM (5:Int) l ((coinM (7:Int) l mx tt).2.1) ((coinM (7:Int) l mx tt).2.2)).2.1) ((coinM (5:Int) l ((coinM (7:Int) l mx tt).2.1) ((coinM (7:Int) l mx tt).2.2)).2.2)).2.1))(ett':tt'=((drawM (3:Int) l ((coinM (5:Int) l ((coinM (7:Int) l mx tt).2.1) ((coinM (7:Int) l mx tt).2.2)).2.1) ((coinM (5:Int) l ((coinM (7:Int) l mx tt).2.1) ((coinM (7:Int) l mx tt).2.2)).2.2)).2.2)):CodeOK Tryz.prog 1 zL1c0 (raced_S0 n sh l nx st i o.length (o.map intP) pl la.length (la.map intP) mx tt) .normal (raced_S0 n sh l nx st i' o'.length (o'.map intP) pl' la'.length (la'.map intP) mx' tt'):=by
  subst ei' epl' emx' ett'
  have raw:CodeOK Tryz.prog 1 zL1c0 (raced_S0 n sh l nx st i o.length (o.map intP) pl la.length (la.map intP) mx tt) .normal (raced_S0 n sh l nx st (i+1) o.length ((o.map intP).set (x100.toNat*1) (intP (pl+((zL13 l mx tt).1)))) ((pl+((zL13 l mx tt).1))+(1:Int)) 1 [(intP x100)] ((zL13 l mx tt).2.1) ((zL13 l mx tt).2.2)):=CodeOK.fin (g:=⟨(rng [(1,1),(3,3),(10,6),(19,45)]),[1,2,4],[],[]⟩) (o:=[bT,.x (intP x100),.c (.p (blP ((zL14 l mx tt).1))) [(0,(deckO l ((zL14 l mx tt).2.1) ((zL14 l mx tt).2.2)))],bF,bF,bF,bF,bF,.c (.p (blP ((zL11 l mx tt).1))) [(0,(deckO l ((zL11 l mx tt).2.1) ((zL11 l mx tt).2.2)))],bT,.c (.p (intP ((zL13 l mx tt).1))) [(0,(deckO l ((zL13 l mx tt).2.1) ((zL13 l mx tt).2.2)))]]) (l:=[_,_,_,_,_,FC Tryz.prog 28 [(.ptr 0 0),(.p (intP 3))] [(0,(deckO l ((zL11 l mx tt).2.1) ((zL11 l mx tt).2.2)))] 4 (.p (intP ((zL13 l mx tt).1))) [(0,(deckO l ((zL13 l mx tt).2.1) ((zL13 l mx tt).2.2)))],_,FC Tryz.prog 134 [(.ptr 0 0),(.p (intP 5))] [(0,(deckO l ((zL14 l mx tt).2.1) ((zL14 l mx tt).2.2)))] 4 (.p (blP ((zL11 l mx tt).1))) [(0,(deckO l ((zL11 l mx tt).2.1) ((zL11 l mx tt).2.2)))],_,_,_,_,_,FC Tryz.prog 134 [(.ptr 0 0),(.p (intP 7))] [(0,(deckO l mx tt))] 4 (.p (blP ((zL14 l mx tt).1))) [(0,(deckO l ((zL14 l mx tt).2.1) ((zL14 l mx tt).2.2)))],_,_,_]) (by kernel_rfl) (gc h13 (gc h12 (gc h11 (gc (ix_own (i:=x100) h10 h9) (gc h8 (gc (FMM.fc (ids:=[0]) (draw_ok (3:Int) l ((zL11 l mx tt).2.1) ((zL11 l mx tt).2.2) h7) (by kernel_rfl)) (gc h6 (gc (FMM.fc (ids:=[0]) (coin_ok (5:Int) l ((zL14 l mx tt).2.1) ((zL14 l mx tt).2.2) h5) (by kernel_rfl)) (gc h4 (gc h4 (gc h4 (gc h4 (gc h3 (gc (FMM.fc (ids:=[0]) (coin_ok (7:Int) l mx tt h2) (by kernel_rfl)) (gc (atm intP h1) (gc (ix_own (i:=(i:Int)) (Int.natCast_nonneg _) h1) (gc (q_lt h0) gn)))))))))))))))))
  exact raw.cast (by rw [eo'n,eo'c,ela'n,ela'c])
theorem raced_L0_p7{n:Int}{sh:Bool}{l:List Int}{nx st:Int}{i:Nat}{o:List Int}{pl:Int}{la:List Int}{mx tt x100 x101:Int}{i':Nat}{o':List Int}{pl':Int}{la':List Int}{mx' tt':Int}(h0:(i:Int)<((((shufM n l nx st).1).length:Nat):Int))(h1:((shufM n l nx st).1)[i]? = some x100)(h2:0≤mx∧mx≤1000000000)(h3:((coinM (7:Int) l mx tt).1)=false)(h4:sh=false)(h5:0≤((coinM (7:Int) l mx tt).2.1)∧((coinM (7:Int) l mx tt).2.1)≤1000000000)(h6:((coinM (5:Int) l ((coinM (7:Int) l mx tt).2.1) ((coinM (7:Int) l mx tt).2.2)).1)=false)(h7:o[x100.toNat]? = some x101)(h8:0≤x100)(h9:(x100.toNat*1)<(o.map intP).length)(h10:inR (pl+(1:Int)))(h11:inR (((i+1):Nat):Int))(ei':i'=(i+1))(eo'n:o'.length=o.length)(eo'c:o'.map intP=((o.map intP).set (x100.toNat*1) (intP pl)))(epl':pl'=(pl+(1:Int)))(ela'n:la'.length=1)(ela'c:la'.map intP=[(intP x100)])(emx':mx'=((coinM (5:Int) l ((coinM (7:Int) l mx tt).2.1) ((coinM (7:Int) l mx tt).2.2)).2.1))(ett':tt'=((coinM (5:Int) l ((coinM (7:Int) l mx tt).2.1) ((coinM (7:Int) l mx tt).2.2)).2.2)):CodeOK Tryz.prog 1 zL1c0 (raced_S0 n sh l nx st i o.length (o.map intP) pl la.length (la.map intP) mx tt) .normal (raced_S0 n sh l nx st i' o'.length (o'.map intP) pl' la'.length (la'.map intP) mx' tt'):=by
  subst ei' epl' emx' ett'
  have raw:CodeOK Tryz.prog 1 zL1c0 (raced_S0 n sh l nx st i o.length (o.map intP) pl la.length (la.map intP) mx tt) .normal (raced_S0 n sh l nx st (i+1) o.length ((o.map intP).set (x100.toNat*1) (intP pl)) (pl+(1:Int)) 1 [(intP x100)] ((zL11 l mx tt).2.1) ((zL11 l mx tt).2.2)):=CodeOK.fin (g:=⟨(rng [(1,1),(3,3),(10,6),(19,45)]),[1,2,4],[],[]⟩) (o:=[bT,.x (intP x100),.c (.p (blP ((zL14 l mx tt).1))) [(0,(deckO l ((zL14 l mx tt).2.1) ((zL14 l mx tt).2.2)))],bF,bF,bF,bF,bF,.c (.p (blP ((zL11 l mx tt).1))) [(0,(deckO l ((zL11 l mx tt).2.1) ((zL11 l mx tt).2.2)))],bF]) (l:=[_,_,_,_,_,FC Tryz.prog 134 [(.ptr 0 0),(.p (intP 5))] [(0,(deckO l ((zL14 l mx tt).2.1) ((zL14 l mx tt).2.2)))] 4 (.p (blP ((zL11 l mx tt).1))) [(0,(deckO l ((zL11 l mx tt).2.1) ((zL11 l mx tt).2.2)))],_,_,_,_,_,FC Tryz.prog 134 [(.ptr 0 0),(.p (intP 7))] [(0,(deckO l mx tt))] 4 (.p (blP ((zL14 l mx tt).1))) [(0,(deckO l ((zL14 l mx tt).2.1) ((zL14 l mx tt).2.2)))],_,_,_]) (by kernel_rfl) (gc h11 (gc h10 (gc h9 (gc (ix_own (i:=x100) h8 h7) (gc h6 (gc (FMM.fc (ids:=[0]) (coin_ok (5:Int) l ((zL14 l mx tt).2.1) ((zL14 l mx tt).2.2) h5) (by kernel_rfl)) (gc h4 (gc h4 (gc h4 (gc h4 (gc h3 (gc (FMM.fc (ids:=[0]) (coin_ok (7:Int) l mx tt h2) (by kernel_rfl)) (gc (atm intP h1) (gc (ix_own (i:=(i:Int)) (Int.natCast_nonneg _) h1) (gc (q_lt h0) gn)))))))))))))))
  exact raw.cast (by rw [eo'n,eo'c,ela'n,ela'c])
theorem raced_L0_p8{n:Int}{sh:Bool}{l:List Int}{nx st:Int}{i:Nat}{o:List Int}{pl:Int}{la:List Int}{mx tt:Int}(h0:((((shufM n l nx st).1).length:Nat):Int)≤(i:Int)):CodeOK Tryz.prog 1 zL1c0 (raced_S0 n sh l nx st i o.length (o.map intP) pl la.length (la.map intP) mx tt) (.exit 0) (raced_S0 n sh l nx st i o.length (o.map intP) pl la.length (la.map intP) mx tt):=by
  exact CodeOK.fin (g:=⟨(rng [(1,1),(3,3),(10,6),(19,45)]),[1,2,3],[],[]⟩) (o:=[bF]) (l:=[_]) (by kernel_rfl) (gc (q_ltF h0) gn)
theorem shufM_perm(n:Int)(l:List Int)(nx st:Int):(shufM n l nx st).1.Perm (upL n.toNat)∧nx≤(shufM n l nx st).2.1∧(shufM n l nx st).2.1≤nx+n.toNat:=by
  have hul:(upL n.toNat).length=n.toNat:=by simp [upL]
  have:=shufR_spec l (n.toNat-1) (upL n.toNat) nx st (by omega)
  unfold shufM
  exact ⟨this.1,by omega,by omega⟩
theorem upL_nodup(n:Nat):(upL n).Nodup:=by
  unfold upL
  refine List.Pairwise.map _ (fun a b h => ?_) List.nodup_range
  intro e
  exact h (by omega)
theorem upL_mem{n:Nat}{x:Int}(h:x∈upL n):0≤x∧x.toNat<n:=by
  unfold upL at h
  rw [List.mem_map] at h
  obtain ⟨k,hk,rfl⟩:=h
  rw [List.mem_range] at hk
  omega
theorem raced_step{n:Int}{sh:Bool}{l:List Int}{nx st:Int}{i:Nat}{o:List Int}{pl:Int}{la:List Int}{mx tt:Int}(hI:KL.RInv (shufM n l nx st).1 n.toNat i o pl la)(hi:i<(shufM n l nx st).1.length)(hi2:i≤20)(h0:0≤mx∧mx≤900000000) :
    ∃ (o':List Int) (pl':Int) (la':List Int) (mx' tt':Int),CodeOK Tryz.prog 1 zL1c0 (raced_S0 n sh l nx st i o.length (o.map intP) pl la.length (la.map intP) mx tt) .normal (raced_S0 n sh l nx st (i+1) o'.length (o'.map intP) pl' la'.length (la'.map intP) mx' tt')∧KL.RInv (shufM n l nx st).1 n.toNat (i+1) o' pl' la'∧mx≤mx'∧mx'≤mx+4:=by
  obtain ⟨hp,_,_⟩:=shufM_perm n l nx st
  have hnd:(shufM n l nx st).1.Nodup:=(hp.nodup_iff).2 (upL_nodup _)
  have hin:∀ x∈(shufM n l nx st).1,0≤x∧x.toNat<n.toNat:=fun x hx=>upL_mem (hp.mem_iff.1 hx)
  obtain ⟨x,hx⟩:∃ x,(shufM n l nx st).1[i]? = some x:=⟨_,List.getElem?_eq_getElem hi⟩
  obtain ⟨x0,x1⟩:=hin x (List.mem_of_getElem? hx)
  have hol:=hI.len
  have hx2:o[x.toNat]? = some (o[x.toNat]'(by omega)):=List.getElem?_eq_getElem (by omega)
  have hx3:(x.toNat*1)<(o.map intP).length:=by simp;omega
  have hp1:=hI.p1
  have hp2:=hI.p2
  have hll:=hI.ll
  have hri:inR (((i+1:Nat):Int)):=inR_nat (by omega)
  have hi':(i:Int)<(((shufM n l nx st).1.length:Nat):Int):=by omega
  have b7:=coinM_bd 7 l mx tt
  have fin:∀ d:Int,0≤d→d≤2→KL.RInv (shufM n l nx st).1 n.toNat (i+1) (o.set x.toNat (pl+d)) (pl+d+1) [x]:=fun d h1 h2=>hI.new hnd hin hx ⟨h1,h2⟩
  have fin0:KL.RInv (shufM n l nx st).1 n.toNat (i+1) (o.set x.toNat pl) (pl+1) [x]:=by have:=fin 0 (by omega) (by omega);rwa [show pl+0=pl by omega] at this
  cases h3:(coinM 7 l mx tt).1 with
  | true=>exact ⟨o,pl,la,_,_,raced_L0_p0 hi' hx (by omega) h3 hri rfl rfl rfl,hI.skip,by omega,by omega⟩
  | false =>
    obtain ⟨m1,hm1⟩:∃ m,m=(coinM 7 l mx tt).2.1:=⟨_,rfl⟩
    obtain ⟨t1,ht1⟩:∃ t,t=(coinM 7 l mx tt).2.2:=⟨_,rfl⟩
    rw [← hm1] at b7
    have b5:=coinM_bd 5 l m1 t1
    have b4:=coinM_bd 4 l m1 t1
    have b3:=drawM_bd 3 l (coinM 5 l m1 t1).2.1 (coinM 5 l m1 t1).2.2
    cases sh with
    | false =>
      cases h6:(coinM 5 l m1 t1).1 with
      | true =>
        refine ⟨_,_,[x],_,_,raced_L0_p6 (o':=o.set x.toNat (pl+(drawM 3 l (coinM 5 l m1 t1).2.1 (coinM 5 l m1 t1).2.2).1)) (la':=[x]) hi' hx (by omega) h3 rfl (by rw [← hm1];omega) (by rw [← hm1,← ht1];exact h6) (by rw [← hm1,← ht1];omega) (by rw [← hm1,← ht1];unfold inR;omega) hx2 x0 hx3 (by rw [← hm1,← ht1];unfold inR;omega) hri rfl (by simp) (by rw [← hm1,← ht1];simp [List.map_set]) rfl rfl rfl rfl rfl,?_,?_,?_⟩
        · rw [← hm1,← ht1];exact fin _ b3.1 (by omega)
        · rw [← hm1,← ht1];omega
        · rw [← hm1,← ht1];omega
      | false =>
        refine ⟨_,_,[x],_,_,raced_L0_p7 (o':=o.set x.toNat pl) (la':=[x]) hi' hx (by omega) h3 rfl (by rw [← hm1];omega) (by rw [← hm1,← ht1];exact h6) hx2 x0 hx3 (by unfold inR;omega) hri rfl (by simp) (by simp [List.map_set]) rfl rfl rfl rfl rfl,fin0,?_,?_⟩
        · rw [← hm1,← ht1];omega
        · rw [← hm1,← ht1];omega
    | true =>
      cases la with
      | nil =>
        cases h6:(coinM 5 l m1 t1).1 with
        | true =>
          refine ⟨_,_,[x],_,_,raced_L0_p4 (o':=o.set x.toNat (pl+(drawM 3 l (coinM 5 l m1 t1).2.1 (coinM 5 l m1 t1).2.2).1)) (la':=[x]) hi' hx (by omega) h3 rfl (by simp) (by rw [← hm1];omega) (by rw [← hm1,← ht1];exact h6) (by rw [← hm1,← ht1];omega) (by rw [← hm1,← ht1];unfold inR;omega) hx2 x0 hx3 (by rw [← hm1,← ht1];unfold inR;omega) hri rfl (by simp) (by rw [← hm1,← ht1];simp [List.map_set]) rfl rfl rfl rfl rfl,?_,?_,?_⟩
          · rw [← hm1,← ht1];exact fin _ b3.1 (by omega)
          · rw [← hm1,← ht1];omega
          · rw [← hm1,← ht1];omega
        | false =>
          refine ⟨_,_,[x],_,_,raced_L0_p5 (o':=o.set x.toNat pl) (la':=[x]) hi' hx (by omega) h3 rfl (by simp) (by rw [← hm1];omega) (by rw [← hm1,← ht1];exact h6) hx2 x0 hx3 (by unfold inR;omega) hri rfl (by simp) (by simp [List.map_set]) rfl rfl rfl rfl rfl,fin0,?_,?_⟩
          · rw [← hm1,← ht1];omega
          · rw [← hm1,← ht1];omega
      | cons y r =>
        obtain ⟨y0,y1,y2,y3⟩:=hI.lst y r rfl
        obtain ⟨m2,hm2⟩:∃ m,m=(coinM 4 l m1 t1).2.1:=⟨_,rfl⟩
        obtain ⟨t2,ht2⟩:∃ t,t=(coinM 4 l m1 t1).2.2:=⟨_,rfl⟩
        rw [← hm2] at b4
        have b5:=coinM_bd 5 l m2 t2
        have b3:=drawM_bd 3 l (coinM 5 l m2 t2).2.1 (coinM 5 l m2 t2).2.2
        cases h7:(coinM 4 l m1 t1).1 with
        | true =>
          have hy:o[y.toNat]? = some (o.getD y.toNat 0):=by rw [List.getElem?_eq_getElem (by omega),List.getD_eq_getElem?_getD,List.getElem?_eq_getElem (by omega)];rfl
          refine ⟨_,_,(y::r)++[x],_,_,raced_L0_p1 (o':=o.set x.toNat (o.getD y.toNat 0)) (la':=(y::r)++[x]) hi' hx (by omega) h3 rfl (by rw [List.length_cons];omega) (by rw [← hm1];omega) (by rw [← hm1,← ht1];exact h7) rfl hy y0 hx2 x0 hx3 (by simp at hll ⊢;omega) (by unfold inR;omega) hri rfl (by simp) (by simp [List.map_set]) rfl (by simp) (by simp) rfl rfl,hI.share hnd hin hx rfl,?_,?_⟩
          · rw [← hm1,← ht1,← hm2];omega
          · rw [← hm1,← ht1,← hm2];omega
        | false =>
          cases h6:(coinM 5 l m2 t2).1 with
          | true =>
            refine ⟨_,_,[x],_,_,raced_L0_p2 (o':=o.set x.toNat (pl+(drawM 3 l (coinM 5 l m2 t2).2.1 (coinM 5 l m2 t2).2.2).1)) (la':=[x]) hi' hx (by omega) h3 rfl (by rw [List.length_cons];omega) (by rw [← hm1];omega) (by rw [← hm1,← ht1];exact h7) (by rw [← hm1,← ht1,← hm2];omega) (by rw [← hm1,← ht1,← hm2,← ht2];exact h6) (by rw [← hm1,← ht1,← hm2,← ht2];omega) (by rw [← hm1,← ht1,← hm2,← ht2];unfold inR;omega) hx2 x0 hx3 (by rw [← hm1,← ht1,← hm2,← ht2];unfold inR;omega) hri rfl (by simp) (by rw [← hm1,← ht1,← hm2,← ht2];simp [List.map_set]) rfl rfl rfl rfl rfl,?_,?_,?_⟩
            · rw [← hm1,← ht1,← hm2,← ht2];exact fin _ b3.1 (by omega)
            · rw [← hm1,← ht1,← hm2,← ht2];omega
            · rw [← hm1,← ht1,← hm2,← ht2];omega
          | false =>
            refine ⟨_,_,[x],_,_,raced_L0_p3 (o':=o.set x.toNat pl) (la':=[x]) hi' hx (by omega) h3 rfl (by rw [List.length_cons];omega) (by rw [← hm1];omega) (by rw [← hm1,← ht1];exact h7) (by rw [← hm1,← ht1,← hm2];omega) (by rw [← hm1,← ht1,← hm2,← ht2];exact h6) hx2 x0 hx3 (by unfold inR;omega) hri rfl (by simp) (by simp [List.map_set]) rfl rfl rfl rfl rfl,fin0,?_,?_⟩
            · rw [← hm1,← ht1,← hm2,← ht2];omega
            · rw [← hm1,← ht1,← hm2,← ht2];omega
theorem raced_loop{n:Int}{sh:Bool}{l:List Int}{nx st:Int}(hn:(shufM n l nx st).1.length≤15):∀ (k i:Nat) (o:List Int) (pl:Int) (la:List Int) (mx tt:Int),KL.RInv (shufM n l nx st).1 n.toNat i o pl la→i+k=(shufM n l nx st).1.length→0≤mx→mx+4*k≤900000000 →
    ∃ (o':List Int) (pl':Int) (la':List Int) (mx' tt':Int),LoopOK Tryz.prog 1 zL1c0 (raced_S0 n sh l nx st i o.length (o.map intP) pl la.length (la.map intP) mx tt) (.exit 0) (raced_S0 n sh l nx st (i+k) o'.length (o'.map intP) pl' la'.length (la'.map intP) mx' tt')∧KL.RInv (shufM n l nx st).1 n.toNat (i+k) o' pl' la'∧mx≤mx'∧mx'≤mx+4*k
  | 0,i,o,pl,la,mx,tt,h,hk,h0,h1=>⟨o,pl,la,mx,tt,.exit (raced_L0_p8 (by omega)) (by simp),h,by omega,by omega⟩
  | k+1,i,o,pl,la,mx,tt,h,hk,h0,h1=>by
    obtain ⟨o1,pl1,la1,m1,t1,c1,i1,b1,b2⟩:=raced_step (sh:=sh) (tt:=tt) h (by omega) (by omega) ⟨h0,by omega⟩
    obtain ⟨o2,pl2,la2,m2,t2,c2,i2,b3,b4⟩:=raced_loop hn k (i+1) o1 pl1 la1 m1 t1 i1 (by omega) (by omega) (by omega)
    rw [show i+1+k=i+(k+1) by omega] at c2 i2
    exact ⟨o2,pl2,la2,m2,t2,.step c1 c2,i2,by omega,by omega⟩
theorem raced_ex(n:Int)(sh:Bool)(l:List Int)(nx st:Int)(h:0≤nx∧nx≤1000000)(hn:0≤n∧n≤15):∃ r:List Int × Int × Int,FMM Tryz.prog 67 [.ptr 0 0,.p (intP n),.p (blP sh)] [some (deckO l nx st)] (.own 1) [some (deckO l r.2.1 r.2.2),some (.row 3 r.1.length (r.1.map intP))]∧KL.RaceOK n.toNat r.1∧nx≤r.2.1∧r.2.1≤nx+100:=by
  obtain ⟨hp,b1,b2⟩:=shufM_perm n l nx st
  have hl:(shufM n l nx st).1.length=n.toNat:=by rw [hp.length_eq];simp [upL]
  obtain ⟨o,pl,la,mx,tt,hL,hI,b3,b4⟩:=raced_loop (sh:=sh) (l:=l) (nx:=nx) (st:=st) (n:=n) (by omega) n.toNat 0 (List.replicate n.toNat 0) 1 [] (shufM n l nx st).2.1 (shufM n l nx st).2.2 KL.RInv.start (by omega) (by omega) (by omega)
  refine ⟨(o,mx,tt),raced_p0 (by omega) h (by omega) (i'0:=n.toNat) (pl'2:=pl) (la'3:=la) (o'1:=o) (mx'4:=mx) (tt'5:=tt) ?_,hI.race (by omega),by dsimp only;omega,by dsimp only;omega⟩
  rw [List.length_replicate,List.map_replicate,Nat.zero_add] at hL
  exact hL
open Classical in
noncomputable def racedM(n:Int)(sh:Bool)(l:List Int)(nx st:Int):List Int × Int × Int:=if h:(0≤nx∧nx≤1000000)∧0≤n∧n≤15 then Classical.choose (raced_ex n sh l nx st h.1 h.2) else ([],nx,st)
theorem racedM_spec(n:Int)(sh:Bool)(l:List Int)(nx st:Int)(h:0≤nx∧nx≤1000000)(hn:0≤n∧n≤15):FMM Tryz.prog 67 [.ptr 0 0,.p (intP n),.p (blP sh)] [some (deckO l nx st)] (.own 1) [some (deckO l (racedM n sh l nx st).2.1 (racedM n sh l nx st).2.2),some (.row 3 (racedM n sh l nx st).1.length ((racedM n sh l nx st).1.map intP))]∧KL.RaceOK n.toNat (racedM n sh l nx st).1∧nx≤(racedM n sh l nx st).2.1∧(racedM n sh l nx st).2.1≤nx+100:=by
  unfold racedM
  rw [dif_pos ⟨h,hn⟩]
  exact Classical.choose_spec (raced_ex n sh l nx st h hn)
theorem raced_ok(n:Int)(sh:Bool)(l:List Int)(nx st:Int)(h:0≤nx∧nx≤1000000)(hn:0≤n∧n≤15):FMM Tryz.prog 67 [.ptr 0 0,.p (intP n),.p (blP sh)] [some (deckO l nx st)] (.own 1) [some (deckO l (racedM n sh l nx st).2.1 (racedM n sh l nx st).2.2),some (.row 3 (racedM n sh l nx st).1.length ((racedM n sh l nx st).1.map intP))]:=(racedM_spec n sh l nx st h hn).1
end
end KV
end Go.Proofs
