/- Parts of the proof of JBounded: laws of walks, contracts of functions, plain models. No condition. -/
import Derived.Test.YtgehgmllhmfbpaaGreatPJBoundedE
set_option linter.unusedVariables false
set_option linter.unusedSimpArgs false
section
namespace Go.Proofs
namespace KV
set_option maxRecDepth 100000
set_option linter.unusedVariables false
open KL
def lft_S0 (c : KL.Cup) (l : List Int) (j : Nat) (dnn : Nat) (dnc : List PV) (mx : Int) (tt : Int) : St := ⟨fr 23 [(0, (.ptr 0 0)), (3, (.ptr 1 0)), (4, (.p nilS)), (5, (.own 2)), (11, (.p (intP (c.ra - ((c.done.length : Nat) : Int))))), (12, (.p (intP (j : Int))))], [some (deckO l mx tt), some (.box 25 [(.p (intP c.sk)), (.p (intP c.ra)), (.p (intP c.be)), (.p (intsP c.pts)), (.p (rowsP c.done))]), some (.row 22 dnn dnc)]⟩
theorem lft_p0 {c : KL.Cup} {l : List Int} {nx st : Int} {j'0 : Nat} {dn'1 : List (List Int)} {mx'2 tt'3 : Int} (h0 : inR (c.ra - ((c.done.length : Nat) : Int))) (hl1 : LoopOK Tryz.prog 1 (sub (cd Tryz.f66) [1, 1, 0, 1, 0, 0]) (lft_S0 c l 0 0 [] nx st) (.exit 0) (lft_S0 c l j'0 dn'1.length (dn'1.map intsP) mx'2 tt'3)) : FMM Tryz.prog 66 [(.ptr 0 0), (.p (cupP c))] [some (deckO l nx st)] (.p (rowsP dn'1)) [some (deckO l mx'2 tt'3)] := by
  exact FMM.fin (k := 1) (g := ⟨[], [], [2], []⟩) rfl Tryz.func66 rfl (o := [.k 8 ⟨(rng [(1, 2), (6, 5), (13, 9)]), [1, 2], [], [(5, 22)]⟩ (.exit 0) (lft_S0 c l j'0 dn'1.length (dn'1.map intsP) mx'2 tt'3)]) (l := [_, _]) (by kernel_rfl) (Good.c hl1.code (Good.c h0 Good.n))
theorem lft_L0_p0 {c : KL.Cup} {l : List Int} {j : Nat} {dn : List (List Int)} {mx tt : Int} {r100 : List Int} {m101 t102 : Int} {j' : Nat} {dn' : List (List Int)} (h0 : (j : Int) < (c.ra - ((c.done.length : Nat) : Int))) (h1 : 0 ≤ mx ∧ mx ≤ 1000000) (h2 : 0 ≤ c.sk ∧ c.sk ≤ 15) (h3 : racedM c.sk false l mx tt = (r100, m101, t102)) (h4 : [(intsP r100)].length = 1 * 1 ∧ dn.length + 1 ≤ 1000000) (h5 : inR (((j + 1) : Nat) : Int)) (ej' : j' = (j + 1)) (edn'n : dn'.length = (dn.length + 1)) (edn'c : dn'.map intsP = ((dn.map intsP) ++ [(intsP r100)])) : CodeOK Tryz.prog 1 (sub (cd Tryz.f66) [1, 1, 0, 1, 0, 0]) (lft_S0 c l j dn.length (dn.map intsP) mx tt) .normal (lft_S0 c l j' dn'.length (dn'.map intsP) m101 t102) := by
  subst ej'
  have raw : CodeOK Tryz.prog 1 (sub (cd Tryz.f66) [1, 1, 0, 1, 0, 0]) (lft_S0 c l j dn.length (dn.map intsP) mx tt) .normal (lft_S0 c l (j + 1) (dn.length + 1) ((dn.map intsP) ++ [(intsP r100)]) m101 t102) := CodeOK.fin (g := ⟨(rng [(1, 2), (6, 5), (13, 9)]), [1, 5], [], []⟩) (o := [.b true, .c (.own 3) [(0, (deckO l m101 t102)), (3, (.row 3 r100.length (r100.map intP)))]]) (l := [_, _, FC Tryz.prog 67 [(.ptr 0 0), (.p (intP c.sk)), (.kb false)] [(0, (deckO l mx tt))] 3 (.own 3) [(0, (deckO l m101 t102)), (3, (.row 3 r100.length (r100.map intP)))], _]) (by kernel_rfl) (Good.c h5 (Good.c h4 (Good.c (FMM.fc (ids := [0]) (raced_eq c.sk false l mx tt h1 h2 h3) (by kernel_rfl)) (Good.c (q_lt h0) Good.n))))
  exact raw.cast (by rw [edn'n, edn'c])
theorem lft_L0_p1 {c : KL.Cup} {l : List Int} {j : Nat} {dn : List (List Int)} {mx tt : Int} (h0 : (c.ra - ((c.done.length : Nat) : Int)) ≤ (j : Int)) : CodeOK Tryz.prog 1 (sub (cd Tryz.f66) [1, 1, 0, 1, 0, 0]) (lft_S0 c l j dn.length (dn.map intsP) mx tt) (.exit 0) (lft_S0 c l j dn.length (dn.map intsP) mx tt) := by
  exact CodeOK.fin (g := ⟨(rng [(1, 2), (6, 5), (13, 9)]), [1, 2], [], []⟩) (o := [.b false]) (l := [_]) (by kernel_rfl) (Good.c (q_ltF h0) Good.n)
theorem lft_dn {c : KL.Cup} {l : List Int} (hV : KL.Valid c) : ∀ (k j : Nat) (dn : List (List Int)) (mx tt : Int), (j : Int) + k = c.ra - c.done.length → dn.length = j → (∀ r ∈ dn, KL.RaceOK c.sk.toNat r) → 0 ≤ mx → mx + 100 * k ≤ 900000 →
    ∃ (dn' : List (List Int)) (mx' tt' : Int), LoopOK Tryz.prog 1 (sub (cd Tryz.f66) [1, 1, 0, 1, 0, 0]) (lft_S0 c l j dn.length (dn.map intsP) mx tt) (.exit 0) (lft_S0 c l (j + k) dn'.length (dn'.map intsP) mx' tt') ∧ dn'.length = j + k ∧ (∀ r ∈ dn', KL.RaceOK c.sk.toNat r) ∧ mx ≤ mx' ∧ mx' ≤ mx + 100 * k
  | 0, j, dn, mx, tt, hk, hl, h, h0, h1 => ⟨dn, mx, tt, .exit (lft_L0_p1 (by omega)) (by simp), hl, h, by omega, by omega⟩
  | k + 1, j, dn, mx, tt, hk, hl, h, h0, h1 => by
    have s1 := hV.sk1
    have s2 := hV.sk2
    have r2 := hV.ra2
    obtain ⟨_, q1, q2, q3⟩ := racedM_spec c.sk false l mx tt ⟨h0, by omega⟩ (by omega)
    have c1 := lft_L0_p0 (c := c) (l := l) (j := j) (dn := dn) (mx := mx) (tt := tt) (dn' := dn ++ [(racedM c.sk false l mx tt).1]) (by omega) ⟨h0, by omega⟩ (by omega) (show racedM c.sk false l mx tt = ((racedM c.sk false l mx tt).1, (racedM c.sk false l mx tt).2.1, (racedM c.sk false l mx tt).2.2) from rfl) (by simp; omega) (inR_nat (by omega)) rfl (by simp) (by simp)
    obtain ⟨dn2, m2, t2, c2, l2, i2, b1, b2⟩ := lft_dn hV k (j + 1) (dn ++ [(racedM c.sk false l mx tt).1]) (racedM c.sk false l mx tt).2.1 (racedM c.sk false l mx tt).2.2 (by omega) (by simp; omega) (fun r hr => by
      rcases List.mem_append.1 hr with hr | hr
      · exact h r hr
      · simp at hr; rw [hr]; exact q1) (by omega) (by omega)
    rw [show j + 1 + k = j + (k + 1) by omega] at c2 l2
    exact ⟨dn2, m2, t2, .step c1 c2, l2, i2, by omega, by omega⟩
structure LeftOK (c : KL.Cup) (nx : Int) (r : List (List Int) × Int × Int) : Prop where
  len : (r.1.length : Int) = c.ra - c.done.length
  ok : ∀ x ∈ r.1, KL.RaceOK c.sk.toNat x
  n1 : nx ≤ r.2.1
  n2 : r.2.1 ≤ nx + 2000
theorem left_ex (c : KL.Cup) (l : List Int) (nx st : Int) (hV : KL.Valid c) (h : 0 ≤ nx ∧ nx ≤ 100000) : ∃ r : List (List Int) × Int × Int, FMM Tryz.prog 66 [.ptr 0 0, .p (cupP c)] [some (deckO l nx st)] (.p (rowsP r.1)) [some (deckO l r.2.1 r.2.2)] ∧ LeftOK c nx r := by
  have r2 := hV.ra2
  have d1 := hV.dn
  obtain ⟨dn, mx, tt, L, l2, i2, b1, b2⟩ := lft_dn (l := l) hV (c.ra - c.done.length).toNat 0 [] nx st (by omega) rfl (by simp) (by omega) (by omega)
  exact ⟨(dn, mx, tt), lft_p0 (by unfold inR; omega) L, ⟨by dsimp only; omega, i2, b1, by dsimp only; omega⟩⟩
open Classical in
noncomputable def leftM (c : KL.Cup) (l : List Int) (nx st : Int) : List (List Int) × Int × Int := if h : KL.Valid c ∧ 0 ≤ nx ∧ nx ≤ 100000 then Classical.choose (left_ex c l nx st h.1 h.2) else ([], nx, st)
theorem leftM_spec (c : KL.Cup) (l : List Int) (nx st : Int) (hV : KL.Valid c) (h : 0 ≤ nx ∧ nx ≤ 100000) : FMM Tryz.prog 66 [.ptr 0 0, .p (cupP c)] [some (deckO l nx st)] (.p (rowsP (leftM c l nx st).1)) [some (deckO l (leftM c l nx st).2.1 (leftM c l nx st).2.2)] ∧ LeftOK c nx (leftM c l nx st) := by
  unfold leftM
  rw [dif_pos ⟨hV, h⟩]
  exact Classical.choose_spec (left_ex c l nx st hV h)
theorem left_eq {r : List (List Int)} {nx' st' : Int} (c : KL.Cup) (l : List Int) (nx st : Int) (hV : KL.Valid c) (h : 0 ≤ nx ∧ nx ≤ 100000) (e : leftM c l nx st = (r, nx', st')) : FMM Tryz.prog 66 [.ptr 0 0, .p (cupP c)] [some (deckO l nx st)] (.p (rowsP r)) [some (deckO l nx' st')] := by
  have := (leftM_spec c l nx st hV h).1
  rw [e] at this
  exact this
def mostM (c : KL.Cup) (n : Nat) : List Int := (List.range n).map fun s => KL.totalM (KL.withC c (KL.wonM c s)) s
theorem most_ok (c : KL.Cup) (hV : KL.Valid c) {base : Nat} : FV Tryz.prog 65 [.p (cupP c)] base (.tup [.own base, .p (intP 0)]) [(base, .row 3 (mostM c c.sk.toNat).length ((mostM c c.sk.toNat).map intP))] := by
  have s1 := hV.sk1
  have s2 := hV.sk2
  have p2 := hV.pt2
  have h := LoopOK.count (P := Tryz.prog) (k := 0) (b := (sub (cd Tryz.f65) [1, 1, 1, 1, 0, 1, 0, 0])) (e := .exit 0) (R := most_S0 c c.sk.toNat (mostM c c.sk.toNat).length ((mostM c c.sk.toNat).map intP)) c.sk.toNat (fun i => most_S0 c i (mostM c i).length ((mostM c i).map intP))
    (fun i hi => by
      have hs : ((i : Nat) : Int) < c.sk := by omega
      have hW := KL.valid_won hV hs
      have hS := hW.small
      exact most_L0_p0 (o := mostM c i) (o' := mostM c (i + 1)) hs hV hs (by omega) (by have := hS.done; rwa [show (KL.withC c (KL.wonM c i)).done = c.done ++ KL.wonM c i from rfl, List.length_append] at this) hS.rows hW hs (by simp [mostM]; omega) (inR_nat (by omega)) rfl (by simp [mostM]) (by unfold mostM; rw [List.range_succ, List.map_append, List.map_append]; rfl))
    (most_L0_p1 (by omega)) (by simp)
  exact most_p1 hV.small ((KL.valid_iff c).2 hV) h
def bnd_S0 (g : List Int) (c0 : KL.Cup) (i : Nat) (mx : Int) (tt : Int) : St := ⟨fr 191 [(5, (.ptr 0 0)), (6, (.ptr 1 0)), (7, (.p (intsP (KL.totalsM c0)))), (8, (.p (intP 0))), (9, (.own 2)), (10, (.p (intP 0))), (71, (.p (intP (i : Int))))], [some (.box 25 [(.p (intP c0.sk)), (.p (intP c0.ra)), (.p (intP c0.be)), (.p (intsP c0.pts)), (.p (rowsP c0.done))]), some (deckO g mx tt), some (.row 3 ((mostM c0 c0.sk.toNat).length) ((mostM c0 c0.sk.toNat).map intP))]⟩
def bnd_S2 (c0 : KL.Cup) (r6 : Int) (j : Nat) (wnn : Nat) (wnc : List PV) : St := ⟨fr 191 [(5, (.ptr 0 0)), (8, (.p (intP 0))), (9, (.own 1)), (10, (.p (intP 0))), (17, (.p (intP r6))), (18, (.own 2)), (139, (.p (intP (c0.ra - ((c0.done.length : Nat) : Int))))), (140, (.p (intP (j : Int))))], [some (.box 25 [(.p (intP c0.sk)), (.p (intP c0.ra)), (.p (intP c0.be)), (.p (intsP c0.pts)), (.p (rowsP c0.done))]), some (.row 3 ((mostM c0 c0.sk.toNat).length) ((mostM c0 c0.sk.toNat).map intP)), some (.row 22 wnn wnc)]⟩
theorem bnd_p4 {l g : List Int} {c0 : KL.Cup} {m1 t2 : Int} {i'3 : Nat} {mx'4 tt'5 r6 m7 t8 : Int} {j'9 : Nat} {wn'10 : List (List Int)} {x11 x12 : Int} (h0 : 0 ≤ (0 : Int) ∧ (0 : Int) ≤ 100000) (h1 : 2 ≤ (8 : Int) ∧ (8 : Int) ≤ 12) (h2 : 1 ≤ (10 : Int) ∧ (10 : Int) ≤ 20) (h3 : madeM (8 : Int) (10 : Int) l (0 : Int) (17 : Int) = (c0, m1, t2)) (h4 : KL.Valid c0) (h5 : 0 = (0 : Int)) (h6 : (((KL.totalsM c0).length : Nat) : Int) = c0.sk) (h7 : (((mostM c0 c0.sk.toNat).length : Nat) : Int) = c0.sk) (h8 : ((c0.done.length : Nat) : Int) = c0.ra) (h9 : (KL.totalsM c0).length ≤ 100000) (h10 : (decide ((KL.totalsM c0) = (mostM c0 c0.sk.toNat))) = true) (hl11 : LoopOK Tryz.prog 0 (sub (cd Tryz.f11) [1, 1, 1, 1, 1, 1, 0, 1, 0, 0]) (bnd_S0 g c0 0 (0 : Int) (17 : Int)) (.exit 0) (bnd_S0 g c0 i'3 mx'4 tt'5)) (h12 : 0 ≤ mx'4 ∧ mx'4 ≤ 1000000000) (h13 : drawM c0.sk g mx'4 tt'5 = (r6, m7, t8)) (h14 : inR (c0.ra - ((c0.done.length : Nat) : Int))) (hl15 : LoopOK Tryz.prog 0 (sub (cd Tryz.f11) [1, 1, 1, 1, 1, 1, 1, 1, 1, 0, 1, 0, 0]) (bnd_S2 c0 r6 0 0 []) (.exit 4) (bnd_S2 c0 r6 j'9 wn'10.length (wn'10.map intsP))) (h16 : wn'10.length ≤ 20) (h17 : KL.Valid (KL.withC c0 wn'10)) (h18 : (((KL.totalsM (KL.withC c0 wn'10)).length : Nat) : Int) = c0.sk) (h19 : (KL.totalsM (KL.withC c0 wn'10))[r6.toNat]? = some x11) (h20 : 0 ≤ r6) (h21 : (mostM c0 c0.sk.toNat)[r6.toNat]? = some x12) (h22 : x11 = x12) {base : Nat} : FV Tryz.prog 11 [(.p (.sl l.length (l.map byteP))), (.p (.sl g.length (g.map byteP)))] base (.p (blP true)) [] := by
  exact FV.fin Tryz.func11 rfl (o := [.c (.ptr 0 0) [(0, (deckO l 0 (17 : Int)))], .c (.p (cupP c0)) [(0, (deckO l m1 t2))], .c (.ptr 2 0) [(2, (deckO g 0 (17 : Int)))], .c (.tup [(.p (intsP (KL.totalsM c0))), (.p (intP 0))]) [], .c (.tup [(.own 3), (.p (intP 0))]) [(3, (.row 3 ((mostM c0 c0.sk.toNat).length) ((mostM c0 c0.sk.toNat).map intP)))], .b false, .b false, .b false, .b false, .b false, .b false, .b false, .b false, .b false, .b false, .b false, .b false, .b false, .b false, .b false, .b false, .b false, .b false, .b false, .b false, .b false, .b false, .b true, .b true, .b true, .c (.p (blP (decide ((KL.totalsM c0) = (mostM c0 c0.sk.toNat))))) [], .b true, .b false, .b true, .b false, .b false, .k 4 ⟨(rng [(0, 5), (11, 6), (22, 49), (72, 58)]), [1, 2, 3], [], []⟩ (.exit 0) (bnd_S0 g c0 i'3 mx'4 tt'5), .c (.p (intP r6)) [(1, (deckO g m7 t8))], .k 6 ⟨(rng [(0, 4), (6, 2), (11, 6), (19, 1), (22, 117), (141, 12)]), [0, 2, 3], [], [(18, 22)]⟩ (.exit 4) (bnd_S2 c0 r6 j'9 wn'10.length (wn'10.map intsP)), .c (.tup [(.p (.agg [(intP ((KL.withC c0 wn'10).sk)), (intP ((KL.withC c0 wn'10).ra)), (intP ((KL.withC c0 wn'10).be)), (intsP ((KL.withC c0 wn'10).pts)), (rowsP ((KL.withC c0 wn'10).done))])), (.p (intP 0))]) [(2, .dead)], .c (.tup [(.p (intsP (KL.totalsM (KL.withC c0 wn'10)))), (.p (intP 0))]) [], .b true, .b true, .b true, .b true, .b true, .b true, .b true, .b true, .b true, .b true, .b true, .b true, .b true, .x (intP x11), .b true, .b true, .b true, .b true, .x (intP x12), .b true, .b true, .b true, .c (.p (blP true)) [], .b true]) (l := [_, FC Tryz.prog 19 [] [] 5 (.p (blP true)) [], _, _, _, ((mostM c0 c0.sk.toNat).map intP)[(r6.toNat * 1)]? = some (intP x12), _, _, _, _, _, ((KL.totalsM (KL.withC c0 wn'10)).map intP)[(r6.toNat * 1)]? = some (intP x11), _, 0 ≤ r6 ∧ r6 < (((KL.totalsM (KL.withC c0 wn'10)).length : Nat) : Int) ∧ (r6.toNat * 1) < ((KL.totalsM (KL.withC c0 wn'10)).map intP).length, _, _, _, _, _, _, _, _, _, _, _, _, FC Tryz.prog 30 [(.p (.agg [(intP ((KL.withC c0 wn'10).sk)), (intP ((KL.withC c0 wn'10).ra)), (intP ((KL.withC c0 wn'10).be)), (intsP ((KL.withC c0 wn'10).pts)), (rowsP ((KL.withC c0 wn'10).done))]))] [] 4 (.tup [(.p (intsP (KL.totalsM (KL.withC c0 wn'10)))), (.p (intP 0))]) [], FC Tryz.prog 44 [(.p (cupP c0)), (.own 2)] [(2, (.row 22 wn'10.length (wn'10.map intsP)))] 3 (.tup [(.p (.agg [(intP ((KL.withC c0 wn'10).sk)), (intP ((KL.withC c0 wn'10).ra)), (intP ((KL.withC c0 wn'10).be)), (intsP ((KL.withC c0 wn'10).pts)), (rowsP ((KL.withC c0 wn'10).done))])), (.p (intP 0))]) [(2, .dead)], _, _, FC Tryz.prog 28 [(.ptr 1 0), (.p (intP c0.sk))] [(1, (deckO g mx'4 tt'5))] 3 (.p (intP r6)) [(1, (deckO g m7 t8))], _, _, _, _, _, _, FC Tryz.prog 25 [(.p (intsP (KL.totalsM c0))), (.own 3)] [(3, (.row 3 ((mostM c0 c0.sk.toNat).length) ((mostM c0 c0.sk.toNat).map intP)))] 4 (.p (blP (decide ((KL.totalsM c0) = (mostM c0 c0.sk.toNat))))) [], _, _, _, _, _, _, _, _, _, _, _, _, _, _, _, _, _, _, _, _, _, _, _, _, _, FC Tryz.prog 65 [(.p (cupP c0))] [] 3 (.tup [(.own 3), (.p (intP 0))]) [(3, (.row 3 ((mostM c0 c0.sk.toNat).length) ((mostM c0 c0.sk.toNat).map intP)))], FC Tryz.prog 30 [(.p (cupP c0))] [] 3 (.tup [(.p (intsP (KL.totalsM c0))), (.p (intP 0))]) [], FC Tryz.prog 27 [(.p (.sl g.length (g.map byteP)))] [] 2 (.ptr 2 0) [(2, (deckO g 0 (17 : Int)))], FC Tryz.prog 26 [(.ptr 0 0), (.p (intP 8)), (.p (intP 10))] [(0, (deckO l 0 (17 : Int)))] 1 (.p (cupP c0)) [(0, (deckO l m1 t2))], FC Tryz.prog 27 [(.p (.sl l.length (l.map byteP)))] [] 0 (.ptr 0 0) [(0, (deckO l 0 (17 : Int)))]]) (by kernel_rfl) (Good.c (q_eq h22) (Good.c (FV.fc (awake_ok _) (by kernel_rfl)) (Good.c (q_eq h22) (Good.c (q_eq h18) (Good.c (q_eq h18) (Good.c (at_map (i := r6.toNat) h21) (Good.c (q_eq h18) (Good.c (ix_own (i := r6) h20 h21) (Good.c (q_eq h18) (Good.c (q_eq h18) (Good.c (q_eq h18) (Good.c (at_map (i := r6.toNat) h19) (Good.c (q_eq h18) (Good.c (ix_map (i := r6) h20 h19) (Good.c (q_eq h18) (Good.c (q_eq h18) (Good.c (q_eq h18) (Good.c (q_eq h5) (Good.c (q_eq h5) (Good.c (q_eq h5) (Good.c (q_eq h5) (Good.c (q_eq h5) (Good.c (q_eq h5) (Good.c (q_eq h5) (Good.c (q_eq h5) (Good.c (q_eq h5) (Good.c (FV.fc (totals2_ok (KL.withC c0 wn'10) h17) (by kernel_rfl)) (Good.c (FV.close (ids := [2]) (args' := [(.p (cupP c0)), (.p (rowsP wn'10))]) (after_ok c0 wn'10 h4 h16 h17) (by kernel_rfl)) (Good.c hl15.code (Good.c h14 (Good.c (FMM.fc (ids := [1]) (draw_eq c0.sk g mx'4 tt'5 h12 h13) (by kernel_rfl)) (Good.c hl11.code (Good.c (q_notF h10) (Good.c (q_neF h7) (Good.c (q_eq h8) (Good.c (q_neF h7) (Good.c (q_eq h8) (Good.c (FV.view (args' := [(.p (intsP (KL.totalsM c0))), (.p (intsP (mostM c0 c0.sk.toNat)))]) (eqi_ok (KL.totalsM c0) (mostM c0 c0.sk.toNat) h9) (by kernel_rfl) (by kernel_rfl) (by kernel_rfl)) (Good.c (q_eq h8) (Good.c (q_eq h8) (Good.c (q_eq h8) (Good.c (q_neF h7) (Good.c (q_neF h7) (Good.c (q_neF h7) (Good.c (q_neF h7) (Good.c (q_neF h7) (Good.c (q_neF h7) (Good.c (q_neF h7) (Good.c (q_neF h6) (Good.c (q_neF h6) (Good.c (q_neF h6) (Good.c (q_neF h6) (Good.c (q_neF h6) (Good.c (q_neF h6) (Good.c (q_neF h5) (Good.c (q_neF h5) (Good.c (q_neF h5) (Good.c (q_neF h5) (Good.c (q_neF h5) (Good.c (q_neF h5) (Good.c (q_neF h5) (Good.c (q_neF h5) (Good.c (q_neF h5) (Good.c (FV.fc (most_ok c0 h4) (by kernel_rfl)) (Good.c (FV.fc (totals2_ok c0 h4) (by kernel_rfl)) (Good.c (FMM.fc (ids := []) (of_ok g) (by kernel_rfl)) (Good.c (FMM.fc (ids := [0]) (made_eq (8 : Int) (10 : Int) l (0 : Int) (17 : Int) h0 h1 h2 h3) (by kernel_rfl)) (Good.c (FMM.fc (ids := []) (of_ok l) (by kernel_rfl)) Good.n))))))))))))))))))))))))))))))))))))))))))))))))))))))))))))))))))))
theorem bnd_p8 {l g : List Int} {c0 : KL.Cup} {m1 t2 : Int} {i'3 : Nat} {mx'4 tt'5 r6 m7 t8 : Int} {j'9 : Nat} {wn'10 : List (List Int)} {x11 x12 : Int} (h0 : 0 ≤ (0 : Int) ∧ (0 : Int) ≤ 100000) (h1 : 2 ≤ (8 : Int) ∧ (8 : Int) ≤ 12) (h2 : 1 ≤ (10 : Int) ∧ (10 : Int) ≤ 20) (h3 : madeM (8 : Int) (10 : Int) l (0 : Int) (17 : Int) = (c0, m1, t2)) (h4 : KL.Valid c0) (h5 : 0 = (0 : Int)) (h6 : (((KL.totalsM c0).length : Nat) : Int) = c0.sk) (h7 : (((mostM c0 c0.sk.toNat).length : Nat) : Int) = c0.sk) (h8 : ((c0.done.length : Nat) : Int) ≠ c0.ra) (hl9 : LoopOK Tryz.prog 0 (sub (cd Tryz.f11) [1, 1, 1, 1, 1, 1, 0, 1, 0, 0]) (bnd_S0 g c0 0 (0 : Int) (17 : Int)) (.exit 0) (bnd_S0 g c0 i'3 mx'4 tt'5)) (h10 : 0 ≤ mx'4 ∧ mx'4 ≤ 1000000000) (h11 : drawM c0.sk g mx'4 tt'5 = (r6, m7, t8)) (h12 : inR (c0.ra - ((c0.done.length : Nat) : Int))) (hl13 : LoopOK Tryz.prog 0 (sub (cd Tryz.f11) [1, 1, 1, 1, 1, 1, 1, 1, 1, 0, 1, 0, 0]) (bnd_S2 c0 r6 0 0 []) (.exit 4) (bnd_S2 c0 r6 j'9 wn'10.length (wn'10.map intsP))) (h14 : wn'10.length ≤ 20) (h15 : KL.Valid (KL.withC c0 wn'10)) (h16 : (((KL.totalsM (KL.withC c0 wn'10)).length : Nat) : Int) = c0.sk) (h17 : (KL.totalsM (KL.withC c0 wn'10))[r6.toNat]? = some x11) (h18 : 0 ≤ r6) (h19 : (mostM c0 c0.sk.toNat)[r6.toNat]? = some x12) (h20 : x11 = x12) {base : Nat} : FV Tryz.prog 11 [(.p (.sl l.length (l.map byteP))), (.p (.sl g.length (g.map byteP)))] base (.p (blP true)) [] := by
  exact FV.fin Tryz.func11 rfl (o := [.c (.ptr 0 0) [(0, (deckO l 0 (17 : Int)))], .c (.p (cupP c0)) [(0, (deckO l m1 t2))], .c (.ptr 2 0) [(2, (deckO g 0 (17 : Int)))], .c (.tup [(.p (intsP (KL.totalsM c0))), (.p (intP 0))]) [], .c (.tup [(.own 3), (.p (intP 0))]) [(3, (.row 3 ((mostM c0 c0.sk.toNat).length) ((mostM c0 c0.sk.toNat).map intP)))], .b false, .b false, .b false, .b false, .b false, .b false, .b false, .b false, .b false, .b false, .b false, .b false, .b false, .b false, .b false, .b false, .b false, .b false, .b false, .b false, .b false, .b false, .b false, .b false, .b false, .b false, .b false, .b false, .b false, .k 5 ⟨(rng [(0, 5), (11, 6), (22, 49), (72, 58)]), [1, 2, 3], [], []⟩ (.exit 0) (bnd_S0 g c0 i'3 mx'4 tt'5), .c (.p (intP r6)) [(1, (deckO g m7 t8))], .k 6 ⟨(rng [(0, 4), (6, 2), (11, 6), (19, 1), (22, 117), (141, 12)]), [0, 2, 3], [], [(18, 22)]⟩ (.exit 4) (bnd_S2 c0 r6 j'9 wn'10.length (wn'10.map intsP)), .c (.tup [(.p (.agg [(intP ((KL.withC c0 wn'10).sk)), (intP ((KL.withC c0 wn'10).ra)), (intP ((KL.withC c0 wn'10).be)), (intsP ((KL.withC c0 wn'10).pts)), (rowsP ((KL.withC c0 wn'10).done))])), (.p (intP 0))]) [(2, .dead)], .c (.tup [(.p (intsP (KL.totalsM (KL.withC c0 wn'10)))), (.p (intP 0))]) [], .b true, .b true, .b true, .b true, .b true, .b true, .b true, .b true, .b true, .b true, .b true, .b true, .b true, .x (intP x11), .b true, .b true, .b true, .b true, .x (intP x12), .b true, .b true, .b true, .c (.p (blP true)) [], .b true]) (l := [_, FC Tryz.prog 19 [] [] 5 (.p (blP true)) [], _, _, _, ((mostM c0 c0.sk.toNat).map intP)[(r6.toNat * 1)]? = some (intP x12), _, _, _, _, _, ((KL.totalsM (KL.withC c0 wn'10)).map intP)[(r6.toNat * 1)]? = some (intP x11), _, 0 ≤ r6 ∧ r6 < (((KL.totalsM (KL.withC c0 wn'10)).length : Nat) : Int) ∧ (r6.toNat * 1) < ((KL.totalsM (KL.withC c0 wn'10)).map intP).length, _, _, _, _, _, _, _, _, _, _, _, _, FC Tryz.prog 30 [(.p (.agg [(intP ((KL.withC c0 wn'10).sk)), (intP ((KL.withC c0 wn'10).ra)), (intP ((KL.withC c0 wn'10).be)), (intsP ((KL.withC c0 wn'10).pts)), (rowsP ((KL.withC c0 wn'10).done))]))] [] 4 (.tup [(.p (intsP (KL.totalsM (KL.withC c0 wn'10)))), (.p (intP 0))]) [], FC Tryz.prog 44 [(.p (cupP c0)), (.own 2)] [(2, (.row 22 wn'10.length (wn'10.map intsP)))] 3 (.tup [(.p (.agg [(intP ((KL.withC c0 wn'10).sk)), (intP ((KL.withC c0 wn'10).ra)), (intP ((KL.withC c0 wn'10).be)), (intsP ((KL.withC c0 wn'10).pts)), (rowsP ((KL.withC c0 wn'10).done))])), (.p (intP 0))]) [(2, .dead)], _, _, FC Tryz.prog 28 [(.ptr 1 0), (.p (intP c0.sk))] [(1, (deckO g mx'4 tt'5))] 3 (.p (intP r6)) [(1, (deckO g m7 t8))], _, _, _, _, _, _, _, _, _, _, _, _, _, _, _, _, _, _, _, _, _, _, _, _, _, _, _, _, _, _, FC Tryz.prog 65 [(.p (cupP c0))] [] 3 (.tup [(.own 3), (.p (intP 0))]) [(3, (.row 3 ((mostM c0 c0.sk.toNat).length) ((mostM c0 c0.sk.toNat).map intP)))], FC Tryz.prog 30 [(.p (cupP c0))] [] 3 (.tup [(.p (intsP (KL.totalsM c0))), (.p (intP 0))]) [], FC Tryz.prog 27 [(.p (.sl g.length (g.map byteP)))] [] 2 (.ptr 2 0) [(2, (deckO g 0 (17 : Int)))], FC Tryz.prog 26 [(.ptr 0 0), (.p (intP 8)), (.p (intP 10))] [(0, (deckO l 0 (17 : Int)))] 1 (.p (cupP c0)) [(0, (deckO l m1 t2))], FC Tryz.prog 27 [(.p (.sl l.length (l.map byteP)))] [] 0 (.ptr 0 0) [(0, (deckO l 0 (17 : Int)))]]) (by kernel_rfl) (Good.c (q_eq h20) (Good.c (FV.fc (awake_ok _) (by kernel_rfl)) (Good.c (q_eq h20) (Good.c (q_eq h16) (Good.c (q_eq h16) (Good.c (at_map (i := r6.toNat) h19) (Good.c (q_eq h16) (Good.c (ix_own (i := r6) h18 h19) (Good.c (q_eq h16) (Good.c (q_eq h16) (Good.c (q_eq h16) (Good.c (at_map (i := r6.toNat) h17) (Good.c (q_eq h16) (Good.c (ix_map (i := r6) h18 h17) (Good.c (q_eq h16) (Good.c (q_eq h16) (Good.c (q_eq h16) (Good.c (q_eq h5) (Good.c (q_eq h5) (Good.c (q_eq h5) (Good.c (q_eq h5) (Good.c (q_eq h5) (Good.c (q_eq h5) (Good.c (q_eq h5) (Good.c (q_eq h5) (Good.c (q_eq h5) (Good.c (FV.fc (totals2_ok (KL.withC c0 wn'10) h15) (by kernel_rfl)) (Good.c (FV.close (ids := [2]) (args' := [(.p (cupP c0)), (.p (rowsP wn'10))]) (after_ok c0 wn'10 h4 h14 h15) (by kernel_rfl)) (Good.c hl13.code (Good.c h12 (Good.c (FMM.fc (ids := [1]) (draw_eq c0.sk g mx'4 tt'5 h10 h11) (by kernel_rfl)) (Good.c hl9.code (Good.c (q_neF h7) (Good.c (q_ne h8) (Good.c (q_neF h7) (Good.c (q_ne h8) (Good.c (q_ne h8) (Good.c (q_ne h8) (Good.c (q_ne h8) (Good.c (q_neF h7) (Good.c (q_neF h7) (Good.c (q_neF h7) (Good.c (q_neF h7) (Good.c (q_neF h7) (Good.c (q_neF h7) (Good.c (q_neF h7) (Good.c (q_neF h6) (Good.c (q_neF h6) (Good.c (q_neF h6) (Good.c (q_neF h6) (Good.c (q_neF h6) (Good.c (q_neF h6) (Good.c (q_neF h5) (Good.c (q_neF h5) (Good.c (q_neF h5) (Good.c (q_neF h5) (Good.c (q_neF h5) (Good.c (q_neF h5) (Good.c (q_neF h5) (Good.c (q_neF h5) (Good.c (q_neF h5) (Good.c (FV.fc (most_ok c0 h4) (by kernel_rfl)) (Good.c (FV.fc (totals2_ok c0 h4) (by kernel_rfl)) (Good.c (FMM.fc (ids := []) (of_ok g) (by kernel_rfl)) (Good.c (FMM.fc (ids := [0]) (made_eq (8 : Int) (10 : Int) l (0 : Int) (17 : Int) h0 h1 h2 h3) (by kernel_rfl)) (Good.c (FMM.fc (ids := []) (of_ok l) (by kernel_rfl)) Good.n))))))))))))))))))))))))))))))))))))))))))))))))))))))))))))))))))
def bnd_S1 (g : List Int) (c0 : KL.Cup) (i : Nat) (r100 : List (List Int)) (m101 : Int) (t102 : Int) (v : Nat) : St := ⟨fr 191 [(5, (.ptr 0 0)), (6, (.ptr 1 0)), (7, (.p (intsP (KL.totalsM c0)))), (8, (.p (intP 0))), (9, (.own 2)), (10, (.p (intP 0))), (71, (.p (intP (i : Int)))), (107, (.p (intsP (KL.totalsM (KL.withC c0 r100))))), (108, (.p (intP (((KL.totalsM (KL.withC c0 r100)).length : Nat) : Int)))), (109, (.p (intP (v : Int))))], [some (.box 25 [(.p (intP c0.sk)), (.p (intP c0.ra)), (.p (intP c0.be)), (.p (intsP c0.pts)), (.p (rowsP c0.done))]), some (deckO g m101 t102), some (.row 3 ((mostM c0 c0.sk.toNat).length) ((mostM c0 c0.sk.toNat).map intP))]⟩
theorem bnd_L0_p3 {g : List Int} {c0 : KL.Cup} {i : Nat} {mx tt : Int} {r100 : List (List Int)} {m101 t102 : Int} {v'103 i' : Nat} (h0 : (i : Int) < (4 : Int)) (h1 : KL.Valid c0) (h2 : 0 ≤ mx ∧ mx ≤ 100000) (h3 : leftM c0 g mx tt = (r100, m101, t102)) (h4 : r100.length ≤ 20) (h5 : KL.Valid (KL.withC c0 r100)) (h6 : 0 = (0 : Int)) (h7 : (((KL.totalsM (KL.withC c0 r100)).length : Nat) : Int) = c0.sk) (h8 : ((((KL.withC c0 r100).done).length : Nat) : Int) = c0.ra) (hl9 : LoopOK Tryz.prog 0 (sub (cd Tryz.f11) [1, 1, 1, 1, 1, 1, 0, 1, 0, 0, 1, 1, 0, 0, 1, 1, 1, 1, 0, 0]) (bnd_S1 g c0 i r100 m101 t102 0) (.exit 2) (bnd_S1 g c0 i r100 m101 t102 v'103)) (h10 : inR (((i + 1) : Nat) : Int)) (ei' : i' = (i + 1)) : CodeOK Tryz.prog 0 (sub (cd Tryz.f11) [1, 1, 1, 1, 1, 1, 0, 1, 0, 0]) (bnd_S0 g c0 i mx tt) .normal (bnd_S0 g c0 i' m101 t102) := by
  subst ei'
  exact CodeOK.fin (g := ⟨(rng [(0, 5), (11, 6), (22, 49), (72, 58)]), [0, 1, 2], [], []⟩) (o := [.b true, .c (.p (rowsP r100)) [(1, (deckO g m101 t102))], .c (.tup [(.p (.agg [(intP ((KL.withC c0 r100).sk)), (intP ((KL.withC c0 r100).ra)), (intP ((KL.withC c0 r100).be)), (intsP ((KL.withC c0 r100).pts)), (rowsP ((KL.withC c0 r100).done))])), (.p (intP 0))]) [], .c (.tup [(.p (intsP (KL.totalsM (KL.withC c0 r100)))), (.p (intP 0))]) [], .b false, .b false, .b false, .b false, .b false, .b false, .b false, .b false, .b false, .b false, .b false, .b false, .b false, .b false, .b false, .b false, .b false, .k 3 ⟨(rng [(0, 5), (11, 6), (22, 49), (72, 35), (110, 19)]), [0, 1, 2], [], []⟩ (.exit 2) (bnd_S1 g c0 i r100 m101 t102 v'103)]) (l := [_, _, _, _, _, _, _, _, _, _, _, _, _, _, _, _, _, _, _, FC Tryz.prog 30 [(.p (.agg [(intP ((KL.withC c0 r100).sk)), (intP ((KL.withC c0 r100).ra)), (intP ((KL.withC c0 r100).be)), (intsP ((KL.withC c0 r100).pts)), (rowsP ((KL.withC c0 r100).done))]))] [] 12 (.tup [(.p (intsP (KL.totalsM (KL.withC c0 r100)))), (.p (intP 0))]) [], FC Tryz.prog 44 [(.p (cupP c0)), (.p (rowsP r100))] [] 7 (.tup [(.p (.agg [(intP ((KL.withC c0 r100).sk)), (intP ((KL.withC c0 r100).ra)), (intP ((KL.withC c0 r100).be)), (intsP ((KL.withC c0 r100).pts)), (rowsP ((KL.withC c0 r100).done))])), (.p (intP 0))]) [], FC Tryz.prog 66 [(.ptr 1 0), (.p (cupP c0))] [(1, (deckO g mx tt))] 3 (.p (rowsP r100)) [(1, (deckO g m101 t102))], _]) (by kernel_rfl) (Good.c h10 (Good.c hl9.code (Good.c (q_neF h8) (Good.c (q_neF h7) (Good.c (q_neF h7) (Good.c (q_neF h7) (Good.c (q_neF h7) (Good.c (q_neF h7) (Good.c (q_neF h7) (Good.c (q_neF h7) (Good.c (q_neF h6) (Good.c (q_neF h6) (Good.c (q_neF h6) (Good.c (q_neF h6) (Good.c (q_neF h6) (Good.c (q_neF h6) (Good.c (q_neF h6) (Good.c (q_neF h6) (Good.c (q_neF h6) (Good.c (FV.fc (totals2_ok (KL.withC c0 r100) h5) (by kernel_rfl)) (Good.c (FV.fc (after_ok c0 r100 h1 h4 h5) (by kernel_rfl)) (Good.c (FMM.fc (ids := [1]) (left_eq c0 g mx tt h1 h2 h3) (by kernel_rfl)) (Good.c (q_lt h0) Good.n)))))))))))))))))))))))
theorem bnd_L0_p4 {g : List Int} {c0 : KL.Cup} {i : Nat} {mx tt : Int} (h0 : (4 : Int) ≤ (i : Int)) : CodeOK Tryz.prog 0 (sub (cd Tryz.f11) [1, 1, 1, 1, 1, 1, 0, 1, 0, 0]) (bnd_S0 g c0 i mx tt) (.exit 0) (bnd_S0 g c0 i mx tt) := by
  exact CodeOK.fin (g := ⟨(rng [(0, 5), (11, 6), (22, 49), (72, 58)]), [0, 1, 2], [], []⟩) (o := [.b false]) (l := [_]) (by kernel_rfl) (Good.c (q_ltF h0) Good.n)
theorem bnd_L2_p0 {c0 : KL.Cup} {r6 : Int} {j : Nat} {wn : List (List Int)} {j' : Nat} {wn' : List (List Int)} (h0 : (j : Int) < (c0.ra - ((c0.done.length : Nat) : Int))) (h1 : 0 ≤ c0.sk ∧ c0.sk ≤ c0.sk ∧ c0.sk ≤ 1000000) (h2 : 0 ≤ r6 ∧ r6 < ((c0.sk.toNat : Nat) : Int)) (h3 : (r6.toNat * 1) < (List.replicate c0.sk.toNat (intP 0)).length) (h4 : [(PV.sl c0.sk.toNat ((List.replicate c0.sk.toNat (intP 0)).set (r6.toNat * 1) (intP 1)))].length = 1 * 1 ∧ wn.length + 1 ≤ 1000000) (h5 : inR (((j + 1) : Nat) : Int)) (ej' : j' = (j + 1)) (ewn'n : wn'.length = (wn.length + 1)) (ewn'c : wn'.map intsP = ((wn.map intsP) ++ [(PV.sl c0.sk.toNat ((List.replicate c0.sk.toNat (intP 0)).set (r6.toNat * 1) (intP 1)))])) : CodeOK Tryz.prog 0 (sub (cd Tryz.f11) [1, 1, 1, 1, 1, 1, 1, 1, 1, 0, 1, 0, 0]) (bnd_S2 c0 r6 j wn.length (wn.map intsP)) .normal (bnd_S2 c0 r6 j' wn'.length (wn'.map intsP)) := by
  subst ej'
  have raw : CodeOK Tryz.prog 0 (sub (cd Tryz.f11) [1, 1, 1, 1, 1, 1, 1, 1, 1, 0, 1, 0, 0]) (bnd_S2 c0 r6 j wn.length (wn.map intsP)) .normal (bnd_S2 c0 r6 (j + 1) (wn.length + 1) ((wn.map intsP) ++ [(PV.sl c0.sk.toNat ((List.replicate c0.sk.toNat (intP 0)).set (r6.toNat * 1) (intP 1)))])) := CodeOK.fin (g := ⟨(rng [(0, 4), (6, 2), (11, 6), (19, 1), (22, 117), (141, 12)]), [0, 1, 5], [], []⟩) (o := [.b true]) (l := [_, _, _, _, _, _]) (by kernel_rfl) (Good.c h5 (Good.c h4 (Good.c h3 (Good.c h2 (Good.c h1 (Good.c (q_lt h0) Good.n))))))
  exact raw.cast (by rw [ewn'n, ewn'c])
theorem bnd_L2_p1 {c0 : KL.Cup} {r6 : Int} {j : Nat} {wn : List (List Int)} (h0 : (c0.ra - ((c0.done.length : Nat) : Int)) ≤ (j : Int)) : CodeOK Tryz.prog 0 (sub (cd Tryz.f11) [1, 1, 1, 1, 1, 1, 1, 1, 1, 0, 1, 0, 0]) (bnd_S2 c0 r6 j wn.length (wn.map intsP)) (.exit 4) (bnd_S2 c0 r6 j wn.length (wn.map intsP)) := by
  exact CodeOK.fin (g := ⟨(rng [(0, 4), (6, 2), (11, 6), (19, 1), (22, 117), (141, 12)]), [0, 1, 2], [], []⟩) (o := [.b false]) (l := [_]) (by kernel_rfl) (Good.c (q_ltF h0) Good.n)
theorem bnd_L1_p2 {g : List Int} {c0 : KL.Cup} {i : Nat} {r100 : List (List Int)} {m101 t102 : Int} {v : Nat} {x200 x201 x202 : Int} {v' : Nat} (h0 : (v : Int) < (((KL.totalsM (KL.withC c0 r100)).length : Nat) : Int)) (h1 : (KL.totalsM (KL.withC c0 r100))[v]? = some x200) (h2 : (KL.totalsM c0)[v]? = some x201) (h3 : x201 ≤ x200) (h4 : (mostM c0 c0.sk.toNat)[v]? = some x202) (h5 : x200 ≤ x202) (h6 : inR (((v + 1) : Nat) : Int)) (ev' : v' = (v + 1)) : CodeOK Tryz.prog 0 (sub (cd Tryz.f11) [1, 1, 1, 1, 1, 1, 0, 1, 0, 0, 1, 1, 0, 0, 1, 1, 1, 1, 0, 0]) (bnd_S1 g c0 i r100 m101 t102 v) .normal (bnd_S1 g c0 i r100 m101 t102 v') := by
  subst ev'
  exact CodeOK.fin (g := ⟨(rng [(0, 5), (11, 6), (22, 49), (72, 35), (110, 19)]), [0, 1, 2], [], []⟩) (o := [.b true, .x (intP x200), .x (intP x201), .b false, .b false, .b false, .b false, .b false, .x (intP x202), .b false, .b false, .b false]) (l := [_, _, _, _, ((mostM c0 c0.sk.toNat).map intP)[(v * 1)]? = some (intP x202), _, _, _, _, _, _, ((KL.totalsM c0).map intP)[(v * 1)]? = some (intP x201), 0 ≤ (v : Int) ∧ (v : Int) < (((KL.totalsM c0).length : Nat) : Int) ∧ (v * 1) < ((KL.totalsM c0).map intP).length, ((KL.totalsM (KL.withC c0 r100)).map intP)[(v * 1)]? = some (intP x200), 0 ≤ (v : Int) ∧ (v : Int) < (((KL.totalsM (KL.withC c0 r100)).length : Nat) : Int) ∧ (v * 1) < ((KL.totalsM (KL.withC c0 r100)).map intP).length, _]) (by kernel_rfl) (Good.c h6 (Good.c (q_ltF h5) (Good.c (q_ltF h3) (Good.c (q_ltF h3) (Good.c (at_map (i := v) h4) (Good.c (q_ltF h3) (Good.c (ix_own (i := (v : Int)) (Int.natCast_nonneg _) h4) (Good.c (q_ltF h3) (Good.c (q_ltF h3) (Good.c (q_ltF h3) (Good.c (q_ltF h3) (Good.c (at_map (i := v) h2) (Good.c (ix_map (i := (v : Int)) (Int.natCast_nonneg _) h2) (Good.c (at_map (i := v) h1) (Good.c (ix_map (i := (v : Int)) (Int.natCast_nonneg _) h1) (Good.c (q_lt h0) Good.n))))))))))))))))
theorem bnd_L1_p3 {g : List Int} {c0 : KL.Cup} {i : Nat} {r100 : List (List Int)} {m101 t102 : Int} {v : Nat} (h0 : (((KL.totalsM (KL.withC c0 r100)).length : Nat) : Int) ≤ (v : Int)) : CodeOK Tryz.prog 0 (sub (cd Tryz.f11) [1, 1, 1, 1, 1, 1, 0, 1, 0, 0, 1, 1, 0, 0, 1, 1, 1, 1, 0, 0]) (bnd_S1 g c0 i r100 m101 t102 v) (.exit 2) (bnd_S1 g c0 i r100 m101 t102 v) := by
  exact CodeOK.fin (g := ⟨(rng [(0, 5), (11, 6), (22, 49), (72, 35), (110, 19)]), [0, 1, 2], [], []⟩) (o := [.b false]) (l := [_]) (by kernel_rfl) (Good.c (q_ltF h0) Good.n)
end KV
end Go.Proofs
end
section
namespace Go.Proofs
namespace KL
theorem falls_le {pts : List Int} (h : fallsB pts = true) (h0 : ∀ x ∈ pts, 0 ≤ x) : ∀ (d a : Nat), pts.getD (a + d) 0 ≤ pts.getD a 0 := by
  have nn : ∀ a, 0 ≤ pts.getD a 0 := fun a => by
    rw [List.getD_eq_getElem?_getD]
    cases e : pts[a]? with
    | none => simp
    | some x => simpa using h0 x (List.mem_of_getElem? e)
  have hz : ∀ a, pts.length ≤ a → pts.getD a 0 = 0 := fun a ha => by rw [List.getD_eq_getElem?_getD, List.getElem?_eq_none ha]; rfl
  unfold fallsB sortedB at h
  rw [decide_eq_true_iff] at h
  intro d
  induction d with
  | zero => intro a; exact Int.le_refl _
  | succ d ih =>
    intro a
    refine Int.le_trans ?_ (ih a)
    rw [← Nat.add_assoc]
    by_cases hl : a + d + 1 < pts.length
    · have := h (a + d) (by omega)
      unfold cmpDown cmpI at this
      repeat' split at this
      all_goals omega
    · rw [hz _ (by omega)]; exact nn _
end KL
end Go.Proofs
end
section
namespace Go.Proofs
open KL Go.RowKit
namespace KV
set_option maxRecDepth 100000
set_option linter.unusedVariables false

def pos (x : Int) : Int := if 0 ≤ x then x else 0
theorem pos_nn (x : Int) : 0 ≤ pos x := by unfold pos; split <;> omega
theorem pos_ge (x : Int) : x ≤ pos x := by unfold pos; split <;> omega
abbrev ov (t : Int) (l : List Int) : Int := (l.map fun x => pos (x - t)).sum
theorem ov_nn (t : Int) (l : List Int) : 0 ≤ ov t l := sum_nonneg fun x hx => by
  obtain ⟨y, _, rfl⟩ := List.mem_map.1 hx
  exact pos_nn _
theorem top_le {t : Int} (ht : 0 ≤ t) : ∀ (A : List Int) (k : Nat), (A.take k).sum ≤ k * t + ov t A
  | A, 0 => by have := ov_nn t A; simp; omega
  | [], k + 1 => by
    have : 0 ≤ ((k + 1 : Nat) : Int) * t := Int.mul_nonneg (by omega) ht
    simpa [ov] using this
  | x :: r, k + 1 => by
    have h := top_le ht r k
    have h2 := pos_ge (x - t)
    have e : ((k + 1 : Nat) : Int) * t = k * t + t := by rw [Int.natCast_add, Int.add_mul]; omega
    have e2 : ov t (x :: r) = pos (x - t) + ov t r := by unfold ov; rw [List.map_cons, List.sum_cons]
    rw [List.take_succ_cons, List.sum_cons, e, e2]
    omega
theorem ov_low {t : Int} : ∀ {l : List Int}, (∀ x ∈ l, x ≤ t) → ov t l = 0
  | [], _ => rfl
  | x :: r, h => by
    have e2 : ov t (x :: r) = pos (x - t) + ov t r := by unfold ov; rw [List.map_cons, List.sum_cons]
    rw [e2, ov_low fun y hy => h y (List.mem_cons_of_mem _ hy)]
    have := h x (List.mem_cons_self ..)
    unfold pos; split <;> omega
theorem ov_high {t : Int} : ∀ {l : List Int}, (∀ x ∈ l, t ≤ x) → l.sum = l.length * t + ov t l
  | [], _ => by simp [ov]
  | x :: r, h => by
    have e2 : ov t (x :: r) = pos (x - t) + ov t r := by unfold ov; rw [List.map_cons, List.sum_cons]
    have e : ((r.length + 1 : Nat) : Int) * t = r.length * t + t := by rw [Int.natCast_add, Int.add_mul]; omega
    have := h x (List.mem_cons_self ..)
    have h3 := ov_high fun y hy => h y (List.mem_cons_of_mem _ hy)
    have h4 : pos (x - t) = x - t := by unfold pos; rw [if_pos (by omega)]
    rw [List.sum_cons, e2, List.length_cons, e, h4]
    omega
theorem top_eq {A : List Int} (hs : A.Pairwise (fun a b => b ≤ a)) (h0 : ∀ x ∈ A, 0 ≤ x) (k : Nat) : ∃ t : Int, 0 ≤ t ∧ (A.take k).sum = k * t + ov t A := by
  have hov : ∀ t, ov t A = ov t (A.take k) + ov t (A.drop k) := fun t => by
    unfold ov
    rw [← List.sum_append, ← List.map_append, List.take_append_drop]
  rw [← List.take_append_drop k A] at hs
  have hp := (List.pairwise_append.1 hs)
  cases hd : A.drop k with
  | nil =>
    refine ⟨0, by omega, ?_⟩
    rw [hov, hd, Int.mul_zero, ov_high (t := 0) (l := A.take k) (fun x hx => h0 x (List.mem_of_mem_take hx)), Int.mul_zero]
    simp [ov]
  | cons y r =>
    have hk : k < A.length := by
      have h : (A.drop k).length = r.length + 1 := by rw [hd]; rfl
      rw [List.length_drop] at h; omega
    rw [hd] at hp
    have hy : y ∈ A := List.mem_of_mem_drop (i := k) (by rw [hd]; exact List.mem_cons_self ..)
    refine ⟨y, h0 y hy, ?_⟩
    rw [hov, hd, ov_high (t := y) (l := A.take k) (fun x hx => hp.2.2 x hx y (List.mem_cons_self ..)), ov_low (t := y) (l := y :: r), List.length_take, Nat.min_eq_left (by omega)]
    · omega
    · intro x hx
      rcases List.mem_cons.1 hx with rfl | hx
      · exact Int.le_refl _
      · exact (List.pairwise_cons.1 hp.2.1).1 x hx
theorem top_mono {A B : List Int} {k : Nat} (hs : B.Pairwise (fun a b => b ≤ a)) (h0 : ∀ x ∈ B, 0 ≤ x) (h : ∀ t, 0 ≤ t → ov t A ≤ ov t B) : (A.take k).sum ≤ (B.take k).sum := by
  obtain ⟨t, ht, e⟩ := top_eq hs h0 k
  have := top_le ht A k
  have := h t ht
  omega

abbrev scR (c : KL.Cup) (s : Nat) (r : List Int) : Int := KL.scoreM c.pts r s
abbrev srtS (c : KL.Cup) (s : Nat) : List Int := (srtC c s).map (scF c s)
theorem srtS_pw (c : KL.Cup) (s : Nat) : (srtS c s).Pairwise (fun a b => b ≤ a) := by
  unfold srtS
  rw [List.pairwise_map]
  exact (srtC_pw c s).imp fun h => by omega
theorem srtS_perm (c : KL.Cup) (s : Nat) : (srtS c s).Perm (c.done.map (scR c s)) := by
  refine ((srtC_perm c s).map _).trans ?_
  have : (KL.idx c.done.length).map (scF c s) = c.done.map (scR c s) := by
    unfold KL.idx
    rw [List.map_map]
    refine List.ext_getElem (by simp) fun i h1 h2 => ?_
    have hi : i < c.done.length := by simpa using h2
    simp only [List.getElem_map, List.getElem_range, Function.comp]
    show KL.scoreM c.pts (c.done.getD (i : Int).toNat []) s = KL.scoreM c.pts c.done[i] s
    rw [Int.toNat_natCast, List.getD_eq_getElem?_getD, List.getElem?_eq_getElem hi]; rfl
  rw [this]
theorem srtS_nn {c : KL.Cup} (hV : KL.Valid c) (s : Nat) : ∀ x ∈ srtS c s, 0 ≤ x := fun x hx => by
  obtain ⟨y, _, rfl⟩ := List.mem_map.1 hx
  exact (scF_bd hV s y).1
theorem total_top (c : KL.Cup) (s : Nat) : KL.totalM c s = ((srtS c s).take c.be.toNat).sum := by
  rw [totalM_take]
  have hl : (srtS c s).length = c.done.length := by rw [(srtS_perm c s).length_eq, List.length_map]
  by_cases h : c.be.toNat ≤ c.done.length
  · rw [Nat.min_eq_right h]
  · rw [Nat.min_eq_left (by omega), List.take_of_length_le (l := srtS c s) (by omega), List.take_of_length_le (l := srtS c s) (by omega)]
theorem ov_srt (c : KL.Cup) (s : Nat) (t : Int) : ov t (srtS c s) = ov t (c.done.map (scR c s)) := sum_perm ((srtS_perm c s).map _)
theorem ov_with (c : KL.Cup) (F : List (List Int)) (s : Nat) (t : Int) : ov t (srtS (KL.withC c F) s) = ov t (c.done.map (scR c s)) + ov t (F.map (scR c s)) := by
  rw [ov_srt]
  show ov t ((c.done ++ F).map (scR c s)) = _
  unfold ov
  rw [List.map_append, List.map_append, List.sum_append]
theorem total_grows {c : KL.Cup} {F : List (List Int)} (hV : KL.Valid (KL.withC c F)) (s : Nat) : KL.totalM c s ≤ KL.totalM (KL.withC c F) s := by
  rw [total_top, total_top]
  refine top_mono (srtS_pw _ _) (srtS_nn hV s) fun t ht => ?_
  rw [ov_with, ov_srt]
  have := ov_nn t (F.map (scR c s))
  omega
theorem ov_rep {c : KL.Cup} {s : Nat} {x : List Int} (t : Int) : ∀ {F : List (List Int)}, (∀ r ∈ F, scR c s r ≤ scR c s x) → ov t (F.map (scR c s)) ≤ ov t ((List.replicate F.length x).map (scR c s))
  | [], _ => Int.le_refl _
  | r :: F, h => by
    have h1 := ov_rep (x := x) t (F := F) fun r hr => h r (List.mem_cons_of_mem _ hr)
    have h2 := h r (List.mem_cons_self ..)
    have h3 : pos (scR c s r - t) ≤ pos (scR c s x - t) := by unfold pos; split <;> split <;> omega
    unfold ov at h1 ⊢
    rw [List.length_cons, List.replicate_succ]
    simp only [List.map_cons, List.sum_cons]
    omega
theorem score_first {c : KL.Cup} (hV : KL.Valid c) {s : Nat} (hs : (s : Int) < c.sk) (r : List Int) : scR c s r ≤ scR c s (KL.wonRace c.sk.toNat s) := by
  have h0 : ∀ x ∈ c.pts, 0 ≤ x := fun x hx => (hV.pts x hx).1
  have hf : ∀ m : Nat, c.pts.getD m 0 ≤ c.pts.getD 0 0 := fun m => by
    have := falls_le hV.falls h0 m 0
    rwa [Nat.zero_add] at this
  have hp0 : 0 ≤ c.pts.getD 0 0 := by
    rw [List.getD_eq_getElem?_getD]
    cases h : c.pts[0]? with
    | none => simp
    | some z => exact h0 z (List.mem_of_getElem? h)
  have hw : scR c s (KL.wonRace c.sk.toNat s) = c.pts.getD 0 0 := by
    have e1 : (KL.wonRace c.sk.toNat s).getD s 0 = 1 := by
      unfold KL.wonRace
      rw [List.getD_eq_getElem?_getD, List.getElem?_set, if_pos rfl, if_pos (by simp; omega)]; rfl
    have e2 : (KL.wonRace c.sk.toNat s).count 1 = 1 := by
      unfold KL.wonRace
      rw [List.count_set (by simp; omega)]
      simp [List.count_replicate]
    show KL.scoreM c.pts _ s = _
    unfold KL.scoreM
    rw [e1, e2, if_neg (by omega)]
    unfold KL.worthM
    rw [show ((1 : Int).toNat - 1) = 0 from rfl, List.drop_zero]
    cases hpt : c.pts with
    | nil => rfl
    | cons a l => simp
  rw [hw]
  show KL.scoreM c.pts r s ≤ _
  unfold KL.scoreM
  split
  · exact hp0
  · have hle : ∀ l : List Int, (∀ x ∈ l, x ≤ c.pts.getD 0 0) → l.sum ≤ l.length * c.pts.getD 0 0 := by
      intro l hl
      induction l with
      | nil => simp
      | cons x t ih =>
        have h1 := hl x (List.mem_cons_self ..)
        have h2 := ih fun y hy => hl y (List.mem_cons_of_mem _ hy)
        rw [List.sum_cons, List.length_cons, Int.natCast_add, Int.add_mul]
        omega
    obtain ⟨m, hm⟩ : ∃ m, m = r.count (r.getD s 0) := ⟨_, rfl⟩
    rw [← hm]
    have h1 := hle ((c.pts.drop ((r.getD s 0).toNat - 1)).take m) fun x hx => by
      obtain ⟨i, hi, rfl⟩ := List.getElem_of_mem (List.mem_of_mem_drop (List.mem_of_mem_take hx))
      have := hf i
      rwa [List.getD_eq_getElem?_getD, List.getElem?_eq_getElem hi] at this
    have h2 : (((c.pts.drop ((r.getD s 0).toNat - 1)).take m).length : Int) * c.pts.getD 0 0 ≤ (m : Int) * c.pts.getD 0 0 := Int.mul_le_mul_of_nonneg_right (by have := List.length_take_le m (c.pts.drop ((r.getD s 0).toNat - 1)); omega) hp0
    by_cases hm0 : m = 0
    · subst hm0; simpa using hp0
    · refine Int.ediv_le_of_le_mul (by omega) ?_
      unfold KL.worthM
      rw [Int.mul_comm]
      omega
theorem total_most {c : KL.Cup} (hV : KL.Valid c) {F : List (List Int)} {s : Nat} (hs : (s : Int) < c.sk) (hF : (F.length : Int) = c.ra - c.done.length) : KL.totalM (KL.withC c F) s ≤ KL.totalM (KL.withC c (KL.wonM c s)) s := by
  rw [total_top, total_top]
  refine top_mono (srtS_pw _ _) (srtS_nn (KL.valid_won hV hs) s) fun t ht => ?_
  rw [ov_with, ov_with]
  have h := ov_rep (c := c) (s := s) (x := KL.wonRace c.sk.toNat s) t (F := F) fun r _ => score_first hV hs r
  unfold KL.wonM
  rw [show c.ra.toNat - c.done.length = F.length by omega]
  omega
theorem most_at {c : KL.Cup} {n j : Nat} (h : j < n) : (mostM c n)[j]? = some (KL.totalM (KL.withC c (KL.wonM c j)) j) := by
  unfold mostM
  rw [List.getElem?_map, List.getElem?_range h]; rfl
theorem valid_left {c : KL.Cup} (hV : KL.Valid c) {nx : Int} {r : List (List Int) × Int × Int} (h : LeftOK c nx r) : KL.Valid (KL.withC c r.1) := by
  have s1 := hV.sk1
  have hl := h.len
  refine KL.valid_with hV (by omega) (fun x hx => by have := (h.ok x hx).len; omega) (fun x hx => (h.ok x hx).bd) ?_
  rw [List.any_eq_false]
  intro x hx
  have := (KL.clash_iff x (fun y hy => ((h.ok x hx).bd y hy).1)).2 (h.ok x hx).cl
  simp [this]

theorem bnd_tries {g : List Int} {c : KL.Cup} (hV : KL.Valid c) : ∀ (k i : Nat) (mx tt : Int), i + k = 4 → 0 ≤ mx → mx + 2000 * k ≤ 90000 →
    ∃ mx' tt' : Int, LoopOK Tryz.prog 0 (sub (cd Tryz.f11) [1, 1, 1, 1, 1, 1, 0, 1, 0, 0]) (bnd_S0 g c i mx tt) (.exit 0) (bnd_S0 g c 4 mx' tt') ∧ mx ≤ mx' ∧ mx' ≤ mx + 2000 * k
  | 0, i, mx, tt, hk, h0, h1 => by
    obtain rfl : i = 4 := by omega
    exact ⟨mx, tt, .exit (bnd_L0_p4 (by omega)) (by simp), by omega, by omega⟩
  | k + 1, i, mx, tt, hk, h0, h1 => by
    have s1 := hV.sk1
    have s2 := hV.sk2
    have r2 := hV.ra2
    have hsp := (leftM_spec c g mx tt hV ⟨h0, by omega⟩).2
    obtain ⟨⟨F, m, t⟩, e⟩ : ∃ q, q = leftM c g mx tt := ⟨_, rfl⟩
    rw [← e] at hsp
    have hV2 : KL.Valid (KL.withC c F) := valid_left hV hsp
    have hl := hsp.len
    have n1 := hsp.n1
    have n2 := hsp.n2
    dsimp only at hl n1 n2
    have htl : (KL.totalsM (KL.withC c F)).length = c.sk.toNat := totalsM_len _
    have hdl : (KL.withC c F).done.length = c.done.length + F.length := List.length_append
    have inner : LoopOK Tryz.prog 0 (sub (cd Tryz.f11) [1, 1, 1, 1, 1, 1, 0, 1, 0, 0, 1, 1, 0, 0, 1, 1, 1, 1, 0, 0]) (bnd_S1 g c i F m t 0) (.exit 2) (bnd_S1 g c i F m t c.sk.toNat) :=
      LoopOK.count c.sk.toNat (fun v => bnd_S1 g c i F m t v) (fun v hv => bnd_L1_p2 (by omega) (totals_at (c := KL.withC c F) (by show (v : Int) < c.sk; omega)) (totals_at (by omega)) (total_grows hV2 v) (most_at hv) (total_most hV (by omega) hl) (inR_nat (by omega)) rfl) (bnd_L1_p3 (by omega)) (by simp)
    have st := bnd_L0_p3 (g := g) (i := i) (mx := mx) (tt := tt) (i' := i + 1) (by omega) hV ⟨h0, by omega⟩ e.symm (by omega) hV2 rfl (by omega) (by omega) inner (inR_nat (by omega)) rfl
    obtain ⟨mx', tt', hL, b1, b2⟩ := bnd_tries (g := g) hV k (i + 1) m t (by omega) (by omega) (by omega)
    exact ⟨mx', tt', .step st hL, by omega, by omega⟩
theorem bnd_won {c : KL.Cup} (hV : KL.Valid c) {r : Int} (hr : 0 ≤ r ∧ r < c.sk) : LoopOK Tryz.prog 0 (sub (cd Tryz.f11) [1, 1, 1, 1, 1, 1, 1, 1, 1, 0, 1, 0, 0]) (bnd_S2 c r 0 0 []) (.exit 4) (bnd_S2 c r (c.ra.toNat - c.done.length) (KL.wonM c r.toNat).length ((KL.wonM c r.toNat).map intsP)) := by
  have s1 := hV.sk1
  have s2 := hV.sk2
  have r2 := hV.ra2
  have d1 := hV.dn
  refine LoopOK.count (c.ra.toNat - c.done.length) (fun j => bnd_S2 c r j (List.replicate j (KL.wonRace c.sk.toNat r.toNat)).length ((List.replicate j (KL.wonRace c.sk.toNat r.toNat)).map intsP)) (fun j hj => ?_) (bnd_L2_p1 (by omega)) (by simp)
  refine bnd_L2_p0 (wn := List.replicate j (KL.wonRace c.sk.toNat r.toNat)) (wn' := List.replicate (j + 1) (KL.wonRace c.sk.toNat r.toNat)) (by omega) (by omega) (by omega) (by simp; omega) (by simp; omega) (inR_nat (by omega)) rfl (by simp) ?_
  rw [List.replicate_succ', List.map_append]
  congr 1
  show [intsP (KL.wonRace c.sk.toNat r.toNat)] = _
  unfold intsP
  rw [KL.wonRace_length]
  unfold KL.wonRace
  rw [List.map_set, List.map_replicate, Nat.mul_one]
theorem bounded_law (l g : List Int) {base : Nat} : FV Tryz.prog 11 [.p (.sl l.length (l.map byteP)), .p (.sl g.length (g.map byteP))] base (.p (blP true)) [] := by
  have hsp := madeM_spec 8 10 l 0 17 (by omega) (by omega) (by omega)
  obtain ⟨⟨c, m, t⟩, e⟩ : ∃ q, q = madeM 8 10 l 0 17 := ⟨_, rfl⟩
  rw [← e] at hsp
  obtain ⟨_, hV, _⟩ := hsp
  dsimp only at hV
  have s1 := hV.sk1
  have s2 := hV.sk2
  have r2 := hV.ra2
  have d1 := hV.dn
  obtain ⟨mx, tt, hL, b1, b2⟩ := bnd_tries (g := g) hV 4 0 0 17 rfl (by omega) (by omega)
  have hd := drawM_bd c.sk g mx tt
  obtain ⟨⟨r, m7, t8⟩, e1⟩ : ∃ q, q = drawM c.sk g mx tt := ⟨_, rfl⟩
  rw [← e1] at hd
  dsimp only at hd
  have hr : 0 ≤ r ∧ r < c.sk := by omega
  have hW := bnd_won hV hr
  have hV2 := KL.valid_won (s := r.toNat) hV (by omega)
  have hwl : (KL.wonM c r.toNat).length ≤ 20 := by unfold KL.wonM; rw [List.length_replicate]; omega
  have htl := totalsM_len c
  have htl2 : (KL.totalsM (KL.withC c (KL.wonM c r.toNat))).length = c.sk.toNat := totalsM_len _
  have hml : (mostM c c.sk.toNat).length = c.sk.toNat := by simp [mostM]
  have ht : (KL.totalsM (KL.withC c (KL.wonM c r.toNat)))[r.toNat]? = some (KL.totalM (KL.withC c (KL.wonM c r.toNat)) r.toNat) := totals_at (c := KL.withC c (KL.wonM c r.toNat)) (by show ((r.toNat : Nat) : Int) < c.sk; omega)
  by_cases hd0 : (c.done.length : Int) = c.ra
  · have hq : KL.totalsM c = mostM c c.sk.toNat := by
      unfold KL.totalsM KL.totalsUp mostM
      refine List.map_congr_left fun s _ => ?_
      have : KL.wonM c s = [] := by unfold KL.wonM; rw [show c.ra.toNat - c.done.length = 0 by omega]; rfl
      rw [this]
      show KL.totalM c s = KL.totalM ⟨c.sk, c.ra, c.be, c.pts, c.done ++ []⟩ s
      rw [List.append_nil]
    exact bnd_p4 (by omega) (by omega) (by omega) e.symm hV rfl (by omega) (by omega) hd0 (by omega) (by rw [hq]; simp) hL (by omega) e1.symm (by unfold inR; omega) hW hwl hV2 (by omega) ht hr.1 (most_at (by omega)) rfl
  · exact bnd_p8 (by omega) (by omega) (by omega) e.symm hV rfl (by omega) (by omega) hd0 hL (by omega) e1.symm (by unfold inR; omega) hW hwl hV2 (by omega) ht hr.1 (most_at (by omega)) rfl
end KV
end Go.Proofs
end
