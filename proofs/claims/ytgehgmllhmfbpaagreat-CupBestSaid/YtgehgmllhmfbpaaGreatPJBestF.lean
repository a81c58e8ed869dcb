/- Parts of the proof of JBest: laws of walks, contracts of functions, plain models. No condition. -/
import Derived.Test.YtgehgmllhmfbpaaGreatPJBestE
set_option linter.unusedVariables false
set_option linter.unusedSimpArgs false
section
namespace Go.Proofs
namespace KV
set_option maxRecDepth 100000
set_option linter.unusedVariables false
open KL
def idx_S0 (l : List Int) (v : Int) (i : Nat) : St := ⟨fr 19 [(0, (.p (intsP l))), (1, (.p (intP v))), (7, (.p (intP ((l.length : Nat) : Int)))), (8, (.p (intP (i : Int))))], []⟩
theorem idx_p0 {l : List Int} {v : Int} {i'0 : Nat} (hl0 : LoopOK Tryz.prog 0 (sub (cd Tryz.f113) [1, 0, 1, 0, 0]) (idx_S0 l v 0) (.exit 0) (idx_S0 l v i'0)) {base : Nat} : FV Tryz.prog 113 [(.p (intsP l)), (.p (intP v))] base (.p (intP (-1 : Int))) [] := by
  exact FV.fin Tryz.func113 rfl (o := [.k 6 ⟨(rng [(2, 5), (9, 10)]), [], [], []⟩ (.exit 0) (idx_S0 l v i'0)]) (l := [_]) (by kernel_rfl) (Good.c hl0.code Good.n)
theorem idx_p1 {l : List Int} {v : Int} {i'0 : Nat} (hl0 : LoopOK Tryz.prog 0 (sub (cd Tryz.f113) [1, 0, 1, 0, 0]) (idx_S0 l v 0) .ret (setS (idx_S0 l v i'0) [(4, (.p (intP (i'0 : Int))))])) {base : Nat} : FV Tryz.prog 113 [(.p (intsP l)), (.p (intP v))] base (.p (intP (i'0 : Int))) [] := by
  exact FV.fin Tryz.func113 rfl (o := [.k 6 ⟨(rng [(2, 5), (9, 10)]), [], [], []⟩ .ret (setS (idx_S0 l v i'0) [(4, (.p (intP (i'0 : Int))))])]) (l := [_]) (by kernel_rfl) (Good.c hl0.code Good.n)
theorem idx_L0_p0 {l : List Int} {v : Int} {i : Nat} {x100 : Int} (h0 : (i : Int) < ((l.length : Nat) : Int)) (h1 : l[i]? = some x100) (h2 : v = x100) : CodeOK Tryz.prog 0 (sub (cd Tryz.f113) [1, 0, 1, 0, 0]) (idx_S0 l v i) .ret (setS (idx_S0 l v i) [(4, (.p (intP (i : Int))))]) := by
  exact CodeOK.fin (g := ⟨(rng [(2, 2), (5, 2), (9, 10)]), [], [], []⟩) (o := [.b true, .x (intP x100), .b true]) (l := [_, (l.map intP)[(i * 1)]? = some (intP x100), 0 ≤ (i : Int) ∧ (i : Int) < ((l.length : Nat) : Int) ∧ (i * 1) < (l.map intP).length, _]) (by kernel_rfl) (Good.c (q_eq h2) (Good.c (at_map (i := i) h1) (Good.c (ix_map (i := (i : Int)) (Int.natCast_nonneg _) h1) (Good.c (q_lt h0) Good.n))))
theorem idx_L0_p1 {l : List Int} {v : Int} {i : Nat} {x100 : Int} {i' : Nat} (h0 : (i : Int) < ((l.length : Nat) : Int)) (h1 : l[i]? = some x100) (h2 : v ≠ x100) (h3 : inR (((i + 1) : Nat) : Int)) (ei' : i' = (i + 1)) : CodeOK Tryz.prog 0 (sub (cd Tryz.f113) [1, 0, 1, 0, 0]) (idx_S0 l v i) .normal (idx_S0 l v i') := by
  subst ei'
  exact CodeOK.fin (g := ⟨(rng [(2, 5), (9, 10)]), [], [], []⟩) (o := [.b true, .x (intP x100), .b false]) (l := [_, _, (l.map intP)[(i * 1)]? = some (intP x100), 0 ≤ (i : Int) ∧ (i : Int) < ((l.length : Nat) : Int) ∧ (i * 1) < (l.map intP).length, _]) (by kernel_rfl) (Good.c h3 (Good.c (q_ne h2) (Good.c (at_map (i := i) h1) (Good.c (ix_map (i := (i : Int)) (Int.natCast_nonneg _) h1) (Good.c (q_lt h0) Good.n)))))
theorem idx_L0_p2 {l : List Int} {v : Int} {i : Nat} (h0 : ((l.length : Nat) : Int) ≤ (i : Int)) : CodeOK Tryz.prog 0 (sub (cd Tryz.f113) [1, 0, 1, 0, 0]) (idx_S0 l v i) (.exit 0) (idx_S0 l v i) := by
  exact CodeOK.fin (g := ⟨(rng [(2, 5), (9, 10)]), [], [], []⟩) (o := [.b false]) (l := [_]) (by kernel_rfl) (Good.c (q_ltF h0) Good.n)
theorem idxV_ok (l : List Int) (v : Int) (hl : small l.length) {base : Nat} : FV Tryz.prog 113 [.p (intsP l), .p (intP v)] base (.p (intP (idxF (fun x => decide (v = x)) l))) [] := by
  rcases LoopOK.find (P := Tryz.prog) (k := 0) (b := (sub (cd Tryz.f113) [1, 0, 1, 0, 0])) (fun i => idx_S0 l v i) (fun i _ => setS (idx_S0 l v i) [(4, .p (intP (i : Int)))]) (idx_S0 l v l.length) .ret (.exit 0) (by simp) (by simp) (fun x => decide (v = x)) l
    (fun i x hx hp => idx_L0_p1 (by have := lt_of_at hx; omega) hx (by simpa using hp) (inR_nat (by have := lt_of_at hx; omega)) rfl)
    (fun i x hx hp => idx_L0_p0 (by have := lt_of_at hx; omega) hx (by simpa using hp))
    (idx_L0_p2 (l := l) (i := l.length) (by omega)) with ⟨i, x, h1, h2, h3, h4⟩ | ⟨h1, h2, h3⟩
  · rw [idxF_some h2]; exact idx_p1 h4
  · rw [idxF_none h1]; exact idx_p0 h3
theorem hasV_p0 {l : List Int} {v : Int} {r0 : Bool} (h0 : small l.length) (er0 : r0 = (decide ((idxF (fun x => decide (v = x)) l) ≥ (0 : Int)))) {base : Nat} : FV Tryz.prog 41 [(.p (intsP l)), (.p (intP v))] base (.p (blP r0)) [] := by
  subst er0
  exact FV.fin Tryz.func41 rfl (o := [.c (.p (intP (idxF (fun x => decide (v = x)) l))) []]) (l := [FC Tryz.prog 113 [(.p (intsP l)), (.p (intP v))] [] 0 (.p (intP (idxF (fun x => decide (v = x)) l))) []]) (by kernel_rfl) (Good.c (FV.fc (idxV_ok l v h0) (by kernel_rfl)) Good.n)
theorem hasV_ok (l : List Int) (v : Int) (hl : small l.length) {base : Nat} : FV Tryz.prog 41 [.p (intsP l), .p (intP v)] base (.p (blP (l.any fun x => decide (v = x)))) [] := hasV_p0 hl (idxF_any _ _).symm
theorem cli_p0 {l : List Int} (h0 : (l.map intP).length = l.length * 1 ∧ l.length ≤ 1000000) {base : Nat} : FV Tryz.prog 21 [(.p (intsP l))] base (.p (intsP l)) [] := by
  exact FV.frz (FMM.fin (k := 0) (g := ⟨[], [], [0], []⟩) rfl Tryz.func21 rfl (o := []) (l := [_]) (by kernel_rfl) (Good.c h0 Good.n)) (by kernel_rfl)
theorem cli_ok (l : List Int) (hl : l.length ≤ 1000) {base : Nat} : FV Tryz.prog 21 [.p (intsP l)] base (.p (intsP l)) [] := cli_p0 ⟨by simp, by omega⟩
def cla_S0 (l : List (List Int)) (i : Nat) (on : Nat) (oc : List PV) : St := ⟨fr 19 [(2, (.p nilS)), (3, (.own 0)), (6, (.p (rowsP l))), (7, (.p (intP ((l.length : Nat) : Int)))), (8, (.p (intP (i : Int))))], [some (.row 22 on oc)]⟩
theorem cla_p0 {l : List (List Int)} {i'0 : Nat} {o'1 : List (List Int)} (hl0 : LoopOK Tryz.prog 0 (sub (cd Tryz.f42) [1, 1, 0, 1, 0, 0]) (cla_S0 l 0 0 []) (.exit 0) (cla_S0 l i'0 o'1.length (o'1.map intsP))) {base : Nat} : FV Tryz.prog 42 [(.p (rowsP l))] base (.p (rowsP o'1)) [] := by
  exact FV.frz (FMM.fin (k := 0) (g := ⟨[], [], [0], []⟩) rfl Tryz.func42 rfl (o := [.k 8 ⟨(rng [(0, 2), (4, 2), (9, 9)]), [0], [], [(3, 22)]⟩ (.exit 0) (cla_S0 l i'0 o'1.length (o'1.map intsP))]) (l := [_]) (by kernel_rfl) (Good.c hl0.code Good.n)) (by kernel_rfl)
theorem cla_L0_p0 {l : List (List Int)} {i : Nat} {o : List (List Int)} {x100 : List Int} {i' : Nat} {o' : List (List Int)} (h0 : (i : Int) < ((l.length : Nat) : Int)) (h1 : l[i]? = some x100) (h2 : x100.length ≤ 1000) (h3 : [(intsP x100)].length = 1 * 1 ∧ o.length + 1 ≤ 1000000) (h4 : inR (((i + 1) : Nat) : Int)) (ei' : i' = (i + 1)) (eo'n : o'.length = (o.length + 1)) (eo'c : o'.map intsP = ((o.map intsP) ++ [(intsP x100)])) : CodeOK Tryz.prog 0 (sub (cd Tryz.f42) [1, 1, 0, 1, 0, 0]) (cla_S0 l i o.length (o.map intsP)) .normal (cla_S0 l i' o'.length (o'.map intsP)) := by
  subst ei'
  have raw : CodeOK Tryz.prog 0 (sub (cd Tryz.f42) [1, 1, 0, 1, 0, 0]) (cla_S0 l i o.length (o.map intsP)) .normal (cla_S0 l (i + 1) (o.length + 1) ((o.map intsP) ++ [(intsP x100)])) := CodeOK.fin (g := ⟨(rng [(0, 2), (4, 2), (9, 9)]), [2], [], []⟩) (o := [.b true, .x (intsP x100), .c (.p (intsP x100)) []]) (l := [_, _, FC Tryz.prog 21 [(.p (intsP x100))] [] 1 (.p (intsP x100)) [], (l.map intsP)[(i * 1)]? = some (intsP x100), 0 ≤ (i : Int) ∧ (i : Int) < ((l.length : Nat) : Int) ∧ (i * 1) < (l.map intsP).length, _]) (by kernel_rfl) (Good.c h4 (Good.c h3 (Good.c (FV.fc (cli_ok x100 h2) (by kernel_rfl)) (Good.c (at_map (i := i) h1) (Good.c (ix_map (i := (i : Int)) (Int.natCast_nonneg _) h1) (Good.c (q_lt h0) Good.n))))))
  exact raw.cast (by rw [eo'n, eo'c])
theorem cla_L0_p1 {l : List (List Int)} {i : Nat} {o : List (List Int)} (h0 : ((l.length : Nat) : Int) ≤ (i : Int)) : CodeOK Tryz.prog 0 (sub (cd Tryz.f42) [1, 1, 0, 1, 0, 0]) (cla_S0 l i o.length (o.map intsP)) (.exit 0) (cla_S0 l i o.length (o.map intsP)) := by
  exact CodeOK.fin (g := ⟨(rng [(0, 2), (4, 2), (9, 9)]), [0], [], []⟩) (o := [.b false]) (l := [_]) (by kernel_rfl) (Good.c (q_ltF h0) Good.n)
theorem cla_ok (l : List (List Int)) (hl : l.length ≤ 1000) (hr : ∀ r ∈ l, r.length ≤ 1000) {base : Nat} : FV Tryz.prog 42 [.p (rowsP l)] base (.p (rowsP l)) [] := by
  have h := LoopOK.count (P := Tryz.prog) (k := 0) (b := (sub (cd Tryz.f42) [1, 1, 0, 1, 0, 0])) (e := .exit 0) (R := cla_S0 l l.length l.length (l.map intsP)) l.length (fun i => cla_S0 l i (l.take i).length ((l.take i).map intsP))
    (fun i hi => cla_L0_p0 (o := l.take i) (o' := l.take (i + 1)) (by omega) (List.getElem?_eq_getElem hi) (hr _ (List.getElem_mem hi)) (by simp; omega) (inR_nat (by omega)) rfl (by simp; omega) (by rw [List.take_add_one, List.getElem?_eq_getElem hi, List.map_append]; rfl))
    (by rw [List.take_length]; exact cla_L0_p1 (by omega)) (by simp)
  exact cla_p0 (o'1 := l) h
theorem cln_p0 {c : KL.Cup} (h0 : c.pts.length ≤ 1000) (h1 : c.done.length ≤ 1000) (h2 : ∀ r ∈ c.done, r.length ≤ 1000) {base : Nat} : FV Tryz.prog 20 [(.p (cupP c))] base (.p (cupP c)) [] := by
  exact FV.fin Tryz.func20 rfl (o := [.c (.p (intsP c.pts)) [], .c (.p (rowsP c.done)) []]) (l := [FC Tryz.prog 42 [(.p (rowsP c.done))] [] 6 (.p (rowsP c.done)) [], FC Tryz.prog 21 [(.p (intsP c.pts))] [] 2 (.p (intsP c.pts)) []]) (by kernel_rfl) (Good.c (FV.fc (cla_ok c.done h1 h2) (by kernel_rfl)) (Good.c (FV.fc (cli_ok c.pts h0) (by kernel_rfl)) Good.n))
theorem cln_ok (c : KL.Cup) (hS : KL.Small c) {base : Nat} : FV Tryz.prog 20 [.p (cupP c)] base (.p (cupP c)) [] := cln_p0 hS.pts hS.done hS.rows
theorem counted_okI (c : KL.Cup) (k : Int) (hV : KL.Valid c) (h : 0 ≤ k ∧ k < c.sk) {base : Nat} : FV Tryz.prog 51 [.p (cupP c), .p (intP k)] base (.tup [.p (intsP (KL.countedL c k.toNat)), .p (intP 0)]) [] := by
  have := counted2_ok c hV k.toNat (by omega) (base := base)
  rwa [Int.toNat_of_nonneg h.1] at this
def bst_S0 (w : Int) (c0 : KL.Cup) (i : Nat) (psn : Nat) (psc : List PV) : St := ⟨fr 210 [(5, (.ptr 0 0)), (6, (.p (intP (w.tmod c0.sk)))), (7, (.p (intsP (KL.countedL c0 (w.tmod c0.sk).toNat)))), (8, (.p (intP 0))), (9, (.p (intsP (KL.totalsM c0)))), (11, (.own 1)), (69, (.p (intP ((c0.done.length : Nat) : Int)))), (70, (.p (intP (i : Int))))], [some (.box 25 [(.p (intP c0.sk)), (.p (intP c0.ra)), (.p (intP c0.be)), (.p (intsP c0.pts)), (.p (rowsP c0.done))]), some (.row 3 psn psc)]⟩
def bst_S1 (w : Int) (c0 : KL.Cup) (ps'4 : List Int) (u : Nat) (sm : Int) : St := ⟨fr 210 [(5, (.ptr 0 0)), (6, (.p (intP (w.tmod c0.sk)))), (7, (.p (intsP (KL.countedL c0 (w.tmod c0.sk).toNat)))), (8, (.p (intP 0))), (9, (.p (intsP (KL.totalsM c0)))), (11, (.own 1)), (15, (.p (intP sm))), (96, (.p (intsP (KL.countedL c0 (w.tmod c0.sk).toNat)))), (97, (.p (intP (((KL.countedL c0 (w.tmod c0.sk).toNat).length : Nat) : Int)))), (98, (.p (intP (u : Int))))], [some (.box 25 [(.p (intP c0.sk)), (.p (intP c0.ra)), (.p (intP c0.be)), (.p (intsP c0.pts)), (.p (rowsP c0.done))]), some (.row 3 ps'4.length (ps'4.map intP))]⟩
def bst_S3 (w : Int) (c0 : KL.Cup) (sm'6 : Int) (j : Nat) : St := ⟨fr 210 [(6, (.p (intP (w.tmod c0.sk)))), (9, (.p (intsP (KL.totalsM c0)))), (15, (.p (intP sm'6))), (21, (.p (intsP (KL.totalsM (⟨c0.sk, c0.ra, (if (c0.be + (1 : Int)) < c0.ra then (c0.be + (1 : Int)) else c0.ra), c0.pts, c0.done⟩ : KL.Cup))))), (187, (.p (intsP (KL.totalsM c0)))), (188, (.p (intP (((KL.totalsM c0).length : Nat) : Int)))), (189, (.p (intP (j : Int))))], []⟩
theorem bst_p4 {l : List Int} {w : Int} {c0 : KL.Cup} {m1 t2 : Int} {i'3 : Nat} {ps'4 : List Int} {u'5 : Nat} {sm'6 : Int} {j'7 : Nat} {x8 : Int} (h0 : 0 ≤ (0 : Int) ∧ (0 : Int) ≤ 100000) (h1 : 2 ≤ (8 : Int) ∧ (8 : Int) ≤ 12) (h2 : 1 ≤ (12 : Int) ∧ (12 : Int) ≤ 20) (h3 : madeM (8 : Int) (12 : Int) l (0 : Int) (17 : Int) = (c0, m1, t2)) (h4 : inR w) (h5 : c0.sk ≠ 0) (h6 : KL.Valid c0) (h7 : 0 ≤ (w.tmod c0.sk) ∧ (w.tmod c0.sk) < c0.sk) (h8 : 0 = (0 : Int)) (h9 : (((KL.totalsM c0).length : Nat) : Int) = c0.sk) (h10 : (((KL.countedL c0 (w.tmod c0.sk).toNat).length : Nat) : Int) = (if ((c0.done.length : Nat) : Int) < c0.be then ((c0.done.length : Nat) : Int) else c0.be)) (hl11 : LoopOK Tryz.prog 0 (sub (cd Tryz.f13) [1, 1, 1, 1, 1, 1, 1, 0, 1, 0, 0]) (bst_S0 w c0 0 0 []) (.exit 0) (bst_S0 w c0 i'3 ps'4.length (ps'4.map intP))) (hl12 : LoopOK Tryz.prog 0 (sub (cd Tryz.f13) [1, 1, 1, 1, 1, 1, 1, 1, 1, 0, 1, 0, 0]) (bst_S1 w c0 ps'4 0 (0 : Int)) (.exit 2) (bst_S1 w c0 ps'4 u'5 sm'6)) (h13 : KL.Small c0) (h14 : inR (c0.be + (1 : Int))) (h15 : KL.Valid (⟨c0.sk, c0.ra, (if (c0.be + (1 : Int)) < c0.ra then (c0.be + (1 : Int)) else c0.ra), c0.pts, c0.done⟩ : KL.Cup)) (h16 : (((KL.totalsM (⟨c0.sk, c0.ra, (if (c0.be + (1 : Int)) < c0.ra then (c0.be + (1 : Int)) else c0.ra), c0.pts, c0.done⟩ : KL.Cup)).length : Nat) : Int) = c0.sk) (hl17 : LoopOK Tryz.prog 0 (sub (cd Tryz.f13) [1, 1, 1, 1, 1, 1, 1, 1, 1, 1, 1, 1, 1, 1, 0, 1, 0, 0]) (bst_S3 w c0 sm'6 0) (.exit 6) (bst_S3 w c0 sm'6 j'7)) (h18 : (KL.totalsM c0)[(w.tmod c0.sk).toNat]? = some x8) (h19 : 0 ≤ (w.tmod c0.sk)) (h20 : sm'6 = x8) {base : Nat} : FV Tryz.prog 13 [(.p (.sl l.length (l.map byteP))), (.p (.v (.int .u8 w)))] base (.p (blP true)) [] := by
  exact FV.fin Tryz.func13 rfl (o := [.c (.ptr 0 0) [(0, (deckO l 0 (17 : Int)))], .c (.p (cupP c0)) [(0, (deckO l m1 t2))], .c (.tup [(.p (intsP (KL.countedL c0 (w.tmod c0.sk).toNat))), (.p (intP 0))]) [], .c (.tup [(.p (intsP (KL.totalsM c0))), (.p (intP 0))]) [], .b false, .b false, .b false, .b false, .b false, .b false, .b false, .b false, .b false, .b false, .b false, .b false, .b false, .b false, .b false, .b false, .b false, .b false, .b false, .b false, .k 6 ⟨(rng [(0, 5), (10, 1), (12, 3), (24, 45), (71, 25)]), [1, 2], [], [(11, 3)]⟩ (.exit 0) (bst_S0 w c0 i'3 ps'4.length (ps'4.map intP)), .k 6 ⟨(rng [(0, 5), (10, 1), (12, 3), (16, 4), (24, 72), (99, 65)]), [0, 1], [], []⟩ (.exit 2) (bst_S1 w c0 ps'4 u'5 sm'6), .c (.p (cupP c0)) [], .c (.tup [(.p (intsP (KL.totalsM (⟨c0.sk, c0.ra, (if (c0.be + (1 : Int)) < c0.ra then (c0.be + (1 : Int)) else c0.ra), c0.pts, c0.done⟩ : KL.Cup)))), (.p (intP 0))]) [], .b false, .b false, .b false, .b false, .b false, .b false, .b false, .k 4 ⟨(rng [(0, 6), (7, 2), (10, 5), (16, 5), (22, 165), (190, 11)]), [], [], []⟩ (.exit 6) (bst_S3 w c0 sm'6 j'7), .x (intP x8), .b true, .c (.p (blP true)) [], .b true]) (l := [_, FC Tryz.prog 19 [] [] 0 (.p (blP true)) [], _, ((KL.totalsM c0).map intP)[((w.tmod c0.sk).toNat * 1)]? = some (intP x8), 0 ≤ (w.tmod c0.sk) ∧ (w.tmod c0.sk) < (((KL.totalsM c0).length : Nat) : Int) ∧ ((w.tmod c0.sk).toNat * 1) < ((KL.totalsM c0).map intP).length, _, _, _, _, _, _, _, _, FC Tryz.prog 30 [(.p (.agg [(intP c0.sk), (intP c0.ra), (intP (if (c0.be + (1 : Int)) < c0.ra then (c0.be + (1 : Int)) else c0.ra)), (intsP c0.pts), (rowsP c0.done)]))] [] 3 (.tup [(.p (intsP (KL.totalsM (⟨c0.sk, c0.ra, (if (c0.be + (1 : Int)) < c0.ra then (c0.be + (1 : Int)) else c0.ra), c0.pts, c0.done⟩ : KL.Cup)))), (.p (intP 0))]) [], _, FC Tryz.prog 20 [(.p (cupP c0))] [] 2 (.p (cupP c0)) [], _, _, _, _, _, _, _, _, _, _, _, _, _, _, _, _, _, _, _, _, _, _, FC Tryz.prog 30 [(.p (cupP c0))] [] 2 (.tup [(.p (intsP (KL.totalsM c0))), (.p (intP 0))]) [], FC Tryz.prog 51 [(.p (cupP c0)), (.p (intP (w.tmod c0.sk)))] [] 2 (.tup [(.p (intsP (KL.countedL c0 (w.tmod c0.sk).toNat))), (.p (intP 0))]) [], _, _, FC Tryz.prog 26 [(.ptr 0 0), (.p (intP 8)), (.p (intP 12))] [(0, (deckO l 0 (17 : Int)))] 1 (.p (cupP c0)) [(0, (deckO l m1 t2))], FC Tryz.prog 27 [(.p (.sl l.length (l.map byteP)))] [] 0 (.ptr 0 0) [(0, (deckO l 0 (17 : Int)))]]) (by kernel_rfl) (Good.c (q_eq h20) (Good.c (FV.fc (awake_ok _) (by kernel_rfl)) (Good.c (q_eq h20) (Good.c (at_map (i := (w.tmod c0.sk).toNat) h18) (Good.c (ix_map (i := (w.tmod c0.sk)) h19 h18) (Good.c hl17.code (Good.c (q_neF h16) (Good.c (q_neF h8) (Good.c (q_neF h8) (Good.c (q_neF h8) (Good.c (q_neF h8) (Good.c (q_neF h8) (Good.c (q_neF h8) (Good.c (FV.fc (totals2_ok (⟨c0.sk, c0.ra, (if (c0.be + (1 : Int)) < c0.ra then (c0.be + (1 : Int)) else c0.ra), c0.pts, c0.done⟩ : KL.Cup) h15) (by kernel_rfl)) (Good.c h14 (Good.c (FV.fc (cln_ok c0 h13) (by kernel_rfl)) (Good.c hl12.code (Good.c hl11.code (Good.c (q_neF h10) (Good.c (q_neF h9) (Good.c (q_neF h9) (Good.c (q_neF h9) (Good.c (q_neF h9) (Good.c (q_neF h9) (Good.c (q_neF h9) (Good.c (q_neF h9) (Good.c (q_neF h9) (Good.c (q_neF h9) (Good.c (q_neF h9) (Good.c (q_neF h8) (Good.c (q_neF h8) (Good.c (q_neF h8) (Good.c (q_neF h8) (Good.c (q_neF h8) (Good.c (q_neF h8) (Good.c (q_neF h8) (Good.c (q_neF h8) (Good.c (q_neF h8) (Good.c (FV.fc (totals2_ok c0 h6) (by kernel_rfl)) (Good.c (FV.fc (counted_okI c0 (w.tmod c0.sk) h6 h7) (by kernel_rfl)) (Good.c h5 (Good.c h4 (Good.c (FMM.fc (ids := [0]) (made_eq (8 : Int) (12 : Int) l (0 : Int) (17 : Int) h0 h1 h2 h3) (by kernel_rfl)) (Good.c (FMM.fc (ids := []) (of_ok l) (by kernel_rfl)) Good.n))))))))))))))))))))))))))))))))))))))))))))
theorem bst_L0_p2 {w : Int} {c0 : KL.Cup} {i : Nat} {ps : List Int} {x100 : Int} {i' : Nat} {ps' : List Int} (h0 : (i : Int) < ((c0.done.length : Nat) : Int)) (h1 : KL.Valid c0) (h2 : 0 ≤ (i : Int) ∧ (i : Int) < (c0.done.length : Int)) (h3 : 0 = (0 : Int)) (h4 : (((scoreL c0 (c0.done.getD (i : Int).toNat [])).length : Nat) : Int) = c0.sk) (h5 : (scoreL c0 (c0.done.getD (i : Int).toNat []))[(w.tmod c0.sk).toNat]? = some x100) (h6 : 0 ≤ (w.tmod c0.sk)) (h7 : [(intP x100)].length = 1 * 1 ∧ ps.length + 1 ≤ 1000000) (h8 : inR (((i + 1) : Nat) : Int)) (ei' : i' = (i + 1)) (eps'n : ps'.length = (ps.length + 1)) (eps'c : ps'.map intP = ((ps.map intP) ++ [(intP x100)])) : CodeOK Tryz.prog 0 (sub (cd Tryz.f13) [1, 1, 1, 1, 1, 1, 1, 0, 1, 0, 0]) (bst_S0 w c0 i ps.length (ps.map intP)) .normal (bst_S0 w c0 i' ps'.length (ps'.map intP)) := by
  subst ei'
  have raw : CodeOK Tryz.prog 0 (sub (cd Tryz.f13) [1, 1, 1, 1, 1, 1, 1, 0, 1, 0, 0]) (bst_S0 w c0 i ps.length (ps.map intP)) .normal (bst_S0 w c0 (i + 1) (ps.length + 1) ((ps.map intP) ++ [(intP x100)])) := CodeOK.fin (g := ⟨(rng [(0, 5), (10, 1), (12, 3), (24, 45), (71, 25)]), [0, 4], [], []⟩) (o := [.b true, .c (.tup [(.own 2), (.p (intP 0))]) [(2, (.row 3 ((scoreL c0 (c0.done.getD (i : Int).toNat [])).length) ((scoreL c0 (c0.done.getD (i : Int).toNat [])).map intP)))], .b false, .b false, .b false, .b false, .b false, .b false, .b false, .x (intP x100)]) (l := [_, _, ((scoreL c0 (c0.done.getD (i : Int).toNat [])).map intP)[((w.tmod c0.sk).toNat * 1)]? = some (intP x100), _, _, _, _, _, _, _, _, FC Tryz.prog 32 [(.p (cupP c0)), (.p (intP (i : Int)))] [] 2 (.tup [(.own 2), (.p (intP 0))]) [(2, (.row 3 ((scoreL c0 (c0.done.getD (i : Int).toNat [])).length) ((scoreL c0 (c0.done.getD (i : Int).toNat [])).map intP)))], _]) (by kernel_rfl) (Good.c h8 (Good.c h7 (Good.c (at_map (i := (w.tmod c0.sk).toNat) h5) (Good.c (ix_own (i := (w.tmod c0.sk)) h6 h5) (Good.c (q_neF h4) (Good.c (q_neF h3) (Good.c (q_neF h3) (Good.c (q_neF h3) (Good.c (q_neF h3) (Good.c (q_neF h3) (Good.c (q_neF h3) (Good.c (FV.fc (score_okI c0 (i : Int) h1 h2) (by kernel_rfl)) (Good.c (q_lt h0) Good.n)))))))))))))
  exact raw.cast (by rw [eps'n, eps'c])
theorem bst_L0_p3 {w : Int} {c0 : KL.Cup} {i : Nat} {ps : List Int} (h0 : ((c0.done.length : Nat) : Int) ≤ (i : Int)) : CodeOK Tryz.prog 0 (sub (cd Tryz.f13) [1, 1, 1, 1, 1, 1, 1, 0, 1, 0, 0]) (bst_S0 w c0 i ps.length (ps.map intP)) (.exit 0) (bst_S0 w c0 i ps.length (ps.map intP)) := by
  exact CodeOK.fin (g := ⟨(rng [(0, 5), (10, 1), (12, 3), (24, 45), (71, 25)]), [0, 1], [], []⟩) (o := [.b false]) (l := [_]) (by kernel_rfl) (Good.c (q_ltF h0) Good.n)
def bst_S2 (w : Int) (c0 : KL.Cup) (ps'4 : List Int) (u : Nat) (v : Nat) (n : Int) (s2 : Int) : St := ⟨fr 210 [(5, (.ptr 0 0)), (6, (.p (intP (w.tmod c0.sk)))), (7, (.p (intsP (KL.countedL c0 (w.tmod c0.sk).toNat)))), (8, (.p (intP 0))), (9, (.p (intsP (KL.totalsM c0)))), (11, (.own 1)), (15, (.p (intP s2))), (17, (.p (intP n))), (96, (.p (intsP (KL.countedL c0 (w.tmod c0.sk).toNat)))), (97, (.p (intP (((KL.countedL c0 (w.tmod c0.sk).toNat).length : Nat) : Int)))), (98, (.p (intP (u : Int)))), (130, (.own 1)), (131, (.p (intP ((ps'4.length : Nat) : Int)))), (132, (.p (intP (v : Int))))], [some (.box 25 [(.p (intP c0.sk)), (.p (intP c0.ra)), (.p (intP c0.be)), (.p (intsP c0.pts)), (.p (rowsP c0.done))]), some (.row 3 ps'4.length (ps'4.map intP))]⟩
theorem bst_L1_p3 {w : Int} {c0 : KL.Cup} {ps'4 : List Int} {u : Nat} {sm x200 x201 x202 : Int} {v'203 : Nat} {n'204 s2'205 : Int} {u' : Nat} (h0 : (u : Int) < (((KL.countedL c0 (w.tmod c0.sk).toNat).length : Nat) : Int)) (h1 : (KL.countedL c0 (w.tmod c0.sk).toNat)[u]? = some x200) (h2 : (0 : Int) ≤ x200) (h3 : x200 < ((ps'4.length : Nat) : Int)) (h4 : (0 : Int) < (u : Int)) (h5 : inR ((u : Int) - (1 : Int))) (h6 : (KL.countedL c0 (w.tmod c0.sk).toNat)[((u : Int) - (1 : Int)).toNat]? = some x201) (h7 : 0 ≤ ((u : Int) - (1 : Int))) (h8 : x201 < x200) (h9 : ps'4[x200.toNat]? = some x202) (h10 : 0 ≤ x200) (h11 : inR (sm + x202)) (hl12 : LoopOK Tryz.prog 0 (sub (cd Tryz.f13) [1, 1, 1, 1, 1, 1, 1, 1, 1, 0, 1, 0, 0, 1, 1, 0, 0, 1, 1, 1, 1, 0, 0]) (bst_S2 w c0 ps'4 u 0 x200 (sm + x202)) (.exit 4) (bst_S2 w c0 ps'4 u v'203 n'204 s2'205)) (h13 : inR (((u + 1) : Nat) : Int)) (eu' : u' = (u + 1)) : CodeOK Tryz.prog 0 (sub (cd Tryz.f13) [1, 1, 1, 1, 1, 1, 1, 1, 1, 0, 1, 0, 0]) (bst_S1 w c0 ps'4 u sm) .normal (bst_S1 w c0 ps'4 u' s2'205) := by
  subst eu'
  exact CodeOK.fin (g := ⟨(rng [(0, 5), (10, 1), (12, 3), (16, 4), (24, 72), (99, 65)]), [0, 1], [], []⟩) (o := [.b true, .x (intP x200), .b false, .b false, .b false, .b false, .b false, .b false, .b false, .b false, .b true, .b true, .b true, .b true, .b true, .x (intP x201), .b true, .b true, .b false, .b true, .b false, .b false, .x (intP x202), .k 3 ⟨(rng [(0, 5), (10, 1), (12, 3), (16, 1), (18, 2), (24, 72), (99, 31), (133, 30)]), [0, 1], [], []⟩ (.exit 4) (bst_S2 w c0 ps'4 u v'203 n'204 s2'205)]) (l := [_, _, _, (ps'4.map intP)[(x200.toNat * 1)]? = some (intP x202), _, _, _, _, _, _, _, ((KL.countedL c0 (w.tmod c0.sk).toNat).map intP)[(((u : Int) - (1 : Int)).toNat * 1)]? = some (intP x201), _, 0 ≤ ((u : Int) - (1 : Int)) ∧ ((u : Int) - (1 : Int)) < (((KL.countedL c0 (w.tmod c0.sk).toNat).length : Nat) : Int) ∧ (((u : Int) - (1 : Int)).toNat * 1) < ((KL.countedL c0 (w.tmod c0.sk).toNat).map intP).length, _, _, _, _, _, _, _, _, _, _, _, _, _, ((KL.countedL c0 (w.tmod c0.sk).toNat).map intP)[(u * 1)]? = some (intP x200), 0 ≤ (u : Int) ∧ (u : Int) < (((KL.countedL c0 (w.tmod c0.sk).toNat).length : Nat) : Int) ∧ (u * 1) < ((KL.countedL c0 (w.tmod c0.sk).toNat).map intP).length, _]) (by kernel_rfl) (Good.c h13 (Good.c hl12.code (Good.c h11 (Good.c (at_map (i := x200.toNat) h9) (Good.c (ix_own (i := x200) h10 h9) (Good.c (q_leF h8) (Good.c (q_leF h3) (Good.c (q_lt h4) (Good.c (q_leF h3) (Good.c (q_lt h4) (Good.c (q_lt h4) (Good.c (at_map (i := ((u : Int) - (1 : Int)).toNat) h6) (Good.c (q_lt h4) (Good.c (ix_map (i := ((u : Int) - (1 : Int))) h7 h6) (Good.c (q_lt h4) (Good.c h5 (Good.c (q_lt h4) (Good.c (q_lt h4) (Good.c (q_lt h4) (Good.c (q_leF h3) (Good.c (q_leF h3) (Good.c (q_leF h3) (Good.c (q_ltF h2) (Good.c (q_ltF h2) (Good.c (q_ltF h2) (Good.c (q_ltF h2) (Good.c (q_ltF h2) (Good.c (at_map (i := u) h1) (Good.c (ix_map (i := (u : Int)) (Int.natCast_nonneg _) h1) (Good.c (q_lt h0) Good.n))))))))))))))))))))))))))))))
theorem bst_L1_p4 {w : Int} {c0 : KL.Cup} {ps'4 : List Int} {u : Nat} {sm x200 x201 : Int} {v'202 : Nat} {n'203 s2'204 : Int} {u' : Nat} (h0 : (u : Int) < (((KL.countedL c0 (w.tmod c0.sk).toNat).length : Nat) : Int)) (h1 : (KL.countedL c0 (w.tmod c0.sk).toNat)[u]? = some x200) (h2 : (0 : Int) ≤ x200) (h3 : x200 < ((ps'4.length : Nat) : Int)) (h4 : (u : Int) ≤ (0 : Int)) (h5 : ps'4[x200.toNat]? = some x201) (h6 : 0 ≤ x200) (h7 : inR (sm + x201)) (hl8 : LoopOK Tryz.prog 0 (sub (cd Tryz.f13) [1, 1, 1, 1, 1, 1, 1, 1, 1, 0, 1, 0, 0, 1, 1, 0, 0, 1, 1, 1, 1, 0, 0]) (bst_S2 w c0 ps'4 u 0 x200 (sm + x201)) (.exit 4) (bst_S2 w c0 ps'4 u v'202 n'203 s2'204)) (h9 : inR (((u + 1) : Nat) : Int)) (eu' : u' = (u + 1)) : CodeOK Tryz.prog 0 (sub (cd Tryz.f13) [1, 1, 1, 1, 1, 1, 1, 1, 1, 0, 1, 0, 0]) (bst_S1 w c0 ps'4 u sm) .normal (bst_S1 w c0 ps'4 u' s2'204) := by
  subst eu'
  exact CodeOK.fin (g := ⟨(rng [(0, 5), (10, 1), (12, 3), (16, 4), (24, 72), (99, 65)]), [0, 1], [], []⟩) (o := [.b true, .x (intP x200), .b false, .b false, .b false, .b false, .b false, .b false, .b false, .b false, .b false, .b false, .b false, .b false, .b false, .b false, .b false, .b false, .b false, .b false, .x (intP x201), .k 3 ⟨(rng [(0, 5), (10, 1), (12, 3), (16, 1), (18, 2), (24, 72), (99, 31), (133, 30)]), [0, 1], [], []⟩ (.exit 4) (bst_S2 w c0 ps'4 u v'202 n'203 s2'204)]) (l := [_, _, _, (ps'4.map intP)[(x200.toNat * 1)]? = some (intP x201), _, _, _, _, _, _, _, _, _, _, _, _, _, _, _, _, _, _, _, ((KL.countedL c0 (w.tmod c0.sk).toNat).map intP)[(u * 1)]? = some (intP x200), 0 ≤ (u : Int) ∧ (u : Int) < (((KL.countedL c0 (w.tmod c0.sk).toNat).length : Nat) : Int) ∧ (u * 1) < ((KL.countedL c0 (w.tmod c0.sk).toNat).map intP).length, _]) (by kernel_rfl) (Good.c h9 (Good.c hl8.code (Good.c h7 (Good.c (at_map (i := x200.toNat) h5) (Good.c (ix_own (i := x200) h6 h5) (Good.c (q_leF h3) (Good.c (q_ltF h4) (Good.c (q_leF h3) (Good.c (q_ltF h4) (Good.c (q_ltF h4) (Good.c (q_ltF h4) (Good.c (q_ltF h4) (Good.c (q_ltF h4) (Good.c (q_ltF h4) (Good.c (q_ltF h4) (Good.c (q_leF h3) (Good.c (q_leF h3) (Good.c (q_leF h3) (Good.c (q_ltF h2) (Good.c (q_ltF h2) (Good.c (q_ltF h2) (Good.c (q_ltF h2) (Good.c (q_ltF h2) (Good.c (at_map (i := u) h1) (Good.c (ix_map (i := (u : Int)) (Int.natCast_nonneg _) h1) (Good.c (q_lt h0) Good.n))))))))))))))))))))))))))
theorem bst_L1_p5 {w : Int} {c0 : KL.Cup} {ps'4 : List Int} {u : Nat} {sm : Int} (h0 : (((KL.countedL c0 (w.tmod c0.sk).toNat).length : Nat) : Int) ≤ (u : Int)) : CodeOK Tryz.prog 0 (sub (cd Tryz.f13) [1, 1, 1, 1, 1, 1, 1, 1, 1, 0, 1, 0, 0]) (bst_S1 w c0 ps'4 u sm) (.exit 2) (bst_S1 w c0 ps'4 u sm) := by
  exact CodeOK.fin (g := ⟨(rng [(0, 5), (10, 1), (12, 3), (16, 4), (24, 72), (99, 65)]), [0, 1], [], []⟩) (o := [.b false]) (l := [_]) (by kernel_rfl) (Good.c (q_ltF h0) Good.n)
theorem bst_L3_p1 {w : Int} {c0 : KL.Cup} {sm'6 : Int} {j : Nat} {x400 x401 : Int} {j' : Nat} (h0 : (j : Int) < (((KL.totalsM c0).length : Nat) : Int)) (h1 : (KL.totalsM c0)[j]? = some x400) (h2 : (KL.totalsM (⟨c0.sk, c0.ra, (if (c0.be + (1 : Int)) < c0.ra then (c0.be + (1 : Int)) else c0.ra), c0.pts, c0.done⟩ : KL.Cup))[j]? = some x401) (h3 : x400 ≤ x401) (h4 : inR (((j + 1) : Nat) : Int)) (ej' : j' = (j + 1)) : CodeOK Tryz.prog 0 (sub (cd Tryz.f13) [1, 1, 1, 1, 1, 1, 1, 1, 1, 1, 1, 1, 1, 1, 0, 1, 0, 0]) (bst_S3 w c0 sm'6 j) .normal (bst_S3 w c0 sm'6 j') := by
  subst ej'
  exact CodeOK.fin (g := ⟨(rng [(0, 6), (7, 2), (10, 5), (16, 5), (22, 165), (190, 11)]), [], [], []⟩) (o := [.b true, .x (intP x400), .x (intP x401), .b false]) (l := [_, _, ((KL.totalsM (⟨c0.sk, c0.ra, (if (c0.be + (1 : Int)) < c0.ra then (c0.be + (1 : Int)) else c0.ra), c0.pts, c0.done⟩ : KL.Cup)).map intP)[(j * 1)]? = some (intP x401), 0 ≤ (j : Int) ∧ (j : Int) < (((KL.totalsM (⟨c0.sk, c0.ra, (if (c0.be + (1 : Int)) < c0.ra then (c0.be + (1 : Int)) else c0.ra), c0.pts, c0.done⟩ : KL.Cup)).length : Nat) : Int) ∧ (j * 1) < ((KL.totalsM (⟨c0.sk, c0.ra, (if (c0.be + (1 : Int)) < c0.ra then (c0.be + (1 : Int)) else c0.ra), c0.pts, c0.done⟩ : KL.Cup)).map intP).length, ((KL.totalsM c0).map intP)[(j * 1)]? = some (intP x400), 0 ≤ (j : Int) ∧ (j : Int) < (((KL.totalsM c0).length : Nat) : Int) ∧ (j * 1) < ((KL.totalsM c0).map intP).length, _]) (by kernel_rfl) (Good.c h4 (Good.c (q_ltF h3) (Good.c (at_map (i := j) h2) (Good.c (ix_map (i := (j : Int)) (Int.natCast_nonneg _) h2) (Good.c (at_map (i := j) h1) (Good.c (ix_map (i := (j : Int)) (Int.natCast_nonneg _) h1) (Good.c (q_lt h0) Good.n)))))))
theorem bst_L3_p2 {w : Int} {c0 : KL.Cup} {sm'6 : Int} {j : Nat} (h0 : (((KL.totalsM c0).length : Nat) : Int) ≤ (j : Int)) : CodeOK Tryz.prog 0 (sub (cd Tryz.f13) [1, 1, 1, 1, 1, 1, 1, 1, 1, 1, 1, 1, 1, 1, 0, 1, 0, 0]) (bst_S3 w c0 sm'6 j) (.exit 6) (bst_S3 w c0 sm'6 j) := by
  exact CodeOK.fin (g := ⟨(rng [(0, 6), (7, 2), (10, 5), (16, 5), (22, 165), (190, 11)]), [], [], []⟩) (o := [.b false]) (l := [_]) (by kernel_rfl) (Good.c (q_ltF h0) Good.n)
theorem bst_L2_p2 {w : Int} {c0 : KL.Cup} {ps'4 : List Int} {u v : Nat} {n s2 x300 x301 : Int} {v' : Nat} (h0 : (v : Int) < ((ps'4.length : Nat) : Int)) (h1 : ps'4[v]? = some x300) (h2 : small (KL.countedL c0 (w.tmod c0.sk).toNat).length) (h3 : ((KL.countedL c0 (w.tmod c0.sk).toNat).any fun x => decide ((v : Int) = x)) = false) (h4 : ps'4[n.toNat]? = some x301) (h5 : 0 ≤ n) (h6 : x300 ≤ x301) (h7 : x300 = x301) (h8 : n ≤ (v : Int)) (h9 : inR (((v + 1) : Nat) : Int)) (ev' : v' = (v + 1)) : CodeOK Tryz.prog 0 (sub (cd Tryz.f13) [1, 1, 1, 1, 1, 1, 1, 1, 1, 0, 1, 0, 0, 1, 1, 0, 0, 1, 1, 1, 1, 0, 0]) (bst_S2 w c0 ps'4 u v n s2) .normal (bst_S2 w c0 ps'4 u v' n s2) := by
  subst ev'
  exact CodeOK.fin (g := ⟨(rng [(0, 5), (10, 1), (12, 3), (16, 1), (18, 2), (24, 72), (99, 31), (133, 30)]), [0, 1], [], []⟩) (o := [.b true, .x (intP x300), .c (.p (blP ((KL.countedL c0 (w.tmod c0.sk).toNat).any fun x => decide ((v : Int) = x)))) [], .b true, .b true, .b true, .b true, .b true, .x (intP x301), .b true, .b true, .b false, .b false, .b false, .b false, .b false, .x (intP x301), .b false, .b false, .b true, .b true, .b true, .b false, .b true, .b true, .b false, .b true, .b false]) (l := [_, _, _, _, _, _, _, _, _, _, _, _, (ps'4.map intP)[(n.toNat * 1)]? = some (intP x301), _, _, _, _, _, _, _, _, (ps'4.map intP)[(n.toNat * 1)]? = some (intP x301), _, _, _, _, _, _, FC Tryz.prog 41 [(.p (intsP (KL.countedL c0 (w.tmod c0.sk).toNat))), (.p (intP (v : Int)))] [] 2 (.p (blP ((KL.countedL c0 (w.tmod c0.sk).toNat).any fun x => decide ((v : Int) = x)))) [], (ps'4.map intP)[(v * 1)]? = some (intP x300), _, _]) (by kernel_rfl) (Good.c h9 (Good.c (q_ltF h8) (Good.c (q_not h3) (Good.c (q_ltF h6) (Good.c (q_not h3) (Good.c (q_eq h7) (Good.c (q_ltF h6) (Good.c (q_eq h7) (Good.c (q_eq h7) (Good.c (q_eq h7) (Good.c (q_ltF h6) (Good.c (q_ltF h6) (Good.c (at_map (i := n.toNat) h4) (Good.c (q_ltF h6) (Good.c (ix_own (i := n) h5 h4) (Good.c (q_ltF h6) (Good.c (q_ltF h6) (Good.c (q_ltF h6) (Good.c (q_ltF h6) (Good.c (q_not h3) (Good.c (q_not h3) (Good.c (at_map (i := n.toNat) h4) (Good.c (q_not h3) (Good.c (ix_own (i := n) h5 h4) (Good.c (q_not h3) (Good.c (q_not h3) (Good.c (q_not h3) (Good.c (q_not h3) (Good.c (FV.fc (hasV_ok (KL.countedL c0 (w.tmod c0.sk).toNat) (v : Int) h2) (by kernel_rfl)) (Good.c (at_map (i := v) h1) (Good.c (ix_own (i := (v : Int)) (Int.natCast_nonneg _) h1) (Good.c (q_lt h0) Good.n))))))))))))))))))))))))))))))))
theorem bst_L2_p3 {w : Int} {c0 : KL.Cup} {ps'4 : List Int} {u v : Nat} {n s2 x300 x301 : Int} {v' : Nat} (h0 : (v : Int) < ((ps'4.length : Nat) : Int)) (h1 : ps'4[v]? = some x300) (h2 : small (KL.countedL c0 (w.tmod c0.sk).toNat).length) (h3 : ((KL.countedL c0 (w.tmod c0.sk).toNat).any fun x => decide ((v : Int) = x)) = false) (h4 : ps'4[n.toNat]? = some x301) (h5 : 0 ≤ n) (h6 : x300 ≤ x301) (h7 : x300 ≠ x301) (h8 : inR (((v + 1) : Nat) : Int)) (ev' : v' = (v + 1)) : CodeOK Tryz.prog 0 (sub (cd Tryz.f13) [1, 1, 1, 1, 1, 1, 1, 1, 1, 0, 1, 0, 0, 1, 1, 0, 0, 1, 1, 1, 1, 0, 0]) (bst_S2 w c0 ps'4 u v n s2) .normal (bst_S2 w c0 ps'4 u v' n s2) := by
  subst ev'
  exact CodeOK.fin (g := ⟨(rng [(0, 5), (10, 1), (12, 3), (16, 1), (18, 2), (24, 72), (99, 31), (133, 30)]), [0, 1], [], []⟩) (o := [.b true, .x (intP x300), .c (.p (blP ((KL.countedL c0 (w.tmod c0.sk).toNat).any fun x => decide ((v : Int) = x)))) [], .b true, .b true, .b true, .b true, .b true, .x (intP x301), .b true, .b true, .b false, .b false, .b false, .b false, .b false, .x (intP x301), .b false, .b false, .b false, .b false, .b false, .b false, .b false, .b true, .b false, .b true]) (l := [_, _, _, _, _, _, _, _, _, _, _, (ps'4.map intP)[(n.toNat * 1)]? = some (intP x301), _, _, _, _, _, _, _, _, (ps'4.map intP)[(n.toNat * 1)]? = some (intP x301), _, _, _, _, _, _, FC Tryz.prog 41 [(.p (intsP (KL.countedL c0 (w.tmod c0.sk).toNat))), (.p (intP (v : Int)))] [] 2 (.p (blP ((KL.countedL c0 (w.tmod c0.sk).toNat).any fun x => decide ((v : Int) = x)))) [], (ps'4.map intP)[(v * 1)]? = some (intP x300), _, _]) (by kernel_rfl) (Good.c h8 (Good.c (q_not h3) (Good.c (q_ltF h6) (Good.c (q_not h3) (Good.c (q_ne h7) (Good.c (q_ltF h6) (Good.c (q_ne h7) (Good.c (q_ne h7) (Good.c (q_ne h7) (Good.c (q_ltF h6) (Good.c (q_ltF h6) (Good.c (at_map (i := n.toNat) h4) (Good.c (q_ltF h6) (Good.c (ix_own (i := n) h5 h4) (Good.c (q_ltF h6) (Good.c (q_ltF h6) (Good.c (q_ltF h6) (Good.c (q_ltF h6) (Good.c (q_not h3) (Good.c (q_not h3) (Good.c (at_map (i := n.toNat) h4) (Good.c (q_not h3) (Good.c (ix_own (i := n) h5 h4) (Good.c (q_not h3) (Good.c (q_not h3) (Good.c (q_not h3) (Good.c (q_not h3) (Good.c (FV.fc (hasV_ok (KL.countedL c0 (w.tmod c0.sk).toNat) (v : Int) h2) (by kernel_rfl)) (Good.c (at_map (i := v) h1) (Good.c (ix_own (i := (v : Int)) (Int.natCast_nonneg _) h1) (Good.c (q_lt h0) Good.n)))))))))))))))))))))))))))))))
theorem bst_L2_p4 {w : Int} {c0 : KL.Cup} {ps'4 : List Int} {u v : Nat} {n s2 x300 : Int} {v' : Nat} (h0 : (v : Int) < ((ps'4.length : Nat) : Int)) (h1 : ps'4[v]? = some x300) (h2 : small (KL.countedL c0 (w.tmod c0.sk).toNat).length) (h3 : ((KL.countedL c0 (w.tmod c0.sk).toNat).any fun x => decide ((v : Int) = x)) = true) (h4 : inR (((v + 1) : Nat) : Int)) (ev' : v' = (v + 1)) : CodeOK Tryz.prog 0 (sub (cd Tryz.f13) [1, 1, 1, 1, 1, 1, 1, 1, 1, 0, 1, 0, 0, 1, 1, 0, 0, 1, 1, 1, 1, 0, 0]) (bst_S2 w c0 ps'4 u v n s2) .normal (bst_S2 w c0 ps'4 u v' n s2) := by
  subst ev'
  exact CodeOK.fin (g := ⟨(rng [(0, 5), (10, 1), (12, 3), (16, 1), (18, 2), (24, 72), (99, 31), (133, 30)]), [0, 1], [], []⟩) (o := [.b true, .x (intP x300), .c (.p (blP ((KL.countedL c0 (w.tmod c0.sk).toNat).any fun x => decide ((v : Int) = x)))) [], .b false, .b false, .b false, .b false, .b false, .b false, .b false, .b false, .b false]) (l := [_, _, _, _, _, _, _, _, _, _, FC Tryz.prog 41 [(.p (intsP (KL.countedL c0 (w.tmod c0.sk).toNat))), (.p (intP (v : Int)))] [] 2 (.p (blP ((KL.countedL c0 (w.tmod c0.sk).toNat).any fun x => decide ((v : Int) = x)))) [], (ps'4.map intP)[(v * 1)]? = some (intP x300), _, _]) (by kernel_rfl) (Good.c h4 (Good.c (q_notF h3) (Good.c (q_notF h3) (Good.c (q_notF h3) (Good.c (q_notF h3) (Good.c (q_notF h3) (Good.c (q_notF h3) (Good.c (q_notF h3) (Good.c (q_notF h3) (Good.c (q_notF h3) (Good.c (FV.fc (hasV_ok (KL.countedL c0 (w.tmod c0.sk).toNat) (v : Int) h2) (by kernel_rfl)) (Good.c (at_map (i := v) h1) (Good.c (ix_own (i := (v : Int)) (Int.natCast_nonneg _) h1) (Good.c (q_lt h0) Good.n))))))))))))))
theorem bst_L2_p5 {w : Int} {c0 : KL.Cup} {ps'4 : List Int} {u v : Nat} {n s2 : Int} (h0 : ((ps'4.length : Nat) : Int) ≤ (v : Int)) : CodeOK Tryz.prog 0 (sub (cd Tryz.f13) [1, 1, 1, 1, 1, 1, 1, 1, 1, 0, 1, 0, 0, 1, 1, 0, 0, 1, 1, 1, 1, 0, 0]) (bst_S2 w c0 ps'4 u v n s2) (.exit 4) (bst_S2 w c0 ps'4 u v n s2) := by
  exact CodeOK.fin (g := ⟨(rng [(0, 5), (10, 1), (12, 3), (16, 1), (18, 2), (24, 72), (99, 31), (133, 30)]), [0, 1], [], []⟩) (o := [.b false]) (l := [_]) (by kernel_rfl) (Good.c (q_ltF h0) Good.n)
end KV
end Go.Proofs
end
section
namespace Go.Proofs
open KL Go.RowKit
namespace KL
section
variable {α : Type}
theorem ins_stable {f g : α → Int} {lt : α → α → Bool} (hlt : ∀ x y, lt x y = decide (f x < f y)) {A : List α} (x : α) (hs : A.Pairwise (fun a b => f a < f b ∨ f a = f b ∧ g a < g b)) (hg : ∀ a ∈ A, g a < g x) : (ins lt A x).Pairwise (fun a b => f a < f b ∨ f a = f b ∧ g a < g b) := by
  obtain ⟨B, D, rfl, h2, h3, h4⟩ := ins_split lt A x
  rw [h2]
  obtain ⟨s1, s2, s3⟩ := List.pairwise_append.1 hs
  have hB : ∀ b ∈ B, f b ≤ f x := fun b hb => by
    rcases h4 with rfl | ⟨B', h, rfl, hx⟩
    · simp at hb
    · rw [hlt, decide_eq_false_iff_not] at hx
      rcases List.mem_append.1 hb with hb | hb
      · have := (List.pairwise_append.1 s1).2.2 b hb h (by simp)
        omega
      · simp at hb; subst hb; omega
  have hD : ∀ d ∈ D, f x < f d := fun d hd => by
    have := h3 d hd
    rwa [hlt, decide_eq_true_eq] at this
  refine List.pairwise_append.2 ⟨s1, List.pairwise_cons.2 ⟨fun d hd => .inl (hD d hd), s2⟩, fun a ha b hb => ?_⟩
  rcases List.mem_cons.1 hb with rfl | hb
  · have h5 := hB a ha
    have h6 := hg a (List.mem_append_left _ ha)
    by_cases e : f a = f b
    · exact .inr ⟨e, h6⟩
    · exact .inl (by omega)
  · exact s3 a ha b hb
theorem isort_stable {f g : α → Int} {lt : α → α → Bool} (hlt : ∀ x y, lt x y = decide (f x < f y)) (l : List α) (hl : l.Pairwise (fun a b => g a < g b)) : (isort lt l).Pairwise (fun a b => f a < f b ∨ f a = f b ∧ g a < g b) := by
  unfold isort
  have : ∀ (l A : List α), l.Pairwise (fun a b => g a < g b) → (∀ a ∈ A, ∀ x ∈ l, g a < g x) → A.Pairwise (fun a b => f a < f b ∨ f a = f b ∧ g a < g b) → (l.foldl (ins lt) A).Pairwise (fun a b => f a < f b ∨ f a = f b ∧ g a < g b) := by
    intro l
    induction l with
    | nil => intro A _ _ h; exact h
    | cons x r ih =>
      intro A hl hA h
      obtain ⟨h1, h2⟩ := List.pairwise_cons.1 hl
      rw [List.foldl_cons]
      refine ih _ h2 (fun a ha y hy => ?_) (ins_stable hlt x h (fun a ha => hA a ha x (List.mem_cons_self ..)))
      rcases List.mem_cons.1 ((ins_perm lt A x).mem_iff.1 ha) with rfl | ha
      · exact h1 y hy
      · exact hA a ha y (List.mem_cons_of_mem _ hy)
  exact this l [] hl (fun a ha => by simp at ha) .nil
end
end KL
namespace KV
set_option maxRecDepth 100000
set_option linter.unusedVariables false

abbrev scF (c : KL.Cup) (s : Nat) (x : Int) : Int := KL.scoreAt c x.toNat s
abbrev srtC (c : KL.Cup) (s : Nat) : List Int := KL.isort (KL.ltC (KL.cntCmp c s)) (KL.idx c.done.length)
theorem idx_pw (n : Nat) : (KL.idx n).Pairwise (· < ·) := by
  unfold KL.idx
  rw [List.pairwise_map]
  exact List.Pairwise.imp (fun h => by omega) List.pairwise_lt_range
theorem srtC_pw (c : KL.Cup) (s : Nat) : (srtC c s).Pairwise (fun a b => -scF c s a < -scF c s b ∨ -scF c s a = -scF c s b ∧ a < b) := by
  refine isort_stable (f := fun x => -scF c s x) (g := fun x => x) (fun x y => ?_) _ (idx_pw _)
  refine (cmp_dec _ _).trans ?_
  rw [decide_eq_decide]
  show scF c s y < scF c s x ↔ -scF c s x < -scF c s y
  omega
theorem srtC_perm (c : KL.Cup) (s : Nat) : (srtC c s).Perm (KL.idx c.done.length) := isort_perm _ _
theorem idx_mem' {n k : Nat} (h : k < n) : (k : Int) ∈ KL.idx n := List.mem_map.2 ⟨k, List.mem_range.2 h, rfl⟩
theorem cntd_perm (c : KL.Cup) (s : Nat) : (KL.countedL c s).Perm ((srtC c s).take (min c.done.length c.be.toNat)) := by
  rw [countedL_eq]
  exact KL.sortI_perm _
theorem cntd_lt (c : KL.Cup) (s : Nat) : (KL.countedL c s).Pairwise (· < ·) := by
  have h1 : (KL.countedL c s).Pairwise (· ≤ ·) := by rw [countedL_eq]; exact KL.sortI_sorted _
  have h2 : (KL.countedL c s).Pairwise (· ≠ ·) := by
    refine (cntd_perm c s).symm.pairwise (List.Pairwise.sublist (List.take_sublist _ _) ((srtC_pw c s).imp fun h => ?_)) (fun h => h.symm)
    intro e; subst e
    rcases h with h | h <;> omega
  exact (h1.and h2).imp fun h => by omega
theorem cntd_best {c : KL.Cup} {s : Nat} {x : Int} {v : Nat} (hx : x ∈ KL.countedL c s) (hv : v < c.done.length) (hn : (v : Int) ∉ KL.countedL c s) : scF c s v < scF c s x ∨ scF c s v = scF c s x ∧ x < v := by
  have hx' := (cntd_perm c s).mem_iff.1 hx
  have hn' : (v : Int) ∉ (srtC c s).take (min c.done.length c.be.toNat) := fun h => hn ((cntd_perm c s).mem_iff.2 h)
  have hm : (v : Int) ∈ srtC c s := (srtC_perm c s).mem_iff.2 (idx_mem' hv)
  have hp := srtC_pw c s
  rw [← List.take_append_drop (min c.done.length c.be.toNat) (srtC c s)] at hm hp
  have hd := (List.mem_append.1 hm).resolve_left hn'
  rcases (List.pairwise_append.1 hp).2.2 x hx' v hd with h | ⟨h1, h2⟩
  · exact .inl (by omega)
  · exact .inr ⟨by omega, h2⟩
theorem totalM_take (c : KL.Cup) (s : Nat) : KL.totalM c s = (((srtC c s).map (scF c s)).take (min c.done.length c.be.toNat)).sum := by
  unfold KL.totalM
  rw [← List.map_take]
  exact sum_perm ((cntd_perm c s).map _)
abbrev moreC (c : KL.Cup) : KL.Cup := ⟨c.sk, c.ra, (if (c.be + (1 : Int)) < c.ra then (c.be + (1 : Int)) else c.ra), c.pts, c.done⟩
theorem valid_more {c : KL.Cup} (hV : KL.Valid c) : KL.Valid (moreC c) := by
  have h1 := hV.be1
  have h2 := hV.be2
  exact ⟨hV.sk1, hV.sk2, hV.ra1, hV.ra2, by show 1 ≤ (if c.be + 1 < c.ra then c.be + 1 else c.ra); split <;> omega, by show (if c.be + 1 < c.ra then c.be + 1 else c.ra) ≤ c.ra; split <;> omega, hV.pt1, hV.pt2, hV.dn, hV.len, hV.pts, hV.rows, hV.falls, hV.clash⟩
theorem scF_bd {c : KL.Cup} (hV : KL.Valid c) (s : Nat) (x : Int) : 0 ≤ scF c s x ∧ scF c s x ≤ 1000 := KL.scoreM_bd _ _ _ hV.pts
theorem total_more {c : KL.Cup} (hV : KL.Valid c) (s : Nat) : KL.totalM c s ≤ KL.totalM (moreC c) s := by
  have h1 := hV.be1
  have h2 := hV.be2
  rw [totalM_take, totalM_take]
  refine take_mono (l := (srtC c s).map (scF c s)) (fun x hx => ?_) ?_
  · obtain ⟨y, _, rfl⟩ := List.mem_map.1 hx
    exact (scF_bd hV s y).1
  · show min c.done.length c.be.toNat ≤ min c.done.length (if c.be + 1 < c.ra then c.be + 1 else c.ra).toNat
    split <;> omega
theorem totals_at {c : KL.Cup} {j : Nat} (h : (j : Int) < c.sk) : (KL.totalsM c)[j]? = some (KL.totalM c j) := by
  unfold KL.totalsM KL.totalsUp
  rw [List.getElem?_map, List.getElem?_range (by omega)]; rfl

theorem scoreL_at2 (c : KL.Cup) (r : List Int) {j : Nat} (hj : (j : Int) < c.sk) : (scoreL c r)[j]? = some (KL.scoreM c.pts r j) := by
  unfold scoreL
  rw [List.getElem?_map, List.getElem?_range (by omega)]; rfl
abbrev ptsL (c : KL.Cup) (s n : Nat) : List Int := (List.range n).map fun i => KL.scoreAt c i s
theorem ptsL_at {c : KL.Cup} {s n i : Nat} (h : i < n) : (ptsL c s n)[i]? = some (KL.scoreAt c i s) := by
  rw [List.getElem?_map, List.getElem?_range h]; rfl
theorem bst_pts {c : KL.Cup} {w : Int} (hV : KL.Valid c) (hk : 0 ≤ w.tmod c.sk ∧ w.tmod c.sk < c.sk) :
    LoopOK Tryz.prog 0 (sub (cd Tryz.f13) [1, 1, 1, 1, 1, 1, 1, 0, 1, 0, 0]) (bst_S0 w c 0 0 []) (.exit 0) (bst_S0 w c c.done.length (ptsL c (w.tmod c.sk).toNat c.done.length).length ((ptsL c (w.tmod c.sk).toNat c.done.length).map intP)) := by
  have h1 := hV.dn
  have h2 := hV.ra2
  have h3 := hV.sk1
  refine LoopOK.count c.done.length (fun i => bst_S0 w c i (ptsL c (w.tmod c.sk).toNat i).length ((ptsL c (w.tmod c.sk).toNat i).map intP)) (fun i hi => ?_) (bst_L0_p3 (by omega)) (by simp)
  have h5 := scoreL_at2 c (c.done.getD (i : Int).toNat []) (j := (w.tmod c.sk).toNat) (by omega)
  refine bst_L0_p2 (ps := ptsL c (w.tmod c.sk).toNat i) (ps' := ptsL c (w.tmod c.sk).toNat (i + 1)) (by omega) hV ⟨by omega, by omega⟩ rfl ?_ h5 hk.1 (by simp; omega) (inR_nat (by omega)) rfl (by simp) ?_
  · simp [scoreL]; omega
  · unfold ptsL
    rw [List.range_succ, List.map_append, List.map_append, Int.toNat_natCast]; rfl

theorem bst_sum {c : KL.Cup} {w : Int} (hV : KL.Valid c) (hk : 0 ≤ w.tmod c.sk ∧ w.tmod c.sk < c.sk) :
    LoopOK Tryz.prog 0 (sub (cd Tryz.f13) [1, 1, 1, 1, 1, 1, 1, 1, 1, 0, 1, 0, 0]) (bst_S1 w c (ptsL c (w.tmod c.sk).toNat c.done.length) 0 0) (.exit 2)
      (bst_S1 w c (ptsL c (w.tmod c.sk).toNat c.done.length) (KL.countedL c (w.tmod c.sk).toNat).length (KL.totalM c (w.tmod c.sk).toNat)) := by
  have h1 := hV.dn
  have h2 := hV.ra2
  obtain ⟨s, hs⟩ : ∃ s, s = (w.tmod c.sk).toNat := ⟨_, rfl⟩
  rw [← hs]
  have hcl := KL.countedL_length c s
  have hlen : (KL.countedL c s).length ≤ 20 := by omega
  have hpl : (ptsL c s c.done.length).length = c.done.length := by simp
  have hb : ∀ j, 0 ≤ (((KL.countedL c s).map (scF c s)).take j).sum ∧ (((KL.countedL c s).map (scF c s)).take j).sum ≤ 1000000 * 20 := fun j => by
    have h := sum_bd (l := ((KL.countedL c s).map (scF c s)).take j) fun x hx => by
      obtain ⟨y, _, rfl⟩ := List.mem_map.1 (List.mem_of_mem_take hx)
      have := scF_bd hV s y
      omega
    have h2 : (((KL.countedL c s).map (scF c s)).take j).length ≤ 20 := by rw [List.length_take, List.length_map]; omega
    omega
  refine LoopOK.count (KL.countedL c s).length (fun u => bst_S1 w c (ptsL c s c.done.length) u (((KL.countedL c s).map (scF c s)).take u).sum) (fun u hu => ?_) ?_ (by simp)
  · obtain ⟨x, hx⟩ : ∃ x, (KL.countedL c s)[u]? = some x := ⟨_, List.getElem?_eq_getElem hu⟩
    have hxm := List.mem_of_getElem? hx
    obtain ⟨k, rfl, hkn⟩ := KL.countedL_mem hxm
    have e : (((KL.countedL c s).map (scF c s)).take (u + 1)).sum = (((KL.countedL c s).map (scF c s)).take u).sum + KL.scoreAt c k s := by
      rw [List.take_add_one, List.getElem?_map, hx, List.sum_append]
      simp [scF]
    have b1 := hb u
    have b2 := hb (u + 1)
    have hp : (ptsL c s c.done.length)[(k : Int).toNat]? = some (KL.scoreAt c k s) := by rw [Int.toNat_natCast]; exact ptsL_at hkn
    have inner : ∀ s2, LoopOK Tryz.prog 0 (sub (cd Tryz.f13) [1, 1, 1, 1, 1, 1, 1, 1, 1, 0, 1, 0, 0, 1, 1, 0, 0, 1, 1, 1, 1, 0, 0]) (bst_S2 w c (ptsL c s c.done.length) u 0 k s2) (.exit 4) (bst_S2 w c (ptsL c s c.done.length) u (ptsL c s c.done.length).length k s2) := fun s2 => by
      refine LoopOK.count (ptsL c s c.done.length).length (fun v => bst_S2 w c (ptsL c s c.done.length) u v k s2) (fun v hv => ?_) (bst_L2_p5 (by omega)) (by simp)
      have hvn : v < c.done.length := by rw [← hpl]; exact hv
      have hpv : (ptsL c s c.done.length)[v]? = some (KL.scoreAt c v s) := ptsL_at hvn
      have hsm : small (KL.countedL c (w.tmod c.sk).toNat).length := by rw [← hs]; unfold small; omega
      cases ha : ((KL.countedL c (w.tmod c.sk).toNat).any fun x => decide ((v : Int) = x)) with
      | true => exact bst_L2_p4 (by omega) hpv hsm ha (inR_nat (by omega)) rfl
      | false =>
        have hn : (v : Int) ∉ KL.countedL c s := fun h => by
          have := List.any_eq_false.1 ha v (by rw [← hs]; exact h)
          simp at this
        have hbe := cntd_best hxm hvn hn
        simp only [scF, Int.toNat_natCast] at hbe
        by_cases hq : KL.scoreAt c v s = KL.scoreAt c k s
        · exact bst_L2_p2 (by omega) hpv hsm ha hp (by omega) (by omega) hq (by omega) (inR_nat (by omega)) rfl
        · exact bst_L2_p3 (by omega) hpv hsm ha hp (by omega) (by omega) hq (inR_nat (by omega)) rfl
    rw [e]
    by_cases h0 : u = 0
    · subst h0
      exact bst_L1_p4 (by rw [← hs]; omega) (by rw [← hs]; exact hx) (by omega) (by omega) (by omega) hp (by omega) (by unfold inR; omega) (inner _) (inR_nat (by omega)) rfl
    · obtain ⟨y, hy⟩ : ∃ y, (KL.countedL c s)[u - 1]? = some y := ⟨_, List.getElem?_eq_getElem (by omega)⟩
      have hlt : y < k := by
        have hpw := List.pairwise_iff_getElem.1 (cntd_lt c s) (u - 1) u (by omega) hu (by omega)
        obtain ⟨_, e1⟩ := List.getElem?_eq_some_iff.1 hy
        obtain ⟨_, e2⟩ := List.getElem?_eq_some_iff.1 hx
        rw [e1, e2] at hpw
        exact hpw
      exact bst_L1_p3 (by rw [← hs]; omega) (by rw [← hs]; exact hx) (by omega) (by omega) (by omega) (by unfold inR; omega) (by rw [← hs, show ((u : Int) - 1).toNat = u - 1 by omega]; exact hy) (by omega) hlt hp (by omega) (by unfold inR; omega) (inner _) (inR_nat (by omega)) rfl
  · have e : (((KL.countedL c s).map (scF c s)).take (KL.countedL c s).length).sum = KL.totalM c s := by
      rw [List.take_of_length_le (by rw [List.length_map]; omega)]; rfl
    rw [e]
    exact bst_L1_p5 (by rw [← hs]; omega)

theorem best_law (l : List Int) (w : Int) (hw : 0 ≤ w ∧ w ≤ 255) {base : Nat} : FV Tryz.prog 13 [.p (.sl l.length (l.map byteP)), .p (.v (.int .u8 w))] base (.p (blP true)) [] := by
  have hsp := madeM_spec 8 12 l 0 17 (by omega) (by omega) (by omega)
  obtain ⟨⟨c, m, t⟩, e⟩ : ∃ q, q = madeM 8 12 l 0 17 := ⟨_, rfl⟩
  rw [← e] at hsp
  obtain ⟨_, hV, _⟩ := hsp
  dsimp only at hV
  have s1 := hV.sk1
  have s2 := hV.sk2
  have r2 := hV.ra2
  have b1 := hV.be1
  have b2 := hV.be2
  have hk : 0 ≤ w.tmod c.sk ∧ w.tmod c.sk < c.sk := ⟨Int.tmod_nonneg _ hw.1, Int.tmod_lt_of_pos _ (by omega)⟩
  have hcl := KL.countedL_length c (w.tmod c.sk).toNat
  have htl := totalsM_len c
  have htl2 := totalsM_len (moreC c)
  have hV2 := valid_more hV
  have hL3 : LoopOK Tryz.prog 0 (sub (cd Tryz.f13) [1, 1, 1, 1, 1, 1, 1, 1, 1, 1, 1, 1, 1, 1, 0, 1, 0, 0]) (bst_S3 w c (KL.totalM c (w.tmod c.sk).toNat) 0) (.exit 6) (bst_S3 w c (KL.totalM c (w.tmod c.sk).toNat) (KL.totalsM c).length) := by
    refine LoopOK.count (KL.totalsM c).length (fun j => bst_S3 w c (KL.totalM c (w.tmod c.sk).toNat) j) (fun j hj => ?_) (bst_L3_p2 (by omega)) (by simp)
    exact bst_L3_p1 (by omega) (totals_at (by omega)) (totals_at (c := moreC c) (by show (j : Int) < c.sk; omega)) (total_more hV j) (inR_nat (by omega)) rfl
  exact bst_p4 (by omega) (by omega) (by omega) e.symm (by unfold inR; omega) (by omega) hV hk rfl (by omega) (by rw [hcl]; split <;> omega) (bst_pts hV hk) (bst_sum hV hk) hV.small (by unfold inR; omega) hV2 (by rw [htl2]; show ((c.sk.toNat : Nat) : Int) = c.sk; omega) hL3 (totals_at (by omega)) hk.1 rfl
end KV
end Go.Proofs
end
