/- Parts of the proof of JNations: laws of walks, contracts of functions, plain models. No condition. -/
import Derived.Test.YtgehgmllhmfbpaaGreatPJNationsE
set_option linter.unusedVariables false
set_option linter.unusedSimpArgs false
set_option maxRecDepth 100000
namespace Go.Proofs
namespace KV
section
open KL
noncomputable abbrev zU7c0 : Code := sub (cd Tryz.f23) [1, 1, 1, 0, 1, 0, 0]
noncomputable abbrev zU7c1 : Code := sub (cd Tryz.f23) [1, 1, 1, 1, 1, 1, 1, 1, 0, 1, 0, 0, 1, 0, 0, 1, 0, 1, 0, 0, 1, 0, 0, 1, 1, 1, 0, 1, 0, 0]
noncomputable abbrev zU7c2 : Code := sub (cd Tryz.f23) [1, 1, 1, 1, 1, 1, 1, 1, 1, 0, 1, 0, 0]
noncomputable abbrev zU7c3 : Code := sub (cd Tryz.f23) [1, 1, 1, 1, 1, 1, 1, 1, 1, 0, 1, 0, 0, 1, 0, 0, 0, 1, 0, 0]
noncomputable abbrev zU7c4 : Code := sub (cd Tryz.f23) [1, 1, 1, 1, 1, 0, 1, 0, 0]
noncomputable abbrev zU7c5 : Code := sub (cd Tryz.f23) [1, 1, 1, 1, 1, 1, 1, 1, 0, 1, 0, 0, 1, 0, 0, 1, 0, 1, 0, 0]
noncomputable abbrev zU7c6 : Code := sub (cd Tryz.f23) [1, 1, 1, 1, 1, 1, 0, 1, 0, 0]
noncomputable abbrev zU7c7 : Code := sub (cd Tryz.f23) [1, 1, 1, 1, 1, 1, 1, 1, 0, 1, 0, 0]
noncomputable abbrev zU7c8 : Code := sub (cd Tryz.f23) [1, 1, 1, 1, 1, 1, 1, 1, 1, 1, 1, 0, 1, 0, 0, 1, 0, 0, 1, 0, 0]
noncomputable abbrev zU7c9 : Code := sub (cd Tryz.f23) [1, 1, 1, 1, 1, 1, 1, 1, 1, 1, 1, 0, 1, 0, 0]
def rna_S0 (c : Cup) (ns : List Int) (mo : Int) (qs : List Int) (i : Nat) : St := ⟨fr 235 [(1, (.p (intsP ns))), (2, (.p (intP mo))), (3, (.p (intsP qs))), (4, (.ptr 0 0)), (11, (.p (intP (i : Int))))], [some (.box 37 [(.p (intP c.sk)), (.p (intP c.ra)), (.p (intP c.be)), (.p (intsP c.pts)), (.p (rowsP c.done))])]⟩
def rna_S1 (c : Cup) (ns : List Int) (mo : Int) (qs : List Int) (i : Nat) : St := ⟨fr 235 [(1, (.p (intsP ns))), (2, (.p (intP mo))), (3, (.p (intsP qs))), (4, (.ptr 0 0)), (12, (.p (intP (i : Int))))], [some (.box 37 [(.p (intP c.sk)), (.p (intP c.ra)), (.p (intP c.be)), (.p (intsP c.pts)), (.p (rowsP c.done))])]⟩
def rna_S2 (c : Cup) (ns : List Int) (mo : Int) (qs : List Int) (i : Nat) : St := ⟨fr 235 [(1, (.p (intsP ns))), (2, (.p (intP mo))), (3, (.p (intsP qs))), (4, (.ptr 0 0)), (13, (.p (intP (i : Int))))], [some (.box 37 [(.p (intP c.sk)), (.p (intP c.ra)), (.p (intP c.be)), (.p (intsP c.pts)), (.p (rowsP c.done))])]⟩
def rna_S3 (c : Cup) (ns : List Int) (mo : Int) (qs : List Int) (n : Nat) (son : Nat) (soc : List PV) : St := ⟨fr 235 [(1, (.p (intsP ns))), (2, (.p (intP mo))), (3, (.p (intsP qs))), (4, (.ptr 0 0)), (14, (.own 1)), (15, (.p (intP (n : Int))))], [some (.box 37 [(.p (intP c.sk)), (.p (intP c.ra)), (.p (intP c.be)), (.p (intsP c.pts)), (.p (rowsP c.done))]), some (.row 39 son soc)]⟩
def rna_S6 (qs : List Int) (i : Nat) (pn : Nat) (pc : List PV) : St := ⟨fr 235 [(3, (.p (intsP qs))), (14, (.own 0)), (21, (.p (intP (i : Int))))], [some (.row 39 pn pc)]⟩
def rna_S8 (p'6 : List (List Int)) (r : Nat) (qn : Nat) (qc : List PV) : St := ⟨fr 235 [(14, (.own 0)), (23, (.own 1)), (24, (.p (intP (r : Int))))], [some (.row 39 p'6.length (p'6.flatten.map intP)), some (.row 39 qn qc)]⟩
theorem rna_p0 {c : Cup} {ns : List Int} {mo : Int} {qs : List Int} {r0 : Int} (h0 : KL.Small c) (h1 : (checkP c) ≠ (0 : Int)) (er0 : r0 = (checkP c)) {base : Nat} : FV Tryz.prog 23 [(.p (cupP c)), (.p (intsP ns)), (.p (intP mo)), (.p (intsP qs))] base (.tup [(.p nilS), (.p (intP r0))]) [] := by
  subst er0
  exact FV.frz (FMM.fin (k := 0) (g := ⟨[], [], [], []⟩) rfl Tryz.func23 rfl (o := [.c (.p (intP (checkP c))) [], .b true]) (l := [_, FC Tryz.prog 43 [(.p (cupP c))] [] 1 (.p (intP (checkP c))) []]) (by kernel_rfl) (gc (q_neT h1) (gc (FV.fc (chk_ok c h0) rfl) gn))) (by kernel_rfl)
theorem rna_p1 {c : Cup} {ns : List Int} {mo : Int} {qs : List Int} (h0 : KL.Small c) (h1 : (checkP c) = (0 : Int)) (h2 : (ns.length : Int) ≠ c.sk) {base : Nat} : FV Tryz.prog 23 [(.p (cupP c)), (.p (intsP ns)), (.p (intP mo)), (.p (intsP qs))] base (.tup [(.p nilS), (.p (intP 2))]) [] := by
  exact FV.frz (FMM.fin (k := 0) (g := ⟨[], [], [], []⟩) rfl Tryz.func23 rfl (o := [.c (.p (intP (checkP c))) [], .b false, .b true, .b true, .b true, .b true]) (l := [_, _, _, _, _, FC Tryz.prog 43 [(.p (cupP c))] [] 1 (.p (intP (checkP c))) []]) (by kernel_rfl) (gc (q_neT h2) (gc (q_neT h2) (gc (q_neT h2) (gc (q_neT h2) (gc (q_neF h1) (gc (FV.fc (chk_ok c h0) rfl) gn))))))) (by kernel_rfl)
theorem rna_p2 {c : Cup} {ns : List Int} {mo : Int} {qs : List Int} (h0 : KL.Small c) (h1 : (checkP c) = (0 : Int)) (h2 : (ns.length : Int) = c.sk) (h3 : (qs.length : Int) < (1 : Int)) {base : Nat} : FV Tryz.prog 23 [(.p (cupP c)), (.p (intsP ns)), (.p (intP mo)), (.p (intsP qs))] base (.tup [(.p nilS), (.p (intP 2))]) [] := by
  exact FV.frz (FMM.fin (k := 0) (g := ⟨[], [], [], []⟩) rfl Tryz.func23 rfl (o := [.c (.p (intP (checkP c))) [], .b false, .b false, .b false, .b false, .b false, .b true, .b true, .b true, .b true]) (l := [_, _, _, _, _, _, _, _, _, FC Tryz.prog 43 [(.p (cupP c))] [] 1 (.p (intP (checkP c))) []]) (by kernel_rfl) (gc (q_lt h3) (gc (q_lt h3) (gc (q_lt h3) (gc (q_lt h3) (gc (q_neF h2) (gc (q_neF h2) (gc (q_neF h2) (gc (q_neF h2) (gc (q_neF h1) (gc (FV.fc (chk_ok c h0) rfl) gn))))))))))) (by kernel_rfl)
theorem rna_p3 {c : Cup} {ns : List Int} {mo : Int} {qs : List Int} (h0 : KL.Small c) (h1 : (checkP c) = (0 : Int)) (h2 : (ns.length : Int) = c.sk) (h3 : (1 : Int) ≤ (qs.length : Int)) (h4 : (31 : Int) < (qs.length : Int)) {base : Nat} : FV Tryz.prog 23 [(.p (cupP c)), (.p (intsP ns)), (.p (intP mo)), (.p (intsP qs))] base (.tup [(.p nilS), (.p (intP 2))]) [] := by
  exact FV.frz (FMM.fin (k := 0) (g := ⟨[], [], [], []⟩) rfl Tryz.func23 rfl (o := [.c (.p (intP (checkP c))) [], .b false, .b false, .b false, .b false, .b false, .b false, .b false, .b false, .b false, .b true]) (l := [_, _, _, _, _, _, _, _, _, _, FC Tryz.prog 43 [(.p (cupP c))] [] 1 (.p (intP (checkP c))) []]) (by kernel_rfl) (gc (q_lt h4) (gc (q_ltF h3) (gc (q_ltF h3) (gc (q_ltF h3) (gc (q_ltF h3) (gc (q_neF h2) (gc (q_neF h2) (gc (q_neF h2) (gc (q_neF h2) (gc (q_neF h1) (gc (FV.fc (chk_ok c h0) rfl) gn)))))))))))) (by kernel_rfl)
theorem rna_p4 {c : Cup} {ns : List Int} {mo : Int} {qs : List Int} {i'0 : Nat} (h0 : KL.Small c) (h1 : (checkP c) = (0 : Int)) (h2 : (ns.length : Int) = c.sk) (h3 : (1 : Int) ≤ (qs.length : Int)) (h4 : (qs.length : Int) ≤ (31 : Int)) (hl5 : LoopOK Tryz.prog 0 zU7c0 (rna_S0 c ns mo qs 0) (.exit 0) (rna_S0 c ns mo qs i'0)) (h6 : (outB mo (1 : Int) (12 : Int)) = true) {base : Nat} : FV Tryz.prog 23 [(.p (cupP c)), (.p (intsP ns)), (.p (intP mo)), (.p (intsP qs))] base (.tup [(.p nilS), (.p (intP 3))]) [] := by
  exact FV.frz (FMM.fin (k := 0) (g := ⟨[], [], [], []⟩) rfl Tryz.func23 rfl (o := [.c (.p (intP (checkP c))) [], .b false, .b false, .b false, .b false, .b false, .b false, .b false, .b false, .b false, .b false, .k 4 ⟨(rng [(0, 1), (5, 6), (26, 31)]), [0], [], []⟩ (.exit 0) (rna_S0 c ns mo qs i'0), .c (.p (blP (outB mo (1 : Int) (12 : Int)))) [], .b true]) (l := [_, FC Tryz.prog 101 [(.p (intP mo)), (.p (intP 1)), (.p (intP 12))] [] 1 (.p (blP (outB mo (1 : Int) (12 : Int)))) [], _, _, _, _, _, _, _, _, _, _, _, FC Tryz.prog 43 [(.p (cupP c))] [] 1 (.p (intP (checkP c))) []]) (by kernel_rfl) (gc h6 (gc (FV.fc (outs_ok mo (1 : Int) (12 : Int)) rfl) (gc hl5.code (gc (q_ltF h4) (gc (q_ltF h3) (gc (q_ltF h3) (gc (q_ltF h3) (gc (q_ltF h3) (gc (q_neF h2) (gc (q_neF h2) (gc (q_neF h2) (gc (q_neF h2) (gc (q_neF h1) (gc (FV.fc (chk_ok c h0) rfl) gn))))))))))))))) (by kernel_rfl)
theorem rna_p5 {c : Cup} {ns : List Int} {mo : Int} {qs : List Int} {i'0 i'1 i'2 n'3 : Nat} {so'4 : List (List Int)} {i'5 : Nat} {p'6 : List (List Int)} {r'7 : Nat} {q'8 : List (List Int)} (h0 : KL.Small c) (h1 : (checkP c) = (0 : Int)) (h2 : (ns.length : Int) = c.sk) (h3 : (1 : Int) ≤ (qs.length : Int)) (h4 : (qs.length : Int) ≤ (31 : Int)) (hl5 : LoopOK Tryz.prog 0 zU7c0 (rna_S0 c ns mo qs 0) (.exit 0) (rna_S0 c ns mo qs i'0)) (h6 : (outB mo (1 : Int) (12 : Int)) = false) (hl7 : LoopOK Tryz.prog 0 zU7c4 (rna_S1 c ns mo qs 0) (.exit 2) (rna_S1 c ns mo qs i'1)) (hl8 : LoopOK Tryz.prog 0 zU7c6 (rna_S2 c ns mo qs 1) (.exit 4) (rna_S2 c ns mo qs i'2)) (hl9 : LoopOK Tryz.prog 0 zU7c7 (rna_S3 c ns mo qs 0 0 []) (.exit 6) (rna_S3 c ns mo qs n'3 so'4.length (so'4.flatten.map intP))) (hl10 : LoopOK Tryz.prog 0 zU7c2 (rna_S6 qs 0 so'4.length (so'4.flatten.map intP)) (.exit 12) (rna_S6 qs i'5 p'6.length (p'6.flatten.map intP))) (hl11 : LoopOK Tryz.prog 0 zU7c9 (rna_S8 p'6 1 0 []) (.exit 16) (rna_S8 p'6 r'7 q'8.length (q'8.flatten.map intP))) {base : Nat} : FV Tryz.prog 23 [(.p (cupP c)), (.p (intsP ns)), (.p (intP mo)), (.p (intsP qs))] base (.tup [(.p (.sl q'8.length (q'8.flatten.map intP))), (.p (intP 0))]) [] := by
  exact FV.frz (FMM.fin (k := 0) (g := ⟨[], [], [1], []⟩) rfl Tryz.func23 rfl (o := [.c (.p (intP (checkP c))) [], .b false, .b false, .b false, .b false, .b false, .b false, .b false, .b false, .b false, .b false, .k 4 ⟨(rng [(0, 1), (5, 6), (26, 31)]), [0], [], []⟩ (.exit 0) (rna_S0 c ns mo qs i'0), .c (.p (blP (outB mo (1 : Int) (12 : Int)))) [], .b false, .k 4 ⟨(rng [(0, 1), (5, 7), (26, 44)]), [0], [], []⟩ (.exit 2) (rna_S1 c ns mo qs i'1), .k 4 ⟨(rng [(0, 1), (5, 8), (26, 60)]), [0], [], []⟩ (.exit 4) (rna_S2 c ns mo qs i'2), .k 6 ⟨(rng [(0, 1), (5, 3), (10, 4), (16, 5), (26, 128)]), [0, 1], [], [(14, 39)]⟩ (.exit 6) (rna_S3 c ns mo qs n'3 so'4.length (so'4.flatten.map intP)), .k 4 ⟨(rng [(0, 3), (4, 4), (10, 4), (15, 6), (22, 1), (26, 182)]), [1], [], []⟩ (.exit 12) (rna_S6 qs i'5 p'6.length (p'6.flatten.map intP)), .k 6 ⟨(rng [(0, 8), (10, 4), (15, 8), (25, 209)]), [0, 1], [], [(23, 39)]⟩ (.exit 16) (rna_S8 p'6 r'7 q'8.length (q'8.flatten.map intP))]) (l := [_, _, _, _, _, _, FC Tryz.prog 101 [(.p (intP mo)), (.p (intP 1)), (.p (intP 12))] [] 1 (.p (blP (outB mo (1 : Int) (12 : Int)))) [], _, _, _, _, _, _, _, _, _, _, _, FC Tryz.prog 43 [(.p (cupP c))] [] 1 (.p (intP (checkP c))) []]) (by kernel_rfl) (gc hl11.code (gc hl10.code (gc hl9.code (gc hl8.code (gc hl7.code (gc h6 (gc (FV.fc (outs_ok mo (1 : Int) (12 : Int)) rfl) (gc hl5.code (gc (q_ltF h4) (gc (q_ltF h3) (gc (q_ltF h3) (gc (q_ltF h3) (gc (q_ltF h3) (gc (q_neF h2) (gc (q_neF h2) (gc (q_neF h2) (gc (q_neF h2) (gc (q_neF h1) (gc (FV.fc (chk_ok c h0) rfl) gn)))))))))))))))))))) (by kernel_rfl)
theorem rna_p6 {c : Cup} {ns : List Int} {mo : Int} {qs : List Int} {i'0 i'1 i'2 : Nat} (h0 : KL.Small c) (h1 : (checkP c) = (0 : Int)) (h2 : (ns.length : Int) = c.sk) (h3 : (1 : Int) ≤ (qs.length : Int)) (h4 : (qs.length : Int) ≤ (31 : Int)) (hl5 : LoopOK Tryz.prog 0 zU7c0 (rna_S0 c ns mo qs 0) (.exit 0) (rna_S0 c ns mo qs i'0)) (h6 : (outB mo (1 : Int) (12 : Int)) = false) (hl7 : LoopOK Tryz.prog 0 zU7c4 (rna_S1 c ns mo qs 0) (.exit 2) (rna_S1 c ns mo qs i'1)) (hl8 : LoopOK Tryz.prog 0 zU7c6 (rna_S2 c ns mo qs 1) .ret (setS (rna_S2 c ns mo qs i'2) [(8, (.p nilS)), (9, (.p (intP 4)))])) {base : Nat} : FV Tryz.prog 23 [(.p (cupP c)), (.p (intsP ns)), (.p (intP mo)), (.p (intsP qs))] base (.tup [(.p nilS), (.p (intP 4))]) [] := by
  exact FV.frz (FMM.fin (k := 0) (g := ⟨[], [], [], []⟩) rfl Tryz.func23 rfl (o := [.c (.p (intP (checkP c))) [], .b false, .b false, .b false, .b false, .b false, .b false, .b false, .b false, .b false, .b false, .k 4 ⟨(rng [(0, 1), (5, 6), (26, 31)]), [0], [], []⟩ (.exit 0) (rna_S0 c ns mo qs i'0), .c (.p (blP (outB mo (1 : Int) (12 : Int)))) [], .b false, .k 4 ⟨(rng [(0, 1), (5, 7), (26, 44)]), [0], [], []⟩ (.exit 2) (rna_S1 c ns mo qs i'1), .k 4 ⟨(rng [(0, 1), (5, 8), (26, 60)]), [0], [], []⟩ .ret (setS (rna_S2 c ns mo qs i'2) [(8, (.p nilS)), (9, (.p (intP 4)))])]) (l := [_, _, _, FC Tryz.prog 101 [(.p (intP mo)), (.p (intP 1)), (.p (intP 12))] [] 1 (.p (blP (outB mo (1 : Int) (12 : Int)))) [], _, _, _, _, _, _, _, _, _, _, _, FC Tryz.prog 43 [(.p (cupP c))] [] 1 (.p (intP (checkP c))) []]) (by kernel_rfl) (gc hl8.code (gc hl7.code (gc h6 (gc (FV.fc (outs_ok mo (1 : Int) (12 : Int)) rfl) (gc hl5.code (gc (q_ltF h4) (gc (q_ltF h3) (gc (q_ltF h3) (gc (q_ltF h3) (gc (q_ltF h3) (gc (q_neF h2) (gc (q_neF h2) (gc (q_neF h2) (gc (q_neF h2) (gc (q_neF h1) (gc (FV.fc (chk_ok c h0) rfl) gn))))))))))))))))) (by kernel_rfl)
theorem rna_p7 {c : Cup} {ns : List Int} {mo : Int} {qs : List Int} {i'0 i'1 : Nat} (h0 : KL.Small c) (h1 : (checkP c) = (0 : Int)) (h2 : (ns.length : Int) = c.sk) (h3 : (1 : Int) ≤ (qs.length : Int)) (h4 : (qs.length : Int) ≤ (31 : Int)) (hl5 : LoopOK Tryz.prog 0 zU7c0 (rna_S0 c ns mo qs 0) (.exit 0) (rna_S0 c ns mo qs i'0)) (h6 : (outB mo (1 : Int) (12 : Int)) = false) (hl7 : LoopOK Tryz.prog 0 zU7c4 (rna_S1 c ns mo qs 0) .ret (setS (rna_S1 c ns mo qs i'1) [(8, (.p nilS)), (9, (.p (intP 3)))])) {base : Nat} : FV Tryz.prog 23 [(.p (cupP c)), (.p (intsP ns)), (.p (intP mo)), (.p (intsP qs))] base (.tup [(.p nilS), (.p (intP 3))]) [] := by
  exact FV.frz (FMM.fin (k := 0) (g := ⟨[], [], [], []⟩) rfl Tryz.func23 rfl (o := [.c (.p (intP (checkP c))) [], .b false, .b false, .b false, .b false, .b false, .b false, .b false, .b false, .b false, .b false, .k 4 ⟨(rng [(0, 1), (5, 6), (26, 31)]), [0], [], []⟩ (.exit 0) (rna_S0 c ns mo qs i'0), .c (.p (blP (outB mo (1 : Int) (12 : Int)))) [], .b false, .k 4 ⟨(rng [(0, 1), (5, 7), (26, 44)]), [0], [], []⟩ .ret (setS (rna_S1 c ns mo qs i'1) [(8, (.p nilS)), (9, (.p (intP 3)))])]) (l := [_, _, FC Tryz.prog 101 [(.p (intP mo)), (.p (intP 1)), (.p (intP 12))] [] 1 (.p (blP (outB mo (1 : Int) (12 : Int)))) [], _, _, _, _, _, _, _, _, _, _, _, FC Tryz.prog 43 [(.p (cupP c))] [] 1 (.p (intP (checkP c))) []]) (by kernel_rfl) (gc hl7.code (gc h6 (gc (FV.fc (outs_ok mo (1 : Int) (12 : Int)) rfl) (gc hl5.code (gc (q_ltF h4) (gc (q_ltF h3) (gc (q_ltF h3) (gc (q_ltF h3) (gc (q_ltF h3) (gc (q_neF h2) (gc (q_neF h2) (gc (q_neF h2) (gc (q_neF h2) (gc (q_neF h1) (gc (FV.fc (chk_ok c h0) rfl) gn)))))))))))))))) (by kernel_rfl)
theorem rna_p8 {c : Cup} {ns : List Int} {mo : Int} {qs : List Int} {i'0 : Nat} (h0 : KL.Small c) (h1 : (checkP c) = (0 : Int)) (h2 : (ns.length : Int) = c.sk) (h3 : (1 : Int) ≤ (qs.length : Int)) (h4 : (qs.length : Int) ≤ (31 : Int)) (hl5 : LoopOK Tryz.prog 0 zU7c0 (rna_S0 c ns mo qs 0) .ret (setS (rna_S0 c ns mo qs i'0) [(8, (.p nilS)), (9, (.p (intP 3)))])) {base : Nat} : FV Tryz.prog 23 [(.p (cupP c)), (.p (intsP ns)), (.p (intP mo)), (.p (intsP qs))] base (.tup [(.p nilS), (.p (intP 3))]) [] := by
  exact FV.frz (FMM.fin (k := 0) (g := ⟨[], [], [], []⟩) rfl Tryz.func23 rfl (o := [.c (.p (intP (checkP c))) [], .b false, .b false, .b false, .b false, .b false, .b false, .b false, .b false, .b false, .b false, .k 4 ⟨(rng [(0, 1), (5, 6), (26, 31)]), [0], [], []⟩ .ret (setS (rna_S0 c ns mo qs i'0) [(8, (.p nilS)), (9, (.p (intP 3)))])]) (l := [_, _, _, _, _, _, _, _, _, _, _, FC Tryz.prog 43 [(.p (cupP c))] [] 1 (.p (intP (checkP c))) []]) (by kernel_rfl) (gc hl5.code (gc (q_ltF h4) (gc (q_ltF h3) (gc (q_ltF h3) (gc (q_ltF h3) (gc (q_ltF h3) (gc (q_neF h2) (gc (q_neF h2) (gc (q_neF h2) (gc (q_neF h2) (gc (q_neF h1) (gc (FV.fc (chk_ok c h0) rfl) gn))))))))))))) (by kernel_rfl)
theorem rna_L0_p0 {c : Cup} {ns : List Int} {mo : Int} {qs : List Int} {i : Nat} {x100 : Int} (h0 : (i : Int) < (ns.length : Int)) (h1 : ns[i]? = some x100) (h2 : (outB x100 (0 : Int) (30 : Int)) = true) : CodeOK Tryz.prog 0 zU7c0 (rna_S0 c ns mo qs i) .ret (setS (rna_S0 c ns mo qs i) [(8, (.p nilS)), (9, (.p (intP 3)))]) := by
  exact CodeOK.fin (g := ⟨(rng [(0, 1), (5, 3), (10, 1), (26, 31)]), [0], [], []⟩) (o := [.b true, .x (intP x100), .c (.p (blP (outB x100 (0 : Int) (30 : Int)))) [], .b true]) (l := [_, FC Tryz.prog 101 [(.p (intP x100)), (.p (intP 0)), (.p (intP 30))] [] 1 (.p (blP (outB x100 (0 : Int) (30 : Int)))) [], (ns.map intP)[(i * 1)]? = some (intP x100), 0 ≤ (i : Int) ∧ (i : Int) < (ns.length : Int) ∧ (i * 1) < (ns.map intP).length, _]) (by kernel_rfl) (gc h2 (gc (FV.fc (outs_ok x100 (0 : Int) (30 : Int)) rfl) (gc (at_map (i := i) h1) (gc (ix_map (i := (i : Int)) (Int.natCast_nonneg _) h1) (gc (q_lt h0) gn)))))
theorem rna_L0_p1 {c : Cup} {ns : List Int} {mo : Int} {qs : List Int} {i : Nat} {x100 : Int} {i' : Nat} (h0 : (i : Int) < (ns.length : Int)) (h1 : ns[i]? = some x100) (h2 : (outB x100 (0 : Int) (30 : Int)) = false) (h3 : inR (((i + 1) : Nat) : Int)) (ei' : i' = (i + 1)) : CodeOK Tryz.prog 0 zU7c0 (rna_S0 c ns mo qs i) .normal (rna_S0 c ns mo qs i') := by
  subst ei'
  exact CodeOK.fin (g := ⟨(rng [(0, 1), (5, 6), (26, 31)]), [0], [], []⟩) (o := [.b true, .x (intP x100), .c (.p (blP (outB x100 (0 : Int) (30 : Int)))) [], .b false]) (l := [_, _, FC Tryz.prog 101 [(.p (intP x100)), (.p (intP 0)), (.p (intP 30))] [] 1 (.p (blP (outB x100 (0 : Int) (30 : Int)))) [], (ns.map intP)[(i * 1)]? = some (intP x100), 0 ≤ (i : Int) ∧ (i : Int) < (ns.length : Int) ∧ (i * 1) < (ns.map intP).length, _]) (by kernel_rfl) (gc h3 (gc h2 (gc (FV.fc (outs_ok x100 (0 : Int) (30 : Int)) rfl) (gc (at_map (i := i) h1) (gc (ix_map (i := (i : Int)) (Int.natCast_nonneg _) h1) (gc (q_lt h0) gn))))))
theorem rna_L0_p2 {c : Cup} {ns : List Int} {mo : Int} {qs : List Int} {i : Nat} (h0 : (ns.length : Int) ≤ (i : Int)) : CodeOK Tryz.prog 0 zU7c0 (rna_S0 c ns mo qs i) (.exit 0) (rna_S0 c ns mo qs i) := by
  exact CodeOK.fin (g := ⟨(rng [(0, 1), (5, 6), (26, 31)]), [0], [], []⟩) (o := [.b false]) (l := [_]) (by kernel_rfl) (gc (q_ltF h0) gn)
theorem rna_L1_p0 {c : Cup} {ns : List Int} {mo : Int} {qs : List Int} {i : Nat} {x200 : Int} (h0 : (i : Int) < (qs.length : Int)) (h1 : qs[i]? = some x200) (h2 : (outB x200 (0 : Int) (20 : Int)) = true) : CodeOK Tryz.prog 0 zU7c4 (rna_S1 c ns mo qs i) .ret (setS (rna_S1 c ns mo qs i) [(8, (.p nilS)), (9, (.p (intP 3)))]) := by
  exact CodeOK.fin (g := ⟨(rng [(0, 1), (5, 3), (10, 2), (26, 44)]), [0], [], []⟩) (o := [.b true, .x (intP x200), .c (.p (blP (outB x200 (0 : Int) (20 : Int)))) [], .b true]) (l := [_, FC Tryz.prog 101 [(.p (intP x200)), (.p (intP 0)), (.p (intP 20))] [] 1 (.p (blP (outB x200 (0 : Int) (20 : Int)))) [], (qs.map intP)[(i * 1)]? = some (intP x200), 0 ≤ (i : Int) ∧ (i : Int) < (qs.length : Int) ∧ (i * 1) < (qs.map intP).length, _]) (by kernel_rfl) (gc h2 (gc (FV.fc (outs_ok x200 (0 : Int) (20 : Int)) rfl) (gc (at_map (i := i) h1) (gc (ix_map (i := (i : Int)) (Int.natCast_nonneg _) h1) (gc (q_lt h0) gn)))))
theorem rna_L1_p1 {c : Cup} {ns : List Int} {mo : Int} {qs : List Int} {i : Nat} {x200 : Int} {i' : Nat} (h0 : (i : Int) < (qs.length : Int)) (h1 : qs[i]? = some x200) (h2 : (outB x200 (0 : Int) (20 : Int)) = false) (h3 : inR (((i + 1) : Nat) : Int)) (ei' : i' = (i + 1)) : CodeOK Tryz.prog 0 zU7c4 (rna_S1 c ns mo qs i) .normal (rna_S1 c ns mo qs i') := by
  subst ei'
  exact CodeOK.fin (g := ⟨(rng [(0, 1), (5, 7), (26, 44)]), [0], [], []⟩) (o := [.b true, .x (intP x200), .c (.p (blP (outB x200 (0 : Int) (20 : Int)))) [], .b false]) (l := [_, _, FC Tryz.prog 101 [(.p (intP x200)), (.p (intP 0)), (.p (intP 20))] [] 1 (.p (blP (outB x200 (0 : Int) (20 : Int)))) [], (qs.map intP)[(i * 1)]? = some (intP x200), 0 ≤ (i : Int) ∧ (i : Int) < (qs.length : Int) ∧ (i * 1) < (qs.map intP).length, _]) (by kernel_rfl) (gc h3 (gc h2 (gc (FV.fc (outs_ok x200 (0 : Int) (20 : Int)) rfl) (gc (at_map (i := i) h1) (gc (ix_map (i := (i : Int)) (Int.natCast_nonneg _) h1) (gc (q_lt h0) gn))))))
theorem rna_L1_p2 {c : Cup} {ns : List Int} {mo : Int} {qs : List Int} {i : Nat} (h0 : (qs.length : Int) ≤ (i : Int)) : CodeOK Tryz.prog 0 zU7c4 (rna_S1 c ns mo qs i) (.exit 2) (rna_S1 c ns mo qs i) := by
  exact CodeOK.fin (g := ⟨(rng [(0, 1), (5, 7), (26, 44)]), [0], [], []⟩) (o := [.b false]) (l := [_]) (by kernel_rfl) (gc (q_ltF h0) gn)
theorem rna_L2_p0 {c : Cup} {ns : List Int} {mo : Int} {qs : List Int} {i : Nat} {x300 x301 : Int} (h0 : (i : Int) < (qs.length : Int)) (h1 : qs[i]? = some x300) (h2 : inR ((i : Int) - (1 : Int))) (h3 : qs[((i : Int) - (1 : Int)).toNat]? = some x301) (h4 : 0 ≤ ((i : Int) - (1 : Int))) (h5 : x301 < x300) : CodeOK Tryz.prog 0 zU7c6 (rna_S2 c ns mo qs i) .ret (setS (rna_S2 c ns mo qs i) [(8, (.p nilS)), (9, (.p (intP 4)))]) := by
  exact CodeOK.fin (g := ⟨(rng [(0, 1), (5, 3), (10, 3), (26, 60)]), [0], [], []⟩) (o := [.b true, .x (intP x300), .x (intP x301), .b true]) (l := [_, (qs.map intP)[(((i : Int) - (1 : Int)).toNat * 1)]? = some (intP x301), 0 ≤ ((i : Int) - (1 : Int)) ∧ ((i : Int) - (1 : Int)) < (qs.length : Int) ∧ (((i : Int) - (1 : Int)).toNat * 1) < (qs.map intP).length, _, (qs.map intP)[(i * 1)]? = some (intP x300), 0 ≤ (i : Int) ∧ (i : Int) < (qs.length : Int) ∧ (i * 1) < (qs.map intP).length, _]) (by kernel_rfl) (gc (q_lt h5) (gc (at_map (i := ((i : Int) - (1 : Int)).toNat) h3) (gc (ix_map (i := ((i : Int) - (1 : Int))) h4 h3) (gc h2 (gc (at_map (i := i) h1) (gc (ix_map (i := (i : Int)) (Int.natCast_nonneg _) h1) (gc (q_lt h0) gn)))))))
theorem rna_L2_p1 {c : Cup} {ns : List Int} {mo : Int} {qs : List Int} {i : Nat} {x300 x301 : Int} {i' : Nat} (h0 : (i : Int) < (qs.length : Int)) (h1 : qs[i]? = some x300) (h2 : inR ((i : Int) - (1 : Int))) (h3 : qs[((i : Int) - (1 : Int)).toNat]? = some x301) (h4 : 0 ≤ ((i : Int) - (1 : Int))) (h5 : x300 ≤ x301) (h6 : inR (((i + 1) : Nat) : Int)) (ei' : i' = (i + 1)) : CodeOK Tryz.prog 0 zU7c6 (rna_S2 c ns mo qs i) .normal (rna_S2 c ns mo qs i') := by
  subst ei'
  exact CodeOK.fin (g := ⟨(rng [(0, 1), (5, 8), (26, 60)]), [0], [], []⟩) (o := [.b true, .x (intP x300), .x (intP x301), .b false]) (l := [_, _, (qs.map intP)[(((i : Int) - (1 : Int)).toNat * 1)]? = some (intP x301), 0 ≤ ((i : Int) - (1 : Int)) ∧ ((i : Int) - (1 : Int)) < (qs.length : Int) ∧ (((i : Int) - (1 : Int)).toNat * 1) < (qs.map intP).length, _, (qs.map intP)[(i * 1)]? = some (intP x300), 0 ≤ (i : Int) ∧ (i : Int) < (qs.length : Int) ∧ (i * 1) < (qs.map intP).length, _]) (by kernel_rfl) (gc h6 (gc (q_ltF h5) (gc (at_map (i := ((i : Int) - (1 : Int)).toNat) h3) (gc (ix_map (i := ((i : Int) - (1 : Int))) h4 h3) (gc h2 (gc (at_map (i := i) h1) (gc (ix_map (i := (i : Int)) (Int.natCast_nonneg _) h1) (gc (q_lt h0) gn))))))))
theorem rna_L2_p2 {c : Cup} {ns : List Int} {mo : Int} {qs : List Int} {i : Nat} (h0 : (qs.length : Int) ≤ (i : Int)) : CodeOK Tryz.prog 0 zU7c6 (rna_S2 c ns mo qs i) (.exit 4) (rna_S2 c ns mo qs i) := by
  exact CodeOK.fin (g := ⟨(rng [(0, 1), (5, 8), (26, 60)]), [0], [], []⟩) (o := [.b false]) (l := [_]) (by kernel_rfl) (gc (q_ltF h0) gn)
def rna_S4 (c : Cup) (ns : List Int) (mo : Int) (qs : List Int) (n : Nat) (so : List (List Int)) (s : Nat) (is : Bool) (sm : Int) : St := ⟨fr 235 [(1, (.p (intsP ns))), (2, (.p (intP mo))), (3, (.p (intsP qs))), (4, (.ptr 0 0)), (14, (.own 1)), (15, (.p (intP (n : Int)))), (16, (.p (blP is))), (17, (.p (intP sm))), (18, (.p (intP (s : Int)))), (86, (.p (intP (n : Int)))), (87, (.p (blP (decide ((n : Int) ≤ (30 : Int))))))], [some (.box 37 [(.p (intP c.sk)), (.p (intP c.ra)), (.p (intP c.be)), (.p (intsP c.pts)), (.p (rowsP c.done))]), some (.row 39 so.length (so.flatten.map intP))]⟩
theorem rna_L3_p0 {c : Cup} {ns : List Int} {mo : Int} {qs : List Int} {n : Nat} {so : List (List Int)} {s'400 : Nat} {is'401 : Bool} {sm'402 : Int} {n' : Nat} {so' : List (List Int)} (h0 : (n : Int) ≤ (30 : Int)) (hl1 : LoopOK Tryz.prog 0 zU7c5 (rna_S4 c ns mo qs n so 0 false (0 : Int)) (.exit 8) (rna_S4 c ns mo qs n so s'400 is'401 sm'402)) (h2 : is'401 = true) (h3 : [(intP (n : Int)), (intP 1), (intP sm'402), (intP 0)].length = 1 * 4 ∧ so.length + 1 ≤ 1000000) (h4 : inR (((n + 1) : Nat) : Int)) (en' : n' = (n + 1)) (eso'n : so'.length = (so.length + 1)) (eso'c : so'.flatten.map intP = ((so.flatten.map intP) ++ [(intP (n : Int)), (intP 1), (intP sm'402), (intP 0)])) : CodeOK Tryz.prog 0 zU7c7 (rna_S3 c ns mo qs n so.length (so.flatten.map intP)) .normal (rna_S3 c ns mo qs n' so'.length (so'.flatten.map intP)) := by
  subst en'
  have raw : CodeOK Tryz.prog 0 zU7c7 (rna_S3 c ns mo qs n so.length (so.flatten.map intP)) .normal (rna_S3 c ns mo qs (n + 1) (so.length + 1) ((so.flatten.map intP) ++ [(intP (n : Int)), (intP 1), (intP sm'402), (intP 0)])) := CodeOK.fin (g := ⟨(rng [(0, 1), (5, 3), (10, 4), (16, 5), (26, 128)]), [0, 3], [], []⟩) (o := [.b true, .k 8 ⟨(rng [(0, 1), (5, 3), (10, 4), (19, 2), (26, 60), (90, 57)]), [0, 1], [], [(16, 0)]⟩ (.exit 8) (rna_S4 c ns mo qs n so s'400 is'401 sm'402), .b true]) (l := [_, _, [(intP (n : Int)), (intP 1), (intP sm'402), (intP 0)].length = 4, _, _, _]) (by kernel_rfl) (gc h4 (gc h3 (gc (by first | decide | simp) (gc h2 (gc hl1.code (gc (q_le h0) gn))))))
  exact raw.cast (by rw [eso'n, eso'c])
theorem rna_L3_p1 {c : Cup} {ns : List Int} {mo : Int} {qs : List Int} {n : Nat} {so : List (List Int)} {s'400 : Nat} {is'401 : Bool} {sm'402 : Int} {n' : Nat} (h0 : (n : Int) ≤ (30 : Int)) (hl1 : LoopOK Tryz.prog 0 zU7c5 (rna_S4 c ns mo qs n so 0 false (0 : Int)) (.exit 8) (rna_S4 c ns mo qs n so s'400 is'401 sm'402)) (h2 : is'401 = false) (h3 : inR (((n + 1) : Nat) : Int)) (en' : n' = (n + 1)) : CodeOK Tryz.prog 0 zU7c7 (rna_S3 c ns mo qs n so.length (so.flatten.map intP)) .normal (rna_S3 c ns mo qs n' so.length (so.flatten.map intP)) := by
  subst en'
  exact CodeOK.fin (g := ⟨(rng [(0, 1), (5, 3), (10, 4), (16, 5), (26, 128)]), [0, 1], [], []⟩) (o := [.b true, .k 8 ⟨(rng [(0, 1), (5, 3), (10, 4), (19, 2), (26, 60), (90, 57)]), [0, 1], [], [(16, 0)]⟩ (.exit 8) (rna_S4 c ns mo qs n so s'400 is'401 sm'402), .b false]) (l := [_, _, _, _]) (by kernel_rfl) (gc h3 (gc h2 (gc hl1.code (gc (q_le h0) gn))))
theorem rna_L3_p2 {c : Cup} {ns : List Int} {mo : Int} {qs : List Int} {n : Nat} {so : List (List Int)} (h0 : (30 : Int) < (n : Int)) : CodeOK Tryz.prog 0 zU7c7 (rna_S3 c ns mo qs n so.length (so.flatten.map intP)) (.exit 6) (rna_S3 c ns mo qs n so.length (so.flatten.map intP)) := by
  exact CodeOK.fin (g := ⟨(rng [(0, 1), (5, 3), (10, 4), (16, 5), (26, 128)]), [0, 1], [], []⟩) (o := [.b false]) (l := [_]) (by kernel_rfl) (gc (q_leF h0) gn)
def rna_S7 (qs : List Int) (i : Nat) (p : List (List Int)) (k : Nat) (rn : Nat) (rc : List PV) : St := ⟨fr 235 [(3, (.p (intsP qs))), (14, (.own 0)), (21, (.p (intP (i : Int)))), (22, (.p (intP (k : Int)))), (154, (.p (intP (i : Int)))), (155, (.own 0)), (156, (.p (intP (p.length : Int)))), (157, (.p (blP (decide ((i : Int) < (p.length : Int))))))], [some (.row 39 rn rc)]⟩
theorem rna_L6_p0 {qs : List Int} {i : Nat} {p : List (List Int)} {k'700 : Nat} {r'701 : List (List Int)} {y702 y703 y704 y705 x706 : Int} {i' : Nat} {p' : List (List Int)} (h0 : (i : Int) < (p.length : Int)) (hl1 : LoopOK Tryz.prog 0 zU7c3 (rna_S7 qs i p 0 p.length (p.flatten.map intP)) (.exit 14) (rna_S7 qs i p k'700 r'701.length (r'701.flatten.map intP))) (h2 : r'701[i]? = some [y702, y703, y704, y705]) (h3 : uni 4 r'701) (h4 : y703 ≤ (qs.length : Int)) (h5 : inR (y703 - (1 : Int))) (h6 : qs[(y703 - (1 : Int)).toNat]? = some x706) (h7 : 0 ≤ (y703 - (1 : Int))) (h8 : ((i * 4) + 3) < (r'701.flatten.map intP).length) (h9 : inR (((i + 1) : Nat) : Int)) (ei' : i' = (i + 1)) (ep'n : p'.length = r'701.length) (ep'c : p'.flatten.map intP = ((r'701.flatten.map intP).set ((i * 4) + 3) (intP x706))) : CodeOK Tryz.prog 0 zU7c2 (rna_S6 qs i p.length (p.flatten.map intP)) .normal (rna_S6 qs i' p'.length (p'.flatten.map intP)) := by
  subst ei'
  have raw : CodeOK Tryz.prog 0 zU7c2 (rna_S6 qs i p.length (p.flatten.map intP)) .normal (rna_S6 qs (i + 1) r'701.length ((r'701.flatten.map intP).set ((i * 4) + 3) (intP x706))) := CodeOK.fin (g := ⟨(rng [(0, 3), (4, 4), (10, 4), (15, 6), (22, 1), (26, 182)]), [0], [], []⟩) (o := [.b true, .k 6 ⟨(rng [(0, 3), (4, 4), (10, 4), (15, 6), (26, 128), (160, 27)]), [0], [], []⟩ (.exit 14) (rna_S7 qs i p k'700 r'701.length (r'701.flatten.map intP)), .x (intP y703), .b true, .x (intP y703), .x (intP x706)]) (l := [_, _, _, (qs.map intP)[((y703 - (1 : Int)).toNat * 1)]? = some (intP x706), 0 ≤ (y703 - (1 : Int)) ∧ (y703 - (1 : Int)) < (qs.length : Int) ∧ ((y703 - (1 : Int)).toNat * 1) < (qs.map intP).length, _, (r'701.flatten.map intP)[((i * 4) + 1)]? = some (intP y703), _, _, (r'701.flatten.map intP)[((i * 4) + 1)]? = some (intP y703), _, _, _]) (by kernel_rfl) (gc h9 (gc h8 (gc (ix_own (i := (i : Int)) (Int.natCast_nonneg _) h2) (gc (at_map (i := (y703 - (1 : Int)).toNat) h6) (gc (ix_map (i := (y703 - (1 : Int))) h7 h6) (gc h5 (gc (fl_field (i := i) (f := 1) h3 h2 rfl) (gc (ix_own (i := (i : Int)) (Int.natCast_nonneg _) h2) (gc (q_le h4) (gc (fl_field (i := i) (f := 1) h3 h2 rfl) (gc (ix_own (i := (i : Int)) (Int.natCast_nonneg _) h2) (gc hl1.code (gc (q_lt h0) gn)))))))))))))
  exact raw.cast (by rw [ep'n, ep'c])
theorem rna_L6_p1 {qs : List Int} {i : Nat} {p : List (List Int)} {k'700 : Nat} {r'701 : List (List Int)} {y702 y703 y704 y705 : Int} {i' : Nat} {p' : List (List Int)} (h0 : (i : Int) < (p.length : Int)) (hl1 : LoopOK Tryz.prog 0 zU7c3 (rna_S7 qs i p 0 p.length (p.flatten.map intP)) (.exit 14) (rna_S7 qs i p k'700 r'701.length (r'701.flatten.map intP))) (h2 : r'701[i]? = some [y702, y703, y704, y705]) (h3 : uni 4 r'701) (h4 : (qs.length : Int) < y703) (h5 : inR (((i + 1) : Nat) : Int)) (ei' : i' = (i + 1)) (ep'n : p'.length = r'701.length) (ep'c : p'.flatten.map intP = (r'701.flatten.map intP)) : CodeOK Tryz.prog 0 zU7c2 (rna_S6 qs i p.length (p.flatten.map intP)) .normal (rna_S6 qs i' p'.length (p'.flatten.map intP)) := by
  subst ei'
  have raw : CodeOK Tryz.prog 0 zU7c2 (rna_S6 qs i p.length (p.flatten.map intP)) .normal (rna_S6 qs (i + 1) r'701.length (r'701.flatten.map intP)) := CodeOK.fin (g := ⟨(rng [(0, 3), (4, 4), (10, 4), (15, 6), (22, 1), (26, 182)]), [0], [], []⟩) (o := [.b true, .k 6 ⟨(rng [(0, 3), (4, 4), (10, 4), (15, 6), (26, 128), (160, 27)]), [0], [], []⟩ (.exit 14) (rna_S7 qs i p k'700 r'701.length (r'701.flatten.map intP)), .x (intP y703), .b false]) (l := [_, _, (r'701.flatten.map intP)[((i * 4) + 1)]? = some (intP y703), _, _, _]) (by kernel_rfl) (gc h5 (gc (q_leF h4) (gc (fl_field (i := i) (f := 1) h3 h2 rfl) (gc (ix_own (i := (i : Int)) (Int.natCast_nonneg _) h2) (gc hl1.code (gc (q_lt h0) gn))))))
  exact raw.cast (by rw [ep'n, ep'c])
theorem rna_L6_p2 {qs : List Int} {i : Nat} {p : List (List Int)} (h0 : (p.length : Int) ≤ (i : Int)) : CodeOK Tryz.prog 0 zU7c2 (rna_S6 qs i p.length (p.flatten.map intP)) (.exit 12) (rna_S6 qs i p.length (p.flatten.map intP)) := by
  exact CodeOK.fin (g := ⟨(rng [(0, 3), (4, 4), (10, 4), (15, 6), (22, 1), (26, 182)]), [0], [], []⟩) (o := [.b false]) (l := [_]) (by kernel_rfl) (gc (q_ltF h0) gn)
def rna_S9 (p'6 : List (List Int)) (r : Nat) (i : Nat) (un : Nat) (uc : List PV) : St := ⟨fr 235 [(14, (.own 0)), (23, (.own 1)), (24, (.p (intP (r : Int)))), (25, (.p (intP (i : Int)))), (208, (.p (intP (r : Int)))), (209, (.own 0)), (210, (.p (intP (p'6.length : Int)))), (211, (.p (blP (decide ((r : Int) ≤ (p'6.length : Int))))))], [some (.row 39 p'6.length (p'6.flatten.map intP)), some (.row 39 un uc)]⟩
theorem rna_L8_p0 {p'6 : List (List Int)} {r : Nat} {q : List (List Int)} {i'900 : Nat} {u'901 : List (List Int)} {r' : Nat} {q' : List (List Int)} (h0 : (r : Int) ≤ (p'6.length : Int)) (hl1 : LoopOK Tryz.prog 0 zU7c8 (rna_S9 p'6 r 0 q.length (q.flatten.map intP)) (.exit 18) (rna_S9 p'6 r i'900 u'901.length (u'901.flatten.map intP))) (h2 : inR (((r + 1) : Nat) : Int)) (er' : r' = (r + 1)) (eq'n : q'.length = u'901.length) (eq'c : q'.flatten.map intP = (u'901.flatten.map intP)) : CodeOK Tryz.prog 0 zU7c9 (rna_S8 p'6 r q.length (q.flatten.map intP)) .normal (rna_S8 p'6 r' q'.length (q'.flatten.map intP)) := by
  subst er'
  have raw : CodeOK Tryz.prog 0 zU7c9 (rna_S8 p'6 r q.length (q.flatten.map intP)) .normal (rna_S8 p'6 (r + 1) u'901.length (u'901.flatten.map intP)) := CodeOK.fin (g := ⟨(rng [(0, 8), (10, 4), (15, 8), (25, 209)]), [0, 1], [], []⟩) (o := [.b true, .k 5 ⟨(rng [(0, 8), (10, 4), (15, 8), (26, 182), (214, 20)]), [0, 1], [], []⟩ (.exit 18) (rna_S9 p'6 r i'900 u'901.length (u'901.flatten.map intP))]) (l := [_, _, _]) (by kernel_rfl) (gc h2 (gc hl1.code (gc (q_le h0) gn)))
  exact raw.cast (by rw [eq'n, eq'c])
theorem rna_L8_p1 {p'6 : List (List Int)} {r : Nat} {q : List (List Int)} (h0 : (p'6.length : Int) < (r : Int)) : CodeOK Tryz.prog 0 zU7c9 (rna_S8 p'6 r q.length (q.flatten.map intP)) (.exit 16) (rna_S8 p'6 r q.length (q.flatten.map intP)) := by
  exact CodeOK.fin (g := ⟨(rng [(0, 8), (10, 4), (15, 8), (25, 209)]), [0, 1], [], []⟩) (o := [.b false]) (l := [_]) (by kernel_rfl) (gc (q_leF h0) gn)
def rna_S5 (c : Cup) (ns : List Int) (mo : Int) (qs : List Int) (n : Nat) (so : List (List Int)) (s : Nat) (sm : Int) (x500 : Int) (o : Nat) (bf : Nat) : St := ⟨fr 235 [(1, (.p (intsP ns))), (2, (.p (intP mo))), (3, (.p (intsP qs))), (4, (.ptr 0 0)), (14, (.own 1)), (15, (.p (intP (n : Int)))), (16, (.kb true)), (17, (.p (intP sm))), (18, (.p (intP (s : Int)))), (19, (.p (intP (bf : Int)))), (20, (.p (intP (o : Int)))), (86, (.p (intP (n : Int)))), (87, (.p (blP (decide ((n : Int) ≤ (30 : Int)))))), (90, (.p (intP (s : Int)))), (91, (.ptr 0 0)), (92, (.p (intP c.sk))), (93, (.p (blP (decide ((s : Int) < c.sk))))), (96, (.p (intsP ns))), (97, (.p (intP (s : Int)))), (98, (.rp (ns.map intP) (s * 1))), (99, (.p (intP x500))), (100, (.p (intP (n : Int)))), (101, (.p (blP (x500 != (n : Int)))))], [some (.box 37 [(.p (intP c.sk)), (.p (intP c.ra)), (.p (intP c.be)), (.p (intsP c.pts)), (.p (rowsP c.done))]), some (.row 39 so.length (so.flatten.map intP))]⟩
theorem rna_L4_p0 {c : Cup} {ns : List Int} {mo : Int} {qs : List Int} {n : Nat} {so : List (List Int)} {s : Nat} {is : Bool} {sm x500 : Int} {s' : Nat} (h0 : (s : Int) < c.sk) (h1 : ns[s]? = some x500) (h2 : x500 ≠ (n : Int)) (h3 : inR (((s + 1) : Nat) : Int)) (es' : s' = (s + 1)) : CodeOK Tryz.prog 0 zU7c5 (rna_S4 c ns mo qs n so s is sm) .normal (rna_S4 c ns mo qs n so s' is sm) := by
  subst es'
  exact CodeOK.fin (g := ⟨(rng [(0, 1), (5, 3), (10, 4), (19, 2), (26, 60), (90, 57)]), [0, 1], [], []⟩) (o := [.b true, .x (intP x500), .b true]) (l := [_, _, (ns.map intP)[(s * 1)]? = some (intP x500), 0 ≤ (s : Int) ∧ (s : Int) < (ns.length : Int) ∧ (s * 1) < (ns.map intP).length, _]) (by kernel_rfl) (gc h3 (gc (q_neT h2) (gc (at_map (i := s) h1) (gc (ix_map (i := (s : Int)) (Int.natCast_nonneg _) h1) (gc (q_lt h0) gn)))))
theorem rna_L4_p1 {c : Cup} {ns : List Int} {mo : Int} {qs : List Int} {n : Nat} {so : List (List Int)} {s : Nat} {is : Bool} {sm x500 : Int} {o'501 bf'502 s' : Nat} {sm' : Int} (h0 : (s : Int) < c.sk) (h1 : ns[s]? = some x500) (h2 : x500 = (n : Int)) (hl3 : LoopOK Tryz.prog 0 zU7c1 (rna_S5 c ns mo qs n so s sm x500 0 0) (.exit 10) (rna_S5 c ns mo qs n so s sm x500 o'501 bf'502)) (h4 : (bf'502 : Int) < mo) (h5 : KL.Valid c) (h6 : 0 ≤ (s : Int) ∧ (s : Int) < c.sk) (h7 : inR (sm + (totalM c (s : Int).toNat))) (h8 : inR (((s + 1) : Nat) : Int)) (es' : s' = (s + 1)) (esm' : sm' = (sm + (totalM c (s : Int).toNat))) : CodeOK Tryz.prog 0 zU7c5 (rna_S4 c ns mo qs n so s is sm) .normal (rna_S4 c ns mo qs n so s' true sm') := by
  subst es' esm'
  exact CodeOK.fin (g := ⟨(rng [(0, 1), (5, 3), (10, 4), (19, 2), (26, 60), (90, 57)]), [0, 1], [], [(16, 0)]⟩) (o := [.b true, .x (intP x500), .b false, .k 8 ⟨(rng [(0, 1), (5, 3), (10, 4), (26, 60), (102, 37)]), [0, 1], [], []⟩ (.exit 10) (rna_S5 c ns mo qs n so s sm x500 o'501 bf'502), .b true, .c (.p (intP (totalM c (s : Int).toNat))) []]) (l := [_, _, FC Tryz.prog 52 [(.p (cupP c)), (.p (intP (s : Int)))] [] 2 (.p (intP (totalM c (s : Int).toNat))) [], _, _, _, (ns.map intP)[(s * 1)]? = some (intP x500), 0 ≤ (s : Int) ∧ (s : Int) < (ns.length : Int) ∧ (s * 1) < (ns.map intP).length, _]) (by kernel_rfl) (gc h8 (gc h7 (gc (FV.fc (rto_ok c (s : Int) h5 h6) rfl) (gc (q_lt h4) (gc hl3.code (gc (q_neF h2) (gc (at_map (i := s) h1) (gc (ix_map (i := (s : Int)) (Int.natCast_nonneg _) h1) (gc (q_lt h0) gn)))))))))
theorem rna_L4_p2 {c : Cup} {ns : List Int} {mo : Int} {qs : List Int} {n : Nat} {so : List (List Int)} {s : Nat} {is : Bool} {sm x500 : Int} {o'501 bf'502 s' : Nat} (h0 : (s : Int) < c.sk) (h1 : ns[s]? = some x500) (h2 : x500 = (n : Int)) (hl3 : LoopOK Tryz.prog 0 zU7c1 (rna_S5 c ns mo qs n so s sm x500 0 0) (.exit 10) (rna_S5 c ns mo qs n so s sm x500 o'501 bf'502)) (h4 : mo ≤ (bf'502 : Int)) (h5 : inR (((s + 1) : Nat) : Int)) (es' : s' = (s + 1)) : CodeOK Tryz.prog 0 zU7c5 (rna_S4 c ns mo qs n so s is sm) .normal (rna_S4 c ns mo qs n so s' true sm) := by
  subst es'
  exact CodeOK.fin (g := ⟨(rng [(0, 1), (5, 3), (10, 4), (19, 2), (26, 60), (90, 57)]), [0, 1], [], [(16, 0)]⟩) (o := [.b true, .x (intP x500), .b false, .k 8 ⟨(rng [(0, 1), (5, 3), (10, 4), (26, 60), (102, 37)]), [0, 1], [], []⟩ (.exit 10) (rna_S5 c ns mo qs n so s sm x500 o'501 bf'502), .b false]) (l := [_, _, _, _, (ns.map intP)[(s * 1)]? = some (intP x500), 0 ≤ (s : Int) ∧ (s : Int) < (ns.length : Int) ∧ (s * 1) < (ns.map intP).length, _]) (by kernel_rfl) (gc h5 (gc (q_ltF h4) (gc hl3.code (gc (q_neF h2) (gc (at_map (i := s) h1) (gc (ix_map (i := (s : Int)) (Int.natCast_nonneg _) h1) (gc (q_lt h0) gn)))))))
theorem rna_L4_p3 {c : Cup} {ns : List Int} {mo : Int} {qs : List Int} {n : Nat} {so : List (List Int)} {s : Nat} {is : Bool} {sm : Int} (h0 : c.sk ≤ (s : Int)) : CodeOK Tryz.prog 0 zU7c5 (rna_S4 c ns mo qs n so s is sm) (.exit 8) (rna_S4 c ns mo qs n so s is sm) := by
  exact CodeOK.fin (g := ⟨(rng [(0, 1), (5, 3), (10, 4), (19, 2), (26, 60), (90, 57)]), [0, 1], [], []⟩) (o := [.b false]) (l := [_]) (by kernel_rfl) (gc (q_ltF h0) gn)
theorem rna_L7_p0 {qs : List Int} {i : Nat} {p : List (List Int)} {k : Nat} {r : List (List Int)} {y800 y801 y802 y803 y804 y805 y806 y807 : Int} {k' : Nat} {r' : List (List Int)} (h0 : (k : Int) < (r.length : Int)) (h1 : r[k]? = some [y800, y801, y802, y803]) (h2 : uni 4 r) (h3 : r[i]? = some [y804, y805, y806, y807]) (h4 : y806 < y802) (h5 : inR (y805 + (1 : Int))) (h6 : ((i * 4) + 1) < (r.flatten.map intP).length) (h7 : inR (((k + 1) : Nat) : Int)) (ek' : k' = (k + 1)) (er'n : r'.length = r.length) (er'c : r'.flatten.map intP = ((r.flatten.map intP).set ((i * 4) + 1) (intP (y805 + (1 : Int))))) : CodeOK Tryz.prog 0 zU7c3 (rna_S7 qs i p k r.length (r.flatten.map intP)) .normal (rna_S7 qs i p k' r'.length (r'.flatten.map intP)) := by
  subst ek'
  have raw : CodeOK Tryz.prog 0 zU7c3 (rna_S7 qs i p k r.length (r.flatten.map intP)) .normal (rna_S7 qs i p (k + 1) r.length ((r.flatten.map intP).set ((i * 4) + 1) (intP (y805 + (1 : Int))))) := CodeOK.fin (g := ⟨(rng [(0, 3), (4, 4), (10, 4), (15, 6), (26, 128), (160, 27)]), [0], [], []⟩) (o := [.b true, .x (intP y802), .x (intP y806), .b true, .x (intP y805)]) (l := [_, _, _, _, (r.flatten.map intP)[((i * 4) + 1)]? = some (intP y805), _, _, (r.flatten.map intP)[((i * 4) + 2)]? = some (intP y806), _, (r.flatten.map intP)[((k * 4) + 2)]? = some (intP y802), _, _]) (by kernel_rfl) (gc h7 (gc h6 (gc (ix_own (i := (i : Int)) (Int.natCast_nonneg _) h3) (gc h5 (gc (fl_field (i := i) (f := 1) h2 h3 rfl) (gc (ix_own (i := (i : Int)) (Int.natCast_nonneg _) h3) (gc (q_lt h4) (gc (fl_field (i := i) (f := 2) h2 h3 rfl) (gc (ix_own (i := (i : Int)) (Int.natCast_nonneg _) h3) (gc (fl_field (i := k) (f := 2) h2 h1 rfl) (gc (ix_own (i := (k : Int)) (Int.natCast_nonneg _) h1) (gc (q_lt h0) gn))))))))))))
  exact raw.cast (by rw [er'n, er'c])
theorem rna_L7_p1 {qs : List Int} {i : Nat} {p : List (List Int)} {k : Nat} {r : List (List Int)} {y800 y801 y802 y803 y804 y805 y806 y807 : Int} {k' : Nat} (h0 : (k : Int) < (r.length : Int)) (h1 : r[k]? = some [y800, y801, y802, y803]) (h2 : uni 4 r) (h3 : r[i]? = some [y804, y805, y806, y807]) (h4 : y802 ≤ y806) (h5 : inR (((k + 1) : Nat) : Int)) (ek' : k' = (k + 1)) : CodeOK Tryz.prog 0 zU7c3 (rna_S7 qs i p k r.length (r.flatten.map intP)) .normal (rna_S7 qs i p k' r.length (r.flatten.map intP)) := by
  subst ek'
  exact CodeOK.fin (g := ⟨(rng [(0, 3), (4, 4), (10, 4), (15, 6), (26, 128), (160, 27)]), [0], [], []⟩) (o := [.b true, .x (intP y802), .x (intP y806), .b false]) (l := [_, _, (r.flatten.map intP)[((i * 4) + 2)]? = some (intP y806), _, (r.flatten.map intP)[((k * 4) + 2)]? = some (intP y802), _, _]) (by kernel_rfl) (gc h5 (gc (q_ltF h4) (gc (fl_field (i := i) (f := 2) h2 h3 rfl) (gc (ix_own (i := (i : Int)) (Int.natCast_nonneg _) h3) (gc (fl_field (i := k) (f := 2) h2 h1 rfl) (gc (ix_own (i := (k : Int)) (Int.natCast_nonneg _) h1) (gc (q_lt h0) gn)))))))
theorem rna_L7_p2 {qs : List Int} {i : Nat} {p : List (List Int)} {k : Nat} {r : List (List Int)} (h0 : (r.length : Int) ≤ (k : Int)) : CodeOK Tryz.prog 0 zU7c3 (rna_S7 qs i p k r.length (r.flatten.map intP)) (.exit 14) (rna_S7 qs i p k r.length (r.flatten.map intP)) := by
  exact CodeOK.fin (g := ⟨(rng [(0, 3), (4, 4), (10, 4), (15, 6), (26, 128), (160, 27)]), [0], [], []⟩) (o := [.b false]) (l := [_]) (by kernel_rfl) (gc (q_ltF h0) gn)
theorem rna_L9_p0 {p'6 : List (List Int)} {r i : Nat} {u : List (List Int)} {y1000 y1001 y1002 y1003 : Int} {i' : Nat} {u' : List (List Int)} (h0 : (i : Int) < (p'6.length : Int)) (h1 : p'6[i]? = some [y1000, y1001, y1002, y1003]) (h2 : uni 4 p'6) (h3 : y1001 = (r : Int)) (h4 : [(intP y1000), (intP y1001), (intP y1002), (intP y1003)].length = 1 * 4 ∧ u.length + 1 ≤ 1000000) (h5 : inR (((i + 1) : Nat) : Int)) (ei' : i' = (i + 1)) (eu'n : u'.length = (u.length + 1)) (eu'c : u'.flatten.map intP = ((u.flatten.map intP) ++ [(intP y1000), (intP y1001), (intP y1002), (intP y1003)])) : CodeOK Tryz.prog 0 zU7c8 (rna_S9 p'6 r i u.length (u.flatten.map intP)) .normal (rna_S9 p'6 r i' u'.length (u'.flatten.map intP)) := by
  subst ei'
  have raw : CodeOK Tryz.prog 0 zU7c8 (rna_S9 p'6 r i u.length (u.flatten.map intP)) .normal (rna_S9 p'6 r (i + 1) (u.length + 1) ((u.flatten.map intP) ++ [(intP y1000), (intP y1001), (intP y1002), (intP y1003)])) := CodeOK.fin (g := ⟨(rng [(0, 8), (10, 4), (15, 8), (26, 182), (214, 20)]), [0, 3], [], []⟩) (o := [.b true, .x (intP y1001), .b true, .x (.agg [(intP y1000), (intP y1001), (intP y1002), (intP y1003)])]) (l := [_, _, [(intP y1000), (intP y1001), (intP y1002), (intP y1003)].length = 4, some (.agg (((p'6.flatten.map intP).drop (i * 4)).take 4) : PV) = some (.agg [(intP y1000), (intP y1001), (intP y1002), (intP y1003)]), _, _, _, (p'6.flatten.map intP)[((i * 4) + 1)]? = some (intP y1001), _, _]) (by kernel_rfl) (gc h5 (gc h4 (gc (by first | decide | simp) (gc (fl_load (i := i) h2 h1) (gc (fl_le (i := i) h2 h1) (gc (ix_own (i := (i : Int)) (Int.natCast_nonneg _) h1) (gc (q_eq h3) (gc (fl_field (i := i) (f := 1) h2 h1 rfl) (gc (ix_own (i := (i : Int)) (Int.natCast_nonneg _) h1) (gc (q_lt h0) gn))))))))))
  exact raw.cast (by rw [eu'n, eu'c])
theorem rna_L9_p1 {p'6 : List (List Int)} {r i : Nat} {u : List (List Int)} {y1000 y1001 y1002 y1003 : Int} {i' : Nat} (h0 : (i : Int) < (p'6.length : Int)) (h1 : p'6[i]? = some [y1000, y1001, y1002, y1003]) (h2 : uni 4 p'6) (h3 : y1001 ≠ (r : Int)) (h4 : inR (((i + 1) : Nat) : Int)) (ei' : i' = (i + 1)) : CodeOK Tryz.prog 0 zU7c8 (rna_S9 p'6 r i u.length (u.flatten.map intP)) .normal (rna_S9 p'6 r i' u.length (u.flatten.map intP)) := by
  subst ei'
  exact CodeOK.fin (g := ⟨(rng [(0, 8), (10, 4), (15, 8), (26, 182), (214, 20)]), [0, 1], [], []⟩) (o := [.b true, .x (intP y1001), .b false]) (l := [_, _, (p'6.flatten.map intP)[((i * 4) + 1)]? = some (intP y1001), _, _]) (by kernel_rfl) (gc h4 (gc (q_ne h3) (gc (fl_field (i := i) (f := 1) h2 h1 rfl) (gc (ix_own (i := (i : Int)) (Int.natCast_nonneg _) h1) (gc (q_lt h0) gn)))))
theorem rna_L9_p2 {p'6 : List (List Int)} {r i : Nat} {u : List (List Int)} (h0 : (p'6.length : Int) ≤ (i : Int)) : CodeOK Tryz.prog 0 zU7c8 (rna_S9 p'6 r i u.length (u.flatten.map intP)) (.exit 18) (rna_S9 p'6 r i u.length (u.flatten.map intP)) := by
  exact CodeOK.fin (g := ⟨(rng [(0, 8), (10, 4), (15, 8), (26, 182), (214, 20)]), [0, 1], [], []⟩) (o := [.b false]) (l := [_]) (by kernel_rfl) (gc (q_ltF h0) gn)
theorem rna_L5_p0 {c : Cup} {ns : List Int} {mo : Int} {qs : List Int} {n : Nat} {so : List (List Int)} {s : Nat} {sm x500 : Int} {o bf : Nat} {x600 : Int} {o' bf' : Nat} (h0 : (o : Int) < c.sk) (h1 : ns[o]? = some x600) (h2 : x600 = (n : Int)) (h3 : KL.Valid c) (h4 : 0 ≤ (o : Int) ∧ (o : Int) < c.sk) (h5 : 0 ≤ (s : Int) ∧ (s : Int) < c.sk) (h6 : (totalM c (s : Int).toNat) < (totalM c (o : Int).toNat)) (h7 : inR (((bf + 1) : Nat) : Int)) (h8 : inR (((o + 1) : Nat) : Int)) (eo' : o' = (o + 1)) (ebf' : bf' = (bf + 1)) : CodeOK Tryz.prog 0 zU7c1 (rna_S5 c ns mo qs n so s sm x500 o bf) .normal (rna_S5 c ns mo qs n so s sm x500 o' bf') := by
  subst eo' ebf'
  exact CodeOK.fin (g := ⟨(rng [(0, 1), (5, 3), (10, 4), (26, 60), (102, 37)]), [0, 1], [], []⟩) (o := [.b true, .x (intP x600), .b true, .b true, .b true, .c (.p (intP (totalM c (o : Int).toNat))) [], .b true, .b true, .b true, .c (.p (intP (totalM c (s : Int).toNat))) [], .b true, .b true, .b true, .b true, .b true, .b true, .b true, .b true, .b true, .b true, .b true, .b true, .b true, .b true]) (l := [_, _, _, _, _, _, _, _, _, _, _, _, _, _, _, _, FC Tryz.prog 52 [(.p (cupP c)), (.p (intP (s : Int)))] [] 6 (.p (intP (totalM c (s : Int).toNat))) [], _, _, _, FC Tryz.prog 52 [(.p (cupP c)), (.p (intP (o : Int)))] [] 2 (.p (intP (totalM c (o : Int).toNat))) [], _, _, _, (ns.map intP)[(o * 1)]? = some (intP x600), 0 ≤ (o : Int) ∧ (o : Int) < (ns.length : Int) ∧ (o * 1) < (ns.map intP).length, _]) (by kernel_rfl) (gc h8 (gc h7 (gc (q_eq h2) (gc (q_lt h6) (gc (q_eq h2) (gc (q_lt h6) (gc (q_lt h6) (gc (q_lt h6) (gc (q_lt h6) (gc (q_lt h6) (gc (q_lt h6) (gc (q_lt h6) (gc (q_lt h6) (gc (q_lt h6) (gc (q_eq h2) (gc (q_eq h2) (gc (FV.fc (rto_ok c (s : Int) h3 h5) rfl) (gc (q_eq h2) (gc (q_eq h2) (gc (q_eq h2) (gc (FV.fc (rto_ok c (o : Int) h3 h4) rfl) (gc (q_eq h2) (gc (q_eq h2) (gc (q_eq h2) (gc (at_map (i := o) h1) (gc (ix_map (i := (o : Int)) (Int.natCast_nonneg _) h1) (gc (q_lt h0) gn)))))))))))))))))))))))))))
theorem rna_L5_p1 {c : Cup} {ns : List Int} {mo : Int} {qs : List Int} {n : Nat} {so : List (List Int)} {s : Nat} {sm x500 : Int} {o bf : Nat} {x600 : Int} {o' bf' : Nat} (h0 : (o : Int) < c.sk) (h1 : ns[o]? = some x600) (h2 : x600 = (n : Int)) (h3 : KL.Valid c) (h4 : 0 ≤ (o : Int) ∧ (o : Int) < c.sk) (h5 : 0 ≤ (s : Int) ∧ (s : Int) < c.sk) (h6 : (totalM c (o : Int).toNat) ≤ (totalM c (s : Int).toNat)) (h7 : (totalM c (o : Int).toNat) = (totalM c (s : Int).toNat)) (h8 : (o : Int) < (s : Int)) (h9 : inR (((bf + 1) : Nat) : Int)) (h10 : inR (((o + 1) : Nat) : Int)) (eo' : o' = (o + 1)) (ebf' : bf' = (bf + 1)) : CodeOK Tryz.prog 0 zU7c1 (rna_S5 c ns mo qs n so s sm x500 o bf) .normal (rna_S5 c ns mo qs n so s sm x500 o' bf') := by
  subst eo' ebf'
  exact CodeOK.fin (g := ⟨(rng [(0, 1), (5, 3), (10, 4), (26, 60), (102, 37)]), [0, 1], [], []⟩) (o := [.b true, .x (intP x600), .b true, .b true, .b true, .c (.p (intP (totalM c (o : Int).toNat))) [], .b true, .b true, .b true, .c (.p (intP (totalM c (s : Int).toNat))) [], .b true, .b true, .b false, .b false, .b false, .c (.p (intP (totalM c (o : Int).toNat))) [], .b false, .b false, .b false, .c (.p (intP (totalM c (s : Int).toNat))) [], .b false, .b false, .b true, .b true, .b true, .b false, .b true, .b true, .b false, .b true, .b true]) (l := [_, _, _, _, _, _, _, _, _, _, _, _, _, FC Tryz.prog 52 [(.p (cupP c)), (.p (intP (s : Int)))] [] 14 (.p (intP (totalM c (s : Int).toNat))) [], _, _, _, FC Tryz.prog 52 [(.p (cupP c)), (.p (intP (o : Int)))] [] 10 (.p (intP (totalM c (o : Int).toNat))) [], _, _, _, _, _, FC Tryz.prog 52 [(.p (cupP c)), (.p (intP (s : Int)))] [] 6 (.p (intP (totalM c (s : Int).toNat))) [], _, _, _, FC Tryz.prog 52 [(.p (cupP c)), (.p (intP (o : Int)))] [] 2 (.p (intP (totalM c (o : Int).toNat))) [], _, _, _, (ns.map intP)[(o * 1)]? = some (intP x600), 0 ≤ (o : Int) ∧ (o : Int) < (ns.length : Int) ∧ (o * 1) < (ns.map intP).length, _]) (by kernel_rfl) (gc h10 (gc h9 (gc (q_lt h8) (gc (q_eq h2) (gc (q_ltF h6) (gc (q_eq h2) (gc (q_eq h7) (gc (q_ltF h6) (gc (q_eq h7) (gc (q_eq h7) (gc (q_eq h7) (gc (q_ltF h6) (gc (q_ltF h6) (gc (FV.fc (rto_ok c (s : Int) h3 h5) rfl) (gc (q_ltF h6) (gc (q_ltF h6) (gc (q_ltF h6) (gc (FV.fc (rto_ok c (o : Int) h3 h4) rfl) (gc (q_ltF h6) (gc (q_ltF h6) (gc (q_ltF h6) (gc (q_eq h2) (gc (q_eq h2) (gc (FV.fc (rto_ok c (s : Int) h3 h5) rfl) (gc (q_eq h2) (gc (q_eq h2) (gc (q_eq h2) (gc (FV.fc (rto_ok c (o : Int) h3 h4) rfl) (gc (q_eq h2) (gc (q_eq h2) (gc (q_eq h2) (gc (at_map (i := o) h1) (gc (ix_map (i := (o : Int)) (Int.natCast_nonneg _) h1) (gc (q_lt h0) gn))))))))))))))))))))))))))))))))))
theorem rna_L5_p2 {c : Cup} {ns : List Int} {mo : Int} {qs : List Int} {n : Nat} {so : List (List Int)} {s : Nat} {sm x500 : Int} {o bf : Nat} {x600 : Int} {o' : Nat} (h0 : (o : Int) < c.sk) (h1 : ns[o]? = some x600) (h2 : x600 = (n : Int)) (h3 : KL.Valid c) (h4 : 0 ≤ (o : Int) ∧ (o : Int) < c.sk) (h5 : 0 ≤ (s : Int) ∧ (s : Int) < c.sk) (h6 : (totalM c (o : Int).toNat) ≤ (totalM c (s : Int).toNat)) (h7 : (totalM c (o : Int).toNat) = (totalM c (s : Int).toNat)) (h8 : (s : Int) ≤ (o : Int)) (h9 : inR (((o + 1) : Nat) : Int)) (eo' : o' = (o + 1)) : CodeOK Tryz.prog 0 zU7c1 (rna_S5 c ns mo qs n so s sm x500 o bf) .normal (rna_S5 c ns mo qs n so s sm x500 o' bf) := by
  subst eo'
  exact CodeOK.fin (g := ⟨(rng [(0, 1), (5, 3), (10, 4), (26, 60), (102, 37)]), [0, 1], [], []⟩) (o := [.b true, .x (intP x600), .b true, .b true, .b true, .c (.p (intP (totalM c (o : Int).toNat))) [], .b true, .b true, .b true, .c (.p (intP (totalM c (s : Int).toNat))) [], .b true, .b true, .b false, .b false, .b false, .c (.p (intP (totalM c (o : Int).toNat))) [], .b false, .b false, .b false, .c (.p (intP (totalM c (s : Int).toNat))) [], .b false, .b false, .b true, .b true, .b true, .b false, .b true, .b true, .b false, .b true, .b false]) (l := [_, _, _, _, _, _, _, _, _, _, _, _, FC Tryz.prog 52 [(.p (cupP c)), (.p (intP (s : Int)))] [] 14 (.p (intP (totalM c (s : Int).toNat))) [], _, _, _, FC Tryz.prog 52 [(.p (cupP c)), (.p (intP (o : Int)))] [] 10 (.p (intP (totalM c (o : Int).toNat))) [], _, _, _, _, _, FC Tryz.prog 52 [(.p (cupP c)), (.p (intP (s : Int)))] [] 6 (.p (intP (totalM c (s : Int).toNat))) [], _, _, _, FC Tryz.prog 52 [(.p (cupP c)), (.p (intP (o : Int)))] [] 2 (.p (intP (totalM c (o : Int).toNat))) [], _, _, _, (ns.map intP)[(o * 1)]? = some (intP x600), 0 ≤ (o : Int) ∧ (o : Int) < (ns.length : Int) ∧ (o * 1) < (ns.map intP).length, _]) (by kernel_rfl) (gc h9 (gc (q_ltF h8) (gc (q_eq h2) (gc (q_ltF h6) (gc (q_eq h2) (gc (q_eq h7) (gc (q_ltF h6) (gc (q_eq h7) (gc (q_eq h7) (gc (q_eq h7) (gc (q_ltF h6) (gc (q_ltF h6) (gc (FV.fc (rto_ok c (s : Int) h3 h5) rfl) (gc (q_ltF h6) (gc (q_ltF h6) (gc (q_ltF h6) (gc (FV.fc (rto_ok c (o : Int) h3 h4) rfl) (gc (q_ltF h6) (gc (q_ltF h6) (gc (q_ltF h6) (gc (q_eq h2) (gc (q_eq h2) (gc (FV.fc (rto_ok c (s : Int) h3 h5) rfl) (gc (q_eq h2) (gc (q_eq h2) (gc (q_eq h2) (gc (FV.fc (rto_ok c (o : Int) h3 h4) rfl) (gc (q_eq h2) (gc (q_eq h2) (gc (q_eq h2) (gc (at_map (i := o) h1) (gc (ix_map (i := (o : Int)) (Int.natCast_nonneg _) h1) (gc (q_lt h0) gn)))))))))))))))))))))))))))))))))
theorem rna_L5_p3 {c : Cup} {ns : List Int} {mo : Int} {qs : List Int} {n : Nat} {so : List (List Int)} {s : Nat} {sm x500 : Int} {o bf : Nat} {x600 : Int} {o' : Nat} (h0 : (o : Int) < c.sk) (h1 : ns[o]? = some x600) (h2 : x600 = (n : Int)) (h3 : KL.Valid c) (h4 : 0 ≤ (o : Int) ∧ (o : Int) < c.sk) (h5 : 0 ≤ (s : Int) ∧ (s : Int) < c.sk) (h6 : (totalM c (o : Int).toNat) ≤ (totalM c (s : Int).toNat)) (h7 : (totalM c (o : Int).toNat) ≠ (totalM c (s : Int).toNat)) (h8 : inR (((o + 1) : Nat) : Int)) (eo' : o' = (o + 1)) : CodeOK Tryz.prog 0 zU7c1 (rna_S5 c ns mo qs n so s sm x500 o bf) .normal (rna_S5 c ns mo qs n so s sm x500 o' bf) := by
  subst eo'
  exact CodeOK.fin (g := ⟨(rng [(0, 1), (5, 3), (10, 4), (26, 60), (102, 37)]), [0, 1], [], []⟩) (o := [.b true, .x (intP x600), .b true, .b true, .b true, .c (.p (intP (totalM c (o : Int).toNat))) [], .b true, .b true, .b true, .c (.p (intP (totalM c (s : Int).toNat))) [], .b true, .b true, .b false, .b false, .b false, .c (.p (intP (totalM c (o : Int).toNat))) [], .b false, .b false, .b false, .c (.p (intP (totalM c (s : Int).toNat))) [], .b false, .b false, .b false, .b false, .b false, .b false, .b false, .b true, .b false, .b true]) (l := [_, _, _, _, _, _, _, _, _, _, _, FC Tryz.prog 52 [(.p (cupP c)), (.p (intP (s : Int)))] [] 14 (.p (intP (totalM c (s : Int).toNat))) [], _, _, _, FC Tryz.prog 52 [(.p (cupP c)), (.p (intP (o : Int)))] [] 10 (.p (intP (totalM c (o : Int).toNat))) [], _, _, _, _, _, FC Tryz.prog 52 [(.p (cupP c)), (.p (intP (s : Int)))] [] 6 (.p (intP (totalM c (s : Int).toNat))) [], _, _, _, FC Tryz.prog 52 [(.p (cupP c)), (.p (intP (o : Int)))] [] 2 (.p (intP (totalM c (o : Int).toNat))) [], _, _, _, (ns.map intP)[(o * 1)]? = some (intP x600), 0 ≤ (o : Int) ∧ (o : Int) < (ns.length : Int) ∧ (o * 1) < (ns.map intP).length, _]) (by kernel_rfl) (gc h8 (gc (q_eq h2) (gc (q_ltF h6) (gc (q_eq h2) (gc (q_ne h7) (gc (q_ltF h6) (gc (q_ne h7) (gc (q_ne h7) (gc (q_ne h7) (gc (q_ltF h6) (gc (q_ltF h6) (gc (FV.fc (rto_ok c (s : Int) h3 h5) rfl) (gc (q_ltF h6) (gc (q_ltF h6) (gc (q_ltF h6) (gc (FV.fc (rto_ok c (o : Int) h3 h4) rfl) (gc (q_ltF h6) (gc (q_ltF h6) (gc (q_ltF h6) (gc (q_eq h2) (gc (q_eq h2) (gc (FV.fc (rto_ok c (s : Int) h3 h5) rfl) (gc (q_eq h2) (gc (q_eq h2) (gc (q_eq h2) (gc (FV.fc (rto_ok c (o : Int) h3 h4) rfl) (gc (q_eq h2) (gc (q_eq h2) (gc (q_eq h2) (gc (at_map (i := o) h1) (gc (ix_map (i := (o : Int)) (Int.natCast_nonneg _) h1) (gc (q_lt h0) gn))))))))))))))))))))))))))))))))
theorem rna_L5_p4 {c : Cup} {ns : List Int} {mo : Int} {qs : List Int} {n : Nat} {so : List (List Int)} {s : Nat} {sm x500 : Int} {o bf : Nat} {x600 : Int} {o' : Nat} (h0 : (o : Int) < c.sk) (h1 : ns[o]? = some x600) (h2 : x600 ≠ (n : Int)) (h3 : inR (((o + 1) : Nat) : Int)) (eo' : o' = (o + 1)) : CodeOK Tryz.prog 0 zU7c1 (rna_S5 c ns mo qs n so s sm x500 o bf) .normal (rna_S5 c ns mo qs n so s sm x500 o' bf) := by
  subst eo'
  exact CodeOK.fin (g := ⟨(rng [(0, 1), (5, 3), (10, 4), (26, 60), (102, 37)]), [0, 1], [], []⟩) (o := [.b true, .x (intP x600), .b false, .b false, .b false, .b false, .b false, .b false, .b false, .b false, .b false, .b false]) (l := [_, _, _, _, _, _, _, _, _, _, _, (ns.map intP)[(o * 1)]? = some (intP x600), 0 ≤ (o : Int) ∧ (o : Int) < (ns.length : Int) ∧ (o * 1) < (ns.map intP).length, _]) (by kernel_rfl) (gc h3 (gc (q_ne h2) (gc (q_ne h2) (gc (q_ne h2) (gc (q_ne h2) (gc (q_ne h2) (gc (q_ne h2) (gc (q_ne h2) (gc (q_ne h2) (gc (q_ne h2) (gc (q_ne h2) (gc (at_map (i := o) h1) (gc (ix_map (i := (o : Int)) (Int.natCast_nonneg _) h1) (gc (q_lt h0) gn))))))))))))))
theorem rna_L5_p5 {c : Cup} {ns : List Int} {mo : Int} {qs : List Int} {n : Nat} {so : List (List Int)} {s : Nat} {sm x500 : Int} {o bf : Nat} (h0 : c.sk ≤ (o : Int)) : CodeOK Tryz.prog 0 zU7c1 (rna_S5 c ns mo qs n so s sm x500 o bf) (.exit 10) (rna_S5 c ns mo qs n so s sm x500 o bf) := by
  exact CodeOK.fin (g := ⟨(rng [(0, 1), (5, 3), (10, 4), (26, 60), (102, 37)]), [0, 1], [], []⟩) (o := [.b false]) (l := [_]) (by kernel_rfl) (gc (q_ltF h0) gn)
theorem wi_within (n a b : Int) : within n a b = !outB n a b := by
  unfold within outB
  rw [Bool.eq_iff_iff]
  simp
section
variable {c : Cup} {ns : List Int} {mo : Int} {qs : List Int}
theorem ns_at (hl : (ns.length : Int) = c.sk) {s : Nat} (hs : s < c.sk.toNat) : ns[s]? = some (ns.getD s 0) := by
  rw [List.getD_eq_getElem?_getD, List.getElem?_eq_getElem (by omega)]; rfl
theorem rna_oth (hV : KL.Valid c) (hl : (ns.length : Int) = c.sk) (n : Nat) (so : List (List Int)) (s : Nat) (hs : s < c.sk.toNat) (sm x : Int) :
    LoopOK Tryz.prog 0 zU7c1 (rna_S5 c ns mo qs n so s sm x 0 0) (.exit 10) (rna_S5 c ns mo qs n so s sm x c.sk.toNat (bnM c ns n s)) := by
  have s2 := hV.sk2
  refine LoopOK.count c.sk.toNat (fun o => rna_S5 c ns mo qs n so s sm x o ((List.range o).countP fun q => bnB c ns n s q)) (fun o ho => ?_) (rna_L5_p5 (by omega)) (by simp)
  have hb : ((List.range o).countP fun q => bnB c ns n s q) ≤ o := by
    have := List.countP_le_length (p := fun q => bnB c ns n s q) (l := List.range o)
    simpa using this
  have es : ((List.range (o + 1)).countP fun q => bnB c ns n s q) = ((List.range o).countP fun q => bnB c ns n s q) + if bnB c ns n s o = true then 1 else 0 := by
    rw [List.range_succ, List.countP_append, List.countP_singleton]
  by_cases e : ns.getD o 0 = n
  · by_cases e1 : totalM c s < totalM c o
    · have eb : bnB c ns n s o = true := by unfold bnB; rw [decide_eq_true e]; simp [e1]
      rw [if_pos eb] at es
      exact rna_L5_p0 (by omega) (ns_at hl ho) e hV (by omega) (by omega) e1 (inR_nat (by omega)) (inR_nat (by omega)) rfl es
    · by_cases e2 : totalM c o = totalM c s
      · by_cases e3 : o < s
        · have eb : bnB c ns n s o = true := by unfold bnB; rw [decide_eq_true e]; simp [e2, e3]
          rw [if_pos eb] at es
          exact rna_L5_p1 (by omega) (ns_at hl ho) e hV (by omega) (by omega) (by show totalM c o ≤ totalM c s; omega) e2 (by omega) (inR_nat (by omega)) (inR_nat (by omega)) rfl es
        · have eb : bnB c ns n s o = false := by unfold bnB; simp [e2, e3]
          rw [if_neg (by rw [eb]; simp), Nat.add_zero] at es
          rw [es]
          exact rna_L5_p2 (by omega) (ns_at hl ho) e hV (by omega) (by omega) (by show totalM c o ≤ totalM c s; omega) e2 (by omega) (inR_nat (by omega)) rfl
      · have eb : bnB c ns n s o = false := by unfold bnB; simp [e1, e2]
        rw [if_neg (by rw [eb]; simp), Nat.add_zero] at es
        rw [es]
        exact rna_L5_p3 (by omega) (ns_at hl ho) e hV (by omega) (by omega) (by show totalM c o ≤ totalM c s; omega) e2 (inR_nat (by omega)) rfl
  · have e' : ns[o]?.getD 0 ≠ n := by rw [← List.getD_eq_getElem?_getD]; exact e
    have eb : bnB c ns n s o = false := by unfold bnB; rw [decide_eq_false e]; rfl
    rw [if_neg (by rw [eb]; simp), Nat.add_zero] at es
    rw [es]
    exact rna_L5_p4 (by omega) (ns_at hl ho) e (inR_nat (by omega)) rfl
theorem sumN_bd (hV : KL.Valid c) (n : Int) : ∀ k : Nat, 0 ≤ sumN c ns mo n k ∧ sumN c ns mo n k ≤ 20000 * k
  | 0 => by simp [sumN]
  | k + 1 => by
    rw [sumN_succ]
    have h1 := sumN_bd hV n k
    have h2 := totalM_bd hV k
    split <;> omega
theorem rna_ski (hV : KL.Valid c) (hl : (ns.length : Int) = c.sk) (n : Nat) (so : List (List Int)) :
    LoopOK Tryz.prog 0 zU7c5 (rna_S4 c ns mo qs n so 0 false 0) (.exit 8) (rna_S4 c ns mo qs n so c.sk.toNat (isN ns n c.sk.toNat) (sumN c ns mo n c.sk.toNat)) := by
  have s2 := hV.sk2
  refine LoopOK.count c.sk.toNat (fun s => rna_S4 c ns mo qs n so s (isN ns n s) (sumN c ns mo n s)) (fun s hs => ?_) (rna_L4_p3 (by omega)) (by simp)
  have h1 := sumN_bd (ns := ns) (mo := mo) hV n s
  have h2 := sumN_bd (ns := ns) (mo := mo) hV n (s + 1)
  have hs1 := sumN_succ c ns mo n s
  have hi1 := isN_succ ns n s
  by_cases e : ns.getD s 0 = n
  · rw [decide_eq_true e, Bool.or_true] at hi1
    by_cases e1 : (bnM c ns n s : Int) < mo
    · have ec : cnB c ns mo n s = true := by unfold cnB; rw [decide_eq_true e, decide_eq_true e1]; rfl
      rw [if_pos ec] at hs1
      rw [hi1]
      exact rna_L4_p1 (by omega) (ns_at hl hs) e (rna_oth hV hl n so s hs _ _) e1 hV (by omega) (by show inR (sumN c ns mo n s + totalM c s); rw [← hs1]; unfold inR; omega) (inR_nat (by omega)) rfl hs1
    · have ec : cnB c ns mo n s = false := by unfold cnB; rw [decide_eq_false e1, Bool.and_false]
      rw [if_neg (by rw [ec]; simp), Int.add_zero] at hs1
      rw [hi1, hs1]
      exact rna_L4_p2 (by omega) (ns_at hl hs) e (rna_oth hV hl n so s hs _ _) (by omega) (inR_nat (by omega)) rfl
  · rw [decide_eq_false e, Bool.or_false] at hi1
    have ec : cnB c ns mo n s = false := by unfold cnB; rw [decide_eq_false e]; rfl
    rw [if_neg (by rw [ec]; simp), Int.add_zero] at hs1
    rw [hi1, hs1]
    exact rna_L4_p0 (by omega) (ns_at hl hs) e (inR_nat (by omega)) rfl
theorem rna_nat (hV : KL.Valid c) (hl : (ns.length : Int) = c.sk) (hm : 0 ≤ mo) :
    LoopOK Tryz.prog 0 zU7c7 (rna_S3 c ns mo qs 0 0 []) (.exit 6) (rna_S3 c ns mo qs 31 (outL ns (totalsM c) mo (totalsM c).length 31).length ((outL ns (totalsM c) mo (totalsM c).length 31).flatten.map intP)) := by
  have tl := totalsM_len c
  rw [tl]
  refine LoopOK.count 31 (fun n => rna_S3 c ns mo qs n (outL ns (totalsM c) mo c.sk.toNat n).length ((outL ns (totalsM c) mo c.sk.toNat n).flatten.map intP)) (fun n hn => ?_) (rna_L3_p2 (so := outL ns (totalsM c) mo c.sk.toNat 31) (by omega)) (by simp)
  have hll := outL_len ns (totalsM c) mo c.sk.toNat n
  have hs := outL_succ ns (totalsM c) mo c.sk.toNat n
  have hg := isN_grp c ns n hl
  cases e : isN ns n c.sk.toNat with
  | true =>
    have hne := hg.1 e
    unfold outG at hs
    rw [if_neg hne, ← sum_best c ns mo n hl hm] at hs
    exact rna_L3_p0 (so := outL ns (totalsM c) mo c.sk.toNat n) (so' := outL ns (totalsM c) mo c.sk.toNat (n + 1)) (by omega) (rna_ski hV hl n _) e ⟨rfl, by omega⟩ (inR_nat (by omega)) rfl (by rw [hs]; simp) (by rw [hs, List.flatten_append, List.map_append]; rfl)
  | false =>
    have he : grp ns (totalsM c) n c.sk.toNat = [] := Decidable.byContradiction fun h => by rw [hg.2 h] at e; cases e
    unfold outG at hs
    rw [if_pos he, List.append_nil] at hs
    rw [hs]
    exact rna_L3_p1 (so := outL ns (totalsM c) mo c.sk.toNat n) (by omega) (rna_ski hV hl n _) e (inR_nat (by omega)) rfl
end
section
variable {qs : List Int} {o : List (List Int)}
theorem rna_inner (hb : Base o) (ho : o.length ≤ 31) {i : Nat} {g s : Int} (hx : o[i]? = some [g, 1, s, 0]) :
    LoopOK Tryz.prog 0 zU7c3 (rna_S7 qs i (midL qs o i) 0 (midL qs o i).length ((midL qs o i).flatten.map intP)) (.exit 14)
      (rna_S7 qs i (midL qs o i) o.length ((midL qs o i).set i [g, rkOf (pts3 o) s o.length, s, 0]).length (((midL qs o i).set i [g, rkOf (pts3 o) s o.length, s, 0]).flatten.map intP)) := by
  have hi := (List.getElem?_eq_some_iff.1 hx).1
  have hml : (midL qs o i).length = o.length := mid_len (by omega)
  have hpt : Pt (pts3 o) (midL qs o i) := mid_pt hb (by omega)
  have hpi : (pts3 o)[i]? = some s := by rw [List.getElem?_map, hx]; rfl
  have hmi : (midL qs o i)[i]? = some [g, 1, s, 0] := by rw [mid_at (by omega), if_neg (by omega), hx]
  have e0 : (midL qs o i).set i [g, rkOf (pts3 o) s 0, s, 0] = midL qs o i := by
    rw [rkOf_zero]
    obtain ⟨h1, h2⟩ := List.getElem?_eq_some_iff.1 hmi
    rw [← h2]; exact List.set_getElem_self h1
  have := LoopOK.count (P := Tryz.prog) (k := 0) (b := zU7c3) (e := .exit 14) (R := rna_S7 qs i (midL qs o i) o.length ((midL qs o i).set i [g, rkOf (pts3 o) s o.length, s, 0]).length (((midL qs o i).set i [g, rkOf (pts3 o) s o.length, s, 0]).flatten.map intP)) o.length
    (fun j => rna_S7 qs i (midL qs o i) j ((midL qs o i).set i [g, rkOf (pts3 o) s j, s, 0]).length (((midL qs o i).set i [g, rkOf (pts3 o) s j, s, 0]).flatten.map intP)) (fun j hj => ?_) (rna_L7_p2 (r := (midL qs o i).set i [g, rkOf (pts3 o) s o.length, s, 0]) (by rw [List.length_set, hml]; omega)) (by simp)
  · rw [e0] at this; exact this
  · have hr : Pt (pts3 o) ((midL qs o i).set i [g, rkOf (pts3 o) s j, s, 0]) := hpt.set hpi
    obtain ⟨q, hq⟩ : ∃ q, (pts3 o)[j]? = some q := ⟨_, List.getElem?_eq_getElem (by rw [List.length_map]; omega)⟩
    obtain ⟨a, b, d, hrj⟩ := hr.2 j q hq
    have hri : ((midL qs o i).set i [g, rkOf (pts3 o) s j, s, 0])[i]? = some [g, rkOf (pts3 o) s j, s, 0] := by
      rw [List.getElem?_set, if_pos rfl, if_pos (by omega)]
    have hbd := rkOf_bd (pts3 o) s j
    have hsucc := rkOf_succ (v := s) hq
    by_cases hlt : s < q
    · rw [if_pos hlt] at hsucc
      refine rna_L7_p0 (r' := (midL qs o i).set i [g, rkOf (pts3 o) s (j + 1), s, 0]) (by rw [List.length_set, hml]; omega) hrj hr.uni hri hlt (by unfold inR; omega) ?_ (inR_nat (by omega)) rfl (by rw [List.length_set, List.length_set]) ?_
      · rw [List.length_map, fl_len hr.uni, List.length_set, hml]; omega
      · rw [fl_setf hr.uni hri (by decide), List.set_set, hsucc]; rfl
    · rw [if_neg hlt] at hsucc
      rw [hsucc]
      exact rna_L7_p1 (by rw [List.length_set, hml]; omega) hrj hr.uni hri (by omega) (inR_nat (by omega)) rfl
theorem rna_outer (hb : Base o) (ho : o.length ≤ 31) (hqs : qs.length ≤ 31) : LoopOK Tryz.prog 0 zU7c2 (rna_S6 qs 0 o.length (o.flatten.map intP)) (.exit 12)
    (rna_S6 qs o.length (o.map (finR qs (pts3 o))).length ((o.map (finR qs (pts3 o))).flatten.map intP)) := by
  have := LoopOK.count (P := Tryz.prog) (k := 0) (b := zU7c2) (e := .exit 12) (R := rna_S6 qs o.length (o.map (finR qs (pts3 o))).length ((o.map (finR qs (pts3 o))).flatten.map intP)) o.length
    (fun i => rna_S6 qs i (midL qs o i).length ((midL qs o i).flatten.map intP)) (fun i hi => ?_) (by rw [mid_end]; exact rna_L6_p2 (by rw [List.length_map]; omega)) (by simp)
  · rw [mid_zero] at this; exact this
  · obtain ⟨g, s, hgs⟩ := hb o[i] (List.getElem_mem hi)
    have hx : o[i]? = some [g, 1, s, 0] := by rw [List.getElem?_eq_getElem hi, hgs]
    have hL := rna_inner (qs := qs) hb ho hx
    have hml : (midL qs o i).length = o.length := mid_len (by omega)
    have hpt : Pt (pts3 o) (midL qs o i) := mid_pt hb (by omega)
    have hpi : (pts3 o)[i]? = some s := by rw [List.getElem?_map, hx]; rfl
    have hr : Pt (pts3 o) ((midL qs o i).set i [g, rkOf (pts3 o) s o.length, s, 0]) := hpt.set hpi
    have hri : ((midL qs o i).set i [g, rkOf (pts3 o) s o.length, s, 0])[i]? = some [g, rkOf (pts3 o) s o.length, s, 0] := by
      rw [List.getElem?_set, if_pos rfl, if_pos (by omega)]
    have hbd := rkOf_bd (pts3 o) s o.length
    have hpl : (pts3 o).length = o.length := List.length_map _
    have efin : midL qs o (i + 1) = (midL qs o i).set i [g, rkOf (pts3 o) s o.length, s, qtOf qs (rkOf (pts3 o) s o.length)] := by
      rw [mid_succ hx]; unfold finR; rw [hpl]; rfl
    by_cases hle : rkOf (pts3 o) s o.length ≤ (qs.length : Int)
    · have hq : qs[(rkOf (pts3 o) s o.length - 1).toNat]? = some (qtOf qs (rkOf (pts3 o) s o.length)) := by
        unfold qtOf
        rw [if_pos hle, List.getD_eq_getElem?_getD, List.getElem?_eq_getElem (by omega)]; rfl
      refine rna_L6_p0 (by rw [hml]; omega) hL hri hr.uni hle (by unfold inR; omega) hq (by omega) ?_ (inR_nat (by omega)) rfl (by rw [mid_len (by omega), List.length_set, hml]) ?_
      · rw [List.length_map, fl_len hr.uni, List.length_set, hml]; omega
      · rw [fl_setf hr.uni hri (by decide), List.set_set, efin]; rfl
    · have hq : qtOf qs (rkOf (pts3 o) s o.length) = 0 := by unfold qtOf; rw [if_neg hle]
      rw [hq] at efin
      refine rna_L6_p1 (by rw [hml]; omega) hL hri hr.uni (by omega) (inR_nat (by omega)) rfl (by rw [mid_len (by omega), List.length_set, hml]) (by rw [efin])
end
theorem ordX_len (X : List (List Int)) : ∀ n, (ordX X n).length ≤ n * X.length
  | 0 => by simp [ordX]
  | n + 1 => by
    rw [ordX_succ, List.length_append, Nat.succ_mul]
    have := ordX_len X n
    have h2 : (rkX X n).length ≤ X.length := List.length_filter_le _ _
    omega
theorem rna_ord (X : List (List Int)) (hu : uni 4 X) (hl : X.length ≤ 31) : LoopOK Tryz.prog 0 zU7c9 (rna_S8 X 1 0 []) (.exit 16) (rna_S8 X (X.length + 1) (ordX X X.length).length ((ordX X X.length).flatten.map intP)) := by
  refine LoopOK.count X.length (fun r => rna_S8 X (r + 1) (ordX X r).length ((ordX X r).flatten.map intP)) (fun r hr => ?_) (rna_L8_p1 (q := ordX X X.length) (by omega)) (by simp)
  have hol := ordX_len X r
  have hm : r * X.length ≤ 31 * 31 := Nat.mul_le_mul (by omega) (by omega)
  refine rna_L8_p0 (q := ordX X r) (u'901 := ordX X (r + 1)) (q' := ordX X (r + 1)) (i'900 := X.length) (by omega) ?_ (inR_nat (by omega)) rfl rfl rfl
  have hin := LoopOK.count (P := Tryz.prog) (k := 0) (b := zU7c8) (e := .exit 18) (R := rna_S9 X (r + 1) X.length (ordX X r ++ (X.take X.length).filter fun x => decide (x.getD 1 0 = (r : Int) + 1)).length ((ordX X r ++ (X.take X.length).filter fun x => decide (x.getD 1 0 = (r : Int) + 1)).flatten.map intP)) X.length
    (fun i => rna_S9 X (r + 1) i (ordX X r ++ (X.take i).filter fun x => decide (x.getD 1 0 = (r : Int) + 1)).length ((ordX X r ++ (X.take i).filter fun x => decide (x.getD 1 0 = (r : Int) + 1)).flatten.map intP))
    (fun i hi => by
      have hx := List.getElem?_eq_getElem hi
      have h4 := hu _ (List.getElem_mem hi)
      have hfl : ((X.take i).filter fun x => decide (x.getD 1 0 = (r : Int) + 1)).length ≤ i := Nat.le_trans (List.length_filter_le _ _) (List.length_take_le _ _)
      match e : X[i], h4 with
      | [y0, y1, y2, y3], _ =>
        rw [e] at hx
        have et : (X.take (i + 1)).filter (fun x => decide (x.getD 1 0 = (r : Int) + 1)) = ((X.take i).filter fun x => decide (x.getD 1 0 = (r : Int) + 1)) ++ if y1 = (r : Int) + 1 then [[y0, y1, y2, y3]] else [] := by
          rw [List.take_add_one, hx, List.filter_append]
          congr 1
          by_cases e1 : y1 = (r : Int) + 1
          · rw [if_pos e1]; simp [e1]
          · rw [if_neg e1]; simp [e1]
        by_cases e1 : y1 = (r : Int) + 1
        · rw [if_pos e1] at et
          exact rna_L9_p0 (u := ordX X r ++ (X.take i).filter fun x => decide (x.getD 1 0 = (r : Int) + 1)) (u' := ordX X r ++ (X.take (i + 1)).filter fun x => decide (x.getD 1 0 = (r : Int) + 1)) (by omega) hx hu (by omega) ⟨rfl, by rw [List.length_append]; omega⟩ (inR_nat (by omega)) rfl (by rw [et]; simp; omega) (by rw [et, ← List.append_assoc, List.flatten_append, List.map_append]; rfl)
        · rw [if_neg e1, List.append_nil] at et
          rw [et]
          exact rna_L9_p1 (u := ordX X r ++ (X.take i).filter fun x => decide (x.getD 1 0 = (r : Int) + 1)) (by omega) hx hu (by omega) (inR_nat (by omega)) rfl)
    (rna_L9_p2 (u := ordX X r ++ (X.take X.length).filter fun x => decide (x.getD 1 0 = (r : Int) + 1)) (by omega)) (by simp)
  have e0 : (X.take 0).filter (fun x => decide (x.getD 1 0 = (r : Int) + 1)) = [] := by simp
  have e1 : ordX X r ++ (X.take X.length).filter (fun x => decide (x.getD 1 0 = (r : Int) + 1)) = ordX X (r + 1) := by
    rw [List.take_length, ordX_succ]; rfl
  rw [e1] at hin
  simp only [e0, List.append_nil] at hin
  exact hin
theorem rna_any (c : Cup) (ns : List Int) (mo : Int) (qs : List Int) (hS : KL.Small c) {base : Nat} :
    (natE c ns mo qs = 0 ∧ FV Tryz.prog 23 [.p (cupP c), .p (intsP ns), .p (intP mo), .p (intsP qs)] base (.tup [.p (.sl (nationsM c ns mo qs).length ((nationsM c ns mo qs).flatten.map intP)), .p (intP 0)]) []) ∨
    (natE c ns mo qs ≠ 0 ∧ FV Tryz.prog 23 [.p (cupP c), .p (intsP ns), .p (intP mo), .p (intsP qs)] base (.tup [.p nilS, .p (intP (natE c ns mo qs))]) []) := by
  unfold natE
  simp only [wi_within]
  by_cases h1 : checkP c ≠ 0
  · rw [if_pos h1]; exact .inr ⟨h1, rna_p0 hS h1 rfl⟩
  rw [if_neg h1]
  have h1 : checkP c = 0 := Decidable.byContradiction h1
  have hV := (KL.valid_iff c).1 h1
  have s1 := hV.sk1
  have s2 := hV.sk2
  by_cases a1 : (ns.length : Int) = c.sk
  case neg => rw [if_pos (.inl a1)]; exact .inr ⟨by omega, rna_p1 hS h1 a1⟩
  by_cases a2 : (qs.length : Int) < 1
  · rw [if_pos (.inr (by simp [outB]; omega))]; exact .inr ⟨by omega, rna_p2 hS h1 a1 a2⟩
  by_cases a3 : 31 < (qs.length : Int)
  · rw [if_pos (.inr (by simp [outB]; omega))]; exact .inr ⟨by omega, rna_p3 hS h1 a1 (by omega) a3⟩
  rw [if_neg (by rintro (h | h); exact h a1; simp [outB] at h; omega)]
  have lit3 : ∀ {p : Prop} [Decidable p], p → (if p then (3 : Int) else if KL.fallsB qs = false then 4 else 0) = 3 := fun h => if_pos h
  rcases LoopOK.find (P := Tryz.prog) (k := 0) (b := zU7c0) (fun i => rna_S0 c ns mo qs i) (fun i _ => setS (rna_S0 c ns mo qs i) [(8, .p nilS), (9, .p (intP 3))]) (rna_S0 c ns mo qs ns.length) .ret (.exit 0) (by simp) (by simp) (fun x => outB x 0 30) ns
    (fun i x hx hp => rna_L0_p1 (by have := lt_of_at hx; omega) hx hp (inR_nat (by have := lt_of_at hx; omega)) rfl)
    (fun i x hx hp => rna_L0_p0 (by have := lt_of_at hx; omega) hx hp)
    (rna_L0_p2 (by omega)) with ⟨i, x, g1, g2, g3, g4⟩ | ⟨_, c1, L0⟩
  · have : (ns.all fun x => !outB x 0 30) = false := by
      rw [List.all_eq_false]; exact ⟨x, List.mem_of_getElem? g1, by rw [g3]; simp⟩
    rw [if_pos (.inl this)]
    exact .inr ⟨by omega, rna_p8 hS h1 a1 (by omega) (by omega) g4⟩
  have d1 : (ns.all fun x => !outB x 0 30) = true := by
    rw [List.all_eq_true]; intro x hx
    have := List.any_eq_false.1 c1 x hx
    simpa using this
  cases a4 : outB mo 1 12
  case true => rw [if_pos (.inr (.inl rfl))]; exact .inr ⟨by omega, rna_p4 hS h1 a1 (by omega) (by omega) L0 a4⟩
  rcases LoopOK.find (P := Tryz.prog) (k := 0) (b := zU7c4) (fun i => rna_S1 c ns mo qs i) (fun i _ => setS (rna_S1 c ns mo qs i) [(8, .p nilS), (9, .p (intP 3))]) (rna_S1 c ns mo qs qs.length) .ret (.exit 2) (by simp) (by simp) (fun x => outB x 0 20) qs
    (fun i x hx hp => rna_L1_p1 (by have := lt_of_at hx; omega) hx hp (inR_nat (by have := lt_of_at hx; omega)) rfl)
    (fun i x hx hp => rna_L1_p0 (by have := lt_of_at hx; omega) hx hp)
    (rna_L1_p2 (by omega)) with ⟨i, x, g1, g2, g3, g4⟩ | ⟨_, c2, L1⟩
  · have : (qs.all fun x => !outB x 0 20) = false := by
      rw [List.all_eq_false]; exact ⟨x, List.mem_of_getElem? g1, by rw [g3]; simp⟩
    rw [if_pos (.inr (.inr this))]
    exact .inr ⟨by omega, rna_p7 hS h1 a1 (by omega) (by omega) L0 a4 g4⟩
  have d2 : (qs.all fun x => !outB x 0 20) = true := by
    rw [List.all_eq_true]; intro x hx
    have := List.any_eq_false.1 c2 x hx
    simpa using this
  rw [d1, d2, if_neg (by simp)]
  have atD : ∀ (l : List Int) (j : Nat), j < l.length → l[j]? = some (l.getD j 0) := fun l j hj => by
    rw [List.getElem?_eq_getElem hj, List.getD_eq_getElem?_getD, List.getElem?_eq_getElem hj]; rfl
  rw [falls_any]
  rcases LoopOK.find (P := Tryz.prog) (k := 0) (b := zU7c6) (fun i => rna_S2 c ns mo qs (i + 1)) (fun i _ => setS (rna_S2 c ns mo qs (i + 1)) [(8, .p nilS), (9, .p (intP 4))]) (rna_S2 c ns mo qs (qs.length - 1 + 1)) .ret (.exit 4) (by simp) (by simp) (fun j => decide (qs.getD j 0 < qs.getD (j + 1) 0)) (List.range (qs.length - 1))
    (fun i x hx hp => by
      obtain ⟨rfl, hi⟩ := range_at hx
      have e : (((x + 1 : Nat) : Int) - 1).toNat = x := by omega
      exact rna_L2_p1 (x301 := qs.getD x 0) (by omega) (atD _ _ (by omega)) (by unfold inR; omega) (by rw [e]; exact atD _ _ (by omega)) (by omega) (by simpa using hp) (inR_nat (by omega)) rfl)
    (fun i x hx hp => by
      obtain ⟨rfl, hi⟩ := range_at hx
      have e : (((x + 1 : Nat) : Int) - 1).toNat = x := by omega
      exact rna_L2_p0 (x301 := qs.getD x 0) (by omega) (atD _ _ (by omega)) (by unfold inR; omega) (by rw [e]; exact atD _ _ (by omega)) (by omega) (by simpa using hp))
    (by rw [List.length_range]; exact rna_L2_p2 (by omega)) with ⟨i, x, g1, g2, g3, g4⟩ | ⟨_, c4, L2⟩
  · have : ((List.range (qs.length - 1)).any fun j => decide (qs.getD j 0 < qs.getD (j + 1) 0)) = true := List.any_eq_true.2 ⟨x, List.mem_of_getElem? g1, g3⟩
    rw [if_pos (by rw [this]; rfl)]
    exact .inr ⟨by omega, rna_p6 hS h1 a1 (by omega) (by omega) L0 a4 L1 g4⟩
  rw [if_neg (by rw [c4]; simp)]
  have hm : 0 ≤ mo := by simp [outB] at a4; omega
  have ho := outL_len ns (totalsM c) mo (totalsM c).length 31
  have hb := base_outL ns (totalsM c) mo (totalsM c).length 31
  have R1 := rna_nat (qs := qs) hV a1 hm
  have R2 := rna_outer (qs := qs) hb ho (by omega)
  have R3 := rna_ord ((outL ns (totalsM c) mo (totalsM c).length 31).map (finR qs (pts3 (outL ns (totalsM c) mo (totalsM c).length 31)))) (fun x hx => by
    obtain ⟨y, _, rfl⟩ := List.mem_map.1 hx; rfl) (by rw [List.length_map]; exact ho)
  rw [show ((outL ns (totalsM c) mo (totalsM c).length 31).map (finR qs (pts3 (outL ns (totalsM c) mo (totalsM c).length 31)))).length = (outL ns (totalsM c) mo (totalsM c).length 31).length from List.length_map _, ← nations_ref] at R3
  exact .inl ⟨rfl, rna_p5 hS h1 a1 (by omega) (by omega) L0 a4 L1 L2 R1 R2 R3⟩
end
section
open KL
theorem totalsUp_succ (c : Cup) (n : Nat) : KL.totalsUp c (n + 1) = KL.totalsUp c n ++ [totalM c n] := by
  unfold KL.totalsUp
  rw [List.range_succ, List.map_append]; rfl
end
section
open KL
theorem FC.wk {P : Program} {f base : Nat} {args l l' : List AV} {bs : List (Nat × AO)} {L : Upd} (h : FC P f args bs base (.tup l) L) (e : l.map wk1 = l') : FC P f args bs base (.tup l') L := fun M hb hf C w us hus hM n => by
  subst e
  refine (h M hb hf C w us hus hM n).mono ?_
  rintro e w' ⟨u, rfl, C', hF, hM', hr⟩
  refine ⟨u, rfl, C', hF, hM', ?_⟩
  cases hr with
  | tup _ vs h1 h2 => exact .tup _ vs (by simpa using h1) (fun i hi => by
      have hi' : i < l.length := by simpa using hi
      simpa using wk1_rep (h2 i hi'))
end
section
open KL
noncomputable abbrev zU8c0 : Code := sub (cd Tryz.f3) [1, 1, 1, 1, 1, 1, 0, 1, 0, 0]
theorem naG_p0 {c : Cup} {ns : List Int} {mo : Int} {qs : List Int} (h0 : (grtB c (12 : Int)) = true) {base : Nat} : FV Tryz.prog 3 [(.p (cupP c)), (.p (intsP ns)), (.p (intP mo)), (.p (intsP qs))] base (.p (blP true)) [] := by
  exact FV.fin Tryz.func3 rfl (o := [.c (.p (blP (grtB c (12 : Int)))) [], .b true, .b true, .b true, .b true, .c (.p (blP true)) []]) (l := [FC Tryz.prog 19 [] [] 1 (.p (blP true)) [], _, _, _, _, FC Tryz.prog 18 [(.p (cupP c)), (.p (intP 12))] [] 1 (.p (blP (grtB c (12 : Int)))) []]) (by kernel_rfl) (gc (FV.fc (awake_ok _) rfl) (gc h0 (gc h0 (gc h0 (gc h0 (gc (FV.fc (grt_ok c (12 : Int)) rfl) gn))))))
def naV_S0 (c : Cup) (ns : List Int) (qs : List Int) (r0 : List (List Int)) (i : Nat) : St := ⟨fr 93 [(1, (.p (intsP ns))), (3, (.p (intsP qs))), (4, (.ptr 0 0)), (9, (.ptr 1 0)), (10, (.p (intsP ns))), (11, (.p (intsP qs))), (12, (.p (.sl r0.length (r0.flatten.map intP)))), (14, (.p (.sl r0.length (r0.flatten.map intP)))), (63, (.p (intP (r0.length : Int)))), (64, (.p (intP (i : Int))))], [some (.box 25 [(.p (intP c.sk)), (.p (intP c.ra)), (.p (intP c.be)), (.p (intsP c.pts)), (.p (rowsP c.done))]), some (.box 25 [(.p (intP c.sk)), (.p (intP c.ra)), (.p (intP c.be)), (.p (intsP c.pts)), (.p (rowsP c.done))])]⟩
theorem naV_p0 {c : Cup} {ns : List Int} {mo : Int} {qs : List Int} (h0 : (grtB c (12 : Int)) = false) (h1 : (16 : Int) < (ns.length : Int)) {base : Nat} : FV Tryz.prog 3 [(.p (cupP c)), (.p (intsP ns)), (.p (intP mo)), (.p (intsP qs))] base (.p (blP true)) [] := by
  exact FV.fin Tryz.func3 rfl (o := [.c (.p (blP (grtB c (12 : Int)))) [], .b false, .b false, .b false, .b false, .b true, .b true, .b true, .b true, .c (.p (blP true)) []]) (l := [FC Tryz.prog 19 [] [] 1 (.p (blP true)) [], _, _, _, _, _, _, _, _, FC Tryz.prog 18 [(.p (cupP c)), (.p (intP 12))] [] 1 (.p (blP (grtB c (12 : Int)))) []]) (by kernel_rfl) (gc (FV.fc (awake_ok _) rfl) (gc (q_lt h1) (gc (q_lt h1) (gc (q_lt h1) (gc (q_lt h1) (gc h0 (gc h0 (gc h0 (gc h0 (gc (FV.fc (grt_ok c (12 : Int)) rfl) gn))))))))))
theorem naV_p1 {c : Cup} {ns : List Int} {mo : Int} {qs : List Int} (h0 : (grtB c (12 : Int)) = false) (h1 : (ns.length : Int) ≤ (16 : Int)) (h2 : (35 : Int) < (qs.length : Int)) {base : Nat} : FV Tryz.prog 3 [(.p (cupP c)), (.p (intsP ns)), (.p (intP mo)), (.p (intsP qs))] base (.p (blP true)) [] := by
  exact FV.fin Tryz.func3 rfl (o := [.c (.p (blP (grtB c (12 : Int)))) [], .b false, .b false, .b false, .b false, .b false, .b false, .b false, .b false, .b true, .c (.p (blP true)) []]) (l := [FC Tryz.prog 19 [] [] 1 (.p (blP true)) [], _, _, _, _, _, _, _, _, _, FC Tryz.prog 18 [(.p (cupP c)), (.p (intP 12))] [] 1 (.p (blP (grtB c (12 : Int)))) []]) (by kernel_rfl) (gc (FV.fc (awake_ok _) rfl) (gc (q_lt h2) (gc (q_ltF h1) (gc (q_ltF h1) (gc (q_ltF h1) (gc (q_ltF h1) (gc h0 (gc h0 (gc h0 (gc h0 (gc (FV.fc (grt_ok c (12 : Int)) rfl) gn)))))))))))
theorem naV_p2 {c : Cup} {ns : List Int} {mo : Int} {qs : List Int} {r0 : List (List Int)} {e1 : Int} {i'2 : Nat} (h0 : (grtB c (12 : Int)) = false) (h1 : (ns.length : Int) ≤ (16 : Int)) (h2 : (qs.length : Int) ≤ (35 : Int)) (h3 : KL.Small c) (h4 : ns.length ≤ 1000) (h5 : qs.length ≤ 1000) (h6 : ∀ nb : Nat, FC Tryz.prog 22 [(.p (cupP c)), (.p (intsP ns)), (.p (intP mo)), (.p (intsP qs))] [] nb (.tup [(.p (.sl r0.length (r0.flatten.map intP))), (.p (intP e1))]) []) (h7 : ∀ nb : Nat, FC Tryz.prog 23 [(.p (cupP c)), (.p (intsP ns)), (.p (intP mo)), (.p (intsP qs))] [] nb (.tup [(.p (.sl r0.length (r0.flatten.map intP))), (.p (intP e1))]) []) (h8 : e1 = e1) (h9 : (r0.length : Int) = (r0.length : Int)) (hl10 : LoopOK Tryz.prog 0 zU8c0 (naV_S0 c ns qs r0 0) (.exit 0) (naV_S0 c ns qs r0 i'2)) (h11 : c = c) (h12 : ns.length ≤ 100000) (h13 : (decide (ns = ns)) = true) (h14 : qs.length ≤ 100000) (h15 : (decide (qs = qs)) = true) {base : Nat} : FV Tryz.prog 3 [(.p (cupP c)), (.p (intsP ns)), (.p (intP mo)), (.p (intsP qs))] base (.p (blP true)) [] := by
  exact FV.fin Tryz.func3 rfl (o := [.c (.p (blP (grtB c (12 : Int)))) [], .b false, .b false, .b false, .b false, .b false, .b false, .b false, .b false, .b false, .c (.p (cupP c)) [], .c (.p (intsP ns)) [], .c (.p (intsP qs)) [], .c (.tup [(.p (.sl r0.length (r0.flatten.map intP))), (.p (intP e1))]) [], .c (.tup [(.p (.sl r0.length (r0.flatten.map intP))), (.p (intP e1))]) [], .b false, .b false, .b false, .b false, .b false, .b false, .b false, .k 4 ⟨(rng [(0, 1), (2, 1), (5, 4), (13, 1), (15, 48), (65, 12)]), [0, 1], [], []⟩ (.exit 0) (naV_S0 c ns qs r0 i'2), .c (.p (blP true)) [], .b true, .b true, .b true, .c (.p (blP (decide (ns = ns)))) [], .b true, .b true, .b true, .b true, .c (.p (blP (decide (qs = qs)))) [], .b true, .b true, .c (.p (blP true)) [], .b true]) (l := [_, FC Tryz.prog 19 [] [] 2 (.p (blP true)) [], _, _, FC Tryz.prog 25 [(.p (intsP qs)), (.p (intsP qs))] [] 2 (.p (blP (decide (qs = qs)))) [], _, _, _, true = true, FC Tryz.prog 25 [(.p (intsP ns)), (.p (intsP ns))] [] 2 (.p (blP (decide (ns = ns)))) [], true = true, true = true, true = true, FC Tryz.prog 24 [(.p (cupP c)), (.p (cupP c))] [] 2 (.p (blP true)) [], _, _, _, _, _, _, _, _, FC Tryz.prog 23 [(.p (cupP c)), (.p (intsP ns)), (.p (intP mo)), (.p (intsP qs))] [] 2 (.tup [(.p (.sl r0.length (r0.flatten.map intP))), (.p (intP e1))]) [], FC Tryz.prog 22 [(.p (cupP c)), (.p (intsP ns)), (.p (intP mo)), (.p (intsP qs))] [] 2 (.tup [(.p (.sl r0.length (r0.flatten.map intP))), (.p (intP e1))]) [], FC Tryz.prog 21 [(.p (intsP qs))] [] 1 (.p (intsP qs)) [], FC Tryz.prog 21 [(.p (intsP ns))] [] 1 (.p (intsP ns)) [], FC Tryz.prog 20 [(.p (cupP c))] [] 1 (.p (cupP c)) [], _, _, _, _, _, _, _, _, _, FC Tryz.prog 18 [(.p (cupP c)), (.p (intP 12))] [] 1 (.p (blP (grtB c (12 : Int)))) []]) (by kernel_rfl) (gc h15 (gc (FV.fc (awake_ok _) rfl) (gc h15 (gc h13 (gc (FV.fc (eqi_ok qs qs h14) rfl) (gc h13 (gc h13 (gc h13 (gc rfl (gc (FV.fc (eqi_ok ns ns h12) rfl) (gc rfl (gc rfl (gc rfl (gc (FV.fc (sam_ok c c h11 h3) rfl) (gc hl10.code (gc (q_neF h9) (gc (q_neF h8) (gc (q_neF h8) (gc (q_neF h8) (gc (q_neF h8) (gc (q_neF h8) (gc (q_neF h8) (gc (h7 2) (gc (h6 2) (gc (FV.fc (cli_ok qs h5) rfl) (gc (FV.fc (cli_ok ns h4) rfl) (gc (FV.fc (cln_ok c h3) rfl) (gc (q_ltF h2) (gc (q_ltF h1) (gc (q_ltF h1) (gc (q_ltF h1) (gc (q_ltF h1) (gc h0 (gc h0 (gc h0 (gc h0 (gc (FV.fc (grt_ok c (12 : Int)) rfl) gn)))))))))))))))))))))))))))))))))))))
theorem naV_L0_p1 {c : Cup} {ns qs : List Int} {r0 : List (List Int)} {i : Nat} {y100 y101 y102 y103 : Int} {i' : Nat} (h0 : (i : Int) < (r0.length : Int)) (h1 : r0[i]? = some [y100, y101, y102, y103]) (h2 : uni 4 r0) (h3 : intsOK [(intP y100), (intP y101), (intP y102), (intP y103)] [(0, 3, true), (1, 3, true), (2, 3, true), (3, 3, true)] = true ∧ intsOK [(intP y100), (intP y101), (intP y102), (intP y103)] [(0, 3, true), (1, 3, true), (2, 3, true), (3, 3, true)] = true) (h4 : (eqFs [(intP y100), (intP y101), (intP y102), (intP y103)] [(intP y100), (intP y101), (intP y102), (intP y103)] [(0, 3, true), (1, 3, true), (2, 3, true), (3, 3, true)]) = true) (h5 : inR (((i + 1) : Nat) : Int)) (ei' : i' = (i + 1)) : CodeOK Tryz.prog 0 zU8c0 (naV_S0 c ns qs r0 i) .normal (naV_S0 c ns qs r0 i') := by
  subst ei'
  exact CodeOK.fin (g := ⟨(rng [(0, 1), (2, 1), (5, 4), (13, 1), (15, 48), (65, 12)]), [0, 1], [], []⟩) (o := [.b true, .x (.agg [(intP y100), (intP y101), (intP y102), (intP y103)]), .x (.agg [(intP y100), (intP y101), (intP y102), (intP y103)]), .b false]) (l := [_, _, _, some (.agg (((r0.flatten.map intP).drop (i * 4)).take 4) : PV) = some (.agg [(intP y100), (intP y101), (intP y102), (intP y103)]), _, 0 ≤ (i : Int) ∧ (i : Int) < (r0.length : Int) ∧ (i * 4) < (r0.flatten.map intP).length, some (.agg (((r0.flatten.map intP).drop (i * 4)).take 4) : PV) = some (.agg [(intP y100), (intP y101), (intP y102), (intP y103)]), _, 0 ≤ (i : Int) ∧ (i : Int) < (r0.length : Int) ∧ (i * 4) < (r0.flatten.map intP).length, _]) (by kernel_rfl) (gc h5 (gc (q_notF h4) (gc h3 (gc (fl_load (i := i) h2 h1) (gc (fl_le (i := i) h2 h1) (gc (ix_fl (k := 4) (i := (i : Int)) (by decide) h2 (Int.natCast_nonneg _) h1) (gc (fl_load (i := i) h2 h1) (gc (fl_le (i := i) h2 h1) (gc (ix_fl (k := 4) (i := (i : Int)) (by decide) h2 (Int.natCast_nonneg _) h1) (gc (q_lt h0) gn))))))))))
theorem naV_L0_p2 {c : Cup} {ns qs : List Int} {r0 : List (List Int)} {i : Nat} (h0 : (r0.length : Int) ≤ (i : Int)) : CodeOK Tryz.prog 0 zU8c0 (naV_S0 c ns qs r0 i) (.exit 0) (naV_S0 c ns qs r0 i) := by
  exact CodeOK.fin (g := ⟨(rng [(0, 1), (2, 1), (5, 4), (13, 1), (15, 48), (65, 12)]), [0, 1], [], []⟩) (o := [.b false]) (l := [_]) (by kernel_rfl) (gc (q_ltF h0) gn)
theorem nationsM_uni (c : Cup) (ns : List Int) (mo : Int) (qs : List Int) : uni 4 (nationsM c ns mo qs) ∧ (nationsM c ns mo qs).length ≤ 31 := by
  unfold nationsM natL
  refine ⟨fun x hx => ?_, ?_⟩
  · obtain ⟨y, _, rfl⟩ := List.mem_map.1 ((isort_perm _ _).mem_iff.1 hx)
    rfl
  · rw [(isort_perm _ _).length_eq, List.length_map]
    exact outL_len _ _ _ _ _
theorem naV_loop (c : Cup) (ns qs : List Int) (r : List (List Int)) (hu : uni 4 r) (hl : r.length ≤ 1000) : LoopOK Tryz.prog 0 zU8c0 (naV_S0 c ns qs r 0) (.exit 0) (naV_S0 c ns qs r r.length) := by
  refine LoopOK.count r.length (fun i => naV_S0 c ns qs r i) (fun i hi => ?_) (naV_L0_p2 (by omega)) (by simp)
  have hx := List.getElem?_eq_getElem hi
  have h4 := hu _ (List.getElem_mem hi)
  match e : r[i], h4 with
  | [y0, y1, y2, y3], _ =>
    rw [e] at hx
    exact naV_L0_p1 (by omega) hx hu ⟨rfl, rfl⟩ (by rw [eqFs4]; simp) (inR_nat (by omega)) rfl
theorem nations_law (c : Cup) (ns : List Int) (mo : Int) (qs : List Int) {base : Nat} : FV Tryz.prog 3 [.p (cupP c), .p (intsP ns), .p (intP mo), .p (intsP qs)] base (.p (blP true)) [] := by
  cases g : grtB c 12 with
  | true => exact naG_p0 g
  | false =>
    obtain ⟨hS, _⟩ := grt_small g
    by_cases h1 : 16 < ns.length
    · exact naV_p0 g (by omega)
    by_cases h2 : 35 < qs.length
    · exact naV_p1 g (by omega) (by omega)
    obtain ⟨r, e, hu, hl, A1, A2⟩ : ∃ (r : List (List Int)) (e : Int), uni 4 r ∧ r.length ≤ 1000 ∧ (∀ nb : Nat, FC Tryz.prog 22 [.p (cupP c), .p (intsP ns), .p (intP mo), .p (intsP qs)] [] nb (.tup [.p (.sl r.length (r.flatten.map intP)), .p (intP e)]) []) ∧ (∀ nb : Nat, FC Tryz.prog 23 [.p (cupP c), .p (intsP ns), .p (intP mo), .p (intsP qs)] [] nb (.tup [.p (.sl r.length (r.flatten.map intP)), .p (intP e)]) []) := by
      by_cases hE : natE c ns mo qs = 0
      · obtain ⟨u1, u2⟩ := nationsM_uni c ns mo qs
        refine ⟨nationsM c ns mo qs, 0, u1, by omega, fun nb => (nat_ok c ns mo qs hS hE).fc rfl, fun nb => ?_⟩
        rcases rna_any c ns mo qs hS (base := nb) with ⟨_, h⟩ | ⟨h, _⟩
        · exact h.fc rfl
        · exact absurd hE h
      · refine ⟨[], natE c ns mo qs, fun x hx => by simp at hx, by simp, fun nb => FC.wk ((nat_err c ns mo qs hS hE).fc rfl) (by kernel_rfl), fun nb => ?_⟩
        rcases rna_any c ns mo qs hS (base := nb) with ⟨h, _⟩ | ⟨_, h⟩
        · exact absurd h hE
        · exact FC.wk (h.fc rfl) (by kernel_rfl)
    exact naV_p2 g (by omega) (by omega) hS (by omega) (by omega) A1 A2 rfl rfl (naV_loop c ns qs r hu hl) rfl (by omega) (by simp) (by omega) (by simp)
end
end KV
end Go.Proofs
