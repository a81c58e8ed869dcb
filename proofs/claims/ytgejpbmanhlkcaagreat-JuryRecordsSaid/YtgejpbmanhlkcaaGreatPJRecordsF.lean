/- Parts of the proof of JRecords: laws of walks, contracts of functions, plain models. No condition. -/
import Derived.Test.YtgejpbmanhlkcaaGreatPJRecordsE
set_option linter.unusedVariables false
set_option linter.unusedSimpArgs false
set_option maxRecDepth 100000
namespace Go.Proofs
namespace KV
section

theorem gG:((0:Int) == (0:Int))=true:=by first | decide | simp
theorem gH:((0:Int) != (0:Int))=false:=by first | decide | simp
theorem uX:((3:Int) != (3:Int))=false:=by first | decide | simp
theorem bBz:((15100:Int) == (15100:Int))=true:=by first | decide | simp
theorem bHc{r0c:List PV}(h0:0≤(0:Int)∧(0:Int)≤(2:Int)∧(2:Int)≤(5:Int))(er0c:r0c=(([(aA 1),(aA 0),(aA 0),(aA 1),(aA 300),(aA 0),(aA 2),(aA 7),(aA 10),(aA 0),(aA 0),(aA 1),(aA 3),(aA 9),(aA 40),(aA 0),(aA 0),(aA 2),(aA 4),(aA 5),(aA 50),(aA 0),(aA 0),(aA 3),(aA 5),(aA 6),(aA 60),(aA 0),(aA 100),(aA 1)].drop 0).take (2*([(aA 1),(aA 0),(aA 0),(aA 1),(aA 300),(aA 0),(aA 2),(aA 7),(aA 10),(aA 0),(aA 0),(aA 1),(aA 3),(aA 9),(aA 40),(aA 0),(aA 0),(aA 2),(aA 4),(aA 5),(aA 50),(aA 0),(aA 0),(aA 3),(aA 5),(aA 6),(aA 60),(aA 0),(aA 100),(aA 1)].length / 5)))){base:Nat}:FV Tryz.prog 88 [(.p (aA 2))] base (.p (.agg [(aA 30),(.sl 3 [(aA 1),(aA 15000),(aA 2),(aA 15100),(aA 3),(aA 15200)]),(.sl 2 r0c)])) []:=by
 subst er0c
 exact FV.frz (FMM.fin (k:=0) (g:=⟨[],[],[2,1],[]⟩) rfl Tryz.func88 rfl (o:=[.c (.p (dcE 1 0 0 1 300 0)) [],.c (.p (dcE 2 7 10 0 0 1)) [],.c (.p (dcE 3 9 40 0 0 2)) [],.c (.p (dcE 4 5 50 0 0 3)) [],.c (.p (dcE 5 6 60 0 100 1)) []]) (l:=[_,FC Tryz.prog 49 [(.p (aA 5)),(.p (aA 6)),(.p (aA 1)),(.p (aA 60)),(.p (aA 100))] [] 1 (.p (dcE 5 6 60 0 100 1)) [],FC Tryz.prog 49 [(.p (aA 4)),(.p (aA 5)),(.p (aA 3)),(.p (aA 50)),(.p (aA 0))] [] 1 (.p (dcE 4 5 50 0 0 3)) [],FC Tryz.prog 49 [(.p (aA 3)),(.p (aA 9)),(.p (aA 2)),(.p (aA 40)),(.p (aA 0))] [] 1 (.p (dcE 3 9 40 0 0 2)) [],FC Tryz.prog 49 [(.p (aA 2)),(.p (aA 7)),(.p (aA 1)),(.p (aA 10)),(.p (aA 0))] [] 1 (.p (dcE 2 7 10 0 0 1)) [],FC Tryz.prog 23 [(.p (aA 1)),(.p (aA 1)),(.p (aA 300))] [] 1 (.p (dcE 1 0 0 1 300 0)) []]) (by kernel_rfl) (gc h0 (gc (FV.fc (gW (a:=(5:Int)) (b:=(6:Int)) (c:=(1:Int)) (d:=(60:Int)) (e:=(100:Int))) rfl) (gc (FV.fc (gW (a:=(4:Int)) (b:=(5:Int)) (c:=(3:Int)) (d:=(50:Int)) (e:=(0:Int))) rfl) (gc (FV.fc (gW (a:=(3:Int)) (b:=(9:Int)) (c:=(2:Int)) (d:=(40:Int)) (e:=(0:Int))) rfl) (gc (FV.fc (gW (a:=(2:Int)) (b:=(7:Int)) (c:=(1:Int)) (d:=(10:Int)) (e:=(0:Int))) rfl) (gc (FV.fc (aEx (a:=(1:Int)) (b:=(1:Int)) (c:=(300:Int))) rfl) gn))))))) (by kernel_rfl)
theorem bHd{r0c:List PV}(h0:0≤(0:Int)∧(0:Int)≤(3:Int)∧(3:Int)≤(5:Int))(er0c:r0c=(([(aA 1),(aA 0),(aA 0),(aA 1),(aA 300),(aA 0),(aA 2),(aA 7),(aA 10),(aA 0),(aA 0),(aA 1),(aA 3),(aA 9),(aA 40),(aA 0),(aA 0),(aA 2),(aA 4),(aA 5),(aA 50),(aA 0),(aA 0),(aA 3),(aA 5),(aA 6),(aA 60),(aA 0),(aA 100),(aA 1)].drop 0).take (3*([(aA 1),(aA 0),(aA 0),(aA 1),(aA 300),(aA 0),(aA 2),(aA 7),(aA 10),(aA 0),(aA 0),(aA 1),(aA 3),(aA 9),(aA 40),(aA 0),(aA 0),(aA 2),(aA 4),(aA 5),(aA 50),(aA 0),(aA 0),(aA 3),(aA 5),(aA 6),(aA 60),(aA 0),(aA 100),(aA 1)].length / 5)))){base:Nat}:FV Tryz.prog 88 [(.p (aA 3))] base (.p (.agg [(aA 30),(.sl 3 [(aA 1),(aA 15000),(aA 2),(aA 15100),(aA 3),(aA 15200)]),(.sl 3 r0c)])) []:=by
 subst er0c
 exact FV.frz (FMM.fin (k:=0) (g:=⟨[],[],[2,1],[]⟩) rfl Tryz.func88 rfl (o:=[.c (.p (dcE 1 0 0 1 300 0)) [],.c (.p (dcE 2 7 10 0 0 1)) [],.c (.p (dcE 3 9 40 0 0 2)) [],.c (.p (dcE 4 5 50 0 0 3)) [],.c (.p (dcE 5 6 60 0 100 1)) []]) (l:=[_,FC Tryz.prog 49 [(.p (aA 5)),(.p (aA 6)),(.p (aA 1)),(.p (aA 60)),(.p (aA 100))] [] 1 (.p (dcE 5 6 60 0 100 1)) [],FC Tryz.prog 49 [(.p (aA 4)),(.p (aA 5)),(.p (aA 3)),(.p (aA 50)),(.p (aA 0))] [] 1 (.p (dcE 4 5 50 0 0 3)) [],FC Tryz.prog 49 [(.p (aA 3)),(.p (aA 9)),(.p (aA 2)),(.p (aA 40)),(.p (aA 0))] [] 1 (.p (dcE 3 9 40 0 0 2)) [],FC Tryz.prog 49 [(.p (aA 2)),(.p (aA 7)),(.p (aA 1)),(.p (aA 10)),(.p (aA 0))] [] 1 (.p (dcE 2 7 10 0 0 1)) [],FC Tryz.prog 23 [(.p (aA 1)),(.p (aA 1)),(.p (aA 300))] [] 1 (.p (dcE 1 0 0 1 300 0)) []]) (by kernel_rfl) (gc h0 (gc (FV.fc (gW (a:=(5:Int)) (b:=(6:Int)) (c:=(1:Int)) (d:=(60:Int)) (e:=(100:Int))) rfl) (gc (FV.fc (gW (a:=(4:Int)) (b:=(5:Int)) (c:=(3:Int)) (d:=(50:Int)) (e:=(0:Int))) rfl) (gc (FV.fc (gW (a:=(3:Int)) (b:=(9:Int)) (c:=(2:Int)) (d:=(40:Int)) (e:=(0:Int))) rfl) (gc (FV.fc (gW (a:=(2:Int)) (b:=(7:Int)) (c:=(1:Int)) (d:=(10:Int)) (e:=(0:Int))) rfl) (gc (FV.fc (aEx (a:=(1:Int)) (b:=(1:Int)) (c:=(300:Int))) rfl) gn))))))) (by kernel_rfl)
theorem bHe{r0c:List PV}(h0:0≤(0:Int)∧(0:Int)≤(4:Int)∧(4:Int)≤(5:Int))(er0c:r0c=(([(aA 1),(aA 0),(aA 0),(aA 1),(aA 300),(aA 0),(aA 2),(aA 7),(aA 10),(aA 0),(aA 0),(aA 1),(aA 3),(aA 9),(aA 40),(aA 0),(aA 0),(aA 2),(aA 4),(aA 5),(aA 50),(aA 0),(aA 0),(aA 3),(aA 5),(aA 6),(aA 60),(aA 0),(aA 100),(aA 1)].drop 0).take (4*([(aA 1),(aA 0),(aA 0),(aA 1),(aA 300),(aA 0),(aA 2),(aA 7),(aA 10),(aA 0),(aA 0),(aA 1),(aA 3),(aA 9),(aA 40),(aA 0),(aA 0),(aA 2),(aA 4),(aA 5),(aA 50),(aA 0),(aA 0),(aA 3),(aA 5),(aA 6),(aA 60),(aA 0),(aA 100),(aA 1)].length / 5)))){base:Nat}:FV Tryz.prog 88 [(.p (aA 4))] base (.p (.agg [(aA 30),(.sl 3 [(aA 1),(aA 15000),(aA 2),(aA 15100),(aA 3),(aA 15200)]),(.sl 4 r0c)])) []:=by
 subst er0c
 exact FV.frz (FMM.fin (k:=0) (g:=⟨[],[],[2,1],[]⟩) rfl Tryz.func88 rfl (o:=[.c (.p (dcE 1 0 0 1 300 0)) [],.c (.p (dcE 2 7 10 0 0 1)) [],.c (.p (dcE 3 9 40 0 0 2)) [],.c (.p (dcE 4 5 50 0 0 3)) [],.c (.p (dcE 5 6 60 0 100 1)) []]) (l:=[_,FC Tryz.prog 49 [(.p (aA 5)),(.p (aA 6)),(.p (aA 1)),(.p (aA 60)),(.p (aA 100))] [] 1 (.p (dcE 5 6 60 0 100 1)) [],FC Tryz.prog 49 [(.p (aA 4)),(.p (aA 5)),(.p (aA 3)),(.p (aA 50)),(.p (aA 0))] [] 1 (.p (dcE 4 5 50 0 0 3)) [],FC Tryz.prog 49 [(.p (aA 3)),(.p (aA 9)),(.p (aA 2)),(.p (aA 40)),(.p (aA 0))] [] 1 (.p (dcE 3 9 40 0 0 2)) [],FC Tryz.prog 49 [(.p (aA 2)),(.p (aA 7)),(.p (aA 1)),(.p (aA 10)),(.p (aA 0))] [] 1 (.p (dcE 2 7 10 0 0 1)) [],FC Tryz.prog 23 [(.p (aA 1)),(.p (aA 1)),(.p (aA 300))] [] 1 (.p (dcE 1 0 0 1 300 0)) []]) (by kernel_rfl) (gc h0 (gc (FV.fc (gW (a:=(5:Int)) (b:=(6:Int)) (c:=(1:Int)) (d:=(60:Int)) (e:=(100:Int))) rfl) (gc (FV.fc (gW (a:=(4:Int)) (b:=(5:Int)) (c:=(3:Int)) (d:=(50:Int)) (e:=(0:Int))) rfl) (gc (FV.fc (gW (a:=(3:Int)) (b:=(9:Int)) (c:=(2:Int)) (d:=(40:Int)) (e:=(0:Int))) rfl) (gc (FV.fc (gW (a:=(2:Int)) (b:=(7:Int)) (c:=(1:Int)) (d:=(10:Int)) (e:=(0:Int))) rfl) (gc (FV.fc (aEx (a:=(1:Int)) (b:=(1:Int)) (c:=(300:Int))) rfl) gn))))))) (by kernel_rfl)
theorem bHf{r0c:List PV}(h0:0≤(0:Int)∧(0:Int)≤(5:Int)∧(5:Int)≤(5:Int))(er0c:r0c=(([(aA 1),(aA 0),(aA 0),(aA 1),(aA 300),(aA 0),(aA 2),(aA 7),(aA 10),(aA 0),(aA 0),(aA 1),(aA 3),(aA 9),(aA 40),(aA 0),(aA 0),(aA 2),(aA 4),(aA 5),(aA 50),(aA 0),(aA 0),(aA 3),(aA 5),(aA 6),(aA 60),(aA 0),(aA 100),(aA 1)].drop 0).take (5*([(aA 1),(aA 0),(aA 0),(aA 1),(aA 300),(aA 0),(aA 2),(aA 7),(aA 10),(aA 0),(aA 0),(aA 1),(aA 3),(aA 9),(aA 40),(aA 0),(aA 0),(aA 2),(aA 4),(aA 5),(aA 50),(aA 0),(aA 0),(aA 3),(aA 5),(aA 6),(aA 60),(aA 0),(aA 100),(aA 1)].length / 5)))){base:Nat}:FV Tryz.prog 88 [(.p (aA 5))] base (.p (.agg [(aA 30),(.sl 3 [(aA 1),(aA 15000),(aA 2),(aA 15100),(aA 3),(aA 15200)]),(.sl 5 r0c)])) []:=by
 subst er0c
 exact FV.frz (FMM.fin (k:=0) (g:=⟨[],[],[2,1],[]⟩) rfl Tryz.func88 rfl (o:=[.c (.p (dcE 1 0 0 1 300 0)) [],.c (.p (dcE 2 7 10 0 0 1)) [],.c (.p (dcE 3 9 40 0 0 2)) [],.c (.p (dcE 4 5 50 0 0 3)) [],.c (.p (dcE 5 6 60 0 100 1)) []]) (l:=[_,FC Tryz.prog 49 [(.p (aA 5)),(.p (aA 6)),(.p (aA 1)),(.p (aA 60)),(.p (aA 100))] [] 1 (.p (dcE 5 6 60 0 100 1)) [],FC Tryz.prog 49 [(.p (aA 4)),(.p (aA 5)),(.p (aA 3)),(.p (aA 50)),(.p (aA 0))] [] 1 (.p (dcE 4 5 50 0 0 3)) [],FC Tryz.prog 49 [(.p (aA 3)),(.p (aA 9)),(.p (aA 2)),(.p (aA 40)),(.p (aA 0))] [] 1 (.p (dcE 3 9 40 0 0 2)) [],FC Tryz.prog 49 [(.p (aA 2)),(.p (aA 7)),(.p (aA 1)),(.p (aA 10)),(.p (aA 0))] [] 1 (.p (dcE 2 7 10 0 0 1)) [],FC Tryz.prog 23 [(.p (aA 1)),(.p (aA 1)),(.p (aA 300))] [] 1 (.p (dcE 1 0 0 1 300 0)) []]) (by kernel_rfl) (gc h0 (gc (FV.fc (gW (a:=(5:Int)) (b:=(6:Int)) (c:=(1:Int)) (d:=(60:Int)) (e:=(100:Int))) rfl) (gc (FV.fc (gW (a:=(4:Int)) (b:=(5:Int)) (c:=(3:Int)) (d:=(50:Int)) (e:=(0:Int))) rfl) (gc (FV.fc (gW (a:=(3:Int)) (b:=(9:Int)) (c:=(2:Int)) (d:=(40:Int)) (e:=(0:Int))) rfl) (gc (FV.fc (gW (a:=(2:Int)) (b:=(7:Int)) (c:=(1:Int)) (d:=(10:Int)) (e:=(0:Int))) rfl) (gc (FV.fc (aEx (a:=(1:Int)) (b:=(1:Int)) (c:=(300:Int))) rfl) gn))))))) (by kernel_rfl)
theorem tO{base:Nat}:FV Tryz.prog 88 [.p (aA 2)] base (.p (.agg [(aA 30),(.sl 3 [(aA 1),(aA 15000),(aA 2),(aA 15100),(aA 3),(aA 15200)]),(.sl 2 [(aA 1),(aA 0),(aA 0),(aA 1),(aA 300),(aA 0),(aA 2),(aA 7),(aA 10),(aA 0),(aA 0),(aA 1)])])) []:=bHc (by decide) rfl
theorem bHg{base:Nat}:FV Tryz.prog 88 [.p (aA 3)] base (.p (.agg [(aA 30),(.sl 3 [(aA 1),(aA 15000),(aA 2),(aA 15100),(aA 3),(aA 15200)]),(.sl 3 [(aA 1),(aA 0),(aA 0),(aA 1),(aA 300),(aA 0),(aA 2),(aA 7),(aA 10),(aA 0),(aA 0),(aA 1),(aA 3),(aA 9),(aA 40),(aA 0),(aA 0),(aA 2)])])) []:=bHd (by decide) rfl
theorem bHh{base:Nat}:FV Tryz.prog 88 [.p (aA 4)] base (.p (.agg [(aA 30),(.sl 3 [(aA 1),(aA 15000),(aA 2),(aA 15100),(aA 3),(aA 15200)]),(.sl 4 [(aA 1),(aA 0),(aA 0),(aA 1),(aA 300),(aA 0),(aA 2),(aA 7),(aA 10),(aA 0),(aA 0),(aA 1),(aA 3),(aA 9),(aA 40),(aA 0),(aA 0),(aA 2),(aA 4),(aA 5),(aA 50),(aA 0),(aA 0),(aA 3)])])) []:=bHe (by decide) rfl
theorem bHi{base:Nat}:FV Tryz.prog 88 [.p (aA 5)] base (.p (.agg [(aA 30),(.sl 3 [(aA 1),(aA 15000),(aA 2),(aA 15100),(aA 3),(aA 15200)]),(.sl 5 [(aA 1),(aA 0),(aA 0),(aA 1),(aA 300),(aA 0),(aA 2),(aA 7),(aA 10),(aA 0),(aA 0),(aA 1),(aA 3),(aA 9),(aA 40),(aA 0),(aA 0),(aA 2),(aA 4),(aA 5),(aA 50),(aA 0),(aA 0),(aA 3),(aA 5),(aA 6),(aA 60),(aA 0),(aA 100),(aA 1)])])) []:=bHf (by decide) rfl
theorem bOz(h28_0:∀ base:Nat,FV Tryz.prog 28 [(.p (.agg [(aA 30),(.sl 3 [(aA 1),(aA 15000),(aA 2),(aA 15100),(aA 3),(aA 15200)]),(.sl 2 [(aA 1),(aA 0),(aA 0),(aA 1),(aA 300),(aA 0),(aA 2),(aA 7),(aA 10),(aA 0),(aA 0),(aA 1)])]))] base (.tup [(.own base),(.p (aA 0))]) [(base,(.row 48 3 [(aA 2),(aA 1),(aA 15100),(aA 3),(aA 2),(aA 15200),(aA 1),(aA 3),(aA 15300)]))])(h21_1:∀ base:Nat,FV Tryz.prog 21 [(.p (.agg [(aA 30),(.sl 3 [(aA 1),(aA 15000),(aA 2),(aA 15100),(aA 3),(aA 15200)]),(.sl 2 [(aA 1),(aA 0),(aA 0),(aA 1),(aA 300),(aA 0),(aA 2),(aA 7),(aA 10),(aA 0),(aA 0),(aA 1)])])),(.p (.sl 1 [(aA 2)]))] base (.tup [(.own base),(.p (aA 0))]) [(base,(.row 48 3 [(aA 1),(aA 1),(aA 15000),(aA 2),(aA 2),(aA 15100),(aA 3),(aA 3),(aA 15200)]))])(h71_2:∀ base:Nat,FV Tryz.prog 71 [(.p (.agg [(aA 30),(.sl 3 [(aA 1),(aA 15000),(aA 2),(aA 15100),(aA 3),(aA 15200)]),(.sl 2 [(aA 1),(aA 0),(aA 0),(aA 1),(aA 300),(aA 0),(aA 2),(aA 7),(aA 10),(aA 0),(aA 0),(aA 1)])])),(.p (aA 1))] base (.tup [(.p (.sl 2 [(aA 1),(aA 3)])),(.p (blP false)),(.p (aA 0))]) [])(h33_3:∀ base:Nat,FV Tryz.prog 33 [(.p (.agg [(aA 30),(.sl 3 [(aA 1),(aA 15000),(aA 2),(aA 15100),(aA 3),(aA 15200)]),(.sl 2 [(aA 1),(aA 0),(aA 0),(aA 1),(aA 300),(aA 0),(aA 2),(aA 7),(aA 10),(aA 0),(aA 0),(aA 1)])])),(.p (aA 2))] base (.tup [(.p (.sl 1 [(aA 2)])),(.p (aA 0))]) [])(h51_4:∀ base:Nat,FV Tryz.prog 51 [(.p (.sl 3 [(aA 2),(aA 1),(aA 15100),(aA 3),(aA 2),(aA 15200),(aA 1),(aA 3),(aA 15300)])),(.p (.sl 3 [(aA 2),(aA 1),(aA 15100),(aA 3),(aA 2),(aA 15200),(aA 1),(aA 3),(aA 15300)]))] base (.p (blP true)) [])(h5:cG [(aA 1),(aA 1),(aA 15000)] [(0,3,true),(1,3,true),(2,3,true)]=true∧cG [(aA 1),(aA 1),(aA 15000)] [(0,3,true),(1,3,true),(2,3,true)]=true)(h6:(fX [(aA 1),(aA 1),(aA 15000)] [(aA 1),(aA 1),(aA 15000)] [(0,3,true),(1,3,true),(2,3,true)])=true)(h41_7:∀ base:Nat,FV Tryz.prog 41 [(.p (.sl 2 [(aA 1),(aA 3)])),(.p (.sl 2 [(aA 1),(aA 3)]))] base (.p (blP true)) [])(h41_8:∀ base:Nat,FV Tryz.prog 41 [(.p (.sl 1 [(aA 2)])),(.p (.sl 1 [(aA 2)]))] base (.p (blP true)) [])(h19_9:∀ base:Nat,FV Tryz.prog 19 [(.p (.agg [(aA 30),(.sl 3 [(aA 1),(aA 15000),(aA 2),(aA 15100),(aA 3),(aA 15200)]),(.sl 3 [(aA 1),(aA 0),(aA 0),(aA 1),(aA 300),(aA 0),(aA 2),(aA 7),(aA 10),(aA 0),(aA 0),(aA 1),(aA 3),(aA 9),(aA 40),(aA 0),(aA 0),(aA 2)])]))] base (.tup [(.p (.sl 0 [])),(.p (aA 0))]) [])(h19_10:∀ base:Nat,FV Tryz.prog 19 [(.p (.agg [(aA 30),(.sl 3 [(aA 1),(aA 15000),(aA 2),(aA 15100),(aA 3),(aA 15200)]),(.sl 4 [(aA 1),(aA 0),(aA 0),(aA 1),(aA 300),(aA 0),(aA 2),(aA 7),(aA 10),(aA 0),(aA 0),(aA 1),(aA 3),(aA 9),(aA 40),(aA 0),(aA 0),(aA 2),(aA 4),(aA 5),(aA 50),(aA 0),(aA 0),(aA 3)])]))] base (.tup [(.p (.sl 1 [(aA 2)])),(.p (aA 0))]) [])(h61_11:∀ base:Nat,FV Tryz.prog 61 [(.p (.agg [(aA 30),(.sl 3 [(aA 1),(aA 15000),(aA 2),(aA 15100),(aA 3),(aA 15200)]),(.sl 5 [(aA 1),(aA 0),(aA 0),(aA 1),(aA 300),(aA 0),(aA 2),(aA 7),(aA 10),(aA 0),(aA 0),(aA 1),(aA 3),(aA 9),(aA 40),(aA 0),(aA 0),(aA 2),(aA 4),(aA 5),(aA 50),(aA 0),(aA 0),(aA 3),(aA 5),(aA 6),(aA 60),(aA 0),(aA 100),(aA 1)])])),(.p (aA 1))] base (.tup [(.p (aA 15100)),(.p (blP false)),(.p (aA 0))]) [])(h58_12:∀ base:Nat,FV Tryz.prog 58 [(.p (.agg [(aA 30),(.sl 3 [(aA 1),(aA 15000),(aA 2),(aA 15100),(aA 3),(aA 15200)]),(.sl 2 [(aA 1),(aA 0),(aA 0),(aA 1),(aA 300),(aA 0),(aA 2),(aA 7),(aA 10),(aA 0),(aA 0),(aA 1)])])),(.p (aA 2))] base (.tup [(.p (blP true)),(.p (aA 0))]) []){base:Nat}:FV Tryz.prog 26 [] base (.p (blP true)) []:=by
 exact FV.fin Tryz.func26 rfl (o:=[.c (.p (.agg [(aA 30),(.sl 3 [(aA 1),(aA 15000),(aA 2),(aA 15100),(aA 3),(aA 15200)]),(.sl 2 [(aA 1),(aA 0),(aA 0),(aA 1),(aA 300),(aA 0),(aA 2),(aA 7),(aA 10),(aA 0),(aA 0),(aA 1)])])) [],.c (.tup [(.own 0),(.p (aA 0))]) [(0,(.row 48 3 [(aA 2),(aA 1),(aA 15100),(aA 3),(aA 2),(aA 15200),(aA 1),(aA 3),(aA 15300)]))],.c (.p (.agg [(aA 30),(.sl 3 [(aA 1),(aA 15000),(aA 2),(aA 15100),(aA 3),(aA 15200)]),(.sl 2 [(aA 1),(aA 0),(aA 0),(aA 1),(aA 300),(aA 0),(aA 2),(aA 7),(aA 10),(aA 0),(aA 0),(aA 1)])])) [],.c (.tup [(.own 2),(.p (aA 0))]) [(1,.dead),(2,(.row 48 3 [(aA 1),(aA 1),(aA 15000),(aA 2),(aA 2),(aA 15100),(aA 3),(aA 3),(aA 15200)]))],.c (.p (.agg [(aA 30),(.sl 3 [(aA 1),(aA 15000),(aA 2),(aA 15100),(aA 3),(aA 15200)]),(.sl 2 [(aA 1),(aA 0),(aA 0),(aA 1),(aA 300),(aA 0),(aA 2),(aA 7),(aA 10),(aA 0),(aA 0),(aA 1)])])) [],.c (.tup [(.p (.sl 2 [(aA 1),(aA 3)])),(.p (blP false)),(.p (aA 0))]) [],.c (.p (.agg [(aA 30),(.sl 3 [(aA 1),(aA 15000),(aA 2),(aA 15100),(aA 3),(aA 15200)]),(.sl 2 [(aA 1),(aA 0),(aA 0),(aA 1),(aA 300),(aA 0),(aA 2),(aA 7),(aA 10),(aA 0),(aA 0),(aA 1)])])) [],.c (.tup [(.p (.sl 1 [(aA 2)])),(.p (aA 0))]) [],bF,bF,bF,bF,bF,bF,bF,bF,bF,bF,bF,bF,bF,bF,bF,.c (.p (blP true)) [],bF,bF,bF,bF,bF,bF,bF,bF,bF,.x (.agg [(aA 1),(aA 1),(aA 15000)]),bF,bF,bF,bF,bF,bF,.c (.p (blP true)) [],bF,bF,bF,bF,bF,.c (.p (blP true)) [],bF,bF,bF,.c (.p (.agg [(aA 30),(.sl 3 [(aA 1),(aA 15000),(aA 2),(aA 15100),(aA 3),(aA 15200)]),(.sl 3 [(aA 1),(aA 0),(aA 0),(aA 1),(aA 300),(aA 0),(aA 2),(aA 7),(aA 10),(aA 0),(aA 0),(aA 1),(aA 3),(aA 9),(aA 40),(aA 0),(aA 0),(aA 2)])])) [],.c (.tup [(.p (.sl 0 [])),(.p (aA 0))]) [],.c (.p (.agg [(aA 30),(.sl 3 [(aA 1),(aA 15000),(aA 2),(aA 15100),(aA 3),(aA 15200)]),(.sl 4 [(aA 1),(aA 0),(aA 0),(aA 1),(aA 300),(aA 0),(aA 2),(aA 7),(aA 10),(aA 0),(aA 0),(aA 1),(aA 3),(aA 9),(aA 40),(aA 0),(aA 0),(aA 2),(aA 4),(aA 5),(aA 50),(aA 0),(aA 0),(aA 3)])])) [],.c (.tup [(.p (.sl 1 [(aA 2)])),(.p (aA 0))]) [],.c (.p (.agg [(aA 30),(.sl 3 [(aA 1),(aA 15000),(aA 2),(aA 15100),(aA 3),(aA 15200)]),(.sl 5 [(aA 1),(aA 0),(aA 0),(aA 1),(aA 300),(aA 0),(aA 2),(aA 7),(aA 10),(aA 0),(aA 0),(aA 1),(aA 3),(aA 9),(aA 40),(aA 0),(aA 0),(aA 2),(aA 4),(aA 5),(aA 50),(aA 0),(aA 0),(aA 3),(aA 5),(aA 6),(aA 60),(aA 0),(aA 100),(aA 1)])])) [],.c (.tup [(.p (aA 15100)),(.p (blP false)),(.p (aA 0))]) [],.c (.p (.agg [(aA 30),(.sl 3 [(aA 1),(aA 15000),(aA 2),(aA 15100),(aA 3),(aA 15200)]),(.sl 2 [(aA 1),(aA 0),(aA 0),(aA 1),(aA 300),(aA 0),(aA 2),(aA 7),(aA 10),(aA 0),(aA 0),(aA 1)])])) [],.c (.tup [(.p (blP true)),(.p (aA 0))]) [],bT,bT,bT,bT,bT,bT,bT,bT,bT,bT,bT,bT,bT,bT,bT,bT,.c (.p (blP true)) [],bT,bT,bT,bT,bT,bT]) (l:=[_,_,true=true,true=true,true=true,_,FC Tryz.prog 41 [(.p (.sl 1 [(aA 2)])),(.own 6)] [(6,(.row 3 1 [(aA 2)]))] 7 (.p (blP true)) [],_,_,_,_,_,_,_,_,_,_,_,_,_,_,_,_,FC Tryz.prog 58 [(.p (.agg [(aA 30),(.sl 3 [(aA 1),(aA 15000),(aA 2),(aA 15100),(aA 3),(aA 15200)]),(.sl 2 [(aA 1),(aA 0),(aA 0),(aA 1),(aA 300),(aA 0),(aA 2),(aA 7),(aA 10),(aA 0),(aA 0),(aA 1)])])),(.p (aA 2))] [] 6 (.tup [(.p (blP true)),(.p (aA 0))]) [],FC Tryz.prog 88 [(.p (aA 2))] [] 6 (.p (.agg [(aA 30),(.sl 3 [(aA 1),(aA 15000),(aA 2),(aA 15100),(aA 3),(aA 15200)]),(.sl 2 [(aA 1),(aA 0),(aA 0),(aA 1),(aA 300),(aA 0),(aA 2),(aA 7),(aA 10),(aA 0),(aA 0),(aA 1)])])) [],FC Tryz.prog 61 [(.p (.agg [(aA 30),(.sl 3 [(aA 1),(aA 15000),(aA 2),(aA 15100),(aA 3),(aA 15200)]),(.sl 5 [(aA 1),(aA 0),(aA 0),(aA 1),(aA 300),(aA 0),(aA 2),(aA 7),(aA 10),(aA 0),(aA 0),(aA 1),(aA 3),(aA 9),(aA 40),(aA 0),(aA 0),(aA 2),(aA 4),(aA 5),(aA 50),(aA 0),(aA 0),(aA 3),(aA 5),(aA 6),(aA 60),(aA 0),(aA 100),(aA 1)])])),(.p (aA 1))] [] 6 (.tup [(.p (aA 15100)),(.p (blP false)),(.p (aA 0))]) [],FC Tryz.prog 88 [(.p (aA 5))] [] 6 (.p (.agg [(aA 30),(.sl 3 [(aA 1),(aA 15000),(aA 2),(aA 15100),(aA 3),(aA 15200)]),(.sl 5 [(aA 1),(aA 0),(aA 0),(aA 1),(aA 300),(aA 0),(aA 2),(aA 7),(aA 10),(aA 0),(aA 0),(aA 1),(aA 3),(aA 9),(aA 40),(aA 0),(aA 0),(aA 2),(aA 4),(aA 5),(aA 50),(aA 0),(aA 0),(aA 3),(aA 5),(aA 6),(aA 60),(aA 0),(aA 100),(aA 1)])])) [],FC Tryz.prog 19 [(.p (.agg [(aA 30),(.sl 3 [(aA 1),(aA 15000),(aA 2),(aA 15100),(aA 3),(aA 15200)]),(.sl 4 [(aA 1),(aA 0),(aA 0),(aA 1),(aA 300),(aA 0),(aA 2),(aA 7),(aA 10),(aA 0),(aA 0),(aA 1),(aA 3),(aA 9),(aA 40),(aA 0),(aA 0),(aA 2),(aA 4),(aA 5),(aA 50),(aA 0),(aA 0),(aA 3)])]))] [] 6 (.tup [(.p (.sl 1 [(aA 2)])),(.p (aA 0))]) [],FC Tryz.prog 88 [(.p (aA 4))] [] 6 (.p (.agg [(aA 30),(.sl 3 [(aA 1),(aA 15000),(aA 2),(aA 15100),(aA 3),(aA 15200)]),(.sl 4 [(aA 1),(aA 0),(aA 0),(aA 1),(aA 300),(aA 0),(aA 2),(aA 7),(aA 10),(aA 0),(aA 0),(aA 1),(aA 3),(aA 9),(aA 40),(aA 0),(aA 0),(aA 2),(aA 4),(aA 5),(aA 50),(aA 0),(aA 0),(aA 3)])])) [],FC Tryz.prog 19 [(.p (.agg [(aA 30),(.sl 3 [(aA 1),(aA 15000),(aA 2),(aA 15100),(aA 3),(aA 15200)]),(.sl 3 [(aA 1),(aA 0),(aA 0),(aA 1),(aA 300),(aA 0),(aA 2),(aA 7),(aA 10),(aA 0),(aA 0),(aA 1),(aA 3),(aA 9),(aA 40),(aA 0),(aA 0),(aA 2)])]))] [] 6 (.tup [(.p (.sl 0 [])),(.p (aA 0))]) [],FC Tryz.prog 88 [(.p (aA 3))] [] 6 (.p (.agg [(aA 30),(.sl 3 [(aA 1),(aA 15000),(aA 2),(aA 15100),(aA 3),(aA 15200)]),(.sl 3 [(aA 1),(aA 0),(aA 0),(aA 1),(aA 300),(aA 0),(aA 2),(aA 7),(aA 10),(aA 0),(aA 0),(aA 1),(aA 3),(aA 9),(aA 40),(aA 0),(aA 0),(aA 2)])])) [],false=false,false=false,false=false,FC Tryz.prog 41 [(.p (.sl 1 [(aA 2)])),(.own 5)] [(5,(.row 3 1 [(aA 2)]))] 6 (.p (blP true)) [],false=false,false=false,false=false,_,_,FC Tryz.prog 41 [(.p (.sl 2 [(aA 1),(aA 3)])),(.own 4)] [(4,(.row 3 2 [(aA 1),(aA 3)]))] 5 (.p (blP true)) [],_,_,_,_,_,_,_,some (.agg (([(aA 1),(aA 1),(aA 15000),(aA 2),(aA 2),(aA 15100),(aA 3),(aA 3),(aA 15200)].drop 0).take 3):PV)=some (.agg [(aA 1),(aA 1),(aA 15000)]),0+3≤[(aA 1),(aA 1),(aA 15000),(aA 2),(aA 2),(aA 15100),(aA 3),(aA 3),(aA 15200)].length,_,0≤(0:Int)∧(0:Int)<(3:Int),_,_,false=false,false=false,false=false,false=false,_,_,FC Tryz.prog 51 [(.own 0),(.own 3)] [(0,(.row 48 3 [(aA 2),(aA 1),(aA 15100),(aA 3),(aA 2),(aA 15200),(aA 1),(aA 3),(aA 15300)])),(3,(.row 48 3 [(aA 2),(aA 1),(aA 15100),(aA 3),(aA 2),(aA 15200),(aA 1),(aA 3),(aA 15300)]))] 4 (.p (blP true)) [],_,_,_,_,_,_,_,_,_,_,_,_,_,_,_,FC Tryz.prog 33 [(.p (.agg [(aA 30),(.sl 3 [(aA 1),(aA 15000),(aA 2),(aA 15100),(aA 3),(aA 15200)]),(.sl 2 [(aA 1),(aA 0),(aA 0),(aA 1),(aA 300),(aA 0),(aA 2),(aA 7),(aA 10),(aA 0),(aA 0),(aA 1)])])),(.p (aA 2))] [] 3 (.tup [(.p (.sl 1 [(aA 2)])),(.p (aA 0))]) [],FC Tryz.prog 88 [(.p (aA 2))] [] 3 (.p (.agg [(aA 30),(.sl 3 [(aA 1),(aA 15000),(aA 2),(aA 15100),(aA 3),(aA 15200)]),(.sl 2 [(aA 1),(aA 0),(aA 0),(aA 1),(aA 300),(aA 0),(aA 2),(aA 7),(aA 10),(aA 0),(aA 0),(aA 1)])])) [],FC Tryz.prog 71 [(.p (.agg [(aA 30),(.sl 3 [(aA 1),(aA 15000),(aA 2),(aA 15100),(aA 3),(aA 15200)]),(.sl 2 [(aA 1),(aA 0),(aA 0),(aA 1),(aA 300),(aA 0),(aA 2),(aA 7),(aA 10),(aA 0),(aA 0),(aA 1)])])),(.p (aA 1))] [] 3 (.tup [(.p (.sl 2 [(aA 1),(aA 3)])),(.p (blP false)),(.p (aA 0))]) [],FC Tryz.prog 88 [(.p (aA 2))] [] 3 (.p (.agg [(aA 30),(.sl 3 [(aA 1),(aA 15000),(aA 2),(aA 15100),(aA 3),(aA 15200)]),(.sl 2 [(aA 1),(aA 0),(aA 0),(aA 1),(aA 300),(aA 0),(aA 2),(aA 7),(aA 10),(aA 0),(aA 0),(aA 1)])])) [],FC Tryz.prog 21 [(.p (.agg [(aA 30),(.sl 3 [(aA 1),(aA 15000),(aA 2),(aA 15100),(aA 3),(aA 15200)]),(.sl 2 [(aA 1),(aA 0),(aA 0),(aA 1),(aA 300),(aA 0),(aA 2),(aA 7),(aA 10),(aA 0),(aA 0),(aA 1)])])),(.own 1)] [(1,(.row 3 1 [(aA 2)]))] 2 (.tup [(.own 2),(.p (aA 0))]) [(1,.dead),(2,(.row 48 3 [(aA 1),(aA 1),(aA 15000),(aA 2),(aA 2),(aA 15100),(aA 3),(aA 3),(aA 15200)]))],FC Tryz.prog 88 [(.p (aA 2))] [] 1 (.p (.agg [(aA 30),(.sl 3 [(aA 1),(aA 15000),(aA 2),(aA 15100),(aA 3),(aA 15200)]),(.sl 2 [(aA 1),(aA 0),(aA 0),(aA 1),(aA 300),(aA 0),(aA 2),(aA 7),(aA 10),(aA 0),(aA 0),(aA 1)])])) [],FC Tryz.prog 28 [(.p (.agg [(aA 30),(.sl 3 [(aA 1),(aA 15000),(aA 2),(aA 15100),(aA 3),(aA 15200)]),(.sl 2 [(aA 1),(aA 0),(aA 0),(aA 1),(aA 300),(aA 0),(aA 2),(aA 7),(aA 10),(aA 0),(aA 0),(aA 1)])]))] [] 0 (.tup [(.own 0),(.p (aA 0))]) [(0,(.row 48 3 [(aA 2),(aA 1),(aA 15100),(aA 3),(aA 2),(aA 15200),(aA 1),(aA 3),(aA 15300)]))],FC Tryz.prog 88 [(.p (aA 2))] [] 0 (.p (.agg [(aA 30),(.sl 3 [(aA 1),(aA 15000),(aA 2),(aA 15100),(aA 3),(aA 15200)]),(.sl 2 [(aA 1),(aA 0),(aA 0),(aA 1),(aA 300),(aA 0),(aA 2),(aA 7),(aA 10),(aA 0),(aA 0),(aA 1)])])) []]) (by kernel_rfl) (gc bBz (gc bBz (gc rfl (gc rfl (gc rfl (gc gG (gc (fv (h41_8 _)) (gc gG (gc gG (gc gG (gc gG (gc gG (gc gG (gc gG (gc gG (gc gG (gc gG (gc gG (gc gG (gc gG (gc gG (gc gG (gc gG (gc (FV.fc (h58_12 _) rfl) (gc (FV.fc tO (by kernel_rfl)) (gc (FV.fc (h61_11 _) rfl) (gc (FV.fc bHi (by kernel_rfl)) (gc (FV.fc (h19_10 _) rfl) (gc (FV.fc bHh (by kernel_rfl)) (gc (FV.fc (h19_9 _) rfl) (gc (FV.fc bHg (by kernel_rfl)) (gc rfl (gc rfl (gc rfl (gc (fv (h41_8 _)) (gc rfl (gc rfl (gc rfl (gc (aI h6) (gc (aI h6) (gc (fv (h41_7 _)) (gc (aI h6) (gc (aI h6) (gc (aI h6) (gc uX (gc h5 (gc uX (gc uX (gc rfl (gc (by first | decide | simp) (gc uX (gc (by first | decide | simp) (gc uX (gc uX (gc rfl (gc rfl (gc rfl (gc rfl (gc gH (gc gH (gc (fv (h51_4 _)) (gc gH (gc gH (gc gH (gc gH (gc gH (gc gH (gc gH (gc gH (gc gH (gc gH (gc gH (gc gH (gc gH (gc gH (gc gH (gc (FV.fc (h33_3 _) rfl) (gc (FV.fc tO (by kernel_rfl)) (gc (FV.fc (h71_2 _) rfl) (gc (FV.fc tO (by kernel_rfl)) (gc (FV.close (ids:=[1]) (args':=[(.p (.agg [(aA 30),(.sl 3 [(aA 1),(aA 15000),(aA 2),(aA 15100),(aA 3),(aA 15200)]),(.sl 2 [(aA 1),(aA 0),(aA 0),(aA 1),(aA 300),(aA 0),(aA 2),(aA 7),(aA 10),(aA 0),(aA 0),(aA 1)])])),(.p (.sl 1 [(aA 2)]))]) (h21_1 _) (by kernel_rfl)) (gc (FV.fc tO (by kernel_rfl)) (gc (FV.fc (h28_0 _) rfl) (gc (FV.fc tO (by kernel_rfl)) gn))))))))))))))))))))))))))))))))))))))))))))))))))))))))))))))))))))))))))))))))))))
end
section
abbrev sB(s:List Int):Int:=s.getD 0 0
abbrev sT(s:List Int):Int:=s.getD 1 0
def rE(dl:Int)(oc:List Int)(dc sk:List (List Int)):List (List Int):=(sk.filter fun s => !(kF dl oc dc (sB s) (sT s)).2).map fun s=>[sB s,0,(kF dl oc dc (sB s) (sT s)).1]
def oK(dl:Int)(oc:List Int)(dc sk:List (List Int)):List (List Int):=(sk.filter fun s=>(kF dl oc dc (sB s) (sT s)).2).map fun s=>[sB s,-1,0]
def plN(A:List (List Int))(t:Int):Int:=match A.getLast? with
 | some y=>if y.getD 2 0=t then y.getD 1 0 else (A.length:Int)+1
 | none=>(A.length:Int)+1
def plS(A:List (List Int))(x:List Int):List (List Int):=A++[[x.getD 0 0,plN A (x.getD 2 0),x.getD 2 0]]
def pZ(l:List (List Int)):List (List Int):=l.foldl plS []
def aAo(dl:Int)(oc:List Int)(dc sk:List (List Int)):List (List Int):=pZ (isort (ltK 2) (rE dl oc dc sk))++oK dl oc dc sk

theorem bKf(A D:List PV)(a b c v:PV):(A++[a,b,c]++D).set (A.length+1) v=A++[a,v,c]++D:=by
 induction A with
 | nil=>rfl
 | cons x A ih=>simp
theorem xM{L:List (List Int)}{j:Nat}{a b c:Int}(hu:uni 3 L)(hj:L[j]? = some [a,b,c])(v:Int):(L.flatten.map aA).set (j*3+1) (aA v)=((L.set j [a,v,c]).flatten.map aA):=by
 obtain ⟨hlt,he⟩:=List.getElem?_eq_some_iff.1 hj
 have h0:=tJ (k:=3) (i:=j) (x:=[a,b,c]) hu hlt rfl
 have h1:=tJ (k:=3) (i:=j) (x:=[a,v,c]) hu hlt rfl
 have hs:L.set j [a,b,c]=L:=by rw [← he];exact List.set_getElem_self hlt
 rw [hs] at h0
 rw [← h1]
 have hl:((L.flatten.map aA).take (j*3)).length=j*3:=by
  have:=bD hu hj
  rw [List.length_take];omega
 have:=bKf ((L.flatten.map aA).take (j*3)) ((L.flatten.map aA).drop (j*3+3)) (aA a) (aA b) (aA c) (aA v)
 rw [hl] at this
 conv=>lhs;rw [← h0]
 exact this
theorem bKg(A:List (List Int))(x:List Int):(plS A x).length=A.length+1:=by simp [plS]
theorem aQo(l:List (List Int)):∀ A:List (List Int),(l.foldl plS A).length=A.length+l.length:=by
 induction l with
 | nil=>intro A;simp
 | cons x l ih=>intro A;rw [List.foldl_cons,ih,bKg];simp;omega
theorem aQp(l:List (List Int)):∀ A:List (List Int),uni 3 A→uni 3 (l.foldl plS A):=by
 induction l with
 | nil=>intro A h;exact h
 | cons x l ih =>
  intro A h
  rw [List.foldl_cons]
  refine ih _ fun y hy => ?_
  unfold plS at hy
  rcases List.mem_append.1 hy with hy | hy
  ·exact h y hy
  ·rw [List.mem_singleton.1 hy];rfl
section
variable {dl:Int} {sk dc:List (List Int)} {oc:List Int} {ov:PV}
theorem aOe(l:List (List Int))(hu:uni 3 l)(hl:l.length<1000)(p q:List (List Int))(hp:(isort (ltK 2) p).length=l.length)(t:List (Int × Bool)) :
  aF Tryz.prog 7 (sub (cd Tryz.f86) [1,1,1,1,0,1,0,0]) (eW dl sk dc ov p q t l.length (l.flatten.map aA) 0) (.exit 2) (eW dl sk dc ov p q t (pZ l).length ((pZ l).flatten.map aA) l.length):=by
 let St (j:Nat):List (List Int):=(l.take j).foldl plS []++l.drop j
 have hlen:∀ j,j≤l.length→((l.take j).foldl plS []).length=j:=fun j hj=>by rw [aQo];simp;omega
 have hlS:∀ j,j≤l.length→(St j).length=l.length:=fun j hj=>by
  show (_++_:List (List Int)).length=_
  rw [List.length_append,hlen j hj,List.length_drop];omega
 have huS:∀ j,uni 3 (St j):=fun j y hy=>by
  rcases List.mem_append.1 hy with hy | hy
  ·exact aQp _ [] (fun z hz=>by cases hz) y hy
  ·exact hu y (List.mem_of_mem_drop hy)
 have:=aF.count (P:=Tryz.prog) (k:=7) (b:=sub (cd Tryz.f86) [1,1,1,1,0,1,0,0]) (e := .exit 2) (R:=eW dl sk dc ov p q t (pZ l).length ((pZ l).flatten.map aA) l.length) l.length
  (fun j=>eW dl sk dc ov p q t (St j).length ((St j).flatten.map aA) j)
  (fun j hj=>by
   have hx:=hu _ (List.getElem_mem hj)
   obtain ⟨a,b,c,hx⟩:=len3 hx
   have hA:=hlen j (by omega)
   have e1:(l.take (j+1)).foldl plS []=plS ((l.take j).foldl plS []) [a,b,c]:=by
    rw [List.take_add_one,List.getElem?_eq_getElem hj,hx]
    rw [List.foldl_append];rfl
   have hdr:l.drop j=[a,b,c]::l.drop (j+1):=by rw [List.drop_eq_getElem_cons hj,hx]
   have g1:(St j)[j]? = some [a,b,c]:=by
    show ((l.take j).foldl plS []++l.drop j)[j]? = _
    rw [List.getElem?_append_right (by omega),hA,Nat.sub_self,hdr];rfl
   have hset:∀ v,(St j).set j [a,v,c]=(l.take j).foldl plS []++[a,v,c]::l.drop (j+1):=fun v=>by
    show ((l.take j).foldl plS []++l.drop j).set j [a,v,c]=_
    rw [List.set_append_right _ _ (by omega),hA,Nat.sub_self,hdr];rfl
   have hnext:St (j+1)=(St j).set j [a,plN ((l.take j).foldl plS []) c,c]:=by
    rw [hset]
    show (l.take (j+1)).foldl plS []++l.drop (j+1)=_
    rw [e1]
    unfold plS
    rw [List.append_assoc];rfl
   have hle:=bD (huS j) g1
   have hpl:(j:Int)<((isort (ltK 2) p).length:Int):=by rw [hp];omega
   rw [hnext]
   rcases Nat.eq_zero_or_pos j with h0 | hpos
   ·have hn:plN ((l.take j).foldl plS []) c=(j:Int)+1:=by
     subst h0;rfl
    rw [hn]
    exact aXh (L:=St j) (L':=(St j).set j [a,((j+1:Nat):Int),c]) (by exact_mod_cast hpl) (aR (by omega)) g1 (by omega) (by omega) (by simp) (xM (huS j) g1 _).symm rfl
   ·have g2:∃ y0 y1 y2,((l.take j).foldl plS []).getLast? = some [y0,y1,y2]∧(St j)[((j:Int)-1).toNat]? = some [y0,y1,y2]:=by
     have hlt:j-1<((l.take j).foldl plS []).length:=by omega
     have h3:=aQp (l.take j) [] (fun z hz=>by cases hz) _ (List.getElem_mem hlt)
     obtain ⟨y0,y1,y2,hy⟩:=len3 h3
     refine ⟨y0,y1,y2,?_,?_⟩
     ·rw [List.getLast?_eq_getElem?,hA,List.getElem?_eq_getElem hlt,hy]
     ·show ((l.take j).foldl plS []++l.drop j)[((j:Int)-1).toNat]? = _
      rw [show ((j:Int)-1).toNat=j-1 by omega,List.getElem?_append_left hlt,List.getElem?_eq_getElem hlt,hy]
    obtain ⟨y0,y1,y2,g3,g4⟩:=g2
    by_cases hc:c=y2
    ·have hn:plN ((l.take j).foldl plS []) c=y1:=by
      unfold plN;rw [g3]
      show (if y2=c then y1 else _)=y1
      rw [if_pos hc.symm]
     rw [hn]
     have hu1:uni 3 ((St j).set j [a,((j+1:Nat):Int),c]):=aPc (huS j) rfl
     have g5:((St j).set j [a,((j+1:Nat):Int),c])[j]? = some [a,((j+1:Nat):Int),c]:=by
      rw [List.getElem?_set_self (by rw [hlS j (by omega)];omega)]
     refine aXf (L:=St j) (L':=(St j).set j [a,y1,c]) (by exact_mod_cast hpl) (aR (by omega)) g1 (by omega) (by omega) (huS j) (by unfold inR;omega) g4 (by omega) hc (by rw [List.length_set];omega) (by simp) ?_ rfl
     rw [xM (huS j) g1,xM hu1 g5,List.set_set]
    ·have hn:plN ((l.take j).foldl plS []) c=(j:Int)+1:=by
      unfold plN;rw [g3]
      show (if y2=c then y1 else _)=_
      rw [if_neg (fun h=>hc h.symm),hA]
     rw [hn]
     exact aXg (L:=St j) (L':=(St j).set j [a,((j+1:Nat):Int),c]) (by exact_mod_cast hpl) (aR (by omega)) g1 (by omega) (by omega) (huS j) (by unfold inR;omega) g4 (by omega) hc (by simp) (xM (huS j) g1 _).symm rfl)
  (by
   have e:St l.length=pZ l:=by
    show (l.take l.length).foldl plS []++l.drop l.length=_
    rw [List.take_length,List.drop_length,List.append_nil];rfl
   rw [e]
   exact aXi (by rw [hp];omega)) (by simp)
 exact this
theorem aDp:(rE dl oc dc sk).length≤sk.length:=by
 unfold rE;rw [List.length_map];exact List.length_filter_le _ _
theorem aAp:(oK dl oc dc sk).length≤sk.length:=by
 unfold oK;rw [List.length_map];exact List.length_filter_le _ _
theorem aDq:uni 3 (rE dl oc dc sk):=fun y hy=>by
 obtain ⟨s,_,rfl⟩:=List.mem_map.1 hy;rfl
theorem aOf:uni 3 (oK dl oc dc sk):=fun y hy=>by
 obtain ⟨s,_,rfl⟩:=List.mem_map.1 hy;rfl
theorem aAq(f:Nat)(l:List (List Int)):(isort (ltK f) l).length=l.length:=uE _ _
theorem aZj{k f:Nat}{l:List (List Int)}(h:uni k l):uni k (isort (ltK f) l):=fun y hy=>h y ((aDn _ _ y).1 hy)
theorem aOg(l:List (List Int)):(pZ l).length=l.length:=by unfold pZ;rw [aQo];simp
theorem bTy(hd:cH dc)(hov:∀ n,qS ov n (oc.contains n))(hs:uni 2 sk)(hb:∀ x∈sk,skB x=true)(hl:sk.length<20){T:List (Int × Bool)}(hT:cL dl oc dc T):∃ T',cL dl oc dc T'∧bQt dl sk dc ov (aAo dl oc dc sk) T T':=by
 obtain ⟨acc,⟨h1,h2,h3⟩,h4⟩:=aF.ex (P:=Tryz.prog) (k:=7) (b:=sub (cd Tryz.f86) [1,1,0,1,0,0]) (e := .exit 0) (fun i (a:(List (List Int) × List (List Int)) × List (Int × Bool))=>iR dl sk dc ov a.1.1.length (a.1.1.flatten.map aA) a.1.2.length (a.1.2.flatten.map aA) i (aH a.2) a.2.length)
  (fun a=>iR dl sk dc ov a.1.1.length (a.1.1.flatten.map aA) a.1.2.length (a.1.2.flatten.map aA) sk.length (aH a.2) a.2.length)
  (fun i a=>cL dl oc dc a.2∧a.1.1=rE dl oc dc (sk.take i)∧a.1.2=oK dl oc dc (sk.take i)) (by simp) sk.length
  (fun i acc hi hI=>by
   obtain ⟨⟨p,q⟩,T1⟩:=acc
   obtain ⟨h1,h2,h3⟩:=hI
   dsimp only at h1 h2 h3
   have hm:=List.getElem_mem hi
   obtain ⟨a,b,hy⟩:=len2 (hs _ hm)
   have hx:sk[i]? = some [a,b]:=by rw [List.getElem?_eq_getElem hi,hy]
   rw [hy] at hm
   have hr : -1≤b∧b≤360000:=by
    have:=hb _ hm
    rw [aLk,Bool.and_eq_true] at this
    exact bY.1 this.2
   obtain ⟨T2,q1,q2⟩:=bDh (sk:=sk) hd hov a b hr h1
   have hp:p.length≤20:=by rw [h2];have:=aDp (dl:=dl) (oc:=oc) (dc:=dc) (sk:=sk.take i);rw [List.length_take] at this;omega
   have hq:q.length≤20:=by rw [h3];have:=aAp (dl:=dl) (oc:=oc) (dc:=dc) (sk:=sk.take i);rw [List.length_take] at this;omega
   have et:sk.take (i+1)=sk.take i++[[a,b]]:=by rw [List.take_add_one,hx];rfl
   rw [et]
   have e1:rE dl oc dc (sk.take i++[[a,b]])=p++if (kF dl oc dc a b).2 then [] else [[a,0,(kF dl oc dc a b).1]]:=by
    rw [h2];unfold rE
    rw [List.filter_append,List.map_append]
    congr 1
    show (List.filter _ [[a,b]]).map _=_
    cases hq:(kF dl oc dc a b).2 <;> simp [hq]
   have e2:oK dl oc dc (sk.take i++[[a,b]])=q++if (kF dl oc dc a b).2 then [[a,-1,0]] else []:=by
    rw [h3];unfold oK
    rw [List.filter_append,List.map_append]
    congr 1
    show (List.filter _ [[a,b]]).map _=_
    cases hq:(kF dl oc dc a b).2 <;> simp [hq]
   rw [e1,e2]
   cases hc:(kF dl oc dc a b).2 with
   | true =>
    rw [hc] at q2
    exact ⟨((p,q++[[a,-1,0]]),T2),⟨q1,by simp,by simp⟩,aXc (q:=q) (q':=q++[[a,-1,0]]) (by omega) hx hs q2 rfl ⟨rfl,by omega⟩ (aR (by omega)) (by simp) (by simp) rfl rfl rfl⟩
   | false =>
    rw [hc] at q2
    exact ⟨((p++[[a,0,(kF dl oc dc a b).1]],q),T2),⟨q1,by simp,by simp⟩,aXd (p:=p) (p':=p++[[a,0,(kF dl oc dc a b).1]]) (by omega) hx hs q2 rfl ⟨rfl,by omega⟩ (aR (by omega)) (by simp) (by simp) rfl rfl rfl⟩)
  (fun acc hI=>aXe (by omega)) (acc:=(([],[]),T)) ⟨hT,by simp [rE],by simp [oK]⟩
 obtain ⟨⟨p,q⟩,T1⟩:=acc
 dsimp only at h1 h2 h3 h4
 rw [List.take_length] at h2 h3
 subst h2 h3
 have hp:=aDp (dl:=dl) (oc:=oc) (dc:=dc) (sk:=sk)
 have hq:=aAp (dl:=dl) (oc:=oc) (dc:=dc) (sk:=sk)
 have hP:=aOe (dl:=dl) (sk:=sk) (dc:=dc) (ov:=ov) (isort (ltK 2) (rE dl oc dc sk)) (aZj aDq) (by rw [aAq];omega) (rE dl oc dc sk) (oK dl oc dc sk) rfl T1
 refine ⟨T1,h1,bQu (r0n:=(aAo dl oc dc sk).length) (r0c:=(aAo dl oc dc sk).flatten.map aA) h4 aDq (by omega) hP ⟨lJ aOf,by rw [aOg,aAq];omega⟩ ?_ ?_⟩
 ·unfold aAo;rw [List.length_append]
 ·unfold aAo;rw [List.flatten_append,List.map_append]
end
theorem aQq{dl:Int}{sk dc:List (List Int)}(h:dG dl sk dc):∀ x∈aB sk,skB x=true:=fun x hx=>h.hsk x ((dU sk).mem_iff.1 hx)
theorem bTb{dl:Int}{sk dc:List (List Int)}(h:dG dl sk dc)(hl:sk.length<20){base:Nat}:FV Tryz.prog 28 [.p (.agg (bH dl sk dc))] base (.tup [.own base,.p (aA 0)]) [(base,.row 48 (aAo dl [] (aB dc) (aB sk)).length ((aAo dl [] (aB dc) (aB sk)).flatten.map aA))]:=by
 obtain ⟨T',h1,h2⟩:=bTy (dl:=dl) (sk:=aB sk) (lO h) aFm (eB h.us) (aQq h) (by rw [dV];exact hl) cL.nil
 exact bQv h h2
theorem aZk{dl:Int}{dc:List (List Int)}(hd:cH dc):(aW dl dc).length≤1000:=by
 unfold aW
 rw [List.length_map]
 have:=List.length_filter_le (oO dl dc) dc
 have:=hd.len
 omega
def uF(u:List Int):Bool:=(List.range u.length).all fun i=>i == 0 || decide (u.getD (i-1) 0<u.getD i 0)
theorem bEu{dl:Int}{sk dc:List (List Int)}(u:List Int)(hl:u.length≤1000):(uF u=true∧∃ i,aF Tryz.prog 0 (sub (cd Tryz.f21) [1,1,1,1,1,0,1,0,0]) (gK dl sk dc u 1) (.exit 0) (gK dl sk dc u i)) ∨
  (uF u=false∧∃ i,aF Tryz.prog 0 (sub (cd Tryz.f21) [1,1,1,1,1,0,1,0,0]) (gK dl sk dc u 1) .ret (bG (gK dl sk dc u i) [(4,.p bR),(5,.p (aA 4))])):=by
 rcases Nat.lt_or_ge u.length 2 with h2 | h2
 ·refine .inl ⟨?_,1,.exit (aDf (by omega)) (by simp)⟩
  unfold uF
  rw [List.all_eq_true]
  intro i hi
  have:=List.mem_range.1 hi
  have:i=0:=by omega
  subst this;rfl
 ·have hget:∀ i,i<u.length→u[i]? = some (u.getD i 0):=fun i hi=>by rw [List.getD_eq_getElem?_getD,List.getElem?_eq_getElem hi];rfl
  have key:∀ d i,i+d=u.length→1≤i→(∀ j,j<i→(j == 0 || decide (u.getD (j-1) 0<u.getD j 0))=true) →
   (uF u=true∧∃ k,aF Tryz.prog 0 (sub (cd Tryz.f21) [1,1,1,1,1,0,1,0,0]) (gK dl sk dc u (i:Int)) (.exit 0) (gK dl sk dc u k)) ∨
   (uF u=false∧∃ k,aF Tryz.prog 0 (sub (cd Tryz.f21) [1,1,1,1,1,0,1,0,0]) (gK dl sk dc u (i:Int)) .ret (bG (gK dl sk dc u k) [(4,.p bR),(5,.p (aA 4))])):=by
   intro d
   induction d with
   | zero =>
    intro i hi h1 hj
    refine .inl ⟨?_,_,.exit (aDf (by omega)) (by simp)⟩
    unfold uF
    rw [List.all_eq_true]
    intro j hjr
    exact hj j (by have:=List.mem_range.1 hjr;omega)
   | succ d ih =>
    intro i hi h1 hj
    have g1:u[((i:Nat):Int).toNat]? = some (u.getD i 0):=by rw [Int.toNat_natCast];exact hget i (by omega)
    have g2:u[((i:Int)-1).toNat]? = some (u.getD (i-1) 0):=by rw [show ((i:Int)-1).toNat=i-1 by omega];exact hget (i-1) (by omega)
    by_cases hc:u.getD (i-1) 0<u.getD i 0
    ·have hst:=aXk (dl:=dl) (sk:=sk) (dc:=dc) (i:=(i:Int)) (i':=((i+1:Nat):Int)) (by omega) g1 (by omega) (by unfold inR;omega) g2 (by omega) hc (by unfold inR;omega) (by omega)
     rcases ih (i+1) (by omega) (by omega) (fun j hj2=>by
      rcases Nat.lt_or_ge j i with h3 | h3
      ·exact hj j h3
      ·obtain rfl:j=i:=by omega
       rw [decide_eq_true hc,Bool.or_true]) with ⟨q1,k,q2⟩ | ⟨q1,k,q2⟩
     ·exact .inl ⟨q1,k,.step hst q2⟩
     ·exact .inr ⟨q1,k,.step hst q2⟩
    ·refine .inr ⟨?_,_,.exit (aXj (i:=(i:Int)) (by omega) g1 (by omega) (by unfold inR;omega) g2 (by omega) (by omega)) (by simp)⟩
     cases hr:uF u with
     | false=>rfl
     | true =>
      unfold uF at hr
      have:=List.all_eq_true.1 hr i (List.mem_range.2 (by omega))
      rw [show (i == 0)=false by simp;omega,Bool.false_or] at this
      exact absurd (of_decide_eq_true this) hc
  have:=key (u.length-1) 1 (by omega) (by omega) (fun j hj=>by
   have:j=0:=by omega
   subst this;rfl)
  exact this
def bTz(dl:Int)(dc:List (List Int))(u:List Int):Int:=if u.all (ocB (aW dl dc)) then (if uF u then 0 else 4) else 1
theorem bTc{dl:Int}{sk dc:List (List Int)}(h:dG dl sk dc)(hl:sk.length<20)(u:List Int)(hu:u.length≤1000)(he:bTz dl (aB dc) u=0){base:Nat}:FV Tryz.prog 21 [.p (.agg (bH dl sk dc)),.p (aJ u)] base (.tup [.own base,.p (aA 0)]) [(base,.row 48 (aAo dl u (aB dc) (aB sk)).length ((aAo dl u (aB dc) (aB sk)).flatten.map aA))]:=by
 have hd:=lO h
 unfold bTz at he
 cases ha:u.all (ocB (aW dl (aB dc))) with
 | false=>rw [ha] at he;simp at he
 | true =>
  rw [ha,if_pos rfl] at he
  rcases bEu (dl:=dl) (sk:=sk) (dc:=dc) u hu with ⟨q1,i,q2⟩ | ⟨q1,i,q2⟩
  ·obtain ⟨T',h1,h2⟩:=bTy (dl:=dl) (sk:=aB sk) hd (aAb hu) (eB h.us) (aQq h) (by rw [dV];exact hl) cL.nil
   exact bRa h hd hu (fun _ _=>aZk hd) ha q2 h2
  ·rw [q1] at he;simp at he
end
end KV
end Go.Proofs
section
namespace Go.Proofs
namespace KL
def aMe(x:Int):List Int→List Int
 | []=>[x]
 | y::r=>if x≤y then x::y::r else y::aMe x r
def sortI:List Int→List Int
 | []=>[]
 | x::r=>aMe x (sortI r)
theorem uW(x:Int):∀ l,(aMe x l).Perm (x::l)
 | [] => .refl _
 | y::r=>by
  unfold aMe
  split
  ·exact .refl _
  ·exact ((uW x r).cons y).trans (List.Perm.swap x y r)
theorem zS:∀ l,(sortI l).Perm l
 | [] => .refl _
 | x::r=>(uW x _).trans ((zS r).cons x)
theorem wM(x:Int):∀ l,l.Pairwise (· ≤ ·)→(aMe x l).Pairwise (· ≤ ·)
 | [],_=>by simp [aMe]
 | y::r,h=>by
  obtain ⟨h1,h2⟩:=List.pairwise_cons.1 h
  unfold aMe
  split
  ·rename_i hx
   exact List.pairwise_cons.2 ⟨fun z hz=>by
    rcases List.mem_cons.1 hz with rfl | hz
    ·exact hx
    ·have:=h1 z hz;omega,h⟩
  ·rename_i hx
   refine List.pairwise_cons.2 ⟨fun z hz => ?_,wM x r h2⟩
   rcases List.mem_cons.1 ((uW x r).mem_iff.1 hz) with rfl | hz
   ·omega
   ·exact h1 z hz
theorem tN:∀ l,(sortI l).Pairwise (· ≤ ·)
 | [] => .nil
 | x::r=>wM x _ (tN r)
theorem aCz:∀ (a b:List Int),a.Perm b→a.Pairwise (· ≤ ·)→b.Pairwise (· ≤ ·)→a=b
 | [],b,h,_,_=>(List.nil_perm.1 h).symm
 | x::r,[],h,_,_=>absurd h.length_eq (by simp)
 | x::r,y::t,h,ha,hb=>by
  obtain ⟨h1,h2⟩:=List.pairwise_cons.1 ha
  obtain ⟨h3,h4⟩:=List.pairwise_cons.1 hb
  have e:x=y:=by
   have m1:x∈y::t:=h.mem_iff.1 (List.mem_cons_self ..)
   have m2:y∈x::r:=h.mem_iff.2 (List.mem_cons_self ..)
   rcases List.mem_cons.1 m1 with e | m1
   ·exact e
   ·rcases List.mem_cons.1 m2 with e | m2
    ·exact e.symm
    ·have:=h1 y m2;have:=h3 x m1;omega
  subst e
  rw [aCz r t (List.Perm.cons_inv h) h2 h4]
theorem mergeSort_eq(l:List Int):l.mergeSort leB=sortI l:=by
 refine aCz _ _ ((List.mergeSort_perm _ _).trans (zS l).symm) ?_ (tN l)
 have:=List.pairwise_mergeSort (le:=leB) (fun a b c h1 h2=>by simp only [leB,decide_eq_true_eq] at *;omega) (fun a b=>by simp only [leB,Bool.or_eq_true,decide_eq_true_eq];omega) l
 exact this.imp (fun h=>by simpa [leB] using h)
end KL
namespace KV
abbrev sk3:List (List Int):=[[1,15000],[2,15100],[3,15200]]
abbrev dc2:List (List Int):=[[1,0,0,1,300,0],[2,7,10,0,0,1]]
abbrev dc3:List (List Int):=[[1,0,0,1,300,0],[2,7,10,0,0,1],[3,9,40,0,0,2]]
abbrev dc4:List (List Int):=[[1,0,0,1,300,0],[2,7,10,0,0,1],[3,9,40,0,0,2],[4,5,50,0,0,3]]
abbrev dc5:List (List Int):=[[1,0,0,1,300,0],[2,7,10,0,0,1],[3,9,40,0,0,2],[4,5,50,0,0,3],[5,6,60,0,100,1]]
theorem pM{l:List (List Int)}(h:l.Pairwise fun a b=>a.getD 0 0≤b.getD 0 0):aB l=l:=List.mergeSort_of_pairwise (h.imp fun h=>decide_eq_true h)
theorem aAz:aB sk3=sk3:=pM (by decide)
theorem srt2:aB dc2=dc2:=pM (by decide)
theorem srt3:aB dc3=dc3:=pM (by decide)
theorem srt4:aB dc4=dc4:=pM (by decide)
theorem srt5:aB dc5=dc5:=pM (by decide)
theorem rec2:dG 30 sk3 dc2:=⟨by unfold uni;decide,by unfold uni;decide,by decide,by decide,by decide,by decide,by decide,by decide,by decide,by decide,by decide⟩
theorem rec3:dG 30 sk3 dc3:=⟨by unfold uni;decide,by unfold uni;decide,by decide,by decide,by decide,by decide,by decide,by decide,by decide,by decide,by decide⟩
theorem rec4:dG 30 sk3 dc4:=⟨by unfold uni;decide,by unfold uni;decide,by decide,by decide,by decide,by decide,by decide,by decide,by decide,by decide,by decide⟩
theorem rec5:dG 30 sk3 dc5:=⟨by unfold uni;decide,by unfold uni;decide,by decide,by decide,by decide,by decide,by decide,by decide,by decide,by decide,by decide⟩
def bHb(al:List fC)(s:Nat)(c:List cK):List Int:=Lib.compact (KL.sortI (c.flatMap (chL al s)))
theorem aPn(al:List fC)(s:Nat)(c:List cK):kY al s c=bHb al s c:=by unfold kY bHb;rw [KL.mergeSort_eq]
def bBw(dl:Int)(sk dc:List (List Int))(f:Int)(i:Nat):Bool:=match (bP dl sk dc)[i]? with
 | some h=>aEy (bHb (bP dl sk dc) i h.1) (h.1.any fun x=>x.2.1) (h.1.any fun x => !x.2.1) f
 | none=>false
theorem bBx(dl:Int)(sk dc:List (List Int))(f:Int):wN dl sk dc f=bBw dl sk dc f:=by
 funext i
 unfold wN bBw
 split
 ·rename_i h e
  rw [e]
  simp only [aPn]
 ·rename_i e
  rw [e]
theorem h28(base:Nat):FV Tryz.prog 28 [.p (.agg (bH 30 sk3 dc2))] base (.tup [.own base,.p (aA 0)]) [(base,.row 48 3 ([[2,1,15100],[3,2,15200],[1,3,15300]].flatten.map aA))]:=by
 have:=bTb rec2 (by decide) (base:=base)
 rw [aAz,srt2,show aAo 30 [] dc2 sk3=[[2,1,15100],[3,2,15200],[1,3,15300]] from by decide +kernel] at this
 exact this
theorem h21(base:Nat):FV Tryz.prog 21 [.p (.agg (bH 30 sk3 dc2)),.p (aJ [2])] base (.tup [.own base,.p (aA 0)]) [(base,.row 48 3 ([[1,1,15000],[2,2,15100],[3,3,15200]].flatten.map aA))]:=by
 have:=bTc rec2 (by decide) [2] (by decide) (by rw [srt2];decide +kernel) (base:=base)
 rw [aAz,srt2,show aAo 30 [2] dc2 sk3=[[1,1,15000],[2,2,15100],[3,3,15200]] from by decide +kernel] at this
 exact this
theorem open2:aW 30 dc2=[2]:=by decide +kernel
theorem h71(base:Nat):FV Tryz.prog 71 [.p (.agg (bH 30 sk3 dc2)),.p (aA 1)] base (.tup [.p (aJ [1,3]),.p (blP false),.p (aA 0)]) []:=by
 have:=bPq rec2 (bib:=1) (i:=0) (s0:=1) (s1:=15000) (by rw [aAz];decide +kernel) (by rw [aAz];rfl) (by rw [srt2,open2];decide) (base:=base)
 rw [aAz,srt2,aPn,show bHb (bP 30 sk3 dc2) 0 (nE 30 dc2 1 15000 (sD 30 dc2 1)).1=[1,3] from by decide +kernel,show ((nE 30 dc2 1 15000 (sD 30 dc2 1)).1.any fun x=>x.2.1)=false from by decide +kernel] at this
 exact this
theorem h33(base:Nat):FV Tryz.prog 33 [.p (.agg (bH 30 sk3 dc2)),.p (aA 2)] base (.tup [.p (aJ [2]),.p (aA 0)]) []:=by
 have:=bPs rec2 (f:=2) (by decide) (by rw [srt2,open2];decide) (base:=base)
 have e:aIk 30 sk3 dc2 2=[2]:=by
  unfold aIk
  rw [bBx]
  decide +kernel
 rw [aAz,srt2,e] at this
 exact this
theorem h19a(base:Nat):FV Tryz.prog 19 [.p (.agg (bH 30 sk3 dc3))] base (.tup [.p (aJ []),.p (aA 0)]) []:=by
 have:=bDc rec3 (base:=base)
 rw [srt3,show aW 30 dc3=[] from by decide +kernel] at this
 exact this
theorem h19b(base:Nat):FV Tryz.prog 19 [.p (.agg (bH 30 sk3 dc4))] base (.tup [.p (aJ [2]),.p (aA 0)]) []:=by
 have:=bDc rec4 (base:=base)
 rw [srt4,show aW 30 dc4=[2] from by decide +kernel] at this
 exact this
theorem h61(base:Nat):FV Tryz.prog 61 [.p (.agg (bH 30 sk3 dc5)),.p (aA 1)] base (.tup [.p (aA 15100),.p (blP false),.p (aA 0)]) []:=by
 obtain ⟨T',_,hT⟩:=bDh (dl:=30) (sk:=aB sk3) (dc:=aB dc5) (lO rec5) aFm 1 15000 (by decide) (T:=[]) cL.nil
 have:=bPi rec5 (bib:=1) (i0:=0) (s1:=1) (s2:=15000) (by rw [aAz];decide +kernel) (by rw [aAz];rfl) hT (base:=base)
 rw [srt5,show kF 30 [] dc5 1 15000=(15100,false) from by decide +kernel] at this
 exact this
theorem h58(base:Nat):FV Tryz.prog 58 [.p (.agg (bH 30 sk3 dc2)),.p (aA 2)] base (.tup [.p (blP true),.p (aA 0)]) []:=by
 have:=bPa rec2 2 (base:=base)
 have hB:∀ r6,aBa 30 sk3 dc2 2 r6=fun x => !(((kF 30 x dc2 ((sk3.getD (bC (fun x=>decide (r6=x)) (aN sk3 0)).toNat []).getD 0 0) ((sk3.getD (bC (fun x=>decide (r6=x)) (aN sk3 0)).toNat []).getD 1 0)).1 == (kF 30 (x++[2]) dc2 ((sk3.getD (bC (fun x=>decide (r6=x)) (aN sk3 0)).toNat []).getD 0 0) ((sk3.getD (bC (fun x=>decide (r6=x)) (aN sk3 0)).toNat []).getD 1 0)).1) && ((kF 30 x dc2 ((sk3.getD (bC (fun x=>decide (r6=x)) (aN sk3 0)).toNat []).getD 0 0) ((sk3.getD (bC (fun x=>decide (r6=x)) (aN sk3 0)).toNat []).getD 1 0)).2 == (kF 30 (x++[2]) dc2 ((sk3.getD (bC (fun x=>decide (r6=x)) (aN sk3 0)).toNat []).getD 0 0) ((sk3.getD (bC (fun x=>decide (r6=x)) (aN sk3 0)).toNat []).getD 1 0)).2)):=fun r6=>by
  funext x
  unfold aBa fA
  rw [aAz,srt2]
 have e:bCb 30 sk3 dc2 2=(true,0):=by
  unfold bCb
  rw [aAz,srt2,hB]
  decide +kernel
 rw [e] at this
 exact this
theorem bBy{base:Nat}:FV Tryz.prog 26 [] base (.p (blP true)) [] :=
 bOz h28 h21 h71 h33 (fun base=>by
  have:=bPm [[2,1,15100],[3,2,15200],[1,3,15300]] [[2,1,15100],[3,2,15200],[1,3,15300]] (by unfold uni;decide) (by unfold uni;decide) (by decide) (base:=base)
  rw [decide_eq_true rfl] at this
  exact this) ⟨rfl,rfl⟩ (by decide) (fun base=>by
  have:=bCe [1,3] [1,3] (by decide) (base:=base)
  rw [decide_eq_true rfl] at this
  exact this) (fun base=>by
  have:=bCe [2] [2] (by decide) (base:=base)
  rw [decide_eq_true rfl] at this
  exact this) h19a h19b h61 h58
end KV
end Go.Proofs
end
