/- Parts of the proof of JNamed: laws of walks, contracts of functions, plain models. No condition. -/
import Derived.Test.YtgehgmllhmfbpaaGreatPJNamedE
set_option linter.unusedVariables false
set_option linter.unusedSimpArgs false
set_option maxRecDepth 100000
namespace Go.Proofs
namespace KV
section
open KL
noncomputable abbrev zU31c0:Code:=sub (cd Tryz.f7) [1,1,1,1,1,1,1,0,1,0,0,1,1,0,0,1,1,0,0,1,1,0,0,1,1,1,0,0]
noncomputable abbrev zU31c1:Code:=sub (cd Tryz.f7) [1,1,1,1,1,1,1,0,1,0,0]
noncomputable abbrev zU31c2:Code:=sub (cd Tryz.f7) [1,1,1,1,1,1,1,0,1,0,0,1,1,0,0,1,1,0,0]
noncomputable abbrev zU31c3:Code:=sub (cd Tryz.f7) [1,1,1,1,1,1,1,1,0,1,0,0]
noncomputable abbrev zU31c4:Code:=sub (cd Tryz.f7) [1,1,1,1,1,1,1,1,1,0,1,0,0]
noncomputable abbrev zU31c5:Code:=sub (cd Tryz.f7) [1,1,1,1,1,1,1,1,1,1,1,1,1,1,1,1,1,1,1,1,1,0,1,0,0]
noncomputable abbrev zU31c6:Code:=sub (cd Tryz.f7) [1,1,1,1,1,1,1,1,1,1,1,1,1,1,1,1,1,1,1,1,0,1,0,0]
theorem zU31q0:((0:Int) != (0:Int))=false:=by first | decide | simp
def nmd_S0(g:List Int)(w:Int)(c0:Cup)(r3:List Int)(m4:Int)(t5:Int)(i:Nat)(ndL:List (Nat × List PV))(sh:Bool):St:=⟨fr 359 [(6,(.kb false)),(7,(.ptr 0 0)),(8,(.ptr 1 0)),(9,(.p (intP ((1:Int)+(w.tmod (20:Int)))))),(10,(.own 2)),(11,(.ptr 6 0)),(12,(.ptr 7 0)),(13,(.ptr 8 0)),(14,(.p (blP sh))),(65,(.p (rowsP c0.done))),(66,(.p (intP (c0.done.length:Int)))),(67,(.p (intP (i:Int))))],[some (.box 25 [(.p (intP c0.sk)),(.p (intP c0.ra)),(.p (intP c0.be)),(.p (intsP c0.pts)),(.p (rowsP c0.done))]),some (deckO g m4 t5),some (.row 3 r3.length (r3.map intP)),some (.pk 22 3 1 ndL),some (.row 22 c0.done.length (c0.done.map intsP)),some (.row 3 c0.pts.length (c0.pts.map intP)),some (.box 25 [(.p (intP c0.sk)),(.p (intP c0.ra)),(.p (intP c0.be)),(.p (intsP c0.pts)),(.pa 3 .root)]),some (.box 25 [(.p (intP c0.sk)),(.p (intP c0.ra)),(.p (intP c0.be)),(.p (intsP c0.pts)),(.own 4)]),some (.box 25 [(.p (intP c0.sk)),(.p (intP c0.ra)),(.p (intP c0.be)),(.own 5),(.p (rowsP c0.done))])]⟩
def nmd_S3(w:Int)(c0:Cup)(r3:List Int)(nd'7:List (List Int))(sh'8:Bool)(r9:List Int)(u:Nat)(mdn:Nat)(mdc:List PV):St:=⟨fr 359 [(6,(.kb false)),(7,(.ptr 0 0)),(9,(.p (intP ((1:Int)+(w.tmod (20:Int)))))),(10,(.own 1)),(11,(.ptr 5 0)),(12,(.ptr 6 0)),(13,(.ptr 7 0)),(14,(.p (blP sh'8))),(119,(.own 8)),(120,(.p (intP (r9.length:Int)))),(121,(.p (intP (u:Int))))],[some (.box 25 [(.p (intP c0.sk)),(.p (intP c0.ra)),(.p (intP c0.be)),(.p (intsP c0.pts)),(.p (rowsP c0.done))]),some (.row 3 r3.length (r3.map intP)),some (.pk 22 3 1 (pkL nd'7)),some (.row 22 mdn mdc),some (.row 3 c0.pts.length (c0.pts.map intP)),some (.box 25 [(.p (intP c0.sk)),(.p (intP c0.ra)),(.p (intP c0.be)),(.p (intsP c0.pts)),(.pa 2 .root)]),some (.box 25 [(.p (intP c0.sk)),(.p (intP c0.ra)),(.p (intP c0.be)),(.p (intsP c0.pts)),(.own 3)]),some (.box 25 [(.p (intP c0.sk)),(.p (intP c0.ra)),(.p (intP c0.be)),(.own 4),(.p (rowsP c0.done))]),some (.row 3 r9.length (r9.map intP))]⟩
def nmd_S4(w:Int)(c0:Cup)(r3:List Int)(nd'7:List (List Int))(sh'8:Bool)(md'13:List (List Int))(v:Nat)(gpn:Nat)(gpc:List PV):St:=⟨fr 359 [(6,(.kb false)),(7,(.ptr 0 0)),(9,(.p (intP ((1:Int)+(w.tmod (20:Int)))))),(10,(.own 1)),(11,(.ptr 5 0)),(12,(.ptr 6 0)),(13,(.ptr 7 0)),(14,(.p (blP sh'8))),(139,(.p (intP (c0.pts.length:Int)))),(140,(.p (intP (v:Int))))],[some (.box 25 [(.p (intP c0.sk)),(.p (intP c0.ra)),(.p (intP c0.be)),(.p (intsP c0.pts)),(.p (rowsP c0.done))]),some (.row 3 r3.length (r3.map intP)),some (.pk 22 3 1 (pkL nd'7)),some (.row 22 md'13.length (md'13.map intsP)),some (.row 3 gpn gpc),some (.box 25 [(.p (intP c0.sk)),(.p (intP c0.ra)),(.p (intP c0.be)),(.p (intsP c0.pts)),(.pa 2 .root)]),some (.box 25 [(.p (intP c0.sk)),(.p (intP c0.ra)),(.p (intP c0.be)),(.p (intsP c0.pts)),(.own 3)]),some (.box 25 [(.p (intP c0.sk)),(.p (intP c0.ra)),(.p (intP c0.be)),(.own 4),(.p (rowsP c0.done))])]⟩
def nmd_S5(w:Int)(c0:Cup)(r3:List Int)(sh'8:Bool)(gp'15:List Int)(l16:List (List Int))(x:Nat):St:=⟨fr 359 [(7,(.ptr 0 0)),(9,(.p (intP ((1:Int)+(w.tmod (20:Int)))))),(10,(.own 1)),(14,(.p (blP sh'8))),(26,(.p (.sl ((tableM (⟨c0.sk,c0.ra,c0.be,c0.pts,l16⟩:Cup)).length) ((tableM (⟨c0.sk,c0.ra,c0.be,c0.pts,l16⟩:Cup)).flatten.map intP)))),(30,(.p (intsP (whoM (canM c0) c0.sk.toNat)))),(32,(.p (intsP (whoM (canM (⟨c0.sk,c0.ra,c0.be,c0.pts,l16⟩:Cup)) (⟨c0.sk,c0.ra,c0.be,c0.pts,l16⟩:Cup).sk.toNat)))),(34,(.p (intsP (whoM (sureM c0) c0.sk.toNat)))),(36,(.p (intsP (whoM (sureM (⟨c0.sk,c0.ra,c0.be,c0.pts,l16⟩:Cup)) (⟨c0.sk,c0.ra,c0.be,c0.pts,l16⟩:Cup).sk.toNat)))),(38,(.p (intsP (totalsM c0)))),(40,(.p (intsP (totalsM (⟨c0.sk,c0.ra,c0.be,gp'15,c0.done⟩:Cup))))),(279,(.p (.sl ((tableM c0).length) ((tableM c0).flatten.map intP)))),(280,(.p (intP (((tableM c0).length:Nat):Int)))),(281,(.p (intP (x:Int))))],[some (.box 25 [(.p (intP c0.sk)),(.p (intP c0.ra)),(.p (intP c0.be)),(.p (intsP c0.pts)),(.p (rowsP c0.done))]),some (.row 3 r3.length (r3.map intP))]⟩
def nmd_S6(w:Int)(c0:Cup)(r3:List Int)(sh'8:Bool)(gp'15:List Int)(l16:List (List Int))(z:Nat):St:=⟨fr 359 [(9,(.p (intP ((1:Int)+(w.tmod (20:Int)))))),(10,(.own 0)),(14,(.p (blP sh'8))),(30,(.p (intsP (whoM (canM c0) c0.sk.toNat)))),(32,(.p (intsP (whoM (canM (⟨c0.sk,c0.ra,c0.be,c0.pts,l16⟩:Cup)) (⟨c0.sk,c0.ra,c0.be,c0.pts,l16⟩:Cup).sk.toNat)))),(34,(.p (intsP (whoM (sureM c0) c0.sk.toNat)))),(36,(.p (intsP (whoM (sureM (⟨c0.sk,c0.ra,c0.be,c0.pts,l16⟩:Cup)) (⟨c0.sk,c0.ra,c0.be,c0.pts,l16⟩:Cup).sk.toNat)))),(38,(.p (intsP (totalsM c0)))),(40,(.p (intsP (totalsM (⟨c0.sk,c0.ra,c0.be,gp'15,c0.done⟩:Cup))))),(314,(.p (intP c0.sk))),(315,(.p (intP (z:Int))))],[some (.row 3 r3.length (r3.map intP))]⟩
abbrev zU310(c0:Cup)(l16:List (List Int)):=whoM (sureM (⟨c0.sk,c0.ra,c0.be,c0.pts,l16⟩:Cup)) (⟨c0.sk,c0.ra,c0.be,c0.pts,l16⟩:Cup).sk.toNat
abbrev zU311(c0:Cup)(l16:List (List Int)):=whoM (canM (⟨c0.sk,c0.ra,c0.be,c0.pts,l16⟩:Cup)) (⟨c0.sk,c0.ra,c0.be,c0.pts,l16⟩:Cup).sk.toNat
theorem nmd_p0{l g:List Int}{w:Int}{c0:Cup}{m1 t2:Int}{r3:List Int}{m4 t5:Int}{i'6:Nat}{nd'7:List (List Int)}{sh'8:Bool}{r9:List Int}{m10 t11:Int}{u'12:Nat}{md'13:List (List Int)}{v'14:Nat}{gp'15:List Int}{l16:List (List Int)}{x'17 z'18:Nat}(h0:0≤(0:Int)∧(0:Int)≤100000)(h1:2≤(7:Int)∧(7:Int)≤12)(h2:1≤(8:Int)∧(8:Int)≤20)(h3:madeM (7:Int) (8:Int) l (0:Int) (17:Int)=(c0,m1,t2))(h4:inR w)(h5:inR ((1:Int)+(w.tmod (20:Int))))(h6:0≤(0:Int)∧(0:Int)≤1000000)(h7:0≤c0.sk∧c0.sk≤100)(h8:shufM c0.sk g (0:Int) (17:Int)=(r3,m4,t5))(h9:KL.Valid c0)(hl10:LoopOK Tryz.prog 0 zU31c1 (nmd_S0 g w c0 r3 m4 t5 0 (pkL c0.done) false) (.exit 0) (nmd_S0 g w c0 r3 m4 t5 i'6 (pkL nd'7) sh'8))(h11:0≤m4∧m4≤1000000)(h12:0≤(c0.done.length:Int)∧(c0.done.length:Int)≤100)(h13:shufM (c0.done.length:Int) g m4 t5=(r9,m10,t11))(hl14:LoopOK Tryz.prog 0 zU31c3 (nmd_S3 w c0 r3 nd'7 sh'8 r9 0 c0.done.length (c0.done.map intsP)) (.exit 6) (nmd_S3 w c0 r3 nd'7 sh'8 r9 u'12 md'13.length (md'13.map intsP)))(hl15:LoopOK Tryz.prog 0 zU31c4 (nmd_S4 w c0 r3 nd'7 sh'8 md'13 0 c0.pts.length (c0.pts.map intP)) (.exit 8) (nmd_S4 w c0 r3 nd'7 sh'8 md'13 v'14 gp'15.length (gp'15.map intP)))(h16:(slL (pkL nd'7))=rowsP l16)(h17:KL.Valid (⟨c0.sk,c0.ra,c0.be,c0.pts,l16⟩:Cup))(h18:KL.Valid (⟨c0.sk,c0.ra,c0.be,c0.pts,md'13⟩:Cup))(h19:KL.Valid (⟨c0.sk,c0.ra,c0.be,gp'15,c0.done⟩:Cup))(h20:0=(0:Int))(h21:(((tableM c0).length:Nat):Int)=c0.sk)(h22:(((tableM (⟨c0.sk,c0.ra,c0.be,c0.pts,l16⟩:Cup)).length:Nat):Int)=c0.sk)(h23:(((whoM (canM c0) c0.sk.toNat).length:Nat):Int)=(((whoM (canM (⟨c0.sk,c0.ra,c0.be,c0.pts,l16⟩:Cup)) (⟨c0.sk,c0.ra,c0.be,c0.pts,l16⟩:Cup).sk.toNat).length:Nat):Int))(h24:(((whoM (sureM c0) c0.sk.toNat).length:Nat):Int)=(((whoM (sureM (⟨c0.sk,c0.ra,c0.be,c0.pts,l16⟩:Cup)) (⟨c0.sk,c0.ra,c0.be,c0.pts,l16⟩:Cup).sk.toNat).length:Nat):Int))(h25:(((totalsM c0).length:Nat):Int)=c0.sk)(h26:(((totalsM (⟨c0.sk,c0.ra,c0.be,gp'15,c0.done⟩:Cup)).length:Nat):Int)=c0.sk)(h27:(tableM c0).length≤100000)(h28:uni 4 (tableM c0))(h29:uni 4 (tableM (⟨c0.sk,c0.ra,c0.be,c0.pts,md'13⟩:Cup)))(h30:(decide ((tableM c0)=(tableM (⟨c0.sk,c0.ra,c0.be,c0.pts,md'13⟩:Cup))))=true)(hl31:LoopOK Tryz.prog 0 zU31c6 (nmd_S5 w c0 r3 sh'8 gp'15 l16 0) (.exit 10) (nmd_S5 w c0 r3 sh'8 gp'15 l16 x'17))(hl32:LoopOK Tryz.prog 0 zU31c5 (nmd_S6 w c0 r3 sh'8 gp'15 l16 0) (.exit 12) (nmd_S6 w c0 r3 sh'8 gp'15 l16 z'18))(hA33:∀ base:Nat,FV Tryz.prog 19 [] base (.p (blP true)) []){base:Nat}:FV Tryz.prog 7 [(.p (.sl l.length (l.map byteP))),(.p (.sl g.length (g.map byteP))),(.p (.v (.int .u8 w)))] base (.p (blP true)) []:=by
  exact FV.fin Tryz.func7 rfl (o:=[.c (.ptr 0 0) [(0,(deckO l 0 (17:Int)))],.c (.p (cupP c0)) [(0,(deckO l m1 t2))],.c (.ptr 2 0) [(2,(deckO g 0 (17:Int)))],.c (.own 3) [(2,(deckO g m4 t5)),(3,(.row 3 r3.length (r3.map intP)))],.q,.c (.agg [(.p (intP c0.sk)),(.p (intP c0.ra)),(.p (intP c0.be)),(.p (intsP c0.pts)),(.pa 4 .root)]) [(4,(.pk 22 3 1 (pkL c0.done)))],.c (.agg [(.p (intP c0.sk)),(.p (intP c0.ra)),(.p (intP c0.be)),(.p (intsP c0.pts)),(.own 8)]) [(8,(.row 22 c0.done.length (c0.done.map intsP)))],.c (.agg [(.p (intP c0.sk)),(.p (intP c0.ra)),(.p (intP c0.be)),(.own 12),(.p (rowsP c0.done))]) [(12,(.row 3 c0.pts.length (c0.pts.map intP)))],.k 6 ⟨(rng [(0,6),(15,6),(42,1),(45,20),(68,47)]),[1,2,3,4,8,12,16,17,18],[],[(14,0)]⟩ (.exit 0) (nmd_S0 g w c0 r3 m4 t5 i'6 (pkL nd'7) sh'8),.c (.own 9) [(1,(deckO g m10 t11)),(9,(.row 3 r9.length (r9.map intP)))],.k 1 ⟨(rng [(0,6),(8,1),(15,8),(42,1),(45,74),(122,15)]),[0,2,3,4,5,6,7,8,9],[],[]⟩ (.exit 6) (nmd_S3 w c0 r3 nd'7 sh'8 r9 u'12 md'13.length (md'13.map intsP)),.k 4 ⟨(rng [(0,6),(8,1),(15,9),(42,1),(45,94),(141,11)]),[0,1,2,3,4,5,6,7],[],[]⟩ (.exit 8) (nmd_S4 w c0 r3 nd'7 sh'8 md'13 v'14 gp'15.length (gp'15.map intP)),.g 1 ⟨[],[0,1,5,6,7],[2,3,4],[]⟩,.c (.tup [(.p (.sl ((tableM c0).length) ((tableM c0).flatten.map intP))),(.p (intP 0))]) [],.c (.tup [(.p (.sl ((tableM (⟨c0.sk,c0.ra,c0.be,c0.pts,l16⟩:Cup)).length) ((tableM (⟨c0.sk,c0.ra,c0.be,c0.pts,l16⟩:Cup)).flatten.map intP))),(.p (intP 0))]) [],.c (.tup [(.p (.sl ((tableM (⟨c0.sk,c0.ra,c0.be,c0.pts,md'13⟩:Cup)).length) ((tableM (⟨c0.sk,c0.ra,c0.be,c0.pts,md'13⟩:Cup)).flatten.map intP))),(.p (intP 0))]) [],.c (.tup [(.p (intsP (whoM (canM c0) c0.sk.toNat))),(.p (intP 0))]) [],.c (.tup [(.p (intsP (zU311 c0 l16))),(.p (intP 0))]) [],.c (.tup [(.p (intsP (whoM (sureM c0) c0.sk.toNat))),(.p (intP 0))]) [],.c (.tup [(.p (intsP (zU310 c0 l16))),(.p (intP 0))]) [],.c (.tup [(.p (intsP (totalsM c0))),(.p (intP 0))]) [],.c (.tup [(.p (intsP (totalsM (⟨c0.sk,c0.ra,c0.be,gp'15,c0.done⟩:Cup)))),(.p (intP 0))]) [],bF,bF,bF,bF,bF,bF,bF,bF,bF,bF,bF,bF,bF,bF,bF,bF,bF,bF,bF,bF,bF,bF,bF,bF,bF,bF,bF,bF,bF,bF,bF,bF,bF,bF,bF,bF,bF,bF,bF,bF,bF,bF,bF,bF,bF,bF,bF,bF,bF,bF,bF,bF,bF,bF,bF,bF,bF,bF,bF,bF,bF,bF,bF,.c (.p (blP (decide ((tableM c0)=(tableM (⟨c0.sk,c0.ra,c0.be,c0.pts,md'13⟩:Cup)))))) [],bF,bF,bF,.k 4 ⟨(rng [(0,7),(8,1),(11,3),(15,11),(27,3),(31,1),(33,1),(35,1),(37,1),(39,1),(41,3),(45,234),(282,31)]),[0,1],[],[]⟩ (.exit 10) (nmd_S5 w c0 r3 sh'8 gp'15 l16 x'17),.k 4 ⟨(rng [(0,9),(11,3),(15,15),(31,1),(33,1),(35,1),(37,1),(39,1),(41,273),(316,42)]),[1],[],[]⟩ (.exit 12) (nmd_S6 w c0 r3 sh'8 gp'15 l16 z'18),.c (.p (blP true)) []]) (l:=[FC Tryz.prog 19 [] [] 1 (.p (blP true)) [],_,_,_,_,_,_,_,_,_,_,_,_,_,_,_,_,_,_,_,_,_,_,_,_,_,_,_,_,_,_,_,_,_,_,_,_,_,_,_,_,_,_,_,_,_,_,_,_,_,_,_,_,_,_,_,_,_,_,_,_,_,_,_,_,_,_,_,_,_,_,_,FC Tryz.prog 38 [(.p (.agg [(intP c0.sk),(intP c0.ra),(intP c0.be),(intsP c0.pts),(slL (pkL nd'7))]))] [] 5 (.tup [(.p (intsP (zU310 c0 l16))),(.p (intP 0))]) [],_,FC Tryz.prog 37 [(.p (.agg [(intP c0.sk),(intP c0.ra),(intP c0.be),(intsP c0.pts),(slL (pkL nd'7))]))] [] 5 (.tup [(.p (intsP (zU311 c0 l16))),(.p (intP 0))]) [],_,_,FC Tryz.prog 34 [(.p (.agg [(intP c0.sk),(intP c0.ra),(intP c0.be),(intsP c0.pts),(slL (pkL nd'7))]))] [] 5 (.tup [(.p (.sl ((tableM (⟨c0.sk,c0.ra,c0.be,c0.pts,l16⟩:Cup)).length) ((tableM (⟨c0.sk,c0.ra,c0.be,c0.pts,l16⟩:Cup)).flatten.map intP))),(.p (intP 0))]) [],_,_,_,FC Tryz.prog 36 [(.ptr 1 0),(.p (intP (c0.done.length:Int)))] [(1,(deckO g m4 t5))] 9 (.own 9) [(1,(deckO g m10 t11)),(9,(.row 3 r9.length (r9.map intP)))],_,FC Tryz.prog 20 [(.p (cupP c0))] [] 12 (.agg [(.p (intP c0.sk)),(.p (intP c0.ra)),(.p (intP c0.be)),(.own 12),(.p (rowsP c0.done))]) [(12,(.row 3 c0.pts.length (c0.pts.map intP)))],FC Tryz.prog 20 [(.p (cupP c0))] [] 8 (.agg [(.p (intP c0.sk)),(.p (intP c0.ra)),(.p (intP c0.be)),(.p (intsP c0.pts)),(.own 8)]) [(8,(.row 22 c0.done.length (c0.done.map intsP)))],FCP Tryz.prog 20 [(.p (cupP c0))] 4 (.agg [(.p (intP c0.sk)),(.p (intP c0.ra)),(.p (intP c0.be)),(.p (intsP c0.pts)),(.pa 4 .root)]) (.pk 22 3 1 (pkL c0.done)),FC Tryz.prog 36 [(.ptr 2 0),(.p (intP c0.sk))] [(2,(deckO g 0 (17:Int)))] 3 (.own 3) [(2,(deckO g m4 t5)),(3,(.row 3 r3.length (r3.map intP)))],_,(20:Int)≠0,_,FC Tryz.prog 27 [(.p (.sl g.length (g.map byteP)))] [] 2 (.ptr 2 0) [(2,(deckO g 0 (17:Int)))],FC Tryz.prog 26 [(.ptr 0 0),(.p (intP 7)),(.p (intP 8))] [(0,(deckO l 0 (17:Int)))] 1 (.p (cupP c0)) [(0,(deckO l m1 t2))],FC Tryz.prog 27 [(.p (.sl l.length (l.map byteP)))] [] 0 (.ptr 0 0) [(0,(deckO l 0 (17:Int)))]]) (by kernel_rfl) (gc (FV.fc (hA33 _) rfl) (gc hl32.code (gc hl31.code (gc (q_notF h30) (gc (q_neF h26) (gc (q_neF h26) (gc (fk 5 (eql_ok (tableM c0) (tableM (⟨c0.sk,c0.ra,c0.be,c0.pts,md'13⟩:Cup)) h27 h28 h29) rfl) (gc (q_neF h26) (gc (q_neF h26) (gc (q_neF h26) (gc (q_neF h25) (gc (q_neF h25) (gc (q_neF h25) (gc (q_neF h25) (gc (q_neF h25) (gc (q_neF h25) (gc (q_neF h24) (gc (q_neF h24) (gc (q_neF h24) (gc (q_neF h24) (gc (q_neF h24) (gc (q_neF h24) (gc (q_neF h23) (gc (q_neF h23) (gc (q_neF h23) (gc (q_neF h23) (gc (q_neF h23) (gc (q_neF h23) (gc (q_neF h22) (gc (q_neF h22) (gc (q_neF h22) (gc (q_neF h22) (gc (q_neF h22) (gc (q_neF h22) (gc (q_neF h21) (gc (q_neF h21) (gc (q_neF h21) (gc (q_neF h21) (gc (q_neF h21) (gc (q_neF h21) (gc (q_neF h20) (gc (q_neF h20) (gc (q_neF h20) (gc (q_neF h20) (gc (q_neF h20) (gc (q_neF h20) (gc (q_neF h20) (gc (q_neF h20) (gc (q_neF h20) (gc zU31q0 (gc zU31q0 (gc zU31q0 (gc zU31q0 (gc zU31q0 (gc zU31q0 (gc zU31q0 (gc zU31q0 (gc zU31q0 (gc zU31q0 (gc zU31q0 (gc zU31q0 (gc zU31q0 (gc zU31q0 (gc zU31q0 (gc zU31q0 (gc zU31q0 (gc zU31q0 (gc zU31q0 (gc zU31q0 (gc zU31q0 (gc (fk 5 (totals2_ok (⟨c0.sk,c0.ra,c0.be,gp'15,c0.done⟩:Cup) h19) rfl) (gc (fk 5 (totals2_ok c0 h9) rfl) (gc (FV.fc (by rw [show ((slL (pkL nd'7)):PV)=rowsP l16 from h16];exact (sureE_ok (⟨c0.sk,c0.ra,c0.be,c0.pts,l16⟩:Cup) h17)) rfl) (gc (fk 5 (sureE_ok c0 h9) rfl) (gc (FV.fc (by rw [show ((slL (pkL nd'7)):PV)=rowsP l16 from h16];exact (canE_ok (⟨c0.sk,c0.ra,c0.be,c0.pts,l16⟩:Cup) h17)) rfl) (gc (fk 5 (canE_ok c0 h9) rfl) (gc (fk 5 (table_ok (⟨c0.sk,c0.ra,c0.be,c0.pts,md'13⟩:Cup) h18) rfl) (gc (FV.fc (by rw [show ((slL (pkL nd'7)):PV)=rowsP l16 from h16];exact (table_ok (⟨c0.sk,c0.ra,c0.be,c0.pts,l16⟩:Cup) h17)) rfl) (gc (fk 5 (table_ok c0 h9) rfl) (gc hl15.code (gc hl14.code (gc (FMM.fc (ids:=[1]) (shuf_eq (c0.done.length:Int) g m4 t5 h11 h12 h13) (by kernel_rfl)) (gc hl10.code (gc (FMM.fc (ids:=[]) (clg_ok c0 h9) (by kernel_rfl)) (gc (FMM.fc (ids:=[]) (clm_ok c0 h9) (by kernel_rfl)) (gc (FMMP.fcp (clk_ok c0 h9) (by kernel_rfl) (by kernel_rfl)) (gc (FMM.fc (ids:=[2]) (shuf_eq c0.sk g (0:Int) (17:Int) h6 h7 h8) (by kernel_rfl)) (gc h5 (gc (by first | decide | simp) (gc h4 (gc (FMM.fc (ids:=[]) (of_ok g) (by kernel_rfl)) (gc (FMM.fc (ids:=[0]) (made_eq (7:Int) (8:Int) l (0:Int) (17:Int) h0 h1 h2 h3) (by kernel_rfl)) (gc (FMM.fc (ids:=[]) (of_ok l) (by kernel_rfl)) gn)))))))))))))))))))))))))))))))))))))))))))))))))))))))))))))))))))))))))))))))))))))))))))))
def nmd_S1(g:List Int)(w:Int)(c0:Cup)(r3:List Int)(m4:Int)(t5:Int)(i:Nat)(x100:List Int)(s:Nat)(neL:List (Nat × List PV))(si:Bool):St:=⟨fr 359 [(6,(.kb false)),(7,(.ptr 0 0)),(8,(.ptr 1 0)),(9,(.p (intP ((1:Int)+(w.tmod (20:Int)))))),(10,(.own 2)),(11,(.ptr 6 0)),(12,(.ptr 7 0)),(13,(.ptr 8 0)),(14,(.p (blP si))),(15,(.p (intP (i:Int)))),(16,(.p (intsP x100))),(65,(.p (rowsP c0.done))),(66,(.p (intP (c0.done.length:Int)))),(67,(.p (intP (i:Int)))),(72,(.p (intsP x100))),(73,(.p (intP (x100.length:Int)))),(74,(.p (intP (s:Int))))],[some (.box 25 [(.p (intP c0.sk)),(.p (intP c0.ra)),(.p (intP c0.be)),(.p (intsP c0.pts)),(.p (rowsP c0.done))]),some (deckO g m4 t5),some (.row 3 r3.length (r3.map intP)),some (.pk 22 3 1 neL),some (.row 22 c0.done.length (c0.done.map intsP)),some (.row 3 c0.pts.length (c0.pts.map intP)),some (.box 25 [(.p (intP c0.sk)),(.p (intP c0.ra)),(.p (intP c0.be)),(.p (intsP c0.pts)),(.pa 3 .root)]),some (.box 25 [(.p (intP c0.sk)),(.p (intP c0.ra)),(.p (intP c0.be)),(.p (intsP c0.pts)),(.own 4)]),some (.box 25 [(.p (intP c0.sk)),(.p (intP c0.ra)),(.p (intP c0.be)),(.own 5),(.p (rowsP c0.done))])]⟩
theorem nmd_L0_p0{g:List Int}{w:Int}{c0:Cup}{r3:List Int}{m4 t5:Int}{i:Nat}{nd:List (List Int)}{sh:Bool}{x100:List Int}{s'101:Nat}{ne'102:List (List Int)}{si'103:Bool}{i':Nat}{nd':List (List Int)}(h0:(i:Int)<(c0.done.length:Int))(h1:c0.done[i]? = some x100)(hl2:LoopOK Tryz.prog 0 zU31c2 (nmd_S1 g w c0 r3 m4 t5 i x100 0 (pkL nd) sh) (.exit 2) (nmd_S1 g w c0 r3 m4 t5 i x100 s'101 (pkL ne'102) si'103))(h3:inR (((i+1):Nat):Int))(ei':i'=(i+1))(end'L:pkL nd'=pkL ne'102):CodeOK Tryz.prog 0 zU31c1 (nmd_S0 g w c0 r3 m4 t5 i (pkL nd) sh) .normal (nmd_S0 g w c0 r3 m4 t5 i' (pkL nd') si'103):=by
  subst ei'
  have raw:CodeOK Tryz.prog 0 zU31c1 (nmd_S0 g w c0 r3 m4 t5 i (pkL nd) sh) .normal (nmd_S0 g w c0 r3 m4 t5 (i+1) (pkL ne'102) si'103):=CodeOK.fin (g:=⟨(rng [(0,6),(15,6),(42,1),(45,20),(68,47)]),[0,1,2,3,4,5,6,7,8],[],[]⟩) (o:=[bT,.x (intsP x100),.k 3 ⟨(rng [(0,6),(17,4),(42,1),(45,20),(68,4),(75,39)]),[0,1,2,3,4,5,6,7,8],[],[]⟩ (.exit 2) (nmd_S1 g w c0 r3 m4 t5 i x100 s'101 (pkL ne'102) si'103)]) (l:=[_,_,_,_,_]) (by kernel_rfl) (gc h3 (gc hl2.code (gc (atm intsP h1) (gc (ixn intsP h1) (gc (q_lt h0) gn)))))
  exact raw.cast (by rw [end'L])
theorem nmd_L0_p1{g:List Int}{w:Int}{c0:Cup}{r3:List Int}{m4 t5:Int}{i:Nat}{nd:List (List Int)}{sh:Bool}(h0:(c0.done.length:Int)≤(i:Int)):CodeOK Tryz.prog 0 zU31c1 (nmd_S0 g w c0 r3 m4 t5 i (pkL nd) sh) (.exit 0) (nmd_S0 g w c0 r3 m4 t5 i (pkL nd) sh):=by
  exact CodeOK.fin (g:=⟨(rng [(0,6),(15,6),(42,1),(45,20),(68,47)]),[0,1,2,3,4,5,6,7,8],[],[]⟩) (o:=[bF]) (l:=[_]) (by kernel_rfl) (gc (q_ltF h0) gn)
theorem nmd_L3_p0{w:Int}{c0:Cup}{r3:List Int}{nd'7:List (List Int)}{sh'8:Bool}{r9:List Int}{u:Nat}{md:List (List Int)}{x400:Int}{x401 x402:List Int}{u':Nat}{md':List (List Int)}(h0:(u:Int)<(r9.length:Int))(h1:r9[u]? = some x400)(h2:c0.done[x400.toNat]? = some x401)(h3:0≤x400)(h4:x401.length≤1000)(h5:md[u]? = some x402)(h6:(u*1)<(md.map intsP).length)(h7:inR (((u+1):Nat):Int))(eu':u'=(u+1))(emd'n:md'.length=md.length)(emd'c:md'.map intsP=((md.map intsP).set (u*1) (intsP x401))):CodeOK Tryz.prog 0 zU31c3 (nmd_S3 w c0 r3 nd'7 sh'8 r9 u md.length (md.map intsP)) .normal (nmd_S3 w c0 r3 nd'7 sh'8 r9 u' md'.length (md'.map intsP)):=by
  subst eu'
  have raw:CodeOK Tryz.prog 0 zU31c3 (nmd_S3 w c0 r3 nd'7 sh'8 r9 u md.length (md.map intsP)) .normal (nmd_S3 w c0 r3 nd'7 sh'8 r9 (u+1) md.length ((md.map intsP).set (u*1) (intsP x401))):=CodeOK.fin (g:=⟨(rng [(0,6),(8,1),(15,8),(42,1),(45,74),(122,15)]),[0,1,2,3,4,5,6,7,8],[],[]⟩) (o:=[bT,.x (intP x400),.x (intsP x401),.c (.p (intsP x401)) []]) (l:=[_,_,_,_,(c0.done.map intsP)[(x400.toNat*1)]? = some (intsP x401),_,_,_,_]) (by kernel_rfl) (gc h7 (gc h6 (gc (ix_own (i:=(u:Int)) (Int.natCast_nonneg _) h5) (gc (fk 9 (cli_ok x401 h4) rfl) (gc (at_map (i:=x400.toNat) h2) (gc (ix_map (g:=intsP) h3 h2) (gc (atm intP h1) (gc (ix_own (i:=(u:Int)) (Int.natCast_nonneg _) h1) (gc (q_lt h0) gn)))))))))
  exact raw.cast (by rw [emd'n,emd'c])
theorem nmd_L3_p1{w:Int}{c0:Cup}{r3:List Int}{nd'7:List (List Int)}{sh'8:Bool}{r9:List Int}{u:Nat}{md:List (List Int)}(h0:(r9.length:Int)≤(u:Int)):CodeOK Tryz.prog 0 zU31c3 (nmd_S3 w c0 r3 nd'7 sh'8 r9 u md.length (md.map intsP)) (.exit 6) (nmd_S3 w c0 r3 nd'7 sh'8 r9 u md.length (md.map intsP)):=by
  exact CodeOK.fin (g:=⟨(rng [(0,6),(8,1),(15,8),(42,1),(45,74),(122,15)]),[0,1,2,3,4,5,6,7,8],[],[]⟩) (o:=[bF]) (l:=[_]) (by kernel_rfl) (gc (q_ltF h0) gn)
theorem nmd_L4_p0{w:Int}{c0:Cup}{r3:List Int}{nd'7:List (List Int)}{sh'8:Bool}{md'13:List (List Int)}{v:Nat}{gp:List Int}{x500:Int}{v':Nat}{gp':List Int}(h0:(v:Int)<(c0.pts.length:Int))(h1:gp[v]? = some x500)(h2:inR (x500*((1:Int)+(w.tmod (20:Int)))))(h3:(v*1)<(gp.map intP).length)(h4:inR (((v+1):Nat):Int))(ev':v'=(v+1))(egp'n:gp'.length=gp.length)(egp'c:gp'.map intP=((gp.map intP).set (v*1) (intP (x500*((1:Int)+(w.tmod (20:Int))))))):CodeOK Tryz.prog 0 zU31c4 (nmd_S4 w c0 r3 nd'7 sh'8 md'13 v gp.length (gp.map intP)) .normal (nmd_S4 w c0 r3 nd'7 sh'8 md'13 v' gp'.length (gp'.map intP)):=by
  subst ev'
  have raw:CodeOK Tryz.prog 0 zU31c4 (nmd_S4 w c0 r3 nd'7 sh'8 md'13 v gp.length (gp.map intP)) .normal (nmd_S4 w c0 r3 nd'7 sh'8 md'13 (v+1) gp.length ((gp.map intP).set (v*1) (intP (x500*((1:Int)+(w.tmod (20:Int))))))):=CodeOK.fin (g:=⟨(rng [(0,6),(8,1),(15,9),(42,1),(45,94),(141,11)]),[0,1,2,3,4,5,6,7],[],[]⟩) (o:=[bT,.x (intP x500)]) (l:=[_,_,_,_,_,_,_]) (by kernel_rfl) (gc h4 (gc h3 (gc (ix_own (i:=(v:Int)) (Int.natCast_nonneg _) h1) (gc h2 (gc (atm intP h1) (gc (ix_own (i:=(v:Int)) (Int.natCast_nonneg _) h1) (gc (q_lt h0) gn)))))))
  exact raw.cast (by rw [egp'n,egp'c])
theorem nmd_L4_p1{w:Int}{c0:Cup}{r3:List Int}{nd'7:List (List Int)}{sh'8:Bool}{md'13:List (List Int)}{v:Nat}{gp:List Int}(h0:(c0.pts.length:Int)≤(v:Int)):CodeOK Tryz.prog 0 zU31c4 (nmd_S4 w c0 r3 nd'7 sh'8 md'13 v gp.length (gp.map intP)) (.exit 8) (nmd_S4 w c0 r3 nd'7 sh'8 md'13 v gp.length (gp.map intP)):=by
  exact CodeOK.fin (g:=⟨(rng [(0,6),(8,1),(15,9),(42,1),(45,94),(141,11)]),[0,1,2,3,4,5,6,7],[],[]⟩) (o:=[bF]) (l:=[_]) (by kernel_rfl) (gc (q_ltF h0) gn)
theorem nmd_L5_p2{w:Int}{c0:Cup}{r3:List Int}{sh'8:Bool}{gp'15:List Int}{l16:List (List Int)}{x:Nat}{y600 y601 y602 y603 x604:Int}{x':Nat}(h0:(x:Int)<(((tableM c0).length:Nat):Int))(h1:(tableM c0)[x]? = some [y600,y601,y602,y603])(h2:uni 4 (tableM c0))(h3:(0:Int)≤y600)(h4:y600<c0.sk)(h5:r3[y600.toNat]? = some x604)(h6:0≤y600)(h7:small (tableM (⟨c0.sk,c0.ra,c0.be,c0.pts,l16⟩:Cup)).length)(h8:uni 4 (tableM (⟨c0.sk,c0.ra,c0.be,c0.pts,l16⟩:Cup)))(h9:((tableM (⟨c0.sk,c0.ra,c0.be,c0.pts,l16⟩:Cup)).any fun x=>decide ([x604,y601,y602,y603]=x))=true)(h10:inR (((x+1):Nat):Int))(ex':x'=(x+1)):CodeOK Tryz.prog 0 zU31c6 (nmd_S5 w c0 r3 sh'8 gp'15 l16 x) .normal (nmd_S5 w c0 r3 sh'8 gp'15 l16 x'):=by
  subst ex'
  exact CodeOK.fin (g:=⟨(rng [(0,7),(8,1),(11,3),(15,11),(27,3),(31,1),(33,1),(35,1),(37,1),(39,1),(41,3),(45,234),(282,31)]),[0,1],[],[]⟩) (o:=[bT,.x (.agg [(intP y600),(intP y601),(intP y602),(intP y603)]),bF,bF,bF,bF,bF,bF,bF,bF,bF,bF,bF,bF,.x (intP x604),bF,bF,bF,bF,bF,bF,bF,bF,.c (.p (blP ((tableM (⟨c0.sk,c0.ra,c0.be,c0.pts,l16⟩:Cup)).any fun x=>decide ([x604,y601,y602,y603]=x)))) [],bF,bF,bF]) (l:=[_,_,_,_,_,_,_,_,_,_,_,_,_,(r3.map intP)[(y600.toNat*1)]? = some (intP x604),_,_,_,_,_,_,_,_,_,_,_,_,_,_,_,0≤(x:Int)∧(x:Int)<(((tableM c0).length:Nat):Int)∧(x*4)<((tableM c0).flatten.map intP).length,_]) (by kernel_rfl) (gc h10 (gc (q_notF h9) (gc (q_leF h4) (gc (q_leF h4) (gc (fk 3 (hsn_ok (tableM (⟨c0.sk,c0.ra,c0.be,c0.pts,l16⟩:Cup)) x604 y601 y602 y603 h7 h8) rfl) (gc (q_leF h4) (gc (q_leF h4) (gc (q_leF h4) (gc (q_leF h4) (gc (q_leF h4) (gc (q_leF h4) (gc (q_leF h4) (gc (q_leF h4) (gc (at_map (i:=y600.toNat) h5) (gc (q_leF h4) (gc (ix_own (i:=y600) h6 h5) (gc (q_leF h4) (gc (q_leF h4) (gc (q_leF h4) (gc (q_leF h4) (gc (q_leF h4) (gc (q_ltF h3) (gc (q_ltF h3) (gc (q_ltF h3) (gc (q_ltF h3) (gc (q_ltF h3) (gc (q_ltF h3) (gc (fl_load (i:=x) h2 h1) (gc (fl_le (i:=x) h2 h1) (gc (ix_fl (k:=4) (i:=(x:Int)) (by decide) h2 (Int.natCast_nonneg _) h1) (gc (q_lt h0) gn)))))))))))))))))))))))))))))))
theorem nmd_L5_p3{w:Int}{c0:Cup}{r3:List Int}{sh'8:Bool}{gp'15:List Int}{l16:List (List Int)}{x:Nat}(h0:(((tableM c0).length:Nat):Int)≤(x:Int)):CodeOK Tryz.prog 0 zU31c6 (nmd_S5 w c0 r3 sh'8 gp'15 l16 x) (.exit 10) (nmd_S5 w c0 r3 sh'8 gp'15 l16 x):=by
  exact CodeOK.fin (g:=⟨(rng [(0,7),(8,1),(11,3),(15,11),(27,3),(31,1),(33,1),(35,1),(37,1),(39,1),(41,3),(45,234),(282,31)]),[0,1],[],[]⟩) (o:=[bF]) (l:=[_]) (by kernel_rfl) (gc (q_ltF h0) gn)
theorem nmd_L6_p0{w:Int}{c0:Cup}{r3:List Int}{sh'8:Bool}{gp'15:List Int}{l16:List (List Int)}{z:Nat}{x700 x701 x702:Int}{z':Nat}(h0:(z:Int)<c0.sk)(h1:small (whoM (canM c0) c0.sk.toNat).length)(h2:r3[z]? = some x700)(h3:small (whoM (canM (⟨c0.sk,c0.ra,c0.be,c0.pts,l16⟩:Cup)) (⟨c0.sk,c0.ra,c0.be,c0.pts,l16⟩:Cup).sk.toNat).length)(h4:(((whoM (canM c0) c0.sk.toNat).any fun x=>decide ((z:Int)=x)) == ((whoM (canM (⟨c0.sk,c0.ra,c0.be,c0.pts,l16⟩:Cup)) (⟨c0.sk,c0.ra,c0.be,c0.pts,l16⟩:Cup).sk.toNat).any fun x=>decide (x700=x)))=true)(h5:small (whoM (sureM c0) c0.sk.toNat).length)(h6:small (whoM (sureM (⟨c0.sk,c0.ra,c0.be,c0.pts,l16⟩:Cup)) (⟨c0.sk,c0.ra,c0.be,c0.pts,l16⟩:Cup).sk.toNat).length)(h7:(((whoM (sureM c0) c0.sk.toNat).any fun x=>decide ((z:Int)=x)) == ((whoM (sureM (⟨c0.sk,c0.ra,c0.be,c0.pts,l16⟩:Cup)) (⟨c0.sk,c0.ra,c0.be,c0.pts,l16⟩:Cup).sk.toNat).any fun x=>decide (x700=x)))=true)(h8:sh'8=false)(h9:(totalsM (⟨c0.sk,c0.ra,c0.be,gp'15,c0.done⟩:Cup))[z]? = some x701)(h10:(totalsM c0)[z]? = some x702)(h11:inR (((1:Int)+(w.tmod (20:Int)))*x702))(h12:x701=(((1:Int)+(w.tmod (20:Int)))*x702))(h13:inR (((z+1):Nat):Int))(ez':z'=(z+1)):CodeOK Tryz.prog 0 zU31c5 (nmd_S6 w c0 r3 sh'8 gp'15 l16 z) .normal (nmd_S6 w c0 r3 sh'8 gp'15 l16 z'):=by
  subst ez'
  exact CodeOK.fin (g:=⟨(rng [(0,9),(11,3),(15,15),(31,1),(33,1),(35,1),(37,1),(39,1),(41,273),(316,42)]),[0],[],[]⟩) (o:=[bT,.c (.p (blP ((whoM (canM c0) c0.sk.toNat).any fun x=>decide ((z:Int)=x)))) [],.x (intP x700),.c (.p (blP ((zU311 c0 l16).any fun x=>decide (x700=x)))) [],bF,bF,bF,.c (.p (blP ((whoM (sureM c0) c0.sk.toNat).any fun x=>decide ((z:Int)=x)))) [],bF,bF,bF,bF,bF,.x (intP x700),bF,.c (.p (blP ((zU310 c0 l16).any fun x=>decide (x700=x)))) [],bF,bF,bF,bF,bF,bT,bT,bT,bT,.x (intP x701),bT,bT,bT,bT,bT,.x (intP x702),bT,bT,bF,bT,bF,bF]) (l:=[_,_,_,_,_,_,_,_,_,_,_,_,_,_,_,_,_,_,_,_,_,_,_,_,_,_,_,_,_,_,_,_,_,_,_,_,_,_,_,_,_,_,_,_]) (by kernel_rfl) (gc h13 (gc (q_neF h12) (gc (q_notF h7) (gc (q_not h8) (gc (q_notF h7) (gc (q_not h8) (gc h11 (gc (q_not h8) (gc (atm intP h10) (gc (q_not h8) (gc (ixn intP h10) (gc (q_not h8) (gc (q_not h8) (gc (q_not h8) (gc (q_not h8) (gc (atm intP h9) (gc (q_not h8) (gc (ixn intP h9) (gc (q_not h8) (gc (q_not h8) (gc (q_not h8) (gc (q_notF h7) (gc (q_notF h7) (gc (q_notF h7) (gc (q_notF h4) (gc (q_notF h4) (gc (fk 13 (hasV_ok (zU310 c0 l16) x700 h6) rfl) (gc (q_notF h4) (gc (atm intP h2) (gc (q_notF h4) (gc (ix_own (i:=(z:Int)) (Int.natCast_nonneg _) h2) (gc (q_notF h4) (gc (q_notF h4) (gc (q_notF h4) (gc (q_notF h4) (gc (fk 9 (hasV_ok (whoM (sureM c0) c0.sk.toNat) (z:Int) h5) rfl) (gc (q_notF h4) (gc (q_notF h4) (gc (q_notF h4) (gc (fk 5 (hasV_ok (zU311 c0 l16) x700 h3) rfl) (gc (atm intP h2) (gc (ix_own (i:=(z:Int)) (Int.natCast_nonneg _) h2) (gc (fk 1 (hasV_ok (whoM (canM c0) c0.sk.toNat) (z:Int) h1) rfl) (gc (q_lt h0) gn))))))))))))))))))))))))))))))))))))))))))))
theorem nmd_L6_p1{w:Int}{c0:Cup}{r3:List Int}{sh'8:Bool}{gp'15:List Int}{l16:List (List Int)}{z:Nat}{x700:Int}{z':Nat}(h0:(z:Int)<c0.sk)(h1:small (whoM (canM c0) c0.sk.toNat).length)(h2:r3[z]? = some x700)(h3:small (whoM (canM (⟨c0.sk,c0.ra,c0.be,c0.pts,l16⟩:Cup)) (⟨c0.sk,c0.ra,c0.be,c0.pts,l16⟩:Cup).sk.toNat).length)(h4:(((whoM (canM c0) c0.sk.toNat).any fun x=>decide ((z:Int)=x)) == ((whoM (canM (⟨c0.sk,c0.ra,c0.be,c0.pts,l16⟩:Cup)) (⟨c0.sk,c0.ra,c0.be,c0.pts,l16⟩:Cup).sk.toNat).any fun x=>decide (x700=x)))=true)(h5:small (whoM (sureM c0) c0.sk.toNat).length)(h6:small (whoM (sureM (⟨c0.sk,c0.ra,c0.be,c0.pts,l16⟩:Cup)) (⟨c0.sk,c0.ra,c0.be,c0.pts,l16⟩:Cup).sk.toNat).length)(h7:(((whoM (sureM c0) c0.sk.toNat).any fun x=>decide ((z:Int)=x)) == ((whoM (sureM (⟨c0.sk,c0.ra,c0.be,c0.pts,l16⟩:Cup)) (⟨c0.sk,c0.ra,c0.be,c0.pts,l16⟩:Cup).sk.toNat).any fun x=>decide (x700=x)))=true)(h8:sh'8=true)(h9:inR (((z+1):Nat):Int))(ez':z'=(z+1)):CodeOK Tryz.prog 0 zU31c5 (nmd_S6 w c0 r3 sh'8 gp'15 l16 z) .normal (nmd_S6 w c0 r3 sh'8 gp'15 l16 z'):=by
  subst ez'
  exact CodeOK.fin (g:=⟨(rng [(0,9),(11,3),(15,15),(31,1),(33,1),(35,1),(37,1),(39,1),(41,273),(316,42)]),[0],[],[]⟩) (o:=[bT,.c (.p (blP ((whoM (canM c0) c0.sk.toNat).any fun x=>decide ((z:Int)=x)))) [],.x (intP x700),.c (.p (blP ((zU311 c0 l16).any fun x=>decide (x700=x)))) [],bF,bF,bF,.c (.p (blP ((whoM (sureM c0) c0.sk.toNat).any fun x=>decide ((z:Int)=x)))) [],bF,bF,bF,bF,bF,.x (intP x700),bF,.c (.p (blP ((zU310 c0 l16).any fun x=>decide (x700=x)))) [],bF,bF,bF,bF,bF,bF,bF,bF,bF,bF,bF,bF,bF,bF,bF,bF,bF,bF,bF]) (l:=[_,_,_,_,_,_,_,_,_,_,_,_,_,_,_,_,_,_,_,_,_,_,_,_,_,_,_,_,_,_,_,_,_,_,_,_,_,_]) (by kernel_rfl) (gc h9 (gc (q_notF h7) (gc (q_notF h8) (gc (q_notF h7) (gc (q_notF h8) (gc (q_notF h8) (gc (q_notF h8) (gc (q_notF h8) (gc (q_notF h8) (gc (q_notF h8) (gc (q_notF h8) (gc (q_notF h8) (gc (q_notF h8) (gc (q_notF h8) (gc (q_notF h8) (gc (q_notF h7) (gc (q_notF h7) (gc (q_notF h7) (gc (q_notF h4) (gc (q_notF h4) (gc (fk 13 (hasV_ok (zU310 c0 l16) x700 h6) rfl) (gc (q_notF h4) (gc (atm intP h2) (gc (q_notF h4) (gc (ix_own (i:=(z:Int)) (Int.natCast_nonneg _) h2) (gc (q_notF h4) (gc (q_notF h4) (gc (q_notF h4) (gc (q_notF h4) (gc (fk 9 (hasV_ok (whoM (sureM c0) c0.sk.toNat) (z:Int) h5) rfl) (gc (q_notF h4) (gc (q_notF h4) (gc (q_notF h4) (gc (fk 5 (hasV_ok (zU311 c0 l16) x700 h3) rfl) (gc (atm intP h2) (gc (ix_own (i:=(z:Int)) (Int.natCast_nonneg _) h2) (gc (fk 1 (hasV_ok (whoM (canM c0) c0.sk.toNat) (z:Int) h1) rfl) (gc (q_lt h0) gn))))))))))))))))))))))))))))))))))))))
theorem nmd_L6_p2{w:Int}{c0:Cup}{r3:List Int}{sh'8:Bool}{gp'15:List Int}{l16:List (List Int)}{z:Nat}(h0:c0.sk≤(z:Int)):CodeOK Tryz.prog 0 zU31c5 (nmd_S6 w c0 r3 sh'8 gp'15 l16 z) (.exit 12) (nmd_S6 w c0 r3 sh'8 gp'15 l16 z):=by
  exact CodeOK.fin (g:=⟨(rng [(0,9),(11,3),(15,15),(31,1),(33,1),(35,1),(37,1),(39,1),(41,273),(316,42)]),[0],[],[]⟩) (o:=[bF]) (l:=[_]) (by kernel_rfl) (gc (q_ltF h0) gn)
def nmd_S2(g:List Int)(w:Int)(c0:Cup)(r3:List Int)(m4:Int)(t5:Int)(i:Nat)(x100:List Int)(s:Nat)(ne:List (List Int))(x200:Int)(x202:Int)(o:Nat)(sj:Bool):St:=⟨fr 359 [(6,(.kb false)),(7,(.ptr 0 0)),(8,(.ptr 1 0)),(9,(.p (intP ((1:Int)+(w.tmod (20:Int)))))),(10,(.own 2)),(11,(.ptr 6 0)),(12,(.ptr 7 0)),(13,(.ptr 8 0)),(14,(.p (blP sj))),(15,(.p (intP (i:Int)))),(16,(.p (intsP x100))),(17,(.p (intP (s:Int)))),(18,(.p (intP x200))),(65,(.p (rowsP c0.done))),(66,(.p (intP (c0.done.length:Int)))),(67,(.p (intP (i:Int)))),(72,(.p (intsP x100))),(73,(.p (intP (x100.length:Int)))),(74,(.p (intP (s:Int)))),(90,(.p (intsP x100))),(91,(.p (intP (x100.length:Int)))),(92,(.p (intP (o:Int))))],[some (.box 25 [(.p (intP c0.sk)),(.p (intP c0.ra)),(.p (intP c0.be)),(.p (intsP c0.pts)),(.p (rowsP c0.done))]),some (deckO g m4 t5),some (.row 3 r3.length (r3.map intP)),some (.pk 22 3 1 (setL (pkL ne) i (x202.toNat*1) (intP x200))),some (.row 22 c0.done.length (c0.done.map intsP)),some (.row 3 c0.pts.length (c0.pts.map intP)),some (.box 25 [(.p (intP c0.sk)),(.p (intP c0.ra)),(.p (intP c0.be)),(.p (intsP c0.pts)),(.pa 3 .root)]),some (.box 25 [(.p (intP c0.sk)),(.p (intP c0.ra)),(.p (intP c0.be)),(.p (intsP c0.pts)),(.own 4)]),some (.box 25 [(.p (intP c0.sk)),(.p (intP c0.ra)),(.p (intP c0.be)),(.own 5),(.p (rowsP c0.done))])]⟩
theorem nmd_L1_p0{g:List Int}{w:Int}{c0:Cup}{r3:List Int}{m4 t5:Int}{i:Nat}{x100:List Int}{s:Nat}{ne:List (List Int)}{si:Bool}{x200:Int}{x201:List Int}{x202 x203:Int}{o'204:Nat}{sj'205:Bool}{s':Nat}{ne':List (List Int)}(h0:(s:Int)<(x100.length:Int))(h1:x100[s]? = some x200)(h2:ne[i]? = some x201)(h3:r3[s]? = some x202)(h4:x201[x202.toNat]? = some x203)(h5:0≤x202)(hl6:LoopOK Tryz.prog 0 zU31c0 (nmd_S2 g w c0 r3 m4 t5 i x100 s ne x200 x202 0 si) (.exit 4) (nmd_S2 g w c0 r3 m4 t5 i x100 s ne x200 x202 o'204 sj'205))(h7:inR (((s+1):Nat):Int))(es':s'=(s+1))(ene'L:pkL ne'=setL (pkL ne) i (x202.toNat*1) (intP x200)):CodeOK Tryz.prog 0 zU31c2 (nmd_S1 g w c0 r3 m4 t5 i x100 s (pkL ne) si) .normal (nmd_S1 g w c0 r3 m4 t5 i x100 s' (pkL ne') sj'205):=by
  subst es'
  have raw:CodeOK Tryz.prog 0 zU31c2 (nmd_S1 g w c0 r3 m4 t5 i x100 s (pkL ne) si) .normal (nmd_S1 g w c0 r3 m4 t5 i x100 (s+1) (setL (pkL ne) i (x202.toNat*1) (intP x200)) sj'205):=CodeOK.fin (g:=⟨(rng [(0,6),(17,4),(42,1),(45,20),(68,4),(75,39)]),[0,1,2,3,4,5,6,7,8],[],[]⟩) (o:=[bT,.x (intP x200),.q,.q,.x (intP x202),.q,.x (intP (x201.length:Nat)),.q,.x (intP x203),.k 3 ⟨(rng [(0,6),(19,2),(42,1),(45,20),(68,4),(75,15),(93,20)]),[0,1,2,3,4,5,6,7,8],[],[]⟩ (.exit 4) (nmd_S2 g w c0 r3 m4 t5 i x100 s ne x200 x202 o'204 sj'205)]) (l:=[_,_,cellL (pkL ne) i (x202.toNat*1)=some (intP x203),_,numL (pkL ne) i=some (intP (x201.length:Nat)),_,_,i<(pkL ne).length,0≤(i:Int)∧(i:Int)<((pkL ne).length:Int),_,_,_]) (by kernel_rfl) (gc h7 (gc hl6.code (gc (cell_pk (i:=x202.toNat) h2 h4) (gc (ix_own (i:=x202) h5 h4) (gc (num_pk h2) (gc (atm intP h3) (gc (ix_own (i:=(s:Int)) (Int.natCast_nonneg _) h3) (gc (pk_lt h2) (gc (pk_ix (i:=(i:Int)) (Int.natCast_nonneg _) h2) (gc (atm intP h1) (gc (ixn intP h1) (gc (q_lt h0) gn))))))))))))
  exact raw.cast (by rw [ene'L])
theorem nmd_L1_p1{g:List Int}{w:Int}{c0:Cup}{r3:List Int}{m4 t5:Int}{i:Nat}{x100:List Int}{s:Nat}{ne:List (List Int)}{si:Bool}(h0:(x100.length:Int)≤(s:Int)):CodeOK Tryz.prog 0 zU31c2 (nmd_S1 g w c0 r3 m4 t5 i x100 s (pkL ne) si) (.exit 2) (nmd_S1 g w c0 r3 m4 t5 i x100 s (pkL ne) si):=by
  exact CodeOK.fin (g:=⟨(rng [(0,6),(17,4),(42,1),(45,20),(68,4),(75,39)]),[0,1,2,3,4,5,6,7,8],[],[]⟩) (o:=[bF]) (l:=[_]) (by kernel_rfl) (gc (q_ltF h0) gn)
theorem nmd_L2_p0{g:List Int}{w:Int}{c0:Cup}{r3:List Int}{m4 t5:Int}{i:Nat}{x100:List Int}{s:Nat}{ne:List (List Int)}{x200 x202:Int}{o:Nat}{sj:Bool}{x300:Int}{o':Nat}(h0:(o:Int)<(x100.length:Int))(h1:x100[o]? = some x300)(h2:sj=true)(h3:inR (((o+1):Nat):Int))(eo':o'=(o+1)):CodeOK Tryz.prog 0 zU31c0 (nmd_S2 g w c0 r3 m4 t5 i x100 s ne x200 x202 o sj) .normal (nmd_S2 g w c0 r3 m4 t5 i x100 s ne x200 x202 o' true):=by
  subst eo'
  exact CodeOK.fin (g:=⟨(rng [(0,6),(19,2),(42,1),(45,20),(68,4),(75,15),(93,20)]),[0,1,2,3,4,5,6,7,8],[],[(14,0)]⟩) (o:=[bT,.x (intP x300),bT,bT,bT,bT,bT,bT,bT,bT]) (l:=[_,_,_,_,_,_,_,_,_,_,_,_]) (by kernel_rfl) (gc h3 (gc h2 (gc h2 (gc h2 (gc h2 (gc h2 (gc h2 (gc h2 (gc h2 (gc (atm intP h1) (gc (ixn intP h1) (gc (q_lt h0) gn))))))))))))
theorem nmd_L2_p1{g:List Int}{w:Int}{c0:Cup}{r3:List Int}{m4 t5:Int}{i:Nat}{x100:List Int}{s:Nat}{ne:List (List Int)}{x200 x202:Int}{o:Nat}{sj:Bool}{x300:Int}{o':Nat}{sj':Bool}(h0:(o:Int)<(x100.length:Int))(h1:x100[o]? = some x300)(h2:sj=false)(h3:(o:Int)≠(s:Int))(h4:x200=x300)(h5:inR (((o+1):Nat):Int))(eo':o'=(o+1))(esj':sj'=(decide (x200 > (0:Int)))):CodeOK Tryz.prog 0 zU31c0 (nmd_S2 g w c0 r3 m4 t5 i x100 s ne x200 x202 o sj) .normal (nmd_S2 g w c0 r3 m4 t5 i x100 s ne x200 x202 o' sj'):=by
  subst eo' esj'
  exact CodeOK.fin (g:=⟨(rng [(0,6),(19,2),(42,1),(45,20),(68,4),(75,15),(93,20)]),[0,1,2,3,4,5,6,7,8],[],[]⟩) (o:=[bT,.x (intP x300),bF,bF,bF,bF,bT,bT,bT,bF,bT,bF,bT,bT,bF,bT,bF]) (l:=[_,_,_,_,_,_,_,_,_,_,_,_,_,_,_,_,_,_,_]) (by kernel_rfl) (gc h5 (gc h2 (gc (q_eq h4) (gc h2 (gc (q_eq h4) (gc (q_eq h4) (gc h2 (gc (q_neT h3) (gc h2 (gc (q_neT h3) (gc (q_neT h3) (gc (q_neT h3) (gc h2 (gc h2 (gc h2 (gc h2 (gc (atm intP h1) (gc (ixn intP h1) (gc (q_lt h0) gn)))))))))))))))))))
theorem nmd_L2_p2{g:List Int}{w:Int}{c0:Cup}{r3:List Int}{m4 t5:Int}{i:Nat}{x100:List Int}{s:Nat}{ne:List (List Int)}{x200 x202:Int}{o:Nat}{sj:Bool}{x300:Int}{o':Nat}(h0:(o:Int)<(x100.length:Int))(h1:x100[o]? = some x300)(h2:sj=false)(h3:(o:Int)≠(s:Int))(h4:x200≠x300)(h5:inR (((o+1):Nat):Int))(eo':o'=(o+1)):CodeOK Tryz.prog 0 zU31c0 (nmd_S2 g w c0 r3 m4 t5 i x100 s ne x200 x202 o sj) .normal (nmd_S2 g w c0 r3 m4 t5 i x100 s ne x200 x202 o' false):=by
  subst eo'
  exact CodeOK.fin (g:=⟨(rng [(0,6),(19,2),(42,1),(45,20),(68,4),(75,15),(93,20)]),[0,1,2,3,4,5,6,7,8],[],[(14,0)]⟩) (o:=[bT,.x (intP x300),bF,bF,bF,bF,bT,bT,bT,bF,bT,bF,bF,bF,bF,bF,bF]) (l:=[_,_,_,_,_,_,_,_,_,_,_,_,_,_,_,_,_,_,_]) (by kernel_rfl) (gc h5 (gc h2 (gc (q_ne h4) (gc h2 (gc (q_ne h4) (gc (q_ne h4) (gc h2 (gc (q_neT h3) (gc h2 (gc (q_neT h3) (gc (q_neT h3) (gc (q_neT h3) (gc h2 (gc h2 (gc h2 (gc h2 (gc (atm intP h1) (gc (ixn intP h1) (gc (q_lt h0) gn)))))))))))))))))))
theorem nmd_L2_p3{g:List Int}{w:Int}{c0:Cup}{r3:List Int}{m4 t5:Int}{i:Nat}{x100:List Int}{s:Nat}{ne:List (List Int)}{x200 x202:Int}{o:Nat}{sj:Bool}{x300:Int}{o':Nat}(h0:(o:Int)<(x100.length:Int))(h1:x100[o]? = some x300)(h2:sj=false)(h3:(o:Int)=(s:Int))(h4:inR (((o+1):Nat):Int))(eo':o'=(o+1)):CodeOK Tryz.prog 0 zU31c0 (nmd_S2 g w c0 r3 m4 t5 i x100 s ne x200 x202 o sj) .normal (nmd_S2 g w c0 r3 m4 t5 i x100 s ne x200 x202 o' false):=by
  subst eo'
  exact CodeOK.fin (g:=⟨(rng [(0,6),(19,2),(42,1),(45,20),(68,4),(75,15),(93,20)]),[0,1,2,3,4,5,6,7,8],[],[(14,0)]⟩) (o:=[bT,.x (intP x300),bF,bF,bF,bF,bF,bF,bF,bF,bF,bF,bF,bF]) (l:=[_,_,_,_,_,_,_,_,_,_,_,_,_,_,_,_]) (by kernel_rfl) (gc h4 (gc h2 (gc h2 (gc h2 (gc (q_neF h3) (gc h2 (gc (q_neF h3) (gc (q_neF h3) (gc (q_neF h3) (gc h2 (gc h2 (gc h2 (gc h2 (gc (atm intP h1) (gc (ixn intP h1) (gc (q_lt h0) gn))))))))))))))))
theorem nmd_L2_p4{g:List Int}{w:Int}{c0:Cup}{r3:List Int}{m4 t5:Int}{i:Nat}{x100:List Int}{s:Nat}{ne:List (List Int)}{x200 x202:Int}{o:Nat}{sj:Bool}(h0:(x100.length:Int)≤(o:Int)):CodeOK Tryz.prog 0 zU31c0 (nmd_S2 g w c0 r3 m4 t5 i x100 s ne x200 x202 o sj) (.exit 4) (nmd_S2 g w c0 r3 m4 t5 i x100 s ne x200 x202 o sj):=by
  exact CodeOK.fin (g:=⟨(rng [(0,6),(19,2),(42,1),(45,20),(68,4),(75,15),(93,20)]),[0,1,2,3,4,5,6,7,8],[],[]⟩) (o:=[bF]) (l:=[_]) (by kernel_rfl) (gc (q_ltF h0) gn)
def preL{α:Type}(A B:List α)(u:Nat):List α:=A.take u++B.drop u
section
variable {α:Type} {A B:List α} {u:Nat}
theorem pre_zero:preL A B 0=B:=rfl
theorem pre_all(hl:A.length=B.length):preL A B B.length=A:=by
  unfold preL
  rw [List.drop_length,← hl,List.take_length,List.append_nil]
theorem pre_len(hl:A.length=B.length)(u:Nat):(preL A B u).length=B.length:=by
  unfold preL
  rw [List.length_append,List.length_take,List.length_drop];omega
theorem pre_get(hl:A.length=B.length)(hu:u<B.length):(preL A B u)[u]? = B[u]? := by
  unfold preL
  have h1:(A.take u).length=u:=by rw [List.length_take];omega
  rw [List.getElem?_append_right (by omega),h1,Nat.sub_self,List.getElem?_drop];rfl
theorem pre_succ{a:α}(hl:A.length=B.length)(h:A[u]? = some a):preL A B (u+1)=(preL A B u).set u a:=by
  unfold preL
  have hu:=lt_of_at h
  have h1:(A.take u).length=u:=by rw [List.length_take];omega
  rw [List.set_append_right _ _ (by omega),h1,Nat.sub_self,List.drop_eq_getElem_cons (l:=B) (i:=u) (by omega),List.set_cons_zero,List.take_add_one,h,List.append_assoc];rfl
end
theorem any_succ(p:Nat→Bool)(n:Nat):(List.range (n+1)).any p=((List.range n).any p || p n):=by
  rw [List.range_succ,List.any_append];simp

abbrev nmF(to:List Int)(s:Nat):Nat:=(to.getD s 0).toNat
theorem shuf_names{n:Nat}{to:List Int}(h:to.Perm (upL n)):to.length=n∧Perm1 n (nmF to)∧∀ s,s<n→to[s]? = some ((nmF to s:Nat):Int):=by
  have hl:to.length=n:=by rw [h.length_eq];unfold upL;simp
  have hm:∀ x∈to,0≤x∧x.toNat<n:=fun x hx=>upL_mem (h.mem_iff.1 hx)
  have ha:∀ s,s<n→to.getD s 0∈to∧to[s]? = some (to.getD s 0):=fun s hs=>by
    rw [List.getD_eq_getElem?_getD,List.getElem?_eq_getElem (by omega)]
    exact ⟨List.getElem_mem _,rfl⟩
  refine ⟨hl,⟨fun s hs=>(hm _ (ha s hs).1).2,?_⟩,fun s hs => ?_⟩
  · have e1:(List.range n).map (nmF to)=to.map Int.toNat:=by
      have e2:(List.range n).map (nmF to)=((List.range to.length).map fun s=>to.getD s 0).map Int.toNat:=by rw [hl,List.map_map];rfl
      rw [e2,getD_range]
    rw [e1]
    refine (h.map Int.toNat).trans (List.Perm.of_eq ?_)
    unfold upL
    rw [List.map_map]
    exact (List.map_congr_left fun i _=>rfl).trans (List.map_id _)
  · obtain ⟨q1,q2⟩:=ha s hs
    rw [q2]
    have:=(hm _ q1).1
    congr 1
    show to.getD s 0=((to.getD s 0).toNat:Int)
    omega
def nmR(to r:List Int):Nat→List Int→List Int
  | 0,x=>x
  | k+1,x=>(nmR to r k x).set (nmF to k) (r.getD k 0)
theorem nmR_len(to r:List Int):∀ (k:Nat) (x:List Int),(nmR to r k x).length=x.length
  | 0,_=>rfl
  | k+1,x=>by rw [nmR,List.length_set,nmR_len to r k x]
theorem nmR_at{n:Nat}{to:List Int}(hp:Perm1 n (nmF to))(r x:List Int)(hx:x.length=n):∀ (k:Nat),k≤n→∀ s,s<k→(nmR to r k x).getD (nmF to s) 0=r.getD s 0
  | 0,_,s,h=>by omega
  | k+1,hk,s,h=>by
    have hlt:=hp.lt k (by omega)
    rw [nmR,getD_set _ (by rw [nmR_len];omega)]
    by_cases e:s=k
    · subst e;rw [if_pos rfl]
    · rw [if_neg fun q=>e (hp.inj (by omega) (by omega) q)]
      exact nmR_at hp r x hx k (by omega) s (by omega)
abbrev nmA(to:List Int)(d:List (List Int)):List (List Int):=d.map fun r=>nmR to r r.length r
theorem fa_of{α β:Type}{R:α→β→Prop}{g:α→β}:∀ {l:List α},(∀ x∈l,R x (g x))→FA R l (l.map g)
  | [],_ => .nil
  | x::l,h => .cons (h x (List.mem_cons_self ..)) (fa_of fun y hy=>h y (List.mem_cons_of_mem _ hy))
theorem nm_cup{c:Cup}(hV:KL.Valid c){to:List Int}(hp:Perm1 c.sk.toNat (nmF to)):NmC c.sk.toNat (nmF to) c (doneC c (nmA to c.done)) :=
  ⟨rfl,rfl,rfl,rfl,rfl,fa_of fun r hr=>by
    have h1:=hV.len r hr
    have h2:=hV.sk1
    have hl:r.length=c.sk.toNat:=by omega
    exact ⟨hl,by rw [nmR_len];exact hl,fun s hs=>nmR_at hp r r hl _ (by omega) s (by omega)⟩⟩

def shO(r:List Int)(s n:Nat):Bool:=(List.range n).any fun o=>decide (o≠s) && decide (r.getD s 0=r.getD o 0) && decide (0<r.getD s 0)
def shS(r:List Int)(n:Nat):Bool:=(List.range n).any fun s=>shO r s r.length
def shD(d:List (List Int))(n:Nat):Bool:=(List.range n).any fun i=>shS (d.getD i []) (d.getD i []).length
theorem count_one{p:Int}:∀ {r:List Int},(r.Pairwise fun a b=>a=p→b≠p)→r.count p≤1
  | [],_=>by simp
  | x::r,h=>by
    obtain ⟨h1,h2⟩:=List.pairwise_cons.1 h
    by_cases e:x=p
    · have:r.count p=0:=List.count_eq_zero.2 fun hm=>h1 p hm e rfl
      rw [List.count_cons,this];simp;split <;> omega
    · rw [List.count_cons_of_ne e];exact count_one h2
theorem sh_none{d:List (List Int)}(h0:∀ r∈d,∀ x∈r,0≤x)(h:shD d d.length=false):∀ r∈d,NSh r:=fun r hr p hp=>by
  obtain ⟨i,hi,rfl⟩:=List.getElem_of_mem hr
  have e:d.getD i []=d[i]:=by rw [List.getD_eq_getElem?_getD,List.getElem?_eq_getElem hi];rfl
  have g:∀ j (hj:j<d[i].length),d[i].getD j 0=d[i][j]:=fun j hj=>by rw [List.getD_eq_getElem?_getD,List.getElem?_eq_getElem hj];rfl
  refine count_one ((List.pairwise_iff_getElem (R:=fun a b=>a=p→b≠p)).2 fun a b ha hb hab ea eb => ?_)
  have h1:=List.any_eq_false.1 h i (List.mem_range.2 hi)
  rw [e] at h1
  have h2:shS d[i] d[i].length=false:=by simpa using h1
  have h3:=List.any_eq_false.1 h2 a (List.mem_range.2 ha)
  have h4:shO d[i] a d[i].length=false:=by simpa using h3
  have h5:=List.any_eq_false.1 h4 b (List.mem_range.2 hb)
  rw [g a ha,g b hb,ea,eb] at h5
  have h6:=h0 _ hr _ (List.getElem_mem ha)
  rw [ea] at h6
  simp at h5
  have:=h5 (by omega)
  omega

section
variable {g:List Int} {w:Int} {c:Cup} {to:List Int} {m t:Int}
theorem nmd_sh{i:Nat}{x:List Int}{s:Nat}{ne:List (List Int)}{x2:Int}{si:Bool}(hx:x.length≤12):LoopOK Tryz.prog 0 zU31c0 (nmd_S2 g w c to m t i x s ne (x.getD s 0) x2 0 si) (.exit 4) (nmd_S2 g w c to m t i x s ne (x.getD s 0) x2 x.length (si || shO x s x.length)):=by
  have h:=LoopOK.count (P:=Tryz.prog) (k:=0) (b:=zU31c0) (e := .exit 4) (R:=nmd_S2 g w c to m t i x s ne (x.getD s 0) x2 x.length (si || shO x s x.length)) x.length (fun o=>nmd_S2 g w c to m t i x s ne (x.getD s 0) x2 o (si || shO x s o))
    (fun o ho=>by
      have h1:x[o]? = some (x.getD o 0):=by rw [List.getD_eq_getElem?_getD,List.getElem?_eq_getElem ho];rfl
      have e:(si || shO x s (o+1))=((si || shO x s o) || (decide (o≠s) && decide (x.getD s 0=x.getD o 0) && decide (0<x.getD s 0))):=by
        unfold shO
        rw [any_succ,Bool.or_assoc]
      show CodeOK Tryz.prog 0 zU31c0 (nmd_S2 g w c to m t i x s ne (x.getD s 0) x2 o (si || shO x s o)) .normal (nmd_S2 g w c to m t i x s ne (x.getD s 0) x2 (o+1) (si || shO x s (o+1)))
      rw [e]
      cases hb:si || shO x s o with
      | true =>
        rw [Bool.true_or]
        exact nmd_L2_p0 (Int.ofNat_lt.2 ho) h1 rfl (inR_nat (by omega)) rfl
      | false =>
        rw [Bool.false_or]
        by_cases e1:o=s
        · rw [decide_eq_false (fun q:o≠s=>q e1),Bool.false_and,Bool.false_and]
          exact nmd_L2_p3 (Int.ofNat_lt.2 ho) h1 rfl (by omega) (inR_nat (by omega)) rfl
        · rw [decide_eq_true (show o≠s from e1),Bool.true_and]
          by_cases e2:x.getD s 0=x.getD o 0
          · rw [decide_eq_true e2,Bool.true_and]
            exact nmd_L2_p1 (Int.ofNat_lt.2 ho) h1 rfl (by omega) e2 (inR_nat (by omega)) rfl rfl
          · rw [decide_eq_false e2,Bool.false_and]
            exact nmd_L2_p2 (Int.ofNat_lt.2 ho) h1 rfl (by omega) e2 (inR_nat (by omega)) rfl)
    (nmd_L2_p4 (Int.le_refl _)) (by simp)
  have e0:(si || shO x s 0)=si:=by unfold shO;simp
  simp only [e0] at h
  exact h
theorem nmd_row(hp:Perm1 c.sk.toNat (nmF to))(ht:∀ s,s<c.sk.toNat→to[s]? = some ((nmF to s:Nat):Int))(hV:KL.Valid c){i:Nat}{x:List Int}{D:List (List Int)}(hx:D[i]? = some x)(hl:x.length=c.sk.toNat){si:Bool} :
    LoopOK Tryz.prog 0 zU31c2 (nmd_S1 g w c to m t i x 0 (pkL D) si) (.exit 2) (nmd_S1 g w c to m t i x x.length (pkL (D.set i (nmR to x x.length x))) (si || shS x x.length)):=by
  have s2:=hV.sk2
  have hi:=lt_of_at hx
  have h:=LoopOK.count (P:=Tryz.prog) (k:=0) (b:=zU31c2) (e := .exit 2) (R:=nmd_S1 g w c to m t i x x.length (pkL (D.set i (nmR to x x.length x))) (si || shS x x.length)) x.length (fun s=>nmd_S1 g w c to m t i x s (pkL (D.set i (nmR to x s x))) (si || shS x s))
    (fun s hs=>by
      have h1:x[s]? = some (x.getD s 0):=by rw [List.getD_eq_getElem?_getD,List.getElem?_eq_getElem hs];rfl
      have h2:(D.set i (nmR to x s x))[i]? = some (nmR to x s x):=List.getElem?_set_self hi
      have hf:=hp.lt s (by omega)
      have h4:(nmR to x s x)[(((nmF to s:Nat):Int)).toNat]? = some ((nmR to x s x).getD (nmF to s) 0):=by
        rw [Int.toNat_natCast,List.getD_eq_getElem?_getD,List.getElem?_eq_getElem (by rw [nmR_len];omega)];rfl
      have e:(si || shS x (s+1))=((si || shS x s) || shO x s x.length):=by
        unfold shS
        rw [any_succ,Bool.or_assoc]
      show CodeOK Tryz.prog 0 zU31c2 (nmd_S1 g w c to m t i x s (pkL (D.set i (nmR to x s x))) (si || shS x s)) .normal (nmd_S1 g w c to m t i x (s+1) (pkL (D.set i (nmR to x (s+1) x))) (si || shS x (s+1)))
      rw [e]
      refine nmd_L1_p0 (Int.ofNat_lt.2 hs) h1 h2 (ht s (by omega)) h4 (by omega) (nmd_sh (by omega)) (inR_nat (by omega)) rfl ?_
      rw [setL_pk h2,List.set_set,Int.toNat_natCast];rfl)
    (nmd_L1_p1 (Int.le_refl _)) (by simp)
  have e0:(si || shS x 0)=si:=by unfold shS;simp
  have e1:D.set i (nmR to x 0 x)=D:=by
    have e3:x=D[i]:=Option.some.inj (hx.symm.trans (List.getElem?_eq_getElem hi))
    rw [nmR,e3];exact List.set_getElem_self hi
  simp only [e0,e1] at h
  exact h
theorem nmd_all(hp:Perm1 c.sk.toNat (nmF to))(ht:∀ s,s<c.sk.toNat→to[s]? = some ((nmF to s:Nat):Int))(hV:KL.Valid c):LoopOK Tryz.prog 0 zU31c1 (nmd_S0 g w c to m t 0 (pkL c.done) false) (.exit 0) (nmd_S0 g w c to m t c.done.length (pkL (nmA to c.done)) (shD c.done c.done.length)):=by
  have r2:=hV.ra2
  have d1:=hV.dn
  have s1:=hV.sk1
  have hl:(nmA to c.done).length=c.done.length:=List.length_map ..
  have h:=LoopOK.count (P:=Tryz.prog) (k:=0) (b:=zU31c1) (e := .exit 0) (R:=nmd_S0 g w c to m t c.done.length (pkL (nmA to c.done)) (shD c.done c.done.length)) c.done.length (fun i=>nmd_S0 g w c to m t i (pkL (preL (nmA to c.done) c.done i)) (shD c.done i))
    (fun i hi=>by
      have h1:c.done[i]? = some c.done[i]:=List.getElem?_eq_getElem hi
      have hx:(preL (nmA to c.done) c.done i)[i]? = some c.done[i]:=(pre_get hl hi).trans h1
      have hlen:=hV.len _ (List.getElem_mem hi)
      have e:shD c.done (i+1)=(shD c.done i || shS c.done[i] c.done[i].length):=by
        unfold shD
        rw [any_succ,List.getD_eq_getElem?_getD,h1];rfl
      show CodeOK Tryz.prog 0 zU31c1 (nmd_S0 g w c to m t i (pkL (preL (nmA to c.done) c.done i)) (shD c.done i)) .normal (nmd_S0 g w c to m t (i+1) (pkL (preL (nmA to c.done) c.done (i+1))) (shD c.done (i+1)))
      rw [e]
      refine nmd_L0_p0 (nd':=preL (nmA to c.done) c.done (i+1)) (Int.ofNat_lt.2 hi) h1 (nmd_row hp ht hV hx (by omega)) (inR_nat (by omega)) rfl ?_
      rw [pre_succ hl (show (nmA to c.done)[i]? = some (nmR to c.done[i] c.done[i].length c.done[i]) by rw [List.getElem?_map,h1];rfl)])
    (by rw [pre_all hl];exact nmd_L0_p1 (Int.le_refl _)) (by simp)
  have e0:shD c.done 0=false:=by unfold shD;simp
  simp only [e0,pre_zero] at h
  exact h
theorem nmd_mix{nd:List (List Int)}{sh:Bool}{u9:List Int}(hV:KL.Valid c)(h9:u9.Perm (upL c.done.length)):LoopOK Tryz.prog 0 zU31c3 (nmd_S3 w c to nd sh u9 0 c.done.length (c.done.map intsP)) (.exit 6) (nmd_S3 w c to nd sh u9 u9.length (u9.map fun x=>c.done.getD x.toNat []).length ((u9.map fun x=>c.done.getD x.toNat []).map intsP)):=by
  have r2:=hV.ra2
  have d1:=hV.dn
  have s2:=hV.sk2
  have h9l:u9.length=c.done.length:=by rw [h9.length_eq];unfold upL;simp
  obtain ⟨A,hA⟩:∃ A,A=u9.map fun x=>c.done.getD x.toNat []:=⟨_,rfl⟩
  rw [← hA]
  have hl:A.length=c.done.length:=by rw [hA,List.length_map];exact h9l
  have h:=LoopOK.count (P:=Tryz.prog) (k:=0) (b:=zU31c3) (e := .exit 6) (R:=nmd_S3 w c to nd sh u9 u9.length A.length (A.map intsP)) u9.length (fun u=>nmd_S3 w c to nd sh u9 u (preL A c.done u).length ((preL A c.done u).map intsP))
    (fun u hu=>by
      have h1:u9[u]? = some u9[u]:=List.getElem?_eq_getElem hu
      obtain ⟨b1,b2⟩:=upL_mem (h9.mem_iff.1 (List.getElem_mem hu))
      have h2:c.done[u9[u].toNat]? = some c.done[u9[u].toNat]:=List.getElem?_eq_getElem b2
      have hlen:=hV.len _ (List.getElem_mem b2)
      have hAu:A[u]? = some c.done[u9[u].toNat]:=by rw [hA,List.getElem?_map,h1];show some (c.done.getD _ [])=_;rw [List.getD_eq_getElem?_getD,h2];rfl
      have hg:(preL A c.done u)[u]? = some c.done[u]:=(pre_get hl (by omega)).trans (List.getElem?_eq_getElem (by omega))
      refine nmd_L3_p0 (md':=preL A c.done (u+1)) (Int.ofNat_lt.2 hu) h1 h2 b1 (by omega) hg (by rw [List.length_map,pre_len hl];omega) (inR_nat (by omega)) rfl (by rw [pre_len hl,pre_len hl]) ?_
      rw [pre_succ hl hAu,List.map_set,Nat.mul_one])
    (by rw [h9l,pre_all hl,← h9l];exact nmd_L3_p1 (Int.le_refl _)) (by simp)
  exact h
theorem nmd_gr{nd md:List (List Int)}{sh:Bool}(hV:KL.Valid c)(h40:∀ x∈c.pts,x≤40)(hw:0≤w.tmod 20∧w.tmod 20<20):LoopOK Tryz.prog 0 zU31c4 (nmd_S4 w c to nd sh md 0 c.pts.length (c.pts.map intP)) (.exit 8) (nmd_S4 w c to nd sh md c.pts.length (c.pts.map ((1+w.tmod 20) * ·)).length ((c.pts.map ((1+w.tmod 20) * ·)).map intP)):=by
  have p2:=hV.pt2
  obtain ⟨A,hA⟩:∃ A,A=c.pts.map ((1+w.tmod 20) * ·):=⟨_,rfl⟩
  rw [← hA]
  have hl:A.length=c.pts.length:=by rw [hA,List.length_map]
  have h:=LoopOK.count (P:=Tryz.prog) (k:=0) (b:=zU31c4) (e := .exit 8) (R:=nmd_S4 w c to nd sh md c.pts.length A.length (A.map intP)) c.pts.length (fun v=>nmd_S4 w c to nd sh md v (preL A c.pts v).length ((preL A c.pts v).map intP))
    (fun v hv=>by
      have h1:c.pts[v]? = some c.pts[v]:=List.getElem?_eq_getElem hv
      have hb:=hV.pts _ (List.getElem_mem hv)
      have hb2:=h40 _ (List.getElem_mem hv)
      have hg:(preL A c.pts v)[v]? = some c.pts[v]:=(pre_get hl hv).trans h1
      have hAv:A[v]? = some (c.pts[v]*(1+w.tmod 20)):=by rw [hA,List.getElem?_map,h1,Int.mul_comm];rfl
      have q1:0≤c.pts[v]*(1+w.tmod 20):=Int.mul_nonneg hb.1 (by omega)
      have q2:c.pts[v]*(1+w.tmod 20)≤40*20:=Int.mul_le_mul hb2 (by omega) (by omega) (by omega)
      refine nmd_L4_p0 (gp':=preL A c.pts (v+1)) (Int.ofNat_lt.2 hv) hg (by unfold inR;omega) (by rw [List.length_map,pre_len hl];omega) (inR_nat (by omega)) rfl (by rw [pre_len hl,pre_len hl]) ?_
      rw [pre_succ hl hAv,List.map_set,Nat.mul_one])
    (by rw [pre_all hl];exact nmd_L4_p1 (Int.le_refl _)) (by simp)
  exact h
theorem great_valid{k:Int}(hV:KL.Valid c)(h40:∀ x∈c.pts,x≤40)(hk:1≤k∧k≤20):KL.Valid (greatC c k):=by
  have h0:∀ x∈c.pts,0≤x:=fun x hx=>(hV.pts x hx).1
  refine ⟨hV.sk1,hV.sk2,hV.ra1,hV.ra2,hV.be1,hV.be2,by show 1≤(c.pts.map (k * ·)).length;rw [List.length_map];exact hV.pt1,by show (c.pts.map (k * ·)).length≤60;rw [List.length_map];exact hV.pt2,hV.dn,hV.len,fun x hx => ?_,hV.rows,?_,hV.clash⟩
  · obtain ⟨y,hy,rfl⟩:=List.mem_map.1 hx
    have q1:0≤k*y:=Int.mul_nonneg (by omega) (h0 y hy)
    have q2:k*y≤20*40:=Int.mul_le_mul hk.2 (h40 y hy) (h0 y hy) (by omega)
    omega
  · refine falls_of ?_
    rw [List.pairwise_map]
    refine List.pairwise_iff_getElem.2 fun i j hi hj hij => ?_
    have h1:=KL.falls_le hV.falls h0 (j-i) i
    rw [show i+(j-i)=j by omega,List.getD_eq_getElem?_getD,List.getD_eq_getElem?_getD,List.getElem?_eq_getElem hi,List.getElem?_eq_getElem hj] at h1
    exact Int.mul_le_mul_of_nonneg_left h1 (by omega)
theorem who_count(p:Nat→Bool)(n:Nat):(whoM p n).length=(List.range n).countP p:=by
  unfold whoM
  rw [List.length_map,List.countP_eq_length_filter]
theorem who_names{n:Nat}{f:Nat→Nat}(hp:Perm1 n f){p q:Nat→Bool}(h:∀ s,s<n→q (f s)=p s):(whoM q n).length=(whoM p n).length:=by
  rw [who_count,who_count,← hp.perm.countP_eq,List.countP_map]
  exact List.countP_congr fun x hx=>by rw [Function.comp,h x (List.mem_range.1 hx)]
theorem nmd_lines{sh:Bool}{gp:List Int}{D:List (List Int)}(hV:KL.Valid c)(hp:Perm1 c.sk.toNat (nmF to))(ht:∀ s,s<c.sk.toNat→to[s]? = some ((nmF to s:Nat):Int))(hN:NmC c.sk.toNat (nmF to) c (doneC c D)):LoopOK Tryz.prog 0 zU31c6 (nmd_S5 w c to sh gp D 0) (.exit 10) (nmd_S5 w c to sh gp D (tableM c).length):=by
  have s1:=hV.sk1
  have s2:=hV.sk2
  have hl:=table_len c
  have hl2:=table_len (doneC c D)
  exact LoopOK.count (P:=Tryz.prog) (k:=0) (b:=zU31c6) (e := .exit 10) (R:=nmd_S5 w c to sh gp D (tableM c).length) (tableM c).length (fun x=>nmd_S5 w c to sh gp D x)
    (fun x hx=>by
      obtain ⟨k,hk,hr⟩:=table_row c hx
      refine nmd_L5_p2 (Int.ofNat_lt.2 hx) hr (tableM_uni c) (by omega) (by omega) (show to[((k:Nat):Int).toNat]? = _ by rw [Int.toNat_natCast];exact ht k hk) (by omega) (by show (tableM (doneC c D)).length<1000000;rw [hl2];show c.sk.toNat<1000000;omega) (tableM_uni (doneC c D)) ?_ (inR_nat (by omega)) rfl
      rw [List.any_eq_true]
      exact ⟨_,hN.table hp hk,decide_eq_true (hN.row hp hk).symm⟩)
    (nmd_L5_p3 (Int.le_refl _)) (by simp)
theorem nmd_last{D:List (List Int)}(hV:KL.Valid c)(h40:∀ x∈c.pts,x≤40)(hw:0≤w.tmod 20∧w.tmod 20<20)(hp:Perm1 c.sk.toNat (nmF to))(ht:∀ s,s<c.sk.toNat→to[s]? = some ((nmF to s:Nat):Int))(hN:NmC c.sk.toNat (nmF to) c (doneC c D)) :
    LoopOK Tryz.prog 0 zU31c5 (nmd_S6 w c to (shD c.done c.done.length) (c.pts.map ((1+w.tmod 20) * ·)) D 0) (.exit 12) (nmd_S6 w c to (shD c.done c.done.length) (c.pts.map ((1+w.tmod 20) * ·)) D c.sk.toNat):=by
  have s1:=hV.sk1
  have s2:=hV.sk2
  have sm:∀ p:Nat→Bool,small (whoM p c.sk.toNat).length:=fun p=>by
    have:=who_sm p (n:=c.sk.toNat) (by omega)
    show _<1000000
    omega
  exact LoopOK.count (P:=Tryz.prog) (k:=0) (b:=zU31c5) (e := .exit 12) (R:=nmd_S6 w c to (shD c.done c.done.length) (c.pts.map ((1+w.tmod 20) * ·)) D c.sk.toNat) c.sk.toNat (fun z=>nmd_S6 w c to (shD c.done c.done.length) (c.pts.map ((1+w.tmod 20) * ·)) D z)
    (fun z hz=>by
      have hz':(z:Int)<c.sk:=by omega
      have hf:=hp.lt z hz
      have a1:((((whoM (canM c) c.sk.toNat).any fun x=>decide ((z:Int)=x)) == ((whoM (canM (doneC c D)) c.sk.toNat).any fun x=>decide (((nmF to z:Nat):Int)=x)))=true):=by
        rw [who_mem hz,who_mem hf,hN.can hp hz];exact beq_self_eq_true _
      have a2:((((whoM (sureM c) c.sk.toNat).any fun x=>decide ((z:Int)=x)) == ((whoM (sureM (doneC c D)) c.sk.toNat).any fun x=>decide (((nmF to z:Nat):Int)=x)))=true):=by
        rw [who_mem hz,who_mem hf,hN.sure hp hz];exact beq_self_eq_true _
      cases hs:shD c.done c.done.length with
      | true=>exact nmd_L6_p1 hz' (sm _) (ht z hz) (sm _) a1 (sm _) (sm _) a2 rfl (inR_nat (by omega)) rfl
      | false =>
        have hns:=sh_none (fun r hr x hx=>(hV.rows r hr x hx).1) hs
        have hgt:totalM (greatC c (1+w.tmod 20)) z=(1+w.tmod 20)*totalM c z:=great_total (by omega) hV hz' hns
        have hb:=totalM_bd hV z
        have q1:0≤(1+w.tmod 20)*totalM c z:=Int.mul_nonneg (by omega) hb.1
        have q2:(1+w.tmod 20)*totalM c z≤20*100000:=Int.mul_le_mul (by omega) (by omega) hb.1 (by omega)
        exact nmd_L6_p0 hz' (sm _) (ht z hz) (sm _) a1 (sm _) (sm _) a2 rfl (totals_at (c:=greatC c (1+w.tmod 20)) hz') (totals_at hz') (by unfold inR;omega) hgt (inR_nat (by omega)) rfl)
    (nmd_L6_p2 (by omega)) (by simp)
end
theorem named_law(l g:List Int)(w:Int)(hw:0≤w∧w≤255)(hA:∀ base:Nat,FV Tryz.prog 19 [] base (.p (blP true)) []){base:Nat}:FV Tryz.prog 7 [.p (.sl l.length (l.map byteP)),.p (.sl g.length (g.map byteP)),.p (.v (.int .u8 w))] base (.p (blP true)) []:=by
  have hsp:=madeM_spec 7 8 l 0 17 (by omega) (by omega) (by omega)
  obtain ⟨⟨c,m,t⟩,e⟩:∃ q,q=madeM 7 8 l 0 17:=⟨_,rfl⟩
  rw [← e] at hsp
  obtain ⟨_,hV,_,_,_,_,h40,_⟩:=hsp
  dsimp only at hV h40
  have s1:=hV.sk1
  have s2:=hV.sk2
  have r2:=hV.ra2
  have d1:=hV.dn
  have hk:0≤w.tmod 20∧w.tmod 20<20:=⟨Int.tmod_nonneg _ hw.1,Int.tmod_lt_of_pos _ (by omega)⟩
  have iw:inR w:=by unfold inR;omega
  obtain ⟨pa,pb,pc⟩:=shufM_perm c.sk g 0 17
  obtain ⟨⟨to,m4,t5⟩,e4⟩:∃ q,q=shufM c.sk g 0 17:=⟨_,rfl⟩
  rw [← e4] at pa pb pc
  dsimp only at pa pb pc
  obtain ⟨hl,hp,ht⟩:=shuf_names pa
  obtain ⟨pd,pe,pf⟩:=shufM_perm (c.done.length:Int) g m4 t5
  obtain ⟨⟨u9,m10,t11⟩,e9⟩:∃ q,q=shufM (c.done.length:Int) g m4 t5:=⟨_,rfl⟩
  rw [← e9] at pd
  dsimp only at pd
  rw [Int.toNat_natCast] at pd
  have hN:=nm_cup hV hp
  have hVn:=hN.valid hp hV
  have hM:c.done.Perm (u9.map fun x=>c.done.getD x.toNat []):=by
    refine ((pd.map fun x=>c.done.getD x.toNat []).trans (List.Perm.of_eq ?_)).symm
    unfold upL
    rw [List.map_map]
    refine List.ext_getElem (by simp) fun i h1 h2 => ?_
    simp only [List.getElem_map,List.getElem_range,Function.comp,Int.toNat_natCast]
    rw [List.getD_eq_getElem?_getD,List.getElem?_eq_getElem h2];rfl
  have hVm:=valid_mixed hM hV
  have hVg:=great_valid (k:=1+w.tmod 20) hV h40 (by omega)
  have tl:=table_len c
  have tl2:(tableM (doneC c (nmA to c.done))).length=c.sk.toNat:=table_len _
  have wl1:(whoM (canM (doneC c (nmA to c.done))) c.sk.toNat).length=(whoM (canM c) c.sk.toNat).length:=who_names hp fun s hs=>hN.can hp hs
  have wl2:(whoM (sureM (doneC c (nmA to c.done))) c.sk.toNat).length=(whoM (sureM c) c.sk.toNat).length:=who_names hp fun s hs=>hN.sure hp hs
  have n1:=totalsM_len c
  have n2:(totalsM (greatC c (1+w.tmod 20))).length=c.sk.toNat:=totalsM_len _
  exact nmd_p0 (by omega) (by omega) (by omega) e.symm iw (by unfold inR;omega) (by omega) (by omega) e4.symm hV (nmd_all hp ht hV) (by omega) (by omega) e9.symm (nmd_mix hV pd) (nmd_gr hV h40 hk) (l16:=nmA to c.done) slL_pk hVn hVm hVg rfl
    (by omega) (by show ((tableM (doneC c (nmA to c.done))).length:Int)=c.sk;omega) (by show ((whoM (canM c) c.sk.toNat).length:Int)=((whoM (canM (doneC c (nmA to c.done))) c.sk.toNat).length:Int);rw [wl1]) (by show ((whoM (sureM c) c.sk.toNat).length:Int)=((whoM (sureM (doneC c (nmA to c.done))) c.sk.toNat).length:Int);rw [wl2]) (by omega) (by show ((totalsM (greatC c (1+w.tmod 20))).length:Int)=c.sk;omega)
    (by omega) (tableM_uni c) (tableM_uni _) (decide_eq_true (table_mixed hM).symm) (nmd_lines hV hp ht hN) (nmd_last hV h40 hk hp ht hN) hA
end
end KV
end Go.Proofs
