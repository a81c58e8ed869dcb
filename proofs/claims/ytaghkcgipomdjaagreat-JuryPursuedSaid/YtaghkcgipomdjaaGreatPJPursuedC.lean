/- Parts of the proof of JPursued: laws of walks, contracts of functions, plain models. No condition. -/
import Derived.Shelf.SlSortCmp.WholeK
import Derived.Shelf.SlicesG.Cmp
import Derived.Ground.SlsfProg
import Derived.Ground.SlgcProg
import Derived.Ground.NamesProg
import Derived.Test.YtaghkcgipomdjaaGreatProg
import Derived.Shelf.SlSortCmp.NoneTotal
import Derived.Lib.OwnBridge
import Derived.Shelf.Slices.Clone
import Derived.Maps.Keyed
import Derived.Maps.AppendAt
import Derived.OrdersHeld
import Derived.Great.BuildSlice
import Derived.Lib.Small
import Derived.Below
import Derived.RangeFuncNested
import Derived.RangeFuncLeaves
import Derived.Shelf.Abstract
import Derived.OwnWalkIn
import Derived.TacticsInMore
import Derived.LoopNIn
import Derived.LoopIn
import Derived.OrdersIn
import Derived.Deep.WholeRow
import Derived.Test.YtaghkcgipomdjaaGreatPJPursuedB
set_option linter.unusedVariables false
set_option linter.unusedSimpArgs false
set_option maxRecDepth 100000
section
namespace Go.Proofs
open Go.Shelf
def Tryz.sortSk_ren:Go.Shelf.Ren:=⟨fun | 6=>153 | 15=>195 | 14=>207 | 28=>231 | 29=>232 | 20=>239 | 21=>240 | 22=>241 | 23=>242 | 24=>243 | 25=>244 | 26=>245 | 27=>246 | 46=>278 | 47=>271 | 48=>272 | 49=>279 | 50=>280 | 57=>292 | n=>n,fun | 22=>23 | 24=>80 | 25=>225 | 3=>3 | 39=>266 | 0=>0 | 53=>94 | 55=>288 | 4=>4 | 46=>281 | 45=>280 | 50=>179 | 5=>5 | 9=>9 | 66=>307 | 70=>311 | 76=>322 | 77=>236 | n=>n,fun | n=>n⟩
theorem Tryz.sortSk:Go.Proofs.SlLaysF0.n6 Tryz.prog Tryz.sortSk_ren:={
 mixed:=by kernel_rfl
 f6:=⟨Tryz.f153.name,by decide,func153.trans (congrArg some (by kernel_rfl))⟩
 f14:=⟨Tryz.f207.name,by decide,func207.trans (congrArg some (by kernel_rfl))⟩
 f15:=func195.trans (congrArg some (by kernel_rfl))
 f20:=⟨Tryz.f239.name,by decide,func239.trans (congrArg some (by kernel_rfl))⟩
 f21:=⟨Tryz.f240.name,by decide,func240.trans (congrArg some (by kernel_rfl))⟩
 f22:=⟨Tryz.f241.name,by decide,func241.trans (congrArg some (by kernel_rfl))⟩
 f23:=⟨Tryz.f242.name,by decide,func242.trans (congrArg some (by kernel_rfl))⟩
 f24:=⟨Tryz.f243.name,by decide,func243.trans (congrArg some (by kernel_rfl))⟩
 f25:=⟨Tryz.f244.name,by decide,func244.trans (congrArg some (by kernel_rfl))⟩
 f26:=⟨Tryz.f245.name,by decide,func245.trans (congrArg some (by kernel_rfl))⟩
 f27:=⟨Tryz.f246.name,by decide,func246.trans (congrArg some (by kernel_rfl))⟩
 f28:=func231.trans (congrArg some (by kernel_rfl))
 f29:=func232.trans (congrArg some (by kernel_rfl))
 f46:=⟨Tryz.f278.name,by decide,func278.trans (congrArg some (by kernel_rfl))⟩
 f47:=func271.trans (congrArg some (by kernel_rfl))
 f48:=func272.trans (congrArg some (by kernel_rfl))
 f49:=⟨Tryz.f279.name,by decide,func279.trans (congrArg some (by kernel_rfl))⟩
 f50:=⟨Tryz.f280.name,by decide,func280.trans (congrArg some (by kernel_rfl))⟩
 f57:=⟨Tryz.f292.name,by decide,func292.trans (congrArg some (by kernel_rfl))⟩
 t0:=Tryz.underlying0
 a0:=Tryz.isAgg0
 z0:=Tryz.sizeOf0
 v0:=Tryz.zeroValue0
 t3:=Tryz.underlying3
 a3:=Tryz.isAgg3
 z3:=Tryz.sizeOf3
 v3:=Tryz.zeroValue3
 t4:=Tryz.underlying4
 a4:=Tryz.isAgg4
 z4:=Tryz.sizeOf4
 v4:=Tryz.zeroValue4
 t5:=Tryz.underlying5
 a5:=Tryz.isAgg5
 z5:=Tryz.sizeOf5
 v5:=Tryz.zeroValue5
 t9:=Tryz.underlying9
 a9:=Tryz.isAgg9
 z9:=Tryz.sizeOf9
 v9:=Tryz.zeroValue9
 t22:=Tryz.underlying23
 a22:=Tryz.isAgg23
 z22:=Tryz.sizeOf23
 v22:=Tryz.zeroValue23
 t25:=Tryz.underlying225
 a25:=Tryz.isAgg225
 z25:=Tryz.sizeOf225
 v25:=Tryz.zeroValue225
 t39:=Tryz.underlying266
 a39:=Tryz.isAgg266
 z39:=Tryz.sizeOf266
 v39:=Tryz.zeroValue266
 t45:=Tryz.underlying280
 a45:=Tryz.isAgg280
 z45:=Tryz.sizeOf280
 v45:=Tryz.zeroValue280
 t46:=Tryz.underlying281
 a46:=Tryz.isAgg281
 z46:=Tryz.sizeOf281
 v46:=Tryz.zeroValue281
 t50:=Tryz.underlying179
 a50:=Tryz.isAgg179
 z50:=Tryz.sizeOf179
 v50:=Tryz.zeroValue179
 t53:=Tryz.underlying94
 a53:=Tryz.isAgg94
 z53:=Tryz.sizeOf94
 v53:=Tryz.zeroValue94
 t55:=Tryz.underlying288
 a55:=Tryz.isAgg288
 z55:=Tryz.sizeOf288
 v55:=Tryz.zeroValue288
 t66:=Tryz.underlying307
 a66:=Tryz.isAgg307
 z66:=Tryz.sizeOf307
 v66:=Tryz.zeroValue307
 t70:=Tryz.underlying311
 a70:=Tryz.isAgg311
 z70:=Tryz.sizeOf311
 v70:=Tryz.zeroValue311
 t76:=Tryz.underlying322
 a76:=Tryz.isAgg322
 z76:=Tryz.sizeOf322
 v76:=Tryz.zeroValue322
 t77:=Tryz.underlying236
 a77:=Tryz.isAgg236
 z77:=Tryz.sizeOf236
 v77:=Tryz.zeroValue236 }
def Tryz.sortDc_ren:Go.Shelf.Ren:=⟨fun | 6=>155 | 15=>195 | 14=>208 | 28=>231 | 29=>232 | 20=>247 | 21=>248 | 22=>249 | 23=>250 | 24=>251 | 25=>252 | 26=>253 | 27=>254 | 46=>281 | 47=>271 | 48=>272 | 49=>282 | 50=>283 | 57=>293 | n=>n,fun | 22=>24 | 24=>84 | 25=>227 | 3=>3 | 39=>266 | 0=>0 | 53=>94 | 55=>288 | 4=>4 | 46=>281 | 45=>280 | 50=>179 | 5=>5 | 9=>9 | 66=>307 | 70=>311 | 76=>322 | 77=>236 | n=>n,fun | n=>n⟩
theorem Tryz.sortDc:Go.Proofs.SlLaysF0.n6 Tryz.prog Tryz.sortDc_ren:={
 mixed:=by kernel_rfl
 f6:=⟨Tryz.f155.name,by decide,func155.trans (congrArg some (by kernel_rfl))⟩
 f14:=⟨Tryz.f208.name,by decide,func208.trans (congrArg some (by kernel_rfl))⟩
 f15:=func195.trans (congrArg some (by kernel_rfl))
 f20:=⟨Tryz.f247.name,by decide,func247.trans (congrArg some (by kernel_rfl))⟩
 f21:=⟨Tryz.f248.name,by decide,func248.trans (congrArg some (by kernel_rfl))⟩
 f22:=⟨Tryz.f249.name,by decide,func249.trans (congrArg some (by kernel_rfl))⟩
 f23:=⟨Tryz.f250.name,by decide,func250.trans (congrArg some (by kernel_rfl))⟩
 f24:=⟨Tryz.f251.name,by decide,func251.trans (congrArg some (by kernel_rfl))⟩
 f25:=⟨Tryz.f252.name,by decide,func252.trans (congrArg some (by kernel_rfl))⟩
 f26:=⟨Tryz.f253.name,by decide,func253.trans (congrArg some (by kernel_rfl))⟩
 f27:=⟨Tryz.f254.name,by decide,func254.trans (congrArg some (by kernel_rfl))⟩
 f28:=func231.trans (congrArg some (by kernel_rfl))
 f29:=func232.trans (congrArg some (by kernel_rfl))
 f46:=⟨Tryz.f281.name,by decide,func281.trans (congrArg some (by kernel_rfl))⟩
 f47:=func271.trans (congrArg some (by kernel_rfl))
 f48:=func272.trans (congrArg some (by kernel_rfl))
 f49:=⟨Tryz.f282.name,by decide,func282.trans (congrArg some (by kernel_rfl))⟩
 f50:=⟨Tryz.f283.name,by decide,func283.trans (congrArg some (by kernel_rfl))⟩
 f57:=⟨Tryz.f293.name,by decide,func293.trans (congrArg some (by kernel_rfl))⟩
 t0:=Tryz.underlying0
 a0:=Tryz.isAgg0
 z0:=Tryz.sizeOf0
 v0:=Tryz.zeroValue0
 t3:=Tryz.underlying3
 a3:=Tryz.isAgg3
 z3:=Tryz.sizeOf3
 v3:=Tryz.zeroValue3
 t4:=Tryz.underlying4
 a4:=Tryz.isAgg4
 z4:=Tryz.sizeOf4
 v4:=Tryz.zeroValue4
 t5:=Tryz.underlying5
 a5:=Tryz.isAgg5
 z5:=Tryz.sizeOf5
 v5:=Tryz.zeroValue5
 t9:=Tryz.underlying9
 a9:=Tryz.isAgg9
 z9:=Tryz.sizeOf9
 v9:=Tryz.zeroValue9
 t22:=Tryz.underlying24
 a22:=Tryz.isAgg24
 z22:=Tryz.sizeOf24
 v22:=Tryz.zeroValue24
 t25:=Tryz.underlying227
 a25:=Tryz.isAgg227
 z25:=Tryz.sizeOf227
 v25:=Tryz.zeroValue227
 t39:=Tryz.underlying266
 a39:=Tryz.isAgg266
 z39:=Tryz.sizeOf266
 v39:=Tryz.zeroValue266
 t45:=Tryz.underlying280
 a45:=Tryz.isAgg280
 z45:=Tryz.sizeOf280
 v45:=Tryz.zeroValue280
 t46:=Tryz.underlying281
 a46:=Tryz.isAgg281
 z46:=Tryz.sizeOf281
 v46:=Tryz.zeroValue281
 t50:=Tryz.underlying179
 a50:=Tryz.isAgg179
 z50:=Tryz.sizeOf179
 v50:=Tryz.zeroValue179
 t53:=Tryz.underlying94
 a53:=Tryz.isAgg94
 z53:=Tryz.sizeOf94
 v53:=Tryz.zeroValue94
 t55:=Tryz.underlying288
 a55:=Tryz.isAgg288
 z55:=Tryz.sizeOf288
 v55:=Tryz.zeroValue288
 t66:=Tryz.underlying307
 a66:=Tryz.isAgg307
 z66:=Tryz.sizeOf307
 v66:=Tryz.zeroValue307
 t70:=Tryz.underlying311
 a70:=Tryz.isAgg311
 z70:=Tryz.sizeOf311
 v70:=Tryz.zeroValue311
 t76:=Tryz.underlying322
 a76:=Tryz.isAgg322
 z76:=Tryz.sizeOf322
 v76:=Tryz.zeroValue322
 t77:=Tryz.underlying236
 a77:=Tryz.isAgg236
 z77:=Tryz.sizeOf236
 v77:=Tryz.zeroValue236 }
def Tryz.cmpInt_ren:Go.Shelf.Ren:=⟨fun | 5=>62 | 7=>124 | n=>n,fun | 22=>3 | 3=>3 | 4=>4 | n=>n,fun | n=>n⟩
theorem Tryz.cmpInt:Go.Proofs.SlLaysC2.n5 Tryz.prog Tryz.cmpInt_ren:={
 mixed:=by kernel_rfl
 f5:=⟨Tryz.f62.name,by decide,func62.trans (congrArg some (by kernel_rfl))⟩
 f7:=⟨Tryz.f124.name,by decide,func124.trans (congrArg some (by kernel_rfl))⟩
 t3:=Tryz.underlying3
 a3:=Tryz.isAgg3
 z3:=Tryz.sizeOf3
 v3:=Tryz.zeroValue3
 t4:=Tryz.underlying4
 a4:=Tryz.isAgg4
 z4:=Tryz.sizeOf4
 v4:=Tryz.zeroValue4
 t22:=Tryz.underlying3
 a22:=Tryz.isAgg3
 z22:=Tryz.sizeOf3
 v22:=Tryz.zeroValue3 }
end Go.Proofs
end
section
namespace Go.Proofs
open Go.RowKit Go.Lib Go.Sort Go.Shelf
namespace KV
open Tryz

set_option maxHeartbeats 1000000 in
theorem bVn(a b c d:Int)(W:World):Calls Tp 154 #[.agg #[.int .i64 a,.int .i64 b],.agg #[.int .i64 c,.int .i64 d]] W fun e w'=>e = .returned (.int .i64 (Lib.compareInt a c))∧∃ q Py,w'=grow (W.drewN q) Py:=by
 have hcon:=fun W'=>AnyG.cmp_Compare_int Tryz.cmpInt a c W'
 change ∀ W',Calls Tp 62 _ _ _ at hcon
 generalize Lib.compareInt a c=r at hcon ⊢
 go_enter func154,Tryz.ntmps154
 go_wp2_with (go_at_call 62;refine (hcon _).mono ?_;rintro e w' ⟨rfl,rfl⟩)
 go_ret
 exact ⟨rfl,0,_,by rw [alloc_eq_grow,alloc_eq_grow,grow_grow];rfl⟩
set_option maxHeartbeats 1000000 in
theorem bVo(a b c d e f a' b' c' d' e' f':Int)(W:World):Calls Tp 156 #[.agg #[.int .i64 a,.int .i64 b,.int .i64 c,.int .i64 d,.int .i64 e,.int .i64 f],.agg #[.int .i64 a',.int .i64 b',.int .i64 c',.int .i64 d',.int .i64 e',.int .i64 f']] W fun z w'=>z = .returned (.int .i64 (Lib.compareInt a a'))∧∃ q Py,w'=grow (W.drewN q) Py:=by
 have hcon:=fun W'=>AnyG.cmp_Compare_int Tryz.cmpInt a a' W'
 change ∀ W',Calls Tp 62 _ _ _ at hcon
 generalize Lib.compareInt a a'=r at hcon ⊢
 go_enter func156,Tryz.ntmps156
 go_wp2_with (go_at_call 62;refine (hcon _).mono ?_;rintro e w' ⟨rfl,rfl⟩)
 go_ret
 exact ⟨rfl,0,_,by rw [alloc_eq_grow,alloc_eq_grow,grow_grow];rfl⟩

theorem vJ{C:Cx}{M:Mem}{w:World}{x:AV}{us:List Value}(h:cN C M w [x] us):∃ u,us=[u]∧Rep C M w x u:=by
 cases h with | cons _ u _ _ h hr=>cases hr;exact ⟨u,rfl,h⟩
theorem bEj{C:Cx}{M:Mem}{w:World}{x y:AV}{us:List Value}(h:cN C M w [x,y] us):∃ u v,us=[u,v]∧Rep C M w x u∧Rep C M w y v:=by
 cases h with | cons _ u _ _ h hr=>obtain ⟨v,rfl,h2⟩:=vJ hr;exact ⟨u,v,rfl,h,h2⟩
theorem bQz{C:Cx}{M:Mem}{w:World}{f:Nat}{u:Value}(h:Rep C M w (.fn f [] []) u):u = .func (.func f) #[] #[]:=by
 cases h with
 | fn _ _ _ us vs h1 h2 h3 h4 =>
  have e1:us = #[]:=Array.eq_empty_of_size_eq_zero h1;have e2:vs = #[]:=Array.eq_empty_of_size_eq_zero h2;subst e1;subst e2;rfl

theorem aEy{k:Nat}{l:Lqq}(hu:uni k l){j:Nat}(hj:j<(l.flatten.map aA).length):(l.flatten.map aA)[j] = .v ((lU k (l.toArray)[j / k]!)[j % k]!):=by
 have hL:(l.flatten).length=l.length*k:=oN hu;have Bt:j<l.length*k:=by rw [eI,hL] at hj;exact hj
 have hk:0<k:=by
  rcases Nat.eq_zero_or_pos k with h | h
  ·subst h;simp at Bt
  ·exact h
 have hq:j / k<l.length:=Nat.div_lt_of_lt_mul (by rw [Nat.mul_comm];exact Bt)
 have hm:j % k<k:=aVf _ hk;have hx:l[j / k]? = some l[j / k]:=Aq hq;have hxl:l[j / k].length=k:=hu _ (gJ hq);have hf:l[j / k][j % k]? = some l[j / k][j % k]:=Aq (by omega)
 have:=cZ hu hx hf;have e:j / k*k+j % k=j:=by rw [Nat.mul_comm];exact Nat.div_add_mod j k
 rw [e,Aq hj] at this
 rw [Option.some.inj this];have e2:(l.toArray)[j / k]! = l[j / k]:=by simp [hq]
 rw [e2];unfold lU;simp only [List.getElem!_eq_getElem?_getD,eX,aGn hm,Option.map_some,Option.getD_some,Bm,hf]

theorem aKw{f g ty k:Nat}(hsz:∃ i,Tryz.prog.info? ty=some i∧i.size=k)(hk:0<k)
  (hcall:∀ (blk cap:Nat) (d:Array (List Int)) (w:World),HoldsK (lU k) k w blk 0 d→blk<w.heap.size→d.size<4611686018427387904→Calls Tp f #[.slice (some ⟨blk,0,none⟩) d.size cap,.func (.func g) #[] #[]] w fun e w' =>
   e = .returned (.tuple #[])∧∃ d' n os,PermIn 0 d.size d d'∧SortedIn (ltOf cfL) 0 d.size d'∧w'=sortWorldK (lU k) k w blk 0 n d' os)
  (hnil:∀ (p:Option Addr) (cap:Nat) (fv:Value) (w:World),Calls Tp f #[.slice p 0 cap,fv] w fun e w'=>e = .returned (.tuple #[])∧w'=w)
  (l:Lqq) (hu:uni k l) (hn:(aM l 0).Nodup) (hl:l.length≤1000) :
  FMM Tp f [.own 0,.fn g [] []] [some (.row ty l.length (l.flatten.map aA))] (.tup []) [some (.row ty (aB l).length ((aB l).flatten.map aA))]:=fun C w us hus hM n=>by
 obtain ⟨u,v,rfl,Mp,hv⟩:=bEj hus;obtain rfl:=bQz hv;rw [fV];have hown:(C.ι 0=none∧u = .slice none 0 0∧l.length=0)∨∃ b,C.ι 0=some b∧u = .slice (some ⟨b,0,none⟩) l.length (C.κ 0):=by
  cases Mp with
  | own _ _ h0 ha hr =>
   rcases hr _ _ _ rfl with ⟨q1,q2,q3⟩ | ⟨b,q1,q2⟩
   ·exact .inl ⟨q2,q1,q3⟩
   ·exact .inr ⟨b,q2,q1⟩
 rcases hown with ⟨hι,rfl,h0⟩ | ⟨b,hι,rfl⟩
 ·obtain rfl:l=[]:=aDa h0
  refine (callsIn_wide.2 (hnil none 0 _ w)).mono ?_;rintro e w' ⟨rfl,rfl⟩;have e0:aB []=[]:=by simp [aB]
  rw [e0];exact ⟨_,rfl,C,Fr.refl _ _ _,hM,.tup [] #[] rfl (fun i h=>by simp at h)⟩
 ·rcases hM.row 0 _ _ _ rfl with ⟨Ee,_⟩ | ⟨b',arr,i,q1,q2,q3,q4,q5,q6,q7,q8,q9⟩
  ·rw [hι] at Ee;cases Ee
  ·rw [hι] at q1;cases q1
   obtain ⟨i',Ce,B1⟩:=hsz;rw [q3] at Ce;cases Ce
   have hcell:∀ j (hj:j<(l.flatten.map aA).length),arr.getD j undef=(lU k (l.toArray)[j / k]!)[j % k]! := fun j hj=>by
    have:=q8 j hj;rw [aEy hu hj] at this
    exact bVd this
   have hlen:(l.flatten.map aA).length=l.length*k:=by rw [eI,oN hu]
   have hle:l.length*k≤arr.size:=by rw [q4,B1];exact Nat.mul_le_mul_right k q6
   have hH:HoldsK (lU k) k w b 0 l.toArray:=by
    unfold HoldsK Holds;intro j hj;rw [size_flatK] at hj
    have Dx:j<l.length*k:=by simpa using hj
    rw [get_flatK _ _ _ _ hj,← hcell j (by rw [hlen];exact Dx)]
    have hja:j<arr.size:=by omega
    rw [fG];refine ⟨?_,?_⟩
    ·unfold World.cell?
     simp only [q2];rw [Bb,pL hja];simp
    ·unfold World.frozen?
     simp [q2]
   have hb:b<w.heap.size:=lt_of_block q2;have hc:=hcall b (C.κ 0) l.toArray w hH hb (by simp;omega)
   rw [List.size_toArray] at hc
   refine (callsIn_wide.2 hc).mono ?_;rintro e w' ⟨rfl,d',m,os,hp,hs,rfl⟩;have hd:d'.size=l.length:=by have:=hp.1;simpa using this
   have hperm:d'.toList.Perm l:=by
    have:=hp.2.2;have e1:d'.extract 0 l.length=d':=by rw [← hd];simp
    have e2:l.toArray.extract 0 l.length=l.toArray:=by simp
    rw [e1,e2] at this
    simpa using this
   have hsorted:d'.toList.Pairwise fun a b=>a.getD 0 0≤b.getD 0 0:=by
    rw [List.pairwise_iff_getElem];intro i j hi hj hij;have Dx:j<d'.size:=by simpa using hj
    have:=hs i j (Nat.zero_le _) hij (by omega)
    rw [ltL] at this
    have h3:=of_decide_eq_false this;rw [getElem!_pos d' i (by omega),getElem!_pos d' j Dx] at h3
    simpa using Int.not_lt.1 h3
   have Ow:d'=(aB l).toArray:=by
    have:=aOj hn hperm hsorted;rw [← this]
   subst Ow;have hsu:=lF hu;have hsl:=fV l;have hw:∃ D8,(sortWorldK (lU k) k w b 0 m (aB l).toArray os).heap[b]? = some (.cells D8 ty (0,0))∧D8.size=arr.size∧∀ j,j<l.length*k→D8.getD j undef=(lU k (aB l).toArray[j / k]!)[j % k]! := by
    refine ⟨putCells id 0 (flatK (lU k) k (aB l).toArray) arr,?_,by simp [putCells],fun j hj => ?_⟩
    ·unfold sortWorldK grow putRowK putRow mapBlock
     have hlt:b<(w.heap.modify b (onCells (putCells id 0 (flatK (lU k) k (aB l).toArray)))).size:=by simpa using hb
     show (w.heap.modify b (onCells (putCells id 0 (flatK (lU k) k (aB l).toArray)))++os)[b]? = _;rw [Array.getElem?_append_left hlt,Array.getElem?_modify];simp [q2,onCells]
    ·have hja:j<arr.size:=by omega
     rw [Bb];unfold putCells;rw [Array.getElem?_mapIdx,pL hja];have hsz:j<(flatK (lU k) k (aB l).toArray).size:=by rw [size_flatK];simpa [hsl] using hj
     simp only [Option.map_some,Option.getD_some,Nat.zero_le,true_and,fG,hsz,if_true,Nat.sub_zero,id];exact get_flatK _ _ _ _ (by simpa [hsl] using hj)
   obtain ⟨D8,w1,w2,w3⟩:=hw;have Mr:((aB l).flatten.map aA).length=l.length*k:=by rw [eI,oN hsu,hsl]
   have hall:∀ j (h:j<((aB l).flatten.map aA).length),D8.getD j undef=(lU k (aB l).toArray[j / k]!)[j % k]! := fun j h=>w3 j (by omega)
   obtain ⟨f1,m1⟩:=aOi (Bh:=(aB l).flatten.map aA) (w':=sortWorldK (lU k) k w b 0 m (aB l).toArray os) hM hι q2 rfl rfl rfl
    (by unfold sortWorldK;rw [size_grow];show w.heap.size≤(w.heap.modify b _).size+_;simp)
    (fun b' h1 h2=>by
     show (w.heap.modify b (onCells (putCells id 0 (flatK (lU k) k (aB l).toArray)))++os)[b']? = _;rw [Array.getElem?_append_left (by simpa using h1),Array.getElem?_modify,if_neg (fun h=>h2 h.symm)])
    w1 w2 (by rw [Mr,hlen]) (fun j h=>by rw [aEy hsu h,hall j h];exact .v _)
    (fun j h=>by
     rw [hall j h];have:=aBr k ((aB l).toArray[j / k]!) ((lU k (aB l).toArray[j / k]!)[j % k]!) (by
      have hm:j % k<(lU k (aB l).toArray[j / k]!).length:=by rw [aBq];exact aVf _ hk
      rw [List.getElem!_eq_getElem?_getD,Aq hm];exact gJ hm)
     exact this)
   exact ⟨_,rfl,C,f1,m1,.tup [] #[] rfl (fun i h=>by simp at h)⟩
end KV
end Go.Proofs
end
section
namespace Go.Proofs
open Go.RowKit Go.Lib Go.Sort Go.Shelf
namespace KV
open Tryz

theorem Kq:(Tryz.prog.info? 80).map (fun i=>i.size)=some 2:=by kernel_rfl
theorem Kr:(Tryz.prog.info? 84).map (fun i=>i.size)=some 6:=by kernel_rfl
theorem rX{t k:Nat}(h:(Tryz.prog.info? t).map (fun i=>i.size)=some k):∃ i,Tryz.prog.info? t=some i∧i.size=k:=by
 cases h2:Tryz.prog.info? t with
 | none=>rw [h2] at h;cases h
 | some i=>rw [h2] at h;exact ⟨i,rfl,by simpa using h⟩
theorem aXa(l:Lqq)(hu:uni 2 l)(hn:(aM l 0).Nodup)(hl:l.length≤1000):FMM Tp 153 [.own 0,.fn 154 [] []] [some (.row 80 l.length (l.flatten.map aA))] (.tup []) [some (.row 80 (aB l).length ((aB l).flatten.map aA))] :=
 aKw (k:=2) (rX Kq) (by omega)
  (fun blk cap d w hH hb hd=>AnyQ.slices_SortFunc Tryz.sortSk 2 Tryz.isAgg80 Tryz.sizeOf80 (lU 2) (aBq 2) (aBr 2) cfL bVi 154 #[] blk 0 cap d w (enters_of func154 (by kernel_rfl) rfl)
   (fun m os dk _ x y=>bVn (x.getD 0 0) (x.getD 1 0) (y.getD 0 0) (y.getD 1 0) _) hH hb hd)
  (fun p cap fv w=>AnyF.slices_SortFunc_none Tryz.sortSk p cap fv w) l hu hn hl
theorem aXb(l:Lqq)(hu:uni 6 l)(hn:(aM l 0).Nodup)(hl:l.length≤1000):FMM Tp 155 [.own 0,.fn 156 [] []] [some (.row 84 l.length (l.flatten.map aA))] (.tup []) [some (.row 84 (aB l).length ((aB l).flatten.map aA))] :=
 aKw (k:=6) (rX Kr) (by omega)
  (fun blk cap d w hH hb hd=>AnyQ.slices_SortFunc Tryz.sortDc 6 Tryz.isAgg84 Tryz.sizeOf84 (lU 6) (aBq 6) (aBr 6) cfL bVi 156 #[] blk 0 cap d w (enters_of func156 (by kernel_rfl) rfl)
   (fun m os dk _ x y=>bVo (x.getD 0 0) (x.getD 1 0) (x.getD 2 0) (x.getD 3 0) (x.getD 4 0) (x.getD 5 0) (y.getD 0 0) (y.getD 1 0) (y.getD 2 0) (y.getD 3 0) (y.getD 4 0) (y.getD 5 0) _) hH hb hd)
  (fun p cap fv w=>AnyF.slices_SortFunc_none Tryz.sortDc p cap fv w) l hu hn hl
end KV
end Go.Proofs
end
section
namespace Go.Proofs
open Go.RowKit Go.Lib Go.Shelf
namespace KV
open Tryz

theorem aWz{f ty k:Nat}(hsz:∃ i,Tryz.prog.info? ty=some i∧i.size=k)
  (h:∀ (p:Option Addr) (c:Nat) (w:World),Calls Tp f #[.slice p 0 c] w fun e w'=>∃ v',e = .returned v'∧w'.ownsRow w.heap.size ty k v' 0 []∧Below w.heap.size w w') {base:Nat} :
  FV Tp f [.p (.sl 0 [])] base (.own base) [(base,.row ty 0 [])]:=by
 refine ⟨.own 0,[some (.row ty 0 [])],fun C w us hus hM n => ?_,by simp [aTn,bBs,eQ,bH,bBt,aTm]⟩
 obtain ⟨u,rfl,hu⟩:=vJ hus;cases hu with
 | p _ _ hu =>
  have S6:∃ p c,u = .slice p 0 c:=by cases hu with | sl n cs p cap us h1 h2 h3 h4 h5=>exact ⟨p,cap,rfl⟩
  obtain ⟨p,c,rfl⟩:=S6;refine (callsIn_wide.2 (h p c w)).mono ?_;rintro e w' ⟨v',rfl,h1,h2⟩;have Cp:∀ (id:Nat) (o:AO),([some (.row ty 0 [])]:Mem)[id]? = some (some o)→id=0∧o = .row ty 0 []:=fun id o h=>by
   cases id with
   | zero=>simp at h;exact ⟨rfl,h.symm⟩
   | succ i=>simp at h
  have hno:∀ (id:Nat) (o:AO),¬ (([]:Mem)[id]? = some (some o)):=fun id o h=>by simp at h
  have hc:(v' = .slice none 0 0)∨∃ g cap cur,v' = .slice (some ⟨g,0,none⟩) 0 cap∧w.heap.size≤g∧w'.heap[g]? = some (.cells cur ty (0,0))∧cap≤maxLen∧cur.size=cap*k:=by
   rcases h1.2 with ⟨he,h0⟩ | ⟨g,cp,cur,he,hg,hh,r1,r2,r3,r4⟩
   ·exact .inl he
   ·exact .inr ⟨g,cp,cur,he,hg,hh,r2,r3⟩
  have new:∀ b,v'.ownBlock=some b→w.heap.size≤b∧b<w'.heap.size:=fun b hb=>by
   rcases hc with rfl | ⟨g,cap,cur,rfl,hg,hh,_⟩
   ·cases hb
   ·cases hb;exact ⟨hg,lt_of_block hh⟩
  refine ⟨_,rfl,{ ι:=fun _=>v'.ownBlock,κ:=fun _=>(match v' with | .slice _ _ c=>c | _=>0),F:=C.F },⟨h2.os,h2.tape,h2.output,h2.size,fun b hb _=>h2.block b hb,fun id o h=>absurd h (hno id o),fun id o h=>absurd h (hno id o),fun id o h=>absurd h (hno id o),fun id o b hm hl hb => .inl (new b hb).1,fun _ h=>h,fun _ h => .inl h⟩,
   ⟨fun id ty n cs hm => ?_,fun id ty cs hm => ?_,fun id es cl hm => ?_,fun id Eu o o' b q1 _ q2 _ _ _ => ?_,fun id o b hm hl hb hf => ?_,fun b hb=>Cg (hM.Fs b hb) h2.size,fun id o b hm hl hb=>(new b hb).2⟩,?_⟩
  ·obtain ⟨rfl,he⟩:=Cp _ _ hm
   cases he
   rcases hc with rfl | ⟨g,cap,cur,rfl,_,hh,r2,r3⟩
   ·exact .inl ⟨rfl,rfl,rfl⟩
   ·obtain ⟨i,hi,hs⟩:=hsz
    exact .inr ⟨g,cur,i,rfl,hh,hi,by rw [hs];exact r3,by simp,Nat.zero_le _,r2,fun j h=>by simp at h,fun j h=>by simp at h⟩
  ·obtain ⟨_,he⟩:=Cp _ _ hm;cases he
  ·obtain ⟨_,he⟩:=Cp _ _ hm;cases he
  ·obtain ⟨rfl,_⟩:=Cp _ _ q1
   obtain ⟨rfl,_⟩:=Cp _ _ q2;rfl
  ·have:=hM.Fs _ hf
   have:=(new b hb).1;omega
  ·have h0:v'.oneCell'=true:=by rcases hc with rfl | ⟨g,cap,cur,rfl,_⟩ <;> rfl
   refine .own 0 _ h0 ⟨_,rfl⟩ fun Cn n cs hm => ?_
   obtain ⟨_,he⟩:=Cp _ _ hm;cases he
   rcases hc with rfl | ⟨g,cap,cur,rfl,_⟩
   ·exact .inl ⟨rfl,rfl,rfl⟩
   ·exact .inr ⟨g,rfl,rfl⟩
end KV
end Go.Proofs
end
namespace Go.Proofs
namespace KV
open Tryz
section

theorem aBw{k:Nat}{l:Lqq}(hu:uni k l):(l.flatten.map aA).length=l.length*k:=by rw [eI,oN hu]
end
section

theorem bQx{dl:Int}{sk dc:Lqq}(h0:uni 2 sk)(h1:uni 6 dc)(h2:(bDv dl sk dc)=0)(h3:0≤(sk.length:Int)∧(sk.length:Int)≤(sk.length:Int)∧(sk.length:Int)≤1000000)(h4:0≤(dc.length:Int)∧(dc.length:Int)≤(dc.length:Int)∧(dc.length:Int)≤1000000)(h5:(aM sk 0).Nodup)(h6:sk.length≤1000)(h7:(aM dc 0).Nodup)(h8:dc.length≤1000){base:Nat}:FV Tp 88 [(.p (.agg (dQ dl sk dc)))] base (.tup [(.p (.agg (dQ dl (aB sk) (aB dc)))),(pI 0)]) []:=have k1:=fk 2 (bPv dl sk dc h0 h1) rfl;have k2:=mq [3] 7 (aXa sk h0 h5 h6);have k3:=mq [5] 7 (aXb dc h1 h7 h8);FV.frz (FMM.fi 0 ⟨[],[],[3,5],[]⟩ func88 [k1.o,bF,k2.o,k3.o] (gc k3 (gc k2 (gt ((dc.flatten.map aA).length=dc.length*6∧dc.length=dc.length) ⟨aBw h1,rfl⟩ (gt ((sk.flatten.map aA).length=sk.length*2∧sk.length=sk.length) ⟨aBw h0,rfl⟩ (gc h4 (gc h3 (gc (eY h2) (gc k1 gn))))))))) (by kernel_rfl)
theorem bQy(dl:Int)(sk dc:Lqq)(h:cT dl sk dc){base:Nat}:FV Tp 88 [.p (.agg (dQ dl sk dc))] base (.tup [.p (.agg (dQ dl (aB sk) (aB dc))),.p (aA 0)]) []:=by
 have h1:=h.len;have h2:=h.len2;exact bQx h.us h.ud ((bIm h.us h.ud).2 h) (by omega) (by omega) h.ns (by omega) h.nd (by omega)
theorem aKv{k:Nat}{l:Lqq}{x:List Int}(hu:uni k l)(hx:x.length=k):uni k (l++[x]):=fun y hy=>by
 rcases iE.1 hy with h | h
 ·exact hu y h
 ·simp at h;rw [h];exact hx
end
section
variable {n nx r0 r1 r2 st x0:Int}{l:List Int}

theorem bEh:(65519:Int)≠0:=by first | decide | simp
abbrev cG(n:Int):PV := .v (.int .u8 n)
theorem bJt(h0:n≤1):FMM Tp 30 [(.ptr 0 0),(pI n)] [some (.box 96 [(.p (.sl l.length (l.map cG))),(pI nx),(.p (.v (.int .u32 st)))])] (pI 0) [some (.box 96 [(.p (.sl l.length (l.map cG))),(pI nx),(.p (.v (.int .u32 st)))])]:=FMM.fi 1 gE func30 (rT 7) (Hm (yN h0) gn)
theorem bJu(h0:(1:Int)<n)(h1:(l.length:Int)=0):FMM Tp 30 [(.ptr 0 0),(pI n)] [some (.box 96 [(.p (.sl l.length (l.map cG))),(pI nx),(.p (.v (.int .u32 st)))])] (pI 0) [some (.box 96 [(.p (.sl l.length (l.map cG))),(pI nx),(.p (.v (.int .u32 st)))])]:=FMM.fi 1 gE func30 (rF 7++[bT]) (gc (eJ h1) (Hm (kT h0) gn))
section
variable(h0:(1:Int)<n)(h1:(l.length:Int)≠0)(h2:(l.length:Int)≠0)(h3:l[(nx.tmod (l.length:Int)).toNat]? = some x0)(h4:0≤(nx.tmod (l.length:Int)))(h5:inR (nx.tdiv (l.length:Int)))(h6:inR (nx+1))
include h0 h1 h2 h3 h4 h5 h6
theorem bJv(h7:(IntKind.wrap .u32 (nx.tdiv (l.length:Int)))=0)(h8:n≤256)(h9:inR (IntKind.wrap .u32 x0))(A5:n≠0)(An:r0=((IntKind.wrap .u32 x0).tmod n))(I0:r1=(nx+1))(I1:r2=((IntKind.wrap .u32 ((IntKind.wrap .u32 ((IntKind.wrap .u32 ((IntKind.wrap .u32 (st*45))+(IntKind.wrap .u32 x0)))+(IntKind.wrap .u32 ((77:Int)*(IntKind.wrap .u32 (nx.tdiv (l.length:Int)))))))+1)).tmod 65519)):FMM Tp 30 [(.ptr 0 0),(pI n)] [some (.box 96 [(.p (.sl l.length (l.map cG))),(pI nx),(.p (.v (.int .u32 st)))])] (pI r0) [some (.box 96 [(.p (.sl l.length (l.map cG))),(pI r1),(.p (.v (.int .u32 r2)))])]:=by
 subst An I0 I1;exact FMM.fi 1 gE func30 (rF 8++[.x (.v (.int .u8 x0)),bT,bT,bT,bT]) (gc A5 (gc h9 (gc (yN h8) (Aw (eJ h7) (gc bEh (gc h6 (gc h5 (gc h2 (gt ((l.map cG)[((nx.tmod (l.length:Int)).toNat*1)]? = some (.v (.int .u8 x0))) (fD (i:=(nx.tmod (l.length:Int)).toNat) h3) (gc (iF (g:=cG) h4 h3) (gc h2 (gc (bI h1) (Hm (kT h0) gn)))))))))))))
theorem bJw(h7:(IntKind.wrap .u32 (nx.tdiv (l.length:Int)))=0)(h8:(256:Int)<n)(h9:inR (IntKind.wrap .u32 ((IntKind.wrap .u32 (((IntKind.wrap .u32 ((IntKind.wrap .u32 ((IntKind.wrap .u32 ((IntKind.wrap .u32 (st*45))+(IntKind.wrap .u32 x0)))+(IntKind.wrap .u32 ((77:Int)*(IntKind.wrap .u32 (nx.tdiv (l.length:Int)))))))+1)).tmod 65519)*256))+(IntKind.wrap .u32 x0))))(A5:n≠0)(An:r0=((IntKind.wrap .u32 ((IntKind.wrap .u32 (((IntKind.wrap .u32 ((IntKind.wrap .u32 ((IntKind.wrap .u32 ((IntKind.wrap .u32 (st*45))+(IntKind.wrap .u32 x0)))+(IntKind.wrap .u32 ((77:Int)*(IntKind.wrap .u32 (nx.tdiv (l.length:Int)))))))+1)).tmod 65519)*256))+(IntKind.wrap .u32 x0))).tmod n))(I0:r1=(nx+1))(I1:r2=((IntKind.wrap .u32 ((IntKind.wrap .u32 ((IntKind.wrap .u32 ((IntKind.wrap .u32 (st*45))+(IntKind.wrap .u32 x0)))+(IntKind.wrap .u32 ((77:Int)*(IntKind.wrap .u32 (nx.tdiv (l.length:Int)))))))+1)).tmod 65519)):FMM Tp 30 [(.ptr 0 0),(pI n)] [some (.box 96 [(.p (.sl l.length (l.map cG))),(pI nx),(.p (.v (.int .u32 st)))])] (pI r0) [some (.box 96 [(.p (.sl l.length (l.map cG))),(pI r1),(.p (.v (.int .u32 r2)))])]:=by
 subst An I0 I1;exact FMM.fi 1 gE func30 (rF 8++[.x (.v (.int .u8 x0)),bT,bT,bT,bF]) (gc A5 (gc h9 (gc (kT h8) (Aw (eJ h7) (gc bEh (gc h6 (gc h5 (gc h2 (gt ((l.map cG)[((nx.tmod (l.length:Int)).toNat*1)]? = some (.v (.int .u8 x0))) (fD (i:=(nx.tmod (l.length:Int)).toNat) h3) (gc (iF (g:=cG) h4 h3) (gc h2 (gc (bI h1) (Hm (kT h0) gn)))))))))))))
theorem bJx(h7:(IntKind.wrap .u32 (nx.tdiv (l.length:Int)))≠0)(h8:inR (IntKind.wrap .u32 ((IntKind.wrap .u32 (((IntKind.wrap .u32 ((IntKind.wrap .u32 ((IntKind.wrap .u32 ((IntKind.wrap .u32 (st*45))+(IntKind.wrap .u32 x0)))+(IntKind.wrap .u32 ((77:Int)*(IntKind.wrap .u32 (nx.tdiv (l.length:Int)))))))+1)).tmod 65519)*256))+(IntKind.wrap .u32 x0))))(h9:n≠0)(An:r0=((IntKind.wrap .u32 ((IntKind.wrap .u32 (((IntKind.wrap .u32 ((IntKind.wrap .u32 ((IntKind.wrap .u32 ((IntKind.wrap .u32 (st*45))+(IntKind.wrap .u32 x0)))+(IntKind.wrap .u32 ((77:Int)*(IntKind.wrap .u32 (nx.tdiv (l.length:Int)))))))+1)).tmod 65519)*256))+(IntKind.wrap .u32 x0))).tmod n))(I0:r1=(nx+1))(I1:r2=((IntKind.wrap .u32 ((IntKind.wrap .u32 ((IntKind.wrap .u32 ((IntKind.wrap .u32 (st*45))+(IntKind.wrap .u32 x0)))+(IntKind.wrap .u32 ((77:Int)*(IntKind.wrap .u32 (nx.tdiv (l.length:Int)))))))+1)).tmod 65519)):FMM Tp 30 [(.ptr 0 0),(pI n)] [some (.box 96 [(.p (.sl l.length (l.map cG))),(pI nx),(.p (.v (.int .u32 st)))])] (pI r0) [some (.box 96 [(.p (.sl l.length (l.map cG))),(pI r1),(.p (.v (.int .u32 r2)))])]:=by
 subst An I0 I1;exact FMM.fi 1 gE func30 (rF 8++[.x (.v (.int .u8 x0)),bF,bF,bF]) (gc h9 (gc h8 (Aw (bI h7) (gc bEh (gc h6 (gc h5 (gc h2 (gt ((l.map cG)[((nx.tmod (l.length:Int)).toNat*1)]? = some (.v (.int .u8 x0))) (fD (i:=(nx.tmod (l.length:Int)).toNat) h3) (gc (iF (g:=cG) h4 h3) (gc h2 (gc (bI h1) (Hm (kT h0) gn))))))))))))
end
def Db(z:Int):Int:=IntKind.wrap .u32 z
theorem aHa(z:Int):0≤Db z∧Db z<4294967296:=by
 unfold Db IntKind.wrap;simp only [IntKind.bits,IntKind.signed,Bool.false_and,Bool.false_eq_true,if_false];omega
def aKt(l:List Int)(nx:Int):Int:=Db (l.getD (nx.tmod (l.length:Int)).toNat 0)
def bEi(l:List Int)(nx st:Int):Int:=(Db (Db (Db (Db (st*45)+aKt l nx)+Db (77*Db (nx.tdiv (l.length:Int))))+1)).tmod 65519
def bW(n:Int)(l:List Int)(nx st:Int):Int × Int × Int:=if n≤1∨l.length=0 then (0,nx,st) else
 (if Db (nx.tdiv (l.length:Int))=0∧n≤256 then (aKt l nx).tmod n else (Db (Db (bEi l nx st*256)+aKt l nx)).tmod n,nx+1,bEi l nx st)
theorem fO(n:Int)(l:List Int)(nx st:Int):0≤(bW n l nx st).1∧((bW n l nx st).1<n∨(bW n l nx st).1=0)∧nx≤(bW n l nx st).2.1∧(bW n l nx st).2.1≤nx+1:=by
 unfold bW
 split
 ·simp;omega
 ·rename_i h
  simp only [not_or] at h
  have h1:∀ z:Int,0≤z→0≤z.tmod n∧z.tmod n<n:=fun z hz=>⟨Int.tmod_nonneg n hz,Int.tmod_lt_of_pos z (by omega)⟩
  have h2:=(aHa (l.getD (nx.tmod (l.length:Int)).toNat 0)).1;have h3:=(aHa (Db (bEi l nx st*256)+aKt l nx)).1;dsimp only
  split
  ·have:=h1 _ h2;unfold aKt;omega
  ·have:=h1 _ h3;omega
abbrev jC(l:List Int)(nx st:Int):AO := .box 96 [.p (.sl l.length (l.map cG)),.p (aA nx),.p (.v (.int .u32 st))]
theorem aHb(n:Int)(l:List Int)(nx st:Int)(h:0≤nx∧nx≤1000000000):FMM Tp 30 [.ptr 0 0,.p (aA n)] [some (jC l nx st)] (.p (aA (bW n l nx st).1)) [some (jC l (bW n l nx st).2.1 (bW n l nx st).2.2)]:=by
 by_cases h1:n≤1
 ·have e:bW n l nx st=(0,nx,st):=by unfold bW;rw [if_pos (.inl h1)]
  rw [e];exact bJt h1
 ·by_cases h2:l.length=0
  ·have e:bW n l nx st=(0,nx,st):=by unfold bW;rw [if_pos (.inr h2)]
   rw [e];exact bJu (by omega) (by omega)
  ·have h0:0≤nx.tmod (l.length:Int)∧nx.tmod (l.length:Int)<(l.length:Int):=⟨Int.tmod_nonneg _ h.1,Int.tmod_lt_of_pos _ (by omega)⟩
   have hq:0≤nx.tdiv (l.length:Int)∧nx.tdiv (l.length:Int)≤nx:=⟨Int.tdiv_nonneg h.1 (by omega),Int.tdiv_le_self _ h.1⟩
   have hi:(nx.tmod (l.length:Int)).toNat<l.length:=by omega
   have hg:l[(nx.tmod (l.length:Int)).toNat]? = some (l.getD (nx.tmod (l.length:Int)).toNat 0):=by
    rw [Aq hi,Bm,Aq hi];rfl
   have hw:∀ z,inR (IntKind.wrap .u32 z):=fun z=>by have:=aHa z;unfold Db at this;unfold inR;omega
   unfold bW;rw [if_neg (by simp only [not_or];exact ⟨h1,h2⟩)]
   dsimp only
   by_cases h3:Db (nx.tdiv (l.length:Int))=0
   ·by_cases h4:n≤256
    ·rw [if_pos ⟨h3,h4⟩]
     exact bJv (by omega) (by omega) (by omega) hg h0.1 (by show _∧_;omega) (by show _∧_;omega) h3 h4 (hw _) (by omega) rfl rfl rfl
    ·rw [if_neg (fun h=>h4 h.2)]
     exact bJw (by omega) (by omega) (by omega) hg h0.1 (by show _∧_;omega) (by show _∧_;omega) h3 (by omega) (hw _) (by omega) rfl rfl rfl
   ·rw [if_neg (fun h=>h3 h.1)]
    exact bJx (by omega) (by omega) (by omega) hg h0.1 (by show _∧_;omega) (by show _∧_;omega) h3 (hw _) (by omega) rfl rfl rfl
theorem bJy{r0:Bool}(h0:0≤nx∧nx≤1000000000)(An:r0=(((bW n l nx st).1) == 0))(I0:r1=((bW n l nx st).2.1))(I1:r2=((bW n l nx st).2.2)):FMM Tp 15 [(.ptr 0 0),(pI n)] [some (.box 96 [(.p (.sl l.length (l.map cG))),(pI nx),(.p (.v (.int .u32 st)))])] (pB r0) [some (.box 96 [(.p (.sl l.length (l.map cG))),(pI r1),(.p (.v (.int .u32 r2)))])]:=by
 subst An I0 I1;have k1:=mq [0] 1 (aHb n l nx st h0);exact FMM.fi 1 gE func15 [k1.o] (gc k1 gn)
theorem bQv{lo hi:Int}(h0:inR (hi-lo))(h1:inR ((hi-lo)+1))(h2:0≤nx∧nx≤1000000000)(h3:inR (lo+((bW ((hi-lo)+1) l nx st).1)))(An:r0=(lo+((bW ((hi-lo)+1) l nx st).1)))(I0:r1=((bW ((hi-lo)+1) l nx st).2.1))(I1:r2=((bW ((hi-lo)+1) l nx st).2.2)):FMM Tp 9 [(.ptr 0 0),(pI lo),(pI hi)] [some (.box 96 [(.p (.sl l.length (l.map cG))),(pI nx),(.p (.v (.int .u32 st)))])] (pI r0) [some (.box 96 [(.p (.sl l.length (l.map cG))),(pI r1),(.p (.v (.int .u32 r2)))])]:=by
 subst An I0 I1;have k1:=mq [0] 1 (aHb ((hi-lo)+1) l nx st h2);exact FMM.fi 1 gE func9 [k1.o] (gc h3 (gc k1 (gc h1 (gc h0 gn))))
def pG(n:Int)(l:List Int)(nx st:Int):Bool × Int × Int:=((bW n l nx st).1 == 0,(bW n l nx st).2)
theorem bJz(n:Int)(l:List Int)(nx st:Int)(h:0≤nx∧nx≤1000000000):FMM Tp 15 [.ptr 0 0,.p (aA n)] [some (jC l nx st)] (.p (blP (pG n l nx st).1)) [some (jC l (pG n l nx st).2.1 (pG n l nx st).2.2)]:=bJy h rfl rfl rfl
theorem aKu(n:Int)(l:List Int)(nx st:Int):nx≤(pG n l nx st).2.1∧(pG n l nx st).2.1≤nx+1:=(fO n l nx st).2.2
def mV(lo hi:Int)(l:List Int)(nx st:Int):Int × Int × Int:=(lo+(bW (hi-lo+1) l nx st).1,(bW (hi-lo+1) l nx st).2)
theorem zD(lo hi:Int)(l:List Int)(nx st:Int):lo≤(mV lo hi l nx st).1∧((mV lo hi l nx st).1≤hi∨(mV lo hi l nx st).1=lo)∧nx≤(mV lo hi l nx st).2.1∧(mV lo hi l nx st).2.1≤nx+1:=by
 have:=fO (hi-lo+1) l nx st;unfold mV;dsimp only;omega
theorem bQw(lo hi:Int)(l:List Int)(nx st:Int)(h:0≤nx∧nx≤1000000000)(hb:(-1000000≤lo∧lo≤1000000) ∧ -1000000≤hi∧hi≤1000000):FMM Tp 9 [.ptr 0 0,.p (aA lo),.p (aA hi)] [some (jC l nx st)] (.p (aA (mV lo hi l nx st).1)) [some (jC l (mV lo hi l nx st).2.1 (mV lo hi l nx st).2.2)]:=by
 have:=zD lo hi l nx st;exact bQv (by show _∧_;omega) (by show _∧_;omega) h (show inR (mV lo hi l nx st).1 by unfold inR;omega) rfl rfl rfl
theorem tW{r Hw Ah:Int}(lo hi:Int)(l:List Int)(nx st:Int)(h:0≤nx∧nx≤1000000000)(hb:(-1000000≤lo∧lo≤1000000) ∧ -1000000≤hi∧hi≤1000000)(e:mV lo hi l nx st=(r,Hw,Ah)):FMM Tp 9 [.ptr 0 0,.p (aA lo),.p (aA hi)] [some (jC l nx st)] (pI r) [some (jC l Hw Ah)]:=by
 have:=bQw lo hi l nx st h hb;rw [e] at this
 exact this
theorem dL{r Hw Ah:Int}(n:Int)(l:List Int)(nx st:Int)(h:0≤nx∧nx≤1000000000)(e:bW n l nx st=(r,Hw,Ah)):FMM Tp 30 [.ptr 0 0,.p (aA n)] [some (jC l nx st)] (pI r) [some (jC l Hw Ah)]:=by
 have:=aHb n l nx st h;rw [e] at this
 exact this
theorem zE{r:Bool}{Hw Ah:Int}(n:Int)(l:List Int)(nx st:Int)(h:0≤nx∧nx≤1000000000)(e:pG n l nx st=(r,Hw,Ah)):FMM Tp 15 [.ptr 0 0,.p (aA n)] [some (jC l nx st)] (pB r) [some (jC l Hw Ah)]:=by
 have:=bJz n l nx st h;rw [e] at this
 exact this
theorem bVm:FMM Tp 8 [(.p (.sl l.length (l.map cG)))] [] (.ptr 0 0) [some (.box 96 [(.p (.sl l.length (l.map cG))),(pI 0),(.p (.v (.int .u32 17)))])]:=FMM.fi 0 ⟨[],[0],[],[]⟩ func8 [] gn
end
section

end
section

theorem bQu(a b:Int):skB [a,b]=(within a 1 999 && within b (-1) 360000):=rfl
end
section

end
section
mutual
def wkP:PV→PV
 | .v (.slice none 0 0) => .sl 0 []
 | .agg cs => .agg (bEk cs)
 | x=>x
def bEk:List PV→List PV
 | []=>[]
 | x::r=>wkP x::bEk r
end
theorem aKx:∀ l:List PV,bEk l=l.map wkP
 | []=>by simp [bEk]
 | x::r=>by rw [bEk,aKx r];rfl
def Ms:AV→AV
 | .p x => .p (wkP x)
 | x=>x
theorem bKa{F:Nat→Prop}{w:World}{x:PV}{u:Value}(h:cB F w x u):cB F w (wkP x) u:=by
 induction h with
 | v x =>
  unfold wkP
  split
  ·rename_i e
   cases e;exact .sl 0 [] none 0 (fun _=>undef) (dH _) (Nat.zero_le _) (fun i h=>by simp at h) (fun i h=>by simp at h) (fun i h=>by simp at h)
  ·rename_i e;cases e
  ·exact .v x
 | sl n cs p cap us h1 h2 h3 h4 h5 _=>unfold wkP;exact .sl n cs p cap us h1 h2 h3 h4 h5
 | agg cs vs h0 h1 _ ih =>
  unfold wkP;rw [aKx];exact .agg _ vs (fun i hi=>h0 i (by simpa using hi)) (by simpa using h1) (fun i hi=>by
   have:=ih i (by simpa using hi)
   simpa using this)
 | mp es b cl arr us hb h0 h1 h2 h3 _=>unfold wkP;exact .mp es b cl arr us hb h0 h1 h2 h3
 | rp cs off b o us h1 h2 h3 _=>unfold wkP;exact .rp cs off b o us h1 h2 h3
theorem bKb{C:Cx}{M:Mem}{w:World}{x:AV}{u:Value}(h:Rep C M w x u):Rep C M w (Ms x) u:=by
 cases h with
 | p x u h=>exact .p _ _ (bKa h)
 | _=>unfold Ms;constructor <;> assumption
theorem cN.wk{C:Cx}{M:Mem}{w:World}:∀ {args:List AV} {us:List Value},cN C M w args us→cN C M w (args.map Ms) us
 | [],_,h=>by cases h;exact .nil
 | x::l,_,h=>by
  cases h with
  | cons _ _ u us h1 h2=>exact .cons _ _ _ _ (bKb h1) h2.wk
theorem FMM.argwk{P:Program}{f:Nat}{args Am:List AV}{r:AV}{M M':Mem}(h:FMM P f Am M r M')(e:args.map Ms=Am):FMM P f args M r M':=fun C w us hus hM n=>by
 subst e;exact h C w us hus.wk hM n
theorem FV.argwk{P:Program}{f base:Nat}{args Am:List AV}{y:AV}{L:Upd}(h:FV P f Am base y L)(e:args.map Ms=Am):FV P f args base y L:=by
 obtain ⟨r,M1,h1,h2⟩:=h;exact ⟨r,M1,h1.argwk e,h2⟩
end
section

end
section

theorem bVl{dc:Lqq}{base:Nat}:FV Tp 89 [(.p (fS dc))] base (.fn 157 [] [(.rp [(fS dc)] 0)]) []:=FV.fi func89 [.g 3 ⟨[],[],[0],[]⟩] gn
end
section
variable {P:Program} {C C0:Cx} {M M0:Mem} {w w0:World}

theorem bM{w:World}{b:Nat}{o:Obj}(h:w.heap[b]? = some o):b<w.heap.size:=(Dz.1 h).1

theorem aBy(hM:aP P C M w){w':World}(hsz:w.heap.size≤w'.heap.size)(hF:∀ b,C.F b→w'.heap[b]? = w.heap[b]?)(hL:∀ (id:Nat) (o:AO) (b:Nat),M[id]? = some (some o)→o.live=true→C.ι id=some b→w'.heap[b]? = w.heap[b]?) :
  aP P C M w'∧Le C C M M w w':=by
 have hle:Le C C M M w w':=⟨fun _ o h=>⟨o,h⟩,fun _ _ _ _ _ cs h=>⟨cs,h⟩,fun _ o h o' h' hl=>by rw [h] at h';cases h';exact ⟨hl,rfl,rfl⟩,fun _ h=>h,hF⟩
 refine ⟨⟨fun i Cn n cs hm => ?_,fun i Cn cs hm => ?_,fun i es cl hm => ?_,hM.inj,hM.nF,fun b hb=>Cg (hM.Fs b hb) hsz,fun i x b hm hl hb=>Cg (hM.lt i x b hm hl hb) hsz⟩,hle⟩
 ·rcases hM.row _ _ _ _ hm with h4 | ⟨b,arr,inf,q0,q1,q2,q3,q4,q5,q6,q7,q8⟩
  ·exact .inl h4
  ·exact .inr ⟨b,arr,inf,q0,by rw [hL _ _ _ hm rfl q0];exact q1,q2,q3,q4,q5,q6,fun j hj=>(q7 j hj).mono hle.F hle.fz,q8⟩
 ·obtain ⟨b,arr,q0,q1,q2,q3,q4⟩:=hM.box _ _ _ hm
  exact ⟨b,arr,q0,by rw [hL _ _ _ hm rfl q0];exact q1,q2,fun j hj=>(q3 j hj).mono hle,q4⟩
 ·obtain ⟨b,arr,q0,q1,q2,q3⟩:=hM.mp _ _ _ hm
  refine ⟨b,arr,q0,by rw [hL _ _ _ hm rfl q0];exact q1,q2,fun j hj => ?_⟩
  obtain ⟨en,r1,r2,r3,r4⟩:=q3 j hj;exact ⟨en,r1,r2,r3,r4.mono hle.F hle.fz⟩

theorem Sim.beside{R R':List (Nat × Obj)}{st:St}{a:Act}{w':World}(h:Sim P (C0.with R) M0 w0 st a w)(X:Nat→Prop)(hX:∀ b,X b→∃ o,(b,o)∈R)(h1:w'.os=w.os)(h2:w'.tape=w.tape)(h3:w'.output=w.output)
  (hsz:w.heap.size≤w'.heap.size) (hk:∀ b,b<w.heap.size→¬ X b→w'.heap[b]? = w.heap[b]?)
  (Q3:∀ p∈R',(p∈R∧¬ X p.1)∨(w'.heap[p.1]? = some p.2∧p.2 ≠ .deferred (some [])∧(w.heap.size≤p.1∨∃ o,(p.1,o)∈R))):Sim P (C0.with R') M0 w0 st a w':=by
 obtain ⟨C,hS,hM,hF,⟨l,m1,m2,m3⟩,hR,hP⟩:=h;have hXR:∀ b,X b→∃ o,w.heap[b]? = some o∧w0.heap.size≤b∧o ≠ .deferred (some [])∧¬ C.F b∧∀ (id:Nat) (o:AO),st.m[id]? = some (some o)→o.live=true→C.ι id≠some b:=fun b hb=>by
  obtain ⟨o,ho⟩:=hX b hb;exact ⟨o,hR _ ho⟩
 have hFz:∀ b,C.F b→w'.heap[b]? = w.heap[b]? := fun b hb=>hk b (hM.Fs b hb) (fun hx=>by obtain ⟨_,_,_,_,q,_⟩:=hXR b hx;exact q hb)
 have hLv:∀ (id:Nat) (o:AO) (b:Nat),st.m[id]? = some (some o)→o.live=true→C.ι id=some b→w'.heap[b]? = w.heap[b]? := fun id o b ho hl hb=>hk b (hM.lt _ _ _ ho hl hb) (fun hx=>by obtain ⟨_,_,_,_,_,q⟩:=hXR b hx;exact q id o ho hl hb)
 obtain ⟨Fu,hle⟩:=aBy hM hsz hFz hLv;refine ⟨C,hS.le hle,Fu,⟨h1.trans hF.os,h2.trans hF.tape,h3.trans hF.out,fM hF.size hsz,fun b hb hn=>(hk b (Cg hb hF.size) (fun hx=>by obtain ⟨_,_,q,_⟩:=hXR b hx;omega)).trans (hF.keep b hb hn),hF.ids,hF.row,hF.liv,hF.new,hF.F1,hF.F2⟩,⟨l,m1,m2,fun D hD => ?_⟩,fun p hp => ?_,fun i to ti sz L hm => ?_,hP.2⟩
 ·obtain ⟨q1,q2,q3⟩:=m3 D hD
  refine ⟨(hk D (bM q1) (fun hx => ?_)).trans q1,q2,q3⟩
  obtain ⟨o,r1,_,r3,_⟩:=hXR D hx;rw [q1] at r1;cases r1;exact r3 rfl
 ·rcases Q3 p hp with ⟨hin,hx⟩ | ⟨r1,r2,r3⟩
  ·obtain ⟨q1,q2,q3,q4,q5⟩:=hR p hin
   exact ⟨(hk _ (bM q1) hx).trans q1,q2,q3,q4,q5⟩
  ·rcases r3 with r3 | ⟨o,ho⟩
   ·refine ⟨r1,fM hF.size r3,r2,fun hf => ?_,fun id o ho hl hb => ?_⟩
    ·have:=hM.Fs _ hf;omega
    ·have:=hM.lt _ _ _ ho hl hb;omega
   ·obtain ⟨q1,q2,q3,q4,q5⟩:=hR _ ho
    exact ⟨r1,q2,r2,q4,q5⟩
 ·obtain ⟨p,p0,p1⟩:=hP.1 _ _ _ _ _ hm
  refine ⟨p.move p.io rfl (fun _ h=>h) hFz fun b hb=>⟨hk b (p.lt hb).1 fun hx => ?_,p.own b hb⟩,p0,fun b hb=>⟨(p1 b hb).1,fun q hq e => ?_⟩⟩
  ·obtain ⟨o,ho⟩:=hX b hx
   exact (p1 b hb).2 _ ho rfl
  ·rcases Q3 q hq with ⟨hin,_⟩ | ⟨_,_,r3⟩
   ·exact (p1 b hb).2 q hin e
   ·rcases r3 with r3 | ⟨o,ho⟩
    ·have:=(p.lt hb).1;omega
    ·exact (p1 b hb).2 _ ho e

theorem Sim.has{R:List (Nat × Obj)}{st:St}{a:Act}(h:Sim P (C0.with R) M0 w0 st a w):∀ p∈R,w.heap[p.1]? = some p.2:=fun p hp=>by
 obtain ⟨C,_,_,_,_,hR,_⟩:=h;exact (hR p hp).1

end
section
open Go.Maps Go.MapKept
open Go.ChangeMaps (setBlock)

structure Ent where
 k:Int
 l:Lqq
 b:Nat
 cap:Nat
 arr:Array Value

def Ent.val(e:Ent):Value := .slice (some ⟨e.b,0,none⟩) e.l.length e.cap
def Ent.blk(e:Ent):Nat × Obj:=(e.b,.cells e.arr 84 (0,0))
structure Ent.OK (e:Ent):Prop where
 key:(Lit.int .i64 e.k).wf=true
 sz:e.arr.size=e.cap*6
 le:e.l.length≤e.cap
 cap:e.cap≤maxLen
 at_:e.arr.toList.take (e.l.length*6)=e.l.flatten.map (Value.int .i64)
 u:uni 6 e.l

structure kW (mb:Nat) (es:Array MapEntry) (L:List Ent):Prop where
 e1:∀ x∈es.toList,∃ e∈L,x.key = .int .i64 e.k∧x.val=e.val
 e2:∀ e∈L,∃ x∈es.toList,x.key = .int .i64 e.k∧x.val=e.val
 nd:es.toList.Pairwise (fun x y=>x.key≠y.key)
 ok:∀ e∈L,e.OK
 keys:(L.map (·.k)).Nodup
 blks:(mb::L.map (·.b)).Nodup
 ord:es.toList.map (fun x=>(x.key,x.val))=L.map fun e=>(Value.int .i64 e.k,e.val)

theorem kW.nil(mb:Nat):kW mb #[] []:=⟨fun x h=>by simp at h,fun e h=>by simp at h,by simp,fun e h=>by simp at h,by simp,by simp,rfl⟩

def qT(L:List Ent)(k:Int):Option Ent:=L.find? fun e=>e.k == k
def pH(L:List Ent)(k:Int):Value:=match qT L k with
 | some e=>e.val
 | none => .slice none 0 0

theorem tY{L:List Ent}{k:Int}{e:Ent}(h:qT L k=some e):e∈L∧e.k=k:=⟨wG h,by simpa using aVd h⟩
theorem aPe{L:List Ent}{k:Int}(h:qT L k=none):∀ e∈L,e.k≠k:=fun e he hk=>by
 have:=aGo.1 h e he;simp [hk] at this
theorem aXj{L:List Ent}{k:Int}{e:Ent}(hn:(L.map (·.k)).Nodup)(he:e∈L)(hk:e.k=k):qT L k=some e:=by
 cases h:qT L k with
 | none=>exact absurd hk (aPe h e he)
 | some e' =>
  obtain ⟨h1,h2⟩:=tY h;have:∀ (l:List Ent),(l.map (·.k)).Nodup→e∈l→e'∈l→e=e':=by
   intro l
   induction l with
   | nil=>intro _ h;simp at h
   | cons x r ih =>
    intro hn h3 h4;rw [gY,List.nodup_cons] at hn
    rcases gX.1 h3 with e1 | h5
    ·rcases gX.1 h4 with e2 | h6
     ·rw [e1,e2]
     ·exact absurd (dS.2 ⟨e',h6,by rw [h2,← hk,e1]⟩) hn.1
    ·rcases gX.1 h4 with e2 | h6
     ·exact absurd (dS.2 ⟨e,h5,by rw [hk,← h2,e2]⟩) hn.1
     ·exact ih hn.2 h5 h6
  rw [this L hn he h1]

section
variable {P:Program} {w:World} {t kt et:TypeId} {mb:Nat} {es:Array MapEntry} {cl:Nat} {L:List Ent}

theorem aHg(hkt:P.underlying kt=some (.int .i64)){k:Int}(hk:(Lit.int .i64 k).wf=true):keyOf P kt (.int .i64 k)=some (.int .i64 k):=keyOf_int_mk hkt hk

theorem bEl(ht:P.underlying t=some (.map kt et))(hkt:P.underlying kt=some (.int .i64))(hz:(zeroValue et).run P w = .ok (.slice none 0 0) w)(hb:w.heap[mb]? = some (.map es cl))(hM:kW mb es L){k:Int}(hk:(Lit.int .i64 k).wf=true) :
  (Instr.lookup t (.map (some mb)) (.int .i64 k) false).run P w = .ok (pH L k) w:=by
 have K:=int_keyed hkt;have hkey:=aHg hkt hk;have hes:∀ e∈es.toList,∃ l,keyOf P kt e.key=some l:=fun x hx=>by
  obtain ⟨e,he,h1,_⟩:=hM.e1 x hx;exact ⟨_,by rw [h1];exact aHg hkt (hM.ok e he).key⟩
 rcases K.find w hkey es.toList hes with ⟨h1,h2⟩ | ⟨j,e0,h1,h2,h3⟩
 ·have:qT L k=none:=by
   rw [qT,aGo];intro e he;obtain ⟨x,hx,h4,_⟩:=hM.e2 e he;have:=h2 x hx;rw [h4] at this
   intro Gb;exact this (by rw [eq_of_beq Gb])
  unfold pH;rw [this];simp [Instr.lookup,run_underlying ht,MapKept.run_getObj_map hb,K.check w _ hkey,h1,hz,Result.andThen]
 ·obtain ⟨e,he,h4,h5⟩:=hM.e1 e0 (Bi h2)
  rw [h3] at h4
  have Gb:e.k=k:=by injection h4 with _ h;exact h.symm
  unfold pH;rw [aXj hM.keys he Gb];simp [Instr.lookup,run_underlying ht,MapKept.run_getObj_map hb,K.check w _ hkey,h1,Result.andThen,h5]

def nU(L:List Ent)(e:Ent):List Ent:=if L.any (fun x=>x.k == e.k) then L.map (fun x=>if x.k == e.k then e else x) else L++[e]
theorem vM{L:List Ent}{e:Ent}(h:∀ x∈L,x.k≠e.k):nU L e=L++[e]:=by
 unfold nU;rw [if_neg];intro h1;obtain ⟨x,hx,he⟩:=List.any_eq_true.1 h1;exact h x hx (by simpa using he)
theorem qU{L:List Ent}{e x:Ent}(hx:x∈L)(he:x.k=e.k):nU L e=L.map (fun x=>if x.k == e.k then e else x):=by
 unfold nU;rw [if_pos (List.any_eq_true.2 ⟨x,hx,by simpa using he⟩)]
theorem fP{L:List Ent}{e x:Ent}:x∈nU L e↔(x∈L∧x.k≠e.k)∨x=e:=by
 by_cases h:∃ y∈L,y.k=e.k
 ·obtain ⟨y,hy,he⟩:=h
  rw [qU hy he,dS];constructor
  ·rintro ⟨z,hz,rfl⟩
   by_cases hk:z.k=e.k
   ·rw [if_pos (by simpa using hk)];exact .inr rfl
   ·rw [if_neg (by simpa using hk)];exact .inl ⟨hz,hk⟩
  ·rintro (⟨h1,h2⟩ | rfl)
   ·exact ⟨x,h1,by rw [if_neg (by simpa using h2)]⟩
   ·exact ⟨y,hy,by rw [if_pos (by simpa using he)]⟩
 ·have h':∀ y∈L,y.k≠e.k:=fun y hy he=>h ⟨y,hy,he⟩
  rw [vM h',iE,List.mem_singleton];constructor
  ·rintro (h1 | h1)
   ·exact .inl ⟨h1,h' x h1⟩
   ·exact .inr h1
  ·rintro (⟨h1,_⟩ | h1)
   ·exact .inl h1
   ·exact .inr h1
theorem aXk{L:List Ent}{e:Ent}(hn:(L.map (·.k)).Nodup):((nU L e).map (·.k)).Nodup:=by
 by_cases h:∃ y∈L,y.k=e.k
 ·obtain ⟨y,hy,he⟩:=h
  rw [qU hy he,qK];have:L.map ((fun x=>x.k) ∘ fun x=>if x.k == e.k then e else x)=L.map (·.k):=yL fun x _=>by
   by_cases hk:x.k=e.k
   ·simp [hk]
   ·simp [hk]
  rw [this];exact hn
 ·have h':∀ y∈L,y.k≠e.k:=fun y hy he=>h ⟨y,hy,he⟩
  rw [vM h',fL,List.nodup_append];refine ⟨hn,by simp,fun x hx y hy => ?_⟩
  obtain ⟨z,hz,rfl⟩:=dS.1 hx;simp at hy
  subst hy;exact h' z hz
theorem aXl{mb:Nat}{L:List Ent}{e:Ent}(hn:(L.map (·.k)).Nodup)(hb:(mb::L.map (·.b)).Nodup)(h1:e.b≠mb)(h2:∀ x∈L,x.k≠e.k→x.b≠e.b):(mb::(nU L e).map (·.b)).Nodup:=by
 obtain ⟨b1,b2⟩:=List.nodup_cons.1 hb;refine List.nodup_cons.2 ⟨?_,?_⟩
 ·intro hin
  obtain ⟨x,hx,hxb⟩:=dS.1 hin
  rcases fP.1 hx with ⟨h1,_⟩ | rfl
  ·exact b1 (dS.2 ⟨x,h1,hxb⟩)
  ·exact h1 hxb
 ·by_cases h:∃ y∈L,y.k=e.k
  ·obtain ⟨y,hy,he⟩:=h
   rw [qU hy he,qK,List.Nodup,List.pairwise_map];rw [List.Nodup,List.pairwise_map] at hn b2
   refine List.Pairwise.imp_of_mem ?_ (hn.and b2);intro x z hx hz ⟨q1,q2⟩;dsimp only [Function.comp]
   by_cases hk:x.k=e.k
   ·rw [if_pos (by simpa using hk),if_neg (by simp;rw [← hk];exact fun h=>q1 h.symm)]
    exact fun he=>h2 z hz (fun h=>q1 (by rw [hk,h])) he.symm
   ·rw [if_neg (by simpa using hk)]
    by_cases Fx:z.k=e.k
    ·rw [if_pos (by simpa using Fx)];exact h2 x hx hk
    ·rw [if_neg (by simpa using Fx)];exact q2
  ·have h':∀ y∈L,y.k≠e.k:=fun y hy he=>h ⟨y,hy,he⟩
   rw [vM h',fL,List.nodup_append];refine ⟨b2,by simp,fun x hx y hy => ?_⟩
   obtain ⟨z,hz,rfl⟩:=dS.1 hx;simp at hy
   subst hy;exact h2 z hz (h' z hz)

theorem bKh(ht:P.underlying t=some (.map kt et))(hkt:P.underlying kt=some (.int .i64))(hb:w.heap[mb]? = some (.map es cl))(hM:kW mb es L)(e:Ent)(he:e.OK)
  (hblk:e.b≠mb∧∀ x∈L,x.k≠e.k→x.b≠e.b) :
  ∃ B2 Da,(Instr.mapUpdate t (.map (some mb)) (.int .i64 e.k) e.val).run P w = .ok () (setBlock w mb (.map B2 Da))∧kW mb B2 (nU L e)∧((∀ x∈es.toList,x.born<cl)→∀ x∈B2.toList,x.born<Da):=by
 have K:=int_keyed hkt;have hkey:=aHg hkt he.key;have hes:∀ e∈es.toList,∃ l,keyOf P kt e.key=some l:=fun x hx=>by
  obtain ⟨e,he,h1,_⟩:=hM.e1 x hx;exact ⟨_,by rw [h1];exact aHg hkt (hM.ok e he).key⟩
 have hok:∀ x∈nU L e,x.OK:=fun x hx=>by
  rcases fP.1 hx with ⟨h1,_⟩ | rfl
  ·exact hM.ok x h1
  ·exact he
 have hkeys:((nU L e).map (·.k)).Nodup:=aXk hM.keys
 have hblks:(mb::(nU L e).map (·.b)).Nodup:=aXl hM.keys hM.blks hblk.1 hblk.2
 rcases K.find w hkey es.toList hes with ⟨h1,h2⟩ | ⟨j,e0,h1,h2,h3⟩
 ·refine ⟨es.push ⟨.int .i64 e.k,e.val,cl⟩,cl+1,?_,⟨fun x hx => ?_,fun x hx => ?_,?_,hok,hkeys,hblks,?_⟩,fun hbn x hx => ?_⟩
  ·simp [Instr.mapUpdate,run_underlying ht,MapKept.run_getObj_map hb,K.check w false hkey,h1,MapKept.run_setObj_map _ hb,Result.andThen,setBlock]
  ·simp only [Array.toList_push,iE,List.mem_singleton] at hx
   rcases hx with hx | rfl
   ·obtain ⟨y,hy,q1,q2⟩:=hM.e1 x hx
    refine ⟨y,fP.2 (.inl ⟨hy,fun hk=>h2 x hx (by rw [q1,hk])⟩),q1,q2⟩
   ·exact ⟨e,fP.2 (.inr rfl),rfl,rfl⟩
  ·rcases fP.1 hx with ⟨q1,_⟩ | rfl
   ·obtain ⟨y,hy,q2⟩:=hM.e2 x q1
    exact ⟨y,by simp [hy],q2⟩
   ·exact ⟨⟨.int .i64 x.k,x.val,cl⟩,by simp,rfl,rfl⟩
  ·rw [Array.toList_push,List.pairwise_append]
   exact ⟨hM.nd,by simp,fun x hx y hy=>by simp at hy;subst hy;exact h2 x hx⟩
  ·have hno:∀ x∈L,x.k≠e.k:=fun x hx hk=>by
    obtain ⟨y,hy,q2,_⟩:=hM.e2 x hx;exact h2 y hy (by rw [q2,hk])
   rw [vM hno,Array.toList_push,fL,fL,hM.ord];rfl
  ·simp only [Array.toList_push,iE,List.mem_singleton] at hx
   rcases hx with hx | rfl
   ·exact Nat.lt_succ_of_lt (hbn x hx)
   ·exact Nat.lt_succ_self _
 ·have hj:es[j]? = some e0:=by simpa using h2
  have hlist:(es.modify j (fun e'=>{ e' with key := .int .i64 e.k,val:=e.val })).toList=es.toList.set j { e0 with key := .int .i64 e.k,val:=e.val }:=by
   rw [Array.toList_modify,Go.ChangeMaps.modify_eq_set _ _ _ _ h2]
  have hjl:j<es.toList.length:=(Bc.1 h2).1;have hother:∀ i x,es.toList[i]? = some x→i≠j→x.key ≠ .int .i64 e.k:=fun i x hi hij=>by
   rw [← h3];obtain ⟨Ih,rfl⟩:=Bc.1 hi;obtain ⟨N3,hje⟩:=Bc.1 h2;have:=List.pairwise_iff_getElem.1 hM.nd
   rcases Nat.lt_or_ge i j with h | h
   ·rw [← hje];exact this i j Ih N3 h
   ·rw [← hje];exact (this j i N3 Ih (by omega)).symm
  have who:∀ x∈es.toList.set j { e0 with key := .int .i64 e.k,val:=e.val },x={ e0 with key := .int .i64 e.k,val:=e.val }∨(x∈es.toList∧x.key ≠ .int .i64 e.k):=fun x hx=>by
   obtain ⟨i,hi,ex⟩:=List.getElem_of_mem hx;rw [wH] at ex
   split at ex
   ·exact .inl ex.symm
   ·rename_i hne
    have Ce:i<es.toList.length:=by simpa using hi
    exact .inr ⟨ex ▸ gJ Ce,hother i x (by rw [Aq Ce,ex]) (fun e=>hne e.symm)⟩
  refine ⟨es.modify j (fun e'=>{ e' with key := .int .i64 e.k,val:=e.val }),cl,?_,⟨fun x hx => ?_,fun x hx => ?_,?_,hok,hkeys,hblks,?_⟩,fun hbn x hx => ?_⟩
  ·simp [Instr.mapUpdate,run_underlying ht,MapKept.run_getObj_map hb,K.check w false hkey,h1,hj,h3,K.stays w hkey,MapKept.run_setObj_map _ hb,Result.andThen,setBlock]
  ·rw [hlist] at hx
   rcases who x hx with rfl | ⟨q1,q2⟩
   ·exact ⟨e,fP.2 (.inr rfl),rfl,rfl⟩
   ·obtain ⟨y,hy,r1,r2⟩:=hM.e1 x q1
    exact ⟨y,fP.2 (.inl ⟨hy,fun hk=>q2 (by rw [r1,hk])⟩),r1,r2⟩
  ·rw [hlist]
   rcases fP.1 hx with ⟨q1,q2⟩ | rfl
   ·obtain ⟨y,hy,r1,r2⟩:=hM.e2 x q1
    obtain ⟨i,hi,rfl⟩:=List.getElem_of_mem hy;have hij:i≠j:=fun hij=>by
     subst hij;rw [Aq hi] at h2;cases h2
     rw [h3] at r1;injection r1 with _ r1;exact q2 r1.symm
    exact ⟨es.toList[i],List.mem_iff_getElem.2 ⟨i,by simpa using hi,by rw [wH,if_neg (Ne.symm hij)]⟩,r1,r2⟩
   ·exact ⟨_,List.mem_iff_getElem.2 ⟨j,by simpa using hjl,by rw [wH,if_pos rfl]⟩,rfl,rfl⟩
  ·rw [hlist,List.pairwise_iff_getElem]
   intro i1 i2 Ih Fy hlt;simp only [tM] at Ih Fy
   have h0:=List.pairwise_iff_getElem.1 hM.nd i1 i2 Ih Fy hlt;rw [wH,wH]
   split
   ·rename_i e1
    rw [if_neg (by omega)]
    exact (hother i2 _ (Aq Fy) (by omega)).symm
   ·split
    ·exact hother i1 _ (Aq Ih) (by omega)
    ·exact h0
  ·obtain ⟨y,hy,q1,q2⟩:=hM.e1 e0 (Bi h2)
   have hyk:y.k=e.k:=by rw [h3] at q1;injection q1 with _ q1;exact q1.symm
   rw [hlist,qU hy hyk,qK];apply List.ext_getElem?;intro i;rw [eX,eX,List.getElem?_set];have hoi:(es.toList.map fun x=>(x.key,x.val))[i]? = (L.map fun e=>(Value.int .i64 e.k,e.val))[i]? := by rw [hM.ord]
   rw [eX,eX] at hoi
   by_cases hij:j=i
   ·subst hij
    rw [if_pos rfl,if_pos hjl];rw [h2] at hoi
    cases hL:L[j]? with
    | none=>rw [hL] at hoi;cases hoi
    | some z =>
     rw [hL] at hoi
     have hz:z.k=e.k:=by
      simp at hoi
      rw [h3] at hoi
      have:=hoi.1;injection this with _ h;exact h.symm
     simp [hz]
   ·rw [if_neg hij]
    cases hL:L[i]? with
    | none=>rw [hL] at hoi;rw [hoi];rfl
    | some z =>
     rw [hL] at hoi
     rw [hoi];have hz:z.k≠e.k:=fun hz=>by
      cases he:es.toList[i]? with
      | none=>rw [he] at hoi;cases hoi
      | some x =>
       rw [he] at hoi
       simp at hoi
       exact hother i x he (fun h=>hij h.symm) (by rw [hoi.1,hz])
     simp [hz]
  ·rw [hlist] at hx
   rcases who x hx with rfl | ⟨q1,_⟩
   ·exact hbn e0 (Bi h2)
   ·exact hbn x q1

theorem Ent.owns{e:Ent}(he:e.OK)(h:w.heap[e.b]? = some (.cells e.arr 84 (0,0))):w.ownsRow 0 84 6 e.val e.l.length (e.l.flatten.map (Value.int .i64)) :=
 ⟨by rw [eI,oN he.u],.inr ⟨e.b,e.cap,e.arr,rfl,Nat.zero_le _,h,he.le,he.cap,he.sz,he.at_⟩⟩
theorem bEm:w.ownsRow 0 84 6 (.slice none 0 0) 0 []:=⟨rfl,.inl ⟨rfl,rfl⟩⟩
theorem bEn{v:Value}{l:Lqq}{k:Int}(hk:(Lit.int .i64 k).wf=true)(hl:l≠[])(hu:uni 6 l)(h:w.ownsRow 0 84 6 v l.length (l.flatten.map (Value.int .i64))):∃ e:Ent,e.k=k∧e.l=l∧e.val=v∧e.OK∧w.heap[e.b]? = some (.cells e.arr 84 (0,0)):=by
 rcases h.2 with ⟨_,h0⟩ | ⟨g,cap,cur,rfl,_,h1,h2,h3,h4,h5⟩
 ·exact absurd (aDa h0) hl
 ·exact ⟨⟨k,l,g,cap,cur⟩,rfl,rfl,rfl,⟨hk,h4,h2,h3,h5,hu⟩,h1⟩
end
end
section
variable {P:Program} {C C0:Cx} {M M0:Mem} {w w0:World}

abbrev SR:=St→List (Nat × Obj)→Prop
section
variable {k:Nat} {a b c:Code} {Ψ Ψ1 Ψ':SR} {e:Ex}
end

theorem Sim.slot{st:St}{a:Act}(h:Sim P C0 M0 w0 st a w){i:Nat}{v:Value}(hi:st.t[i]? = some (.p (.v v))):a.tmps.getD i undef=v:=by
 obtain ⟨C,hS,_⟩:=h;have:=hS.at hi
 cases this with
 | p _ _ h=>cases h;rfl
theorem Sim.size{st:St}{a:Act}(h:Sim P C0 M0 w0 st a w):a.tmps.size=st.t.length:=by
 obtain ⟨C,hS,_⟩:=h;exact hS.size
end
section
variable {P:Program} {ops:Array Oper} {md:Region.Mode} {S:World→Prop} {Q:Exit→Act→World→Prop} {L:Nat}

def qR(P:Program)(md:Region.Mode)(ops:Array Oper)(Q:Exit→Act→World→Prop)(S:World→Prop)(L:Nat):Nat→Array Bool→Act→World→Prop
 | 0,listed,a,w=>Region.ready md ops listed=[]∧Q .normal a w
 | fuel+1,listed,a,w=>(Region.ready md ops listed=[]→Q .normal a w) ∧
  ∀ i∈Region.ready md ops listed,wpOp P ops Q i (fun a' w'=>(i≠L→S w')∧qR P md ops Q S L fuel (listed.setIfInBounds i true) a' w') a w

theorem aBx:∀ (fuel:Nat) (listed:Array Bool) (a:Act) (w:World),qR P md ops Q S L fuel listed a w→wpAny P md ops Q fuel listed a w
 | 0,_,_,_,h=>h
 | fuel+1,_,_,_,h=>⟨h.1,fun i hi=>wpOp_mono (fun a' w' h'=>aBx fuel _ a' w' h'.2) (h.2 i hi)⟩

theorem aHd{i:Nat}{oi:Oper}{v:Value}(hi:ops[i]? = some oi)(hsel:∀ (j:Nat) (o:Oper) cs b,ops[j]? = some o→o.op ≠ .select cs b)
  (hQ:∀ c a w,Q (.panic c) (a.put oi.dst v) w→Q (.panic c) a w) (hL:∀ oL,ops[L]? = some oL→∃ e∈oL.after,Region.binds md e=true∧e.on=i) :
  ∀ (fuel:Nat) (listed:Array Bool) (a:Act) (w:World),
   (∀ j oj,ops[j]? = some oj→j≠i→listed.getD j true=false→(∀ e∈oj.after,Region.binds md e=true→e.on≠i)→oi.apart ops oj=true) →
   i∈Region.ready md ops listed→YieldsIf P ops S oi v a→S w →
   qR P md ops Q S L fuel (listed.setIfInBounds i true) (a.put oi.dst v) w→qR P md ops Q S L (fuel+1) listed a w:=by
 intro fuel
 induction fuel with
 | zero =>
  intro listed a w _ hr hy hS H;refine ⟨fun h=>(by rw [h] at hr;cases hr),fun j hj => ?_⟩
  by_cases hji:j=i
  ·subst hji;exact hy.wpOp hi hS ⟨fun _=>hS,H⟩
  ·have:=ready_mono hj hji
   rw [H.1] at this
   cases this
 | succ fuel ih =>
  intro listed a w hfree hr hy hS H;refine ⟨fun h=>(by rw [h] at hr;cases hr),fun j hj => ?_⟩
  by_cases hji:j=i
  ·subst hji;exact hy.wpOp hi hS ⟨fun _=>hS,H⟩
  ·have h1:=H.2 j (ready_mono hj hji)
   obtain ⟨hjun,oj,hoj,hall⟩:=mem_ready.1 hj;have hnot:∀ e∈oj.after,Region.binds md e=true→e.on≠i:=fun e he hb heq=>by
    have h1:=hall e he hb;have h0:=(mem_ready.1 hr).1;rw [heq] at h1
    rcases Nat.lt_or_ge i listed.size with h' | h'
    ·simp [h'] at h0 h1;rw [h0] at h1;cases h1
    ·simp [Array.getElem?_eq_none h'] at h1
   have hjL:j≠L:=fun e=>by
    subst e;obtain ⟨e,he,hb,ho⟩:=hL oj hoj;exact hnot e he hb ho
   have h2:=wpOp_putIf hoj (hfree j oj hoj hji hjun hnot) (fun cs b=>hsel i oi cs b hi) (fun cs b=>hsel j oj cs b hoj) hQ hy h1
   have Ks:∀ k ok,ops[k]? = some ok→k≠i→(listed.setIfInBounds j true).getD k true=false →
     (∀ e∈ok.after,Region.binds md e=true→e.on≠i)→oi.apart ops ok=true:=fun k ok hk hki hun hno=>by
    refine hfree k ok hk hki ?_ hno
    by_cases hjk:j=k
    ·subst hjk;exact hjun
    ·rw [getD_set_ne true hjk] at hun;exact hun
   refine wpOp_mono (fun a' w' h3=>⟨h3.2.1,ih (listed.setIfInBounds j true) a' w' Ks (ready_mono hr (Ne.symm hji)) h3.1 (h3.2.1 hjL) ?_⟩) h2
   rw [Array.setIfInBounds_comm _ _ hji];exact h3.2.2

def aHe(P:Program)(S:World→Prop):List (Oper × Value)→Act→Prop
 | [],_=>True
 | (o,v)::r,a=>(∀ W,S W→(execOp a.eval o).run P W = .ok (.value v) W)∧aHe P S r (a.put o.dst v)
def yA:List (Oper × Value)→Act→Act
 | [],a=>a
 | (o,v)::r,a=>yA r (a.put o.dst v)

def aEz(md:Region.Mode)(ops:Array Oper)(L:Nat)(rs:List Nat):List Nat→Array Bool→Bool
 | [],listed=>chain rs listed
 | t::ts,listed=>(match ops[t]? with | some o=>o.guard.isNone | none=>false) && (Region.ready md ops listed).contains t && Region.free md ops listed t &&
   (match ops[L]? with | some oL=>oL.after.any fun e=>Region.binds md e && e.on == t | none=>false) && aEz md ops L rs ts (listed.setIfInBounds t true)
where chain:List Nat→Array Bool→Bool
 | [],listed=>(Region.ready md ops listed).isEmpty
 | r::rs,listed=>(match ops[r]? with | some o=>o.guard.isNone | none=>false) && decide (Region.ready md ops listed=[r]) && chain rs (listed.setIfInBounds r true)

theorem tX{r fuel:Nat}{listed:Array Bool}{o:Oper}{a:Act}{w:World}(hr:Region.ready md ops listed=[r])(ho:ops[r]? = some o)(hg:o.guard=none){v:Value}{w':World}
  (hrun:(execOp a.eval o).run P w = .ok (.value v) w'∨(execOp a.eval o).run P w = .ok .skip w'∧v=undef) (hS:r≠L→S w') (h:qR P md ops Q S L fuel (listed.setIfInBounds r true) (a.put o.dst v) w'):qR P md ops Q S L (fuel+1) listed a w:=by
 refine ⟨fun h0=>(by rw [hr] at h0;cases h0),fun i hi => ?_⟩
 rw [hr] at hi
 obtain rfl:i=r:=by simpa using hi
 unfold wpOp;simp only [ho];have hw:Region.wanted o (yielded ops a.tmps)=true:=by simp [Region.wanted,hg]
 rw [if_pos hw];refine .inl ?_;unfold Oper.wp
 rcases hrun with hrun | ⟨hrun,rfl⟩
 ·rw [hrun];exact ⟨hS,h⟩
 ·rw [hrun];exact ⟨hS,h⟩

theorem aFa(hsel:Region.noSelect ops=true)(hQ:∀ c a w,¬ Q (.panic c) a w)(rs:List Nat){w:World}(hS:S w):∀ (ts:List Nat) (vs:List Value) (listed:Array Bool) (a:Act),vs.length=ts.length→aEz md ops L rs ts listed=true →
  aHe P S ((ts.filterMap fun i=>ops[i]?).zip vs) a→(∀ E0,aEz.chain md ops rs E0=true→qR P md ops Q S L rs.length E0 (yA ((ts.filterMap fun i=>ops[i]?).zip vs) a) w)→qR P md ops Q S L (ts.length+rs.length) listed a w
 | [],vs,listed,a,hl,hB,hy,h=>by
  have:vs=[]:=by simpa using hl
  subst this;simp only [List.length_nil,fG];exact h listed hB
 | t::ts,[],listed,a,hl,hB,hy,h=>by simp at hl
 | t::ts,v::vs,listed,a,hl,hB,hy,h=>by
  simp only [aEz,Bl] at hB
  obtain ⟨⟨⟨⟨hp,hrd⟩,hf⟩,hlast⟩,Og⟩:=hB;cases ho:ops[t]? with
  | none=>rw [ho] at hp;cases hp
  | some o =>
   rw [ho] at hp
   simp only [Option.isNone_iff_eq_none] at hp
   have e0:(t::ts).filterMap (fun i=>ops[i]?)=o::ts.filterMap (fun i=>ops[i]?):=by simp [ho]
   rw [e0,List.zip_cons_cons] at hy h
   have hw:Region.wanted o (yielded ops a.tmps)=true:=by simp [Region.wanted,hp]
   have e:(t::ts).length+rs.length=(ts.length+rs.length)+1:=by simp;omega
   rw [e];refine aHd ho (Region.noSelect_spec hsel) (fun c a w hq=>absurd hq (hQ _ _ _)) (fun oL hoL => ?_) _ _ _ _ (Region.free_spec ho hf) (by simpa using hrd) (.inl ⟨hw,hy.1⟩) hS ?_
   ·rw [hoL] at hlast
    obtain ⟨e,he,hb⟩:=Array.any_eq_true'.1 hlast;simp only [Bl,beq_iff_eq] at hb
    exact ⟨e,he,hb.1,hb.2⟩
   ·exact aFa hsel hQ rs hS ts vs _ _ (by simpa using hl) Og hy.2 h

def aHf(l:List Oper)(ts:List Nat)(r1 r2 r3:Nat):Bool :=
 Region.noSelect l.toArray && aEz .any l.toArray r3 [r1,r2,r3] ts (Array.replicate l.toArray.size false) && decide (ts.length+3=l.toArray.size) && decide (r1≠r3∧r2≠r3)

theorem bC{a:Act}{i:Nat}{v:Value}(h:i<a.tmps.size):(a.put (some i) v).eval (.tmp i)=v:=by
 simp [Act.eval,Act.put,h]
theorem bG{a:Act}{i j:Nat}{v:Value}(h:(i == j)=false):(a.put (some i) v).eval (.tmp j)=a.eval (.tmp j):=by
 have:i≠j:=by simpa using h
 simp [Act.eval,Act.put,this]
theorem cU{a:Act}{i:Nat}{v:Value}:(a.put (some i) v).tmps.size=a.tmps.size:=by simp [Act.put]
end
section
open Go.Maps Go.MapKept
open Go.ChangeMaps (setBlock)
variable {P:Program} {C C0:Cx} {M M0:Mem} {w w0:World}

section
variable {o:Oper} {a:Act} {W W':World}
theorem oT{t:TypeId}{x:Operand}{v r:Value}(ho:o.op = .load t x)(hx:a.eval x=v)(hr:(Instr.loadAt t v).run P W = .ok r W):(execOp a.eval o).run P W = .ok (.value r) W:=by
 unfold execOp;rw [ho];simp [hx,hr,Result.andThen]
theorem aXe{t:TypeId}{x k:Operand}{v u r:Value}(ho:o.op = .lookup t x k false)(hx:a.eval x=v)(hk:a.eval k=u)(hr:(Instr.lookup t v u false).run P W = .ok r W):(execOp a.eval o).run P W = .ok (.value r) W:=by
 unfold execOp;rw [ho];simp [hx,hk,hr,Result.andThen]
theorem aXf{t:TypeId}{x:Operand}{v r:Value}(ho:o.op = .buildSlice t 1 #[(0,x)])(hx:a.eval x=v)(hr:(Instr.buildSlice t 1 #[(0,v)]).run P W = .ok r W'):(execOp a.eval o).run P W = .ok (.value r) W':=by
 unfold execOp;rw [ho];simp [hx,hr,Result.andThen]
theorem aXg{t:TypeId}{s x:Operand}{v u r:Value}(ho:o.op = .call { callee := .builtin .append,args := #[s,x],argTypes := #[t,t] })(hs:a.eval s=v)(hx:a.eval x=u)(hr:(Builtin.append_ #[t,t] o.type #[v,u]).run P W = .ok r W') :
  (execOp a.eval o).run P W = .ok (.value r) W':=by
 unfold execOp;simp only [ho,resolve,invoke,builtin,Sem.run_bind,Sem.run_pure,Result.andThen_ok,List.map_toArray,gY,List.map_nil,hs,hx,hr]
theorem aXh{t:TypeId}{m k x:Operand}{v u y:Value}(ho:o.op = .mapUpdate t m k x)(hm:a.eval m=v)(hk:a.eval k=u)(hx:a.eval x=y)(hr:(Instr.mapUpdate t v u y).run P W = .ok () W'):(execOp a.eval o).run P W = .ok .skip W':=by
 unfold execOp;rw [ho];simp [hm,hk,hx,hr,Result.andThen]
end

theorem wS{t:Nat}{i:TI}(hi:bY P t=some i)(ha:i.agg=false){b o:Nat}{v:Value}(h:w.cell? ⟨b,o,none⟩=some v):(Instr.loadAt t (.pointer (some ⟨b,o,none⟩))).run P w = .ok v w:=by
 unfold Instr.loadAt Instr.sureAddr;simpa using kO hi ha h

def gA(mb:Nat)(es:Array MapEntry)(cl:Nat)(L:List Ent):List (Nat × Obj):=(mb,.map es cl)::L.map Ent.blk
theorem cK{mb:Nat}{es:Array MapEntry}{cl:Nat}{L:List Ent}{p:Nat × Obj}:p∈gA mb es cl L↔p=(mb,.map es cl)∨∃ e∈L,e.blk=p:=by simp [gA]
def nT(L:List Ent)(k:Int):Lqq:=match qT L k with
 | some e=>e.l
 | none=>[]
theorem vL{α β:Type}(f:α→β){x y:α}:∀ (L:List α),(L.map f).Nodup→x∈L→y∈L→f x=f y→x=y
 | [],_,h,_,_=>by simp at h
 | a::r,hn,hx,hy,he=>by
  rw [gY,List.nodup_cons] at hn
  rcases gX.1 hx with e1 | h1
  ·rcases gX.1 hy with e2 | h2
   ·rw [e1,e2]
   ·exact absurd (dS.2 ⟨y,h2,by rw [← he,e1]⟩) hn.1
  ·rcases gX.1 hy with e2 | h2
   ·exact absurd (dS.2 ⟨x,h1,by rw [he,e2]⟩) hn.1
   ·exact vL f r hn.2 h1 h2 he
theorem kW.b_inj{mb:Nat}{es:Array MapEntry}{L:List Ent}(h:kW mb es L){e e':Ent}(he:e∈L)(Of:e'∈L)(hb:e.b=e'.b):e=e':=vL (·.b) L (List.nodup_cons.1 h.blks).2 he Of hb
theorem kW.b_mb{mb:Nat}{es:Array MapEntry}{L:List Ent}(h:kW mb es L){e:Ent}(he:e∈L):e.b≠mb:=fun hb=>(List.nodup_cons.1 h.blks).1 (dS.2 ⟨e,he,hb⟩)

abbrev Hr:Value := .agg #[.int .i64 0,.int .i64 0,.int .i64 0,.int .i64 0,.int .i64 0,.int .i64 0]
def vsL(x:List Int):List Value:=x.map (Value.int .i64)
theorem aXi(w:World)(x:List Int):∀ j u,(vsL x)[j]? = some u→(w.alloc (.cells (vsL x).toArray 84)).cell? ((⟨w.heap.size,0,none⟩:Addr).add j)=some u:=fun j u h=>by
 have hj:j<(vsL x).length:=(Bc.1 h).1;have e:(⟨w.heap.size,0,none⟩:Addr).add j=⟨w.heap.size,j,none⟩:=by unfold Addr.add;split <;> simp_all
 rw [e];unfold World.cell? World.alloc;simp [h]
theorem bKg{t kt:TypeId}{S22 ty:TypeId}{st:St}{a:Act}{mb cl:Nat}{es:Array MapEntry}{L:List Ent}{k:Int}{x:List Int}(Jo:x.length=6)(ht:P.underlying t=some (.map kt S22))(hkt:P.underlying kt=some (.int .i64))(S8:P.underlying S22=some (.slice 84))
  (I2:(P.info? 84).map (fun i=>(i.zero,i.size,i.bytes))=some (some Hr,6,48))
  (hs:Sim P (C0.with (gA mb es cl L++C0.R)) M0 w0 st a w) (hd:∀ p∈gA mb es cl L,∀ q∈C0.R,p.1≠q.1) (hM:kW mb es L) (hk:(Lit.int .i64 k).wf=true) (hl:∀ e∈L,e.l.length≤1000) :
  ∃ v2 w2 B2 Da e,(Builtin.append_ #[S22,S22] ty #[pH L k,.slice (some ⟨w.heap.size,0,none⟩) 1 1]).run P (w.alloc (.cells (vsL x).toArray 84)) = .ok v2 w2 ∧
   (∀ b,b<w.heap.size→(∀ q∈gA mb es cl L,q.1≠b)→w2.heap[b]? = w.heap[b]?)∧w2.heap[mb]? = w.heap[mb]? ∧
   (w.heap.size≤w2.heap.size∧((∀ x∈es.toList,x.born<cl)→∀ x∈B2.toList,x.born<Da)∧∀ p∈gA mb B2 Da (nU L e),(∃ p0∈gA mb es cl L,p0.1=p.1)∨w.heap.size≤p.1) ∧
   (Instr.mapUpdate t (.map (some mb)) (.int .i64 k) v2).run P w2 = .ok () (setBlock w2 mb (.map B2 Da))∧kW mb B2 (nU L e)∧e.k=k∧e.l=nT L k++[x] ∧
   (∀ p∈gA mb B2 Da (nU L e),∀ q∈C0.R,p.1≠q.1)∧Sim P (C0.with (gA mb B2 Da (nU L e)++C0.R)) M0 w0 st a (setBlock w2 mb (.map B2 Da)):=by
 obtain ⟨i,hi,hz,Eg,Ld⟩:=info_parts I2;have hhas:=hs.has;have hmb:w.heap[mb]? = some (.map es cl):=hhas (mb,.map es cl) (by simp [gA])
 have hmlt:=bM hmb;have hblkh:∀ e∈L,w.heap[e.b]? = some (.cells e.arr 84 (0,0)):=fun e he=>hhas e.blk (by simp [gA];exact .inr (.inl ⟨e,he,rfl⟩))
 obtain ⟨n1,n2,n3⟩:=iM w (.cells (vsL x).toArray 84);have hown:(w.alloc (.cells (vsL x).toArray 84)).ownsRow 0 84 6 (pH L k) (nT L k).length ((nT L k).flatten.map (Value.int .i64))∧((pH L k).ownBlock=none∨∃ e0∈L,e0.k=k∧(pH L k).ownBlock=some e0.b)∧(nT L k).length≤1000:=by
  unfold pH nT;cases h:qT L k with
  | none=>exact ⟨bEm,.inl rfl,by simp⟩
  | some e0 =>
   obtain ⟨q1,q2⟩:=tY h;exact ⟨Ent.owns (hM.ok e0 q1) ((n3 _ (bM (hblkh e0 q1))).trans (hblkh e0 q1)),.inr ⟨e0,q1,q2,rfl⟩,hl e0 q1⟩
 obtain ⟨ho,hbk,hlen⟩:=hown;have S9:uni 6 (nT L k++[x]):=by
  intro y hy
  rcases iE.1 hy with h | h
  ·unfold nT at h
   cases hq:qT L k with
   | none=>rw [hq] at h;cases h
   | some e0=>rw [hq] at h;exact (hM.ok e0 (tY hq).1).u y h
  ·simp at h;rw [h];exact Jo
 obtain ⟨v2,w2,hrun,Jj,Hd,hnil,hat⟩:=run_append_own_at (P:=P) (w:=w.alloc (.cells (vsL x).toArray 84)) 0 S22 ty 84 i Hr 6 48 S8 hi hz Eg Ld rfl (by decide) (pH L k) (nT L k).length _ ho
  ⟨w.heap.size,0,none⟩ 1 1 (vsL x) (by simp [vsL,Jo]) (aXi w x) (fun u hu=>by obtain ⟨z,_,rfl⟩:=dS.1 hu;rfl) (by unfold maxLen;omega) (by omega) (Nat.zero_le _)
 have Pz:w2.ownsRow 0 84 6 v2 (nT L k++[x]).length ((nT L k++[x]).flatten.map (Value.int .i64)):=by
  rw [lT,bDd,fL,List.flatten_singleton];exact Jj
 obtain ⟨e,rfl,hel,rfl,heo,heh⟩:=bEn hk (by simp) S9 Pz
 have hvb:e.val.ownBlock=some e.b:=rfl;have hwhere:(∃ e0∈L,e0.k=e.k∧e0.b=e.b)∨e.b=w.heap.size+1:=by
  rcases hat with h | h
  ·rcases hbk with h0 | ⟨e0,q1,q2,q3⟩
   ·rw [h0,hvb] at h;cases h
   ·rw [q3,hvb] at h;exact .inl ⟨e0,q1,q2,(Option.some.inj h).symm⟩
  ·rw [hvb] at h
   right
   have:=Option.some.inj h;rw [this];simp
 have hrow:∀ b,b<w.heap.size→(∀ e0∈L,e0.k=e.k→e0.b≠b)→w2.heap[b]? = w.heap[b]? := fun b hb hno=>by
  refine (Hd.block b (by omega) (fun he => ?_)).trans (n3 b hb)
  rcases hbk with h0 | ⟨e0,q1,q2,q3⟩
  ·rw [h0] at he;cases he
  ·rw [q3] at he;exact hno e0 q1 q2 (Option.some.inj he).symm
 have hblk:e.b≠mb∧∀ y∈L,y.k≠e.k→y.b≠e.b:=by
  rcases hwhere with ⟨e0,q1,q2,q3⟩ | h
  ·refine ⟨q3 ▸ hM.b_mb q1,fun y hy hyk hb=>hyk ?_⟩
   have:=hM.b_inj hy q1 (hb.trans q3.symm);rw [this];exact q2
  ·refine ⟨by omega,fun y hy _ hb => ?_⟩
   have:=bM (hblkh y hy);omega
 have Hu:w2.heap[mb]? = w.heap[mb]? := hrow mb hmlt fun e0 Mt _=>hM.b_mb Mt
 obtain ⟨B2,Da,hup,Fu,hbn⟩:=bKh (P:=P) (w:=w2) ht hkt (Hu.trans hmb) hM e heo hblk;refine ⟨e.val,w2,B2,Da,e,hrun,fun b hb hno=>hrow b hb fun e0 Mt _=>hno e0.blk (by simp [gA];exact .inr ⟨e0,Mt,rfl⟩),Hu,⟨by have:=Hd.size;omega,hbn,fun p hp => ?_⟩,hup,Fu,rfl,hel,?_,?_⟩
 ·rcases cK.1 hp with rfl | ⟨y,hy,rfl⟩
  ·exact .inl ⟨_,cK.2 (.inl rfl),rfl⟩
  ·rcases fP.1 hy with ⟨q1,_⟩ | rfl
   ·exact .inl ⟨_,cK.2 (.inr ⟨y,q1,rfl⟩),rfl⟩
   ·rcases hwhere with ⟨e0,r1,_,r3⟩ | h
    ·exact .inl ⟨_,cK.2 (.inr ⟨e0,r1,rfl⟩),r3⟩
    ·exact .inr (by show w.heap.size≤y.b;omega)
 ·intro p hp q hq
  rcases cK.1 hp with rfl | ⟨y,hy,rfl⟩
  ·exact hd (mb,.map es cl) (by simp [gA]) q hq
  ·rcases fP.1 hy with ⟨q1,q2⟩ | rfl
   ·exact hd y.blk (cK.2 (.inr ⟨y,q1,rfl⟩)) q hq
   ·rcases hwhere with ⟨e0,q1,q2,q3⟩ | h
    ·exact fun hpq=>hd e0.blk (cK.2 (.inr ⟨e0,q1,rfl⟩)) q hq (by rw [← hpq];exact q3)
    ·have:=bM (hhas q (aDb _ hq))
     intro hpq;change y.b=q.1 at hpq
     omega
 ·have hne:∀ p∈C0.R,p.1≠mb∧∀ e0∈L,p.1≠e0.b:=fun p hp=>⟨fun h=>hd (mb,.map es cl) (by simp [gA]) p hp h.symm,fun e0 Mt h=>hd e0.blk (cK.2 (.inr ⟨e0,Mt,rfl⟩)) p hp h.symm⟩
  have hset:∀ b,b≠mb→(setBlock w2 mb (.map B2 Da)).heap[b]? = w2.heap[b]? := fun b hb=>by
   unfold setBlock;simp only [Array.getElem?_setIfInBounds];rw [if_neg (Ne.symm hb)]
  have hsetm:(setBlock w2 mb (.map B2 Da)).heap[mb]? = some (.map B2 Da):=by
   unfold setBlock;have:mb<w2.heap.size:=bM (Hu.trans hmb);simp [this]
  refine hs.beside (fun b=>b=mb∨∃ e0∈L,e0.k=e.k∧e0.b=b) (fun b hb => ?_) Hd.os Hd.tape Hd.output (by have:=Hd.size;unfold setBlock;simp only [Array.size_setIfInBounds];omega) (fun b hb hX => ?_) (fun p hp => ?_)
  ·rcases hb with rfl | ⟨e0,q1,q2,rfl⟩
   ·exact ⟨_,nR _ (cK.2 (.inl rfl))⟩
   ·exact ⟨_,nR _ (cK.2 (.inr ⟨e0,q1,rfl⟩))⟩
  ·rw [hset b (fun h=>hX (.inl h))]
   exact hrow b hb fun e0 q1 q2 q3=>hX (.inr ⟨e0,q1,q2,q3⟩)
  ·rcases iE.1 hp with hp | hp
   ·rcases cK.1 hp with rfl | ⟨y,hy,rfl⟩
    ·exact .inr ⟨hsetm,(fun h=>by cases h),.inr ⟨_,nR _ (cK.2 (.inl rfl))⟩⟩
    ·rcases fP.1 hy with ⟨q1,q2⟩ | rfl
     ·refine .inl ⟨nR _ (cK.2 (.inr ⟨y,q1,rfl⟩)),fun hX => ?_⟩
      rcases hX with hX | ⟨e0,r1,r2,r3⟩
      ·exact hM.b_mb q1 hX
      ·have:=hM.b_inj q1 r1 r3.symm
       exact q2 (this ▸ r2)
     ·refine .inr ⟨(hset _ hblk.1).trans heh,(fun h=>by cases h),?_⟩
      rcases hwhere with ⟨e0,r1,r2,r3⟩ | h
      ·exact .inr ⟨.cells e0.arr 84 (0,0),nR _ (cK.2 (.inr ⟨e0,r1,by unfold Ent.blk;rw [r3]⟩))⟩
      ·exact .inl (by show w.heap.size≤y.b;omega)
   ·refine .inl ⟨aDb _ hp,fun hX => ?_⟩
    rcases hX with hX | ⟨e0,r1,r2,r3⟩
    ·exact (hne p hp).1 hX
    ·exact (hne p hp).2 e0 r1 r3.symm
end
section
open Go.ChangeMaps (setBlock)
variable {P:Program} {C:Cx} {M:Mem} {w:World}

def aDf(P:Program)(C:Cx)(M:Mem)(w:World)(C':Cx)(M':Mem)(W:World):Prop:=(∀ b,C'.F b↔C.F b)∧aP P C' M' W∧Fr C M w C' M' W
def aHc(M M':Mem):Prop:=(∀ (i:Nat) (es:List (Value × PV)) (cl:Nat),M'[i]? = some (some (.mp es cl))→∃ o,M[i]? = some (some o)∧o.live=true)∧aMn M'

theorem aDf.same{M':Mem}{W W':World}{C':Cx}(hn:aHc M M')(Cc:aP P C M w)(h:aDf P C M w C' M' W)(hsz:W.heap.size≤W'.heap.size)(ho:W'.os=W.os)(ht:W'.tape=W.tape)(hu:W'.output=W.output)
  (hs:∀ b,b<W.heap.size→(b<w.heap.size∧(∀ (id:Nat) (o:AO),M[id]? = some (some o)→o.live=true→C.ι id=some b→∃ o',M'[id]? = some (some o')∧o'.live=true))∨(kU W b∧∃ (id:Nat) (o:AO),M'[id]? = some (some o)∧o.live=true∧C'.ι id=some b)→W'.heap[b]? = W.heap[b]?):aDf P C M w C' M' W':=by
 obtain ⟨hF,hM,f⟩:=h;have old:∀ (i:Nat) (o:AO),M[i]? = some (some o)→C'.ι i=C.ι i:=fun i o h=>(f.ids i o h).2.1
 have hFz:∀ b,C'.F b→W'.heap[b]? = W.heap[b]? := fun b hb=>hs b (hM.Fs b hb) (.inl ⟨Cc.Fs b ((hF b).1 hb),fun id o ho hl he=>absurd ((hF b).1 hb) (Cc.nF id o b ho hl he)⟩)
 have hL:Le C' C' M' M' W W':=⟨fun _ o h=>⟨o,h⟩,fun _ _ _ _ _ cs h=>⟨cs,h⟩,fun _ o h o' h' hl=>by rw [h] at h';cases h';exact ⟨hl,rfl,rfl⟩,fun _ h=>h,hFz⟩
 refine ⟨hF,⟨fun i ty n cs hm => ?_,fun i ty cs hm => ?_,fun i es cl hm => ?_,hM.inj,hM.nF,fun b hb=>Cg (hM.Fs b hb) hsz,fun i o b ho hl hb=>Cg (hM.lt i o b ho hl hb) hsz⟩,
  ⟨ho.trans f.os,ht.trans f.tape,hu.trans f.out,fM f.size hsz,fun b hb hno=>(hs b (Cg hb f.size) (.inl ⟨hb,fun id o ho hl he=>absurd he (hno id o ho hl)⟩)).trans (f.keep b hb hno),f.ids,f.row,f.liv,f.new,f.F1,f.F2⟩⟩
 ·rcases hM.row _ _ _ _ hm with h4 | ⟨b,arr,inf,q0,q1,q2,q3,q4,q5,q6,q7,q8⟩
  ·exact .inl h4
  ·exact .inr ⟨b,arr,inf,q0,(hs b (bM q1) (.inr ⟨eN q1,i,_,hm,rfl,q0⟩)).trans q1,q2,q3,q4,q5,q6,fun j hj=>(q7 j hj).mono hL.F hL.fz,q8⟩
 ·obtain ⟨b,arr,q0,q1,q2,q3,q4⟩:=hM.box _ _ _ hm
  exact ⟨b,arr,q0,(hs b (bM q1) (.inr ⟨eN q1,i,_,hm,rfl,q0⟩)).trans q1,q2,fun j hj=>(q3 j hj).mono hL,q4⟩
 ·obtain ⟨b,arr,q0,q1,q2,q3⟩:=hM.mp _ _ _ hm
  obtain ⟨o,C9,hl⟩:=hn.1 _ _ _ hm;have hb:C.ι i=some b:=by rw [← old i o C9];exact q0
  refine ⟨b,arr,q0,(hs b (bM q1) (.inl ⟨Cc.lt i o b C9 hl hb,fun id o2 Jj Ct he => ?_⟩)).trans q1,q2,fun j hj => ?_⟩
  ·obtain rfl:=Cc.inj id i o2 o b Jj Ct C9 hl he hb
   exact ⟨_,hm,rfl⟩
  ·obtain ⟨en,r1,r2,r3,r4⟩:=q3 j hj
   exact ⟨en,r1,r2,r3,r4.mono hL.F hL.fz⟩

theorem aDf.own{M':Mem}{W W':World}{C':Cx}{row:Option Nat}(hn:aHc M M')(Cc:aP P C M w)(h:aDf P C M w C' M' W)(hg:W.grownBy W' row)
  (hr:∀ r,row=some r→w.heap.size≤r∧∃ o:Obj,W.heap[r]? = some o∧o.isCells=false):aDf P C M w C' M' W' :=
 h.same hn Cc hg.size hg.os hg.tape hg.output fun b hb hd=>hg.block b hb fun e=>by
  obtain ⟨q1,o,q2,q3⟩:=hr b e.symm
  rcases hd with ⟨hd,_⟩ | ⟨hd,_⟩
  ·omega
  ·exact iO q2 q3 hd
end
end KV
end Go.Proofs
section
namespace Go.Proofs
open Go.RowKit Go.Lib
namespace KV
open Tryz
attribute [local go_sem] Oper.semAt_some

def bk(n i:Nat):List Nat:=((List.range n).drop i).reverse
theorem bKe{n i:Nat}(h:i<n):bk n i=bk n (i+1)++[i]:=by
 unfold bk;rw [bDb (by simpa using h),List.reverse_cons]
 simp
theorem bRa(n:Nat):bk n n=[]:=by unfold bk;rw [List.drop_eq_nil_of_le (by simp)];rfl
theorem bKf(n:Nat):bk n 0=(List.range n).reverse:=rfl
theorem aPd{n i:Nat}:(bk n i).length=n-i:=by simp [bk]
theorem aXd{n i:Nat}(h:i≤n):bk n i <+: bk n 0:=by
 unfold bk;rw [List.drop_zero];refine ⟨((List.range n).take i).reverse,?_⟩;rw [← List.reverse_append,aVc]
theorem bVp{n i:Nat}(h:i<n):(bk n (i+1)).length<(bk n 0).length:=by rw [aPd,aPd];omega
end KV
end Go.Proofs
end
section
namespace Go.Proofs
open Go.RowKit Go.Lib Go.Shelf
namespace KV
open Tryz
attribute [local go_sem] Oper.semAt_some
def Hid(p:Prop):Prop:=p
theorem hid{p:Prop}(h:p):Hid p:=h
theorem Hid.out{p:Prop}(h:Hid p):p:=h
def Cf(x:List Int):Array Value:=(x.map (Value.int .i64)).toArray
set_option maxRecDepth 1000000 in
set_option maxHeartbeats 2000000 in
theorem aPb(dc:Lqq)(hl:dc.length≤1000)(F0:Nat→Prop)(n l b1 o1 b2 o2 cap:Nat)(hn:1≤n)(J Jx:List Nat→World→Prop)
  (hY:∀ pre (k:Nat) (a b c d e f:Int) W,dc[k]? = some [a,b,c,d,e,f]→J pre W→pre.length<(bk dc.length 0).length→YieldAt Fence.wide (n-1) Tp l #[.int .i64 k,.agg #[.int .i64 a,.int .i64 b,.int .i64 c,.int .i64 d,.int .i64 e,.int .i64 f]] W fun e W' =>
   (e = .returned (.bool true)∧J (pre++[k]) W'∧KpG F0 W W')∨(e = .returned (.bool false)∧Jx (pre++[k]) W'))
  (W:World) (hJ:AbidesFrom W.heap.size J) (hF:∀ b,F0 b→b<W.heap.size)
  (hc:∀ W',KpG F0 W W'→∀ k:Nat,k<dc.length→∃ a b c d e f,dc[k]? = some [a,b,c,d,e,f]∧W'.cell? ⟨b2,o2+k*6,none⟩=some (.int .i64 a)∧W'.cell? ⟨b2,o2+k*6+1,none⟩=some (.int .i64 b)∧W'.cell? ⟨b2,o2+k*6+2,none⟩=some (.int .i64 c)∧W'.cell? ⟨b2,o2+k*6+3,none⟩=some (.int .i64 d)∧W'.cell? ⟨b2,o2+k*6+4,none⟩=some (.int .i64 e)∧W'.cell? ⟨b2,o2+k*6+5,none⟩=some (.int .i64 f))
  (hk:∀ W',KpG F0 W W'→W'.cell? ⟨b1,o1,none⟩=some (.slice (some ⟨b2,o2,none⟩) dc.length cap)) (h0:J [] W) :
  CallsIn Fence.wide n Tp 157 #[.func (.yield l) #[] #[],.pointer (some ⟨b1,o1,none⟩)] W fun e W'=>(∃ v,e = .returned v) ∧
   ((∃ ys,ys=bk dc.length 0∧J ys W')∨(∃ pre,pre <+: bk dc.length 0∧Jx pre W')):=by
 have HJ:=hid hJ;have HY:=hid hY;have HC:=hid hc;have HKC:=hid hk;have HF0:=hid hF;have HJ0:=hid h0;have k0:=hk W (KpG.refl _ _);clear hJ hY hc h0 hk hF;refine callsIn_of_wp func157 rfl trivial ?_ rfl;simp only [Tryz.ntmps157,List.size_toArray,tK,List.length_nil,Nat.reduceAdd,Nat.reduceSub,Array.replicate_succ,Array.replicate_zero,List.push_toArray,List.append_toArray,List.nil_append,List.cons_append]
 gi_wp2
 clear k0
 gi_loopw [3] (fun i wr=>∃ k:Nat,k≤dc.length∧i = .int .i64 ((k:Int)-1)∧J (bk dc.length k) wr∧KpG F0 W wr)
  (fun i _=>(intOf i+1).toNat)
 case atStart=>exact ⟨dc.length,dH _,by go_num,by rw [bRa];exact HJ0.out,KpG.refl _ _⟩
 case round =>
  obtain ⟨k,hk,rfl,hJk,hK⟩:=hrel;have HJK:=hid hJk;have HK:=hid hK;have k0:=HKC.out wr hK;have HFR:=hid (fun b (hb:F0 b)=>Cg (HF0.out b hb) HK.out.size)
  clear hJk hK
  rcases Nat.eq_zero_or_pos k with rfl | hpos
  ·gi_wp2
   go_end0
   exact ⟨⟨_,rfl⟩,.inl ⟨_,rfl,HJK.out⟩⟩
  ·obtain ⟨k,rfl⟩:∃ j,k=j+1:=⟨k-1,by omega⟩
   have e1:((k+1:Nat):Int)-1=(k:Int):=by omega
   have hlt:(k:Int)<(dc.length:Int):=by omega
   have S7:(dc.length:Int)≤1000:=by omega
   rw [e1];obtain ⟨a,b,c,d,e,f,Q2,c0,c1,c2,c3,c4,c5⟩:=HC.out wr HK.out k (by omega)
   have HL:=hid (bVp (n:=dc.length) (i:=k) (by omega))
   have HB:=hid (bKe (n:=dc.length) (i:=k) (by omega))
   have HP:=hid (aXd (n:=dc.length) (i:=k) (by omega))
   have hge:(k:Int) ≥ 0:=by omega
   obtain ⟨fn,tmps,assign,body,hy,hR⟩:=HY.out _ k a b c d e f wr Q2 HJK.out HL.out;clear Q2
   gi_wp2_with (refine hR.mono ?_;clear hR;rintro e w3 (⟨rfl,Px,Mq⟩ | ⟨rfl,hx⟩))
   ·go_roundw
    case rel=>exact ⟨k,by omega,by go_num,by rw [HB.out];exact Px,HK.out.trans Mq⟩
    case measure=>simp [intOf]
   ·refine bodyPost_ret (results_none rfl _ _ _) rfl ?_
    exact ⟨⟨_,rfl⟩,.inr ⟨bk dc.length (k+1)++[k],HB.out ▸ HP.out,hx⟩⟩
set_option maxRecDepth 1000000 in
set_option maxHeartbeats 2000000 in
theorem aPc(n l b1 o1 cap:Nat)(p:Option Addr)(hn:1≤n)(J:World→Prop)(W:World)(hk:W.cell? ⟨b1,o1,none⟩=some (.slice p 0 cap))(h0:J W) :
  CallsIn Fence.wide n Tp 157 #[.func (.yield l) #[] #[],.pointer (some ⟨b1,o1,none⟩)] W fun e W'=>(∃ v,e = .returned v)∧J W':=by
 have HJ0:=hid h0;have k0:=hk;clear h0 hk;refine callsIn_of_wp func157 rfl trivial ?_ rfl;simp only [Tryz.ntmps157,List.size_toArray,tK,List.length_nil,Nat.reduceAdd,Nat.reduceSub,Array.replicate_succ,Array.replicate_zero,List.push_toArray,List.append_toArray,List.nil_append,List.cons_append]
 gi_wp2
 clear k0
 gi_loopw [3] (fun i wr=>i = .int .i64 (-1)∧J wr) (fun i _=>(intOf i+1).toNat)
 case atStart=>exact ⟨by go_num,HJ0.out⟩
 case round =>
  obtain ⟨rfl,hJk⟩:=hrel;have HJK:=hid hJk;clear hJk
  gi_wp2
  go_end0
  exact ⟨⟨_,rfl⟩,HJK.out⟩
end KV
end Go.Proofs
end
namespace Go.Proofs
namespace KV
open Tryz
section
variable {P:Program} {ops:Array Oper} {md:Region.Mode} {Q:Exit→Act→World→Prop} {F:Fence} {n:Nat}

def VS(P:Program)(m:Sem Next):Prop:=∀ w,(∃ v w',m.run P w = .ok (.value v) w')∨(∃ w',m.run P w = .ok .skip w')∨∃ x w',m.run P w = .halt x w'
theorem VS.val(m:Sem Value):VS P (do pure (.value (← m))):=fun w=>by
 cases h:m.run P w with
 | ok v w'=>exact .inl ⟨v,w',by simp [h,Result.andThen]⟩
 | halt x w'=>exact .inr (.inr ⟨x,w',by simp [h,Result.andThen]⟩)
theorem VS.unit(m:Sem Unit):VS P (do m;pure .skip):=fun w=>by
 cases h:m.run P w with
 | ok v w'=>exact .inr (.inl ⟨w',by simp [h,Result.andThen]⟩)
 | halt x w'=>exact .inr (.inr ⟨x,w',by simp [h,Result.andThen]⟩)
theorem VS.bind{α:Type}(m:Sem α)(f:α→Sem Next)(h:∀ x,VS P (f x)):VS P (m >>= f):=fun w=>by
 cases e:m.run P w with
 | ok v w' =>
  rcases h v w' with ⟨u,w2,q⟩ | ⟨w2,q⟩ | ⟨x,w2,q⟩
  ·exact .inl ⟨u,w2,by simp [e,Result.andThen,q]⟩
  ·exact .inr (.inl ⟨w2,by simp [e,Result.andThen,q]⟩)
  ·exact .inr (.inr ⟨x,w2,by simp [e,Result.andThen,q]⟩)
 | halt x w'=>exact .inr (.inr ⟨x,w',by simp [e,Result.andThen]⟩)
theorem VS.pure(v:Value):VS P (Pure.pure (.value v):Sem Next):=fun w => .inl ⟨v,w,rfl⟩
def xZ(o:Oper):Bool:=match o.op with
 | .move _=>true
 | .assign _=>true
 | .indexAddr _ _ _=>true
 | .fieldAddr _ _ _=>true
 | .field _ _ _=>true
 | .load _ _=>true
 | .store _ _ _=>true
 | .lookup _ _ _ _=>true
 | .buildSlice _ _ _=>true
 | .mapUpdate _ _ _ _=>true
 | .nilCheck _=>true
 | .call c=>match c.callee with
  | .builtin .append=>true
  | _=>false
 | _=>false
theorem bKd{o:Oper}(h:xZ o=true)(ρ:Operand→Value):VS P (execOp ρ o):=by
 unfold xZ at h
 unfold execOp;cases ho:o.op <;> rw [ho] at h <;> first | exact absurd h Bool.false_ne_true | exact VS.val _ | exact VS.unit _ | skip
 case move x=>exact fun w => .inl ⟨_,w,rfl⟩
 case assign x=>exact fun w => .inl ⟨_,w,rfl⟩
 case nilCheck x =>
  dsimp only
  split
  ·exact fun w => .inr (.inr ⟨_,_,rfl⟩)
  ·exact fun w => .inr (.inr ⟨_,_,rfl⟩)
  ·exact fun w => .inr (.inr ⟨_,_,rfl⟩)
  ·split
   ·exact fun w => .inr (.inr ⟨_,_,rfl⟩)
   ·refine VS.bind _ _ fun p=>VS.bind _ _ fun q => ?_
    split
    ·exact VS.bind _ _ fun _=>VS.pure _
    ·exact VS.pure _
   ·exact VS.pure _
  ·exact VS.pure _
 case call c =>
  dsimp only at h
  show VS P (resolve ρ c o.type >>= fun d=>invoke d.target d.args)
  split at h
  ·rename_i hc
   unfold resolve;rw [hc];exact VS.val _
  ·cases h
theorem aPa{o:Oper}(h:xZ o=true):∀ c,o.op ≠ .defer c:=fun c hc=>by unfold xZ at h;rw [hc] at h;cases h

theorem aLa(hall:∀ f,F.fn f){i:Nat}{K:Act→World→Prop}{a:Act}{w:World}(hL:¬ LetsOut Q)(hc:∀ o,ops[i]? = some o→xZ o=true)(h:wpOp P ops Q i K a w):wpOpIn F n P ops Q i K a w:=by
 unfold wpOp at h
 unfold wpOpIn;cases ho:ops[i]? with
 | none=>rw [ho] at h;exact h
 | some o =>
  rw [ho] at h
  dsimp only at h ⊢
  split
  ·rename_i hw
   rw [if_pos hw] at h
   rcases h with h | h
   ·unfold Oper.wp at h
    unfold Oper.wpIn;refine ⟨fun f _=>hall f,?_⟩
    rw [Oper.semAt_plain _ _ _ (aPa (hc o ho))]
    rcases bKd (P:=P) (hc o ho) a.eval w with ⟨v,w',e⟩ | ⟨w',e⟩ | ⟨x,w',e⟩
    ·rw [e] at h ⊢;exact h
    ·rw [e] at h ⊢;exact h
    ·rw [e] at h ⊢
     cases x <;> first | exact h | exact h.elim
   ·exact absurd h.2 hL
  ·rename_i hw
   rw [if_neg hw] at h
   exact ⟨fun f _=>hall f,h⟩
theorem vK(hall:∀ f,F.fn f)(hL:¬ LetsOut Q)(hc:∀ (i:Nat) (o:Oper),ops[i]? = some o→xZ o=true):∀ (fuel:Nat) (listed:Array Bool) (a:Act) (w:World),wpAny P md ops Q fuel listed a w→wpAnyIn F n P md ops Q fuel listed a w
 | 0,_,_,_,h=>h
 | fuel+1,listed,a,w,h=>⟨h.1,fun i hi=>wpOpIn_mono (fun a' w' h'=>vK hall hL hc fuel _ a' w' h') (aLa hall hL (hc i) (h.2 i hi))⟩

theorem aXc{S:World→Prop}{id:Nat}{l:List Oper}{a:Act}{w:World}{o1 o2 o3:Oper}(hall:∀ f,F.fn f)(hL:¬ LetsOut Q)(hcalm:l.all xZ=true)(ts:List Nat)(r1 r2 r3:Nat)(hm:P.follows .mixedOrders=true)(hB:aHf l ts r1 r2 r3=true)(h1:l[r1]? = some o1)(h2:l[r2]? = some o2)(h3:l[r3]? = some o3)
  (hQ:∀ c a w,¬ Q (.panic c) a w) (hS:S { w with drawn:=w.drawn+1 }) (vs:List Value) (hl:vs.length=ts.length) (hy:aHe P S ((ts.filterMap fun i=>l[i]?).zip vs) a)
  (h:∀ a',a'=yA ((ts.filterMap fun i=>l[i]?).zip vs) a→∃ v1 w1 v2 w2 w3,(execOp a'.eval o1).run P { w with drawn:=w.drawn+1 } = .ok (.value v1) w1∧S w1∧(execOp (a'.put o1.dst v1).eval o2).run P w1 = .ok (.value v2) w2∧S w2 ∧
   (execOp ((a'.put o1.dst v1).put o2.dst v2).eval o3).run P w2 = .ok .skip w3∧Q .normal (((a'.put o1.dst v1).put o2.dst v2).put o3.dst undef) w3):(Code.region id l.toArray true).wpIn F n P Q a w:=by
 unfold aHf at hB
 simp only [Bl,decide_eq_true_eq] at hB
 obtain ⟨⟨⟨hsel,ht⟩,hsz⟩,hne⟩:=hB;refine wpIn_region_any hm (vK hall hL (fun i o ho=>fU.1 hcalm o (Bi (by simpa using ho))) _ _ _ _ (aBx (S:=S) (L:=r3) _ _ _ _ ?_))
 rw [← hsz];refine aFa (rs:=[r1,r2,r3]) hsel hQ hS ts vs _ a hl (by rw [hsz];exact ht) (by simpa using hy) (fun E0 hc => ?_)
 obtain ⟨v1,w1,v2,w2,w3,e1,s1,e2,s2,e3,hq⟩:=h _ rfl;simp only [aEz.chain,Bl,decide_eq_true_eq] at hc
 obtain ⟨⟨g1,c1⟩,⟨g2,c2⟩,⟨g3,c3⟩,c4⟩:=hc;have k1:l.toArray[r1]? = some o1:=by simpa using h1
 have k2:l.toArray[r2]? = some o2:=by simpa using h2
 have k3:l.toArray[r3]? = some o3:=by simpa using h3
 rw [k1] at g1;rw [k2] at g2;rw [k3] at g3
 simp only [Option.isNone_iff_eq_none] at g1 g2 g3
 have Iz:((ts.filterMap fun i=>l.toArray[i]?))=(ts.filterMap fun i=>l[i]?):=by simp
 rw [Iz];refine tX c1 k1 g1 (.inl e1) (fun _=>s1) ?_
 refine tX c2 k2 g2 (.inl e2) (fun _=>s2) ?_
 refine tX c3 k3 g3 (.inr ⟨e3,rfl⟩) (fun h=>absurd rfl h) ?_
 exact ⟨by simpa using c4,hq⟩
end
section
open Go.ChangeMaps (setBlock)
variable {P:Program} {C:Cx} {M:Mem} {w:World}

theorem bKc{M':Mem}(hM:aP P C M w)(h1:∀ (i:Nat) (o:AO),M'[i]? = some (some o)→M[i]? = some (some o))
  (h2:∀ (i ty:Nat) (cs:List AV),M'[i]? = some (some (.box ty cs))→∀ x∈cs,∀ u,Rep C M w x u→Rep C M' w x u):aP P C M' w:=by
 refine ⟨fun i ty n cs hm=>hM.row _ _ _ _ (h1 _ _ hm),fun i ty cs hm => ?_,fun i es cl hm=>hM.mp _ _ _ (h1 _ _ hm),fun i i' o o' b q1 q2 q3 q4=>hM.inj i i' o o' b (h1 _ _ q1) q2 (h1 _ _ q3) q4,fun i o b q1=>hM.nF i o b (h1 _ _ q1),hM.Fs,fun i o b q1=>hM.lt i o b (h1 _ _ q1)⟩
 obtain ⟨b,arr,q0,q1,q2,q3,q4⟩:=hM.box _ _ _ (h1 _ _ hm);exact ⟨b,arr,q0,q1,q2,fun j hj=>h2 _ _ _ hm _ (gJ hj) _ (q3 j hj),q4⟩
theorem aKy{M':Mem}{i off:Nat}{u:Value}(hi:M'[i]? = M[i]?)(h:Rep C M w (.ptr i off) u):Rep C M' w (.ptr i off) u:=by
 cases h with
 | ptr _ _ _ h0 ha h hp=>exact .ptr i off u h0 (by rw [hi];exact ha) (by rw [hi];exact h) hp
theorem aOz{M':Mem}{i:Nat}{u:Value}(hi:M'[i]? = M[i]?)(h:Rep C M w (.mp i) u):Rep C M' w (.mp i) u:=by
 cases h with
 | mp _ _ h0 ha h=>exact .mp i u h0 (by rw [hi];exact ha) (by rw [hi];exact h)
theorem rY{M':Mem}{x:PV}{u:Value}(h:Rep C M w (.p x) u):Rep C M' w (.p x) u:=by
 cases h with
 | p _ _ h=>exact .p _ _ h

theorem aKz{b ty k:Nat}{cs:List PV}{arr:Array Value}(hM:aP P C M w)(hf:yI M k)(hh:w.heap[b]? = some (.cells arr ty (0,0)))(hnF:¬ C.F b)(hnl:∀ (id:Nat) (o:AO),M[id]? = some (some o)→o.live=true→C.ι id≠some b)
  (hs:arr.size=cs.length) (hrep:∀ j (h:j<cs.length),cB C.F w cs[j] (arr.getD j undef)) (h1:∀ j,j<cs.length→(arr.getD j undef).oneCell'=true) :
  aP P (C.grow k b 1) (aU M k (some (.box ty (cs.map .p)))) w∧Le C (C.grow k b 1) M (aU M k (some (.box ty (cs.map .p)))) w w:=by
 have hne:∀ (j:Nat) (o':AO),M[j]? = some (some o')→j≠k:=fun j o' h e=>hf o' (e ▸ h)
 have hold:∀ (j:Nat) (o':AO),j≠k→(aU M k (some (.box ty (cs.map .p))))[j]? = some (some o')→M[j]? = some (some o'):=fun j o' h=>(aO M k j _ o' (fun e=>h e.symm)).1
 have hfw:∀ (j:Nat) (o':AO),M[j]? = some (some o')→(aU M k (some (.box ty (cs.map .p))))[j]? = some (some o'):=fun j o' h=>(aO M k j _ o' (fun e=>hne j o' h e.symm)).2 h
 have hι:∀ j,j≠k→(C.grow k b 1).ι j=C.ι j:=fun j h=>by simp [Cx.grow,h]
 have hκ:∀ j,j≠k→(C.grow k b 1).κ j=C.κ j:=fun j h=>by simp [Cx.grow,h]
 have hιs:(C.grow k b 1).ι k=some b:=by simp [Cx.grow]
 have hle:Le C (C.grow k b 1) M (aU M k (some (.box ty (cs.map .p)))) w w:=by
  refine ⟨fun j o h=>⟨o,hfw j o h⟩,fun j o h Cn n' Bh hm=>⟨Bh,hold j _ (hne j o h) hm⟩,fun j o h o' hm hl => ?_,fun _ h=>h,fun _ _=>rfl⟩
  have:=hold j _ (hne j o h) hm;rw [h] at this;cases this
  exact ⟨hl,hι j (hne j o h),hκ j (hne j o h)⟩
 have hnew:∀ (o':AO),(aU M k (some (.box ty (cs.map .p))))[k]? = some (some o')→o' = .box ty (cs.map .p):=fun o' h=>by rw [aT] at h;cases h;rfl
 refine ⟨⟨fun j Cn n' Bh hm => ?_,fun j Cn Bh hm => ?_,fun j es cl hm => ?_,fun j j' o1 o2 b' hm hl Cu Dj Ci Ed => ?_,fun j o' b' hm hl Al => ?_,hM.Fs,fun j o' b' hm hl Al => ?_⟩,hle⟩
 ·by_cases e:j=k
  ·subst e;cases hnew _ hm
  ·rw [hι j e,hκ j e]
   rcases hM.row _ _ _ _ (hold j _ e hm) with h4 | ⟨b,arr,inf,q0,q1,q2,q3,q4,q5,q6,q7,q8⟩
   ·exact .inl h4
   ·exact .inr ⟨b,arr,inf,q0,q1,q2,q3,q4,q5,q6,fun j hj=>(q7 j hj).mono hle.F hle.fz,q8⟩
 ·by_cases e:j=k
  ·subst e
   cases hnew _ hm;refine ⟨b,arr,hιs,hh,by simpa using hs,fun i hi => ?_,fun i hi=>h1 i (by simpa using hi)⟩
   rw [lK];exact .p _ _ (hrep i (by simpa using hi))
  ·rw [hι j e]
   obtain ⟨b,arr,q0,q1,q2,q3,q4⟩:=hM.box _ _ _ (hold j _ e hm);exact ⟨b,arr,q0,q1,q2,fun j hj=>(q3 j hj).mono hle,q4⟩
 ·by_cases e:j=k
  ·subst e;cases hnew _ hm
  ·rw [hι j e]
   obtain ⟨b,arr,q0,q1,q2,q3⟩:=hM.mp _ _ _ (hold j _ e hm);refine ⟨b,arr,q0,q1,q2,fun j hj => ?_⟩
   obtain ⟨en,r1,r2,r3,r4⟩:=q3 j hj;exact ⟨en,r1,r2,r3,r4.mono hle.F hle.fz⟩
 ·by_cases e:j=k
  ·by_cases e':j'=k
   ·rw [e,e']
   ·subst e
    rw [hιs] at Ci;cases Ci
    rw [hι j' e'] at Ed
    exact absurd Ed (hnl _ _ (hold j' _ e' Cu) Dj)
  ·by_cases e':j'=k
   ·subst e'
    rw [hιs] at Ed;cases Ed
    rw [hι j e] at Ci
    exact absurd Ci (hnl _ _ (hold j _ e hm) hl)
   ·rw [hι j e] at Ci;rw [hι j' e'] at Ed
    exact hM.inj _ _ _ _ _ (hold j _ e hm) hl (hold j' _ e' Cu) Dj Ci Ed
 ·by_cases e:j=k
  ·subst e
   rw [hιs] at Al;cases Al
   exact hnF
  ·rw [hι j e] at Al
   exact hM.nF _ _ _ (hold j _ e hm) hl Al
 ·by_cases e:j=k
  ·subst e
   rw [hιs] at Al;cases Al
   exact bM hh
  ·rw [hι j e] at Al
   exact hM.lt _ _ _ (hold j _ e hm) hl Al
end
end KV
end Go.Proofs
section
namespace Go.Proofs
open Go.RowKit Go.Lib Go.Shelf
namespace KV
open Tryz
abbrev Bk(dc:Lqq):={ k:Nat // k<dc.length }
def lQ(dc:Lqq)(k:Nat):List Int:=dc.getD k []
abbrev aKs(dc:Lqq):AV := .fn 157 [] [(.rp [(.sl dc.length (dc.flatten.map aA))] 0)]
theorem bVk{F:Nat→Prop}{w:World}{n:Int}{u:Value}(h:cB F w (aA n) u):u = .int .i64 n:=by unfold aA at h;cases h;rfl
theorem bJs{dc:Lqq}(hu:uni 6 dc){k j:Nat}{x:List Int}(hx:dc[k]? = some x)(hj:j<6):dc.flatten[k*6+j]? = some (x.getD j 0):=by
 have hk:k<dc.length:=(Bc.1 hx).1
 induction dc generalizing k with
 | nil=>simp at hk
 | cons y r ih =>
  have hy:y.length=6:=hu y (jQ ..);rw [vB];cases k with
  | zero =>
   simp at hx;subst hx
   rw [Nat.zero_mul,fG,aAz (by omega),Bm,Aq (by omega)];rfl
  | succ k =>
   rw [aAy (by omega),hy,show (k+1)*6+j-6=k*6+j by omega]
   exact ih (fun z hz=>hu z (Cj _ hz)) (by simpa using hx) (by simpa using hk)
theorem bQt{F:Nat→Prop}{w:World}{n:Nat}{cs:List PV}{v:Value}(h:cB F w (.sl n cs) v):∃ (p:Option Addr) (cap:Nat) (us:Nat→Value),v = .slice p n cap∧(∀ i,i<cs.length→∃ b o,p=some ⟨b,o,none⟩∧F b∧w.cell? ⟨b,o+i,none⟩=some (us i))∧∀ i (h:i<cs.length),cB F w cs[i] (us i):=by
 cases h with
 | sl _ _ p cap us g1 g2 g3 g4 g5=>exact ⟨p,cap,us,rfl,g3,g4⟩
theorem aWy(dc:Lqq)(hu:uni 6 dc)(hl:dc.length≤1000):bPa Tp (aKs dc) (fun x:Bk dc => #[Value.int .i64 (x.1:Nat),.agg (Cf (lQ dc x.1))]) 157 dc.length (fun ys=>ys.map (fun x=>x.1)=bk dc.length 0):=fun C M w u Mp hFs=>by
 cases Mp with
 | fn _ _ _ us vs h1 h2 h3 h4 =>
  obtain rfl:us = #[]:=by simpa using h1
  have q0:=h4 0 (by simp)
  simp only [List.getElem_cons_zero] at q0
  obtain ⟨x0,rfl⟩:∃ x0,vs = #[x0]:=by
   have:vs.toList.length=1:=by simpa using h2
   match hv:vs.toList,this with
   | [x0],_=>exact ⟨x0,by rw [← hv]⟩
  change Rep C M w (.rp [.sl dc.length (dc.flatten.map aA)] 0) x0 at q0
  cases q0 with
  | rp _ _ b1 o1 u1 e1 e2 e3 =>
   have r0:=e2 0 (by simp)
   change cB C.F w (.sl dc.length (dc.flatten.map aA)) (u1 0) at r0
   have c0:=e1 0 (by simp)
   obtain ⟨p,cap,us2,hv,g3,g4⟩:=bQt r0;rw [hv] at c0
   clear r0 hv
   ·have hlf:(dc.flatten.map aA).length=dc.length*6:=by rw [eI,oN hu]
    refine ⟨_,fun pre=>True,rfl,fun l J Jx W hW hJ _ hY h0 => ?_⟩
    have hsame:∀ W',KpG C.F W W'→∀ b,C.F b→W'.heap[b]? = w.heap[b]? := fun W' hk b hb=>(hk.same b hb).trans (hW.block b (hFs b hb))
    obtain ⟨b2,o2,hp⟩:∃ b2 o2,dc.length=0∨p=some ⟨b2,o2,none⟩:=by
     by_cases hz:dc.length=0
     ·exact ⟨0,0,.inl hz⟩
     ·obtain ⟨b,o,h,_⟩:=g3 0 (by omega)
      exact ⟨b,o,.inr h⟩
    have hcell:∀ W',KpG C.F W W'→∀ k:Nat,k<dc.length→∃ a b c d e f,dc[k]? = some [a,b,c,d,e,f]∧W'.cell? ⟨b2,o2+k*6,none⟩=some (.int .i64 a)∧W'.cell? ⟨b2,o2+k*6+1,none⟩=some (.int .i64 b)∧W'.cell? ⟨b2,o2+k*6+2,none⟩=some (.int .i64 c)∧W'.cell? ⟨b2,o2+k*6+3,none⟩=some (.int .i64 d)∧W'.cell? ⟨b2,o2+k*6+4,none⟩=some (.int .i64 e)∧W'.cell? ⟨b2,o2+k*6+5,none⟩=some (.int .i64 f):=fun W' hk k hkn=>by
     obtain ⟨a,b,c,d,e,f,hx⟩:=Qx hu (i:=k) (by omega)
     have one:∀ j,j<6→W'.cell? ⟨b2,o2+(k*6+j),none⟩=some (.int .i64 ([a,b,c,d,e,f].getD j 0)):=fun j hj=>by
      have hi:k*6+j<(dc.flatten.map aA).length:=by omega
      obtain ⟨b',o',q1,q2,q3⟩:=g3 (k*6+j) hi
      rcases hp with hp | hp
      ·omega
      ·rw [hp] at q1
       cases q1;rw [dV (hsame W' hk b2 q2),q3];have:=g4 (k*6+j) hi;have he:(dc.flatten.map aA)[k*6+j]=aA ([a,b,c,d,e,f].getD j 0):=by
        have h5:=bJs hu hx hj;rw [lK]
        congr 1
        obtain ⟨_,h6⟩:=Bc.1 h5;exact h6
       rw [he] at this
       rw [bVk this]
     exact ⟨a,b,c,d,e,f,hx,one 0 (by omega),one 1 (by omega),one 2 (by omega),one 3 (by omega),one 4 (by omega),one 5 (by omega)⟩
    by_cases hz:dc.length=0
    ·-- nothing to yield: any address will do
     have h2:bk dc.length 0=[]:=by unfold bk;rw [hz];rfl
     rw [hz] at c0
     refine (aPc 2 l b1 o1 cap p (by omega) (J []) W ((dV (hsame W (KpG.refl _ _) b1 c0.1) _).trans c0.2) h0).mono ?_
     rintro e W' ⟨h5,h6⟩;exact ⟨h5,.inl ⟨[],by rw [h2];rfl,h6⟩⟩
    ·have hp:p=some ⟨b2,o2,none⟩:=hp.resolve_left hz
     subst hp;have:=aPb dc hl C.F 2 l b1 o1 b2 o2 cap (by omega) (fun ys W=>∃ zs:List (Bk dc),zs.map (fun x=>x.1)=ys∧J zs W) (fun ys W=>∃ zs:List (Bk dc),zs.map (fun x=>x.1)=ys∧Jx zs W)
      (fun pre k a b c d e f W1 hx hj hlt=>by
       obtain ⟨zs,rfl,hj⟩:=hj;have hk:k<dc.length:=(Bc.1 hx).1;obtain ⟨fn,tmps,assign,body,hy,hR⟩:=hY zs ⟨k,hk⟩ W1 hj (by simpa [aPd] using hlt)
       have ev:Cf (lQ dc k) = #[.int .i64 a,.int .i64 b,.int .i64 c,.int .i64 d,.int .i64 e,.int .i64 f]:=by
        unfold lQ;rw [Bm,hx];rfl
       dsimp only at hy
       rw [ev] at hy
       refine ⟨fn,tmps,assign,body,hy,hR.mono ?_⟩;rintro e w3 (⟨rfl,Px,Mq⟩ | ⟨rfl,S5⟩)
       ·exact .inl ⟨rfl,⟨zs++[⟨k,hk⟩],by rw [fL];rfl,Px⟩,Mq⟩
       ·exact .inr ⟨rfl,⟨zs++[⟨k,hk⟩],by rw [fL];rfl,S5⟩⟩)
      W (fun ys A B row hs hg hr=>by obtain ⟨zs,h1,h2⟩:=hs;exact ⟨zs,h1,hJ _ _ _ _ h2 hg hr⟩) (fun b hb=>Cg (hFs b hb) hW.size)
      hcell
      (fun W' hk=>(dV (hsame W' hk b1 c0.1) _).trans c0.2)
      ⟨[],rfl,h0⟩
     refine this.mono ?_;rintro e W' ⟨h5,h6⟩;refine ⟨h5,?_⟩
     rcases h6 with ⟨ys,rfl,zs,h7,h8⟩ | ⟨pre,_,zs,h7,h8⟩
     ·exact .inl ⟨zs,h7,h8⟩
     ·exact .inr ⟨zs,trivial,h8⟩
end KV
end Go.Proofs
end
section
namespace Go.Proofs
open Go.RowKit
namespace KV
open Tryz
variable {P:Program} {T:TT} {E:Env} {C C0:Cx} {M M0:Mem} {w w0:World}
def eH(P:Program)(k:Nat)(c:Code)(st:St)(e:Ex)(Ah:St):Prop:=∀ (C0:Cx) (M0:Mem) (w0:World) (a:Act) (w:World),M0.length≤k→Sim P C0 M0 w0 st a w→∀ (ro:Option Nat) (n:Nat),c.wpIn (Fen ro) n P (fun e' a' w'=>e'=e.toExit∧Sim P C0 M0 w0 Ah a' w') a w
theorem eH.cast{k:Nat}{c:Code}{st st1 st2:St}{e:Ex}(h:eH P k c st e st1)(q:st1=st2):eH P k c st e st2:=q ▸ h
theorem bEo(hT:∀ t i,T t=some i→bY P t=some i)(hE:kS P E)(hm:P.follows .mixedOrders=true){id:Nat}{ops:Array Oper}{d:Bool}{st Ah:St}{s s':AS}(h:aIo P T E ops d st s=some (Ah,s'))(g:aX s'){k:Nat}:eH P k (.region id ops d) st .normal Ah:=by
 intro C0 M0 w0 a w _ hs ro n;cases d with
 | false =>
  refine wpIn_region ?_;have:=sY hT hE ops.toList 0 (fun j=>by simp) h g C0 M0 w0 a w hs ro n (fun e' a' w'=>e'=Ex.normal.toExit∧Sim P C0 M0 w0 Ah a' w') (fun a' w' h'=>⟨rfl,h'⟩)
  simpa using this
 | true =>
  obtain ⟨_,s1,h1,k1⟩:=aD h;obtain ⟨e1,rfl⟩:=aE h1;obtain ⟨r,s2,h2,k2⟩:=aD k1;obtain ⟨_,s3,h3,k3⟩:=aD k2;obtain ⟨e3,rfl⟩:=aE h3;obtain ⟨rfl,rfl⟩:=aI k3;obtain ⟨hB,_⟩:=bE e1;obtain ⟨hA,_⟩:=bE e3;obtain ⟨os,hfts,hlex⟩:=pR ops.toList _ (fts:=r.1) (fin:=r.2) h2 g
  replace hB:=vX hB
  unfold Region.lexB at hB
  rw [Bl] at hB
  have hlen:os.length=ops.toList.length:=by
   have:∀ {l:List Oper} {id:Nat} {st:St} {os:List uI} {fin:St},aIp P T E ops.toList id l st os fin→os.length=l.length:=by
    intro l
    induction l with
    | nil=>intro id st os fin h;cases h;rfl
    | cons o l ih=>intro id st os fin h;cases h with | cons _ _ _ _ q os _ h hr=>simp [ih hr]
   exact this hlex
  have key:nM P T E ops.toList st.m.length (fun k=>os.getD k (.any,[],none)) r.2 ops.toList.length (Array.replicate ops.size false) st:=by
   refine nM.lex ops.toList 0 _ st os (fun j=>by simp) (fun j q hj=>by simp [Bm,hj]) (fun j hj=>absurd hj (aNq _)) (fun j oj hj hl => ?_) (fun i j _ hij hj => ?_) (by simpa using hB.2) (by simpa [ido] using hlex)
   ·exfalso
    rcases Nat.lt_or_ge j ops.size with h' | h'
    ·simp [h'] at hl
    ·simp [Nat.not_lt.2 h'] at hl
   have Dx:j<os.length:=by
    rw [hlen];obtain ⟨o,ho⟩:=Option.isSome_iff_exists.1 hj;exact (Bc.1 ho).1
   have:=lX r.1 0 hA i j (zP os[i]) (zP os[j]) hij (by rw [hfts,eX,Aq (by omega)];rfl) (by rw [hfts,eX,Aq Dx];rfl)
   rw [fG,fG] at this
   simp only [Bm,Aq Dx,Aq (show i<os.length by omega),Option.getD_some,Array.toArray_toList]
   exact this
  refine wpIn_region_any hm ?_;have:=nM.sound hT hE (C0:=C0) (M0:=M0) (w0:=w0) (ro:=ro) (n:=n) (Q:=fun e' a' w'=>e'=Ex.normal.toExit∧Sim P C0 M0 w0 r.2 a' w') (fun a' w' h'=>⟨rfl,h'⟩) _ _ _ a _ key (hs.drawn (w.drawn+1))
  simpa using this


noncomputable def bEp(c:Code)(st:St):Ask (Ex × St):=match c with
 | .region _ ops d=>do
  let Ah ← aIo Tp tT EO ops d st
  pure (.normal,Ah)
 | _=>fail
theorem eH.fin{k:Nat}{c:Code}{st Ah:St}{e:Ex}{g:Gh}{o:List OI}{l:List Prop}(h:yM k g (bEp c st (asg o))=some (e,Ah,l,[]))(gd:aX (out l)):eH Tp k c st e Ah:=by
 unfold yM at h
 split at h
 ·rename_i e1 st1 s hr
  split at h
  ·rename_i st2 hg
   simp only [Option.some.injEq,Prod.mk.injEq] at h
   obtain ⟨rfl,rfl,rfl,hs⟩:=h;unfold bEp at hr
   split at hr
   ·rename_i id ops d
    obtain ⟨Q4,s1,h1,k1⟩:=aD hr;obtain ⟨he,rfl⟩:=aI k1;cases he;intro C0 M0 w0 a w hk hsm ro n;exact wpIn_mono (bEo (k:=k) aEn aEm mixed h1 (fun p hp=>gd p hp) C0 M0 w0 a w hk hsm ro n) (fun _ _ _ hq=>⟨hq.1,dY hk hg hq.2⟩)
   ·exact (aR hr).elim
  ·cases h
 ·cases h
theorem eH.fi{k:Nat}{c:Code}{st Ah:St}{e:Ex}(g:Gh)(o:List OI){l:List Prop}(gd:aX (out l))(h:yM k g (bEp c st (asg o))=some (e,Ah,l,[]):=by kernel_rfl):eH Tp k c st e Ah:=eH.fin h gd
end KV
end Go.Proofs
end
namespace Go.Proofs
namespace KV
open Tryz
section
variable {dl x0 x1 x2 x3 x4 x5:Int}{cl mb:Nat}

theorem bJp{v1 v2:Value}{es:List (Value × PV)}(h0:bQ .i64 es (.int .i64 x0))(h1:(cW es (.int .i64 x0))=true):eH Tp 5 (sub (cd Tryz.f45) ba) ⟨fr 57 [(6,(.ptr 0 0)),(8,(.ptr 4 0))],[some (.box 106 [(.ptr 1 0)]),some (.box 169 [(pI dl),(.p (.v v1)),(.p (.v v2)),(.mp 2),(.p (.v (.map (some mb))))]),some (.mp es cl),some .dead,some (.box 84 [(pI x0),(pI x1),(pI x2),(pI x3),(pI x4),(pI x5)])]⟩ .normal ⟨fr 57 [(6,(.ptr 0 0)),(8,(.ptr 4 0))],[some (.box 106 [(.ptr 1 0)]),some (.box 169 [(pI dl),(.p (.v v1)),(.p (.v v2)),(.mp 2),(.p (.v (.map (some mb))))]),some (.mp (oB es (.int .i64 x0) (dcE x0 x1 x2 x3 x4 x5)) cl),some .dead,some (.box 84 [(pI x0),(pI x1),(pI x2),(pI x3),(pI x4),(pI x5)])]⟩:=eH.fi ⟨aa,[],[],[]⟩ [bT] (gc h1 (gc h0 gn))
theorem bJq{v1 v2:Value}{es:List (Value × PV)}(h0:bQ .i64 es (.int .i64 x0))(h1:(cW es (.int .i64 x0))=false):eH Tp 5 (sub (cd Tryz.f45) ba) ⟨fr 57 [(6,(.ptr 0 0)),(8,(.ptr 4 0))],[some (.box 106 [(.ptr 1 0)]),some (.box 169 [(pI dl),(.p (.v v1)),(.p (.v v2)),(.mp 2),(.p (.v (.map (some mb))))]),some (.mp es cl),some .dead,some (.box 84 [(pI x0),(pI x1),(pI x2),(pI x3),(pI x4),(pI x5)])]⟩ .normal ⟨fr 57 [(6,(.ptr 0 0)),(8,(.ptr 4 0))],[some (.box 106 [(.ptr 1 0)]),some (.box 169 [(pI dl),(.p (.v v1)),(.p (.v v2)),(.mp 2),(.p (.v (.map (some mb))))]),some (.mp (es++[((.int .i64 x0),(dcE x0 x1 x2 x3 x4 x5))]) (cl+1)),some .dead,some (.box 84 [(pI x0),(pI x1),(pI x2),(pI x3),(pI x4),(pI x5)])]⟩:=eH.fi ⟨aa,[],[],[]⟩ [bF] (gc h1 (gc h0 gn))
theorem bJr{v1 v2:Value}{es:List (Value × PV)}:eH Tp 5 (sub (cd Tryz.f45) az) ⟨fr 57 [(6,(.ptr 0 0)),(8,(.ptr 4 0))],[some (.box 106 [(.ptr 1 0)]),some (.box 169 [(pI dl),(.p (.v v1)),(.p (.v v2)),(.mp 2),(.p (.v (.map (some mb))))]),some (.mp es cl),some .dead,some (.box 84 [(pI x0),(pI x1),(pI x2),(pI x3),(pI x4),(pI x5)])]⟩ .normal ⟨fr 57 [(6,(.ptr 0 0)),(8,(.ptr 4 0)),(39,(pB (decide (x5 > 0))))],[some (.box 106 [(.ptr 1 0)]),some (.box 169 [(pI dl),(.p (.v v1)),(.p (.v v2)),(.mp 2),(.p (.v (.map (some mb))))]),some (.mp es cl),some .dead,some (.box 84 [(pI x0),(pI x1),(pI x2),(pI x3),(pI x4),(pI x5)])]⟩:=eH.fi ⟨[0,1,2,3,4,5,7,9,10,11,12,13,14,15,16,17,18,19,20,21,22,23,24,25,26,27,28,29,30,31,32,33,34,35,36,37,38,40,41,42,43,44,45,46,47,48,49,50,51,52,53,54,55,56],[],[],[]⟩ [] gn
end
end KV
end Go.Proofs
section
namespace Go.Proofs
open Go.RowKit
namespace KV
open Tryz
open Go.ChangeMaps (setBlock)
open Go.Maps Go.MapKept

section
variable {P:Program} {o:Oper} {a:Act} {W W':World}
theorem bEg{x:Operand}{p:Addr}(ho:o.op = .nilCheck x)(hv:a.eval x = .pointer (some p)):(execOp a.eval o).run P W = .ok (.value (.pointer (some p))) W:=by
 unfold execOp;rw [ho];simp [hv]
theorem vH{t:TypeId}{x:Operand}{f:Nat}{v r:Value}(ho:o.op = .fieldAddr t x f)(hx:a.eval x=v)(hr:(Instr.fieldAt t v f).run P W = .ok r W):(execOp a.eval o).run P W = .ok (.value r) W:=by
 unfold execOp;rw [ho];simp [hx,hr,Result.andThen]
theorem vI{t:TypeId}{fs:Array Field}{f:Nat}{fl:Field}{j:TI}(hd:P.underlying t=some (.struct fs))(hf:fs[f]? = some fl)(hj:bY P fl.type=some j)(h0:j.size≠0)(b off:Nat) :
  (Instr.fieldAt t (.pointer (some ⟨b,off,none⟩)) f).run P W = .ok (.pointer (some ⟨b,off+fl.offset,none⟩)) W:=by
 unfold Instr.fieldAt;rw [Sem.run_bind,run_underlying hd,Result.andThen_ok];simp only [hf];rw [Sem.run_bind];show ((pure (⟨b,off,none⟩:Addr):Sem Addr).run P W).andThen _=_;rw [Sem.run_pure,Result.andThen_ok,Sem.run_bind,qD hj h0,Result.andThen_ok];rfl
theorem aWx{t:Nat}{i:TI}(hi:bY P t=some i)(ha:i.agg=true){b:Nat}{l:List Value}{ty:TypeId}{fr:Nat × Nat}(hl:l.length=i.size)(h:W.heap[b]? = some (.cells l.toArray ty fr)):(Instr.loadAt t (.pointer (some ⟨b,0,none⟩))).run P W = .ok (.agg l.toArray) W:=by
 have:=kN (P:=P) (w:=W) hi ha (b:=b) (o:=0) (f:=fun j=>l.getD j undef) (fun j hj=>by
  rw [fG,bJ h (by simpa using (by omega:j<l.length))]
  simp [Bm,Aq (show j<l.length by omega),Bb])
 have e:((List.range i.size).map fun j=>l.getD j undef).toArray=l.toArray:=by
  rw [← hl]
  congr 1
  apply List.ext_getElem
  ·simp
  ·intro j h1 h2
   simp [Bm,Aq h2]
 rw [e] at this
 unfold Instr.loadAt Instr.sureAddr;simpa using this
end
theorem Mh{x:List Int}(hx:x.length=6):Instr.fill (fun i=>some (i*6,6)) ((Array.range (1*6)).map (Hr.cells[· % Hr.cells.size]!)) [(0,.agg (vsL x).toArray)]=some (vsL x).toArray:=by
 obtain ⟨a,b,c,d,e,f,rfl⟩:=A8 hx
 kernel_rfl
theorem tiq{P:Program}{t:Nat}{b:Bool}{n:Nat}(h:(bY P t).map (fun i=>(i.agg,i.size))=some (b,n)):∃ i,bY P t=some i∧i.agg=b∧i.size=n:=by
 cases h2:bY P t with
 | none=>rw [h2] at h;simp at h
 | some i=>rw [h2] at h;simp at h;exact ⟨i,rfl,h.1,h.2⟩
theorem Mi:(bY Tp 106).map (fun i=>(i.agg,i.size))=some (false,1):=by kernel_rfl
theorem Mj:(bY Tp 167).map (fun i=>(i.agg,i.size))=some (false,1):=by kernel_rfl
theorem Si:(bY Tp 3).map (fun i=>(i.agg,i.size))=some (false,1):=by kernel_rfl
theorem Pp:(bY Tp 84).map (fun i=>(i.agg,i.size))=some (true,6):=by kernel_rfl
theorem Ev:(Tryz.prog.info? 84).map (fun i=>(i.zero,i.size,i.bytes))=some (some Hr,6,48):=by kernel_rfl

structure bJn (mb:Nat) (es:Array MapEntry) (cl:Nat) (L:List Ent) (k:Int) (x:List Int) (W W':World) (B2:Array MapEntry) (Da:Nat) (e:Ent):Prop where
 ok:kW mb B2 (nU L e)
 ky:e.k=k
 li:e.l=nT L k++[x]
 born:(∀ y∈es.toList,y.born<cl)→∀ y∈B2.toList,y.born<Da
 has:∀ p∈gA mb B2 Da (nU L e),W'.heap[p.1]? = some p.2∧((∃ p0∈gA mb es cl L,p0.1=p.1)∨W.heap.size≤p.1)
 size:W.heap.size≤W'.heap.size
 os:W'.os=W.os
 tape:W'.tape=W.tape
 out:W'.output=W.output
 keep:∀ b,b<W.heap.size→(∀ q∈gA mb es cl L,q.1≠b)→W'.heap[b]? = W.heap[b]?

theorem bJo:∃ l:List Oper,sub (cd Tryz.f45) ap = .region 9 l.toArray true∧aHf l [0,1,2,3,4,5,6,7,8,9,10,11,12,13] 14 15 16=true∧l.all xZ=true∧l.map (fun o=>(o.op,o.dst))=[(.load 106 (.tmp 6),some 40),(.nilCheck (.tmp 40),some 41),(.fieldAddr 169 (.tmp 41) 2,some 42),(.load 167 (.tmp 42),some 43),(.fieldAddr 84 (.tmp 8) 5,some 44),(.load 3 (.tmp 44),some 45),(.load 106 (.tmp 6),some 46),(.nilCheck (.tmp 46),some 47),(.fieldAddr 169 (.tmp 47) 2,some 48),(.load 167 (.tmp 48),some 49),(.fieldAddr 84 (.tmp 8) 5,some 50),(.load 3 (.tmp 50),some 51),(.lookup 167 (.tmp 49) (.tmp 51) false,some 52),(.load 84 (.tmp 8),some 53),(.buildSlice 24 1 #[(0,.tmp 53)],some 54),(.call { callee := .builtin .append,args := #[.tmp 52,.tmp 54],argTypes := #[24,24] },some 55),(.mapUpdate 167 (.tmp 43) (.tmp 45) (.tmp 55),none)] :=
 ⟨match sub (cd Tryz.f45) ap with | .region _ ops _=>ops.toList | _=>[],by kernel_rfl,by kernel_rfl,by kernel_rfl,by kernel_rfl⟩
set_option maxHeartbeats 4000000 in
theorem Pm{F:Fence}{n:Nat}(hall:∀ f,F.fn f){a:Act}{W:World}{b6 bd b8 mb cl:Nat}{es:Array MapEntry}{L:List Ent}{x:List Int}(Jo:x.length=6){a6 ad:Array Value}{t6 td:TypeId}
  (hsz:a.tmps.size=57) (v6:a.tmps.getD 6 undef = .pointer (some ⟨b6,0,none⟩)) (v8:a.tmps.getD 8 undef = .pointer (some ⟨b8,0,none⟩))
  (h6:W.heap[b6]? = some (.cells a6 t6 (0,0))) (q6:0<a6.size∧a6.getD 0 undef = .pointer (some ⟨bd,0,none⟩)) (hd:W.heap[bd]? = some (.cells ad td (0,0))) (qd:4<ad.size∧ad.getD 4 undef = .map (some mb)) (h8:W.heap[b8]? = some (.cells (vsL x).toArray 84 (0,0)))
  (hM:kW mb es L) (hR:∀ p∈gA mb es cl L,W.heap[p.1]? = some p.2) (hl:∀ e∈L,e.l.length≤1000) (hne:∀ p∈gA mb es cl L,p.1≠b6∧p.1≠bd∧p.1≠b8) (hk:(Lit.int .i64 (dAb x)).wf=true) :
  (sub (cd Tryz.f45) ap).wpIn F n Tp (fun e a' W'=>e = .normal∧∃ B2 Da e,bJn mb es cl L (dAb x) x W W' B2 Da e) a W:=by
 obtain ⟨l,hc,hB,hcalm,hops⟩:=bJo;rw [hc];obtain ⟨o0,l0,rfl,h0,hops⟩:=qJ.1 hops;obtain ⟨o1,l1,rfl,h1,hops⟩:=qJ.1 hops;obtain ⟨o2,l2,rfl,h2,hops⟩:=qJ.1 hops;obtain ⟨o3,l3,rfl,h3,hops⟩:=qJ.1 hops;obtain ⟨o4,l4,rfl,h4,hops⟩:=qJ.1 hops;obtain ⟨o5,l5,rfl,h5,hops⟩:=qJ.1 hops;obtain ⟨o6,l6,rfl,N0,hops⟩:=qJ.1 hops;obtain ⟨o7,l7,rfl,h7,hops⟩:=qJ.1 hops;obtain ⟨o8,l8,rfl,N1,hops⟩:=qJ.1 hops;obtain ⟨o9,l9,rfl,h9,hops⟩:=qJ.1 hops;obtain ⟨o10,l10,rfl,A5,hops⟩:=qJ.1 hops;obtain ⟨o11,l11,rfl,B3,hops⟩:=qJ.1 hops;obtain ⟨o12,l12,rfl,Co,hops⟩:=qJ.1 hops;obtain ⟨o13,l13,rfl,Dn,hops⟩:=qJ.1 hops;obtain ⟨Sj,l14,rfl,Ef,hops⟩:=qJ.1 hops;obtain ⟨Q1,l15,rfl,Hg,hops⟩:=qJ.1 hops;obtain ⟨Sk,l16,rfl,Gc,hops⟩:=qJ.1 hops;obtain rfl:=List.map_eq_nil_iff.1 hops;obtain ⟨q0,d0⟩:=Prod.mk.inj h0;obtain ⟨q1,d1⟩:=Prod.mk.inj h1;obtain ⟨q2,d2⟩:=Prod.mk.inj h2;obtain ⟨q3,d3⟩:=Prod.mk.inj h3;obtain ⟨q4,d4⟩:=Prod.mk.inj h4;obtain ⟨q5,d5⟩:=Prod.mk.inj h5;obtain ⟨Sl,d6⟩:=Prod.mk.inj N0;obtain ⟨q7,d7⟩:=Prod.mk.inj h7;obtain ⟨q8,d8⟩:=Prod.mk.inj N1;obtain ⟨q9,d9⟩:=Prod.mk.inj h9;obtain ⟨Sm,Ew⟩:=Prod.mk.inj A5;obtain ⟨Sn,Ey⟩:=Prod.mk.inj B3;obtain ⟨Sq,Ez⟩:=Prod.mk.inj Co;obtain ⟨Sr,Mk⟩:=Prod.mk.inj Dn;obtain ⟨Ss,Ml⟩:=Prod.mk.inj Ef;obtain ⟨Su,Pq⟩:=Prod.mk.inj Hg;obtain ⟨Sv,d16⟩:=Prod.mk.inj Gc;clear h0 h1 h2 h3 h4 h5 N0 h7 N1 h9 A5 B3 Co Dn Ef Hg Gc;have V6:a.eval (.tmp 6) = .pointer (some ⟨b6,0,none⟩):=v6;have V8:a.eval (.tmp 8) = .pointer (some ⟨b8,0,none⟩):=v8;obtain ⟨Sw,Pr,Ps,_⟩:=tiq Mi;obtain ⟨Sx,Mm,Pt,Pu⟩:=tiq Mj;obtain ⟨i3,t3,a3,s3⟩:=tiq Si;obtain ⟨Sb,Sy,Sz,S0⟩:=tiq Pp;have fd:∀ U:World,(Instr.fieldAt 169 (.pointer (some ⟨bd,0,none⟩)) 2).run Tp U = .ok (.pointer (some ⟨bd,4,none⟩)) U:=fun U =>
  (vI (P:=Tp) (W:=U) Tryz.underlying169 (f:=2) rfl (by exact Mm) (by rw [Pu];decide) bd 0)
 have f8:∀ U:World,(Instr.fieldAt 84 (.pointer (some ⟨b8,0,none⟩)) 5).run Tp U = .ok (.pointer (some ⟨b8,5,none⟩)) U:=fun U =>
  (vI (P:=Tp) (W:=U) Tryz.underlying84 (f:=5) rfl (by exact t3) (by rw [s3];decide) b8 0)
 obtain ⟨S,hSdef⟩:∃ S:World→Prop,S=fun U=>U.heap[b6]? = W.heap[b6]? ∧ U.heap[bd]? = W.heap[bd]? ∧ U.heap[b8]? = W.heap[b8]? ∧ U.heap[mb]? = W.heap[mb]? := ⟨_,rfl⟩
 have hmb:W.heap[mb]? = some (.map es cl):=hR (mb,.map es cl) (by simp [gA])
 have r6:∀ U,S U→(Instr.loadAt 106 (.pointer (some ⟨b6,0,none⟩))).run Tp U = .ok (.pointer (some ⟨bd,0,none⟩)) U:=fun U hU=>by
  rw [hSdef] at hU
  refine wS Pr Ps ?_;rw [dV hU.1,bJ h6 q6.1];have:=q6.2;simp only [Bb,pL q6.1,Option.getD_some] at this ⊢
  rw [this]
 have rd:∀ U,S U→(Instr.loadAt 167 (.pointer (some ⟨bd,4,none⟩))).run Tp U = .ok (.map (some mb)) U:=fun U hU=>by
  rw [hSdef] at hU
  refine wS Mm Pt ?_;rw [dV hU.2.1,bJ hd qd.1];have:=qd.2;simp only [Bb,pL qd.1,Option.getD_some] at this ⊢
  rw [this]
 have x5:(vsL x)[5]? = some (.int .i64 (dAb x)):=by
  unfold vsL;rw [eX,Aq (by omega)]
  simp [dAb,Bm,Aq (show 5<x.length by omega)]
 have r5:∀ U,S U→(Instr.loadAt 3 (.pointer (some ⟨b8,5,none⟩))).run Tp U = .ok (.int .i64 (dAb x)) U:=fun U hU=>by
  rw [hSdef] at hU
  refine wS t3 a3 ?_;have Pv:5<(vsL x).length:=by simp [vsL,Jo]
  rw [dV hU.2.2.1,bJ h8 (j:=5) (by simpa using Pv)]
  simp only [Aq Pv,Option.some.injEq] at x5
  simp [Bb,Aq Pv,x5]
 have r8:∀ U,S U→(Instr.loadAt 84 (.pointer (some ⟨b8,0,none⟩))).run Tp U = .ok (.agg (vsL x).toArray) U:=fun U hU=>by
  rw [hSdef] at hU
  exact aWx Sy Sz (by simp [vsL,Jo,S0]) (hU.2.2.1.trans h8)
 have rz:∀ U:World,(zeroValue 24).run Tp U = .ok (.slice none 0 0) U:=fun U=>rfl
 have rl:∀ U,S U→(Instr.lookup 167 (.map (some mb)) (.int .i64 (dAb x)) false).run Tp U = .ok (pH L (dAb x)) U:=fun U hU=>by
  rw [hSdef] at hU
  exact bEl Tryz.underlying167 Tryz.underlying3 (rz U) (hU.2.2.2.trans hmb) hM hk
 obtain ⟨W1,Hh⟩:∃ W1:World,W1={ W with drawn:=W.drawn+1 }:=⟨_,rfl⟩
 have Ht:W1.heap=W.heap:=by rw [Hh]
 have hs:Sim Tp ((⟨fun _=>none,fun _=>0,fun _=>False,[]⟩:Cx).with (gA mb es cl L++[])) [] { W1 with heap := #[] } ⟨List.replicate 57 .any,[]⟩ { tmps:=a.tmps,defers:=[] } W1:=by
  refine ⟨⟨fun _=>none,fun _=>0,fun _=>False,[]⟩,⟨by simpa using hsz,fun j hj=>by rw [List.getElem_replicate];exact .any _⟩,⟨fun _ _ _ _ h=>by simp at h,fun _ _ _ h=>by simp at h,fun _ _ _ h=>by simp at h,fun _ _ _ _ _ h=>by simp at h,fun _ _ _ h=>by simp at h,fun _ h=>h.elim,fun _ _ _ h=>by simp at h⟩,
   ⟨rfl,rfl,rfl,Nat.zero_le _,fun b hb=>by simp at hb,fun _ _ h=>by simp at h,fun _ _ h=>by simp at h,fun _ _ h=>by simp at h,fun _ _ _ h=>by simp at h,fun _ h=>h,fun _ h=>h.elim⟩,?_⟩
  refine ⟨⟨[],rfl,.nil,fun D h=>by cases h⟩,fun p hp => ?_,.no (fun _ _ h=>by simp at h)⟩
  have He:p∈gA mb es cl L:=by have h2:p∈gA mb es cl L++[]:=hp;rwa [List.append_nil] at h2
  refine ⟨by rw [Ht];exact hR p He,Nat.zero_le _,?_,fun h=>h,fun _ _ h=>by simp at h⟩
  rcases cK.1 He with rfl | ⟨y,_,rfl⟩ <;> (intro h;cases h)
 obtain ⟨v2,w2,B2,Da,e,hrun,hkeep,Hu,⟨hsize,hborn,hold⟩,hup,Fu,hek,hel,_,hsim⟩:=bKg (P:=Tp) (C0:=⟨fun _=>none,fun _=>0,fun _=>False,[]⟩) (kt:=3) (S22:=24) (ty:=Q1.type) (k:=dAb x) (x:=x) Jo Tryz.underlying167 Tryz.underlying3 Tryz.underlying24 Ev hs (fun p _ q hq=>by cases hq) hM hk hl
 have Ej:S w2:=by
  rw [hSdef];have hlt:∀ b o,W.heap[b]? = some o→b<W1.heap.size:=fun b o h=>by rw [Ht];exact bM h
  refine ⟨(hkeep b6 (hlt _ _ h6) fun q hq=>(hne q hq).1).trans (by rw [Ht]),(hkeep bd (hlt _ _ hd) fun q hq=>(hne q hq).2.1).trans (by rw [Ht]),(hkeep b8 (hlt _ _ h8) fun q hq=>(hne q hq).2.2).trans (by rw [Ht]),Hu.trans (by rw [Ht])⟩
 have Hv:S { W with drawn:=W.drawn+1 }:=by rw [hSdef];exact ⟨rfl,rfl,rfl,rfl⟩
 refine aXc (P:=Tp) (o1:=Sj) (o2:=Q1) (o3:=Sk) (S:=S) hall (fun ⟨_,_,h,_⟩=>by cases h) hcalm [0,1,2,3,4,5,6,7,8,9,10,11,12,13] 14 15 16 mixed hB rfl rfl rfl (fun c a w h=>by cases h.1) Hv
  [.pointer (some ⟨bd,0,none⟩),.pointer (some ⟨bd,0,none⟩),.pointer (some ⟨bd,4,none⟩),.map (some mb),.pointer (some ⟨b8,5,none⟩),.int .i64 (dAb x),.pointer (some ⟨bd,0,none⟩),.pointer (some ⟨bd,0,none⟩),.pointer (some ⟨bd,4,none⟩),.map (some mb),.pointer (some ⟨b8,5,none⟩),.int .i64 (dAb x),pH L (dAb x),.agg (vsL x).toArray] rfl ?_ ?_
 ·refine ⟨fun U hU=>oT q0 V6 (r6 U hU),fun U hU=>bEg q1 (by simp [bG,bC,cU,hsz,V6,V8,d0,d1,d2,d3,d4,d5,d6,d7,d8,d9,Ew,Ey,Ez]),fun U hU=>vH q2 (by simp [bG,bC,cU,hsz,V6,V8,d0,d1,d2,d3,d4,d5,d6,d7,d8,d9,Ew,Ey,Ez]) (fd U),
   fun U hU=>oT q3 (by simp [bG,bC,cU,hsz,V6,V8,d0,d1,d2,d3,d4,d5,d6,d7,d8,d9,Ew,Ey,Ez]) (rd U hU),fun U hU=>vH q4 (by simp [bG,bC,cU,hsz,V6,V8,d0,d1,d2,d3,d4,d5,d6,d7,d8,d9,Ew,Ey,Ez]) (f8 U),fun U hU=>oT q5 (by simp [bG,bC,cU,hsz,V6,V8,d0,d1,d2,d3,d4,d5,d6,d7,d8,d9,Ew,Ey,Ez]) (r5 U hU),
   fun U hU=>oT Sl (by simp [bG,bC,cU,hsz,V6,V8,d0,d1,d2,d3,d4,d5,d6,d7,d8,d9,Ew,Ey,Ez]) (r6 U hU),fun U hU=>bEg q7 (by simp [bG,bC,cU,hsz,V6,V8,d0,d1,d2,d3,d4,d5,d6,d7,d8,d9,Ew,Ey,Ez]),fun U hU=>vH q8 (by simp [bG,bC,cU,hsz,V6,V8,d0,d1,d2,d3,d4,d5,d6,d7,d8,d9,Ew,Ey,Ez]) (fd U),
   fun U hU=>oT q9 (by simp [bG,bC,cU,hsz,V6,V8,d0,d1,d2,d3,d4,d5,d6,d7,d8,d9,Ew,Ey,Ez]) (rd U hU),fun U hU=>vH Sm (by simp [bG,bC,cU,hsz,V6,V8,d0,d1,d2,d3,d4,d5,d6,d7,d8,d9,Ew,Ey,Ez]) (f8 U),fun U hU=>oT Sn (by simp [bG,bC,cU,hsz,V6,V8,d0,d1,d2,d3,d4,d5,d6,d7,d8,d9,Ew,Ey,Ez]) (r5 U hU),
   fun U hU=>aXe Sq (by simp [bG,bC,cU,hsz,V6,V8,d0,d1,d2,d3,d4,d5,d6,d7,d8,d9,Ew,Ey,Ez]) (by simp [bG,bC,cU,hsz,V6,V8,d0,d1,d2,d3,d4,d5,d6,d7,d8,d9,Ew,Ey,Ez]) (rl U hU),
   fun U hU=>oT Sr (by simp [bG,bC,cU,hsz,V6,V8,d0,d1,d2,d3,d4,d5,d6,d7,d8,d9,Ew,Ey,Ez]) (r8 U hU),trivial⟩
 ·intro a' Jn
  have S1:a'.eval (.tmp 43) = .map (some mb):=by rw [Jn];simp [yA,bG,bC,cU,hsz,V6,V8,d0,d1,d2,d3,d4,d5,d6,d7,d8,d9,Ew,Ey,Ez,Mk]
  have Mo:a'.eval (.tmp 45) = .int .i64 (dAb x):=by rw [Jn];simp [yA,bG,bC,cU,hsz,V6,V8,d0,d1,d2,d3,d4,d5,d6,d7,d8,d9,Ew,Ey,Ez,Mk]
  have S2:a'.eval (.tmp 52)=pH L (dAb x):=by rw [Jn];simp [yA,bG,bC,cU,hsz,V6,V8,d0,d1,d2,d3,d4,d5,d6,d7,d8,d9,Ew,Ey,Ez,Mk]
  have S3:a'.eval (.tmp 53) = .agg (vsL x).toArray:=by rw [Jn];simp [yA,bG,bC,cU,hsz,V6,V8,d0,d1,d2,d3,d4,d5,d6,d7,d8,d9,Ew,Ey,Ez,Mk]
  have S4:a'.tmps.size=57:=by rw [Jn];simp [yA,cU,hsz,d0,d1,d2,d3,d4,d5,d6,d7,d8,d9,Ew,Ey,Ez,Mk]
  obtain ⟨inf,hi,hz,Eg,Ld⟩:=info_parts Ev;have hvl:(vsL x).length=6:=by simp [vsL,Jo]
  have hbld:∀ U:World,(Instr.buildSlice 24 1 #[(0,.agg (vsL x).toArray)]).run Tp U = .ok (.slice (some ⟨U.heap.size,0,none⟩) 1 1) (U.alloc (.cells (vsL x).toArray 84)):=fun U =>
   aAp (P:=Tp) 24 84 inf 1 #[(0,.agg (vsL x).toArray)] (vsL x).toArray Hr Tryz.underlying24 hi hz (by rw [Eg];decide) (by rw [Eg];exact Mh Jo)
  have Pw:({ W with drawn:=W.drawn+1 }:World)=W1:=Hh.symm
  rw [Pw] at Hv ⊢
  refine ⟨_,_,v2,w2,setBlock w2 mb (.map B2 Da),aXf Ss S3 (hbld _),?_,aXg Su (by rw [Ml,bG rfl];exact S2) (by rw [Ml,bC (by omega)]) hrun,Ej,aXh Sv (by rw [Ml,Pq,bG rfl,bG rfl];exact S1) (by rw [Ml,Pq,bG rfl,bG rfl];exact Mo) (by rw [Ml,Pq,bC (by rw [cU];omega)]) hup,?_⟩
  ·obtain ⟨n1,n2,n3⟩:=iM W1 (.cells (vsL x).toArray 84)
   rw [hSdef] at Hv ⊢
   have hlt:∀ b o,W.heap[b]? = some o→b<W1.heap.size:=fun b o h=>by rw [Ht];exact bM h
   exact ⟨(n3 b6 (hlt _ _ h6)).trans Hv.1,(n3 bd (hlt _ _ hd)).trans Hv.2.1,(n3 b8 (hlt _ _ h8)).trans Hv.2.2.1,(n3 mb (hlt _ _ hmb)).trans Hv.2.2.2⟩
  ·refine ⟨rfl,B2,Da,e,⟨Fu,hek,hel,hborn,fun p hp => ?_,?_,?_,?_,?_,fun b hb hno => ?_⟩⟩
   ·refine ⟨hsim.has p (nR _ hp),?_⟩
    rcases hold p hp with h | h
    ·exact .inl h
    ·right;rw [Ht] at h;exact h
   ·unfold setBlock;simp only [Array.size_setIfInBounds];rw [Ht] at hsize;exact hsize
   ·obtain ⟨C,_,_,hF,_⟩:=hsim
    exact hF.os.trans (by rw [Hh])
   ·obtain ⟨C,_,_,hF,_⟩:=hsim
    exact hF.tape.trans (by rw [Hh])
   ·obtain ⟨C,_,_,hF,_⟩:=hsim
    exact hF.out.trans (by rw [Hh])
   ·have hbm:b≠mb:=fun h=>hno (mb,.map es cl) (by simp [gA]) h.symm
    have:(setBlock w2 mb (.map B2 Da)).heap[b]? = w2.heap[b]? := by
     unfold setBlock;simp only [Array.getElem?_setIfInBounds];rw [if_neg (Ne.symm hbm)]
    rw [this,hkeep b (by rw [Ht];exact hb) hno,Ht]
end KV
end Go.Proofs
end
section
namespace Go.Proofs
open Go.RowKit
namespace KV
open Tryz
open Go.ChangeMaps (setBlock)

mutual
def ffP:PV→Bool
 | .v _=>true
 | .agg cs=>aWw cs
 | _=>false
def aWw:List PV→Bool
 | []=>true
 | x::r=>ffP x && aWw r
end
theorem aSm:∀ {l:List PV},aWw l=true→∀ (i:Nat) (h:i<l.length),ffP l[i]=true
 | [],_,i,h=>by simp at h
 | x::r,hl,i,h=>by
  rw [aWw,Bl] at hl
  cases i with
  | zero=>exact hl.1
  | succ i=>exact aSm hl.2 i (by simpa using h)
theorem aKp{α:Type}(g:α→PV)(h:∀ x,ffP (g x)=true):∀ l:List α,aWw (l.map g)=true
 | []=>rfl
 | x::r=>by rw [gY,aWw,h,aKp g h r];rfl
theorem cB.anyF{F F':Nat→Prop}{w w':World}{x:PV}{u:Value}(h:cB F w x u)(hm:ffP x=true):cB F' w' x u:=by
 induction h with
 | v x=>exact .v x
 | agg cs vs h0 h1 _ ih =>
  rw [ffP] at hm
  exact .agg cs vs h0 h1 fun i hi=>ih i hi (aSm hm i hi)
 | sl=>simp [ffP] at hm
 | mp=>simp [ffP] at hm
 | rp=>simp [ffP] at hm

def sE(x:List Int):PV := .agg (x.map aA)
def jY(es:List (Value × PV))(x:List Int):List (Value × PV):=if cW es (.int .i64 (dN x)) then oB es (.int .i64 (dN x)) (sE x) else es++[(.int .i64 (dN x),sE x)]
def atF(q:Lqq):List (Value × PV):=q.foldl jY []
theorem aKq(q:Lqq)(x:List Int):atF (q++[x])=jY (atF q) x:=by unfold atF;rw [aBa];rfl
structure wQ (es:List (Value × PV)):Prop where
 ky:∀ e∈es,aJn .i64 e.1=true
 nd:(es.map fun e=>gW e.1).Nodup
 nm:∀ e∈es,ffP e.2=true
theorem aBu{kv:Value}{x:PV}:∀ (es:List (Value × PV)),((oB es kv x).map fun e=>gW e.1)=es.map fun e=>gW e.1
 | []=>rfl
 | e::r=>by
  unfold oB
  split
  ·rename_i h
   rw [gY,gY,h]
  ·rw [gY,gY,aBu r]
theorem aBv{kv:Value}{x:PV}{e:Value × PV}:∀ {es:List (Value × PV)},e∈oB es kv x→e∈es∨e=(kv,x)
 | [],h=>by unfold oB at h;cases h
 | a::r,h=>by
  unfold oB at h
  split at h
  ·rcases gX.1 h with h | h
   ·exact .inr h
   ·exact .inl (Cj _ h)
  ·rcases gX.1 h with h | h
   ·exact .inl (h ▸ jQ ..)
   ·rcases aBv h with h | h
    ·exact .inl (Cj _ h)
    ·exact .inr h
theorem aSn(x:List Int):ffP (sE x)=true:=by unfold sE;rw [ffP];exact aKp _ (fun _=>rfl) _
theorem wQ.step{es:List (Value × PV)}(h:wQ es){x:List Int}(hx : -1000000≤dN x∧dN x≤1000000):wQ (jY es x):=by
 unfold jY;cases hb:cW es (.int .i64 (dN x)) with
 | true =>
  rw [if_pos rfl];refine ⟨fun e he => ?_,by rw [aBu];exact h.nd,fun e he => ?_⟩
  ·rcases aBv he with h1 | rfl
   ·exact h.ky e h1
   ·exact mS hx
  ·rcases aBv he with h1 | rfl
   ·exact h.nm e h1
   ·exact aSn x
 | false =>
  rw [if_neg (by simp)]
  refine ⟨fun e he => ?_,?_,fun e he => ?_⟩
  ·rcases iE.1 he with h1 | h1
   ·exact h.ky e h1
   ·rw [List.mem_singleton.1 h1];exact mS hx
  ·rw [fL,List.nodup_append]
   refine ⟨h.nd,by simp,fun a ha b Al hab => ?_⟩
   simp at Al
   subst Al;obtain ⟨e,he,rfl⟩:=dS.1 ha;have:=(List.any_eq_false.1 (show es.any _=false from hb)) e he
   exact this (decide_eq_true hab)
  ·rcases iE.1 he with h1 | h1
   ·exact h.nm e h1
   ·rw [List.mem_singleton.1 h1];exact aSn x
theorem bEd{q:Lqq}(hq:∀ x∈q,-1000000≤dN x∧dN x≤1000000):wQ (atF q):=by
 have key:∀ (q:Lqq) (es:List (Value × PV)),(∀ x∈q,-1000000≤dN x∧dN x≤1000000)→wQ es→wQ (q.foldl jY es):=by
  intro q
  induction q with
  | nil=>intro es _ h;exact h
  | cons x q ih=>intro es hq h;exact ih _ (fun y hy=>hq y (Cj _ hy)) (h.step (hq x (jQ ..)))
 exact key q [] hq ⟨fun e h=>(by cases h),by simp,fun e h=>(by cases h)⟩
theorem wQ.keys{es:List (Value × PV)}(h:wQ es){k:Int}(hk : -1000000≤k∧k≤1000000):bQ .i64 es (.int .i64 k):=⟨h.ky,mS hk,h.nd⟩
theorem bEe{kv:Value}{x:PV}(es:List (Value × PV)):(oB es kv x).length=es.length:=by
 have:=congrArg List.length (aBu (kv:=kv) (x:=x) es);simpa using this

abbrev dkB(dl:Int)(s1 s2:PV)(a b:AV):AO := .box 169 [.p (aA dl),.p s1,.p s2,a,b]
abbrev kV(dl:Int)(sk dc:Lqq):Mem:=[some (.box 106 [.ptr 1 0]),some (dkB dl (.sl sk.length (sk.flatten.map aA)) (.sl dc.length (dc.flatten.map aA)) (.mp 2) (.mp 3)),some (.mp [] 0),some (.mp [] 0)]
abbrev wR(dl:Int)(v1 v2:Value)(mb:Nat)(es:List (Value × PV)):Mem:=[some (.box 106 [.ptr 1 0]),some (dkB dl (.v v1) (.v v2) (.mp 2) (.p (.v (.map (some mb))))),some (.mp es es.length),some .dead]
abbrev fN(dl:Int)(v1 v2:Value)(mb:Nat)(es:List (Value × PV))(x:List Int):Mem:=[some (.box 106 [.ptr 1 0]),some (dkB dl (.v v1) (.v v2) (.mp 2) (.p (.v (.map (some mb))))),some (.mp es es.length),some .dead,some (.box 84 ((x.map aA).map .p))]
theorem at4{α:Type}{a b c d x:α}{i:Nat}(h:[a,b,c,d][i]? = some x):(i=0∧x=a)∨(i=1∧x=b)∨(i=2∧x=c)∨(i=3∧x=d):=by
 match i with
 | 0=>simp at h;exact .inl ⟨rfl,h.symm⟩
 | 1=>simp at h;exact .inr (.inl ⟨rfl,h.symm⟩)
 | 2=>simp at h;exact .inr (.inr (.inl ⟨rfl,h.symm⟩))
 | 3=>simp at h;exact .inr (.inr (.inr ⟨rfl,h.symm⟩))
 | i+4=>simp at h
theorem Ko{α:Type}{a b c d e x:α}{i:Nat}(h:[a,b,c,d,e][i]? = some x):(i=0∧x=a)∨(i=1∧x=b)∨(i=2∧x=c)∨(i=3∧x=d)∨(i=4∧x=e):=by
 match i with
 | 0=>simp at h;exact .inl ⟨rfl,h.symm⟩
 | 1=>simp at h;exact .inr (.inl ⟨rfl,h.symm⟩)
 | 2=>simp at h;exact .inr (.inr (.inl ⟨rfl,h.symm⟩))
 | 3=>simp at h;exact .inr (.inr (.inr (.inl ⟨rfl,h.symm⟩)))
 | 4=>simp at h;exact .inr (.inr (.inr (.inr ⟨rfl,h.symm⟩)))
 | i+5=>simp at h
section
variable {dl:Int} {sk dc:Lqq} {v1 v2:Value} {mb:Nat} {es:List (Value × PV)} {x:List Int} {C C' C3:Cx} {w W W3 W4:World}

theorem rW{i:Nat}{o:AO}(h:(wR dl v1 v2 mb es)[i]? = some (some o))(hl:o.live=true):i=0∨i=1∨i=2:=by
 rcases at4 h with ⟨rfl,_⟩ | ⟨rfl,_⟩ | ⟨rfl,_⟩ | ⟨rfl,e⟩
 ·exact .inl rfl
 ·exact .inr (.inl rfl)
 ·exact .inr (.inr rfl)
 ·cases e;cases hl
theorem eB(i:Nat)(h:i<4):∃ o,(kV dl sk dc)[i]? = some (some o)∧o.live=true:=by
 match i,h with
 | 0,_=>exact ⟨_,rfl,rfl⟩
 | 1,_=>exact ⟨_,rfl,rfl⟩
 | 2,_=>exact ⟨_,rfl,rfl⟩
 | 3,_=>exact ⟨_,rfl,rfl⟩
theorem bEf:aHc (kV dl sk dc) (wR dl v1 v2 mb es):=⟨fun i es cl h=>(by
 rcases at4 h with ⟨rfl,e⟩ | ⟨rfl,e⟩ | ⟨rfl,e⟩ | ⟨rfl,e⟩
 ·cases e
 ·cases e
 ·exact ⟨_,rfl,rfl⟩
 ·cases e),fun i o h=>by
 rcases at4 h with ⟨rfl,e⟩ | ⟨rfl,e⟩ | ⟨rfl,e⟩ | ⟨rfl,e⟩ <;> cases e <;> rfl⟩

structure aKr (dl:Int) (sk dc:Lqq) (v1 v2:Value) (C:Cx) (w:World) (mb:Nat) (q:Lqq) (W:World) (C':Cx) (es:Array MapEntry) (cl:Nat) (L:List Ent):Prop where
 inv:aDf Tp C (kV dl sk dc) w C' (wR dl v1 v2 mb (atF q)) W
 ok:kW mb es L
 ls:L.map (fun e=>(e.k,e.l))=q.foldl iH []
 born:∀ y∈es.toList,y.born<cl
 has:∀ p∈gA mb es cl L,W.heap[p.1]? = some p.2∧¬ C'.F p.1∧(p.1=mb∨w.heap.size≤p.1)

theorem aKr.own{q:Lqq}{W':World}{ea:Array MapEntry}{cl:Nat}{L:List Ent}{row:Option Nat}(Cc:aP Tp C (kV dl sk dc) w)(hmb:C.ι 3=some mb)(h:aKr dl sk dc v1 v2 C w mb q W C' ea cl L)(hg:W.grownBy W' row)
  (hr:∀ r,row=some r→w.heap.size≤r∧∃ o:Obj,W.heap[r]? = some o∧o.isCells=false):aKr dl sk dc v1 v2 C w mb q W' C' ea cl L:=by
 refine ⟨aDf.own bEf Cc h.inv hg hr,h.ok,h.ls,h.born,fun p hp => ?_⟩
 obtain ⟨h1,h2,h3⟩:=h.has p hp;refine ⟨(hg.block p.1 (bM h1) fun e => ?_).trans h1,h2,h3⟩
 obtain ⟨q1,o,q2,q3⟩:=hr _ e.symm
 rcases cK.1 hp with rfl | ⟨y,_,rfl⟩
 ·have:=Cc.lt 3 _ mb rfl rfl hmb
  dsimp only at q1
  omega
 ·rw [q2] at h1
  cases h1;cases q3

theorem aSo{b:Nat}{X:Nat→Prop}{B2:List (Value × PV)}(Cc:aP Tp C (kV dl sk dc) w)(hmb:C.ι 3=some mb)(hI:aDf Tp C (kV dl sk dc) w C' (wR dl v1 v2 mb es) W)(hb:w.heap.size≤b)(hbs:kU W b)(hes:wQ B2)
  (Gn:aP Tp C3 (fN dl v1 v2 mb B2 x) W3) (f:Fr ((C'.grow 4 b 1).with []) (fN dl v1 v2 mb es x) W C3 (fN dl v1 v2 mb B2 x) W3)
  (hsz:W3.heap.size≤W4.heap.size) (ho:W4.os=W3.os) (ht:W4.tape=W3.tape) (hu:W4.output=W3.output)
  (hX:∀ c,X c→¬ C.F c∧(c=mb∨w.heap.size≤c)∧c<W.heap.size∧c≠b∧(kU W c∨c<w.heap.size)) (hk:∀ c,c<W3.heap.size→¬ X c→W4.heap[c]? = W3.heap[c]?) :
  ∃ C4,aDf Tp C (kV dl sk dc) w C4 (wR dl v1 v2 mb B2) W4∧KeepsFrom w.heap.size W W4∧KpG C.F W W4:=by
 obtain ⟨hFI,hM,fI⟩:=hI;have gι:∀ i,i<4→(C'.grow 4 b 1).ι i=C'.ι i:=fun i hi=>by
  have:i≠4:=by omega
  simp [Cx.grow,this]
 have ιC:∀ i,i<4→C'.ι i=C.ι i:=fun i hi=>by
  obtain ⟨o,h1,_⟩:=eB (dl:=dl) (sk:=sk) (dc:=dc) i hi;exact (fI.ids i o h1).2.1
 have κC:∀ i,i<4→C'.κ i=C.κ i:=fun i hi=>by
  obtain ⟨o,h1,_⟩:=eB (dl:=dl) (sk:=sk) (dc:=dc) i hi;exact (fI.ids i o h1).2.2
 have ι3:∀ i,i<5→C3.ι i=(C'.grow 4 b 1).ι i∧C3.κ i=(C'.grow 4 b 1).κ i:=fun i hi=>by
  have:∃ o,(fN dl v1 v2 mb es x)[i]? = some (some o):=by
   match i,hi with
   | 0,_=>exact ⟨_,rfl⟩
   | 1,_=>exact ⟨_,rfl⟩
   | 2,_=>exact ⟨_,rfl⟩
   | 3,_=>exact ⟨_,rfl⟩
   | 4,_=>exact ⟨_,rfl⟩
  obtain ⟨o,h⟩:=this;exact ⟨(f.ids i o h).2.1,(f.ids i o h).2.2⟩
 have ι4:(C'.grow 4 b 1).ι 4=some b:=by simp [Cx.grow]
 have Hs:∀ (i:Nat) (o:AO) (c:Nat) (N2:List (Value × PV)),(fN dl v1 v2 mb N2 x)[i]? = some (some o)→o.live=true→(C'.grow 4 b 1).ι i=some c→(∃ i,i<3∧C.ι i=some c)∨c=b:=fun i o c N2 h hl he=>by
  rcases Ko h with ⟨rfl,_⟩ | ⟨rfl,_⟩ | ⟨rfl,_⟩ | ⟨rfl,e⟩ | ⟨rfl,_⟩
  ·rw [gι 0 (by omega),ιC 0 (by omega)] at he;exact .inl ⟨0,by omega,he⟩
  ·rw [gι 1 (by omega),ιC 1 (by omega)] at he;exact .inl ⟨1,by omega,he⟩
  ·rw [gι 2 (by omega),ιC 2 (by omega)] at he;exact .inl ⟨2,by omega,he⟩
  ·cases e;cases hl
  ·rw [ι4] at he;exact .inr (Option.some.inj he).symm
 have Kk:∀ i c,i<3→C.ι i=some c→c<w.heap.size∧c≠mb:=fun i c hi hc=>by
  obtain ⟨o,h1,h2⟩:=eB (dl:=dl) (sk:=sk) (dc:=dc) i (by omega)
  refine ⟨Cc.lt i o c h1 h2 hc,fun e => ?_⟩
  subst e;have:=Cc.inj i 3 o _ c h1 h2 rfl rfl hc hmb;omega
 have Xn3:∀ c,X c→∀ i,i<3→C.ι i≠some c:=fun c hc i hi he=>by
  obtain ⟨h1,h2⟩:=Kk i c hi he
  rcases (hX c hc).2.1 with h3 | h3
  ·exact h2 h3
  ·omega
 have far:∀ c,c<W.heap.size→c≠b→(∀ i,i<3→C.ι i≠some c)→¬ X c→W4.heap[c]? = W.heap[c]? := fun c hc hcb hn hx=>by
  refine (hk c (Cg hc f.size) hx).trans (f.keep c hc fun i o h hl he => ?_)
  rcases Hs i o c _ h hl he with ⟨j,hj,h2⟩ | h2
  ·exact hn j hj h2
  ·exact hcb h2
 have XF3:∀ c,X c→¬ C3.F c:=fun c hc hf=>by
  obtain ⟨h1,h2,h3,h4,_⟩:=hX c hc
  rcases f.F2 c hf with h | h | ⟨i,o,q1,q2,q3⟩
  ·exact h1 ((hFI c).1 h)
  ·omega
  ·rcases Hs i o c _ q1 q2 q3 with ⟨j,hj,h5⟩ | h5
   ·exact Xn3 c hc j hj h5
   ·exact h4 h5
 obtain ⟨Mg,_⟩:=aBy Gn hsz (fun c hc=>hk c (Gn.Fs c hc) fun hx=>XF3 c hx hc) (fun i o c h hl hc=>hk c (Gn.lt i o c h hl hc) fun hx=>by
  have Se:i<5:=(Bc.1 h).1;rw [(ι3 i Se).1] at hc
  rcases Hs i o c _ h hl hc with ⟨j,hj,h5⟩ | h5
  ·exact Xn3 c hx j hj h5
  ·exact (hX c hx).2.2.2.1 h5)
 have Iy:aP Tp C3 (wR dl v1 v2 mb B2) W4:=bKc Mg (fun i o h=>by
   have hi:i<4:=(Bc.1 h).1
   match i,hi with
   | 0,_=>exact h
   | 1,_=>exact h
   | 2,_=>exact h
   | 3,_=>exact h) (fun i ty cs h y hy u hu=>by
   rcases at4 h with ⟨rfl,e⟩ | ⟨rfl,e⟩ | ⟨rfl,e⟩ | ⟨rfl,e⟩
   ·cases e
    rw [List.mem_singleton.1 hy] at hu ⊢
    exact aKy (M:=fN dl v1 v2 mb B2 x) rfl hu
   ·cases e
    simp only [gX,List.not_mem_nil,or_false] at hy
    rcases hy with rfl | rfl | rfl | rfl | rfl
    ·exact rY hu
    ·exact rY hu
    ·exact rY hu
    ·exact aOz (M:=fN dl v1 v2 mb B2 x) rfl hu
    ·exact rY hu
   ·cases e
   ·cases e)
 have Sf:∀ i (c:Nat),i<4→C3.ι i=some c→C.ι i=some c:=fun i c hi hc=>by rw [(ι3 i (by omega)).1,gι i hi,ιC i hi] at hc;exact hc
 have Sg:aP Tp ⟨C3.ι,C3.κ,C.F,[]⟩ (wR dl v1 v2 mb B2) W4:=by
  refine ⟨fun i ty n cs h => ?_,fun i ty cs h => ?_,fun i N2 cl h => ?_,Iy.inj,fun i o c h hl hc => ?_,fun c hc=>Cg (Cc.Fs c hc) (fM fI.size (fM f.size hsz)),Iy.lt⟩
  ·rcases at4 h with ⟨rfl,e⟩ | ⟨rfl,e⟩ | ⟨rfl,e⟩ | ⟨rfl,e⟩ <;> cases e
  ·obtain ⟨b',arr,q0,q1,q2,q3,q4⟩:=Iy.box _ _ _ h
   refine ⟨b',arr,q0,q1,q2,fun j hj => ?_,q4⟩
   have hq:=q3 j hj;have hp:∀ (y:PV) (u:Value),ffP y=true→Rep C3 (wR dl v1 v2 mb B2) W4 (.p y) u→Rep ⟨C3.ι,C3.κ,C.F,[]⟩ (wR dl v1 v2 mb B2) W4 (.p y) u:=fun y u hy hu=>by
    cases hu with
    | p _ _ h=>exact .p _ _ (h.anyF hy)
   rcases at4 h with ⟨rfl,e⟩ | ⟨rfl,e⟩ | ⟨rfl,e⟩ | ⟨rfl,e⟩
   ·cases e
    have:j=0:=by simp at hj;exact hj
    subst this;simp only [List.getElem_cons_zero] at hq ⊢
    cases hq with
    | ptr _ _ _ h0 ha h hp=>exact .ptr _ _ _ h0 ha h hp
   ·cases e
    match j,hj with
    | 0,_=>exact hp _ _ rfl hq
    | 1,_=>exact hp _ _ rfl hq
    | 2,_=>exact hp _ _ rfl hq
    | 3,_ =>
     simp only [List.getElem_cons_succ,List.getElem_cons_zero] at hq ⊢
     cases hq with
     | mp _ _ h0 ha h=>exact .mp _ _ h0 ha h
    | 4,_=>exact hp _ _ rfl hq
   ·cases e
   ·cases e
  ·obtain ⟨b',arr,q0,q1,q2,q3⟩:=Iy.mp _ _ _ h
   refine ⟨b',arr,q0,q1,q2,fun j hj => ?_⟩
   obtain ⟨en,r1,r2,r3,r4⟩:=q3 j hj;have hff:ffP N2[j].2=true:=by
    rcases at4 h with ⟨rfl,e⟩ | ⟨rfl,e⟩ | ⟨rfl,e⟩ | ⟨rfl,e⟩
    ·cases e
    ·cases e
    ·cases e;exact hes.nm _ (gJ hj)
    ·cases e
   exact ⟨en,r1,r2,r3,r4.anyF hff⟩
  ·have hi:=rW h hl
   obtain ⟨o2,h1,h2⟩:=eB (dl:=dl) (sk:=sk) (dc:=dc) i (by omega)
   exact Cc.nF i o2 c h1 h2 (Sf i c (by omega) hc)
 refine ⟨⟨C3.ι,C3.κ,C.F,[]⟩,⟨fun c=>Iff.rfl,Sg,⟨ho.trans (f.os.trans fI.os),ht.trans (f.tape.trans fI.tape),hu.trans (f.out.trans fI.out),fM fI.size (fM f.size hsz),fun c hc hno => ?_,fun i o h => ?_,fun i o h ty n cs hm => ?_,fun i o h o' hm hl => ?_,fun i o c hm hl hc => ?_,fun c hc=>hc,fun c hc => .inl hc⟩⟩,⟨fM f.size hsz,fun c o hc L8 hnc => ?_⟩,⟨fM f.size hsz,fun c hc => ?_⟩⟩
 ·have Lf:∀ i,i<3→C.ι i≠some c:=fun i hi=>by
   obtain ⟨o,h1,h2⟩:=eB (dl:=dl) (sk:=sk) (dc:=dc) i (by omega)
   exact hno i o h1 h2
  have hcm:c≠mb:=fun e=>hno 3 _ rfl rfl (e ▸ hmb)
  refine (far c (Cg hc fI.size) (by omega) Lf fun hx => ?_).trans (fI.keep c hc hno)
  rcases (hX c hx).2.1 with h | h
  ·exact hcm h
  ·omega
 ·have hi:i<4:=(Bc.1 h).1
  refine ⟨?_,by show C3.ι i=C.ι i;rw [(ι3 i (by omega)).1,gι i hi,ιC i hi],by
   show C3.κ i=C.κ i;rw [(ι3 i (by omega)).2,← κC i hi]
   have:i≠4:=by omega
   simp [Cx.grow,this]⟩
  match i,hi with
  | 0,_=>exact ⟨_,rfl⟩
  | 1,_=>exact ⟨_,rfl⟩
  | 2,_=>exact ⟨_,rfl⟩
  | 3,_=>exact ⟨_,rfl⟩
 ·rcases at4 hm with ⟨rfl,e⟩ | ⟨rfl,e⟩ | ⟨rfl,e⟩ | ⟨rfl,e⟩ <;> cases e
 ·have hi:i<4:=(Bc.1 h).1
  obtain ⟨o2,h1,h2⟩:=eB (dl:=dl) (sk:=sk) (dc:=dc) i hi;rw [h] at h1;cases h1;exact h2
 ·have hi:=rW hm hl
  have Po:i<4:=by omega
  obtain ⟨o2,h1,h2⟩:=eB (dl:=dl) (sk:=sk) (dc:=dc) i Po;exact .inr ⟨i,o2,h1,h2,by rw [← ιC i Po,← gι i Po,← (ι3 i (by omega)).1];exact hc⟩
 ·refine (far c (bM L8) (fun e => ?_) (fun i hi he => ?_) fun hx => ?_).trans L8
  ·subst e
   obtain ⟨o2,e1,e2⟩:=hbs;rw [L8] at e1;cases e1;rw [hnc] at e2;cases e2
  ·have:=(Kk i c hi he).1
   omega
  ·rcases (hX c hx).2.2.2.2 with ⟨o2,h1,h2⟩ | h
   ·rw [L8] at h1;cases h1;rw [hnc] at h2;cases h2
   ·omega
 ·refine far c (Cg (Cc.Fs c hc) fI.size) (fun e => ?_) (fun i hi he => ?_) fun hx=>(hX c hx).1 hc
  ·have:=Cc.Fs c hc;omega
  ·obtain ⟨o,h1,h2⟩:=eB (dl:=dl) (sk:=sk) (dc:=dc) i (by omega)
   exact Cc.nF i o c h1 h2 he hc
end
end KV
end Go.Proofs
end
section
namespace Go.Proofs
open Go.RowKit
namespace KV
open Tryz
open Go.ChangeMaps (setBlock)

def sD(e:Ent):Int × Lqq:=(e.k,e.l)
theorem bQr(L:List Ent)(e:Ent):(nU L e).map sD=aDe (L.map sD) e.k e.l:=by
 by_cases h:∃ y∈L,y.k=e.k
 ·obtain ⟨y,hy,he⟩:=h
  rw [qU hy he];unfold aDe;rw [if_pos (List.any_eq_true.2 ⟨sD y,dS.2 ⟨y,hy,rfl⟩,by simpa [sD] using he⟩),qK,qK]
  refine yL fun z _ => ?_
  by_cases hk:z.k=e.k
  ·simp [sD,hk]
  ·simp [sD,hk]
 ·have h':∀ y∈L,y.k≠e.k:=fun y hy he=>h ⟨y,hy,he⟩
  rw [vM h'];unfold aDe;rw [if_neg (fun ha=>by
   obtain ⟨z,hz,he⟩:=List.any_eq_true.1 ha;obtain ⟨y,hy,rfl⟩:=dS.1 hz;exact h' y hy (by simpa [sD] using he))]
  simp [sD]
theorem bJm(L:List Ent)(k:Int):nT L k=xX (L.map sD) k:=by
 unfold nT qT xX
 induction L with
 | nil=>rfl
 | cons y r ih =>
  rw [gY,List.find?_cons,List.find?_cons]
  by_cases hk:y.k=k
  ·simp [sD,hk]
  ·have h1:(y.k == k)=false:=by simpa using hk
   have h2:((sD y).1 == k)=false:=h1;rw [h1,h2];exact ih

structure bEb (x:List Int):Prop where
 len:x.length=6
 n:1≤dN x∧dN x≤9999
 ab:0≤dAb x∧dAb x≤9998
theorem bQs{q:Lqq}(hq:∀ y∈q,bEb y):∀ e∈q.foldl iH [],e.2.length≤q.length:=fun e he=>by
 have:=wO q [] [] ⟨by simp,fun e h=>(by cases h),fun x h=>(by cases h)⟩ (fun x hx=>(hq x hx).ab.1)
 rw [List.nil_append] at this
 rw [(this.mem e he).2.2];exact yK _ _

theorem Ma{dl:Int}{v1 v2:Value}{mb:Nat}{es:List (Value × PV)}{x:List Int}(hx:bEb x)(hes:wQ es):eH Tp 5 (sub (cd Tryz.f45) ba) ⟨fr 57 [(6,(.ptr 0 0)),(8,(.ptr 4 0))],fN dl v1 v2 mb es x⟩ .normal ⟨fr 57 [(6,(.ptr 0 0)),(8,(.ptr 4 0))],fN dl v1 v2 mb (jY es x) x⟩:=by
 obtain ⟨a,b,c,d,e,f,rfl⟩:=A8 hx.len;have hk : -1000000≤dN [a,b,c,d,e,f]∧dN [a,b,c,d,e,f]≤1000000:=by have:=hx.n;omega
 have hK:=hes.keys hk;unfold jY;cases hb:cW es (.int .i64 (dN [a,b,c,d,e,f])) with
 | true =>
  rw [if_pos rfl];exact (bJp hK hb).cast (by unfold fN;rw [bEe];rfl)
 | false =>
  rw [if_neg (by simp)]
  exact (bJq hK hb).cast (by unfold fN;rw [lT];rfl)
theorem Mb{dl:Int}{v1 v2:Value}{mb:Nat}{es:List (Value × PV)}{x:List Int}(hx:x.length=6):eH Tp 5 (sub (cd Tryz.f45) az) ⟨fr 57 [(6,(.ptr 0 0)),(8,(.ptr 4 0))],fN dl v1 v2 mb es x⟩ .normal ⟨fr 57 [(6,(.ptr 0 0)),(8,(.ptr 4 0)),(39,(.p (blP (decide (dAb x > (0:Int))))))],fN dl v1 v2 mb es x⟩:=by
 obtain ⟨a,b,c,d,e,f,rfl⟩:=A8 hx;exact bJr
theorem aWv:sub (cd Tryz.f45) [1,1,1,1,0,1,0,1] = .block 1 (.seq (sub (cd Tryz.f45) ba) (.seq (sub (cd Tryz.f45) az) (.cond (.tmp 39) (sub (cd Tryz.f45) ap) .skip))):=by kernel_rfl

section
variable {dl:Int} {sk dc:Lqq} {v1 v2:Value} {mb:Nat} {C C':Cx} {w W:World}
set_option maxHeartbeats 1000000 in
theorem bEc{l n b:Nat}{q:Lqq}{x:List Int}{ea:Array MapEntry}{cl:Nat}{L:List Ent}{a:Act}(hx:bEb x)(hq:∀ y∈q,bEb y)(hql:q.length≤1000)(Cc:aP Tp C (kV dl sk dc) w)(hmb:C.ι 3=some mb)(hI:aKr dl sk dc v1 v2 C w mb q W C' ea cl L)
  (hsz:a.tmps.size=57) (hdf:a.defers=[]) (h6:Rep C (kV dl sk dc) w (.ptr 0 0) (a.tmps.getD 6 undef)) (h8:a.tmps.getD 8 undef = .pointer (some ⟨b,0,none⟩)) (hbw:w.heap.size≤b) (hbx:W.heap[b]? = some (.cells (vsL x).toArray 84 (0,0)))
  (hbn:∀ es cl,W.heap[mb]? = some (.map es cl)→∀ y∈es.toList,y.val.ownBlock≠some b) :
  (sub (cd Tryz.f45) [1,1,1,1,0,1,0,1]).wpIn (Fen (some l)) n Tp (fun e _ W4=>e = .normal∧KeepsFrom w.heap.size W W4∧KpG C.F W W4∧∃ C4 Ph Da L',aKr dl sk dc v1 v2 C w mb (q++[x]) W4 C4 Ph Da L') a W:=by
 obtain ⟨inv,hok,hls,hborn,hhas⟩:=hI;obtain ⟨hFI,hM,fI⟩:=inv;have hAt:wQ (atF q):=bEd fun y hy=>by have:=(hq y hy).n;omega
 have hmbh:=(hhas (mb,.map ea cl) (by simp [gA])).1
 have hmblt:mb<w.heap.size:=Cc.lt 3 _ mb rfl rfl hmb;have ιC:∀ i,i<4→C'.ι i=C.ι i:=fun i hi=>by
  obtain ⟨o,h1,_⟩:=eB (dl:=dl) (sk:=sk) (dc:=dc) i hi;exact (fI.ids i o h1).2.1
 have Kk:∀ i c,i<3→C.ι i=some c→c<w.heap.size∧c≠mb:=fun i c hi hc=>by
  obtain ⟨o,h1,h2⟩:=eB (dl:=dl) (sk:=sk) (dc:=dc) i (by omega)
  refine ⟨Cc.lt i o c h1 h2 hc,fun e => ?_⟩
  subst e;have:=Cc.inj i 3 o _ c h1 h2 rfl rfl hc hmb;omega
 have hbF:¬ C'.F b:=fun h=>by have:=Cc.Fs b ((hFI b).1 h);omega
 obtain ⟨Iy,Qz⟩:=aKz (b:=b) (ty:=84) (k:=4) (cs:=x.map aA) (arr:=(vsL x).toArray) hM (fun o h=>by have:=(Bc.1 h).1;simp at this) hbx hbF (fun i o h hl he=>by
   have hi:=rW h hl;rw [ιC i (by omega)] at he
   have:=(Kk i b (by omega) he).1
   omega) (by simp [vsL]) (fun j hj=>by
   have Bt:j<x.length:=by simpa using hj
   rw [lK];have:(vsL x).toArray.getD j undef = .int .i64 x[j]:=by simp [vsL,Bb,Bt]
   rw [this];exact .v _) (fun j hj=>by
   have Bt:j<x.length:=by simpa using hj
   have:(vsL x).toArray.getD j undef = .int .i64 x[j]:=by simp [vsL,Bb,Bt]
   rw [this];rfl)
 have hset:aU (wR dl v1 v2 mb (atF q)) 4 (some (.box 84 ((x.map aA).map .p)))=fN dl v1 v2 mb (atF q) x:=rfl;rw [hset] at Iy Qz
 have N0:Rep (C'.grow 4 b 1) (fN dl v1 v2 mb (atF q) x) W (.ptr 0 0) (a.tmps.getD 6 undef):=(h6.mono (Cc.le fI)).mono Qz;have hSl:dP (C'.grow 4 b 1) (fN dl v1 v2 mb (atF q) x) W (fr 57 [(6,(.ptr 0 0)),(8,(.ptr 4 0))]) a.tmps:=by
  have s0:dP (C'.grow 4 b 1) (fN dl v1 v2 mb (atF q) x) W (List.replicate 57 .any) a.tmps:=⟨by simpa using hsz,fun j hj=>by rw [List.getElem_replicate];exact .any _⟩
  have set1:∀ (t:List AV) (i:Nat) (y:AV),dP (C'.grow 4 b 1) (fN dl v1 v2 mb (atF q) x) W t a.tmps→Rep (C'.grow 4 b 1) (fN dl v1 v2 mb (atF q) x) W y (a.tmps.getD i undef)→dP (C'.grow 4 b 1) (fN dl v1 v2 mb (atF q) x) W (t.set i y) a.tmps:=fun t i y ht hy=>by
   refine ⟨by simpa using ht.size,fun j hj => ?_⟩
   rw [wH]
   split
   ·rename_i e;subst e;exact hy
   ·exact ht.rep j (by simpa using hj)
  have N1:Rep (C'.grow 4 b 1) (fN dl v1 v2 mb (atF q) x) W (.ptr 4 0) (a.tmps.getD 8 undef):=by
   rw [h8];exact .ptr 4 0 _ rfl ⟨_,rfl⟩ (fun o ho hl=>⟨b,rfl,by simp [Cx.grow]⟩) ⟨b,rfl⟩
  exact set1 _ 8 _ (set1 _ 6 _ s0 N0) N1
 have hs:Sim Tp ((C'.grow 4 b 1).with []) (fN dl v1 v2 mb (atF q) x) W ⟨fr 57 [(6,(.ptr 0 0)),(8,(.ptr 4 0))],fN dl v1 v2 mb (atF q) x⟩ a W :=
  ⟨C'.grow 4 b 1,hSl,Iy,(Fr.refl _ _ _).based [],by rw [hdf];exact .nil rfl (fun i o h=>by rcases Ko h with ⟨rfl,e⟩ | ⟨rfl,e⟩ | ⟨rfl,e⟩ | ⟨rfl,e⟩ | ⟨rfl,e⟩ <;> cases e <;> rfl)⟩
 rw [aWv];refine wpIn_block (wpIn_seq (wpIn_mono (Ma (dl:=dl) (v1:=v1) (v2:=v2) (mb:=mb) hx hAt _ _ _ _ _ (by simp) hs (some l) n) ?_))
 rintro e a7 W7 ⟨rfl,Pi⟩;refine wpIn_seq (wpIn_mono (Mb (dl:=dl) (v1:=v1) (v2:=v2) (mb:=mb) hx.len _ _ _ _ _ (by simp) Pi (some l) n) ?_)
 rintro e a8 W3 ⟨rfl,Pj⟩;have v39:a8.eval (.tmp 39) = .bool (decide (dAb x > 0)):=Pj.slot rfl;have Pk:a8.tmps.size=57:=Pj.size;obtain ⟨C3,Ik,Gn,f3,_⟩:=Pj;have hblkL:∀ p∈gA mb ea cl L,p.1≠b∧p.1<W.heap.size∧(∀ i,i<3→C.ι i≠some p.1):=fun p hp=>by
  obtain ⟨q1,q2,q3⟩:=hhas p hp;refine ⟨?_,bM q1,fun i hi he => ?_⟩
  ·rcases cK.1 hp with rfl | ⟨y,hy,rfl⟩
   ·intro e;simp only at e;omega
   ·intro e
    obtain ⟨z,hz,_,z2⟩:=hok.e2 y hy;exact hbn ea cl hmbh z hz (by rw [z2,← e];rfl)
  ·obtain ⟨h1,h2⟩:=Kk i _ hi he
   rcases q3 with h | h
   ·exact h2 h
   ·omega
 have gι:∀ i,i<4→(C'.grow 4 b 1).ι i=C'.ι i:=fun i hi=>by
  have:i≠4:=by omega
  simp [Cx.grow,this]
 have Q0:∀ p∈gA mb ea cl L,W3.heap[p.1]? = some p.2:=fun p hp=>by
  obtain ⟨h1,h2,h3⟩:=hblkL p hp;refine (f3.keep p.1 h2 fun i o h hl he => ?_).trans (hhas p hp).1
  change (C'.grow 4 b 1).ι i=some p.1 at he
  rcases Ko h with ⟨rfl,_⟩ | ⟨rfl,_⟩ | ⟨rfl,_⟩ | ⟨rfl,e⟩ | ⟨rfl,_⟩
  ·rw [gι 0 (by omega),ιC 0 (by omega)] at he;exact h3 0 (by omega) he
  ·rw [gι 1 (by omega),ιC 1 (by omega)] at he;exact h3 1 (by omega) he
  ·rw [gι 2 (by omega),ιC 2 (by omega)] at he;exact h3 2 (by omega) he
  ·cases e;cases hl
  ·simp [Cx.grow] at he;exact h1 he.symm
 have Md:wQ (jY (atF q) x):=hAt.step (by have:=hx.n;omega)
 have hSol:kU W b:=eN hbx;refine wpIn_cond_split v39 (fun ht => ?_) fun hf => ?_
 ·-- it is about another one
  have hpos:0<dAb x:=of_decide_eq_true ht;obtain ⟨b6,a6,r0,r1,r2,r3,_⟩:=Gn.box 0 _ _ rfl;have r3:=r3 0 (by simp)
  simp only [List.getElem_cons_zero] at r3
  have u6:∃ bd,a6.getD 0 undef = .pointer (some ⟨bd,0,none⟩)∧C3.ι 1=some bd:=by
   generalize a6.getD 0 undef=u at r3
   cases r3 with
   | ptr _ _ _ h0 ha h hp=>exact h _ rfl rfl
  obtain ⟨bd,ud,ιd⟩:=u6;obtain ⟨bd',ad,s0,s1,s2,s3,_⟩:=Gn.box 1 _ _ rfl;rw [ιd] at s0;cases s0
  have s3:=s3 4 (by simp)
  simp only [List.getElem_cons_succ,List.getElem_cons_zero] at s3
  have udm:ad.getD 4 undef = .map (some mb):=by
   generalize ad.getD 4 undef=u at s3
   cases s3 with
   | p _ _ h=>cases h;rfl
  obtain ⟨b8,Pl,t0,t1,t2,t3,_⟩:=Gn.box 4 _ _ rfl;have ι4:C3.ι 4=some b:=by rw [(f3.ids 4 _ rfl).2.1];simp [Cx.with,Cx.grow]
  rw [ι4] at t0;cases t0
  have Sd:Pl=(vsL x).toArray:=by
   apply Array.ext
   ·rw [t2];simp [vsL]
   ·intro j h1 h2
    have hj:j<x.length:=by rw [t2] at h1;simpa using h1
    have:=t3 j (by simpa using hj)
    rw [lK,lK] at this
    have hu:Pl.getD j undef = .int .i64 x[j]:=by
     generalize Pl.getD j undef=u at this
     cases this with
     | p _ _ h=>cases h;rfl
    simp only [Bb,pL h1,Option.getD_some] at hu
    rw [hu];simp [vsL]
  subst Sd;have w6:a8.tmps.getD 6 undef = .pointer (some ⟨b6,0,none⟩):=by
   have:=Ik.at (i:=6) (x := .ptr 0 0) rfl
   generalize a8.tmps.getD 6 undef=u at this
   cases this with
   | ptr _ _ _ h0 ha h hp =>
    obtain ⟨b',h1,h2⟩:=h _ rfl rfl;rw [r0] at h2;cases h2
    exact h1
  have w8:a8.tmps.getD 8 undef = .pointer (some ⟨b,0,none⟩):=by
   have:=Ik.at (i:=8) (x := .ptr 4 0) rfl
   generalize a8.tmps.getD 8 undef=u at this
   cases this with
   | ptr _ _ _ h0 ha h hp =>
    obtain ⟨b',h1,h2⟩:=h _ rfl rfl;rw [ι4] at h2;cases h2
    exact h1
  have hLl:∀ e∈L,e.l.length≤1000:=fun e he=>by
   have:sD e∈q.foldl iH []:=by rw [← hls];exact dS.2 ⟨e,he,rfl⟩
   have:=bQs hq _ this;simp only [sD] at this
   omega
  have ι0:C.ι 0=some b6:=by
   have:=(f3.ids 0 _ rfl).2.1;rw [r0] at this
   rw [← ιC 0 (by omega),← gι 0 (by omega)]
   exact this.symm
  have ι1:C.ι 1=some bd:=by
   have:=(f3.ids 1 _ rfl).2.1;rw [ιd] at this
   rw [← ιC 1 (by omega),← gι 1 (by omega)]
   exact this.symm
  refine wpIn_mono (Pm (F:=Fen (some l)) (n:=n) (fun _=>trivial) hx.len Pk w6 w8 r1 ⟨by rw [r2];simp,ud⟩ s1 ⟨by rw [s2];simp,udm⟩ t1 hok Q0 hLl (fun p hp => ?_) ?_) ?_
  ·obtain ⟨h1,_,h3⟩:=hblkL p hp
   exact ⟨fun e=>h3 0 (by omega) (e ▸ ι0),fun e=>h3 1 (by omega) (e ▸ ι1),h1⟩
  ·have:aJn .i64 (.int .i64 (dAb x))=true:=mS (by have:=hx.ab;omega)
   simp only [aJn,Bl] at this
   exact this.2
  ·rintro e a9 W4 ⟨rfl,Ph,Da,e,A⟩
   obtain ⟨C4,Me,Mf,Pn⟩:=aSo (x:=x) (X:=fun c=>∃ p∈gA mb ea cl L,p.1=c) (B2:=jY (atF q) x) Cc hmb ⟨hFI,hM,fI⟩ hbw hSol Md Gn f3 A.size A.os A.tape A.out (fun c hc=>by
    obtain ⟨p,hp,rfl⟩:=hc;obtain ⟨h1,h2,h3⟩:=hblkL p hp;obtain ⟨g1,g2,g3⟩:=hhas p hp;refine ⟨fun h=>g2 ((hFI _).2 h),g3,h2,h1,?_⟩
    rcases cK.1 hp with rfl | ⟨y,_,rfl⟩
    ·exact .inr hmblt
    ·exact .inl (eN g1)) (fun c hc hn=>A.keep c hc fun p hp e=>hn ⟨p,hp,e⟩)
   refine ⟨rfl,Mf,Pn,C4,Ph,Da,nU L e,by rw [aKq];exact Me,A.ok,?_,A.born hborn,fun p hp => ?_⟩
   ·show (nU L e).map sD=_
    rw [bQr,A.ky,A.li,bJm,aBa];change aDe (L.map sD) _ _=iH (q.foldl iH []) x;have:L.map sD=q.foldl iH []:=hls;rw [this];unfold iH;rw [if_pos hpos]
   ·obtain ⟨h1,h2⟩:=A.has p hp
    refine ⟨h1,fun h => ?_,?_⟩
    ·have hF:=(Me.1 _).1 h
     rcases h2 with ⟨p0,Gy,h3⟩ | h3
     ·rw [← h3] at hF
      exact (hhas p0 Gy).2.1 ((hFI _).2 hF)
     ·have:=Cc.Fs _ hF
      have:=fI.size;have:=f3.size;omega
    ·rcases h2 with ⟨p0,Gy,h3⟩ | h3
     ·rw [← h3];exact (hhas p0 Gy).2.2
     ·right
      have:=fI.size;have:=f3.size;omega
 ·-- it is about none
  have hpos:¬ 0<dAb x:=of_decide_eq_false hf;obtain ⟨C4,Me,Mf,Pn⟩:=aSo (x:=x) (X:=fun _=>False) (W4:=W3) (B2:=jY (atF q) x) Cc hmb ⟨hFI,hM,fI⟩ hbw hSol Md Gn f3 (dH _) rfl rfl rfl (fun c hc=>hc.elim) (fun c _ _=>rfl)
  refine wpIn_skip ⟨rfl,Mf,Pn,C4,ea,cl,L,by rw [aKq];exact Me,hok,?_,hborn,fun p hp=>⟨Q0 p hp,fun h=>(hhas p hp).2.1 ((hFI _).2 ((Me.1 _).1 h)),(hhas p hp).2.2⟩⟩
  rw [aBa,hls];change _=iH (q.foldl iH []) x;unfold iH;rw [if_neg hpos]
end
end KV
end Go.Proofs
end
section
namespace Go.Proofs
open Go.RowKit
namespace KV
open Tryz
open Go.ChangeMaps (setBlock)

def abE(dc:Lqq):List (Value × PV):=(abM dc).map fun e=>(.int .i64 e.1,.sl e.2.length (e.2.flatten.map aA))
abbrev xY(dl:Int)(sk dc:Lqq):Mem:=[some (.box 106 [.ptr 1 0]),some (dkB dl (.sl sk.length (sk.flatten.map aA)) (.sl dc.length (dc.flatten.map aA)) (.mp 2) (.p (.mp (abE dc)))),some (.mp (atF dc.reverse) (atF dc.reverse).length),some .dead]
theorem aSl : sub (cd Tryz.f45) [1, 1, 1, 1, 0, 1, 0] = .rangeFunc (.tmp 27) #[28, 29] (.region 6 #[{ dst := some 8, op := .alloc 84, type := 0, pos := "jury.go:198", after := #[], guard := none }, { dst := none, op := .store 84 (.tmp 8) (.tmp 29), type := 0, pos := "jury.go:198", after := #[{ on := 0, ground := .data }, { on := 0, ground := .phase }], guard := none }] false) (sub (cd Tryz.f45) [1, 1, 1, 1, 0, 1, 0, 1]) := by kernel_rfl
theorem aOx{dc:Lqq}(h:bV dc):∀ x∈dc,bEb x:=fun x hx=>⟨h.ud x hx,(jB.1 (h.rng x hx)).1,lE h x hx⟩
theorem aBt{dc:Lqq}(x:Bk dc):lQ dc x.1∈dc:=by
 unfold lQ;rw [Bm,Aq x.2];exact gJ x.2
theorem bEa{dc:Lqq}{xs:List (Bk dc)}(h:xs.map (fun x=>x.1)=bk dc.length 0):xs.map (fun x=>lQ dc x.1)=dc.reverse:=by
 have:xs.map (fun x=>lQ dc x.1)=(xs.map (fun x=>x.1)).map (lQ dc):=by rw [qK];rfl
 rw [this,h,bKf,List.map_reverse]
 congr 1
 apply List.ext_getElem
 ·simp
 ·intro i h1 h2
  simp [lQ,Bm,Aq h2]

theorem aOy{F:Nat→Prop}{W:World}{mb cl:Nat}{ea:Array MapEntry}{L:List Ent}{dc:Lqq}(hok:kW mb ea L)(hls:L.map (fun e=>(e.k,e.l))=abM dc)(hborn:∀ y∈ea.toList,y.born<cl)
  (hhas:∀ p∈gA mb ea cl L,W.heap[p.1]? = some p.2∧F p.1):cB F W (.mp (abE dc)) (.map (some mb)):=by
 have hlen:ea.size=L.length:=by
  have:=congrArg List.length hok.ord;simpa using this
 have habE:abE dc=L.map fun e=>(.int .i64 e.k,.sl e.l.length (e.l.flatten.map aA)):=by
  unfold abE;rw [← hls,qK];rfl
 obtain ⟨h0,Kj⟩:=hhas (mb,.map ea cl) (by simp [gA])
 refine cB.mp (abE dc) mb cl ea (fun j=>(L.map Ent.val).getD j undef) Kj h0 (by rw [habE];simpa using hlen) (fun j hj => ?_) (fun j hj => ?_)
 ·have hjL:j<L.length:=by rw [habE] at hj;simpa using hj
  have hje:j<ea.size:=by omega
  have ho:(ea.toList.map fun x=>(x.key,x.val))[j]? = (L.map fun e=>(Value.int .i64 e.k,e.val))[j]? := by rw [hok.ord]
  rw [eX,eX,Aq hjL,Aq (by simpa using hje)] at ho
  simp only [Option.map_some,Option.some.injEq,Prod.mk.injEq] at ho
  refine ⟨ea[j],pL hje,?_,hborn _ (by simp),?_⟩
  ·simp only [habE,lK]
   simpa using ho.1
  ·rw [Bm,eX,Aq hjL]
   simpa using ho.2
 ·have hjL:j<L.length:=by rw [habE] at hj;simpa using hj
  have hm:L[j]∈L:=gJ hjL;have e1:(abE dc)[j].2 = .sl L[j].l.length (L[j].l.flatten.map aA):=by simp only [habE,lK]
  have e2:(L.map Ent.val).getD j undef=L[j].val:=by rw [Bm,eX,Aq hjL];rfl
  rw [e1,e2];generalize L[j]=e at hm
  have he:=hok.ok e hm;obtain ⟨g1,g2⟩:=hhas e.blk (cK.2 (.inr ⟨e,hm,rfl⟩));change W.heap[e.b]? = some (.cells e.arr 84 (0,0)) at g1
  have hfl:(e.l.flatten.map aA).length=e.l.length*6:=by rw [eI,oN he.u]
  have hcell:∀ i,i<(e.l.flatten.map aA).length→∃ z,e.l.flatten[i]? = some z∧e.arr[i]? = some (.int .i64 z):=fun i hi=>by
   have Ce:i<e.l.flatten.length:=by rw [eI] at hi;exact hi
   refine ⟨e.l.flatten[i],Aq Ce,?_⟩;have h1:(e.arr.toList.take (e.l.length*6))[i]? = (e.l.flatten.map (Value.int .i64))[i]? := by rw [he.at_]
   rw [List.getElem?_take_of_lt (by omega),eX,Aq Ce] at h1
   simpa using h1
  refine .sl _ _ _ _ (fun i=>e.arr.getD i undef) he.le he.cap (fun i hi => ?_) (fun i hi => ?_) (fun i hi => ?_)
  ·obtain ⟨z,_,h2⟩:=hcell i hi
   refine ⟨e.b,0,rfl,g2,?_⟩;obtain ⟨h3,h4⟩:=Dz.1 h2;rw [fG,bJ g1 h3]
  ·obtain ⟨z,h1,h2⟩:=hcell i hi
   have:e.arr.getD i undef = .int .i64 z:=by rw [Bb,h2];rfl
   rw [this,lK];obtain ⟨h3,h4⟩:=Bc.1 h1;rw [h4];exact .v _
  ·obtain ⟨z,h1,h2⟩:=hcell i hi
   have:e.arr.getD i undef = .int .i64 z:=by rw [Bb,h2];rfl
   rw [this];rfl
end KV
end Go.Proofs
end
section
namespace Go.Proofs
open Go.RowKit
namespace KV
open Tryz
open Go.ChangeMaps (setBlock)
section
variable {dl:Int} {sk dc:Lqq} {v1 v2:Value} {mb:Nat} {C C':Cx} {w W:World}

theorem aWt{Ki:Array MapEntry}(hM:aP Tp C (kV dl sk dc) w)(hmb:C.ι 3=some mb)(hmh:w.heap[mb]? = some (.map #[] 0))
  {bd:Nat} {ad:Array Value} {td:TypeId} (i1:C.ι 1=some bd) (hd:w.heap[bd]? = some (.cells ad td (0,0))) (q1:ad.getD 1 undef=v1) (q2:ad.getD 2 undef=v2):aKr dl sk dc v1 v2 C w mb [] w C #[] 0 []:=by
 have Kj:∀ (i:Nat) (o:AO),(wR dl v1 v2 mb [])[i]? = some (some o)→o.live=true→∃ o',(kV dl sk dc)[i]? = some (some o')∧o'.live=true:=fun i o h hl=>by
  have hi:=rW h hl;exact eB i (by omega)
 refine ⟨⟨fun _=>Iff.rfl,⟨fun i ty n cs h => ?_,fun i ty cs h => ?_,fun i es cl h => ?_,fun i i' o o' b h1 l1 h2 l2 e1 e2 => ?_,fun i o b h hl hb => ?_,hM.Fs,fun i o b h hl hb => ?_⟩,
  ⟨rfl,rfl,rfl,dH _,fun _ _ _=>rfl,fun i o h=>⟨?_,rfl,rfl⟩,fun i o h ty n cs hx => ?_,fun i o h o' hx hl => ?_,fun i o b h hl hb => ?_,fun _ h=>h,fun _ h => .inl h⟩⟩,kW.nil mb,rfl,fun y h=>by simp at h,fun p hp => ?_⟩
 ·rcases at4 h with ⟨rfl,e⟩ | ⟨rfl,e⟩ | ⟨rfl,e⟩ | ⟨rfl,e⟩ <;> cases e
 ·rcases at4 h with ⟨rfl,e⟩ | ⟨rfl,e⟩ | ⟨rfl,e⟩ | ⟨rfl,e⟩
  ·cases e
   obtain ⟨b,arr,r0,r1,r2,r3,r4⟩:=hM.box 0 _ _ rfl;refine ⟨b,arr,r0,r1,r2,fun j hj => ?_,r4⟩
   have:=r3 j hj;have Pe:j=0:=by simp at hj;exact hj
   subst Pe;simp only [List.getElem_cons_zero] at this ⊢
   cases this with
   | ptr _ _ _ h0 ha h hp =>
    refine .ptr _ _ _ h0 ⟨_,rfl⟩ (fun o ho hl => ?_) hp
    exact h _ rfl rfl
  ·cases e
   obtain ⟨b,arr,r0,r1,r2,r3,r4⟩:=hM.box 1 _ _ rfl;rw [i1] at r0;cases r0
   rw [hd] at r1;cases r1
   refine ⟨bd,ad,i1,hd,r2,fun j hj => ?_,r4⟩
   match j,hj with
   | 0,_ =>
    have:=r3 0 (by simp)
    cases this with
    | p _ _ h=>exact .p _ _ h
   | 1,_=>exact .p _ _ (by rw [q1];exact .v _)
   | 2,_=>exact .p _ _ (by rw [q2];exact .v _)
   | 3,_ =>
    have:=r3 3 (by simp)
    simp only [List.getElem_cons_succ,List.getElem_cons_zero] at this ⊢
    cases this with
    | mp _ _ h0 ha h =>
     refine .mp _ _ h0 ⟨_,rfl⟩ fun o ho hl => ?_
     exact h _ rfl rfl
   | 4,_ =>
    have:=r3 4 (by simp)
    simp only [List.getElem_cons_succ,List.getElem_cons_zero] at this ⊢
    generalize ad.getD 4 undef=u at this
    cases this with
    | mp _ _ h0 ha h =>
     obtain ⟨b,h1,h2⟩:=h _ rfl rfl;rw [hmb] at h2;cases h2
     rw [h1];exact .p _ _ (.v _)
  ·cases e
  ·cases e
 ·rcases at4 h with ⟨rfl,e⟩ | ⟨rfl,e⟩ | ⟨rfl,e⟩ | ⟨rfl,e⟩
  ·cases e
  ·cases e
  ·cases e;exact hM.mp 2 _ _ rfl
  ·cases e
 ·obtain ⟨p,q1,q2⟩:=Kj _ _ h1 l1
  obtain ⟨p',Io,Ip⟩:=Kj _ _ h2 l2;exact hM.inj i i' p p' b q1 q2 Io Ip e1 e2
 ·obtain ⟨p,q1,q2⟩:=Kj _ _ h hl
  exact hM.nF i p b q1 q2 hb
 ·obtain ⟨p,q1,q2⟩:=Kj _ _ h hl
  exact hM.lt i p b q1 q2 hb
 ·have hi:i<4:=(Bc.1 h).1
  match i,hi with
  | 0,_=>exact ⟨_,rfl⟩
  | 1,_=>exact ⟨_,rfl⟩
  | 2,_=>exact ⟨_,rfl⟩
  | 3,_=>exact ⟨_,rfl⟩
 ·rcases at4 hx with ⟨rfl,e⟩ | ⟨rfl,e⟩ | ⟨rfl,e⟩ | ⟨rfl,e⟩ <;> cases e
 ·have hi:i<4:=(Bc.1 h).1
  obtain ⟨p,q1,q2⟩:=eB (dl:=dl) (sk:=sk) (dc:=dc) i hi;rw [h] at q1;cases q1;exact q2
 ·obtain ⟨p,q1,q2⟩:=Kj _ _ h hl
  exact .inr ⟨i,p,q1,q2,hb⟩
 ·have:p=(mb,.map #[] 0):=by simpa [gA] using hp
  subst this;exact ⟨hmh,fun h=>hM.nF 3 _ mb rfl rfl hmb h,.inl rfl⟩

theorem aWu{ea:Array MapEntry}{cl:Nat}{L:List Ent}(Cc:aP Tp C (kV dl sk dc) w)(hmb:C.ι 3=some mb)(r1:cB C.F w (.sl sk.length (sk.flatten.map aA)) v1)(r2:cB C.F w (.sl dc.length (dc.flatten.map aA)) v2)
  (hI:aKr dl sk dc v1 v2 C w mb dc.reverse W C' ea cl L) :
  ∃ C5,aP Tp C5 (xY dl sk dc) W∧Fr C (kV dl sk dc) w C5 (xY dl sk dc) W∧∀ D,W.heap[D]? = some (.deferred (some []))→w.heap.size≤D→¬ C5.F D:=by
 obtain ⟨⟨hFI,hM,fI⟩,hok,hls,hborn,hhas⟩:=hI;obtain ⟨F5,Iv⟩:∃ F5:Nat→Prop,F5=fun c=>C'.F c∨∃ p∈gA mb ea cl L,p.1=c:=⟨_,rfl⟩
 have toF:∀ c,C.F c→F5 c:=fun c hc=>by rw [Iv];exact .inl ((hFI c).2 hc)
 have Pf:∀ c,C'.F c→F5 c:=fun c hc=>by rw [Iv];exact .inl hc
 have same:∀ c,C.F c→W.heap[c]? = w.heap[c]? := fun c hc=>fI.keep c (Cc.Fs c hc) fun i o h hl he=>Cc.nF i o c h hl he hc
 have ιC:∀ i,i<4→C'.ι i=C.ι i:=fun i hi=>by
  obtain ⟨o,h1,_⟩:=eB (dl:=dl) (sk:=sk) (dc:=dc) i hi;exact (fI.ids i o h1).2.1
 have F7:∀ {i:Nat} {o:AO},(xY dl sk dc)[i]? = some (some o)→o.live=true→(i=0∨i=1∨i=2)∧∃ o',(wR dl v1 v2 mb (atF dc.reverse))[i]? = some (some o')∧o'.live=true:=fun {i o} h hl=>by
  rcases at4 h with ⟨rfl,e⟩ | ⟨rfl,e⟩ | ⟨rfl,e⟩ | ⟨rfl,e⟩
  ·exact ⟨.inl rfl,_,rfl,rfl⟩
  ·exact ⟨.inr (.inl rfl),_,rfl,rfl⟩
  ·exact ⟨.inr (.inr rfl),_,rfl,rfl⟩
  ·cases e;cases hl
 have Kk:∀ i c,i<3→C.ι i=some c→c<w.heap.size∧c≠mb:=fun i c hi hc=>by
  obtain ⟨o,h1,h2⟩:=eB (dl:=dl) (sk:=sk) (dc:=dc) i (by omega)
  refine ⟨Cc.lt i o c h1 h2 hc,fun e => ?_⟩
  subst e;have:=Cc.inj i 3 o _ c h1 h2 rfl rfl hc hmb;omega
 refine ⟨⟨C'.ι,C'.κ,F5,[]⟩,⟨fun i ty n cs h => ?_,fun i ty cs h => ?_,fun i es cl h => ?_,fun i i' o o' b h1 l1 h2 l2 e1 e2 => ?_,fun i o b h hl hb hf => ?_,fun c hc => ?_,fun i o b h hl hb => ?_⟩,
  ⟨fI.os,fI.tape,fI.out,fI.size,fI.keep,fun i o h=>⟨?_,(fI.ids i o h).2⟩,fun i o h ty n cs hx => ?_,fun i o h o' hx hl => ?_,fun i o b h hl hb => ?_,toF,fun c hc => ?_⟩,fun D hD hDs hf => ?_⟩
 ·rcases at4 h with ⟨rfl,e⟩ | ⟨rfl,e⟩ | ⟨rfl,e⟩ | ⟨rfl,e⟩ <;> cases e
 ·rcases at4 h with ⟨rfl,e⟩ | ⟨rfl,e⟩ | ⟨rfl,e⟩ | ⟨rfl,e⟩
  ·cases e
   obtain ⟨b,arr,r0,r1,r2,r3,r4⟩:=hM.box 0 _ _ rfl;refine ⟨b,arr,r0,r1,r2,fun j hj => ?_,r4⟩
   have:=r3 j hj;have Pe:j=0:=by simp at hj;exact hj
   subst Pe;simp only [List.getElem_cons_zero] at this ⊢
   cases this with
   | ptr _ _ _ h0 ha h hp =>
    refine .ptr _ _ _ h0 ⟨_,rfl⟩ (fun o ho hl => ?_) hp
    exact h _ rfl rfl
  ·cases e
   obtain ⟨b,arr,s0,s1,s2,s3,s4⟩:=hM.box 1 _ _ rfl;have opq:∀ (j:Nat) (v:Value),Rep C' (wR dl v1 v2 mb (atF dc.reverse)) W (.p (.v v)) (arr.getD j undef)→arr.getD j undef=v:=fun j v h=>by
    generalize arr.getD j undef=u at h
    cases h with
    | p _ _ h=>cases h;rfl
   refine ⟨b,arr,s0,s1,s2,fun j hj => ?_,s4⟩
   match j,hj with
   | 0,_ =>
    have:=s3 0 (by simp)
    cases this with
    | p _ _ h=>exact .p _ _ (h.anyF rfl)
   | 1,_ =>
    show Rep _ _ W (.p (.sl sk.length (sk.flatten.map aA))) (arr.getD 1 undef);rw [opq 1 v1 (s3 1 (by simp))]
    exact .p _ _ (r1.mono toF same)
   | 2,_ =>
    show Rep _ _ W (.p (.sl dc.length (dc.flatten.map aA))) (arr.getD 2 undef);rw [opq 2 v2 (s3 2 (by simp))]
    exact .p _ _ (r2.mono toF same)
   | 3,_ =>
    have:=s3 3 (by simp)
    simp only [List.getElem_cons_succ,List.getElem_cons_zero] at this ⊢
    cases this with
    | mp _ _ h0 ha h =>
     refine .mp _ _ h0 ⟨_,rfl⟩ fun o ho hl => ?_
     exact h _ rfl rfl
   | 4,_ =>
    show Rep _ _ W (.p (.mp (abE dc))) (arr.getD 4 undef);rw [opq 4 (.map (some mb)) (s3 4 (by simp))]
    exact .p _ _ (aOy hok hls hborn fun p hp=>⟨(hhas p hp).1,by rw [Iv];exact .inr ⟨p,hp,rfl⟩⟩)
  ·cases e
  ·cases e
 ·rcases at4 h with ⟨rfl,e⟩ | ⟨rfl,e⟩ | ⟨rfl,e⟩ | ⟨rfl,e⟩
  ·cases e
  ·cases e
  ·cases e
   obtain ⟨b,arr,s0,s1,s2,s3⟩:=hM.mp 2 _ _ rfl;refine ⟨b,arr,s0,s1,s2,fun j hj => ?_⟩
   obtain ⟨en,t1,t2,t3,t4⟩:=s3 j hj;exact ⟨en,t1,t2,t3,t4.mono Pf (fun _ _=>rfl)⟩
  ·cases e
 ·obtain ⟨_,p,q1,q2⟩:=F7 h1 l1
  obtain ⟨_,p',Io,Ip⟩:=F7 h2 l2;exact hM.inj i i' p p' b q1 q2 Io Ip e1 e2
 ·obtain ⟨hi,p,q1,q2⟩:=F7 h hl
  rw [Iv] at hf
  rcases hf with hf | ⟨p0,Gy,hpb⟩
  ·exact hM.nF i p b q1 q2 hb hf
  ·have Al:C.ι i=some b:=by rw [← ιC i (by omega)];exact hb
   obtain ⟨g1,g2⟩:=Kk i b (by omega) Al
   rcases (hhas p0 Gy).2.2 with h5 | h5 <;> omega
 ·rw [Iv] at hc
  rcases hc with hc | ⟨p0,Gy,rfl⟩
  ·exact hM.Fs c hc
  ·exact bM (hhas p0 Gy).1
 ·obtain ⟨_,p,q1,q2⟩:=F7 h hl
  exact hM.lt i p b q1 q2 hb
 ·have hi:i<4:=(Bc.1 h).1
  match i,hi with
  | 0,_=>exact ⟨_,rfl⟩
  | 1,_=>exact ⟨_,rfl⟩
  | 2,_=>exact ⟨_,rfl⟩
  | 3,_=>exact ⟨_,rfl⟩
 ·rcases at4 hx with ⟨rfl,e⟩ | ⟨rfl,e⟩ | ⟨rfl,e⟩ | ⟨rfl,e⟩ <;> cases e
 ·have hi:i<4:=(Bc.1 h).1
  obtain ⟨p,q1,q2⟩:=eB (dl:=dl) (sk:=sk) (dc:=dc) i hi;rw [h] at q1;cases q1;exact q2
 ·obtain ⟨_,p,q1,q2⟩:=F7 h hl
  exact fI.new i p b q1 q2 hb
 ·rw [Iv] at hc
  rcases hc with hc | ⟨p0,Gy,rfl⟩
  ·exact .inl ((hFI c).1 hc)
  ·rcases (hhas p0 Gy).2.2 with h5 | h5
   ·exact .inr (.inr ⟨3,_,rfl,rfl,by rw [h5];exact hmb⟩)
   ·exact .inr (.inl h5)
 ·rw [Iv] at hf
  rcases hf with hf | ⟨p0,Gy,rfl⟩
  ·have:=Cc.Fs D ((hFI D).1 hf);omega
  ·have h6:=(hhas p0 Gy).1
   rw [hD] at h6
   rcases cK.1 Gy with rfl | ⟨y,_,rfl⟩ <;> cases h6
end
theorem Iw:∃ i,Tryz.prog.info? 84=some i∧i.zero=some Hr∧i.size=6:=by
 obtain ⟨i,h1,h2,h3,_⟩:=info_parts Ev;exact ⟨i,h1,h2,h3⟩
theorem aKo(W:World):(Instr.alloc 84 true (.tuple #[])).run Tp W = .ok (.pointer (some ⟨W.heap.size,0,none⟩)) (W.alloc (.cells Hr.cells 84)):=rfl
set_option maxHeartbeats 1000000 in
theorem bDz(dl:Int)(sk dc:Lqq)(hd:bV dc):aC Tp 0 (sub (cd Tryz.f45) [1,1,1,1,0,1,0]) ⟨fr 57 [(6,(.ptr 0 0)),(27,aKs dc)],kV dl sk dc⟩ .normal ⟨fr 57 [(6,(.ptr 0 0))],xY dl sk dc⟩:=by
 intro C0 M0 w0 a w hk hs ro hro n;have Kl:ro=none:=hro.resolve_right (by rw [aSl];simp [nrf])
 subst Kl;rw [aSl];refine aBk (n:=3) ?_;obtain ⟨C,hSl,hM,hF,hD⟩:=hs;obtain ⟨mb,Ki,hmb,hmh,hz,_⟩:=hM.mp 3 _ _ rfl;obtain rfl:Ki = #[]:=Array.eq_empty_of_size_eq_zero (by simpa using hz)
 obtain ⟨bd,ad,i1,hdh,Gj,Gw,L8⟩:=hM.box 1 _ _ rfl;have r1:cB C.F w (.sl sk.length (sk.flatten.map aA)) (ad.getD 1 undef):=by
  have:=Gw 1 (by simp)
  cases this with
  | p _ _ h=>exact h
 have r2:cB C.F w (.sl dc.length (dc.flatten.map aA)) (ad.getD 2 undef):=by
  have:=Gw 2 (by simp)
  cases this with
  | p _ _ h=>exact h
 have hmblt:mb<w.heap.size:=hM.lt 3 _ mb rfl rfl hmb;have hsz:a.tmps.size=57:=hSl.size;have h6:=hSl.at (i:=6) (x := .ptr 0 0) rfl
 obtain ⟨lb,Sp,hu,hseq⟩:=aWy dc hd.ud hd.len C (kV dl sk dc) w _ (hSl.at (i:=27) (x:=aKs dc) rfl) hM.Fs
 have actT:∀ (x:Bk dc) (b:Nat),((({ tmps:=(a.tmps.setIfInBounds 28 (.int .i64 (x.1:Nat))).setIfInBounds 29 (.agg (Cf (lQ dc x.1))),defers:=[] }:Act).put (some 8) (.pointer (some ⟨b,0,none⟩))).tmps.size=57) ∧
   (({ tmps:=(a.tmps.setIfInBounds 28 (.int .i64 (x.1:Nat))).setIfInBounds 29 (.agg (Cf (lQ dc x.1))),defers:=[] }:Act).put (some 8) (.pointer (some ⟨b,0,none⟩))).tmps.getD 6 undef=a.tmps.getD 6 undef ∧
   (({ tmps:=(a.tmps.setIfInBounds 28 (.int .i64 (x.1:Nat))).setIfInBounds 29 (.agg (Cf (lQ dc x.1))),defers:=[] }:Act).put (some 8) (.pointer (some ⟨b,0,none⟩))).tmps.getD 8 undef = .pointer (some ⟨b,0,none⟩):=fun x b=>by
  refine ⟨by simp [Act.put,hsz],?_,?_⟩
  ·simp [Act.put,Bb]
  ·simp [Act.put,Bb,hsz]
 refine wpIn_rangeFunc_ownH (F:=Fen none) (n:=3) rfl (by omega) (gf:=157) (lb:=lb) hu trivial (fun args w=>rfl) hseq (fun h k=>h.trans k)
  (fun W l o o' hl h1 h2 h3=>⟨by simp,fun b hb=>(grownBy_putObj' W l o').block b (Cg (hM.Fs b hb) (fM hl (Nat.le_of_lt (Dz.1 h1).1))) (fun e=>by cases e;have:=hM.Fs _ hb;omega)⟩)
  (Below.refl _ _) (fun _=>rfl)
  (fun pre W=>∃ C' ea cl L,aKr dl sk dc (ad.getD 1 undef) (ad.getD 2 undef) C w mb (pre.map fun x=>lQ dc x.1) W C' ea cl L) (fun _ _ _=>False)
  (fun pre X Y row hs hg hr=>by obtain ⟨C',ea,cl,L,h⟩:=hs;exact ⟨C',ea,cl,L,h.own hM hmb hg hr⟩) (fun _ _ _ _ _ hs _ _=>hs)
  ⟨C,#[],0,[],aWt (Ki := #[]) hM hmb hmh i1 hdh rfl rfl⟩
  (fun x a' W=>∃ b,a'=(({ tmps:=(a.tmps.setIfInBounds 28 (.int .i64 (x.1:Nat))).setIfInBounds 29 (.agg (Cf (lQ dc x.1))),defers:=[] }:Act).put (some 8) (.pointer (some ⟨b,0,none⟩)))∧w.heap.size≤b∧W.heap[b]? = some (.cells (vsL (lQ dc x.1)).toArray 84 (0,0))∧∀ es cl,W.heap[mb]? = some (.map es cl)→∀ y∈es.toList,y.val.ownBlock≠some b)
  (fun x a' _ X Y row hs hg hr => ?hAx) ?assign ?body ?done ?stop
 case hAx =>
  obtain ⟨b,h1,h2,h3,h4⟩:=hs;have hno:∀ c,c<X.heap.size→(c<w.heap.size∨kU X c)→Y.heap[c]? = X.heap[c]? := fun c hc hd=>hg.block c hc (fun e=>by
   obtain ⟨q1,o,q2,q3⟩:=hr c e.symm
   rcases hd with hd | hd
   ·omega
   ·exact iO q2 q3 hd)
  refine ⟨b,h1,h2,(hno b (bM h3) (.inr (eN h3))).trans h3,fun es cl h => ?_⟩
  by_cases hlt:mb<X.heap.size
  ·rw [hno mb hlt (.inl hmblt)] at h
   exact h4 es cl h
  ·exact absurd (Cg (bM h3) (dH _)) (by omega)
 case assign =>
  intro l pre x W K hI hK;rw [L6];obtain ⟨C',ea,cl,L,hI⟩:=hI;have hx:=aOx hd _ (aBt x);have hev:Cf (lQ dc x.1)=(vsL (lQ dc x.1)).toArray:=rfl;refine wpIn_region_lit (wpListIn_plain rfl fun K' Pg => ?_)
  unfold Oper.wpIn;refine ⟨fun f _=>trivial,?_⟩
  rw [Oper.semAt_plain _ _ _ (by intro c Ga;cases Ga)]
  have e1 : ∀ ρ : Operand → Value, (execOp ρ { dst := some 8, op := .alloc 84, type := 0, pos := "jury.go:198", after := #[], guard := none }).run Tp W = .ok (.value (.pointer (some ⟨W.heap.size, 0, none⟩))) (W.alloc (.cells Hr.cells 84)) := fun ρ => by
   unfold execOp;dsimp only;rw [Sem.run_bind,aKo,Result.andThen_ok,Sem.run_pure]
  rw [e1];refine Pg _ _ (wpListIn_plain rfl fun K2 L9 => ?_)
  unfold Oper.wpIn;refine ⟨fun f _=>trivial,?_⟩
  rw [Oper.semAt_plain _ _ _ (by intro c Ga;cases Ga)]
  obtain ⟨Sb,hi,Lb,Eg⟩:=Iw;have e8:(({ tmps:=(a.tmps.setIfInBounds 28 (.int .i64 (x.1:Nat))).setIfInBounds 29 (.agg (Cf (lQ dc x.1))),defers:=[] }:Act).put (some 8) (.pointer (some ⟨W.heap.size,0,none⟩))).eval (.tmp 8) = .pointer (some ⟨W.heap.size,0,none⟩):=(actT x W.heap.size).2.2;have Sc:(({ tmps:=(a.tmps.setIfInBounds 28 (.int .i64 (x.1:Nat))).setIfInBounds 29 (.agg (Cf (lQ dc x.1))),defers:=[] }:Act).put (some 8) (.pointer (some ⟨W.heap.size,0,none⟩))).eval (.tmp 29) = .agg (Cf (lQ dc x.1)):=by
   simp [Act.eval,Act.put,Bb,hsz]
  have e2:=run_storeAt_new (P:=Tp) W 84 Hr.cells (Cf (lQ dc x.1)) (by rw [hi];simp [Eg,hev,vsL,hx.len]) (by simp [hev,vsL,hx.len];rfl) (by
   rw [Array.all_eq_true];intro i h;simp [hev,vsL];rfl)
  have e3 : ∀ ρ : Operand → Value, ρ (.tmp 8) = .pointer (some ⟨W.heap.size, 0, none⟩) → ρ (.tmp 29) = .agg (Cf (lQ dc x.1)) → (execOp ρ { dst := none, op := .store 84 (.tmp 8) (.tmp 29), type := 0, pos := "jury.go:198", after := #[{ on := 0, ground := .data }, { on := 0, ground := .phase }], guard := none }).run Tp (W.alloc (.cells Hr.cells 84)) = .ok .skip (W.alloc (.cells (Cf (lQ dc x.1)) 84)) := fun ρ h1 h2 => by
   unfold execOp;dsimp only;rw [h1,h2,Sem.run_bind,e2,Result.andThen_ok,Sem.run_pure]
  rw [e3 _ e8 Sc];refine L9 _ _ (wpListIn_nil (hK _ _ ?_ ?_ ?_ ?_))
  ·exact ⟨by simp,fun k o _ hk _=>((iM W _).2.2 k (bM hk)).trans hk⟩
  ·exact ⟨by simp,fun b hb=>(iM W _).2.2 b (Cg (hM.Fs b hb) hI.inv.2.2.size)⟩
  ·exact ⟨C',ea,cl,L,hI.own hM hmb (World.grownBy_alloc W _ none) (fun r e=>by cases e)⟩
  ·refine ⟨W.heap.size,rfl,hI.inv.2.2.size,(iM W _).2.1,fun Qo Qp h y hy hyb => ?_⟩
   have Qy:=(hI.has (mb,.map ea cl) (by simp [gA])).1
   rw [(iM W _).2.2 mb (bM Qy),Qy] at h
   cases h;obtain ⟨e,he,_,hv⟩:=hI.ok.e1 y hy;rw [hv] at hyb
   have Ed:e.b=W.heap.size:=by
    have:Ent.val e = .slice (some ⟨e.b,0,none⟩) e.l.length e.cap:=rfl;rw [this] at hyb
    exact Option.some.inj hyb
   have:=bM (hI.has e.blk (cK.2 (.inr ⟨e,he,rfl⟩))).1;simp only [Ent.blk] at this
   omega
 case body =>
  rintro l pre x a' W hl _ ⟨C',ea,cl,L,hI⟩ ⟨b,rfl,Ci,Ed,Ov⟩ hlt;obtain ⟨t1,t2,t3⟩:=actT x b;refine wpIn_mono (bEc (l:=l) (n:=1) (aOx hd _ (aBt x)) (fun y hy=>by
   obtain ⟨z,_,rfl⟩:=dS.1 hy;exact aOx hd _ (aBt z)) (by rw [eI];have:=hd.len;omega) hM hmb hI t1 rfl (by rw [t2];exact h6) t3 Ci Ed Ov) ?_
  rintro e a2 W4 ⟨rfl,hK,hG,h⟩;exact ⟨hK,hG,by simpa [fL] using h⟩
 case done =>
  intro D xs W Im hSx hI hDm;obtain ⟨C',ea,cl,L,hI⟩:=hI;rw [bEa hSx] at hI
  obtain ⟨C5,Iy,f5,Iv⟩:=aWu hM hmb r1 r2 hI;have hnp:aMn (xY dl sk dc):=fun i o h=>by rcases at4 h with ⟨rfl,e⟩ | ⟨rfl,e⟩ | ⟨rfl,e⟩ | ⟨rfl,e⟩ <;> cases e <;> rfl
  refine ⟨rfl,C5,?_,Iy,hF.trans f5,?_⟩
  ·have s0:dP C5 (xY dl sk dc) W (List.replicate 57 .any) a.tmps:=⟨by simpa using hsz,fun j hj=>by rw [List.getElem_replicate];exact .any _⟩
   refine ⟨hsz.trans rfl,fun j hj => ?_⟩
   have hfr:fr 57 [(6,.ptr 0 0)]=(List.replicate 57 AV.any).set 6 (.ptr 0 0):=rfl;simp only [hfr] at hj ⊢
   rw [wH]
   split
   ·rename_i e;subst e;exact h6.mono (hM.le f5)
   ·exact s0.rep j (by simpa using hj)
  ·obtain ⟨⟨l,e1,e2,e3⟩,hR⟩:=hD.fr hM (fun i to ti sz L h=>by have:=hnp _ _ h;cases this) f5
   obtain ⟨⟨l',Iz,_,Km⟩,_⟩:=hD;have hll:l=l':=by
    have:=e1.symm.trans Iz;exact (List.map_inj_right (fun x y h=>by simpa [mark] using h)).1 this
   refine ⟨⟨D::l,by rw [e1];rfl,List.nodup_cons.2 ⟨fun hin => ?_,e2⟩,fun D' Kn => ?_⟩,hR⟩
   ·rw [hll] at hin
    have:=(Dz.1 (Km D hin).1).1;omega
   ·rcases gX.1 Kn with rfl | hin
    ·exact ⟨hDm,fM hF.size Im,Iv _ hDm Im⟩
    ·exact e3 D' hin
 case stop =>
  intro D c pre W _ _ h _;exact h.elim
end KV
end Go.Proofs
end
namespace Go.Proofs
namespace KV
open Tryz
section

theorem bVj(dc:Lqq){base:Nat}:FV Tp 89 [.p (fS dc)] base (aKs dc) []:=bVl
theorem kL{dl:Int}{sk dc:Lqq}(h:cT dl sk dc):bV (aB dc):=by
 have hm:∀ x,x∈aB dc↔x∈dc:=fun x=>(eW dc).mem_iff
 refine ⟨lF h.ud,by rw [fV];have:=h.len2;omega,fun x hx=>h.hdc x ((hm x).1 hx),?_,fun x hx=>h.ord x ((hm x).1 hx)⟩
 have hn:(aM (aB dc) 0).Nodup:=((eW dc).map _).nodup_iff.2 h.nd;have hs:=oR dc;unfold aM at hn
 rw [List.Nodup,List.pairwise_map] at hn
 exact (hs.and hn).imp fun ⟨h1,h2⟩=>by
  show _<_;unfold dN;omega
theorem bJl{dl:Int}{sk dc:Lqq}(h0:cT dl sk dc)(h1:bV (aB dc)){base:Nat}:FV Tp 45 [(.p (.agg (dQ dl sk dc)))] base (.tup [(.rp [(aA dl),(.sl ((aB sk).length) ((aB sk).flatten.map aA)),(.sl ((aB dc).length) ((aB dc).flatten.map aA)),(.mp (atF (aB dc).reverse)),(.mp (abE (aB dc)))] 0),(pI 0)]) []:=have k1:=fk 1 (bQy dl sk dc h0) rfl;have k2:=fk 6 (bVj (aB dc)) rfl;FV.fi func45 [k1.o,bF,k2.o,.k 1 (gI [0,6,7,20,28,29] [5,4,2,3]) .normal ⟨fr 57 [(6,(.ptr 0 0))],xY dl (aB sk) (aB dc)⟩,.g 1 ⟨[],[0],[2,1],[]⟩] (gt (aC Tp 0 (sub (cd Tryz.f45) [1,1,1,1,0,1,0]) ⟨fr 57 [(6,(.ptr 0 0)),(27,aKs (aB dc))],kV dl (aB sk) (aB dc)⟩ .normal ⟨fr 57 [(6,(.ptr 0 0))],xY dl (aB sk) (aB dc)⟩) (bDz dl (aB sk) (aB dc) h1) (gc k2 (gt (((0:Int) != 0)=false) (by first | decide | simp) (gc k1 gn))))
abbrev aF(dl:Int)(sk dc:Lqq):List PV:=[aA dl,.sl sk.length (sk.flatten.map aA),.sl dc.length (dc.flatten.map aA),.mp (atF dc.reverse),.mp (abE dc)]
theorem kF(dl:Int)(sk dc:Lqq)(h:cT dl sk dc){base:Nat}:FV Tp 45 [.p (.agg (dQ dl sk dc))] base (.tup [.rp (aF dl (aB sk) (aB dc)) 0,.p (aA 0)]) []:=bJl h (kL h)
end
section
section
variable {P:Program} {k:Nat} {b:Code} {β:Type}
theorem aG.ex{e:Ex}(S:Nat→β→St)(R:β→St)(Inv:Nat→β→Prop)(he:e ≠ .normal)(n:Nat)
  (hs:∀ (i:Nat) (acc:β),i<n→Inv i acc→∃ Bg,Inv (i+1) Bg∧aC P k b (S i acc) .normal (S (i+1) Bg))
  (hx:∀ acc,Inv n acc→aC P k b (S n acc) e (R acc)) {acc:β} (h0:Inv 0 acc):∃ Bg,Inv n Bg∧aG P k b (S 0 acc) e (R Bg):=by
 have key:∀ (d i:Nat) (acc:β),i+d=n→Inv i acc→∃ Bg,Inv n Bg∧aG P k b (S i acc) e (R Bg):=by
  intro d
  induction d with
  | zero =>
   intro i acc hi h;obtain rfl:i=n:=by omega
   exact ⟨acc,h,.exit (hx acc h) he⟩
  | succ d ih =>
   intro i acc hi h;obtain ⟨Hq,h1,c1⟩:=hs i acc (by omega) h
   obtain ⟨O9,h2,c2⟩:=ih (i+1) Hq (by omega) h1
   exact ⟨O9,h2,.step c1 c2⟩
 exact key n 0 acc (by omega) h0
theorem aG.exF{e1 e2:Ex}(S:Nat→β→St)(R1:Nat→β→St)(R2:β→St)(Inv:β→Prop)(h1:e1 ≠ .normal)(h2:e2 ≠ .normal)(p:Nat→Bool)(n:Nat)
  (hs:∀ (i:Nat) (acc:β),i<n→Inv acc→p i=false→∃ Bg,Inv Bg∧aC P k b (S i acc) .normal (S (i+1) Bg))
  (hq:∀ (i:Nat) (acc:β),i<n→Inv acc→p i=true→∃ Bg,Inv Bg∧aC P k b (S i acc) e1 (R1 i Bg))
  (hx:∀ acc,Inv acc→aC P k b (S n acc) e2 (R2 acc)) {acc:β} (h0:Inv acc) :
  (∃ i Bg,i<n∧p i=true∧(∀ j,j<i→p j=false)∧Inv Bg∧aG P k b (S 0 acc) e1 (R1 i Bg))∨((∀ j,j<n→p j=false)∧∃ Bg,Inv Bg∧aG P k b (S 0 acc) e2 (R2 Bg)):=by
 have key:∀ (d i:Nat) (acc:β),i+d=n→Inv acc→(∀ j,j<i→p j=false)→(∃ i' Bg,i'<n∧p i'=true∧(∀ j,j<i'→p j=false)∧Inv Bg∧aG P k b (S i acc) e1 (R1 i' Bg))∨((∀ j,j<n→p j=false)∧∃ Bg,Inv Bg∧aG P k b (S i acc) e2 (R2 Bg)):=by
  intro d
  induction d with
  | zero =>
   intro i acc hi h hj;obtain rfl:i=n:=by omega
   exact .inr ⟨hj,acc,h,.exit (hx acc h) h2⟩
  | succ d ih =>
   intro i acc hi h hj;cases hp:p i with
   | true =>
    obtain ⟨Hq,q1,c1⟩:=hq i acc (by omega) h hp
    exact .inl ⟨i,Hq,by omega,hp,hj,q1,.exit c1 h1⟩
   | false =>
    obtain ⟨Hq,q1,c1⟩:=hs i acc (by omega) h hp
    rcases ih (i+1) Hq (by omega) q1 (fun j Dx=>by
     rcases Nat.lt_or_ge j i with h3 | h3
     ·exact hj j h3
     ·obtain rfl:j=i:=by omega
      exact hp) with ⟨i',Bg,r1,r2,r3,r4,r5⟩ | ⟨r1,Bg,r2,r3⟩
    ·exact .inl ⟨i',Bg,r1,r2,r3,r4,.step c1 r5⟩
    ·exact .inr ⟨r1,Bg,r2,.step c1 r3⟩
 exact key n 0 acc (by omega) h0 (fun j hj=>absurd hj (aNq _))
end
def aK(T:Lqb):List (Value × PV):=T.map fun p=>(.int .i64 p.1,blP p.2)
theorem aWq(T:Lqb)(n:Int)(b:Bool):aK (T++[(n,b)])=aK T++[(.int .i64 n,blP b)]:=by simp [aK]
structure cA (dl:Int) (oc:List Int) (dc:Lqq) (T:Lqb):Prop where
 nd:(T.map (·.1)).Nodup
 ok:∀ p∈T,∃ x∈dc,dN x=p.1∧dI dl oc dc x=p.2
section
variable {dl:Int} {oc:List Int} {dc:Lqq} {T:Lqb}
theorem cA.nil:cA dl oc dc []:=⟨by simp,fun p hp=>by cases hp⟩
theorem eV(h:bV dc){x:List Int}(hx:x∈dc):1≤dN x∧dN x≤9999:=(jB.1 (h.rng x hx)).1
theorem zA(h:bV dc){x y:List Int}(hx:x∈dc)(hy:y∈dc)(e:dN x=dN y):x=y:=by
 obtain ⟨i,hi,rfl⟩:=List.mem_iff_getElem.1 hx;obtain ⟨j,hj,rfl⟩:=List.mem_iff_getElem.1 hy;have hu:=List.pairwise_iff_getElem.1 h.up
 rcases Nat.lt_trichotomy i j with q | q | q
 ·have:=hu i j hi hj q;omega
 ·subst q;rfl
 ·have:=hu j i hj hi q;omega
theorem cA.keys(h:cA dl oc dc T)(hd:bV dc){n:Int}(hn:1≤n∧n≤9999):bQ .i64 (aK T) (.int .i64 n):=by
 refine ⟨fun e he => ?_,mS (by omega),?_⟩
 ·obtain ⟨p,hp,rfl⟩:=dS.1 he
  obtain ⟨x,hx,e1,_⟩:=h.ok p hp;have:=eV hd hx;exact mS (by omega)
 ·have:(aK T).map (fun e=>gW e.1)=T.map (·.1):=by
   unfold aK;rw [qK];rfl
  rw [this];exact h.nd
theorem aSb{n:Int}:cW (aK T) (.int .i64 n)=T.any fun p=>p.1 == n:=by
 unfold cW aK;rw [List.any_map]
 congr 1
theorem bDo{n:Int}:eP (aK T) (.int .i64 n)=(T.find? fun p=>p.1 == n).map fun p=>blP p.2:=by
 unfold eP aK
 induction T with
 | nil=>rfl
 | cons p T ih =>
  rw [gY,List.find?_cons,List.find?_cons];have e:(decide (gW ((Value.int IntKind.i64 p.1,blP p.2):Value × PV).1=gW (Value.int IntKind.i64 n)))=(p.1 == n):=by
   show decide (p.1=n)=(p.1 == n);rw [Bool.eq_iff_iff];simp
  rw [e];cases p.1 == n with
  | true=>rfl
  | false=>exact ih
theorem cA.look(h:cA dl oc dc T)(hd:bV dc){x:List Int}(hx:x∈dc)(hh:cW (aK T) (.int .i64 (dN x))=true):eP (aK T) (.int .i64 (dN x))=some (blP (dI dl oc dc x)):=by
 rw [aSb] at hh
 rw [bDo];cases hf:T.find? fun p=>p.1 == dN x with
 | none =>
  obtain ⟨p,h1,h2⟩:=List.any_eq_true.1 hh;exact absurd h2 (aGo.1 hf p h1)
 | some p =>
  have h1:=wG hf;have h2:p.1=dN x:=by simpa using aVd hf
  obtain ⟨y,hy,e1,e2⟩:=h.ok p h1;rw [zA hd hy hx (e1.trans h2)] at e2
  rw [e2];rfl
theorem cA.again(h:cA dl oc dc T)(hd:bV dc){x:List Int}(hx:x∈dc):oB (aK T) (.int .i64 (dN x)) (blP (dI dl oc dc x))=aK T:=by
 have:∀ T':Lqb,(∀ p∈T',∃ x∈dc,dN x=p.1∧dI dl oc dc x=p.2)→oB (aK T') (.int .i64 (dN x)) (blP (dI dl oc dc x))=aK T':=by
  intro T'
  induction T' with
  | nil=>intro _;rfl
  | cons p T' ih =>
   intro hp;show (if p.1=dN x then ((.int .i64 (dN x),blP (dI dl oc dc x))::aK T':List (Value × PV)) else (.int .i64 p.1,blP p.2)::oB (aK T') (.int .i64 (dN x)) (blP (dI dl oc dc x)))=(.int .i64 p.1,blP p.2)::aK T'
   by_cases e:p.1=dN x
   ·rw [if_pos e]
    obtain ⟨y,hy,e1,e2⟩:=hp p (jQ ..);rw [zA hd hy hx (e1.trans e)] at e2
    rw [e,e2]
   ·rw [if_neg e,ih fun q hq=>hp q (Cj _ hq)]
 exact this T h.ok
theorem cA.put(h:cA dl oc dc T){x:List Int}(hx:x∈dc)(hh:cW (aK T) (.int .i64 (dN x))=false):cA dl oc dc (T++[(dN x,dI dl oc dc x)]):=by
 rw [aSb] at hh
 refine ⟨?_,fun p hp => ?_⟩
 ·rw [fL,List.nodup_append]
  refine ⟨h.nd,by simp,fun a ha b hb e => ?_⟩
  simp only [gY,List.map_nil,List.mem_singleton] at hb
  obtain ⟨p,hp,rfl⟩:=dS.1 ha;have:=List.any_eq_false.1 hh p hp;rw [e,hb] at this
  simp at this
 ·rcases iE.1 hp with hp | hp
  ·exact h.ok p hp
  ·rw [List.mem_singleton.1 hp]
   exact ⟨x,hx,rfl,rfl⟩
end
end
section

theorem bOj{n lo hi:Int}{r0:Bool}(h0:lo≤n)(An:r0=(decide (n≤hi))){base:Nat}:FV Tp 184 [(.p (aA n)),(.p (aA lo)),(.p (aA hi))] base (.p (blP r0)) []:=by
 subst An;exact FV.fin func184 rfl (o:=[.b true,.b true,.b true,.b true]) (l:=[(decide (n ≥ lo))=true,(decide (n ≥ lo))=true,(decide (n ≥ lo))=true,(decide (n ≥ lo))=true]) (by kernel_rfl) (gc (yN h0) (gc (yN h0) (gc (yN h0) (gc (yN h0) gn))))
theorem bOk{n lo hi:Int}(h0:n<lo){base:Nat}:FV Tp 184 [(.p (aA n)),(.p (aA lo)),(.p (aA hi))] base (.p (blP false)) []:=by
 exact FV.fin func184 rfl (o:=[.b false,.b false,.b false,.b false]) (l:=[(decide (n ≥ lo))=false,(decide (n ≥ lo))=false,(decide (n ≥ lo))=false,(decide (n ≥ lo))=false]) (by kernel_rfl) (gc (kT h0) (gc (kT h0) (gc (kT h0) (gc (kT h0) gn))))
theorem aGs(n lo hi:Int){base:Nat}:FV Tp 184 [.p (aA n),.p (aA lo),.p (aA hi)] base (.p (blP (within n lo hi))) []:=by
 by_cases h:lo≤n
 ·exact bOj h (by simp [within,h])
 ·have e:within n lo hi=false:=by simp [within,h]
  rw [e];exact bOk (show n<lo by omega)
theorem bOl{b t:Int}{r0:Bool}(h0:(within b (1:Int) (999:Int))=true)(An:r0=(within t (0:Int) (360000:Int))){base:Nat}:FV Tp 183 [(.p (.agg [(aA b),(aA t)]))] base (.p (blP r0)) []:=by
 subst An;exact FV.fin func183 rfl (o:=[.c (.p (blP (within b (1:Int) (999:Int)))) [],.b true,.b true,.b true,.c (.p (blP (within t (0:Int) (360000:Int)))) [],.b true]) (l:=[(within b (1:Int) (999:Int))=true,FC Tp 184 [(.p (aA t)),(.p (aA 0)),(.p (aA 360000))] [] 1 (.p (blP (within t (0:Int) (360000:Int)))) [],(within b (1:Int) (999:Int))=true,(within b (1:Int) (999:Int))=true,(within b (1:Int) (999:Int))=true,FC Tp 184 [(.p (aA b)),(.p (aA 1)),(.p (aA 999))] [] 1 (.p (blP (within b (1:Int) (999:Int)))) []]) (by kernel_rfl) (gc h0 (gc (FV.fc (aGs t (0:Int) (360000:Int)) rfl) (gc h0 (gc h0 (gc h0 (gc (FV.fc (aGs b (1:Int) (999:Int)) rfl) gn))))))
def pM(x:List Int):Bool:=within (x.getD 0 0) 1 999 && within (x.getD 1 0) 0 360000
theorem bOm(b t:Int)(h:pM [b,t]=true){base:Nat}:FV Tp 183 [.p (.agg [aA b,aA t])] base (.p (blP true)) []:=by
 have h:(within b 1 999 && within t 0 360000)=true:=h;rw [Bl] at h
 exact bOl h.1 h.2.symm
def lO(l:Lqq)(i:Nat):St:=⟨fr 18 [(1,(.fn 183 [] [])),(7,(.p (.sl l.length (l.flatten.map aA)))),(8,(.p (aA (l.length:Int)))),(9,(.p (aA (i:Int))))],[]⟩
theorem bOn{l:Lqq}{Av:Nat}(hl0:aG Tp 0 (sub (cd Tryz.f182) cf) (lO l 0) (.exit 0) (lO l Av)){base:Nat}:FV Tp 182 [(.p (.sl l.length (l.flatten.map aA))),(.fn 183 [] [])] base (.p (blP true)) []:=by
 exact FV.fin func182 rfl (o:=[.k 6 ⟨(rng [(0,1),(2,5),(10,8)]),[],[],[]⟩ (.exit 0) (lO l Av)]) (l:=[aC Tp 0 (.loop (sub (cd Tryz.f182) cf)) (lO l 0) (.exit 0) (lO l Av)]) (by kernel_rfl) (gc hl0.code gn)
theorem aWd{l:Lqq}{i:Nat}{Aa Ab:Int}{i':Nat}(h0:(i:Int)<(l.length:Int))(h1:l[i]? = some [Aa,Ab])(h2:uni 2 l)(h3:pM [Aa,Ab]=true)(h4:inR (((i+1):Nat):Int))(Ak:i'=(i+1)):aC Tp 0 (sub (cd Tryz.f182) cf) (lO l i) .normal (lO l i'):=by
 subst Ak;exact aC.fin (g:=⟨(rng [(0,1),(2,5),(10,8)]),[],[],[]⟩) (o:=[.b true,.x (.agg [(aA Aa),(aA Ab)]),.c (.p (blP true)) [],.b false]) (l:=[inR (((i+1):Nat):Int),false=false,FC Tp 183 [(.p (.agg [(aA Aa),(aA Ab)]))] [] 1 (.p (blP true)) [],some (.agg (((l.flatten.map aA).drop (i*2)).take 2):PV)=some (.agg [(aA Aa),(aA Ab)]),(i*2)+2≤(l.flatten.map aA).length,0≤(i:Int)∧(i:Int)<(l.length:Int)∧(i*2)<(l.flatten.map aA).length,(decide ((i:Int)<(l.length:Int)))=true]) (by kernel_rfl) (gc h4 (gc rfl (gc (FV.fc (bOm Aa Ab h3) rfl) (gc (eG (i:=i) h2 h1) (gc (gG (i:=i) h2 h1) (gc (jJ (k:=2) (i:=(i:Int)) (by decide) h2 (B4 _) h1) (gc (bU h0) gn)))))))
theorem aWe{l:Lqq}{i:Nat}(h0:(l.length:Int)≤(i:Int)):aC Tp 0 (sub (cd Tryz.f182) cf) (lO l i) (.exit 0) (lO l i):=by
 exact aC.fin (g:=⟨(rng [(0,1),(2,5),(10,8)]),[],[],[]⟩) (o:=[.b false]) (l:=[(decide ((i:Int)<(l.length:Int)))=false]) (by kernel_rfl) (gc (aS h0) gn)
theorem bOo(l:Lqq)(hu:uni 2 l)(hl:l.length≤1000)(h:∀ x∈l,pM x=true){base:Nat}:FV Tp 182 [.p (.sl l.length (l.flatten.map aA)),.fn 183 [] []] base (.p (blP true)) [] :=
 bOn (aG.range (P:=Tp) (k:=0) (b:=(sub (cd Tryz.f182) cf)) (e := .exit 0) (fun i (_:Unit)=>lO l i) (fun _=>lO l l.length) (fun a _=>a) (fun _ _=>True) (by simp) l (a0:=()) trivial
  (fun i x _ hx _=>⟨trivial,by
   obtain ⟨a,b,rfl⟩:=len2 (hu x (Bi hx));have:=bA hx;exact aWd (by omega) hx hu (h _ (Bi hx)) (aN (by omega)) rfl⟩)
  (fun _ _=>aWe (by omega)))
def jW(l:List Int)(i:Nat)(me:List (Value × PV))(mk:Nat):St:=⟨fr 19 [(3,(.mp 0)),(7,(.p (aH l))),(8,(.p (aA (l.length:Int)))),(9,(.p (aA (i:Int))))],[some (.mp me mk)]⟩
theorem bOp{l:List Int}{Av:Nat}{Hp:List Int}(hl0:aG Tp 0 (sub (cd Tryz.f185) ca) (jW l 0 [] 0) (.exit 0) (jW l Av (cD Hp) Hp.length)){base:Nat}:FV Tp 185 [(.p (aH l))] base (.p (blP false)) []:=by
 exact FV.fin func185 rfl (o:=[.k 8 ⟨(rng [(0,3),(4,3),(10,9)]),[0],[],[]⟩ (.exit 0) (jW l Av (cD Hp) Hp.length)]) (l:=[aC Tp 0 (.loop (sub (cd Tryz.f185) ca)) (jW l 0 [] 0) (.exit 0) (jW l Av (cD Hp) Hp.length)]) (by kernel_rfl) (gc hl0.code gn)
theorem aWf{l:List Int}{i:Nat}{m:List Int}{Ag:Int}{i':Nat}{m':List Int}(h0:(i:Int)<(l.length:Int))(h1:l[i]? = some Ag)(h2:bQ .i64 (cD m) (.int .i64 Ag))(h3:(cW (cD m) (.int .i64 Ag))=false)(h4:inR (((i+1):Nat):Int))(Ak:i'=(i+1))(Kg:cD m'=((cD m)++[((.int .i64 Ag),(blP true))]))(Kh:m'.length=(m.length+1)):aC Tp 0 (sub (cd Tryz.f185) ca) (jW l i (cD m) m.length) .normal (jW l i' (cD m') m'.length):=by
 subst Ak;have raw:aC Tp 0 (sub (cd Tryz.f185) ca) (jW l i (cD m) m.length) .normal (jW l (i+1) ((cD m)++[((.int .i64 Ag),(blP true))]) (m.length+1)):=aC.fin (g:=⟨(rng [(0,3),(4,3),(10,9)]),[0],[],[]⟩) (o:=[.b true,.x (aA Ag),.b false,.b false,.b false]) (l:=[inR (((i+1):Nat):Int),(cW (cD m) (.int .i64 Ag))=false,bQ .i64 (cD m) (.int .i64 Ag),false=false,(cW (cD m) (.int .i64 Ag))=false,bQ .i64 (cD m) (.int .i64 Ag),(l.map aA)[(i*1)]? = some (aA Ag),0≤(i:Int)∧(i:Int)<(l.length:Int)∧(i*1)<(l.map aA).length,(decide ((i:Int)<(l.length:Int)))=true]) (by kernel_rfl) (gc h4 (gc h3 (gc h2 (gc rfl (gc h3 (gc h2 (gc (fD (i:=i) h1) (gc (iF (i:=(i:Int)) (B4 _) h1) (gc (bU h0) gn)))))))))
 exact raw.cast (by rw [Kg,Kh])
theorem aWg{l:List Int}{i:Nat}{m:List Int}(h0:(l.length:Int)≤(i:Int)):aC Tp 0 (sub (cd Tryz.f185) ca) (jW l i (cD m) m.length) (.exit 0) (jW l i (cD m) m.length):=by
 exact aC.fin (g:=⟨(rng [(0,3),(4,3),(10,9)]),[0],[],[]⟩) (o:=[.b false]) (l:=[(decide ((i:Int)<(l.length:Int)))=false]) (by kernel_rfl) (gc (aS h0) gn)
theorem bOq(l:List Int)(hl:l.length≤1000)(hb:∀ x∈l,-1000000≤x∧x≤1000000)(hn:l.Nodup){base:Nat}:FV Tp 185 [.p (aH l)] base (.p (blP false)) []:=by
 obtain ⟨m,hm,hL⟩:=aG.ex (P:=Tp) (k:=0) (b:=(sub (cd Tryz.f185) ca)) (e := .exit 0) (fun i (m:List Int)=>jW l i (cD m) m.length) (fun m=>jW l l.length (cD m) m.length) (fun i m=>m=l.take i) (by simp) l.length
  (fun i m hi hm=>by
   subst hm;have hx:l[i]? = some l[i]:=Aq hi;have et:l.take (i+1)=l.take i++[l[i]]:=by rw [List.take_add_one,hx];rfl
   have hk:=aBh (hn.sublist (List.take_sublist i l)) (fun x hx=>hb x (List.mem_of_mem_take hx)) (hb _ (gJ hi))
   have hm:l[i]∉l.take i:=fun hm=>by
    obtain ⟨j,hj,e⟩:=List.mem_iff_getElem.1 hm;rw [mP] at hj
    rw [List.getElem_take] at e
    exact List.pairwise_iff_getElem.1 hn j i (by omega) hi (by omega) e
   exact ⟨_,rfl,aWf (m:=l.take i) (m':=l.take (i+1)) (i':=i+1) (by omega) hx hk (aKk hm) (aN (by omega)) rfl (by rw [et,aBg]) (by simp;omega)⟩)
  (fun m _=>aWg (by omega)) (acc:=[]) (by simp)
 exact bOp hL
def jX(l:Lqq)(un:Int)(li:Int)(i:Nat)(on:Nat)(oc:List PV):St:=⟨fr 43 [(0,(.p (.sl l.length (l.flatten.map aA)))),(3,(.ptr 0 0)),(4,(.p (aA 0))),(5,(.own 1)),(8,(.p (.sl l.length (l.flatten.map aA)))),(9,(.p (aA (l.length:Int)))),(10,(.p (aA (i:Int))))],[some (.box 70 [(.p (aA un)),(.p (aA li))]),some (.row 3 on oc)]⟩
theorem bOr{l:Lqq}{un li:Int}{Av:Nat}{D6:List Int}(hl0:aG Tp 0 (sub (cd Tryz.f139) ca) (jX l un li 0 0 []) (.exit 0) (jX l un li Av D6.length (D6.map aA)))(h1:(l.length:Int)≤(60:Int))(h2:uni 2 l)(h3:l.length≤1000)(h4:∀ x∈l,pM x=true)(h5:(within un (1:Int) (600:Int))=true)(h6:(within li (0:Int) (360000:Int))=true)(h7:D6.length≤1000)(h8:∀ x∈D6,-1000000≤x∧x≤1000000)(h9:D6.Nodup){base:Nat}:FV Tp 139 [(.p (.sl l.length (l.flatten.map aA))),(.p (.agg [(aA un),(aA li)]))] base (.p (aA 0)) []:=by
 exact FV.fin func139 rfl (o:=[.k 8 ⟨(rng [(1,2),(6,2),(11,9)]),[0,1],[],[(5,3)]⟩ (.exit 0) (jX l un li Av D6.length (D6.map aA)),.b false,.c (.p (blP true)) [],.b false,.b false,.b false,.c (.p (blP (within un (1:Int) (600:Int)))) [],.b false,.b false,.b false,.b false,.b false,.c (.p (blP (within li (0:Int) (360000:Int)))) [],.b false,.b false,.b false,.c (.p (blP false)) [],.b false]) (l:=[false=false,FC Tp 185 [(.own 1)] [(1,(.row 3 D6.length (D6.map aA)))] 2 (.p (blP false)) [],(!(within li (0:Int) (360000:Int)))=false,(!(within un (1:Int) (600:Int)))=false,(!(within un (1:Int) (600:Int)))=false,FC Tp 184 [(.p (aA li)),(.p (aA 0)),(.p (aA 360000))] [] 2 (.p (blP (within li (0:Int) (360000:Int)))) [],(!(within un (1:Int) (600:Int)))=false,(!(within un (1:Int) (600:Int)))=false,(!(within un (1:Int) (600:Int)))=false,false=false,false=false,FC Tp 184 [(.p (aA un)),(.p (aA 1)),(.p (aA 600))] [] 2 (.p (blP (within un (1:Int) (600:Int)))) [],false=false,false=false,false=false,FC Tp 182 [(.p (.sl l.length (l.flatten.map aA))),(.fn 183 [] [])] [] 2 (.p (blP true)) [],(decide ((l.length:Int) > (60:Int)))=false,aC Tp 0 (.loop (sub (cd Tryz.f139) ca)) (jX l un li 0 0 []) (.exit 0) (jX l un li Av D6.length (D6.map aA))]) (by kernel_rfl) (gc rfl (gc (FV.view (Am:=[(.p (aH D6))]) (bOq D6 h7 h8 h9) (by kernel_rfl) (by kernel_rfl) (by kernel_rfl)) (gc (aW h6) (gc (aW h5) (gc (aW h5) (gc (FV.fc (aGs li (0:Int) (360000:Int)) rfl) (gc (aW h5) (gc (aW h5) (gc (aW h5) (gc rfl (gc rfl (gc (FV.fc (aGs un (1:Int) (600:Int)) rfl) (gc rfl (gc rfl (gc rfl (gc (FV.fc (bOo l h2 h3 h4) rfl) (gc (aS h1) (gc hl0.code gn))))))))))))))))))
theorem aWh{l:Lqq}{un li:Int}{i:Nat}{o:List Int}{Aa Ab:Int}{i':Nat}{o':List Int}(h0:(i:Int)<(l.length:Int))(h1:l[i]? = some [Aa,Ab])(h2:uni 2 l)(h3:[(aA Aa)].length=1*1∧o.length+1≤1000000)(h4:inR (((i+1):Nat):Int))(Ak:i'=(i+1))(Cw:o'.length=(o.length+1))(Cy:o'.map aA=((o.map aA)++[(aA Aa)])):aC Tp 0 (sub (cd Tryz.f139) ca) (jX l un li i o.length (o.map aA)) .normal (jX l un li i' o'.length (o'.map aA)):=by
 subst Ak;have raw:aC Tp 0 (sub (cd Tryz.f139) ca) (jX l un li i o.length (o.map aA)) .normal (jX l un li (i+1) (o.length+1) ((o.map aA)++[(aA Aa)])):=aC.fin (g:=⟨(rng [(1,2),(6,2),(11,9)]),[0,4],[],[]⟩) (o:=[.b true,.x (.agg [(aA Aa),(aA Ab)])]) (l:=[inR (((i+1):Nat):Int),[(aA Aa)].length=1*1∧o.length+1≤1000000,some (.agg (((l.flatten.map aA).drop (i*2)).take 2):PV)=some (.agg [(aA Aa),(aA Ab)]),(i*2)+2≤(l.flatten.map aA).length,0≤(i:Int)∧(i:Int)<(l.length:Int)∧(i*2)<(l.flatten.map aA).length,(decide ((i:Int)<(l.length:Int)))=true]) (by kernel_rfl) (gc h4 (gc h3 (gc (eG (i:=i) h2 h1) (gc (gG (i:=i) h2 h1) (gc (jJ (k:=2) (i:=(i:Int)) (by decide) h2 (B4 _) h1) (gc (bU h0) gn))))))
 exact raw.cast (by rw [Cw,Cy])
theorem aWi{l:Lqq}{un li:Int}{i:Nat}{o:List Int}(h0:(l.length:Int)≤(i:Int)):aC Tp 0 (sub (cd Tryz.f139) ca) (jX l un li i o.length (o.map aA)) (.exit 0) (jX l un li i o.length (o.map aA)):=by
 exact aC.fin (g:=⟨(rng [(1,2),(6,2),(11,9)]),[0,1],[],[]⟩) (o:=[.b false]) (l:=[(decide ((i:Int)<(l.length:Int)))=false]) (by kernel_rfl) (gc (aS h0) gn)
def gK(l:List Int)(i:Nat):St:=⟨fr 18 [(3,(.p (aA 0))),(6,(.p (aH l))),(7,(.p (aA (l.length:Int)))),(8,(.p (aA (i:Int))))],[]⟩
theorem bOs{l:List Int}{Av:Nat}(hl0:aG Tp 0 (sub (cd Tryz.f75) ca) (gK l 0) (.exit 0) (gK l Av)){base:Nat}:FV Tp 75 [(.p (aH l))] base (.p (aA 0)) []:=by
 exact FV.fin func75 rfl (o:=[.k 8 ⟨(rng [(0,3),(4,2),(9,8)]),[],[],[]⟩ (.exit 0) (gK l Av)]) (l:=[aC Tp 0 (.loop (sub (cd Tryz.f75) ca)) (gK l 0) (.exit 0) (gK l Av)]) (by kernel_rfl) (gc hl0.code gn)
theorem bDf{l:List Int}{Av:Nat}{r0:Int}(hl0:aG Tp 0 (sub (cd Tryz.f75) ca) (gK l 0) .ret (cQ (gK l Av) [(2,(.p (aA (l.getD Av 0))))]))(An:r0=(l.getD Av 0)){base:Nat}:FV Tp 75 [(.p (aH l))] base (.p (aA r0)) []:=by
 subst An;exact FV.fin func75 rfl (o:=[.k 8 ⟨(rng [(0,3),(4,2),(9,8)]),[],[],[]⟩ .ret (cQ (gK l Av) [(2,(.p (aA (l.getD Av 0))))])]) (l:=[aC Tp 0 (.loop (sub (cd Tryz.f75) ca)) (gK l 0) .ret (cQ (gK l Av) [(2,(.p (aA (l.getD Av 0))))])]) (by kernel_rfl) (gc hl0.code gn)
theorem aEq{l:List Int}{i:Nat}{Ag:Int}(h0:(i:Int)<(l.length:Int))(h1:l[i]? = some Ag)(h2:Ag≠(0:Int)):aC Tp 0 (sub (cd Tryz.f75) ca) (gK l i) .ret (cQ (gK l i) [(2,(.p (aA Ag)))]):=by
 exact aC.fin (g:=⟨(rng [(0,2),(4,2),(9,8)]),[],[],[]⟩) (o:=[.b true,.x (aA Ag),.b true]) (l:=[(Ag != (0:Int))=true,(l.map aA)[(i*1)]? = some (aA Ag),0≤(i:Int)∧(i:Int)<(l.length:Int)∧(i*1)<(l.map aA).length,(decide ((i:Int)<(l.length:Int)))=true]) (by kernel_rfl) (gc (qL h2) (gc (fD (i:=i) h1) (gc (iF (i:=(i:Int)) (B4 _) h1) (gc (bU h0) gn))))
theorem aEr{l:List Int}{i:Nat}{Ag:Int}{i':Nat}(h0:(i:Int)<(l.length:Int))(h1:l[i]? = some Ag)(h2:Ag=(0:Int))(h3:inR (((i+1):Nat):Int))(Ak:i'=(i+1)):aC Tp 0 (sub (cd Tryz.f75) ca) (gK l i) .normal (gK l i'):=by
 subst Ak;exact aC.fin (g:=⟨(rng [(0,3),(4,2),(9,8)]),[],[],[]⟩) (o:=[.b true,.x (aA Ag),.b false]) (l:=[inR (((i+1):Nat):Int),(Ag != (0:Int))=false,(l.map aA)[(i*1)]? = some (aA Ag),0≤(i:Int)∧(i:Int)<(l.length:Int)∧(i*1)<(l.map aA).length,(decide ((i:Int)<(l.length:Int)))=true]) (by kernel_rfl) (gc h3 (gc (eY h2) (gc (fD (i:=i) h1) (gc (iF (i:=(i:Int)) (B4 _) h1) (gc (bU h0) gn)))))
theorem aWj{l:List Int}{i:Nat}(h0:(l.length:Int)≤(i:Int)):aC Tp 0 (sub (cd Tryz.f75) ca) (gK l i) (.exit 0) (gK l i):=by
 exact aC.fin (g:=⟨(rng [(0,3),(4,2),(9,8)]),[],[],[]⟩) (o:=[.b false]) (l:=[(decide ((i:Int)<(l.length:Int)))=false]) (by kernel_rfl) (gc (aS h0) gn)
end
section

theorem bOf(l:Lqq)(un li:Int)(hu:uni 2 l)(hl:l.length≤60)(h:∀ x∈l,pM x=true)(h1:1≤un∧un≤600)(h2:0≤li∧li≤360000)(hn:(aM l 0).Nodup){base:Nat}:FV Tp 139 [.p (.sl l.length (l.flatten.map aA)),.p (.agg [aA un,aA li])] base (.p (aA 0)) []:=by
 have L:=aG.range (P:=Tp) (k:=0) (b:=(sub (cd Tryz.f139) ca)) (e := .exit 0) (fun i (o:List Int)=>jX l un li i o.length (o.map aA)) (fun o=>jX l un li l.length o.length (o.map aA)) (fun o x=>o++[x.getD 0 0]) (fun i o=>o.length=i) (by simp) l (a0:=[]) rfl
  (fun i x o hx hi=>by
   obtain ⟨a,b,rfl⟩:=len2 (hu x (Bi hx));have:=bA hx;exact ⟨by simp [hi],aWh (o':=o++[a]) (by omega) hx hu ⟨rfl,by omega⟩ (aN (by omega)) rfl (by simp) (by simp)⟩)
  (fun o _=>aWi (by omega))
 have e:∀ (r:Lqq) (o:List Int),r.foldl (fun o x=>o++[x.getD 0 0]) o=o++aM r 0:=by
  intro r
  induction r with
  | nil=>intro o;simp [aM]
  | cons x r ih=>intro o;rw [tN,ih];simp [aM]
 rw [e,List.nil_append] at L
 refine bOr (D6:=aM l 0) L (by omega) hu (by omega) h (bB.2 h1) (bB.2 h2) (by rw [rV];omega) (fun x hx => ?_) hn
 obtain ⟨y,hy,rfl⟩:=dS.1 hx;have:=h y hy;unfold pM at this
 rw [Bl,bB] at this
 omega
def orI(a b:Int):Int:=if a≠0 then a else b
theorem bOg(a b:Int){base:Nat}:FV Tp 75 [.p (aH [a,b])] base (.p (aA (orI a b))) []:=by
 unfold orI
 by_cases ha:a=0
 ·rw [if_neg (by simpa using ha)]
  have s1:=aEr (l:=[a,b]) (i:=0) (Ag:=a) (i':=1) (by simp) rfl ha (by decide) rfl
  by_cases hb:b=0
  ·subst hb
   have s2:=aEr (l:=[a,0]) (i:=1) (Ag:=0) (i':=2) (by simp) rfl rfl (by decide) rfl
   exact bOs (Av:=2) (.step s1 (.step s2 (.exit (aWj (by simp)) (by simp))))
  ·exact bDf (Av:=1) (r0:=b) (.step s1 (.exit (aEq (l:=[a,b]) (i:=1) (Ag:=b) (by simp) rfl hb) (by simp))) rfl
 ·rw [if_pos ha]
  exact bDf (Av:=0) (r0:=a) (.exit (aEq (l:=[a,b]) (i:=0) (Ag:=a) (by simp) rfl ha) (by simp)) rfl
def lN(l:Lqq)(un:Int)(li:Int)(b:Int)(i:Nat):St:=⟨fr 55 [(0,(.p (.sl l.length (l.flatten.map aA)))),(3,(.ptr 0 0)),(4,(.p dZ)),(5,(.p (aA 0))),(7,(.p (aA b))),(20,(.p (.sl l.length (l.flatten.map aA)))),(21,(.p (aA (l.length:Int)))),(22,(.p (aA (i:Int))))],[some (.box 70 [(.p (aA un)),(.p (aA li))])]⟩
def jV(l:Lqq)(un:Int)(li:Int)(Ch:Int)(on:Nat)(oc:List PV)(i:Nat):St:=⟨fr 55 [(3,(.ptr 0 0)),(4,(.p dZ)),(5,(.p (aA 0))),(7,(.p (aA Ch))),(10,(.own 1)),(31,(.p (.sl l.length (l.flatten.map aA)))),(32,(.p (aA (l.length:Int)))),(33,(.p (aA (i:Int))))],[some (.box 70 [(.p (aA un)),(.p (aA li))]),some (.row 3 on oc)]⟩
theorem bOh{l:Lqq}{un li Ch:Int}{Ei:Nat}{Gd:List Int}{Ir:Nat}(h0:uni 2 l)(h1:l.length≤60)(h2:∀ x∈l,pM x=true)(h3:1≤un∧un≤600)(h4:0≤li∧li≤360000)(h5:(aM l 0).Nodup)(Kc:aG Tp 0 (sub (cd Tryz.f72) bw) (lN l un li (360000:Int) 0) (.exit 0) (lN l un li Ch Ei))(It:aG Tp 0 (sub (cd Tryz.f72) bl) (jV l un li Ch 0 [] 0) (.exit 2) (jV l un li Ch Gd.length (Gd.map aA) Ir)){base:Nat}:FV Tp 72 [(.p (.sl l.length (l.flatten.map aA))),(.p (.agg [(aA un),(aA li)]))] base (.tup [(.p (aH Gd)),(.p (aA 0))]) []:=FV.frz (FMM.fin (k:=0) (g:=⟨[],[],[1],[]⟩) rfl func72 rfl (o:=[.c (.p (aA 0)) [],.b false,.k 6 ⟨(rng [(1,2),(6,1),(8,2),(11,1),(14,6),(23,8)]),[0],[],[]⟩ (.exit 0) (lN l un li Ch Ei),.k 6 ⟨(rng [(0,3),(6,1),(8,2),(11,20),(34,20)]),[0,1],[],[(10,3)]⟩ (.exit 2) (jV l un li Ch Gd.length (Gd.map aA) Ir)]) (l:=[aC Tp 0 (.loop (sub (cd Tryz.f72) bl)) (jV l un li Ch 0 [] 0) (.exit 2) (jV l un li Ch Gd.length (Gd.map aA) Ir),aC Tp 0 (.loop (sub (cd Tryz.f72) bw)) (lN l un li (360000:Int) 0) (.exit 0) (lN l un li Ch Ei),((0:Int) != (0:Int))=false,FC Tp 139 [(.p (.sl l.length (l.flatten.map aA))),(.p (.agg [(aA un),(aA li)]))] [] 1 (.p (aA 0)) []]) (by kernel_rfl) (gc It.code (gc Kc.code (gc (by first | decide | simp) (gc (FV.fc (bOf l un li h0 h1 h2 h3 h4 h5) rfl) gn))))) (by kernel_rfl)
theorem aVz{l:Lqq}{un li b:Int}{i:Nat}{Aa Ab b':Int}{i':Nat}(h0:(i:Int)<(l.length:Int))(h1:l[i]? = some [Aa,Ab])(h2:uni 2 l)(h3:inR (((i+1):Nat):Int))(R9:b'=(if Ab<b then Ab else b))(Ak:i'=(i+1)):aC Tp 0 (sub (cd Tryz.f72) bw) (lN l un li b i) .normal (lN l un li b' i'):=by
 subst R9 Ak;exact aC.fin (g:=⟨(rng [(1,2),(6,1),(8,2),(11,1),(14,6),(23,8)]),[0],[],[]⟩) (o:=[.b true,.x (.agg [(aA Aa),(aA Ab)])]) (l:=[inR (((i+1):Nat):Int),some (.agg (((l.flatten.map aA).drop (i*2)).take 2):PV)=some (.agg [(aA Aa),(aA Ab)]),(i*2)+2≤(l.flatten.map aA).length,0≤(i:Int)∧(i:Int)<(l.length:Int)∧(i*2)<(l.flatten.map aA).length,(decide ((i:Int)<(l.length:Int)))=true]) (by kernel_rfl) (gc h3 (gc (eG (i:=i) h2 h1) (gc (gG (i:=i) h2 h1) (gc (jJ (k:=2) (i:=(i:Int)) (by decide) h2 (B4 _) h1) (gc (bU h0) gn)))))
theorem aWa{l:Lqq}{un li b:Int}{i:Nat}(h0:(l.length:Int)≤(i:Int)):aC Tp 0 (sub (cd Tryz.f72) bw) (lN l un li b i) (.exit 0) (lN l un li b i):=by
 exact aC.fin (g:=⟨(rng [(1,2),(6,1),(8,2),(11,1),(14,6),(23,8)]),[0],[],[]⟩) (o:=[.b false]) (l:=[(decide ((i:Int)<(l.length:Int)))=false]) (by kernel_rfl) (gc (aS h0) gn)
theorem aWb{l:Lqq}{un li Ch:Int}{o:List Int}{i:Nat}{A3 Aj:Int}{o':List Int}{i':Nat}(h0:(i:Int)<(l.length:Int))(h1:l[i]? = some [A3,Aj])(h2:uni 2 l)(h3:inR (Aj-Ch))(h4:un≠0)(h5:inR ((Aj-Ch)-((Aj-Ch).tmod un)))(h6:[(aA (if li<((Aj-Ch)-((Aj-Ch).tmod un)) then li else ((Aj-Ch)-((Aj-Ch).tmod un))))].length=1*1∧o.length+1≤1000000)(h7:inR (((i+1):Nat):Int))(Cw:o'.length=(o.length+1))(Cy:o'.map aA=((o.map aA)++[(aA (if li<((Aj-Ch)-((Aj-Ch).tmod un)) then li else ((Aj-Ch)-((Aj-Ch).tmod un))))]))(Ak:i'=(i+1)):aC Tp 0 (sub (cd Tryz.f72) bl) (jV l un li Ch o.length (o.map aA) i) .normal (jV l un li Ch o'.length (o'.map aA) i'):=by
 subst Ak;have raw:aC Tp 0 (sub (cd Tryz.f72) bl) (jV l un li Ch o.length (o.map aA) i) .normal (jV l un li Ch (o.length+1) ((o.map aA)++[(aA (if li<((Aj-Ch)-((Aj-Ch).tmod un)) then li else ((Aj-Ch)-((Aj-Ch).tmod un))))]) (i+1)):=aC.fin (g:=⟨(rng [(0,3),(6,1),(8,2),(11,20),(34,20)]),[0,5],[],[]⟩) (o:=[.b true,.x (.agg [(aA A3),(aA Aj)])]) (l:=[inR (((i+1):Nat):Int),[(aA (if li<((Aj-Ch)-((Aj-Ch).tmod un)) then li else ((Aj-Ch)-((Aj-Ch).tmod un))))].length=1*1∧o.length+1≤1000000,inR ((Aj-Ch)-((Aj-Ch).tmod un)),un≠0,inR (Aj-Ch),some (.agg (((l.flatten.map aA).drop (i*2)).take 2):PV)=some (.agg [(aA A3),(aA Aj)]),(i*2)+2≤(l.flatten.map aA).length,0≤(i:Int)∧(i:Int)<(l.length:Int)∧(i*2)<(l.flatten.map aA).length,(decide ((i:Int)<(l.length:Int)))=true]) (by kernel_rfl) (gc h7 (gc h6 (gc h5 (gc h4 (gc h3 (gc (eG (i:=i) h2 h1) (gc (gG (i:=i) h2 h1) (gc (jJ (k:=2) (i:=(i:Int)) (by decide) h2 (B4 _) h1) (gc (bU h0) gn)))))))))
 exact raw.cast (by rw [Cw,Cy])
theorem aWc{l:Lqq}{un li Ch:Int}{o:List Int}{i:Nat}(h0:(l.length:Int)≤(i:Int)):aC Tp 0 (sub (cd Tryz.f72) bl) (jV l un li Ch o.length (o.map aA) i) (.exit 2) (jV l un li Ch o.length (o.map aA) i):=by
 exact aC.fin (g:=⟨(rng [(0,3),(6,1),(8,2),(11,20),(34,20)]),[0,1],[],[]⟩) (o:=[.b false]) (l:=[(decide ((i:Int)<(l.length:Int)))=false]) (by kernel_rfl) (gc (aS h0) gn)
theorem bOi{a b:Int}{d:List Int}{l:Lqq}{x0 x1 y2 y3 y4 y5 r0:Int}(h0:d[a.toNat]? = some x0)(h1:0≤a)(h2:d[b.toNat]? = some x1)(h3:0≤b)(h4:l[a.toNat]? = some [y2,y3])(h5:uni 2 l)(h6:l[b.toNat]? = some [y4,y5])(An:r0=(orI (gL x0 x1) (gL y3 y5))){base:Nat}:FV Tp 74 [(.p (aA a)),(.p (aA b)),(.rp [(aH d)] 0),(.rp [(PV.sl l.length (l.flatten.map aA))] 0)] base (.p (aA r0)) []:=by
 subst An;exact FV.fin func74 rfl (o:=[.x (aH d),.x (aA x0),.x (aH d),.x (aA x1),.c (.p (aA (gL x0 x1))) [],.x (.sl l.length (l.flatten.map aA)),.x (aA y3),.x (.sl l.length (l.flatten.map aA)),.x (aA y5),.c (.p (aA (gL y3 y5))) [],.c (.p (aA (orI (gL x0 x1) (gL y3 y5)))) []]) (l:=[FC Tp 75 [(.own 16)] [(16,(.row 3 2 [(aA (gL x0 x1)),(aA (gL y3 y5))]))] 17 (.p (aA (orI (gL x0 x1) (gL y3 y5)))) [],FC Tp 62 [(.p (aA y3)),(.p (aA y5))] [] 8 (.p (aA (gL y3 y5))) [],(l.flatten.map aA)[((b.toNat*2)+1)]? = some (aA y5),0≤b∧b<(l.length:Int)∧(b.toNat*2)<(l.flatten.map aA).length,[(PV.sl l.length (l.flatten.map aA))][0]? = some (.sl l.length (l.flatten.map aA)),(l.flatten.map aA)[((a.toNat*2)+1)]? = some (aA y3),0≤a∧a<(l.length:Int)∧(a.toNat*2)<(l.flatten.map aA).length,[(PV.sl l.length (l.flatten.map aA))][0]? = some (.sl l.length (l.flatten.map aA)),FC Tp 62 [(.p (aA x0)),(.p (aA x1))] [] 0 (.p (aA (gL x0 x1))) [],(d.map aA)[(b.toNat*1)]? = some (aA x1),0≤b∧b<(d.length:Int)∧(b.toNat*1)<(d.map aA).length,[(aH d)][0]? = some (aH d),(d.map aA)[(a.toNat*1)]? = some (aA x0),0≤a∧a<(d.length:Int)∧(a.toNat*1)<(d.map aA).length,[(aH d)][0]? = some (aH d)]) (by kernel_rfl) (gc (FV.view (Am:=[(.p (.sl 2 [(aA (gL x0 x1)),(aA (gL y3 y5))]))]) (bOg (gL x0 x1) (gL y3 y5)) (by kernel_rfl) (by kernel_rfl) (by kernel_rfl)) (gc (FV.fc (aNu y3 y5) rfl) (gc (cZ (i:=b.toNat) (f:=1) h5 h6 rfl) (gc (jJ (k:=2) (i:=b) (by decide) h5 h3 h6) (gc rfl (gc (cZ (i:=a.toNat) (f:=1) h5 h4 rfl) (gc (jJ (k:=2) (i:=a) (by decide) h5 h1 h4) (gc rfl (gc (FV.fc (aNu x0 x1) rfl) (gc (fD (i:=b.toNat) h2) (gc (iF (i:=b) h3 h2) (gc rfl (gc (fD (i:=a.toNat) h0) (gc (iF (i:=a) h1 h0) (gc rfl gn)))))))))))))))
end
section

def kP(l:Lqq):Int:=l.foldl (fun b x=>if x.getD 1 0<b then x.getD 1 0 else b) 360000
def dfI(un li b t:Int):Int:=if li<(t-b)-(t-b).tmod un then li else (t-b)-(t-b).tmod un
def mR(l:Lqq)(un li:Int):List Int:=l.map fun x=>dfI un li (kP l) (x.getD 1 0)
theorem aGr:∀ (l:Lqq) (b:Int),(∀ x∈l,pM x=true)→0≤b∧b≤360000→0≤l.foldl (fun b x=>if x.getD 1 0<b then x.getD 1 0 else b) b∧l.foldl (fun b x=>if x.getD 1 0<b then x.getD 1 0 else b) b≤b∧∀ x∈l,l.foldl (fun b x=>if x.getD 1 0<b then x.getD 1 0 else b) b≤x.getD 1 0
 | [],b,_,hb=>by simp;omega
 | x::l,b,h,hb=>by
  have h1:=h x jQ;unfold pM at h1
  rw [Bl,bB,bB] at h1
  rw [tN];obtain ⟨q1,q2,q3⟩:=aGr l (if x.getD 1 0<b then x.getD 1 0 else b) (fun y hy=>h y (Cj _ hy)) (by split <;> omega)
  have:(if x.getD 1 0<b then x.getD 1 0 else b)≤b∧(if x.getD 1 0<b then x.getD 1 0 else b)≤x.getD 1 0:=by split <;> omega
  refine ⟨q1,by omega,fun y hy => ?_⟩
  rcases gX.1 hy with rfl | hy
  ·omega
  ·exact q3 y hy
theorem yX{n u:Int}(hn:0≤n)(hu:1≤u):0≤n.tmod u∧n.tmod u≤n:=by
 rw [Int.tmod_eq_emod_of_nonneg hn];exact ⟨Int.emod_nonneg _ (by omega),by
  have:=Int.emod_add_mul_ediv n u;have h2:0≤u*(n / u):=Int.mul_nonneg (by omega) (Int.ediv_nonneg hn (by omega))
  omega⟩
theorem bOc(l:Lqq)(un li:Int)(hu:uni 2 l)(hl:l.length≤60)(h:∀ x∈l,pM x=true)(h1:1≤un∧un≤600)(h2:0≤li∧li≤360000)(hn:(aM l 0).Nodup){base:Nat}:FV Tp 72 [.p (.sl l.length (l.flatten.map aA)),.p (.agg [aA un,aA li])] base (.tup [.p (aH (mR l un li)),.p (aA 0)]) []:=by
 have hb:=aGr l 360000 h (by omega)
 have L0:=aG.range (P:=Tp) (k:=0) (b:=(sub (cd Tryz.f72) bw)) (e := .exit 0) (fun i (b:Int)=>lN l un li b i) (fun b=>lN l un li b l.length) (fun b x=>if x.getD 1 0<b then x.getD 1 0 else b) (fun _ _=>True) (by simp) l (a0:=360000) trivial
  (fun i x b hx _=>⟨trivial,by
   obtain ⟨y0,y1,rfl⟩:=len2 (hu x (Bi hx));have:=bA hx;exact aVz (by omega) hx hu (aN (by omega)) rfl rfl⟩)
  (fun b _=>aWa (by omega))
 have L1:=aG.range (P:=Tp) (k:=0) (b:=(sub (cd Tryz.f72) bl)) (e := .exit 2) (fun i (o:List Int)=>jV l un li (kP l) o.length (o.map aA) i) (fun o=>jV l un li (kP l) o.length (o.map aA) l.length) (fun o x=>o++[dfI un li (kP l) (x.getD 1 0)]) (fun i o=>o.length=i) (by simp) l (a0:=[]) rfl
  (fun i x o hx hi=>by
   have hm:=Bi hx;obtain ⟨y0,y1,rfl⟩:=len2 (hu x hm);have:=bA hx;have h3:=h _ hm;unfold pM at h3
   rw [Bl,bB,bB] at h3
   obtain ⟨_,h3⟩:=h3;have h3:0≤y1∧y1≤360000:=h3;have h4:kP l≤y1:=hb.2.2 _ hm;have h5:0≤kP l:=hb.1;have ht:=yX (n:=y1-kP l) (u:=un) (by omega) h1.1
   exact ⟨by simp [hi],aWb (o':=o++[dfI un li (kP l) y1]) (by omega) hx hu (by show _∧_;omega) (by omega) (by show _∧_;omega) ⟨rfl,by omega⟩ (aN (by omega)) (by simp) (by rw [fL];rfl) rfl⟩)
  (fun o _=>aWc (by omega))
 have e:∀ (r:Lqq) (o:List Int),r.foldl (fun o x=>o++[dfI un li (kP l) (x.getD 1 0)]) o=o++r.map fun x=>dfI un li (kP l) (x.getD 1 0):=by
  intro r
  induction r with
  | nil=>intro o;simp
  | cons x r ih=>intro o;rw [tN,ih];simp
 rw [e,List.nil_append] at L1
 exact bOh hu hl h h1 h2 hn L0 L1
def spK(d:List Int)(l:Lqq)(x y:Int):Int:=orI (gL (d.getD x.toNat 0) (d.getD y.toNat 0)) (gL ((l.getD x.toNat []).getD 1 0) ((l.getD y.toNat []).getD 1 0))
structure aDd (q d:List Int) (l:Lqq):Prop where
 q:q=(List.range d.length).map fun (i:Nat)=>(i:Int)
 len:l.length=d.length
 lt:d.length<20
 us:uni 2 l
 up:∀ j:Nat,0<j→j<d.length→0≤spK d l (j:Int) ((j:Int)-1)
theorem aRu{l:List Int}{i:Nat}(h:i<l.length):l[i]? = some (l.getD i 0):=by rw [Bm,Aq h];rfl
theorem bOd{d:List Int}{l:Lqq}{x y c:Int}(hx:0≤x∧x<(d.length:Int))(hy:0≤y∧y<(d.length:Int))(hl:l.length=d.length)(hu:uni 2 l)(e:spK d l x y=c){base:Nat}:FV Tp 74 [.p (aA x),.p (aA y),.rp [aH d] 0,.rp [.sl l.length (l.flatten.map aA)] 0] base (.p (aA c)) []:=by
 obtain ⟨a0,a1,ha⟩:=at2 hu (i:=x.toNat) (by omega)
 obtain ⟨b0,b1,hb⟩:=at2 hu (i:=y.toNat) (by omega)
 refine bOi (aRu (by omega)) hx.1 (aRu (by omega)) hy.1 ha hu hb ?_
 rw [← e];unfold spK;rw [Bm (l:=l),Bm (l:=l),ha,hb];rfl
def lL(q:List Int)(d:List Int)(l:Lqq)(i:Nat):St:=⟨fr 53 [(0,(.own 0)),(1,(.p (aA 0))),(2,(.p (aA (q.length:Int)))),(3,(.fn 74 [] [(.rp [(aH d)] 0),(.rp [(PV.sl l.length (l.flatten.map aA))] 0)])),(8,(.p (aA (i:Int))))],[some (.row 3 q.length (q.map aA))]⟩
theorem bOe{q d:List Int}{l:Lqq}{Av:Nat}(hl0:aG Tp 1 (sub (cd Tryz.f186) [1,0,0]) (lL q d l 1) (.exit 0) (lL q d l Av)):FMM Tp 186 [(.own 0),(.p (aA 0)),(.p (aA (q.length:Int))),(.fn 74 [] [(.rp [(aH d)] 0),(.rp [(PV.sl l.length (l.flatten.map aA))] 0)])] [some (.row 3 q.length (q.map aA))] (.tup []) [some (.row 3 q.length (q.map aA))]:=by
 exact FMM.fin (k:=1) (g:=⟨[],[],[],[]⟩) rfl func186 rfl (o:=[.k 3 ⟨(rng [(4,4),(9,44)]),[],[],[]⟩ (.exit 0) (lL q d l Av)]) (l:=[aC Tp 1 (.loop (sub (cd Tryz.f186) [1,0,0])) (lL q d l 1) (.exit 0) (lL q d l Av),inR (1:Int)]) (by kernel_rfl) (gc hl0.code (gc (by show _∧_;omega) gn))
def lM(q:List Int)(d:List Int)(l:Lqq)(i:Nat)(j:Int):St:=⟨fr 53 [(0,(.own 0)),(1,(.p (aA 0))),(2,(.p (aA (q.length:Int)))),(3,(.fn 74 [] [(.rp [(aH d)] 0),(.rp [(PV.sl l.length (l.flatten.map aA))] 0)])),(8,(.p (aA (i:Int)))),(9,(.p (aA j))),(12,(.p (aA (i:Int)))),(13,(.p (aA (q.length:Int)))),(14,(.p (blP (decide ((i:Int)<(q.length:Int)))))),(17,(.p (aA (i:Int))))],[some (.row 3 q.length (q.map aA))]⟩
theorem aVv{q d:List Int}{l:Lqq}{i:Nat}{F6:Int}{i':Nat}(h0:(i:Int)<(q.length:Int))(A4:aG Tp 1 (sub (cd Tryz.f186) bj) (lM q d l i (i:Int)) (.exit 2) (lM q d l i F6))(h2:inR (((i+1):Nat):Int))(Ak:i'=(i+1)):aC Tp 1 (sub (cd Tryz.f186) [1,0,0]) (lL q d l i) .normal (lL q d l i'):=by
 subst Ak;exact aC.fin (g:=⟨(rng [(4,4),(9,44)]),[],[],[]⟩) (o:=[.b true,.k 5 ⟨(rng [(4,4),(10,2),(18,35)]),[],[],[]⟩ (.exit 2) (lM q d l i F6)]) (l:=[inR (((i+1):Nat):Int),aC Tp 1 (.loop (sub (cd Tryz.f186) bj)) (lM q d l i (i:Int)) (.exit 2) (lM q d l i F6),(decide ((i:Int)<(q.length:Int)))=true]) (by kernel_rfl) (gc h2 (gc A4.code (gc (bU h0) gn)))
theorem aVw{q d:List Int}{l:Lqq}{i:Nat}(h0:(q.length:Int)≤(i:Int)):aC Tp 1 (sub (cd Tryz.f186) [1,0,0]) (lL q d l i) (.exit 0) (lL q d l i):=by
 exact aC.fin (g:=⟨(rng [(4,4),(9,44)]),[],[],[]⟩) (o:=[.b false]) (l:=[(decide ((i:Int)<(q.length:Int)))=false]) (by kernel_rfl) (gc (aS h0) gn)
theorem aVx{q d:List Int}{l:Lqq}{i:Nat}{j Bo F3 Ho:Int}(h0:(0:Int)<j)(h1:q[j.toNat]? = some Bo)(h2:0≤j)(h3:inR (j-(1:Int)))(h4:q[(j-(1:Int)).toNat]? = some F3)(h5:0≤(j-(1:Int)))(h6:0≤Bo∧Bo<(d.length:Int))(h7:0≤F3∧F3<(d.length:Int))(h8:l.length=d.length)(h9:uni 2 l)(A5:spK d l Bo F3=Ho)(B3:0≤Ho):aC Tp 1 (sub (cd Tryz.f186) bj) (lM q d l i j) (.exit 2) (lM q d l i j):=by
 exact aC.fin (g:=⟨(rng [(4,4),(10,2),(18,35)]),[],[],[]⟩) (o:=[.b true,.b true,.b true,.b true,.b true,.x (aA Bo),.b true,.b true,.b true,.b true,.b true,.x (aA F3),.b true,.c (.p (aA Ho)) [],.b true,.b true,.b false]) (l:=[(decide (Ho<(0:Int)))=false,(decide (j > (0:Int)))=true,(decide (j > (0:Int)))=true,FC Tp 74 [(.p (aA Bo)),(.p (aA F3)),(.rp [(aH d)] 0),(.rp [(PV.sl l.length (l.flatten.map aA))] 0)] [] 1 (.p (aA Ho)) [],(decide (j > (0:Int)))=true,(q.map aA)[((j-(1:Int)).toNat*1)]? = some (aA F3),(decide (j > (0:Int)))=true,0≤(j-(1:Int))∧(j-(1:Int))<(q.length:Int),(decide (j > (0:Int)))=true,inR (j-(1:Int)),(decide (j > (0:Int)))=true,(decide (j > (0:Int)))=true,(decide (j > (0:Int)))=true,(q.map aA)[(j.toNat*1)]? = some (aA Bo),(decide (j > (0:Int)))=true,0≤j∧j<(q.length:Int),(decide (j > (0:Int)))=true,(decide (j > (0:Int)))=true,(decide (j > (0:Int)))=true,(decide (j > (0:Int)))=true]) (by kernel_rfl) (gc (aS B3) (gc (bU h0) (gc (bU h0) (gc (FV.fc (bOd h6 h7 h8 h9 A5) rfl) (gc (bU h0) (gc (fD (i:=(j-(1:Int)).toNat) h4) (gc (bU h0) (gc (cF (i:=(j-(1:Int))) h5 h4) (gc (bU h0) (gc h3 (gc (bU h0) (gc (bU h0) (gc (bU h0) (gc (fD (i:=j.toNat) h1) (gc (bU h0) (gc (cF (i:=j) h2 h1) (gc (bU h0) (gc (bU h0) (gc (bU h0) (gc (bU h0) gn))))))))))))))))))))
theorem aVy{q d:List Int}{l:Lqq}{i:Nat}{j:Int}(h0:j≤(0:Int)):aC Tp 1 (sub (cd Tryz.f186) bj) (lM q d l i j) (.exit 2) (lM q d l i j):=by
 exact aC.fin (g:=⟨(rng [(4,4),(10,2),(18,35)]),[],[],[]⟩) (o:=[.b false,.b false,.b false,.b false,.b false,.b false,.b false,.b false,.b false,.b false,.b false,.b false,.b false]) (l:=[(decide (j > (0:Int)))=false,(decide (j > (0:Int)))=false,(decide (j > (0:Int)))=false,(decide (j > (0:Int)))=false,(decide (j > (0:Int)))=false,(decide (j > (0:Int)))=false,(decide (j > (0:Int)))=false,(decide (j > (0:Int)))=false,(decide (j > (0:Int)))=false,(decide (j > (0:Int)))=false,(decide (j > (0:Int)))=false,(decide (j > (0:Int)))=false,(decide (j > (0:Int)))=false]) (by kernel_rfl) (gc (aS h0) (gc (aS h0) (gc (aS h0) (gc (aS h0) (gc (aS h0) (gc (aS h0) (gc (aS h0) (gc (aS h0) (gc (aS h0) (gc (aS h0) (gc (aS h0) (gc (aS h0) (gc (aS h0) gn)))))))))))))
end
section

theorem aNt{q d:List Int}{l:Lqq}(h:aDd q d l){j:Nat}(hj:j<d.length):q[j]? = some (j:Int):=by rw [h.q,eX,aGn hj];rfl
theorem aRt{q d:List Int}{l:Lqq}(h:aDd q d l):q.length=d.length:=by rw [h.q];simp
theorem bNv{q d:List Int}{l:Lqq}(h:aDd q d l){i:Nat}(hi:i<d.length):aG Tp 1 (sub (cd Tryz.f186) bj) (lM q d l i (i:Int)) (.exit 2) (lM q d l i (i:Int)):=by
 have hlt:=h.lt
 by_cases h0:i=0
 ·subst h0;exact .exit (aVy (by simp)) (by simp)
 ·have e:(((i:Int)-1)).toNat=i-1:=by omega
  exact .exit (aVx (Bo:=(i:Int)) (F3:=((i-1:Nat):Int)) (by omega) (by rw [aKe];exact aNt h hi) (by omega) (by show _∧_;omega) (by rw [e];exact aNt h (by omega)) (by omega) ⟨by omega,by omega⟩ ⟨by omega,by omega⟩ h.len h.us rfl (by
   have:=h.up i (by omega) hi
   rwa [show ((i-1:Nat):Int)=(i:Int)-1 by omega])) (by simp)
theorem bNw(q:List Int){d:List Int}{l:Lqq}(h:aDd q d l):FMM Tp 186 [.own 0,.p (aA 0),.p (aA (q.length:Int)),(.fn 74 [] [(.rp [(aH d)] 0),(.rp [(PV.sl l.length (l.flatten.map aA))] 0)])] [some (.row 3 q.length (q.map aA))] (.tup []) [some (.row 3 q.length (q.map aA))]:=by
 have hlt:=h.lt;have hl:=aRt h;have key:∀ n i,i+n=max 1 q.length→1≤i→aG Tp 1 (sub (cd Tryz.f186) [1,0,0]) (lL q d l i) (.exit 0) (lL q d l (max 1 q.length)):=by
  intro n
  induction n with
  | zero =>
   intro i hi _;obtain rfl:i=max 1 q.length:=by omega
   exact .exit (aVw (by omega)) (by simp)
  | succ n ih =>
   intro i hi h1;exact .step (aVv (by omega) (bNv h (by omega)) (aN (by omega)) rfl) (ih (i+1) (by omega) (by omega))
 exact bOe (key (max 1 q.length-1) 1 (by omega) (by omega))
def tO(q:List Int)(d:List Int)(l:Lqq)  : St:=⟨fr 63 [(0,(.own 0)),(1,(.p (aA (q.length:Int)))),(2,(.fn 74 [] [(.rp [(aH d)] 0),(.rp [(PV.sl l.length (l.flatten.map aA))] 0)])),(6,(.p (aA 20))),(7,(.p (aA 0))),(8,(.p (aA 20)))],[some (.row 3 q.length (q.map aA))]⟩
def tP(q:List Int)(d:List Int)(l:Lqq)  : St:=⟨fr 63 [(0,(.own 0)),(1,(.p (aA (q.length:Int)))),(2,(.fn 74 [] [(.rp [(aH d)] 0),(.rp [(PV.sl l.length (l.flatten.map aA))] 0)])),(6,(.p (aA 20))),(7,(.p (aA 0))),(8,(.p (aA 20)))],[some (.row 3 q.length (q.map aA))]⟩
theorem bNx{q d:List Int}{l:Lqq}(hl0:aG Tp 1 (sub (cd Tryz.f140) ce) (tO q d l ) (.exit 0) (tO q d l ))(h1:aDd q d l)(Ct:aG Tp 1 (sub (cd Tryz.f140) c9) (tP q d l ) (.exit 2) (tP q d l )):FMM Tp 140 [(.own 0),(.p (aA (q.length:Int))),(.fn 74 [] [(.rp [(aH d)] 0),(.rp [(PV.sl l.length (l.flatten.map aA))] 0)])] [some (.row 3 q.length (q.map aA))] (.tup []) [some (.row 3 q.length (q.map aA))]:=by
 exact FMM.fin (k:=1) (g:=⟨[],[],[],[]⟩) rfl func140 rfl (o:=[.k 6 ⟨(rng [(3,3),(10,13),(27,1),(43,1),(60,1)]),[],[],[]⟩ (.exit 0) (tO q d l ),.c (.tup []) [(0,(.row 3 q.length (q.map aA)))],.k 1 ⟨(rng [(3,3),(10,53)]),[],[],[]⟩ (.exit 2) (tP q d l )]) (l:=[aC Tp 1 (.loop (sub (cd Tryz.f140) c9)) (tP q d l ) (.exit 2) (tP q d l ),FC Tp 186 [(.own 0),(.p (aA 0)),(.p (aA (q.length:Int))),(.fn 74 [] [(.rp [(aH d)] 0),(.rp [(PV.sl l.length (l.flatten.map aA))] 0)])] [(0,(.row 3 q.length (q.map aA)))] 1 (.tup []) [(0,(.row 3 q.length (q.map aA)))],aC Tp 1 (.loop (sub (cd Tryz.f140) ce)) (tO q d l ) (.exit 0) (tO q d l )]) (by kernel_rfl) (gc Ct.code (gc (FMM.fc (ids:=[0]) (bNw q h1) (by kernel_rfl)) (gc hl0.code gn)))
theorem aVp{q d:List Int}{l:Lqq}(h0:(q.length:Int)<(20:Int)):aC Tp 1 (sub (cd Tryz.f140) ce) (tO q d l ) (.exit 0) (tO q d l ):=by
 exact aC.fin (g:=⟨(rng [(3,3),(10,13),(27,1),(43,1),(60,1)]),[],[],[]⟩) (o:=[.b false]) (l:=[(decide ((20:Int)≤(q.length:Int)))=false]) (by kernel_rfl) (gc (kT h0) gn)
theorem aVq{q d:List Int}{l:Lqq}(h0:(q.length:Int)≤(20:Int)):aC Tp 1 (sub (cd Tryz.f140) c9) (tP q d l ) (.exit 2) (tP q d l ):=by
 exact aC.fin (g:=⟨(rng [(3,3),(10,53)]),[],[],[]⟩) (o:=[.b false]) (l:=[(decide ((20:Int)<(q.length:Int)))=false]) (by kernel_rfl) (gc (aS h0) gn)
theorem bNy(q:List Int){d:List Int}{l:Lqq}(h:aDd q d l):FMM Tp 140 [.own 0,.p (aA (q.length:Int)),(.fn 74 [] [(.rp [(aH d)] 0),(.rp [(PV.sl l.length (l.flatten.map aA))] 0)])] [some (.row 3 q.length (q.map aA))] (.tup []) [some (.row 3 q.length (q.map aA))]:=by
 have:=aRt h;have:=h.lt;exact bNx (aG.exit (aVp (by omega)) (by simp)) h (aG.exit (aVq (by omega)) (by simp))
theorem bNz{q d:List Int}{l:Lqq}(h0:aDd q d l):FMM Tp 73 [(.own 0),(.fn 74 [] [(.rp [(aH d)] 0),(.rp [(PV.sl l.length (l.flatten.map aA))] 0)])] [some (.row 3 q.length (q.map aA))] (.tup []) [some (.row 3 q.length (q.map aA))]:=by
 exact FMM.fin (k:=1) (g:=⟨[],[],[],[]⟩) rfl func73 rfl (o:=[.c (.tup []) [(0,(.row 3 q.length (q.map aA)))]]) (l:=[FC Tp 140 [(.own 0),(.p (aA (q.length:Int))),(.fn 74 [] [(.rp [(aH d)] 0),(.rp [(PV.sl l.length (l.flatten.map aA))] 0)])] [(0,(.row 3 q.length (q.map aA)))] 1 (.tup []) [(0,(.row 3 q.length (q.map aA)))]]) (by kernel_rfl) (gc (FMM.fc (ids:=[0]) (bNy q h0) (by kernel_rfl)) gn)
theorem bOa(q:List Int){d:List Int}{l:Lqq}(h:aDd q d l):FMM Tp 73 [.own 0,(.fn 74 [] [(.rp [(aH d)] 0),(.rp [(PV.sl l.length (l.flatten.map aA))] 0)])] [some (.row 3 q.length (q.map aA))] (.tup []) [some (.row 3 q.length (q.map aA))]:=bNz h
def jT(l:Lqq)(un:Int)(li:Int)(pn:Nat)(pc:List PV)(i:Nat):St:=⟨fr 56 [(2,(.ptr 0 0)),(4,(.p dZ)),(5,(.p (aA 0))),(6,(.ptr 1 0)),(8,(.own 2)),(23,(.p (aA (l.length:Int)))),(24,(.p (aA (i:Int))))],[some (.box 61 [(.p (PV.sl l.length (l.flatten.map aA)))]),some (.box 31 [(.p (aH (mR l un li)))]),some (.row 3 pn pc)]⟩
def jU(l:Lqq)(un:Int)(li:Int)(Be:List Int)(on:Nat)(oc:List PV)(i:Nat):St:=⟨fr 56 [(2,(.rp [(PV.sl l.length (l.flatten.map aA))] 0)),(4,(.p dZ)),(5,(.p (aA 0))),(6,(.rp [(aH (mR l un li))] 0)),(10,(.own 1)),(35,(.own 0)),(36,(.p (aA (Be.length:Int)))),(37,(.p (aA (i:Int))))],[some (.row 3 Be.length (Be.map aA)),some (.row 72 on oc)]⟩
theorem bOb{l:Lqq}{un li:Int}{Be:List Int}{Ei:Nat}{Gd:Lqq}{Ir:Nat}(h0:uni 2 l)(h1:l.length≤60)(h2:∀ x∈l,pM x=true)(h3:1≤un∧un≤600)(h4:0≤li∧li≤360000)(h5:(aM l 0).Nodup)(Kc:aG Tp 0 (sub (cd Tryz.f27) bp) (jT l un li 0 [] 0) (.exit 0) (jT l un li Be.length (Be.map aA) Ei))(h7:aDd Be (mR l un li) l)(Nz:aG Tp 0 (sub (cd Tryz.f27) b5) (jU l un li Be 0 [] 0) (.exit 2) (jU l un li Be Gd.length (Gd.flatten.map aA) Ir)){base:Nat}:FV Tp 27 [(.p (PV.sl l.length (l.flatten.map aA))),(.p (.agg [(aA un),(aA li)]))] base (.tup [(.p (.sl Gd.length (Gd.flatten.map aA))),(.p (aA 0))]) []:=FV.frz (FMM.fin (k:=0) (g:=⟨[],[],[1],[]⟩) rfl func27 rfl (o:=[.c (.tup [(.p (aH (mR l un li))),(.p (aA 0))]) [],.b false,.k 6 ⟨(rng [(0,2),(3,1),(7,1),(9,1),(11,1),(13,10),(25,7),(34,1)]),[0,2,3],[],[(8,3)]⟩ (.exit 0) (jT l un li Be.length (Be.map aA) Ei),.g 1 ⟨[],[2],[1,0],[]⟩,.c (.tup []) [(0,(.row 3 Be.length (Be.map aA)))],.k 6 ⟨(rng [(0,2),(3,1),(7,3),(11,24),(38,17)]),[0,1],[],[(10,72)]⟩ (.exit 2) (jU l un li Be Gd.length (Gd.flatten.map aA) Ir)]) (l:=[aC Tp 0 (.loop (sub (cd Tryz.f27) b5)) (jU l un li Be 0 [] 0) (.exit 2) (jU l un li Be Gd.length (Gd.flatten.map aA) Ir),FC Tp 73 [(.own 0),(.fn 74 [] [(.rp [(aH (mR l un li))] 0),(.rp [(PV.sl l.length (l.flatten.map aA))] 0)])] [(0,(.row 3 Be.length (Be.map aA)))] 1 (.tup []) [(0,(.row 3 Be.length (Be.map aA)))],aC Tp 0 (.loop (sub (cd Tryz.f27) bp)) (jT l un li 0 [] 0) (.exit 0) (jT l un li Be.length (Be.map aA) Ei),((0:Int) != (0:Int))=false,FC Tp 72 [(.p (PV.sl l.length (l.flatten.map aA))),(.p (.agg [(aA un),(aA li)]))] [] 2 (.tup [(.p (aH (mR l un li))),(.p (aA 0))]) []]) (by kernel_rfl) (gc Nz.code (gc (FMM.fc (ids:=[0]) (bOa Be h7) (by kernel_rfl)) (gc Kc.code (gc (by first | decide | simp) (gc (FV.fc (bOc l un li h0 h1 h2 h3 h4 h5) rfl) gn)))))) (by kernel_rfl)
theorem aVr{l:Lqq}{un li:Int}{p:List Int}{i:Nat}{p':List Int}{i':Nat}(h0:(i:Int)<(l.length:Int))(h1:[(aA (i:Int))].length=1*1∧p.length+1≤1000000)(h2:inR (((i+1):Nat):Int))(Ke:p'.length=(p.length+1))(Kf:p'.map aA=((p.map aA)++[(aA (i:Int))]))(Ak:i'=(i+1)):aC Tp 0 (sub (cd Tryz.f27) bp) (jT l un li p.length (p.map aA) i) .normal (jT l un li p'.length (p'.map aA) i'):=by
 subst Ak;have raw:aC Tp 0 (sub (cd Tryz.f27) bp) (jT l un li p.length (p.map aA) i) .normal (jT l un li (p.length+1) ((p.map aA)++[(aA (i:Int))]) (i+1)):=aC.fin (g:=⟨(rng [(0,2),(3,1),(7,1),(9,1),(11,1),(13,10),(25,7),(34,1)]),[0,1,4],[],[]⟩) (o:=[.b true]) (l:=[inR (((i+1):Nat):Int),[(aA (i:Int))].length=1*1∧p.length+1≤1000000,(decide ((i:Int)<(l.length:Int)))=true]) (by kernel_rfl) (gc h2 (gc h1 (gc (bU h0) gn)))
 exact raw.cast (by rw [Ke,Kf])
theorem aVs{l:Lqq}{un li:Int}{p:List Int}{i:Nat}(h0:(l.length:Int)≤(i:Int)):aC Tp 0 (sub (cd Tryz.f27) bp) (jT l un li p.length (p.map aA) i) (.exit 0) (jT l un li p.length (p.map aA) i):=by
 exact aC.fin (g:=⟨(rng [(0,2),(3,1),(7,1),(9,1),(11,1),(13,10),(25,7),(34,1)]),[0,1,2],[],[]⟩) (o:=[.b false]) (l:=[(decide ((i:Int)<(l.length:Int)))=false]) (by kernel_rfl) (gc (aS h0) gn)
theorem aVt{l:Lqq}{un li:Int}{Be:List Int}{o:Lqq}{i:Nat}{Bo Aj A6 F4:Int}{o':Lqq}{i':Nat}(h0:(i:Int)<(Be.length:Int))(h1:Be[i]? = some Bo)(h2:l[Bo.toNat]? = some [Aj,A6])(h3:0≤Bo)(h4:uni 2 l)(h5:(mR l un li)[Bo.toNat]? = some F4)(h6:[(aA Aj),(aA F4),(aA 0)].length=1*3∧o.length+1≤1000000)(h7:inR (((i+1):Nat):Int))(Cw:o'.length=(o.length+1))(Cy:o'.flatten.map aA=((o.flatten.map aA)++[(aA Aj),(aA F4),(aA 0)]))(Ak:i'=(i+1)):aC Tp 0 (sub (cd Tryz.f27) b5) (jU l un li Be o.length (o.flatten.map aA) i) .normal (jU l un li Be o'.length (o'.flatten.map aA) i'):=by
 subst Ak;have raw:aC Tp 0 (sub (cd Tryz.f27) b5) (jU l un li Be o.length (o.flatten.map aA) i) .normal (jU l un li Be (o.length+1) ((o.flatten.map aA)++[(aA Aj),(aA F4),(aA 0)]) (i+1)):=aC.fin (g:=⟨(rng [(0,2),(3,1),(7,3),(11,24),(38,17)]),[0,3],[],[]⟩) (o:=[.b true,.x (aA Bo),.x (PV.sl l.length (l.flatten.map aA)),.x (aA Aj),.x (aH (mR l un li)),.x (aA F4)]) (l:=[inR (((i+1):Nat):Int),[(aA Aj),(aA F4),(aA 0)].length=1*3∧o.length+1≤1000000,[(aA Aj),(aA F4),(aA 0)].length=3,((mR l un li).map aA)[(Bo.toNat*1)]? = some (aA F4),0≤Bo∧Bo<((mR l un li).length:Int)∧(Bo.toNat*1)<((mR l un li).map aA).length,[(aH (mR l un li))][0]? = some (aH (mR l un li)),(l.flatten.map aA)[(Bo.toNat*2)]? = some (aA Aj),0≤Bo∧Bo<(l.length:Int)∧(Bo.toNat*2)<(l.flatten.map aA).length,[(PV.sl l.length (l.flatten.map aA))][0]? = some (PV.sl l.length (l.flatten.map aA)),(Be.map aA)[(i*1)]? = some (aA Bo),0≤(i:Int)∧(i:Int)<(Be.length:Int),(decide ((i:Int)<(Be.length:Int)))=true]) (by kernel_rfl) (gc h7 (gc h6 (gc (by first | decide | simp) (gc (fD (i:=Bo.toNat) h5) (gc (iF (i:=Bo) h3 h5) (gc rfl (gc (cZ (i:=Bo.toNat) (f:=0) h4 h2 rfl) (gc (jJ (k:=2) (i:=Bo) (by decide) h4 h3 h2) (gc rfl (gc (fD (i:=i) h1) (gc (cF (i:=(i:Int)) (B4 _) h1) (gc (bU h0) gn))))))))))))
 exact raw.cast (by rw [Cw,Cy])
theorem aVu{l:Lqq}{un li:Int}{Be:List Int}{o:Lqq}{i:Nat}(h0:(Be.length:Int)≤(i:Int)):aC Tp 0 (sub (cd Tryz.f27) b5) (jU l un li Be o.length (o.flatten.map aA) i) (.exit 2) (jU l un li Be o.length (o.flatten.map aA) i):=by
 exact aC.fin (g:=⟨(rng [(0,2),(3,1),(7,3),(11,24),(38,17)]),[0,1],[],[]⟩) (o:=[.b false]) (l:=[(decide ((i:Int)<(Be.length:Int)))=false]) (by kernel_rfl) (gc (aS h0) gn)
end
section

end
section
variable {I3 I4:Bool}{c0 c1 c2 c3 c4 c5 d0 d1 d2 d3 d4 d5 ma mb mx na nb nd nu r0 r7 ta tb tt Lh Ek I5 Bu Bv Cb Gp B6 E2 E3 Az De B5 B7 Gr G6 I6 Dd Df Dh Gq Dl Gs Dy Kt c0'212 c0'215 c1'213 c1'216 c2'214 c2'217 c3'215 c3'218 c4'216 c4'219 c5'217 c5'220 d0'221 d0'224 d1'222 d1'225 d2'223 d2'226 d3'224 d3'227 d4'225 d4'228 d5'226 d5'229 E4 E5 E6 E7 E8 E9 Fa Fb Fc Fe Ff Fg:Int}{dc sk Du Jp Ai:Lqq}{l:List Int}{i j i' j':Nat}

noncomputable abbrev oU:Code:=sub (cd Tryz.f7) [1,1,1,1,0,1,0,0,1,1,0,0,1,1,1,1,0]
noncomputable abbrev wT:Code:=sub (cd Tryz.f7) [1,1,1,1,0,1,0,0]
noncomputable abbrev wU:Code:=sub (cd Tryz.f7) [1,1,1,1,0,1,0,0,1,1,0,0,1,1,1,0]
noncomputable abbrev aHh:Code:=sub (cd Tryz.f7) [1,1,0,1,0,0]
def kR(nd:Int)(l:List Int)(r0:Int)(i:Nat)(skn:Nat)(skc:List PV)(mx:Int)(tt:Int):St:=⟨fr 121 [(0,(.ptr 0 0)),(2,(pI nd)),(6,(.ptr 1 0)),(7,(.ptr 2 0)),(15,(pI r0)),(16,(pI (i:Int)))],[some (.box 96 [(.p (.sl l.length (l.map cG))),(pI mx),(.p (.v (.int .u32 tt)))]),some (.box 26 [(pI 0),(.p dZ),(.p dZ)]),some (.box 26 [(pI 30),(.own 3),(.p dZ)]),some (.row 80 skn skc)]⟩
def fE(l:List Int)(Ai:Lqq)(r7:Int)(j:Nat)(dcn:Nat)(dcc:List PV)(nu:Int)(mx:Int)(tt:Int):St:=⟨fr 121 [(0,(.ptr 0 0)),(6,(.ptr 1 0)),(7,(.ptr 2 0)),(10,(pI nu)),(40,(pI r7)),(41,(pI (j:Int)))],[some (.box 96 [(.p (.sl l.length (l.map cG))),(pI mx),(.p (.v (.int .u32 tt)))]),some (.box 26 [(pI 0),(.p dZ),(.p dZ)]),some (.box 26 [(pI 30),(.own 3),(.own 4)]),some (.row 80 Ai.length (Ai.flatten.map aA)),some (.row 84 dcn dcc)]⟩
theorem bRh{ns:Int}{nx st m1 t2:Int}{Ir:Nat}{Hz Ku m8 t9:Int}{P2:Nat}{H0:Lqq}{Mv Jq Jr:Int}(h0:0≤nx∧nx≤1000000000)(h1:(-1000000≤1∧(1:Int)≤1000000) ∧ -1000000≤ns∧ns≤1000000)(h2:mV 1 ns l nx st=(r0,m1,t2))(Cd:aG Tp 1 aHh (kR nd l r0 0 0 [] m1 t2) (.exit 0) (kR nd l r0 Ir Ai.length (Ai.flatten.map aA) Hz Ku))(h4:inR (nd+1))(h5:0≤Hz∧Hz≤1000000000)(h6:bW (nd+1) l Hz Ku=(r7,m8,t9))(It:aG Tp 1 wT (fE l Ai r7 0 0 [] 0 m8 t9) (.exit 2) (fE l Ai r7 P2 H0.length (H0.flatten.map aA) Mv Jq Jr)):FMM Tp 7 [(.ptr 0 0),(pI ns),(pI nd)] [some (.box 96 [(.p (.sl l.length (l.map cG))),(pI nx),(.p (.v (.int .u32 st)))])] (.p (.agg (dQ 30 Ai H0))) [some (.box 96 [(.p (.sl l.length (l.map cG))),(pI Jq),(.p (.v (.int .u32 Jr)))])]:=have k1:=mq [0] 3 (tW 1 ns l nx st h0 h1 h2);have k2:=mq [0] 4 (dL (nd+1) l Hz Ku h5 h6);FMM.fi 1 ⟨[],[],[3,4],[]⟩ func7 [k1.o,Cd.k 1 (gN ay [1,2,3] [(102001,80)]),k2.o,It.k 1 (gN bb [1,2,3,4] [(102002,84)])] (gc It.code (gc k2 (gc h4 (gc Cd.code (gc k1 gn)))))
section
variable(h0:(i:Int)<r0)(h1:inR ((3:Int)*(i:Int)))(h2:inR (((3:Int)*(i:Int))+1))(h3:0≤mx∧mx≤1000000000)(h4:bW 20 l mx tt=(E3,Ek,G6))(h5:inR ((50:Int)*E3))(h6:inR ((15000:Int)+((50:Int)*E3)))(h7:0≤Ek∧Ek≤1000000000)(h8:pG 12 l Ek G6=(I3,I5,I6))
include h0 h1 h2 h3 h4 h5 h6 h7 h8
theorem aXn(h9:I3=true)(A5:[(aA (((3:Int)*(i:Int))+1)),(aA (-1))].length=1*2∧sk.length+1≤1000000)(B3:co i)(Ak:i'=(i+1))(H1:Jp.length=(sk.length+1))(H2:Jp.flatten.map aA=((sk.flatten.map aA)++[(aA (((3:Int)*(i:Int))+1)),(aA (-1))])):aC Tp 1 aHh (kR nd l r0 i sk.length (sk.flatten.map aA) mx tt) .normal (kR nd l r0 i' Jp.length (Jp.flatten.map aA) I5 I6):=by
 subst Ak;have k1:=mq [0] 4 (dL 20 l mx tt h3 h4);have k2:=mq [0] 5 (zE 12 l Ek G6 h7 h8);rw [H1,H2];exact aC.fi (gI ay [1,2,6]) [bT,k1.o,k2.o,bT] (gc B3 (gc A5 (gt ([(aA (((3:Int)*(i:Int))+1)),(aA (-1))].length=2) (by first | decide | simp) (gc h9 (gc k2 (gc h6 (gc h5 (gc k1 (gc h2 (gc h1 (g0 h0)))))))))))
theorem aXo(h9:I3=false)(A5:[(aA (((3:Int)*(i:Int))+1)),(aA ((15000:Int)+((50:Int)*E3)))].length=1*2∧sk.length+1≤1000000)(B3:co i)(Ak:i'=(i+1))(H1:Jp.length=(sk.length+1))(H2:Jp.flatten.map aA=((sk.flatten.map aA)++[(aA (((3:Int)*(i:Int))+1)),(aA ((15000:Int)+((50:Int)*E3)))])):aC Tp 1 aHh (kR nd l r0 i sk.length (sk.flatten.map aA) mx tt) .normal (kR nd l r0 i' Jp.length (Jp.flatten.map aA) I5 I6):=by
 subst Ak;have k1:=mq [0] 4 (dL 20 l mx tt h3 h4);have k2:=mq [0] 5 (zE 12 l Ek G6 h7 h8);rw [H1,H2];exact aC.fi (gI ay [1,2,6]) [bT,k1.o,k2.o,bF] (gc B3 (gc A5 (gt ([(aA (((3:Int)*(i:Int))+1)),(aA ((15000:Int)+((50:Int)*E3)))].length=2) (by first | decide | simp) (gc h9 (gc k2 (gc h6 (gc h5 (gc k1 (gc h2 (gc h1 (g0 h0)))))))))))
end
theorem aXp(h0:r0≤(i:Int)):aC Tp 1 aHh (kR nd l r0 i sk.length (sk.flatten.map aA) mx tt) (.exit 0) (kR nd l r0 i sk.length (sk.flatten.map aA) mx tt):=aC.fi (gI ay [1,2,3]) [bF] (gc (aS h0) gn)
def gP(l:List Int)(Ai:Lqq)(r7:Int)(j:Nat)(dc:Lqq)(na:Int)(ma:Int)(ta:Int)(c0:Int)(c1:Int)(c2:Int)(c3:Int)(c4:Int)(c5:Int):St:=⟨fr 121 [(0,(.ptr 0 0)),(6,(.ptr 1 0)),(7,(.ptr 2 0)),(10,(pI na)),(11,(.ptr 5 0)),(40,(pI r7)),(41,(pI (j:Int))),(42,(pB (decide ((j:Int)<r7))))],[some (.box 96 [(.p (.sl l.length (l.map cG))),(pI ma),(.p (.v (.int .u32 ta)))]),some (.box 26 [(pI 0),(.p dZ),(.p dZ)]),some (.box 26 [(pI 30),(.own 3),(.own 4)]),some (.row 80 Ai.length (Ai.flatten.map aA)),some (.row 84 dc.length (dc.flatten.map aA)),some (.box 84 [(pI c0),(pI c1),(pI c2),(pI c3),(pI c4),(pI c5)])]⟩
def eE(l:List Int)(Ai:Lqq)(r7:Int)(j:Nat)(dc:Lqq)(nb:Int)(mb:Int)(tb:Int)(d0:Int)(d1:Int)(d2:Int)(d3:Int)(d4:Int)(d5:Int):St:=⟨fr 121 [(0,(.ptr 0 0)),(6,(.ptr 1 0)),(7,(.ptr 2 0)),(10,(pI nb)),(11,(.ptr 5 0)),(40,(pI r7)),(41,(pI (j:Int))),(42,(pB (decide ((j:Int)<r7))))],[some (.box 96 [(.p (.sl l.length (l.map cG))),(pI mb),(.p (.v (.int .u32 tb)))]),some (.box 26 [(pI 0),(.p dZ),(.p dZ)]),some (.box 26 [(pI 30),(.own 3),(.own 4)]),some (.row 80 Ai.length (Ai.flatten.map aA)),some (.row 84 dc.length (dc.flatten.map aA)),some (.box 84 [(pI d0),(pI d1),(pI d2),(pI d3),(pI d4),(pI d5)])]⟩
section
variable(h0:(j:Int)<r7)(h1:0≤mx∧mx≤1000000000)(h2:(-1000000≤1∧(1:Int)≤1000000) ∧ -1000000≤2∧(2:Int)≤1000000)(h3:mV 1 2 l mx tt=(Az,Bu,Dd))(h4:inR (nu+Az))(h5:0≤Bu∧Bu≤1000000000)(h6:bW 10 l Bu Dd=(De,Bv,Df))(h7:0≤Bv∧Bv≤1000000000)(h8:bW 36 l Bv Df=(B5,Cb,Dh))
include h0 h1 h2 h3 h4 h5 h6 h7 h8
theorem aXq(h9:(1:Int)<(nu+Az))(A5:De<5)(B3:0≤Cb∧Cb≤1000000000)(Co:pG 3 l Cb Dh=(I4,Gp,Gq))(Dn:I4=true)(H3:aC Tp 1 wU (gP l Ai r7 j dc (nu+Az) Gp Gq (nu+Az) 7 B5 0 0 0) .normal (gP l Ai r7 j dc E9 E5 Fe c0'215 c1'216 c2'217 c3'218 c4'219 c5'220))(H4:aC Tp 1 oU (eE l Ai r7 j dc E9 E5 Fe c0'215 c1'216 c2'217 c3'218 c4'219 c5'220) .normal (eE l Ai r7 j dc Fb E7 Fg d0'224 d1'225 d2'226 d3'227 d4'228 d5'229))(Gc:[(aA d0'224),(aA d1'225),(aA d2'226),(aA d3'227),(aA d4'228),(aA d5'229)].length=1*6∧dc.length+1≤1000000)(Iu:co j)(D7:j'=(j+1))(D9:Du.length=(dc.length+1))(Ea:Du.flatten.map aA=((dc.flatten.map aA)++[(aA d0'224),(aA d1'225),(aA d2'226),(aA d3'227),(aA d4'228),(aA d5'229)])):aC Tp 1 wT (fE l Ai r7 j dc.length (dc.flatten.map aA) nu mx tt) .normal (fE l Ai r7 j' Du.length (Du.flatten.map aA) Fb E7 Fg):=by
 subst D7;have k1:=mq [0] 5 (tW 1 2 l mx tt h1 h2 h3);have k2:=mq [0] 5 (dL 10 l Bu Dd h5 h6);have k3:=mq [0] 5 (dL 36 l Bv Df h7 h8);have k4:=mq [0] 6 (zE 3 l Cb Dh B3 Co);rw [D9,Ea];exact aC.fi (gI bb [1,2,3,7]) ([bT,k1.o,k2.o,k3.o]++rT 6++[k4.o,bT,bT,H3.k 2 (gI bc cg),H4.k 1 (gI bc cg)]) (gc Iu (gc Gc (gt ([(aA d0'224),(aA d1'225),(aA d2'226),(aA d3'227),(aA d4'228),(aA d5'229)].length=6) (by first | decide | simp) (gc H4 (gc H3 (gc Dn (gc (bU A5) (gc k4 (Bn (bU A5) (Ba (bU h9) (gc k3 (gc k2 (gc h4 (gc k1 (g0 h0)))))))))))))))
theorem aXr(h9:(1:Int)<(nu+Az))(A5:De<5)(B3:0≤Cb∧Cb≤1000000000)(Co:pG 3 l Cb Dh=(I4,Gp,Gq))(Dn:I4=false)(H3:aC Tp 1 wU (gP l Ai r7 j dc (nu+Az) Gp Gq (nu+Az) De B5 0 0 0) .normal (gP l Ai r7 j dc E9 E5 Fe c0'215 c1'216 c2'217 c3'218 c4'219 c5'220))(H4:aC Tp 1 oU (eE l Ai r7 j dc E9 E5 Fe c0'215 c1'216 c2'217 c3'218 c4'219 c5'220) .normal (eE l Ai r7 j dc Fb E7 Fg d0'224 d1'225 d2'226 d3'227 d4'228 d5'229))(Gc:[(aA d0'224),(aA d1'225),(aA d2'226),(aA d3'227),(aA d4'228),(aA d5'229)].length=1*6∧dc.length+1≤1000000)(Iu:co j)(D7:j'=(j+1))(D9:Du.length=(dc.length+1))(Ea:Du.flatten.map aA=((dc.flatten.map aA)++[(aA d0'224),(aA d1'225),(aA d2'226),(aA d3'227),(aA d4'228),(aA d5'229)])):aC Tp 1 wT (fE l Ai r7 j dc.length (dc.flatten.map aA) nu mx tt) .normal (fE l Ai r7 j' Du.length (Du.flatten.map aA) Fb E7 Fg):=by
 subst D7;have k1:=mq [0] 5 (tW 1 2 l mx tt h1 h2 h3);have k2:=mq [0] 5 (dL 10 l Bu Dd h5 h6);have k3:=mq [0] 5 (dL 36 l Bv Df h7 h8);have k4:=mq [0] 6 (zE 3 l Cb Dh B3 Co);rw [D9,Ea];exact aC.fi (gI bb [1,2,3,7]) ([bT,k1.o,k2.o,k3.o]++rT 6++[k4.o,bT,bF,H3.k 1 (gI bc cg),H4.k 1 (gI bc cg)]) (gc Iu (gc Gc (gt ([(aA d0'224),(aA d1'225),(aA d2'226),(aA d3'227),(aA d4'228),(aA d5'229)].length=6) (by first | decide | simp) (gc H4 (gc H3 (gc Dn (gc (bU A5) (gc k4 (Bn (bU A5) (Ba (bU h9) (gc k3 (gc k2 (gc h4 (gc k1 (g0 h0)))))))))))))))
theorem aXs(h9:(1:Int)<(nu+Az))(A5:(5:Int)≤De)(H5:aC Tp 1 wU (gP l Ai r7 j dc (nu+Az) Cb Dh (nu+Az) De B5 0 0 0) .normal (gP l Ai r7 j dc E8 E4 Fc c0'212 c1'213 c2'214 c3'215 c4'216 c5'217))(F8:aC Tp 1 oU (eE l Ai r7 j dc E8 E4 Fc c0'212 c1'213 c2'214 c3'215 c4'216 c5'217) .normal (eE l Ai r7 j dc Fa E6 Ff d0'221 d1'222 d2'223 d3'224 d4'225 d5'226))(Dn:[(aA d0'221),(aA d1'222),(aA d2'223),(aA d3'224),(aA d4'225),(aA d5'226)].length=1*6∧dc.length+1≤1000000)(Ef:co j)(D7:j'=(j+1))(D9:Du.length=(dc.length+1))(Ea:Du.flatten.map aA=((dc.flatten.map aA)++[(aA d0'221),(aA d1'222),(aA d2'223),(aA d3'224),(aA d4'225),(aA d5'226)])):aC Tp 1 wT (fE l Ai r7 j dc.length (dc.flatten.map aA) nu mx tt) .normal (fE l Ai r7 j' Du.length (Du.flatten.map aA) Fa E6 Ff):=by
 subst D7;have k1:=mq [0] 5 (tW 1 2 l mx tt h1 h2 h3);have k2:=mq [0] 5 (dL 10 l Bu Dd h5 h6);have k3:=mq [0] 5 (dL 36 l Bv Df h7 h8);rw [D9,Ea];exact aC.fi (gI bb [1,2,3,7]) [bT,k1.o,k2.o,k3.o,bT,bT,bT,bT,bF,bF,bF,H5.k 2 (gI bc cg),F8.k 1 (gI bc cg)] (gc Ef (gc Dn (gt ([(aA d0'221),(aA d1'222),(aA d2'223),(aA d3'224),(aA d4'225),(aA d5'226)].length=6) (by first | decide | simp) (gc F8 (gc H5 (Aw (aS A5) (Ba (bU h9) (gc k3 (gc k2 (gc h4 (gc k1 (g0 h0))))))))))))
theorem aXt(h9:(nu+Az)≤1)(Mw:aC Tp 1 wU (gP l Ai r7 j dc (nu+Az) Cb Dh (nu+Az) De B5 0 0 0) .normal (gP l Ai r7 j dc E8 E4 Fc c0'212 c1'213 c2'214 c3'215 c4'216 c5'217))(H5:aC Tp 1 oU (eE l Ai r7 j dc E8 E4 Fc c0'212 c1'213 c2'214 c3'215 c4'216 c5'217) .normal (eE l Ai r7 j dc Fa E6 Ff d0'221 d1'222 d2'223 d3'224 d4'225 d5'226))(Co:[(aA d0'221),(aA d1'222),(aA d2'223),(aA d3'224),(aA d4'225),(aA d5'226)].length=1*6∧dc.length+1≤1000000)(Dn:co j)(D7:j'=(j+1))(D9:Du.length=(dc.length+1))(Ea:Du.flatten.map aA=((dc.flatten.map aA)++[(aA d0'221),(aA d1'222),(aA d2'223),(aA d3'224),(aA d4'225),(aA d5'226)])):aC Tp 1 wT (fE l Ai r7 j dc.length (dc.flatten.map aA) nu mx tt) .normal (fE l Ai r7 j' Du.length (Du.flatten.map aA) Fa E6 Ff):=by
 subst D7;have k1:=mq [0] 5 (tW 1 2 l mx tt h1 h2 h3);have k2:=mq [0] 5 (dL 10 l Bu Dd h5 h6);have k3:=mq [0] 5 (dL 36 l Bv Df h7 h8);rw [D9,Ea];exact aC.fi (gI bb [1,2,3,7]) [bT,k1.o,k2.o,k3.o,bF,bF,bF,bF,Mw.k 2 (gI bc cg),H5.k 1 (gI bc cg)] (gc Dn (gc Co (gt ([(aA d0'221),(aA d1'222),(aA d2'223),(aA d3'224),(aA d4'225),(aA d5'226)].length=6) (by first | decide | simp) (gc H5 (gc Mw (Ba (aS h9) (gc k3 (gc k2 (gc h4 (gc k1 (g0 h0)))))))))))
end
theorem aXu(h0:r7≤(j:Int)):aC Tp 1 wT (fE l Ai r7 j dc.length (dc.flatten.map aA) nu mx tt) (.exit 2) (fE l Ai r7 j dc.length (dc.flatten.map aA) nu mx tt):=aC.fi (gI bb [1,2,3,4]) [bF] (gc (aS h0) gn)
theorem aXv{Mx My Mz:Int}(h0:na=1)(h1:0≤ma∧ma≤1000000000)(h2:bW 5 l ma ta=(Mx,My,Mz)):aC Tp 1 wU (gP l Ai r7 j dc na ma ta c0 c1 c2 c3 c4 c5) .normal (gP l Ai r7 j dc na My Mz c0 Mx c2 c3 c4 c5):=have k1:=mq [0] 6 (dL 5 l ma ta h1 h2);aC.fi (gI bc cg) [bT,k1.o] (gc k1 (gc (eJ h0) gn))
theorem aXw(h0:na≠1):aC Tp 1 wU (gP l Ai r7 j dc na ma ta c0 c1 c2 c3 c4 c5) .normal (gP l Ai r7 j dc na ma ta c0 c1 c2 c3 c4 c5):=aC.fi (gI bc cg) [bF] (gc (bI h0) gn)
section
variable(h0:d1≤4)(h1:0≤mb∧mb≤1000000000)(h2:bW (Ai.length:Int) l mb tb=(B7,B6,Dl))(h3:Ai[B7.toNat]? = some [Dy,Kt])(h4:0≤B7)(h5:uni 2 Ai)(h6:0≤B6∧B6≤1000000000)(h7:bW 8 l B6 Dl=(Gr,E2,Gs))(h8:inR ((50:Int)*Gr))
include h0 h1 h2 h3 h4 h5 h6 h7 h8
theorem aXx{M3 M4 M5:Int}(h9:d1=2)(A5:0≤E2∧E2≤1000000000)(B3:bW 3 l E2 Gs=(M3,M4,M5))(Co:d1≠3):aC Tp 1 oU (eE l Ai r7 j dc nb mb tb d0 d1 d2 d3 d4 d5) .normal (eE l Ai r7 j dc nb M4 M5 d0 d1 d2 Dy M3 d5):=have k1:=mq [0] 7 (dL (Ai.length:Int) l mb tb h1 h2);have k2:=mq [0] 6 (dL 8 l B6 Dl h6 h7);have k3:=mq [0] 6 (dL 3 l E2 Gs A5 B3);aC.fi (gI bc cg) [bT,k1.o,.x (aA Dy),k2.o,bT,k3.o,bF] (gc (bI Co) (gc k3 (gc (eJ h9) (gc h8 (gc k2 (gt ((Ai.flatten.map aA)[(B7.toNat*2)]? = some (aA Dy)) (cZ (i:=B7.toNat) (f:=0) h5 h3 rfl) (gc (cF (i:=B7) h4 h3) (gc k1 (gc (yN h0) gn)))))))))
theorem aXy(h9:d1≠2)(A5:d1=3)(H6:Lh=(0:Int)):aC Tp 1 oU (eE l Ai r7 j dc nb mb tb d0 d1 d2 d3 d4 d5) .normal (eE l Ai r7 j dc nb E2 Gs d0 d1 d2 Dy Lh d5):=by
 subst H6;have k1:=mq [0] 7 (dL (Ai.length:Int) l mb tb h1 h2);have k2:=mq [0] 6 (dL 8 l B6 Dl h6 h7);exact aC.fi (gI bc cg) [bT,k1.o,.x (aA Dy),k2.o,bF,bT] (gc (eJ A5) (gc (bI h9) (gc h8 (gc k2 (gt ((Ai.flatten.map aA)[(B7.toNat*2)]? = some (aA Dy)) (cZ (i:=B7.toNat) (f:=0) h5 h3 rfl) (gc (cF (i:=B7) h4 h3) (gc k1 (gc (yN h0) gn))))))))
theorem aXz(h9:d1≠2)(A5:d1≠3)(H6:Lh=((50:Int)*Gr)):aC Tp 1 oU (eE l Ai r7 j dc nb mb tb d0 d1 d2 d3 d4 d5) .normal (eE l Ai r7 j dc nb E2 Gs d0 d1 d2 Dy Lh d5):=by
 subst H6;have k1:=mq [0] 7 (dL (Ai.length:Int) l mb tb h1 h2);have k2:=mq [0] 6 (dL 8 l B6 Dl h6 h7);exact aC.fi (gI bc cg) [bT,k1.o,.x (aA Dy),k2.o,bF,bF] (gc (bI A5) (gc (bI h9) (gc h8 (gc k2 (gt ((Ai.flatten.map aA)[(B7.toNat*2)]? = some (aA Dy)) (cZ (i:=B7.toNat) (f:=0) h5 h3 rfl) (gc (cF (i:=B7) h4 h3) (gc k1 (gc (yN h0) gn))))))))
end
section
variable(h0:(4:Int)<d1)(h1:inR (nb-6))(h2:inR (nb-1))(h3:0≤mb∧mb≤1000000000)(h4:(-1000000≤(if (nb-6) > 1 then (nb-6) else 1)∧(if (nb-6) > 1 then (nb-6) else 1)≤1000000) ∧ -1000000≤(nb-1)∧(nb-1)≤1000000)(h5:mV (if (nb-6) > 1 then (nb-6) else 1) (nb-1) l mb tb=(B7,B6,Dl))
include h0 h1 h2 h3 h4 h5
theorem aYa{Kv M6 M7:Int}(h6:d1=6)(h7:0≤B6∧B6≤1000000000)(h8:bW 8 l B6 Dl=(Kv,M6,M7))(h9:inR ((50:Int)*Kv))(H6:Lh=((50:Int)*Kv)):aC Tp 1 oU (eE l Ai r7 j dc nb mb tb d0 d1 d2 d3 d4 d5) .normal (eE l Ai r7 j dc nb M6 M7 d0 d1 d2 d3 Lh B7):=by
 subst H6;have k1:=mq [0] 6 (tW (if (nb-6) > 1 then (nb-6) else 1) (nb-1) l mb tb h3 h4 h5);have k2:=mq [0] 6 (dL 8 l B6 Dl h7 h8);exact aC.fi (gI bc cg) [bF,k1.o,bT,k2.o] (gc h9 (gc k2 (gc (eJ h6) (gc k1 (gc h2 (gc h1 (gc (kT h0) gn)))))))
theorem aYb(h6:d1≠6):aC Tp 1 oU (eE l Ai r7 j dc nb mb tb d0 d1 d2 d3 d4 d5) .normal (eE l Ai r7 j dc nb B6 Dl d0 d1 d2 d3 d4 B7):=have k1:=mq [0] 6 (tW (if (nb-6) > 1 then (nb-6) else 1) (nb-1) l mb tb h3 h4 h5);aC.fi (gI bc cg) [bF,k1.o,bF] (gc (bI h6) (gc k1 (gc h2 (gc h1 (gc (kT h0) gn)))))
end
end
section
theorem bKi{sk:Lqq}{i:Nat}{a b:Int}(h:sk[i]? = some [a,b]):a∈aM sk 0:=by
 unfold aM;exact dS.2 ⟨_,Bi h,rfl⟩
theorem aBz{sk:Lqq}{a k mi b mu ab:Int}(ha:1≤a∧a≤9999)(hk:0≤k∧k≤9)(hmi:0≤mi∧mi≤10000)(hmu:0≤mu∧mu≤36000)(hz:mu=0∨(k≠3∧k≠5∧k≤6))(hp:k≤4→b∈aM sk 0∧ab=0)(hq:4<k→b=0∧1≤ab∧ab≤a-1) :
  dcB [a,k,mi,b,mu,ab]=true∧inB sk [a,k,mi,b,mu,ab]=true∧orB [a,k,mi,b,mu,ab]=true:=by
 have hm:mu≤lP k:=by
  unfold lP
  repeat' split
  all_goals first | omega | (simp_all;omega)
 refine ⟨jB.2 ⟨ha,hk,hmi,hmu.1,hm⟩,?_,?_⟩
 ·show (if k≤4 then (aM sk 0).contains b else b == 0)=true
  by_cases h:k≤4
  ·rw [if_pos h];simpa using (hp h).1
  ·rw [if_neg h];simpa using (hq (by omega)).1
 ·show (if k≤4 then ab == 0 else within ab 1 (a-1))=true
  by_cases h:k≤4
  ·rw [if_pos h];simpa using (hp h).2
  ·rw [if_neg h];exact bB.2 (hq (by omega)).2
structure aPf (sk:Lqq) (dc:Lqq) (nu mx:Int) (j:Nat):Prop where
 ud:uni 6 dc
 len:dc.length=j
 num:0≤nu∧nu≤2*(j:Int)
 deck:0≤mx∧mx≤1000+20*(j:Int)
 mem:∀ x∈dc,(dcB x=true∧inB sk x=true∧orB x=true)∧x.getD 0 0≤nu
 up:dc.Pairwise fun a b=>a.getD 0 0<b.getD 0 0
theorem aPf.snoc{sk dc:Lqq}{nu mx:Int}{j:Nat}(h:aPf sk dc nu mx j){a k mi b mu ab E1:Int}(hr:dcB [a,k,mi,b,mu,ab]=true∧inB sk [a,k,mi,b,mu,ab]=true∧orB [a,k,mi,b,mu,ab]=true)(ha:nu<a∧a≤nu+2)(hm:mx≤E1∧E1≤mx+20):aPf sk (dc++[[a,k,mi,b,mu,ab]]) a E1 (j+1):=by
 obtain ⟨h1,h2,h3,h4,h5,h6⟩:=h;refine ⟨aKv h1 rfl,by simp [h2],by omega,by omega,fun x hx => ?_,?_⟩
 ·rcases iE.1 hx with hx | hx
  ·exact ⟨(h5 x hx).1,by have:=(h5 x hx).2;omega⟩
  ·rw [List.mem_singleton.1 hx]
   exact ⟨hr,aNr _⟩
 ·rw [List.pairwise_append]
  refine ⟨h6,List.pairwise_singleton _ _,fun x hx y hy => ?_⟩
  rw [List.mem_singleton.1 hy];have:=(h5 x hx).2;show x.getD 0 0<a;omega
theorem bRf{l:List Int}{Ai dc:Lqq}{r7 na ma ta c0 c1 c2 c3 c4 c5:Int}{j:Nat}(hm:0≤ma∧ma≤1000000000)(hc:0≤c1∧c1≤9) :
  ∃ m t k,(ma≤m∧m≤ma+1)∧(0≤k∧k≤9)∧(na=1→k≤4)∧aC Tp 1 (sub (cd Tryz.f7) am) (gP l Ai r7 j dc na ma ta c0 c1 c2 c3 c4 c5) .normal (gP l Ai r7 j dc na m t c0 k c2 c3 c4 c5):=by
 by_cases h:na=1
 ·obtain ⟨r,m,t,e⟩:∃ r m t,bW (5:Int) l ma ta=(r,m,t):=⟨_,_,_,rfl⟩
  have b:=fO (5:Int) l ma ta;rw [e] at b
  dsimp only at b
  exact ⟨m,t,r,by omega,by omega,fun _=>by omega,aXv h hm e⟩
 ·exact ⟨ma,ta,c1,by omega,hc,fun q=>absurd q h,aXw h⟩
theorem bRg{l:List Int}{Ai dc:Lqq}{r7 nb mb tb d1 d2:Int}{j:Nat}(hm:0≤mb∧mb≤100000000)(hn:1≤nb∧nb≤1000)(hk:0≤d1∧d1≤9)(J5:nb=1→d1≤4)(h2:0≤d2∧d2≤10000)(Hy:uni 2 Ai)(hs:1≤Ai.length∧Ai.length≤100) :
  ∃ m t b mu ab,(mb≤m∧m≤mb+3)∧(dcB [nb,d1,d2,b,mu,ab]=true∧inB Ai [nb,d1,d2,b,mu,ab]=true∧orB [nb,d1,d2,b,mu,ab]=true) ∧
   aC Tp 1 (sub (cd Tryz.f7) ak) (eE l Ai r7 j dc nb mb tb nb d1 d2 0 0 0) .normal (eE l Ai r7 j dc nb m t nb d1 d2 b mu ab):=by
 by_cases h4:d1≤4
 ·obtain ⟨r,m1,t1,e1⟩:∃ r m t,bW (Ai.length:Int) l mb tb=(r,m,t):=⟨_,_,_,rfl⟩
  have b1:=fO (Ai.length:Int) l mb tb;rw [e1] at b1
  dsimp only at b1
  have hr:0≤r∧r.toNat<Ai.length:=by omega
  obtain ⟨a,t',ha⟩:=len2 (Hy _ (gJ hr.2));have hx:Ai[r.toNat]? = some [a,t']:=by rw [Aq hr.2,ha]
  obtain ⟨r8,m2,t2,e2⟩:∃ r m t,bW (8:Int) l m1 t1=(r,m,t):=⟨_,_,_,rfl⟩;have b2:=fO (8:Int) l m1 t1;rw [e2] at b2
  dsimp only at b2
  have hp:d1≤4→a∈aM Ai 0∧(0:Int)=0:=fun _=>⟨bKi hx,rfl⟩
  by_cases k2:d1=2
  ·obtain ⟨r3,m3,t3,e3⟩:∃ r m t,bW (3:Int) l m2 t2=(r,m,t):=⟨_,_,_,rfl⟩
   have b3:=fO (3:Int) l m2 t2;rw [e3] at b3
   dsimp only at b3
   exact ⟨m3,t3,a,r3,0,by omega,aBz (by omega) hk h2 (by omega) (.inr (by omega)) hp (fun q=>by omega),aXx h4 (by omega) e1 hx hr.1 Hy (by omega) e2 (by show _∧_;omega) k2 (by omega) e3 (by omega)⟩
  ·by_cases k3:d1=3
   ·exact ⟨m2,t2,a,0,0,by omega,aBz (by omega) hk h2 (by omega) (.inl rfl) hp (fun q=>by omega),aXy h4 (by omega) e1 hx hr.1 Hy (by omega) e2 (by show _∧_;omega) k2 k3 rfl⟩
   ·exact ⟨m2,t2,a,50*r8,0,by omega,aBz (by omega) hk h2 (by omega) (.inr (by omega)) hp (fun q=>by omega),aXz h4 (by omega) e1 hx hr.1 Hy (by omega) e2 (by show _∧_;omega) k2 k3 rfl⟩
 ·have hg:(if nb-6 > (1:Int) then nb-6 else 1)=max 1 (nb-6):=by split <;> omega
  obtain ⟨r,m1,t1,e1⟩:∃ r m t,mV (if nb-(6:Int) > (1:Int) then nb-(6:Int) else (1:Int)) (nb-(1:Int)) l mb tb=(r,m,t):=⟨_,_,_,rfl⟩
  have b1:=zD (if nb-(6:Int) > (1:Int) then nb-(6:Int) else (1:Int)) (nb-(1:Int)) l mb tb
  rw [e1] at b1
  dsimp only at b1
  have Hk:nb≠1:=fun q=>h4 (J5 q)
  have hlo:1≤(if nb-(6:Int) > (1:Int) then nb-(6:Int) else (1:Int))∧(if nb-(6:Int) > (1:Int) then nb-(6:Int) else (1:Int))≤nb-1:=by rw [hg];omega
  have hq:4<d1→(0:Int)=0∧1≤r∧r≤nb-1:=fun _=>⟨rfl,by omega,by omega⟩
  by_cases k6:d1=6
  ·obtain ⟨r8,m2,t2,e2⟩:∃ r m t,bW (8:Int) l m1 t1=(r,m,t):=⟨_,_,_,rfl⟩
   have b2:=fO (8:Int) l m1 t1;rw [e2] at b2
   dsimp only at b2
   exact ⟨m2,t2,0,50*r8,r,by omega,aBz (by omega) hk h2 (by omega) (.inr (by omega)) (fun q=>absurd q h4) hq,aYa (by omega) (by show _∧_;omega) (by show _∧_;omega) (by omega) (by omega) e1 k6 (by omega) e2 (by show _∧_;omega) rfl⟩
  ·exact ⟨m1,t1,0,0,r,by omega,aBz (by omega) hk h2 (by omega) (.inl rfl) (fun q=>absurd q h4) hq,aYb (by omega) (by show _∧_;omega) (by show _∧_;omega) (by omega) (by omega) e1 k6⟩
theorem bKj{l:List Int}{Ai dc:Lqq}{r7 nu mx tt:Int}{j:Nat}(hI:aPf Ai dc nu mx j)(hj:(j:Int)<r7)(hr:r7≤100)(Hy:uni 2 Ai)(hs:1≤Ai.length∧Ai.length≤100) :
  ∃ Du N4 E1 Mu,aPf Ai Du N4 E1 (j+1)∧aC Tp 1 (sub (cd Tryz.f7) bp) (fE l Ai r7 j dc.length (dc.flatten.map aA) nu mx tt) .normal (fE l Ai r7 (j+1) Du.length (Du.flatten.map aA) N4 E1 Mu):=by
 have hlen:=hI.len;have hnum:=hI.num;have hdeck:=hI.deck;obtain ⟨Az,Bu,Dd,e3⟩:∃ r m t,mV (1:Int) (2:Int) l mx tt=(r,m,t):=⟨_,_,_,rfl⟩;have b3:=zD (1:Int) (2:Int) l mx tt;rw [e3] at b3
 dsimp only at b3
 obtain ⟨De,Bv,Df,e6⟩:∃ r m t,bW (10:Int) l Bu Dd=(r,m,t):=⟨_,_,_,rfl⟩;have b6:=fO (10:Int) l Bu Dd;rw [e6] at b6
 dsimp only at b6
 obtain ⟨B5,Cb,Dh,e8⟩:∃ r m t,bW (36:Int) l Bv Df=(r,m,t):=⟨_,_,_,rfl⟩;have b8:=fO (36:Int) l Bv Df;rw [e8] at b8
 dsimp only at b8
 have hin:inR (((j+1):Nat):Int):=aN (by omega)
 have rest:∀ (m t k:Int),(Cb≤m∧m≤Cb+1)→(0≤k∧k≤9)→∃ m1 t1 k1 m2 t2 b mu ab,(mx≤m2∧m2≤mx+20)∧(dcB [nu+Az,k1,B5,b,mu,ab]=true∧inB Ai [nu+Az,k1,B5,b,mu,ab]=true∧orB [nu+Az,k1,B5,b,mu,ab]=true) ∧
   aC Tp 1 (sub (cd Tryz.f7) am) (gP l Ai r7 j dc (nu+Az) m t (nu+Az) k B5 0 0 0) .normal (gP l Ai r7 j dc (nu+Az) m1 t1 (nu+Az) k1 B5 0 0 0) ∧
   aC Tp 1 (sub (cd Tryz.f7) ak) (eE l Ai r7 j dc (nu+Az) m1 t1 (nu+Az) k1 B5 0 0 0) .normal (eE l Ai r7 j dc (nu+Az) m2 t2 (nu+Az) k1 B5 b mu ab):=fun m t k hm hk=>by
  obtain ⟨m1,t1,k1,q1,q2,q3,q4⟩:=bRf (l:=l) (Ai:=Ai) (dc:=dc) (r7:=r7) (na:=nu+Az) (ma:=m) (ta:=t) (c0:=nu+Az) (c1:=k) (c2:=B5) (c3:=0) (c4:=0) (c5:=0) (j:=j) (by omega) hk
  obtain ⟨m2,t2,b,mu,ab,s1,s2,s3⟩:=bRg (l:=l) (Ai:=Ai) (dc:=dc) (r7:=r7) (nb:=nu+Az) (mb:=m1) (tb:=t1) (d1:=k1) (d2:=B5) (j:=j) (by omega) (by omega) q2 q3 (by omega) Hy hs
  exact ⟨m1,t1,k1,m2,t2,b,mu,ab,by omega,s2,q4,s3⟩
 by_cases h1:1<nu+Az
 ·by_cases h5:De<5
  ·obtain ⟨c,Gp,Gq,P1⟩:∃ r m t,pG (3:Int) l Cb Dh=(r,m,t):=⟨_,_,_,rfl⟩
   have Q6:=aKu (3:Int) l Cb Dh;rw [P1] at Q6
   dsimp only at Q6
   cases c with
   | true =>
    obtain ⟨m1,t1,k1,m2,t2,b,mu,ab,q1,q2,q3,q4⟩:=rest Gp Gq 7 (by omega) (by omega)
    exact ⟨_,_,_,_,hI.snoc q2 (by omega) q1,aXq (Du:=dc++[[nu+Az,k1,B5,b,mu,ab]]) hj (by omega) (by omega) e3 (by show _∧_;omega) (by omega) e6 (by omega) e8 h1 h5 (by omega) P1 rfl q3 q4 ⟨rfl,by omega⟩ hin rfl (by simp) (by simp)⟩
   | false =>
    obtain ⟨m1,t1,k1,m2,t2,b,mu,ab,q1,q2,q3,q4⟩:=rest Gp Gq De (by omega) (by omega)
    exact ⟨_,_,_,_,hI.snoc q2 (by omega) q1,aXr (Du:=dc++[[nu+Az,k1,B5,b,mu,ab]]) hj (by omega) (by omega) e3 (by show _∧_;omega) (by omega) e6 (by omega) e8 h1 h5 (by omega) P1 rfl q3 q4 ⟨rfl,by omega⟩ hin rfl (by simp) (by simp)⟩
  ·obtain ⟨m1,t1,k1,m2,t2,b,mu,ab,q1,q2,q3,q4⟩:=rest Cb Dh De (by omega) (by omega)
   exact ⟨_,_,_,_,hI.snoc q2 (by omega) q1,aXs (Du:=dc++[[nu+Az,k1,B5,b,mu,ab]]) hj (by omega) (by omega) e3 (by show _∧_;omega) (by omega) e6 (by omega) e8 h1 (by omega) q3 q4 ⟨rfl,by omega⟩ hin rfl (by simp) (by simp)⟩
 ·obtain ⟨m1,t1,k1,m2,t2,b,mu,ab,q1,q2,q3,q4⟩:=rest Cb Dh De (by omega) (by omega)
  exact ⟨_,_,_,_,hI.snoc q2 (by omega) q1,aXt (Du:=dc++[[nu+Az,k1,B5,b,mu,ab]]) hj (by omega) (by omega) e3 (by show _∧_;omega) (by omega) e6 (by omega) e8 (by omega) q3 q4 ⟨rfl,by omega⟩ hin rfl (by simp) (by simp)⟩
end
section
variable {b6 is r0 Ay Jd G9 Ha:Bool}{k c0 c1 c2 c3 c4 c5 x0 x1 x2 x3 x4 x5 z0 z1 z2 z3 z4 z5 c0'4 c0'5 c1'5 c1'6 c2'6 c2'7 c3'7 c3'8 c4'8 c4'9 c5'9 Aa Ab Ac Ad Ae Af c5'10:Int}{T t T7 t' C7 Dq Hi T107 T109:Lqb}{l y0 Q9 Lk Ra:Lqq}{i n i' Av Ei B0 Rb Ll Rc base:Nat}{ov:PV}
variable {dl:Int}{sk dc:Lqq}

noncomputable abbrev iI:Code:=sub (cd Tryz.f100) [1,1,1,0,1,0,0]
noncomputable abbrev jF:Code:=sub (cd Tryz.f99) [1,0,1,0,0]
abbrev qY(dl:Int)(sk dc:Lqq):AV := .rp (aF dl sk dc) 0
abbrev oW(dl:Int)(sk dc:Lqq)(ov:PV)(T:Lqb):Mem:=[some (.box 106 [(qY dl sk dc)]),some (.box 31 [(.p ov)]),some (.box 119 [(.fn 100 [] [(.ptr 4 0),(.ptr 5 0),(.ptr 0 0),(.ptr 2 0)]),(.fn 102 [] [(.ptr 6 0)]),(.fn 103 [] [(.ptr 2 0),(.ptr 1 0)]),(.fn 106 [] [(.ptr 2 0)]),(.fn 104 [] [(.ptr 6 0)])]),some (.mp (aK T) T.length),some (.box 183 [(.mp 3)]),some (.box 115 [(.fn 98 [(qY dl sk dc)] [])]),some (.box 185 [(.fn 99 [] [(.ptr 0 0),(.ptr 2 0)])])]
abbrev bRx:AV:=(.agg [(.fn 100 [] [(.ptr 4 0),(.ptr 5 0),(.ptr 0 0),(.ptr 2 0)]),(.fn 102 [] [(.ptr 6 0)]),(.fn 103 [] [(.ptr 2 0),(.ptr 1 0)]),(.fn 106 [] [(.ptr 2 0)]),(.fn 104 [] [(.ptr 6 0)])])
abbrev Td(dl:Int)(sk dc:Lqq):AO:=.box 130 [.rp (aF dl sk dc) 0]
abbrev Te:AO:=.box 139 [(.fn 154 [] [(.ptr 4 0),(.ptr 5 0),(.ptr 0 0),(.ptr 2 0)]),(.fn 156 [] [(.ptr 6 0)]),(.fn 157 [] [(.ptr 2 0),(.ptr 1 0)]),(.fn 160 [] [(.ptr 2 0)]),(.fn 158 [] [(.ptr 6 0)])]
abbrev Tf(dl:Int)(sk dc:Lqq):AO:=.box 124 [.fn 146 [.rp (aF dl sk dc) 0] []]
abbrev Tg:AO:=.box 209 [(.fn 153 [] [(.ptr 0 0),(.ptr 2 0)])]
abbrev vU(dl:Int)(sk dc:Lqq)(ov:PV)(T:Lqb):Upd:=[(0,Td dl sk dc),(1,.box 33 [.p ov]),(2,Te),(3,.mp (aK T) T.length),(4,.box 207 [.mp 3]),(5,Tf dl sk dc),(6,Tg)]
abbrev qZ(dl:Int)(sk dc:Lqq)(ov:PV)(x:List Int)(b:Bool)(T T2:Lqb):Prop:=FMM Tp 100 [.p (.agg (x.map aA)),.ptr 4 0,.ptr 5 0,.ptr 0 0,.ptr 2 0] (oW dl sk dc ov T) (pB b) (oW dl sk dc ov T2)
abbrev bRy(g:Nat)(dl:Int)(sk dc:Lqq)(ov:PV)(x z:List Int)(b:Bool)(T T2:Lqb):Prop:=FMM Tp 99 [.p (.agg (x.map aA)),.fn g [] [],.ptr 0 0,.ptr 2 0] (oW dl sk dc ov T) (.tup [.p (.agg (z.map aA)),.p (blP b)]) (oW dl sk dc ov T2)
abbrev aLd(dl:Int)(sk dc:Lqq)(ov:PV)(x z:List Int)(b:Bool)(T T2:Lqb):Prop:=FMM Tp 102 [.p (.agg (x.map aA)),.ptr 6 0] (oW dl sk dc ov T) (.tup [.p (.agg (z.map aA)),.p (blP b)]) (oW dl sk dc ov T2)
abbrev bRz(dl:Int)(sk dc:Lqq)(ov:PV)(x z:List Int)(b:Bool)(T T2:Lqb):Prop:=FMM Tp 104 [.p (.agg (x.map aA)),.ptr 6 0] (oW dl sk dc ov T) (.tup [.p (.agg (z.map aA)),.p (blP b)]) (oW dl sk dc ov T2)
abbrev bKn(dl:Int)(sk dc:Lqq)(ov:PV)(x:List Int)(b:Bool)(T T2:Lqb):Prop:=FMM Tp 103 [.p (.agg (x.map aA)),.ptr 2 0,.ptr 1 0] (oW dl sk dc ov T) (pB b) (oW dl sk dc ov T2)
abbrev yQ(dl:Int)(sk dc:Lqq)(ov:PV)(x:List Int)(m:Int)(T T2:Lqb):Prop:=FMM Tp 106 [.p (.agg (x.map aA)),.ptr 2 0] (oW dl sk dc ov T) (pI m) (oW dl sk dc ov T2)
theorem bKo(h0:k=8):FV Tp 101 [(pI k)] base (pB true) []:=FV.fi func101 [bT,bT,bT] (Aw (eJ h0) gn)
theorem bKp(h0:k≠8)(An:r0=(k == 9)):FV Tp 101 [(pI k)] base (pB r0) []:=by
 subst An;exact FV.fi func101 [bF,bF,bF] (Aw (bI h0) gn)
theorem bKq(An:r0=(k == 6)):FV Tp 105 [(pI k)] base (pB r0) []:=by
 subst An;exact FV.fi func105 [] gn
theorem bSa(h0:k=4):FV Tp 90 [(pI k)] base (pB true) []:=FV.fi func90 [bT,bT,bT] (Aw (eJ h0) gn)
theorem bSb(h0:k≠4)(An:r0=(k == 7)):FV Tp 90 [(pI k)] base (pB r0) []:=by
 subst An;exact FV.fi func90 [bF,bF,bF] (Aw (bI h0) gn)
theorem mK(k:Int){base:Nat}:FV Tp 101 [.p (aA k)] base (pB (cJ k)) []:=by
 by_cases h:k=8
 ·rw [show cJ k=true by simp [cJ,h]];exact bKo h
 ·exact bKp h (by simp [cJ,h])
theorem aHo(k:Int){base:Nat}:FV Tp 105 [.p (aA k)] base (pB (k == 6)) []:=bKq rfl
theorem wX(k:Int){base:Nat}:FV Tp 90 [.p (aA k)] base (pB (iP k)) []:=by
 by_cases h:k=4
 ·rw [show iP k=true by simp [iP,h]];exact bSa h
 ·exact bSb h (by simp [iP,h])
theorem bSc(h0:(iP x1)=true)(An:r0=(decide (x2 > dl))):FV Tp 98 [(.rp (aF dl sk dc) 0),(.p (dcE x0 x1 x2 x3 x4 x5))] base (pB r0) []:=by
 subst An;exact FV.fi func98 ([.c (pB (iP x1)) []]++rT 7++[.x (aA dl),bT,bT]) (Bn h0 (gr (aA dl) (Hm h0 (gc (fk 1 (wX x1) rfl) gn))))
theorem bSd(h0:(iP x1)=false):FV Tp 98 [(.rp (aF dl sk dc) 0),(.p (dcE x0 x1 x2 x3 x4 x5))] base (pB false) []:=FV.fi func98 ([.c (pB (iP x1)) []]++rF 9) (J8 h0 (gc h0 (gc (fk 1 (wX x1) rfl) gn)))
theorem aHp(dl:Int)(sk dc:Lqq)(x0 x1 x2 x3 x4 x5:Int){base:Nat}:FV Tp 98 [qY dl sk dc,.p (.agg [aA x0,aA x1,aA x2,aA x3,aA x4,aA x5])] base (pB (sP dl [x0,x1,x2,x3,x4,x5])) []:=by
 cases h:iP x1 with
 | true=>exact bSc h (by show (iP x1 && decide (dl<x2))=_;rw [h];rfl)
 | false=>rw [show sP dl [x0,x1,x2,x3,x4,x5]=false by show (iP x1 && decide (dl<x2))=_;rw [h];rfl];exact bSd h
abbrev sF(ov:PV)(n:Int)(b:Bool):Prop:=∀ base:Nat,FV Tp 22 [.p ov,.p (aA n)] base (pB b) []
def dE(dl:Int)(sk:Lqq)(dc:Lqq)(ov:PV)(i:Nat)(l:Lqq)(n:Nat)(te:List (Value × PV))(tk:Nat)(c0:Int)(c1:Int)(c2:Int)(c3:Int)(c4:Int)(c5:Int):St:=⟨fr 35 [(1,(.fn 101 [] [])),(3,(.ptr 2 0)),(6,(.ptr 7 0)),(16,(.p (fS l))),(17,(pI (n:Int))),(18,(pI (i:Int)))],[some (.box 106 [(.rp (aF dl sk dc) 0)]),some (.box 31 [(.p ov)]),some (.box 119 [(.fn 100 [] [(.ptr 4 0),(.ptr 5 0),(.ptr 0 0),(.ptr 2 0)]),(.fn 102 [] [(.ptr 6 0)]),(.fn 103 [] [(.ptr 2 0),(.ptr 1 0)]),(.fn 106 [] [(.ptr 2 0)]),(.fn 104 [] [(.ptr 6 0)])]),some (.mp te tk),some (.box 183 [(.mp 3)]),some (.box 115 [(.fn 98 [(.rp (aF dl sk dc) 0)] [])]),some (.box 185 [(.fn 99 [] [(.ptr 0 0),(.ptr 2 0)])]),some (.box 84 [(pI c0),(pI c1),(pI c2),(pI c3),(pI c4),(pI c5)])]⟩
section
variable(h0:bQ .i64 (abE dc) (.int .i64 x0))(h1:(cW (abE dc) (.int .i64 x0))=true)(h2:eP (abE dc) (.int .i64 x0)=some (fS y0))
include h0 h1 h2
theorem bKr(Cd:aG Tp 7 jF (dE dl sk dc ov 0 y0 y0.length (aK T) T.length 0 0 0 0 0 0) (.exit 0) (dE dl sk dc ov Ei Lk Ll (aK Dq) Dq.length c0'5 c1'6 c2'7 c3'8 c4'9 c5'10)):FMM Tp 99 [(.p (dcE x0 x1 x2 x3 x4 x5)),(.fn 101 [] []),(.ptr 0 0),(.ptr 2 0)] [some (.box 106 [(.rp (aF dl sk dc) 0)]),some (.box 31 [(.p ov)]),some (.box 119 [(.fn 100 [] [(.ptr 4 0),(.ptr 5 0),(.ptr 0 0),(.ptr 2 0)]),(.fn 102 [] [(.ptr 6 0)]),(.fn 103 [] [(.ptr 2 0),(.ptr 1 0)]),(.fn 106 [] [(.ptr 2 0)]),(.fn 104 [] [(.ptr 6 0)])]),some (.mp (aK T) T.length),some (.box 183 [(.mp 3)]),some (.box 115 [(.fn 98 [(.rp (aF dl sk dc) 0)] [])]),some (.box 185 [(.fn 99 [] [(.ptr 0 0),(.ptr 2 0)])])] (.tup [(.p (dcE 0 0 0 0 0 0)),(pB false)]) [some (.box 106 [(.rp (aF dl sk dc) 0)]),some (.box 31 [(.p ov)]),some (.box 119 [(.fn 100 [] [(.ptr 4 0),(.ptr 5 0),(.ptr 0 0),(.ptr 2 0)]),(.fn 102 [] [(.ptr 6 0)]),(.fn 103 [] [(.ptr 2 0),(.ptr 1 0)]),(.fn 106 [] [(.ptr 2 0)]),(.fn 104 [] [(.ptr 6 0)])]),some (.mp (aK Dq) Dq.length),some (.box 183 [(.mp 3)]),some (.box 115 [(.fn 98 [(.rp (aF dl sk dc) 0)] [])]),some (.box 185 [(.fn 99 [] [(.ptr 0 0),(.ptr 2 0)])])]:=FMM.fi 7 gE func99 [.x (.mp (abE dc)),bT,.x (fS y0),Cd.k 1 (gI b9 [8])] (gc Cd.code (gc h2 (gc h1 (gc h0 (gr (.mp (abE dc)) gn)))))
theorem bKs(Cd:aG Tp 7 jF (dE dl sk dc ov 0 y0 y0.length (aK T) T.length 0 0 0 0 0 0) .ret (cQ (dE dl sk dc ov Ei Lk Ll (aK Dq) Dq.length c0'5 c1'6 c2'7 c3'8 c4'9 c5'10) [(7,(.kb true))])):FMM Tp 99 [(.p (dcE x0 x1 x2 x3 x4 x5)),(.fn 101 [] []),(.ptr 0 0),(.ptr 2 0)] [some (.box 106 [(.rp (aF dl sk dc) 0)]),some (.box 31 [(.p ov)]),some (.box 119 [(.fn 100 [] [(.ptr 4 0),(.ptr 5 0),(.ptr 0 0),(.ptr 2 0)]),(.fn 102 [] [(.ptr 6 0)]),(.fn 103 [] [(.ptr 2 0),(.ptr 1 0)]),(.fn 106 [] [(.ptr 2 0)]),(.fn 104 [] [(.ptr 6 0)])]),some (.mp (aK T) T.length),some (.box 183 [(.mp 3)]),some (.box 115 [(.fn 98 [(.rp (aF dl sk dc) 0)] [])]),some (.box 185 [(.fn 99 [] [(.ptr 0 0),(.ptr 2 0)])])] (.tup [(.p (dcE c0'5 c1'6 c2'7 c3'8 c4'9 c5'10)),(pB true)]) [some (.box 106 [(.rp (aF dl sk dc) 0)]),some (.box 31 [(.p ov)]),some (.box 119 [(.fn 100 [] [(.ptr 4 0),(.ptr 5 0),(.ptr 0 0),(.ptr 2 0)]),(.fn 102 [] [(.ptr 6 0)]),(.fn 103 [] [(.ptr 2 0),(.ptr 1 0)]),(.fn 106 [] [(.ptr 2 0)]),(.fn 104 [] [(.ptr 6 0)])]),some (.mp (aK Dq) Dq.length),some (.box 183 [(.mp 3)]),some (.box 115 [(.fn 98 [(.rp (aF dl sk dc) 0)] [])]),some (.box 185 [(.fn 99 [] [(.ptr 0 0),(.ptr 2 0)])])]:=FMM.fi 7 gE func99 [.x (.mp (abE dc)),bT,.x (fS y0),Cd.k 1 (gI b9 [8])] (gc Cd.code (gc h2 (gc h1 (gc h0 (gr (.mp (abE dc)) gn)))))
end
theorem bKt(h0:bQ .i64 (abE dc) (.int .i64 x0))(h1:(cW (abE dc) (.int .i64 x0))=false)(Ct:aG Tp 7 jF (dE dl sk dc ov 0 ([]:Lqq) 0 (aK T) T.length 0 0 0 0 0 0) (.exit 0) (dE dl sk dc ov Av Q9 Rb (aK C7) C7.length c0'4 c1'5 c2'6 c3'7 c4'8 c5'9)):FMM Tp 99 [(.p (dcE x0 x1 x2 x3 x4 x5)),(.fn 101 [] []),(.ptr 0 0),(.ptr 2 0)] [some (.box 106 [(.rp (aF dl sk dc) 0)]),some (.box 31 [(.p ov)]),some (.box 119 [(.fn 100 [] [(.ptr 4 0),(.ptr 5 0),(.ptr 0 0),(.ptr 2 0)]),(.fn 102 [] [(.ptr 6 0)]),(.fn 103 [] [(.ptr 2 0),(.ptr 1 0)]),(.fn 106 [] [(.ptr 2 0)]),(.fn 104 [] [(.ptr 6 0)])]),some (.mp (aK T) T.length),some (.box 183 [(.mp 3)]),some (.box 115 [(.fn 98 [(.rp (aF dl sk dc) 0)] [])]),some (.box 185 [(.fn 99 [] [(.ptr 0 0),(.ptr 2 0)])])] (.tup [(.p (dcE 0 0 0 0 0 0)),(pB false)]) [some (.box 106 [(.rp (aF dl sk dc) 0)]),some (.box 31 [(.p ov)]),some (.box 119 [(.fn 100 [] [(.ptr 4 0),(.ptr 5 0),(.ptr 0 0),(.ptr 2 0)]),(.fn 102 [] [(.ptr 6 0)]),(.fn 103 [] [(.ptr 2 0),(.ptr 1 0)]),(.fn 106 [] [(.ptr 2 0)]),(.fn 104 [] [(.ptr 6 0)])]),some (.mp (aK C7) C7.length),some (.box 183 [(.mp 3)]),some (.box 115 [(.fn 98 [(.rp (aF dl sk dc) 0)] [])]),some (.box 185 [(.fn 99 [] [(.ptr 0 0),(.ptr 2 0)])])]:=FMM.fi 7 gE func99 [.x (.mp (abE dc)),bF,Ct.k 1 (gN b9 [8] [(16,99999)])] (gc Ct.code (gc h1 (gc h0 (gr (.mp (abE dc)) gn))))
section
variable(h0:(i:Int)<(n:Int))(h1:l[i]? = some [Aa,Ab,Ac,Ad,Ae,Af])(h2:uni 6 l)
include h0 h1 h2
theorem aPj(h3:(cJ Ab)=true)(h4:qZ dl sk dc ov [Aa,Ab,Ac,Ad,Ae,Af] Ay t T107)(h5:Ay=true)(Ao:aK t'=(aK T107))(Ap:t'.length=T107.length):aC Tp 7 jF (dE dl sk dc ov i l n (aK t) t.length c0 c1 c2 c3 c4 c5) .ret (cQ (dE dl sk dc ov i l n (aK t') t'.length Aa Ab Ac Ad Ae Af) [(7,(.kb true))]):=by
 have k1:=fk 9 (mK Ab) rfl;have k2:=mq bz 9 h4;rw [Ao,Ap];exact aC.fi (gI [0,1,2,1,4,2,8,8,19,15] [7]) [bT,.x (dcE Aa Ab Ac Ad Ae Af),k1.o,bT,bT,bT,bT,k2.o,bT,bT] (gc h5 (gc h3 (gc k2 (Ba h3 (gc k1 (gfl h2 h1 (g0 h0)))))))
theorem aPk(h3:(cJ Ab)=true)(h4:qZ dl sk dc ov [Aa,Ab,Ac,Ad,Ae,Af] Ay t T107)(h5:Ay=false)(h6:co i)(Ak:i'=(i+1))(Ao:aK t'=(aK T107))(Ap:t'.length=T107.length):aC Tp 7 jF (dE dl sk dc ov i l n (aK t) t.length c0 c1 c2 c3 c4 c5) .normal (dE dl sk dc ov i' l n (aK t') t'.length c0 c1 c2 c3 c4 c5):=by
 subst Ak;have k1:=fk 9 (mK Ab) rfl;have k2:=mq bz 9 h4;rw [Ao,Ap];exact aC.fi (gI b9 [7]) [bT,.x (dcE Aa Ab Ac Ad Ae Af),k1.o,bT,bT,bT,bT,k2.o,bT,bF] (gc h6 (gc h5 (gc h3 (gc k2 (Ba h3 (gc k1 (gfl h2 h1 (g0 h0))))))))
theorem aPl(h3:(cJ Ab)=false)(h4:co i)(Ak:i'=(i+1)):aC Tp 7 jF (dE dl sk dc ov i l n (aK t) t.length c0 c1 c2 c3 c4 c5) .normal (dE dl sk dc ov i' l n (aK t) t.length c0 c1 c2 c3 c4 c5):=by
 subst Ak;have k1:=fk 9 (mK Ab) rfl;exact aC.fi (gI b9 [7]) ([bT,.x (dcE Aa Ab Ac Ad Ae Af),k1.o]++rF 5) (gc h4 (Dp h3 (gc k1 (gfl h2 h1 (g0 h0)))))
end
theorem aPm(h0:(n:Int)≤(i:Int)):aC Tp 7 jF (dE dl sk dc ov i l n (aK t) t.length c0 c1 c2 c3 c4 c5) (.exit 0) (dE dl sk dc ov i l n (aK t) t.length c0 c1 c2 c3 c4 c5):=aC.fi (gI b9 [7]) [bF] (gc (aS h0) gn)
def dF(dl:Int)(sk:Lqq)(dc:Lqq)(ov:PV)(i:Nat)(l:Lqq)(n:Nat)(te:List (Value × PV))(tk:Nat)(c0:Int)(c1:Int)(c2:Int)(c3:Int)(c4:Int)(c5:Int):St:=⟨fr 35 [(1,(.fn 105 [] [])),(3,(.ptr 2 0)),(6,(.ptr 7 0)),(16,(.p (fS l))),(17,(pI (n:Int))),(18,(pI (i:Int)))],[some (.box 106 [(.rp (aF dl sk dc) 0)]),some (.box 31 [(.p ov)]),some (.box 119 [(.fn 100 [] [(.ptr 4 0),(.ptr 5 0),(.ptr 0 0),(.ptr 2 0)]),(.fn 102 [] [(.ptr 6 0)]),(.fn 103 [] [(.ptr 2 0),(.ptr 1 0)]),(.fn 106 [] [(.ptr 2 0)]),(.fn 104 [] [(.ptr 6 0)])]),some (.mp te tk),some (.box 183 [(.mp 3)]),some (.box 115 [(.fn 98 [(.rp (aF dl sk dc) 0)] [])]),some (.box 185 [(.fn 99 [] [(.ptr 0 0),(.ptr 2 0)])]),some (.box 84 [(pI c0),(pI c1),(pI c2),(pI c3),(pI c4),(pI c5)])]⟩
section
variable(h0:bQ .i64 (abE dc) (.int .i64 x0))(h1:(cW (abE dc) (.int .i64 x0))=true)(h2:eP (abE dc) (.int .i64 x0)=some (fS y0))
include h0 h1 h2
theorem bKu(Cd:aG Tp 7 jF (dF dl sk dc ov 0 y0 y0.length (aK T) T.length 0 0 0 0 0 0) (.exit 0) (dF dl sk dc ov Ei Lk Ll (aK Dq) Dq.length c0'5 c1'6 c2'7 c3'8 c4'9 c5'10)):FMM Tp 99 [(.p (dcE x0 x1 x2 x3 x4 x5)),(.fn 105 [] []),(.ptr 0 0),(.ptr 2 0)] [some (.box 106 [(.rp (aF dl sk dc) 0)]),some (.box 31 [(.p ov)]),some (.box 119 [(.fn 100 [] [(.ptr 4 0),(.ptr 5 0),(.ptr 0 0),(.ptr 2 0)]),(.fn 102 [] [(.ptr 6 0)]),(.fn 103 [] [(.ptr 2 0),(.ptr 1 0)]),(.fn 106 [] [(.ptr 2 0)]),(.fn 104 [] [(.ptr 6 0)])]),some (.mp (aK T) T.length),some (.box 183 [(.mp 3)]),some (.box 115 [(.fn 98 [(.rp (aF dl sk dc) 0)] [])]),some (.box 185 [(.fn 99 [] [(.ptr 0 0),(.ptr 2 0)])])] (.tup [(.p (dcE 0 0 0 0 0 0)),(pB false)]) [some (.box 106 [(.rp (aF dl sk dc) 0)]),some (.box 31 [(.p ov)]),some (.box 119 [(.fn 100 [] [(.ptr 4 0),(.ptr 5 0),(.ptr 0 0),(.ptr 2 0)]),(.fn 102 [] [(.ptr 6 0)]),(.fn 103 [] [(.ptr 2 0),(.ptr 1 0)]),(.fn 106 [] [(.ptr 2 0)]),(.fn 104 [] [(.ptr 6 0)])]),some (.mp (aK Dq) Dq.length),some (.box 183 [(.mp 3)]),some (.box 115 [(.fn 98 [(.rp (aF dl sk dc) 0)] [])]),some (.box 185 [(.fn 99 [] [(.ptr 0 0),(.ptr 2 0)])])]:=FMM.fi 7 gE func99 [.x (.mp (abE dc)),bT,.x (fS y0),Cd.k 1 (gI b9 [8])] (gc Cd.code (gc h2 (gc h1 (gc h0 (gr (.mp (abE dc)) gn)))))
theorem bKv(Cd:aG Tp 7 jF (dF dl sk dc ov 0 y0 y0.length (aK T) T.length 0 0 0 0 0 0) .ret (cQ (dF dl sk dc ov Ei Lk Ll (aK Dq) Dq.length c0'5 c1'6 c2'7 c3'8 c4'9 c5'10) [(7,(.kb true))])):FMM Tp 99 [(.p (dcE x0 x1 x2 x3 x4 x5)),(.fn 105 [] []),(.ptr 0 0),(.ptr 2 0)] [some (.box 106 [(.rp (aF dl sk dc) 0)]),some (.box 31 [(.p ov)]),some (.box 119 [(.fn 100 [] [(.ptr 4 0),(.ptr 5 0),(.ptr 0 0),(.ptr 2 0)]),(.fn 102 [] [(.ptr 6 0)]),(.fn 103 [] [(.ptr 2 0),(.ptr 1 0)]),(.fn 106 [] [(.ptr 2 0)]),(.fn 104 [] [(.ptr 6 0)])]),some (.mp (aK T) T.length),some (.box 183 [(.mp 3)]),some (.box 115 [(.fn 98 [(.rp (aF dl sk dc) 0)] [])]),some (.box 185 [(.fn 99 [] [(.ptr 0 0),(.ptr 2 0)])])] (.tup [(.p (dcE c0'5 c1'6 c2'7 c3'8 c4'9 c5'10)),(pB true)]) [some (.box 106 [(.rp (aF dl sk dc) 0)]),some (.box 31 [(.p ov)]),some (.box 119 [(.fn 100 [] [(.ptr 4 0),(.ptr 5 0),(.ptr 0 0),(.ptr 2 0)]),(.fn 102 [] [(.ptr 6 0)]),(.fn 103 [] [(.ptr 2 0),(.ptr 1 0)]),(.fn 106 [] [(.ptr 2 0)]),(.fn 104 [] [(.ptr 6 0)])]),some (.mp (aK Dq) Dq.length),some (.box 183 [(.mp 3)]),some (.box 115 [(.fn 98 [(.rp (aF dl sk dc) 0)] [])]),some (.box 185 [(.fn 99 [] [(.ptr 0 0),(.ptr 2 0)])])]:=FMM.fi 7 gE func99 [.x (.mp (abE dc)),bT,.x (fS y0),Cd.k 1 (gI b9 [8])] (gc Cd.code (gc h2 (gc h1 (gc h0 (gr (.mp (abE dc)) gn)))))
end
theorem bKw(h0:bQ .i64 (abE dc) (.int .i64 x0))(h1:(cW (abE dc) (.int .i64 x0))=false)(Ct:aG Tp 7 jF (dF dl sk dc ov 0 ([]:Lqq) 0 (aK T) T.length 0 0 0 0 0 0) (.exit 0) (dF dl sk dc ov Av Q9 Rb (aK C7) C7.length c0'4 c1'5 c2'6 c3'7 c4'8 c5'9)):FMM Tp 99 [(.p (dcE x0 x1 x2 x3 x4 x5)),(.fn 105 [] []),(.ptr 0 0),(.ptr 2 0)] [some (.box 106 [(.rp (aF dl sk dc) 0)]),some (.box 31 [(.p ov)]),some (.box 119 [(.fn 100 [] [(.ptr 4 0),(.ptr 5 0),(.ptr 0 0),(.ptr 2 0)]),(.fn 102 [] [(.ptr 6 0)]),(.fn 103 [] [(.ptr 2 0),(.ptr 1 0)]),(.fn 106 [] [(.ptr 2 0)]),(.fn 104 [] [(.ptr 6 0)])]),some (.mp (aK T) T.length),some (.box 183 [(.mp 3)]),some (.box 115 [(.fn 98 [(.rp (aF dl sk dc) 0)] [])]),some (.box 185 [(.fn 99 [] [(.ptr 0 0),(.ptr 2 0)])])] (.tup [(.p (dcE 0 0 0 0 0 0)),(pB false)]) [some (.box 106 [(.rp (aF dl sk dc) 0)]),some (.box 31 [(.p ov)]),some (.box 119 [(.fn 100 [] [(.ptr 4 0),(.ptr 5 0),(.ptr 0 0),(.ptr 2 0)]),(.fn 102 [] [(.ptr 6 0)]),(.fn 103 [] [(.ptr 2 0),(.ptr 1 0)]),(.fn 106 [] [(.ptr 2 0)]),(.fn 104 [] [(.ptr 6 0)])]),some (.mp (aK C7) C7.length),some (.box 183 [(.mp 3)]),some (.box 115 [(.fn 98 [(.rp (aF dl sk dc) 0)] [])]),some (.box 185 [(.fn 99 [] [(.ptr 0 0),(.ptr 2 0)])])]:=FMM.fi 7 gE func99 [.x (.mp (abE dc)),bF,Ct.k 1 (gN b9 [8] [(16,99999)])] (gc Ct.code (gc h1 (gc h0 (gr (.mp (abE dc)) gn))))
section
variable(h0:(i:Int)<(n:Int))(h1:l[i]? = some [Aa,Ab,Ac,Ad,Ae,Af])(h2:uni 6 l)
include h0 h1 h2
theorem aPn(h3:(Ab == 6)=true)(h4:qZ dl sk dc ov [Aa,Ab,Ac,Ad,Ae,Af] Ay t T107)(h5:Ay=true)(Ao:aK t'=(aK T107))(Ap:t'.length=T107.length):aC Tp 7 jF (dF dl sk dc ov i l n (aK t) t.length c0 c1 c2 c3 c4 c5) .ret (cQ (dF dl sk dc ov i l n (aK t') t'.length Aa Ab Ac Ad Ae Af) [(7,(.kb true))]):=by
 have k1:=mq bz 9 h4;rw [Ao,Ap];exact aC.fi (gI [0,1,2,1,4,2,8,8,19,15] [7]) [bT,.x (dcE Aa Ab Ac Ad Ae Af),.c (pB (Ab == 6)) [],bT,bT,bT,bT,k1.o,bT,bT] (gc h5 (gc h3 (gc k1 (Ba h3 (gc (fk 9 (aHo Ab) rfl) (gfl h2 h1 (g0 h0)))))))
theorem aPo(h3:(Ab == 6)=true)(h4:qZ dl sk dc ov [Aa,Ab,Ac,Ad,Ae,Af] Ay t T107)(h5:Ay=false)(h6:co i)(Ak:i'=(i+1))(Ao:aK t'=(aK T107))(Ap:t'.length=T107.length):aC Tp 7 jF (dF dl sk dc ov i l n (aK t) t.length c0 c1 c2 c3 c4 c5) .normal (dF dl sk dc ov i' l n (aK t') t'.length c0 c1 c2 c3 c4 c5):=by
 subst Ak;have k1:=mq bz 9 h4;rw [Ao,Ap];exact aC.fi (gI b9 [7]) [bT,.x (dcE Aa Ab Ac Ad Ae Af),.c (pB (Ab == 6)) [],bT,bT,bT,bT,k1.o,bT,bF] (gc h6 (gc h5 (gc h3 (gc k1 (Ba h3 (gc (fk 9 (aHo Ab) rfl) (gfl h2 h1 (g0 h0))))))))
theorem aPp(h3:(Ab == 6)=false)(h4:co i)(Ak:i'=(i+1)):aC Tp 7 jF (dF dl sk dc ov i l n (aK t) t.length c0 c1 c2 c3 c4 c5) .normal (dF dl sk dc ov i' l n (aK t) t.length c0 c1 c2 c3 c4 c5):=by
 subst Ak;exact aC.fi (gI b9 [7]) ([bT,.x (dcE Aa Ab Ac Ad Ae Af),.c (pB (Ab == 6)) []]++rF 5) (gc h4 (Dp h3 (gc (fk 9 (aHo Ab) rfl) (gfl h2 h1 (g0 h0)))))
end
theorem aPq(h0:(n:Int)≤(i:Int)):aC Tp 7 jF (dF dl sk dc ov i l n (aK t) t.length c0 c1 c2 c3 c4 c5) (.exit 0) (dF dl sk dc ov i l n (aK t) t.length c0 c1 c2 c3 c4 c5):=aC.fi (gI b9 [7]) [bF] (gc (aS h0) gn)
def cH(dl:Int)(sk:Lqq)(dc:Lqq)(ov:PV)(x0:Int)(x1:Int)(x2:Int)(x3:Int)(x4:Int)(x5:Int)(is:Bool)(i:Nat)(l:Lqq)(n:Nat)(te:List (Value × PV))(tk:Nat):St:=⟨fr 79 [(1,(.ptr 4 0)),(4,(.ptr 2 0)),(5,(.ptr 7 0)),(6,(.kb false)),(9,(pB is)),(32,(.p (fS l))),(33,(pI (n:Int))),(34,(pI (i:Int)))],[some (.box 106 [(.rp (aF dl sk dc) 0)]),some (.box 31 [(.p ov)]),some (.box 119 [(.fn 100 [] [(.ptr 4 0),(.ptr 5 0),(.ptr 0 0),(.ptr 2 0)]),(.fn 102 [] [(.ptr 6 0)]),(.fn 103 [] [(.ptr 2 0),(.ptr 1 0)]),(.fn 106 [] [(.ptr 2 0)]),(.fn 104 [] [(.ptr 6 0)])]),some (.mp te tk),some (.box 183 [(.mp 3)]),some (.box 115 [(.fn 98 [(.rp (aF dl sk dc) 0)] [])]),some (.box 185 [(.fn 99 [] [(.ptr 0 0),(.ptr 2 0)])]),some (.box 84 [(pI x0),(pI x1),(pI x2),(pI x3),(pI x4),(pI x5)])]⟩
theorem bSe{y0:Bool}(h0:bQ .i64 (aK T) (.int .i64 x0))(h1:(cW (aK T) (.int .i64 x0))=true)(h2:eP (aK T) (.int .i64 x0)=some (blP y0)):FMM Tp 100 [(.p (dcE x0 x1 x2 x3 x4 x5)),(.ptr 4 0),(.ptr 5 0),(.ptr 0 0),(.ptr 2 0)] [some (.box 106 [(.rp (aF dl sk dc) 0)]),some (.box 31 [(.p ov)]),some (.box 119 [(.fn 100 [] [(.ptr 4 0),(.ptr 5 0),(.ptr 0 0),(.ptr 2 0)]),(.fn 102 [] [(.ptr 6 0)]),(.fn 103 [] [(.ptr 2 0),(.ptr 1 0)]),(.fn 106 [] [(.ptr 2 0)]),(.fn 104 [] [(.ptr 6 0)])]),some (.mp (aK T) T.length),some (.box 183 [(.mp 3)]),some (.box 115 [(.fn 98 [(.rp (aF dl sk dc) 0)] [])]),some (.box 185 [(.fn 99 [] [(.ptr 0 0),(.ptr 2 0)])])] (pB y0) [some (.box 106 [(.rp (aF dl sk dc) 0)]),some (.box 31 [(.p ov)]),some (.box 119 [(.fn 100 [] [(.ptr 4 0),(.ptr 5 0),(.ptr 0 0),(.ptr 2 0)]),(.fn 102 [] [(.ptr 6 0)]),(.fn 103 [] [(.ptr 2 0),(.ptr 1 0)]),(.fn 106 [] [(.ptr 2 0)]),(.fn 104 [] [(.ptr 6 0)])]),some (.mp (aK T) T.length),some (.box 183 [(.mp 3)]),some (.box 115 [(.fn 98 [(.rp (aF dl sk dc) 0)] [])]),some (.box 185 [(.fn 99 [] [(.ptr 0 0),(.ptr 2 0)])])]:=FMM.fi 7 gE func100 [bT,.x (blP y0)] (gc h2 (gc h1 (gc h0 gn)))
section
variable(h0:bQ .i64 (aK T) (.int .i64 x0))(h1:(cW (aK T) (.int .i64 x0))=false)(h2:bQ .i64 (abE dc) (.int .i64 x0))(h3:(cW (abE dc) (.int .i64 x0))=true)(h4:eP (abE dc) (.int .i64 x0)=some (fS y0))(G1:aG Tp 7 iI (cH dl sk dc ov x0 x1 x2 x3 x4 x5 (!(sP dl [x0,x1,x2,x3,x4,x5])) 0 y0 y0.length (aK T) T.length) (.exit 0) (cH dl sk dc ov x0 x1 x2 x3 x4 x5 Ha B0 Ra Rc (aK Hi) Hi.length))(h6:bQ .i64 (aK Hi) (.int .i64 x0))
include h0 h1 h2 h3 h4 G1 h6
theorem bSf(h7:(cW (aK Hi) (.int .i64 x0))=true):FMM Tp 100 [(.p (dcE x0 x1 x2 x3 x4 x5)),(.ptr 4 0),(.ptr 5 0),(.ptr 0 0),(.ptr 2 0)] [some (.box 106 [(.rp (aF dl sk dc) 0)]),some (.box 31 [(.p ov)]),some (.box 119 [(.fn 100 [] [(.ptr 4 0),(.ptr 5 0),(.ptr 0 0),(.ptr 2 0)]),(.fn 102 [] [(.ptr 6 0)]),(.fn 103 [] [(.ptr 2 0),(.ptr 1 0)]),(.fn 106 [] [(.ptr 2 0)]),(.fn 104 [] [(.ptr 6 0)])]),some (.mp (aK T) T.length),some (.box 183 [(.mp 3)]),some (.box 115 [(.fn 98 [(.rp (aF dl sk dc) 0)] [])]),some (.box 185 [(.fn 99 [] [(.ptr 0 0),(.ptr 2 0)])])] (pB Ha) [some (.box 106 [(.rp (aF dl sk dc) 0)]),some (.box 31 [(.p ov)]),some (.box 119 [(.fn 100 [] [(.ptr 4 0),(.ptr 5 0),(.ptr 0 0),(.ptr 2 0)]),(.fn 102 [] [(.ptr 6 0)]),(.fn 103 [] [(.ptr 2 0),(.ptr 1 0)]),(.fn 106 [] [(.ptr 2 0)]),(.fn 104 [] [(.ptr 6 0)])]),some (.mp (oB (aK Hi) (.int .i64 x0) (blP Ha)) Hi.length),some (.box 183 [(.mp 3)]),some (.box 115 [(.fn 98 [(.rp (aF dl sk dc) 0)] [])]),some (.box 185 [(.fn 99 [] [(.ptr 0 0),(.ptr 2 0)])])]:=have k1:=fk 8 (aHp dl sk dc x0 x1 x2 x3 x4 x5) rfl;FMM.fi 7 gE func100 [bF,k1.o,.x (.mp (abE dc)),bT,.x (fS y0),G1.k 1 (gI aq [7]),bT] (gc h7 (gc h6 (gc G1.code (gc h4 (gc h3 (gc h2 (gr (.mp (abE dc)) (gc k1 (gc h1 (gc h0 gn))))))))))
theorem bSg(h7:(cW (aK Hi) (.int .i64 x0))=false):FMM Tp 100 [(.p (dcE x0 x1 x2 x3 x4 x5)),(.ptr 4 0),(.ptr 5 0),(.ptr 0 0),(.ptr 2 0)] [some (.box 106 [(.rp (aF dl sk dc) 0)]),some (.box 31 [(.p ov)]),some (.box 119 [(.fn 100 [] [(.ptr 4 0),(.ptr 5 0),(.ptr 0 0),(.ptr 2 0)]),(.fn 102 [] [(.ptr 6 0)]),(.fn 103 [] [(.ptr 2 0),(.ptr 1 0)]),(.fn 106 [] [(.ptr 2 0)]),(.fn 104 [] [(.ptr 6 0)])]),some (.mp (aK T) T.length),some (.box 183 [(.mp 3)]),some (.box 115 [(.fn 98 [(.rp (aF dl sk dc) 0)] [])]),some (.box 185 [(.fn 99 [] [(.ptr 0 0),(.ptr 2 0)])])] (pB Ha) [some (.box 106 [(.rp (aF dl sk dc) 0)]),some (.box 31 [(.p ov)]),some (.box 119 [(.fn 100 [] [(.ptr 4 0),(.ptr 5 0),(.ptr 0 0),(.ptr 2 0)]),(.fn 102 [] [(.ptr 6 0)]),(.fn 103 [] [(.ptr 2 0),(.ptr 1 0)]),(.fn 106 [] [(.ptr 2 0)]),(.fn 104 [] [(.ptr 6 0)])]),some (.mp ((aK Hi)++[((.int .i64 x0),(blP Ha))]) (Hi.length+1)),some (.box 183 [(.mp 3)]),some (.box 115 [(.fn 98 [(.rp (aF dl sk dc) 0)] [])]),some (.box 185 [(.fn 99 [] [(.ptr 0 0),(.ptr 2 0)])])]:=have k1:=fk 8 (aHp dl sk dc x0 x1 x2 x3 x4 x5) rfl;FMM.fi 7 gE func100 [bF,k1.o,.x (.mp (abE dc)),bT,.x (fS y0),G1.k 1 (gI aq [7]),bF] (gc h7 (gc h6 (gc G1.code (gc h4 (gc h3 (gc h2 (gr (.mp (abE dc)) (gc k1 (gc h1 (gc h0 gn))))))))))
end
section
variable(h0:bQ .i64 (aK T) (.int .i64 x0))(h1:(cW (aK T) (.int .i64 x0))=false)(h2:bQ .i64 (abE dc) (.int .i64 x0))(h3:(cW (abE dc) (.int .i64 x0))=false)(M9:aG Tp 7 iI (cH dl sk dc ov x0 x1 x2 x3 x4 x5 (!(sP dl [x0,x1,x2,x3,x4,x5])) 0 ([]:Lqq) 0 (aK T) T.length) (.exit 0) (cH dl sk dc ov x0 x1 x2 x3 x4 x5 G9 Ei Lk Ll (aK Dq) Dq.length))(h5:bQ .i64 (aK Dq) (.int .i64 x0))
include h0 h1 h2 h3 M9 h5
theorem bSh(h6:(cW (aK Dq) (.int .i64 x0))=true):FMM Tp 100 [(.p (dcE x0 x1 x2 x3 x4 x5)),(.ptr 4 0),(.ptr 5 0),(.ptr 0 0),(.ptr 2 0)] [some (.box 106 [(.rp (aF dl sk dc) 0)]),some (.box 31 [(.p ov)]),some (.box 119 [(.fn 100 [] [(.ptr 4 0),(.ptr 5 0),(.ptr 0 0),(.ptr 2 0)]),(.fn 102 [] [(.ptr 6 0)]),(.fn 103 [] [(.ptr 2 0),(.ptr 1 0)]),(.fn 106 [] [(.ptr 2 0)]),(.fn 104 [] [(.ptr 6 0)])]),some (.mp (aK T) T.length),some (.box 183 [(.mp 3)]),some (.box 115 [(.fn 98 [(.rp (aF dl sk dc) 0)] [])]),some (.box 185 [(.fn 99 [] [(.ptr 0 0),(.ptr 2 0)])])] (pB G9) [some (.box 106 [(.rp (aF dl sk dc) 0)]),some (.box 31 [(.p ov)]),some (.box 119 [(.fn 100 [] [(.ptr 4 0),(.ptr 5 0),(.ptr 0 0),(.ptr 2 0)]),(.fn 102 [] [(.ptr 6 0)]),(.fn 103 [] [(.ptr 2 0),(.ptr 1 0)]),(.fn 106 [] [(.ptr 2 0)]),(.fn 104 [] [(.ptr 6 0)])]),some (.mp (oB (aK Dq) (.int .i64 x0) (blP G9)) Dq.length),some (.box 183 [(.mp 3)]),some (.box 115 [(.fn 98 [(.rp (aF dl sk dc) 0)] [])]),some (.box 185 [(.fn 99 [] [(.ptr 0 0),(.ptr 2 0)])])]:=have k1:=fk 8 (aHp dl sk dc x0 x1 x2 x3 x4 x5) rfl;FMM.fi 7 gE func100 [bF,k1.o,.x (.mp (abE dc)),bF,M9.k 1 (gN aq [7] [(32,99999)]),bT] (gc h6 (gc h5 (gc M9.code (gc h3 (gc h2 (gr (.mp (abE dc)) (gc k1 (gc h1 (gc h0 gn)))))))))
theorem bSi(h6:(cW (aK Dq) (.int .i64 x0))=false):FMM Tp 100 [(.p (dcE x0 x1 x2 x3 x4 x5)),(.ptr 4 0),(.ptr 5 0),(.ptr 0 0),(.ptr 2 0)] [some (.box 106 [(.rp (aF dl sk dc) 0)]),some (.box 31 [(.p ov)]),some (.box 119 [(.fn 100 [] [(.ptr 4 0),(.ptr 5 0),(.ptr 0 0),(.ptr 2 0)]),(.fn 102 [] [(.ptr 6 0)]),(.fn 103 [] [(.ptr 2 0),(.ptr 1 0)]),(.fn 106 [] [(.ptr 2 0)]),(.fn 104 [] [(.ptr 6 0)])]),some (.mp (aK T) T.length),some (.box 183 [(.mp 3)]),some (.box 115 [(.fn 98 [(.rp (aF dl sk dc) 0)] [])]),some (.box 185 [(.fn 99 [] [(.ptr 0 0),(.ptr 2 0)])])] (pB G9) [some (.box 106 [(.rp (aF dl sk dc) 0)]),some (.box 31 [(.p ov)]),some (.box 119 [(.fn 100 [] [(.ptr 4 0),(.ptr 5 0),(.ptr 0 0),(.ptr 2 0)]),(.fn 102 [] [(.ptr 6 0)]),(.fn 103 [] [(.ptr 2 0),(.ptr 1 0)]),(.fn 106 [] [(.ptr 2 0)]),(.fn 104 [] [(.ptr 6 0)])]),some (.mp ((aK Dq)++[((.int .i64 x0),(blP G9))]) (Dq.length+1)),some (.box 183 [(.mp 3)]),some (.box 115 [(.fn 98 [(.rp (aF dl sk dc) 0)] [])]),some (.box 185 [(.fn 99 [] [(.ptr 0 0),(.ptr 2 0)])])]:=have k1:=fk 8 (aHp dl sk dc x0 x1 x2 x3 x4 x5) rfl;FMM.fi 7 gE func100 [bF,k1.o,.x (.mp (abE dc)),bF,M9.k 1 (gN aq [7] [(32,99999)]),bF] (gc h6 (gc h5 (gc M9.code (gc h3 (gc h2 (gr (.mp (abE dc)) (gc k1 (gc h1 (gc h0 gn)))))))))
end
section
variable(h0:(i:Int)<(n:Int))(h1:l[i]? = some [Aa,Ab,Ac,Ad,Ae,Af])(h2:uni 6 l)(h3:Ab=5)
include h0 h1 h2 h3
theorem aYx(h4:is=true)(h5:qZ dl sk dc ov [Aa,Ab,Ac,Ad,Ae,Af] Ay t T107)(h6:Ay=true)(h7:co i)(Ak:i'=(i+1))(Ao:aK t'=(aK T107))(Ap:t'.length=T107.length):aC Tp 7 iI (cH dl sk dc ov x0 x1 x2 x3 x4 x5 is i l n (aK t) t.length) .normal (cH dl sk dc ov x0 x1 x2 x3 x4 x5 false i' l n (aK t') t'.length):=by
 subst Ak;have k1:=mq bz 9 h5;rw [Ao,Ap];exact aC.fi (gN aq [7] [(9,0)]) ([bT,.x (dcE Aa Ab Ac Ad Ae Af)]++rT 8++[k1.o]++rT 11) (gc h7 (gc h6 (gc (eJ h3) (gc h6 (Ba (eJ h3) (Ba h6 (gc k1 (Bn h4 (Lg (eJ h3) (gfl h2 h1 (g0 h0)))))))))))
theorem aYy(h4:is=true)(h5:qZ dl sk dc ov [Aa,Ab,Ac,Ad,Ae,Af] Ay t T107)(h6:Ay=false)(h7:co i)(Ak:i'=(i+1))(Ao:aK t'=(aK T107))(Ap:t'.length=T107.length):aC Tp 7 iI (cH dl sk dc ov x0 x1 x2 x3 x4 x5 is i l n (aK t) t.length) .normal (cH dl sk dc ov x0 x1 x2 x3 x4 x5 is i' l n (aK t') t'.length):=by
 subst Ak;have k1:=mq bz 9 h5;rw [Ao,Ap];exact aC.fi (gI aq [7]) ([bT,.x (dcE Aa Ab Ac Ad Ae Af)]++rT 8++[k1.o]++rF 6) (gc h7 (Lg h6 (gc k1 (Bn h4 (Lg (eJ h3) (gfl h2 h1 (g0 h0)))))))
theorem aYz(h4:is=false)(h5:co i)(Ak:i'=(i+1)):aC Tp 7 iI (cH dl sk dc ov x0 x1 x2 x3 x4 x5 is i l n (aK t) t.length) .normal (cH dl sk dc ov x0 x1 x2 x3 x4 x5 is i' l n (aK t) t.length):=by
 subst Ak;exact aC.fi (gI aq [7]) ([bT,.x (dcE Aa Ab Ac Ad Ae Af)]++rT 6++[bF,bF]) (gc h5 (Bn h4 (Lg (eJ h3) (gfl h2 h1 (g0 h0)))))
end
section
variable(h0:(i:Int)<(n:Int))(h1:l[i]? = some [Aa,Ab,Ac,Ad,Ae,Af])(h2:uni 6 l)(h3:Ab≠5)(h4:Ab=7)(h5:is=true)(h6:(cJ x1)=false)(h7:qZ dl sk dc ov [Aa,Ab,Ac,Ad,Ae,Af] Ay t T107)
include h0 h1 h2 h3 h4 h5 h6 h7
theorem aZa(h8:Ay=true)(h9:bKn dl sk dc ov [Aa,Ab,Ac,Ad,Ae,Af] Jd T107 T109)(A5:Jd=true)(B3:co i)(Ak:i'=(i+1))(Ao:aK t'=(aK T109))(Ap:t'.length=T109.length):aC Tp 7 iI (cH dl sk dc ov x0 x1 x2 x3 x4 x5 is i l n (aK t) t.length) .normal (cH dl sk dc ov x0 x1 x2 x3 x4 x5 false i' l n (aK t') t'.length):=by
 subst Ak;have k1:=mq bz 9 h7;have k2:=mq bz 9 h9;rw [Ao,Ap];exact aC.fi (gN aq [7] [(9,0)]) ([bT,.x (dcE Aa Ab Ac Ad Ae Af),bF,bF,bF,bF,bT,bT,bT,.c (pB (cJ x1)) [],bT,bF,bT,bF]++rT 6++[k1.o]++rT 5++[bF,bF,bF,bF,k2.o,bT,bF,bT,bT]) (gc B3 (gc A5 (gc h8 (gc (bI h3) (gc h8 (gc k2 (Ba (bI h3) (Ba h8 (gc (cE h6) (gc k1 (Ba (cE h6) (Bn h5 (gc (bI h3) (gc (eJ h4) (gc (bI h3) (gc (eJ h4) (gc (fk 9 (mK x1) rfl) (Aw (eJ h4) (Ba (bI h3) (gfl h2 h1 (g0 h0)))))))))))))))))))))
theorem aZb(h8:Ay=true)(h9:bKn dl sk dc ov [Aa,Ab,Ac,Ad,Ae,Af] Jd T107 T109)(A5:Jd=false)(B3:co i)(Ak:i'=(i+1))(Ao:aK t'=(aK T109))(Ap:t'.length=T109.length):aC Tp 7 iI (cH dl sk dc ov x0 x1 x2 x3 x4 x5 is i l n (aK t) t.length) .normal (cH dl sk dc ov x0 x1 x2 x3 x4 x5 is i' l n (aK t') t'.length):=by
 subst Ak;have k1:=mq bz 9 h7;have k2:=mq bz 9 h9;rw [Ao,Ap];exact aC.fi (gI aq [7]) ([bT,.x (dcE Aa Ab Ac Ad Ae Af),bF,bF,bF,bF,bT,bT,bT,.c (pB (cJ x1)) [],bT,bF,bT,bF]++rT 6++[k1.o]++rT 5++[bF,bF,bF,bF,k2.o,bT,bF,bT,bF]) (gc B3 (gc A5 (gc h8 (gc (bI h3) (gc h8 (gc k2 (Ba (bI h3) (Ba h8 (gc (cE h6) (gc k1 (Ba (cE h6) (Bn h5 (gc (bI h3) (gc (eJ h4) (gc (bI h3) (gc (eJ h4) (gc (fk 9 (mK x1) rfl) (Aw (eJ h4) (Ba (bI h3) (gfl h2 h1 (g0 h0)))))))))))))))))))))
theorem aZc(h8:Ay=false)(h9:co i)(Ak:i'=(i+1))(Ao:aK t'=(aK T107))(Ap:t'.length=T107.length):aC Tp 7 iI (cH dl sk dc ov x0 x1 x2 x3 x4 x5 is i l n (aK t) t.length) .normal (cH dl sk dc ov x0 x1 x2 x3 x4 x5 is i' l n (aK t') t'.length):=by
 subst Ak;have k1:=mq bz 9 h7;rw [Ao,Ap];exact aC.fi (gI aq [7]) ([bT,.x (dcE Aa Ab Ac Ad Ae Af),bF,bF,bF,bF,bT,bT,bT,.c (pB (cJ x1)) [],bT,bF,bT,bF]++rT 6++[k1.o,bT]++rF 6) (gc h9 (Lg h8 (gc (cE h6) (gc k1 (Ba (cE h6) (Bn h5 (gc (bI h3) (gc (eJ h4) (gc (bI h3) (gc (eJ h4) (gc (fk 9 (mK x1) rfl) (Aw (eJ h4) (Ba (bI h3) (gfl h2 h1 (g0 h0)))))))))))))))
end
section
variable(h0:(i:Int)<(n:Int))(h1:l[i]? = some [Aa,Ab,Ac,Ad,Ae,Af])(h2:uni 6 l)(h3:Ab≠5)
include h0 h1 h2 h3
theorem aZd(h4:Ab=7)(h5:is=true)(h6:(cJ x1)=true)(h7:co i)(Ak:i'=(i+1)):aC Tp 7 iI (cH dl sk dc ov x0 x1 x2 x3 x4 x5 is i l n (aK t) t.length) .normal (cH dl sk dc ov x0 x1 x2 x3 x4 x5 is i' l n (aK t) t.length):=by
 subst Ak;exact aC.fi (gI aq [7]) ([bT,.x (dcE Aa Ab Ac Ad Ae Af),bF,bF,bF,bF,bT,bT,bT,.c (pB (cJ x1)) [],bT,bF,bT,bF,bT,bT]++rF 5) (gc h7 (Dp (aW h6) (Bn h5 (gc (bI h3) (gc (eJ h4) (gc (bI h3) (gc (eJ h4) (gc (fk 9 (mK x1) rfl) (Aw (eJ h4) (Ba (bI h3) (gfl h2 h1 (g0 h0))))))))))))
theorem aZe(h4:Ab=7)(h5:is=false)(h6:co i)(Ak:i'=(i+1)):aC Tp 7 iI (cH dl sk dc ov x0 x1 x2 x3 x4 x5 is i l n (aK t) t.length) .normal (cH dl sk dc ov x0 x1 x2 x3 x4 x5 is i' l n (aK t) t.length):=by
 subst Ak;exact aC.fi (gI aq [7]) [bT,.x (dcE Aa Ab Ac Ad Ae Af),bF,bF,bF,bF,bT,bT,bT,.c (pB (cJ x1)) [],bT,bF,bT,bF,bF,bF] (gc h6 (Bn h5 (gc (bI h3) (gc (eJ h4) (gc (bI h3) (gc (eJ h4) (gc (fk 9 (mK x1) rfl) (Aw (eJ h4) (Ba (bI h3) (gfl h2 h1 (g0 h0)))))))))))
theorem aZf(h4:Ab≠7)(h5:is=true)(h6:co i)(Ak:i'=(i+1)):aC Tp 7 iI (cH dl sk dc ov x0 x1 x2 x3 x4 x5 is i l n (aK t) t.length) .normal (cH dl sk dc ov x0 x1 x2 x3 x4 x5 is i' l n (aK t) t.length):=by
 subst Ak;exact aC.fi (gI aq [7]) ([bT,.x (dcE Aa Ab Ac Ad Ae Af)]++rF 11++[bT,bT]) (gc h6 (Bn h5 (gc (bI h3) (gc (bI h4) (gc (bI h3) (Ba (bI h4) (Ba (bI h3) (gfl h2 h1 (g0 h0)))))))))
theorem aZg(h4:Ab≠7)(h5:is=false)(h6:co i)(Ak:i'=(i+1)):aC Tp 7 iI (cH dl sk dc ov x0 x1 x2 x3 x4 x5 is i l n (aK t) t.length) .normal (cH dl sk dc ov x0 x1 x2 x3 x4 x5 is i' l n (aK t) t.length):=by
 subst Ak;exact aC.fi (gI aq [7]) ([bT,.x (dcE Aa Ab Ac Ad Ae Af)]++rF 13) (gc h6 (Bn h5 (gc (bI h3) (gc (bI h4) (gc (bI h3) (Ba (bI h4) (Ba (bI h3) (gfl h2 h1 (g0 h0)))))))))
end
theorem aPr(h0:(n:Int)≤(i:Int)):aC Tp 7 iI (cH dl sk dc ov x0 x1 x2 x3 x4 x5 is i l n (aK t) t.length) (.exit 0) (cH dl sk dc ov x0 x1 x2 x3 x4 x5 is i l n (aK t) t.length):=aC.fi (gI aq [7]) [bF] (gc (aS h0) gn)
theorem bFf(h0:bRy 101 dl sk dc ov [x0,x1,x2,x3,x4,x5] [z0,z1,z2,z3,z4,z5] b6 T T7):FMM Tp 102 [(.p (dcE x0 x1 x2 x3 x4 x5)),(.ptr 6 0)] [some (.box 106 [(.rp (aF dl sk dc) 0)]),some (.box 31 [(.p ov)]),some (.box 119 [(.fn 100 [] [(.ptr 4 0),(.ptr 5 0),(.ptr 0 0),(.ptr 2 0)]),(.fn 102 [] [(.ptr 6 0)]),(.fn 103 [] [(.ptr 2 0),(.ptr 1 0)]),(.fn 106 [] [(.ptr 2 0)]),(.fn 104 [] [(.ptr 6 0)])]),some (.mp (aK T) T.length),some (.box 183 [(.mp 3)]),some (.box 115 [(.fn 98 [(.rp (aF dl sk dc) 0)] [])]),some (.box 185 [(.fn 99 [] [(.ptr 0 0),(.ptr 2 0)])])] (.tup [(.p (dcE z0 z1 z2 z3 z4 z5)),(pB b6)]) [some (.box 106 [(.rp (aF dl sk dc) 0)]),some (.box 31 [(.p ov)]),some (.box 119 [(.fn 100 [] [(.ptr 4 0),(.ptr 5 0),(.ptr 0 0),(.ptr 2 0)]),(.fn 102 [] [(.ptr 6 0)]),(.fn 103 [] [(.ptr 2 0),(.ptr 1 0)]),(.fn 106 [] [(.ptr 2 0)]),(.fn 104 [] [(.ptr 6 0)])]),some (.mp (aK T7) T7.length),some (.box 183 [(.mp 3)]),some (.box 115 [(.fn 98 [(.rp (aF dl sk dc) 0)] [])]),some (.box 185 [(.fn 99 [] [(.ptr 0 0),(.ptr 2 0)])])]:=have k1:=mq bz 9 h0;FMM.fi 7 gE func102 [k1.o] (gc k1 gn)
theorem bFg(h0:bRy 105 dl sk dc ov [x0,x1,x2,x3,x4,x5] [z0,z1,z2,z3,z4,z5] b6 T T7):FMM Tp 104 [(.p (dcE x0 x1 x2 x3 x4 x5)),(.ptr 6 0)] [some (.box 106 [(.rp (aF dl sk dc) 0)]),some (.box 31 [(.p ov)]),some (.box 119 [(.fn 100 [] [(.ptr 4 0),(.ptr 5 0),(.ptr 0 0),(.ptr 2 0)]),(.fn 102 [] [(.ptr 6 0)]),(.fn 103 [] [(.ptr 2 0),(.ptr 1 0)]),(.fn 106 [] [(.ptr 2 0)]),(.fn 104 [] [(.ptr 6 0)])]),some (.mp (aK T) T.length),some (.box 183 [(.mp 3)]),some (.box 115 [(.fn 98 [(.rp (aF dl sk dc) 0)] [])]),some (.box 185 [(.fn 99 [] [(.ptr 0 0),(.ptr 2 0)])])] (.tup [(.p (dcE z0 z1 z2 z3 z4 z5)),(pB b6)]) [some (.box 106 [(.rp (aF dl sk dc) 0)]),some (.box 31 [(.p ov)]),some (.box 119 [(.fn 100 [] [(.ptr 4 0),(.ptr 5 0),(.ptr 0 0),(.ptr 2 0)]),(.fn 102 [] [(.ptr 6 0)]),(.fn 103 [] [(.ptr 2 0),(.ptr 1 0)]),(.fn 106 [] [(.ptr 2 0)]),(.fn 104 [] [(.ptr 6 0)])]),some (.mp (aK T7) T7.length),some (.box 183 [(.mp 3)]),some (.box 115 [(.fn 98 [(.rp (aF dl sk dc) 0)] [])]),some (.box 185 [(.fn 99 [] [(.ptr 0 0),(.ptr 2 0)])])]:=have k1:=mq bz 9 h0;FMM.fi 7 gE func104 [k1.o] (gc k1 gn)
section
variable(h0:aLd dl sk dc ov [x0,x1,x2,x3,x4,x5] [z0,z1,z2,z3,z4,z5] b6 T T7)
include h0
theorem bSj(h1:b6=true)(An:r0=(z1 == 8)):FMM Tp 103 [(.p (dcE x0 x1 x2 x3 x4 x5)),(.ptr 2 0),(.ptr 1 0)] [some (.box 106 [(.rp (aF dl sk dc) 0)]),some (.box 31 [(.p ov)]),some (.box 119 [(.fn 100 [] [(.ptr 4 0),(.ptr 5 0),(.ptr 0 0),(.ptr 2 0)]),(.fn 102 [] [(.ptr 6 0)]),(.fn 103 [] [(.ptr 2 0),(.ptr 1 0)]),(.fn 106 [] [(.ptr 2 0)]),(.fn 104 [] [(.ptr 6 0)])]),some (.mp (aK T) T.length),some (.box 183 [(.mp 3)]),some (.box 115 [(.fn 98 [(.rp (aF dl sk dc) 0)] [])]),some (.box 185 [(.fn 99 [] [(.ptr 0 0),(.ptr 2 0)])])] (pB r0) [some (.box 106 [(.rp (aF dl sk dc) 0)]),some (.box 31 [(.p ov)]),some (.box 119 [(.fn 100 [] [(.ptr 4 0),(.ptr 5 0),(.ptr 0 0),(.ptr 2 0)]),(.fn 102 [] [(.ptr 6 0)]),(.fn 103 [] [(.ptr 2 0),(.ptr 1 0)]),(.fn 106 [] [(.ptr 2 0)]),(.fn 104 [] [(.ptr 6 0)])]),some (.mp (aK T7) T7.length),some (.box 183 [(.mp 3)]),some (.box 115 [(.fn 98 [(.rp (aF dl sk dc) 0)] [])]),some (.box 185 [(.fn 99 [] [(.ptr 0 0),(.ptr 2 0)])])]:=by
 subst An;have k1:=mq bz 8 h0;exact FMM.fi 7 gE func103 [k1.o,bT] (gc h1 (gc k1 gn))
theorem bSk{b8:Bool}(h1:b6=false)(h2:sF ov x0 b8):FMM Tp 103 [(.p (dcE x0 x1 x2 x3 x4 x5)),(.ptr 2 0),(.ptr 1 0)] [some (.box 106 [(.rp (aF dl sk dc) 0)]),some (.box 31 [(.p ov)]),some (.box 119 [(.fn 100 [] [(.ptr 4 0),(.ptr 5 0),(.ptr 0 0),(.ptr 2 0)]),(.fn 102 [] [(.ptr 6 0)]),(.fn 103 [] [(.ptr 2 0),(.ptr 1 0)]),(.fn 106 [] [(.ptr 2 0)]),(.fn 104 [] [(.ptr 6 0)])]),some (.mp (aK T) T.length),some (.box 183 [(.mp 3)]),some (.box 115 [(.fn 98 [(.rp (aF dl sk dc) 0)] [])]),some (.box 185 [(.fn 99 [] [(.ptr 0 0),(.ptr 2 0)])])] (pB b8) [some (.box 106 [(.rp (aF dl sk dc) 0)]),some (.box 31 [(.p ov)]),some (.box 119 [(.fn 100 [] [(.ptr 4 0),(.ptr 5 0),(.ptr 0 0),(.ptr 2 0)]),(.fn 102 [] [(.ptr 6 0)]),(.fn 103 [] [(.ptr 2 0),(.ptr 1 0)]),(.fn 106 [] [(.ptr 2 0)]),(.fn 104 [] [(.ptr 6 0)])]),some (.mp (aK T7) T7.length),some (.box 183 [(.mp 3)]),some (.box 115 [(.fn 98 [(.rp (aF dl sk dc) 0)] [])]),some (.box 185 [(.fn 99 [] [(.ptr 0 0),(.ptr 2 0)])])]:=have k1:=mq bz 8 h0;FMM.fi 7 gE func103 [k1.o,bF,.c (pB b8) []] (gc (fk 9 (h2 _) rfl) (gc h1 (gc k1 gn)))
end
section
variable(h0:bRz dl sk dc ov [x0,x1,x2,x3,x4,x5] [z0,z1,z2,z3,z4,z5] b6 T T7)
include h0
theorem bSl{m8:Int}{T9:Lqb}(h1:b6=true)(h2:yQ dl sk dc ov [z0,z1,z2,z3,z4,z5] m8 T7 T9):FMM Tp 106 [(.p (dcE x0 x1 x2 x3 x4 x5)),(.ptr 2 0)] [some (.box 106 [(.rp (aF dl sk dc) 0)]),some (.box 31 [(.p ov)]),some (.box 119 [(.fn 100 [] [(.ptr 4 0),(.ptr 5 0),(.ptr 0 0),(.ptr 2 0)]),(.fn 102 [] [(.ptr 6 0)]),(.fn 103 [] [(.ptr 2 0),(.ptr 1 0)]),(.fn 106 [] [(.ptr 2 0)]),(.fn 104 [] [(.ptr 6 0)])]),some (.mp (aK T) T.length),some (.box 183 [(.mp 3)]),some (.box 115 [(.fn 98 [(.rp (aF dl sk dc) 0)] [])]),some (.box 185 [(.fn 99 [] [(.ptr 0 0),(.ptr 2 0)])])] (pI m8) [some (.box 106 [(.rp (aF dl sk dc) 0)]),some (.box 31 [(.p ov)]),some (.box 119 [(.fn 100 [] [(.ptr 4 0),(.ptr 5 0),(.ptr 0 0),(.ptr 2 0)]),(.fn 102 [] [(.ptr 6 0)]),(.fn 103 [] [(.ptr 2 0),(.ptr 1 0)]),(.fn 106 [] [(.ptr 2 0)]),(.fn 104 [] [(.ptr 6 0)])]),some (.mp (aK T9) T9.length),some (.box 183 [(.mp 3)]),some (.box 115 [(.fn 98 [(.rp (aF dl sk dc) 0)] [])]),some (.box 185 [(.fn 99 [] [(.ptr 0 0),(.ptr 2 0)])])]:=have k1:=mq bz 8 h0;have k2:=mq bz 9 h2;FMM.fi 7 gE func106 [k1.o,bT,k2.o] (gc k2 (gc h1 (gc k1 gn)))
theorem bSm(h1:b6=false):FMM Tp 106 [(.p (dcE x0 x1 x2 x3 x4 x5)),(.ptr 2 0)] [some (.box 106 [(.rp (aF dl sk dc) 0)]),some (.box 31 [(.p ov)]),some (.box 119 [(.fn 100 [] [(.ptr 4 0),(.ptr 5 0),(.ptr 0 0),(.ptr 2 0)]),(.fn 102 [] [(.ptr 6 0)]),(.fn 103 [] [(.ptr 2 0),(.ptr 1 0)]),(.fn 106 [] [(.ptr 2 0)]),(.fn 104 [] [(.ptr 6 0)])]),some (.mp (aK T) T.length),some (.box 183 [(.mp 3)]),some (.box 115 [(.fn 98 [(.rp (aF dl sk dc) 0)] [])]),some (.box 185 [(.fn 99 [] [(.ptr 0 0),(.ptr 2 0)])])] (pI x4) [some (.box 106 [(.rp (aF dl sk dc) 0)]),some (.box 31 [(.p ov)]),some (.box 119 [(.fn 100 [] [(.ptr 4 0),(.ptr 5 0),(.ptr 0 0),(.ptr 2 0)]),(.fn 102 [] [(.ptr 6 0)]),(.fn 103 [] [(.ptr 2 0),(.ptr 1 0)]),(.fn 106 [] [(.ptr 2 0)]),(.fn 104 [] [(.ptr 6 0)])]),some (.mp (aK T7) T7.length),some (.box 183 [(.mp 3)]),some (.box 115 [(.fn 98 [(.rp (aF dl sk dc) 0)] [])]),some (.box 185 [(.fn 99 [] [(.ptr 0 0),(.ptr 2 0)])])]:=have k1:=mq bz 8 h0;FMM.fi 7 gE func106 [k1.o,bF] (gc h1 (gc k1 gn))
end
theorem aHq:FMM Tp 54 [(.rp (aF dl sk dc) 0),(.p dZ)] [] (.agg [(.fn 100 [] [(.ptr 4 0),(.ptr 5 0),(.ptr 0 0),(.ptr 2 0)]),(.fn 102 [] [(.ptr 6 0)]),(.fn 103 [] [(.ptr 2 0),(.ptr 1 0)]),(.fn 106 [] [(.ptr 2 0)]),(.fn 104 [] [(.ptr 6 0)])]) [some (.box 106 [(.rp (aF dl sk dc) 0)]),some (.box 31 [(.p dZ)]),some (.box 119 [(.fn 100 [] [(.ptr 4 0),(.ptr 5 0),(.ptr 0 0),(.ptr 2 0)]),(.fn 102 [] [(.ptr 6 0)]),(.fn 103 [] [(.ptr 2 0),(.ptr 1 0)]),(.fn 106 [] [(.ptr 2 0)]),(.fn 104 [] [(.ptr 6 0)])]),some (.mp [] 0),some (.box 183 [(.mp 3)]),some (.box 115 [(.fn 98 [(.rp (aF dl sk dc) 0)] [])]),some (.box 185 [(.fn 99 [] [(.ptr 0 0),(.ptr 2 0)])])]:=FMM.fi 0 ⟨[],[0,1,3,4,5,6,7],[],[]⟩ func54 [] gn
theorem oX{on:Nat}{ol:List PV}:FMM Tp 54 [(.rp (aF dl sk dc) 0),(.p (.sl on ol))] [] (.agg [(.fn 100 [] [(.ptr 4 0),(.ptr 5 0),(.ptr 0 0),(.ptr 2 0)]),(.fn 102 [] [(.ptr 6 0)]),(.fn 103 [] [(.ptr 2 0),(.ptr 1 0)]),(.fn 106 [] [(.ptr 2 0)]),(.fn 104 [] [(.ptr 6 0)])]) [some (.box 106 [(.rp (aF dl sk dc) 0)]),some (.box 31 [(.p (.sl on ol))]),some (.box 119 [(.fn 100 [] [(.ptr 4 0),(.ptr 5 0),(.ptr 0 0),(.ptr 2 0)]),(.fn 102 [] [(.ptr 6 0)]),(.fn 103 [] [(.ptr 2 0),(.ptr 1 0)]),(.fn 106 [] [(.ptr 2 0)]),(.fn 104 [] [(.ptr 6 0)])]),some (.mp [] 0),some (.box 183 [(.mp 3)]),some (.box 115 [(.fn 98 [(.rp (aF dl sk dc) 0)] [])]),some (.box 185 [(.fn 99 [] [(.ptr 0 0),(.ptr 2 0)])])]:=FMM.fi 0 ⟨[],[0,1,3,4,5,6,7],[],[]⟩ func54 [] gn
end
end KV
end Go.Proofs
