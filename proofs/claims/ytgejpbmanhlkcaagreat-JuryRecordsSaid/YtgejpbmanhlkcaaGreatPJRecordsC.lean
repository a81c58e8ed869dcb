/- Parts of the proof of JRecords: laws of walks, contracts of functions, plain models. No condition. -/
import Derived.Shelf.SlSortCmp.WholeK
import Derived.Shelf.SlicesG.Cmp
import Derived.Ground.SlsfProg
import Derived.Ground.SlgcProg
import Derived.Ground.NamesProg
import Derived.Test.YtgejpbmanhlkcaaGreatProg
import Derived.Shelf.SlSortCmp.NoneTotal
import Derived.Lib.OwnBridge
import Derived.Shelf.Slices.Clone
import Derived.RangeFuncNested
import Derived.Maps.Keyed
import Derived.Maps.AppendAt
import Derived.OrdersHeld
import Derived.Great.BuildSlice
import Derived.Test.YtgejpbmanhlkcaaGreatPJRecordsB
set_option linter.unusedVariables false
set_option linter.unusedSimpArgs false
set_option maxRecDepth 100000
section
namespace Go.Proofs
open Go.RowKit Go.Lib Go.Sort
namespace KV

theorem aLn{P:Program}{C:Cx}{w w':World}{ty n b:Nat}{cs cs':List PV}{arr arr':Array Value}(hM:aV P C [some (.row ty n cs)] w)(hι:C.ι 0=some b)(hb:w.heap[b]? = some (.cells arr ty (0,0)))
  (hos:w'.os=w.os) (htp:w'.tape=w.tape) (hou:w'.output=w.output) (hsz:w.heap.size≤w'.heap.size) (hot:∀ b',b'<w.heap.size→b'≠b→w'.heap[b']? = w.heap[b']?)
  (hb':w'.heap[b]? = some (.cells arr' ty (0,0))) (hsa:arr'.size=arr.size) (hl:cs'.length=cs.length) (hr:∀ j (h:j<cs'.length),cN C.F w' cs'[j] (arr'.getD j undef)) (ho:∀ j,j<cs'.length→(arr'.getD j undef).oneCell'=true) :
  Fr C [some (.row ty n cs)] w C [some (.row ty n cs')] w'∧aV P C [some (.row ty n cs')] w':=by
 have at0:∀ (id:Nat) (o:AO),([some (.row ty n cs)]:Mem)[id]? = some (some o)→id=0∧o = .row ty n cs:=fun id o h=>by
  cases id with
  | zero=>simp at h;exact ⟨rfl,h.symm⟩
  | succ i=>simp at h
 have at1:∀ (id:Nat) (o:AO),([some (.row ty n cs')]:Mem)[id]? = some (some o)→id=0∧o = .row ty n cs':=fun id o h=>by
  cases id with
  | zero=>simp at h;exact ⟨rfl,h.symm⟩
  | succ i=>simp at h
 refine ⟨⟨hos,htp,hou,hsz,fun b' h1 h2=>hot b' h1 fun he => ?_,fun id o hm => ?_,fun id o hm ty' n' cs1 hx => ?_,fun id o hm o' hx hl => ?_,fun id o b' hm hl hbb => ?_,fun _ h=>h,fun _ h => .inl h⟩,
  ⟨fun id ty' n' cs1 hm => ?_,fun id ty' cs1 hm => ?_,fun id es cl hm => ?_,fun id id' o o' b' h1 _ h2 _ _ _ => ?_,fun id o b' hm hl hbb => ?_,fun b' hf=>Nat.lt_of_lt_of_le (hM.Fs b' hf) hsz,fun id o b' hm hl hbb => ?_⟩⟩
 ·subst he;exact h2 0 _ rfl rfl hι
 ·obtain ⟨rfl,rfl⟩:=at0 id o hm
  exact ⟨⟨_,rfl⟩,rfl,rfl⟩
 ·obtain ⟨rfl,rfl⟩:=at0 id o hm
  obtain ⟨_,he⟩:=at1 _ _ hx
  cases he
  exact ⟨cs,rfl⟩
 ·obtain ⟨rfl,rfl⟩:=at0 id o hm
  rfl
 ·obtain ⟨rfl,rfl⟩:=at1 id o hm
  exact .inr ⟨0,_,rfl,rfl,hbb⟩
 ·obtain ⟨rfl,he⟩:=at1 id _ hm
  cases he
  rcases hM.row 0 _ _ _ rfl with ⟨hn,_⟩ | ⟨b',arr1,i,q1,q2,q3,q4,q5,q6,q7,q8⟩
  ·rw [hι] at hn;cases hn
  ·rw [hι] at q1;cases q1
   rw [hb] at q2;cases q2
   exact .inr ⟨b,arr',i,hι,hb',q3,by rw [hsa,q4],by rw [hl,q5],q6,q7,hr,ho⟩
 ·obtain ⟨_,he⟩:=at1 id _ hm;cases he
 ·obtain ⟨_,he⟩:=at1 id _ hm;cases he
 ·obtain ⟨rfl,_⟩:=at1 id _ h1
  obtain ⟨rfl,_⟩:=at1 id' _ h2
  rfl
 ·obtain ⟨rfl,_⟩:=at1 id _ hm
  exact hM.nF 0 _ b' rfl rfl hbb
 ·obtain ⟨rfl,_⟩:=at1 id _ hm
  exact Nat.lt_of_lt_of_le (hM.lt 0 _ b' rfl rfl hbb) hsz

def lS(k:Nat)(x:List Int):List Value:=(List.range k).map fun i => .int .i64 (x.getD i 0)
theorem zM(k:Nat)(x:List Int):(lS k x).length=k:=by simp [lS]
theorem zN(k:Nat)(x:List Int):∀ v∈lS k x,v.oneCell'=true:=fun v hv=>by
 obtain ⟨i,_,rfl⟩:=List.mem_map.1 hv;rfl
def cfL(x y:List Int):Int:=compareInt (x.getD 0 0) (y.getD 0 0)
theorem ltL(x y:List Int):ltOf cfL x y=decide (x.getD 0 0<y.getD 0 0):=by
 unfold ltOf cfL compareInt
 generalize x.getD 0 0=a
 generalize y.getD 0 0=b
 by_cases h1:a<b
 ·simp [h1]
 ·by_cases h2:b<a <;> simp [h1,h2]
theorem bTk:SWO (ltOf cfL) where
 irrefl x:=by rw [ltL];simp
 trans x y z h1 h2:=by rw [ltL] at *;simp only [decide_eq_true_eq] at *;omega
 ntrans x y z h1 h2:=by rw [ltL] at *;simp only [decide_eq_false_iff_not] at *;omega
def aB(l:List (List Int)):List (List Int):=l.mergeSort fun a b=>decide (a.getD 0 0≤b.getD 0 0)
theorem dU(l:List (List Int)):(aB l).Perm l:=List.mergeSort_perm _ _
theorem kW(l:List (List Int)):(aB l).Pairwise fun a b=>a.getD 0 0≤b.getD 0 0:=by
 have:=List.pairwise_mergeSort (le:=fun a b:List Int=>decide (a.getD 0 0≤b.getD 0 0)) (fun a b c h1 h2=>by simp only [decide_eq_true_eq] at *;omega) (fun a b=>by simp only [Bool.or_eq_true,decide_eq_true_eq];omega) l
 exact this.imp fun h=>of_decide_eq_true h
theorem bFu{l:List (List Int)}(hn:(aN l 0).Nodup){a b:List Int}(ha:a∈l)(hb:b∈l)(h:a.getD 0 0=b.getD 0 0):a=b:=by
 induction l with
 | nil=>cases ha
 | cons x l ih =>
  unfold aN at hn ih
  rw [List.map_cons,List.nodup_cons] at hn
  rcases List.mem_cons.1 ha with rfl | ha' <;> rcases List.mem_cons.1 hb with rfl | hb'
  ·rfl
  ·exact absurd (List.mem_map.2 ⟨b,hb',h.symm⟩) hn.1
  ·exact absurd (List.mem_map.2 ⟨a,ha',h⟩) hn.1
  ·exact ih hn.2 ha' hb'
theorem aLo{l l':List (List Int)}(hn:(aN l 0).Nodup)(hp:l'.Perm l)(hs:l'.Pairwise fun a b=>a.getD 0 0≤b.getD 0 0):l'=aB l :=
 List.Perm.eq_of_pairwise (le:=fun a b=>a.getD 0 0≤b.getD 0 0) (fun a b ha hb h1 h2=>bFu hn (hp.mem_iff.1 ha) ((dU l).mem_iff.1 hb) (by omega)) hs (kW l) (hp.trans (dU l).symm)
theorem bBl{k:Nat}{l l':List (List Int)}(hp:l'.Perm l)(hu:uni k l):uni k l':=fun x hx=>hu x (hp.mem_iff.1 hx)
theorem eB{k:Nat}{l:List (List Int)}(hu:uni k l):uni k (aB l):=bBl (dU l) hu
theorem dV(l:List (List Int)):(aB l).length=l.length:=(dU l).length_eq
end KV
end Go.Proofs
end
section
namespace Go.Proofs
open Go.Shelf
def Tryz.sortSk_ren:Go.Shelf.Ren:=⟨fun | 6=>114 | 15=>131 | 14=>167 | 28=>180 | 29=>181 | 20=>191 | 21=>192 | 22=>193 | 23=>194 | 24=>195 | 25=>196 | 26=>197 | 27=>198 | 46=>218 | 47=>208 | 48=>209 | 49=>219 | 50=>220 | 57=>226 | n=>n,fun | 22=>23 | 24=>31 | 25=>157 | 3=>3 | 39=>172 | 0=>0 | 53=>127 | 55=>225 | 4=>4 | 46=>218 | 45=>217 | 50=>106 | 5=>5 | 9=>9 | 66=>245 | 70=>249 | 76=>257 | 77=>198 | n=>n,fun | n=>n⟩
theorem Tryz.sortSk:Go.Proofs.SlLaysF0.n6 Tryz.prog Tryz.sortSk_ren:={
 mixed:=by kernel_rfl
 f6:=⟨Tryz.f114.name,by decide,Tryz.func114.trans (congrArg some (by kernel_rfl))⟩
 f14:=⟨Tryz.f167.name,by decide,Tryz.func167.trans (congrArg some (by kernel_rfl))⟩
 f15:=Tryz.func131.trans (congrArg some (by kernel_rfl))
 f20:=⟨Tryz.f191.name,by decide,Tryz.func191.trans (congrArg some (by kernel_rfl))⟩
 f21:=⟨Tryz.f192.name,by decide,Tryz.func192.trans (congrArg some (by kernel_rfl))⟩
 f22:=⟨Tryz.f193.name,by decide,Tryz.func193.trans (congrArg some (by kernel_rfl))⟩
 f23:=⟨Tryz.f194.name,by decide,Tryz.func194.trans (congrArg some (by kernel_rfl))⟩
 f24:=⟨Tryz.f195.name,by decide,Tryz.func195.trans (congrArg some (by kernel_rfl))⟩
 f25:=⟨Tryz.f196.name,by decide,Tryz.func196.trans (congrArg some (by kernel_rfl))⟩
 f26:=⟨Tryz.f197.name,by decide,Tryz.func197.trans (congrArg some (by kernel_rfl))⟩
 f27:=⟨Tryz.f198.name,by decide,Tryz.func198.trans (congrArg some (by kernel_rfl))⟩
 f28:=Tryz.func180.trans (congrArg some (by kernel_rfl))
 f29:=Tryz.func181.trans (congrArg some (by kernel_rfl))
 f46:=⟨Tryz.f218.name,by decide,Tryz.func218.trans (congrArg some (by kernel_rfl))⟩
 f47:=Tryz.func208.trans (congrArg some (by kernel_rfl))
 f48:=Tryz.func209.trans (congrArg some (by kernel_rfl))
 f49:=⟨Tryz.f219.name,by decide,Tryz.func219.trans (congrArg some (by kernel_rfl))⟩
 f50:=⟨Tryz.f220.name,by decide,Tryz.func220.trans (congrArg some (by kernel_rfl))⟩
 f57:=⟨Tryz.f226.name,by decide,Tryz.func226.trans (congrArg some (by kernel_rfl))⟩
 t0:=Tryz.underlying0
 a0:=Tryz.isAgg0
 z0:=Tryz.sizeOf0
 v0:=Tryz.zeroValue0
 t3:=Tryz.underlying3
 a3:=Tryz.isAgg3
 z3:=Tryz.sizeOf3
 v3:=Tryz.zeroValue3
 t4:=Tryz.underlying4
 a4:=Tryz.isAgg4
 z4:=Tryz.sizeOf4
 v4:=Tryz.zeroValue4
 t5:=Tryz.underlying5
 a5:=Tryz.isAgg5
 z5:=Tryz.sizeOf5
 v5:=Tryz.zeroValue5
 t9:=Tryz.underlying9
 a9:=Tryz.isAgg9
 z9:=Tryz.sizeOf9
 v9:=Tryz.zeroValue9
 t22:=Tryz.underlying23
 a22:=Tryz.isAgg23
 z22:=Tryz.sizeOf23
 v22:=Tryz.zeroValue23
 t25:=Tryz.underlying157
 a25:=Tryz.isAgg157
 z25:=Tryz.sizeOf157
 v25:=Tryz.zeroValue157
 t39:=Tryz.underlying172
 a39:=Tryz.isAgg172
 z39:=Tryz.sizeOf172
 v39:=Tryz.zeroValue172
 t45:=Tryz.underlying217
 a45:=Tryz.isAgg217
 z45:=Tryz.sizeOf217
 v45:=Tryz.zeroValue217
 t46:=Tryz.underlying218
 a46:=Tryz.isAgg218
 z46:=Tryz.sizeOf218
 v46:=Tryz.zeroValue218
 t50:=Tryz.underlying106
 a50:=Tryz.isAgg106
 z50:=Tryz.sizeOf106
 v50:=Tryz.zeroValue106
 t53:=Tryz.underlying127
 a53:=Tryz.isAgg127
 z53:=Tryz.sizeOf127
 v53:=Tryz.zeroValue127
 t55:=Tryz.underlying225
 a55:=Tryz.isAgg225
 z55:=Tryz.sizeOf225
 v55:=Tryz.zeroValue225
 t66:=Tryz.underlying245
 a66:=Tryz.isAgg245
 z66:=Tryz.sizeOf245
 v66:=Tryz.zeroValue245
 t70:=Tryz.underlying249
 a70:=Tryz.isAgg249
 z70:=Tryz.sizeOf249
 v70:=Tryz.zeroValue249
 t76:=Tryz.underlying257
 a76:=Tryz.isAgg257
 z76:=Tryz.sizeOf257
 v76:=Tryz.zeroValue257
 t77:=Tryz.underlying198
 a77:=Tryz.isAgg198
 z77:=Tryz.sizeOf198
 v77:=Tryz.zeroValue198 }
def Tryz.sortDc_ren:Go.Shelf.Ren:=⟨fun | 6=>117 | 15=>131 | 14=>169 | 28=>180 | 29=>181 | 20=>199 | 21=>200 | 22=>201 | 23=>202 | 24=>203 | 25=>204 | 26=>205 | 27=>206 | 46=>221 | 47=>208 | 48=>209 | 49=>222 | 50=>223 | 57=>227 | n=>n,fun | 22=>24 | 24=>44 | 25=>159 | 3=>3 | 39=>172 | 0=>0 | 53=>127 | 55=>225 | 4=>4 | 46=>218 | 45=>217 | 50=>106 | 5=>5 | 9=>9 | 66=>245 | 70=>249 | 76=>257 | 77=>198 | n=>n,fun | n=>n⟩
theorem Tryz.sortDc:Go.Proofs.SlLaysF0.n6 Tryz.prog Tryz.sortDc_ren:={
 mixed:=by kernel_rfl
 f6:=⟨Tryz.f117.name,by decide,Tryz.func117.trans (congrArg some (by kernel_rfl))⟩
 f14:=⟨Tryz.f169.name,by decide,Tryz.func169.trans (congrArg some (by kernel_rfl))⟩
 f15:=Tryz.func131.trans (congrArg some (by kernel_rfl))
 f20:=⟨Tryz.f199.name,by decide,Tryz.func199.trans (congrArg some (by kernel_rfl))⟩
 f21:=⟨Tryz.f200.name,by decide,Tryz.func200.trans (congrArg some (by kernel_rfl))⟩
 f22:=⟨Tryz.f201.name,by decide,Tryz.func201.trans (congrArg some (by kernel_rfl))⟩
 f23:=⟨Tryz.f202.name,by decide,Tryz.func202.trans (congrArg some (by kernel_rfl))⟩
 f24:=⟨Tryz.f203.name,by decide,Tryz.func203.trans (congrArg some (by kernel_rfl))⟩
 f25:=⟨Tryz.f204.name,by decide,Tryz.func204.trans (congrArg some (by kernel_rfl))⟩
 f26:=⟨Tryz.f205.name,by decide,Tryz.func205.trans (congrArg some (by kernel_rfl))⟩
 f27:=⟨Tryz.f206.name,by decide,Tryz.func206.trans (congrArg some (by kernel_rfl))⟩
 f28:=Tryz.func180.trans (congrArg some (by kernel_rfl))
 f29:=Tryz.func181.trans (congrArg some (by kernel_rfl))
 f46:=⟨Tryz.f221.name,by decide,Tryz.func221.trans (congrArg some (by kernel_rfl))⟩
 f47:=Tryz.func208.trans (congrArg some (by kernel_rfl))
 f48:=Tryz.func209.trans (congrArg some (by kernel_rfl))
 f49:=⟨Tryz.f222.name,by decide,Tryz.func222.trans (congrArg some (by kernel_rfl))⟩
 f50:=⟨Tryz.f223.name,by decide,Tryz.func223.trans (congrArg some (by kernel_rfl))⟩
 f57:=⟨Tryz.f227.name,by decide,Tryz.func227.trans (congrArg some (by kernel_rfl))⟩
 t0:=Tryz.underlying0
 a0:=Tryz.isAgg0
 z0:=Tryz.sizeOf0
 v0:=Tryz.zeroValue0
 t3:=Tryz.underlying3
 a3:=Tryz.isAgg3
 z3:=Tryz.sizeOf3
 v3:=Tryz.zeroValue3
 t4:=Tryz.underlying4
 a4:=Tryz.isAgg4
 z4:=Tryz.sizeOf4
 v4:=Tryz.zeroValue4
 t5:=Tryz.underlying5
 a5:=Tryz.isAgg5
 z5:=Tryz.sizeOf5
 v5:=Tryz.zeroValue5
 t9:=Tryz.underlying9
 a9:=Tryz.isAgg9
 z9:=Tryz.sizeOf9
 v9:=Tryz.zeroValue9
 t22:=Tryz.underlying24
 a22:=Tryz.isAgg24
 z22:=Tryz.sizeOf24
 v22:=Tryz.zeroValue24
 t25:=Tryz.underlying159
 a25:=Tryz.isAgg159
 z25:=Tryz.sizeOf159
 v25:=Tryz.zeroValue159
 t39:=Tryz.underlying172
 a39:=Tryz.isAgg172
 z39:=Tryz.sizeOf172
 v39:=Tryz.zeroValue172
 t45:=Tryz.underlying217
 a45:=Tryz.isAgg217
 z45:=Tryz.sizeOf217
 v45:=Tryz.zeroValue217
 t46:=Tryz.underlying218
 a46:=Tryz.isAgg218
 z46:=Tryz.sizeOf218
 v46:=Tryz.zeroValue218
 t50:=Tryz.underlying106
 a50:=Tryz.isAgg106
 z50:=Tryz.sizeOf106
 v50:=Tryz.zeroValue106
 t53:=Tryz.underlying127
 a53:=Tryz.isAgg127
 z53:=Tryz.sizeOf127
 v53:=Tryz.zeroValue127
 t55:=Tryz.underlying225
 a55:=Tryz.isAgg225
 z55:=Tryz.sizeOf225
 v55:=Tryz.zeroValue225
 t66:=Tryz.underlying245
 a66:=Tryz.isAgg245
 z66:=Tryz.sizeOf245
 v66:=Tryz.zeroValue245
 t70:=Tryz.underlying249
 a70:=Tryz.isAgg249
 z70:=Tryz.sizeOf249
 v70:=Tryz.zeroValue249
 t76:=Tryz.underlying257
 a76:=Tryz.isAgg257
 z76:=Tryz.sizeOf257
 v76:=Tryz.zeroValue257
 t77:=Tryz.underlying198
 a77:=Tryz.isAgg198
 z77:=Tryz.sizeOf198
 v77:=Tryz.zeroValue198 }
def Tryz.cmpInt_ren:Go.Shelf.Ren:=⟨fun | 5=>116 | 7=>168 | n=>n,fun | 22=>3 | 3=>3 | 4=>4 | n=>n,fun | n=>n⟩
theorem Tryz.cmpInt:Go.Proofs.SlLaysC2.n5 Tryz.prog Tryz.cmpInt_ren:={
 mixed:=by kernel_rfl
 f5:=⟨Tryz.f116.name,by decide,Tryz.func116.trans (congrArg some (by kernel_rfl))⟩
 f7:=⟨Tryz.f168.name,by decide,Tryz.func168.trans (congrArg some (by kernel_rfl))⟩
 t3:=Tryz.underlying3
 a3:=Tryz.isAgg3
 z3:=Tryz.sizeOf3
 v3:=Tryz.zeroValue3
 t4:=Tryz.underlying4
 a4:=Tryz.isAgg4
 z4:=Tryz.sizeOf4
 v4:=Tryz.zeroValue4
 t22:=Tryz.underlying3
 a22:=Tryz.isAgg3
 z22:=Tryz.sizeOf3
 v22:=Tryz.zeroValue3 }
end Go.Proofs
end
section
namespace Go.Proofs
open Go.RowKit Go.Lib Go.Sort Go.Shelf
namespace KV

set_option maxHeartbeats 1000000 in
theorem bTi(a b c d:Int)(W:World):Calls Tryz.prog 115 #[.agg #[.int .i64 a,.int .i64 b],.agg #[.int .i64 c,.int .i64 d]] W fun e w'=>e = .returned (.int .i64 (Lib.compareInt a c))∧∃ q os',w'=grow (W.drewN q) os':=by
 have hcon:=fun W'=>AnyG.cmp_Compare_int Tryz.cmpInt a c W'
 change ∀ W',Calls Tryz.prog 116 _ _ _ at hcon
 generalize Lib.compareInt a c=r at hcon ⊢
 go_enter Tryz.func115,Tryz.ntmps115
 go_wp2_with (go_at_call 116;refine (hcon _).mono ?_;rintro e w' ⟨rfl,rfl⟩)
 go_ret
 exact ⟨rfl,0,_,by rw [alloc_eq_grow,alloc_eq_grow,grow_grow];rfl⟩
set_option maxHeartbeats 1000000 in
theorem bTj(a b c d e f a' b' c' d' e' f':Int)(W:World):Calls Tryz.prog 118 #[.agg #[.int .i64 a,.int .i64 b,.int .i64 c,.int .i64 d,.int .i64 e,.int .i64 f],.agg #[.int .i64 a',.int .i64 b',.int .i64 c',.int .i64 d',.int .i64 e',.int .i64 f']] W fun z w'=>z = .returned (.int .i64 (Lib.compareInt a a'))∧∃ q os',w'=grow (W.drewN q) os':=by
 have hcon:=fun W'=>AnyG.cmp_Compare_int Tryz.cmpInt a a' W'
 change ∀ W',Calls Tryz.prog 116 _ _ _ at hcon
 generalize Lib.compareInt a a'=r at hcon ⊢
 go_enter Tryz.func118,Tryz.ntmps118
 go_wp2_with (go_at_call 116;refine (hcon _).mono ?_;rintro e w' ⟨rfl,rfl⟩)
 go_ret
 exact ⟨rfl,0,_,by rw [alloc_eq_grow,alloc_eq_grow,grow_grow];rfl⟩

theorem tK{C:Cx}{M:Mem}{w:World}{x:AV}{us:List Value}(h:dC C M w [x] us):∃ u,us=[u]∧Rep C M w x u:=by
 cases h with | cons _ u _ _ h hr=>cases hr;exact ⟨u,rfl,h⟩
theorem bBk{C:Cx}{M:Mem}{w:World}{x y:AV}{us:List Value}(h:dC C M w [x,y] us):∃ u v,us=[u,v]∧Rep C M w x u∧Rep C M w y v:=by
 cases h with | cons _ u _ _ h hr=>obtain ⟨v,rfl,h2⟩:=tK hr;exact ⟨u,v,rfl,h,h2⟩
theorem bNl{C:Cx}{M:Mem}{w:World}{f:Nat}{u:Value}(h:Rep C M w (.fn f [] []) u):u = .func (.func f) #[] #[]:=by
 cases h with
 | fn _ _ _ us vs h1 h2 h3 h4 =>
  have e1:us = #[]:=Array.eq_empty_of_size_eq_zero h1
  have e2:vs = #[]:=Array.eq_empty_of_size_eq_zero h2
  subst e1;subst e2;rfl

theorem aCt{k:Nat}{l:List (List Int)}(hu:uni k l){j:Nat}(hj:j<(l.flatten.map aA).length):(l.flatten.map aA)[j] = .v ((lS k (l.toArray)[j / k]!)[j % k]!):=by
 have hL:(l.flatten).length=l.length*k:=mH hu
 have hj':j<l.length*k:=by rw [List.length_map,hL] at hj;exact hj
 have hk:0<k:=by
  rcases Nat.eq_zero_or_pos k with h | h
  ·subst h;simp at hj'
  ·exact h
 have hq:j / k<l.length:=Nat.div_lt_of_lt_mul (by rw [Nat.mul_comm];exact hj')
 have hm:j % k<k:=Nat.mod_lt _ hk
 have hx:l[j / k]? = some l[j / k]:=List.getElem?_eq_getElem hq
 have hxl:l[j / k].length=k:=hu _ (List.getElem_mem hq)
 have hf:l[j / k][j % k]? = some l[j / k][j % k]:=List.getElem?_eq_getElem (by omega)
 have:=cQ hu hx hf
 have e:j / k*k+j % k=j:=by rw [Nat.mul_comm];exact Nat.div_add_mod j k
 rw [e,List.getElem?_eq_getElem hj] at this
 rw [Option.some.inj this]
 have e2:(l.toArray)[j / k]! = l[j / k]:=by simp [hq]
 rw [e2]
 unfold lS
 simp only [List.getElem!_eq_getElem?_getD,List.getElem?_map,List.getElem?_range hm,Option.map_some,Option.getD_some,List.getD_eq_getElem?_getD,hf]

theorem aIf{f g ty k:Nat}(hsz:∃ i,Tryz.prog.info? ty=some i∧i.size=k)(hk:0<k)
  (hcall:∀ (blk cap:Nat) (d:Array (List Int)) (w:World),HoldsK (lS k) k w blk 0 d→blk<w.heap.size→d.size<4611686018427387904→Calls Tryz.prog f #[.slice (some ⟨blk,0,none⟩) d.size cap,.func (.func g) #[] #[]] w fun e w' =>
   e = .returned (.tuple #[])∧∃ d' n os,PermIn 0 d.size d d'∧SortedIn (ltOf cfL) 0 d.size d'∧w'=sortWorldK (lS k) k w blk 0 n d' os)
  (hnil:∀ (p:Option Addr) (cap:Nat) (fv:Value) (w:World),Calls Tryz.prog f #[.slice p 0 cap,fv] w fun e w'=>e = .returned (.tuple #[])∧w'=w)
  (l:List (List Int)) (hu:uni k l) (hn:(aN l 0).Nodup) (hl:l.length≤1000) :
  FMM Tryz.prog f [.own 0,.fn g [] []] [some (.row ty l.length (l.flatten.map aA))] (.tup []) [some (.row ty (aB l).length ((aB l).flatten.map aA))]:=fun C w us hus hM n=>by
 obtain ⟨u,v,rfl,hu0,hv⟩:=bBk hus
 obtain rfl:=bNl hv
 rw [dV]
 have hown:(C.ι 0=none∧u = .slice none 0 0∧l.length=0)∨∃ b,C.ι 0=some b∧u = .slice (some ⟨b,0,none⟩) l.length (C.κ 0):=by
  cases hu0 with
  | own _ _ h0 ha hr =>
   rcases hr _ _ _ rfl with ⟨q1,q2,q3⟩ | ⟨b,q1,q2⟩
   ·exact .inl ⟨q2,q1,q3⟩
   ·exact .inr ⟨b,q2,q1⟩
 rcases hown with ⟨hι,rfl,h0⟩ | ⟨b,hι,rfl⟩
 ·obtain rfl:l=[]:=List.eq_nil_of_length_eq_zero h0
  refine (callsIn_wide.2 (hnil none 0 _ w)).mono ?_
  rintro e w' ⟨rfl,rfl⟩
  have e0:aB []=[]:=by simp [aB]
  rw [e0]
  exact ⟨_,rfl,C,Fr.refl _ _ _,hM,.tup [] #[] rfl (fun i h=>by simp at h)⟩
 ·rcases hM.row 0 _ _ _ rfl with ⟨hn',_⟩ | ⟨b',arr,i,q1,q2,q3,q4,q5,q6,q7,q8,q9⟩
  ·rw [hι] at hn';cases hn'
  ·rw [hι] at q1;cases q1
   obtain ⟨i',hi',hs'⟩:=hsz
   rw [q3] at hi';cases hi'
   have hcell:∀ j (hj:j<(l.flatten.map aA).length),arr.getD j undef=(lS k (l.toArray)[j / k]!)[j % k]! := fun j hj=>by
    have:=q8 j hj
    rw [aCt hu hj] at this
    exact bTg this
   have hlen:(l.flatten.map aA).length=l.length*k:=by rw [List.length_map,mH hu]
   have hle:l.length*k≤arr.size:=by rw [q4,hs'];exact Nat.mul_le_mul_right k q6
   have hH:HoldsK (lS k) k w b 0 l.toArray:=by
    unfold HoldsK Holds
    intro j hj
    rw [size_flatK] at hj
    have hj2:j<l.length*k:=by simpa using hj
    rw [get_flatK _ _ _ _ hj,← hcell j (by rw [hlen];exact hj2)]
    have hja:j<arr.size:=by omega
    rw [Nat.zero_add]
    refine ⟨?_,?_⟩
    ·unfold World.cell?
     simp only [q2]
     rw [Array.getD_eq_getD_getElem?,Array.getElem?_eq_getElem hja]
     simp
    ·unfold World.frozen?
     simp [q2]
   have hb:b<w.heap.size:=lt_of_block q2
   have hc:=hcall b (C.κ 0) l.toArray w hH hb (by simp;omega)
   rw [List.size_toArray] at hc
   refine (callsIn_wide.2 hc).mono ?_
   rintro e w' ⟨rfl,d',m,os,hp,hs,rfl⟩
   have hd:d'.size=l.length:=by have:=hp.1;simpa using this
   have hperm:d'.toList.Perm l:=by
    have:=hp.2.2
    have e1:d'.extract 0 l.length=d':=by rw [← hd];simp
    have e2:l.toArray.extract 0 l.length=l.toArray:=by simp
    rw [e1,e2] at this
    simpa using this
   have hsorted:d'.toList.Pairwise fun a b=>a.getD 0 0≤b.getD 0 0:=by
    rw [List.pairwise_iff_getElem]
    intro i j hi hj hij
    have hj2:j<d'.size:=by simpa using hj
    have:=hs i j (Nat.zero_le _) hij (by omega)
    rw [ltL] at this
    have h3:=of_decide_eq_false this
    rw [getElem!_pos d' i (by omega),getElem!_pos d' j hj2] at h3
    simpa using Int.not_lt.1 h3
   have hd':d'=(aB l).toArray:=by
    have:=aLo hn hperm hsorted
    rw [← this]
   subst hd'
   have hsu:=eB hu
   have hsl:=dV l
   have hw:∃ arr',(sortWorldK (lS k) k w b 0 m (aB l).toArray os).heap[b]? = some (.cells arr' ty (0,0))∧arr'.size=arr.size∧∀ j,j<l.length*k→arr'.getD j undef=(lS k (aB l).toArray[j / k]!)[j % k]! := by
    refine ⟨putCells id 0 (flatK (lS k) k (aB l).toArray) arr,?_,by simp [putCells],fun j hj => ?_⟩
    ·unfold sortWorldK grow putRowK putRow mapBlock
     have hlt:b<(w.heap.modify b (onCells (putCells id 0 (flatK (lS k) k (aB l).toArray)))).size:=by simpa using hb
     show (w.heap.modify b (onCells (putCells id 0 (flatK (lS k) k (aB l).toArray)))++os)[b]? = _
     rw [Array.getElem?_append_left hlt,Array.getElem?_modify]
     simp [q2,onCells]
    ·have hja:j<arr.size:=by omega
     rw [Array.getD_eq_getD_getElem?]
     unfold putCells
     rw [Array.getElem?_mapIdx,Array.getElem?_eq_getElem hja]
     have hsz:j<(flatK (lS k) k (aB l).toArray).size:=by rw [size_flatK];simpa [hsl] using hj
     simp only [Option.map_some,Option.getD_some,Nat.zero_le,true_and,Nat.zero_add,hsz,if_true,Nat.sub_zero,id]
     exact get_flatK _ _ _ _ (by simpa [hsl] using hj)
   obtain ⟨arr',w1,w2,w3⟩:=hw
   have hlen2:((aB l).flatten.map aA).length=l.length*k:=by rw [List.length_map,mH hsu,hsl]
   have hall:∀ j (h:j<((aB l).flatten.map aA).length),arr'.getD j undef=(lS k (aB l).toArray[j / k]!)[j % k]! := fun j h=>w3 j (by omega)
   obtain ⟨f1,m1⟩:=aLn (cs':=(aB l).flatten.map aA) (w':=sortWorldK (lS k) k w b 0 m (aB l).toArray os) hM hι q2 rfl rfl rfl
    (by unfold sortWorldK;rw [size_grow];show w.heap.size≤(w.heap.modify b _).size+_;simp)
    (fun b' h1 h2=>by
     show (w.heap.modify b (onCells (putCells id 0 (flatK (lS k) k (aB l).toArray)))++os)[b']? = _
     rw [Array.getElem?_append_left (by simpa using h1),Array.getElem?_modify,if_neg (fun h=>h2 h.symm)])
    w1 w2 (by rw [hlen2,hlen]) (fun j h=>by rw [aCt hsu h,hall j h];exact .v _)
    (fun j h=>by
     rw [hall j h]
     have:=zN k ((aB l).toArray[j / k]!) ((lS k (aB l).toArray[j / k]!)[j % k]!) (by
      have hm:j % k<(lS k (aB l).toArray[j / k]!).length:=by rw [zM];exact Nat.mod_lt _ hk
      rw [List.getElem!_eq_getElem?_getD,List.getElem?_eq_getElem hm]
      exact List.getElem_mem hm)
     exact this)
   exact ⟨_,rfl,C,f1,m1,.tup [] #[] rfl (fun i h=>by simp at h)⟩
end KV
end Go.Proofs
end
section
namespace Go.Proofs
open Go.RowKit Go.Lib Go.Sort Go.Shelf
namespace KV

theorem info31:(Tryz.prog.info? 31).map (fun i=>i.size)=some 2:=by kernel_rfl
theorem info44:(Tryz.prog.info? 44).map (fun i=>i.size)=some 6:=by kernel_rfl
theorem nC{t k:Nat}(h:(Tryz.prog.info? t).map (fun i=>i.size)=some k):∃ i,Tryz.prog.info? t=some i∧i.size=k:=by
 cases h2:Tryz.prog.info? t with
 | none=>rw [h2] at h;cases h
 | some i=>rw [h2] at h;exact ⟨i,rfl,by simpa using h⟩
theorem aUx(l:List (List Int))(hu:uni 2 l)(hn:(aN l 0).Nodup)(hl:l.length≤1000):FMM Tryz.prog 114 [.own 0,.fn 115 [] []] [some (.row 31 l.length (l.flatten.map aA))] (.tup []) [some (.row 31 (aB l).length ((aB l).flatten.map aA))] :=
 aIf (k:=2) (nC info31) (by omega)
  (fun blk cap d w hH hb hd=>AnyQ.slices_SortFunc Tryz.sortSk 2 Tryz.isAgg31 Tryz.sizeOf31 (lS 2) (zM 2) (zN 2) cfL bTk 115 #[] blk 0 cap d w (enters_of Tryz.func115 (by kernel_rfl) rfl)
   (fun m os dk _ x y=>bTi (x.getD 0 0) (x.getD 1 0) (y.getD 0 0) (y.getD 1 0) _) hH hb hd)
  (fun p cap fv w=>AnyF.slices_SortFunc_none Tryz.sortSk p cap fv w) l hu hn hl
theorem aUy(l:List (List Int))(hu:uni 6 l)(hn:(aN l 0).Nodup)(hl:l.length≤1000):FMM Tryz.prog 117 [.own 0,.fn 118 [] []] [some (.row 44 l.length (l.flatten.map aA))] (.tup []) [some (.row 44 (aB l).length ((aB l).flatten.map aA))] :=
 aIf (k:=6) (nC info44) (by omega)
  (fun blk cap d w hH hb hd=>AnyQ.slices_SortFunc Tryz.sortDc 6 Tryz.isAgg44 Tryz.sizeOf44 (lS 6) (zM 6) (zN 6) cfL bTk 118 #[] blk 0 cap d w (enters_of Tryz.func118 (by kernel_rfl) rfl)
   (fun m os dk _ x y=>bTj (x.getD 0 0) (x.getD 1 0) (x.getD 2 0) (x.getD 3 0) (x.getD 4 0) (x.getD 5 0) (y.getD 0 0) (y.getD 1 0) (y.getD 2 0) (y.getD 3 0) (y.getD 4 0) (y.getD 5 0) _) hH hb hd)
  (fun p cap fv w=>AnyF.slices_SortFunc_none Tryz.sortDc p cap fv w) l hu hn hl
end KV
end Go.Proofs
end
section
namespace Go.Proofs
open Go.RowKit Go.Lib Go.Shelf
namespace KV

set_option maxHeartbeats 1000000 in
theorem bFt(n c:Nat)(w:World):Calls Tryz.prog 138 #[.slice none n c] w fun e w'=>e = .returned (.slice none 0 0)∧w'=w:=by
 have q24:∀ (w:World) (a:Option Addr) (n c n' c':Nat),(binOp .eql 24 (.slice a n c) (.slice none n' c')).run Tryz.prog w = .ok (.bool a.isNone) w:=fun w a n c n' c'=>Lib.run_eql_slice_nil w _ _ a n c n' c' Tryz.underlying24
 go_enter Tryz.func138,Tryz.ntmps138
 go_wp2
 go_ret
 exact ⟨rfl,rfl⟩
abbrev zDc:Value := .agg #[.int .i64 0,.int .i64 0,.int .i64 0,.int .i64 0,.int .i64 0,.int .i64 0]
theorem inf44:(Tryz.prog.info? 44).map (fun i=>(i.zero,i.size,i.bytes))=some (some zDc,6,48):=by kernel_rfl
set_option maxHeartbeats 2000000 in
theorem bBj(a:Addr)(c:Nat)(w:World):Calls Tryz.prog 138 #[.slice (some a) 0 c] w fun e w'=>∃ v',e = .returned v'∧w'.ownsRow w.heap.size 44 6 v' 0 []∧Below w.heap.size w w':=by
 obtain ⟨i0,hi,hz0,hz1,hz2⟩:=info_parts inf44
 have q24:∀ (w:World) (a:Option Addr) (n c n' c':Nat),(binOp .eql 24 (.slice a n c) (.slice none n' c')).run Tryz.prog w = .ok (.bool a.isNone) w:=fun w a n c n' c'=>Lib.run_eql_slice_nil w _ _ a n c n' c' Tryz.underlying24
 go_enter Tryz.func138,Tryz.ntmps138
 go_wp2_with (at_builtin;refine wpList_append_own _ rfl _ _ 24 rfl w.heap.size 44 i0 zDc 6 48 Tryz.underlying24 hi hz0 hz1 hz2 rfl (by decide) _ _ _ rfl (World.ownsRow_made w #[] 0 (Nat.le_refl _) (Nat.zero_le _) rfl) a 0 c [] rfl rfl (by intro j u hj;simp at hj) (by intro u hu;cases hu) (by unfold maxLen;omega) (by omega) (by simp) ?_)
 intro v' w1 hown hgrow hnil
 go_wp2
 go_ret
 refine ⟨v',rfl,by simpa using hown,?_⟩
 exact ((Below.refl _ w).alloc (Nat.le_refl _) _).grown hgrow (by simp) (by intro k hk;simp [Value.ownBlock] at hk;omega)

theorem aCs{f ty k:Nat}(hsz:∃ i,Tryz.prog.info? ty=some i∧i.size=k)
  (h:∀ (p:Option Addr) (c:Nat) (w:World),Calls Tryz.prog f #[.slice p 0 c] w fun e w'=>∃ v',e = .returned v'∧w'.ownsRow w.heap.size ty k v' 0 []∧Below w.heap.size w w') {base:Nat} :
  FV Tryz.prog f [.p (.sl 0 [])] base (.own base) [(base,.row ty 0 [])]:=by
 refine ⟨.own 0,[some (.row ty 0 [])],fun C w us hus hM n => ?_,by simp [aQu,aZn,fS,bU,aZo,aQt]⟩
 obtain ⟨u,rfl,hu⟩:=tK hus
 cases hu with
 | p _ _ hu =>
  have hu':∃ p c,u = .slice p 0 c:=by cases hu with | sl n cs p cap us h1 h2 h3 h4 h5=>exact ⟨p,cap,rfl⟩
  obtain ⟨p,c,rfl⟩:=hu'
  refine (callsIn_wide.2 (h p c w)).mono ?_
  rintro e w' ⟨v',rfl,h1,h2⟩
  have at1:∀ (id:Nat) (o:AO),([some (.row ty 0 [])]:Mem)[id]? = some (some o)→id=0∧o = .row ty 0 []:=fun id o h=>by
   cases id with
   | zero=>simp at h;exact ⟨rfl,h.symm⟩
   | succ i=>simp at h
  have hno:∀ (id:Nat) (o:AO),¬ (([]:Mem)[id]? = some (some o)):=fun id o h=>by simp at h
  have hc:(v' = .slice none 0 0)∨∃ g cap cur,v' = .slice (some ⟨g,0,none⟩) 0 cap∧w.heap.size≤g∧w'.heap[g]? = some (.cells cur ty (0,0))∧cap≤maxLen∧cur.size=cap*k:=by
   rcases h1.2 with ⟨he,h0⟩ | ⟨g,cp,cur,he,hg,hh,r1,r2,r3,r4⟩
   ·exact .inl he
   ·exact .inr ⟨g,cp,cur,he,hg,hh,r2,r3⟩
  have new:∀ b,v'.ownBlock=some b→w.heap.size≤b∧b<w'.heap.size:=fun b hb=>by
   rcases hc with rfl | ⟨g,cap,cur,rfl,hg,hh,_⟩
   ·cases hb
   ·cases hb;exact ⟨hg,lt_of_block hh⟩
  refine ⟨_,rfl,{ ι:=fun _=>v'.ownBlock,κ:=fun _=>(match v' with | .slice _ _ c=>c | _=>0),F:=C.F },⟨h2.os,h2.tape,h2.output,h2.size,fun b hb _=>h2.block b hb,fun id o h=>absurd h (hno id o),fun id o h=>absurd h (hno id o),fun id o h=>absurd h (hno id o),fun id o b hm hl hb => .inl (new b hb).1,fun _ h=>h,fun _ h => .inl h⟩,
   ⟨fun id ty n cs hm => ?_,fun id ty cs hm => ?_,fun id es cl hm => ?_,fun id id' o o' b q1 _ q2 _ _ _ => ?_,fun id o b hm hl hb hf => ?_,fun b hb=>Nat.lt_of_lt_of_le (hM.Fs b hb) h2.size,fun id o b hm hl hb=>(new b hb).2⟩,?_⟩
  ·obtain ⟨rfl,he⟩:=at1 _ _ hm
   cases he
   rcases hc with rfl | ⟨g,cap,cur,rfl,_,hh,r2,r3⟩
   ·exact .inl ⟨rfl,rfl,rfl⟩
   ·obtain ⟨i,hi,hs⟩:=hsz
    exact .inr ⟨g,cur,i,rfl,hh,hi,by rw [hs];exact r3,by simp,Nat.zero_le _,r2,fun j h=>by simp at h,fun j h=>by simp at h⟩
  ·obtain ⟨_,he⟩:=at1 _ _ hm;cases he
  ·obtain ⟨_,he⟩:=at1 _ _ hm;cases he
  ·obtain ⟨rfl,_⟩:=at1 _ _ q1
   obtain ⟨rfl,_⟩:=at1 _ _ q2
   rfl
  ·have:=hM.Fs _ hf
   have:=(new b hb).1
   omega
  ·have h0:v'.oneCell'=true:=by rcases hc with rfl | ⟨g,cap,cur,rfl,_⟩ <;> rfl
   refine .own 0 _ h0 ⟨_,rfl⟩ fun ty' n cs hm => ?_
   obtain ⟨_,he⟩:=at1 _ _ hm
   cases he
   rcases hc with rfl | ⟨g,cap,cur,rfl,_⟩
   ·exact .inl ⟨rfl,rfl,rfl⟩
   ·exact .inr ⟨g,rfl,rfl⟩
theorem aUw{base:Nat}:FV Tryz.prog 138 [.p (.sl 0 [])] base (.own base) [(base,.row 44 0 [])]:=aCs (nC info44) fun p c w=>by
 cases p with
 | none =>
  refine (bFt 0 c w).mono ?_
  rintro e w' ⟨rfl,rfl⟩
  exact ⟨_,rfl,World.ownsRow_nil _ _ _ _,Below.refl _ _⟩
 | some a=>exact bBj a c w
end KV
end Go.Proofs
end
namespace Go.Proofs
namespace KV
section

noncomputable abbrev aCn:Code:=sub (cd Tryz.f99) [1,1,0,1,0,0]
noncomputable abbrev aCo:Code:=sub (cd Tryz.f100) [1,1,0,1,0,0]
noncomputable abbrev aCp:Code:=sub (cd Tryz.f119) [1,1,0,1,0,0]
noncomputable abbrev aCq:Code:=sub (cd Tryz.f120) [1,1,0,1,0,0]
theorem bMr{n:Nat}{x:PV}{r:List PV}{r0n:Nat}{r0c:List PV}(h0:(x::r).length=n*6∧0+n≤1000000)(er0n:r0n=(0+n))(er0c:r0c=(x::r)){base:Nat}:FV Tryz.prog 138 [(.p (.sl n (x::r)))] base (.own base) [(base,(.row 44 r0n r0c))]:=by
 subst er0n er0c
 exact FV.fin Tryz.func138 rfl (o:=[]) (l:=[_]) (by kernel_rfl) (gc h0 gn)
theorem bMs{n:Nat}{x:PV}{r:List PV}{r0n:Nat}{r0c:List PV}(h0:(x::r).length=n*2∧0+n≤1000000)(er0n:r0n=(0+n))(er0c:r0c=(x::r)){base:Nat}:FV Tryz.prog 170 [(.p (.sl n (x::r)))] base (.own base) [(base,(.row 31 r0n r0c))]:=by
 subst er0n er0c
 exact FV.fin Tryz.func170 rfl (o:=[]) (l:=[_]) (by kernel_rfl) (gc h0 gn)
theorem aCr{k:Nat}(hk:0<k){x:List Int}{l:List (List Int)}(hu:uni k (x::l)):∃ y r,(x::l).flatten.map aA=y::r:=by
 have h:x.length=k:=hu x (List.mem_cons_self ..)
 cases x with
 | nil=>simp at h;omega
 | cons a x=>exact ⟨aA a,_,rfl⟩
theorem lJ{k:Nat}{l:List (List Int)}(hu:uni k l):(l.flatten.map aA).length=l.length*k:=by rw [List.length_map,mH hu]
theorem bMt(l:List (List Int))(hu:uni 6 l)(hl:l.length≤1000){base:Nat}:FV Tryz.prog 138 [.p (.sl l.length (l.flatten.map aA))] base (.own base) [(base,.row 44 l.length (l.flatten.map aA))]:=by
 have h1:=lJ hu
 cases l with
 | nil=>exact aUw
 | cons x l =>
  obtain ⟨y,r,e⟩:=aCr (by omega) hu
  rw [e] at h1 ⊢
  exact bMr ⟨h1,by omega⟩ (by omega) rfl
theorem bMu(l:List (List Int))(hu:uni 2 l)(hl:1≤l.length∧l.length≤1000){base:Nat}:FV Tryz.prog 170 [.p (.sl l.length (l.flatten.map aA))] base (.own base) [(base,.row 31 l.length (l.flatten.map aA))]:=by
 have h1:=lJ hu
 cases l with
 | nil=>simp at hl
 | cons x l =>
  obtain ⟨y,r,e⟩:=aCr (by omega) hu
  rw [e] at h1 ⊢
  exact bMs ⟨h1,by omega⟩ (by omega) rfl
theorem bMv{l:List (List Int)}(h0:(l.flatten.map aA).length=l.length*2∧l.length≤1000000){base:Nat}:FV Tryz.prog 89 [(.p (.sl l.length (l.flatten.map aA)))] base (.own base) [(base,(.row 31 l.length (l.flatten.map aA)))]:=by
 exact FV.fin Tryz.func89 rfl (o:=[]) (l:=[_]) (by kernel_rfl) (gc h0 gn)
theorem bBf(l:List (List Int))(hu:uni 2 l)(hl:l.length≤1000){base:Nat}:FV Tryz.prog 89 [.p (.sl l.length (l.flatten.map aA))] base (.own base) [(base,.row 31 l.length (l.flatten.map aA))]:=bMv ⟨lJ hu,by omega⟩
theorem bMw{l:List (List Int)}(h0:(l.flatten.map aA).length=l.length*6∧l.length≤1000000){base:Nat}:FV Tryz.prog 90 [(.p (.sl l.length (l.flatten.map aA)))] base (.own base) [(base,(.row 44 l.length (l.flatten.map aA)))]:=by
 exact FV.fin Tryz.func90 rfl (o:=[]) (l:=[_]) (by kernel_rfl) (gc h0 gn)
theorem bBg(l:List (List Int))(hu:uni 6 l)(hl:l.length≤1000){base:Nat}:FV Tryz.prog 90 [.p (.sl l.length (l.flatten.map aA))] base (.own base) [(base,.row 44 l.length (l.flatten.map aA))]:=bMw ⟨lJ hu,by omega⟩
def iL(a:List (List Int))(b:List (List Int))(i:Nat):St:=⟨fr 26 [(0,(.p (.sl a.length (a.flatten.map aA)))),(1,(.p (.sl b.length (b.flatten.map aA)))),(12,(.p (aA (a.length:Int)))),(13,(.p (aA (i:Int))))],[]⟩
theorem bMx{a b:List (List Int)}(h0:(a.length:Int)≠(b.length:Int)){base:Nat}:FV Tryz.prog 99 [(.p (.sl a.length (a.flatten.map aA))),(.p (.sl b.length (b.flatten.map aA)))] base (.p (blP false)) []:=by
 exact FV.fin Tryz.func99 rfl (o:=[bT]) (l:=[_]) (by kernel_rfl) (gc (cX h0) gn)
theorem bMy{a b:List (List Int)}{i'0:Nat}(h0:(a.length:Int)=(b.length:Int))(hl1:aF Tryz.prog 0 aCn (iL a b 0) (.exit 0) (iL a b i'0)){base:Nat}:FV Tryz.prog 99 [(.p (.sl a.length (a.flatten.map aA))),(.p (.sl b.length (b.flatten.map aA)))] base (.p (blP true)) []:=by
 exact FV.fin Tryz.func99 rfl (o:=[bF,.k 4 ⟨(rng [(2,10),(14,12)]),[],[],[]⟩ (.exit 0) (iL a b i'0)]) (l:=[_,_]) (by kernel_rfl) (gc hl1.code (gc (cE h0) gn))
theorem bMz{a b:List (List Int)}{i'0:Nat}(h0:(a.length:Int)=(b.length:Int))(hl1:aF Tryz.prog 0 aCn (iL a b 0) .ret (bG (iL a b i'0) [(4,(.kb false))])){base:Nat}:FV Tryz.prog 99 [(.p (.sl a.length (a.flatten.map aA))),(.p (.sl b.length (b.flatten.map aA)))] base (.p (blP false)) []:=by
 exact FV.fin Tryz.func99 rfl (o:=[bF,.k 4 ⟨(rng [(2,10),(14,12)]),[],[],[]⟩ .ret (bG (iL a b i'0) [(4,(.kb false))])]) (l:=[_,_]) (by kernel_rfl) (gc hl1.code (gc (cE h0) gn))
theorem aUk{a b:List (List Int)}{i:Nat}{y100 y101 y102 y103:Int}(h0:(i:Int)<(a.length:Int))(h1:a[i]? = some [y100,y101])(h2:uni 2 a)(h3:b[i]? = some [y102,y103])(h4:uni 2 b)(h5:cG [(aA y100),(aA y101)] [(0,3,true),(1,3,true)]=true∧cG [(aA y102),(aA y103)] [(0,3,true),(1,3,true)]=true)(h6:(fX [(aA y100),(aA y101)] [(aA y102),(aA y103)] [(0,3,true),(1,3,true)])=false):aC Tryz.prog 0 aCn (iL a b i) .ret (bG (iL a b i) [(4,(.kb false))]):=by
 exact aC.fin (g:=⟨(rng [(2,2),(5,7),(14,12)]),[],[],[]⟩) (o:=[bT,.x (.agg [(aA y100),(aA y101)]),.x (.agg [(aA y102),(aA y103)]),bT]) (l:=[_,_,_,_,0≤(i:Int)∧(i:Int)<(b.length:Int)∧(i*2)<(b.flatten.map aA).length,_,_,0≤(i:Int)∧(i:Int)<(a.length:Int)∧(i*2)<(a.flatten.map aA).length,_]) (by kernel_rfl) (gc (bI h6) (gc h5 (gc (aQ (i:=i) h4 h3) (gc (bD (i:=i) h4 h3) (gc (bB (k:=2) (i:=(i:Int)) (by decide) h4 (Int.natCast_nonneg _) h3) (gc (aQ (i:=i) h2 h1) (gc (bD (i:=i) h2 h1) (gc (bB (k:=2) (i:=(i:Int)) (by decide) h2 (Int.natCast_nonneg _) h1) (gc (aL h0) gn)))))))))
theorem aUl{a b:List (List Int)}{i:Nat}{y100 y101 y102 y103:Int}{i':Nat}(h0:(i:Int)<(a.length:Int))(h1:a[i]? = some [y100,y101])(h2:uni 2 a)(h3:b[i]? = some [y102,y103])(h4:uni 2 b)(h5:cG [(aA y100),(aA y101)] [(0,3,true),(1,3,true)]=true∧cG [(aA y102),(aA y103)] [(0,3,true),(1,3,true)]=true)(h6:(fX [(aA y100),(aA y101)] [(aA y102),(aA y103)] [(0,3,true),(1,3,true)])=true)(h7:inR (((i+1):Nat):Int))(ei':i'=(i+1)):aC Tryz.prog 0 aCn (iL a b i) .normal (iL a b i'):=by
 subst ei'
 exact aC.fin (g:=⟨(rng [(2,10),(14,12)]),[],[],[]⟩) (o:=[bT,.x (.agg [(aA y100),(aA y101)]),.x (.agg [(aA y102),(aA y103)]),bF]) (l:=[_,_,_,_,_,0≤(i:Int)∧(i:Int)<(b.length:Int)∧(i*2)<(b.flatten.map aA).length,_,_,0≤(i:Int)∧(i:Int)<(a.length:Int)∧(i*2)<(a.flatten.map aA).length,_]) (by kernel_rfl) (gc h7 (gc (aI h6) (gc h5 (gc (aQ (i:=i) h4 h3) (gc (bD (i:=i) h4 h3) (gc (bB (k:=2) (i:=(i:Int)) (by decide) h4 (Int.natCast_nonneg _) h3) (gc (aQ (i:=i) h2 h1) (gc (bD (i:=i) h2 h1) (gc (bB (k:=2) (i:=(i:Int)) (by decide) h2 (Int.natCast_nonneg _) h1) (gc (aL h0) gn))))))))))
theorem aUm{a b:List (List Int)}{i:Nat}(h0:(a.length:Int)≤(i:Int)):aC Tryz.prog 0 aCn (iL a b i) (.exit 0) (iL a b i):=by
 exact aC.fin (g:=⟨(rng [(2,10),(14,12)]),[],[],[]⟩) (o:=[bF]) (l:=[_]) (by kernel_rfl) (gc (aE h0) gn)
theorem bBh(a b:List (List Int))(ha:uni 2 a)(hb:uni 2 b)(hl:a.length≤1000){base:Nat}:FV Tryz.prog 99 [.p (.sl a.length (a.flatten.map aA)),.p (.sl b.length (b.flatten.map aA))] base (.p (blP (decide (a=b)))) []:=by
 by_cases hlen:a.length=b.length
 ·have eqx:∀ i,i<a.length→∃ x y,a[i]? = some x∧b[i]? = some y∧x.length=2∧y.length=2:=fun i hi =>
   ⟨a[i],b[i],List.getElem?_eq_getElem hi,List.getElem?_eq_getElem (by omega),ha _ (List.getElem_mem hi),hb _ (List.getElem_mem (by omega))⟩
  rcases aF.find (P:=Tryz.prog) (k:=0) (b:=aCn) (fun i=>iL a b i) (fun i _=>bG (iL a b i) [(4,.kb false)]) (iL a b a.length) .ret (.exit 0) (by simp) (by simp) (fun j=>decide (a.getD j []≠b.getD j [])) (List.range a.length)
   (fun i x hx hp=>by
    have hi:i<a.length:=by have:=aS hx;simpa using this
    obtain ⟨y,z,hy,hz,ly,lz⟩:=eqx i hi
    obtain ⟨a,b,rfl⟩:=len2 ly
    obtain ⟨a',b',rfl⟩:=len2 lz
    have hxi:x=i:=by rw [List.getElem?_range hi] at hx;exact (Option.some.inj hx).symm
    subst hxi
    have he:=of_decide_eq_false hp
    simp only [List.getD_eq_getElem?_getD,hy,hz,Option.getD_some,ne_eq,Classical.not_not] at he
    cases he
    exact aUl (by omega) hy ha hz hb ⟨rfl,rfl⟩ (by simp [fX,oR]) (aR (by omega)) rfl)
   (fun i x hx hp=>by
    have hi:i<a.length:=by have:=aS hx;simpa using this
    obtain ⟨y,z,hy,hz,ly,lz⟩:=eqx i hi
    obtain ⟨a,b,rfl⟩:=len2 ly
    obtain ⟨a',b',rfl⟩:=len2 lz
    have hxi:x=i:=by rw [List.getElem?_range hi] at hx;exact (Option.some.inj hx).symm
    subst hxi
    have he:=of_decide_eq_true hp
    simp only [List.getD_eq_getElem?_getD,hy,hz,Option.getD_some] at he
    exact aUk (by omega) hy ha hz hb ⟨rfl,rfl⟩ (by
     rw [Bool.eq_false_iff]
     intro h
     simp [fX,oR] at h
     exact he (by simp [h])))
   (by rw [List.length_range];exact aUm (by omega)) with ⟨i,x,h1,h2,h3,h4⟩ | ⟨h1,h2,h3⟩
  ·have hi:i<a.length:=by have:=aS h1;simpa using this
   have hxi:x=i:=by rw [List.getElem?_range hi] at h1;exact (Option.some.inj h1).symm
   have he:=of_decide_eq_true h3
   rw [decide_eq_false (fun e=>he (by rw [e]))]
   exact bMz (by omega) h4
  ·have hall:∀ i,i<a.length→a.getD i []=b.getD i []:=fun i hi=>by
    have:=List.any_eq_false.1 h2 i (List.mem_range.2 hi)
    simpa using this
   have e:a=b:=by
    apply List.ext_getElem hlen
    intro i h1 h2
    have:=hall i h1
    simpa [List.getD_eq_getElem?_getD,List.getElem?_eq_getElem h1,List.getElem?_eq_getElem h2] using this
   rw [decide_eq_true e]
   exact bMy (by omega) h3
 ·rw [decide_eq_false (fun e=>hlen (by rw [e]))]
  exact bMx (by omega)
def iM(a:List (List Int))(b:List (List Int))(i:Nat):St:=⟨fr 26 [(0,(.p (.sl a.length (a.flatten.map aA)))),(1,(.p (.sl b.length (b.flatten.map aA)))),(12,(.p (aA (a.length:Int)))),(13,(.p (aA (i:Int))))],[]⟩
theorem bNa{a b:List (List Int)}(h0:(a.length:Int)≠(b.length:Int)){base:Nat}:FV Tryz.prog 100 [(.p (.sl a.length (a.flatten.map aA))),(.p (.sl b.length (b.flatten.map aA)))] base (.p (blP false)) []:=by
 exact FV.fin Tryz.func100 rfl (o:=[bT]) (l:=[_]) (by kernel_rfl) (gc (cX h0) gn)
theorem bNb{a b:List (List Int)}{i'0:Nat}(h0:(a.length:Int)=(b.length:Int))(hl1:aF Tryz.prog 0 aCo (iM a b 0) (.exit 0) (iM a b i'0)){base:Nat}:FV Tryz.prog 100 [(.p (.sl a.length (a.flatten.map aA))),(.p (.sl b.length (b.flatten.map aA)))] base (.p (blP true)) []:=by
 exact FV.fin Tryz.func100 rfl (o:=[bF,.k 4 ⟨(rng [(2,10),(14,12)]),[],[],[]⟩ (.exit 0) (iM a b i'0)]) (l:=[_,_]) (by kernel_rfl) (gc hl1.code (gc (cE h0) gn))
theorem bNc{a b:List (List Int)}{i'0:Nat}(h0:(a.length:Int)=(b.length:Int))(hl1:aF Tryz.prog 0 aCo (iM a b 0) .ret (bG (iM a b i'0) [(4,(.kb false))])){base:Nat}:FV Tryz.prog 100 [(.p (.sl a.length (a.flatten.map aA))),(.p (.sl b.length (b.flatten.map aA)))] base (.p (blP false)) []:=by
 exact FV.fin Tryz.func100 rfl (o:=[bF,.k 4 ⟨(rng [(2,10),(14,12)]),[],[],[]⟩ .ret (bG (iM a b i'0) [(4,(.kb false))])]) (l:=[_,_]) (by kernel_rfl) (gc hl1.code (gc (cE h0) gn))
theorem aUn{a b:List (List Int)}{i:Nat}{y100 y101 y102 y103 y104 y105 y106 y107 y108 y109 y110 y111:Int}(h0:(i:Int)<(a.length:Int))(h1:a[i]? = some [y100,y101,y102,y103,y104,y105])(h2:uni 6 a)(h3:b[i]? = some [y106,y107,y108,y109,y110,y111])(h4:uni 6 b)(h5:cG [(aA y100),(aA y101),(aA y102),(aA y103),(aA y104),(aA y105)] [(0,3,true),(1,42,true),(2,3,true),(3,3,true),(4,3,true),(5,3,true)]=true∧cG [(aA y106),(aA y107),(aA y108),(aA y109),(aA y110),(aA y111)] [(0,3,true),(1,42,true),(2,3,true),(3,3,true),(4,3,true),(5,3,true)]=true)(h6:(fX [(aA y100),(aA y101),(aA y102),(aA y103),(aA y104),(aA y105)] [(aA y106),(aA y107),(aA y108),(aA y109),(aA y110),(aA y111)] [(0,3,true),(1,42,true),(2,3,true),(3,3,true),(4,3,true),(5,3,true)])=false):aC Tryz.prog 0 aCo (iM a b i) .ret (bG (iM a b i) [(4,(.kb false))]):=by
 exact aC.fin (g:=⟨(rng [(2,2),(5,7),(14,12)]),[],[],[]⟩) (o:=[bT,.x (dcE y100 y101 y102 y103 y104 y105),.x (dcE y106 y107 y108 y109 y110 y111),bT]) (l:=[_,_,_,_,0≤(i:Int)∧(i:Int)<(b.length:Int)∧(i*6)<(b.flatten.map aA).length,_,_,0≤(i:Int)∧(i:Int)<(a.length:Int)∧(i*6)<(a.flatten.map aA).length,_]) (by kernel_rfl) (gc (bI h6) (gc h5 (gc (aQ (i:=i) h4 h3) (gc (bD (i:=i) h4 h3) (gc (bB (k:=6) (i:=(i:Int)) (by decide) h4 (Int.natCast_nonneg _) h3) (gc (aQ (i:=i) h2 h1) (gc (bD (i:=i) h2 h1) (gc (bB (k:=6) (i:=(i:Int)) (by decide) h2 (Int.natCast_nonneg _) h1) (gc (aL h0) gn)))))))))
theorem aUo{a b:List (List Int)}{i:Nat}{y100 y101 y102 y103 y104 y105 y106 y107 y108 y109 y110 y111:Int}{i':Nat}(h0:(i:Int)<(a.length:Int))(h1:a[i]? = some [y100,y101,y102,y103,y104,y105])(h2:uni 6 a)(h3:b[i]? = some [y106,y107,y108,y109,y110,y111])(h4:uni 6 b)(h5:cG [(aA y100),(aA y101),(aA y102),(aA y103),(aA y104),(aA y105)] [(0,3,true),(1,42,true),(2,3,true),(3,3,true),(4,3,true),(5,3,true)]=true∧cG [(aA y106),(aA y107),(aA y108),(aA y109),(aA y110),(aA y111)] [(0,3,true),(1,42,true),(2,3,true),(3,3,true),(4,3,true),(5,3,true)]=true)(h6:(fX [(aA y100),(aA y101),(aA y102),(aA y103),(aA y104),(aA y105)] [(aA y106),(aA y107),(aA y108),(aA y109),(aA y110),(aA y111)] [(0,3,true),(1,42,true),(2,3,true),(3,3,true),(4,3,true),(5,3,true)])=true)(h7:inR (((i+1):Nat):Int))(ei':i'=(i+1)):aC Tryz.prog 0 aCo (iM a b i) .normal (iM a b i'):=by
 subst ei'
 exact aC.fin (g:=⟨(rng [(2,10),(14,12)]),[],[],[]⟩) (o:=[bT,.x (dcE y100 y101 y102 y103 y104 y105),.x (dcE y106 y107 y108 y109 y110 y111),bF]) (l:=[_,_,_,_,_,0≤(i:Int)∧(i:Int)<(b.length:Int)∧(i*6)<(b.flatten.map aA).length,_,_,0≤(i:Int)∧(i:Int)<(a.length:Int)∧(i*6)<(a.flatten.map aA).length,_]) (by kernel_rfl) (gc h7 (gc (aI h6) (gc h5 (gc (aQ (i:=i) h4 h3) (gc (bD (i:=i) h4 h3) (gc (bB (k:=6) (i:=(i:Int)) (by decide) h4 (Int.natCast_nonneg _) h3) (gc (aQ (i:=i) h2 h1) (gc (bD (i:=i) h2 h1) (gc (bB (k:=6) (i:=(i:Int)) (by decide) h2 (Int.natCast_nonneg _) h1) (gc (aL h0) gn))))))))))
theorem aUp{a b:List (List Int)}{i:Nat}(h0:(a.length:Int)≤(i:Int)):aC Tryz.prog 0 aCo (iM a b i) (.exit 0) (iM a b i):=by
 exact aC.fin (g:=⟨(rng [(2,10),(14,12)]),[],[],[]⟩) (o:=[bF]) (l:=[_]) (by kernel_rfl) (gc (aE h0) gn)
theorem bNd(a b:List (List Int))(ha:uni 6 a)(hb:uni 6 b)(hl:a.length≤1000){base:Nat}:FV Tryz.prog 100 [.p (.sl a.length (a.flatten.map aA)),.p (.sl b.length (b.flatten.map aA))] base (.p (blP (decide (a=b)))) []:=by
 by_cases hlen:a.length=b.length
 ·have eqx:∀ i,i<a.length→∃ x y,a[i]? = some x∧b[i]? = some y∧x.length=6∧y.length=6:=fun i hi =>
   ⟨a[i],b[i],List.getElem?_eq_getElem hi,List.getElem?_eq_getElem (by omega),ha _ (List.getElem_mem hi),hb _ (List.getElem_mem (by omega))⟩
  rcases aF.find (P:=Tryz.prog) (k:=0) (b:=aCo) (fun i=>iM a b i) (fun i _=>bG (iM a b i) [(4,.kb false)]) (iM a b a.length) .ret (.exit 0) (by simp) (by simp) (fun j=>decide (a.getD j []≠b.getD j [])) (List.range a.length)
   (fun i x hx hp=>by
    have hi:i<a.length:=by have:=aS hx;simpa using this
    obtain ⟨y,z,hy,hz,ly,lz⟩:=eqx i hi
    obtain ⟨a,b,c,d,e,f,rfl⟩:=len6 ly
    obtain ⟨a',b',c',d',e',f',rfl⟩:=len6 lz
    have hxi:x=i:=by rw [List.getElem?_range hi] at hx;exact (Option.some.inj hx).symm
    subst hxi
    have he:=of_decide_eq_false hp
    simp only [List.getD_eq_getElem?_getD,hy,hz,Option.getD_some,ne_eq,Classical.not_not] at he
    cases he
    exact aUo (by omega) hy ha hz hb ⟨rfl,rfl⟩ (by simp [fX,oR]) (aR (by omega)) rfl)
   (fun i x hx hp=>by
    have hi:i<a.length:=by have:=aS hx;simpa using this
    obtain ⟨y,z,hy,hz,ly,lz⟩:=eqx i hi
    obtain ⟨a,b,c,d,e,f,rfl⟩:=len6 ly
    obtain ⟨a',b',c',d',e',f',rfl⟩:=len6 lz
    have hxi:x=i:=by rw [List.getElem?_range hi] at hx;exact (Option.some.inj hx).symm
    subst hxi
    have he:=of_decide_eq_true hp
    simp only [List.getD_eq_getElem?_getD,hy,hz,Option.getD_some] at he
    exact aUn (by omega) hy ha hz hb ⟨rfl,rfl⟩ (by
     rw [Bool.eq_false_iff]
     intro h
     simp [fX,oR] at h
     exact he (by simp [h])))
   (by rw [List.length_range];exact aUp (by omega)) with ⟨i,x,h1,h2,h3,h4⟩ | ⟨h1,h2,h3⟩
  ·have hi:i<a.length:=by have:=aS h1;simpa using this
   have hxi:x=i:=by rw [List.getElem?_range hi] at h1;exact (Option.some.inj h1).symm
   have he:=of_decide_eq_true h3
   rw [decide_eq_false (fun e=>he (by rw [e]))]
   exact bNc (by omega) h4
  ·have hall:∀ i,i<a.length→a.getD i []=b.getD i []:=fun i hi=>by
    have:=List.any_eq_false.1 h2 i (List.mem_range.2 hi)
    simpa using this
   have e:a=b:=by
    apply List.ext_getElem hlen
    intro i h1 h2
    have:=hall i h1
    simpa [List.getD_eq_getElem?_getD,List.getElem?_eq_getElem h1,List.getElem?_eq_getElem h2] using this
   rw [decide_eq_true e]
   exact bNb (by omega) h3
 ·rw [decide_eq_false (fun e=>hlen (by rw [e]))]
  exact bNa (by omega)
def iN(a:List (List Int))(b:List (List Int))(i:Nat):St:=⟨fr 26 [(0,(.p (.sl a.length (a.flatten.map aA)))),(1,(.p (.sl b.length (b.flatten.map aA)))),(12,(.p (aA (a.length:Int)))),(13,(.p (aA (i:Int))))],[]⟩
theorem bNe{a b:List (List Int)}(h0:(a.length:Int)≠(b.length:Int)){base:Nat}:FV Tryz.prog 119 [(.p (.sl a.length (a.flatten.map aA))),(.p (.sl b.length (b.flatten.map aA)))] base (.p (blP false)) []:=by
 exact FV.fin Tryz.func119 rfl (o:=[bT]) (l:=[_]) (by kernel_rfl) (gc (cX h0) gn)
theorem bNf{a b:List (List Int)}{i'0:Nat}(h0:(a.length:Int)=(b.length:Int))(hl1:aF Tryz.prog 0 aCp (iN a b 0) (.exit 0) (iN a b i'0)){base:Nat}:FV Tryz.prog 119 [(.p (.sl a.length (a.flatten.map aA))),(.p (.sl b.length (b.flatten.map aA)))] base (.p (blP true)) []:=by
 exact FV.fin Tryz.func119 rfl (o:=[bF,.k 4 ⟨(rng [(2,10),(14,12)]),[],[],[]⟩ (.exit 0) (iN a b i'0)]) (l:=[_,_]) (by kernel_rfl) (gc hl1.code (gc (cE h0) gn))
theorem bNg{a b:List (List Int)}{i'0:Nat}(h0:(a.length:Int)=(b.length:Int))(hl1:aF Tryz.prog 0 aCp (iN a b 0) .ret (bG (iN a b i'0) [(4,(.kb false))])){base:Nat}:FV Tryz.prog 119 [(.p (.sl a.length (a.flatten.map aA))),(.p (.sl b.length (b.flatten.map aA)))] base (.p (blP false)) []:=by
 exact FV.fin Tryz.func119 rfl (o:=[bF,.k 4 ⟨(rng [(2,10),(14,12)]),[],[],[]⟩ .ret (bG (iN a b i'0) [(4,(.kb false))])]) (l:=[_,_]) (by kernel_rfl) (gc hl1.code (gc (cE h0) gn))
theorem aUq{a b:List (List Int)}{i:Nat}{y100 y101 y102 y103:Int}(h0:(i:Int)<(a.length:Int))(h1:a[i]? = some [y100,y101])(h2:uni 2 a)(h3:b[i]? = some [y102,y103])(h4:uni 2 b)(h5:cG [(aA y100),(aA y101)] [(0,3,true),(1,3,true)]=true∧cG [(aA y102),(aA y103)] [(0,3,true),(1,3,true)]=true)(h6:(fX [(aA y100),(aA y101)] [(aA y102),(aA y103)] [(0,3,true),(1,3,true)])=false):aC Tryz.prog 0 aCp (iN a b i) .ret (bG (iN a b i) [(4,(.kb false))]):=by
 exact aC.fin (g:=⟨(rng [(2,2),(5,7),(14,12)]),[],[],[]⟩) (o:=[bT,.x (.agg [(aA y100),(aA y101)]),.x (.agg [(aA y102),(aA y103)]),bT]) (l:=[_,_,_,_,0≤(i:Int)∧(i:Int)<(b.length:Int)∧(i*2)<(b.flatten.map aA).length,_,_,0≤(i:Int)∧(i:Int)<(a.length:Int)∧(i*2)<(a.flatten.map aA).length,_]) (by kernel_rfl) (gc (bI h6) (gc h5 (gc (aQ (i:=i) h4 h3) (gc (bD (i:=i) h4 h3) (gc (bB (k:=2) (i:=(i:Int)) (by decide) h4 (Int.natCast_nonneg _) h3) (gc (aQ (i:=i) h2 h1) (gc (bD (i:=i) h2 h1) (gc (bB (k:=2) (i:=(i:Int)) (by decide) h2 (Int.natCast_nonneg _) h1) (gc (aL h0) gn)))))))))
theorem aUr{a b:List (List Int)}{i:Nat}{y100 y101 y102 y103:Int}{i':Nat}(h0:(i:Int)<(a.length:Int))(h1:a[i]? = some [y100,y101])(h2:uni 2 a)(h3:b[i]? = some [y102,y103])(h4:uni 2 b)(h5:cG [(aA y100),(aA y101)] [(0,3,true),(1,3,true)]=true∧cG [(aA y102),(aA y103)] [(0,3,true),(1,3,true)]=true)(h6:(fX [(aA y100),(aA y101)] [(aA y102),(aA y103)] [(0,3,true),(1,3,true)])=true)(h7:inR (((i+1):Nat):Int))(ei':i'=(i+1)):aC Tryz.prog 0 aCp (iN a b i) .normal (iN a b i'):=by
 subst ei'
 exact aC.fin (g:=⟨(rng [(2,10),(14,12)]),[],[],[]⟩) (o:=[bT,.x (.agg [(aA y100),(aA y101)]),.x (.agg [(aA y102),(aA y103)]),bF]) (l:=[_,_,_,_,_,0≤(i:Int)∧(i:Int)<(b.length:Int)∧(i*2)<(b.flatten.map aA).length,_,_,0≤(i:Int)∧(i:Int)<(a.length:Int)∧(i*2)<(a.flatten.map aA).length,_]) (by kernel_rfl) (gc h7 (gc (aI h6) (gc h5 (gc (aQ (i:=i) h4 h3) (gc (bD (i:=i) h4 h3) (gc (bB (k:=2) (i:=(i:Int)) (by decide) h4 (Int.natCast_nonneg _) h3) (gc (aQ (i:=i) h2 h1) (gc (bD (i:=i) h2 h1) (gc (bB (k:=2) (i:=(i:Int)) (by decide) h2 (Int.natCast_nonneg _) h1) (gc (aL h0) gn))))))))))
theorem aUs{a b:List (List Int)}{i:Nat}(h0:(a.length:Int)≤(i:Int)):aC Tryz.prog 0 aCp (iN a b i) (.exit 0) (iN a b i):=by
 exact aC.fin (g:=⟨(rng [(2,10),(14,12)]),[],[],[]⟩) (o:=[bF]) (l:=[_]) (by kernel_rfl) (gc (aE h0) gn)
theorem bBi(a b:List (List Int))(ha:uni 2 a)(hb:uni 2 b)(hl:a.length≤1000){base:Nat}:FV Tryz.prog 119 [.p (.sl a.length (a.flatten.map aA)),.p (.sl b.length (b.flatten.map aA))] base (.p (blP (decide (a=b)))) []:=by
 by_cases hlen:a.length=b.length
 ·have eqx:∀ i,i<a.length→∃ x y,a[i]? = some x∧b[i]? = some y∧x.length=2∧y.length=2:=fun i hi =>
   ⟨a[i],b[i],List.getElem?_eq_getElem hi,List.getElem?_eq_getElem (by omega),ha _ (List.getElem_mem hi),hb _ (List.getElem_mem (by omega))⟩
  rcases aF.find (P:=Tryz.prog) (k:=0) (b:=aCp) (fun i=>iN a b i) (fun i _=>bG (iN a b i) [(4,.kb false)]) (iN a b a.length) .ret (.exit 0) (by simp) (by simp) (fun j=>decide (a.getD j []≠b.getD j [])) (List.range a.length)
   (fun i x hx hp=>by
    have hi:i<a.length:=by have:=aS hx;simpa using this
    obtain ⟨y,z,hy,hz,ly,lz⟩:=eqx i hi
    obtain ⟨a,b,rfl⟩:=len2 ly
    obtain ⟨a',b',rfl⟩:=len2 lz
    have hxi:x=i:=by rw [List.getElem?_range hi] at hx;exact (Option.some.inj hx).symm
    subst hxi
    have he:=of_decide_eq_false hp
    simp only [List.getD_eq_getElem?_getD,hy,hz,Option.getD_some,ne_eq,Classical.not_not] at he
    cases he
    exact aUr (by omega) hy ha hz hb ⟨rfl,rfl⟩ (by simp [fX,oR]) (aR (by omega)) rfl)
   (fun i x hx hp=>by
    have hi:i<a.length:=by have:=aS hx;simpa using this
    obtain ⟨y,z,hy,hz,ly,lz⟩:=eqx i hi
    obtain ⟨a,b,rfl⟩:=len2 ly
    obtain ⟨a',b',rfl⟩:=len2 lz
    have hxi:x=i:=by rw [List.getElem?_range hi] at hx;exact (Option.some.inj hx).symm
    subst hxi
    have he:=of_decide_eq_true hp
    simp only [List.getD_eq_getElem?_getD,hy,hz,Option.getD_some] at he
    exact aUq (by omega) hy ha hz hb ⟨rfl,rfl⟩ (by
     rw [Bool.eq_false_iff]
     intro h
     simp [fX,oR] at h
     exact he (by simp [h])))
   (by rw [List.length_range];exact aUs (by omega)) with ⟨i,x,h1,h2,h3,h4⟩ | ⟨h1,h2,h3⟩
  ·have hi:i<a.length:=by have:=aS h1;simpa using this
   have hxi:x=i:=by rw [List.getElem?_range hi] at h1;exact (Option.some.inj h1).symm
   have he:=of_decide_eq_true h3
   rw [decide_eq_false (fun e=>he (by rw [e]))]
   exact bNg (by omega) h4
  ·have hall:∀ i,i<a.length→a.getD i []=b.getD i []:=fun i hi=>by
    have:=List.any_eq_false.1 h2 i (List.mem_range.2 hi)
    simpa using this
   have e:a=b:=by
    apply List.ext_getElem hlen
    intro i h1 h2
    have:=hall i h1
    simpa [List.getD_eq_getElem?_getD,List.getElem?_eq_getElem h1,List.getElem?_eq_getElem h2] using this
   rw [decide_eq_true e]
   exact bNf (by omega) h3
 ·rw [decide_eq_false (fun e=>hlen (by rw [e]))]
  exact bNe (by omega)
def iO(a:List (List Int))(b:List (List Int))(i:Nat):St:=⟨fr 26 [(0,(.p (.sl a.length (a.flatten.map aA)))),(1,(.p (.sl b.length (b.flatten.map aA)))),(12,(.p (aA (a.length:Int)))),(13,(.p (aA (i:Int))))],[]⟩
theorem bNh{a b:List (List Int)}(h0:(a.length:Int)≠(b.length:Int)){base:Nat}:FV Tryz.prog 120 [(.p (.sl a.length (a.flatten.map aA))),(.p (.sl b.length (b.flatten.map aA)))] base (.p (blP false)) []:=by
 exact FV.fin Tryz.func120 rfl (o:=[bT]) (l:=[_]) (by kernel_rfl) (gc (cX h0) gn)
theorem bNi{a b:List (List Int)}{i'0:Nat}(h0:(a.length:Int)=(b.length:Int))(hl1:aF Tryz.prog 0 aCq (iO a b 0) (.exit 0) (iO a b i'0)){base:Nat}:FV Tryz.prog 120 [(.p (.sl a.length (a.flatten.map aA))),(.p (.sl b.length (b.flatten.map aA)))] base (.p (blP true)) []:=by
 exact FV.fin Tryz.func120 rfl (o:=[bF,.k 4 ⟨(rng [(2,10),(14,12)]),[],[],[]⟩ (.exit 0) (iO a b i'0)]) (l:=[_,_]) (by kernel_rfl) (gc hl1.code (gc (cE h0) gn))
theorem bNj{a b:List (List Int)}{i'0:Nat}(h0:(a.length:Int)=(b.length:Int))(hl1:aF Tryz.prog 0 aCq (iO a b 0) .ret (bG (iO a b i'0) [(4,(.kb false))])){base:Nat}:FV Tryz.prog 120 [(.p (.sl a.length (a.flatten.map aA))),(.p (.sl b.length (b.flatten.map aA)))] base (.p (blP false)) []:=by
 exact FV.fin Tryz.func120 rfl (o:=[bF,.k 4 ⟨(rng [(2,10),(14,12)]),[],[],[]⟩ .ret (bG (iO a b i'0) [(4,(.kb false))])]) (l:=[_,_]) (by kernel_rfl) (gc hl1.code (gc (cE h0) gn))
theorem aUt{a b:List (List Int)}{i:Nat}{y100 y101 y102 y103 y104 y105 y106 y107 y108 y109 y110 y111:Int}(h0:(i:Int)<(a.length:Int))(h1:a[i]? = some [y100,y101,y102,y103,y104,y105])(h2:uni 6 a)(h3:b[i]? = some [y106,y107,y108,y109,y110,y111])(h4:uni 6 b)(h5:cG [(aA y100),(aA y101),(aA y102),(aA y103),(aA y104),(aA y105)] [(0,3,true),(1,3,true),(2,3,true),(3,3,true),(4,3,true),(5,3,true)]=true∧cG [(aA y106),(aA y107),(aA y108),(aA y109),(aA y110),(aA y111)] [(0,3,true),(1,3,true),(2,3,true),(3,3,true),(4,3,true),(5,3,true)]=true)(h6:(fX [(aA y100),(aA y101),(aA y102),(aA y103),(aA y104),(aA y105)] [(aA y106),(aA y107),(aA y108),(aA y109),(aA y110),(aA y111)] [(0,3,true),(1,3,true),(2,3,true),(3,3,true),(4,3,true),(5,3,true)])=false):aC Tryz.prog 0 aCq (iO a b i) .ret (bG (iO a b i) [(4,(.kb false))]):=by
 exact aC.fin (g:=⟨(rng [(2,2),(5,7),(14,12)]),[],[],[]⟩) (o:=[bT,.x (dcE y100 y101 y102 y103 y104 y105),.x (dcE y106 y107 y108 y109 y110 y111),bT]) (l:=[_,_,_,_,0≤(i:Int)∧(i:Int)<(b.length:Int)∧(i*6)<(b.flatten.map aA).length,_,_,0≤(i:Int)∧(i:Int)<(a.length:Int)∧(i*6)<(a.flatten.map aA).length,_]) (by kernel_rfl) (gc (bI h6) (gc h5 (gc (aQ (i:=i) h4 h3) (gc (bD (i:=i) h4 h3) (gc (bB (k:=6) (i:=(i:Int)) (by decide) h4 (Int.natCast_nonneg _) h3) (gc (aQ (i:=i) h2 h1) (gc (bD (i:=i) h2 h1) (gc (bB (k:=6) (i:=(i:Int)) (by decide) h2 (Int.natCast_nonneg _) h1) (gc (aL h0) gn)))))))))
theorem aUu{a b:List (List Int)}{i:Nat}{y100 y101 y102 y103 y104 y105 y106 y107 y108 y109 y110 y111:Int}{i':Nat}(h0:(i:Int)<(a.length:Int))(h1:a[i]? = some [y100,y101,y102,y103,y104,y105])(h2:uni 6 a)(h3:b[i]? = some [y106,y107,y108,y109,y110,y111])(h4:uni 6 b)(h5:cG [(aA y100),(aA y101),(aA y102),(aA y103),(aA y104),(aA y105)] [(0,3,true),(1,3,true),(2,3,true),(3,3,true),(4,3,true),(5,3,true)]=true∧cG [(aA y106),(aA y107),(aA y108),(aA y109),(aA y110),(aA y111)] [(0,3,true),(1,3,true),(2,3,true),(3,3,true),(4,3,true),(5,3,true)]=true)(h6:(fX [(aA y100),(aA y101),(aA y102),(aA y103),(aA y104),(aA y105)] [(aA y106),(aA y107),(aA y108),(aA y109),(aA y110),(aA y111)] [(0,3,true),(1,3,true),(2,3,true),(3,3,true),(4,3,true),(5,3,true)])=true)(h7:inR (((i+1):Nat):Int))(ei':i'=(i+1)):aC Tryz.prog 0 aCq (iO a b i) .normal (iO a b i'):=by
 subst ei'
 exact aC.fin (g:=⟨(rng [(2,10),(14,12)]),[],[],[]⟩) (o:=[bT,.x (dcE y100 y101 y102 y103 y104 y105),.x (dcE y106 y107 y108 y109 y110 y111),bF]) (l:=[_,_,_,_,_,0≤(i:Int)∧(i:Int)<(b.length:Int)∧(i*6)<(b.flatten.map aA).length,_,_,0≤(i:Int)∧(i:Int)<(a.length:Int)∧(i*6)<(a.flatten.map aA).length,_]) (by kernel_rfl) (gc h7 (gc (aI h6) (gc h5 (gc (aQ (i:=i) h4 h3) (gc (bD (i:=i) h4 h3) (gc (bB (k:=6) (i:=(i:Int)) (by decide) h4 (Int.natCast_nonneg _) h3) (gc (aQ (i:=i) h2 h1) (gc (bD (i:=i) h2 h1) (gc (bB (k:=6) (i:=(i:Int)) (by decide) h2 (Int.natCast_nonneg _) h1) (gc (aL h0) gn))))))))))
theorem aUv{a b:List (List Int)}{i:Nat}(h0:(a.length:Int)≤(i:Int)):aC Tryz.prog 0 aCq (iO a b i) (.exit 0) (iO a b i):=by
 exact aC.fin (g:=⟨(rng [(2,10),(14,12)]),[],[],[]⟩) (o:=[bF]) (l:=[_]) (by kernel_rfl) (gc (aE h0) gn)
theorem bNk(a b:List (List Int))(ha:uni 6 a)(hb:uni 6 b)(hl:a.length≤1000){base:Nat}:FV Tryz.prog 120 [.p (.sl a.length (a.flatten.map aA)),.p (.sl b.length (b.flatten.map aA))] base (.p (blP (decide (a=b)))) []:=by
 by_cases hlen:a.length=b.length
 ·have eqx:∀ i,i<a.length→∃ x y,a[i]? = some x∧b[i]? = some y∧x.length=6∧y.length=6:=fun i hi =>
   ⟨a[i],b[i],List.getElem?_eq_getElem hi,List.getElem?_eq_getElem (by omega),ha _ (List.getElem_mem hi),hb _ (List.getElem_mem (by omega))⟩
  rcases aF.find (P:=Tryz.prog) (k:=0) (b:=aCq) (fun i=>iO a b i) (fun i _=>bG (iO a b i) [(4,.kb false)]) (iO a b a.length) .ret (.exit 0) (by simp) (by simp) (fun j=>decide (a.getD j []≠b.getD j [])) (List.range a.length)
   (fun i x hx hp=>by
    have hi:i<a.length:=by have:=aS hx;simpa using this
    obtain ⟨y,z,hy,hz,ly,lz⟩:=eqx i hi
    obtain ⟨a,b,c,d,e,f,rfl⟩:=len6 ly
    obtain ⟨a',b',c',d',e',f',rfl⟩:=len6 lz
    have hxi:x=i:=by rw [List.getElem?_range hi] at hx;exact (Option.some.inj hx).symm
    subst hxi
    have he:=of_decide_eq_false hp
    simp only [List.getD_eq_getElem?_getD,hy,hz,Option.getD_some,ne_eq,Classical.not_not] at he
    cases he
    exact aUu (by omega) hy ha hz hb ⟨rfl,rfl⟩ (by simp [fX,oR]) (aR (by omega)) rfl)
   (fun i x hx hp=>by
    have hi:i<a.length:=by have:=aS hx;simpa using this
    obtain ⟨y,z,hy,hz,ly,lz⟩:=eqx i hi
    obtain ⟨a,b,c,d,e,f,rfl⟩:=len6 ly
    obtain ⟨a',b',c',d',e',f',rfl⟩:=len6 lz
    have hxi:x=i:=by rw [List.getElem?_range hi] at hx;exact (Option.some.inj hx).symm
    subst hxi
    have he:=of_decide_eq_true hp
    simp only [List.getD_eq_getElem?_getD,hy,hz,Option.getD_some] at he
    exact aUt (by omega) hy ha hz hb ⟨rfl,rfl⟩ (by
     rw [Bool.eq_false_iff]
     intro h
     simp [fX,oR] at h
     exact he (by simp [h])))
   (by rw [List.length_range];exact aUv (by omega)) with ⟨i,x,h1,h2,h3,h4⟩ | ⟨h1,h2,h3⟩
  ·have hi:i<a.length:=by have:=aS h1;simpa using this
   have hxi:x=i:=by rw [List.getElem?_range hi] at h1;exact (Option.some.inj h1).symm
   have he:=of_decide_eq_true h3
   rw [decide_eq_false (fun e=>he (by rw [e]))]
   exact bNj (by omega) h4
  ·have hall:∀ i,i<a.length→a.getD i []=b.getD i []:=fun i hi=>by
    have:=List.any_eq_false.1 h2 i (List.mem_range.2 hi)
    simpa using this
   have e:a=b:=by
    apply List.ext_getElem hlen
    intro i h1 h2
    have:=hall i h1
    simpa [List.getD_eq_getElem?_getD,List.getElem?_eq_getElem h1,List.getElem?_eq_getElem h2] using this
   rw [decide_eq_true e]
   exact bNi (by omega) h3
 ·rw [decide_eq_false (fun e=>hlen (by rw [e]))]
  exact bNh (by omega)
end
section

noncomputable abbrev aId:Code:=sub (cd Tryz.f30) [1,1,0,1,0,0]
noncomputable abbrev aIe:Code:=sub (cd Tryz.f30) [1,1,1,0,1,0,0]
theorem bBe{dl:Int}{sk dc:List (List Int)}(h0:uni 2 sk)(h1:1≤sk.length∧sk.length≤1000)(h2:uni 6 dc)(h3:dc.length≤1000):FMM Tryz.prog 121 [(.p (.agg (bH dl sk dc)))] [] (.agg [(.p (aA dl)),(.p (.sl sk.length (sk.flatten.map aA))),(.own 0)]) [some (.row 44 dc.length (dc.flatten.map aA))]:=by
 exact FMM.fin (k:=0) (g:=⟨[],[10],[2],[]⟩) rfl Tryz.func121 rfl (o:=[.c (.own 2) [(2,(.row 31 sk.length (sk.flatten.map aA)))],.c (.own 10) [(10,(.row 44 dc.length (dc.flatten.map aA)))]]) (l:=[_,_]) (by kernel_rfl) (gc (fk 10 (bMt dc h2 h3) rfl) (gc (fk 2 (bMu sk h0 h1) rfl) gn))
theorem bMi{dl:Int}{sk dc:List (List Int)}(h0:uni 2 sk)(h1:sk.length≤1000)(h2:uni 6 dc)(h3:dc.length≤1000){base:Nat}:FV Tryz.prog 27 [(.p (.agg (bH dl sk dc)))] base (.p (.agg (bH dl sk dc))) []:=by
 exact FV.frz (FMM.fin (k:=0) (g:=⟨[],[],[2,10],[]⟩) rfl Tryz.func27 rfl (o:=[.c (.own 2) [(2,(.row 31 sk.length (sk.flatten.map aA)))],.c (.own 10) [(10,(.row 44 dc.length (dc.flatten.map aA)))]]) (l:=[_,_]) (by kernel_rfl) (gc (fk 10 (bBg dc h2 h3) rfl) (gc (fk 2 (bBf sk h0 h1) rfl) gn))) (by kernel_rfl)
theorem bMj{dl:Int}{sk dc:List (List Int)}(h0:uni 2 sk)(h1:sk.length≤1000)(h2:uni 6 dc)(h3:dc.length≤1000):FMM Tryz.prog 27 [(.p (.agg (bH dl sk dc)))] [] (.agg [(.p (aA dl)),(.p (.sl sk.length (sk.flatten.map aA))),(.own 0)]) [some (.row 44 dc.length (dc.flatten.map aA))]:=by
 exact FMM.fin (k:=0) (g:=⟨[],[10],[2],[]⟩) rfl Tryz.func27 rfl (o:=[.c (.own 2) [(2,(.row 31 sk.length (sk.flatten.map aA)))],.c (.own 10) [(10,(.row 44 dc.length (dc.flatten.map aA)))]]) (l:=[_,_]) (by kernel_rfl) (gc (fk 10 (bBg dc h2 h3) rfl) (gc (fk 2 (bBf sk h0 h1) rfl) gn))
theorem bMk{dl:Int}{sk dc:List (List Int)}{r0:Int}(h0:uni 2 sk)(h1:uni 6 dc)(h2:(dL dl sk dc)≠(0:Int))(er0:r0=(dL dl sk dc)){base:Nat}:FV Tryz.prog 45 [(.p (.agg (bH dl sk dc)))] base (.tup [(.p (.agg [(aA 0),bR,bR])),(.p (aA r0))]) []:=by
 subst er0
 exact FV.frz (FMM.fin (k:=0) (g:=⟨[],[],[],[]⟩) rfl Tryz.func45 rfl (o:=[.c (.p (aA (dL dl sk dc))) [],bT]) (l:=[_,_]) (by kernel_rfl) (gc (cX h2) (gc (fk 2 (mI dl sk dc h0 h1) rfl) gn))) (by kernel_rfl)
theorem bMl{dl:Int}{sk dc:List (List Int)}(h0:uni 2 sk)(h1:uni 6 dc)(h2:(dL dl sk dc)=(0:Int))(h3:0≤(sk.length:Int)∧(sk.length:Int)≤(sk.length:Int)∧(sk.length:Int)≤1000000)(h4:0≤(dc.length:Int)∧(dc.length:Int)≤(dc.length:Int)∧(dc.length:Int)≤1000000)(h5:(aN sk 0).Nodup)(h6:sk.length≤1000)(h7:(aN dc 0).Nodup)(h8:dc.length≤1000){base:Nat}:FV Tryz.prog 45 [(.p (.agg (bH dl sk dc)))] base (.tup [(.p (.agg (bH dl (aB sk) (aB dc)))),(.p (aA 0))]) []:=by
 exact FV.frz (FMM.fin (k:=0) (g:=⟨[],[],[3,5],[]⟩) rfl Tryz.func45 rfl (o:=[.c (.p (aA (dL dl sk dc))) [],bF,.c (.tup []) [(3,(.row 31 ((aB sk).length) ((aB sk).flatten.map aA)))],.c (.tup []) [(5,(.row 44 ((aB dc).length) ((aB dc).flatten.map aA)))]]) (l:=[FC Tryz.prog 117 [(.own 5),(.fn 118 [] [])] [(5,(.row 44 dc.length (dc.flatten.map aA)))] 7 (.tup []) [(5,(.row 44 ((aB dc).length) ((aB dc).flatten.map aA)))],FC Tryz.prog 114 [(.own 3),(.fn 115 [] [])] [(3,(.row 31 sk.length (sk.flatten.map aA)))] 7 (.tup []) [(3,(.row 31 ((aB sk).length) ((aB sk).flatten.map aA)))],(dc.flatten.map aA).length=dc.length*6∧dc.length=dc.length,(sk.flatten.map aA).length=sk.length*2∧sk.length=sk.length,_,_,_,_]) (by kernel_rfl) (gc (FMM.fc (ids:=[5]) (aUy dc h1 h7 h8) (by kernel_rfl)) (gc (FMM.fc (ids:=[3]) (aUx sk h0 h5 h6) (by kernel_rfl)) (gc ⟨lJ h1,rfl⟩ (gc ⟨lJ h0,rfl⟩ (gc h4 (gc h3 (gc (cE h2) (gc (fk 2 (mI dl sk dc h0 h1) rfl) gn))))))))) (by kernel_rfl)
theorem bFs(dl:Int)(sk dc:List (List Int))(us:uni 2 sk)(ud:uni 6 dc)(h:dL dl sk dc≠0){base:Nat}:FV Tryz.prog 45 [.p (.agg (bH dl sk dc))] base (.tup [.p (.agg [aA 0,bR,bR]),.p (aA (dL dl sk dc))]) []:=bMk us ud h rfl
theorem aLm(dl:Int)(sk dc:List (List Int))(h:dG dl sk dc){base:Nat}:FV Tryz.prog 45 [.p (.agg (bH dl sk dc))] base (.tup [.p (.agg (bH dl (aB sk) (aB dc))),.p (aA 0)]) []:=by
 have h1:=h.len
 have h2:=h.len2
 exact bMl h.us h.ud ((qN h.us h.ud).2 h) (by omega) (by omega) h.ns (by omega) h.nd (by omega)
theorem bMm{dl:Int}{sk dc:List (List Int)}{x0 x1 x2 x3 x4 x5 r0:Int}(h0:uni 2 sk)(h1:uni 6 dc)(h2:(dL dl sk dc)≠(0:Int))(er0:r0=(dL dl sk dc)){base:Nat}:FV Tryz.prog 47 [(.p (.agg (bH dl sk dc))),(.p (dcE x0 x1 x2 x3 x4 x5))] base (.tup [(.p (.agg [(aA 0),bR,bR])),(.p (aA r0))]) []:=by
 subst er0
 exact FV.frz (FMM.fin (k:=0) (g:=⟨[],[],[],[]⟩) rfl Tryz.func47 rfl (o:=[.c (.p (aA (dL dl sk dc))) [],bT]) (l:=[_,_]) (by kernel_rfl) (gc (cX h2) (gc (fk 3 (mI dl sk dc h0 h1) rfl) gn))) (by kernel_rfl)
theorem bMn{dl:Int}{sk dc:List (List Int)}{x0 x1 x2 x3 x4 x5:Int}{l0:List (List Int)}{r0:Int}(h0:uni 2 sk)(h1:uni 6 dc)(h2:(dL dl sk dc)=(0:Int))(h3:1≤sk.length∧sk.length≤1000)(h4:dc.length≤1000)(h5:[(aA x0),(aA x1),(aA x2),(aA x3),(aA x4),(aA x5)].length=1*6∧dc.length+1≤1000000)(h6:(dc.length+1)=l0.length)(h7:((dc.flatten.map aA)++[(aA x0),(aA x1),(aA x2),(aA x3),(aA x4),(aA x5)])=(l0.flatten.map aA))(h8:uni 6 l0)(h9:(dL dl sk l0)≠(0:Int))(er0:r0=(dL dl sk l0)){base:Nat}:FV Tryz.prog 47 [(.p (.agg (bH dl sk dc))),(.p (dcE x0 x1 x2 x3 x4 x5))] base (.tup [(.p (.agg [(aA 0),bR,bR])),(.p (aA r0))]) []:=by
 subst er0
 exact FV.frz (FMM.fin (k:=0) (g:=⟨[],[],[],[]⟩) rfl Tryz.func47 rfl (o:=[.c (.p (aA (dL dl sk dc))) [],bF,.c (.agg [(.p (aA dl)),(.p (.sl sk.length (sk.flatten.map aA))),(.own 3)]) [(3,(.row 44 dc.length (dc.flatten.map aA)))],.c (.p (aA (dL dl sk l0))) [],bT]) (l:=[_,FC Tryz.prog 44 [(.agg [(.p (aA dl)),(.p (.sl sk.length (sk.flatten.map aA))),(.own 6)])] [(6,(.row 44 (dc.length+1) ((dc.flatten.map aA)++[(aA x0),(aA x1),(aA x2),(aA x3),(aA x4),(aA x5)])))] 7 (.p (aA (dL dl sk l0))) [],_,[(aA x0),(aA x1),(aA x2),(aA x3),(aA x4),(aA x5)].length=6,FC Tryz.prog 121 [(.p (.agg (bH dl sk dc)))] [] 3 (.agg [(.p (aA dl)),(.p (.sl sk.length (sk.flatten.map aA))),(.own 3)]) [(3,(.row 44 dc.length (dc.flatten.map aA)))],_,_]) (by kernel_rfl) (gc (cX h9) (gc (FV.view (args':=[(.p (.agg [(aA dl),(.sl sk.length (sk.flatten.map aA)),(.sl (dc.length+1) ((dc.flatten.map aA)++[(aA x0),(aA x1),(aA x2),(aA x3),(aA x4),(aA x5)]))]))]) (by rw [show ((.sl (dc.length+1) ((dc.flatten.map aA)++[(aA x0),(aA x1),(aA x2),(aA x3),(aA x4),(aA x5)])):PV) = .sl l0.length (l0.flatten.map aA) from by rw [h6,h7]];exact (mI dl sk l0 h0 h8)) (by kernel_rfl) (by kernel_rfl) (by kernel_rfl)) (gc h5 (gc (by first | decide | simp) (gc (FMM.fc (ids:=[]) (bBe (dl:=dl) (sk:=sk) (dc:=dc) h0 h3 h1 h4) (by kernel_rfl)) (gc (cE h2) (gc (fk 3 (mI dl sk dc h0 h1) rfl) gn)))))))) (by kernel_rfl)
theorem bMo{dl:Int}{sk dc:List (List Int)}{x0 x1 x2 x3 x4 x5:Int}{l0:List (List Int)}{r0n:Nat}{r0c:List PV}(h0:uni 2 sk)(h1:uni 6 dc)(h2:(dL dl sk dc)=(0:Int))(h3:1≤sk.length∧sk.length≤1000)(h4:dc.length≤1000)(h5:[(aA x0),(aA x1),(aA x2),(aA x3),(aA x4),(aA x5)].length=1*6∧dc.length+1≤1000000)(h6:(dc.length+1)=l0.length)(h7:((dc.flatten.map aA)++[(aA x0),(aA x1),(aA x2),(aA x3),(aA x4),(aA x5)])=(l0.flatten.map aA))(h8:uni 6 l0)(h9:(dL dl sk l0)=(0:Int))(er0n:r0n=(dc.length+1))(er0c:r0c=((dc.flatten.map aA)++[(aA x0),(aA x1),(aA x2),(aA x3),(aA x4),(aA x5)])){base:Nat}:FV Tryz.prog 47 [(.p (.agg (bH dl sk dc))),(.p (dcE x0 x1 x2 x3 x4 x5))] base (.tup [(.p (.agg [(aA dl),(.sl sk.length (sk.flatten.map aA)),(.sl r0n r0c)])),(.p (aA 0))]) []:=by
 subst er0n er0c
 exact FV.frz (FMM.fin (k:=0) (g:=⟨[],[],[6],[]⟩) rfl Tryz.func47 rfl (o:=[.c (.p (aA (dL dl sk dc))) [],bF,.c (.agg [(.p (aA dl)),(.p (.sl sk.length (sk.flatten.map aA))),(.own 3)]) [(3,(.row 44 dc.length (dc.flatten.map aA)))],.c (.p (aA (dL dl sk l0))) [],bF]) (l:=[_,FC Tryz.prog 44 [(.agg [(.p (aA dl)),(.p (.sl sk.length (sk.flatten.map aA))),(.own 6)])] [(6,(.row 44 (dc.length+1) ((dc.flatten.map aA)++[(aA x0),(aA x1),(aA x2),(aA x3),(aA x4),(aA x5)])))] 7 (.p (aA (dL dl sk l0))) [],_,[(aA x0),(aA x1),(aA x2),(aA x3),(aA x4),(aA x5)].length=6,FC Tryz.prog 121 [(.p (.agg (bH dl sk dc)))] [] 3 (.agg [(.p (aA dl)),(.p (.sl sk.length (sk.flatten.map aA))),(.own 3)]) [(3,(.row 44 dc.length (dc.flatten.map aA)))],_,_]) (by kernel_rfl) (gc (cE h9) (gc (FV.view (args':=[(.p (.agg [(aA dl),(.sl sk.length (sk.flatten.map aA)),(.sl (dc.length+1) ((dc.flatten.map aA)++[(aA x0),(aA x1),(aA x2),(aA x3),(aA x4),(aA x5)]))]))]) (by rw [show ((.sl (dc.length+1) ((dc.flatten.map aA)++[(aA x0),(aA x1),(aA x2),(aA x3),(aA x4),(aA x5)])):PV) = .sl l0.length (l0.flatten.map aA) from by rw [h6,h7]];exact (mI dl sk l0 h0 h8)) (by kernel_rfl) (by kernel_rfl) (by kernel_rfl)) (gc h5 (gc (by first | decide | simp) (gc (FMM.fc (ids:=[]) (bBe (dl:=dl) (sk:=sk) (dc:=dc) h0 h3 h1 h4) (by kernel_rfl)) (gc (cE h2) (gc (fk 3 (mI dl sk dc h0 h1) rfl) gn)))))))) (by kernel_rfl)
def uU(dl:Int)(sk dc:List (List Int))(x:List Int):Int:=if dL dl sk dc=0 then dL dl sk (dc++[x]) else dL dl sk dc
theorem iX{l:List (List Int)}{x:List Int}:(l.flatten.map aA)++(x.map aA)=((l++[x]).flatten.map aA):=by simp
theorem zL{k:Nat}{l:List (List Int)}{x:List Int}(hu:uni k l)(hx:x.length=k):uni k (l++[x]):=fun y hy=>by
 rcases List.mem_append.1 hy with h | h
 ·exact hu y h
 ·simp at h;rw [h];exact hx
theorem aPg(dl:Int)(sk dc:List (List Int))(a b c d e f:Int)(us:uni 2 sk)(ud:uni 6 dc)(h:uU dl sk dc [a,b,c,d,e,f]≠0){base:Nat}:FV Tryz.prog 47 [.p (.agg (bH dl sk dc)),.p (dcE a b c d e f)] base (.tup [.p (.agg [aA 0,bR,bR]),.p (aA (uU dl sk dc [a,b,c,d,e,f]))]) []:=by
 unfold uU at h ⊢
 by_cases h1:dL dl sk dc=0
 ·rw [if_pos h1] at h ⊢
  have hr:=(qN us ud).1 h1
  have:=hr.len
  have:=hr.len2
  exact bMn us ud h1 (by omega) (by omega) ⟨rfl,by omega⟩ (by simp) (iX (l:=dc) (x:=[a,b,c,d,e,f])) (zL ud rfl) h rfl
 ·rw [if_neg h1]
  exact bMm us ud h1 rfl
theorem bMp(dl:Int)(sk dc:List (List Int))(a b c d e f:Int)(h:dG dl sk dc)(h2:dG dl sk (dc++[[a,b,c,d,e,f]])){base:Nat}:FV Tryz.prog 47 [.p (.agg (bH dl sk dc)),.p (dcE a b c d e f)] base (.tup [.p (.agg (bH dl sk (dc++[[a,b,c,d,e,f]]))),.p (aA 0)]) []:=by
 have:=h.len
 have:=h.len2
 exact bMo h.us h.ud ((qN h.us h.ud).2 h) (by omega) (by omega) ⟨rfl,by omega⟩ (by simp) (iX (l:=dc) (x:=[a,b,c,d,e,f])) (zL h.ud rfl) ((qN h2.us h2.ud).2 h2) (by simp) (iX (l:=dc) (x:=[a,b,c,d,e,f])).symm
def lH(dl:Int)(sk:List (List Int))(dc:List (List Int))(i:Nat)(on:Nat)(oc:List PV):St:=⟨fr 52 [(1,(.ptr 0 0)),(2,(.ptr 1 0)),(3,(.ptr 2 0)),(12,(.p (.sl sk.length (sk.flatten.map aA)))),(13,(.p (aA (sk.length:Int)))),(14,(.p (aA (i:Int))))],[some (.box 26 [(.p (aA dl)),(.p (.sl sk.length (sk.flatten.map aA))),(.p (.sl dc.length (dc.flatten.map aA)))]),some (.box 61 [(.p (aA 0)),(.p bR),(.p bR)]),some (.box 61 [(.p (aA dl)),(.own 3),(.p bR)]),some (.row 73 on oc)]⟩
def lI(dl:Int)(dc:List (List Int))(o'1:List (List Int))(j:Nat)(qn:Nat)(qc:List PV):St:=⟨fr 52 [(2,(.ptr 0 0)),(3,(.ptr 1 0)),(26,(.p (.sl dc.length (dc.flatten.map aA)))),(27,(.p (aA (dc.length:Int)))),(28,(.p (aA (j:Int))))],[some (.box 61 [(.p (aA 0)),(.p bR),(.p bR)]),some (.box 61 [(.p (aA dl)),(.own 2),(.own 3)]),some (.row 73 o'1.length (o'1.flatten.map aA)),some (.row 119 qn qc)]⟩
theorem bMq{dl:Int}{sk dc:List (List Int)}{i'0:Nat}{o'1:List (List Int)}{j'2:Nat}{q'3:List (List Int)}(hl0:aF Tryz.prog 0 aId (lH dl sk dc 0 0 []) (.exit 0) (lH dl sk dc i'0 o'1.length (o'1.flatten.map aA)))(hl1:aF Tryz.prog 0 aIe (lI dl dc o'1 0 0 []) (.exit 2) (lI dl dc o'1 j'2 q'3.length (q'3.flatten.map aA))){base:Nat}:FV Tryz.prog 30 [(.p (.agg (bH dl sk dc)))] base (.p (.agg (bH dl o'1 q'3))) []:=by
 exact FV.frz (FMM.fin (k:=0) (g:=⟨[],[],[2,3],[]⟩) rfl Tryz.func30 rfl (o:=[.k 8 ⟨(rng [(0,1),(4,3),(8,4),(15,10)]),[0,1,2,3],[],[(102001,73)]⟩ (.exit 0) (lH dl sk dc i'0 o'1.length (o'1.flatten.map aA)),.k 4 ⟨(rng [(0,2),(4,22),(29,22)]),[1,2,3,4],[],[(102002,119)]⟩ (.exit 2) (lI dl dc o'1 j'2 q'3.length (q'3.flatten.map aA))]) (l:=[_,_]) (by kernel_rfl) (gc hl1.code (gc hl0.code gn))) (by kernel_rfl)
theorem aUg{dl:Int}{sk dc:List (List Int)}{i:Nat}{o:List (List Int)}{y100 y101:Int}{i':Nat}{o':List (List Int)}(h0:(i:Int)<(sk.length:Int))(h1:sk[i]? = some [y100,y101])(h2:uni 2 sk)(h3:[(aA y100),(aA y101)].length=1*2∧o.length+1≤1000000)(h4:inR (((i+1):Nat):Int))(ei':i'=(i+1))(eo'n:o'.length=(o.length+1))(eo'c:o'.flatten.map aA=((o.flatten.map aA)++[(aA y100),(aA y101)])):aC Tryz.prog 0 aId (lH dl sk dc i o.length (o.flatten.map aA)) .normal (lH dl sk dc i' o'.length (o'.flatten.map aA)):=by
 subst ei'
 have raw:aC Tryz.prog 0 aId (lH dl sk dc i o.length (o.flatten.map aA)) .normal (lH dl sk dc (i+1) (o.length+1) ((o.flatten.map aA)++[(aA y100),(aA y101)])):=aC.fin (g:=⟨(rng [(0,1),(4,3),(8,4),(15,10)]),[0,1,2,6],[],[]⟩) (o:=[bT,.x (.agg [(aA y100),(aA y101)])]) (l:=[_,_,[(aA y100),(aA y101)].length=2,_,_,0≤(i:Int)∧(i:Int)<(sk.length:Int)∧(i*2)<(sk.flatten.map aA).length,_]) (by kernel_rfl) (gc h4 (gc h3 (gc (by first | decide | simp) (gc (aQ (i:=i) h2 h1) (gc (bD (i:=i) h2 h1) (gc (bB (k:=2) (i:=(i:Int)) (by decide) h2 (Int.natCast_nonneg _) h1) (gc (aL h0) gn)))))))
 exact raw.cast (by rw [eo'n,eo'c])
theorem aUh{dl:Int}{sk dc:List (List Int)}{i:Nat}{o:List (List Int)}(h0:(sk.length:Int)≤(i:Int)):aC Tryz.prog 0 aId (lH dl sk dc i o.length (o.flatten.map aA)) (.exit 0) (lH dl sk dc i o.length (o.flatten.map aA)):=by
 exact aC.fin (g:=⟨(rng [(0,1),(4,3),(8,4),(15,10)]),[0,1,2,3],[],[]⟩) (o:=[bF]) (l:=[_]) (by kernel_rfl) (gc (aE h0) gn)
theorem aUi{dl:Int}{dc o'1:List (List Int)}{j:Nat}{q:List (List Int)}{y200 y201 y202 y203 y204 y205:Int}{j':Nat}{q':List (List Int)}(h0:(j:Int)<(dc.length:Int))(h1:dc[j]? = some [y200,y201,y202,y203,y204,y205])(h2:uni 6 dc)(h3:[(aA y200),(aA y201),(aA y202),(aA y203),(aA y204),(aA y205)].length=1*6∧q.length+1≤1000000)(h4:inR (((j+1):Nat):Int))(ej':j'=(j+1))(eq'n:q'.length=(q.length+1))(eq'c:q'.flatten.map aA=((q.flatten.map aA)++[(aA y200),(aA y201),(aA y202),(aA y203),(aA y204),(aA y205)])):aC Tryz.prog 0 aIe (lI dl dc o'1 j q.length (q.flatten.map aA)) .normal (lI dl dc o'1 j' q'.length (q'.flatten.map aA)):=by
 subst ej'
 have raw:aC Tryz.prog 0 aIe (lI dl dc o'1 j q.length (q.flatten.map aA)) .normal (lI dl dc o'1 (j+1) (q.length+1) ((q.flatten.map aA)++[(aA y200),(aA y201),(aA y202),(aA y203),(aA y204),(aA y205)])):=aC.fin (g:=⟨(rng [(0,2),(4,22),(29,22)]),[0,1,2,6],[],[]⟩) (o:=[bT,.x (dcE y200 y201 y202 y203 y204 y205)]) (l:=[_,_,[(aA y200),(aA y201),(aA y202),(aA y203),(aA y204),(aA y205)].length=6,_,_,0≤(j:Int)∧(j:Int)<(dc.length:Int)∧(j*6)<(dc.flatten.map aA).length,_]) (by kernel_rfl) (gc h4 (gc h3 (gc (by first | decide | simp) (gc (aQ (i:=j) h2 h1) (gc (bD (i:=j) h2 h1) (gc (bB (k:=6) (i:=(j:Int)) (by decide) h2 (Int.natCast_nonneg _) h1) (gc (aL h0) gn)))))))
 exact raw.cast (by rw [eq'n,eq'c])
theorem aUj{dl:Int}{dc o'1:List (List Int)}{j:Nat}{q:List (List Int)}(h0:(dc.length:Int)≤(j:Int)):aC Tryz.prog 0 aIe (lI dl dc o'1 j q.length (q.flatten.map aA)) (.exit 2) (lI dl dc o'1 j q.length (q.flatten.map aA)):=by
 exact aC.fin (g:=⟨(rng [(0,2),(4,22),(29,22)]),[0,1,2,3],[],[]⟩) (o:=[bF]) (l:=[_]) (by kernel_rfl) (gc (aE h0) gn)
theorem oB(dl:Int)(sk dc:List (List Int))(us:uni 2 sk)(ud:uni 6 dc)(hs:sk.length≤1000)(hd:dc.length≤1000){base:Nat}:FV Tryz.prog 30 [.p (.agg (bH dl sk dc))] base (.p (.agg (bH dl sk dc))) []:=by
 have L0:=aF.count (P:=Tryz.prog) (k:=0) (b:=aId) (e := .exit 0) (R:=lH dl sk dc sk.length sk.length (sk.flatten.map aA)) sk.length (fun i=>lH dl sk dc i (sk.take i).length ((sk.take i).flatten.map aA))
  (fun i hi=>by
   obtain ⟨a,b,hx⟩:=at2 us hi
   have et:sk.take (i+1)=sk.take i++[[a,b]]:=by rw [List.take_add_one,hx];rfl
   exact aUg (o:=sk.take i) (o':=sk.take (i+1)) (by omega) hx us ⟨rfl,by simp;omega⟩ (aR (by omega)) rfl (by simp;omega) (by rw [et];exact (iX (l:=sk.take i) (x:=[a,b])).symm))
  (by rw [List.take_length];exact aUh (by omega)) (by simp)
 have L1:=aF.count (P:=Tryz.prog) (k:=0) (b:=aIe) (e := .exit 2) (R:=lI dl dc sk dc.length dc.length (dc.flatten.map aA)) dc.length (fun i=>lI dl dc sk i (dc.take i).length ((dc.take i).flatten.map aA))
  (fun i hi=>by
   obtain ⟨a,b,c,d,e,f,hx⟩:=at6 ud hi
   have et:dc.take (i+1)=dc.take i++[[a,b,c,d,e,f]]:=by rw [List.take_add_one,hx];rfl
   exact aUi (q:=dc.take i) (q':=dc.take (i+1)) (by omega) hx ud ⟨rfl,by simp;omega⟩ (aR (by omega)) rfl (by simp;omega) (by rw [et];exact (iX (l:=dc.take i) (x:=[a,b,c,d,e,f])).symm))
  (by rw [List.take_length];exact aUj (by omega)) (by simp)
 exact bMq L0 L1
end
section

end
section

noncomputable abbrev kN:Code:=sub (cd Tryz.f31) [1,1,1,1,0,1,0,0]
noncomputable abbrev pL:Code:=sub (cd Tryz.f31) [1,1,1,0,1,0,0]
noncomputable abbrev wI:Code:=sub (cd Tryz.f31) [1,1,1,1,1,0,1,0,0]
noncomputable abbrev wJ:Code:=sub (cd Tryz.f31) [1,1,1,1,1,1,1,0,1,0,0]
noncomputable abbrev zJ:Code:=sub (cd Tryz.f31) [1,1,1,1,1,1,0,1,0,0]
noncomputable abbrev zK:Code:=sub (cd Tryz.f31) [1,1,1,1,1,1,1,1,0,1,0,0]
noncomputable abbrev aCl:Code:=sub (cd Tryz.f92) [1,0,1,0,0]
noncomputable abbrev aCm:Code:=sub (cd Tryz.f101) [1,0,1,0,0]
noncomputable abbrev aIb:Code:=sub (cd Tryz.f31) [1,1,1,1,1,0,1,0,0,1,0,0,1,0,0]
noncomputable abbrev aIc:Code:=sub (cd Tryz.f31) [1,1,1,1,1,1,0,1,0,0,1,0,0,1,0,0]
theorem bFp{n a b:Int}(h0:n<a){base:Nat}:FV Tryz.prog 91 [(.p (aA n)),(.p (aA a)),(.p (aA b))] base (.p (blP true)) []:=by
 exact FV.fin Tryz.func91 rfl (o:=[bT,bT,bT,bT]) (l:=[_,_,_,_]) (by kernel_rfl) (gc (aL h0) (gc (aL h0) (gc (aL h0) (gc (aL h0) gn))))
theorem bFq{n a b:Int}{r0:Bool}(h0:a≤n)(er0:r0=(decide (n > b))){base:Nat}:FV Tryz.prog 91 [(.p (aA n)),(.p (aA a)),(.p (aA b))] base (.p (blP r0)) []:=by
 subst er0
 exact FV.fin Tryz.func91 rfl (o:=[bF,bF,bF,bF]) (l:=[_,_,_,_]) (by kernel_rfl) (gc (aE h0) (gc (aE h0) (gc (aE h0) (gc (aE h0) gn))))
def bW(n a b:Int):Bool := !within n a b
theorem bN(n a b:Int){base:Nat}:FV Tryz.prog 91 [.p (aA n),.p (aA a),.p (aA b)] base (.p (blP (bW n a b))) []:=by
 by_cases h:n<a
 ·rw [show bW n a b=true by unfold bW within;simp;omega];exact bFp h
 ·exact bFq (by omega) (by rw [Bool.eq_iff_iff];unfold bW within;simp;omega)
def iJ(dl:Int)(sk:List (List Int))(dc:List (List Int))(v:Int)(i:Nat):St:=⟨fr 22 [(1,(.p (aA v))),(2,(.ptr 0 0)),(5,(.p (aA (i:Int))))],[some (.box 61 [(.p (aA dl)),(.p (.sl sk.length (sk.flatten.map aA))),(.p (.sl dc.length (dc.flatten.map aA)))])]⟩
theorem bLt{dl:Int}{sk dc:List (List Int)}{v:Int}{i'0:Nat}(hl0:aF Tryz.prog 0 aCl (iJ dl sk dc v 0) (.exit 0) (iJ dl sk dc v i'0)){base:Nat}:FV Tryz.prog 92 [(.p (.agg (bH dl sk dc))),(.p (aA v))] base (.p (aA (-1:Int))) []:=by
 exact FV.fin Tryz.func92 rfl (o:=[.k 6 ⟨(rng [(0,1),(3,2),(6,16)]),[0],[],[]⟩ (.exit 0) (iJ dl sk dc v i'0)]) (l:=[_]) (by kernel_rfl) (gc hl0.code gn)
theorem bLu{dl:Int}{sk dc:List (List Int)}{v:Int}{i'0:Nat}(hl0:aF Tryz.prog 0 aCl (iJ dl sk dc v 0) .ret (bG (iJ dl sk dc v i'0) [(4,(.p (aA (i'0:Int))))])){base:Nat}:FV Tryz.prog 92 [(.p (.agg (bH dl sk dc))),(.p (aA v))] base (.p (aA (i'0:Int))) []:=by
 exact FV.fin Tryz.func92 rfl (o:=[.k 6 ⟨(rng [(0,1),(3,2),(6,16)]),[0],[],[]⟩ .ret (bG (iJ dl sk dc v i'0) [(4,(.p (aA (i'0:Int))))])]) (l:=[_]) (by kernel_rfl) (gc hl0.code gn)
theorem aSq{dl:Int}{sk dc:List (List Int)}{v:Int}{i:Nat}{y100 y101:Int}(h0:(i:Int)<(sk.length:Int))(h1:sk[i]? = some [y100,y101])(h2:uni 2 sk)(h3:y100=v):aC Tryz.prog 0 aCl (iJ dl sk dc v i) .ret (bG (iJ dl sk dc v i) [(4,(.p (aA (i:Int))))]):=by
 exact aC.fin (g:=⟨(rng [(0,1),(3,1),(6,16)]),[0],[],[]⟩) (o:=[bT,.x (aA y100),bT]) (l:=[_,(sk.flatten.map aA)[(i*2)]? = some (aA y100),0≤(i:Int)∧(i:Int)<(sk.length:Int)∧(i*2)<(sk.flatten.map aA).length,_]) (by kernel_rfl) (gc (bE h3) (gc (cQ (i:=i) (f:=0) h2 h1 rfl) (gc (bB (k:=2) (i:=(i:Int)) (by decide) h2 (Int.natCast_nonneg _) h1) (gc (aL h0) gn))))
theorem aSr{dl:Int}{sk dc:List (List Int)}{v:Int}{i:Nat}{y100 y101:Int}{i':Nat}(h0:(i:Int)<(sk.length:Int))(h1:sk[i]? = some [y100,y101])(h2:uni 2 sk)(h3:y100≠v)(h4:inR (((i+1):Nat):Int))(ei':i'=(i+1)):aC Tryz.prog 0 aCl (iJ dl sk dc v i) .normal (iJ dl sk dc v i'):=by
 subst ei'
 exact aC.fin (g:=⟨(rng [(0,1),(3,2),(6,16)]),[0],[],[]⟩) (o:=[bT,.x (aA y100),bF]) (l:=[_,_,(sk.flatten.map aA)[(i*2)]? = some (aA y100),0≤(i:Int)∧(i:Int)<(sk.length:Int)∧(i*2)<(sk.flatten.map aA).length,_]) (by kernel_rfl) (gc h4 (gc (aU h3) (gc (cQ (i:=i) (f:=0) h2 h1 rfl) (gc (bB (k:=2) (i:=(i:Int)) (by decide) h2 (Int.natCast_nonneg _) h1) (gc (aL h0) gn)))))
theorem aSs{dl:Int}{sk dc:List (List Int)}{v:Int}{i:Nat}(h0:(sk.length:Int)≤(i:Int)):aC Tryz.prog 0 aCl (iJ dl sk dc v i) (.exit 0) (iJ dl sk dc v i):=by
 exact aC.fin (g:=⟨(rng [(0,1),(3,2),(6,16)]),[0],[],[]⟩) (o:=[bF]) (l:=[_]) (by kernel_rfl) (gc (aE h0) gn)
theorem aLl(dl:Int)(sk dc:List (List Int))(v:Int)(hu:uni 2 sk)(hl:sk.length≤1000){base:Nat}:FV Tryz.prog 92 [.p (.agg (bH dl sk dc)),.p (aA v)] base (.p (aA (bC (fun x=>decide (x.getD 0 0=v)) sk))) []:=by
 rcases aF.find (P:=Tryz.prog) (k:=0) (b:=aCl) (fun i=>iJ dl sk dc v i) (fun i _=>bG (iJ dl sk dc v i) [(4,.p (aA (i:Int)))]) (iJ dl sk dc v sk.length) .ret (.exit 0) (by simp) (by simp) (fun x:List Int=>decide (x.getD 0 0=v)) sk
  (fun i x hx hp=>by
   obtain ⟨a,b,rfl⟩:=len2 (hu _ (List.mem_of_getElem? hx))
   exact aSr (by have:=aS hx;omega) hx hu (by simpa using hp) (aR (by have:=aS hx;omega)) rfl)
  (fun i x hx hp=>by
   obtain ⟨a,b,rfl⟩:=len2 (hu _ (List.mem_of_getElem? hx))
   exact aSq (by have:=aS hx;omega) hx hu (by simpa using hp))
  (aSs (i:=sk.length) (by omega)) with ⟨i,x,h1,h2,h3,h4⟩ | ⟨h1,h2,h3⟩
 ·rw [eM h2];exact bLu h4
 ·rw [gP h1];exact bLt h3
def iK(dl:Int)(sk:List (List Int))(dc:List (List Int))(v:Int)(i:Nat):St:=⟨fr 22 [(1,(.p (aA v))),(2,(.ptr 0 0)),(5,(.p (aA (i:Int))))],[some (.box 61 [(.p (aA dl)),(.p (.sl sk.length (sk.flatten.map aA))),(.p (.sl dc.length (dc.flatten.map aA)))])]⟩
theorem bLv{dl:Int}{sk dc:List (List Int)}{v:Int}{i'0:Nat}(hl0:aF Tryz.prog 0 aCm (iK dl sk dc v 0) (.exit 0) (iK dl sk dc v i'0)){base:Nat}:FV Tryz.prog 101 [(.p (.agg (bH dl sk dc))),(.p (aA v))] base (.p (aA (-1:Int))) []:=by
 exact FV.fin Tryz.func101 rfl (o:=[.k 6 ⟨(rng [(0,1),(3,2),(6,16)]),[0],[],[]⟩ (.exit 0) (iK dl sk dc v i'0)]) (l:=[_]) (by kernel_rfl) (gc hl0.code gn)
theorem bLw{dl:Int}{sk dc:List (List Int)}{v:Int}{i'0:Nat}(hl0:aF Tryz.prog 0 aCm (iK dl sk dc v 0) .ret (bG (iK dl sk dc v i'0) [(4,(.p (aA (i'0:Int))))])){base:Nat}:FV Tryz.prog 101 [(.p (.agg (bH dl sk dc))),(.p (aA v))] base (.p (aA (i'0:Int))) []:=by
 exact FV.fin Tryz.func101 rfl (o:=[.k 6 ⟨(rng [(0,1),(3,2),(6,16)]),[0],[],[]⟩ .ret (bG (iK dl sk dc v i'0) [(4,(.p (aA (i'0:Int))))])]) (l:=[_]) (by kernel_rfl) (gc hl0.code gn)
theorem aSt{dl:Int}{sk dc:List (List Int)}{v:Int}{i:Nat}{y100 y101 y102 y103 y104 y105:Int}(h0:(i:Int)<(dc.length:Int))(h1:dc[i]? = some [y100,y101,y102,y103,y104,y105])(h2:uni 6 dc)(h3:y100=v):aC Tryz.prog 0 aCm (iK dl sk dc v i) .ret (bG (iK dl sk dc v i) [(4,(.p (aA (i:Int))))]):=by
 exact aC.fin (g:=⟨(rng [(0,1),(3,1),(6,16)]),[0],[],[]⟩) (o:=[bT,.x (aA y100),bT]) (l:=[_,(dc.flatten.map aA)[(i*6)]? = some (aA y100),0≤(i:Int)∧(i:Int)<(dc.length:Int)∧(i*6)<(dc.flatten.map aA).length,_]) (by kernel_rfl) (gc (bE h3) (gc (cQ (i:=i) (f:=0) h2 h1 rfl) (gc (bB (k:=6) (i:=(i:Int)) (by decide) h2 (Int.natCast_nonneg _) h1) (gc (aL h0) gn))))
theorem aSu{dl:Int}{sk dc:List (List Int)}{v:Int}{i:Nat}{y100 y101 y102 y103 y104 y105:Int}{i':Nat}(h0:(i:Int)<(dc.length:Int))(h1:dc[i]? = some [y100,y101,y102,y103,y104,y105])(h2:uni 6 dc)(h3:y100≠v)(h4:inR (((i+1):Nat):Int))(ei':i'=(i+1)):aC Tryz.prog 0 aCm (iK dl sk dc v i) .normal (iK dl sk dc v i'):=by
 subst ei'
 exact aC.fin (g:=⟨(rng [(0,1),(3,2),(6,16)]),[0],[],[]⟩) (o:=[bT,.x (aA y100),bF]) (l:=[_,_,(dc.flatten.map aA)[(i*6)]? = some (aA y100),0≤(i:Int)∧(i:Int)<(dc.length:Int)∧(i*6)<(dc.flatten.map aA).length,_]) (by kernel_rfl) (gc h4 (gc (aU h3) (gc (cQ (i:=i) (f:=0) h2 h1 rfl) (gc (bB (k:=6) (i:=(i:Int)) (by decide) h2 (Int.natCast_nonneg _) h1) (gc (aL h0) gn)))))
theorem aSv{dl:Int}{sk dc:List (List Int)}{v:Int}{i:Nat}(h0:(dc.length:Int)≤(i:Int)):aC Tryz.prog 0 aCm (iK dl sk dc v i) (.exit 0) (iK dl sk dc v i):=by
 exact aC.fin (g:=⟨(rng [(0,1),(3,2),(6,16)]),[0],[],[]⟩) (o:=[bF]) (l:=[_]) (by kernel_rfl) (gc (aE h0) gn)
theorem bLx(dl:Int)(sk dc:List (List Int))(v:Int)(hu:uni 6 dc)(hl:dc.length≤1000){base:Nat}:FV Tryz.prog 101 [.p (.agg (bH dl sk dc)),.p (aA v)] base (.p (aA (bC (fun x=>decide (x.getD 0 0=v)) dc))) []:=by
 rcases aF.find (P:=Tryz.prog) (k:=0) (b:=aCm) (fun i=>iK dl sk dc v i) (fun i _=>bG (iK dl sk dc v i) [(4,.p (aA (i:Int)))]) (iK dl sk dc v dc.length) .ret (.exit 0) (by simp) (by simp) (fun x:List Int=>decide (x.getD 0 0=v)) dc
  (fun i x hx hp=>by
   obtain ⟨a,b,c,d,e,g,rfl⟩:=len6 (hu _ (List.mem_of_getElem? hx))
   exact aSu (by have:=aS hx;omega) hx hu (by simpa using hp) (aR (by have:=aS hx;omega)) rfl)
  (fun i x hx hp=>by
   obtain ⟨a,b,c,d,e,g,rfl⟩:=len6 (hu _ (List.mem_of_getElem? hx))
   exact aSt (by have:=aS hx;omega) hx hu (by simpa using hp))
  (aSv (i:=dc.length) (by omega)) with ⟨i,x,h1,h2,h3,h4⟩ | ⟨h1,h2,h3⟩
 ·rw [eM h2];exact bLw h4
 ·rw [gP h1];exact bLv h3
def cR(dl:Int)(sk:List (List Int))(dc:List (List Int))(i:Nat):St:=⟨fr 219 [(1,(.ptr 0 0)),(3,(.p (aA (i:Int))))],[some (.box 61 [(.p (aA dl)),(.p (.sl sk.length (sk.flatten.map aA))),(.p (.sl dc.length (dc.flatten.map aA)))])]⟩
def cC(dl:Int)(sk:List (List Int))(dc:List (List Int))(j:Nat):St:=⟨fr 219 [(1,(.ptr 0 0)),(4,(.p (aA (j:Int))))],[some (.box 61 [(.p (aA dl)),(.p (.sl sk.length (sk.flatten.map aA))),(.p (.sl dc.length (dc.flatten.map aA)))])]⟩
def dP(dl:Int)(sk:List (List Int))(dc:List (List Int))(a:Nat):St:=⟨fr 219 [(1,(.ptr 0 0)),(6,(.p (aA (a:Int))))],[some (.box 61 [(.p (aA dl)),(.p (.sl sk.length (sk.flatten.map aA))),(.p (.sl dc.length (dc.flatten.map aA)))])]⟩
def eC(dl:Int)(sk:List (List Int))(dc:List (List Int))(c:Nat):St:=⟨fr 219 [(1,(.ptr 0 0)),(8,(.p (aA (c:Int))))],[some (.box 61 [(.p (aA dl)),(.p (.sl sk.length (sk.flatten.map aA))),(.p (.sl dc.length (dc.flatten.map aA)))])]⟩
def dX(dl:Int)(sk:List (List Int))(dc:List (List Int))(e:Nat):St:=⟨fr 219 [(1,(.ptr 0 0)),(10,(.p (aA (e:Int))))],[some (.box 61 [(.p (aA dl)),(.p (.sl sk.length (sk.flatten.map aA))),(.p (.sl dc.length (dc.flatten.map aA)))])]⟩
def eQ(dl:Int)(sk:List (List Int))(dc:List (List Int))(f:Nat):St:=⟨fr 219 [(1,(.ptr 0 0)),(12,(.p (aA (f:Int))))],[some (.box 61 [(.p (aA dl)),(.p (.sl sk.length (sk.flatten.map aA))),(.p (.sl dc.length (dc.flatten.map aA)))])]⟩
theorem bLy{dl:Int}{sk dc:List (List Int)}(h0:(sk.length:Int)<(1:Int)){base:Nat}:FV Tryz.prog 31 [(.p (.agg (bH dl sk dc)))] base (.p (aA 2)) []:=by
 exact FV.fin Tryz.func31 rfl (o:=[bT,bT,bT,bT,bT]) (l:=[_,_,_,_,_]) (by kernel_rfl) (gc (aL h0) (gc (aL h0) (gc (aL h0) (gc (aL h0) (gc (aL h0) gn)))))
theorem bLz{dl:Int}{sk dc:List (List Int)}(h0:(1:Int)≤(sk.length:Int))(h1:(30:Int)<(sk.length:Int)){base:Nat}:FV Tryz.prog 31 [(.p (.agg (bH dl sk dc)))] base (.p (aA 2)) []:=by
 exact FV.fin Tryz.func31 rfl (o:=[bF,bF,bF,bF,bF,bT,bT,bT,bT,bT]) (l:=[_,_,_,_,_,_,_,_,_,_]) (by kernel_rfl) (gc (aL h1) (gc (aL h1) (gc (aL h1) (gc (aL h1) (gc (aL h1) (gc (aE h0) (gc (aE h0) (gc (aE h0) (gc (aE h0) (gc (aE h0) gn))))))))))
theorem bMa{dl:Int}{sk dc:List (List Int)}(h0:(1:Int)≤(sk.length:Int))(h1:(sk.length:Int)≤(30:Int))(h2:(40:Int)<(dc.length:Int)){base:Nat}:FV Tryz.prog 31 [(.p (.agg (bH dl sk dc)))] base (.p (aA 2)) []:=by
 exact FV.fin Tryz.func31 rfl (o:=[bF,bF,bF,bF,bF,bF,bF,bF,bF,bF,bT]) (l:=[_,_,_,_,_,_,_,_,_,_,_]) (by kernel_rfl) (gc (aL h2) (gc (aE h1) (gc (aE h1) (gc (aE h1) (gc (aE h1) (gc (aE h1) (gc (aE h0) (gc (aE h0) (gc (aE h0) (gc (aE h0) (gc (aE h0) gn)))))))))))
theorem bMb{dl:Int}{sk dc:List (List Int)}(h0:(1:Int)≤(sk.length:Int))(h1:(sk.length:Int)≤(30:Int))(h2:(dc.length:Int)≤(40:Int))(h3:(bW dl (0:Int) (10000:Int))=true){base:Nat}:FV Tryz.prog 31 [(.p (.agg (bH dl sk dc)))] base (.p (aA 3)) []:=by
 exact FV.fin Tryz.func31 rfl (o:=[bF,bF,bF,bF,bF,bF,bF,bF,bF,bF,bF,.c (.p (blP (bW dl (0:Int) (10000:Int)))) [],bT]) (l:=[_,_,_,_,_,_,_,_,_,_,_,_,_]) (by kernel_rfl) (gc h3 (gc (fk 1 (bN dl (0:Int) (10000:Int)) rfl) (gc (aE h2) (gc (aE h1) (gc (aE h1) (gc (aE h1) (gc (aE h1) (gc (aE h1) (gc (aE h0) (gc (aE h0) (gc (aE h0) (gc (aE h0) (gc (aE h0) gn)))))))))))))
theorem bMc{dl:Int}{sk dc:List (List Int)}{i'0 j'1 a'2 c'3 e'4 f'5:Nat}(h0:(1:Int)≤(sk.length:Int))(h1:(sk.length:Int)≤(30:Int))(h2:(dc.length:Int)≤(40:Int))(h3:(bW dl (0:Int) (10000:Int))=false)(hl4:aF Tryz.prog 0 pL (cR dl sk dc 0) (.exit 0) (cR dl sk dc i'0))(hl5:aF Tryz.prog 0 kN (cC dl sk dc 0) (.exit 2) (cC dl sk dc j'1))(hl6:aF Tryz.prog 0 wI (dP dl sk dc 0) (.exit 4) (dP dl sk dc a'2))(hl7:aF Tryz.prog 0 zJ (eC dl sk dc 0) (.exit 8) (eC dl sk dc c'3))(hl8:aF Tryz.prog 0 wJ (dX dl sk dc 0) (.exit 12) (dX dl sk dc e'4))(hl9:aF Tryz.prog 0 zK (eQ dl sk dc 0) (.exit 14) (eQ dl sk dc f'5)){base:Nat}:FV Tryz.prog 31 [(.p (.agg (bH dl sk dc)))] base (.p (aA 0)) []:=by
 exact FV.fin Tryz.func31 rfl (o:=[bF,bF,bF,bF,bF,bF,bF,bF,bF,bF,bF,.c (.p (blP (bW dl (0:Int) (10000:Int)))) [],bF,.k 4 ⟨(rng [(0,1),(2,1),(14,42)]),[0],[],[]⟩ (.exit 0) (cR dl sk dc i'0),.k 4 ⟨(rng [(0,1),(2,2),(5,1),(14,90)]),[0],[],[]⟩ (.exit 2) (cC dl sk dc j'1),.k 4 ⟨(rng [(0,1),(2,4),(7,1),(14,115)]),[0],[],[]⟩ (.exit 4) (dP dl sk dc a'2),.k 4 ⟨(rng [(0,1),(2,6),(9,1),(14,140)]),[0],[],[]⟩ (.exit 8) (eC dl sk dc c'3),.k 4 ⟨(rng [(0,1),(2,8),(11,1),(14,172)]),[0],[],[]⟩ (.exit 12) (dX dl sk dc e'4),.k 4 ⟨(rng [(0,1),(2,10),(13,206)]),[0],[],[]⟩ (.exit 14) (eQ dl sk dc f'5)]) (l:=[_,_,_,_,_,_,_,_,_,_,_,_,_,_,_,_,_,_,_]) (by kernel_rfl) (gc hl9.code (gc hl8.code (gc hl7.code (gc hl6.code (gc hl5.code (gc hl4.code (gc h3 (gc (fk 1 (bN dl (0:Int) (10000:Int)) rfl) (gc (aE h2) (gc (aE h1) (gc (aE h1) (gc (aE h1) (gc (aE h1) (gc (aE h1) (gc (aE h0) (gc (aE h0) (gc (aE h0) (gc (aE h0) (gc (aE h0) gn)))))))))))))))))))
theorem bMd{dl:Int}{sk dc:List (List Int)}{i'0 j'1 a'2 c'3 e'4 f'5:Nat}(h0:(1:Int)≤(sk.length:Int))(h1:(sk.length:Int)≤(30:Int))(h2:(dc.length:Int)≤(40:Int))(h3:(bW dl (0:Int) (10000:Int))=false)(hl4:aF Tryz.prog 0 pL (cR dl sk dc 0) (.exit 0) (cR dl sk dc i'0))(hl5:aF Tryz.prog 0 kN (cC dl sk dc 0) (.exit 2) (cC dl sk dc j'1))(hl6:aF Tryz.prog 0 wI (dP dl sk dc 0) (.exit 4) (dP dl sk dc a'2))(hl7:aF Tryz.prog 0 zJ (eC dl sk dc 0) (.exit 8) (eC dl sk dc c'3))(hl8:aF Tryz.prog 0 wJ (dX dl sk dc 0) (.exit 12) (dX dl sk dc e'4))(hl9:aF Tryz.prog 0 zK (eQ dl sk dc 0) .ret (bG (eQ dl sk dc f'5) [(2,(.p (aA 4)))])){base:Nat}:FV Tryz.prog 31 [(.p (.agg (bH dl sk dc)))] base (.p (aA 4)) []:=by
 exact FV.fin Tryz.func31 rfl (o:=[bF,bF,bF,bF,bF,bF,bF,bF,bF,bF,bF,.c (.p (blP (bW dl (0:Int) (10000:Int)))) [],bF,.k 4 ⟨(rng [(0,1),(2,1),(14,42)]),[0],[],[]⟩ (.exit 0) (cR dl sk dc i'0),.k 4 ⟨(rng [(0,1),(2,2),(5,1),(14,90)]),[0],[],[]⟩ (.exit 2) (cC dl sk dc j'1),.k 4 ⟨(rng [(0,1),(2,4),(7,1),(14,115)]),[0],[],[]⟩ (.exit 4) (dP dl sk dc a'2),.k 4 ⟨(rng [(0,1),(2,6),(9,1),(14,140)]),[0],[],[]⟩ (.exit 8) (eC dl sk dc c'3),.k 4 ⟨(rng [(0,1),(2,8),(11,1),(14,172)]),[0],[],[]⟩ (.exit 12) (dX dl sk dc e'4),.k 4 ⟨(rng [(0,1),(2,10),(13,206)]),[0],[],[]⟩ .ret (bG (eQ dl sk dc f'5) [(2,(.p (aA 4)))])]) (l:=[_,_,_,_,_,_,_,_,_,_,_,_,_,_,_,_,_,_,_]) (by kernel_rfl) (gc hl9.code (gc hl8.code (gc hl7.code (gc hl6.code (gc hl5.code (gc hl4.code (gc h3 (gc (fk 1 (bN dl (0:Int) (10000:Int)) rfl) (gc (aE h2) (gc (aE h1) (gc (aE h1) (gc (aE h1) (gc (aE h1) (gc (aE h1) (gc (aE h0) (gc (aE h0) (gc (aE h0) (gc (aE h0) (gc (aE h0) gn)))))))))))))))))))
theorem bMe{dl:Int}{sk dc:List (List Int)}{i'0 j'1 a'2 c'3 e'4:Nat}(h0:(1:Int)≤(sk.length:Int))(h1:(sk.length:Int)≤(30:Int))(h2:(dc.length:Int)≤(40:Int))(h3:(bW dl (0:Int) (10000:Int))=false)(hl4:aF Tryz.prog 0 pL (cR dl sk dc 0) (.exit 0) (cR dl sk dc i'0))(hl5:aF Tryz.prog 0 kN (cC dl sk dc 0) (.exit 2) (cC dl sk dc j'1))(hl6:aF Tryz.prog 0 wI (dP dl sk dc 0) (.exit 4) (dP dl sk dc a'2))(hl7:aF Tryz.prog 0 zJ (eC dl sk dc 0) (.exit 8) (eC dl sk dc c'3))(hl8:aF Tryz.prog 0 wJ (dX dl sk dc 0) .ret (bG (dX dl sk dc e'4) [(2,(.p (aA 1)))])){base:Nat}:FV Tryz.prog 31 [(.p (.agg (bH dl sk dc)))] base (.p (aA 1)) []:=by
 exact FV.fin Tryz.func31 rfl (o:=[bF,bF,bF,bF,bF,bF,bF,bF,bF,bF,bF,.c (.p (blP (bW dl (0:Int) (10000:Int)))) [],bF,.k 4 ⟨(rng [(0,1),(2,1),(14,42)]),[0],[],[]⟩ (.exit 0) (cR dl sk dc i'0),.k 4 ⟨(rng [(0,1),(2,2),(5,1),(14,90)]),[0],[],[]⟩ (.exit 2) (cC dl sk dc j'1),.k 4 ⟨(rng [(0,1),(2,4),(7,1),(14,115)]),[0],[],[]⟩ (.exit 4) (dP dl sk dc a'2),.k 4 ⟨(rng [(0,1),(2,6),(9,1),(14,140)]),[0],[],[]⟩ (.exit 8) (eC dl sk dc c'3),.k 4 ⟨(rng [(0,1),(2,8),(11,1),(14,172)]),[0],[],[]⟩ .ret (bG (dX dl sk dc e'4) [(2,(.p (aA 1)))])]) (l:=[_,_,_,_,_,_,_,_,_,_,_,_,_,_,_,_,_,_]) (by kernel_rfl) (gc hl8.code (gc hl7.code (gc hl6.code (gc hl5.code (gc hl4.code (gc h3 (gc (fk 1 (bN dl (0:Int) (10000:Int)) rfl) (gc (aE h2) (gc (aE h1) (gc (aE h1) (gc (aE h1) (gc (aE h1) (gc (aE h1) (gc (aE h0) (gc (aE h0) (gc (aE h0) (gc (aE h0) (gc (aE h0) gn))))))))))))))))))
theorem bMf{dl:Int}{sk dc:List (List Int)}{i'0 j'1 a'2 c'3:Nat}(h0:(1:Int)≤(sk.length:Int))(h1:(sk.length:Int)≤(30:Int))(h2:(dc.length:Int)≤(40:Int))(h3:(bW dl (0:Int) (10000:Int))=false)(hl4:aF Tryz.prog 0 pL (cR dl sk dc 0) (.exit 0) (cR dl sk dc i'0))(hl5:aF Tryz.prog 0 kN (cC dl sk dc 0) (.exit 2) (cC dl sk dc j'1))(hl6:aF Tryz.prog 0 wI (dP dl sk dc 0) (.exit 4) (dP dl sk dc a'2))(hl7:aF Tryz.prog 0 zJ (eC dl sk dc 0) .ret (bG (eC dl sk dc c'3) [(2,(.p (aA 5)))])){base:Nat}:FV Tryz.prog 31 [(.p (.agg (bH dl sk dc)))] base (.p (aA 5)) []:=by
 exact FV.fin Tryz.func31 rfl (o:=[bF,bF,bF,bF,bF,bF,bF,bF,bF,bF,bF,.c (.p (blP (bW dl (0:Int) (10000:Int)))) [],bF,.k 4 ⟨(rng [(0,1),(2,1),(14,42)]),[0],[],[]⟩ (.exit 0) (cR dl sk dc i'0),.k 4 ⟨(rng [(0,1),(2,2),(5,1),(14,90)]),[0],[],[]⟩ (.exit 2) (cC dl sk dc j'1),.k 4 ⟨(rng [(0,1),(2,4),(7,1),(14,115)]),[0],[],[]⟩ (.exit 4) (dP dl sk dc a'2),.k 4 ⟨(rng [(0,1),(2,6),(9,1),(14,140)]),[0],[],[]⟩ .ret (bG (eC dl sk dc c'3) [(2,(.p (aA 5)))])]) (l:=[_,_,_,_,_,_,_,_,_,_,_,_,_,_,_,_,_]) (by kernel_rfl) (gc hl7.code (gc hl6.code (gc hl5.code (gc hl4.code (gc h3 (gc (fk 1 (bN dl (0:Int) (10000:Int)) rfl) (gc (aE h2) (gc (aE h1) (gc (aE h1) (gc (aE h1) (gc (aE h1) (gc (aE h1) (gc (aE h0) (gc (aE h0) (gc (aE h0) (gc (aE h0) (gc (aE h0) gn)))))))))))))))))
theorem bMg{dl:Int}{sk dc:List (List Int)}{i'0 j'1 a'2:Nat}(h0:(1:Int)≤(sk.length:Int))(h1:(sk.length:Int)≤(30:Int))(h2:(dc.length:Int)≤(40:Int))(h3:(bW dl (0:Int) (10000:Int))=false)(hl4:aF Tryz.prog 0 pL (cR dl sk dc 0) (.exit 0) (cR dl sk dc i'0))(hl5:aF Tryz.prog 0 kN (cC dl sk dc 0) (.exit 2) (cC dl sk dc j'1))(hl6:aF Tryz.prog 0 wI (dP dl sk dc 0) .ret (bG (dP dl sk dc a'2) [(2,(.p (aA 5)))])){base:Nat}:FV Tryz.prog 31 [(.p (.agg (bH dl sk dc)))] base (.p (aA 5)) []:=by
 exact FV.fin Tryz.func31 rfl (o:=[bF,bF,bF,bF,bF,bF,bF,bF,bF,bF,bF,.c (.p (blP (bW dl (0:Int) (10000:Int)))) [],bF,.k 4 ⟨(rng [(0,1),(2,1),(14,42)]),[0],[],[]⟩ (.exit 0) (cR dl sk dc i'0),.k 4 ⟨(rng [(0,1),(2,2),(5,1),(14,90)]),[0],[],[]⟩ (.exit 2) (cC dl sk dc j'1),.k 4 ⟨(rng [(0,1),(2,4),(7,1),(14,115)]),[0],[],[]⟩ .ret (bG (dP dl sk dc a'2) [(2,(.p (aA 5)))])]) (l:=[_,_,_,_,_,_,_,_,_,_,_,_,_,_,_,_]) (by kernel_rfl) (gc hl6.code (gc hl5.code (gc hl4.code (gc h3 (gc (fk 1 (bN dl (0:Int) (10000:Int)) rfl) (gc (aE h2) (gc (aE h1) (gc (aE h1) (gc (aE h1) (gc (aE h1) (gc (aE h1) (gc (aE h0) (gc (aE h0) (gc (aE h0) (gc (aE h0) (gc (aE h0) gn))))))))))))))))
theorem bMh{dl:Int}{sk dc:List (List Int)}{i'0 j'1:Nat}(h0:(1:Int)≤(sk.length:Int))(h1:(sk.length:Int)≤(30:Int))(h2:(dc.length:Int)≤(40:Int))(h3:(bW dl (0:Int) (10000:Int))=false)(hl4:aF Tryz.prog 0 pL (cR dl sk dc 0) (.exit 0) (cR dl sk dc i'0))(hl5:aF Tryz.prog 0 kN (cC dl sk dc 0) .ret (bG (cC dl sk dc j'1) [(2,(.p (aA 3)))])){base:Nat}:FV Tryz.prog 31 [(.p (.agg (bH dl sk dc)))] base (.p (aA 3)) []:=by
 exact FV.fin Tryz.func31 rfl (o:=[bF,bF,bF,bF,bF,bF,bF,bF,bF,bF,bF,.c (.p (blP (bW dl (0:Int) (10000:Int)))) [],bF,.k 4 ⟨(rng [(0,1),(2,1),(14,42)]),[0],[],[]⟩ (.exit 0) (cR dl sk dc i'0),.k 4 ⟨(rng [(0,1),(2,2),(5,1),(14,90)]),[0],[],[]⟩ .ret (bG (cC dl sk dc j'1) [(2,(.p (aA 3)))])]) (l:=[_,_,_,_,_,_,_,_,_,_,_,_,_,_,_]) (by kernel_rfl) (gc hl5.code (gc hl4.code (gc h3 (gc (fk 1 (bN dl (0:Int) (10000:Int)) rfl) (gc (aE h2) (gc (aE h1) (gc (aE h1) (gc (aE h1) (gc (aE h1) (gc (aE h1) (gc (aE h0) (gc (aE h0) (gc (aE h0) (gc (aE h0) (gc (aE h0) gn)))))))))))))))
theorem bFr{dl:Int}{sk dc:List (List Int)}{i'0:Nat}(h0:(1:Int)≤(sk.length:Int))(h1:(sk.length:Int)≤(30:Int))(h2:(dc.length:Int)≤(40:Int))(h3:(bW dl (0:Int) (10000:Int))=false)(hl4:aF Tryz.prog 0 pL (cR dl sk dc 0) .ret (bG (cR dl sk dc i'0) [(2,(.p (aA 3)))])){base:Nat}:FV Tryz.prog 31 [(.p (.agg (bH dl sk dc)))] base (.p (aA 3)) []:=by
 exact FV.fin Tryz.func31 rfl (o:=[bF,bF,bF,bF,bF,bF,bF,bF,bF,bF,bF,.c (.p (blP (bW dl (0:Int) (10000:Int)))) [],bF,.k 4 ⟨(rng [(0,1),(2,1),(14,42)]),[0],[],[]⟩ .ret (bG (cR dl sk dc i'0) [(2,(.p (aA 3)))])]) (l:=[_,_,_,_,_,_,_,_,_,_,_,_,_,_]) (by kernel_rfl) (gc hl4.code (gc h3 (gc (fk 1 (bN dl (0:Int) (10000:Int)) rfl) (gc (aE h2) (gc (aE h1) (gc (aE h1) (gc (aE h1) (gc (aE h1) (gc (aE h1) (gc (aE h0) (gc (aE h0) (gc (aE h0) (gc (aE h0) (gc (aE h0) gn))))))))))))))
theorem aSw{dl:Int}{sk dc:List (List Int)}{i:Nat}{y100 y101:Int}(h0:(i:Int)<(sk.length:Int))(h1:sk[i]? = some [y100,y101])(h2:uni 2 sk)(h3:(bW y100 (1:Int) (999:Int))=true):aC Tryz.prog 0 pL (cR dl sk dc i) .ret (bG (cR dl sk dc i) [(2,(.p (aA 3)))]):=by
 exact aC.fin (g:=⟨(rng [(0,1),(14,42)]),[0],[],[]⟩) (o:=[bT,.x (aA y100),.c (.p (blP (bW y100 (1:Int) (999:Int)))) [],bT,bT,bT,bT,bT,bT,bT,bT]) (l:=[_,_,_,_,_,_,_,_,_,(sk.flatten.map aA)[(i*2)]? = some (aA y100),0≤(i:Int)∧(i:Int)<(sk.length:Int)∧(i*2)<(sk.flatten.map aA).length,_]) (by kernel_rfl) (gc h3 (gc h3 (gc h3 (gc h3 (gc h3 (gc h3 (gc h3 (gc h3 (gc (fk 1 (bN y100 (1:Int) (999:Int)) rfl) (gc (cQ (i:=i) (f:=0) h2 h1 rfl) (gc (bB (k:=2) (i:=(i:Int)) (by decide) h2 (Int.natCast_nonneg _) h1) (gc (aL h0) gn))))))))))))
theorem aSx{dl:Int}{sk dc:List (List Int)}{i:Nat}{y100 y101:Int}(h0:(i:Int)<(sk.length:Int))(h1:sk[i]? = some [y100,y101])(h2:uni 2 sk)(h3:(bW y100 (1:Int) (999:Int))=false)(h4:(bW y101 (-1:Int) (360000:Int))=true):aC Tryz.prog 0 pL (cR dl sk dc i) .ret (bG (cR dl sk dc i) [(2,(.p (aA 3)))]):=by
 exact aC.fin (g:=⟨(rng [(0,1),(14,42)]),[0],[],[]⟩) (o:=[bT,.x (aA y100),.c (.p (blP (bW y100 (1:Int) (999:Int)))) [],bF,bF,bF,bF,bF,bF,.x (aA y101),bF,.c (.p (blP (bW y101 (-1:Int) (360000:Int)))) [],bF,bT]) (l:=[_,_,_,_,(sk.flatten.map aA)[((i*2)+1)]? = some (aA y101),_,_,0≤(i:Int)∧(i:Int)<(sk.length:Int)∧(i*2)<(sk.flatten.map aA).length,_,_,_,_,_,(sk.flatten.map aA)[(i*2)]? = some (aA y100),0≤(i:Int)∧(i:Int)<(sk.length:Int)∧(i*2)<(sk.flatten.map aA).length,_]) (by kernel_rfl) (gc h4 (gc h3 (gc (fk 1 (bN y101 (-1:Int) (360000:Int)) rfl) (gc h3 (gc (cQ (i:=i) (f:=1) h2 h1 rfl) (gc h3 (gc h3 (gc (bB (k:=2) (i:=(i:Int)) (by decide) h2 (Int.natCast_nonneg _) h1) (gc h3 (gc h3 (gc h3 (gc h3 (gc (fk 1 (bN y100 (1:Int) (999:Int)) rfl) (gc (cQ (i:=i) (f:=0) h2 h1 rfl) (gc (bB (k:=2) (i:=(i:Int)) (by decide) h2 (Int.natCast_nonneg _) h1) (gc (aL h0) gn))))))))))))))))
theorem aSy{dl:Int}{sk dc:List (List Int)}{i:Nat}{y100 y101:Int}{i':Nat}(h0:(i:Int)<(sk.length:Int))(h1:sk[i]? = some [y100,y101])(h2:uni 2 sk)(h3:(bW y100 (1:Int) (999:Int))=false)(h4:(bW y101 (-1:Int) (360000:Int))=false)(h5:inR (((i+1):Nat):Int))(ei':i'=(i+1)):aC Tryz.prog 0 pL (cR dl sk dc i) .normal (cR dl sk dc i'):=by
 subst ei'
 exact aC.fin (g:=⟨(rng [(0,1),(2,1),(14,42)]),[0],[],[]⟩) (o:=[bT,.x (aA y100),.c (.p (blP (bW y100 (1:Int) (999:Int)))) [],bF,bF,bF,bF,bF,bF,.x (aA y101),bF,.c (.p (blP (bW y101 (-1:Int) (360000:Int)))) [],bF,bF]) (l:=[_,_,_,_,_,(sk.flatten.map aA)[((i*2)+1)]? = some (aA y101),_,_,0≤(i:Int)∧(i:Int)<(sk.length:Int)∧(i*2)<(sk.flatten.map aA).length,_,_,_,_,_,(sk.flatten.map aA)[(i*2)]? = some (aA y100),0≤(i:Int)∧(i:Int)<(sk.length:Int)∧(i*2)<(sk.flatten.map aA).length,_]) (by kernel_rfl) (gc h5 (gc h4 (gc h3 (gc (fk 1 (bN y101 (-1:Int) (360000:Int)) rfl) (gc h3 (gc (cQ (i:=i) (f:=1) h2 h1 rfl) (gc h3 (gc h3 (gc (bB (k:=2) (i:=(i:Int)) (by decide) h2 (Int.natCast_nonneg _) h1) (gc h3 (gc h3 (gc h3 (gc h3 (gc (fk 1 (bN y100 (1:Int) (999:Int)) rfl) (gc (cQ (i:=i) (f:=0) h2 h1 rfl) (gc (bB (k:=2) (i:=(i:Int)) (by decide) h2 (Int.natCast_nonneg _) h1) (gc (aL h0) gn)))))))))))))))))
theorem aSz{dl:Int}{sk dc:List (List Int)}{i:Nat}(h0:(sk.length:Int)≤(i:Int)):aC Tryz.prog 0 pL (cR dl sk dc i) (.exit 0) (cR dl sk dc i):=by
 exact aC.fin (g:=⟨(rng [(0,1),(2,1),(14,42)]),[0],[],[]⟩) (o:=[bF]) (l:=[_]) (by kernel_rfl) (gc (aE h0) gn)
theorem aTa{dl:Int}{sk dc:List (List Int)}{j:Nat}{y200 y201 y202 y203 y204 y205:Int}(h0:(j:Int)<(dc.length:Int))(h1:dc[j]? = some [y200,y201,y202,y203,y204,y205])(h2:uni 6 dc)(h3:(bW y200 (1:Int) (9999:Int))=true):aC Tryz.prog 0 kN (cC dl sk dc j) .ret (bG (cC dl sk dc j) [(2,(.p (aA 3)))]):=by
 exact aC.fin (g:=⟨(rng [(0,1),(3,1),(5,1),(14,90)]),[0],[],[]⟩) (o:=[bT,.x (dcE y200 y201 y202 y203 y204 y205),.c (.p (blP (bW y200 (1:Int) (9999:Int)))) [],bT,bT,bT,bT]) (l:=[_,_,_,_,_,_,_,0≤(j:Int)∧(j:Int)<(dc.length:Int)∧(j*6)<(dc.flatten.map aA).length,_]) (by kernel_rfl) (gc h3 (gc h3 (gc h3 (gc h3 (gc (fk 2 (bN y200 (1:Int) (9999:Int)) rfl) (gc (aQ (i:=j) h2 h1) (gc (bD (i:=j) h2 h1) (gc (bB (k:=6) (i:=(j:Int)) (by decide) h2 (Int.natCast_nonneg _) h1) (gc (aL h0) gn)))))))))
theorem aTb{dl:Int}{sk dc:List (List Int)}{j:Nat}{y200 y201 y202 y203 y204 y205:Int}(h0:(j:Int)<(dc.length:Int))(h1:dc[j]? = some [y200,y201,y202,y203,y204,y205])(h2:uni 6 dc)(h3:(bW y200 (1:Int) (9999:Int))=false)(h4:(bW y201 (0:Int) (9:Int))=true):aC Tryz.prog 0 kN (cC dl sk dc j) .ret (bG (cC dl sk dc j) [(2,(.p (aA 3)))]):=by
 exact aC.fin (g:=⟨(rng [(0,1),(3,1),(5,1),(14,90)]),[0],[],[]⟩) (o:=[bT,.x (dcE y200 y201 y202 y203 y204 y205),.c (.p (blP (bW y200 (1:Int) (9999:Int)))) [],bF,bF,bF,.c (.p (blP (bW y201 (0:Int) (9:Int)))) [],bF,bT,bT,bT,bT]) (l:=[_,_,_,_,_,_,_,_,_,_,_,_,0≤(j:Int)∧(j:Int)<(dc.length:Int)∧(j*6)<(dc.flatten.map aA).length,_]) (by kernel_rfl) (gc h4 (gc h4 (gc h4 (gc h4 (gc h3 (gc (fk 2 (bN y201 (0:Int) (9:Int)) rfl) (gc h3 (gc h3 (gc h3 (gc (fk 2 (bN y200 (1:Int) (9999:Int)) rfl) (gc (aQ (i:=j) h2 h1) (gc (bD (i:=j) h2 h1) (gc (bB (k:=6) (i:=(j:Int)) (by decide) h2 (Int.natCast_nonneg _) h1) (gc (aL h0) gn))))))))))))))
theorem aTc{dl:Int}{sk dc:List (List Int)}{j:Nat}{y200 y201 y202 y203 y204 y205:Int}(h0:(j:Int)<(dc.length:Int))(h1:dc[j]? = some [y200,y201,y202,y203,y204,y205])(h2:uni 6 dc)(h3:(bW y200 (1:Int) (9999:Int))=false)(h4:(bW y201 (0:Int) (9:Int))=false)(h5:(bW y202 (0:Int) (10000:Int))=true):aC Tryz.prog 0 kN (cC dl sk dc j) .ret (bG (cC dl sk dc j) [(2,(.p (aA 3)))]):=by
 exact aC.fin (g:=⟨(rng [(0,1),(3,1),(5,1),(14,90)]),[0],[],[]⟩) (o:=[bT,.x (dcE y200 y201 y202 y203 y204 y205),.c (.p (blP (bW y200 (1:Int) (9999:Int)))) [],bF,bF,bF,.c (.p (blP (bW y201 (0:Int) (9:Int)))) [],bF,bF,bF,bF,.c (.p (blP (bW y202 (0:Int) (10000:Int)))) [],bF,bT,bT,bT,bT]) (l:=[_,_,_,_,_,_,_,_,_,_,_,_,_,_,_,_,_,0≤(j:Int)∧(j:Int)<(dc.length:Int)∧(j*6)<(dc.flatten.map aA).length,_]) (by kernel_rfl) (gc h5 (gc h5 (gc h5 (gc h5 (gc h4 (gc (fk 2 (bN y202 (0:Int) (10000:Int)) rfl) (gc h4 (gc h4 (gc h4 (gc h3 (gc (fk 2 (bN y201 (0:Int) (9:Int)) rfl) (gc h3 (gc h3 (gc h3 (gc (fk 2 (bN y200 (1:Int) (9999:Int)) rfl) (gc (aQ (i:=j) h2 h1) (gc (bD (i:=j) h2 h1) (gc (bB (k:=6) (i:=(j:Int)) (by decide) h2 (Int.natCast_nonneg _) h1) (gc (aL h0) gn)))))))))))))))))))
theorem aTd{dl:Int}{sk dc:List (List Int)}{j:Nat}{y200 y201 y202 y203 y204 y205:Int}(h0:(j:Int)<(dc.length:Int))(h1:dc[j]? = some [y200,y201,y202,y203,y204,y205])(h2:uni 6 dc)(h3:(bW y200 (1:Int) (9999:Int))=false)(h4:(bW y201 (0:Int) (9:Int))=false)(h5:(bW y202 (0:Int) (10000:Int))=false)(h6:(bW y204 (0:Int) (36000:Int))=true):aC Tryz.prog 0 kN (cC dl sk dc j) .ret (bG (cC dl sk dc j) [(2,(.p (aA 3)))]):=by
 exact aC.fin (g:=⟨(rng [(0,1),(3,1),(5,1),(14,90)]),[0],[],[]⟩) (o:=[bT,.x (dcE y200 y201 y202 y203 y204 y205),.c (.p (blP (bW y200 (1:Int) (9999:Int)))) [],bF,bF,bF,.c (.p (blP (bW y201 (0:Int) (9:Int)))) [],bF,bF,bF,bF,.c (.p (blP (bW y202 (0:Int) (10000:Int)))) [],bF,bF,bF,bF,.c (.p (blP (bW y204 (0:Int) (36000:Int)))) [],bF,bT]) (l:=[_,_,_,_,_,_,_,_,_,_,_,_,_,_,_,_,_,_,_,0≤(j:Int)∧(j:Int)<(dc.length:Int)∧(j*6)<(dc.flatten.map aA).length,_]) (by kernel_rfl) (gc h6 (gc h5 (gc (fk 2 (bN y204 (0:Int) (36000:Int)) rfl) (gc h5 (gc h5 (gc h5 (gc h4 (gc (fk 2 (bN y202 (0:Int) (10000:Int)) rfl) (gc h4 (gc h4 (gc h4 (gc h3 (gc (fk 2 (bN y201 (0:Int) (9:Int)) rfl) (gc h3 (gc h3 (gc h3 (gc (fk 2 (bN y200 (1:Int) (9999:Int)) rfl) (gc (aQ (i:=j) h2 h1) (gc (bD (i:=j) h2 h1) (gc (bB (k:=6) (i:=(j:Int)) (by decide) h2 (Int.natCast_nonneg _) h1) (gc (aL h0) gn)))))))))))))))))))))
theorem aTe{dl:Int}{sk dc:List (List Int)}{j:Nat}{y200 y201 y202 y203 y204 y205:Int}(h0:(j:Int)<(dc.length:Int))(h1:dc[j]? = some [y200,y201,y202,y203,y204,y205])(h2:uni 6 dc)(h3:(bW y200 (1:Int) (9999:Int))=false)(h4:(bW y201 (0:Int) (9:Int))=false)(h5:(bW y202 (0:Int) (10000:Int))=false)(h6:(bW y204 (0:Int) (36000:Int))=false)(h7:(0:Int)<y204)(h8:y201=(3:Int)):aC Tryz.prog 0 kN (cC dl sk dc j) .ret (bG (cC dl sk dc j) [(2,(.p (aA 3)))]):=by
 exact aC.fin (g:=⟨(rng [(0,1),(3,1),(5,1),(14,90)]),[0],[],[]⟩) (o:=[bT,.x (dcE y200 y201 y202 y203 y204 y205),.c (.p (blP (bW y200 (1:Int) (9999:Int)))) [],bF,bF,bF,.c (.p (blP (bW y201 (0:Int) (9:Int)))) [],bF,bF,bF,bF,.c (.p (blP (bW y202 (0:Int) (10000:Int)))) [],bF,bF,bF,bF,.c (.p (blP (bW y204 (0:Int) (36000:Int)))) [],bF,bF,bT,bT,bT,bT,bT,bT,bT,bT,bT,bT,bT,bT]) (l:=[_,_,_,_,_,_,_,_,_,_,_,_,_,_,_,_,_,_,_,_,_,_,_,_,_,_,_,_,_,_,_,0≤(j:Int)∧(j:Int)<(dc.length:Int)∧(j*6)<(dc.flatten.map aA).length,_]) (by kernel_rfl) (gc (aL h7) (gc (aL h7) (gc (aL h7) (gc (bE h8) (gc (aL h7) (gc (bE h8) (gc (bE h8) (gc (bE h8) (gc (aL h7) (gc (aL h7) (gc (aL h7) (gc (aL h7) (gc h6 (gc h5 (gc (fk 2 (bN y204 (0:Int) (36000:Int)) rfl) (gc h5 (gc h5 (gc h5 (gc h4 (gc (fk 2 (bN y202 (0:Int) (10000:Int)) rfl) (gc h4 (gc h4 (gc h4 (gc h3 (gc (fk 2 (bN y201 (0:Int) (9:Int)) rfl) (gc h3 (gc h3 (gc h3 (gc (fk 2 (bN y200 (1:Int) (9999:Int)) rfl) (gc (aQ (i:=j) h2 h1) (gc (bD (i:=j) h2 h1) (gc (bB (k:=6) (i:=(j:Int)) (by decide) h2 (Int.natCast_nonneg _) h1) (gc (aL h0) gn)))))))))))))))))))))))))))))))))
theorem aTf{dl:Int}{sk dc:List (List Int)}{j:Nat}{y200 y201 y202 y203 y204 y205:Int}(h0:(j:Int)<(dc.length:Int))(h1:dc[j]? = some [y200,y201,y202,y203,y204,y205])(h2:uni 6 dc)(h3:(bW y200 (1:Int) (9999:Int))=false)(h4:(bW y201 (0:Int) (9:Int))=false)(h5:(bW y202 (0:Int) (10000:Int))=false)(h6:(bW y204 (0:Int) (36000:Int))=false)(h7:(0:Int)<y204)(h8:y201≠(3:Int))(h9:y201=(5:Int)):aC Tryz.prog 0 kN (cC dl sk dc j) .ret (bG (cC dl sk dc j) [(2,(.p (aA 3)))]):=by
 exact aC.fin (g:=⟨(rng [(0,1),(3,1),(5,1),(14,90)]),[0],[],[]⟩) (o:=[bT,.x (dcE y200 y201 y202 y203 y204 y205),.c (.p (blP (bW y200 (1:Int) (9999:Int)))) [],bF,bF,bF,.c (.p (blP (bW y201 (0:Int) (9:Int)))) [],bF,bF,bF,bF,.c (.p (blP (bW y202 (0:Int) (10000:Int)))) [],bF,bF,bF,bF,.c (.p (blP (bW y204 (0:Int) (36000:Int)))) [],bF,bF,bT,bT,bT,bT,bF,bF,bF,bT,bF,bT,bT,bT,bT,bT,bT,bT]) (l:=[_,_,_,_,_,_,_,_,_,_,_,_,_,_,_,_,_,_,_,_,_,_,_,_,_,_,_,_,_,_,_,_,_,_,_,0≤(j:Int)∧(j:Int)<(dc.length:Int)∧(j*6)<(dc.flatten.map aA).length,_]) (by kernel_rfl) (gc (aL h7) (gc (bE h9) (gc (aL h7) (gc (bE h9) (gc (bE h9) (gc (bE h9) (gc (aL h7) (gc (aU h8) (gc (aL h7) (gc (aU h8) (gc (aU h8) (gc (aU h8) (gc (aL h7) (gc (aL h7) (gc (aL h7) (gc (aL h7) (gc h6 (gc h5 (gc (fk 2 (bN y204 (0:Int) (36000:Int)) rfl) (gc h5 (gc h5 (gc h5 (gc h4 (gc (fk 2 (bN y202 (0:Int) (10000:Int)) rfl) (gc h4 (gc h4 (gc h4 (gc h3 (gc (fk 2 (bN y201 (0:Int) (9:Int)) rfl) (gc h3 (gc h3 (gc h3 (gc (fk 2 (bN y200 (1:Int) (9999:Int)) rfl) (gc (aQ (i:=j) h2 h1) (gc (bD (i:=j) h2 h1) (gc (bB (k:=6) (i:=(j:Int)) (by decide) h2 (Int.natCast_nonneg _) h1) (gc (aL h0) gn)))))))))))))))))))))))))))))))))))))
theorem aTg{dl:Int}{sk dc:List (List Int)}{j:Nat}{y200 y201 y202 y203 y204 y205:Int}(h0:(j:Int)<(dc.length:Int))(h1:dc[j]? = some [y200,y201,y202,y203,y204,y205])(h2:uni 6 dc)(h3:(bW y200 (1:Int) (9999:Int))=false)(h4:(bW y201 (0:Int) (9:Int))=false)(h5:(bW y202 (0:Int) (10000:Int))=false)(h6:(bW y204 (0:Int) (36000:Int))=false)(h7:(0:Int)<y204)(h8:y201≠(3:Int))(h9:y201≠(5:Int))(h10:(6:Int)<y201):aC Tryz.prog 0 kN (cC dl sk dc j) .ret (bG (cC dl sk dc j) [(2,(.p (aA 3)))]):=by
 exact aC.fin (g:=⟨(rng [(0,1),(3,1),(5,1),(14,90)]),[0],[],[]⟩) (o:=[bT,.x (dcE y200 y201 y202 y203 y204 y205),.c (.p (blP (bW y200 (1:Int) (9999:Int)))) [],bF,bF,bF,.c (.p (blP (bW y201 (0:Int) (9:Int)))) [],bF,bF,bF,bF,.c (.p (blP (bW y202 (0:Int) (10000:Int)))) [],bF,bF,bF,bF,.c (.p (blP (bW y204 (0:Int) (36000:Int)))) [],bF,bF,bT,bT,bT,bT,bF,bF,bF,bT,bF,bT,bF,bF,bF,bT,bF,bT,bT]) (l:=[_,_,_,_,_,_,_,_,_,_,_,_,_,_,_,_,_,_,_,_,_,_,_,_,_,_,_,_,_,_,_,_,_,_,_,_,0≤(j:Int)∧(j:Int)<(dc.length:Int)∧(j*6)<(dc.flatten.map aA).length,_]) (by kernel_rfl) (gc (aL h10) (gc (aL h7) (gc (aU h9) (gc (aL h7) (gc (aU h9) (gc (aU h9) (gc (aU h9) (gc (aL h7) (gc (aU h8) (gc (aL h7) (gc (aU h8) (gc (aU h8) (gc (aU h8) (gc (aL h7) (gc (aL h7) (gc (aL h7) (gc (aL h7) (gc h6 (gc h5 (gc (fk 2 (bN y204 (0:Int) (36000:Int)) rfl) (gc h5 (gc h5 (gc h5 (gc h4 (gc (fk 2 (bN y202 (0:Int) (10000:Int)) rfl) (gc h4 (gc h4 (gc h4 (gc h3 (gc (fk 2 (bN y201 (0:Int) (9:Int)) rfl) (gc h3 (gc h3 (gc h3 (gc (fk 2 (bN y200 (1:Int) (9999:Int)) rfl) (gc (aQ (i:=j) h2 h1) (gc (bD (i:=j) h2 h1) (gc (bB (k:=6) (i:=(j:Int)) (by decide) h2 (Int.natCast_nonneg _) h1) (gc (aL h0) gn))))))))))))))))))))))))))))))))))))))
theorem aTh{dl:Int}{sk dc:List (List Int)}{j:Nat}{y200 y201 y202 y203 y204 y205:Int}{j':Nat}(h0:(j:Int)<(dc.length:Int))(h1:dc[j]? = some [y200,y201,y202,y203,y204,y205])(h2:uni 6 dc)(h3:(bW y200 (1:Int) (9999:Int))=false)(h4:(bW y201 (0:Int) (9:Int))=false)(h5:(bW y202 (0:Int) (10000:Int))=false)(h6:(bW y204 (0:Int) (36000:Int))=false)(h7:(0:Int)<y204)(h8:y201≠(3:Int))(h9:y201≠(5:Int))(h10:y201≤(6:Int))(h11:inR (((j+1):Nat):Int))(ej':j'=(j+1)):aC Tryz.prog 0 kN (cC dl sk dc j) .normal (cC dl sk dc j'):=by
 subst ej'
 exact aC.fin (g:=⟨(rng [(0,1),(2,2),(5,1),(14,90)]),[0],[],[]⟩) (o:=[bT,.x (dcE y200 y201 y202 y203 y204 y205),.c (.p (blP (bW y200 (1:Int) (9999:Int)))) [],bF,bF,bF,.c (.p (blP (bW y201 (0:Int) (9:Int)))) [],bF,bF,bF,bF,.c (.p (blP (bW y202 (0:Int) (10000:Int)))) [],bF,bF,bF,bF,.c (.p (blP (bW y204 (0:Int) (36000:Int)))) [],bF,bF,bT,bT,bT,bT,bF,bF,bF,bT,bF,bT,bF,bF,bF,bT,bF,bT,bF]) (l:=[_,_,_,_,_,_,_,_,_,_,_,_,_,_,_,_,_,_,_,_,_,_,_,_,_,_,_,_,_,_,_,_,_,_,_,_,_,0≤(j:Int)∧(j:Int)<(dc.length:Int)∧(j*6)<(dc.flatten.map aA).length,_]) (by kernel_rfl) (gc h11 (gc (aE h10) (gc (aL h7) (gc (aU h9) (gc (aL h7) (gc (aU h9) (gc (aU h9) (gc (aU h9) (gc (aL h7) (gc (aU h8) (gc (aL h7) (gc (aU h8) (gc (aU h8) (gc (aU h8) (gc (aL h7) (gc (aL h7) (gc (aL h7) (gc (aL h7) (gc h6 (gc h5 (gc (fk 2 (bN y204 (0:Int) (36000:Int)) rfl) (gc h5 (gc h5 (gc h5 (gc h4 (gc (fk 2 (bN y202 (0:Int) (10000:Int)) rfl) (gc h4 (gc h4 (gc h4 (gc h3 (gc (fk 2 (bN y201 (0:Int) (9:Int)) rfl) (gc h3 (gc h3 (gc h3 (gc (fk 2 (bN y200 (1:Int) (9999:Int)) rfl) (gc (aQ (i:=j) h2 h1) (gc (bD (i:=j) h2 h1) (gc (bB (k:=6) (i:=(j:Int)) (by decide) h2 (Int.natCast_nonneg _) h1) (gc (aL h0) gn)))))))))))))))))))))))))))))))))))))))
theorem aTi{dl:Int}{sk dc:List (List Int)}{j:Nat}{y200 y201 y202 y203 y204 y205:Int}{j':Nat}(h0:(j:Int)<(dc.length:Int))(h1:dc[j]? = some [y200,y201,y202,y203,y204,y205])(h2:uni 6 dc)(h3:(bW y200 (1:Int) (9999:Int))=false)(h4:(bW y201 (0:Int) (9:Int))=false)(h5:(bW y202 (0:Int) (10000:Int))=false)(h6:(bW y204 (0:Int) (36000:Int))=false)(h7:y204≤(0:Int))(h8:inR (((j+1):Nat):Int))(ej':j'=(j+1)):aC Tryz.prog 0 kN (cC dl sk dc j) .normal (cC dl sk dc j'):=by
 subst ej'
 exact aC.fin (g:=⟨(rng [(0,1),(2,2),(5,1),(14,90)]),[0],[],[]⟩) (o:=[bT,.x (dcE y200 y201 y202 y203 y204 y205),.c (.p (blP (bW y200 (1:Int) (9999:Int)))) [],bF,bF,bF,.c (.p (blP (bW y201 (0:Int) (9:Int)))) [],bF,bF,bF,bF,.c (.p (blP (bW y202 (0:Int) (10000:Int)))) [],bF,bF,bF,bF,.c (.p (blP (bW y204 (0:Int) (36000:Int)))) [],bF,bF,bF,bF,bF,bF,bF,bF,bF,bF]) (l:=[_,_,_,_,_,_,_,_,_,_,_,_,_,_,_,_,_,_,_,_,_,_,_,_,_,_,_,_,0≤(j:Int)∧(j:Int)<(dc.length:Int)∧(j*6)<(dc.flatten.map aA).length,_]) (by kernel_rfl) (gc h8 (gc (aE h7) (gc (aE h7) (gc (aE h7) (gc (aE h7) (gc (aE h7) (gc (aE h7) (gc (aE h7) (gc (aE h7) (gc h6 (gc h5 (gc (fk 2 (bN y204 (0:Int) (36000:Int)) rfl) (gc h5 (gc h5 (gc h5 (gc h4 (gc (fk 2 (bN y202 (0:Int) (10000:Int)) rfl) (gc h4 (gc h4 (gc h4 (gc h3 (gc (fk 2 (bN y201 (0:Int) (9:Int)) rfl) (gc h3 (gc h3 (gc h3 (gc (fk 2 (bN y200 (1:Int) (9999:Int)) rfl) (gc (aQ (i:=j) h2 h1) (gc (bD (i:=j) h2 h1) (gc (bB (k:=6) (i:=(j:Int)) (by decide) h2 (Int.natCast_nonneg _) h1) (gc (aL h0) gn))))))))))))))))))))))))))))))
theorem aTj{dl:Int}{sk dc:List (List Int)}{j:Nat}(h0:(dc.length:Int)≤(j:Int)):aC Tryz.prog 0 kN (cC dl sk dc j) (.exit 2) (cC dl sk dc j):=by
 exact aC.fin (g:=⟨(rng [(0,1),(2,2),(5,1),(14,90)]),[0],[],[]⟩) (o:=[bF]) (l:=[_]) (by kernel_rfl) (gc (aE h0) gn)
def fG(dl:Int)(sk:List (List Int))(dc:List (List Int))(a:Nat)(b:Nat):St:=⟨fr 219 [(1,(.ptr 0 0)),(6,(.p (aA (a:Int)))),(7,(.p (aA (b:Int)))),(104,(.p (aA (a:Int)))),(105,(.ptr 0 1)),(106,(.p (.sl sk.length (sk.flatten.map aA)))),(107,(.p (aA (sk.length:Int)))),(108,(.p (blP (decide ((a:Int)<(sk.length:Int))))))],[some (.box 61 [(.p (aA dl)),(.p (.sl sk.length (sk.flatten.map aA))),(.p (.sl dc.length (dc.flatten.map aA)))])]⟩
theorem aTk{dl:Int}{sk dc:List (List Int)}{a b'300 a':Nat}(h0:(a:Int)<(sk.length:Int))(hl1:aF Tryz.prog 0 aIb (fG dl sk dc a 0) (.exit 6) (fG dl sk dc a b'300))(h2:inR (((a+1):Nat):Int))(ea':a'=(a+1)):aC Tryz.prog 0 wI (dP dl sk dc a) .normal (dP dl sk dc a'):=by
 subst ea'
 exact aC.fin (g:=⟨(rng [(0,1),(2,4),(7,1),(14,115)]),[0],[],[]⟩) (o:=[bT,.k 5 ⟨(rng [(0,1),(2,4),(14,90),(111,18)]),[0],[],[]⟩ (.exit 6) (fG dl sk dc a b'300)]) (l:=[_,_,_]) (by kernel_rfl) (gc h2 (gc hl1.code (gc (aL h0) gn)))
theorem aTl{dl:Int}{sk dc:List (List Int)}{a b'300:Nat}(h0:(a:Int)<(sk.length:Int))(hl1:aF Tryz.prog 0 aIb (fG dl sk dc a 0) .ret (bG (fG dl sk dc a b'300) [(2,(.p (aA 5)))])):aC Tryz.prog 0 wI (dP dl sk dc a) .ret (bG (dP dl sk dc a) [(2,(.p (aA 5)))]):=by
 exact aC.fin (g:=⟨(rng [(0,1),(3,3),(7,1),(14,115)]),[0],[],[]⟩) (o:=[bT,.k 5 ⟨(rng [(0,1),(2,4),(14,90),(111,18)]),[0],[],[]⟩ .ret (bG (fG dl sk dc a b'300) [(2,(.p (aA 5)))])]) (l:=[_,_]) (by kernel_rfl) (gc hl1.code (gc (aL h0) gn))
theorem aTm{dl:Int}{sk dc:List (List Int)}{a:Nat}(h0:(sk.length:Int)≤(a:Int)):aC Tryz.prog 0 wI (dP dl sk dc a) (.exit 4) (dP dl sk dc a):=by
 exact aC.fin (g:=⟨(rng [(0,1),(2,4),(7,1),(14,115)]),[0],[],[]⟩) (o:=[bF]) (l:=[_]) (by kernel_rfl) (gc (aE h0) gn)
def fH(dl:Int)(sk:List (List Int))(dc:List (List Int))(c:Nat)(d:Nat):St:=⟨fr 219 [(1,(.ptr 0 0)),(8,(.p (aA (c:Int)))),(9,(.p (aA (d:Int)))),(129,(.p (aA (c:Int)))),(130,(.ptr 0 2)),(131,(.p (.sl dc.length (dc.flatten.map aA)))),(132,(.p (aA (dc.length:Int)))),(133,(.p (blP (decide ((c:Int)<(dc.length:Int))))))],[some (.box 61 [(.p (aA dl)),(.p (.sl sk.length (sk.flatten.map aA))),(.p (.sl dc.length (dc.flatten.map aA)))])]⟩
theorem aTn{dl:Int}{sk dc:List (List Int)}{c d'500 c':Nat}(h0:(c:Int)<(dc.length:Int))(hl1:aF Tryz.prog 0 aIc (fH dl sk dc c 0) (.exit 10) (fH dl sk dc c d'500))(h2:inR (((c+1):Nat):Int))(ec':c'=(c+1)):aC Tryz.prog 0 zJ (eC dl sk dc c) .normal (eC dl sk dc c'):=by
 subst ec'
 exact aC.fin (g:=⟨(rng [(0,1),(2,6),(9,1),(14,140)]),[0],[],[]⟩) (o:=[bT,.k 5 ⟨(rng [(0,1),(2,6),(14,115),(136,18)]),[0],[],[]⟩ (.exit 10) (fH dl sk dc c d'500)]) (l:=[_,_,_]) (by kernel_rfl) (gc h2 (gc hl1.code (gc (aL h0) gn)))
theorem aTo{dl:Int}{sk dc:List (List Int)}{c d'500:Nat}(h0:(c:Int)<(dc.length:Int))(hl1:aF Tryz.prog 0 aIc (fH dl sk dc c 0) .ret (bG (fH dl sk dc c d'500) [(2,(.p (aA 5)))])):aC Tryz.prog 0 zJ (eC dl sk dc c) .ret (bG (eC dl sk dc c) [(2,(.p (aA 5)))]):=by
 exact aC.fin (g:=⟨(rng [(0,1),(3,5),(9,1),(14,140)]),[0],[],[]⟩) (o:=[bT,.k 5 ⟨(rng [(0,1),(2,6),(14,115),(136,18)]),[0],[],[]⟩ .ret (bG (fH dl sk dc c d'500) [(2,(.p (aA 5)))])]) (l:=[_,_]) (by kernel_rfl) (gc hl1.code (gc (aL h0) gn))
theorem aTp{dl:Int}{sk dc:List (List Int)}{c:Nat}(h0:(dc.length:Int)≤(c:Int)):aC Tryz.prog 0 zJ (eC dl sk dc c) (.exit 8) (eC dl sk dc c):=by
 exact aC.fin (g:=⟨(rng [(0,1),(2,6),(9,1),(14,140)]),[0],[],[]⟩) (o:=[bF]) (l:=[_]) (by kernel_rfl) (gc (aE h0) gn)
theorem aTq{dl:Int}{sk dc:List (List Int)}{e:Nat}{y700 y701 y702 y703 y704 y705:Int}(h0:(e:Int)<(dc.length:Int))(h1:dc[e]? = some [y700,y701,y702,y703,y704,y705])(h2:uni 6 dc)(h3:(4:Int)<y701)(h4:y703≠(0:Int)):aC Tryz.prog 0 wJ (dX dl sk dc e) .ret (bG (dX dl sk dc e) [(2,(.p (aA 1)))]):=by
 exact aC.fin (g:=⟨(rng [(0,1),(3,7),(11,1),(14,172)]),[0],[],[]⟩) (o:=[bT,.x (dcE y700 y701 y702 y703 y704 y705),bT,bT,bT,bT,bT,bT,bT,bT,bT,bT]) (l:=[_,_,_,_,_,_,_,_,_,_,_,_,0≤(e:Int)∧(e:Int)<(dc.length:Int)∧(e*6)<(dc.flatten.map aA).length,_]) (by kernel_rfl) (gc (cX h4) (gc (cX h4) (gc (cX h4) (gc (cX h4) (gc (cX h4) (gc (cX h4) (gc (aL h3) (gc (aL h3) (gc (aL h3) (gc (aL h3) (gc (aQ (i:=e) h2 h1) (gc (bD (i:=e) h2 h1) (gc (bB (k:=6) (i:=(e:Int)) (by decide) h2 (Int.natCast_nonneg _) h1) (gc (aL h0) gn))))))))))))))
theorem aTr{dl:Int}{sk dc:List (List Int)}{e:Nat}{y700 y701 y702 y703 y704 y705:Int}{e':Nat}(h0:(e:Int)<(dc.length:Int))(h1:dc[e]? = some [y700,y701,y702,y703,y704,y705])(h2:uni 6 dc)(h3:(4:Int)<y701)(h4:y703=(0:Int))(h5:(5:Int)≤y701)(h6:inR (((e+1):Nat):Int))(ee':e'=(e+1)):aC Tryz.prog 0 wJ (dX dl sk dc e) .normal (dX dl sk dc e'):=by
 subst ee'
 exact aC.fin (g:=⟨(rng [(0,1),(2,8),(11,1),(14,172)]),[0],[],[]⟩) (o:=[bT,.x (dcE y700 y701 y702 y703 y704 y705),bT,bT,bT,bT,bF,bF,bF,bF,bF,bF,bF,bF,bF,bF,bF,bF]) (l:=[_,_,_,_,_,_,_,_,_,_,_,_,_,_,_,_,_,_,_,0≤(e:Int)∧(e:Int)<(dc.length:Int)∧(e*6)<(dc.flatten.map aA).length,_]) (by kernel_rfl) (gc h6 (gc (cE h4) (gc (aE h5) (gc (cE h4) (gc (aE h5) (gc (aE h5) (gc (aE h5) (gc (aE h5) (gc (aE h5) (gc (cE h4) (gc (cE h4) (gc (cE h4) (gc (cE h4) (gc (aL h3) (gc (aL h3) (gc (aL h3) (gc (aL h3) (gc (aQ (i:=e) h2 h1) (gc (bD (i:=e) h2 h1) (gc (bB (k:=6) (i:=(e:Int)) (by decide) h2 (Int.natCast_nonneg _) h1) (gc (aL h0) gn)))))))))))))))))))))
theorem aTs{dl:Int}{sk dc:List (List Int)}{e:Nat}{y700 y701 y702 y703 y704 y705:Int}(h0:(e:Int)<(dc.length:Int))(h1:dc[e]? = some [y700,y701,y702,y703,y704,y705])(h2:uni 6 dc)(h3:y701≤(4:Int))(h4:y701<(5:Int))(h5:uni 2 sk)(h6:sk.length≤1000)(h7:(bC (fun x=>decide (x.getD 0 0=y703)) sk)<(0:Int)):aC Tryz.prog 0 wJ (dX dl sk dc e) .ret (bG (dX dl sk dc e) [(2,(.p (aA 1)))]):=by
 exact aC.fin (g:=⟨(rng [(0,1),(3,7),(11,1),(14,172)]),[0],[],[]⟩) (o:=[bT,.x (dcE y700 y701 y702 y703 y704 y705),bF,bF,bF,bF,bT,bT,bT,bT,.c (.p (aA (bC (fun x=>decide (x.getD 0 0=y703)) sk))) [],bT,bT,bT]) (l:=[_,_,_,_,_,_,_,_,_,_,_,_,_,_,0≤(e:Int)∧(e:Int)<(dc.length:Int)∧(e*6)<(dc.flatten.map aA).length,_]) (by kernel_rfl) (gc (aL h7) (gc (aL h4) (gc (aL h4) (gc (fk 2 (aLl dl sk dc y703 h5 h6) rfl) (gc (aL h4) (gc (aL h4) (gc (aL h4) (gc (aL h4) (gc (aE h3) (gc (aE h3) (gc (aE h3) (gc (aE h3) (gc (aQ (i:=e) h2 h1) (gc (bD (i:=e) h2 h1) (gc (bB (k:=6) (i:=(e:Int)) (by decide) h2 (Int.natCast_nonneg _) h1) (gc (aL h0) gn))))))))))))))))
theorem aTt{dl:Int}{sk dc:List (List Int)}{e:Nat}{y700 y701 y702 y703 y704 y705:Int}{e':Nat}(h0:(e:Int)<(dc.length:Int))(h1:dc[e]? = some [y700,y701,y702,y703,y704,y705])(h2:uni 6 dc)(h3:y701≤(4:Int))(h4:y701<(5:Int))(h5:uni 2 sk)(h6:sk.length≤1000)(h7:(0:Int)≤(bC (fun x=>decide (x.getD 0 0=y703)) sk))(h8:inR (((e+1):Nat):Int))(ee':e'=(e+1)):aC Tryz.prog 0 wJ (dX dl sk dc e) .normal (dX dl sk dc e'):=by
 subst ee'
 exact aC.fin (g:=⟨(rng [(0,1),(2,8),(11,1),(14,172)]),[0],[],[]⟩) (o:=[bT,.x (dcE y700 y701 y702 y703 y704 y705),bF,bF,bF,bF,bT,bT,bT,bT,.c (.p (aA (bC (fun x=>decide (x.getD 0 0=y703)) sk))) [],bT,bT,bF]) (l:=[_,_,_,_,_,_,_,_,_,_,_,_,_,_,_,0≤(e:Int)∧(e:Int)<(dc.length:Int)∧(e*6)<(dc.flatten.map aA).length,_]) (by kernel_rfl) (gc h8 (gc (aE h7) (gc (aL h4) (gc (aL h4) (gc (fk 2 (aLl dl sk dc y703 h5 h6) rfl) (gc (aL h4) (gc (aL h4) (gc (aL h4) (gc (aL h4) (gc (aE h3) (gc (aE h3) (gc (aE h3) (gc (aE h3) (gc (aQ (i:=e) h2 h1) (gc (bD (i:=e) h2 h1) (gc (bB (k:=6) (i:=(e:Int)) (by decide) h2 (Int.natCast_nonneg _) h1) (gc (aL h0) gn)))))))))))))))))
theorem aTu{dl:Int}{sk dc:List (List Int)}{e:Nat}(h0:(dc.length:Int)≤(e:Int)):aC Tryz.prog 0 wJ (dX dl sk dc e) (.exit 12) (dX dl sk dc e):=by
 exact aC.fin (g:=⟨(rng [(0,1),(2,8),(11,1),(14,172)]),[0],[],[]⟩) (o:=[bF]) (l:=[_]) (by kernel_rfl) (gc (aE h0) gn)
theorem aTv{dl:Int}{sk dc:List (List Int)}{f:Nat}{y800 y801 y802 y803 y804 y805:Int}(h0:(f:Int)<(dc.length:Int))(h1:dc[f]? = some [y800,y801,y802,y803,y804,y805])(h2:uni 6 dc)(h3:y801<(5:Int))(h4:y805≠(0:Int)):aC Tryz.prog 0 zK (eQ dl sk dc f) .ret (bG (eQ dl sk dc f) [(2,(.p (aA 4)))]):=by
 exact aC.fin (g:=⟨(rng [(0,1),(3,9),(13,206)]),[0],[],[]⟩) (o:=[bT,.x (dcE y800 y801 y802 y803 y804 y805),bT,bT,bT,bT,bT,bT,bT,bT,bT,bT]) (l:=[_,_,_,_,_,_,_,_,_,_,_,_,0≤(f:Int)∧(f:Int)<(dc.length:Int)∧(f*6)<(dc.flatten.map aA).length,_]) (by kernel_rfl) (gc (cX h4) (gc (cX h4) (gc (cX h4) (gc (cX h4) (gc (cX h4) (gc (cX h4) (gc (aL h3) (gc (aL h3) (gc (aL h3) (gc (aL h3) (gc (aQ (i:=f) h2 h1) (gc (bD (i:=f) h2 h1) (gc (bB (k:=6) (i:=(f:Int)) (by decide) h2 (Int.natCast_nonneg _) h1) (gc (aL h0) gn))))))))))))))
theorem aTw{dl:Int}{sk dc:List (List Int)}{f:Nat}{y800 y801 y802 y803 y804 y805:Int}{f':Nat}(h0:(f:Int)<(dc.length:Int))(h1:dc[f]? = some [y800,y801,y802,y803,y804,y805])(h2:uni 6 dc)(h3:y801<(5:Int))(h4:y805=(0:Int))(h5:y801≤(4:Int))(h6:inR (((f+1):Nat):Int))(ef':f'=(f+1)):aC Tryz.prog 0 zK (eQ dl sk dc f) .normal (eQ dl sk dc f'):=by
 subst ef'
 exact aC.fin (g:=⟨(rng [(0,1),(2,10),(13,206)]),[0],[],[]⟩) (o:=[bT,.x (dcE y800 y801 y802 y803 y804 y805),bT,bT,bT,bT,bF,bF,bF,bF,bF,bF,bF,bF,bF,bF,bF,bF,bF]) (l:=[_,_,_,_,_,_,_,_,_,_,_,_,_,_,_,_,_,_,_,_,0≤(f:Int)∧(f:Int)<(dc.length:Int)∧(f*6)<(dc.flatten.map aA).length,_]) (by kernel_rfl) (gc h6 (gc (cE h4) (gc (aE h5) (gc (cE h4) (gc (aE h5) (gc (aE h5) (gc (aE h5) (gc (aE h5) (gc (aE h5) (gc (aE h5) (gc (cE h4) (gc (cE h4) (gc (cE h4) (gc (cE h4) (gc (aL h3) (gc (aL h3) (gc (aL h3) (gc (aL h3) (gc (aQ (i:=f) h2 h1) (gc (bD (i:=f) h2 h1) (gc (bB (k:=6) (i:=(f:Int)) (by decide) h2 (Int.natCast_nonneg _) h1) (gc (aL h0) gn))))))))))))))))))))))
theorem aTx{dl:Int}{sk dc:List (List Int)}{f:Nat}{y800 y801 y802 y803 y804 y805:Int}(h0:(f:Int)<(dc.length:Int))(h1:dc[f]? = some [y800,y801,y802,y803,y804,y805])(h2:uni 6 dc)(h3:(5:Int)≤y801)(h4:(4:Int)<y801)(h5:inR (y800-(1:Int)))(h6:(bW y805 (1:Int) (y800-(1:Int)))=true):aC Tryz.prog 0 zK (eQ dl sk dc f) .ret (bG (eQ dl sk dc f) [(2,(.p (aA 4)))]):=by
 exact aC.fin (g:=⟨(rng [(0,1),(3,9),(13,206)]),[0],[],[]⟩) (o:=[bT,.x (dcE y800 y801 y802 y803 y804 y805),bF,bF,bF,bF,bT,bT,bT,bT,bT,bT,.c (.p (blP (bW y805 (1:Int) (y800-(1:Int))))) [],bT,bT]) (l:=[_,_,_,_,_,_,_,_,_,_,_,_,_,_,_,_,0≤(f:Int)∧(f:Int)<(dc.length:Int)∧(f*6)<(dc.flatten.map aA).length,_]) (by kernel_rfl) (gc h6 (gc (aL h4) (gc (fk 2 (bN y805 (1:Int) (y800-(1:Int))) rfl) (gc (aL h4) (gc h5 (gc (aL h4) (gc (aL h4) (gc (aL h4) (gc (aL h4) (gc (aL h4) (gc (aE h3) (gc (aE h3) (gc (aE h3) (gc (aE h3) (gc (aQ (i:=f) h2 h1) (gc (bD (i:=f) h2 h1) (gc (bB (k:=6) (i:=(f:Int)) (by decide) h2 (Int.natCast_nonneg _) h1) (gc (aL h0) gn))))))))))))))))))
theorem aTy{dl:Int}{sk dc:List (List Int)}{f:Nat}{y800 y801 y802 y803 y804 y805:Int}{f':Nat}(h0:(f:Int)<(dc.length:Int))(h1:dc[f]? = some [y800,y801,y802,y803,y804,y805])(h2:uni 6 dc)(h3:(5:Int)≤y801)(h4:(4:Int)<y801)(h5:inR (y800-(1:Int)))(h6:(bW y805 (1:Int) (y800-(1:Int)))=false)(h7:inR (((f+1):Nat):Int))(ef':f'=(f+1)):aC Tryz.prog 0 zK (eQ dl sk dc f) .normal (eQ dl sk dc f'):=by
 subst ef'
 exact aC.fin (g:=⟨(rng [(0,1),(2,10),(13,206)]),[0],[],[]⟩) (o:=[bT,.x (dcE y800 y801 y802 y803 y804 y805),bF,bF,bF,bF,bT,bT,bT,bT,bT,bT,.c (.p (blP (bW y805 (1:Int) (y800-(1:Int))))) [],bT,bF]) (l:=[_,_,_,_,_,_,_,_,_,_,_,_,_,_,_,_,_,0≤(f:Int)∧(f:Int)<(dc.length:Int)∧(f*6)<(dc.flatten.map aA).length,_]) (by kernel_rfl) (gc h7 (gc h6 (gc (aL h4) (gc (fk 2 (bN y805 (1:Int) (y800-(1:Int))) rfl) (gc (aL h4) (gc h5 (gc (aL h4) (gc (aL h4) (gc (aL h4) (gc (aL h4) (gc (aL h4) (gc (aE h3) (gc (aE h3) (gc (aE h3) (gc (aE h3) (gc (aQ (i:=f) h2 h1) (gc (bD (i:=f) h2 h1) (gc (bB (k:=6) (i:=(f:Int)) (by decide) h2 (Int.natCast_nonneg _) h1) (gc (aL h0) gn)))))))))))))))))))
theorem aTz{dl:Int}{sk dc:List (List Int)}{f:Nat}(h0:(dc.length:Int)≤(f:Int)):aC Tryz.prog 0 zK (eQ dl sk dc f) (.exit 14) (eQ dl sk dc f):=by
 exact aC.fin (g:=⟨(rng [(0,1),(2,10),(13,206)]),[0],[],[]⟩) (o:=[bF]) (l:=[_]) (by kernel_rfl) (gc (aE h0) gn)
theorem aUa{dl:Int}{sk dc:List (List Int)}{a b:Nat}{y400 y401 y402 y403:Int}(h0:(b:Int)<(a:Int))(h1:sk[a]? = some [y400,y401])(h2:uni 2 sk)(h3:sk[b]? = some [y402,y403])(h4:y400=y402):aC Tryz.prog 0 aIb (fG dl sk dc a b) .ret (bG (fG dl sk dc a b) [(2,(.p (aA 5)))]):=by
 exact aC.fin (g:=⟨(rng [(0,1),(3,3),(14,90),(111,18)]),[0],[],[]⟩) (o:=[bT,.x (aA y400),.x (aA y402),bT]) (l:=[_,(sk.flatten.map aA)[(b*2)]? = some (aA y402),0≤(b:Int)∧(b:Int)<(sk.length:Int)∧(b*2)<(sk.flatten.map aA).length,(sk.flatten.map aA)[(a*2)]? = some (aA y400),0≤(a:Int)∧(a:Int)<(sk.length:Int)∧(a*2)<(sk.flatten.map aA).length,_]) (by kernel_rfl) (gc (bE h4) (gc (cQ (i:=b) (f:=0) h2 h3 rfl) (gc (bB (k:=2) (i:=(b:Int)) (by decide) h2 (Int.natCast_nonneg _) h3) (gc (cQ (i:=a) (f:=0) h2 h1 rfl) (gc (bB (k:=2) (i:=(a:Int)) (by decide) h2 (Int.natCast_nonneg _) h1) (gc (aL h0) gn))))))
theorem aUb{dl:Int}{sk dc:List (List Int)}{a b:Nat}{y400 y401 y402 y403:Int}{b':Nat}(h0:(b:Int)<(a:Int))(h1:sk[a]? = some [y400,y401])(h2:uni 2 sk)(h3:sk[b]? = some [y402,y403])(h4:y400≠y402)(h5:inR (((b+1):Nat):Int))(eb':b'=(b+1)):aC Tryz.prog 0 aIb (fG dl sk dc a b) .normal (fG dl sk dc a b'):=by
 subst eb'
 exact aC.fin (g:=⟨(rng [(0,1),(2,4),(14,90),(111,18)]),[0],[],[]⟩) (o:=[bT,.x (aA y400),.x (aA y402),bF]) (l:=[_,_,(sk.flatten.map aA)[(b*2)]? = some (aA y402),0≤(b:Int)∧(b:Int)<(sk.length:Int)∧(b*2)<(sk.flatten.map aA).length,(sk.flatten.map aA)[(a*2)]? = some (aA y400),0≤(a:Int)∧(a:Int)<(sk.length:Int)∧(a*2)<(sk.flatten.map aA).length,_]) (by kernel_rfl) (gc h5 (gc (aU h4) (gc (cQ (i:=b) (f:=0) h2 h3 rfl) (gc (bB (k:=2) (i:=(b:Int)) (by decide) h2 (Int.natCast_nonneg _) h3) (gc (cQ (i:=a) (f:=0) h2 h1 rfl) (gc (bB (k:=2) (i:=(a:Int)) (by decide) h2 (Int.natCast_nonneg _) h1) (gc (aL h0) gn)))))))
theorem aUc{dl:Int}{sk dc:List (List Int)}{a b:Nat}(h0:(a:Int)≤(b:Int)):aC Tryz.prog 0 aIb (fG dl sk dc a b) (.exit 6) (fG dl sk dc a b):=by
 exact aC.fin (g:=⟨(rng [(0,1),(2,4),(14,90),(111,18)]),[0],[],[]⟩) (o:=[bF]) (l:=[_]) (by kernel_rfl) (gc (aE h0) gn)
theorem aUd{dl:Int}{sk dc:List (List Int)}{c d:Nat}{y600 y601 y602 y603 y604 y605 y606 y607 y608 y609 y610 y611:Int}(h0:(d:Int)<(c:Int))(h1:dc[c]? = some [y600,y601,y602,y603,y604,y605])(h2:uni 6 dc)(h3:dc[d]? = some [y606,y607,y608,y609,y610,y611])(h4:y600=y606):aC Tryz.prog 0 aIc (fH dl sk dc c d) .ret (bG (fH dl sk dc c d) [(2,(.p (aA 5)))]):=by
 exact aC.fin (g:=⟨(rng [(0,1),(3,5),(14,115),(136,18)]),[0],[],[]⟩) (o:=[bT,.x (aA y600),.x (aA y606),bT]) (l:=[_,(dc.flatten.map aA)[(d*6)]? = some (aA y606),0≤(d:Int)∧(d:Int)<(dc.length:Int)∧(d*6)<(dc.flatten.map aA).length,(dc.flatten.map aA)[(c*6)]? = some (aA y600),0≤(c:Int)∧(c:Int)<(dc.length:Int)∧(c*6)<(dc.flatten.map aA).length,_]) (by kernel_rfl) (gc (bE h4) (gc (cQ (i:=d) (f:=0) h2 h3 rfl) (gc (bB (k:=6) (i:=(d:Int)) (by decide) h2 (Int.natCast_nonneg _) h3) (gc (cQ (i:=c) (f:=0) h2 h1 rfl) (gc (bB (k:=6) (i:=(c:Int)) (by decide) h2 (Int.natCast_nonneg _) h1) (gc (aL h0) gn))))))
theorem aUe{dl:Int}{sk dc:List (List Int)}{c d:Nat}{y600 y601 y602 y603 y604 y605 y606 y607 y608 y609 y610 y611:Int}{d':Nat}(h0:(d:Int)<(c:Int))(h1:dc[c]? = some [y600,y601,y602,y603,y604,y605])(h2:uni 6 dc)(h3:dc[d]? = some [y606,y607,y608,y609,y610,y611])(h4:y600≠y606)(h5:inR (((d+1):Nat):Int))(ed':d'=(d+1)):aC Tryz.prog 0 aIc (fH dl sk dc c d) .normal (fH dl sk dc c d'):=by
 subst ed'
 exact aC.fin (g:=⟨(rng [(0,1),(2,6),(14,115),(136,18)]),[0],[],[]⟩) (o:=[bT,.x (aA y600),.x (aA y606),bF]) (l:=[_,_,(dc.flatten.map aA)[(d*6)]? = some (aA y606),0≤(d:Int)∧(d:Int)<(dc.length:Int)∧(d*6)<(dc.flatten.map aA).length,(dc.flatten.map aA)[(c*6)]? = some (aA y600),0≤(c:Int)∧(c:Int)<(dc.length:Int)∧(c*6)<(dc.flatten.map aA).length,_]) (by kernel_rfl) (gc h5 (gc (aU h4) (gc (cQ (i:=d) (f:=0) h2 h3 rfl) (gc (bB (k:=6) (i:=(d:Int)) (by decide) h2 (Int.natCast_nonneg _) h3) (gc (cQ (i:=c) (f:=0) h2 h1 rfl) (gc (bB (k:=6) (i:=(c:Int)) (by decide) h2 (Int.natCast_nonneg _) h1) (gc (aL h0) gn)))))))
theorem aUf{dl:Int}{sk dc:List (List Int)}{c d:Nat}(h0:(c:Int)≤(d:Int)):aC Tryz.prog 0 aIc (fH dl sk dc c d) (.exit 10) (fH dl sk dc c d):=by
 exact aC.fin (g:=⟨(rng [(0,1),(2,6),(14,115),(136,18)]),[0],[],[]⟩) (o:=[bF]) (l:=[_]) (by kernel_rfl) (gc (aE h0) gn)
end
section

def kV(f:List (List Int))(i:Nat):Int:=(f.getD i []).getD 0 0
theorem oA(f:List (List Int)):(aN f 0).Nodup↔∀ a,a<f.length→∀ b,b<a→kV f a≠kV f b:=by
 have hk:∀ i (h:i<f.length),kV f i=(aN f 0)[i]'(by rw [kX];exact h):=fun i h=>by simp [kV,aN,List.getD_eq_getElem?_getD,List.getElem?_eq_getElem h]
 constructor
 ·intro h a ha b hb he
  have:=List.pairwise_iff_getElem.1 h b a (by rw [kX];omega) (by rw [kX];omega) hb
  rw [hk a ha,hk b (by omega)] at he
  exact this he.symm
 ·intro h
  refine List.pairwise_iff_getElem.2 fun i j hi hj hij he => ?_
  rw [kX] at hi hj
  exact h j hj i hij (by rw [hk j hj,hk i hi,he])
theorem rsin(dl:Int)(sk dc:List (List Int))(hu:uni 2 sk)(hl:sk.length≤1000)(i:Nat)(hi:i<sk.length) :
  (∃ j,(List.range i).any (fun j=>decide (kV sk i=kV sk j))=true∧aF Tryz.prog 0 (sub (cd Tryz.f31) [1,1,1,1,1,0,1,0,0,1,0,0,1,0,0]) (fG dl sk dc i 0) .ret (bG (fG dl sk dc i j) [(2,.p (aA 5))]))∨((List.range i).any (fun j=>decide (kV sk i=kV sk j))=false∧aF Tryz.prog 0 (sub (cd Tryz.f31) [1,1,1,1,1,0,1,0,0,1,0,0,1,0,0]) (fG dl sk dc i 0) (.exit 6) (fG dl sk dc i i)):=by
 have hx:∀ j,j<sk.length→∃ x,sk[j]? = some x∧x.length=2∧kV sk j=x.getD 0 0:=fun j hj=>⟨sk[j],List.getElem?_eq_getElem hj,hu _ (List.getElem_mem hj),by simp [kV,List.getD_eq_getElem?_getD,List.getElem?_eq_getElem hj]⟩
 rcases aF.find (P:=Tryz.prog) (k:=0) (b:=(sub (cd Tryz.f31) [1,1,1,1,1,0,1,0,0,1,0,0,1,0,0])) (fun j=>fG dl sk dc i j) (fun j _=>bG (fG dl sk dc i j) [(2,.p (aA 5))]) (fG dl sk dc i i) .ret (.exit 6) (by simp) (by simp) (fun j=>decide (kV sk i=kV sk j)) (List.range i)
  (fun j x hj hp=>by
   have hji:j<i:=by have:=aS hj;simpa using this
   have hxj:x=j:=by rw [List.getElem?_range hji] at hj;exact (Option.some.inj hj).symm
   subst hxj
   obtain ⟨y,hy,ly,ky⟩:=hx i hi
   obtain ⟨z,hz,lz,kz⟩:=hx x (by omega)
   obtain ⟨a,b,rfl⟩:=len2 ly
   obtain ⟨c,d,rfl⟩:=len2 lz
   have he:=of_decide_eq_false hp
   rw [ky,kz] at he
   exact aUb (by omega) hy hu hz he (aR (by omega)) rfl)
  (fun j x hj hp=>by
   have hji:j<i:=by have:=aS hj;simpa using this
   have hxj:x=j:=by rw [List.getElem?_range hji] at hj;exact (Option.some.inj hj).symm
   subst hxj
   obtain ⟨y,hy,ly,ky⟩:=hx i hi
   obtain ⟨z,hz,lz,kz⟩:=hx x (by omega)
   obtain ⟨a,b,rfl⟩:=len2 ly
   obtain ⟨c,d,rfl⟩:=len2 lz
   have he:=of_decide_eq_true hp
   rw [ky,kz] at he
   exact aUa (by omega) hy hu hz he)
  (by rw [List.length_range];exact aUc (by omega)) with ⟨j,x,h1,h2,h3,h4⟩ | ⟨h1,h2,h3⟩
 ·exact .inl ⟨j,List.any_eq_true.2 ⟨x,List.mem_of_getElem? h1,h3⟩,h4⟩
 ·exact .inr ⟨h2,h3⟩
theorem rso(dl:Int)(sk dc:List (List Int))(hu:uni 2 sk)(hl:sk.length≤1000) :
  (¬ (aN sk 0).Nodup∧∃ i,aF Tryz.prog 0 (sub (cd Tryz.f31) [1,1,1,1,1,0,1,0,0]) (dP dl sk dc 0) .ret (bG (dP dl sk dc i) [(2,.p (aA 5))]))∨((aN sk 0).Nodup∧aF Tryz.prog 0 (sub (cd Tryz.f31) [1,1,1,1,1,0,1,0,0]) (dP dl sk dc 0) (.exit 4) (dP dl sk dc sk.length)):=by
 rcases aF.find (P:=Tryz.prog) (k:=0) (b:=(sub (cd Tryz.f31) [1,1,1,1,1,0,1,0,0])) (fun i=>dP dl sk dc i) (fun i _=>bG (dP dl sk dc i) [(2,.p (aA 5))]) (dP dl sk dc sk.length) .ret (.exit 4) (by simp) (by simp) (fun i=>(List.range i).any fun j=>decide (kV sk i=kV sk j)) (List.range sk.length)
  (fun i x hj hp=>by
   have hi:i<sk.length:=by have:=aS hj;simpa using this
   have hxj:x=i:=by rw [List.getElem?_range hi] at hj;exact (Option.some.inj hj).symm
   subst hxj
   rcases rsin dl sk dc hu hl x hi with ⟨j,h,_⟩ | ⟨_,h⟩
   ·rw [h] at hp;cases hp
   ·exact aTk (by omega) h (aR (by omega)) rfl)
  (fun i x hj hp=>by
   have hi:i<sk.length:=by have:=aS hj;simpa using this
   have hxj:x=i:=by rw [List.getElem?_range hi] at hj;exact (Option.some.inj hj).symm
   subst hxj
   rcases rsin dl sk dc hu hl x hi with ⟨j,_,h⟩ | ⟨h,_⟩
   ·exact aTl (by omega) h
   ·rw [h] at hp;cases hp)
  (by rw [List.length_range];exact aTm (by omega)) with ⟨i,x,h1,h2,h3,h4⟩ | ⟨h1,h2,h3⟩
 ·refine .inl ⟨fun hn => ?_,i,h4⟩
  have hi:i<sk.length:=by have:=aS h1;simpa using this
  have hxj:x=i:=by rw [List.getElem?_range hi] at h1;exact (Option.some.inj h1).symm
  subst hxj
  obtain ⟨j,hj,he⟩:=List.any_eq_true.1 h3
  exact (oA sk).1 hn x hi j (by simpa using hj) (of_decide_eq_true he)
 ·refine .inr ⟨(oA sk).2 fun i hi j hj he => ?_,h3⟩
  have:=List.any_eq_false.1 h2 i (List.mem_range.2 hi)
  exact this (List.any_eq_true.2 ⟨j,List.mem_range.2 hj,decide_eq_true he⟩)
theorem rdin(dl:Int)(sk dc:List (List Int))(hu:uni 6 dc)(hl:dc.length≤1000)(i:Nat)(hi:i<dc.length) :
  (∃ j,(List.range i).any (fun j=>decide (kV dc i=kV dc j))=true∧aF Tryz.prog 0 (sub (cd Tryz.f31) [1,1,1,1,1,1,0,1,0,0,1,0,0,1,0,0]) (fH dl sk dc i 0) .ret (bG (fH dl sk dc i j) [(2,.p (aA 5))]))∨((List.range i).any (fun j=>decide (kV dc i=kV dc j))=false∧aF Tryz.prog 0 (sub (cd Tryz.f31) [1,1,1,1,1,1,0,1,0,0,1,0,0,1,0,0]) (fH dl sk dc i 0) (.exit 10) (fH dl sk dc i i)):=by
 have hx:∀ j,j<dc.length→∃ x,dc[j]? = some x∧x.length=6∧kV dc j=x.getD 0 0:=fun j hj=>⟨dc[j],List.getElem?_eq_getElem hj,hu _ (List.getElem_mem hj),by simp [kV,List.getD_eq_getElem?_getD,List.getElem?_eq_getElem hj]⟩
 rcases aF.find (P:=Tryz.prog) (k:=0) (b:=(sub (cd Tryz.f31) [1,1,1,1,1,1,0,1,0,0,1,0,0,1,0,0])) (fun j=>fH dl sk dc i j) (fun j _=>bG (fH dl sk dc i j) [(2,.p (aA 5))]) (fH dl sk dc i i) .ret (.exit 10) (by simp) (by simp) (fun j=>decide (kV dc i=kV dc j)) (List.range i)
  (fun j x hj hp=>by
   have hji:j<i:=by have:=aS hj;simpa using this
   have hxj:x=j:=by rw [List.getElem?_range hji] at hj;exact (Option.some.inj hj).symm
   subst hxj
   obtain ⟨y,hy,ly,ky⟩:=hx i hi
   obtain ⟨z,hz,lz,kz⟩:=hx x (by omega)
   obtain ⟨a,b,c,d,e,g,rfl⟩:=len6 ly
   obtain ⟨a',b',c',d',e',g',rfl⟩:=len6 lz
   have he:=of_decide_eq_false hp
   rw [ky,kz] at he
   exact aUe (by omega) hy hu hz he (aR (by omega)) rfl)
  (fun j x hj hp=>by
   have hji:j<i:=by have:=aS hj;simpa using this
   have hxj:x=j:=by rw [List.getElem?_range hji] at hj;exact (Option.some.inj hj).symm
   subst hxj
   obtain ⟨y,hy,ly,ky⟩:=hx i hi
   obtain ⟨z,hz,lz,kz⟩:=hx x (by omega)
   obtain ⟨a,b,c,d,e,g,rfl⟩:=len6 ly
   obtain ⟨a',b',c',d',e',g',rfl⟩:=len6 lz
   have he:=of_decide_eq_true hp
   rw [ky,kz] at he
   exact aUd (by omega) hy hu hz he)
  (by rw [List.length_range];exact aUf (by omega)) with ⟨j,x,h1,h2,h3,h4⟩ | ⟨h1,h2,h3⟩
 ·exact .inl ⟨j,List.any_eq_true.2 ⟨x,List.mem_of_getElem? h1,h3⟩,h4⟩
 ·exact .inr ⟨h2,h3⟩
theorem rdo(dl:Int)(sk dc:List (List Int))(hu:uni 6 dc)(hl:dc.length≤1000) :
  (¬ (aN dc 0).Nodup∧∃ i,aF Tryz.prog 0 (sub (cd Tryz.f31) [1,1,1,1,1,1,0,1,0,0]) (eC dl sk dc 0) .ret (bG (eC dl sk dc i) [(2,.p (aA 5))]))∨((aN dc 0).Nodup∧aF Tryz.prog 0 (sub (cd Tryz.f31) [1,1,1,1,1,1,0,1,0,0]) (eC dl sk dc 0) (.exit 8) (eC dl sk dc dc.length)):=by
 rcases aF.find (P:=Tryz.prog) (k:=0) (b:=(sub (cd Tryz.f31) [1,1,1,1,1,1,0,1,0,0])) (fun i=>eC dl sk dc i) (fun i _=>bG (eC dl sk dc i) [(2,.p (aA 5))]) (eC dl sk dc dc.length) .ret (.exit 8) (by simp) (by simp) (fun i=>(List.range i).any fun j=>decide (kV dc i=kV dc j)) (List.range dc.length)
  (fun i x hj hp=>by
   have hi:i<dc.length:=by have:=aS hj;simpa using this
   have hxj:x=i:=by rw [List.getElem?_range hi] at hj;exact (Option.some.inj hj).symm
   subst hxj
   rcases rdin dl sk dc hu hl x hi with ⟨j,h,_⟩ | ⟨_,h⟩
   ·rw [h] at hp;cases hp
   ·exact aTn (by omega) h (aR (by omega)) rfl)
  (fun i x hj hp=>by
   have hi:i<dc.length:=by have:=aS hj;simpa using this
   have hxj:x=i:=by rw [List.getElem?_range hi] at hj;exact (Option.some.inj hj).symm
   subst hxj
   rcases rdin dl sk dc hu hl x hi with ⟨j,_,h⟩ | ⟨h,_⟩
   ·exact aTo (by omega) h
   ·rw [h] at hp;cases hp)
  (by rw [List.length_range];exact aTp (by omega)) with ⟨i,x,h1,h2,h3,h4⟩ | ⟨h1,h2,h3⟩
 ·refine .inl ⟨fun hn => ?_,i,h4⟩
  have hi:i<dc.length:=by have:=aS h1;simpa using this
  have hxj:x=i:=by rw [List.getElem?_range hi] at h1;exact (Option.some.inj h1).symm
  subst hxj
  obtain ⟨j,hj,he⟩:=List.any_eq_true.1 h3
  exact (oA dc).1 hn x hi j (by simpa using hj) (of_decide_eq_true he)
 ·refine .inr ⟨(oA dc).2 fun i hi j hj he => ?_,h3⟩
  have:=List.any_eq_false.1 h2 i (List.mem_range.2 hi)
  exact this (List.any_eq_true.2 ⟨j,List.mem_range.2 hj,decide_eq_true he⟩)
theorem iI{n a b:Int}(h:within n a b=true):bW n a b=false:=by unfold bW;rw [h];rfl
theorem aIa{n a b:Int}(h:within n a b=false):bW n a b=true:=by unfold bW;rw [h];rfl
theorem aLk(a b:Int):skB [a,b]=(within a 1 999 && within b (-1) 360000):=rfl
theorem r0(dl:Int)(sk dc:List (List Int))(hu:uni 2 sk)(hl:sk.length≤1000):(sk.all skB=false∧∃ i,aF Tryz.prog 0 (sub (cd Tryz.f31) [1,1,1,0,1,0,0]) (cR dl sk dc 0) .ret (bG (cR dl sk dc i) [(2,.p (aA 3))]))∨(sk.all skB=true∧aF Tryz.prog 0 (sub (cd Tryz.f31) [1,1,1,0,1,0,0]) (cR dl sk dc 0) (.exit 0) (cR dl sk dc sk.length)):=by
 rcases aF.find (P:=Tryz.prog) (k:=0) (b:=(sub (cd Tryz.f31) [1,1,1,0,1,0,0])) (fun i=>cR dl sk dc i) (fun i _=>bG (cR dl sk dc i) [(2,.p (aA 3))]) (cR dl sk dc sk.length) .ret (.exit 0) (by simp) (by simp) (fun x => !skB x) sk
  (fun i x hx hp=>by
   obtain ⟨a,b,rfl⟩:=len2 (hu _ (List.mem_of_getElem? hx))
   have hp:skB [a,b]=true:=by simpa using hp
   rw [aLk,Bool.and_eq_true] at hp
   have:=aS hx
   exact aSy (by omega) hx hu (iI hp.1) (iI hp.2) (aR (by omega)) rfl)
  (fun i x hx hp=>by
   obtain ⟨a,b,rfl⟩:=len2 (hu _ (List.mem_of_getElem? hx))
   have hp:skB [a,b]=false:=by simpa using hp
   have:=aS hx
   rw [aLk] at hp
   cases h1:within a 1 999 with
   | false=>exact aSw (by omega) hx hu (aIa h1)
   | true=>rw [h1,Bool.true_and] at hp;exact aSx (by omega) hx hu (iI h1) (aIa hp))
  (aSz (by omega)) with ⟨i,x,h1,h2,h3,h4⟩ | ⟨h1,h2,h3⟩
 ·exact .inl ⟨by rw [← xI,eM h2];simp,i,h4⟩
 ·exact .inr ⟨by rw [List.all_eq_not_any_not,h2];rfl,h3⟩
theorem r1 (dl:Int) (sk dc:List (List Int)) (hu:uni 6 dc) (hl:dc.length≤1000):(dc.all dcB=false∧∃ i,aF Tryz.prog 0 (sub (cd Tryz.f31) [1,1,1,1,0,1,0,0]) (cC dl sk dc 0) .ret (bG (cC dl sk dc i) [(2,.p (aA 3))]))∨(dc.all dcB=true∧aF Tryz.prog 0 (sub (cd Tryz.f31) [1,1,1,1,0,1,0,0]) (cC dl sk dc 0) (.exit 2) (cC dl sk dc dc.length)):=by
 rcases aF.find (P:=Tryz.prog) (k:=0) (b:=(sub (cd Tryz.f31) [1,1,1,1,0,1,0,0])) (fun i=>cC dl sk dc i) (fun i _=>bG (cC dl sk dc i) [(2,.p (aA 3))]) (cC dl sk dc dc.length) .ret (.exit 2) (by simp) (by simp) (fun x => !dcB x) dc
  (fun i x hx hp=>by
   obtain ⟨a,b,c,d,e,f,rfl⟩:=len6 (hu _ (List.mem_of_getElem? hx))
   have hp:dcB [a,b,c,d,e,f]=true:=by simpa using hp
   rw [fZ,Bool.and_eq_true,Bool.and_eq_true,Bool.and_eq_true] at hp
   obtain ⟨p1,p2,p3,p4⟩:=hp
   have:=aS hx
   have q2:=bY.1 p2
   have q4:=bY.1 p4
   have hm:within e 0 36000=true:=bY.2 ⟨q4.1,by have:=q4.2;unfold kO at this;split at this <;> omega⟩
   by_cases he:0<e
   ·have hk:¬ (b=3∨¬ b≤4∧b≠6):=fun h=>by
     have:=q4.2
     unfold kO at this
     rw [if_pos h] at this
     omega
    exact aTh (by omega) hx hu (iI p1) (iI p2) (iI p3) (iI hm) he (by omega) (by omega) (by omega) (aR (by omega)) rfl
   ·exact aTi (by omega) hx hu (iI p1) (iI p2) (iI p3) (iI hm) (by omega) (aR (by omega)) rfl)
  (fun i x hx hp=>by
   obtain ⟨a,b,c,d,e,f,rfl⟩:=len6 (hu _ (List.mem_of_getElem? hx))
   have hp:dcB [a,b,c,d,e,f]=false:=by simpa using hp
   have:=aS hx
   rw [fZ] at hp
   cases p1:within a 1 9999 with
   | false=>exact aTa (by omega) hx hu (aIa p1)
   | true =>
   cases p2:within b 0 9 with
   | false=>exact aTb (by omega) hx hu (iI p1) (aIa p2)
   | true =>
   cases p3:within c 0 10000 with
   | false=>exact aTc (by omega) hx hu (iI p1) (iI p2) (aIa p3)
   | true =>
   cases p4:within e 0 36000 with
   | false=>exact aTd (by omega) hx hu (iI p1) (iI p2) (iI p3) (aIa p4)
   | true =>
    rw [p1,p2,p3,Bool.true_and,Bool.true_and,Bool.true_and] at hp
    have q2:=bY.1 p2
    have q4:=bY.1 p4
    have hk:(b=3∨¬ b≤4∧b≠6)∧0<e:=by
     unfold kO at hp
     split at hp
     ·rename_i hk
      refine ⟨hk,?_⟩
      rcases Int.lt_or_le 0 e with h | h
      ·exact h
      ·rw [bY.2 ⟨q4.1,h⟩] at hp;cases hp
     ·rw [p4] at hp;cases hp
    by_cases h3:b=3
    ·exact aTe (by omega) hx hu (iI p1) (iI p2) (iI p3) (iI p4) hk.2 h3
    ·by_cases h5:b=5
     ·exact aTf (by omega) hx hu (iI p1) (iI p2) (iI p3) (iI p4) hk.2 h3 h5
     ·exact aTg (by omega) hx hu (iI p1) (iI p2) (iI p3) (iI p4) hk.2 h3 h5 (by omega))
  (aTj (by omega)) with ⟨i,x,h1,h2,h3,h4⟩ | ⟨h1,h2,h3⟩
 ·exact .inl ⟨by rw [← xI,eM h2];simp,i,h4⟩
 ·exact .inr ⟨by rw [List.all_eq_not_any_not,h2];rfl,h3⟩
theorem aPf(sk:List (List Int))(v:Int):decide (0≤bC (fun x=>decide (x.getD 0 0=v)) sk)=(aN sk 0).contains v:=by
 have:=kE (fun x:List Int=>decide (x.getD 0 0=v)) sk
 rw [show decide (0≤bC (fun x=>decide (x.getD 0 0=v)) sk)=decide (bC (fun x=>decide (x.getD 0 0=v)) sk ≥ 0) from rfl,this]
 unfold aN
 rw [Bool.eq_iff_iff]
 simp [List.any_eq_true,List.contains_iff_mem,List.mem_map]
theorem bBc(sk:List (List Int))(a b c d e f:Int):inB sk [a,b,c,d,e,f]=if b≤4 then (aN sk 0).contains d else d == 0:=rfl
theorem r6(dl:Int)(sk dc:List (List Int))(us:uni 2 sk)(ls:sk.length≤1000)(hu:uni 6 dc)(hl:dc.length≤1000):(dc.all (inB sk)=false∧∃ i,aF Tryz.prog 0 (sub (cd Tryz.f31) [1,1,1,1,1,1,1,0,1,0,0]) (dX dl sk dc 0) .ret (bG (dX dl sk dc i) [(2,.p (aA 1))]))∨(dc.all (inB sk)=true∧aF Tryz.prog 0 (sub (cd Tryz.f31) [1,1,1,1,1,1,1,0,1,0,0]) (dX dl sk dc 0) (.exit 12) (dX dl sk dc dc.length)):=by
 rcases aF.find (P:=Tryz.prog) (k:=0) (b:=(sub (cd Tryz.f31) [1,1,1,1,1,1,1,0,1,0,0])) (fun i=>dX dl sk dc i) (fun i _=>bG (dX dl sk dc i) [(2,.p (aA 1))]) (dX dl sk dc dc.length) .ret (.exit 12) (by simp) (by simp) (fun x => !inB sk x) dc
  (fun i x hx hp=>by
   obtain ⟨a,b,c,d,e,f,rfl⟩:=len6 (hu _ (List.mem_of_getElem? hx))
   have hp:inB sk [a,b,c,d,e,f]=true:=by simpa using hp
   have:=aS hx
   rw [bBc] at hp
   by_cases hb:b≤4
   ·rw [if_pos hb,← aPf] at hp
    exact aTt (by omega) hx hu hb (by omega) us ls (of_decide_eq_true hp) (aR (by omega)) rfl
   ·rw [if_neg hb] at hp
    exact aTr (by omega) hx hu (by omega) (by simpa using hp) (by omega) (aR (by omega)) rfl)
  (fun i x hx hp=>by
   obtain ⟨a,b,c,d,e,f,rfl⟩:=len6 (hu _ (List.mem_of_getElem? hx))
   have hp:inB sk [a,b,c,d,e,f]=false:=by simpa using hp
   have:=aS hx
   rw [bBc] at hp
   by_cases hb:b≤4
   ·rw [if_pos hb,← aPf] at hp
    have:=of_decide_eq_false hp
    exact aTs (by omega) hx hu hb (by omega) us ls (by omega)
   ·rw [if_neg hb] at hp
    exact aTq (by omega) hx hu (by omega) (by simpa using hp))
  (aTu (by omega)) with ⟨i,x,h1,h2,h3,h4⟩ | ⟨h1,h2,h3⟩
 ·exact .inl ⟨by rw [← xI,eM h2];simp,i,h4⟩
 ·exact .inr ⟨by rw [List.all_eq_not_any_not,h2];rfl,h3⟩
theorem bBd(a b c d e f:Int):orB [a,b,c,d,e,f]=if b≤4 then f == 0 else within f 1 (a-1):=rfl
theorem r7(dl:Int)(sk dc:List (List Int))(hu:uni 6 dc)(hl:dc.length≤1000)(hr:∀ x∈dc,inR (x.getD 0 0-1)):(dc.all orB=false∧∃ i,aF Tryz.prog 0 (sub (cd Tryz.f31) [1,1,1,1,1,1,1,1,0,1,0,0]) (eQ dl sk dc 0) .ret (bG (eQ dl sk dc i) [(2,.p (aA 4))]))∨(dc.all orB=true∧aF Tryz.prog 0 (sub (cd Tryz.f31) [1,1,1,1,1,1,1,1,0,1,0,0]) (eQ dl sk dc 0) (.exit 14) (eQ dl sk dc dc.length)):=by
 rcases aF.find (P:=Tryz.prog) (k:=0) (b:=(sub (cd Tryz.f31) [1,1,1,1,1,1,1,1,0,1,0,0])) (fun i=>eQ dl sk dc i) (fun i _=>bG (eQ dl sk dc i) [(2,.p (aA 4))]) (eQ dl sk dc dc.length) .ret (.exit 14) (by simp) (by simp) (fun x => !orB x) dc
  (fun i x hx hp=>by
   have hin:=hr x (List.mem_of_getElem? hx)
   obtain ⟨a,b,c,d,e,f,rfl⟩:=len6 (hu _ (List.mem_of_getElem? hx))
   have hin:inR (a-1):=hin
   have hp:orB [a,b,c,d,e,f]=true:=by simpa using hp
   have:=aS hx
   rw [bBd] at hp
   by_cases hb:b≤4
   ·rw [if_pos hb] at hp
    exact aTw (by omega) hx hu (by omega) (by simpa using hp) hb (aR (by omega)) rfl
   ·rw [if_neg hb] at hp
    exact aTy (by omega) hx hu (by omega) (by omega) hin (iI hp) (aR (by omega)) rfl)
  (fun i x hx hp=>by
   have hin:=hr x (List.mem_of_getElem? hx)
   obtain ⟨a,b,c,d,e,f,rfl⟩:=len6 (hu _ (List.mem_of_getElem? hx))
   have hin:inR (a-1):=hin
   have hp:orB [a,b,c,d,e,f]=false:=by simpa using hp
   have:=aS hx
   rw [bBd] at hp
   by_cases hb:b≤4
   ·rw [if_pos hb] at hp
    exact aTv (by omega) hx hu (by omega) (by simpa using hp)
   ·rw [if_neg hb] at hp
    exact aTx (by omega) hx hu (by omega) (by omega) hin (aIa hp))
  (aTz (by omega)) with ⟨i,x,h1,h2,h3,h4⟩ | ⟨h1,h2,h3⟩
 ·exact .inl ⟨by rw [← xI,eM h2];simp,i,h4⟩
 ·exact .inr ⟨by rw [List.all_eq_not_any_not,h2];rfl,h3⟩
theorem uT(dl:Int)(sk dc:List (List Int))(us:uni 2 sk)(ud:uni 6 dc){base:Nat}:FV Tryz.prog 31 [.p (.agg (bH dl sk dc))] base (.p (aA (dL dl sk dc))) []:=by
 unfold dL
 by_cases h1:(sk.length:Int)<1
 ·rw [if_pos (.inl (by unfold within;rw [decide_eq_false (by omega)];rfl))];exact bLy h1
 by_cases h2:(30:Int)<(sk.length:Int)
 ·rw [if_pos (.inl (by unfold within;rw [decide_eq_false (p:=(sk.length:Int)≤30) (by omega),Bool.and_false]))];exact bLz (by omega) h2
 by_cases h3:(40:Int)<(dc.length:Int)
 ·rw [if_pos (.inr h3)];exact bMa (by omega) (by omega) h3
 have hw:within (sk.length:Int) 1 30=true:=bY.2 (by omega)
 rw [if_neg (by rw [hw];simp;omega)]
 cases h4:within dl 0 10000 with
 | false=>rw [if_pos (.inl rfl)];exact bMb (by omega) (by omega) (by omega) (aIa h4)
 | true =>
 have o4:=iI h4
 have a1:(1:Int)≤(sk.length:Int):=by omega
 have a2:(sk.length:Int)≤30:=by omega
 have a3:(dc.length:Int)≤40:=by omega
 rcases r0 dl sk dc us (by omega) with ⟨q0,i0,L0⟩ | ⟨q0,L0⟩
 ·rw [if_pos (.inr (.inl q0))];exact bFr a1 a2 a3 o4 L0
 rcases r1 dl sk dc ud (by omega) with ⟨q1,i1,L1⟩ | ⟨q1,L1⟩
 ·rw [if_pos (.inr (.inr q1))];exact bMh a1 a2 a3 o4 L0 L1
 rw [if_neg (by rw [q0,q1];simp)]
 rcases rso dl sk dc us (by omega) with ⟨q2,i2,L2⟩ | ⟨q2,L2⟩
 ·rw [if_pos (.inl q2)];exact bMg a1 a2 a3 o4 L0 L1 L2
 rcases rdo dl sk dc ud (by omega) with ⟨q3,i3,L3⟩ | ⟨q3,L3⟩
 ·rw [if_pos (.inr q3)];exact bMf a1 a2 a3 o4 L0 L1 L2 L3
 rw [if_neg (by simp [q2,q3])]
 rcases r6 dl sk dc us (by omega) ud (by omega) with ⟨q6,i6,L6⟩ | ⟨q6,L6⟩
 ·rw [if_pos q6];exact bMe a1 a2 a3 o4 L0 L1 L2 L3 L6
 rw [if_neg (by rw [q6];simp)]
 have hr:∀ x∈dc,inR (x.getD 0 0-1):=fun x hx=>by
  have:=iE.1 (List.all_eq_true.1 q1 x hx)
  unfold inR;omega
 rcases r7 dl sk dc ud (by omega) hr with ⟨q7,i7,L7⟩ | ⟨q7,L7⟩
 ·rw [if_pos q7];exact bMd a1 a2 a3 o4 L0 L1 L2 L3 L6 L7
 rw [if_neg (by rw [q7];simp)]
 exact bMc a1 a2 a3 o4 L0 L1 L2 L3 L6 L7
end
section

noncomputable abbrev zH:Code:=sub (cd Tryz.f36) [1,1,0,1,0,0]
noncomputable abbrev zI:Code:=sub (cd Tryz.f36) [1,1,1,0,1,0,0]
theorem bAy{r:Int}(dl:Int)(sk dc:List (List Int))(v:Int)(hu:uni 2 sk)(hl:sk.length≤1000)(h:bC (fun x=>decide (x.getD 0 0=v)) sk=r){base:Nat}:FV Tryz.prog 92 [.p (.agg (bH dl sk dc)),.p (aA v)] base (.p (aA r)) []:=by
 have q:=aLl dl sk dc v hu hl (base:=base)
 rw [h] at q
 exact q
theorem bAz{r:Int}(dl:Int)(sk dc:List (List Int))(v:Int)(hu:uni 6 dc)(hl:dc.length≤1000)(h:bC (fun x=>decide (x.getD 0 0=v)) dc=r){base:Nat}:FV Tryz.prog 101 [.p (.agg (bH dl sk dc)),.p (aA v)] base (.p (aA r)) []:=by
 have q:=bLx dl sk dc v hu hl (base:=base)
 rw [h] at q
 exact q
def iG(dl:Int)(sk:List (List Int))(dc:List (List Int))(b:Nat)(on:Nat)(oc:List PV):St:=⟨fr 59 [(1,(.ptr 0 0)),(2,(.ptr 1 0)),(3,(.ptr 2 0)),(4,(.p (aA (b:Int))))],[some (.box 61 [(.p (aA dl)),(.p (.sl sk.length (sk.flatten.map aA))),(.p (.sl dc.length (dc.flatten.map aA)))]),some (.box 61 [(.p (aA 0)),(.p bR),(.p bR)]),some (.box 61 [(.p (aA dl)),(.own 3),(.p bR)]),some (.row 73 on oc)]⟩
def iH(dl:Int)(sk:List (List Int))(dc:List (List Int))(o'1:List (List Int))(n:Nat)(qn:Nat)(qc:List PV):St:=⟨fr 59 [(1,(.ptr 0 0)),(2,(.ptr 1 0)),(3,(.ptr 2 0)),(6,(.p (aA (n:Int))))],[some (.box 61 [(.p (aA dl)),(.p (.sl sk.length (sk.flatten.map aA))),(.p (.sl dc.length (dc.flatten.map aA)))]),some (.box 61 [(.p (aA 0)),(.p bR),(.p bR)]),some (.box 61 [(.p (aA dl)),(.own 3),(.own 4)]),some (.row 73 o'1.length (o'1.flatten.map aA)),some (.row 119 qn qc)]⟩
theorem bLs{dl:Int}{sk dc:List (List Int)}{b'0:Nat}{o'1:List (List Int)}{n'2:Nat}{q'3:List (List Int)}(hl0:aF Tryz.prog 0 zH (iG dl sk dc 1 0 []) (.exit 0) (iG dl sk dc b'0 o'1.length (o'1.flatten.map aA)))(hl1:aF Tryz.prog 0 zI (iH dl sk dc o'1 1 0 []) (.exit 2) (iH dl sk dc o'1 n'2 q'3.length (q'3.flatten.map aA))){base:Nat}:FV Tryz.prog 36 [(.p (.agg (bH dl sk dc)))] base (.p (.agg (bH dl o'1 q'3))) []:=by
 exact FV.frz (FMM.fin (k:=0) (g:=⟨[],[],[3,4],[]⟩) rfl Tryz.func36 rfl (o:=[.k 8 ⟨(rng [(0,1),(5,1),(8,22)]),[0,1,2,3],[],[(102001,73)]⟩ (.exit 0) (iG dl sk dc b'0 o'1.length (o'1.flatten.map aA)),.k 4 ⟨(rng [(0,1),(4,2),(7,51)]),[0,1,2,3,4],[],[(102002,119)]⟩ (.exit 2) (iH dl sk dc o'1 n'2 q'3.length (q'3.flatten.map aA))]) (l:=[_,_]) (by kernel_rfl) (gc hl1.code (gc hl0.code gn))) (by kernel_rfl)
theorem aSj{dl:Int}{sk dc:List (List Int)}{b:Nat}{o:List (List Int)}{z100 y101 y102:Int}{b':Nat}{o':List (List Int)}(h0:(b:Int)≤(999:Int))(h1:uni 2 sk)(h2:sk.length≤1000)(h3:bC (fun x=>decide (x.getD 0 0=(b:Int))) sk=z100)(h4:(0:Int)≤z100)(h5:sk[z100.toNat]? = some [y101,y102])(h6:0≤z100)(h7:[(aA y101),(aA y102)].length=1*2∧o.length+1≤1000000)(h8:inR (((b+1):Nat):Int))(eb':b'=(b+1))(eo'n:o'.length=(o.length+1))(eo'c:o'.flatten.map aA=((o.flatten.map aA)++[(aA y101),(aA y102)])):aC Tryz.prog 0 zH (iG dl sk dc b o.length (o.flatten.map aA)) .normal (iG dl sk dc b' o'.length (o'.flatten.map aA)):=by
 subst eb'
 have raw:aC Tryz.prog 0 zH (iG dl sk dc b o.length (o.flatten.map aA)) .normal (iG dl sk dc (b+1) (o.length+1) ((o.flatten.map aA)++[(aA y101),(aA y102)])):=aC.fin (g:=⟨(rng [(0,1),(5,1),(8,22)]),[0,1,2,5],[],[]⟩) (o:=[bT,.c (.p (aA z100)) [],bT,.x (.agg [(aA y101),(aA y102)])]) (l:=[_,_,[(aA y101),(aA y102)].length=2,_,_,0≤z100∧z100<(sk.length:Int)∧(z100.toNat*2)<(sk.flatten.map aA).length,_,_,_]) (by kernel_rfl) (gc h8 (gc h7 (gc (by first | decide | simp) (gc (aQ (i:=z100.toNat) h1 h5) (gc (bD (i:=z100.toNat) h1 h5) (gc (bB (k:=2) (i:=z100) (by decide) h1 h6 h5) (gc (eJ h4) (gc (fk 4 (bAy dl sk dc (b:Int) h1 h2 h3) rfl) (gc (eJ h0) gn)))))))))
 exact raw.cast (by rw [eo'n,eo'c])
theorem aSk{dl:Int}{sk dc:List (List Int)}{b:Nat}{o:List (List Int)}{z100:Int}{b':Nat}(h0:(b:Int)≤(999:Int))(h1:uni 2 sk)(h2:sk.length≤1000)(h3:bC (fun x=>decide (x.getD 0 0=(b:Int))) sk=z100)(h4:z100<(0:Int))(h5:inR (((b+1):Nat):Int))(eb':b'=(b+1)):aC Tryz.prog 0 zH (iG dl sk dc b o.length (o.flatten.map aA)) .normal (iG dl sk dc b' o.length (o.flatten.map aA)):=by
 subst eb'
 exact aC.fin (g:=⟨(rng [(0,1),(5,1),(8,22)]),[0,1,2,3],[],[]⟩) (o:=[bT,.c (.p (aA z100)) [],bF]) (l:=[_,_,_,_]) (by kernel_rfl) (gc h5 (gc (cT h4) (gc (fk 4 (bAy dl sk dc (b:Int) h1 h2 h3) rfl) (gc (eJ h0) gn))))
theorem aSl{dl:Int}{sk dc:List (List Int)}{b:Nat}{o:List (List Int)}(h0:(999:Int)<(b:Int)):aC Tryz.prog 0 zH (iG dl sk dc b o.length (o.flatten.map aA)) (.exit 0) (iG dl sk dc b o.length (o.flatten.map aA)):=by
 exact aC.fin (g:=⟨(rng [(0,1),(5,1),(8,22)]),[0,1,2,3],[],[]⟩) (o:=[bF]) (l:=[_]) (by kernel_rfl) (gc (cT h0) gn)
theorem aSm{dl:Int}{sk dc o'1:List (List Int)}{n:Nat}{q:List (List Int)}{z200 y201 y202 y203 y204 y205 y206:Int}{n':Nat}{q':List (List Int)}(h0:(n:Int)≤(9999:Int))(h1:(q.length:Int)<(dc.length:Int))(h2:uni 6 dc)(h3:dc.length≤1000)(h4:bC (fun x=>decide (x.getD 0 0=(n:Int))) dc=z200)(h5:(0:Int)≤z200)(h6:dc[z200.toNat]? = some [y201,y202,y203,y204,y205,y206])(h7:0≤z200)(h8:[(aA y201),(aA y202),(aA y203),(aA y204),(aA y205),(aA y206)].length=1*6∧q.length+1≤1000000)(h9:inR (((n+1):Nat):Int))(en':n'=(n+1))(eq'n:q'.length=(q.length+1))(eq'c:q'.flatten.map aA=((q.flatten.map aA)++[(aA y201),(aA y202),(aA y203),(aA y204),(aA y205),(aA y206)])):aC Tryz.prog 0 zI (iH dl sk dc o'1 n q.length (q.flatten.map aA)) .normal (iH dl sk dc o'1 n' q'.length (q'.flatten.map aA)):=by
 subst en'
 have raw:aC Tryz.prog 0 zI (iH dl sk dc o'1 n q.length (q.flatten.map aA)) .normal (iH dl sk dc o'1 (n+1) (q.length+1) ((q.flatten.map aA)++[(aA y201),(aA y202),(aA y203),(aA y204),(aA y205),(aA y206)])):=aC.fin (g:=⟨(rng [(0,1),(4,2),(7,51)]),[0,1,2,3,6],[],[]⟩) (o:=[bT,bT,bT,bT,bT,bT,bT,bT,bT,.c (.p (aA z200)) [],bT,.x (dcE y201 y202 y203 y204 y205 y206)]) (l:=[_,_,[(aA y201),(aA y202),(aA y203),(aA y204),(aA y205),(aA y206)].length=6,_,_,0≤z200∧z200<(dc.length:Int)∧(z200.toNat*6)<(dc.flatten.map aA).length,_,_,_,_,_,_,_,_,_,_,_]) (by kernel_rfl) (gc h9 (gc h8 (gc (by first | decide | simp) (gc (aQ (i:=z200.toNat) h2 h6) (gc (bD (i:=z200.toNat) h2 h6) (gc (bB (k:=6) (i:=z200) (by decide) h2 h7 h6) (gc (eJ h5) (gc (fk 5 (bAz dl sk dc (n:Int) h2 h3 h4) rfl) (gc (aL h1) (gc (eJ h0) (gc (eJ h0) (gc (eJ h0) (gc (eJ h0) (gc (eJ h0) (gc (eJ h0) (gc (eJ h0) (gc (eJ h0) gn)))))))))))))))))
 exact raw.cast (by rw [eq'n,eq'c])
theorem aSn{dl:Int}{sk dc o'1:List (List Int)}{n:Nat}{q:List (List Int)}{z200:Int}{n':Nat}(h0:(n:Int)≤(9999:Int))(h1:(q.length:Int)<(dc.length:Int))(h2:uni 6 dc)(h3:dc.length≤1000)(h4:bC (fun x=>decide (x.getD 0 0=(n:Int))) dc=z200)(h5:z200<(0:Int))(h6:inR (((n+1):Nat):Int))(en':n'=(n+1)):aC Tryz.prog 0 zI (iH dl sk dc o'1 n q.length (q.flatten.map aA)) .normal (iH dl sk dc o'1 n' q.length (q.flatten.map aA)):=by
 subst en'
 exact aC.fin (g:=⟨(rng [(0,1),(4,2),(7,51)]),[0,1,2,3,4],[],[]⟩) (o:=[bT,bT,bT,bT,bT,bT,bT,bT,bT,.c (.p (aA z200)) [],bF]) (l:=[_,_,_,_,_,_,_,_,_,_,_,_]) (by kernel_rfl) (gc h6 (gc (cT h5) (gc (fk 5 (bAz dl sk dc (n:Int) h2 h3 h4) rfl) (gc (aL h1) (gc (eJ h0) (gc (eJ h0) (gc (eJ h0) (gc (eJ h0) (gc (eJ h0) (gc (eJ h0) (gc (eJ h0) (gc (eJ h0) gn))))))))))))
theorem aSo{dl:Int}{sk dc o'1:List (List Int)}{n:Nat}{q:List (List Int)}(h0:(n:Int)≤(9999:Int))(h1:(dc.length:Int)≤(q.length:Int)):aC Tryz.prog 0 zI (iH dl sk dc o'1 n q.length (q.flatten.map aA)) (.exit 2) (iH dl sk dc o'1 n q.length (q.flatten.map aA)):=by
 exact aC.fin (g:=⟨(rng [(0,1),(4,2),(7,51)]),[0,1,2,3,4],[],[]⟩) (o:=[bT,bT,bT,bT,bT,bT,bT,bT,bF]) (l:=[_,_,_,_,_,_,_,_,_]) (by kernel_rfl) (gc (aE h1) (gc (eJ h0) (gc (eJ h0) (gc (eJ h0) (gc (eJ h0) (gc (eJ h0) (gc (eJ h0) (gc (eJ h0) (gc (eJ h0) gn)))))))))
theorem aSp{dl:Int}{sk dc o'1:List (List Int)}{n:Nat}{q:List (List Int)}(h0:(9999:Int)<(n:Int)):aC Tryz.prog 0 zI (iH dl sk dc o'1 n q.length (q.flatten.map aA)) (.exit 2) (iH dl sk dc o'1 n q.length (q.flatten.map aA)):=by
 exact aC.fin (g:=⟨(rng [(0,1),(4,2),(7,51)]),[0,1,2,3,4],[],[]⟩) (o:=[bF,bF,bF,bF,bF,bF,bF,bF]) (l:=[_,_,_,_,_,_,_,_]) (by kernel_rfl) (gc (cT h0) (gc (cT h0) (gc (cT h0) (gc (cT h0) (gc (cT h0) (gc (cT h0) (gc (cT h0) (gc (cT h0) gn))))))))
theorem qM{l:List (List Int)}{p:List Int→Bool}(h:∀ x∈l,p x=false):l.filter p=[]:=List.filter_eq_nil_iff.2 fun x hx=>by rw [h x hx];simp
theorem rW(n:Int):∀ {l:List (List Int)},l.Pairwise (fun a b=>a.getD 0 0≤b.getD 0 0)→l.filter (fun x=>decide (x.getD 0 0<n+1))=l.filter (fun x=>decide (x.getD 0 0<n))++l.filter (fun x=>decide (x.getD 0 0=n))
 | [],_=>rfl
 | x::l,h=>by
  rw [List.pairwise_cons] at h
  have ih:=rW n h.2
  rcases Int.lt_trichotomy (x.getD 0 0) n with hx | hx | hx
  ·rw [List.filter_cons_of_pos (by rw [decide_eq_true_iff];omega),List.filter_cons_of_pos (by rw [decide_eq_true_iff];omega),List.filter_cons_of_neg (by rw [decide_eq_true_iff];omega),ih]
   rfl
  ·rw [List.filter_cons_of_pos (by rw [decide_eq_true_iff];omega),List.filter_cons_of_neg (by rw [decide_eq_true_iff];omega),List.filter_cons_of_pos (by rw [decide_eq_true_iff];omega),ih,
    qM (l:=l) (p:=fun x=>decide (x.getD 0 0<n)) (fun y hy=>decide_eq_false (by have:=h.1 y hy;omega))]
   rfl
  ·rw [List.filter_cons_of_neg (by rw [decide_eq_true_iff];omega),List.filter_cons_of_neg (by rw [decide_eq_true_iff];omega),List.filter_cons_of_neg (by rw [decide_eq_true_iff];omega),ih]
theorem aHv:∀ {l:List (List Int)} {x:List Int},(aN l 0).Nodup→x∈l→l.filter (fun y=>decide (y.getD 0 0=x.getD 0 0))=[x]
 | [],x,_,h=>by cases h
 | y::l,x,hn,h=>by
  have hn':=hn
  unfold aN at hn
  rw [List.map_cons,List.nodup_cons] at hn
  rcases List.mem_cons.1 h with rfl | h
  ·rw [List.filter_cons_of_pos (by simp),qM (fun z hz=>decide_eq_false fun e=>hn.1 (List.mem_map.2 ⟨z,hz,e⟩))]
  ·rw [List.filter_cons_of_neg (by rw [decide_eq_true_iff];exact fun e=>hn.1 (List.mem_map.2 ⟨x,h,e.symm⟩))]
   exact aHv hn.2 h
def upto(f:List (List Int))(n:Nat):List (List Int):=(aB f).filter fun x=>decide (x.getD 0 0<(n:Int))
theorem aHw{f:List (List Int)}(h:(aN f 0).Nodup):(aN (aB f) 0).Nodup:=((dU f).map _).nodup_iff.2 h
theorem aHx{f:List (List Int)}(hn:(aN f 0).Nodup){n:Nat}{x:List Int}(hx:x∈f)(hk:x.getD 0 0=(n:Int)):upto f (n+1)=upto f n++[x]:=by
 unfold upto
 have e:((n+1:Nat):Int)=(n:Int)+1:=by omega
 rw [e,rW (n:Int) (kW f)]
 have:=aHv (aHw hn) ((dU f).mem_iff.2 hx)
 rw [hk] at this
 rw [this]
theorem aCj{f:List (List Int)}{n:Nat}(h:∀ x∈f,x.getD 0 0≠(n:Int)):upto f (n+1)=upto f n:=by
 unfold upto
 have e:((n+1:Nat):Int)=(n:Int)+1:=by omega
 rw [e,rW (n:Int) (kW f),qM (l:=aB f) (p:=fun x=>decide (x.getD 0 0=(n:Int))) (fun x hx=>decide_eq_false (h x ((dU f).mem_iff.1 hx))),List.append_nil]
theorem aHy{f:List (List Int)}{n:Nat}(h:∀ x∈f,x.getD 0 0<(n:Int)):upto f n=aB f:=List.filter_eq_self.2 fun x hx=>decide_eq_true (h x ((dU f).mem_iff.1 hx))
theorem bBa{f:List (List Int)}{n:Nat}(h:f.length≤(upto f n).length):upto f n=aB f:=by
 have h1:(upto f n).length≤(aB f).length:=List.length_filter_le _ _
 have h2:=dV f
 exact (List.filter_sublist).eq_of_length (by unfold upto at h h1;omega)
theorem aCk{f:List (List Int)}(h:∀ x∈f,1≤x.getD 0 0):upto f 1=[]:=qM fun x hx=>decide_eq_false (by have:=h x ((dU f).mem_iff.1 hx);omega)
theorem aPd(f:List (List Int))(n:Nat):(upto f n).length≤f.length:=by
 have h1:(upto f n).length≤(aB f).length:=List.length_filter_le _ _
 rw [dV] at h1;exact h1
theorem aPe{f:List (List Int)}{v:Int}(h:0≤bC (fun x=>decide (x.getD 0 0=v)) f):∃ x,f[(bC (fun x=>decide (x.getD 0 0=v)) f).toNat]? = some x∧x.getD 0 0=v:=by
 unfold bC at h ⊢
 cases hq:f.findIdx? fun x=>decide (x.getD 0 0=v) with
 | none=>rw [hq] at h;simp at h
 | some i =>
  obtain ⟨hi,hp,_⟩:=List.findIdx?_eq_some_iff_getElem.1 hq
  exact ⟨f[i],by simp [List.getElem?_eq_getElem hi],of_decide_eq_true hp⟩
theorem aHz{f:List (List Int)}{v:Int}(h:bC (fun x=>decide (x.getD 0 0=v)) f<0):∀ x∈f,x.getD 0 0≠v:=by
 unfold bC at h
 cases hq:f.findIdx? fun x=>decide (x.getD 0 0=v) with
 | none=>intro x hx e;have:=List.findIdx?_eq_none_iff.1 hq x hx;rw [decide_eq_true e] at this;cases this
 | some i=>rw [hq] at h;simp at h;omega
theorem bBb(dl:Int)(sk dc:List (List Int))(h:dG dl sk dc){base:Nat}:FV Tryz.prog 36 [.p (.agg (bH dl sk dc))] base (.p (.agg (bH dl (aB sk) (aB dc)))) []:=by
 have l1:=h.len
 have l2:=h.len2
 have k1:∀ x∈sk,1≤x.getD 0 0∧x.getD 0 0≤999:=fun x hx=>(aEr.1 (h.hsk x hx)).1
 have k2:∀ x∈dc,1≤x.getD 0 0∧x.getD 0 0≤9999:=fun x hx=>(iE.1 (h.hdc x hx)).1
 have L0:aF Tryz.prog 0 zH (iG dl sk dc 1 0 []) (.exit 0) (iG dl sk dc 1000 (aB sk).length ((aB sk).flatten.map aA)):=by
  have L:=aF.count (P:=Tryz.prog) (k:=0) (b:=zH) (e := .exit 0) (R:=iG dl sk dc 1000 (aB sk).length ((aB sk).flatten.map aA)) 999 (fun i=>iG dl sk dc (i+1) (upto sk (i+1)).length ((upto sk (i+1)).flatten.map aA))
   (fun i hi=>by
    by_cases hx:0≤bC (fun x=>decide (x.getD 0 0=(((i+1:Nat)):Int))) sk
    ·obtain ⟨x,h1,h2⟩:=aPe hx
     obtain ⟨a,b,rfl⟩:=len2 (h.us _ (List.mem_of_getElem? h1))
     have e:=aHx h.ns (List.mem_of_getElem? h1) h2
     have:=aPd sk (i+1)
     exact aSj (b:=i+1) (o:=upto sk (i+1)) (o':=upto sk (i+1+1)) (by omega) h.us (by omega) rfl hx h1 hx ⟨rfl,by omega⟩ (aR (by omega)) rfl (by rw [e];simp) (by rw [e];exact (iX (l:=upto sk (i+1)) (x:=[a,b])).symm)
    ·rw [aCj (n:=i+1) (aHz (by omega))]
     exact aSk (b:=i+1) (by omega) h.us (by omega) rfl (by omega) (aR (by omega)) rfl)
   (by rw [show upto sk (999+1)=aB sk from aHy fun x hx=>by have:=k1 x hx;omega];exact aSl (by omega)) (by simp)
  have e:=aCk (f:=sk) fun x hx=>(k1 x hx).1
  simp only [Nat.zero_add,e] at L
  exact L
 have L1:∀ d i,i+d=10000→1≤i→∃ i',aF Tryz.prog 0 zI (iH dl sk dc (aB sk) i (upto dc i).length ((upto dc i).flatten.map aA)) (.exit 2) (iH dl sk dc (aB sk) i' (aB dc).length ((aB dc).flatten.map aA)):=by
  intro d
  induction d with
  | zero =>
   intro i hi h1
   rw [show upto dc i=aB dc from aHy fun x hx=>by have:=k2 x hx;omega]
   exact ⟨i,.exit (aSp (by omega)) (by simp)⟩
  | succ d ih =>
   intro i hi h1
   by_cases hl:dc.length≤(upto dc i).length
   ·rw [bBa hl]
    have:=dV dc
    exact ⟨i,.exit (aSo (by omega) (by omega)) (by simp)⟩
   ·obtain ⟨i',ih⟩:=ih (i+1) (by omega) (by omega)
    refine ⟨i',.step ?_ ih⟩
    by_cases hx:0≤bC (fun x=>decide (x.getD 0 0=((i:Nat):Int))) dc
    ·obtain ⟨x,h1,h2⟩:=aPe hx
     obtain ⟨a,b,c,d,e,f,rfl⟩:=len6 (h.ud _ (List.mem_of_getElem? h1))
     have e:=aHx h.nd (List.mem_of_getElem? h1) h2
     have:=aPd dc i
     exact aSm (q:=upto dc i) (q':=upto dc (i+1)) (by omega) (by omega) h.ud (by omega) rfl hx h1 hx ⟨rfl,by omega⟩ (aR (by omega)) rfl (by rw [e];simp) (by rw [e];exact (iX (l:=upto dc i)).symm)
    ·rw [aCj (n:=i) (aHz (by omega))]
     exact aSn (by omega) (by omega) h.ud (by omega) rfl (by omega) (aR (by omega)) rfl
 obtain ⟨i',L1⟩:=L1 9999 1 (by omega) (by omega)
 rw [aCk (f:=dc) fun x hx=>(k2 x hx).1] at L1
 exact bLs L0 L1
end
section
mutual
def wkP:PV→PV
 | .v (.slice none 0 0) => .sl 0 []
 | .agg cs => .agg (bBv cs)
 | x=>x
def bBv:List PV→List PV
 | []=>[]
 | x::r=>wkP x::bBv r
end
theorem aIi:∀ l:List PV,bBv l=l.map wkP
 | []=>by simp [bBv]
 | x::r=>by rw [bBv,aIi r];rfl
def wk1:AV→AV
 | .p x => .p (wkP x)
 | x=>x
theorem bGz{F:Nat→Prop}{w:World}{x:PV}{u:Value}(h:cN F w x u):cN F w (wkP x) u:=by
 induction h with
 | v x =>
  unfold wkP
  split
  ·rename_i e
   cases e
   exact .sl 0 [] none 0 (fun _=>undef) (Nat.le_refl _) (Nat.zero_le _) (fun i h=>by simp at h) (fun i h=>by simp at h) (fun i h=>by simp at h)
  ·rename_i e;cases e
  ·exact .v x
 | sl n cs p cap us h1 h2 h3 h4 h5 _=>unfold wkP;exact .sl n cs p cap us h1 h2 h3 h4 h5
 | agg cs vs h0 h1 _ ih =>
  unfold wkP
  rw [aIi]
  exact .agg _ vs (fun i hi=>h0 i (by simpa using hi)) (by simpa using h1) (fun i hi=>by
   have:=ih i (by simpa using hi)
   simpa using this)
 | mp es b cl arr us hb h0 h1 h2 h3 _=>unfold wkP;exact .mp es b cl arr us hb h0 h1 h2 h3
 | rp cs off b o us h1 h2 h3 _=>unfold wkP;exact .rp cs off b o us h1 h2 h3
theorem bHa{C:Cx}{M:Mem}{w:World}{x:AV}{u:Value}(h:Rep C M w x u):Rep C M w (wk1 x) u:=by
 cases h with
 | p x u h=>exact .p _ _ (bGz h)
 | _=>unfold wk1;constructor <;> assumption
theorem dC.wk{C:Cx}{M:Mem}{w:World}:∀ {args:List AV} {us:List Value},dC C M w args us→dC C M w (args.map wk1) us
 | [],_,h=>by cases h;exact .nil
 | x::l,_,h=>by
  cases h with
  | cons _ _ u us h1 h2=>exact .cons _ _ _ _ (bHa h1) h2.wk
theorem FMM.argwk{P:Program}{f:Nat}{args args':List AV}{r:AV}{M M':Mem}(h:FMM P f args' M r M')(e:args.map wk1=args'):FMM P f args M r M':=fun C w us hus hM n=>by
 subst e
 exact h C w us hus.wk hM n
theorem FV.argwk{P:Program}{f base:Nat}{args args':List AV}{y:AV}{L:Upd}(h:FV P f args' base y L)(e:args.map wk1=args'):FV P f args base y L:=by
 obtain ⟨r,M1,h1,h2⟩:=h
 exact ⟨r,M1,h1.argwk e,h2⟩
end
section

theorem bLd{dl:Int}{sk dc:List (List Int)}{el:Int}{tk ec:List (List Int)}{r0:Bool}(h0:dl=el)(h1:uni 2 sk)(h2:uni 2 tk)(h3:sk.length≤1000)(h4:(decide (sk=tk))=true)(h5:uni 6 dc)(h6:uni 6 ec)(h7:dc.length≤1000)(er0:r0=(decide (dc=ec))){base:Nat}:FV Tryz.prog 35 [(.p (.agg (bH dl sk dc))),(.p (.agg (bH el tk ec)))] base (.p (blP r0)) []:=by
 subst er0
 exact FV.fin Tryz.func35 rfl (o:=[bT,bT,bT,bT,bT,.c (.p (blP (decide (sk=tk)))) [],bT,bT,bT,bT,bT,bT,.c (.p (blP (decide (dc=ec)))) [],bT]) (l:=[_,_,_,_,_,_,_,_,_,_,_,_,_,_]) (by kernel_rfl) (gc h4 (gc (fk 2 (bNd dc ec h5 h6 h7) rfl) (gc h4 (gc h4 (gc h4 (gc h4 (gc h4 (gc (bE h0) (gc (fk 2 (bBh sk tk h1 h2 h3) rfl) (gc (bE h0) (gc (bE h0) (gc (bE h0) (gc (bE h0) (gc (bE h0) gn))))))))))))))
theorem bLe{dl:Int}{sk dc:List (List Int)}{el:Int}{tk ec:List (List Int)}(h0:dl=el)(h1:uni 2 sk)(h2:uni 2 tk)(h3:sk.length≤1000)(h4:(decide (sk=tk))=false){base:Nat}:FV Tryz.prog 35 [(.p (.agg (bH dl sk dc))),(.p (.agg (bH el tk ec)))] base (.p (blP false)) []:=by
 exact FV.fin Tryz.func35 rfl (o:=[bT,bT,bT,bT,bT,.c (.p (blP (decide (sk=tk)))) [],bT,bF,bF,bF,bF,bF,bF]) (l:=[_,_,_,_,_,_,_,_,_,_,_,_,_]) (by kernel_rfl) (gc h4 (gc h4 (gc h4 (gc h4 (gc h4 (gc h4 (gc (bE h0) (gc (fk 2 (bBh sk tk h1 h2 h3) rfl) (gc (bE h0) (gc (bE h0) (gc (bE h0) (gc (bE h0) (gc (bE h0) gn)))))))))))))
theorem bLf{dl:Int}{sk dc:List (List Int)}{el:Int}{tk ec:List (List Int)}(h0:dl≠el){base:Nat}:FV Tryz.prog 35 [(.p (.agg (bH dl sk dc))),(.p (.agg (bH el tk ec)))] base (.p (blP false)) []:=by
 exact FV.fin Tryz.func35 rfl (o:=[bF,bF,bF,bF,bF,bF]) (l:=[_,_,_,_,_,_]) (by kernel_rfl) (gc (aU h0) (gc (aU h0) (gc (aU h0) (gc (aU h0) (gc (aU h0) (gc (aU h0) gn))))))
theorem rV(dl:Int)(sk dc:List (List Int))(el:Int)(tk ec:List (List Int))(u1:uni 2 sk∧sk.length≤1000)(u2:uni 6 dc∧dc.length≤1000)(v1:uni 2 tk)(v2:uni 6 ec){base:Nat}:FV Tryz.prog 35 [.p (.agg (bH dl sk dc)),.p (.agg (bH el tk ec))] base (.p (blP (decide (dl=el∧sk=tk∧dc=ec)))) []:=by
 by_cases h1:dl=el
 ·by_cases h2:sk=tk
  ·exact bLd h1 u1.1 v1 u1.2 (decide_eq_true h2) u2.1 v2 u2.2 (by simp [h1,h2])
  ·rw [decide_eq_false (fun h=>h2 h.2.1)];exact bLe h1 u1.1 v1 u1.2 (decide_eq_false h2)
 ·rw [decide_eq_false (fun h=>h1 h.1)];exact bLf h1
theorem bLg{dl:Int}{sk dc:List (List Int)}{el:Int}{tk ec:List (List Int)}{r0:Bool}(h0:uni 2 sk)(h1:uni 6 dc)(h2:sk.length≤1000)(h3:dc.length≤1000)(h4:dl=el)(h5:uni 2 tk)(h6:(decide (sk=tk))=true)(h7:uni 6 ec)(er0:r0=(decide (dc=ec))){base:Nat}:FV Tryz.prog 46 [(.p (.agg (bH dl sk dc))),(.p (.agg (bH el tk ec)))] base (.p (blP r0)) []:=by
 subst er0
 exact FV.fin Tryz.func46 rfl (o:=[.c (.p (.agg (bH dl sk dc))) [],bT,bT,bT,bT,bT,.c (.p (blP (decide (sk=tk)))) [],bT,bT,bT,bT,bT,bT,.c (.p (blP (decide (dc=ec)))) [],bT]) (l:=[_,_,_,_,_,_,_,_,_,_,_,_,_,_,_]) (by kernel_rfl) (gc h6 (gc (fk 3 (bNk dc ec h1 h7 h3) rfl) (gc h6 (gc h6 (gc h6 (gc h6 (gc h6 (gc (bE h4) (gc (fk 3 (bBi sk tk h0 h5 h2) rfl) (gc (bE h4) (gc (bE h4) (gc (bE h4) (gc (bE h4) (gc (bE h4) (gc (fk 2 (oB dl sk dc h0 h1 h2 h3) rfl) gn)))))))))))))))
theorem bLh{dl:Int}{sk dc:List (List Int)}{el:Int}{tk ec:List (List Int)}(h0:uni 2 sk)(h1:uni 6 dc)(h2:sk.length≤1000)(h3:dc.length≤1000)(h4:dl=el)(h5:uni 2 tk)(h6:(decide (sk=tk))=false){base:Nat}:FV Tryz.prog 46 [(.p (.agg (bH dl sk dc))),(.p (.agg (bH el tk ec)))] base (.p (blP false)) []:=by
 exact FV.fin Tryz.func46 rfl (o:=[.c (.p (.agg (bH dl sk dc))) [],bT,bT,bT,bT,bT,.c (.p (blP (decide (sk=tk)))) [],bT,bF,bF,bF,bF,bF,bF]) (l:=[_,_,_,_,_,_,_,_,_,_,_,_,_,_]) (by kernel_rfl) (gc h6 (gc h6 (gc h6 (gc h6 (gc h6 (gc h6 (gc (bE h4) (gc (fk 3 (bBi sk tk h0 h5 h2) rfl) (gc (bE h4) (gc (bE h4) (gc (bE h4) (gc (bE h4) (gc (bE h4) (gc (fk 2 (oB dl sk dc h0 h1 h2 h3) rfl) gn))))))))))))))
theorem bLi{dl:Int}{sk dc:List (List Int)}{el:Int}{tk ec:List (List Int)}(h0:uni 2 sk)(h1:uni 6 dc)(h2:sk.length≤1000)(h3:dc.length≤1000)(h4:dl≠el){base:Nat}:FV Tryz.prog 46 [(.p (.agg (bH dl sk dc))),(.p (.agg (bH el tk ec)))] base (.p (blP false)) []:=by
 exact FV.fin Tryz.func46 rfl (o:=[.c (.p (.agg (bH dl sk dc))) [],bF,bF,bF,bF,bF,bF]) (l:=[_,_,_,_,_,_,_]) (by kernel_rfl) (gc (aU h4) (gc (aU h4) (gc (aU h4) (gc (aU h4) (gc (aU h4) (gc (aU h4) (gc (fk 2 (oB dl sk dc h0 h1 h2 h3) rfl) gn)))))))
theorem bAx(dl:Int)(sk dc:List (List Int))(el:Int)(tk ec:List (List Int))(u1:uni 2 sk∧sk.length≤1000)(u2:uni 6 dc∧dc.length≤1000)(v1:uni 2 tk)(v2:uni 6 ec){base:Nat}:FV Tryz.prog 46 [.p (.agg (bH dl sk dc)),.p (.agg (bH el tk ec))] base (.p (blP (decide (dl=el∧sk=tk∧dc=ec)))) []:=by
 by_cases h1:dl=el
 ·by_cases h2:sk=tk
  ·exact bLg u1.1 u2.1 u1.2 u2.2 h1 v1 (decide_eq_true h2) v2 (by simp [h1,h2])
  ·rw [decide_eq_false (fun h=>h2 h.2.1)];exact bLh u1.1 u2.1 u1.2 u2.2 h1 v1 (decide_eq_false h2)
 ·rw [decide_eq_false (fun h=>h1 h.1)];exact bLi u1.1 u2.1 u1.2 u2.2 h1
theorem bLj{dl:Int}{sk dc:List (List Int)}{n m:Int}(h0:n<(sk.length:Int))(h1:(sk.length:Int)≤(30:Int)){base:Nat}:FV Tryz.prog 29 [(.p (.agg (bH dl sk dc))),(.p (aA n)),(.p (aA m))] base (.p (blP true)) []:=by
 exact FV.fin Tryz.func29 rfl (o:=[bT,bT,bT,bT,bT,bT,bT,bT,bT,bT]) (l:=[_,_,_,_,_,_,_,_,_,_]) (by kernel_rfl) (gc (eJ h1) (gc (eJ h1) (gc (eJ h1) (gc (eJ h1) (gc (eJ h1) (gc (aL h0) (gc (aL h0) (gc (aL h0) (gc (aL h0) (gc (aL h0) gn))))))))))
theorem bLk{dl:Int}{sk dc:List (List Int)}{n m:Int}(h0:n<(sk.length:Int))(h1:(30:Int)<(sk.length:Int))(h2:(35:Int)<(sk.length:Int)){base:Nat}:FV Tryz.prog 29 [(.p (.agg (bH dl sk dc))),(.p (aA n)),(.p (aA m))] base (.p (blP true)) []:=by
 exact FV.fin Tryz.func29 rfl (o:=[bT,bT,bT,bT,bT,bF,bF,bF,bF,bF,bT,bT,bT,bT,bT,bT,bT,bT]) (l:=[_,_,_,_,_,_,_,_,_,_,_,_,_,_,_,_,_,_]) (by kernel_rfl) (gc (aL h2) (gc (aL h2) (gc (aL h2) (gc (aL h2) (gc (aL h2) (gc (aL h2) (gc (aL h2) (gc (aL h2) (gc (cT h1) (gc (cT h1) (gc (cT h1) (gc (cT h1) (gc (cT h1) (gc (aL h0) (gc (aL h0) (gc (aL h0) (gc (aL h0) (gc (aL h0) gn))))))))))))))))))
theorem bLl{dl:Int}{sk dc:List (List Int)}{n m:Int}(h0:n<(sk.length:Int))(h1:(30:Int)<(sk.length:Int))(h2:(sk.length:Int)≤(35:Int))(h3:m<(dc.length:Int))(h4:(dc.length:Int)≤(40:Int)){base:Nat}:FV Tryz.prog 29 [(.p (.agg (bH dl sk dc))),(.p (aA n)),(.p (aA m))] base (.p (blP true)) []:=by
 exact FV.fin Tryz.func29 rfl (o:=[bT,bT,bT,bT,bT,bF,bF,bF,bF,bF,bF,bF,bF,bF,bF,bF,bT,bT,bT,bT,bF,bT,bF,bT,bT,bT,bT,bT]) (l:=[_,_,_,_,_,_,_,_,_,_,_,_,_,_,_,_,_,_,_,_,_,_,_,_,_,_,_,_]) (by kernel_rfl) (gc (eJ h4) (gc (eJ h4) (gc (eJ h4) (gc (eJ h4) (gc (eJ h4) (gc (aE h2) (gc (aL h3) (gc (aE h2) (gc (aL h3) (gc (aL h3) (gc (aL h3) (gc (aL h3) (gc (aE h2) (gc (aE h2) (gc (aE h2) (gc (aE h2) (gc (aE h2) (gc (aE h2) (gc (cT h1) (gc (cT h1) (gc (cT h1) (gc (cT h1) (gc (cT h1) (gc (aL h0) (gc (aL h0) (gc (aL h0) (gc (aL h0) (gc (aL h0) gn))))))))))))))))))))))))))))
theorem bLm{dl:Int}{sk dc:List (List Int)}{n m:Int}{r0:Bool}(h0:n<(sk.length:Int))(h1:(30:Int)<(sk.length:Int))(h2:(sk.length:Int)≤(35:Int))(h3:m<(dc.length:Int))(h4:(40:Int)<(dc.length:Int))(er0:r0=(decide ((dc.length:Int) > (45:Int)))){base:Nat}:FV Tryz.prog 29 [(.p (.agg (bH dl sk dc))),(.p (aA n)),(.p (aA m))] base (.p (blP r0)) []:=by
 subst er0
 exact FV.fin Tryz.func29 rfl (o:=[bT,bT,bT,bT,bT,bF,bF,bF,bF,bF,bF,bF,bF,bF,bF,bF,bT,bT,bT,bT,bF,bT,bF,bF,bF,bF,bF,bF]) (l:=[_,_,_,_,_,_,_,_,_,_,_,_,_,_,_,_,_,_,_,_,_,_,_,_,_,_,_,_]) (by kernel_rfl) (gc (cT h4) (gc (cT h4) (gc (cT h4) (gc (cT h4) (gc (cT h4) (gc (aE h2) (gc (aL h3) (gc (aE h2) (gc (aL h3) (gc (aL h3) (gc (aL h3) (gc (aL h3) (gc (aE h2) (gc (aE h2) (gc (aE h2) (gc (aE h2) (gc (aE h2) (gc (aE h2) (gc (cT h1) (gc (cT h1) (gc (cT h1) (gc (cT h1) (gc (cT h1) (gc (aL h0) (gc (aL h0) (gc (aL h0) (gc (aL h0) (gc (aL h0) gn))))))))))))))))))))))))))))
theorem bLn{dl:Int}{sk dc:List (List Int)}{n m:Int}{r0:Bool}(h0:n<(sk.length:Int))(h1:(30:Int)<(sk.length:Int))(h2:(sk.length:Int)≤(35:Int))(h3:(dc.length:Int)≤m)(er0:r0=(decide ((dc.length:Int) > (45:Int)))){base:Nat}:FV Tryz.prog 29 [(.p (.agg (bH dl sk dc))),(.p (aA n)),(.p (aA m))] base (.p (blP r0)) []:=by
 subst er0
 exact FV.fin Tryz.func29 rfl (o:=[bT,bT,bT,bT,bT,bF,bF,bF,bF,bF,bF,bF,bF,bF,bF,bF,bF,bF,bF,bF,bF,bF,bF]) (l:=[_,_,_,_,_,_,_,_,_,_,_,_,_,_,_,_,_,_,_,_,_,_,_]) (by kernel_rfl) (gc (aE h2) (gc (aE h3) (gc (aE h2) (gc (aE h3) (gc (aE h3) (gc (aE h3) (gc (aE h3) (gc (aE h2) (gc (aE h2) (gc (aE h2) (gc (aE h2) (gc (aE h2) (gc (aE h2) (gc (cT h1) (gc (cT h1) (gc (cT h1) (gc (cT h1) (gc (cT h1) (gc (aL h0) (gc (aL h0) (gc (aL h0) (gc (aL h0) (gc (aL h0) gn)))))))))))))))))))))))
theorem bLo{dl:Int}{sk dc:List (List Int)}{n m:Int}(h0:(sk.length:Int)≤n)(h1:(35:Int)<(sk.length:Int)){base:Nat}:FV Tryz.prog 29 [(.p (.agg (bH dl sk dc))),(.p (aA n)),(.p (aA m))] base (.p (blP true)) []:=by
 exact FV.fin Tryz.func29 rfl (o:=[bF,bF,bF,bF,bF,bT,bT,bT,bT,bT,bT,bT,bT]) (l:=[_,_,_,_,_,_,_,_,_,_,_,_,_]) (by kernel_rfl) (gc (aL h1) (gc (aL h1) (gc (aL h1) (gc (aL h1) (gc (aL h1) (gc (aL h1) (gc (aL h1) (gc (aL h1) (gc (aE h0) (gc (aE h0) (gc (aE h0) (gc (aE h0) (gc (aE h0) gn)))))))))))))
theorem bLp{dl:Int}{sk dc:List (List Int)}{n m:Int}(h0:(sk.length:Int)≤n)(h1:(sk.length:Int)≤(35:Int))(h2:m<(dc.length:Int))(h3:(dc.length:Int)≤(40:Int)){base:Nat}:FV Tryz.prog 29 [(.p (.agg (bH dl sk dc))),(.p (aA n)),(.p (aA m))] base (.p (blP true)) []:=by
 exact FV.fin Tryz.func29 rfl (o:=[bF,bF,bF,bF,bF,bF,bF,bF,bF,bF,bF,bT,bT,bT,bT,bF,bT,bF,bT,bT,bT,bT,bT]) (l:=[_,_,_,_,_,_,_,_,_,_,_,_,_,_,_,_,_,_,_,_,_,_,_]) (by kernel_rfl) (gc (eJ h3) (gc (eJ h3) (gc (eJ h3) (gc (eJ h3) (gc (eJ h3) (gc (aE h1) (gc (aL h2) (gc (aE h1) (gc (aL h2) (gc (aL h2) (gc (aL h2) (gc (aL h2) (gc (aE h1) (gc (aE h1) (gc (aE h1) (gc (aE h1) (gc (aE h1) (gc (aE h1) (gc (aE h0) (gc (aE h0) (gc (aE h0) (gc (aE h0) (gc (aE h0) gn)))))))))))))))))))))))
theorem bLq{dl:Int}{sk dc:List (List Int)}{n m:Int}{r0:Bool}(h0:(sk.length:Int)≤n)(h1:(sk.length:Int)≤(35:Int))(h2:m<(dc.length:Int))(h3:(40:Int)<(dc.length:Int))(er0:r0=(decide ((dc.length:Int) > (45:Int)))){base:Nat}:FV Tryz.prog 29 [(.p (.agg (bH dl sk dc))),(.p (aA n)),(.p (aA m))] base (.p (blP r0)) []:=by
 subst er0
 exact FV.fin Tryz.func29 rfl (o:=[bF,bF,bF,bF,bF,bF,bF,bF,bF,bF,bF,bT,bT,bT,bT,bF,bT,bF,bF,bF,bF,bF,bF]) (l:=[_,_,_,_,_,_,_,_,_,_,_,_,_,_,_,_,_,_,_,_,_,_,_]) (by kernel_rfl) (gc (cT h3) (gc (cT h3) (gc (cT h3) (gc (cT h3) (gc (cT h3) (gc (aE h1) (gc (aL h2) (gc (aE h1) (gc (aL h2) (gc (aL h2) (gc (aL h2) (gc (aL h2) (gc (aE h1) (gc (aE h1) (gc (aE h1) (gc (aE h1) (gc (aE h1) (gc (aE h1) (gc (aE h0) (gc (aE h0) (gc (aE h0) (gc (aE h0) (gc (aE h0) gn)))))))))))))))))))))))
theorem bLr{dl:Int}{sk dc:List (List Int)}{n m:Int}{r0:Bool}(h0:(sk.length:Int)≤n)(h1:(sk.length:Int)≤(35:Int))(h2:(dc.length:Int)≤m)(er0:r0=(decide ((dc.length:Int) > (45:Int)))){base:Nat}:FV Tryz.prog 29 [(.p (.agg (bH dl sk dc))),(.p (aA n)),(.p (aA m))] base (.p (blP r0)) []:=by
 subst er0
 exact FV.fin Tryz.func29 rfl (o:=[bF,bF,bF,bF,bF,bF,bF,bF,bF,bF,bF,bF,bF,bF,bF,bF,bF,bF]) (l:=[_,_,_,_,_,_,_,_,_,_,_,_,_,_,_,_,_,_]) (by kernel_rfl) (gc (aE h1) (gc (aE h2) (gc (aE h1) (gc (aE h2) (gc (aE h2) (gc (aE h2) (gc (aE h2) (gc (aE h1) (gc (aE h1) (gc (aE h1) (gc (aE h1) (gc (aE h1) (gc (aE h1) (gc (aE h0) (gc (aE h0) (gc (aE h0) (gc (aE h0) (gc (aE h0) gn))))))))))))))))))
def nZ(sk dc:List (List Int))(n m:Int):Bool:=decide ((n<(sk.length:Int)∧(sk.length:Int)≤30)∨(35:Int)<(sk.length:Int)∨(m<(dc.length:Int)∧(dc.length:Int)≤40)∨(45:Int)<(dc.length:Int))
theorem aEq(dl:Int)(sk dc:List (List Int))(n m:Int){base:Nat}:FV Tryz.prog 29 [.p (.agg (bH dl sk dc)),.p (aA n),.p (aA m)] base (.p (blP (nZ sk dc n m))) []:=by
 have T:∀ {p:Prop} [Decidable p],p→true=decide p:=fun h=>(decide_eq_true h).symm
 by_cases h1:n<(sk.length:Int)
 ·by_cases h2:(sk.length:Int)≤30
  ·rw [show nZ sk dc n m=true from decide_eq_true (.inl ⟨h1,h2⟩)];exact bLj h1 h2
  by_cases h3:(35:Int)<(sk.length:Int)
  ·rw [show nZ sk dc n m=true from decide_eq_true (.inr (.inl h3))];exact bLk h1 (by omega) h3
  by_cases h4:m<(dc.length:Int)
  ·by_cases h5:(dc.length:Int)≤40
   ·rw [show nZ sk dc n m=true from decide_eq_true (.inr (.inr (.inl ⟨h4,h5⟩)))];exact bLl h1 (by omega) (by omega) h4 h5
   ·exact bLm h1 (by omega) (by omega) h4 (by omega) (by unfold nZ;rw [Bool.eq_iff_iff];simp only [decide_eq_true_eq];omega)
  ·exact bLn h1 (by omega) (by omega) (by omega) (by unfold nZ;rw [Bool.eq_iff_iff];simp only [decide_eq_true_eq];omega)
 ·by_cases h3:(35:Int)<(sk.length:Int)
  ·rw [show nZ sk dc n m=true from decide_eq_true (.inr (.inl h3))];exact bLo (by omega) h3
  by_cases h4:m<(dc.length:Int)
  ·by_cases h5:(dc.length:Int)≤40
   ·rw [show nZ sk dc n m=true from decide_eq_true (.inr (.inr (.inl ⟨h4,h5⟩)))];exact bLp (by omega) (by omega) h4 h5
   ·exact bLq (by omega) (by omega) h4 (by omega) (by unfold nZ;rw [Bool.eq_iff_iff];simp only [decide_eq_true_eq];omega)
  ·exact bLr (by omega) (by omega) (by omega) (by unfold nZ;rw [Bool.eq_iff_iff];simp only [decide_eq_true_eq];omega)
end
section

theorem kM:((0:Int) == (0:Int))=true:=by first | decide | simp
theorem rA:((0:Int) != (0:Int))=false:=by first | decide | simp
theorem aLi(dl:Int)(sk dc:List (List Int))(h0:uni 2 sk)(h1:sk.length≤1000)(h2:uni 6 dc)(h3:dc.length≤1000):FMM Tryz.prog 27 [.p (.agg (bH dl sk dc))] [] (.agg [.p (aA dl),.p (.sl sk.length (sk.flatten.map aA)),.own 0]) [some (.row 44 dc.length (dc.flatten.map aA))]:=bMj h0 h1 h2 h3
theorem aLj(dl:Int)(sk dc:List (List Int))(h0:uni 2 sk)(h1:sk.length≤1000)(h2:uni 6 dc)(h3:dc.length≤1000){base:Nat}:FV Tryz.prog 27 [.p (.agg (bH dl sk dc))] base (.p (.agg (bH dl sk dc))) []:=bMi h0 h1 h2 h3
theorem bLb{dl:Int}{sk dc:List (List Int)}{x0 x1 x2 x3 x4 x5:Int}(h0:(nZ sk dc (30:Int) (40:Int))=true)(h1:∀ {base:Nat},FV Tryz.prog 26 [] base (.p (blP true)) []){base:Nat}:FV Tryz.prog 6 [(.p (.agg (bH dl sk dc))),(.p (dcE x0 x1 x2 x3 x4 x5))] base (.p (blP true)) []:=by
 exact FV.fin Tryz.func6 rfl (o:=[.c (.p (blP (nZ sk dc (30:Int) (40:Int)))) [],bT,.c (.p (blP true)) []]) (l:=[FC Tryz.prog 26 [] [] 2 (.p (blP true)) [],_,_]) (by kernel_rfl) (gc (FV.fc h1 (by kernel_rfl)) (gc h0 (gc (fk 2 (aEq dl sk dc (30:Int) (40:Int)) rfl) gn)))
theorem bFm{dl:Int}{sk dc:List (List Int)}{x0 x1 x2 x3 x4 x5:Int}{l0:List (List Int)}(h0:(nZ sk dc (30:Int) (40:Int))=false)(h1:uni 2 sk)(h2:sk.length≤1000)(h3:uni 6 dc)(h4:dc.length≤1000)(h5:(dL dl sk dc)=(dL dl sk dc))(h6:dG dl sk dc)(h7:(0:Int)=(dL dl sk dc))(h8:uni 2 (aB sk)∧(aB sk).length≤1000)(h9:uni 6 (aB dc)∧(aB dc).length≤1000)(h10:uni 2 (aB sk))(h11:uni 6 (aB dc))(h12:(decide (dl=dl∧(aB sk)=(aB sk)∧(aB dc)=(aB dc)))=true)(h13:[(aA x0),(aA x1),(aA x2),(aA x3),(aA x4),(aA x5)].length=1*6∧dc.length+1≤1000000)(h14:(dc.length+1)=l0.length)(h15:((dc.flatten.map aA)++[(aA x0),(aA x1),(aA x2),(aA x3),(aA x4),(aA x5)])=(l0.flatten.map aA))(h16:uni 6 l0)(h17:l0.length≤1000)(h18:(dL dl sk dc)=(0:Int))(h19:dG dl sk (dc++[[x0,x1,x2,x3,x4,x5]]))(h20:(0:Int)=(dL dl sk l0))(h21:uni 2 sk∧sk.length≤1000)(h22:uni 6 (dc++[[x0,x1,x2,x3,x4,x5]])∧(dc++[[x0,x1,x2,x3,x4,x5]]).length≤1000)(h23:(decide (dl=dl∧sk=sk∧(dc++[[x0,x1,x2,x3,x4,x5]])=l0))=true)(h24:uni 6 dc∧dc.length≤1000)(h25:(decide (dl=dl∧sk=sk∧dc=dc))=true)(h26:∀ {base:Nat},FV Tryz.prog 26 [] base (.p (blP true)) []){base:Nat}:FV Tryz.prog 6 [(.p (.agg (bH dl sk dc))),(.p (dcE x0 x1 x2 x3 x4 x5))] base (.p (blP true)) []:=by
 exact FV.fin Tryz.func6 rfl (o:=[.c (.p (blP (nZ sk dc (30:Int) (40:Int)))) [],bF,.c (.p (.agg (bH dl sk dc))) [],.c (.p (.agg (bH dl sk dc))) [],.c (.p (aA (dL dl sk dc))) [],.c (.p (aA (dL dl sk dc))) [],bF,.c (.tup [(.p (.agg (bH dl (aB sk) (aB dc)))),(.p (aA 0))]) [],bF,bF,bF,bT,bT,bT,.c (.p (.agg (bH dl (aB sk) (aB dc)))) [],bT,.c (.p (blP (decide (dl=dl∧(aB sk)=(aB sk)∧(aB dc)=(aB dc))))) [],bT,bF,bT,bF,bF,bF,bF,bF,bF,bF,bF,bF,bF,bF,.c (.agg [(.p (aA dl)),(.p (.sl sk.length (sk.flatten.map aA))),(.own 21)]) [(21,(.row 44 dc.length (dc.flatten.map aA)))],.g 3 ⟨[56,58],[0,1,18,19,20,22,23],[24],[]⟩,.c (.p (.agg (bH dl sk l0))) [],.c (.p (aA (dL dl sk l0))) [],bF,.c (.tup [(.p (.agg (bH dl sk (dc++[[x0,x1,x2,x3,x4,x5]])))),(.p (aA 0))]) [],bT,bT,bT,bT,bT,bT,.c (.p (blP (decide (dl=dl∧sk=sk∧(dc++[[x0,x1,x2,x3,x4,x5]])=l0)))) [],bT,bT,bT,bT,bT,bT,bT,bT,bT,bT,.c (.p (blP (decide (dl=dl∧sk=sk∧dc=dc)))) [],bT,.c (.p (blP true)) [],bT]) (l:=[_,FC Tryz.prog 26 [] [] 8 (.p (blP true)) [],_,_,_,_,_,_,_,_,_,_,_,_,FC Tryz.prog 35 [(.p (.agg (bH dl sk (dc++[[x0,x1,x2,x3,x4,x5]])))),(.p (.agg [(aA dl),(.sl sk.length (sk.flatten.map aA)),(.sl (dc.length+1) ((dc.flatten.map aA)++[(aA x0),(aA x1),(aA x2),(aA x3),(aA x4),(aA x5)]))]))] [] 8 (.p (blP (decide (dl=dl∧sk=sk∧(dc++[[x0,x1,x2,x3,x4,x5]])=l0)))) [],_,_,_,_,_,_,_,_,_,FC Tryz.prog 30 [(.p (.agg [(aA dl),(.sl sk.length (sk.flatten.map aA)),(.sl (dc.length+1) ((dc.flatten.map aA)++[(aA x0),(aA x1),(aA x2),(aA x3),(aA x4),(aA x5)]))]))] [] 7 (.p (.agg (bH dl sk l0))) [],_,[(aA x0),(aA x1),(aA x2),(aA x3),(aA x4),(aA x5)].length=6,FC Tryz.prog 27 [(.p (.agg (bH dl sk dc)))] [] 21 (.agg [(.p (aA dl)),(.p (.sl sk.length (sk.flatten.map aA))),(.own 21)]) [(21,(.row 44 dc.length (dc.flatten.map aA)))],_,_,_,_,_,_,_,_,_,_,_,_,_,_,_,_,_,_,_,_,_,_,_,_,_,_,_,_,_,_,_]) (by kernel_rfl) (gc h25 (gc (FV.fc h26 (by kernel_rfl)) (gc h25 (gc (fk 8 (rV dl sk dc dl sk dc h21 h24 h1 h3) rfl) (gc (bE h20) (gc h23 (gc (bE h20) (gc h23 (gc h23 (gc h23 (gc h23 (gc (bE h20) (gc kM (gc (bE h20) (gc (FV.fc (by rw [show ((.sl (dc.length+1) ((dc.flatten.map aA)++[(aA x0),(aA x1),(aA x2),(aA x3),(aA x4),(aA x5)])):PV) = .sl l0.length (l0.flatten.map aA) from by rw [h14,h15]];exact (rV dl sk (dc++[[x0,x1,x2,x3,x4,x5]]) dl sk l0 h21 h22 h1 h16)) rfl) (gc kM (gc kM (gc kM (gc (bE h20) (gc (bE h20) (gc (bE h20) (gc (fk 7 (bMp dl sk dc x0 x1 x2 x3 x4 x5 h6 h19) rfl) (gc (cE h18) (gc (fk 7 (uT dl sk l0 h1 h16) rfl) (gc (FV.fc (by rw [show ((.sl (dc.length+1) ((dc.flatten.map aA)++[(aA x0),(aA x1),(aA x2),(aA x3),(aA x4),(aA x5)])):PV) = .sl l0.length (l0.flatten.map aA) from by rw [h14,h15]];exact (oB dl sk l0 h1 h16 h2 h17)) rfl) (gc h13 (gc (by first | decide | simp) (gc (FMM.fc (ids:=[]) (aLi dl sk dc h1 h2 h3 h4) (by kernel_rfl)) (gc (aI h12) (gc rA (gc (aI h12) (gc rA (gc rA (gc rA (gc rA (gc (aI h12) (gc (aI h12) (gc (aI h12) (gc (cE h7) (gc kM (gc (cE h7) (gc kM (gc (fk 29 (bAx dl (aB sk) (aB dc) dl (aB sk) (aB dc) h8 h9 h10 h11) rfl) (gc kM (gc (fk 21 (bBb dl sk dc h6) rfl) (gc kM (gc kM (gc kM (gc (cE h7) (gc (cE h7) (gc (cE h7) (gc (fk 20 (aLm dl sk dc h6) rfl) (gc (cE h5) (gc (fk 20 (mI dl sk dc h1 h3) rfl) (gc (fk 20 (uT dl sk dc h1 h3) rfl) (gc (fk 10 (oB dl sk dc h1 h3 h2 h4) rfl) (gc (fk 2 (aLj dl sk dc h1 h2 h3 h4) rfl) (gc h0 (gc (fk 2 (aEq dl sk dc (30:Int) (40:Int)) rfl) gn)))))))))))))))))))))))))))))))))))))))))))))))))))))))))))
theorem bFn{dl:Int}{sk dc:List (List Int)}{x0 x1 x2 x3 x4 x5:Int}{l0:List (List Int)}(h0:(nZ sk dc (30:Int) (40:Int))=false)(h1:uni 2 sk)(h2:sk.length≤1000)(h3:uni 6 dc)(h4:dc.length≤1000)(h5:(dL dl sk dc)=(dL dl sk dc))(h6:dG dl sk dc)(h7:(0:Int)=(dL dl sk dc))(h8:uni 2 (aB sk)∧(aB sk).length≤1000)(h9:uni 6 (aB dc)∧(aB dc).length≤1000)(h10:uni 2 (aB sk))(h11:uni 6 (aB dc))(h12:(decide (dl=dl∧(aB sk)=(aB sk)∧(aB dc)=(aB dc)))=true)(h13:[(aA x0),(aA x1),(aA x2),(aA x3),(aA x4),(aA x5)].length=1*6∧dc.length+1≤1000000)(h14:(dc.length+1)=l0.length)(h15:((dc.flatten.map aA)++[(aA x0),(aA x1),(aA x2),(aA x3),(aA x4),(aA x5)])=(l0.flatten.map aA))(h16:uni 6 l0)(h17:l0.length≤1000)(h18:(dL dl sk dc)=(0:Int))(h19:(uU dl sk dc [x0,x1,x2,x3,x4,x5])≠(0:Int))(h20:(uU dl sk dc [x0,x1,x2,x3,x4,x5])=(dL dl sk l0))(h21:uni 2 ([]:List (List Int))∧([]:List (List Int)).length≤1000)(h22:uni 6 ([]:List (List Int))∧([]:List (List Int)).length≤1000)(h23:uni 2 ([]:List (List Int)))(h24:uni 6 ([]:List (List Int)))(h25:(decide ((0:Int)=(0:Int)∧([]:List (List Int))=([]:List (List Int))∧([]:List (List Int))=([]:List (List Int))))=true)(h26:uni 2 sk∧sk.length≤1000)(h27:uni 6 dc∧dc.length≤1000)(h28:(decide (dl=dl∧sk=sk∧dc=dc))=true)(h29:∀ {base:Nat},FV Tryz.prog 26 [] base (.p (blP true)) []){base:Nat}:FV Tryz.prog 6 [(.p (.agg (bH dl sk dc))),(.p (dcE x0 x1 x2 x3 x4 x5))] base (.p (blP true)) []:=by
 exact FV.fin Tryz.func6 rfl (o:=[.c (.p (blP (nZ sk dc (30:Int) (40:Int)))) [],bF,.c (.p (.agg (bH dl sk dc))) [],.c (.p (.agg (bH dl sk dc))) [],.c (.p (aA (dL dl sk dc))) [],.c (.p (aA (dL dl sk dc))) [],bF,.c (.tup [(.p (.agg (bH dl (aB sk) (aB dc)))),(.p (aA 0))]) [],bF,bF,bF,bT,bT,bT,.c (.p (.agg (bH dl (aB sk) (aB dc)))) [],bT,.c (.p (blP (decide (dl=dl∧(aB sk)=(aB sk)∧(aB dc)=(aB dc))))) [],bT,bF,bT,bF,bF,bF,bF,bF,bF,bF,bF,bF,bF,bF,.c (.agg [(.p (aA dl)),(.p (.sl sk.length (sk.flatten.map aA))),(.own 21)]) [(21,(.row 44 dc.length (dc.flatten.map aA)))],.g 3 ⟨[56,58],[0,1,18,19,20,22,23],[24],[]⟩,.c (.p (.agg (bH dl sk l0))) [],.c (.p (aA (dL dl sk l0))) [],bF,.c (.tup [(.p (.agg [(aA 0),bR,bR])),(.p (aA (uU dl sk dc [x0,x1,x2,x3,x4,x5])))]) [],bT,bT,bT,bF,bF,bF,bT,bF,bT,bT,bT,bT,.c (.p (blP (decide ((0:Int)=(0:Int)∧([]:List (List Int))=([]:List (List Int))∧([]:List (List Int))=([]:List (List Int)))))) [],bT,bT,bT,bT,bT,bT,.c (.p (blP (decide (dl=dl∧sk=sk∧dc=dc)))) [],bT,bT,.c (.p (blP true)) [],bT]) (l:=[_,FC Tryz.prog 26 [] [] 8 (.p (blP true)) [],_,_,_,_,_,_,_,_,_,_,_,_,_,_,_,_,_,_,_,_,_,_,_,_,_,FC Tryz.prog 30 [(.p (.agg [(aA dl),(.sl sk.length (sk.flatten.map aA)),(.sl (dc.length+1) ((dc.flatten.map aA)++[(aA x0),(aA x1),(aA x2),(aA x3),(aA x4),(aA x5)]))]))] [] 7 (.p (.agg (bH dl sk l0))) [],_,[(aA x0),(aA x1),(aA x2),(aA x3),(aA x4),(aA x5)].length=6,FC Tryz.prog 27 [(.p (.agg (bH dl sk dc)))] [] 21 (.agg [(.p (aA dl)),(.p (.sl sk.length (sk.flatten.map aA))),(.own 21)]) [(21,(.row 44 dc.length (dc.flatten.map aA)))],_,_,_,_,_,_,_,_,_,_,_,_,_,_,_,_,_,_,_,_,_,_,_,_,_,_,_,_,_,_,_]) (by kernel_rfl) (gc h28 (gc (FV.fc h29 (by kernel_rfl)) (gc h28 (gc h25 (gc (fk 8 (rV dl sk dc dl sk dc h26 h27 h1 h3) rfl) (gc h25 (gc h25 (gc h25 (gc (bE h20) (gc (bE h20) (gc (cX h19) (gc (fk 8 (FV.argwk (args:=[(.p (.agg [(aA 0),bR,bR])),(.p (.agg [(aA 0),bR,bR]))]) (rV (0:Int) ([]:List (List Int)) ([]:List (List Int)) (0:Int) ([]:List (List Int)) ([]:List (List Int)) h21 h22 h23 h24) (by kernel_rfl)) rfl) (gc (cX h19) (gc (cX h19) (gc (cX h19) (gc (bE h20) (gc (aU h19) (gc (bE h20) (gc (aU h19) (gc (aU h19) (gc (aU h19) (gc (bE h20) (gc (bE h20) (gc (bE h20) (gc (fk 7 (aPg dl sk dc x0 x1 x2 x3 x4 x5 h1 h3 h19) rfl) (gc (cE h18) (gc (fk 7 (uT dl sk l0 h1 h16) rfl) (gc (FV.fc (by rw [show ((.sl (dc.length+1) ((dc.flatten.map aA)++[(aA x0),(aA x1),(aA x2),(aA x3),(aA x4),(aA x5)])):PV) = .sl l0.length (l0.flatten.map aA) from by rw [h14,h15]];exact (oB dl sk l0 h1 h16 h2 h17)) rfl) (gc h13 (gc (by first | decide | simp) (gc (FMM.fc (ids:=[]) (aLi dl sk dc h1 h2 h3 h4) (by kernel_rfl)) (gc (aI h12) (gc rA (gc (aI h12) (gc rA (gc rA (gc rA (gc rA (gc (aI h12) (gc (aI h12) (gc (aI h12) (gc (cE h7) (gc kM (gc (cE h7) (gc kM (gc (fk 29 (bAx dl (aB sk) (aB dc) dl (aB sk) (aB dc) h8 h9 h10 h11) rfl) (gc kM (gc (fk 21 (bBb dl sk dc h6) rfl) (gc kM (gc kM (gc kM (gc (cE h7) (gc (cE h7) (gc (cE h7) (gc (fk 20 (aLm dl sk dc h6) rfl) (gc (cE h5) (gc (fk 20 (mI dl sk dc h1 h3) rfl) (gc (fk 20 (uT dl sk dc h1 h3) rfl) (gc (fk 10 (oB dl sk dc h1 h3 h2 h4) rfl) (gc (fk 2 (aLj dl sk dc h1 h2 h3 h4) rfl) (gc h0 (gc (fk 2 (aEq dl sk dc (30:Int) (40:Int)) rfl) gn))))))))))))))))))))))))))))))))))))))))))))))))))))))))))))))
theorem bFo{dl:Int}{sk dc:List (List Int)}{x0 x1 x2 x3 x4 x5:Int}{l0:List (List Int)}(h0:(nZ sk dc (30:Int) (40:Int))=false)(h1:uni 2 sk)(h2:sk.length≤1000)(h3:uni 6 dc)(h4:dc.length≤1000)(h5:(dL dl sk dc)=(dL dl sk dc))(h6:(dL dl sk dc)≠(0:Int))(h7:uni 2 ([]:List (List Int))∧([]:List (List Int)).length≤1000)(h8:uni 6 ([]:List (List Int))∧([]:List (List Int)).length≤1000)(h9:uni 2 ([]:List (List Int)))(h10:uni 6 ([]:List (List Int)))(h11:(decide ((0:Int)=(0:Int)∧([]:List (List Int))=([]:List (List Int))∧([]:List (List Int))=([]:List (List Int))))=true)(h12:[(aA x0),(aA x1),(aA x2),(aA x3),(aA x4),(aA x5)].length=1*6∧dc.length+1≤1000000)(h13:(dc.length+1)=l0.length)(h14:((dc.flatten.map aA)++[(aA x0),(aA x1),(aA x2),(aA x3),(aA x4),(aA x5)])=(l0.flatten.map aA))(h15:uni 6 l0)(h16:l0.length≤1000)(h17:(uU dl sk dc [x0,x1,x2,x3,x4,x5])≠(0:Int))(h18:(uU dl sk dc [x0,x1,x2,x3,x4,x5])=(dL dl sk dc))(h19:uni 2 sk∧sk.length≤1000)(h20:uni 6 dc∧dc.length≤1000)(h21:(decide (dl=dl∧sk=sk∧dc=dc))=true)(h22:∀ {base:Nat},FV Tryz.prog 26 [] base (.p (blP true)) []){base:Nat}:FV Tryz.prog 6 [(.p (.agg (bH dl sk dc))),(.p (dcE x0 x1 x2 x3 x4 x5))] base (.p (blP true)) []:=by
 exact FV.fin Tryz.func6 rfl (o:=[.c (.p (blP (nZ sk dc (30:Int) (40:Int)))) [],bF,.c (.p (.agg (bH dl sk dc))) [],.c (.p (.agg (bH dl sk dc))) [],.c (.p (aA (dL dl sk dc))) [],.c (.p (aA (dL dl sk dc))) [],bF,.c (.tup [(.p (.agg [(aA 0),bR,bR])),(.p (aA (dL dl sk dc)))]) [],bF,bF,bF,bF,bF,bF,bF,bF,bF,bF,bF,bT,bT,bT,.c (.p (blP (decide ((0:Int)=(0:Int)∧([]:List (List Int))=([]:List (List Int))∧([]:List (List Int))=([]:List (List Int)))))) [],bT,bT,bF,.c (.agg [(.p (aA dl)),(.p (.sl sk.length (sk.flatten.map aA))),(.own 21)]) [(21,(.row 44 dc.length (dc.flatten.map aA)))],.g 3 ⟨[56,58],[0,1,18,19,20,22,23],[24],[]⟩,.c (.p (.agg (bH dl sk l0))) [],.c (.p (aA (dL dl sk l0))) [],bT,.c (.tup [(.p (.agg [(aA 0),bR,bR])),(.p (aA (uU dl sk dc [x0,x1,x2,x3,x4,x5])))]) [],bT,bT,bT,bF,bF,bF,bT,bF,bT,bT,bT,bT,.c (.p (blP (decide ((0:Int)=(0:Int)∧([]:List (List Int))=([]:List (List Int))∧([]:List (List Int))=([]:List (List Int)))))) [],bT,bT,bT,bT,bT,bT,.c (.p (blP (decide (dl=dl∧sk=sk∧dc=dc)))) [],bT,bT,.c (.p (blP true)) [],bT]) (l:=[_,FC Tryz.prog 26 [] [] 8 (.p (blP true)) [],_,_,_,_,_,_,_,_,_,_,_,_,_,_,_,_,_,_,_,_,_,_,_,_,_,FC Tryz.prog 30 [(.p (.agg [(aA dl),(.sl sk.length (sk.flatten.map aA)),(.sl (dc.length+1) ((dc.flatten.map aA)++[(aA x0),(aA x1),(aA x2),(aA x3),(aA x4),(aA x5)]))]))] [] 7 (.p (.agg (bH dl sk l0))) [],_,[(aA x0),(aA x1),(aA x2),(aA x3),(aA x4),(aA x5)].length=6,FC Tryz.prog 27 [(.p (.agg (bH dl sk dc)))] [] 21 (.agg [(.p (aA dl)),(.p (.sl sk.length (sk.flatten.map aA))),(.own 21)]) [(21,(.row 44 dc.length (dc.flatten.map aA)))],_,_,_,_,_,_,_,_,_,_,_,_,_,_,_,_,_,_,_,_,_,_,_,_,_,_]) (by kernel_rfl) (gc h21 (gc (FV.fc h22 (by kernel_rfl)) (gc h21 (gc h11 (gc (fk 8 (rV dl sk dc dl sk dc h19 h20 h1 h3) rfl) (gc h11 (gc h11 (gc h11 (gc (bE h18) (gc (bE h18) (gc (cX h17) (gc (fk 8 (FV.argwk (args:=[(.p (.agg [(aA 0),bR,bR])),(.p (.agg [(aA 0),bR,bR]))]) (rV (0:Int) ([]:List (List Int)) ([]:List (List Int)) (0:Int) ([]:List (List Int)) ([]:List (List Int)) h7 h8 h9 h10) (by kernel_rfl)) rfl) (gc (cX h17) (gc (cX h17) (gc (cX h17) (gc (bE h18) (gc (aU h17) (gc (bE h18) (gc (aU h17) (gc (aU h17) (gc (aU h17) (gc (bE h18) (gc (bE h18) (gc (bE h18) (gc (fk 7 (aPg dl sk dc x0 x1 x2 x3 x4 x5 h1 h3 h17) rfl) (gc (cX h6) (gc (fk 7 (uT dl sk l0 h1 h15) rfl) (gc (FV.fc (by rw [show ((.sl (dc.length+1) ((dc.flatten.map aA)++[(aA x0),(aA x1),(aA x2),(aA x3),(aA x4),(aA x5)])):PV) = .sl l0.length (l0.flatten.map aA) from by rw [h13,h14]];exact (oB dl sk l0 h1 h15 h2 h16)) rfl) (gc h12 (gc (by first | decide | simp) (gc (FMM.fc (ids:=[]) (aLi dl sk dc h1 h2 h3 h4) (by kernel_rfl)) (gc (aI h11) (gc (cX h6) (gc (cX h6) (gc (fk 37 (FV.argwk (args:=[(.p (.agg [(aA 0),bR,bR])),(.p (.agg [(aA 0),bR,bR]))]) (rV (0:Int) ([]:List (List Int)) ([]:List (List Int)) (0:Int) ([]:List (List Int)) ([]:List (List Int)) h7 h8 h9 h10) (by kernel_rfl)) rfl) (gc (cX h6) (gc (cX h6) (gc (cX h6) (gc (cE h5) (gc (aU h6) (gc (cE h5) (gc (aU h6) (gc (aU h6) (gc (aU h6) (gc (aU h6) (gc (aU h6) (gc (cE h5) (gc (cE h5) (gc (cE h5) (gc (fk 20 (bFs dl sk dc h1 h3 h6) rfl) (gc (cE h5) (gc (fk 20 (mI dl sk dc h1 h3) rfl) (gc (fk 20 (uT dl sk dc h1 h3) rfl) (gc (fk 10 (oB dl sk dc h1 h3 h2 h4) rfl) (gc (fk 2 (aLj dl sk dc h1 h2 h3 h4) rfl) (gc h0 (gc (fk 2 (aEq dl sk dc (30:Int) (40:Int)) rfl) gn)))))))))))))))))))))))))))))))))))))))))))))))))))))))))
theorem bLc(haw:∀ {base:Nat},FV Tryz.prog 26 [] base (.p (blP true)) [])(dl:Int)(sk dc:List (List Int))(a b c d e f:Int)(us:uni 2 sk)(ud:uni 6 dc){base:Nat}:FV Tryz.prog 6 [.p (.agg (bH dl sk dc)),.p (dcE a b c d e f)] base (.p (blP true)) []:=by
 cases hg:nZ sk dc 30 40 with
 | true=>exact bLb hg haw
 | false =>
 have hs:=of_decide_eq_false hg
 have l1:sk.length≤1000:=by omega
 have l2:dc.length≤999:=by omega
 have u3:uni 6 (dc++[[a,b,c,d,e,f]]):=zL ud rfl
 have l3:(dc++[[a,b,c,d,e,f]]).length≤1000:=by simp;omega
 have fs:=iX (l:=dc) (x:=[a,b,c,d,e,f])
 have n2:uni 2 ([]:List (List Int)):=fun x h=>by cases h
 have n6:uni 6 ([]:List (List Int)):=fun x h=>by cases h
 by_cases h1:dL dl sk dc=0
 ·have hr:=(qN us ud).1 h1
  by_cases h2:dL dl sk (dc++[[a,b,c,d,e,f]])=0
  ·exact bFm hg us l1 ud (by omega) rfl hr h1.symm ⟨eB us,by rw [dV];exact l1⟩ ⟨eB ud,by rw [dV];omega⟩ (eB us) (eB ud) (by simp) ⟨rfl,by omega⟩ (by simp) fs u3 l3 h1 ((qN us u3).1 h2) h2.symm ⟨us,l1⟩ ⟨u3,l3⟩ (by simp) ⟨ud,by omega⟩ (by simp) haw
  ·have he:uU dl sk dc [a,b,c,d,e,f]=dL dl sk (dc++[[a,b,c,d,e,f]]):=by unfold uU;rw [if_pos h1]
   exact bFn hg us l1 ud (by omega) rfl hr h1.symm ⟨eB us,by rw [dV];exact l1⟩ ⟨eB ud,by rw [dV];omega⟩ (eB us) (eB ud) (by simp) ⟨rfl,by omega⟩ (by simp) fs u3 l3 h1 (by rw [he];exact h2) he ⟨n2,by simp⟩ ⟨n6,by simp⟩ n2 n6 (by simp) ⟨us,l1⟩ ⟨ud,by omega⟩ (by simp) haw
 ·have he:uU dl sk dc [a,b,c,d,e,f]=dL dl sk dc:=by unfold uU;rw [if_neg h1]
  exact bFo hg us l1 ud (by omega) rfl h1 ⟨n2,by simp⟩ ⟨n6,by simp⟩ n2 n6 (by simp) ⟨rfl,by omega⟩ (by simp) fs u3 l3 (by rw [he];exact h1) he ⟨us,l1⟩ ⟨ud,by omega⟩ (by simp) haw
end
end KV
end Go.Proofs
section
namespace Go.Proofs
open Go.RowKit
namespace KV
variable {P:Program} {T:TT} {E:Env} {C C0:Cx} {M M0:Mem} {w w0:World}
def gB(P:Program)(k:Nat)(c:Code)(st:St)(e:Ex)(st':St):Prop:=∀ (C0:Cx) (M0:Mem) (w0:World) (a:Act) (w:World),M0.length≤k→Sim P C0 M0 w0 st a w→∀ (ro:Option Nat) (n:Nat),c.wpIn (Fen ro) n P (fun e' a' w'=>e'=e.toExit∧Sim P C0 M0 w0 st' a' w') a w
theorem gB.cast{k:Nat}{c:Code}{st st1 st2:St}{e:Ex}(h:gB P k c st e st1)(q:st1=st2):gB P k c st e st2:=q ▸ h
theorem bCu(hT:∀ t i,T t=some i→cM P t=some i)(hE:kL P E)(hm:P.follows .mixedOrders=true){id:Nat}{ops:Array Oper}{d:Bool}{st st':St}{s s':AS}(h:aGf P T E ops d st s=some (st',s'))(g:bL s'){k:Nat}:gB P k (.region id ops d) st .normal st':=by
 intro C0 M0 w0 a w _ hs ro n
 cases d with
 | false =>
  refine wpIn_region ?_
  have:=rL hT hE ops.toList 0 (fun j=>by simp) h g C0 M0 w0 a w hs ro n (fun e' a' w'=>e'=Ex.normal.toExit∧Sim P C0 M0 w0 st' a' w') (fun a' w' h'=>⟨rfl,h'⟩)
  simpa using this
 | true =>
  obtain ⟨_,s1,h1,k1⟩:=aD h
  obtain ⟨e1,rfl⟩:=aG h1
  obtain ⟨r,s2,h2,k2⟩:=aD k1
  obtain ⟨_,s3,h3,k3⟩:=aD k2
  obtain ⟨e3,rfl⟩:=aG h3
  obtain ⟨rfl,rfl⟩:=aM k3
  obtain ⟨hB,_⟩:=bV e1
  obtain ⟨hA,_⟩:=bV e3
  obtain ⟨os,hfts,hlex⟩:=oW ops.toList _ (fts:=r.1) (fin:=r.2) h2 g
  unfold Region.lexB at hB
  rw [Bool.and_eq_true] at hB
  have hlen:os.length=ops.toList.length:=by
   have:∀ {l:List Oper} {id:Nat} {st:St} {os:List sO} {fin:St},aGh P T E ops.toList id l st os fin→os.length=l.length:=by
    intro l
    induction l with
    | nil=>intro id st os fin h;cases h;rfl
    | cons o l ih=>intro id st os fin h;cases h with | cons _ _ _ _ q os _ h hr=>simp [ih hr]
   exact this hlex
  have key:mX P T E ops.toList st.m.length (fun k=>os.getD k (.any,[],none)) r.2 ops.toList.length (Array.replicate ops.size false) st:=by
   refine mX.lex ops.toList 0 _ st os (fun j=>by simp) (fun j q hj=>by simp [List.getD_eq_getElem?_getD,hj]) (fun j hj=>absurd hj (Nat.not_lt_zero _)) (fun j oj hj hl => ?_) (fun i j _ hij hj => ?_) (by simpa using hB.2) (by simpa [ido] using hlex)
   ·exfalso
    rcases Nat.lt_or_ge j ops.size with h' | h'
    ·simp [h'] at hl
    ·simp [Nat.not_lt.2 h'] at hl
   have hj2:j<os.length:=by
    rw [hlen]
    obtain ⟨o,ho⟩:=Option.isSome_iff_exists.1 hj
    exact (List.getElem?_eq_some_iff.1 ho).1
   have:=lU r.1 0 hA i j (xX os[i]) (xX os[j]) hij (by rw [hfts,List.getElem?_map,List.getElem?_eq_getElem (by omega)];rfl) (by rw [hfts,List.getElem?_map,List.getElem?_eq_getElem hj2];rfl)
   rw [Nat.zero_add,Nat.zero_add] at this
   simp only [List.getD_eq_getElem?_getD,List.getElem?_eq_getElem hj2,List.getElem?_eq_getElem (show i<os.length by omega),Option.getD_some,Array.toArray_toList]
   exact this
  refine wpIn_region_any hm ?_
  have:=mX.sound hT hE (C0:=C0) (M0:=M0) (w0:=w0) (ro:=ro) (n:=n) (Q:=fun e' a' w'=>e'=Ex.normal.toExit∧Sim P C0 M0 w0 r.2 a' w') (fun a' w' h'=>⟨rfl,h'⟩) _ _ _ a _ key (hs.drawn (w.drawn+1))
  simpa using this


noncomputable def bKl(c:Code)(st:St):Ask (Ex × St):=match c with
 | .region _ ops d=>do
  let st' ← aGf Tryz.prog tT EO ops d st
  pure (.normal,st')
 | _=>fail
theorem gB.fin{k:Nat}{c:Code}{st st':St}{e:Ex}{g:Gh}{o:List OI}{l:List Prop}(h:aHt k g (bKl c st (asg o))=some (e,st',l,[]))(gd:bL (out l)):gB Tryz.prog k c st e st':=by
 unfold aHt at h
 split at h
 ·rename_i e1 st1 s hr
  split at h
  ·rename_i st2 hg
   simp only [Option.some.injEq,Prod.mk.injEq] at h
   obtain ⟨rfl,rfl,rfl,hs⟩:=h
   unfold bKl at hr
   split at hr
   ·rename_i id ops d
    obtain ⟨st3,s1,h1,k1⟩:=aD hr
    obtain ⟨he,rfl⟩:=aM k1
    cases he
    intro C0 M0 w0 a w hk hsm ro n
    exact wpIn_mono (bCu (k:=k) aCg aCf mixed h1 (fun p hp=>gd p hp) C0 M0 w0 a w hk hsm ro n) (fun _ _ _ hq=>⟨hq.1,eO hk hg hq.2⟩)
   ·exact (aY hr).elim
  ·cases h
 ·cases h
end KV
end Go.Proofs
end
section
namespace Go.Proofs
open Go.RowKit
namespace KV
variable {P:Program} {n:Nat}
def aDe{α:Type}(F:Fence)(n:Nat)(P:Program)(g:Nat)(lb:Array Value)(encs:α→Array Value)(R:α→World→World→Prop)(Kp:World→World→Prop)(S Sp:List α→Prop)(N:Nat)(w:World):Prop :=
 ∀ (l:Nat) (J Jx:List α→World→Prop) (W:World),Below w.heap.size w W→AbidesFrom W.heap.size J→AbidesFrom W.heap.size Jx →
  (∀ pre x W0 W1,J pre W0→W0.grownBy W1 none→R x W0 W1→pre.length<N→YieldAt F (n-1) P l (encs x) W1 fun e W' =>
   (e = .returned (.bool true)∧J (pre++[x]) W'∧Kp W0 W')∨(e = .returned (.bool false)∧Jx (pre++[x]) W')) →
  J [] W →
  CallsIn F n P g (#[.func (.yield l) #[] #[]]++lb) W fun e W'=>(∃ v,e = .returned v)∧((∃ xs,S xs∧J xs W')∨(∃ pre,Sp pre∧Jx pre W'))

def bCy{α:Type}(B:Nat)(Kp:World→World→Prop)(I:List α→World→Prop)(Ix:Code→List α→World→Prop)(xs:List α)(V W:World):Exit→Act→World→Prop
 | .normal,_,W'=>KeepsFrom B W W'∧Kp V W'∧I xs W'
 | .ret,_,W'=>KeepsFrom B W W'∧Ix .ret xs W'
 | .exit id,_,W'=>KeepsFrom B W W'∧Ix (.exit id) xs W'
 | .goto t,_,W'=>KeepsFrom B W W'∧Ix (.goto t) xs W'
 | .panic _,_,_=>False
 | .outgrown,_,_=>False

theorem qR{α:Type}{F:Fence}{g:Operand}{ps:Array Tmp}{assign body:Code}{Q:Exit→Act→World→Prop}{a:Act}{w:World}
  (hro:F.round=none) (h1:1≤n) {gf:Nat} {lb:Array Value} (hg:a.eval g = .func (.func gf) #[] lb) (hFg:F.fn gf) (eg:∀ args w,(callFunc gf args).run P w = .ok (.enter gf args) w)
  {encs:α→Array Value} {R:α→World→World→Prop} {Kp:World→World→Prop} {S Sp:List α→Prop} {N:Nat} {w0:World} (hseq:aDe F (n-1) P gf lb encs R Kp S Sp N w0)
  (hKt:∀ {A B C:World},Kp A B→Kp B C→Kp A C) (hKb:∀ (W:World) (l:Nat) (o o':Obj),w.heap.size≤l→W.heap[l]? = some o→o.isCells=false→o.isWalk=false→Kp W (W.putObj l o')) (hb0:Below w0.heap.size w0 w) (hps:∀ x,(encs x).size=ps.size)
  (I:List α→World→Prop) (Ix:Code→List α→World→Prop) (hI:OwnFrom w.heap.size I) (hIx:∀ c,OwnFrom w.heap.size (Ix c)) (h0:I [] w) (Ax:List α→α→World→Act→World→Prop) (hAx:∀ pre x V a',OwnFrom w.heap.size (fun (_:Unit) W=>Ax pre x V a' W))
  (hassign:∀ (l:Nat) (pre:List α) (x:α) (V W:World) (K:Act→World→Prop),I pre V→V.grownBy W none→R x V W→(∀ a' W',KeepsFrom w.heap.size W W'→Ax pre x V a' W'→K a' W') →
   assign.wpIn (F.inRound l) (n-1-1) P (Exit.then K (fun _ _ _=>False)) { tmps:=(ps.zip (encs x)).foldl (fun t (p,v)=>t.setIfInBounds p v) a.tmps,defers:=[] } W)
  (hbody:∀ (l:Nat) (pre:List α) (x:α) (a':Act) (V W:World),w.heap.size≤l→(∃ r,W.heap[l]? = some (.loop r))→Ax pre x V a' W→pre.length<N→body.wpIn (F.inRound l) (n-1-1) P (bCy w.heap.size Kp I Ix (pre++[x]) V W) a' W)
  (hdone:∀ (D:Nat) (xs:List α) (W:World),w.heap.size≤D→S xs→I xs W→W.heap[D]? = some (.deferred (some []))→Q .normal { a with defers:={ target := .collected D,args := #[] }::a.defers } W)
  (hstop:∀ (D:Nat) (c:Code) (pre:List α) (W:World),w.heap.size≤D→Sp pre→Ix c pre W→W.heap[D]? = some (.deferred (some []))→c.wpIn F n P Q { a with defers:={ target := .collected D,args := #[] }::a.defers } W) :
  (Code.rangeFunc g ps assign body).wpIn F n P Q a w:=by
 refine wpIn_rangeFunc fun fn hfn => ?_
 rw [hro]
 obtain ⟨rc,hrc⟩:∃ rc:LoopState→Option Code→Loop,rc=fun st pe=>{ state:=st,pending:=pe,fn,tmps:=a.tmps,params:=ps,assign,body,defers:=w.heap.size }:=⟨_,rfl⟩
 obtain ⟨W1,hW1⟩:∃ W1,(w.alloc (.deferred (some []))).alloc (.loop (rc .ready none))=W1:=⟨_,rfl⟩
 have hsz:W1.heap.size=w.heap.size+2:=by rw [← hW1];simp
 have hL1:W1.heap[w.heap.size+1]? = some (.loop (rc .ready none)):=by
  have:=World.alloc_heap_new (w.alloc (.deferred (some []))) (.loop (rc .ready none))
  rw [World.size_alloc] at this
  rw [← hW1];exact this
 have hK1:W1.heap[w.heap.size]? = some (.deferred (some [])):=by
  rw [← hW1];exact (Below.heap_alloc _ _ _ (by simp)).trans (World.alloc_heap_new w _)
 have hI1:I [] W1:=by rw [← hW1];exact hI.alloc _ (hI.alloc _ h0)
 have hb1:Below w0.heap.size w0 W1:=by
  rw [← hW1];exact hb0.trans ((((Below.refl _ w).alloc (Nat.le_refl _) _).alloc (by simp) _).mono hb0.size)
 let Bk (st:LoopState) (pe:Option Code) (W:World):Prop:=W.heap[w.heap.size+1]? = some (.loop (rc st pe))∧W.heap[w.heap.size]? = some (.deferred (some []))
 have bkKeep:∀ {st:LoopState} {pe:Option Code} {A B:World} {row:Option Nat},Bk st pe A→A.grownBy B row→(∀ r,row=some r→∃ o:Obj,A.heap[r]? = some o∧o.isWalk=true)→Bk st pe B:=fun hs hg' hr =>
  ⟨(grownBy_keeps hg' hr hs.1 rfl).trans hs.1,(grownBy_keeps hg' hr hs.2 rfl).trans hs.2⟩
 have walkOwn:∀ {A:World} {row:Option Nat},(∀ r,row=some r→W1.heap.size≤r∧∃ o:Obj,A.heap[r]? = some o∧o.isWalk=true)→∀ r,row=some r→w.heap.size≤r∧∃ o:Obj,A.heap[r]? = some o∧o.isCells=false:=fun hr r e=>by
  obtain ⟨hB,o,ho,hw⟩:=hr r e
  exact ⟨by omega,o,ho,Obj.not_cells_of_walk hw⟩
 refine ⟨w.heap.size+1,[{ target := .collected w.heap.size,args := #[] }],W1,{ target := .fn (.func gf) lb,args := #[.func (.yield (w.heap.size+1)) #[] #[]] },W1,gf,
  #[.func (.yield (w.heap.size+1)) #[] #[]]++lb,W1,?_,?_,?_,?_,fun _=>h1,?_⟩
 ·rw [← hW1,hrc];exact run_enterLoop_outer _ _ _ _ _
 ·simp only [resolve,hg]
  simp [go_sem]
 ·intro f' hf';simp [Target.leads] at hf';subst hf';exact hFg
 ·simp [invoke,go_sem,eg]
 ·refine (hseq (w.heap.size+1) (fun pre W=>I pre W∧Bk .ready none W) (fun pre W=>∃ c,Ix c pre W∧Bk .done (some c) W) W1 hb1
   (fun s A B row hs hg' hr=>⟨hI s A B row hs.1 hg' (walkOwn hr),bkKeep hs.2 hg' fun r e=>(hr r e).2⟩)
   (fun s A B row hs hg' hr=>by
    obtain ⟨c,hc,hb⟩:=hs
    exact ⟨c,hIx c s A B row hc hg' (walkOwn hr),bkKeep hb hg' fun r e=>(hr r e).2⟩)
   ?_ ⟨hI1,hL1,hK1⟩).mono ?_
  ·-- a round
   rintro pre x V W ⟨hi,hbk⟩ hg' hR hlen
   have hbW:=bkKeep hbk hg' (fun r e=>by cases e)
   have hlt:w.heap.size+1<W.heap.size:=(Array.getElem?_eq_some_iff.1 hbW.1).1
   have hy:=run_yield (P:=P) (args:=encs x) hbW.1 (by rw [hrc];exact hps x)
   rw [hrc] at hy
   refine ⟨fn,_,assign,body,hy,roundIn_of_wpIn hfn (hassign _ pre x V W _ hi hg' hR ?_)⟩
   clear hy
   intro a' Wa hkf hax
   have hl:=hkf.same _ _ (by omega) hbW.1 rfl
   have hk:=hkf.same _ _ (Nat.le_refl _) hbW.2 rfl
   have hlta:w.heap.size+1<Wa.heap.size:=(Array.getElem?_eq_some_iff.1 hl).1
   refine ⟨_,run_beginRound hl (by rw [hrc]),?_⟩
   have hl2:(Wa.putObj (w.heap.size+1) (.loop { rc .ready none with state := .busy })).heap[w.heap.size+1]? = some (.loop { rc .ready none with state := .busy }):=World.putObj_heap_same hlta
   have hk2:(Wa.putObj (w.heap.size+1) (.loop { rc .ready none with state := .busy })).heap[w.heap.size]? = some (.deferred (some [])):=(World.putObj_heap_other (by omega)).trans hk
   refine wpIn_mono (hbody _ pre x a' V _ (by omega) ⟨_,hl2⟩ ((hAx pre x V a').putObj (s:=()) _ hax (by omega) hl rfl) hlen) ?_
   have fin:∀ (jump:Option Code) (W3:World),KeepsFrom w.heap.size (Wa.putObj (w.heap.size+1) (.loop { rc .ready none with state := .busy })) W3 →
     (Instr.endRound (w.heap.size+1) jump).run P W3 = .ok (.bool jump.isNone) (W3.putObj (w.heap.size+1) (.loop (rc (if jump.isNone then .ready else .done) jump))) ∧
     W3.heap[w.heap.size+1]? = some (.loop { rc .ready none with state := .busy })∧Bk (if jump.isNone then .ready else .done) jump (W3.putObj (w.heap.size+1) (.loop (rc (if jump.isNone then .ready else .done) jump))):=fun jump W3 hk3=>by
    have hl3:=hk3.same _ _ (by omega) hl2 rfl
    have hrun:=run_endRound (P:=P) jump hl3
    rw [hrc] at hrun
    refine ⟨by rw [hrc];exact hrun,hl3,?_⟩
    exact ⟨World.putObj_heap_same (Array.getElem?_eq_some_iff.1 hl3).1,(World.putObj_heap_other (by omega)).trans (hk3.same _ _ (Nat.le_refl _) hk2 rfl)⟩
   rintro e a3 W3 hp
   cases e with
   | normal =>
    obtain ⟨hk3,hkp3,hi3⟩:=hp
    obtain ⟨hr,hl3,hb4⟩:=fin none W3 hk3
    exact ⟨_,_,hr,.inl ⟨rfl,⟨hI.putObj _ hi3 (by omega) hl3 rfl,hb4⟩,hKt hkp3 (hKb _ _ _ _ (by omega) hl3 rfl rfl)⟩⟩
   | ret =>
    obtain ⟨hk3,hi3⟩:=hp
    obtain ⟨hr,hl3,hb4⟩:=fin (some .ret) W3 hk3
    exact ⟨_,_,hr,.inr ⟨rfl,.ret,(hIx _).putObj _ hi3 (by omega) hl3 rfl,hb4⟩⟩
   | exit id =>
    obtain ⟨hk3,hi3⟩:=hp
    obtain ⟨hr,hl3,hb4⟩:=fin (some (.exit id)) W3 hk3
    exact ⟨_,_,hr,.inr ⟨rfl,.exit id,(hIx _).putObj _ hi3 (by omega) hl3 rfl,hb4⟩⟩
   | goto t =>
    obtain ⟨hk3,hi3⟩:=hp
    obtain ⟨hr,hl3,hb4⟩:=fin (some (.goto t)) W3 hk3
    exact ⟨_,_,hr,.inr ⟨rfl,.goto t,(hIx _).putObj _ hi3 (by omega) hl3 rfl,hb4⟩⟩
   | panic ch=>exact hp.elim
   | outgrown=>exact hp.elim
  ·-- behind the iterator
   rintro e W2 ⟨⟨v,rfl⟩,(⟨xs,hS,hi,hb⟩ | ⟨pre,hSp,c,hi,hb⟩)⟩
   ·have:=run_endLoop (P:=P) hb.1 (by rw [hrc];simp)
    rw [hrc] at this
    exact ⟨none,_,this,hdone _ xs _ (Nat.le_refl _) hS (hI.putObj _ hi (by omega) hb.1 rfl) ((World.putObj_heap_other (by omega)).trans hb.2)⟩
   ·have:=run_endLoop (P:=P) hb.1 (by rw [hrc];simp)
    rw [hrc] at this
    exact ⟨some c,_,this,hstop _ c pre _ (Nat.le_refl _) hSp ((hIx c).putObj _ hi (by omega) hb.1 rfl) ((World.putObj_heap_other (by omega)).trans hb.2)⟩
end KV
end Go.Proofs
end
section
namespace Go.Proofs
open Go.RowKit
namespace KV
variable {P:Program} {C C0:Cx} {M M0:Mem} {w w0:World}
abbrev kZ(l:List Int):AO := .row 3 l.length (l.map aA)
def bCv(P:Program)(x:List Int × Value)(W0 W1:World):Prop:=x.1.length≤1000∧∃ C1:Cx,aV P C1 [some (kZ x.1)] W1∧Rep C1 [some (kZ x.1)] W1 (.own 0) x.2∧∀ b,C1.ι 0=some b→W0.heap.size≤b

theorem nH{W0 W1:World}(hg:W0.grownBy W1 none)(b:Nat)(hb:b<W0.heap.size):W1.heap[b]? = W0.heap[b]? := hg.block b hb (fun e=>by cases e)
theorem bCw{M':Mem}{W0 W1:World}{x:List Int × Value}(hM:aV P C M' W0)(hg:W0.grownBy W1 none)(hR:bCv P x W0 W1) :
  ∃ C2,aV P C2 (M'++[some (kZ x.1)]) W1∧Fr C M' W0 C2 (M'++[some (kZ x.1)]) W1∧Rep C2 (M'++[some (kZ x.1)]) W1 (.own M'.length) x.2:=by
 obtain ⟨_,C1,h1,h2,h3⟩:=hR
 let C2:Cx:={ ι:=fun i=>if i=M'.length then C1.ι 0 else C.ι i,κ:=fun i=>if i=M'.length then C1.κ 0 else C.κ i,F:=C.F }
 have old:∀ (i:Nat) (o:AO),M'[i]? = some (some o)→i<M'.length∧(M'++[some (kZ x.1)])[i]? = some (some o)∧C2.ι i=C.ι i∧C2.κ i=C.κ i:=fun i o h=>by
  have hl:=(List.getElem?_eq_some_iff.1 h).1
  refine ⟨hl,by rw [List.getElem?_append_left hl];exact h,if_neg (by omega),if_neg (by omega)⟩
 have cls:∀ (i:Nat) (o:AO),(M'++[some (kZ x.1)])[i]? = some (some o)→M'[i]? = some (some o)∨(i=M'.length∧o=kZ x.1):=fun i o h=>by
  rcases Nat.lt_or_ge i M'.length with hl | hl
  ·rw [List.getElem?_append_left hl] at h;exact .inl h
  ·rw [List.getElem?_append_right hl] at h
   cases hd:i-M'.length with
   | zero =>
    rw [hd] at h
    simp at h
    exact .inr ⟨by omega,h.symm⟩
   | succ j=>rw [hd] at h;simp at h
 have new:C2.ι M'.length=C1.ι 0∧C2.κ M'.length=C1.κ 0:=⟨if_pos rfl,if_pos rfl⟩
 have f:Fr C M' W0 C2 (M'++[some (kZ x.1)]) W1:=by
  refine ⟨hg.os,hg.tape,hg.output,hg.size,fun b hb _=>nH hg b hb,fun i o h => ?_,fun i o h ty n cs hm => ?_,fun i o h o' h' hl => ?_,fun i o b h hl hb => ?_,fun b h=>h,fun b h => .inl h⟩
  ·obtain ⟨_,q1,q2,q3⟩:=old i o h
   exact ⟨⟨o,q1⟩,q2,q3⟩
  ·rw [(old i o h).2.1] at hm;cases hm;exact ⟨cs,h⟩
  ·rw [(old i o h).2.1] at h';cases h';exact hl
  ·rcases cls i o h with q | ⟨rfl,rfl⟩
   ·rw [(old i o q).2.2.1] at hb;exact .inr ⟨i,o,q,hl,hb⟩
   ·rw [new.1] at hb;exact .inl (h3 b hb)
 have hL:=hM.le f
 have hr0:=h1.row 0 3 x.1.length (x.1.map aA) rfl
 refine ⟨C2,⟨fun i ty n cs hm => ?_,fun i ty cs hm => ?_,fun i es cl hm => ?_,fun i i' o1 o2 b q1 l1 q2 l2 e1 e2 => ?_,fun i o b hm hl hb => ?_,fun b hb=>Nat.lt_of_lt_of_le (hM.Fs b hb) hg.size,fun i o b hm hl hb => ?_⟩,f,?_⟩
 ·rcases cls i _ hm with q | ⟨rfl,q⟩
  ·obtain ⟨hlt,_,q2,q3⟩:=old i _ q
   rw [q2,q3]
   rcases hM.row _ _ _ _ q with h4 | ⟨b,arr,inf,p0,p1,p2,p3,p4,p5,p6,p7,p8⟩
   ·exact .inl h4
   ·exact .inr ⟨b,arr,inf,p0,by rw [nH hg b (hM.lt i _ b q rfl p0)];exact p1,p2,p3,p4,p5,p6,fun j hj=>(p7 j hj).mono hL.F hL.fz,p8⟩
  ·cases q
   rw [new.1,new.2]
   rcases hr0 with h4 | ⟨b,arr,inf,p0,p1,p2,p3,p4,p5,p6,p7,p8⟩
   ·exact .inl h4
   ·refine .inr ⟨b,arr,inf,p0,p1,p2,p3,p4,p5,p6,fun j hj => ?_,p8⟩
    have:=p7 j hj
    revert this
    rw [List.getElem_map]
    generalize arr.getD j undef=u
    intro h
    cases h
    exact .v _
 ·rcases cls i _ hm with q | ⟨rfl,q⟩
  ·obtain ⟨b,arr,p0,p1,p2,p3,p4⟩:=hM.box _ _ _ q
   exact ⟨b,arr,by rw [(old i _ q).2.2.1];exact p0,by rw [nH hg b (hM.lt i _ b q rfl p0)];exact p1,p2,fun j hj=>(p3 j hj).mono hL,p4⟩
  ·cases q
 ·rcases cls i _ hm with q | ⟨rfl,q⟩
  ·obtain ⟨b,arr,p0,p1,p2,p3⟩:=hM.mp _ _ _ q
   refine ⟨b,arr,by rw [(old i _ q).2.2.1];exact p0,by rw [nH hg b (hM.lt i _ b q rfl p0)];exact p1,p2,fun j hj => ?_⟩
   obtain ⟨en,r1,r2,r3,r4⟩:=p3 j hj
   exact ⟨en,r1,r2,r3,r4.mono hL.F hL.fz⟩
  ·cases q
 ·rcases cls i _ q1 with c1 | ⟨rfl,rfl⟩ <;> rcases cls i' _ q2 with c2 | ⟨rfl,rfl⟩
  ·rw [(old i _ c1).2.2.1] at e1
   rw [(old i' _ c2).2.2.1] at e2
   exact hM.inj _ _ _ _ _ c1 l1 c2 l2 e1 e2
  ·rw [(old i _ c1).2.2.1] at e1
   rw [new.1] at e2
   have:=hM.lt _ _ _ c1 l1 e1
   have:=h3 b e2
   omega
  ·rw [new.1] at e1
   rw [(old i' _ c2).2.2.1] at e2
   have:=hM.lt _ _ _ c2 l2 e2
   have:=h3 b e1
   omega
  ·rfl
 ·rcases cls i _ hm with c1 | ⟨rfl,rfl⟩
  ·rw [(old i _ c1).2.2.1] at hb
   exact hM.nF _ _ _ c1 hl hb
  ·rw [new.1] at hb
   intro hF
   have:=hM.Fs b hF
   have:=h3 b hb
   omega
 ·rcases cls i _ hm with c1 | ⟨rfl,rfl⟩
  ·rw [(old i _ c1).2.2.1] at hb
   exact Nat.lt_of_lt_of_le (hM.lt _ _ _ c1 hl hb) hg.size
  ·rw [new.1] at hb
   exact h1.lt 0 _ b rfl rfl hb
 ·cases h2 with
  | own _ _ q0 qa q =>
   refine .own _ _ q0 ⟨kZ x.1,by rw [List.getElem?_append_right (Nat.le_refl _),Nat.sub_self];rfl⟩ fun ty n cs hm => ?_
   rw [List.getElem?_append_right (Nat.le_refl _),Nat.sub_self] at hm
   rw [new.1,new.2]
   exact q ty n cs hm

theorem oE:∀ {m m':Mem},nmM m=true→nmM m'=true→nmM (m++m')=true
 | [],_,_,h=>h
 | none::r,m',h,h'=>by
  have:nmM (r++m')=true:=oE (m:=r) h h'
  exact this
 | some x::r,m',h,h'=>by
  cases x with
  | row ty n cs =>
   simp only [nmM,Bool.and_eq_true] at h
   show (jH cs && nmM (r++m'))=true
   rw [h.1,oE h.2 h'];rfl
  | box ty l =>
   simp only [nmM,Bool.and_eq_true] at h
   show (nmL l && nmM (r++m'))=true
   rw [h.1,oE h.2 h'];rfl
  | mp=>exact oE (m:=r) h h'
  | pk=>exact oE (m:=r) h h'
  | dead=>exact oE (m:=r) h h'
theorem jV:∀ {m m':Mem},fN m=true→fN m'=true→fN (m++m')=true
 | [],_,_,h=>h
 | none::r,m',h,h'=>jV (m:=r) h h'
 | some x::r,m',h,h'=>by
  cases x with
  | mp=>simp [fN] at h
  | pk=>simp [fN] at h
  | row=>exact jV (m:=r) h h'
  | box=>exact jV (m:=r) h h'
  | dead=>exact jV (m:=r) h h'

theorem bCx{M':Mem}{W W':World}{C1:Cx}{row:Option Nat}(hn:wL M')(hq:nmM M'=true)(hF:∀ b,C.F b→b<w.heap.size)(h1:aV P C1 M' W)(h2:Fr C M w C1 M' W)(hg:W.grownBy W' row)
  (hr:∀ r,row=some r→w.heap.size≤r∧∃ o:Obj,W.heap[r]? = some o∧o.isCells=false):∃ C',C'.ι=C1.ι∧C'.κ=C1.κ∧aV P C' M' W'∧Fr C M w C' M' W':=by
 let C':Cx:=⟨C1.ι,C1.κ,fun b=>C1.F b∧(b<w.heap.size∨kP W b),[]⟩
 have hM:aV P C' M' W:=by
  refine ⟨fun i ty n cs hm => ?_,fun i ty cs hm => ?_,fun i es cl hm=>absurd hm (hn.1 _ _ _),h1.inj,fun i o b ho hl hb hf=>h1.nF i o b ho hl hb hf.1,fun b hb=>h1.Fs b hb.1,h1.lt⟩
  ·rcases h1.row _ _ _ _ hm with h4 | ⟨b,arr,inf,q0,q1,q2,q3,q4,q5,q6,q7,q8⟩
   ·exact .inl h4
   ·exact .inr ⟨b,arr,inf,q0,q1,q2,q3,q4,q5,q6,fun j hj=>(q7 j hj).shrink (fun b hb hs=>⟨hb,.inr hs⟩) (oD ((zQ hq).1 _ _ _ _ hm) j hj),q8⟩
  ·obtain ⟨b,arr,q0,q1,q2,q3,q4⟩:=h1.box _ _ _ hm
   exact ⟨b,arr,q0,q1,q2,fun j hj=>(q3 j hj).shrink (fun b hb hs=>⟨hb,.inr hs⟩) (rZ ((zQ hq).2 _ _ _ hm) j hj),q4⟩
 have f:Fr C M w C' M' W:=⟨h2.os,h2.tape,h2.out,h2.size,h2.keep,h2.ids,h2.row,h2.liv,h2.new,fun b hb=>⟨h2.F1 b hb,.inl (hF b hb)⟩,fun b hb=>h2.F2 b hb.1⟩
 have hS:∀ b,C'.F b→b<w.heap.size∨kP W b:=fun b hb=>hb.2
 have hsame:∀ b,b<W.heap.size→(b<w.heap.size∨kP W b)→W'.heap[b]? = W.heap[b]? := fun b hb hd=>hg.block b hb (fun e=>by
  obtain ⟨q1,o,q2,q3⟩:=hr b e.symm
  rcases hd with hd | hd
  ·omega
  ·exact iY q2 q3 hd)
 have hFz:∀ b,C'.F b→W'.heap[b]? = W.heap[b]? := fun b hb=>hsame b (hM.Fs b hb) (hS b hb)
 have hL:Le C' C' M' M' W W':=⟨fun _ o h=>⟨o,h⟩,fun _ _ _ _ _ cs h=>⟨cs,h⟩,fun _ o h o' h' hl=>by rw [h] at h';cases h';exact ⟨hl,rfl,rfl⟩,fun _ h=>h,hFz⟩
 refine ⟨C',rfl,rfl,⟨fun i ty n cs hm => ?_,fun i ty cs hm => ?_,fun i es cl hm=>absurd hm (hn.1 _ _ _),hM.inj,hM.nF,fun b hb=>Nat.lt_of_lt_of_le (hM.Fs b hb) hg.size,fun i o b ho hl hb=>Nat.lt_of_lt_of_le (hM.lt i o b ho hl hb) hg.size⟩,
  ⟨hg.os.trans f.os,hg.tape.trans f.tape,hg.output.trans f.out,Nat.le_trans f.size hg.size,fun b hb hno=>(hsame b (Nat.lt_of_lt_of_le hb f.size) (.inl hb)).trans (f.keep b hb hno),f.ids,f.row,f.liv,f.new,f.F1,f.F2⟩⟩
 ·rcases hM.row _ _ _ _ hm with h4 | ⟨b,arr,inf,q0,q1,q2,q3,q4,q5,q6,q7,q8⟩
  ·exact .inl h4
  ·exact .inr ⟨b,arr,inf,q0,(hsame b (Array.getElem?_eq_some_iff.1 q1).1 (.inr (eZ q1))).trans q1,q2,q3,q4,q5,q6,fun j hj=>(q7 j hj).mono hL.F hL.fz,q8⟩
 ·obtain ⟨b,arr,q0,q1,q2,q3,q4⟩:=hM.box _ _ _ hm
  exact ⟨b,arr,q0,(hsame b (Array.getElem?_eq_some_iff.1 q1).1 (.inr (eZ q1))).trans q1,q2,fun j hj=>(q3 j hj).mono hL,q4⟩
theorem aMu{C1 C':Cx}{M':Mem}{W W':World}{i:Nat}{u:Value}(h:Rep C1 M' W (.own i) u)(e1:C'.ι=C1.ι)(e2:C'.κ=C1.κ):Rep C' M' W' (.own i) u:=by
 cases h with
 | own _ _ q0 qa q=>exact .own _ _ q0 qa fun ty n cs hm=>by rw [e1,e2];exact q ty n cs hm

def bKm(P:Program)(g:AV)(gf N:Nat)(xs:List (List Int)):Prop:=∀ (C:Cx) (M:Mem) (w:World) (u:Value),Rep C M w g u→(∀ b,C.F b→b<w.heap.size) →
 ∃ lb,u = .func (.func gf) #[] lb∧aDe Fence.wide 2 P gf lb (fun x:List Int × Value => #[x.2]) (bCv P) (KpG C.F) (fun ys=>ys.map (·.1)=xs) (fun ys=>ys.map (·.1) <+: xs) N w

def rfO(st:St)(p1 d:Nat)(l:List Int):St:=⟨put (put st.t (some p1) (.own st.m.length)) (some d) (.own st.m.length),st.m++[some (kZ l)]⟩

section
variable {k kb gi gf p1 d id ty:Nat} {pos:String} {body:Code} {g:AV} {N:Nat} {xs:List (List Int)}
theorem aDd(st0:St)(S:List (List Int)→St)(E ER:List (List Int)→List Int→St)(T:List AV)(MR:Mem)(p:List (List Int)→List Int→Bool){cc:Code}(hcc:cc = .rangeFunc (.tmp gi) #[p1] (.region id #[{ dst:=some d,op := .assign (.tmp p1),type:=ty,pos:=pos,after := #[],guard:=none }] false) body)
  (hT0:st0.t=T) (hT:∀ pre,(S pre).t=T) (hg:T[gi]? = some g) (hit:bKm P g gf N xs) (eg:∀ args w,(callFunc gf args).run P w = .ok (.enter gf args) w)
  (hmp:∀ pre,fN (S pre).m=true) (hq:∀ pre,nmM (S pre).m=true) (hmE:∀ pre l,fN (E pre l).m=true) (hmER:∀ pre l,fN (ER pre l).m=true) (hmR:fN MR=true) (hqR:nmM MR=true) (hlen:∀ pre,(S pre).m.length<kb) (hnrf:nrf body=true)
  (hp:∀ (x:AV),(put T (some p1) x)[p1]? = some x) {kk:Nat} {g0 g1 gR:Gh} (hkk:st0.m.length≤kk) (h0m:fN st0.m=true) (hg0:gh kk g0 st0=some (S [])) (hgh:∀ pre l,gh kk g1 (E pre l)=some ⟨(E pre l).t,(S (pre++[l])).m⟩) (hgR:∀ pre l,p pre l=true→gh kk gR (ER pre l)=some ⟨(ER pre l).t,MR⟩)
  (hbody:∀ pre l,pre.length<N→l.length≤1000→(p pre l=false→aC P kb body (rfO (S pre) p1 d l) .normal (E pre l))∧(p pre l=true→aC P kb body (rfO (S pre) p1 d l) .ret (ER pre l))) :
  ((∀ pre l,pre++[l] <+: xs→p pre l=false)→aC P k cc st0 .normal (S xs)) ∧
  ((∃ pre l,pre++[l] <+: xs∧p pre l=true)→aC P k cc st0 .ret ⟨T,MR⟩):=by
 have hmp':∀ pre,wL (S pre).m:=fun pre=>eE (hmp pre)
 have hmR':wL MR:=eE hmR
 have main:∀ (Qf:Ex→St→Prop),((∀ pre l,pre++[l] <+: xs→p pre l=false)→Qf .normal (S xs))→((∃ pre l,pre++[l] <+: xs∧p pre l=true)→Qf .ret ⟨T,MR⟩) →
   ∀ (C0:Cx) (M0:Mem) (w0:World) (a:Act) (w:World),M0.length≤k→Sim P C0 M0 w0 st0 a w→∀ (ro:Option Nat),kI ro cc→∀ (n:Nat),cc.wpIn (Fen ro) n P (fun e' a' w'=>∃ e st',Qf e st'∧e'=e.toExit∧Sim P C0 M0 w0 st' a' w') a w:=by
  intro Qf hQ1 hQ2 C0 M0 w0 a w hk hs ro hro n
  subst hcc
  have hro':ro=none:=hro.resolve_right (by simp [nrf])
  subst hro'
  refine zR (n:=3) ?_
  obtain ⟨C,hSl,hM,hF,hD⟩:=hs
  have hini:aVe P C st0.m w (S []).m w:=by
   obtain ⟨C1,_,h1,h2,_⟩:=eO hkk hg0 (show Sim P (C.with []) st0.m w st0 { a with defers:=[] } w from ⟨C,hSl,hM,(Fr.refl _ _ _).based [],.nil rfl (eE h0m).2⟩)
   exact ⟨C1,h1,h2.unbased⟩
  rw [hT0] at hSl
  obtain ⟨lb,hu,hseq⟩:=hit C st0.m w _ (hSl.at hg) hM.Fs
  have actOf:∀ x:List Int × Value,Act:=fun x=>({ tmps:=a.tmps.setIfInBounds p1 x.2,defers:=[] }:Act).put (some d) (({ tmps:=a.tmps.setIfInBounds p1 x.2,defers:=[] }:Act).eval (.tmp p1))
  refine qR (F:=Fen none) (n:=3) rfl (by omega) (gf:=gf) (lb:=lb) hu trivial eg hseq (fun h k=>h.trans k)
   (fun W l o o' hl h1 h2 h3=>⟨by simp,fun b hb=>(grownBy_putObj' W l o').block b (Nat.lt_of_lt_of_le (hM.Fs b hb) (Nat.le_trans hl (Nat.le_of_lt (Array.getElem?_eq_some_iff.1 h1).1))) (fun e=>by cases e;have:=hM.Fs _ hb;omega)⟩)
   (Below.refl _ _) (fun _=>rfl)
   (fun pre W=>aVe P C st0.m w (S (pre.map (·.1))).m W∧∀ q l,q++[l] <+: pre.map (·.1)→p q l=false)
   (fun c pre W=>c = .ret∧aVe P C st0.m w MR W∧∃ q l,q++[l]=pre.map (·.1)∧p q l=true)
   (fun pre X Y row hs hg hr=>⟨hs.1.own (hmp' _) (hq _) hM.Fs hg hr,hs.2⟩) (fun c pre X Y row hs hg hr=>⟨hs.1,hs.2.1.own hmR' hqR hM.Fs hg hr,hs.2.2⟩)
   ⟨hini,fun q l h=>by simp at h⟩
   (fun pre x V a' W=>a'=({ tmps:=a.tmps.setIfInBounds p1 x.2,defers:=[] }:Act).put (some d) (({ tmps:=a.tmps.setIfInBounds p1 x.2,defers:=[] }:Act).eval (.tmp p1)) ∧
    (∃ C2,aV P C2 ((S (pre.map (·.1))).m++[some (kZ x.1)]) W∧Fr C st0.m w C2 ((S (pre.map (·.1))).m++[some (kZ x.1)]) W∧Rep C2 ((S (pre.map (·.1))).m++[some (kZ x.1)]) W (.own (S (pre.map (·.1))).m.length) x.2) ∧
    KpG C.F V W∧x.1.length≤1000∧∀ q l,q++[l] <+: pre.map (·.1)→p q l=false)
   (fun pre x V a' s X Y row hs hg hr=>by
    obtain ⟨e1,⟨C2,q1,q2,q3⟩,e3,e4,e5⟩:=hs
    have hnr:nmM [some (kZ x.1)]=true:=by
     show (jH (x.1.map aA) && nmM [])=true
     rw [zP aA (fun _=>rfl)];rfl
    obtain ⟨C',i1,i2,i3,i4⟩:=bCx (eE (jV (hmp _) (by rfl))) (oE (hq _) hnr) hM.Fs q1 q2 hg hr
    refine ⟨e1,⟨C',i3,i4,aMu q3 i1 i2⟩,⟨Nat.le_trans e3.size hg.size,fun b hb => ?_⟩,e4,e5⟩
    refine (hg.block b (Nat.lt_of_lt_of_le (hM.Fs b hb) q2.size) (fun e => ?_)).trans (e3.same b hb)
    have:=(hr b e.symm).1
    have:=hM.Fs b hb
    omega)
   ?assign ?body ?done ?stop
  case assign =>
   intro l pre x V W K hI hg' hR hK
   obtain ⟨⟨C',hM',hF'⟩,hpre⟩:=hI
   obtain ⟨C2,j1,j2,j3⟩:=bCw hM' hg' hR
   have hz:(#[p1].zip #[x.2]).foldl (fun t (y:Nat × Value)=>t.setIfInBounds y.1 y.2) a.tmps=a.tmps.setIfInBounds p1 x.2:=by simp
   rw [hz]
   refine wpIn_region_lit (wpListIn_plain rfl fun K' hK' => ?_)
   unfold Oper.wpIn
   refine ⟨fun f _=>trivial,?_⟩
   rw [Oper.semAt_plain _ _ _ (by intro c hc';cases hc')]
   simp only [execOp,Sem.run_pure]
   exact hK' _ _ (wpListIn_nil (hK _ _ (KeepsFrom.refl _ _) ⟨rfl,⟨C2,j1,hF'.trans j2,j3⟩,⟨hg'.size,fun b hb=>nH hg' b (Nat.lt_of_lt_of_le (hM.Fs b hb) hF'.size)⟩,hR.1,hpre⟩))
  case body =>
   rintro l pre x a' V W hl _ ⟨rfl,⟨C2,hM2,hF2,hr2⟩,hK2,hxl,hpre⟩ hlt
   have hpl:(pre.map (·.1)).length<N:=by simpa using hlt
   have hSW:eH C2 ((S (pre.map (·.1))).m++[some (kZ x.1)]) W T a.tmps:=hSl.le (hM.le hF2)
   have s1:eH C2 ((S (pre.map (·.1))).m++[some (kZ x.1)]) W (put T (some p1) (.own (S (pre.map (·.1))).m.length)) (({ tmps:=a.tmps,defers:=[] }:Act).put (some p1) x.2).tmps :=
    eH.put (a:={ tmps:=a.tmps,defers:=[] }) hSW hr2
   have s2:eH C2 ((S (pre.map (·.1))).m++[some (kZ x.1)]) W (put (put T (some p1) (.own (S (pre.map (·.1))).m.length)) (some d) (.own (S (pre.map (·.1))).m.length)) (({ tmps:=a.tmps.setIfInBounds p1 x.2,defers:=[] }:Act).put (some d) (({ tmps:=a.tmps.setIfInBounds p1 x.2,defers:=[] }:Act).eval (.tmp p1))).tmps :=
    eH.put s1 (s1.at (hp _))
   have hnr:fN ((S (pre.map (·.1))).m++[some (kZ x.1)])=true:=jV (hmp _) (by rfl)
   have hsim:Sim P (C2.with []) ((S (pre.map (·.1))).m++[some (kZ x.1)]) W (rfO (S (pre.map (·.1))) p1 d x.1) (({ tmps:=a.tmps.setIfInBounds p1 x.2,defers:=[] }:Act).put (some d) (({ tmps:=a.tmps.setIfInBounds p1 x.2,defers:=[] }:Act).eval (.tmp p1))) W:=by
    refine ⟨C2,?_,hM2,(Fr.refl _ _ _).based [],.nil rfl (eE hnr).2⟩
    unfold rfO
    rw [hT];exact s2
   have hkl:((S (pre.map (·.1))).m++[some (kZ x.1)]).length≤kb:=by
    rw [List.length_append];exact hlen _
   have keepO:∀ {M2:Mem} {W2:World} {C3:Cx},Fr C2 ((S (pre.map (·.1))).m++[some (kZ x.1)]) W C3 M2 W2→KeepsFrom w.heap.size W W2∧KpG C.F V W2:=fun f3 =>
    ⟨⟨f3.size,fun b o _ hb ho=>(f3.keep b (Array.getElem?_eq_some_iff.1 hb).1 (aEt hM2 (eE hnr) hb ho)).trans hb⟩,
     hK2.trans ⟨f3.size,fun b hb=>f3.keep b (Nat.lt_of_lt_of_le (hM.Fs b hb) hF2.size) (fun id o ho hl he=>hM2.nF id o b ho hl he (hF2.F1 b hb))⟩⟩
   have hmapp:(pre++[x]).map (·.1)=pre.map (·.1)++[x.1]:=by simp
   cases hpx:p (pre.map (·.1)) x.1 with
   | false =>
    refine wpIn_mono ((hbody _ x.1 hpl hxl).1 hpx (C2.with []) _ W _ W hkl hsim (some l) (.inr hnrf) 1) ?_
    rintro e a2 W2 ⟨rfl,C3,hS3,hM3,hF3,_⟩
    have hF3:=hF3.unbased
    obtain ⟨k1,k2⟩:=keepO hF3
    have hsim3:Sim P (C.with []) st0.m w (E (pre.map (·.1)) x.1) { a2 with defers:=[] } W2 :=
     ⟨C3,hS3,hM3,(hF2.trans hF3).based [],.nil rfl (eE (hmE _ _)).2⟩
    obtain ⟨C4,_,hM4,hF4,_⟩:=eO hkk (hgh _ _) hsim3
    refine ⟨k1,k2,⟨C4,?_,?_⟩,fun q l h => ?_⟩
    ·rw [hmapp];exact hM4
    ·rw [hmapp];exact hF4.unbased
    ·rw [hmapp] at h
     rcases List.prefix_concat_iff.1 h with h | h
     ·obtain ⟨e1,e2⟩:=List.append_inj' h rfl
      cases e2
      rw [e1];exact hpx
     ·exact hpre q l h
   | true =>
    have hc:=(hbody _ x.1 hpl hxl).2 hpx
    refine wpIn_mono (hc (C2.with []) _ W _ W hkl hsim (some l) (.inr hnrf) 1) ?_
    rintro e a2 W2 ⟨rfl,C3,hS3,hM3,hF3,_⟩
    have hF3:=hF3.unbased
    obtain ⟨k1,k2⟩:=keepO hF3
    have hsim3:Sim P (C.with []) st0.m w (ER (pre.map (·.1)) x.1) { a2 with defers:=[] } W2 :=
     ⟨C3,hS3,hM3,(hF2.trans hF3).based [],.nil rfl (eE (hmER _ _)).2⟩
    obtain ⟨C4,_,hM4,hF4,_⟩:=eO hkk (hgR _ _ hpx) hsim3
    exact ⟨k1,rfl,⟨C4,hM4,hF4.unbased⟩,_,_,hmapp.symm,hpx⟩
  case done =>
   intro D ys W hD' hSx hI hDm
   obtain ⟨⟨C1,h1,h2⟩,hpre⟩:=hI
   rw [hSx] at h1 h2 hpre
   refine ⟨.normal,S xs,hQ1 hpre,rfl,?_⟩
   have hnm:wL (S xs).m:=hmp' xs
   obtain ⟨C',hM',f,hSo⟩:=sA hnm (hq xs) hM.Fs h1 h2
   refine ⟨C',by rw [hT];exact hSl.le (hM.le f),hM',hF.trans f,?_⟩
   obtain ⟨⟨l,e1,e2,e3⟩,hR⟩:=hD.fr hM (fun i to ti sz L h=>by have:=hnm.2 _ _ h;cases this) f
   obtain ⟨⟨l',e1',_,e3'⟩,_⟩:=hD
   have hll:l=l':=by
    have:=e1.symm.trans e1'
    exact (List.map_inj_right (fun x y h=>by simpa [mark] using h)).1 this
   refine ⟨⟨D::l,by rw [e1];rfl,List.nodup_cons.2 ⟨fun hin => ?_,e2⟩,fun D' hD2 => ?_⟩,hR⟩
   ·rw [hll] at hin
    have:=(Array.getElem?_eq_some_iff.1 (e3' D hin).1).1
    omega
   ·rcases List.mem_cons.1 hD2 with rfl | hin
    ·refine ⟨hDm,Nat.le_trans hF.size hD',fun hf => ?_⟩
     rcases hSo _ hf with h | h
     ·omega
     ·exact iY hDm rfl h
    ·exact e3 D' hin
  case stop =>
   rintro D c pre W hD' hSp ⟨rfl,⟨C1,h1,h2⟩,q,l0,hql,hpq⟩ hDm
   refine wpIn_ret ?_
   refine ⟨.ret,⟨T,MR⟩,hQ2 ⟨q,l0,by rw [hql];exact hSp,hpq⟩,rfl,?_⟩
   obtain ⟨C',hM',f,hSo⟩:=sA hmR' hqR hM.Fs h1 h2
   refine ⟨C',hSl.le (hM.le f),hM',hF.trans f,?_⟩
   obtain ⟨⟨l,e1,e2,e3⟩,hR⟩:=hD.fr hM (fun i to ti sz L h=>by have:=hmR'.2 _ _ h;cases this) f
   obtain ⟨⟨l',e1',_,e3'⟩,_⟩:=hD
   have hll:l=l':=by
    have:=e1.symm.trans e1'
    exact (List.map_inj_right (fun x y h=>by simpa [mark] using h)).1 this
   refine ⟨⟨D::l,by rw [e1];rfl,List.nodup_cons.2 ⟨fun hin => ?_,e2⟩,fun D' hD2 => ?_⟩,hR⟩
   ·rw [hll] at hin
    have:=(Array.getElem?_eq_some_iff.1 (e3' D hin).1).1
    omega
   ·rcases List.mem_cons.1 hD2 with rfl | hin
    ·refine ⟨hDm,Nat.le_trans hF.size hD',fun hf => ?_⟩
     rcases hSo _ hf with h | h
     ·omega
     ·exact iY hDm rfl h
    ·exact e3 D' hin
 refine ⟨fun hall => ?_,fun hex => ?_⟩
 ·intro C0 M0 w0 a w hk hs ro hro n
  refine wpIn_mono (main (fun e st'=>e = .normal∧st'=S xs) (fun _=>⟨rfl,rfl⟩) (fun ⟨q,l,h1,h2⟩=>by rw [hall q l h1] at h2;cases h2) C0 M0 w0 a w hk hs ro hro n) ?_
  rintro e' a' w' ⟨e,st',⟨rfl,rfl⟩,h1,h2⟩
  exact ⟨h1,h2⟩
 ·intro C0 M0 w0 a w hk hs ro hro n
  refine wpIn_mono (main (fun e st'=>e = .ret∧st'=⟨T,MR⟩) (fun hall=>by obtain ⟨q,l,h1,h2⟩:=hex;rw [hall q l h1] at h2;cases h2) (fun _=>⟨rfl,rfl⟩) C0 M0 w0 a w hk hs ro hro n) ?_
  rintro e' a' w' ⟨e,st',⟨rfl,rfl⟩,h1,h2⟩
  exact ⟨h1,h2⟩
end
end KV
end Go.Proofs
end
section
namespace Go.Proofs
open Go.RowKit
namespace KV
variable {P:Program} {T:TT} {E:Env} {C C0:Cx} {M M0:Mem} {w w0:World}
def bUc(P:Program)(ops:Array Oper)(o:Oper)(st st':St):Prop:=∀ (C0:Cx) (M0:Mem) (w0:World) (a:Act) (w:World),Sim P C0 M0 w0 st a w→∀ (ro:Option Nat) (n:Nat) (K:Act→World→Prop) (Q:Exit→Act→World→Prop),
 (∀ a' w',(∃ v,a'=a.put o.dst v)→Sim P C0 M0 w0 st' a' w'→K a' w')→if Region.wanted o (yielded ops a.tmps) then o.wpIn (Fen ro) n P a w K Q else (∀ f,o.about P w a.eval=some f→(Fen ro).fn f)∧K (a.put o.dst undef) w
theorem aXb(hT:∀ t i,T t=some i→cM P t=some i)(hE:kL P E){ops:List Oper}{o:Oper}{id:Nat}{st st':St}{s s':AS}(h:nL P T E ops o id st s=some (st',s'))(g:bL s'):bUc P ops.toArray o st st':=by
 intro C0 M0 w0 a w hsim ro n K Q hK
 obtain ⟨C,hS,hM,hF,hD⟩:=hsim
 unfold nL at h
 obtain ⟨go,s1,h1,k1⟩:=aD h
 cases go with
 | true =>
  obtain ⟨vs,s2,h2,k2⟩:=aD k1
  obtain ⟨e2,rfl⟩:=aG h2
  obtain ⟨⟨x,L⟩,s3,h3,k3⟩:=aD k2
  obtain ⟨rfl,rfl⟩:=aM k3
  have gd:=nK.good h3 g
  rw [lW hS h1 gd,if_pos rfl]
  refine ⟨fun f _=>trivial,?_⟩
  rw [Oper.semAt_eq _ _ _ (vY h3)]
  rcases qG h3 with ⟨q,_,_,h4⟩ | ⟨h4,hno⟩
  ·obtain ⟨_,hup⟩:=vZ hT hE hS hM hF hD (pB hS _ _ e2) h4 g
   revert hup
   generalize (execOp a.eval o).run P w=r
   intro hup
   cases r with
   | halt x w'=>exact hup.elim
   | ok nx w' =>
    cases nx with
    | value u=>exact hK _ _ ⟨_,rfl⟩ hup
    | skip=>exact hK _ _ ⟨_,rfl⟩ (hup _)
    | enter f us =>
     obtain ⟨rfl,hc⟩:=hup
     refine ⟨fun h=>by simp [Fen,Fence.wide] at h,(qF (hc (n-1))).mono ?_⟩
     rintro e w'' ⟨u,rfl,hs⟩
     exact hK _ _ ⟨_,rfl⟩ hs
    | _=>exact hup.elim
  ·obtain ⟨_,hup⟩:=yP hT hE hM (pB hS _ _ e2) h4 g
   have hk:jO st.m (upds st.m L):=pA hno
   revert hup
   generalize (execOp a.eval o).run P w=r
   intro hup
   cases r with
   | halt x w'=>exact hup.elim
   | ok nx w' =>
    cases nx with
    | value u =>
     obtain ⟨C',f,m,r⟩:=hup
     exact hK _ _ ⟨_,rfl⟩ (lX hS hM hF hD f hk m r)
    | skip =>
     obtain ⟨rfl,C',f,m⟩:=hup
     exact hK _ _ ⟨_,rfl⟩ (lX hS hM hF hD f hk m (.any _))
    | enter f us =>
     obtain ⟨rfl,hc⟩:=hup
     refine ⟨fun h=>by simp [Fen,Fence.wide] at h,(qF (hc (n-1))).mono ?_⟩
     rintro e w'' ⟨u,rfl,C',f,m,r⟩
     exact hK _ _ ⟨_,rfl⟩ (lX hS hM hF hD f hk m r)
    | _=>exact hup.elim
 | false =>
  obtain ⟨rfl,rfl⟩:=aM k1
  rw [lW hS h1 g]
  simp only [Bool.false_eq_true,if_false]
  exact ⟨fun f _=>trivial,hK _ _ ⟨_,rfl⟩ (lX hS hM hF hD (Fr.refl ..) .refl hM (.tup [] #[] rfl (fun i h=>by simp at h)))⟩
theorem nG{a:Act}{d:Option Nat}{v:Value}{i:Nat}(h:d≠some i):(a.put d v).tmps.getD i undef=a.tmps.getD i undef:=by
 cases d with
 | none=>rfl
 | some j =>
  have hne:j≠i:=fun e=>h (by rw [e])
  show (a.tmps.setIfInBounds j v).getD i undef=_
  simp [Array.getD_eq_getD_getElem?,Array.getElem?_setIfInBounds_ne hne]
theorem aDc(hT:∀ t i,T t=some i→cM P t=some i)(hE:kL P E){ops:List Oper}:∀ (l:List Oper) (k:Nat) {st st':St} {s s':AS},(∀ j,l[j]? = ops[k+j]?)→aSb P T E ops l st s=some (st',s')→bL s' →
  ∀ (C0:Cx) (M0:Mem) (w0:World) (a:Act) (w:World),Sim P C0 M0 w0 st a w→∀ (ro:Option Nat) (n:Nat) (Q:Exit→Act→World→Prop),(∀ a' w',((∀ i,(∀ o∈l,o.dst≠some i)→a'.tmps.getD i undef=a.tmps.getD i undef)∧a'.defers=a.defers)→Sim P C0 M0 w0 st' a' w'→Q .normal a' w')→wpOpsIn (Fen ro) n P ops.toArray Q ((List.range l.length).map (k + ·)) a w
 | [],k,st,st',s,s',_,h,g,C0,M0,w0,a,w,hs,ro,n,Q,hQ=>by
  obtain ⟨rfl,rfl⟩:=aM h
  exact hQ _ _ ⟨fun _ _=>rfl,rfl⟩ hs
 | o::l,k,st,st',s,s',hl,h,g,C0,M0,w0,a,w,hs,ro,n,Q,hQ=>by
  obtain ⟨st1,s1,h1,k1⟩:=aD h
  have h0:ops[k]? = some o:=by simpa using (hl 0).symm
  have ih:=fun a1 w1=>aDc hT hE l (k+1) (fun j=>by have:=hl (j+1);simpa [Nat.add_assoc,Nat.add_comm 1 j] using this) k1 g C0 M0 w0 a1 w1
  have hst:=aXb hT hE h1 (qH.good k1 g) C0 M0 w0 a w hs ro n (wpOpsIn (Fen ro) n P ops.toArray Q ((List.range l.length).map (k+1 + ·))) Q (fun a1 w1 hv hs1=>ih a1 w1 hs1 ro n Q fun a' w' hk hs'=>hQ a' w' ⟨fun i hi=>by
   obtain ⟨v,rfl⟩:=hv
   rw [hk.1 i fun o' ho'=>hi o' (List.mem_cons_of_mem _ ho'),nG (hi o (List.mem_cons_self ..))],by
   obtain ⟨v,rfl⟩:=hv
   rw [hk.2];cases o.dst <;> rfl⟩ hs')
  rw [List.length_cons,List.range_succ_eq_map,List.map_cons,List.map_map]
  have hm:(List.range l.length).map ((k + ·) ∘ Nat.succ)=(List.range l.length).map (k+1 + ·):=by
   apply List.map_congr_left;intro x _;simp only [Function.comp];omega
  rw [hm,Nat.add_zero,wpOpsIn_cons]
  unfold wpOpIn
  simp only [List.getElem?_toArray,h0]
  exact hst
def wrR(c:Code)(i:Nat):Bool:=match c with
 | .region _ ops _=>ops.toList.any fun o=>match o.dst with
  | some j=>Nat.beq j i
  | none=>false
 | _=>true
def eF(P:Program)(k:Nat)(c:Code)(st:St)(e:Ex)(st':St):Prop:=∀ (C0:Cx) (M0:Mem) (w0:World) (a:Act) (w:World),M0.length≤k→Sim P C0 M0 w0 st a w→∀ (ro:Option Nat) (n:Nat),c.wpIn (Fen ro) n P (fun e' a' w'=>e'=e.toExit∧Sim P C0 M0 w0 st' a' w'∧(∀ i,wrR c i=false→a'.tmps.getD i undef=a.tmps.getD i undef)∧a'.defers=a.defers) a w
noncomputable def bKk(c:Code)(st:St):Ask (Ex × St):=match c with
 | .region _ ops false=>do
  let st' ← aSb Tryz.prog tT EO ops.toList ops.toList st
  pure (.normal,st')
 | _=>fail
theorem eF.fin{k:Nat}{c:Code}{st st':St}{e:Ex}{g:Gh}{o:List OI}{l:List Prop}(h:aHt k g (bKk c st (asg o))=some (e,st',l,[]))(gd:bL (out l)):eF Tryz.prog k c st e st':=by
 unfold aHt at h
 split at h
 ·rename_i e1 st1 s hr
  split at h
  ·rename_i st2 hg
   simp only [Option.some.injEq,Prod.mk.injEq] at h
   obtain ⟨rfl,rfl,rfl,hs⟩:=h
   unfold bKk at hr
   split at hr
   ·rename_i id ops
    obtain ⟨st3,s1,h1,k1⟩:=aD hr
    obtain ⟨he,rfl⟩:=aM k1
    cases he
    intro C0 M0 w0 a w hk hsm ro n
    refine wpIn_region ?_
    have:=aDc aCg aCf ops.toList 0 (fun j=>by simp) h1 (fun p hp=>gd p hp) C0 M0 w0 a w hsm ro n (fun e' a' w'=>e'=Ex.normal.toExit∧Sim Tryz.prog C0 M0 w0 st2 a' w'∧(∀ i,wrR (.region id ops false) i=false→a'.tmps.getD i undef=a.tmps.getD i undef)∧a'.defers=a.defers) (fun a' w' hkp h'=>⟨rfl,eO hk hg h',fun i hi=>hkp.1 i fun o ho e=>by
     unfold wrR at hi
     have:=List.any_eq_false.1 hi o ho
     rw [e] at this
     exact this (Nat.beq_refl i),hkp.2⟩)
    simpa using this
   ·cases hr
  ·cases h
 ·cases h
end KV
end Go.Proofs
end
namespace Go.Proofs
namespace KV
section

abbrev dN(x:List Int):Int:=x.getD 0 0
abbrev dK(x:List Int):Int:=x.getD 1 0
abbrev dMi(x:List Int):Int:=x.getD 2 0
abbrev dB(x:List Int):Int:=x.getD 3 0
abbrev dMu(x:List Int):Int:=x.getD 4 0
abbrev dAb(x:List Int):Int:=x.getD 5 0
def gC(k:Int):Bool:=k == 4 || k == 7
def cW(k:Int):Bool:=k == 8 || k == 9

def cA(dc:List (List Int))(n:Int):List (List Int):=dc.reverse.filter fun x=>dAb x == n

structure DS where
 x:List Int
 cnt:Bool
 upd:Bool
 rul:Option (List Int)
 chg:Option (List Int)
 much:Int

def mP(t:List DS)(n:Int):List DS:=t.reverse.filter fun s=>dAb s.x == n
def mF(dl:Int)(x:List Int):Bool:=gC (dK x) && decide (dl<dMi x)
def tV(x:List Int)(y:List Int):Bool:=dK y == 5 || (dK y == 7 && !cW (dK x))
def bDy(x:List Int)(s:DS):Bool:=tV x s.x && s.cnt && (dK s.x == 5 || s.upd)
def mkS(dl:Int)(oc:List Int)(x:List Int)(t:List DS):DS :=
 ⟨x,!mF dl x && !((mP t (dN x)).any (bDy x)),
  match (mP t (dN x)).find? fun s=>cW (dK s.x) && s.cnt with
   | some s=>dK s.x == 8
   | none=>oc.contains (dN x),
  ((mP t (dN x)).find? fun s=>cW (dK s.x) && s.cnt).map (·.x),
  ((mP t (dN x)).find? fun s=>dK s.x == 6 && s.cnt).map (·.x),
  match (mP t (dN x)).find? fun s=>dK s.x == 6 && s.cnt with
   | some s=>s.much
   | none=>dMu x⟩
def kG(dl:Int)(oc:List Int):List (List Int)→List DS
 | []=>[]
 | x::r=>mkS dl oc x (kG dl oc r)::kG dl oc r

theorem bDz(dl:Int)(oc:List Int):∀ dc:List (List Int),(kG dl oc dc).map (·.x)=dc
 | []=>rfl
 | x::r=>by rw [kG,List.map_cons,bDz dl oc r];rfl
theorem bJl(dl:Int)(oc:List Int)(dc:List (List Int))(n:Int):(mP (kG dl oc dc) n).map (·.x)=cA dc n:=by
 unfold mP cA
 conv=>rhs;rw [← bDz dl oc dc]
 rw [← List.map_reverse,List.filter_map]
 rfl

structure cH (dc:List (List Int)):Prop where
 ud:uni 6 dc
 len:dc.length≤1000
 rng:∀ x∈dc,dcB x=true
 up:dc.Pairwise fun a b=>dN a<dN b
 ord:∀ x∈dc,orB x=true

theorem cH.tail{x:List Int}{r:List (List Int)}(h:cH (x::r)):cH r :=
 ⟨fun y hy=>h.ud y (List.mem_cons_of_mem _ hy),by have:=h.len;simp at this;omega,fun y hy=>h.rng y (List.mem_cons_of_mem _ hy),(List.pairwise_cons.1 h.up).2,fun y hy=>h.ord y (List.mem_cons_of_mem _ hy)⟩
theorem aNm{a r:List (List Int)}{x:List Int}(h:cH (a++x::r)):cA (a++x::r) (dN x)=cA r (dN x):=by
 unfold cA
 have e:a++x::r=(a++[x])++r:=by simp
 rw [e,List.reverse_append,List.filter_append]
 have:(a++[x]).reverse.filter (fun y=>dAb y == dN x)=[]:=by
  rw [List.filter_eq_nil_iff]
  intro y hy
  have hy:y∈a++[x]:=List.mem_reverse.1 hy
  have hm:y∈a++x::r:=by rw [e];exact List.mem_append_left _ hy
  have hx1:1≤dN x:=(iE.1 (h.rng x (by simp))).1.1
  have hle:dN y≤dN x:=by
   rcases List.mem_append.1 hy with hy | hy
   ·exact Int.le_of_lt ((List.pairwise_append.1 h.up).2.2 y hy x (by simp))
   ·simp at hy;rw [hy];exact Int.le_refl _
  have ho:=h.ord y hm
  unfold orB at ho
  simp only [beq_iff_eq]
  show ¬ y.getD 5 0=x.getD 0 0
  split at ho
  ·have:y.getD 5 0=0:=by simpa using ho
   unfold dN at hx1;omega
  ·have:=bY.1 ho
   unfold dN at hle;omega
 rw [this,List.append_nil]

def wQ(L:List (Int × List (List Int)))(k:Int):List (List Int):=match L.find? fun e=>e.1 == k with
 | some e=>e.2
 | none=>[]
def aBc(L:List (Int × List (List Int)))(k:Int)(v:List (List Int)):List (Int × List (List Int)):=if L.any (fun e=>e.1 == k) then L.map (fun e=>if e.1 == k then (k,v) else e) else L++[(k,v)]
def iS(L:List (Int × List (List Int)))(x:List Int):List (Int × List (List Int)):=if 0<dAb x then aBc L (dAb x) (wQ L (dAb x)++[x]) else L
def abM(dc:List (List Int)):List (Int × List (List Int)):=dc.reverse.foldl iS []

structure aJb (q:List (List Int)) (L:List (Int × List (List Int))):Prop where
 nd:(L.map (·.1)).Nodup
 mem:∀ e∈L,0<e.1∧e.2≠[]∧e.2=q.filter fun x=>dAb x == e.1
 all:∀ x∈q,0<dAb x→dAb x∈L.map (·.1)
theorem aJb.look{q:List (List Int)}{L:List (Int × List (List Int))}(h:aJb q L){n:Int}(hn:0<n):wQ L n=q.filter fun x=>dAb x == n:=by
 unfold wQ
 cases hf:L.find? fun e=>e.1 == n with
 | some e =>
  have h1:=List.mem_of_find?_eq_some hf
  have h2:e.1=n:=by simpa using List.find?_some hf
  rw [← h2];exact (h.mem e h1).2.2
 | none =>
  symm
  rw [List.filter_eq_nil_iff]
  intro x hx he
  have he:dAb x=n:=by simpa using he
  obtain ⟨e,h1,h2⟩:=List.mem_map.1 (h.all x hx (by omega))
  have:=List.find?_eq_none.1 hf e h1
  exact this (by rw [h2,he];exact beq_self_eq_true n)
theorem bEa{L:List (Int × List (List Int))}{k:Int}{v:List (List Int)}{e:Int × List (List Int)}(h:e∈aBc L k v):e=(k,v)∨(e∈L∧e.1≠k):=by
 unfold aBc at h
 split at h
 ·obtain ⟨z,hz,rfl⟩:=List.mem_map.1 h
  by_cases hk:z.1=k
  ·left;simp [hk]
  ·right;simp [hk,hz]
 ·rename_i hn
  rcases List.mem_append.1 h with h | h
  ·right
   refine ⟨h,fun hk=>hn (List.any_eq_true.2 ⟨e,h,by simpa using hk⟩)⟩
  ·left;simpa using h
theorem aYr{L:List (Int × List (List Int))}{k:Int}{v:List (List Int)}:(k∈L.map (·.1)∧(aBc L k v).map (·.1)=L.map (·.1))∨(k∉L.map (·.1)∧(aBc L k v).map (·.1)=L.map (·.1)++[k]):=by
 unfold aBc
 by_cases h:L.any (fun e=>e.1 == k)=true
 ·left
  rw [if_pos h]
  refine ⟨?_,?_⟩
  ·obtain ⟨e,h1,h2⟩:=List.any_eq_true.1 h
   exact List.mem_map.2 ⟨e,h1,by simpa using h2⟩
  ·rw [List.map_map]
   refine List.map_congr_left fun e _ => ?_
   by_cases hk:e.1=k
   ·simp [hk]
   ·simp [hk]
 ·right
  rw [if_neg h]
  refine ⟨fun hm=>h ?_,by simp⟩
  obtain ⟨e,h1,h2⟩:=List.mem_map.1 hm
  exact List.any_eq_true.2 ⟨e,h1,by simpa using h2⟩
theorem aJb.step{q:List (List Int)}{L:List (Int × List (List Int))}(h:aJb q L)(x:List Int)(hx:0≤dAb x):aJb (q++[x]) (iS L x):=by
 unfold iS
 by_cases hp:0<dAb x
 ·rw [if_pos hp]
  have hk:=aYr (L:=L) (k:=dAb x) (v:=wQ L (dAb x)++[x])
  refine ⟨?_,fun e he => ?_,fun y hy h0 => ?_⟩
  ·rcases hk with ⟨_,hk⟩ | ⟨hn,hk⟩
   ·rw [hk];exact h.nd
   ·rw [hk,List.nodup_append]
    exact ⟨h.nd,by simp,fun a ha b hb he=>hn (by rw [← List.mem_singleton.1 hb,← he];exact ha)⟩
  ·rcases bEa he with rfl | ⟨h1,h2⟩
   ·refine ⟨hp,by simp,?_⟩
    dsimp only
    rw [h.look hp,List.filter_append]
    simp
   ·obtain ⟨q1,q2,q3⟩:=h.mem e h1
    refine ⟨q1,q2,?_⟩
    rw [List.filter_append,← q3]
    have:[x].filter (fun y=>dAb y == e.1)=[]:=by
     rw [List.filter_eq_nil_iff]
     intro y hy
     simp at hy
     subst hy
     simpa using fun he=>h2 he.symm
    rw [this,List.append_nil]
  ·have:dAb y=dAb x∨dAb y∈L.map (·.1):=by
    rcases List.mem_append.1 hy with hy | hy
    ·exact .inr (h.all y hy h0)
    ·simp at hy;left;rw [hy]
   rcases hk with ⟨hm,hk⟩ | ⟨hn,hk⟩
   ·rw [hk]
    rcases this with h1 | h1
    ·rw [h1];exact hm
    ·exact h1
   ·rw [hk]
    rcases this with h1 | h1
    ·rw [h1];simp
    ·exact List.mem_append_left _ h1
 ·rw [if_neg hp]
  have h0:dAb x=0:=by omega
  refine ⟨h.nd,fun e he => ?_,fun y hy h1 => ?_⟩
  ·obtain ⟨q1,q2,q3⟩:=h.mem e he
   refine ⟨q1,q2,?_⟩
   rw [List.filter_append,← q3]
   have:[x].filter (fun y=>dAb y == e.1)=[]:=by
    rw [List.filter_eq_nil_iff]
    intro y hy
    simp at hy
    subst hy
    simp only [beq_iff_eq]
    omega
   rw [this,List.append_nil]
  ·rcases List.mem_append.1 hy with hy | hy
   ·exact h.all y hy h1
   ·simp at hy;rw [hy] at h1;omega
theorem vI:∀ (p q:List (List Int)) (L:List (Int × List (List Int))),aJb q L→(∀ x∈p,0≤dAb x)→aJb (q++p) (p.foldl iS L)
 | [],q,L,h,_=>by simpa using h
 | x::p,q,L,h,hp=>by
  have:=vI p (q++[x]) (iS L x) (h.step x (hp x (List.mem_cons_self ..))) (fun y hy=>hp y (List.mem_cons_of_mem _ hy))
  simpa using this
theorem lD{dc:List (List Int)}(h:cH dc):∀ x∈dc,0≤dAb x∧dAb x≤9998:=fun x hx=>by
 have h1:=iE.1 (h.rng x hx)
 have ho:=h.ord x hx
 unfold orB at ho
 show 0≤x.getD 5 0∧x.getD 5 0≤9998
 split at ho
 ·have:x.getD 5 0=0:=by simpa using ho
  omega
 ·have:=bY.1 ho;omega
theorem aNn{dc:List (List Int)}(h:cH dc):aJb dc.reverse (abM dc):=by
 have:=vI dc.reverse [] [] ⟨by simp,fun e he=>(by cases he),fun x hx=>(by cases hx)⟩ (fun x hx=>(lD h x (by simpa using hx)).1)
 simpa [abM] using this
theorem bEb{dc:List (List Int)}(h:cH dc){n:Int}(hn:0<n):wQ (abM dc) n=cA dc n:=(aNn h).look hn
end
section

def stF(dl:Int)(oc:List Int)(dc:List (List Int))(x:List Int):DS:=((kG dl oc dc).find? fun s=>s.x == x).getD (mkS dl oc x [])
def dY(dl:Int)(oc:List Int)(dc:List (List Int))(x:List Int):Bool:=(stF dl oc dc x).cnt
def aFq(dl:Int)(oc:List Int)(dc:List (List Int))(x:List Int):Bool:=(stF dl oc dc x).upd
def sF(dl:Int)(oc:List Int)(dc:List (List Int))(x:List Int):Option (List Int):=(stF dl oc dc x).rul
def aFr(dl:Int)(oc:List Int)(dc:List (List Int))(x:List Int):Option (List Int):=(stF dl oc dc x).chg
def rC(dl:Int)(oc:List Int)(dc:List (List Int))(x:List Int):Int:=(stF dl oc dc x).much

theorem aIz{a r:List (List Int)}{x:List Int}(h:cH (a++x::r)){y:List Int}(hy:y∈a):dN y<dN x:=(List.pairwise_append.1 h.up).2.2 y hy x (by simp)
theorem aJa(dl:Int)(oc:List Int){x:List Int}{r:List (List Int)}:∀ (a:List (List Int)),cH (a++x::r)→(kG dl oc (a++x::r)).find? (fun s=>s.x == x)=some (mkS dl oc x (kG dl oc r))
 | [],h=>by
  simp only [List.nil_append,kG]
  rw [List.find?_cons_of_pos]
  show (mkS dl oc x (kG dl oc r)).x == x
  exact beq_self_eq_true x
 | y::a,h=>by
  simp only [List.cons_append,kG]
  rw [List.find?_cons_of_neg,aJa dl oc a h.tail]
  show ¬ ((mkS dl oc y (kG dl oc (a++x::r))).x == x)=true
  have h1:=aIz h (y:=y) (by simp)
  intro he
  have:y=x:=by simpa [mkS] using he
  rw [this] at h1;omega
theorem aAc{dl:Int}{oc:List Int}{a r:List (List Int)}{x:List Int}(h:cH (a++x::r)):stF dl oc (a++x::r) x=mkS dl oc x (kG dl oc r):=by
 unfold stF
 rw [aJa dl oc a h]
 rfl
theorem aQe(dl:Int)(oc:List Int)(r:List (List Int)):∀ a:List (List Int),∃ l,kG dl oc (a++r)=l++kG dl oc r
 | []=>⟨[],rfl⟩
 | y::a=>by
  obtain ⟨l,h⟩:=aQe dl oc r a
  exact ⟨mkS dl oc y (kG dl oc (a++r))::l,by simp [kG,h]⟩
theorem aQf{dl:Int}{oc:List Int}{s:DS}:∀ {dc:List (List Int)},s∈kG dl oc dc→∃ a r,dc=a++s.x::r∧s=mkS dl oc s.x (kG dl oc r)
 | [],h=>by simp [kG] at h
 | y::q,h=>by
  simp only [kG,List.mem_cons] at h
  rcases h with rfl | h
  ·exact ⟨[],q,rfl,rfl⟩
  ·obtain ⟨a,r,h1,h2⟩:=aQf h
   exact ⟨y::a,r,by rw [h1];rfl,h2⟩
theorem aYq{dl:Int}{oc:List Int}{dc:List (List Int)}{s:DS}(h:cH dc)(hs:s∈kG dl oc dc):stF dl oc dc s.x=s:=by
 obtain ⟨a,r,h1,h2⟩:=aQf hs
 subst h1
 rw [aAc h,← h2]
theorem aNl{dl:Int}{oc:List Int}{dc:List (List Int)}{x:List Int}(h:cH dc)(hx:x∈dc):(stF dl oc dc x).x=x:=by
 obtain ⟨a,r,rfl⟩:=List.append_of_mem hx
 rw [aAc h];rfl
theorem pU{dl:Int}{oc:List Int}{a r:List (List Int)}{x:List Int}(h:cH (a++x::r)):mP (kG dl oc r) (dN x)=(cA (a++x::r) (dN x)).map (stF dl oc (a++x::r)):=by
 rw [aNm h,← bJl dl oc r (dN x),List.map_map]
 conv=>lhs;rw [← List.map_id (mP (kG dl oc r) (dN x))]
 refine List.map_congr_left fun s hs => ?_
 have hs:s∈kG dl oc r:=by
  unfold mP at hs
  exact List.mem_reverse.1 (List.mem_filter.1 hs).1
 have e:a++x::r=(a++[x])++r:=by simp
 have:s∈kG dl oc (a++x::r):=by
  obtain ⟨l,hl⟩:=aQe dl oc r (a++[x])
  rw [e,hl]
  exact List.mem_append_right _ hs
 exact (aYq h this).symm

theorem eN{dc:List (List Int)}{n:Int}{y:List Int}(h:y∈cA dc n):y∈dc∧dAb y=n:=by
 unfold cA at h
 obtain ⟨h1,h2⟩:=List.mem_filter.1 h
 exact ⟨List.mem_reverse.1 h1,by simpa using h2⟩
section
variable {dl:Int} {oc:List Int} {dc:List (List Int)} {x:List Int}
theorem bSm(h:cH dc)(l:List (List Int))(hl:∀ y∈l,y∈dc)(f:DS→Bool)(g:List Int→Bool)(hfg:∀ y∈dc,f (stF dl oc dc y)=g y):(l.map (stF dl oc dc)).any f=l.any g:=by
 rw [List.any_map]
 induction l with
 | nil=>rfl
 | cons y l ih =>
  rw [List.any_cons,List.any_cons,ih fun z hz=>hl z (List.mem_cons_of_mem _ hz)]
  rw [Function.comp,hfg y (hl y (List.mem_cons_self ..))]
theorem xL(h:cH dc)(l:List (List Int))(hl:∀ y∈l,y∈dc)(f:DS→Bool)(g:List Int→Bool)(hfg:∀ y∈dc,f (stF dl oc dc y)=g y):(l.map (stF dl oc dc)).find? f=(l.find? g).map (stF dl oc dc):=by
 induction l with
 | nil=>rfl
 | cons y l ih =>
  rw [List.map_cons,List.find?_cons,List.find?_cons,hfg y (hl y (List.mem_cons_self ..)),ih fun z hz=>hl z (List.mem_cons_of_mem _ hz)]
  cases g y <;> rfl
theorem bSn(h:cH dc)(hx:x∈dc):dY dl oc dc x=(!mF dl x && !((cA dc (dN x)).any fun y=>tV x y && dY dl oc dc y && (dK y == 5 || aFq dl oc dc y))):=by
 obtain ⟨a,r,rfl⟩:=List.append_of_mem hx
 unfold dY
 rw [aAc h]
 simp only [mkS]
 rw [pU h,bSm (dl:=dl) (oc:=oc) h _ (fun y hy=>(eN hy).1) (bDy x) (fun y=>tV x y && dY dl oc (a++x::r) y && (dK y == 5 || aFq dl oc (a++x::r) y)) (fun y hy => ?_)]
 ·rfl
 ·unfold bDy dY aFq
  rw [aNl h hy]
theorem rD{l:List (List Int)}{g:List Int→Bool}{y:List Int}(h:l.find? g=some y):y∈l:=List.mem_of_find?_eq_some h
theorem aAd(h:cH dc)(l:List (List Int))(hl:∀ y∈l,y∈dc)(g:List Int→Bool):((l.find? g).map (stF dl oc dc)).map (·.x)=l.find? g:=by
 cases hf:l.find? g with
 | none=>rfl
 | some y=>simp only [Option.map_some];rw [aNl h (hl y (rD hf))]
theorem aAe(h:cH dc)(hx:x∈dc):sF dl oc dc x=(cA dc (dN x)).find? fun y=>cW (dK y) && dY dl oc dc y:=by
 obtain ⟨a,r,rfl⟩:=List.append_of_mem hx
 unfold sF
 rw [aAc h]
 simp only [mkS]
 rw [pU h,xL (dl:=dl) (oc:=oc) h _ (fun y hy=>(eN hy).1) _ (fun y=>cW (dK y) && dY dl oc (a++x::r) y) (fun y hy => ?_),aAd h _ (fun y hy=>(eN hy).1)]
 unfold dY;rw [aNl h hy]
theorem bSo(h:cH dc)(hx:x∈dc):aFq dl oc dc x=match sF dl oc dc x with | some y=>dK y == 8 | none=>oc.contains (dN x):=by
 rw [aAe h hx]
 obtain ⟨a,r,rfl⟩:=List.append_of_mem hx
 unfold aFq
 rw [aAc h]
 simp only [mkS]
 rw [pU h,xL (dl:=dl) (oc:=oc) h _ (fun y hy=>(eN hy).1) _ (fun y=>cW (dK y) && dY dl oc (a++x::r) y) (fun y hy => ?_)]
 ·cases hf:(cA (a++x::r) (dN x)).find? fun y=>cW (dK y) && dY dl oc (a++x::r) y with
  | none=>rfl
  | some y=>simp only [Option.map_some];rw [aNl h (eN (rD hf)).1]
 ·unfold dY;rw [aNl h hy]
theorem aAf(h:cH dc)(hx:x∈dc):aFr dl oc dc x=(cA dc (dN x)).find? fun y=>dK y == 6 && dY dl oc dc y:=by
 obtain ⟨a,r,rfl⟩:=List.append_of_mem hx
 unfold aFr
 rw [aAc h]
 simp only [mkS]
 rw [pU h,xL (dl:=dl) (oc:=oc) h _ (fun y hy=>(eN hy).1) _ (fun y=>dK y == 6 && dY dl oc (a++x::r) y) (fun y hy => ?_),aAd h _ (fun y hy=>(eN hy).1)]
 unfold dY;rw [aNl h hy]
theorem aQg(h:cH dc)(hx:x∈dc):rC dl oc dc x=match aFr dl oc dc x with | some y=>rC dl oc dc y | none=>dMu x:=by
 rw [aAf h hx]
 obtain ⟨a,r,rfl⟩:=List.append_of_mem hx
 unfold rC
 rw [aAc h]
 simp only [mkS]
 rw [pU h,xL (dl:=dl) (oc:=oc) h _ (fun y hy=>(eN hy).1) _ (fun y=>dK y == 6 && dY dl oc (a++x::r) y) (fun y hy => ?_)]
 ·cases hf:(cA (a++x::r) (dN x)).find? fun y=>dK y == 6 && dY dl oc (a++x::r) y with
  | none=>rfl
  | some y=>rfl
 ·unfold dY;rw [aNl h hy]
theorem bDx(h:cH dc){y:List Int}(hy:y∈dc){n:Int}(hn:dAb y=n)(h1:1≤n):n<dN y:=by
 have ho:=h.ord y hy
 unfold orB at ho
 split at ho
 ·have:y.getD 5 0=0:=by simpa using ho
  rw [show y.getD 5 0=dAb y from rfl] at this;omega
 ·have:=bY.1 ho
  rw [show y.getD 5 0=dAb y from rfl] at this
  rw [show y.getD 0 0=dN y from rfl] at this
  omega
end
end
section

theorem bTw{dc:List (List Int)}{base:Nat}:FV Tryz.prog 147 [(.p (.sl dc.length (dc.flatten.map aA)))] base (.fn 187 [] [(.rp [(.sl dc.length (dc.flatten.map aA))] 0)]) []:=by
 exact FV.fin Tryz.func147 rfl (o:=[.g 3 ⟨[],[],[0],[]⟩]) (l:=[]) (by kernel_rfl) (gn)
end
section
variable {P:Program} {C C0:Cx} {M M0:Mem} {w w0:World}

theorem cD{w:World}{b:Nat}{o:Obj}(h:w.heap[b]? = some o):b<w.heap.size:=(Array.getElem?_eq_some_iff.1 h).1

theorem aAk(hM:aV P C M w){w':World}(hsz:w.heap.size≤w'.heap.size)(hF:∀ b,C.F b→w'.heap[b]? = w.heap[b]?)(hL:∀ (id:Nat) (o:AO) (b:Nat),M[id]? = some (some o)→o.live=true→C.ι id=some b→w'.heap[b]? = w.heap[b]?) :
  aV P C M w'∧Le C C M M w w':=by
 have hle:Le C C M M w w':=⟨fun _ o h=>⟨o,h⟩,fun _ _ _ _ _ cs h=>⟨cs,h⟩,fun _ o h o' h' hl=>by rw [h] at h';cases h';exact ⟨hl,rfl,rfl⟩,fun _ h=>h,hF⟩
 refine ⟨⟨fun i ty' n cs hm => ?_,fun i ty' cs hm => ?_,fun i es cl hm => ?_,hM.inj,hM.nF,fun b hb=>Nat.lt_of_lt_of_le (hM.Fs b hb) hsz,fun i x b hm hl hb=>Nat.lt_of_lt_of_le (hM.lt i x b hm hl hb) hsz⟩,hle⟩
 ·rcases hM.row _ _ _ _ hm with h4 | ⟨b,arr,inf,q0,q1,q2,q3,q4,q5,q6,q7,q8⟩
  ·exact .inl h4
  ·exact .inr ⟨b,arr,inf,q0,by rw [hL _ _ _ hm rfl q0];exact q1,q2,q3,q4,q5,q6,fun j hj=>(q7 j hj).mono hle.F hle.fz,q8⟩
 ·obtain ⟨b,arr,q0,q1,q2,q3,q4⟩:=hM.box _ _ _ hm
  exact ⟨b,arr,q0,by rw [hL _ _ _ hm rfl q0];exact q1,q2,fun j hj=>(q3 j hj).mono hle,q4⟩
 ·obtain ⟨b,arr,q0,q1,q2,q3⟩:=hM.mp _ _ _ hm
  refine ⟨b,arr,q0,by rw [hL _ _ _ hm rfl q0];exact q1,q2,fun j hj => ?_⟩
  obtain ⟨en,r1,r2,r3,r4⟩:=q3 j hj
  exact ⟨en,r1,r2,r3,r4.mono hle.F hle.fz⟩

theorem Sim.beside{R R':List (Nat × Obj)}{st:St}{a:Act}{w':World}(h:Sim P (C0.with R) M0 w0 st a w)(X:Nat→Prop)(hX:∀ b,X b→∃ o,(b,o)∈R)(h1:w'.os=w.os)(h2:w'.tape=w.tape)(h3:w'.output=w.output)
  (hsz:w.heap.size≤w'.heap.size) (hk:∀ b,b<w.heap.size→¬ X b→w'.heap[b]? = w.heap[b]?)
  (hR':∀ p∈R',(p∈R∧¬ X p.1)∨(w'.heap[p.1]? = some p.2∧p.2 ≠ .deferred (some [])∧(w.heap.size≤p.1∨∃ o,(p.1,o)∈R))):Sim P (C0.with R') M0 w0 st a w':=by
 obtain ⟨C,hS,hM,hF,⟨l,m1,m2,m3⟩,hR,hP⟩:=h
 have hXR:∀ b,X b→∃ o,w.heap[b]? = some o∧w0.heap.size≤b∧o ≠ .deferred (some [])∧¬ C.F b∧∀ (id:Nat) (o:AO),st.m[id]? = some (some o)→o.live=true→C.ι id≠some b:=fun b hb=>by
  obtain ⟨o,ho⟩:=hX b hb
  exact ⟨o,hR _ ho⟩
 have hFz:∀ b,C.F b→w'.heap[b]? = w.heap[b]? := fun b hb=>hk b (hM.Fs b hb) (fun hx=>by obtain ⟨_,_,_,_,q,_⟩:=hXR b hx;exact q hb)
 have hLv:∀ (id:Nat) (o:AO) (b:Nat),st.m[id]? = some (some o)→o.live=true→C.ι id=some b→w'.heap[b]? = w.heap[b]? := fun id o b ho hl hb=>hk b (hM.lt _ _ _ ho hl hb) (fun hx=>by obtain ⟨_,_,_,_,_,q⟩:=hXR b hx;exact q id o ho hl hb)
 obtain ⟨hM',hle⟩:=aAk hM hsz hFz hLv
 refine ⟨C,hS.le hle,hM',⟨h1.trans hF.os,h2.trans hF.tape,h3.trans hF.out,Nat.le_trans hF.size hsz,fun b hb hn=>(hk b (Nat.lt_of_lt_of_le hb hF.size) (fun hx=>by obtain ⟨_,_,q,_⟩:=hXR b hx;omega)).trans (hF.keep b hb hn),hF.ids,hF.row,hF.liv,hF.new,hF.F1,hF.F2⟩,⟨l,m1,m2,fun D hD => ?_⟩,fun p hp => ?_,fun i to ti sz L hm => ?_,hP.2⟩
 ·obtain ⟨q1,q2,q3⟩:=m3 D hD
  refine ⟨(hk D (cD q1) (fun hx => ?_)).trans q1,q2,q3⟩
  obtain ⟨o,r1,_,r3,_⟩:=hXR D hx
  rw [q1] at r1;cases r1;exact r3 rfl
 ·rcases hR' p hp with ⟨hin,hx⟩ | ⟨r1,r2,r3⟩
  ·obtain ⟨q1,q2,q3,q4,q5⟩:=hR p hin
   exact ⟨(hk _ (cD q1) hx).trans q1,q2,q3,q4,q5⟩
  ·rcases r3 with r3 | ⟨o,ho⟩
   ·refine ⟨r1,Nat.le_trans hF.size r3,r2,fun hf => ?_,fun id o ho hl hb => ?_⟩
    ·have:=hM.Fs _ hf;omega
    ·have:=hM.lt _ _ _ ho hl hb;omega
   ·obtain ⟨q1,q2,q3,q4,q5⟩:=hR _ ho
    exact ⟨r1,q2,r2,q4,q5⟩
 ·obtain ⟨p,p0,p1⟩:=hP.1 _ _ _ _ _ hm
  refine ⟨p.move p.io rfl (fun _ h=>h) hFz fun b hb=>⟨hk b (p.lt hb).1 fun hx => ?_,p.own b hb⟩,p0,fun b hb=>⟨(p1 b hb).1,fun q hq e => ?_⟩⟩
  ·obtain ⟨o,ho⟩:=hX b hx
   exact (p1 b hb).2 _ ho rfl
  ·rcases hR' q hq with ⟨hin,_⟩ | ⟨_,_,r3⟩
   ·exact (p1 b hb).2 q hin e
   ·rcases r3 with r3 | ⟨o,ho⟩
    ·have:=(p.lt hb).1;omega
    ·exact (p1 b hb).2 _ ho e

theorem Sim.has{R:List (Nat × Obj)}{st:St}{a:Act}(h:Sim P (C0.with R) M0 w0 st a w):∀ p∈R,w.heap[p.1]? = some p.2:=fun p hp=>by
 obtain ⟨C,_,_,_,_,hR,_⟩:=h
 exact (hR p hp).1

end
section
open Go.Maps Go.MapKept
open Go.ChangeMaps (setBlock)

structure Ent where
 k:Int
 l:List (List Int)
 b:Nat
 cap:Nat
 arr:Array Value

def Ent.val(e:Ent):Value := .slice (some ⟨e.b,0,none⟩) e.l.length e.cap
def Ent.blk(e:Ent):Nat × Obj:=(e.b,.cells e.arr 44 (0,0))
structure Ent.OK (e:Ent):Prop where
 key:(Lit.int .i64 e.k).wf=true
 sz:e.arr.size=e.cap*6
 le:e.l.length≤e.cap
 cap:e.cap≤maxLen
 at_:e.arr.toList.take (e.l.length*6)=e.l.flatten.map (Value.int .i64)
 u:uni 6 e.l

structure kR (mb:Nat) (es:Array MapEntry) (L:List Ent):Prop where
 e1:∀ x∈es.toList,∃ e∈L,x.key = .int .i64 e.k∧x.val=e.val
 e2:∀ e∈L,∃ x∈es.toList,x.key = .int .i64 e.k∧x.val=e.val
 nd:es.toList.Pairwise (fun x y=>x.key≠y.key)
 ok:∀ e∈L,e.OK
 keys:(L.map (·.k)).Nodup
 blks:(mb::L.map (·.b)).Nodup
 ord:es.toList.map (fun x=>(x.key,x.val))=L.map fun e=>(Value.int .i64 e.k,e.val)

theorem kR.nil(mb:Nat):kR mb #[] []:=⟨fun x h=>by simp at h,fun e h=>by simp at h,by simp,fun e h=>by simp at h,by simp,by simp,rfl⟩

def pW(L:List Ent)(k:Int):Option Ent:=L.find? fun e=>e.k == k
def oQ(L:List Ent)(k:Int):Value:=match pW L k with
 | some e=>e.val
 | none => .slice none 0 0

theorem sH{L:List Ent}{k:Int}{e:Ent}(h:pW L k=some e):e∈L∧e.k=k:=⟨List.mem_of_find?_eq_some h,by simpa using List.find?_some h⟩
theorem aNv{L:List Ent}{k:Int}(h:pW L k=none):∀ e∈L,e.k≠k:=fun e he hk=>by
 have:=List.find?_eq_none.1 h e he
 simp [hk] at this
theorem aZf{L:List Ent}{k:Int}{e:Ent}(hn:(L.map (·.k)).Nodup)(he:e∈L)(hk:e.k=k):pW L k=some e:=by
 cases h:pW L k with
 | none=>exact absurd hk (aNv h e he)
 | some e' =>
  obtain ⟨h1,h2⟩:=sH h
  have:∀ (l:List Ent),(l.map (·.k)).Nodup→e∈l→e'∈l→e=e':=by
   intro l
   induction l with
   | nil=>intro _ h;simp at h
   | cons x r ih =>
    intro hn h3 h4
    rw [List.map_cons,List.nodup_cons] at hn
    rcases List.mem_cons.1 h3 with e1 | h5
    ·rcases List.mem_cons.1 h4 with e2 | h6
     ·rw [e1,e2]
     ·exact absurd (List.mem_map.2 ⟨e',h6,by rw [h2,← hk,e1]⟩) hn.1
    ·rcases List.mem_cons.1 h4 with e2 | h6
     ·exact absurd (List.mem_map.2 ⟨e,h5,by rw [hk,← h2,e2]⟩) hn.1
     ·exact ih hn.2 h5 h6
  rw [this L hn he h1]

section
variable {P:Program} {w:World} {t kt et:TypeId} {mb:Nat} {es:Array MapEntry} {cl:Nat} {L:List Ent}

theorem aFw(hkt:P.underlying kt=some (.int .i64)){k:Int}(hk:(Lit.int .i64 k).wf=true):keyOf P kt (.int .i64 k)=some (.int .i64 k):=keyOf_int_mk hkt hk

theorem bEk(ht:P.underlying t=some (.map kt et))(hkt:P.underlying kt=some (.int .i64))(hz:(zeroValue et).run P w = .ok (.slice none 0 0) w)(hb:w.heap[mb]? = some (.map es cl))(hM:kR mb es L){k:Int}(hk:(Lit.int .i64 k).wf=true) :
  (Instr.lookup t (.map (some mb)) (.int .i64 k) false).run P w = .ok (oQ L k) w:=by
 have K:=int_keyed hkt
 have hkey:=aFw hkt hk
 have hes:∀ e∈es.toList,∃ l,keyOf P kt e.key=some l:=fun x hx=>by
  obtain ⟨e,he,h1,_⟩:=hM.e1 x hx
  exact ⟨_,by rw [h1];exact aFw hkt (hM.ok e he).key⟩
 rcases K.find w hkey es.toList hes with ⟨h1,h2⟩ | ⟨j,e0,h1,h2,h3⟩
 ·have:pW L k=none:=by
   rw [pW,List.find?_eq_none]
   intro e he
   obtain ⟨x,hx,h4,_⟩:=hM.e2 e he
   have:=h2 x hx
   rw [h4] at this
   intro hk'
   exact this (by rw [eq_of_beq hk'])
  unfold oQ
  rw [this]
  simp [Instr.lookup,run_underlying ht,MapKept.run_getObj_map hb,K.check w _ hkey,h1,hz,Result.andThen]
 ·obtain ⟨e,he,h4,h5⟩:=hM.e1 e0 (List.mem_of_getElem? h2)
  rw [h3] at h4
  have hk':e.k=k:=by injection h4 with _ h;exact h.symm
  unfold oQ
  rw [aZf hM.keys he hk']
  simp [Instr.lookup,run_underlying ht,MapKept.run_getObj_map hb,K.check w _ hkey,h1,Result.andThen,h5]

def nJ(L:List Ent)(e:Ent):List Ent:=if L.any (fun x=>x.k == e.k) then L.map (fun x=>if x.k == e.k then e else x) else L++[e]
theorem uA{L:List Ent}{e:Ent}(h:∀ x∈L,x.k≠e.k):nJ L e=L++[e]:=by
 unfold nJ
 rw [if_neg]
 intro h1
 obtain ⟨x,hx,he⟩:=List.any_eq_true.1 h1
 exact h x hx (by simpa using he)
theorem pX{L:List Ent}{e x:Ent}(hx:x∈L)(he:x.k=e.k):nJ L e=L.map (fun x=>if x.k == e.k then e else x):=by
 unfold nJ
 rw [if_pos (List.any_eq_true.2 ⟨x,hx,by simpa using he⟩)]
theorem gM{L:List Ent}{e x:Ent}:x∈nJ L e↔(x∈L∧x.k≠e.k)∨x=e:=by
 by_cases h:∃ y∈L,y.k=e.k
 ·obtain ⟨y,hy,he⟩:=h
  rw [pX hy he,List.mem_map]
  constructor
  ·rintro ⟨z,hz,rfl⟩
   by_cases hk:z.k=e.k
   ·rw [if_pos (by simpa using hk)];exact .inr rfl
   ·rw [if_neg (by simpa using hk)];exact .inl ⟨hz,hk⟩
  ·rintro (⟨h1,h2⟩ | rfl)
   ·exact ⟨x,h1,by rw [if_neg (by simpa using h2)]⟩
   ·exact ⟨y,hy,by rw [if_pos (by simpa using he)]⟩
 ·have h':∀ y∈L,y.k≠e.k:=fun y hy he=>h ⟨y,hy,he⟩
  rw [uA h',List.mem_append,List.mem_singleton]
  constructor
  ·rintro (h1 | h1)
   ·exact .inl ⟨h1,h' x h1⟩
   ·exact .inr h1
  ·rintro (⟨h1,_⟩ | h1)
   ·exact .inl h1
   ·exact .inr h1
theorem aZg{L:List Ent}{e:Ent}(hn:(L.map (·.k)).Nodup):((nJ L e).map (·.k)).Nodup:=by
 by_cases h:∃ y∈L,y.k=e.k
 ·obtain ⟨y,hy,he⟩:=h
  rw [pX hy he,List.map_map]
  have:L.map ((fun x=>x.k) ∘ fun x=>if x.k == e.k then e else x)=L.map (·.k):=List.map_congr_left fun x _=>by
   by_cases hk:x.k=e.k
   ·simp [hk]
   ·simp [hk]
  rw [this];exact hn
 ·have h':∀ y∈L,y.k≠e.k:=fun y hy he=>h ⟨y,hy,he⟩
  rw [uA h',List.map_append,List.nodup_append]
  refine ⟨hn,by simp,fun x hx y hy => ?_⟩
  obtain ⟨z,hz,rfl⟩:=List.mem_map.1 hx
  simp at hy
  subst hy
  exact h' z hz
theorem aZh{mb:Nat}{L:List Ent}{e:Ent}(hn:(L.map (·.k)).Nodup)(hb:(mb::L.map (·.b)).Nodup)(h1:e.b≠mb)(h2:∀ x∈L,x.k≠e.k→x.b≠e.b):(mb::(nJ L e).map (·.b)).Nodup:=by
 obtain ⟨b1,b2⟩:=List.nodup_cons.1 hb
 refine List.nodup_cons.2 ⟨?_,?_⟩
 ·intro hin
  obtain ⟨x,hx,hxb⟩:=List.mem_map.1 hin
  rcases gM.1 hx with ⟨h1,_⟩ | rfl
  ·exact b1 (List.mem_map.2 ⟨x,h1,hxb⟩)
  ·exact h1 hxb
 ·by_cases h:∃ y∈L,y.k=e.k
  ·obtain ⟨y,hy,he⟩:=h
   rw [pX hy he,List.map_map,List.Nodup,List.pairwise_map]
   rw [List.Nodup,List.pairwise_map] at hn b2
   refine List.Pairwise.imp_of_mem ?_ (hn.and b2)
   intro x z hx hz ⟨q1,q2⟩
   dsimp only [Function.comp]
   by_cases hk:x.k=e.k
   ·rw [if_pos (by simpa using hk),if_neg (by simp;rw [← hk];exact fun h=>q1 h.symm)]
    exact fun he=>h2 z hz (fun h=>q1 (by rw [hk,h])) he.symm
   ·rw [if_neg (by simpa using hk)]
    by_cases hk2:z.k=e.k
    ·rw [if_pos (by simpa using hk2)];exact h2 x hx hk
    ·rw [if_neg (by simpa using hk2)];exact q2
  ·have h':∀ y∈L,y.k≠e.k:=fun y hy he=>h ⟨y,hy,he⟩
   rw [uA h',List.map_append,List.nodup_append]
   refine ⟨b2,by simp,fun x hx y hy => ?_⟩
   obtain ⟨z,hz,rfl⟩:=List.mem_map.1 hx
   simp at hy
   subst hy
   exact h2 z hz (h' z hz)

theorem bJz(ht:P.underlying t=some (.map kt et))(hkt:P.underlying kt=some (.int .i64))(hb:w.heap[mb]? = some (.map es cl))(hM:kR mb es L)(e:Ent)(he:e.OK)
  (hblk:e.b≠mb∧∀ x∈L,x.k≠e.k→x.b≠e.b) :
  ∃ es' cl',(Instr.mapUpdate t (.map (some mb)) (.int .i64 e.k) e.val).run P w = .ok () (setBlock w mb (.map es' cl'))∧kR mb es' (nJ L e)∧((∀ x∈es.toList,x.born<cl)→∀ x∈es'.toList,x.born<cl'):=by
 have K:=int_keyed hkt
 have hkey:=aFw hkt he.key
 have hes:∀ e∈es.toList,∃ l,keyOf P kt e.key=some l:=fun x hx=>by
  obtain ⟨e,he,h1,_⟩:=hM.e1 x hx
  exact ⟨_,by rw [h1];exact aFw hkt (hM.ok e he).key⟩
 have hok:∀ x∈nJ L e,x.OK:=fun x hx=>by
  rcases gM.1 hx with ⟨h1,_⟩ | rfl
  ·exact hM.ok x h1
  ·exact he
 have hkeys:((nJ L e).map (·.k)).Nodup:=aZg hM.keys
 have hblks:(mb::(nJ L e).map (·.b)).Nodup:=aZh hM.keys hM.blks hblk.1 hblk.2
 rcases K.find w hkey es.toList hes with ⟨h1,h2⟩ | ⟨j,e0,h1,h2,h3⟩
 ·refine ⟨es.push ⟨.int .i64 e.k,e.val,cl⟩,cl+1,?_,⟨fun x hx => ?_,fun x hx => ?_,?_,hok,hkeys,hblks,?_⟩,fun hbn x hx => ?_⟩
  ·simp [Instr.mapUpdate,run_underlying ht,MapKept.run_getObj_map hb,K.check w false hkey,h1,MapKept.run_setObj_map _ hb,Result.andThen,setBlock]
  ·simp only [Array.toList_push,List.mem_append,List.mem_singleton] at hx
   rcases hx with hx | rfl
   ·obtain ⟨y,hy,q1,q2⟩:=hM.e1 x hx
    refine ⟨y,gM.2 (.inl ⟨hy,fun hk=>h2 x hx (by rw [q1,hk])⟩),q1,q2⟩
   ·exact ⟨e,gM.2 (.inr rfl),rfl,rfl⟩
  ·rcases gM.1 hx with ⟨q1,_⟩ | rfl
   ·obtain ⟨y,hy,q2⟩:=hM.e2 x q1
    exact ⟨y,by simp [hy],q2⟩
   ·exact ⟨⟨.int .i64 x.k,x.val,cl⟩,by simp,rfl,rfl⟩
  ·rw [Array.toList_push,List.pairwise_append]
   exact ⟨hM.nd,by simp,fun x hx y hy=>by simp at hy;subst hy;exact h2 x hx⟩
  ·have hno:∀ x∈L,x.k≠e.k:=fun x hx hk=>by
    obtain ⟨y,hy,q2,_⟩:=hM.e2 x hx
    exact h2 y hy (by rw [q2,hk])
   rw [uA hno,Array.toList_push,List.map_append,List.map_append,hM.ord]
   rfl
  ·simp only [Array.toList_push,List.mem_append,List.mem_singleton] at hx
   rcases hx with hx | rfl
   ·exact Nat.lt_succ_of_lt (hbn x hx)
   ·exact Nat.lt_succ_self _
 ·have hj:es[j]? = some e0:=by simpa using h2
  have hlist:(es.modify j (fun e'=>{ e' with key := .int .i64 e.k,val:=e.val })).toList=es.toList.set j { e0 with key := .int .i64 e.k,val:=e.val }:=by
   rw [Array.toList_modify,Go.ChangeMaps.modify_eq_set _ _ _ _ h2]
  have hjl:j<es.toList.length:=(List.getElem?_eq_some_iff.1 h2).1
  have hother:∀ i x,es.toList[i]? = some x→i≠j→x.key ≠ .int .i64 e.k:=fun i x hi hij=>by
   rw [← h3]
   obtain ⟨hi1,rfl⟩:=List.getElem?_eq_some_iff.1 hi
   obtain ⟨hj1,hje⟩:=List.getElem?_eq_some_iff.1 h2
   have:=List.pairwise_iff_getElem.1 hM.nd
   rcases Nat.lt_or_ge i j with h | h
   ·rw [← hje];exact this i j hi1 hj1 h
   ·rw [← hje];exact (this j i hj1 hi1 (by omega)).symm
  have who:∀ x∈es.toList.set j { e0 with key := .int .i64 e.k,val:=e.val },x={ e0 with key := .int .i64 e.k,val:=e.val }∨(x∈es.toList∧x.key ≠ .int .i64 e.k):=fun x hx=>by
   obtain ⟨i,hi,ex⟩:=List.getElem_of_mem hx
   rw [List.getElem_set] at ex
   split at ex
   ·exact .inl ex.symm
   ·rename_i hne
    have hi':i<es.toList.length:=by simpa using hi
    exact .inr ⟨ex ▸ List.getElem_mem hi',hother i x (by rw [List.getElem?_eq_getElem hi',ex]) (fun e=>hne e.symm)⟩
  refine ⟨es.modify j (fun e'=>{ e' with key := .int .i64 e.k,val:=e.val }),cl,?_,⟨fun x hx => ?_,fun x hx => ?_,?_,hok,hkeys,hblks,?_⟩,fun hbn x hx => ?_⟩
  ·simp [Instr.mapUpdate,run_underlying ht,MapKept.run_getObj_map hb,K.check w false hkey,h1,hj,h3,K.stays w hkey,MapKept.run_setObj_map _ hb,Result.andThen,setBlock]
  ·rw [hlist] at hx
   rcases who x hx with rfl | ⟨q1,q2⟩
   ·exact ⟨e,gM.2 (.inr rfl),rfl,rfl⟩
   ·obtain ⟨y,hy,r1,r2⟩:=hM.e1 x q1
    exact ⟨y,gM.2 (.inl ⟨hy,fun hk=>q2 (by rw [r1,hk])⟩),r1,r2⟩
  ·rw [hlist]
   rcases gM.1 hx with ⟨q1,q2⟩ | rfl
   ·obtain ⟨y,hy,r1,r2⟩:=hM.e2 x q1
    obtain ⟨i,hi,rfl⟩:=List.getElem_of_mem hy
    have hij:i≠j:=fun hij=>by
     subst hij
     rw [List.getElem?_eq_getElem hi] at h2;cases h2
     rw [h3] at r1;injection r1 with _ r1;exact q2 r1.symm
    exact ⟨es.toList[i],List.mem_iff_getElem.2 ⟨i,by simpa using hi,by rw [List.getElem_set,if_neg (Ne.symm hij)]⟩,r1,r2⟩
   ·exact ⟨_,List.mem_iff_getElem.2 ⟨j,by simpa using hjl,by rw [List.getElem_set,if_pos rfl]⟩,rfl,rfl⟩
  ·rw [hlist,List.pairwise_iff_getElem]
   intro i1 i2 hi1 hi2 hlt
   simp only [List.length_set] at hi1 hi2
   have h0:=List.pairwise_iff_getElem.1 hM.nd i1 i2 hi1 hi2 hlt
   rw [List.getElem_set,List.getElem_set]
   split
   ·rename_i e1
    rw [if_neg (by omega)]
    exact (hother i2 _ (List.getElem?_eq_getElem hi2) (by omega)).symm
   ·split
    ·exact hother i1 _ (List.getElem?_eq_getElem hi1) (by omega)
    ·exact h0
  ·obtain ⟨y,hy,q1,q2⟩:=hM.e1 e0 (List.mem_of_getElem? h2)
   have hyk:y.k=e.k:=by rw [h3] at q1;injection q1 with _ q1;exact q1.symm
   rw [hlist,pX hy hyk,List.map_map]
   apply List.ext_getElem?
   intro i
   rw [List.getElem?_map,List.getElem?_map,List.getElem?_set]
   have hoi:(es.toList.map fun x=>(x.key,x.val))[i]? = (L.map fun e=>(Value.int .i64 e.k,e.val))[i]? := by rw [hM.ord]
   rw [List.getElem?_map,List.getElem?_map] at hoi
   by_cases hij:j=i
   ·subst hij
    rw [if_pos rfl,if_pos hjl]
    rw [h2] at hoi
    cases hL:L[j]? with
    | none=>rw [hL] at hoi;cases hoi
    | some z =>
     rw [hL] at hoi
     have hz:z.k=e.k:=by
      simp at hoi
      rw [h3] at hoi
      have:=hoi.1
      injection this with _ h;exact h.symm
     simp [hz]
   ·rw [if_neg hij]
    cases hL:L[i]? with
    | none=>rw [hL] at hoi;rw [hoi];rfl
    | some z =>
     rw [hL] at hoi
     rw [hoi]
     have hz:z.k≠e.k:=fun hz=>by
      cases he:es.toList[i]? with
      | none=>rw [he] at hoi;cases hoi
      | some x =>
       rw [he] at hoi
       simp at hoi
       exact hother i x he (fun h=>hij h.symm) (by rw [hoi.1,hz])
     simp [hz]
  ·rw [hlist] at hx
   rcases who x hx with rfl | ⟨q1,_⟩
   ·exact hbn e0 (List.mem_of_getElem? h2)
   ·exact hbn x q1

theorem Ent.owns{e:Ent}(he:e.OK)(h:w.heap[e.b]? = some (.cells e.arr 44 (0,0))):w.ownsRow 0 44 6 e.val e.l.length (e.l.flatten.map (Value.int .i64)) :=
 ⟨by rw [List.length_map,mH he.u],.inr ⟨e.b,e.cap,e.arr,rfl,Nat.zero_le _,h,he.le,he.cap,he.sz,he.at_⟩⟩
theorem bEl:w.ownsRow 0 44 6 (.slice none 0 0) 0 []:=⟨rfl,.inl ⟨rfl,rfl⟩⟩
theorem bEm{v:Value}{l:List (List Int)}{k:Int}(hk:(Lit.int .i64 k).wf=true)(hl:l≠[])(hu:uni 6 l)(h:w.ownsRow 0 44 6 v l.length (l.flatten.map (Value.int .i64))):∃ e:Ent,e.k=k∧e.l=l∧e.val=v∧e.OK∧w.heap[e.b]? = some (.cells e.arr 44 (0,0)):=by
 rcases h.2 with ⟨_,h0⟩ | ⟨g,cap,cur,rfl,_,h1,h2,h3,h4,h5⟩
 ·exact absurd (List.eq_nil_of_length_eq_zero h0) hl
 ·exact ⟨⟨k,l,g,cap,cur⟩,rfl,rfl,rfl,⟨hk,h4,h2,h3,h5,hu⟩,h1⟩
end
end
section
variable {P:Program} {C C0:Cx} {M M0:Mem} {w w0:World}

abbrev SR:=St→List (Nat × Obj)→Prop
section
variable {k:Nat} {a b c:Code} {Ψ Ψ1 Ψ':SR} {e:Ex}
end

theorem Sim.slot{st:St}{a:Act}(h:Sim P C0 M0 w0 st a w){i:Nat}{v:Value}(hi:st.t[i]? = some (.p (.v v))):a.tmps.getD i undef=v:=by
 obtain ⟨C,hS,_⟩:=h
 have:=hS.at hi
 cases this with
 | p _ _ h=>cases h;rfl
theorem Sim.size{st:St}{a:Act}(h:Sim P C0 M0 w0 st a w):a.tmps.size=st.t.length:=by
 obtain ⟨C,hS,_⟩:=h
 exact hS.size
end
section
variable {P:Program} {ops:Array Oper} {md:Region.Mode} {S:World→Prop} {Q:Exit→Act→World→Prop} {L:Nat}

def pV(P:Program)(md:Region.Mode)(ops:Array Oper)(Q:Exit→Act→World→Prop)(S:World→Prop)(L:Nat):Nat→Array Bool→Act→World→Prop
 | 0,listed,a,w=>Region.ready md ops listed=[]∧Q .normal a w
 | fuel+1,listed,a,w=>(Region.ready md ops listed=[]→Q .normal a w) ∧
  ∀ i∈Region.ready md ops listed,wpOp P ops Q i (fun a' w'=>(i≠L→S w')∧pV P md ops Q S L fuel (listed.setIfInBounds i true) a' w') a w

theorem aAj:∀ (fuel:Nat) (listed:Array Bool) (a:Act) (w:World),pV P md ops Q S L fuel listed a w→wpAny P md ops Q fuel listed a w
 | 0,_,_,_,h=>h
 | fuel+1,_,_,_,h=>⟨h.1,fun i hi=>wpOp_mono (fun a' w' h'=>aAj fuel _ a' w' h'.2) (h.2 i hi)⟩

theorem aFt{i:Nat}{oi:Oper}{v:Value}(hi:ops[i]? = some oi)(hsel:∀ (j:Nat) (o:Oper) cs b,ops[j]? = some o→o.op ≠ .select cs b)
  (hQ:∀ c a w,Q (.panic c) (a.put oi.dst v) w→Q (.panic c) a w) (hL:∀ oL,ops[L]? = some oL→∃ e∈oL.after,Region.binds md e=true∧e.on=i) :
  ∀ (fuel:Nat) (listed:Array Bool) (a:Act) (w:World),
   (∀ j oj,ops[j]? = some oj→j≠i→listed.getD j true=false→(∀ e∈oj.after,Region.binds md e=true→e.on≠i)→oi.apart ops oj=true) →
   i∈Region.ready md ops listed→YieldsIf P ops S oi v a→S w →
   pV P md ops Q S L fuel (listed.setIfInBounds i true) (a.put oi.dst v) w→pV P md ops Q S L (fuel+1) listed a w:=by
 intro fuel
 induction fuel with
 | zero =>
  intro listed a w _ hr hy hS H
  refine ⟨fun h=>(by rw [h] at hr;cases hr),fun j hj => ?_⟩
  by_cases hji:j=i
  ·subst hji;exact hy.wpOp hi hS ⟨fun _=>hS,H⟩
  ·have:=ready_mono hj hji
   rw [H.1] at this
   cases this
 | succ fuel ih =>
  intro listed a w hfree hr hy hS H
  refine ⟨fun h=>(by rw [h] at hr;cases hr),fun j hj => ?_⟩
  by_cases hji:j=i
  ·subst hji;exact hy.wpOp hi hS ⟨fun _=>hS,H⟩
  ·have h1:=H.2 j (ready_mono hj hji)
   obtain ⟨hjun,oj,hoj,hall⟩:=mem_ready.1 hj
   have hnot:∀ e∈oj.after,Region.binds md e=true→e.on≠i:=fun e he hb heq=>by
    have h1:=hall e he hb
    have h0:=(mem_ready.1 hr).1
    rw [heq] at h1
    rcases Nat.lt_or_ge i listed.size with h' | h'
    ·simp [h'] at h0 h1;rw [h0] at h1;cases h1
    ·simp [Array.getElem?_eq_none h'] at h1
   have hjL:j≠L:=fun e=>by
    subst e
    obtain ⟨e,he,hb,ho⟩:=hL oj hoj
    exact hnot e he hb ho
   have h2:=wpOp_putIf hoj (hfree j oj hoj hji hjun hnot) (fun cs b=>hsel i oi cs b hi) (fun cs b=>hsel j oj cs b hoj) hQ hy h1
   have hfree':∀ k ok,ops[k]? = some ok→k≠i→(listed.setIfInBounds j true).getD k true=false →
     (∀ e∈ok.after,Region.binds md e=true→e.on≠i)→oi.apart ops ok=true:=fun k ok hk hki hun hno=>by
    refine hfree k ok hk hki ?_ hno
    by_cases hjk:j=k
    ·subst hjk;exact hjun
    ·rw [getD_set_ne true hjk] at hun;exact hun
   refine wpOp_mono (fun a' w' h3=>⟨h3.2.1,ih (listed.setIfInBounds j true) a' w' hfree' (ready_mono hr (Ne.symm hji)) h3.1 (h3.2.1 hjL) ?_⟩) h2
   rw [Array.setIfInBounds_comm _ _ hji]
   exact h3.2.2

def aFu(P:Program)(S:World→Prop):List (Oper × Value)→Act→Prop
 | [],_=>True
 | (o,v)::r,a=>(∀ W,S W→(execOp a.eval o).run P W = .ok (.value v) W)∧aFu P S r (a.put o.dst v)
def wT:List (Oper × Value)→Act→Act
 | [],a=>a
 | (o,v)::r,a=>wT r (a.put o.dst v)

def aDi(md:Region.Mode)(ops:Array Oper)(L:Nat)(rs:List Nat):List Nat→Array Bool→Bool
 | [],listed=>chain rs listed
 | t::ts,listed=>(match ops[t]? with | some o=>o.guard.isNone | none=>false) && (Region.ready md ops listed).contains t && Region.free md ops listed t &&
   (match ops[L]? with | some oL=>oL.after.any fun e=>Region.binds md e && e.on == t | none=>false) && aDi md ops L rs ts (listed.setIfInBounds t true)
where chain:List Nat→Array Bool→Bool
 | [],listed=>(Region.ready md ops listed).isEmpty
 | r::rs,listed=>(match ops[r]? with | some o=>o.guard.isNone | none=>false) && decide (Region.ready md ops listed=[r]) && chain rs (listed.setIfInBounds r true)

theorem sG{r fuel:Nat}{listed:Array Bool}{o:Oper}{a:Act}{w:World}(hr:Region.ready md ops listed=[r])(ho:ops[r]? = some o)(hg:o.guard=none){v:Value}{w':World}
  (hrun:(execOp a.eval o).run P w = .ok (.value v) w'∨(execOp a.eval o).run P w = .ok .skip w'∧v=undef) (hS:r≠L→S w') (h:pV P md ops Q S L fuel (listed.setIfInBounds r true) (a.put o.dst v) w'):pV P md ops Q S L (fuel+1) listed a w:=by
 refine ⟨fun h0=>(by rw [hr] at h0;cases h0),fun i hi => ?_⟩
 rw [hr] at hi
 obtain rfl:i=r:=by simpa using hi
 unfold wpOp
 simp only [ho]
 have hw:Region.wanted o (yielded ops a.tmps)=true:=by simp [Region.wanted,hg]
 rw [if_pos hw]
 refine .inl ?_
 unfold Oper.wp
 rcases hrun with hrun | ⟨hrun,rfl⟩
 ·rw [hrun];exact ⟨hS,h⟩
 ·rw [hrun];exact ⟨hS,h⟩

theorem aDj(hsel:Region.noSelect ops=true)(hQ:∀ c a w,¬ Q (.panic c) a w)(rs:List Nat){w:World}(hS:S w):∀ (ts:List Nat) (vs:List Value) (listed:Array Bool) (a:Act),vs.length=ts.length→aDi md ops L rs ts listed=true →
  aFu P S ((ts.filterMap fun i=>ops[i]?).zip vs) a→(∀ listed',aDi.chain md ops rs listed'=true→pV P md ops Q S L rs.length listed' (wT ((ts.filterMap fun i=>ops[i]?).zip vs) a) w)→pV P md ops Q S L (ts.length+rs.length) listed a w
 | [],vs,listed,a,hl,hB,hy,h=>by
  have:vs=[]:=by simpa using hl
  subst this
  simp only [List.length_nil,Nat.zero_add]
  exact h listed hB
 | t::ts,[],listed,a,hl,hB,hy,h=>by simp at hl
 | t::ts,v::vs,listed,a,hl,hB,hy,h=>by
  simp only [aDi,Bool.and_eq_true] at hB
  obtain ⟨⟨⟨⟨hp,hrd⟩,hf⟩,hlast⟩,hB'⟩:=hB
  cases ho:ops[t]? with
  | none=>rw [ho] at hp;cases hp
  | some o =>
   rw [ho] at hp
   simp only [Option.isNone_iff_eq_none] at hp
   have e0:(t::ts).filterMap (fun i=>ops[i]?)=o::ts.filterMap (fun i=>ops[i]?):=by simp [ho]
   rw [e0,List.zip_cons_cons] at hy h
   have hw:Region.wanted o (yielded ops a.tmps)=true:=by simp [Region.wanted,hp]
   have e:(t::ts).length+rs.length=(ts.length+rs.length)+1:=by simp;omega
   rw [e]
   refine aFt ho (Region.noSelect_spec hsel) (fun c a w hq=>absurd hq (hQ _ _ _)) (fun oL hoL => ?_) _ _ _ _ (Region.free_spec ho hf) (by simpa using hrd) (.inl ⟨hw,hy.1⟩) hS ?_
   ·rw [hoL] at hlast
    obtain ⟨e,he,hb⟩:=Array.any_eq_true'.1 hlast
    simp only [Bool.and_eq_true,beq_iff_eq] at hb
    exact ⟨e,he,hb.1,hb.2⟩
   ·exact aDj hsel hQ rs hS ts vs _ _ (by simpa using hl) hB' hy.2 h

def aFv(l:List Oper)(ts:List Nat)(r1 r2 r3:Nat):Bool :=
 Region.noSelect l.toArray && aDi .any l.toArray r3 [r1,r2,r3] ts (Array.replicate l.toArray.size false) && decide (ts.length+3=l.toArray.size) && decide (r1≠r3∧r2≠r3)

theorem bM{a:Act}{i:Nat}{v:Value}(h:i<a.tmps.size):(a.put (some i) v).eval (.tmp i)=v:=by
 simp [Act.eval,Act.put,h]
theorem bS{a:Act}{i j:Nat}{v:Value}(h:(i == j)=false):(a.put (some i) v).eval (.tmp j)=a.eval (.tmp j):=by
 have:i≠j:=by simpa using h
 simp [Act.eval,Act.put,this]
theorem dH{a:Act}{i:Nat}{v:Value}:(a.put (some i) v).tmps.size=a.tmps.size:=by simp [Act.put]
end
section
open Go.Maps Go.MapKept
open Go.ChangeMaps (setBlock)
variable {P:Program} {C C0:Cx} {M M0:Mem} {w w0:World}

section
variable {o:Oper} {a:Act} {W W':World}
theorem oI{t:TypeId}{x:Operand}{v r:Value}(ho:o.op = .load t x)(hx:a.eval x=v)(hr:(Instr.loadAt t v).run P W = .ok r W):(execOp a.eval o).run P W = .ok (.value r) W:=by
 unfold execOp;rw [ho];simp [hx,hr,Result.andThen]
theorem aZa{t:TypeId}{x k:Operand}{v u r:Value}(ho:o.op = .lookup t x k false)(hx:a.eval x=v)(hk:a.eval k=u)(hr:(Instr.lookup t v u false).run P W = .ok r W):(execOp a.eval o).run P W = .ok (.value r) W:=by
 unfold execOp;rw [ho];simp [hx,hk,hr,Result.andThen]
theorem aZb{t:TypeId}{x:Operand}{v r:Value}(ho:o.op = .buildSlice t 1 #[(0,x)])(hx:a.eval x=v)(hr:(Instr.buildSlice t 1 #[(0,v)]).run P W = .ok r W'):(execOp a.eval o).run P W = .ok (.value r) W':=by
 unfold execOp;rw [ho];simp [hx,hr,Result.andThen]
theorem aZc{t:TypeId}{s x:Operand}{v u r:Value}(ho:o.op = .call { callee := .builtin .append,args := #[s,x],argTypes := #[t,t] })(hs:a.eval s=v)(hx:a.eval x=u)(hr:(Builtin.append_ #[t,t] o.type #[v,u]).run P W = .ok r W') :
  (execOp a.eval o).run P W = .ok (.value r) W':=by
 unfold execOp
 simp only [ho,resolve,invoke,builtin,Sem.run_bind,Sem.run_pure,Result.andThen_ok,List.map_toArray,List.map_cons,List.map_nil,hs,hx,hr]
theorem aZd{t:TypeId}{m k x:Operand}{v u y:Value}(ho:o.op = .mapUpdate t m k x)(hm:a.eval m=v)(hk:a.eval k=u)(hx:a.eval x=y)(hr:(Instr.mapUpdate t v u y).run P W = .ok () W'):(execOp a.eval o).run P W = .ok .skip W':=by
 unfold execOp;rw [ho];simp [hm,hk,hx,hr,Result.andThen]
end

theorem vL{t:Nat}{i:TI}(hi:cM P t=some i)(ha:i.agg=false){b o:Nat}{v:Value}(h:w.cell? ⟨b,o,none⟩=some v):(Instr.loadAt t (.pointer (some ⟨b,o,none⟩))).run P w = .ok v w:=by
 unfold Instr.loadAt Instr.sureAddr
 simpa using kK hi ha h

def gT(mb:Nat)(es:Array MapEntry)(cl:Nat)(L:List Ent):List (Nat × Obj):=(mb,.map es cl)::L.map Ent.blk
theorem dA{mb:Nat}{es:Array MapEntry}{cl:Nat}{L:List Ent}{p:Nat × Obj}:p∈gT mb es cl L↔p=(mb,.map es cl)∨∃ e∈L,e.blk=p:=by simp [gT]
def nI(L:List Ent)(k:Int):List (List Int):=match pW L k with
 | some e=>e.l
 | none=>[]
theorem tZ{α β:Type}(f:α→β){x y:α}:∀ (L:List α),(L.map f).Nodup→x∈L→y∈L→f x=f y→x=y
 | [],_,h,_,_=>by simp at h
 | a::r,hn,hx,hy,he=>by
  rw [List.map_cons,List.nodup_cons] at hn
  rcases List.mem_cons.1 hx with e1 | h1
  ·rcases List.mem_cons.1 hy with e2 | h2
   ·rw [e1,e2]
   ·exact absurd (List.mem_map.2 ⟨y,h2,by rw [← he,e1]⟩) hn.1
  ·rcases List.mem_cons.1 hy with e2 | h2
   ·exact absurd (List.mem_map.2 ⟨x,h1,by rw [he,e2]⟩) hn.1
   ·exact tZ f r hn.2 h1 h2 he
theorem kR.b_inj{mb:Nat}{es:Array MapEntry}{L:List Ent}(h:kR mb es L){e e':Ent}(he:e∈L)(he':e'∈L)(hb:e.b=e'.b):e=e':=tZ (·.b) L (List.nodup_cons.1 h.blks).2 he he' hb
theorem kR.b_mb{mb:Nat}{es:Array MapEntry}{L:List Ent}(h:kR mb es L){e:Ent}(he:e∈L):e.b≠mb:=fun hb=>(List.nodup_cons.1 h.blks).1 (List.mem_map.2 ⟨e,he,hb⟩)

abbrev zD6:Value := .agg #[.int .i64 0,.int .i64 0,.int .i64 0,.int .i64 0,.int .i64 0,.int .i64 0]
def vsL(x:List Int):List Value:=x.map (Value.int .i64)
theorem aZe(w:World)(x:List Int):∀ j u,(vsL x)[j]? = some u→(w.alloc (.cells (vsL x).toArray 44)).cell? ((⟨w.heap.size,0,none⟩:Addr).add j)=some u:=fun j u h=>by
 have hj:j<(vsL x).length:=(List.getElem?_eq_some_iff.1 h).1
 have e:(⟨w.heap.size,0,none⟩:Addr).add j=⟨w.heap.size,j,none⟩:=by unfold Addr.add;split <;> simp_all
 rw [e]
 unfold World.cell? World.alloc
 simp [h]
theorem bJy{t kt:TypeId}{S22 ty:TypeId}{st:St}{a:Act}{mb cl:Nat}{es:Array MapEntry}{L:List Ent}{k:Int}{x:List Int}(hx6:x.length=6)(ht:P.underlying t=some (.map kt S22))(hkt:P.underlying kt=some (.int .i64))(h22:P.underlying S22=some (.slice 44))
  (hi3:(P.info? 44).map (fun i=>(i.zero,i.size,i.bytes))=some (some zD6,6,48))
  (hs:Sim P (C0.with (gT mb es cl L++C0.R)) M0 w0 st a w) (hd:∀ p∈gT mb es cl L,∀ q∈C0.R,p.1≠q.1) (hM:kR mb es L) (hk:(Lit.int .i64 k).wf=true) (hl:∀ e∈L,e.l.length≤1000) :
  ∃ v2 w2 es' cl' e,(Builtin.append_ #[S22,S22] ty #[oQ L k,.slice (some ⟨w.heap.size,0,none⟩) 1 1]).run P (w.alloc (.cells (vsL x).toArray 44)) = .ok v2 w2 ∧
   (∀ b,b<w.heap.size→(∀ q∈gT mb es cl L,q.1≠b)→w2.heap[b]? = w.heap[b]?)∧w2.heap[mb]? = w.heap[mb]? ∧
   (w.heap.size≤w2.heap.size∧((∀ x∈es.toList,x.born<cl)→∀ x∈es'.toList,x.born<cl')∧∀ p∈gT mb es' cl' (nJ L e),(∃ p0∈gT mb es cl L,p0.1=p.1)∨w.heap.size≤p.1) ∧
   (Instr.mapUpdate t (.map (some mb)) (.int .i64 k) v2).run P w2 = .ok () (setBlock w2 mb (.map es' cl'))∧kR mb es' (nJ L e)∧e.k=k∧e.l=nI L k++[x] ∧
   (∀ p∈gT mb es' cl' (nJ L e),∀ q∈C0.R,p.1≠q.1)∧Sim P (C0.with (gT mb es' cl' (nJ L e)++C0.R)) M0 w0 st a (setBlock w2 mb (.map es' cl')):=by
 obtain ⟨i,hi,hz,hz1,hz2⟩:=info_parts hi3
 have hhas:=hs.has
 have hmb:w.heap[mb]? = some (.map es cl):=hhas (mb,.map es cl) (by simp [gT])
 have hmlt:=cD hmb
 have hblkh:∀ e∈L,w.heap[e.b]? = some (.cells e.arr 44 (0,0)):=fun e he=>hhas e.blk (by simp [gT];exact .inr (.inl ⟨e,he,rfl⟩))
 obtain ⟨n1,n2,n3⟩:=iV w (.cells (vsL x).toArray 44)
 have hown:(w.alloc (.cells (vsL x).toArray 44)).ownsRow 0 44 6 (oQ L k) (nI L k).length ((nI L k).flatten.map (Value.int .i64))∧((oQ L k).ownBlock=none∨∃ e0∈L,e0.k=k∧(oQ L k).ownBlock=some e0.b)∧(nI L k).length≤1000:=by
  unfold oQ nI
  cases h:pW L k with
  | none=>exact ⟨bEl,.inl rfl,by simp⟩
  | some e0 =>
   obtain ⟨q1,q2⟩:=sH h
   exact ⟨Ent.owns (hM.ok e0 q1) ((n3 _ (cD (hblkh e0 q1))).trans (hblkh e0 q1)),.inr ⟨e0,q1,q2,rfl⟩,hl e0 q1⟩
 obtain ⟨ho,hbk,hlen⟩:=hown
 have hu6:uni 6 (nI L k++[x]):=by
  intro y hy
  rcases List.mem_append.1 hy with h | h
  ·unfold nI at h
   cases hq:pW L k with
   | none=>rw [hq] at h;cases h
   | some e0=>rw [hq] at h;exact (hM.ok e0 (sH hq).1).u y h
  ·simp at h;rw [h];exact hx6
 obtain ⟨v2,w2,hrun,ho2,hg2,hnil,hat⟩:=run_append_own_at (P:=P) (w:=w.alloc (.cells (vsL x).toArray 44)) 0 S22 ty 44 i zD6 6 48 h22 hi hz hz1 hz2 rfl (by decide) (oQ L k) (nI L k).length _ ho
  ⟨w.heap.size,0,none⟩ 1 1 (vsL x) (by simp [vsL,hx6]) (aZe w x) (fun u hu=>by obtain ⟨z,_,rfl⟩:=List.mem_map.1 hu;rfl) (by unfold maxLen;omega) (by omega) (Nat.zero_le _)
 have ho2':w2.ownsRow 0 44 6 v2 (nI L k++[x]).length ((nI L k++[x]).flatten.map (Value.int .i64)):=by
  rw [List.length_append,List.flatten_append,List.map_append,List.flatten_singleton]
  exact ho2
 obtain ⟨e,rfl,hel,rfl,heo,heh⟩:=bEm hk (by simp) hu6 ho2'
 have hvb:e.val.ownBlock=some e.b:=rfl
 have hwhere:(∃ e0∈L,e0.k=e.k∧e0.b=e.b)∨e.b=w.heap.size+1:=by
  rcases hat with h | h
  ·rcases hbk with h0 | ⟨e0,q1,q2,q3⟩
   ·rw [h0,hvb] at h;cases h
   ·rw [q3,hvb] at h;exact .inl ⟨e0,q1,q2,(Option.some.inj h).symm⟩
  ·rw [hvb] at h
   right
   have:=Option.some.inj h
   rw [this];simp
 have hrow:∀ b,b<w.heap.size→(∀ e0∈L,e0.k=e.k→e0.b≠b)→w2.heap[b]? = w.heap[b]? := fun b hb hno=>by
  refine (hg2.block b (by omega) (fun he => ?_)).trans (n3 b hb)
  rcases hbk with h0 | ⟨e0,q1,q2,q3⟩
  ·rw [h0] at he;cases he
  ·rw [q3] at he;exact hno e0 q1 q2 (Option.some.inj he).symm
 have hblk:e.b≠mb∧∀ y∈L,y.k≠e.k→y.b≠e.b:=by
  rcases hwhere with ⟨e0,q1,q2,q3⟩ | h
  ·refine ⟨q3 ▸ hM.b_mb q1,fun y hy hyk hb=>hyk ?_⟩
   have:=hM.b_inj hy q1 (hb.trans q3.symm)
   rw [this];exact q2
  ·refine ⟨by omega,fun y hy _ hb => ?_⟩
   have:=cD (hblkh y hy)
   omega
 have hmb2:w2.heap[mb]? = w.heap[mb]? := hrow mb hmlt fun e0 he0 _=>hM.b_mb he0
 obtain ⟨es',cl',hup,hM',hbn⟩:=bJz (P:=P) (w:=w2) ht hkt (hmb2.trans hmb) hM e heo hblk
 refine ⟨e.val,w2,es',cl',e,hrun,fun b hb hno=>hrow b hb fun e0 he0 _=>hno e0.blk (by simp [gT];exact .inr ⟨e0,he0,rfl⟩),hmb2,⟨by have:=hg2.size;omega,hbn,fun p hp => ?_⟩,hup,hM',rfl,hel,?_,?_⟩
 ·rcases dA.1 hp with rfl | ⟨y,hy,rfl⟩
  ·exact .inl ⟨_,dA.2 (.inl rfl),rfl⟩
  ·rcases gM.1 hy with ⟨q1,_⟩ | rfl
   ·exact .inl ⟨_,dA.2 (.inr ⟨y,q1,rfl⟩),rfl⟩
   ·rcases hwhere with ⟨e0,r1,_,r3⟩ | h
    ·exact .inl ⟨_,dA.2 (.inr ⟨e0,r1,rfl⟩),r3⟩
    ·exact .inr (by show w.heap.size≤y.b;omega)
 ·intro p hp q hq
  rcases dA.1 hp with rfl | ⟨y,hy,rfl⟩
  ·exact hd (mb,.map es cl) (by simp [gT]) q hq
  ·rcases gM.1 hy with ⟨q1,q2⟩ | rfl
   ·exact hd y.blk (dA.2 (.inr ⟨y,q1,rfl⟩)) q hq
   ·rcases hwhere with ⟨e0,q1,q2,q3⟩ | h
    ·exact fun hpq=>hd e0.blk (dA.2 (.inr ⟨e0,q1,rfl⟩)) q hq (by rw [← hpq];exact q3)
    ·have:=cD (hhas q (List.mem_append_right _ hq))
     intro hpq
     change y.b=q.1 at hpq
     omega
 ·have hne:∀ p∈C0.R,p.1≠mb∧∀ e0∈L,p.1≠e0.b:=fun p hp=>⟨fun h=>hd (mb,.map es cl) (by simp [gT]) p hp h.symm,fun e0 he0 h=>hd e0.blk (dA.2 (.inr ⟨e0,he0,rfl⟩)) p hp h.symm⟩
  have hset:∀ b,b≠mb→(setBlock w2 mb (.map es' cl')).heap[b]? = w2.heap[b]? := fun b hb=>by
   unfold setBlock
   simp only [Array.getElem?_setIfInBounds]
   rw [if_neg (Ne.symm hb)]
  have hsetm:(setBlock w2 mb (.map es' cl')).heap[mb]? = some (.map es' cl'):=by
   unfold setBlock
   have:mb<w2.heap.size:=cD (hmb2.trans hmb)
   simp [this]
  refine hs.beside (fun b=>b=mb∨∃ e0∈L,e0.k=e.k∧e0.b=b) (fun b hb => ?_) hg2.os hg2.tape hg2.output (by have:=hg2.size;unfold setBlock;simp only [Array.size_setIfInBounds];omega) (fun b hb hX => ?_) (fun p hp => ?_)
  ·rcases hb with rfl | ⟨e0,q1,q2,rfl⟩
   ·exact ⟨_,List.mem_append_left _ (dA.2 (.inl rfl))⟩
   ·exact ⟨_,List.mem_append_left _ (dA.2 (.inr ⟨e0,q1,rfl⟩))⟩
  ·rw [hset b (fun h=>hX (.inl h))]
   exact hrow b hb fun e0 q1 q2 q3=>hX (.inr ⟨e0,q1,q2,q3⟩)
  ·rcases List.mem_append.1 hp with hp | hp
   ·rcases dA.1 hp with rfl | ⟨y,hy,rfl⟩
    ·exact .inr ⟨hsetm,(fun h=>by cases h),.inr ⟨_,List.mem_append_left _ (dA.2 (.inl rfl))⟩⟩
    ·rcases gM.1 hy with ⟨q1,q2⟩ | rfl
     ·refine .inl ⟨List.mem_append_left _ (dA.2 (.inr ⟨y,q1,rfl⟩)),fun hX => ?_⟩
      rcases hX with hX | ⟨e0,r1,r2,r3⟩
      ·exact hM.b_mb q1 hX
      ·have:=hM.b_inj q1 r1 r3.symm
       exact q2 (this ▸ r2)
     ·refine .inr ⟨(hset _ hblk.1).trans heh,(fun h=>by cases h),?_⟩
      rcases hwhere with ⟨e0,r1,r2,r3⟩ | h
      ·exact .inr ⟨.cells e0.arr 44 (0,0),List.mem_append_left _ (dA.2 (.inr ⟨e0,r1,by unfold Ent.blk;rw [r3]⟩))⟩
      ·exact .inl (by show w.heap.size≤y.b;omega)
   ·refine .inl ⟨List.mem_append_right _ hp,fun hX => ?_⟩
    rcases hX with hX | ⟨e0,r1,r2,r3⟩
    ·exact (hne p hp).1 hX
    ·exact (hne p hp).2 e0 r1 r3.symm
end
end KV
end Go.Proofs
