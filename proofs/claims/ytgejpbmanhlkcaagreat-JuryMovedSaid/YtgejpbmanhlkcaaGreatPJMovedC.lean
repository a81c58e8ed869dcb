/- Parts of the proof of JMoved: laws of walks, contracts of functions, plain models. No condition. -/
import Derived.Shelf.SlSortCmp.NoneTotal
import Derived.Lib.OwnBridge
import Derived.Shelf.Slices.Clone
import Derived.Maps.Keyed
import Derived.Maps.AppendAt
import Derived.OrdersHeld
import Derived.Great.BuildSlice
import Derived.Lib.Small
import Derived.Below
import Derived.RangeFuncNested
import Derived.RangeFuncLeaves
import Derived.Shelf.Abstract
import Derived.OwnWalkIn
import Derived.TacticsInMore
import Derived.LoopNIn
import Derived.LoopIn
import Derived.OrdersIn
import Derived.Deep.WholeRow
import Derived.Test.YtgejpbmanhlkcaaGreatPJMovedB
set_option linter.unusedVariables false
set_option linter.unusedSimpArgs false
set_option maxRecDepth 100000
section
namespace Go.Proofs
open Go.RowKit Go.Lib Go.Sort Go.Shelf
namespace KV

set_option maxHeartbeats 1000000 in
theorem bTr(a b c d:Int)(W:World):Calls Tp 115 #[.agg #[.int .i64 a,.int .i64 b],.agg #[.int .i64 c,.int .i64 d]] W fun e w'=>e = .returned (.int .i64 (Lib.compareInt a c))∧∃ q os',w'=grow (W.drewN q) os':=by
 have hcon:=fun W'=>AnyG.cmp_Compare_int Tryz.cmpInt a c W'
 change ∀ W',Calls Tp 116 _ _ _ at hcon
 generalize Lib.compareInt a c=r at hcon ⊢
 go_enter Tryz.func115,Tryz.ntmps115
 go_wp2_with (go_at_call 116;refine (hcon _).mono ?_;rintro e w' ⟨rfl,rfl⟩)
 go_ret
 exact ⟨rfl,0,_,by rw [alloc_eq_grow,alloc_eq_grow,grow_grow];rfl⟩
set_option maxHeartbeats 1000000 in
theorem bTs(a b c d e f a' b' c' d' e' f':Int)(W:World):Calls Tp 118 #[.agg #[.int .i64 a,.int .i64 b,.int .i64 c,.int .i64 d,.int .i64 e,.int .i64 f],.agg #[.int .i64 a',.int .i64 b',.int .i64 c',.int .i64 d',.int .i64 e',.int .i64 f']] W fun z w'=>z = .returned (.int .i64 (Lib.compareInt a a'))∧∃ q os',w'=grow (W.drewN q) os':=by
 have hcon:=fun W'=>AnyG.cmp_Compare_int Tryz.cmpInt a a' W'
 change ∀ W',Calls Tp 116 _ _ _ at hcon
 generalize Lib.compareInt a a'=r at hcon ⊢
 go_enter Tryz.func118,Tryz.ntmps118
 go_wp2_with (go_at_call 116;refine (hcon _).mono ?_;rintro e w' ⟨rfl,rfl⟩)
 go_ret
 exact ⟨rfl,0,_,by rw [alloc_eq_grow,alloc_eq_grow,grow_grow];rfl⟩

theorem vA{C:Cx}{M:Mem}{w:World}{x:AV}{us:List Value}(h:dD C M w [x] us):∃ u,us=[u]∧Rep C M w x u:=by
 cases h with | cons _ u _ _ h hr=>cases hr;exact ⟨u,rfl,h⟩
theorem bCs{C:Cx}{M:Mem}{w:World}{x y:AV}{us:List Value}(h:dD C M w [x,y] us):∃ u v,us=[u,v]∧Rep C M w x u∧Rep C M w y v:=by
 cases h with | cons _ u _ _ h hr=>obtain ⟨v,rfl,h2⟩:=vA hr;exact ⟨u,v,rfl,h,h2⟩
theorem bNp{C:Cx}{M:Mem}{w:World}{f:Nat}{u:Value}(h:Rep C M w (.fn f [] []) u):u = .func (.func f) #[] #[]:=by
 cases h with
 | fn _ _ _ us vs h1 h2 h3 h4 =>
  have e1:us = #[]:=Array.eq_empty_of_size_eq_zero h1;have e2:vs = #[]:=Array.eq_empty_of_size_eq_zero h2;subst e1;subst e2;rfl

theorem aEr{k:Nat}{l:Lqq}(hu:uni k l){j:Nat}(hj:j<(l.flatten.map aA).length):(l.flatten.map aA)[j] = .v ((mH k (l.toArray)[j / k]!)[j % k]!):=by
 have hL:(l.flatten).length=l.length*k:=mY hu;have hj':j<l.length*k:=by rw [kQ6,hL] at hj;exact hj
 have hk:0<k:=by
  rcases Nat.eq_zero_or_pos k with h | h
  ·subst h;simp at hj'
  ·exact h
 have hq:j / k<l.length:=Nat.div_lt_of_lt_mul (by rw [Nat.mul_comm];exact hj')
 have hm:j % k<k:=aVb _ hk;have hx:l[j / k]? = some l[j / k]:=kQ0 hq;have hxl:l[j / k].length=k:=hu _ (gO hq);have hf:l[j / k][j % k]? = some l[j / k][j % k]:=kQ0 (by omega)
 have:=dL hu hx hf;have e:j / k*k+j % k=j:=by rw [Nat.mul_comm];exact Nat.div_add_mod j k
 rw [e,kQ0 hj] at this
 rw [Option.some.inj this];have e2:(l.toArray)[j / k]! = l[j / k]:=by simp [hq]
 rw [e2];unfold mH;simp only [List.getElem!_eq_getElem?_getD,gC,aNu hm,Option.map_some,Option.getD_some,kQ4,hf]

theorem aKo{f g ty k:Nat}(hsz:∃ i,Tryz.prog.info? ty=some i∧i.size=k)(hk:0<k)
  (hcall:∀ (blk cap:Nat) (d:Array (List Int)) (w:World),HoldsK (mH k) k w blk 0 d→blk<w.heap.size→d.size<4611686018427387904→Calls Tp f #[.slice (some ⟨blk,0,none⟩) d.size cap,.func (.func g) #[] #[]] w fun e w' =>
   e = .returned (.tuple #[])∧∃ d' n os,PermIn 0 d.size d d'∧SortedIn (ltOf cfL) 0 d.size d'∧w'=sortWorldK (mH k) k w blk 0 n d' os)
  (hnil:∀ (p:Option Addr) (cap:Nat) (fv:Value) (w:World),Calls Tp f #[.slice p 0 cap,fv] w fun e w'=>e = .returned (.tuple #[])∧w'=w)
  (l:Lqq) (hu:uni k l) (hn:(aK l 0).Nodup) (hl:l.length≤1000) :
  FMM Tp f [.own 0,.fn g [] []] [some (.row ty l.length (l.flatten.map aA))] (.tup []) [some (.row ty (aB l).length ((aB l).flatten.map aA))]:=fun C w us hus hM n=>by
 obtain ⟨u,v,rfl,hu0,hv⟩:=bCs hus;obtain rfl:=bNp hv;rw [eP];have hown:(C.ι 0=none∧u = .slice none 0 0∧l.length=0)∨∃ b,C.ι 0=some b∧u = .slice (some ⟨b,0,none⟩) l.length (C.κ 0):=by
  cases hu0 with
  | own _ _ h0 ha hr =>
   rcases hr _ _ _ rfl with ⟨q1,q2,q3⟩ | ⟨b,q1,q2⟩
   ·exact .inl ⟨q2,q1,q3⟩
   ·exact .inr ⟨b,q2,q1⟩
 rcases hown with ⟨hι,rfl,h0⟩ | ⟨b,hι,rfl⟩
 ·obtain rfl:l=[]:=aDb h0
  refine (callsIn_wide.2 (hnil none 0 _ w)).mono ?_;rintro e w' ⟨rfl,rfl⟩;have e0:aB []=[]:=by simp [aB]
  rw [e0];exact ⟨_,rfl,C,Fr.refl _ _ _,hM,.tup [] #[] rfl (fun i h=>by simp at h)⟩
 ·rcases hM.row 0 _ _ _ rfl with ⟨hn',_⟩ | ⟨b',arr,i,q1,q2,q3,q4,q5,q6,q7,q8,q9⟩
  ·rw [hι] at hn';cases hn'
  ·rw [hι] at q1;cases q1
   obtain ⟨i',hi',hs'⟩:=hsz;rw [q3] at hi';cases hi'
   have hcell:∀ j (hj:j<(l.flatten.map aA).length),arr.getD j undef=(mH k (l.toArray)[j / k]!)[j % k]! := fun j hj=>by
    have:=q8 j hj;rw [aEr hu hj] at this
    exact bTo this
   have hlen:(l.flatten.map aA).length=l.length*k:=by rw [kQ6,mY hu]
   have hle:l.length*k≤arr.size:=by rw [q4,hs'];exact Nat.mul_le_mul_right k q6
   have hH:HoldsK (mH k) k w b 0 l.toArray:=by
    unfold HoldsK Holds;intro j hj;rw [size_flatK] at hj
    have hj2:j<l.length*k:=by simpa using hj
    rw [get_flatK _ _ _ _ hj,← hcell j (by rw [hlen];exact hj2)]
    have hja:j<arr.size:=by omega
    rw [gP];refine ⟨?_,?_⟩
    ·unfold World.cell?
     simp only [q2];rw [kQ1,pU hja];simp
    ·unfold World.frozen?
     simp [q2]
   have hb:b<w.heap.size:=lt_of_block q2;have hc:=hcall b (C.κ 0) l.toArray w hH hb (by simp;omega)
   rw [List.size_toArray] at hc
   refine (callsIn_wide.2 hc).mono ?_;rintro e w' ⟨rfl,d',m,os,hp,hs,rfl⟩;have hd:d'.size=l.length:=by have:=hp.1;simpa using this
   have hperm:d'.toList.Perm l:=by
    have:=hp.2.2;have e1:d'.extract 0 l.length=d':=by rw [← hd];simp
    have e2:l.toArray.extract 0 l.length=l.toArray:=by simp
    rw [e1,e2] at this
    simpa using this
   have hsorted:d'.toList.Pairwise fun a b=>a.getD 0 0≤b.getD 0 0:=by
    rw [List.pairwise_iff_getElem];intro i j hi hj hij;have hj2:j<d'.size:=by simpa using hj
    have:=hs i j (Nat.zero_le _) hij (by omega)
    rw [ltL] at this
    have h3:=of_decide_eq_false this;rw [getElem!_pos d' i (by omega),getElem!_pos d' j hj2] at h3
    simpa using Int.not_lt.1 h3
   have hd':d'=(aB l).toArray:=by
    have:=aBn hn hperm hsorted;rw [← this]
   subst hd';have hsu:=lQ hu;have hsl:=eP l;have hw:∃ arr',(sortWorldK (mH k) k w b 0 m (aB l).toArray os).heap[b]? = some (.cells arr' ty (0,0))∧arr'.size=arr.size∧∀ j,j<l.length*k→arr'.getD j undef=(mH k (aB l).toArray[j / k]!)[j % k]! := by
    refine ⟨putCells id 0 (flatK (mH k) k (aB l).toArray) arr,?_,by simp [putCells],fun j hj => ?_⟩
    ·unfold sortWorldK grow putRowK putRow mapBlock
     have hlt:b<(w.heap.modify b (onCells (putCells id 0 (flatK (mH k) k (aB l).toArray)))).size:=by simpa using hb
     show (w.heap.modify b (onCells (putCells id 0 (flatK (mH k) k (aB l).toArray)))++os)[b]? = _;rw [Array.getElem?_append_left hlt,Array.getElem?_modify];simp [q2,onCells]
    ·have hja:j<arr.size:=by omega
     rw [kQ1];unfold putCells;rw [Array.getElem?_mapIdx,pU hja];have hsz:j<(flatK (mH k) k (aB l).toArray).size:=by rw [size_flatK];simpa [hsl] using hj
     simp only [Option.map_some,Option.getD_some,Nat.zero_le,true_and,gP,hsz,if_true,Nat.sub_zero,id];exact get_flatK _ _ _ _ (by simpa [hsl] using hj)
   obtain ⟨arr',w1,w2,w3⟩:=hw;have hlen2:((aB l).flatten.map aA).length=l.length*k:=by rw [kQ6,mY hsu,hsl]
   have hall:∀ j (h:j<((aB l).flatten.map aA).length),arr'.getD j undef=(mH k (aB l).toArray[j / k]!)[j % k]! := fun j h=>w3 j (by omega)
   obtain ⟨f1,m1⟩:=aOb (cs':=(aB l).flatten.map aA) (w':=sortWorldK (mH k) k w b 0 m (aB l).toArray os) hM hι q2 rfl rfl rfl
    (by unfold sortWorldK;rw [size_grow];show w.heap.size≤(w.heap.modify b _).size+_;simp)
    (fun b' h1 h2=>by
     show (w.heap.modify b (onCells (putCells id 0 (flatK (mH k) k (aB l).toArray)))++os)[b']? = _;rw [Array.getElem?_append_left (by simpa using h1),Array.getElem?_modify,if_neg (fun h=>h2 h.symm)])
    w1 w2 (by rw [hlen2,hlen]) (fun j h=>by rw [aEr hsu h,hall j h];exact .v _)
    (fun j h=>by
     rw [hall j h];have:=aBm k ((aB l).toArray[j / k]!) ((mH k (aB l).toArray[j / k]!)[j % k]!) (by
      have hm:j % k<(mH k (aB l).toArray[j / k]!).length:=by rw [aBl];exact aVb _ hk
      rw [List.getElem!_eq_getElem?_getD,kQ0 hm];exact gO hm)
     exact this)
   exact ⟨_,rfl,C,f1,m1,.tup [] #[] rfl (fun i h=>by simp at h)⟩
end KV
end Go.Proofs
end
section
namespace Go.Proofs
open Go.RowKit Go.Lib Go.Sort Go.Shelf
namespace KV

theorem info31:(Tryz.prog.info? 31).map (fun i=>i.size)=some 2:=by kernel_rfl
theorem info44:(Tryz.prog.info? 44).map (fun i=>i.size)=some 6:=by kernel_rfl
theorem rQ{t k:Nat}(h:(Tryz.prog.info? t).map (fun i=>i.size)=some k):∃ i,Tryz.prog.info? t=some i∧i.size=k:=by
 cases h2:Tryz.prog.info? t with
 | none=>rw [h2] at h;cases h
 | some i=>rw [h2] at h;exact ⟨i,rfl,by simpa using h⟩
theorem aWf(l:Lqq)(hu:uni 2 l)(hn:(aK l 0).Nodup)(hl:l.length≤1000):FMM Tp 114 [.own 0,.fn 115 [] []] [some (.row 31 l.length (l.flatten.map aA))] (.tup []) [some (.row 31 (aB l).length ((aB l).flatten.map aA))] :=
 aKo (k:=2) (rQ info31) (by omega)
  (fun blk cap d w hH hb hd=>AnyQ.slices_SortFunc Tryz.sortSk 2 Tryz.isAgg31 Tryz.sizeOf31 (mH 2) (aBl 2) (aBm 2) cfL bTt 115 #[] blk 0 cap d w (enters_of Tryz.func115 (by kernel_rfl) rfl)
   (fun m os dk _ x y=>bTr (x.getD 0 0) (x.getD 1 0) (y.getD 0 0) (y.getD 1 0) _) hH hb hd)
  (fun p cap fv w=>AnyF.slices_SortFunc_none Tryz.sortSk p cap fv w) l hu hn hl
theorem aWg(l:Lqq)(hu:uni 6 l)(hn:(aK l 0).Nodup)(hl:l.length≤1000):FMM Tp 117 [.own 0,.fn 118 [] []] [some (.row 44 l.length (l.flatten.map aA))] (.tup []) [some (.row 44 (aB l).length ((aB l).flatten.map aA))] :=
 aKo (k:=6) (rQ info44) (by omega)
  (fun blk cap d w hH hb hd=>AnyQ.slices_SortFunc Tryz.sortDc 6 Tryz.isAgg44 Tryz.sizeOf44 (mH 6) (aBl 6) (aBm 6) cfL bTt 118 #[] blk 0 cap d w (enters_of Tryz.func118 (by kernel_rfl) rfl)
   (fun m os dk _ x y=>bTs (x.getD 0 0) (x.getD 1 0) (x.getD 2 0) (x.getD 3 0) (x.getD 4 0) (x.getD 5 0) (y.getD 0 0) (y.getD 1 0) (y.getD 2 0) (y.getD 3 0) (y.getD 4 0) (y.getD 5 0) _) hH hb hd)
  (fun p cap fv w=>AnyF.slices_SortFunc_none Tryz.sortDc p cap fv w) l hu hn hl
end KV
end Go.Proofs
end
section
namespace Go.Proofs
open Go.RowKit Go.Lib Go.Shelf
namespace KV

theorem aWe{f ty k:Nat}(hsz:∃ i,Tryz.prog.info? ty=some i∧i.size=k)
  (h:∀ (p:Option Addr) (c:Nat) (w:World),Calls Tp f #[.slice p 0 c] w fun e w'=>∃ v',e = .returned v'∧w'.ownsRow w.heap.size ty k v' 0 []∧Below w.heap.size w w') {base:Nat} :
  FV Tp f [.p (.sl 0 [])] base (.own base) [(base,.row ty 0 [])]:=by
 refine ⟨.own 0,[some (.row ty 0 [])],fun C w us hus hM n => ?_,by simp [aTk,bBa,fO,bN,bBb,aTj]⟩
 obtain ⟨u,rfl,hu⟩:=vA hus;cases hu with
 | p _ _ hu =>
  have hu':∃ p c,u = .slice p 0 c:=by cases hu with | sl n cs p cap us h1 h2 h3 h4 h5=>exact ⟨p,cap,rfl⟩
  obtain ⟨p,c,rfl⟩:=hu';refine (callsIn_wide.2 (h p c w)).mono ?_;rintro e w' ⟨v',rfl,h1,h2⟩;have at1:∀ (id:Nat) (o:AO),([some (.row ty 0 [])]:Mem)[id]? = some (some o)→id=0∧o = .row ty 0 []:=fun id o h=>by
   cases id with
   | zero=>simp at h;exact ⟨rfl,h.symm⟩
   | succ i=>simp at h
  have hno:∀ (id:Nat) (o:AO),¬ (([]:Mem)[id]? = some (some o)):=fun id o h=>by simp at h
  have hc:(v' = .slice none 0 0)∨∃ g cap cur,v' = .slice (some ⟨g,0,none⟩) 0 cap∧w.heap.size≤g∧w'.heap[g]? = some (.cells cur ty (0,0))∧cap≤maxLen∧cur.size=cap*k:=by
   rcases h1.2 with ⟨he,h0⟩ | ⟨g,cp,cur,he,hg,hh,r1,r2,r3,r4⟩
   ·exact .inl he
   ·exact .inr ⟨g,cp,cur,he,hg,hh,r2,r3⟩
  have new:∀ b,v'.ownBlock=some b→w.heap.size≤b∧b<w'.heap.size:=fun b hb=>by
   rcases hc with rfl | ⟨g,cap,cur,rfl,hg,hh,_⟩
   ·cases hb
   ·cases hb;exact ⟨hg,lt_of_block hh⟩
  refine ⟨_,rfl,{ ι:=fun _=>v'.ownBlock,κ:=fun _=>(match v' with | .slice _ _ c=>c | _=>0),F:=C.F },⟨h2.os,h2.tape,h2.output,h2.size,fun b hb _=>h2.block b hb,fun id o h=>absurd h (hno id o),fun id o h=>absurd h (hno id o),fun id o h=>absurd h (hno id o),fun id o b hm hl hb => .inl (new b hb).1,fun _ h=>h,fun _ h => .inl h⟩,
   ⟨fun id ty n cs hm => ?_,fun id ty cs hm => ?_,fun id es cl hm => ?_,fun id id' o o' b q1 _ q2 _ _ _ => ?_,fun id o b hm hl hb hf => ?_,fun b hb=>kQ9 (hM.Fs b hb) h2.size,fun id o b hm hl hb=>(new b hb).2⟩,?_⟩
  ·obtain ⟨rfl,he⟩:=at1 _ _ hm
   cases he
   rcases hc with rfl | ⟨g,cap,cur,rfl,_,hh,r2,r3⟩
   ·exact .inl ⟨rfl,rfl,rfl⟩
   ·obtain ⟨i,hi,hs⟩:=hsz
    exact .inr ⟨g,cur,i,rfl,hh,hi,by rw [hs];exact r3,by simp,Nat.zero_le _,r2,fun j h=>by simp at h,fun j h=>by simp at h⟩
  ·obtain ⟨_,he⟩:=at1 _ _ hm;cases he
  ·obtain ⟨_,he⟩:=at1 _ _ hm;cases he
  ·obtain ⟨rfl,_⟩:=at1 _ _ q1
   obtain ⟨rfl,_⟩:=at1 _ _ q2;rfl
  ·have:=hM.Fs _ hf
   have:=(new b hb).1;omega
  ·have h0:v'.oneCell'=true:=by rcases hc with rfl | ⟨g,cap,cur,rfl,_⟩ <;> rfl
   refine .own 0 _ h0 ⟨_,rfl⟩ fun ty' n cs hm => ?_
   obtain ⟨_,he⟩:=at1 _ _ hm;cases he
   rcases hc with rfl | ⟨g,cap,cur,rfl,_⟩
   ·exact .inl ⟨rfl,rfl,rfl⟩
   ·exact .inr ⟨g,rfl,rfl⟩
end KV
end Go.Proofs
end
namespace Go.Proofs
namespace KV
section

theorem qQ{k:Nat}{l:Lqq}(hu:uni k l):(l.flatten.map aA).length=l.length*k:=by rw [kQ6,mY hu]
theorem bNl{l:Lqq}(h0:(l.flatten.map aA).length=l.length*2∧l.length≤1000000){base:Nat}:FV Tp 89 [(.p (fS l))] base (.own base) [(base,(.row 31 l.length (l.flatten.map aA)))]:=by
 exact FV.fin Tryz.func89 rfl (o:=[]) (l:=[_]) (by kernel_rfl) (gc h0 gn)
theorem bNm(l:Lqq)(hu:uni 2 l)(hl:l.length≤1000){base:Nat}:FV Tp 89 [.p (fS l)] base (.own base) [(base,.row 31 l.length (l.flatten.map aA))]:=bNl ⟨qQ hu,by omega⟩
theorem bNn{l:Lqq}(h0:(l.flatten.map aA).length=l.length*6∧l.length≤1000000){base:Nat}:FV Tp 90 [(.p (fS l))] base (.own base) [(base,(.row 44 l.length (l.flatten.map aA)))]:=by
 exact FV.fin Tryz.func90 rfl (o:=[]) (l:=[_]) (by kernel_rfl) (gc h0 gn)
theorem bNo(l:Lqq)(hu:uni 6 l)(hl:l.length≤1000){base:Nat}:FV Tp 90 [.p (fS l)] base (.own base) [(base,.row 44 l.length (l.flatten.map aA))]:=bNn ⟨qQ hu,by omega⟩
end
section

theorem bNj{dl:Int}{sk dc:Lqq}(h0:uni 2 sk)(h1:uni 6 dc)(h2:(aWh dl sk dc)=0)(h3:0≤(sk.length:Int)∧(sk.length:Int)≤(sk.length:Int)∧(sk.length:Int)≤1000000)(h4:0≤(dc.length:Int)∧(dc.length:Int)≤(dc.length:Int)∧(dc.length:Int)≤1000000)(h5:(aK sk 0).Nodup)(h6:sk.length≤1000)(h7:(aK dc 0).Nodup)(h8:dc.length≤1000){base:Nat}:FV Tp 45 [(.p (.agg (dH dl sk dc)))] base (.tup [(.p (.agg (dH dl (aB sk) (aB dc)))),(pI 0)]) []:=by
 exact FV.frz (FMM.fin (k:=0) (g:=⟨[],[],[3,5],[]⟩) rfl Tryz.func45 rfl (o:=[.c (pI (aWh dl sk dc)) [],bF,.c (.tup []) [(3,(.row 31 ((aB sk).length) ((aB sk).flatten.map aA)))],.c (.tup []) [(5,(.row 44 ((aB dc).length) ((aB dc).flatten.map aA)))]]) (l:=[FC Tp 117 [(.own 5),(.fn 118 [] [])] [(5,(.row 44 dc.length (dc.flatten.map aA)))] 7 (.tup []) [(5,(.row 44 ((aB dc).length) ((aB dc).flatten.map aA)))],FC Tp 114 [(.own 3),(.fn 115 [] [])] [(3,(.row 31 sk.length (sk.flatten.map aA)))] 7 (.tup []) [(3,(.row 31 ((aB sk).length) ((aB sk).flatten.map aA)))],(dc.flatten.map aA).length=dc.length*6∧dc.length=dc.length,(sk.flatten.map aA).length=sk.length*2∧sk.length=sk.length,_,_,_,_]) (by kernel_rfl) (gc (FMM.fc (ids:=[5]) (aWg dc h1 h7 h8) (by kernel_rfl)) (gc (FMM.fc (ids:=[3]) (aWf sk h0 h5 h6) (by kernel_rfl)) (gc ⟨qQ h1,rfl⟩ (gc ⟨qQ h0,rfl⟩ (gc h4 (gc h3 (gc (gM h2) (gc (fk 2 (bNq dl sk dc h0 h1) rfl) gn))))))))) (by kernel_rfl)
theorem bNk(dl:Int)(sk dc:Lqq)(h:cN dl sk dc){base:Nat}:FV Tp 45 [.p (.agg (dH dl sk dc))] base (.tup [.p (.agg (dH dl (aB sk) (aB dc))),.p (aA 0)]) []:=by
 have h1:=h.len;have h2:=h.len2;exact bNj h.us h.ud ((bHk h.us h.ud).2 h) (by omega) (by omega) h.ns (by omega) h.nd (by omega)
theorem aKn{k:Nat}{l:Lqq}{x:List Int}(hu:uni k l)(hx:x.length=k):uni k (l++[x]):=fun y hy=>by
 rcases jR.1 hy with h | h
 ·exact hu y h
 ·simp at h;rw [h];exact hx
end
section

theorem bCq:(65519:Int)≠0:=by first | decide | simp
abbrev aO(n:Int):PV := .v (.int .u8 n)
theorem bHd{l:List Int}{nx st n:Int}(h0:n≤1):FMM Tp 80 [(.ptr 0 0),(pI n)] [some (.box 129 [(.p (.sl l.length (l.map aO))),(pI nx),(.p (.v (.int .u32 st)))])] (pI 0) [some (.box 129 [(.p (.sl l.length (l.map aO))),(pI nx),(.p (.v (.int .u32 st)))])]:=by
 exact FMM.fin (k:=1) (g:=⟨[],[],[],[]⟩) rfl Tryz.func80 rfl (o:=[bT,bT,bT,bT,bT,bT,bT]) (l:=[_,_,_,_,_,_,_]) (by kernel_rfl) (g7c (aGr h0) gn)
theorem bHe{l:List Int}{nx st n:Int}(h0:(1:Int)<n)(h1:(l.length:Int)=0):FMM Tp 80 [(.ptr 0 0),(pI n)] [some (.box 129 [(.p (.sl l.length (l.map aO))),(pI nx),(.p (.v (.int .u32 st)))])] (pI 0) [some (.box 129 [(.p (.sl l.length (l.map aO))),(pI nx),(.p (.v (.int .u32 st)))])]:=by
 exact FMM.fin (k:=1) (g:=⟨[],[],[],[]⟩) rfl Tryz.func80 rfl (o:=[bF,bF,bF,bF,bF,bF,bF,bT]) (l:=[_,_,_,_,_,_,_,_]) (by kernel_rfl) (gc (fB h1) (g7c (pP h0) gn))
theorem bHf{l:List Int}{nx st n x0 r0 r1 r2:Int}(h0:(1:Int)<n)(h1:(l.length:Int)≠0)(h2:(l.length:Int)≠0)(h3:l[(nx.tmod (l.length:Int)).toNat]? = some x0)(h4:0≤(nx.tmod (l.length:Int)))(h5:inR (nx.tdiv (l.length:Int)))(h6:inR (nx+1))(h7:(IntKind.wrap .u32 (nx.tdiv (l.length:Int)))=0)(h8:n≤256)(h9:inR (IntKind.wrap .u32 x0))(h10:n≠0)(er0:r0=((IntKind.wrap .u32 x0).tmod n))(er1:r1=(nx+1))(er2:r2=((IntKind.wrap .u32 ((IntKind.wrap .u32 ((IntKind.wrap .u32 ((IntKind.wrap .u32 (st*45))+(IntKind.wrap .u32 x0)))+(IntKind.wrap .u32 ((77:Int)*(IntKind.wrap .u32 (nx.tdiv (l.length:Int)))))))+1)).tmod (65519:Int))):FMM Tp 80 [(.ptr 0 0),(pI n)] [some (.box 129 [(.p (.sl l.length (l.map aO))),(pI nx),(.p (.v (.int .u32 st)))])] (pI r0) [some (.box 129 [(.p (.sl l.length (l.map aO))),(pI r1),(.p (.v (.int .u32 r2)))])]:=by
 subst er0 er1 er2;exact FMM.fin (k:=1) (g:=⟨[],[],[],[]⟩) rfl Tryz.func80 rfl (o:=[bF,bF,bF,bF,bF,bF,bF,bF,.x (.v (.int .u8 x0)),bT,bT,bT,bT]) (l:=[_,_,_,_,_,_,_,_,_,_,(l.map aO)[((nx.tmod (l.length:Int)).toNat*1)]? = some (.v (.int .u8 x0)),_,_,_,_,_,_,_,_,_,_]) (by kernel_rfl) (gc h10 (gc h9 (gc (aGr h8) (g3c (fB h7) (gc bCq (gc h6 (gc h5 (gc h2 (gc (oU (i:=(nx.tmod (l.length:Int)).toNat) h3) (gc (oV (g:=aO) h4 h3) (gc h2 (gc (bQ h1) (g7c (pP h0) gn)))))))))))))
theorem bHg{l:List Int}{nx st n x0 r0 r1 r2:Int}(h0:(1:Int)<n)(h1:(l.length:Int)≠0)(h2:(l.length:Int)≠0)(h3:l[(nx.tmod (l.length:Int)).toNat]? = some x0)(h4:0≤(nx.tmod (l.length:Int)))(h5:inR (nx.tdiv (l.length:Int)))(h6:inR (nx+1))(h7:(IntKind.wrap .u32 (nx.tdiv (l.length:Int)))=0)(h8:(256:Int)<n)(h9:inR (IntKind.wrap .u32 ((IntKind.wrap .u32 (((IntKind.wrap .u32 ((IntKind.wrap .u32 ((IntKind.wrap .u32 ((IntKind.wrap .u32 (st*45))+(IntKind.wrap .u32 x0)))+(IntKind.wrap .u32 ((77:Int)*(IntKind.wrap .u32 (nx.tdiv (l.length:Int)))))))+1)).tmod (65519:Int))*256))+(IntKind.wrap .u32 x0))))(h10:n≠0)(er0:r0=((IntKind.wrap .u32 ((IntKind.wrap .u32 (((IntKind.wrap .u32 ((IntKind.wrap .u32 ((IntKind.wrap .u32 ((IntKind.wrap .u32 (st*45))+(IntKind.wrap .u32 x0)))+(IntKind.wrap .u32 ((77:Int)*(IntKind.wrap .u32 (nx.tdiv (l.length:Int)))))))+1)).tmod (65519:Int))*256))+(IntKind.wrap .u32 x0))).tmod n))(er1:r1=(nx+1))(er2:r2=((IntKind.wrap .u32 ((IntKind.wrap .u32 ((IntKind.wrap .u32 ((IntKind.wrap .u32 (st*45))+(IntKind.wrap .u32 x0)))+(IntKind.wrap .u32 ((77:Int)*(IntKind.wrap .u32 (nx.tdiv (l.length:Int)))))))+1)).tmod (65519:Int))):FMM Tp 80 [(.ptr 0 0),(pI n)] [some (.box 129 [(.p (.sl l.length (l.map aO))),(pI nx),(.p (.v (.int .u32 st)))])] (pI r0) [some (.box 129 [(.p (.sl l.length (l.map aO))),(pI r1),(.p (.v (.int .u32 r2)))])]:=by
 subst er0 er1 er2;exact FMM.fin (k:=1) (g:=⟨[],[],[],[]⟩) rfl Tryz.func80 rfl (o:=[bF,bF,bF,bF,bF,bF,bF,bF,.x (.v (.int .u8 x0)),bT,bT,bT,bF]) (l:=[_,_,_,_,_,_,_,_,_,_,(l.map aO)[((nx.tmod (l.length:Int)).toNat*1)]? = some (.v (.int .u8 x0)),_,_,_,_,_,_,_,_,_,_]) (by kernel_rfl) (gc h10 (gc h9 (gc (pP h8) (g3c (fB h7) (gc bCq (gc h6 (gc h5 (gc h2 (gc (oU (i:=(nx.tmod (l.length:Int)).toNat) h3) (gc (oV (g:=aO) h4 h3) (gc h2 (gc (bQ h1) (g7c (pP h0) gn)))))))))))))
theorem bHh{l:List Int}{nx st n x0 r0 r1 r2:Int}(h0:(1:Int)<n)(h1:(l.length:Int)≠0)(h2:(l.length:Int)≠0)(h3:l[(nx.tmod (l.length:Int)).toNat]? = some x0)(h4:0≤(nx.tmod (l.length:Int)))(h5:inR (nx.tdiv (l.length:Int)))(h6:inR (nx+1))(h7:(IntKind.wrap .u32 (nx.tdiv (l.length:Int)))≠0)(h8:inR (IntKind.wrap .u32 ((IntKind.wrap .u32 (((IntKind.wrap .u32 ((IntKind.wrap .u32 ((IntKind.wrap .u32 ((IntKind.wrap .u32 (st*45))+(IntKind.wrap .u32 x0)))+(IntKind.wrap .u32 ((77:Int)*(IntKind.wrap .u32 (nx.tdiv (l.length:Int)))))))+1)).tmod (65519:Int))*256))+(IntKind.wrap .u32 x0))))(h9:n≠0)(er0:r0=((IntKind.wrap .u32 ((IntKind.wrap .u32 (((IntKind.wrap .u32 ((IntKind.wrap .u32 ((IntKind.wrap .u32 ((IntKind.wrap .u32 (st*45))+(IntKind.wrap .u32 x0)))+(IntKind.wrap .u32 ((77:Int)*(IntKind.wrap .u32 (nx.tdiv (l.length:Int)))))))+1)).tmod (65519:Int))*256))+(IntKind.wrap .u32 x0))).tmod n))(er1:r1=(nx+1))(er2:r2=((IntKind.wrap .u32 ((IntKind.wrap .u32 ((IntKind.wrap .u32 ((IntKind.wrap .u32 (st*45))+(IntKind.wrap .u32 x0)))+(IntKind.wrap .u32 ((77:Int)*(IntKind.wrap .u32 (nx.tdiv (l.length:Int)))))))+1)).tmod (65519:Int))):FMM Tp 80 [(.ptr 0 0),(pI n)] [some (.box 129 [(.p (.sl l.length (l.map aO))),(pI nx),(.p (.v (.int .u32 st)))])] (pI r0) [some (.box 129 [(.p (.sl l.length (l.map aO))),(pI r1),(.p (.v (.int .u32 r2)))])]:=by
 subst er0 er1 er2;exact FMM.fin (k:=1) (g:=⟨[],[],[],[]⟩) rfl Tryz.func80 rfl (o:=[bF,bF,bF,bF,bF,bF,bF,bF,.x (.v (.int .u8 x0)),bF,bF,bF]) (l:=[_,_,_,_,_,_,_,_,_,(l.map aO)[((nx.tmod (l.length:Int)).toNat*1)]? = some (.v (.int .u8 x0)),_,_,_,_,_,_,_,_,_,_]) (by kernel_rfl) (gc h9 (gc h8 (g3c (bQ h7) (gc bCq (gc h6 (gc h5 (gc h2 (gc (oU (i:=(nx.tmod (l.length:Int)).toNat) h3) (gc (oV (g:=aO) h4 h3) (gc h2 (gc (bQ h1) (g7c (pP h0) gn))))))))))))
def u32w(z:Int):Int:=IntKind.wrap .u32 z
theorem aGv(z:Int):0≤u32w z∧u32w z<4294967296:=by
 unfold u32w IntKind.wrap;simp only [IntKind.bits,IntKind.signed,Bool.false_and,Bool.false_eq_true,if_false];omega
def aKl(l:List Int)(nx:Int):Int:=u32w (l.getD (nx.tmod (l.length:Int)).toNat 0)
def bCr(l:List Int)(nx st:Int):Int:=(u32w (u32w (u32w (u32w (st*45)+aKl l nx)+u32w (77*u32w (nx.tdiv (l.length:Int))))+1)).tmod 65519
def bP(n:Int)(l:List Int)(nx st:Int):Int × Int × Int:=if n≤1∨l.length=0 then (0,nx,st) else
 (if u32w (nx.tdiv (l.length:Int))=0∧n≤256 then (aKl l nx).tmod n else (u32w (u32w (bCr l nx st*256)+aKl l nx)).tmod n,nx+1,bCr l nx st)
theorem gW(n:Int)(l:List Int)(nx st:Int):0≤(bP n l nx st).1∧((bP n l nx st).1<n∨(bP n l nx st).1=0)∧nx≤(bP n l nx st).2.1∧(bP n l nx st).2.1≤nx+1:=by
 unfold bP
 split
 ·simp;omega
 ·rename_i h
  simp only [not_or] at h
  have h1:∀ z:Int,0≤z→0≤z.tmod n∧z.tmod n<n:=fun z hz=>⟨Int.tmod_nonneg n hz,Int.tmod_lt_of_pos z (by omega)⟩
  have h2:=(aGv (l.getD (nx.tmod (l.length:Int)).toNat 0)).1;have h3:=(aGv (u32w (bCr l nx st*256)+aKl l nx)).1;dsimp only
  split
  ·have:=h1 _ h2;unfold aKl;omega
  ·have:=h1 _ h3;omega
abbrev jS(l:List Int)(nx st:Int):AO := .box 129 [.p (.sl l.length (l.map aO)),.p (aA nx),.p (.v (.int .u32 st))]
theorem aGw(n:Int)(l:List Int)(nx st:Int)(h:0≤nx∧nx≤1000000000):FMM Tp 80 [.ptr 0 0,.p (aA n)] [some (jS l nx st)] (.p (aA (bP n l nx st).1)) [some (jS l (bP n l nx st).2.1 (bP n l nx st).2.2)]:=by
 by_cases h1:n≤1
 ·have e:bP n l nx st=(0,nx,st):=by unfold bP;rw [if_pos (.inl h1)]
  rw [e];exact bHd h1
 ·by_cases h2:l.length=0
  ·have e:bP n l nx st=(0,nx,st):=by unfold bP;rw [if_pos (.inr h2)]
   rw [e];exact bHe (by omega) (by omega)
  ·have h0:0≤nx.tmod (l.length:Int)∧nx.tmod (l.length:Int)<(l.length:Int):=⟨Int.tmod_nonneg _ h.1,Int.tmod_lt_of_pos _ (by omega)⟩
   have hq:0≤nx.tdiv (l.length:Int)∧nx.tdiv (l.length:Int)≤nx:=⟨Int.tdiv_nonneg h.1 (by omega),Int.tdiv_le_self _ h.1⟩
   have hi:(nx.tmod (l.length:Int)).toNat<l.length:=by omega
   have hg:l[(nx.tmod (l.length:Int)).toNat]? = some (l.getD (nx.tmod (l.length:Int)).toNat 0):=by
    rw [kQ0 hi,kQ4,kQ0 hi];rfl
   have hw:∀ z,inR (IntKind.wrap .u32 z):=fun z=>by have:=aGv z;unfold u32w at this;unfold inR;omega
   unfold bP;rw [if_neg (by simp only [not_or];exact ⟨h1,h2⟩)]
   dsimp only
   by_cases h3:u32w (nx.tdiv (l.length:Int))=0
   ·by_cases h4:n≤256
    ·rw [if_pos ⟨h3,h4⟩]
     exact bHf (by omega) (by omega) (by omega) hg h0.1 (by unfold inR;omega) (by unfold inR;omega) h3 h4 (hw _) (by omega) rfl rfl rfl
    ·rw [if_neg (fun h=>h4 h.2)]
     exact bHg (by omega) (by omega) (by omega) hg h0.1 (by unfold inR;omega) (by unfold inR;omega) h3 (by omega) (hw _) (by omega) rfl rfl rfl
   ·rw [if_neg (fun h=>h3 h.1)]
    exact bHh (by omega) (by omega) (by omega) hg h0.1 (by unfold inR;omega) (by unfold inR;omega) h3 (hw _) (by omega) rfl rfl rfl
theorem bHi{n:Int}{l:List Int}{nx st:Int}{r0:Bool}{r1 r2:Int}(h0:0≤nx∧nx≤1000000000)(er0:r0=(((bP n l nx st).1) == (0:Int)))(er1:r1=((bP n l nx st).2.1))(er2:r2=((bP n l nx st).2.2)):FMM Tp 81 [(.ptr 0 0),(pI n)] [some (.box 129 [(.p (.sl l.length (l.map aO))),(pI nx),(.p (.v (.int .u32 st)))])] (pB r0) [some (.box 129 [(.p (.sl l.length (l.map aO))),(pI r1),(.p (.v (.int .u32 r2)))])]:=by
 subst er0 er1 er2;exact FMM.fin (k:=1) (g:=⟨[],[],[],[]⟩) rfl Tryz.func81 rfl (o:=[.c (pI ((bP n l nx st).1)) [(0,(.box 129 [(.p (.sl l.length (l.map aO))),(pI ((bP n l nx st).2.1)),(.p (.v (.int .u32 ((bP n l nx st).2.2))))]))]]) (l:=[FC Tp 80 [(.ptr 0 0),(pI n)] [(0,(.box 129 [(.p (.sl l.length (l.map aO))),(pI nx),(.p (.v (.int .u32 st)))]))] 1 (pI ((bP n l nx st).1)) [(0,(.box 129 [(.p (.sl l.length (l.map aO))),(pI ((bP n l nx st).2.1)),(.p (.v (.int .u32 ((bP n l nx st).2.2))))]))]]) (by kernel_rfl) (gc (FMM.fc (ids:=[0]) (aGw n l nx st h0) (by kernel_rfl)) gn)
theorem bNh{lo hi:Int}{l:List Int}{nx st r0 r1 r2:Int}(h0:inR (hi-lo))(h1:inR ((hi-lo)+1))(h2:0≤nx∧nx≤1000000000)(h3:inR (lo+((bP ((hi-lo)+1) l nx st).1)))(er0:r0=(lo+((bP ((hi-lo)+1) l nx st).1)))(er1:r1=((bP ((hi-lo)+1) l nx st).2.1))(er2:r2=((bP ((hi-lo)+1) l nx st).2.2)):FMM Tp 79 [(.ptr 0 0),(pI lo),(pI hi)] [some (.box 129 [(.p (.sl l.length (l.map aO))),(pI nx),(.p (.v (.int .u32 st)))])] (pI r0) [some (.box 129 [(.p (.sl l.length (l.map aO))),(pI r1),(.p (.v (.int .u32 r2)))])]:=by
 subst er0 er1 er2;exact FMM.fin (k:=1) (g:=⟨[],[],[],[]⟩) rfl Tryz.func79 rfl (o:=[.c (pI ((bP ((hi-lo)+1) l nx st).1)) [(0,(.box 129 [(.p (.sl l.length (l.map aO))),(pI ((bP ((hi-lo)+1) l nx st).2.1)),(.p (.v (.int .u32 ((bP ((hi-lo)+1) l nx st).2.2))))]))]]) (l:=[_,FC Tp 80 [(.ptr 0 0),(pI ((hi-lo)+1))] [(0,(.box 129 [(.p (.sl l.length (l.map aO))),(pI nx),(.p (.v (.int .u32 st)))]))] 1 (pI ((bP ((hi-lo)+1) l nx st).1)) [(0,(.box 129 [(.p (.sl l.length (l.map aO))),(pI ((bP ((hi-lo)+1) l nx st).2.1)),(.p (.v (.int .u32 ((bP ((hi-lo)+1) l nx st).2.2))))]))],_,_]) (by kernel_rfl) (gc h3 (gc (FMM.fc (ids:=[0]) (aGw ((hi-lo)+1) l nx st h2) (by kernel_rfl)) (gc h1 (gc h0 gn))))
def pQ(n:Int)(l:List Int)(nx st:Int):Bool × Int × Int:=((bP n l nx st).1 == 0,(bP n l nx st).2)
theorem bHj(n:Int)(l:List Int)(nx st:Int)(h:0≤nx∧nx≤1000000000):FMM Tp 81 [.ptr 0 0,.p (aA n)] [some (jS l nx st)] (.p (blP (pQ n l nx st).1)) [some (jS l (pQ n l nx st).2.1 (pQ n l nx st).2.2)]:=bHi h rfl rfl rfl
theorem aKm(n:Int)(l:List Int)(nx st:Int):nx≤(pQ n l nx st).2.1∧(pQ n l nx st).2.1≤nx+1:=(gW n l nx st).2.2
def nB(lo hi:Int)(l:List Int)(nx st:Int):Int × Int × Int:=(lo+(bP (hi-lo+1) l nx st).1,(bP (hi-lo+1) l nx st).2)
theorem zJ(lo hi:Int)(l:List Int)(nx st:Int):lo≤(nB lo hi l nx st).1∧((nB lo hi l nx st).1≤hi∨(nB lo hi l nx st).1=lo)∧nx≤(nB lo hi l nx st).2.1∧(nB lo hi l nx st).2.1≤nx+1:=by
 have:=gW (hi-lo+1) l nx st;unfold nB;dsimp only;omega
theorem bNi(lo hi:Int)(l:List Int)(nx st:Int)(h:0≤nx∧nx≤1000000000)(hb:(-1000000≤lo∧lo≤1000000) ∧ -1000000≤hi∧hi≤1000000):FMM Tp 79 [.ptr 0 0,.p (aA lo),.p (aA hi)] [some (jS l nx st)] (.p (aA (nB lo hi l nx st).1)) [some (jS l (nB lo hi l nx st).2.1 (nB lo hi l nx st).2.2)]:=by
 have:=zJ lo hi l nx st;exact bNh (by unfold inR;omega) (by unfold inR;omega) h (show inR (nB lo hi l nx st).1 by unfold inR;omega) rfl rfl rfl
theorem tJ{r nx' st':Int}(lo hi:Int)(l:List Int)(nx st:Int)(h:0≤nx∧nx≤1000000000)(hb:(-1000000≤lo∧lo≤1000000) ∧ -1000000≤hi∧hi≤1000000)(e:nB lo hi l nx st=(r,nx',st')):FMM Tp 79 [.ptr 0 0,.p (aA lo),.p (aA hi)] [some (jS l nx st)] (pI r) [some (jS l nx' st')]:=by
 have:=bNi lo hi l nx st h hb;rw [e] at this
 exact this
theorem eC{r nx' st':Int}(n:Int)(l:List Int)(nx st:Int)(h:0≤nx∧nx≤1000000000)(e:bP n l nx st=(r,nx',st')):FMM Tp 80 [.ptr 0 0,.p (aA n)] [some (jS l nx st)] (pI r) [some (jS l nx' st')]:=by
 have:=aGw n l nx st h;rw [e] at this
 exact this
theorem zK{r:Bool}{nx' st':Int}(n:Int)(l:List Int)(nx st:Int)(h:0≤nx∧nx≤1000000000)(e:pQ n l nx st=(r,nx',st')):FMM Tp 81 [.ptr 0 0,.p (aA n)] [some (jS l nx st)] (pB r) [some (jS l nx' st')]:=by
 have:=bHj n l nx st h;rw [e] at this
 exact this
theorem bTq{l:List Int}:FMM Tp 17 [(.p (.sl l.length (l.map aO)))] [] (.ptr 0 0) [some (.box 129 [(.p (.sl l.length (l.map aO))),(pI 0),(.p (.v (.int .u32 (17:Int))))])]:=by
 exact FMM.fin (k:=0) (g:=⟨[],[0],[],[]⟩) rfl Tryz.func17 rfl (o:=[]) (l:=[]) (by kernel_rfl) (gn)
end
section

end
section

theorem bPe(a b:Int):skB [a,b]=(within a 1 999 && within b (-1) 360000):=rfl
end
section

end
section
mutual
def wkP:PV→PV
 | .v (.slice none 0 0) => .sl 0 []
 | .agg cs => .agg (bDd cs)
 | x=>x
def bDd:List PV→List PV
 | []=>[]
 | x::r=>wkP x::bDd r
end
theorem aKr:∀ l:List PV,bDd l=l.map wkP
 | []=>by simp [bDd]
 | x::r=>by rw [bDd,aKr r];rfl
def wk1:AV→AV
 | .p x => .p (wkP x)
 | x=>x
theorem bIp{F:Nat→Prop}{w:World}{x:PV}{u:Value}(h:cQ F w x u):cQ F w (wkP x) u:=by
 induction h with
 | v x =>
  unfold wkP
  split
  ·rename_i e
   cases e;exact .sl 0 [] none 0 (fun _=>undef) (eA _) (Nat.zero_le _) (fun i h=>by simp at h) (fun i h=>by simp at h) (fun i h=>by simp at h)
  ·rename_i e;cases e
  ·exact .v x
 | sl n cs p cap us h1 h2 h3 h4 h5 _=>unfold wkP;exact .sl n cs p cap us h1 h2 h3 h4 h5
 | agg cs vs h0 h1 _ ih =>
  unfold wkP;rw [aKr];exact .agg _ vs (fun i hi=>h0 i (by simpa using hi)) (by simpa using h1) (fun i hi=>by
   have:=ih i (by simpa using hi)
   simpa using this)
 | mp es b cl arr us hb h0 h1 h2 h3 _=>unfold wkP;exact .mp es b cl arr us hb h0 h1 h2 h3
 | rp cs off b o us h1 h2 h3 _=>unfold wkP;exact .rp cs off b o us h1 h2 h3
theorem bIq{C:Cx}{M:Mem}{w:World}{x:AV}{u:Value}(h:Rep C M w x u):Rep C M w (wk1 x) u:=by
 cases h with
 | p x u h=>exact .p _ _ (bIp h)
 | _=>unfold wk1;constructor <;> assumption
theorem dD.wk{C:Cx}{M:Mem}{w:World}:∀ {args:List AV} {us:List Value},dD C M w args us→dD C M w (args.map wk1) us
 | [],_,h=>by cases h;exact .nil
 | x::l,_,h=>by
  cases h with
  | cons _ _ u us h1 h2=>exact .cons _ _ _ _ (bIq h1) h2.wk
theorem FMM.argwk{P:Program}{f:Nat}{args args':List AV}{r:AV}{M M':Mem}(h:FMM P f args' M r M')(e:args.map wk1=args'):FMM P f args M r M':=fun C w us hus hM n=>by
 subst e;exact h C w us hus.wk hM n
theorem FV.argwk{P:Program}{f base:Nat}{args args':List AV}{y:AV}{L:Upd}(h:FV P f args' base y L)(e:args.map wk1=args'):FV P f args base y L:=by
 obtain ⟨r,M1,h1,h2⟩:=h;exact ⟨r,M1,h1.argwk e,h2⟩
end
section

end
section

end
section

noncomputable abbrev kG:Code:=sub (cd Tryz.f16) [1,1,1,1,0,1,0,0,1,1,0,0,1,1,1,1,0]
noncomputable abbrev mZ:Code:=sub (cd Tryz.f16) [1,1,1,1,0,1,0,0]
noncomputable abbrev nA:Code:=sub (cd Tryz.f16) [1,1,1,1,0,1,0,0,1,1,0,0,1,1,1,0]
noncomputable abbrev wR:Code:=sub (cd Tryz.f16) [1,1,0,1,0,0]
def gV(nd:Int)(l:List Int)(r0:Int)(i:Nat)(skn:Nat)(skc:List PV)(mx:Int)(tt:Int):St:=⟨fr 121 [(0,(.ptr 0 0)),(2,(pI nd)),(6,(.ptr 1 0)),(7,(.ptr 2 0)),(15,(pI r0)),(16,(pI (i:Int)))],[some (.box 129 [(.p (.sl l.length (l.map aO))),(pI mx),(.p (.v (.int .u32 tt)))]),some (.box 26 [(pI 0),(.p cJ),(.p cJ)]),some (.box 26 [(pI 30),(.own 3),(.p cJ)]),some (.row 31 skn skc)]⟩
def dW(l:List Int)(sk'4:Lqq)(r7:Int)(j:Nat)(dcn:Nat)(dcc:List PV)(nu:Int)(mx:Int)(tt:Int):St:=⟨fr 121 [(0,(.ptr 0 0)),(6,(.ptr 1 0)),(7,(.ptr 2 0)),(10,(pI nu)),(40,(pI r7)),(41,(pI (j:Int)))],[some (.box 129 [(.p (.sl l.length (l.map aO))),(pI mx),(.p (.v (.int .u32 tt)))]),some (.box 26 [(pI 0),(.p cJ),(.p cJ)]),some (.box 26 [(pI 30),(.own 3),(.own 4)]),some (.row 31 sk'4.length (sk'4.flatten.map aA)),some (.row 44 dcn dcc)]⟩
theorem bNg{ns nd:Int}{l:List Int}{nx st r0 m1 t2:Int}{i'3:Nat}{sk'4:Lqq}{mx'5 tt'6 r7 m8 t9:Int}{j'10:Nat}{dc'11:Lqq}{nu'12 mx'13 tt'14:Int}(h0:0≤nx∧nx≤1000000000)(h1:(-1000000≤1∧(1:Int)≤1000000) ∧ -1000000≤ns∧ns≤1000000)(h2:nB (1:Int) ns l nx st=(r0,m1,t2))(hl3:aI Tp 1 wR (gV nd l r0 0 0 [] m1 t2) (.exit 0) (gV nd l r0 i'3 sk'4.length (sk'4.flatten.map aA) mx'5 tt'6))(h4:inR (nd+1))(h5:0≤mx'5∧mx'5≤1000000000)(h6:bP (nd+1) l mx'5 tt'6=(r7,m8,t9))(hl7:aI Tp 1 mZ (dW l sk'4 r7 0 0 [] (0:Int) m8 t9) (.exit 2) (dW l sk'4 r7 j'10 dc'11.length (dc'11.flatten.map aA) nu'12 mx'13 tt'14)):FMM Tp 16 [(.ptr 0 0),(pI ns),(pI nd)] [some (.box 129 [(.p (.sl l.length (l.map aO))),(pI nx),(.p (.v (.int .u32 st)))])] (.p (.agg (dH 30 sk'4 dc'11))) [some (.box 129 [(.p (.sl l.length (l.map aO))),(pI mx'13),(.p (.v (.int .u32 tt'14)))])]:=by
 exact FMM.fin (k:=1) (g:=⟨[],[],[3,4],[]⟩) rfl Tryz.func16 rfl (o:=[.c (pI r0) [(0,(.box 129 [(.p (.sl l.length (l.map aO))),(pI m1),(.p (.v (.int .u32 t2)))]))],.k 1 ⟨(rng [(1,1),(3,3),(8,2),(12,3),(17,20)]),[1,2,3],[],[(102001,31)]⟩ (.exit 0) (gV nd l r0 i'3 sk'4.length (sk'4.flatten.map aA) mx'5 tt'6),.c (pI r7) [(0,(.box 129 [(.p (.sl l.length (l.map aO))),(pI m8),(.p (.v (.int .u32 t9)))]))],.k 1 ⟨(rng [(1,5),(8,2),(11,29),(42,78)]),[1,2,3,4],[],[(102002,44)]⟩ (.exit 2) (dW l sk'4 r7 j'10 dc'11.length (dc'11.flatten.map aA) nu'12 mx'13 tt'14)]) (l:=[_,FC Tp 80 [(.ptr 0 0),(pI (nd+1))] [(0,(.box 129 [(.p (.sl l.length (l.map aO))),(pI mx'5),(.p (.v (.int .u32 tt'6)))]))] 4 (pI r7) [(0,(.box 129 [(.p (.sl l.length (l.map aO))),(pI m8),(.p (.v (.int .u32 t9)))]))],_,_,FC Tp 79 [(.ptr 0 0),(pI 1),(pI ns)] [(0,(.box 129 [(.p (.sl l.length (l.map aO))),(pI nx),(.p (.v (.int .u32 st)))]))] 3 (pI r0) [(0,(.box 129 [(.p (.sl l.length (l.map aO))),(pI m1),(.p (.v (.int .u32 t2)))]))]]) (by kernel_rfl) (gc hl7.code (gc (FMM.fc (ids:=[0]) (eC (nd+1) l mx'5 tt'6 h5 h6) (by kernel_rfl)) (gc h4 (gc hl3.code (gc (FMM.fc (ids:=[0]) (tJ (1:Int) ns l nx st h0 h1 h2) (by kernel_rfl)) gn)))))
theorem aVp{nd:Int}{l:List Int}{r0:Int}{i:Nat}{sk:Lqq}{mx tt r100 m101 t102:Int}{r103:Bool}{m104 t105:Int}{i':Nat}{sk':Lqq}(h0:(i:Int)<r0)(h1:inR ((3:Int)*(i:Int)))(h2:inR (((3:Int)*(i:Int))+1))(h3:0≤mx∧mx≤1000000000)(h4:bP (20:Int) l mx tt=(r100,m101,t102))(h5:inR ((50:Int)*r100))(h6:inR ((15000:Int)+((50:Int)*r100)))(h7:0≤m101∧m101≤1000000000)(h8:pQ (12:Int) l m101 t102=(r103,m104,t105))(h9:r103=true)(h10:[(aA (((3:Int)*(i:Int))+1)),(aA (-1:Int))].length=1*2∧sk.length+1≤1000000)(h11:inR (((i+1):Nat):Int))(ei':i'=(i+1))(esk'n:sk'.length=(sk.length+1))(esk'c:sk'.flatten.map aA=((sk.flatten.map aA)++[(aA (((3:Int)*(i:Int))+1)),(aA (-1:Int))])):aC Tp 1 wR (gV nd l r0 i sk.length (sk.flatten.map aA) mx tt) .normal (gV nd l r0 i' sk'.length (sk'.flatten.map aA) m104 t105):=by
 subst ei';have raw:aC Tp 1 wR (gV nd l r0 i sk.length (sk.flatten.map aA) mx tt) .normal (gV nd l r0 (i+1) (sk.length+1) ((sk.flatten.map aA)++[(aA (((3:Int)*(i:Int))+1)),(aA (-1:Int))]) m104 t105):=aC.fin (g:=⟨(rng [(1,1),(3,3),(8,2),(12,3),(17,20)]),[1,2,6],[],[]⟩) (o:=[bT,.c (pI r100) [(0,(.box 129 [(.p (.sl l.length (l.map aO))),(pI m101),(.p (.v (.int .u32 t102)))]))],.c (pB r103) [(0,(.box 129 [(.p (.sl l.length (l.map aO))),(pI m104),(.p (.v (.int .u32 t105)))]))],bT]) (l:=[_,_,[(aA (((3:Int)*(i:Int))+1)),(aA (-1:Int))].length=2,_,FC Tp 81 [(.ptr 0 0),(pI 12)] [(0,(.box 129 [(.p (.sl l.length (l.map aO))),(pI m101),(.p (.v (.int .u32 t102)))]))] 5 (pB r103) [(0,(.box 129 [(.p (.sl l.length (l.map aO))),(pI m104),(.p (.v (.int .u32 t105)))]))],_,_,FC Tp 80 [(.ptr 0 0),(pI 20)] [(0,(.box 129 [(.p (.sl l.length (l.map aO))),(pI mx),(.p (.v (.int .u32 tt)))]))] 4 (pI r100) [(0,(.box 129 [(.p (.sl l.length (l.map aO))),(pI m101),(.p (.v (.int .u32 t102)))]))],_,_,_]) (by kernel_rfl) (gc h11 (gc h10 (gc (by first | decide | simp) (gc h9 (gc (FMM.fc (ids:=[0]) (zK (12:Int) l m101 t102 h7 h8) (by kernel_rfl)) (gc h6 (gc h5 (gc (FMM.fc (ids:=[0]) (eC (20:Int) l mx tt h3 h4) (by kernel_rfl)) (gc h2 (gc h1 (gc (bB h0) gn)))))))))))
 exact raw.cast (by rw [esk'n,esk'c])
theorem aVq{nd:Int}{l:List Int}{r0:Int}{i:Nat}{sk:Lqq}{mx tt r100 m101 t102:Int}{r103:Bool}{m104 t105:Int}{i':Nat}{sk':Lqq}(h0:(i:Int)<r0)(h1:inR ((3:Int)*(i:Int)))(h2:inR (((3:Int)*(i:Int))+1))(h3:0≤mx∧mx≤1000000000)(h4:bP (20:Int) l mx tt=(r100,m101,t102))(h5:inR ((50:Int)*r100))(h6:inR ((15000:Int)+((50:Int)*r100)))(h7:0≤m101∧m101≤1000000000)(h8:pQ (12:Int) l m101 t102=(r103,m104,t105))(h9:r103=false)(h10:[(aA (((3:Int)*(i:Int))+1)),(aA ((15000:Int)+((50:Int)*r100)))].length=1*2∧sk.length+1≤1000000)(h11:inR (((i+1):Nat):Int))(ei':i'=(i+1))(esk'n:sk'.length=(sk.length+1))(esk'c:sk'.flatten.map aA=((sk.flatten.map aA)++[(aA (((3:Int)*(i:Int))+1)),(aA ((15000:Int)+((50:Int)*r100)))])):aC Tp 1 wR (gV nd l r0 i sk.length (sk.flatten.map aA) mx tt) .normal (gV nd l r0 i' sk'.length (sk'.flatten.map aA) m104 t105):=by
 subst ei';have raw:aC Tp 1 wR (gV nd l r0 i sk.length (sk.flatten.map aA) mx tt) .normal (gV nd l r0 (i+1) (sk.length+1) ((sk.flatten.map aA)++[(aA (((3:Int)*(i:Int))+1)),(aA ((15000:Int)+((50:Int)*r100)))]) m104 t105):=aC.fin (g:=⟨(rng [(1,1),(3,3),(8,2),(12,3),(17,20)]),[1,2,6],[],[]⟩) (o:=[bT,.c (pI r100) [(0,(.box 129 [(.p (.sl l.length (l.map aO))),(pI m101),(.p (.v (.int .u32 t102)))]))],.c (pB r103) [(0,(.box 129 [(.p (.sl l.length (l.map aO))),(pI m104),(.p (.v (.int .u32 t105)))]))],bF]) (l:=[_,_,[(aA (((3:Int)*(i:Int))+1)),(aA ((15000:Int)+((50:Int)*r100)))].length=2,_,FC Tp 81 [(.ptr 0 0),(pI 12)] [(0,(.box 129 [(.p (.sl l.length (l.map aO))),(pI m101),(.p (.v (.int .u32 t102)))]))] 5 (pB r103) [(0,(.box 129 [(.p (.sl l.length (l.map aO))),(pI m104),(.p (.v (.int .u32 t105)))]))],_,_,FC Tp 80 [(.ptr 0 0),(pI 20)] [(0,(.box 129 [(.p (.sl l.length (l.map aO))),(pI mx),(.p (.v (.int .u32 tt)))]))] 4 (pI r100) [(0,(.box 129 [(.p (.sl l.length (l.map aO))),(pI m101),(.p (.v (.int .u32 t102)))]))],_,_,_]) (by kernel_rfl) (gc h11 (gc h10 (gc (by first | decide | simp) (gc h9 (gc (FMM.fc (ids:=[0]) (zK (12:Int) l m101 t102 h7 h8) (by kernel_rfl)) (gc h6 (gc h5 (gc (FMM.fc (ids:=[0]) (eC (20:Int) l mx tt h3 h4) (by kernel_rfl)) (gc h2 (gc h1 (gc (bB h0) gn)))))))))))
 exact raw.cast (by rw [esk'n,esk'c])
theorem aVr{nd:Int}{l:List Int}{r0:Int}{i:Nat}{sk:Lqq}{mx tt:Int}(h0:r0≤(i:Int)):aC Tp 1 wR (gV nd l r0 i sk.length (sk.flatten.map aA) mx tt) (.exit 0) (gV nd l r0 i sk.length (sk.flatten.map aA) mx tt):=by
 exact aC.fin (g:=⟨(rng [(1,1),(3,3),(8,2),(12,3),(17,20)]),[1,2,3],[],[]⟩) (o:=[bF]) (l:=[_]) (by kernel_rfl) (gc (bO h0) gn)
def dS(l:List Int)(sk'4:Lqq)(r7:Int)(j:Nat)(dc:Lqq)(na:Int)(ma:Int)(ta:Int)(c0:Int)(c1:Int)(c2:Int)(c3:Int)(c4:Int)(c5:Int):St:=⟨fr 121 [(0,(.ptr 0 0)),(6,(.ptr 1 0)),(7,(.ptr 2 0)),(10,(pI na)),(11,(.ptr 5 0)),(40,(pI r7)),(41,(pI (j:Int))),(42,(pB (decide ((j:Int)<r7))))],[some (.box 129 [(.p (.sl l.length (l.map aO))),(pI ma),(.p (.v (.int .u32 ta)))]),some (.box 26 [(pI 0),(.p cJ),(.p cJ)]),some (.box 26 [(pI 30),(.own 3),(.own 4)]),some (.row 31 sk'4.length (sk'4.flatten.map aA)),some (.row 44 dc.length (dc.flatten.map aA)),some (.box 44 [(pI c0),(pI c1),(pI c2),(pI c3),(pI c4),(pI c5)])]⟩
def cV(l:List Int)(sk'4:Lqq)(r7:Int)(j:Nat)(dc:Lqq)(nb:Int)(mb:Int)(tb:Int)(d0:Int)(d1:Int)(d2:Int)(d3:Int)(d4:Int)(d5:Int):St:=⟨fr 121 [(0,(.ptr 0 0)),(6,(.ptr 1 0)),(7,(.ptr 2 0)),(10,(pI nb)),(11,(.ptr 5 0)),(40,(pI r7)),(41,(pI (j:Int))),(42,(pB (decide ((j:Int)<r7))))],[some (.box 129 [(.p (.sl l.length (l.map aO))),(pI mb),(.p (.v (.int .u32 tb)))]),some (.box 26 [(pI 0),(.p cJ),(.p cJ)]),some (.box 26 [(pI 30),(.own 3),(.own 4)]),some (.row 31 sk'4.length (sk'4.flatten.map aA)),some (.row 44 dc.length (dc.flatten.map aA)),some (.box 44 [(pI d0),(pI d1),(pI d2),(pI d3),(pI d4),(pI d5)])]⟩
theorem aVs{l:List Int}{sk'4:Lqq}{r7:Int}{j:Nat}{dc:Lqq}{nu mx tt r200 m201 t202 r203 m204 t205 r206 m207 t208:Int}{r209:Bool}{m210 t211 na'212 ma'213 ta'214 c0'215 c1'216 c2'217 c3'218 c4'219 c5'220 nb'221 mb'222 tb'223 d0'224 d1'225 d2'226 d3'227 d4'228 d5'229:Int}{j':Nat}{dc':Lqq}(h0:(j:Int)<r7)(h1:0≤mx∧mx≤1000000000)(h2:(-1000000≤1∧(1:Int)≤1000000) ∧ -1000000≤2∧(2:Int)≤1000000)(h3:nB (1:Int) (2:Int) l mx tt=(r200,m201,t202))(h4:inR (nu+r200))(h5:0≤m201∧m201≤1000000000)(h6:bP (10:Int) l m201 t202=(r203,m204,t205))(h7:0≤m204∧m204≤1000000000)(h8:bP (36:Int) l m204 t205=(r206,m207,t208))(h9:(1:Int)<(nu+r200))(h10:r203<5)(h11:0≤m207∧m207≤1000000000)(h12:pQ (3:Int) l m207 t208=(r209,m210,t211))(h13:r209=true)(hl14:aC Tp 1 nA (dS l sk'4 r7 j dc (nu+r200) m210 t211 (nu+r200) (7:Int) r206 (0:Int) (0:Int) (0:Int)) .normal (dS l sk'4 r7 j dc na'212 ma'213 ta'214 c0'215 c1'216 c2'217 c3'218 c4'219 c5'220))(hl15:aC Tp 1 kG (cV l sk'4 r7 j dc na'212 ma'213 ta'214 c0'215 c1'216 c2'217 c3'218 c4'219 c5'220) .normal (cV l sk'4 r7 j dc nb'221 mb'222 tb'223 d0'224 d1'225 d2'226 d3'227 d4'228 d5'229))(h16:[(aA d0'224),(aA d1'225),(aA d2'226),(aA d3'227),(aA d4'228),(aA d5'229)].length=1*6∧dc.length+1≤1000000)(h17:inR (((j+1):Nat):Int))(ej':j'=(j+1))(edc'n:dc'.length=(dc.length+1))(edc'c:dc'.flatten.map aA=((dc.flatten.map aA)++[(aA d0'224),(aA d1'225),(aA d2'226),(aA d3'227),(aA d4'228),(aA d5'229)])):aC Tp 1 mZ (dW l sk'4 r7 j dc.length (dc.flatten.map aA) nu mx tt) .normal (dW l sk'4 r7 j' dc'.length (dc'.flatten.map aA) nb'221 mb'222 tb'223):=by
 subst ej'
 have raw:aC Tp 1 mZ (dW l sk'4 r7 j dc.length (dc.flatten.map aA) nu mx tt) .normal (dW l sk'4 r7 (j+1) (dc.length+1) ((dc.flatten.map aA)++[(aA d0'224),(aA d1'225),(aA d2'226),(aA d3'227),(aA d4'228),(aA d5'229)]) nb'221 mb'222 tb'223):=aC.fin (g:=⟨(rng [(1,5),(8,2),(11,29),(42,78)]),[1,2,3,7],[],[]⟩) (o:=[bT,.c (pI r200) [(0,(.box 129 [(.p (.sl l.length (l.map aO))),(pI m201),(.p (.v (.int .u32 t202)))]))],.c (pI r203) [(0,(.box 129 [(.p (.sl l.length (l.map aO))),(pI m204),(.p (.v (.int .u32 t205)))]))],.c (pI r206) [(0,(.box 129 [(.p (.sl l.length (l.map aO))),(pI m207),(.p (.v (.int .u32 t208)))]))],bT,bT,bT,bT,bT,bT,.c (pB r209) [(0,(.box 129 [(.p (.sl l.length (l.map aO))),(pI m210),(.p (.v (.int .u32 t211)))]))],bT,bT,.k 2 ⟨(rng [(1,5),(8,2),(12,28),(43,77)]),[1,2,3,4,5],[],[]⟩ .normal (dS l sk'4 r7 j dc na'212 ma'213 ta'214 c0'215 c1'216 c2'217 c3'218 c4'219 c5'220),.k 1 ⟨(rng [(1,5),(8,2),(12,28),(43,77)]),[1,2,3,4,5],[],[]⟩ .normal (cV l sk'4 r7 j dc nb'221 mb'222 tb'223 d0'224 d1'225 d2'226 d3'227 d4'228 d5'229)]) (l:=[_,_,[(aA d0'224),(aA d1'225),(aA d2'226),(aA d3'227),(aA d4'228),(aA d5'229)].length=6,aC Tp 1 kG (cV l sk'4 r7 j dc na'212 ma'213 ta'214 c0'215 c1'216 c2'217 c3'218 c4'219 c5'220) .normal (cV l sk'4 r7 j dc nb'221 mb'222 tb'223 d0'224 d1'225 d2'226 d3'227 d4'228 d5'229),aC Tp 1 nA (dS l sk'4 r7 j dc (nu+r200) m210 t211 (nu+r200) (7:Int) r206 (0:Int) (0:Int) (0:Int)) .normal (dS l sk'4 r7 j dc na'212 ma'213 ta'214 c0'215 c1'216 c2'217 c3'218 c4'219 c5'220),_,_,FC Tp 81 [(.ptr 0 0),(pI 3)] [(0,(.box 129 [(.p (.sl l.length (l.map aO))),(pI m207),(.p (.v (.int .u32 t208)))]))] 6 (pB r209) [(0,(.box 129 [(.p (.sl l.length (l.map aO))),(pI m210),(.p (.v (.int .u32 t211)))]))],_,_,_,_,_,_,FC Tp 80 [(.ptr 0 0),(pI 36)] [(0,(.box 129 [(.p (.sl l.length (l.map aO))),(pI m204),(.p (.v (.int .u32 t205)))]))] 5 (pI r206) [(0,(.box 129 [(.p (.sl l.length (l.map aO))),(pI m207),(.p (.v (.int .u32 t208)))]))],FC Tp 80 [(.ptr 0 0),(pI 10)] [(0,(.box 129 [(.p (.sl l.length (l.map aO))),(pI m201),(.p (.v (.int .u32 t202)))]))] 5 (pI r203) [(0,(.box 129 [(.p (.sl l.length (l.map aO))),(pI m204),(.p (.v (.int .u32 t205)))]))],_,FC Tp 79 [(.ptr 0 0),(pI 1),(pI 2)] [(0,(.box 129 [(.p (.sl l.length (l.map aO))),(pI mx),(.p (.v (.int .u32 tt)))]))] 5 (pI r200) [(0,(.box 129 [(.p (.sl l.length (l.map aO))),(pI m201),(.p (.v (.int .u32 t202)))]))],_]) (by kernel_rfl) (gc h17 (gc h16 (gc (by first | decide | simp) (gc hl15 (gc hl14 (gc h13 (gc (bB h10) (gc (FMM.fc (ids:=[0]) (zK (3:Int) l m207 t208 h11 h12) (by kernel_rfl)) (g2c (bB h10) (g4c (bB h9) (gc (FMM.fc (ids:=[0]) (eC (36:Int) l m204 t205 h7 h8) (by kernel_rfl)) (gc (FMM.fc (ids:=[0]) (eC (10:Int) l m201 t202 h5 h6) (by kernel_rfl)) (gc h4 (gc (FMM.fc (ids:=[0]) (tJ (1:Int) (2:Int) l mx tt h1 h2 h3) (by kernel_rfl)) (gc (bB h0) gn)))))))))))))))
 exact raw.cast (by rw [edc'n,edc'c])
theorem aVt{l:List Int}{sk'4:Lqq}{r7:Int}{j:Nat}{dc:Lqq}{nu mx tt r200 m201 t202 r203 m204 t205 r206 m207 t208:Int}{r209:Bool}{m210 t211 na'212 ma'213 ta'214 c0'215 c1'216 c2'217 c3'218 c4'219 c5'220 nb'221 mb'222 tb'223 d0'224 d1'225 d2'226 d3'227 d4'228 d5'229:Int}{j':Nat}{dc':Lqq}(h0:(j:Int)<r7)(h1:0≤mx∧mx≤1000000000)(h2:(-1000000≤1∧(1:Int)≤1000000) ∧ -1000000≤2∧(2:Int)≤1000000)(h3:nB (1:Int) (2:Int) l mx tt=(r200,m201,t202))(h4:inR (nu+r200))(h5:0≤m201∧m201≤1000000000)(h6:bP (10:Int) l m201 t202=(r203,m204,t205))(h7:0≤m204∧m204≤1000000000)(h8:bP (36:Int) l m204 t205=(r206,m207,t208))(h9:(1:Int)<(nu+r200))(h10:r203<5)(h11:0≤m207∧m207≤1000000000)(h12:pQ (3:Int) l m207 t208=(r209,m210,t211))(h13:r209=false)(hl14:aC Tp 1 nA (dS l sk'4 r7 j dc (nu+r200) m210 t211 (nu+r200) r203 r206 (0:Int) (0:Int) (0:Int)) .normal (dS l sk'4 r7 j dc na'212 ma'213 ta'214 c0'215 c1'216 c2'217 c3'218 c4'219 c5'220))(hl15:aC Tp 1 kG (cV l sk'4 r7 j dc na'212 ma'213 ta'214 c0'215 c1'216 c2'217 c3'218 c4'219 c5'220) .normal (cV l sk'4 r7 j dc nb'221 mb'222 tb'223 d0'224 d1'225 d2'226 d3'227 d4'228 d5'229))(h16:[(aA d0'224),(aA d1'225),(aA d2'226),(aA d3'227),(aA d4'228),(aA d5'229)].length=1*6∧dc.length+1≤1000000)(h17:inR (((j+1):Nat):Int))(ej':j'=(j+1))(edc'n:dc'.length=(dc.length+1))(edc'c:dc'.flatten.map aA=((dc.flatten.map aA)++[(aA d0'224),(aA d1'225),(aA d2'226),(aA d3'227),(aA d4'228),(aA d5'229)])):aC Tp 1 mZ (dW l sk'4 r7 j dc.length (dc.flatten.map aA) nu mx tt) .normal (dW l sk'4 r7 j' dc'.length (dc'.flatten.map aA) nb'221 mb'222 tb'223):=by
 subst ej'
 have raw:aC Tp 1 mZ (dW l sk'4 r7 j dc.length (dc.flatten.map aA) nu mx tt) .normal (dW l sk'4 r7 (j+1) (dc.length+1) ((dc.flatten.map aA)++[(aA d0'224),(aA d1'225),(aA d2'226),(aA d3'227),(aA d4'228),(aA d5'229)]) nb'221 mb'222 tb'223):=aC.fin (g:=⟨(rng [(1,5),(8,2),(11,29),(42,78)]),[1,2,3,7],[],[]⟩) (o:=[bT,.c (pI r200) [(0,(.box 129 [(.p (.sl l.length (l.map aO))),(pI m201),(.p (.v (.int .u32 t202)))]))],.c (pI r203) [(0,(.box 129 [(.p (.sl l.length (l.map aO))),(pI m204),(.p (.v (.int .u32 t205)))]))],.c (pI r206) [(0,(.box 129 [(.p (.sl l.length (l.map aO))),(pI m207),(.p (.v (.int .u32 t208)))]))],bT,bT,bT,bT,bT,bT,.c (pB r209) [(0,(.box 129 [(.p (.sl l.length (l.map aO))),(pI m210),(.p (.v (.int .u32 t211)))]))],bT,bF,.k 1 ⟨(rng [(1,5),(8,2),(12,28),(43,77)]),[1,2,3,4,5],[],[]⟩ .normal (dS l sk'4 r7 j dc na'212 ma'213 ta'214 c0'215 c1'216 c2'217 c3'218 c4'219 c5'220),.k 1 ⟨(rng [(1,5),(8,2),(12,28),(43,77)]),[1,2,3,4,5],[],[]⟩ .normal (cV l sk'4 r7 j dc nb'221 mb'222 tb'223 d0'224 d1'225 d2'226 d3'227 d4'228 d5'229)]) (l:=[_,_,[(aA d0'224),(aA d1'225),(aA d2'226),(aA d3'227),(aA d4'228),(aA d5'229)].length=6,aC Tp 1 kG (cV l sk'4 r7 j dc na'212 ma'213 ta'214 c0'215 c1'216 c2'217 c3'218 c4'219 c5'220) .normal (cV l sk'4 r7 j dc nb'221 mb'222 tb'223 d0'224 d1'225 d2'226 d3'227 d4'228 d5'229),aC Tp 1 nA (dS l sk'4 r7 j dc (nu+r200) m210 t211 (nu+r200) r203 r206 (0:Int) (0:Int) (0:Int)) .normal (dS l sk'4 r7 j dc na'212 ma'213 ta'214 c0'215 c1'216 c2'217 c3'218 c4'219 c5'220),_,_,FC Tp 81 [(.ptr 0 0),(pI 3)] [(0,(.box 129 [(.p (.sl l.length (l.map aO))),(pI m207),(.p (.v (.int .u32 t208)))]))] 6 (pB r209) [(0,(.box 129 [(.p (.sl l.length (l.map aO))),(pI m210),(.p (.v (.int .u32 t211)))]))],_,_,_,_,_,_,FC Tp 80 [(.ptr 0 0),(pI 36)] [(0,(.box 129 [(.p (.sl l.length (l.map aO))),(pI m204),(.p (.v (.int .u32 t205)))]))] 5 (pI r206) [(0,(.box 129 [(.p (.sl l.length (l.map aO))),(pI m207),(.p (.v (.int .u32 t208)))]))],FC Tp 80 [(.ptr 0 0),(pI 10)] [(0,(.box 129 [(.p (.sl l.length (l.map aO))),(pI m201),(.p (.v (.int .u32 t202)))]))] 5 (pI r203) [(0,(.box 129 [(.p (.sl l.length (l.map aO))),(pI m204),(.p (.v (.int .u32 t205)))]))],_,FC Tp 79 [(.ptr 0 0),(pI 1),(pI 2)] [(0,(.box 129 [(.p (.sl l.length (l.map aO))),(pI mx),(.p (.v (.int .u32 tt)))]))] 5 (pI r200) [(0,(.box 129 [(.p (.sl l.length (l.map aO))),(pI m201),(.p (.v (.int .u32 t202)))]))],_]) (by kernel_rfl) (gc h17 (gc h16 (gc (by first | decide | simp) (gc hl15 (gc hl14 (gc h13 (gc (bB h10) (gc (FMM.fc (ids:=[0]) (zK (3:Int) l m207 t208 h11 h12) (by kernel_rfl)) (g2c (bB h10) (g4c (bB h9) (gc (FMM.fc (ids:=[0]) (eC (36:Int) l m204 t205 h7 h8) (by kernel_rfl)) (gc (FMM.fc (ids:=[0]) (eC (10:Int) l m201 t202 h5 h6) (by kernel_rfl)) (gc h4 (gc (FMM.fc (ids:=[0]) (tJ (1:Int) (2:Int) l mx tt h1 h2 h3) (by kernel_rfl)) (gc (bB h0) gn)))))))))))))))
 exact raw.cast (by rw [edc'n,edc'c])
theorem aVu{l:List Int}{sk'4:Lqq}{r7:Int}{j:Nat}{dc:Lqq}{nu mx tt r200 m201 t202 r203 m204 t205 r206 m207 t208 na'209 ma'210 ta'211 c0'212 c1'213 c2'214 c3'215 c4'216 c5'217 nb'218 mb'219 tb'220 d0'221 d1'222 d2'223 d3'224 d4'225 d5'226:Int}{j':Nat}{dc':Lqq}(h0:(j:Int)<r7)(h1:0≤mx∧mx≤1000000000)(h2:(-1000000≤1∧(1:Int)≤1000000) ∧ -1000000≤2∧(2:Int)≤1000000)(h3:nB (1:Int) (2:Int) l mx tt=(r200,m201,t202))(h4:inR (nu+r200))(h5:0≤m201∧m201≤1000000000)(h6:bP (10:Int) l m201 t202=(r203,m204,t205))(h7:0≤m204∧m204≤1000000000)(h8:bP (36:Int) l m204 t205=(r206,m207,t208))(h9:(1:Int)<(nu+r200))(h10:(5:Int)≤r203)(hl11:aC Tp 1 nA (dS l sk'4 r7 j dc (nu+r200) m207 t208 (nu+r200) r203 r206 (0:Int) (0:Int) (0:Int)) .normal (dS l sk'4 r7 j dc na'209 ma'210 ta'211 c0'212 c1'213 c2'214 c3'215 c4'216 c5'217))(hl12:aC Tp 1 kG (cV l sk'4 r7 j dc na'209 ma'210 ta'211 c0'212 c1'213 c2'214 c3'215 c4'216 c5'217) .normal (cV l sk'4 r7 j dc nb'218 mb'219 tb'220 d0'221 d1'222 d2'223 d3'224 d4'225 d5'226))(h13:[(aA d0'221),(aA d1'222),(aA d2'223),(aA d3'224),(aA d4'225),(aA d5'226)].length=1*6∧dc.length+1≤1000000)(h14:inR (((j+1):Nat):Int))(ej':j'=(j+1))(edc'n:dc'.length=(dc.length+1))(edc'c:dc'.flatten.map aA=((dc.flatten.map aA)++[(aA d0'221),(aA d1'222),(aA d2'223),(aA d3'224),(aA d4'225),(aA d5'226)])):aC Tp 1 mZ (dW l sk'4 r7 j dc.length (dc.flatten.map aA) nu mx tt) .normal (dW l sk'4 r7 j' dc'.length (dc'.flatten.map aA) nb'218 mb'219 tb'220):=by
 subst ej'
 have raw:aC Tp 1 mZ (dW l sk'4 r7 j dc.length (dc.flatten.map aA) nu mx tt) .normal (dW l sk'4 r7 (j+1) (dc.length+1) ((dc.flatten.map aA)++[(aA d0'221),(aA d1'222),(aA d2'223),(aA d3'224),(aA d4'225),(aA d5'226)]) nb'218 mb'219 tb'220):=aC.fin (g:=⟨(rng [(1,5),(8,2),(11,29),(42,78)]),[1,2,3,7],[],[]⟩) (o:=[bT,.c (pI r200) [(0,(.box 129 [(.p (.sl l.length (l.map aO))),(pI m201),(.p (.v (.int .u32 t202)))]))],.c (pI r203) [(0,(.box 129 [(.p (.sl l.length (l.map aO))),(pI m204),(.p (.v (.int .u32 t205)))]))],.c (pI r206) [(0,(.box 129 [(.p (.sl l.length (l.map aO))),(pI m207),(.p (.v (.int .u32 t208)))]))],bT,bT,bT,bT,bF,bF,bF,.k 2 ⟨(rng [(1,5),(8,2),(12,28),(43,77)]),[1,2,3,4,5],[],[]⟩ .normal (dS l sk'4 r7 j dc na'209 ma'210 ta'211 c0'212 c1'213 c2'214 c3'215 c4'216 c5'217),.k 1 ⟨(rng [(1,5),(8,2),(12,28),(43,77)]),[1,2,3,4,5],[],[]⟩ .normal (cV l sk'4 r7 j dc nb'218 mb'219 tb'220 d0'221 d1'222 d2'223 d3'224 d4'225 d5'226)]) (l:=[_,_,[(aA d0'221),(aA d1'222),(aA d2'223),(aA d3'224),(aA d4'225),(aA d5'226)].length=6,aC Tp 1 kG (cV l sk'4 r7 j dc na'209 ma'210 ta'211 c0'212 c1'213 c2'214 c3'215 c4'216 c5'217) .normal (cV l sk'4 r7 j dc nb'218 mb'219 tb'220 d0'221 d1'222 d2'223 d3'224 d4'225 d5'226),aC Tp 1 nA (dS l sk'4 r7 j dc (nu+r200) m207 t208 (nu+r200) r203 r206 (0:Int) (0:Int) (0:Int)) .normal (dS l sk'4 r7 j dc na'209 ma'210 ta'211 c0'212 c1'213 c2'214 c3'215 c4'216 c5'217),_,_,_,_,_,_,_,FC Tp 80 [(.ptr 0 0),(pI 36)] [(0,(.box 129 [(.p (.sl l.length (l.map aO))),(pI m204),(.p (.v (.int .u32 t205)))]))] 5 (pI r206) [(0,(.box 129 [(.p (.sl l.length (l.map aO))),(pI m207),(.p (.v (.int .u32 t208)))]))],FC Tp 80 [(.ptr 0 0),(pI 10)] [(0,(.box 129 [(.p (.sl l.length (l.map aO))),(pI m201),(.p (.v (.int .u32 t202)))]))] 5 (pI r203) [(0,(.box 129 [(.p (.sl l.length (l.map aO))),(pI m204),(.p (.v (.int .u32 t205)))]))],_,FC Tp 79 [(.ptr 0 0),(pI 1),(pI 2)] [(0,(.box 129 [(.p (.sl l.length (l.map aO))),(pI mx),(.p (.v (.int .u32 tt)))]))] 5 (pI r200) [(0,(.box 129 [(.p (.sl l.length (l.map aO))),(pI m201),(.p (.v (.int .u32 t202)))]))],_]) (by kernel_rfl) (gc h14 (gc h13 (gc (by first | decide | simp) (gc hl12 (gc hl11 (g3c (bO h10) (g4c (bB h9) (gc (FMM.fc (ids:=[0]) (eC (36:Int) l m204 t205 h7 h8) (by kernel_rfl)) (gc (FMM.fc (ids:=[0]) (eC (10:Int) l m201 t202 h5 h6) (by kernel_rfl)) (gc h4 (gc (FMM.fc (ids:=[0]) (tJ (1:Int) (2:Int) l mx tt h1 h2 h3) (by kernel_rfl)) (gc (bB h0) gn))))))))))))
 exact raw.cast (by rw [edc'n,edc'c])
theorem aVv{l:List Int}{sk'4:Lqq}{r7:Int}{j:Nat}{dc:Lqq}{nu mx tt r200 m201 t202 r203 m204 t205 r206 m207 t208 na'209 ma'210 ta'211 c0'212 c1'213 c2'214 c3'215 c4'216 c5'217 nb'218 mb'219 tb'220 d0'221 d1'222 d2'223 d3'224 d4'225 d5'226:Int}{j':Nat}{dc':Lqq}(h0:(j:Int)<r7)(h1:0≤mx∧mx≤1000000000)(h2:(-1000000≤1∧(1:Int)≤1000000) ∧ -1000000≤2∧(2:Int)≤1000000)(h3:nB (1:Int) (2:Int) l mx tt=(r200,m201,t202))(h4:inR (nu+r200))(h5:0≤m201∧m201≤1000000000)(h6:bP (10:Int) l m201 t202=(r203,m204,t205))(h7:0≤m204∧m204≤1000000000)(h8:bP (36:Int) l m204 t205=(r206,m207,t208))(h9:(nu+r200)≤1)(hl10:aC Tp 1 nA (dS l sk'4 r7 j dc (nu+r200) m207 t208 (nu+r200) r203 r206 (0:Int) (0:Int) (0:Int)) .normal (dS l sk'4 r7 j dc na'209 ma'210 ta'211 c0'212 c1'213 c2'214 c3'215 c4'216 c5'217))(hl11:aC Tp 1 kG (cV l sk'4 r7 j dc na'209 ma'210 ta'211 c0'212 c1'213 c2'214 c3'215 c4'216 c5'217) .normal (cV l sk'4 r7 j dc nb'218 mb'219 tb'220 d0'221 d1'222 d2'223 d3'224 d4'225 d5'226))(h12:[(aA d0'221),(aA d1'222),(aA d2'223),(aA d3'224),(aA d4'225),(aA d5'226)].length=1*6∧dc.length+1≤1000000)(h13:inR (((j+1):Nat):Int))(ej':j'=(j+1))(edc'n:dc'.length=(dc.length+1))(edc'c:dc'.flatten.map aA=((dc.flatten.map aA)++[(aA d0'221),(aA d1'222),(aA d2'223),(aA d3'224),(aA d4'225),(aA d5'226)])):aC Tp 1 mZ (dW l sk'4 r7 j dc.length (dc.flatten.map aA) nu mx tt) .normal (dW l sk'4 r7 j' dc'.length (dc'.flatten.map aA) nb'218 mb'219 tb'220):=by
 subst ej'
 have raw:aC Tp 1 mZ (dW l sk'4 r7 j dc.length (dc.flatten.map aA) nu mx tt) .normal (dW l sk'4 r7 (j+1) (dc.length+1) ((dc.flatten.map aA)++[(aA d0'221),(aA d1'222),(aA d2'223),(aA d3'224),(aA d4'225),(aA d5'226)]) nb'218 mb'219 tb'220):=aC.fin (g:=⟨(rng [(1,5),(8,2),(11,29),(42,78)]),[1,2,3,7],[],[]⟩) (o:=[bT,.c (pI r200) [(0,(.box 129 [(.p (.sl l.length (l.map aO))),(pI m201),(.p (.v (.int .u32 t202)))]))],.c (pI r203) [(0,(.box 129 [(.p (.sl l.length (l.map aO))),(pI m204),(.p (.v (.int .u32 t205)))]))],.c (pI r206) [(0,(.box 129 [(.p (.sl l.length (l.map aO))),(pI m207),(.p (.v (.int .u32 t208)))]))],bF,bF,bF,bF,.k 2 ⟨(rng [(1,5),(8,2),(12,28),(43,77)]),[1,2,3,4,5],[],[]⟩ .normal (dS l sk'4 r7 j dc na'209 ma'210 ta'211 c0'212 c1'213 c2'214 c3'215 c4'216 c5'217),.k 1 ⟨(rng [(1,5),(8,2),(12,28),(43,77)]),[1,2,3,4,5],[],[]⟩ .normal (cV l sk'4 r7 j dc nb'218 mb'219 tb'220 d0'221 d1'222 d2'223 d3'224 d4'225 d5'226)]) (l:=[_,_,[(aA d0'221),(aA d1'222),(aA d2'223),(aA d3'224),(aA d4'225),(aA d5'226)].length=6,aC Tp 1 kG (cV l sk'4 r7 j dc na'209 ma'210 ta'211 c0'212 c1'213 c2'214 c3'215 c4'216 c5'217) .normal (cV l sk'4 r7 j dc nb'218 mb'219 tb'220 d0'221 d1'222 d2'223 d3'224 d4'225 d5'226),aC Tp 1 nA (dS l sk'4 r7 j dc (nu+r200) m207 t208 (nu+r200) r203 r206 (0:Int) (0:Int) (0:Int)) .normal (dS l sk'4 r7 j dc na'209 ma'210 ta'211 c0'212 c1'213 c2'214 c3'215 c4'216 c5'217),_,_,_,_,FC Tp 80 [(.ptr 0 0),(pI 36)] [(0,(.box 129 [(.p (.sl l.length (l.map aO))),(pI m204),(.p (.v (.int .u32 t205)))]))] 5 (pI r206) [(0,(.box 129 [(.p (.sl l.length (l.map aO))),(pI m207),(.p (.v (.int .u32 t208)))]))],FC Tp 80 [(.ptr 0 0),(pI 10)] [(0,(.box 129 [(.p (.sl l.length (l.map aO))),(pI m201),(.p (.v (.int .u32 t202)))]))] 5 (pI r203) [(0,(.box 129 [(.p (.sl l.length (l.map aO))),(pI m204),(.p (.v (.int .u32 t205)))]))],_,FC Tp 79 [(.ptr 0 0),(pI 1),(pI 2)] [(0,(.box 129 [(.p (.sl l.length (l.map aO))),(pI mx),(.p (.v (.int .u32 tt)))]))] 5 (pI r200) [(0,(.box 129 [(.p (.sl l.length (l.map aO))),(pI m201),(.p (.v (.int .u32 t202)))]))],_]) (by kernel_rfl) (gc h13 (gc h12 (gc (by first | decide | simp) (gc hl11 (gc hl10 (g4c (bO h9) (gc (FMM.fc (ids:=[0]) (eC (36:Int) l m204 t205 h7 h8) (by kernel_rfl)) (gc (FMM.fc (ids:=[0]) (eC (10:Int) l m201 t202 h5 h6) (by kernel_rfl)) (gc h4 (gc (FMM.fc (ids:=[0]) (tJ (1:Int) (2:Int) l mx tt h1 h2 h3) (by kernel_rfl)) (gc (bB h0) gn)))))))))))
 exact raw.cast (by rw [edc'n,edc'c])
theorem aVw{l:List Int}{sk'4:Lqq}{r7:Int}{j:Nat}{dc:Lqq}{nu mx tt:Int}(h0:r7≤(j:Int)):aC Tp 1 mZ (dW l sk'4 r7 j dc.length (dc.flatten.map aA) nu mx tt) (.exit 2) (dW l sk'4 r7 j dc.length (dc.flatten.map aA) nu mx tt):=by
 exact aC.fin (g:=⟨(rng [(1,5),(8,2),(11,29),(42,78)]),[1,2,3,4],[],[]⟩) (o:=[bF]) (l:=[_]) (by kernel_rfl) (gc (bO h0) gn)
theorem aVx{l:List Int}{sk'4:Lqq}{r7:Int}{j:Nat}{dc:Lqq}{na ma ta c0 c1 c2 c3 c4 c5 r300 m301 t302:Int}(h0:na=1)(h1:0≤ma∧ma≤1000000000)(h2:bP (5:Int) l ma ta=(r300,m301,t302)):aC Tp 1 nA (dS l sk'4 r7 j dc na ma ta c0 c1 c2 c3 c4 c5) .normal (dS l sk'4 r7 j dc na m301 t302 c0 r300 c2 c3 c4 c5):=by
 exact aC.fin (g:=⟨(rng [(1,5),(8,2),(12,28),(43,77)]),[1,2,3,4,5],[],[]⟩) (o:=[bT,.c (pI r300) [(0,(.box 129 [(.p (.sl l.length (l.map aO))),(pI m301),(.p (.v (.int .u32 t302)))]))]]) (l:=[FC Tp 80 [(.ptr 0 0),(pI 5)] [(0,(.box 129 [(.p (.sl l.length (l.map aO))),(pI ma),(.p (.v (.int .u32 ta)))]))] 6 (pI r300) [(0,(.box 129 [(.p (.sl l.length (l.map aO))),(pI m301),(.p (.v (.int .u32 t302)))]))],_]) (by kernel_rfl) (gc (FMM.fc (ids:=[0]) (eC (5:Int) l ma ta h1 h2) (by kernel_rfl)) (gc (fB h0) gn))
theorem aVy{l:List Int}{sk'4:Lqq}{r7:Int}{j:Nat}{dc:Lqq}{na ma ta c0 c1 c2 c3 c4 c5:Int}(h0:na≠1):aC Tp 1 nA (dS l sk'4 r7 j dc na ma ta c0 c1 c2 c3 c4 c5) .normal (dS l sk'4 r7 j dc na ma ta c0 c1 c2 c3 c4 c5):=by
 exact aC.fin (g:=⟨(rng [(1,5),(8,2),(12,28),(43,77)]),[1,2,3,4,5],[],[]⟩) (o:=[bF]) (l:=[_]) (by kernel_rfl) (gc (bQ h0) gn)
theorem aVz{l:List Int}{sk'4:Lqq}{r7:Int}{j:Nat}{dc:Lqq}{nb mb tb d0 d1 d2 d3 d4 d5 r400 m401 t402 y403 y404 r405 m406 t407 r408 m409 t410:Int}(h0:d1≤4)(h1:0≤mb∧mb≤1000000000)(h2:bP (sk'4.length:Int) l mb tb=(r400,m401,t402))(h3:sk'4[r400.toNat]? = some [y403,y404])(h4:0≤r400)(h5:uni 2 sk'4)(h6:0≤m401∧m401≤1000000000)(h7:bP (8:Int) l m401 t402=(r405,m406,t407))(h8:inR ((50:Int)*r405))(h9:d1=2)(h10:0≤m406∧m406≤1000000000)(h11:bP (3:Int) l m406 t407=(r408,m409,t410))(h12:d1≠3):aC Tp 1 kG (cV l sk'4 r7 j dc nb mb tb d0 d1 d2 d3 d4 d5) .normal (cV l sk'4 r7 j dc nb m409 t410 d0 d1 d2 y403 r408 d5):=by
 exact aC.fin (g:=⟨(rng [(1,5),(8,2),(12,28),(43,77)]),[1,2,3,4,5],[],[]⟩) (o:=[bT,.c (pI r400) [(0,(.box 129 [(.p (.sl l.length (l.map aO))),(pI m401),(.p (.v (.int .u32 t402)))]))],.x (aA y403),.c (pI r405) [(0,(.box 129 [(.p (.sl l.length (l.map aO))),(pI m406),(.p (.v (.int .u32 t407)))]))],bT,.c (pI r408) [(0,(.box 129 [(.p (.sl l.length (l.map aO))),(pI m409),(.p (.v (.int .u32 t410)))]))],bF]) (l:=[_,FC Tp 80 [(.ptr 0 0),(pI 3)] [(0,(.box 129 [(.p (.sl l.length (l.map aO))),(pI m406),(.p (.v (.int .u32 t407)))]))] 6 (pI r408) [(0,(.box 129 [(.p (.sl l.length (l.map aO))),(pI m409),(.p (.v (.int .u32 t410)))]))],_,_,FC Tp 80 [(.ptr 0 0),(pI 8)] [(0,(.box 129 [(.p (.sl l.length (l.map aO))),(pI m401),(.p (.v (.int .u32 t402)))]))] 6 (pI r405) [(0,(.box 129 [(.p (.sl l.length (l.map aO))),(pI m406),(.p (.v (.int .u32 t407)))]))],(sk'4.flatten.map aA)[(r400.toNat*2)]? = some (aA y403),_,FC Tp 80 [(.ptr 0 0),(pI (sk'4.length:Int))] [(0,(.box 129 [(.p (.sl l.length (l.map aO))),(pI mb),(.p (.v (.int .u32 tb)))]))] 7 (pI r400) [(0,(.box 129 [(.p (.sl l.length (l.map aO))),(pI m401),(.p (.v (.int .u32 t402)))]))],_]) (by kernel_rfl) (gc (bQ h12) (gc (FMM.fc (ids:=[0]) (eC (3:Int) l m406 t407 h10 h11) (by kernel_rfl)) (gc (fB h9) (gc h8 (gc (FMM.fc (ids:=[0]) (eC (8:Int) l m401 t402 h6 h7) (by kernel_rfl)) (gc (dL (i:=r400.toNat) (f:=0) h5 h3 rfl) (gc (cK (i:=r400) h4 h3) (gc (FMM.fc (ids:=[0]) (eC (sk'4.length:Int) l mb tb h1 h2) (by kernel_rfl)) (gc (aGr h0) gn)))))))))
theorem aWa{l:List Int}{sk'4:Lqq}{r7:Int}{j:Nat}{dc:Lqq}{nb mb tb d0 d1 d2 d3 d4 d5 r400 m401 t402 y403 y404 r405 m406 t407 d4':Int}(h0:d1≤4)(h1:0≤mb∧mb≤1000000000)(h2:bP (sk'4.length:Int) l mb tb=(r400,m401,t402))(h3:sk'4[r400.toNat]? = some [y403,y404])(h4:0≤r400)(h5:uni 2 sk'4)(h6:0≤m401∧m401≤1000000000)(h7:bP (8:Int) l m401 t402=(r405,m406,t407))(h8:inR ((50:Int)*r405))(h9:d1≠2)(h10:d1=3)(ed4':d4'=(0:Int)):aC Tp 1 kG (cV l sk'4 r7 j dc nb mb tb d0 d1 d2 d3 d4 d5) .normal (cV l sk'4 r7 j dc nb m406 t407 d0 d1 d2 y403 d4' d5):=by
 subst ed4';exact aC.fin (g:=⟨(rng [(1,5),(8,2),(12,28),(43,77)]),[1,2,3,4,5],[],[]⟩) (o:=[bT,.c (pI r400) [(0,(.box 129 [(.p (.sl l.length (l.map aO))),(pI m401),(.p (.v (.int .u32 t402)))]))],.x (aA y403),.c (pI r405) [(0,(.box 129 [(.p (.sl l.length (l.map aO))),(pI m406),(.p (.v (.int .u32 t407)))]))],bF,bT]) (l:=[_,_,_,FC Tp 80 [(.ptr 0 0),(pI 8)] [(0,(.box 129 [(.p (.sl l.length (l.map aO))),(pI m401),(.p (.v (.int .u32 t402)))]))] 6 (pI r405) [(0,(.box 129 [(.p (.sl l.length (l.map aO))),(pI m406),(.p (.v (.int .u32 t407)))]))],(sk'4.flatten.map aA)[(r400.toNat*2)]? = some (aA y403),_,FC Tp 80 [(.ptr 0 0),(pI (sk'4.length:Int))] [(0,(.box 129 [(.p (.sl l.length (l.map aO))),(pI mb),(.p (.v (.int .u32 tb)))]))] 7 (pI r400) [(0,(.box 129 [(.p (.sl l.length (l.map aO))),(pI m401),(.p (.v (.int .u32 t402)))]))],_]) (by kernel_rfl) (gc (fB h10) (gc (bQ h9) (gc h8 (gc (FMM.fc (ids:=[0]) (eC (8:Int) l m401 t402 h6 h7) (by kernel_rfl)) (gc (dL (i:=r400.toNat) (f:=0) h5 h3 rfl) (gc (cK (i:=r400) h4 h3) (gc (FMM.fc (ids:=[0]) (eC (sk'4.length:Int) l mb tb h1 h2) (by kernel_rfl)) (gc (aGr h0) gn))))))))
theorem aWb{l:List Int}{sk'4:Lqq}{r7:Int}{j:Nat}{dc:Lqq}{nb mb tb d0 d1 d2 d3 d4 d5 r400 m401 t402 y403 y404 r405 m406 t407 d4':Int}(h0:d1≤4)(h1:0≤mb∧mb≤1000000000)(h2:bP (sk'4.length:Int) l mb tb=(r400,m401,t402))(h3:sk'4[r400.toNat]? = some [y403,y404])(h4:0≤r400)(h5:uni 2 sk'4)(h6:0≤m401∧m401≤1000000000)(h7:bP (8:Int) l m401 t402=(r405,m406,t407))(h8:inR ((50:Int)*r405))(h9:d1≠2)(h10:d1≠3)(ed4':d4'=((50:Int)*r405)):aC Tp 1 kG (cV l sk'4 r7 j dc nb mb tb d0 d1 d2 d3 d4 d5) .normal (cV l sk'4 r7 j dc nb m406 t407 d0 d1 d2 y403 d4' d5):=by
 subst ed4';exact aC.fin (g:=⟨(rng [(1,5),(8,2),(12,28),(43,77)]),[1,2,3,4,5],[],[]⟩) (o:=[bT,.c (pI r400) [(0,(.box 129 [(.p (.sl l.length (l.map aO))),(pI m401),(.p (.v (.int .u32 t402)))]))],.x (aA y403),.c (pI r405) [(0,(.box 129 [(.p (.sl l.length (l.map aO))),(pI m406),(.p (.v (.int .u32 t407)))]))],bF,bF]) (l:=[_,_,_,FC Tp 80 [(.ptr 0 0),(pI 8)] [(0,(.box 129 [(.p (.sl l.length (l.map aO))),(pI m401),(.p (.v (.int .u32 t402)))]))] 6 (pI r405) [(0,(.box 129 [(.p (.sl l.length (l.map aO))),(pI m406),(.p (.v (.int .u32 t407)))]))],(sk'4.flatten.map aA)[(r400.toNat*2)]? = some (aA y403),_,FC Tp 80 [(.ptr 0 0),(pI (sk'4.length:Int))] [(0,(.box 129 [(.p (.sl l.length (l.map aO))),(pI mb),(.p (.v (.int .u32 tb)))]))] 7 (pI r400) [(0,(.box 129 [(.p (.sl l.length (l.map aO))),(pI m401),(.p (.v (.int .u32 t402)))]))],_]) (by kernel_rfl) (gc (bQ h10) (gc (bQ h9) (gc h8 (gc (FMM.fc (ids:=[0]) (eC (8:Int) l m401 t402 h6 h7) (by kernel_rfl)) (gc (dL (i:=r400.toNat) (f:=0) h5 h3 rfl) (gc (cK (i:=r400) h4 h3) (gc (FMM.fc (ids:=[0]) (eC (sk'4.length:Int) l mb tb h1 h2) (by kernel_rfl)) (gc (aGr h0) gn))))))))
theorem aWc{l:List Int}{sk'4:Lqq}{r7:Int}{j:Nat}{dc:Lqq}{nb mb tb d0 d1 d2 d3 d4 d5 r400 m401 t402 r403 m404 t405 d4':Int}(h0:(4:Int)<d1)(h1:inR (nb-6))(h2:inR (nb-1))(h3:0≤mb∧mb≤1000000000)(h4:(-1000000≤(if (nb-6) > (1:Int) then (nb-6) else (1:Int))∧(if (nb-6) > (1:Int) then (nb-6) else (1:Int))≤1000000) ∧ -1000000≤(nb-1)∧(nb-1)≤1000000)(h5:nB (if (nb-6) > (1:Int) then (nb-6) else (1:Int)) (nb-1) l mb tb=(r400,m401,t402))(h6:d1=6)(h7:0≤m401∧m401≤1000000000)(h8:bP (8:Int) l m401 t402=(r403,m404,t405))(h9:inR ((50:Int)*r403))(ed4':d4'=((50:Int)*r403)):aC Tp 1 kG (cV l sk'4 r7 j dc nb mb tb d0 d1 d2 d3 d4 d5) .normal (cV l sk'4 r7 j dc nb m404 t405 d0 d1 d2 d3 d4' r400):=by
 subst ed4';exact aC.fin (g:=⟨(rng [(1,5),(8,2),(12,28),(43,77)]),[1,2,3,4,5],[],[]⟩) (o:=[bF,.c (pI r400) [(0,(.box 129 [(.p (.sl l.length (l.map aO))),(pI m401),(.p (.v (.int .u32 t402)))]))],bT,.c (pI r403) [(0,(.box 129 [(.p (.sl l.length (l.map aO))),(pI m404),(.p (.v (.int .u32 t405)))]))]]) (l:=[_,FC Tp 80 [(.ptr 0 0),(pI 8)] [(0,(.box 129 [(.p (.sl l.length (l.map aO))),(pI m401),(.p (.v (.int .u32 t402)))]))] 6 (pI r403) [(0,(.box 129 [(.p (.sl l.length (l.map aO))),(pI m404),(.p (.v (.int .u32 t405)))]))],_,FC Tp 79 [(.ptr 0 0),(pI (if (nb-6) > (1:Int) then (nb-6) else (1:Int))),(pI (nb-1))] [(0,(.box 129 [(.p (.sl l.length (l.map aO))),(pI mb),(.p (.v (.int .u32 tb)))]))] 6 (pI r400) [(0,(.box 129 [(.p (.sl l.length (l.map aO))),(pI m401),(.p (.v (.int .u32 t402)))]))],_,_,_]) (by kernel_rfl) (gc h9 (gc (FMM.fc (ids:=[0]) (eC (8:Int) l m401 t402 h7 h8) (by kernel_rfl)) (gc (fB h6) (gc (FMM.fc (ids:=[0]) (tJ (if (nb-6) > (1:Int) then (nb-6) else (1:Int)) (nb-1) l mb tb h3 h4 h5) (by kernel_rfl)) (gc h2 (gc h1 (gc (pP h0) gn)))))))
theorem aWd{l:List Int}{sk'4:Lqq}{r7:Int}{j:Nat}{dc:Lqq}{nb mb tb d0 d1 d2 d3 d4 d5 r400 m401 t402:Int}(h0:(4:Int)<d1)(h1:inR (nb-6))(h2:inR (nb-1))(h3:0≤mb∧mb≤1000000000)(h4:(-1000000≤(if (nb-6) > (1:Int) then (nb-6) else (1:Int))∧(if (nb-6) > (1:Int) then (nb-6) else (1:Int))≤1000000) ∧ -1000000≤(nb-1)∧(nb-1)≤1000000)(h5:nB (if (nb-6) > (1:Int) then (nb-6) else (1:Int)) (nb-1) l mb tb=(r400,m401,t402))(h6:d1≠6):aC Tp 1 kG (cV l sk'4 r7 j dc nb mb tb d0 d1 d2 d3 d4 d5) .normal (cV l sk'4 r7 j dc nb m401 t402 d0 d1 d2 d3 d4 r400):=by
 exact aC.fin (g:=⟨(rng [(1,5),(8,2),(12,28),(43,77)]),[1,2,3,4,5],[],[]⟩) (o:=[bF,.c (pI r400) [(0,(.box 129 [(.p (.sl l.length (l.map aO))),(pI m401),(.p (.v (.int .u32 t402)))]))],bF]) (l:=[_,FC Tp 79 [(.ptr 0 0),(pI (if (nb-6) > (1:Int) then (nb-6) else (1:Int))),(pI (nb-1))] [(0,(.box 129 [(.p (.sl l.length (l.map aO))),(pI mb),(.p (.v (.int .u32 tb)))]))] 6 (pI r400) [(0,(.box 129 [(.p (.sl l.length (l.map aO))),(pI m401),(.p (.v (.int .u32 t402)))]))],_,_,_]) (by kernel_rfl) (gc (bQ h6) (gc (FMM.fc (ids:=[0]) (tJ (if (nb-6) > (1:Int) then (nb-6) else (1:Int)) (nb-1) l mb tb h3 h4 h5) (by kernel_rfl)) (gc h2 (gc h1 (gc (pP h0) gn)))))
end
section
theorem bHb{sk:Lqq}{i:Nat}{a b:Int}(h:sk[i]? = some [a,b]):a∈aK sk 0:=by
 unfold aK;exact dQ.2 ⟨_,kQ5 h,rfl⟩
theorem aBk{sk:Lqq}{a k mi b mu ab:Int}(ha:1≤a∧a≤9999)(hk:0≤k∧k≤9)(hmi:0≤mi∧mi≤10000)(hmu:0≤mu∧mu≤36000)(hz:mu=0∨(k≠3∧k≠5∧k≤6))(hp:k≤4→b∈aK sk 0∧ab=0)(hq:4<k→b=0∧1≤ab∧ab≤a-1) :
  dcB [a,k,mi,b,mu,ab]=true∧inB sk [a,k,mi,b,mu,ab]=true∧orB [a,k,mi,b,mu,ab]=true:=by
 have hm:mu≤lB k:=by
  unfold lB
  repeat' split
  all_goals first | omega | (simp_all;omega)
 refine ⟨eX.2 ⟨ha,hk,hmi,hmu.1,hm⟩,?_,?_⟩
 ·show (if k≤4 then (aK sk 0).contains b else b == 0)=true
  by_cases h:k≤4
  ·rw [if_pos h];simpa using (hp h).1
  ·rw [if_neg h];simpa using (hq (by omega)).1
 ·show (if k≤4 then ab == 0 else within ab 1 (a-1))=true
  by_cases h:k≤4
  ·rw [if_pos h];simpa using (hp h).2
  ·rw [if_neg h];exact cD.2 (hq (by omega)).2
structure aOa (sk:Lqq) (dc:Lqq) (nu mx:Int) (j:Nat):Prop where
 ud:uni 6 dc
 len:dc.length=j
 num:0≤nu∧nu≤2*(j:Int)
 deck:0≤mx∧mx≤1000+20*(j:Int)
 mem:∀ x∈dc,(dcB x=true∧inB sk x=true∧orB x=true)∧x.getD 0 0≤nu
 up:dc.Pairwise fun a b=>a.getD 0 0<b.getD 0 0
theorem aOa.snoc{sk dc:Lqq}{nu mx:Int}{j:Nat}(h:aOa sk dc nu mx j){a k mi b mu ab mx':Int}(hr:dcB [a,k,mi,b,mu,ab]=true∧inB sk [a,k,mi,b,mu,ab]=true∧orB [a,k,mi,b,mu,ab]=true)(ha:nu<a∧a≤nu+2)(hm:mx≤mx'∧mx'≤mx+20):aOa sk (dc++[[a,k,mi,b,mu,ab]]) a mx' (j+1):=by
 obtain ⟨h1,h2,h3,h4,h5,h6⟩:=h;refine ⟨aKn h1 rfl,by simp [h2],by omega,by omega,fun x hx => ?_,?_⟩
 ·rcases jR.1 hx with hx | hx
  ·exact ⟨(h5 x hx).1,by have:=(h5 x hx).2;omega⟩
  ·rw [List.mem_singleton.1 hx]
   exact ⟨hr,aVa _⟩
 ·rw [List.pairwise_append]
  refine ⟨h6,List.pairwise_singleton _ _,fun x hx y hy => ?_⟩
  rw [List.mem_singleton.1 hy];have:=(h5 x hx).2;show x.getD 0 0<a;omega
theorem bNe{l:List Int}{sk'4 dc:Lqq}{r7 na ma ta c0 c1 c2 c3 c4 c5:Int}{j:Nat}(hm:0≤ma∧ma≤1000000000)(hc:0≤c1∧c1≤9) :
  ∃ m t k,(ma≤m∧m≤ma+1)∧(0≤k∧k≤9)∧(na=1→k≤4)∧aC Tp 1 (sub (cd Tryz.f16) [1,1,1,1,0,1,0,0,1,1,0,0,1,1,1,0]) (dS l sk'4 r7 j dc na ma ta c0 c1 c2 c3 c4 c5) .normal (dS l sk'4 r7 j dc na m t c0 k c2 c3 c4 c5):=by
 by_cases h:na=1
 ·obtain ⟨r,m,t,e⟩:∃ r m t,bP (5:Int) l ma ta=(r,m,t):=⟨_,_,_,rfl⟩
  have b:=gW (5:Int) l ma ta;rw [e] at b
  dsimp only at b
  exact ⟨m,t,r,by omega,by omega,fun _=>by omega,aVx h hm e⟩
 ·exact ⟨ma,ta,c1,by omega,hc,fun q=>absurd q h,aVy h⟩
theorem bNf{l:List Int}{sk'4 dc:Lqq}{r7 nb mb tb d1 d2:Int}{j:Nat}(hm:0≤mb∧mb≤100000000)(hn:1≤nb∧nb≤1000)(hk:0≤d1∧d1≤9)(hk1:nb=1→d1≤4)(h2:0≤d2∧d2≤10000)(hu2:uni 2 sk'4)(hs:1≤sk'4.length∧sk'4.length≤100) :
  ∃ m t b mu ab,(mb≤m∧m≤mb+3)∧(dcB [nb,d1,d2,b,mu,ab]=true∧inB sk'4 [nb,d1,d2,b,mu,ab]=true∧orB [nb,d1,d2,b,mu,ab]=true) ∧
   aC Tp 1 (sub (cd Tryz.f16) [1,1,1,1,0,1,0,0,1,1,0,0,1,1,1,1,0]) (cV l sk'4 r7 j dc nb mb tb nb d1 d2 0 0 0) .normal (cV l sk'4 r7 j dc nb m t nb d1 d2 b mu ab):=by
 by_cases h4:d1≤4
 ·obtain ⟨r,m1,t1,e1⟩:∃ r m t,bP (sk'4.length:Int) l mb tb=(r,m,t):=⟨_,_,_,rfl⟩
  have b1:=gW (sk'4.length:Int) l mb tb;rw [e1] at b1
  dsimp only at b1
  have hr:0≤r∧r.toNat<sk'4.length:=by omega
  obtain ⟨a,t',ha⟩:=len2 (hu2 _ (gO hr.2));have hx:sk'4[r.toNat]? = some [a,t']:=by rw [kQ0 hr.2,ha]
  obtain ⟨r8,m2,t2,e2⟩:∃ r m t,bP (8:Int) l m1 t1=(r,m,t):=⟨_,_,_,rfl⟩;have b2:=gW (8:Int) l m1 t1;rw [e2] at b2
  dsimp only at b2
  have hp:d1≤4→a∈aK sk'4 0∧(0:Int)=0:=fun _=>⟨bHb hx,rfl⟩
  by_cases k2:d1=2
  ·obtain ⟨r3,m3,t3,e3⟩:∃ r m t,bP (3:Int) l m2 t2=(r,m,t):=⟨_,_,_,rfl⟩
   have b3:=gW (3:Int) l m2 t2;rw [e3] at b3
   dsimp only at b3
   exact ⟨m3,t3,a,r3,0,by omega,aBk (by omega) hk h2 (by omega) (.inr (by omega)) hp (fun q=>by omega),aVz h4 (by omega) e1 hx hr.1 hu2 (by omega) e2 (by unfold inR;omega) k2 (by omega) e3 (by omega)⟩
  ·by_cases k3:d1=3
   ·exact ⟨m2,t2,a,0,0,by omega,aBk (by omega) hk h2 (by omega) (.inl rfl) hp (fun q=>by omega),aWa h4 (by omega) e1 hx hr.1 hu2 (by omega) e2 (by unfold inR;omega) k2 k3 rfl⟩
   ·exact ⟨m2,t2,a,50*r8,0,by omega,aBk (by omega) hk h2 (by omega) (.inr (by omega)) hp (fun q=>by omega),aWb h4 (by omega) e1 hx hr.1 hu2 (by omega) e2 (by unfold inR;omega) k2 k3 rfl⟩
 ·have hg:(if nb-6 > (1:Int) then nb-6 else 1)=max 1 (nb-6):=by split <;> omega
  obtain ⟨r,m1,t1,e1⟩:∃ r m t,nB (if nb-(6:Int) > (1:Int) then nb-(6:Int) else (1:Int)) (nb-(1:Int)) l mb tb=(r,m,t):=⟨_,_,_,rfl⟩
  have b1:=zJ (if nb-(6:Int) > (1:Int) then nb-(6:Int) else (1:Int)) (nb-(1:Int)) l mb tb
  rw [e1] at b1
  dsimp only at b1
  have hn1:nb≠1:=fun q=>h4 (hk1 q)
  have hlo:1≤(if nb-(6:Int) > (1:Int) then nb-(6:Int) else (1:Int))∧(if nb-(6:Int) > (1:Int) then nb-(6:Int) else (1:Int))≤nb-1:=by rw [hg];omega
  have hq:4<d1→(0:Int)=0∧1≤r∧r≤nb-1:=fun _=>⟨rfl,by omega,by omega⟩
  by_cases k6:d1=6
  ·obtain ⟨r8,m2,t2,e2⟩:∃ r m t,bP (8:Int) l m1 t1=(r,m,t):=⟨_,_,_,rfl⟩
   have b2:=gW (8:Int) l m1 t1;rw [e2] at b2
   dsimp only at b2
   exact ⟨m2,t2,0,50*r8,r,by omega,aBk (by omega) hk h2 (by omega) (.inr (by omega)) (fun q=>absurd q h4) hq,aWc (by omega) (by unfold inR;omega) (by unfold inR;omega) (by omega) (by omega) e1 k6 (by omega) e2 (by unfold inR;omega) rfl⟩
  ·exact ⟨m1,t1,0,0,r,by omega,aBk (by omega) hk h2 (by omega) (.inl rfl) (fun q=>absurd q h4) hq,aWd (by omega) (by unfold inR;omega) (by unfold inR;omega) (by omega) (by omega) e1 k6⟩
theorem bHc{l:List Int}{sk'4 dc:Lqq}{r7 nu mx tt:Int}{j:Nat}(hI:aOa sk'4 dc nu mx j)(hj:(j:Int)<r7)(hr:r7≤100)(hu2:uni 2 sk'4)(hs:1≤sk'4.length∧sk'4.length≤100) :
  ∃ dc' nu' mx' tt',aOa sk'4 dc' nu' mx' (j+1)∧aC Tp 1 (sub (cd Tryz.f16) [1,1,1,1,0,1,0,0]) (dW l sk'4 r7 j dc.length (dc.flatten.map aA) nu mx tt) .normal (dW l sk'4 r7 (j+1) dc'.length (dc'.flatten.map aA) nu' mx' tt'):=by
 have hlen:=hI.len;have hnum:=hI.num;have hdeck:=hI.deck;obtain ⟨r200,m201,t202,e3⟩:∃ r m t,nB (1:Int) (2:Int) l mx tt=(r,m,t):=⟨_,_,_,rfl⟩;have b3:=zJ (1:Int) (2:Int) l mx tt;rw [e3] at b3
 dsimp only at b3
 obtain ⟨r203,m204,t205,e6⟩:∃ r m t,bP (10:Int) l m201 t202=(r,m,t):=⟨_,_,_,rfl⟩;have b6:=gW (10:Int) l m201 t202;rw [e6] at b6
 dsimp only at b6
 obtain ⟨r206,m207,t208,e8⟩:∃ r m t,bP (36:Int) l m204 t205=(r,m,t):=⟨_,_,_,rfl⟩;have b8:=gW (36:Int) l m204 t205;rw [e8] at b8
 dsimp only at b8
 have hin:inR (((j+1):Nat):Int):=aP (by omega)
 have rest:∀ (m t k:Int),(m207≤m∧m≤m207+1)→(0≤k∧k≤9)→∃ m1 t1 k1 m2 t2 b mu ab,(mx≤m2∧m2≤mx+20)∧(dcB [nu+r200,k1,r206,b,mu,ab]=true∧inB sk'4 [nu+r200,k1,r206,b,mu,ab]=true∧orB [nu+r200,k1,r206,b,mu,ab]=true) ∧
   aC Tp 1 (sub (cd Tryz.f16) [1,1,1,1,0,1,0,0,1,1,0,0,1,1,1,0]) (dS l sk'4 r7 j dc (nu+r200) m t (nu+r200) k r206 0 0 0) .normal (dS l sk'4 r7 j dc (nu+r200) m1 t1 (nu+r200) k1 r206 0 0 0) ∧
   aC Tp 1 (sub (cd Tryz.f16) [1,1,1,1,0,1,0,0,1,1,0,0,1,1,1,1,0]) (cV l sk'4 r7 j dc (nu+r200) m1 t1 (nu+r200) k1 r206 0 0 0) .normal (cV l sk'4 r7 j dc (nu+r200) m2 t2 (nu+r200) k1 r206 b mu ab):=fun m t k hm hk=>by
  obtain ⟨m1,t1,k1,q1,q2,q3,q4⟩:=bNe (l:=l) (sk'4:=sk'4) (dc:=dc) (r7:=r7) (na:=nu+r200) (ma:=m) (ta:=t) (c0:=nu+r200) (c1:=k) (c2:=r206) (c3:=0) (c4:=0) (c5:=0) (j:=j) (by omega) hk
  obtain ⟨m2,t2,b,mu,ab,s1,s2,s3⟩:=bNf (l:=l) (sk'4:=sk'4) (dc:=dc) (r7:=r7) (nb:=nu+r200) (mb:=m1) (tb:=t1) (d1:=k1) (d2:=r206) (j:=j) (by omega) (by omega) q2 q3 (by omega) hu2 hs
  exact ⟨m1,t1,k1,m2,t2,b,mu,ab,by omega,s2,q4,s3⟩
 by_cases h1:1<nu+r200
 ·by_cases h5:r203<5
  ·obtain ⟨c,m210,t211,e12⟩:∃ r m t,pQ (3:Int) l m207 t208=(r,m,t):=⟨_,_,_,rfl⟩
   have b12:=aKm (3:Int) l m207 t208;rw [e12] at b12
   dsimp only at b12
   cases c with
   | true =>
    obtain ⟨m1,t1,k1,m2,t2,b,mu,ab,q1,q2,q3,q4⟩:=rest m210 t211 7 (by omega) (by omega)
    exact ⟨_,_,_,_,hI.snoc q2 (by omega) q1,aVs (dc':=dc++[[nu+r200,k1,r206,b,mu,ab]]) hj (by omega) (by omega) e3 (by unfold inR;omega) (by omega) e6 (by omega) e8 h1 h5 (by omega) e12 rfl q3 q4 ⟨rfl,by omega⟩ hin rfl (by simp) (by simp)⟩
   | false =>
    obtain ⟨m1,t1,k1,m2,t2,b,mu,ab,q1,q2,q3,q4⟩:=rest m210 t211 r203 (by omega) (by omega)
    exact ⟨_,_,_,_,hI.snoc q2 (by omega) q1,aVt (dc':=dc++[[nu+r200,k1,r206,b,mu,ab]]) hj (by omega) (by omega) e3 (by unfold inR;omega) (by omega) e6 (by omega) e8 h1 h5 (by omega) e12 rfl q3 q4 ⟨rfl,by omega⟩ hin rfl (by simp) (by simp)⟩
  ·obtain ⟨m1,t1,k1,m2,t2,b,mu,ab,q1,q2,q3,q4⟩:=rest m207 t208 r203 (by omega) (by omega)
   exact ⟨_,_,_,_,hI.snoc q2 (by omega) q1,aVu (dc':=dc++[[nu+r200,k1,r206,b,mu,ab]]) hj (by omega) (by omega) e3 (by unfold inR;omega) (by omega) e6 (by omega) e8 h1 (by omega) q3 q4 ⟨rfl,by omega⟩ hin rfl (by simp) (by simp)⟩
 ·obtain ⟨m1,t1,k1,m2,t2,b,mu,ab,q1,q2,q3,q4⟩:=rest m207 t208 r203 (by omega) (by omega)
  exact ⟨_,_,_,_,hI.snoc q2 (by omega) q1,aVv (dc':=dc++[[nu+r200,k1,r206,b,mu,ab]]) hj (by omega) (by omega) e3 (by unfold inR;omega) (by omega) e6 (by omega) e8 (by omega) q3 q4 ⟨rfl,by omega⟩ hin rfl (by simp) (by simp)⟩
end
section

abbrev dN(x:List Int):Int:=x.getD 0 0
abbrev dK(x:List Int):Int:=x.getD 1 0
abbrev dMi(x:List Int):Int:=x.getD 2 0
abbrev dB(x:List Int):Int:=x.getD 3 0
abbrev dMu(x:List Int):Int:=x.getD 4 0
abbrev dAb(x:List Int):Int:=x.getD 5 0
def gE(k:Int):Bool:=k == 4 || k == 7
def cG(k:Int):Bool:=k == 8 || k == 9

def bV(dc:Lqq)(n:Int):Lqq:=dc.reverse.filter fun x=>dAb x == n

structure DS where
 x:List Int
 cnt:Bool
 upd:Bool
 rul:Option (List Int)
 chg:Option (List Int)
 much:Int

def eZ(t:List DS)(n:Int):List DS:=t.reverse.filter fun s=>dAb s.x == n
def kV(dl:Int)(x:List Int):Bool:=gE (dK x) && decide (dl<dMi x)
def sJ(x:List Int)(y:List Int):Bool:=dK y == 5 || (dK y == 7 && !cG (dK x))
def yK(x:List Int)(s:DS):Bool:=sJ x s.x && s.cnt && (dK s.x == 5 || s.upd)
def mkS(dl:Int)(oc:List Int)(x:List Int)(t:List DS):DS :=
 ⟨x,!kV dl x && !((eZ t (dN x)).any (yK x)),
  match (eZ t (dN x)).find? fun s=>cG (dK s.x) && s.cnt with
   | some s=>dK s.x == 8
   | none=>oc.contains (dN x),
  ((eZ t (dN x)).find? fun s=>cG (dK s.x) && s.cnt).map (·.x),
  ((eZ t (dN x)).find? fun s=>dK s.x == 6 && s.cnt).map (·.x),
  match (eZ t (dN x)).find? fun s=>dK s.x == 6 && s.cnt with
   | some s=>s.much
   | none=>dMu x⟩
def gF(dl:Int)(oc:List Int):Lqq→List DS
 | []=>[]
 | x::r=>mkS dl oc x (gF dl oc r)::gF dl oc r

theorem aBx(dl:Int)(oc:List Int):∀ dc:Lqq,(gF dl oc dc).map (·.x)=dc
 | []=>rfl
 | x::r=>by rw [gF,gD,aBx dl oc r];rfl
theorem bJe(dl:Int)(oc:List Int)(dc:Lqq)(n:Int):(eZ (gF dl oc dc) n).map (·.x)=bV dc n:=by
 unfold eZ bV
 conv=>rhs;rw [← aBx dl oc dc]
 rw [← List.map_reverse,List.filter_map];rfl

structure cA (dc:Lqq):Prop where
 ud:uni 6 dc
 len:dc.length≤1000
 rng:∀ x∈dc,dcB x=true
 up:dc.Pairwise fun a b=>dN a<dN b
 ord:∀ x∈dc,orB x=true

theorem cA.tail{x:List Int}{r:Lqq}(h:cA (x::r)):cA r :=
 ⟨fun y hy=>h.ud y (kQ7 _ hy),by have:=h.len;simp at this;omega,fun y hy=>h.rng y (kQ7 _ hy),(List.pairwise_cons.1 h.up).2,fun y hy=>h.ord y (kQ7 _ hy)⟩
theorem aPe{a r:Lqq}{x:List Int}(h:cA (a++x::r)):bV (a++x::r) (dN x)=bV r (dN x):=by
 unfold bV;have e:a++x::r=(a++[x])++r:=by simp
 rw [e,List.reverse_append,uY];have:(a++[x]).reverse.filter (fun y=>dAb y == dN x)=[]:=by
  rw [List.filter_eq_nil_iff];intro y hy;have hy:y∈a++[x]:=yZ.1 hy;have hm:y∈a++x::r:=by rw [e];exact oS _ hy
  have hx1:1≤dN x:=(eX.1 (h.rng x (by simp))).1.1
  have hle:dN y≤dN x:=by
   rcases jR.1 hy with hy | hy
   ·exact Int.le_of_lt ((List.pairwise_append.1 h.up).2.2 y hy x (by simp))
   ·simp at hy;rw [hy];exact aVa _
  have ho:=h.ord y hm;unfold orB at ho
  simp only [beq_iff_eq];show ¬ y.getD 5 0=x.getD 0 0
  split at ho
  ·have:y.getD 5 0=0:=by simpa using ho
   unfold dN at hx1;omega
  ·have:=cD.1 ho
   unfold dN at hle;omega
 rw [this,List.append_nil]

def yL(L:List (Int × Lqq))(k:Int):Lqq:=match L.find? fun e=>e.1 == k with
 | some e=>e.2
 | none=>[]
def aDg(L:List (Int × Lqq))(k:Int)(v:Lqq):List (Int × Lqq):=if L.any (fun e=>e.1 == k) then L.map (fun e=>if e.1 == k then (k,v) else e) else L++[(k,v)]
def iV(L:List (Int × Lqq))(x:List Int):List (Int × Lqq):=if 0<dAb x then aDg L (dAb x) (yL L (dAb x)++[x]) else L
def abM(dc:Lqq):List (Int × Lqq):=dc.reverse.foldl iV []

structure aKw (q:Lqq) (L:List (Int × Lqq)):Prop where
 nd:(L.map (·.1)).Nodup
 mem:∀ e∈L,0<e.1∧e.2≠[]∧e.2=q.filter fun x=>dAb x == e.1
 all:∀ x∈q,0<dAb x→dAb x∈L.map (·.1)
theorem aKw.look{q:Lqq}{L:List (Int × Lqq)}(h:aKw q L){n:Int}(hn:0<n):yL L n=q.filter fun x=>dAb x == n:=by
 unfold yL;cases hf:L.find? fun e=>e.1 == n with
 | some e =>
  have h1:=wL hf;have h2:e.1=n:=by simpa using aUz hf
  rw [← h2];exact (h.mem e h1).2.2
 | none =>
  symm;rw [List.filter_eq_nil_iff];intro x hx he;have he:dAb x=n:=by simpa using he
  obtain ⟨e,h1,h2⟩:=dQ.1 (h.all x hx (by omega))
  have:=aGo.1 hf e h1;exact this (by rw [h2,he];exact beq_self_eq_true n)
theorem bDv{L:List (Int × Lqq)}{k:Int}{v:Lqq}{e:Int × Lqq}(h:e∈aDg L k v):e=(k,v)∨(e∈L∧e.1≠k):=by
 unfold aDg at h
 split at h
 ·obtain ⟨z,hz,rfl⟩:=dQ.1 h
  by_cases hk:z.1=k
  ·left;simp [hk]
  ·right;simp [hk,hz]
 ·rename_i hn
  rcases jR.1 h with h | h
  ·right
   refine ⟨h,fun hk=>hn (List.any_eq_true.2 ⟨e,h,by simpa using hk⟩)⟩
  ·left;simpa using h
theorem aXt{L:List (Int × Lqq)}{k:Int}{v:Lqq}:(k∈L.map (·.1)∧(aDg L k v).map (·.1)=L.map (·.1))∨(k∉L.map (·.1)∧(aDg L k v).map (·.1)=L.map (·.1)++[k]):=by
 unfold aDg
 by_cases h:L.any (fun e=>e.1 == k)=true
 ·left
  rw [if_pos h];refine ⟨?_,?_⟩
  ·obtain ⟨e,h1,h2⟩:=List.any_eq_true.1 h
   exact dQ.2 ⟨e,h1,by simpa using h2⟩
  ·rw [lK]
   refine tF fun e _ => ?_
   by_cases hk:e.1=k
   ·simp [hk]
   ·simp [hk]
 ·right
  rw [if_neg h];refine ⟨fun hm=>h ?_,by simp⟩
  obtain ⟨e,h1,h2⟩:=dQ.1 hm;exact List.any_eq_true.2 ⟨e,h1,by simpa using h2⟩
theorem aKw.step{q:Lqq}{L:List (Int × Lqq)}(h:aKw q L)(x:List Int)(hx:0≤dAb x):aKw (q++[x]) (iV L x):=by
 unfold iV
 by_cases hp:0<dAb x
 ·rw [if_pos hp]
  have hk:=aXt (L:=L) (k:=dAb x) (v:=yL L (dAb x)++[x]);refine ⟨?_,fun e he => ?_,fun y hy h0 => ?_⟩
  ·rcases hk with ⟨_,hk⟩ | ⟨hn,hk⟩
   ·rw [hk];exact h.nd
   ·rw [hk,List.nodup_append]
    exact ⟨h.nd,by simp,fun a ha b hb he=>hn (by rw [← List.mem_singleton.1 hb,← he];exact ha)⟩
  ·rcases bDv he with rfl | ⟨h1,h2⟩
   ·refine ⟨hp,by simp,?_⟩
    dsimp only;rw [h.look hp,uY];simp
   ·obtain ⟨q1,q2,q3⟩:=h.mem e h1
    refine ⟨q1,q2,?_⟩;rw [uY,← q3];have:[x].filter (fun y=>dAb y == e.1)=[]:=by
     rw [List.filter_eq_nil_iff];intro y hy;simp at hy
     subst hy;simpa using fun he=>h2 he.symm
    rw [this,List.append_nil]
  ·have:dAb y=dAb x∨dAb y∈L.map (·.1):=by
    rcases jR.1 hy with hy | hy
    ·exact .inr (h.all y hy h0)
    ·simp at hy;left;rw [hy]
   rcases hk with ⟨hm,hk⟩ | ⟨hn,hk⟩
   ·rw [hk]
    rcases this with h1 | h1
    ·rw [h1];exact hm
    ·exact h1
   ·rw [hk]
    rcases this with h1 | h1
    ·rw [h1];simp
    ·exact oS _ h1
 ·rw [if_neg hp]
  have h0:dAb x=0:=by omega
  refine ⟨h.nd,fun e he => ?_,fun y hy h1 => ?_⟩
  ·obtain ⟨q1,q2,q3⟩:=h.mem e he
   refine ⟨q1,q2,?_⟩;rw [uY,← q3];have:[x].filter (fun y=>dAb y == e.1)=[]:=by
    rw [List.filter_eq_nil_iff];intro y hy;simp at hy
    subst hy;simp only [beq_iff_eq];omega
   rw [this,List.append_nil]
  ·rcases jR.1 hy with hy | hy
   ·exact h.all y hy h1
   ·simp at hy;rw [hy] at h1;omega
theorem wV:∀ (p q:Lqq) (L:List (Int × Lqq)),aKw q L→(∀ x∈p,0≤dAb x)→aKw (q++p) (p.foldl iV L)
 | [],q,L,h,_=>by simpa using h
 | x::p,q,L,h,hp=>by
  have:=wV p (q++[x]) (iV L x) (h.step x (hp x (jW ..))) (fun y hy=>hp y (kQ7 _ hy))
  simpa using this
theorem lR{dc:Lqq}(h:cA dc):∀ x∈dc,0≤dAb x∧dAb x≤9998:=fun x hx=>by
 have h1:=eX.1 (h.rng x hx);have ho:=h.ord x hx;unfold orB at ho
 show 0≤x.getD 5 0∧x.getD 5 0≤9998
 split at ho
 ·have:x.getD 5 0=0:=by simpa using ho
  omega
 ·have:=cD.1 ho;omega
theorem aPf{dc:Lqq}(h:cA dc):aKw dc.reverse (abM dc):=by
 have:=wV dc.reverse [] [] ⟨by simp,fun e he=>(by cases he),fun x hx=>(by cases hx)⟩ (fun x hx=>(lR h x (by simpa using hx)).1)
 simpa [abM] using this
theorem bDw{dc:Lqq}(h:cA dc){n:Int}(hn:0<n):yL (abM dc) n=bV dc n:=(aPf h).look hn
end
section

def stF(dl:Int)(oc:List Int)(dc:Lqq)(x:List Int):DS:=((gF dl oc dc).find? fun s=>s.x == x).getD (mkS dl oc x [])
def dX(dl:Int)(oc:List Int)(dc:Lqq)(x:List Int):Bool:=(stF dl oc dc x).cnt
def aDf(dl:Int)(oc:List Int)(dc:Lqq)(x:List Int):Bool:=(stF dl oc dc x).upd
def rX(dl:Int)(oc:List Int)(dc:Lqq)(x:List Int):Option (List Int):=(stF dl oc dc x).rul
def aHj(dl:Int)(oc:List Int)(dc:Lqq)(x:List Int):Option (List Int):=(stF dl oc dc x).chg
def nX(dl:Int)(oc:List Int)(dc:Lqq)(x:List Int):Int:=(stF dl oc dc x).much

theorem aKu{a r:Lqq}{x:List Int}(h:cA (a++x::r)){y:List Int}(hy:y∈a):dN y<dN x:=(List.pairwise_append.1 h.up).2.2 y hy x (by simp)
theorem aKv(dl:Int)(oc:List Int){x:List Int}{r:Lqq}:∀ (a:Lqq),cA (a++x::r)→(gF dl oc (a++x::r)).find? (fun s=>s.x == x)=some (mkS dl oc x (gF dl oc r))
 | [],h=>by
  simp only [List.nil_append,gF];rw [List.find?_cons_of_pos];show (mkS dl oc x (gF dl oc r)).x == x;exact beq_self_eq_true x
 | y::a,h=>by
  simp only [List.cons_append,gF];rw [List.find?_cons_of_neg,aKv dl oc a h.tail];show ¬ ((mkS dl oc y (gF dl oc (a++x::r))).x == x)=true;have h1:=aKu h (y:=y) (by simp)
  intro he;have:y=x:=by simpa [mkS] using he
  rw [this] at h1;omega
theorem aBt{dl:Int}{oc:List Int}{a r:Lqq}{x:List Int}(h:cA (a++x::r)):stF dl oc (a++x::r) x=mkS dl oc x (gF dl oc r):=by
 unfold stF;rw [aKv dl oc a h];rfl
theorem aSe(dl:Int)(oc:List Int)(r:Lqq):∀ a:Lqq,∃ l,gF dl oc (a++r)=l++gF dl oc r
 | []=>⟨[],rfl⟩
 | y::a=>by
  obtain ⟨l,h⟩:=aSe dl oc r a;exact ⟨mkS dl oc y (gF dl oc (a++r))::l,by simp [gF,h]⟩
theorem aSf{dl:Int}{oc:List Int}{s:DS}:∀ {dc:Lqq},s∈gF dl oc dc→∃ a r,dc=a++s.x::r∧s=mkS dl oc s.x (gF dl oc r)
 | [],h=>by simp [gF] at h
 | y::q,h=>by
  simp only [gF,jG] at h
  rcases h with rfl | h
  ·exact ⟨[],q,rfl,rfl⟩
  ·obtain ⟨a,r,h1,h2⟩:=aSf h
   exact ⟨y::a,r,by rw [h1];rfl,h2⟩
theorem aXs{dl:Int}{oc:List Int}{dc:Lqq}{s:DS}(h:cA dc)(hs:s∈gF dl oc dc):stF dl oc dc s.x=s:=by
 obtain ⟨a,r,h1,h2⟩:=aSf hs;subst h1;rw [aBt h,← h2]
theorem aPd{dl:Int}{oc:List Int}{dc:Lqq}{x:List Int}(h:cA dc)(hx:x∈dc):(stF dl oc dc x).x=x:=by
 obtain ⟨a,r,rfl⟩:=List.append_of_mem hx;rw [aBt h];rfl
theorem qV{dl:Int}{oc:List Int}{a r:Lqq}{x:List Int}(h:cA (a++x::r)):eZ (gF dl oc r) (dN x)=(bV (a++x::r) (dN x)).map (stF dl oc (a++x::r)):=by
 rw [aPe h,← bJe dl oc r (dN x),lK]
 conv=>lhs;rw [← List.map_id (eZ (gF dl oc r) (dN x))]
 refine tF fun s hs => ?_
 have hs:s∈gF dl oc r:=by
  unfold eZ at hs
  exact yZ.1 (wN.1 hs).1
 have e:a++x::r=(a++[x])++r:=by simp
 have:s∈gF dl oc (a++x::r):=by
  obtain ⟨l,hl⟩:=aSe dl oc r (a++[x]);rw [e,hl];exact aDc _ hs
 exact (aXs h this).symm

theorem eQ{dc:Lqq}{n:Int}{y:List Int}(h:y∈bV dc n):y∈dc∧dAb y=n:=by
 unfold bV at h
 obtain ⟨h1,h2⟩:=wN.1 h;exact ⟨yZ.1 h1,by simpa using h2⟩
section
variable {dl:Int} {oc:List Int} {dc:Lqq} {x:List Int}
theorem bQj(h:cA dc)(l:Lqq)(hl:∀ y∈l,y∈dc)(f:DS→Bool)(g:List Int→Bool)(hfg:∀ y∈dc,f (stF dl oc dc y)=g y):(l.map (stF dl oc dc)).any f=l.any g:=by
 rw [List.any_map]
 induction l with
 | nil=>rfl
 | cons y l ih =>
  rw [List.any_cons,List.any_cons,ih fun z hz=>hl z (kQ7 _ hz)]
  rw [Function.comp,hfg y (hl y (jW ..))]
theorem zM(h:cA dc)(l:Lqq)(hl:∀ y∈l,y∈dc)(f:DS→Bool)(g:List Int→Bool)(hfg:∀ y∈dc,f (stF dl oc dc y)=g y):(l.map (stF dl oc dc)).find? f=(l.find? g).map (stF dl oc dc):=by
 induction l with
 | nil=>rfl
 | cons y l ih =>
  rw [gD,List.find?_cons,List.find?_cons,hfg y (hl y (jW ..)),ih fun z hz=>hl z (kQ7 _ hz)]
  cases g y <;> rfl
theorem bQk(h:cA dc)(hx:x∈dc):dX dl oc dc x=(!kV dl x && !((bV dc (dN x)).any fun y=>sJ x y && dX dl oc dc y && (dK y == 5 || aDf dl oc dc y))):=by
 obtain ⟨a,r,rfl⟩:=List.append_of_mem hx;unfold dX;rw [aBt h];simp only [mkS];rw [qV h,bQj (dl:=dl) (oc:=oc) h _ (fun y hy=>(eQ hy).1) (yK x) (fun y=>sJ x y && dX dl oc (a++x::r) y && (dK y == 5 || aDf dl oc (a++x::r) y)) (fun y hy => ?_)]
 ·rfl
 ·unfold yK dX aDf
  rw [aPd h hy]
theorem sI{l:Lqq}{g:List Int→Bool}{y:List Int}(h:l.find? g=some y):y∈l:=wL h
theorem aBu(h:cA dc)(l:Lqq)(hl:∀ y∈l,y∈dc)(g:List Int→Bool):((l.find? g).map (stF dl oc dc)).map (·.x)=l.find? g:=by
 cases hf:l.find? g with
 | none=>rfl
 | some y=>simp only [Option.map_some];rw [aPd h (hl y (sI hf))]
theorem aBv(h:cA dc)(hx:x∈dc):rX dl oc dc x=(bV dc (dN x)).find? fun y=>cG (dK y) && dX dl oc dc y:=by
 obtain ⟨a,r,rfl⟩:=List.append_of_mem hx;unfold rX;rw [aBt h];simp only [mkS];rw [qV h,zM (dl:=dl) (oc:=oc) h _ (fun y hy=>(eQ hy).1) _ (fun y=>cG (dK y) && dX dl oc (a++x::r) y) (fun y hy => ?_),aBu h _ (fun y hy=>(eQ hy).1)]
 unfold dX;rw [aPd h hy]
theorem bQl(h:cA dc)(hx:x∈dc):aDf dl oc dc x=match rX dl oc dc x with | some y=>dK y == 8 | none=>oc.contains (dN x):=by
 rw [aBv h hx];obtain ⟨a,r,rfl⟩:=List.append_of_mem hx;unfold aDf;rw [aBt h];simp only [mkS];rw [qV h,zM (dl:=dl) (oc:=oc) h _ (fun y hy=>(eQ hy).1) _ (fun y=>cG (dK y) && dX dl oc (a++x::r) y) (fun y hy => ?_)]
 ·cases hf:(bV (a++x::r) (dN x)).find? fun y=>cG (dK y) && dX dl oc (a++x::r) y with
  | none=>rfl
  | some y=>simp only [Option.map_some];rw [aPd h (eQ (sI hf)).1]
 ·unfold dX;rw [aPd h hy]
theorem aBw(h:cA dc)(hx:x∈dc):aHj dl oc dc x=(bV dc (dN x)).find? fun y=>dK y == 6 && dX dl oc dc y:=by
 obtain ⟨a,r,rfl⟩:=List.append_of_mem hx;unfold aHj;rw [aBt h];simp only [mkS];rw [qV h,zM (dl:=dl) (oc:=oc) h _ (fun y hy=>(eQ hy).1) _ (fun y=>dK y == 6 && dX dl oc (a++x::r) y) (fun y hy => ?_),aBu h _ (fun y hy=>(eQ hy).1)]
 unfold dX;rw [aPd h hy]
theorem aSg(h:cA dc)(hx:x∈dc):nX dl oc dc x=match aHj dl oc dc x with | some y=>nX dl oc dc y | none=>dMu x:=by
 rw [aBw h hx];obtain ⟨a,r,rfl⟩:=List.append_of_mem hx;unfold nX;rw [aBt h];simp only [mkS];rw [qV h,zM (dl:=dl) (oc:=oc) h _ (fun y hy=>(eQ hy).1) _ (fun y=>dK y == 6 && dX dl oc (a++x::r) y) (fun y hy => ?_)]
 ·cases hf:(bV (a++x::r) (dN x)).find? fun y=>dK y == 6 && dX dl oc (a++x::r) y with
  | none=>rfl
  | some y=>rfl
 ·unfold dX;rw [aPd h hy]
theorem bDu(h:cA dc){y:List Int}(hy:y∈dc){n:Int}(hn:dAb y=n)(h1:1≤n):n<dN y:=by
 have ho:=h.ord y hy;unfold orB at ho
 split at ho
 ·have:y.getD 5 0=0:=by simpa using ho
  rw [show y.getD 5 0=dAb y from rfl] at this;omega
 ·have:=cD.1 ho
  rw [show y.getD 5 0=dAb y from rfl] at this
  rw [show y.getD 0 0=dN y from rfl] at this
  omega
end
end
section

theorem bUa{dc:Lqq}{base:Nat}:FV Tp 147 [(.p (fS dc))] base (.fn 187 [] [(.rp [(fS dc)] 0)]) []:=by
 exact FV.fin Tryz.func147 rfl (o:=[.g 3 ⟨[],[],[0],[]⟩]) (l:=[]) (by kernel_rfl) (gn)
end
section
variable {P:Program} {C C0:Cx} {M M0:Mem} {w w0:World}

theorem bY{w:World}{b:Nat}{o:Obj}(h:w.heap[b]? = some o):b<w.heap.size:=(lJ.1 h).1

theorem aCc(hM:aR P C M w){w':World}(hsz:w.heap.size≤w'.heap.size)(hF:∀ b,C.F b→w'.heap[b]? = w.heap[b]?)(hL:∀ (id:Nat) (o:AO) (b:Nat),M[id]? = some (some o)→o.live=true→C.ι id=some b→w'.heap[b]? = w.heap[b]?) :
  aR P C M w'∧Le C C M M w w':=by
 have hle:Le C C M M w w':=⟨fun _ o h=>⟨o,h⟩,fun _ _ _ _ _ cs h=>⟨cs,h⟩,fun _ o h o' h' hl=>by rw [h] at h';cases h';exact ⟨hl,rfl,rfl⟩,fun _ h=>h,hF⟩
 refine ⟨⟨fun i ty' n cs hm => ?_,fun i ty' cs hm => ?_,fun i es cl hm => ?_,hM.inj,hM.nF,fun b hb=>kQ9 (hM.Fs b hb) hsz,fun i x b hm hl hb=>kQ9 (hM.lt i x b hm hl hb) hsz⟩,hle⟩
 ·rcases hM.row _ _ _ _ hm with h4 | ⟨b,arr,inf,q0,q1,q2,q3,q4,q5,q6,q7,q8⟩
  ·exact .inl h4
  ·exact .inr ⟨b,arr,inf,q0,by rw [hL _ _ _ hm rfl q0];exact q1,q2,q3,q4,q5,q6,fun j hj=>(q7 j hj).mono hle.F hle.fz,q8⟩
 ·obtain ⟨b,arr,q0,q1,q2,q3,q4⟩:=hM.box _ _ _ hm
  exact ⟨b,arr,q0,by rw [hL _ _ _ hm rfl q0];exact q1,q2,fun j hj=>(q3 j hj).mono hle,q4⟩
 ·obtain ⟨b,arr,q0,q1,q2,q3⟩:=hM.mp _ _ _ hm
  refine ⟨b,arr,q0,by rw [hL _ _ _ hm rfl q0];exact q1,q2,fun j hj => ?_⟩
  obtain ⟨en,r1,r2,r3,r4⟩:=q3 j hj;exact ⟨en,r1,r2,r3,r4.mono hle.F hle.fz⟩

theorem Sim.beside{R R':List (Nat × Obj)}{st:St}{a:Act}{w':World}(h:Sim P (C0.with R) M0 w0 st a w)(X:Nat→Prop)(hX:∀ b,X b→∃ o,(b,o)∈R)(h1:w'.os=w.os)(h2:w'.tape=w.tape)(h3:w'.output=w.output)
  (hsz:w.heap.size≤w'.heap.size) (hk:∀ b,b<w.heap.size→¬ X b→w'.heap[b]? = w.heap[b]?)
  (hR':∀ p∈R',(p∈R∧¬ X p.1)∨(w'.heap[p.1]? = some p.2∧p.2 ≠ .deferred (some [])∧(w.heap.size≤p.1∨∃ o,(p.1,o)∈R))):Sim P (C0.with R') M0 w0 st a w':=by
 obtain ⟨C,hS,hM,hF,⟨l,m1,m2,m3⟩,hR,hP⟩:=h;have hXR:∀ b,X b→∃ o,w.heap[b]? = some o∧w0.heap.size≤b∧o ≠ .deferred (some [])∧¬ C.F b∧∀ (id:Nat) (o:AO),st.m[id]? = some (some o)→o.live=true→C.ι id≠some b:=fun b hb=>by
  obtain ⟨o,ho⟩:=hX b hb;exact ⟨o,hR _ ho⟩
 have hFz:∀ b,C.F b→w'.heap[b]? = w.heap[b]? := fun b hb=>hk b (hM.Fs b hb) (fun hx=>by obtain ⟨_,_,_,_,q,_⟩:=hXR b hx;exact q hb)
 have hLv:∀ (id:Nat) (o:AO) (b:Nat),st.m[id]? = some (some o)→o.live=true→C.ι id=some b→w'.heap[b]? = w.heap[b]? := fun id o b ho hl hb=>hk b (hM.lt _ _ _ ho hl hb) (fun hx=>by obtain ⟨_,_,_,_,_,q⟩:=hXR b hx;exact q id o ho hl hb)
 obtain ⟨hM',hle⟩:=aCc hM hsz hFz hLv;refine ⟨C,hS.le hle,hM',⟨h1.trans hF.os,h2.trans hF.tape,h3.trans hF.out,gQ hF.size hsz,fun b hb hn=>(hk b (kQ9 hb hF.size) (fun hx=>by obtain ⟨_,_,q,_⟩:=hXR b hx;omega)).trans (hF.keep b hb hn),hF.ids,hF.row,hF.liv,hF.new,hF.F1,hF.F2⟩,⟨l,m1,m2,fun D hD => ?_⟩,fun p hp => ?_,fun i to ti sz L hm => ?_,hP.2⟩
 ·obtain ⟨q1,q2,q3⟩:=m3 D hD
  refine ⟨(hk D (bY q1) (fun hx => ?_)).trans q1,q2,q3⟩
  obtain ⟨o,r1,_,r3,_⟩:=hXR D hx;rw [q1] at r1;cases r1;exact r3 rfl
 ·rcases hR' p hp with ⟨hin,hx⟩ | ⟨r1,r2,r3⟩
  ·obtain ⟨q1,q2,q3,q4,q5⟩:=hR p hin
   exact ⟨(hk _ (bY q1) hx).trans q1,q2,q3,q4,q5⟩
  ·rcases r3 with r3 | ⟨o,ho⟩
   ·refine ⟨r1,gQ hF.size r3,r2,fun hf => ?_,fun id o ho hl hb => ?_⟩
    ·have:=hM.Fs _ hf;omega
    ·have:=hM.lt _ _ _ ho hl hb;omega
   ·obtain ⟨q1,q2,q3,q4,q5⟩:=hR _ ho
    exact ⟨r1,q2,r2,q4,q5⟩
 ·obtain ⟨p,p0,p1⟩:=hP.1 _ _ _ _ _ hm
  refine ⟨p.move p.io rfl (fun _ h=>h) hFz fun b hb=>⟨hk b (p.lt hb).1 fun hx => ?_,p.own b hb⟩,p0,fun b hb=>⟨(p1 b hb).1,fun q hq e => ?_⟩⟩
  ·obtain ⟨o,ho⟩:=hX b hx
   exact (p1 b hb).2 _ ho rfl
  ·rcases hR' q hq with ⟨hin,_⟩ | ⟨_,_,r3⟩
   ·exact (p1 b hb).2 q hin e
   ·rcases r3 with r3 | ⟨o,ho⟩
    ·have:=(p.lt hb).1;omega
    ·exact (p1 b hb).2 _ ho e

theorem Sim.has{R:List (Nat × Obj)}{st:St}{a:Act}(h:Sim P (C0.with R) M0 w0 st a w):∀ p∈R,w.heap[p.1]? = some p.2:=fun p hp=>by
 obtain ⟨C,_,_,_,_,hR,_⟩:=h;exact (hR p hp).1

end
section
open Go.Maps Go.MapKept
open Go.ChangeMaps (setBlock)

structure Ent where
 k:Int
 l:Lqq
 b:Nat
 cap:Nat
 arr:Array Value

def Ent.val(e:Ent):Value := .slice (some ⟨e.b,0,none⟩) e.l.length e.cap
def Ent.blk(e:Ent):Nat × Obj:=(e.b,.cells e.arr 44 (0,0))
structure Ent.OK (e:Ent):Prop where
 key:(Lit.int .i64 e.k).wf=true
 sz:e.arr.size=e.cap*6
 le:e.l.length≤e.cap
 cap:e.cap≤maxLen
 at_:e.arr.toList.take (e.l.length*6)=e.l.flatten.map (Value.int .i64)
 u:uni 6 e.l

structure lF (mb:Nat) (es:Array MapEntry) (L:List Ent):Prop where
 e1:∀ x∈es.toList,∃ e∈L,x.key = .int .i64 e.k∧x.val=e.val
 e2:∀ e∈L,∃ x∈es.toList,x.key = .int .i64 e.k∧x.val=e.val
 nd:es.toList.Pairwise (fun x y=>x.key≠y.key)
 ok:∀ e∈L,e.OK
 keys:(L.map (·.k)).Nodup
 blks:(mb::L.map (·.b)).Nodup
 ord:es.toList.map (fun x=>(x.key,x.val))=L.map fun e=>(Value.int .i64 e.k,e.val)

theorem lF.nil(mb:Nat):lF mb #[] []:=⟨fun x h=>by simp at h,fun e h=>by simp at h,by simp,fun e h=>by simp at h,by simp,by simp,rfl⟩

def qX(L:List Ent)(k:Int):Option Ent:=L.find? fun e=>e.k == k
def pS(L:List Ent)(k:Int):Value:=match qX L k with
 | some e=>e.val
 | none => .slice none 0 0

theorem tQ{L:List Ent}{k:Int}{e:Ent}(h:qX L k=some e):e∈L∧e.k=k:=⟨wL h,by simpa using aUz h⟩
theorem aPn{L:List Ent}{k:Int}(h:qX L k=none):∀ e∈L,e.k≠k:=fun e he hk=>by
 have:=aGo.1 h e he;simp [hk] at this
theorem aYh{L:List Ent}{k:Int}{e:Ent}(hn:(L.map (·.k)).Nodup)(he:e∈L)(hk:e.k=k):qX L k=some e:=by
 cases h:qX L k with
 | none=>exact absurd hk (aPn h e he)
 | some e' =>
  obtain ⟨h1,h2⟩:=tQ h;have:∀ (l:List Ent),(l.map (·.k)).Nodup→e∈l→e'∈l→e=e':=by
   intro l
   induction l with
   | nil=>intro _ h;simp at h
   | cons x r ih =>
    intro hn h3 h4;rw [gD,List.nodup_cons] at hn
    rcases jG.1 h3 with e1 | h5
    ·rcases jG.1 h4 with e2 | h6
     ·rw [e1,e2]
     ·exact absurd (dQ.2 ⟨e',h6,by rw [h2,← hk,e1]⟩) hn.1
    ·rcases jG.1 h4 with e2 | h6
     ·exact absurd (dQ.2 ⟨e,h5,by rw [hk,← h2,e2]⟩) hn.1
     ·exact ih hn.2 h5 h6
  rw [this L hn he h1]

section
variable {P:Program} {w:World} {t kt et:TypeId} {mb:Nat} {es:Array MapEntry} {cl:Nat} {L:List Ent}

theorem aHo(hkt:P.underlying kt=some (.int .i64)){k:Int}(hk:(Lit.int .i64 k).wf=true):keyOf P kt (.int .i64 k)=some (.int .i64 k):=keyOf_int_mk hkt hk

theorem bEf(ht:P.underlying t=some (.map kt et))(hkt:P.underlying kt=some (.int .i64))(hz:(zeroValue et).run P w = .ok (.slice none 0 0) w)(hb:w.heap[mb]? = some (.map es cl))(hM:lF mb es L){k:Int}(hk:(Lit.int .i64 k).wf=true) :
  (Instr.lookup t (.map (some mb)) (.int .i64 k) false).run P w = .ok (pS L k) w:=by
 have K:=int_keyed hkt;have hkey:=aHo hkt hk;have hes:∀ e∈es.toList,∃ l,keyOf P kt e.key=some l:=fun x hx=>by
  obtain ⟨e,he,h1,_⟩:=hM.e1 x hx;exact ⟨_,by rw [h1];exact aHo hkt (hM.ok e he).key⟩
 rcases K.find w hkey es.toList hes with ⟨h1,h2⟩ | ⟨j,e0,h1,h2,h3⟩
 ·have:qX L k=none:=by
   rw [qX,aGo];intro e he;obtain ⟨x,hx,h4,_⟩:=hM.e2 e he;have:=h2 x hx;rw [h4] at this
   intro hk';exact this (by rw [eq_of_beq hk'])
  unfold pS;rw [this];simp [Instr.lookup,run_underlying ht,MapKept.run_getObj_map hb,K.check w _ hkey,h1,hz,Result.andThen]
 ·obtain ⟨e,he,h4,h5⟩:=hM.e1 e0 (kQ5 h2)
  rw [h3] at h4
  have hk':e.k=k:=by injection h4 with _ h;exact h.symm
  unfold pS;rw [aYh hM.keys he hk'];simp [Instr.lookup,run_underlying ht,MapKept.run_getObj_map hb,K.check w _ hkey,h1,Result.andThen,h5]

def nZ(L:List Ent)(e:Ent):List Ent:=if L.any (fun x=>x.k == e.k) then L.map (fun x=>if x.k == e.k then e else x) else L++[e]
theorem vI{L:List Ent}{e:Ent}(h:∀ x∈L,x.k≠e.k):nZ L e=L++[e]:=by
 unfold nZ;rw [if_neg];intro h1;obtain ⟨x,hx,he⟩:=List.any_eq_true.1 h1;exact h x hx (by simpa using he)
theorem qY{L:List Ent}{e x:Ent}(hx:x∈L)(he:x.k=e.k):nZ L e=L.map (fun x=>if x.k == e.k then e else x):=by
 unfold nZ;rw [if_pos (List.any_eq_true.2 ⟨x,hx,by simpa using he⟩)]
theorem gY{L:List Ent}{e x:Ent}:x∈nZ L e↔(x∈L∧x.k≠e.k)∨x=e:=by
 by_cases h:∃ y∈L,y.k=e.k
 ·obtain ⟨y,hy,he⟩:=h
  rw [qY hy he,dQ];constructor
  ·rintro ⟨z,hz,rfl⟩
   by_cases hk:z.k=e.k
   ·rw [if_pos (by simpa using hk)];exact .inr rfl
   ·rw [if_neg (by simpa using hk)];exact .inl ⟨hz,hk⟩
  ·rintro (⟨h1,h2⟩ | rfl)
   ·exact ⟨x,h1,by rw [if_neg (by simpa using h2)]⟩
   ·exact ⟨y,hy,by rw [if_pos (by simpa using he)]⟩
 ·have h':∀ y∈L,y.k≠e.k:=fun y hy he=>h ⟨y,hy,he⟩
  rw [vI h',jR,List.mem_singleton];constructor
  ·rintro (h1 | h1)
   ·exact .inl ⟨h1,h' x h1⟩
   ·exact .inr h1
  ·rintro (⟨h1,_⟩ | h1)
   ·exact .inl h1
   ·exact .inr h1
theorem aYi{L:List Ent}{e:Ent}(hn:(L.map (·.k)).Nodup):((nZ L e).map (·.k)).Nodup:=by
 by_cases h:∃ y∈L,y.k=e.k
 ·obtain ⟨y,hy,he⟩:=h
  rw [qY hy he,lK];have:L.map ((fun x=>x.k) ∘ fun x=>if x.k == e.k then e else x)=L.map (·.k):=tF fun x _=>by
   by_cases hk:x.k=e.k
   ·simp [hk]
   ·simp [hk]
  rw [this];exact hn
 ·have h':∀ y∈L,y.k≠e.k:=fun y hy he=>h ⟨y,hy,he⟩
  rw [vI h',iE,List.nodup_append];refine ⟨hn,by simp,fun x hx y hy => ?_⟩
  obtain ⟨z,hz,rfl⟩:=dQ.1 hx;simp at hy
  subst hy;exact h' z hz
theorem aYj{mb:Nat}{L:List Ent}{e:Ent}(hn:(L.map (·.k)).Nodup)(hb:(mb::L.map (·.b)).Nodup)(h1:e.b≠mb)(h2:∀ x∈L,x.k≠e.k→x.b≠e.b):(mb::(nZ L e).map (·.b)).Nodup:=by
 obtain ⟨b1,b2⟩:=List.nodup_cons.1 hb;refine List.nodup_cons.2 ⟨?_,?_⟩
 ·intro hin
  obtain ⟨x,hx,hxb⟩:=dQ.1 hin
  rcases gY.1 hx with ⟨h1,_⟩ | rfl
  ·exact b1 (dQ.2 ⟨x,h1,hxb⟩)
  ·exact h1 hxb
 ·by_cases h:∃ y∈L,y.k=e.k
  ·obtain ⟨y,hy,he⟩:=h
   rw [qY hy he,lK,List.Nodup,List.pairwise_map];rw [List.Nodup,List.pairwise_map] at hn b2
   refine List.Pairwise.imp_of_mem ?_ (hn.and b2);intro x z hx hz ⟨q1,q2⟩;dsimp only [Function.comp]
   by_cases hk:x.k=e.k
   ·rw [if_pos (by simpa using hk),if_neg (by simp;rw [← hk];exact fun h=>q1 h.symm)]
    exact fun he=>h2 z hz (fun h=>q1 (by rw [hk,h])) he.symm
   ·rw [if_neg (by simpa using hk)]
    by_cases hk2:z.k=e.k
    ·rw [if_pos (by simpa using hk2)];exact h2 x hx hk
    ·rw [if_neg (by simpa using hk2)];exact q2
  ·have h':∀ y∈L,y.k≠e.k:=fun y hy he=>h ⟨y,hy,he⟩
   rw [vI h',iE,List.nodup_append];refine ⟨b2,by simp,fun x hx y hy => ?_⟩
   obtain ⟨z,hz,rfl⟩:=dQ.1 hx;simp at hy
   subst hy;exact h2 z hz (h' z hz)

theorem bJs(ht:P.underlying t=some (.map kt et))(hkt:P.underlying kt=some (.int .i64))(hb:w.heap[mb]? = some (.map es cl))(hM:lF mb es L)(e:Ent)(he:e.OK)
  (hblk:e.b≠mb∧∀ x∈L,x.k≠e.k→x.b≠e.b) :
  ∃ es' cl',(Instr.mapUpdate t (.map (some mb)) (.int .i64 e.k) e.val).run P w = .ok () (setBlock w mb (.map es' cl'))∧lF mb es' (nZ L e)∧((∀ x∈es.toList,x.born<cl)→∀ x∈es'.toList,x.born<cl'):=by
 have K:=int_keyed hkt;have hkey:=aHo hkt he.key;have hes:∀ e∈es.toList,∃ l,keyOf P kt e.key=some l:=fun x hx=>by
  obtain ⟨e,he,h1,_⟩:=hM.e1 x hx;exact ⟨_,by rw [h1];exact aHo hkt (hM.ok e he).key⟩
 have hok:∀ x∈nZ L e,x.OK:=fun x hx=>by
  rcases gY.1 hx with ⟨h1,_⟩ | rfl
  ·exact hM.ok x h1
  ·exact he
 have hkeys:((nZ L e).map (·.k)).Nodup:=aYi hM.keys
 have hblks:(mb::(nZ L e).map (·.b)).Nodup:=aYj hM.keys hM.blks hblk.1 hblk.2
 rcases K.find w hkey es.toList hes with ⟨h1,h2⟩ | ⟨j,e0,h1,h2,h3⟩
 ·refine ⟨es.push ⟨.int .i64 e.k,e.val,cl⟩,cl+1,?_,⟨fun x hx => ?_,fun x hx => ?_,?_,hok,hkeys,hblks,?_⟩,fun hbn x hx => ?_⟩
  ·simp [Instr.mapUpdate,run_underlying ht,MapKept.run_getObj_map hb,K.check w false hkey,h1,MapKept.run_setObj_map _ hb,Result.andThen,setBlock]
  ·simp only [Array.toList_push,jR,List.mem_singleton] at hx
   rcases hx with hx | rfl
   ·obtain ⟨y,hy,q1,q2⟩:=hM.e1 x hx
    refine ⟨y,gY.2 (.inl ⟨hy,fun hk=>h2 x hx (by rw [q1,hk])⟩),q1,q2⟩
   ·exact ⟨e,gY.2 (.inr rfl),rfl,rfl⟩
  ·rcases gY.1 hx with ⟨q1,_⟩ | rfl
   ·obtain ⟨y,hy,q2⟩:=hM.e2 x q1
    exact ⟨y,by simp [hy],q2⟩
   ·exact ⟨⟨.int .i64 x.k,x.val,cl⟩,by simp,rfl,rfl⟩
  ·rw [Array.toList_push,List.pairwise_append]
   exact ⟨hM.nd,by simp,fun x hx y hy=>by simp at hy;subst hy;exact h2 x hx⟩
  ·have hno:∀ x∈L,x.k≠e.k:=fun x hx hk=>by
    obtain ⟨y,hy,q2,_⟩:=hM.e2 x hx;exact h2 y hy (by rw [q2,hk])
   rw [vI hno,Array.toList_push,iE,iE,hM.ord];rfl
  ·simp only [Array.toList_push,jR,List.mem_singleton] at hx
   rcases hx with hx | rfl
   ·exact Nat.lt_succ_of_lt (hbn x hx)
   ·exact Nat.lt_succ_self _
 ·have hj:es[j]? = some e0:=by simpa using h2
  have hlist:(es.modify j (fun e'=>{ e' with key := .int .i64 e.k,val:=e.val })).toList=es.toList.set j { e0 with key := .int .i64 e.k,val:=e.val }:=by
   rw [Array.toList_modify,Go.ChangeMaps.modify_eq_set _ _ _ _ h2]
  have hjl:j<es.toList.length:=(kQ2.1 h2).1;have hother:∀ i x,es.toList[i]? = some x→i≠j→x.key ≠ .int .i64 e.k:=fun i x hi hij=>by
   rw [← h3];obtain ⟨hi1,rfl⟩:=kQ2.1 hi;obtain ⟨hj1,hje⟩:=kQ2.1 h2;have:=List.pairwise_iff_getElem.1 hM.nd
   rcases Nat.lt_or_ge i j with h | h
   ·rw [← hje];exact this i j hi1 hj1 h
   ·rw [← hje];exact (this j i hj1 hi1 (by omega)).symm
  have who:∀ x∈es.toList.set j { e0 with key := .int .i64 e.k,val:=e.val },x={ e0 with key := .int .i64 e.k,val:=e.val }∨(x∈es.toList∧x.key ≠ .int .i64 e.k):=fun x hx=>by
   obtain ⟨i,hi,ex⟩:=List.getElem_of_mem hx;rw [wM] at ex
   split at ex
   ·exact .inl ex.symm
   ·rename_i hne
    have hi':i<es.toList.length:=by simpa using hi
    exact .inr ⟨ex ▸ gO hi',hother i x (by rw [kQ0 hi',ex]) (fun e=>hne e.symm)⟩
  refine ⟨es.modify j (fun e'=>{ e' with key := .int .i64 e.k,val:=e.val }),cl,?_,⟨fun x hx => ?_,fun x hx => ?_,?_,hok,hkeys,hblks,?_⟩,fun hbn x hx => ?_⟩
  ·simp [Instr.mapUpdate,run_underlying ht,MapKept.run_getObj_map hb,K.check w false hkey,h1,hj,h3,K.stays w hkey,MapKept.run_setObj_map _ hb,Result.andThen,setBlock]
  ·rw [hlist] at hx
   rcases who x hx with rfl | ⟨q1,q2⟩
   ·exact ⟨e,gY.2 (.inr rfl),rfl,rfl⟩
   ·obtain ⟨y,hy,r1,r2⟩:=hM.e1 x q1
    exact ⟨y,gY.2 (.inl ⟨hy,fun hk=>q2 (by rw [r1,hk])⟩),r1,r2⟩
  ·rw [hlist]
   rcases gY.1 hx with ⟨q1,q2⟩ | rfl
   ·obtain ⟨y,hy,r1,r2⟩:=hM.e2 x q1
    obtain ⟨i,hi,rfl⟩:=List.getElem_of_mem hy;have hij:i≠j:=fun hij=>by
     subst hij;rw [kQ0 hi] at h2;cases h2
     rw [h3] at r1;injection r1 with _ r1;exact q2 r1.symm
    exact ⟨es.toList[i],List.mem_iff_getElem.2 ⟨i,by simpa using hi,by rw [wM,if_neg (Ne.symm hij)]⟩,r1,r2⟩
   ·exact ⟨_,List.mem_iff_getElem.2 ⟨j,by simpa using hjl,by rw [wM,if_pos rfl]⟩,rfl,rfl⟩
  ·rw [hlist,List.pairwise_iff_getElem]
   intro i1 i2 hi1 hi2 hlt;simp only [qP] at hi1 hi2
   have h0:=List.pairwise_iff_getElem.1 hM.nd i1 i2 hi1 hi2 hlt;rw [wM,wM]
   split
   ·rename_i e1
    rw [if_neg (by omega)]
    exact (hother i2 _ (kQ0 hi2) (by omega)).symm
   ·split
    ·exact hother i1 _ (kQ0 hi1) (by omega)
    ·exact h0
  ·obtain ⟨y,hy,q1,q2⟩:=hM.e1 e0 (kQ5 h2)
   have hyk:y.k=e.k:=by rw [h3] at q1;injection q1 with _ q1;exact q1.symm
   rw [hlist,qY hy hyk,lK];apply List.ext_getElem?;intro i;rw [gC,gC,List.getElem?_set];have hoi:(es.toList.map fun x=>(x.key,x.val))[i]? = (L.map fun e=>(Value.int .i64 e.k,e.val))[i]? := by rw [hM.ord]
   rw [gC,gC] at hoi
   by_cases hij:j=i
   ·subst hij
    rw [if_pos rfl,if_pos hjl];rw [h2] at hoi
    cases hL:L[j]? with
    | none=>rw [hL] at hoi;cases hoi
    | some z =>
     rw [hL] at hoi
     have hz:z.k=e.k:=by
      simp at hoi
      rw [h3] at hoi
      have:=hoi.1;injection this with _ h;exact h.symm
     simp [hz]
   ·rw [if_neg hij]
    cases hL:L[i]? with
    | none=>rw [hL] at hoi;rw [hoi];rfl
    | some z =>
     rw [hL] at hoi
     rw [hoi];have hz:z.k≠e.k:=fun hz=>by
      cases he:es.toList[i]? with
      | none=>rw [he] at hoi;cases hoi
      | some x =>
       rw [he] at hoi
       simp at hoi
       exact hother i x he (fun h=>hij h.symm) (by rw [hoi.1,hz])
     simp [hz]
  ·rw [hlist] at hx
   rcases who x hx with rfl | ⟨q1,_⟩
   ·exact hbn e0 (kQ5 h2)
   ·exact hbn x q1

theorem Ent.owns{e:Ent}(he:e.OK)(h:w.heap[e.b]? = some (.cells e.arr 44 (0,0))):w.ownsRow 0 44 6 e.val e.l.length (e.l.flatten.map (Value.int .i64)) :=
 ⟨by rw [kQ6,mY he.u],.inr ⟨e.b,e.cap,e.arr,rfl,Nat.zero_le _,h,he.le,he.cap,he.sz,he.at_⟩⟩
theorem bEg:w.ownsRow 0 44 6 (.slice none 0 0) 0 []:=⟨rfl,.inl ⟨rfl,rfl⟩⟩
theorem bEh{v:Value}{l:Lqq}{k:Int}(hk:(Lit.int .i64 k).wf=true)(hl:l≠[])(hu:uni 6 l)(h:w.ownsRow 0 44 6 v l.length (l.flatten.map (Value.int .i64))):∃ e:Ent,e.k=k∧e.l=l∧e.val=v∧e.OK∧w.heap[e.b]? = some (.cells e.arr 44 (0,0)):=by
 rcases h.2 with ⟨_,h0⟩ | ⟨g,cap,cur,rfl,_,h1,h2,h3,h4,h5⟩
 ·exact absurd (aDb h0) hl
 ·exact ⟨⟨k,l,g,cap,cur⟩,rfl,rfl,rfl,⟨hk,h4,h2,h3,h5,hu⟩,h1⟩
end
end
section
variable {P:Program} {C C0:Cx} {M M0:Mem} {w w0:World}

abbrev SR:=St→List (Nat × Obj)→Prop
section
variable {k:Nat} {a b c:Code} {Ψ Ψ1 Ψ':SR} {e:Ex}
end

theorem Sim.slot{st:St}{a:Act}(h:Sim P C0 M0 w0 st a w){i:Nat}{v:Value}(hi:st.t[i]? = some (.p (.v v))):a.tmps.getD i undef=v:=by
 obtain ⟨C,hS,_⟩:=h;have:=hS.at hi
 cases this with
 | p _ _ h=>cases h;rfl
theorem Sim.size{st:St}{a:Act}(h:Sim P C0 M0 w0 st a w):a.tmps.size=st.t.length:=by
 obtain ⟨C,hS,_⟩:=h;exact hS.size
end
section
variable {P:Program} {ops:Array Oper} {md:Region.Mode} {S:World→Prop} {Q:Exit→Act→World→Prop} {L:Nat}

def qW(P:Program)(md:Region.Mode)(ops:Array Oper)(Q:Exit→Act→World→Prop)(S:World→Prop)(L:Nat):Nat→Array Bool→Act→World→Prop
 | 0,listed,a,w=>Region.ready md ops listed=[]∧Q .normal a w
 | fuel+1,listed,a,w=>(Region.ready md ops listed=[]→Q .normal a w) ∧
  ∀ i∈Region.ready md ops listed,wpOp P ops Q i (fun a' w'=>(i≠L→S w')∧qW P md ops Q S L fuel (listed.setIfInBounds i true) a' w') a w

theorem aCb:∀ (fuel:Nat) (listed:Array Bool) (a:Act) (w:World),qW P md ops Q S L fuel listed a w→wpAny P md ops Q fuel listed a w
 | 0,_,_,_,h=>h
 | fuel+1,_,_,_,h=>⟨h.1,fun i hi=>wpOp_mono (fun a' w' h'=>aCb fuel _ a' w' h'.2) (h.2 i hi)⟩

theorem aHl{i:Nat}{oi:Oper}{v:Value}(hi:ops[i]? = some oi)(hsel:∀ (j:Nat) (o:Oper) cs b,ops[j]? = some o→o.op ≠ .select cs b)
  (hQ:∀ c a w,Q (.panic c) (a.put oi.dst v) w→Q (.panic c) a w) (hL:∀ oL,ops[L]? = some oL→∃ e∈oL.after,Region.binds md e=true∧e.on=i) :
  ∀ (fuel:Nat) (listed:Array Bool) (a:Act) (w:World),
   (∀ j oj,ops[j]? = some oj→j≠i→listed.getD j true=false→(∀ e∈oj.after,Region.binds md e=true→e.on≠i)→oi.apart ops oj=true) →
   i∈Region.ready md ops listed→YieldsIf P ops S oi v a→S w →
   qW P md ops Q S L fuel (listed.setIfInBounds i true) (a.put oi.dst v) w→qW P md ops Q S L (fuel+1) listed a w:=by
 intro fuel
 induction fuel with
 | zero =>
  intro listed a w _ hr hy hS H;refine ⟨fun h=>(by rw [h] at hr;cases hr),fun j hj => ?_⟩
  by_cases hji:j=i
  ·subst hji;exact hy.wpOp hi hS ⟨fun _=>hS,H⟩
  ·have:=ready_mono hj hji
   rw [H.1] at this
   cases this
 | succ fuel ih =>
  intro listed a w hfree hr hy hS H;refine ⟨fun h=>(by rw [h] at hr;cases hr),fun j hj => ?_⟩
  by_cases hji:j=i
  ·subst hji;exact hy.wpOp hi hS ⟨fun _=>hS,H⟩
  ·have h1:=H.2 j (ready_mono hj hji)
   obtain ⟨hjun,oj,hoj,hall⟩:=mem_ready.1 hj;have hnot:∀ e∈oj.after,Region.binds md e=true→e.on≠i:=fun e he hb heq=>by
    have h1:=hall e he hb;have h0:=(mem_ready.1 hr).1;rw [heq] at h1
    rcases Nat.lt_or_ge i listed.size with h' | h'
    ·simp [h'] at h0 h1;rw [h0] at h1;cases h1
    ·simp [Array.getElem?_eq_none h'] at h1
   have hjL:j≠L:=fun e=>by
    subst e;obtain ⟨e,he,hb,ho⟩:=hL oj hoj;exact hnot e he hb ho
   have h2:=wpOp_putIf hoj (hfree j oj hoj hji hjun hnot) (fun cs b=>hsel i oi cs b hi) (fun cs b=>hsel j oj cs b hoj) hQ hy h1
   have hfree':∀ k ok,ops[k]? = some ok→k≠i→(listed.setIfInBounds j true).getD k true=false →
     (∀ e∈ok.after,Region.binds md e=true→e.on≠i)→oi.apart ops ok=true:=fun k ok hk hki hun hno=>by
    refine hfree k ok hk hki ?_ hno
    by_cases hjk:j=k
    ·subst hjk;exact hjun
    ·rw [getD_set_ne true hjk] at hun;exact hun
   refine wpOp_mono (fun a' w' h3=>⟨h3.2.1,ih (listed.setIfInBounds j true) a' w' hfree' (ready_mono hr (Ne.symm hji)) h3.1 (h3.2.1 hjL) ?_⟩) h2
   rw [Array.setIfInBounds_comm _ _ hji];exact h3.2.2

def aHm(P:Program)(S:World→Prop):List (Oper × Value)→Act→Prop
 | [],_=>True
 | (o,v)::r,a=>(∀ W,S W→(execOp a.eval o).run P W = .ok (.value v) W)∧aHm P S r (a.put o.dst v)
def yO:List (Oper × Value)→Act→Act
 | [],a=>a
 | (o,v)::r,a=>yO r (a.put o.dst v)

def aEx(md:Region.Mode)(ops:Array Oper)(L:Nat)(rs:List Nat):List Nat→Array Bool→Bool
 | [],listed=>chain rs listed
 | t::ts,listed=>(match ops[t]? with | some o=>o.guard.isNone | none=>false) && (Region.ready md ops listed).contains t && Region.free md ops listed t &&
   (match ops[L]? with | some oL=>oL.after.any fun e=>Region.binds md e && e.on == t | none=>false) && aEx md ops L rs ts (listed.setIfInBounds t true)
where chain:List Nat→Array Bool→Bool
 | [],listed=>(Region.ready md ops listed).isEmpty
 | r::rs,listed=>(match ops[r]? with | some o=>o.guard.isNone | none=>false) && decide (Region.ready md ops listed=[r]) && chain rs (listed.setIfInBounds r true)

theorem tP{r fuel:Nat}{listed:Array Bool}{o:Oper}{a:Act}{w:World}(hr:Region.ready md ops listed=[r])(ho:ops[r]? = some o)(hg:o.guard=none){v:Value}{w':World}
  (hrun:(execOp a.eval o).run P w = .ok (.value v) w'∨(execOp a.eval o).run P w = .ok .skip w'∧v=undef) (hS:r≠L→S w') (h:qW P md ops Q S L fuel (listed.setIfInBounds r true) (a.put o.dst v) w'):qW P md ops Q S L (fuel+1) listed a w:=by
 refine ⟨fun h0=>(by rw [hr] at h0;cases h0),fun i hi => ?_⟩
 rw [hr] at hi
 obtain rfl:i=r:=by simpa using hi
 unfold wpOp;simp only [ho];have hw:Region.wanted o (yielded ops a.tmps)=true:=by simp [Region.wanted,hg]
 rw [if_pos hw];refine .inl ?_;unfold Oper.wp
 rcases hrun with hrun | ⟨hrun,rfl⟩
 ·rw [hrun];exact ⟨hS,h⟩
 ·rw [hrun];exact ⟨hS,h⟩

theorem aEy(hsel:Region.noSelect ops=true)(hQ:∀ c a w,¬ Q (.panic c) a w)(rs:List Nat){w:World}(hS:S w):∀ (ts:List Nat) (vs:List Value) (listed:Array Bool) (a:Act),vs.length=ts.length→aEx md ops L rs ts listed=true →
  aHm P S ((ts.filterMap fun i=>ops[i]?).zip vs) a→(∀ listed',aEx.chain md ops rs listed'=true→qW P md ops Q S L rs.length listed' (yO ((ts.filterMap fun i=>ops[i]?).zip vs) a) w)→qW P md ops Q S L (ts.length+rs.length) listed a w
 | [],vs,listed,a,hl,hB,hy,h=>by
  have:vs=[]:=by simpa using hl
  subst this;simp only [List.length_nil,gP];exact h listed hB
 | t::ts,[],listed,a,hl,hB,hy,h=>by simp at hl
 | t::ts,v::vs,listed,a,hl,hB,hy,h=>by
  simp only [aEx,kQ8] at hB
  obtain ⟨⟨⟨⟨hp,hrd⟩,hf⟩,hlast⟩,hB'⟩:=hB;cases ho:ops[t]? with
  | none=>rw [ho] at hp;cases hp
  | some o =>
   rw [ho] at hp
   simp only [Option.isNone_iff_eq_none] at hp
   have e0:(t::ts).filterMap (fun i=>ops[i]?)=o::ts.filterMap (fun i=>ops[i]?):=by simp [ho]
   rw [e0,List.zip_cons_cons] at hy h
   have hw:Region.wanted o (yielded ops a.tmps)=true:=by simp [Region.wanted,hp]
   have e:(t::ts).length+rs.length=(ts.length+rs.length)+1:=by simp;omega
   rw [e];refine aHl ho (Region.noSelect_spec hsel) (fun c a w hq=>absurd hq (hQ _ _ _)) (fun oL hoL => ?_) _ _ _ _ (Region.free_spec ho hf) (by simpa using hrd) (.inl ⟨hw,hy.1⟩) hS ?_
   ·rw [hoL] at hlast
    obtain ⟨e,he,hb⟩:=Array.any_eq_true'.1 hlast;simp only [kQ8,beq_iff_eq] at hb
    exact ⟨e,he,hb.1,hb.2⟩
   ·exact aEy hsel hQ rs hS ts vs _ _ (by simpa using hl) hB' hy.2 h

def aHn(l:List Oper)(ts:List Nat)(r1 r2 r3:Nat):Bool :=
 Region.noSelect l.toArray && aEx .any l.toArray r3 [r1,r2,r3] ts (Array.replicate l.toArray.size false) && decide (ts.length+3=l.toArray.size) && decide (r1≠r3∧r2≠r3)

theorem bE{a:Act}{i:Nat}{v:Value}(h:i<a.tmps.size):(a.put (some i) v).eval (.tmp i)=v:=by
 simp [Act.eval,Act.put,h]
theorem bM{a:Act}{i j:Nat}{v:Value}(h:(i == j)=false):(a.put (some i) v).eval (.tmp j)=a.eval (.tmp j):=by
 have:i≠j:=by simpa using h
 simp [Act.eval,Act.put,this]
theorem dM{a:Act}{i:Nat}{v:Value}:(a.put (some i) v).tmps.size=a.tmps.size:=by simp [Act.put]
end
section
open Go.Maps Go.MapKept
open Go.ChangeMaps (setBlock)
variable {P:Program} {C C0:Cx} {M M0:Mem} {w w0:World}

section
variable {o:Oper} {a:Act} {W W':World}
theorem pG{t:TypeId}{x:Operand}{v r:Value}(ho:o.op = .load t x)(hx:a.eval x=v)(hr:(Instr.loadAt t v).run P W = .ok r W):(execOp a.eval o).run P W = .ok (.value r) W:=by
 unfold execOp;rw [ho];simp [hx,hr,Result.andThen]
theorem aYc{t:TypeId}{x k:Operand}{v u r:Value}(ho:o.op = .lookup t x k false)(hx:a.eval x=v)(hk:a.eval k=u)(hr:(Instr.lookup t v u false).run P W = .ok r W):(execOp a.eval o).run P W = .ok (.value r) W:=by
 unfold execOp;rw [ho];simp [hx,hk,hr,Result.andThen]
theorem aYd{t:TypeId}{x:Operand}{v r:Value}(ho:o.op = .buildSlice t 1 #[(0,x)])(hx:a.eval x=v)(hr:(Instr.buildSlice t 1 #[(0,v)]).run P W = .ok r W'):(execOp a.eval o).run P W = .ok (.value r) W':=by
 unfold execOp;rw [ho];simp [hx,hr,Result.andThen]
theorem aYe{t:TypeId}{s x:Operand}{v u r:Value}(ho:o.op = .call { callee := .builtin .append,args := #[s,x],argTypes := #[t,t] })(hs:a.eval s=v)(hx:a.eval x=u)(hr:(Builtin.append_ #[t,t] o.type #[v,u]).run P W = .ok r W') :
  (execOp a.eval o).run P W = .ok (.value r) W':=by
 unfold execOp;simp only [ho,resolve,invoke,builtin,Sem.run_bind,Sem.run_pure,Result.andThen_ok,List.map_toArray,gD,List.map_nil,hs,hx,hr]
theorem aYf{t:TypeId}{m k x:Operand}{v u y:Value}(ho:o.op = .mapUpdate t m k x)(hm:a.eval m=v)(hk:a.eval k=u)(hx:a.eval x=y)(hr:(Instr.mapUpdate t v u y).run P W = .ok () W'):(execOp a.eval o).run P W = .ok .skip W':=by
 unfold execOp;rw [ho];simp [hm,hk,hx,hr,Result.andThen]
end

theorem wY{t:Nat}{i:TI}(hi:cH P t=some i)(ha:i.agg=false){b o:Nat}{v:Value}(h:w.cell? ⟨b,o,none⟩=some v):(Instr.loadAt t (.pointer (some ⟨b,o,none⟩))).run P w = .ok v w:=by
 unfold Instr.loadAt Instr.sureAddr;simpa using kZ hi ha h

def iH(mb:Nat)(es:Array MapEntry)(cl:Nat)(L:List Ent):List (Nat × Obj):=(mb,.map es cl)::L.map Ent.blk
theorem dA{mb:Nat}{es:Array MapEntry}{cl:Nat}{L:List Ent}{p:Nat × Obj}:p∈iH mb es cl L↔p=(mb,.map es cl)∨∃ e∈L,e.blk=p:=by simp [iH]
def nY(L:List Ent)(k:Int):Lqq:=match qX L k with
 | some e=>e.l
 | none=>[]
theorem vH{α β:Type}(f:α→β){x y:α}:∀ (L:List α),(L.map f).Nodup→x∈L→y∈L→f x=f y→x=y
 | [],_,h,_,_=>by simp at h
 | a::r,hn,hx,hy,he=>by
  rw [gD,List.nodup_cons] at hn
  rcases jG.1 hx with e1 | h1
  ·rcases jG.1 hy with e2 | h2
   ·rw [e1,e2]
   ·exact absurd (dQ.2 ⟨y,h2,by rw [← he,e1]⟩) hn.1
  ·rcases jG.1 hy with e2 | h2
   ·exact absurd (dQ.2 ⟨x,h1,by rw [he,e2]⟩) hn.1
   ·exact vH f r hn.2 h1 h2 he
theorem lF.b_inj{mb:Nat}{es:Array MapEntry}{L:List Ent}(h:lF mb es L){e e':Ent}(he:e∈L)(he':e'∈L)(hb:e.b=e'.b):e=e':=vH (·.b) L (List.nodup_cons.1 h.blks).2 he he' hb
theorem lF.b_mb{mb:Nat}{es:Array MapEntry}{L:List Ent}(h:lF mb es L){e:Ent}(he:e∈L):e.b≠mb:=fun hb=>(List.nodup_cons.1 h.blks).1 (dQ.2 ⟨e,he,hb⟩)

abbrev zD6:Value := .agg #[.int .i64 0,.int .i64 0,.int .i64 0,.int .i64 0,.int .i64 0,.int .i64 0]
def vsL(x:List Int):List Value:=x.map (Value.int .i64)
theorem aYg(w:World)(x:List Int):∀ j u,(vsL x)[j]? = some u→(w.alloc (.cells (vsL x).toArray 44)).cell? ((⟨w.heap.size,0,none⟩:Addr).add j)=some u:=fun j u h=>by
 have hj:j<(vsL x).length:=(kQ2.1 h).1;have e:(⟨w.heap.size,0,none⟩:Addr).add j=⟨w.heap.size,j,none⟩:=by unfold Addr.add;split <;> simp_all
 rw [e];unfold World.cell? World.alloc;simp [h]
theorem bJr{t kt:TypeId}{S22 ty:TypeId}{st:St}{a:Act}{mb cl:Nat}{es:Array MapEntry}{L:List Ent}{k:Int}{x:List Int}(hx6:x.length=6)(ht:P.underlying t=some (.map kt S22))(hkt:P.underlying kt=some (.int .i64))(h22:P.underlying S22=some (.slice 44))
  (hi3:(P.info? 44).map (fun i=>(i.zero,i.size,i.bytes))=some (some zD6,6,48))
  (hs:Sim P (C0.with (iH mb es cl L++C0.R)) M0 w0 st a w) (hd:∀ p∈iH mb es cl L,∀ q∈C0.R,p.1≠q.1) (hM:lF mb es L) (hk:(Lit.int .i64 k).wf=true) (hl:∀ e∈L,e.l.length≤1000) :
  ∃ v2 w2 es' cl' e,(Builtin.append_ #[S22,S22] ty #[pS L k,.slice (some ⟨w.heap.size,0,none⟩) 1 1]).run P (w.alloc (.cells (vsL x).toArray 44)) = .ok v2 w2 ∧
   (∀ b,b<w.heap.size→(∀ q∈iH mb es cl L,q.1≠b)→w2.heap[b]? = w.heap[b]?)∧w2.heap[mb]? = w.heap[mb]? ∧
   (w.heap.size≤w2.heap.size∧((∀ x∈es.toList,x.born<cl)→∀ x∈es'.toList,x.born<cl')∧∀ p∈iH mb es' cl' (nZ L e),(∃ p0∈iH mb es cl L,p0.1=p.1)∨w.heap.size≤p.1) ∧
   (Instr.mapUpdate t (.map (some mb)) (.int .i64 k) v2).run P w2 = .ok () (setBlock w2 mb (.map es' cl'))∧lF mb es' (nZ L e)∧e.k=k∧e.l=nY L k++[x] ∧
   (∀ p∈iH mb es' cl' (nZ L e),∀ q∈C0.R,p.1≠q.1)∧Sim P (C0.with (iH mb es' cl' (nZ L e)++C0.R)) M0 w0 st a (setBlock w2 mb (.map es' cl')):=by
 obtain ⟨i,hi,hz,hz1,hz2⟩:=info_parts hi3;have hhas:=hs.has;have hmb:w.heap[mb]? = some (.map es cl):=hhas (mb,.map es cl) (by simp [iH])
 have hmlt:=bY hmb;have hblkh:∀ e∈L,w.heap[e.b]? = some (.cells e.arr 44 (0,0)):=fun e he=>hhas e.blk (by simp [iH];exact .inr (.inl ⟨e,he,rfl⟩))
 obtain ⟨n1,n2,n3⟩:=jC w (.cells (vsL x).toArray 44);have hown:(w.alloc (.cells (vsL x).toArray 44)).ownsRow 0 44 6 (pS L k) (nY L k).length ((nY L k).flatten.map (Value.int .i64))∧((pS L k).ownBlock=none∨∃ e0∈L,e0.k=k∧(pS L k).ownBlock=some e0.b)∧(nY L k).length≤1000:=by
  unfold pS nY;cases h:qX L k with
  | none=>exact ⟨bEg,.inl rfl,by simp⟩
  | some e0 =>
   obtain ⟨q1,q2⟩:=tQ h;exact ⟨Ent.owns (hM.ok e0 q1) ((n3 _ (bY (hblkh e0 q1))).trans (hblkh e0 q1)),.inr ⟨e0,q1,q2,rfl⟩,hl e0 q1⟩
 obtain ⟨ho,hbk,hlen⟩:=hown;have hu6:uni 6 (nY L k++[x]):=by
  intro y hy
  rcases jR.1 hy with h | h
  ·unfold nY at h
   cases hq:qX L k with
   | none=>rw [hq] at h;cases h
   | some e0=>rw [hq] at h;exact (hM.ok e0 (tQ hq).1).u y h
  ·simp at h;rw [h];exact hx6
 obtain ⟨v2,w2,hrun,ho2,hg2,hnil,hat⟩:=run_append_own_at (P:=P) (w:=w.alloc (.cells (vsL x).toArray 44)) 0 S22 ty 44 i zD6 6 48 h22 hi hz hz1 hz2 rfl (by decide) (pS L k) (nY L k).length _ ho
  ⟨w.heap.size,0,none⟩ 1 1 (vsL x) (by simp [vsL,hx6]) (aYg w x) (fun u hu=>by obtain ⟨z,_,rfl⟩:=dQ.1 hu;rfl) (by unfold maxLen;omega) (by omega) (Nat.zero_le _)
 have ho2':w2.ownsRow 0 44 6 v2 (nY L k++[x]).length ((nY L k++[x]).flatten.map (Value.int .i64)):=by
  rw [mG,aNv,iE,List.flatten_singleton];exact ho2
 obtain ⟨e,rfl,hel,rfl,heo,heh⟩:=bEh hk (by simp) hu6 ho2'
 have hvb:e.val.ownBlock=some e.b:=rfl;have hwhere:(∃ e0∈L,e0.k=e.k∧e0.b=e.b)∨e.b=w.heap.size+1:=by
  rcases hat with h | h
  ·rcases hbk with h0 | ⟨e0,q1,q2,q3⟩
   ·rw [h0,hvb] at h;cases h
   ·rw [q3,hvb] at h;exact .inl ⟨e0,q1,q2,(Option.some.inj h).symm⟩
  ·rw [hvb] at h
   right
   have:=Option.some.inj h;rw [this];simp
 have hrow:∀ b,b<w.heap.size→(∀ e0∈L,e0.k=e.k→e0.b≠b)→w2.heap[b]? = w.heap[b]? := fun b hb hno=>by
  refine (hg2.block b (by omega) (fun he => ?_)).trans (n3 b hb)
  rcases hbk with h0 | ⟨e0,q1,q2,q3⟩
  ·rw [h0] at he;cases he
  ·rw [q3] at he;exact hno e0 q1 q2 (Option.some.inj he).symm
 have hblk:e.b≠mb∧∀ y∈L,y.k≠e.k→y.b≠e.b:=by
  rcases hwhere with ⟨e0,q1,q2,q3⟩ | h
  ·refine ⟨q3 ▸ hM.b_mb q1,fun y hy hyk hb=>hyk ?_⟩
   have:=hM.b_inj hy q1 (hb.trans q3.symm);rw [this];exact q2
  ·refine ⟨by omega,fun y hy _ hb => ?_⟩
   have:=bY (hblkh y hy);omega
 have hmb2:w2.heap[mb]? = w.heap[mb]? := hrow mb hmlt fun e0 he0 _=>hM.b_mb he0
 obtain ⟨es',cl',hup,hM',hbn⟩:=bJs (P:=P) (w:=w2) ht hkt (hmb2.trans hmb) hM e heo hblk;refine ⟨e.val,w2,es',cl',e,hrun,fun b hb hno=>hrow b hb fun e0 he0 _=>hno e0.blk (by simp [iH];exact .inr ⟨e0,he0,rfl⟩),hmb2,⟨by have:=hg2.size;omega,hbn,fun p hp => ?_⟩,hup,hM',rfl,hel,?_,?_⟩
 ·rcases dA.1 hp with rfl | ⟨y,hy,rfl⟩
  ·exact .inl ⟨_,dA.2 (.inl rfl),rfl⟩
  ·rcases gY.1 hy with ⟨q1,_⟩ | rfl
   ·exact .inl ⟨_,dA.2 (.inr ⟨y,q1,rfl⟩),rfl⟩
   ·rcases hwhere with ⟨e0,r1,_,r3⟩ | h
    ·exact .inl ⟨_,dA.2 (.inr ⟨e0,r1,rfl⟩),r3⟩
    ·exact .inr (by show w.heap.size≤y.b;omega)
 ·intro p hp q hq
  rcases dA.1 hp with rfl | ⟨y,hy,rfl⟩
  ·exact hd (mb,.map es cl) (by simp [iH]) q hq
  ·rcases gY.1 hy with ⟨q1,q2⟩ | rfl
   ·exact hd y.blk (dA.2 (.inr ⟨y,q1,rfl⟩)) q hq
   ·rcases hwhere with ⟨e0,q1,q2,q3⟩ | h
    ·exact fun hpq=>hd e0.blk (dA.2 (.inr ⟨e0,q1,rfl⟩)) q hq (by rw [← hpq];exact q3)
    ·have:=bY (hhas q (aDc _ hq))
     intro hpq;change y.b=q.1 at hpq
     omega
 ·have hne:∀ p∈C0.R,p.1≠mb∧∀ e0∈L,p.1≠e0.b:=fun p hp=>⟨fun h=>hd (mb,.map es cl) (by simp [iH]) p hp h.symm,fun e0 he0 h=>hd e0.blk (dA.2 (.inr ⟨e0,he0,rfl⟩)) p hp h.symm⟩
  have hset:∀ b,b≠mb→(setBlock w2 mb (.map es' cl')).heap[b]? = w2.heap[b]? := fun b hb=>by
   unfold setBlock;simp only [Array.getElem?_setIfInBounds];rw [if_neg (Ne.symm hb)]
  have hsetm:(setBlock w2 mb (.map es' cl')).heap[mb]? = some (.map es' cl'):=by
   unfold setBlock;have:mb<w2.heap.size:=bY (hmb2.trans hmb);simp [this]
  refine hs.beside (fun b=>b=mb∨∃ e0∈L,e0.k=e.k∧e0.b=b) (fun b hb => ?_) hg2.os hg2.tape hg2.output (by have:=hg2.size;unfold setBlock;simp only [Array.size_setIfInBounds];omega) (fun b hb hX => ?_) (fun p hp => ?_)
  ·rcases hb with rfl | ⟨e0,q1,q2,rfl⟩
   ·exact ⟨_,oS _ (dA.2 (.inl rfl))⟩
   ·exact ⟨_,oS _ (dA.2 (.inr ⟨e0,q1,rfl⟩))⟩
  ·rw [hset b (fun h=>hX (.inl h))]
   exact hrow b hb fun e0 q1 q2 q3=>hX (.inr ⟨e0,q1,q2,q3⟩)
  ·rcases jR.1 hp with hp | hp
   ·rcases dA.1 hp with rfl | ⟨y,hy,rfl⟩
    ·exact .inr ⟨hsetm,(fun h=>by cases h),.inr ⟨_,oS _ (dA.2 (.inl rfl))⟩⟩
    ·rcases gY.1 hy with ⟨q1,q2⟩ | rfl
     ·refine .inl ⟨oS _ (dA.2 (.inr ⟨y,q1,rfl⟩)),fun hX => ?_⟩
      rcases hX with hX | ⟨e0,r1,r2,r3⟩
      ·exact hM.b_mb q1 hX
      ·have:=hM.b_inj q1 r1 r3.symm
       exact q2 (this ▸ r2)
     ·refine .inr ⟨(hset _ hblk.1).trans heh,(fun h=>by cases h),?_⟩
      rcases hwhere with ⟨e0,r1,r2,r3⟩ | h
      ·exact .inr ⟨.cells e0.arr 44 (0,0),oS _ (dA.2 (.inr ⟨e0,r1,by unfold Ent.blk;rw [r3]⟩))⟩
      ·exact .inl (by show w.heap.size≤y.b;omega)
   ·refine .inl ⟨aDc _ hp,fun hX => ?_⟩
    rcases hX with hX | ⟨e0,r1,r2,r3⟩
    ·exact (hne p hp).1 hX
    ·exact (hne p hp).2 e0 r1 r3.symm
end
section
open Go.ChangeMaps (setBlock)
variable {P:Program} {C:Cx} {M:Mem} {w:World}

def aDh(P:Program)(C:Cx)(M:Mem)(w:World)(C':Cx)(M':Mem)(W:World):Prop:=(∀ b,C'.F b↔C.F b)∧aR P C' M' W∧Fr C M w C' M' W
def aHk(M M':Mem):Prop:=(∀ (i:Nat) (es:List (Value × PV)) (cl:Nat),M'[i]? = some (some (.mp es cl))→∃ o,M[i]? = some (some o)∧o.live=true)∧aMp M'

theorem aDh.same{M':Mem}{W W':World}{C':Cx}(hn:aHk M M')(hM0:aR P C M w)(h:aDh P C M w C' M' W)(hsz:W.heap.size≤W'.heap.size)(ho:W'.os=W.os)(ht:W'.tape=W.tape)(hu:W'.output=W.output)
  (hs:∀ b,b<W.heap.size→(b<w.heap.size∧(∀ (id:Nat) (o:AO),M[id]? = some (some o)→o.live=true→C.ι id=some b→∃ o',M'[id]? = some (some o')∧o'.live=true))∨(lC W b∧∃ (id:Nat) (o:AO),M'[id]? = some (some o)∧o.live=true∧C'.ι id=some b)→W'.heap[b]? = W.heap[b]?):aDh P C M w C' M' W':=by
 obtain ⟨hF,hM,f⟩:=h;have old:∀ (i:Nat) (o:AO),M[i]? = some (some o)→C'.ι i=C.ι i:=fun i o h=>(f.ids i o h).2.1
 have hFz:∀ b,C'.F b→W'.heap[b]? = W.heap[b]? := fun b hb=>hs b (hM.Fs b hb) (.inl ⟨hM0.Fs b ((hF b).1 hb),fun id o ho hl he=>absurd ((hF b).1 hb) (hM0.nF id o b ho hl he)⟩)
 have hL:Le C' C' M' M' W W':=⟨fun _ o h=>⟨o,h⟩,fun _ _ _ _ _ cs h=>⟨cs,h⟩,fun _ o h o' h' hl=>by rw [h] at h';cases h';exact ⟨hl,rfl,rfl⟩,fun _ h=>h,hFz⟩
 refine ⟨hF,⟨fun i ty n cs hm => ?_,fun i ty cs hm => ?_,fun i es cl hm => ?_,hM.inj,hM.nF,fun b hb=>kQ9 (hM.Fs b hb) hsz,fun i o b ho hl hb=>kQ9 (hM.lt i o b ho hl hb) hsz⟩,
  ⟨ho.trans f.os,ht.trans f.tape,hu.trans f.out,gQ f.size hsz,fun b hb hno=>(hs b (kQ9 hb f.size) (.inl ⟨hb,fun id o ho hl he=>absurd he (hno id o ho hl)⟩)).trans (f.keep b hb hno),f.ids,f.row,f.liv,f.new,f.F1,f.F2⟩⟩
 ·rcases hM.row _ _ _ _ hm with h4 | ⟨b,arr,inf,q0,q1,q2,q3,q4,q5,q6,q7,q8⟩
  ·exact .inl h4
  ·exact .inr ⟨b,arr,inf,q0,(hs b (bY q1) (.inr ⟨fH q1,i,_,hm,rfl,q0⟩)).trans q1,q2,q3,q4,q5,q6,fun j hj=>(q7 j hj).mono hL.F hL.fz,q8⟩
 ·obtain ⟨b,arr,q0,q1,q2,q3,q4⟩:=hM.box _ _ _ hm
  exact ⟨b,arr,q0,(hs b (bY q1) (.inr ⟨fH q1,i,_,hm,rfl,q0⟩)).trans q1,q2,fun j hj=>(q3 j hj).mono hL,q4⟩
 ·obtain ⟨b,arr,q0,q1,q2,q3⟩:=hM.mp _ _ _ hm
  obtain ⟨o,ho',hl⟩:=hn.1 _ _ _ hm;have hb:C.ι i=some b:=by rw [← old i o ho'];exact q0
  refine ⟨b,arr,q0,(hs b (bY q1) (.inl ⟨hM0.lt i o b ho' hl hb,fun id o2 ho2 hl2 he => ?_⟩)).trans q1,q2,fun j hj => ?_⟩
  ·obtain rfl:=hM0.inj id i o2 o b ho2 hl2 ho' hl he hb
   exact ⟨_,hm,rfl⟩
  ·obtain ⟨en,r1,r2,r3,r4⟩:=q3 j hj
   exact ⟨en,r1,r2,r3,r4.mono hL.F hL.fz⟩

theorem aDh.own{M':Mem}{W W':World}{C':Cx}{row:Option Nat}(hn:aHk M M')(hM0:aR P C M w)(h:aDh P C M w C' M' W)(hg:W.grownBy W' row)
  (hr:∀ r,row=some r→w.heap.size≤r∧∃ o:Obj,W.heap[r]? = some o∧o.isCells=false):aDh P C M w C' M' W' :=
 h.same hn hM0 hg.size hg.os hg.tape hg.output fun b hb hd=>hg.block b hb fun e=>by
  obtain ⟨q1,o,q2,q3⟩:=hr b e.symm
  rcases hd with ⟨hd,_⟩ | ⟨hd,_⟩
  ·omega
  ·exact jE q2 q3 hd
end
end KV
end Go.Proofs
section
namespace Go.Proofs
open Go.RowKit Go.Lib
namespace KV
attribute [local go_sem] Oper.semAt_some

def bk(n i:Nat):List Nat:=((List.range n).drop i).reverse
theorem bJp{n i:Nat}(h:i<n):bk n i=bk n (i+1)++[i]:=by
 unfold bk;rw [aNs (by simpa using h),List.reverse_cons]
 simp
theorem bQp(n:Nat):bk n n=[]:=by unfold bk;rw [List.drop_eq_nil_of_le (by simp)];rfl
theorem bJq(n:Nat):bk n 0=(List.range n).reverse:=rfl
theorem aPm{n i:Nat}:(bk n i).length=n-i:=by simp [bk]
theorem aYb{n i:Nat}(h:i≤n):bk n i <+: bk n 0:=by
 unfold bk;rw [List.drop_zero];refine ⟨((List.range n).take i).reverse,?_⟩;rw [← List.reverse_append,aNt]
theorem bUb{n i:Nat}(h:i<n):(bk n (i+1)).length<(bk n 0).length:=by rw [aPm,aPm];omega
end KV
end Go.Proofs
end
section
namespace Go.Proofs
open Go.RowKit Go.Lib Go.Shelf
namespace KV
attribute [local go_sem] Oper.semAt_some
def Hid(p:Prop):Prop:=p
theorem hid{p:Prop}(h:p):Hid p:=h
theorem Hid.out{p:Prop}(h:Hid p):p:=h
def vals6(x:List Int):Array Value:=(x.map (Value.int .i64)).toArray
set_option maxRecDepth 1000000 in
set_option maxHeartbeats 2000000 in
theorem aPk(dc:Lqq)(hl:dc.length≤1000)(F0:Nat→Prop)(n l b1 o1 b2 o2 cap:Nat)(hn:1≤n)(J Jx:List Nat→World→Prop)
  (hY:∀ pre (k:Nat) (a b c d e f:Int) W,dc[k]? = some [a,b,c,d,e,f]→J pre W→pre.length<(bk dc.length 0).length→YieldAt Fence.wide (n-1) Tp l #[.int .i64 k,.agg #[.int .i64 a,.int .i64 b,.int .i64 c,.int .i64 d,.int .i64 e,.int .i64 f]] W fun e W' =>
   (e = .returned (.bool true)∧J (pre++[k]) W'∧KpG F0 W W')∨(e = .returned (.bool false)∧Jx (pre++[k]) W'))
  (W:World) (hJ:AbidesFrom W.heap.size J) (hF:∀ b,F0 b→b<W.heap.size)
  (hc:∀ W',KpG F0 W W'→∀ k:Nat,k<dc.length→∃ a b c d e f,dc[k]? = some [a,b,c,d,e,f]∧W'.cell? ⟨b2,o2+k*6,none⟩=some (.int .i64 a)∧W'.cell? ⟨b2,o2+k*6+1,none⟩=some (.int .i64 b)∧W'.cell? ⟨b2,o2+k*6+2,none⟩=some (.int .i64 c)∧W'.cell? ⟨b2,o2+k*6+3,none⟩=some (.int .i64 d)∧W'.cell? ⟨b2,o2+k*6+4,none⟩=some (.int .i64 e)∧W'.cell? ⟨b2,o2+k*6+5,none⟩=some (.int .i64 f))
  (hk:∀ W',KpG F0 W W'→W'.cell? ⟨b1,o1,none⟩=some (.slice (some ⟨b2,o2,none⟩) dc.length cap)) (h0:J [] W) :
  CallsIn Fence.wide n Tp 187 #[.func (.yield l) #[] #[],.pointer (some ⟨b1,o1,none⟩)] W fun e W'=>(∃ v,e = .returned v) ∧
   ((∃ ys,ys=bk dc.length 0∧J ys W')∨(∃ pre,pre <+: bk dc.length 0∧Jx pre W')):=by
 have HJ:=hid hJ;have HY:=hid hY;have HC:=hid hc;have HKC:=hid hk;have HF0:=hid hF;have HJ0:=hid h0;have k0:=hk W (KpG.refl _ _);clear hJ hY hc h0 hk hF;refine callsIn_of_wp Tryz.func187 rfl trivial ?_ rfl;simp only [Tryz.ntmps187,List.size_toArray,tG,List.length_nil,Nat.reduceAdd,Nat.reduceSub,Array.replicate_succ,Array.replicate_zero,List.push_toArray,List.append_toArray,List.nil_append,List.cons_append]
 gi_wp2
 clear k0
 gi_loopw [3] (fun i wr=>∃ k:Nat,k≤dc.length∧i = .int .i64 ((k:Int)-1)∧J (bk dc.length k) wr∧KpG F0 W wr)
  (fun i _=>(intOf i+1).toNat)
 case atStart=>exact ⟨dc.length,eA _,by go_num,by rw [bQp];exact HJ0.out,KpG.refl _ _⟩
 case round =>
  obtain ⟨k,hk,rfl,hJk,hK⟩:=hrel;have HJK:=hid hJk;have HK:=hid hK;have k0:=HKC.out wr hK;have HFR:=hid (fun b (hb:F0 b)=>kQ9 (HF0.out b hb) HK.out.size)
  clear hJk hK
  rcases Nat.eq_zero_or_pos k with rfl | hpos
  ·gi_wp2
   go_end0
   exact ⟨⟨_,rfl⟩,.inl ⟨_,rfl,HJK.out⟩⟩
  ·obtain ⟨k,rfl⟩:∃ j,k=j+1:=⟨k-1,by omega⟩
   have e1:((k+1:Nat):Int)-1=(k:Int):=by omega
   have hlt:(k:Int)<(dc.length:Int):=by omega
   have hlt2:(dc.length:Int)≤1000:=by omega
   rw [e1];obtain ⟨a,b,c,d,e,f,hx0,c0,c1,c2,c3,c4,c5⟩:=HC.out wr HK.out k (by omega)
   have HL:=hid (bUb (n:=dc.length) (i:=k) (by omega))
   have HB:=hid (bJp (n:=dc.length) (i:=k) (by omega))
   have HP:=hid (aYb (n:=dc.length) (i:=k) (by omega))
   have hge:(k:Int) ≥ 0:=by omega
   obtain ⟨fn,tmps,assign,body,hy,hR⟩:=HY.out _ k a b c d e f wr hx0 HJK.out HL.out;clear hx0
   gi_wp2_with (refine hR.mono ?_;clear hR;rintro e w3 (⟨rfl,hJ3,hK3⟩ | ⟨rfl,hx⟩))
   ·go_roundw
    case rel=>exact ⟨k,by omega,by go_num,by rw [HB.out];exact hJ3,HK.out.trans hK3⟩
    case measure=>simp [intOf]
   ·refine bodyPost_ret (results_none rfl _ _ _) rfl ?_
    exact ⟨⟨_,rfl⟩,.inr ⟨bk dc.length (k+1)++[k],HB.out ▸ HP.out,hx⟩⟩
set_option maxRecDepth 1000000 in
set_option maxHeartbeats 2000000 in
theorem aPl(n l b1 o1 cap:Nat)(p:Option Addr)(hn:1≤n)(J:World→Prop)(W:World)(hk:W.cell? ⟨b1,o1,none⟩=some (.slice p 0 cap))(h0:J W) :
  CallsIn Fence.wide n Tp 187 #[.func (.yield l) #[] #[],.pointer (some ⟨b1,o1,none⟩)] W fun e W'=>(∃ v,e = .returned v)∧J W':=by
 have HJ0:=hid h0;have k0:=hk;clear h0 hk;refine callsIn_of_wp Tryz.func187 rfl trivial ?_ rfl;simp only [Tryz.ntmps187,List.size_toArray,tG,List.length_nil,Nat.reduceAdd,Nat.reduceSub,Array.replicate_succ,Array.replicate_zero,List.push_toArray,List.append_toArray,List.nil_append,List.cons_append]
 gi_wp2
 clear k0
 gi_loopw [3] (fun i wr=>i = .int .i64 (-1)∧J wr) (fun i _=>(intOf i+1).toNat)
 case atStart=>exact ⟨by go_num,HJ0.out⟩
 case round =>
  obtain ⟨rfl,hJk⟩:=hrel;have HJK:=hid hJk;clear hJk
  gi_wp2
  go_end0
  exact ⟨⟨_,rfl⟩,HJK.out⟩
end KV
end Go.Proofs
end
namespace Go.Proofs
namespace KV
section
variable {P:Program} {ops:Array Oper} {md:Region.Mode} {Q:Exit→Act→World→Prop} {F:Fence} {n:Nat}

def VS(P:Program)(m:Sem Next):Prop:=∀ w,(∃ v w',m.run P w = .ok (.value v) w')∨(∃ w',m.run P w = .ok .skip w')∨∃ x w',m.run P w = .halt x w'
theorem VS.val(m:Sem Value):VS P (do pure (.value (← m))):=fun w=>by
 cases h:m.run P w with
 | ok v w'=>exact .inl ⟨v,w',by simp [h,Result.andThen]⟩
 | halt x w'=>exact .inr (.inr ⟨x,w',by simp [h,Result.andThen]⟩)
theorem VS.unit(m:Sem Unit):VS P (do m;pure .skip):=fun w=>by
 cases h:m.run P w with
 | ok v w'=>exact .inr (.inl ⟨w',by simp [h,Result.andThen]⟩)
 | halt x w'=>exact .inr (.inr ⟨x,w',by simp [h,Result.andThen]⟩)
theorem VS.bind{α:Type}(m:Sem α)(f:α→Sem Next)(h:∀ x,VS P (f x)):VS P (m >>= f):=fun w=>by
 cases e:m.run P w with
 | ok v w' =>
  rcases h v w' with ⟨u,w2,q⟩ | ⟨w2,q⟩ | ⟨x,w2,q⟩
  ·exact .inl ⟨u,w2,by simp [e,Result.andThen,q]⟩
  ·exact .inr (.inl ⟨w2,by simp [e,Result.andThen,q]⟩)
  ·exact .inr (.inr ⟨x,w2,by simp [e,Result.andThen,q]⟩)
 | halt x w'=>exact .inr (.inr ⟨x,w',by simp [e,Result.andThen]⟩)
theorem VS.pure(v:Value):VS P (Pure.pure (.value v):Sem Next):=fun w => .inl ⟨v,w,rfl⟩
def yN(o:Oper):Bool:=match o.op with
 | .move _=>true
 | .assign _=>true
 | .indexAddr _ _ _=>true
 | .fieldAddr _ _ _=>true
 | .field _ _ _=>true
 | .load _ _=>true
 | .store _ _ _=>true
 | .lookup _ _ _ _=>true
 | .buildSlice _ _ _=>true
 | .mapUpdate _ _ _ _=>true
 | .nilCheck _=>true
 | .call c=>match c.callee with
  | .builtin .append=>true
  | _=>false
 | _=>false
theorem bJo{o:Oper}(h:yN o=true)(ρ:Operand→Value):VS P (execOp ρ o):=by
 unfold yN at h
 unfold execOp;cases ho:o.op <;> rw [ho] at h <;> first | exact absurd h Bool.false_ne_true | exact VS.val _ | exact VS.unit _ | skip
 case move x=>exact fun w => .inl ⟨_,w,rfl⟩
 case assign x=>exact fun w => .inl ⟨_,w,rfl⟩
 case nilCheck x =>
  dsimp only
  split
  ·exact fun w => .inr (.inr ⟨_,_,rfl⟩)
  ·exact fun w => .inr (.inr ⟨_,_,rfl⟩)
  ·exact fun w => .inr (.inr ⟨_,_,rfl⟩)
  ·split
   ·exact fun w => .inr (.inr ⟨_,_,rfl⟩)
   ·refine VS.bind _ _ fun p=>VS.bind _ _ fun q => ?_
    split
    ·exact VS.bind _ _ fun _=>VS.pure _
    ·exact VS.pure _
   ·exact VS.pure _
  ·exact VS.pure _
 case call c =>
  dsimp only at h
  show VS P (resolve ρ c o.type >>= fun d=>invoke d.target d.args)
  split at h
  ·rename_i hc
   unfold resolve;rw [hc];exact VS.val _
  ·cases h
theorem aPj{o:Oper}(h:yN o=true):∀ c,o.op ≠ .defer c:=fun c hc=>by unfold yN at h;rw [hc] at h;cases h

theorem aLe(hall:∀ f,F.fn f){i:Nat}{K:Act→World→Prop}{a:Act}{w:World}(hL:¬ LetsOut Q)(hc:∀ o,ops[i]? = some o→yN o=true)(h:wpOp P ops Q i K a w):wpOpIn F n P ops Q i K a w:=by
 unfold wpOp at h
 unfold wpOpIn;cases ho:ops[i]? with
 | none=>rw [ho] at h;exact h
 | some o =>
  rw [ho] at h
  dsimp only at h ⊢
  split
  ·rename_i hw
   rw [if_pos hw] at h
   rcases h with h | h
   ·unfold Oper.wp at h
    unfold Oper.wpIn;refine ⟨fun f _=>hall f,?_⟩
    rw [Oper.semAt_plain _ _ _ (aPj (hc o ho))]
    rcases bJo (P:=P) (hc o ho) a.eval w with ⟨v,w',e⟩ | ⟨w',e⟩ | ⟨x,w',e⟩
    ·rw [e] at h ⊢;exact h
    ·rw [e] at h ⊢;exact h
    ·rw [e] at h ⊢
     cases x <;> first | exact h | exact h.elim
   ·exact absurd h.2 hL
  ·rename_i hw
   rw [if_neg hw] at h
   exact ⟨fun f _=>hall f,h⟩
theorem vG(hall:∀ f,F.fn f)(hL:¬ LetsOut Q)(hc:∀ (i:Nat) (o:Oper),ops[i]? = some o→yN o=true):∀ (fuel:Nat) (listed:Array Bool) (a:Act) (w:World),wpAny P md ops Q fuel listed a w→wpAnyIn F n P md ops Q fuel listed a w
 | 0,_,_,_,h=>h
 | fuel+1,listed,a,w,h=>⟨h.1,fun i hi=>wpOpIn_mono (fun a' w' h'=>vG hall hL hc fuel _ a' w' h') (aLe hall hL (hc i) (h.2 i hi))⟩

theorem aYa{S:World→Prop}{id:Nat}{l:List Oper}{a:Act}{w:World}{o1 o2 o3:Oper}(hall:∀ f,F.fn f)(hL:¬ LetsOut Q)(hcalm:l.all yN=true)(ts:List Nat)(r1 r2 r3:Nat)(hm:P.follows .mixedOrders=true)(hB:aHn l ts r1 r2 r3=true)(h1:l[r1]? = some o1)(h2:l[r2]? = some o2)(h3:l[r3]? = some o3)
  (hQ:∀ c a w,¬ Q (.panic c) a w) (hS:S { w with drawn:=w.drawn+1 }) (vs:List Value) (hl:vs.length=ts.length) (hy:aHm P S ((ts.filterMap fun i=>l[i]?).zip vs) a)
  (h:∀ a',a'=yO ((ts.filterMap fun i=>l[i]?).zip vs) a→∃ v1 w1 v2 w2 w3,(execOp a'.eval o1).run P { w with drawn:=w.drawn+1 } = .ok (.value v1) w1∧S w1∧(execOp (a'.put o1.dst v1).eval o2).run P w1 = .ok (.value v2) w2∧S w2 ∧
   (execOp ((a'.put o1.dst v1).put o2.dst v2).eval o3).run P w2 = .ok .skip w3∧Q .normal (((a'.put o1.dst v1).put o2.dst v2).put o3.dst undef) w3):(Code.region id l.toArray true).wpIn F n P Q a w:=by
 unfold aHn at hB
 simp only [kQ8,decide_eq_true_eq] at hB
 obtain ⟨⟨⟨hsel,ht⟩,hsz⟩,hne⟩:=hB;refine wpIn_region_any hm (vG hall hL (fun i o ho=>iD.1 hcalm o (kQ5 (by simpa using ho))) _ _ _ _ (aCb (S:=S) (L:=r3) _ _ _ _ ?_))
 rw [← hsz];refine aEy (rs:=[r1,r2,r3]) hsel hQ hS ts vs _ a hl (by rw [hsz];exact ht) (by simpa using hy) (fun listed' hc => ?_)
 obtain ⟨v1,w1,v2,w2,w3,e1,s1,e2,s2,e3,hq⟩:=h _ rfl;simp only [aEx.chain,kQ8,decide_eq_true_eq] at hc
 obtain ⟨⟨g1,c1⟩,⟨g2,c2⟩,⟨g3,c3⟩,c4⟩:=hc;have k1:l.toArray[r1]? = some o1:=by simpa using h1
 have k2:l.toArray[r2]? = some o2:=by simpa using h2
 have k3:l.toArray[r3]? = some o3:=by simpa using h3
 rw [k1] at g1;rw [k2] at g2;rw [k3] at g3
 simp only [Option.isNone_iff_eq_none] at g1 g2 g3
 have e1':((ts.filterMap fun i=>l.toArray[i]?))=(ts.filterMap fun i=>l[i]?):=by simp
 rw [e1'];refine tP c1 k1 g1 (.inl e1) (fun _=>s1) ?_
 refine tP c2 k2 g2 (.inl e2) (fun _=>s2) ?_
 refine tP c3 k3 g3 (.inr ⟨e3,rfl⟩) (fun h=>absurd rfl h) ?_
 exact ⟨by simpa using c4,hq⟩
end
section
open Go.ChangeMaps (setBlock)
variable {P:Program} {C:Cx} {M:Mem} {w:World}

theorem bJn{M':Mem}(hM:aR P C M w)(h1:∀ (i:Nat) (o:AO),M'[i]? = some (some o)→M[i]? = some (some o))
  (h2:∀ (i ty:Nat) (cs:List AV),M'[i]? = some (some (.box ty cs))→∀ x∈cs,∀ u,Rep C M w x u→Rep C M' w x u):aR P C M' w:=by
 refine ⟨fun i ty n cs hm=>hM.row _ _ _ _ (h1 _ _ hm),fun i ty cs hm => ?_,fun i es cl hm=>hM.mp _ _ _ (h1 _ _ hm),fun i i' o o' b q1 q2 q3 q4=>hM.inj i i' o o' b (h1 _ _ q1) q2 (h1 _ _ q3) q4,fun i o b q1=>hM.nF i o b (h1 _ _ q1),hM.Fs,fun i o b q1=>hM.lt i o b (h1 _ _ q1)⟩
 obtain ⟨b,arr,q0,q1,q2,q3,q4⟩:=hM.box _ _ _ (h1 _ _ hm);exact ⟨b,arr,q0,q1,q2,fun j hj=>h2 _ _ _ hm _ (gO hj) _ (q3 j hj),q4⟩
theorem aLc{M':Mem}{i off:Nat}{u:Value}(hi:M'[i]? = M[i]?)(h:Rep C M w (.ptr i off) u):Rep C M' w (.ptr i off) u:=by
 cases h with
 | ptr _ _ _ h0 ha h hp=>exact .ptr i off u h0 (by rw [hi];exact ha) (by rw [hi];exact h) hp
theorem aPi{M':Mem}{i:Nat}{u:Value}(hi:M'[i]? = M[i]?)(h:Rep C M w (.mp i) u):Rep C M' w (.mp i) u:=by
 cases h with
 | mp _ _ h0 ha h=>exact .mp i u h0 (by rw [hi];exact ha) (by rw [hi];exact h)
theorem rS{M':Mem}{x:PV}{u:Value}(h:Rep C M w (.p x) u):Rep C M' w (.p x) u:=by
 cases h with
 | p _ _ h=>exact .p _ _ h

theorem aLd{b ty k:Nat}{cs:List PV}{arr:Array Value}(hM:aR P C M w)(hf:yW M k)(hh:w.heap[b]? = some (.cells arr ty (0,0)))(hnF:¬ C.F b)(hnl:∀ (id:Nat) (o:AO),M[id]? = some (some o)→o.live=true→C.ι id≠some b)
  (hs:arr.size=cs.length) (hrep:∀ j (h:j<cs.length),cQ C.F w cs[j] (arr.getD j undef)) (h1:∀ j,j<cs.length→(arr.getD j undef).oneCell'=true) :
  aR P (C.grow k b 1) (aX M k (some (.box ty (cs.map .p)))) w∧Le C (C.grow k b 1) M (aX M k (some (.box ty (cs.map .p)))) w w:=by
 have hne:∀ (j:Nat) (o':AO),M[j]? = some (some o')→j≠k:=fun j o' h e=>hf o' (e ▸ h)
 have hold:∀ (j:Nat) (o':AO),j≠k→(aX M k (some (.box ty (cs.map .p))))[j]? = some (some o')→M[j]? = some (some o'):=fun j o' h=>(aQ M k j _ o' (fun e=>h e.symm)).1
 have hfw:∀ (j:Nat) (o':AO),M[j]? = some (some o')→(aX M k (some (.box ty (cs.map .p))))[j]? = some (some o'):=fun j o' h=>(aQ M k j _ o' (fun e=>hne j o' h e.symm)).2 h
 have hι:∀ j,j≠k→(C.grow k b 1).ι j=C.ι j:=fun j h=>by simp [Cx.grow,h]
 have hκ:∀ j,j≠k→(C.grow k b 1).κ j=C.κ j:=fun j h=>by simp [Cx.grow,h]
 have hιs:(C.grow k b 1).ι k=some b:=by simp [Cx.grow]
 have hle:Le C (C.grow k b 1) M (aX M k (some (.box ty (cs.map .p)))) w w:=by
  refine ⟨fun j o h=>⟨o,hfw j o h⟩,fun j o h ty' n' cs' hm=>⟨cs',hold j _ (hne j o h) hm⟩,fun j o h o' hm hl => ?_,fun _ h=>h,fun _ _=>rfl⟩
  have:=hold j _ (hne j o h) hm;rw [h] at this;cases this
  exact ⟨hl,hι j (hne j o h),hκ j (hne j o h)⟩
 have hnew:∀ (o':AO),(aX M k (some (.box ty (cs.map .p))))[k]? = some (some o')→o' = .box ty (cs.map .p):=fun o' h=>by rw [aV] at h;cases h;rfl
 refine ⟨⟨fun j ty' n' cs' hm => ?_,fun j ty' cs' hm => ?_,fun j es cl hm => ?_,fun j j' o1 o2 b' hm hl hm' hl' hb1 hb2 => ?_,fun j o' b' hm hl hb' => ?_,hM.Fs,fun j o' b' hm hl hb' => ?_⟩,hle⟩
 ·by_cases e:j=k
  ·subst e;cases hnew _ hm
  ·rw [hι j e,hκ j e]
   rcases hM.row _ _ _ _ (hold j _ e hm) with h4 | ⟨b,arr,inf,q0,q1,q2,q3,q4,q5,q6,q7,q8⟩
   ·exact .inl h4
   ·exact .inr ⟨b,arr,inf,q0,q1,q2,q3,q4,q5,q6,fun j hj=>(q7 j hj).mono hle.F hle.fz,q8⟩
 ·by_cases e:j=k
  ·subst e
   cases hnew _ hm;refine ⟨b,arr,hιs,hh,by simpa using hs,fun i hi => ?_,fun i hi=>h1 i (by simpa using hi)⟩
   rw [lX];exact .p _ _ (hrep i (by simpa using hi))
  ·rw [hι j e]
   obtain ⟨b,arr,q0,q1,q2,q3,q4⟩:=hM.box _ _ _ (hold j _ e hm);exact ⟨b,arr,q0,q1,q2,fun j hj=>(q3 j hj).mono hle,q4⟩
 ·by_cases e:j=k
  ·subst e;cases hnew _ hm
  ·rw [hι j e]
   obtain ⟨b,arr,q0,q1,q2,q3⟩:=hM.mp _ _ _ (hold j _ e hm);refine ⟨b,arr,q0,q1,q2,fun j hj => ?_⟩
   obtain ⟨en,r1,r2,r3,r4⟩:=q3 j hj;exact ⟨en,r1,r2,r3,r4.mono hle.F hle.fz⟩
 ·by_cases e:j=k
  ·by_cases e':j'=k
   ·rw [e,e']
   ·subst e
    rw [hιs] at hb1;cases hb1
    rw [hι j' e'] at hb2
    exact absurd hb2 (hnl _ _ (hold j' _ e' hm') hl')
  ·by_cases e':j'=k
   ·subst e'
    rw [hιs] at hb2;cases hb2
    rw [hι j e] at hb1
    exact absurd hb1 (hnl _ _ (hold j _ e hm) hl)
   ·rw [hι j e] at hb1;rw [hι j' e'] at hb2
    exact hM.inj _ _ _ _ _ (hold j _ e hm) hl (hold j' _ e' hm') hl' hb1 hb2
 ·by_cases e:j=k
  ·subst e
   rw [hιs] at hb';cases hb'
   exact hnF
  ·rw [hι j e] at hb'
   exact hM.nF _ _ _ (hold j _ e hm) hl hb'
 ·by_cases e:j=k
  ·subst e
   rw [hιs] at hb';cases hb'
   exact bY hh
  ·rw [hι j e] at hb'
   exact hM.lt _ _ _ (hold j _ e hm) hl hb'
end
end KV
end Go.Proofs
section
namespace Go.Proofs
open Go.RowKit Go.Lib Go.Shelf
namespace KV
abbrev Bk(dc:Lqq):={ k:Nat // k<dc.length }
def mA(dc:Lqq)(k:Nat):List Int:=dc.getD k []
abbrev aLb(dc:Lqq):AV := .fn 187 [] [(.rp [(.sl dc.length (dc.flatten.map aA))] 0)]
theorem bTz{F:Nat→Prop}{w:World}{n:Int}{u:Value}(h:cQ F w (aA n) u):u = .int .i64 n:=by unfold aA at h;cases h;rfl
theorem bJm{dc:Lqq}(hu:uni 6 dc){k j:Nat}{x:List Int}(hx:dc[k]? = some x)(hj:j<6):dc.flatten[k*6+j]? = some (x.getD j 0):=by
 have hk:k<dc.length:=(kQ2.1 hx).1
 induction dc generalizing k with
 | nil=>simp at hk
 | cons y r ih =>
  have hy:y.length=6:=hu y (jW ..);rw [rV];cases k with
  | zero =>
   simp at hx;subst hx
   rw [Nat.zero_mul,gP,tE (by omega),kQ4,kQ0 (by omega)];rfl
  | succ k =>
   rw [tD (by omega),hy,show (k+1)*6+j-6=k*6+j by omega]
   exact ih (fun z hz=>hu z (kQ7 _ hz)) (by simpa using hx) (by simpa using hk)
theorem bQo{F:Nat→Prop}{w:World}{n:Nat}{cs:List PV}{v:Value}(h:cQ F w (.sl n cs) v):∃ (p:Option Addr) (cap:Nat) (us:Nat→Value),v = .slice p n cap∧(∀ i,i<cs.length→∃ b o,p=some ⟨b,o,none⟩∧F b∧w.cell? ⟨b,o+i,none⟩=some (us i))∧∀ i (h:i<cs.length),cQ F w cs[i] (us i):=by
 cases h with
 | sl _ _ p cap us g1 g2 g3 g4 g5=>exact ⟨p,cap,us,rfl,g3,g4⟩
theorem aXz(dc:Lqq)(hu:uni 6 dc)(hl:dc.length≤1000):bPd Tp (aLb dc) (fun x:Bk dc => #[Value.int .i64 (x.1:Nat),.agg (vals6 (mA dc x.1))]) 187 dc.length (fun ys=>ys.map (fun x=>x.1)=bk dc.length 0):=fun C M w u hu0 hFs=>by
 cases hu0 with
 | fn _ _ _ us vs h1 h2 h3 h4 =>
  obtain rfl:us = #[]:=by simpa using h1
  have q0:=h4 0 (by simp)
  simp only [List.getElem_cons_zero] at q0
  obtain ⟨x0,rfl⟩:∃ x0,vs = #[x0]:=by
   have:vs.toList.length=1:=by simpa using h2
   match hv:vs.toList,this with
   | [x0],_=>exact ⟨x0,by rw [← hv]⟩
  change Rep C M w (.rp [.sl dc.length (dc.flatten.map aA)] 0) x0 at q0
  cases q0 with
  | rp _ _ b1 o1 u1 e1 e2 e3 =>
   have r0:=e2 0 (by simp)
   change cQ C.F w (.sl dc.length (dc.flatten.map aA)) (u1 0) at r0
   have c0:=e1 0 (by simp)
   obtain ⟨p,cap,us2,hv,g3,g4⟩:=bQo r0;rw [hv] at c0
   clear r0 hv
   ·have hlf:(dc.flatten.map aA).length=dc.length*6:=by rw [kQ6,mY hu]
    refine ⟨_,fun pre=>True,rfl,fun l J Jx W hW hJ _ hY h0 => ?_⟩
    have hsame:∀ W',KpG C.F W W'→∀ b,C.F b→W'.heap[b]? = w.heap[b]? := fun W' hk b hb=>(hk.same b hb).trans (hW.block b (hFs b hb))
    obtain ⟨b2,o2,hp⟩:∃ b2 o2,dc.length=0∨p=some ⟨b2,o2,none⟩:=by
     by_cases hz:dc.length=0
     ·exact ⟨0,0,.inl hz⟩
     ·obtain ⟨b,o,h,_⟩:=g3 0 (by omega)
      exact ⟨b,o,.inr h⟩
    have hcell:∀ W',KpG C.F W W'→∀ k:Nat,k<dc.length→∃ a b c d e f,dc[k]? = some [a,b,c,d,e,f]∧W'.cell? ⟨b2,o2+k*6,none⟩=some (.int .i64 a)∧W'.cell? ⟨b2,o2+k*6+1,none⟩=some (.int .i64 b)∧W'.cell? ⟨b2,o2+k*6+2,none⟩=some (.int .i64 c)∧W'.cell? ⟨b2,o2+k*6+3,none⟩=some (.int .i64 d)∧W'.cell? ⟨b2,o2+k*6+4,none⟩=some (.int .i64 e)∧W'.cell? ⟨b2,o2+k*6+5,none⟩=some (.int .i64 f):=fun W' hk k hkn=>by
     obtain ⟨a,b,c,d,e,f,hx⟩:=at6 hu (i:=k) (by omega)
     have one:∀ j,j<6→W'.cell? ⟨b2,o2+(k*6+j),none⟩=some (.int .i64 ([a,b,c,d,e,f].getD j 0)):=fun j hj=>by
      have hi:k*6+j<(dc.flatten.map aA).length:=by omega
      obtain ⟨b',o',q1,q2,q3⟩:=g3 (k*6+j) hi
      rcases hp with hp | hp
      ·omega
      ·rw [hp] at q1
       cases q1;rw [eO (hsame W' hk b2 q2),q3];have:=g4 (k*6+j) hi;have he:(dc.flatten.map aA)[k*6+j]=aA ([a,b,c,d,e,f].getD j 0):=by
        have h5:=bJm hu hx hj;rw [lX]
        congr 1
        obtain ⟨_,h6⟩:=kQ2.1 h5;exact h6
       rw [he] at this
       rw [bTz this]
     exact ⟨a,b,c,d,e,f,hx,one 0 (by omega),one 1 (by omega),one 2 (by omega),one 3 (by omega),one 4 (by omega),one 5 (by omega)⟩
    by_cases hz:dc.length=0
    ·-- nothing to yield: any address will do
     have h2:bk dc.length 0=[]:=by unfold bk;rw [hz];rfl
     rw [hz] at c0
     refine (aPl 2 l b1 o1 cap p (by omega) (J []) W ((eO (hsame W (KpG.refl _ _) b1 c0.1) _).trans c0.2) h0).mono ?_
     rintro e W' ⟨h5,h6⟩;exact ⟨h5,.inl ⟨[],by rw [h2];rfl,h6⟩⟩
    ·have hp:p=some ⟨b2,o2,none⟩:=hp.resolve_left hz
     subst hp;have:=aPk dc hl C.F 2 l b1 o1 b2 o2 cap (by omega) (fun ys W=>∃ zs:List (Bk dc),zs.map (fun x=>x.1)=ys∧J zs W) (fun ys W=>∃ zs:List (Bk dc),zs.map (fun x=>x.1)=ys∧Jx zs W)
      (fun pre k a b c d e f W1 hx hj hlt=>by
       obtain ⟨zs,rfl,hj⟩:=hj;have hk:k<dc.length:=(kQ2.1 hx).1;obtain ⟨fn,tmps,assign,body,hy,hR⟩:=hY zs ⟨k,hk⟩ W1 hj (by simpa [aPm] using hlt)
       have ev:vals6 (mA dc k) = #[.int .i64 a,.int .i64 b,.int .i64 c,.int .i64 d,.int .i64 e,.int .i64 f]:=by
        unfold mA;rw [kQ4,hx];rfl
       dsimp only at hy
       rw [ev] at hy
       refine ⟨fn,tmps,assign,body,hy,hR.mono ?_⟩;rintro e w3 (⟨rfl,hJ3,hK3⟩ | ⟨rfl,hx3⟩)
       ·exact .inl ⟨rfl,⟨zs++[⟨k,hk⟩],by rw [iE];rfl,hJ3⟩,hK3⟩
       ·exact .inr ⟨rfl,⟨zs++[⟨k,hk⟩],by rw [iE];rfl,hx3⟩⟩)
      W (fun ys A B row hs hg hr=>by obtain ⟨zs,h1,h2⟩:=hs;exact ⟨zs,h1,hJ _ _ _ _ h2 hg hr⟩) (fun b hb=>kQ9 (hFs b hb) hW.size)
      hcell
      (fun W' hk=>(eO (hsame W' hk b1 c0.1) _).trans c0.2)
      ⟨[],rfl,h0⟩
     refine this.mono ?_;rintro e W' ⟨h5,h6⟩;refine ⟨h5,?_⟩
     rcases h6 with ⟨ys,rfl,zs,h7,h8⟩ | ⟨pre,_,zs,h7,h8⟩
     ·exact .inl ⟨zs,h7,h8⟩
     ·exact .inr ⟨zs,trivial,h8⟩
end KV
end Go.Proofs
end
section
namespace Go.Proofs
open Go.RowKit
namespace KV
variable {P:Program} {T:TT} {E:Env} {C C0:Cx} {M M0:Mem} {w w0:World}
def gN(P:Program)(k:Nat)(c:Code)(st:St)(e:Ex)(st':St):Prop:=∀ (C0:Cx) (M0:Mem) (w0:World) (a:Act) (w:World),M0.length≤k→Sim P C0 M0 w0 st a w→∀ (ro:Option Nat) (n:Nat),c.wpIn (Fen ro) n P (fun e' a' w'=>e'=e.toExit∧Sim P C0 M0 w0 st' a' w') a w
theorem gN.cast{k:Nat}{c:Code}{st st1 st2:St}{e:Ex}(h:gN P k c st e st1)(q:st1=st2):gN P k c st e st2:=q ▸ h
theorem bEi(hT:∀ t i,T t=some i→cH P t=some i)(hE:lA P E)(hm:P.follows .mixedOrders=true){id:Nat}{ops:Array Oper}{d:Bool}{st st':St}{s s':AS}(h:aIq P T E ops d st s=some (st',s'))(g:aZ s'){k:Nat}:gN P k (.region id ops d) st .normal st':=by
 intro C0 M0 w0 a w _ hs ro n;cases d with
 | false =>
  refine wpIn_region ?_;have:=sR hT hE ops.toList 0 (fun j=>by simp) h g C0 M0 w0 a w hs ro n (fun e' a' w'=>e'=Ex.normal.toExit∧Sim P C0 M0 w0 st' a' w') (fun a' w' h'=>⟨rfl,h'⟩)
  simpa using this
 | true =>
  obtain ⟨_,s1,h1,k1⟩:=aD h;obtain ⟨e1,rfl⟩:=aE h1;obtain ⟨r,s2,h2,k2⟩:=aD k1;obtain ⟨_,s3,h3,k3⟩:=aD k2;obtain ⟨e3,rfl⟩:=aE h3;obtain ⟨rfl,rfl⟩:=aJ k3;obtain ⟨hB,_⟩:=bL e1;obtain ⟨hA,_⟩:=bL e3;obtain ⟨os,hfts,hlex⟩:=pZ ops.toList _ (fts:=r.1) (fin:=r.2) h2 g
  replace hB:=wC hB
  unfold Region.lexB at hB
  rw [kQ8] at hB
  have hlen:os.length=ops.toList.length:=by
   have:∀ {l:List Oper} {id:Nat} {st:St} {os:List uD} {fin:St},aIr P T E ops.toList id l st os fin→os.length=l.length:=by
    intro l
    induction l with
    | nil=>intro id st os fin h;cases h;rfl
    | cons o l ih=>intro id st os fin h;cases h with | cons _ _ _ _ q os _ h hr=>simp [ih hr]
   exact this hlex
  have key:nP P T E ops.toList st.m.length (fun k=>os.getD k (.any,[],none)) r.2 ops.toList.length (Array.replicate ops.size false) st:=by
   refine nP.lex ops.toList 0 _ st os (fun j=>by simp) (fun j q hj=>by simp [kQ4,hj]) (fun j hj=>absurd hj (aNw _)) (fun j oj hj hl => ?_) (fun i j _ hij hj => ?_) (by simpa using hB.2) (by simpa [ido] using hlex)
   ·exfalso
    rcases Nat.lt_or_ge j ops.size with h' | h'
    ·simp [h'] at hl
    ·simp [Nat.not_lt.2 h'] at hl
   have hj2:j<os.length:=by
    rw [hlen];obtain ⟨o,ho⟩:=Option.isSome_iff_exists.1 hj;exact (kQ2.1 ho).1
   have:=mK r.1 0 hA i j (zY os[i]) (zY os[j]) hij (by rw [hfts,gC,kQ0 (by omega)];rfl) (by rw [hfts,gC,kQ0 hj2];rfl)
   rw [gP,gP] at this
   simp only [kQ4,kQ0 hj2,kQ0 (show i<os.length by omega),Option.getD_some,Array.toArray_toList]
   exact this
  refine wpIn_region_any hm ?_;have:=nP.sound hT hE (C0:=C0) (M0:=M0) (w0:=w0) (ro:=ro) (n:=n) (Q:=fun e' a' w'=>e'=Ex.normal.toExit∧Sim P C0 M0 w0 r.2 a' w') (fun a' w' h'=>⟨rfl,h'⟩) _ _ _ a _ key (hs.drawn (w.drawn+1))
  simpa using this


noncomputable def bMf(c:Code)(st:St):Ask (Ex × St):=match c with
 | .region _ ops d=>do
  let st' ← aIq Tp tT EO ops d st
  pure (.normal,st')
 | _=>fail
theorem gN.fin{k:Nat}{c:Code}{st st':St}{e:Ex}{g:Gh}{o:List OI}{l:List Prop}(h:aKi k g (bMf c st (asg o))=some (e,st',l,[]))(gd:aZ (out l)):gN Tp k c st e st':=by
 unfold aKi at h
 split at h
 ·rename_i e1 st1 s hr
  split at h
  ·rename_i st2 hg
   simp only [Option.some.injEq,Prod.mk.injEq] at h
   obtain ⟨rfl,rfl,rfl,hs⟩:=h;unfold bMf at hr
   split at hr
   ·rename_i id ops d
    obtain ⟨st3,s1,h1,k1⟩:=aD hr;obtain ⟨he,rfl⟩:=aJ k1;cases he;intro C0 M0 w0 a w hk hsm ro n;exact wpIn_mono (bEi (k:=k) aEo aEn mixed h1 (fun p hp=>gd p hp) C0 M0 w0 a w hk hsm ro n) (fun _ _ _ hq=>⟨hq.1,eT hk hg hq.2⟩)
   ·exact (aT hr).elim
  ·cases h
 ·cases h
end KV
end Go.Proofs
end
namespace Go.Proofs
namespace KV
section

theorem bJj{dl:Int}{v1 v2:Value}{mb:Nat}{es:List (Value × PV)}{cl:Nat}{x0 x1 x2 x3 x4 x5:Int}(h0:cI .i64 es (.int .i64 x0))(h1:(dR es (.int .i64 x0))=true):gN Tp 5 (sub (cd Tryz.f82) [1,1,1,1,0,1,0,1,0,0]) ⟨fr 57 [(6,(.ptr 0 0)),(8,(.ptr 4 0))],[some (.box 130 [(.ptr 1 0)]),some (.box 176 [(pI dl),(.p (.v v1)),(.p (.v v2)),(.mp 2),(.p (.v (.map (some mb))))]),some (.mp es cl),some .dead,some (.box 44 [(pI x0),(pI x1),(pI x2),(pI x3),(pI x4),(pI x5)])]⟩ .normal ⟨fr 57 [(6,(.ptr 0 0)),(8,(.ptr 4 0))],[some (.box 130 [(.ptr 1 0)]),some (.box 176 [(pI dl),(.p (.v v1)),(.p (.v v2)),(.mp 2),(.p (.v (.map (some mb))))]),some (.mp (oG es (.int .i64 x0) (dcE x0 x1 x2 x3 x4 x5)) cl),some .dead,some (.box 44 [(pI x0),(pI x1),(pI x2),(pI x3),(pI x4),(pI x5)])]⟩:=by
 exact gN.fin (g:=⟨[0,1,2,3,4,5,7,9,10,11,12,13,14,15,16,17,18,19,20,21,22,23,24,25,26,27,28,29,30,31,32,33,34,35,36,37,38,39,40,41,42,43,44,45,46,47,48,49,50,51,52,53,54,55,56],[],[],[]⟩) (o:=[bT]) (l:=[_,_]) (by kernel_rfl) (gc h1 (gc h0 gn))
theorem bJk{dl:Int}{v1 v2:Value}{mb:Nat}{es:List (Value × PV)}{cl:Nat}{x0 x1 x2 x3 x4 x5:Int}(h0:cI .i64 es (.int .i64 x0))(h1:(dR es (.int .i64 x0))=false):gN Tp 5 (sub (cd Tryz.f82) [1,1,1,1,0,1,0,1,0,0]) ⟨fr 57 [(6,(.ptr 0 0)),(8,(.ptr 4 0))],[some (.box 130 [(.ptr 1 0)]),some (.box 176 [(pI dl),(.p (.v v1)),(.p (.v v2)),(.mp 2),(.p (.v (.map (some mb))))]),some (.mp es cl),some .dead,some (.box 44 [(pI x0),(pI x1),(pI x2),(pI x3),(pI x4),(pI x5)])]⟩ .normal ⟨fr 57 [(6,(.ptr 0 0)),(8,(.ptr 4 0))],[some (.box 130 [(.ptr 1 0)]),some (.box 176 [(pI dl),(.p (.v v1)),(.p (.v v2)),(.mp 2),(.p (.v (.map (some mb))))]),some (.mp (es++[((.int .i64 x0),(dcE x0 x1 x2 x3 x4 x5))]) (cl+1)),some .dead,some (.box 44 [(pI x0),(pI x1),(pI x2),(pI x3),(pI x4),(pI x5)])]⟩:=by
 exact gN.fin (g:=⟨[0,1,2,3,4,5,7,9,10,11,12,13,14,15,16,17,18,19,20,21,22,23,24,25,26,27,28,29,30,31,32,33,34,35,36,37,38,39,40,41,42,43,44,45,46,47,48,49,50,51,52,53,54,55,56],[],[],[]⟩) (o:=[bF]) (l:=[_,_]) (by kernel_rfl) (gc h1 (gc h0 gn))
theorem bJl{dl:Int}{v1 v2:Value}{mb:Nat}{es:List (Value × PV)}{cl:Nat}{x0 x1 x2 x3 x4 x5:Int}:gN Tp 5 (sub (cd Tryz.f82) [1,1,1,1,0,1,0,1,0,1,0]) ⟨fr 57 [(6,(.ptr 0 0)),(8,(.ptr 4 0))],[some (.box 130 [(.ptr 1 0)]),some (.box 176 [(pI dl),(.p (.v v1)),(.p (.v v2)),(.mp 2),(.p (.v (.map (some mb))))]),some (.mp es cl),some .dead,some (.box 44 [(pI x0),(pI x1),(pI x2),(pI x3),(pI x4),(pI x5)])]⟩ .normal ⟨fr 57 [(6,(.ptr 0 0)),(8,(.ptr 4 0)),(39,(pB (decide (x5 > (0:Int)))))],[some (.box 130 [(.ptr 1 0)]),some (.box 176 [(pI dl),(.p (.v v1)),(.p (.v v2)),(.mp 2),(.p (.v (.map (some mb))))]),some (.mp es cl),some .dead,some (.box 44 [(pI x0),(pI x1),(pI x2),(pI x3),(pI x4),(pI x5)])]⟩:=by
 exact gN.fin (g:=⟨[0,1,2,3,4,5,7,9,10,11,12,13,14,15,16,17,18,19,20,21,22,23,24,25,26,27,28,29,30,31,32,33,34,35,36,37,38,40,41,42,43,44,45,46,47,48,49,50,51,52,53,54,55,56],[],[],[]⟩) (o:=[]) (l:=[]) (by kernel_rfl) (gn)
end
end KV
end Go.Proofs
section
namespace Go.Proofs
open Go.RowKit
namespace KV
open Go.ChangeMaps (setBlock)
open Go.Maps Go.MapKept

section
variable {P:Program} {o:Oper} {a:Act} {W W':World}
theorem bEe{x:Operand}{p:Addr}(ho:o.op = .nilCheck x)(hv:a.eval x = .pointer (some p)):(execOp a.eval o).run P W = .ok (.value (.pointer (some p))) W:=by
 unfold execOp;rw [ho];simp [hv]
theorem vE{t:TypeId}{x:Operand}{f:Nat}{v r:Value}(ho:o.op = .fieldAddr t x f)(hx:a.eval x=v)(hr:(Instr.fieldAt t v f).run P W = .ok r W):(execOp a.eval o).run P W = .ok (.value r) W:=by
 unfold execOp;rw [ho];simp [hx,hr,Result.andThen]
theorem vF{t:TypeId}{fs:Array Field}{f:Nat}{fl:Field}{j:TI}(hd:P.underlying t=some (.struct fs))(hf:fs[f]? = some fl)(hj:cH P fl.type=some j)(h0:j.size≠0)(b off:Nat) :
  (Instr.fieldAt t (.pointer (some ⟨b,off,none⟩)) f).run P W = .ok (.pointer (some ⟨b,off+fl.offset,none⟩)) W:=by
 unfold Instr.fieldAt;rw [Sem.run_bind,run_underlying hd,Result.andThen_ok];simp only [hf];rw [Sem.run_bind];show ((pure (⟨b,off,none⟩:Addr):Sem Addr).run P W).andThen _=_;rw [Sem.run_pure,Result.andThen_ok,Sem.run_bind,qK hj h0,Result.andThen_ok];rfl
theorem aXy{t:Nat}{i:TI}(hi:cH P t=some i)(ha:i.agg=true){b:Nat}{l:List Value}{ty:TypeId}{fr:Nat × Nat}(hl:l.length=i.size)(h:W.heap[b]? = some (.cells l.toArray ty fr)):(Instr.loadAt t (.pointer (some ⟨b,0,none⟩))).run P W = .ok (.agg l.toArray) W:=by
 have:=kY (P:=P) (w:=W) hi ha (b:=b) (o:=0) (f:=fun j=>l.getD j undef) (fun j hj=>by
  rw [gP,bU h (by simpa using (by omega:j<l.length))]
  simp [kQ4,kQ0 (show j<l.length by omega),kQ1])
 have e:((List.range i.size).map fun j=>l.getD j undef).toArray=l.toArray:=by
  rw [← hl]
  congr 1
  apply List.ext_getElem
  ·simp
  ·intro j h1 h2
   simp [kQ4,kQ0 h2]
 rw [e] at this
 unfold Instr.loadAt Instr.sureAddr;simpa using this
end
theorem fill6{x:List Int}(hx:x.length=6):Instr.fill (fun i=>some (i*6,6)) ((Array.range (1*6)).map (zD6.cells[· % zD6.cells.size]!)) [(0,.agg (vsL x).toArray)]=some (vsL x).toArray:=by
 obtain ⟨a,b,c,d,e,f,rfl⟩:=len6 hx
 kernel_rfl
theorem tiq{P:Program}{t:Nat}{b:Bool}{n:Nat}(h:(cH P t).map (fun i=>(i.agg,i.size))=some (b,n)):∃ i,cH P t=some i∧i.agg=b∧i.size=n:=by
 cases h2:cH P t with
 | none=>rw [h2] at h;simp at h
 | some i=>rw [h2] at h;simp at h;exact ⟨i,rfl,h.1,h.2⟩
theorem tq130:(cH Tp 130).map (fun i=>(i.agg,i.size))=some (false,1):=by kernel_rfl
theorem tq174:(cH Tp 174).map (fun i=>(i.agg,i.size))=some (false,1):=by kernel_rfl
theorem tq3:(cH Tp 3).map (fun i=>(i.agg,i.size))=some (false,1):=by kernel_rfl
theorem tq44:(cH Tp 44).map (fun i=>(i.agg,i.size))=some (true,6):=by kernel_rfl
theorem info44z:(Tryz.prog.info? 44).map (fun i=>(i.zero,i.size,i.bytes))=some (some zD6,6,48):=by kernel_rfl

structure bJh (mb:Nat) (es:Array MapEntry) (cl:Nat) (L:List Ent) (k:Int) (x:List Int) (W W':World) (es':Array MapEntry) (cl':Nat) (e:Ent):Prop where
 ok:lF mb es' (nZ L e)
 ky:e.k=k
 li:e.l=nY L k++[x]
 born:(∀ y∈es.toList,y.born<cl)→∀ y∈es'.toList,y.born<cl'
 has:∀ p∈iH mb es' cl' (nZ L e),W'.heap[p.1]? = some p.2∧((∃ p0∈iH mb es cl L,p0.1=p.1)∨W.heap.size≤p.1)
 size:W.heap.size≤W'.heap.size
 os:W'.os=W.os
 tape:W'.tape=W.tape
 out:W'.output=W.output
 keep:∀ b,b<W.heap.size→(∀ q∈iH mb es cl L,q.1≠b)→W'.heap[b]? = W.heap[b]?

theorem bJi:∃ l:List Oper,sub (cd Tryz.f82) [1,1,1,1,0,1,0,1,0,1,1,0] = .region 9 l.toArray true∧aHn l [0,1,2,3,4,5,6,7,8,9,10,11,12,13] 14 15 16=true∧l.all yN=true∧l.map (fun o=>(o.op,o.dst))=[(.load 130 (.tmp 6),some 40),(.nilCheck (.tmp 40),some 41),(.fieldAddr 176 (.tmp 41) 2,some 42),(.load 174 (.tmp 42),some 43),(.fieldAddr 44 (.tmp 8) 5,some 44),(.load 3 (.tmp 44),some 45),(.load 130 (.tmp 6),some 46),(.nilCheck (.tmp 46),some 47),(.fieldAddr 176 (.tmp 47) 2,some 48),(.load 174 (.tmp 48),some 49),(.fieldAddr 44 (.tmp 8) 5,some 50),(.load 3 (.tmp 50),some 51),(.lookup 174 (.tmp 49) (.tmp 51) false,some 52),(.load 44 (.tmp 8),some 53),(.buildSlice 24 1 #[(0,.tmp 53)],some 54),(.call { callee := .builtin .append,args := #[.tmp 52,.tmp 54],argTypes := #[24,24] },some 55),(.mapUpdate 174 (.tmp 43) (.tmp 45) (.tmp 55),none)] :=
 ⟨match sub (cd Tryz.f82) [1,1,1,1,0,1,0,1,0,1,1,0] with | .region _ ops _=>ops.toList | _=>[],by kernel_rfl,by kernel_rfl,by kernel_rfl,by kernel_rfl⟩
set_option maxHeartbeats 4000000 in
theorem ask9{F:Fence}{n:Nat}(hall:∀ f,F.fn f){a:Act}{W:World}{b6 bd b8 mb cl:Nat}{es:Array MapEntry}{L:List Ent}{x:List Int}(hx6:x.length=6){a6 ad:Array Value}{t6 td:TypeId}
  (hsz:a.tmps.size=57) (v6:a.tmps.getD 6 undef = .pointer (some ⟨b6,0,none⟩)) (v8:a.tmps.getD 8 undef = .pointer (some ⟨b8,0,none⟩))
  (h6:W.heap[b6]? = some (.cells a6 t6 (0,0))) (q6:0<a6.size∧a6.getD 0 undef = .pointer (some ⟨bd,0,none⟩)) (hd:W.heap[bd]? = some (.cells ad td (0,0))) (qd:4<ad.size∧ad.getD 4 undef = .map (some mb)) (h8:W.heap[b8]? = some (.cells (vsL x).toArray 44 (0,0)))
  (hM:lF mb es L) (hR:∀ p∈iH mb es cl L,W.heap[p.1]? = some p.2) (hl:∀ e∈L,e.l.length≤1000) (hne:∀ p∈iH mb es cl L,p.1≠b6∧p.1≠bd∧p.1≠b8) (hk:(Lit.int .i64 (dAb x)).wf=true) :
  (sub (cd Tryz.f82) [1,1,1,1,0,1,0,1,0,1,1,0]).wpIn F n Tp (fun e a' W'=>e = .normal∧∃ es' cl' e,bJh mb es cl L (dAb x) x W W' es' cl' e) a W:=by
 obtain ⟨l,hc,hB,hcalm,hops⟩:=bJi;rw [hc];obtain ⟨o0,l0,rfl,h0,hops⟩:=qO.1 hops;obtain ⟨o1,l1,rfl,h1,hops⟩:=qO.1 hops;obtain ⟨o2,l2,rfl,h2,hops⟩:=qO.1 hops;obtain ⟨o3,l3,rfl,h3,hops⟩:=qO.1 hops;obtain ⟨o4,l4,rfl,h4,hops⟩:=qO.1 hops;obtain ⟨o5,l5,rfl,h5,hops⟩:=qO.1 hops;obtain ⟨o6,l6,rfl,h6',hops⟩:=qO.1 hops;obtain ⟨o7,l7,rfl,h7,hops⟩:=qO.1 hops;obtain ⟨o8,l8,rfl,h8',hops⟩:=qO.1 hops;obtain ⟨o9,l9,rfl,h9,hops⟩:=qO.1 hops;obtain ⟨o10,l10,rfl,h10,hops⟩:=qO.1 hops;obtain ⟨o11,l11,rfl,h11,hops⟩:=qO.1 hops;obtain ⟨o12,l12,rfl,h12,hops⟩:=qO.1 hops;obtain ⟨o13,l13,rfl,h13,hops⟩:=qO.1 hops;obtain ⟨o14,l14,rfl,h14,hops⟩:=qO.1 hops;obtain ⟨o15,l15,rfl,h15,hops⟩:=qO.1 hops;obtain ⟨o16,l16,rfl,h16,hops⟩:=qO.1 hops;obtain rfl:=List.map_eq_nil_iff.1 hops;obtain ⟨q0,d0⟩:=Prod.mk.inj h0;obtain ⟨q1,d1⟩:=Prod.mk.inj h1;obtain ⟨q2,d2⟩:=Prod.mk.inj h2;obtain ⟨q3,d3⟩:=Prod.mk.inj h3;obtain ⟨q4,d4⟩:=Prod.mk.inj h4;obtain ⟨q5,d5⟩:=Prod.mk.inj h5;obtain ⟨q6',d6⟩:=Prod.mk.inj h6';obtain ⟨q7,d7⟩:=Prod.mk.inj h7;obtain ⟨q8,d8⟩:=Prod.mk.inj h8';obtain ⟨q9,d9⟩:=Prod.mk.inj h9;obtain ⟨q10,d10⟩:=Prod.mk.inj h10;obtain ⟨q11,d11⟩:=Prod.mk.inj h11;obtain ⟨q12,d12⟩:=Prod.mk.inj h12;obtain ⟨q13,d13⟩:=Prod.mk.inj h13;obtain ⟨q14,d14⟩:=Prod.mk.inj h14;obtain ⟨q15,d15⟩:=Prod.mk.inj h15;obtain ⟨q16,d16⟩:=Prod.mk.inj h16;clear h0 h1 h2 h3 h4 h5 h6' h7 h8' h9 h10 h11 h12 h13 h14 h15 h16;have V6:a.eval (.tmp 6) = .pointer (some ⟨b6,0,none⟩):=v6;have V8:a.eval (.tmp 8) = .pointer (some ⟨b8,0,none⟩):=v8;obtain ⟨i130,t130,a130,_⟩:=tiq tq130;obtain ⟨i174,t174,a174,s174⟩:=tiq tq174;obtain ⟨i3,t3,a3,s3⟩:=tiq tq3;obtain ⟨i44,t44,a44,s44⟩:=tiq tq44;have fd:∀ U:World,(Instr.fieldAt 176 (.pointer (some ⟨bd,0,none⟩)) 2).run Tp U = .ok (.pointer (some ⟨bd,4,none⟩)) U:=fun U =>
  (vF (P:=Tp) (W:=U) Tryz.underlying176 (f:=2) rfl (by exact t174) (by rw [s174];decide) bd 0)
 have f8:∀ U:World,(Instr.fieldAt 44 (.pointer (some ⟨b8,0,none⟩)) 5).run Tp U = .ok (.pointer (some ⟨b8,5,none⟩)) U:=fun U =>
  (vF (P:=Tp) (W:=U) Tryz.underlying44 (f:=5) rfl (by exact t3) (by rw [s3];decide) b8 0)
 obtain ⟨S,hSdef⟩:∃ S:World→Prop,S=fun U=>U.heap[b6]? = W.heap[b6]? ∧ U.heap[bd]? = W.heap[bd]? ∧ U.heap[b8]? = W.heap[b8]? ∧ U.heap[mb]? = W.heap[mb]? := ⟨_,rfl⟩
 have hmb:W.heap[mb]? = some (.map es cl):=hR (mb,.map es cl) (by simp [iH])
 have r6:∀ U,S U→(Instr.loadAt 130 (.pointer (some ⟨b6,0,none⟩))).run Tp U = .ok (.pointer (some ⟨bd,0,none⟩)) U:=fun U hU=>by
  rw [hSdef] at hU
  refine wY t130 a130 ?_;rw [eO hU.1,bU h6 q6.1];have:=q6.2;simp only [kQ1,pU q6.1,Option.getD_some] at this ⊢
  rw [this]
 have rd:∀ U,S U→(Instr.loadAt 174 (.pointer (some ⟨bd,4,none⟩))).run Tp U = .ok (.map (some mb)) U:=fun U hU=>by
  rw [hSdef] at hU
  refine wY t174 a174 ?_;rw [eO hU.2.1,bU hd qd.1];have:=qd.2;simp only [kQ1,pU qd.1,Option.getD_some] at this ⊢
  rw [this]
 have x5:(vsL x)[5]? = some (.int .i64 (dAb x)):=by
  unfold vsL;rw [gC,kQ0 (by omega)]
  simp [dAb,kQ4,kQ0 (show 5<x.length by omega)]
 have r5:∀ U,S U→(Instr.loadAt 3 (.pointer (some ⟨b8,5,none⟩))).run Tp U = .ok (.int .i64 (dAb x)) U:=fun U hU=>by
  rw [hSdef] at hU
  refine wY t3 a3 ?_;have hs5:5<(vsL x).length:=by simp [vsL,hx6]
  rw [eO hU.2.2.1,bU h8 (j:=5) (by simpa using hs5)]
  simp only [kQ0 hs5,Option.some.injEq] at x5
  simp [kQ1,kQ0 hs5,x5]
 have r8:∀ U,S U→(Instr.loadAt 44 (.pointer (some ⟨b8,0,none⟩))).run Tp U = .ok (.agg (vsL x).toArray) U:=fun U hU=>by
  rw [hSdef] at hU
  exact aXy t44 a44 (by simp [vsL,hx6,s44]) (hU.2.2.1.trans h8)
 have rz:∀ U:World,(zeroValue 24).run Tp U = .ok (.slice none 0 0) U:=fun U=>rfl
 have rl:∀ U,S U→(Instr.lookup 174 (.map (some mb)) (.int .i64 (dAb x)) false).run Tp U = .ok (pS L (dAb x)) U:=fun U hU=>by
  rw [hSdef] at hU
  exact bEf Tryz.underlying174 Tryz.underlying3 (rz U) (hU.2.2.2.trans hmb) hM hk
 obtain ⟨W1,hW1⟩:∃ W1:World,W1={ W with drawn:=W.drawn+1 }:=⟨_,rfl⟩
 have hh1:W1.heap=W.heap:=by rw [hW1]
 have hs:Sim Tp ((⟨fun _=>none,fun _=>0,fun _=>False,[]⟩:Cx).with (iH mb es cl L++[])) [] { W1 with heap := #[] } ⟨List.replicate 57 .any,[]⟩ { tmps:=a.tmps,defers:=[] } W1:=by
  refine ⟨⟨fun _=>none,fun _=>0,fun _=>False,[]⟩,⟨by simpa using hsz,fun j hj=>by rw [List.getElem_replicate];exact .any _⟩,⟨fun _ _ _ _ h=>by simp at h,fun _ _ _ h=>by simp at h,fun _ _ _ h=>by simp at h,fun _ _ _ _ _ h=>by simp at h,fun _ _ _ h=>by simp at h,fun _ h=>h.elim,fun _ _ _ h=>by simp at h⟩,
   ⟨rfl,rfl,rfl,Nat.zero_le _,fun b hb=>by simp at hb,fun _ _ h=>by simp at h,fun _ _ h=>by simp at h,fun _ _ h=>by simp at h,fun _ _ _ h=>by simp at h,fun _ h=>h,fun _ h=>h.elim⟩,?_⟩
  refine ⟨⟨[],rfl,.nil,fun D h=>by cases h⟩,fun p hp => ?_,.no (fun _ _ h=>by simp at h)⟩
  have hp':p∈iH mb es cl L:=by have h2:p∈iH mb es cl L++[]:=hp;rwa [List.append_nil] at h2
  refine ⟨by rw [hh1];exact hR p hp',Nat.zero_le _,?_,fun h=>h,fun _ _ h=>by simp at h⟩
  rcases dA.1 hp' with rfl | ⟨y,_,rfl⟩ <;> (intro h;cases h)
 obtain ⟨v2,w2,es',cl',e,hrun,hkeep,hmb2,⟨hsize,hborn,hold⟩,hup,hM',hek,hel,_,hsim⟩:=bJr (P:=Tp) (C0:=⟨fun _=>none,fun _=>0,fun _=>False,[]⟩) (kt:=3) (S22:=24) (ty:=o15.type) (k:=dAb x) (x:=x) hx6 Tryz.underlying174 Tryz.underlying3 Tryz.underlying24 info44z hs (fun p _ q hq=>by cases hq) hM hk hl
 have hw2:S w2:=by
  rw [hSdef];have hlt:∀ b o,W.heap[b]? = some o→b<W1.heap.size:=fun b o h=>by rw [hh1];exact bY h
  refine ⟨(hkeep b6 (hlt _ _ h6) fun q hq=>(hne q hq).1).trans (by rw [hh1]),(hkeep bd (hlt _ _ hd) fun q hq=>(hne q hq).2.1).trans (by rw [hh1]),(hkeep b8 (hlt _ _ h8) fun q hq=>(hne q hq).2.2).trans (by rw [hh1]),hmb2.trans (by rw [hh1])⟩
 have hS1:S { W with drawn:=W.drawn+1 }:=by rw [hSdef];exact ⟨rfl,rfl,rfl,rfl⟩
 refine aYa (P:=Tp) (o1:=o14) (o2:=o15) (o3:=o16) (S:=S) hall (fun ⟨_,_,h,_⟩=>by cases h) hcalm [0,1,2,3,4,5,6,7,8,9,10,11,12,13] 14 15 16 mixed hB rfl rfl rfl (fun c a w h=>by cases h.1) hS1
  [.pointer (some ⟨bd,0,none⟩),.pointer (some ⟨bd,0,none⟩),.pointer (some ⟨bd,4,none⟩),.map (some mb),.pointer (some ⟨b8,5,none⟩),.int .i64 (dAb x),.pointer (some ⟨bd,0,none⟩),.pointer (some ⟨bd,0,none⟩),.pointer (some ⟨bd,4,none⟩),.map (some mb),.pointer (some ⟨b8,5,none⟩),.int .i64 (dAb x),pS L (dAb x),.agg (vsL x).toArray] rfl ?_ ?_
 ·refine ⟨fun U hU=>pG q0 V6 (r6 U hU),fun U hU=>bEe q1 (by simp [bM,bE,dM,hsz,V6,V8,d0,d1,d2,d3,d4,d5,d6,d7,d8,d9,d10,d11,d12]),fun U hU=>vE q2 (by simp [bM,bE,dM,hsz,V6,V8,d0,d1,d2,d3,d4,d5,d6,d7,d8,d9,d10,d11,d12]) (fd U),
   fun U hU=>pG q3 (by simp [bM,bE,dM,hsz,V6,V8,d0,d1,d2,d3,d4,d5,d6,d7,d8,d9,d10,d11,d12]) (rd U hU),fun U hU=>vE q4 (by simp [bM,bE,dM,hsz,V6,V8,d0,d1,d2,d3,d4,d5,d6,d7,d8,d9,d10,d11,d12]) (f8 U),fun U hU=>pG q5 (by simp [bM,bE,dM,hsz,V6,V8,d0,d1,d2,d3,d4,d5,d6,d7,d8,d9,d10,d11,d12]) (r5 U hU),
   fun U hU=>pG q6' (by simp [bM,bE,dM,hsz,V6,V8,d0,d1,d2,d3,d4,d5,d6,d7,d8,d9,d10,d11,d12]) (r6 U hU),fun U hU=>bEe q7 (by simp [bM,bE,dM,hsz,V6,V8,d0,d1,d2,d3,d4,d5,d6,d7,d8,d9,d10,d11,d12]),fun U hU=>vE q8 (by simp [bM,bE,dM,hsz,V6,V8,d0,d1,d2,d3,d4,d5,d6,d7,d8,d9,d10,d11,d12]) (fd U),
   fun U hU=>pG q9 (by simp [bM,bE,dM,hsz,V6,V8,d0,d1,d2,d3,d4,d5,d6,d7,d8,d9,d10,d11,d12]) (rd U hU),fun U hU=>vE q10 (by simp [bM,bE,dM,hsz,V6,V8,d0,d1,d2,d3,d4,d5,d6,d7,d8,d9,d10,d11,d12]) (f8 U),fun U hU=>pG q11 (by simp [bM,bE,dM,hsz,V6,V8,d0,d1,d2,d3,d4,d5,d6,d7,d8,d9,d10,d11,d12]) (r5 U hU),
   fun U hU=>aYc q12 (by simp [bM,bE,dM,hsz,V6,V8,d0,d1,d2,d3,d4,d5,d6,d7,d8,d9,d10,d11,d12]) (by simp [bM,bE,dM,hsz,V6,V8,d0,d1,d2,d3,d4,d5,d6,d7,d8,d9,d10,d11,d12]) (rl U hU),
   fun U hU=>pG q13 (by simp [bM,bE,dM,hsz,V6,V8,d0,d1,d2,d3,d4,d5,d6,d7,d8,d9,d10,d11,d12]) (r8 U hU),trivial⟩
 ·intro a' ha'
  have e43:a'.eval (.tmp 43) = .map (some mb):=by rw [ha'];simp [yO,bM,bE,dM,hsz,V6,V8,d0,d1,d2,d3,d4,d5,d6,d7,d8,d9,d10,d11,d12,d13]
  have e45:a'.eval (.tmp 45) = .int .i64 (dAb x):=by rw [ha'];simp [yO,bM,bE,dM,hsz,V6,V8,d0,d1,d2,d3,d4,d5,d6,d7,d8,d9,d10,d11,d12,d13]
  have e52:a'.eval (.tmp 52)=pS L (dAb x):=by rw [ha'];simp [yO,bM,bE,dM,hsz,V6,V8,d0,d1,d2,d3,d4,d5,d6,d7,d8,d9,d10,d11,d12,d13]
  have e53:a'.eval (.tmp 53) = .agg (vsL x).toArray:=by rw [ha'];simp [yO,bM,bE,dM,hsz,V6,V8,d0,d1,d2,d3,d4,d5,d6,d7,d8,d9,d10,d11,d12,d13]
  have hsz':a'.tmps.size=57:=by rw [ha'];simp [yO,dM,hsz,d0,d1,d2,d3,d4,d5,d6,d7,d8,d9,d10,d11,d12,d13]
  obtain ⟨inf,hi,hz,hz1,hz2⟩:=info_parts info44z;have hvl:(vsL x).length=6:=by simp [vsL,hx6]
  have hbld:∀ U:World,(Instr.buildSlice 24 1 #[(0,.agg (vsL x).toArray)]).run Tp U = .ok (.slice (some ⟨U.heap.size,0,none⟩) 1 1) (U.alloc (.cells (vsL x).toArray 44)):=fun U =>
   aAy (P:=Tp) 24 44 inf 1 #[(0,.agg (vsL x).toArray)] (vsL x).toArray zD6 Tryz.underlying24 hi hz (by rw [hz1];decide) (by rw [hz1];exact fill6 hx6)
  have hW1':({ W with drawn:=W.drawn+1 }:World)=W1:=hW1.symm
  rw [hW1'] at hS1 ⊢
  refine ⟨_,_,v2,w2,setBlock w2 mb (.map es' cl'),aYd q14 e53 (hbld _),?_,aYe q15 (by rw [d14,bM rfl];exact e52) (by rw [d14,bE (by omega)]) hrun,hw2,aYf q16 (by rw [d14,d15,bM rfl,bM rfl];exact e43) (by rw [d14,d15,bM rfl,bM rfl];exact e45) (by rw [d14,d15,bE (by rw [dM];omega)]) hup,?_⟩
  ·obtain ⟨n1,n2,n3⟩:=jC W1 (.cells (vsL x).toArray 44)
   rw [hSdef] at hS1 ⊢
   have hlt:∀ b o,W.heap[b]? = some o→b<W1.heap.size:=fun b o h=>by rw [hh1];exact bY h
   exact ⟨(n3 b6 (hlt _ _ h6)).trans hS1.1,(n3 bd (hlt _ _ hd)).trans hS1.2.1,(n3 b8 (hlt _ _ h8)).trans hS1.2.2.1,(n3 mb (hlt _ _ hmb)).trans hS1.2.2.2⟩
  ·refine ⟨rfl,es',cl',e,⟨hM',hek,hel,hborn,fun p hp => ?_,?_,?_,?_,?_,fun b hb hno => ?_⟩⟩
   ·refine ⟨hsim.has p (oS _ hp),?_⟩
    rcases hold p hp with h | h
    ·exact .inl h
    ·right;rw [hh1] at h;exact h
   ·unfold setBlock;simp only [Array.size_setIfInBounds];rw [hh1] at hsize;exact hsize
   ·obtain ⟨C,_,_,hF,_⟩:=hsim
    exact hF.os.trans (by rw [hW1])
   ·obtain ⟨C,_,_,hF,_⟩:=hsim
    exact hF.tape.trans (by rw [hW1])
   ·obtain ⟨C,_,_,hF,_⟩:=hsim
    exact hF.out.trans (by rw [hW1])
   ·have hbm:b≠mb:=fun h=>hno (mb,.map es cl) (by simp [iH]) h.symm
    have:(setBlock w2 mb (.map es' cl')).heap[b]? = w2.heap[b]? := by
     unfold setBlock;simp only [Array.getElem?_setIfInBounds];rw [if_neg (Ne.symm hbm)]
    rw [this,hkeep b (by rw [hh1];exact hb) hno,hh1]
end KV
end Go.Proofs
end
section
namespace Go.Proofs
open Go.RowKit
namespace KV
open Go.ChangeMaps (setBlock)

mutual
def ffP:PV→Bool
 | .v _=>true
 | .agg cs=>aXx cs
 | _=>false
def aXx:List PV→Bool
 | []=>true
 | x::r=>ffP x && aXx r
end
theorem aSi:∀ {l:List PV},aXx l=true→∀ (i:Nat) (h:i<l.length),ffP l[i]=true
 | [],_,i,h=>by simp at h
 | x::r,hl,i,h=>by
  rw [aXx,kQ8] at hl
  cases i with
  | zero=>exact hl.1
  | succ i=>exact aSi hl.2 i (by simpa using h)
theorem aKy{α:Type}(g:α→PV)(h:∀ x,ffP (g x)=true):∀ l:List α,aXx (l.map g)=true
 | []=>rfl
 | x::r=>by rw [gD,aXx,h,aKy g h r];rfl
theorem cQ.anyF{F F':Nat→Prop}{w w':World}{x:PV}{u:Value}(h:cQ F w x u)(hm:ffP x=true):cQ F' w' x u:=by
 induction h with
 | v x=>exact .v x
 | agg cs vs h0 h1 _ ih =>
  rw [ffP] at hm
  exact .agg cs vs h0 h1 fun i hi=>ih i hi (aSi hm i hi)
 | sl=>simp [ffP] at hm
 | mp=>simp [ffP] at hm
 | rp=>simp [ffP] at hm

def rZ(x:List Int):PV := .agg (x.map aA)
def kH(es:List (Value × PV))(x:List Int):List (Value × PV):=if dR es (.int .i64 (dN x)) then oG es (.int .i64 (dN x)) (rZ x) else es++[(.int .i64 (dN x),rZ x)]
def atF(q:Lqq):List (Value × PV):=q.foldl kH []
theorem aKz(q:Lqq)(x:List Int):atF (q++[x])=kH (atF q) x:=by unfold atF;rw [aGp];rfl
structure wW (es:List (Value × PV)):Prop where
 ky:∀ e∈es,aJp .i64 e.1=true
 nd:(es.map fun e=>iP e.1).Nodup
 nm:∀ e∈es,ffP e.2=true
theorem aBz{kv:Value}{x:PV}:∀ (es:List (Value × PV)),((oG es kv x).map fun e=>iP e.1)=es.map fun e=>iP e.1
 | []=>rfl
 | e::r=>by
  unfold oG
  split
  ·rename_i h
   rw [gD,gD,h]
  ·rw [gD,gD,aBz r]
theorem aCa{kv:Value}{x:PV}{e:Value × PV}:∀ {es:List (Value × PV)},e∈oG es kv x→e∈es∨e=(kv,x)
 | [],h=>by unfold oG at h;cases h
 | a::r,h=>by
  unfold oG at h
  split at h
  ·rcases jG.1 h with h | h
   ·exact .inr h
   ·exact .inl (kQ7 _ h)
  ·rcases jG.1 h with h | h
   ·exact .inl (h ▸ jW ..)
   ·rcases aCa h with h | h
    ·exact .inl (kQ7 _ h)
    ·exact .inr h
theorem aSj(x:List Int):ffP (rZ x)=true:=by unfold rZ;rw [ffP];exact aKy _ (fun _=>rfl) _
theorem wW.step{es:List (Value × PV)}(h:wW es){x:List Int}(hx : -1000000≤dN x∧dN x≤1000000):wW (kH es x):=by
 unfold kH;cases hb:dR es (.int .i64 (dN x)) with
 | true =>
  rw [if_pos rfl];refine ⟨fun e he => ?_,by rw [aBz];exact h.nd,fun e he => ?_⟩
  ·rcases aCa he with h1 | rfl
   ·exact h.ky e h1
   ·exact nD hx
  ·rcases aCa he with h1 | rfl
   ·exact h.nm e h1
   ·exact aSj x
 | false =>
  rw [if_neg (by simp)]
  refine ⟨fun e he => ?_,?_,fun e he => ?_⟩
  ·rcases jR.1 he with h1 | h1
   ·exact h.ky e h1
   ·rw [List.mem_singleton.1 h1];exact nD hx
  ·rw [iE,List.nodup_append]
   refine ⟨h.nd,by simp,fun a ha b hb' hab => ?_⟩
   simp at hb'
   subst hb';obtain ⟨e,he,rfl⟩:=dQ.1 ha;have:=(List.any_eq_false.1 (show es.any _=false from hb)) e he
   exact this (decide_eq_true hab)
  ·rcases jR.1 he with h1 | h1
   ·exact h.nm e h1
   ·rw [List.mem_singleton.1 h1];exact aSj x
theorem bEb{q:Lqq}(hq:∀ x∈q,-1000000≤dN x∧dN x≤1000000):wW (atF q):=by
 have key:∀ (q:Lqq) (es:List (Value × PV)),(∀ x∈q,-1000000≤dN x∧dN x≤1000000)→wW es→wW (q.foldl kH es):=by
  intro q
  induction q with
  | nil=>intro es _ h;exact h
  | cons x q ih=>intro es hq h;exact ih _ (fun y hy=>hq y (kQ7 _ hy)) (h.step (hq x (jW ..)))
 exact key q [] hq ⟨fun e h=>(by cases h),by simp,fun e h=>(by cases h)⟩
theorem wW.keys{es:List (Value × PV)}(h:wW es){k:Int}(hk : -1000000≤k∧k≤1000000):cI .i64 es (.int .i64 k):=⟨h.ky,nD hk,h.nd⟩
theorem bEc{kv:Value}{x:PV}(es:List (Value × PV)):(oG es kv x).length=es.length:=by
 have:=congrArg List.length (aBz (kv:=kv) (x:=x) es);simpa using this

abbrev dkB(dl:Int)(s1 s2:PV)(a b:AV):AO := .box 176 [.p (aA dl),.p s1,.p s2,a,b]
abbrev lE(dl:Int)(sk dc:Lqq):Mem:=[some (.box 130 [.ptr 1 0]),some (dkB dl (.sl sk.length (sk.flatten.map aA)) (.sl dc.length (dc.flatten.map aA)) (.mp 2) (.mp 3)),some (.mp [] 0),some (.mp [] 0)]
abbrev wX(dl:Int)(v1 v2:Value)(mb:Nat)(es:List (Value × PV)):Mem:=[some (.box 130 [.ptr 1 0]),some (dkB dl (.v v1) (.v v2) (.mp 2) (.p (.v (.map (some mb))))),some (.mp es es.length),some .dead]
abbrev gX(dl:Int)(v1 v2:Value)(mb:Nat)(es:List (Value × PV))(x:List Int):Mem:=[some (.box 130 [.ptr 1 0]),some (dkB dl (.v v1) (.v v2) (.mp 2) (.p (.v (.map (some mb))))),some (.mp es es.length),some .dead,some (.box 44 ((x.map aA).map .p))]
theorem at4{α:Type}{a b c d x:α}{i:Nat}(h:[a,b,c,d][i]? = some x):(i=0∧x=a)∨(i=1∧x=b)∨(i=2∧x=c)∨(i=3∧x=d):=by
 match i with
 | 0=>simp at h;exact .inl ⟨rfl,h.symm⟩
 | 1=>simp at h;exact .inr (.inl ⟨rfl,h.symm⟩)
 | 2=>simp at h;exact .inr (.inr (.inl ⟨rfl,h.symm⟩))
 | 3=>simp at h;exact .inr (.inr (.inr ⟨rfl,h.symm⟩))
 | i+4=>simp at h
theorem at5'{α:Type}{a b c d e x:α}{i:Nat}(h:[a,b,c,d,e][i]? = some x):(i=0∧x=a)∨(i=1∧x=b)∨(i=2∧x=c)∨(i=3∧x=d)∨(i=4∧x=e):=by
 match i with
 | 0=>simp at h;exact .inl ⟨rfl,h.symm⟩
 | 1=>simp at h;exact .inr (.inl ⟨rfl,h.symm⟩)
 | 2=>simp at h;exact .inr (.inr (.inl ⟨rfl,h.symm⟩))
 | 3=>simp at h;exact .inr (.inr (.inr (.inl ⟨rfl,h.symm⟩)))
 | 4=>simp at h;exact .inr (.inr (.inr (.inr ⟨rfl,h.symm⟩)))
 | i+5=>simp at h
section
variable {dl:Int} {sk dc:Lqq} {v1 v2:Value} {mb:Nat} {es:List (Value × PV)} {x:List Int} {C C' C3:Cx} {w W W3 W4:World}

theorem rR{i:Nat}{o:AO}(h:(wX dl v1 v2 mb es)[i]? = some (some o))(hl:o.live=true):i=0∨i=1∨i=2:=by
 rcases at4 h with ⟨rfl,_⟩ | ⟨rfl,_⟩ | ⟨rfl,_⟩ | ⟨rfl,e⟩
 ·exact .inl rfl
 ·exact .inr (.inl rfl)
 ·exact .inr (.inr rfl)
 ·cases e;cases hl
theorem eV(i:Nat)(h:i<4):∃ o,(lE dl sk dc)[i]? = some (some o)∧o.live=true:=by
 match i,h with
 | 0,_=>exact ⟨_,rfl,rfl⟩
 | 1,_=>exact ⟨_,rfl,rfl⟩
 | 2,_=>exact ⟨_,rfl,rfl⟩
 | 3,_=>exact ⟨_,rfl,rfl⟩
theorem bEd:aHk (lE dl sk dc) (wX dl v1 v2 mb es):=⟨fun i es cl h=>(by
 rcases at4 h with ⟨rfl,e⟩ | ⟨rfl,e⟩ | ⟨rfl,e⟩ | ⟨rfl,e⟩
 ·cases e
 ·cases e
 ·exact ⟨_,rfl,rfl⟩
 ·cases e),fun i o h=>by
 rcases at4 h with ⟨rfl,e⟩ | ⟨rfl,e⟩ | ⟨rfl,e⟩ | ⟨rfl,e⟩ <;> cases e <;> rfl⟩

structure aLa (dl:Int) (sk dc:Lqq) (v1 v2:Value) (C:Cx) (w:World) (mb:Nat) (q:Lqq) (W:World) (C':Cx) (es:Array MapEntry) (cl:Nat) (L:List Ent):Prop where
 inv:aDh Tp C (lE dl sk dc) w C' (wX dl v1 v2 mb (atF q)) W
 ok:lF mb es L
 ls:L.map (fun e=>(e.k,e.l))=q.foldl iV []
 born:∀ y∈es.toList,y.born<cl
 has:∀ p∈iH mb es cl L,W.heap[p.1]? = some p.2∧¬ C'.F p.1∧(p.1=mb∨w.heap.size≤p.1)

theorem aLa.own{q:Lqq}{W':World}{ea:Array MapEntry}{cl:Nat}{L:List Ent}{row:Option Nat}(hM0:aR Tp C (lE dl sk dc) w)(hmb:C.ι 3=some mb)(h:aLa dl sk dc v1 v2 C w mb q W C' ea cl L)(hg:W.grownBy W' row)
  (hr:∀ r,row=some r→w.heap.size≤r∧∃ o:Obj,W.heap[r]? = some o∧o.isCells=false):aLa dl sk dc v1 v2 C w mb q W' C' ea cl L:=by
 refine ⟨aDh.own bEd hM0 h.inv hg hr,h.ok,h.ls,h.born,fun p hp => ?_⟩
 obtain ⟨h1,h2,h3⟩:=h.has p hp;refine ⟨(hg.block p.1 (bY h1) fun e => ?_).trans h1,h2,h3⟩
 obtain ⟨q1,o,q2,q3⟩:=hr _ e.symm
 rcases dA.1 hp with rfl | ⟨y,_,rfl⟩
 ·have:=hM0.lt 3 _ mb rfl rfl hmb
  dsimp only at q1
  omega
 ·rw [q2] at h1
  cases h1;cases q3

theorem aSk{b:Nat}{X:Nat→Prop}{es':List (Value × PV)}(hM0:aR Tp C (lE dl sk dc) w)(hmb:C.ι 3=some mb)(hI:aDh Tp C (lE dl sk dc) w C' (wX dl v1 v2 mb es) W)(hb:w.heap.size≤b)(hbs:lC W b)(hes:wW es')
  (hM3:aR Tp C3 (gX dl v1 v2 mb es' x) W3) (f:Fr ((C'.grow 4 b 1).with []) (gX dl v1 v2 mb es x) W C3 (gX dl v1 v2 mb es' x) W3)
  (hsz:W3.heap.size≤W4.heap.size) (ho:W4.os=W3.os) (ht:W4.tape=W3.tape) (hu:W4.output=W3.output)
  (hX:∀ c,X c→¬ C.F c∧(c=mb∨w.heap.size≤c)∧c<W.heap.size∧c≠b∧(lC W c∨c<w.heap.size)) (hk:∀ c,c<W3.heap.size→¬ X c→W4.heap[c]? = W3.heap[c]?) :
  ∃ C4,aDh Tp C (lE dl sk dc) w C4 (wX dl v1 v2 mb es') W4∧KeepsFrom w.heap.size W W4∧KpG C.F W W4:=by
 obtain ⟨hFI,hM,fI⟩:=hI;have gι:∀ i,i<4→(C'.grow 4 b 1).ι i=C'.ι i:=fun i hi=>by
  have:i≠4:=by omega
  simp [Cx.grow,this]
 have ιC:∀ i,i<4→C'.ι i=C.ι i:=fun i hi=>by
  obtain ⟨o,h1,_⟩:=eV (dl:=dl) (sk:=sk) (dc:=dc) i hi;exact (fI.ids i o h1).2.1
 have κC:∀ i,i<4→C'.κ i=C.κ i:=fun i hi=>by
  obtain ⟨o,h1,_⟩:=eV (dl:=dl) (sk:=sk) (dc:=dc) i hi;exact (fI.ids i o h1).2.2
 have ι3:∀ i,i<5→C3.ι i=(C'.grow 4 b 1).ι i∧C3.κ i=(C'.grow 4 b 1).κ i:=fun i hi=>by
  have:∃ o,(gX dl v1 v2 mb es x)[i]? = some (some o):=by
   match i,hi with
   | 0,_=>exact ⟨_,rfl⟩
   | 1,_=>exact ⟨_,rfl⟩
   | 2,_=>exact ⟨_,rfl⟩
   | 3,_=>exact ⟨_,rfl⟩
   | 4,_=>exact ⟨_,rfl⟩
  obtain ⟨o,h⟩:=this;exact ⟨(f.ids i o h).2.1,(f.ids i o h).2.2⟩
 have ι4:(C'.grow 4 b 1).ι 4=some b:=by simp [Cx.grow]
 have live5:∀ (i:Nat) (o:AO) (c:Nat) (es0:List (Value × PV)),(gX dl v1 v2 mb es0 x)[i]? = some (some o)→o.live=true→(C'.grow 4 b 1).ι i=some c→(∃ i,i<3∧C.ι i=some c)∨c=b:=fun i o c es0 h hl he=>by
  rcases at5' h with ⟨rfl,_⟩ | ⟨rfl,_⟩ | ⟨rfl,_⟩ | ⟨rfl,e⟩ | ⟨rfl,_⟩
  ·rw [gι 0 (by omega),ιC 0 (by omega)] at he;exact .inl ⟨0,by omega,he⟩
  ·rw [gι 1 (by omega),ιC 1 (by omega)] at he;exact .inl ⟨1,by omega,he⟩
  ·rw [gι 2 (by omega),ιC 2 (by omega)] at he;exact .inl ⟨2,by omega,he⟩
  ·cases e;cases hl
  ·rw [ι4] at he;exact .inr (Option.some.inj he).symm
 have lt3:∀ i c,i<3→C.ι i=some c→c<w.heap.size∧c≠mb:=fun i c hi hc=>by
  obtain ⟨o,h1,h2⟩:=eV (dl:=dl) (sk:=sk) (dc:=dc) i (by omega)
  refine ⟨hM0.lt i o c h1 h2 hc,fun e => ?_⟩
  subst e;have:=hM0.inj i 3 o _ c h1 h2 rfl rfl hc hmb;omega
 have Xn3:∀ c,X c→∀ i,i<3→C.ι i≠some c:=fun c hc i hi he=>by
  obtain ⟨h1,h2⟩:=lt3 i c hi he
  rcases (hX c hc).2.1 with h3 | h3
  ·exact h2 h3
  ·omega
 have far:∀ c,c<W.heap.size→c≠b→(∀ i,i<3→C.ι i≠some c)→¬ X c→W4.heap[c]? = W.heap[c]? := fun c hc hcb hn hx=>by
  refine (hk c (kQ9 hc f.size) hx).trans (f.keep c hc fun i o h hl he => ?_)
  rcases live5 i o c _ h hl he with ⟨j,hj,h2⟩ | h2
  ·exact hn j hj h2
  ·exact hcb h2
 have XF3:∀ c,X c→¬ C3.F c:=fun c hc hf=>by
  obtain ⟨h1,h2,h3,h4,_⟩:=hX c hc
  rcases f.F2 c hf with h | h | ⟨i,o,q1,q2,q3⟩
  ·exact h1 ((hFI c).1 h)
  ·omega
  ·rcases live5 i o c _ q1 q2 q3 with ⟨j,hj,h5⟩ | h5
   ·exact Xn3 c hc j hj h5
   ·exact h4 h5
 obtain ⟨hM4,_⟩:=aCc hM3 hsz (fun c hc=>hk c (hM3.Fs c hc) fun hx=>XF3 c hx hc) (fun i o c h hl hc=>hk c (hM3.lt i o c h hl hc) fun hx=>by
  have hi5:i<5:=(kQ2.1 h).1;rw [(ι3 i hi5).1] at hc
  rcases live5 i o c _ h hl hc with ⟨j,hj,h5⟩ | h5
  ·exact Xn3 c hx j hj h5
  ·exact (hX c hx).2.2.2.1 h5)
 have hM5:aR Tp C3 (wX dl v1 v2 mb es') W4:=bJn hM4 (fun i o h=>by
   have hi:i<4:=(kQ2.1 h).1
   match i,hi with
   | 0,_=>exact h
   | 1,_=>exact h
   | 2,_=>exact h
   | 3,_=>exact h) (fun i ty cs h y hy u hu=>by
   rcases at4 h with ⟨rfl,e⟩ | ⟨rfl,e⟩ | ⟨rfl,e⟩ | ⟨rfl,e⟩
   ·cases e
    rw [List.mem_singleton.1 hy] at hu ⊢
    exact aLc (M:=gX dl v1 v2 mb es' x) rfl hu
   ·cases e
    simp only [jG,List.not_mem_nil,or_false] at hy
    rcases hy with rfl | rfl | rfl | rfl | rfl
    ·exact rS hu
    ·exact rS hu
    ·exact rS hu
    ·exact aPi (M:=gX dl v1 v2 mb es' x) rfl hu
    ·exact rS hu
   ·cases e
   ·cases e)
 have lt4:∀ i (c:Nat),i<4→C3.ι i=some c→C.ι i=some c:=fun i c hi hc=>by rw [(ι3 i (by omega)).1,gι i hi,ιC i hi] at hc;exact hc
 have hM6:aR Tp ⟨C3.ι,C3.κ,C.F,[]⟩ (wX dl v1 v2 mb es') W4:=by
  refine ⟨fun i ty n cs h => ?_,fun i ty cs h => ?_,fun i es0 cl h => ?_,hM5.inj,fun i o c h hl hc => ?_,fun c hc=>kQ9 (hM0.Fs c hc) (gQ fI.size (gQ f.size hsz)),hM5.lt⟩
  ·rcases at4 h with ⟨rfl,e⟩ | ⟨rfl,e⟩ | ⟨rfl,e⟩ | ⟨rfl,e⟩ <;> cases e
  ·obtain ⟨b',arr,q0,q1,q2,q3,q4⟩:=hM5.box _ _ _ h
   refine ⟨b',arr,q0,q1,q2,fun j hj => ?_,q4⟩
   have hq:=q3 j hj;have hp:∀ (y:PV) (u:Value),ffP y=true→Rep C3 (wX dl v1 v2 mb es') W4 (.p y) u→Rep ⟨C3.ι,C3.κ,C.F,[]⟩ (wX dl v1 v2 mb es') W4 (.p y) u:=fun y u hy hu=>by
    cases hu with
    | p _ _ h=>exact .p _ _ (h.anyF hy)
   rcases at4 h with ⟨rfl,e⟩ | ⟨rfl,e⟩ | ⟨rfl,e⟩ | ⟨rfl,e⟩
   ·cases e
    have:j=0:=by simp at hj;exact hj
    subst this;simp only [List.getElem_cons_zero] at hq ⊢
    cases hq with
    | ptr _ _ _ h0 ha h hp=>exact .ptr _ _ _ h0 ha h hp
   ·cases e
    match j,hj with
    | 0,_=>exact hp _ _ rfl hq
    | 1,_=>exact hp _ _ rfl hq
    | 2,_=>exact hp _ _ rfl hq
    | 3,_ =>
     simp only [List.getElem_cons_succ,List.getElem_cons_zero] at hq ⊢
     cases hq with
     | mp _ _ h0 ha h=>exact .mp _ _ h0 ha h
    | 4,_=>exact hp _ _ rfl hq
   ·cases e
   ·cases e
  ·obtain ⟨b',arr,q0,q1,q2,q3⟩:=hM5.mp _ _ _ h
   refine ⟨b',arr,q0,q1,q2,fun j hj => ?_⟩
   obtain ⟨en,r1,r2,r3,r4⟩:=q3 j hj;have hff:ffP es0[j].2=true:=by
    rcases at4 h with ⟨rfl,e⟩ | ⟨rfl,e⟩ | ⟨rfl,e⟩ | ⟨rfl,e⟩
    ·cases e
    ·cases e
    ·cases e;exact hes.nm _ (gO hj)
    ·cases e
   exact ⟨en,r1,r2,r3,r4.anyF hff⟩
  ·have hi:=rR h hl
   obtain ⟨o2,h1,h2⟩:=eV (dl:=dl) (sk:=sk) (dc:=dc) i (by omega)
   exact hM0.nF i o2 c h1 h2 (lt4 i c (by omega) hc)
 refine ⟨⟨C3.ι,C3.κ,C.F,[]⟩,⟨fun c=>Iff.rfl,hM6,⟨ho.trans (f.os.trans fI.os),ht.trans (f.tape.trans fI.tape),hu.trans (f.out.trans fI.out),gQ fI.size (gQ f.size hsz),fun c hc hno => ?_,fun i o h => ?_,fun i o h ty n cs hm => ?_,fun i o h o' hm hl => ?_,fun i o c hm hl hc => ?_,fun c hc=>hc,fun c hc => .inl hc⟩⟩,⟨gQ f.size hsz,fun c o hc ho1 hnc => ?_⟩,⟨gQ f.size hsz,fun c hc => ?_⟩⟩
 ·have hn3:∀ i,i<3→C.ι i≠some c:=fun i hi=>by
   obtain ⟨o,h1,h2⟩:=eV (dl:=dl) (sk:=sk) (dc:=dc) i (by omega)
   exact hno i o h1 h2
  have hcm:c≠mb:=fun e=>hno 3 _ rfl rfl (e ▸ hmb)
  refine (far c (kQ9 hc fI.size) (by omega) hn3 fun hx => ?_).trans (fI.keep c hc hno)
  rcases (hX c hx).2.1 with h | h
  ·exact hcm h
  ·omega
 ·have hi:i<4:=(kQ2.1 h).1
  refine ⟨?_,by show C3.ι i=C.ι i;rw [(ι3 i (by omega)).1,gι i hi,ιC i hi],by
   show C3.κ i=C.κ i;rw [(ι3 i (by omega)).2,← κC i hi]
   have:i≠4:=by omega
   simp [Cx.grow,this]⟩
  match i,hi with
  | 0,_=>exact ⟨_,rfl⟩
  | 1,_=>exact ⟨_,rfl⟩
  | 2,_=>exact ⟨_,rfl⟩
  | 3,_=>exact ⟨_,rfl⟩
 ·rcases at4 hm with ⟨rfl,e⟩ | ⟨rfl,e⟩ | ⟨rfl,e⟩ | ⟨rfl,e⟩ <;> cases e
 ·have hi:i<4:=(kQ2.1 h).1
  obtain ⟨o2,h1,h2⟩:=eV (dl:=dl) (sk:=sk) (dc:=dc) i hi;rw [h] at h1;cases h1;exact h2
 ·have hi:=rR hm hl
  have hi4:i<4:=by omega
  obtain ⟨o2,h1,h2⟩:=eV (dl:=dl) (sk:=sk) (dc:=dc) i hi4;exact .inr ⟨i,o2,h1,h2,by rw [← ιC i hi4,← gι i hi4,← (ι3 i (by omega)).1];exact hc⟩
 ·refine (far c (bY ho1) (fun e => ?_) (fun i hi he => ?_) fun hx => ?_).trans ho1
  ·subst e
   obtain ⟨o2,e1,e2⟩:=hbs;rw [ho1] at e1;cases e1;rw [hnc] at e2;cases e2
  ·have:=(lt3 i c hi he).1
   omega
  ·rcases (hX c hx).2.2.2.2 with ⟨o2,h1,h2⟩ | h
   ·rw [ho1] at h1;cases h1;rw [hnc] at h2;cases h2
   ·omega
 ·refine far c (kQ9 (hM0.Fs c hc) fI.size) (fun e => ?_) (fun i hi he => ?_) fun hx=>(hX c hx).1 hc
  ·have:=hM0.Fs c hc;omega
  ·obtain ⟨o,h1,h2⟩:=eV (dl:=dl) (sk:=sk) (dc:=dc) i (by omega)
   exact hM0.nF i o c h1 h2 he hc
end
end KV
end Go.Proofs
end
section
namespace Go.Proofs
open Go.RowKit
namespace KV
open Go.ChangeMaps (setBlock)

def rY(e:Ent):Int × Lqq:=(e.k,e.l)
theorem bQm(L:List Ent)(e:Ent):(nZ L e).map rY=aDg (L.map rY) e.k e.l:=by
 by_cases h:∃ y∈L,y.k=e.k
 ·obtain ⟨y,hy,he⟩:=h
  rw [qY hy he];unfold aDg;rw [if_pos (List.any_eq_true.2 ⟨rY y,dQ.2 ⟨y,hy,rfl⟩,by simpa [rY] using he⟩),lK,lK]
  refine tF fun z _ => ?_
  by_cases hk:z.k=e.k
  ·simp [rY,hk]
  ·simp [rY,hk]
 ·have h':∀ y∈L,y.k≠e.k:=fun y hy he=>h ⟨y,hy,he⟩
  rw [vI h'];unfold aDg;rw [if_neg (fun ha=>by
   obtain ⟨z,hz,he⟩:=List.any_eq_true.1 ha;obtain ⟨y,hy,rfl⟩:=dQ.1 hz;exact h' y hy (by simpa [rY] using he))]
  simp [rY]
theorem bJg(L:List Ent)(k:Int):nY L k=yL (L.map rY) k:=by
 unfold nY qX yL
 induction L with
 | nil=>rfl
 | cons y r ih =>
  rw [gD,List.find?_cons,List.find?_cons]
  by_cases hk:y.k=k
  ·simp [rY,hk]
  ·have h1:(y.k == k)=false:=by simpa using hk
   have h2:((rY y).1 == k)=false:=h1;rw [h1,h2];exact ih

structure bDz (x:List Int):Prop where
 len:x.length=6
 n:1≤dN x∧dN x≤9999
 ab:0≤dAb x∧dAb x≤9998
theorem bQn{q:Lqq}(hq:∀ y∈q,bDz y):∀ e∈q.foldl iV [],e.2.length≤q.length:=fun e he=>by
 have:=wV q [] [] ⟨by simp,fun e h=>(by cases h),fun x h=>(by cases h)⟩ (fun x hx=>(hq x hx).ab.1)
 rw [List.nil_append] at this
 rw [(this.mem e he).2.2];exact yY _ _

theorem ask78{dl:Int}{v1 v2:Value}{mb:Nat}{es:List (Value × PV)}{x:List Int}(hx:bDz x)(hes:wW es):gN Tp 5 (sub (cd Tryz.f82) [1,1,1,1,0,1,0,1,0,0]) ⟨fr 57 [(6,(.ptr 0 0)),(8,(.ptr 4 0))],gX dl v1 v2 mb es x⟩ .normal ⟨fr 57 [(6,(.ptr 0 0)),(8,(.ptr 4 0))],gX dl v1 v2 mb (kH es x) x⟩:=by
 obtain ⟨a,b,c,d,e,f,rfl⟩:=len6 hx.len;have hk : -1000000≤dN [a,b,c,d,e,f]∧dN [a,b,c,d,e,f]≤1000000:=by have:=hx.n;omega
 have hK:=hes.keys hk;unfold kH;cases hb:dR es (.int .i64 (dN [a,b,c,d,e,f])) with
 | true =>
  rw [if_pos rfl];exact (bJj hK hb).cast (by unfold gX;rw [bEc];rfl)
 | false =>
  rw [if_neg (by simp)]
  exact (bJk hK hb).cast (by unfold gX;rw [mG];rfl)
theorem ask8'{dl:Int}{v1 v2:Value}{mb:Nat}{es:List (Value × PV)}{x:List Int}(hx:x.length=6):gN Tp 5 (sub (cd Tryz.f82) [1,1,1,1,0,1,0,1,0,1,0]) ⟨fr 57 [(6,(.ptr 0 0)),(8,(.ptr 4 0))],gX dl v1 v2 mb es x⟩ .normal ⟨fr 57 [(6,(.ptr 0 0)),(8,(.ptr 4 0)),(39,(.p (blP (decide (dAb x > (0:Int))))))],gX dl v1 v2 mb es x⟩:=by
 obtain ⟨a,b,c,d,e,f,rfl⟩:=len6 hx;exact bJl
theorem aXw:sub (cd Tryz.f82) [1,1,1,1,0,1,0,1] = .block 1 (.seq (sub (cd Tryz.f82) [1,1,1,1,0,1,0,1,0,0]) (.seq (sub (cd Tryz.f82) [1,1,1,1,0,1,0,1,0,1,0]) (.cond (.tmp 39) (sub (cd Tryz.f82) [1,1,1,1,0,1,0,1,0,1,1,0]) .skip))):=by kernel_rfl

section
variable {dl:Int} {sk dc:Lqq} {v1 v2:Value} {mb:Nat} {C C':Cx} {w W:World}
set_option maxHeartbeats 1000000 in
theorem bEa{l n b:Nat}{q:Lqq}{x:List Int}{ea:Array MapEntry}{cl:Nat}{L:List Ent}{a:Act}(hx:bDz x)(hq:∀ y∈q,bDz y)(hql:q.length≤1000)(hM0:aR Tp C (lE dl sk dc) w)(hmb:C.ι 3=some mb)(hI:aLa dl sk dc v1 v2 C w mb q W C' ea cl L)
  (hsz:a.tmps.size=57) (hdf:a.defers=[]) (h6:Rep C (lE dl sk dc) w (.ptr 0 0) (a.tmps.getD 6 undef)) (h8:a.tmps.getD 8 undef = .pointer (some ⟨b,0,none⟩)) (hbw:w.heap.size≤b) (hbx:W.heap[b]? = some (.cells (vsL x).toArray 44 (0,0)))
  (hbn:∀ es cl,W.heap[mb]? = some (.map es cl)→∀ y∈es.toList,y.val.ownBlock≠some b) :
  (sub (cd Tryz.f82) [1,1,1,1,0,1,0,1]).wpIn (Fen (some l)) n Tp (fun e _ W4=>e = .normal∧KeepsFrom w.heap.size W W4∧KpG C.F W W4∧∃ C4 ea' cl' L',aLa dl sk dc v1 v2 C w mb (q++[x]) W4 C4 ea' cl' L') a W:=by
 obtain ⟨inv,hok,hls,hborn,hhas⟩:=hI;obtain ⟨hFI,hM,fI⟩:=inv;have hAt:wW (atF q):=bEb fun y hy=>by have:=(hq y hy).n;omega
 have hmbh:=(hhas (mb,.map ea cl) (by simp [iH])).1
 have hmblt:mb<w.heap.size:=hM0.lt 3 _ mb rfl rfl hmb;have ιC:∀ i,i<4→C'.ι i=C.ι i:=fun i hi=>by
  obtain ⟨o,h1,_⟩:=eV (dl:=dl) (sk:=sk) (dc:=dc) i hi;exact (fI.ids i o h1).2.1
 have lt3:∀ i c,i<3→C.ι i=some c→c<w.heap.size∧c≠mb:=fun i c hi hc=>by
  obtain ⟨o,h1,h2⟩:=eV (dl:=dl) (sk:=sk) (dc:=dc) i (by omega)
  refine ⟨hM0.lt i o c h1 h2 hc,fun e => ?_⟩
  subst e;have:=hM0.inj i 3 o _ c h1 h2 rfl rfl hc hmb;omega
 have hbF:¬ C'.F b:=fun h=>by have:=hM0.Fs b ((hFI b).1 h);omega
 obtain ⟨hM5,hL5⟩:=aLd (b:=b) (ty:=44) (k:=4) (cs:=x.map aA) (arr:=(vsL x).toArray) hM (fun o h=>by have:=(kQ2.1 h).1;simp at this) hbx hbF (fun i o h hl he=>by
   have hi:=rR h hl;rw [ιC i (by omega)] at he
   have:=(lt3 i b (by omega) he).1
   omega) (by simp [vsL]) (fun j hj=>by
   have hj':j<x.length:=by simpa using hj
   rw [lX];have:(vsL x).toArray.getD j undef = .int .i64 x[j]:=by simp [vsL,kQ1,hj']
   rw [this];exact .v _) (fun j hj=>by
   have hj':j<x.length:=by simpa using hj
   have:(vsL x).toArray.getD j undef = .int .i64 x[j]:=by simp [vsL,kQ1,hj']
   rw [this];rfl)
 have hset:aX (wX dl v1 v2 mb (atF q)) 4 (some (.box 44 ((x.map aA).map .p)))=gX dl v1 v2 mb (atF q) x:=rfl;rw [hset] at hM5 hL5
 have h6':Rep (C'.grow 4 b 1) (gX dl v1 v2 mb (atF q) x) W (.ptr 0 0) (a.tmps.getD 6 undef):=(h6.mono (hM0.le fI)).mono hL5;have hSl:eI (C'.grow 4 b 1) (gX dl v1 v2 mb (atF q) x) W (fr 57 [(6,(.ptr 0 0)),(8,(.ptr 4 0))]) a.tmps:=by
  have s0:eI (C'.grow 4 b 1) (gX dl v1 v2 mb (atF q) x) W (List.replicate 57 .any) a.tmps:=⟨by simpa using hsz,fun j hj=>by rw [List.getElem_replicate];exact .any _⟩
  have set1:∀ (t:List AV) (i:Nat) (y:AV),eI (C'.grow 4 b 1) (gX dl v1 v2 mb (atF q) x) W t a.tmps→Rep (C'.grow 4 b 1) (gX dl v1 v2 mb (atF q) x) W y (a.tmps.getD i undef)→eI (C'.grow 4 b 1) (gX dl v1 v2 mb (atF q) x) W (t.set i y) a.tmps:=fun t i y ht hy=>by
   refine ⟨by simpa using ht.size,fun j hj => ?_⟩
   rw [wM]
   split
   ·rename_i e;subst e;exact hy
   ·exact ht.rep j (by simpa using hj)
  have h8':Rep (C'.grow 4 b 1) (gX dl v1 v2 mb (atF q) x) W (.ptr 4 0) (a.tmps.getD 8 undef):=by
   rw [h8];exact .ptr 4 0 _ rfl ⟨_,rfl⟩ (fun o ho hl=>⟨b,rfl,by simp [Cx.grow]⟩) ⟨b,rfl⟩
  exact set1 _ 8 _ (set1 _ 6 _ s0 h6') h8'
 have hs:Sim Tp ((C'.grow 4 b 1).with []) (gX dl v1 v2 mb (atF q) x) W ⟨fr 57 [(6,(.ptr 0 0)),(8,(.ptr 4 0))],gX dl v1 v2 mb (atF q) x⟩ a W :=
  ⟨C'.grow 4 b 1,hSl,hM5,(Fr.refl _ _ _).based [],by rw [hdf];exact .nil rfl (fun i o h=>by rcases at5' h with ⟨rfl,e⟩ | ⟨rfl,e⟩ | ⟨rfl,e⟩ | ⟨rfl,e⟩ | ⟨rfl,e⟩ <;> cases e <;> rfl)⟩
 rw [aXw];refine wpIn_block (wpIn_seq (wpIn_mono (ask78 (dl:=dl) (v1:=v1) (v2:=v2) (mb:=mb) hx hAt _ _ _ _ _ (by simp) hs (some l) n) ?_))
 rintro e a7 W7 ⟨rfl,hs7⟩;refine wpIn_seq (wpIn_mono (ask8' (dl:=dl) (v1:=v1) (v2:=v2) (mb:=mb) hx.len _ _ _ _ _ (by simp) hs7 (some l) n) ?_)
 rintro e a8 W3 ⟨rfl,hs8⟩;have v39:a8.eval (.tmp 39) = .bool (decide (dAb x > 0)):=hs8.slot rfl;have hsz8:a8.tmps.size=57:=hs8.size;obtain ⟨C3,hS3,hM3,f3,_⟩:=hs8;have hblkL:∀ p∈iH mb ea cl L,p.1≠b∧p.1<W.heap.size∧(∀ i,i<3→C.ι i≠some p.1):=fun p hp=>by
  obtain ⟨q1,q2,q3⟩:=hhas p hp;refine ⟨?_,bY q1,fun i hi he => ?_⟩
  ·rcases dA.1 hp with rfl | ⟨y,hy,rfl⟩
   ·intro e;simp only at e;omega
   ·intro e
    obtain ⟨z,hz,_,z2⟩:=hok.e2 y hy;exact hbn ea cl hmbh z hz (by rw [z2,← e];rfl)
  ·obtain ⟨h1,h2⟩:=lt3 i _ hi he
   rcases q3 with h | h
   ·exact h2 h
   ·omega
 have gι:∀ i,i<4→(C'.grow 4 b 1).ι i=C'.ι i:=fun i hi=>by
  have:i≠4:=by omega
  simp [Cx.grow,this]
 have hR3:∀ p∈iH mb ea cl L,W3.heap[p.1]? = some p.2:=fun p hp=>by
  obtain ⟨h1,h2,h3⟩:=hblkL p hp;refine (f3.keep p.1 h2 fun i o h hl he => ?_).trans (hhas p hp).1
  change (C'.grow 4 b 1).ι i=some p.1 at he
  rcases at5' h with ⟨rfl,_⟩ | ⟨rfl,_⟩ | ⟨rfl,_⟩ | ⟨rfl,e⟩ | ⟨rfl,_⟩
  ·rw [gι 0 (by omega),ιC 0 (by omega)] at he;exact h3 0 (by omega) he
  ·rw [gι 1 (by omega),ιC 1 (by omega)] at he;exact h3 1 (by omega) he
  ·rw [gι 2 (by omega),ιC 2 (by omega)] at he;exact h3 2 (by omega) he
  ·cases e;cases hl
  ·simp [Cx.grow] at he;exact h1 he.symm
 have hAt':wW (kH (atF q) x):=hAt.step (by have:=hx.n;omega)
 have hSol:lC W b:=fH hbx;refine wpIn_cond_split v39 (fun ht => ?_) fun hf => ?_
 ·-- it is about another one
  have hpos:0<dAb x:=of_decide_eq_true ht;obtain ⟨b6,a6,r0,r1,r2,r3,_⟩:=hM3.box 0 _ _ rfl;have r3:=r3 0 (by simp)
  simp only [List.getElem_cons_zero] at r3
  have u6:∃ bd,a6.getD 0 undef = .pointer (some ⟨bd,0,none⟩)∧C3.ι 1=some bd:=by
   generalize a6.getD 0 undef=u at r3
   cases r3 with
   | ptr _ _ _ h0 ha h hp=>exact h _ rfl rfl
  obtain ⟨bd,ud,ιd⟩:=u6;obtain ⟨bd',ad,s0,s1,s2,s3,_⟩:=hM3.box 1 _ _ rfl;rw [ιd] at s0;cases s0
  have s3:=s3 4 (by simp)
  simp only [List.getElem_cons_succ,List.getElem_cons_zero] at s3
  have udm:ad.getD 4 undef = .map (some mb):=by
   generalize ad.getD 4 undef=u at s3
   cases s3 with
   | p _ _ h=>cases h;rfl
  obtain ⟨b8,a8',t0,t1,t2,t3,_⟩:=hM3.box 4 _ _ rfl;have ι4:C3.ι 4=some b:=by rw [(f3.ids 4 _ rfl).2.1];simp [Cx.with,Cx.grow]
  rw [ι4] at t0;cases t0
  have ha8:a8'=(vsL x).toArray:=by
   apply Array.ext
   ·rw [t2];simp [vsL]
   ·intro j h1 h2
    have hj:j<x.length:=by rw [t2] at h1;simpa using h1
    have:=t3 j (by simpa using hj)
    rw [lX,lX] at this
    have hu:a8'.getD j undef = .int .i64 x[j]:=by
     generalize a8'.getD j undef=u at this
     cases this with
     | p _ _ h=>cases h;rfl
    simp only [kQ1,pU h1,Option.getD_some] at hu
    rw [hu];simp [vsL]
  subst ha8;have w6:a8.tmps.getD 6 undef = .pointer (some ⟨b6,0,none⟩):=by
   have:=hS3.at (i:=6) (x := .ptr 0 0) rfl
   generalize a8.tmps.getD 6 undef=u at this
   cases this with
   | ptr _ _ _ h0 ha h hp =>
    obtain ⟨b',h1,h2⟩:=h _ rfl rfl;rw [r0] at h2;cases h2
    exact h1
  have w8:a8.tmps.getD 8 undef = .pointer (some ⟨b,0,none⟩):=by
   have:=hS3.at (i:=8) (x := .ptr 4 0) rfl
   generalize a8.tmps.getD 8 undef=u at this
   cases this with
   | ptr _ _ _ h0 ha h hp =>
    obtain ⟨b',h1,h2⟩:=h _ rfl rfl;rw [ι4] at h2;cases h2
    exact h1
  have hLl:∀ e∈L,e.l.length≤1000:=fun e he=>by
   have:rY e∈q.foldl iV []:=by rw [← hls];exact dQ.2 ⟨e,he,rfl⟩
   have:=bQn hq _ this;simp only [rY] at this
   omega
  have ι0:C.ι 0=some b6:=by
   have:=(f3.ids 0 _ rfl).2.1;rw [r0] at this
   rw [← ιC 0 (by omega),← gι 0 (by omega)]
   exact this.symm
  have ι1:C.ι 1=some bd:=by
   have:=(f3.ids 1 _ rfl).2.1;rw [ιd] at this
   rw [← ιC 1 (by omega),← gι 1 (by omega)]
   exact this.symm
  refine wpIn_mono (ask9 (F:=Fen (some l)) (n:=n) (fun _=>trivial) hx.len hsz8 w6 w8 r1 ⟨by rw [r2];simp,ud⟩ s1 ⟨by rw [s2];simp,udm⟩ t1 hok hR3 hLl (fun p hp => ?_) ?_) ?_
  ·obtain ⟨h1,_,h3⟩:=hblkL p hp
   exact ⟨fun e=>h3 0 (by omega) (e ▸ ι0),fun e=>h3 1 (by omega) (e ▸ ι1),h1⟩
  ·have:aJp .i64 (.int .i64 (dAb x))=true:=nD (by have:=hx.ab;omega)
   simp only [aJp,kQ8] at this
   exact this.2
  ·rintro e a9 W4 ⟨rfl,ea',cl',e,A⟩
   obtain ⟨C4,hI4,hK4,hG4⟩:=aSk (x:=x) (X:=fun c=>∃ p∈iH mb ea cl L,p.1=c) (es':=kH (atF q) x) hM0 hmb ⟨hFI,hM,fI⟩ hbw hSol hAt' hM3 f3 A.size A.os A.tape A.out (fun c hc=>by
    obtain ⟨p,hp,rfl⟩:=hc;obtain ⟨h1,h2,h3⟩:=hblkL p hp;obtain ⟨g1,g2,g3⟩:=hhas p hp;refine ⟨fun h=>g2 ((hFI _).2 h),g3,h2,h1,?_⟩
    rcases dA.1 hp with rfl | ⟨y,_,rfl⟩
    ·exact .inr hmblt
    ·exact .inl (fH g1)) (fun c hc hn=>A.keep c hc fun p hp e=>hn ⟨p,hp,e⟩)
   refine ⟨rfl,hK4,hG4,C4,ea',cl',nZ L e,by rw [aKz];exact hI4,A.ok,?_,A.born hborn,fun p hp => ?_⟩
   ·show (nZ L e).map rY=_
    rw [bQm,A.ky,A.li,bJg,aGp];change aDg (L.map rY) _ _=iV (q.foldl iV []) x;have:L.map rY=q.foldl iV []:=hls;rw [this];unfold iV;rw [if_pos hpos]
   ·obtain ⟨h1,h2⟩:=A.has p hp
    refine ⟨h1,fun h => ?_,?_⟩
    ·have hF:=(hI4.1 _).1 h
     rcases h2 with ⟨p0,hp0,h3⟩ | h3
     ·rw [← h3] at hF
      exact (hhas p0 hp0).2.1 ((hFI _).2 hF)
     ·have:=hM0.Fs _ hF
      have:=fI.size;have:=f3.size;omega
    ·rcases h2 with ⟨p0,hp0,h3⟩ | h3
     ·rw [← h3];exact (hhas p0 hp0).2.2
     ·right
      have:=fI.size;have:=f3.size;omega
 ·-- it is about none
  have hpos:¬ 0<dAb x:=of_decide_eq_false hf;obtain ⟨C4,hI4,hK4,hG4⟩:=aSk (x:=x) (X:=fun _=>False) (W4:=W3) (es':=kH (atF q) x) hM0 hmb ⟨hFI,hM,fI⟩ hbw hSol hAt' hM3 f3 (eA _) rfl rfl rfl (fun c hc=>hc.elim) (fun c _ _=>rfl)
  refine wpIn_skip ⟨rfl,hK4,hG4,C4,ea,cl,L,by rw [aKz];exact hI4,hok,?_,hborn,fun p hp=>⟨hR3 p hp,fun h=>(hhas p hp).2.1 ((hFI _).2 ((hI4.1 _).1 h)),(hhas p hp).2.2⟩⟩
  rw [aGp,hls];change _=iV (q.foldl iV []) x;unfold iV;rw [if_neg hpos]
end
end KV
end Go.Proofs
end
section
namespace Go.Proofs
open Go.RowKit
namespace KV
open Go.ChangeMaps (setBlock)

def abE(dc:Lqq):List (Value × PV):=(abM dc).map fun e=>(.int .i64 e.1,.sl e.2.length (e.2.flatten.map aA))
abbrev yM(dl:Int)(sk dc:Lqq):Mem:=[some (.box 130 [.ptr 1 0]),some (dkB dl (.sl sk.length (sk.flatten.map aA)) (.sl dc.length (dc.flatten.map aA)) (.mp 2) (.p (.mp (abE dc)))),some (.mp (atF dc.reverse) (atF dc.reverse).length),some .dead]
theorem aSh : sub (cd Tryz.f82) [1, 1, 1, 1, 0, 1, 0] = .rangeFunc (.tmp 27) #[28, 29] (.region 6 #[{ dst := some 8, op := .alloc 44, type := 0, pos := "jury.go:198", after := #[], guard := none }, { dst := none, op := .store 44 (.tmp 8) (.tmp 29), type := 0, pos := "jury.go:198", after := #[{ on := 0, ground := .data }, { on := 0, ground := .phase }], guard := none }] false) (sub (cd Tryz.f82) [1, 1, 1, 1, 0, 1, 0, 1]) := by kernel_rfl
theorem aPg{dc:Lqq}(h:cA dc):∀ x∈dc,bDz x:=fun x hx=>⟨h.ud x hx,(eX.1 (h.rng x hx)).1,lR h x hx⟩
theorem aBy{dc:Lqq}(x:Bk dc):mA dc x.1∈dc:=by
 unfold mA;rw [kQ4,kQ0 x.2];exact gO x.2
theorem bDy{dc:Lqq}{xs:List (Bk dc)}(h:xs.map (fun x=>x.1)=bk dc.length 0):xs.map (fun x=>mA dc x.1)=dc.reverse:=by
 have:xs.map (fun x=>mA dc x.1)=(xs.map (fun x=>x.1)).map (mA dc):=by rw [lK];rfl
 rw [this,h,bJq,List.map_reverse]
 congr 1
 apply List.ext_getElem
 ·simp
 ·intro i h1 h2
  simp [mA,kQ4,kQ0 h2]

theorem aPh{F:Nat→Prop}{W:World}{mb cl:Nat}{ea:Array MapEntry}{L:List Ent}{dc:Lqq}(hok:lF mb ea L)(hls:L.map (fun e=>(e.k,e.l))=abM dc)(hborn:∀ y∈ea.toList,y.born<cl)
  (hhas:∀ p∈iH mb ea cl L,W.heap[p.1]? = some p.2∧F p.1):cQ F W (.mp (abE dc)) (.map (some mb)):=by
 have hlen:ea.size=L.length:=by
  have:=congrArg List.length hok.ord;simpa using this
 have habE:abE dc=L.map fun e=>(.int .i64 e.k,.sl e.l.length (e.l.flatten.map aA)):=by
  unfold abE;rw [← hls,lK];rfl
 obtain ⟨h0,hF0⟩:=hhas (mb,.map ea cl) (by simp [iH])
 refine cQ.mp (abE dc) mb cl ea (fun j=>(L.map Ent.val).getD j undef) hF0 h0 (by rw [habE];simpa using hlen) (fun j hj => ?_) (fun j hj => ?_)
 ·have hjL:j<L.length:=by rw [habE] at hj;simpa using hj
  have hje:j<ea.size:=by omega
  have ho:(ea.toList.map fun x=>(x.key,x.val))[j]? = (L.map fun e=>(Value.int .i64 e.k,e.val))[j]? := by rw [hok.ord]
  rw [gC,gC,kQ0 hjL,kQ0 (by simpa using hje)] at ho
  simp only [Option.map_some,Option.some.injEq,Prod.mk.injEq] at ho
  refine ⟨ea[j],pU hje,?_,hborn _ (by simp),?_⟩
  ·simp only [habE,lX]
   simpa using ho.1
  ·rw [kQ4,gC,kQ0 hjL]
   simpa using ho.2
 ·have hjL:j<L.length:=by rw [habE] at hj;simpa using hj
  have hm:L[j]∈L:=gO hjL;have e1:(abE dc)[j].2 = .sl L[j].l.length (L[j].l.flatten.map aA):=by simp only [habE,lX]
  have e2:(L.map Ent.val).getD j undef=L[j].val:=by rw [kQ4,gC,kQ0 hjL];rfl
  rw [e1,e2];generalize L[j]=e at hm
  have he:=hok.ok e hm;obtain ⟨g1,g2⟩:=hhas e.blk (dA.2 (.inr ⟨e,hm,rfl⟩));change W.heap[e.b]? = some (.cells e.arr 44 (0,0)) at g1
  have hfl:(e.l.flatten.map aA).length=e.l.length*6:=by rw [kQ6,mY he.u]
  have hcell:∀ i,i<(e.l.flatten.map aA).length→∃ z,e.l.flatten[i]? = some z∧e.arr[i]? = some (.int .i64 z):=fun i hi=>by
   have hi':i<e.l.flatten.length:=by rw [kQ6] at hi;exact hi
   refine ⟨e.l.flatten[i],kQ0 hi',?_⟩;have h1:(e.arr.toList.take (e.l.length*6))[i]? = (e.l.flatten.map (Value.int .i64))[i]? := by rw [he.at_]
   rw [List.getElem?_take_of_lt (by omega),gC,kQ0 hi'] at h1
   simpa using h1
  refine .sl _ _ _ _ (fun i=>e.arr.getD i undef) he.le he.cap (fun i hi => ?_) (fun i hi => ?_) (fun i hi => ?_)
  ·obtain ⟨z,_,h2⟩:=hcell i hi
   refine ⟨e.b,0,rfl,g2,?_⟩;obtain ⟨h3,h4⟩:=lJ.1 h2;rw [gP,bU g1 h3]
  ·obtain ⟨z,h1,h2⟩:=hcell i hi
   have:e.arr.getD i undef = .int .i64 z:=by rw [kQ1,h2];rfl
   rw [this,lX];obtain ⟨h3,h4⟩:=kQ2.1 h1;rw [h4];exact .v _
  ·obtain ⟨z,h1,h2⟩:=hcell i hi
   have:e.arr.getD i undef = .int .i64 z:=by rw [kQ1,h2];rfl
   rw [this];rfl
end KV
end Go.Proofs
end
section
namespace Go.Proofs
open Go.RowKit
namespace KV
open Go.ChangeMaps (setBlock)
section
variable {dl:Int} {sk dc:Lqq} {v1 v2:Value} {mb:Nat} {C C':Cx} {w W:World}

theorem aXu{arr0:Array MapEntry}(hM:aR Tp C (lE dl sk dc) w)(hmb:C.ι 3=some mb)(hmh:w.heap[mb]? = some (.map #[] 0))
  {bd:Nat} {ad:Array Value} {td:TypeId} (i1:C.ι 1=some bd) (hd:w.heap[bd]? = some (.cells ad td (0,0))) (q1:ad.getD 1 undef=v1) (q2:ad.getD 2 undef=v2):aLa dl sk dc v1 v2 C w mb [] w C #[] 0 []:=by
 have hF0:∀ (i:Nat) (o:AO),(wX dl v1 v2 mb [])[i]? = some (some o)→o.live=true→∃ o',(lE dl sk dc)[i]? = some (some o')∧o'.live=true:=fun i o h hl=>by
  have hi:=rR h hl;exact eV i (by omega)
 refine ⟨⟨fun _=>Iff.rfl,⟨fun i ty n cs h => ?_,fun i ty cs h => ?_,fun i es cl h => ?_,fun i i' o o' b h1 l1 h2 l2 e1 e2 => ?_,fun i o b h hl hb => ?_,hM.Fs,fun i o b h hl hb => ?_⟩,
  ⟨rfl,rfl,rfl,eA _,fun _ _ _=>rfl,fun i o h=>⟨?_,rfl,rfl⟩,fun i o h ty n cs hx => ?_,fun i o h o' hx hl => ?_,fun i o b h hl hb => ?_,fun _ h=>h,fun _ h => .inl h⟩⟩,lF.nil mb,rfl,fun y h=>by simp at h,fun p hp => ?_⟩
 ·rcases at4 h with ⟨rfl,e⟩ | ⟨rfl,e⟩ | ⟨rfl,e⟩ | ⟨rfl,e⟩ <;> cases e
 ·rcases at4 h with ⟨rfl,e⟩ | ⟨rfl,e⟩ | ⟨rfl,e⟩ | ⟨rfl,e⟩
  ·cases e
   obtain ⟨b,arr,r0,r1,r2,r3,r4⟩:=hM.box 0 _ _ rfl;refine ⟨b,arr,r0,r1,r2,fun j hj => ?_,r4⟩
   have:=r3 j hj;have hj0:j=0:=by simp at hj;exact hj
   subst hj0;simp only [List.getElem_cons_zero] at this ⊢
   cases this with
   | ptr _ _ _ h0 ha h hp =>
    refine .ptr _ _ _ h0 ⟨_,rfl⟩ (fun o ho hl => ?_) hp
    exact h _ rfl rfl
  ·cases e
   obtain ⟨b,arr,r0,r1,r2,r3,r4⟩:=hM.box 1 _ _ rfl;rw [i1] at r0;cases r0
   rw [hd] at r1;cases r1
   refine ⟨bd,ad,i1,hd,r2,fun j hj => ?_,r4⟩
   match j,hj with
   | 0,_ =>
    have:=r3 0 (by simp)
    cases this with
    | p _ _ h=>exact .p _ _ h
   | 1,_=>exact .p _ _ (by rw [q1];exact .v _)
   | 2,_=>exact .p _ _ (by rw [q2];exact .v _)
   | 3,_ =>
    have:=r3 3 (by simp)
    simp only [List.getElem_cons_succ,List.getElem_cons_zero] at this ⊢
    cases this with
    | mp _ _ h0 ha h =>
     refine .mp _ _ h0 ⟨_,rfl⟩ fun o ho hl => ?_
     exact h _ rfl rfl
   | 4,_ =>
    have:=r3 4 (by simp)
    simp only [List.getElem_cons_succ,List.getElem_cons_zero] at this ⊢
    generalize ad.getD 4 undef=u at this
    cases this with
    | mp _ _ h0 ha h =>
     obtain ⟨b,h1,h2⟩:=h _ rfl rfl;rw [hmb] at h2;cases h2
     rw [h1];exact .p _ _ (.v _)
  ·cases e
  ·cases e
 ·rcases at4 h with ⟨rfl,e⟩ | ⟨rfl,e⟩ | ⟨rfl,e⟩ | ⟨rfl,e⟩
  ·cases e
  ·cases e
  ·cases e;exact hM.mp 2 _ _ rfl
  ·cases e
 ·obtain ⟨p,q1,q2⟩:=hF0 _ _ h1 l1
  obtain ⟨p',q1',q2'⟩:=hF0 _ _ h2 l2;exact hM.inj i i' p p' b q1 q2 q1' q2' e1 e2
 ·obtain ⟨p,q1,q2⟩:=hF0 _ _ h hl
  exact hM.nF i p b q1 q2 hb
 ·obtain ⟨p,q1,q2⟩:=hF0 _ _ h hl
  exact hM.lt i p b q1 q2 hb
 ·have hi:i<4:=(kQ2.1 h).1
  match i,hi with
  | 0,_=>exact ⟨_,rfl⟩
  | 1,_=>exact ⟨_,rfl⟩
  | 2,_=>exact ⟨_,rfl⟩
  | 3,_=>exact ⟨_,rfl⟩
 ·rcases at4 hx with ⟨rfl,e⟩ | ⟨rfl,e⟩ | ⟨rfl,e⟩ | ⟨rfl,e⟩ <;> cases e
 ·have hi:i<4:=(kQ2.1 h).1
  obtain ⟨p,q1,q2⟩:=eV (dl:=dl) (sk:=sk) (dc:=dc) i hi;rw [h] at q1;cases q1;exact q2
 ·obtain ⟨p,q1,q2⟩:=hF0 _ _ h hl
  exact .inr ⟨i,p,q1,q2,hb⟩
 ·have:p=(mb,.map #[] 0):=by simpa [iH] using hp
  subst this;exact ⟨hmh,fun h=>hM.nF 3 _ mb rfl rfl hmb h,.inl rfl⟩

theorem aXv{ea:Array MapEntry}{cl:Nat}{L:List Ent}(hM0:aR Tp C (lE dl sk dc) w)(hmb:C.ι 3=some mb)(r1:cQ C.F w (.sl sk.length (sk.flatten.map aA)) v1)(r2:cQ C.F w (.sl dc.length (dc.flatten.map aA)) v2)
  (hI:aLa dl sk dc v1 v2 C w mb dc.reverse W C' ea cl L) :
  ∃ C5,aR Tp C5 (yM dl sk dc) W∧Fr C (lE dl sk dc) w C5 (yM dl sk dc) W∧∀ D,W.heap[D]? = some (.deferred (some []))→w.heap.size≤D→¬ C5.F D:=by
 obtain ⟨⟨hFI,hM,fI⟩,hok,hls,hborn,hhas⟩:=hI;obtain ⟨F5,hF5⟩:∃ F5:Nat→Prop,F5=fun c=>C'.F c∨∃ p∈iH mb ea cl L,p.1=c:=⟨_,rfl⟩
 have toF:∀ c,C.F c→F5 c:=fun c hc=>by rw [hF5];exact .inl ((hFI c).2 hc)
 have toF':∀ c,C'.F c→F5 c:=fun c hc=>by rw [hF5];exact .inl hc
 have same:∀ c,C.F c→W.heap[c]? = w.heap[c]? := fun c hc=>fI.keep c (hM0.Fs c hc) fun i o h hl he=>hM0.nF i o c h hl he hc
 have ιC:∀ i,i<4→C'.ι i=C.ι i:=fun i hi=>by
  obtain ⟨o,h1,_⟩:=eV (dl:=dl) (sk:=sk) (dc:=dc) i hi;exact (fI.ids i o h1).2.1
 have live1:∀ {i:Nat} {o:AO},(yM dl sk dc)[i]? = some (some o)→o.live=true→(i=0∨i=1∨i=2)∧∃ o',(wX dl v1 v2 mb (atF dc.reverse))[i]? = some (some o')∧o'.live=true:=fun {i o} h hl=>by
  rcases at4 h with ⟨rfl,e⟩ | ⟨rfl,e⟩ | ⟨rfl,e⟩ | ⟨rfl,e⟩
  ·exact ⟨.inl rfl,_,rfl,rfl⟩
  ·exact ⟨.inr (.inl rfl),_,rfl,rfl⟩
  ·exact ⟨.inr (.inr rfl),_,rfl,rfl⟩
  ·cases e;cases hl
 have lt3:∀ i c,i<3→C.ι i=some c→c<w.heap.size∧c≠mb:=fun i c hi hc=>by
  obtain ⟨o,h1,h2⟩:=eV (dl:=dl) (sk:=sk) (dc:=dc) i (by omega)
  refine ⟨hM0.lt i o c h1 h2 hc,fun e => ?_⟩
  subst e;have:=hM0.inj i 3 o _ c h1 h2 rfl rfl hc hmb;omega
 refine ⟨⟨C'.ι,C'.κ,F5,[]⟩,⟨fun i ty n cs h => ?_,fun i ty cs h => ?_,fun i es cl h => ?_,fun i i' o o' b h1 l1 h2 l2 e1 e2 => ?_,fun i o b h hl hb hf => ?_,fun c hc => ?_,fun i o b h hl hb => ?_⟩,
  ⟨fI.os,fI.tape,fI.out,fI.size,fI.keep,fun i o h=>⟨?_,(fI.ids i o h).2⟩,fun i o h ty n cs hx => ?_,fun i o h o' hx hl => ?_,fun i o b h hl hb => ?_,toF,fun c hc => ?_⟩,fun D hD hDs hf => ?_⟩
 ·rcases at4 h with ⟨rfl,e⟩ | ⟨rfl,e⟩ | ⟨rfl,e⟩ | ⟨rfl,e⟩ <;> cases e
 ·rcases at4 h with ⟨rfl,e⟩ | ⟨rfl,e⟩ | ⟨rfl,e⟩ | ⟨rfl,e⟩
  ·cases e
   obtain ⟨b,arr,r0,r1,r2,r3,r4⟩:=hM.box 0 _ _ rfl;refine ⟨b,arr,r0,r1,r2,fun j hj => ?_,r4⟩
   have:=r3 j hj;have hj0:j=0:=by simp at hj;exact hj
   subst hj0;simp only [List.getElem_cons_zero] at this ⊢
   cases this with
   | ptr _ _ _ h0 ha h hp =>
    refine .ptr _ _ _ h0 ⟨_,rfl⟩ (fun o ho hl => ?_) hp
    exact h _ rfl rfl
  ·cases e
   obtain ⟨b,arr,s0,s1,s2,s3,s4⟩:=hM.box 1 _ _ rfl;have opq:∀ (j:Nat) (v:Value),Rep C' (wX dl v1 v2 mb (atF dc.reverse)) W (.p (.v v)) (arr.getD j undef)→arr.getD j undef=v:=fun j v h=>by
    generalize arr.getD j undef=u at h
    cases h with
    | p _ _ h=>cases h;rfl
   refine ⟨b,arr,s0,s1,s2,fun j hj => ?_,s4⟩
   match j,hj with
   | 0,_ =>
    have:=s3 0 (by simp)
    cases this with
    | p _ _ h=>exact .p _ _ (h.anyF rfl)
   | 1,_ =>
    show Rep _ _ W (.p (.sl sk.length (sk.flatten.map aA))) (arr.getD 1 undef);rw [opq 1 v1 (s3 1 (by simp))]
    exact .p _ _ (r1.mono toF same)
   | 2,_ =>
    show Rep _ _ W (.p (.sl dc.length (dc.flatten.map aA))) (arr.getD 2 undef);rw [opq 2 v2 (s3 2 (by simp))]
    exact .p _ _ (r2.mono toF same)
   | 3,_ =>
    have:=s3 3 (by simp)
    simp only [List.getElem_cons_succ,List.getElem_cons_zero] at this ⊢
    cases this with
    | mp _ _ h0 ha h =>
     refine .mp _ _ h0 ⟨_,rfl⟩ fun o ho hl => ?_
     exact h _ rfl rfl
   | 4,_ =>
    show Rep _ _ W (.p (.mp (abE dc))) (arr.getD 4 undef);rw [opq 4 (.map (some mb)) (s3 4 (by simp))]
    exact .p _ _ (aPh hok hls hborn fun p hp=>⟨(hhas p hp).1,by rw [hF5];exact .inr ⟨p,hp,rfl⟩⟩)
  ·cases e
  ·cases e
 ·rcases at4 h with ⟨rfl,e⟩ | ⟨rfl,e⟩ | ⟨rfl,e⟩ | ⟨rfl,e⟩
  ·cases e
  ·cases e
  ·cases e
   obtain ⟨b,arr,s0,s1,s2,s3⟩:=hM.mp 2 _ _ rfl;refine ⟨b,arr,s0,s1,s2,fun j hj => ?_⟩
   obtain ⟨en,t1,t2,t3,t4⟩:=s3 j hj;exact ⟨en,t1,t2,t3,t4.mono toF' (fun _ _=>rfl)⟩
  ·cases e
 ·obtain ⟨_,p,q1,q2⟩:=live1 h1 l1
  obtain ⟨_,p',q1',q2'⟩:=live1 h2 l2;exact hM.inj i i' p p' b q1 q2 q1' q2' e1 e2
 ·obtain ⟨hi,p,q1,q2⟩:=live1 h hl
  rw [hF5] at hf
  rcases hf with hf | ⟨p0,hp0,hpb⟩
  ·exact hM.nF i p b q1 q2 hb hf
  ·have hb':C.ι i=some b:=by rw [← ιC i (by omega)];exact hb
   obtain ⟨g1,g2⟩:=lt3 i b (by omega) hb'
   rcases (hhas p0 hp0).2.2 with h5 | h5 <;> omega
 ·rw [hF5] at hc
  rcases hc with hc | ⟨p0,hp0,rfl⟩
  ·exact hM.Fs c hc
  ·exact bY (hhas p0 hp0).1
 ·obtain ⟨_,p,q1,q2⟩:=live1 h hl
  exact hM.lt i p b q1 q2 hb
 ·have hi:i<4:=(kQ2.1 h).1
  match i,hi with
  | 0,_=>exact ⟨_,rfl⟩
  | 1,_=>exact ⟨_,rfl⟩
  | 2,_=>exact ⟨_,rfl⟩
  | 3,_=>exact ⟨_,rfl⟩
 ·rcases at4 hx with ⟨rfl,e⟩ | ⟨rfl,e⟩ | ⟨rfl,e⟩ | ⟨rfl,e⟩ <;> cases e
 ·have hi:i<4:=(kQ2.1 h).1
  obtain ⟨p,q1,q2⟩:=eV (dl:=dl) (sk:=sk) (dc:=dc) i hi;rw [h] at q1;cases q1;exact q2
 ·obtain ⟨_,p,q1,q2⟩:=live1 h hl
  exact fI.new i p b q1 q2 hb
 ·rw [hF5] at hc
  rcases hc with hc | ⟨p0,hp0,rfl⟩
  ·exact .inl ((hFI c).1 hc)
  ·rcases (hhas p0 hp0).2.2 with h5 | h5
   ·exact .inr (.inr ⟨3,_,rfl,rfl,by rw [h5];exact hmb⟩)
   ·exact .inr (.inl h5)
 ·rw [hF5] at hf
  rcases hf with hf | ⟨p0,hp0,rfl⟩
  ·have:=hM0.Fs D ((hFI D).1 hf);omega
  ·have h6:=(hhas p0 hp0).1
   rw [hD] at h6
   rcases dA.1 hp0 with rfl | ⟨y,_,rfl⟩ <;> cases h6
end
theorem info44q:∃ i,Tryz.prog.info? 44=some i∧i.zero=some zD6∧i.size=6:=by
 obtain ⟨i,h1,h2,h3,_⟩:=info_parts info44z;exact ⟨i,h1,h2,h3⟩
theorem aKx(W:World):(Instr.alloc 44 true (.tuple #[])).run Tp W = .ok (.pointer (some ⟨W.heap.size,0,none⟩)) (W.alloc (.cells zD6.cells 44)):=rfl
set_option maxHeartbeats 1000000 in
theorem bDx(dl:Int)(sk dc:Lqq)(hd:cA dc):aC Tp 0 (sub (cd Tryz.f82) [1,1,1,1,0,1,0]) ⟨fr 57 [(6,(.ptr 0 0)),(27,aLb dc)],lE dl sk dc⟩ .normal ⟨fr 57 [(6,(.ptr 0 0))],yM dl sk dc⟩:=by
 intro C0 M0 w0 a w hk hs ro hro n;have hro':ro=none:=hro.resolve_right (by rw [aSh];simp [nrf])
 subst hro';rw [aSh];refine aBr (n:=3) ?_;obtain ⟨C,hSl,hM,hF,hD⟩:=hs;obtain ⟨mb,arr0,hmb,hmh,hz,_⟩:=hM.mp 3 _ _ rfl;obtain rfl:arr0 = #[]:=Array.eq_empty_of_size_eq_zero (by simpa using hz)
 obtain ⟨bd,ad,i1,hdh,hs1,hr1,ho1⟩:=hM.box 1 _ _ rfl;have r1:cQ C.F w (.sl sk.length (sk.flatten.map aA)) (ad.getD 1 undef):=by
  have:=hr1 1 (by simp)
  cases this with
  | p _ _ h=>exact h
 have r2:cQ C.F w (.sl dc.length (dc.flatten.map aA)) (ad.getD 2 undef):=by
  have:=hr1 2 (by simp)
  cases this with
  | p _ _ h=>exact h
 have hmblt:mb<w.heap.size:=hM.lt 3 _ mb rfl rfl hmb;have hsz:a.tmps.size=57:=hSl.size;have h6:=hSl.at (i:=6) (x := .ptr 0 0) rfl
 obtain ⟨lb,Sp,hu,hseq⟩:=aXz dc hd.ud hd.len C (lE dl sk dc) w _ (hSl.at (i:=27) (x:=aLb dc) rfl) hM.Fs
 have actT:∀ (x:Bk dc) (b:Nat),((({ tmps:=(a.tmps.setIfInBounds 28 (.int .i64 (x.1:Nat))).setIfInBounds 29 (.agg (vals6 (mA dc x.1))),defers:=[] }:Act).put (some 8) (.pointer (some ⟨b,0,none⟩))).tmps.size=57) ∧
   (({ tmps:=(a.tmps.setIfInBounds 28 (.int .i64 (x.1:Nat))).setIfInBounds 29 (.agg (vals6 (mA dc x.1))),defers:=[] }:Act).put (some 8) (.pointer (some ⟨b,0,none⟩))).tmps.getD 6 undef=a.tmps.getD 6 undef ∧
   (({ tmps:=(a.tmps.setIfInBounds 28 (.int .i64 (x.1:Nat))).setIfInBounds 29 (.agg (vals6 (mA dc x.1))),defers:=[] }:Act).put (some 8) (.pointer (some ⟨b,0,none⟩))).tmps.getD 8 undef = .pointer (some ⟨b,0,none⟩):=fun x b=>by
  refine ⟨by simp [Act.put,hsz],?_,?_⟩
  ·simp [Act.put,kQ1]
  ·simp [Act.put,kQ1,hsz]
 refine wpIn_rangeFunc_ownH (F:=Fen none) (n:=3) rfl (by omega) (gf:=187) (lb:=lb) hu trivial (fun args w=>rfl) hseq (fun h k=>h.trans k)
  (fun W l o o' hl h1 h2 h3=>⟨by simp,fun b hb=>(grownBy_putObj' W l o').block b (kQ9 (hM.Fs b hb) (gQ hl (Nat.le_of_lt (lJ.1 h1).1))) (fun e=>by cases e;have:=hM.Fs _ hb;omega)⟩)
  (Below.refl _ _) (fun _=>rfl)
  (fun pre W=>∃ C' ea cl L,aLa dl sk dc (ad.getD 1 undef) (ad.getD 2 undef) C w mb (pre.map fun x=>mA dc x.1) W C' ea cl L) (fun _ _ _=>False)
  (fun pre X Y row hs hg hr=>by obtain ⟨C',ea,cl,L,h⟩:=hs;exact ⟨C',ea,cl,L,h.own hM hmb hg hr⟩) (fun _ _ _ _ _ hs _ _=>hs)
  ⟨C,#[],0,[],aXu (arr0 := #[]) hM hmb hmh i1 hdh rfl rfl⟩
  (fun x a' W=>∃ b,a'=(({ tmps:=(a.tmps.setIfInBounds 28 (.int .i64 (x.1:Nat))).setIfInBounds 29 (.agg (vals6 (mA dc x.1))),defers:=[] }:Act).put (some 8) (.pointer (some ⟨b,0,none⟩)))∧w.heap.size≤b∧W.heap[b]? = some (.cells (vsL (mA dc x.1)).toArray 44 (0,0))∧∀ es cl,W.heap[mb]? = some (.map es cl)→∀ y∈es.toList,y.val.ownBlock≠some b)
  (fun x a' _ X Y row hs hg hr => ?hAx) ?assign ?body ?done ?stop
 case hAx =>
  obtain ⟨b,h1,h2,h3,h4⟩:=hs;have hno:∀ c,c<X.heap.size→(c<w.heap.size∨lC X c)→Y.heap[c]? = X.heap[c]? := fun c hc hd=>hg.block c hc (fun e=>by
   obtain ⟨q1,o,q2,q3⟩:=hr c e.symm
   rcases hd with hd | hd
   ·omega
   ·exact jE q2 q3 hd)
  refine ⟨b,h1,h2,(hno b (bY h3) (.inr (fH h3))).trans h3,fun es cl h => ?_⟩
  by_cases hlt:mb<X.heap.size
  ·rw [hno mb hlt (.inl hmblt)] at h
   exact h4 es cl h
  ·exact absurd (kQ9 (bY h3) (eA _)) (by omega)
 case assign =>
  intro l pre x W K hI hK;rw [zip2'];obtain ⟨C',ea,cl,L,hI⟩:=hI;have hx:=aPg hd _ (aBy x);have hev:vals6 (mA dc x.1)=(vsL (mA dc x.1)).toArray:=rfl;refine wpIn_region_lit (wpListIn_plain rfl fun K' hK' => ?_)
  unfold Oper.wpIn;refine ⟨fun f _=>trivial,?_⟩
  rw [Oper.semAt_plain _ _ _ (by intro c hc';cases hc')]
  have e1 : ∀ ρ : Operand → Value, (execOp ρ { dst := some 8, op := .alloc 44, type := 0, pos := "jury.go:198", after := #[], guard := none }).run Tp W = .ok (.value (.pointer (some ⟨W.heap.size, 0, none⟩))) (W.alloc (.cells zD6.cells 44)) := fun ρ => by
   unfold execOp;dsimp only;rw [Sem.run_bind,aKx,Result.andThen_ok,Sem.run_pure]
  rw [e1];refine hK' _ _ (wpListIn_plain rfl fun K2 hK2 => ?_)
  unfold Oper.wpIn;refine ⟨fun f _=>trivial,?_⟩
  rw [Oper.semAt_plain _ _ _ (by intro c hc';cases hc')]
  obtain ⟨i44,hi,hz0,hz1⟩:=info44q;have e8:(({ tmps:=(a.tmps.setIfInBounds 28 (.int .i64 (x.1:Nat))).setIfInBounds 29 (.agg (vals6 (mA dc x.1))),defers:=[] }:Act).put (some 8) (.pointer (some ⟨W.heap.size,0,none⟩))).eval (.tmp 8) = .pointer (some ⟨W.heap.size,0,none⟩):=(actT x W.heap.size).2.2;have e29:(({ tmps:=(a.tmps.setIfInBounds 28 (.int .i64 (x.1:Nat))).setIfInBounds 29 (.agg (vals6 (mA dc x.1))),defers:=[] }:Act).put (some 8) (.pointer (some ⟨W.heap.size,0,none⟩))).eval (.tmp 29) = .agg (vals6 (mA dc x.1)):=by
   simp [Act.eval,Act.put,kQ1,hsz]
  have e2:=run_storeAt_new (P:=Tp) W 44 zD6.cells (vals6 (mA dc x.1)) (by rw [hi];simp [hz1,hev,vsL,hx.len]) (by simp [hev,vsL,hx.len];rfl) (by
   rw [Array.all_eq_true];intro i h;simp [hev,vsL];rfl)
  have e3 : ∀ ρ : Operand → Value, ρ (.tmp 8) = .pointer (some ⟨W.heap.size, 0, none⟩) → ρ (.tmp 29) = .agg (vals6 (mA dc x.1)) → (execOp ρ { dst := none, op := .store 44 (.tmp 8) (.tmp 29), type := 0, pos := "jury.go:198", after := #[{ on := 0, ground := .data }, { on := 0, ground := .phase }], guard := none }).run Tp (W.alloc (.cells zD6.cells 44)) = .ok .skip (W.alloc (.cells (vals6 (mA dc x.1)) 44)) := fun ρ h1 h2 => by
   unfold execOp;dsimp only;rw [h1,h2,Sem.run_bind,e2,Result.andThen_ok,Sem.run_pure]
  rw [e3 _ e8 e29];refine hK2 _ _ (wpListIn_nil (hK _ _ ?_ ?_ ?_ ?_))
  ·exact ⟨by simp,fun k o _ hk _=>((jC W _).2.2 k (bY hk)).trans hk⟩
  ·exact ⟨by simp,fun b hb=>(jC W _).2.2 b (kQ9 (hM.Fs b hb) hI.inv.2.2.size)⟩
  ·exact ⟨C',ea,cl,L,hI.own hM hmb (World.grownBy_alloc W _ none) (fun r e=>by cases e)⟩
  ·refine ⟨W.heap.size,rfl,hI.inv.2.2.size,(jC W _).2.1,fun es2 cl2 h y hy hyb => ?_⟩
   have hm1:=(hI.has (mb,.map ea cl) (by simp [iH])).1
   rw [(jC W _).2.2 mb (bY hm1),hm1] at h
   cases h;obtain ⟨e,he,_,hv⟩:=hI.ok.e1 y hy;rw [hv] at hyb
   have hb2:e.b=W.heap.size:=by
    have:Ent.val e = .slice (some ⟨e.b,0,none⟩) e.l.length e.cap:=rfl;rw [this] at hyb
    exact Option.some.inj hyb
   have:=bY (hI.has e.blk (dA.2 (.inr ⟨e,he,rfl⟩))).1;simp only [Ent.blk] at this
   omega
 case body =>
  rintro l pre x a' W hl _ ⟨C',ea,cl,L,hI⟩ ⟨b,rfl,hb1,hb2,hb3⟩ hlt;obtain ⟨t1,t2,t3⟩:=actT x b;refine wpIn_mono (bEa (l:=l) (n:=1) (aPg hd _ (aBy x)) (fun y hy=>by
   obtain ⟨z,_,rfl⟩:=dQ.1 hy;exact aPg hd _ (aBy z)) (by rw [kQ6];have:=hd.len;omega) hM hmb hI t1 rfl (by rw [t2];exact h6) t3 hb1 hb2 hb3) ?_
  rintro e a2 W4 ⟨rfl,hK,hG,h⟩;exact ⟨hK,hG,by simpa [iE] using h⟩
 case done =>
  intro D xs W hD' hSx hI hDm;obtain ⟨C',ea,cl,L,hI⟩:=hI;rw [bDy hSx] at hI
  obtain ⟨C5,hM5,f5,hF5⟩:=aXv hM hmb r1 r2 hI;have hnp:aMp (yM dl sk dc):=fun i o h=>by rcases at4 h with ⟨rfl,e⟩ | ⟨rfl,e⟩ | ⟨rfl,e⟩ | ⟨rfl,e⟩ <;> cases e <;> rfl
  refine ⟨rfl,C5,?_,hM5,hF.trans f5,?_⟩
  ·have s0:eI C5 (yM dl sk dc) W (List.replicate 57 .any) a.tmps:=⟨by simpa using hsz,fun j hj=>by rw [List.getElem_replicate];exact .any _⟩
   refine ⟨hsz.trans rfl,fun j hj => ?_⟩
   have hfr:fr 57 [(6,.ptr 0 0)]=(List.replicate 57 AV.any).set 6 (.ptr 0 0):=rfl;simp only [hfr] at hj ⊢
   rw [wM]
   split
   ·rename_i e;subst e;exact h6.mono (hM.le f5)
   ·exact s0.rep j (by simpa using hj)
  ·obtain ⟨⟨l,e1,e2,e3⟩,hR⟩:=hD.fr hM (fun i to ti sz L h=>by have:=hnp _ _ h;cases this) f5
   obtain ⟨⟨l',e1',_,e3'⟩,_⟩:=hD;have hll:l=l':=by
    have:=e1.symm.trans e1';exact (List.map_inj_right (fun x y h=>by simpa [mark] using h)).1 this
   refine ⟨⟨D::l,by rw [e1];rfl,List.nodup_cons.2 ⟨fun hin => ?_,e2⟩,fun D' hD2 => ?_⟩,hR⟩
   ·rw [hll] at hin
    have:=(lJ.1 (e3' D hin).1).1;omega
   ·rcases jG.1 hD2 with rfl | hin
    ·exact ⟨hDm,gQ hF.size hD',hF5 _ hDm hD'⟩
    ·exact e3 D' hin
 case stop =>
  intro D c pre W _ _ h _;exact h.elim
end KV
end Go.Proofs
end
namespace Go.Proofs
namespace KV
section

theorem bTy(dc:Lqq){base:Nat}:FV Tp 147 [.p (fS dc)] base (aLb dc) []:=bUa
theorem jU{dl:Int}{sk dc:Lqq}(h:cN dl sk dc):cA (aB dc):=by
 have hm:∀ x,x∈aB dc↔x∈dc:=fun x=>(eE dc).mem_iff
 refine ⟨lQ h.ud,by rw [eP];have:=h.len2;omega,fun x hx=>h.hdc x ((hm x).1 hx),?_,fun x hx=>h.ord x ((hm x).1 hx)⟩
 have hn:(aK (aB dc) 0).Nodup:=((eE dc).map _).nodup_iff.2 h.nd;have hs:=oZ dc;unfold aK at hn
 rw [List.Nodup,List.pairwise_map] at hn
 exact (hs.and hn).imp fun ⟨h1,h2⟩=>by
  show _<_;unfold dN;omega
theorem bJf{dl:Int}{sk dc:Lqq}(h0:cN dl sk dc)(h1:cA (aB dc)){base:Nat}:FV Tp 82 [(.p (.agg (dH dl sk dc)))] base (.tup [(.rp [(aA dl),(.sl ((aB sk).length) ((aB sk).flatten.map aA)),(.sl ((aB dc).length) ((aB dc).flatten.map aA)),(.mp (atF (aB dc).reverse)),(.mp (abE (aB dc)))] 0),(pI 0)]) []:=by
 exact FV.fin Tryz.func82 rfl (o:=[.c (.tup [(.p (.agg (dH dl (aB sk) (aB dc)))),(pI 0)]) [],bF,.c (.fn 187 [] [(.rp [(.sl ((aB dc).length) ((aB dc).flatten.map aA))] 0)]) [],.k 1 ⟨(rng [(0,6),(7,20),(28,29)]),[5,4,2,3],[],[]⟩ .normal ⟨fr 57 [(6,(.ptr 0 0))],yM dl (aB sk) (aB dc)⟩,.g 1 ⟨[],[0],[2,1],[]⟩]) (l:=[aC Tp 0 (sub (cd Tryz.f82) [1,1,1,1,0,1,0]) ⟨fr 57 [(6,(.ptr 0 0)),(27,aLb (aB dc))],lE dl (aB sk) (aB dc)⟩ .normal ⟨fr 57 [(6,(.ptr 0 0))],yM dl (aB sk) (aB dc)⟩,_,((0:Int) != (0:Int))=false,_]) (by kernel_rfl) (gc (bDx dl (aB sk) (aB dc) h1) (gc (fk 6 (bTy (aB dc)) rfl) (gc (by first | decide | simp) (gc (fk 1 (bNk dl sk dc h0) rfl) gn))))
abbrev aH(dl:Int)(sk dc:Lqq):List PV:=[aA dl,.sl sk.length (sk.flatten.map aA),.sl dc.length (dc.flatten.map aA),.mp (atF dc.reverse),.mp (abE dc)]
theorem kQ(dl:Int)(sk dc:Lqq)(h:cN dl sk dc){base:Nat}:FV Tp 82 [.p (.agg (dH dl sk dc))] base (.tup [.rp (aH dl (aB sk) (aB dc)) 0,.p (aA 0)]) []:=bJf h (jU h)
end
section
section
variable {P:Program} {k:Nat} {b:Code} {β:Type}
theorem aI.ex{e:Ex}(S:Nat→β→St)(R:β→St)(Inv:Nat→β→Prop)(he:e ≠ .normal)(n:Nat)
  (hs:∀ (i:Nat) (acc:β),i<n→Inv i acc→∃ acc',Inv (i+1) acc'∧aC P k b (S i acc) .normal (S (i+1) acc'))
  (hx:∀ acc,Inv n acc→aC P k b (S n acc) e (R acc)) {acc:β} (h0:Inv 0 acc):∃ acc',Inv n acc'∧aI P k b (S 0 acc) e (R acc'):=by
 have key:∀ (d i:Nat) (acc:β),i+d=n→Inv i acc→∃ acc',Inv n acc'∧aI P k b (S i acc) e (R acc'):=by
  intro d
  induction d with
  | zero =>
   intro i acc hi h;obtain rfl:i=n:=by omega
   exact ⟨acc,h,.exit (hx acc h) he⟩
  | succ d ih =>
   intro i acc hi h;obtain ⟨acc1,h1,c1⟩:=hs i acc (by omega) h
   obtain ⟨acc2,h2,c2⟩:=ih (i+1) acc1 (by omega) h1
   exact ⟨acc2,h2,.step c1 c2⟩
 exact key n 0 acc (by omega) h0
theorem aI.exF{e1 e2:Ex}(S:Nat→β→St)(R1:Nat→β→St)(R2:β→St)(Inv:β→Prop)(h1:e1 ≠ .normal)(h2:e2 ≠ .normal)(p:Nat→Bool)(n:Nat)
  (hs:∀ (i:Nat) (acc:β),i<n→Inv acc→p i=false→∃ acc',Inv acc'∧aC P k b (S i acc) .normal (S (i+1) acc'))
  (hq:∀ (i:Nat) (acc:β),i<n→Inv acc→p i=true→∃ acc',Inv acc'∧aC P k b (S i acc) e1 (R1 i acc'))
  (hx:∀ acc,Inv acc→aC P k b (S n acc) e2 (R2 acc)) {acc:β} (h0:Inv acc) :
  (∃ i acc',i<n∧p i=true∧(∀ j,j<i→p j=false)∧Inv acc'∧aI P k b (S 0 acc) e1 (R1 i acc'))∨((∀ j,j<n→p j=false)∧∃ acc',Inv acc'∧aI P k b (S 0 acc) e2 (R2 acc')):=by
 have key:∀ (d i:Nat) (acc:β),i+d=n→Inv acc→(∀ j,j<i→p j=false)→(∃ i' acc',i'<n∧p i'=true∧(∀ j,j<i'→p j=false)∧Inv acc'∧aI P k b (S i acc) e1 (R1 i' acc'))∨((∀ j,j<n→p j=false)∧∃ acc',Inv acc'∧aI P k b (S i acc) e2 (R2 acc')):=by
  intro d
  induction d with
  | zero =>
   intro i acc hi h hj;obtain rfl:i=n:=by omega
   exact .inr ⟨hj,acc,h,.exit (hx acc h) h2⟩
  | succ d ih =>
   intro i acc hi h hj;cases hp:p i with
   | true =>
    obtain ⟨acc1,q1,c1⟩:=hq i acc (by omega) h hp
    exact .inl ⟨i,acc1,by omega,hp,hj,q1,.exit c1 h1⟩
   | false =>
    obtain ⟨acc1,q1,c1⟩:=hs i acc (by omega) h hp
    rcases ih (i+1) acc1 (by omega) q1 (fun j hj2=>by
     rcases Nat.lt_or_ge j i with h3 | h3
     ·exact hj j h3
     ·obtain rfl:j=i:=by omega
      exact hp) with ⟨i',acc',r1,r2,r3,r4,r5⟩ | ⟨r1,acc',r2,r3⟩
    ·exact .inl ⟨i',acc',r1,r2,r3,r4,.step c1 r5⟩
    ·exact .inr ⟨r1,acc',r2,.step c1 r3⟩
 exact key n 0 acc (by omega) h0 (fun j hj=>absurd hj (aNw _))
end
def aF(T:Lqb):List (Value × PV):=T.map fun p=>(.int .i64 p.1,blP p.2)
theorem aXr(T:Lqb)(n:Int)(b:Bool):aF (T++[(n,b)])=aF T++[(.int .i64 n,blP b)]:=by simp [aF]
structure cP (dl:Int) (oc:List Int) (dc:Lqq) (T:Lqb):Prop where
 nd:(T.map (·.1)).Nodup
 ok:∀ p∈T,∃ x∈dc,dN x=p.1∧dX dl oc dc x=p.2
section
variable {dl:Int} {oc:List Int} {dc:Lqq} {T:Lqb}
theorem cP.nil:cP dl oc dc []:=⟨by simp,fun p hp=>by cases hp⟩
theorem fY(h:cA dc){x:List Int}(hx:x∈dc):1≤dN x∧dN x≤9999:=(eX.1 (h.rng x hx)).1
theorem zL(h:cA dc){x y:List Int}(hx:x∈dc)(hy:y∈dc)(e:dN x=dN y):x=y:=by
 obtain ⟨i,hi,rfl⟩:=List.mem_iff_getElem.1 hx;obtain ⟨j,hj,rfl⟩:=List.mem_iff_getElem.1 hy;have hu:=List.pairwise_iff_getElem.1 h.up
 rcases Nat.lt_trichotomy i j with q | q | q
 ·have:=hu i j hi hj q;omega
 ·subst q;rfl
 ·have:=hu j i hj hi q;omega
theorem cP.keys(h:cP dl oc dc T)(hd:cA dc){n:Int}(hn:1≤n∧n≤9999):cI .i64 (aF T) (.int .i64 n):=by
 refine ⟨fun e he => ?_,nD (by omega),?_⟩
 ·obtain ⟨p,hp,rfl⟩:=dQ.1 he
  obtain ⟨x,hx,e1,_⟩:=h.ok p hp;have:=fY hd hx;exact nD (by omega)
 ·have:(aF T).map (fun e=>iP e.1)=T.map (·.1):=by
   unfold aF;rw [lK];rfl
  rw [this];exact h.nd
theorem aSd{n:Int}:dR (aF T) (.int .i64 n)=T.any fun p=>p.1 == n:=by
 unfold dR aF;rw [List.any_map]
 congr 1
theorem bDt{n:Int}:fN (aF T) (.int .i64 n)=(T.find? fun p=>p.1 == n).map fun p=>blP p.2:=by
 unfold fN aF
 induction T with
 | nil=>rfl
 | cons p T ih =>
  rw [gD,List.find?_cons,List.find?_cons];have e:(decide (iP ((Value.int IntKind.i64 p.1,blP p.2):Value × PV).1=iP (Value.int IntKind.i64 n)))=(p.1 == n):=by
   show decide (p.1=n)=(p.1 == n);rw [Bool.eq_iff_iff];simp
  rw [e];cases p.1 == n with
  | true=>rfl
  | false=>exact ih
theorem cP.look(h:cP dl oc dc T)(hd:cA dc){x:List Int}(hx:x∈dc)(hh:dR (aF T) (.int .i64 (dN x))=true):fN (aF T) (.int .i64 (dN x))=some (blP (dX dl oc dc x)):=by
 rw [aSd] at hh
 rw [bDt];cases hf:T.find? fun p=>p.1 == dN x with
 | none =>
  obtain ⟨p,h1,h2⟩:=List.any_eq_true.1 hh;exact absurd h2 (aGo.1 hf p h1)
 | some p =>
  have h1:=wL hf;have h2:p.1=dN x:=by simpa using aUz hf
  obtain ⟨y,hy,e1,e2⟩:=h.ok p h1;rw [zL hd hy hx (e1.trans h2)] at e2
  rw [e2];rfl
theorem cP.again(h:cP dl oc dc T)(hd:cA dc){x:List Int}(hx:x∈dc):oG (aF T) (.int .i64 (dN x)) (blP (dX dl oc dc x))=aF T:=by
 have:∀ T':Lqb,(∀ p∈T',∃ x∈dc,dN x=p.1∧dX dl oc dc x=p.2)→oG (aF T') (.int .i64 (dN x)) (blP (dX dl oc dc x))=aF T':=by
  intro T'
  induction T' with
  | nil=>intro _;rfl
  | cons p T' ih =>
   intro hp;show (if p.1=dN x then ((.int .i64 (dN x),blP (dX dl oc dc x))::aF T':List (Value × PV)) else (.int .i64 p.1,blP p.2)::oG (aF T') (.int .i64 (dN x)) (blP (dX dl oc dc x)))=(.int .i64 p.1,blP p.2)::aF T'
   by_cases e:p.1=dN x
   ·rw [if_pos e]
    obtain ⟨y,hy,e1,e2⟩:=hp p (jW ..);rw [zL hd hy hx (e1.trans e)] at e2
    rw [e,e2]
   ·rw [if_neg e,ih fun q hq=>hp q (kQ7 _ hq)]
 exact this T h.ok
theorem cP.put(h:cP dl oc dc T){x:List Int}(hx:x∈dc)(hh:dR (aF T) (.int .i64 (dN x))=false):cP dl oc dc (T++[(dN x,dX dl oc dc x)]):=by
 rw [aSd] at hh
 refine ⟨?_,fun p hp => ?_⟩
 ·rw [iE,List.nodup_append]
  refine ⟨h.nd,by simp,fun a ha b hb e => ?_⟩
  simp only [gD,List.map_nil,List.mem_singleton] at hb
  obtain ⟨p,hp,rfl⟩:=dQ.1 ha;have:=List.any_eq_false.1 hh p hp;rw [e,hb] at this
  simp at this
 ·rcases jR.1 hp with hp | hp
  ·exact h.ok p hp
  ·rw [List.mem_singleton.1 hp]
   exact ⟨x,hx,rfl,rfl⟩
end
end
section
variable {dl:Int}{sk dc:Lqq}

noncomputable abbrev fJ:Code:=sub (cd Tryz.f154) [1,1,1,0,1,0,0]
noncomputable abbrev gL:Code:=sub (cd Tryz.f153) [1,0,1,0,0]
abbrev qT(dl:Int)(sk dc:Lqq):AV := .rp (aH dl sk dc) 0
abbrev dF(dl:Int)(sk dc:Lqq)(ov:PV)(T:Lqb):Mem:=[some (.box 130 [(qT dl sk dc)]),some (.box 33 [(.p ov)]),some (.box 139 [(.fn 154 [] [(.ptr 4 0),(.ptr 5 0),(.ptr 0 0),(.ptr 2 0)]),(.fn 156 [] [(.ptr 6 0)]),(.fn 157 [] [(.ptr 2 0),(.ptr 1 0)]),(.fn 160 [] [(.ptr 2 0)]),(.fn 158 [] [(.ptr 6 0)])]),some (.mp (aF T) T.length),some (.box 207 [(.mp 3)]),some (.box 124 [(.fn 146 [(qT dl sk dc)] [])]),some (.box 209 [(.fn 153 [] [(.ptr 0 0),(.ptr 2 0)])])]
abbrev iG:AV:=(.agg [(.fn 154 [] [(.ptr 4 0),(.ptr 5 0),(.ptr 0 0),(.ptr 2 0)]),(.fn 156 [] [(.ptr 6 0)]),(.fn 157 [] [(.ptr 2 0),(.ptr 1 0)]),(.fn 160 [] [(.ptr 2 0)]),(.fn 158 [] [(.ptr 6 0)])])
abbrev vB0(dl:Int)(sk dc:Lqq):AO:=.box 130 [.rp (aH dl sk dc) 0]
abbrev vB2:AO:=.box 139 [(.fn 154 [] [(.ptr 4 0),(.ptr 5 0),(.ptr 0 0),(.ptr 2 0)]),(.fn 156 [] [(.ptr 6 0)]),(.fn 157 [] [(.ptr 2 0),(.ptr 1 0)]),(.fn 160 [] [(.ptr 2 0)]),(.fn 158 [] [(.ptr 6 0)])]
abbrev vB5(dl:Int)(sk dc:Lqq):AO:=.box 124 [.fn 146 [.rp (aH dl sk dc) 0] []]
abbrev vB6:AO:=.box 209 [(.fn 153 [] [(.ptr 0 0),(.ptr 2 0)])]
abbrev vU(dl:Int)(sk dc:Lqq)(ov:PV)(T:Lqb):Upd:=[(0,vB0 dl sk dc),(1,.box 33 [.p ov]),(2,vB2),(3,.mp (aF T) T.length),(4,.box 207 [.mp 3]),(5,vB5 dl sk dc),(6,vB6)]
abbrev qU(dl:Int)(sk dc:Lqq)(ov:PV)(x:List Int)(b:Bool)(T T2:Lqb):Prop:=FMM Tp 154 [.p (.agg (x.map aA)),.ptr 4 0,.ptr 5 0,.ptr 0 0,.ptr 2 0] (dF dl sk dc ov T) (pB b) (dF dl sk dc ov T2)
abbrev bPu(g:Nat)(dl:Int)(sk dc:Lqq)(ov:PV)(x z:List Int)(b:Bool)(T T2:Lqb):Prop:=FMM Tp 153 [.p (.agg (x.map aA)),.fn g [] [],.ptr 0 0,.ptr 2 0] (dF dl sk dc ov T) (.tup [.p (.agg (z.map aA)),.p (blP b)]) (dF dl sk dc ov T2)
abbrev aKt(dl:Int)(sk dc:Lqq)(ov:PV)(x z:List Int)(b:Bool)(T T2:Lqb):Prop:=FMM Tp 156 [.p (.agg (x.map aA)),.ptr 6 0] (dF dl sk dc ov T) (.tup [.p (.agg (z.map aA)),.p (blP b)]) (dF dl sk dc ov T2)
abbrev bPv(dl:Int)(sk dc:Lqq)(ov:PV)(x z:List Int)(b:Bool)(T T2:Lqb):Prop:=FMM Tp 158 [.p (.agg (x.map aA)),.ptr 6 0] (dF dl sk dc ov T) (.tup [.p (.agg (z.map aA)),.p (blP b)]) (dF dl sk dc ov T2)
abbrev bIu(dl:Int)(sk dc:Lqq)(ov:PV)(x:List Int)(b:Bool)(T T2:Lqb):Prop:=FMM Tp 157 [.p (.agg (x.map aA)),.ptr 2 0,.ptr 1 0] (dF dl sk dc ov T) (pB b) (dF dl sk dc ov T2)
abbrev zC(dl:Int)(sk dc:Lqq)(ov:PV)(x:List Int)(m:Int)(T T2:Lqb):Prop:=FMM Tp 160 [.p (.agg (x.map aA)),.ptr 2 0] (dF dl sk dc ov T) (pI m) (dF dl sk dc ov T2)
theorem bIv{k:Int}(h0:k=8){base:Nat}:FV Tp 155 [(pI k)] base (pB true) []:=by
 exact FV.fin Tryz.func155 rfl (o:=[bT,bT,bT]) (l:=[_,_,_]) (by kernel_rfl) (g3c (fB h0) gn)
theorem bIw{k:Int}{r0:Bool}(h0:k≠8)(er0:r0=(k == (9:Int))){base:Nat}:FV Tp 155 [(pI k)] base (pB r0) []:=by
 subst er0;exact FV.fin Tryz.func155 rfl (o:=[bF,bF,bF]) (l:=[_,_,_]) (by kernel_rfl) (g3c (bQ h0) gn)
theorem bIx{k:Int}{r0:Bool}(er0:r0=(k == (6:Int))){base:Nat}:FV Tp 159 [(pI k)] base (pB r0) []:=by
 subst er0;exact FV.fin Tryz.func159 rfl (o:=[]) (l:=[]) (by kernel_rfl) (gn)
theorem bPw{k:Int}(h0:k=4){base:Nat}:FV Tp 148 [(pI k)] base (pB true) []:=by
 exact FV.fin Tryz.func148 rfl (o:=[bT,bT,bT]) (l:=[_,_,_]) (by kernel_rfl) (g3c (fB h0) gn)
theorem bPx{k:Int}{r0:Bool}(h0:k≠4)(er0:r0=(k == (7:Int))){base:Nat}:FV Tp 148 [(pI k)] base (pB r0) []:=by
 subst er0;exact FV.fin Tryz.func148 rfl (o:=[bF,bF,bF]) (l:=[_,_,_]) (by kernel_rfl) (g3c (bQ h0) gn)
theorem mV(k:Int){base:Nat}:FV Tp 155 [.p (aA k)] base (pB (cG k)) []:=by
 by_cases h:k=8
 ·rw [show cG k=true by simp [cG,h]];exact bIv h
 ·exact bIw h (by simp [cG,h])
theorem aHg(k:Int){base:Nat}:FV Tp 159 [.p (aA k)] base (pB (k == 6)) []:=bIx rfl
theorem wU(k:Int){base:Nat}:FV Tp 148 [.p (aA k)] base (pB (gE k)) []:=by
 by_cases h:k=4
 ·rw [show gE k=true by simp [gE,h]];exact bPw h
 ·exact bPx h (by simp [gE,h])
theorem bPy{x0 x1 x2 x3 x4 x5:Int}{r0:Bool}(h0:(gE x1)=true)(er0:r0=(decide (x2 > dl))){base:Nat}:FV Tp 146 [(.rp (aH dl sk dc) 0),(.p (dcE x0 x1 x2 x3 x4 x5))] base (pB r0) []:=by
 subst er0;exact FV.fin Tryz.func146 rfl (o:=[.c (pB (gE x1)) [],bT,bT,bT,bT,bT,bT,bT,.x (aA dl),bT,bT]) (l:=[_,_,(aH dl sk dc)[0]? = some (aA dl),_,_,_,_,_,_,_,_]) (by kernel_rfl) (g2c h0 (gc rfl (g7c h0 (gc (fk 1 (wU x1) rfl) gn))))
theorem bPz{x0 x1 x2 x3 x4 x5:Int}(h0:(gE x1)=false){base:Nat}:FV Tp 146 [(.rp (aH dl sk dc) 0),(.p (dcE x0 x1 x2 x3 x4 x5))] base (pB false) []:=by
 exact FV.fin Tryz.func146 rfl (o:=[.c (pB (gE x1)) [],bF,bF,bF,bF,bF,bF,bF,bF,bF]) (l:=[_,_,_,_,_,_,_,_,_,_]) (by kernel_rfl) (g8c h0 (gc h0 (gc (fk 1 (wU x1) rfl) gn)))
theorem aHh(dl:Int)(sk dc:Lqq)(x0 x1 x2 x3 x4 x5:Int){base:Nat}:FV Tp 146 [qT dl sk dc,.p (.agg [aA x0,aA x1,aA x2,aA x3,aA x4,aA x5])] base (pB (kV dl [x0,x1,x2,x3,x4,x5])) []:=by
 cases h:gE x1 with
 | true=>exact bPy h (by show (gE x1 && decide (dl<x2))=_;rw [h];rfl)
 | false=>rw [show kV dl [x0,x1,x2,x3,x4,x5]=false by show (gE x1 && decide (dl<x2))=_;rw [h];rfl];exact bPz h
abbrev rW(ov:PV)(n:Int)(b:Bool):Prop:=∀ base:Nat,FV Tp 52 [.p ov,.p (aA n)] base (pB b) []
def cS(dl:Int)(sk:Lqq)(dc:Lqq)(ov:PV)(i:Nat)(l:Lqq)(n:Nat)(te:List (Value × PV))(tk:Nat)(c0:Int)(c1:Int)(c2:Int)(c3:Int)(c4:Int)(c5:Int):St:=⟨fr 35 [(1,(.fn 155 [] [])),(3,(.ptr 2 0)),(6,(.ptr 7 0)),(16,(.p (fS l))),(17,(pI (n:Int))),(18,(pI (i:Int)))],[some (vB0 dl sk dc),some (.box 33 [(.p ov)]),some vB2,some (.mp te tk),some (.box 207 [(.mp 3)]),some (vB5 dl sk dc),some vB6,some (.box 44 [(pI c0),(pI c1),(pI c2),(pI c3),(pI c4),(pI c5)])]⟩
theorem bIy{ov:PV}{T:Lqb}{x0 x1 x2 x3 x4 x5:Int}{y0:Lqq}{i'1:Nat}{l'2:Lqq}{n'3:Nat}{t'4:Lqb}{c0'5 c1'6 c2'7 c3'8 c4'9 c5'10:Int}(h0:cI .i64 (abE dc) (.int .i64 x0))(h1:(dR (abE dc) (.int .i64 x0))=true)(h2:fN (abE dc) (.int .i64 x0)=some (fS y0))(hl3:aI Tp 7 gL (cS dl sk dc ov 0 y0 y0.length (aF T) T.length (0:Int) (0:Int) (0:Int) (0:Int) (0:Int) (0:Int)) (.exit 0) (cS dl sk dc ov i'1 l'2 n'3 (aF t'4) t'4.length c0'5 c1'6 c2'7 c3'8 c4'9 c5'10)):FMM Tp 153 [(.p (dcE x0 x1 x2 x3 x4 x5)),(.fn 155 [] []),(.ptr 0 0),(.ptr 2 0)] (dF dl sk dc ov T) (.tup [(.p (dcE 0 0 0 0 0 0)),(pB false)]) (dF dl sk dc ov t'4):=by
 exact FMM.fin (k:=7) (g:=⟨[],[],[],[]⟩) rfl Tryz.func153 rfl (o:=[.x (.mp (abE dc)),bT,.x (fS y0),.k 1 ⟨(rng [(0,1),(2,1),(4,2),(7,9),(19,15)]),[8],[],[]⟩ (.exit 0) (cS dl sk dc ov i'1 l'2 n'3 (aF t'4) t'4.length c0'5 c1'6 c2'7 c3'8 c4'9 c5'10)]) (l:=[_,_,_,_,(aH dl sk dc)[4]? = some (.mp (abE dc))]) (by kernel_rfl) (gc hl3.code (gc h2 (gc h1 (gc h0 (gc rfl gn)))))
theorem bIz{ov:PV}{T:Lqb}{x0 x1 x2 x3 x4 x5:Int}{y0:Lqq}{i'1:Nat}{l'2:Lqq}{n'3:Nat}{t'4:Lqb}{c0'5 c1'6 c2'7 c3'8 c4'9 c5'10:Int}(h0:cI .i64 (abE dc) (.int .i64 x0))(h1:(dR (abE dc) (.int .i64 x0))=true)(h2:fN (abE dc) (.int .i64 x0)=some (fS y0))(hl3:aI Tp 7 gL (cS dl sk dc ov 0 y0 y0.length (aF T) T.length (0:Int) (0:Int) (0:Int) (0:Int) (0:Int) (0:Int)) .ret (cE (cS dl sk dc ov i'1 l'2 n'3 (aF t'4) t'4.length c0'5 c1'6 c2'7 c3'8 c4'9 c5'10) [(7,(.kb true))])):FMM Tp 153 [(.p (dcE x0 x1 x2 x3 x4 x5)),(.fn 155 [] []),(.ptr 0 0),(.ptr 2 0)] (dF dl sk dc ov T) (.tup [(.p (dcE c0'5 c1'6 c2'7 c3'8 c4'9 c5'10)),(pB true)]) (dF dl sk dc ov t'4):=by
 exact FMM.fin (k:=7) (g:=⟨[],[],[],[]⟩) rfl Tryz.func153 rfl (o:=[.x (.mp (abE dc)),bT,.x (fS y0),.k 1 ⟨(rng [(0,1),(2,1),(4,2),(7,9),(19,15)]),[8],[],[]⟩ .ret (cE (cS dl sk dc ov i'1 l'2 n'3 (aF t'4) t'4.length c0'5 c1'6 c2'7 c3'8 c4'9 c5'10) [(7,(.kb true))])]) (l:=[_,_,_,_,(aH dl sk dc)[4]? = some (.mp (abE dc))]) (by kernel_rfl) (gc hl3.code (gc h2 (gc h1 (gc h0 (gc rfl gn)))))
theorem bJa{ov:PV}{T:Lqb}{x0 x1 x2 x3 x4 x5:Int}{i'0:Nat}{l'1:Lqq}{n'2:Nat}{t'3:Lqb}{c0'4 c1'5 c2'6 c3'7 c4'8 c5'9:Int}(h0:cI .i64 (abE dc) (.int .i64 x0))(h1:(dR (abE dc) (.int .i64 x0))=false)(hl2:aI Tp 7 gL (cS dl sk dc ov 0 ([]:Lqq) 0 (aF T) T.length (0:Int) (0:Int) (0:Int) (0:Int) (0:Int) (0:Int)) (.exit 0) (cS dl sk dc ov i'0 l'1 n'2 (aF t'3) t'3.length c0'4 c1'5 c2'6 c3'7 c4'8 c5'9)):FMM Tp 153 [(.p (dcE x0 x1 x2 x3 x4 x5)),(.fn 155 [] []),(.ptr 0 0),(.ptr 2 0)] (dF dl sk dc ov T) (.tup [(.p (dcE 0 0 0 0 0 0)),(pB false)]) (dF dl sk dc ov t'3):=by
 exact FMM.fin (k:=7) (g:=⟨[],[],[],[]⟩) rfl Tryz.func153 rfl (o:=[.x (.mp (abE dc)),bF,.k 1 ⟨(rng [(0,1),(2,1),(4,2),(7,9),(19,15)]),[8],[],[(16,99999)]⟩ (.exit 0) (cS dl sk dc ov i'0 l'1 n'2 (aF t'3) t'3.length c0'4 c1'5 c2'6 c3'7 c4'8 c5'9)]) (l:=[_,_,_,(aH dl sk dc)[4]? = some (.mp (abE dc))]) (by kernel_rfl) (gc hl2.code (gc h1 (gc h0 (gc rfl gn))))
theorem aOu{ov:PV}{i:Nat}{l:Lqq}{n:Nat}{t:Lqb}{c0 c1 c2 c3 c4 c5 y100 y101 y102 y103 y104 y105:Int}{b106:Bool}{T107 t':Lqb}(h0:(i:Int)<(n:Int))(h1:l[i]? = some [y100,y101,y102,y103,y104,y105])(h2:uni 6 l)(h3:(cG y101)=true)(h4:qU dl sk dc ov [y100,y101,y102,y103,y104,y105] b106 t T107)(h5:b106=true)(et'e:aF t'=(aF T107))(et'k:t'.length=T107.length):aC Tp 7 gL (cS dl sk dc ov i l n (aF t) t.length c0 c1 c2 c3 c4 c5) .ret (cE (cS dl sk dc ov i l n (aF t') t'.length y100 y101 y102 y103 y104 y105) [(7,(.kb true))]):=by
 have raw:aC Tp 7 gL (cS dl sk dc ov i l n (aF t) t.length c0 c1 c2 c3 c4 c5) .ret (cE (cS dl sk dc ov i l n (aF T107) T107.length y100 y101 y102 y103 y104 y105) [(7,(.kb true))]):=aC.fin (g:=⟨(rng [(0,1),(2,1),(4,2),(8,8),(19,15)]),[7],[],[]⟩) (o:=[bT,.x (dcE y100 y101 y102 y103 y104 y105),.c (pB (cG y101)) [],bT,bT,bT,bT,.c (pB b106) (vU dl sk dc ov T107),bT,bT]) (l:=[_,_,FC Tp 154 [(.p (dcE y100 y101 y102 y103 y104 y105)),(.ptr 4 0),(.ptr 5 0),(.ptr 0 0),(.ptr 2 0)] [(4,(.box 207 [(.mp 3)])),(5,(vB5 dl sk dc)),(0,(vB0 dl sk dc)),(2,vB2),(3,(.mp (aF t) t.length)),(6,vB6),(1,(.box 33 [(.p ov)]))] 9 (pB b106) (vU dl sk dc ov T107),_,_,_,_,_,_,_,0≤(i:Int)∧(i:Int)<(l.length:Int)∧(i*6)<(l.flatten.map aA).length,_]) (by kernel_rfl) (gc h5 (gc h3 (gc (FMM.fc (ids:=[0,1,2,3,4,5,6]) h4 (by kernel_rfl)) (g4c h3 (gc (fk 9 (mV y101) rfl) (gc (aU (i:=i) h2 h1) (gc (bD (i:=i) h2 h1) (gc (bS (k:=6) (i:=(i:Int)) (by decide) h2 (kQ3 _) h1) (gc (bB h0) gn)))))))))
 exact raw.cast (by rw [et'e,et'k])
theorem aOv{ov:PV}{i:Nat}{l:Lqq}{n:Nat}{t:Lqb}{c0 c1 c2 c3 c4 c5 y100 y101 y102 y103 y104 y105:Int}{b106:Bool}{T107:Lqb}{i':Nat}{t':Lqb}(h0:(i:Int)<(n:Int))(h1:l[i]? = some [y100,y101,y102,y103,y104,y105])(h2:uni 6 l)(h3:(cG y101)=true)(h4:qU dl sk dc ov [y100,y101,y102,y103,y104,y105] b106 t T107)(h5:b106=false)(h6:inR (((i+1):Nat):Int))(ei':i'=(i+1))(et'e:aF t'=(aF T107))(et'k:t'.length=T107.length):aC Tp 7 gL (cS dl sk dc ov i l n (aF t) t.length c0 c1 c2 c3 c4 c5) .normal (cS dl sk dc ov i' l n (aF t') t'.length c0 c1 c2 c3 c4 c5):=by
 subst ei';have raw:aC Tp 7 gL (cS dl sk dc ov i l n (aF t) t.length c0 c1 c2 c3 c4 c5) .normal (cS dl sk dc ov (i+1) l n (aF T107) T107.length c0 c1 c2 c3 c4 c5):=aC.fin (g:=⟨(rng [(0,1),(2,1),(4,2),(7,9),(19,15)]),[7],[],[]⟩) (o:=[bT,.x (dcE y100 y101 y102 y103 y104 y105),.c (pB (cG y101)) [],bT,bT,bT,bT,.c (pB b106) (vU dl sk dc ov T107),bT,bF]) (l:=[_,_,_,FC Tp 154 [(.p (dcE y100 y101 y102 y103 y104 y105)),(.ptr 4 0),(.ptr 5 0),(.ptr 0 0),(.ptr 2 0)] [(4,(.box 207 [(.mp 3)])),(5,(vB5 dl sk dc)),(0,(vB0 dl sk dc)),(2,vB2),(3,(.mp (aF t) t.length)),(6,vB6),(1,(.box 33 [(.p ov)]))] 9 (pB b106) (vU dl sk dc ov T107),_,_,_,_,_,_,_,0≤(i:Int)∧(i:Int)<(l.length:Int)∧(i*6)<(l.flatten.map aA).length,_]) (by kernel_rfl) (gc h6 (gc h5 (gc h3 (gc (FMM.fc (ids:=[0,1,2,3,4,5,6]) h4 (by kernel_rfl)) (g4c h3 (gc (fk 9 (mV y101) rfl) (gc (aU (i:=i) h2 h1) (gc (bD (i:=i) h2 h1) (gc (bS (k:=6) (i:=(i:Int)) (by decide) h2 (kQ3 _) h1) (gc (bB h0) gn))))))))))
 exact raw.cast (by rw [et'e,et'k])
theorem aOw{ov:PV}{i:Nat}{l:Lqq}{n:Nat}{t:Lqb}{c0 c1 c2 c3 c4 c5 y100 y101 y102 y103 y104 y105:Int}{i':Nat}(h0:(i:Int)<(n:Int))(h1:l[i]? = some [y100,y101,y102,y103,y104,y105])(h2:uni 6 l)(h3:(cG y101)=false)(h4:inR (((i+1):Nat):Int))(ei':i'=(i+1)):aC Tp 7 gL (cS dl sk dc ov i l n (aF t) t.length c0 c1 c2 c3 c4 c5) .normal (cS dl sk dc ov i' l n (aF t) t.length c0 c1 c2 c3 c4 c5):=by
 subst ei';exact aC.fin (g:=⟨(rng [(0,1),(2,1),(4,2),(7,9),(19,15)]),[7],[],[]⟩) (o:=[bT,.x (dcE y100 y101 y102 y103 y104 y105),.c (pB (cG y101)) [],bF,bF,bF,bF,bF]) (l:=[_,_,_,_,_,_,_,_,_,0≤(i:Int)∧(i:Int)<(l.length:Int)∧(i*6)<(l.flatten.map aA).length,_]) (by kernel_rfl) (gc h4 (g5c h3 (gc (fk 9 (mV y101) rfl) (gc (aU (i:=i) h2 h1) (gc (bD (i:=i) h2 h1) (gc (bS (k:=6) (i:=(i:Int)) (by decide) h2 (kQ3 _) h1) (gc (bB h0) gn)))))))
theorem aOx{ov:PV}{i:Nat}{l:Lqq}{n:Nat}{t:Lqb}{c0 c1 c2 c3 c4 c5:Int}(h0:(n:Int)≤(i:Int)):aC Tp 7 gL (cS dl sk dc ov i l n (aF t) t.length c0 c1 c2 c3 c4 c5) (.exit 0) (cS dl sk dc ov i l n (aF t) t.length c0 c1 c2 c3 c4 c5):=by
 exact aC.fin (g:=⟨(rng [(0,1),(2,1),(4,2),(7,9),(19,15)]),[7],[],[]⟩) (o:=[bF]) (l:=[_]) (by kernel_rfl) (gc (bO h0) gn)
def cT(dl:Int)(sk:Lqq)(dc:Lqq)(ov:PV)(i:Nat)(l:Lqq)(n:Nat)(te:List (Value × PV))(tk:Nat)(c0:Int)(c1:Int)(c2:Int)(c3:Int)(c4:Int)(c5:Int):St:=⟨fr 35 [(1,(.fn 159 [] [])),(3,(.ptr 2 0)),(6,(.ptr 7 0)),(16,(.p (fS l))),(17,(pI (n:Int))),(18,(pI (i:Int)))],[some (vB0 dl sk dc),some (.box 33 [(.p ov)]),some vB2,some (.mp te tk),some (.box 207 [(.mp 3)]),some (vB5 dl sk dc),some vB6,some (.box 44 [(pI c0),(pI c1),(pI c2),(pI c3),(pI c4),(pI c5)])]⟩
theorem bJb{ov:PV}{T:Lqb}{x0 x1 x2 x3 x4 x5:Int}{y0:Lqq}{i'1:Nat}{l'2:Lqq}{n'3:Nat}{t'4:Lqb}{c0'5 c1'6 c2'7 c3'8 c4'9 c5'10:Int}(h0:cI .i64 (abE dc) (.int .i64 x0))(h1:(dR (abE dc) (.int .i64 x0))=true)(h2:fN (abE dc) (.int .i64 x0)=some (fS y0))(hl3:aI Tp 7 gL (cT dl sk dc ov 0 y0 y0.length (aF T) T.length (0:Int) (0:Int) (0:Int) (0:Int) (0:Int) (0:Int)) (.exit 0) (cT dl sk dc ov i'1 l'2 n'3 (aF t'4) t'4.length c0'5 c1'6 c2'7 c3'8 c4'9 c5'10)):FMM Tp 153 [(.p (dcE x0 x1 x2 x3 x4 x5)),(.fn 159 [] []),(.ptr 0 0),(.ptr 2 0)] (dF dl sk dc ov T) (.tup [(.p (dcE 0 0 0 0 0 0)),(pB false)]) (dF dl sk dc ov t'4):=by
 exact FMM.fin (k:=7) (g:=⟨[],[],[],[]⟩) rfl Tryz.func153 rfl (o:=[.x (.mp (abE dc)),bT,.x (fS y0),.k 1 ⟨(rng [(0,1),(2,1),(4,2),(7,9),(19,15)]),[8],[],[]⟩ (.exit 0) (cT dl sk dc ov i'1 l'2 n'3 (aF t'4) t'4.length c0'5 c1'6 c2'7 c3'8 c4'9 c5'10)]) (l:=[_,_,_,_,(aH dl sk dc)[4]? = some (.mp (abE dc))]) (by kernel_rfl) (gc hl3.code (gc h2 (gc h1 (gc h0 (gc rfl gn)))))
theorem bJc{ov:PV}{T:Lqb}{x0 x1 x2 x3 x4 x5:Int}{y0:Lqq}{i'1:Nat}{l'2:Lqq}{n'3:Nat}{t'4:Lqb}{c0'5 c1'6 c2'7 c3'8 c4'9 c5'10:Int}(h0:cI .i64 (abE dc) (.int .i64 x0))(h1:(dR (abE dc) (.int .i64 x0))=true)(h2:fN (abE dc) (.int .i64 x0)=some (fS y0))(hl3:aI Tp 7 gL (cT dl sk dc ov 0 y0 y0.length (aF T) T.length (0:Int) (0:Int) (0:Int) (0:Int) (0:Int) (0:Int)) .ret (cE (cT dl sk dc ov i'1 l'2 n'3 (aF t'4) t'4.length c0'5 c1'6 c2'7 c3'8 c4'9 c5'10) [(7,(.kb true))])):FMM Tp 153 [(.p (dcE x0 x1 x2 x3 x4 x5)),(.fn 159 [] []),(.ptr 0 0),(.ptr 2 0)] (dF dl sk dc ov T) (.tup [(.p (dcE c0'5 c1'6 c2'7 c3'8 c4'9 c5'10)),(pB true)]) (dF dl sk dc ov t'4):=by
 exact FMM.fin (k:=7) (g:=⟨[],[],[],[]⟩) rfl Tryz.func153 rfl (o:=[.x (.mp (abE dc)),bT,.x (fS y0),.k 1 ⟨(rng [(0,1),(2,1),(4,2),(7,9),(19,15)]),[8],[],[]⟩ .ret (cE (cT dl sk dc ov i'1 l'2 n'3 (aF t'4) t'4.length c0'5 c1'6 c2'7 c3'8 c4'9 c5'10) [(7,(.kb true))])]) (l:=[_,_,_,_,(aH dl sk dc)[4]? = some (.mp (abE dc))]) (by kernel_rfl) (gc hl3.code (gc h2 (gc h1 (gc h0 (gc rfl gn)))))
theorem bJd{ov:PV}{T:Lqb}{x0 x1 x2 x3 x4 x5:Int}{i'0:Nat}{l'1:Lqq}{n'2:Nat}{t'3:Lqb}{c0'4 c1'5 c2'6 c3'7 c4'8 c5'9:Int}(h0:cI .i64 (abE dc) (.int .i64 x0))(h1:(dR (abE dc) (.int .i64 x0))=false)(hl2:aI Tp 7 gL (cT dl sk dc ov 0 ([]:Lqq) 0 (aF T) T.length (0:Int) (0:Int) (0:Int) (0:Int) (0:Int) (0:Int)) (.exit 0) (cT dl sk dc ov i'0 l'1 n'2 (aF t'3) t'3.length c0'4 c1'5 c2'6 c3'7 c4'8 c5'9)):FMM Tp 153 [(.p (dcE x0 x1 x2 x3 x4 x5)),(.fn 159 [] []),(.ptr 0 0),(.ptr 2 0)] (dF dl sk dc ov T) (.tup [(.p (dcE 0 0 0 0 0 0)),(pB false)]) (dF dl sk dc ov t'3):=by
 exact FMM.fin (k:=7) (g:=⟨[],[],[],[]⟩) rfl Tryz.func153 rfl (o:=[.x (.mp (abE dc)),bF,.k 1 ⟨(rng [(0,1),(2,1),(4,2),(7,9),(19,15)]),[8],[],[(16,99999)]⟩ (.exit 0) (cT dl sk dc ov i'0 l'1 n'2 (aF t'3) t'3.length c0'4 c1'5 c2'6 c3'7 c4'8 c5'9)]) (l:=[_,_,_,(aH dl sk dc)[4]? = some (.mp (abE dc))]) (by kernel_rfl) (gc hl2.code (gc h1 (gc h0 (gc rfl gn))))
theorem aOy{ov:PV}{i:Nat}{l:Lqq}{n:Nat}{t:Lqb}{c0 c1 c2 c3 c4 c5 y100 y101 y102 y103 y104 y105:Int}{b106:Bool}{T107 t':Lqb}(h0:(i:Int)<(n:Int))(h1:l[i]? = some [y100,y101,y102,y103,y104,y105])(h2:uni 6 l)(h3:(y101 == 6)=true)(h4:qU dl sk dc ov [y100,y101,y102,y103,y104,y105] b106 t T107)(h5:b106=true)(et'e:aF t'=(aF T107))(et'k:t'.length=T107.length):aC Tp 7 gL (cT dl sk dc ov i l n (aF t) t.length c0 c1 c2 c3 c4 c5) .ret (cE (cT dl sk dc ov i l n (aF t') t'.length y100 y101 y102 y103 y104 y105) [(7,(.kb true))]):=by
 have raw:aC Tp 7 gL (cT dl sk dc ov i l n (aF t) t.length c0 c1 c2 c3 c4 c5) .ret (cE (cT dl sk dc ov i l n (aF T107) T107.length y100 y101 y102 y103 y104 y105) [(7,(.kb true))]):=aC.fin (g:=⟨(rng [(0,1),(2,1),(4,2),(8,8),(19,15)]),[7],[],[]⟩) (o:=[bT,.x (dcE y100 y101 y102 y103 y104 y105),.c (pB (y101 == 6)) [],bT,bT,bT,bT,.c (pB b106) (vU dl sk dc ov T107),bT,bT]) (l:=[_,_,FC Tp 154 [(.p (dcE y100 y101 y102 y103 y104 y105)),(.ptr 4 0),(.ptr 5 0),(.ptr 0 0),(.ptr 2 0)] [(4,(.box 207 [(.mp 3)])),(5,(vB5 dl sk dc)),(0,(vB0 dl sk dc)),(2,vB2),(3,(.mp (aF t) t.length)),(6,vB6),(1,(.box 33 [(.p ov)]))] 9 (pB b106) (vU dl sk dc ov T107),_,_,_,_,_,_,_,0≤(i:Int)∧(i:Int)<(l.length:Int)∧(i*6)<(l.flatten.map aA).length,_]) (by kernel_rfl) (gc h5 (gc h3 (gc (FMM.fc (ids:=[0,1,2,3,4,5,6]) h4 (by kernel_rfl)) (g4c h3 (gc (fk 9 (aHg y101) rfl) (gc (aU (i:=i) h2 h1) (gc (bD (i:=i) h2 h1) (gc (bS (k:=6) (i:=(i:Int)) (by decide) h2 (kQ3 _) h1) (gc (bB h0) gn)))))))))
 exact raw.cast (by rw [et'e,et'k])
theorem aOz{ov:PV}{i:Nat}{l:Lqq}{n:Nat}{t:Lqb}{c0 c1 c2 c3 c4 c5 y100 y101 y102 y103 y104 y105:Int}{b106:Bool}{T107:Lqb}{i':Nat}{t':Lqb}(h0:(i:Int)<(n:Int))(h1:l[i]? = some [y100,y101,y102,y103,y104,y105])(h2:uni 6 l)(h3:(y101 == 6)=true)(h4:qU dl sk dc ov [y100,y101,y102,y103,y104,y105] b106 t T107)(h5:b106=false)(h6:inR (((i+1):Nat):Int))(ei':i'=(i+1))(et'e:aF t'=(aF T107))(et'k:t'.length=T107.length):aC Tp 7 gL (cT dl sk dc ov i l n (aF t) t.length c0 c1 c2 c3 c4 c5) .normal (cT dl sk dc ov i' l n (aF t') t'.length c0 c1 c2 c3 c4 c5):=by
 subst ei';have raw:aC Tp 7 gL (cT dl sk dc ov i l n (aF t) t.length c0 c1 c2 c3 c4 c5) .normal (cT dl sk dc ov (i+1) l n (aF T107) T107.length c0 c1 c2 c3 c4 c5):=aC.fin (g:=⟨(rng [(0,1),(2,1),(4,2),(7,9),(19,15)]),[7],[],[]⟩) (o:=[bT,.x (dcE y100 y101 y102 y103 y104 y105),.c (pB (y101 == 6)) [],bT,bT,bT,bT,.c (pB b106) (vU dl sk dc ov T107),bT,bF]) (l:=[_,_,_,FC Tp 154 [(.p (dcE y100 y101 y102 y103 y104 y105)),(.ptr 4 0),(.ptr 5 0),(.ptr 0 0),(.ptr 2 0)] [(4,(.box 207 [(.mp 3)])),(5,(vB5 dl sk dc)),(0,(vB0 dl sk dc)),(2,vB2),(3,(.mp (aF t) t.length)),(6,vB6),(1,(.box 33 [(.p ov)]))] 9 (pB b106) (vU dl sk dc ov T107),_,_,_,_,_,_,_,0≤(i:Int)∧(i:Int)<(l.length:Int)∧(i*6)<(l.flatten.map aA).length,_]) (by kernel_rfl) (gc h6 (gc h5 (gc h3 (gc (FMM.fc (ids:=[0,1,2,3,4,5,6]) h4 (by kernel_rfl)) (g4c h3 (gc (fk 9 (aHg y101) rfl) (gc (aU (i:=i) h2 h1) (gc (bD (i:=i) h2 h1) (gc (bS (k:=6) (i:=(i:Int)) (by decide) h2 (kQ3 _) h1) (gc (bB h0) gn))))))))))
 exact raw.cast (by rw [et'e,et'k])
theorem aPa{ov:PV}{i:Nat}{l:Lqq}{n:Nat}{t:Lqb}{c0 c1 c2 c3 c4 c5 y100 y101 y102 y103 y104 y105:Int}{i':Nat}(h0:(i:Int)<(n:Int))(h1:l[i]? = some [y100,y101,y102,y103,y104,y105])(h2:uni 6 l)(h3:(y101 == 6)=false)(h4:inR (((i+1):Nat):Int))(ei':i'=(i+1)):aC Tp 7 gL (cT dl sk dc ov i l n (aF t) t.length c0 c1 c2 c3 c4 c5) .normal (cT dl sk dc ov i' l n (aF t) t.length c0 c1 c2 c3 c4 c5):=by
 subst ei';exact aC.fin (g:=⟨(rng [(0,1),(2,1),(4,2),(7,9),(19,15)]),[7],[],[]⟩) (o:=[bT,.x (dcE y100 y101 y102 y103 y104 y105),.c (pB (y101 == 6)) [],bF,bF,bF,bF,bF]) (l:=[_,_,_,_,_,_,_,_,_,0≤(i:Int)∧(i:Int)<(l.length:Int)∧(i*6)<(l.flatten.map aA).length,_]) (by kernel_rfl) (gc h4 (g5c h3 (gc (fk 9 (aHg y101) rfl) (gc (aU (i:=i) h2 h1) (gc (bD (i:=i) h2 h1) (gc (bS (k:=6) (i:=(i:Int)) (by decide) h2 (kQ3 _) h1) (gc (bB h0) gn)))))))
theorem aPb{ov:PV}{i:Nat}{l:Lqq}{n:Nat}{t:Lqb}{c0 c1 c2 c3 c4 c5:Int}(h0:(n:Int)≤(i:Int)):aC Tp 7 gL (cT dl sk dc ov i l n (aF t) t.length c0 c1 c2 c3 c4 c5) (.exit 0) (cT dl sk dc ov i l n (aF t) t.length c0 c1 c2 c3 c4 c5):=by
 exact aC.fin (g:=⟨(rng [(0,1),(2,1),(4,2),(7,9),(19,15)]),[7],[],[]⟩) (o:=[bF]) (l:=[_]) (by kernel_rfl) (gc (bO h0) gn)
def bR(dl:Int)(sk:Lqq)(dc:Lqq)(ov:PV)(x0:Int)(x1:Int)(x2:Int)(x3:Int)(x4:Int)(x5:Int)(is:Bool)(i:Nat)(l:Lqq)(n:Nat)(te:List (Value × PV))(tk:Nat):St:=⟨fr 79 [(1,(.ptr 4 0)),(4,(.ptr 2 0)),(5,(.ptr 7 0)),(6,(.kb false)),(9,(pB is)),(32,(.p (fS l))),(33,(pI (n:Int))),(34,(pI (i:Int)))],[some (vB0 dl sk dc),some (.box 33 [(.p ov)]),some vB2,some (.mp te tk),some (.box 207 [(.mp 3)]),some (vB5 dl sk dc),some vB6,some (.box 44 [(pI x0),(pI x1),(pI x2),(pI x3),(pI x4),(pI x5)])]⟩
theorem bQa{ov:PV}{T:Lqb}{x0 x1 x2 x3 x4 x5:Int}{y0:Bool}(h0:cI .i64 (aF T) (.int .i64 x0))(h1:(dR (aF T) (.int .i64 x0))=true)(h2:fN (aF T) (.int .i64 x0)=some (blP y0)):FMM Tp 154 [(.p (dcE x0 x1 x2 x3 x4 x5)),(.ptr 4 0),(.ptr 5 0),(.ptr 0 0),(.ptr 2 0)] (dF dl sk dc ov T) (pB y0) (dF dl sk dc ov T):=by
 exact FMM.fin (k:=7) (g:=⟨[],[],[],[]⟩) rfl Tryz.func154 rfl (o:=[bT,.x (blP y0)]) (l:=[_,_,_]) (by kernel_rfl) (gc h2 (gc h1 (gc h0 gn)))
theorem bQb{ov:PV}{T:Lqb}{x0 x1 x2 x3 x4 x5:Int}{y0:Lqq}{is'1:Bool}{i'2:Nat}{l'3:Lqq}{n'4:Nat}{t'5:Lqb}(h0:cI .i64 (aF T) (.int .i64 x0))(h1:(dR (aF T) (.int .i64 x0))=false)(h2:cI .i64 (abE dc) (.int .i64 x0))(h3:(dR (abE dc) (.int .i64 x0))=true)(h4:fN (abE dc) (.int .i64 x0)=some (fS y0))(hl5:aI Tp 7 fJ (bR dl sk dc ov x0 x1 x2 x3 x4 x5 (!(kV dl [x0,x1,x2,x3,x4,x5])) 0 y0 y0.length (aF T) T.length) (.exit 0) (bR dl sk dc ov x0 x1 x2 x3 x4 x5 is'1 i'2 l'3 n'4 (aF t'5) t'5.length))(h6:cI .i64 (aF t'5) (.int .i64 x0))(h7:(dR (aF t'5) (.int .i64 x0))=true):FMM Tp 154 [(.p (dcE x0 x1 x2 x3 x4 x5)),(.ptr 4 0),(.ptr 5 0),(.ptr 0 0),(.ptr 2 0)] (dF dl sk dc ov T) (pB is'1) [some (vB0 dl sk dc),some (.box 33 [(.p ov)]),some vB2,some (.mp (oG (aF t'5) (.int .i64 x0) (blP is'1)) t'5.length),some (.box 207 [(.mp 3)]),some (vB5 dl sk dc),some vB6]:=by
 exact FMM.fin (k:=7) (g:=⟨[],[],[],[]⟩) rfl Tryz.func154 rfl (o:=[bF,.c (pB (kV dl [x0,x1,x2,x3,x4,x5])) [],.x (.mp (abE dc)),bT,.x (fS y0),.k 1 ⟨(rng [(0,1),(2,2),(7,2),(10,22),(35,39)]),[7],[],[]⟩ (.exit 0) (bR dl sk dc ov x0 x1 x2 x3 x4 x5 is'1 i'2 l'3 n'4 (aF t'5) t'5.length),bT]) (l:=[_,_,_,_,_,_,(aH dl sk dc)[4]? = some (.mp (abE dc)),_,_,_]) (by kernel_rfl) (gc h7 (gc h6 (gc hl5.code (gc h4 (gc h3 (gc h2 (gc rfl (gc (fk 8 (aHh dl sk dc x0 x1 x2 x3 x4 x5) rfl) (gc h1 (gc h0 gn))))))))))
theorem bQc{ov:PV}{T:Lqb}{x0 x1 x2 x3 x4 x5:Int}{y0:Lqq}{is'1:Bool}{i'2:Nat}{l'3:Lqq}{n'4:Nat}{t'5:Lqb}(h0:cI .i64 (aF T) (.int .i64 x0))(h1:(dR (aF T) (.int .i64 x0))=false)(h2:cI .i64 (abE dc) (.int .i64 x0))(h3:(dR (abE dc) (.int .i64 x0))=true)(h4:fN (abE dc) (.int .i64 x0)=some (fS y0))(hl5:aI Tp 7 fJ (bR dl sk dc ov x0 x1 x2 x3 x4 x5 (!(kV dl [x0,x1,x2,x3,x4,x5])) 0 y0 y0.length (aF T) T.length) (.exit 0) (bR dl sk dc ov x0 x1 x2 x3 x4 x5 is'1 i'2 l'3 n'4 (aF t'5) t'5.length))(h6:cI .i64 (aF t'5) (.int .i64 x0))(h7:(dR (aF t'5) (.int .i64 x0))=false):FMM Tp 154 [(.p (dcE x0 x1 x2 x3 x4 x5)),(.ptr 4 0),(.ptr 5 0),(.ptr 0 0),(.ptr 2 0)] (dF dl sk dc ov T) (pB is'1) [some (vB0 dl sk dc),some (.box 33 [(.p ov)]),some vB2,some (.mp ((aF t'5)++[((.int .i64 x0),(blP is'1))]) (t'5.length+1)),some (.box 207 [(.mp 3)]),some (vB5 dl sk dc),some vB6]:=by
 exact FMM.fin (k:=7) (g:=⟨[],[],[],[]⟩) rfl Tryz.func154 rfl (o:=[bF,.c (pB (kV dl [x0,x1,x2,x3,x4,x5])) [],.x (.mp (abE dc)),bT,.x (fS y0),.k 1 ⟨(rng [(0,1),(2,2),(7,2),(10,22),(35,39)]),[7],[],[]⟩ (.exit 0) (bR dl sk dc ov x0 x1 x2 x3 x4 x5 is'1 i'2 l'3 n'4 (aF t'5) t'5.length),bF]) (l:=[_,_,_,_,_,_,(aH dl sk dc)[4]? = some (.mp (abE dc)),_,_,_]) (by kernel_rfl) (gc h7 (gc h6 (gc hl5.code (gc h4 (gc h3 (gc h2 (gc rfl (gc (fk 8 (aHh dl sk dc x0 x1 x2 x3 x4 x5) rfl) (gc h1 (gc h0 gn))))))))))
theorem bQd{ov:PV}{T:Lqb}{x0 x1 x2 x3 x4 x5:Int}{is'0:Bool}{i'1:Nat}{l'2:Lqq}{n'3:Nat}{t'4:Lqb}(h0:cI .i64 (aF T) (.int .i64 x0))(h1:(dR (aF T) (.int .i64 x0))=false)(h2:cI .i64 (abE dc) (.int .i64 x0))(h3:(dR (abE dc) (.int .i64 x0))=false)(hl4:aI Tp 7 fJ (bR dl sk dc ov x0 x1 x2 x3 x4 x5 (!(kV dl [x0,x1,x2,x3,x4,x5])) 0 ([]:Lqq) 0 (aF T) T.length) (.exit 0) (bR dl sk dc ov x0 x1 x2 x3 x4 x5 is'0 i'1 l'2 n'3 (aF t'4) t'4.length))(h5:cI .i64 (aF t'4) (.int .i64 x0))(h6:(dR (aF t'4) (.int .i64 x0))=true):FMM Tp 154 [(.p (dcE x0 x1 x2 x3 x4 x5)),(.ptr 4 0),(.ptr 5 0),(.ptr 0 0),(.ptr 2 0)] (dF dl sk dc ov T) (pB is'0) [some (vB0 dl sk dc),some (.box 33 [(.p ov)]),some vB2,some (.mp (oG (aF t'4) (.int .i64 x0) (blP is'0)) t'4.length),some (.box 207 [(.mp 3)]),some (vB5 dl sk dc),some vB6]:=by
 exact FMM.fin (k:=7) (g:=⟨[],[],[],[]⟩) rfl Tryz.func154 rfl (o:=[bF,.c (pB (kV dl [x0,x1,x2,x3,x4,x5])) [],.x (.mp (abE dc)),bF,.k 1 ⟨(rng [(0,1),(2,2),(7,2),(10,22),(35,39)]),[7],[],[(32,99999)]⟩ (.exit 0) (bR dl sk dc ov x0 x1 x2 x3 x4 x5 is'0 i'1 l'2 n'3 (aF t'4) t'4.length),bT]) (l:=[_,_,_,_,_,(aH dl sk dc)[4]? = some (.mp (abE dc)),_,_,_]) (by kernel_rfl) (gc h6 (gc h5 (gc hl4.code (gc h3 (gc h2 (gc rfl (gc (fk 8 (aHh dl sk dc x0 x1 x2 x3 x4 x5) rfl) (gc h1 (gc h0 gn)))))))))
theorem bQe{ov:PV}{T:Lqb}{x0 x1 x2 x3 x4 x5:Int}{is'0:Bool}{i'1:Nat}{l'2:Lqq}{n'3:Nat}{t'4:Lqb}(h0:cI .i64 (aF T) (.int .i64 x0))(h1:(dR (aF T) (.int .i64 x0))=false)(h2:cI .i64 (abE dc) (.int .i64 x0))(h3:(dR (abE dc) (.int .i64 x0))=false)(hl4:aI Tp 7 fJ (bR dl sk dc ov x0 x1 x2 x3 x4 x5 (!(kV dl [x0,x1,x2,x3,x4,x5])) 0 ([]:Lqq) 0 (aF T) T.length) (.exit 0) (bR dl sk dc ov x0 x1 x2 x3 x4 x5 is'0 i'1 l'2 n'3 (aF t'4) t'4.length))(h5:cI .i64 (aF t'4) (.int .i64 x0))(h6:(dR (aF t'4) (.int .i64 x0))=false):FMM Tp 154 [(.p (dcE x0 x1 x2 x3 x4 x5)),(.ptr 4 0),(.ptr 5 0),(.ptr 0 0),(.ptr 2 0)] (dF dl sk dc ov T) (pB is'0) [some (vB0 dl sk dc),some (.box 33 [(.p ov)]),some vB2,some (.mp ((aF t'4)++[((.int .i64 x0),(blP is'0))]) (t'4.length+1)),some (.box 207 [(.mp 3)]),some (vB5 dl sk dc),some vB6]:=by
 exact FMM.fin (k:=7) (g:=⟨[],[],[],[]⟩) rfl Tryz.func154 rfl (o:=[bF,.c (pB (kV dl [x0,x1,x2,x3,x4,x5])) [],.x (.mp (abE dc)),bF,.k 1 ⟨(rng [(0,1),(2,2),(7,2),(10,22),(35,39)]),[7],[],[(32,99999)]⟩ (.exit 0) (bR dl sk dc ov x0 x1 x2 x3 x4 x5 is'0 i'1 l'2 n'3 (aF t'4) t'4.length),bF]) (l:=[_,_,_,_,_,(aH dl sk dc)[4]? = some (.mp (abE dc)),_,_,_]) (by kernel_rfl) (gc h6 (gc h5 (gc hl4.code (gc h3 (gc h2 (gc rfl (gc (fk 8 (aHh dl sk dc x0 x1 x2 x3 x4 x5) rfl) (gc h1 (gc h0 gn)))))))))
theorem aXh{ov:PV}{x0 x1 x2 x3 x4 x5:Int}{is:Bool}{i:Nat}{l:Lqq}{n:Nat}{t:Lqb}{y100 y101 y102 y103 y104 y105:Int}{b106:Bool}{T107:Lqb}{i':Nat}{t':Lqb}(h0:(i:Int)<(n:Int))(h1:l[i]? = some [y100,y101,y102,y103,y104,y105])(h2:uni 6 l)(h3:y101=5)(h4:is=true)(h5:qU dl sk dc ov [y100,y101,y102,y103,y104,y105] b106 t T107)(h6:b106=true)(h7:inR (((i+1):Nat):Int))(ei':i'=(i+1))(et'e:aF t'=(aF T107))(et'k:t'.length=T107.length):aC Tp 7 fJ (bR dl sk dc ov x0 x1 x2 x3 x4 x5 is i l n (aF t) t.length) .normal (bR dl sk dc ov x0 x1 x2 x3 x4 x5 false i' l n (aF t') t'.length):=by
 subst ei';have raw:aC Tp 7 fJ (bR dl sk dc ov x0 x1 x2 x3 x4 x5 is i l n (aF t) t.length) .normal (bR dl sk dc ov x0 x1 x2 x3 x4 x5 false (i+1) l n (aF T107) T107.length):=aC.fin (g:=⟨(rng [(0,1),(2,2),(7,2),(10,22),(35,39)]),[7],[],[(9,0)]⟩) (o:=[bT,.x (dcE y100 y101 y102 y103 y104 y105),bT,bT,bT,bT,bT,bT,bT,bT,.c (pB b106) (vU dl sk dc ov T107),bT,bT,bT,bT,bT,bT,bT,bT,bT,bT,bT]) (l:=[_,_,_,_,_,_,_,_,_,_,_,_,FC Tp 154 [(.p (dcE y100 y101 y102 y103 y104 y105)),(.ptr 4 0),(.ptr 5 0),(.ptr 0 0),(.ptr 2 0)] [(4,(.box 207 [(.mp 3)])),(5,(vB5 dl sk dc)),(0,(vB0 dl sk dc)),(2,vB2),(3,(.mp (aF t) t.length)),(6,vB6),(1,(.box 33 [(.p ov)]))] 9 (pB b106) (vU dl sk dc ov T107),_,_,_,_,_,_,_,_,_,_,0≤(i:Int)∧(i:Int)<(l.length:Int)∧(i*6)<(l.flatten.map aA).length,_]) (by kernel_rfl) (gc h7 (gc h6 (gc (fB h3) (gc h6 (g4c (fB h3) (g4c h6 (gc (FMM.fc (ids:=[0,1,2,3,4,5,6]) h5 (by kernel_rfl)) (g2c h4 (g6c (fB h3) (gc (aU (i:=i) h2 h1) (gc (bD (i:=i) h2 h1) (gc (bS (k:=6) (i:=(i:Int)) (by decide) h2 (kQ3 _) h1) (gc (bB h0) gn)))))))))))))
 exact raw.cast (by rw [et'e,et'k])
theorem aXi{ov:PV}{x0 x1 x2 x3 x4 x5:Int}{is:Bool}{i:Nat}{l:Lqq}{n:Nat}{t:Lqb}{y100 y101 y102 y103 y104 y105:Int}{b106:Bool}{T107:Lqb}{i':Nat}{t':Lqb}(h0:(i:Int)<(n:Int))(h1:l[i]? = some [y100,y101,y102,y103,y104,y105])(h2:uni 6 l)(h3:y101=5)(h4:is=true)(h5:qU dl sk dc ov [y100,y101,y102,y103,y104,y105] b106 t T107)(h6:b106=false)(h7:inR (((i+1):Nat):Int))(ei':i'=(i+1))(et'e:aF t'=(aF T107))(et'k:t'.length=T107.length):aC Tp 7 fJ (bR dl sk dc ov x0 x1 x2 x3 x4 x5 is i l n (aF t) t.length) .normal (bR dl sk dc ov x0 x1 x2 x3 x4 x5 is i' l n (aF t') t'.length):=by
 subst ei';have raw:aC Tp 7 fJ (bR dl sk dc ov x0 x1 x2 x3 x4 x5 is i l n (aF t) t.length) .normal (bR dl sk dc ov x0 x1 x2 x3 x4 x5 is (i+1) l n (aF T107) T107.length):=aC.fin (g:=⟨(rng [(0,1),(2,2),(7,2),(10,22),(35,39)]),[7],[],[]⟩) (o:=[bT,.x (dcE y100 y101 y102 y103 y104 y105),bT,bT,bT,bT,bT,bT,bT,bT,.c (pB b106) (vU dl sk dc ov T107),bF,bF,bF,bF,bF,bF]) (l:=[_,_,_,_,_,_,_,FC Tp 154 [(.p (dcE y100 y101 y102 y103 y104 y105)),(.ptr 4 0),(.ptr 5 0),(.ptr 0 0),(.ptr 2 0)] [(4,(.box 207 [(.mp 3)])),(5,(vB5 dl sk dc)),(0,(vB0 dl sk dc)),(2,vB2),(3,(.mp (aF t) t.length)),(6,vB6),(1,(.box 33 [(.p ov)]))] 9 (pB b106) (vU dl sk dc ov T107),_,_,_,_,_,_,_,_,_,_,0≤(i:Int)∧(i:Int)<(l.length:Int)∧(i*6)<(l.flatten.map aA).length,_]) (by kernel_rfl) (gc h7 (g6c h6 (gc (FMM.fc (ids:=[0,1,2,3,4,5,6]) h5 (by kernel_rfl)) (g2c h4 (g6c (fB h3) (gc (aU (i:=i) h2 h1) (gc (bD (i:=i) h2 h1) (gc (bS (k:=6) (i:=(i:Int)) (by decide) h2 (kQ3 _) h1) (gc (bB h0) gn)))))))))
 exact raw.cast (by rw [et'e,et'k])
theorem aXj{ov:PV}{x0 x1 x2 x3 x4 x5:Int}{is:Bool}{i:Nat}{l:Lqq}{n:Nat}{t:Lqb}{y100 y101 y102 y103 y104 y105:Int}{i':Nat}(h0:(i:Int)<(n:Int))(h1:l[i]? = some [y100,y101,y102,y103,y104,y105])(h2:uni 6 l)(h3:y101=5)(h4:is=false)(h5:inR (((i+1):Nat):Int))(ei':i'=(i+1)):aC Tp 7 fJ (bR dl sk dc ov x0 x1 x2 x3 x4 x5 is i l n (aF t) t.length) .normal (bR dl sk dc ov x0 x1 x2 x3 x4 x5 is i' l n (aF t) t.length):=by
 subst ei';exact aC.fin (g:=⟨(rng [(0,1),(2,2),(7,2),(10,22),(35,39)]),[7],[],[]⟩) (o:=[bT,.x (dcE y100 y101 y102 y103 y104 y105),bT,bT,bT,bT,bT,bT,bF,bF]) (l:=[_,_,_,_,_,_,_,_,_,_,_,0≤(i:Int)∧(i:Int)<(l.length:Int)∧(i*6)<(l.flatten.map aA).length,_]) (by kernel_rfl) (gc h5 (g2c h4 (g6c (fB h3) (gc (aU (i:=i) h2 h1) (gc (bD (i:=i) h2 h1) (gc (bS (k:=6) (i:=(i:Int)) (by decide) h2 (kQ3 _) h1) (gc (bB h0) gn)))))))
theorem aXk{ov:PV}{x0 x1 x2 x3 x4 x5:Int}{is:Bool}{i:Nat}{l:Lqq}{n:Nat}{t:Lqb}{y100 y101 y102 y103 y104 y105:Int}{b106:Bool}{T107:Lqb}{b108:Bool}{T109:Lqb}{i':Nat}{t':Lqb}(h0:(i:Int)<(n:Int))(h1:l[i]? = some [y100,y101,y102,y103,y104,y105])(h2:uni 6 l)(h3:y101≠5)(h4:y101=7)(h5:is=true)(h6:(cG x1)=false)(h7:qU dl sk dc ov [y100,y101,y102,y103,y104,y105] b106 t T107)(h8:b106=true)(h9:bIu dl sk dc ov [y100,y101,y102,y103,y104,y105] b108 T107 T109)(h10:b108=true)(h11:inR (((i+1):Nat):Int))(ei':i'=(i+1))(et'e:aF t'=(aF T109))(et'k:t'.length=T109.length):aC Tp 7 fJ (bR dl sk dc ov x0 x1 x2 x3 x4 x5 is i l n (aF t) t.length) .normal (bR dl sk dc ov x0 x1 x2 x3 x4 x5 false i' l n (aF t') t'.length):=by
 subst ei';have raw:aC Tp 7 fJ (bR dl sk dc ov x0 x1 x2 x3 x4 x5 is i l n (aF t) t.length) .normal (bR dl sk dc ov x0 x1 x2 x3 x4 x5 false (i+1) l n (aF T109) T109.length):=aC.fin (g:=⟨(rng [(0,1),(2,2),(7,2),(10,22),(35,39)]),[7],[],[(9,0)]⟩) (o:=[bT,.x (dcE y100 y101 y102 y103 y104 y105),bF,bF,bF,bF,bT,bT,bT,.c (pB (cG x1)) [],bT,bF,bT,bF,bT,bT,bT,bT,bT,bT,.c (pB b106) (vU dl sk dc ov T107),bT,bT,bT,bT,bT,bF,bF,bF,bF,.c (pB b108) (vU dl sk dc ov T109),bT,bF,bT,bT]) (l:=[_,_,_,_,_,FC Tp 157 [(.p (dcE y100 y101 y102 y103 y104 y105)),(.ptr 2 0),(.ptr 1 0)] [(2,vB2),(1,(.box 33 [(.p ov)])),(4,(.box 207 [(.mp 3)])),(5,(vB5 dl sk dc)),(0,(vB0 dl sk dc)),(6,vB6),(3,(.mp (aF T107) T107.length))] 9 (pB b108) (vU dl sk dc ov T109),_,_,_,_,_,_,_,_,_,FC Tp 154 [(.p (dcE y100 y101 y102 y103 y104 y105)),(.ptr 4 0),(.ptr 5 0),(.ptr 0 0),(.ptr 2 0)] [(4,(.box 207 [(.mp 3)])),(5,(vB5 dl sk dc)),(0,(vB0 dl sk dc)),(2,vB2),(3,(.mp (aF t) t.length)),(6,vB6),(1,(.box 33 [(.p ov)]))] 9 (pB b106) (vU dl sk dc ov T107),_,_,_,_,_,_,_,_,_,_,_,_,_,_,_,_,_,_,_,_,0≤(i:Int)∧(i:Int)<(l.length:Int)∧(i*6)<(l.flatten.map aA).length,_]) (by kernel_rfl) (gc h11 (gc h10 (gc h8 (gc (bQ h3) (gc h8 (gc (FMM.fc (ids:=[0,1,2,3,4,5,6]) h9 (by kernel_rfl)) (g4c (bQ h3) (g4c h8 (gc (cU h6) (gc (FMM.fc (ids:=[0,1,2,3,4,5,6]) h7 (by kernel_rfl)) (g4c (cU h6) (g2c h5 (gc (bQ h3) (gc (fB h4) (gc (bQ h3) (gc (fB h4) (gc (fk 9 (mV x1) rfl) (g3c (fB h4) (g4c (bQ h3) (gc (aU (i:=i) h2 h1) (gc (bD (i:=i) h2 h1) (gc (bS (k:=6) (i:=(i:Int)) (by decide) h2 (kQ3 _) h1) (gc (bB h0) gn)))))))))))))))))))))))
 exact raw.cast (by rw [et'e,et'k])
theorem aXl{ov:PV}{x0 x1 x2 x3 x4 x5:Int}{is:Bool}{i:Nat}{l:Lqq}{n:Nat}{t:Lqb}{y100 y101 y102 y103 y104 y105:Int}{b106:Bool}{T107:Lqb}{b108:Bool}{T109:Lqb}{i':Nat}{t':Lqb}(h0:(i:Int)<(n:Int))(h1:l[i]? = some [y100,y101,y102,y103,y104,y105])(h2:uni 6 l)(h3:y101≠5)(h4:y101=7)(h5:is=true)(h6:(cG x1)=false)(h7:qU dl sk dc ov [y100,y101,y102,y103,y104,y105] b106 t T107)(h8:b106=true)(h9:bIu dl sk dc ov [y100,y101,y102,y103,y104,y105] b108 T107 T109)(h10:b108=false)(h11:inR (((i+1):Nat):Int))(ei':i'=(i+1))(et'e:aF t'=(aF T109))(et'k:t'.length=T109.length):aC Tp 7 fJ (bR dl sk dc ov x0 x1 x2 x3 x4 x5 is i l n (aF t) t.length) .normal (bR dl sk dc ov x0 x1 x2 x3 x4 x5 is i' l n (aF t') t'.length):=by
 subst ei';have raw:aC Tp 7 fJ (bR dl sk dc ov x0 x1 x2 x3 x4 x5 is i l n (aF t) t.length) .normal (bR dl sk dc ov x0 x1 x2 x3 x4 x5 is (i+1) l n (aF T109) T109.length):=aC.fin (g:=⟨(rng [(0,1),(2,2),(7,2),(10,22),(35,39)]),[7],[],[]⟩) (o:=[bT,.x (dcE y100 y101 y102 y103 y104 y105),bF,bF,bF,bF,bT,bT,bT,.c (pB (cG x1)) [],bT,bF,bT,bF,bT,bT,bT,bT,bT,bT,.c (pB b106) (vU dl sk dc ov T107),bT,bT,bT,bT,bT,bF,bF,bF,bF,.c (pB b108) (vU dl sk dc ov T109),bT,bF,bT,bF]) (l:=[_,_,_,_,_,FC Tp 157 [(.p (dcE y100 y101 y102 y103 y104 y105)),(.ptr 2 0),(.ptr 1 0)] [(2,vB2),(1,(.box 33 [(.p ov)])),(4,(.box 207 [(.mp 3)])),(5,(vB5 dl sk dc)),(0,(vB0 dl sk dc)),(6,vB6),(3,(.mp (aF T107) T107.length))] 9 (pB b108) (vU dl sk dc ov T109),_,_,_,_,_,_,_,_,_,FC Tp 154 [(.p (dcE y100 y101 y102 y103 y104 y105)),(.ptr 4 0),(.ptr 5 0),(.ptr 0 0),(.ptr 2 0)] [(4,(.box 207 [(.mp 3)])),(5,(vB5 dl sk dc)),(0,(vB0 dl sk dc)),(2,vB2),(3,(.mp (aF t) t.length)),(6,vB6),(1,(.box 33 [(.p ov)]))] 9 (pB b106) (vU dl sk dc ov T107),_,_,_,_,_,_,_,_,_,_,_,_,_,_,_,_,_,_,_,_,0≤(i:Int)∧(i:Int)<(l.length:Int)∧(i*6)<(l.flatten.map aA).length,_]) (by kernel_rfl) (gc h11 (gc h10 (gc h8 (gc (bQ h3) (gc h8 (gc (FMM.fc (ids:=[0,1,2,3,4,5,6]) h9 (by kernel_rfl)) (g4c (bQ h3) (g4c h8 (gc (cU h6) (gc (FMM.fc (ids:=[0,1,2,3,4,5,6]) h7 (by kernel_rfl)) (g4c (cU h6) (g2c h5 (gc (bQ h3) (gc (fB h4) (gc (bQ h3) (gc (fB h4) (gc (fk 9 (mV x1) rfl) (g3c (fB h4) (g4c (bQ h3) (gc (aU (i:=i) h2 h1) (gc (bD (i:=i) h2 h1) (gc (bS (k:=6) (i:=(i:Int)) (by decide) h2 (kQ3 _) h1) (gc (bB h0) gn)))))))))))))))))))))))
 exact raw.cast (by rw [et'e,et'k])
theorem aXm{ov:PV}{x0 x1 x2 x3 x4 x5:Int}{is:Bool}{i:Nat}{l:Lqq}{n:Nat}{t:Lqb}{y100 y101 y102 y103 y104 y105:Int}{b106:Bool}{T107:Lqb}{i':Nat}{t':Lqb}(h0:(i:Int)<(n:Int))(h1:l[i]? = some [y100,y101,y102,y103,y104,y105])(h2:uni 6 l)(h3:y101≠5)(h4:y101=7)(h5:is=true)(h6:(cG x1)=false)(h7:qU dl sk dc ov [y100,y101,y102,y103,y104,y105] b106 t T107)(h8:b106=false)(h9:inR (((i+1):Nat):Int))(ei':i'=(i+1))(et'e:aF t'=(aF T107))(et'k:t'.length=T107.length):aC Tp 7 fJ (bR dl sk dc ov x0 x1 x2 x3 x4 x5 is i l n (aF t) t.length) .normal (bR dl sk dc ov x0 x1 x2 x3 x4 x5 is i' l n (aF t') t'.length):=by
 subst ei';have raw:aC Tp 7 fJ (bR dl sk dc ov x0 x1 x2 x3 x4 x5 is i l n (aF t) t.length) .normal (bR dl sk dc ov x0 x1 x2 x3 x4 x5 is (i+1) l n (aF T107) T107.length):=aC.fin (g:=⟨(rng [(0,1),(2,2),(7,2),(10,22),(35,39)]),[7],[],[]⟩) (o:=[bT,.x (dcE y100 y101 y102 y103 y104 y105),bF,bF,bF,bF,bT,bT,bT,.c (pB (cG x1)) [],bT,bF,bT,bF,bT,bT,bT,bT,bT,bT,.c (pB b106) (vU dl sk dc ov T107),bT,bF,bF,bF,bF,bF,bF]) (l:=[_,_,_,_,_,_,_,_,FC Tp 154 [(.p (dcE y100 y101 y102 y103 y104 y105)),(.ptr 4 0),(.ptr 5 0),(.ptr 0 0),(.ptr 2 0)] [(4,(.box 207 [(.mp 3)])),(5,(vB5 dl sk dc)),(0,(vB0 dl sk dc)),(2,vB2),(3,(.mp (aF t) t.length)),(6,vB6),(1,(.box 33 [(.p ov)]))] 9 (pB b106) (vU dl sk dc ov T107),_,_,_,_,_,_,_,_,_,_,_,_,_,_,_,_,_,_,_,_,0≤(i:Int)∧(i:Int)<(l.length:Int)∧(i*6)<(l.flatten.map aA).length,_]) (by kernel_rfl) (gc h9 (g6c h8 (gc (cU h6) (gc (FMM.fc (ids:=[0,1,2,3,4,5,6]) h7 (by kernel_rfl)) (g4c (cU h6) (g2c h5 (gc (bQ h3) (gc (fB h4) (gc (bQ h3) (gc (fB h4) (gc (fk 9 (mV x1) rfl) (g3c (fB h4) (g4c (bQ h3) (gc (aU (i:=i) h2 h1) (gc (bD (i:=i) h2 h1) (gc (bS (k:=6) (i:=(i:Int)) (by decide) h2 (kQ3 _) h1) (gc (bB h0) gn)))))))))))))))))
 exact raw.cast (by rw [et'e,et'k])
theorem aXn{ov:PV}{x0 x1 x2 x3 x4 x5:Int}{is:Bool}{i:Nat}{l:Lqq}{n:Nat}{t:Lqb}{y100 y101 y102 y103 y104 y105:Int}{i':Nat}(h0:(i:Int)<(n:Int))(h1:l[i]? = some [y100,y101,y102,y103,y104,y105])(h2:uni 6 l)(h3:y101≠5)(h4:y101=7)(h5:is=true)(h6:(cG x1)=true)(h7:inR (((i+1):Nat):Int))(ei':i'=(i+1)):aC Tp 7 fJ (bR dl sk dc ov x0 x1 x2 x3 x4 x5 is i l n (aF t) t.length) .normal (bR dl sk dc ov x0 x1 x2 x3 x4 x5 is i' l n (aF t) t.length):=by
 subst ei';exact aC.fin (g:=⟨(rng [(0,1),(2,2),(7,2),(10,22),(35,39)]),[7],[],[]⟩) (o:=[bT,.x (dcE y100 y101 y102 y103 y104 y105),bF,bF,bF,bF,bT,bT,bT,.c (pB (cG x1)) [],bT,bF,bT,bF,bT,bT,bF,bF,bF,bF,bF]) (l:=[_,_,_,_,_,_,_,_,_,_,_,_,_,_,_,_,_,_,_,_,_,_,0≤(i:Int)∧(i:Int)<(l.length:Int)∧(i*6)<(l.flatten.map aA).length,_]) (by kernel_rfl) (gc h7 (g5c (aW h6) (g2c h5 (gc (bQ h3) (gc (fB h4) (gc (bQ h3) (gc (fB h4) (gc (fk 9 (mV x1) rfl) (g3c (fB h4) (g4c (bQ h3) (gc (aU (i:=i) h2 h1) (gc (bD (i:=i) h2 h1) (gc (bS (k:=6) (i:=(i:Int)) (by decide) h2 (kQ3 _) h1) (gc (bB h0) gn))))))))))))))
theorem aXo{ov:PV}{x0 x1 x2 x3 x4 x5:Int}{is:Bool}{i:Nat}{l:Lqq}{n:Nat}{t:Lqb}{y100 y101 y102 y103 y104 y105:Int}{i':Nat}(h0:(i:Int)<(n:Int))(h1:l[i]? = some [y100,y101,y102,y103,y104,y105])(h2:uni 6 l)(h3:y101≠5)(h4:y101=7)(h5:is=false)(h6:inR (((i+1):Nat):Int))(ei':i'=(i+1)):aC Tp 7 fJ (bR dl sk dc ov x0 x1 x2 x3 x4 x5 is i l n (aF t) t.length) .normal (bR dl sk dc ov x0 x1 x2 x3 x4 x5 is i' l n (aF t) t.length):=by
 subst ei';exact aC.fin (g:=⟨(rng [(0,1),(2,2),(7,2),(10,22),(35,39)]),[7],[],[]⟩) (o:=[bT,.x (dcE y100 y101 y102 y103 y104 y105),bF,bF,bF,bF,bT,bT,bT,.c (pB (cG x1)) [],bT,bF,bT,bF,bF,bF]) (l:=[_,_,_,_,_,_,_,_,_,_,_,_,_,_,_,_,_,0≤(i:Int)∧(i:Int)<(l.length:Int)∧(i*6)<(l.flatten.map aA).length,_]) (by kernel_rfl) (gc h6 (g2c h5 (gc (bQ h3) (gc (fB h4) (gc (bQ h3) (gc (fB h4) (gc (fk 9 (mV x1) rfl) (g3c (fB h4) (g4c (bQ h3) (gc (aU (i:=i) h2 h1) (gc (bD (i:=i) h2 h1) (gc (bS (k:=6) (i:=(i:Int)) (by decide) h2 (kQ3 _) h1) (gc (bB h0) gn)))))))))))))
theorem aXp{ov:PV}{x0 x1 x2 x3 x4 x5:Int}{is:Bool}{i:Nat}{l:Lqq}{n:Nat}{t:Lqb}{y100 y101 y102 y103 y104 y105:Int}{i':Nat}(h0:(i:Int)<(n:Int))(h1:l[i]? = some [y100,y101,y102,y103,y104,y105])(h2:uni 6 l)(h3:y101≠5)(h4:y101≠7)(h5:is=true)(h6:inR (((i+1):Nat):Int))(ei':i'=(i+1)):aC Tp 7 fJ (bR dl sk dc ov x0 x1 x2 x3 x4 x5 is i l n (aF t) t.length) .normal (bR dl sk dc ov x0 x1 x2 x3 x4 x5 is i' l n (aF t) t.length):=by
 subst ei';exact aC.fin (g:=⟨(rng [(0,1),(2,2),(7,2),(10,22),(35,39)]),[7],[],[]⟩) (o:=[bT,.x (dcE y100 y101 y102 y103 y104 y105),bF,bF,bF,bF,bF,bF,bF,bF,bF,bF,bF,bT,bT]) (l:=[_,_,_,_,_,_,_,_,_,_,_,_,_,_,_,_,0≤(i:Int)∧(i:Int)<(l.length:Int)∧(i*6)<(l.flatten.map aA).length,_]) (by kernel_rfl) (gc h6 (g2c h5 (gc (bQ h3) (gc (bQ h4) (gc (bQ h3) (g4c (bQ h4) (g4c (bQ h3) (gc (aU (i:=i) h2 h1) (gc (bD (i:=i) h2 h1) (gc (bS (k:=6) (i:=(i:Int)) (by decide) h2 (kQ3 _) h1) (gc (bB h0) gn)))))))))))
theorem aXq{ov:PV}{x0 x1 x2 x3 x4 x5:Int}{is:Bool}{i:Nat}{l:Lqq}{n:Nat}{t:Lqb}{y100 y101 y102 y103 y104 y105:Int}{i':Nat}(h0:(i:Int)<(n:Int))(h1:l[i]? = some [y100,y101,y102,y103,y104,y105])(h2:uni 6 l)(h3:y101≠5)(h4:y101≠7)(h5:is=false)(h6:inR (((i+1):Nat):Int))(ei':i'=(i+1)):aC Tp 7 fJ (bR dl sk dc ov x0 x1 x2 x3 x4 x5 is i l n (aF t) t.length) .normal (bR dl sk dc ov x0 x1 x2 x3 x4 x5 is i' l n (aF t) t.length):=by
 subst ei';exact aC.fin (g:=⟨(rng [(0,1),(2,2),(7,2),(10,22),(35,39)]),[7],[],[]⟩) (o:=[bT,.x (dcE y100 y101 y102 y103 y104 y105),bF,bF,bF,bF,bF,bF,bF,bF,bF,bF,bF,bF,bF]) (l:=[_,_,_,_,_,_,_,_,_,_,_,_,_,_,_,_,0≤(i:Int)∧(i:Int)<(l.length:Int)∧(i*6)<(l.flatten.map aA).length,_]) (by kernel_rfl) (gc h6 (g2c h5 (gc (bQ h3) (gc (bQ h4) (gc (bQ h3) (g4c (bQ h4) (g4c (bQ h3) (gc (aU (i:=i) h2 h1) (gc (bD (i:=i) h2 h1) (gc (bS (k:=6) (i:=(i:Int)) (by decide) h2 (kQ3 _) h1) (gc (bB h0) gn)))))))))))
theorem aPc{ov:PV}{x0 x1 x2 x3 x4 x5:Int}{is:Bool}{i:Nat}{l:Lqq}{n:Nat}{t:Lqb}(h0:(n:Int)≤(i:Int)):aC Tp 7 fJ (bR dl sk dc ov x0 x1 x2 x3 x4 x5 is i l n (aF t) t.length) (.exit 0) (bR dl sk dc ov x0 x1 x2 x3 x4 x5 is i l n (aF t) t.length):=by
 exact aC.fin (g:=⟨(rng [(0,1),(2,2),(7,2),(10,22),(35,39)]),[7],[],[]⟩) (o:=[bF]) (l:=[_]) (by kernel_rfl) (gc (bO h0) gn)
theorem bDr{ov:PV}{T:Lqb}{x0 x1 x2 x3 x4 x5 z0 z1 z2 z3 z4 z5:Int}{b6:Bool}{T7:Lqb}(h0:bPu 155 dl sk dc ov [x0,x1,x2,x3,x4,x5] [z0,z1,z2,z3,z4,z5] b6 T T7):FMM Tp 156 [(.p (dcE x0 x1 x2 x3 x4 x5)),(.ptr 6 0)] (dF dl sk dc ov T) (.tup [(.p (dcE z0 z1 z2 z3 z4 z5)),(pB b6)]) (dF dl sk dc ov T7):=by
 exact FMM.fin (k:=7) (g:=⟨[],[],[],[]⟩) rfl Tryz.func156 rfl (o:=[.c (.tup [(.p (dcE z0 z1 z2 z3 z4 z5)),(pB b6)]) (vU dl sk dc ov T7)]) (l:=[FC Tp 153 [(.p (dcE x0 x1 x2 x3 x4 x5)),(.fn 155 [] []),(.ptr 0 0),(.ptr 2 0)] [(0,(vB0 dl sk dc)),(2,vB2),(4,(.box 207 [(.mp 3)])),(5,(vB5 dl sk dc)),(6,vB6),(1,(.box 33 [(.p ov)])),(3,(.mp (aF T) T.length))] 9 (.tup [(.p (dcE z0 z1 z2 z3 z4 z5)),(pB b6)]) (vU dl sk dc ov T7)]) (by kernel_rfl) (gc (FMM.fc (ids:=[0,1,2,3,4,5,6]) h0 (by kernel_rfl)) gn)
theorem bDs{ov:PV}{T:Lqb}{x0 x1 x2 x3 x4 x5 z0 z1 z2 z3 z4 z5:Int}{b6:Bool}{T7:Lqb}(h0:bPu 159 dl sk dc ov [x0,x1,x2,x3,x4,x5] [z0,z1,z2,z3,z4,z5] b6 T T7):FMM Tp 158 [(.p (dcE x0 x1 x2 x3 x4 x5)),(.ptr 6 0)] (dF dl sk dc ov T) (.tup [(.p (dcE z0 z1 z2 z3 z4 z5)),(pB b6)]) (dF dl sk dc ov T7):=by
 exact FMM.fin (k:=7) (g:=⟨[],[],[],[]⟩) rfl Tryz.func158 rfl (o:=[.c (.tup [(.p (dcE z0 z1 z2 z3 z4 z5)),(pB b6)]) (vU dl sk dc ov T7)]) (l:=[FC Tp 153 [(.p (dcE x0 x1 x2 x3 x4 x5)),(.fn 159 [] []),(.ptr 0 0),(.ptr 2 0)] [(0,(vB0 dl sk dc)),(2,vB2),(4,(.box 207 [(.mp 3)])),(5,(vB5 dl sk dc)),(6,vB6),(1,(.box 33 [(.p ov)])),(3,(.mp (aF T) T.length))] 9 (.tup [(.p (dcE z0 z1 z2 z3 z4 z5)),(pB b6)]) (vU dl sk dc ov T7)]) (by kernel_rfl) (gc (FMM.fc (ids:=[0,1,2,3,4,5,6]) h0 (by kernel_rfl)) gn)
theorem bQf{ov:PV}{T:Lqb}{x0 x1 x2 x3 x4 x5 z0 z1 z2 z3 z4 z5:Int}{b6:Bool}{T7:Lqb}{r0:Bool}(h0:aKt dl sk dc ov [x0,x1,x2,x3,x4,x5] [z0,z1,z2,z3,z4,z5] b6 T T7)(h1:b6=true)(er0:r0=(z1 == (8:Int))):FMM Tp 157 [(.p (dcE x0 x1 x2 x3 x4 x5)),(.ptr 2 0),(.ptr 1 0)] (dF dl sk dc ov T) (pB r0) (dF dl sk dc ov T7):=by
 subst er0;exact FMM.fin (k:=7) (g:=⟨[],[],[],[]⟩) rfl Tryz.func157 rfl (o:=[.c (.tup [(.p (dcE z0 z1 z2 z3 z4 z5)),(pB b6)]) (vU dl sk dc ov T7),bT]) (l:=[_,FC Tp 156 [(.p (dcE x0 x1 x2 x3 x4 x5)),(.ptr 6 0)] [(6,vB6),(0,(vB0 dl sk dc)),(2,vB2),(4,(.box 207 [(.mp 3)])),(5,(vB5 dl sk dc)),(1,(.box 33 [(.p ov)])),(3,(.mp (aF T) T.length))] 8 (.tup [(.p (dcE z0 z1 z2 z3 z4 z5)),(pB b6)]) (vU dl sk dc ov T7)]) (by kernel_rfl) (gc h1 (gc (FMM.fc (ids:=[0,1,2,3,4,5,6]) h0 (by kernel_rfl)) gn))
theorem bQg{ov:PV}{T:Lqb}{x0 x1 x2 x3 x4 x5 z0 z1 z2 z3 z4 z5:Int}{b6:Bool}{T7:Lqb}{b8:Bool}(h0:aKt dl sk dc ov [x0,x1,x2,x3,x4,x5] [z0,z1,z2,z3,z4,z5] b6 T T7)(h1:b6=false)(h2:rW ov x0 b8):FMM Tp 157 [(.p (dcE x0 x1 x2 x3 x4 x5)),(.ptr 2 0),(.ptr 1 0)] (dF dl sk dc ov T) (pB b8) (dF dl sk dc ov T7):=by
 exact FMM.fin (k:=7) (g:=⟨[],[],[],[]⟩) rfl Tryz.func157 rfl (o:=[.c (.tup [(.p (dcE z0 z1 z2 z3 z4 z5)),(pB b6)]) (vU dl sk dc ov T7),bF,.c (pB b8) []]) (l:=[FC Tp 52 [(.p ov),(pI x0)] [] 9 (pB b8) [],_,FC Tp 156 [(.p (dcE x0 x1 x2 x3 x4 x5)),(.ptr 6 0)] [(6,vB6),(0,(vB0 dl sk dc)),(2,vB2),(4,(.box 207 [(.mp 3)])),(5,(vB5 dl sk dc)),(1,(.box 33 [(.p ov)])),(3,(.mp (aF T) T.length))] 8 (.tup [(.p (dcE z0 z1 z2 z3 z4 z5)),(pB b6)]) (vU dl sk dc ov T7)]) (by kernel_rfl) (gc (FV.fc (h2 _) rfl) (gc h1 (gc (FMM.fc (ids:=[0,1,2,3,4,5,6]) h0 (by kernel_rfl)) gn)))
theorem bQh{ov:PV}{T:Lqb}{x0 x1 x2 x3 x4 x5 z0 z1 z2 z3 z4 z5:Int}{b6:Bool}{T7:Lqb}{m8:Int}{T9:Lqb}(h0:bPv dl sk dc ov [x0,x1,x2,x3,x4,x5] [z0,z1,z2,z3,z4,z5] b6 T T7)(h1:b6=true)(h2:zC dl sk dc ov [z0,z1,z2,z3,z4,z5] m8 T7 T9):FMM Tp 160 [(.p (dcE x0 x1 x2 x3 x4 x5)),(.ptr 2 0)] (dF dl sk dc ov T) (pI m8) (dF dl sk dc ov T9):=by
 exact FMM.fin (k:=7) (g:=⟨[],[],[],[]⟩) rfl Tryz.func160 rfl (o:=[.c (.tup [(.p (dcE z0 z1 z2 z3 z4 z5)),(pB b6)]) (vU dl sk dc ov T7),bT,.c (pI m8) (vU dl sk dc ov T9)]) (l:=[FC Tp 160 [(.p (dcE z0 z1 z2 z3 z4 z5)),(.ptr 2 0)] [(2,vB2),(4,(.box 207 [(.mp 3)])),(5,(vB5 dl sk dc)),(0,(vB0 dl sk dc)),(6,vB6),(1,(.box 33 [(.p ov)])),(3,(.mp (aF T7) T7.length))] 9 (pI m8) (vU dl sk dc ov T9),_,FC Tp 158 [(.p (dcE x0 x1 x2 x3 x4 x5)),(.ptr 6 0)] [(6,vB6),(0,(vB0 dl sk dc)),(2,vB2),(4,(.box 207 [(.mp 3)])),(5,(vB5 dl sk dc)),(1,(.box 33 [(.p ov)])),(3,(.mp (aF T) T.length))] 8 (.tup [(.p (dcE z0 z1 z2 z3 z4 z5)),(pB b6)]) (vU dl sk dc ov T7)]) (by kernel_rfl) (gc (FMM.fc (ids:=[0,1,2,3,4,5,6]) h2 (by kernel_rfl)) (gc h1 (gc (FMM.fc (ids:=[0,1,2,3,4,5,6]) h0 (by kernel_rfl)) gn)))
theorem bQi{ov:PV}{T:Lqb}{x0 x1 x2 x3 x4 x5 z0 z1 z2 z3 z4 z5:Int}{b6:Bool}{T7:Lqb}(h0:bPv dl sk dc ov [x0,x1,x2,x3,x4,x5] [z0,z1,z2,z3,z4,z5] b6 T T7)(h1:b6=false):FMM Tp 160 [(.p (dcE x0 x1 x2 x3 x4 x5)),(.ptr 2 0)] (dF dl sk dc ov T) (pI x4) (dF dl sk dc ov T7):=by
 exact FMM.fin (k:=7) (g:=⟨[],[],[],[]⟩) rfl Tryz.func160 rfl (o:=[.c (.tup [(.p (dcE z0 z1 z2 z3 z4 z5)),(pB b6)]) (vU dl sk dc ov T7),bF]) (l:=[_,FC Tp 158 [(.p (dcE x0 x1 x2 x3 x4 x5)),(.ptr 6 0)] [(6,vB6),(0,(vB0 dl sk dc)),(2,vB2),(4,(.box 207 [(.mp 3)])),(5,(vB5 dl sk dc)),(1,(.box 33 [(.p ov)])),(3,(.mp (aF T) T.length))] 8 (.tup [(.p (dcE z0 z1 z2 z3 z4 z5)),(pB b6)]) (vU dl sk dc ov T7)]) (by kernel_rfl) (gc h1 (gc (FMM.fc (ids:=[0,1,2,3,4,5,6]) h0 (by kernel_rfl)) gn))
theorem aHi:FMM Tp 87 [(.rp (aH dl sk dc) 0),(.p cJ)] [] iG [some (vB0 dl sk dc),some (.box 33 [(.p cJ)]),some vB2,some (.mp [] 0),some (.box 207 [(.mp 3)]),some (vB5 dl sk dc),some vB6]:=by
 exact FMM.fin (k:=0) (g:=⟨[],[0,1,3,4,5,6,7],[],[]⟩) rfl Tryz.func87 rfl (o:=[]) (l:=[]) (by kernel_rfl) (gn)
theorem pF{on:Nat}{ol:List PV}:FMM Tp 87 [(.rp (aH dl sk dc) 0),(.p (.sl on ol))] [] iG [some (vB0 dl sk dc),some (.box 33 [(.p (.sl on ol))]),some vB2,some (.mp [] 0),some (.box 207 [(.mp 3)]),some (vB5 dl sk dc),some vB6]:=by
 exact FMM.fin (k:=0) (g:=⟨[],[0,1,3,4,5,6,7],[],[]⟩) rfl Tryz.func87 rfl (o:=[]) (l:=[]) (by kernel_rfl) (gn)
end
end KV
end Go.Proofs
