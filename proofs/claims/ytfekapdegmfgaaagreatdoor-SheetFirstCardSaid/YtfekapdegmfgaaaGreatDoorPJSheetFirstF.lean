/- Parts of the proof of JSheetFirst: laws of walks, contracts of functions, plain models. No condition. -/
import Derived.Laws.RangeAny
import Derived.Laws.DeepNot64
import Derived.Laws.Unary
import Derived.DeepKeys5
import Derived.Test.YtfekapdegmfgaaaGreatDoorPJSheetFirstE
set_option linter.unusedVariables false
set_option linter.unusedSimpArgs false
set_option linter.unnecessarySimpa false
set_option maxRecDepth 100000
section
namespace Go.Proofs
open Go.RowKit
namespace KV
open Tryz
def dgU(d:Nat):UInt8:=UInt8.ofNat (48+d)
theorem aHd{d:Nat}(h:d<10):(dgU d).toNat=48+d:=by
 unfold dgU;rw [UInt8.toNat_ofNat'];omega
theorem qO{d:Nat}(h:d<10):dv (dgU d)=d∧isd (dgU d)=true:=by
 have:=aHd h;refine ⟨by unfold dv;rw [this];omega,?_⟩
 simp only [isd,this,B4,decide_eq_true_eq];omega
theorem aZz(l:List UInt8)(b:UInt8)(n:Int):oM (l++[b]) n=10*oM l n+dv b:=by unfold oM;rw [List.foldl_append];rfl
theorem aSp{n:Nat}(h:n<10):Lib.decDigits n=[dgU n]:=nK h
theorem cDa{n:Nat}(h:¬ n<10):Lib.decDigits n=Lib.decDigits (n / 10)++[dgU (n % 10)]:=yF h
theorem rN:∀ (k n:Nat),n<k→(Lib.decDigits n).all isd=true∧oM (Lib.decDigits n) 0=(n:Int)∧Lib.decDigits n≠[]∧(n≠0→(Lib.decDigits n)[0]? ≠ some 48)∧(1<(Lib.decDigits n).length→n≠0)
 | 0,n,h=>absurd h (bMe _)
 | k+1,n,h=>by
  by_cases A9:n<10
  ·rw [aSp A9]
   obtain ⟨h1,h2⟩:=qO A9;refine ⟨by simp [h2],?_,by simp,fun hn e => ?_,fun q=>by simp at q⟩
   ·show 10*0+dv (dgU n)=(n:Int)
    rw [h1];omega
   ·have e2:dgU n=48:=by simpa using e
    have:=congrArg UInt8.toNat e2;rw [aHd A9] at this
    have Ov:(48:UInt8).toNat=48:=rfl;omega
  ·rw [cDa A9]
   obtain ⟨i1,i2,i3,i4,i5⟩:=rN k (n / 10) (by omega)
   obtain ⟨h1,h2⟩:=qO (d:=n % 10) (by omega)
   refine ⟨by rw [List.all_append,i1];simp [h2],?_,by simp,fun _ => ?_,fun _=>by omega⟩
   ·rw [aZz,i2,h1];omega
   ·rw [aGg (List.length_pos_iff.2 i3)]
    exact i4 (by omega)
theorem aPm(n:Nat):¬ (1<(Lib.decDigits n).length∧(Lib.decDigits n)[0]? = some 48):=fun ⟨h1,h2⟩=>by
 obtain ⟨_,_,_,h4,h5⟩:=rN _ n (Nat.lt_succ_self n);exact h4 (h5 h1) h2
theorem bOo{n:Nat}{m:Int}(h:(n:Int)≤m):bN (Lib.decDigits n) m=((n:Int),0):=by
 obtain ⟨h1,h2,h3,_⟩:=rN _ n (Nat.lt_succ_self n);rw [aSh (by omega) h1 h3 (aPm n),h2,if_neg (by omega)]
theorem aBc{n m:Int}(h0:0≤n)(h:n≤m):bN (Lib.itoa n) m=(n,0):=by
 obtain ⟨k,rfl⟩:∃ k:Nat,n=(k:Int):=⟨n.toNat,by omega⟩
 rw [Lib.itoa_nonneg,bOo h]
theorem aSq(n:Nat)(h:n≤360000):(ptM (n:Int)).1=Lib.decDigits (n / 600)++[58,dgU (n / 10 % 60 / 10),dgU (n / 10 % 60 % 10),46,dgU (n % 10)]:=by
 have e1:((n:Nat):Int).tdiv 600=((n / 600:Nat):Int):=by rw [Int.tdiv_eq_ediv_of_nonneg (by omega)];omega
 have e2:((n:Nat):Int).tdiv 10=((n / 10:Nat):Int):=by rw [Int.tdiv_eq_ediv_of_nonneg (by omega)];omega
 have e3:(((n / 10:Nat):Int)).tmod 60=((n / 10 % 60:Nat):Int):=by rw [Int.tmod_eq_emod_of_nonneg (by omega)];omega
 have e4:((n:Nat):Int).tmod 10=((n % 10:Nat):Int):=by rw [Int.tmod_eq_emod_of_nonneg (by omega)];omega
 have e5:(100:Int)+((n / 10 % 60:Nat):Int)=((100+n / 10 % 60:Nat):Int):=by omega
 unfold ptM;rw [if_pos (cO.2 (by omega)),e1,e2,e3,e4,e5,Lib.itoa_nonneg,Lib.itoa_nonneg,Lib.itoa_nonneg,bOb (by omega),aSp (n:=n / 10 % 60 / 10) (by omega),aSp (n:=n / 10 % 60 % 10) (by omega),aSp (n:=n % 10) (by omega)]
 simp
theorem cDb(n:Nat)(h:n≤360000):paM (ptM (n:Int)).1=((n:Int),0):=by
 rw [aSq n h];obtain ⟨h1,h2,h3,_⟩:=rN _ (n / 600) (Nat.lt_succ_self _);obtain ⟨b1,b2⟩:=qO (d:=n / 10 % 60 / 10) (by omega)
 obtain ⟨c1,c2⟩:=qO (d:=n / 10 % 60 % 10) (by omega)
 obtain ⟨f1,f2⟩:=qO (d:=n % 10) (by omega)
 rw [bXt h3 h1 (aPm _) b2 c2 f2];have hf:=aSi (m:=1000) (by decide) h1 h3 (aPm _)
 rw [h2,Int.min_eq_left (by omega)] at hf
 have hn:=aHd (d:=n / 10 % 60 / 10) (by omega)
 unfold L4;rw [if_pos ⟨rfl,rfl,b2,c2,f2,by rw [hf];omega,by omega⟩,hf,b1,c1,f1]
 rw [if_neg (by omega)]
 congr 1
 omega
theorem bIh{t a:Int}{z:List UInt8}(ht:t=0∨t=1)(h:ckM t (a,z)=0):z=[]:=by
 apply Classical.byContradiction;intro hz
 rcases ht with rfl | rfl
 ·by_cases q:within a 0 999999=true
  ·simp [ckM,q,hz] at h
  ·simp [ckM,q] at h
 ·by_cases q:within a 0 360000=true
  ·simp [ckM,q,hz] at h
  ·simp [ckM,q] at h
theorem bIi{t a:Int}{z:List UInt8}(ht:t=2∨t=3)(h:ckM t (a,z)=0):a=0:=by
 apply Classical.byContradiction;intro hz
 rcases ht with rfl | rfl
 ·simp [ckM,hz] at h
 ·simp [ckM,hz] at h
theorem bRu{t:Int}{c:Cel}(ht:t=0∨t=1∨t=2∨t=3)(h:ckM t c=0):rdM t (wrM t c)=(c,0):=by
 obtain ⟨a,z⟩:=c
 rcases ht with rfl | rfl | rfl | rfl
 ·obtain ⟨h1,h2⟩:=aGr h
  obtain rfl:=bIh (.inl rfl) h;have e:rdM 0 (wrM 0 (a,[]))=(((bN (Lib.itoa a) 999999).1,[]),(bN (Lib.itoa a) 999999).2):=rfl;rw [e,aBc h1 h2]
 ·obtain ⟨h1,h2⟩:=aOo h
  obtain rfl:=bIh (.inr rfl) h;have e:rdM 1 (wrM 1 (a,[]))=(((paM (ptM a).1).1,[]),(paM (ptM a).1).2):=rfl;obtain ⟨k,rfl⟩:∃ k:Nat,a=(k:Int):=⟨a.toNat,by omega⟩
  rw [e,cDb k (by omega)]
 ·obtain ⟨h1,_⟩:=aOp h
  obtain rfl:=bIi (.inl rfl) h;have e:wrM 2 (0,z)=z:=rfl;rw [e];simp [rdM,h1]
 ·obtain ⟨h1,_⟩:=aOq h
  obtain rfl:=bIi (.inr rfl) h;have e:wrM 3 (0,z)=z:=rfl;rw [e];simp [rdM,h1]
def Cln(u:List UInt8):Prop:=∀ b∈u,b≠32∧b≠10
theorem bOp{u v:List UInt8}(hu:Cln u)(hv:Cln v):Cln (u++v):=fun b hb=>by
 rcases nC.1 hb with h | h
 ·exact hu b h
 ·exact hv b h
theorem aHe{b:UInt8}(h:isd b=true):b≠32∧b≠10:=by
 refine ⟨fun e => ?_,fun e => ?_⟩
 ·subst e;exact absurd h (by decide)
 ·subst e;exact absurd h (by decide)
theorem oO{p:UInt8→Bool}{u:List UInt8}(h:u.all p=true)(h1:p 32=false)(h2:p 10=false):Cln u:=fun b hb=>by
 have:=iD.1 h b hb;refine ⟨fun e => ?_,fun e => ?_⟩
 ·subst e;rw [h1] at this;cases this
 ·subst e;rw [h2] at this;cases this
theorem aBd{n:Int}(h:0≤n):Cln (Lib.itoa n):=by
 obtain ⟨k,rfl⟩:∃ k:Nat,n=(k:Int):=⟨n.toNat,by omega⟩
 rw [Lib.itoa_nonneg];exact oO (rN _ k (Nat.lt_succ_self _)).1 (by decide) (by decide)
theorem bYu{t:Int}{c:Cel}(ht:t=0∨t=1∨t=2∨t=3)(h:ckM t c=0):Cln (wrM t c):=by
 obtain ⟨a,z⟩:=c
 rcases ht with rfl | rfl | rfl | rfl
 ·exact aBd (aGr h).1
 ·obtain ⟨h1,h2⟩:=aOo h
  obtain ⟨k,rfl⟩:∃ k:Nat,a=(k:Int):=⟨a.toNat,by omega⟩
  show Cln (ptM (k:Int)).1;rw [aSq k (by omega)]
  refine bOp (oO (rN _ _ (Nat.lt_succ_self _)).1 (by decide) (by decide)) (fun b hb => ?_)
  simp only [jU,List.mem_nil_iff,or_false] at hb
  rcases hb with rfl | rfl | rfl | rfl | rfl
  ·decide
  ·exact aHe (qO (by omega)).2
  ·exact aHe (qO (by omega)).2
  ·decide
  ·exact aHe (qO (by omega)).2
 ·have:=(aOp h).1
  unfold nI at this
  rw [B4] at this
  exact oO this.2 (by decide) (by decide)
 ·have:=(aOq h).1
  unfold nJ at this
  rw [B4] at this
  exact oO this.2 (by decide) (by decide)
end KV
end Go.Proofs
end
section
namespace Go.Proofs
open Go.RowKit
namespace KV
open Tryz
abbrev aPx(id p d ty:Nat)(pos:String):Code := .region id #[{ dst:=some d,op := .assign (.tmp p),type:=ty,pos:=pos,after := #[],guard:=none }] false
theorem bIs{l n id p d ty:Nat}{pos:String}{K:Act→World→Prop}{Q:Exit→Act→World→Prop}{a:Act}{W:World}(h:K (a.put (some d) (a.eval (.tmp p))) W):(aPx id p d ty pos).wpIn ((Fen none).inRound l) n Tp (Exit.then K Q) a W:=by
 refine wpIn_region_lit (wpListIn_plain rfl fun K' Ia => ?_)
 unfold Oper.wpIn;refine ⟨fun f _=>trivial,?_⟩
 rw [Oper.semAt_plain _ _ _ (by intro c Eg;cases Eg)]
 simp only [execOp,Sem.run_pure];exact Ia _ _ (wpListIn_nil h)
def aLb(p1 p2:Nat)(a:Act)(x:List UInt8 × Bool):Act:={ tmps:=(a.tmps.setIfInBounds p1 (.string ⟨x.1.toArray⟩)).setIfInBounds p2 (.bool x.2),defers:=[] }
def Ho(p1 p2 d:Nat)(a:Act)(x:List UInt8 × Bool):Act:=(aLb p1 p2 a x).put (some d) ((aLb p1 p2 a x).eval (.tmp p1))
def Jf(p1 p2 d e:Nat)(a:Act)(x:List UInt8 × Bool):Act:=(Ho p1 p2 d a x).put (some e) ((Ho p1 p2 d a x).eval (.tmp p2))
theorem bRv(p1 p2:Nat)(a:Act)(x:List UInt8 × Bool):({ tmps:=(#[p1,p2].zip (aEo x)).foldl (fun t (y:Nat × Value)=>t.setIfInBounds y.1 y.2) a.tmps,defers:=[] }:Act)=aLb p1 p2 a x:=by
 unfold aEo aLb;rw [Kx]
theorem Nw{p1 p2 d id ty:Nat}{pos:String}(a:Act)(x:List UInt8 × Bool)(l:Nat)(K:Act→World→Prop)(W:World)(h:K (Ho p1 p2 d a x) W) :
  (aPx id p1 d ty pos).wpIn ((Fen none).inRound l) (3-1-1) Tp (Exit.then K (fun _ _ _=>False)) { tmps:=(#[p1,p2].zip (aEo x)).foldl (fun t (y:Nat × Value)=>t.setIfInBounds y.1 y.2) a.tmps,defers:=[] } W:=by
 rw [bRv];exact bIs h
theorem Nr{p1 p2 d e id ty Rp Eo:Nat}{pos Nx:String}(a:Act)(x:List UInt8 × Bool)(l:Nat)(K:Act→World→Prop)(W:World)(h:K (Jf p1 p2 d e a x) W) :
  (Code.seq (aPx id p1 d ty pos) (aPx Rp p2 e Eo Nx)).wpIn ((Fen none).inRound l) (3-1-1) Tp (Exit.then K (fun _ _ _=>False)) { tmps:=(#[p1,p2].zip (aEo x)).foldl (fun t (y:Nat × Value)=>t.setIfInBounds y.1 y.2) a.tmps,defers:=[] } W:=by
 rw [bRv];exact wpIn_seq (bIs (bIs h))
def lnT(p1 p2:Nat)(T:List AV)(x:List UInt8 × Bool):List AV:=put (put T (some p1) (.p (aD x.1))) (some p2) (.p (blP x.2))
def s1T(p1 p2 d:Nat)(T:List AV)(x:List UInt8 × Bool):List AV:=put (lnT p1 p2 T x) (some d) (.p (aD x.1))
def s2T(p1 p2 d e:Nat)(T:List AV)(x:List UInt8 × Bool):List AV:=put (s1T p1 p2 d T x) (some e) (.p (blP x.2))
def pH(st:St)(p1 p2 d:Nat)(l:List UInt8)(b:Bool):St:=⟨s1T p1 p2 d st.t (l,b),st.m⟩
def kC(st:St)(p1 p2 d e:Nat)(l:List UInt8)(b:Bool):St:=⟨s2T p1 p2 d e st.t (l,b),st.m⟩
section
variable {C:Cx} {M:Mem} {W:World} {T:List AV}
theorem bIt{p1 p2:Nat}(a:Act)(x:List UInt8 × Bool)(h:cQ C M W T a.tmps):cQ C M W (lnT p1 p2 T x) (aLb p1 p2 a x).tmps:=by
 have s1:cQ C M W (put T (some p1) (.p (aD x.1))) (({ tmps:=a.tmps,defers:=[] }:Act).put (some p1) (.string ⟨x.1.toArray⟩)).tmps:=cQ.put (a:={ tmps:=a.tmps,defers:=[] }) h (.p _ _ (.v _));exact cQ.put s1 (.p _ _ (.v _))
theorem aSv{p1 p2 d:Nat}(hp:∀ x,(lnT p1 p2 T x)[p1]? = some (.p (aD x.1)))(a:Act)(x:List UInt8 × Bool)(h:cQ C M W T a.tmps):cQ C M W (s1T p1 p2 d T x) (Ho p1 p2 d a x).tmps:=by
 have s1:=bIt (p1:=p1) (p2:=p2) a x h;exact cQ.put s1 (s1.at (hp x))
theorem bOs{p1 p2 d e:Nat}(hp:∀ x,(lnT p1 p2 T x)[p1]? = some (.p (aD x.1)))(E8:∀ x,(s1T p1 p2 d T x)[p2]? = some (.p (blP x.2)))(a:Act)(x:List UInt8 × Bool)(h:cQ C M W T a.tmps):cQ C M W (s2T p1 p2 d e T x) (Jf p1 p2 d e a x).tmps:=by
 have s1:=aSv (d:=d) hp a x h;exact cQ.put s1 (s1.at (E8 x))
end
end KV
end Go.Proofs
end
namespace Go.Proofs
namespace KV
open Tryz
section
variable {P:Program} {T:TT} {E:Env} {C C0:Cx} {M M0 M1:Mem} {w w0:World}

def bkN(all:List Nat)(j:Nat):Option Nat:=all[j]?
def rZ(Ff:List Nat):List Nat→Mem→Option Upd
 | i::r,some o::m=>match mpO (bkN Ff) o with
  | some o'=>(rZ Ff r m).map ((i,o') :: ·)
  | none=>none
 | [],[]=>some []
 | _,_=>none

theorem aEr{Ff:List Nat}:∀ {ids:List Nat} {m:Mem} {L:Upd},rZ Ff ids m=some L→ids.Nodup →
  m.length=ids.length ∧
  ∀ (N:Mem),(∀ (p i:Nat) (o':AO),ids[p]? = some i→(bU (upds N L) i=some o'↔∃ o,m[p]? = some (some o)∧mpO (bkN Ff) o=some o')) ∧
   ∀ j,j∉ids→bU (upds N L) j=bU N j
 | [],[],L,h,_=>by
  unfold rZ at h;cases h
  refine ⟨rfl,fun N=>⟨fun p i o' hp=>by simp at hp,fun _ _=>rfl⟩⟩
 | i::r,some o::m,L,h,hd=>by
  unfold rZ at h
  split at h
  ·rename_i o' ho
   simp only [C7] at h
   obtain ⟨L',I6,rfl⟩:=h;obtain ⟨H0,Fp⟩:=List.nodup_cons.1 hd;obtain ⟨q1,q2⟩:=aEr (ids:=r) I6 Fp;refine ⟨by simpa using q1,fun N => ?_⟩
   obtain ⟨r1,r4⟩:=q2 (aZ N i (some o'));refine ⟨fun p j o2 hp => ?_,fun j hj => ?_⟩
   ·cases p with
    | zero =>
     simp at hp;subst hp
     simp only [upds];rw [r4 i H0,dE,if_pos rfl];constructor
     ·intro h;cases h;exact ⟨o,rfl,ho⟩
     ·rintro ⟨o3,h3,h4⟩
      simp at h3;subst h3
      rw [ho] at h4;exact h4
    | succ p =>
     simp only [upds];rw [List.getElem?_cons_succ] at hp
     rw [r1 p j o2 hp];rfl
   ·simp only [upds]
    rw [r4 j (fun e=>hj (Cn _ e)),dE,if_neg (fun e=>hj (by simp [e]))]
  ·cases h
 | [],_::_,L,h,_=>by unfold rZ at h;cases h
 | _::_,[],L,h,_=>by unfold rZ at h;cases h
 | _::_,none::_,L,h,_=>by unfold rZ at h;cases h

theorem aBj{Ff:List Nat}:∀ {ids:List Nat} {m:Mem} {L:Upd},rZ Ff ids m=some L→∀ (p:Nat) (o1:AO),m[p]? = some (some o1)→∃ o',mpO (bkN Ff) o1=some o'
 | [],[],L,h,p,o1,hp=>by simp at hp
 | i::r,some o::m,L,h,p,o1,hp=>by
  unfold rZ at h
  split at h
  ·rename_i hx
   simp only [C7] at h
   obtain ⟨L',I6,_⟩:=h;cases p with
   | zero=>simp at hp;subst hp;exact ⟨_,hx⟩
   | succ p=>exact aBj I6 p o1 (by simpa using hp)
  ·cases h
 | [],_::_,L,h,_,_,_=>by unfold rZ at h;cases h
 | _::_,[],L,h,_,_,_=>by unfold rZ at h;cases h
 | _::_,none::_,L,h,_,_,_=>by unfold rZ at h;cases h

def Cx.backN(C C1:Cx)(all:List Nat):Cx :=
 {ι:=fun j=>match idx all j 0 with | some p=>C1.ι p | none=>C.ι j
  κ:=fun j=>match idx all j 0 with | some p=>C1.κ p | none=>C.κ j
  F:=C1.F }

theorem bIu{ids news:List Nat}{r y:AV}{L:Upd}{C1:Cx}{w':World}{u:Value}(hd:distinct 0 ids=true)(hda:distinct 0 (ids++news)=true)(hb:∀ i∈news,fG M i=true)
  (hs:rnM 0 ids (ids.map (at? M))=some M0) (hlv:∀ i∈ids,dX M i=true) (hU:rZ (ids++news) (ids++news) M1=some L) (hy:mpA (bkN (ids++news)) r=some y)
  (hM:aX P C M w) (hF:Fr (C.rn 0 ids) M0 w C1 M1 w') (Bp:aX P C1 M1 w') (hr:Rep C1 M1 w' r u):Fr C M w (C.backN C1 (ids++news)) (upds M L) w'∧aX P (C.backN C1 (ids++news)) (upds M L) w'∧Rep (C.backN C1 (ids++news)) (upds M L) w' y u:=by
 obtain ⟨_,hnd⟩:=gJ hd;obtain ⟨_,hna⟩:=gJ hda;obtain ⟨H4,hmp,hsrc⟩:=pL (k:=0) hM hd hs;have hlen:M0.length=ids.length:=by have:=(yT hs).1;simpa using this
 generalize hall:ids++news=all at *
 obtain ⟨An,hup⟩:=aEr hU hna;obtain ⟨u1,u4⟩:=hup M;have hL:=H4.le hF;have inA:∀ (p i:Nat),ids[p]? = some i→all[p]? = some i:=fun p i h=>by
  rw [← hall,aGg (Ci.1 h).1];exact h
 have memA:∀ i,i∈all↔i∈ids∨i∈news:=fun i=>by rw [← hall];simp
 have newF:∀ (p i:Nat),all[p]? = some i→i∉ids→fG M i=true:=fun p i h hn=>by
  rcases (memA i).1 (B0 h) with h | h
  ·exact absurd h hn
  ·exact hb i h
 have oldP:∀ (p i:Nat),all[p]? = some i→i∈ids→ids[p]? = some i:=fun p i h hn=>by
  obtain ⟨q,hq,he⟩:=List.mem_iff_getElem.1 hn;have h2:ids[q]? = some i:=by rw [Bw hq,he]
  have e1:=oK hna 0 h;have e2:=oK hna 0 (inA q i h2);rw [e1] at e2
  have:p=q:=by simpa using e2
  rw [this];exact h2
 have rnp:∀ p i,ids[p]? = some i→rnI 0 ids i=some p:=fun p i h=>by
  have:=oK hnd 0 h;unfold rnI;rw [show Nat.blt i 0=false from rfl,this,iP]
 have Ch:∀ p i,ids[p]? = some i→∃ o o0,M[i]? = some (some o)∧o.live=true∧M0[p]? = some (some o0)∧o0.live=true∧(C.rn 0 ids).ι p=C.ι i∧(C.rn 0 ids).κ p=C.κ i:=fun p i hp=>by
  obtain ⟨o,h1,h2⟩:=dJ (hlv i (B0 hp));obtain ⟨o0,h3,h4⟩:=hmp.fw _ _ _ (rnp p i hp) h1;exact ⟨o,o0,h1,h2,h3,by rw [bP h4];exact h2,hmp.at_ _ _ (rnp p i hp)⟩
 have sh_of:∀ (p:Nat) (o0:AO),M0[p]? = some (some o0)→∃ i o,ids[p]? = some i∧M[i]? = some (some o)∧o.live=true∧o0.live=true∧(C.rn 0 ids).ι p=C.ι i:=fun p o0 hp=>by
  obtain ⟨hl,_⟩:=Ci.1 hp;have Ki:ids[p]? = some ids[p]:=Bw (by omega)
  obtain ⟨o,o1,h1,h2,h3,h4,h5,_⟩:=Ch p _ Ki;rw [hp] at h3;cases h3
  exact ⟨_,o,Ki,h1,h2,h4,h5⟩
 have apart:∀ (j:Nat) (o:AO) (b:Nat),j∉ids→M[j]? = some (some o)→o.live=true→C.ι j=some b→w'.heap[b]? = w.heap[b]? ∧ ¬ C1.F b∧∀ (p:Nat) (o1:AO),M1[p]? = some (some o1)→o1.live=true→C1.ι p≠some b:=fun j o b hj h1 h2 h3=>by
  have Cr:=hM.lt j o b h1 h2 h3;have I7:∀ (p:Nat) (o0:AO),M0[p]? = some (some o0)→o0.live=true→(C.rn 0 ids).ι p≠some b:=fun p o0 hp _ he=>by
   obtain ⟨i,o2,q1,q2,q3,_,q4⟩:=sh_of p o0 hp;rw [q4] at he
   have:=hM.inj j i o o2 b h1 h2 q2 q3 h3 he;subst this;exact hj (B0 q1)
  refine ⟨hF.keep b Cr I7,fun hf => ?_,fun p o1 hp hl he => ?_⟩
  ·rcases hF.F2 b hf with q | q | ⟨p,o0,q1,q2,q3⟩
   ·exact hM.nF j o b h1 h2 h3 q
   ·omega
   ·exact I7 p o0 q1 q2 q3
  ·rcases hF.new p o1 b hp hl he with q | ⟨p0,o0,q1,q2,q3⟩
   ·omega
   ·exact I7 p0 o0 q1 q2 q3
 have ix:∀ j,(j∈all→∃ p,idx all j 0=some p∧all[p]? = some j)∧(j∉all→idx all j 0=none):=fun j=>by
  refine ⟨fun hj => ?_,fun hj => ?_⟩
  ·obtain ⟨p,hp,he⟩:=List.mem_iff_getElem.1 hj
   have:all[p]? = some j:=by rw [Bw hp,he]
   exact ⟨p,by simpa using oK hna 0 this,this⟩
  ·cases h1:idx all j 0 with
   | none=>rfl
   | some p =>
    obtain ⟨_,h2⟩:=tN _ _ _ _ h1;exact absurd (B0 h2) hj
 have cls:∀ (j:Nat) (o':AO),(upds M L)[j]? = some (some o')→(∃ p o1,all[p]? = some j∧M1[p]? = some (some o1)∧mpO (bkN all) o1=some o'∧(C.backN C1 all).ι j=C1.ι p∧(C.backN C1 all).κ j=C1.κ p) ∨
   (j∉ids∧j∉all∧M[j]? = some (some o')∧(C.backN C1 all).ι j=C.ι j∧(C.backN C1 all).κ j=C.κ j):=fun j o' hj=>by
  rw [← bI] at hj
  by_cases hm:j∈all
  ·obtain ⟨p,Fq,E8⟩:=(ix j).1 hm
   obtain ⟨o1,h1,h2⟩:=(u1 p j o' E8).1 hj;exact .inl ⟨p,o1,E8,h1,h2,by simp [Cx.backN,Fq],by simp [Cx.backN,Fq]⟩
  ·have hn:=(ix j).2 hm
   rw [u4 j hm] at hj
   exact .inr ⟨fun h=>hm ((memA j).2 (.inl h)),hm,bI.1 hj,by simp [Cx.backN,hn],by simp [Cx.backN,hn]⟩
 have Ev:Fr C M w (C.backN C1 all) (upds M L) w':=by
  refine ⟨hF.os,hF.tape,hF.out,hF.size,fun b Cr hn => ?_,fun i o ho => ?_,fun i o ho ty n cs hx => ?_,fun i o ho o' hx hl => ?_,fun j o b hj hl hjb => ?_,fun b hb=>hF.F1 b hb,fun b hb => ?_⟩
  ·exact hF.keep b Cr fun p o0 hp hl he=>by
    obtain ⟨i,o2,q1,q2,q3,_,q4⟩:=sh_of p o0 hp;rw [q4] at he
    exact hn i o2 q2 q3 he
  ·by_cases hm:i∈all
   ·obtain ⟨p,Fq,E8⟩:=(ix i).1 hm
    have hmi:i∈ids:=Classical.byContradiction fun hni=>cV (newF p i E8 hni) o ho
    obtain ⟨_,o0,_,_,h3,h4,h5,h6⟩:=Ch p i (oldP p i E8 hmi);obtain ⟨⟨o1,q1⟩,q2,q3⟩:=hF.ids p o0 h3;refine ⟨?_,by simp only [Cx.backN,Fq];rw [q2,h5],by simp only [Cx.backN,Fq];rw [q3,h6]⟩
    obtain ⟨o',hq⟩:=aBj hU p o1 q1;exact ⟨o',bI.1 ((u1 p i o' E8).2 ⟨o1,q1,hq⟩)⟩
   ·refine ⟨⟨o,bI.1 (by rw [u4 i hm];exact bI.2 ho)⟩,by simp [Cx.backN,(ix i).2 hm],by simp [Cx.backN,(ix i).2 hm]⟩
  ·rcases cls i _ hx with ⟨p,o1,q1,q2,q3,_⟩ | ⟨_,_,q3,_⟩
   ·have hmi:i∈ids:=Classical.byContradiction fun hni=>cV (newF p i q1 hni) o ho
    have q1:=oldP p i q1 hmi;rw [jO q3] at q2
    obtain ⟨o2,o0,h1,_,h3,_⟩:=Ch p i q1;obtain ⟨Bg,h5⟩:=hF.row p o0 h3 _ _ _ q2;obtain ⟨o4,h6,h7⟩:=hmp.bk _ _ _ (rnp p i q1) h5;rw [jO h7] at h6
    exact ⟨Bg,h6⟩
   ·exact ⟨cs,q3⟩
  ·rcases cls i _ hx with ⟨p,o1,q1,q2,q3,_⟩ | ⟨_,_,q3,_⟩
   ·have hmi:i∈ids:=Classical.byContradiction fun hni=>cV (newF p i q1 hni) o ho
    obtain ⟨o2,o0,h1,h2,h3,_⟩:=Ch p i (oldP p i q1 hmi);rw [ho] at h1;cases h1
    exact h2
   ·rw [ho] at q3;cases q3;exact hl
  ·have fin:∀ (p:Nat) (o1:AO),M1[p]? = some (some o1)→o1.live=true→C1.ι p=some b→w.heap.size≤b∨∃ (Eh:Nat) (o0:AO),M[Eh]? = some (some o0)∧o0.live=true∧C.ι Eh=some b:=fun p o1 h1 h2 h3=>by
    rcases hF.new p o1 b h1 h2 h3 with q | ⟨p0,o0,q1,q2,q3⟩
    ·exact .inl q
    ·obtain ⟨i,o2,r1,r2,r3,_,r4⟩:=sh_of p0 o0 q1
     rw [r4] at q3
     exact .inr ⟨i,o2,r2,r3,q3⟩
   rcases cls j _ hj with ⟨p,o1,q1,q2,q3,q4,_⟩ | ⟨_,_,q3,q4,_⟩
   ·rw [q4] at hjb
    exact fin p o1 q2 (by rw [← bP q3];exact hl) hjb
   ·rw [q4] at hjb
    exact .inr ⟨j,o,q3,hl,hjb⟩
  ·rcases hF.F2 b hb with q | q | ⟨p,o0,q1,q2,q3⟩
   ·exact .inl q
   ·exact .inr (.inl q)
   ·obtain ⟨i,o2,r1,r2,r3,_,r4⟩:=sh_of p o0 q1
    rw [r4] at q3
    exact .inr (.inr ⟨i,o2,r2,r3,q3⟩)
 have Ha:=hM.le Ev;have hbk:aUe (bkN all) C1 (C.backN C1 all) M1 (upds M L):=by
  refine ⟨fun i j o' hij hj=>(u1 i j o' hij).1 (bI.2 hj),fun i j o hij hi => ?_,fun i j hij => ?_,fun _ h=>h⟩
  ·obtain ⟨o',hq⟩:=aBj hU i o hi
   exact ⟨o',bI.1 ((u1 i j o' hij).2 ⟨o,hi,hq⟩),hq⟩
  ·have:=oK hna 0 hij
   rw [iP] at this
   simp [Cx.backN,this]
 refine ⟨Ev,⟨fun j ty n cs h => ?_,fun j ty cs h => ?_,fun j es cl h => ?_,fun j j' o1 o2 b q1 l1 q2 l2 e1 e2 => ?_,fun j o b h hl hb => ?_,Bp.Fs,fun j o b h hl hb => ?_,Bp.lib.mono (fun _ h=>h) fun _ _=>rfl⟩,rD hbk hr hy⟩
 ·rcases cls j _ h with ⟨p,o1,q1,q2,q3,q4,q5⟩ | ⟨q1,_,q3,q4,q5⟩
  ·rw [jO q3] at q2
   rw [q4,q5];exact Bp.row _ _ _ _ q2
  ·rw [q4,q5]
   rcases hM.row _ _ _ _ q3 with q | ⟨b,arr,inf,p0,p1,p2,p3,p4,p5,p6,p7,p8⟩
   ·exact .inl q
   ·exact .inr ⟨b,arr,inf,p0,by rw [(apart j _ b q1 q3 rfl p0).1];exact p1,p2,p3,p4,p5,p6,fun i hi=>(p7 i hi).mono Ha.F Ha.fz,p8⟩
 ·rcases cls j _ h with ⟨p,o1,q1,q2,q3,q4,q5⟩ | ⟨q1,_,q3,q4,q5⟩
  ·cases o1 with
   | box C6 l =>
    simp only [mpO,C7] at q3
    obtain ⟨l',De,e⟩:=q3;cases e;obtain ⟨b,arr,p0,p1,p2,p3,p4⟩:=Bp.box _ _ _ q2;obtain ⟨n1,n2⟩:=fA hbk (w:=w') (us:=fun j=>arr.getD j undef) p3 De
    exact ⟨b,arr,by rw [q4];exact p0,p1,by omega,n2,fun j hj=>p4 j (by omega)⟩
   | row=>simp [mpO] at q3
   | mp=>simp [mpO] at q3
   | pk=>simp [mpO] at q3
   | dead=>simp [mpO] at q3
  ·obtain ⟨b,arr,p0,p1,p2,p3,p4⟩:=hM.box _ _ _ q3
   exact ⟨b,arr,by rw [q4];exact p0,by rw [(apart j _ b q1 q3 rfl p0).1];exact p1,p2,fun i hi=>(p3 i hi).mono Ha,p4⟩
 ·rcases cls j _ h with ⟨p,o1,q1,q2,q3,q4,q5⟩ | ⟨q1,_,q3,q4,q5⟩
  ·cases o1 with
   | mp Fa Jy =>
    simp only [mpO,Option.some.injEq] at q3
    cases q3;obtain ⟨b,arr,p0,p1,p2,p3⟩:=Bp.mp _ _ _ q2;refine ⟨b,arr,by rw [q4];exact p0,p1,p2,fun j hj => ?_⟩
    obtain ⟨en,s1,s2,s3,s4⟩:=p3 j hj;exact ⟨en,s1,s2,s3,s4.mono hbk.F (fun _ _=>rfl)⟩
   | row=>simp [mpO] at q3
   | box=>simp [mpO] at q3
   | pk=>simp [mpO] at q3
   | dead=>simp [mpO] at q3
  ·obtain ⟨b,arr,p0,p1,p2,p3⟩:=hM.mp _ _ _ q3
   refine ⟨b,arr,by rw [q4];exact p0,by rw [(apart j _ b q1 q3 rfl p0).1];exact p1,p2,fun i hi => ?_⟩
   obtain ⟨en,s1,s2,s3,s4⟩:=p3 i hi;exact ⟨en,s1,s2,s3,s4.mono Ha.F Ha.fz⟩
 ·rcases cls j _ q1 with ⟨p,a1,r1,r2,r3,r4,_⟩ | ⟨r1,rb,r3,r4,_⟩ <;> rcases cls j' _ q2 with ⟨p',a2,t1,t2,t3,t4,_⟩ | ⟨t1,tb,t3,t4,_⟩
  all_goals (rw [r4] at e1;rw [t4] at e2)
  ·have:=Bp.inj p p' a1 a2 b r2 (by rw [← bP r3];exact l1) t2 (by rw [← bP t3];exact l2) e1 e2
   subst this;rw [r1] at t1;cases t1;rfl
  ·exact absurd e1 ((apart j' o2 b t1 t3 l2 e2).2.2 p a1 r2 (by rw [← bP r3];exact l1))
  ·exact absurd e2 ((apart j o1 b r1 r3 l1 e1).2.2 p' a2 t2 (by rw [← bP t3];exact l2))
  ·exact hM.inj j j' o1 o2 b r3 l1 t3 l2 e1 e2
 ·rcases cls j _ h with ⟨p,o1,q1,q2,q3,q4,q5⟩ | ⟨q1,_,q3,q4,q5⟩
  ·rw [q4] at hb
   exact Bp.nF _ _ b q2 (by rw [← bP q3];exact hl) hb
  ·rw [q4] at hb
   exact (apart j o b q1 q3 hl hb).2.1
 ·rcases cls j _ h with ⟨p,o1,q1,q2,q3,q4,q5⟩ | ⟨q1,_,q3,q4,q5⟩
  ·rw [q4] at hb
   exact Bp.lt _ _ b q2 (by rw [← bP q3];exact hl) hb
  ·rw [q4] at hb
   exact uQ (hM.lt j o b q3 hl hb) hF.size

def aPy(ids news:List Nat)(args:List AV)(bs:Upd)(M1:Mem)(r:AV):Option (List AV × Mem × AV × Upd):=match distinct 0 ids && distinct 0 (ids++news) && ids.all (dX (upds [] bs)) with
 | true=>match rnM 0 ids (ids.map (at? (upds [] bs))) with
  | some M0=>match rnL 0 ids args with
   | some A3=>match rZ (ids++news) (ids++news) M1 with
    | some L=>match mpA (bkN (ids++news)) r with
     | some y=>some (A3,M0,y,L)
     | none=>none
    | none=>none
   | none=>none
  | none=>none
 | false=>none
theorem FMM.fcN{f base k:Nat}(hk:Nat.ble k 8=true){ids:List Nat}{args A3:List AV}{bs:Upd}{r y:AV}{L:Upd}(h:FMM P f A3 M0 r M1)(hs:aPy ids ((List.range k).map (base + ·)) args bs M1 r=some (A3,M0,y,L)):FC P f args bs base y L:=fun M hb hf G7=>by
 unfold aPy at hs
 have hsub:aOa (upds [] bs) M:=fun id o ho=>by
  rcases pX bs [] id o ho with h5 | h5
  ·exact hb _ h5
  ·simp [bU] at h5
 split at hs
 ·rename_i hd
  rw [B4,B4,iD] at hd
  obtain ⟨⟨H0,Fp⟩,J5⟩:=hd;have hlv:∀ i∈ids,∃ o,bU (upds [] bs) i=some o∧bU M i=some o∧o.live=true:=fun i hi=>by
   obtain ⟨o,h1,h2⟩:=dJ (J5 i hi);exact ⟨o,bI.2 h1,hsub _ _ (bI.2 h1),h2⟩
  split at hs
  ·rename_i h1
   split at hs
   ·rename_i h2
    split at hs
    ·rename_i h3
     split at hs
     ·rename_i h4
      cases hs;have he:ids.map (at? M)=ids.map (at? (upds [] bs)):=bFq fun i hi=>by
       obtain ⟨o,q1,q2,_⟩:=hlv i hi;unfold at?
       rw [q1,q2]
      intro C w us hus hM n;have G5:rnM 0 ids (ids.map (at? M))=some M0:=by rw [he];exact h1
      obtain ⟨H4,hmp,_⟩:=pL (k:=0) hM H0 G5;refine (h (C.rn 0 ids) w us (aGi hmp hus h2) H4 n).mono ?_;rintro e w' ⟨u,rfl,C1,hF,Bp,hr⟩;exact ⟨u,rfl,C.backN C1 (ids++(List.range k).map (base + ·)),bIu H0 Fp (fun i hi=>by
       obtain ⟨j,hj,rfl⟩:=rX.1 hi;have hj:=aVx.1 hj;have hk:=Nat.le_of_ble_eq_true hk;exact G7 j (by omega)) G5 (fun i hi=>by
       obtain ⟨o,_,q2,q3⟩:=hlv i hi;exact gR (bI.1 q2) q3) h3 h4 hM hF Bp hr⟩
     ·cases hs
    ·cases hs
   ·cases hs
  ·cases hs
 ·cases hs
def qF(ids:List Nat)(base:Nat):=bkN (ids++(List.range 7).map (base+·))
def qN(ids:List Nat)(base:Nat)(x:AV):AV:=(mpA (qF ids base) x).getD .any
theorem mN(ids:List Nat)(base:Nat){P:Program}{f:Nat}{A3:List AV}{M0 M1:Mem}{r:AV}(h:FMM P f A3 M0 r M1)(hs:aPy ids ((List.range 7).map (base+·)) (A3.map (qN ids base)) (qS ids (qF ids base) (A3.map (qN ids base)) M0) M1 r=some (A3,M0,qN ids base r,(rZ (ids++(List.range 7).map (base+·)) (ids++(List.range 7).map (base+·)) M1).getD []):=by kernel_rfl):FC P f (A3.map (qN ids base)) (qS ids (qF ids base) (A3.map (qN ids base)) M0) base (qN ids base r) ((rZ (ids++(List.range 7).map (base+·)) (ids++(List.range 7).map (base+·)) M1).getD []):=FMM.fcN (k:=7) rfl h hs
end
section
def bV(st:St)(id:Nat)(o:Option AO):St:=⟨st.t,st.m.set id o⟩
mutual
def wkP:PV→PV
 | .v (.slice none 0 0) => .sl 0 []
 | .agg cs => .agg (bIv cs)
 | x=>x
def bIv:List PV→List PV
 | []=>[]
 | x::r=>wkP x::bIv r
end
theorem aLc:∀ l:List PV,bIv l=l.map wkP
 | []=>by simp [bIv]
 | x::r=>by rw [bIv,aLc r];rfl
def Kz:AV→AV
 | .p x => .p (wkP x)
 | x=>x
theorem aSw{F:Nat→Prop}{w:World}{x:PV}{u:Value}(h:cS F w x u):cS F w (wkP x) u:=by
 induction h with
 | v x =>
  unfold wkP
  split
  ·rename_i e
   cases e;exact .sl 0 [] none 0 (fun _=>undef) (dD _) (Nat.zero_le _) (fun i h=>by simp at h) (fun i h=>by simp at h) (fun i h=>by simp at h)
  ·rename_i e;cases e
  ·exact .v x
 | sl n cs p cap us h1 h2 h3 h4 h5 _=>unfold wkP;exact .sl n cs p cap us h1 h2 h3 h4 h5
 | agg cs vs h0 h1 _ ih =>
  unfold wkP;rw [aLc];exact .agg _ vs (fun i hi=>h0 i (by simpa using hi)) (by simpa using h1) (fun i hi=>by
   have:=ih i (by simpa using hi)
   simpa using this)
 | mp es b cl arr us hb h0 h1 h2 h3 _=>unfold wkP;exact .mp es b cl arr us hb h0 h1 h2 h3
 | rp cs off b o us h1 h2 h3 _=>unfold wkP;exact .rp cs off b o us h1 h2 h3
 | fn f cs ds us vs h1 h2 h3 h4 _ _=>unfold wkP;exact .fn f cs ds us vs h1 h2 h3 h4
theorem aHh{C:Cx}{M:Mem}{w:World}{x:AV}{u:Value}(h:Rep C M w x u):Rep C M w (Kz x) u:=by
 cases h with
 | p x u h=>exact .p _ _ (aSw h)
 | _=>unfold Kz;constructor <;> assumption
theorem FMM.wk{P:Program}{f:Nat}{args l l':List AV}{M M':Mem}(h:FMM P f args M (.tup l) M')(e:l.map Kz=l'):FMM P f args M (.tup l') M':=fun C w us hus hM n=>by
 subst e;refine (h C w us hus hM n).mono ?_;rintro e w' ⟨u,rfl,C',hF,Ej,hr⟩;refine ⟨u,rfl,C',hF,Ej,?_⟩;cases hr with
 | tup _ vs h1 h2=>exact .tup _ vs (by simpa using h1) (fun i hi=>by
   have C8:i<l.length:=by simpa using hi
   simpa using aHh (h2 i C8))
end
section
variable {dn xb Hl:Bool}{e f k l kd my H8 H9 Dp Jg:Int}{n bf nr G1 Dv Jh Ea:Nat}

noncomputable abbrev fJ:Code:=sub (cd Tryz.f15) [1,1,1,1,0,1,0,1]
noncomputable abbrev bIp:Code:=sub (cd Tryz.f15) [1,1,1,1,0,1,0]
theorem aSu:((0:Int) != 0)=false:=by first | decide | simp
theorem bIq:((11:Int) != 0)=true:=by first | decide | simp
theorem aHg{s:List UInt8}:FMM Tp 88 [(.p (aD s))] [] (.fn 175 [] [(.ptr 0 0)]) [some (.box 9 [(.p (aD s))])]:=FMM.fi 0 ⟨[],[0],[],[]⟩ func88 [] gn
theorem bYx(fs:List (List UInt8))(ln k:Int)(R:List (List Cel))(he:(hdM fs).2.2.2≠0):FMM Tp 90 [.ptr 0 0,.p (.sl fs.length ((fs.map stE).flatten)),.fn 176 [] [.ptr 2 0,.ptr 3 0]] [some (.box 158 [(pI k),(.own 1),(pI 0),(pI 0),(pI 0)]),some (.row 78 R.length ((R.map rwE).flatten)),some (.box 156 [(.ptr 0 0)]),some (.box 3 [(pI ln)])] (.p (aB (hdM fs).2.1)) [some (.box 158 [(pI (Dn (hdM fs).1)),(.own 1),(pI ln),(pI ((hdM fs).2.2.1)),(pI ((hdM fs).2.2.2))]),some (.row 78 R.length ((R.map rwE).flatten)),some (.box 156 [(.ptr 0 0)]),some (.box 3 [(pI ln)])]:=by
 have:=bHe fs ln k 0 0 R;rw [Eu ln _ 0 0 he] at this
 exact this
theorem bYy(fs:List (List UInt8))(ln k:Int)(R:List (List Cel))(he:(hdM fs).2.2.2=0):FMM Tp 90 [.ptr 0 0,.p (.sl fs.length ((fs.map stE).flatten)),.fn 176 [] [.ptr 2 0,.ptr 3 0]] [some (.box 158 [(pI k),(.own 1),(pI 0),(pI 0),(pI 0)]),some (.row 78 R.length ((R.map rwE).flatten)),some (.box 156 [(.ptr 0 0)]),some (.box 3 [(pI ln)])] (.p (aB (hdM fs).2.1)) [some (.box 158 [(pI (Dn (hdM fs).1)),(.own 1),(pI 0),(pI 0),(pI 0)]),some (.row 78 R.length ((R.map rwE).flatten)),some (.box 156 [(.ptr 0 0)]),some (.box 3 [(pI ln)])]:=by
 have:=bHe fs ln k 0 0 R;rw [he,Iq] at this
 exact this
theorem bYz(fs:List (List UInt8))(sm ln k:Int)(R:List (List Cel))(h0:0<fs.length)(he:(lsM fs sm).2≠0):FMM Tp 93 [.p (.sl fs.length ((fs.map stE).flatten)),.p (aB sm),.fn 176 [] [.ptr 0 0,.ptr 1 0]] [some (.box 156 [(.ptr 2 0)]),some (.box 3 [(pI ln)]),some (.box 158 [(pI k),(.own 3),(pI 0),(pI 0),(pI 0)]),some (.row 78 R.length ((R.map rwE).flatten))] (.tup []) [some (.box 156 [(.ptr 2 0)]),some (.box 3 [(pI ln)]),some (.box 158 [(pI k),(.own 3),(pI ln),(pI ((lsM fs sm).1)),(pI ((lsM fs sm).2))]),some (.row 78 R.length ((R.map rwE).flatten))]:=by
 have:=bGn fs sm ln k 0 0 R h0;rw [Eu ln _ 0 0 he] at this
 exact this
theorem bZa(fs:List (List UInt8))(sm ln k:Int)(R:List (List Cel))(h0:0<fs.length)(he:(lsM fs sm).2=0):FMM Tp 93 [.p (.sl fs.length ((fs.map stE).flatten)),.p (aB sm),.fn 176 [] [.ptr 0 0,.ptr 1 0]] [some (.box 156 [(.ptr 2 0)]),some (.box 3 [(pI ln)]),some (.box 158 [(pI k),(.own 3),(pI 0),(pI 0),(pI 0)]),some (.row 78 R.length ((R.map rwE).flatten))] (.tup []) [some (.box 156 [(.ptr 2 0)]),some (.box 3 [(pI ln)]),some (.box 158 [(pI k),(.own 3),(pI 0),(pI 0),(pI 0)]),some (.row 78 R.length ((R.map rwE).flatten))]:=by
 have:=bGn fs sm ln k 0 0 R h0;rw [he,Iq] at this
 exact this
theorem aPt{n:Int}(k:Int)(r t:List Cel)(h:aM k≤(r.length:Int))(h2:aM k≤(t.length:Int))(hn:bS k r t=n){base:Nat}:FV Tp 92 [.p (aB k),.p (.sl r.length ((r.map cE).flatten)),.p (.sl t.length ((t.map cE).flatten))] base (pI n) []:=hn ▸ mH k r t h h2
theorem kK{cs:List PV}(h0:e≠0):FMM Tp 94 [(.ptr 0 0)] [some (.box 158 [(pI k),(.own 1),(pI l),(pI f),(pI e)]),some (.row 78 n cs)] (.tup [(.p (.agg [(aB 0),bK])),(pI l),(pI f),(pI e)]) [some (.box 158 [(pI k),(.own 1),(pI l),(pI f),(pI e)]),some (.row 78 n cs)]:=FMM.fi 2 gE func94 [bT] (gc (eY h0) gn)
theorem bIr{cs:List PV}(h0:e=0):FMM Tp 94 [(.ptr 0 0)] [some (.box 158 [(pI k),(.own 1),(pI l),(pI f),(pI e)]),some (.row 78 n cs)] (.tup [(.agg [(pI k),(.own 1)]),(pI 0),(pI 0),(pI 0)]) [some (.box 158 [(pI k),(.own 1),(pI l),(pI f),(pI e)]),some (.row 78 n cs)]:=FMM.fi 2 gE func94 [bF] (gc (bL h0) gn)
def bR(s:List UInt8)(nr:Nat)(my:Int)(bf:Nat)(dn:Bool)(kd:Int)(Rn:Nat)(Rc:List PV):St:=⟨fr 149 [(1,(.ptr 0 0)),(2,(.ptr 1 0)),(3,(.ptr 2 0)),(4,(.ptr 3 0)),(5,(.ptr 4 0)),(6,(.ptr 6 0)),(7,(.ptr 7 0)),(8,(.ptr 8 0)),(9,(.ptr 9 0)),(10,(.ptr 10 0)),(24,(.ptr 5 0)),(26,(.fn 175 [] [(.ptr 11 0)]))],[some (.box 9 [(.p (aD s))]),some (.box 26 [(pI 0),(.p bK)]),some (.box 3 [(pI 0)]),some (.box 3 [(pI 0)]),some (.box 27 [(pI 0)]),some (.box 158 [(pI kd),(.own 12),(pI 0),(pI 0),(pI 0)]),some (.box 156 [(.ptr 5 0)]),some (.box 3 [(pI (nr:Int))]),some (.box 3 [(pI my)]),some (.box 3 [(pI (bf:Int))]),some (.box 4 [(pB dn)]),some .dead,some (.row 78 Rn Rc)]⟩
def qT(s:List UInt8):St:=⟨fr 149 [(1,(.ptr 0 0)),(2,(.ptr 1 0)),(3,(.ptr 2 0)),(4,(.ptr 3 0)),(5,(.ptr 4 0)),(6,(.ptr 6 0)),(7,(.ptr 7 0)),(8,(.ptr 8 0)),(9,(.ptr 9 0)),(10,(.ptr 10 0)),(24,(.ptr 5 0)),(26,(.fn 175 [] [(.ptr 11 0)]))],[some (.box 9 [(.p (aD s))]),some (.box 26 [(pI 0),(.p bK)]),some (.box 3 [(pI 0)]),some (.box 3 [(pI 0)]),some (.box 27 [(pI 0)]),some (.box 158 [(pI 0),(.p bK),(pI 0),(pI 0),(pI 0)]),some (.box 156 [(.ptr 5 0)]),some (.box 3 [(pI 0)]),some (.box 3 [(pI 0)]),some (.box 3 [(pI 0)]),some (.box 4 [(.kb false)]),some (.box 9 [(.p (aD s))])]⟩
theorem bZb{s:List UInt8}(h0:(65536:Int)<(s.length:Int)):FMM Tp 15 [(.p (aD s))] [] (.tup [(.p (.agg [(aB 0),bK])),(pI 0),(pI 0),(pI 10)]) []:=FMM.fi 0 gE func15 [bT] (g0 h0)
section
variable{s:List UInt8}{R'5:List (List Cel)}(h0:(s.length:Int)≤65536)(An:aA Tp 0 bIp (qT s) .normal (bR s Ea Jg Jh Hl Dp R'5.length ((R'5.map rwE).flatten)))
include h0 An
theorem bZc{r0:Int}(h2:Hl=false)(h3:inR (((Ea+1):Nat):Int))(Al:r0=(((Ea+1):Nat):Int)):FMM Tp 15 [(.p (aD s))] [] (.tup [(.p (.agg [(aB 0),bK])),(pI r0),(pI 1),(pI 11)]) []:=by
 subst Al;have k1:=mq [13,14,5,12] 15 (cP 1 11 (((Ea+1):Nat):Int) Dp 0 0 0 R'5);have k2:=mq [5,12] 15 (kK (k:=Dp) (l:=(((Ea+1):Nat):Int)) (f:=(1:Int)) (e:=(11:Int)) (n:=R'5.length) (cs:=((R'5.map rwE).flatten)) (by decide));exact FMM.fi 0 gE func15 [bF,.c (.fn 175 [] [(.ptr 11 0)]) [(11,(.box 9 [(.p (aD s))]))],An.k 1 ⟨(rng [(0,1),(11,13),(25,1),(27,109),(142,1)]),(rng [(0,12)]),[],[]⟩,bT,.c (.fn 176 [] [(.ptr 13 0),(.ptr 14 0)]) [(5,(.box 158 [(pI Dp),(.own 12),(pI 0),(pI 0),(pI 0)])),(12,(.row 78 R'5.length ((R'5.map rwE).flatten))),(13,(.box 156 [(.ptr 5 0)])),(14,(.box 3 [(pI (((Ea+1):Nat):Int))]))],k1.o,k2.o] (gc k2 (gc k1 (gt (FC Tp 89 [(.ptr 5 0),(pI (((Ea+1):Nat):Int))] [(5,(.box 158 [(pI Dp),(.own 12),(pI 0),(pI 0),(pI 0)])),(12,(.row 78 R'5.length ((R'5.map rwE).flatten)))] 13 (.fn 176 [] [(.ptr 13 0),(.ptr 14 0)]) [(5,(.box 158 [(pI Dp),(.own 12),(pI 0),(pI 0),(pI 0)])),(12,(.row 78 R'5.length ((R'5.map rwE).flatten))),(13,(.box 156 [(.ptr 5 0)])),(14,(.box 3 [(pI (((Ea+1):Nat):Int))]))]) (FMM.fcN (k:=2) rfl (ids:=[5,12]) (fC (ln:=(((Ea+1):Nat):Int)) (k:=Dp) (l:=(0:Int)) (f:=(0:Int)) (e:=(0:Int)) (R:=R'5)) (by kernel_rfl)) (gc h3 (gc (dB h2) (gc An (gt (FC Tp 88 [(.p (aD s))] [] 11 (.fn 175 [] [(.ptr 11 0)]) [(11,(.box 9 [(.p (aD s))]))]) (FMM.fcN (k:=1) rfl (ids:=[]) (aHg (s:=s)) (by kernel_rfl)) (gc (bH h0) gn))))))))
theorem bZd(h2:Hl=true):FMM Tp 15 [(.p (aD s))] [] (.tup [(.p (.agg [(aB Dp),(.sl R'5.length ((R'5.map rwE).flatten))])),(pI 0),(pI 0),(pI 0)]) []:=have k1:=mq [5,12] 13 (bIr (k:=Dp) (l:=(0:Int)) (f:=(0:Int)) (e:=0) (n:=R'5.length) (cs:=((R'5.map rwE).flatten)) rfl);FMM.fi 0 ⟨[],[],[12],[]⟩ func15 [bF,.c (.fn 175 [] [(.ptr 11 0)]) [(11,(.box 9 [(.p (aD s))]))],An.k 1 ⟨(rng [(0,1),(11,13),(25,1),(27,109),(142,1)]),(rng [(0,12)]),[],[]⟩,bF,k1.o] (gc k1 (gc (aW h2) (gc An (gt (FC Tp 88 [(.p (aD s))] [] 11 (.fn 175 [] [(.ptr 11 0)]) [(11,(.box 9 [(.p (aD s))]))]) (FMM.fcN (k:=1) rfl (ids:=[]) (aHg (s:=s)) (by kernel_rfl)) (gc (bH h0) gn)))))
end
theorem bZe{s:List UInt8}{R'5:List (List Cel)}{Ns Nt Nu:Int}(h0:(s.length:Int)≤65536)(An:aA Tp 0 bIp (qT s) .ret (bV (bV (bV (bV (bR s Ea Jg Jh Hl Dp R'5.length ((R'5.map rwE).flatten)) 5 (some (.box 158 [(pI Dp),(.own 12),(pI Ns),(pI Nt),(pI Nu)]))) 2 (some (.box 3 [(pI Ns)]))) 3 (some (.box 3 [(pI Nt)]))) 4 (some (.box 27 [(pI Nu)])))):FMM Tp 15 [(.p (aD s))] [] (.tup [(.p (.agg [(aB 0),bK])),(pI Ns),(pI Nt),(pI Nu)]) []:=FMM.fi 0 gE func15 [bF,.c (.fn 175 [] [(.ptr 11 0)]) [(11,(.box 9 [(.p (aD s))]))],An.k 1 ⟨(rng [(0,1),(11,13),(25,1),(27,109),(142,1)]),(rng [(0,12)]),[],[]⟩] (gc An (gt (FC Tp 88 [(.p (aD s))] [] 11 (.fn 175 [] [(.ptr 11 0)]) [(11,(.box 9 [(.p (aD s))]))]) (FMM.fcN (k:=1) rfl (ids:=[]) (aHg (s:=s)) (by kernel_rfl)) (gc (bH h0) gn)))
theorem bAh{s:List UInt8}{R:List (List Cel)}{xl:List UInt8}(h0:inR (((nr+1):Nat):Int))(h1:xl.length<4294967281)(h2:1≤([32]:List UInt8).length)(h3:dn=true)(B2:Dv=(nr+1)):bW Tp 13 12 fJ (kC (bR s nr my bf dn kd R.length ((R.map rwE).flatten)) 27 28 11 12 xl xb) .ret (bV (bV (bV (bV (bR s Dv my bf dn kd R.length ((R.map rwE).flatten)) 5 (some (.box 158 [(pI kd),(.own 12),(pI (((nr+1):Nat):Int)),(pI 1),(pI 11)]))) 2 (some (.box 3 [(pI (((nr+1):Nat):Int))]))) 3 (some (.box 3 [(pI 1)]))) 4 (some (.box 27 [(pI 11)]))).m:=by
 subst B2
 have raw:bW Tp 13 12 fJ (kC (bR s nr my bf dn kd R.length ((R.map rwE).flatten)) 27 28 11 12 xl xb) .ret (bV (bV (bV (bV (bR s (nr+1) my bf dn kd R.length ((R.map rwE).flatten)) 5 (some (.box 158 [(pI kd),(.own 12),(pI (((nr+1):Nat):Int)),(pI 1),(pI 11)]))) 2 (some (.box 3 [(pI (((nr+1):Nat):Int))]))) 3 (some (.box 3 [(pI 1)]))) 4 (some (.box 27 [(pI 11)]))).m:=⟨⟨fr 149 [(1,(.ptr 0 0)),(2,(.ptr 1 0)),(3,(.ptr 2 0)),(4,(.ptr 3 0)),(5,(.ptr 4 0)),(6,(.ptr 6 0)),(7,(.ptr 7 0)),(8,(.ptr 8 0)),(9,(.ptr 9 0)),(10,(.ptr 10 0)),(24,(.ptr 5 0)),(26,(.fn 175 [] [(.ptr 11 0)]))],[some (.box 9 [(.p (aD s))]),some (.box 26 [(pI 0),(.p bK)]),some (.box 3 [(pI (((nr+1):Nat):Int))]),some (.box 3 [(pI 1)]),some (.box 27 [(pI 11)]),some (.box 158 [(pI kd),(.own 12),(pI (((nr+1):Nat):Int)),(pI 1),(pI 11)]),some (.box 156 [(.ptr 5 0)]),some (.box 3 [(pI (((nr+1):Nat):Int))]),some (.box 3 [(pI my)]),some (.box 3 [(pI (bf:Int))]),some (.box 4 [(pB dn)]),some .dead,some (.row 78 R.length ((R.map rwE).flatten))]⟩,⟨[],[12],[],[]⟩,aA.fin (g:=⟨(rng [(0,1),(11,13),(25,1),(27,109),(142,1)]),[],[],[]⟩) (o:=[.c (.fn 176 [] [(.ptr 13 0),(.ptr 14 0)]) [(5,(.box 158 [(pI kd),(.own 12),(pI 0),(pI 0),(pI 0)])),(12,(.row 78 R.length ((R.map rwE).flatten))),(13,(.box 156 [(.ptr 5 0)])),(14,(.box 3 [(pI (((nr+1):Nat):Int))]))],.c (.p (.sl ((aO xl ([32]:List UInt8)).length) (((aO xl ([32]:List UInt8)).map stE).flatten))) [],bT,bT,bT,.c (pB false) [(13,(.box 156 [(.ptr 5 0)])),(14,(.box 3 [(pI (((nr+1):Nat):Int))])),(5,(.box 158 [(pI kd),(.own 12),(pI (((nr+1):Nat):Int)),(pI 1),(pI 11)])),(12,(.row 78 R.length ((R.map rwE).flatten)))],bT,.c (.tup [(.p (.agg [(aB 0),bK])),(pI (((nr+1):Nat):Int)),(pI 1),(pI 11)]) [(5,(.box 158 [(pI kd),(.own 12),(pI (((nr+1):Nat):Int)),(pI 1),(pI 11)])),(12,(.row 78 R.length ((R.map rwE).flatten)))]]) (l:=[FC Tp 94 [(.ptr 5 0)] [(5,(.box 158 [(pI kd),(.own 12),(pI (((nr+1):Nat):Int)),(pI 1),(pI 11)])),(12,(.row 78 R.length ((R.map rwE).flatten)))] 15 (.tup [(.p (.agg [(aB 0),bK])),(pI (((nr+1):Nat):Int)),(pI 1),(pI 11)]) [(5,(.box 158 [(pI kd),(.own 12),(pI (((nr+1):Nat):Int)),(pI 1),(pI 11)])),(12,(.row 78 R.length ((R.map rwE).flatten)))],_,FC Tp 176 [(pI 1),(pI 11),(.ptr 13 0),(.ptr 14 0)] [(13,(.box 156 [(.ptr 5 0)])),(14,(.box 3 [(pI (((nr+1):Nat):Int))])),(5,(.box 158 [(pI kd),(.own 12),(pI 0),(pI 0),(pI 0)])),(12,(.row 78 R.length ((R.map rwE).flatten)))] 15 (pB false) [(13,(.box 156 [(.ptr 5 0)])),(14,(.box 3 [(pI (((nr+1):Nat):Int))])),(5,(.box 158 [(pI kd),(.own 12),(pI (((nr+1):Nat):Int)),(pI 1),(pI 11)])),(12,(.row 78 R.length ((R.map rwE).flatten)))],_,_,_,_,FC Tp 89 [(.ptr 5 0),(pI (((nr+1):Nat):Int))] [(5,(.box 158 [(pI kd),(.own 12),(pI 0),(pI 0),(pI 0)])),(12,(.row 78 R.length ((R.map rwE).flatten)))] 13 (.fn 176 [] [(.ptr 13 0),(.ptr 14 0)]) [(5,(.box 158 [(pI kd),(.own 12),(pI 0),(pI 0),(pI 0)])),(12,(.row 78 R.length ((R.map rwE).flatten))),(13,(.box 156 [(.ptr 5 0)])),(14,(.box 3 [(pI (((nr+1):Nat):Int))]))],_]) (by kernel_rfl) (gc (FMM.fc (ids:=[5,12]) (kK (k:=kd) (l:=(((nr+1):Nat):Int)) (f:=(1:Int)) (e:=(11:Int)) (n:=R.length) (cs:=((R.map rwE).flatten)) (by decide)) (by kernel_rfl)) (gc bIq (gc (FMM.fc (ids:=[13,14,5,12]) (cP 1 11 (((nr+1):Nat):Int) kd 0 0 0 R) (by kernel_rfl)) (A2 h3 (gc (fk 15 (eA xl ([32]:List UInt8) h1 h2) rfl) (gc (FMM.fcN (k:=2) rfl (ids:=[5,12]) (fC (ln:=(((nr+1):Nat):Int)) (k:=kd) (l:=(0:Int)) (f:=(0:Int)) (e:=(0:Int)) (R:=R)) (by kernel_rfl)) (gc h0 gn))))))),by kernel_rfl,(⟨fr 149 [(1,(.ptr 0 0)),(2,(.ptr 1 0)),(3,(.ptr 2 0)),(4,(.ptr 3 0)),(5,(.ptr 4 0)),(6,(.ptr 6 0)),(7,(.ptr 7 0)),(8,(.ptr 8 0)),(9,(.ptr 9 0)),(10,(.ptr 10 0)),(24,(.ptr 5 0)),(26,(.fn 175 [] [(.ptr 11 0)]))],[some (.box 9 [(.p (aD s))]),some (.box 26 [(pI 0),(.p bK)]),some (.box 3 [(pI (((nr+1):Nat):Int))]),some (.box 3 [(pI 1)]),some (.box 27 [(pI 11)]),some (.box 158 [(pI kd),(.own 12),(pI (((nr+1):Nat):Int)),(pI 1),(pI 11)]),some (.box 156 [(.ptr 5 0)]),some (.box 3 [(pI (((nr+1):Nat):Int))]),some (.box 3 [(pI my)]),some (.box 3 [(pI (bf:Int))]),some (.box 4 [(pB dn)]),some .dead,some (.row 78 R.length ((R.map rwE).flatten))]⟩:St).t,by kernel_rfl⟩
 exact raw
theorem bAi{s:List UInt8}{R:List (List Cel)}{xl:List UInt8}(h0:inR (((nr+1):Nat):Int))(h1:xl.length<4294967281)(h2:1≤([32]:List UInt8).length)(h3:dn=false)(h4:xb=false)(B2:Dv=(nr+1)):bW Tp 13 12 fJ (kC (bR s nr my bf dn kd R.length ((R.map rwE).flatten)) 27 28 11 12 xl xb) .ret (bV (bV (bV (bV (bR s Dv my bf dn kd R.length ((R.map rwE).flatten)) 5 (some (.box 158 [(pI kd),(.own 12),(pI (((nr+1):Nat):Int)),(pI 1),(pI 11)]))) 2 (some (.box 3 [(pI (((nr+1):Nat):Int))]))) 3 (some (.box 3 [(pI 1)]))) 4 (some (.box 27 [(pI 11)]))).m:=by
 subst B2
 have raw:bW Tp 13 12 fJ (kC (bR s nr my bf dn kd R.length ((R.map rwE).flatten)) 27 28 11 12 xl xb) .ret (bV (bV (bV (bV (bR s (nr+1) my bf dn kd R.length ((R.map rwE).flatten)) 5 (some (.box 158 [(pI kd),(.own 12),(pI (((nr+1):Nat):Int)),(pI 1),(pI 11)]))) 2 (some (.box 3 [(pI (((nr+1):Nat):Int))]))) 3 (some (.box 3 [(pI 1)]))) 4 (some (.box 27 [(pI 11)]))).m:=⟨⟨fr 149 [(1,(.ptr 0 0)),(2,(.ptr 1 0)),(3,(.ptr 2 0)),(4,(.ptr 3 0)),(5,(.ptr 4 0)),(6,(.ptr 6 0)),(7,(.ptr 7 0)),(8,(.ptr 8 0)),(9,(.ptr 9 0)),(10,(.ptr 10 0)),(24,(.ptr 5 0)),(26,(.fn 175 [] [(.ptr 11 0)]))],[some (.box 9 [(.p (aD s))]),some (.box 26 [(pI 0),(.p bK)]),some (.box 3 [(pI (((nr+1):Nat):Int))]),some (.box 3 [(pI 1)]),some (.box 27 [(pI 11)]),some (.box 158 [(pI kd),(.own 12),(pI (((nr+1):Nat):Int)),(pI 1),(pI 11)]),some (.box 156 [(.ptr 5 0)]),some (.box 3 [(pI (((nr+1):Nat):Int))]),some (.box 3 [(pI my)]),some (.box 3 [(pI (bf:Int))]),some (.box 4 [(pB dn)]),some .dead,some (.row 78 R.length ((R.map rwE).flatten))]⟩,⟨[],[12],[],[]⟩,aA.fin (g:=⟨(rng [(0,1),(11,13),(25,1),(27,109),(142,1)]),[],[],[]⟩) (o:=[.c (.fn 176 [] [(.ptr 13 0),(.ptr 14 0)]) [(5,(.box 158 [(pI kd),(.own 12),(pI 0),(pI 0),(pI 0)])),(12,(.row 78 R.length ((R.map rwE).flatten))),(13,(.box 156 [(.ptr 5 0)])),(14,(.box 3 [(pI (((nr+1):Nat):Int))]))],.c (.p (.sl ((aO xl ([32]:List UInt8)).length) (((aO xl ([32]:List UInt8)).map stE).flatten))) [],bF,bF,bF,bT,.c (pB false) [(13,(.box 156 [(.ptr 5 0)])),(14,(.box 3 [(pI (((nr+1):Nat):Int))])),(5,(.box 158 [(pI kd),(.own 12),(pI (((nr+1):Nat):Int)),(pI 1),(pI 11)])),(12,(.row 78 R.length ((R.map rwE).flatten)))],bT,.c (.tup [(.p (.agg [(aB 0),bK])),(pI (((nr+1):Nat):Int)),(pI 1),(pI 11)]) [(5,(.box 158 [(pI kd),(.own 12),(pI (((nr+1):Nat):Int)),(pI 1),(pI 11)])),(12,(.row 78 R.length ((R.map rwE).flatten)))]]) (l:=[FC Tp 94 [(.ptr 5 0)] [(5,(.box 158 [(pI kd),(.own 12),(pI (((nr+1):Nat):Int)),(pI 1),(pI 11)])),(12,(.row 78 R.length ((R.map rwE).flatten)))] 15 (.tup [(.p (.agg [(aB 0),bK])),(pI (((nr+1):Nat):Int)),(pI 1),(pI 11)]) [(5,(.box 158 [(pI kd),(.own 12),(pI (((nr+1):Nat):Int)),(pI 1),(pI 11)])),(12,(.row 78 R.length ((R.map rwE).flatten)))],_,FC Tp 176 [(pI 1),(pI 11),(.ptr 13 0),(.ptr 14 0)] [(13,(.box 156 [(.ptr 5 0)])),(14,(.box 3 [(pI (((nr+1):Nat):Int))])),(5,(.box 158 [(pI kd),(.own 12),(pI 0),(pI 0),(pI 0)])),(12,(.row 78 R.length ((R.map rwE).flatten)))] 15 (pB false) [(13,(.box 156 [(.ptr 5 0)])),(14,(.box 3 [(pI (((nr+1):Nat):Int))])),(5,(.box 158 [(pI kd),(.own 12),(pI (((nr+1):Nat):Int)),(pI 1),(pI 11)])),(12,(.row 78 R.length ((R.map rwE).flatten)))],_,_,_,_,_,FC Tp 89 [(.ptr 5 0),(pI (((nr+1):Nat):Int))] [(5,(.box 158 [(pI kd),(.own 12),(pI 0),(pI 0),(pI 0)])),(12,(.row 78 R.length ((R.map rwE).flatten)))] 13 (.fn 176 [] [(.ptr 13 0),(.ptr 14 0)]) [(5,(.box 158 [(pI kd),(.own 12),(pI 0),(pI 0),(pI 0)])),(12,(.row 78 R.length ((R.map rwE).flatten))),(13,(.box 156 [(.ptr 5 0)])),(14,(.box 3 [(pI (((nr+1):Nat):Int))]))],_]) (by kernel_rfl) (gc (FMM.fc (ids:=[5,12]) (kK (k:=kd) (l:=(((nr+1):Nat):Int)) (f:=(1:Int)) (e:=(11:Int)) (n:=R.length) (cs:=((R.map rwE).flatten)) (by decide)) (by kernel_rfl)) (gc bIq (gc (FMM.fc (ids:=[13,14,5,12]) (cP 1 11 (((nr+1):Nat):Int) kd 0 0 0 R) (by kernel_rfl)) (gc (dB h4) (A2 h3 (gc (fk 15 (eA xl ([32]:List UInt8) h1 h2) rfl) (gc (FMM.fcN (k:=2) rfl (ids:=[5,12]) (fC (ln:=(((nr+1):Nat):Int)) (k:=kd) (l:=(0:Int)) (f:=(0:Int)) (e:=(0:Int)) (R:=R)) (by kernel_rfl)) (gc h0 gn)))))))),by kernel_rfl,(⟨fr 149 [(1,(.ptr 0 0)),(2,(.ptr 1 0)),(3,(.ptr 2 0)),(4,(.ptr 3 0)),(5,(.ptr 4 0)),(6,(.ptr 6 0)),(7,(.ptr 7 0)),(8,(.ptr 8 0)),(9,(.ptr 9 0)),(10,(.ptr 10 0)),(24,(.ptr 5 0)),(26,(.fn 175 [] [(.ptr 11 0)]))],[some (.box 9 [(.p (aD s))]),some (.box 26 [(pI 0),(.p bK)]),some (.box 3 [(pI (((nr+1):Nat):Int))]),some (.box 3 [(pI 1)]),some (.box 27 [(pI 11)]),some (.box 158 [(pI kd),(.own 12),(pI (((nr+1):Nat):Int)),(pI 1),(pI 11)]),some (.box 156 [(.ptr 5 0)]),some (.box 3 [(pI (((nr+1):Nat):Int))]),some (.box 3 [(pI my)]),some (.box 3 [(pI (bf:Int))]),some (.box 4 [(pB dn)]),some .dead,some (.row 78 R.length ((R.map rwE).flatten))]⟩:St).t,by kernel_rfl⟩
 exact raw
theorem bAj{s:List UInt8}{R:List (List Cel)}{xl:List UInt8}(h0:inR (((nr+1):Nat):Int))(h1:xl.length<4294967281)(h2:1≤([32]:List UInt8).length)(h3:dn=false)(h4:xb=true)(h5:(((nr+1):Nat):Int)=1)(Nv:(hdM (aO xl ([32]:List UInt8))).2.2.2≠0)(h7:((hdM (aO xl ([32]:List UInt8))).2.2.2)≠0)(B2:Dv=(nr+1))(Fv:H9=((hdM (aO xl ([32]:List UInt8))).2.1))(Fu:H8=(Dn (hdM (aO xl ([32]:List UInt8))).1)):bW Tp 13 12 fJ (kC (bR s nr my bf dn kd R.length ((R.map rwE).flatten)) 27 28 11 12 xl xb) .ret (bV (bV (bV (bV (bR s Dv H9 bf dn H8 R.length ((R.map rwE).flatten)) 5 (some (.box 158 [(pI (Dn (hdM (aO xl ([32]:List UInt8))).1)),(.own 12),(pI (((nr+1):Nat):Int)),(pI ((hdM (aO xl ([32]:List UInt8))).2.2.1)),(pI ((hdM (aO xl ([32]:List UInt8))).2.2.2))]))) 2 (some (.box 3 [(pI (((nr+1):Nat):Int))]))) 3 (some (.box 3 [(pI ((hdM (aO xl ([32]:List UInt8))).2.2.1))]))) 4 (some (.box 27 [(pI ((hdM (aO xl ([32]:List UInt8))).2.2.2))]))).m:=by
 subst B2 Fv Fu
 have raw:bW Tp 13 12 fJ (kC (bR s nr my bf dn kd R.length ((R.map rwE).flatten)) 27 28 11 12 xl xb) .ret (bV (bV (bV (bV (bR s (nr+1) ((hdM (aO xl ([32]:List UInt8))).2.1) bf dn (Dn (hdM (aO xl ([32]:List UInt8))).1) R.length ((R.map rwE).flatten)) 5 (some (.box 158 [(pI (Dn (hdM (aO xl ([32]:List UInt8))).1)),(.own 12),(pI (((nr+1):Nat):Int)),(pI ((hdM (aO xl ([32]:List UInt8))).2.2.1)),(pI ((hdM (aO xl ([32]:List UInt8))).2.2.2))]))) 2 (some (.box 3 [(pI (((nr+1):Nat):Int))]))) 3 (some (.box 3 [(pI ((hdM (aO xl ([32]:List UInt8))).2.2.1))]))) 4 (some (.box 27 [(pI ((hdM (aO xl ([32]:List UInt8))).2.2.2))]))).m:=⟨⟨fr 149 [(1,(.ptr 0 0)),(2,(.ptr 1 0)),(3,(.ptr 2 0)),(4,(.ptr 3 0)),(5,(.ptr 4 0)),(6,(.ptr 6 0)),(7,(.ptr 7 0)),(8,(.ptr 8 0)),(9,(.ptr 9 0)),(10,(.ptr 10 0)),(24,(.ptr 5 0)),(26,(.fn 175 [] [(.ptr 11 0)]))],[some (.box 9 [(.p (aD s))]),some (.box 26 [(pI 0),(.p bK)]),some (.box 3 [(pI (((nr+1):Nat):Int))]),some (.box 3 [(pI ((hdM (aO xl ([32]:List UInt8))).2.2.1))]),some (.box 27 [(pI ((hdM (aO xl ([32]:List UInt8))).2.2.2))]),some (.box 158 [(pI (Dn (hdM (aO xl ([32]:List UInt8))).1)),(.own 12),(pI (((nr+1):Nat):Int)),(pI ((hdM (aO xl ([32]:List UInt8))).2.2.1)),(pI ((hdM (aO xl ([32]:List UInt8))).2.2.2))]),some (.box 156 [(.ptr 5 0)]),some (.box 3 [(pI (((nr+1):Nat):Int))]),some (.box 3 [(pI ((hdM (aO xl ([32]:List UInt8))).2.1))]),some (.box 3 [(pI (bf:Int))]),some (.box 4 [(pB dn)]),some .dead,some (.row 78 R.length ((R.map rwE).flatten))]⟩,⟨[],[12],[],[]⟩,aA.fin (g:=⟨(rng [(0,1),(11,13),(25,1),(27,109),(142,1)]),[],[],[]⟩) (o:=[.c (.fn 176 [] [(.ptr 13 0),(.ptr 14 0)]) [(5,(.box 158 [(pI kd),(.own 12),(pI 0),(pI 0),(pI 0)])),(12,(.row 78 R.length ((R.map rwE).flatten))),(13,(.box 156 [(.ptr 5 0)])),(14,(.box 3 [(pI (((nr+1):Nat):Int))]))],.c (.p (.sl ((aO xl ([32]:List UInt8)).length) (((aO xl ([32]:List UInt8)).map stE).flatten))) [],bF,bF,bF,bF,bT,.c (pI ((hdM (aO xl ([32]:List UInt8))).2.1)) [(5,(.box 158 [(pI (Dn (hdM (aO xl ([32]:List UInt8))).1)),(.own 12),(pI (((nr+1):Nat):Int)),(pI ((hdM (aO xl ([32]:List UInt8))).2.2.1)),(pI ((hdM (aO xl ([32]:List UInt8))).2.2.2))])),(12,(.row 78 R.length ((R.map rwE).flatten))),(13,(.box 156 [(.ptr 5 0)])),(14,(.box 3 [(pI (((nr+1):Nat):Int))]))],bT,.c (.tup [(.p (.agg [(aB 0),bK])),(pI (((nr+1):Nat):Int)),(pI ((hdM (aO xl ([32]:List UInt8))).2.2.1)),(pI ((hdM (aO xl ([32]:List UInt8))).2.2.2))]) [(5,(.box 158 [(pI (Dn (hdM (aO xl ([32]:List UInt8))).1)),(.own 12),(pI (((nr+1):Nat):Int)),(pI ((hdM (aO xl ([32]:List UInt8))).2.2.1)),(pI ((hdM (aO xl ([32]:List UInt8))).2.2.2))])),(12,(.row 78 R.length ((R.map rwE).flatten)))]]) (l:=[FC Tp 94 [(.ptr 5 0)] [(5,(.box 158 [(pI (Dn (hdM (aO xl ([32]:List UInt8))).1)),(.own 12),(pI (((nr+1):Nat):Int)),(pI ((hdM (aO xl ([32]:List UInt8))).2.2.1)),(pI ((hdM (aO xl ([32]:List UInt8))).2.2.2))])),(12,(.row 78 R.length ((R.map rwE).flatten)))] 15 (.tup [(.p (.agg [(aB 0),bK])),(pI (((nr+1):Nat):Int)),(pI ((hdM (aO xl ([32]:List UInt8))).2.2.1)),(pI ((hdM (aO xl ([32]:List UInt8))).2.2.2))]) [(5,(.box 158 [(pI (Dn (hdM (aO xl ([32]:List UInt8))).1)),(.own 12),(pI (((nr+1):Nat):Int)),(pI ((hdM (aO xl ([32]:List UInt8))).2.2.1)),(pI ((hdM (aO xl ([32]:List UInt8))).2.2.2))])),(12,(.row 78 R.length ((R.map rwE).flatten)))],_,FC Tp 90 [(.ptr 5 0),(.p (.sl ((aO xl ([32]:List UInt8)).length) (((aO xl ([32]:List UInt8)).map stE).flatten))),(.fn 176 [] [(.ptr 13 0),(.ptr 14 0)])] [(5,(.box 158 [(pI kd),(.own 12),(pI 0),(pI 0),(pI 0)])),(13,(.box 156 [(.ptr 5 0)])),(14,(.box 3 [(pI (((nr+1):Nat):Int))])),(12,(.row 78 R.length ((R.map rwE).flatten)))] 15 (pI ((hdM (aO xl ([32]:List UInt8))).2.1)) [(5,(.box 158 [(pI (Dn (hdM (aO xl ([32]:List UInt8))).1)),(.own 12),(pI (((nr+1):Nat):Int)),(pI ((hdM (aO xl ([32]:List UInt8))).2.2.1)),(pI ((hdM (aO xl ([32]:List UInt8))).2.2.2))])),(12,(.row 78 R.length ((R.map rwE).flatten))),(13,(.box 156 [(.ptr 5 0)])),(14,(.box 3 [(pI (((nr+1):Nat):Int))]))],_,_,_,_,_,_,FC Tp 89 [(.ptr 5 0),(pI (((nr+1):Nat):Int))] [(5,(.box 158 [(pI kd),(.own 12),(pI 0),(pI 0),(pI 0)])),(12,(.row 78 R.length ((R.map rwE).flatten)))] 13 (.fn 176 [] [(.ptr 13 0),(.ptr 14 0)]) [(5,(.box 158 [(pI kd),(.own 12),(pI 0),(pI 0),(pI 0)])),(12,(.row 78 R.length ((R.map rwE).flatten))),(13,(.box 156 [(.ptr 5 0)])),(14,(.box 3 [(pI (((nr+1):Nat):Int))]))],_]) (by kernel_rfl) (gc (FMM.fc (ids:=[5,12]) (kK (k:=(Dn (hdM (aO xl ([32]:List UInt8))).1)) (l:=(((nr+1):Nat):Int)) (f:=((hdM (aO xl ([32]:List UInt8))).2.2.1)) (e:=((hdM (aO xl ([32]:List UInt8))).2.2.2)) (n:=R.length) (cs:=((R.map rwE).flatten)) h7) (by kernel_rfl)) (gc (eY h7) (gc (FMM.fc (ids:=[5,12,13,14]) (bYx (aO xl ([32]:List UInt8)) (((nr+1):Nat):Int) kd R Nv) (by kernel_rfl)) (gc (dC h5) (gc (aW h4) (A2 h3 (gc (fk 15 (eA xl ([32]:List UInt8) h1 h2) rfl) (gc (FMM.fcN (k:=2) rfl (ids:=[5,12]) (fC (ln:=(((nr+1):Nat):Int)) (k:=kd) (l:=(0:Int)) (f:=(0:Int)) (e:=(0:Int)) (R:=R)) (by kernel_rfl)) (gc h0 gn))))))))),by kernel_rfl,(⟨fr 149 [(1,(.ptr 0 0)),(2,(.ptr 1 0)),(3,(.ptr 2 0)),(4,(.ptr 3 0)),(5,(.ptr 4 0)),(6,(.ptr 6 0)),(7,(.ptr 7 0)),(8,(.ptr 8 0)),(9,(.ptr 9 0)),(10,(.ptr 10 0)),(24,(.ptr 5 0)),(26,(.fn 175 [] [(.ptr 11 0)]))],[some (.box 9 [(.p (aD s))]),some (.box 26 [(pI 0),(.p bK)]),some (.box 3 [(pI (((nr+1):Nat):Int))]),some (.box 3 [(pI ((hdM (aO xl ([32]:List UInt8))).2.2.1))]),some (.box 27 [(pI ((hdM (aO xl ([32]:List UInt8))).2.2.2))]),some (.box 158 [(pI (Dn (hdM (aO xl ([32]:List UInt8))).1)),(.own 12),(pI (((nr+1):Nat):Int)),(pI ((hdM (aO xl ([32]:List UInt8))).2.2.1)),(pI ((hdM (aO xl ([32]:List UInt8))).2.2.2))]),some (.box 156 [(.ptr 5 0)]),some (.box 3 [(pI (((nr+1):Nat):Int))]),some (.box 3 [(pI ((hdM (aO xl ([32]:List UInt8))).2.1))]),some (.box 3 [(pI (bf:Int))]),some (.box 4 [(pB dn)]),some .dead,some (.row 78 R.length ((R.map rwE).flatten))]⟩:St).t,by kernel_rfl⟩
 exact raw
theorem bAk{s:List UInt8}{R:List (List Cel)}{xl:List UInt8}(h0:inR (((nr+1):Nat):Int))(h1:xl.length<4294967281)(h2:1≤([32]:List UInt8).length)(h3:dn=false)(h4:xb=true)(h5:(((nr+1):Nat):Int)=1)(Nv:(hdM (aO xl ([32]:List UInt8))).2.2.2=0)(h7:inR (((xl.length+1):Nat):Int))(h8:inR (((bf+(xl.length+1)):Nat):Int))(B2:Dv=(nr+1))(Fv:H9=((hdM (aO xl ([32]:List UInt8))).2.1))(F3:G1=(bf+(xl.length+1)))(Fu:H8=(Dn (hdM (aO xl ([32]:List UInt8))).1)):bW Tp 13 12 fJ (kC (bR s nr my bf dn kd R.length ((R.map rwE).flatten)) 27 28 11 12 xl xb) .normal (bR s Dv H9 G1 dn H8 R.length ((R.map rwE).flatten)).m:=by
 subst B2 Fv F3 Fu
 have raw:bW Tp 13 12 fJ (kC (bR s nr my bf dn kd R.length ((R.map rwE).flatten)) 27 28 11 12 xl xb) .normal (bR s (nr+1) ((hdM (aO xl ([32]:List UInt8))).2.1) (bf+(xl.length+1)) dn (Dn (hdM (aO xl ([32]:List UInt8))).1) R.length ((R.map rwE).flatten)).m:=⟨⟨fr 149 [(1,(.ptr 0 0)),(2,(.ptr 1 0)),(3,(.ptr 2 0)),(4,(.ptr 3 0)),(5,(.ptr 4 0)),(6,(.ptr 6 0)),(7,(.ptr 7 0)),(8,(.ptr 8 0)),(9,(.ptr 9 0)),(10,(.ptr 10 0)),(24,(.ptr 5 0)),(26,(.fn 175 [] [(.ptr 11 0)]))],[some (.box 9 [(.p (aD s))]),some (.box 26 [(pI 0),(.p bK)]),some (.box 3 [(pI 0)]),some (.box 3 [(pI 0)]),some (.box 27 [(pI 0)]),some (.box 158 [(pI (Dn (hdM (aO xl ([32]:List UInt8))).1)),(.own 12),(pI 0),(pI 0),(pI 0)]),some (.box 156 [(.ptr 5 0)]),some (.box 3 [(pI (((nr+1):Nat):Int))]),some (.box 3 [(pI ((hdM (aO xl ([32]:List UInt8))).2.1))]),some (.box 3 [(pI (((bf+(xl.length+1)):Nat):Int))]),some (.box 4 [(pB dn)]),some .dead,some (.row 78 R.length ((R.map rwE).flatten))]⟩,⟨[],[12],[],[]⟩,aA.fin (g:=⟨(rng [(0,1),(11,13),(25,1),(27,109),(142,1)]),[],[],[]⟩) (o:=[.c (.fn 176 [] [(.ptr 13 0),(.ptr 14 0)]) [(5,(.box 158 [(pI kd),(.own 12),(pI 0),(pI 0),(pI 0)])),(12,(.row 78 R.length ((R.map rwE).flatten))),(13,(.box 156 [(.ptr 5 0)])),(14,(.box 3 [(pI (((nr+1):Nat):Int))]))],.c (.p (.sl ((aO xl ([32]:List UInt8)).length) (((aO xl ([32]:List UInt8)).map stE).flatten))) [],bF,bF,bF,bF,bT,.c (pI ((hdM (aO xl ([32]:List UInt8))).2.1)) [(5,(.box 158 [(pI (Dn (hdM (aO xl ([32]:List UInt8))).1)),(.own 12),(pI 0),(pI 0),(pI 0)])),(12,(.row 78 R.length ((R.map rwE).flatten))),(13,(.box 156 [(.ptr 5 0)])),(14,(.box 3 [(pI (((nr+1):Nat):Int))]))],bF]) (l:=[_,_,_,FC Tp 90 [(.ptr 5 0),(.p (.sl ((aO xl ([32]:List UInt8)).length) (((aO xl ([32]:List UInt8)).map stE).flatten))),(.fn 176 [] [(.ptr 13 0),(.ptr 14 0)])] [(5,(.box 158 [(pI kd),(.own 12),(pI 0),(pI 0),(pI 0)])),(13,(.box 156 [(.ptr 5 0)])),(14,(.box 3 [(pI (((nr+1):Nat):Int))])),(12,(.row 78 R.length ((R.map rwE).flatten)))] 15 (pI ((hdM (aO xl ([32]:List UInt8))).2.1)) [(5,(.box 158 [(pI (Dn (hdM (aO xl ([32]:List UInt8))).1)),(.own 12),(pI 0),(pI 0),(pI 0)])),(12,(.row 78 R.length ((R.map rwE).flatten))),(13,(.box 156 [(.ptr 5 0)])),(14,(.box 3 [(pI (((nr+1):Nat):Int))]))],_,_,_,_,_,_,FC Tp 89 [(.ptr 5 0),(pI (((nr+1):Nat):Int))] [(5,(.box 158 [(pI kd),(.own 12),(pI 0),(pI 0),(pI 0)])),(12,(.row 78 R.length ((R.map rwE).flatten)))] 13 (.fn 176 [] [(.ptr 13 0),(.ptr 14 0)]) [(5,(.box 158 [(pI kd),(.own 12),(pI 0),(pI 0),(pI 0)])),(12,(.row 78 R.length ((R.map rwE).flatten))),(13,(.box 156 [(.ptr 5 0)])),(14,(.box 3 [(pI (((nr+1):Nat):Int))]))],_]) (by kernel_rfl) (gc h8 (gc h7 (gc aSu (gc (FMM.fc (ids:=[5,12,13,14]) (bYy (aO xl ([32]:List UInt8)) (((nr+1):Nat):Int) kd R Nv) (by kernel_rfl)) (gc (dC h5) (gc (aW h4) (A2 h3 (gc (fk 15 (eA xl ([32]:List UInt8) h1 h2) rfl) (gc (FMM.fcN (k:=2) rfl (ids:=[5,12]) (fC (ln:=(((nr+1):Nat):Int)) (k:=kd) (l:=(0:Int)) (f:=(0:Int)) (e:=(0:Int)) (R:=R)) (by kernel_rfl)) (gc h0 gn)))))))))),by kernel_rfl,(⟨fr 149 [(1,(.ptr 0 0)),(2,(.ptr 1 0)),(3,(.ptr 2 0)),(4,(.ptr 3 0)),(5,(.ptr 4 0)),(6,(.ptr 6 0)),(7,(.ptr 7 0)),(8,(.ptr 8 0)),(9,(.ptr 9 0)),(10,(.ptr 10 0)),(24,(.ptr 5 0)),(26,(.fn 175 [] [(.ptr 11 0)]))],[some (.box 9 [(.p (aD s))]),some (.box 26 [(pI 0),(.p bK)]),some (.box 3 [(pI 0)]),some (.box 3 [(pI 0)]),some (.box 27 [(pI 0)]),some (.box 158 [(pI (Dn (hdM (aO xl ([32]:List UInt8))).1)),(.own 12),(pI 0),(pI 0),(pI 0)]),some (.box 156 [(.ptr 5 0)]),some (.box 3 [(pI (((nr+1):Nat):Int))]),some (.box 3 [(pI ((hdM (aO xl ([32]:List UInt8))).2.1))]),some (.box 3 [(pI (((bf+(xl.length+1)):Nat):Int))]),some (.box 4 [(pB dn)]),some .dead,some (.row 78 R.length ((R.map rwE).flatten))]⟩:St).t,by kernel_rfl⟩
 exact raw
theorem bAl{s:List UInt8}{R:List (List Cel)}{xl:List UInt8}{Ae Bc:List Cel}{R':List (List Cel)}(h0:inR (((nr+1):Nat):Int))(h1:xl.length<4294967281)(h2:1≤([32]:List UInt8).length)(h3:dn=false)(h4:xb=true)(h5:(((nr+1):Nat):Int)≠1)(h6:inR (my+1))(h7:(((nr+1):Nat):Int)≤(my+1))(Hm:∀ u∈(aO xl ([32]:List UInt8)),u.length≤90000)(Hn:rdL (aJ kd) (aO xl ([32]:List UInt8)) 0 = .inl Ae)(E1:(aO xl ([32]:List UInt8)).length=(aJ kd).length)(Da:(0:Int)<(R.length:Int))(Ba:inR ((R.length:Int)-1))(Cw:0≤((R.length:Int)-1)∧((R.length:Int)-1)<(R.length:Int))(Ek:R[((R.length:Int)-1).toNat]? = some (Bc))(D5:aM kd≤(Bc.length:Int))(Hb:aM kd≤(Ae.length:Int))(Gz:bS kd Bc Ae=(-1:Int))(I8:[(PV.sl Ae.length ((Ae.map cE).flatten))].length=1*1∧R.length+1≤1000000)(M3:inR (((xl.length+1):Nat):Int))(M4:inR (((bf+(xl.length+1)):Nat):Int))(B2:Dv=(nr+1))(F3:G1=(bf+(xl.length+1)))(D6:R'.length=(R.length+1))(D7:(R'.map rwE).flatten=(((R.map rwE).flatten)++[(PV.sl Ae.length ((Ae.map cE).flatten))])):bW Tp 13 12 fJ (kC (bR s nr my bf dn kd R.length ((R.map rwE).flatten)) 27 28 11 12 xl xb) .normal (bR s Dv my G1 dn kd R'.length ((R'.map rwE).flatten)).m:=by
 subst B2 F3
 have raw:bW Tp 13 12 fJ (kC (bR s nr my bf dn kd R.length ((R.map rwE).flatten)) 27 28 11 12 xl xb) .normal (bR s (nr+1) my (bf+(xl.length+1)) dn kd (R.length+1) (((R.map rwE).flatten)++[(PV.sl Ae.length ((Ae.map cE).flatten))])).m:=⟨⟨fr 149 [(1,(.ptr 0 0)),(2,(.ptr 1 0)),(3,(.ptr 2 0)),(4,(.ptr 3 0)),(5,(.ptr 4 0)),(6,(.ptr 6 0)),(7,(.ptr 7 0)),(8,(.ptr 8 0)),(9,(.ptr 9 0)),(10,(.ptr 10 0)),(24,(.ptr 5 0)),(26,(.fn 175 [] [(.ptr 11 0)]))],[some (.box 9 [(.p (aD s))]),some (.box 26 [(pI 0),(.p bK)]),some (.box 3 [(pI 0)]),some (.box 3 [(pI 0)]),some (.box 27 [(pI 0)]),some (.box 158 [(pI kd),(.own 13),(pI 0),(pI 0),(pI 0)]),some (.box 156 [(.ptr 5 0)]),some (.box 3 [(pI (((nr+1):Nat):Int))]),some (.box 3 [(pI my)]),some (.box 3 [(pI (((bf+(xl.length+1)):Nat):Int))]),some (.box 4 [(pB dn)]),some .dead,some .dead,some (.row 78 (R.length+1) (((R.map rwE).flatten)++[(PV.sl Ae.length ((Ae.map cE).flatten))]))]⟩,⟨[],[13],[],[]⟩,aA.fin (g:=⟨(rng [(0,1),(11,13),(25,1),(27,109),(142,1)]),[17],[],[]⟩) (o:=[.c (.fn 176 [] [(.ptr 13 0),(.ptr 14 0)]) [(5,(.box 158 [(pI kd),(.own 12),(pI 0),(pI 0),(pI 0)])),(12,(.row 78 R.length ((R.map rwE).flatten))),(13,(.box 156 [(.ptr 5 0)])),(14,(.box 3 [(pI (((nr+1):Nat):Int))]))],.c (.p (.sl ((aO xl ([32]:List UInt8)).length) (((aO xl ([32]:List UInt8)).map stE).flatten))) [],bF,bF,bF,bF,bF,bT,.c (.tup [(.own 15),(pB true)]) [(5,(.box 158 [(pI kd),(.own 12),(pI 0),(pI 0),(pI 0)])),(12,(.row 78 R.length ((R.map rwE).flatten))),(13,(.box 156 [(.ptr 5 0)])),(14,(.box 3 [(pI (((nr+1):Nat):Int))])),(15,(.row 80 Ae.length ((Ae.map cE).flatten)))],bT,bT,.x (.sl Bc.length ((Bc.map cE).flatten)),.c (pI (-1)) [],.c (pB true) [(13,(.box 156 [(.ptr 5 0)])),(14,(.box 3 [(pI (((nr+1):Nat):Int))])),(5,(.box 158 [(pI kd),(.own 12),(pI 0),(pI 0),(pI 0)])),(12,(.row 78 R.length ((R.map rwE).flatten)))],bF]) (l:=[_,_,_,_,FC Tp 176 [(pI 1),(pI 0),(.ptr 13 0),(.ptr 14 0)] [(13,(.box 156 [(.ptr 5 0)])),(14,(.box 3 [(pI (((nr+1):Nat):Int))])),(5,(.box 158 [(pI kd),(.own 12),(pI 0),(pI 0),(pI 0)])),(12,(.row 78 R.length ((R.map rwE).flatten)))] 25 (pB true) [(13,(.box 156 [(.ptr 5 0)])),(14,(.box 3 [(pI (((nr+1):Nat):Int))])),(5,(.box 158 [(pI kd),(.own 12),(pI 0),(pI 0),(pI 0)])),(12,(.row 78 R.length ((R.map rwE).flatten)))],0≤(0:Int)∧(0:Int)<3,inR 0,FC Tp 92 [(pI kd),(.p (.sl Bc.length ((Bc.map cE).flatten))),(.own 15)] [(15,(.row 80 Ae.length ((Ae.map cE).flatten)))] 17 (pI (-1)) [],((R.map rwE).flatten)[(((R.length:Int)-1).toNat*1)]? = some (.sl Bc.length ((Bc.map cE).flatten)),_,_,_,true=true,FC Tp 91 [(.ptr 5 0),(.p (.sl ((aO xl ([32]:List UInt8)).length) (((aO xl ([32]:List UInt8)).map stE).flatten))),(.fn 176 [] [(.ptr 13 0),(.ptr 14 0)])] [(5,(.box 158 [(pI kd),(.own 12),(pI 0),(pI 0),(pI 0)])),(13,(.box 156 [(.ptr 5 0)])),(14,(.box 3 [(pI (((nr+1):Nat):Int))])),(12,(.row 78 R.length ((R.map rwE).flatten)))] 15 (.tup [(.own 15),(pB true)]) [(5,(.box 158 [(pI kd),(.own 12),(pI 0),(pI 0),(pI 0)])),(12,(.row 78 R.length ((R.map rwE).flatten))),(13,(.box 156 [(.ptr 5 0)])),(14,(.box 3 [(pI (((nr+1):Nat):Int))])),(15,(.row 80 Ae.length ((Ae.map cE).flatten)))],_,_,_,_,_,_,_,_,FC Tp 89 [(.ptr 5 0),(pI (((nr+1):Nat):Int))] [(5,(.box 158 [(pI kd),(.own 12),(pI 0),(pI 0),(pI 0)])),(12,(.row 78 R.length ((R.map rwE).flatten)))] 13 (.fn 176 [] [(.ptr 13 0),(.ptr 14 0)]) [(5,(.box 158 [(pI kd),(.own 12),(pI 0),(pI 0),(pI 0)])),(12,(.row 78 R.length ((R.map rwE).flatten))),(13,(.box 156 [(.ptr 5 0)])),(14,(.box 3 [(pI (((nr+1):Nat):Int))]))],_]) (by kernel_rfl) (gc M4 (gc M3 (gc aSu (gc I8 (gc (FMM.fc (ids:=[13,14,5,12]) (cP 1 0 (((nr+1):Nat):Int) kd 0 0 0 R) (by kernel_rfl)) (gc (by first | decide | simp) (gc (by show _∧_;omega) (gc (fv (aPt kd Bc Ae D5 Hb Gz)) (gc (aL (E:=rwE) (i:=((R.length:Int)-1).toNat) (f:=0) (k:=1) (fun _=>rfl) Ek rfl) (gc Cw (gc Ba (gc (cN Da) (gc rfl (gc (FMM.fcN (k:=1) rfl (ids:=[5,12,13,14]) (lH (((nr+1):Nat):Int) R 0 0 Hm Hn E1) (by kernel_rfl)) (gc (mR h7) (gc h6 (gc (bJ h5) (gc (aW h4) (A2 h3 (gc (fk 15 (eA xl ([32]:List UInt8) h1 h2) rfl) (gc (FMM.fcN (k:=2) rfl (ids:=[5,12]) (fC (ln:=(((nr+1):Nat):Int)) (k:=kd) (l:=(0:Int)) (f:=(0:Int)) (e:=(0:Int)) (R:=R)) (by kernel_rfl)) (gc h0 gn)))))))))))))))))))))),by kernel_rfl,(⟨fr 149 [(1,(.ptr 0 0)),(2,(.ptr 1 0)),(3,(.ptr 2 0)),(4,(.ptr 3 0)),(5,(.ptr 4 0)),(6,(.ptr 6 0)),(7,(.ptr 7 0)),(8,(.ptr 8 0)),(9,(.ptr 9 0)),(10,(.ptr 10 0)),(24,(.ptr 5 0)),(26,(.fn 175 [] [(.ptr 11 0)]))],[some (.box 9 [(.p (aD s))]),some (.box 26 [(pI 0),(.p bK)]),some (.box 3 [(pI 0)]),some (.box 3 [(pI 0)]),some (.box 27 [(pI 0)]),some (.box 158 [(pI kd),(.own 13),(pI 0),(pI 0),(pI 0)]),some (.box 156 [(.ptr 5 0)]),some (.box 3 [(pI (((nr+1):Nat):Int))]),some (.box 3 [(pI my)]),some (.box 3 [(pI (((bf+(xl.length+1)):Nat):Int))]),some (.box 4 [(pB dn)]),some .dead,some .dead,some (.row 78 (R.length+1) (((R.map rwE).flatten)++[(PV.sl Ae.length ((Ae.map cE).flatten))]))]⟩:St).t,by kernel_rfl⟩
 exact raw.cast (by rw [D6,D7])
theorem bAm{s:List UInt8}{R:List (List Cel)}{xl:List UInt8}{Ae Bc:List Cel}{R':List (List Cel)}(h0:inR (((nr+1):Nat):Int))(h1:xl.length<4294967281)(h2:1≤([32]:List UInt8).length)(h3:dn=false)(h4:xb=true)(h5:(((nr+1):Nat):Int)≠1)(h6:inR (my+1))(h7:(((nr+1):Nat):Int)≤(my+1))(Hm:∀ u∈(aO xl ([32]:List UInt8)),u.length≤90000)(Hn:rdL (aJ kd) (aO xl ([32]:List UInt8)) 0 = .inl Ae)(E1:(aO xl ([32]:List UInt8)).length=(aJ kd).length)(Da:(0:Int)<(R.length:Int))(Ba:inR ((R.length:Int)-1))(Cw:0≤((R.length:Int)-1)∧((R.length:Int)-1)<(R.length:Int))(Ek:R[((R.length:Int)-1).toNat]? = some (Bc))(D5:aM kd≤(Bc.length:Int))(Hb:aM kd≤(Ae.length:Int))(Gz:bS kd Bc Ae=0)(I8:[(PV.sl Ae.length ((Ae.map cE).flatten))].length=1*1∧R.length+1≤1000000)(B2:Dv=(nr+1))(D6:R'.length=(R.length+1))(D7:(R'.map rwE).flatten=(((R.map rwE).flatten)++[(PV.sl Ae.length ((Ae.map cE).flatten))])):bW Tp 13 12 fJ (kC (bR s nr my bf dn kd R.length ((R.map rwE).flatten)) 27 28 11 12 xl xb) .ret (bV (bV (bV (bV (bR s Dv my bf dn kd R'.length ((R'.map rwE).flatten)) 5 (some (.box 158 [(pI kd),(.own 12),(pI (((nr+1):Nat):Int)),(pI 1),(pI 5)]))) 2 (some (.box 3 [(pI (((nr+1):Nat):Int))]))) 3 (some (.box 3 [(pI 1)]))) 4 (some (.box 27 [(pI 5)]))).m:=by
 subst B2
 have raw:bW Tp 13 12 fJ (kC (bR s nr my bf dn kd R.length ((R.map rwE).flatten)) 27 28 11 12 xl xb) .ret (bV (bV (bV (bV (bR s (nr+1) my bf dn kd (R.length+1) (((R.map rwE).flatten)++[(PV.sl Ae.length ((Ae.map cE).flatten))])) 5 (some (.box 158 [(pI kd),(.own 12),(pI (((nr+1):Nat):Int)),(pI 1),(pI 5)]))) 2 (some (.box 3 [(pI (((nr+1):Nat):Int))]))) 3 (some (.box 3 [(pI 1)]))) 4 (some (.box 27 [(pI 5)]))).m:=⟨⟨fr 149 [(1,(.ptr 0 0)),(2,(.ptr 1 0)),(3,(.ptr 2 0)),(4,(.ptr 3 0)),(5,(.ptr 4 0)),(6,(.ptr 6 0)),(7,(.ptr 7 0)),(8,(.ptr 8 0)),(9,(.ptr 9 0)),(10,(.ptr 10 0)),(24,(.ptr 5 0)),(26,(.fn 175 [] [(.ptr 11 0)]))],[some (.box 9 [(.p (aD s))]),some (.box 26 [(pI 0),(.p bK)]),some (.box 3 [(pI (((nr+1):Nat):Int))]),some (.box 3 [(pI 1)]),some (.box 27 [(pI 5)]),some (.box 158 [(pI kd),(.own 13),(pI (((nr+1):Nat):Int)),(pI 1),(pI 5)]),some (.box 156 [(.ptr 5 0)]),some (.box 3 [(pI (((nr+1):Nat):Int))]),some (.box 3 [(pI my)]),some (.box 3 [(pI (bf:Int))]),some (.box 4 [(pB dn)]),some .dead,some .dead,some (.row 78 (R.length+1) (((R.map rwE).flatten)++[(PV.sl Ae.length ((Ae.map cE).flatten))]))]⟩,⟨[],[13],[],[]⟩,aA.fin (g:=⟨(rng [(0,1),(11,13),(25,1),(27,109),(142,1)]),[17],[],[]⟩) (o:=[.c (.fn 176 [] [(.ptr 13 0),(.ptr 14 0)]) [(5,(.box 158 [(pI kd),(.own 12),(pI 0),(pI 0),(pI 0)])),(12,(.row 78 R.length ((R.map rwE).flatten))),(13,(.box 156 [(.ptr 5 0)])),(14,(.box 3 [(pI (((nr+1):Nat):Int))]))],.c (.p (.sl ((aO xl ([32]:List UInt8)).length) (((aO xl ([32]:List UInt8)).map stE).flatten))) [],bF,bF,bF,bF,bF,bT,.c (.tup [(.own 15),(pB true)]) [(5,(.box 158 [(pI kd),(.own 12),(pI 0),(pI 0),(pI 0)])),(12,(.row 78 R.length ((R.map rwE).flatten))),(13,(.box 156 [(.ptr 5 0)])),(14,(.box 3 [(pI (((nr+1):Nat):Int))])),(15,(.row 80 Ae.length ((Ae.map cE).flatten)))],bT,bT,.x (.sl Bc.length ((Bc.map cE).flatten)),.c (pI 0) [],.c (pB false) [(13,(.box 156 [(.ptr 5 0)])),(14,(.box 3 [(pI (((nr+1):Nat):Int))])),(5,(.box 158 [(pI kd),(.own 12),(pI (((nr+1):Nat):Int)),(pI 1),(pI 5)])),(12,(.row 78 R.length ((R.map rwE).flatten)))],bT,.c (.tup [(.p (.agg [(aB 0),bK])),(pI (((nr+1):Nat):Int)),(pI 1),(pI 5)]) [(5,(.box 158 [(pI kd),(.own 17),(pI (((nr+1):Nat):Int)),(pI 1),(pI 5)])),(17,(.row 78 (R.length+1) (((R.map rwE).flatten)++[(PV.sl Ae.length ((Ae.map cE).flatten))])))]]) (l:=[FC Tp 94 [(.ptr 5 0)] [(5,(.box 158 [(pI kd),(.own 17),(pI (((nr+1):Nat):Int)),(pI 1),(pI 5)])),(17,(.row 78 (R.length+1) (((R.map rwE).flatten)++[(PV.sl Ae.length ((Ae.map cE).flatten))])))] 18 (.tup [(.p (.agg [(aB 0),bK])),(pI (((nr+1):Nat):Int)),(pI 1),(pI 5)]) [(5,(.box 158 [(pI kd),(.own 17),(pI (((nr+1):Nat):Int)),(pI 1),(pI 5)])),(17,(.row 78 (R.length+1) (((R.map rwE).flatten)++[(PV.sl Ae.length ((Ae.map cE).flatten))])))],((5:Int) != 0)=true,_,FC Tp 176 [(pI 1),(pI 5),(.ptr 13 0),(.ptr 14 0)] [(13,(.box 156 [(.ptr 5 0)])),(14,(.box 3 [(pI (((nr+1):Nat):Int))])),(5,(.box 158 [(pI kd),(.own 12),(pI 0),(pI 0),(pI 0)])),(12,(.row 78 R.length ((R.map rwE).flatten)))] 25 (pB false) [(13,(.box 156 [(.ptr 5 0)])),(14,(.box 3 [(pI (((nr+1):Nat):Int))])),(5,(.box 158 [(pI kd),(.own 12),(pI (((nr+1):Nat):Int)),(pI 1),(pI 5)])),(12,(.row 78 R.length ((R.map rwE).flatten)))],0≤(1:Int)∧(1:Int)<3,inR 1,FC Tp 92 [(pI kd),(.p (.sl Bc.length ((Bc.map cE).flatten))),(.own 15)] [(15,(.row 80 Ae.length ((Ae.map cE).flatten)))] 17 (pI 0) [],((R.map rwE).flatten)[(((R.length:Int)-1).toNat*1)]? = some (.sl Bc.length ((Bc.map cE).flatten)),_,_,_,true=true,FC Tp 91 [(.ptr 5 0),(.p (.sl ((aO xl ([32]:List UInt8)).length) (((aO xl ([32]:List UInt8)).map stE).flatten))),(.fn 176 [] [(.ptr 13 0),(.ptr 14 0)])] [(5,(.box 158 [(pI kd),(.own 12),(pI 0),(pI 0),(pI 0)])),(13,(.box 156 [(.ptr 5 0)])),(14,(.box 3 [(pI (((nr+1):Nat):Int))])),(12,(.row 78 R.length ((R.map rwE).flatten)))] 15 (.tup [(.own 15),(pB true)]) [(5,(.box 158 [(pI kd),(.own 12),(pI 0),(pI 0),(pI 0)])),(12,(.row 78 R.length ((R.map rwE).flatten))),(13,(.box 156 [(.ptr 5 0)])),(14,(.box 3 [(pI (((nr+1):Nat):Int))])),(15,(.row 80 Ae.length ((Ae.map cE).flatten)))],_,_,_,_,_,_,_,_,FC Tp 89 [(.ptr 5 0),(pI (((nr+1):Nat):Int))] [(5,(.box 158 [(pI kd),(.own 12),(pI 0),(pI 0),(pI 0)])),(12,(.row 78 R.length ((R.map rwE).flatten)))] 13 (.fn 176 [] [(.ptr 13 0),(.ptr 14 0)]) [(5,(.box 158 [(pI kd),(.own 12),(pI 0),(pI 0),(pI 0)])),(12,(.row 78 R.length ((R.map rwE).flatten))),(13,(.box 156 [(.ptr 5 0)])),(14,(.box 3 [(pI (((nr+1):Nat):Int))]))],_]) (by kernel_rfl) (gc (FMM.fc (ids:=[5,17]) (kK (k:=kd) (l:=(((nr+1):Nat):Int)) (f:=(1:Int)) (e:=(5:Int)) (n:=(R.length+1)) (cs:=(((R.map rwE).flatten)++[(PV.sl Ae.length ((Ae.map cE).flatten))])) (by decide)) (by kernel_rfl)) (gc (by first | decide | simp) (gc I8 (gc (FMM.fc (ids:=[13,14,5,12]) (cP 1 5 (((nr+1):Nat):Int) kd 0 0 0 R) (by kernel_rfl)) (gc (by first | decide | simp) (gc (by show _∧_;omega) (gc (fv (aPt kd Bc Ae D5 Hb Gz)) (gc (aL (E:=rwE) (i:=((R.length:Int)-1).toNat) (f:=0) (k:=1) (fun _=>rfl) Ek rfl) (gc Cw (gc Ba (gc (cN Da) (gc rfl (gc (FMM.fcN (k:=1) rfl (ids:=[5,12,13,14]) (lH (((nr+1):Nat):Int) R 0 0 Hm Hn E1) (by kernel_rfl)) (gc (mR h7) (gc h6 (gc (bJ h5) (gc (aW h4) (A2 h3 (gc (fk 15 (eA xl ([32]:List UInt8) h1 h2) rfl) (gc (FMM.fcN (k:=2) rfl (ids:=[5,12]) (fC (ln:=(((nr+1):Nat):Int)) (k:=kd) (l:=(0:Int)) (f:=(0:Int)) (e:=(0:Int)) (R:=R)) (by kernel_rfl)) (gc h0 gn))))))))))))))))))))),by kernel_rfl,(⟨fr 149 [(1,(.ptr 0 0)),(2,(.ptr 1 0)),(3,(.ptr 2 0)),(4,(.ptr 3 0)),(5,(.ptr 4 0)),(6,(.ptr 6 0)),(7,(.ptr 7 0)),(8,(.ptr 8 0)),(9,(.ptr 9 0)),(10,(.ptr 10 0)),(24,(.ptr 5 0)),(26,(.fn 175 [] [(.ptr 11 0)]))],[some (.box 9 [(.p (aD s))]),some (.box 26 [(pI 0),(.p bK)]),some (.box 3 [(pI (((nr+1):Nat):Int))]),some (.box 3 [(pI 1)]),some (.box 27 [(pI 5)]),some (.box 158 [(pI kd),(.own 13),(pI (((nr+1):Nat):Int)),(pI 1),(pI 5)]),some (.box 156 [(.ptr 5 0)]),some (.box 3 [(pI (((nr+1):Nat):Int))]),some (.box 3 [(pI my)]),some (.box 3 [(pI (bf:Int))]),some (.box 4 [(pB dn)]),some .dead,some .dead,some (.row 78 (R.length+1) (((R.map rwE).flatten)++[(PV.sl Ae.length ((Ae.map cE).flatten))]))]⟩:St).t,by kernel_rfl⟩
 exact raw.cast (by rw [D6,D7])
theorem bAn{s:List UInt8}{R:List (List Cel)}{xl:List UInt8}{Ae Bc:List Cel}{R':List (List Cel)}(h0:inR (((nr+1):Nat):Int))(h1:xl.length<4294967281)(h2:1≤([32]:List UInt8).length)(h3:dn=false)(h4:xb=true)(h5:(((nr+1):Nat):Int)≠1)(h6:inR (my+1))(h7:(((nr+1):Nat):Int)≤(my+1))(Hm:∀ u∈(aO xl ([32]:List UInt8)),u.length≤90000)(Hn:rdL (aJ kd) (aO xl ([32]:List UInt8)) 0 = .inl Ae)(E1:(aO xl ([32]:List UInt8)).length=(aJ kd).length)(Da:(0:Int)<(R.length:Int))(Ba:inR ((R.length:Int)-1))(Cw:0≤((R.length:Int)-1)∧((R.length:Int)-1)<(R.length:Int))(Ek:R[((R.length:Int)-1).toNat]? = some (Bc))(D5:aM kd≤(Bc.length:Int))(Hb:aM kd≤(Ae.length:Int))(Gz:bS kd Bc Ae=1)(I8:[(PV.sl Ae.length ((Ae.map cE).flatten))].length=1*1∧R.length+1≤1000000)(B2:Dv=(nr+1))(D6:R'.length=(R.length+1))(D7:(R'.map rwE).flatten=(((R.map rwE).flatten)++[(PV.sl Ae.length ((Ae.map cE).flatten))])):bW Tp 13 12 fJ (kC (bR s nr my bf dn kd R.length ((R.map rwE).flatten)) 27 28 11 12 xl xb) .ret (bV (bV (bV (bV (bR s Dv my bf dn kd R'.length ((R'.map rwE).flatten)) 5 (some (.box 158 [(pI kd),(.own 12),(pI (((nr+1):Nat):Int)),(pI 1),(pI 4)]))) 2 (some (.box 3 [(pI (((nr+1):Nat):Int))]))) 3 (some (.box 3 [(pI 1)]))) 4 (some (.box 27 [(pI 4)]))).m:=by
 subst B2
 have raw:bW Tp 13 12 fJ (kC (bR s nr my bf dn kd R.length ((R.map rwE).flatten)) 27 28 11 12 xl xb) .ret (bV (bV (bV (bV (bR s (nr+1) my bf dn kd (R.length+1) (((R.map rwE).flatten)++[(PV.sl Ae.length ((Ae.map cE).flatten))])) 5 (some (.box 158 [(pI kd),(.own 12),(pI (((nr+1):Nat):Int)),(pI 1),(pI 4)]))) 2 (some (.box 3 [(pI (((nr+1):Nat):Int))]))) 3 (some (.box 3 [(pI 1)]))) 4 (some (.box 27 [(pI 4)]))).m:=⟨⟨fr 149 [(1,(.ptr 0 0)),(2,(.ptr 1 0)),(3,(.ptr 2 0)),(4,(.ptr 3 0)),(5,(.ptr 4 0)),(6,(.ptr 6 0)),(7,(.ptr 7 0)),(8,(.ptr 8 0)),(9,(.ptr 9 0)),(10,(.ptr 10 0)),(24,(.ptr 5 0)),(26,(.fn 175 [] [(.ptr 11 0)]))],[some (.box 9 [(.p (aD s))]),some (.box 26 [(pI 0),(.p bK)]),some (.box 3 [(pI (((nr+1):Nat):Int))]),some (.box 3 [(pI 1)]),some (.box 27 [(pI 4)]),some (.box 158 [(pI kd),(.own 13),(pI (((nr+1):Nat):Int)),(pI 1),(pI 4)]),some (.box 156 [(.ptr 5 0)]),some (.box 3 [(pI (((nr+1):Nat):Int))]),some (.box 3 [(pI my)]),some (.box 3 [(pI (bf:Int))]),some (.box 4 [(pB dn)]),some .dead,some .dead,some (.row 78 (R.length+1) (((R.map rwE).flatten)++[(PV.sl Ae.length ((Ae.map cE).flatten))]))]⟩,⟨[],[13],[],[]⟩,aA.fin (g:=⟨(rng [(0,1),(11,13),(25,1),(27,109),(142,1)]),[17],[],[]⟩) (o:=[.c (.fn 176 [] [(.ptr 13 0),(.ptr 14 0)]) [(5,(.box 158 [(pI kd),(.own 12),(pI 0),(pI 0),(pI 0)])),(12,(.row 78 R.length ((R.map rwE).flatten))),(13,(.box 156 [(.ptr 5 0)])),(14,(.box 3 [(pI (((nr+1):Nat):Int))]))],.c (.p (.sl ((aO xl ([32]:List UInt8)).length) (((aO xl ([32]:List UInt8)).map stE).flatten))) [],bF,bF,bF,bF,bF,bT,.c (.tup [(.own 15),(pB true)]) [(5,(.box 158 [(pI kd),(.own 12),(pI 0),(pI 0),(pI 0)])),(12,(.row 78 R.length ((R.map rwE).flatten))),(13,(.box 156 [(.ptr 5 0)])),(14,(.box 3 [(pI (((nr+1):Nat):Int))])),(15,(.row 80 Ae.length ((Ae.map cE).flatten)))],bT,bT,.x (.sl Bc.length ((Bc.map cE).flatten)),.c (pI 1) [],.c (pB false) [(13,(.box 156 [(.ptr 5 0)])),(14,(.box 3 [(pI (((nr+1):Nat):Int))])),(5,(.box 158 [(pI kd),(.own 12),(pI (((nr+1):Nat):Int)),(pI 1),(pI 4)])),(12,(.row 78 R.length ((R.map rwE).flatten)))],bT,.c (.tup [(.p (.agg [(aB 0),bK])),(pI (((nr+1):Nat):Int)),(pI 1),(pI 4)]) [(5,(.box 158 [(pI kd),(.own 17),(pI (((nr+1):Nat):Int)),(pI 1),(pI 4)])),(17,(.row 78 (R.length+1) (((R.map rwE).flatten)++[(PV.sl Ae.length ((Ae.map cE).flatten))])))]]) (l:=[FC Tp 94 [(.ptr 5 0)] [(5,(.box 158 [(pI kd),(.own 17),(pI (((nr+1):Nat):Int)),(pI 1),(pI 4)])),(17,(.row 78 (R.length+1) (((R.map rwE).flatten)++[(PV.sl Ae.length ((Ae.map cE).flatten))])))] 18 (.tup [(.p (.agg [(aB 0),bK])),(pI (((nr+1):Nat):Int)),(pI 1),(pI 4)]) [(5,(.box 158 [(pI kd),(.own 17),(pI (((nr+1):Nat):Int)),(pI 1),(pI 4)])),(17,(.row 78 (R.length+1) (((R.map rwE).flatten)++[(PV.sl Ae.length ((Ae.map cE).flatten))])))],((4:Int) != 0)=true,_,FC Tp 176 [(pI 1),(pI 4),(.ptr 13 0),(.ptr 14 0)] [(13,(.box 156 [(.ptr 5 0)])),(14,(.box 3 [(pI (((nr+1):Nat):Int))])),(5,(.box 158 [(pI kd),(.own 12),(pI 0),(pI 0),(pI 0)])),(12,(.row 78 R.length ((R.map rwE).flatten)))] 25 (pB false) [(13,(.box 156 [(.ptr 5 0)])),(14,(.box 3 [(pI (((nr+1):Nat):Int))])),(5,(.box 158 [(pI kd),(.own 12),(pI (((nr+1):Nat):Int)),(pI 1),(pI 4)])),(12,(.row 78 R.length ((R.map rwE).flatten)))],0≤(2:Int)∧(2:Int)<3,inR 2,FC Tp 92 [(pI kd),(.p (.sl Bc.length ((Bc.map cE).flatten))),(.own 15)] [(15,(.row 80 Ae.length ((Ae.map cE).flatten)))] 17 (pI 1) [],((R.map rwE).flatten)[(((R.length:Int)-1).toNat*1)]? = some (.sl Bc.length ((Bc.map cE).flatten)),_,_,_,true=true,FC Tp 91 [(.ptr 5 0),(.p (.sl ((aO xl ([32]:List UInt8)).length) (((aO xl ([32]:List UInt8)).map stE).flatten))),(.fn 176 [] [(.ptr 13 0),(.ptr 14 0)])] [(5,(.box 158 [(pI kd),(.own 12),(pI 0),(pI 0),(pI 0)])),(13,(.box 156 [(.ptr 5 0)])),(14,(.box 3 [(pI (((nr+1):Nat):Int))])),(12,(.row 78 R.length ((R.map rwE).flatten)))] 15 (.tup [(.own 15),(pB true)]) [(5,(.box 158 [(pI kd),(.own 12),(pI 0),(pI 0),(pI 0)])),(12,(.row 78 R.length ((R.map rwE).flatten))),(13,(.box 156 [(.ptr 5 0)])),(14,(.box 3 [(pI (((nr+1):Nat):Int))])),(15,(.row 80 Ae.length ((Ae.map cE).flatten)))],_,_,_,_,_,_,_,_,FC Tp 89 [(.ptr 5 0),(pI (((nr+1):Nat):Int))] [(5,(.box 158 [(pI kd),(.own 12),(pI 0),(pI 0),(pI 0)])),(12,(.row 78 R.length ((R.map rwE).flatten)))] 13 (.fn 176 [] [(.ptr 13 0),(.ptr 14 0)]) [(5,(.box 158 [(pI kd),(.own 12),(pI 0),(pI 0),(pI 0)])),(12,(.row 78 R.length ((R.map rwE).flatten))),(13,(.box 156 [(.ptr 5 0)])),(14,(.box 3 [(pI (((nr+1):Nat):Int))]))],_]) (by kernel_rfl) (gc (FMM.fc (ids:=[5,17]) (kK (k:=kd) (l:=(((nr+1):Nat):Int)) (f:=(1:Int)) (e:=(4:Int)) (n:=(R.length+1)) (cs:=(((R.map rwE).flatten)++[(PV.sl Ae.length ((Ae.map cE).flatten))])) (by decide)) (by kernel_rfl)) (gc (by first | decide | simp) (gc I8 (gc (FMM.fc (ids:=[13,14,5,12]) (cP 1 4 (((nr+1):Nat):Int) kd 0 0 0 R) (by kernel_rfl)) (gc (by first | decide | simp) (gc (by show _∧_;omega) (gc (fv (aPt kd Bc Ae D5 Hb Gz)) (gc (aL (E:=rwE) (i:=((R.length:Int)-1).toNat) (f:=0) (k:=1) (fun _=>rfl) Ek rfl) (gc Cw (gc Ba (gc (cN Da) (gc rfl (gc (FMM.fcN (k:=1) rfl (ids:=[5,12,13,14]) (lH (((nr+1):Nat):Int) R 0 0 Hm Hn E1) (by kernel_rfl)) (gc (mR h7) (gc h6 (gc (bJ h5) (gc (aW h4) (A2 h3 (gc (fk 15 (eA xl ([32]:List UInt8) h1 h2) rfl) (gc (FMM.fcN (k:=2) rfl (ids:=[5,12]) (fC (ln:=(((nr+1):Nat):Int)) (k:=kd) (l:=(0:Int)) (f:=(0:Int)) (e:=(0:Int)) (R:=R)) (by kernel_rfl)) (gc h0 gn))))))))))))))))))))),by kernel_rfl,(⟨fr 149 [(1,(.ptr 0 0)),(2,(.ptr 1 0)),(3,(.ptr 2 0)),(4,(.ptr 3 0)),(5,(.ptr 4 0)),(6,(.ptr 6 0)),(7,(.ptr 7 0)),(8,(.ptr 8 0)),(9,(.ptr 9 0)),(10,(.ptr 10 0)),(24,(.ptr 5 0)),(26,(.fn 175 [] [(.ptr 11 0)]))],[some (.box 9 [(.p (aD s))]),some (.box 26 [(pI 0),(.p bK)]),some (.box 3 [(pI (((nr+1):Nat):Int))]),some (.box 3 [(pI 1)]),some (.box 27 [(pI 4)]),some (.box 158 [(pI kd),(.own 13),(pI (((nr+1):Nat):Int)),(pI 1),(pI 4)]),some (.box 156 [(.ptr 5 0)]),some (.box 3 [(pI (((nr+1):Nat):Int))]),some (.box 3 [(pI my)]),some (.box 3 [(pI (bf:Int))]),some (.box 4 [(pB dn)]),some .dead,some .dead,some (.row 78 (R.length+1) (((R.map rwE).flatten)++[(PV.sl Ae.length ((Ae.map cE).flatten))]))]⟩:St).t,by kernel_rfl⟩
 exact raw.cast (by rw [D6,D7])
theorem bAo{s:List UInt8}{R:List (List Cel)}{xl:List UInt8}{Ae:List Cel}{R':List (List Cel)}(h0:inR (((nr+1):Nat):Int))(h1:xl.length<4294967281)(h2:1≤([32]:List UInt8).length)(h3:dn=false)(h4:xb=true)(h5:(((nr+1):Nat):Int)≠1)(h6:inR (my+1))(h7:(((nr+1):Nat):Int)≤(my+1))(Hm:∀ u∈(aO xl ([32]:List UInt8)),u.length≤90000)(Hn:rdL (aJ kd) (aO xl ([32]:List UInt8)) 0 = .inl Ae)(E1:(aO xl ([32]:List UInt8)).length=(aJ kd).length)(Da:(R.length:Int)≤0)(Ba:[(PV.sl Ae.length ((Ae.map cE).flatten))].length=1*1∧R.length+1≤1000000)(Cw:inR (((xl.length+1):Nat):Int))(Ek:inR (((bf+(xl.length+1)):Nat):Int))(B2:Dv=(nr+1))(F3:G1=(bf+(xl.length+1)))(D6:R'.length=(R.length+1))(D7:(R'.map rwE).flatten=(((R.map rwE).flatten)++[(PV.sl Ae.length ((Ae.map cE).flatten))])):bW Tp 13 12 fJ (kC (bR s nr my bf dn kd R.length ((R.map rwE).flatten)) 27 28 11 12 xl xb) .normal (bR s Dv my G1 dn kd R'.length ((R'.map rwE).flatten)).m:=by
 subst B2 F3
 have raw:bW Tp 13 12 fJ (kC (bR s nr my bf dn kd R.length ((R.map rwE).flatten)) 27 28 11 12 xl xb) .normal (bR s (nr+1) my (bf+(xl.length+1)) dn kd (R.length+1) (((R.map rwE).flatten)++[(PV.sl Ae.length ((Ae.map cE).flatten))])).m:=⟨⟨fr 149 [(1,(.ptr 0 0)),(2,(.ptr 1 0)),(3,(.ptr 2 0)),(4,(.ptr 3 0)),(5,(.ptr 4 0)),(6,(.ptr 6 0)),(7,(.ptr 7 0)),(8,(.ptr 8 0)),(9,(.ptr 9 0)),(10,(.ptr 10 0)),(24,(.ptr 5 0)),(26,(.fn 175 [] [(.ptr 11 0)]))],[some (.box 9 [(.p (aD s))]),some (.box 26 [(pI 0),(.p bK)]),some (.box 3 [(pI 0)]),some (.box 3 [(pI 0)]),some (.box 27 [(pI 0)]),some (.box 158 [(pI kd),(.own 13),(pI 0),(pI 0),(pI 0)]),some (.box 156 [(.ptr 5 0)]),some (.box 3 [(pI (((nr+1):Nat):Int))]),some (.box 3 [(pI my)]),some (.box 3 [(pI (((bf+(xl.length+1)):Nat):Int))]),some (.box 4 [(pB dn)]),some .dead,some .dead,some (.row 78 (R.length+1) (((R.map rwE).flatten)++[(PV.sl Ae.length ((Ae.map cE).flatten))]))]⟩,⟨[],[13],[],[]⟩,aA.fin (g:=⟨(rng [(0,1),(11,13),(25,1),(27,109),(142,1)]),[17],[],[]⟩) (o:=[.c (.fn 176 [] [(.ptr 13 0),(.ptr 14 0)]) [(5,(.box 158 [(pI kd),(.own 12),(pI 0),(pI 0),(pI 0)])),(12,(.row 78 R.length ((R.map rwE).flatten))),(13,(.box 156 [(.ptr 5 0)])),(14,(.box 3 [(pI (((nr+1):Nat):Int))]))],.c (.p (.sl ((aO xl ([32]:List UInt8)).length) (((aO xl ([32]:List UInt8)).map stE).flatten))) [],bF,bF,bF,bF,bF,bT,.c (.tup [(.own 15),(pB true)]) [(5,(.box 158 [(pI kd),(.own 12),(pI 0),(pI 0),(pI 0)])),(12,(.row 78 R.length ((R.map rwE).flatten))),(13,(.box 156 [(.ptr 5 0)])),(14,(.box 3 [(pI (((nr+1):Nat):Int))])),(15,(.row 80 Ae.length ((Ae.map cE).flatten)))],bT,bF,bF]) (l:=[_,_,_,_,_,true=true,FC Tp 91 [(.ptr 5 0),(.p (.sl ((aO xl ([32]:List UInt8)).length) (((aO xl ([32]:List UInt8)).map stE).flatten))),(.fn 176 [] [(.ptr 13 0),(.ptr 14 0)])] [(5,(.box 158 [(pI kd),(.own 12),(pI 0),(pI 0),(pI 0)])),(13,(.box 156 [(.ptr 5 0)])),(14,(.box 3 [(pI (((nr+1):Nat):Int))])),(12,(.row 78 R.length ((R.map rwE).flatten)))] 15 (.tup [(.own 15),(pB true)]) [(5,(.box 158 [(pI kd),(.own 12),(pI 0),(pI 0),(pI 0)])),(12,(.row 78 R.length ((R.map rwE).flatten))),(13,(.box 156 [(.ptr 5 0)])),(14,(.box 3 [(pI (((nr+1):Nat):Int))])),(15,(.row 80 Ae.length ((Ae.map cE).flatten)))],_,_,_,_,_,_,_,_,FC Tp 89 [(.ptr 5 0),(pI (((nr+1):Nat):Int))] [(5,(.box 158 [(pI kd),(.own 12),(pI 0),(pI 0),(pI 0)])),(12,(.row 78 R.length ((R.map rwE).flatten)))] 13 (.fn 176 [] [(.ptr 13 0),(.ptr 14 0)]) [(5,(.box 158 [(pI kd),(.own 12),(pI 0),(pI 0),(pI 0)])),(12,(.row 78 R.length ((R.map rwE).flatten))),(13,(.box 156 [(.ptr 5 0)])),(14,(.box 3 [(pI (((nr+1):Nat):Int))]))],_]) (by kernel_rfl) (gc Ek (gc Cw (gc aSu (gc Ba (gc (bH Da) (gc rfl (gc (FMM.fcN (k:=1) rfl (ids:=[5,12,13,14]) (lH (((nr+1):Nat):Int) R 0 0 Hm Hn E1) (by kernel_rfl)) (gc (mR h7) (gc h6 (gc (bJ h5) (gc (aW h4) (A2 h3 (gc (fk 15 (eA xl ([32]:List UInt8) h1 h2) rfl) (gc (FMM.fcN (k:=2) rfl (ids:=[5,12]) (fC (ln:=(((nr+1):Nat):Int)) (k:=kd) (l:=(0:Int)) (f:=(0:Int)) (e:=(0:Int)) (R:=R)) (by kernel_rfl)) (gc h0 gn))))))))))))))),by kernel_rfl,(⟨fr 149 [(1,(.ptr 0 0)),(2,(.ptr 1 0)),(3,(.ptr 2 0)),(4,(.ptr 3 0)),(5,(.ptr 4 0)),(6,(.ptr 6 0)),(7,(.ptr 7 0)),(8,(.ptr 8 0)),(9,(.ptr 9 0)),(10,(.ptr 10 0)),(24,(.ptr 5 0)),(26,(.fn 175 [] [(.ptr 11 0)]))],[some (.box 9 [(.p (aD s))]),some (.box 26 [(pI 0),(.p bK)]),some (.box 3 [(pI 0)]),some (.box 3 [(pI 0)]),some (.box 27 [(pI 0)]),some (.box 158 [(pI kd),(.own 13),(pI 0),(pI 0),(pI 0)]),some (.box 156 [(.ptr 5 0)]),some (.box 3 [(pI (((nr+1):Nat):Int))]),some (.box 3 [(pI my)]),some (.box 3 [(pI (((bf+(xl.length+1)):Nat):Int))]),some (.box 4 [(pB dn)]),some .dead,some .dead,some (.row 78 (R.length+1) (((R.map rwE).flatten)++[(PV.sl Ae.length ((Ae.map cE).flatten))]))]⟩:St).t,by kernel_rfl⟩
 exact raw.cast (by rw [D6,D7])
theorem bAp{s:List UInt8}{R:List (List Cel)}{xl:List UInt8}{Ae:List Cel}(h0:inR (((nr+1):Nat):Int))(h1:xl.length<4294967281)(h2:1≤([32]:List UInt8).length)(h3:dn=false)(h4:xb=true)(h5:(((nr+1):Nat):Int)≠1)(h6:inR (my+1))(h7:(((nr+1):Nat):Int)≤(my+1))(Hm:∀ u∈(aO xl ([32]:List UInt8)),u.length≤90000)(Hn:rdL (aJ kd) (aO xl ([32]:List UInt8)) 0 = .inl Ae)(E1:(aO xl ([32]:List UInt8)).length≠(aJ kd).length)(B2:Dv=(nr+1)):bW Tp 13 12 fJ (kC (bR s nr my bf dn kd R.length ((R.map rwE).flatten)) 27 28 11 12 xl xb) .ret (bV (bV (bV (bV (bR s Dv my bf dn kd R.length ((R.map rwE).flatten)) 5 (some (.box 158 [(pI kd),(.own 12),(pI (((nr+1):Nat):Int)),(pI (((aJ kd).length+1:Nat):Int)),(pI 11)]))) 2 (some (.box 3 [(pI (((nr+1):Nat):Int))]))) 3 (some (.box 3 [(pI (((aJ kd).length+1:Nat):Int))]))) 4 (some (.box 27 [(pI 11)]))).m:=by
 subst B2
 have raw:bW Tp 13 12 fJ (kC (bR s nr my bf dn kd R.length ((R.map rwE).flatten)) 27 28 11 12 xl xb) .ret (bV (bV (bV (bV (bR s (nr+1) my bf dn kd R.length ((R.map rwE).flatten)) 5 (some (.box 158 [(pI kd),(.own 12),(pI (((nr+1):Nat):Int)),(pI (((aJ kd).length+1:Nat):Int)),(pI 11)]))) 2 (some (.box 3 [(pI (((nr+1):Nat):Int))]))) 3 (some (.box 3 [(pI (((aJ kd).length+1:Nat):Int))]))) 4 (some (.box 27 [(pI 11)]))).m:=⟨⟨fr 149 [(1,(.ptr 0 0)),(2,(.ptr 1 0)),(3,(.ptr 2 0)),(4,(.ptr 3 0)),(5,(.ptr 4 0)),(6,(.ptr 6 0)),(7,(.ptr 7 0)),(8,(.ptr 8 0)),(9,(.ptr 9 0)),(10,(.ptr 10 0)),(24,(.ptr 5 0)),(26,(.fn 175 [] [(.ptr 11 0)]))],[some (.box 9 [(.p (aD s))]),some (.box 26 [(pI 0),(.p bK)]),some (.box 3 [(pI (((nr+1):Nat):Int))]),some (.box 3 [(pI (((aJ kd).length+1:Nat):Int))]),some (.box 27 [(pI 11)]),some (.box 158 [(pI kd),(.own 12),(pI (((nr+1):Nat):Int)),(pI (((aJ kd).length+1:Nat):Int)),(pI 11)]),some (.box 156 [(.ptr 5 0)]),some (.box 3 [(pI (((nr+1):Nat):Int))]),some (.box 3 [(pI my)]),some (.box 3 [(pI (bf:Int))]),some (.box 4 [(pB dn)]),some .dead,some (.row 78 R.length ((R.map rwE).flatten))]⟩,⟨[],[12],[],[]⟩,aA.fin (g:=⟨(rng [(0,1),(11,13),(25,1),(27,109),(142,1)]),[],[],[]⟩) (o:=[.c (.fn 176 [] [(.ptr 13 0),(.ptr 14 0)]) [(5,(.box 158 [(pI kd),(.own 12),(pI 0),(pI 0),(pI 0)])),(12,(.row 78 R.length ((R.map rwE).flatten))),(13,(.box 156 [(.ptr 5 0)])),(14,(.box 3 [(pI (((nr+1):Nat):Int))]))],.c (.p (.sl ((aO xl ([32]:List UInt8)).length) (((aO xl ([32]:List UInt8)).map stE).flatten))) [],bF,bF,bF,bF,bF,bT,.c (.tup [(.own 15),(pB false)]) [(5,(.box 158 [(pI kd),(.own 12),(pI (((nr+1):Nat):Int)),(pI (((aJ kd).length+1:Nat):Int)),(pI 11)])),(12,(.row 78 R.length ((R.map rwE).flatten))),(13,(.box 156 [(.ptr 5 0)])),(14,(.box 3 [(pI (((nr+1):Nat):Int))])),(15,(.row 80 Ae.length ((Ae.map cE).flatten)))],bF,bT,.c (.tup [(.p (.agg [(aB 0),bK])),(pI (((nr+1):Nat):Int)),(pI (((aJ kd).length+1:Nat):Int)),(pI 11)]) [(5,(.box 158 [(pI kd),(.own 12),(pI (((nr+1):Nat):Int)),(pI (((aJ kd).length+1:Nat):Int)),(pI 11)])),(12,(.row 78 R.length ((R.map rwE).flatten)))]]) (l:=[FC Tp 94 [(.ptr 5 0)] [(5,(.box 158 [(pI kd),(.own 12),(pI (((nr+1):Nat):Int)),(pI (((aJ kd).length+1:Nat):Int)),(pI 11)])),(12,(.row 78 R.length ((R.map rwE).flatten)))] 16 (.tup [(.p (.agg [(aB 0),bK])),(pI (((nr+1):Nat):Int)),(pI (((aJ kd).length+1:Nat):Int)),(pI 11)]) [(5,(.box 158 [(pI kd),(.own 12),(pI (((nr+1):Nat):Int)),(pI (((aJ kd).length+1:Nat):Int)),(pI 11)])),(12,(.row 78 R.length ((R.map rwE).flatten)))],_,false=false,FC Tp 91 [(.ptr 5 0),(.p (.sl ((aO xl ([32]:List UInt8)).length) (((aO xl ([32]:List UInt8)).map stE).flatten))),(.fn 176 [] [(.ptr 13 0),(.ptr 14 0)])] [(5,(.box 158 [(pI kd),(.own 12),(pI 0),(pI 0),(pI 0)])),(13,(.box 156 [(.ptr 5 0)])),(14,(.box 3 [(pI (((nr+1):Nat):Int))])),(12,(.row 78 R.length ((R.map rwE).flatten)))] 15 (.tup [(.own 15),(pB false)]) [(5,(.box 158 [(pI kd),(.own 12),(pI (((nr+1):Nat):Int)),(pI (((aJ kd).length+1:Nat):Int)),(pI 11)])),(12,(.row 78 R.length ((R.map rwE).flatten))),(13,(.box 156 [(.ptr 5 0)])),(14,(.box 3 [(pI (((nr+1):Nat):Int))])),(15,(.row 80 Ae.length ((Ae.map cE).flatten)))],_,_,_,_,_,_,_,_,FC Tp 89 [(.ptr 5 0),(pI (((nr+1):Nat):Int))] [(5,(.box 158 [(pI kd),(.own 12),(pI 0),(pI 0),(pI 0)])),(12,(.row 78 R.length ((R.map rwE).flatten)))] 13 (.fn 176 [] [(.ptr 13 0),(.ptr 14 0)]) [(5,(.box 158 [(pI kd),(.own 12),(pI 0),(pI 0),(pI 0)])),(12,(.row 78 R.length ((R.map rwE).flatten))),(13,(.box 156 [(.ptr 5 0)])),(14,(.box 3 [(pI (((nr+1):Nat):Int))]))],_]) (by kernel_rfl) (gc (FMM.fc (ids:=[5,12]) (kK (k:=kd) (l:=(((nr+1):Nat):Int)) (f:=(((aJ kd).length+1:Nat):Int)) (e:=(11:Int)) (n:=R.length) (cs:=((R.map rwE).flatten)) (by decide)) (by kernel_rfl)) (gc bIq (gc rfl (gc (FMM.fcN (k:=1) rfl (ids:=[5,12,13,14]) (aKe (((nr+1):Nat):Int) R 0 0 Hm Hn E1) (by kernel_rfl)) (gc (mR h7) (gc h6 (gc (bJ h5) (gc (aW h4) (A2 h3 (gc (fk 15 (eA xl ([32]:List UInt8) h1 h2) rfl) (gc (FMM.fcN (k:=2) rfl (ids:=[5,12]) (fC (ln:=(((nr+1):Nat):Int)) (k:=kd) (l:=(0:Int)) (f:=(0:Int)) (e:=(0:Int)) (R:=R)) (by kernel_rfl)) (gc h0 gn)))))))))))),by kernel_rfl,(⟨fr 149 [(1,(.ptr 0 0)),(2,(.ptr 1 0)),(3,(.ptr 2 0)),(4,(.ptr 3 0)),(5,(.ptr 4 0)),(6,(.ptr 6 0)),(7,(.ptr 7 0)),(8,(.ptr 8 0)),(9,(.ptr 9 0)),(10,(.ptr 10 0)),(24,(.ptr 5 0)),(26,(.fn 175 [] [(.ptr 11 0)]))],[some (.box 9 [(.p (aD s))]),some (.box 26 [(pI 0),(.p bK)]),some (.box 3 [(pI (((nr+1):Nat):Int))]),some (.box 3 [(pI (((aJ kd).length+1:Nat):Int))]),some (.box 27 [(pI 11)]),some (.box 158 [(pI kd),(.own 12),(pI (((nr+1):Nat):Int)),(pI (((aJ kd).length+1:Nat):Int)),(pI 11)]),some (.box 156 [(.ptr 5 0)]),some (.box 3 [(pI (((nr+1):Nat):Int))]),some (.box 3 [(pI my)]),some (.box 3 [(pI (bf:Int))]),some (.box 4 [(pB dn)]),some .dead,some (.row 78 R.length ((R.map rwE).flatten))]⟩:St).t,by kernel_rfl⟩
 exact raw
theorem aPu{s:List UInt8}{R:List (List Cel)}{xl:List UInt8}{Br Bn:Int}(h0:inR (((nr+1):Nat):Int))(h1:xl.length<4294967281)(h2:1≤([32]:List UInt8).length)(h3:dn=false)(h4:xb=true)(h5:(((nr+1):Nat):Int)≠1)(h6:inR (my+1))(h7:(((nr+1):Nat):Int)≤(my+1))(Hm:∀ u∈(aO xl ([32]:List UInt8)),u.length≤90000)(Hn:rdL (aJ kd) (aO xl ([32]:List UInt8)) 0 = .inr (Br,Bn))(A9:Bn≠0)(B2:Dv=(nr+1)):bW Tp 13 12 fJ (kC (bR s nr my bf dn kd R.length ((R.map rwE).flatten)) 27 28 11 12 xl xb) .ret (bV (bV (bV (bV (bR s Dv my bf dn kd R.length ((R.map rwE).flatten)) 5 (some (.box 158 [(pI kd),(.own 12),(pI (((nr+1):Nat):Int)),(pI Br),(pI Bn)]))) 2 (some (.box 3 [(pI (((nr+1):Nat):Int))]))) 3 (some (.box 3 [(pI Br)]))) 4 (some (.box 27 [(pI Bn)]))).m:=by
 subst B2
 have raw:bW Tp 13 12 fJ (kC (bR s nr my bf dn kd R.length ((R.map rwE).flatten)) 27 28 11 12 xl xb) .ret (bV (bV (bV (bV (bR s (nr+1) my bf dn kd R.length ((R.map rwE).flatten)) 5 (some (.box 158 [(pI kd),(.own 12),(pI (((nr+1):Nat):Int)),(pI Br),(pI Bn)]))) 2 (some (.box 3 [(pI (((nr+1):Nat):Int))]))) 3 (some (.box 3 [(pI Br)]))) 4 (some (.box 27 [(pI Bn)]))).m:=⟨⟨fr 149 [(1,(.ptr 0 0)),(2,(.ptr 1 0)),(3,(.ptr 2 0)),(4,(.ptr 3 0)),(5,(.ptr 4 0)),(6,(.ptr 6 0)),(7,(.ptr 7 0)),(8,(.ptr 8 0)),(9,(.ptr 9 0)),(10,(.ptr 10 0)),(24,(.ptr 5 0)),(26,(.fn 175 [] [(.ptr 11 0)]))],[some (.box 9 [(.p (aD s))]),some (.box 26 [(pI 0),(.p bK)]),some (.box 3 [(pI (((nr+1):Nat):Int))]),some (.box 3 [(pI Br)]),some (.box 27 [(pI Bn)]),some (.box 158 [(pI kd),(.own 12),(pI (((nr+1):Nat):Int)),(pI Br),(pI Bn)]),some (.box 156 [(.ptr 5 0)]),some (.box 3 [(pI (((nr+1):Nat):Int))]),some (.box 3 [(pI my)]),some (.box 3 [(pI (bf:Int))]),some (.box 4 [(pB dn)]),some .dead,some (.row 78 R.length ((R.map rwE).flatten))]⟩,⟨[],[12],[],[]⟩,aA.fin (g:=⟨(rng [(0,1),(11,13),(25,1),(27,109),(142,1)]),[],[],[]⟩) (o:=[.c (.fn 176 [] [(.ptr 13 0),(.ptr 14 0)]) [(5,(.box 158 [(pI kd),(.own 12),(pI 0),(pI 0),(pI 0)])),(12,(.row 78 R.length ((R.map rwE).flatten))),(13,(.box 156 [(.ptr 5 0)])),(14,(.box 3 [(pI (((nr+1):Nat):Int))]))],.c (.p (.sl ((aO xl ([32]:List UInt8)).length) (((aO xl ([32]:List UInt8)).map stE).flatten))) [],bF,bF,bF,bF,bF,bT,.c (.tup [(.p bK),(pB false)]) [(5,(.box 158 [(pI kd),(.own 12),(pI (((nr+1):Nat):Int)),(pI Br),(pI Bn)])),(12,(.row 78 R.length ((R.map rwE).flatten))),(13,(.box 156 [(.ptr 5 0)])),(14,(.box 3 [(pI (((nr+1):Nat):Int))]))],bF,bT,.c (.tup [(.p (.agg [(aB 0),bK])),(pI (((nr+1):Nat):Int)),(pI Br),(pI Bn)]) [(5,(.box 158 [(pI kd),(.own 12),(pI (((nr+1):Nat):Int)),(pI Br),(pI Bn)])),(12,(.row 78 R.length ((R.map rwE).flatten)))]]) (l:=[FC Tp 94 [(.ptr 5 0)] [(5,(.box 158 [(pI kd),(.own 12),(pI (((nr+1):Nat):Int)),(pI Br),(pI Bn)])),(12,(.row 78 R.length ((R.map rwE).flatten)))] 15 (.tup [(.p (.agg [(aB 0),bK])),(pI (((nr+1):Nat):Int)),(pI Br),(pI Bn)]) [(5,(.box 158 [(pI kd),(.own 12),(pI (((nr+1):Nat):Int)),(pI Br),(pI Bn)])),(12,(.row 78 R.length ((R.map rwE).flatten)))],_,false=false,FC Tp 91 [(.ptr 5 0),(.p (.sl ((aO xl ([32]:List UInt8)).length) (((aO xl ([32]:List UInt8)).map stE).flatten))),(.fn 176 [] [(.ptr 13 0),(.ptr 14 0)])] [(5,(.box 158 [(pI kd),(.own 12),(pI 0),(pI 0),(pI 0)])),(13,(.box 156 [(.ptr 5 0)])),(14,(.box 3 [(pI (((nr+1):Nat):Int))])),(12,(.row 78 R.length ((R.map rwE).flatten)))] 15 (.tup [(.p bK),(pB false)]) [(5,(.box 158 [(pI kd),(.own 12),(pI (((nr+1):Nat):Int)),(pI Br),(pI Bn)])),(12,(.row 78 R.length ((R.map rwE).flatten))),(13,(.box 156 [(.ptr 5 0)])),(14,(.box 3 [(pI (((nr+1):Nat):Int))]))],_,_,_,_,_,_,_,_,FC Tp 89 [(.ptr 5 0),(pI (((nr+1):Nat):Int))] [(5,(.box 158 [(pI kd),(.own 12),(pI 0),(pI 0),(pI 0)])),(12,(.row 78 R.length ((R.map rwE).flatten)))] 13 (.fn 176 [] [(.ptr 13 0),(.ptr 14 0)]) [(5,(.box 158 [(pI kd),(.own 12),(pI 0),(pI 0),(pI 0)])),(12,(.row 78 R.length ((R.map rwE).flatten))),(13,(.box 156 [(.ptr 5 0)])),(14,(.box 3 [(pI (((nr+1):Nat):Int))]))],_]) (by kernel_rfl) (gc (FMM.fc (ids:=[5,12]) (kK (k:=kd) (l:=(((nr+1):Nat):Int)) (f:=Br) (e:=Bn) (n:=R.length) (cs:=((R.map rwE).flatten)) A9) (by kernel_rfl)) (gc (eY A9) (gc rfl (gc (FMM.fcN (k:=0) rfl (ids:=[5,12,13,14]) (aRs (((nr+1):Nat):Int) R 0 0 Hm Hn).2 (by kernel_rfl)) (gc (mR h7) (gc h6 (gc (bJ h5) (gc (aW h4) (A2 h3 (gc (fk 15 (eA xl ([32]:List UInt8) h1 h2) rfl) (gc (FMM.fcN (k:=2) rfl (ids:=[5,12]) (fC (ln:=(((nr+1):Nat):Int)) (k:=kd) (l:=(0:Int)) (f:=(0:Int)) (e:=(0:Int)) (R:=R)) (by kernel_rfl)) (gc h0 gn)))))))))))),by kernel_rfl,(⟨fr 149 [(1,(.ptr 0 0)),(2,(.ptr 1 0)),(3,(.ptr 2 0)),(4,(.ptr 3 0)),(5,(.ptr 4 0)),(6,(.ptr 6 0)),(7,(.ptr 7 0)),(8,(.ptr 8 0)),(9,(.ptr 9 0)),(10,(.ptr 10 0)),(24,(.ptr 5 0)),(26,(.fn 175 [] [(.ptr 11 0)]))],[some (.box 9 [(.p (aD s))]),some (.box 26 [(pI 0),(.p bK)]),some (.box 3 [(pI (((nr+1):Nat):Int))]),some (.box 3 [(pI Br)]),some (.box 27 [(pI Bn)]),some (.box 158 [(pI kd),(.own 12),(pI (((nr+1):Nat):Int)),(pI Br),(pI Bn)]),some (.box 156 [(.ptr 5 0)]),some (.box 3 [(pI (((nr+1):Nat):Int))]),some (.box 3 [(pI my)]),some (.box 3 [(pI (bf:Int))]),some (.box 4 [(pB dn)]),some .dead,some (.row 78 R.length ((R.map rwE).flatten))]⟩:St).t,by kernel_rfl⟩
 exact raw
theorem aPv{s:List UInt8}{R:List (List Cel)}{xl:List UInt8}(h0:inR (((nr+1):Nat):Int))(h1:xl.length<4294967281)(h2:1≤([32]:List UInt8).length)(h3:dn=false)(h4:xb=true)(h5:(((nr+1):Nat):Int)≠1)(h6:inR (my+1))(h7:(my+1)<(((nr+1):Nat):Int))(h8:0≤(0:Int)∧(0:Int)≤(bf:Int)∧(bf:Int)≤(s.length:Int))(h9:(s.take bf).length≤65536)(Ji:0<(aO xl ([32]:List UInt8)).length)(Jj:(lsM (aO xl ([32]:List UInt8)) (bQ (s.take bf))).2≠0)(Ba:((lsM (aO xl ([32]:List UInt8)) (bQ (s.take bf))).2)≠0)(B2:Dv=(nr+1)):bW Tp 13 12 fJ (kC (bR s nr my bf dn kd R.length ((R.map rwE).flatten)) 27 28 11 12 xl xb) .ret (bV (bV (bV (bV (bR s Dv my bf true kd R.length ((R.map rwE).flatten)) 5 (some (.box 158 [(pI kd),(.own 12),(pI (((nr+1):Nat):Int)),(pI ((lsM (aO xl ([32]:List UInt8)) (bQ (s.take bf))).1)),(pI ((lsM (aO xl ([32]:List UInt8)) (bQ (s.take bf))).2))]))) 2 (some (.box 3 [(pI (((nr+1):Nat):Int))]))) 3 (some (.box 3 [(pI ((lsM (aO xl ([32]:List UInt8)) (bQ (s.take bf))).1))]))) 4 (some (.box 27 [(pI ((lsM (aO xl ([32]:List UInt8)) (bQ (s.take bf))).2))]))).m:=by
 subst B2
 have raw:bW Tp 13 12 fJ (kC (bR s nr my bf dn kd R.length ((R.map rwE).flatten)) 27 28 11 12 xl xb) .ret (bV (bV (bV (bV (bR s (nr+1) my bf true kd R.length ((R.map rwE).flatten)) 5 (some (.box 158 [(pI kd),(.own 12),(pI (((nr+1):Nat):Int)),(pI ((lsM (aO xl ([32]:List UInt8)) (bQ (s.take bf))).1)),(pI ((lsM (aO xl ([32]:List UInt8)) (bQ (s.take bf))).2))]))) 2 (some (.box 3 [(pI (((nr+1):Nat):Int))]))) 3 (some (.box 3 [(pI ((lsM (aO xl ([32]:List UInt8)) (bQ (s.take bf))).1))]))) 4 (some (.box 27 [(pI ((lsM (aO xl ([32]:List UInt8)) (bQ (s.take bf))).2))]))).m:=⟨⟨fr 149 [(1,(.ptr 0 0)),(2,(.ptr 1 0)),(3,(.ptr 2 0)),(4,(.ptr 3 0)),(5,(.ptr 4 0)),(6,(.ptr 6 0)),(7,(.ptr 7 0)),(8,(.ptr 8 0)),(9,(.ptr 9 0)),(10,(.ptr 10 0)),(24,(.ptr 5 0)),(26,(.fn 175 [] [(.ptr 11 0)]))],[some (.box 9 [(.p (aD s))]),some (.box 26 [(pI 0),(.p bK)]),some (.box 3 [(pI (((nr+1):Nat):Int))]),some (.box 3 [(pI ((lsM (aO xl ([32]:List UInt8)) (bQ (s.take bf))).1))]),some (.box 27 [(pI ((lsM (aO xl ([32]:List UInt8)) (bQ (s.take bf))).2))]),some (.box 158 [(pI kd),(.own 12),(pI (((nr+1):Nat):Int)),(pI ((lsM (aO xl ([32]:List UInt8)) (bQ (s.take bf))).1)),(pI ((lsM (aO xl ([32]:List UInt8)) (bQ (s.take bf))).2))]),some (.box 156 [(.ptr 5 0)]),some (.box 3 [(pI (((nr+1):Nat):Int))]),some (.box 3 [(pI my)]),some (.box 3 [(pI (bf:Int))]),some (.box 4 [(pB true)]),some .dead,some (.row 78 R.length ((R.map rwE).flatten))]⟩,⟨[],[12],[],[]⟩,aA.fin (g:=⟨(rng [(0,1),(11,13),(25,1),(27,109),(142,1)]),[],[],[(110000,0)]⟩) (o:=[.c (.fn 176 [] [(.ptr 13 0),(.ptr 14 0)]) [(5,(.box 158 [(pI kd),(.own 12),(pI 0),(pI 0),(pI 0)])),(12,(.row 78 R.length ((R.map rwE).flatten))),(13,(.box 156 [(.ptr 5 0)])),(14,(.box 3 [(pI (((nr+1):Nat):Int))]))],.c (.p (.sl ((aO xl ([32]:List UInt8)).length) (((aO xl ([32]:List UInt8)).map stE).flatten))) [],bF,bF,bF,bF,bF,bF,.c (.tup [(pI (bQ (s.take bf))),(pI 0)]) [],.c (.tup []) [(13,(.box 156 [(.ptr 5 0)])),(14,(.box 3 [(pI (((nr+1):Nat):Int))])),(5,(.box 158 [(pI kd),(.own 12),(pI (((nr+1):Nat):Int)),(pI ((lsM (aO xl ([32]:List UInt8)) (bQ (s.take bf))).1)),(pI ((lsM (aO xl ([32]:List UInt8)) (bQ (s.take bf))).2))])),(12,(.row 78 R.length ((R.map rwE).flatten)))],bT,.c (.tup [(.p (.agg [(aB 0),bK])),(pI (((nr+1):Nat):Int)),(pI ((lsM (aO xl ([32]:List UInt8)) (bQ (s.take bf))).1)),(pI ((lsM (aO xl ([32]:List UInt8)) (bQ (s.take bf))).2))]) [(5,(.box 158 [(pI kd),(.own 12),(pI (((nr+1):Nat):Int)),(pI ((lsM (aO xl ([32]:List UInt8)) (bQ (s.take bf))).1)),(pI ((lsM (aO xl ([32]:List UInt8)) (bQ (s.take bf))).2))])),(12,(.row 78 R.length ((R.map rwE).flatten)))]]) (l:=[FC Tp 94 [(.ptr 5 0)] [(5,(.box 158 [(pI kd),(.own 12),(pI (((nr+1):Nat):Int)),(pI ((lsM (aO xl ([32]:List UInt8)) (bQ (s.take bf))).1)),(pI ((lsM (aO xl ([32]:List UInt8)) (bQ (s.take bf))).2))])),(12,(.row 78 R.length ((R.map rwE).flatten)))] 15 (.tup [(.p (.agg [(aB 0),bK])),(pI (((nr+1):Nat):Int)),(pI ((lsM (aO xl ([32]:List UInt8)) (bQ (s.take bf))).1)),(pI ((lsM (aO xl ([32]:List UInt8)) (bQ (s.take bf))).2))]) [(5,(.box 158 [(pI kd),(.own 12),(pI (((nr+1):Nat):Int)),(pI ((lsM (aO xl ([32]:List UInt8)) (bQ (s.take bf))).1)),(pI ((lsM (aO xl ([32]:List UInt8)) (bQ (s.take bf))).2))])),(12,(.row 78 R.length ((R.map rwE).flatten)))],_,FC Tp 93 [(.p (.sl ((aO xl ([32]:List UInt8)).length) (((aO xl ([32]:List UInt8)).map stE).flatten))),(pI (bQ (s.take bf))),(.fn 176 [] [(.ptr 13 0),(.ptr 14 0)])] [(13,(.box 156 [(.ptr 5 0)])),(14,(.box 3 [(pI (((nr+1):Nat):Int))])),(5,(.box 158 [(pI kd),(.own 12),(pI 0),(pI 0),(pI 0)])),(12,(.row 78 R.length ((R.map rwE).flatten)))] 15 (.tup []) [(13,(.box 156 [(.ptr 5 0)])),(14,(.box 3 [(pI (((nr+1):Nat):Int))])),(5,(.box 158 [(pI kd),(.own 12),(pI (((nr+1):Nat):Int)),(pI ((lsM (aO xl ([32]:List UInt8)) (bQ (s.take bf))).1)),(pI ((lsM (aO xl ([32]:List UInt8)) (bQ (s.take bf))).2))])),(12,(.row 78 R.length ((R.map rwE).flatten)))],_,_,_,_,_,_,_,_,_,_,FC Tp 89 [(.ptr 5 0),(pI (((nr+1):Nat):Int))] [(5,(.box 158 [(pI kd),(.own 12),(pI 0),(pI 0),(pI 0)])),(12,(.row 78 R.length ((R.map rwE).flatten)))] 13 (.fn 176 [] [(.ptr 13 0),(.ptr 14 0)]) [(5,(.box 158 [(pI kd),(.own 12),(pI 0),(pI 0),(pI 0)])),(12,(.row 78 R.length ((R.map rwE).flatten))),(13,(.box 156 [(.ptr 5 0)])),(14,(.box 3 [(pI (((nr+1):Nat):Int))]))],_]) (by kernel_rfl) (gc (FMM.fc (ids:=[5,12]) (kK (k:=kd) (l:=(((nr+1):Nat):Int)) (f:=((lsM (aO xl ([32]:List UInt8)) (bQ (s.take bf))).1)) (e:=((lsM (aO xl ([32]:List UInt8)) (bQ (s.take bf))).2)) (n:=R.length) (cs:=((R.map rwE).flatten)) Ba) (by kernel_rfl)) (gc (eY Ba) (gc (FMM.fc (ids:=[13,14,5,12]) (bYz (aO xl ([32]:List UInt8)) (bQ (s.take bf)) (((nr+1):Nat):Int) kd R Ji Jj) (by kernel_rfl)) (gc (fk 15 (mA (s.take bf) h9) rfl) (gc h8 (gc (eL h7) (gc h6 (gc (bJ h5) (gc (aW h4) (A2 h3 (gc (fk 15 (eA xl ([32]:List UInt8) h1 h2) rfl) (gc (FMM.fcN (k:=2) rfl (ids:=[5,12]) (fC (ln:=(((nr+1):Nat):Int)) (k:=kd) (l:=(0:Int)) (f:=(0:Int)) (e:=(0:Int)) (R:=R)) (by kernel_rfl)) (gc h0 gn))))))))))))),by kernel_rfl,(⟨fr 149 [(1,(.ptr 0 0)),(2,(.ptr 1 0)),(3,(.ptr 2 0)),(4,(.ptr 3 0)),(5,(.ptr 4 0)),(6,(.ptr 6 0)),(7,(.ptr 7 0)),(8,(.ptr 8 0)),(9,(.ptr 9 0)),(10,(.ptr 10 0)),(24,(.ptr 5 0)),(26,(.fn 175 [] [(.ptr 11 0)]))],[some (.box 9 [(.p (aD s))]),some (.box 26 [(pI 0),(.p bK)]),some (.box 3 [(pI (((nr+1):Nat):Int))]),some (.box 3 [(pI ((lsM (aO xl ([32]:List UInt8)) (bQ (s.take bf))).1))]),some (.box 27 [(pI ((lsM (aO xl ([32]:List UInt8)) (bQ (s.take bf))).2))]),some (.box 158 [(pI kd),(.own 12),(pI (((nr+1):Nat):Int)),(pI ((lsM (aO xl ([32]:List UInt8)) (bQ (s.take bf))).1)),(pI ((lsM (aO xl ([32]:List UInt8)) (bQ (s.take bf))).2))]),some (.box 156 [(.ptr 5 0)]),some (.box 3 [(pI (((nr+1):Nat):Int))]),some (.box 3 [(pI my)]),some (.box 3 [(pI (bf:Int))]),some (.box 4 [(pB true)]),some .dead,some (.row 78 R.length ((R.map rwE).flatten))]⟩:St).t,by kernel_rfl⟩
 exact raw
theorem aPw{s:List UInt8}{R:List (List Cel)}{xl:List UInt8}(h0:inR (((nr+1):Nat):Int))(h1:xl.length<4294967281)(h2:1≤([32]:List UInt8).length)(h3:dn=false)(h4:xb=true)(h5:(((nr+1):Nat):Int)≠1)(h6:inR (my+1))(h7:(my+1)<(((nr+1):Nat):Int))(h8:0≤(0:Int)∧(0:Int)≤(bf:Int)∧(bf:Int)≤(s.length:Int))(h9:(s.take bf).length≤65536)(Ji:0<(aO xl ([32]:List UInt8)).length)(Jj:(lsM (aO xl ([32]:List UInt8)) (bQ (s.take bf))).2=0)(Ba:inR (((xl.length+1):Nat):Int))(Cw:inR (((bf+(xl.length+1)):Nat):Int))(B2:Dv=(nr+1))(F3:G1=(bf+(xl.length+1))):bW Tp 13 12 fJ (kC (bR s nr my bf dn kd R.length ((R.map rwE).flatten)) 27 28 11 12 xl xb) .normal (bR s Dv my G1 true kd R.length ((R.map rwE).flatten)).m:=by
 subst B2 F3
 have raw:bW Tp 13 12 fJ (kC (bR s nr my bf dn kd R.length ((R.map rwE).flatten)) 27 28 11 12 xl xb) .normal (bR s (nr+1) my (bf+(xl.length+1)) true kd R.length ((R.map rwE).flatten)).m:=⟨⟨fr 149 [(1,(.ptr 0 0)),(2,(.ptr 1 0)),(3,(.ptr 2 0)),(4,(.ptr 3 0)),(5,(.ptr 4 0)),(6,(.ptr 6 0)),(7,(.ptr 7 0)),(8,(.ptr 8 0)),(9,(.ptr 9 0)),(10,(.ptr 10 0)),(24,(.ptr 5 0)),(26,(.fn 175 [] [(.ptr 11 0)]))],[some (.box 9 [(.p (aD s))]),some (.box 26 [(pI 0),(.p bK)]),some (.box 3 [(pI 0)]),some (.box 3 [(pI 0)]),some (.box 27 [(pI 0)]),some (.box 158 [(pI kd),(.own 12),(pI 0),(pI 0),(pI 0)]),some (.box 156 [(.ptr 5 0)]),some (.box 3 [(pI (((nr+1):Nat):Int))]),some (.box 3 [(pI my)]),some (.box 3 [(pI (((bf+(xl.length+1)):Nat):Int))]),some (.box 4 [(pB true)]),some .dead,some (.row 78 R.length ((R.map rwE).flatten))]⟩,⟨[],[12],[],[]⟩,aA.fin (g:=⟨(rng [(0,1),(11,13),(25,1),(27,109),(142,1)]),[],[],[(110000,0)]⟩) (o:=[.c (.fn 176 [] [(.ptr 13 0),(.ptr 14 0)]) [(5,(.box 158 [(pI kd),(.own 12),(pI 0),(pI 0),(pI 0)])),(12,(.row 78 R.length ((R.map rwE).flatten))),(13,(.box 156 [(.ptr 5 0)])),(14,(.box 3 [(pI (((nr+1):Nat):Int))]))],.c (.p (.sl ((aO xl ([32]:List UInt8)).length) (((aO xl ([32]:List UInt8)).map stE).flatten))) [],bF,bF,bF,bF,bF,bF,.c (.tup [(pI (bQ (s.take bf))),(pI 0)]) [],.c (.tup []) [(13,(.box 156 [(.ptr 5 0)])),(14,(.box 3 [(pI (((nr+1):Nat):Int))])),(5,(.box 158 [(pI kd),(.own 12),(pI 0),(pI 0),(pI 0)])),(12,(.row 78 R.length ((R.map rwE).flatten)))],bF]) (l:=[_,_,_,FC Tp 93 [(.p (.sl ((aO xl ([32]:List UInt8)).length) (((aO xl ([32]:List UInt8)).map stE).flatten))),(pI (bQ (s.take bf))),(.fn 176 [] [(.ptr 13 0),(.ptr 14 0)])] [(13,(.box 156 [(.ptr 5 0)])),(14,(.box 3 [(pI (((nr+1):Nat):Int))])),(5,(.box 158 [(pI kd),(.own 12),(pI 0),(pI 0),(pI 0)])),(12,(.row 78 R.length ((R.map rwE).flatten)))] 15 (.tup []) [(13,(.box 156 [(.ptr 5 0)])),(14,(.box 3 [(pI (((nr+1):Nat):Int))])),(5,(.box 158 [(pI kd),(.own 12),(pI 0),(pI 0),(pI 0)])),(12,(.row 78 R.length ((R.map rwE).flatten)))],_,_,_,_,_,_,_,_,_,_,FC Tp 89 [(.ptr 5 0),(pI (((nr+1):Nat):Int))] [(5,(.box 158 [(pI kd),(.own 12),(pI 0),(pI 0),(pI 0)])),(12,(.row 78 R.length ((R.map rwE).flatten)))] 13 (.fn 176 [] [(.ptr 13 0),(.ptr 14 0)]) [(5,(.box 158 [(pI kd),(.own 12),(pI 0),(pI 0),(pI 0)])),(12,(.row 78 R.length ((R.map rwE).flatten))),(13,(.box 156 [(.ptr 5 0)])),(14,(.box 3 [(pI (((nr+1):Nat):Int))]))],_]) (by kernel_rfl) (gc Cw (gc Ba (gc aSu (gc (FMM.fc (ids:=[13,14,5,12]) (bZa (aO xl ([32]:List UInt8)) (bQ (s.take bf)) (((nr+1):Nat):Int) kd R Ji Jj) (by kernel_rfl)) (gc (fk 15 (mA (s.take bf) h9) rfl) (gc h8 (gc (eL h7) (gc h6 (gc (bJ h5) (gc (aW h4) (A2 h3 (gc (fk 15 (eA xl ([32]:List UInt8) h1 h2) rfl) (gc (FMM.fcN (k:=2) rfl (ids:=[5,12]) (fC (ln:=(((nr+1):Nat):Int)) (k:=kd) (l:=(0:Int)) (f:=(0:Int)) (e:=(0:Int)) (R:=R)) (by kernel_rfl)) (gc h0 gn)))))))))))))),by kernel_rfl,(⟨fr 149 [(1,(.ptr 0 0)),(2,(.ptr 1 0)),(3,(.ptr 2 0)),(4,(.ptr 3 0)),(5,(.ptr 4 0)),(6,(.ptr 6 0)),(7,(.ptr 7 0)),(8,(.ptr 8 0)),(9,(.ptr 9 0)),(10,(.ptr 10 0)),(24,(.ptr 5 0)),(26,(.fn 175 [] [(.ptr 11 0)]))],[some (.box 9 [(.p (aD s))]),some (.box 26 [(pI 0),(.p bK)]),some (.box 3 [(pI 0)]),some (.box 3 [(pI 0)]),some (.box 27 [(pI 0)]),some (.box 158 [(pI kd),(.own 12),(pI 0),(pI 0),(pI 0)]),some (.box 156 [(.ptr 5 0)]),some (.box 3 [(pI (((nr+1):Nat):Int))]),some (.box 3 [(pI my)]),some (.box 3 [(pI (((bf+(xl.length+1)):Nat):Int))]),some (.box 4 [(pB true)]),some .dead,some (.row 78 R.length ((R.map rwE).flatten))]⟩:St).t,by kernel_rfl⟩
 exact raw
end
end KV
end Go.Proofs
section
namespace Go.Proofs
open Go.RowKit
namespace KV
open Tryz
theorem aEq(sep:List UInt8):∀ (k:Nat) (s u:List UInt8),u∈Lib.splitK sep 0 k s→u.length≤s.length
 | 0,s,u,h=>by
  rw [Lib.splitK,List.mem_singleton] at h
  subst h;exact dD _
 | k+1,s,u,h=>by
  rw [Lib.splitK] at h
  split at h
  ·rw [List.mem_singleton] at h
   subst h;exact dD _
  ·rcases jU.1 h with rfl | h
   ·rw [pF];omega
   ·have:=aEq sep k _ u h
    rw [xY] at this
    omega
theorem bOr{s sep u:List UInt8}(h:u∈aO s sep):u.length≤s.length:=aEq _ _ _ _ h
theorem aPq(sep:List UInt8):∀ (k:Nat) (s:List UInt8),0<(Lib.splitK sep 0 k s).length
 | 0,s=>by simp [Lib.splitK]
 | k+1,s=>by rw [Lib.splitK];split <;> simp
theorem aKz(s sep:List UInt8):0<(aO s sep).length:=aPq _ _ _
theorem vD:∀ (ts:List Int) (us:List (List UInt8)) (i:Nat) (cs:List Cel),rdL ts us i = .inl cs→cs.length=ts.length
 | [],us,i,cs,h=>by cases h;rfl
 | t::ts,[],i,cs,h=>by cases h
 | t::ts,u::us,i,cs,h=>by
  unfold rdL at h
  split at h
  ·cases h
  ·split at h
   ·rename_i Bg h2
    cases h;rw [Cb,Cb,vD ts us (i+1) Bg h2]
   ·cases h
theorem aPr:∀ (ts:List Int) (us:List (List UInt8)) (i:Nat) (p:Int × Int),rdL ts us i = .inr p→p.2≠0
 | [],us,i,p,h=>by cases h
 | t::ts,[],i,p,h=>by cases h;exact (by decide:(11:Int)≠0)
 | t::ts,u::us,i,p,h=>by
  unfold rdL at h
  split at h
  ·cases h;assumption
  ·split at h
   ·cases h
   ·rename_i p' h2
    cases h;exact aPr ts us (i+1) p h2
theorem bYw(fs:List (List UInt8)):0≤(hdM fs).2.1∧(hdM fs).2.1≤200:=by
 have h:=yG (fld fs 2) 200 (by decide)
 unfold hdM
 repeat' split
 all_goals dsimp only
 all_goals first | omega | exact ⟨h.1,h.2.1⟩
theorem aBh(a b c d e f:Int):El a b c d e f = -1∨El a b c d e f=0∨El a b c d e f=1:=by
 have h:∀ a b:Int,iV a b = -1∨iV a b=0∨iV a b=1:=fun a b=>by
  unfold iV
  repeat' split
  all_goals simp
 unfold El
 repeat' split
 all_goals exact h _ _
structure PS where
 nr:Nat
 my:Int
 bf:Nat
 dn:Bool
 kd:Int
 R:List (List Cel)
def prF(s:List UInt8)(a:PS)(x:List UInt8 × Bool):Except (PS × Int × Int × Int) PS :=
 if a.dn=true∨x.2=false then .error ({ a with nr:=a.nr+1 },((a.nr+1:Nat):Int),1,11)
 else if a.nr=0 then
  (if (hdM (aO x.1 [32])).2.2.2≠0 then .error ({ a with nr:=a.nr+1,my:=(hdM (aO x.1 [32])).2.1,kd:=Dn (hdM (aO x.1 [32])).1 },((a.nr+1:Nat):Int),(hdM (aO x.1 [32])).2.2.1,(hdM (aO x.1 [32])).2.2.2)
  else .ok { a with nr:=a.nr+1,my:=(hdM (aO x.1 [32])).2.1,kd:=Dn (hdM (aO x.1 [32])).1,bf:=a.bf+(x.1.length+1) })
 else if ((a.nr+1:Nat):Int)≤a.my+1 then
  match rdL (aJ a.kd) (aO x.1 [32]) 0 with
  | .inr p => .error ({ a with nr:=a.nr+1 },((a.nr+1:Nat):Int),p.1,p.2)
  | .inl cs =>
   if (aO x.1 [32]).length≠(aJ a.kd).length then .error ({ a with nr:=a.nr+1 },((a.nr+1:Nat):Int),(((aJ a.kd).length+1:Nat):Int),11)
   else match a.R.getLast? with
    | none => .ok { a with nr:=a.nr+1,R:=a.R++[cs],bf:=a.bf+(x.1.length+1) }
    | some c =>
     if bS a.kd c cs = -1 then .ok { a with nr:=a.nr+1,R:=a.R++[cs],bf:=a.bf+(x.1.length+1) }
     else .error ({ a with nr:=a.nr+1,R:=a.R++[cs] },((a.nr+1:Nat):Int),1,if bS a.kd c cs=0 then 5 else 4)
 else if (lsM (aO x.1 [32]) (bQ (s.take a.bf))).2≠0 then .error ({ a with nr:=a.nr+1,dn:=true },((a.nr+1:Nat):Int),(lsM (aO x.1 [32]) (bQ (s.take a.bf))).1,(lsM (aO x.1 [32]) (bQ (s.take a.bf))).2)
 else .ok { a with nr:=a.nr+1,dn:=true,bf:=a.bf+(x.1.length+1) }
def prA:PS:=⟨0,0,0,false,0,[]⟩
def prM(s:List UInt8):Int × List (List Cel) × Int × Int × Int :=
 if 65536<s.length then (0,[],0,0,10) else match itB (prF s) prA (cF s) with
  | .error e=>(0,[],e.2.1,e.2.2.1,e.2.2.2)
  | .ok a=>if a.dn=true then (a.kd,a.R,0,0,0) else (0,[],((a.nr+1:Nat):Int),1,11)
structure bAe (pre:List (List UInt8 × Bool)) (a:PS):Prop where
 nr:a.nr=pre.length
 bf:a.bf=vA pre
 ended:∀ y∈pre,y.2=true
 my:0≤a.my∧a.my≤200
 R:∀ r∈a.R,r.length=(aJ a.kd).length
 Rn:a.R.length≤a.nr
theorem bAf{s:List UInt8}{pre:List (List UInt8 × Bool)}{a a2:PS}{x:List UInt8 × Bool}(h:bAe pre a)(hf:prF s a x = .ok a2):bAe (pre++[x]) a2:=by
 obtain ⟨h1,h2,h3,h4,h5,h6⟩:=h;unfold prF at hf
 split at hf
 ·cases hf
 ·rename_i hc
  have hx:x.2=true:=by
   cases hx:x.2 with
   | true=>rfl
   | false=>exact absurd (.inr hx) hc
  have he:∀ y∈pre++[x],y.2=true:=fun y hy=>by
   rcases nC.1 hy with hy | hy
   ·exact h3 y hy
   ·rw [List.mem_singleton] at hy;subst hy;exact hx
  have hb:a.bf+(x.1.length+1)=vA (pre++[x]):=by rw [aEl,h2]
  have hn:a.nr+1=(pre++[x]).length:=by rw [Bv,h1];rfl
  split at hf
  ·rename_i h0
   split at hf
   ·cases hf
   ·cases hf
    have hR:a.R=[]:=uO (by omega)
    refine ⟨hn,hb,he,bYw _,?_,?_⟩
    ·intro r hr
     have Dt:r∈a.R:=hr;rw [hR] at Dt
     cases Dt
    ·show a.R.length≤a.nr+1
     omega
  ·split at hf
   ·split at hf
    ·cases hf
    ·rename_i cs hcs
     have hl:=vD _ _ _ _ hcs;have hR:∀ r∈a.R++[cs],r.length=(aJ a.kd).length:=fun r hr=>by
      rcases nC.1 hr with hr | hr
      ·exact h5 r hr
      ·rw [List.mem_singleton] at hr;subst hr;exact hl
     split at hf
     ·cases hf
     ·split at hf
      ·cases hf
       exact ⟨hn,hb,he,h4,hR,by show (a.R++[cs]).length≤a.nr+1;rw [Bv,List.length_singleton];omega⟩
      ·split at hf
       ·cases hf
        exact ⟨hn,hb,he,h4,hR,by show (a.R++[cs]).length≤a.nr+1;rw [Bv,List.length_singleton];omega⟩
       ·cases hf
   ·split at hf
    ·cases hf
    ·cases hf
     exact ⟨hn,hb,he,h4,h5,by show a.R.length≤a.nr+1;omega⟩
theorem vE{s:List UInt8}:∀ (l pre:List (List UInt8 × Bool)) (a a2:PS),bAe pre a→itB (prF s) a l = .ok a2→bAe (pre++l) a2
 | [],pre,a,a2,h,hi=>by cases hi;rw [List.append_nil];exact h
 | x::l,pre,a,a2,h,hi=>by
  cases hf:prF s a x with
  | error e=>simp only [itB,hf] at hi;cases hi
  | ok a' =>
   simp only [itB,hf] at hi
   have:=vE l (pre++[x]) a' a2 (bAf h hf) hi;rw [List.append_assoc] at this
   exact this
theorem aPs:bAe [] prA:=⟨rfl,rfl,fun y h=>(by simp at h),(by decide),fun r h=>(by cases h),dD _⟩
abbrev prS(s:List UInt8)(a:PS):St:=bR s a.nr a.my a.bf a.dn a.kd a.R.length ((a.R.map rwE).flatten)
abbrev prR(s:List UInt8)(e:PS × Int × Int × Int):St:=bV (bV (bV (bV (prS s e.1) 5 (some (.box 158 [.p (aB e.1.kd),.own 12,.p (aB e.2.1),.p (aB e.2.2.1),.p (aB e.2.2.2)]))) 2 (some (.box 3 [.p (aB e.2.1)]))) 3 (some (.box 3 [.p (aB e.2.2.1)]))) 4 (some (.box 27 [.p (aB e.2.2.2)]))
theorem aSt(r:List Cel):iU (rwE r)=true:=by
 show (iU (r.map cE).flatten && true)=true;have:∀ l:List Cel,iU (l.map cE).flatten=true:=fun l=>by
  induction l with
  | nil=>rfl
  | cons c l ih=>exact ih
 rw [this];rfl
theorem aLa:∀ {l m:List PV},iU l=true→iU m=true→iU (l++m)=true
 | [],_,_,h=>h
 | x::l,m,h,h2=>by
  rw [iU,B4] at h
  rw [List.cons_append,iU,h.1,aLa h.2 h2];rfl
theorem qR:∀ R:List (List Cel),iU (R.map rwE).flatten=true
 | []=>rfl
 | r::R=>by rw [gS,vW];exact aLa (aSt r) (qR R)
theorem nR(R:List (List Cel))(c:List Cel):((R++[c]).map rwE).flatten=(R.map rwE).flatten++[PV.sl c.length ((c.map cE).flatten)]:=by simp [rwE,aN]
theorem bAg{s:List UInt8}(hs:s.length≤65536){pre:List (List UInt8 × Bool)}{x:List UInt8 × Bool}{a:PS}(hp:pre++[x] <+: cF s)(h:bAe pre a) :
  (∀ a',prF s a x = .ok a'→bW Tp 13 12 (sub (cd Tryz.f15) [1,1,1,1,0,1,0,1]) (kC (prS s a) 27 28 11 12 x.1 x.2) .normal (prS s a').m) ∧
  (∀ e,prF s a x = .error e→bW Tp 13 12 (sub (cd Tryz.f15) [1,1,1,1,0,1,0,1]) (kC (prS s a) 27 28 11 12 x.1 x.2) .ret (prR s e).m):=by
 obtain ⟨xl,xb⟩:=x;obtain ⟨nr,my,bf,dn,kd,R⟩:=a;obtain ⟨h1,h2,h3,h4,h5,h6⟩:=h;dsimp only at h1 h2 h3 h4 h5 h6
 have hfar:=aEm pre (xl,xb) s hp h3;dsimp only at hfar
 have hfg:=aSr pre;have i1:inR (((nr+1:Nat)):Int):=aR (by omega)
 have i2:inR (((xl.length+1:Nat)):Int):=aR (by omega)
 have i3:inR (((bf+(xl.length+1):Nat)):Int):=aR (by omega)
 have i4:inR (my+1):=by unfold inR;omega
 have Gl:xl.length<4294967281:=by omega
 have Fz:1≤([32]:List UInt8).length:=by decide
 have hf:∀ u∈aO xl [32],u.length≤90000:=fun u hu=>by have:=bOr hu;omega
 unfold prF;dsimp only
 by_cases hd:dn=true
 ·rw [if_pos (.inl hd)]
  refine ⟨fun _ h=>(by cases h),fun _ h => ?_⟩
  cases h;exact bAh i1 Gl Fz hd rfl
 ·have Fg:dn=false:=by simpa using hd
  by_cases hb:xb=false
  ·rw [if_pos (.inr hb)]
   refine ⟨fun _ h=>(by cases h),fun _ h => ?_⟩
   cases h;exact bAi i1 Gl Fz Fg hb rfl
  ·have Aq:xb=true:=by simpa using hb
   rw [if_neg (by simp [Fg,Aq])]
   by_cases h0:nr=0
   ·rw [if_pos h0]
    have z1:(((nr+1:Nat)):Int)=(1:Int):=by omega
    by_cases he:(hdM (aO xl [32])).2.2.2=0
    ·rw [if_neg (by simp [he])]
     refine ⟨fun _ h => ?_,fun _ h=>(by cases h)⟩
     cases h;exact bAk i1 Gl Fz Fg Aq z1 he i2 i3 rfl rfl rfl rfl
    ·rw [if_pos he]
     refine ⟨fun _ h=>(by cases h),fun _ h => ?_⟩
     cases h;exact bAj i1 Gl Fz Fg Aq z1 he he rfl rfl rfl
   ·rw [if_neg h0]
    have z2:(((nr+1:Nat)):Int)≠(1:Int):=by omega
    by_cases hm:(((nr+1:Nat)):Int)≤my+1
    ·rw [if_pos hm]
     cases hr:rdL (aJ kd) (aO xl [32]) 0 with
     | inr p =>
      obtain ⟨fd,er⟩:=p;refine ⟨fun _ h=>(by cases h),fun _ h => ?_⟩
      cases h;exact aPu i1 Gl Fz Fg Aq z2 i4 hm hf hr (aPr _ _ _ _ hr) rfl
     | inl cs =>
      have hl:=vD _ _ _ _ hr;dsimp only
      by_cases hfl:(aO xl [32]).length=(aJ kd).length
      ·rw [if_neg (by simp [hfl])]
       have hkc:aM kd≤(cs.length:Int):=by rw [hl];exact uV kd
       cases hg:R.getLast? with
       | none =>
        have hR:R=[]:=List.getLast?_eq_none_iff.1 hg;refine ⟨fun _ h => ?_,fun _ h=>(by cases h)⟩
        cases h;subst hR;exact bAo i1 Gl Fz Fg Aq z2 i4 hm hf hr hfl (by simp) (by simp) i2 i3 rfl rfl rfl (by simp [rwE,aN])
       | some c =>
        have hRn:0<R.length:=by
         cases R with
         | nil=>simp at hg
         | cons y l=>simp
        have hc:R[R.length-1]? = some c:=by rw [List.getLast?_eq_getElem?] at hg;exact hg
        have hat:R[((R.length:Int)-(1:Int)).toNat]? = some c:=by
         rw [show ((R.length:Int)-(1:Int)).toNat=R.length-1 by omega];exact hc
        have hkl:aM kd≤(c.length:Int):=by rw [h5 c (B0 hc)];exact uV kd
        have i5:inR ((R.length:Int)-(1:Int)):=by unfold inR;omega
        have z3:(0:Int)<(R.length:Int):=by omega
        have z4:0≤((R.length:Int)-(1:Int))∧((R.length:Int)-(1:Int))<(R.length:Int):=by omega
        have hap:[(PV.sl cs.length ((cs.map cE).flatten))].length=1*1∧R.length+1≤1000000:=⟨rfl,by omega⟩
        dsimp only
        rcases aBh (aK kd c 0) (aK kd c 1) (aK kd c 2) (aK kd cs 0) (aK kd cs 1) (aK kd cs 2) with hk | hk | hk
        ·have Gf:bS kd c cs = -1:=hk
         rw [if_pos Gf];refine ⟨fun _ h => ?_,fun _ h=>(by cases h)⟩
         cases h;exact bAl i1 Gl Fz Fg Aq z2 i4 hm hf hr hfl z3 i5 z4 hat hkl hkc Gf hap i2 i3 rfl rfl (by simp) (nR R cs)
        ·have Gf:bS kd c cs=0:=hk
         rw [if_neg (by rw [Gf];decide),if_pos Gf]
         refine ⟨fun _ h=>(by cases h),fun _ h => ?_⟩
         cases h;exact bAm i1 Gl Fz Fg Aq z2 i4 hm hf hr hfl z3 i5 z4 hat hkl hkc Gf hap rfl (by simp) (nR R cs)
        ·have Gf:bS kd c cs=1:=hk
         rw [if_neg (by rw [Gf];decide),if_neg (by rw [Gf];decide)]
         refine ⟨fun _ h=>(by cases h),fun _ h => ?_⟩
         cases h;exact bAn i1 Gl Fz Fg Aq z2 i4 hm hf hr hfl z3 i5 z4 hat hkl hkc Gf hap rfl (by simp) (nR R cs)
      ·rw [if_pos hfl]
       refine ⟨fun _ h=>(by cases h),fun _ h => ?_⟩
       cases h;exact bAp i1 Gl Fz Fg Aq z2 i4 hm hf hr hfl rfl
    ·rw [if_neg hm]
     have z5:(my+(1:Int))<(((nr+1:Nat)):Int):=by omega
     have z6:0≤(0:Int)∧(0:Int)≤(bf:Int)∧(bf:Int)≤(s.length:Int):=by omega
     have hbf:(bf:Int)≤(s.length:Int):=by omega
     have htk:(s.take bf).length≤65536:=by rw [pF];omega
     by_cases hz:(lsM (aO xl [32]) (bQ (s.take bf))).2=0
     ·rw [if_neg (by simp [hz])]
      refine ⟨fun _ h => ?_,fun _ h=>(by cases h)⟩
      cases h;exact aPw i1 Gl Fz Fg Aq z2 i4 z5 z6 htk (aKz _ _) hz i2 i3 rfl rfl
     ·rw [if_pos hz]
      refine ⟨fun _ h=>(by cases h),fun _ h => ?_⟩
      cases h;exact aPv i1 Gl Fz Fg Aq z2 i4 z5 z6 htk (aKz _ _) hz hz rfl
theorem bIo{s:List UInt8}(hs:s.length≤65536) :
  (∀ a,itB (prF s) prA (cF s) = .ok a→aA Tp 0 (sub (cd Tryz.f15) [1,1,1,1,0,1,0]) (qT s) .normal (prS s a))∧(∀ e,itB (prF s) prA (cF s) = .error e→aA Tp 0 (sub (cd Tryz.f15) [1,1,1,1,0,1,0]) (qT s) .ret (prR s e)):=by
 refine aBf (k:=0) (kb:=13) (kk:=12) (gi:=26) (p1:=27) (p2:=28) (bx:=11) (g0:=⟨[],[12],[],[(105001,78),(110000,0)]⟩) s (by omega) (qT s) (prS s) (prR s) (qT s).t (prF s) prA
  (s2T 27 28 11 12) (Jf 27 28 11 12) (asg := .seq (aPx 6 27 11 9 "read.go:128") (aPx 7 28 12 4 "read.go:128")) (body := sub (cd Tryz.f15) [1, 1, 1, 1, 0, 1, 0, 1]) (by kernel_rfl) rfl rfl rfl (by show 12 ≤ 12; omega) ⟨(qT s).t, by kernel_rfl⟩ (fun _ => rfl) (fun _ => rfl)
  (fun a => .no (by rfl)) (fun e => .no (by rfl)) (fun a=>(eU (by rfl)).2) (fun e=>(eU (by rfl)).2) (eU (by rfl)).2 (fun a => ?_) (fun e => ?_) (fun a=>by show 13≤13;omega) (by kernel_rfl)
  (fun a x l K W h=>Nr a x l K W h) (fun a x C M W h=>bOs (fun _=>rfl) (fun _=>rfl) a x h) (fun _ _=>rfl) (fun pre x a hp hi=>bAg hs hp (by have:=vE pre [] prA a aPs hi;exact this))
 ·show (iU (a.R.map rwE).flatten && true)=true
  rw [qR];rfl
 ·show (iU (e.1.R.map rwE).flatten && true)=true
  rw [qR];rfl
theorem aBi(s:List UInt8){base:Nat}:FV Tp 15 [.p (aD s)] base (.tup [.p (.agg [aB (prM s).1,bZ (prM s).2.1]),.p (aB (prM s).2.2.1),.p (aB (prM s).2.2.2.1),.p (aB (prM s).2.2.2.2)]) []:=by
 refine FV.frz ?_ (by rfl)
 unfold prM
 by_cases hs:65536<s.length
 ·rw [if_pos hs]
  exact FMM.wk (bZb (by omega)) rfl
 ·rw [if_neg hs]
  have hL:=bIo (s:=s) (by omega)
  cases hi:itB (prF s) prA (cF s) with
  | error e =>
   exact FMM.wk (bZe (by omega) (hL.2 e hi)) rfl
  | ok a =>
   have hok:=vE (cF s) [] prA a aPs hi;have hnr:a.nr≤65536:=by
    have h1:=hok.nr;rw [List.nil_append] at h1
    have:=tG _ s (dD _);omega
   dsimp only
   by_cases hd:a.dn=true
   ·rw [if_pos hd]
    have:=bZd (s:=s) (by omega) (hL.1 a hi) hd
    rw [fI] at this
    exact this
   ·rw [if_neg hd]
    exact FMM.wk (bZc (by omega) (hL.1 a hi) (by simpa using hd) (aR (by omega)) rfl) rfl
end KV
end Go.Proofs
end
section
namespace Go.Proofs
open Go.RowKit
namespace KV
open Tryz
theorem nN(a sep:List UInt8):Lib.join [a] sep=a:=by simp [Lib.join,List.intercalate]
theorem lJ:∀ (fs:List (List UInt8)),fs≠[]→(∀ u∈fs,Cln u)→spB (Lib.join fs [32])=fs
 | [],h,_=>absurd rfl h
 | [a],_,h=>by
  rw [nN];exact (aHf a fun b hb=>(h a (jT ..) b hb).1).1
 | a::b::r,_,h=>by
  rw [fN,List.append_assoc];rw [show a++([32]++Lib.join (b::r) [32])=a++32::Lib.join (b::r) [32] from rfl]
  rw [(aHf a fun c hc=>(h a (jT ..) c hc).1).2,lJ (b::r) (by simp) (fun u hu=>h u (Cn _ hu))]
theorem iA:∀ (fs:List (List UInt8)),(∀ u∈fs,Cln u)→∀ b∈Lib.join fs [32],b≠10
 | [],_,b,hb=>by simp [Lib.join,List.intercalate] at hb
 | [a],h,b,hb=>by rw [nN] at hb;exact (h a (jT ..) b hb).2
 | a::c::r,h,b,hb=>by
  rw [fN] at hb
  rcases nC.1 hb with hb | hb
  ·rcases nC.1 hb with hb | hb
   ·exact (h a (jT ..) b hb).2
   ·rw [List.mem_singleton] at hb;subst hb;decide
  ·exact iA (c::r) (fun u hu=>h u (Cn _ hu)) b hb
def txL(ls:List (List UInt8)):List UInt8:=(ls.map (· ++ [10])).flatten
theorem gM(l:List UInt8)(ls:List (List UInt8)):txL (l::ls)=l++10::txL ls:=by simp [txL]
theorem uY(a b:List (List UInt8)):txL (a++b)=txL a++txL b:=by simp [txL]
theorem bIe:∀ ls:List (List UInt8),vA (ls.map (fun l=>(l,true)))=(txL ls).length
 | []=>rfl
 | l::ls=>by
  rw [gS,vA,bIe ls,gM];simp;omega
def eD(k:Int)(x:List Cel):List UInt8:=Lib.join (cZ k x) [32]
def xL(k n:Int):List UInt8:=Lib.join [[107,108,105,115,116,101,114],jY k,Lib.itoa n] [32]
def rY(v:Int):List UInt8:=Lib.join [[115,117,109],Lib.itoa v] [32]
structure aBa (k:Int) (x:List Cel):Prop where
 len:x.length=(aJ k).length
 ck:∀ (j:Nat) t c,(aJ k)[j]? = some t→x[j]? = some c→ckM t c=0
theorem bIf:∀ (ts:List Int) (x:List Cel) (i:Nat),x.length=ts.length→(∀ t∈ts,t=0∨t=1∨t=2∨t=3)→(∀ (j:Nat) t c,ts[j]? = some t→x[j]? = some c→ckM t c=0)→rdL ts (List.zipWith wrM ts x) i = .inl x
 | [],[],i,_,_,_=>rfl
 | [],_::_,i,h,_,_=>by simp at h
 | _::_,[],i,h,_,_=>by simp at h
 | t::ts,c::x,i,h,ht,hc=>by
  have h0:=bRu (ht t (jT ..)) (hc 0 t c rfl rfl);have ih:=bIf ts x (i+1) (by simpa using h) (fun t h=>ht t (Cn _ h)) (fun j t c h1 h2=>hc (j+1) t c h1 h2)
  rw [List.zipWith_cons_cons,rdL,h0,if_neg (by simp),ih]
theorem aBb(k:Int):∀ t∈aJ k,t=0∨t=1∨t=2∨t=3:=fun t h=>by
 obtain ⟨j,hj⟩:=List.mem_iff_getElem?.1 h;exact iT hj
theorem nO{k:Int}{x:List Cel}(h:aBa k x):∀ u∈cZ k x,Cln u:=fun u hu=>by
 obtain ⟨j,t,c,h1,h2,rfl⟩:=aRw hu;exact bYu (iT h1) (h.ck j t c h1 h2)
theorem qL(k:Int):0<(aJ k).length:=by
 unfold aJ
 repeat' split
 all_goals decide
theorem mB{k:Int}{x:List Cel}(h:aBa k x):(cZ k x).length=(aJ k).length:=by
 unfold cZ;rw [List.length_zipWith,h.len,Nat.min_self]
theorem kB{k:Int}{x:List Cel}(h:aBa k x)(i:Nat):spB (eD k x)=cZ k x∧rdL (aJ k) (cZ k x) i = .inl x:=by
 have hp:=qL k;have hl:=mB h;exact ⟨lJ _ (fun e=>by rw [e] at hl;simp at hl;omega) (nO h),bIf _ _ _ h.len (aBb k) h.ck⟩
theorem bIg(k:Int):Cln (jY k):=by
 have:(jY k).all isl=true:=by
  unfold jY
  repeat' split
  all_goals decide
 exact oO this (by decide) (by decide)
theorem aZw{k:Int}(h:within k 0 4=true):eR (jY k)=k:=by
 have:=cO.1 h;have:k=0∨k=1∨k=2∨k=3∨k=4:=by omega
 rcases this with rfl | rfl | rfl | rfl | rfl
 all_goals decide
theorem bYr:Cln [107,108,105,115,116,101,114]:=oO (p:=isl) (by decide) (by decide) (by decide)
theorem bYs:Cln [115,117,109]:=oO (p:=isl) (by decide) (by decide) (by decide)
theorem aKs{k n:Int}(h:0≤n):∀ u∈[[107,108,105,115,116,101,114],jY k,Lib.itoa n],Cln u:=fun u hu=>by
 simp only [jU,List.mem_nil_iff,or_false] at hu
 rcases hu with rfl | rfl | rfl
 ·exact bYr
 ·exact bIg k
 ·exact aBd h
theorem aHb{v:Int}(h:0≤v):∀ u∈[[115,117,109],Lib.itoa v],Cln u:=fun u hu=>by
 simp only [jU,List.mem_nil_iff,or_false] at hu
 rcases hu with rfl | rfl
 ·exact bYs
 ·exact aBd h
theorem bYt{k:Int}(h:within k 0 4=true):Dn k=k:=by
 have:=cO.1 h;unfold Dn;split <;> omega
theorem aZx{k n:Int}(hk:within k 0 4=true)(h0:0≤n)(h:n≤200):hdM (spB (xL k n))=(k,n,0,0):=by
 unfold xL;rw [lJ _ (by simp) (aKs h0)]
 have e1:fld [[107,108,105,115,116,101,114],jY k,Lib.itoa n] 0=[107,108,105,115,116,101,114]:=rfl;have e2:fld [[107,108,105,115,116,101,114],jY k,Lib.itoa n] 1=jY k:=rfl;have e3:fld [[107,108,105,115,116,101,114],jY k,Lib.itoa n] 2=Lib.itoa n:=rfl;have hb:=cO.1 hk;unfold hdM;rw [e1,e2,e3,aZw hk,aBc h0 h,if_neg (by simp),if_neg (by simp),if_neg (by omega),if_neg (by simp),if_neg (by simp),if_neg (by simp)]
theorem aZy{v:Int}(h0:0≤v)(h:v≤65520):lsM (spB (rY v)) v=(0,0):=by
 unfold rY;rw [lJ _ (by simp) (aHb h0)]
 have e1:fld [[115,117,109],Lib.itoa v] 0=[115,117,109]:=rfl;have e2:fld [[115,117,109],Lib.itoa v] 1=Lib.itoa v:=rfl;have ec:lsC [[115,117,109],Lib.itoa v] v=0:=by unfold lsC;rw [e2,aBc h0 h];simp
 unfold lsM;rw [e1,ec,if_neg (by simp),if_neg (by simp),if_neg (by simp),if_neg (by simp)]
def fY(k:Int)(R:List (List Cel)):List (List UInt8):=xL k (R.length:Int)::R.map (eD k)
theorem aKt(k:Int):∀ (R:List (List Cel)) (h:List UInt8),R.foldl (fun o x=>o++lnM (cZ k x)) h=h++txL (R.map (eD k))
 | [],h=>by simp [txL]
 | x::R,h=>by
  rw [bMf,aKt k R,gS,gM,List.append_assoc]
  congr 1
  show lnM (cZ k x)++_=_;unfold lnM eD;simp
theorem uZ(k:Int)(R:List (List Cel)):iX k R=txL (fY k R):=by
 unfold iX fY;rw [aKt,gM];show lY k R.length++_=_;unfold lY lnM xL;simp
theorem aHc{k:Int}{R:List (List Cel)}(h:dZ k R=0):qE k R=(txL (fY k R++[rY (kW (iX k R))]),0):=by
 unfold qE;rw [if_neg (by simp [h]),uZ,uY]
 congr 2
 show lnM _=_;rw [gM];unfold lnM rY;simp [txL]
end KV
end Go.Proofs
end
section
namespace Go.Proofs
open Go.RowKit
namespace KV
open Tryz
theorem aGy{k:Int}:∀ (done:List (List Cel)) (c x:List Cel) (r:List (List Cel)),qG k (done++c::x::r)=0→bS k c x = -1
 | [],c,x,r,h=>by
  rw [List.nil_append,qG] at h
  split at h
  ·cases h
  ·split at h
   ·cases h
   ·rcases aBh (aK k c 0) (aK k c 1) (aK k c 2) (aK k x 0) (aK k x 1) (aK k x 2) with q | q | q
    ·exact q
    ·exact absurd q (by assumption)
    ·have:bS k c x=1:=q
     omega
 | [a],c,x,r,h=>by
  rw [List.cons_append,List.nil_append,qG] at h
  split at h
  ·cases h
  ·split at h
   ·cases h
   ·exact aGy [] c x r h
 | a::b::l,c,x,r,h=>by
  rw [List.cons_append,List.cons_append,qG] at h
  split at h
  ·cases h
  ·split at h
   ·cases h
   ·exact aGy (b::l) c x r h
theorem aKr{k:Int}:∀ (done:List (List Cel)) (x:List Cel),qG k done=0→(∀ c,done.getLast? = some c→bS k c x = -1)→qG k (done++[x])=0
 | [],x,_,_=>rfl
 | [a],x,_,h=>by
  have:=h a rfl;rw [List.cons_append,List.nil_append,qG,if_neg (by omega),if_neg (by omega)]
  rfl
 | a::b::l,x,h0,h=>by
  rw [qG] at h0
  rw [List.cons_append,List.cons_append,qG]
  split at h0
  ·cases h0
  ·split at h0
   ·cases h0
   ·rename_i h1 h2
    rw [if_neg h1,if_neg h2];exact aKr (b::l) x h0 (fun c hc=>h c (by rw [List.getLast?_cons_cons];exact hc))
structure nM (k:Int) (R:List (List Cel)):Prop where
 w:within k 0 4=true
 n:R.length≤200
 ok:∀ x∈R,aBa k x
 ord:qG k R=0
theorem aSo{k:Int}{R:List (List Cel)}(h:dZ k R=0):nM k R:=by
 have hR:=uT h;refine ⟨hR.w,hR.n,fun x hx=>⟨hR.len x hx,hR.ck x hx⟩,?_⟩
 unfold dZ at h
 split at h
 ·cases h
 ·split at h
  ·cases h
  ·split at h
   ·rename_i q;exact absurd h q
   ·exact h
theorem bYq{k:Int}{R:List (List Cel)}(h:nM k R):dZ k R=0:=by
 have hp:=qL k;have hne:R.all Du=true:=iD.2 fun x hx=>by
  have:=(h.ok x hx).len;unfold Du;exact decide_eq_true (by omega)
 have hfit:R.all (fF k)=true:=iD.2 fun x hx=>by
  have:=(h.ok x hx).len;unfold fF;simp [this]
 have hno:∀ e:Int,e≠0→R.any (aAx k e)=false:=fun e he=>by
  cases q:R.any (aAx k e) with
  | false=>rfl
  | true =>
   exfalso
   obtain ⟨x,hx,q2⟩:=List.any_eq_true.1 q;unfold aAx at q2
   obtain ⟨c,hc,q3⟩:=List.any_eq_true.1 q2;obtain ⟨j,hj⟩:=List.mem_iff_getElem?.1 hc;obtain ⟨t,a,z,h1,h2,rfl⟩:=aGs hj;have:=(h.ok x hx).ck j t (a,z) h1 h2;have q4:ckM t (a,z)=e:=by simpa using q3
   omega
 have hch:lI k R=0:=by
  unfold lI;rw [if_neg (by rw [hfit];simp),if_neg (by rw [hno 3 (by decide)];simp),if_neg (by rw [hno 11 (by decide)];simp)]
 unfold dZ;rw [if_neg (by rw [h.w];simp),if_neg (by rw [hne];have:=h.n;simp;omega),if_neg (by rw [hch];simp)]
 exact h.ord
theorem aGz{X β ε:Type}(f:β→X→Except ε β):∀ (l r:List X) (a a':β),itB f a l = .ok a'→itB f a (l++r)=itB f a' r
 | [],r,a,a',h=>by cases h;rfl
 | x::l,r,a,a',h=>by
  cases e:f a x with
  | ok b=>rw [aBe _ e] at h;rw [List.cons_append,aBe _ e];exact aGz f l r b a' h
  | error e'=>rw [aPn _ e] at h;cases h
theorem aHa(b:List UInt8):0≤kW b∧kW b≤65520:=by
 unfold kW
 split
 ·have:=aRx b;omega
 ·omega
theorem wH{k:Int}{R:List (List Cel)}(hG:nM k R):∀ l∈fY k R,∀ b∈l,b≠10:=fun l hl=>by
 unfold fY at hl
 rcases jU.1 hl with rfl | hl
 ·exact iA _ (aKs (by omega))
 ·obtain ⟨x,hx,rfl⟩:=rX.1 hl
  exact iA _ (nO (hG.ok x hx))
theorem aZv(k:Int):(jY k).length≤10:=by
 unfold jY
 repeat' split
 all_goals simp
theorem bIc{k:Int}{R:List (List Cel)}(hG:nM k R):(lY k R.length).length≤1000:=by
 have hn:=hG.n;have hw:=aZv k;have hi:=itl (n:=(R.length:Int)) (by omega)
 have:=jZ 30 [[107,108,105,115,116,101,114],jY k,Lib.itoa (R.length:Int)] (fun s hs=>by
  simp only [jU,List.not_mem_nil,or_false] at hs
  rcases hs with rfl | rfl | rfl
  ·simp
  ·omega
  ·omega)
 simp only [Cb,List.length_nil] at this
 unfold lY lnM;rw [Bv];simp;omega
theorem aAz{k:Int}{R:List (List Cel)}(hc:dZ k R=0):(iX k R).length≤61000:=by
 have hG:=aSo hc;have:=aAu (uT hc) R (lY k R.length) (fun x hx=>hx)
 have h1:=bIc hG;have h2:=hG.n;have ev:iX k R=R.foldl (fun o x=>o++lnM (cZ k x)) (lY k R.length):=rfl
 rw [← ev] at this
 omega
theorem bId{v:Int}(h0:0≤v)(h:v≤65520):(rY v).length≤100:=by
 have hs:=itl (n:=v) (by omega)
 have:=jZ 30 [[115,117,109],Lib.itoa v] (fun s hs=>by
  simp only [jU,List.not_mem_nil,or_false] at hs
  rcases hs with rfl | rfl
  ·simp
  ·omega)
 simp only [Cb,List.length_nil] at this
 unfold rY;omega
theorem bOn{k:Int}{R:List (List Cel)}(hc:dZ k R=0):(qE k R).1.length≤62000:=by
 rw [aHc hc,uY,← uZ];have h1:=aAz hc;obtain ⟨h2,h3⟩:=aHa (iX k R);have:=bId h2 h3;rw [Bv,gM];simp [txL];omega
end KV
end Go.Proofs
end
namespace Go.Proofs
namespace KV
open Tryz
section

theorem bIw(k:Int):1≤aM k∧aM k≤3:=by
 unfold aM
 repeat' split
 all_goals decide
end
section

theorem bOt(R:List (List Cel))(cs:List Cel):((R++[cs]).map rwE).flatten=(R.map rwE).flatten++[PV.sl cs.length ((cs.map cE).flatten)]:=by simp [rwE,aN]
end
end KV
end Go.Proofs
section
namespace Go.Proofs
open Go.RowKit
namespace KV
open Tryz
theorem cCk{d:Int}(h:0≤d∧(d<2∨d=0)):∃ b,(([120,111]:List UInt8).drop d.toNat).take 1=[b]∧isr b=true∧1≤(([120,111]:List UInt8).drop d.toNat).length:=by
 have:d=0∨d=1:=by omega
 rcases this with rfl | rfl
 ·exact ⟨120,rfl,by decide,by decide⟩
 ·exact ⟨111,rfl,by decide,by decide⟩
theorem bTg{d:Int}(h:0≤d∧(d<26∨d=0)):isl (UInt8.ofNat (IntKind.wrap .i32 (97+d)).toNat)=true∧0≤IntKind.wrap .i32 (97+d)∧IntKind.wrap .i32 (97+d)<128:=by
 have hw:=bGi (x:=97+d) (by omega)
 rw [hw];refine ⟨?_,by omega,by omega⟩
 have e:(UInt8.ofNat (97+d).toNat).toNat=(97+d).toNat:=by rw [UInt8.toNat_ofNat'];omega
 simp only [isl,e,B4,decide_eq_true_eq];omega
section
variable {l:List Int} {nx st k most:Int} {i:Nat} {R:List (List Cel)}
theorem bFw{j:Nat}{r:List Cel}{mb tb:Int}:∀ (m q:Nat) (z:List UInt8) (mc tc:Int),(((dM 5 8 l mb tb).1)-(q:Int)).toNat=m→(q:Int)≤(dM 5 8 l mb tb).1→q≤8→z.length=q→(∀ b∈z,isr b=true)→0≤mc→mc≤900000000+q →
  ∃ z' E9 Gg,aF Tp 1 (sub (cd Tryz.f25) a7) (pZ l nx st k most i R j r mb tb q z mc tc) (.exit 7) (pZ l nx st k most i R j r mb tb ((dM 5 8 l mb tb).1).toNat z' E9 Gg)∧(z'.length:Int)=(dM 5 8 l mb tb).1∧(∀ b∈z',isr b=true)∧mc≤E9∧E9≤mc+m
 | 0,q,z,mc,tc,hm,hq,h8,hz,ha,h0,h1=>by
  have e:((dM 5 8 l mb tb).1).toNat=q:=by omega
  rw [e];exact ⟨z,mc,tc,.exit (aWx (by omega)) (by simp),by omega,ha,by omega,by omega⟩
 | m+1,q,z,mc,tc,hm,hq,h8,hz,ha,h0,h1=>by
  have hb:=oL 5 8 l mb tb;have hd:=jV 2 l mc tc;obtain ⟨b,e1,e2,e3⟩:=cCk ⟨hd.1,hd.2.1⟩;obtain ⟨z',E9,Gg,L,p1,p2,p3,p4⟩:=bFw (j:=j) (r:=r) (mb:=mb) (tb:=tb) m (q+1) (z++[b]) (aV 2 l mc tc).2.1 (aV 2 l mc tc).2.2 (by omega) (by omega) (by omega) (by rw [Bv,hz];rfl) (fun c hc=>by
   rcases nC.1 hc with h | h
   ·exact ha c h
   ·rw [List.mem_singleton] at h;subst h;exact e2) (by omega) (by omega)
  exact ⟨z',E9,Gg,.step (aWw (by omega) (by omega) (by omega) (by omega) (by rw [e1];simp;omega) (aR (by omega)) rfl (by rw [e1]) rfl rfl) L,p1,p2,by omega,by omega⟩
theorem bFx{j:Nat}{r:List Cel}{mb tb:Int}:∀ (m q:Nat) (z:List UInt8) (mc tc:Int),(((dM 1 12 l mb tb).1)-(q:Int)).toNat=m→(q:Int)≤(dM 1 12 l mb tb).1→q≤12→z.length=q→(∀ b∈z,isl b=true)→0≤mc→mc≤900000000+q →
  ∃ z' E9 Gg,aF Tp 1 (sub (cd Tryz.f25) a8) (qA l nx st k most i R j r mb tb q z mc tc) (.exit 5) (qA l nx st k most i R j r mb tb ((dM 1 12 l mb tb).1).toNat z' E9 Gg)∧(z'.length:Int)=(dM 1 12 l mb tb).1∧(∀ b∈z',isl b=true)∧mc≤E9∧E9≤mc+m
 | 0,q,z,mc,tc,hm,hq,h8,hz,ha,h0,h1=>by
  have e:((dM 1 12 l mb tb).1).toNat=q:=by omega
  rw [e];exact ⟨z,mc,tc,.exit (aWz (by omega)) (by simp),by omega,ha,by omega,by omega⟩
 | m+1,q,z,mc,tc,hm,hq,h8,hz,ha,h0,h1=>by
  have hb:=oL 1 12 l mb tb;have hd:=jV 26 l mc tc;obtain ⟨e2,e3,e4⟩:=bTg ⟨hd.1,hd.2.1⟩;obtain ⟨z',E9,Gg,L,p1,p2,p3,p4⟩:=bFx (j:=j) (r:=r) (mb:=mb) (tb:=tb) m (q+1) (z++[UInt8.ofNat (IntKind.wrap .i32 (97+(aV 26 l mc tc).1)).toNat]) (aV 26 l mc tc).2.1 (aV 26 l mc tc).2.2 (by omega) (by omega) (by omega) (by rw [Bv,hz];rfl) (fun c hc=>by
   rcases nC.1 hc with h | h
   ·exact ha c h
   ·rw [List.mem_singleton] at h;subst h;exact e2) (by omega) (by omega)
  exact ⟨z',E9,Gg,.step (aWy (by omega) (by omega) (by show _∧_;omega) ⟨e3,e4⟩ (by rw [List.length_singleton];omega) (aR (by omega)) rfl rfl rfl rfl) L,p1,p2,by omega,by omega⟩
theorem uR(r:List Cel)(a:Int)(z:List UInt8):((r++[(a,z)]).map cE).flatten=(r.map cE).flatten++[aB a,aD z]:=by simp [cE]
structure aWk (k:Int) (i j:Nat) (r:List Cel):Prop where
 len:r.length=j
 ck:∀ (q:Nat) t c,(aJ k)[q]? = some t→r[q]? = some c→ckM t c=0
 key:0<j→∃ e:Int,0≤e∧e≤2∧r[0]? = some (3*(i:Int)+e,[])
theorem aWl{j:Nat}{r:List Cel}{t a:Int}{z:List UInt8}(h:aWk k i j r)(ht:(aJ k)[j]? = some t)(hc:ckM t (a,z)=0)(hk:j=0→∃ e:Int,0≤e∧e≤2∧a=3*(i:Int)+e∧z=[]):aWk k i (j+1) (r++[(a,z)]):=by
 obtain ⟨h1,h2,h3⟩:=h;refine ⟨by rw [Bv,h1];rfl,fun q t' c g1 g2 => ?_,fun _ => ?_⟩
 ·by_cases hq:q<r.length
  ·rw [aGg hq] at g2
   exact h2 q t' c g1 g2
  ·rw [aJy (by omega)] at g2
   have Ar:q-r.length=0:=by
    apply Classical.byContradiction;intro e;rw [List.getElem?_eq_none (by simp;omega)] at g2;cases g2
   rw [Ar] at g2
   cases g2;have:q=j:=by omega
   subst this;rw [ht] at g1;cases g1
   exact hc
 ·by_cases hj:j=0
  ·obtain ⟨e,e1,e2,e3,e4⟩:=hk hj
   have:r=[]:=uO (by omega)
   subst this;exact ⟨e,e1,e2,by rw [e3,e4];rfl⟩
  ·obtain ⟨e,e1,e2,e3⟩:=h3 (by omega)
   exact ⟨e,e1,e2,by rw [aGg (by omega)];exact e3⟩
theorem aWm(k:Int):(aJ k)[0]? = some 0:=by
 unfold aJ
 repeat' split
 all_goals rfl
theorem bFy{a:Int}(h:0≤a∧a≤999999):ckM 0 (a,[])=0:=by
 have:within a 0 999999=true:=cO.2 h;simp [ckM,this]
theorem bTh{a:Int}(h:0≤a∧a≤360000):ckM 1 (a,[])=0:=by
 have:within a 0 360000=true:=cO.2 h;simp [ckM,this]
theorem bTi{z:List UInt8}(h:5≤(z.length:Int)∧(z.length:Int)≤8)(ha:∀ b∈z,isr b=true):ckM 2 (0,z)=0:=by
 have:nI z=true:=by
  unfold nI;rw [cO.2 h,iD.2 ha];rfl
 simp [ckM,this]
theorem bTj{z:List UInt8}(h:1≤(z.length:Int)∧(z.length:Int)≤12)(ha:∀ b∈z,isl b=true):ckM 3 (0,z)=0:=by
 have:nJ z=true:=by
  unfold nJ;rw [cO.2 h,iD.2 ha];rfl
 simp [ckM,this]
theorem bFz{a b:Int}(h1:0≤a)(h2:a≤60)(h3:0≤b)(h4:b≤99):0≤a*b∧a*b≤5940:=⟨Int.mul_nonneg h1 h3,by have:=Int.mul_le_mul h2 h4 h3 (by omega);omega⟩
theorem bGa(hi:i≤100000):∀ (m j:Nat) (r:List Cel) (mb tb:Int),(aJ k).length-j=m→j≤(aJ k).length→aWk k i j r→0≤mb→mb+20*m≤900000000 →
  ∃ r' Es Gi,aF Tp 1 (sub (cd Tryz.f25) an) (eP l nx st k most i R j r.length ((r.map cE).flatten) mb tb) (.exit 2) (eP l nx st k most i R (aJ k).length r'.length ((r'.map cE).flatten) Es Gi)∧aWk k i (aJ k).length r'∧mb≤Es∧Es≤mb+20*m
 | 0,j,r,mb,tb,hm,hj,hr,h0,h1=>by
  have:j=(aJ k).length:=by omega
  subst this;exact ⟨r,mb,tb,.exit (aWv (by omega)) (by simp),hr,by omega,by omega⟩
 | m+1,j,r,mb,tb,hm,hj,hr,h0,h1=>by
  have hcl:=kA k;have hrl:=hr.len;obtain ⟨t,ht⟩:∃ t,(aJ k)[j]? = some t:=⟨(aJ k)[j]'(by omega),Bw (by omega)⟩
  have Lz:(aJ k).length-(j+1)=m:=by omega
  have Qy:j+1≤(aJ k).length:=by omega
  have go:∀ (a:Int) (z:List UInt8) (Es Gi:Int),ckM t (a,z)=0→(j=0→∃ e:Int,0≤e∧e≤2∧a=3*(i:Int)+e∧z=[])→mb≤Es→Es≤mb+20 →
    aA Tp 1 (sub (cd Tryz.f25) an) (eP l nx st k most i R j r.length ((r.map cE).flatten) mb tb) .normal (eP l nx st k most i R (j+1) (r++[(a,z)]).length (((r++[(a,z)]).map cE).flatten) Es Gi) →
    ∃ r' Es Gi,aF Tp 1 (sub (cd Tryz.f25) an) (eP l nx st k most i R j r.length ((r.map cE).flatten) mb tb) (.exit 2) (eP l nx st k most i R (aJ k).length r'.length ((r'.map cE).flatten) Es Gi)∧aWk k i (aJ k).length r'∧mb≤Es∧Es≤mb+20*((m+1:Nat):Int):=fun a z Qz Q0 hc hk g1 g2 hs=>by
   obtain ⟨r',Es,Gi,L,q1,q2,q3⟩:=bGa hi m (j+1) (r++[(a,z)]) Qz Q0 Lz Qy (aWl hr ht hc hk) (by omega) (by omega)
   exact ⟨r',Es,Gi,.step hs L,q1,by omega,by omega⟩
  by_cases M6:j=0
  ·have L3:=aWm k
   rw [M6,L3] at ht
   obtain rfl:=(Option.some.inj ht);have Q1:(aJ k)[j]? = some 0:=by rw [M6];exact L3
   have d1:=jV 60 l mb tb;have d2:=oL 1 99 l (aV 60 l mb tb).2.1 (aV 60 l mb tb).2.2;have d3:=jV 3 l (dM 1 99 l (aV 60 l mb tb).2.1 (aV 60 l mb tb).2.2).2.1 (dM 1 99 l (aV 60 l mb tb).2.1 (aV 60 l mb tb).2.2).2.2;have hmul:=bFz d1.1 (b:=(dM 1 99 l (aV 60 l mb tb).2.1 (aV 60 l mb tb).2.2).1) (by omega) (by omega) (by omega)
   exact go _ [] _ _ (bFy (by omega)) (fun _=>⟨_,d3.1,by omega,rfl,rfl⟩) (by omega) (by omega)
    (aWq (by omega) Q1 (by omega) (by omega) (by decide) (by show _∧_;omega) (by omega) (by show _∧_;omega) (by omega) (by show _∧_;omega) ⟨rfl,by omega⟩ (aR (by omega)) rfl (by simp) (uR _ _ _) rfl rfl)
  ·have nk:∀ {p:Prop},j=0→p:=fun e=>absurd e M6
   rcases iT ht with rfl | rfl | rfl | rfl
   ·have d1:=jV 60 l mb tb
    have d2:=oL 1 99 l (aV 60 l mb tb).2.1 (aV 60 l mb tb).2.2;have hmul:=bFz d1.1 (b:=(dM 1 99 l (aV 60 l mb tb).2.1 (aV 60 l mb tb).2.2).1) (by omega) (by omega) (by omega)
    exact go _ [] _ _ (bFy (by omega)) (fun e=>nk e) (by omega) (by omega)
     (aWr (by omega) ht (by omega) (by omega) (by decide) (by show _∧_;omega) (by omega) ⟨rfl,by omega⟩ (aR (by omega)) rfl (by simp) (uR _ _ _) rfl rfl)
   ·have d1:=jV 360001 l mb tb
    exact go _ [] _ _ (bTh (by omega)) (fun e=>nk e) (by omega) (by omega)
     (aWs (by omega) ht (by omega) (by omega) ⟨rfl,by omega⟩ (aR (by omega)) rfl (by simp) (uR _ _ _) rfl rfl)
   ·have d1:=oL 5 8 l mb tb
    obtain ⟨z',E9,Gg,L,p1,p2,p3,p4⟩:=bFw (l:=l) (nx:=nx) (st:=st) (k:=k) (most:=most) (i:=i) (R:=R) (j:=j) (r:=r) (mb:=mb) (tb:=tb) _ 0 [] (dM 5 8 l mb tb).2.1 (dM 5 8 l mb tb).2.2 rfl (by omega) (by omega) rfl (fun b hb=>by simp at hb) (by omega) (by omega)
    exact go 0 z' E9 Gg (bTi (by omega) p2) (fun e=>nk e) (by omega) (by omega)
     (aWt (by omega) ht (by omega) (by decide) L (by omega) ⟨rfl,by omega⟩ (aR (by omega)) rfl (by simp) (uR _ _ _))
   ·have d1:=oL 1 12 l mb tb
    obtain ⟨z',E9,Gg,L,p1,p2,p3,p4⟩:=bFx (l:=l) (nx:=nx) (st:=st) (k:=k) (most:=most) (i:=i) (R:=R) (j:=j) (r:=r) (mb:=mb) (tb:=tb) _ 0 [] (dM 1 12 l mb tb).2.1 (dM 1 12 l mb tb).2.2 rfl (by omega) (by omega) rfl (fun b hb=>by simp at hb) (by omega) (by omega)
    exact go 0 z' E9 Gg (bTj (by omega) p2) (fun e=>nk e) (by omega) (by omega)
     (aWu (by omega) ht (by omega) (by decide) L (by omega) ⟨rfl,by omega⟩ (aR (by omega)) rfl (by simp) (uR _ _ _))
structure bMk (k:Int) (i:Nat) (R:List (List Cel)):Prop where
 len:R.length=i
 ok:∀ x∈R,aBa k x
 ord:qG k R=0
 key:∀ c,R.getLast? = some c→∃ v z,c[0]? = some (v,z)∧v<3*(i:Int)
theorem aWn{r:List Cel}(h:bMk k i R)(hr:aWk k i (aJ k).length r):bMk k (i+1) (R++[r]):=by
 obtain ⟨h1,h2,h3,h4⟩:=h;have hp:=qL k;obtain ⟨e,e1,e2,e3⟩:=hr.key hp;have kb:=bIw k;refine ⟨by rw [Bv,h1];rfl,fun x hx => ?_,aKr R r h3 fun c hc => ?_,fun c hc => ?_⟩
 ·rcases nC.1 hx with hx | hx
  ·exact h2 x hx
  ·rw [List.mem_singleton] at hx;subst hx
   exact ⟨hr.len,hr.ck⟩
 ·obtain ⟨v,z,hv,hlt⟩:=h4 c hc
  have k1:aK k c 0=v:=by unfold aK;rw [if_pos (by omega),hv];rfl
  have k2:aK k r 0=3*(i:Int)+e:=by unfold aK;rw [if_pos (by omega),e3];rfl
  have:iV (aK k c 0) (aK k r 0) = -1:=by unfold iV;rw [if_pos (by omega)]
  unfold bS El;rw [this,if_pos (by decide)]
 ·rw [List.getLast?_concat] at hc
  cases hc;exact ⟨_,_,e3,by omega⟩
theorem bGb(N:Nat)(hN:(aV (most+1) l nx st).1=(N:Int))(Q2:N≤100000):∀ (m i:Nat) (R:List (List Cel)) (ma ta:Int),N-i=m→i≤N→bMk k i R→0≤ma→ma+80*m≤800000000 →
  ∃ R' Kl M7,aF Tp 1 (sub (cd Tryz.f25) bq) (pY l nx st k most i R.length ((R.map rwE).flatten) ma ta) (.exit 0) (pY l nx st k most N R'.length ((R'.map rwE).flatten) Kl M7)∧bMk k N R'∧ma≤Kl∧Kl≤ma+80*m
 | 0,i,R,ma,ta,hm,hi,hR,h0,h1=>by
  have:i=N:=by omega
  subst this;exact ⟨R,ma,ta,.exit (aWp (by omega)) (by simp),hR,by omega,by omega⟩
 | m+1,i,R,ma,ta,hm,hi,hR,h0,h1=>by
  have hcl:=kA k;have hRl:=hR.len;obtain ⟨r,mb,tb,L,q1,q2,q3⟩:=bGa (l:=l) (nx:=nx) (st:=st) (k:=k) (most:=most) (i:=i) (R:=R) (by omega) _ 0 [] ma ta rfl (by omega) ⟨rfl,fun q t c _ g=>by simp at g,fun g=>by omega⟩ h0 (by omega)
  obtain ⟨R',Kl,M7,L2,p1,p2,p3⟩:=bGb N hN Q2 m (i+1) (R++[r]) mb tb (by omega) (by omega) (aWn hR q1) (by omega) (by omega)
  exact ⟨R',Kl,M7,.step (aWo (by omega) L ⟨rfl,by omega⟩ (aR (by omega)) rfl (by simp) (bOt _ _)) L2,p1,by omega,by omega⟩
end
theorem bTk(l:List Int)(nx st k most:Int)(hk:within k 0 4=true)(hn:0≤nx∧nx≤1000000)(hm:0≤most∧most≤200):∃ R Km Aj,nM k R∧(R.length:Int)≤most∧nx≤Km∧Km≤nx+100000 ∧
  FMM Tp 25 [.ptr 0 0,.p (aB k),.p (aB most)] [some (qB l nx st)] (.p (.agg [aB k,bZ R])) [some (qB l Km Aj)]:=by
 have d:=jV (most+1) l nx st;obtain ⟨N,hN⟩:∃ N:Nat,(aV (most+1) l nx st).1=(N:Int):=⟨((aV (most+1) l nx st).1).toNat,by omega⟩
 obtain ⟨R,Km,Aj,L,h1,h2,h3⟩:=bGb (l:=l) (nx:=nx) (st:=st) (k:=k) (most:=most) N hN (by omega) _ 0 [] (aV (most+1) l nx st).2.1 (aV (most+1) l nx st).2.2 rfl (by omega) ⟨rfl,fun x h=>by simp at h,rfl,fun c h=>by simp at h⟩ (by omega) (by omega)
 have:=bTl (l:=l) (nx:=nx) (st:=st) (k:=k) (most:=most) (by show _∧_;omega) (by omega) L
 rw [fI] at this
 exact ⟨R,Km,Aj,⟨hk,by rw [h1.len];omega,h1.ok,h1.ord⟩,by rw [h1.len];omega,by omega,by omega,this⟩
end KV
end Go.Proofs
end
namespace Go.Proofs
namespace KV
open Tryz
section
open Go.RowKit
abbrev aGl(l:List Int)(nx st k most:Int)(R:List (List Cel))(m t:Int):Prop:=FMM Tp 25 [.ptr 0 0,.p (aB k),.p (aB most)] [some (qB l nx st)] (.p (.agg [aB k,bZ R])) [some (qB l m t)]
theorem aGm(k most:Int)(l:List Int)(nx st:Int){R:List (List Cel)}{m t:Int}(h:aGl l nx st k most R m t):FMM Tp 25 [.ptr 0 0,.p (aB k),.p (aB most)] [some (qB l nx st)] (.p (.agg [aB k,bZ R])) [some (qB l m t)]:=h
theorem bFv(l:List Int):FMM Tp 26 [.p (.sl l.length (l.map dW))] [] (.ptr 0 0) [some (qB l 0 17)]:=cCl
end
section
open Go.RowKit
theorem aOd{k:Int}{R:List (List Cel)}{T:List UInt8}(h:qE k R=(T,0)){base:Nat}:FV Tp 28 [.p (.agg [aB k,bZ R])] base (.tup [.p (aD T),.p (aB 0)]) []:=by
 have:=bHh k R (base:=base);rw [h] at this
 exact this
theorem bFu{v n r:Int}(hn:0<n∧n≤1000000)(h:aAp v n=r){base:Nat}:FV Tp 34 [.p (aB v),.p (aB n)] base (.p (aB r)) []:=by
 rw [← h];exact bGh v n hn
end
end KV
end Go.Proofs
section
namespace Go.Proofs
open Go.RowKit
namespace KV
open Tryz
end KV
end Go.Proofs
end
section
namespace Go.Proofs
open Go.RowKit
namespace KV
open Tryz
abbrev itV(it:Nat):Value := .pointer (some ⟨it,0,none⟩)
def iY(W:World)(it:Nat)(s:ByteArray)(pos:Nat):World:={ W with heap:=W.heap.setIfInBounds it (.stringIter s pos) }
theorem bBe{P:Program}{W:World}{it pos:Nat}{s:ByteArray}{ty:TypeId}(h:W.heap[it]? = some (.stringIter s pos))(hp:pos<s.size) :
  (Instr.next (itV it) true ty).run P W = .ok (.tuple #[.bool true,.int .i64 pos,.int .i32 (Utf8.decode s pos).1]) (iY W it s (pos+(Utf8.decode s pos).2)):=by
 simp only [Instr.next,getObj,setObj,Sem.run_bind,Sem.run,h,Result.andThen,hp,if_true];simp [goInt,Sem.run,h,iY]
theorem bBf{P:Program}{W:World}{it pos:Nat}{s:ByteArray}{ty:TypeId}(h:W.heap[it]? = some (.stringIter s pos))(hp:¬ pos<s.size) :
  (Instr.next (itV it) true ty).run P W = .ok (.tuple #[.bool false]) W:=by
 simp [Instr.next,getObj,Sem.run,h,hp]
theorem kD{W:World}{it pos c:Nat}{s:ByteArray}(h:c≠it):(iY W it s pos).heap[c]? = W.heap[c]? := by
 simp [iY,Array.getElem?_setIfInBounds,Ne.symm h]
theorem bJc{W:World}{it pos:Nat}{s:ByteArray}(h:it<W.heap.size):(iY W it s pos).heap[it]? = some (.stringIter s pos):=by
 simp [iY,h]
theorem tK{W:World}{it pos:Nat}{s:ByteArray}:(iY W it s pos).heap.size=W.heap.size:=by simp [iY]
structure aTa (C:Cx) (M:Mem) (w0 W:World) (it:Nat):Prop where
 nF:¬ C.F it
 nL:∀ (id:Nat) (o:AO),M[id]? = some (some o)→o.live=true→C.ι id≠some it
 lt:it<W.heap.size
 ge:w0.heap.size≤it
variable {P:Program} {C C0:Cx} {M M0:Mem} {w0 W:World}
theorem bZv{it pos:Nat}{s:ByteArray}(hM:aX P C M W)(hL:aTa C M w0 W it):aX P C M (iY W it s pos):=by
 have hFz:∀ c,C.F c→(iY W it s pos).heap[c]? = W.heap[c]? := fun c hc=>kD (fun e=>hL.nF (e ▸ hc))
 have hLe:Le C C M M W (iY W it s pos):=⟨fun _ o h=>⟨o,h⟩,fun _ _ _ _ _ cs h=>⟨cs,h⟩,fun _ o h o' h' hl=>by rw [h] at h';cases h';exact ⟨hl,rfl,rfl⟩,fun _ h=>h,hFz⟩
 refine ⟨fun i ty n cs hm => ?_,fun i ty cs hm => ?_,fun i es cl hm => ?_,hM.inj,hM.nF,fun c hc=>by rw [tK];exact hM.Fs c hc,fun i o c ho hl hb=>by rw [tK];exact hM.lt i o c ho hl hb,hM.lib.le hLe⟩
 ·rcases hM.row _ _ _ _ hm with h4 | ⟨c,arr,inf,q0,q1,q2,q3,q4,q5,q6,q7,q8⟩
  ·exact .inl h4
  ·exact .inr ⟨c,arr,inf,q0,(kD (fun (e:c=it)=>hL.nL _ _ hm rfl (by rw [← e];exact q0))).trans q1,q2,q3,q4,q5,q6,fun j hj=>(q7 j hj).mono hLe.F hLe.fz,q8⟩
 ·obtain ⟨c,arr,q0,q1,q2,q3,q4⟩:=hM.box _ _ _ hm
  exact ⟨c,arr,q0,(kD (fun (e:c=it)=>hL.nL _ _ hm rfl (by rw [← e];exact q0))).trans q1,q2,fun j hj=>(q3 j hj).mono hLe,q4⟩
 ·obtain ⟨c,arr,q0,q1,q2,q3⟩:=hM.mp _ _ _ hm
  refine ⟨c,arr,q0,(kD (fun (e:c=it)=>hL.nL _ _ hm rfl (by rw [← e];exact q0))).trans q1,q2,fun j hj => ?_⟩
  obtain ⟨en,r1,r2,r3,r4⟩:=q3 j hj;exact ⟨en,r1,r2,r3,r4.mono hLe.F hLe.fz⟩
theorem cDe{it pos:Nat}{s:ByteArray}(hL:aTa C M w0 W it):Le C C M M W (iY W it s pos) :=
 ⟨fun _ o h=>⟨o,h⟩,fun _ _ _ _ _ cs h=>⟨cs,h⟩,fun _ o h o' h' hl=>by rw [h] at h';cases h';exact ⟨hl,rfl,rfl⟩,fun _ h=>h,fun c hc=>kD (fun e=>hL.nF (e ▸ hc))⟩
theorem cDf{it pos:Nat}{s:ByteArray}(f:Fr C0 M0 w0 C M W)(hL:aTa C M w0 W it):Fr C0 M0 w0 C M (iY W it s pos):=by
 refine ⟨f.os,f.tape,f.out,by rw [tK];exact f.size,fun c hc hn=>(kD (fun e => ?_)).trans (f.keep c hc hn),f.ids,f.row,f.liv,f.new,f.F1,f.F2⟩
 have:=hL.ge;omega
inductive Runes (s:ByteArray):Nat→List (Nat × Nat)→Prop
 | nil {pos:Nat} (h:¬ pos<s.size):Runes s pos []
 | cons {pos:Nat} {c wd:Nat} {l:List (Nat × Nat)} (h:pos<s.size) (hd:Utf8.decode s pos=(c,wd)) (hr:Runes s (pos+wd) l):Runes s pos ((pos,c)::l)
abbrev nxR(id gi d c Er Eo:Nat)(p1 p2:String):Code := .region id #[{ dst:=some d,op := .next (.tmp gi) true,type:=Er,pos:=p1,after := #[],guard:=none },{ dst:=some c,op := .extract (.tmp d) 0,type:=Eo,pos:=p2,after := #[{ on:=0,ground:=Ground.data }],guard:=none }] false
def nxT(T:List AV)(d c pos r:Nat):List AV:=put (put T (some d) (.tup [.p (blP true),.p (aB (pos:Int)),.p (.v (.int .i32 (r:Int)))])) (some c) (.p (blP true))
theorem cDg{ro:Option Nat}{n id gi d c Er Eo pos:Nat}{p1 p2:String}{s:ByteArray}{Q:Exit→Act→World→Prop}{a:Act}{it:Nat}(hg:a.eval (.tmp gi)=itV it)(hW:W.heap[it]? = some (.stringIter s pos))(hp:pos<s.size){K:Act→World→Prop}
  (hd:d<a.tmps.size)
  (h:K ((a.put (some d) (.tuple #[.bool true,.int .i64 pos,.int .i32 (Utf8.decode s pos).1])).put (some c) (.bool true)) (iY W it s (pos+(Utf8.decode s pos).2))):(nxR id gi d c Er Eo p1 p2).wpIn (Fen ro) n Tp (Exit.then K Q) a W:=by
 refine wpIn_region_lit (wpListIn_plain rfl fun K' Ia => ?_)
 unfold Oper.wpIn;refine ⟨fun f hf => ?_,?_⟩
 ·simp [Oper.about] at hf
 rw [Oper.semAt_plain _ _ _ (by intro c Eg;cases Eg)]
 simp only [execOp,hg,Sem.run_bind,bBe hW hp,Result.andThen,Sem.run_pure];refine Ia _ _ (wpListIn_plain rfl fun K2 Jn => ?_)
 unfold Oper.wpIn;refine ⟨fun f hf => ?_,?_⟩
 ·simp [Oper.about] at hf
 rw [Oper.semAt_plain _ _ _ (by intro c Eg;cases Eg)]
 have he:(a.put (some d) (.tuple #[.bool true,.int .i64 pos,.int .i32 (Utf8.decode s pos).1])).eval (.tmp d) = .tuple #[.bool true,.int .i64 pos,.int .i32 (Utf8.decode s pos).1]:=by
  simp [Act.put,Act.eval,hd]
 simp only [execOp,he];simp [Instr.extract,Sem.run];exact Jn _ _ (wpListIn_nil h)
theorem bZw{ro:Option Nat}{n id gi d c Er Eo pos:Nat}{p1 p2:String}{s:ByteArray}{Q:Exit→Act→World→Prop}{a:Act}{it:Nat}(hg:a.eval (.tmp gi)=itV it)(hW:W.heap[it]? = some (.stringIter s pos))(hp:¬ pos<s.size){K:Act→World→Prop}
  (hd:d<a.tmps.size)
  (h:K ((a.put (some d) (.tuple #[.bool false])).put (some c) (.bool false)) W):(nxR id gi d c Er Eo p1 p2).wpIn (Fen ro) n Tp (Exit.then K Q) a W:=by
 refine wpIn_region_lit (wpListIn_plain rfl fun K' Ia => ?_)
 unfold Oper.wpIn;refine ⟨fun f hf => ?_,?_⟩
 ·simp [Oper.about] at hf
 rw [Oper.semAt_plain _ _ _ (by intro c Eg;cases Eg)]
 simp only [execOp,hg,Sem.run_bind,bBf hW hp,Result.andThen,Sem.run_pure];refine Ia _ _ (wpListIn_plain rfl fun K2 Jn => ?_)
 unfold Oper.wpIn;refine ⟨fun f hf => ?_,?_⟩
 ·simp [Oper.about] at hf
 rw [Oper.semAt_plain _ _ _ (by intro c Eg;cases Eg)]
 have he:(a.put (some d) (.tuple #[.bool false])).eval (.tmp d) = .tuple #[.bool false]:=by
  simp [Act.put,Act.eval,hd]
 simp only [execOp,he];simp [Instr.extract,Sem.run];exact Jn _ _ (wpListIn_nil h)
abbrev rgR(id i0 m gi Er Eo tx:Nat)(p1 p2:String):Code := .region id #[{ dst:=some m,op := .move (.tmp i0),type:=Er,pos:=p1,after := #[],guard:=none },{ dst:=some gi,op := .range tx (.tmp m),type:=Eo,pos:=p2,after := #[{ on:=0,ground:=Ground.data }],guard:=none }] false
theorem cDh{ro:Option Nat}{n id i0 m gi Er Eo:Nat}{p1 p2:String}{s:ByteArray}{Q:Exit→Act→World→Prop}{a:Act}(hi:a.eval (.tmp i0) = .string s){K:Act→World→Prop}(hm:m<a.tmps.size)
  (h:K ((a.put (some m) (.string s)).put (some gi) (itV W.heap.size)) (W.alloc (.stringIter s 0))):(rgR id i0 m gi Er Eo 9 p1 p2).wpIn (Fen ro) n Tp (Exit.then K Q) a W:=by
 refine wpIn_region_lit (wpListIn_plain rfl fun K' Ia => ?_)
 unfold Oper.wpIn;refine ⟨fun f hf => ?_,?_⟩
 ·simp [Oper.about] at hf
 rw [Oper.semAt_plain _ _ _ (by intro c Eg;cases Eg)]
 simp only [execOp,hi,Sem.run_pure];refine Ia _ _ (wpListIn_plain rfl fun K2 Jn => ?_)
 unfold Oper.wpIn;refine ⟨fun f hf => ?_,?_⟩
 ·simp [Oper.about] at hf
 rw [Oper.semAt_plain _ _ _ (by intro c Eg;cases Eg)]
 have he:(a.put (some m) (.string s)).eval (.tmp m) = .string s:=by
  simp [Act.put,Act.eval,hm]
 simp only [execOp,he];have hr:(Instr.range 9 (.string s)).run Tp W = .ok (itV W.heap.size) (W.alloc (.stringIter s 0)):=by
  exact run_range_string W 9 s Tryz.underlying9
 simp only [Sem.run_bind,hr,Result.andThen,Sem.run_pure];exact Jn _ _ (wpListIn_nil h)
theorem aTb{u v:Value}(h:Rep C M W (.p (.v u)) v):v=u:=by cases h with | p _ _ h=>cases h;rfl
theorem aLg{F:Fence}{n:Nat}{c:Code}{Q Q':Exit→Act→World→Prop}{a:Act}{w:World}(h:LoopIn F n P c Q a w)(hq:∀ e a w,Q e a w→Q' e a w):LoopIn F n P c Q' a w:=fun b k cs hro hb hr=>let ⟨e,a',w',q,r⟩:=h b k cs hro hb hr;⟨e,a',w',hq _ _ _ q,r⟩
abbrev aPz(C0:Cx)(M0:Mem)(w0:World)(st:St)(a:Act)(W:World)(it pos:Nat)(s:ByteArray):Prop:=Sim Tp (C0.with ((it,.stringIter s pos)::C0.R)) M0 w0 st a W
theorem aTc{st:St}{a:Act}{it pos:Nat}{s:ByteArray}(h:aPz C0 M0 w0 st a W it pos s):W.heap[it]? = some (.stringIter s pos):=by
 obtain ⟨C,_,_,_,_,hR,_⟩:=h;exact (hR (it,.stringIter s pos) (jT ..)).1
theorem bBg{st:St}{a a':Act}{T':List AV}{it pos F4:Nat}{s:ByteArray}(hR:∀ p∈C0.R,p.1≠it)(hpk:xT st.m)(h:aPz C0 M0 w0 st a W it pos s)(ha:a'.defers=a.defers)
  (hT:∀ C,cQ C st.m (iY W it s F4) st.t a.tmps→cQ C st.m (iY W it s F4) T' a'.tmps):aPz C0 M0 w0 ⟨T',st.m⟩ a' (iY W it s F4) it F4 s:=by
 obtain ⟨C,hS,hM,hF,⟨l,e1,e2,e3⟩,hRes,_⟩:=h;obtain ⟨q1,q2,q3,q4,q5⟩:=hRes (it,.stringIter s pos) (jT ..);have hlt:it<W.heap.size:=(mF.1 q1).1;have hL:aTa C st.m w0 W it:=⟨q4,q5,hlt,q2⟩;refine ⟨C,hT C (hS.le (cDe hL)),bZv hM hL,(cDf hF.unbased hL).based _,⟨l,by rw [ha];exact e1,e2,fun D hD => ?_⟩,fun p hp => ?_,.no hpk⟩
 ·obtain ⟨r1,r2,r3⟩:=e3 D hD
  refine ⟨(kD (fun e => ?_)).trans r1,r2,r3⟩
  subst e;have:=q1.symm.trans r1;cases this
 ·rcases jU.1 hp with rfl | hp
  ·exact ⟨bJc hlt,q2,by simp,q4,q5⟩
  ·obtain ⟨r1,r2,r3,r4,r5⟩:=hRes p (Cn _ hp)
   exact ⟨(kD (hR p hp)).trans r1,r2,r3,r4,r5⟩
theorem eV{a:Act}{d:Option Nat}{u:Value}:(a.put d u).defers=a.defers:=by unfold Act.put;split <;> rfl
theorem aBm{a:Act}{d:Option Nat}{u:Value}:(a.put d u).tmps.size=a.tmps.size:=by unfold Act.put;split <;> simp
theorem bJd{a:Act}{d:Nat}(h:d<a.tmps.size):(a.put (some d) (a.tmps.getD d undef)).tmps=a.tmps:=by
 simp only [Act.put];apply Array.ext_getElem?;intro i
 by_cases e:d=i
 ·subst e
  simp [h,Array.getD]
 ·simp [e]
theorem aHl{a:Act}{d:Nat}{u:Value}(h:d<a.tmps.size):(a.put (some d) u).eval (.tmp d)=u:=by simp [Act.put,Act.eval,h]
theorem bOv{β:Type}{k id gi d c Er Eo e0 it:Nat}{p1 p2:String}{body LB:Code}{s:ByteArray}(S:β→PV→St)(f:β→Nat × Nat→β)(b0:β)(L:List (Nat × Nat))
  (hLB:LB = .seq (nxR id gi d c Er Eo p1 p2) (.seq (.cond (.tmp c) .skip (.exit e0)) body)) (hnrf:nrf body=true)
  (hg:∀ b g,(S b g).t[gi]? = some (.p g)) (hd:∀ b g,d<(S b g).t.length) (hc:∀ b g,c<(S b g).t.length) (hT:∀ b g,put (put (S b g).t (some d) .any) (some c) .any=(S b g).t) (hpk:∀ b g,xT (S b g).m)
  (hb:∀ pre x g,pre++[x] <+: L→aA Tp k body ⟨nxT (S (pre.foldl f b0) g).t d c x.1 x.2,(S (pre.foldl f b0) g).m⟩ .normal (S (f (pre.foldl f b0) x) g))
  (hR:∀ p∈C0.R,p.1≠it) (hk:M0.length≤k) {ro:Option Nat} {n:Nat}:∀ (l:List (Nat × Nat)) (pos:Nat) (pre:List (Nat × Nat)) (a:Act) (W:World),Runes s pos l→pre++l=L→aPz C0 M0 w0 (S (pre.foldl f b0) (.v (itV it))) a W it pos s →
   LoopIn (Fen ro) n Tp LB (fun e' a' w'=>e' = .exit e0∧∃ F4,aPz C0 M0 w0 (S (L.foldl f b0) (.v (itV it))) a' w' it F4 s) a W:=by
 intro l
 induction l with
 | nil =>
  intro pos pre a W hr hp hs;have hn:¬ pos<s.size:=by cases hr;assumption
  rw [List.append_nil] at hp
  subst hp;subst hLB;have hat:=aTc hs;obtain ⟨C,hS,hM,hF,hD⟩:=hs;have hsz:a.tmps.size=(S (pre.foldl f b0) (.v (itV it))).t.length:=hS.size;have hgi:a.eval (.tmp gi)=itV it:=aTb (hS.at (hg (pre.foldl f b0) (.v (itV it))))
  refine LoopIn.step (wpIn_seq (bZw hgi hat hn (by rw [hsz];exact hd _ _) (wpIn_seq (wpIn_cond_false (aHl (by rw [aBm,hsz];exact hc _ _)) (wpIn_exit ?_)))))
  refine ⟨rfl,pos,C,?_,hM,hF,by rw [eV,eV];exact hD⟩
  have:=cQ.put (d:=some c) (cQ.put (d:=some d) (v := .tuple #[.bool false]) hS (.any _)) (v := .bool false) (.any _);rw [hT] at this
  exact this
 | cons x l ih =>
  intro pos pre a W hr hp hs;subst hLB;have hat:=aTc hs;have Hv:=hs;obtain ⟨C,hS,hM,hF,hD⟩:=Hv;have hsz:a.tmps.size=(S (pre.foldl f b0) (.v (itV it))).t.length:=hS.size;have hgi:a.eval (.tmp gi)=itV it:=aTb (hS.at (hg (pre.foldl f b0) (.v (itV it))))
  cases hr with
  | cons hlt hdc Dt =>
  rename_i r wd;refine LoopIn.step (wpIn_seq (cDg hgi hat hlt (by rw [hsz];exact hd _ _) (wpIn_seq (wpIn_cond_true (aHl (by rw [aBm,hsz];exact hc _ _)) (wpIn_skip ?_)))))
  rw [hdc];have Df:aPz C0 M0 w0 ⟨nxT (S (pre.foldl f b0) (.v (itV it))).t d c pos r,(S (pre.foldl f b0) (.v (itV it))).m⟩ ((a.put (some d) (.tuple #[.bool true,.int .i64 pos,.int .i32 (r:Int)])).put (some c) (.bool true)) (iY W it s (pos+wd)) it (pos+wd) s:=by
   refine bBg hR (hpk _ _) hs (by rw [eV,eV]) fun C' Mj => ?_
   refine cQ.put (cQ.put Mj (.tup _ _ rfl fun i hi => ?_)) (.p _ _ (.v _))
   match i,hi with
   | 0,_=>exact .p _ _ (.v _)
   | 1,_=>exact .p _ _ (.v _)
   | 2,_=>exact .p _ _ (.v _)
  refine wpIn_mono (hb pre (pos,r) (.v (itV it)) ⟨l,by rw [← hp];simp⟩ _ _ _ _ _ hk Df ro (.inr hnrf) n) ?_
  rintro e' a' w' ⟨rfl,Fo⟩;exact ih (pos+wd) (pre++[(pos,r)]) a' w' Dt (by rw [← hp];simp) (by rw [List.foldl_append];exact Fo)
theorem bJe{β:Type}{k i0 m O3 id gi d c Er Eo Jk O4 e0:Nat}{p1 p2 p3 p4:String}{body cc:Code}(s:List UInt8)(S:β→St)(G:β→PV→St)(f:β→Nat × Nat→β)(b0:β)(L:List (Nat × Nat))(hLr:Runes ⟨s.toArray⟩ 0 L)
  (hcc:cc = .seq (rgR O3 i0 m gi Jk O4 9 p3 p4) (.block e0 (.loop (.seq (nxR id gi d c Er Eo p1 p2) (.seq (.cond (.tmp c) .skip (.exit e0)) body))))) (hnrf:nrf body=true)
  (My:(S b0).t[i0]? = some (.p (aD s))) (hm:m<(S b0).t.length) (Rt:∀ g,put (put (S b0).t (some m) .any) (some gi) (.p g)=(G b0 g).t) (hGm:∀ b g,(G b g).m=(S b).m) (hGe:∀ b g,put (G b g).t (some gi) .any=(S b).t)
  (hg:∀ b g,(G b g).t[gi]? = some (.p g)) (hgs:∀ b g,gi<(G b g).t.length) (hd:∀ b g,d<(G b g).t.length) (hc:∀ b g,c<(G b g).t.length) (hT:∀ b g,put (put (G b g).t (some d) .any) (some c) .any=(G b g).t) (hpk:∀ b,xT (S b).m)
  (hb:∀ pre x g,pre++[x] <+: L→aA Tp k body ⟨nxT (G (pre.foldl f b0) g).t d c x.1 x.2,(G (pre.foldl f b0) g).m⟩ .normal (G (f (pre.foldl f b0) x) g)) :
  aA Tp k cc (S b0) .normal (S (L.foldl f b0)):=by
 intro C0 M0 w0 a w hk hs ro hro n;subst hcc;obtain ⟨C,hS,hM,hF,⟨l,e1,e2,e3⟩,hRes,hP⟩:=hs;have hsz:a.tmps.size=(S b0).t.length:=hS.size;have hst:a.eval (.tmp i0) = .string ⟨s.toArray⟩:=aTb (hS.at My)
 obtain ⟨W,hW⟩:∃ W,W=w.alloc (.stringIter ⟨s.toArray⟩ 0):=⟨_,rfl⟩;have hWs:W.heap.size=w.heap.size+1:=by rw [hW];simp [World.alloc,-World.alloc_eq]
 have hWo:∀ b,b<w.heap.size→W.heap[b]? = w.heap[b]? := fun b hb=>by rw [hW];simp [World.alloc,-World.alloc_eq,Array.getElem?_push];omega
 have hWa:W.heap[w.heap.size]? = some (.stringIter ⟨s.toArray⟩ 0):=by rw [hW];simp [World.alloc,-World.alloc_eq]
 obtain ⟨f1,m1⟩:=pJ (C:=C) (kb:=some w.heap.size) (w':=W) hM (by rw [hW];rfl) (by rw [hW];rfl) (by rw [hW];rfl) (by omega) hWo
 have hnl:∀ (i:Nat) (o:AO),(S b0).m[i]? = some (some o)→o.live=true→C.ι i≠some w.heap.size:=fun i o ho hl he=>absurd (hM.lt i o _ ho hl he) (Nat.lt_irrefl _)
 have hRne:∀ p∈C0.R,p.1≠w.heap.size:=fun p hp e=>by
  have:=(hRes p hp).1;rw [e,Array.getElem?_eq_none (dD _)] at this
  cases this
 refine wpIn_seq (cDh hst (by rw [hsz];exact hm) ?_)
 rw [← hW];have Db:aPz C0 M0 w0 (G b0 (.v (itV w.heap.size))) ((a.put (some m) (.string ⟨s.toArray⟩)).put (some gi) (itV w.heap.size)) W w.heap.size 0 ⟨s.toArray⟩:=by
  have hSl:cQ (C.after w W (some w.heap.size)) (S b0).m W (G b0 (.v (itV w.heap.size))).t ((a.put (some m) (.string ⟨s.toArray⟩)).put (some gi) (itV w.heap.size)).tmps:=by
   rw [← Rt];exact cQ.put (cQ.put (hS.le (hM.le f1)) (.any _)) (.p _ _ (.v _))
  refine ⟨C.after w W (some w.heap.size),by rw [hGm];exact hSl,by rw [hGm];exact m1,by rw [hGm];exact (hF.trans f1).based _,?_⟩
  rw [eV,eV,hGm];obtain ⟨h1,h2,h3⟩:=kT.fr (C0:=C0) ⟨⟨l,e1,e2,e3⟩,hRes,hP⟩ hM .refl f1;refine ⟨h1,fun p hp => ?_,.no (hpk _)⟩
  rcases jU.1 hp with rfl | hp
  ·refine ⟨hWa,hF.size,by simp,fun hf => ?_,hnl⟩
   rcases hf with hf | ⟨_,hf⟩
   ·exact absurd (hM.Fs _ hf) (Nat.lt_irrefl _)
   ·simp at hf
  ·exact h2 p hp
 refine wpIn_block (LoopIn.wp (aLg (bOv G f b0 L rfl hnrf hg hd hc hT (fun b g=>by rw [hGm];exact hpk b) hb hRne hk L 0 [] _ W hLr rfl Db) ?_))
 rintro e' a' w' ⟨rfl,F4,Df⟩;simp only [Exit.inBlock,if_true];refine ⟨rfl,?_⟩;obtain ⟨C2,Jc,Ga,Ev,Co,Dm,_⟩:=Df;rw [hGm] at Jc Ga Ev Dm
 refine ⟨C2,?_,Ga,Ev.unbased,Co,fun p hp=>Dm p (Cn _ hp),.no (hpk _)⟩
 have:=cQ.put (d:=some gi) (v:=a'.tmps.getD gi undef) Jc (.any _);rw [hGe,bJd (by rw [Jc.size];exact hgs _ _)] at this
 exact this
end KV
end Go.Proofs
end
section
namespace Go.Proofs
open Go.RowKit
namespace KV
open Tryz
def aBl(cs:List UInt8)(r:Nat):Bool:=decide (0≤Lib.indexByte cs r.toUInt8)
theorem bZt(cs:List UInt8)(r:Nat)(h:r<128){base:Nat}:FV Tp 216 [.p (aD cs),.p (.v (.int .i32 (r:Int)))] base (.p (blP (aBl cs r))) []:=FV.ofc rfl fun C w us hus hM=>by
 obtain rfl:=Gm rfl rfl hus;refine (Tryz.strings_ContainsRune_ascii ⟨cs.toArray⟩ (r:Int) w (by omega) (by omega)).mono ?_
 rintro e w' ⟨rfl,rfl⟩;exact ⟨_,rfl,Below.refl _ _,.p _ _ (.v _)⟩
abbrev xoR(id i j k Er Eo Jk:Nat)(p1 p2 p3:String)(q:Array Edge):Code := .region id #[{ dst:=some j,op := .move (.tmp i),type:=Er,pos:=p1,after := #[],guard:=none },{ dst:=some k,op := .unOp .xor 3 (.tmp j),type:=Eo,pos:=p2,after := #[{ on:=0,ground:=Ground.data }],guard:=none },{ dst:=some i,op := .assign (.tmp k),type:=Jk,pos:=p3,after:=q,guard:=none }] false
theorem bZu{kk id i j k Er Eo Jk:Nat}{p1 p2 p3:String}{q:Array Edge}{cc:Code}{st Aj:St}{v:Int}(hcc:cc=xoR id i j k Er Eo Jk p1 p2 p3 q)(hi:st.t[i]? = some (.p (aB v)))(hj:j<st.t.length)(hk:k<st.t.length)(hv:0≤v∧v<9223372036854775808)
  (hp:put (put (put st.t (some j) .any) (some k) .any) (some i) (.p (aB (-1-v)))=Aj.t) (hm:Aj.m=st.m):aA Tp kk cc st .normal Aj:=by
 intro C0 M0 w0 a w hk0 hs ro hro n;subst hcc;obtain ⟨C,hS,hM,hF,hD⟩:=hs;have hsz:a.tmps.size=st.t.length:=hS.size;have Rr:a.eval (.tmp i) = .int .i64 v:=aTb (hS.at hi)
 refine wpIn_region_lit (wpListIn_plain rfl fun K' Ia => ?_)
 unfold Oper.wpIn;refine ⟨fun f hf => ?_,?_⟩
 ·simp [Oper.about] at hf
 rw [Oper.semAt_plain _ _ _ (by intro c Eg;cases Eg)]
 simp only [execOp,Rr,Sem.run_pure];refine Ia _ _ (wpListIn_plain rfl fun K2 Jn => ?_)
 unfold Oper.wpIn;refine ⟨fun f hf => ?_,?_⟩
 ·simp [Oper.about] at hf
 rw [Oper.semAt_plain _ _ _ (by intro c Eg;cases Eg)]
 have he:(a.put (some j) (.int .i64 v)).eval (.tmp j) = .int .i64 v:=aHl (by rw [hsz];exact hj)
 have hb:bits .xor .i64 (-1) v = -1-v:=by
  have:=i64_not v.toNat (by omega)
  rw [show ((v.toNat:Nat):Int)=v from by omega] at this
  exact this
 have hx:(Op.unary .xor (.int .i64 v)).run Tp w = .ok (.int .i64 (-1-v)) w:=by
  rw [unary_xor,← hb];rfl
 simp only [execOp,he,Sem.run_bind,hx,Result.andThen,Sem.run_pure];refine Jn _ _ (wpListIn_plain rfl fun K3 Ky => ?_)
 unfold Oper.wpIn;refine ⟨fun f hf => ?_,?_⟩
 ·simp [Oper.about] at hf
 rw [Oper.semAt_plain _ _ _ (by intro c Eg;cases Eg)]
 have Rs:((a.put (some j) (.int .i64 v)).put (some k) (.int .i64 (-1-v))).eval (.tmp k) = .int .i64 (-1-v):=aHl (by rw [aBm,hsz];exact hk)
 simp only [execOp,Rs,Sem.run_pure];refine Ky _ _ (wpListIn_nil ⟨rfl,C,?_,by rw [hm];exact hM,by rw [hm];exact hF,by rw [eV,eV,eV,hm];exact hD⟩)
 rw [hm,← hp];exact cQ.put (cQ.put (cQ.put hS (.any _)) (.any _)) (.p _ _ (.v _))
def gH:Nat→List UInt8→List (Nat × Nat)
 | _,[]=>[]
 | i,b::r=>(i,b.toNat)::gH (i+1) r
theorem aEv(s:List UInt8)(h:∀ b∈s,b.toNat<128):∀ (l:List UInt8) (i:Nat),s.drop i=l→Runes ⟨s.toArray⟩ i (gH i l)
 | [],i,hl => .nil (by
  have:=congrArg List.length hl;simp [ByteArray.size] at this ⊢;omega)
 | b::r,i,hl=>by
  have h0:i<s.length:=by
   have:=congrArg List.length hl;simp at this;omega
  have hb:s[i]=b:=by
   have:=congrArg (·[0]?) hl
   simpa [h0] using this
  have hsz:i<(⟨s.toArray⟩:ByteArray).size:=by simpa [ByteArray.size] using h0
  have hg:(⟨s.toArray⟩:ByteArray)[i]'hsz=b:=hb;refine .cons hsz ((decode_ascii ⟨s.toArray⟩ i hsz (by rw [hg,← hb];exact h _ (iC h0))).trans (by rw [hg])) (aEv s h r (i+1) ?_)
  rw [← List.tail_drop,hl];rfl
end KV
end Go.Proofs
end
section
namespace Go.Proofs
open Go.RowKit Go.Maps
namespace KV
open Tryz
set_option maxRecDepth 1000000
abbrev k3V(a b c:Int):Value := .agg #[.int .i64 a,.int .i64 b,.int .i64 c]
theorem Jt:Tryz.prog.underlying 186=some (.array 3 3):=by kernel_rfl
theorem u3:Tryz.prog.underlying 3=some (.int .i64):=by kernel_rfl
theorem Iv:Tryz.prog.keyType 186=true:=by kernel_rfl
theorem Oa:Tryz.prog.cellsOf 186=3:=by kernel_rfl
theorem c3:Tryz.prog.cellsOf 3=1:=by kernel_rfl
theorem laid:laidOutB Tp=true:=by kernel_rfl
theorem tsz:Nat.ble (Tryz.prog.types.size+2) 10000=true:=by kernel_rfl
theorem La:Nat.ble 187 Tryz.prog.types.size=true:=by kernel_rfl
theorem Ed:Keyed Tp 186:=Keyed.of_law (deep_law_gate laid (Nat.le_of_ble_eq_true tsz) (Nat.le_of_ble_eq_true La) Iv (by rw [Jt]))
theorem Ob(a b c:Int):(k3V a b c).formed Tp 186=true:=by kernel_rfl
theorem Lb{d:Nat}{a:Int}(ha:(Lit.int .i64 a).wf=true):Tryz.prog.keyLits (d+1) 3 [.int .i64 a]=some [.int .i64 a]:=by
 rw [Program.keyLits]
 rotate_left
 ·exact .i64
 ·exact u3
 simp [ha]
theorem Ie{d:Nat}{a b c:Int}(ha:(Lit.int .i64 a).wf=true)(hb:(Lit.int .i64 b).wf=true)(hc:(Lit.int .i64 c).wf=true):Tryz.prog.keyLits (d+2) 186 [.int .i64 a,.int .i64 b,.int .i64 c]=some [.int .i64 a,.int .i64 b,.int .i64 c]:=by
 have h:∀ x∈[a,b,c],Tryz.prog.keyLits (d+1) 3 [.int .i64 x]=some [.int .i64 x]:=fun x hx=>by
  simp at hx
  rcases hx with rfl | rfl | rfl <;> exact Lb (by assumption)
 have h0:=h a (by simp)
 have h1:=h b (by simp)
 have h2:=h c (by simp)
 rw [Program.keyLits]
 rotate_left
 ·exact 3
 ·exact 3
 ·exact Jt
 simp [Oa,c3,List.range_succ,h0,h1,h2]
theorem cBl{a b c:Int}(ha:(Lit.int .i64 a).wf=true)(hb:(Lit.int .i64 b).wf=true)(hc:(Lit.int .i64 c).wf=true):∃ l,keyOf Tp 186 (k3V a b c)=some l:=by
 obtain ⟨d,hd⟩:∃ d,Tryz.prog.types.size+1=d+2:=⟨Tryz.prog.types.size-1,by have:=Nat.le_of_ble_eq_true La;omega⟩
 unfold keyOf;rw [Jt];simp only [Iv,Ob,Bool.and_self,if_true,hd];have:(k3V a b c).cells.toList=[.int .i64 a,.int .i64 b,.int .i64 c]:=rfl;rw [this,Ie ha hb hc];exact ⟨_,rfl⟩
theorem Js{a:Int}(h : -1000000000≤a∧a≤1000000000):(Lit.int .i64 a).wf=true:=by
 have e1:IntKind.i64.min = -9223372036854775808:=rfl;have e2:IntKind.i64.max=9223372036854775807:=rfl;simp only [Lit.wf,e1,e2,B4,decide_eq_true_eq];omega
end KV
end Go.Proofs
end
namespace Go.Proofs
namespace KV
open Tryz
section
variable {k:Int}{i base:Nat}

noncomputable abbrev bKj:Code:=sub (cd Tryz.f149) [1,1,0,1,0,0]
theorem cBg{r:List Cel}(h0:(r.length:Int)=0):FMM Tp 150 [(.p (.sl r.length ((r.map cE).flatten)))] [] (.p bK) []:=FMM.fi 0 gE func150 [bT] (gc (dC h0) gn)
theorem cBh{r:List Cel}(h0:(r.length:Int)≠0)(h1:0≤(r.length:Int)∧(r.length:Int)≤(r.length:Int)∧(r.length:Int)≤1000000)(h2:((r.map cE).flatten).length=r.length*2∧r.length=r.length):FMM Tp 150 [(.p (.sl r.length ((r.map cE).flatten)))] [] (.p (.sl r.length ((r.map cE).flatten))) []:=FMM.fi 0 ⟨[],[],[0],[]⟩ func150 [bF] (gc h2 (gc h1 (gc (bJ h0) gn)))
theorem cBi{r t:List Cel}(h0:(0:Int)<(r.length:Int)):FV Tp 106 [(.p (.agg [(.sl r.length ((r.map cE).flatten)),(.sl t.length ((t.map cE).flatten))]))] base (.p (.sl r.length ((r.map cE).flatten))) []:=FV.fi func106 [bT] (g0 h0)
theorem cBj{r t:List Cel}(h0:(r.length:Int)≤0):FV Tp 106 [(.p (.agg [(.sl r.length ((r.map cE).flatten)),(.sl t.length ((t.map cE).flatten))]))] base (.p (.sl t.length ((t.map cE).flatten))) []:=FV.fi func106 [bF] (gc (bH h0) gn)
abbrev iW(k:Int)(r:List Cel):Value:=k3V (aK k r 0) (aK k r 1) (aK k r 2)
def bO(k:Int)(L:List (List Cel)):List (Value × PV):=L.map fun r=>(iW k r,aN r)
def rB(k:Int)(R:List (List Cel))(i:Nat)(me:List (Value × PV))(mk:Nat):St:=⟨fr 22 [(1,(.ptr 0 0)),(2,(.p (.v (.map none)))),(3,(.mp 1)),(8,(.p (.sl R.length (R.map aN)))),(9,(pI (R.length:Int))),(10,(pI (i:Int)))],[some (.box 26 [(pI k),(.p (.sl R.length (R.map aN)))]),some (.mp me mk)]⟩
theorem cBk{R:List (List Cel)}{Ap:Nat}{Ct:List (List Cel)}(hl0:aF Tp 0 bKj (rB k R 0 [] 0) (.exit 0) (rB k R Ap ((bO k) Ct) Ct.length)):FMM Tp 149 [(.p (.agg [(aB k),(.sl R.length (R.map aN))]))] [] (.mp 0) [some (.mp ((bO k) Ct) Ct.length)]:=FMM.fi 0 ⟨[],[1],[],[]⟩ func149 [hl0.k 8 (gI [0,1,4,4,11,10] [0,1])] (gc hl0.code gn)
theorem bCt{R m:List (List Cel)}{Ab:List Cel}{i':Nat}{m':List (List Cel)}(h0:(i:Int)<(R.length:Int))(h1:R[i]? = some Ab)(h2:aM k≤(Ab.length:Int))(h3:eO Tp 186 ((bO k) m) (k3V (aK k Ab 0) (aK k Ab 1) (aK k Ab 2)))(h4:(iB ((bO k) m) (k3V (aK k Ab 0) (aK k Ab 1) (aK k Ab 2)))=false)(h5:cp i)(Ai:i'=(i+1))(E2:(bO k) m'=(((bO k) m)++[((k3V (aK k Ab 0) (aK k Ab 1) (aK k Ab 2)),(.sl Ab.length ((Ab.map cE).flatten)))]))(E3:m'.length=(m.length+1)):aA Tp 0 bKj (rB k R i ((bO k) m) m.length) .normal (rB k R i' ((bO k) m') m'.length):=by
 subst Ai;have k1:=fk 2 (eJ k Ab h2) rfl;rw [E2,E3];exact aA.fi (gI [0,1,4,4,11,10] [0,1]) [bT,.x (.sl Ab.length ((Ab.map cE).flatten)),k1.o,bF] (gc h5 (gc h4 (gc h3 (gc k1 (gc (atm aN h1) (gc (ixn aN h1) (g0 h0)))))))
theorem bCu{R m:List (List Cel)}(h0:(R.length:Int)≤(i:Int)):aA Tp 0 bKj (rB k R i ((bO k) m) m.length) (.exit 0) (rB k R i ((bO k) m) m.length):=aA.fi (gI [0,1,4,4,11,10] [0,1]) [bF] (gc (bH h0) gn)
end
end KV
end Go.Proofs
section
namespace Go.Proofs
open Go.RowKit Go.Maps
namespace KV
open Tryz
set_option maxRecDepth 1000000
theorem FMM.wkp{P:Program}{f:Nat}{args:List AV}{M M':Mem}{x:PV}(h:FMM P f args M (.p x) M'):FMM P f args M (.p (wkP x)) M':=fun C w us hus hM n=>by
 refine (h C w us hus hM n).mono ?_;rintro e w' ⟨u,rfl,C',hF,Ej,hr⟩;exact ⟨u,rfl,C',hF,Ej,aHh hr⟩
theorem cT.wk{C:Cx}{M:Mem}{w:World}:∀ {args:List AV} {us:List Value},cT C M w args us→cT C M w (args.map Kz) us
 | [],_,h=>by cases h;exact .nil
 | x::l,_,h=>by
  cases h with
  | cons _ _ u us h1 h2=>exact .cons _ _ _ _ (aHh h1) h2.wk
theorem FV.argwk{P:Program}{f base:Nat}{args Am:List AV}{y:AV}{L:Upd}(h:FV P f Am base y L)(e:args.map Kz=Am):FV P f args base y L:=by
 obtain ⟨r,M1,h1,h2⟩:=h;refine ⟨r,M1,fun C w us hus hM n => ?_,h2⟩
 subst e;exact h1 C w us hus.wk hM n
theorem aF.count{P:Program}{k:Nat}{b:Code}{e:Ex}{R:St}(N:Nat)(S:Nat→St)(hs:∀ i,i<N→aA P k b (S i) .normal (S (i+1)))(hx:aA P k b (S N) e R)(he:e ≠ .normal):aF P k b (S 0) e R:=by
 have key:∀ d i,i+d=N→aF P k b (S i) e R:=by
  intro d
  induction d with
  | zero =>
   intro i hi;obtain rfl:i=N:=by omega
   exact .exit hx he
  | succ d ih=>intro i hi;exact .step (hs i (by omega)) (ih (i+1) (by omega))
 exact key N 0 (by omega)

theorem rA(r:List Cel)(h:r.length≤1000000){base:Nat}:FV Tp 150 [.p (aN r)] base (.p (aN r)) []:=by
 refine FV.frz ?_ rfl
 by_cases h0:r.length=0
 ·have:r=[]:=uO h0
  subst this;exact FMM.wkp (cBg (r:=[]) (by simp))
 ·exact cBh (by omega) (by omega) ⟨bUk r,rfl⟩
def Av(k:Int)(r:List Cel):List Int:=[aK k r 0,aK k r 1,aK k r 2]
def kQ(k:Int)(r:List Cel):Prop:=∀ x∈Av k r,-1000000000≤x∧x≤1000000000
instance (k:Int) (r:List Cel):Decidable (kQ k r):=by unfold kQ;infer_instance
theorem lA{k:Int}{r:List Cel}(h:kQ k r):∃ l,keyOf Tp 186 (iW k r)=some l :=
 cBl (Js (h _ (by simp [Av]))) (Js (h _ (by simp [Av]))) (Js (h _ (by simp [Av])))
theorem aHs{k:Int}{r t:List Cel}(h:Av k r=Av k t):iW k r=iW k t:=by
 unfold Av at h
 simp only [List.cons.injEq,and_true] at h
 unfold iW;rw [h.1,h.2.1,h.2.2]
theorem vG{k:Int}{L:List (List Cel)}{r:List Cel}(hL:∀ x∈L,kQ k x)(hr:kQ k r)(hn:(L.map (Av k)).Nodup):eO Tp 186 (bO k L) (iW k r):=by
 refine ⟨Ed,fun e he => ?_,lA hr,fun e he h => ?_,?_⟩
 ·obtain ⟨x,hx,rfl⟩:=rX.1 he
  exact lA (hL x hx)
 ·obtain ⟨x,hx,rfl⟩:=rX.1 he
  exact aHs h
 ·unfold bO
  rw [aAk];exact hn
theorem nT(k:Int)(L:List (List Cel))(r:List Cel):iB (bO k L) (iW k r)=L.any fun x=>decide (Av k x=Av k r):=by
 unfold iB bO;rw [List.any_map];rfl
def kR(k:Int)(L:List (List Cel))(r:List Cel):Option (List Cel):=L.find? fun x=>decide (Av k x=Av k r)
theorem rR(k:Int)(L:List (List Cel))(r:List Cel):gV (bO k L) (iW k r)=(kR k L r).map aN:=by
 unfold gV bO kR;rw [List.find?_map];have e:((fun e:Value × PV=>decide (kG e.1=kG (iW k r))) ∘ fun r=>(iW k r,aN r))=fun x=>decide (Av k x=Av k r):=rfl
 rw [e];cases List.find? (fun x=>decide (Av k x=Av k r)) L <;> rfl
theorem nU{k:Int}{L:List (List Cel)}{r:List Cel}:(L.any fun x=>decide (Av k x=Av k r))=(kR k L r).isSome:=by
 unfold kR;rw [Bool.eq_iff_iff,List.find?_isSome,List.any_eq_true]
theorem aFa(k:Int)(L:List (List Cel))(r:List Cel):bO k (L++[r])=bO k L++[(iW k r,aN r)]:=by
 unfold bO;rw [rW];rfl
structure fZ (k:Int) (R:List (List Cel)):Prop where
 n:R.length≤1000
 len:∀ x∈R,aM k≤(x.length:Int)∧x.length≤1000
 ky:∀ x∈R,kQ k x
 nd:(R.map (Av k)).Nodup
theorem aQi{k:Int}{R:List (List Cel)}(h:fZ k R):FMM Tp 149 [.p (.agg [aB k,bZ R])] [] (.mp 0) [some (.mp (bO k R) R.length)]:=by
 have hn:=h.n;have L:=aF.count (P:=Tp) (k:=0) (b:=(sub (cd Tryz.f149) bw)) (e := .exit 0) (R:=rB k R R.length (bO k R) R.length) R.length (fun i=>rB k R i (bO k (R.take i)) (R.take i).length)
  (fun i hi=>by
   have hx:R[i]? = some R[i]:=Bw hi;have et:R.take (i+1)=R.take i++[R[i]]:=by rw [List.take_add_one,hx];rfl
   have hm:=iC hi;have hnt:((R.take i).map (Av k)).Nodup:=by rw [List.map_take];exact h.nd.sublist (List.take_sublist i _)
   have hno:((R.take i).any fun x=>decide (Av k x=Av k R[i]))=false:=by
    rw [List.any_eq_false];intro y hy hd;obtain ⟨j,hj,e⟩:=List.mem_iff_getElem.1 hy;rw [pF] at hj
    rw [List.getElem_take] at e
    have hd:=of_decide_eq_true hd;rw [← e] at hd
    have:=List.pairwise_iff_getElem.1 h.nd j i (by rw [kI];omega) (by rw [kI];omega) (by omega)
    rw [gL,gL] at this
    exact this hd
   exact bCt (m:=R.take i) (m':=R.take (i+1)) (by omega) hx (h.len _ hm).1 (vG (fun x hx=>h.ky x (List.mem_of_mem_take hx)) (h.ky _ hm) hnt) (by rw [nT];exact hno) (aR (by omega)) rfl (by rw [et];exact aFa k (R.take i) R[i]) (by simp;omega))
  (by rw [List.take_length];exact bCu (by omega)) (by simp)
 exact cBk L
end KV
end Go.Proofs
end
namespace Go.Proofs
namespace KV
open Tryz
section
variable {j k j' r0 Fc:Int}{i i' Ap:Nat}

noncomputable abbrev xM:Code:=sub (cd Tryz.f242) [1,0,0,1,0,0,1,0,0]
noncomputable abbrev aEz:Code:=sub (cd Tryz.f242) [1,0,0]
noncomputable abbrev aTp:Code:=sub (cd Tryz.f266) [1,0,0,1,0,0,1,0,0]
theorem bJt:inR (1:Int):=by unfold inR;omega
section
variable{r t:List Cel}(h0:aM k≤(r.length:Int))(h1:aM k≤(t.length:Int))(Al:r0=(bS k r t))
include h0 h1 Al
theorem cDo{R:List (List Cel)}:FMM Tp 151 [(.p (.sl r.length ((r.map cE).flatten))),(.p (.sl t.length ((t.map cE).flatten))),(.ptr 0 0)] [some (.box 26 [(pI k),(.p (.sl R.length (R.map aN)))])] (pI r0) [some (.box 26 [(pI k),(.p (.sl R.length (R.map aN)))])]:=by
 subst Al;have k1:=fk 1 (mH k r t h0 h1) rfl;exact FMM.fi 1 gE func151 [k1.o] (gc k1 gn)
theorem cDp:FMM Tp 168 [(.p (.sl r.length ((r.map cE).flatten))),(.p (.sl t.length ((t.map cE).flatten))),(.ptr 0 0)] [some (.box 23 [(pI k)])] (pI r0) [some (.box 23 [(pI k)])]:=by
 subst Al;have k1:=fk 1 (mH k r t h0 h1) rfl;exact FMM.fi 1 gE func168 [k1.o] (gc k1 gn)
end
theorem bSc(r t:List Cel)(k:Int)(R:List (List Cel))(h1:aM k≤(r.length:Int))(h2:aM k≤(t.length:Int)):FMM Tp 151 [.p (.sl r.length ((r.map cE).flatten)),.p (.sl t.length ((t.map cE).flatten)),.ptr 0 0] [some (.box 26 [(pI k),(.p (.sl R.length (R.map aN)))])] (pI (bS k r t)) [some (.box 26 [(pI k),(.p (.sl R.length (R.map aN)))])]:=cDo h1 h2 rfl
theorem bSd(r t:List Cel)(k:Int)(h1:aM k≤(r.length:Int))(h2:aM k≤(t.length:Int)):FMM Tp 168 [.p (.sl r.length ((r.map cE).flatten)),.p (.sl t.length ((t.map cE).flatten)),.ptr 0 0] [some (.box 23 [(pI k)])] (pI (bS k r t)) [some (.box 23 [(pI k)])]:=cDp h1 h2 rfl
abbrev Chg:=List Cel × List Cel
def chE(c:Chg):List PV:=[aN c.1,aN c.2]
def crM(c:Chg):List Cel:=if 0<c.1.length then c.1 else c.2
theorem mQ(r t:List Cel){base:Nat}:FV Tp 106 [.p (.agg [.sl r.length ((r.map cE).flatten),.sl t.length ((t.map cE).flatten)])] base (.p (.sl (crM (r,t)).length (((crM (r,t)).map cE).flatten))) []:=by
 unfold crM
 by_cases h:0<r.length
 ·rw [if_pos h];exact cBi (by omega)
 ·rw [if_neg h];exact cBj (by omega)
theorem cDq{b a d c:List Cel}(h0:aM k≤((crM (b,a)).length:Int))(h1:aM k≤((crM (d,c)).length:Int))(Al:r0=(bS k (crM (b,a)) (crM (d,c)))):FMM Tp 185 [(.p (.agg [(.sl b.length ((b.map cE).flatten)),(.sl a.length ((a.map cE).flatten))])),(.p (.agg [(.sl d.length ((d.map cE).flatten)),(.sl c.length ((c.map cE).flatten))])),(.ptr 0 0)] [some (.box 23 [(pI k)])] (pI r0) [some (.box 23 [(pI k)])]:=by
 subst Al;have k1:=fk 3 (mQ b a) rfl;have k2:=fk 11 (mQ d c) rfl;have k3:=fk 19 (mH k (crM (b,a)) (crM (d,c)) h0 h1) rfl;exact FMM.fi 1 gE func185 [k1.o,k2.o,k3.o] (gc k3 (gc k2 (gc k1 gn)))
theorem bSe(x y:Chg)(k:Int)(h1:aM k≤((crM x).length:Int))(h2:aM k≤((crM y).length:Int)):FMM Tp 185 [.p (.agg [aN x.1,aN x.2]),.p (.agg [aN y.1,aN y.2]),.ptr 0 0] [some (.box 23 [(pI k)])] (pI (bS k (crM x) (crM y))) [some (.box 23 [(pI k)])]:=cDq h1 h2 rfl
def xN(D:List (List Cel))(k:Int)(R:List (List Cel))(i En:Nat)(Ec:List PV):St:=⟨fr 53 [(0,(.own 0)),(1,(pI 0)),(2,(pI (D.length:Int))),(3,(.fn 151 [] [(.ptr 1 0)])),(8,(pI (i:Int)))],[some (.row 78 En Ec),some (.box 26 [(pI k),(.p (.sl R.length (R.map aN)))])]⟩
theorem cDr{D R E'1:List (List Cel)}(hl0:aF Tp 2 aEz (xN D k R 1 D.length ((D.map rwE).flatten)) (.exit 0) (xN D k R Ap E'1.length ((E'1.map rwE).flatten))):FMM Tp 242 [(.own 0),(pI 0),(pI (D.length:Int)),(.fn 151 [] [(.ptr 1 0)])] [some (.row 78 D.length ((D.map rwE).flatten)),some (.box 26 [(pI k),(.p (.sl R.length (R.map aN)))])] (.tup []) [some (.row 78 E'1.length ((E'1.map rwE).flatten)),some (.box 26 [(pI k),(.p (.sl R.length (R.map aN)))])]:=FMM.fi 2 gE func242 [hl0.k 3 (gZ cg)] (gc hl0.code (gc bJt gn))
def sI(D:List (List Cel))(k:Int)(R:List (List Cel))(i:Nat)(j:Int)(Gn:Nat)(Gc:List PV):St:=⟨fr 53 [(0,(.own 0)),(1,(pI 0)),(2,(pI (D.length:Int))),(3,(.fn 151 [] [(.ptr 1 0)])),(8,(pI (i:Int))),(9,(pI j)),(12,(pI (i:Int))),(13,(pI (D.length:Int))),(14,(pB (decide ((i:Int)<(D.length:Int))))),(17,(pI (i:Int)))],[some (.row 78 Gn Gc),some (.box 26 [(pI k),(.p (.sl R.length (R.map aN)))])]⟩
theorem bJu{D R E G'101 E':List (List Cel)}(h0:(i:Int)<(D.length:Int))(An:aF Tp 2 xM (sI D k R i (i:Int) E.length ((E.map rwE).flatten)) (.exit 2) (sI D k R i Fc G'101.length ((G'101.map rwE).flatten)))(h2:cp i)(Ai:i'=(i+1))(Ee:E'.length=G'101.length)(Ef:(E'.map rwE).flatten=((G'101.map rwE).flatten)):aA Tp 2 aEz (xN D k R i E.length ((E.map rwE).flatten)) .normal (xN D k R i' E'.length ((E'.map rwE).flatten)):=by
 subst Ai;rw [Ee,Ef];exact aA.fi (gZ cg) [bT,An.k 5 (gZ bp)] (gc h2 (gc An.code (g0 h0)))
theorem bJv{D R E:List (List Cel)}(h0:(D.length:Int)≤(i:Int)):aA Tp 2 aEz (xN D k R i E.length ((E.map rwE).flatten)) (.exit 0) (xN D k R i E.length ((E.map rwE).flatten)):=aA.fi (gZ cg) [bF] (gc (bH h0) gn)
section
variable{G:List (List Cel)}{A1 Aw:List Cel}(h0:(0:Int)<j)(h1:0≤j∧j<(G.length:Int))(h2:G[j.toNat]? = some (A1))(h3:inR (j-1))(h4:0≤(j-1)∧(j-1)<(G.length:Int))(h5:G[(j-1).toNat]? = some (Aw))(Hq:aM k≤(A1.length:Int))(Hr:aM k≤(Aw.length:Int))
include h0 h1 h2 h3 h4 h5 Hq Hr
theorem bJw{D R G':List (List Cel)}(h8:(bS k A1 Aw)<0)(h9:(j.toNat*1)<((G.map rwE).flatten).length)(A9:((j-1).toNat*1)<(((G.map rwE).flatten).set (j.toNat*1) (.sl Aw.length ((Aw.map cE).flatten))).length)(Bz:j'=(j-1))(Hs:G'.length=G.length)(Ht:(G'.map rwE).flatten=((((G.map rwE).flatten).set (j.toNat*1) (.sl Aw.length ((Aw.map cE).flatten))).set ((j-1).toNat*1) (.sl A1.length ((A1.map cE).flatten)))):aA Tp 2 xM (sI D k R i j G.length ((G.map rwE).flatten)) .normal (sI D k R i j' G'.length ((G'.map rwE).flatten)):=by
 subst Bz;have k1:=mq [1] 2 (bSc A1 Aw k R Hq Hr);rw [Hs,Ht];exact aA.fi (gZ bp) (rT 5++[.x (.sl A1.length ((A1.map cE).flatten))]++rT 5++[.x (.sl Aw.length ((Aw.map cE).flatten)),bT,k1.o,bT,bT,bT,.x (.sl Aw.length ((Aw.map cE).flatten)),.x (.sl A1.length ((A1.map cE).flatten))]) (gc h3 (gc A9 (gc h4 (gc h9 (gc h1 (gt (((G.map rwE).flatten)[(j.toNat*1)]? = some (.sl A1.length ((A1.map cE).flatten))) (aL (E:=rwE) (i:=j.toNat) (f:=0) (k:=1) (fun _=>rfl) h2 rfl) (gc h1 (gt (((G.map rwE).flatten)[((j-1).toNat*1)]? = some (.sl Aw.length ((Aw.map cE).flatten))) (aL (E:=rwE) (i:=(j-1).toNat) (f:=0) (k:=1) (fun _=>rfl) h5 rfl) (gc h4 (A4 h3 (gc (cN h8) (A4 (cN h0) (gc k1 (gc (cN h0) (gt (((G.map rwE).flatten)[((j-1).toNat*1)]? = some (.sl Aw.length ((Aw.map cE).flatten))) (aL (E:=rwE) (i:=(j-1).toNat) (f:=0) (k:=1) (fun _=>rfl) h5 rfl) (gc (cN h0) (gc h4 (gc (cN h0) (gc h3 (A2 (cN h0) (gt (((G.map rwE).flatten)[(j.toNat*1)]? = some (.sl A1.length ((A1.map cE).flatten))) (aL (E:=rwE) (i:=j.toNat) (f:=0) (k:=1) (fun _=>rfl) h2 rfl) (gc (cN h0) (gc h1 (A2 (cN h0) (g0 h0)))))))))))))))))))))))))
theorem bJx{D R:List (List Cel)}(h8:(0:Int)≤(bS k A1 Aw)):aA Tp 2 xM (sI D k R i j G.length ((G.map rwE).flatten)) (.exit 2) (sI D k R i j G.length ((G.map rwE).flatten)):=have k1:=mq [1] 2 (bSc A1 Aw k R Hq Hr);aA.fi (gZ bp) (rT 5++[.x (.sl A1.length ((A1.map cE).flatten))]++rT 5++[.x (.sl Aw.length ((Aw.map cE).flatten)),bT,k1.o,bT,bT,bF]) (gc (bH h8) (A4 (cN h0) (gc k1 (gc (cN h0) (gt (((G.map rwE).flatten)[((j-1).toNat*1)]? = some (.sl Aw.length ((Aw.map cE).flatten))) (aL (E:=rwE) (i:=(j-1).toNat) (f:=0) (k:=1) (fun _=>rfl) h5 rfl) (gc (cN h0) (gc h4 (gc (cN h0) (gc h3 (A2 (cN h0) (gt (((G.map rwE).flatten)[(j.toNat*1)]? = some (.sl A1.length ((A1.map cE).flatten))) (aL (E:=rwE) (i:=j.toNat) (f:=0) (k:=1) (fun _=>rfl) h2 rfl) (gc (cN h0) (gc h1 (A2 (cN h0) (g0 h0)))))))))))))))
end
theorem bJy{D R G:List (List Cel)}(h0:j≤0):aA Tp 2 xM (sI D k R i j G.length ((G.map rwE).flatten)) (.exit 2) (sI D k R i j G.length ((G.map rwE).flatten)):=aA.fi (gZ bp) (rF 13) (I2 (bH h0) (Cg (bH h0) gn))
def xO(D:List (List Cel))(k:Int)(i En:Nat)(Ec:List PV):St:=⟨fr 53 [(0,(.own 0)),(1,(pI 0)),(2,(pI (D.length:Int))),(3,(.fn 168 [] [(.ptr 1 0)])),(8,(pI (i:Int)))],[some (.row 78 En Ec),some (.box 23 [(pI k)])]⟩
theorem cDs{D E'1:List (List Cel)}(hl0:aF Tp 2 aEz (xO D k 1 D.length ((D.map rwE).flatten)) (.exit 0) (xO D k Ap E'1.length ((E'1.map rwE).flatten))):FMM Tp 242 [(.own 0),(pI 0),(pI (D.length:Int)),(.fn 168 [] [(.ptr 1 0)])] [some (.row 78 D.length ((D.map rwE).flatten)),some (.box 23 [(pI k)])] (.tup []) [some (.row 78 E'1.length ((E'1.map rwE).flatten)),some (.box 23 [(pI k)])]:=FMM.fi 2 gE func242 [hl0.k 3 (gZ cg)] (gc hl0.code (gc bJt gn))
def sJ(D:List (List Cel))(k:Int)(i:Nat)(j:Int)(Gn:Nat)(Gc:List PV):St:=⟨fr 53 [(0,(.own 0)),(1,(pI 0)),(2,(pI (D.length:Int))),(3,(.fn 168 [] [(.ptr 1 0)])),(8,(pI (i:Int))),(9,(pI j)),(12,(pI (i:Int))),(13,(pI (D.length:Int))),(14,(pB (decide ((i:Int)<(D.length:Int))))),(17,(pI (i:Int)))],[some (.row 78 Gn Gc),some (.box 23 [(pI k)])]⟩
theorem bJz{D E G'101 E':List (List Cel)}(h0:(i:Int)<(D.length:Int))(An:aF Tp 2 xM (sJ D k i (i:Int) E.length ((E.map rwE).flatten)) (.exit 2) (sJ D k i Fc G'101.length ((G'101.map rwE).flatten)))(h2:cp i)(Ai:i'=(i+1))(Ee:E'.length=G'101.length)(Ef:(E'.map rwE).flatten=((G'101.map rwE).flatten)):aA Tp 2 aEz (xO D k i E.length ((E.map rwE).flatten)) .normal (xO D k i' E'.length ((E'.map rwE).flatten)):=by
 subst Ai;rw [Ee,Ef];exact aA.fi (gZ cg) [bT,An.k 5 (gZ bp)] (gc h2 (gc An.code (g0 h0)))
theorem bKa{D E:List (List Cel)}(h0:(D.length:Int)≤(i:Int)):aA Tp 2 aEz (xO D k i E.length ((E.map rwE).flatten)) (.exit 0) (xO D k i E.length ((E.map rwE).flatten)):=aA.fi (gZ cg) [bF] (gc (bH h0) gn)
section
variable{G:List (List Cel)}{A1 Aw:List Cel}(h0:(0:Int)<j)(h1:0≤j∧j<(G.length:Int))(h2:G[j.toNat]? = some (A1))(h3:inR (j-1))(h4:0≤(j-1)∧(j-1)<(G.length:Int))(h5:G[(j-1).toNat]? = some (Aw))(Hq:aM k≤(A1.length:Int))(Hr:aM k≤(Aw.length:Int))
include h0 h1 h2 h3 h4 h5 Hq Hr
theorem bKb{D G':List (List Cel)}(h8:(bS k A1 Aw)<0)(h9:(j.toNat*1)<((G.map rwE).flatten).length)(A9:((j-1).toNat*1)<(((G.map rwE).flatten).set (j.toNat*1) (.sl Aw.length ((Aw.map cE).flatten))).length)(Bz:j'=(j-1))(Hs:G'.length=G.length)(Ht:(G'.map rwE).flatten=((((G.map rwE).flatten).set (j.toNat*1) (.sl Aw.length ((Aw.map cE).flatten))).set ((j-1).toNat*1) (.sl A1.length ((A1.map cE).flatten)))):aA Tp 2 xM (sJ D k i j G.length ((G.map rwE).flatten)) .normal (sJ D k i j' G'.length ((G'.map rwE).flatten)):=by
 subst Bz;have k1:=mq [1] 2 (bSd A1 Aw k Hq Hr);rw [Hs,Ht];exact aA.fi (gZ bp) (rT 5++[.x (.sl A1.length ((A1.map cE).flatten))]++rT 5++[.x (.sl Aw.length ((Aw.map cE).flatten)),bT,k1.o,bT,bT,bT,.x (.sl Aw.length ((Aw.map cE).flatten)),.x (.sl A1.length ((A1.map cE).flatten))]) (gc h3 (gc A9 (gc h4 (gc h9 (gc h1 (gt (((G.map rwE).flatten)[(j.toNat*1)]? = some (.sl A1.length ((A1.map cE).flatten))) (aL (E:=rwE) (i:=j.toNat) (f:=0) (k:=1) (fun _=>rfl) h2 rfl) (gc h1 (gt (((G.map rwE).flatten)[((j-1).toNat*1)]? = some (.sl Aw.length ((Aw.map cE).flatten))) (aL (E:=rwE) (i:=(j-1).toNat) (f:=0) (k:=1) (fun _=>rfl) h5 rfl) (gc h4 (A4 h3 (gc (cN h8) (A4 (cN h0) (gc k1 (gc (cN h0) (gt (((G.map rwE).flatten)[((j-1).toNat*1)]? = some (.sl Aw.length ((Aw.map cE).flatten))) (aL (E:=rwE) (i:=(j-1).toNat) (f:=0) (k:=1) (fun _=>rfl) h5 rfl) (gc (cN h0) (gc h4 (gc (cN h0) (gc h3 (A2 (cN h0) (gt (((G.map rwE).flatten)[(j.toNat*1)]? = some (.sl A1.length ((A1.map cE).flatten))) (aL (E:=rwE) (i:=j.toNat) (f:=0) (k:=1) (fun _=>rfl) h2 rfl) (gc (cN h0) (gc h1 (A2 (cN h0) (g0 h0)))))))))))))))))))))))))
theorem bKc{D:List (List Cel)}(h8:(0:Int)≤(bS k A1 Aw)):aA Tp 2 xM (sJ D k i j G.length ((G.map rwE).flatten)) (.exit 2) (sJ D k i j G.length ((G.map rwE).flatten)):=have k1:=mq [1] 2 (bSd A1 Aw k Hq Hr);aA.fi (gZ bp) (rT 5++[.x (.sl A1.length ((A1.map cE).flatten))]++rT 5++[.x (.sl Aw.length ((Aw.map cE).flatten)),bT,k1.o,bT,bT,bF]) (gc (bH h8) (A4 (cN h0) (gc k1 (gc (cN h0) (gt (((G.map rwE).flatten)[((j-1).toNat*1)]? = some (.sl Aw.length ((Aw.map cE).flatten))) (aL (E:=rwE) (i:=(j-1).toNat) (f:=0) (k:=1) (fun _=>rfl) h5 rfl) (gc (cN h0) (gc h4 (gc (cN h0) (gc h3 (A2 (cN h0) (gt (((G.map rwE).flatten)[(j.toNat*1)]? = some (.sl A1.length ((A1.map cE).flatten))) (aL (E:=rwE) (i:=j.toNat) (f:=0) (k:=1) (fun _=>rfl) h2 rfl) (gc (cN h0) (gc h1 (A2 (cN h0) (g0 h0)))))))))))))))
end
theorem bKd{D G:List (List Cel)}(h0:j≤0):aA Tp 2 xM (sJ D k i j G.length ((G.map rwE).flatten)) (.exit 2) (sJ D k i j G.length ((G.map rwE).flatten)):=aA.fi (gZ bp) (rF 13) (I2 (bH h0) (Cg (bH h0) gn))
def xP(D:List (List Cel × List Cel))(k:Int)(i En:Nat)(Ec:List PV):St:=⟨fr 53 [(0,(.own 0)),(1,(pI 0)),(2,(pI (D.length:Int))),(3,(.fn 185 [] [(.ptr 1 0)])),(8,(pI (i:Int)))],[some (.row 112 En Ec),some (.box 23 [(pI k)])]⟩
theorem cDt{D E'1:List (List Cel × List Cel)}(hl0:aF Tp 2 (sub (cd Tryz.f266) [1,0,0]) (xP D k 1 D.length ((D.map chE).flatten)) (.exit 0) (xP D k Ap E'1.length ((E'1.map chE).flatten))):FMM Tp 266 [(.own 0),(pI 0),(pI (D.length:Int)),(.fn 185 [] [(.ptr 1 0)])] [some (.row 112 D.length ((D.map chE).flatten)),some (.box 23 [(pI k)])] (.tup []) [some (.row 112 E'1.length ((E'1.map chE).flatten)),some (.box 23 [(pI k)])]:=FMM.fi 2 gE func266 [hl0.k 3 (gZ cg)] (gc hl0.code (gc bJt gn))
def sK(D:List (List Cel × List Cel))(k:Int)(i:Nat)(j:Int)(Gn:Nat)(Gc:List PV):St:=⟨fr 53 [(0,(.own 0)),(1,(pI 0)),(2,(pI (D.length:Int))),(3,(.fn 185 [] [(.ptr 1 0)])),(8,(pI (i:Int))),(9,(pI j)),(12,(pI (i:Int))),(13,(pI (D.length:Int))),(14,(pB (decide ((i:Int)<(D.length:Int))))),(17,(pI (i:Int)))],[some (.row 112 Gn Gc),some (.box 23 [(pI k)])]⟩
theorem bKe{D E G'101 E':List (List Cel × List Cel)}(h0:(i:Int)<(D.length:Int))(An:aF Tp 2 aTp (sK D k i (i:Int) E.length ((E.map chE).flatten)) (.exit 2) (sK D k i Fc G'101.length ((G'101.map chE).flatten)))(h2:cp i)(Ai:i'=(i+1))(Ee:E'.length=G'101.length)(Ef:(E'.map chE).flatten=((G'101.map chE).flatten)):aA Tp 2 (sub (cd Tryz.f266) [1,0,0]) (xP D k i E.length ((E.map chE).flatten)) .normal (xP D k i' E'.length ((E'.map chE).flatten)):=by
 subst Ai;rw [Ee,Ef];exact aA.fi (gZ cg) [bT,An.k 5 (gZ bp)] (gc h2 (gc An.code (g0 h0)))
theorem bKf{D E:List (List Cel × List Cel)}(h0:(D.length:Int)≤(i:Int)):aA Tp 2 (sub (cd Tryz.f266) [1,0,0]) (xP D k i E.length ((E.map chE).flatten)) (.exit 0) (xP D k i E.length ((E.map chE).flatten)):=aA.fi (gZ cg) [bF] (gc (bH h0) gn)
section
variable{G:List (List Cel × List Cel)}{Az A0 Bd Be:List Cel}(h0:(0:Int)<j)(h1:0≤j∧j<(G.length:Int))(h2:G[j.toNat]? = some (Az,A0))(h3:inR (j-1))(h4:0≤(j-1)∧(j-1)<(G.length:Int))(h5:G[(j-1).toNat]? = some (Bd,Be))(Hq:aM k≤((crM (Az,A0)).length:Int))(Hr:aM k≤((crM (Bd,Be)).length:Int))
include h0 h1 h2 h3 h4 h5 Hq Hr
theorem bKg{D G':List (List Cel × List Cel)}(h8:(bS k (crM (Az,A0)) (crM (Bd,Be)))<0)(h9:[(PV.sl Bd.length ((Bd.map cE).flatten)),(.sl Be.length ((Be.map cE).flatten))].length=2∧(j.toNat*2)+2≤((G.map chE).flatten).length)(A9:[(PV.sl Az.length ((Az.map cE).flatten)),(.sl A0.length ((A0.map cE).flatten))].length=2∧((j-1).toNat*2)+2≤(((G.map chE).flatten).take (j.toNat*2)++[(PV.sl Bd.length ((Bd.map cE).flatten)),(.sl Be.length ((Be.map cE).flatten))]++((G.map chE).flatten).drop ((j.toNat*2)+2)).length)(Bz:j'=(j-1))(Hs:G'.length=G.length)(Ht:(G'.map chE).flatten=((((G.map chE).flatten).take (j.toNat*2)++[(PV.sl Bd.length ((Bd.map cE).flatten)),(.sl Be.length ((Be.map cE).flatten))]++((G.map chE).flatten).drop ((j.toNat*2)+2)).take ((j-1).toNat*2)++[(PV.sl Az.length ((Az.map cE).flatten)),(.sl A0.length ((A0.map cE).flatten))]++(((G.map chE).flatten).take (j.toNat*2)++[(PV.sl Bd.length ((Bd.map cE).flatten)),(.sl Be.length ((Be.map cE).flatten))]++((G.map chE).flatten).drop ((j.toNat*2)+2)).drop (((j-1).toNat*2)+2))):aA Tp 2 aTp (sK D k i j G.length ((G.map chE).flatten)) .normal (sK D k i j' G'.length ((G'.map chE).flatten)):=by
 subst Bz;have k1:=mq [1] 2 (bSe (Az,A0) (Bd,Be) k Hq Hr);rw [Hs,Ht];exact aA.fi (gZ bp) (rT 5++[.x (.agg [(.sl Az.length ((Az.map cE).flatten)),(.sl A0.length ((A0.map cE).flatten))])]++rT 5++[.x (.agg [(.sl Bd.length ((Bd.map cE).flatten)),(.sl Be.length ((Be.map cE).flatten))]),bT,k1.o,bT,bT,bT,.x (.agg [(.sl Bd.length ((Bd.map cE).flatten)),(.sl Be.length ((Be.map cE).flatten))]),.x (.agg [(.sl Az.length ((Az.map cE).flatten)),(.sl A0.length ((A0.map cE).flatten))])]) (gc h3 (gc A9 (gc h4 (gc h9 (gc h1 (gc (bG (E:=chE) (i:=j.toNat) (k:=2) (fun _=>rfl) h2 rfl) (gc (cC (E:=chE) (i:=j.toNat) (k:=2) (fun _=>rfl) h2) (gc h1 (gc (bG (E:=chE) (i:=(j-1).toNat) (k:=2) (fun _=>rfl) h5 rfl) (gc (cC (E:=chE) (i:=(j-1).toNat) (k:=2) (fun _=>rfl) h5) (gc h4 (A4 h3 (gc (cN h8) (A4 (cN h0) (gc k1 (gc (cN h0) (gc (bG (E:=chE) (i:=(j-1).toNat) (k:=2) (fun _=>rfl) h5 rfl) (gc (cC (E:=chE) (i:=(j-1).toNat) (k:=2) (fun _=>rfl) h5) (gc (cN h0) (gc h4 (gc (cN h0) (gc h3 (A2 (cN h0) (gc (bG (E:=chE) (i:=j.toNat) (k:=2) (fun _=>rfl) h2 rfl) (gc (cC (E:=chE) (i:=j.toNat) (k:=2) (fun _=>rfl) h2) (gc (cN h0) (gc h1 (A2 (cN h0) (g0 h0)))))))))))))))))))))))))))))
theorem bKh{D:List (List Cel × List Cel)}(h8:(0:Int)≤(bS k (crM (Az,A0)) (crM (Bd,Be)))):aA Tp 2 aTp (sK D k i j G.length ((G.map chE).flatten)) (.exit 2) (sK D k i j G.length ((G.map chE).flatten)):=have k1:=mq [1] 2 (bSe (Az,A0) (Bd,Be) k Hq Hr);aA.fi (gZ bp) (rT 5++[.x (.agg [(.sl Az.length ((Az.map cE).flatten)),(.sl A0.length ((A0.map cE).flatten))])]++rT 5++[.x (.agg [(.sl Bd.length ((Bd.map cE).flatten)),(.sl Be.length ((Be.map cE).flatten))]),bT,k1.o,bT,bT,bF]) (gc (bH h8) (A4 (cN h0) (gc k1 (gc (cN h0) (gc (bG (E:=chE) (i:=(j-1).toNat) (k:=2) (fun _=>rfl) h5 rfl) (gc (cC (E:=chE) (i:=(j-1).toNat) (k:=2) (fun _=>rfl) h5) (gc (cN h0) (gc h4 (gc (cN h0) (gc h3 (A2 (cN h0) (gc (bG (E:=chE) (i:=j.toNat) (k:=2) (fun _=>rfl) h2 rfl) (gc (cC (E:=chE) (i:=j.toNat) (k:=2) (fun _=>rfl) h2) (gc (cN h0) (gc h1 (A2 (cN h0) (g0 h0)))))))))))))))))
end
theorem bKi{D G:List (List Cel × List Cel)}(h0:j≤0):aA Tp 2 aTp (sK D k i j G.length ((G.map chE).flatten)) (.exit 2) (sK D k i j G.length ((G.map chE).flatten)):=aA.fi (gZ bp) (rF 13) (I2 (bH h0) (Cg (bH h0) gn))
end
section

def gP{α:Type}(c:α→α→Int):Nat→List α→List α
 | 0,D=>D
 | j+1,D=>match D[j+1]?,D[j]? with
  | some x,some y=>if c x y<0 then gP c j ((D.set (j+1) y).set j x) else D
  | _,_=>D
def aBs{α:Type}(c:α→α→Int):Nat→Nat→List α→List α
 | 0,_,D=>D
 | n+1,i,D=>aBs c n (i+1) (gP c i D)
def isG{α:Type}(c:α→α→Int)(D:List α):List α:=aBs c (D.length-1) 1 D
theorem rP{α:Type}(c:α→α→Int):∀ (j:Nat) (D:List α),(gP c j D).length=D.length
 | 0,D=>rfl
 | j+1,D=>by
  unfold gP
  split
  ·split
   ·rw [rP c j];simp
   ·rfl
  ·rfl
theorem rQ{α:Type}(c:α→α→Int){z:α}:∀ (j:Nat) (D:List α),z∈gP c j D→z∈D
 | 0,D,h=>h
 | j+1,D,h=>by
  unfold gP at h
  split at h
  ·rename_i x y hx hy
   split at h
   ·have h1:=rQ c j _ h
    rcases List.mem_or_eq_of_mem_set h1 with h2 | rfl
    ·rcases List.mem_or_eq_of_mem_set h2 with h3 | rfl
     ·exact h3
     ·exact B0 hy
    ·exact B0 hx
   ·exact h
  ·exact h
theorem bPt{α:Type}{E:α→List PV}{k:Nat}(hE:∀ a,(E a).length=k){l:List α}{i:Nat}(hi:i<l.length)(e:α):((l.set i e).map E).flatten=((l.map E).flatten).take (i*k)++E e++((l.map E).flatten).drop (i*k+k):=by
 have h1:l.set i e=l.take i++e::l.drop (i+1):=by rw [List.set_eq_take_append_cons_drop,if_pos hi]
 have h2:l=l.take i++l[i]::l.drop (i+1):=by rw [← bMc hi,aVt]
 have hlen:((l.take i).map E).flatten.length=i*k:=by rw [rM hE,pF];congr 1;omega
 have h3:(l.map E).flatten=((l.take i).map E).flatten++(E l[i]++((l.drop (i+1)).map E).flatten):=by
  have e2:=congrArg (fun l=>(l.map E).flatten) h2
  simp only [rW,gS,bMd,vW] at e2
  exact e2
 rw [h1,h3,← hlen,List.take_left,rW,gS,bMd,vW];have hd:(((l.take i).map E).flatten++(E l[i]++((l.drop (i+1)).map E).flatten)).drop (((l.take i).map E).flatten.length+k)=((l.drop (i+1)).map E).flatten:=by
  rw [← hE l[i],← Bv,← List.append_assoc,List.drop_left]
 rw [hd,List.append_assoc]
def iF(k:Int)(x y:Chg):Int:=bS k (crM x) (crM y)
theorem bRz{D:List (List Cel)}{k:Int}{R:List (List Cel)}{i:Nat}:∀ (j:Nat) (G:List (List Cel)),j<G.length→G.length≤12→(∀ x∈G,aM k≤(x.length:Int))→∃ j',aF Tp 2 (sub (cd Tryz.f242) bj) (sI D k R i (j:Int) G.length ((G.map rwE).flatten)) (.exit 2) (sI D k R i j' (gP (bS k) j G).length (((gP (bS k) j G).map rwE).flatten))
 | 0,G,hj,hg,hk=>⟨_,.exit (bJy (by omega)) (by simp)⟩
 | j+1,G,hj,hg,hk=>by
  have hx:G[j+1]? = some G[j+1]:=Bw hj;have hy:G[j]? = some (G[j]'(by omega)):=Bw (by omega)
  have kx:=hk _ (iC hj);have ky:=hk _ (iC (show j<G.length by omega))
  have z1:(0:Int)<((j+1:Nat):Int):=by omega
  have z2:0≤((j+1:Nat):Int)∧((j+1:Nat):Int)<(G.length:Int):=by omega
  have z3:inR (((j+1:Nat):Int)-(1:Int)):=by unfold inR;omega
  have z4:0≤(((j+1:Nat):Int)-(1:Int))∧(((j+1:Nat):Int)-(1:Int))<(G.length:Int):=by omega
  have e1:((j+1:Nat):Int).toNat=j+1:=by omega
  have e2:(((j+1:Nat):Int)-(1:Int)).toNat=j:=by omega
  have e3:(((j+1:Nat):Int)-(1:Int))=(j:Int):=by omega
  generalize G[j+1]=x at hx kx
  generalize G[j]'(by omega)=y at hy ky
  unfold gP;rw [hx,hy];dsimp only
  by_cases hc:bS k x y<0
  ·rw [if_pos hc]
   obtain ⟨j',L⟩:=bRz (D:=D) (k:=k) (R:=R) (i:=i) j ((G.set (j+1) y).set j x) (by simp;omega) (by simp;omega) (fun z hz=>by
    rcases List.mem_or_eq_of_mem_set hz with h2 | rfl
    ·rcases List.mem_or_eq_of_mem_set h2 with h3 | rfl
     ·exact hk z h3
     ·exact ky
    ·exact kx)
   refine ⟨j',.step (bJw z1 z2 (by rw [e1];exact hx) z3 z4 (by rw [e2];exact hy) kx ky hc (by rw [e1,fI];simp;omega) (by rw [e1,e2,fI];simp;omega) e3.symm (by simp) ?_) L⟩
   rw [e1,e2];rw [fI,fI,List.map_set,List.map_set,Nat.mul_one,Nat.mul_one];rfl
  ·rw [if_neg hc]
   exact ⟨_,.exit (bJx z1 z2 (by rw [e1];exact hx) z3 z4 (by rw [e2];exact hy) kx ky (Int.not_lt.1 hc)) (by simp)⟩
theorem bJp{D:List (List Cel)}{k:Int}{R:List (List Cel)}(Ba:D.length≤12):∀ (n i:Nat) (E:List (List Cel)),i+n=D.length→E.length=D.length→(∀ x∈E,aM k≤(x.length:Int))→aF Tp 2 (sub (cd Tryz.f242) [1,0,0]) (xN D k R i E.length ((E.map rwE).flatten)) (.exit 0) (xN D k R D.length (aBs (bS k) n i E).length (((aBs (bS k) n i E).map rwE).flatten))
 | 0,i,E,hi,hl,hk=>by
  have:i=D.length:=by omega
  subst this;exact .exit (bJv (by omega)) (by simp)
 | n+1,i,E,hi,hl,hk=>by
  obtain ⟨j',L⟩:=bRz (D:=D) (k:=k) (R:=R) (i:=i) i E (by omega) (by omega) hk
  have h1:=rP (bS k) i E;unfold aBs;exact .step (bJu (G'101:=gP (bS k) i E) (E':=gP (bS k) i E) (by omega) L (aR (by omega)) rfl rfl rfl) (bJp Ba n (i+1) _ (by omega) (by omega) (fun x hx=>hk x (rQ _ _ _ hx)))
theorem cDl{D:List (List Cel)}{k:Int}{R:List (List Cel)}(Ba:D.length≤12)(h1:1≤D.length)(hk:∀ x∈D,aM k≤(x.length:Int)):FMM Tp 242 [.own 0,.p (aB 0),.p (aB (D.length:Nat)),.fn 151 [] [.ptr 1 0]] [some (.row 78 D.length ((D.map rwE).flatten)),some (.box 26 [(.p (aB k)),(.p (.sl R.length (R.map aN)))])] (.tup []) [some (.row 78 ((isG (bS k) D).length) (((isG (bS k) D).map rwE).flatten)),some (.box 26 [(.p (aB k)),(.p (.sl R.length (R.map aN)))])]:=by
 exact cDr (E'1:=isG (bS k) D) (bJp (k:=k) (R:=R) Ba (D.length-1) 1 D (by omega) rfl hk)
theorem bSa{D:List (List Cel)}{k:Int}{i:Nat}:∀ (j:Nat) (G:List (List Cel)),j<G.length→G.length≤12→(∀ x∈G,aM k≤(x.length:Int))→∃ j',aF Tp 2 (sub (cd Tryz.f242) bj) (sJ D k i (j:Int) G.length ((G.map rwE).flatten)) (.exit 2) (sJ D k i j' (gP (bS k) j G).length (((gP (bS k) j G).map rwE).flatten))
 | 0,G,hj,hg,hk=>⟨_,.exit (bKd (by omega)) (by simp)⟩
 | j+1,G,hj,hg,hk=>by
  have hx:G[j+1]? = some G[j+1]:=Bw hj;have hy:G[j]? = some (G[j]'(by omega)):=Bw (by omega)
  have kx:=hk _ (iC hj);have ky:=hk _ (iC (show j<G.length by omega))
  have z1:(0:Int)<((j+1:Nat):Int):=by omega
  have z2:0≤((j+1:Nat):Int)∧((j+1:Nat):Int)<(G.length:Int):=by omega
  have z3:inR (((j+1:Nat):Int)-(1:Int)):=by unfold inR;omega
  have z4:0≤(((j+1:Nat):Int)-(1:Int))∧(((j+1:Nat):Int)-(1:Int))<(G.length:Int):=by omega
  have e1:((j+1:Nat):Int).toNat=j+1:=by omega
  have e2:(((j+1:Nat):Int)-(1:Int)).toNat=j:=by omega
  have e3:(((j+1:Nat):Int)-(1:Int))=(j:Int):=by omega
  generalize G[j+1]=x at hx kx
  generalize G[j]'(by omega)=y at hy ky
  unfold gP;rw [hx,hy];dsimp only
  by_cases hc:bS k x y<0
  ·rw [if_pos hc]
   obtain ⟨j',L⟩:=bSa (D:=D) (k:=k) (i:=i) j ((G.set (j+1) y).set j x) (by simp;omega) (by simp;omega) (fun z hz=>by
    rcases List.mem_or_eq_of_mem_set hz with h2 | rfl
    ·rcases List.mem_or_eq_of_mem_set h2 with h3 | rfl
     ·exact hk z h3
     ·exact ky
    ·exact kx)
   refine ⟨j',.step (bKb z1 z2 (by rw [e1];exact hx) z3 z4 (by rw [e2];exact hy) kx ky hc (by rw [e1,fI];simp;omega) (by rw [e1,e2,fI];simp;omega) e3.symm (by simp) ?_) L⟩
   rw [e1,e2];rw [fI,fI,List.map_set,List.map_set,Nat.mul_one,Nat.mul_one];rfl
  ·rw [if_neg hc]
   exact ⟨_,.exit (bKc z1 z2 (by rw [e1];exact hx) z3 z4 (by rw [e2];exact hy) kx ky (Int.not_lt.1 hc)) (by simp)⟩
theorem bJq{D:List (List Cel)}{k:Int}(Ba:D.length≤12):∀ (n i:Nat) (E:List (List Cel)),i+n=D.length→E.length=D.length→(∀ x∈E,aM k≤(x.length:Int))→aF Tp 2 (sub (cd Tryz.f242) [1,0,0]) (xO D k i E.length ((E.map rwE).flatten)) (.exit 0) (xO D k D.length (aBs (bS k) n i E).length (((aBs (bS k) n i E).map rwE).flatten))
 | 0,i,E,hi,hl,hk=>by
  have:i=D.length:=by omega
  subst this;exact .exit (bKa (by omega)) (by simp)
 | n+1,i,E,hi,hl,hk=>by
  obtain ⟨j',L⟩:=bSa (D:=D) (k:=k) (i:=i) i E (by omega) (by omega) hk
  have h1:=rP (bS k) i E;unfold aBs;exact .step (bJz (G'101:=gP (bS k) i E) (E':=gP (bS k) i E) (by omega) L (aR (by omega)) rfl rfl rfl) (bJq Ba n (i+1) _ (by omega) (by omega) (fun x hx=>hk x (rQ _ _ _ hx)))
theorem cDm{D:List (List Cel)}{k:Int}(Ba:D.length≤12)(h1:1≤D.length)(hk:∀ x∈D,aM k≤(x.length:Int)):FMM Tp 242 [.own 0,.p (aB 0),.p (aB (D.length:Nat)),.fn 168 [] [.ptr 1 0]] [some (.row 78 D.length ((D.map rwE).flatten)),some (.box 23 [(.p (aB k))])] (.tup []) [some (.row 78 ((isG (bS k) D).length) (((isG (bS k) D).map rwE).flatten)),some (.box 23 [(.p (aB k))])]:=by
 exact cDs (E'1:=isG (bS k) D) (bJq (k:=k) Ba (D.length-1) 1 D (by omega) rfl hk)
theorem aHr{G:List Chg}{j:Nat}(y:Chg)(hj:j<G.length):((G.set j y).map chE).flatten=(G.map chE).flatten.take (j*2)++[aN y.1,aN y.2]++(G.map chE).flatten.drop (j*2+2):=bPt (E:=chE) (k:=2) (fun _=>rfl) hj y
theorem cBf{G:List Chg}{j:Nat}{y:Chg}(hj:j+1<G.length):j*2+2≤((G.map chE).flatten.take ((j+1)*2)++[aN y.1,aN y.2]++(G.map chE).flatten.drop ((j+1)*2+2)).length:=by
 rw [← aHr y hj,rM (E:=chE) (k:=2) (fun _=>rfl),aGh];omega
theorem bJr{G:List Chg}{j:Nat}{x y:Chg}(hj:j+1<G.length):(((G.set (j+1) y).set j x).map chE).flatten=((G.map chE).flatten.take ((j+1)*2)++[aN y.1,aN y.2]++(G.map chE).flatten.drop ((j+1)*2+2)).take (j*2)++[aN x.1,aN x.2]++((G.map chE).flatten.take ((j+1)*2)++[aN y.1,aN y.2]++(G.map chE).flatten.drop ((j+1)*2+2)).drop (j*2+2):=by
 rw [← aHr y hj,aHr x (by simp;omega)]
theorem bSb{D:List Chg}{k:Int}{i:Nat}:∀ (j:Nat) (G:List Chg),j<G.length→G.length≤12→(∀ x∈G,aM k≤((crM x).length:Int))→∃ j',aF Tp 2 (sub (cd Tryz.f266) bj) (sK D k i (j:Int) G.length ((G.map chE).flatten)) (.exit 2) (sK D k i j' (gP (iF k) j G).length (((gP (iF k) j G).map chE).flatten))
 | 0,G,hj,hg,hk=>⟨_,.exit (bKi (by omega)) (by simp)⟩
 | j+1,G,hj,hg,hk=>by
  have hx:G[j+1]? = some G[j+1]:=Bw hj;have hy:G[j]? = some (G[j]'(by omega)):=Bw (by omega)
  have kx:=hk _ (iC hj);have ky:=hk _ (iC (show j<G.length by omega))
  have z1:(0:Int)<((j+1:Nat):Int):=by omega
  have z2:0≤((j+1:Nat):Int)∧((j+1:Nat):Int)<(G.length:Int):=by omega
  have z3:inR (((j+1:Nat):Int)-(1:Int)):=by unfold inR;omega
  have z4:0≤(((j+1:Nat):Int)-(1:Int))∧(((j+1:Nat):Int)-(1:Int))<(G.length:Int):=by omega
  have e1:((j+1:Nat):Int).toNat=j+1:=by omega
  have e2:(((j+1:Nat):Int)-(1:Int)).toNat=j:=by omega
  have e3:(((j+1:Nat):Int)-(1:Int))=(j:Int):=by omega
  generalize G[j+1]=x at hx kx
  generalize G[j]'(by omega)=y at hy ky
  unfold gP;rw [hx,hy];dsimp only;obtain ⟨xb,xa⟩:=x;obtain ⟨yb,ya⟩:=y
  by_cases hc:iF k (xb,xa) (yb,ya)<0
  ·rw [if_pos hc]
   obtain ⟨j',L⟩:=bSb (D:=D) (k:=k) (i:=i) j ((G.set (j+1) (yb,ya)).set j (xb,xa)) (by simp;omega) (by simp;omega) (fun z hz=>by
    rcases List.mem_or_eq_of_mem_set hz with h2 | rfl
    ·rcases List.mem_or_eq_of_mem_set h2 with h3 | rfl
     ·exact hk z h3
     ·exact ky
    ·exact kx)
   refine ⟨j',.step (bKg z1 z2 (by rw [e1];exact hx) z3 z4 (by rw [e2];exact hy) kx ky hc ⟨rfl,by rw [e1,rM (E:=chE) (k:=2) (fun _=>rfl)];omega⟩ ⟨rfl,by rw [e1,e2];exact cBf (y:=(yb,ya)) hj⟩ e3.symm (by simp) ?_) L⟩
   rw [e1,e2];exact bJr (x:=(xb,xa)) (y:=(yb,ya)) hj
  ·rw [if_neg hc]
   exact ⟨_,.exit (bKh z1 z2 (by rw [e1];exact hx) z3 z4 (by rw [e2];exact hy) kx ky (Int.not_lt.1 hc)) (by simp)⟩
theorem bJs{D:List Chg}{k:Int}(Ba:D.length≤12):∀ (n i:Nat) (E:List Chg),i+n=D.length→E.length=D.length→(∀ x∈E,aM k≤((crM x).length:Int))→aF Tp 2 (sub (cd Tryz.f266) [1,0,0]) (xP D k i E.length ((E.map chE).flatten)) (.exit 0) (xP D k D.length (aBs (iF k) n i E).length (((aBs (iF k) n i E).map chE).flatten))
 | 0,i,E,hi,hl,hk=>by
  have:i=D.length:=by omega
  subst this;exact .exit (bKf (by omega)) (by simp)
 | n+1,i,E,hi,hl,hk=>by
  obtain ⟨j',L⟩:=bSb (D:=D) (k:=k) (i:=i) i E (by omega) (by omega) hk
  have h1:=rP (iF k) i E;unfold aBs;exact .step (bKe (G'101:=gP (iF k) i E) (E':=gP (iF k) i E) (by omega) L (aR (by omega)) rfl rfl rfl) (bJs Ba n (i+1) _ (by omega) (by omega) (fun x hx=>hk x (rQ _ _ _ hx)))
theorem cDn{D:List Chg}{k:Int}(Ba:D.length≤12)(h1:1≤D.length)(hk:∀ x∈D,aM k≤((crM x).length:Int)):FMM Tp 266 [.own 0,.p (aB 0),.p (aB (D.length:Nat)),.fn 185 [] [.ptr 1 0]] [some (.row 112 D.length ((D.map chE).flatten)),some (.box 23 [(.p (aB k))])] (.tup []) [some (.row 112 ((isG (iF k) D).length) (((isG (iF k) D).map chE).flatten)),some (.box 23 [(.p (aB k))])]:=by
 exact cDt (E'1:=isG (iF k) D) (bJs (k:=k) Ba (D.length-1) 1 D (by omega) rfl hk)
end
section
variable {k l:Int}

noncomputable abbrev aTo:Code:=sub (cd Tryz.f200) [1,1,0,0]
theorem cAq{D:List (List Cel)}{k:Int}{R:List (List Cel)}{n:Int}(hn:n=(D.length:Int))(Ba:D.length≤12)(h1:1≤D.length)(hk:∀ x∈D,aM k≤(x.length:Int)):FMM Tp 242 [.own 0,.p (aB 0),.p (aB n),.fn 151 [] [.ptr 1 0]] [some (.row 78 D.length ((D.map rwE).flatten)),some (.box 26 [(pI k),(.p (.sl R.length (R.map aN)))])] (.tup []) [some (.row 78 ((isG (bS k) D).length) (((isG (bS k) D).map rwE).flatten)),some (.box 26 [(pI k),(.p (.sl R.length (R.map aN)))])]:=by
 subst hn;exact cDl Ba h1 hk
theorem cAr{D:List (List Cel)}{k n:Int}(hn:n=(D.length:Int))(Ba:D.length≤12)(h1:1≤D.length)(hk:∀ x∈D,aM k≤(x.length:Int)):FMM Tp 242 [.own 0,.p (aB 0),.p (aB n),.fn 168 [] [.ptr 1 0]] [some (.row 78 D.length ((D.map rwE).flatten)),some (.box 23 [(pI k)])] (.tup []) [some (.row 78 ((isG (bS k) D).length) (((isG (bS k) D).map rwE).flatten)),some (.box 23 [(pI k)])]:=by
 subst hn;exact cDm Ba h1 hk
theorem cAs{D:List (List Cel × List Cel)}{k n:Int}(hn:n=(D.length:Int))(Ba:D.length≤12)(h1:1≤D.length)(hk:∀ x∈D,aM k≤((crM x).length:Int)):FMM Tp 266 [.own 0,.p (aB 0),.p (aB n),.fn 185 [] [.ptr 1 0]] [some (.row 112 D.length ((D.map chE).flatten)),some (.box 23 [(pI k)])] (.tup []) [some (.row 112 ((isG (iF k) D).length) (((isG (iF k) D).map chE).flatten)),some (.box 23 [(pI k)])]:=by
 subst hn;exact cDn Ba h1 hk
theorem aHn(x:Int)(h:0≤x∧x≤12){base:Nat}:FV Tp 201 [.p (.v (.int .u64 x))] base (pI ((Lib.bitLen x.toNat:Nat):Int)) []:=FV.ofc rfl fun C w us hus hM=>by
 obtain rfl:=I0 rfl hus;refine (Tryz.bits_Len x w h.1 (by omega)).mono ?_
 rintro e w' ⟨rfl,rfl⟩;exact ⟨_,rfl,⟨rfl,rfl,rfl,dD _,fun _ _=>rfl⟩,.p _ _ (.v _)⟩
theorem F6{n:Nat}(h:n≤12):0≤IntKind.wrap .u64 (n:Int)∧IntKind.wrap .u64 (n:Int)≤12:=by
 have:IntKind.u64.wrap (n:Int)=n:=by simp [IntKind.wrap,IntKind.bits,IntKind.signed];omega
 rw [this];omega
def aHo(D:List (List Cel))(k:Int)(R:List (List Cel))(l:Int)(En:Nat)(Ec:List PV):St:=⟨fr 148 [(0,(.own 0)),(1,(pI 0)),(2,(pI (D.length:Int))),(3,(pI l)),(4,(.fn 151 [] [(.ptr 1 0)]))],[some (.row 78 En Ec),some (.box 26 [(pI k),(.p (.sl R.length (R.map aN)))])]⟩
theorem cAt{D R E'0:List (List Cel)}(hl0:aF Tp 2 aTo (aHo D k R l D.length ((D.map rwE).flatten)) .ret (aHo D k R l E'0.length ((E'0.map rwE).flatten))):FMM Tp 200 [(.own 0),(pI 0),(pI (D.length:Int)),(pI l),(.fn 151 [] [(.ptr 1 0)])] [some (.row 78 D.length ((D.map rwE).flatten)),some (.box 26 [(pI k),(.p (.sl R.length (R.map aN)))])] (.tup []) [some (.row 78 E'0.length ((E'0.map rwE).flatten)),some (.box 26 [(pI k),(.p (.sl R.length (R.map aN)))])]:=FMM.fi 2 gE func200 [hl0.k 5 (gZ [5,143])] (gc hl0.code gn)
theorem bCq{D R E E':List (List Cel)}(h0:inR ((D.length:Int)-0))(h1:((D.length:Int)-0)≤12)(Df:E.length≤12)(Fo:1≤E.length)(Jr:∀ x∈E,aM k≤(x.length:Int))(H7:(D.length:Int)=(E.length:Int))(Ee:E'.length=(isG (bS k) E).length)(Ef:(E'.map rwE).flatten=(((isG (bS k) E).map rwE).flatten)):aA Tp 2 aTo (aHo D k R l E.length ((E.map rwE).flatten)) .ret (aHo D k R l E'.length ((E'.map rwE).flatten)):=by
 have k1:=mq [0,1] 2 (cAq (D:=E) (k:=k) (R:=R) H7 Df Fo Jr);rw [Ee,Ef];exact aA.fi (gZ [5,143]) [bT,k1.o] (gc k1 (gc (mR h1) (gc h0 gn)))
def aHp(D:List (List Cel))(k l:Int)(En:Nat)(Ec:List PV):St:=⟨fr 148 [(0,(.own 0)),(1,(pI 0)),(2,(pI (D.length:Int))),(3,(pI l)),(4,(.fn 168 [] [(.ptr 1 0)]))],[some (.row 78 En Ec),some (.box 23 [(pI k)])]⟩
theorem cAu{D E'0:List (List Cel)}(hl0:aF Tp 2 aTo (aHp D k l D.length ((D.map rwE).flatten)) .ret (aHp D k l E'0.length ((E'0.map rwE).flatten))):FMM Tp 200 [(.own 0),(pI 0),(pI (D.length:Int)),(pI l),(.fn 168 [] [(.ptr 1 0)])] [some (.row 78 D.length ((D.map rwE).flatten)),some (.box 23 [(pI k)])] (.tup []) [some (.row 78 E'0.length ((E'0.map rwE).flatten)),some (.box 23 [(pI k)])]:=FMM.fi 2 gE func200 [hl0.k 5 (gZ [5,143])] (gc hl0.code gn)
theorem bCr{D E E':List (List Cel)}(h0:inR ((D.length:Int)-0))(h1:((D.length:Int)-0)≤12)(Df:E.length≤12)(Fo:1≤E.length)(Jr:∀ x∈E,aM k≤(x.length:Int))(H7:(D.length:Int)=(E.length:Int))(Ee:E'.length=(isG (bS k) E).length)(Ef:(E'.map rwE).flatten=(((isG (bS k) E).map rwE).flatten)):aA Tp 2 aTo (aHp D k l E.length ((E.map rwE).flatten)) .ret (aHp D k l E'.length ((E'.map rwE).flatten)):=by
 have k1:=mq [0,1] 2 (cAr (D:=E) (k:=k) H7 Df Fo Jr);rw [Ee,Ef];exact aA.fi (gZ [5,143]) [bT,k1.o] (gc k1 (gc (mR h1) (gc h0 gn)))
def aHq(D:List (List Cel × List Cel))(k l:Int)(En:Nat)(Ec:List PV):St:=⟨fr 148 [(0,(.own 0)),(1,(pI 0)),(2,(pI (D.length:Int))),(3,(pI l)),(4,(.fn 185 [] [(.ptr 1 0)]))],[some (.row 112 En Ec),some (.box 23 [(pI k)])]⟩
theorem cAv{D E'0:List (List Cel × List Cel)}(hl0:aF Tp 2 (sub (cd Tryz.f222) [1,1,0,0]) (aHq D k l D.length ((D.map chE).flatten)) .ret (aHq D k l E'0.length ((E'0.map chE).flatten))):FMM Tp 222 [(.own 0),(pI 0),(pI (D.length:Int)),(pI l),(.fn 185 [] [(.ptr 1 0)])] [some (.row 112 D.length ((D.map chE).flatten)),some (.box 23 [(pI k)])] (.tup []) [some (.row 112 E'0.length ((E'0.map chE).flatten)),some (.box 23 [(pI k)])]:=FMM.fi 2 gE func222 [hl0.k 5 (gZ [5,143])] (gc hl0.code gn)
theorem bCs{D E E':List (List Cel × List Cel)}(h0:inR ((D.length:Int)-0))(h1:((D.length:Int)-0)≤12)(Df:E.length≤12)(Fo:1≤E.length)(Jr:∀ x∈E,aM k≤((crM x).length:Int))(H7:(D.length:Int)=(E.length:Int))(Ee:E'.length=(isG (iF k) E).length)(Ef:(E'.map chE).flatten=(((isG (iF k) E).map chE).flatten)):aA Tp 2 (sub (cd Tryz.f222) [1,1,0,0]) (aHq D k l E.length ((E.map chE).flatten)) .ret (aHq D k l E'.length ((E'.map chE).flatten)):=by
 have k1:=mq [0,1] 2 (cAs (D:=E) (k:=k) H7 Df Fo Jr);rw [Ee,Ef];exact aA.fi (gZ [5,143]) [bT,k1.o] (gc k1 (gc (mR h1) (gc h0 gn)))
theorem cAw{D:List (List Cel)}{k:Int}{R:List (List Cel)}(l:Int)(Ba:D.length≤12)(h1:1≤D.length)(hk:∀ x∈D,aM k≤(x.length:Int)):FMM Tp 200 [.own 0,.p (aB 0),.p (aB (D.length:Int)),.p (aB l),.fn 151 [] [.ptr 1 0]] [some (.row 78 D.length ((D.map rwE).flatten)),some (.box 26 [(pI k),(.p (.sl R.length (R.map aN)))])] (.tup []) [some (.row 78 ((isG (bS k) D).length) (((isG (bS k) D).map rwE).flatten)),some (.box 26 [(pI k),(.p (.sl R.length (R.map aN)))])] :=
 cAt (E'0:=isG (bS k) D) (.exit (bCq (E':=isG (bS k) D) (by show _∧_;omega) (by omega) Ba h1 hk rfl rfl rfl) (by simp))
abbrev bPs(D:List (List Cel)):=IntKind.wrap .u64 (D.length:Int)
theorem cAx{D R:List (List Cel)}(Gk:0≤(IntKind.wrap .u64 (D.length:Int))∧(IntKind.wrap .u64 (D.length:Int))≤12)(Db:D.length≤12)(Df:1≤D.length)(Fo:∀ x∈D,aM k≤(x.length:Int)):FMM Tp 137 [(.own 0),(.fn 151 [] [(.ptr 1 0)])] [some (.row 78 D.length ((D.map rwE).flatten)),some (.box 26 [(pI k),(.p (.sl R.length (R.map aN)))])] (.tup []) [some (.row 78 ((isG (bS k) D).length) (((isG (bS k) D).map rwE).flatten)),some (.box 26 [(pI k),(.p (.sl R.length (R.map aN)))])]:=have k1:=fk 2 (aHn (bPs D) Gk) rfl;have k2:=mq [0,1] 2 (cAw (D:=D) (k:=k) (R:=R) ((Lib.bitLen (bPs D).toNat:Nat):Int) Db Df Fo);FMM.fi 2 gE func137 [k1.o,k2.o] (gc k2 (gc k1 gn))
theorem cAy{D:List (List Cel)}{k:Int}{R:List (List Cel)}(Ba:D.length≤12)(h1:1≤D.length)(hk:∀ x∈D,aM k≤(x.length:Int)):FMM Tp 137 [.own 0,.fn 151 [] [.ptr 1 0]] [some (.row 78 D.length ((D.map rwE).flatten)),some (.box 26 [(pI k),(.p (.sl R.length (R.map aN)))])] (.tup []) [some (.row 78 ((isG (bS k) D).length) (((isG (bS k) D).map rwE).flatten)),some (.box 26 [(pI k),(.p (.sl R.length (R.map aN)))])]:=cAx (F6 Ba) Ba h1 hk
theorem cAz{D:List (List Cel)}{k:Int}(l:Int)(Ba:D.length≤12)(h1:1≤D.length)(hk:∀ x∈D,aM k≤(x.length:Int)):FMM Tp 200 [.own 0,.p (aB 0),.p (aB (D.length:Int)),.p (aB l),.fn 168 [] [.ptr 1 0]] [some (.row 78 D.length ((D.map rwE).flatten)),some (.box 23 [(pI k)])] (.tup []) [some (.row 78 ((isG (bS k) D).length) (((isG (bS k) D).map rwE).flatten)),some (.box 23 [(pI k)])] :=
 cAu (E'0:=isG (bS k) D) (.exit (bCr (E':=isG (bS k) D) (by show _∧_;omega) (by omega) Ba h1 hk rfl rfl rfl) (by simp))
theorem cBa{D:List (List Cel)}(Gk:0≤(IntKind.wrap .u64 (D.length:Int))∧(IntKind.wrap .u64 (D.length:Int))≤12)(Db:D.length≤12)(Df:1≤D.length)(Fo:∀ x∈D,aM k≤(x.length:Int)):FMM Tp 137 [(.own 0),(.fn 168 [] [(.ptr 1 0)])] [some (.row 78 D.length ((D.map rwE).flatten)),some (.box 23 [(pI k)])] (.tup []) [some (.row 78 ((isG (bS k) D).length) (((isG (bS k) D).map rwE).flatten)),some (.box 23 [(pI k)])]:=have k1:=fk 2 (aHn (bPs D) Gk) rfl;have k2:=mq [0,1] 2 (cAz (D:=D) (k:=k) ((Lib.bitLen (bPs D).toNat:Nat):Int) Db Df Fo);FMM.fi 2 gE func137 [k1.o,k2.o] (gc k2 (gc k1 gn))
theorem cBb{D:List (List Cel)}{k:Int}(Ba:D.length≤12)(h1:1≤D.length)(hk:∀ x∈D,aM k≤(x.length:Int)):FMM Tp 137 [.own 0,.fn 168 [] [.ptr 1 0]] [some (.row 78 D.length ((D.map rwE).flatten)),some (.box 23 [(pI k)])] (.tup []) [some (.row 78 ((isG (bS k) D).length) (((isG (bS k) D).map rwE).flatten)),some (.box 23 [(pI k)])]:=cBa (F6 Ba) Ba h1 hk
theorem cBc{D:List (List Cel × List Cel)}{k:Int}(l:Int)(Ba:D.length≤12)(h1:1≤D.length)(hk:∀ x∈D,aM k≤((crM x).length:Int)):FMM Tp 222 [.own 0,.p (aB 0),.p (aB (D.length:Int)),.p (aB l),.fn 185 [] [.ptr 1 0]] [some (.row 112 D.length ((D.map chE).flatten)),some (.box 23 [(pI k)])] (.tup []) [some (.row 112 ((isG (iF k) D).length) (((isG (iF k) D).map chE).flatten)),some (.box 23 [(pI k)])] :=
 cAv (E'0:=isG (iF k) D) (.exit (bCs (E':=isG (iF k) D) (by show _∧_;omega) (by omega) Ba h1 hk rfl rfl rfl) (by simp))
theorem cBd{D:List (List Cel × List Cel)}(Gk:0≤(IntKind.wrap .u64 (D.length:Int))∧(IntKind.wrap .u64 (D.length:Int))≤12)(Db:D.length≤12)(Df:1≤D.length)(Fo:∀ x∈D,aM k≤((crM x).length:Int)):FMM Tp 184 [(.own 0),(.fn 185 [] [(.ptr 1 0)])] [some (.row 112 D.length ((D.map chE).flatten)),some (.box 23 [(pI k)])] (.tup []) [some (.row 112 ((isG (iF k) D).length) (((isG (iF k) D).map chE).flatten)),some (.box 23 [(pI k)])]:=have k1:=fk 2 (aHn (IntKind.wrap .u64 (D.length:Int)) Gk) rfl;have k2:=mq [0,1] 2 (cBc (D:=D) (k:=k) ((Lib.bitLen (IntKind.wrap .u64 (D.length:Int)).toNat:Nat):Int) Db Df Fo);FMM.fi 2 gE func184 [k1.o,k2.o] (gc k2 (gc k1 gn))
theorem cBe{D:List (List Cel × List Cel)}{k:Int}(Ba:D.length≤12)(h1:1≤D.length)(hk:∀ x∈D,aM k≤((crM x).length:Int)):FMM Tp 184 [.own 0,.fn 185 [] [.ptr 1 0]] [some (.row 112 D.length ((D.map chE).flatten)),some (.box 23 [(pI k)])] (.tup []) [some (.row 112 ((isG (iF k) D).length) (((isG (iF k) D).map chE).flatten)),some (.box 23 [(pI k)])]:=cBd (F6 Ba) Ba h1 hk
end
end KV
end Go.Proofs
section
namespace Go.Proofs
open Go.RowKit
namespace KV
open Tryz
variable {P:Program} {C:Cx} {w:World} {ty n:Nat} {cs Bg:List PV}
theorem eX{o:AO}{id:Nat}{x:AO}(h:([some x]:Mem)[id]? = some (some o)):id=0∧o=x:=by
 cases id with
 | zero=>simp at h;exact ⟨rfl,h.symm⟩
 | succ i=>simp at h
theorem bCv{x:AV}{u:Value}(h:Rep C [some (.row ty n cs)] w x u):Rep C [some (.row ty n Bg)] w x u:=by
 have ex:∀ {id:Nat},(∃ o:AO,([some (.row ty n cs)]:Mem)[id]? = some (some o))→∃ o:AO,([some (.row ty n Bg)]:Mem)[id]? = some (some o):=fun ⟨o,h⟩=>by
  obtain ⟨rfl,_⟩:=eX h;exact ⟨_,rfl⟩
 induction h with
 | p x u h=>exact .p x u h
 | any u=>exact .any u
 | kb b=>exact .kb b
 | yld l=>exact .yld l
 | own id u h0 ha h =>
  refine .own id u h0 (ex ha) fun C6 n' c hm => ?_
  obtain ⟨rfl,e⟩:=eX hm;cases e;exact h _ _ cs rfl
 | arr id off n u h0 ha h =>
  refine .arr id off n u h0 (ex ha) fun o hm hl => ?_
  obtain ⟨rfl,e⟩:=eX hm;exact h _ rfl rfl
 | ptr id off u h0 ha h hp =>
  refine .ptr id off u h0 (ex ha) (fun o hm hl => ?_) hp
  obtain ⟨rfl,e⟩:=eX hm;exact h _ rfl rfl
 | mp id u h0 ha h =>
  refine .mp id u h0 (ex ha) fun o hm hl => ?_
  obtain ⟨rfl,e⟩:=eX hm;exact h _ rfl rfl
 | pa id q u h0 ha h =>
  refine .pa id q u h0 (ex ha) fun o hm hl => ?_
  obtain ⟨rfl,e⟩:=eX hm;exact h _ rfl rfl
 | rp cs off b o us h1 h2 h3=>exact .rp cs off b o us h1 h2 h3
 | agg cs vs h0 h1 _ ih=>exact .agg cs vs h0 h1 ih
 | tup cs vs h1 _ ih=>exact .tup cs vs h1 ih
 | fn f cs ds us vs h1 h2 _ _ Gq Gr=>exact .fn f cs ds us vs h1 h2 Gq Gr
theorem aBt:∀ {args:List AV} {us:List Value},cT C [some (.row ty n cs)] w args us→cT C [some (.row ty n Bg)] w args us
 | [],_,h=>by cases h;exact .nil
 | x::l,_,h=>by
  cases h with
  | cons _ _ u us h1 h2=>exact .cons _ _ _ _ (bCv h1) (aBt h2)
theorem bCw(hM:aX P C [some (.row ty n cs)] w):aX P C [some (.row ty n (cs.map wkP))] w:=by
 refine ⟨fun id t' n' c hm => ?_,fun id t' c hm => ?_,fun id e c hm => ?_,fun i i' o o' b h1 l1 h2 l2 e1 e2 => ?_,fun id o b h l e => ?_,hM.Fs,fun id o b h l e => ?_,hM.lib⟩
 ·obtain ⟨rfl,e⟩:=eX hm
  cases e
  rcases hM.row 0 _ _ _ rfl with ⟨h1,h2,h3⟩ | ⟨b,arr,i,q1,q2,q3,q4,q5,q6,q7,q8,q9⟩
  ·exact .inl ⟨h1,h2,by rw [h3];rfl⟩
  ·refine .inr ⟨b,arr,i,q1,q2,q3,q4,by rw [kI];exact q5,q6,q7,fun j hj => ?_,fun j hj=>q9 j (by simpa using hj)⟩
   rw [gL];exact aSw (q8 j (by simpa using hj))
 ·obtain ⟨_,e⟩:=eX hm;cases e
 ·obtain ⟨_,e⟩:=eX hm;cases e
 ·obtain ⟨rfl,_⟩:=eX h1
  obtain ⟨rfl,_⟩:=eX h2;rfl
 ·obtain ⟨rfl,_⟩:=eX h
  exact hM.nF 0 _ b rfl rfl e
 ·obtain ⟨rfl,_⟩:=eX h
  exact hM.lt 0 _ b rfl rfl e
theorem bKk{C':Cx}{M':Mem}{w':World}(f:Fr C [some (.row ty n Bg)] w C' M' w'):Fr C [some (.row ty n cs)] w C' M' w':=by
 refine ⟨f.os,f.tape,f.out,f.size,fun b hb hn=>f.keep b hb fun id o h l e => ?_,fun id o h => ?_,fun id o h t' n' c hm => ?_,fun id o h o' hm hl => ?_,fun id o b h l e => ?_,f.F1,fun b h => ?_⟩
 ·obtain ⟨rfl,_⟩:=eX h
  exact hn 0 _ rfl rfl e
 ·obtain ⟨rfl,_⟩:=eX h
  exact f.ids 0 _ rfl
 ·obtain ⟨rfl,_⟩:=eX h
  obtain ⟨_,e⟩:=f.row 0 _ rfl _ _ _ hm;cases e;exact ⟨cs,rfl⟩
 ·obtain ⟨rfl,rfl⟩:=eX h
  rfl
 ·rcases f.new id o b h l e with h1 | ⟨Eh,o0,h1,h2,h3⟩
  ·exact .inl h1
  ·obtain ⟨rfl,_⟩:=eX h1
   exact .inr ⟨0,_,rfl,rfl,h3⟩
 ·rcases f.F2 b h with h1 | h1 | ⟨Eh,o0,h1,h2,h3⟩
  ·exact .inl h1
  ·exact .inr (.inl h1)
  ·obtain ⟨rfl,_⟩:=eX h1
   exact .inr (.inr ⟨0,_,rfl,rfl,h3⟩)
theorem FMM.rowwk{f:Nat}{args:List AV}{r:AV}{M':Mem}(h:FMM P f args [some (.row ty n (cs.map wkP))] r M'):FMM P f args [some (.row ty n cs)] r M':=fun C w us hus hM k=>by
 refine (h C w us (aBt hus) (bCw hM) k).mono ?_;rintro e w' ⟨u,rfl,C',hF,Ej,hr⟩;exact ⟨u,rfl,C',bKk hF,Ej,hr⟩
end KV
end Go.Proofs
end
namespace Go.Proofs
namespace KV
open Tryz
section
variable {e k:Int}{i j i' j' qn Mb:Nat}

noncomputable abbrev aLm:Code:=sub (cd Tryz.f104) [1,1,1,0,1,0,0]
noncomputable abbrev aLn:Code:=sub (cd Tryz.f104) [1,1,1,1,0,1,0,0]
theorem cAo{D:List (List Cel × List Cel)}(Hv:D.length≤12)(Db:1≤D.length)(Df:∀ x∈D,aM k≤((crM x).length:Int)):FMM Tp 109 [(pI k),(.own 0)] [some (.row 112 D.length ((D.map chE).flatten))] (.own 0) [some (.row 112 ((isG (iF k) D).length) (((isG (iF k) D).map chE).flatten))]:=have k1:=mq [0,1] 2 (cBe (D:=D) (k:=k) Hv Db Df);FMM.fi 1 gE func109 [k1.o] (gc k1 gn)
theorem cDk{k:Int}{n:Nat}{cs:List PV}{D:List Chg}(hn:n=D.length)(hc:cs.map wkP=(D.map chE).flatten)(Ba:D.length≤12)(h1:1≤D.length)(hk:∀ x∈D,aM k≤((crM x).length:Int)):FMM Tp 109 [.p (aB k),.own 0] [some (.row 112 n cs)] (.own 0) [some (.row 112 (isG (iF k) D).length (((isG (iF k) D).map chE).flatten))]:=by
 subst hn;refine FMM.rowwk ?_;rw [hc];exact cAo Ba h1 hk
def kN(k:Int)(A:List (List Cel))(e:Int)(B:List (List Cel))(i on:Nat)(oc:List PV):St:=⟨fr 69 [(2,(.ptr 0 0)),(3,(.ptr 1 0)),(4,(.p bK)),(5,(.mp 2)),(6,(.mp 3)),(7,(.own 4)),(18,(.p (.sl A.length (A.map aN)))),(19,(pI (A.length:Int))),(20,(pI (i:Int)))],[some (.box 26 [(pI k),(.p (.sl A.length (A.map aN)))]),some (.box 26 [(pI e),(.p (.sl B.length (B.map aN)))]),some (.mp (bO k A) A.length),some (.mp (bO e B) B.length),some (.row 112 on oc)]⟩
def kO(k:Int)(A B:List (List Cel))(j qn:Nat)(qc:List PV):St:=⟨fr 69 [(2,(.ptr 0 0)),(4,(.p bK)),(5,(.mp 1)),(7,(.own 2)),(44,(.p (.sl B.length (B.map aN)))),(45,(pI (B.length:Int))),(46,(pI (j:Int)))],[some (.box 26 [(pI k),(.p (.sl A.length (A.map aN)))]),some (.mp (bO k A) A.length),some (.row 112 qn qc)]⟩
theorem cAp{A B:List (List Cel)}{Ap:Nat}{Ak:List (List Cel × List Cel)}{K5 K7:Nat}{K8:List PV}{D4:List (List Cel × List Cel)}(Sc:fZ k A)(L9:fZ e B)(Bl:aF Tp 0 aLm (kN k A e B 0 0 []) (.exit 0) (kN k A e B Ap Ak.length ((Ak.map chE).flatten)))(Em:aF Tp 0 aLn (kO k A B 0 Ak.length ((Ak.map chE).flatten)) (.exit 2) (kO k A B K5 K7 K8))(Kh:K7=D4.length)(Sd:K8.map wkP=(D4.map chE).flatten)(N8:D4.length≤12)(N3:1≤D4.length)(N4:∀ x∈D4,aM k≤((crM x).length:Int)):FMM Tp 104 [(.p (.agg [(aB k),(.sl A.length (A.map aN))])),(.p (.agg [(aB e),(.sl B.length (B.map aN))]))] [] (.p (.sl ((isG (iF k) D4).length) (((isG (iF k) D4).map chE).flatten))) []:=have k1:=mq [2] 3 (cDk (k:=k) (D:=D4) Kh Sd N8 N3 N4);FMM.fi 0 ⟨[],[],[2],[]⟩ func104 [.c (.mp 2) [(2,(.mp (bO k A) A.length))],.c (.mp 10) [(10,(.mp (bO e B) B.length))],Bl.k 6 (gN bg [0,1,2,10,11] [(7,112)]),Em.k 4 (gI b7 [0,2,4]),k1.o] (gc k1 (gc Em.code (gc Bl.code (gt (FC Tp 149 [(.p (.agg [(aB e),(.sl B.length (B.map aN))]))] [] 10 (.mp 10) [(10,(.mp (bO e B) B.length))]) (FMM.fcN (k:=1) rfl (ids:=[]) (aQi L9) (by kernel_rfl)) (gt (FC Tp 149 [(.p (.agg [(aB k),(.sl A.length (A.map aN))]))] [] 2 (.mp 2) [(2,(.mp (bO k A) A.length))]) (FMM.fcN (k:=1) rfl (ids:=[]) (aQi Sc) (by kernel_rfl)) gn)))))
section
variable{A B:List (List Cel)}{Ab B9:List Cel}(h0:(i:Int)<(A.length:Int))(h1:A[i]? = some Ab)(h2:aM k≤(Ab.length:Int))(h3:eO Tp 186 (bO e B) (k3V (aK k Ab 0) (aK k Ab 1) (aK k Ab 2)))(h4:(iB (bO e B) (k3V (aK k Ab 0) (aK k Ab 1) (aK k Ab 2)))=true)(h5:gV (bO e B) (k3V (aK k Ab 0) (aK k Ab 1) (aK k Ab 2))=some (.sl B9.length ((B9.map cE).flatten)))(Gu:Ab.length≤100000)
include h0 h1 h2 h3 h4 h5 Gu
theorem bCi{o o':List (List Cel × List Cel)}(h7:(decide (Ab=B9))=false)(N9:Ab.length≤1000000)(Se:B9.length≤1000000)(A9:[(PV.sl Ab.length ((Ab.map cE).flatten)),(.sl B9.length ((B9.map cE).flatten))].length=1*2∧o.length+1≤1000000)(Da:cp i)(Ai:i'=(i+1))(Dj:o'.length=(o.length+1))(Dk:(o'.map chE).flatten=(((o.map chE).flatten)++[(PV.sl Ab.length ((Ab.map cE).flatten)),(.sl B9.length ((B9.map cE).flatten))])):aA Tp 0 aLm (kN k A e B i o.length ((o.map chE).flatten)) .normal (kN k A e B i' o'.length ((o'.map chE).flatten)):=by
 subst Ai;have k1:=fk 5 (eJ k Ab h2) rfl;have k2:=fk 5 (qC Ab B9 Gu) rfl;have k3:=fk 5 (rA Ab N9) rfl;have k4:=fk 5 (rA B9 Se) rfl;rw [Dj,Dk];exact aA.fi (gI bg [0,1,2,3,6]) [bT,.x (.sl Ab.length ((Ab.map cE).flatten)),k1.o,bT,.x (.sl B9.length ((B9.map cE).flatten)),k2.o,bT,k3.o,k4.o] (gc Da (gc A9 (gt ([(PV.sl Ab.length ((Ab.map cE).flatten)),(.sl B9.length ((B9.map cE).flatten))].length=2) (by first | decide | simp) (gc k4 (gc k3 (gc (dB h7) (gc k2 (gc h5 (gc h4 (gc h3 (gc k1 (gc (atm aN h1) (gc (ixn aN h1) (g0 h0))))))))))))))
theorem bCj{o:List (List Cel × List Cel)}(h7:(decide (Ab=B9))=true)(h8:cp i)(Ai:i'=(i+1)):aA Tp 0 aLm (kN k A e B i o.length ((o.map chE).flatten)) .normal (kN k A e B i' o.length ((o.map chE).flatten)):=by
 subst Ai;have k1:=fk 5 (eJ k Ab h2) rfl;have k2:=fk 5 (qC Ab B9 Gu) rfl;exact aA.fi (gI bg ce) [bT,.x (.sl Ab.length ((Ab.map cE).flatten)),k1.o,bT,.x (.sl B9.length ((B9.map cE).flatten)),k2.o,bF] (gc h8 (gc (aW h7) (gc k2 (gc h5 (gc h4 (gc h3 (gc k1 (gc (atm aN h1) (gc (ixn aN h1) (g0 h0))))))))))
end
theorem bCk{A B:List (List Cel)}{o:List (List Cel × List Cel)}{Ab:List Cel}{o':List (List Cel × List Cel)}(h0:(i:Int)<(A.length:Int))(h1:A[i]? = some Ab)(h2:aM k≤(Ab.length:Int))(h3:eO Tp 186 (bO e B) (k3V (aK k Ab 0) (aK k Ab 1) (aK k Ab 2)))(h4:(iB (bO e B) (k3V (aK k Ab 0) (aK k Ab 1) (aK k Ab 2)))=false)(Jo:Ab.length≤100000)(h6:(decide (Ab=([]:List Cel)))=false)(K6:Ab.length≤1000000)(N9:([]:List Cel).length≤1000000)(h9:[(PV.sl Ab.length ((Ab.map cE).flatten)),(.sl 0 [])].length=1*2∧o.length+1≤1000000)(A9:cp i)(Ai:i'=(i+1))(Dj:o'.length=(o.length+1))(Dk:(o'.map chE).flatten=(((o.map chE).flatten)++[(PV.sl Ab.length ((Ab.map cE).flatten)),(.sl 0 [])])):aA Tp 0 aLm (kN k A e B i o.length ((o.map chE).flatten)) .normal (kN k A e B i' o'.length ((o'.map chE).flatten)):=by
 subst Ai;have k1:=fk 5 (eJ k Ab h2) rfl;have k2:=fk 5 (rA Ab K6) rfl;rw [Dj,Dk];exact aA.fi (gI bg [0,1,2,3,6]) [bT,.x (.sl Ab.length ((Ab.map cE).flatten)),k1.o,bF,.c (pB (decide (Ab=([]:List Cel)))) [],bT,k2.o,.c (.p (.sl 0 [])) []] (gc A9 (gc h9 (gt ([(PV.sl Ab.length ((Ab.map cE).flatten)),(.sl 0 [])].length=2) (by first | decide | simp) (gt (FC Tp 150 [(.p bK)] [] 5 (.p (.sl 0 [])) []) (FV.fc (FV.argwk (rA ([]:List Cel) N9) rfl) rfl) (gc k2 (gc (dB h6) (gt (FC Tp 107 [(.p (.sl Ab.length ((Ab.map cE).flatten))),(.p bK)] [] 5 (pB (decide (Ab=([]:List Cel)))) []) (FV.fc (FV.argwk (qC Ab ([]:List Cel) Jo) rfl) rfl) (gc h4 (gc h3 (gc k1 (gc (atm aN h1) (gc (ixn aN h1) (g0 h0)))))))))))))
theorem bCl{A B:List (List Cel)}{o:List (List Cel × List Cel)}(h0:(A.length:Int)≤(i:Int)):aA Tp 0 aLm (kN k A e B i o.length ((o.map chE).flatten)) (.exit 0) (kN k A e B i o.length ((o.map chE).flatten)):=aA.fi (gI bg ce) [bF] (gc (bH h0) gn)
section
variable{A B:List (List Cel)}{Ac Bj:List Cel}(h0:(j:Int)<(B.length:Int))(h1:B[j]? = some Ac)(h2:aM k≤(Ac.length:Int))(h3:eO Tp 186 (bO k A) (k3V (aK k Ac 0) (aK k Ac 1) (aK k Ac 2)))(h4:(iB (bO k A) (k3V (aK k Ac 0) (aK k Ac 1) (aK k Ac 2)))=true)(h5:gV (bO k A) (k3V (aK k Ac 0) (aK k Ac 1) (aK k Ac 2))=some (.sl Bj.length ((Bj.map cE).flatten)))
include h0 h1 h2 h3 h4 h5
theorem bCm{qc K9:List PV}(h6:(Bj.length:Int)=0)(K6:Ac.length≤1000000)(h8:[bK,(.sl Ac.length ((Ac.map cE).flatten))].length=1*2∧qn+1≤1000000)(h9:cp j)(Bz:j'=(j+1))(Jp:Mb=(qn+1))(Jq:K9=(qc++[bK,(.sl Ac.length ((Ac.map cE).flatten))])):aA Tp 0 aLn (kO k A B j qn qc) .normal (kO k A B j' Mb K9):=by
 subst Bz Jp Jq;have k1:=fk 3 (eJ k Ac h2) rfl;have k2:=fk 3 (rA Ac K6) rfl;exact aA.fi (gI b7 [0,1,4]) [bT,.x (.sl Ac.length ((Ac.map cE).flatten)),k1.o,bT,.x (.sl Bj.length ((Bj.map cE).flatten)),bT,k2.o] (gc h9 (gc h8 (gt ([bK,(.sl Ac.length ((Ac.map cE).flatten))].length=2) (by first | decide | simp) (gc k2 (gc (dC h6) (gc h5 (gc h4 (gc h3 (gc k1 (gc (atm aN h1) (gc (ixn aN h1) (g0 h0))))))))))))
theorem bCn{qc:List PV}(h6:(Bj.length:Int)≠0)(h7:cp j)(Bz:j'=(j+1)):aA Tp 0 aLn (kO k A B j qn qc) .normal (kO k A B j' qn qc):=by
 subst Bz;have k1:=fk 3 (eJ k Ac h2) rfl;exact aA.fi (gI b7 [0,1,2]) [bT,.x (.sl Ac.length ((Ac.map cE).flatten)),k1.o,bT,.x (.sl Bj.length ((Bj.map cE).flatten)),bF] (gc h7 (gc (bJ h6) (gc h5 (gc h4 (gc h3 (gc k1 (gc (atm aN h1) (gc (ixn aN h1) (g0 h0)))))))))
end
theorem bCo{A B:List (List Cel)}{qc:List PV}{Ac:List Cel}{K9:List PV}(h0:(j:Int)<(B.length:Int))(h1:B[j]? = some Ac)(h2:aM k≤(Ac.length:Int))(h3:eO Tp 186 (bO k A) (k3V (aK k Ac 0) (aK k Ac 1) (aK k Ac 2)))(h4:(iB (bO k A) (k3V (aK k Ac 0) (aK k Ac 1) (aK k Ac 2)))=false)(Jo:Ac.length≤1000000)(h6:[bK,(.sl Ac.length ((Ac.map cE).flatten))].length=1*2∧qn+1≤1000000)(h7:cp j)(Bz:j'=(j+1))(Jp:Mb=(qn+1))(Jq:K9=(qc++[bK,(.sl Ac.length ((Ac.map cE).flatten))])):aA Tp 0 aLn (kO k A B j qn qc) .normal (kO k A B j' Mb K9):=by
 subst Bz Jp Jq;have k1:=fk 3 (eJ k Ac h2) rfl;have k2:=fk 3 (rA Ac Jo) rfl;exact aA.fi (gI b7 [0,1,4]) [bT,.x (.sl Ac.length ((Ac.map cE).flatten)),k1.o,bF,bT,k2.o] (gc h7 (gc h6 (gt ([bK,(.sl Ac.length ((Ac.map cE).flatten))].length=2) (by first | decide | simp) (gc k2 (gt (((0:Int) == 0)=true) (by first | decide | simp) (gc h4 (gc h3 (gc k1 (gc (atm aN h1) (gc (ixn aN h1) (g0 h0)))))))))))
theorem bCp{A B:List (List Cel)}{qc:List PV}(h0:(B.length:Int)≤(j:Int)):aA Tp 0 aLn (kO k A B j qn qc) (.exit 2) (kO k A B j qn qc):=aA.fi (gI b7 [0,1,2]) [bF] (gc (bH h0) gn)
end
end KV
end Go.Proofs
section
namespace Go.Proofs
open Go.RowKit
namespace KV
open Tryz
set_option maxRecDepth 1000000
def nS(k:Int)(B:List (List Cel))(r:List Cel):Option Chg:=if r=(kR k B r).getD [] then none else some (r,(kR k B r).getD [])
def tM(k:Int)(A:List (List Cel))(r:List Cel):Option Chg:=if ((kR k A r).getD []).length=0 then some ([],r) else none
def dfL(k:Int)(A B:List (List Cel)):List Chg:=A.filterMap (nS k B)++B.filterMap (tM k A)
def dfM(k:Int)(A B:List (List Cel)):List Chg:=isG (iF k) (dfL k A B)
theorem aEy(k:Int):1≤aM k:=by
 unfold aM
 repeat' split
 all_goals decide
theorem bPq{k:Int}{L:List (List Cel)}{r y:List Cel}(h:kR k L r=some y):y∈L:=bMb h
theorem bJn{k:Int}{A B:List (List Cel)}(hA:fZ k A)(hB:fZ k B):∀ x∈dfL k A B,aM k≤((crM x).length:Int):=by
 have hp:=aEy k;intro x hx
 rcases nC.1 hx with hx | hx
 ·obtain ⟨r,hr,he⟩:=List.mem_filterMap.1 hx
  unfold nS at he
  split at he
  ·cases he
  ·cases he
   have:=(hA.len r hr).1;unfold crM;rw [if_pos (by show 0<r.length;omega)];exact this
 ·obtain ⟨r,hr,he⟩:=List.mem_filterMap.1 hx
  unfold tM at he
  split at he
  ·cases he
   have:=(hB.len r hr).1;unfold crM;rw [if_neg (by simp)];exact this
  ·cases he
theorem cAn(c:Chg):(chE c).map wkP=chE c:=rfl
theorem bPr(L:List Chg):((L.map chE).flatten).map wkP=(L.map chE).flatten:=by
 induction L with
 | nil=>rfl
 | cons c L ih=>rw [gS,vW,rW,ih,cAn]
def nlE(c:Chg):List PV:=[bK,aN c.2]
theorem cDj{k:Int}{A:List (List Cel)}:∀ B:List (List Cel),(((B.filterMap (tM k A)).map nlE).flatten).map wkP=((B.filterMap (tM k A)).map chE).flatten:=fun B=>by
 have:∀ L:List Chg,(∀ c∈L,c.1=[])→((L.map nlE).flatten).map wkP=(L.map chE).flatten:=fun L hL=>by
  induction L with
  | nil=>rfl
  | cons c L ih =>
   rw [gS,gS,vW,vW,rW,ih (fun x hx=>hL x (by simp [hx]))]
   congr 1
   have h:=hL c (by simp)
   obtain ⟨a,b⟩:=c;dsimp only at h
   subst h;rfl
 refine this _ fun c hc => ?_
 obtain ⟨r,_,he⟩:=List.mem_filterMap.1 hc;unfold tM at he
 split at he
 ·cases he;rfl
 ·cases he
theorem aLl(L:List Chg)(c:Chg):((L++[c]).map chE).flatten=(L.map chE).flatten++chE c:=by simp
theorem bJo(L:List Chg)(c:Chg):((L++[c]).map nlE).flatten=(L.map nlE).flatten++nlE c:=by simp
theorem vF{α β:Type}(f:α→Option β){l:List α}{i:Nat}{x:α}(h:l[i]? = some x):(l.take (i+1)).filterMap f=(l.take i).filterMap f++(f x).toList:=by
 rw [List.take_add_one,h];rw [List.filterMap_append];cases hf:f x <;> simp [hf]
theorem aBr{α β:Type}(f:α→Option β)(l:List α)(i:Nat):((l.take i).filterMap f).length≤l.length:=iE (List.length_filterMap_le _ _) (by simp;omega)
theorem aQh{k:Int}{A B:List (List Cel)}(hA:fZ k A)(hB:fZ k B)(Ba:(dfL k A B).length≤12)(h1:1≤(dfL k A B).length) :
  FMM Tp 104 [.p (.agg [aB k,bZ A]),.p (.agg [aB k,bZ B])] [] (.p (.sl (dfM k A B).length ((dfM k A B).map chE).flatten)) []:=by
 have hAn:=hA.n;have hBn:=hB.n;have L1:=aF.count (P:=Tp) (k:=0) (b:=(sub (cd Tryz.f104) bq)) (e := .exit 0) (R:=kN k A k B A.length (A.filterMap (nS k B)).length (((A.filterMap (nS k B)).map chE).flatten)) A.length
  (fun i=>kN k A k B i ((A.take i).filterMap (nS k B)).length ((((A.take i).filterMap (nS k B)).map chE).flatten))
  (fun i hi=>by
   have hx:A[i]? = some A[i]:=Bw hi;have hm:=iC hi;have hl:=hA.len _ hm;have hK:eO Tp 186 (bO k B) (iW k A[i]):=vG hB.ky (hA.ky _ hm) hB.nd;have hfl:=aBr (nS k B) A i;rw [vF (nS k B) hx];generalize A[i]=x at hx hm hl hK
   have hhit:=nT k B x;have hlook:=rR k B x;rw [nU] at hhit
   have hf:nS k B x=if x=(kR k B x).getD [] then none else some (x,(kR k B x).getD []):=rfl
   rw [hf];generalize (A.take i).filterMap (nS k B)=o at hfl
   cases hlk:kR k B x with
   | some y =>
    rw [hlk] at hhit hlook
    have hy:=hB.len y (bPq hlk)
    by_cases he:x=y
    ·rw [Option.getD_some,if_pos he,Option.toList_none,List.append_nil]
     exact bCj (by omega) hx hl.1 hK hhit hlook (by omega) (by simp [he]) (aR (by omega)) rfl
    ·rw [Option.getD_some,if_neg he]
     exact bCi (o':=o++[(x,y)]) (by omega) hx hl.1 hK hhit hlook (by omega) (by simp [he]) (by omega) (by omega) ⟨rfl,by omega⟩ (aR (by omega)) rfl (by simp) (aLl o (x,y))
   | none =>
    rw [hlk] at hhit hlook
    have hp:=aEy k;have he:¬ x=[]:=fun e=>by rw [e] at hl;simp at hl;omega
    rw [Option.getD_none,if_neg he];exact bCk (o':=o++[(x,[])]) (by omega) hx hl.1 hK hhit (by omega) (by simp [he]) (by omega) (by simp) ⟨rfl,by omega⟩ (aR (by omega)) rfl (by simp) (aLl o (x,[])))
  (by rw [List.take_length];exact bCl (by omega)) (by simp)
 have L2:=aF.count (P:=Tp) (k:=0) (b:=(sub (cd Tryz.f104) bl)) (e := .exit 2) (R:=kO k A B B.length (dfL k A B).length (((A.filterMap (nS k B)).map chE).flatten++((B.filterMap (tM k A)).map nlE).flatten)) B.length
  (fun j=>kO k A B j ((A.filterMap (nS k B)).length+((B.take j).filterMap (tM k A)).length) (((A.filterMap (nS k B)).map chE).flatten++(((B.take j).filterMap (tM k A)).map nlE).flatten))
  (fun j hj=>by
   have hx:B[j]? = some B[j]:=Bw hj;have hm:=iC hj;have hl:=hB.len _ hm;have hK:eO Tp 186 (bO k A) (iW k B[j]):=vG hA.ky (hB.ky _ hm) hA.nd;have hfl:=aBr (tM k A) B j;have hfa:(A.filterMap (nS k B)).length≤A.length:=List.length_filterMap_le _ _;rw [vF (tM k A) hx];generalize B[j]=x at hx hm hl hK
   have hhit:=nT k A x;have hlook:=rR k A x;rw [nU] at hhit
   have hf:tM k A x=if ((kR k A x).getD []).length=0 then some ([],x) else none:=rfl
   rw [hf];generalize (B.take j).filterMap (tM k A)=q at hfl
   generalize A.filterMap (nS k B)=o at hfa
   have hap:((o.map chE).flatten++(q.map nlE).flatten)++[bK,aN x]=(o.map chE).flatten++((q++[([],x)]).map nlE).flatten:=by rw [bJo,List.append_assoc];rfl
   cases hlk:kR k A x with
   | some y =>
    rw [hlk] at hhit hlook
    by_cases he:y.length=0
    ·rw [Option.getD_some,if_pos he]
     refine bCm (by omega) hx hl.1 hK hhit hlook (by omega) (by omega) ⟨rfl,by omega⟩ (aR (by omega)) rfl ?_ hap.symm
     show o.length+(q++[(([]:List Cel),x)]).length=_;rw [Bv,List.length_singleton];omega
    ·rw [Option.getD_some,if_neg he,Option.toList_none,List.append_nil]
     exact bCn (by omega) hx hl.1 hK hhit hlook (by omega) (aR (by omega)) rfl
   | none =>
    rw [hlk] at hhit hlook
    rw [Option.getD_none,if_pos (by simp)]
    refine bCo (by omega) hx hl.1 hK hhit (by omega) ⟨rfl,by omega⟩ (aR (by omega)) rfl ?_ hap.symm
    show o.length+(q++[(([]:List Cel),x)]).length=_;rw [Bv,List.length_singleton];omega)
  (by
   rw [List.take_length];have:(dfL k A B).length=(A.filterMap (nS k B)).length+(B.filterMap (tM k A)).length:=by unfold dfL;rw [Bv]
   rw [this];exact bCp (by omega)) (by simp)
 have e0:((A.filterMap (nS k B)).length+((B.take 0).filterMap (tM k A)).length)=(A.filterMap (nS k B)).length:=by simp
 have e1:(((A.filterMap (nS k B)).map chE).flatten++(((B.take 0).filterMap (tM k A)).map nlE).flatten)=((A.filterMap (nS k B)).map chE).flatten:=by simp
 rw [e0,e1] at L2
 refine cAp (D4:=dfL k A B) hA hB L1 L2 rfl ?_ Ba h1 (bJn hA hB);unfold dfL;rw [rW,bPr,cDj,rW,bMd]
end KV
end Go.Proofs
end
namespace Go.Proofs
namespace KV
open Tryz
section
variable {k:Int}{q q':Nat}

noncomputable abbrev aTn:Code:=sub (cd Tryz.f56) [1,0,1,0,0]
def qZ(k:Int)(A B:List (List Cel))(q:Nat):St:=⟨fr 29 [(2,(.ptr 0 0)),(3,(.ptr 1 0)),(11,(.p (.agg [(aB k),(.sl A.length (A.map aN)),(aB k),(.sl B.length (B.map aN))]))),(12,(pI (q:Int)))],[some (.box 26 [(pI k),(.p (.sl A.length (A.map aN)))]),some (.box 26 [(pI k),(.p (.sl B.length (B.map aN)))])]⟩
theorem cAl{A B:List (List Cel)}{Hk:Nat}(hl0:aF Tp 0 aTn (qZ k A B 0) (.exit 0) (qZ k A B Hk))(h1:k=k)(I9:fZ k A)(Sa:fZ k B)(J7:(dfL k A B).length≤12)(Sb:1≤(dfL k A B).length):FMM Tp 56 [(.p (.agg [(aB k),(.sl A.length (A.map aN))])),(.p (.agg [(aB k),(.sl B.length (B.map aN))]))] [] (.tup [(.p (.sl ((dfM k A B).length) (((dfM k A B).map chE).flatten))),(pI 0)]) []:=have k1:=fk 2 (FV.frz (aQh I9 Sa J7 Sb) rfl) rfl;FMM.fi 0 gE func56 [hl0.k 6 (gI bv [0,1]),bF,k1.o] (gc k1 (gc (bL h1) (gc hl0.code gn)))
theorem bCf{A B:List (List Cel)}(Ar:q=0)(h1:(dZ k A)=0)(D8:q'=1):aA Tp 0 aTn (qZ k A B q) .normal (qZ k A B q'):=by
 subst Ar;subst D8;exact aA.fi (gI bv [0,1]) [bT,.c (pI (dZ k A)) [],bF] (gt (inR 1) (by show _∧_;omega) (gc (bL h1) (gc (fk 3 (iQ k A) rfl) (gt (0+2≤[(aB k),(.sl A.length (A.map aN)),(aB k),(.sl B.length (B.map aN))].length) (by first | decide | simp) (gt (0≤(0:Int)∧(0:Int)<2) (by first | decide | simp) (gt ((decide ((0:Int)<2))=true) (by first | decide | simp) gn))))))
theorem bCg{A B:List (List Cel)}(Ar:q=1)(h1:(dZ k B)=0)(D8:q'=2):aA Tp 0 aTn (qZ k A B q) .normal (qZ k A B q'):=by
 subst Ar;subst D8;exact aA.fi (gI bv [0,1]) [bT,.c (pI (dZ k B)) [],bF] (gt (inR 2) (by show _∧_;omega) (gc (bL h1) (gc (fk 3 (iQ k B) rfl) (gt (2+2≤[(aB k),(.sl A.length (A.map aN)),(aB k),(.sl B.length (B.map aN))].length) (by first | decide | simp) (gt (0≤(1:Int)∧(1:Int)<2) (by first | decide | simp) (gt ((decide ((1:Int)<2))=true) (by first | decide | simp) gn))))))
theorem bCh{A B:List (List Cel)}(Ar:q=2)(D8:q'=2):aA Tp 0 aTn (qZ k A B q) (.exit 0) (qZ k A B q'):=by
 subst Ar;subst D8;exact aA.fi (gI bv [0,1]) [bF] (gt ((decide ((2:Int)<2))=false) (by first | decide | simp) gn)
theorem cAm{k:Int}{A B:List (List Cel)}(cA:dZ k A=0)(cB:dZ k B=0)(hA:fZ k A)(hB:fZ k B)(Ba:(dfL k A B).length≤12)(h1:1≤(dfL k A B).length){base:Nat}:FV Tp 56 [.p (.agg [aB k,bZ A]),.p (.agg [aB k,bZ B])] base (.tup [.p (.sl (dfM k A B).length (((dfM k A B).map chE).flatten)),.p (aB 0)]) [] :=
 FV.frz (cAl (.step (bCf rfl cA rfl) (.step (bCg rfl cB rfl) (.exit (bCh rfl rfl) (by simp)))) rfl hA hB Ba h1) rfl
end
section
variable {r0:Bool}{k:Int}{i j i' Ap base:Nat}

noncomputable abbrev pE:Code:=sub (cd Tryz.f254) [1,0,1,0,0]
noncomputable abbrev bJl:Code:=sub (cd Tryz.f53) [1,1,1,0,1,0,0]
noncomputable abbrev bJm:Code:=pS (cd Tryz.f53) 6 [0,1,0,0]
theorem cAd{c:Chg}(Al:r0=(decide (((crM c).length:Int) > 0))):FV Tp 144 [(.p (.agg [(.sl c.1.length ((c.1.map cE).flatten)),(.sl c.2.length ((c.2.map cE).flatten))]))] base (pB r0) []:=by
 subst Al;have k1:=fk 1 (mQ c.1 c.2) rfl;exact FV.fi func144 [k1.o] (gc k1 gn)
def neC(c:Chg):Bool:=decide (((crM c).length:Int) > 0)
theorem cAe(c:Chg){base:Nat}:FV Tp 144 [.p (.agg [aN c.1,aN c.2])] base (pB (neC c)) []:=cAd rfl
theorem cAf{c:Chg}(h0:(c.1.length:Int)=0):FV Tp 146 [(.p (.agg [(.sl c.1.length ((c.1.map cE).flatten)),(.sl c.2.length ((c.2.map cE).flatten))])),(.rp [(aB k)] 0)] base (pB true) []:=FV.fi func146 (rT 5) (Cg (dC h0) gn)
theorem cAg{c:Chg}(h0:(c.1.length:Int)≠0)(h1:(c.2.length:Int)=0):FV Tp 146 [(.p (.agg [(.sl c.1.length ((c.1.map cE).flatten)),(.sl c.2.length ((c.2.map cE).flatten))])),(.rp [(aB k)] 0)] base (pB true) []:=FV.fi func146 (rF 5++rT 10) (I2 (dC h1) (A4 (dC h1) (Cg (bJ h0) gn)))
section
variable{c:Chg}(h0:(c.1.length:Int)≠0)(h1:(c.2.length:Int)≠0)(h2:aM k≤(c.1.length:Int))(h3:aM k≤(c.2.length:Int))
include h0 h1 h2 h3
theorem cAh(h4:(bS k c.1 c.2)=0)(Jo:c.1.length≤100000)(Al:r0=(!(decide (c.1=c.2)))):FV Tp 146 [(.p (.agg [(.sl c.1.length ((c.1.map cE).flatten)),(.sl c.2.length ((c.2.map cE).flatten))])),(.rp [(aB k)] 0)] base (pB r0) []:=by
 subst Al;have k1:=fk 1 (mH k c.1 c.2 h2 h3) rfl;have k2:=fk 1 (qC c.1 c.2 Jo) rfl;exact FV.fi func146 (rF 6++[.x (aB k)]++rF 5++[k1.o,bF,bF]++rT 5++[k2.o,bT,bF,bT,bF]) (gc (bJ h1) (gc (dC h4) (gc (bJ h1) (gc (dC h4) (gc k2 (Cg (dC h4) (A4 (bJ h1) (gc k1 (Cg (bJ h1) (gr (aB k) (gc (bJ h1) (Cg (bJ h0) gn))))))))))))
theorem cAi(h4:(bS k c.1 c.2)≠0):FV Tp 146 [(.p (.agg [(.sl c.1.length ((c.1.map cE).flatten)),(.sl c.2.length ((c.2.map cE).flatten))])),(.rp [(aB k)] 0)] base (pB false) []:=have k1:=fk 1 (mH k c.1 c.2 h2 h3) rfl;FV.fi func146 (rF 6++[.x (aB k)]++rF 5++[k1.o]++rF 11) (gc (bJ h1) (gc (bJ h4) (gc (bJ h1) (G3 (bJ h4) (A4 (bJ h1) (gc k1 (Cg (bJ h1) (gr (aB k) (gc (bJ h1) (Cg (bJ h0) gn))))))))))
end
theorem bOz{x:Chg}(Al:r0=(!(neC x))):FMM Tp 205 [(.p (.agg [(.sl x.1.length ((x.1.map cE).flatten)),(.sl x.2.length ((x.2.map cE).flatten))])),(.ptr 0 0)] [some (.box 243 [(.fn 144 [] [])])] (pB r0) [some (.box 243 [(.fn 144 [] [])])]:=by
 subst Al;exact FMM.fi 1 gE func205 [.c (pB (neC x)) []] (gc (fk 2 (cAe x) rfl) gn)
theorem aTl(x:Chg)  : FMM Tp 205 [.p (.agg [aN x.1,aN x.2]),.ptr 0 0] [some (.box 243 [(.fn 144 [] [])])] (pB (!(neC x))) [some (.box 243 [(.fn 144 [] [])])]:=bOz rfl
def fW(l:List (List Cel × List Cel))(i:Nat):St:=⟨fr 19 [(0,(.p (.sl l.length ((l.map chE).flatten)))),(1,(.fn 205 [] [(.ptr 0 0)])),(7,(pI (l.length:Int))),(8,(pI (i:Int)))],[some (.box 243 [(.fn 144 [] [])])]⟩
theorem bPa{l:List (List Cel × List Cel)}(hl0:aF Tp 1 pE (fW l 0) (.exit 0) (fW l Ap)):FMM Tp 254 [(.p (.sl l.length ((l.map chE).flatten))),(.fn 205 [] [(.ptr 0 0)])] [some (.box 243 [(.fn 144 [] [])])] (pI (-1)) [some (.box 243 [(.fn 144 [] [])])]:=FMM.fi 1 gE func254 [hl0.k 6 (gZ cf)] (gc hl0.code gn)
theorem bPb{l:List (List Cel × List Cel)}(hl0:aF Tp 1 pE (fW l 0) .ret (cJ (fW l Ap) [(4,(pI (Ap:Int)))])):FMM Tp 254 [(.p (.sl l.length ((l.map chE).flatten))),(.fn 205 [] [(.ptr 0 0)])] [some (.box 243 [(.fn 144 [] [])])] (pI (Ap:Int)) [some (.box 243 [(.fn 144 [] [])])]:=FMM.fi 1 gE func254 [hl0.k 6 (gZ cf)] (gc hl0.code gn)
section
variable{l:List (List Cel × List Cel)}{Ah Ag:List Cel}(h0:(i:Int)<(l.length:Int))(h1:l[i]? = some (Ah,Ag))
include h0 h1
theorem aQb(h2:(neC (Ah,Ag))=false):aA Tp 1 pE (fW l i) .ret (cJ (fW l i) [(4,(pI (i:Int)))]):=have k1:=mq [0] 1 (aTl (Ah,Ag));aA.fi (gZ bt) [bT,.x (.agg [(.sl Ah.length ((Ah.map cE).flatten)),(.sl Ag.length ((Ag.map cE).flatten))]),k1.o,bT] (gc (dB h2) (gc k1 (gc (bG (E:=chE) (i:=i) (k:=2) (fun _=>rfl) h1 rfl) (gc (cC (E:=chE) (i:=i) (k:=2) (fun _=>rfl) h1) (gc (bB (E:=chE) (k:=2) (i:=(i:Int)) (fun _=>rfl) (by decide) (Bt _) h1) (g0 h0))))))
theorem aQc(h2:(neC (Ah,Ag))=true)(h3:cp i)(Ai:i'=(i+1)):aA Tp 1 pE (fW l i) .normal (fW l i'):=by
 subst Ai;have k1:=mq [0] 1 (aTl (Ah,Ag));exact aA.fi (gZ cf) [bT,.x (.agg [(.sl Ah.length ((Ah.map cE).flatten)),(.sl Ag.length ((Ag.map cE).flatten))]),k1.o,bF] (gc h3 (gc (aW h2) (gc k1 (gc (bG (E:=chE) (i:=i) (k:=2) (fun _=>rfl) h1 rfl) (gc (cC (E:=chE) (i:=i) (k:=2) (fun _=>rfl) h1) (gc (bB (E:=chE) (k:=2) (i:=(i:Int)) (fun _=>rfl) (by decide) (Bt _) h1) (g0 h0)))))))
end
theorem aQd{l:List (List Cel × List Cel)}(h0:(l.length:Int)≤(i:Int)):aA Tp 1 pE (fW l i) (.exit 0) (fW l i):=aA.fi (gZ cf) [bF] (gc (bH h0) gn)
theorem bPc(l:List Chg)(hl:l.length≤100000):FMM Tp 254 [.p (.sl l.length ((l.map chE).flatten)),(.fn 205 [] [(.ptr 0 0)])] [some (.box 243 [(.fn 144 [] [])])] (pI (nE (fun x => !(neC x)) l)) [some (.box 243 [(.fn 144 [] [])])]:=by
 rcases aF.find (P:=Tp) (k:=1) (b:=pE) (fun i=>fW l i) (fun i _=>cJ (fW l i) [(4,.p (aB (i:Int)))]) (fW l l.length) .ret (.exit 0) (by simp) (by simp) (fun x => !(neC x)) l
  (fun i x hx hp=>aQc (by have:=bC hx;omega) hx (by simpa using hp) (aR (by have:=bC hx;omega)) rfl)
  (fun i x hx hp=>aQb (by have:=bC hx;omega) hx (by simpa using hp))
  (aQd (l:=l) (i:=l.length) (by omega)) with ⟨i,x,h1,h2,h3,h4⟩ | ⟨h1,h2,h3⟩
 ·rw [jF h2];exact bPb h4
 ·rw [jG h1];exact bPa h3
theorem bPd{l:List (List Cel × List Cel)}(h0:l.length≤100000)(Al:r0=(decide ((nE (fun x => !(neC x)) l) ≥ 0))):FMM Tp 204 [(.p (.sl l.length ((l.map chE).flatten))),(.fn 205 [] [(.ptr 0 0)])] [some (.box 243 [(.fn 144 [] [])])] (pB r0) [some (.box 243 [(.fn 144 [] [])])]:=by
 subst Al;have k1:=mq [0] 1 (bPc l h0);exact FMM.fi 1 gE func204 [k1.o] (gc k1 gn)
theorem bPe(l:List Chg)(hl:l.length≤100000):FMM Tp 204 [.p (.sl l.length ((l.map chE).flatten)),(.fn 205 [] [(.ptr 0 0)])] [some (.box 243 [(.fn 144 [] [])])] (pB (l.any (fun x => !(neC x)))) [some (.box 243 [(.fn 144 [] [])])]:=bPd hl (lG _ _).symm
theorem bPf{l:List (List Cel × List Cel)}(h0:l.length≤100000)(Al:r0=(!(l.any (fun x => !(neC x))))):FV Tp 143 [(.p (.sl l.length ((l.map chE).flatten))),(.fn 144 [] [])] base (pB r0) []:=by
 subst Al;have k1:=mq [0] 1 (bPe l h0);exact FV.fi func143 [k1.o] (gc k1 gn)
theorem bPg(l:List Chg)(hl:l.length≤100000){base:Nat}:FV Tp 143 [.p (.sl l.length ((l.map chE).flatten)),(.fn 144 [] [])] base (pB (l.all (neC))) []:=bPf hl (by rw [List.all_eq_not_any_not])
def ckL(k:Int)(c:Chg):Prop:=(c.1.length=0∨aM k≤(c.1.length:Int))∧(c.2.length=0∨aM k≤(c.2.length:Int))∧c.1.length≤100000
def qW(k:Int)(c:Chg):Bool:=decide (c.1.length=0) || (decide (c.2.length=0) || (decide (bS k c.1 c.2=0) && !(decide (c.1=c.2))))
theorem cAj(c:Chg)(k:Int)(h:ckL k c){base:Nat}:FV Tp 146 [.p (.agg [aN c.1,aN c.2]),.rp [aB k] 0] base (pB (qW k c)) []:=by
 obtain ⟨h1,h2,h3⟩:=h;unfold qW
 by_cases q1:c.1.length=0
 ·rw [decide_eq_true q1,Bool.true_or];exact cAf (by omega)
 ·rw [decide_eq_false q1,Bool.false_or]
  by_cases q2:c.2.length=0
  ·rw [decide_eq_true q2,Bool.true_or];exact cAg (by omega) (by omega)
  ·rw [decide_eq_false q2,Bool.false_or]
   have k1:=h1.resolve_left q1;have k2:=h2.resolve_left q2
   by_cases q3:bS k c.1 c.2=0
   ·rw [decide_eq_true q3,aVy];exact cAh (by omega) (by omega) k1 k2 q3 h3 rfl
   ·rw [decide_eq_false q3,Bool.false_and];exact cAi (by omega) (by omega) k1 k2 q3
theorem bPh{x:Chg}(R8:ckL k x)(Al:r0=(!(qW k x))):FMM Tp 205 [(.p (.agg [(.sl x.1.length ((x.1.map cE).flatten)),(.sl x.2.length ((x.2.map cE).flatten))])),(.ptr 0 0)] [some (.box 243 [(.fn 146 [] [(.rp [(aB k)] 0)])])] (pB r0) [some (.box 243 [(.fn 146 [] [(.rp [(aB k)] 0)])])]:=by
 subst Al;exact FMM.fi 1 gE func205 [.c (pB (qW k x)) []] (gc (fk 2 (cAj x k R8) rfl) gn)
theorem aTm(x:Chg)(k:Int)(hx:ckL k x):FMM Tp 205 [.p (.agg [aN x.1,aN x.2]),.ptr 0 0] [some (.box 243 [(.fn 146 [] [(.rp [(aB k)] 0)])])] (pB (!(qW k x))) [some (.box 243 [(.fn 146 [] [(.rp [(aB k)] 0)])])]:=bPh hx rfl
def fX(l:List (List Cel × List Cel))(k:Int)(i:Nat):St:=⟨fr 19 [(0,(.p (.sl l.length ((l.map chE).flatten)))),(1,(.fn 205 [] [(.ptr 0 0)])),(7,(pI (l.length:Int))),(8,(pI (i:Int)))],[some (.box 243 [(.fn 146 [] [(.rp [(aB k)] 0)])])]⟩
theorem bPi{l:List (List Cel × List Cel)}(hl0:aF Tp 1 pE (fX l k 0) (.exit 0) (fX l k Ap)):FMM Tp 254 [(.p (.sl l.length ((l.map chE).flatten))),(.fn 205 [] [(.ptr 0 0)])] [some (.box 243 [(.fn 146 [] [(.rp [(aB k)] 0)])])] (pI (-1)) [some (.box 243 [(.fn 146 [] [(.rp [(aB k)] 0)])])]:=FMM.fi 1 gE func254 [hl0.k 6 (gZ cf)] (gc hl0.code gn)
theorem bPj{l:List (List Cel × List Cel)}(hl0:aF Tp 1 pE (fX l k 0) .ret (cJ (fX l k Ap) [(4,(pI (Ap:Int)))])):FMM Tp 254 [(.p (.sl l.length ((l.map chE).flatten))),(.fn 205 [] [(.ptr 0 0)])] [some (.box 243 [(.fn 146 [] [(.rp [(aB k)] 0)])])] (pI (Ap:Int)) [some (.box 243 [(.fn 146 [] [(.rp [(aB k)] 0)])])]:=FMM.fi 1 gE func254 [hl0.k 6 (gZ cf)] (gc hl0.code gn)
section
variable{l:List (List Cel × List Cel)}{Ah Ag:List Cel}(h0:(i:Int)<(l.length:Int))(h1:l[i]? = some (Ah,Ag))(E8:ckL k (Ah,Ag))
include h0 h1 E8
theorem aQe(h3:(qW k (Ah,Ag))=false):aA Tp 1 pE (fX l k i) .ret (cJ (fX l k i) [(4,(pI (i:Int)))]):=have k1:=mq [0] 1 (aTm (Ah,Ag) k E8);aA.fi (gZ bt) [bT,.x (.agg [(.sl Ah.length ((Ah.map cE).flatten)),(.sl Ag.length ((Ag.map cE).flatten))]),k1.o,bT] (gc (dB h3) (gc k1 (gc (bG (E:=chE) (i:=i) (k:=2) (fun _=>rfl) h1 rfl) (gc (cC (E:=chE) (i:=i) (k:=2) (fun _=>rfl) h1) (gc (bB (E:=chE) (k:=2) (i:=(i:Int)) (fun _=>rfl) (by decide) (Bt _) h1) (g0 h0))))))
theorem aQf(h3:(qW k (Ah,Ag))=true)(h4:cp i)(Ai:i'=(i+1)):aA Tp 1 pE (fX l k i) .normal (fX l k i'):=by
 subst Ai;have k1:=mq [0] 1 (aTm (Ah,Ag) k E8);exact aA.fi (gZ cf) [bT,.x (.agg [(.sl Ah.length ((Ah.map cE).flatten)),(.sl Ag.length ((Ag.map cE).flatten))]),k1.o,bF] (gc h4 (gc (aW h3) (gc k1 (gc (bG (E:=chE) (i:=i) (k:=2) (fun _=>rfl) h1 rfl) (gc (cC (E:=chE) (i:=i) (k:=2) (fun _=>rfl) h1) (gc (bB (E:=chE) (k:=2) (i:=(i:Int)) (fun _=>rfl) (by decide) (Bt _) h1) (g0 h0)))))))
end
theorem aQg{l:List (List Cel × List Cel)}(h0:(l.length:Int)≤(i:Int)):aA Tp 1 pE (fX l k i) (.exit 0) (fX l k i):=aA.fi (gZ cf) [bF] (gc (bH h0) gn)
theorem bPk(l:List Chg)(k:Int)(hl:l.length≤100000)(hL:∀ x∈l,ckL k x):FMM Tp 254 [.p (.sl l.length ((l.map chE).flatten)),(.fn 205 [] [(.ptr 0 0)])] [some (.box 243 [(.fn 146 [] [(.rp [(aB k)] 0)])])] (pI (nE (fun x => !(qW k x)) l)) [some (.box 243 [(.fn 146 [] [(.rp [(aB k)] 0)])])]:=by
 rcases aF.find (P:=Tp) (k:=1) (b:=pE) (fun i=>fX l k i) (fun i _=>cJ (fX l k i) [(4,.p (aB (i:Int)))]) (fX l k l.length) .ret (.exit 0) (by simp) (by simp) (fun x => !(qW k x)) l
  (fun i x hx hp=>aQf (by have:=bC hx;omega) hx (hL _ (B0 hx)) (by simpa using hp) (aR (by have:=bC hx;omega)) rfl)
  (fun i x hx hp=>aQe (by have:=bC hx;omega) hx (hL _ (B0 hx)) (by simpa using hp))
  (aQg (l:=l) (i:=l.length) (by omega)) with ⟨i,x,h1,h2,h3,h4⟩ | ⟨h1,h2,h3⟩
 ·rw [jF h2];exact bPj h4
 ·rw [jG h1];exact bPi h3
theorem bPl{l:List (List Cel × List Cel)}(h0:l.length≤100000)(Fq:∀ x∈l,ckL k x)(Al:r0=(decide ((nE (fun x => !(qW k x)) l) ≥ 0))):FMM Tp 204 [(.p (.sl l.length ((l.map chE).flatten))),(.fn 205 [] [(.ptr 0 0)])] [some (.box 243 [(.fn 146 [] [(.rp [(aB k)] 0)])])] (pB r0) [some (.box 243 [(.fn 146 [] [(.rp [(aB k)] 0)])])]:=by
 subst Al;have k1:=mq [0] 1 (bPk l k h0 Fq);exact FMM.fi 1 gE func204 [k1.o] (gc k1 gn)
theorem bPm(l:List Chg)(k:Int)(hl:l.length≤100000)(hL:∀ x∈l,ckL k x):FMM Tp 204 [.p (.sl l.length ((l.map chE).flatten)),(.fn 205 [] [(.ptr 0 0)])] [some (.box 243 [(.fn 146 [] [(.rp [(aB k)] 0)])])] (pB (l.any (fun x => !(qW k x)))) [some (.box 243 [(.fn 146 [] [(.rp [(aB k)] 0)])])]:=bPl hl hL (lG _ _).symm
theorem bPn{l:List (List Cel × List Cel)}(h0:l.length≤100000)(Fq:∀ x∈l,ckL k x)(Al:r0=(!(l.any (fun x => !(qW k x))))):FV Tp 143 [(.p (.sl l.length ((l.map chE).flatten))),(.fn 146 [] [(.rp [(aB k)] 0)])] base (pB r0) []:=by
 subst Al;have k1:=mq [0] 1 (bPm l k h0 Fq);exact FV.fi func143 [k1.o] (gc k1 gn)
theorem bPo(l:List Chg)(k:Int)(hl:l.length≤100000)(hL:∀ x∈l,ckL k x){base:Nat}:FV Tp 143 [.p (.sl l.length ((l.map chE).flatten)),(.fn 146 [] [(.rp [(aB k)] 0)])] base (pB (l.all (qW k))) []:=bPn hl hL (by rw [List.all_eq_not_any_not])
theorem bPp(k:Int)(R:List (List Cel))(h:R.length≤100000){base:Nat}:FV Tp 145 [.p (aB k),.p (.sl R.length ((R.map rwE).flatten))] base (pI (lI k R)) []:=by rw [fI];exact aGt k R h
def qX(k:Int)(l:List (List Cel × List Cel))(i rn:Nat)(rc:List PV):St:=⟨fr 67 [(1,(.p (.sl l.length ((l.map chE).flatten)))),(2,(.ptr 0 0)),(4,(pI 0)),(5,(.own 1)),(23,(.p (.sl l.length ((l.map chE).flatten)))),(24,(pI (l.length:Int))),(25,(pI (i:Int)))],[some (.box 23 [(pI k)]),some (.row 78 rn rc)]⟩
def qY(k:Int)(l:List (List Cel × List Cel))(j:Nat):St:=⟨fr 67 [(1,(.p (.sl l.length ((l.map chE).flatten)))),(2,(.ptr 0 0)),(9,(pI (j:Int)))],[some (.box 23 [(pI k)])]⟩
theorem cAk{l:List (List Cel × List Cel)}{Ic:List (List Cel)}{K5:Nat}(h0:(within k 0 4)=true)(h1:(l.length:Int)≤400)(h2:l.length≤100000)(h3:(l.all (neC))=true)(Fe:aF Tp 0 bJl (qX k l 0 0 []) (.exit 1) (qX k l Ap Ic.length ((Ic.map rwE).flatten)))(h5:Ic.length≤100000)(h6:(lI k Ic)=0)(R9:∀ x∈l,ckL k x)(h8:(l.all (qW k))=true)(K4:aF Tp 0 bJm (qY k l 1) (.exit 3) (qY k l K5)):FV Tp 53 [(pI k),(.p (.sl l.length ((l.map chE).flatten)))] base (pI 0) []:=have k1:=fk 1 (oN k) rfl;have k2:=fk 1 (bPg l h2) rfl;FV.fi func53 [k1.o,bF,bF,bF,k2.o,bF,bF,bF,Fe.k 6 (gN ay [0,1] [(5,78)]),.c (pI (lI k Ic)) [],bF,.c (pB (l.all (qW k))) [],bF,K4.k 4 (gI [0,1,3,6,10,57] [0])] (gc K4.code (gc (aW h8) (gt (FC Tp 143 [(.p (.sl l.length ((l.map chE).flatten))),(.fn 146 [] [(.ptr 0 0)])] [(0,(.box 23 [(pI k)]))] 2 (pB (l.all (qW k))) []) (fv (bPo l k h2 R9)) (gc (bL h6) (gt (FC Tp 145 [(pI k),(.own 1)] [(1,(.row 78 Ic.length ((Ic.map rwE).flatten)))] 2 (pI (lI k Ic)) []) (fv (bPp k Ic h5)) (gc Fe.code (gc (aW h3) (A4 (bH h1) (gc k2 (A4 (bH h1) (gc (aW h0) (gc k1 gn))))))))))))
theorem bCb{l:List (List Cel × List Cel)}{r:List (List Cel)}{Ah Ag:List Cel}{r':List (List Cel)}(h0:(i:Int)<(l.length:Int))(h1:l[i]? = some (Ah,Ag))(h2:[(PV.sl Ah.length ((Ah.map cE).flatten)),(.sl Ag.length ((Ag.map cE).flatten))].length=2*1∧r.length+2≤1000000)(h3:cp i)(Ai:i'=(i+1))(Dh:r'.length=(r.length+2))(Di:(r'.map rwE).flatten=(((r.map rwE).flatten)++[(PV.sl Ah.length ((Ah.map cE).flatten)),(.sl Ag.length ((Ag.map cE).flatten))])):aA Tp 0 bJl (qX k l i r.length ((r.map rwE).flatten)) .normal (qX k l i' r'.length ((r'.map rwE).flatten)):=by
 subst Ai;rw [Dh,Di];exact aA.fi (gI ay [0,4]) [bT,.x (.agg [(.sl Ah.length ((Ah.map cE).flatten)),(.sl Ag.length ((Ag.map cE).flatten))])] (gc h3 (gc h2 (gc (bG (E:=chE) (i:=i) (k:=2) (fun _=>rfl) h1 rfl) (gc (cC (E:=chE) (i:=i) (k:=2) (fun _=>rfl) h1) (gc (bB (E:=chE) (k:=2) (i:=(i:Int)) (fun _=>rfl) (by decide) (Bt _) h1) (g0 h0))))))
theorem bCc{l:List (List Cel × List Cel)}{r:List (List Cel)}(h0:(l.length:Int)≤(i:Int)):aA Tp 0 bJl (qX k l i r.length ((r.map rwE).flatten)) (.exit 1) (qX k l i r.length ((r.map rwE).flatten)):=aA.fi (gI ay [0,1]) [bF] (gc (bH h0) gn)
theorem bCd{l:List (List Cel × List Cel)}{Az A0 Bd Be:List Cel}{j':Nat}(h0:(j:Int)<(l.length:Int))(h1:inR ((j:Int)-1))(h2:l[((j:Int)-1).toNat]? = some (Az,A0))(h3:0≤((j:Int)-1))(h4:l[j]? = some (Bd,Be))(h5:aM k≤((crM (Az,A0)).length:Int))(h6:aM k≤((crM (Bd,Be)).length:Int))(h7:(bS k (crM (Az,A0)) (crM (Bd,Be)))<0)(h8:cp j)(Bz:j'=(j+1)):aA Tp 0 bJm (qY k l j) .normal (qY k l j'):=by
 subst Bz;have k1:=fk 1 (mQ (Az,A0).1 (Az,A0).2) rfl;have k2:=fk 9 (mQ (Bd,Be).1 (Bd,Be).2) rfl;have k3:=fk 17 (mH k (crM (Az,A0)) (crM (Bd,Be)) h5 h6) rfl;exact aA.fi (gI [0,1,3,6,10,57] [0]) [bT,.x (.agg [(.sl Az.length ((Az.map cE).flatten)),(.sl A0.length ((A0.map cE).flatten))]),k1.o,.x (.agg [(.sl Bd.length ((Bd.map cE).flatten)),(.sl Be.length ((Be.map cE).flatten))]),k2.o,k3.o,bF] (gc h8 (gc (eL h7) (gc k3 (gc k2 (gc (bG (E:=chE) (i:=j) (k:=2) (fun _=>rfl) h4 rfl) (gc (cC (E:=chE) (i:=j) (k:=2) (fun _=>rfl) h4) (gc (bB (E:=chE) (k:=2) (i:=(j:Int)) (fun _=>rfl) (by decide) (Bt _) h4) (gc k1 (gc (bG (E:=chE) (i:=((j:Int)-1).toNat) (k:=2) (fun _=>rfl) h2 rfl) (gc (cC (E:=chE) (i:=((j:Int)-1).toNat) (k:=2) (fun _=>rfl) h2) (gc (bB (E:=chE) (k:=2) (i:=((j:Int)-1)) (fun _=>rfl) (by decide) h3 h2) (gc h1 (g0 h0)))))))))))))
theorem bCe{l:List (List Cel × List Cel)}(h0:(l.length:Int)≤(j:Int)):aA Tp 0 bJm (qY k l j) (.exit 3) (qY k l j):=aA.fi (gI [0,1,3,6,10,57] [0]) [bF] (gc (bH h0) gn)
end
end KV
end Go.Proofs
section
namespace Go.Proofs
open Go.RowKit
namespace KV
open Tryz
set_option maxRecDepth 1000000
def pD(l:List Chg):List (List Cel):=l.flatMap fun c=>[c.1,c.2]
def cEf(k:Int)(l:List Chg):Bool:=(l.zip l.tail).all fun p=>decide (bS k (crM p.1) (crM p.2)<0)
structure bOy (k:Int) (l:List Chg):Prop where
 w:within k 0 4=true
 n:l.length≤400
 ne:l.all neC=true
 ck:lI k (pD l)=0
 pai:l.all (qW k)=true
 L:∀ x∈l,ckL k x
 kk:∀ x∈l,aM k≤((crM x).length:Int)
 ord:cEf k l=true
theorem aBq(l:List Chg)(c:Chg):pD (l++[c])=pD l++[c.1,c.2]:=by simp [pD]
theorem wK:∀ l:List Chg,(pD l).length=2*l.length
 | []=>rfl
 | c::l=>by
  have:=wK l;show ([c.1,c.2]++pD l).length=2*(l.length+1);rw [Bv,this];show 2+_=_;omega
theorem cAc{k:Int}{l:List Chg}(h:bOy k l){base:Nat}:FV Tp 53 [.p (aB k),.p (.sl l.length ((l.map chE).flatten))] base (.p (aB 0)) []:=by
 have hn:=h.n;have L1:=aF.count (P:=Tp) (k:=0) (b:=(sub (cd Tryz.f53) bq)) (e := .exit 1) (R:=qX k l l.length (pD l).length (((pD l).map rwE).flatten)) l.length
  (fun i=>qX k l i (pD (l.take i)).length (((pD (l.take i)).map rwE).flatten))
  (fun i hi=>by
   have hx:l[i]? = some l[i]:=Bw hi;have et:l.take (i+1)=l.take i++[l[i]]:=by rw [List.take_add_one,hx];rfl
   have hl:=wK (l.take i);rw [pF] at hl
   generalize l[i]=x at hx et
   obtain ⟨b,a⟩:=x;exact bCb (r:=pD (l.take i)) (r':=pD (l.take (i+1))) (by omega) hx ⟨rfl,by omega⟩ (aR (by omega)) rfl (by rw [et,aBq];simp) (by rw [et,aBq];simp [rwE,aN]))
  (by rw [List.take_length];exact bCc (by omega)) (by simp)
 have L2:∀ d j,1≤j→j+d=max 1 l.length→aF Tp 0 (sub (cd Tryz.f53) bb) (qY k l j) (.exit 3) (qY k l (max 1 l.length)):=by
  intro d
  induction d with
  | zero =>
   intro j hj hd;obtain rfl:j=max 1 l.length:=by omega
   exact .exit (bCe (by omega)) (by simp)
  | succ d ih =>
   intro j hj hd;have hlt:j<l.length:=by omega
   have hx:l[j]? = some l[j]:=Bw hlt;have hy:l[j-1]? = some (l[j-1]'(by omega)):=Bw (by omega)
   have ho:bS k (crM (l[j-1]'(by omega))) (crM l[j])<0:=by
    have:=iD.1 h.ord (l[j-1]'(by omega),l[j]) (by
     refine B0 (i:=j-1) ?_;rw [List.getElem?_zip_eq_some];refine ⟨hy,?_⟩;rw [List.getElem?_tail,show j-1+1=j by omega]
     exact hx)
    exact of_decide_eq_true this
   have kx:=h.kk _ (iC hlt);have ky:=h.kk _ (iC (show j-1<l.length by omega))
   have R7:l[((j:Int)-(1:Int)).toNat]? = some (l[j-1]'(by omega)):=by rw [show ((j:Int)-(1:Int)).toNat=j-1 by omega];exact hy
   refine .step (bCd (by omega) (by show _∧_;omega) R7 (by omega) hx ky kx ho (aR (by omega)) rfl) (ih (j+1) (by omega) (by omega))
 exact cAk h.w (by omega) (by omega) h.ne L1 (by rw [wK];omega) h.ck h.L h.pai (L2 (max 1 l.length-1) 1 (dD _) (by omega))
end KV
end Go.Proofs
end
namespace Go.Proofs
namespace KV
open Tryz
section
variable {k:Int}{h i j h' i' j':Nat}

noncomputable abbrev aTj:Code:=sub (cd Tryz.f59) [1,1,1,1,0,1,0,0]
noncomputable abbrev aLk:Code:=pS (cd Tryz.f59) 6 [0,1,0,0]
noncomputable abbrev aTk:Code:=pS (cd Tryz.f59) 7 [0,1,0,0]
theorem bRy:((0:Int) != 0)=false:=by first | decide | simp
theorem aHm(k:Int)(R:List (List Cel))(h:dZ k R=0){base:Nat}:FV Tp 102 [.p (.agg [aB k,bZ R])] base (pI 0) []:=h ▸ iQ k R
def eW(k:Int)(L:List (List Cel × List Cel)):List (Value × PV):=L.map fun p=>(iW k p.1,aN p.2)
def mO(k:Int)(R:List (List Cel))(l:List (List Cel × List Cel))(i:Nat)(me:List (Value × PV))(mk:Nat):St:=⟨fr 114 [(1,(.p (.sl l.length ((l.map chE).flatten)))),(2,(.ptr 0 0)),(4,(.ptr 1 0)),(8,(.mp 2)),(34,(.p (.sl l.length ((l.map chE).flatten)))),(35,(pI (l.length:Int))),(36,(pI (i:Int)))],[some (.box 26 [(pI k),(.p (.sl R.length (R.map aN)))]),some (.box 26 [(pI 0),(.p bK)]),some (.mp me mk)]⟩
def kM(k:Int)(R:List (List Cel))(l Ct:List (List Cel × List Cel))(j on:Nat)(oc:List PV):St:=⟨fr 114 [(1,(.p (.sl l.length ((l.map chE).flatten)))),(2,(.ptr 0 0)),(4,(.ptr 1 0)),(8,(.mp 2)),(12,(.ptr 3 0)),(62,(.p (.sl R.length (R.map aN)))),(63,(pI (R.length:Int))),(64,(pI (j:Int)))],[some (.box 26 [(pI k),(.p (.sl R.length (R.map aN)))]),some (.box 26 [(pI 0),(.p bK)]),some (.mp ((eW k) Ct) Ct.length),some (.box 26 [(pI k),(.own 4)]),some (.row 78 on oc)]⟩
def mP(k:Int)(R:List (List Cel))(l:List (List Cel × List Cel))(h un:Nat)(uc:List PV):St:=⟨fr 114 [(2,(.ptr 0 0)),(4,(.ptr 1 0)),(12,(.ptr 2 0)),(85,(.p (.sl l.length ((l.map chE).flatten)))),(86,(pI (l.length:Int))),(87,(pI (h:Int)))],[some (.box 26 [(pI k),(.p (.sl R.length (R.map aN)))]),some (.box 26 [(pI 0),(.p bK)]),some (.box 26 [(pI k),(.own 3)]),some (.row 78 un uc)]⟩
theorem cAb{R:List (List Cel)}{l:List (List Cel × List Cel)}{Ap:Nat}{Ct:List (List Cel × List Cel)}{K5:Nat}{Ma:List (List Cel)}{R5:Nat}{H2:List (List Cel)}(Lu:dZ k R=0)(Ls:bOy k l)(I9:fZ k R)(Em:aF Tp 0 aTj (mO k R l 0 (bO k R) R.length) (.exit 0) (mO k R l Ap ((eW k) Ct) Ct.length))(Fe:aF Tp 0 aLk (kM k R l Ct 0 0 []) (.exit 2) (kM k R l Ct K5 Ma.length ((Ma.map rwE).flatten)))(C3:aF Tp 0 aTk (mP k R l 0 Ma.length ((Ma.map rwE).flatten)) (.exit 4) (mP k R l R5 H2.length ((H2.map rwE).flatten)))(h6:(H2.length:Int)≤200)(N3:H2.length≤12)(N4:1≤H2.length)(R6:∀ x∈H2,aM k≤(x.length:Int)):FMM Tp 59 [(.p (.agg [(aB k),(.sl R.length (R.map aN))])),(.p (.sl l.length ((l.map chE).flatten)))] [] (.tup [(.p (.agg [(aB k),(.sl ((isG (bS k) H2).length) (((isG (bS k) H2).map rwE).flatten))])),(pI 0)]) []:=have k1:=mq [3,0] 4 (cAy (D:=H2) (k:=k) (R:=R) N3 N4 R6);FMM.fi 0 ⟨[],[],[3],[]⟩ func59 [.c (pI 0) [],bF,.c (pI 0) [],bF,.c (.mp 2) [(2,(.mp (bO k R) R.length))],Em.k 4 (gI aa [0,1,2]),Fe.k 6 (gN ad ce [(103001,78)]),C3.k 4 (gI av [0,1,3,4]),bF,k1.o] (gc k1 (gc (bH h6) (gc C3.code (gc Fe.code (gc Em.code (gt (FC Tp 149 [(.p (.agg [(aB k),(.sl R.length (R.map aN))]))] [] 2 (.mp 2) [(2,(.mp (bO k R) R.length))]) (FMM.fcN (k:=1) rfl (ids:=[]) (aQi I9) (by kernel_rfl)) (gc bRy (gc (fk 2 (cAc Ls) rfl) (gc bRy (gc (fk 2 (aHm k R Lu) rfl) gn))))))))))
section
variable{l m:List (List Cel × List Cel)}{Ah Ag:List Cel}(h0:(i:Int)<(l.length:Int))(h1:l[i]? = some (Ah,Ag))(h2:aM k≤((crM (Ah,Ag)).length:Int))(h3:eO Tp 186 ((eW k) m) (k3V (aK k (crM (Ah,Ag)) 0) (aK k (crM (Ah,Ag)) 1) (aK k (crM (Ah,Ag)) 2)))
include h0 h1 h2 h3
theorem bBr{R:List (List Cel)}{F5:List Cel}{m':List (List Cel × List Cel)}(h4:(iB ((eW k) m) (k3V (aK k (crM (Ah,Ag)) 0) (aK k (crM (Ah,Ag)) 1) (aK k (crM (Ah,Ag)) 2)))=true)(h5:gV ((eW k) m) (k3V (aK k (crM (Ah,Ag)) 0) (aK k (crM (Ah,Ag)) 1) (aK k (crM (Ah,Ag)) 2))=some (.sl F5.length ((F5.map cE).flatten)))(Gu:F5.length≤100000)(h7:(decide (F5=Ah))=true)(h8:cp i)(Ai:i'=(i+1))(E2:(eW k) m'=(aJf ((eW k) m) (k3V (aK k (crM (Ah,Ag)) 0) (aK k (crM (Ah,Ag)) 1) (aK k (crM (Ah,Ag)) 2)) (.sl Ag.length ((Ag.map cE).flatten))))(E3:m'.length=m.length):aA Tp 0 aTj (mO k R l i ((eW k) m) m.length) .normal (mO k R l i' ((eW k) m') m'.length):=by
 subst Ai;have k1:=fk 4 (mQ (Ah,Ag).1 (Ah,Ag).2) rfl;have k2:=fk 12 (eJ k (crM (Ah,Ag)) h2) rfl;have k3:=fk 21 (qC F5 Ah Gu) rfl;rw [E2,E3];exact aA.fi (gI aa [0,1,2]) [bT,.x (.agg [(.sl Ah.length ((Ah.map cE).flatten)),(.sl Ag.length ((Ag.map cE).flatten))]),k1.o,k2.o,bT,.x (.sl F5.length ((F5.map cE).flatten)),k3.o,bF,bT] (gc h8 (gc h4 (gc h3 (gc (aW h7) (gc k3 (gc h5 (gc h4 (gc h3 (gc k2 (gc k1 (gc (bG (E:=chE) (i:=i) (k:=2) (fun _=>rfl) h1 rfl) (gc (cC (E:=chE) (i:=i) (k:=2) (fun _=>rfl) h1) (gc (bB (E:=chE) (k:=2) (i:=(i:Int)) (fun _=>rfl) (by decide) (Bt _) h1) (g0 h0))))))))))))))
theorem bBs{R:List (List Cel)}{m':List (List Cel × List Cel)}(h4:(iB ((eW k) m) (k3V (aK k (crM (Ah,Ag)) 0) (aK k (crM (Ah,Ag)) 1) (aK k (crM (Ah,Ag)) 2)))=false)(Jo:([]:List Cel).length≤100000)(h6:(decide (([]:List Cel)=Ah))=true)(h7:cp i)(Ai:i'=(i+1))(E2:(eW k) m'=(((eW k) m)++[((k3V (aK k (crM (Ah,Ag)) 0) (aK k (crM (Ah,Ag)) 1) (aK k (crM (Ah,Ag)) 2)),(.sl Ag.length ((Ag.map cE).flatten)))]))(E3:m'.length=(m.length+1)):aA Tp 0 aTj (mO k R l i ((eW k) m) m.length) .normal (mO k R l i' ((eW k) m') m'.length):=by
 subst Ai;have k1:=fk 4 (mQ (Ah,Ag).1 (Ah,Ag).2) rfl;have k2:=fk 12 (eJ k (crM (Ah,Ag)) h2) rfl;rw [E2,E3];exact aA.fi (gI aa [0,1,2]) [bT,.x (.agg [(.sl Ah.length ((Ah.map cE).flatten)),(.sl Ag.length ((Ag.map cE).flatten))]),k1.o,k2.o,bF,.c (pB (decide (([]:List Cel)=Ah))) [],bF,bF] (gc h7 (gc h4 (gc h3 (gc (aW h6) (gt (FC Tp 107 [(.p bK),(.p (.sl Ah.length ((Ah.map cE).flatten)))] [] 21 (pB (decide (([]:List Cel)=Ah))) []) (FV.fc (FV.argwk (qC ([]:List Cel) Ah Jo) rfl) rfl) (gc h4 (gc h3 (gc k2 (gc k1 (gc (bG (E:=chE) (i:=i) (k:=2) (fun _=>rfl) h1 rfl) (gc (cC (E:=chE) (i:=i) (k:=2) (fun _=>rfl) h1) (gc (bB (E:=chE) (k:=2) (i:=(i:Int)) (fun _=>rfl) (by decide) (Bt _) h1) (g0 h0)))))))))))))
end
theorem bBt{R:List (List Cel)}{l m:List (List Cel × List Cel)}(h0:(l.length:Int)≤(i:Int)):aA Tp 0 aTj (mO k R l i ((eW k) m) m.length) (.exit 0) (mO k R l i ((eW k) m) m.length):=aA.fi (gI aa [0,1,2]) [bF] (gc (bH h0) gn)
section
variable{R:List (List Cel)}{Ct:List (List Cel × List Cel)}{Ac Bj:List Cel}(h0:(j:Int)<(R.length:Int))(h1:R[j]? = some Ac)(h2:aM k≤(Ac.length:Int))(h3:eO Tp 186 ((eW k) Ct) (k3V (aK k Ac 0) (aK k Ac 1) (aK k Ac 2)))(h4:(iB ((eW k) Ct) (k3V (aK k Ac 0) (aK k Ac 1) (aK k Ac 2)))=true)(h5:gV ((eW k) Ct) (k3V (aK k Ac 0) (aK k Ac 1) (aK k Ac 2))=some (.sl Bj.length ((Bj.map cE).flatten)))
include h0 h1 h2 h3 h4 h5
theorem bBu{l:List (List Cel × List Cel)}{o o':List (List Cel)}(h6:(0:Int)<(Bj.length:Int))(K6:Bj.length≤1000000)(h8:[(PV.sl Bj.length ((Bj.map cE).flatten))].length=1*1∧o.length+1≤1000000)(h9:cp j)(Bz:j'=(j+1))(Dj:o'.length=(o.length+1))(Dk:(o'.map rwE).flatten=(((o.map rwE).flatten)++[(PV.sl Bj.length ((Bj.map cE).flatten))])):aA Tp 0 aLk (kM k R l Ct j o.length ((o.map rwE).flatten)) .normal (kM k R l Ct j' o'.length ((o'.map rwE).flatten)):=by
 subst Bz;have k1:=fk 5 (eJ k Ac h2) rfl;have k2:=fk 5 (rA Bj K6) rfl;rw [Dj,Dk];exact aA.fi (gI ad [0,1,2,3,14]) [bT,.x (.sl Ac.length ((Ac.map cE).flatten)),k1.o,bT,.x (.sl Bj.length ((Bj.map cE).flatten)),bT,k2.o] (gc h9 (gc h8 (gc k2 (gc (cN h6) (gc h5 (gc h4 (gc h3 (gc k1 (gc (atm aN h1) (gc (ixn aN h1) (g0 h0)))))))))))
theorem bBv{l:List (List Cel × List Cel)}{o:List (List Cel)}(h6:(Bj.length:Int)≤0)(h7:cp j)(Bz:j'=(j+1)):aA Tp 0 aLk (kM k R l Ct j o.length ((o.map rwE).flatten)) .normal (kM k R l Ct j' o.length ((o.map rwE).flatten)):=by
 subst Bz;have k1:=fk 5 (eJ k Ac h2) rfl;exact aA.fi (gI ad ce) [bT,.x (.sl Ac.length ((Ac.map cE).flatten)),k1.o,bT,.x (.sl Bj.length ((Bj.map cE).flatten)),bF] (gc h7 (gc (bH h6) (gc h5 (gc h4 (gc h3 (gc k1 (gc (atm aN h1) (gc (ixn aN h1) (g0 h0)))))))))
end
theorem bBw{R:List (List Cel)}{l Ct:List (List Cel × List Cel)}{o:List (List Cel)}{Ac:List Cel}(h0:(j:Int)<(R.length:Int))(h1:R[j]? = some Ac)(h2:aM k≤(Ac.length:Int))(h3:eO Tp 186 ((eW k) Ct) (k3V (aK k Ac 0) (aK k Ac 1) (aK k Ac 2)))(h4:(iB ((eW k) Ct) (k3V (aK k Ac 0) (aK k Ac 1) (aK k Ac 2)))=false)(h5:cp j)(Bz:j'=(j+1)):aA Tp 0 aLk (kM k R l Ct j o.length ((o.map rwE).flatten)) .normal (kM k R l Ct j' o.length ((o.map rwE).flatten)):=by
 subst Bz;have k1:=fk 5 (eJ k Ac h2) rfl;exact aA.fi (gI ad ce) [bT,.x (.sl Ac.length ((Ac.map cE).flatten)),k1.o,bF,bF] (gc h5 (gt ((decide ((0:Int) > 0))=false) (by first | decide | simp) (gc h4 (gc h3 (gc k1 (gc (atm aN h1) (gc (ixn aN h1) (g0 h0))))))))
theorem bBx{R:List (List Cel)}{l Ct:List (List Cel × List Cel)}{o:List (List Cel)}(h0:(R.length:Int)≤(j:Int)):aA Tp 0 aLk (kM k R l Ct j o.length ((o.map rwE).flatten)) (.exit 2) (kM k R l Ct j o.length ((o.map rwE).flatten)):=aA.fi (gI ad ce) [bF] (gc (bH h0) gn)
section
variable{l:List (List Cel × List Cel)}{Au Ao:List Cel}(h0:(h:Int)<(l.length:Int))(h1:l[h]? = some (Au,Ao))
include h0 h1
theorem bBy{R u u':List (List Cel)}(h2:(Au.length:Int)=0)(K0:Ao.length≤1000000)(h4:[(PV.sl Ao.length ((Ao.map cE).flatten))].length=1*1∧u.length+1≤1000000)(h5:cp h)(N5:h'=(h+1))(N6:u'.length=(u.length+1))(N7:(u'.map rwE).flatten=(((u.map rwE).flatten)++[(PV.sl Ao.length ((Ao.map cE).flatten))])):aA Tp 0 aTk (mP k R l h u.length ((u.map rwE).flatten)) .normal (mP k R l h' u'.length ((u'.map rwE).flatten)):=by
 subst N5;have k1:=fk 5 (rA Ao K0) rfl;rw [N6,N7];exact aA.fi (gI av [0,1,2,14]) [bT,.x (.agg [(.sl Au.length ((Au.map cE).flatten)),(.sl Ao.length ((Ao.map cE).flatten))]),bT,k1.o] (gc h5 (gc h4 (gc k1 (gc (dC h2) (gc (bG (E:=chE) (i:=h) (k:=2) (fun _=>rfl) h1 rfl) (gc (cC (E:=chE) (i:=h) (k:=2) (fun _=>rfl) h1) (gc (bB (E:=chE) (k:=2) (i:=(h:Int)) (fun _=>rfl) (by decide) (Bt _) h1) (g0 h0))))))))
theorem bBz{R u:List (List Cel)}(h2:(Au.length:Int)≠0)(h3:cp h)(N5:h'=(h+1)):aA Tp 0 aTk (mP k R l h u.length ((u.map rwE).flatten)) .normal (mP k R l h' u.length ((u.map rwE).flatten)):=by
 subst N5;exact aA.fi (gI av co) [bT,.x (.agg [(.sl Au.length ((Au.map cE).flatten)),(.sl Ao.length ((Ao.map cE).flatten))]),bF] (gc h3 (gc (bJ h2) (gc (bG (E:=chE) (i:=h) (k:=2) (fun _=>rfl) h1 rfl) (gc (cC (E:=chE) (i:=h) (k:=2) (fun _=>rfl) h1) (gc (bB (E:=chE) (k:=2) (i:=(h:Int)) (fun _=>rfl) (by decide) (Bt _) h1) (g0 h0))))))
end
theorem bCa{R:List (List Cel)}{l:List (List Cel × List Cel)}{u:List (List Cel)}(h0:(l.length:Int)≤(h:Int)):aA Tp 0 aTk (mP k R l h u.length ((u.map rwE).flatten)) (.exit 4) (mP k R l h u.length ((u.map rwE).flatten)):=aA.fi (gI av co) [bF] (gc (bH h0) gn)
end
end KV
end Go.Proofs
section
namespace Go.Proofs
open Go.RowKit
namespace KV
open Tryz
set_option maxRecDepth 1000000
abbrev RM:=List (List Cel × List Cel)
def kP(k:Int)(m:RM)(r:List Cel):Option (List Cel):=(m.find? fun p=>decide (Av k p.1=Av k r)).map (·.2)
def aBn(k:Int)(c:Chg):RM→RM
 | []=>[]
 | p::r=>if Av k p.1=Av k (crM c) then (crM c,c.2)::r else p::aBn k c r
def aBo(k:Int)(m:RM)(c:Chg):RM:=if (kP k m (crM c)).isSome=true then aBn k c m else m++[(crM c,c.2)]
def apF(k:Int)(m:RM)(c:Chg):Option RM:=if (kP k m (crM c)).getD []=c.1 then some (aBo k m c) else none
structure aEw (k:Int) (m:RM):Prop where
 ky:∀ p∈m,kQ k p.1
 nd:(m.map fun p=>Av k p.1).Nodup
 len:∀ p∈m,p.2.length≤1000
theorem bJi(k:Int)(m:RM)(r:List Cel):iB (eW k m) (iW k r)=(kP k m r).isSome:=by
 unfold iB eW kP;rw [List.any_map,Option.isSome_map,Bool.eq_iff_iff,List.find?_isSome,List.any_eq_true];rfl
theorem aTh(k:Int)(m:RM)(r:List Cel):gV (eW k m) (iW k r)=(kP k m r).map aN:=by
 unfold gV eW kP;rw [List.find?_map];have e:((fun e:Value × PV=>decide (kG e.1=kG (iW k r))) ∘ fun p:List Cel × List Cel=>(iW k p.1,aN p.2))=fun p=>decide (Av k p.1=Av k r):=rfl
 rw [e];cases List.find? (fun p:List Cel × List Cel=>decide (Av k p.1=Av k r)) m <;> rfl
theorem bJj(k:Int)(c:Chg):∀ m:RM,aJf (eW k m) (iW k (crM c)) (aN c.2)=eW k (aBn k c m)
 | []=>rfl
 | p::m=>by
  have ih:=bJj k c m;unfold eW at ih ⊢
  rw [gS];unfold aJf aBn;have e:kG (iW k p.1,aN p.2).1=kG (iW k (crM c))↔Av k p.1=Av k (crM c):=Iff.rfl
  by_cases h:Av k p.1=Av k (crM c)
  ·rw [if_pos (e.2 h),if_pos h];rfl
  ·rw [if_neg (fun h2=>h (e.1 h2)),if_neg h,ih];rfl
theorem aLi(k:Int)(c:Chg):∀ m:RM,(aBn k c m).length=m.length
 | []=>rfl
 | p::m=>by
  unfold aBn
  split
  ·rfl
  ·rw [Cb,aLi k c m,Cb]
theorem aEx(k:Int)(c:Chg):∀ m:RM,((aBn k c m).map fun p=>Av k p.1)=m.map fun p=>Av k p.1
 | []=>rfl
 | p::m=>by
  unfold aBn
  split
  ·rename_i h
   rw [gS,gS,h]
  ·rw [gS,gS,aEx k c m]
theorem aBp{k:Int}{c:Chg}{p:List Cel × List Cel}:∀ {m:RM},p∈aBn k c m→p∈m∨p=(crM c,c.2)
 | [],h=>by cases h
 | q::m,h=>by
  unfold aBn at h
  split at h
  ·rcases jU.1 h with rfl | h
   ·exact .inr rfl
   ·exact .inl (Cn _ h)
  ·rcases jU.1 h with rfl | h
   ·exact .inl (jT ..)
   ·exact (aBp h).imp (Cn _) id
theorem aTi{k:Int}{m:RM}{r:List Cel}(h:aEw k m)(hr:kQ k r):eO Tp 186 (eW k m) (iW k r):=by
 refine ⟨Ed,fun e he => ?_,lA hr,fun e he h => ?_,?_⟩
 ·obtain ⟨x,hx,rfl⟩:=rX.1 he
  exact lA (h.ky x hx)
 ·obtain ⟨x,hx,rfl⟩:=rX.1 he
  exact aHs h
 ·unfold eW
  rw [aAk];exact h.nd
theorem bBq{k:Int}{m:RM}{r:List Cel}(h:kP k m r=none):∀ p∈m,Av k p.1≠Av k r:=fun p hp e=>by
 unfold kP at h
 rw [Option.map_eq_none_iff,List.find?_eq_none] at h
 exact h p hp (by simp [e])
theorem bOx{k:Int}{m:RM}{c:Chg}(h:aEw k m)(hc:kQ k (crM c))(hl:c.2.length≤1000):aEw k (aBo k m c):=by
 unfold aBo
 split
 ·refine ⟨fun p hp => ?_,by rw [aEx];exact h.nd,fun p hp => ?_⟩
  ·rcases aBp hp with h2 | rfl
   ·exact h.ky p h2
   ·exact hc
  ·rcases aBp hp with h2 | rfl
   ·exact h.len p h2
   ·exact hl
 ·rename_i hn
  have hn:kP k m (crM c)=none:=by simpa using hn
  refine ⟨fun p hp => ?_,?_,fun p hp => ?_⟩
  ·rcases nC.1 hp with h2 | h2
   ·exact h.ky p h2
   ·rw [List.mem_singleton] at h2;subst h2;exact hc
  ·rw [rW,List.nodup_append]
   refine ⟨h.nd,by simp,fun a ha b hb => ?_⟩
   obtain ⟨p,hp,rfl⟩:=rX.1 ha;rw [List.map_singleton,List.mem_singleton] at hb
   subst hb;exact bBq hn p hp
  ·rcases nC.1 hp with h2 | h2
   ·exact h.len p h2
   ·rw [List.mem_singleton] at h2;subst h2;exact hl
theorem aLj{k:Int}{m:RM}{r y:List Cel}(h:kP k m r=some y):∃ p∈m,y=p.2:=by
 unfold kP at h
 obtain ⟨p,hp,rfl⟩:=C7.1 h;exact ⟨p,bMb hp,rfl⟩
theorem bJk{k:Int}{m:RM}{c:Chg}:(aBo k m c).length=if (kP k m (crM c)).isSome=true then m.length else m.length+1:=by
 unfold aBo
 split
 ·exact aLi k c m
 ·simp
theorem aQa{k:Int}{R:List (List Cel)}{l:List Chg}(hl:l.length≤400)(hk:∀ x∈l,aM k≤((crM x).length:Int))(hy:∀ x∈l,kQ k (crM x))(h2:∀ x∈l,x.1.length≤1000∧x.2.length≤1000) :
  ∀ (q:List Chg) (i:Nat) (m m1:RM),l.drop i=q→aEw k m→i+q.length=l.length→q.foldlM (apF k) m=some m1→aEw k m1∧aF Tp 0 (sub (cd Tryz.f59) bl) (mO k R l i (eW k m) m.length) (.exit 0) (mO k R l l.length (eW k m1) m1.length)
 | [],i,m,m1,hq,hm,hi,hf=>by
  cases hf;have:i=l.length:=by simpa using hi
  subst this;exact ⟨hm,.exit (bBt (by omega)) (by simp)⟩
 | c::q,i,m,m1,hq,hm,hi,hf=>by
  have hlt:i<l.length:=by rw [Cb] at hi;omega
  have hx:l[i]? = some c:=by
   have:=congrArg (fun l:List Chg=>l[0]?) hq
   simpa using this
  have Kf:l.drop (i+1)=q:=by
   have:=congrArg List.tail hq;rw [List.tail_drop] at this;exact this
  have hc:=B0 hx;have hK:=aTi hm (hy c hc);have hhit:=bJi k m (crM c);have hlook:=aTh k m (crM c);have hul:=bJk (k:=k) (m:=m) (c:=c);have hok:=bOx hm (hy c hc) (h2 c hc).2;rw [List.foldlM_cons] at hf
  unfold apF at hf
  cases hlk:kP k m (crM c) with
  | some y =>
   rw [hlk] at hf hhit hlook hul
   obtain ⟨p,hp,rfl⟩:=aLj hlk;have hpl:=hm.len p hp
   by_cases he:p.2=c.1
   ·rw [Option.getD_some,if_pos he] at hf
    obtain ⟨h3,L⟩:=aQa hl hk hy h2 q (i+1) _ _ Kf hok (by rw [Cb] at hi;omega) hf
    have hupd:aBo k m c=aBn k c m:=by unfold aBo;rw [hlk];rfl
    refine ⟨h3,.step (bBr (Ah:=c.1) (Ag:=c.2) (m':=aBo k m c) (by omega) hx (hk c hc) hK hhit hlook (by omega) (by simp [he]) (aR (by omega)) rfl (by rw [hupd];exact (bJj k c m).symm) hul) L⟩
   ·rw [Option.getD_some,if_neg he] at hf
    cases hf
  | none =>
   rw [hlk] at hf hhit hlook hul
   by_cases he:([]:List Cel)=c.1
   ·rw [Option.getD_none,if_pos he] at hf
    obtain ⟨h3,L⟩:=aQa hl hk hy h2 q (i+1) _ _ Kf hok (by rw [Cb] at hi;omega) hf
    have hupd:aBo k m c=m++[(crM c,c.2)]:=by unfold aBo;rw [hlk];rfl
    refine ⟨h3,.step (bBs (Ah:=c.1) (Ag:=c.2) (m':=aBo k m c) (by omega) hx (hk c hc) hK hhit (by simp) (by simp [he]) (aR (by omega)) rfl (by rw [hupd];unfold eW;rw [rW];rfl) hul) L⟩
   ·rw [Option.getD_none,if_neg he] at hf
    cases hf
def Fh(k:Int)(m:RM)(r:List Cel):Option (List Cel):=match kP k m r with
 | some y=>if 0<y.length then some y else none
 | none=>none
def Ib(c:Chg):Option (List Cel):=if c.1.length=0 then some c.2 else none
def apL(k:Int)(m:RM)(R:List (List Cel))(l:List Chg):List (List Cel):=R.filterMap (Fh k m)++l.filterMap Ib
theorem cAa{k:Int}{R:List (List Cel)}{l:List Chg}{m1:RM}(cR:dZ k R=0)(hT:fZ k R)(hC:bOy k l)(hy:∀ x∈l,kQ k (crM x))(h2:∀ x∈l,x.1.length≤1000∧x.2.length≤1000)
  (hf:l.foldlM (apF k) (R.map fun r=>(r,r))=some m1) (Ba:(apL k m1 R l).length≤12) (h1:1≤(apL k m1 R l).length) (hkk:∀ x∈apL k m1 R l,aM k≤(x.length:Int)) {base:Nat} :
  FV Tp 59 [.p (.agg [aB k,bZ R]),.p (.sl l.length ((l.map chE).flatten))] base (.tup [.p (.agg [aB k,bZ (isG (bS k) (apL k m1 R l))]),.p (aB 0)]) []:=by
 have hRn:=hT.n;have hln:=hC.n;have R4:aEw k (R.map fun r=>(r,r)):=by
  refine ⟨fun p hp => ?_,?_,fun p hp => ?_⟩
  ·obtain ⟨r,hr,rfl⟩:=rX.1 hp
   exact hT.ky r hr
  ·rw [aAk];exact hT.nd
  ·obtain ⟨r,hr,rfl⟩:=rX.1 hp
   exact (hT.len r hr).2
 obtain ⟨Lz,L0⟩:=aQa (R:=R) hln hC.kk hy h2 l 0 _ m1 rfl R4 (by omega) hf
 have e0:eW k (R.map fun r=>(r,r))=bO k R:=by unfold eW bO;rw [aAk];rfl
 rw [e0,kI] at L0
 have L1:=aF.count (P:=Tp) (k:=0) (b:=(sub (cd Tryz.f59) bb)) (e := .exit 2) (R:=kM k R l m1 R.length (R.filterMap (Fh k m1)).length (((R.filterMap (Fh k m1)).map rwE).flatten)) R.length
  (fun j=>kM k R l m1 j ((R.take j).filterMap (Fh k m1)).length ((((R.take j).filterMap (Fh k m1)).map rwE).flatten))
  (fun j hj=>by
   have hx:R[j]? = some R[j]:=Bw hj;have hm:=iC hj;have hl:=hT.len _ hm;have hK:=aTi Lz (hT.ky _ hm);have hfl:=aBr (Fh k m1) R j;rw [vF (Fh k m1) hx];generalize R[j]=x at hx hm hl hK
   have hhit:=bJi k m1 x;have hlook:=aTh k m1 x;have hfx:Fh k m1 x=match kP k m1 x with | some y=>if 0<y.length then some y else none | none=>none:=rfl
   rw [hfx];generalize (R.take j).filterMap (Fh k m1)=o at hfl
   cases hlk:kP k m1 x with
   | some y =>
    rw [hlk] at hhit hlook
    obtain ⟨p,hp,rfl⟩:=aLj hlk;have hpl:=Lz.len p hp;dsimp only
    by_cases he:0<p.2.length
    ·rw [if_pos he]
     exact bBu (o':=o++[p.2]) (by omega) hx hl.1 hK hhit hlook (by omega) (by omega) ⟨rfl,by omega⟩ (aR (by omega)) rfl (by simp) (nR o p.2)
    ·rw [if_neg he,Option.toList_none,List.append_nil]
     exact bBv (by omega) hx hl.1 hK hhit hlook (by omega) (aR (by omega)) rfl
   | none =>
    rw [hlk] at hhit hlook
    dsimp only;rw [Option.toList_none,List.append_nil];exact bBw (by omega) hx hl.1 hK hhit (aR (by omega)) rfl)
  (by rw [List.take_length];exact bBx (by omega)) (by simp)
 have hfo:(R.filterMap (Fh k m1)).length≤R.length:=List.length_filterMap_le _ _;have L2:=aF.count (P:=Tp) (k:=0) (b:=(sub (cd Tryz.f59) [1,1,1,1,1,1,1,0,1,0,0])) (e := .exit 4) (R:=mP k R l l.length (apL k m1 R l).length (((apL k m1 R l).map rwE).flatten)) l.length
  (fun j=>mP k R l j (R.filterMap (Fh k m1)++(l.take j).filterMap Ib).length (((R.filterMap (Fh k m1)++(l.take j).filterMap Ib).map rwE).flatten))
  (fun j hj=>by
   have hx:l[j]? = some l[j]:=Bw hj;have hm:=iC hj;have hc:=h2 _ hm;have hfl:=aBr Ib l j;rw [vF Ib hx,← List.append_assoc];have hlen:(R.filterMap (Fh k m1)++(l.take j).filterMap Ib).length≤R.length+l.length:=by rw [Bv];omega
   generalize R.filterMap (Fh k m1)++(l.take j).filterMap Ib=u at hlen
   generalize l[j]=c at hx hm hc
   have hfx:Ib c=if c.1.length=0 then some c.2 else none:=rfl
   rw [hfx]
   by_cases he:c.1.length=0
   ·rw [if_pos he]
    exact bBy (Au:=c.1) (Ao:=c.2) (u':=u++[c.2]) (by omega) hx (by omega) (by omega) ⟨rfl,by omega⟩ (aR (by omega)) rfl (by simp) (nR u c.2)
   ·rw [if_neg he,Option.toList_none,List.append_nil]
    exact bBz (Au:=c.1) (Ao:=c.2) (by omega) hx (by omega) (aR (by omega)) rfl)
  (by rw [List.take_length];exact bCa (by omega)) (by simp)
 have e2:R.filterMap (Fh k m1)++(l.take 0).filterMap Ib=R.filterMap (Fh k m1):=by simp
 rw [e2] at L2
 have:=cAb (H2:=apL k m1 R l) cR hC hT L0 L1 L2 (by omega) Ba h1 hkk
 rw [fI] at this
 exact FV.frz this rfl
end KV
end Go.Proofs
end
section
namespace Go.Proofs
open Go.RowKit
namespace KV
open Tryz
abbrev cDi(a b c:Int):AO := .box 186 [.p (aB a),.p (aB b),.p (aB c)]
theorem bZz(a b c:Int):FMM Tp 108 [.arr 0 0 1] [some (cDi a b c)] (.p (.sl 1 [aB a])) [some (cDi a b c)]:=fun C w us hus hM n=>by
 cases hus with
 | cons _ u _ H6 hu hr =>
 cases hr;cases hu with
 | arr _ _ _ _ h0 ha h =>
 rcases h _ rfl rfl with ⟨h1,_⟩ | ⟨g,cap,rfl,h1,h2,h3⟩
 ·cases h1
 obtain ⟨g',arr,q0,q1,q2,q3,q4⟩:=hM.box 0 _ _ rfl;rw [h3] at q0;cases q0
 have hv:arr.getD 0 undef = .int .i64 a:=by
  have:=q3 0 (by simp)
  simp only [List.getElem_cons_zero] at this
  generalize arr.getD 0 undef=z at this ⊢
  cases this with | p _ _ h=>cases h;rfl
 have hcell:w.cell? ⟨g,0,none⟩=some (.int .i64 a):=by
  have hs:0<arr.size:=by rw [q2];simp
  unfold World.cell?;rw [q1];simp only [Option.isSome_none];rw [← hv];simp [Array.getD,hs]
 refine (callsIn_wide.2 (Tryz.slices_Clone_int g 0 1 cap [a] w (by simp) (by decide) (fun j hj => ?_))).mono ?_
 ·have:j=0:=by simpa using hj
  subst this;exact hcell
 ·rintro e w' ⟨v,rfl,⟨o1,o2⟩,hne,hB⟩
  obtain ⟨f1,m1⟩:=pJ (C:=C) (kb:=none) hM hB.os hB.tape hB.output hB.size (fun k hk=>hB.block k hk)
  rcases o2 with ⟨_,e⟩ | ⟨g2,N2,cur,rfl,r1,r2,r3,r4,r5,r6⟩
  ·cases e
  refine ⟨_,rfl,_,f1,m1,.p _ _ (.sl 1 [aB a] _ N2 (fun _ => .int .i64 a) r3 r4 (fun i hi => ?_) (fun i hi => ?_) (fun i hi=>rfl))⟩
  ·have:i=0:=by simpa using hi
   subst this;have hl:g2<w'.heap.size:=(mF.1 r2).1;refine ⟨g2,0,rfl,.inr ⟨r1,hl,by simp⟩,?_⟩
   unfold World.cell?;rw [show (0+0:Nat)=0 from rfl,r2]
   simp only [Option.isSome_none];have h6:=congrArg (fun l:List Value=>l[0]?) r6
   have hc:0<cur.size:=by rw [r5];omega
   simpa [List.getElem?_take,hc] using h6
  ·have:i=0:=by simpa using hi
   subst this;exact .v _
end KV
end Go.Proofs
end
