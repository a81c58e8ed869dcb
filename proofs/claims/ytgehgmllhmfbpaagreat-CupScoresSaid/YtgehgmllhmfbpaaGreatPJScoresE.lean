/- Parts of the proof of JScores: laws of walks, contracts of functions, plain models. No condition. -/
import Derived.Maps.Keyed
import Derived.Maps.AppendAt
import Derived.OrdersHeld
import Derived.Great.BuildSlice
import Derived.Test.YtgehgmllhmfbpaaGreatPJScoresD
set_option linter.unusedVariables false
set_option linter.unusedSimpArgs false
set_option maxRecDepth 100000
namespace Go.Proofs
namespace KV
section
open Go.Maps Go.MapKept
open Go.ChangeMaps (setBlock)

structure Ent where
  k : Int
  l : List Int
  b : Nat
  cap : Nat
  arr : Array Value

def Ent.val (e : Ent) : Value := .slice (some ⟨e.b, 0, none⟩) e.l.length e.cap
def Ent.blk (e : Ent) : Nat × Obj := (e.b, .cells e.arr 3 (0, 0))
structure Ent.OK (e : Ent) : Prop where
  key : (Lit.int .i64 e.k).wf = true
  sz : e.arr.size = e.cap
  le : e.l.length ≤ e.cap
  cap : e.cap ≤ maxLen
  at_ : e.arr.toList.take e.l.length = e.l.map (Value.int .i64)

structure MapOK (mb : Nat) (es : Array MapEntry) (L : List Ent) : Prop where
  e1 : ∀ x ∈ es.toList, ∃ e ∈ L, x.key = .int .i64 e.k ∧ x.val = e.val
  e2 : ∀ e ∈ L, ∃ x ∈ es.toList, x.key = .int .i64 e.k ∧ x.val = e.val
  nd : es.toList.Pairwise (fun x y => x.key ≠ y.key)
  ok : ∀ e ∈ L, e.OK
  keys : (L.map (·.k)).Nodup
  blks : (mb :: L.map (·.b)).Nodup

theorem MapOK.nil (mb : Nat) : MapOK mb #[] [] := ⟨fun x h => by simp at h, fun e h => by simp at h, by simp, fun e h => by simp at h, by simp, by simp⟩

def lookE (L : List Ent) (k : Int) : Option Ent := L.find? fun e => e.k == k
def lookV (L : List Ent) (k : Int) : Value := match lookE L k with
  | some e => e.val
  | none => .slice none 0 0

theorem lookE_some {L : List Ent} {k : Int} {e : Ent} (h : lookE L k = some e) : e ∈ L ∧ e.k = k := ⟨List.mem_of_find?_eq_some h, by simpa using List.find?_some h⟩
theorem lookE_none {L : List Ent} {k : Int} (h : lookE L k = none) : ∀ e ∈ L, e.k ≠ k := fun e he hk => by
  have := List.find?_eq_none.1 h e he
  simp [hk] at this
theorem lookE_mem {L : List Ent} {k : Int} {e : Ent} (hn : (L.map (·.k)).Nodup) (he : e ∈ L) (hk : e.k = k) : lookE L k = some e := by
  cases h : lookE L k with
  | none => exact absurd hk (lookE_none h e he)
  | some e' =>
    obtain ⟨h1, h2⟩ := lookE_some h
    have : ∀ (l : List Ent), (l.map (·.k)).Nodup → e ∈ l → e' ∈ l → e = e' := by
      intro l
      induction l with
      | nil => intro _ h; simp at h
      | cons x r ih =>
        intro hn h3 h4
        rw [List.map_cons, List.nodup_cons] at hn
        rcases List.mem_cons.1 h3 with e1 | h5
        · rcases List.mem_cons.1 h4 with e2 | h6
          · rw [e1, e2]
          · exact absurd (List.mem_map.2 ⟨e', h6, by rw [h2, ← hk, e1]⟩) hn.1
        · rcases List.mem_cons.1 h4 with e2 | h6
          · exact absurd (List.mem_map.2 ⟨e, h5, by rw [hk, ← h2, e2]⟩) hn.1
          · exact ih hn.2 h5 h6
    rw [this L hn he h1]

section
variable {P : Program} {w : World} {t kt et : TypeId} {mb : Nat} {es : Array MapEntry} {cl : Nat} {L : List Ent}

theorem keyInt (hkt : P.underlying kt = some (.int .i64)) {k : Int} (hk : (Lit.int .i64 k).wf = true) : keyOf P kt (.int .i64 k) = some (.int .i64 k) := keyOf_int_mk hkt hk

theorem look_run (ht : P.underlying t = some (.map kt et)) (hkt : P.underlying kt = some (.int .i64)) (hz : (zeroValue et).run P w = .ok (.slice none 0 0) w) (hb : w.heap[mb]? = some (.map es cl)) (hM : MapOK mb es L) {k : Int} (hk : (Lit.int .i64 k).wf = true) :
    (Instr.lookup t (.map (some mb)) (.int .i64 k) false).run P w = .ok (lookV L k) w := by
  have K := int_keyed hkt
  have hkey := keyInt hkt hk
  have hes : ∀ e ∈ es.toList, ∃ l, keyOf P kt e.key = some l := fun x hx => by
    obtain ⟨e, he, h1, _⟩ := hM.e1 x hx
    exact ⟨_, by rw [h1]; exact keyInt hkt (hM.ok e he).key⟩
  rcases K.find w hkey es.toList hes with ⟨h1, h2⟩ | ⟨j, e0, h1, h2, h3⟩
  · have : lookE L k = none := by
      rw [lookE, List.find?_eq_none]
      intro e he
      obtain ⟨x, hx, h4, _⟩ := hM.e2 e he
      have := h2 x hx
      rw [h4] at this
      intro hk'
      exact this (by rw [eq_of_beq hk'])
    unfold lookV
    rw [this]
    simp [Instr.lookup, run_underlying ht, MapKept.run_getObj_map hb, K.check w _ hkey, h1, hz, Result.andThen]
  · obtain ⟨e, he, h4, h5⟩ := hM.e1 e0 (List.mem_of_getElem? h2)
    rw [h3] at h4
    have hk' : e.k = k := by injection h4 with _ h; exact h.symm
    unfold lookV
    rw [lookE_mem hM.keys he hk']
    simp [Instr.lookup, run_underlying ht, MapKept.run_getObj_map hb, K.check w _ hkey, h1, Result.andThen, h5]

def putE (L : List Ent) (e : Ent) : List Ent := L.filter (fun x => x.k != e.k) ++ [e]
theorem mem_putE {L : List Ent} {e x : Ent} : x ∈ putE L e ↔ (x ∈ L ∧ x.k ≠ e.k) ∨ x = e := by simp [putE]

theorem put_run (ht : P.underlying t = some (.map kt et)) (hkt : P.underlying kt = some (.int .i64)) (hb : w.heap[mb]? = some (.map es cl)) (hM : MapOK mb es L) (e : Ent) (he : e.OK)
    (hblk : e.b ≠ mb ∧ ∀ x ∈ L, x.k ≠ e.k → x.b ≠ e.b) :
    ∃ es' cl', (Instr.mapUpdate t (.map (some mb)) (.int .i64 e.k) e.val).run P w = .ok () (setBlock w mb (.map es' cl')) ∧ MapOK mb es' (putE L e) := by
  have K := int_keyed hkt
  have hkey := keyInt hkt he.key
  have hes : ∀ e ∈ es.toList, ∃ l, keyOf P kt e.key = some l := fun x hx => by
    obtain ⟨e, he, h1, _⟩ := hM.e1 x hx
    exact ⟨_, by rw [h1]; exact keyInt hkt (hM.ok e he).key⟩
  have hok : ∀ x ∈ putE L e, x.OK := fun x hx => by
    rcases mem_putE.1 hx with ⟨h1, _⟩ | rfl
    · exact hM.ok x h1
    · exact he
  have hkeys : ((putE L e).map (·.k)).Nodup := by
    unfold putE
    rw [List.map_append, List.nodup_append]
    refine ⟨?_, by simp, ?_⟩
    · exact (List.Sublist.map _ (List.filter_sublist)).nodup hM.keys
    · intro x hx y hy
      obtain ⟨z, hz, rfl⟩ := List.mem_map.1 hx
      simp at hy
      subst hy
      have := (List.mem_filter.1 hz).2
      simpa using this
  have hblks : (mb :: (putE L e).map (·.b)).Nodup := by
    have h0 := List.nodup_cons.1 hM.blks
    refine List.nodup_cons.2 ⟨?_, ?_⟩
    · intro hin
      obtain ⟨x, hx, hxb⟩ := List.mem_map.1 hin
      rcases mem_putE.1 hx with ⟨h1, _⟩ | rfl
      · exact h0.1 (List.mem_map.2 ⟨x, h1, hxb⟩)
      · exact hblk.1 hxb
    · unfold putE
      rw [List.map_append, List.nodup_append]
      refine ⟨(List.Sublist.map _ (List.filter_sublist)).nodup h0.2, by simp, ?_⟩
      intro x hx y hy
      obtain ⟨z, hz, rfl⟩ := List.mem_map.1 hx
      simp at hy
      subst hy
      obtain ⟨h1, h2⟩ := List.mem_filter.1 hz
      exact hblk.2 z h1 (by simpa using h2)
  rcases K.find w hkey es.toList hes with ⟨h1, h2⟩ | ⟨j, e0, h1, h2, h3⟩
  · refine ⟨es.push ⟨.int .i64 e.k, e.val, cl⟩, cl + 1, ?_, ⟨fun x hx => ?_, fun x hx => ?_, ?_, hok, hkeys, hblks⟩⟩
    · simp [Instr.mapUpdate, run_underlying ht, MapKept.run_getObj_map hb, K.check w false hkey, h1, MapKept.run_setObj_map _ hb, Result.andThen, setBlock]
    · simp only [Array.toList_push, List.mem_append, List.mem_singleton] at hx
      rcases hx with hx | rfl
      · obtain ⟨y, hy, q1, q2⟩ := hM.e1 x hx
        refine ⟨y, mem_putE.2 (.inl ⟨hy, fun hk => h2 x hx (by rw [q1, hk])⟩), q1, q2⟩
      · exact ⟨e, mem_putE.2 (.inr rfl), rfl, rfl⟩
    · rcases mem_putE.1 hx with ⟨q1, _⟩ | rfl
      · obtain ⟨y, hy, q2⟩ := hM.e2 x q1
        exact ⟨y, by simp [hy], q2⟩
      · exact ⟨⟨.int .i64 x.k, x.val, cl⟩, by simp, rfl, rfl⟩
    · rw [Array.toList_push, List.pairwise_append]
      exact ⟨hM.nd, by simp, fun x hx y hy => by simp at hy; subst hy; exact h2 x hx⟩
  · have hj : es[j]? = some e0 := by simpa using h2
    have hlist : (es.modify j (fun e' => { e' with key := .int .i64 e.k, val := e.val })).toList = es.toList.set j { e0 with key := .int .i64 e.k, val := e.val } := by
      rw [Array.toList_modify, Go.ChangeMaps.modify_eq_set _ _ _ _ h2]
    have hjl : j < es.toList.length := (List.getElem?_eq_some_iff.1 h2).1
    have hother : ∀ i x, es.toList[i]? = some x → i ≠ j → x.key ≠ .int .i64 e.k := fun i x hi hij => by
      rw [← h3]
      obtain ⟨hi1, rfl⟩ := List.getElem?_eq_some_iff.1 hi
      obtain ⟨hj1, hje⟩ := List.getElem?_eq_some_iff.1 h2
      have := List.pairwise_iff_getElem.1 hM.nd
      rcases Nat.lt_or_ge i j with h | h
      · rw [← hje]; exact this i j hi1 hj1 h
      · rw [← hje]; exact (this j i hj1 hi1 (by omega)).symm
    have who : ∀ x ∈ es.toList.set j { e0 with key := .int .i64 e.k, val := e.val }, x = { e0 with key := .int .i64 e.k, val := e.val } ∨ (x ∈ es.toList ∧ x.key ≠ .int .i64 e.k) := fun x hx => by
      obtain ⟨i, hi, ex⟩ := List.getElem_of_mem hx
      rw [List.getElem_set] at ex
      split at ex
      · exact .inl ex.symm
      · rename_i hne
        have hi' : i < es.toList.length := by simpa using hi
        exact .inr ⟨ex ▸ List.getElem_mem hi', hother i x (by rw [List.getElem?_eq_getElem hi', ex]) (fun e => hne e.symm)⟩
    refine ⟨es.modify j (fun e' => { e' with key := .int .i64 e.k, val := e.val }), cl, ?_, ⟨fun x hx => ?_, fun x hx => ?_, ?_, hok, hkeys, hblks⟩⟩
    · simp [Instr.mapUpdate, run_underlying ht, MapKept.run_getObj_map hb, K.check w false hkey, h1, hj, h3, K.stays w hkey, MapKept.run_setObj_map _ hb, Result.andThen, setBlock]
    · rw [hlist] at hx
      rcases who x hx with rfl | ⟨q1, q2⟩
      · exact ⟨e, mem_putE.2 (.inr rfl), rfl, rfl⟩
      · obtain ⟨y, hy, r1, r2⟩ := hM.e1 x q1
        exact ⟨y, mem_putE.2 (.inl ⟨hy, fun hk => q2 (by rw [r1, hk])⟩), r1, r2⟩
    · rw [hlist]
      rcases mem_putE.1 hx with ⟨q1, q2⟩ | rfl
      · obtain ⟨y, hy, r1, r2⟩ := hM.e2 x q1
        obtain ⟨i, hi, rfl⟩ := List.getElem_of_mem hy
        have hij : i ≠ j := fun hij => by
          subst hij
          rw [List.getElem?_eq_getElem hi] at h2; cases h2
          rw [h3] at r1; injection r1 with _ r1; exact q2 r1.symm
        exact ⟨es.toList[i], List.mem_iff_getElem.2 ⟨i, by simpa using hi, by rw [List.getElem_set, if_neg (Ne.symm hij)]⟩, r1, r2⟩
      · exact ⟨_, List.mem_iff_getElem.2 ⟨j, by simpa using hjl, by rw [List.getElem_set, if_pos rfl]⟩, rfl, rfl⟩
    · rw [hlist, List.pairwise_iff_getElem]
      intro i1 i2 hi1 hi2 hlt
      simp only [List.length_set] at hi1 hi2
      have h0 := List.pairwise_iff_getElem.1 hM.nd i1 i2 hi1 hi2 hlt
      rw [List.getElem_set, List.getElem_set]
      split
      · rename_i e1
        rw [if_neg (by omega)]
        exact (hother i2 _ (List.getElem?_eq_getElem hi2) (by omega)).symm
      · split
        · exact hother i1 _ (List.getElem?_eq_getElem hi1) (by omega)
        · exact h0

theorem Ent.owns {e : Ent} (he : e.OK) (h : w.heap[e.b]? = some (.cells e.arr 3 (0, 0))) : w.ownsRow 0 3 1 e.val e.l.length (e.l.map (Value.int .i64)) :=
  ⟨by simp, .inr ⟨e.b, e.cap, e.arr, rfl, Nat.zero_le _, h, he.le, he.cap, by rw [he.sz, Nat.mul_one], by rw [Nat.mul_one]; exact he.at_⟩⟩
theorem nil_owns : w.ownsRow 0 3 1 (.slice none 0 0) 0 [] := ⟨rfl, .inl ⟨rfl, rfl⟩⟩
theorem owns_ent {v : Value} {l : List Int} {k : Int} (hk : (Lit.int .i64 k).wf = true) (hl : l ≠ []) (h : w.ownsRow 0 3 1 v l.length (l.map (Value.int .i64))) : ∃ e : Ent, e.k = k ∧ e.l = l ∧ e.val = v ∧ e.OK ∧ w.heap[e.b]? = some (.cells e.arr 3 (0, 0)) := by
  rcases h.2 with ⟨_, h0⟩ | ⟨g, cap, cur, rfl, _, h1, h2, h3, h4, h5⟩
  · exact absurd (List.eq_nil_of_length_eq_zero h0) hl
  · exact ⟨⟨k, l, g, cap, cur⟩, rfl, rfl, rfl, ⟨hk, by rw [h4, Nat.mul_one], h2, h3, by rw [Nat.mul_one] at h5; exact h5⟩, h1⟩
end
end
section
variable {P : Program} {C C0 : Cx} {M M0 : Mem} {w w0 : World}

abbrev SR := St → List (Nat × Obj) → Prop
def SimR (P : Program) (C0 : Cx) (M0 : Mem) (w0 : World) (Ψ : SR) (a : Act) (w : World) : Prop := ∃ st R, Ψ st R ∧ (∀ p ∈ R, ∀ q ∈ C0.R, p.1 ≠ q.1) ∧ Sim P (C0.with (R ++ C0.R)) M0 w0 st a w
def CodeR (P : Program) (k : Nat) (c : Code) (Ψ : SR) (e : Ex) (Ψ' : SR) : Prop := ∀ (C0 : Cx) (M0 : Mem) (w0 : World) (a : Act) (w : World), M0.length ≤ k → SimR P C0 M0 w0 Ψ a w → ∀ (n : Nat), c.wpIn (Fen none) n P (fun e' a' w' => e' = e.toExit ∧ SimR P C0 M0 w0 Ψ' a' w') a w
def LoopR (P : Program) (k : Nat) (b : Code) (Ψ : SR) (e : Ex) (Ψ' : SR) : Prop := ∀ (C0 : Cx) (M0 : Mem) (w0 : World) (a : Act) (w : World), M0.length ≤ k → SimR P C0 M0 w0 Ψ a w → ∀ (n : Nat), LoopIn (Fen none) n P b (fun e' a' w' => e' = e.toExit ∧ SimR P C0 M0 w0 Ψ' a' w') a w

section
variable {k : Nat} {a b c : Code} {Ψ Ψ1 Ψ' : SR} {e : Ex}
theorem CodeR.of (h : ∀ st R, Ψ st R → ∃ st', Ψ' st' R ∧ CodeOK P k c st e st') : CodeR P k c Ψ e Ψ' := fun C0 M0 w0 a w hk ⟨st, R, hΨ, hd, hs⟩ n => by
  obtain ⟨st', hΨ', hc⟩ := h st R hΨ
  refine wpIn_mono (hc (C0.with (R ++ C0.R)) M0 w0 a w hk hs none (.inl rfl) n) fun e' a' w' hq => ⟨hq.1, st', R, hΨ', hd, hq.2⟩
theorem CodeR.mono {Φ Φ' : SR} (h : CodeR P k c Ψ e Ψ') (h1 : ∀ st R, Φ st R → Ψ st R) (h2 : ∀ st R, Ψ' st R → Φ' st R) : CodeR P k c Φ e Φ' := fun C0 M0 w0 a w hk ⟨st, R, hΨ, hd, hs⟩ n =>
  wpIn_mono (h C0 M0 w0 a w hk ⟨st, R, h1 _ _ hΨ, hd, hs⟩ n) fun e' a' w' ⟨q, st', R', hq, hd', hs'⟩ => ⟨q, st', R', h2 _ _ hq, hd', hs'⟩
theorem CodeR.seq (h : CodeR P k a Ψ .normal Ψ1) (h2 : CodeR P k b Ψ1 e Ψ') : CodeR P k (.seq a b) Ψ e Ψ' := fun C0 M0 w0 ac w hk hs n => by
  refine wpIn_seq (wpIn_mono (h C0 M0 w0 ac w hk hs n) ?_)
  rintro e' a' w' ⟨rfl, hs'⟩
  exact h2 C0 M0 w0 a' w' hk hs' n
theorem CodeR.seqx (h : CodeR P k a Ψ e Ψ') (he : e ≠ .normal) : CodeR P k (.seq a b) Ψ e Ψ' := fun C0 M0 w0 ac w hk hs n => by
  refine wpIn_seq (wpIn_mono (h C0 M0 w0 ac w hk hs n) ?_)
  rintro e' a' w' ⟨rfl, hs'⟩
  cases e with
  | normal => exact absurd rfl he
  | ret => exact ⟨rfl, hs'⟩
  | exit i => exact ⟨rfl, hs'⟩
theorem CodeR.block {id : Nat} (h : CodeR P k b Ψ (.exit id) Ψ') : CodeR P k (.block id b) Ψ .normal Ψ' := fun C0 M0 w0 ac w hk hs n => by
  refine wpIn_block (wpIn_mono (h C0 M0 w0 ac w hk hs n) ?_)
  rintro e' a' w' ⟨rfl, hs'⟩
  simp only [Ex.toExit, Exit.inBlock, if_true]
  exact ⟨trivial, hs'⟩
theorem CodeR.blockn {id : Nat} (h : CodeR P k b Ψ .normal Ψ') : CodeR P k (.block id b) Ψ .normal Ψ' := fun C0 M0 w0 ac w hk hs n => by
  refine wpIn_block (wpIn_mono (h C0 M0 w0 ac w hk hs n) ?_)
  rintro e' a' w' ⟨rfl, hs'⟩
  exact ⟨rfl, hs'⟩
theorem LoopR.step (h : CodeR P k b Ψ .normal Ψ1) (hr : LoopR P k b Ψ1 e Ψ') : LoopR P k b Ψ e Ψ' := fun C0 M0 w0 a w hk hs n => LoopIn.step (wpIn_mono (h C0 M0 w0 a w hk hs n) fun e' a' w' hq => by
  obtain ⟨rfl, hs'⟩ := hq
  exact hr C0 M0 w0 a' w' hk hs' n)
theorem LoopR.exit (h : CodeR P k b Ψ e Ψ') (he : e ≠ .normal) : LoopR P k b Ψ e Ψ' := fun C0 M0 w0 a w hk hs n => LoopIn.step (wpIn_mono (h C0 M0 w0 a w hk hs n) fun e' a' w' hq => by
  obtain ⟨rfl, hs'⟩ := hq
  cases e with
  | normal => exact absurd rfl he
  | ret => exact ⟨rfl, hs'⟩
  | exit id => exact ⟨rfl, hs'⟩)
theorem LoopR.code (h : LoopR P k b Ψ e Ψ') : CodeR P k (.loop b) Ψ e Ψ' := fun C0 M0 w0 a w hk hs n => LoopIn.wp (h C0 M0 w0 a w hk hs n)
theorem LoopR.times (N : Nat) (Ψ : Nat → SR) (hs : ∀ i, i < N → CodeR P k b (Ψ i) .normal (Ψ (i + 1))) (hx : CodeR P k b (Ψ N) e Ψ') (he : e ≠ .normal) : LoopR P k b (Ψ 0) e Ψ' := by
  have key : ∀ d i, i + d = N → LoopR P k b (Ψ i) e Ψ' := by
    intro d
    induction d with
    | zero => intro i hi; obtain rfl : i = N := by omega
              exact .exit hx he
    | succ d ih => intro i hi; exact .step (hs i (by omega)) (ih (i + 1) (by omega))
  exact key N 0 (by omega)
theorem CodeR.ok {st st' : St} (hn : nrf c = false) (h : CodeR P k c (fun s R => s = st ∧ R = []) e (fun s _ => s = st')) : CodeOK P k c st e st' := fun C0 M0 w0 a w hk hs ro hro n => by
  rcases hro with rfl | hro
  · refine wpIn_mono (h C0 M0 w0 a w hk ⟨st, [], ⟨rfl, rfl⟩, by simp, hs⟩ n) ?_
    rintro e' a' w' ⟨q, st1, R, rfl, _, hs'⟩
    exact ⟨q, hs'.less fun p hp => List.mem_append_right _ hp⟩
  · rw [hn] at hro; cases hro
theorem CodeR.hand (h : ∀ (C0 : Cx) (M0 : Mem) (w0 : World) (a : Act) (w : World) (st : St) (R : List (Nat × Obj)), M0.length ≤ k → Ψ st R → (∀ p ∈ R, ∀ q ∈ C0.R, p.1 ≠ q.1) → Sim P (C0.with (R ++ C0.R)) M0 w0 st a w → c.wp P (fun e' a' w' => e' = e.toExit ∧ SimR P C0 M0 w0 Ψ' a' w') a w) : CodeR P k c Ψ e Ψ' := fun C0 M0 w0 a w hk ⟨st, R, hΨ, hd, hs⟩ n =>
  (wpIn_wide (n := n)).2 (h C0 M0 w0 a w st R hk hΨ hd hs)
end

theorem Sim.slot {st : St} {a : Act} (h : Sim P C0 M0 w0 st a w) {i : Nat} {v : Value} (hi : st.t[i]? = some (.p (.v v))) : a.tmps.getD i undef = v := by
  obtain ⟨C, hS, _⟩ := h
  have := hS.at hi
  cases this with
  | p _ _ h => cases h; rfl
theorem Sim.size {st : St} {a : Act} (h : Sim P C0 M0 w0 st a w) : a.tmps.size = st.t.length := by
  obtain ⟨C, hS, _⟩ := h
  exact hS.size
theorem Sim.ints {st : St} {a : Act} {R : List (Nat × Obj)} (h : Sim P (C0.with R) M0 w0 st a w) {i : Nat} {l : List Int} (hi : st.t[i]? = some (.p (.sl l.length (l.map fun n => .v (.int .i64 n))))) :
    ∃ p cap, a.tmps.getD i undef = .slice p l.length cap ∧ l.length ≤ cap ∧ cap ≤ maxLen ∧ ∀ j n, l[j]? = some n → ∃ b o, p = some ⟨b, o, none⟩ ∧ b < w.heap.size ∧ w.cell? ⟨b, o + j, none⟩ = some (.int .i64 n) ∧ ∀ q ∈ R, q.1 ≠ b := by
  obtain ⟨C, hS, hM, _, _, hR⟩ := h
  have := hS.at hi
  cases this with
  | p _ _ h =>
    generalize hv : a.tmps.getD i undef = v at h
    generalize hn : l.length = n at h
    generalize hc : (l.map fun n => PV.v (.int .i64 n)) = cs at h
    cases h with
    | sl n cs p cap us h1 h2 h3 h4 h5 =>
      refine ⟨p, cap, rfl, h1, h2, fun j m hj => ?_⟩
      have hjl : j < cs.length := by
        rw [← hc, List.length_map]
        exact (List.getElem?_eq_some_iff.1 hj).1
      obtain ⟨b, o, q1, q2, q3⟩ := h3 j hjl
      refine ⟨b, o, q1, hM.Fs _ q2, ?_, fun q hq e => (hR q hq).2.2.2.1 (e ▸ q2)⟩
      rw [q3]
      have h6 := h4 j hjl
      have : cs[j] = .v (.int .i64 m) := by
        subst hc
        rw [List.getElem_map]
        obtain ⟨_, h7⟩ := List.getElem?_eq_some_iff.1 hj
        rw [h7]
      rw [this] at h6
      generalize us j = u at h6
      cases h6; rfl
end
section
variable {P : Program} {ops : Array Oper} {md : Region.Mode} {S : World → Prop} {Q : Exit → Act → World → Prop} {L : Nat}

def wpAnyL (P : Program) (md : Region.Mode) (ops : Array Oper) (Q : Exit → Act → World → Prop) (S : World → Prop) (L : Nat) : Nat → Array Bool → Act → World → Prop
  | 0, listed, a, w => Region.ready md ops listed = [] ∧ Q .normal a w
  | fuel + 1, listed, a, w => (Region.ready md ops listed = [] → Q .normal a w) ∧
    ∀ i ∈ Region.ready md ops listed, wpOp P ops Q i (fun a' w' => (i ≠ L → S w') ∧ wpAnyL P md ops Q S L fuel (listed.setIfInBounds i true) a' w') a w

theorem wpAny_of_L : ∀ (fuel : Nat) (listed : Array Bool) (a : Act) (w : World), wpAnyL P md ops Q S L fuel listed a w → wpAny P md ops Q fuel listed a w
  | 0, _, _, _, h => h
  | fuel + 1, _, _, _, h => ⟨h.1, fun i hi => wpOp_mono (fun a' w' h' => wpAny_of_L fuel _ a' w' h'.2) (h.2 i hi)⟩

theorem wpAnyL_first {i : Nat} {oi : Oper} {v : Value} (hi : ops[i]? = some oi) (hsel : ∀ (j : Nat) (o : Oper) cs b, ops[j]? = some o → o.op ≠ .select cs b)
    (hQ : ∀ c a w, Q (.panic c) (a.put oi.dst v) w → Q (.panic c) a w) (hL : ∀ oL, ops[L]? = some oL → ∃ e ∈ oL.after, Region.binds md e = true ∧ e.on = i) :
    ∀ (fuel : Nat) (listed : Array Bool) (a : Act) (w : World),
      (∀ j oj, ops[j]? = some oj → j ≠ i → listed.getD j true = false → (∀ e ∈ oj.after, Region.binds md e = true → e.on ≠ i) → oi.apart ops oj = true) →
      i ∈ Region.ready md ops listed → YieldsIf P ops S oi v a → S w →
      wpAnyL P md ops Q S L fuel (listed.setIfInBounds i true) (a.put oi.dst v) w → wpAnyL P md ops Q S L (fuel + 1) listed a w := by
  intro fuel
  induction fuel with
  | zero =>
    intro listed a w _ hr hy hS H
    refine ⟨fun h => (by rw [h] at hr; cases hr), fun j hj => ?_⟩
    by_cases hji : j = i
    · subst hji; exact hy.wpOp hi hS ⟨fun _ => hS, H⟩
    · have := ready_mono hj hji
      rw [H.1] at this
      cases this
  | succ fuel ih =>
    intro listed a w hfree hr hy hS H
    refine ⟨fun h => (by rw [h] at hr; cases hr), fun j hj => ?_⟩
    by_cases hji : j = i
    · subst hji; exact hy.wpOp hi hS ⟨fun _ => hS, H⟩
    · have h1 := H.2 j (ready_mono hj hji)
      obtain ⟨hjun, oj, hoj, hall⟩ := mem_ready.1 hj
      have hnot : ∀ e ∈ oj.after, Region.binds md e = true → e.on ≠ i := fun e he hb heq => by
        have h1 := hall e he hb
        have h0 := (mem_ready.1 hr).1
        rw [heq] at h1
        rcases Nat.lt_or_ge i listed.size with h' | h'
        · simp [h'] at h0 h1; rw [h0] at h1; cases h1
        · simp [Array.getElem?_eq_none h'] at h1
      have hjL : j ≠ L := fun e => by
        subst e
        obtain ⟨e, he, hb, ho⟩ := hL oj hoj
        exact hnot e he hb ho
      have h2 := wpOp_putIf hoj (hfree j oj hoj hji hjun hnot) (fun cs b => hsel i oi cs b hi) (fun cs b => hsel j oj cs b hoj) hQ hy h1
      have hfree' : ∀ k ok, ops[k]? = some ok → k ≠ i → (listed.setIfInBounds j true).getD k true = false →
          (∀ e ∈ ok.after, Region.binds md e = true → e.on ≠ i) → oi.apart ops ok = true := fun k ok hk hki hun hno => by
        refine hfree k ok hk hki ?_ hno
        by_cases hjk : j = k
        · subst hjk; exact hjun
        · rw [getD_set_ne true hjk] at hun; exact hun
      refine wpOp_mono (fun a' w' h3 => ⟨h3.2.1, ih (listed.setIfInBounds j true) a' w' hfree' (ready_mono hr (Ne.symm hji)) h3.1 (h3.2.1 hjL) ?_⟩) h2
      rw [Array.setIfInBounds_comm _ _ hji]
      exact h3.2.2

def yieldsL (P : Program) (S : World → Prop) : List (Oper × Value) → Act → Prop
  | [], _ => True
  | (o, v) :: r, a => (∀ W, S W → (execOp a.eval o).run P W = .ok (.value v) W) ∧ yieldsL P S r (a.put o.dst v)
def putsL : List (Oper × Value) → Act → Act
  | [], a => a
  | (o, v) :: r, a => putsL r (a.put o.dst v)

def takeL (md : Region.Mode) (ops : Array Oper) (L : Nat) (rs : List Nat) : List Nat → Array Bool → Bool
  | [], listed => chain rs listed
  | t :: ts, listed => (match ops[t]? with | some o => o.guard.isNone | none => false) && (Region.ready md ops listed).contains t && Region.free md ops listed t &&
      (match ops[L]? with | some oL => oL.after.any fun e => Region.binds md e && e.on == t | none => false) && takeL md ops L rs ts (listed.setIfInBounds t true)
where chain : List Nat → Array Bool → Bool
  | [], listed => (Region.ready md ops listed).isEmpty
  | r :: rs, listed => (match ops[r]? with | some o => o.guard.isNone | none => false) && decide (Region.ready md ops listed = [r]) && chain rs (listed.setIfInBounds r true)

theorem wpAnyL_one {r fuel : Nat} {listed : Array Bool} {o : Oper} {a : Act} {w : World} (hr : Region.ready md ops listed = [r]) (ho : ops[r]? = some o) (hg : o.guard = none) {v : Value} {w' : World}
    (hrun : (execOp a.eval o).run P w = .ok (.value v) w' ∨ (execOp a.eval o).run P w = .ok .skip w' ∧ v = undef) (hS : r ≠ L → S w') (h : wpAnyL P md ops Q S L fuel (listed.setIfInBounds r true) (a.put o.dst v) w') : wpAnyL P md ops Q S L (fuel + 1) listed a w := by
  refine ⟨fun h0 => (by rw [hr] at h0; cases h0), fun i hi => ?_⟩
  rw [hr] at hi
  obtain rfl : i = r := by simpa using hi
  unfold wpOp
  simp only [ho]
  have hw : Region.wanted o (yielded ops a.tmps) = true := by simp [Region.wanted, hg]
  rw [if_pos hw]
  refine .inl ?_
  unfold Oper.wp
  rcases hrun with hrun | ⟨hrun, rfl⟩
  · rw [hrun]; exact ⟨hS, h⟩
  · rw [hrun]; exact ⟨hS, h⟩

theorem takeL_any (hsel : Region.noSelect ops = true) (hQ : ∀ c a w, ¬ Q (.panic c) a w) (rs : List Nat) {w : World} (hS : S w) : ∀ (ts : List Nat) (vs : List Value) (listed : Array Bool) (a : Act), vs.length = ts.length → takeL md ops L rs ts listed = true →
    yieldsL P S ((ts.filterMap fun i => ops[i]?).zip vs) a → (∀ listed', takeL.chain md ops rs listed' = true → wpAnyL P md ops Q S L rs.length listed' (putsL ((ts.filterMap fun i => ops[i]?).zip vs) a) w) → wpAnyL P md ops Q S L (ts.length + rs.length) listed a w
  | [], vs, listed, a, hl, hB, hy, h => by
    have : vs = [] := by simpa using hl
    subst this
    simp only [List.length_nil, Nat.zero_add]
    exact h listed hB
  | t :: ts, [], listed, a, hl, hB, hy, h => by simp at hl
  | t :: ts, v :: vs, listed, a, hl, hB, hy, h => by
    simp only [takeL, Bool.and_eq_true] at hB
    obtain ⟨⟨⟨⟨hp, hrd⟩, hf⟩, hlast⟩, hB'⟩ := hB
    cases ho : ops[t]? with
    | none => rw [ho] at hp; cases hp
    | some o =>
      rw [ho] at hp
      simp only [Option.isNone_iff_eq_none] at hp
      have e0 : (t :: ts).filterMap (fun i => ops[i]?) = o :: ts.filterMap (fun i => ops[i]?) := by simp [ho]
      rw [e0, List.zip_cons_cons] at hy h
      have hw : Region.wanted o (yielded ops a.tmps) = true := by simp [Region.wanted, hp]
      have e : (t :: ts).length + rs.length = (ts.length + rs.length) + 1 := by simp; omega
      rw [e]
      refine wpAnyL_first ho (Region.noSelect_spec hsel) (fun c a w hq => absurd hq (hQ _ _ _)) (fun oL hoL => ?_) _ _ _ _ (Region.free_spec ho hf) (by simpa using hrd) (.inl ⟨hw, hy.1⟩) hS ?_
      · rw [hoL] at hlast
        obtain ⟨e, he, hb⟩ := Array.any_eq_true'.1 hlast
        simp only [Bool.and_eq_true, beq_iff_eq] at hb
        exact ⟨e, he, hb.1, hb.2⟩
      · exact takeL_any hsel hQ rs hS ts vs _ _ (by simpa using hl) hB' hy.2 h

def closedL (l : List Oper) (ts : List Nat) (r1 r2 r3 : Nat) : Bool :=
  Region.noSelect l.toArray && takeL .any l.toArray r3 [r1, r2, r3] ts (Array.replicate l.toArray.size false) && decide (ts.length + 3 = l.toArray.size) && decide (r1 ≠ r3 ∧ r2 ≠ r3)

theorem region3 {id : Nat} {l : List Oper} {a : Act} {w : World} {o1 o2 o3 : Oper} (ts : List Nat) (r1 r2 r3 : Nat) (hm : P.follows .mixedOrders = true) (hB : closedL l ts r1 r2 r3 = true) (h1 : l[r1]? = some o1) (h2 : l[r2]? = some o2) (h3 : l[r3]? = some o3)
    (hQ : ∀ c a w, ¬ Q (.panic c) a w) (hS : S { w with drawn := w.drawn + 1 }) (vs : List Value) (hl : vs.length = ts.length) (hy : yieldsL P S ((ts.filterMap fun i => l[i]?).zip vs) a)
    (h : ∀ a', a' = putsL ((ts.filterMap fun i => l[i]?).zip vs) a → ∃ v1 w1 v2 w2 w3, (execOp a'.eval o1).run P { w with drawn := w.drawn + 1 } = .ok (.value v1) w1 ∧ S w1 ∧ (execOp (a'.put o1.dst v1).eval o2).run P w1 = .ok (.value v2) w2 ∧ S w2 ∧
      (execOp ((a'.put o1.dst v1).put o2.dst v2).eval o3).run P w2 = .ok .skip w3 ∧ Q .normal (((a'.put o1.dst v1).put o2.dst v2).put o3.dst undef) w3) : (Code.region id l.toArray true).wp P Q a w := by
  unfold closedL at hB
  simp only [Bool.and_eq_true, decide_eq_true_eq] at hB
  obtain ⟨⟨⟨hsel, ht⟩, hsz⟩, hne⟩ := hB
  refine wp_region_any hm (wpAny_of_L (S := S) (L := r3) _ _ _ _ ?_)
  rw [← hsz]
  refine takeL_any (rs := [r1, r2, r3]) hsel hQ hS ts vs _ a hl (by rw [hsz]; exact ht) (by simpa using hy) (fun listed' hc => ?_)
  obtain ⟨v1, w1, v2, w2, w3, e1, s1, e2, s2, e3, hq⟩ := h _ rfl
  simp only [takeL.chain, Bool.and_eq_true, decide_eq_true_eq] at hc
  obtain ⟨⟨g1, c1⟩, ⟨g2, c2⟩, ⟨g3, c3⟩, c4⟩ := hc
  have k1 : l.toArray[r1]? = some o1 := by simpa using h1
  have k2 : l.toArray[r2]? = some o2 := by simpa using h2
  have k3 : l.toArray[r3]? = some o3 := by simpa using h3
  rw [k1] at g1; rw [k2] at g2; rw [k3] at g3
  simp only [Option.isNone_iff_eq_none] at g1 g2 g3
  have e1' : ((ts.filterMap fun i => l.toArray[i]?)) = (ts.filterMap fun i => l[i]?) := by simp
  rw [e1']
  refine wpAnyL_one c1 k1 g1 (.inl e1) (fun _ => s1) ?_
  refine wpAnyL_one c2 k2 g2 (.inl e2) (fun _ => s2) ?_
  refine wpAnyL_one c3 k3 g3 (.inr ⟨e3, rfl⟩) (fun h => absurd rfl h) ?_
  exact ⟨by simpa using c4, hq⟩

theorem eval_put_same {a : Act} {i : Nat} {v : Value} (h : i < a.tmps.size) : (a.put (some i) v).eval (.tmp i) = v := by
  simp [Act.eval, Act.put, h]
theorem eval_put_ne {a : Act} {i j : Nat} {v : Value} (h : (i == j) = false) : (a.put (some i) v).eval (.tmp j) = a.eval (.tmp j) := by
  have : i ≠ j := by simpa using h
  simp [Act.eval, Act.put, this]
theorem eval_tmp {a : Act} {i : Nat} : a.eval (.tmp i) = a.tmps.getD i undef := rfl
theorem put_size {a : Act} {i : Nat} {v : Value} : (a.put (some i) v).tmps.size = a.tmps.size := by simp [Act.put]
theorem lex_one {id : Nat} {o : Oper} {rest : List Oper} {a : Act} {w w' : World} {v : Value} (hg : o.guard = none) (hrun : (execOp a.eval o).run P w = .ok (.value v) w') (h : wpList P ops Q rest (a.put o.dst v) w') : wpList P ops Q (o :: rest) a w :=
  wpList_plain hg fun K hK => by
    unfold Oper.wp
    rw [hrun]
    exact hK _ _ h

def isAnyB : Option AV → Bool
  | some .any => true
  | _ => false
theorem putAny {l : List AV} {d : Nat} (h : isAnyB l[d]? = true) : l.set d .any = l := by
  cases hd : l[d]? with
  | none => rw [hd] at h; cases h
  | some x =>
    rw [hd] at h
    have hx : x = .any := by cases x <;> first | rfl | cases h
    subst hx
    obtain ⟨h1, h2⟩ := List.getElem?_eq_some_iff.1 hd
    rw [← h2]
    exact List.set_getElem_self h1
theorem Sim.any {C0 : Cx} {M0 : Mem} {w0 w : World} {st : St} {a : Act} (h : Sim P C0 M0 w0 st a w) (d : Option Tmp) (v : Value) (hd : ∀ i, d = some i → isAnyB st.t[i]? = true) : Sim P C0 M0 w0 st (a.put d v) w := by
  have h1 := h.put d (x := .any) (u := v) (fun _ _ => .any _)
  cases d with
  | none => exact h1
  | some i =>
    have : KV.put st.t (some i) .any = st.t := putAny (hd i rfl)
    rw [this] at h1
    exact h1
theorem Sim.anyL {C0 : Cx} {M0 : Mem} {w0 w : World} {st : St} : ∀ (l : List (Oper × Value)) {a : Act}, Sim P C0 M0 w0 st a w → (l.all fun p => match p.1.dst with | some i => isAnyB st.t[i]? | none => true) = true → Sim P C0 M0 w0 st (putsL l a) w
  | [], a, h, _ => h
  | (o, v) :: r, a, h, hb => by
    rw [List.all_cons, Bool.and_eq_true] at hb
    refine Sim.anyL r (h.any o.dst v fun i hi => ?_) hb.2
    have := hb.1
    dsimp only at this
    rw [hi] at this
    exact this
end
section
open Go.Maps Go.MapKept
open Go.ChangeMaps (setBlock)
variable {P : Program} {C C0 : Cx} {M M0 : Mem} {w w0 : World}

section
variable {o : Oper} {a : Act} {W W' : World}
theorem ex_move {x : Operand} {v : Value} (ho : o.op = .move x) (hv : a.eval x = v) : (execOp a.eval o).run P W = .ok (.value v) W := by
  unfold execOp; rw [ho]; simp [hv]
theorem ex_assign {x : Operand} {v : Value} (ho : o.op = .assign x) (hv : a.eval x = v) : (execOp a.eval o).run P W = .ok (.value v) W := by
  unfold execOp; rw [ho]; simp [hv]
theorem ex_index {t : TypeId} {x ix : Operand} {v u r : Value} (ho : o.op = .indexAddr t x ix) (hx : a.eval x = v) (hi : a.eval ix = u) (hr : (Instr.indexAt t v u).run P W = .ok r W) : (execOp a.eval o).run P W = .ok (.value r) W := by
  unfold execOp; rw [ho]; simp [hx, hi, hr, Result.andThen]
theorem ex_load {t : TypeId} {x : Operand} {v r : Value} (ho : o.op = .load t x) (hx : a.eval x = v) (hr : (Instr.loadAt t v).run P W = .ok r W) : (execOp a.eval o).run P W = .ok (.value r) W := by
  unfold execOp; rw [ho]; simp [hx, hr, Result.andThen]
theorem ex_lookup {t : TypeId} {x k : Operand} {v u r : Value} (ho : o.op = .lookup t x k false) (hx : a.eval x = v) (hk : a.eval k = u) (hr : (Instr.lookup t v u false).run P W = .ok r W) : (execOp a.eval o).run P W = .ok (.value r) W := by
  unfold execOp; rw [ho]; simp [hx, hk, hr, Result.andThen]
theorem ex_build1 {t : TypeId} {x : Operand} {v r : Value} (ho : o.op = .buildSlice t 1 #[(0, x)]) (hx : a.eval x = v) (hr : (Instr.buildSlice t 1 #[(0, v)]).run P W = .ok r W') : (execOp a.eval o).run P W = .ok (.value r) W' := by
  unfold execOp; rw [ho]; simp [hx, hr, Result.andThen]
theorem ex_append {t : TypeId} {s x : Operand} {v u r : Value} (ho : o.op = .call { callee := .builtin .append, args := #[s, x], argTypes := #[t, t] }) (hs : a.eval s = v) (hx : a.eval x = u) (hr : (Builtin.append_ #[t, t] o.type #[v, u]).run P W = .ok r W') :
    (execOp a.eval o).run P W = .ok (.value r) W' := by
  unfold execOp
  simp only [ho, resolve, invoke, builtin, Sem.run_bind, Sem.run_pure, Result.andThen_ok, List.map_toArray, List.map_cons, List.map_nil, hs, hx, hr]
theorem ex_update {t : TypeId} {m k x : Operand} {v u y : Value} (ho : o.op = .mapUpdate t m k x) (hm : a.eval m = v) (hk : a.eval k = u) (hx : a.eval x = y) (hr : (Instr.mapUpdate t v u y).run P W = .ok () W') : (execOp a.eval o).run P W = .ok .skip W' := by
  unfold execOp; rw [ho]; simp [hm, hk, hx, hr, Result.andThen]
theorem ex_makeMap {t : TypeId} (ho : o.op = .makeMap t none) : (execOp a.eval o).run P W = .ok (.value (.map (some W.heap.size))) (W.alloc (.map #[] 0)) := by
  have hr : (Instr.makeMap t none).run P W = .ok (.map (some W.heap.size)) (W.alloc (.map #[] 0)) := rfl
  unfold execOp; rw [ho]; simp [hr, Result.andThen]
end

theorem run_load1 {t : Nat} {i : TI} (hi : tiOf P t = some i) (ha : i.agg = false) {b o : Nat} {v : Value} (h : w.cell? ⟨b, o, none⟩ = some v) : (Instr.loadAt t (.pointer (some ⟨b, o, none⟩))).run P w = .ok v w := by
  unfold Instr.loadAt Instr.sureAddr
  simpa using run_loadVar_one hi ha h

def mapR (mb : Nat) (es : Array MapEntry) (cl : Nat) (L : List Ent) : List (Nat × Obj) := (mb, .map es cl) :: L.map Ent.blk
theorem mem_mapR {mb : Nat} {es : Array MapEntry} {cl : Nat} {L : List Ent} {p : Nat × Obj} : p ∈ mapR mb es cl L ↔ p = (mb, .map es cl) ∨ ∃ e ∈ L, e.blk = p := by simp [mapR]
def lookL (L : List Ent) (k : Int) : List Int := match lookE L k with
  | some e => e.l
  | none => []
theorem inj_of_nodup {α β : Type} (f : α → β) {x y : α} : ∀ (L : List α), (L.map f).Nodup → x ∈ L → y ∈ L → f x = f y → x = y
  | [], _, h, _, _ => by simp at h
  | a :: r, hn, hx, hy, he => by
    rw [List.map_cons, List.nodup_cons] at hn
    rcases List.mem_cons.1 hx with e1 | h1
    · rcases List.mem_cons.1 hy with e2 | h2
      · rw [e1, e2]
      · exact absurd (List.mem_map.2 ⟨y, h2, by rw [← he, e1]⟩) hn.1
    · rcases List.mem_cons.1 hy with e2 | h2
      · exact absurd (List.mem_map.2 ⟨x, h1, by rw [he, e2]⟩) hn.1
      · exact inj_of_nodup f r hn.2 h1 h2 he
theorem MapOK.b_inj {mb : Nat} {es : Array MapEntry} {L : List Ent} (h : MapOK mb es L) {e e' : Ent} (he : e ∈ L) (he' : e' ∈ L) (hb : e.b = e'.b) : e = e' := inj_of_nodup (·.b) L (List.nodup_cons.1 h.blks).2 he he' hb
theorem MapOK.b_mb {mb : Nat} {es : Array MapEntry} {L : List Ent} (h : MapOK mb es L) {e : Ent} (he : e ∈ L) : e.b ≠ mb := fun hb => (List.nodup_cons.1 h.blks).1 (List.mem_map.2 ⟨e, he, hb⟩)

theorem mapStep {t kt : TypeId} {S22 ty : TypeId} {st : St} {a : Act} {mb cl : Nat} {es : Array MapEntry} {L : List Ent} {k x : Int} (ht : P.underlying t = some (.map kt S22)) (hkt : P.underlying kt = some (.int .i64)) (h22 : P.underlying S22 = some (.slice 3))
    (hi3 : (P.info? 3).map (fun i => (i.zero, i.size, i.bytes)) = some (some (.int .i64 0), 1, 8))
    (hs : Sim P (C0.with (mapR mb es cl L ++ C0.R)) M0 w0 st a w) (hd : ∀ p ∈ mapR mb es cl L, ∀ q ∈ C0.R, p.1 ≠ q.1) (hM : MapOK mb es L) (hk : (Lit.int .i64 k).wf = true) (hl : ∀ e ∈ L, e.l.length ≤ 1000) :
    ∃ v2 w2 es' cl' e, (Builtin.append_ #[S22, S22] ty #[lookV L k, .slice (some ⟨w.heap.size, 0, none⟩) 1 1]).run P (w.alloc (.cells #[.int .i64 x] 3)) = .ok v2 w2 ∧
      (∀ b, b < w.heap.size → (∀ q ∈ mapR mb es cl L, q.1 ≠ b) → w2.heap[b]? = w.heap[b]?) ∧ w2.heap[mb]? = w.heap[mb]? ∧
      (Instr.mapUpdate t (.map (some mb)) (.int .i64 k) v2).run P w2 = .ok () (setBlock w2 mb (.map es' cl')) ∧ MapOK mb es' (putE L e) ∧ e.k = k ∧ e.l = lookL L k ++ [x] ∧
      (∀ p ∈ mapR mb es' cl' (putE L e), ∀ q ∈ C0.R, p.1 ≠ q.1) ∧ Sim P (C0.with (mapR mb es' cl' (putE L e) ++ C0.R)) M0 w0 st a (setBlock w2 mb (.map es' cl')) := by
  obtain ⟨i, hi, hz, hz1, hz2⟩ := info_parts hi3
  have hhas := hs.has
  have hmb : w.heap[mb]? = some (.map es cl) := hhas (mb, .map es cl) (by simp [mapR])
  have hmlt := lt_of_some hmb
  have hblkh : ∀ e ∈ L, w.heap[e.b]? = some (.cells e.arr 3 (0, 0)) := fun e he => hhas e.blk (by simp [mapR]; exact .inr (.inl ⟨e, he, rfl⟩))
  obtain ⟨n1, n2, n3⟩ := heap_push w (.cells #[.int .i64 x] 3)
  have hown : (w.alloc (.cells #[.int .i64 x] 3)).ownsRow 0 3 1 (lookV L k) (lookL L k).length ((lookL L k).map (Value.int .i64)) ∧ ((lookV L k).ownBlock = none ∨ ∃ e0 ∈ L, e0.k = k ∧ (lookV L k).ownBlock = some e0.b) ∧ (lookL L k).length ≤ 1000 := by
    unfold lookV lookL
    cases h : lookE L k with
    | none => exact ⟨nil_owns, .inl rfl, by simp⟩
    | some e0 =>
      obtain ⟨q1, q2⟩ := lookE_some h
      exact ⟨Ent.owns (hM.ok e0 q1) ((n3 _ (lt_of_some (hblkh e0 q1))).trans (hblkh e0 q1)), .inr ⟨e0, q1, q2, rfl⟩, hl e0 q1⟩
  obtain ⟨ho, hbk, hlen⟩ := hown
  obtain ⟨v2, w2, hrun, ho2, hg2, hnil, hat⟩ := run_append_own_at (P := P) (w := w.alloc (.cells #[.int .i64 x] 3)) 0 S22 ty 3 i (.int .i64 0) 1 8 h22 hi hz hz1 hz2 rfl (by decide) (lookV L k) (lookL L k).length _ ho
    ⟨w.heap.size, 0, none⟩ 1 1 [.int .i64 x] rfl (cell_one_new w (.int .i64 x) 3) (fun u hu => by simp at hu; subst hu; rfl) (by unfold maxLen; omega) (by omega) (Nat.zero_le _)
  have ho2' : w2.ownsRow 0 3 1 v2 (lookL L k ++ [x]).length ((lookL L k ++ [x]).map (Value.int .i64)) := by
    rw [List.length_append, List.map_append]
    exact ho2
  obtain ⟨e, rfl, hel, rfl, heo, heh⟩ := owns_ent hk (by simp) ho2'
  have hvb : e.val.ownBlock = some e.b := rfl
  have hwhere : (∃ e0 ∈ L, e0.k = e.k ∧ e0.b = e.b) ∨ e.b = w.heap.size + 1 := by
    rcases hat with h | h
    · rcases hbk with h0 | ⟨e0, q1, q2, q3⟩
      · rw [h0, hvb] at h; cases h
      · rw [q3, hvb] at h; exact .inl ⟨e0, q1, q2, (Option.some.inj h).symm⟩
    · rw [hvb] at h
      right
      have := Option.some.inj h
      rw [this]; simp
  have hrow : ∀ b, b < w.heap.size → (∀ e0 ∈ L, e0.k = e.k → e0.b ≠ b) → w2.heap[b]? = w.heap[b]? := fun b hb hno => by
    refine (hg2.block b (by omega) (fun he => ?_)).trans (n3 b hb)
    rcases hbk with h0 | ⟨e0, q1, q2, q3⟩
    · rw [h0] at he; cases he
    · rw [q3] at he; exact hno e0 q1 q2 (Option.some.inj he).symm
  have hblk : e.b ≠ mb ∧ ∀ y ∈ L, y.k ≠ e.k → y.b ≠ e.b := by
    rcases hwhere with ⟨e0, q1, q2, q3⟩ | h
    · refine ⟨q3 ▸ hM.b_mb q1, fun y hy hyk hb => hyk ?_⟩
      have := hM.b_inj hy q1 (hb.trans q3.symm)
      rw [this]; exact q2
    · refine ⟨by omega, fun y hy _ hb => ?_⟩
      have := lt_of_some (hblkh y hy)
      omega
  have hmb2 : w2.heap[mb]? = w.heap[mb]? := hrow mb hmlt fun e0 he0 _ => hM.b_mb he0
  obtain ⟨es', cl', hup, hM'⟩ := put_run (P := P) (w := w2) ht hkt (hmb2.trans hmb) hM e heo hblk
  refine ⟨e.val, w2, es', cl', e, hrun, fun b hb hno => hrow b hb fun e0 he0 _ => hno e0.blk (by simp [mapR]; exact .inr ⟨e0, he0, rfl⟩), hmb2, hup, hM', rfl, hel, ?_, ?_⟩
  · intro p hp q hq
    rcases mem_mapR.1 hp with rfl | ⟨y, hy, rfl⟩
    · exact hd (mb, .map es cl) (by simp [mapR]) q hq
    · rcases mem_putE.1 hy with ⟨q1, q2⟩ | rfl
      · exact hd y.blk (mem_mapR.2 (.inr ⟨y, q1, rfl⟩)) q hq
      · rcases hwhere with ⟨e0, q1, q2, q3⟩ | h
        · exact fun hpq => hd e0.blk (mem_mapR.2 (.inr ⟨e0, q1, rfl⟩)) q hq (by rw [← hpq]; exact q3)
        · have := lt_of_some (hhas q (List.mem_append_right _ hq))
          intro hpq
          change y.b = q.1 at hpq
          omega
  · have hne : ∀ p ∈ C0.R, p.1 ≠ mb ∧ ∀ e0 ∈ L, p.1 ≠ e0.b := fun p hp => ⟨fun h => hd (mb, .map es cl) (by simp [mapR]) p hp h.symm, fun e0 he0 h => hd e0.blk (mem_mapR.2 (.inr ⟨e0, he0, rfl⟩)) p hp h.symm⟩
    have hset : ∀ b, b ≠ mb → (setBlock w2 mb (.map es' cl')).heap[b]? = w2.heap[b]? := fun b hb => by
      unfold setBlock
      simp only [Array.getElem?_setIfInBounds]
      rw [if_neg (Ne.symm hb)]
    have hsetm : (setBlock w2 mb (.map es' cl')).heap[mb]? = some (.map es' cl') := by
      unfold setBlock
      have : mb < w2.heap.size := lt_of_some (hmb2.trans hmb)
      simp [this]
    refine hs.beside (fun b => b = mb ∨ ∃ e0 ∈ L, e0.k = e.k ∧ e0.b = b) (fun b hb => ?_) hg2.os hg2.tape hg2.output (by have := hg2.size; unfold setBlock; simp only [Array.size_setIfInBounds]; omega) (fun b hb hX => ?_) (fun p hp => ?_)
    · rcases hb with rfl | ⟨e0, q1, q2, rfl⟩
      · exact ⟨_, List.mem_append_left _ (mem_mapR.2 (.inl rfl))⟩
      · exact ⟨_, List.mem_append_left _ (mem_mapR.2 (.inr ⟨e0, q1, rfl⟩))⟩
    · rw [hset b (fun h => hX (.inl h))]
      exact hrow b hb fun e0 q1 q2 q3 => hX (.inr ⟨e0, q1, q2, q3⟩)
    · rcases List.mem_append.1 hp with hp | hp
      · rcases mem_mapR.1 hp with rfl | ⟨y, hy, rfl⟩
        · exact .inr ⟨hsetm, (fun h => by cases h), .inr ⟨_, List.mem_append_left _ (mem_mapR.2 (.inl rfl))⟩⟩
        · rcases mem_putE.1 hy with ⟨q1, q2⟩ | rfl
          · refine .inl ⟨List.mem_append_left _ (mem_mapR.2 (.inr ⟨y, q1, rfl⟩)), fun hX => ?_⟩
            rcases hX with hX | ⟨e0, r1, r2, r3⟩
            · exact hM.b_mb q1 hX
            · have := hM.b_inj q1 r1 r3.symm
              exact q2 (this ▸ r2)
          · refine .inr ⟨(hset _ hblk.1).trans heh, (fun h => by cases h), ?_⟩
            rcases hwhere with ⟨e0, r1, r2, r3⟩ | h
            · exact .inr ⟨.cells e0.arr 3 (0, 0), List.mem_append_left _ (mem_mapR.2 (.inr ⟨e0, r1, by unfold Ent.blk; rw [r3]⟩))⟩
            · exact .inl (by show w.heap.size ≤ y.b; omega)
      · refine .inl ⟨List.mem_append_right _ hp, fun hX => ?_⟩
        rcases hX with hX | ⟨e0, r1, r2, r3⟩
        · exact (hne p hp).1 hX
        · exact (hne p hp).2 e0 r1 r3.symm
end
end KV
end Go.Proofs
section
namespace Go.Proofs
open KL Go.RowKit
namespace KV
open Go.ChangeMaps (setBlock)
variable {C C0 : Cx} {M M0 : Mem} {w w0 : World}

theorem info3z : (Tryz.prog.info? 3).map (fun i => (i.zero, i.size, i.bytes)) = some (some (.int .i64 0), 1, 8) := by kernel_rfl
theorem ti3 : ∃ i, tiOf Tryz.prog 3 = some i ∧ i.agg = false ∧ i.size = 1 := by
  have h : (tiOf Tryz.prog 3).map (fun i => (i.agg, i.size)) = some (false, 1) := by kernel_rfl
  cases h2 : tiOf Tryz.prog 3 with
  | none => rw [h2] at h; cases h
  | some i => rw [h2] at h; simp at h; exact ⟨i, rfl, h.1, h.2⟩
abbrev mpv (mb : Nat) : PV := .v (.map (some mb))
abbrev stT (c : KL.Cup) (ns : List Int) (mo : Int) (qs : List Int) : St := ⟨fr 161 [(1, (.p (intsP ns))), (2, (.p (intP mo))), (3, (.p (intsP qs))), (10, (.ptr 0 0))], [some (.box 120 [(.p (intP c.sk)), (.p (intP c.ra)), (.p (intP c.be)), (.p (intsP c.pts)), (.p (rowsP c.done))])]⟩
abbrev stA (c : KL.Cup) (ns : List Int) (mo : Int) (qs : List Int) (mv : PV) : St := ⟨fr 161 [(1, (.p (intsP ns))), (2, (.p (intP mo))), (3, (.p (intsP qs))), (10, (.ptr 0 0)), (12, (.p mv))], [some (.box 120 [(.p (intP c.sk)), (.p (intP c.ra)), (.p (intP c.be)), (.p (intsP c.pts)), (.p (rowsP c.done))])]⟩
abbrev stB (ns : List Int) (mo : Int) (qs : List Int) (mv : PV) (ts : List Int) (i : Nat) : St := ⟨fr 161 [(1, (.p (intsP ns))), (2, (.p (intP mo))), (3, (.p (intsP qs))), (12, (.p mv)), (63, (.p (intsP ts))), (64, (.p (intP (ts.length : Int)))), (65, (.p (intP (i : Int))))], []⟩
abbrev stD (ns : List Int) (mo : Int) (qs : List Int) (mv : PV) (ts : List Int) (i : Nat) (x : Int) : St := ⟨fr 161 [(1, (.p (intsP ns))), (2, (.p (intP mo))), (3, (.p (intsP qs))), (12, (.p mv)), (13, (.p (intP (i : Int)))), (14, (.p (intP x))), (63, (.p (intsP ts))), (64, (.p (intP (ts.length : Int)))), (65, (.p (intP (i : Int))))], []⟩
abbrev stF (ns : List Int) (mo : Int) (qs : List Int) (mv : PV) (n : Nat) (o : List (List Int)) : St := ⟨fr 161 [(1, (.p (intsP ns))), (2, (.p (intP mo))), (3, (.p (intsP qs))), (12, (.p mv)), (15, (.own 0)), (85, (.p (intP (n : Int))))], [some (.row 40 o.length (o.flatten.map intP))]⟩
abbrev stG (ns : List Int) (mo : Int) (qs : List Int) (mv : PV) (n : Nat) (o : List (List Int)) : St := ⟨fr 161 [(1, (.p (intsP ns))), (2, (.p (intP mo))), (3, (.p (intsP qs))), (12, (.p mv)), (15, (.own 0)), (16, (.p (intP (n : Int)))), (85, (.p (intP (n : Int))))], [some (.row 40 o.length (o.flatten.map intP))]⟩
abbrev stN (ns : List Int) (mo : Int) (qs : List Int) (mv : PV) (n : Nat) (o : List (List Int)) : St := ⟨fr 161 [(1, (.p (intsP ns))), (2, (.p (intP mo))), (3, (.p (intsP qs))), (12, (.p mv)), (15, (.own 0)), (16, (.p (intP (n : Int)))), (17, (.p nilS)), (85, (.p (intP (n : Int))))], [some (.row 40 o.length (o.flatten.map intP))]⟩
abbrev stH (ns : List Int) (mo : Int) (qs : List Int) (mv : PV) (n : Nat) (o : List (List Int)) (y : Int) (l : List Int) : St := ⟨fr 161 [(1, (.p (intsP ns))), (2, (.p (intP mo))), (3, (.p (intsP qs))), (12, (.p mv)), (15, (.own 0)), (16, (.p (intP (n : Int)))), (17, (.own 1)), (85, (.p (intP (n : Int))))], [some (.row 40 o.length (o.flatten.map intP)), some (.row 3 (l.length + 1) ((intP y) :: (l.map intP)))]⟩

theorem ops14_ex : ∃ l : List Oper, sub (cd Tryz.f22) [1, 1, 1, 1, 0, 1, 0, 0, 1, 1, 0, 0, 1] = .region 14 l.toArray true ∧ closedL l [0, 1, 2, 3, 4, 5, 6, 7, 8, 9, 10, 11] 12 13 14 = true ∧ l.map (fun o => (o.op, o.dst)) = [(.move (.tmp 12), some 70), (.move (.tmp 1), some 71), (.move (.tmp 13), some 72), (.indexAddr 22 (.tmp 71) (.tmp 72), some 73), (.load 3 (.tmp 73), some 74), (.move (.tmp 12), some 75), (.move (.tmp 1), some 76), (.move (.tmp 13), some 77), (.indexAddr 22 (.tmp 76) (.tmp 77), some 78), (.load 3 (.tmp 78), some 79), (.lookup 124 (.tmp 75) (.tmp 79) false, some 80), (.move (.tmp 14), some 81), (.buildSlice 22 1 #[(0, .tmp 81)], some 82), (.call { callee := .builtin .append, args := #[.tmp 80, .tmp 82], argTypes := #[22, 22] }, some 83), (.mapUpdate 124 (.tmp 70) (.tmp 74) (.tmp 83), none)] :=
  ⟨match sub (cd Tryz.f22) [1, 1, 1, 1, 0, 1, 0, 0, 1, 1, 0, 0, 1] with | .region _ ops _ => ops.toList | _ => [], by kernel_rfl, by kernel_rfl, by kernel_rfl⟩
theorem r14 {ns ts : List Int} {mo : Int} {qs : List Int} {i : Nat} {k x : Int} (hk : ns[i]? = some k) (hkw : (Lit.int .i64 k).wf = true) {G G' : List Ent → Prop} (hGl : ∀ L, G L → ∀ e ∈ L, e.l.length ≤ 1000)
    (hG : ∀ L e mb es, G L → MapOK mb es L → e.k = k → e.l = lookL L k ++ [x] → G' (putE L e)) :
    CodeR Tryz.prog 0 (sub (cd Tryz.f22) [1, 1, 1, 1, 0, 1, 0, 0, 1, 1, 0, 0, 1]) (fun st R => ∃ mb es cl L, st = stD ns mo qs (mpv mb) ts i x ∧ R = mapR mb es cl L ∧ MapOK mb es L ∧ G L) .normal
      (fun st R => ∃ mb es cl L, st = stD ns mo qs (mpv mb) ts i x ∧ R = mapR mb es cl L ∧ MapOK mb es L ∧ G' L) := by
  obtain ⟨l, hc, hB, hops⟩ := ops14_ex
  rw [hc]
  refine CodeR.hand fun C0 M0 w0 a w st R hM0 hΨ hd hs => ?_
  obtain ⟨mb, es, cl, L, rfl, rfl, hM, hGL⟩ := hΨ
  obtain ⟨o0, l0, rfl, h0, hops⟩ := List.map_eq_cons_iff.1 hops
  obtain ⟨o1, l1, rfl, h1, hops⟩ := List.map_eq_cons_iff.1 hops
  obtain ⟨o2, l2, rfl, h2, hops⟩ := List.map_eq_cons_iff.1 hops
  obtain ⟨o3, l3, rfl, h3, hops⟩ := List.map_eq_cons_iff.1 hops
  obtain ⟨o4, l4, rfl, h4, hops⟩ := List.map_eq_cons_iff.1 hops
  obtain ⟨o5, l5, rfl, h5, hops⟩ := List.map_eq_cons_iff.1 hops
  obtain ⟨o6, l6, rfl, h6, hops⟩ := List.map_eq_cons_iff.1 hops
  obtain ⟨o7, l7, rfl, h7, hops⟩ := List.map_eq_cons_iff.1 hops
  obtain ⟨o8, l8, rfl, h8, hops⟩ := List.map_eq_cons_iff.1 hops
  obtain ⟨o9, l9, rfl, h9, hops⟩ := List.map_eq_cons_iff.1 hops
  obtain ⟨o10, l10, rfl, h10, hops⟩ := List.map_eq_cons_iff.1 hops
  obtain ⟨o11, l11, rfl, h11, hops⟩ := List.map_eq_cons_iff.1 hops
  obtain ⟨o12, l12, rfl, h12, hops⟩ := List.map_eq_cons_iff.1 hops
  obtain ⟨o13, l13, rfl, h13, hops⟩ := List.map_eq_cons_iff.1 hops
  obtain ⟨o14, l14, rfl, h14, hops⟩ := List.map_eq_cons_iff.1 hops
  obtain rfl := List.map_eq_nil_iff.1 hops
  obtain ⟨q0, d0⟩ := Prod.mk.inj h0
  obtain ⟨q1, d1⟩ := Prod.mk.inj h1
  obtain ⟨q2, d2⟩ := Prod.mk.inj h2
  obtain ⟨q3, d3⟩ := Prod.mk.inj h3
  obtain ⟨q4, d4⟩ := Prod.mk.inj h4
  obtain ⟨q5, d5⟩ := Prod.mk.inj h5
  obtain ⟨q6, d6⟩ := Prod.mk.inj h6
  obtain ⟨q7, d7⟩ := Prod.mk.inj h7
  obtain ⟨q8, d8⟩ := Prod.mk.inj h8
  obtain ⟨q9, d9⟩ := Prod.mk.inj h9
  obtain ⟨q10, d10⟩ := Prod.mk.inj h10
  obtain ⟨q11, d11⟩ := Prod.mk.inj h11
  obtain ⟨q12, d12⟩ := Prod.mk.inj h12
  obtain ⟨q13, d13⟩ := Prod.mk.inj h13
  obtain ⟨q14, d14⟩ := Prod.mk.inj h14
  have hsz : a.tmps.size = 161 := hs.size
  have v12 : a.tmps.getD 12 undef = .map (some mb) := hs.slot rfl
  have v13 : a.tmps.getD 13 undef = .int .i64 i := hs.slot rfl
  have v14 : a.tmps.getD 14 undef = .int .i64 x := hs.slot rfl
  obtain ⟨p, cap, v1, hc1, hc2, hcell⟩ := hs.ints (i := 1) (l := ns) rfl
  obtain ⟨b, o, rfl, hb, hcl, hne⟩ := hcell i k hk
  have V12 : a.eval (.tmp 12) = .map (some mb) := v12
  have V13 : a.eval (.tmp 13) = .int .i64 i := v13
  have V14 : a.eval (.tmp 14) = .int .i64 x := v14
  have V1 : a.eval (.tmp 1) = .slice (some ⟨b, o, none⟩) ns.length cap := v1
  obtain ⟨i3, t3, ha3, hs3⟩ := ti3
  have hil : (i : Int) < (ns.length : Int) := by
    have := (List.getElem?_eq_some_iff.1 hk).1
    omega
  have hix : ∀ W, (Instr.indexAt 22 (.slice (some ⟨b, o, none⟩) ns.length cap) (.int .i64 i)).run Tryz.prog W = .ok (.pointer (some ⟨b, o + i, none⟩)) W := fun W => by
    have := run_indexAt_slice (P := Tryz.prog) (w := W) Tryz.underlying22 t3 (b := b) (off := o) (n := ns.length) (cap := cap) (k := .i64) (i := (i : Int)) (by omega) hil
    rw [hs3, Nat.mul_one, Int.toNat_natCast] at this
    exact this
  have hmb : w.heap[mb]? = some (.map es cl) := hs.has (mb, .map es cl) (by simp [mapR])
  have hs' := hs.drawn (w.drawn + 1)
  obtain ⟨v2, w2, es', cl', e, hrun, hkeep, hmb2, hup, hM', hek, hel, hd', hsim⟩ := mapStep (P := Tryz.prog) (kt := 3) (S22 := 22) (ty := o13.type) (k := k) (x := x) Tryz.underlying124 Tryz.underlying3 Tryz.underlying22 info3z hs' hd hM hkw (hGl L hGL)
  refine region3 (P := Tryz.prog) (o1 := o12) (o2 := o13) (o3 := o14) (S := fun W => W.cell? ⟨b, o + i, none⟩ = some (.int .i64 k) ∧ W.heap[mb]? = some (.map es cl)) [0, 1, 2, 3, 4, 5, 6, 7, 8, 9, 10, 11] 12 13 14 mixed hB rfl rfl rfl (fun c a w h => by cases h.1) ⟨hcl, hmb⟩
    [.map (some mb), .slice (some ⟨b, o, none⟩) ns.length cap, .int .i64 i, .pointer (some ⟨b, o + i, none⟩), .int .i64 k, .map (some mb), .slice (some ⟨b, o, none⟩) ns.length cap, .int .i64 i, .pointer (some ⟨b, o + i, none⟩), .int .i64 k, lookV L k, .int .i64 x] rfl ?_ ?_
  · refine ⟨fun W hW => ex_move q0 (by simp [eval_put_ne, eval_put_same, put_size, hsz, V12, V13, V14, V1, d0, d1, d2, d3, d4, d5, d6, d7, d8, d9, d10, d11]), fun W hW => ex_move q1 (by simp [eval_put_ne, eval_put_same, put_size, hsz, V12, V13, V14, V1, d0, d1, d2, d3, d4, d5, d6, d7, d8, d9, d10, d11]), fun W hW => ex_move q2 (by simp [eval_put_ne, eval_put_same, put_size, hsz, V12, V13, V14, V1, d0, d1, d2, d3, d4, d5, d6, d7, d8, d9, d10, d11]), fun W hW => ex_index q3 (by simp [eval_put_ne, eval_put_same, put_size, hsz, V12, V13, V14, V1, d0, d1, d2, d3, d4, d5, d6, d7, d8, d9, d10, d11]) (by simp [eval_put_ne, eval_put_same, put_size, hsz, V12, V13, V14, V1, d0, d1, d2, d3, d4, d5, d6, d7, d8, d9, d10, d11]) (hix W), fun W hW => ex_load q4 (by simp [eval_put_ne, eval_put_same, put_size, hsz, V12, V13, V14, V1, d0, d1, d2, d3, d4, d5, d6, d7, d8, d9, d10, d11]) (run_load1 t3 ha3 hW.1), fun W hW => ex_move q5 (by simp [eval_put_ne, eval_put_same, put_size, hsz, V12, V13, V14, V1, d0, d1, d2, d3, d4, d5, d6, d7, d8, d9, d10, d11]), fun W hW => ex_move q6 (by simp [eval_put_ne, eval_put_same, put_size, hsz, V12, V13, V14, V1, d0, d1, d2, d3, d4, d5, d6, d7, d8, d9, d10, d11]), fun W hW => ex_move q7 (by simp [eval_put_ne, eval_put_same, put_size, hsz, V12, V13, V14, V1, d0, d1, d2, d3, d4, d5, d6, d7, d8, d9, d10, d11]), fun W hW => ex_index q8 (by simp [eval_put_ne, eval_put_same, put_size, hsz, V12, V13, V14, V1, d0, d1, d2, d3, d4, d5, d6, d7, d8, d9, d10, d11]) (by simp [eval_put_ne, eval_put_same, put_size, hsz, V12, V13, V14, V1, d0, d1, d2, d3, d4, d5, d6, d7, d8, d9, d10, d11]) (hix W), fun W hW => ex_load q9 (by simp [eval_put_ne, eval_put_same, put_size, hsz, V12, V13, V14, V1, d0, d1, d2, d3, d4, d5, d6, d7, d8, d9, d10, d11]) (run_load1 t3 ha3 hW.1), fun W hW => ex_lookup q10 (by simp [eval_put_ne, eval_put_same, put_size, hsz, V12, V13, V14, V1, d0, d1, d2, d3, d4, d5, d6, d7, d8, d9, d10, d11]) (by simp [eval_put_ne, eval_put_same, put_size, hsz, V12, V13, V14, V1, d0, d1, d2, d3, d4, d5, d6, d7, d8, d9, d10, d11]) (look_run Tryz.underlying124 Tryz.underlying3 rfl hW.2 hM hkw), fun W hW => ex_move q11 (by simp [eval_put_ne, eval_put_same, put_size, hsz, V12, V13, V14, V1, d0, d1, d2, d3, d4, d5, d6, d7, d8, d9, d10, d11]), trivial⟩
  · intro a' ha'
    have e70 : a'.eval (.tmp 70) = .map (some mb) := by rw [ha']; simp [putsL, eval_put_ne, eval_put_same, put_size, hsz, V12, V13, V14, V1, d0, d1, d2, d3, d4, d5, d6, d7, d8, d9, d10, d11]
    have e74 : a'.eval (.tmp 74) = .int .i64 k := by rw [ha']; simp [putsL, eval_put_ne, eval_put_same, put_size, hsz, V12, V13, V14, V1, d0, d1, d2, d3, d4, d5, d6, d7, d8, d9, d10, d11]
    have e80 : a'.eval (.tmp 80) = lookV L k := by rw [ha']; simp [putsL, eval_put_ne, eval_put_same, put_size, hsz, V12, V13, V14, V1, d0, d1, d2, d3, d4, d5, d6, d7, d8, d9, d10, d11]
    have e81 : a'.eval (.tmp 81) = .int .i64 x := by rw [ha']; simp [putsL, eval_put_ne, eval_put_same, put_size, hsz, V12, V13, V14, V1, d0, d1, d2, d3, d4, d5, d6, d7, d8, d9, d10, d11]
    have hsz' : a'.tmps.size = 161 := by rw [ha']; simp [putsL, put_size, hsz, d0, d1, d2, d3, d4, d5, d6, d7, d8, d9, d10, d11]
    obtain ⟨inf, hi, hz, hz1, hz2⟩ := info_parts info3z
    have hbld : ∀ W : World, (Instr.buildSlice 22 1 #[(0, .int .i64 x)]).run Tryz.prog W = .ok (.slice (some ⟨W.heap.size, 0, none⟩) 1 1) (W.alloc (.cells #[.int .i64 x] 3)) := fun W =>
      run_build0 (P := Tryz.prog) 22 3 inf 1 #[(0, .int .i64 x)] #[.int .i64 x] (.int .i64 0) Tryz.underlying22 hi hz (by rw [hz1]; decide) (by rw [hz1]; kernel_rfl)
    refine ⟨_, _, v2, w2, setBlock w2 mb (.map es' cl'), ex_build1 q12 e81 (hbld _), ?_, ex_append q13 (by rw [d12, eval_put_ne rfl]; exact e80) (by rw [d12, eval_put_same (by omega)]) hrun, ⟨?_, hmb2.trans hmb⟩, ex_update q14 (by rw [d12, d13, eval_put_ne rfl, eval_put_ne rfl]; exact e70) (by rw [d12, d13, eval_put_ne rfl, eval_put_ne rfl]; exact e74) (by rw [d12, d13, eval_put_same (by rw [put_size]; omega)]) hup, ?_⟩
    · obtain ⟨n1, n2, n3⟩ := heap_push { w with drawn := w.drawn + 1 } (.cells #[.int .i64 x] 3)
      exact ⟨(cell_heap (n3 b hb) _).trans hcl, (n3 mb (lt_of_some hmb)).trans hmb⟩
    · exact (cell_heap (hkeep b hb fun q hq => hne q (List.mem_append_left _ hq)) _).trans hcl
    · refine ⟨rfl, _, _, ⟨mb, es', cl', putE L e, rfl, rfl, hM', hG L e mb es hGL hM hek hel⟩, hd', ?_⟩
      have h1 := (Sim.anyL [(o0, .map (some mb)), (o1, .slice (some ⟨b, o, none⟩) ns.length cap), (o2, .int .i64 i), (o3, .pointer (some ⟨b, o + i, none⟩)), (o4, .int .i64 k), (o5, .map (some mb)), (o6, .slice (some ⟨b, o, none⟩) ns.length cap), (o7, .int .i64 i), (o8, .pointer (some ⟨b, o + i, none⟩)), (o9, .int .i64 k), (o10, lookV L k), (o11, .int .i64 x)] hsim (by
        simp only [List.all_cons, List.all_nil, d0, d1, d2, d3, d4, d5, d6, d7, d8, d9, d10, d11]
        rfl))
      have h2 := ((h1.any o12.dst (.slice (some ⟨w.heap.size, 0, none⟩) 1 1) (fun i hi => by rw [d12] at hi; cases hi; rfl)).any o13.dst v2 (fun i hi => by rw [d13] at hi; cases hi; rfl)).any o14.dst undef (fun i hi => by rw [d14] at hi; cases hi)
      rw [ha']
      exact h2
end KV
end Go.Proofs
end
section
namespace Go.Proofs
open KL Go.RowKit
namespace KV
open Go.ChangeMaps (setBlock)
variable {C C0 : Cx} {M M0 : Mem} {w w0 : World}

def grp (ns ts : List Int) (g : Int) (i : Nat) : List Int := ((ns.zip ts).take i).filterMap fun p => if p.1 = g then some p.2 else none
theorem grp_zero (ns ts : List Int) (g : Int) : grp ns ts g 0 = [] := rfl
theorem grp_succ {ns ts : List Int} {g k x : Int} {i : Nat} (hk : ns[i]? = some k) (hx : ts[i]? = some x) : grp ns ts g (i + 1) = grp ns ts g i ++ (if k = g then [x] else []) := by
  have : (ns.zip ts)[i]? = some (k, x) := List.getElem?_zip_eq_some.2 ⟨hk, hx⟩
  unfold grp
  rw [List.take_add_one, this, List.filterMap_append]
  by_cases h : k = g <;> simp [h]
theorem grp_len (ns ts : List Int) (g : Int) (i : Nat) : (grp ns ts g i).length ≤ i := by
  unfold grp
  exact Nat.le_trans (List.length_filterMap_le _ _) (List.length_take_le _ _)

structure GrpOK (ns ts : List Int) (i : Nat) (L : List Ent) : Prop where
  a : ∀ e ∈ L, e.l = grp ns ts e.k i ∧ e.l ≠ []
  b : ∀ g, grp ns ts g i ≠ [] → ∃ e ∈ L, e.k = g
theorem GrpOK.nil (ns ts : List Int) : GrpOK ns ts 0 [] := ⟨fun e h => by simp at h, fun g h => absurd (grp_zero ns ts g) h⟩
theorem GrpOK.look {ns ts : List Int} {i : Nat} {L : List Ent} (h : GrpOK ns ts i L) (k : Int) : lookL L k = grp ns ts k i := by
  unfold lookL
  cases hl : lookE L k with
  | some e =>
    obtain ⟨h1, rfl⟩ := lookE_some hl
    exact (h.a e h1).1
  | none =>
    cases hg : grp ns ts k i with
    | nil => rfl
    | cons y l =>
      obtain ⟨e, he, hk⟩ := h.b k (by rw [hg]; simp)
      exact absurd hk (lookE_none hl e he)
theorem GrpOK.step {ns ts : List Int} {i : Nat} {L : List Ent} {k x : Int} (hk : ns[i]? = some k) (hx : ts[i]? = some x) (h : GrpOK ns ts i L) (e : Ent) (hek : e.k = k) (hel : e.l = lookL L k ++ [x]) : GrpOK ns ts (i + 1) (putE L e) := by
  refine ⟨fun y hy => ?_, fun g hg => ?_⟩
  · rcases mem_putE.1 hy with ⟨h1, h2⟩ | rfl
    · obtain ⟨q1, q2⟩ := h.a y h1
      refine ⟨?_, q2⟩
      rw [grp_succ hk hx, if_neg (fun h => h2 (by rw [hek, h])), List.append_nil]
      exact q1
    · refine ⟨?_, by rw [hel]; simp⟩
      rw [hel, h.look, grp_succ hk hx, hek, if_pos rfl]
  · by_cases hgk : g = k
    · exact ⟨e, mem_putE.2 (.inr rfl), by rw [hek, hgk]⟩
    · rw [grp_succ hk hx, if_neg (fun h => hgk h.symm), List.append_nil] at hg
      obtain ⟨y, hy, hyk⟩ := h.b g hg
      exact ⟨y, mem_putE.2 (.inl ⟨hy, by rw [hyk, hek]; exact hgk⟩), hyk⟩

def PsiM (f : PV → St) (G : List Ent → Prop) : SR := fun st R => ∃ mb es cl L, st = f (mpv mb) ∧ R = mapR mb es cl L ∧ MapOK mb es L ∧ G L
def PsiK (f : PV → St) (n : Nat) (G : List Ent → Prop) : SR := fun st R => ∃ mb es cl L, st = f (mpv mb) ∧ (mb, Obj.map es cl) ∈ R ∧ (∀ e ∈ L, (n : Int) ≤ e.k → e.blk ∈ R) ∧ MapOK mb es L ∧ G L
section
variable {c : Code} {f f' : PV → St} {G : List Ent → Prop} {e : Ex}
theorem CodeR.ofM (h : ∀ mb, CodeOK Tryz.prog 0 c (f (mpv mb)) e (f' (mpv mb))) : CodeR Tryz.prog 0 c (PsiM f G) e (PsiM f' G) := CodeR.of fun st R ⟨mb, es, cl, L, h1, h2, h3, h4⟩ => ⟨_, ⟨mb, es, cl, L, rfl, h2, h3, h4⟩, h1 ▸ h mb⟩
theorem CodeR.ofK {n n' : Nat} (hn : n ≤ n') (h : ∀ mb, CodeOK Tryz.prog 0 c (f (mpv mb)) e (f' (mpv mb))) : CodeR Tryz.prog 0 c (PsiK f n G) e (PsiK f' n' G) := CodeR.of fun st R ⟨mb, es, cl, L, h1, h2, h3, h4, h5⟩ => ⟨_, ⟨mb, es, cl, L, rfl, h2, fun e he hk => h3 e he (by omega), h4, h5⟩, h1 ▸ h mb⟩
end

theorem ops10_ex : ∃ l : List Oper, sub (cd Tryz.f22) [1, 1, 1, 0] = .region 10 l.toArray false ∧ l.map (fun o => (o.op, o.dst, o.guard)) = [(.makeMap 124 none, some 61, none), (.assign (.tmp 61), some 12, none)] :=
  ⟨match sub (cd Tryz.f22) [1, 1, 1, 0] with | .region _ ops _ => ops.toList | _ => [], by kernel_rfl, by kernel_rfl⟩
theorem r10 {c : KL.Cup} {ns : List Int} {mo : Int} {qs ts : List Int} : CodeR Tryz.prog 0 (sub (cd Tryz.f22) [1, 1, 1, 0]) (fun st R => st = stT c ns mo qs ∧ R = []) .normal (PsiM (stA c ns mo qs) (GrpOK ns ts 0)) := by
  obtain ⟨l, hc, hops⟩ := ops10_ex
  rw [hc]
  refine CodeR.hand fun C0 M0 w0 a w st R hM0 hΨ hd hs => ?_
  obtain ⟨rfl, rfl⟩ := hΨ
  obtain ⟨o0, l0, rfl, h0, hops⟩ := List.map_eq_cons_iff.1 hops
  obtain ⟨o1, l1, rfl, h1, hops⟩ := List.map_eq_cons_iff.1 hops
  obtain rfl := List.map_eq_nil_iff.1 hops
  obtain ⟨q0, h0⟩ := Prod.mk.inj h0
  obtain ⟨d0, g0⟩ := Prod.mk.inj h0
  obtain ⟨q1, h1⟩ := Prod.mk.inj h1
  obtain ⟨d1, g1⟩ := Prod.mk.inj h1
  have hsz : a.tmps.size = 161 := hs.size
  obtain ⟨n1, n2, n3⟩ := heap_push w (.map #[] 0)
  refine wp_region_lit (lex_one (id := 10) g0 (ex_makeMap q0) (lex_one (id := 10) g1 (ex_assign (v := .map (some w.heap.size)) q1 (by rw [d0, eval_put_same (by omega)])) ?_))
  refine wpList_nil ⟨rfl, _, _, ⟨w.heap.size, #[], 0, [], rfl, rfl, MapOK.nil _, GrpOK.nil _ _⟩, ?_, ?_⟩
  · intro p hp q hq
    rcases mem_mapR.1 hp with rfl | ⟨e, he, _⟩
    · intro hpq
      have := lt_of_some (hs.has q (List.mem_append_right _ hq))
      change w.heap.size = q.1 at hpq
      omega
    · simp at he
  · have h2 := hs.beside (R' := mapR w.heap.size #[] 0 [] ++ C0.R) (w' := w.alloc (.map #[] 0)) (fun _ => False) (fun _ h => h.elim) rfl rfl rfl (by omega) (fun b hb _ => n3 b hb) (fun p hp => by
      rcases List.mem_append.1 hp with hp | hp
      · rcases mem_mapR.1 hp with rfl | ⟨e, he, _⟩
        · exact .inr ⟨n2, (fun h => by cases h), .inl (Nat.le_refl _)⟩
        · simp at he
      · exact .inl ⟨List.mem_append_right _ hp, fun h => h⟩)
    have h3 := (h2.any o0.dst (.map (some w.heap.size)) (fun i hi => by rw [d0] at hi; cases hi; rfl)).put (some 12) (x := .p (mpv w.heap.size)) (u := .map (some w.heap.size)) (fun _ _ => .p _ _ (.v _))
    rw [d1]
    exact h3

theorem ops20_ex : ∃ l : List Oper, sub (cd Tryz.f22) [1, 1, 1, 1, 1, 1, 0, 1, 0, 0, 1, 1, 0, 0, 1, 0] = .region 20 l.toArray false ∧ l.map (fun o => (o.op, o.dst, o.guard)) = [(.move (.tmp 12), some 88, none), (.move (.tmp 16), some 89, none), (.lookup 124 (.tmp 88) (.tmp 89) false, some 90, none), (.assign (.tmp 90), some 17, none)] :=
  ⟨match sub (cd Tryz.f22) [1, 1, 1, 1, 1, 1, 0, 1, 0, 0, 1, 1, 0, 0, 1, 0] with | .region _ ops _ => ops.toList | _ => [], by kernel_rfl, by kernel_rfl⟩
theorem wf_int {n : Nat} (h : n ≤ 1000) : (Lit.int .i64 (n : Int)).wf = true := by
  simp [Lit.wf, IntKind.min, IntKind.max, IntKind.bits, IntKind.signed]
  omega
theorem r20a {ns ts : List Int} {mo : Int} {qs : List Int} {n : Nat} {o : List (List Int)} {N : Nat} (hn : n ≤ 1000) (K : Act → World → Prop) {C0 : Cx} {a : Act} {R : List (Nat × Obj)} {mb cl : Nat} {es : Array MapEntry} {L : List Ent} {Q : Exit → Act → World → Prop} (hm : (mb, Obj.map es cl) ∈ R) (hM : MapOK mb es L)
    (hs : Sim Tryz.prog (C0.with (R ++ C0.R)) M0 w0 (stG ns mo qs (mpv mb) n o) a w)
    (h : ∀ a', (a'.tmps.getD 17 undef = lookV L n) → Sim Tryz.prog (C0.with (R ++ C0.R)) M0 w0 ⟨KV.put (stG ns mo qs (mpv mb) n o).t (some 17) .any, (stG ns mo qs (mpv mb) n o).m⟩ a' w → Q .normal a' w) :
    (sub (cd Tryz.f22) [1, 1, 1, 1, 1, 1, 0, 1, 0, 0, 1, 1, 0, 0, 1, 0]).wp Tryz.prog Q a w := by
  obtain ⟨l, hc, hops⟩ := ops20_ex
  rw [hc]
  obtain ⟨o0, l0, rfl, h0, hops⟩ := List.map_eq_cons_iff.1 hops
  obtain ⟨o1, l1, rfl, h1, hops⟩ := List.map_eq_cons_iff.1 hops
  obtain ⟨o2, l2, rfl, h2, hops⟩ := List.map_eq_cons_iff.1 hops
  obtain ⟨o3, l3, rfl, h3, hops⟩ := List.map_eq_cons_iff.1 hops
  obtain rfl := List.map_eq_nil_iff.1 hops
  obtain ⟨q0, h0⟩ := Prod.mk.inj h0
  obtain ⟨d0, g0⟩ := Prod.mk.inj h0
  obtain ⟨q1, h1⟩ := Prod.mk.inj h1
  obtain ⟨d1, g1⟩ := Prod.mk.inj h1
  obtain ⟨q2, h2⟩ := Prod.mk.inj h2
  obtain ⟨d2, g2⟩ := Prod.mk.inj h2
  obtain ⟨q3, h3⟩ := Prod.mk.inj h3
  obtain ⟨d3, g3⟩ := Prod.mk.inj h3
  have hsz : a.tmps.size = 161 := hs.size
  have V12 : a.eval (.tmp 12) = .map (some mb) := hs.slot rfl
  have V16 : a.eval (.tmp 16) = .int .i64 n := hs.slot rfl
  have hmb : w.heap[mb]? = some (.map es cl) := hs.has (mb, .map es cl) (List.mem_append_left _ hm)
  refine wp_region_lit (lex_one (id := 20) g0 (ex_move (v := .map (some mb)) q0 V12) (lex_one (id := 20) g1 (ex_move (v := .int .i64 n) q1 (by rw [d0, eval_put_ne rfl]; exact V16)) (lex_one (id := 20) g2 (ex_lookup (v := .map (some mb)) (u := .int .i64 n) (r := lookV L n) q2 (by rw [d0, d1, eval_put_ne rfl, eval_put_same (by omega)]) (by rw [d0, d1, eval_put_same (by rw [put_size]; omega)])
    (look_run Tryz.underlying124 Tryz.underlying3 rfl hmb hM (wf_int hn))) (lex_one (id := 20) g3 (ex_assign (v := lookV L n) q3 (by rw [d2, eval_put_same (by rw [d0, d1, put_size, put_size]; omega)])) ?_))))
  refine wpList_nil (h _ ?_ ?_)
  · rw [d0, d1, d2, d3]
    rw [← eval_tmp]
    exact eval_put_same (by rw [put_size, put_size, put_size]; omega)
  · have h4 := ((hs.any o0.dst (.map (some mb)) (fun i hi => by rw [d0] at hi; cases hi; rfl)).any o1.dst (.int .i64 n) (fun i hi => by rw [d1] at hi; cases hi; rfl)).any o2.dst (lookV L n) (fun i hi => by rw [d2] at hi; cases hi; rfl)
    have h5 := h4.put (some 17) (x := .any) (u := lookV L n) (fun _ _ => .any _)
    rw [d3]
    exact h5
theorem r20n {ns ts : List Int} {mo : Int} {qs : List Int} {n : Nat} {o : List (List Int)} {N : Nat} (hn : n ≤ 1000) (hg : grp ns ts n N = []) : CodeR Tryz.prog 0 (sub (cd Tryz.f22) [1, 1, 1, 1, 1, 1, 0, 1, 0, 0, 1, 1, 0, 0, 1, 0]) (PsiK (fun mv => stG ns mo qs mv n o) n (GrpOK ns ts N)) .normal
    (PsiK (fun mv => stN ns mo qs mv n o) n (GrpOK ns ts N)) := by
  refine CodeR.hand fun C0 M0 w0 a w st R hM0 hΨ hd hs => ?_
  obtain ⟨mb, es, cl, L, rfl, hm, hR, hM, hG⟩ := hΨ
  refine r20a (ts := ts) (N := N) hn (fun _ _ => True) hm hM hs fun a' hv hs' => ⟨rfl, _, R, ⟨mb, es, cl, L, rfl, hm, hR, hM, hG⟩, hd, ?_⟩
  have hl : lookV L n = .slice none 0 0 := by
    unfold lookV
    cases h : lookE L n with
    | none => rfl
    | some e =>
      obtain ⟨h1, h2⟩ := lookE_some h
      obtain ⟨q1, q2⟩ := hG.a e h1
      rw [h2, hg] at q1
      exact absurd q1 q2
  have hput : a'.put (some 17) (.slice none 0 0) = a' := by
    unfold Act.put
    have hsz : a'.tmps.size = 161 := hs'.size
    have : a'.tmps.setIfInBounds 17 (.slice none 0 0) = a'.tmps := by
      apply Array.ext
      · simp
      · intro j h1 h2
        rw [Array.getElem_setIfInBounds (by simpa using h1)]
        split
        · rename_i e
          subst e
          rw [hl, Array.getD_eq_getD_getElem?, Array.getElem?_eq_getElem h2] at hv
          exact hv.symm
        · rfl
    simp only [this]
  have h5 := hs'.put (some 17) (x := .p nilS) (u := .slice none 0 0) (fun _ _ => .p _ _ (.v _))
  rw [hput] at h5
  exact h5
theorem r20c {ns ts : List Int} {mo : Int} {qs : List Int} {n : Nat} {o : List (List Int)} {N : Nat} {y : Int} {l : List Int} (hn : n ≤ 1000) (hg : grp ns ts n N = y :: l) : CodeR Tryz.prog 0 (sub (cd Tryz.f22) [1, 1, 1, 1, 1, 1, 0, 1, 0, 0, 1, 1, 0, 0, 1, 0]) (PsiK (fun mv => stG ns mo qs mv n o) n (GrpOK ns ts N)) .normal
    (PsiK (fun mv => stH ns mo qs mv n o y l) (n + 1) (GrpOK ns ts N)) := by
  refine CodeR.hand fun C0 M0 w0 a w st R hM0 hΨ hd hs => ?_
  obtain ⟨mb, es, cl, L, rfl, hm, hR, hM, hG⟩ := hΨ
  obtain ⟨e, he, hek⟩ := hG.b n (by rw [hg]; simp)
  obtain ⟨q1, q2⟩ := hG.a e he
  rw [hek, hg] at q1
  have heR := hR e he (by rw [hek]; omega)
  have hl : lookV L n = e.val := by unfold lookV; rw [lookE_mem hM.keys he hek]
  refine r20a (ts := ts) (N := N) hn (fun _ _ => True) hm hM hs fun a' hv hs' => ⟨rfl, _, R.filter (fun p => p.1 != e.b), ⟨mb, es, cl, L, rfl, List.mem_filter.2 ⟨hm, by simpa using (hM.b_mb he).symm⟩, fun e' he' hk => List.mem_filter.2 ⟨hR e' he' (by omega), ?_⟩, hM, hG⟩, fun p hp => hd p ((List.mem_filter.1 hp).1), ?_⟩
  · simp only [Ent.blk, bne_iff_ne, ne_eq]
    intro hb
    have := hM.b_inj he' he hb
    rw [this, hek] at hk
    omega
  · have h6 := hs'.less (R' := e.blk :: (R.filter (fun p => p.1 != e.b) ++ C0.R)) (fun p hp => by
      rcases List.mem_cons.1 hp with rfl | hp
      · exact List.mem_append_left _ heR
      · rcases List.mem_append.1 hp with hp | hp
        · exact List.mem_append_left _ ((List.mem_filter.1 hp).1)
        · exact List.mem_append_right _ hp)
    obtain ⟨i, hi, hsz⟩ := size3
    have hok := hM.ok e he
    have hat := hok.at_
    obtain ⟨r1, r2⟩ := vals_arr (w := w) (fun _ => True) hat
    have h7 := h6.hand (k := 1) (d := 17) (n := e.l.length) (cap := e.cap) (cs := e.l.map intP) (i := i) (fun p hp => by
        rcases List.mem_append.1 hp with hp | hp
        · simpa using (List.mem_filter.1 hp).2
        · exact fun h => hd e.blk heR p hp h.symm) (by omega) (fun o ho => by cases ho) (by rw [hv, hl]; rfl) hi (by rw [hsz, Nat.mul_one]; exact hok.sz) (by rw [hsz]; simp) hok.le hok.cap
      (fun F j hj => (vals_arr (w := w) F hat).1 j hj) r2
    rw [q1] at h7
    exact h7
end KV
end Go.Proofs
end
section
namespace Go.Proofs
open KL Go.RowKit
namespace KV

abbrev stB6 (ns : List Int) (mo : Int) (qs : List Int) (mv : PV) (ts : List Int) (i : Nat) : St := ⟨fr 161 [(1, (.p (intsP ns))), (2, (.p (intP mo))), (3, (.p (intsP qs))), (12, (.p mv)), (63, (.p (intsP ts))), (64, (.p (intP (ts.length : Int)))), (65, (.p (intP (i : Int)))), (66, (.p (blP (decide ((i : Int) < (ts.length : Int))))))], []⟩
abbrev stF6 (ns : List Int) (mo : Int) (qs : List Int) (mv : PV) (n : Nat) (o : List (List Int)) : St := ⟨fr 161 [(1, (.p (intsP ns))), (2, (.p (intP mo))), (3, (.p (intsP qs))), (12, (.p mv)), (15, (.own 0)), (85, (.p (intP (n : Int)))), (86, (.p (blP (decide ((n : Int) < (31 : Int))))))], [some (.row 40 o.length (o.flatten.map intP))]⟩
theorem nat_loop1 {ns ts : List Int} {mo : Int} {qs : List Int} (hl : ns.length = ts.length) (hw : ∀ k ∈ ns, (Lit.int .i64 k).wf = true) (hN : ts.length ≤ 1000) :
    CodeR Tryz.prog 0 (sub (cd Tryz.f22) [1, 1, 1, 1, 0, 1]) (PsiM (fun mv => stB ns mo qs mv ts 0) (GrpOK ns ts 0)) .normal (PsiM (fun mv => stB ns mo qs mv ts ts.length) (GrpOK ns ts ts.length)) := by
  rw [show sub (cd Tryz.f22) [1, 1, 1, 1, 0, 1] = .block 1 (.loop (sub (cd Tryz.f22) [1, 1, 1, 1, 0, 1, 0, 0])) from by kernel_rfl]
  refine CodeR.block (LoopR.code (LoopR.times ts.length (fun i => PsiM (fun mv => stB ns mo qs mv ts i) (GrpOK ns ts i)) (fun i hi => ?_) ?_ (by simp)))
  · rw [show sub (cd Tryz.f22) [1, 1, 1, 1, 0, 1, 0, 0] = .seq (sub (cd Tryz.f22) [1, 1, 1, 1, 0, 1, 0, 0, 0]) (.seq (sub (cd Tryz.f22) [1, 1, 1, 1, 0, 1, 0, 0, 1, 0]) (.seq (.block 2 (.seq (sub (cd Tryz.f22) [1, 1, 1, 1, 0, 1, 0, 0, 1, 1, 0, 0, 0]) (sub (cd Tryz.f22) [1, 1, 1, 1, 0, 1, 0, 0, 1, 1, 0, 0, 1]))) (sub (cd Tryz.f22) [1, 1, 1, 1, 0, 1, 0, 0, 1, 1, 1]))) from by kernel_rfl]
    obtain ⟨k, hk⟩ : ∃ k, ns[i]? = some k := ⟨_, List.getElem?_eq_getElem (by omega)⟩
    obtain ⟨x, hx⟩ : ∃ x, ts[i]? = some x := ⟨_, List.getElem?_eq_getElem hi⟩
    have hr : CodeR Tryz.prog 0 (sub (cd Tryz.f22) [1, 1, 1, 1, 0, 1, 0, 0, 1, 1, 0, 0, 1]) (PsiM (fun mv => stD ns mo qs mv ts i x) (GrpOK ns ts i)) .normal (PsiM (fun mv => stD ns mo qs mv ts i x) (GrpOK ns ts (i + 1))) :=
      r14 (G := GrpOK ns ts i) (G' := GrpOK ns ts (i + 1)) hk (hw k (List.mem_of_getElem? hk)) (fun L hG e he => by
        rw [(hG.a e he).1]
        have := grp_len ns ts e.k i
        omega) (fun L e mb es hG hM hek hel => hG.step hk hx e hek hel)
    exact CodeR.seq (CodeR.ofM (f' := fun mv => stB6 ns mo qs mv ts i) fun mb => n12_p0) (CodeR.seq (CodeR.ofM (f' := fun mv => stB ns mo qs mv ts i) fun mb => n12c_p0 (by omega)) (CodeR.seq (CodeR.blockn (CodeR.seq (CodeR.ofM (f' := fun mv => stD ns mo qs mv ts i x) fun mb => n13_p0 hx) hr)) (CodeR.ofM (f := fun mv => stD ns mo qs mv ts i x) (f' := fun mv => stB ns mo qs mv ts (i + 1)) fun mb => n15_p0 (inR_nat (by omega)))))
  · rw [show sub (cd Tryz.f22) [1, 1, 1, 1, 0, 1, 0, 0] = .seq (sub (cd Tryz.f22) [1, 1, 1, 1, 0, 1, 0, 0, 0]) (.seq (sub (cd Tryz.f22) [1, 1, 1, 1, 0, 1, 0, 0, 1, 0]) (sub (cd Tryz.f22) [1, 1, 1, 1, 0, 1, 0, 0, 1, 1])) from by kernel_rfl]
    exact CodeR.seq (CodeR.ofM (f' := fun mv => stB6 ns mo qs mv ts ts.length) fun mb => n12_p0) (CodeR.seqx (CodeR.ofM fun mb => n12c_p1 (by omega)) (by simp))

def bestS (mo : Int) (l : List Int) : Int := ((downI l).take (min mo.toNat l.length)).sum
def outG (ns ts : List Int) (mo : Int) (N g : Nat) : List (List Int) := if grp ns ts g N = [] then [] else [[(g : Int), 1, bestS mo (grp ns ts g N), 0]]
def outL (ns ts : List Int) (mo : Int) (N n : Nat) : List (List Int) := (List.range n).flatMap (outG ns ts mo N)
theorem outL_succ (ns ts : List Int) (mo : Int) (N n : Nat) : outL ns ts mo N (n + 1) = outL ns ts mo N n ++ outG ns ts mo N n := by
  unfold outL
  rw [List.range_succ, List.flatMap_append, List.flatMap_singleton]
theorem outL_len (ns ts : List Int) (mo : Int) (N n : Nat) : (outL ns ts mo N n).length ≤ n := by
  induction n with
  | zero => simp [outL]
  | succ n ih =>
    rw [outL_succ, List.length_append]
    have : (outG ns ts mo N n).length ≤ 1 := by unfold outG; split <;> simp
    omega
theorem sum_bd {l : List Int} (h : ∀ x ∈ l, 0 ≤ x ∧ x ≤ 1000000) : 0 ≤ l.sum ∧ l.sum ≤ 1000000 * l.length := by
  induction l with
  | nil => simp
  | cons x r ih =>
    have h1 := h x (List.mem_cons_self ..)
    have h2 := ih fun y hy => h y (List.mem_cons_of_mem _ hy)
    rw [List.sum_cons, List.length_cons]
    omega
theorem grp_mem {ns ts : List Int} {g x : Int} {i : Nat} (h : x ∈ grp ns ts g i) : x ∈ ts := by
  unfold grp at h
  obtain ⟨p, hp, hx⟩ := List.mem_filterMap.1 h
  split at hx
  · cases hx
    exact (List.of_mem_zip (List.mem_of_mem_take hp)).2
  · cases hx
theorem downI_mem {l : List Int} {x : Int} : x ∈ downI l ↔ x ∈ l := isort_mem _ _ _
theorem downI_len (l : List Int) : (downI l).length = l.length := isort_length _ _

theorem nat_loop2 {ns ts : List Int} {mo : Int} {qs : List Int} (hl : ns.length = ts.length) (hN : ts.length ≤ 12) (hmo : 1 ≤ mo ∧ mo ≤ 12) (hts : ∀ x ∈ ts, 0 ≤ x ∧ x ≤ 1000000) :
    CodeR Tryz.prog 0 (sub (cd Tryz.f22) [1, 1, 1, 1, 1, 1, 0, 1]) (PsiK (fun mv => stF ns mo qs mv 0 []) 0 (GrpOK ns ts ts.length)) .normal (PsiK (fun mv => stF ns mo qs mv 31 (outL ns ts mo ts.length 31)) 31 (GrpOK ns ts ts.length)) := by
  rw [show sub (cd Tryz.f22) [1, 1, 1, 1, 1, 1, 0, 1] = .block 3 (.loop (sub (cd Tryz.f22) [1, 1, 1, 1, 1, 1, 0, 1, 0, 0])) from by kernel_rfl]
  refine CodeR.block (LoopR.code (LoopR.times 31 (fun n => PsiK (fun mv => stF ns mo qs mv n (outL ns ts mo ts.length n)) n (GrpOK ns ts ts.length)) (fun n hn => ?_) ?_ (by simp)))
  · rw [show sub (cd Tryz.f22) [1, 1, 1, 1, 1, 1, 0, 1, 0, 0] = .seq (sub (cd Tryz.f22) [1, 1, 1, 1, 1, 1, 0, 1, 0, 0, 0]) (.seq (sub (cd Tryz.f22) [1, 1, 1, 1, 1, 1, 0, 1, 0, 0, 1, 0]) (.seq (.block 4 (.seq (sub (cd Tryz.f22) [1, 1, 1, 1, 1, 1, 0, 1, 0, 0, 1, 1, 0, 0, 0]) (.seq (sub (cd Tryz.f22) [1, 1, 1, 1, 1, 1, 0, 1, 0, 0, 1, 1, 0, 0, 1, 0]) (.seq (sub (cd Tryz.f22) [1, 1, 1, 1, 1, 1, 0, 1, 0, 0, 1, 1, 0, 0, 1, 1, 0]) (sub (cd Tryz.f22) [1, 1, 1, 1, 1, 1, 0, 1, 0, 0, 1, 1, 0, 0, 1, 1, 1]))))) (sub (cd Tryz.f22) [1, 1, 1, 1, 1, 1, 0, 1, 0, 0, 1, 1, 1]))) from by kernel_rfl]
    refine CodeR.seq (CodeR.ofK (f' := fun mv => stF6 ns mo qs mv n (outL ns ts mo ts.length n)) (Nat.le_refl _) fun mb => n18_p0) (CodeR.seq (CodeR.ofK (f' := fun mv => stF ns mo qs mv n (outL ns ts mo ts.length n)) (Nat.le_refl _) fun mb => n18c_p0 (by omega)) (CodeR.seq (Ψ1 := PsiK (fun mv => stF ns mo qs mv n (outL ns ts mo ts.length (n + 1))) (n + 1) (GrpOK ns ts ts.length)) ?_ (CodeR.ofK (Nat.le_refl _) fun mb => n24_p0 (inR_nat (by omega)))))
    have hol := outL_len ns ts mo ts.length n
    cases hg : grp ns ts n ts.length with
    | nil =>
      have e1 : outL ns ts mo ts.length (n + 1) = outL ns ts mo ts.length n := by rw [outL_succ, outG, if_pos hg, List.append_nil]
      rw [e1]
      exact CodeR.block (CodeR.seq (CodeR.ofK (f' := fun mv => stG ns mo qs mv n (outL ns ts mo ts.length n)) (Nat.le_refl _) fun mb => n19_p0) (CodeR.seq (r20n (by omega) hg) (CodeR.seqx (CodeR.ofK (by omega) fun mb => n21n_p0) (by simp))))
    | cons y l =>
      have hgl := grp_len ns ts n ts.length
      rw [hg] at hgl
      have hd := downI_len (y :: l)
      have hmin : (if mo < (((downI (y :: l)).length : Nat) : Int) then mo else (((downI (y :: l)).length : Nat) : Int)) = ((min mo.toNat (y :: l).length : Nat) : Int) := by
        rw [hd]; split <;> omega
      have hle : min mo.toNat (y :: l).length ≤ (downI (y :: l)).length := by rw [hd]; omega
      have htk : ((downI (y :: l)).take (min mo.toNat (y :: l).length)).length = min mo.toNat (y :: l).length := by rw [List.length_take]; omega
      have hmem : ∀ j, ∀ x ∈ (((downI (y :: l)).take (min mo.toNat (y :: l).length)).take j), 0 ≤ x ∧ x ≤ 1000000 := fun j x hx => hts x (grp_mem (g := (n : Int)) (i := ts.length) (by rw [hg]; exact downI_mem.1 (List.mem_of_mem_take (List.mem_of_mem_take hx))))
      have e1 : outL ns ts mo ts.length (n + 1) = outL ns ts mo ts.length n ++ [[(n : Int), 1, ((downI (y :: l)).take (min mo.toNat (y :: l).length)).sum, 0]] := by
        rw [outL_succ, outG, if_neg (by rw [hg]; simp), hg]; rfl
      refine CodeR.blockn (CodeR.seq (CodeR.ofK (f' := fun mv => stG ns mo qs mv n (outL ns ts mo ts.length n)) (Nat.le_refl _) fun mb => n19_p0) (CodeR.seq (r20c (by omega) hg) (CodeR.seq (CodeR.ofK (f' := fun mv => stH ns mo qs mv n (outL ns ts mo ts.length n) y l) (Nat.le_refl _) fun mb => n21_p0) (CodeR.ofK (Nat.le_refl _) fun mb => n22_p0 (l0 := (downI (y :: l)).take (min mo.toNat (y :: l).length)) ?_ (by simp) ?_ ?_ ?_ ?_ ?_ ?_ ?_ ?_))))
      · omega
      · rw [hmin]; omega
      · rw [hmin, htk]; omega
      · rw [hmin, Nat.sub_zero, Int.toNat_natCast, List.drop_zero, List.length_map, Nat.div_self (by rw [hd]; simp), Nat.mul_one, List.map_take]
      · unfold small; rw [htk]; simp only [List.length_cons] at hgl ⊢; omega
      · intro j
        have := sum_bd (hmem j)
        have h2 : (((downI (y :: l)).take (min mo.toNat (y :: l).length)).take j).length ≤ 12 := by
          rw [List.length_take, htk]; simp only [List.length_cons] at hgl ⊢; omega
        unfold inR
        omega
      · exact ⟨rfl, by omega⟩
      · rw [e1, List.length_append]; rfl
      · rw [e1, List.flatten_append, List.map_append]; rfl
  · rw [show sub (cd Tryz.f22) [1, 1, 1, 1, 1, 1, 0, 1, 0, 0] = .seq (sub (cd Tryz.f22) [1, 1, 1, 1, 1, 1, 0, 1, 0, 0, 0]) (.seq (sub (cd Tryz.f22) [1, 1, 1, 1, 1, 1, 0, 1, 0, 0, 1, 0]) (sub (cd Tryz.f22) [1, 1, 1, 1, 1, 1, 0, 1, 0, 0, 1, 1])) from by kernel_rfl]
    exact CodeR.seq (CodeR.ofK (f' := fun mv => stF6 ns mo qs mv 31 (outL ns ts mo ts.length 31)) (Nat.le_refl _) fun mb => n18_p0) (CodeR.seqx (CodeR.ofK (Nat.le_refl _) fun mb => n18c_p1 (by omega)) (by simp))
end KV
end Go.Proofs
end
section
namespace Go.Proofs
open KL Go.RowKit
namespace KV

theorem LoopOK.count {P : Program} {k : Nat} {b : Code} {e : Ex} {R : St} (N : Nat) (S : Nat → St) (hs : ∀ i, i < N → CodeOK P k b (S i) .normal (S (i + 1))) (hx : CodeOK P k b (S N) e R) (he : e ≠ .normal) : LoopOK P k b (S 0) e R := by
  have key : ∀ d i, i + d = N → LoopOK P k b (S i) e R := by
    intro d
    induction d with
    | zero => intro i hi; obtain rfl : i = N := by omega
              exact .exit hx he
    | succ d ih => intro i hi; exact .step (hs i (by omega)) (ih (i + 1) (by omega))
  exact key N 0 (by omega)

theorem fl_setf {k i f : Nat} {L : List (List Int)} {x : List Int} {y : Int} (h : uni k L) (hx : L[i]? = some x) (hf : f < k) : (L.flatten.map intP).set (i * k + f) (intP y) = ((L.set i (x.set f y)).flatten.map intP) := by
  have hi := (List.getElem?_eq_some_iff.1 hx).1
  have hxl : x.length = k := h x (List.mem_of_getElem? hx)
  have e : L = L.take i ++ x :: L.drop (i + 1) := by
    conv => lhs; rw [← List.take_append_drop i L]
    congr 1
    rw [List.drop_eq_getElem_cons hi]
    congr 1
    exact (List.getElem?_eq_some_iff.1 hx).2
  have hA : (L.take i).flatten.length = i * k := by
    rw [fl_len (fun y hy => h y (List.mem_of_mem_take hy)), List.length_take]
    congr 1; omega
  have hset : L.set i (x.set f y) = L.take i ++ (x.set f y) :: L.drop (i + 1) := by
    rw [List.set_eq_take_append_cons_drop, if_pos hi]
  rw [hset, ← List.map_set]
  congr 1
  conv => lhs; rw [e]
  rw [List.flatten_append, List.flatten_cons, List.flatten_append, List.flatten_cons]
  rw [List.set_append_right _ _ (by omega), hA, Nat.add_sub_cancel_left, List.set_append_left _ _ (by omega)]

def rkOf (P : List Int) (v : Int) (j : Nat) : Int := 1 + (((P.take j).filter fun q => decide (v < q)).length : Int)
theorem rkOf_zero (P : List Int) (v : Int) : rkOf P v 0 = 1 := by simp [rkOf]
theorem rkOf_succ {P : List Int} {v q : Int} {j : Nat} (h : P[j]? = some q) : rkOf P v (j + 1) = if v < q then rkOf P v j + 1 else rkOf P v j := by
  unfold rkOf
  rw [List.take_add_one, h, List.filter_append, List.length_append]
  split <;> rename_i h2 <;> simp [h2] <;> omega
theorem rkOf_bd (P : List Int) (v : Int) (j : Nat) : 1 ≤ rkOf P v j ∧ rkOf P v j ≤ 1 + j := by
  unfold rkOf
  have := Nat.le_trans (List.length_filter_le (fun q => decide (v < q)) (P.take j)) (List.length_take_le j P)
  omega
def qtOf (qs : List Int) (rk : Int) : Int := if rk ≤ qs.length then qs.getD (rk - 1).toNat 0 else 0
abbrev pts3 (o : List (List Int)) : List Int := o.map fun x => x.getD 2 0
def finR (qs P : List Int) (x : List Int) : List Int := [x.getD 0 0, rkOf P (x.getD 2 0) P.length, x.getD 2 0, qtOf qs (rkOf P (x.getD 2 0) P.length)]
def natL (qs : List Int) (o : List (List Int)) : List (List Int) := isort (ltK 1) (o.map (finR qs (pts3 o)))
def midL (qs : List Int) (o : List (List Int)) (i : Nat) : List (List Int) := (o.take i).map (finR qs (pts3 o)) ++ o.drop i
def Pt (P : List Int) (r : List (List Int)) : Prop := r.length = P.length ∧ ∀ (j : Nat) (q : Int), P[j]? = some q → ∃ a b d, r[j]? = some [a, b, q, d]
theorem Pt.uni {P : List Int} {r : List (List Int)} (h : Pt P r) : uni 4 r := fun x hx => by
  obtain ⟨j, hj, rfl⟩ := List.getElem_of_mem hx
  obtain ⟨a, b, d, hr⟩ := h.2 j (P[j]'(by rw [← h.1]; exact hj)) (List.getElem?_eq_getElem _)
  rw [List.getElem?_eq_getElem hj] at hr
  rw [Option.some.inj hr]; rfl
theorem Pt.set {P : List Int} {r : List (List Int)} {i : Nat} {a b q d : Int} (h : Pt P r) (hq : P[i]? = some q) : Pt P (r.set i [a, b, q, d]) := by
  refine ⟨by rw [List.length_set]; exact h.1, fun j q' hj => ?_⟩
  have hjl := (List.getElem?_eq_some_iff.1 hj).1
  have hrl := h.1
  rw [List.getElem?_set]
  by_cases e : i = j
  · subst e
    rw [hq] at hj; cases hj
    rw [if_pos rfl, if_pos (by omega)]
    exact ⟨a, b, d, rfl⟩
  · rw [if_neg e]; exact h.2 j q' hj
def Base (o : List (List Int)) : Prop := ∀ x ∈ o, ∃ g s, x = [g, 1, s, 0]
theorem base_outL (ns ts : List Int) (mo : Int) (N n : Nat) : Base (outL ns ts mo N n) := fun x hx => by
  unfold outL at hx
  obtain ⟨g, hg, hx⟩ := List.mem_flatMap.1 hx
  unfold outG at hx
  split at hx
  · simp at hx
  · simp at hx; exact ⟨_, _, hx⟩
theorem mid_at {qs : List Int} {o : List (List Int)} {i j : Nat} (hi : i ≤ o.length) : (midL qs o i)[j]? = if j < i then (o[j]?).map (finR qs (pts3 o)) else o[j]? := by
  unfold midL
  by_cases h : j < i
  · rw [if_pos h, List.getElem?_append_left (by rw [List.length_map, List.length_take]; omega), List.getElem?_map, List.getElem?_take, if_pos h]
  · rw [if_neg h, List.getElem?_append_right (by rw [List.length_map, List.length_take]; omega), List.length_map, List.length_take, List.getElem?_drop]
    congr 1; omega
theorem mid_len {qs : List Int} {o : List (List Int)} {i : Nat} (hi : i ≤ o.length) : (midL qs o i).length = o.length := by
  unfold midL; rw [List.length_append, List.length_map, List.length_take, List.length_drop]; omega
theorem mid_pt {qs : List Int} {o : List (List Int)} {i : Nat} (hb : Base o) (hi : i ≤ o.length) : Pt (pts3 o) (midL qs o i) := by
  refine ⟨by rw [mid_len hi, List.length_map], fun j q hj => ?_⟩
  rw [mid_at hi]
  rw [List.getElem?_map] at hj
  cases ho : o[j]? with
  | none => rw [ho] at hj; cases hj
  | some x =>
    rw [ho] at hj
    obtain ⟨g, s, rfl⟩ := hb x (List.mem_of_getElem? ho)
    simp at hj
    subst hj
    split
    · exact ⟨_, _, _, rfl⟩
    · exact ⟨_, _, _, rfl⟩
theorem mid_zero (qs : List Int) (o : List (List Int)) : midL qs o 0 = o := by simp [midL]
theorem mid_end (qs : List Int) (o : List (List Int)) : midL qs o o.length = o.map (finR qs (pts3 o)) := by simp [midL]
theorem mid_succ {qs : List Int} {o : List (List Int)} {i : Nat} {x : List Int} (h : o[i]? = some x) : midL qs o (i + 1) = (midL qs o i).set i (finR qs (pts3 o) x) := by
  have hi := (List.getElem?_eq_some_iff.1 h).1
  apply List.ext_getElem?
  intro j
  rw [mid_at (by omega), List.getElem?_set, mid_len (by omega), mid_at (by omega)]
  by_cases e : i = j
  · subst e
    rw [if_pos (by omega), if_pos rfl, if_pos hi, h]; rfl
  · rw [if_neg e]
    by_cases e2 : j < i
    · rw [if_pos (by omega), if_pos e2]
    · rw [if_neg (by omega), if_neg e2]

section
variable {qs : List Int} {o : List (List Int)}
theorem nat_inner (hb : Base o) (ho : o.length ≤ 31) {i : Nat} {g s : Int} (hx : o[i]? = some [g, 1, s, 0]) :
    LoopOK Tryz.prog 0 (sub (cd Tryz.f22) [1, 1, 1, 1, 1, 1, 1, 0, 1, 0, 0, 1, 1, 0, 0, 1, 0, 1, 0, 0]) (nat_S3 qs o i (midL qs o i) 0 (midL qs o i).length ((midL qs o i).flatten.map intP)) (.exit 7)
      (nat_S3 qs o i (midL qs o i) o.length ((midL qs o i).set i [g, rkOf (pts3 o) s o.length, s, 0]).length (((midL qs o i).set i [g, rkOf (pts3 o) s o.length, s, 0]).flatten.map intP)) := by
  have hi := (List.getElem?_eq_some_iff.1 hx).1
  have hml : (midL qs o i).length = o.length := mid_len (by omega)
  have hpt : Pt (pts3 o) (midL qs o i) := mid_pt hb (by omega)
  have hpi : (pts3 o)[i]? = some s := by rw [List.getElem?_map, hx]; rfl
  have hmi : (midL qs o i)[i]? = some [g, 1, s, 0] := by rw [mid_at (by omega), if_neg (by omega), hx]
  have e0 : (midL qs o i).set i [g, rkOf (pts3 o) s 0, s, 0] = midL qs o i := by
    rw [rkOf_zero]
    obtain ⟨h1, h2⟩ := List.getElem?_eq_some_iff.1 hmi
    rw [← h2]; exact List.set_getElem_self h1
  have := LoopOK.count (P := Tryz.prog) (k := 0) (b := sub (cd Tryz.f22) [1, 1, 1, 1, 1, 1, 1, 0, 1, 0, 0, 1, 1, 0, 0, 1, 0, 1, 0, 0]) (e := .exit 7) (R := nat_S3 qs o i (midL qs o i) o.length ((midL qs o i).set i [g, rkOf (pts3 o) s o.length, s, 0]).length (((midL qs o i).set i [g, rkOf (pts3 o) s o.length, s, 0]).flatten.map intP)) o.length
    (fun j => nat_S3 qs o i (midL qs o i) j ((midL qs o i).set i [g, rkOf (pts3 o) s j, s, 0]).length (((midL qs o i).set i [g, rkOf (pts3 o) s j, s, 0]).flatten.map intP)) (fun j hj => ?_) (nat_L3_p2 (by rw [hml]; omega)) (by simp)
  · rw [e0] at this; exact this
  · have hr : Pt (pts3 o) ((midL qs o i).set i [g, rkOf (pts3 o) s j, s, 0]) := hpt.set hpi
    obtain ⟨q, hq⟩ : ∃ q, (pts3 o)[j]? = some q := ⟨_, List.getElem?_eq_getElem (by rw [List.length_map]; omega)⟩
    obtain ⟨a, b, d, hrj⟩ := hr.2 j q hq
    have hri : ((midL qs o i).set i [g, rkOf (pts3 o) s j, s, 0])[i]? = some [g, rkOf (pts3 o) s j, s, 0] := by
      rw [List.getElem?_set, if_pos rfl, if_pos (by omega)]
    have hbd := rkOf_bd (pts3 o) s j
    have hsucc := rkOf_succ (v := s) hq
    by_cases hlt : s < q
    · rw [if_pos hlt] at hsucc
      refine nat_L3_p0 (r' := (midL qs o i).set i [g, rkOf (pts3 o) s (j + 1), s, 0]) (by rw [hml]; omega) hrj hr.uni hri hlt (by unfold inR; omega) ?_ (inR_nat (by omega)) rfl (by rw [List.length_set, List.length_set]) ?_
      · rw [List.length_map, fl_len hr.uni, List.length_set, hml]; omega
      · rw [fl_setf hr.uni hri (by decide), List.set_set, hsucc]; rfl
    · rw [if_neg hlt] at hsucc
      rw [hsucc]
      exact nat_L3_p1 (by rw [hml]; omega) hrj hr.uni hri (by omega) (inR_nat (by omega)) rfl

theorem nat_outer (hb : Base o) (ho : o.length ≤ 31) (hqs : qs.length ≤ 31) : LoopOK Tryz.prog 0 (sub (cd Tryz.f22) [1, 1, 1, 1, 1, 1, 1, 0, 1, 0, 0]) (nat_S2 qs o 0 o.length (o.flatten.map intP)) (.exit 5)
    (nat_S2 qs o o.length (o.map (finR qs (pts3 o))).length ((o.map (finR qs (pts3 o))).flatten.map intP)) := by
  have := LoopOK.count (P := Tryz.prog) (k := 0) (b := sub (cd Tryz.f22) [1, 1, 1, 1, 1, 1, 1, 0, 1, 0, 0]) (e := .exit 5) (R := nat_S2 qs o o.length (o.map (finR qs (pts3 o))).length ((o.map (finR qs (pts3 o))).flatten.map intP)) o.length
    (fun i => nat_S2 qs o i (midL qs o i).length ((midL qs o i).flatten.map intP)) (fun i hi => ?_) (by rw [mid_end]; exact nat_L2_p2 (by omega)) (by simp)
  · rw [mid_zero] at this; exact this
  · obtain ⟨g, s, hgs⟩ := hb o[i] (List.getElem_mem hi)
    have hx : o[i]? = some [g, 1, s, 0] := by rw [List.getElem?_eq_getElem hi, hgs]
    have hL := nat_inner (qs := qs) hb ho hx
    have hml : (midL qs o i).length = o.length := mid_len (by omega)
    have hpt : Pt (pts3 o) (midL qs o i) := mid_pt hb (by omega)
    have hpi : (pts3 o)[i]? = some s := by rw [List.getElem?_map, hx]; rfl
    have hr : Pt (pts3 o) ((midL qs o i).set i [g, rkOf (pts3 o) s o.length, s, 0]) := hpt.set hpi
    have hri : ((midL qs o i).set i [g, rkOf (pts3 o) s o.length, s, 0])[i]? = some [g, rkOf (pts3 o) s o.length, s, 0] := by
      rw [List.getElem?_set, if_pos rfl, if_pos (by omega)]
    have hbd := rkOf_bd (pts3 o) s o.length
    have hpl : (pts3 o).length = o.length := List.length_map _
    have efin : midL qs o (i + 1) = (midL qs o i).set i [g, rkOf (pts3 o) s o.length, s, qtOf qs (rkOf (pts3 o) s o.length)] := by
      rw [mid_succ hx]; unfold finR; rw [hpl]; rfl
    by_cases hle : rkOf (pts3 o) s o.length ≤ (qs.length : Int)
    · have hq : qs[(rkOf (pts3 o) s o.length - 1).toNat]? = some (qtOf qs (rkOf (pts3 o) s o.length)) := by
        unfold qtOf
        rw [if_pos hle, List.getD_eq_getElem?_getD, List.getElem?_eq_getElem (by omega)]; rfl
      refine nat_L2_p0 (by omega) hL hri hr.uni hle (by unfold inR; omega) hq (by omega) ?_ (inR_nat (by omega)) rfl (by rw [mid_len (by omega), List.length_set, hml]) ?_
      · rw [List.length_map, fl_len hr.uni, List.length_set, hml]; omega
      · rw [fl_setf hr.uni hri (by decide), List.set_set, efin]; rfl
    · have hq : qtOf qs (rkOf (pts3 o) s o.length) = 0 := by unfold qtOf; rw [if_neg hle]
      rw [hq] at efin
      refine nat_L2_p1 (by omega) hL hri hr.uni (by omega) (inR_nat (by omega)) rfl (by rw [mid_len (by omega), List.length_set, hml]) (by rw [efin])
end

def nationsM (c : KL.Cup) (ns : List Int) (mo : Int) (qs : List Int) : List (List Int) := natL qs (outL ns (KL.totalsM c) mo (KL.totalsM c).length 31)
def natE (c : KL.Cup) (ns : List Int) (mo : Int) (qs : List Int) : Int :=
  if KL.checkP c ≠ 0 then KL.checkP c else if (ns.length : Int) ≠ c.sk ∨ within (qs.length : Int) 1 31 = false then 2 else
  if (ns.all fun x => within x 0 30) = false ∨ within mo 1 12 = false ∨ (qs.all fun x => within x 0 20) = false then 3 else if KL.fallsB qs = false then 4 else 0
theorem nodup_le : ∀ {S T : List Int}, S.Nodup → (∀ g ∈ S, g ∈ T) → S.length ≤ T.length
  | [], _, _, _ => Nat.zero_le _
  | a :: S, T, h, hs => by
    obtain ⟨h1, h2⟩ := List.nodup_cons.1 h
    have ha := hs a (List.mem_cons_self ..)
    have := nodup_le (T := T.erase a) h2 (fun g hg => (List.mem_erase_of_ne (fun e => h1 (by rw [← e]; exact hg))).2 (hs g (List.mem_cons_of_mem _ hg)))
    rw [List.length_erase_of_mem ha] at this
    have : 0 < T.length := List.length_pos_of_mem ha
    rw [List.length_cons]
    omega
theorem outL_few (ns ts : List Int) (mo : Int) (N n : Nat) (h : (ns.zip ts).length ≤ 12) : (outL ns ts mo N n).length ≤ 12 := by
  have key : ∀ n, ∃ S : List Int, S.Nodup ∧ S.length = (outL ns ts mo N n).length ∧ (∀ g ∈ S, g ∈ (ns.zip ts).map (·.1)) ∧ ∀ g ∈ S, g < n := by
    intro n
    induction n with
    | zero => exact ⟨[], .nil, rfl, by simp, by simp⟩
    | succ n ih =>
      obtain ⟨S, h1, h2, h3, h4⟩ := ih
      rw [outL_succ]
      unfold outG
      split
      · exact ⟨S, h1, by simpa using h2, h3, fun g hg => by have := h4 g hg; omega⟩
      · rename_i hg
        refine ⟨(n : Int) :: S, List.nodup_cons.2 ⟨fun hin => by have := h4 _ hin; omega, h1⟩, by simp [h2], fun g hg' => ?_, fun g hg' => ?_⟩
        · rcases List.mem_cons.1 hg' with rfl | hg'
          · obtain ⟨x, hx⟩ := List.exists_mem_of_ne_nil _ hg
            unfold grp at hx
            obtain ⟨p, hp, hx⟩ := List.mem_filterMap.1 hx
            split at hx
            · rename_i he
              exact List.mem_map.2 ⟨p, List.mem_of_mem_take hp, he⟩
            · cases hx
          · exact h3 g hg'
        · rcases List.mem_cons.1 hg' with rfl | hg'
          · omega
          · have := h4 g hg'; omega
  obtain ⟨S, h1, h2, h3, _⟩ := key n
  rw [← h2]
  have := nodup_le h1 h3
  rw [List.length_map] at this
  omega
theorem nat_main {c : KL.Cup} {ns : List Int} {mo : Int} {qs : List Int} (hV : KL.Valid c) (hl : (ns.length : Int) = c.sk) (hns : ∀ k ∈ ns, 0 ≤ k ∧ k ≤ 30) (hmo : 1 ≤ mo ∧ mo ≤ 12) (hqs : qs.length ≤ 31) (htl : (KL.totalsM c).length = c.sk.toNat) (hts : ∀ x ∈ KL.totalsM c, 0 ≤ x ∧ x ≤ 1000000) :
    CodeOK Tryz.prog 0 (sub (cd Tryz.f22) [1, 1, 1]) (stT c ns mo qs) .ret ⟨fr 161 [(8, (.p (.sl (nationsM c ns mo qs).length ((nationsM c ns mo qs).flatten.map intP)))), (9, (.p (intP 0)))], []⟩ := by
  have s1 := hV.sk1
  have s2 := hV.sk2
  refine CodeR.ok (by kernel_rfl) ?_
  rw [show sub (cd Tryz.f22) [1, 1, 1] = .seq (sub (cd Tryz.f22) [1, 1, 1, 0]) (.seq (.seq (sub (cd Tryz.f22) [1, 1, 1, 1, 0, 0]) (sub (cd Tryz.f22) [1, 1, 1, 1, 0, 1])) (.seq (sub (cd Tryz.f22) [1, 1, 1, 1, 1, 0]) (.seq (.seq (sub (cd Tryz.f22) [1, 1, 1, 1, 1, 1, 0, 0]) (sub (cd Tryz.f22) [1, 1, 1, 1, 1, 1, 0, 1])) (sub (cd Tryz.f22) [1, 1, 1, 1, 1, 1, 1])))) from by kernel_rfl]
  have htl' : ns.length = (KL.totalsM c).length := by omega
  have hw : ∀ k ∈ ns, (Lit.int .i64 k).wf = true := fun k hk => by
    have := hns k hk
    have h := wf_int (n := k.toNat) (by omega)
    rwa [Int.toNat_of_nonneg this.1] at h
  refine CodeR.seq (r10 (ts := KL.totalsM c)) (CodeR.seq (CodeR.seq (CodeR.ofM (f' := fun mv => stB ns mo qs mv (KL.totalsM c) 0) fun mb => n11_p0 hV) (nat_loop1 htl' hw (by omega))) (CodeR.seq (CodeR.ofM (f' := fun mv => ⟨fr 161 [(1, (.p (intsP ns))), (2, (.p (intP mo))), (3, (.p (intsP qs))), (12, (.p mv)), (15, (.p nilS))], []⟩) fun mb => n16_p0) (CodeR.seq (CodeR.seq ?_ (nat_loop2 (qs := qs) htl' (by omega) hmo hts)) ?_)))
  · refine (CodeR.ofM (f' := fun mv => stF ns mo qs mv 0 []) fun mb => n17_p0).mono (fun _ _ h => h) (fun st R h => ?_)
    obtain ⟨mb, es, cl, L, h1, rfl, h3, h4⟩ := h
    exact ⟨mb, es, cl, L, h1, by simp [mapR], fun e he _ => by simp [mapR]; exact .inr ⟨e, he, rfl⟩, h3, h4⟩
  · refine CodeR.of fun st R h => ⟨_, rfl, ?_⟩
    obtain ⟨mb, es, cl, L, rfl, _⟩ := h
    have hol := outL_len ns (KL.totalsM c) mo (KL.totalsM c).length 31
    have hb := base_outL ns (KL.totalsM c) mo (KL.totalsM c).length 31
    have hlen : (outL ns (KL.totalsM c) mo (KL.totalsM c).length 31).length ≤ 12 := outL_few _ _ _ _ _ (by rw [List.length_zip]; omega)
    refine CodeOK.pre (g := ⟨[1, 2, 12, 85], [0], [], []⟩) (st1 := ⟨fr 161 [(3, (.p (intsP qs))), (15, (.own 0))], [some (.row 40 (outL ns (KL.totalsM c) mo (KL.totalsM c).length 31).length ((outL ns (KL.totalsM c) mo (KL.totalsM c).length 31).flatten.map intP))]⟩) (by kernel_rfl) ?_
    exact n25_p0 (nat_outer hb hol hqs) (fun x hx => by
      obtain ⟨y, hy, rfl⟩ := List.mem_map.1 hx
      rfl) (by rw [List.length_map]; omega)
end KV
end Go.Proofs
end
namespace Go.Proofs
namespace KV
section
open KL
abbrev threeC : Cup := ⟨3, 3, 2, [10, 6, 4], [[1, 2, 3], [3, 1, 1]]⟩
abbrev twoC : Cup := ⟨2, 4, 4, [10, 4], [[1, 2], [1, 2], [1, 2]]⟩
theorem three_p0  {base : Nat} : FV Tryz.prog 85 [] base (.p (.agg [(intP 3), (intP 3), (intP 2), (.sl 3 [(intP 10), (intP 6), (intP 4)]), (.sl 2 [(.sl 3 [(intP 1), (intP 2), (intP 3)]), (.sl 3 [(intP 3), (intP 1), (intP 1)])])])) [] := by
  exact FV.frz (FMM.fin (k := 0) (g := ⟨[], [], [1, 4], []⟩) rfl Tryz.func85 rfl (o := []) (l := []) (by kernel_rfl) (gn)) (by kernel_rfl)
theorem two_p0  {base : Nat} : FV Tryz.prog 86 [] base (.p (.agg [(intP 2), (intP 4), (intP 4), (.sl 2 [(intP 10), (intP 4)]), (.sl 3 [(.sl 2 [(intP 1), (intP 2)]), (.sl 2 [(intP 1), (intP 2)]), (.sl 2 [(intP 1), (intP 2)])])])) [] := by
  exact FV.frz (FMM.fin (k := 0) (g := ⟨[], [], [1, 5], []⟩) rfl Tryz.func86 rfl (o := []) (l := []) (by kernel_rfl) (gn)) (by kernel_rfl)
theorem awake_p0 (h34_0 : ∀ base : Nat, FV Tryz.prog 34 [(.p (.agg [(intP 3), (intP 3), (intP 2), (.sl 3 [(intP 10), (intP 6), (intP 4)]), (.sl 2 [(.sl 3 [(intP 1), (intP 2), (intP 3)]), (.sl 3 [(intP 3), (intP 1), (intP 1)])])]))] base (.tup [(.p (.sl 3 [(intP 1), (intP 1), (intP 14), (intP 1), (intP 0), (intP 2), (intP 14), (intP 1), (intP 2), (intP 3), (intP 12), (intP 1)])), (.p (intP 0))]) []) (h37_1 : ∀ base : Nat, FV Tryz.prog 37 [(.p (.agg [(intP 3), (intP 3), (intP 2), (.sl 3 [(intP 10), (intP 6), (intP 4)]), (.sl 2 [(.sl 3 [(intP 1), (intP 2), (intP 3)]), (.sl 3 [(intP 3), (intP 1), (intP 1)])])]))] base (.tup [(.p (.sl 3 [(intP 0), (intP 1), (intP 2)])), (.p (intP 0))]) []) (h38_2 : ∀ base : Nat, FV Tryz.prog 38 [(.p (.agg [(intP 3), (intP 3), (intP 2), (.sl 3 [(intP 10), (intP 6), (intP 4)]), (.sl 2 [(.sl 3 [(intP 1), (intP 2), (intP 3)]), (.sl 3 [(intP 3), (intP 1), (intP 1)])])]))] base (.tup [(.p (.sl 0 [])), (.p (intP 0))]) []) (h55_3 : ∀ base : Nat, FV Tryz.prog 55 [(.p (.agg [(intP 3), (intP 3), (intP 2), (.sl 3 [(intP 10), (intP 6), (intP 4)]), (.sl 2 [(.sl 3 [(intP 1), (intP 2), (intP 3)]), (.sl 3 [(intP 3), (intP 1), (intP 1)])])])), (.p (intP 1))] base (.tup [(.p (intP 3)), (.p (.sl 3 [(intP 1), (intP 0), (intP 2)])), (.p (intP 0))]) []) (h39_4 : ∀ base : Nat, FV Tryz.prog 39 [(.p (.sl 3 [(intP 1), (intP 1), (intP 14), (intP 1), (intP 0), (intP 2), (intP 14), (intP 1), (intP 2), (intP 3), (intP 12), (intP 1)])), (.p (.sl 3 [(intP 1), (intP 1), (intP 14), (intP 1), (intP 0), (intP 2), (intP 14), (intP 1), (intP 2), (intP 3), (intP 12), (intP 1)]))] base (.p (blP true)) []) (h25_5 : ∀ base : Nat, FV Tryz.prog 25 [(.p (.sl 3 [(intP 0), (intP 1), (intP 2)])), (.p (.sl 3 [(intP 0), (intP 1), (intP 2)]))] base (.p (blP true)) []) (h73_6 : ∀ base : Nat, FV Tryz.prog 73 [(.p (.agg [(intP 2), (intP 4), (intP 4), (.sl 2 [(intP 10), (intP 4)]), (.sl 3 [(.sl 2 [(intP 1), (intP 2)]), (.sl 2 [(intP 1), (intP 2)]), (.sl 2 [(intP 1), (intP 2)])])]))] base (.tup [(.p (intP 3)), (.p (intP 0)), (.p (intP 0))]) []) (h56_7 : ∀ base : Nat, FV Tryz.prog 56 [(.p (.agg [(intP 3), (intP 3), (intP 2), (.sl 3 [(intP 10), (intP 6), (intP 4)]), (.sl 2 [(.sl 3 [(intP 1), (intP 2), (intP 3)]), (.sl 3 [(intP 3), (intP 1), (intP 1)])])])), (.p (intP 2))] base (.tup [(.p (.sl 3 [(intP 2), (intP 3), (intP 1)])), (.p (intP 0))]) []) (h22_8 : ∀ base : Nat, FV Tryz.prog 22 [(.p (.agg [(intP 3), (intP 3), (intP 2), (.sl 3 [(intP 10), (intP 6), (intP 4)]), (.sl 2 [(.sl 3 [(intP 1), (intP 2), (intP 3)]), (.sl 3 [(intP 3), (intP 1), (intP 1)])])])), (.p (.sl 3 [(intP 5), (intP 5), (intP 9)])), (.p (intP 1)), (.p (.sl 2 [(intP 4), (intP 3)]))] base (.tup [(.p (.sl 2 [(intP 5), (intP 1), (intP 14), (intP 4), (intP 9), (intP 2), (intP 12), (intP 3)])), (.p (intP 0))]) []) (h87_9 : ∀ base : Nat, FV Tryz.prog 87 [(.p (.sl 2 [(intP 5), (intP 1), (intP 14), (intP 4), (intP 9), (intP 2), (intP 12), (intP 3)])), (.p (.sl 2 [(intP 5), (intP 1), (intP 14), (intP 4), (intP 9), (intP 2), (intP 12), (intP 3)]))] base (.p (blP true)) []) {base : Nat} : FV Tryz.prog 19 [] base (.p (blP true)) [] := by
  exact FV.fin Tryz.func19 rfl (o := [.c (.p (.agg [(intP 3), (intP 3), (intP 2), (.sl 3 [(intP 10), (intP 6), (intP 4)]), (.sl 2 [(.sl 3 [(intP 1), (intP 2), (intP 3)]), (.sl 3 [(intP 3), (intP 1), (intP 1)])])])) [], .c (.tup [(.p (.sl 3 [(intP 1), (intP 1), (intP 14), (intP 1), (intP 0), (intP 2), (intP 14), (intP 1), (intP 2), (intP 3), (intP 12), (intP 1)])), (.p (intP 0))]) [], .c (.p (.agg [(intP 3), (intP 3), (intP 2), (.sl 3 [(intP 10), (intP 6), (intP 4)]), (.sl 2 [(.sl 3 [(intP 1), (intP 2), (intP 3)]), (.sl 3 [(intP 3), (intP 1), (intP 1)])])])) [], .c (.tup [(.p (.sl 3 [(intP 0), (intP 1), (intP 2)])), (.p (intP 0))]) [], .c (.p (.agg [(intP 3), (intP 3), (intP 2), (.sl 3 [(intP 10), (intP 6), (intP 4)]), (.sl 2 [(.sl 3 [(intP 1), (intP 2), (intP 3)]), (.sl 3 [(intP 3), (intP 1), (intP 1)])])])) [], .c (.tup [(.p (.sl 0 [])), (.p (intP 0))]) [], .c (.p (.agg [(intP 3), (intP 3), (intP 2), (.sl 3 [(intP 10), (intP 6), (intP 4)]), (.sl 2 [(.sl 3 [(intP 1), (intP 2), (intP 3)]), (.sl 3 [(intP 3), (intP 1), (intP 1)])])])) [], .c (.tup [(.p (intP 3)), (.p (.sl 3 [(intP 1), (intP 0), (intP 2)])), (.p (intP 0))]) [], .b false, .b false, .b false, .b false, .b false, .b false, .b false, .b false, .b false, .b false, .b false, .b false, .b false, .b false, .b false, .c (.p (blP true)) [], .b false, .b false, .b false, .b false, .b false, .c (.p (blP true)) [], .b false, .b false, .b false, .b false, .b false, .b false, .b false, .b false, .b false, .b false, .c (.p (.agg [(intP 2), (intP 4), (intP 4), (.sl 2 [(intP 10), (intP 4)]), (.sl 3 [(.sl 2 [(intP 1), (intP 2)]), (.sl 2 [(intP 1), (intP 2)]), (.sl 2 [(intP 1), (intP 2)])])])) [], .c (.tup [(.p (intP 3)), (.p (intP 0)), (.p (intP 0))]) [], .c (.p (.agg [(intP 3), (intP 3), (intP 2), (.sl 3 [(intP 10), (intP 6), (intP 4)]), (.sl 2 [(.sl 3 [(intP 1), (intP 2), (intP 3)]), (.sl 3 [(intP 3), (intP 1), (intP 1)])])])) [], .c (.tup [(.p (.sl 3 [(intP 2), (intP 3), (intP 1)])), (.p (intP 0))]) [], .c (.p (.agg [(intP 3), (intP 3), (intP 2), (.sl 3 [(intP 10), (intP 6), (intP 4)]), (.sl 2 [(.sl 3 [(intP 1), (intP 2), (intP 3)]), (.sl 3 [(intP 3), (intP 1), (intP 1)])])])) [], .c (.tup [(.p (.sl 2 [(intP 5), (intP 1), (intP 14), (intP 4), (intP 9), (intP 2), (intP 12), (intP 3)])), (.p (intP 0))]) [(2, .dead), (3, .dead)], .b true, .b true, .b true, .b true, .b true, .b true, .b true, .b true, .b true, .b true, .b true, .b true, .b true, .b true, .b true, .b true, .b true, .b true, .b true, .x (intP 1), .b true, .b true, .b true, .b true, .b true, .b true, .b true, .c (.p (blP true)) [], .b true]) (l := [((1 : Int) == (1 : Int)) = true, FC Tryz.prog 87 [(.p (.sl 2 [(intP 5), (intP 1), (intP 14), (intP 4), (intP 9), (intP 2), (intP 12), (intP 3)])), (.own 4)] [(4, (.row 40 2 [(intP 5), (intP 1), (intP 14), (intP 4), (intP 9), (intP 2), (intP 12), (intP 3)]))] 5 (.p (blP true)) [], ((1 : Int) == (1 : Int)) = true, ((1 : Int) == (1 : Int)) = true, ((1 : Int) == (1 : Int)) = true, ((1 : Int) == (1 : Int)) = true, ((1 : Int) == (1 : Int)) = true, ((3 : Int) == (3 : Int)) = true, ((3 : Int) == (3 : Int)) = true, [(intP 2), (intP 3), (intP 1)][2]? = some (intP 1), ((3 : Int) == (3 : Int)) = true, 0 ≤ (2 : Int) ∧ (2 : Int) < (3 : Int) ∧ 2 < [(intP 2), (intP 3), (intP 1)].length, ((3 : Int) == (3 : Int)) = true, ((3 : Int) == (3 : Int)) = true, ((0 : Int) == (0 : Int)) = true, ((0 : Int) == (0 : Int)) = true, ((0 : Int) == (0 : Int)) = true, ((0 : Int) == (0 : Int)) = true, ((3 : Int) == (3 : Int)) = true, ((3 : Int) == (3 : Int)) = true, ((3 : Int) == (3 : Int)) = true, ((0 : Int) == (0 : Int)) = true, ((0 : Int) == (0 : Int)) = true, ((0 : Int) == (0 : Int)) = true, ((0 : Int) == (0 : Int)) = true, ((0 : Int) == (0 : Int)) = true, ((0 : Int) == (0 : Int)) = true, ((0 : Int) == (0 : Int)) = true, ((0 : Int) == (0 : Int)) = true, ((0 : Int) == (0 : Int)) = true, FC Tryz.prog 22 [(.p (.agg [(intP 3), (intP 3), (intP 2), (.sl 3 [(intP 10), (intP 6), (intP 4)]), (.sl 2 [(.sl 3 [(intP 1), (intP 2), (intP 3)]), (.sl 3 [(intP 3), (intP 1), (intP 1)])])])), (.own 2), (.p (intP 1)), (.own 3)] [(2, (.row 3 3 [(intP 5), (intP 5), (intP 9)])), (3, (.row 3 2 [(intP 4), (intP 3)]))] 4 (.tup [(.p (.sl 2 [(intP 5), (intP 1), (intP 14), (intP 4), (intP 9), (intP 2), (intP 12), (intP 3)])), (.p (intP 0))]) [(2, .dead), (3, .dead)], FC Tryz.prog 85 [] [] 2 (.p (.agg [(intP 3), (intP 3), (intP 2), (.sl 3 [(intP 10), (intP 6), (intP 4)]), (.sl 2 [(.sl 3 [(intP 1), (intP 2), (intP 3)]), (.sl 3 [(intP 3), (intP 1), (intP 1)])])])) [], FC Tryz.prog 56 [(.p (.agg [(intP 3), (intP 3), (intP 2), (.sl 3 [(intP 10), (intP 6), (intP 4)]), (.sl 2 [(.sl 3 [(intP 1), (intP 2), (intP 3)]), (.sl 3 [(intP 3), (intP 1), (intP 1)])])])), (.p (intP 2))] [] 2 (.tup [(.p (.sl 3 [(intP 2), (intP 3), (intP 1)])), (.p (intP 0))]) [], FC Tryz.prog 85 [] [] 2 (.p (.agg [(intP 3), (intP 3), (intP 2), (.sl 3 [(intP 10), (intP 6), (intP 4)]), (.sl 2 [(.sl 3 [(intP 1), (intP 2), (intP 3)]), (.sl 3 [(intP 3), (intP 1), (intP 1)])])])) [], FC Tryz.prog 73 [(.p (.agg [(intP 2), (intP 4), (intP 4), (.sl 2 [(intP 10), (intP 4)]), (.sl 3 [(.sl 2 [(intP 1), (intP 2)]), (.sl 2 [(intP 1), (intP 2)]), (.sl 2 [(intP 1), (intP 2)])])]))] [] 2 (.tup [(.p (intP 3)), (.p (intP 0)), (.p (intP 0))]) [], FC Tryz.prog 86 [] [] 2 (.p (.agg [(intP 2), (intP 4), (intP 4), (.sl 2 [(intP 10), (intP 4)]), (.sl 3 [(.sl 2 [(intP 1), (intP 2)]), (.sl 2 [(intP 1), (intP 2)]), (.sl 2 [(intP 1), (intP 2)])])])) [], ((3 : Int) != (3 : Int)) = false, ((0 : Int) != (0 : Int)) = false, ((0 : Int) != (0 : Int)) = false, ((0 : Int) != (0 : Int)) = false, false = false, false = false, false = false, false = false, false = false, false = false, FC Tryz.prog 25 [(.p (.sl 3 [(intP 0), (intP 1), (intP 2)])), (.own 1)] [(1, (.row 3 3 [(intP 0), (intP 1), (intP 2)]))] 2 (.p (blP true)) [], false = false, false = false, false = false, ((0 : Int) != (0 : Int)) = false, ((0 : Int) != (0 : Int)) = false, FC Tryz.prog 39 [(.p (.sl 3 [(intP 1), (intP 1), (intP 14), (intP 1), (intP 0), (intP 2), (intP 14), (intP 1), (intP 2), (intP 3), (intP 12), (intP 1)])), (.own 0)] [(0, (.row 61 3 [(intP 1), (intP 1), (intP 14), (intP 1), (intP 0), (intP 2), (intP 14), (intP 1), (intP 2), (intP 3), (intP 12), (intP 1)]))] 1 (.p (blP true)) [], ((0 : Int) != (0 : Int)) = false, ((0 : Int) != (0 : Int)) = false, ((0 : Int) != (0 : Int)) = false, ((0 : Int) != (0 : Int)) = false, ((0 : Int) != (0 : Int)) = false, ((0 : Int) != (0 : Int)) = false, ((0 : Int) != (0 : Int)) = false, ((0 : Int) != (0 : Int)) = false, ((0 : Int) != (0 : Int)) = false, ((0 : Int) != (0 : Int)) = false, ((0 : Int) != (0 : Int)) = false, ((0 : Int) != (0 : Int)) = false, ((0 : Int) != (0 : Int)) = false, ((0 : Int) != (0 : Int)) = false, ((0 : Int) != (0 : Int)) = false, FC Tryz.prog 55 [(.p (.agg [(intP 3), (intP 3), (intP 2), (.sl 3 [(intP 10), (intP 6), (intP 4)]), (.sl 2 [(.sl 3 [(intP 1), (intP 2), (intP 3)]), (.sl 3 [(intP 3), (intP 1), (intP 1)])])])), (.p (intP 1))] [] 0 (.tup [(.p (intP 3)), (.p (.sl 3 [(intP 1), (intP 0), (intP 2)])), (.p (intP 0))]) [], FC Tryz.prog 85 [] [] 0 (.p (.agg [(intP 3), (intP 3), (intP 2), (.sl 3 [(intP 10), (intP 6), (intP 4)]), (.sl 2 [(.sl 3 [(intP 1), (intP 2), (intP 3)]), (.sl 3 [(intP 3), (intP 1), (intP 1)])])])) [], FC Tryz.prog 38 [(.p (.agg [(intP 3), (intP 3), (intP 2), (.sl 3 [(intP 10), (intP 6), (intP 4)]), (.sl 2 [(.sl 3 [(intP 1), (intP 2), (intP 3)]), (.sl 3 [(intP 3), (intP 1), (intP 1)])])]))] [] 0 (.tup [(.p (.sl 0 [])), (.p (intP 0))]) [], FC Tryz.prog 85 [] [] 0 (.p (.agg [(intP 3), (intP 3), (intP 2), (.sl 3 [(intP 10), (intP 6), (intP 4)]), (.sl 2 [(.sl 3 [(intP 1), (intP 2), (intP 3)]), (.sl 3 [(intP 3), (intP 1), (intP 1)])])])) [], FC Tryz.prog 37 [(.p (.agg [(intP 3), (intP 3), (intP 2), (.sl 3 [(intP 10), (intP 6), (intP 4)]), (.sl 2 [(.sl 3 [(intP 1), (intP 2), (intP 3)]), (.sl 3 [(intP 3), (intP 1), (intP 1)])])]))] [] 0 (.tup [(.p (.sl 3 [(intP 0), (intP 1), (intP 2)])), (.p (intP 0))]) [], FC Tryz.prog 85 [] [] 0 (.p (.agg [(intP 3), (intP 3), (intP 2), (.sl 3 [(intP 10), (intP 6), (intP 4)]), (.sl 2 [(.sl 3 [(intP 1), (intP 2), (intP 3)]), (.sl 3 [(intP 3), (intP 1), (intP 1)])])])) [], FC Tryz.prog 34 [(.p (.agg [(intP 3), (intP 3), (intP 2), (.sl 3 [(intP 10), (intP 6), (intP 4)]), (.sl 2 [(.sl 3 [(intP 1), (intP 2), (intP 3)]), (.sl 3 [(intP 3), (intP 1), (intP 1)])])]))] [] 0 (.tup [(.p (.sl 3 [(intP 1), (intP 1), (intP 14), (intP 1), (intP 0), (intP 2), (intP 14), (intP 1), (intP 2), (intP 3), (intP 12), (intP 1)])), (.p (intP 0))]) [], FC Tryz.prog 85 [] [] 0 (.p (.agg [(intP 3), (intP 3), (intP 2), (.sl 3 [(intP 10), (intP 6), (intP 4)]), (.sl 2 [(.sl 3 [(intP 1), (intP 2), (intP 3)]), (.sl 3 [(intP 3), (intP 1), (intP 1)])])])) []]) (by kernel_rfl) (gc (by first | decide | simp) (gc (FV.view (args' := [(.p (.sl 2 [(intP 5), (intP 1), (intP 14), (intP 4), (intP 9), (intP 2), (intP 12), (intP 3)])), (.p (.sl 2 [(intP 5), (intP 1), (intP 14), (intP 4), (intP 9), (intP 2), (intP 12), (intP 3)]))]) (h87_9 _) (by kernel_rfl) (by kernel_rfl) (by kernel_rfl)) (gc (by first | decide | simp) (gc (by first | decide | simp) (gc (by first | decide | simp) (gc (by first | decide | simp) (gc (by first | decide | simp) (gc (by first | decide | simp) (gc (by first | decide | simp) (gc rfl (gc (by first | decide | simp) (gc (by first | decide | simp) (gc (by first | decide | simp) (gc (by first | decide | simp) (gc (by first | decide | simp) (gc (by first | decide | simp) (gc (by first | decide | simp) (gc (by first | decide | simp) (gc (by first | decide | simp) (gc (by first | decide | simp) (gc (by first | decide | simp) (gc (by first | decide | simp) (gc (by first | decide | simp) (gc (by first | decide | simp) (gc (by first | decide | simp) (gc (by first | decide | simp) (gc (by first | decide | simp) (gc (by first | decide | simp) (gc (by first | decide | simp) (gc (by first | decide | simp) (gc (FV.close (ids := [2, 3]) (args' := [(.p (.agg [(intP 3), (intP 3), (intP 2), (.sl 3 [(intP 10), (intP 6), (intP 4)]), (.sl 2 [(.sl 3 [(intP 1), (intP 2), (intP 3)]), (.sl 3 [(intP 3), (intP 1), (intP 1)])])])), (.p (.sl 3 [(intP 5), (intP 5), (intP 9)])), (.p (intP 1)), (.p (.sl 2 [(intP 4), (intP 3)]))]) (h22_8 _) (by kernel_rfl)) (gc (FV.fc three_p0 (by kernel_rfl)) (gc (FV.fc (h56_7 _) rfl) (gc (FV.fc three_p0 (by kernel_rfl)) (gc (FV.fc (h73_6 _) rfl) (gc (FV.fc two_p0 (by kernel_rfl)) (gc (by first | decide | simp) (gc (by first | decide | simp) (gc (by first | decide | simp) (gc (by first | decide | simp) (gc rfl (gc rfl (gc rfl (gc rfl (gc rfl (gc rfl (gc (FV.view (args' := [(.p (.sl 3 [(intP 0), (intP 1), (intP 2)])), (.p (.sl 3 [(intP 0), (intP 1), (intP 2)]))]) (h25_5 _) (by kernel_rfl) (by kernel_rfl) (by kernel_rfl)) (gc rfl (gc rfl (gc rfl (gc (by first | decide | simp) (gc (by first | decide | simp) (gc (FV.view (args' := [(.p (.sl 3 [(intP 1), (intP 1), (intP 14), (intP 1), (intP 0), (intP 2), (intP 14), (intP 1), (intP 2), (intP 3), (intP 12), (intP 1)])), (.p (.sl 3 [(intP 1), (intP 1), (intP 14), (intP 1), (intP 0), (intP 2), (intP 14), (intP 1), (intP 2), (intP 3), (intP 12), (intP 1)]))]) (h39_4 _) (by kernel_rfl) (by kernel_rfl) (by kernel_rfl)) (gc (by first | decide | simp) (gc (by first | decide | simp) (gc (by first | decide | simp) (gc (by first | decide | simp) (gc (by first | decide | simp) (gc (by first | decide | simp) (gc (by first | decide | simp) (gc (by first | decide | simp) (gc (by first | decide | simp) (gc (by first | decide | simp) (gc (by first | decide | simp) (gc (by first | decide | simp) (gc (by first | decide | simp) (gc (by first | decide | simp) (gc (by first | decide | simp) (gc (FV.fc (h55_3 _) rfl) (gc (FV.fc three_p0 (by kernel_rfl)) (gc (FV.fc (h38_2 _) rfl) (gc (FV.fc three_p0 (by kernel_rfl)) (gc (FV.fc (h37_1 _) rfl) (gc (FV.fc three_p0 (by kernel_rfl)) (gc (FV.fc (h34_0 _) rfl) (gc (FV.fc three_p0 (by kernel_rfl)) gn))))))))))))))))))))))))))))))))))))))))))))))))))))))))))))))))))))))))))))
end
end KV
end Go.Proofs
section
namespace Go.Proofs
namespace KL
def insI (x : Int) : List Int → List Int
  | [] => [x]
  | y :: r => if x ≤ y then x :: y :: r else y :: insI x r
def sortI : List Int → List Int
  | [] => []
  | x :: r => insI x (sortI r)
theorem insI_perm (x : Int) : ∀ l, (insI x l).Perm (x :: l)
  | [] => .refl _
  | y :: r => by
    unfold insI
    split
    · exact .refl _
    · exact ((insI_perm x r).cons y).trans (List.Perm.swap x y r)
theorem sortI_perm : ∀ l, (sortI l).Perm l
  | [] => .refl _
  | x :: r => (insI_perm x _).trans ((sortI_perm r).cons x)
theorem insI_sorted (x : Int) : ∀ l, l.Pairwise (· ≤ ·) → (insI x l).Pairwise (· ≤ ·)
  | [], _ => by simp [insI]
  | y :: r, h => by
    obtain ⟨h1, h2⟩ := List.pairwise_cons.1 h
    unfold insI
    split
    · rename_i hx
      exact List.pairwise_cons.2 ⟨fun z hz => by
        rcases List.mem_cons.1 hz with rfl | hz
        · exact hx
        · have := h1 z hz; omega, h⟩
    · rename_i hx
      refine List.pairwise_cons.2 ⟨fun z hz => ?_, insI_sorted x r h2⟩
      rcases List.mem_cons.1 ((insI_perm x r).mem_iff.1 hz) with rfl | hz
      · omega
      · exact h1 z hz
theorem sortI_sorted : ∀ l, (sortI l).Pairwise (· ≤ ·)
  | [] => .nil
  | x :: r => insI_sorted x _ (sortI_sorted r)
theorem sorted_eq : ∀ (a b : List Int), a.Perm b → a.Pairwise (· ≤ ·) → b.Pairwise (· ≤ ·) → a = b
  | [], b, h, _, _ => (List.nil_perm.1 h).symm
  | x :: r, [], h, _, _ => absurd h.length_eq (by simp)
  | x :: r, y :: t, h, ha, hb => by
    obtain ⟨h1, h2⟩ := List.pairwise_cons.1 ha
    obtain ⟨h3, h4⟩ := List.pairwise_cons.1 hb
    have e : x = y := by
      have m1 : x ∈ y :: t := h.mem_iff.1 (List.mem_cons_self ..)
      have m2 : y ∈ x :: r := h.mem_iff.2 (List.mem_cons_self ..)
      rcases List.mem_cons.1 m1 with e | m1
      · exact e
      · rcases List.mem_cons.1 m2 with e | m2
        · exact e.symm
        · have := h1 y m2; have := h3 x m1; omega
    subst e
    rw [sorted_eq r t (List.Perm.cons_inv h) h2 h4]
theorem mergeSort_eq (l : List Int) : l.mergeSort leB = sortI l := by
  refine sorted_eq _ _ ((List.mergeSort_perm _ _).trans (sortI_perm l).symm) ?_ (sortI_sorted l)
  have := List.pairwise_mergeSort leB_trans leB_total l
  exact this.imp (fun h => by simpa [leB] using h)
end KL
namespace KV
open KL
theorem h39 (base : Nat) : FV Tryz.prog 39 [(.p (.sl 3 [(intP 1), (intP 1), (intP 14), (intP 1), (intP 0), (intP 2), (intP 14), (intP 1), (intP 2), (intP 3), (intP 12), (intP 1)])), (.p (.sl 3 [(intP 1), (intP 1), (intP 14), (intP 1), (intP 0), (intP 2), (intP 14), (intP 1), (intP 2), (intP 3), (intP 12), (intP 1)]))] base (.p (blP true)) [] :=
  eql_ok [[1, 1, 14, 1], [0, 2, 14, 1], [2, 3, 12, 1]] [[1, 1, 14, 1], [0, 2, 14, 1], [2, 3, 12, 1]] (by decide) (by unfold uni; decide) (by unfold uni; decide)
theorem h25 (base : Nat) : FV Tryz.prog 25 [(.p (.sl 3 [(intP 0), (intP 1), (intP 2)])), (.p (.sl 3 [(intP 0), (intP 1), (intP 2)]))] base (.p (blP true)) [] := eqi_ok [0, 1, 2] [0, 1, 2] (by decide)
theorem h87 (base : Nat) : FV Tryz.prog 87 [(.p (.sl 2 [(intP 5), (intP 1), (intP 14), (intP 4), (intP 9), (intP 2), (intP 12), (intP 3)])), (.p (.sl 2 [(intP 5), (intP 1), (intP 14), (intP 4), (intP 9), (intP 2), (intP 12), (intP 3)]))] base (.p (blP true)) [] :=
  eqn_ok [[5, 1, 14, 4], [9, 2, 12, 3]] [[5, 1, 14, 4], [9, 2, 12, 3]] (by decide) (by unfold uni; decide) (by unfold uni; decide)
theorem countedL_eq (c : Cup) (s : Nat) : countedL c s = KL.sortI ((KL.isort (KL.ltC (KL.cntCmp c s)) (KL.idx c.done.length)).take (min c.done.length c.be.toNat)) := by
  unfold countedL
  exact KL.mergeSort_eq _
def totK (c : Cup) (s : Nat) : Int := ((KL.sortI ((KL.isort (KL.ltC (KL.cntCmp c s)) (KL.idx c.done.length)).take (min c.done.length c.be.toNat))).map fun i => scoreAt c i.toNat s).sum
theorem totalM_eq (c : Cup) (s : Nat) : totalM c s = totK c s := by
  unfold totalM totK
  rw [countedL_eq]
def betK (c : Cup) (a b : Nat) : Bool := KL.betterF (totK c a) (totK c b) (placesM c a) (placesM c b)
theorem betS_eq (c : Cup) (a b : Nat) : betS c a b = betK c a b := by
  unfold betS betK
  rw [totalM_eq, totalM_eq]
def rankK (c : Cup) (s : Nat) : Int := 1 + ((KL.oth s c.sk.toNat).countP (fun x => betK c x s) : Nat)
theorem rankM_eq (c : Cup) (s : Nat) : rankM c s = rankK c s := by
  unfold rankM rankK
  simp only [betS_eq]
def canK (c : Cup) (s : Nat) : Bool := rankK (withC c (wonM c s)) s == 1
theorem canM_eq (c : Cup) : canM c = canK c := by
  funext s
  unfold canM canK
  rw [rankM_eq]
set_option maxRecDepth 100000 in
theorem v37 : whoM (canM threeC) 3 = [0, 1, 2] := by
  rw [canM_eq]
  kernel_rfl
theorem clash_no {race : List Int} (h0 : ∀ x ∈ race, 0 ≤ x) (h : KL.NoClash race) : KL.clashR race = false := (KL.clash_iff race h0).2 h
theorem valid_three : KL.Valid threeC where
  sk1 := by decide
  sk2 := by decide
  ra1 := by decide
  ra2 := by decide
  be1 := by decide
  be2 := by decide
  pt1 := by decide
  pt2 := by decide
  dn := by decide
  len := by decide
  pts := by decide
  rows := by decide
  falls := by kernel_rfl
  clash := by
    show (KL.clashR [1, 2, 3] || (KL.clashR [3, 1, 1] || false)) = false
    rw [clash_no (by decide) (by unfold KL.NoClash; decide), clash_no (by decide) (by unfold KL.NoClash; decide)]
    rfl
theorem valid_two : KL.Valid twoC where
  sk1 := by decide
  sk2 := by decide
  ra1 := by decide
  ra2 := by decide
  be1 := by decide
  be2 := by decide
  pt1 := by decide
  pt2 := by decide
  dn := by decide
  len := by decide
  pts := by decide
  rows := by decide
  falls := by kernel_rfl
  clash := by
    show (KL.clashR [1, 2] || (KL.clashR [1, 2] || (KL.clashR [1, 2] || false))) = false
    rw [clash_no (by decide) (by unfold KL.NoClash; decide)]
    rfl
theorem h37 (base : Nat) : FV Tryz.prog 37 [.p (cupP threeC)] base (.tup [.p (intsP [0, 1, 2]), .p (intP 0)]) [] := by
  have := canE_ok threeC valid_three (base := base)
  rwa [show whoM (canM threeC) threeC.sk.toNat = [0, 1, 2] from v37] at this
theorem v34 : tableM threeC = [[1, 1, 14, 1], [0, 2, 14, 1], [2, 3, 12, 1]] := by
  unfold tableM tabL
  simp only [rankM_eq, totalM_eq]
  kernel_rfl
theorem h34 (base : Nat) : FV Tryz.prog 34 [.p (cupP threeC)] base (.tup [.p (.sl 3 ([[1, 1, 14, 1], [0, 2, 14, 1], [2, 3, 12, 1]].flatten.map intP)), .p (intP 0)]) [] := by
  have := table_ok threeC valid_three (base := base)
  rwa [v34] at this
theorem lastE_three (k : Int) (h : 0 ≤ k ∧ k < 3) : lastE threeC k = 0 := by
  unfold lastE
  rw [named_in valid_three h.1 h.2]
  rfl
def beatK (c : Cup) (o : Nat) (p : Int) (s : Nat) (w : Int) : Bool := betK (withC c [KL.race2 c.sk.toNat o p s w]) o s
theorem beatsM_fun : beatsM = beatK := by funext c o p s w; unfold beatsM beatK; rw [betS_eq]
def findK (c : Cup) (s : Nat) (pl : Int) (free : List Int) : Int := (KL.oth s c.sk.toNat).foldl (fun fo x => if fo < 0 then (if free.getD x 0 = 0 then (if beatK c x pl s 1 then fo else (x : Int)) else fo) else fo) (-1)
theorem findM_eq (c : Cup) (s : Nat) (pl : Int) (free : List Int) : findM c s pl free = findK c s pl free := by
  have : findF c s pl free = fun fo x => if fo < 0 then (if free.getD x 0 = 0 then (if beatK c x pl s 1 then fo else (x : Int)) else fo) else fo := by
    funext fo x
    unfold findF
    rw [beatsM_fun]
  unfold findM findK
  rw [this]
def fullRK (c : Cup) (s : Nat) : Nat → Int → List Int → Option (List Int)
  | 0, _, free => some free
  | n + 1, pl, free => if findK c s pl free < 0 then none else fullRK c s n (pl + 1) (free.set (findK c s pl free).toNat pl)
theorem fullR_eq (c : Cup) (s : Nat) : ∀ n pl free, fullR c s n pl free = fullRK c s n pl free
  | 0, _, _ => rfl
  | n + 1, pl, free => by
    unfold fullR fullRK
    rw [findM_eq, fullR_eq c s n]
theorem v56 : fullM threeC 2 = some [2, 3, 1] := by
  unfold fullM
  rw [fullR_eq]
  kernel_rfl
theorem h56 (base : Nat) : FV Tryz.prog 56 [.p (cupP threeC), .p (intP 2)] base (.tup [.p (intsP [2, 3, 1]), .p (intP 0)]) [] := by
  have := full_ok threeC 2 (lastE_three 2 (by omega)) (base := base)
  rw [v56] at this
  exact this
def passK (c : Cup) (skier s : Nat) : Bool := decide (s ≠ skier) && decide (1 < rankK (withC c (wonM c s)) skier)
theorem passes_eq (c : Cup) (skier s : Nat) : KL.passes c skier s = passK c skier s := by
  unfold KL.passes passK
  rw [rankM_eq]
def agK (c : Cup) (skier : Nat) : Nat → Nat → Option Nat
  | 0, _ => none
  | f + 1, k => if passK c skier k then some k else agK c skier f (k + 1)
theorem ag_eq (c : Cup) (skier : Nat) : ∀ f k, KL.againstAt c skier f k = agK c skier f k
  | 0, _ => rfl
  | f + 1, k => by
    unfold KL.againstAt agK
    rw [passes_eq, ag_eq c skier f]
def sureK (c : Cup) (s : Nat) : Bool := !(agK c s c.sk.toNat 0).isSome
theorem sureM_eq (c : Cup) : sureM c = sureK c := by
  funext s
  unfold sureM sureK KL.againstM
  rw [ag_eq]
theorem v38 : whoM (sureM threeC) 3 = [] := by
  rw [sureM_eq]
  kernel_rfl
theorem h38 (base : Nat) : FV Tryz.prog 38 [.p (cupP threeC)] base (.tup [.p (intsP []), .p (intP 0)]) [] := by
  have := sureE_ok threeC valid_three (base := base)
  rwa [show whoM (sureM threeC) threeC.sk.toNat = [] from v38] at this
def decPK (c : Cup) (n : Nat) : Bool := decide (0 < (whoM (sureK (earlyC c n)) c.sk.toNat).length) && decide ((whoM (canK (earlyC c n)) c.sk.toNat).length = 1)
theorem decP_eq (c : Cup) : decP c = decPK c := by
  funext n
  unfold decP decPK
  rw [sureM_eq, canM_eq]
theorem v73 : decM twoC = (3, 0, 0) := by
  unfold decM
  rw [decP_eq]
  simp only [sureM_eq]
  kernel_rfl
theorem h73 (base : Nat) : FV Tryz.prog 73 [.p (cupP twoC)] base (.tup [.p (intP 3), .p (intP 0), .p (intP 0)]) [] := by
  have := dec_ok twoC valid_two (base := base)
  rwa [v73] at this
def rivPK (c : Cup) (s i : Nat) : Int := if beatK c i 0 s 0 then 61 else upto (fun p => beatK c i p s 0) 60 0
theorem rivPl_eq (c : Cup) (s i : Nat) : rivPl c s i = rivPK c s i := by
  unfold rivPl rivPK
  rw [beatsM_fun]
theorem v55 : worstM threeC 1 = (3, 3, [1, 0, 2]) := by
  have e : rivG threeC 1 = fun i => if i = 1 then [] else if 0 < rivPK threeC 1 i then [[(i : Int), rivPK threeC 1 i]] else [] := by
    funext i
    unfold rivG
    rw [rivPl_eq]
  have h : ((KL.isort (ltK 1) ((List.range threeC.sk.toNat).flatMap fun i => if i = 1 then [] else if 0 < rivPK threeC 1 i then [[(i : Int), rivPK threeC 1 i]] else [])).foldl wStep (1, 1, List.replicate threeC.sk.toNat 0) : Int × Int × List Int) = (3, 3, [1, 0, 2]) := by kernel_rfl
  unfold worstM rivM rivL
  rw [e]
  exact h
theorem h55 (base : Nat) : FV Tryz.prog 55 [.p (cupP threeC), .p (intP 1)] base (.tup [.p (intP 3), .p (intsP [1, 0, 2]), .p (intP 0)]) [] := by
  have := worst_ok threeC 1 (lastE_three 1 (by omega)) (base := base)
  rw [v55] at this
  exact this
theorem awake_told (h22 : ∀ base : Nat, FV Tryz.prog 22 [.p (cupP threeC), .p (intsP [5, 5, 9]), .p (intP 1), .p (intsP [4, 3])] base (.tup [.p (.sl 2 ([[5, 1, 14, 4], [9, 2, 12, 3]].flatten.map intP)), .p (intP 0)]) []) (base : Nat) : FV Tryz.prog 19 [] base (.p (blP true)) [] :=
  awake_p0 h34 h37 h38 h55 h39 h25 h73 h56 h22 h87
end KV
end Go.Proofs
end
section
namespace Go.Proofs
open KL Go.RowKit
namespace KV

theorem totalM_bd {c : KL.Cup} (hV : KL.Valid c) (s : Nat) : 0 ≤ KL.totalM c s ∧ KL.totalM c s ≤ 20000 := by
  unfold KL.totalM
  have hl : ((KL.countedL c s).map fun i => KL.scoreAt c i.toNat s).length ≤ 20 := by
    rw [List.length_map, countedL_eq]
    have h1 : ∀ l, (KL.sortI l).length = l.length := fun l => by rw [← KL.mergeSort_eq]; exact List.length_mergeSort l
    rw [h1, List.length_take]
    have := hV.be2
    have := hV.ra2
    omega
  have hb : ∀ x ∈ ((KL.countedL c s).map fun i => KL.scoreAt c i.toNat s), 0 ≤ x ∧ x ≤ 1000 := fun x hx => by
    obtain ⟨i, _, rfl⟩ := List.mem_map.1 hx
    exact KL.scoreM_bd _ _ _ hV.pts
  have key : ∀ l : List Int, (∀ x ∈ l, 0 ≤ x ∧ x ≤ 1000) → 0 ≤ l.sum ∧ l.sum ≤ 1000 * l.length := fun l h => by
    induction l with
    | nil => simp
    | cons x r ih =>
      have h1 := h x (List.mem_cons_self ..)
      have h2 := ih fun y hy => h y (List.mem_cons_of_mem _ hy)
      rw [List.sum_cons, List.length_cons]
      omega
  have := key _ hb
  omega
theorem totalsM_len (c : KL.Cup) : (KL.totalsM c).length = c.sk.toNat := KL.totalsUp_length _ _
theorem totalsM_mem {c : KL.Cup} (hV : KL.Valid c) : ∀ x ∈ KL.totalsM c, 0 ≤ x ∧ x ≤ 20000 := fun x hx => by
  unfold KL.totalsM KL.totalsUp at hx
  obtain ⟨s, _, rfl⟩ := List.mem_map.1 hx
  exact totalM_bd hV s
theorem all_within {l : List Int} {a b : Int} (h : (l.all fun x => within x a b) = true) : ∀ x ∈ l, a ≤ x ∧ x ≤ b := fun x hx => by
  have := List.all_eq_true.1 h x hx
  exact within_iff.1 this
theorem nat_ok (c : KL.Cup) (ns : List Int) (mo : Int) (qs : List Int) (hS : KL.Small c) (hE : natE c ns mo qs = 0) {base : Nat} : FV Tryz.prog 22 [.p (cupP c), .p (intsP ns), .p (intP mo), .p (intsP qs)] base
    (.tup [.p (.sl (nationsM c ns mo qs).length ((nationsM c ns mo qs).flatten.map intP)), .p (intP 0)]) [] := by
  unfold natE at hE
  split at hE
  · exact absurd hE ‹_›
  rename_i h1
  split at hE
  · omega
  rename_i h2
  split at hE
  · omega
  rename_i h3
  split at hE
  · omega
  rename_i h4
  have h1 : KL.checkP c = 0 := Decidable.byContradiction h1
  have hV := (KL.valid_iff c).1 h1
  have a1 : (ns.length : Int) = c.sk := Decidable.byContradiction fun h => h2 (.inl h)
  have a2 : within (qs.length : Int) 1 31 = true := by
    cases h : within (qs.length : Int) 1 31
    · exact absurd (.inr h) h2
    · rfl
  have a3 : (ns.all fun x => within x 0 30) = true := by
    cases h : (ns.all fun x => within x 0 30)
    · exact absurd (.inl h) h3
    · rfl
  have a4 : within mo 1 12 = true := by
    cases h : within mo 1 12
    · exact absurd (.inr (.inl h)) h3
    · rfl
  have a5 : (qs.all fun x => within x 0 20) = true := by
    cases h : (qs.all fun x => within x 0 20)
    · exact absurd (.inr (.inr h)) h3
    · rfl
  have a6 : KL.fallsB qs = true := by
    cases h : KL.fallsB qs
    · exact absurd h h4
    · rfl
  have b2 := within_iff.1 a2
  have s2 := hV.sk2
  exact nat_p7 hS h1 a1 a2 (by unfold small; omega) a3 a4 (by unfold small; omega) a5 (by omega) a6 (nat_main hV a1 (all_within a3) (within_iff.1 a4) (by omega) (totalsM_len c) (fun x hx => by have := totalsM_mem hV x hx; omega))
theorem totals_three : KL.totalsM threeC = [14, 14, 12] := by
  have e : KL.totalsM threeC = (List.range 3).map (totK threeC) := by
    unfold KL.totalsM KL.totalsUp
    exact List.map_congr_left fun s _ => totalM_eq threeC s
  have h : (List.range 3).map (totK threeC) = [14, 14, 12] := by kernel_rfl
  exact e.trans h
theorem v22 : nationsM threeC [5, 5, 9] 1 [4, 3] = [[5, 1, 14, 4], [9, 2, 12, 3]] := by
  unfold nationsM
  have h : natL [4, 3] (outL [5, 5, 9] [14, 14, 12] 1 ([14, 14, 12] : List Int).length 31) = [[5, 1, 14, 4], [9, 2, 12, 3]] := by kernel_rfl
  rw [totals_three]
  exact h
theorem h22 (base : Nat) : FV Tryz.prog 22 [.p (cupP threeC), .p (intsP [5, 5, 9]), .p (intP 1), .p (intsP [4, 3])] base (.tup [.p (.sl 2 ([[5, 1, 14, 4], [9, 2, 12, 3]].flatten.map intP)), .p (intP 0)]) [] := by
  have hE : natE threeC [5, 5, 9] 1 [4, 3] = 0 := by
    unfold natE
    have h : (if (([5, 5, 9] : List Int).length : Int) ≠ threeC.sk ∨ within (([4, 3] : List Int).length : Int) 1 31 = false then (2 : Int) else if (([5, 5, 9] : List Int).all fun x => within x 0 30) = false ∨ within 1 1 12 = false ∨ (([4, 3] : List Int).all fun x => within x 0 20) = false then 3 else if KL.fallsB [4, 3] = false then 4 else 0) = 0 := by kernel_rfl
    rw [(KL.valid_iff threeC).2 valid_three, if_neg (by simp)]
    exact h
  have := nat_ok threeC [5, 5, 9] 1 [4, 3] valid_three.small hE (base := base)
  rw [v22] at this
  exact this
theorem awake_ok (base : Nat) : FV Tryz.prog 19 [] base (.p (blP true)) [] := awake_told h22 base
end KV
end Go.Proofs
end
section
namespace Go.Proofs
namespace KL
section
variable {α : Type}
theorem ins_split (lt : α → α → Bool) (A : List α) (x : α) : ∃ B D : List α, A = B ++ D ∧ ins lt A x = B ++ x :: D ∧ (∀ d ∈ D, lt x d = true) ∧ (B = [] ∨ ∃ B' h, B = B' ++ [h] ∧ lt x h = false) := by
  have hA : A = (A.reverse.dropWhile (lt x)).reverse ++ (A.reverse.takeWhile (lt x)).reverse := by
    rw [← List.reverse_append, List.takeWhile_append_dropWhile, List.reverse_reverse]
  generalize hdw : A.reverse.dropWhile (lt x) = dw at hA
  generalize htw : A.reverse.takeWhile (lt x) = tw at hA
  have hp : insPos lt x A = dw.reverse.length := by unfold insPos; rw [hdw, List.length_reverse]
  refine ⟨dw.reverse, tw.reverse, hA, ?_, fun d hd => ?_, ?_⟩
  · unfold ins
    rw [hp]
    conv => lhs; rw [hA]
    rw [List.take_left', List.drop_left'] <;> rfl
  · rw [List.mem_reverse, ← htw] at hd
    exact List.all_eq_true.1 List.all_takeWhile d hd
  · cases dw with
    | nil => exact .inl rfl
    | cons h r =>
      refine .inr ⟨r.reverse, h, by simp, ?_⟩
      have := List.head_dropWhile_not (lt x) (l := A.reverse) (by rw [hdw]; simp)
      simp only [hdw, List.head_cons] at this
      simpa using this
theorem ins_perm (lt : α → α → Bool) (A : List α) (x : α) : (ins lt A x).Perm (x :: A) := by
  obtain ⟨B, D, h1, h2, _⟩ := ins_split lt A x
  rw [h2, h1]
  exact List.perm_middle
theorem isort_perm (lt : α → α → Bool) (l : List α) : (isort lt l).Perm l := by
  unfold isort
  have : ∀ (l A : List α), (l.foldl (ins lt) A).Perm (A ++ l) := by
    intro l
    induction l with
    | nil => intro A; simp
    | cons x r ih =>
      intro A
      rw [List.foldl_cons]
      refine (ih _).trans (((ins_perm lt A x).append_right r).trans ?_)
      exact List.perm_middle.symm
  simpa using this l []
end
end KL
end Go.Proofs
end
namespace Go.Proofs
namespace KV
section
open KL
def ofM (L : List (List Int)) (n : Int) : List Int := (L.find? fun x => x.getD 0 0 == n).getD [0, -1, 0, 0]
end
end KV
end Go.Proofs
section
namespace Go.Proofs
open KL Go.RowKit
namespace KV

theorem cmp_dec (a b : Int) : decide (KL.cmpI a b < 0) = decide (a < b) := by
  unfold KL.cmpI
  split
  · rename_i h; simp [h]
  · rename_i h
    split
    · rename_i h2; simp; omega
    · simp; omega
section
variable {ns ts : List Int} {mo : Int} {qs : List Int} {N : Nat}
end

end KV
end Go.Proofs
end
namespace Go.Proofs
namespace KV
section
open KL
noncomputable abbrev zM3c0 : Code := sub (cd Tryz.f42) [1, 1, 0, 1, 0, 0]
theorem cli_p0 {l : List Int} (h0 : (l.map intP).length = l.length * 1 ∧ l.length ≤ 1000000) {base : Nat} : FV Tryz.prog 21 [(.p (intsP l))] base (.p (intsP l)) [] := by
  exact FV.frz (FMM.fin (k := 0) (g := ⟨[], [], [0], []⟩) rfl Tryz.func21 rfl (o := []) (l := [_]) (by kernel_rfl) (gc h0 gn)) (by kernel_rfl)
theorem cli_ok (l : List Int) (hl : l.length ≤ 1000) {base : Nat} : FV Tryz.prog 21 [.p (intsP l)] base (.p (intsP l)) [] := cli_p0 ⟨by simp, by omega⟩
def cla_S0 (l : List (List Int)) (i : Nat) (on : Nat) (oc : List PV) : St := ⟨fr 19 [(2, (.p nilS)), (3, (.own 0)), (6, (.p (rowsP l))), (7, (.p (intP (l.length : Int)))), (8, (.p (intP (i : Int))))], [some (.row 22 on oc)]⟩
theorem cla_p0 {l : List (List Int)} {i'0 : Nat} {o'1 : List (List Int)} (hl0 : LoopOK Tryz.prog 0 zM3c0 (cla_S0 l 0 0 []) (.exit 0) (cla_S0 l i'0 o'1.length (o'1.map intsP))) {base : Nat} : FV Tryz.prog 42 [(.p (rowsP l))] base (.p (rowsP o'1)) [] := by
  exact FV.frz (FMM.fin (k := 0) (g := ⟨[], [], [0], []⟩) rfl Tryz.func42 rfl (o := [.k 8 ⟨(rng [(0, 2), (4, 2), (9, 9)]), [0], [], [(3, 22)]⟩ (.exit 0) (cla_S0 l i'0 o'1.length (o'1.map intsP))]) (l := [_]) (by kernel_rfl) (gc hl0.code gn)) (by kernel_rfl)
theorem cla_L0_p0 {l : List (List Int)} {i : Nat} {o : List (List Int)} {x100 : List Int} {i' : Nat} {o' : List (List Int)} (h0 : (i : Int) < (l.length : Int)) (h1 : l[i]? = some x100) (h2 : x100.length ≤ 1000) (h3 : [(intsP x100)].length = 1 * 1 ∧ o.length + 1 ≤ 1000000) (h4 : inR (((i + 1) : Nat) : Int)) (ei' : i' = (i + 1)) (eo'n : o'.length = (o.length + 1)) (eo'c : o'.map intsP = ((o.map intsP) ++ [(intsP x100)])) : CodeOK Tryz.prog 0 zM3c0 (cla_S0 l i o.length (o.map intsP)) .normal (cla_S0 l i' o'.length (o'.map intsP)) := by
  subst ei'
  have raw : CodeOK Tryz.prog 0 zM3c0 (cla_S0 l i o.length (o.map intsP)) .normal (cla_S0 l (i + 1) (o.length + 1) ((o.map intsP) ++ [(intsP x100)])) := CodeOK.fin (g := ⟨(rng [(0, 2), (4, 2), (9, 9)]), [2], [], []⟩) (o := [.b true, .x (intsP x100), .c (.p (intsP x100)) []]) (l := [_, _, FC Tryz.prog 21 [(.p (intsP x100))] [] 1 (.p (intsP x100)) [], (l.map intsP)[(i * 1)]? = some (intsP x100), 0 ≤ (i : Int) ∧ (i : Int) < (l.length : Int) ∧ (i * 1) < (l.map intsP).length, _]) (by kernel_rfl) (gc h4 (gc h3 (gc (FV.fc (cli_ok x100 h2) rfl) (gc (at_map (i := i) h1) (gc (ix_map (i := (i : Int)) (Int.natCast_nonneg _) h1) (gc (q_lt h0) gn))))))
  exact raw.cast (by rw [eo'n, eo'c])
theorem cla_L0_p1 {l : List (List Int)} {i : Nat} {o : List (List Int)} (h0 : (l.length : Int) ≤ (i : Int)) : CodeOK Tryz.prog 0 zM3c0 (cla_S0 l i o.length (o.map intsP)) (.exit 0) (cla_S0 l i o.length (o.map intsP)) := by
  exact CodeOK.fin (g := ⟨(rng [(0, 2), (4, 2), (9, 9)]), [0], [], []⟩) (o := [.b false]) (l := [_]) (by kernel_rfl) (gc (q_ltF h0) gn)
theorem cla_ok (l : List (List Int)) (hl : l.length ≤ 1000) (hr : ∀ r ∈ l, r.length ≤ 1000) {base : Nat} : FV Tryz.prog 42 [.p (rowsP l)] base (.p (rowsP l)) [] := by
  have h := LoopOK.count (P := Tryz.prog) (k := 0) (b := zM3c0) (e := .exit 0) (R := cla_S0 l l.length l.length (l.map intsP)) l.length (fun i => cla_S0 l i (l.take i).length ((l.take i).map intsP))
    (fun i hi => cla_L0_p0 (o := l.take i) (o' := l.take (i + 1)) (by omega) (List.getElem?_eq_getElem hi) (hr _ (List.getElem_mem hi)) (by simp; omega) (inR_nat (by omega)) rfl (by simp; omega) (by rw [List.take_add_one, List.getElem?_eq_getElem hi, List.map_append]; rfl))
    (by rw [List.take_length]; exact cla_L0_p1 (by omega)) (by simp)
  exact cla_p0 (o'1 := l) h
theorem cln_p0 {c : Cup} (h0 : c.pts.length ≤ 1000) (h1 : c.done.length ≤ 1000) (h2 : ∀ r ∈ c.done, r.length ≤ 1000) {base : Nat} : FV Tryz.prog 20 [(.p (cupP c))] base (.p (cupP c)) [] := by
  exact FV.fin Tryz.func20 rfl (o := [.c (.p (intsP c.pts)) [], .c (.p (rowsP c.done)) []]) (l := [FC Tryz.prog 42 [(.p (rowsP c.done))] [] 6 (.p (rowsP c.done)) [], FC Tryz.prog 21 [(.p (intsP c.pts))] [] 2 (.p (intsP c.pts)) []]) (by kernel_rfl) (gc (FV.fc (cla_ok c.done h1 h2) rfl) (gc (FV.fc (cli_ok c.pts h0) rfl) gn))
theorem cln_ok (c : Cup) (hS : KL.Small c) {base : Nat} : FV Tryz.prog 20 [.p (cupP c)] base (.p (cupP c)) [] := cln_p0 hS.pts hS.done hS.rows
theorem counted_okI (c : Cup) (k : Int) (hV : KL.Valid c) (h : 0 ≤ k ∧ k < c.sk) {base : Nat} : FV Tryz.prog 51 [.p (cupP c), .p (intP k)] base (.tup [.p (intsP (countedL c k.toNat)), .p (intP 0)]) [] := by
  have := counted2_ok c hV k.toNat (by omega) (base := base)
  rwa [Int.toNat_of_nonneg h.1] at this
end
end KV
end Go.Proofs
section
namespace Go.Proofs
open KL Go.RowKit
namespace KL
section
variable {α : Type}
theorem ins_stable {f g : α → Int} {lt : α → α → Bool} (hlt : ∀ x y, lt x y = decide (f x < f y)) {A : List α} (x : α) (hs : A.Pairwise (fun a b => f a < f b ∨ f a = f b ∧ g a < g b)) (hg : ∀ a ∈ A, g a < g x) : (ins lt A x).Pairwise (fun a b => f a < f b ∨ f a = f b ∧ g a < g b) := by
  obtain ⟨B, D, rfl, h2, h3, h4⟩ := ins_split lt A x
  rw [h2]
  obtain ⟨s1, s2, s3⟩ := List.pairwise_append.1 hs
  have hB : ∀ b ∈ B, f b ≤ f x := fun b hb => by
    rcases h4 with rfl | ⟨B', h, rfl, hx⟩
    · simp at hb
    · rw [hlt, decide_eq_false_iff_not] at hx
      rcases List.mem_append.1 hb with hb | hb
      · have := (List.pairwise_append.1 s1).2.2 b hb h (by simp)
        omega
      · simp at hb; subst hb; omega
  have hD : ∀ d ∈ D, f x < f d := fun d hd => by
    have := h3 d hd
    rwa [hlt, decide_eq_true_eq] at this
  refine List.pairwise_append.2 ⟨s1, List.pairwise_cons.2 ⟨fun d hd => .inl (hD d hd), s2⟩, fun a ha b hb => ?_⟩
  rcases List.mem_cons.1 hb with rfl | hb
  · have h5 := hB a ha
    have h6 := hg a (List.mem_append_left _ ha)
    by_cases e : f a = f b
    · exact .inr ⟨e, h6⟩
    · exact .inl (by omega)
  · exact s3 a ha b hb
theorem isort_stable {f g : α → Int} {lt : α → α → Bool} (hlt : ∀ x y, lt x y = decide (f x < f y)) (l : List α) (hl : l.Pairwise (fun a b => g a < g b)) : (isort lt l).Pairwise (fun a b => f a < f b ∨ f a = f b ∧ g a < g b) := by
  unfold isort
  have : ∀ (l A : List α), l.Pairwise (fun a b => g a < g b) → (∀ a ∈ A, ∀ x ∈ l, g a < g x) → A.Pairwise (fun a b => f a < f b ∨ f a = f b ∧ g a < g b) → (l.foldl (ins lt) A).Pairwise (fun a b => f a < f b ∨ f a = f b ∧ g a < g b) := by
    intro l
    induction l with
    | nil => intro A _ _ h; exact h
    | cons x r ih =>
      intro A hl hA h
      obtain ⟨h1, h2⟩ := List.pairwise_cons.1 hl
      rw [List.foldl_cons]
      refine ih _ h2 (fun a ha y hy => ?_) (ins_stable hlt x h (fun a ha => hA a ha x (List.mem_cons_self ..)))
      rcases List.mem_cons.1 ((ins_perm lt A x).mem_iff.1 ha) with rfl | ha
      · exact h1 y hy
      · exact hA a ha y (List.mem_cons_of_mem _ hy)
  exact this l [] hl (fun a ha => by simp at ha) .nil
end
end KL
namespace KV

abbrev scF (c : Cup) (s : Nat) (x : Int) : Int := scoreAt c x.toNat s
abbrev srtC (c : Cup) (s : Nat) : List Int := KL.isort (KL.ltC (KL.cntCmp c s)) (KL.idx c.done.length)
theorem idx_pw (n : Nat) : (KL.idx n).Pairwise (· < ·) := by
  unfold KL.idx
  rw [List.pairwise_map]
  exact List.Pairwise.imp (fun h => by omega) List.pairwise_lt_range
theorem srtC_pw (c : Cup) (s : Nat) : (srtC c s).Pairwise (fun a b => -scF c s a < -scF c s b ∨ -scF c s a = -scF c s b ∧ a < b) := by
  refine isort_stable (f := fun x => -scF c s x) (g := fun x => x) (fun x y => ?_) _ (idx_pw _)
  refine (cmp_dec _ _).trans ?_
  rw [decide_eq_decide]
  show scF c s y < scF c s x ↔ -scF c s x < -scF c s y
  omega
theorem srtC_perm (c : Cup) (s : Nat) : (srtC c s).Perm (KL.idx c.done.length) := isort_perm _ _
theorem cntd_perm (c : Cup) (s : Nat) : (countedL c s).Perm ((srtC c s).take (min c.done.length c.be.toNat)) := by
  rw [countedL_eq]
  exact KL.sortI_perm _
theorem cntd_lt (c : Cup) (s : Nat) : (countedL c s).Pairwise (· < ·) := by
  have h1 : (countedL c s).Pairwise (· ≤ ·) := by rw [countedL_eq]; exact KL.sortI_sorted _
  have h2 : (countedL c s).Pairwise (· ≠ ·) := by
    refine (cntd_perm c s).symm.pairwise (List.Pairwise.sublist (List.take_sublist _ _) ((srtC_pw c s).imp fun h => ?_)) (fun h => h.symm)
    intro e; subst e
    rcases h with h | h <;> omega
  exact (h1.and h2).imp fun h => by omega
end KV
end Go.Proofs
end
namespace Go.Proofs
namespace KV
section
open KL
def mostM (c : Cup) (n : Nat) : List Int := (List.range n).map fun s => totalM (withC c (wonM c s)) s
end
end KV
end Go.Proofs
section
namespace Go.Proofs
namespace KL
theorem worth_snoc (pts : List Int) (p m : Nat) : worthM pts p (m + 1) = worthM pts p m + pts.getD (p - 1 + m) 0 := by
  unfold worthM
  rw [List.take_add_one, List.sum_append, List.getElem?_drop, List.getD_eq_getElem?_getD]
  cases pts[p - 1 + m]? <;> simp
end KL
end Go.Proofs
end
section
namespace Go.Proofs
open KL Go.RowKit
namespace KV

def pos (x : Int) : Int := if 0 ≤ x then x else 0
end KV
end Go.Proofs
end
section
namespace Go.Proofs
open KL Go.RowKit
namespace KV

section
variable {c : Cup} {F : List (List Int)} {x : Nat}
end
end KV
end Go.Proofs
end
section
namespace Go.Proofs
open KL Go.RowKit
namespace KV

theorem srt_ext {α : Type} {r : α → α → Prop} (has : ∀ a b, r a b → ¬ r b a) : ∀ {a b : List α}, a.Pairwise r → b.Pairwise r → (∀ x, x ∈ a ↔ x ∈ b) → a = b
  | [], [], _, _, _ => rfl
  | [], y :: b, _, _, h => by have := (h y).2 (by simp); simp at this
  | x :: a, [], _, _, h => by have := (h x).1 (by simp); simp at this
  | x :: a, y :: b, ha, hb, h => by
    obtain ⟨a1, a2⟩ := List.pairwise_cons.1 ha
    obtain ⟨b1, b2⟩ := List.pairwise_cons.1 hb
    have e : x = y := by
      rcases List.mem_cons.1 ((h x).1 (by simp)) with e | h1
      · exact e
      · rcases List.mem_cons.1 ((h y).2 (by simp)) with e | h2
        · exact e.symm
        · exact absurd (b1 x h1) (has _ _ (a1 y h2))
    subst e
    rw [srt_ext has a2 b2 fun z => ?_]
    constructor
    · intro hz
      rcases List.mem_cons.1 ((h z).1 (List.mem_cons_of_mem _ hz)) with e | h1
      · subst e; exact absurd (a1 z hz) (has _ _ (a1 z hz))
      · exact h1
    · intro hz
      rcases List.mem_cons.1 ((h z).2 (List.mem_cons_of_mem _ hz)) with e | h1
      · subst e; exact absurd (b1 z hz) (has _ _ (b1 z hz))
      · exact h1

theorem pos_count {α : Type} {r : α → α → Prop} {lt : α → α → Bool} (h1 : ∀ a b, r a b → lt a b = true) (h2 : ∀ a b, r a b → lt b a = false) (h3 : ∀ a, lt a a = false) :
    ∀ (L : List α), L.Pairwise r → ∀ (j : Nat) (x : α), L[j]? = some x → L.countP (fun y => lt y x) = j
  | [], _, j, x, h => by simp at h
  | y :: L, hp, 0, x, h => by
    obtain ⟨p1, p2⟩ := List.pairwise_cons.1 hp
    simp at h
    subst h
    rw [List.countP_eq_zero]
    intro z hz
    rcases List.mem_cons.1 hz with e | hz
    · subst e; simp [h3]
    · simp [h2 _ _ (p1 z hz)]
  | y :: L, hp, j + 1, x, h => by
    obtain ⟨p1, p2⟩ := List.pairwise_cons.1 hp
    have hx : L[j]? = some x := by simpa using h
    rw [List.countP_cons, if_pos (h1 _ _ (p1 x (List.mem_of_getElem? hx))), pos_count h1 h2 h3 L p2 j x hx]

theorem take_count {α : Type} {r : α → α → Prop} {lt : α → α → Bool} (h1 : ∀ a b, r a b → lt a b = true) (h2 : ∀ a b, r a b → lt b a = false) (h3 : ∀ a, lt a a = false)
    {L : List α} (hp : L.Pairwise r) (m : Nat) (x : α) : x ∈ L.take m ↔ x ∈ L ∧ L.countP (fun y => lt y x) < m := by
  constructor
  · intro h
    obtain ⟨j, hj⟩ := List.getElem?_of_mem h
    rw [List.getElem?_take] at hj
    split at hj
    · exact ⟨List.mem_of_mem_take h, by rw [pos_count h1 h2 h3 L hp j x hj]; assumption⟩
    · cases hj
  · rintro ⟨h, hc⟩
    obtain ⟨j, hj⟩ := List.getElem?_of_mem h
    rw [pos_count h1 h2 h3 L hp j x hj] at hc
    refine List.mem_of_getElem? (i := j) ?_
    rw [List.getElem?_take, if_pos hc, hj]

def bfB (c : Cup) (s i k : Nat) : Bool := decide (scoreAt c i s < scoreAt c k s) || (decide (scoreAt c k s = scoreAt c i s) && decide (k < i))
def befM (c : Cup) (s i : Nat) : Nat := (List.range c.done.length).countP fun k => bfB c s i k
def cntdR (c : Cup) (s n : Nat) : List Int := ((List.range n).filter fun i => decide ((befM c s i : Int) < c.be)).map fun i : Nat => ((i : Nat) : Int)

theorem befM_lt {c : Cup} {s i : Nat} (h : i < c.done.length) : befM c s i < c.done.length := by
  unfold befM
  have h1 := List.countP_le_length (p := fun k => bfB c s i k) (l := List.range c.done.length)
  rw [List.length_range] at h1
  rcases Nat.lt_or_ge ((List.range c.done.length).countP fun k => bfB c s i k) c.done.length with h2 | h2
  · exact h2
  · have h3 : (List.range c.done.length).countP (fun k => bfB c s i k) = (List.range c.done.length).length := by rw [List.length_range]; omega
    have := List.countP_eq_length.1 h3 i (List.mem_range.2 h)
    simp [bfB] at this

theorem cntd_ref (c : Cup) (s : Nat) (hb : 0 ≤ c.be) : countedL c s = cntdR c s c.done.length := by
  refine srt_ext (r := fun a b : Int => a < b) (fun a b h => by omega) (cntd_lt c s) ?_ fun x => ?_
  · unfold cntdR
    rw [List.pairwise_map]
    exact ((List.pairwise_lt_range).filter _).imp fun h => by omega
  · rw [(cntd_perm c s).mem_iff, take_count (lt := fun y x : Int => decide (scF c s x < scF c s y) || (decide (scF c s y = scF c s x) && decide (y < x))) ?_ ?_ ?_ (srtC_pw c s), (srtC_perm c s).mem_iff, (srtC_perm c s).countP_eq]
    · unfold cntdR KL.idx
      rw [List.mem_map, List.mem_map, List.countP_map]
      constructor
      · rintro ⟨⟨i, hi, rfl⟩, h2⟩
        have hi' := List.mem_range.1 hi
        have e : (List.range c.done.length).countP ((fun y : Int => decide (scF c s (i : Int) < scF c s y) || (decide (scF c s y = scF c s (i : Int)) && decide (y < (i : Int)))) ∘ fun i => ((i : Nat) : Int)) = befM c s i := by
          unfold befM bfB
          refine List.countP_congr fun k hk => ?_
          simp [scF]
        rw [e] at h2
        exact ⟨i, List.mem_filter.2 ⟨hi, decide_eq_true (by omega)⟩, rfl⟩
      · rintro ⟨i, hi, rfl⟩
        obtain ⟨h1, h2⟩ := List.mem_filter.1 hi
        have hi' := List.mem_range.1 h1
        have h3 := befM_lt (s := s) hi'
        have h4 := of_decide_eq_true h2
        refine ⟨⟨i, h1, rfl⟩, ?_⟩
        have e : (List.range c.done.length).countP ((fun y : Int => decide (scF c s (i : Int) < scF c s y) || (decide (scF c s y = scF c s (i : Int)) && decide (y < (i : Int)))) ∘ fun i => ((i : Nat) : Int)) = befM c s i := by
          unfold befM bfB
          refine List.countP_congr fun k hk => ?_
          simp [scF]
        rw [e]
        omega
    · intro a b h
      simp only [Bool.or_eq_true, Bool.and_eq_true, decide_eq_true_eq]
      omega
    · intro a b h
      rw [Bool.eq_false_iff]
      simp only [ne_eq, Bool.or_eq_true, Bool.and_eq_true, decide_eq_true_eq]
      omega
    · intro a; simp

def badP (r : List Int) (p : Int) : Bool := decide (p ≠ 0) && (decide (60 < p + (r.count p : Int) - 1) || r.any fun q => decide (p < q) && decide (q ≤ p + (r.count p : Int) - 1))
theorem clash_any (r : List Int) (h0 : ∀ x ∈ r, 0 ≤ x) : KL.clashR r = r.any (badP r) := by
  cases e : r.any (badP r) with
  | false =>
    rw [KL.clash_iff r h0]
    intro p hp p0
    have h1 := List.any_eq_false.1 e p hp
    unfold badP at h1
    simp only [ne_eq, p0, not_false_eq_true, decide_true, Bool.true_and, Bool.or_eq_true, decide_eq_true_eq, not_or, Int.not_lt, List.any_eq_true, Bool.and_eq_true, not_exists, not_and] at h1
    obtain ⟨h2, h3⟩ := h1
    refine ⟨by omega, fun q hq hlt => ?_⟩
    have := h3 q hq hlt
    omega
  | true =>
    obtain ⟨p, hp, h1⟩ := List.any_eq_true.1 e
    cases ec : KL.clashR r with
    | true => rfl
    | false =>
      have hn := (KL.clash_iff r h0).1 ec
      unfold badP at h1
      simp only [ne_eq, Bool.and_eq_true, decide_eq_true_eq, Bool.or_eq_true, List.any_eq_true] at h1
      obtain ⟨p0, h2⟩ := h1
      obtain ⟨n1, n2⟩ := hn p hp p0
      rcases h2 with h2 | ⟨q, hq, h3, h4⟩
      · omega
      · have := n2 q hq h3
        omega
end KV
end Go.Proofs
end
namespace Go.Proofs
namespace KV
section
mutual
def wkP : PV → PV
  | .v (.slice none 0 0) => .sl 0 []
  | .agg cs => .agg (wkPs cs)
  | x => x
def wkPs : List PV → List PV
  | [] => []
  | x :: r => wkP x :: wkPs r
end
theorem wkPs_map : ∀ l : List PV, wkPs l = l.map wkP
  | [] => by simp [wkPs]
  | x :: r => by rw [wkPs, wkPs_map r]; rfl
def wk1 : AV → AV
  | .p x => .p (wkP x)
  | x => x
theorem wkP_rep {F : Nat → Prop} {w : World} {x : PV} {u : Value} (h : RepP F w x u) : RepP F w (wkP x) u := by
  induction h with
  | v x =>
    unfold wkP
    split
    · rename_i e
      cases e
      exact .sl 0 [] none 0 (fun _ => undef) (Nat.le_refl _) (Nat.zero_le _) (fun i h => by simp at h) (fun i h => by simp at h) (fun i h => by simp at h)
    · rename_i e; cases e
    · exact .v x
  | sl n cs p cap us h1 h2 h3 h4 h5 _ => unfold wkP; exact .sl n cs p cap us h1 h2 h3 h4 h5
  | agg cs vs h0 h1 _ ih =>
    unfold wkP
    rw [wkPs_map]
    exact .agg _ vs (fun i hi => h0 i (by simpa using hi)) (by simpa using h1) (fun i hi => by
      have := ih i (by simpa using hi)
      simpa using this)
theorem wk1_rep {C : Cx} {M : Mem} {w : World} {x : AV} {u : Value} (h : Rep C M w x u) : Rep C M w (wk1 x) u := by
  cases h with
  | p x u h => exact .p _ _ (wkP_rep h)
  | _ => unfold wk1; constructor <;> assumption
theorem FMM.wk {P : Program} {f : Nat} {args l l' : List AV} {M M' : Mem} (h : FMM P f args M (.tup l) M') (e : l.map wk1 = l') : FMM P f args M (.tup l') M' := fun C w us hus hM n => by
  subst e
  refine (h C w us hus hM n).mono ?_
  rintro e w' ⟨u, rfl, C', hF, hM', hr⟩
  refine ⟨u, rfl, C', hF, hM', ?_⟩
  cases hr with
  | tup _ vs h1 h2 => exact .tup _ vs (by simpa using h1) (fun i hi => by
      have hi' : i < l.length := by simpa using hi
      simpa using wk1_rep (h2 i hi'))
theorem RepL.wk {C : Cx} {M : Mem} {w : World} : ∀ {args : List AV} {us : List Value}, RepL C M w args us → RepL C M w (args.map wk1) us
  | [], _, h => by cases h; exact .nil
  | x :: l, _, h => by
    cases h with
    | cons _ _ u us h1 h2 => exact .cons _ _ _ _ (wk1_rep h1) h2.wk
theorem FMM.argwk {P : Program} {f : Nat} {args args' : List AV} {r : AV} {M M' : Mem} (h : FMM P f args' M r M') (e : args.map wk1 = args') : FMM P f args M r M' := fun C w us hus hM n => by
  subst e
  exact h C w us hus.wk hM n
theorem FV.argwk {P : Program} {f base : Nat} {args args' : List AV} {y : AV} {L : Upd} (h : FV P f args' base y L) (e : args.map wk1 = args') : FV P f args base y L := by
  obtain ⟨r, M1, h1, h2⟩ := h
  exact ⟨r, M1, h1.argwk e, h2⟩
end
section
open KL
end
section
open KL
noncomputable abbrev zU2c0 : Code := sub (cd Tryz.f43) [1, 1, 1, 0, 1, 0, 0]
noncomputable abbrev zU2c1 : Code := sub (cd Tryz.f43) [1, 1, 1, 1, 1, 1, 1, 0, 1, 0, 0, 1, 0, 0, 1, 0, 0]
noncomputable abbrev zU2c2 : Code := sub (cd Tryz.f43) [1, 1, 1, 1, 0, 1, 0, 0]
noncomputable abbrev zU2c3 : Code := sub (cd Tryz.f43) [1, 1, 1, 1, 1, 1, 1, 0, 1, 0, 0, 1, 0, 0, 1, 0, 0, 1, 0, 0, 1, 1, 1, 1, 1, 0, 0]
noncomputable abbrev zU2c4 : Code := sub (cd Tryz.f43) [1, 1, 1, 1, 1, 0, 1, 0, 0]
noncomputable abbrev zU2c5 : Code := sub (cd Tryz.f43) [1, 1, 1, 1, 1, 1, 0, 1, 0, 0]
noncomputable abbrev zU2c6 : Code := sub (cd Tryz.f43) [1, 1, 1, 1, 1, 0, 1, 0, 0, 1, 0, 0, 1, 0, 0]
noncomputable abbrev zU2c7 : Code := sub (cd Tryz.f43) [1, 1, 1, 1, 1, 1, 1, 0, 1, 0, 0]
noncomputable abbrev zU2c8 : Code := sub (cd Tryz.f114) [1, 1, 0, 1, 0, 0]
theorem outs_p0 {n a b : Int} (h0 : n < a) {base : Nat} : FV Tryz.prog 101 [(.p (intP n)), (.p (intP a)), (.p (intP b))] base (.p (blP true)) [] := by
  exact FV.fin Tryz.func101 rfl (o := [.b true, .b true, .b true, .b true]) (l := [_, _, _, _]) (by kernel_rfl) (gc (q_lt h0) (gc (q_lt h0) (gc (q_lt h0) (gc (q_lt h0) gn))))
theorem outs_p1 {n a b : Int} {r0 : Bool} (h0 : a ≤ n) (er0 : r0 = (decide (n > b))) {base : Nat} : FV Tryz.prog 101 [(.p (intP n)), (.p (intP a)), (.p (intP b))] base (.p (blP r0)) [] := by
  subst er0
  exact FV.fin Tryz.func101 rfl (o := [.b false, .b false, .b false, .b false]) (l := [_, _, _, _]) (by kernel_rfl) (gc (q_ltF h0) (gc (q_ltF h0) (gc (q_ltF h0) (gc (q_ltF h0) gn))))
def shr_S0 (l : List Int) (p : Int) (i : Nat) (n : Nat) : St := ⟨fr 22 [(0, (.p (intsP l))), (1, (.p (intP p))), (4, (.p (intP 0))), (5, (.p (intP (n : Int)))), (6, (.p (intP (i : Int))))], []⟩
theorem shr_p0 {l : List Int} {p : Int} {i'0 n'1 : Nat} (hl0 : LoopOK Tryz.prog 0 zU2c8 (shr_S0 l p 0 0) (.exit 0) (shr_S0 l p i'0 n'1)) {base : Nat} : FV Tryz.prog 114 [(.p (intsP l)), (.p (intP p))] base (.p (intP (n'1 : Int))) [] := by
  exact FV.fin Tryz.func114 rfl (o := [.k 8 ⟨(rng [(2, 2), (7, 14)]), [], [], []⟩ (.exit 0) (shr_S0 l p i'0 n'1)]) (l := [_]) (by kernel_rfl) (gc hl0.code gn)
theorem shr_L0_p0 {l : List Int} {p : Int} {i n : Nat} {x100 : Int} {i' n' : Nat} (h0 : (i : Int) < (l.length : Int)) (h1 : l[i]? = some x100) (h2 : x100 = p) (h3 : inR (((n + 1) : Nat) : Int)) (h4 : inR (((i + 1) : Nat) : Int)) (ei' : i' = (i + 1)) (en' : n' = (n + 1)) : CodeOK Tryz.prog 0 zU2c8 (shr_S0 l p i n) .normal (shr_S0 l p i' n') := by
  subst ei' en'
  exact CodeOK.fin (g := ⟨(rng [(2, 2), (7, 14)]), [], [], []⟩) (o := [.b true, .x (intP x100), .b true]) (l := [_, _, _, (l.map intP)[(i * 1)]? = some (intP x100), 0 ≤ (i : Int) ∧ (i : Int) < (l.length : Int) ∧ (i * 1) < (l.map intP).length, _]) (by kernel_rfl) (gc h4 (gc h3 (gc (q_eq h2) (gc (at_map (i := i) h1) (gc (ix_map (i := (i : Int)) (Int.natCast_nonneg _) h1) (gc (q_lt h0) gn))))))
theorem shr_L0_p1 {l : List Int} {p : Int} {i n : Nat} {x100 : Int} {i' : Nat} (h0 : (i : Int) < (l.length : Int)) (h1 : l[i]? = some x100) (h2 : x100 ≠ p) (h3 : inR (((i + 1) : Nat) : Int)) (ei' : i' = (i + 1)) : CodeOK Tryz.prog 0 zU2c8 (shr_S0 l p i n) .normal (shr_S0 l p i' n) := by
  subst ei'
  exact CodeOK.fin (g := ⟨(rng [(2, 2), (7, 14)]), [], [], []⟩) (o := [.b true, .x (intP x100), .b false]) (l := [_, _, (l.map intP)[(i * 1)]? = some (intP x100), 0 ≤ (i : Int) ∧ (i : Int) < (l.length : Int) ∧ (i * 1) < (l.map intP).length, _]) (by kernel_rfl) (gc h3 (gc (q_ne h2) (gc (at_map (i := i) h1) (gc (ix_map (i := (i : Int)) (Int.natCast_nonneg _) h1) (gc (q_lt h0) gn)))))
theorem shr_L0_p2 {l : List Int} {p : Int} {i n : Nat} (h0 : (l.length : Int) ≤ (i : Int)) : CodeOK Tryz.prog 0 zU2c8 (shr_S0 l p i n) (.exit 0) (shr_S0 l p i n) := by
  exact CodeOK.fin (g := ⟨(rng [(2, 2), (7, 14)]), [], [], []⟩) (o := [.b false]) (l := [_]) (by kernel_rfl) (gc (q_ltF h0) gn)
def outB (n a b : Int) : Bool := decide (n < a) || decide (b < n)
theorem wi_out (n a b : Int) : KL.wiB n a b = !outB n a b := by
  unfold KL.wiB outB
  rw [Bool.eq_iff_iff]
  simp
theorem outs_ok (n a b : Int) {base : Nat} : FV Tryz.prog 101 [.p (intP n), .p (intP a), .p (intP b)] base (.p (blP (outB n a b))) [] := by
  by_cases h : n < a
  · have e : outB n a b = true := by simp [outB, h]
    rw [e]; exact outs_p0 h
  · have e : outB n a b = decide (b < n) := by simp [outB, h]
    rw [e]; exact outs_p1 (by omega) rfl
theorem shr_ok (l : List Int) (p : Int) (hl : l.length ≤ 1000) {base : Nat} : FV Tryz.prog 114 [.p (intsP l), .p (intP p)] base (.p (intP ((l.count p : Nat) : Int))) [] := by
  have h := LoopOK.count (P := Tryz.prog) (k := 0) (b := zU2c8) (e := .exit 0) (R := shr_S0 l p l.length (l.count p)) l.length (fun i => shr_S0 l p i ((l.take i).count p))
    (fun i hi => by
      have hb : (l.take i).count p ≤ 1000 := Nat.le_trans List.count_le_length (by simp; omega)
      have hc := KL.count_snoc l p i hi
      by_cases e : l[i] = p
      · rw [if_pos e] at hc
        exact shr_L0_p0 (by omega) (List.getElem?_eq_getElem hi) e (inR_nat (by omega)) (inR_nat (by omega)) rfl hc
      · rw [if_neg e] at hc
        exact by
          rw [show (l.take (i + 1)).count p = (l.take i).count p from hc]
          exact shr_L0_p1 (by omega) (List.getElem?_eq_getElem hi) e (inR_nat (by omega)) rfl)
    (by rw [List.take_length]; exact shr_L0_p2 (by omega)) (by simp)
  exact shr_p0 h
def chk_S0 (c : Cup) (i : Nat) : St := ⟨fr 174 [(1, (.ptr 0 0)), (3, (.p (intP (i : Int))))], [some (.box 37 [(.p (intP c.sk)), (.p (intP c.ra)), (.p (intP c.be)), (.p (intsP c.pts)), (.p (rowsP c.done))])]⟩
def chk_S1 (c : Cup) (i : Nat) : St := ⟨fr 174 [(1, (.ptr 0 0)), (4, (.p (intP (i : Int))))], [some (.box 37 [(.p (intP c.sk)), (.p (intP c.ra)), (.p (intP c.be)), (.p (intsP c.pts)), (.p (rowsP c.done))])]⟩
def chk_S2 (c : Cup) (i : Nat) : St := ⟨fr 174 [(1, (.ptr 0 0)), (5, (.p (intP (i : Int))))], [some (.box 37 [(.p (intP c.sk)), (.p (intP c.ra)), (.p (intP c.be)), (.p (intsP c.pts)), (.p (rowsP c.done))])]⟩
def chk_S4 (c : Cup) (i : Nat) : St := ⟨fr 174 [(1, (.ptr 0 0)), (7, (.p (intP (i : Int))))], [some (.box 37 [(.p (intP c.sk)), (.p (intP c.ra)), (.p (intP c.be)), (.p (intsP c.pts)), (.p (rowsP c.done))])]⟩
def chk_S5 (c : Cup) (i : Nat) : St := ⟨fr 174 [(1, (.ptr 0 0)), (8, (.p (intP (i : Int))))], [some (.box 37 [(.p (intP c.sk)), (.p (intP c.ra)), (.p (intP c.be)), (.p (intsP c.pts)), (.p (rowsP c.done))])]⟩
theorem chk_p0 {c : Cup} (h0 : (outB c.sk (1 : Int) (12 : Int)) = true) {base : Nat} : FV Tryz.prog 43 [(.p (cupP c))] base (.p (intP 3)) [] := by
  exact FV.fin Tryz.func43 rfl (o := [.c (.p (blP (outB c.sk (1 : Int) (12 : Int)))) [], .b true, .b true, .b true, .b true]) (l := [_, _, _, _, FC Tryz.prog 101 [(.p (intP c.sk)), (.p (intP 1)), (.p (intP 12))] [] 1 (.p (blP (outB c.sk (1 : Int) (12 : Int)))) []]) (by kernel_rfl) (gc h0 (gc h0 (gc h0 (gc h0 (gc (FV.fc (outs_ok c.sk (1 : Int) (12 : Int)) rfl) gn)))))
theorem chk_p1 {c : Cup} (h0 : (outB c.sk (1 : Int) (12 : Int)) = false) (h1 : (outB c.ra (1 : Int) (20 : Int)) = true) {base : Nat} : FV Tryz.prog 43 [(.p (cupP c))] base (.p (intP 3)) [] := by
  exact FV.fin Tryz.func43 rfl (o := [.c (.p (blP (outB c.sk (1 : Int) (12 : Int)))) [], .b false, .b false, .b false, .c (.p (blP (outB c.ra (1 : Int) (20 : Int)))) [], .b false, .b true, .b true, .b true, .b true, .b true, .b true]) (l := [_, _, _, _, _, _, _, FC Tryz.prog 101 [(.p (intP c.ra)), (.p (intP 1)), (.p (intP 20))] [] 1 (.p (blP (outB c.ra (1 : Int) (20 : Int)))) [], _, _, _, FC Tryz.prog 101 [(.p (intP c.sk)), (.p (intP 1)), (.p (intP 12))] [] 1 (.p (blP (outB c.sk (1 : Int) (12 : Int)))) []]) (by kernel_rfl) (gc h1 (gc h1 (gc h1 (gc h1 (gc h1 (gc h1 (gc h0 (gc (FV.fc (outs_ok c.ra (1 : Int) (20 : Int)) rfl) (gc h0 (gc h0 (gc h0 (gc (FV.fc (outs_ok c.sk (1 : Int) (12 : Int)) rfl) gn))))))))))))
theorem chk_p2 {c : Cup} (h0 : (outB c.sk (1 : Int) (12 : Int)) = false) (h1 : (outB c.ra (1 : Int) (20 : Int)) = false) (h2 : (outB c.be (1 : Int) c.ra) = true) {base : Nat} : FV Tryz.prog 43 [(.p (cupP c))] base (.p (intP 3)) [] := by
  exact FV.fin Tryz.func43 rfl (o := [.c (.p (blP (outB c.sk (1 : Int) (12 : Int)))) [], .b false, .b false, .b false, .c (.p (blP (outB c.ra (1 : Int) (20 : Int)))) [], .b false, .b false, .b false, .b false, .b false, .b false, .c (.p (blP (outB c.be (1 : Int) c.ra))) [], .b false, .b true]) (l := [_, _, FC Tryz.prog 101 [(.p (intP c.be)), (.p (intP 1)), (.p (intP c.ra))] [] 1 (.p (blP (outB c.be (1 : Int) c.ra))) [], _, _, _, _, _, _, FC Tryz.prog 101 [(.p (intP c.ra)), (.p (intP 1)), (.p (intP 20))] [] 1 (.p (blP (outB c.ra (1 : Int) (20 : Int)))) [], _, _, _, FC Tryz.prog 101 [(.p (intP c.sk)), (.p (intP 1)), (.p (intP 12))] [] 1 (.p (blP (outB c.sk (1 : Int) (12 : Int)))) []]) (by kernel_rfl) (gc h2 (gc h1 (gc (FV.fc (outs_ok c.be (1 : Int) c.ra) rfl) (gc h1 (gc h1 (gc h1 (gc h1 (gc h1 (gc h0 (gc (FV.fc (outs_ok c.ra (1 : Int) (20 : Int)) rfl) (gc h0 (gc h0 (gc h0 (gc (FV.fc (outs_ok c.sk (1 : Int) (12 : Int)) rfl) gn))))))))))))))
theorem chk_p3 {c : Cup} (h0 : (outB c.sk (1 : Int) (12 : Int)) = false) (h1 : (outB c.ra (1 : Int) (20 : Int)) = false) (h2 : (outB c.be (1 : Int) c.ra) = false) (h3 : (c.pts.length : Int) < (1 : Int)) {base : Nat} : FV Tryz.prog 43 [(.p (cupP c))] base (.p (intP 2)) [] := by
  exact FV.fin Tryz.func43 rfl (o := [.c (.p (blP (outB c.sk (1 : Int) (12 : Int)))) [], .b false, .b false, .b false, .c (.p (blP (outB c.ra (1 : Int) (20 : Int)))) [], .b false, .b false, .b false, .b false, .b false, .b false, .c (.p (blP (outB c.be (1 : Int) c.ra))) [], .b false, .b false, .b true, .b true, .b true, .b true, .b true]) (l := [_, _, _, _, _, _, _, FC Tryz.prog 101 [(.p (intP c.be)), (.p (intP 1)), (.p (intP c.ra))] [] 1 (.p (blP (outB c.be (1 : Int) c.ra))) [], _, _, _, _, _, _, FC Tryz.prog 101 [(.p (intP c.ra)), (.p (intP 1)), (.p (intP 20))] [] 1 (.p (blP (outB c.ra (1 : Int) (20 : Int)))) [], _, _, _, FC Tryz.prog 101 [(.p (intP c.sk)), (.p (intP 1)), (.p (intP 12))] [] 1 (.p (blP (outB c.sk (1 : Int) (12 : Int)))) []]) (by kernel_rfl) (gc (q_lt h3) (gc (q_lt h3) (gc (q_lt h3) (gc (q_lt h3) (gc (q_lt h3) (gc h2 (gc h1 (gc (FV.fc (outs_ok c.be (1 : Int) c.ra) rfl) (gc h1 (gc h1 (gc h1 (gc h1 (gc h1 (gc h0 (gc (FV.fc (outs_ok c.ra (1 : Int) (20 : Int)) rfl) (gc h0 (gc h0 (gc h0 (gc (FV.fc (outs_ok c.sk (1 : Int) (12 : Int)) rfl) gn)))))))))))))))))))
theorem chk_p4 {c : Cup} (h0 : (outB c.sk (1 : Int) (12 : Int)) = false) (h1 : (outB c.ra (1 : Int) (20 : Int)) = false) (h2 : (outB c.be (1 : Int) c.ra) = false) (h3 : (1 : Int) ≤ (c.pts.length : Int)) (h4 : (60 : Int) < (c.pts.length : Int)) {base : Nat} : FV Tryz.prog 43 [(.p (cupP c))] base (.p (intP 2)) [] := by
  exact FV.fin Tryz.func43 rfl (o := [.c (.p (blP (outB c.sk (1 : Int) (12 : Int)))) [], .b false, .b false, .b false, .c (.p (blP (outB c.ra (1 : Int) (20 : Int)))) [], .b false, .b false, .b false, .b false, .b false, .b false, .c (.p (blP (outB c.be (1 : Int) c.ra))) [], .b false, .b false, .b false, .b false, .b false, .b false, .b false, .b true, .b true, .b true, .b true, .b true, .b true, .b true]) (l := [_, _, _, _, _, _, _, _, _, _, _, _, _, _, FC Tryz.prog 101 [(.p (intP c.be)), (.p (intP 1)), (.p (intP c.ra))] [] 1 (.p (blP (outB c.be (1 : Int) c.ra))) [], _, _, _, _, _, _, FC Tryz.prog 101 [(.p (intP c.ra)), (.p (intP 1)), (.p (intP 20))] [] 1 (.p (blP (outB c.ra (1 : Int) (20 : Int)))) [], _, _, _, FC Tryz.prog 101 [(.p (intP c.sk)), (.p (intP 1)), (.p (intP 12))] [] 1 (.p (blP (outB c.sk (1 : Int) (12 : Int)))) []]) (by kernel_rfl) (gc (q_lt h4) (gc (q_lt h4) (gc (q_lt h4) (gc (q_lt h4) (gc (q_lt h4) (gc (q_lt h4) (gc (q_lt h4) (gc (q_ltF h3) (gc (q_ltF h3) (gc (q_ltF h3) (gc (q_ltF h3) (gc (q_ltF h3) (gc h2 (gc h1 (gc (FV.fc (outs_ok c.be (1 : Int) c.ra) rfl) (gc h1 (gc h1 (gc h1 (gc h1 (gc h1 (gc h0 (gc (FV.fc (outs_ok c.ra (1 : Int) (20 : Int)) rfl) (gc h0 (gc h0 (gc h0 (gc (FV.fc (outs_ok c.sk (1 : Int) (12 : Int)) rfl) gn))))))))))))))))))))))))))
theorem chk_p5 {c : Cup} (h0 : (outB c.sk (1 : Int) (12 : Int)) = false) (h1 : (outB c.ra (1 : Int) (20 : Int)) = false) (h2 : (outB c.be (1 : Int) c.ra) = false) (h3 : (1 : Int) ≤ (c.pts.length : Int)) (h4 : (c.pts.length : Int) ≤ (60 : Int)) (h5 : c.ra < (c.done.length : Int)) {base : Nat} : FV Tryz.prog 43 [(.p (cupP c))] base (.p (intP 2)) [] := by
  exact FV.fin Tryz.func43 rfl (o := [.c (.p (blP (outB c.sk (1 : Int) (12 : Int)))) [], .b false, .b false, .b false, .c (.p (blP (outB c.ra (1 : Int) (20 : Int)))) [], .b false, .b false, .b false, .b false, .b false, .b false, .c (.p (blP (outB c.be (1 : Int) c.ra))) [], .b false, .b false, .b false, .b false, .b false, .b false, .b false, .b false, .b false, .b false, .b false, .b false, .b false, .b false, .b true]) (l := [_, _, _, _, _, _, _, _, _, _, _, _, _, _, _, FC Tryz.prog 101 [(.p (intP c.be)), (.p (intP 1)), (.p (intP c.ra))] [] 1 (.p (blP (outB c.be (1 : Int) c.ra))) [], _, _, _, _, _, _, FC Tryz.prog 101 [(.p (intP c.ra)), (.p (intP 1)), (.p (intP 20))] [] 1 (.p (blP (outB c.ra (1 : Int) (20 : Int)))) [], _, _, _, FC Tryz.prog 101 [(.p (intP c.sk)), (.p (intP 1)), (.p (intP 12))] [] 1 (.p (blP (outB c.sk (1 : Int) (12 : Int)))) []]) (by kernel_rfl) (gc (q_lt h5) (gc (q_ltF h4) (gc (q_ltF h4) (gc (q_ltF h4) (gc (q_ltF h4) (gc (q_ltF h4) (gc (q_ltF h4) (gc (q_ltF h4) (gc (q_ltF h3) (gc (q_ltF h3) (gc (q_ltF h3) (gc (q_ltF h3) (gc (q_ltF h3) (gc h2 (gc h1 (gc (FV.fc (outs_ok c.be (1 : Int) c.ra) rfl) (gc h1 (gc h1 (gc h1 (gc h1 (gc h1 (gc h0 (gc (FV.fc (outs_ok c.ra (1 : Int) (20 : Int)) rfl) (gc h0 (gc h0 (gc h0 (gc (FV.fc (outs_ok c.sk (1 : Int) (12 : Int)) rfl) gn)))))))))))))))))))))))))))
theorem chk_p6 {c : Cup} {i'0 i'1 i'2 i'3 i'4 : Nat} (h0 : (outB c.sk (1 : Int) (12 : Int)) = false) (h1 : (outB c.ra (1 : Int) (20 : Int)) = false) (h2 : (outB c.be (1 : Int) c.ra) = false) (h3 : (1 : Int) ≤ (c.pts.length : Int)) (h4 : (c.pts.length : Int) ≤ (60 : Int)) (h5 : (c.done.length : Int) ≤ c.ra) (hl6 : LoopOK Tryz.prog 0 zU2c0 (chk_S0 c 0) (.exit 0) (chk_S0 c i'0)) (hl7 : LoopOK Tryz.prog 0 zU2c2 (chk_S1 c 0) (.exit 2) (chk_S1 c i'1)) (hl8 : LoopOK Tryz.prog 0 zU2c4 (chk_S2 c 0) (.exit 4) (chk_S2 c i'2)) (hl9 : LoopOK Tryz.prog 0 zU2c5 (chk_S4 c 1) (.exit 8) (chk_S4 c i'3)) (hl10 : LoopOK Tryz.prog 0 zU2c7 (chk_S5 c 0) (.exit 10) (chk_S5 c i'4)) {base : Nat} : FV Tryz.prog 43 [(.p (cupP c))] base (.p (intP 0)) [] := by
  exact FV.fin Tryz.func43 rfl (o := [.c (.p (blP (outB c.sk (1 : Int) (12 : Int)))) [], .b false, .b false, .b false, .c (.p (blP (outB c.ra (1 : Int) (20 : Int)))) [], .b false, .b false, .b false, .b false, .b false, .b false, .c (.p (blP (outB c.be (1 : Int) c.ra))) [], .b false, .b false, .b false, .b false, .b false, .b false, .b false, .b false, .b false, .b false, .b false, .b false, .b false, .b false, .b false, .k 4 ⟨(rng [(0, 1), (2, 1), (14, 49)]), [0], [], []⟩ (.exit 0) (chk_S0 c i'0), .k 4 ⟨(rng [(0, 1), (2, 2), (14, 62)]), [0], [], []⟩ (.exit 2) (chk_S1 c i'1), .k 4 ⟨(rng [(0, 1), (2, 3), (6, 1), (14, 84)]), [0], [], []⟩ (.exit 4) (chk_S2 c i'2), .k 4 ⟨(rng [(0, 1), (2, 5), (14, 103)]), [0], [], []⟩ (.exit 8) (chk_S4 c i'3), .k 4 ⟨(rng [(0, 1), (2, 6), (9, 165)]), [0], [], []⟩ (.exit 10) (chk_S5 c i'4)]) (l := [_, _, _, _, _, _, _, _, _, _, _, _, _, _, _, _, _, _, _, _, FC Tryz.prog 101 [(.p (intP c.be)), (.p (intP 1)), (.p (intP c.ra))] [] 1 (.p (blP (outB c.be (1 : Int) c.ra))) [], _, _, _, _, _, _, FC Tryz.prog 101 [(.p (intP c.ra)), (.p (intP 1)), (.p (intP 20))] [] 1 (.p (blP (outB c.ra (1 : Int) (20 : Int)))) [], _, _, _, FC Tryz.prog 101 [(.p (intP c.sk)), (.p (intP 1)), (.p (intP 12))] [] 1 (.p (blP (outB c.sk (1 : Int) (12 : Int)))) []]) (by kernel_rfl) (gc hl10.code (gc hl9.code (gc hl8.code (gc hl7.code (gc hl6.code (gc (q_ltF h5) (gc (q_ltF h4) (gc (q_ltF h4) (gc (q_ltF h4) (gc (q_ltF h4) (gc (q_ltF h4) (gc (q_ltF h4) (gc (q_ltF h4) (gc (q_ltF h3) (gc (q_ltF h3) (gc (q_ltF h3) (gc (q_ltF h3) (gc (q_ltF h3) (gc h2 (gc h1 (gc (FV.fc (outs_ok c.be (1 : Int) c.ra) rfl) (gc h1 (gc h1 (gc h1 (gc h1 (gc h1 (gc h0 (gc (FV.fc (outs_ok c.ra (1 : Int) (20 : Int)) rfl) (gc h0 (gc h0 (gc h0 (gc (FV.fc (outs_ok c.sk (1 : Int) (12 : Int)) rfl) gn))))))))))))))))))))))))))))))))
theorem chk_p7 {c : Cup} {i'0 i'1 i'2 i'3 i'4 : Nat} (h0 : (outB c.sk (1 : Int) (12 : Int)) = false) (h1 : (outB c.ra (1 : Int) (20 : Int)) = false) (h2 : (outB c.be (1 : Int) c.ra) = false) (h3 : (1 : Int) ≤ (c.pts.length : Int)) (h4 : (c.pts.length : Int) ≤ (60 : Int)) (h5 : (c.done.length : Int) ≤ c.ra) (hl6 : LoopOK Tryz.prog 0 zU2c0 (chk_S0 c 0) (.exit 0) (chk_S0 c i'0)) (hl7 : LoopOK Tryz.prog 0 zU2c2 (chk_S1 c 0) (.exit 2) (chk_S1 c i'1)) (hl8 : LoopOK Tryz.prog 0 zU2c4 (chk_S2 c 0) (.exit 4) (chk_S2 c i'2)) (hl9 : LoopOK Tryz.prog 0 zU2c5 (chk_S4 c 1) (.exit 8) (chk_S4 c i'3)) (hl10 : LoopOK Tryz.prog 0 zU2c7 (chk_S5 c 0) .ret (setS (chk_S5 c i'4) [(2, (.p (intP 7)))])) {base : Nat} : FV Tryz.prog 43 [(.p (cupP c))] base (.p (intP 7)) [] := by
  exact FV.fin Tryz.func43 rfl (o := [.c (.p (blP (outB c.sk (1 : Int) (12 : Int)))) [], .b false, .b false, .b false, .c (.p (blP (outB c.ra (1 : Int) (20 : Int)))) [], .b false, .b false, .b false, .b false, .b false, .b false, .c (.p (blP (outB c.be (1 : Int) c.ra))) [], .b false, .b false, .b false, .b false, .b false, .b false, .b false, .b false, .b false, .b false, .b false, .b false, .b false, .b false, .b false, .k 4 ⟨(rng [(0, 1), (2, 1), (14, 49)]), [0], [], []⟩ (.exit 0) (chk_S0 c i'0), .k 4 ⟨(rng [(0, 1), (2, 2), (14, 62)]), [0], [], []⟩ (.exit 2) (chk_S1 c i'1), .k 4 ⟨(rng [(0, 1), (2, 3), (6, 1), (14, 84)]), [0], [], []⟩ (.exit 4) (chk_S2 c i'2), .k 4 ⟨(rng [(0, 1), (2, 5), (14, 103)]), [0], [], []⟩ (.exit 8) (chk_S4 c i'3), .k 4 ⟨(rng [(0, 1), (2, 6), (9, 165)]), [0], [], []⟩ .ret (setS (chk_S5 c i'4) [(2, (.p (intP 7)))])]) (l := [_, _, _, _, _, _, _, _, _, _, _, _, _, _, _, _, _, _, _, _, FC Tryz.prog 101 [(.p (intP c.be)), (.p (intP 1)), (.p (intP c.ra))] [] 1 (.p (blP (outB c.be (1 : Int) c.ra))) [], _, _, _, _, _, _, FC Tryz.prog 101 [(.p (intP c.ra)), (.p (intP 1)), (.p (intP 20))] [] 1 (.p (blP (outB c.ra (1 : Int) (20 : Int)))) [], _, _, _, FC Tryz.prog 101 [(.p (intP c.sk)), (.p (intP 1)), (.p (intP 12))] [] 1 (.p (blP (outB c.sk (1 : Int) (12 : Int)))) []]) (by kernel_rfl) (gc hl10.code (gc hl9.code (gc hl8.code (gc hl7.code (gc hl6.code (gc (q_ltF h5) (gc (q_ltF h4) (gc (q_ltF h4) (gc (q_ltF h4) (gc (q_ltF h4) (gc (q_ltF h4) (gc (q_ltF h4) (gc (q_ltF h4) (gc (q_ltF h3) (gc (q_ltF h3) (gc (q_ltF h3) (gc (q_ltF h3) (gc (q_ltF h3) (gc h2 (gc h1 (gc (FV.fc (outs_ok c.be (1 : Int) c.ra) rfl) (gc h1 (gc h1 (gc h1 (gc h1 (gc h1 (gc h0 (gc (FV.fc (outs_ok c.ra (1 : Int) (20 : Int)) rfl) (gc h0 (gc h0 (gc h0 (gc (FV.fc (outs_ok c.sk (1 : Int) (12 : Int)) rfl) gn))))))))))))))))))))))))))))))))
theorem chk_p8 {c : Cup} {i'0 i'1 i'2 i'3 : Nat} (h0 : (outB c.sk (1 : Int) (12 : Int)) = false) (h1 : (outB c.ra (1 : Int) (20 : Int)) = false) (h2 : (outB c.be (1 : Int) c.ra) = false) (h3 : (1 : Int) ≤ (c.pts.length : Int)) (h4 : (c.pts.length : Int) ≤ (60 : Int)) (h5 : (c.done.length : Int) ≤ c.ra) (hl6 : LoopOK Tryz.prog 0 zU2c0 (chk_S0 c 0) (.exit 0) (chk_S0 c i'0)) (hl7 : LoopOK Tryz.prog 0 zU2c2 (chk_S1 c 0) (.exit 2) (chk_S1 c i'1)) (hl8 : LoopOK Tryz.prog 0 zU2c4 (chk_S2 c 0) (.exit 4) (chk_S2 c i'2)) (hl9 : LoopOK Tryz.prog 0 zU2c5 (chk_S4 c 1) .ret (setS (chk_S4 c i'3) [(2, (.p (intP 4)))])) {base : Nat} : FV Tryz.prog 43 [(.p (cupP c))] base (.p (intP 4)) [] := by
  exact FV.fin Tryz.func43 rfl (o := [.c (.p (blP (outB c.sk (1 : Int) (12 : Int)))) [], .b false, .b false, .b false, .c (.p (blP (outB c.ra (1 : Int) (20 : Int)))) [], .b false, .b false, .b false, .b false, .b false, .b false, .c (.p (blP (outB c.be (1 : Int) c.ra))) [], .b false, .b false, .b false, .b false, .b false, .b false, .b false, .b false, .b false, .b false, .b false, .b false, .b false, .b false, .b false, .k 4 ⟨(rng [(0, 1), (2, 1), (14, 49)]), [0], [], []⟩ (.exit 0) (chk_S0 c i'0), .k 4 ⟨(rng [(0, 1), (2, 2), (14, 62)]), [0], [], []⟩ (.exit 2) (chk_S1 c i'1), .k 4 ⟨(rng [(0, 1), (2, 3), (6, 1), (14, 84)]), [0], [], []⟩ (.exit 4) (chk_S2 c i'2), .k 4 ⟨(rng [(0, 1), (2, 5), (14, 103)]), [0], [], []⟩ .ret (setS (chk_S4 c i'3) [(2, (.p (intP 4)))])]) (l := [_, _, _, _, _, _, _, _, _, _, _, _, _, _, _, _, _, _, _, FC Tryz.prog 101 [(.p (intP c.be)), (.p (intP 1)), (.p (intP c.ra))] [] 1 (.p (blP (outB c.be (1 : Int) c.ra))) [], _, _, _, _, _, _, FC Tryz.prog 101 [(.p (intP c.ra)), (.p (intP 1)), (.p (intP 20))] [] 1 (.p (blP (outB c.ra (1 : Int) (20 : Int)))) [], _, _, _, FC Tryz.prog 101 [(.p (intP c.sk)), (.p (intP 1)), (.p (intP 12))] [] 1 (.p (blP (outB c.sk (1 : Int) (12 : Int)))) []]) (by kernel_rfl) (gc hl9.code (gc hl8.code (gc hl7.code (gc hl6.code (gc (q_ltF h5) (gc (q_ltF h4) (gc (q_ltF h4) (gc (q_ltF h4) (gc (q_ltF h4) (gc (q_ltF h4) (gc (q_ltF h4) (gc (q_ltF h4) (gc (q_ltF h3) (gc (q_ltF h3) (gc (q_ltF h3) (gc (q_ltF h3) (gc (q_ltF h3) (gc h2 (gc h1 (gc (FV.fc (outs_ok c.be (1 : Int) c.ra) rfl) (gc h1 (gc h1 (gc h1 (gc h1 (gc h1 (gc h0 (gc (FV.fc (outs_ok c.ra (1 : Int) (20 : Int)) rfl) (gc h0 (gc h0 (gc h0 (gc (FV.fc (outs_ok c.sk (1 : Int) (12 : Int)) rfl) gn)))))))))))))))))))))))))))))))
theorem chk_p9 {c : Cup} {i'0 i'1 i'2 : Nat} (h0 : (outB c.sk (1 : Int) (12 : Int)) = false) (h1 : (outB c.ra (1 : Int) (20 : Int)) = false) (h2 : (outB c.be (1 : Int) c.ra) = false) (h3 : (1 : Int) ≤ (c.pts.length : Int)) (h4 : (c.pts.length : Int) ≤ (60 : Int)) (h5 : (c.done.length : Int) ≤ c.ra) (hl6 : LoopOK Tryz.prog 0 zU2c0 (chk_S0 c 0) (.exit 0) (chk_S0 c i'0)) (hl7 : LoopOK Tryz.prog 0 zU2c2 (chk_S1 c 0) (.exit 2) (chk_S1 c i'1)) (hl8 : LoopOK Tryz.prog 0 zU2c4 (chk_S2 c 0) .ret (setS (chk_S2 c i'2) [(2, (.p (intP 3)))])) {base : Nat} : FV Tryz.prog 43 [(.p (cupP c))] base (.p (intP 3)) [] := by
  exact FV.fin Tryz.func43 rfl (o := [.c (.p (blP (outB c.sk (1 : Int) (12 : Int)))) [], .b false, .b false, .b false, .c (.p (blP (outB c.ra (1 : Int) (20 : Int)))) [], .b false, .b false, .b false, .b false, .b false, .b false, .c (.p (blP (outB c.be (1 : Int) c.ra))) [], .b false, .b false, .b false, .b false, .b false, .b false, .b false, .b false, .b false, .b false, .b false, .b false, .b false, .b false, .b false, .k 4 ⟨(rng [(0, 1), (2, 1), (14, 49)]), [0], [], []⟩ (.exit 0) (chk_S0 c i'0), .k 4 ⟨(rng [(0, 1), (2, 2), (14, 62)]), [0], [], []⟩ (.exit 2) (chk_S1 c i'1), .k 4 ⟨(rng [(0, 1), (2, 3), (6, 1), (14, 84)]), [0], [], []⟩ .ret (setS (chk_S2 c i'2) [(2, (.p (intP 3)))])]) (l := [_, _, _, _, _, _, _, _, _, _, _, _, _, _, _, _, _, _, FC Tryz.prog 101 [(.p (intP c.be)), (.p (intP 1)), (.p (intP c.ra))] [] 1 (.p (blP (outB c.be (1 : Int) c.ra))) [], _, _, _, _, _, _, FC Tryz.prog 101 [(.p (intP c.ra)), (.p (intP 1)), (.p (intP 20))] [] 1 (.p (blP (outB c.ra (1 : Int) (20 : Int)))) [], _, _, _, FC Tryz.prog 101 [(.p (intP c.sk)), (.p (intP 1)), (.p (intP 12))] [] 1 (.p (blP (outB c.sk (1 : Int) (12 : Int)))) []]) (by kernel_rfl) (gc hl8.code (gc hl7.code (gc hl6.code (gc (q_ltF h5) (gc (q_ltF h4) (gc (q_ltF h4) (gc (q_ltF h4) (gc (q_ltF h4) (gc (q_ltF h4) (gc (q_ltF h4) (gc (q_ltF h4) (gc (q_ltF h3) (gc (q_ltF h3) (gc (q_ltF h3) (gc (q_ltF h3) (gc (q_ltF h3) (gc h2 (gc h1 (gc (FV.fc (outs_ok c.be (1 : Int) c.ra) rfl) (gc h1 (gc h1 (gc h1 (gc h1 (gc h1 (gc h0 (gc (FV.fc (outs_ok c.ra (1 : Int) (20 : Int)) rfl) (gc h0 (gc h0 (gc h0 (gc (FV.fc (outs_ok c.sk (1 : Int) (12 : Int)) rfl) gn))))))))))))))))))))))))))))))
theorem chk_p10 {c : Cup} {i'0 i'1 : Nat} (h0 : (outB c.sk (1 : Int) (12 : Int)) = false) (h1 : (outB c.ra (1 : Int) (20 : Int)) = false) (h2 : (outB c.be (1 : Int) c.ra) = false) (h3 : (1 : Int) ≤ (c.pts.length : Int)) (h4 : (c.pts.length : Int) ≤ (60 : Int)) (h5 : (c.done.length : Int) ≤ c.ra) (hl6 : LoopOK Tryz.prog 0 zU2c0 (chk_S0 c 0) (.exit 0) (chk_S0 c i'0)) (hl7 : LoopOK Tryz.prog 0 zU2c2 (chk_S1 c 0) .ret (setS (chk_S1 c i'1) [(2, (.p (intP 3)))])) {base : Nat} : FV Tryz.prog 43 [(.p (cupP c))] base (.p (intP 3)) [] := by
  exact FV.fin Tryz.func43 rfl (o := [.c (.p (blP (outB c.sk (1 : Int) (12 : Int)))) [], .b false, .b false, .b false, .c (.p (blP (outB c.ra (1 : Int) (20 : Int)))) [], .b false, .b false, .b false, .b false, .b false, .b false, .c (.p (blP (outB c.be (1 : Int) c.ra))) [], .b false, .b false, .b false, .b false, .b false, .b false, .b false, .b false, .b false, .b false, .b false, .b false, .b false, .b false, .b false, .k 4 ⟨(rng [(0, 1), (2, 1), (14, 49)]), [0], [], []⟩ (.exit 0) (chk_S0 c i'0), .k 4 ⟨(rng [(0, 1), (2, 2), (14, 62)]), [0], [], []⟩ .ret (setS (chk_S1 c i'1) [(2, (.p (intP 3)))])]) (l := [_, _, _, _, _, _, _, _, _, _, _, _, _, _, _, _, _, FC Tryz.prog 101 [(.p (intP c.be)), (.p (intP 1)), (.p (intP c.ra))] [] 1 (.p (blP (outB c.be (1 : Int) c.ra))) [], _, _, _, _, _, _, FC Tryz.prog 101 [(.p (intP c.ra)), (.p (intP 1)), (.p (intP 20))] [] 1 (.p (blP (outB c.ra (1 : Int) (20 : Int)))) [], _, _, _, FC Tryz.prog 101 [(.p (intP c.sk)), (.p (intP 1)), (.p (intP 12))] [] 1 (.p (blP (outB c.sk (1 : Int) (12 : Int)))) []]) (by kernel_rfl) (gc hl7.code (gc hl6.code (gc (q_ltF h5) (gc (q_ltF h4) (gc (q_ltF h4) (gc (q_ltF h4) (gc (q_ltF h4) (gc (q_ltF h4) (gc (q_ltF h4) (gc (q_ltF h4) (gc (q_ltF h3) (gc (q_ltF h3) (gc (q_ltF h3) (gc (q_ltF h3) (gc (q_ltF h3) (gc h2 (gc h1 (gc (FV.fc (outs_ok c.be (1 : Int) c.ra) rfl) (gc h1 (gc h1 (gc h1 (gc h1 (gc h1 (gc h0 (gc (FV.fc (outs_ok c.ra (1 : Int) (20 : Int)) rfl) (gc h0 (gc h0 (gc h0 (gc (FV.fc (outs_ok c.sk (1 : Int) (12 : Int)) rfl) gn)))))))))))))))))))))))))))))
theorem chk_p11 {c : Cup} {i'0 : Nat} (h0 : (outB c.sk (1 : Int) (12 : Int)) = false) (h1 : (outB c.ra (1 : Int) (20 : Int)) = false) (h2 : (outB c.be (1 : Int) c.ra) = false) (h3 : (1 : Int) ≤ (c.pts.length : Int)) (h4 : (c.pts.length : Int) ≤ (60 : Int)) (h5 : (c.done.length : Int) ≤ c.ra) (hl6 : LoopOK Tryz.prog 0 zU2c0 (chk_S0 c 0) .ret (setS (chk_S0 c i'0) [(2, (.p (intP 2)))])) {base : Nat} : FV Tryz.prog 43 [(.p (cupP c))] base (.p (intP 2)) [] := by
  exact FV.fin Tryz.func43 rfl (o := [.c (.p (blP (outB c.sk (1 : Int) (12 : Int)))) [], .b false, .b false, .b false, .c (.p (blP (outB c.ra (1 : Int) (20 : Int)))) [], .b false, .b false, .b false, .b false, .b false, .b false, .c (.p (blP (outB c.be (1 : Int) c.ra))) [], .b false, .b false, .b false, .b false, .b false, .b false, .b false, .b false, .b false, .b false, .b false, .b false, .b false, .b false, .b false, .k 4 ⟨(rng [(0, 1), (2, 1), (14, 49)]), [0], [], []⟩ .ret (setS (chk_S0 c i'0) [(2, (.p (intP 2)))])]) (l := [_, _, _, _, _, _, _, _, _, _, _, _, _, _, _, _, FC Tryz.prog 101 [(.p (intP c.be)), (.p (intP 1)), (.p (intP c.ra))] [] 1 (.p (blP (outB c.be (1 : Int) c.ra))) [], _, _, _, _, _, _, FC Tryz.prog 101 [(.p (intP c.ra)), (.p (intP 1)), (.p (intP 20))] [] 1 (.p (blP (outB c.ra (1 : Int) (20 : Int)))) [], _, _, _, FC Tryz.prog 101 [(.p (intP c.sk)), (.p (intP 1)), (.p (intP 12))] [] 1 (.p (blP (outB c.sk (1 : Int) (12 : Int)))) []]) (by kernel_rfl) (gc hl6.code (gc (q_ltF h5) (gc (q_ltF h4) (gc (q_ltF h4) (gc (q_ltF h4) (gc (q_ltF h4) (gc (q_ltF h4) (gc (q_ltF h4) (gc (q_ltF h4) (gc (q_ltF h3) (gc (q_ltF h3) (gc (q_ltF h3) (gc (q_ltF h3) (gc (q_ltF h3) (gc h2 (gc h1 (gc (FV.fc (outs_ok c.be (1 : Int) c.ra) rfl) (gc h1 (gc h1 (gc h1 (gc h1 (gc h1 (gc h0 (gc (FV.fc (outs_ok c.ra (1 : Int) (20 : Int)) rfl) (gc h0 (gc h0 (gc h0 (gc (FV.fc (outs_ok c.sk (1 : Int) (12 : Int)) rfl) gn))))))))))))))))))))))))))))
theorem chk_L0_p0 {c : Cup} {i : Nat} {x100 : List Int} (h0 : (i : Int) < (c.done.length : Int)) (h1 : c.done[i]? = some x100) (h2 : (x100.length : Int) ≠ c.sk) : CodeOK Tryz.prog 0 zU2c0 (chk_S0 c i) .ret (setS (chk_S0 c i) [(2, (.p (intP 2)))]) := by
  exact CodeOK.fin (g := ⟨(rng [(0, 1), (14, 49)]), [0], [], []⟩) (o := [.b true, .x (intsP x100), .b true]) (l := [_, (c.done.map intsP)[(i * 1)]? = some (intsP x100), 0 ≤ (i : Int) ∧ (i : Int) < (c.done.length : Int) ∧ (i * 1) < (c.done.map intsP).length, _]) (by kernel_rfl) (gc (q_neT h2) (gc (at_map (i := i) h1) (gc (ix_map (i := (i : Int)) (Int.natCast_nonneg _) h1) (gc (q_lt h0) gn))))
theorem chk_L0_p1 {c : Cup} {i : Nat} {x100 : List Int} {i' : Nat} (h0 : (i : Int) < (c.done.length : Int)) (h1 : c.done[i]? = some x100) (h2 : (x100.length : Int) = c.sk) (h3 : inR (((i + 1) : Nat) : Int)) (ei' : i' = (i + 1)) : CodeOK Tryz.prog 0 zU2c0 (chk_S0 c i) .normal (chk_S0 c i') := by
  subst ei'
  exact CodeOK.fin (g := ⟨(rng [(0, 1), (2, 1), (14, 49)]), [0], [], []⟩) (o := [.b true, .x (intsP x100), .b false]) (l := [_, _, (c.done.map intsP)[(i * 1)]? = some (intsP x100), 0 ≤ (i : Int) ∧ (i : Int) < (c.done.length : Int) ∧ (i * 1) < (c.done.map intsP).length, _]) (by kernel_rfl) (gc h3 (gc (q_neF h2) (gc (at_map (i := i) h1) (gc (ix_map (i := (i : Int)) (Int.natCast_nonneg _) h1) (gc (q_lt h0) gn)))))
theorem chk_L0_p2 {c : Cup} {i : Nat} (h0 : (c.done.length : Int) ≤ (i : Int)) : CodeOK Tryz.prog 0 zU2c0 (chk_S0 c i) (.exit 0) (chk_S0 c i) := by
  exact CodeOK.fin (g := ⟨(rng [(0, 1), (2, 1), (14, 49)]), [0], [], []⟩) (o := [.b false]) (l := [_]) (by kernel_rfl) (gc (q_ltF h0) gn)
theorem chk_L1_p0 {c : Cup} {i : Nat} {x200 : Int} (h0 : (i : Int) < (c.pts.length : Int)) (h1 : c.pts[i]? = some x200) (h2 : (outB x200 (0 : Int) (1000 : Int)) = true) : CodeOK Tryz.prog 0 zU2c2 (chk_S1 c i) .ret (setS (chk_S1 c i) [(2, (.p (intP 3)))]) := by
  exact CodeOK.fin (g := ⟨(rng [(0, 1), (3, 1), (14, 62)]), [0], [], []⟩) (o := [.b true, .x (intP x200), .c (.p (blP (outB x200 (0 : Int) (1000 : Int)))) [], .b true]) (l := [_, FC Tryz.prog 101 [(.p (intP x200)), (.p (intP 0)), (.p (intP 1000))] [] 1 (.p (blP (outB x200 (0 : Int) (1000 : Int)))) [], (c.pts.map intP)[(i * 1)]? = some (intP x200), 0 ≤ (i : Int) ∧ (i : Int) < (c.pts.length : Int) ∧ (i * 1) < (c.pts.map intP).length, _]) (by kernel_rfl) (gc h2 (gc (FV.fc (outs_ok x200 (0 : Int) (1000 : Int)) rfl) (gc (at_map (i := i) h1) (gc (ix_map (i := (i : Int)) (Int.natCast_nonneg _) h1) (gc (q_lt h0) gn)))))
theorem chk_L1_p1 {c : Cup} {i : Nat} {x200 : Int} {i' : Nat} (h0 : (i : Int) < (c.pts.length : Int)) (h1 : c.pts[i]? = some x200) (h2 : (outB x200 (0 : Int) (1000 : Int)) = false) (h3 : inR (((i + 1) : Nat) : Int)) (ei' : i' = (i + 1)) : CodeOK Tryz.prog 0 zU2c2 (chk_S1 c i) .normal (chk_S1 c i') := by
  subst ei'
  exact CodeOK.fin (g := ⟨(rng [(0, 1), (2, 2), (14, 62)]), [0], [], []⟩) (o := [.b true, .x (intP x200), .c (.p (blP (outB x200 (0 : Int) (1000 : Int)))) [], .b false]) (l := [_, _, FC Tryz.prog 101 [(.p (intP x200)), (.p (intP 0)), (.p (intP 1000))] [] 1 (.p (blP (outB x200 (0 : Int) (1000 : Int)))) [], (c.pts.map intP)[(i * 1)]? = some (intP x200), 0 ≤ (i : Int) ∧ (i : Int) < (c.pts.length : Int) ∧ (i * 1) < (c.pts.map intP).length, _]) (by kernel_rfl) (gc h3 (gc h2 (gc (FV.fc (outs_ok x200 (0 : Int) (1000 : Int)) rfl) (gc (at_map (i := i) h1) (gc (ix_map (i := (i : Int)) (Int.natCast_nonneg _) h1) (gc (q_lt h0) gn))))))
theorem chk_L1_p2 {c : Cup} {i : Nat} (h0 : (c.pts.length : Int) ≤ (i : Int)) : CodeOK Tryz.prog 0 zU2c2 (chk_S1 c i) (.exit 2) (chk_S1 c i) := by
  exact CodeOK.fin (g := ⟨(rng [(0, 1), (2, 2), (14, 62)]), [0], [], []⟩) (o := [.b false]) (l := [_]) (by kernel_rfl) (gc (q_ltF h0) gn)
def chk_S3 (c : Cup) (i : Nat) (s : Nat) : St := ⟨fr 174 [(1, (.ptr 0 0)), (5, (.p (intP (i : Int)))), (6, (.p (intP (s : Int)))), (76, (.p (intP (i : Int)))), (77, (.ptr 0 4)), (78, (.p (rowsP c.done))), (79, (.p (intP (c.done.length : Int)))), (80, (.p (blP (decide ((i : Int) < (c.done.length : Int))))))], [some (.box 37 [(.p (intP c.sk)), (.p (intP c.ra)), (.p (intP c.be)), (.p (intsP c.pts)), (.p (rowsP c.done))])]⟩
theorem chk_L2_p0 {c : Cup} {i s'300 i' : Nat} (h0 : (i : Int) < (c.done.length : Int)) (hl1 : LoopOK Tryz.prog 0 zU2c6 (chk_S3 c i 0) (.exit 6) (chk_S3 c i s'300)) (h2 : inR (((i + 1) : Nat) : Int)) (ei' : i' = (i + 1)) : CodeOK Tryz.prog 0 zU2c4 (chk_S2 c i) .normal (chk_S2 c i') := by
  subst ei'
  exact CodeOK.fin (g := ⟨(rng [(0, 1), (2, 3), (6, 1), (14, 84)]), [0], [], []⟩) (o := [.b true, .k 5 ⟨(rng [(0, 1), (2, 3), (14, 62), (83, 15)]), [0], [], []⟩ (.exit 6) (chk_S3 c i s'300)]) (l := [_, _, _]) (by kernel_rfl) (gc h2 (gc hl1.code (gc (q_lt h0) gn)))
theorem chk_L2_p1 {c : Cup} {i s'300 : Nat} (h0 : (i : Int) < (c.done.length : Int)) (hl1 : LoopOK Tryz.prog 0 zU2c6 (chk_S3 c i 0) .ret (setS (chk_S3 c i s'300) [(2, (.p (intP 3)))])) : CodeOK Tryz.prog 0 zU2c4 (chk_S2 c i) .ret (setS (chk_S2 c i) [(2, (.p (intP 3)))]) := by
  exact CodeOK.fin (g := ⟨(rng [(0, 1), (3, 2), (6, 1), (14, 84)]), [0], [], []⟩) (o := [.b true, .k 5 ⟨(rng [(0, 1), (2, 3), (14, 62), (83, 15)]), [0], [], []⟩ .ret (setS (chk_S3 c i s'300) [(2, (.p (intP 3)))])]) (l := [_, _]) (by kernel_rfl) (gc hl1.code (gc (q_lt h0) gn))
theorem chk_L2_p2 {c : Cup} {i : Nat} (h0 : (c.done.length : Int) ≤ (i : Int)) : CodeOK Tryz.prog 0 zU2c4 (chk_S2 c i) (.exit 4) (chk_S2 c i) := by
  exact CodeOK.fin (g := ⟨(rng [(0, 1), (2, 3), (6, 1), (14, 84)]), [0], [], []⟩) (o := [.b false]) (l := [_]) (by kernel_rfl) (gc (q_ltF h0) gn)
theorem chk_L4_p0 {c : Cup} {i : Nat} {x500 x501 : Int} (h0 : (i : Int) < (c.pts.length : Int)) (h1 : c.pts[i]? = some x500) (h2 : inR ((i : Int) - (1 : Int))) (h3 : c.pts[((i : Int) - (1 : Int)).toNat]? = some x501) (h4 : 0 ≤ ((i : Int) - (1 : Int))) (h5 : x501 < x500) : CodeOK Tryz.prog 0 zU2c5 (chk_S4 c i) .ret (setS (chk_S4 c i) [(2, (.p (intP 4)))]) := by
  exact CodeOK.fin (g := ⟨(rng [(0, 1), (3, 4), (14, 103)]), [0], [], []⟩) (o := [.b true, .x (intP x500), .x (intP x501), .b true]) (l := [_, (c.pts.map intP)[(((i : Int) - (1 : Int)).toNat * 1)]? = some (intP x501), 0 ≤ ((i : Int) - (1 : Int)) ∧ ((i : Int) - (1 : Int)) < (c.pts.length : Int) ∧ (((i : Int) - (1 : Int)).toNat * 1) < (c.pts.map intP).length, _, (c.pts.map intP)[(i * 1)]? = some (intP x500), 0 ≤ (i : Int) ∧ (i : Int) < (c.pts.length : Int) ∧ (i * 1) < (c.pts.map intP).length, _]) (by kernel_rfl) (gc (q_lt h5) (gc (at_map (i := ((i : Int) - (1 : Int)).toNat) h3) (gc (ix_map (i := ((i : Int) - (1 : Int))) h4 h3) (gc h2 (gc (at_map (i := i) h1) (gc (ix_map (i := (i : Int)) (Int.natCast_nonneg _) h1) (gc (q_lt h0) gn)))))))
theorem chk_L4_p1 {c : Cup} {i : Nat} {x500 x501 : Int} {i' : Nat} (h0 : (i : Int) < (c.pts.length : Int)) (h1 : c.pts[i]? = some x500) (h2 : inR ((i : Int) - (1 : Int))) (h3 : c.pts[((i : Int) - (1 : Int)).toNat]? = some x501) (h4 : 0 ≤ ((i : Int) - (1 : Int))) (h5 : x500 ≤ x501) (h6 : inR (((i + 1) : Nat) : Int)) (ei' : i' = (i + 1)) : CodeOK Tryz.prog 0 zU2c5 (chk_S4 c i) .normal (chk_S4 c i') := by
  subst ei'
  exact CodeOK.fin (g := ⟨(rng [(0, 1), (2, 5), (14, 103)]), [0], [], []⟩) (o := [.b true, .x (intP x500), .x (intP x501), .b false]) (l := [_, _, (c.pts.map intP)[(((i : Int) - (1 : Int)).toNat * 1)]? = some (intP x501), 0 ≤ ((i : Int) - (1 : Int)) ∧ ((i : Int) - (1 : Int)) < (c.pts.length : Int) ∧ (((i : Int) - (1 : Int)).toNat * 1) < (c.pts.map intP).length, _, (c.pts.map intP)[(i * 1)]? = some (intP x500), 0 ≤ (i : Int) ∧ (i : Int) < (c.pts.length : Int) ∧ (i * 1) < (c.pts.map intP).length, _]) (by kernel_rfl) (gc h6 (gc (q_ltF h5) (gc (at_map (i := ((i : Int) - (1 : Int)).toNat) h3) (gc (ix_map (i := ((i : Int) - (1 : Int))) h4 h3) (gc h2 (gc (at_map (i := i) h1) (gc (ix_map (i := (i : Int)) (Int.natCast_nonneg _) h1) (gc (q_lt h0) gn))))))))
theorem chk_L4_p2 {c : Cup} {i : Nat} (h0 : (c.pts.length : Int) ≤ (i : Int)) : CodeOK Tryz.prog 0 zU2c5 (chk_S4 c i) (.exit 8) (chk_S4 c i) := by
  exact CodeOK.fin (g := ⟨(rng [(0, 1), (2, 5), (14, 103)]), [0], [], []⟩) (o := [.b false]) (l := [_]) (by kernel_rfl) (gc (q_ltF h0) gn)
def chk_S6 (c : Cup) (i : Nat) (s : Nat) : St := ⟨fr 174 [(1, (.ptr 0 0)), (8, (.p (intP (i : Int)))), (9, (.p (intP (s : Int)))), (117, (.p (intP (i : Int)))), (118, (.ptr 0 4)), (119, (.p (rowsP c.done))), (120, (.p (intP (c.done.length : Int)))), (121, (.p (blP (decide ((i : Int) < (c.done.length : Int))))))], [some (.box 37 [(.p (intP c.sk)), (.p (intP c.ra)), (.p (intP c.be)), (.p (intsP c.pts)), (.p (rowsP c.done))])]⟩
theorem chk_L5_p0 {c : Cup} {i s'600 i' : Nat} (h0 : (i : Int) < (c.done.length : Int)) (hl1 : LoopOK Tryz.prog 0 zU2c1 (chk_S6 c i 0) (.exit 12) (chk_S6 c i s'600)) (h2 : inR (((i + 1) : Nat) : Int)) (ei' : i' = (i + 1)) : CodeOK Tryz.prog 0 zU2c7 (chk_S5 c i) .normal (chk_S5 c i') := by
  subst ei'
  exact CodeOK.fin (g := ⟨(rng [(0, 1), (2, 6), (9, 165)]), [0], [], []⟩) (o := [.b true, .k 5 ⟨(rng [(0, 1), (2, 6), (10, 107), (124, 50)]), [0], [], []⟩ (.exit 12) (chk_S6 c i s'600)]) (l := [_, _, _]) (by kernel_rfl) (gc h2 (gc hl1.code (gc (q_lt h0) gn)))
theorem chk_L5_p1 {c : Cup} {i s'600 : Nat} (h0 : (i : Int) < (c.done.length : Int)) (hl1 : LoopOK Tryz.prog 0 zU2c1 (chk_S6 c i 0) .ret (setS (chk_S6 c i s'600) [(2, (.p (intP 7)))])) : CodeOK Tryz.prog 0 zU2c7 (chk_S5 c i) .ret (setS (chk_S5 c i) [(2, (.p (intP 7)))]) := by
  exact CodeOK.fin (g := ⟨(rng [(0, 1), (3, 5), (9, 165)]), [0], [], []⟩) (o := [.b true, .k 5 ⟨(rng [(0, 1), (2, 6), (10, 107), (124, 50)]), [0], [], []⟩ .ret (setS (chk_S6 c i s'600) [(2, (.p (intP 7)))])]) (l := [_, _]) (by kernel_rfl) (gc hl1.code (gc (q_lt h0) gn))
theorem chk_L5_p2 {c : Cup} {i : Nat} (h0 : (c.done.length : Int) ≤ (i : Int)) : CodeOK Tryz.prog 0 zU2c7 (chk_S5 c i) (.exit 10) (chk_S5 c i) := by
  exact CodeOK.fin (g := ⟨(rng [(0, 1), (2, 6), (9, 165)]), [0], [], []⟩) (o := [.b false]) (l := [_]) (by kernel_rfl) (gc (q_ltF h0) gn)
theorem chk_L3_p0 {c : Cup} {i s : Nat} {x400 : List Int} {x401 : Int} (h0 : (s : Int) < c.sk) (h1 : c.done[i]? = some x400) (h2 : x400[s]? = some x401) (h3 : (outB x401 (0 : Int) (60 : Int)) = true) : CodeOK Tryz.prog 0 zU2c6 (chk_S3 c i s) .ret (setS (chk_S3 c i s) [(2, (.p (intP 3)))]) := by
  exact CodeOK.fin (g := ⟨(rng [(0, 1), (3, 2), (14, 62), (83, 15)]), [0], [], []⟩) (o := [.b true, .x (intsP x400), .x (intP x401), .c (.p (blP (outB x401 (0 : Int) (60 : Int)))) [], .b true]) (l := [_, FC Tryz.prog 101 [(.p (intP x401)), (.p (intP 0)), (.p (intP 60))] [] 1 (.p (blP (outB x401 (0 : Int) (60 : Int)))) [], (x400.map intP)[(s * 1)]? = some (intP x401), 0 ≤ (s : Int) ∧ (s : Int) < (x400.length : Int) ∧ (s * 1) < (x400.map intP).length, (c.done.map intsP)[(i * 1)]? = some (intsP x400), 0 ≤ (i : Int) ∧ (i : Int) < (c.done.length : Int) ∧ (i * 1) < (c.done.map intsP).length, _]) (by kernel_rfl) (gc h3 (gc (FV.fc (outs_ok x401 (0 : Int) (60 : Int)) rfl) (gc (at_map (i := s) h2) (gc (ix_map (i := (s : Int)) (Int.natCast_nonneg _) h2) (gc (at_map (i := i) h1) (gc (ix_map (i := (i : Int)) (Int.natCast_nonneg _) h1) (gc (q_lt h0) gn)))))))
theorem chk_L3_p1 {c : Cup} {i s : Nat} {x400 : List Int} {x401 : Int} {s' : Nat} (h0 : (s : Int) < c.sk) (h1 : c.done[i]? = some x400) (h2 : x400[s]? = some x401) (h3 : (outB x401 (0 : Int) (60 : Int)) = false) (h4 : inR (((s + 1) : Nat) : Int)) (es' : s' = (s + 1)) : CodeOK Tryz.prog 0 zU2c6 (chk_S3 c i s) .normal (chk_S3 c i s') := by
  subst es'
  exact CodeOK.fin (g := ⟨(rng [(0, 1), (2, 3), (14, 62), (83, 15)]), [0], [], []⟩) (o := [.b true, .x (intsP x400), .x (intP x401), .c (.p (blP (outB x401 (0 : Int) (60 : Int)))) [], .b false]) (l := [_, _, FC Tryz.prog 101 [(.p (intP x401)), (.p (intP 0)), (.p (intP 60))] [] 1 (.p (blP (outB x401 (0 : Int) (60 : Int)))) [], (x400.map intP)[(s * 1)]? = some (intP x401), 0 ≤ (s : Int) ∧ (s : Int) < (x400.length : Int) ∧ (s * 1) < (x400.map intP).length, (c.done.map intsP)[(i * 1)]? = some (intsP x400), 0 ≤ (i : Int) ∧ (i : Int) < (c.done.length : Int) ∧ (i * 1) < (c.done.map intsP).length, _]) (by kernel_rfl) (gc h4 (gc h3 (gc (FV.fc (outs_ok x401 (0 : Int) (60 : Int)) rfl) (gc (at_map (i := s) h2) (gc (ix_map (i := (s : Int)) (Int.natCast_nonneg _) h2) (gc (at_map (i := i) h1) (gc (ix_map (i := (i : Int)) (Int.natCast_nonneg _) h1) (gc (q_lt h0) gn))))))))
theorem chk_L3_p2 {c : Cup} {i s : Nat} (h0 : c.sk ≤ (s : Int)) : CodeOK Tryz.prog 0 zU2c6 (chk_S3 c i s) (.exit 6) (chk_S3 c i s) := by
  exact CodeOK.fin (g := ⟨(rng [(0, 1), (2, 3), (14, 62), (83, 15)]), [0], [], []⟩) (o := [.b false]) (l := [_]) (by kernel_rfl) (gc (q_ltF h0) gn)
def chk_S7 (c : Cup) (i : Nat) (s : Nat) (x700 : List Int) (x701 : Int) (o : Nat) : St := ⟨fr 174 [(1, (.ptr 0 0)), (8, (.p (intP (i : Int)))), (9, (.p (intP (s : Int)))), (10, (.p (intP x701))), (11, (.p (intP ((x701 + (((x700.count x701) : Nat) : Int)) - (1 : Int))))), (12, (.p (intP (o : Int)))), (117, (.p (intP (i : Int)))), (118, (.ptr 0 4)), (119, (.p (rowsP c.done))), (120, (.p (intP (c.done.length : Int)))), (121, (.p (blP (decide ((i : Int) < (c.done.length : Int)))))), (124, (.p (intP (s : Int)))), (125, (.ptr 0 0)), (126, (.p (intP c.sk))), (127, (.p (blP (decide ((s : Int) < c.sk))))), (130, (.ptr 0 4)), (131, (.p (rowsP c.done))), (132, (.p (intP (i : Int)))), (133, (.rp (c.done.map intsP) (i * 1))), (134, (.p (intsP x700))), (135, (.p (intP (s : Int)))), (136, (.rp (x700.map intP) (s * 1))), (137, (.p (intP x701))), (138, (.p (intP x701))), (139, (.p (blP (x701 == (0 : Int))))), (140, (.p (intP x701))), (141, (.ptr 0 4)), (142, (.p (rowsP c.done))), (143, (.p (intP (i : Int)))), (144, (.rp (c.done.map intsP) (i * 1))), (145, (.p (intsP x700))), (146, (.p (intP x701))), (147, (.p (intP (((x700.count x701) : Nat) : Int)))), (148, (.p (intP (x701 + (((x700.count x701) : Nat) : Int))))), (149, (.p (intP ((x701 + (((x700.count x701) : Nat) : Int)) - (1 : Int))))), (150, (.p (intP ((x701 + (((x700.count x701) : Nat) : Int)) - (1 : Int))))), (151, (.p (blP (decide (((x701 + (((x700.count x701) : Nat) : Int)) - (1 : Int)) > (60 : Int))))))], [some (.box 37 [(.p (intP c.sk)), (.p (intP c.ra)), (.p (intP c.be)), (.p (intsP c.pts)), (.p (rowsP c.done))])]⟩
theorem chk_L6_p0 {c : Cup} {i s : Nat} {x700 : List Int} {x701 : Int} {s' : Nat} (h0 : (s : Int) < c.sk) (h1 : c.done[i]? = some x700) (h2 : x700[s]? = some x701) (h3 : x701 = (0 : Int)) (h4 : inR (((s + 1) : Nat) : Int)) (es' : s' = (s + 1)) : CodeOK Tryz.prog 0 zU2c1 (chk_S6 c i s) .normal (chk_S6 c i s') := by
  subst es'
  exact CodeOK.fin (g := ⟨(rng [(0, 1), (2, 6), (10, 107), (124, 50)]), [0], [], []⟩) (o := [.b true, .x (intsP x700), .x (intP x701), .b true]) (l := [_, _, (x700.map intP)[(s * 1)]? = some (intP x701), 0 ≤ (s : Int) ∧ (s : Int) < (x700.length : Int) ∧ (s * 1) < (x700.map intP).length, (c.done.map intsP)[(i * 1)]? = some (intsP x700), 0 ≤ (i : Int) ∧ (i : Int) < (c.done.length : Int) ∧ (i * 1) < (c.done.map intsP).length, _]) (by kernel_rfl) (gc h4 (gc (q_eq h3) (gc (at_map (i := s) h2) (gc (ix_map (i := (s : Int)) (Int.natCast_nonneg _) h2) (gc (at_map (i := i) h1) (gc (ix_map (i := (i : Int)) (Int.natCast_nonneg _) h1) (gc (q_lt h0) gn)))))))
theorem chk_L6_p1 {c : Cup} {i s : Nat} {x700 : List Int} {x701 : Int} (h0 : (s : Int) < c.sk) (h1 : c.done[i]? = some x700) (h2 : x700[s]? = some x701) (h3 : x701 ≠ (0 : Int)) (h4 : x700.length ≤ 1000) (h5 : inR (x701 + (((x700.count x701) : Nat) : Int))) (h6 : inR ((x701 + (((x700.count x701) : Nat) : Int)) - (1 : Int))) (h7 : (60 : Int) < ((x701 + (((x700.count x701) : Nat) : Int)) - (1 : Int))) : CodeOK Tryz.prog 0 zU2c1 (chk_S6 c i s) .ret (setS (chk_S6 c i s) [(2, (.p (intP 7)))]) := by
  exact CodeOK.fin (g := ⟨(rng [(0, 1), (3, 5), (10, 107), (124, 50)]), [0], [], []⟩) (o := [.b true, .x (intsP x700), .x (intP x701), .b false, .x (intsP x700), .c (.p (intP (((x700.count x701) : Nat) : Int))) [], .b true]) (l := [_, _, _, FC Tryz.prog 114 [(.p (intsP x700)), (.p (intP x701))] [] 1 (.p (intP (((x700.count x701) : Nat) : Int))) [], (c.done.map intsP)[(i * 1)]? = some (intsP x700), 0 ≤ (i : Int) ∧ (i : Int) < (c.done.length : Int) ∧ (i * 1) < (c.done.map intsP).length, _, (x700.map intP)[(s * 1)]? = some (intP x701), 0 ≤ (s : Int) ∧ (s : Int) < (x700.length : Int) ∧ (s * 1) < (x700.map intP).length, (c.done.map intsP)[(i * 1)]? = some (intsP x700), 0 ≤ (i : Int) ∧ (i : Int) < (c.done.length : Int) ∧ (i * 1) < (c.done.map intsP).length, _]) (by kernel_rfl) (gc (q_lt h7) (gc h6 (gc h5 (gc (FV.fc (shr_ok x700 x701 h4) rfl) (gc (at_map (i := i) h1) (gc (ix_map (i := (i : Int)) (Int.natCast_nonneg _) h1) (gc (q_ne h3) (gc (at_map (i := s) h2) (gc (ix_map (i := (s : Int)) (Int.natCast_nonneg _) h2) (gc (at_map (i := i) h1) (gc (ix_map (i := (i : Int)) (Int.natCast_nonneg _) h1) (gc (q_lt h0) gn))))))))))))
theorem chk_L6_p2 {c : Cup} {i s : Nat} {x700 : List Int} {x701 : Int} {o'702 s' : Nat} (h0 : (s : Int) < c.sk) (h1 : c.done[i]? = some x700) (h2 : x700[s]? = some x701) (h3 : x701 ≠ (0 : Int)) (h4 : x700.length ≤ 1000) (h5 : inR (x701 + (((x700.count x701) : Nat) : Int))) (h6 : inR ((x701 + (((x700.count x701) : Nat) : Int)) - (1 : Int))) (h7 : ((x701 + (((x700.count x701) : Nat) : Int)) - (1 : Int)) ≤ (60 : Int)) (hl8 : LoopOK Tryz.prog 0 zU2c3 (chk_S7 c i s x700 x701 0) (.exit 14) (chk_S7 c i s x700 x701 o'702)) (h9 : inR (((s + 1) : Nat) : Int)) (es' : s' = (s + 1)) : CodeOK Tryz.prog 0 zU2c1 (chk_S6 c i s) .normal (chk_S6 c i s') := by
  subst es'
  exact CodeOK.fin (g := ⟨(rng [(0, 1), (2, 6), (10, 107), (124, 50)]), [0], [], []⟩) (o := [.b true, .x (intsP x700), .x (intP x701), .b false, .x (intsP x700), .c (.p (intP (((x700.count x701) : Nat) : Int))) [], .b false, .k 3 ⟨(rng [(0, 1), (2, 6), (13, 104), (152, 22)]), [0], [], []⟩ (.exit 14) (chk_S7 c i s x700 x701 o'702)]) (l := [_, _, _, _, _, FC Tryz.prog 114 [(.p (intsP x700)), (.p (intP x701))] [] 1 (.p (intP (((x700.count x701) : Nat) : Int))) [], (c.done.map intsP)[(i * 1)]? = some (intsP x700), 0 ≤ (i : Int) ∧ (i : Int) < (c.done.length : Int) ∧ (i * 1) < (c.done.map intsP).length, _, (x700.map intP)[(s * 1)]? = some (intP x701), 0 ≤ (s : Int) ∧ (s : Int) < (x700.length : Int) ∧ (s * 1) < (x700.map intP).length, (c.done.map intsP)[(i * 1)]? = some (intsP x700), 0 ≤ (i : Int) ∧ (i : Int) < (c.done.length : Int) ∧ (i * 1) < (c.done.map intsP).length, _]) (by kernel_rfl) (gc h9 (gc hl8.code (gc (q_ltF h7) (gc h6 (gc h5 (gc (FV.fc (shr_ok x700 x701 h4) rfl) (gc (at_map (i := i) h1) (gc (ix_map (i := (i : Int)) (Int.natCast_nonneg _) h1) (gc (q_ne h3) (gc (at_map (i := s) h2) (gc (ix_map (i := (s : Int)) (Int.natCast_nonneg _) h2) (gc (at_map (i := i) h1) (gc (ix_map (i := (i : Int)) (Int.natCast_nonneg _) h1) (gc (q_lt h0) gn))))))))))))))
theorem chk_L6_p3 {c : Cup} {i s : Nat} {x700 : List Int} {x701 : Int} {o'702 : Nat} (h0 : (s : Int) < c.sk) (h1 : c.done[i]? = some x700) (h2 : x700[s]? = some x701) (h3 : x701 ≠ (0 : Int)) (h4 : x700.length ≤ 1000) (h5 : inR (x701 + (((x700.count x701) : Nat) : Int))) (h6 : inR ((x701 + (((x700.count x701) : Nat) : Int)) - (1 : Int))) (h7 : ((x701 + (((x700.count x701) : Nat) : Int)) - (1 : Int)) ≤ (60 : Int)) (hl8 : LoopOK Tryz.prog 0 zU2c3 (chk_S7 c i s x700 x701 0) .ret (setS (chk_S7 c i s x700 x701 o'702) [(2, (.p (intP 7)))])) : CodeOK Tryz.prog 0 zU2c1 (chk_S6 c i s) .ret (setS (chk_S6 c i s) [(2, (.p (intP 7)))]) := by
  exact CodeOK.fin (g := ⟨(rng [(0, 1), (3, 5), (10, 107), (124, 50)]), [0], [], []⟩) (o := [.b true, .x (intsP x700), .x (intP x701), .b false, .x (intsP x700), .c (.p (intP (((x700.count x701) : Nat) : Int))) [], .b false, .k 3 ⟨(rng [(0, 1), (2, 6), (13, 104), (152, 22)]), [0], [], []⟩ .ret (setS (chk_S7 c i s x700 x701 o'702) [(2, (.p (intP 7)))])]) (l := [_, _, _, _, FC Tryz.prog 114 [(.p (intsP x700)), (.p (intP x701))] [] 1 (.p (intP (((x700.count x701) : Nat) : Int))) [], (c.done.map intsP)[(i * 1)]? = some (intsP x700), 0 ≤ (i : Int) ∧ (i : Int) < (c.done.length : Int) ∧ (i * 1) < (c.done.map intsP).length, _, (x700.map intP)[(s * 1)]? = some (intP x701), 0 ≤ (s : Int) ∧ (s : Int) < (x700.length : Int) ∧ (s * 1) < (x700.map intP).length, (c.done.map intsP)[(i * 1)]? = some (intsP x700), 0 ≤ (i : Int) ∧ (i : Int) < (c.done.length : Int) ∧ (i * 1) < (c.done.map intsP).length, _]) (by kernel_rfl) (gc hl8.code (gc (q_ltF h7) (gc h6 (gc h5 (gc (FV.fc (shr_ok x700 x701 h4) rfl) (gc (at_map (i := i) h1) (gc (ix_map (i := (i : Int)) (Int.natCast_nonneg _) h1) (gc (q_ne h3) (gc (at_map (i := s) h2) (gc (ix_map (i := (s : Int)) (Int.natCast_nonneg _) h2) (gc (at_map (i := i) h1) (gc (ix_map (i := (i : Int)) (Int.natCast_nonneg _) h1) (gc (q_lt h0) gn)))))))))))))
theorem chk_L6_p4 {c : Cup} {i s : Nat} (h0 : c.sk ≤ (s : Int)) : CodeOK Tryz.prog 0 zU2c1 (chk_S6 c i s) (.exit 12) (chk_S6 c i s) := by
  exact CodeOK.fin (g := ⟨(rng [(0, 1), (2, 6), (10, 107), (124, 50)]), [0], [], []⟩) (o := [.b false]) (l := [_]) (by kernel_rfl) (gc (q_ltF h0) gn)
theorem chk_L7_p0 {c : Cup} {i s : Nat} {x700 : List Int} {x701 : Int} {o : Nat} {x800 : List Int} {x801 : Int} (h0 : (o : Int) < c.sk) (h1 : c.done[i]? = some x800) (h2 : x800[o]? = some x801) (h3 : x701 < x801) (h4 : x801 ≤ ((x701 + (((x700.count x701) : Nat) : Int)) - (1 : Int))) : CodeOK Tryz.prog 0 zU2c3 (chk_S7 c i s x700 x701 o) .ret (setS (chk_S7 c i s x700 x701 o) [(2, (.p (intP 7)))]) := by
  exact CodeOK.fin (g := ⟨(rng [(0, 1), (3, 5), (13, 104), (152, 22)]), [0], [], []⟩) (o := [.b true, .x (intsP x800), .x (intP x801), .b true, .b true, .b true, .b true, .b true]) (l := [_, _, _, _, _, (x800.map intP)[(o * 1)]? = some (intP x801), 0 ≤ (o : Int) ∧ (o : Int) < (x800.length : Int) ∧ (o * 1) < (x800.map intP).length, (c.done.map intsP)[(i * 1)]? = some (intsP x800), 0 ≤ (i : Int) ∧ (i : Int) < (c.done.length : Int) ∧ (i * 1) < (c.done.map intsP).length, _]) (by kernel_rfl) (gc (q_le h4) (gc (q_lt h3) (gc (q_lt h3) (gc (q_lt h3) (gc (q_lt h3) (gc (at_map (i := o) h2) (gc (ix_map (i := (o : Int)) (Int.natCast_nonneg _) h2) (gc (at_map (i := i) h1) (gc (ix_map (i := (i : Int)) (Int.natCast_nonneg _) h1) (gc (q_lt h0) gn))))))))))
theorem chk_L7_p1 {c : Cup} {i s : Nat} {x700 : List Int} {x701 : Int} {o : Nat} {x800 : List Int} {x801 : Int} {o' : Nat} (h0 : (o : Int) < c.sk) (h1 : c.done[i]? = some x800) (h2 : x800[o]? = some x801) (h3 : x701 < x801) (h4 : ((x701 + (((x700.count x701) : Nat) : Int)) - (1 : Int)) < x801) (h5 : inR (((o + 1) : Nat) : Int)) (eo' : o' = (o + 1)) : CodeOK Tryz.prog 0 zU2c3 (chk_S7 c i s x700 x701 o) .normal (chk_S7 c i s x700 x701 o') := by
  subst eo'
  exact CodeOK.fin (g := ⟨(rng [(0, 1), (2, 6), (13, 104), (152, 22)]), [0], [], []⟩) (o := [.b true, .x (intsP x800), .x (intP x801), .b true, .b true, .b true, .b true, .b false]) (l := [_, _, _, _, _, _, (x800.map intP)[(o * 1)]? = some (intP x801), 0 ≤ (o : Int) ∧ (o : Int) < (x800.length : Int) ∧ (o * 1) < (x800.map intP).length, (c.done.map intsP)[(i * 1)]? = some (intsP x800), 0 ≤ (i : Int) ∧ (i : Int) < (c.done.length : Int) ∧ (i * 1) < (c.done.map intsP).length, _]) (by kernel_rfl) (gc h5 (gc (q_leF h4) (gc (q_lt h3) (gc (q_lt h3) (gc (q_lt h3) (gc (q_lt h3) (gc (at_map (i := o) h2) (gc (ix_map (i := (o : Int)) (Int.natCast_nonneg _) h2) (gc (at_map (i := i) h1) (gc (ix_map (i := (i : Int)) (Int.natCast_nonneg _) h1) (gc (q_lt h0) gn)))))))))))
theorem chk_L7_p2 {c : Cup} {i s : Nat} {x700 : List Int} {x701 : Int} {o : Nat} {x800 : List Int} {x801 : Int} {o' : Nat} (h0 : (o : Int) < c.sk) (h1 : c.done[i]? = some x800) (h2 : x800[o]? = some x801) (h3 : x801 ≤ x701) (h4 : inR (((o + 1) : Nat) : Int)) (eo' : o' = (o + 1)) : CodeOK Tryz.prog 0 zU2c3 (chk_S7 c i s x700 x701 o) .normal (chk_S7 c i s x700 x701 o') := by
  subst eo'
  exact CodeOK.fin (g := ⟨(rng [(0, 1), (2, 6), (13, 104), (152, 22)]), [0], [], []⟩) (o := [.b true, .x (intsP x800), .x (intP x801), .b false, .b false, .b false, .b false]) (l := [_, _, _, _, _, (x800.map intP)[(o * 1)]? = some (intP x801), 0 ≤ (o : Int) ∧ (o : Int) < (x800.length : Int) ∧ (o * 1) < (x800.map intP).length, (c.done.map intsP)[(i * 1)]? = some (intsP x800), 0 ≤ (i : Int) ∧ (i : Int) < (c.done.length : Int) ∧ (i * 1) < (c.done.map intsP).length, _]) (by kernel_rfl) (gc h4 (gc (q_ltF h3) (gc (q_ltF h3) (gc (q_ltF h3) (gc (q_ltF h3) (gc (at_map (i := o) h2) (gc (ix_map (i := (o : Int)) (Int.natCast_nonneg _) h2) (gc (at_map (i := i) h1) (gc (ix_map (i := (i : Int)) (Int.natCast_nonneg _) h1) (gc (q_lt h0) gn))))))))))
theorem chk_L7_p3 {c : Cup} {i s : Nat} {x700 : List Int} {x701 : Int} {o : Nat} (h0 : c.sk ≤ (o : Int)) : CodeOK Tryz.prog 0 zU2c3 (chk_S7 c i s x700 x701 o) (.exit 14) (chk_S7 c i s x700 x701 o) := by
  exact CodeOK.fin (g := ⟨(rng [(0, 1), (2, 6), (13, 104), (152, 22)]), [0], [], []⟩) (o := [.b false]) (l := [_]) (by kernel_rfl) (gc (q_ltF h0) gn)
theorem falls_any (pts : List Int) : KL.fallsB pts = !((List.range (pts.length - 1)).any fun j => decide (pts.getD j 0 < pts.getD (j + 1) 0)) := by
  unfold KL.fallsB KL.sortedB
  rw [Bool.eq_iff_iff]
  simp only [decide_eq_true_eq, Bool.not_eq_true', List.any_eq_false, List.mem_range, decide_eq_true_eq, Int.not_lt]
  constructor
  · intro h j hj
    have := h j hj
    unfold KL.cmpDown KL.cmpI at this
    split at this
    · omega
    · split at this <;> omega
  · intro h j hj
    have := h j hj
    unfold KL.cmpDown KL.cmpI
    repeat' split
    all_goals omega
theorem chk_eq (c : Cup) : checkP c = if (outB c.sk 1 12 || outB c.ra 1 20 || outB c.be 1 c.ra) = true then 3
    else if (outB c.pts.length 1 60 || decide (c.ra < c.done.length) || c.done.any (fun r => decide ((r.length : Int) ≠ c.sk))) = true then 2
    else if (c.pts.any (fun n => outB n 0 1000) || c.done.any (fun r => r.any fun p => outB p 0 60)) = true then 3
    else if ((List.range (c.pts.length - 1)).any fun j => decide (c.pts.getD j 0 < c.pts.getD (j + 1) 0)) = true then 4
    else if c.done.any KL.clashR = true then 7 else 0 := by
  unfold checkP
  simp only [wi_out, Bool.not_not, List.not_all_eq_any_not, falls_any]
  congr 1
  congr 1
  congr 3
  funext r
  by_cases e : (r.length : Int) = c.sk <;> simp [e]
theorem chk_ok (c : Cup) (hS : KL.Small c) {base : Nat} : FV Tryz.prog 43 [.p (cupP c)] base (.p (intP (checkP c))) [] := by
  have s1 := hS.pts
  have s2 := hS.done
  have atD : ∀ (l : List Int) (j : Nat), j < l.length → l[j]? = some (l.getD j 0) := fun l j hj => by
    rw [List.getElem?_eq_getElem hj, List.getD_eq_getElem?_getD, List.getElem?_eq_getElem hj]; rfl
  rw [chk_eq]
  cases a1 : outB c.sk 1 12
  case true => rw [if_pos (by simp)]; exact chk_p0 a1
  cases a2 : outB c.ra 1 20
  case true => rw [if_pos (by simp)]; exact chk_p1 a1 a2
  cases a3 : outB c.be 1 c.ra
  case true => rw [if_pos (by simp)]; exact chk_p2 a1 a2 a3
  rw [if_neg (by simp)]
  have k1 : 1 ≤ c.sk ∧ c.sk ≤ 12 := by simpa [outB] using a1
  by_cases b1 : (c.pts.length : Int) < 1
  · rw [if_pos (by simp [outB]; omega)]; exact chk_p3 a1 a2 a3 b1
  by_cases b2 : 60 < (c.pts.length : Int)
  · rw [if_pos (by simp [outB]; omega)]; exact chk_p4 a1 a2 a3 (by omega) b2
  have b3 : outB c.pts.length 1 60 = false := by simp [outB]; omega
  rw [b3]
  by_cases b4 : c.ra < (c.done.length : Int)
  · rw [if_pos (by simp [b4])]; exact chk_p5 a1 a2 a3 (by omega) (by omega) b4
  rcases LoopOK.find (P := Tryz.prog) (k := 0) (b := zU2c0) (fun i => chk_S0 c i) (fun i _ => setS (chk_S0 c i) [(2, .p (intP 2))]) (chk_S0 c c.done.length) .ret (.exit 0) (by simp) (by simp) (fun r => decide ((r.length : Int) ≠ c.sk)) c.done
    (fun i x hx hp => chk_L0_p1 (by have := lt_of_at hx; omega) hx (by simpa using hp) (inR_nat (by have := lt_of_at hx; omega)) rfl)
    (fun i x hx hp => chk_L0_p0 (by have := lt_of_at hx; omega) hx (by simpa using hp))
    (chk_L0_p2 (by omega)) with ⟨i, x, h1, h2, h3, h4⟩ | ⟨_, c1, L0⟩
  · have : c.done.any (fun r => decide ((r.length : Int) ≠ c.sk)) = true := List.any_eq_true.2 ⟨x, List.mem_of_getElem? h1, h3⟩
    rw [if_pos (by rw [this]; simp)]
    exact chk_p11 a1 a2 a3 (by omega) (by omega) (by omega) h4
  rw [c1, if_neg (by simp [b4])]
  have hlen : ∀ (i : Nat) (r : List Int), c.done[i]? = some r → (r.length : Int) = c.sk := fun i r hr => by
    have := List.any_eq_false.1 c1 r (List.mem_of_getElem? hr)
    simpa using this
  rcases LoopOK.find (P := Tryz.prog) (k := 0) (b := zU2c2) (fun i => chk_S1 c i) (fun i _ => setS (chk_S1 c i) [(2, .p (intP 3))]) (chk_S1 c c.pts.length) .ret (.exit 2) (by simp) (by simp) (fun n => outB n 0 1000) c.pts
    (fun i x hx hp => chk_L1_p1 (by have := lt_of_at hx; omega) hx hp (inR_nat (by have := lt_of_at hx; omega)) rfl)
    (fun i x hx hp => chk_L1_p0 (by have := lt_of_at hx; omega) hx hp)
    (chk_L1_p2 (by omega)) with ⟨i, x, h1, h2, h3, h4⟩ | ⟨_, c2, L1⟩
  · have : c.pts.any (fun n => outB n 0 1000) = true := List.any_eq_true.2 ⟨x, List.mem_of_getElem? h1, h3⟩
    rw [if_pos (by rw [this]; simp)]
    exact chk_p10 a1 a2 a3 (by omega) (by omega) (by omega) L0 h4
  rw [c2]
  rcases LoopOK.find (P := Tryz.prog) (k := 0) (b := zU2c4) (fun i => chk_S2 c i) (fun i _ => setS (chk_S2 c i) [(2, .p (intP 3))]) (chk_S2 c c.done.length) .ret (.exit 4) (by simp) (by simp) (fun r => r.any fun p => outB p 0 60) c.done
    (fun i x hx hp => by
      have hi := lt_of_at hx
      have hl := hlen i x hx
      rcases LoopOK.find (P := Tryz.prog) (k := 0) (b := zU2c6) (fun s => chk_S3 c i s) (fun s _ => setS (chk_S3 c i s) [(2, .p (intP 3))]) (chk_S3 c i x.length) .ret (.exit 6) (by simp) (by simp) (fun p => outB p 0 60) x
        (fun s y hy hq => chk_L3_p1 (by have := lt_of_at hy; omega) hx hy hq (inR_nat (by have := lt_of_at hy; omega)) rfl)
        (fun s y hy hq => chk_L3_p0 (by have := lt_of_at hy; omega) hx hy hq)
        (chk_L3_p2 (by omega)) with ⟨j, y, g1, g2, g3, g4⟩ | ⟨_, g1, g2⟩
      · have : x.any (fun p => outB p 0 60) = true := List.any_eq_true.2 ⟨y, List.mem_of_getElem? g1, g3⟩
        rw [this] at hp; cases hp
      · exact chk_L2_p0 (by omega) g2 (inR_nat (by omega)) rfl)
    (fun i x hx hp => by
      have hi := lt_of_at hx
      have hl := hlen i x hx
      rcases LoopOK.find (P := Tryz.prog) (k := 0) (b := zU2c6) (fun s => chk_S3 c i s) (fun s _ => setS (chk_S3 c i s) [(2, .p (intP 3))]) (chk_S3 c i x.length) .ret (.exit 6) (by simp) (by simp) (fun p => outB p 0 60) x
        (fun s y hy hq => chk_L3_p1 (by have := lt_of_at hy; omega) hx hy hq (inR_nat (by have := lt_of_at hy; omega)) rfl)
        (fun s y hy hq => chk_L3_p0 (by have := lt_of_at hy; omega) hx hy hq)
        (chk_L3_p2 (by omega)) with ⟨j, y, g1, g2, g3, g4⟩ | ⟨_, g1, g2⟩
      · exact chk_L2_p1 (by omega) g4
      · rw [g1] at hp; cases hp)
    (chk_L2_p2 (by omega)) with ⟨i, x, h1, h2, h3, h4⟩ | ⟨_, c3, L2⟩
  · have : c.done.any (fun r => r.any fun p => outB p 0 60) = true := List.any_eq_true.2 ⟨x, List.mem_of_getElem? h1, h3⟩
    rw [if_pos (by rw [this]; simp)]
    exact chk_p9 a1 a2 a3 (by omega) (by omega) (by omega) L0 L1 h4
  rw [c3, if_neg (by simp)]
  have hbd : ∀ (i : Nat) (r : List Int), c.done[i]? = some r → ∀ x ∈ r, 0 ≤ x ∧ x ≤ 60 := fun i r hr x hx => by
    have h1 := List.any_eq_false.1 c3 r (List.mem_of_getElem? hr)
    have h2 : r.any (fun p => outB p 0 60) = false := by simpa using h1
    have h3 := List.any_eq_false.1 h2 x hx
    simpa [outB] using h3
  rcases LoopOK.find (P := Tryz.prog) (k := 0) (b := zU2c5) (fun i => chk_S4 c (i + 1)) (fun i _ => setS (chk_S4 c (i + 1)) [(2, .p (intP 4))]) (chk_S4 c (c.pts.length - 1 + 1)) .ret (.exit 8) (by simp) (by simp) (fun j => decide (c.pts.getD j 0 < c.pts.getD (j + 1) 0)) (List.range (c.pts.length - 1))
    (fun i x hx hp => by
      obtain ⟨rfl, hi⟩ := range_at hx
      have e : (((x + 1 : Nat) : Int) - 1).toNat = x := by omega
      exact chk_L4_p1 (x501 := c.pts.getD x 0) (by omega) (atD _ _ (by omega)) (by unfold inR; omega) (by rw [e]; exact atD _ _ (by omega)) (by omega) (by simpa using hp) (inR_nat (by omega)) rfl)
    (fun i x hx hp => by
      obtain ⟨rfl, hi⟩ := range_at hx
      have e : (((x + 1 : Nat) : Int) - 1).toNat = x := by omega
      exact chk_L4_p0 (x501 := c.pts.getD x 0) (by omega) (atD _ _ (by omega)) (by unfold inR; omega) (by rw [e]; exact atD _ _ (by omega)) (by omega) (by simpa using hp))
    (by rw [List.length_range]; exact chk_L4_p2 (by omega)) with ⟨i, x, h1, h2, h3, h4⟩ | ⟨_, c4, L4⟩
  · have : ((List.range (c.pts.length - 1)).any fun j => decide (c.pts.getD j 0 < c.pts.getD (j + 1) 0)) = true := List.any_eq_true.2 ⟨x, List.mem_of_getElem? h1, h3⟩
    rw [if_pos this]
    exact chk_p8 a1 a2 a3 (by omega) (by omega) (by omega) L0 L1 L2 h4
  rw [if_neg (by rw [c4]; simp)]
  have inner : ∀ (i : Nat) (x : List Int), c.done[i]? = some x → (KL.clashR x = true ∧ ∃ s, LoopOK Tryz.prog 0 zU2c1 (chk_S6 c i 0) .ret (setS (chk_S6 c i s) [(2, .p (intP 7))])) ∨ (KL.clashR x = false ∧ ∃ s, LoopOK Tryz.prog 0 zU2c1 (chk_S6 c i 0) (.exit 12) (chk_S6 c i s)) := fun i x hx => by
    have hi := lt_of_at hx
    have hl := hlen i x hx
    have hb := hbd i x hx
    have hxl : x.length ≤ 1000 := by omega
    rw [clash_any x fun y hy => (hb y hy).1]
    have deep : ∀ (s : Nat) (p : Int), ((x.any fun q => decide (p < q) && decide (q ≤ p + (x.count p : Int) - 1)) = true ∧ ∃ o, LoopOK Tryz.prog 0 zU2c3 (chk_S7 c i s x p 0) .ret (setS (chk_S7 c i s x p o) [(2, .p (intP 7))])) ∨ ((x.any fun q => decide (p < q) && decide (q ≤ p + (x.count p : Int) - 1)) = false ∧ ∃ o, LoopOK Tryz.prog 0 zU2c3 (chk_S7 c i s x p 0) (.exit 14) (chk_S7 c i s x p o)) := fun s p => by
      rcases LoopOK.find (P := Tryz.prog) (k := 0) (b := zU2c3) (fun o => chk_S7 c i s x p o) (fun o _ => setS (chk_S7 c i s x p o) [(2, .p (intP 7))]) (chk_S7 c i s x p x.length) .ret (.exit 14) (by simp) (by simp) (fun q => decide (p < q) && decide (q ≤ p + (x.count p : Int) - 1)) x
        (fun o q hq hp => by
          have ho := lt_of_at hq
          by_cases e : p < q
          · exact chk_L7_p1 (by omega) hx hq e (by simpa [e] using hp) (inR_nat (by omega)) rfl
          · exact chk_L7_p2 (by omega) hx hq (by omega) (inR_nat (by omega)) rfl)
        (fun o q hq hp => by
          have ho := lt_of_at hq
          simp only [Bool.and_eq_true, decide_eq_true_eq] at hp
          exact chk_L7_p0 (by omega) hx hq hp.1 hp.2)
        (chk_L7_p3 (by omega)) with ⟨j, y, g1, g2, g3, g4⟩ | ⟨_, g1, g2⟩
      · exact .inl ⟨List.any_eq_true.2 ⟨y, List.mem_of_getElem? g1, g3⟩, _, g4⟩
      · exact .inr ⟨g1, _, g2⟩
    rcases LoopOK.find (P := Tryz.prog) (k := 0) (b := zU2c1) (fun s => chk_S6 c i s) (fun s _ => setS (chk_S6 c i s) [(2, .p (intP 7))]) (chk_S6 c i x.length) .ret (.exit 12) (by simp) (by simp) (badP x) x
      (fun s p hp hq => by
        have hs := lt_of_at hp
        have hb1 := hb p (List.mem_of_getElem? hp)
        have hcn : x.count p ≤ x.length := List.count_le_length
        by_cases e0 : p = 0
        · exact chk_L6_p0 (by omega) hx hp e0 (inR_nat (by omega)) rfl
        · unfold badP at hq
          simp only [ne_eq, e0, not_false_eq_true, decide_true, Bool.true_and, Bool.or_eq_false_iff] at hq
          obtain ⟨q1, q2⟩ := hq
          have q1 := of_decide_eq_false q1
          rcases deep s p with ⟨d1, o, d2⟩ | ⟨d1, o, d2⟩
          · rw [d1] at q2; cases q2
          · exact chk_L6_p2 (by omega) hx hp e0 hxl (by unfold inR; omega) (by unfold inR; omega) (by omega) d2 (inR_nat (by omega)) rfl)
      (fun s p hp hq => by
        have hs := lt_of_at hp
        have hb1 := hb p (List.mem_of_getElem? hp)
        have hcn : x.count p ≤ x.length := List.count_le_length
        unfold badP at hq
        simp only [ne_eq, Bool.and_eq_true, decide_eq_true_eq, Bool.or_eq_true] at hq
        obtain ⟨e0, hq⟩ := hq
        by_cases q1 : 60 < p + (x.count p : Int) - 1
        · exact chk_L6_p1 (by omega) hx hp e0 hxl (by unfold inR; omega) (by unfold inR; omega) q1
        · rcases deep s p with ⟨d1, o, d2⟩ | ⟨d1, o, d2⟩
          · exact chk_L6_p3 (by omega) hx hp e0 hxl (by unfold inR; omega) (by unfold inR; omega) (by omega) d2
          · rw [d1] at hq
            rcases hq with hq | hq
            · exact absurd hq q1
            · cases hq)
      (chk_L6_p4 (by omega)) with ⟨j, y, g1, g2, g3, g4⟩ | ⟨_, g1, g2⟩
    · exact .inl ⟨List.any_eq_true.2 ⟨y, List.mem_of_getElem? g1, g3⟩, _, g4⟩
    · exact .inr ⟨g1, _, g2⟩
  rcases LoopOK.find (P := Tryz.prog) (k := 0) (b := zU2c7) (fun i => chk_S5 c i) (fun i _ => setS (chk_S5 c i) [(2, .p (intP 7))]) (chk_S5 c c.done.length) .ret (.exit 10) (by simp) (by simp) KL.clashR c.done
    (fun i x hx hp => by
      have hi := lt_of_at hx
      rcases inner i x hx with ⟨d1, s, d2⟩ | ⟨d1, s, d2⟩
      · rw [d1] at hp; cases hp
      · exact chk_L5_p0 (by omega) d2 (inR_nat (by omega)) rfl)
    (fun i x hx hp => by
      have hi := lt_of_at hx
      rcases inner i x hx with ⟨d1, s, d2⟩ | ⟨d1, s, d2⟩
      · exact chk_L5_p1 (by omega) d2
      · rw [d1] at hp; cases hp)
    (chk_L5_p2 (by omega)) with ⟨i, x, h1, h2, h3, h4⟩ | ⟨_, c5, L5⟩
  · have : c.done.any KL.clashR = true := List.any_eq_true.2 ⟨x, List.mem_of_getElem? h1, h3⟩
    rw [if_pos this]
    exact chk_p7 a1 a2 a3 (by omega) (by omega) (by omega) L0 L1 L2 L4 h4
  · rw [if_neg (by rw [c5]; simp)]
    exact chk_p6 a1 a2 a3 (by omega) (by omega) (by omega) L0 L1 L2 L4 L5
end
section
open KL
noncomputable abbrev zU3c0 : Code := sub (cd Tryz.f18) [1, 1, 0, 1, 0, 0]
noncomputable abbrev zU3c1 : Code := sub (cd Tryz.f53) [1, 1, 0, 1, 0, 0, 1, 0, 0, 1, 0, 1, 0, 0]
noncomputable abbrev zU3c2 : Code := sub (cd Tryz.f124) [1, 1, 1, 1, 0, 1, 0, 0]
noncomputable abbrev zU3c3 : Code := sub (cd Tryz.f53) [1, 1, 0, 1, 0, 0]
noncomputable abbrev zU3c4 : Code := sub (cd Tryz.f50) [1, 1, 1, 1, 0, 1, 0, 0]
noncomputable abbrev zU3c5 : Code := sub (cd Tryz.f52) [1, 1, 1, 0, 1, 0, 0]
noncomputable abbrev zU3c6 : Code := sub (cd Tryz.f46) [1, 1, 0, 1, 0, 0]
def rsc_S0 (c : Cup) (l : List Int) (x0 : Int) (q : Int) (sm : Int) : St := ⟨fr 44 [(3, (.ptr 0 0)), (6, (.p (intP 0))), (7, (.p (intP x0))), (8, (.p (intP sm))), (9, (.p (intP (((l.count x0) : Nat) : Int)))), (10, (.p (intP q)))], [some (.box 37 [(.p (intP c.sk)), (.p (intP c.ra)), (.p (intP c.be)), (.p (intsP c.pts)), (.p (rowsP c.done))])]⟩
theorem rsc_p0 {c : Cup} {l : List Int} {k x0 : Int} (h0 : l[k.toNat]? = some x0) (h1 : 0 ≤ k) (h2 : x0 = (0 : Int)) {base : Nat} : FV Tryz.prog 124 [(.p (cupP c)), (.p (intsP l)), (.p (intP k))] base (.p (intP 0)) [] := by
  exact FV.fin Tryz.func124 rfl (o := [.x (intP x0), .b true]) (l := [_, (l.map intP)[(k.toNat * 1)]? = some (intP x0), 0 ≤ k ∧ k < (l.length : Int) ∧ (k.toNat * 1) < (l.map intP).length]) (by kernel_rfl) (gc (q_eq h2) (gc (at_map (i := k.toNat) h0) (gc (ix_map (i := k) h1 h0) gn)))
theorem rsc_p1 {c : Cup} {l : List Int} {k x0 q'1 sm'2 r0 : Int} (h0 : l[k.toNat]? = some x0) (h1 : 0 ≤ k) (h2 : x0 ≠ (0 : Int)) (h3 : l.length ≤ 1000) (hl4 : LoopOK Tryz.prog 0 zU3c2 (rsc_S0 c l x0 x0 (0 : Int)) (.exit 0) (rsc_S0 c l x0 q'1 sm'2)) (h5 : (((l.count x0) : Nat) : Int) ≠ 0) (h6 : inR (sm'2.tdiv (((l.count x0) : Nat) : Int))) (er0 : r0 = (sm'2.tdiv (((l.count x0) : Nat) : Int))) {base : Nat} : FV Tryz.prog 124 [(.p (cupP c)), (.p (intsP l)), (.p (intP k))] base (.p (intP r0)) [] := by
  subst er0
  exact FV.fin Tryz.func124 rfl (o := [.x (intP x0), .b false, .c (.p (intP (((l.count x0) : Nat) : Int))) [], .k 4 ⟨(rng [(0, 3), (4, 2), (11, 30)]), [0], [], []⟩ (.exit 0) (rsc_S0 c l x0 q'1 sm'2)]) (l := [_, _, _, FC Tryz.prog 114 [(.p (intsP l)), (.p (intP x0))] [] 1 (.p (intP (((l.count x0) : Nat) : Int))) [], _, (l.map intP)[(k.toNat * 1)]? = some (intP x0), 0 ≤ k ∧ k < (l.length : Int) ∧ (k.toNat * 1) < (l.map intP).length]) (by kernel_rfl) (gc h6 (gc h5 (gc hl4.code (gc (FV.fc (shr_ok l x0 h3) rfl) (gc (q_ne h2) (gc (at_map (i := k.toNat) h0) (gc (ix_map (i := k) h1 h0) gn)))))))
theorem rsc_L0_p0 {c : Cup} {l : List Int} {x0 q sm x100 q' sm' : Int} (h0 : inR (x0 + (((l.count x0) : Nat) : Int))) (h1 : q < (x0 + (((l.count x0) : Nat) : Int))) (h2 : q ≤ (c.pts.length : Int)) (h3 : inR (q - (1 : Int))) (h4 : c.pts[(q - (1 : Int)).toNat]? = some x100) (h5 : 0 ≤ (q - (1 : Int))) (h6 : inR (sm + x100)) (h7 : inR (q + (1 : Int))) (eq' : q' = (q + (1 : Int))) (esm' : sm' = (sm + x100)) : CodeOK Tryz.prog 0 zU3c2 (rsc_S0 c l x0 q sm) .normal (rsc_S0 c l x0 q' sm') := by
  subst eq' esm'
  exact CodeOK.fin (g := ⟨(rng [(0, 3), (4, 2), (11, 30)]), [0], [], []⟩) (o := [.b true, .b true, .x (intP x100)]) (l := [_, _, (c.pts.map intP)[((q - (1 : Int)).toNat * 1)]? = some (intP x100), 0 ≤ (q - (1 : Int)) ∧ (q - (1 : Int)) < (c.pts.length : Int) ∧ ((q - (1 : Int)).toNat * 1) < (c.pts.map intP).length, _, _, _, _]) (by kernel_rfl) (gc h7 (gc h6 (gc (at_map (i := (q - (1 : Int)).toNat) h4) (gc (ix_map (i := (q - (1 : Int))) h5 h4) (gc h3 (gc (q_le h2) (gc (q_lt h1) (gc h0 gn))))))))
theorem rsc_L0_p1 {c : Cup} {l : List Int} {x0 q sm q' : Int} (h0 : inR (x0 + (((l.count x0) : Nat) : Int))) (h1 : q < (x0 + (((l.count x0) : Nat) : Int))) (h2 : (c.pts.length : Int) < q) (h3 : inR (q + (1 : Int))) (eq' : q' = (q + (1 : Int))) : CodeOK Tryz.prog 0 zU3c2 (rsc_S0 c l x0 q sm) .normal (rsc_S0 c l x0 q' sm) := by
  subst eq'
  exact CodeOK.fin (g := ⟨(rng [(0, 3), (4, 2), (11, 30)]), [0], [], []⟩) (o := [.b true, .b false]) (l := [_, _, _, _]) (by kernel_rfl) (gc h3 (gc (q_leF h2) (gc (q_lt h1) (gc h0 gn))))
theorem rsc_L0_p2 {c : Cup} {l : List Int} {x0 q sm : Int} (h0 : inR (x0 + (((l.count x0) : Nat) : Int))) (h1 : (x0 + (((l.count x0) : Nat) : Int)) ≤ q) : CodeOK Tryz.prog 0 zU3c2 (rsc_S0 c l x0 q sm) (.exit 0) (rsc_S0 c l x0 q sm) := by
  exact CodeOK.fin (g := ⟨(rng [(0, 3), (4, 2), (11, 30)]), [0], [], []⟩) (o := [.b false]) (l := [_, _]) (by kernel_rfl) (gc (q_ltF h1) (gc h0 gn))
theorem rsc_ok (c : Cup) (l : List Int) (k : Int) (hV : KL.Valid c) (hl : l.length ≤ 1000) (hb : ∀ x ∈ l, 0 ≤ x ∧ x ≤ 60) (hk : 0 ≤ k ∧ k < l.length) {base : Nat} : FV Tryz.prog 124 [.p (cupP c), .p (intsP l), .p (intP k)] base (.p (intP (scoreM c.pts l k.toNat))) [] := by
  have hp := hV.pt2
  obtain ⟨x, hx⟩ : ∃ x, l[k.toNat]? = some x := ⟨l[k.toNat]'(by omega), List.getElem?_eq_getElem (by omega)⟩
  have hg : l.getD k.toNat 0 = x := by rw [List.getD_eq_getElem?_getD, hx]; rfl
  have hxb := hb x (List.mem_of_getElem? hx)
  unfold scoreM
  rw [hg]
  by_cases h0 : x = 0
  · rw [if_pos h0]; exact rsc_p0 hx hk.1 h0
  · rw [if_neg h0]
    have hc1 : l.count x ≤ l.length := List.count_le_length
    have hc2 : 1 ≤ l.count x := List.count_pos_iff.2 (List.mem_of_getElem? hx)
    have hw : ∀ m, 0 ≤ KL.worthM c.pts x.toNat m ∧ KL.worthM c.pts x.toNat m ≤ 1000 * m := fun m => KL.worthM_bd _ _ _ hV.pts
    have h := LoopOK.count (P := Tryz.prog) (k := 0) (b := zU3c2) (e := .exit 0) (R := rsc_S0 c l x (x + (l.count x : Int)) (KL.worthM c.pts x.toNat (l.count x))) (l.count x) (fun j => rsc_S0 c l x (x + (j : Int)) (KL.worthM c.pts x.toNat j))
      (fun j hj => by
        have hw1 := hw j
        have hw2 := hw (j + 1)
        have es := KL.worth_snoc c.pts x.toNat j
        by_cases e : x + (j : Int) ≤ c.pts.length
        · have ei : (x + (j : Int) - 1).toNat = x.toNat - 1 + j := by omega
          have ea : c.pts[(x + (j : Int) - 1).toNat]? = some (c.pts.getD (x.toNat - 1 + j) 0) := by
            rw [ei, List.getD_eq_getElem?_getD, List.getElem?_eq_getElem (by omega)]; rfl
          exact rsc_L0_p0 (by unfold inR; omega) (by omega) e (by unfold inR; omega) ea (by omega) (by rw [← es]; unfold inR; omega) (by unfold inR; omega) (by omega) es
        · have e0 : c.pts.getD (x.toNat - 1 + j) 0 = 0 := by
            rw [List.getD_eq_getElem?_getD, List.getElem?_eq_none (by omega)]; rfl
          rw [e0, Int.add_zero] at es
          have h1 := rsc_L0_p1 (c := c) (l := l) (x0 := x) (q := x + (j : Int)) (sm := KL.worthM c.pts x.toNat j) (q' := x + ((j + 1 : Nat) : Int)) (by unfold inR; omega) (by omega) (by omega) (by unfold inR; omega) (by omega)
          have key : ∀ w, w = KL.worthM c.pts x.toNat j → CodeOK Tryz.prog 0 zU3c2 (rsc_S0 c l x (x + (j : Int)) (KL.worthM c.pts x.toNat j)) .normal (rsc_S0 c l x (x + ((j + 1 : Nat) : Int)) w) := by rintro _ rfl; exact h1
          exact key _ es)
      (rsc_L0_p2 (by unfold inR; omega) (by omega)) (by simp)
    have w0 : KL.worthM c.pts x.toNat 0 = 0 := by unfold KL.worthM; simp
    rw [show x + ((0 : Nat) : Int) = x by omega, w0] at h
    have hd : (KL.worthM c.pts x.toNat (l.count x)).tdiv (l.count x : Int) = KL.worthM c.pts x.toNat (l.count x) / (l.count x : Int) := Int.tdiv_eq_ediv_of_nonneg (hw _).1
    have d1 := Int.ediv_nonneg (hw (l.count x)).1 (show (0 : Int) ≤ (l.count x : Int) by omega)
    have d2 := Int.ediv_le_self (l.count x : Int) (hw (l.count x)).1
    have d3 := (hw (l.count x)).2
    exact rsc_p1 hx hk.1 h0 hl h (by omega) (by rw [hd]; unfold inR; omega) hd.symm
def rso_S0 (c : Cup) (k : Int) (s : Nat) (on : Nat) (oc : List PV) : St := ⟨fr 38 [(1, (.p (intP k))), (2, (.ptr 0 0)), (4, (.p nilS)), (5, (.p (intP 0))), (7, (.own 1)), (8, (.p (intP (s : Int))))], [some (.box 37 [(.p (intP c.sk)), (.p (intP c.ra)), (.p (intP c.be)), (.p (intsP c.pts)), (.p (rowsP c.done))]), some (.row 3 on oc)]⟩
theorem rso_p0 {c : Cup} {k r0 : Int} (h0 : KL.Small c) (h1 : (checkP c) ≠ (0 : Int)) (er0 : r0 = (checkP c)) {base : Nat} : FV Tryz.prog 50 [(.p (cupP c)), (.p (intP k))] base (.tup [(.p nilS), (.p (intP r0))]) [] := by
  subst er0
  exact FV.frz (FMM.fin (k := 0) (g := ⟨[], [], [], []⟩) rfl Tryz.func50 rfl (o := [.c (.p (intP (checkP c))) [], .b true]) (l := [_, FC Tryz.prog 43 [(.p (cupP c))] [] 1 (.p (intP (checkP c))) []]) (by kernel_rfl) (gc (q_neT h1) (gc (FV.fc (chk_ok c h0) rfl) gn))) (by kernel_rfl)
theorem rso_p1 {c : Cup} {k : Int} (h0 : KL.Small c) (h1 : (checkP c) = (0 : Int)) (h2 : inR ((c.done.length : Int) - (1 : Int))) (h3 : (outB k (0 : Int) ((c.done.length : Int) - (1 : Int))) = true) {base : Nat} : FV Tryz.prog 50 [(.p (cupP c)), (.p (intP k))] base (.tup [(.p nilS), (.p (intP 1))]) [] := by
  exact FV.frz (FMM.fin (k := 0) (g := ⟨[], [], [], []⟩) rfl Tryz.func50 rfl (o := [.c (.p (intP (checkP c))) [], .b false, .c (.p (blP (outB k (0 : Int) ((c.done.length : Int) - (1 : Int))))) [], .b true]) (l := [_, FC Tryz.prog 101 [(.p (intP k)), (.p (intP 0)), (.p (intP ((c.done.length : Int) - (1 : Int))))] [] 1 (.p (blP (outB k (0 : Int) ((c.done.length : Int) - (1 : Int))))) [], _, _, FC Tryz.prog 43 [(.p (cupP c))] [] 1 (.p (intP (checkP c))) []]) (by kernel_rfl) (gc h3 (gc (FV.fc (outs_ok k (0 : Int) ((c.done.length : Int) - (1 : Int))) rfl) (gc h2 (gc (q_neF h1) (gc (FV.fc (chk_ok c h0) rfl) gn)))))) (by kernel_rfl)
theorem rso_p2 {c : Cup} {k : Int} {s'0 : Nat} {o'1 : List Int} (h0 : KL.Small c) (h1 : (checkP c) = (0 : Int)) (h2 : inR ((c.done.length : Int) - (1 : Int))) (h3 : (outB k (0 : Int) ((c.done.length : Int) - (1 : Int))) = false) (hl4 : LoopOK Tryz.prog 0 zU3c4 (rso_S0 c k 0 0 []) (.exit 0) (rso_S0 c k s'0 o'1.length (o'1.map intP))) {base : Nat} : FV Tryz.prog 50 [(.p (cupP c)), (.p (intP k))] base (.tup [(.p (intsP o'1)), (.p (intP 0))]) [] := by
  exact FV.frz (FMM.fin (k := 0) (g := ⟨[], [], [1], []⟩) rfl Tryz.func50 rfl (o := [.c (.p (intP (checkP c))) [], .b false, .c (.p (blP (outB k (0 : Int) ((c.done.length : Int) - (1 : Int))))) [], .b false, .k 6 ⟨(rng [(0, 1), (3, 1), (6, 1), (9, 28)]), [0, 1], [], [(7, 3)]⟩ (.exit 0) (rso_S0 c k s'0 o'1.length (o'1.map intP))]) (l := [_, _, FC Tryz.prog 101 [(.p (intP k)), (.p (intP 0)), (.p (intP ((c.done.length : Int) - (1 : Int))))] [] 1 (.p (blP (outB k (0 : Int) ((c.done.length : Int) - (1 : Int))))) [], _, _, FC Tryz.prog 43 [(.p (cupP c))] [] 1 (.p (intP (checkP c))) []]) (by kernel_rfl) (gc hl4.code (gc h3 (gc (FV.fc (outs_ok k (0 : Int) ((c.done.length : Int) - (1 : Int))) rfl) (gc h2 (gc (q_neF h1) (gc (FV.fc (chk_ok c h0) rfl) gn))))))) (by kernel_rfl)
theorem rso_L0_p0 {c : Cup} {k : Int} {s : Nat} {o x100 : List Int} {s' : Nat} {o' : List Int} (h0 : (s : Int) < c.sk) (h1 : c.done[k.toNat]? = some x100) (h2 : 0 ≤ k) (h3 : KL.Valid c) (h4 : x100.length ≤ 1000) (h5 : ∀ x ∈ x100, 0 ≤ x ∧ x ≤ 60) (h6 : 0 ≤ (s : Int) ∧ (s : Int) < x100.length) (h7 : [(intP (scoreM c.pts x100 (s : Int).toNat))].length = 1 * 1 ∧ o.length + 1 ≤ 1000000) (h8 : inR (((s + 1) : Nat) : Int)) (es' : s' = (s + 1)) (eo'n : o'.length = (o.length + 1)) (eo'c : o'.map intP = ((o.map intP) ++ [(intP (scoreM c.pts x100 (s : Int).toNat))])) : CodeOK Tryz.prog 0 zU3c4 (rso_S0 c k s o.length (o.map intP)) .normal (rso_S0 c k s' o'.length (o'.map intP)) := by
  subst es'
  have raw : CodeOK Tryz.prog 0 zU3c4 (rso_S0 c k s o.length (o.map intP)) .normal (rso_S0 c k (s + 1) (o.length + 1) ((o.map intP) ++ [(intP (scoreM c.pts x100 (s : Int).toNat))])) := CodeOK.fin (g := ⟨(rng [(0, 1), (3, 1), (6, 1), (9, 28)]), [0, 7], [], []⟩) (o := [.b true, .x (intsP x100), .c (.p (intP (scoreM c.pts x100 (s : Int).toNat))) []]) (l := [_, _, FC Tryz.prog 124 [(.p (cupP c)), (.p (intsP x100)), (.p (intP (s : Int)))] [] 2 (.p (intP (scoreM c.pts x100 (s : Int).toNat))) [], (c.done.map intsP)[(k.toNat * 1)]? = some (intsP x100), 0 ≤ k ∧ k < (c.done.length : Int) ∧ (k.toNat * 1) < (c.done.map intsP).length, _]) (by kernel_rfl) (gc h8 (gc h7 (gc (FV.fc (rsc_ok c x100 (s : Int) h3 h4 h5 h6) rfl) (gc (at_map (i := k.toNat) h1) (gc (ix_map (i := k) h2 h1) (gc (q_lt h0) gn))))))
  exact raw.cast (by rw [eo'n, eo'c])
theorem rso_L0_p1 {c : Cup} {k : Int} {s : Nat} {o : List Int} (h0 : c.sk ≤ (s : Int)) : CodeOK Tryz.prog 0 zU3c4 (rso_S0 c k s o.length (o.map intP)) (.exit 0) (rso_S0 c k s o.length (o.map intP)) := by
  exact CodeOK.fin (g := ⟨(rng [(0, 1), (3, 1), (6, 1), (9, 28)]), [0, 1], [], []⟩) (o := [.b false]) (l := [_]) (by kernel_rfl) (gc (q_ltF h0) gn)
theorem rso_ok (c : Cup) (hV : KL.Valid c) (k : Int) (hk : 0 ≤ k ∧ k < c.done.length) {base : Nat} : FV Tryz.prog 50 [.p (cupP c), .p (intP k)] base (.tup [.p (intsP (scoreL c (c.done.getD k.toNat []))), .p (intP 0)]) [] := by
  have s1 := hV.sk1
  have s2 := hV.sk2
  have hS := hV.small
  have hd := hS.done
  have hx : c.done[k.toNat]? = some (c.done.getD k.toNat []) := by
    rw [List.getD_eq_getElem?_getD, List.getElem?_eq_getElem (by omega)]; rfl
  have hm := List.mem_of_getElem? hx
  have hl := hV.len _ hm
  have h := LoopOK.count (P := Tryz.prog) (k := 0) (b := zU3c4) (e := .exit 0) (R := rso_S0 c k c.sk.toNat (scoreL c (c.done.getD k.toNat [])).length ((scoreL c (c.done.getD k.toNat [])).map intP)) c.sk.toNat (fun i => rso_S0 c k i ((List.range i).map fun s => scoreM c.pts (c.done.getD k.toNat []) s).length (((List.range i).map fun s => scoreM c.pts (c.done.getD k.toNat []) s).map intP))
    (fun i hi => rso_L0_p0 (o' := (List.range (i + 1)).map fun s => scoreM c.pts (c.done.getD k.toNat []) s) (by omega) hx hk.1 hV (by omega) (hV.rows _ hm) (by omega) (by simp; omega) (inR_nat (by omega)) rfl (by simp) (by rw [List.range_succ, List.map_append, List.map_append]; rfl))
    (rso_L0_p1 (by omega)) (by simp)
  exact rso_p2 hS ((KL.valid_iff c).2 hV) (by unfold inR; omega) (by simp [outB]; omega) h
theorem rso_err (c : Cup) (hS : KL.Small c) (k : Int) (h : checkP c ≠ 0) {base : Nat} : FV Tryz.prog 50 [.p (cupP c), .p (intP k)] base (.tup [.p nilS, .p (intP (checkP c))]) [] := rso_p0 hS h rfl
theorem rso_out (c : Cup) (hV : KL.Valid c) (k : Int) (h : k < 0 ∨ (c.done.length : Int) ≤ k) {base : Nat} : FV Tryz.prog 50 [.p (cupP c), .p (intP k)] base (.tup [.p nilS, .p (intP 1)]) [] := by
  have := hV.small.done
  exact rso_p1 hV.small ((KL.valid_iff c).2 hV) (by unfold inR; omega) (by simp [outB]; omega)
def rcn_S0 (c : Cup) (k : Int) (i : Nat) (on : Nat) (oc : List PV) : St := ⟨fr 65 [(1, (.p (intP k))), (2, (.ptr 0 0)), (4, (.p nilS)), (5, (.own 1)), (6, (.p (intP (i : Int))))], [some (.box 37 [(.p (intP c.sk)), (.p (intP c.ra)), (.p (intP c.be)), (.p (intsP c.pts)), (.p (rowsP c.done))]), some (.row 3 on oc)]⟩
theorem rcn_p0 {c : Cup} {k : Int} {i'0 : Nat} {o'1 : List Int} (hl0 : LoopOK Tryz.prog 0 zU3c3 (rcn_S0 c k 0 0 []) (.exit 0) (rcn_S0 c k i'0 o'1.length (o'1.map intP))) {base : Nat} : FV Tryz.prog 53 [(.p (cupP c)), (.p (intP k))] base (.p (intsP o'1)) [] := by
  exact FV.frz (FMM.fin (k := 0) (g := ⟨[], [], [1], []⟩) rfl Tryz.func53 rfl (o := [.k 8 ⟨(rng [(0, 1), (3, 1), (7, 57)]), [0, 1], [], [(5, 3)]⟩ (.exit 0) (rcn_S0 c k i'0 o'1.length (o'1.map intP))]) (l := [_]) (by kernel_rfl) (gc hl0.code gn)) (by kernel_rfl)
def rcn_S1 (c : Cup) (k : Int) (i : Nat) (o : List Int) (j : Nat) (n : Nat) : St := ⟨fr 65 [(1, (.p (intP k))), (2, (.ptr 0 0)), (4, (.p nilS)), (5, (.own 1)), (6, (.p (intP (i : Int)))), (7, (.p (intP (n : Int)))), (8, (.p (intP (j : Int)))), (11, (.p (intP (i : Int)))), (12, (.ptr 0 4)), (13, (.p (rowsP c.done))), (14, (.p (intP (c.done.length : Int)))), (15, (.p (blP (decide ((i : Int) < (c.done.length : Int))))))], [some (.box 37 [(.p (intP c.sk)), (.p (intP c.ra)), (.p (intP c.be)), (.p (intsP c.pts)), (.p (rowsP c.done))]), some (.row 3 o.length (o.map intP))]⟩
theorem rcn_L0_p0 {c : Cup} {k : Int} {i : Nat} {o : List Int} {j'100 n'101 i' : Nat} {o' : List Int} (h0 : (i : Int) < (c.done.length : Int)) (hl1 : LoopOK Tryz.prog 0 zU3c1 (rcn_S1 c k i o 0 0) (.exit 2) (rcn_S1 c k i o j'100 n'101)) (h2 : (n'101 : Int) < c.be) (h3 : [(intP (i : Int))].length = 1 * 1 ∧ o.length + 1 ≤ 1000000) (h4 : inR (((i + 1) : Nat) : Int)) (ei' : i' = (i + 1)) (eo'n : o'.length = (o.length + 1)) (eo'c : o'.map intP = ((o.map intP) ++ [(intP (i : Int))])) : CodeOK Tryz.prog 0 zU3c3 (rcn_S0 c k i o.length (o.map intP)) .normal (rcn_S0 c k i' o'.length (o'.map intP)) := by
  subst ei'
  have raw : CodeOK Tryz.prog 0 zU3c3 (rcn_S0 c k i o.length (o.map intP)) .normal (rcn_S0 c k (i + 1) (o.length + 1) ((o.map intP) ++ [(intP (i : Int))])) := CodeOK.fin (g := ⟨(rng [(0, 1), (3, 1), (7, 57)]), [0, 3], [], []⟩) (o := [.b true, .k 8 ⟨(rng [(0, 1), (3, 1), (9, 2), (18, 38)]), [0, 1], [], []⟩ (.exit 2) (rcn_S1 c k i o j'100 n'101), .b true]) (l := [_, _, _, _, _]) (by kernel_rfl) (gc h4 (gc h3 (gc (q_lt h2) (gc hl1.code (gc (q_lt h0) gn)))))
  exact raw.cast (by rw [eo'n, eo'c])
theorem rcn_L0_p1 {c : Cup} {k : Int} {i : Nat} {o : List Int} {j'100 n'101 i' : Nat} (h0 : (i : Int) < (c.done.length : Int)) (hl1 : LoopOK Tryz.prog 0 zU3c1 (rcn_S1 c k i o 0 0) (.exit 2) (rcn_S1 c k i o j'100 n'101)) (h2 : c.be ≤ (n'101 : Int)) (h3 : inR (((i + 1) : Nat) : Int)) (ei' : i' = (i + 1)) : CodeOK Tryz.prog 0 zU3c3 (rcn_S0 c k i o.length (o.map intP)) .normal (rcn_S0 c k i' o.length (o.map intP)) := by
  subst ei'
  exact CodeOK.fin (g := ⟨(rng [(0, 1), (3, 1), (7, 57)]), [0, 1], [], []⟩) (o := [.b true, .k 8 ⟨(rng [(0, 1), (3, 1), (9, 2), (18, 38)]), [0, 1], [], []⟩ (.exit 2) (rcn_S1 c k i o j'100 n'101), .b false]) (l := [_, _, _, _]) (by kernel_rfl) (gc h3 (gc (q_ltF h2) (gc hl1.code (gc (q_lt h0) gn))))
theorem rcn_L0_p2 {c : Cup} {k : Int} {i : Nat} {o : List Int} (h0 : (c.done.length : Int) ≤ (i : Int)) : CodeOK Tryz.prog 0 zU3c3 (rcn_S0 c k i o.length (o.map intP)) (.exit 0) (rcn_S0 c k i o.length (o.map intP)) := by
  exact CodeOK.fin (g := ⟨(rng [(0, 1), (3, 1), (7, 57)]), [0, 1], [], []⟩) (o := [.b false]) (l := [_]) (by kernel_rfl) (gc (q_ltF h0) gn)
theorem rcn_L1_p0 {c : Cup} {k : Int} {i : Nat} {o : List Int} {j n : Nat} {x200 x201 : List Int} {j' n' : Nat} (h0 : (j : Int) < (c.done.length : Int)) (h1 : c.done[i]? = some x200) (h2 : KL.Valid c) (h3 : x200.length ≤ 1000) (h4 : ∀ x ∈ x200, 0 ≤ x ∧ x ≤ 60) (h5 : 0 ≤ k ∧ k < x200.length) (h6 : c.done[j]? = some x201) (h7 : x201.length ≤ 1000) (h8 : ∀ x ∈ x201, 0 ≤ x ∧ x ≤ 60) (h9 : 0 ≤ k ∧ k < x201.length) (h10 : (scoreM c.pts x200 k.toNat) < (scoreM c.pts x201 k.toNat)) (h11 : inR (((n + 1) : Nat) : Int)) (h12 : inR (((j + 1) : Nat) : Int)) (ej' : j' = (j + 1)) (en' : n' = (n + 1)) : CodeOK Tryz.prog 0 zU3c1 (rcn_S1 c k i o j n) .normal (rcn_S1 c k i o j' n') := by
  subst ej' en'
  exact CodeOK.fin (g := ⟨(rng [(0, 1), (3, 1), (9, 2), (18, 38)]), [0, 1], [], []⟩) (o := [.b true, .x (intsP x200), .c (.p (intP (scoreM c.pts x200 k.toNat))) [], .x (intsP x201), .c (.p (intP (scoreM c.pts x201 k.toNat))) [], .b true, .b true, .b true, .b true, .b true, .b true]) (l := [_, _, _, _, _, _, _, _, FC Tryz.prog 124 [(.p (cupP c)), (.p (intsP x201)), (.p (intP k))] [] 6 (.p (intP (scoreM c.pts x201 k.toNat))) [], (c.done.map intsP)[(j * 1)]? = some (intsP x201), 0 ≤ (j : Int) ∧ (j : Int) < (c.done.length : Int) ∧ (j * 1) < (c.done.map intsP).length, FC Tryz.prog 124 [(.p (cupP c)), (.p (intsP x200)), (.p (intP k))] [] 2 (.p (intP (scoreM c.pts x200 k.toNat))) [], (c.done.map intsP)[(i * 1)]? = some (intsP x200), 0 ≤ (i : Int) ∧ (i : Int) < (c.done.length : Int) ∧ (i * 1) < (c.done.map intsP).length, _]) (by kernel_rfl) (gc h12 (gc h11 (gc (q_lt h10) (gc (q_lt h10) (gc (q_lt h10) (gc (q_lt h10) (gc (q_lt h10) (gc (q_lt h10) (gc (FV.fc (rsc_ok c x201 k h2 h7 h8 h9) rfl) (gc (at_map (i := j) h6) (gc (ix_map (i := (j : Int)) (Int.natCast_nonneg _) h6) (gc (FV.fc (rsc_ok c x200 k h2 h3 h4 h5) rfl) (gc (at_map (i := i) h1) (gc (ix_map (i := (i : Int)) (Int.natCast_nonneg _) h1) (gc (q_lt h0) gn)))))))))))))))
theorem rcn_L1_p1 {c : Cup} {k : Int} {i : Nat} {o : List Int} {j n : Nat} {x200 x201 : List Int} {j' n' : Nat} (h0 : (j : Int) < (c.done.length : Int)) (h1 : c.done[i]? = some x200) (h2 : KL.Valid c) (h3 : x200.length ≤ 1000) (h4 : ∀ x ∈ x200, 0 ≤ x ∧ x ≤ 60) (h5 : 0 ≤ k ∧ k < x200.length) (h6 : c.done[j]? = some x201) (h7 : x201.length ≤ 1000) (h8 : ∀ x ∈ x201, 0 ≤ x ∧ x ≤ 60) (h9 : 0 ≤ k ∧ k < x201.length) (h10 : (scoreM c.pts x201 k.toNat) ≤ (scoreM c.pts x200 k.toNat)) (h11 : (scoreM c.pts x201 k.toNat) = (scoreM c.pts x200 k.toNat)) (h12 : (j : Int) < (i : Int)) (h13 : inR (((n + 1) : Nat) : Int)) (h14 : inR (((j + 1) : Nat) : Int)) (ej' : j' = (j + 1)) (en' : n' = (n + 1)) : CodeOK Tryz.prog 0 zU3c1 (rcn_S1 c k i o j n) .normal (rcn_S1 c k i o j' n') := by
  subst ej' en'
  exact CodeOK.fin (g := ⟨(rng [(0, 1), (3, 1), (9, 2), (18, 38)]), [0, 1], [], []⟩) (o := [.b true, .x (intsP x200), .c (.p (intP (scoreM c.pts x200 k.toNat))) [], .x (intsP x201), .c (.p (intP (scoreM c.pts x201 k.toNat))) [], .b false, .b false, .b false, .b false, .b true, .b true, .b true, .b false, .b true, .b false, .b true]) (l := [_, _, _, _, _, _, _, _, _, _, _, _, _, FC Tryz.prog 124 [(.p (cupP c)), (.p (intsP x201)), (.p (intP k))] [] 6 (.p (intP (scoreM c.pts x201 k.toNat))) [], (c.done.map intsP)[(j * 1)]? = some (intsP x201), 0 ≤ (j : Int) ∧ (j : Int) < (c.done.length : Int) ∧ (j * 1) < (c.done.map intsP).length, FC Tryz.prog 124 [(.p (cupP c)), (.p (intsP x200)), (.p (intP k))] [] 2 (.p (intP (scoreM c.pts x200 k.toNat))) [], (c.done.map intsP)[(i * 1)]? = some (intsP x200), 0 ≤ (i : Int) ∧ (i : Int) < (c.done.length : Int) ∧ (i * 1) < (c.done.map intsP).length, _]) (by kernel_rfl) (gc h14 (gc h13 (gc (q_lt h12) (gc (q_ltF h10) (gc (q_eq h11) (gc (q_ltF h10) (gc (q_eq h11) (gc (q_eq h11) (gc (q_eq h11) (gc (q_ltF h10) (gc (q_ltF h10) (gc (q_ltF h10) (gc (q_ltF h10) (gc (FV.fc (rsc_ok c x201 k h2 h7 h8 h9) rfl) (gc (at_map (i := j) h6) (gc (ix_map (i := (j : Int)) (Int.natCast_nonneg _) h6) (gc (FV.fc (rsc_ok c x200 k h2 h3 h4 h5) rfl) (gc (at_map (i := i) h1) (gc (ix_map (i := (i : Int)) (Int.natCast_nonneg _) h1) (gc (q_lt h0) gn))))))))))))))))))))
theorem rcn_L1_p2 {c : Cup} {k : Int} {i : Nat} {o : List Int} {j n : Nat} {x200 x201 : List Int} {j' : Nat} (h0 : (j : Int) < (c.done.length : Int)) (h1 : c.done[i]? = some x200) (h2 : KL.Valid c) (h3 : x200.length ≤ 1000) (h4 : ∀ x ∈ x200, 0 ≤ x ∧ x ≤ 60) (h5 : 0 ≤ k ∧ k < x200.length) (h6 : c.done[j]? = some x201) (h7 : x201.length ≤ 1000) (h8 : ∀ x ∈ x201, 0 ≤ x ∧ x ≤ 60) (h9 : 0 ≤ k ∧ k < x201.length) (h10 : (scoreM c.pts x201 k.toNat) ≤ (scoreM c.pts x200 k.toNat)) (h11 : (scoreM c.pts x201 k.toNat) = (scoreM c.pts x200 k.toNat)) (h12 : (i : Int) ≤ (j : Int)) (h13 : inR (((j + 1) : Nat) : Int)) (ej' : j' = (j + 1)) : CodeOK Tryz.prog 0 zU3c1 (rcn_S1 c k i o j n) .normal (rcn_S1 c k i o j' n) := by
  subst ej'
  exact CodeOK.fin (g := ⟨(rng [(0, 1), (3, 1), (9, 2), (18, 38)]), [0, 1], [], []⟩) (o := [.b true, .x (intsP x200), .c (.p (intP (scoreM c.pts x200 k.toNat))) [], .x (intsP x201), .c (.p (intP (scoreM c.pts x201 k.toNat))) [], .b false, .b false, .b false, .b false, .b true, .b true, .b true, .b false, .b true, .b false, .b false]) (l := [_, _, _, _, _, _, _, _, _, _, _, _, FC Tryz.prog 124 [(.p (cupP c)), (.p (intsP x201)), (.p (intP k))] [] 6 (.p (intP (scoreM c.pts x201 k.toNat))) [], (c.done.map intsP)[(j * 1)]? = some (intsP x201), 0 ≤ (j : Int) ∧ (j : Int) < (c.done.length : Int) ∧ (j * 1) < (c.done.map intsP).length, FC Tryz.prog 124 [(.p (cupP c)), (.p (intsP x200)), (.p (intP k))] [] 2 (.p (intP (scoreM c.pts x200 k.toNat))) [], (c.done.map intsP)[(i * 1)]? = some (intsP x200), 0 ≤ (i : Int) ∧ (i : Int) < (c.done.length : Int) ∧ (i * 1) < (c.done.map intsP).length, _]) (by kernel_rfl) (gc h13 (gc (q_ltF h12) (gc (q_ltF h10) (gc (q_eq h11) (gc (q_ltF h10) (gc (q_eq h11) (gc (q_eq h11) (gc (q_eq h11) (gc (q_ltF h10) (gc (q_ltF h10) (gc (q_ltF h10) (gc (q_ltF h10) (gc (FV.fc (rsc_ok c x201 k h2 h7 h8 h9) rfl) (gc (at_map (i := j) h6) (gc (ix_map (i := (j : Int)) (Int.natCast_nonneg _) h6) (gc (FV.fc (rsc_ok c x200 k h2 h3 h4 h5) rfl) (gc (at_map (i := i) h1) (gc (ix_map (i := (i : Int)) (Int.natCast_nonneg _) h1) (gc (q_lt h0) gn)))))))))))))))))))
theorem rcn_L1_p3 {c : Cup} {k : Int} {i : Nat} {o : List Int} {j n : Nat} {x200 x201 : List Int} {j' : Nat} (h0 : (j : Int) < (c.done.length : Int)) (h1 : c.done[i]? = some x200) (h2 : KL.Valid c) (h3 : x200.length ≤ 1000) (h4 : ∀ x ∈ x200, 0 ≤ x ∧ x ≤ 60) (h5 : 0 ≤ k ∧ k < x200.length) (h6 : c.done[j]? = some x201) (h7 : x201.length ≤ 1000) (h8 : ∀ x ∈ x201, 0 ≤ x ∧ x ≤ 60) (h9 : 0 ≤ k ∧ k < x201.length) (h10 : (scoreM c.pts x201 k.toNat) ≤ (scoreM c.pts x200 k.toNat)) (h11 : (scoreM c.pts x201 k.toNat) ≠ (scoreM c.pts x200 k.toNat)) (h12 : inR (((j + 1) : Nat) : Int)) (ej' : j' = (j + 1)) : CodeOK Tryz.prog 0 zU3c1 (rcn_S1 c k i o j n) .normal (rcn_S1 c k i o j' n) := by
  subst ej'
  exact CodeOK.fin (g := ⟨(rng [(0, 1), (3, 1), (9, 2), (18, 38)]), [0, 1], [], []⟩) (o := [.b true, .x (intsP x200), .c (.p (intP (scoreM c.pts x200 k.toNat))) [], .x (intsP x201), .c (.p (intP (scoreM c.pts x201 k.toNat))) [], .b false, .b false, .b false, .b false, .b false, .b false, .b false, .b false, .b false, .b false]) (l := [_, _, _, _, _, _, _, _, _, _, _, FC Tryz.prog 124 [(.p (cupP c)), (.p (intsP x201)), (.p (intP k))] [] 6 (.p (intP (scoreM c.pts x201 k.toNat))) [], (c.done.map intsP)[(j * 1)]? = some (intsP x201), 0 ≤ (j : Int) ∧ (j : Int) < (c.done.length : Int) ∧ (j * 1) < (c.done.map intsP).length, FC Tryz.prog 124 [(.p (cupP c)), (.p (intsP x200)), (.p (intP k))] [] 2 (.p (intP (scoreM c.pts x200 k.toNat))) [], (c.done.map intsP)[(i * 1)]? = some (intsP x200), 0 ≤ (i : Int) ∧ (i : Int) < (c.done.length : Int) ∧ (i * 1) < (c.done.map intsP).length, _]) (by kernel_rfl) (gc h12 (gc (q_ltF h10) (gc (q_ne h11) (gc (q_ltF h10) (gc (q_ne h11) (gc (q_ne h11) (gc (q_ne h11) (gc (q_ltF h10) (gc (q_ltF h10) (gc (q_ltF h10) (gc (q_ltF h10) (gc (FV.fc (rsc_ok c x201 k h2 h7 h8 h9) rfl) (gc (at_map (i := j) h6) (gc (ix_map (i := (j : Int)) (Int.natCast_nonneg _) h6) (gc (FV.fc (rsc_ok c x200 k h2 h3 h4 h5) rfl) (gc (at_map (i := i) h1) (gc (ix_map (i := (i : Int)) (Int.natCast_nonneg _) h1) (gc (q_lt h0) gn))))))))))))))))))
theorem rcn_L1_p4 {c : Cup} {k : Int} {i : Nat} {o : List Int} {j n : Nat} (h0 : (c.done.length : Int) ≤ (j : Int)) : CodeOK Tryz.prog 0 zU3c1 (rcn_S1 c k i o j n) (.exit 2) (rcn_S1 c k i o j n) := by
  exact CodeOK.fin (g := ⟨(rng [(0, 1), (3, 1), (9, 2), (18, 38)]), [0, 1], [], []⟩) (o := [.b false]) (l := [_]) (by kernel_rfl) (gc (q_ltF h0) gn)
theorem cntdR_succ (c : Cup) (s n : Nat) : cntdR c s (n + 1) = cntdR c s n ++ if (befM c s n : Int) < c.be then [(n : Int)] else [] := by
  unfold cntdR
  rw [List.range_succ, List.filter_append, List.map_append]
  by_cases e : (befM c s n : Int) < c.be
  · rw [if_pos e, List.filter_cons_of_pos (by simpa using e)]; rfl
  · rw [if_neg e, List.filter_cons_of_neg (by simpa using e)]; rfl
theorem cntdR_len (c : Cup) (s n : Nat) : (cntdR c s n).length ≤ n := by
  unfold cntdR
  rw [List.length_map]
  exact Nat.le_trans (List.length_filter_le _ _) (by simp)
theorem rcn_ok (c : Cup) (k : Int) (hV : KL.Valid c) (hk : 0 ≤ k ∧ k < c.sk) {base : Nat} : FV Tryz.prog 53 [.p (cupP c), .p (intP k)] base (.p (intsP (countedL c k.toNat))) [] := by
  have s1 := hV.sk1
  have hd := hV.small.done
  have b1 := hV.be1
  have hS := hV.sk2
  have row : ∀ i, i < c.done.length → ∃ x, c.done[i]? = some x ∧ x.length ≤ 1000 ∧ (∀ y ∈ x, 0 ≤ y ∧ y ≤ 60) ∧ (0 ≤ k ∧ k < x.length) ∧ scoreM c.pts x k.toNat = scoreAt c i k.toNat := fun i hi => by
    have hx := List.getElem?_eq_getElem hi
    have hm := List.mem_of_getElem? hx
    have hl := hV.len _ hm
    refine ⟨_, hx, by omega, hV.rows _ hm, ⟨hk.1, by omega⟩, ?_⟩
    unfold scoreAt
    rw [List.getD_eq_getElem?_getD, hx]; rfl
  have inner : ∀ i, i < c.done.length → ∀ o : List Int, LoopOK Tryz.prog 0 zU3c1 (rcn_S1 c k i o 0 0) (.exit 2) (rcn_S1 c k i o c.done.length (befM c k.toNat i)) := fun i hi o => by
    obtain ⟨x, x1, x2, x3, x4, x5⟩ := row i hi
    refine LoopOK.count (P := Tryz.prog) (k := 0) (e := .exit 2) c.done.length (fun j => rcn_S1 c k i o j ((List.range j).countP fun q => bfB c k.toNat i q)) (fun j hj => ?_) (rcn_L1_p4 (by omega)) (by simp)
    obtain ⟨y, y1, y2, y3, y4, y5⟩ := row j hj
    have hb : ((List.range j).countP fun q => bfB c k.toNat i q) ≤ j := by
      have := List.countP_le_length (p := fun q => bfB c k.toNat i q) (l := List.range j)
      simpa using this
    have es : ((List.range (j + 1)).countP fun q => bfB c k.toNat i q) = ((List.range j).countP fun q => bfB c k.toNat i q) + if bfB c k.toNat i j = true then 1 else 0 := by
      rw [List.range_succ, List.countP_append, List.countP_singleton]
    by_cases e1 : scoreM c.pts x k.toNat < scoreM c.pts y k.toNat
    · have eb : bfB c k.toNat i j = true := by unfold bfB; rw [← x5, ← y5]; simp [e1]
      rw [if_pos eb] at es
      exact rcn_L1_p0 (by omega) x1 hV x2 x3 x4 y1 y2 y3 y4 e1 (inR_nat (by omega)) (inR_nat (by omega)) rfl es
    · by_cases e2 : scoreM c.pts y k.toNat = scoreM c.pts x k.toNat
      · by_cases e3 : j < i
        · have eb : bfB c k.toNat i j = true := by unfold bfB; rw [← x5, ← y5]; simp [e2, e3]
          rw [if_pos eb] at es
          exact rcn_L1_p1 (by omega) x1 hV x2 x3 x4 y1 y2 y3 y4 (by omega) e2 (by omega) (inR_nat (by omega)) (inR_nat (by omega)) rfl es
        · have eb : bfB c k.toNat i j = false := by unfold bfB; rw [← x5, ← y5]; simp [e2, e3]
          rw [if_neg (by rw [eb]; simp), Nat.add_zero] at es
          rw [es]
          exact rcn_L1_p2 (by omega) x1 hV x2 x3 x4 y1 y2 y3 y4 (by omega) e2 (by omega) (inR_nat (by omega)) rfl
      · have eb : bfB c k.toNat i j = false := by unfold bfB; rw [← x5, ← y5]; simp [e1, e2]
        rw [if_neg (by rw [eb]; simp), Nat.add_zero] at es
        rw [es]
        exact rcn_L1_p3 (by omega) x1 hV x2 x3 x4 y1 y2 y3 y4 (by omega) e2 (inR_nat (by omega)) rfl
  have h := LoopOK.count (P := Tryz.prog) (k := 0) (b := zU3c3) (e := .exit 0) (R := rcn_S0 c k c.done.length (cntdR c k.toNat c.done.length).length ((cntdR c k.toNat c.done.length).map intP)) c.done.length (fun i => rcn_S0 c k i (cntdR c k.toNat i).length ((cntdR c k.toNat i).map intP))
    (fun i hi => by
      have es := cntdR_succ c k.toNat i
      have hl := cntdR_len c k.toNat i
      by_cases e : (befM c k.toNat i : Int) < c.be
      · rw [if_pos e] at es
        exact rcn_L0_p0 (o := cntdR c k.toNat i) (o' := cntdR c k.toNat (i + 1)) (by omega) (inner i hi _) e (by simp; omega) (inR_nat (by omega)) rfl (by rw [es]; simp) (by rw [es]; simp)
      · rw [if_neg e, List.append_nil] at es
        rw [es]
        exact rcn_L0_p1 (by omega) (inner i hi _) (by omega) (inR_nat (by omega)) rfl)
    (rcn_L0_p2 (by omega)) (by simp)
  rw [cntd_ref c k.toNat (by omega)]
  exact rcn_p0 h
def rto_S0 (c : Cup) (k : Int) (i : Nat) (n : Int) : St := ⟨fr 31 [(1, (.p (intP k))), (2, (.ptr 0 0)), (4, (.p (intP 0))), (5, (.p (intsP (countedL c k.toNat)))), (6, (.p (intP n))), (7, (.p (intP (i : Int))))], [some (.box 37 [(.p (intP c.sk)), (.p (intP c.ra)), (.p (intP c.be)), (.p (intsP c.pts)), (.p (rowsP c.done))])]⟩
theorem rto_p0 {c : Cup} {k : Int} {i'0 : Nat} {n'1 : Int} (h0 : KL.Valid c) (h1 : 0 ≤ k ∧ k < c.sk) (hl2 : LoopOK Tryz.prog 0 zU3c5 (rto_S0 c k 0 (0 : Int)) (.exit 0) (rto_S0 c k i'0 n'1)) {base : Nat} : FV Tryz.prog 52 [(.p (cupP c)), (.p (intP k))] base (.p (intP n'1)) [] := by
  exact FV.fin Tryz.func52 rfl (o := [.c (.p (intsP (countedL c k.toNat))) [], .k 6 ⟨(rng [(0, 1), (3, 1), (8, 22)]), [0], [], []⟩ (.exit 0) (rto_S0 c k i'0 n'1)]) (l := [_, FC Tryz.prog 53 [(.p (cupP c)), (.p (intP k))] [] 1 (.p (intsP (countedL c k.toNat))) []]) (by kernel_rfl) (gc hl2.code (gc (FV.fc (rcn_ok c k h0 h1) rfl) gn))
theorem rto_L0_p0 {c : Cup} {k : Int} {i : Nat} {n x100 : Int} {x101 : List Int} {i' : Nat} {n' : Int} (h0 : (i : Int) < (((countedL c k.toNat).length : Nat) : Int)) (h1 : (countedL c k.toNat)[i]? = some x100) (h2 : c.done[x100.toNat]? = some x101) (h3 : 0 ≤ x100) (h4 : KL.Valid c) (h5 : x101.length ≤ 1000) (h6 : ∀ x ∈ x101, 0 ≤ x ∧ x ≤ 60) (h7 : 0 ≤ k ∧ k < x101.length) (h8 : inR (n + (scoreM c.pts x101 k.toNat))) (h9 : inR (((i + 1) : Nat) : Int)) (ei' : i' = (i + 1)) (en' : n' = (n + (scoreM c.pts x101 k.toNat))) : CodeOK Tryz.prog 0 zU3c5 (rto_S0 c k i n) .normal (rto_S0 c k i' n') := by
  subst ei' en'
  exact CodeOK.fin (g := ⟨(rng [(0, 1), (3, 1), (8, 22)]), [0], [], []⟩) (o := [.b true, .x (intP x100), .x (intsP x101), .c (.p (intP (scoreM c.pts x101 k.toNat))) []]) (l := [_, _, FC Tryz.prog 124 [(.p (cupP c)), (.p (intsP x101)), (.p (intP k))] [] 1 (.p (intP (scoreM c.pts x101 k.toNat))) [], (c.done.map intsP)[(x100.toNat * 1)]? = some (intsP x101), 0 ≤ x100 ∧ x100 < (c.done.length : Int) ∧ (x100.toNat * 1) < (c.done.map intsP).length, ((countedL c k.toNat).map intP)[(i * 1)]? = some (intP x100), 0 ≤ (i : Int) ∧ (i : Int) < (((countedL c k.toNat).length : Nat) : Int) ∧ (i * 1) < ((countedL c k.toNat).map intP).length, _]) (by kernel_rfl) (gc h9 (gc h8 (gc (FV.fc (rsc_ok c x101 k h4 h5 h6 h7) rfl) (gc (at_map (i := x100.toNat) h2) (gc (ix_map (i := x100) h3 h2) (gc (at_map (i := i) h1) (gc (ix_map (i := (i : Int)) (Int.natCast_nonneg _) h1) (gc (q_lt h0) gn))))))))
theorem rto_L0_p1 {c : Cup} {k : Int} {i : Nat} {n : Int} (h0 : (((countedL c k.toNat).length : Nat) : Int) ≤ (i : Int)) : CodeOK Tryz.prog 0 zU3c5 (rto_S0 c k i n) (.exit 0) (rto_S0 c k i n) := by
  exact CodeOK.fin (g := ⟨(rng [(0, 1), (3, 1), (8, 22)]), [0], [], []⟩) (o := [.b false]) (l := [_]) (by kernel_rfl) (gc (q_ltF h0) gn)
theorem rto_ok (c : Cup) (k : Int) (hV : KL.Valid c) (hk : 0 ≤ k ∧ k < c.sk) {base : Nat} : FV Tryz.prog 52 [.p (cupP c), .p (intP k)] base (.p (intP (totalM c k.toNat))) [] := by
  have s1 := hV.sk1
  have b1 := hV.be1
  have s2 := hV.sk2
  have hd := hV.small.done
  obtain ⟨L, hL⟩ : ∃ L, L = countedL c k.toNat := ⟨_, rfl⟩
  have hll : L.length ≤ 1000 := by
    rw [hL, cntd_ref c k.toNat (by omega)]
    exact Nat.le_trans (cntdR_len c k.toNat c.done.length) hd
  have hmem : ∀ x ∈ L, 0 ≤ x ∧ x < c.done.length := fun x hx => by
    rw [hL, cntd_ref c k.toNat (by omega)] at hx
    unfold cntdR at hx
    obtain ⟨i, hi, rfl⟩ := List.mem_map.1 hx
    have := List.mem_range.1 (List.mem_filter.1 hi).1
    omega
  have sb : ∀ m, ((L.take m).map fun i => scoreAt c i.toNat k.toNat).sum ≤ 1000 * (min m L.length) ∧ 0 ≤ ((L.take m).map fun i => scoreAt c i.toNat k.toNat).sum := fun m => by
    have := KL.sum_bd ((L.take m).map fun i => scoreAt c i.toNat k.toNat) (fun x hx => by
      obtain ⟨y, _, rfl⟩ := List.mem_map.1 hx
      exact KL.scoreM_bd _ _ _ hV.pts)
    rw [List.length_map, List.length_take] at this
    exact ⟨this.2, this.1⟩
  have h := LoopOK.count (P := Tryz.prog) (k := 0) (b := zU3c5) (e := .exit 0) (R := rto_S0 c k L.length ((L.map fun i => scoreAt c i.toNat k.toNat).sum)) L.length (fun i => rto_S0 c k i (((L.take i).map fun i => scoreAt c i.toNat k.toNat).sum))
    (fun i hi => by
      have hx := List.getElem?_eq_getElem hi
      have hm := hmem _ (List.mem_of_getElem? hx)
      have hr : c.done[L[i].toNat]? = some (c.done.getD L[i].toNat []) := by
        rw [List.getD_eq_getElem?_getD, List.getElem?_eq_getElem (by omega)]; rfl
      have hrm := List.mem_of_getElem? hr
      have hrl := hV.len _ hrm
      have es : ((L.take (i + 1)).map fun i => scoreAt c i.toNat k.toNat).sum = ((L.take i).map fun i => scoreAt c i.toNat k.toNat).sum + scoreM c.pts (c.done.getD L[i].toNat []) k.toNat := by
        rw [List.take_add_one, hx, List.map_append, List.sum_append]
        simp [scoreAt]
      have q := sb (i + 1)
      exact rto_L0_p0 (by rw [← hL]; omega) (by rw [← hL]; exact hx) hr hm.1 hV (by omega) (hV.rows _ hrm) ⟨hk.1, by omega⟩ (by rw [← es]; unfold inR; omega) (inR_nat (by omega)) rfl es)
    (by rw [List.take_length]; exact rto_L0_p1 (by rw [← hL]; omega)) (by simp)
  have ht : totalM c k.toNat = (L.map fun i => scoreAt c i.toNat k.toNat).sum := by rw [hL]; rfl
  rw [ht]
  exact rto_p0 hV hk h
def cntI (c : Cup) (s : Nat) (p : Int) : Nat := c.done.countP fun r => decide (r.getD s 0 = p)
def grt_S0 (c : Cup) (i : Nat) : St := ⟨fr 39 [(29, (.p (rowsP c.done))), (30, (.p (intP (c.done.length : Int)))), (31, (.p (intP (i : Int))))], []⟩
theorem grt_p0 {c : Cup} {k : Int} (h0 : k < c.sk) (h1 : c.sk ≤ (12 : Int)) {base : Nat} : FV Tryz.prog 18 [(.p (cupP c)), (.p (intP k))] base (.p (blP true)) [] := by
  exact FV.fin Tryz.func18 rfl (o := [.b true, .b true, .b true, .b true, .b true, .b true, .b true, .b true, .b true]) (l := [_, _, _, _, _, _, _, _, _]) (by kernel_rfl) (gc (q_le h1) (gc (q_le h1) (gc (q_le h1) (gc (q_le h1) (gc (q_le h1) (gc (q_lt h0) (gc (q_lt h0) (gc (q_lt h0) (gc (q_lt h0) gn)))))))))
theorem grt_p1 {c : Cup} {k : Int} (h0 : k < c.sk) (h1 : (12 : Int) < c.sk) (h2 : (65 : Int) < (c.pts.length : Int)) {base : Nat} : FV Tryz.prog 18 [(.p (cupP c)), (.p (intP k))] base (.p (blP true)) [] := by
  exact FV.fin Tryz.func18 rfl (o := [.b true, .b true, .b true, .b true, .b false, .b false, .b false, .b false, .b false, .b true, .b true, .b true, .b true, .b true]) (l := [_, _, _, _, _, _, _, _, _, _, _, _, _, _]) (by kernel_rfl) (gc (q_lt h2) (gc (q_lt h2) (gc (q_lt h2) (gc (q_lt h2) (gc (q_lt h2) (gc (q_leF h1) (gc (q_leF h1) (gc (q_leF h1) (gc (q_leF h1) (gc (q_leF h1) (gc (q_lt h0) (gc (q_lt h0) (gc (q_lt h0) (gc (q_lt h0) gn))))))))))))))
theorem grt_p2 {c : Cup} {k : Int} (h0 : k < c.sk) (h1 : (12 : Int) < c.sk) (h2 : (c.pts.length : Int) ≤ (65 : Int)) (h3 : (25 : Int) < (c.done.length : Int)) {base : Nat} : FV Tryz.prog 18 [(.p (cupP c)), (.p (intP k))] base (.p (blP true)) [] := by
  exact FV.fin Tryz.func18 rfl (o := [.b true, .b true, .b true, .b true, .b false, .b false, .b false, .b false, .b false, .b false, .b false, .b false, .b false, .b false, .b true]) (l := [_, _, _, _, _, _, _, _, _, _, _, _, _, _, _]) (by kernel_rfl) (gc (q_lt h3) (gc (q_ltF h2) (gc (q_ltF h2) (gc (q_ltF h2) (gc (q_ltF h2) (gc (q_ltF h2) (gc (q_leF h1) (gc (q_leF h1) (gc (q_leF h1) (gc (q_leF h1) (gc (q_leF h1) (gc (q_lt h0) (gc (q_lt h0) (gc (q_lt h0) (gc (q_lt h0) gn)))))))))))))))
theorem grt_p3 {c : Cup} {k : Int} {i'0 : Nat} (h0 : k < c.sk) (h1 : (12 : Int) < c.sk) (h2 : (c.pts.length : Int) ≤ (65 : Int)) (h3 : (c.done.length : Int) ≤ (25 : Int)) (hl4 : LoopOK Tryz.prog 0 zU3c0 (grt_S0 c 0) (.exit 0) (grt_S0 c i'0)) {base : Nat} : FV Tryz.prog 18 [(.p (cupP c)), (.p (intP k))] base (.p (blP false)) [] := by
  exact FV.fin Tryz.func18 rfl (o := [.b true, .b true, .b true, .b true, .b false, .b false, .b false, .b false, .b false, .b false, .b false, .b false, .b false, .b false, .b false, .k 4 ⟨(rng [(0, 29), (32, 7)]), [], [], []⟩ (.exit 0) (grt_S0 c i'0)]) (l := [_, _, _, _, _, _, _, _, _, _, _, _, _, _, _, _]) (by kernel_rfl) (gc hl4.code (gc (q_ltF h3) (gc (q_ltF h2) (gc (q_ltF h2) (gc (q_ltF h2) (gc (q_ltF h2) (gc (q_ltF h2) (gc (q_leF h1) (gc (q_leF h1) (gc (q_leF h1) (gc (q_leF h1) (gc (q_leF h1) (gc (q_lt h0) (gc (q_lt h0) (gc (q_lt h0) (gc (q_lt h0) gn))))))))))))))))
theorem grt_p4 {c : Cup} {k : Int} {i'0 : Nat} (h0 : k < c.sk) (h1 : (12 : Int) < c.sk) (h2 : (c.pts.length : Int) ≤ (65 : Int)) (h3 : (c.done.length : Int) ≤ (25 : Int)) (hl4 : LoopOK Tryz.prog 0 zU3c0 (grt_S0 c 0) .ret (setS (grt_S0 c i'0) [(4, (.kb true))])) {base : Nat} : FV Tryz.prog 18 [(.p (cupP c)), (.p (intP k))] base (.p (blP true)) [] := by
  exact FV.fin Tryz.func18 rfl (o := [.b true, .b true, .b true, .b true, .b false, .b false, .b false, .b false, .b false, .b false, .b false, .b false, .b false, .b false, .b false, .k 4 ⟨(rng [(0, 29), (32, 7)]), [], [], []⟩ .ret (setS (grt_S0 c i'0) [(4, (.kb true))])]) (l := [_, _, _, _, _, _, _, _, _, _, _, _, _, _, _, _]) (by kernel_rfl) (gc hl4.code (gc (q_ltF h3) (gc (q_ltF h2) (gc (q_ltF h2) (gc (q_ltF h2) (gc (q_ltF h2) (gc (q_ltF h2) (gc (q_leF h1) (gc (q_leF h1) (gc (q_leF h1) (gc (q_leF h1) (gc (q_leF h1) (gc (q_lt h0) (gc (q_lt h0) (gc (q_lt h0) (gc (q_lt h0) gn))))))))))))))))
theorem grt_p5 {c : Cup} {k : Int} (h0 : c.sk ≤ k) (h1 : (65 : Int) < (c.pts.length : Int)) {base : Nat} : FV Tryz.prog 18 [(.p (cupP c)), (.p (intP k))] base (.p (blP true)) [] := by
  exact FV.fin Tryz.func18 rfl (o := [.b false, .b false, .b false, .b false, .b true, .b true, .b true, .b true, .b true]) (l := [_, _, _, _, _, _, _, _, _]) (by kernel_rfl) (gc (q_lt h1) (gc (q_lt h1) (gc (q_lt h1) (gc (q_lt h1) (gc (q_lt h1) (gc (q_ltF h0) (gc (q_ltF h0) (gc (q_ltF h0) (gc (q_ltF h0) gn)))))))))
theorem grt_p6 {c : Cup} {k : Int} (h0 : c.sk ≤ k) (h1 : (c.pts.length : Int) ≤ (65 : Int)) (h2 : (25 : Int) < (c.done.length : Int)) {base : Nat} : FV Tryz.prog 18 [(.p (cupP c)), (.p (intP k))] base (.p (blP true)) [] := by
  exact FV.fin Tryz.func18 rfl (o := [.b false, .b false, .b false, .b false, .b false, .b false, .b false, .b false, .b false, .b true]) (l := [_, _, _, _, _, _, _, _, _, _]) (by kernel_rfl) (gc (q_lt h2) (gc (q_ltF h1) (gc (q_ltF h1) (gc (q_ltF h1) (gc (q_ltF h1) (gc (q_ltF h1) (gc (q_ltF h0) (gc (q_ltF h0) (gc (q_ltF h0) (gc (q_ltF h0) gn))))))))))
theorem grt_p7 {c : Cup} {k : Int} {i'0 : Nat} (h0 : c.sk ≤ k) (h1 : (c.pts.length : Int) ≤ (65 : Int)) (h2 : (c.done.length : Int) ≤ (25 : Int)) (hl3 : LoopOK Tryz.prog 0 zU3c0 (grt_S0 c 0) (.exit 0) (grt_S0 c i'0)) {base : Nat} : FV Tryz.prog 18 [(.p (cupP c)), (.p (intP k))] base (.p (blP false)) [] := by
  exact FV.fin Tryz.func18 rfl (o := [.b false, .b false, .b false, .b false, .b false, .b false, .b false, .b false, .b false, .b false, .k 4 ⟨(rng [(0, 29), (32, 7)]), [], [], []⟩ (.exit 0) (grt_S0 c i'0)]) (l := [_, _, _, _, _, _, _, _, _, _, _]) (by kernel_rfl) (gc hl3.code (gc (q_ltF h2) (gc (q_ltF h1) (gc (q_ltF h1) (gc (q_ltF h1) (gc (q_ltF h1) (gc (q_ltF h1) (gc (q_ltF h0) (gc (q_ltF h0) (gc (q_ltF h0) (gc (q_ltF h0) gn)))))))))))
theorem grt_p8 {c : Cup} {k : Int} {i'0 : Nat} (h0 : c.sk ≤ k) (h1 : (c.pts.length : Int) ≤ (65 : Int)) (h2 : (c.done.length : Int) ≤ (25 : Int)) (hl3 : LoopOK Tryz.prog 0 zU3c0 (grt_S0 c 0) .ret (setS (grt_S0 c i'0) [(4, (.kb true))])) {base : Nat} : FV Tryz.prog 18 [(.p (cupP c)), (.p (intP k))] base (.p (blP true)) [] := by
  exact FV.fin Tryz.func18 rfl (o := [.b false, .b false, .b false, .b false, .b false, .b false, .b false, .b false, .b false, .b false, .k 4 ⟨(rng [(0, 29), (32, 7)]), [], [], []⟩ .ret (setS (grt_S0 c i'0) [(4, (.kb true))])]) (l := [_, _, _, _, _, _, _, _, _, _, _]) (by kernel_rfl) (gc hl3.code (gc (q_ltF h2) (gc (q_ltF h1) (gc (q_ltF h1) (gc (q_ltF h1) (gc (q_ltF h1) (gc (q_ltF h1) (gc (q_ltF h0) (gc (q_ltF h0) (gc (q_ltF h0) (gc (q_ltF h0) gn)))))))))))
theorem grt_L0_p0 {c : Cup} {i : Nat} {x100 : List Int} (h0 : (i : Int) < (c.done.length : Int)) (h1 : c.done[i]? = some x100) (h2 : (16 : Int) < (x100.length : Int)) : CodeOK Tryz.prog 0 zU3c0 (grt_S0 c i) .ret (setS (grt_S0 c i) [(4, (.kb true))]) := by
  exact CodeOK.fin (g := ⟨(rng [(0, 4), (5, 24), (32, 7)]), [], [], []⟩) (o := [.b true, .x (intsP x100), .b true]) (l := [_, (c.done.map intsP)[(i * 1)]? = some (intsP x100), 0 ≤ (i : Int) ∧ (i : Int) < (c.done.length : Int) ∧ (i * 1) < (c.done.map intsP).length, _]) (by kernel_rfl) (gc (q_lt h2) (gc (at_map (i := i) h1) (gc (ix_map (i := (i : Int)) (Int.natCast_nonneg _) h1) (gc (q_lt h0) gn))))
theorem grt_L0_p1 {c : Cup} {i : Nat} {x100 : List Int} {i' : Nat} (h0 : (i : Int) < (c.done.length : Int)) (h1 : c.done[i]? = some x100) (h2 : (x100.length : Int) ≤ (16 : Int)) (h3 : inR (((i + 1) : Nat) : Int)) (ei' : i' = (i + 1)) : CodeOK Tryz.prog 0 zU3c0 (grt_S0 c i) .normal (grt_S0 c i') := by
  subst ei'
  exact CodeOK.fin (g := ⟨(rng [(0, 29), (32, 7)]), [], [], []⟩) (o := [.b true, .x (intsP x100), .b false]) (l := [_, _, (c.done.map intsP)[(i * 1)]? = some (intsP x100), 0 ≤ (i : Int) ∧ (i : Int) < (c.done.length : Int) ∧ (i * 1) < (c.done.map intsP).length, _]) (by kernel_rfl) (gc h3 (gc (q_ltF h2) (gc (at_map (i := i) h1) (gc (ix_map (i := (i : Int)) (Int.natCast_nonneg _) h1) (gc (q_lt h0) gn)))))
theorem grt_L0_p2 {c : Cup} {i : Nat} (h0 : (c.done.length : Int) ≤ (i : Int)) : CodeOK Tryz.prog 0 zU3c0 (grt_S0 c i) (.exit 0) (grt_S0 c i) := by
  exact CodeOK.fin (g := ⟨(rng [(0, 29), (32, 7)]), [], [], []⟩) (o := [.b false]) (l := [_]) (by kernel_rfl) (gc (q_ltF h0) gn)
def grtB (c : Cup) (k : Int) : Bool := (decide (k < c.sk) && decide (c.sk ≤ 12)) || decide (65 < c.pts.length) || decide (25 < c.done.length) || c.done.any fun r => decide (16 < r.length)
theorem grt_loop (c : Cup) (hl : c.done.length ≤ 25) : ((c.done.any fun r => decide (16 < r.length)) = true ∧ ∃ i, LoopOK Tryz.prog 0 zU3c0 (grt_S0 c 0) .ret (setS (grt_S0 c i) [(4, .kb true)])) ∨ ((c.done.any fun r => decide (16 < r.length)) = false ∧ ∃ i, LoopOK Tryz.prog 0 zU3c0 (grt_S0 c 0) (.exit 0) (grt_S0 c i)) := by
  rcases LoopOK.find (P := Tryz.prog) (k := 0) (b := zU3c0) (fun i => grt_S0 c i) (fun i _ => setS (grt_S0 c i) [(4, .kb true)]) (grt_S0 c c.done.length) .ret (.exit 0) (by simp) (by simp) (fun r : List Int => decide (16 < r.length)) c.done
    (fun i x hx hp => grt_L0_p1 (by have := lt_of_at hx; omega) hx (by have := of_decide_eq_false hp; omega) (inR_nat (by have := lt_of_at hx; omega)) rfl)
    (fun i x hx hp => grt_L0_p0 (by have := lt_of_at hx; omega) hx (by have := of_decide_eq_true hp; omega))
    (grt_L0_p2 (by omega)) with ⟨j, y, g1, g2, g3, g4⟩ | ⟨_, g1, g2⟩
  · exact .inl ⟨List.any_eq_true.2 ⟨y, List.mem_of_getElem? g1, g3⟩, _, g4⟩
  · exact .inr ⟨g1, _, g2⟩
theorem grt_ok (c : Cup) (k : Int) {base : Nat} : FV Tryz.prog 18 [.p (cupP c), .p (intP k)] base (.p (blP (grtB c k))) [] := by
  unfold grtB
  by_cases a1 : k < c.sk
  · by_cases a2 : c.sk ≤ 12
    · simp only [a1, a2, decide_true, Bool.and_true, Bool.true_or]
      exact grt_p0 a1 a2
    · by_cases a3 : 65 < c.pts.length
      · simp only [a2, a3, decide_true, decide_false, Bool.and_false, Bool.false_or, Bool.true_or]
        exact grt_p1 a1 (by omega) (by omega)
      · by_cases a4 : 25 < c.done.length
        · simp only [a2, a3, a4, decide_true, decide_false, Bool.and_false, Bool.false_or, Bool.true_or]
          exact grt_p2 a1 (by omega) (by omega) (by omega)
        · simp only [a2, a3, a4, decide_false, Bool.and_false, Bool.false_or]
          rcases grt_loop c (by omega) with ⟨e, i, h⟩ | ⟨e, i, h⟩
          · rw [e]; exact grt_p4 a1 (by omega) (by omega) (by omega) h
          · rw [e]; exact grt_p3 a1 (by omega) (by omega) (by omega) h
  · by_cases a3 : 65 < c.pts.length
    · simp only [a1, a3, decide_true, decide_false, Bool.false_and, Bool.false_or, Bool.true_or]
      exact grt_p5 (by omega) (by omega)
    · by_cases a4 : 25 < c.done.length
      · simp only [a1, a3, a4, decide_true, decide_false, Bool.false_and, Bool.false_or, Bool.true_or]
        exact grt_p6 (by omega) (by omega) (by omega)
      · simp only [a1, a3, a4, decide_false, Bool.false_and, Bool.false_or]
        rcases grt_loop c (by omega) with ⟨e, i, h⟩ | ⟨e, i, h⟩
        · rw [e]; exact grt_p8 (by omega) (by omega) (by omega) h
        · rw [e]; exact grt_p7 (by omega) (by omega) (by omega) h
theorem grt_small {c : Cup} {k : Int} (h : grtB c k = false) : KL.Small c ∧ c.pts.length ≤ 65 ∧ c.done.length ≤ 25 ∧ (∀ r ∈ c.done, r.length ≤ 16) ∧ (c.sk ≤ k ∨ 12 < c.sk) := by
  unfold grtB at h
  simp only [Bool.or_eq_false_iff, Bool.and_eq_false_iff, decide_eq_false_iff_not, List.any_eq_false, decide_eq_true_eq] at h
  obtain ⟨⟨⟨h1, h2⟩, h3⟩, h4⟩ := h
  have h5 : ∀ r ∈ c.done, r.length ≤ 16 := fun r hr => by have := h4 r hr; omega
  exact ⟨⟨by omega, by omega, fun r hr => by have := h5 r hr; omega⟩, by omega, by omega, h5, by omega⟩
def eqa_S0 (a : List (List Int)) (i : Nat) : St := ⟨fr 27 [(0, (.p (rowsP a))), (1, (.p (rowsP a))), (12, (.p (intP (a.length : Int)))), (13, (.p (intP (i : Int))))], []⟩
theorem eqa_p0 {a : List (List Int)} {i'0 : Nat} (h0 : (a.length : Int) = (a.length : Int)) (hl1 : LoopOK Tryz.prog 0 zU3c6 (eqa_S0 a 0) (.exit 0) (eqa_S0 a i'0)) {base : Nat} : FV Tryz.prog 46 [(.p (rowsP a)), (.p (rowsP a))] base (.p (blP true)) [] := by
  exact FV.fin Tryz.func46 rfl (o := [.b false, .k 4 ⟨(rng [(2, 10), (14, 13)]), [], [], []⟩ (.exit 0) (eqa_S0 a i'0)]) (l := [_, _]) (by kernel_rfl) (gc hl1.code (gc (q_neF h0) gn))
theorem eqa_L0_p1 {a : List (List Int)} {i : Nat} {x100 : List Int} {i' : Nat} (h0 : (i : Int) < (a.length : Int)) (h1 : a[i]? = some x100) (h2 : x100.length ≤ 100000) (h3 : (decide (x100 = x100)) = true) (h4 : inR (((i + 1) : Nat) : Int)) (ei' : i' = (i + 1)) : CodeOK Tryz.prog 0 zU3c6 (eqa_S0 a i) .normal (eqa_S0 a i') := by
  subst ei'
  exact CodeOK.fin (g := ⟨(rng [(2, 10), (14, 13)]), [], [], []⟩) (o := [.b true, .x (intsP x100), .x (intsP x100), .c (.p (blP (decide (x100 = x100)))) [], .b false]) (l := [_, _, FC Tryz.prog 25 [(.p (intsP x100)), (.p (intsP x100))] [] 0 (.p (blP (decide (x100 = x100)))) [], (a.map intsP)[(i * 1)]? = some (intsP x100), 0 ≤ (i : Int) ∧ (i : Int) < (a.length : Int) ∧ (i * 1) < (a.map intsP).length, (a.map intsP)[(i * 1)]? = some (intsP x100), 0 ≤ (i : Int) ∧ (i : Int) < (a.length : Int) ∧ (i * 1) < (a.map intsP).length, _]) (by kernel_rfl) (gc h4 (gc (q_notF h3) (gc (FV.fc (eqi_ok x100 x100 h2) rfl) (gc (at_map (i := i) h1) (gc (ix_map (i := (i : Int)) (Int.natCast_nonneg _) h1) (gc (at_map (i := i) h1) (gc (ix_map (i := (i : Int)) (Int.natCast_nonneg _) h1) (gc (q_lt h0) gn))))))))
theorem eqa_L0_p2 {a : List (List Int)} {i : Nat} (h0 : (a.length : Int) ≤ (i : Int)) : CodeOK Tryz.prog 0 zU3c6 (eqa_S0 a i) (.exit 0) (eqa_S0 a i) := by
  exact CodeOK.fin (g := ⟨(rng [(2, 10), (14, 13)]), [], [], []⟩) (o := [.b false]) (l := [_]) (by kernel_rfl) (gc (q_ltF h0) gn)
theorem eqa_ok (a b : List (List Int)) (hb : b = a) (hl : a.length ≤ 1000 ∧ ∀ r ∈ a, r.length ≤ 1000) {base : Nat} : FV Tryz.prog 46 [.p (rowsP a), .p (rowsP b)] base (.p (blP true)) [] := by
  subst hb
  have h := LoopOK.count (P := Tryz.prog) (k := 0) (b := zU3c6) (e := .exit 0) (R := eqa_S0 b b.length) b.length (fun i => eqa_S0 b i)
    (fun i hi => eqa_L0_p1 (by omega) (List.getElem?_eq_getElem hi) (by have := hl.2 _ (List.getElem_mem hi); omega) (by simp) (inR_nat (by have := hl.1; omega)) rfl)
    (eqa_L0_p2 (by omega)) (by simp)
  exact eqa_p0 rfl h
theorem sam_p0 {c : Cup} (h0 : c.sk = c.sk) (h1 : c.ra = c.ra) (h2 : c.be = c.be) (h3 : c.pts.length ≤ 100000) (h4 : (decide (c.pts = c.pts)) = true) (h5 : c.done = c.done) (h6 : c.done.length ≤ 1000 ∧ ∀ r ∈ c.done, r.length ≤ 1000) {base : Nat} : FV Tryz.prog 24 [(.p (cupP c)), (.p (cupP c))] base (.p (blP true)) [] := by
  exact FV.fin Tryz.func24 rfl (o := [.b true, .b true, .b true, .b true, .b true, .b true, .b true, .b true, .b true, .b true, .b true, .b true, .b true, .b true, .b true, .b true, .b true, .c (.p (blP (decide (c.pts = c.pts)))) [], .b true, .b true, .b true, .b true, .b true, .b true, .c (.p (blP true)) [], .b true]) (l := [_, FC Tryz.prog 46 [(.p (rowsP c.done)), (.p (rowsP c.done))] [] 2 (.p (blP true)) [], _, _, _, _, _, _, FC Tryz.prog 25 [(.p (intsP c.pts)), (.p (intsP c.pts))] [] 2 (.p (blP (decide (c.pts = c.pts)))) [], _, _, _, _, _, _, _, _, _, _, _, _, _, _, _, _, _]) (by kernel_rfl) (gc h4 (gc (FV.fc (eqa_ok c.done c.done h5 h6) rfl) (gc h4 (gc h4 (gc h4 (gc h4 (gc h4 (gc (q_eq h2) (gc (FV.fc (eqi_ok c.pts c.pts h3) rfl) (gc (q_eq h2) (gc (q_eq h2) (gc (q_eq h2) (gc (q_eq h2) (gc (q_eq h2) (gc (q_eq h1) (gc (q_eq h1) (gc (q_eq h1) (gc (q_eq h1) (gc (q_eq h1) (gc (q_eq h1) (gc (q_eq h0) (gc (q_eq h0) (gc (q_eq h0) (gc (q_eq h0) (gc (q_eq h0) (gc (q_eq h0) gn))))))))))))))))))))))))))
theorem sam_ok (c d : Cup) (h : d = c) (hS : KL.Small c) {base : Nat} : FV Tryz.prog 24 [.p (cupP c), .p (cupP d)] base (.p (blP true)) [] := by
  subst h
  exact sam_p0 rfl rfl rfl (by have := hS.pts; omega) (by simp) rfl ⟨hS.done, hS.rows⟩
end
end KV
end Go.Proofs
