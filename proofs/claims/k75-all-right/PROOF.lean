import PyProof.Rows.All
import Wide.All
import OpenK.AllK
import Wide.FinOn
import KE.KMinKey
import KE.KSortKey
import KE.KSortKeyAny
import KE.KLam
import HandS.ForMost
import HandS.Exc
import HandS.TryOnly
import HandS.ExcOwn
import HandS.WordsExc
import HandS.Defaults
import HandS.Lambda
import HandS.SortKw
import PyProof.CollectIter
import KE.KUnpack
import HandS.SortRule
import HandS.SortOrd
import HandS.Sort
import KE.DatumOrd
import HandS.Walk
import HandS.Comp
import HandS.DictComp
import HandS.List
import HandS.Call
import HandS.ExcInit
import KE.KEqDict
import PyProof.EqAt
import PyProof.EqKinds
import PyProof.NeKinds
import HandS.Dict
import HandS.More
import HandS.Words
import KE.KStateDown
import HandS.MakeKw
import HandS.SortInts
import HandS.Strs
import HandS.IsInst
import HandS.EndTab
import HandS.Flow
import HandS.NoneIn
import HandS.Head0
import HandS.Head1
import HandS.Head2
import HandS.HeadEnd
import HandS.HeadHook1
import HandS.HeadHook2
import HandS.HeadHook3
import HandS.HeadHook4
import HandS.HeadWalk
import HandS.Zip
import HandS.TupSets
import HandS.ListItems
import HandS.WordsDict
import PyProof.InstNe
import HandS.OwnEq
import HandS.Codes
import HandS.ExcField
import PySem.Challenge.RW_nearestname_k75_whole_all_right
set_option Elab.async false
set_option linter.all false
set_option maxRecDepth 100000
set_option maxHeartbeats 4000000
namespace KeyL
open PySem PySem.Spec PyProof.Rows
/-! ### min, max, sorted with a key that is called: what stands between two calls is any J that leans on the objects below N0 -/
structure Jk (J : Shared → Prop) (N0 : Nat) : Prop where
  grow : ∀ (s : Shared) (h' : Heap) (tk : Nat), J s → (∀ b o, b < N0 → s.heap.get? b = some o → h'.get? b = some o) → N0 ≤ h'.objs.size → J { s with heap := h', toks := tk }
/-- one call of the key -/
def KT (prog : Program) (w : World) (A : Around) (J : Shared → Prop) (N0 : Nat) (f : Value) (v : Value) (k : Int) : Prop :=
  ∀ s : Shared, J s → wpAny (model prog w) A (call f [v]) (fun u s' => ∃ t, u = .int k t ∧ J s' ∧ ∀ b o, N0 ≤ b → s.heap.get? b = some o → s'.heap.get? b = some o) (fun _ _ => False) s

section
variable {prog : Program} {w : World} {A : Around} {E : Value → Shared → Prop} {J : Shared → Prop} {N0 : Nat} {l q I S : Addr} {n : Nat} {VP : Nat → Value → Prop} {R : Result → Shared → Prop} {Q : Value → Shared → Prop}
theorem min_loop (kf : Nat → Int) (hh : A.handled = none) (G : Jk J N0) (hl : ∀ s, J s → ∃ vs : List Value, vs.length = n ∧ s.heap.IsList l vs.toArray ∧ ∀ i v, vs[i]? = some v → VP i v) (hlN : l < N0) (hIN : N0 ≤ I) (hSN : N0 ≤ S) (hSI : S ≠ I)
    (turn : ∀ (i : Nat) (v : Value), VP i v → KT prog w A.in1 J N0 (.ref q) v (kf i))
    (hR : ∀ i v s, i < n → VP i v → (∀ j, j < n → kf i ≤ kf j ∧ (j < i → kf i < kf j)) → J s → R (.ok (.ret v)) s) :
    ∀ (r j i : Nat) (s : Shared) (vb : Value) (tb : Tok) (c : Nat), n - (j + 1) = r → j + 1 ≤ n → J s →
      s.heap.get? S = some (seqObj "list" #[vb, .int (kf i) tb] c) → s.heap.IsListIter I l (j + 1) → VP i vb → i ≤ j → (∀ j', j' ≤ j → kf i ≤ kf j' ∧ (j' < i → kf i < kf j')) →
      codeAny (model prog w) A (.builtin "min.loop" ⟨[.ref I, .ref q, .ref S], []⟩) R s := by
  have hname : (toString "min" ++ toString ".loop" : String) = "min.loop" := by decide
  have hlI : l ≠ I := Nat.ne_of_lt (Nat.lt_of_lt_of_le hlN hIN)
  intro r
  induction r with
  | zero =>
    intro j i s vb tb c hr hj hJ nS hit hvb hij hbest
    have hin : j + 1 = n := by omega
    obtain ⟨vs, hvn, hls, hVP⟩ := hl s hJ
    have W := Walks.list (prog := prog) (w := w) (A := A.in1) hh I l hlI vs.toArray
    have hsz : vs.toArray.size = vs.length := List.size_toArray ..
    refine codeAny_builtin PySem.F.entry_min_loop ?_
    rw [Around.under_plainId PySem.F.plain_min_loop _]
    show wpAny _ A.in1 (seqItems? (.ref S) >>= _) _ _ _
    refine wpAny_bind (wpAny_seqItems nS rfl ?_)
    show wpAny _ A.in1 (tryCatch (pyNext (.ref I)) _ >>= _) _ _ _
    refine wpAny_bind (wpAny_tryCatch (W.done _ _ _ ⟨by rw [hsz, hvn, ← hin]; exact hit, hls⟩ fun h' tk' hk' => ?_))
    have hS' := hk' S _ (by simpa using hSI) nS
    have s1 := Heap.SameBut.update h' S (Obj.mapSeq fun _ => (#[] : Array Value))
    show wpAny _ A.in1 (updateSeq S (fun _ => #[]) >>= _) _ _ _
    refine wpAny_bind ?_
    refine wpAny_updateSeq hS' rfl (wpAny_bind (wpAny_letGo (wpAny_pure ?_)))
    refine hR i vb _ (by omega) hvb (fun j' hj' => hbest j' (by omega)) (G.grow s _ _ hJ (fun b o hb e => ?_) ?_)
    · have h1 : b ≠ I := Nat.ne_of_lt (Nat.lt_of_lt_of_le hb hIN)
      have h2 : b ≠ S := Nat.ne_of_lt (Nat.lt_of_lt_of_le hb hSN)
      exact (s1.2 b h2).trans (hk' b o (by simpa using h1) e)
    · rw [Heap.size_update]
      exact Nat.le_of_lt (Nat.lt_of_le_of_lt hSN (Heap.lt_size hS'))
  | succ r ih =>
    intro j i s vb tb c hr hj hJ nS hit hvb hij hbest
    have hlt : j + 1 < n := by omega
    obtain ⟨vs, hvn, hls, hVP⟩ := hl s hJ
    have W := Walks.list (prog := prog) (w := w) (A := A.in1) hh I l hlI vs.toArray
    have hsz : vs.toArray.size = vs.length := List.size_toArray ..
    refine codeAny_builtin PySem.F.entry_min_loop ?_
    rw [Around.under_plainId PySem.F.plain_min_loop _]
    show wpAny _ A.in1 (seqItems? (.ref S) >>= _) _ _ _
    refine wpAny_bind (wpAny_seqItems nS rfl ?_)
    show wpAny _ A.in1 (tryCatch (pyNext (.ref I)) _ >>= _) _ _ _
    refine wpAny_bind (wpAny_tryCatch (W.item (j + 1) _ _ _ (by rw [hsz, hvn]; exact hlt) ⟨hit, hls⟩ fun v h' tk' hP hst' hk' => ?_))
    have hv : VP (j + 1) v := hVP _ _ (by simpa using hP)
    obtain ⟨oI', hoI', hoc, hod⟩ := id hst'.1
    have hS' := hk' S _ (by simpa using hSI) nS
    have hJ1 : J { s with heap := h', toks := tk' } := G.grow s _ _ hJ (fun b o hb e => hk' b o (by simpa using Nat.ne_of_lt (Nat.lt_of_lt_of_le hb hIN)) e) (Nat.le_of_lt (Nat.lt_of_le_of_lt hSN (Heap.lt_size hS')))
    show wpAny _ A.in1 (tryCatch (holding [v] (call (.ref q) [v])) _ >>= _) _ _ _
    refine wpAny_bind (wpAny_tryCatch (wpAny_holding (wpAny_mono (turn (j + 1) v hv _ hJ1) (fun x s2 he => ?_) fun _ _ hF => hF.elim)))
    obtain ⟨t2, rfl, hJ2, kp2⟩ := he
    have nS2 := kp2 S _ hSN hS'
    have nI2 := kp2 I _ hIN hoI'
    have hit2 : s2.heap.IsListIter I l (j + 1 + 1) := ⟨oI', nI2, hoc, hod⟩
    show wpAny _ A.in1 (tryCatch (holding [v, .int (kf (j + 1)) t2] (richCompare .Lt (.int (kf (j + 1)) t2) (.int (kf i) tb) >>= _)) _ >>= _) _ _ _
    refine wpAny_bind (wpAny_tryCatch (wpAny_holding (wpAny_bind (CmpOf.ints_lt (prog := prog) (w := w) (A := A.in1) (P := fun i v => ∃ t, v = .int (kf i) t) kf (fun i v h => h) (j + 1) i _ _ _ _ _ ⟨t2, rfl⟩ ⟨tb, rfl⟩ ?_))))
    refine wpAny_bind (wpAny_holding (wpAny_truthy_bool ?_))
    refine wpAny_bind (wpAny_letGo (wpAny_pure ?_))
    by_cases hb' : kf (j + 1) < kf i
    · have s1 := Heap.SameBut.update s2.heap S (Obj.mapSeq fun _ => #[v, .int (kf (j + 1)) t2])
      obtain ⟨c2, hc2⟩ : ∃ c2, (s2.heap.update S (Obj.mapSeq fun _ => #[v, .int (kf (j + 1)) t2])).get? S = some (seqObj "list" #[v, .int (kf (j + 1)) t2] c2) := ⟨_, get?_update_seq nS2 fun _ => #[v, .int (kf (j + 1)) t2]⟩
      simp only [hb', decide_true, if_true]
      refine wpAny_bind ?_
      refine wpAny_updateSeq nS2 rfl (wpAny_bind (wpAny_letGo ?_))
      rw [hname]
      refine wpAny_pure ⟨plainId_quiet PySem.F.plain_min_loop _, ih (j + 1) (j + 1) _ v t2 c2 (by omega) hlt (G.grow s2 _ _ hJ2 (fun b o hb e => (s1.2 b (Nat.ne_of_lt (Nat.lt_of_lt_of_le hb hSN))).trans e) ?_) hc2 ⟨oI', (s1.2 I hSI.symm).trans nI2, hoc, hod⟩ hv (Nat.le_refl _) fun j' hj' => ?_⟩
      · rw [Heap.size_update]
        exact Nat.le_of_lt (Nat.lt_of_le_of_lt hSN (Heap.lt_size nS2))
      · by_cases e : j' = j + 1
        · subst e
          exact ⟨by omega, fun _ => by omega⟩
        · have hb1 := hbest j' (by omega)
          have hb2 := hb1.1
          exact ⟨by omega, fun _ => by omega⟩
    · simp only [hb', decide_false, Bool.false_eq_true, if_false]
      refine wpAny_bind (wpAny_letGo ?_)
      rw [hname]
      refine wpAny_pure ⟨plainId_quiet PySem.F.plain_min_loop _, ih (j + 1) i _ vb tb c (by omega) hlt hJ2 nS2 hit2 hvb (by omega) fun j' hj' => ?_⟩
      by_cases e : j' = j + 1
      · subst e
        exact ⟨by omega, fun _ => by omega⟩
      · exact hbest j' (by omega)

theorem min_key {s : Shared} (kf : Nat → Int) (hh : A.handled = none) (G : Jk J N0) (hl : ∀ s, J s → ∃ vs : List Value, vs.length = n ∧ s.heap.IsList l vs.toArray ∧ ∀ i v, vs[i]? = some v → VP i v) (hN : N0 = s.heap.objs.size) (hJ : J s) (hne : 0 < n)
    (turn : ∀ (i : Nat) (v : Value), VP i v → KT prog w A.in1 J N0 (.ref q) v (kf i))
    (hQ : ∀ i v s', i < n → VP i v → (∀ j, j < n → kf i ≤ kf j ∧ (j < i → kf i < kf j)) → J s' → Q v s') :
    wpAny (model prog w) A (call (.builtin "min") [.ref l] [(Str.ofString "key", .ref q)]) Q E s := by
  have hname : (toString "min" ++ toString ".loop" : String) = "min.loop" := by decide
  obtain ⟨vs0, _, hls, _⟩ := hl _ hJ
  obtain ⟨ol, hol, _⟩ := id hls
  have hll : l < s.heap.objs.size := Heap.lt_size hol
  refine kmk_tree PySem.F.kind_min PySem.F.plain_min PySem.F.entry_min (kmk_min_key _ _) ?_
  show wpAny _ A.in1 (Builtin.Builtins.bindParams "min" ["key", "default"] 0 ⟨[], [(Str.ofString "key", .ref q)]⟩ >>= _) _ _ s
  refine wpAny_bind (wpAny_of_eq (show Builtin.Builtins.bindParams "min" ["key", "default"] 0 ⟨[], [(Str.ofString "key", .ref q)]⟩ = pure [some (.ref q), none] from rfl) ?_)
  refine wpAny_bind (wpAny_pure ?_)
  refine wpAny_bind (wpAny_pyIter_list hls ?_)
  refine wpAny_bind (wpAny_newList ?_ (Nat.zero_le _))
  rw [hname]
  have hS : (s.heap.push { cls := .type "list_iterator", data := .fields #[.ref l, .int 0 0] }).objs.size = s.heap.objs.size + 1 := size_push' ..
  have hlI : l ≠ s.heap.objs.size := Nat.ne_of_lt hll
  have hSI : (s.heap.push { cls := .type "list_iterator", data := .fields #[.ref l, .int 0 0] }).objs.size ≠ s.heap.objs.size := by rw [hS]; exact Nat.ne_of_gt (Nat.lt_succ_self _)
  refine wpAny_pure ⟨plainId_quiet PySem.F.plain_min_loop _, ?_⟩
  have gI : ((s.heap.push { cls := .type "list_iterator", data := .fields #[.ref l, .int 0 0] }).push (seqObj "list" #[] 0)).get? s.heap.objs.size = some { cls := .type "list_iterator", data := .fields #[.ref l, .int 0 0] } :=
    Heap.get?_push_of_some _ (Heap.get?_push_size _ rfl)
  have gS : ((s.heap.push { cls := .type "list_iterator", data := .fields #[.ref l, .int 0 0] }).push (seqObj "list" #[] 0)).get? (s.heap.push { cls := .type "list_iterator", data := .fields #[.ref l, .int 0 0] }).objs.size = some (seqObj "list" #[] 0) := Heap.get?_push_size _ rfl
  have hJ0 : J { s with heap := (s.heap.push { cls := .type "list_iterator", data := .fields #[.ref l, .int 0 0] }).push (seqObj "list" #[] 0) } :=
    G.grow s _ _ hJ (fun b o _ e => Heap.get?_push_of_some _ (Heap.get?_push_of_some _ e)) (by rw [hN]; exact Nat.le_of_lt (Heap.lt_size gI))
  have hIN : N0 ≤ s.heap.objs.size := Nat.le_of_eq hN
  have hSN : N0 ≤ (s.heap.push { cls := .type "list_iterator", data := .fields #[.ref l, .int 0 0] }).objs.size := by rw [hS, hN]; exact Nat.le_succ _
  obtain ⟨vs, hvn, hls2, hVP⟩ := hl _ hJ0
  have W := Walks.list (prog := prog) (w := w) (A := A.in1) hh s.heap.objs.size l hlI vs.toArray
  have hsz : vs.toArray.size = vs.length := List.size_toArray ..
  refine codeAny_builtin PySem.F.entry_min_loop ?_
  rw [Around.under_plainId PySem.F.plain_min_loop _]
  show wpAny _ A.in1 (seqItems? (.ref _) >>= _) _ _ _
  refine wpAny_bind (wpAny_seqItems gS rfl ?_)
  show wpAny _ A.in1 (tryCatch (pyNext (.ref s.heap.objs.size)) _ >>= _) _ _ _
  refine wpAny_bind (wpAny_tryCatch (W.item 0 _ _ _ (by rw [hsz, hvn]; exact hne) ⟨⟨_, gI, rfl, rfl⟩, hls2⟩ fun v h' tk' hP hst' hk' => ?_))
  have hv : VP 0 v := hVP _ _ (by simpa using hP)
  obtain ⟨oI', hoI', hoc, hod⟩ := id hst'.1
  have gS' := hk' _ _ (by simpa using hSI) gS
  have hJ1 : J { s with heap := h', toks := tk' } := G.grow s h' tk' hJ (fun b o hb e => hk' b o (by simpa using Nat.ne_of_lt (Nat.lt_of_lt_of_le hb hIN)) (Heap.get?_push_of_some _ (Heap.get?_push_of_some _ e))) (Nat.le_of_lt (Nat.lt_of_le_of_lt hSN (Heap.lt_size gS')))
  show wpAny _ A.in1 (tryCatch (holding [v] (call (.ref q) [v])) _ >>= _) _ _ _
  refine wpAny_bind (wpAny_tryCatch (wpAny_holding (wpAny_mono (turn 0 v hv _ hJ1) (fun x s2 he => ?_) fun _ _ hF => hF.elim)))
  obtain ⟨t2, rfl, hJ2, kp2⟩ := he
  have nS2 := kp2 _ _ hSN gS'
  have nI2 := kp2 _ _ hIN hoI'
  have s1 := Heap.SameBut.update s2.heap (s.heap.push { cls := .type "list_iterator", data := .fields #[.ref l, .int 0 0] }).objs.size (Obj.mapSeq fun _ => #[v, .int (kf 0) t2])
  obtain ⟨c2, hc2⟩ : ∃ c2, (s2.heap.update (s.heap.push { cls := .type "list_iterator", data := .fields #[.ref l, .int 0 0] }).objs.size (Obj.mapSeq fun _ => #[v, .int (kf 0) t2])).get? (s.heap.push { cls := .type "list_iterator", data := .fields #[.ref l, .int 0 0] }).objs.size = some (seqObj "list" #[v, .int (kf 0) t2] c2) := ⟨_, get?_update_seq nS2 fun _ => #[v, .int (kf 0) t2]⟩
  show wpAny _ A.in1 (updateSeq (s.heap.push { cls := .type "list_iterator", data := .fields #[.ref l, .int 0 0] }).objs.size (fun _ => #[v, .int (kf 0) t2]) >>= _) _ _ _
  refine wpAny_bind ?_
  refine wpAny_updateSeq nS2 rfl ?_
  rw [hname]
  refine wpAny_pure ⟨plainId_quiet PySem.F.plain_min_loop _, min_loop kf hh G hl (by rw [hN]; exact hll) hIN hSN hSI turn hQ _ 0 0 _ v t2 c2 rfl hne (G.grow s2 _ _ hJ2 (fun b o hb e => (s1.2 b (Nat.ne_of_lt (Nat.lt_of_lt_of_le hb hSN))).trans e) ?_) hc2 ⟨oI', (s1.2 _ hSI.symm).trans nI2, hoc, hod⟩ hv (Nat.le_refl _) fun j' hj' => ?_⟩
  · rw [Heap.size_update]
    exact Nat.le_of_lt (Nat.lt_of_le_of_lt hSN (Heap.lt_size nS2))
  · have e : j' = 0 := by omega
    subst e
    exact ⟨by omega, fun h => absurd h (Nat.lt_irrefl _)⟩
end

section
variable {prog : Program} {w : World} {A : Around} {E : Value → Shared → Prop} {J : Shared → Prop} {N0 : Nat} {l q I S : Addr} {n : Nat} {VP : Nat → Value → Prop} {R : Result → Shared → Prop} {Q : Value → Shared → Prop}
theorem max_loop (kf : Nat → Int) (hh : A.handled = none) (G : Jk J N0) (hl : ∀ s, J s → ∃ vs : List Value, vs.length = n ∧ s.heap.IsList l vs.toArray ∧ ∀ i v, vs[i]? = some v → VP i v) (hlN : l < N0) (hIN : N0 ≤ I) (hSN : N0 ≤ S) (hSI : S ≠ I)
    (turn : ∀ (i : Nat) (v : Value), VP i v → KT prog w A.in1 J N0 (.ref q) v (kf i))
    (hR : ∀ i v s, i < n → VP i v → (∀ j, j < n → kf j ≤ kf i ∧ (j < i → kf j < kf i)) → J s → R (.ok (.ret v)) s) :
    ∀ (r j i : Nat) (s : Shared) (vb : Value) (tb : Tok) (c : Nat), n - (j + 1) = r → j + 1 ≤ n → J s →
      s.heap.get? S = some (seqObj "list" #[vb, .int (kf i) tb] c) → s.heap.IsListIter I l (j + 1) → VP i vb → i ≤ j → (∀ j', j' ≤ j → kf j' ≤ kf i ∧ (j' < i → kf j' < kf i)) →
      codeAny (model prog w) A (.builtin "max.loop" ⟨[.ref I, .ref q, .ref S], []⟩) R s := by
  have hname : (toString "max" ++ toString ".loop" : String) = "max.loop" := by decide
  have hlI : l ≠ I := Nat.ne_of_lt (Nat.lt_of_lt_of_le hlN hIN)
  intro r
  induction r with
  | zero =>
    intro j i s vb tb c hr hj hJ nS hit hvb hij hbest
    have hin : j + 1 = n := by omega
    obtain ⟨vs, hvn, hls, hVP⟩ := hl s hJ
    have W := Walks.list (prog := prog) (w := w) (A := A.in1) hh I l hlI vs.toArray
    have hsz : vs.toArray.size = vs.length := List.size_toArray ..
    refine codeAny_builtin PySem.F.entry_max_loop ?_
    rw [Around.under_plainId PySem.F.plain_max_loop _]
    show wpAny _ A.in1 (seqItems? (.ref S) >>= _) _ _ _
    refine wpAny_bind (wpAny_seqItems nS rfl ?_)
    show wpAny _ A.in1 (tryCatch (pyNext (.ref I)) _ >>= _) _ _ _
    refine wpAny_bind (wpAny_tryCatch (W.done _ _ _ ⟨by rw [hsz, hvn, ← hin]; exact hit, hls⟩ fun h' tk' hk' => ?_))
    have hS' := hk' S _ (by simpa using hSI) nS
    have s1 := Heap.SameBut.update h' S (Obj.mapSeq fun _ => (#[] : Array Value))
    show wpAny _ A.in1 (updateSeq S (fun _ => #[]) >>= _) _ _ _
    refine wpAny_bind ?_
    refine wpAny_updateSeq hS' rfl (wpAny_bind (wpAny_letGo (wpAny_pure ?_)))
    refine hR i vb _ (by omega) hvb (fun j' hj' => hbest j' (by omega)) (G.grow s _ _ hJ (fun b o hb e => ?_) ?_)
    · have h1 : b ≠ I := Nat.ne_of_lt (Nat.lt_of_lt_of_le hb hIN)
      have h2 : b ≠ S := Nat.ne_of_lt (Nat.lt_of_lt_of_le hb hSN)
      exact (s1.2 b h2).trans (hk' b o (by simpa using h1) e)
    · rw [Heap.size_update]
      exact Nat.le_of_lt (Nat.lt_of_le_of_lt hSN (Heap.lt_size hS'))
  | succ r ih =>
    intro j i s vb tb c hr hj hJ nS hit hvb hij hbest
    have hlt : j + 1 < n := by omega
    obtain ⟨vs, hvn, hls, hVP⟩ := hl s hJ
    have W := Walks.list (prog := prog) (w := w) (A := A.in1) hh I l hlI vs.toArray
    have hsz : vs.toArray.size = vs.length := List.size_toArray ..
    refine codeAny_builtin PySem.F.entry_max_loop ?_
    rw [Around.under_plainId PySem.F.plain_max_loop _]
    show wpAny _ A.in1 (seqItems? (.ref S) >>= _) _ _ _
    refine wpAny_bind (wpAny_seqItems nS rfl ?_)
    show wpAny _ A.in1 (tryCatch (pyNext (.ref I)) _ >>= _) _ _ _
    refine wpAny_bind (wpAny_tryCatch (W.item (j + 1) _ _ _ (by rw [hsz, hvn]; exact hlt) ⟨hit, hls⟩ fun v h' tk' hP hst' hk' => ?_))
    have hv : VP (j + 1) v := hVP _ _ (by simpa using hP)
    obtain ⟨oI', hoI', hoc, hod⟩ := id hst'.1
    have hS' := hk' S _ (by simpa using hSI) nS
    have hJ1 : J { s with heap := h', toks := tk' } := G.grow s _ _ hJ (fun b o hb e => hk' b o (by simpa using Nat.ne_of_lt (Nat.lt_of_lt_of_le hb hIN)) e) (Nat.le_of_lt (Nat.lt_of_le_of_lt hSN (Heap.lt_size hS')))
    show wpAny _ A.in1 (tryCatch (holding [v] (call (.ref q) [v])) _ >>= _) _ _ _
    refine wpAny_bind (wpAny_tryCatch (wpAny_holding (wpAny_mono (turn (j + 1) v hv _ hJ1) (fun x s2 he => ?_) fun _ _ hF => hF.elim)))
    obtain ⟨t2, rfl, hJ2, kp2⟩ := he
    have nS2 := kp2 S _ hSN hS'
    have nI2 := kp2 I _ hIN hoI'
    have hit2 : s2.heap.IsListIter I l (j + 1 + 1) := ⟨oI', nI2, hoc, hod⟩
    show wpAny _ A.in1 (tryCatch (holding [v, .int (kf (j + 1)) t2] (richCompare .Gt (.int (kf (j + 1)) t2) (.int (kf i) tb) >>= _)) _ >>= _) _ _ _
    refine wpAny_bind (wpAny_tryCatch (wpAny_holding (wpAny_bind (CmpOf.ints_gt (prog := prog) (w := w) (A := A.in1) (P := fun i v => ∃ t, v = .int (kf i) t) kf (fun i v h => h) (j + 1) i _ _ _ _ _ ⟨t2, rfl⟩ ⟨tb, rfl⟩ ?_))))
    refine wpAny_bind (wpAny_holding (wpAny_truthy_bool ?_))
    refine wpAny_bind (wpAny_letGo (wpAny_pure ?_))
    by_cases hb' : kf i < kf (j + 1)
    · have s1 := Heap.SameBut.update s2.heap S (Obj.mapSeq fun _ => #[v, .int (kf (j + 1)) t2])
      obtain ⟨c2, hc2⟩ : ∃ c2, (s2.heap.update S (Obj.mapSeq fun _ => #[v, .int (kf (j + 1)) t2])).get? S = some (seqObj "list" #[v, .int (kf (j + 1)) t2] c2) := ⟨_, get?_update_seq nS2 fun _ => #[v, .int (kf (j + 1)) t2]⟩
      simp only [hb', decide_true, if_true]
      refine wpAny_bind ?_
      refine wpAny_updateSeq nS2 rfl (wpAny_bind (wpAny_letGo ?_))
      rw [hname]
      refine wpAny_pure ⟨plainId_quiet PySem.F.plain_max_loop _, ih (j + 1) (j + 1) _ v t2 c2 (by omega) hlt (G.grow s2 _ _ hJ2 (fun b o hb e => (s1.2 b (Nat.ne_of_lt (Nat.lt_of_lt_of_le hb hSN))).trans e) ?_) hc2 ⟨oI', (s1.2 I hSI.symm).trans nI2, hoc, hod⟩ hv (Nat.le_refl _) fun j' hj' => ?_⟩
      · rw [Heap.size_update]
        exact Nat.le_of_lt (Nat.lt_of_le_of_lt hSN (Heap.lt_size nS2))
      · by_cases e : j' = j + 1
        · subst e
          exact ⟨by omega, fun _ => by omega⟩
        · have hb1 := hbest j' (by omega)
          have hb2 := hb1.1
          exact ⟨by omega, fun _ => by omega⟩
    · simp only [hb', decide_false, Bool.false_eq_true, if_false]
      refine wpAny_bind (wpAny_letGo ?_)
      rw [hname]
      refine wpAny_pure ⟨plainId_quiet PySem.F.plain_max_loop _, ih (j + 1) i _ vb tb c (by omega) hlt hJ2 nS2 hit2 hvb (by omega) fun j' hj' => ?_⟩
      by_cases e : j' = j + 1
      · subst e
        exact ⟨by omega, fun _ => by omega⟩
      · exact hbest j' (by omega)

theorem max_key {s : Shared} (kf : Nat → Int) (hh : A.handled = none) (G : Jk J N0) (hl : ∀ s, J s → ∃ vs : List Value, vs.length = n ∧ s.heap.IsList l vs.toArray ∧ ∀ i v, vs[i]? = some v → VP i v) (hN : N0 = s.heap.objs.size) (hJ : J s) (hne : 0 < n)
    (turn : ∀ (i : Nat) (v : Value), VP i v → KT prog w A.in1 J N0 (.ref q) v (kf i))
    (hQ : ∀ i v s', i < n → VP i v → (∀ j, j < n → kf j ≤ kf i ∧ (j < i → kf j < kf i)) → J s' → Q v s') :
    wpAny (model prog w) A (call (.builtin "max") [.ref l] [(Str.ofString "key", .ref q)]) Q E s := by
  have hname : (toString "max" ++ toString ".loop" : String) = "max.loop" := by decide
  obtain ⟨vs0, _, hls, _⟩ := hl _ hJ
  obtain ⟨ol, hol, _⟩ := id hls
  have hll : l < s.heap.objs.size := Heap.lt_size hol
  refine kmk_tree PySem.F.kind_max PySem.F.plain_max PySem.F.entry_max (kmk_max_key _ _) ?_
  show wpAny _ A.in1 (Builtin.Builtins.bindParams "max" ["key", "default"] 0 ⟨[], [(Str.ofString "key", .ref q)]⟩ >>= _) _ _ s
  refine wpAny_bind (wpAny_of_eq (show Builtin.Builtins.bindParams "max" ["key", "default"] 0 ⟨[], [(Str.ofString "key", .ref q)]⟩ = pure [some (.ref q), none] from rfl) ?_)
  refine wpAny_bind (wpAny_pure ?_)
  refine wpAny_bind (wpAny_pyIter_list hls ?_)
  refine wpAny_bind (wpAny_newList ?_ (Nat.zero_le _))
  rw [hname]
  have hS : (s.heap.push { cls := .type "list_iterator", data := .fields #[.ref l, .int 0 0] }).objs.size = s.heap.objs.size + 1 := size_push' ..
  have hlI : l ≠ s.heap.objs.size := Nat.ne_of_lt hll
  have hSI : (s.heap.push { cls := .type "list_iterator", data := .fields #[.ref l, .int 0 0] }).objs.size ≠ s.heap.objs.size := by rw [hS]; exact Nat.ne_of_gt (Nat.lt_succ_self _)
  refine wpAny_pure ⟨plainId_quiet PySem.F.plain_max_loop _, ?_⟩
  have gI : ((s.heap.push { cls := .type "list_iterator", data := .fields #[.ref l, .int 0 0] }).push (seqObj "list" #[] 0)).get? s.heap.objs.size = some { cls := .type "list_iterator", data := .fields #[.ref l, .int 0 0] } :=
    Heap.get?_push_of_some _ (Heap.get?_push_size _ rfl)
  have gS : ((s.heap.push { cls := .type "list_iterator", data := .fields #[.ref l, .int 0 0] }).push (seqObj "list" #[] 0)).get? (s.heap.push { cls := .type "list_iterator", data := .fields #[.ref l, .int 0 0] }).objs.size = some (seqObj "list" #[] 0) := Heap.get?_push_size _ rfl
  have hJ0 : J { s with heap := (s.heap.push { cls := .type "list_iterator", data := .fields #[.ref l, .int 0 0] }).push (seqObj "list" #[] 0) } :=
    G.grow s _ _ hJ (fun b o _ e => Heap.get?_push_of_some _ (Heap.get?_push_of_some _ e)) (by rw [hN]; exact Nat.le_of_lt (Heap.lt_size gI))
  have hIN : N0 ≤ s.heap.objs.size := Nat.le_of_eq hN
  have hSN : N0 ≤ (s.heap.push { cls := .type "list_iterator", data := .fields #[.ref l, .int 0 0] }).objs.size := by rw [hS, hN]; exact Nat.le_succ _
  obtain ⟨vs, hvn, hls2, hVP⟩ := hl _ hJ0
  have W := Walks.list (prog := prog) (w := w) (A := A.in1) hh s.heap.objs.size l hlI vs.toArray
  have hsz : vs.toArray.size = vs.length := List.size_toArray ..
  refine codeAny_builtin PySem.F.entry_max_loop ?_
  rw [Around.under_plainId PySem.F.plain_max_loop _]
  show wpAny _ A.in1 (seqItems? (.ref _) >>= _) _ _ _
  refine wpAny_bind (wpAny_seqItems gS rfl ?_)
  show wpAny _ A.in1 (tryCatch (pyNext (.ref s.heap.objs.size)) _ >>= _) _ _ _
  refine wpAny_bind (wpAny_tryCatch (W.item 0 _ _ _ (by rw [hsz, hvn]; exact hne) ⟨⟨_, gI, rfl, rfl⟩, hls2⟩ fun v h' tk' hP hst' hk' => ?_))
  have hv : VP 0 v := hVP _ _ (by simpa using hP)
  obtain ⟨oI', hoI', hoc, hod⟩ := id hst'.1
  have gS' := hk' _ _ (by simpa using hSI) gS
  have hJ1 : J { s with heap := h', toks := tk' } := G.grow s h' tk' hJ (fun b o hb e => hk' b o (by simpa using Nat.ne_of_lt (Nat.lt_of_lt_of_le hb hIN)) (Heap.get?_push_of_some _ (Heap.get?_push_of_some _ e))) (Nat.le_of_lt (Nat.lt_of_le_of_lt hSN (Heap.lt_size gS')))
  show wpAny _ A.in1 (tryCatch (holding [v] (call (.ref q) [v])) _ >>= _) _ _ _
  refine wpAny_bind (wpAny_tryCatch (wpAny_holding (wpAny_mono (turn 0 v hv _ hJ1) (fun x s2 he => ?_) fun _ _ hF => hF.elim)))
  obtain ⟨t2, rfl, hJ2, kp2⟩ := he
  have nS2 := kp2 _ _ hSN gS'
  have nI2 := kp2 _ _ hIN hoI'
  have s1 := Heap.SameBut.update s2.heap (s.heap.push { cls := .type "list_iterator", data := .fields #[.ref l, .int 0 0] }).objs.size (Obj.mapSeq fun _ => #[v, .int (kf 0) t2])
  obtain ⟨c2, hc2⟩ : ∃ c2, (s2.heap.update (s.heap.push { cls := .type "list_iterator", data := .fields #[.ref l, .int 0 0] }).objs.size (Obj.mapSeq fun _ => #[v, .int (kf 0) t2])).get? (s.heap.push { cls := .type "list_iterator", data := .fields #[.ref l, .int 0 0] }).objs.size = some (seqObj "list" #[v, .int (kf 0) t2] c2) := ⟨_, get?_update_seq nS2 fun _ => #[v, .int (kf 0) t2]⟩
  show wpAny _ A.in1 (updateSeq (s.heap.push { cls := .type "list_iterator", data := .fields #[.ref l, .int 0 0] }).objs.size (fun _ => #[v, .int (kf 0) t2]) >>= _) _ _ _
  refine wpAny_bind ?_
  refine wpAny_updateSeq nS2 rfl ?_
  rw [hname]
  refine wpAny_pure ⟨plainId_quiet PySem.F.plain_max_loop _, max_loop kf hh G hl (by rw [hN]; exact hll) hIN hSN hSI turn hQ _ 0 0 _ v t2 c2 rfl hne (G.grow s2 _ _ hJ2 (fun b o hb e => (s1.2 b (Nat.ne_of_lt (Nat.lt_of_lt_of_le hb hSN))).trans e) ?_) hc2 ⟨oI', (s1.2 _ hSI.symm).trans nI2, hoc, hod⟩ hv (Nat.le_refl _) fun j' hj' => ?_⟩
  · rw [Heap.size_update]
    exact Nat.le_of_lt (Nat.lt_of_le_of_lt hSN (Heap.lt_size nS2))
  · have e : j' = 0 := by omega
    subst e
    exact ⟨by omega, fun h => absurd h (Nat.lt_irrefl _)⟩
end

section
variable {prog : Program} {w : World} {A : Around} {E : Value → Shared → Prop} {s : Shared} {J : Shared → Prop} {N0 : Nat} {a kS : Addr} {vs : List Value} {kz : List Int} {keys : Array Value} {e e1 : Nat} {P : PySem.Fin → Shared → Prop}
theorem s_tail {st : SortSt} (G : Jk J N0) (hJ : J s) (nk : s.heap.get? kS = some (seqObj "list" keys e)) (na : s.heap.get? a = some (seqObj "list" #[] e1)) (hka : kS ≠ a) (hkN : N0 ≤ kS) (haN : N0 ≤ a)
    (hk : IntsAre keys.toList kz) (hlen : kz.length = vs.length) (h64 : vs.length < 64) (hp : (arrOf st).Perm (keys.zip vs.toArray)) (hs : SortedTo (arrOf st) (arrOf st).size) (hfl : failedOf st = none)
    (h : ∀ s' out c, J s' → s'.heap.get? a = some (seqObj "list" out c) → KskOut false kz vs out.toList → P (.done (.ret .none)) s') :
    wpAny (model prog w) A (ksk_tail a false e1 (.ref kS) st) P E s := by
  have hsz : keys.size = vs.length := by
    have h1 := hk.length
    rw [Array.length_toList] at h1
    omega
  have hsz2 : (arrOf st).size = vs.length := by rw [hp.size_eq, Array.size_zip, hsz, List.size_toArray, Nat.min_self]
  have hout : ((arrOf st).map (·.2)).size = vs.length := by rw [Array.size_map]; exact hsz2
  have s1 := Heap.SameBut.update s.heap kS (Obj.mapSeq fun _ => (#[] : Array Value))
  have na1 : (s.heap.update kS (Obj.mapSeq fun _ => (#[] : Array Value))).get? a = some (seqObj "list" #[] e1) := (s1.2 a hka.symm).trans na
  have s2 := Heap.SameBut.update (s.heap.update kS (Obj.mapSeq fun _ => (#[] : Array Value))) a (Obj.mapSeq fun _ => (arrOf st).map (·.2))
  obtain ⟨c2, hc2⟩ : ∃ c2, ((s.heap.update kS (Obj.mapSeq fun _ => (#[] : Array Value))).update a (Obj.mapSeq fun _ => (arrOf st).map (·.2))).get? a = some (seqObj "list" ((arrOf st).map (·.2)) c2) :=
    ⟨_, get?_update_seq na1 fun _ => (arrOf st).map (·.2)⟩
  unfold ksk_tail
  try dsimp only
  refine wpAny_bind (listUpdate_at nk rfl ?_ (by rw [hsz, sizeLine_eq]; omega) (Nat.zero_le _))
  refine wpAny_bind (wpAny_letGo ?_)
  refine wpAny_bind (seqEpoch_at na1 rfl ?_)
  simp only [Bool.false_eq_true, if_false]
  refine wpAny_bind (listUpdate_at na1 rfl ?_ (Nat.zero_le _) (Nat.le_trans (Nat.le_of_eq hout) (by rw [sizeLine_eq]; omega)))
  rw [hfl]
  simp only [bne_self_eq_false, Bool.false_eq_true, if_false]
  refine wpAny_pure (h _ _ c2 (G.grow s _ _ hJ (fun b o hb q => ?_) ?_) hc2 (by simpa using ksk_out (b := false) hk hp hs))
  · exact ((s2.2 b (Nat.ne_of_lt (Nat.lt_of_lt_of_le hb haN))).trans (s1.2 b (Nat.ne_of_lt (Nat.lt_of_lt_of_le hb hkN)))).trans q
  · rw [Heap.size_update, Heap.size_update]
    exact Nat.le_of_lt (Nat.lt_of_le_of_lt haN (Heap.lt_size na))

theorem s_end (G : Jk J N0) (hJ : J s) (nk : s.heap.get? kS = some (seqObj "list" keys e)) (na : s.heap.get? a = some (seqObj "list" #[] e1)) (hka : kS ≠ a) (hkN : N0 ≤ kS) (haN : N0 ≤ a)
    (hk : IntsAre keys.toList kz) (hlen : kz.length = vs.length) (h64 : vs.length < 64)
    (h : ∀ s' out c, J s' → s'.heap.get? a = some (seqObj "list" out c) → KskOut false kz vs out.toList → P (.done (.ret .none)) s') :
    wpAny (model prog w) A (ksk_end a false vs.toArray e1 (.ref kS) keys) P E s := by
  have hsz : keys.size = vs.length := by
    have h1 := hk.length
    rw [Array.length_toList] at h1
    omega
  have hzs : (keys.zip vs.toArray).size = vs.length := by rw [Array.size_zip, hsz, List.size_toArray, Nat.min_self]
  unfold ksk_end
  simp only [Bool.false_eq_true, if_false]
  by_cases h2 : vs.toArray.size < 2
  · rw [if_pos h2, if_pos h2]
    refine wpAny_bind (wpAny_pure ?_)
    rw [StateT.run_pure]
    refine wpAny_bind (wpAny_pure ?_)
    try dsimp only
    refine s_tail (st := SortSt.mk' general' (keys.zip vs.toArray) #[] 7 none) G hJ nk na hka hkN haN hk hlen h64 (Array.Perm.refl _) ?_ rfl h
    intro i j hij hj
    have hj2 : j < (keys.zip vs.toArray).size := hj
    rw [hzs] at hj2
    rw [List.size_toArray] at h2
    have : i = j := by omega
    subst this
    exact Int.le_refl _
  · rw [if_neg h2, if_neg h2]
    rw [List.size_toArray] at h2
    rw [ksk_kind hk (by rw [hsz]; omega)]
    refine wpAny_bind (wpAny_pure ?_)
    refine wpAny_bind (wpAny_mono (wpS_sortRuns (a₀ := keys.zip vs.toArray) (st := SortSt.mk' oneType' (keys.zip vs.toArray) #[] 7 none)
      (Q := fun _ st' => (arrOf st').Perm (keys.zip vs.toArray) ∧ failedOf st' = none ∧ SortedTo (arrOf st') (keys.zip vs.toArray).size)
      (ksk_intKeys hk) ⟨Array.Perm.refl _, rfl, rfl, rfl⟩ (by rw [hzs]; omega) (by rw [hzs]; exact h64) fun st' a1 a2 a3 => ⟨a1, a2, a3⟩) ?_ fun _ _ e => e)
    rintro ⟨⟨⟩, st'⟩ s' ⟨rfl, hp, hf, hs⟩
    try dsimp only
    exact s_tail G hJ nk na hka hkN haN hk hlen h64 hp (by rw [hp.size_eq]; exact hs) hf h

theorem s_rest {f : Value} (G : Jk J N0) (hJ : J s) (nk : s.heap.get? kS = some (seqObj "list" #[] 0)) (na : s.heap.get? a = some (seqObj "list" #[] e1)) (hka : kS ≠ a) (hkN : N0 ≤ kS) (haN : N0 ≤ a)
    (hlen : kz.length = vs.length) (h64 : vs.length < 64)
    (turn : ∀ (i : Nat) (v : Value) (k : Int), vs[i]? = some v → kz[i]? = some k → KT prog w A J N0 f v k)
    (h : ∀ s' out c, J s' → s'.heap.get? a = some (seqObj "list" out c) → KskOut false kz vs out.toList → P (.done (.ret .none)) s') :
    wpAny (model prog w) A (ksk_rest a f false vs.toArray e1 (.ref kS)) P E s := by
  unfold ksk_rest
  refine wpAny_bind (wpAny_rule ?_)
  first
    | rw [List.forIn_toArray]
    | (rw [← Array.forIn_toList]; simp only [List.toList_toArray])
    | rw [← Array.forIn_toList]
  refine wpAny_bind (ksk_fold (fun i s' => ∃ kA e, J s' ∧ s'.heap.get? kS = some (seqObj "list" kA e) ∧ s'.heap.get? a = some (seqObj "list" #[] e1) ∧ IntsAre kA.toList (kz.take i)) vs 0 s
    ⟨#[], 0, hJ, nk, na, by simpa using IntsAre.nil⟩ ?step ?done)
  case step =>
    rintro j x s' hx ⟨kA, e, hJ', nk', na', hk⟩
    simp only [Nat.zero_add] at hk ⊢
    have hj : j < vs.length := (List.getElem?_eq_some_iff.mp hx).1
    obtain ⟨k, hkj⟩ : ∃ k, kz[j]? = some k := ⟨_, List.getElem?_eq_getElem (by omega)⟩
    have hz : kA.size ≤ vs.length := by
      have h1 := hk.length
      rw [Array.length_toList, List.length_take] at h1
      omega
    refine wpAny_bind (wpAny_attempt (wpAny_mono (turn j x k hx hkj s' hJ') (fun v s'' he => ?_) fun _ _ hF => hF.elim))
    obtain ⟨t2, rfl, hJ2, kp⟩ := he
    try dsimp only
    have nk2 := kp kS _ hkN nk'
    have na2 := kp a _ haN na'
    have s1 := Heap.SameBut.update s''.heap kS (Obj.mapSeq (·.push (.int k t2)))
    obtain ⟨c2, hc2⟩ : ∃ c2, (s''.heap.update kS (Obj.mapSeq (·.push (.int k t2)))).get? kS = some (seqObj "list" (kA.push (.int k t2)) c2) := ⟨_, get?_update_seq nk2 (·.push (.int k t2))⟩
    have ek : kz.take (j + 1) = kz.take j ++ [k] := by rw [List.take_add_one, hkj]; simp
    have ea : (kA.push (Value.int k t2)).toList = kA.toList ++ [Value.int k t2] := by simp
    refine wpAny_bind (listUpdate_at nk2 rfl ?_ (by rw [sizeLine_eq]; omega) (Nat.le_trans (Nat.le_of_eq (Array.size_push ..)) (by rw [sizeLine_eq]; omega)))
    refine wpAny_pure ⟨rfl, kA.push (.int k t2), c2, G.grow s'' _ _ hJ2 (fun b o hb q => (s1.2 b (Nat.ne_of_lt (Nat.lt_of_lt_of_le hb hkN))).trans q) ?_, hc2, (s1.2 a hka.symm).trans na2, by rw [ea, ek]; exact ksk_snoc hk⟩
    rw [Heap.size_update]
    exact Nat.le_of_lt (Nat.lt_of_le_of_lt haN (Heap.lt_size na2))
  case done =>
    rintro s' ⟨kA, e, hJ', nk', na', hk⟩
    have hk' : IntsAre kA.toList kz := by
      have e3 : kz.take (0 + vs.length) = kz := List.take_of_length_le (by omega)
      rw [e3] at hk
      exact hk
    try dsimp only
    refine wpAny_bind (listItems_at nk' rfl ?_)
    exact s_end G hJ' nk' na' hka hkN haN hk' hlen h64 h

theorem s_sort {f : Value} {n : Nat} (G : Jk J N0) (hJ : J s) (ho : s.heap.get? a = some (seqObj "list" vs.toArray n)) (haN : N0 ≤ a)
    (hlen : kz.length = vs.length) (h64 : vs.length < 64)
    (turn : ∀ (i : Nat) (v : Value) (k : Int), vs[i]? = some v → kz[i]? = some k → KT prog w A J N0 f v k)
    (h : ∀ s' out c, J s' → s'.heap.get? a = some (seqObj "list" out c) → KskOut false kz vs out.toList → P (.done (.ret .none)) s') :
    wpAny (model prog w) A (ksk_tree a f false) P E s := by
  have ha : a < s.heap.objs.size := Heap.lt_size ho
  have s1 := Heap.SameBut.update s.heap a (Obj.mapSeq fun _ => (#[] : Array Value))
  obtain ⟨e1, ho1⟩ : ∃ e1, (s.heap.update a (Obj.mapSeq fun _ => (#[] : Array Value))).get? a = some (seqObj "list" #[] e1) := ⟨_, get?_update_seq ho fun _ => #[]⟩
  have hkS : ((s.heap.update a (Obj.mapSeq fun _ => (#[] : Array Value))).push (seqObj "tuple" vs.toArray 0)).objs.size = s.heap.objs.size + 1 := by rw [size_push', Heap.size_update]
  unfold ksk_tree
  refine wpAny_bind (listItems_at ho rfl ?_)
  refine wpAny_bind (listUpdate_at ho rfl ?_ (by rw [List.size_toArray, sizeLine_eq]; omega) (Nat.zero_le _))
  refine wpAny_bind (seqEpoch_at ho1 rfl ?_)
  refine wpAny_bind (wpAny_newTuple ?_ (by show vs.length ≤ _; rw [sizeLine_eq]; omega))
  refine wpAny_bind (wpAny_newList ?_ (Nat.zero_le _))
  refine wpAny_holding ?_
  have na2 : (((s.heap.update a (Obj.mapSeq fun _ => (#[] : Array Value))).push (seqObj "tuple" vs.toArray 0)).push (seqObj "list" #[] 0)).get? a = some (seqObj "list" #[] e1) := Heap.get?_push_of_some _ (Heap.get?_push_of_some _ ho1)
  refine s_rest (s := { s with heap := ((s.heap.update a (Obj.mapSeq fun _ => (#[] : Array Value))).push (seqObj "tuple" vs.toArray 0)).push (seqObj "list" #[] 0) }) (kS := ((s.heap.update a (Obj.mapSeq fun _ => (#[] : Array Value))).push (seqObj "tuple" vs.toArray 0)).objs.size)
    G (G.grow s _ _ hJ (fun b o hb q => Heap.get?_push_of_some _ (Heap.get?_push_of_some _ ((s1.2 b (Nat.ne_of_lt (Nat.lt_of_lt_of_le hb haN))).trans q))) (Nat.le_of_lt (Nat.lt_of_le_of_lt haN (Heap.lt_size na2)))) (Heap.get?_push_size _ rfl) na2 (by rw [hkS]; exact Nat.ne_of_gt (Nat.lt_succ_of_lt ha)) (by rw [hkS]; exact Nat.le_of_lt (Nat.lt_succ_of_lt (Nat.lt_of_le_of_lt haN ha))) haN hlen h64 turn h
end
section
variable {prog : Program} {w : World} {A : Around} {E : Value → Shared → Prop} {s : Shared} {J : Shared → Prop} {N0 : Nat} {l q : Addr} {vs : List Value} {kz : List Int} {Q : Value → Shared → Prop}
theorem sorted_key (G : Jk J N0) (hl : s.heap.IsList l vs.toArray) (hN : N0 = s.heap.objs.size) (hJ : J s) (hlen : kz.length = vs.length) (h64 : vs.length < 64)
    (turn : ∀ (i : Nat) (v : Value) (k : Int), vs[i]? = some v → kz[i]? = some k → KT prog w A.in1.in1 J N0 (.ref q) v k)
    (h : ∀ D s' out c, J s' → N0 ≤ D → s'.heap.get? D = some (seqObj "list" out c) → KskOut false kz vs out.toList → Q (.ref D) s') :
    wpAny (model prog w) A (call (.builtin "sorted") [.ref l] [(Str.ofString "key", .ref q)]) Q E s := by
  refine call_function_entry_kw kind_sorted plain_sorted entry_sorted (ksk_s1 _ _) ?_
  unfold Builtin.«sorted»
  refine wpAny_bind (m := checkCount "sorted" 1 1 _) (wpAny_pure ?_)
  refine wpAny_bind (collect_list hl ?_ (by rw [sizeLine_eq]; omega))
  refine wpAny_bind (wpAny_newList ?_ (by rw [sizeLine_eq]; omega))
  have hsz : ((s.heap.push (seqObj "list" #[] 0)).update s.heap.objs.size (Obj.mapSeq (· ++ vs.toArray))).objs.size = s.heap.objs.size + 1 := by
    rw [Heap.size_update, size_push']
  have hoL : (((s.heap.push (seqObj "list" #[] 0)).update s.heap.objs.size (Obj.mapSeq (· ++ vs.toArray))).push (seqObj "list" vs.toArray 0)).get? (s.heap.objs.size + 1) = some (seqObj "list" vs.toArray 0) := by
    rw [← hsz]; exact Heap.get?_push_size _ rfl
  have keep : ∀ b o, s.heap.get? b = some o → (((s.heap.push (seqObj "list" #[] 0)).update s.heap.objs.size (Obj.mapSeq (· ++ vs.toArray))).push (seqObj "list" vs.toArray 0)).get? b = some o := fun b o q => by
    have hlt : b < s.heap.objs.size := Heap.lt_size q
    rw [Heap.get?_push_ne _ _ _ (by rw [hsz]; exact Nat.ne_of_lt (Nat.lt_succ_of_lt hlt)), Heap.get?_update_ne _ _ _ _ (Nat.ne_of_lt hlt), Heap.get?_push_ne _ _ _ (Nat.ne_of_lt hlt)]
    exact q
  show wpAny _ _ _ _ _ { s with heap := ((s.heap.push (seqObj "list" #[] 0)).update s.heap.objs.size (Obj.mapSeq (· ++ vs.toArray))).push (seqObj "list" vs.toArray 0) }
  rw [hsz]
  refine wpAny_bind (wpAny_holding (wpAny_call_entry_kw slot_list_sort ⟨_, hoL, rfl⟩ entry_list_sort ?body (ksk_l1 _ _)))
  case body =>
    show wpAny (model prog w) A.in1.in1 (Builtin.«list.sort» ⟨[.ref (s.heap.objs.size + 1)], [(Str.ofString "key", .ref q)]⟩) _ _ _
    rw [ksk_t1]
    refine s_sort (s := { s with heap := ((s.heap.push (seqObj "list" #[] 0)).update s.heap.objs.size (Obj.mapSeq (· ++ vs.toArray))).push (seqObj "list" vs.toArray 0) })
      G (G.grow s _ _ hJ (fun b o _ q => keep b o q) (by rw [hN]; exact Nat.le_of_lt (Nat.lt_of_succ_lt (Heap.lt_size hoL)))) hoL (by rw [hN]; exact Nat.le_succ _) hlen h64 turn fun s' out c hJ' ho' k' => ⟨_, rfl, ?_⟩
    exact wpAny_pure ⟨_, rfl, h _ s' out c hJ' (by rw [hN]; exact Nat.le_succ _) ho' k'⟩
end
end KeyL
set_option Elab.async false
set_option linter.all false
set_option maxRecDepth 100000
set_option maxHeartbeats 4000000
namespace KeyL
open PySem PySem.Spec PyProof.Rows L2 LamX
/-! ### a lambda of one parameter -/
/-- its names: the parameter, captured ones, globals -/
structure LamS1 (sc scope : Scope) (a : Str) : Prop where
  kind : scope.kind = .function
  co : scope.isCoroutine = false
  gen : scope.isGenerator = false
  par : scope.names.lookup a = some .local
  own : ∀ y ∈ scope.names, y.2 ≠ .cell ∧ (y.2 = .local → y.1 = a)
  free : ∀ y ∈ scope.names, y.2 = .free → sc.names.lookup y.1 = some .cell ∨ sc.names.lookup y.1 = some .free
def lamSB1 (sc scope : Scope) (a : Str) : Bool :=
  decide (scope.kind = .function) && !scope.isCoroutine && !scope.isGenerator && decide (scope.names.lookup a = some .local) && scope.names.all fun y => !decide (y.2 = .cell) && (!decide (y.2 = .local) || decide (y.1 = a)) && (!decide (y.2 = .free) || decide (sc.names.lookup y.1 = some .cell) || decide (sc.names.lookup y.1 = some .free))
theorem lamS1_by {sc scope : Scope} {a : Str} (h : lamSB1 sc scope a = true) : LamS1 sc scope a := by
  unfold lamSB1 at h
  simp only [Bool.and_eq_true, Bool.or_eq_true, Bool.not_eq_true', decide_eq_true_eq, decide_eq_false_iff_not, List.all_eq_true] at h
  obtain ⟨⟨⟨⟨h1, h2⟩, h3⟩, h0⟩, h4⟩ := h
  refine ⟨h1, h2, h3, h0, fun y hy => ⟨(h4 y hy).1.1, fun e => ?_⟩, fun y hy e => ?_⟩
  · rcases (h4 y hy).1.2 with z | z
    · exact absurd e z
    · exact z
  · rcases (h4 y hy).2 with (z | z) | z
    · exact absurd e z
    · exact .inl z
    · exact .inr z
theorem LamS1.has {X : Cx} {scope : Scope} {a : Str} (L : LamS1 X.env.scope scope a) (ok : X.Ok) : ∀ y ∈ scope.names, y.2 = .free → ∃ c, X.env.cells.lookup y.1 = some c := fun y hy e => by
  rcases L.free y hy e with k | k
  · exact ok.has _ (.inl k)
  · exact ok.has _ (.inr k)
/-- the context of the lambda's body: its parameter, then the captured names Nf -/
def lamCx1 (X : Cx) (A : Around) (outer : List Env) (s : Shared) (H : Hp) (E : XK) (scope : Scope) (f c' : Addr) (a : Str) (Nf : List Str) : Cx where
  prog := X.prog
  w := X.w
  K := X.K
  mg := X.mg
  base := X.base
  A := A.deeper (lamEnv X scope s.heap.objs.size f c')
  N := a :: Nf
  s_0 := s
  H_0 := H
  env := lamEnv X scope s.heap.objs.size f c'
  outer := outer
  stack := lamEnv X scope s.heap.objs.size f c' :: outer
  ex := []
  fn := fun _ => false
  calm := true
  pn := []
  xe := fun e s' => wpAny (model X.prog X.w) (A.deeper (lamEnv X scope s.heap.objs.size f c')) (leaving (lamEnv X scope s.heap.objs.size f c') e) (fun _ s'' => L2.CX X.prog X.w outer H s E e s'') (fun e' s'' => L2.CX X.prog X.w outer H s E e' s'') s'
section
variable {X : Cx} {pins : List (Addr × Obj)} {σ σf : L2.St} {H : Hp} {s : Shared}
theorem lam1_start {A : Around} {E : XK} {scope : Scope} {f c' : Addr} {h₁ : Heap} {tk : Nat} {a : Str} {Nf : List Str} {x : V} {v : Value} (I : Inv X pins σ H s) (L : LamS1 X.env.scope scope a) (e0 : Env0 X.prog X.w X.K X.mg X.base A X.stack s H) (hd : A.handled = none)
    (hlen : σf.length = Nf.length) (hcap : ∀ (j : Nat) (y : Str) (w : V), Nf[j]? = some y → σf[j]? = some (some w) → y ≠ a ∧ ∃ i : Nat, X.N[i]? = some y ∧ σ[i]? = some (some w)) (r : RelV x v)
    (hns : h₁.Ns s.heap.objs.size fun y => ([(a, v)] : List (Str × Value)).reverse.lookup y) (kp : ∀ b o, s.heap.get? b = some o → h₁.get? b = some o) :
    Inv (lamCx1 X A X.stack s H E scope f c' a Nf) [] (some x :: σf) H { s with heap := h₁, toks := tk } := by
  have hfree := L.has I.ok
  have cm : ∀ {y c}, (cloFrom X.env.cells scope.names []).lookup y = some c → X.env.cells.lookup y = some c := fun {y c} e => by
    rcases cloFrom_mem (PySem.mem_of_lookup e) with hm | ⟨h1, h2⟩
    · cases hm
    · obtain ⟨c1, hc⟩ := hfree _ h1 rfl
      have hc : X.env.cells.lookup y = some c1 := hc
      have e2 : c = c1 := by
        rw [h2, hc] <;> rfl
      rw [e2]
      exact hc
  have look : ∀ {y}, scope.names.lookup y = some .free → ∃ c, (cloFrom X.env.cells scope.names []).lookup y = some c := fun {y} hl => by
    have hy : (y, NameKind.free) ∈ scope.names := PySem.mem_of_lookup hl
    exact mem_lookup (cloFrom_has (cells := X.env.cells) (acc := []) hy)
  have cellK : ∀ {c : Addr} {v : Option Value}, s.heap.IsCell c v → h₁.IsCell c v := fun {c v} ⟨o, ho, hd⟩ => ⟨o, kp _ _ ho, hd⟩
  have noA : ∀ b : Addr, b ∉ (lamCx1 X A X.stack s H E scope f c' a Nf).ex := fun b z => absurd (show b ∈ ([] : List Addr) from z) (by simp)
  refine ⟨⟨e0.mod, L.kind, rfl, rfl, Nat.le_refl _, fun y z c e1 e2 => I.ok.inj y z c (cm e1) (cm e2), fun y hy => ?_, fun y c z _ => ?_, fun _ => hd, Around.frames_deeper e0.frames, .inr ⟨rfl, rfl⟩, fun b z => absurd z (noA b), e0.bs, e0.bsz, fun b _ _ => noA b,
      fun b z => absurd z (noA b), e0.funs, e0.frf⟩,
    rfl, e0.bare, Un.kept kp, ⟨_, hns, fun i y v' e1 e2 e3 => ?_⟩, fun y c e => ?_, e0.hok.fresh (Nat.le_refl _), fun y c e => ?_, fun q hq => absurd (show q ∈ ([] : List (Addr × Obj)) ++ [] from hq) (by simp), e0.hok.kept kp, ?_⟩
  · have hy : scope.names.lookup y = some .cell ∨ scope.names.lookup y = some .free := hy
    rcases hy with hy | hy
    · exact absurd rfl (L.own _ (PySem.mem_of_lookup hy)).1
    · exact look hy
  · have z : false = true := z
    cases z
  · have e3 : Vis scope y := e3
    cases i with
    | zero =>
      have ey : a = y := Option.some.inj (show some a = some y from e1)
      have ev : x = v' := Option.some.inj (Option.some.inj (show some (some x) = some (some v') from e2))
      subst ey; subst ev
      refine ⟨v, r, .inl ⟨L.par, ?_⟩⟩
      show ([(a, v)] : List (Str × Value)).lookup a = some v
      simp
    | succ j =>
      have e1 : Nf[j]? = some y := by simpa [lamCx1] using e1
      have e2 : σf[j]? = some (some v') := by simpa using e2
      obtain ⟨hne, i, hi, hsi⟩ := hcap j y v' e1 e2
      rcases e3 with k | k | k
      · exact absurd ((L.own _ (PySem.mem_of_lookup k)).2 rfl) hne
      · exact absurd rfl (L.own _ (PySem.mem_of_lookup k)).1
      · obtain ⟨m, hn, hl⟩ := I.loc
        have hvis : Vis X.env.scope y := (L.free _ (PySem.mem_of_lookup k) rfl).elim (fun k => .inr (.inl k)) (fun k => .inr (.inr k))
        obtain ⟨w', r', q⟩ := hl i y v' hi hsi hvis
        obtain ⟨c2, h2⟩ := look k
        refine ⟨w', r', .inr ⟨.inr k, c2, h2, ?_⟩⟩
        have c1 := cm h2
        rcases q with ⟨k', _⟩ | ⟨_, c3, e', z⟩
        · have k' : X.env.scope.names.lookup y = some .local := k'
          rcases L.free _ (PySem.mem_of_lookup k) rfl with k2 | k2 <;> rw [show X.env.scope.names.lookup y = _ from k2] at k' <;> cases k'
        · rw [c1] at e'
          cases e'
          exact cellK z
  · obtain ⟨w', z⟩ := I.cell y c (cm e)
    exact ⟨w', cellK z⟩
  · exact I.freeC y c (cm e)
  · show (some x :: σf).length = (a :: Nf).length
    rw [List.length_cons, List.length_cons, hlen]
/-- what a state between two calls of the key is -/
def Jl (X : Cx) (pins : List (Addr × Obj)) (σ : L2.St) (H : Hp) (s : Shared) : Prop := Inv X pins σ H s
theorem jk_l (I : Inv X pins σ H s) {N0 : Nat} (hN : N0 = s.heap.objs.size) : Jk (Jl X pins σ H) N0 := by
  have sm : ∀ b o, s.heap.get? b = some o → b < N0 := fun b o e => by rw [hN]; exact Heap.lt_size e
  have hL : X.env.locals < N0 := by rw [hN]; exact I.lt
  have hC : ∀ y c, X.env.cells.lookup y = some c → c < N0 := fun y c e => by
    obtain ⟨v, o, ho, _⟩ := I.cell y c e
    exact sm c o ho
  have hP : ∀ p ∈ X.pn ++ pins, p.1 < N0 := fun p hp => sm _ _ (I.pin p hp).1
  have hH : ∀ b o, H b = some o → b < N0 := fun b o e => by rw [hN]; exact I.hok.lt e
  refine ⟨fun s1 h' tk I1 kp z2 => ?_⟩
  have I1 : Inv X pins σ H s1 := I1
  have lt : ∀ b o, b ∉ (List.range s1.heap.objs.size).filter (fun b => decide (N0 ≤ b)) → s1.heap.get? b = some o → b < N0 := fun b o n e => by
    by_cases q : b < N0
    · exact q
    · exact (n (List.mem_filter.mpr ⟨List.mem_range.mpr (Heap.lt_size e), by simpa using q⟩)).elim
  have kp2 : ∀ b o, b ∉ (List.range s1.heap.objs.size).filter (fun b => decide (N0 ≤ b)) → s1.heap.get? b = some o → h'.get? b = some o := fun b o n e => kp b o (lt b o n e) e
  show Inv X pins σ H _
  refine I1.step (g' := s1.gens) (d' := s1.drawn) (ch := (List.range s1.heap.objs.size).filter (fun b => decide (N0 ≤ b))) (fun b hb => ?_) (fun b o _ _ hc e _ => kp2 b o hc e) (fun b o _ _ hc e _ => ⟨o.slots, kp2 b o hc e⟩) (fun _ _ _ _ n => n)
    (fun b o hc e => ⟨o, kp2 b o hc e⟩) (fun _ _ e => e) (fun _ _ _ e => e) (fun b ps e => ⟨#[], by rw [e]; simp⟩) (fun m hm => ?_) (fun b u e => ?_) I1.bare
  · have q : N0 ≤ b := by simpa using (List.mem_filter.mp hb).2
    refine ⟨.inr (Nat.le_trans I.ok.above (Nat.le_of_lt (Nat.lt_of_lt_of_le hL q))), fun e => ?_, fun y c e z => ?_, fun p hp z => ?_⟩
    · rw [e] at q
      exact Nat.lt_irrefl _ (Nat.lt_of_lt_of_le hL q)
    · rw [← z] at q
      exact Nat.lt_irrefl _ (Nat.lt_of_lt_of_le (hC y c e) q)
    · rw [← z] at q
      exact Nat.lt_irrefl _ (Nat.lt_of_lt_of_le (hP p hp) q)
  · obtain ⟨o, es, ep, ho, r⟩ := hm
    exact ⟨o, es, ep, kp _ o hL ho, r⟩
  · refine (I1.hok b u e).stay (fun c v hc q => kp c v ?_ q) (fun _ q => q) fun _ _ q => q
    rcases hc with z | z
    · rw [z]; exact hH b u e
    · exact hH c _ z
/-- one call of the lambda -/
theorem lam1_turn {A : Around} {scope : Scope} {f c' : Addr} {a : Str} {Nf : List Str} {x : V} {v : Value} {k : Nat} {kx : Int} {N0 : Nat} {params : Arguments} {body : Expr} {pm ctv : Value} {tb : TE}
    (L : LamS1 X.env.scope scope a) (fr : A.frames = X.A.frames) (hr : Room (k + 1) A)
    (hbind : ∀ (q : Str) (cl : List (Str × Addr)) (pm cv ctv v : Value), bindArgs (PySem.W.kla_fn "<lambda>" q params body scope cl pm cv ctv) ⟨[v], []⟩ = pure [(a, v)])
    (hlen : σf.length = Nf.length) (hcap : ∀ (j : Nat) (y : Str) (w : V), Nf[j]? = some y → σf[j]? = some (some w) → y ≠ a ∧ ∃ i : Nat, X.N[i]? = some y ∧ σ[i]? = some (some w)) (r : RelV x v)
    (hm : (f, PySem.W.kla_obj "<lambda>" (X.env.qual ++ "<lambda>") params body scope (cloFrom X.env.cells scope.names []) pm c' ctv) ∈ pins) (hco : H c' = some (CodeO c' (X.env.qual ++ "<lambda>"))) (hH : ∀ b o, H b = some o → b < N0) (hF : ∀ b ∈ frs X.stack, b < N0)
    (hbody : ∀ (s : Shared) (H : Hp), Room k (A.deeper (lamEnv X scope s.heap.objs.size f c')) → PE (lamCx1 X A X.stack s H E0 scope f c' a Nf).nox body tb)
    (ht : tb (some x :: σf) H (fun v' H' => v' = .int kx ∧ H' = H)) :
    KT X.prog X.w A (Jl X pins σ H) N0 (.ref f) v kx := by
  intro s1 I1
  have I1 : Inv X pins σ H s1 := I1
  have of1 := (I1.pin _ (List.mem_append_right _ hm)).1
  obtain ⟨⟨oc, vs, t, hoc, hdc, hvc⟩, _, _⟩ := I1.hok c' _ hco
  have e0 : Env0 X.prog X.w X.K X.mg X.base A X.stack s1 H := by
    have z := I1.env0
    exact ⟨by rw [fr]; exact z.frames, z.mod, z.bs, z.bsz, z.funs, z.frf, z.hok, z.bare⟩
  have rc : codeAny (model X.prog X.w) A (.call (.ref f) ⟨[v], []⟩) (CR CX0 X.stack X.prog X.w H s1 (fun v' H' => v' = .int kx ∧ H' = H) E0) s1 := by
    refine PySem.W.kla_callFunE hr.depth of1 rfl L.co L.gen rfl ⟨c', oc, vs, t, rfl, hoc, hdc, hvc⟩ ?_
    rw [hbind]
    refine wpAny_pure (wpAny_newFunctionEnv (fun y hy => (L.own y hy).1) (fun y hy => by
      rw [List.mem_singleton.mp hy]
      exact L.par) (fun h₁ hns hsb => ⟨I1.nolimit.fresh _ hsb, ?_⟩) L.kind)
    show codeAny _ _ (.expr body (lamEnv X scope s1.heap.objs.size f c')) _ _
    have kp : ∀ b o, s1.heap.get? b = some o → h₁.get? b = some o := fun b o e => hsb.extBut b o (Nat.ne_of_lt (Heap.lt_size e)) (Heap.get?_push_of_some _ e)
    have J : Inv (lamCx1 X A X.stack s1 H E0 scope f c' a Nf) [] (some x :: σf) H { s1 with heap := h₁, toks := s1.toks + ([(a, v)] : List (Str × Value)).length } :=
      lam1_start I1 L e0 hr.hd hlen hcap r hns kp
    refine PySem.W.kla_codeExpr (wpAny_mono ((hbody s1 H (hr.deeper _)).run [] _ _ H _ (J.wish _) ht) (fun v s' hq => ?_) fun e s' hq => hq.elim)
    obtain ⟨w', H', J', rv, q⟩ := hq
    exact ⟨w', H', J'.os, J'.bare, J'.base, J'.hok, rv, q⟩
  refine wpAny_call (codeAny_mono rc fun r s' hq => ?_)
  cases r with
  | error e => exact (show False from hq).elim
  | ok fl =>
    cases fl with
    | ret u =>
      obtain ⟨v', H', ho, hba, un, hok, rv, ev, eH⟩ := (show CE X.stack X.prog X.w H s1 (fun v' H' => v' = .int kx ∧ H' = H) u s' from hq)
      subst ev
      rw [eH] at un hok
      obtain ⟨t, rfl⟩ := rv
      have hN : ∀ b o, N0 ≤ b → s1.heap.get? b = some o → s'.heap.get? b = some o := fun b o hb e => by
        refine un.keep b o e ?_ (fun z => Nat.lt_irrefl _ (Nat.lt_of_lt_of_le (hF b z) hb)) (by simp)
        cases q : H b with
        | none => rfl
        | some u => exact absurd (Nat.lt_of_lt_of_le (hH b u q) hb) (Nat.lt_irrefl _)
      exact ⟨t, rfl, I1.call' (ch := []) ho un hok hba (fun b z => absurd z (by simp)), hN⟩
    | next => exact False.elim hq
    | brk => exact False.elim hq
    | cont => exact False.elim hq
end
end KeyL
set_option Elab.async false
set_option linter.all false
set_option maxRecDepth 100000
set_option maxHeartbeats 200000
namespace KeyL
open PySem PySem.Spec PyProof.Rows L2 LamX
/-- the captured slots' values -/
def capt (σ : L2.St) (js : List Nat) : L2.St := js.map fun i => σ.getD i none
def CapOk (N : List Str) (a : Str) (Nf : List Str) (js : List Nat) : Prop := Nf.length = js.length ∧ ∀ (j : Nat) (y : Str), Nf[j]? = some y → y ≠ a ∧ ∃ i, js[j]? = some i ∧ N[i]? = some y
theorem capOk_by {N : List Str} {a : Str} {Nf : List Str} {js : List Nat} (h : (decide (Nf.length = js.length) && (Nf.zip js).all fun p => !decide (p.1 = a) && decide (N[p.2]? = some p.1)) = true) : CapOk N a Nf js := by
  simp only [Bool.and_eq_true, decide_eq_true_eq, List.all_eq_true, Bool.not_eq_true', decide_eq_false_iff_not] at h
  refine ⟨h.1, fun j y e => ?_⟩
  have hj : j < Nf.length := (List.getElem?_eq_some_iff.mp e).1
  have hj2 : j < js.length := by rw [← h.1]; exact hj
  have hz : (Nf.zip js)[j]? = some (y, js[j]) := by
    rw [List.getElem?_zip_eq_some]
    exact ⟨e, List.getElem?_eq_getElem hj2⟩
  obtain ⟨h1, h2⟩ := h.2 _ (List.mem_of_getElem? hz)
  exact ⟨h1, js[j], List.getElem?_eq_getElem hj2, h2⟩
theorem CapOk.get {N : List Str} {a : Str} {Nf : List Str} {js : List Nat} (c : CapOk N a Nf js) (σ : L2.St) : (capt σ js).length = Nf.length ∧ ∀ (j : Nat) (y : Str) (w : V), Nf[j]? = some y → (capt σ js)[j]? = some (some w) → y ≠ a ∧ ∃ i : Nat, N[i]? = some y ∧ σ[i]? = some (some w) := by
  refine ⟨by unfold capt; rw [List.length_map, c.1], fun j y w e1 e2 => ?_⟩
  obtain ⟨h1, i, h2, h3⟩ := c.2 j y e1
  refine ⟨h1, i, h3, ?_⟩
  unfold capt at e2
  rw [List.getElem?_map, h2] at e2
  have e3 : σ.getD i none = some w := Option.some.inj e2
  rw [List.getD_eq_getElem?_getD] at e3
  cases q : σ[i]? with
  | none => rw [q] at e3; cases e3
  | some u =>
    rw [q] at e3
    have e4 : u = some w := e3
    rw [e4]
theorem extN_list {K : PySem.W.Frag} {H H' : Hp} {a : Addr} {xs : List V} (e : ExtN H H') (h : SqL K H a xs) : SqL K H' a xs := by
  rcases h with (h | ⟨o, h⟩) | h
  · exact .inl (.inl (e _ _ h fun ps z => nomatch z))
  · exact .inl (.inr ⟨o, e _ _ h fun ps z => nomatch z⟩)
  · exact .inr h
/-- the whole of what a lambda with one parameter asks of the def that makes it -/
structure LamD (X : Cx) (T : List (Addr × Str)) (params : Arguments) (body : Expr) (scope : Scope) (a : Str) (Nf : List Str) (js : List Nat) (k : Nat) (tb : TE) : Prop where
  tab : ∃ c P, TabB X.base X.mg c P ∧ X.env.code = .ref c ∧ (P, X.env.qual ++ "<lambda>") ∈ T ∧ ∀ p ∈ T, p.1 = P → p.2 = X.env.qual ++ "<lambda>"
  L : LamS1 X.env.scope scope a
  hdef : defaultsOf params X.env = ([], [])
  bind : ∀ (q : Str) (cl : List (Str × Addr)) (pm cv ctv v : Value), bindArgs (PySem.W.kla_fn "<lambda>" q params body scope cl pm cv ctv) ⟨[v], []⟩ = pure [(a, v)]
  cap : CapOk X.N a Nf js
  stk : X.stack = X.env :: X.outer ∧ X.env.frame = some X.env.locals
  room : Room (k + 3) X.A
  body : ∀ (A : Around) (s : Shared) (H : Hp) (f c' : Addr), Room k (A.deeper (lamEnv X scope s.heap.objs.size f c')) → PE (lamCx1 X A X.stack s H E0 scope f c' a Nf).nox body tb
section
variable {X : Cx} {pins : List (Addr × Obj)} {σ : L2.St} {H : Hp} {s : Shared} {T : List (Addr × Str)} {params : Arguments} {body : Expr} {scope : Scope} {a : Str} {Nf : List Str} {js : List Nat} {k : Nat} {tb te : TE} {e : Expr} {x id key : Str} {bid : String} {p lpos kpos pos : Pos} {Q : VK}
/-- the lambda stands, the call comes -/
def Ready (X : Cx) (pins : List (Addr × Obj)) (σ : L2.St) (H : Hp) (N0 : Nat) (f : Addr) (js : List Nat) (tb : TE) (s : Shared) : Prop :=
  Inv X pins σ H s ∧ N0 = s.heap.objs.size ∧ ∀ (A : Around) (x : V) (v : Value) (kx : Int), (A = X.A.in1 ∨ A = X.A.in1.in1) → RelV x v → tb (some x :: capt σ js) H (fun v' H' => v' = .int kx ∧ H' = H) → KT X.prog X.w A (Jl X pins σ H) N0 (.ref f) v kx
theorem kw_lam {M : Model} {A : Around} {E : Value → Shared → Prop} {env : Env} {s : Shared} {Qk : List Value → Shared → Prop}
    (h : wpAny M A (eval (.Lambda params body scope lpos) env) (fun u s2 => Qk [u] s2) E s) :
    wpAny M A (evalAll ((backToKw pos (keywordEach [⟨some key, .Lambda params body scope lpos, kpos⟩] env)).map (·.2))) Qk E s := by
  show wpAny _ _ (evalAll ((do let v ← eval (.Lambda params body scope lpos) env; standAt pos; pure v) :: (backToKw pos (keywordEach [] env)).map (·.2))) _ _ s
  exact wpAny_evalAll_cons (wpAny_bind (wpAny_mono h (fun u s2 q => wpAny_bind (wpAny_standAt (wpAny_pure (wpAny_evalAll_nil q)))) fun _ _ e => e))
theorem key_enter (D : LamD X T params body scope a Nf js k tb) (hg : Gl X x) (hm : X.mg x = none) (hv : bootBuiltins x = some (.builtin bid)) (ha : PA X [e] (tCons te tNil)) (hn : x ≠ "__name__") (hdb : (x == ("__debug__" : Str)) = false)
    (he : backTo pos (starEach [e] X.env) = (false, eval e X.env) :: backTo pos (starEach [] X.env)) (hpl : (backTo pos (starEach [e] X.env)).any (·.1) = false)
    (hall : (backToKw pos (keywordEach [⟨some key, .Lambda params body scope lpos, kpos⟩] X.env)).all (·.1.isSome) = true) (hnone : (backToKw pos (keywordEach [⟨some key, .Lambda params body scope lpos, kpos⟩] X.env)).any (·.1.isNone) = false) (hks : (backToKw pos (keywordEach [⟨some key, .Lambda params body scope lpos, kpos⟩] X.env)).filterMap (·.1) = [key])
    {R : Addr → List V → Hp → Prop} (I : Inv X pins σ H s) (h : te σ H fun y H1 => Tabs T H1 ∧ ∃ l xs, y = .ref l ∧ SqL X.K H1 l xs ∧ ∀ H2, ExtN H1 H2 → Tabs T H2 → R l xs H2)
    (fin : ∀ (pn : List (Addr × Obj)) (s2 : Shared) (H2 : Hp) (N0 : Nat) (f l : Addr) (xs : List V), (∀ s3 H3, Inv X (pins ++ pn) σ H3 s3 → Inv X pins σ H3 s3) → Ready X (pins ++ pn) σ H2 N0 f js tb s2 → SqL X.K H2 l xs → R l xs H2 → wpAny (model X.prog X.w) X.A (call (.builtin bid) [.ref l] [(key, .ref f)]) (EP X pins σ Q) X.xe s2) :
    wpAny (model X.prog X.w) X.A (eval (.Call (.Name x p) [e] [⟨some key, .Lambda params body scope lpos, kpos⟩] pos) X.env) (EP X pins σ Q) X.xe s := by
  obtain ⟨c, P, TB, hcode, hmT, hu⟩ := D.tab
  refine wpAny_Call_Name_kw (ld_blt I hg hm hv ?_ hn hdb)
  refine PyProof.Rows.callWith_kw (thn (ha.run pos pins s σ H (fun vs H1 => match vs with
    | [y] => Tabs T H1 ∧ ∃ l xs, y = .ref l ∧ SqL X.K H1 l xs ∧ ∀ H2, ExtN H1 H2 → Tabs T H2 → R l xs H2
    | _ => False) I h) fun us s1 ⟨vs, H1, I1, r1, q1⟩ => ?_) he hpl hall hnone
  cases r1 with
  | nil => exact q1.elim
  | cons ry r1 =>
    cases r1 with
    | cons _ _ => exact q1.elim
    | nil =>
    obtain ⟨hT, l, xs, rfl, hS, hR⟩ := q1
    obtain rfl := (show _ = Value.ref l from ry)
    refine kw_lam (lam_make2 I1 TB hcode hmT hu hT D.hdef (D.L.has I1.ok) fun f c' pm ctv H2 s2 I2 eN T2 hf hfn hfr hco => ?_)
    rw [hks]
    have eF : frs X.stack = X.env.locals :: X.fs := by
      rw [D.stk.1]
      unfold frs
      rw [List.filterMap_cons, D.stk.2]
      try rfl
    have fL : f ≠ X.env.locals := fun z => hfr (by rw [eF, z]; exact List.mem_cons_self)
    have fS : f ∉ X.fs := fun z => hfr (by rw [eF]; exact List.mem_cons_of_mem _ z)
    have I3 : Inv X (pins ++ [(f, PySem.W.kla_obj "<lambda>" (X.env.qual ++ "<lambda>") params body scope (cloFrom X.env.cells scope.names []) pm c' ctv)]) σ H2 s2 :=
      ⟨I2.ok, I2.os, I2.bare, I2.base, I2.loc, I2.cell, I2.free, I2.freeC, fun p hp => by
        rw [← List.append_assoc] at hp
        rcases List.mem_append.mp hp with hp | hp
        · exact I2.pin p hp
        · rw [List.mem_singleton.mp hp]
          exact ⟨hf, hfn, fL, fS, fun v z => nomatch z⟩, I2.hok, I2.len⟩
    refine fin [(f, _)] s2 H2 s2.heap.objs.size f l xs (fun s3 H3 I => I.unpinned) ⟨I3, rfl, fun A x v kx hA r ht => ?_⟩ (extN_list eN hS) (hR H2 eN T2)
    obtain ⟨c1, c2⟩ := D.cap.get σ
    have fr : A.frames = X.A.frames ∧ Room (k + 1) A := by
      rcases hA with rfl | rfl
      · exact ⟨rfl, D.room.in1.mono (by omega)⟩
      · exact ⟨rfl, D.room.in1.in1⟩
    refine lam1_turn (k := k) D.L fr.1 fr.2 D.bind c1 c2 r (List.mem_append_right _ (.head _)) hco (fun b o e => I2.hok.lt e) (fun b hb => ?_) (fun s H hr => D.body A s H f c' hr) ht
    rcases List.mem_cons.mp (I2.stkSub b hb) with z | z
    · rw [z]; exact I2.lt
    · obtain ⟨_, o, ho, _⟩ := I2.funs.mem z
      exact Heap.lt_size ho
theorem isList_of {h : Heap} {a : Addr} {its : Array Value} (p : PlainL h a its) : h.IsList a its := by
  obtain ⟨o, n, e, h1, h2, h3⟩ := p
  exact ⟨o, e, h1, n, h3⟩
/-- min(e, key=lambda a: body) -/
def tMinK (K : PySem.W.Frag) (T : List (Addr × Str)) (js : List Nat) (te tb : TE) : TE := fun σ H Q => te σ H fun y H1 => Tabs T H1 ∧ ∃ l xs, y = .ref l ∧ SqL K H1 l xs ∧ ∀ H2, ExtN H1 H2 → Tabs T H2 → 0 < xs.length ∧ ∃ kf : Nat → Int,
  (∀ i x, xs[i]? = some x → tb (some x :: capt σ js) H2 fun v' H' => v' = .int (kf i) ∧ H' = H2) ∧ ∀ i x, xs[i]? = some x → (∀ j, j < xs.length → kf i ≤ kf j ∧ (j < i → kf i < kf j)) → Q x H2
def tMaxK (K : PySem.W.Frag) (T : List (Addr × Str)) (js : List Nat) (te tb : TE) : TE := fun σ H Q => te σ H fun y H1 => Tabs T H1 ∧ ∃ l xs, y = .ref l ∧ SqL K H1 l xs ∧ ∀ H2, ExtN H1 H2 → Tabs T H2 → 0 < xs.length ∧ ∃ kf : Nat → Int,
  (∀ i x, xs[i]? = some x → tb (some x :: capt σ js) H2 fun v' H' => v' = .int (kf i) ∧ H' = H2) ∧ ∀ i x, xs[i]? = some x → (∀ j, j < xs.length → kf j ≤ kf i ∧ (j < i → kf j < kf i)) → Q x H2
theorem pe_minK (D : LamD X T params body scope a Nf js k tb) (hg : Gl X "min") (hm : X.mg "min" = none) (ha : PA X [e] (tCons te tNil))
    (he : backTo pos (starEach [e] X.env) = (false, eval e X.env) :: backTo pos (starEach [] X.env) := by rfl) (hpl : (backTo pos (starEach [e] X.env)).any (·.1) = false := by rfl)
    (hall : (backToKw pos (keywordEach [⟨some "key", .Lambda params body scope lpos, kpos⟩] X.env)).all (·.1.isSome) = true := by rfl) (hnone : (backToKw pos (keywordEach [⟨some "key", .Lambda params body scope lpos, kpos⟩] X.env)).any (·.1.isNone) = false := by rfl) (hks : (backToKw pos (keywordEach [⟨some "key", .Lambda params body scope lpos, kpos⟩] X.env)).filterMap (·.1) = [Str.ofString "key"] := by rfl) :
    PE X (.Call (.Name "min" p) [e] [⟨some "key", .Lambda params body scope lpos, kpos⟩] pos) (tMinK X.K T js te tb) := by
  refine ⟨fun pins s σ H Q I h => ?_⟩
  refine key_enter (bid := "min") D hg hm (by decide +kernel) ha (by decide) (by decide) he hpl hall hnone hks I h fun pn s2 H2 N0 f l xs unp rd hS hR => ?_
  obtain ⟨hne, kf, hb, hQ⟩ := hR
  obtain ⟨I2, hN, turn⟩ := rd
  refine min_key (J := Jl X (pins ++ pn) σ H2) (N0 := N0) (n := xs.length) (VP := fun i v => ∃ x, xs[i]? = some x ∧ RelV x v) kf (D.room.hd) (jk_l I2 hN) (fun s3 J3 => ?_) hN I2 hne (fun i v ⟨x, hx, r⟩ => turn _ x v (kf i) (.inl rfl) r (hb i x hx)) (fun i v s' hi ⟨x, hx, r⟩ hbest J' => ?_)
  · have J3 : Inv X (pins ++ pn) σ H2 s3 := J3
    obtain ⟨its, r, pl, _⟩ := J3.list hS
    refine ⟨its, r.length.symm, isList_of pl, fun i v e => ?_⟩
    cases q : xs[i]? with
    | none =>
      rw [r.none_of q] at e
      cases e
    | some x =>
      obtain ⟨u, e1, e2⟩ := r.get q
      rw [e] at e1
      cases e1
      exact ⟨x, rfl, e2⟩
  · exact ⟨x, H2, unp _ _ J', r, hQ i x hx hbest⟩
theorem pe_maxK (D : LamD X T params body scope a Nf js k tb) (hg : Gl X "max") (hm : X.mg "max" = none) (ha : PA X [e] (tCons te tNil))
    (he : backTo pos (starEach [e] X.env) = (false, eval e X.env) :: backTo pos (starEach [] X.env) := by rfl) (hpl : (backTo pos (starEach [e] X.env)).any (·.1) = false := by rfl)
    (hall : (backToKw pos (keywordEach [⟨some "key", .Lambda params body scope lpos, kpos⟩] X.env)).all (·.1.isSome) = true := by rfl) (hnone : (backToKw pos (keywordEach [⟨some "key", .Lambda params body scope lpos, kpos⟩] X.env)).any (·.1.isNone) = false := by rfl) (hks : (backToKw pos (keywordEach [⟨some "key", .Lambda params body scope lpos, kpos⟩] X.env)).filterMap (·.1) = [Str.ofString "key"] := by rfl) :
    PE X (.Call (.Name "max" p) [e] [⟨some "key", .Lambda params body scope lpos, kpos⟩] pos) (tMaxK X.K T js te tb) := by
  refine ⟨fun pins s σ H Q I h => ?_⟩
  refine key_enter (bid := "max") D hg hm (by decide +kernel) ha (by decide) (by decide) he hpl hall hnone hks I h fun pn s2 H2 N0 f l xs unp rd hS hR => ?_
  obtain ⟨hne, kf, hb, hQ⟩ := hR
  obtain ⟨I2, hN, turn⟩ := rd
  refine max_key (J := Jl X (pins ++ pn) σ H2) (N0 := N0) (n := xs.length) (VP := fun i v => ∃ x, xs[i]? = some x ∧ RelV x v) kf (D.room.hd) (jk_l I2 hN) (fun s3 J3 => ?_) hN I2 hne (fun i v ⟨x, hx, r⟩ => turn _ x v (kf i) (.inl rfl) r (hb i x hx)) (fun i v s' hi ⟨x, hx, r⟩ hbest J' => ?_)
  · have J3 : Inv X (pins ++ pn) σ H2 s3 := J3
    obtain ⟨its, r, pl, _⟩ := J3.list hS
    refine ⟨its, r.length.symm, isList_of pl, fun i v e => ?_⟩
    cases q : xs[i]? with
    | none =>
      rw [r.none_of q] at e
      cases e
    | some x =>
      obtain ⟨u, e1, e2⟩ := r.get q
      rw [e] at e1
      cases e1
      exact ⟨x, rfl, e2⟩
  · exact ⟨x, H2, unp _ _ J', r, hQ i x hx hbest⟩
end
end KeyL
set_option Elab.async false
set_option linter.all false
set_option maxRecDepth 100000
set_option maxHeartbeats 400000
namespace KeyL
open PySem PySem.Spec PyProof.Rows L2 LamX
section
variable {X : Cx} {pins : List (Addr × Obj)} {σ : L2.St} {H : Hp} {s : Shared}
/-- a list that stands untracked, younger than all else, is tracked from now on -/
theorem inv_track {D : Addr} {u : HO} (I : Inv X pins σ H s) (hn : H D = none) (h0 : X.s_0.heap.objs.size ≤ D) (hL : D ≠ X.env.locals) (hC : ∀ x c, X.env.cells.lookup x = some c → c ≠ D) (hP : ∀ p ∈ X.pn ++ pins, p.1 ≠ D)
    (new : ObjOk X.prog X.w (upd H D u) s.heap D u) : Inv X pins σ (upd H D u) s := by
  have nb : ∀ b v, H b = some v → b ≠ D := fun b v e => ne_of_none e hn
  refine ⟨I.ok, I.os, I.bare, ⟨I.base.keep, I.base.slot, fun b o e n hx => ?_, I.base.there, fun b xs e => ?_, fun b o xs e => ?_, fun b ps e => ?_⟩, I.loc, I.cell, ?_, fun x c e => ?_, fun p hp => ?_, fun b v e => ?_, I.len⟩
  · have hb : b ≠ D := Nat.ne_of_lt (Nat.lt_of_lt_of_le (Heap.lt_size e) h0)
    rw [upd_ne hb]
    exact I.base.free b o e n hx
  · have q := I.base.tups b xs e
    rw [upd_ne (nb b _ q)]
    exact q
  · have q := I.base.frzs b o xs e
    rw [upd_ne (nb b _ q)]
    exact q
  · obtain ⟨m, q⟩ := I.base.tbls b ps e
    exact ⟨m, by rw [upd_ne (nb b _ q)]; exact q⟩
  · rw [upd_ne (Ne.symm hL)]
    exact I.free
  · rw [upd_ne (hC x c e)]
    exact I.freeC x c e
  · obtain ⟨e, n, ne, nf, d⟩ := I.pin p hp
    exact ⟨e, by rw [upd_ne (hP p hp)]; exact n, ne, nf, d⟩
  · by_cases hb : b = D
    · subst hb
      rw [upd_same] at e
      cases e
      exact new
    · rw [upd_ne hb] at e
      exact (I.hok b v e).stay (fun _ _ _ q => q) (fun c q => by rw [upd_ne (nb c _ q)]; exact q) fun c xs q => by rw [upd_ne (nb c _ q)]; exact q
theorem valsOfInts : ∀ {ns : List Int} {vs : List Value}, IntsAre vs ns → Vals (ns.map V.int) vs
  | _, _, .nil => .nil
  | _, _, .cons n t r => .cons ⟨t, rfl⟩ (valsOfInts r)
theorem intsOfVals : ∀ {ns : List Int} {vs : List Value}, Vals (ns.map V.int) vs → IntsAre vs ns
  | [], _, .nil => .nil
  | n :: ns, _, .cons r t => by
    obtain ⟨tk, rfl⟩ := r
    exact .cons n tk (intsOfVals t)
/-- what the sort by a key leaves -/
theorem out_ints {ns : List Int} {vs out : List Value} {g : Int → Int} (hi : IntsAre vs ns) (ko : KskOut false (ns.map g) vs out) : ∃ ns', IntsAre out ns' ∧ ns'.Perm ns ∧ ns'.Pairwise (fun x y => g x ≤ g y) := by
  obtain ⟨ps, hp, ho, hs⟩ := ko
  have hlen := hi.length
  have hrel : ∀ p, p ∈ (ns.map g).zip vs → p.1 = g (numOf p.2) ∧ p.2 ∈ vs := by
    rw [← hi.nums, List.map_map, List.zip_map_left]
    intro p hp
    obtain ⟨⟨u, v⟩, hq, rfl⟩ := List.mem_map.mp hp
    have h1 : u = v ∧ u ∈ vs := mem_zip_self hq
    refine ⟨?_, ?_⟩
    · show g (numOf u) = g (numOf v)
      rw [h1.1]
    · show v ∈ vs
      rw [← h1.1]
      exact h1.2
  have hI : IntsAre (ps.map Prod.snd) ((ps.map Prod.snd).map numOf) := intsAre_map _ fun v hv => by
    obtain ⟨p, hp', rfl⟩ := List.mem_map.mp hv
    exact hi.all _ (hrel p (hp.mem_iff.mp hp')).2
  have hP : ((ps.map Prod.snd).map numOf).Perm ns := by
    have h1 := (hp.map Prod.snd).map numOf
    rw [List.map_snd_zip (by rw [List.length_map]; omega), hi.nums] at h1
    exact h1
  have hO : ((ps.map Prod.snd).map numOf).Pairwise (fun x y => g x ≤ g y) := by
    rw [List.pairwise_map, List.pairwise_map]
    refine hs.imp_of_mem fun {p q} hp' hq' hr => ?_
    have hr' : p.1 ≤ q.1 := by simpa using hr
    rw [(hrel p (hp.mem_iff.mp hp')).1, (hrel q (hp.mem_iff.mp hq')).1] at hr'
    exact hr'
  rw [← ho] at hI hP hO
  exact ⟨_, hI, hP, hO⟩
end
section
variable {X : Cx} {T : List (Addr × Str)} {params : Arguments} {body : Expr} {scope : Scope} {a : Str} {Nf : List Str} {js : List Nat} {k : Nat} {tb te : TE} {e : Expr} {p lpos kpos pos : Pos}
/-- sorted(e, key=lambda a: body): fewer than 64 ints -/
def tSortK (K : PySem.W.Frag) (T : List (Addr × Str)) (js : List Nat) (te tb : TE) : TE := fun σ H Q => te σ H fun y H1 => Tabs T H1 ∧ ∃ l xs, y = .ref l ∧ SqL K H1 l xs ∧ ∀ H2, ExtN H1 H2 → Tabs T H2 → ∃ (ns : List Int) (g : Int → Int), xs = ns.map V.int ∧ ns.length < 64 ∧
  (∀ n ∈ ns, tb (some (.int n) :: capt σ js) H2 fun v' H' => v' = .int (g n) ∧ H' = H2) ∧ ∀ (ns' : List Int) (D : Addr), ns'.Perm ns → ns'.Pairwise (fun x y => g x ≤ g y) → H2 D = none → Q (.ref D) (upd H2 D (.lst (ns'.map V.int)))
theorem pe_sortK (D : LamD X T params body scope a Nf js k tb) (hg : Gl X "sorted") (hm : X.mg "sorted" = none) (ha : PA X [e] (tCons te tNil))
    (he : backTo pos (starEach [e] X.env) = (false, eval e X.env) :: backTo pos (starEach [] X.env) := by rfl) (hpl : (backTo pos (starEach [e] X.env)).any (·.1) = false := by rfl)
    (hall : (backToKw pos (keywordEach [⟨some "key", .Lambda params body scope lpos, kpos⟩] X.env)).all (·.1.isSome) = true := by rfl) (hnone : (backToKw pos (keywordEach [⟨some "key", .Lambda params body scope lpos, kpos⟩] X.env)).any (·.1.isNone) = false := by rfl) (hks : (backToKw pos (keywordEach [⟨some "key", .Lambda params body scope lpos, kpos⟩] X.env)).filterMap (·.1) = [Str.ofString "key"] := by rfl) :
    PE X (.Call (.Name "sorted" p) [e] [⟨some "key", .Lambda params body scope lpos, kpos⟩] pos) (tSortK X.K T js te tb) := by
  refine ⟨fun pins s σ H Q I h => ?_⟩
  refine key_enter (bid := "sorted") D hg hm (by decide +kernel) ha (by decide) (by decide) he hpl hall hnone hks I h fun pn s2 H2 N0 f l xs unp rd hS hR => ?_
  obtain ⟨ns, g, rfl, h64, hb, hQ⟩ := hR
  obtain ⟨I2, hN, turn⟩ := rd
  obtain ⟨its, r, pl, _⟩ := I2.list hS
  have hi := intsOfVals r
  have hlen := hi.length
  refine sorted_key (J := Jl X (pins ++ pn) σ H2) (N0 := N0) (kz := ns.map g) (jk_l I2 hN) (isList_of pl) hN I2 (by rw [List.length_map]; omega) (by omega) (fun i v kx hv hk => ?_) fun D s' out c J' hD ho ko => ?_
  · rw [List.getElem?_map] at hk
    cases q : ns[i]? with
    | none => rw [q] at hk; cases hk
    | some n =>
      rw [q] at hk
      have hk' : g n = kx := Option.some.inj hk
      subst hk'
      obtain ⟨t, ht'⟩ := hi.get i n q
      rw [ht'] at hv
      cases hv
      exact turn _ (.int n) _ (g n) (.inr rfl) ⟨t, rfl⟩ (hb n (List.mem_of_getElem? q))
  · have J' : Inv X (pins ++ pn) σ H2 s' := J'
    obtain ⟨ns', hI, hP, hO⟩ := out_ints hi ko
    have hlt : ∀ b, b < N0 → b ≠ D := fun b hb => Nat.ne_of_lt (Nat.lt_of_lt_of_le hb hD)
    have nD : H2 D = none := by
      cases q : H2 D with
      | none => rfl
      | some u => exact absurd (by rw [hN]; exact I2.hok.lt q : D < N0) (Nat.not_lt.mpr hD)
    have hL : X.env.locals < N0 := by rw [hN]; exact I2.lt
    refine ⟨.ref D, upd H2 D (.lst (ns'.map V.int)), unp _ _ (inv_track J' nD (Nat.le_trans I2.ok.above (Nat.le_of_lt (Nat.lt_of_lt_of_le hL hD))) (Ne.symm (hlt _ hL)) (fun y c e => ?_) (fun p hp => ?_) ⟨?_, out.toList, c, valsOfInts hI, ho⟩), rfl, hQ ns' D hP hO nD⟩
    · obtain ⟨v, o, hoc, _⟩ := I2.cell y c e
      exact hlt c (by rw [hN]; exact Heap.lt_size hoc)
    · exact hlt _ (by rw [hN]; exact Heap.lt_size (I2.pin p hp).1)
    · rw [List.length_map, hP.length_eq, sizeLine_eq]
      omega
end
end KeyL
set_option Elab.async false
set_option linter.all false
set_option maxRecDepth 100000
set_option maxHeartbeats 400000
namespace KeyL
open PySem PySem.Spec PyProof.Rows L2
section
variable {prog : Program} {w : World} {A : Around} {E : Value → Shared → Prop} {s : Shared}
/-- *a, b = a list: what is drawn -/
theorem star_items {l : Addr} {items : Array Value} {x : Value} {ys : List Value} {Q : List Value → Shared → Prop} (hh : A.handled = none) (hl : s.heap.IsList l items) (he : items.toList = ys ++ [x]) (hn : items.size ≤ sizeLine)
    (hQ : ∀ (h' : Heap) (tk : Nat), (∀ b o, s.heap.get? b = some o → h'.get? b = some o) → Q [.ref h'.objs.size, x] { s with heap := h'.push { cls := .type "list", data := .seq ys.toArray }, toks := tk }) : wpAny (model prog w) A (unpackItems (.ref l) 2 (some 0)) Q E s := by
  have hlt : l ≠ s.heap.objs.size := by obtain ⟨o, ho, _⟩ := hl; exact Nat.ne_of_lt (Heap.lt_size ho)
  have hll : l < s.heap.objs.size := by obtain ⟨o, ho, _⟩ := hl; exact Heap.lt_size ho
  unfold unpackItems
  refine wpAny_bind ?_
  unfold notIterableAtAll
  refine wpAny_bind (wpAny_specialOf hl.typeIs slot_list_iter.lookup ?_)
  refine wpAny_pure ?_
  simp only [Bool.false_eq_true, if_false]
  refine wpAny_bind (wpAny_holding (wpAny_pyIter_list hl ?_))
  show wpAny _ _ (holding _ (pure []) >>= _) _ _ _
  refine wpAny_bind (wpAny_holding (wpAny_pure ?_))
  rw [if_neg (by simp)]
  have W := (Walks.list (prog := prog) (w := w) (A := A.in1) hh s.heap.objs.size l hlt items).toS
  refine wpAny_bind (wpAny_holding (wpAny_collect_iter (T := "list_iterator") (.inr (.inr (.inl rfl))) W (fun i s h => h.1.typeIs) ⟨⟨_, Heap.get?_push_size _ rfl, rfl, rfl⟩, hl.push _⟩ (fun b hb => ?_) (by simp) (fun s' acc hm hacc => ?_) hn))
  · show b < (s.heap.push _).objs.size
    rw [size_push']
    rcases List.mem_cons.mp hb with rfl | hb
    · exact Nat.lt_succ_self _
    · rw [List.mem_singleton.mp hb]
      exact Nat.lt_succ_of_lt hll
  · have ea : acc.toList = ys ++ [x] := by
      rw [← he]
      refine List.ext_getElem? fun i => ?_
      by_cases hi : i < items.size
      · have hi2 : i < acc.size := by rw [hacc.1]; exact hi
        have h1 := hacc.2 i acc[i] (by simp [hi2])
        rw [Array.getElem?_toList, Array.getElem?_toList, h1]
        simp [hi2]
      · rw [List.getElem?_eq_none (by rw [Array.length_toList, hacc.1]; omega), List.getElem?_eq_none (by rw [Array.length_toList]; omega)]
    rw [ea]
    simp only [List.length_append, List.length_singleton]
    rw [if_neg (by omega)]
    have e1 : ys.length + 1 - (2 - 1 - 0) = ys.length := by omega
    rw [e1]
    have ez : ys.length ≤ sizeLine := by
      have z : items.toList.length = ys.length + 1 := by rw [he]; simp
      rw [Array.length_toList] at z
      omega
    have t1 : (ys ++ [x]).take ys.length = ys := by simp
    have t2 : (ys ++ [x]).drop ys.length = [x] := by simp
    rw [t1, t2]
    refine wpAny_bind (wpAny_newList ?_ ez)
    refine wpAny_pure ?_
    rw [Moved.eq_with hm]
    refine hQ s'.heap s'.toks fun b o e => hm.heap b o (fun hb => ?_) (Heap.get?_push_of_some _ e)
    rw [List.mem_singleton.mp hb] at e
    exact Nat.lt_irrefl _ (Heap.lt_size e)
end
section
variable {X : Cx} {pos : Pos}
/-- (*a, b) = a list -/
def gStar (K : PySem.W.Frag) (t : TGs) : TG := fun v σ H Q => ∃ l ys x, v = .ref l ∧ SqL K H l (ys ++ [x]) ∧ ∀ p, H p = none → t [.ref p, x] σ (upd H p (.lst ys)) Q
theorem pg_star {a b : Expr} {k : Nat} {ps : Pos} {t : TGs} (hc : X.calm = true) (h : PGs X [a, b] t)
    (hn : assignEach [.Starred a ps, b] X.env = [(true, assign a X.env), (false, assign b X.env)] := by rfl) (h2 : (assignEach [a, b] X.env).map (·.2) = [assign a X.env, assign b X.env] := by rfl) : PG X (.Tuple [.Starred a ps, b] k pos) (gStar X.K t) := by
  refine ⟨fun pins s σ H v u Q I r hw => ?_⟩
  obtain ⟨l, ys, x, e1, hq, hw⟩ := hw
  subst e1
  cases r
  obtain ⟨its, rv, pl, hz⟩ := I.list hq
  have hl' : s.heap.IsList l its.toArray := isList_of pl
  obtain ⟨us, u, eu, rus, ru⟩ : ∃ us u, its = us ++ [u] ∧ Vals ys us ∧ RelV x u := by
    have hlen : its.length = ys.length + 1 := by rw [← rv.length]; simp
    have h1 := Vals.take ys.length rv
    have h2 := Vals.drop ys.length rv
    rw [List.take_left] at h1
    rw [List.drop_left] at h2
    cases hd : its.drop ys.length with
    | nil => rw [hd] at h2; cases h2
    | cons u r =>
      rw [hd] at h2
      cases h2 with
      | cons r1 r2 =>
        cases r2
        exact ⟨its.take ys.length, u, by rw [← hd, List.take_append_drop], h1, r1⟩
  rw [PyProof.Rows.assign_Tuple]
  refine wpAny_bind (wpAny_standAt ?_)
  unfold unpack
  rw [hn]
  refine wpAny_bind (wpAny_holding (star_items (I.ok.hd hc) hl' (ys := us) (x := u) (by simpa using eu) (by rw [List.size_toArray, ← rv.length]; exact hz) fun h' tk kp => ?_))
  have I1 : Inv X pins σ H { s with heap := h', toks := tk } := I.kept kp
  have hs : ys.length ≤ sizeLine := by
    rw [List.length_append] at hz
    omega
  have hfr : H h'.objs.size = none := I1.hok.fresh (Nat.le_refl _)
  have I2 : Inv X pins σ (upd H h'.objs.size (.lst ys)) { s with heap := h'.push { cls := .type "list", data := .seq us.toArray }, toks := tk } :=
    I1.laid (t' := tk) (fun b o e => Heap.get?_push_of_some _ e) (Nat.le_refl _) ⟨hs, us, _, rus, Heap.get?_push_size _ rfl⟩
  have z := h.run pins _ σ _ [.ref h'.objs.size, x] [.ref h'.objs.size, u] Q I2 (.cons rfl (.cons ru .nil)) (hw _ hfr)
  rw [h2] at z
  exact z
end
end KeyL
set_option Elab.async false
set_option linter.all false
set_option maxRecDepth 100000
set_option maxHeartbeats 400000
/-! sorted of tuples whose firsts are unlike ints -/
namespace KeyL
open PySem PySem.Spec PyProof.Rows L2 Srt
section
variable {prog : Program} {w : World} {A : Around} {E : Value → Shared → Prop} {s : Shared}
/-- a tuple (int, thing) -/
def IsHd (h : Heap) (v : Value) (x : Int) : Prop := ∃ a o t u n, v = .ref a ∧ h.get? a = some o ∧ o.cls = .type "tuple" ∧ o.data = .seq #[.int x t, u] n
theorem IsHd.keeps {h h' : Heap} {v : Value} {x : Int} (p : IsHd h v x) (k : ∀ b o, h.get? b = some o → o.cls = .type "tuple" → h'.get? b = some o) : IsHd h' v x := by
  obtain ⟨a, o, t, u, n, e, ho, hc, hd⟩ := p
  exact ⟨a, o, t, u, n, e, k _ _ ho hc, hc, hd⟩
def ltI (x y : Int) : Bool := decide (x < y)
theorem swo_hd {α : Type} (k : α → Int) : SrtO.Swo fun v u => ltI (k v) (k u) := by
  refine ⟨fun x y h => ?_, fun x y z h1 h2 => ?_⟩
  · have a := of_decide_eq_true h
    exact decide_eq_false (by omega)
  · have a := of_decide_eq_false h1
    have b := of_decide_eq_false h2
    exact decide_eq_false (by omega)
theorem hd_cmp {vs : List Value} {k : Value → Int} (hp : ∀ v ∈ vs, IsHd s.heap v (k v)) (hi : ∀ v ∈ vs, ∀ u ∈ vs, k v = k u → v = u) : SrtO.Cmp prog w A s (tuples' true) (fun p => p.1 ∈ vs) (SrtO.lt2 fun v u => ltI (k v) (k u)) := by
  intro p q hm hm'
  have h1 := hp _ hm
  have h2 := hp _ hm'
  have h3 := hi _ hm _ hm'
  show wpAny (model prog w) A (keyLt' (tuples' true) p.1 q.1) (fun r s' => s' = s ∧ r = ltI (k p.1) (k q.1)) (fun _ _ => False) s
  generalize (k p.1) = x at h1 h3 ⊢
  generalize (k q.1) = x' at h2 h3 ⊢
  obtain ⟨a, o, t, u, n, e, ho, hc, hd⟩ := h1
  obtain ⟨a', o', t', u', n', e', ho', hc', hd'⟩ := h2
  rw [e, e']
  refine PySem.W.kat_lt ho hd ho' hd' ?_
  show PySem.W.KatLex prog w A true (decide (2 < 2)) _ [(.int x t, .int x' t'), (u, u')] 0 s
  refine PySem.W.kat_cons (SeqAt.EqAt.int_int x t x' t' prog w _ _ ?_)
  refine PySem.W.kat_go (fun e1 => ?_) (fun e1 => ?_)
  · have ex : x = x' := by simpa using e1
    have ep := h3 ex
    rw [e, e'] at ep
    cases ep
    have eo := Option.some.inj (ho.symm.trans ho')
    rw [← eo, hd] at hd'
    have eu : u = u' := by
      injection hd' with z1 z2
      have z3 := congrArg Array.toList z1
      injection z3 with z4 z5
      injection z5
    rw [eu]
    refine PySem.W.kat_yes (PySem.W.kat_cons (SeqAt.EqAt.same u' prog w _ _ ?_))
    refine PySem.W.kat_go (fun e2 => ?_) (fun e2 => nomatch e2)
    exact PySem.W.kat_yes (PySem.W.kat_nil ⟨rfl, (by rw [ex]; exact (decide_eq_false (Int.lt_irrefl _)).symm)⟩)
  · exact PySem.W.kat_no (oneLt_int ⟨rfl, rfl⟩)
theorem hd_firsts {h : Heap} : ∀ {vs : List Value}, (∀ v ∈ vs, ∃ x, IsHd h v x) → ∃ fs : List Value, PySem.W.KatTups h vs fs ∧ fs.length = vs.length ∧ ∀ f ∈ fs, ∃ x t, f = Value.int x t
  | [], _ => ⟨[], PySem.W.KatTups.nil, rfl, fun _ hm => by simp at hm⟩
  | v :: vs, hp => by
    obtain ⟨fs, h1, h2, h3⟩ := hd_firsts (vs := vs) fun v' hm => hp v' (List.mem_cons_of_mem _ hm)
    obtain ⟨x, a, o, t, u, n, e, ho, hc, hd⟩ := hp v (List.mem_cons_self ..)
    subst e
    refine ⟨.int x t :: fs, PySem.W.KatTups.cons ho hc hd rfl h1, by rw [List.length_cons, List.length_cons, h2], fun f hm => ?_⟩
    rcases List.mem_cons.mp hm with rfl | hm
    · exact ⟨x, t, rfl⟩
    · exact h3 f hm
theorem hd_sortable {a : Addr} {vs : List Value} {k : Value → Int} (h0 : 0 < vs.length) (hp : ∀ v ∈ vs, IsHd s.heap v (k v)) (hi : ∀ v ∈ vs, ∀ u ∈ vs, k v = k u → v = u) (ha : ∀ o, s.heap.get? a = some o → o.cls ≠ .type "tuple") : SrtO.SortableO prog w A s a vs fun v u => ltI (k v) (k u) := by
  intro h' keep
  have hp' : ∀ v ∈ vs, IsHd h' v (k v) := fun v hm => (hp v hm).keeps fun b o e c => keep b o (fun z => by subst z; exact ha o e c) e
  obtain ⟨fs, h1, h2, h3⟩ := hd_firsts fun v hm => ⟨_, hp' v hm⟩
  refine ⟨tuples' true, fun Q E hq => ?_, hd_cmp hp' hi⟩
  refine PySem.W.kat_kind (T := .type "int") h1 (by omega) (fun f hm => ?_) (by rfl) ?_
  · obtain ⟨x, t, rfl⟩ := h3 f hm
    exact PySem.W.Looks.now
  · have e : (Value.type "int" != Value.type "tuple") = true := by first | decide +kernel | rfl | decide
    rw [e]
    exact hq
theorem sorted_hd {l : Addr} {vs : List Value} {k : Value → Int} {Q : Value → Shared → Prop} (hl : s.heap.IsList l vs.toArray) (hz : vs.length ≤ sizeLine) (hp : ∀ v ∈ vs, IsHd s.heap v (k v)) (hi : ∀ v ∈ vs, ∀ u ∈ vs, k v = k u → v = u)
    (h : ∀ (h' : Heap) (d : Addr) (out : List Value), SrtO.Srtd (fun v u => ltI (k v) (k u)) out → SrtO.Stb (fun v u => ltI (k v) (k u)) out vs → (∀ b o, s.heap.get? b = some o → h'.get? b = some o) → s.heap.objs.size ≤ d → (∃ n, h'.get? d = some (seqObj "list" out.toArray n)) → Q (.ref d) { s with heap := h' }) :
    wpAny (model prog w) A (call (.builtin "sorted") [.ref l]) Q E s := by
  refine SrtO.sorted_ord (swo_hd k) hl hz (fun h2 h₁ a ha kk => ?_) fun out hs hb => ?_
  · refine hd_sortable (s := { s with heap := h₁ }) (by omega) (fun v hm => (hp v hm).keeps fun b o e _ => (kk b o e).2) hi fun o e => ?_
    have e' : some o = some (seqObj "list" vs.toArray 0) := e.symm.trans ha
    cases e'
    intro c
    exact absurd (Value.type.inj c) (by decide)
  · exact h _ _ out hs hb (fun b o e => sortedAll_old e) (Nat.le_succ _) (sortedAll_at s.heap vs out.toArray)
end
/-- sorted(xs), xs a list of tuples (int, thing) with unlike ints -/
def rSortedHd (K : PySem.W.Frag) : List V → Hp → VK → Prop := fun vs H Q => ∃ (a : Addr) (xs : List V) (k : V → Int), vs = [V.ref a] ∧ SqL K H a xs ∧ (∀ x ∈ xs, ∃ t y, x = V.ref t ∧ H t = some (.tup [.int (k x), y])) ∧ (∀ x ∈ xs, ∀ y ∈ xs, k x = k y → x = y) ∧
  ∀ ys p, ys.Pairwise (fun x y => k x ≤ k y) → ys.Perm xs → H p = none → Q (.ref p) (upd H p (.lst ys))
section
variable {X : Cx}
theorem cr_sortedHd : CallR X (.builtin "sorted") (rSortedHd X.K) := by
  intro pins s σ H vs us Q I r h
  obtain ⟨a, xs, k, rfl, hs, hx, hi, q⟩ := h
  obtain ⟨its, rv, hl, hz⟩ := I.list hs
  obtain ⟨u, rfl, ru⟩ := vals1 r
  obtain rfl : u = Value.ref a := ru
  obtain ⟨e1, e2⟩ := refs_back rv fun x m => by
    obtain ⟨t, y, e, _⟩ := hx x m
    exact ⟨t, e⟩
  have inb : ∀ v ∈ its, backV v ∈ xs := fun v hv => by rw [e1]; exact List.mem_map.mpr ⟨_, hv, rfl⟩
  refine sorted_hd (k := fun u => k (backV u)) hl.isList (by rw [← rv.length]; exact hz) (fun v hv => ?_) (fun v hv u hu e => ?_) fun h' d out h1 h2 kp hd hn => ?_
  · obtain ⟨t, rfl⟩ := e2 v hv
    have hm : V.ref t ∈ xs := inb _ hv
    obtain ⟨t', y, e, ht⟩ := hx _ hm
    cases e
    obtain ⟨_, its2, r2, o, ho, hc, n, hd⟩ := I.hok _ _ ht
    obtain ⟨u1, u2, rfl, ri, rj⟩ := vals2 r2
    obtain ⟨t1, rfl⟩ := ri
    exact ⟨t, o, t1, u2, n, rfl, ho, hc, hd⟩
  · have z := hi _ (inb v hv) _ (inb u hu) e
    obtain ⟨t, rfl⟩ := e2 v hv
    obtain ⟨t', rfl⟩ := e2 u hu
    have z' : V.ref t = V.ref t' := z
    cases z'
    rfl
  · have h3 : ∀ u ∈ out, ∃ a, u = Value.ref a := fun u hu => e2 u (h2.perm.mem_iff.mp hu)
    obtain ⟨n, hn⟩ := hn
    have hb : (out.map backV).Perm xs := by
      rw [e1]
      exact h2.perm.map backV
    refine ⟨.ref d, upd H d (.lst (out.map backV)), I.laid (t' := s.toks) kp hd ⟨?_, out, n, vals_back h3, hn⟩, rfl, q _ d ?_ hb (I.hok.fresh hd)⟩
    · rw [hb.length_eq]
      exact hz
    · rw [List.pairwise_map]
      exact List.Pairwise.imp (fun {x y} h => by have := of_decide_eq_false (show decide (k (backV y) < k (backV x)) = false from h); omega) h1
end
end KeyL
set_option Elab.async false
set_option linter.all false
set_option maxRecDepth 100000
set_option maxHeartbeats 400000
/-! max(xs, default=d) of a list of ints -/
namespace KeyL
open PySem PySem.Spec PyProof.Rows L2 PySem.W
theorem reads_int {h : Heap} (n : Int) (t : Tok) : Holds h (.int n t) n := by
  first
  | exact ⟨[], .int⟩
  | exact ⟨_, .int⟩
  | exact ⟨_, .int ..⟩
  | exact ⟨_, Reads.int n t⟩
theorem holds_ints {h : Heap} : ∀ {us : List Value} {ns : List Int}, IntsAre us ns → HoldAll h us ns
  | _, _, .nil => HoldAll.nil
  | _, _, .cons n t r => HoldAll.cons (reads_int n t) (holds_ints r)
theorem maxOf_mem (x : Int) : ∀ (xs : List Int), maxOf x xs ∈ x :: xs ∧ ∀ y ∈ x :: xs, y ≤ maxOf x xs := by
  intro xs
  induction xs generalizing x with
  | nil => exact ⟨List.mem_singleton.mpr rfl, fun y hy => by rw [List.mem_singleton.mp hy]; exact Int.le_refl _⟩
  | cons z zs ih =>
    have e : maxOf x (z :: zs) = maxOf (if x < z then z else x) zs := by
      show List.foldl _ (if DatumOrd.lt x z = true then z else x) zs = _
      have : (DatumOrd.lt x z = true) = (x < z) := by
        show (decide (x < z) = true) = _
        rw [decide_eq_true_eq]
      simp only [this]
      rfl
    rw [e]
    obtain ⟨h1, h2⟩ := ih (if x < z then z else x)
    by_cases c : x < z
    · rw [if_pos c] at h1 h2 ⊢
      refine ⟨List.mem_cons_of_mem _ h1, fun y hy => ?_⟩
      rcases List.mem_cons.mp hy with rfl | hy
      · exact Int.le_trans (Int.le_of_lt c) (h2 z (List.mem_cons_self ..))
      · exact h2 y hy
    · rw [if_neg c] at h1 h2 ⊢
      refine ⟨?_, fun y hy => ?_⟩
      · rcases List.mem_cons.mp h1 with e | h1
        · rw [e]; exact List.mem_cons_self ..
        · exact List.mem_cons_of_mem _ (List.mem_cons_of_mem _ h1)
      · rcases List.mem_cons.mp hy with rfl | hy
        · exact h2 _ (List.mem_cons_self ..)
        · rcases List.mem_cons.mp hy with rfl | hy
          · have := h2 x (List.mem_cons_self ..)
            omega
          · exact h2 y (List.mem_cons_of_mem _ hy)
def rMaxDef (K : PySem.W.Frag) : List V → List V → Hp → VK → Prop := fun vs zs H Q => ∃ (a : Addr) (ns : List Int) (z : V), vs = [V.ref a] ∧ zs = [z] ∧ SqL K H a (ns.map V.int) ∧ (ns = [] → Q z H) ∧ ∀ m, m ∈ ns → (∀ y, y ∈ ns → y ≤ m) → Q (.int m) H
theorem cr_maxDef {X : Cx} (hc : X.calm = true) (hu : X.A.units + 64 < cLine) : CallRK X (.builtin "max") [Str.ofString "default"] (rMaxDef X.K) := by
  intro pins s σ H vs zs us ws Q I r rz h
  obtain ⟨a, ns, z, rfl, rfl, hs, q0, q⟩ := h
  obtain ⟨its, rv, hl, _⟩ := I.list hs
  obtain rfl := Vals.ref1 r
  obtain ⟨d, rfl, rd⟩ := vals1 rz
  have hi := rv.ints
  show wpAny _ _ (call (.builtin "max") [.ref a] [(Str.ofString "default", d)]) _ _ _
  refine max_list_datum_default (α := Int) (xs := ns) (I.ok.hd hc) hl.isList (by rw [List.toList_toArray]; exact holds_ints hi) (by show X.A.units + 1 + 0 < cLine; omega) (fun e h' tk hk => ⟨z, H, I.kept hk, rd, q0 e⟩) fun y ys i v h' tk e hv hh hk => ?_
  obtain ⟨h1, h2⟩ := maxOf_mem y ys
  obtain ⟨as, rr⟩ := hh
  have ev : ∃ t, v = .int (maxOf y ys) t := by
    have rr' : Reads h' v (.int (maxOf y ys)) as := rr
    cases rr'
    exact ⟨_, rfl⟩
  obtain ⟨t, rfl⟩ := ev
  exact ⟨.int _, H, I.kept hk, ⟨_, rfl⟩, q _ (by rw [e]; exact h1) fun y' hy => by rw [e] at hy; exact h2 y' hy⟩
theorem pg_tupK {X : Cx} {K : PySem.W.Frag} {es : List Expr} {k : Nat} {pos : Pos} {t : TGs} {n : Nat} (hk : X.K = K) (hc : X.calm = true) (h : PGs X es t)
    (hn : (assignEach es X.env).length = n := by rfl) (hst : (assignEach es X.env).findIdx? (·.1) = none := by rfl) : PG X (.Tuple es k pos) (gTup K n t) := by
  subst hk
  exact pg_tup hc h hn hst
/-! the same rules with the class table told: within a comprehension the term has to be free of the block's own letters -/
section
variable {X : Cx} {K : PySem.W.Frag}
theorem pe_fldK {e : Expr} {f : Str} {pos : Pos} {ta : TE} (hk : X.K = K) (he : PE X e ta) (hb : attributeBase e f X.env (eval e X.env) = eval e X.env) : PE X (.Attribute e f pos) (tFld K ta f) := by
  subst hk
  exact pe_fld he hb
theorem ix_listK (hk : X.K = K) : IxR X (rIxL K) := by subst hk; exact ix_list
theorem ix_tupK (hk : X.K = K) : IxR X (rIxT K) := by subst hk; exact ix_tup
theorem op_in_seqK (hk : X.K = K) : OpR X (compareOp .In) (rIn K false) := by subst hk; exact op_in_seq
theorem sl_listK (hk : X.K = K) : SlR X (rSlL K) := by subst hk; exact sl_list
theorem call_lenK (hk : X.K = K) : CallR X (.builtin "len") (fun xs H Q => ∃ p ys, xs = [.ref p] ∧ (SqL K H p ys ∨ SqT K H p ys) ∧ Q (.int ys.length) H) := by subst hk; exact call_len_seq
theorem call_listK (hk : X.K = K) : CallR X (.type "list") (fun xs H Q => ∃ p ys, xs = [.ref p] ∧ (SqL K H p ys ∨ SqT K H p ys) ∧ ∀ l, H l = none → Q (.ref l) (upd H l (.lst ys))) := by subst hk; exact call_list_of
theorem pi_listK {tg l : Expr} {tl : TE} (hk : X.K = K) (hl : PE X l tl) : PI X tg l (iList K tl) := by subst hk; exact pi_list hl
theorem pe_bmK {o e : Expr} {es : List Expr} {to : TE} {t : TA} {name : Str} {apos cpos : Pos} {T id : String} {r : V → List V → Hp → VK → Prop} (hk : X.K = K) (pa : PlainAttrs T) (slot : Slot T name id) (hty : typeOf (.builtin id) = pure (.type "method_descriptor")) (hm : MtR X id r) (ho : PE X o to) (ha : PA X (e :: es) t)
    (hbase : attributeBase o name X.env (eval o X.env) = eval o X.env := by rfl)
    (hfew : ((backTo cpos (starEach (e :: es) X.env)).all (fun x => !x.1) && (backToKw cpos (keywordEach [] X.env)).all (fun x => x.1.isSome)
      && decide ((e :: es).length + ([] : List Keyword).length + (if ([] : List Keyword).isEmpty then 0 else 1) < 30)) = true := by rfl)
    (hline : (apos.endLine == cpos.line) = true := by rfl) (hs : starEach (e :: es) X.env = (false, eval e X.env) :: starEach es X.env := by rfl) (hplain : (backTo cpos (starEach es X.env)).any (·.1) = false := by rfl) :
    PE X (.Call (.Attribute o name apos) (e :: es) [] cpos) (tBM K T r to t) := by
  subst hk
  exact pe_bm pa slot hty hm ho ha hbase hfew hline hs hplain
end
/-! a dict comprehension over any walk -/
theorem dc_it {J : It} {n : Nat} {G : Hp → Prop} {Y : Nat → Hp → V → Hp → Prop} (w : Walk J n G Y) {g : TG} {tt : TT} {tk tv : TE} {vs : List Nat} {σ : L2.St} {H1 : Hp} {D : Addr} {Qd : Hp → Prop} (Pv : Nat → Hp → Prop) (h0 : Pv 0 (upd H1 D (.dK []))) (hG : ∀ i H, i ≤ n → Pv i H → G H)
    (hs : ∀ i x H H', i < n → Pv i H → Y i H x H' → g x (wipe σ vs) H' fun σ2 H2 => wipe σ2 vs = wipe σ vs ∧ tt σ2 H2 fun b H3 =>
      if b = true then tk σ2 H3 fun y H4 => tv σ2 H4 fun z H5 => ∃ kvs k, y = kV k ∧ H5 D = some (.dK kvs) ∧ kvs.length < sizeLine ∧ Pv (i + 1) (upd H5 D (.dK (putK kvs k z))) else Pv (i + 1) H3) (hd : ∀ H, Pv n H → Qd H) :
    ∃ W : Nat → Nat → Hp → Prop, (∃ m, W 0 m (upd H1 D (.dK []))) ∧ ∀ i m H, W i m H →
      (J.stop i H ∧ Qd H) ∨ (J.go i H ∧ ∃ Nx : Hp → Prop, (∀ H', Nx H' → ∃ m', m' < m ∧ W (i + 1) m' H') ∧ ∀ x H', J.yld i H x H' → g x (wipe σ vs) H' fun σ2 H2 => wipe σ2 vs = wipe σ vs ∧ tt σ2 H2 fun b H3 =>
        if b = true then tk σ2 H3 fun y H4 => tv σ2 H4 fun z H5 => ∃ kvs k, y = kV k ∧ H5 D = some (.dK kvs) ∧ kvs.length < sizeLine ∧ Nx (upd H5 D (.dK (putK kvs k z))) else Nx H3) := by
  refine ⟨fun i m H => m = n - i ∧ i ≤ n ∧ Pv i H, ⟨n, by simp, Nat.zero_le _, h0⟩, ?_⟩
  rintro i m H ⟨rfl, hi, p⟩
  have q := hG i H hi p
  by_cases hlt : i < n
  · refine .inr ⟨w.goes i H hlt q, Pv (i + 1), fun H' p' => ⟨n - (i + 1), by omega, rfl, hlt, p'⟩, fun x H' y => hs i x H H' hlt p (w.yields i H x H' hlt q y)⟩
  · have e : i = n := by omega
    subst e
    exact .inl ⟨w.stops H q, hd H p⟩
end KeyL
set_option Elab.async false
set_option linter.all false
set_option maxRecDepth 100000
set_option maxHeartbeats 400000
/-! B.__init__(self, ..) of an own class B over ValueError that has no __init__ of its own -/
namespace KeyL
open PySem PySem.Spec PyProof.Rows L2
section
variable {X : Cx} {e : Expr} {es : List Expr} {ta : TA} {p1 p2 pos : Pos} {x : Str} {B : Addr} {mc : Value}
theorem pe_reinit {pl : Sem Bool} (hg : Gl X x) (hm : X.mg x = some (.ref B)) (hgt : PySem.W.specialIn X.K (.ref B) "__getattribute__" = some (some (.builtin "type.__getattribute__"))) (hr : PySem.W.readsIn X.K B mc = true)
    (vV : PySem.W.findCls X.K (.ref B) mc "__init__" = some (.val (.builtin "ValueError.__init__"))) (ha : PA X (e :: es) ta) (hdb : (x == ("__debug__" : Str)) = false := by decide)
    (hc : eval (.Call (.Attribute (.Name x p1) "__init__" p2) (e :: es) [] pos) X.env = (do
      let ov ← eval (.Name x p1) X.env
      standAt p2.atName
      let (f, first) ← holding [ov] (getMethod ov "__init__" pl)
      callWith pos f first (backTo pos (starEach (e :: es) X.env)) (backToKw pos (keywordEach [] X.env))) := by rfl)
    (he : starEach (e :: es) X.env = (false, eval e X.env) :: starEach es X.env := by rfl) (hpl : (backTo pos (starEach es X.env)).any (·.1) = false := by rfl) :
    PE X (.Call (.Attribute (.Name x p1) "__init__" p2) (e :: es) [] pos) (tVeI X.K ta) := by
  refine ⟨fun pins s σ H Q I h => ?_⟩
  refine PySem.W.methodCall_KW (ld_glob I hg hm ?_ hdb) hc
  refine PySem.W.method_cls I.kIn hgt (PySem.W.cls_value I.kIn hr vV (by decide +kernel) ?_)
  show wpAny _ _ (callWith pos (Value.builtin "ValueError.__init__") [] (backTo pos (starEach (e :: es) X.env)) []) _ _ _
  refine PyProof.Rows.callWith_method1 (thn (ha.run pos pins _ σ H _ (I.tok _) h) fun us s1 ⟨vs, H1, I1, r1, a, C, ws, ev, hl, T, ea, q⟩ => ?_) he hpl
  subst ev
  cases r1 with
  | @cons _ u0 _ ur ra rw' =>
    obtain rfl : u0 = Value.ref a := ra
    have hlen : ur.length ≤ sizeLine := by
      rw [← Paired.length rw', sizeLine_eq]
      omega
    exact oinit_ok T I1 ea hlen fun s' J => ⟨.non, H1, J, rfl, q⟩
end
end KeyL
set_option Elab.async false
set_option linter.all false
set_option maxRecDepth 100000
namespace KeyL
open PySem PySem.Spec PyProof.Rows L2
/-! ### equal things of lists and tuples within one another; two dicts of such compared -/
def SeqW (K : PySem.W.Frag) (H : Hp) (E : V → V → Prop) (x y : V) : Prop :=
  ∃ a b xs ys, x = .ref a ∧ y = .ref b ∧ ((SqL K H a xs ∧ SqL K H b ys) ∨ (SqT K H a xs ∧ SqT K H b ys)) ∧ Paired E xs ys
def EqW (K : PySem.W.Frag) (H : Hp) : Nat → V → V → Prop
  | 0 => fun _ _ => False
  | n + 1 => fun x y => (x = y ∧ flatB x = true) ∨ (∃ a, x = .ref a ∧ y = .ref a) ∨ SeqW K H (EqW K H n) x y
theorem pairW_run {A : Around} {s : Shared} {F : V → V → Prop} (ih : ∀ x y v u, F x y → RelV x v → RelV y u → SeqAt.EqAt A s v u true) {xs ys : List V} (hp : Paired F xs ys) :
    ∀ {us ws : List Value}, Vals xs us → Vals ys ws → ∀ j (h1 : j < us.length) (h2 : j < ws.length), SeqAt.EqAt A s us[j] ws[j] true := by
  induction hp with
  | nil =>
    intro us ws r1 r2 j h1 h2
    cases r1
    exact absurd h1 (Nat.not_lt_zero j)
  | cons h _ k =>
    intro us ws r1 r2 j h1 h2
    cases r1 with
    | cons a1 b1 =>
      cases r2 with
      | cons a2 b2 =>
        cases j with
        | zero => exact ih _ _ _ _ h a1 a2
        | succ j => exact k b1 b2 j (Nat.lt_of_succ_lt_succ h1) (Nat.lt_of_succ_lt_succ h2)
theorem all_true (n : Nat) : ((List.range n).all fun _ => true) = true := List.all_eq_true.mpr fun _ _ => rfl
section
variable {X : Cx} {pins : List (Addr × Obj)} {σ : L2.St} {H : Hp} {s : Shared}
theorem seqW_rc (I : Inv X pins σ H s) {A : Around} {F : V → V → Prop} (hu : A.units < cLine) (ih : ∀ x y v u, F x y → RelV x v → RelV y u → SeqAt.EqAt A.in1 s v u true) {x y : V} {v u : Value} (h : SeqW X.K H F x y) (rx : RelV x v) (ry : RelV y u) : SeqAt.RcAt A s v u true ∧ SeqAt.RcNeAt A s v u false := by
  obtain ⟨a, b, xs, ys, rfl, rfl, hl, hp⟩ := h
  cases (show v = Value.ref a from rx)
  cases (show u = Value.ref b from ry)
  have len := hp.length
  rcases hl with ⟨ha, hb⟩ | ⟨ha, hb⟩
  · obtain ⟨us, r1, p1, _⟩ := I.list ha
    obtain ⟨ws, r2, p2, _⟩ := I.list hb
    have hsz : us.toArray.size = ws.toArray.size := by
      rw [List.size_toArray, List.size_toArray, ← r1.length, ← r2.length]
      exact len
    have go : ∀ j (h1 : j < us.toArray.size) (h2 : j < ws.toArray.size), SeqAt.EqAt A.in1 s us.toArray[j] ws.toArray[j] true := fun j h1 h2 => by
      have k := pairW_run ih hp r1 r2 j (by simpa using h1) (by simpa using h2)
      simpa using k
    refine ⟨?_, ?_⟩
    · have z := SeqAt.RcAt.lists (e := fun _ => true) p1.isList p2.isList hsz hu go
      rw [all_true] at z
      exact z
    · have z := SeqAt.RcNeAt.lists (e := fun _ => true) p1.isList p2.isList hsz hu go
      rw [all_true] at z
      exact z
  · obtain ⟨us, r1, p1, _⟩ := I.tuple ha
    obtain ⟨ws, r2, p2, _⟩ := I.tuple hb
    have hsz : us.toArray.size = ws.toArray.size := by
      rw [List.size_toArray, List.size_toArray, ← r1.length, ← r2.length]
      exact len
    have go : ∀ j (h1 : j < us.toArray.size) (h2 : j < ws.toArray.size), SeqAt.EqAt A.in1 s us.toArray[j] ws.toArray[j] true := fun j h1 h2 => by
      have k := pairW_run ih hp r1 r2 j (by simpa using h1) (by simpa using h2)
      simpa using k
    have es : (us.toArray.size == ws.toArray.size) = true := by simpa using hsz
    refine ⟨?_, ?_⟩
    · have z := SeqAt.RcAt.tuples (e := fun _ => true) p1 p2 hu go
      rw [all_true, es] at z
      exact z
    · have z := SeqAt.RcNeAt.tuples (e := fun _ => true) p1 p2 hu go
      rw [all_true, es] at z
      exact z
theorem eqW_at (I : Inv X pins σ H s) : ∀ (n : Nat) (A : Around), A.units + n < cLine → ∀ (x y : V) (v u : Value), EqW X.K H n x y → RelV x v → RelV y u → SeqAt.EqAt A s v u true
  | 0, _, _, _, _, _, _, h, _, _ => (show False from h).elim
  | n + 1, A, hu, x, y, v, u, h, rx, ry => by
    rcases h with ⟨rfl, f⟩ | ⟨a, rfl, rfl⟩ | h
    · exact eqAt_same rx ry f
    · cases (show v = Value.ref a from rx)
      cases (show u = Value.ref a from ry)
      exact SeqAt.EqAt.same _
    · have step := (seqW_rc I (A := A) (by omega) (eqW_at I n A.in1 (by show A.units + 1 + n < cLine; omega)) h rx ry).1
      obtain ⟨a, b, _, _, rfl, rfl, _⟩ := h
      cases (show v = Value.ref a from rx)
      cases (show u = Value.ref b from ry)
      by_cases e : a = b
      · subst e
        exact SeqAt.EqAt.same _
      · exact SeqAt.EqAt.of_refs e step
theorem hitsW {A : Around} {n : Nat} (I : Inv X pins σ H s) (hu : A.units + n < cLine) {ls : List (Key × V)} {vb : List (Key × Value)} (rb : KV ls vb) {ks : List (Key × V)} {va : List (Key × Value)} (ra : KV ks va) :
    (∀ p ∈ ks, ∃ u, valV ls p.1 = some u ∧ EqW X.K H n p.2 u) → PySem.W.KeqHits A s vb va true := by
  unfold KV at ra
  induction ra with
  | nil => intro _; exact .nil
  | @cons p q ps qs h t ih =>
    intro hp
    obtain ⟨h1, h2⟩ := h
    obtain ⟨u, e, f⟩ := hp p List.mem_cons_self
    have rr : RelO (some u) (valueAt vb p.1) := by rw [← e]; exact rb.val p.1
    obtain ⟨y, hy, ry⟩ := rr.some_of
    obtain ⟨key, v⟩ := q
    have h1' : p.1 = key := h1
    rw [h1'] at hy
    show PySem.W.KeqHits A s vb ((key, v) :: qs) (true && true)
    exact .hit hy (eqW_at I n A hu _ _ _ _ f h2 ry) (ih fun p' hm => hp p' (List.mem_cons_of_mem _ hm))
end
/-- two dicts with the same keys, their things equal -/
def DicW (K : PySem.W.Frag) (H : Hp) (n : Nat) (x y : V) : Prop := ∃ a b ks ls, x = .ref a ∧ y = .ref b ∧ H a = some (.dK ks) ∧ H b = some (.dK ls) ∧ ks.length = ls.length ∧ ∀ p ∈ ks, ∃ u, valV ls p.1 = some u ∧ EqW K H n p.2 u
def rEqW (K : PySem.W.Frag) (b : Bool) : R2 := fun x y H Q => ∃ n, n ≤ 60 ∧ (SeqW K H (EqW K H n) x y ∨ DicW K H n x y) ∧ Q (.bl b) H
section
variable {X : Cx}
theorem op_eqW (hu : X.A.units + 64 < cLine) : OpR X (compareOp .Eq) (rEqW X.K true) := by
  intro pins s σ H x y v u Q I rx ry h
  obtain ⟨n, hn, h, q⟩ := h
  rcases h with h | h
  · exact (seqW_rc I (A := X.A) (by omega) (eqW_at I n X.A.in1 (by show X.A.units + 1 + n < cLine; omega)) h rx ry).1 _ _ _ _ ⟨.bl true, H, I, rfl, q⟩
  · obtain ⟨a, b, ks, ls, rfl, rfl, ea, eb, hlen, hp⟩ := h
    obtain rfl : v = Value.ref a := rx
    obtain rfl : u = Value.ref b := ry
    obtain ⟨_, ya, va, ra, da⟩ := (show ObjOk X.prog X.w H s.heap a (.dK ks) from I.hok a _ ea)
    obtain ⟨_, yb, vb, rb, db⟩ := (show ObjOk X.prog X.w H s.heap b (.dK ls) from I.hok b _ eb)
    have hl : va.length = vb.length := by rw [← ra.length, ← rb.length]; exact hlen
    exact PySem.W.keq_eq (knd := mixKind X.prog X.w) (r := true) ya yb da db (by omega) (fun _ => hitsW (n := n) I (by show X.A.units + 1 + n < cLine; omega) rb ra hp) (fin_bl I q (by simp [hl]))
theorem op_neW (hu : X.A.units + 64 < cLine) : OpR X (compareOp .NotEq) (rEqW X.K false) := by
  intro pins s σ H x y v u Q I rx ry h
  obtain ⟨n, hn, h, q⟩ := h
  rcases h with h | h
  · exact (seqW_rc I (A := X.A) (by omega) (eqW_at I n X.A.in1 (by show X.A.units + 1 + n < cLine; omega)) h rx ry).2 _ _ _ _ ⟨.bl false, H, I, rfl, q⟩
  · obtain ⟨a, b, ks, ls, rfl, rfl, ea, eb, hlen, hp⟩ := h
    obtain rfl : v = Value.ref a := rx
    obtain rfl : u = Value.ref b := ry
    obtain ⟨_, ya, va, ra, da⟩ := (show ObjOk X.prog X.w H s.heap a (.dK ks) from I.hok a _ ea)
    obtain ⟨_, yb, vb, rb, db⟩ := (show ObjOk X.prog X.w H s.heap b (.dK ls) from I.hok b _ eb)
    have hl : va.length = vb.length := by rw [← ra.length, ← rb.length]; exact hlen
    exact PySem.W.keq_ne (knd := mixKind X.prog X.w) (r := true) ya yb da db (by omega) (fun _ => hitsW (n := n) I (by show X.A.units + 1 + n < cLine; omega) rb ra hp) (fin_bl I q (by simp [hl]))
end
end KeyL
set_option Elab.async false
set_option linter.all false
set_option maxRecDepth 100000
namespace KeyL
open PySem PySem.Spec PyProof.Rows L2
/-- where nothing is raised: a def that may raise, called so that it does not -/
theorem okNoX {P : Program} {w : World} {K : PySem.W.Frag} {mg : Str → Option Value} {base : Heap} {k : Nat} {f : Addr} {fd : FuncData} {ps : List Str} {sp : Sp} (F : FnOk P w K mg base (L2.CX P w) k f fd ps sp) : FnOk P w K mg base CX0 k f fd ps (fun vs H Q _ => sp vs H Q fun _ _ _ => False) := by
  refine ⟨fun vs H Q E h => F.len vs H Q _ h, fun A outer s H args us vs Q E hr h0 hb hv h => ?_⟩
  refine codeAny_mono (F.run A outer s H args us vs Q _ hr h0 hb hv h) fun r s' z => ?_
  cases r with
  | ok fl => cases fl <;> exact z
  | error e =>
    obtain ⟨_, _, _, _, _, _, _, _, _, _, _, _, hE⟩ := (show L2.CX P w outer H s _ e s' from z)
    exact hE.elim
end KeyL
set_option Elab.async false
set_option linter.all false
set_option maxRecDepth 100000
set_option maxHeartbeats 1000000
namespace Nn
open PySem PySem.Spec PyProof.Rows L2

open He in
def refsM (o : Obj) : List Addr := match o.data with
  | .func fd => refV fd.code ++ refV fd.defaults ++ refV fd.kwdefaults
  | .cls cd => cd.ns :: cd.mro.flatMap refV
  | .dict es _ => es.toList.flatMap fun e => refV e.val
  | _ => []
def refsAt (g : Addr → Option Obj) (as : List Addr) : List Addr := as.flatMap fun a => match g a with
  | some o => refsM o
  | none => []
def asM1 (g : Addr → Option Obj) (a0 : List Addr) : List Addr := cStatics :: mainGlobals :: (a0 ++ (refsAt g a0 ++ (refsAt g (refsAt g a0) ++ refsAt g (refsAt g (refsAt g a0)))))
def asM (names : List Str) (g : Addr → Option Obj) : List Addr := asM1 g (names.map (He.ga (He.frG g [mainGlobals])))
def obsM (names : List Str) (fa : List He.Fa) (fn : List He.DefD) (tf : List He.Defn) (ex : PySem.W.Frag → Bool) (g : Addr → Option Obj) : He.AlX :=
  (He.obsT fa fn [] (He.frT g (asM names g)), ex (He.frT g (asM names g)) && He.tabsB g tf (He.frT g (asM names g)))
theorem saysM_of {names : List Str} {fa : List He.Fa} {fn : List He.DefD} {tf : List He.Defn} {ex : PySem.W.Frag → Bool} {w : World} {h : Heap} (e : obsM names fa fn tf ex h.get? = He.valX fn [] w) : He.SaysX fa fn [] tf ex w h (He.frT h.get? (asM names h.get?)) := by
  have e1 : He.obsT fa fn [] (He.frT h.get? (asM names h.get?)) = He.valT fn [] w := congrArg (fun z : He.AlX => z.1) e
  have e2 : (ex (He.frT h.get? (asM names h.get?)) && He.tabsB h.get? tf (He.frT h.get? (asM names h.get?))) = true := congrArg (fun z : He.AlX => z.2) e
  obtain ⟨h1, h2⟩ := He.ba e2
  have key : ∀ p ∈ tf, PySem.W.codeHdIn (He.frT h.get? (asM names h.get?)) (He.cT (He.frT h.get? (asM names h.get?)) p).1 (He.cT (He.frT h.get? (asM names h.get?)) p).2 = true ∧ ∃ o, h.get? (He.cT (He.frT h.get? (asM names h.get?)) p).2 = some o ∧ He.emptyTab o = true := fun p hp => by
    obtain ⟨h3, h4⟩ := He.ba (List.all_eq_true.mp h2 p hp)
    refine ⟨h3, ?_⟩
    cases q : h.get? (He.cT (He.frT h.get? (asM names h.get?)) p).2 with
    | none =>
      rw [q] at h4
      cases h4
    | some o =>
      rw [q] at h4
      exact ⟨o, rfl, h4⟩
  exact ⟨e1, h1, fun p hp => (key p hp).1, fun p hp => by
    obtain ⟨_, o, q, z⟩ := key p hp
    exact He.frT_none q z, fun p hp => by
    obtain ⟨_, o, q, z⟩ := key p hp
    rw [q, He.emptyTab_eq z]⟩
def hookM (names : List Str) (fa : List He.Fa) (fn : List He.DefD) (tf : List He.Defn) (ex : PySem.W.Frag → Bool) : PySem.W.Hook where
  α := He.AlX
  obs := fun s => obsM names fa fn tf ex s.heap.get?
  val := fun w => He.valX fn [] w
  says := fun w h => ∃ K : PySem.W.Frag, K.In h ∧ He.SaysX fa fn [] tf ex w h K
  of := fun _ _ e => ⟨_, He.frT_in, saysM_of e⟩
  keeps := fun _ _ _ ⟨K, hK, c⟩ k => ⟨K, PySem.W.Frag.In.keeps hK k, ⟨c.t, c.more, c.hd, c.out, fun p hp => k _ _ (c.empty p hp)⟩⟩
theorem obsM_eq {names : List Str} {fa : List He.Fa} {fn : List He.DefD} {tf : List He.Defn} {ex : PySem.W.Frag → Bool} {g : Addr → Option Obj} {s : Shared} (h : ∀ a, g a = s.heap.get? a) : obsM names fa fn tf ex g = (hookM names fa fn tf ex).obs s := by
  have e : g = s.heap.get? := funext h
  rw [e] <;> rfl
/-! ### own exception classes -/
/-- a class over ValueError, by own classes -/
def oexB (K : PySem.W.Frag) (x : Str) : Bool := match K.lookup (He.ga K x) with
  | some ⟨.type "type", _, .cls cd, sl⟩ => (match cd.mro, sl.toList with
    | .ref C' :: bm, [_, _, _, _, some (.builtin n), _] => C' == He.ga K x && (n == "ValueError.__new__" && (!cd.hasDel && (cd.hasDict && PySem.HandSPX.refsVE bm)))
    | _, _ => false)
  | _ => false

def top (i : Nat) : Stmt := PySem.Challenge.pw_nearestname_k75_whole_all_right.main.body.getD i (.Pass ⟨0, 0, 0, 0⟩)
abbrev s_NoRing_init : Stmt := inClass (top 5) 0
abbrev s_NoMember_init : Stmt := inClass (top 6) 0
abbrev s_Taken_init : Stmt := inClass (top 7) 0
abbrev s_Fixed_init : Stmt := inClass (top 8) 0
abbrev s_Alone_init : Stmt := inClass (top 9) 0
abbrev s_LastOne_init : Stmt := inClass (top 10) 0
abbrev s_TooFar_init : Stmt := inClass (top 11) 0
abbrev s_NoValue_init : Stmt := inClass (top 13) 0
abbrev s_first_of : Stmt := top 16
abbrev s_adopted : Stmt := top 17
abbrev s_spliced : Stmt := top 18
abbrev s_farthest : Stmt := top 20
abbrev s_known_by : Stmt := top 21
abbrev s_Seeker_init : Stmt := inClass (top 22) 0
abbrev s_Seeker_step : Stmt := inClass (top 22) 1
abbrev s_Seeker_go_on : Stmt := inClass (top 22) 2
abbrev s_Seeker_go_back : Stmt := inClass (top 22) 3
abbrev s_Seeker_go_upwards : Stmt := inClass (top 22) 4
abbrev s_Seeker_at : Stmt := inClass (top 22) 5
abbrev s_Seeker_way : Stmt := inClass (top 22) 6
abbrev s_Seeker_answer : Stmt := inClass (top 22) 8
abbrev s_Found_init : Stmt := inClass (top 23) 0
abbrev s_Found_answer : Stmt := inClass (top 23) 2
abbrev s_look : Stmt := top 24
abbrev s_is_whole : Stmt := top 31
abbrev s_Space_init : Stmt := inClass (top 32) 0
abbrev s_Space_bits : Stmt := inClass (top 32) 1
abbrev s_Space_size : Stmt := inClass (top 32) 2
abbrev s_Space_has : Stmt := inClass (top 32) 3
abbrev s_Space_distance : Stmt := inClass (top 32) 4
abbrev s_Space_is_between : Stmt := inClass (top 32) 5
abbrev s_Space_nearest : Stmt := inClass (top 32) 6
abbrev s_Space_preceding : Stmt := inClass (top 32) 7
abbrev s_Node_init : Stmt := inClass (top 37) 0
abbrev s_upwards : Stmt := top 38
abbrev s_others_upwards : Stmt := top 39
abbrev s_far_point : Stmt := top 40
abbrev s_right_chain : Stmt := top 41
abbrev s_right_far : Stmt := top 42
abbrev s_right_node : Stmt := top 43
abbrev s_is_length : Stmt := top 44
abbrev s_are_base : Stmt := top 45
abbrev s_space_of : Stmt := top 46
abbrev s_Ring_init : Stmt := inClass (top 47) 0
abbrev s_Ring_space : Stmt := inClass (top 47) 1
abbrev s_Ring_length : Stmt := inClass (top 47) 2
abbrev s_Ring_base : Stmt := inClass (top 47) 3
abbrev s_Ring_members : Stmt := inClass (top 47) 4
abbrev s_Ring_is_member : Stmt := inClass (top 47) 5
abbrev s_Ring_want_point : Stmt := inClass (top 47) 6
abbrev s_Ring_node : Stmt := inClass (top 47) 7
abbrev s_Ring_links : Stmt := inClass (top 47) 8
abbrev s_Ring_next_of : Stmt := inClass (top 47) 9
abbrev s_Ring_before : Stmt := inClass (top 47) 10
abbrev s_Ring_fingers : Stmt := inClass (top 47) 11
abbrev s_Ring_kept : Stmt := inClass (top 47) 12
abbrev s_Ring_enter : Stmt := inClass (top 47) 13
abbrev s_Ring_vanish : Stmt := inClass (top 47) 14
abbrev s_Ring_offer : Stmt := inClass (top 47) 15
abbrev s_Ring_let_go : Stmt := inClass (top 47) 16
abbrev s_Ring_new_stamp : Stmt := inClass (top 47) 17
abbrev s_Ring_newest_stamp : Stmt := inClass (top 47) 18
abbrev s_Ring_note : Stmt := inClass (top 47) 19
abbrev s_holders : Stmt := top 50
abbrev s_is_text : Stmt := top 51
abbrev s_hand_in : Stmt := top 52
abbrev s_put : Stmt := top 53
abbrev s_forget : Stmt := top 54
abbrev s_get : Stmt := top 55
abbrev s_settled : Stmt := top 56
abbrev s_settle : Stmt := top 57
abbrev s_source_of : Stmt := top 59
abbrev s_notified : Stmt := top 60
abbrev s_steadied : Stmt := top 61
abbrev s_refingered : Stmt := top 62
abbrev s_stabilize : Stmt := top 63
abbrev s_fix : Stmt := top 64
abbrev s_is_order : Stmt := top 65
abbrev s_mend : Stmt := top 66
abbrev s_join : Stmt := top 68
abbrev s_want_loose : Stmt := top 69
abbrev s_member_before : Stmt := top 70
abbrev s_chains_without : Stmt := top 71
abbrev s_want_company : Stmt := top 72
abbrev s_is_kept_beside : Stmt := top 73
abbrev s_want_kept : Stmt := top 74
abbrev s_crash : Stmt := top 75
abbrev s_hand_on : Stmt := top 76
abbrev s_leave : Stmt := top 77
abbrev s_law_cell : Stmt := top 79
abbrev s_law_pot : Stmt := top 80
abbrev s_law_take : Stmt := top 81
abbrev s_law_free : Stmt := top 82
abbrev s_law_ring : Stmt := top 83
abbrev s_law_near : Stmt := top 84
abbrev s_law_member : Stmt := top 85
abbrev s_law_mixed : Stmt := top 86
abbrev s_law_granted : Stmt := top 87
abbrev s_law_done : Stmt := top 88
abbrev s_law_history : Stmt := top 89
abbrev s_law_orders : Stmt := top 90
abbrev s_law_links : Stmt := top 91
abbrev s_law_nearest : Stmt := top 92
abbrev s_law_fingers : Stmt := top 93
abbrev s_law_most : Stmt := top 94
abbrev s_law_near_right : Stmt := top 95
abbrev s_law_all_right : Stmt := top 96
abbrev s_law_got : Stmt := top 97
abbrev s_law : Stmt := top 98
def d_NoRing_init : He.DefD := ⟨("NoRing", some "__init__"), "__init__", "NoRing.__init__", defArgs s_NoRing_init, defBody s_NoRing_init, defScope s_NoRing_init, [], []⟩
def d_NoMember_init : He.DefD := ⟨("NoMember", some "__init__"), "__init__", "NoMember.__init__", defArgs s_NoMember_init, defBody s_NoMember_init, defScope s_NoMember_init, [], []⟩
def d_Taken_init : He.DefD := ⟨("Taken", some "__init__"), "__init__", "Taken.__init__", defArgs s_Taken_init, defBody s_Taken_init, defScope s_Taken_init, [], []⟩
def d_Fixed_init : He.DefD := ⟨("Fixed", some "__init__"), "__init__", "Fixed.__init__", defArgs s_Fixed_init, defBody s_Fixed_init, defScope s_Fixed_init, [], []⟩
def d_Alone_init : He.DefD := ⟨("Alone", some "__init__"), "__init__", "Alone.__init__", defArgs s_Alone_init, defBody s_Alone_init, defScope s_Alone_init, [], []⟩
def d_LastOne_init : He.DefD := ⟨("LastOne", some "__init__"), "__init__", "LastOne.__init__", defArgs s_LastOne_init, defBody s_LastOne_init, defScope s_LastOne_init, [], []⟩
def d_TooFar_init : He.DefD := ⟨("TooFar", some "__init__"), "__init__", "TooFar.__init__", defArgs s_TooFar_init, defBody s_TooFar_init, defScope s_TooFar_init, [], []⟩
def d_NoValue_init : He.DefD := ⟨("NoValue", some "__init__"), "__init__", "NoValue.__init__", defArgs s_NoValue_init, defBody s_NoValue_init, defScope s_NoValue_init, [], []⟩
def d_first_of : He.DefD := ⟨("first_of", none), "first_of", "first_of", defArgs s_first_of, defBody s_first_of, defScope s_first_of, [], []⟩
def d_adopted : He.DefD := ⟨("adopted", none), "adopted", "adopted", defArgs s_adopted, defBody s_adopted, defScope s_adopted, [], []⟩
def d_spliced : He.DefD := ⟨("spliced", none), "spliced", "spliced", defArgs s_spliced, defBody s_spliced, defScope s_spliced, [], []⟩
def d_farthest : He.DefD := ⟨("farthest", none), "farthest", "farthest", defArgs s_farthest, defBody s_farthest, defScope s_farthest, [], []⟩
def d_known_by : He.DefD := ⟨("known_by", none), "known_by", "known_by", defArgs s_known_by, defBody s_known_by, defScope s_known_by, [], []⟩
def d_Seeker_init : He.DefD := ⟨("Seeker", some "__init__"), "__init__", "Seeker.__init__", defArgs s_Seeker_init, defBody s_Seeker_init, defScope s_Seeker_init, [], []⟩
def d_Seeker_step : He.DefD := ⟨("Seeker", some "step"), "step", "Seeker.step", defArgs s_Seeker_step, defBody s_Seeker_step, defScope s_Seeker_step, [], []⟩
def d_Seeker_go_on : He.DefD := ⟨("Seeker", some "go_on"), "go_on", "Seeker.go_on", defArgs s_Seeker_go_on, defBody s_Seeker_go_on, defScope s_Seeker_go_on, [], []⟩
def d_Seeker_go_back : He.DefD := ⟨("Seeker", some "go_back"), "go_back", "Seeker.go_back", defArgs s_Seeker_go_back, defBody s_Seeker_go_back, defScope s_Seeker_go_back, [], []⟩
def d_Seeker_go_upwards : He.DefD := ⟨("Seeker", some "go_upwards"), "go_upwards", "Seeker.go_upwards", defArgs s_Seeker_go_upwards, defBody s_Seeker_go_upwards, defScope s_Seeker_go_upwards, [], []⟩
def d_Seeker_at : He.DefD := ⟨("Seeker", some "at"), "at", "Seeker.at", defArgs s_Seeker_at, defBody s_Seeker_at, defScope s_Seeker_at, [], []⟩
def d_Seeker_way : He.DefD := ⟨("Seeker", some "way"), "way", "Seeker.way", defArgs s_Seeker_way, defBody s_Seeker_way, defScope s_Seeker_way, [], []⟩
def d_Seeker_answer : He.DefD := ⟨("Seeker", some "answer"), "answer", "Seeker.answer", defArgs s_Seeker_answer, defBody s_Seeker_answer, defScope s_Seeker_answer, [], []⟩
def d_Found_init : He.DefD := ⟨("Found", some "__init__"), "__init__", "Found.__init__", defArgs s_Found_init, defBody s_Found_init, defScope s_Found_init, [], []⟩
def d_Found_answer : He.DefD := ⟨("Found", some "answer"), "answer", "Found.answer", defArgs s_Found_answer, defBody s_Found_answer, defScope s_Found_answer, [], []⟩
def d_look : He.DefD := ⟨("look", none), "look", "look", defArgs s_look, defBody s_look, defScope s_look, [], [("within", .non)]⟩
def d_is_whole : He.DefD := ⟨("is_whole", none), "is_whole", "is_whole", defArgs s_is_whole, defBody s_is_whole, defScope s_is_whole, [], []⟩
def d_Space_init : He.DefD := ⟨("Space", some "__init__"), "__init__", "Space.__init__", defArgs s_Space_init, defBody s_Space_init, defScope s_Space_init, [.int 8], []⟩
def d_Space_bits : He.DefD := ⟨("Space", some "bits"), "bits", "Space.bits", defArgs s_Space_bits, defBody s_Space_bits, defScope s_Space_bits, [], []⟩
def d_Space_size : He.DefD := ⟨("Space", some "size"), "size", "Space.size", defArgs s_Space_size, defBody s_Space_size, defScope s_Space_size, [], []⟩
def d_Space_has : He.DefD := ⟨("Space", some "has"), "has", "Space.has", defArgs s_Space_has, defBody s_Space_has, defScope s_Space_has, [], []⟩
def d_Space_distance : He.DefD := ⟨("Space", some "distance"), "distance", "Space.distance", defArgs s_Space_distance, defBody s_Space_distance, defScope s_Space_distance, [], []⟩
def d_Space_is_between : He.DefD := ⟨("Space", some "is_between"), "is_between", "Space.is_between", defArgs s_Space_is_between, defBody s_Space_is_between, defScope s_Space_is_between, [], []⟩
def d_Space_nearest : He.DefD := ⟨("Space", some "nearest"), "nearest", "Space.nearest", defArgs s_Space_nearest, defBody s_Space_nearest, defScope s_Space_nearest, [], []⟩
def d_Space_preceding : He.DefD := ⟨("Space", some "preceding"), "preceding", "Space.preceding", defArgs s_Space_preceding, defBody s_Space_preceding, defScope s_Space_preceding, [], []⟩
def d_Node_init : He.DefD := ⟨("Node", some "__init__"), "__init__", "Node.__init__", defArgs s_Node_init, defBody s_Node_init, defScope s_Node_init, [], []⟩
def d_upwards : He.DefD := ⟨("upwards", none), "upwards", "upwards", defArgs s_upwards, defBody s_upwards, defScope s_upwards, [], []⟩
def d_others_upwards : He.DefD := ⟨("others_upwards", none), "others_upwards", "others_upwards", defArgs s_others_upwards, defBody s_others_upwards, defScope s_others_upwards, [], []⟩
def d_far_point : He.DefD := ⟨("far_point", none), "far_point", "far_point", defArgs s_far_point, defBody s_far_point, defScope s_far_point, [], []⟩
def d_right_chain : He.DefD := ⟨("right_chain", none), "right_chain", "right_chain", defArgs s_right_chain, defBody s_right_chain, defScope s_right_chain, [], []⟩
def d_right_far : He.DefD := ⟨("right_far", none), "right_far", "right_far", defArgs s_right_far, defBody s_right_far, defScope s_right_far, [], []⟩
def d_right_node : He.DefD := ⟨("right_node", none), "right_node", "right_node", defArgs s_right_node, defBody s_right_node, defScope s_right_node, [], []⟩
def d_is_length : He.DefD := ⟨("is_length", none), "is_length", "is_length", defArgs s_is_length, defBody s_is_length, defScope s_is_length, [], []⟩
def d_are_base : He.DefD := ⟨("are_base", none), "are_base", "are_base", defArgs s_are_base, defBody s_are_base, defScope s_are_base, [], []⟩
def d_space_of : He.DefD := ⟨("space_of", none), "space_of", "space_of", defArgs s_space_of, defBody s_space_of, defScope s_space_of, [], []⟩
def d_Ring_init : He.DefD := ⟨("Ring", some "__init__"), "__init__", "Ring.__init__", defArgs s_Ring_init, defBody s_Ring_init, defScope s_Ring_init, [], [("bits", .int 8), ("length", .int 2)]⟩
def d_Ring_space : He.DefD := ⟨("Ring", some "space"), "space", "Ring.space", defArgs s_Ring_space, defBody s_Ring_space, defScope s_Ring_space, [], []⟩
def d_Ring_length : He.DefD := ⟨("Ring", some "length"), "length", "Ring.length", defArgs s_Ring_length, defBody s_Ring_length, defScope s_Ring_length, [], []⟩
def d_Ring_base : He.DefD := ⟨("Ring", some "base"), "base", "Ring.base", defArgs s_Ring_base, defBody s_Ring_base, defScope s_Ring_base, [], []⟩
def d_Ring_members : He.DefD := ⟨("Ring", some "members"), "members", "Ring.members", defArgs s_Ring_members, defBody s_Ring_members, defScope s_Ring_members, [], []⟩
def d_Ring_is_member : He.DefD := ⟨("Ring", some "is_member"), "is_member", "Ring.is_member", defArgs s_Ring_is_member, defBody s_Ring_is_member, defScope s_Ring_is_member, [], []⟩
def d_Ring_want_point : He.DefD := ⟨("Ring", some "want_point"), "want_point", "Ring.want_point", defArgs s_Ring_want_point, defBody s_Ring_want_point, defScope s_Ring_want_point, [], []⟩
def d_Ring_node : He.DefD := ⟨("Ring", some "node"), "node", "Ring.node", defArgs s_Ring_node, defBody s_Ring_node, defScope s_Ring_node, [], []⟩
def d_Ring_links : He.DefD := ⟨("Ring", some "links"), "links", "Ring.links", defArgs s_Ring_links, defBody s_Ring_links, defScope s_Ring_links, [], []⟩
def d_Ring_next_of : He.DefD := ⟨("Ring", some "next_of"), "next_of", "Ring.next_of", defArgs s_Ring_next_of, defBody s_Ring_next_of, defScope s_Ring_next_of, [], []⟩
def d_Ring_before : He.DefD := ⟨("Ring", some "before"), "before", "Ring.before", defArgs s_Ring_before, defBody s_Ring_before, defScope s_Ring_before, [], []⟩
def d_Ring_fingers : He.DefD := ⟨("Ring", some "fingers"), "fingers", "Ring.fingers", defArgs s_Ring_fingers, defBody s_Ring_fingers, defScope s_Ring_fingers, [], []⟩
def d_Ring_kept : He.DefD := ⟨("Ring", some "kept"), "kept", "Ring.kept", defArgs s_Ring_kept, defBody s_Ring_kept, defScope s_Ring_kept, [], []⟩
def d_Ring_enter : He.DefD := ⟨("Ring", some "enter"), "enter", "Ring.enter", defArgs s_Ring_enter, defBody s_Ring_enter, defScope s_Ring_enter, [], []⟩
def d_Ring_vanish : He.DefD := ⟨("Ring", some "vanish"), "vanish", "Ring.vanish", defArgs s_Ring_vanish, defBody s_Ring_vanish, defScope s_Ring_vanish, [], []⟩
def d_Ring_offer : He.DefD := ⟨("Ring", some "offer"), "offer", "Ring.offer", defArgs s_Ring_offer, defBody s_Ring_offer, defScope s_Ring_offer, [], []⟩
def d_Ring_let_go : He.DefD := ⟨("Ring", some "let_go"), "let_go", "Ring.let_go", defArgs s_Ring_let_go, defBody s_Ring_let_go, defScope s_Ring_let_go, [], []⟩
def d_Ring_new_stamp : He.DefD := ⟨("Ring", some "new_stamp"), "new_stamp", "Ring.new_stamp", defArgs s_Ring_new_stamp, defBody s_Ring_new_stamp, defScope s_Ring_new_stamp, [], []⟩
def d_Ring_newest_stamp : He.DefD := ⟨("Ring", some "newest_stamp"), "newest_stamp", "Ring.newest_stamp", defArgs s_Ring_newest_stamp, defBody s_Ring_newest_stamp, defScope s_Ring_newest_stamp, [], []⟩
def d_Ring_note : He.DefD := ⟨("Ring", some "note"), "note", "Ring.note", defArgs s_Ring_note, defBody s_Ring_note, defScope s_Ring_note, [], []⟩
def d_holders : He.DefD := ⟨("holders", none), "holders", "holders", defArgs s_holders, defBody s_holders, defScope s_holders, [], []⟩
def d_is_text : He.DefD := ⟨("is_text", none), "is_text", "is_text", defArgs s_is_text, defBody s_is_text, defScope s_is_text, [], []⟩
def d_hand_in : He.DefD := ⟨("hand_in", none), "hand_in", "hand_in", defArgs s_hand_in, defBody s_hand_in, defScope s_hand_in, [], []⟩
def d_put : He.DefD := ⟨("put", none), "put", "put", defArgs s_put, defBody s_put, defScope s_put, [], []⟩
def d_forget : He.DefD := ⟨("forget", none), "forget", "forget", defArgs s_forget, defBody s_forget, defScope s_forget, [], []⟩
def d_get : He.DefD := ⟨("get", none), "get", "get", defArgs s_get, defBody s_get, defScope s_get, [], []⟩
def d_settled : He.DefD := ⟨("settled", none), "settled", "settled", defArgs s_settled, defBody s_settled, defScope s_settled, [], []⟩
def d_settle : He.DefD := ⟨("settle", none), "settle", "settle", defArgs s_settle, defBody s_settle, defScope s_settle, [], []⟩
def d_source_of : He.DefD := ⟨("source_of", none), "source_of", "source_of", defArgs s_source_of, defBody s_source_of, defScope s_source_of, [], []⟩
def d_notified : He.DefD := ⟨("notified", none), "notified", "notified", defArgs s_notified, defBody s_notified, defScope s_notified, [], []⟩
def d_steadied : He.DefD := ⟨("steadied", none), "steadied", "steadied", defArgs s_steadied, defBody s_steadied, defScope s_steadied, [], []⟩
def d_refingered : He.DefD := ⟨("refingered", none), "refingered", "refingered", defArgs s_refingered, defBody s_refingered, defScope s_refingered, [], []⟩
def d_stabilize : He.DefD := ⟨("stabilize", none), "stabilize", "stabilize", defArgs s_stabilize, defBody s_stabilize, defScope s_stabilize, [], []⟩
def d_fix : He.DefD := ⟨("fix", none), "fix", "fix", defArgs s_fix, defBody s_fix, defScope s_fix, [], []⟩
def d_is_order : He.DefD := ⟨("is_order", none), "is_order", "is_order", defArgs s_is_order, defBody s_is_order, defScope s_is_order, [], []⟩
def d_mend : He.DefD := ⟨("mend", none), "mend", "mend", defArgs s_mend, defBody s_mend, defScope s_mend, [], [("order", .non)]⟩
def d_join : He.DefD := ⟨("join", none), "join", "join", defArgs s_join, defBody s_join, defScope s_join, [], []⟩
def d_want_loose : He.DefD := ⟨("want_loose", none), "want_loose", "want_loose", defArgs s_want_loose, defBody s_want_loose, defScope s_want_loose, [], []⟩
def d_member_before : He.DefD := ⟨("member_before", none), "member_before", "member_before", defArgs s_member_before, defBody s_member_before, defScope s_member_before, [], []⟩
def d_chains_without : He.DefD := ⟨("chains_without", none), "chains_without", "chains_without", defArgs s_chains_without, defBody s_chains_without, defScope s_chains_without, [], []⟩
def d_want_company : He.DefD := ⟨("want_company", none), "want_company", "want_company", defArgs s_want_company, defBody s_want_company, defScope s_want_company, [], []⟩
def d_is_kept_beside : He.DefD := ⟨("is_kept_beside", none), "is_kept_beside", "is_kept_beside", defArgs s_is_kept_beside, defBody s_is_kept_beside, defScope s_is_kept_beside, [], []⟩
def d_want_kept : He.DefD := ⟨("want_kept", none), "want_kept", "want_kept", defArgs s_want_kept, defBody s_want_kept, defScope s_want_kept, [], []⟩
def d_crash : He.DefD := ⟨("crash", none), "crash", "crash", defArgs s_crash, defBody s_crash, defScope s_crash, [], []⟩
def d_hand_on : He.DefD := ⟨("hand_on", none), "hand_on", "hand_on", defArgs s_hand_on, defBody s_hand_on, defScope s_hand_on, [], []⟩
def d_leave : He.DefD := ⟨("leave", none), "leave", "leave", defArgs s_leave, defBody s_leave, defScope s_leave, [], []⟩
def d_law_cell : He.DefD := ⟨("_law_cell", none), "_law_cell", "_law_cell", defArgs s_law_cell, defBody s_law_cell, defScope s_law_cell, [], []⟩
def d_law_pot : He.DefD := ⟨("_law_pot", none), "_law_pot", "_law_pot", defArgs s_law_pot, defBody s_law_pot, defScope s_law_pot, [], []⟩
def d_law_take : He.DefD := ⟨("_law_take", none), "_law_take", "_law_take", defArgs s_law_take, defBody s_law_take, defScope s_law_take, [], []⟩
def d_law_free : He.DefD := ⟨("_law_free", none), "_law_free", "_law_free", defArgs s_law_free, defBody s_law_free, defScope s_law_free, [], []⟩
def d_law_ring : He.DefD := ⟨("_law_ring", none), "_law_ring", "_law_ring", defArgs s_law_ring, defBody s_law_ring, defScope s_law_ring, [], []⟩
def d_law_near : He.DefD := ⟨("_law_near", none), "_law_near", "_law_near", defArgs s_law_near, defBody s_law_near, defScope s_law_near, [], []⟩
def d_law_member : He.DefD := ⟨("_law_member", none), "_law_member", "_law_member", defArgs s_law_member, defBody s_law_member, defScope s_law_member, [], []⟩
def d_law_mixed : He.DefD := ⟨("_law_mixed", none), "_law_mixed", "_law_mixed", defArgs s_law_mixed, defBody s_law_mixed, defScope s_law_mixed, [], []⟩
def d_law_granted : He.DefD := ⟨("_law_granted", none), "_law_granted", "_law_granted", defArgs s_law_granted, defBody s_law_granted, defScope s_law_granted, [], []⟩
def d_law_done : He.DefD := ⟨("_law_done", none), "_law_done", "_law_done", defArgs s_law_done, defBody s_law_done, defScope s_law_done, [], []⟩
def d_law_history : He.DefD := ⟨("_law_history", none), "_law_history", "_law_history", defArgs s_law_history, defBody s_law_history, defScope s_law_history, [], []⟩
def d_law_orders : He.DefD := ⟨("_law_orders", none), "_law_orders", "_law_orders", defArgs s_law_orders, defBody s_law_orders, defScope s_law_orders, [], []⟩
def d_law_links : He.DefD := ⟨("_law_links", none), "_law_links", "_law_links", defArgs s_law_links, defBody s_law_links, defScope s_law_links, [], []⟩
def d_law_nearest : He.DefD := ⟨("_law_nearest", none), "_law_nearest", "_law_nearest", defArgs s_law_nearest, defBody s_law_nearest, defScope s_law_nearest, [], []⟩
def d_law_fingers : He.DefD := ⟨("_law_fingers", none), "_law_fingers", "_law_fingers", defArgs s_law_fingers, defBody s_law_fingers, defScope s_law_fingers, [], []⟩
def d_law_most : He.DefD := ⟨("_law_most", none), "_law_most", "_law_most", defArgs s_law_most, defBody s_law_most, defScope s_law_most, [], []⟩
def d_law_near_right : He.DefD := ⟨("_law_near_right", none), "_law_near_right", "_law_near_right", defArgs s_law_near_right, defBody s_law_near_right, defScope s_law_near_right, [], []⟩
def d_law_all_right : He.DefD := ⟨("_law_all_right", none), "_law_all_right", "_law_all_right", defArgs s_law_all_right, defBody s_law_all_right, defScope s_law_all_right, [], []⟩
def d_law_got : He.DefD := ⟨("_law_got", none), "_law_got", "_law_got", defArgs s_law_got, defBody s_law_got, defScope s_law_got, [], []⟩
def d_law : He.DefD := ⟨("law", none), "law", "law", defArgs s_law, defBody s_law, defScope s_law, [], []⟩
def fn0 : List He.DefD := [d_NoRing_init, d_NoMember_init, d_Taken_init, d_Fixed_init, d_Alone_init, d_LastOne_init, d_TooFar_init, d_NoValue_init, d_first_of, d_adopted, d_spliced, d_farthest, d_known_by, d_Seeker_init, d_Seeker_step, d_Seeker_go_on, d_Seeker_go_back, d_Seeker_go_upwards, d_Seeker_at, d_Seeker_way, d_Seeker_answer, d_Found_init, d_Found_answer, d_look, d_is_whole, d_Space_init, d_Space_bits, d_Space_size, d_Space_has, d_Space_distance]
def fn1 : List He.DefD := [d_Space_is_between, d_Space_nearest, d_Space_preceding, d_Node_init, d_upwards, d_others_upwards, d_far_point, d_right_chain, d_right_far, d_right_node, d_is_length, d_are_base, d_space_of, d_Ring_init, d_Ring_space, d_Ring_length, d_Ring_base, d_Ring_members, d_Ring_is_member, d_Ring_want_point, d_Ring_node, d_Ring_links, d_Ring_next_of, d_Ring_before, d_Ring_fingers, d_Ring_kept, d_Ring_enter, d_Ring_vanish, d_Ring_offer, d_Ring_let_go]
def fn2 : List He.DefD := [d_Ring_new_stamp, d_Ring_newest_stamp, d_Ring_note, d_holders, d_is_text, d_hand_in, d_put, d_forget, d_get, d_settled, d_settle, d_source_of, d_notified, d_steadied, d_refingered, d_stabilize, d_fix, d_is_order, d_mend, d_join, d_want_loose, d_member_before, d_chains_without, d_want_company, d_is_kept_beside, d_want_kept, d_crash, d_hand_on, d_leave, d_law_cell]
def fn3 : List He.DefD := [d_law_pot, d_law_take, d_law_free, d_law_ring, d_law_near, d_law_member, d_law_mixed, d_law_granted, d_law_done, d_law_history, d_law_orders, d_law_links, d_law_nearest, d_law_fingers, d_law_most, d_law_near_right, d_law_all_right, d_law_got, d_law]
def fn : List He.DefD := fn0 ++ fn1 ++ fn2 ++ fn3
def fa0 : List He.Fa := [.glo "RingError", .glo "NoSpace", .glo "NoPoint", .glo "NoRing", .glo "NoMember", .glo "Taken", .glo "Fixed", .glo "Alone", .glo "LastOne", .glo "TooFar", .glo "NoText", .glo "NoValue", .glo "NoOrder", .glo "first_of", .glo "adopted", .glo "spliced", .glo "farthest", .glo "known_by", .glo "Seeker", .glo "Found", .glo "look", .int "BITS" 8, .int "LEAST_BITS" 3, .int "MOST_BITS" 32, .str "FIGURES" "0123456789abcdef", .int "BITS_OF_A_FIGURE" 4, .glo "is_whole", .glo "Space", .int "LENGTH" 2, .int "MOST_LENGTH" 4]
def fa1 : List He.Fa := [.int "MOST_BASE" 8, .glo "Node", .glo "upwards", .glo "others_upwards", .glo "far_point", .glo "right_chain", .glo "right_far", .glo "right_node", .glo "is_length", .glo "are_base", .glo "space_of", .glo "Ring", .int "MOST_SIGNS" 40, .glo "holders", .glo "is_text", .glo "hand_in", .glo "put", .glo "forget", .glo "get", .glo "settled", .glo "settle", .glo "source_of", .glo "notified", .glo "steadied", .glo "refingered", .glo "stabilize", .glo "fix", .glo "is_order", .glo "mend", .glo "join"]
def fa2 : List He.Fa := [.glo "want_loose", .glo "member_before", .glo "chains_without", .glo "want_company", .glo "is_kept_beside", .glo "want_kept", .glo "crash", .glo "hand_on", .glo "leave", .glo "_law_cell", .glo "_law_pot", .glo "_law_take", .glo "_law_free", .glo "_law_ring", .glo "_law_near", .glo "_law_member", .glo "_law_mixed", .glo "_law_granted", .glo "_law_done", .glo "_law_history", .glo "_law_orders", .glo "_law_links", .glo "_law_nearest", .glo "_law_fingers", .glo "_law_most", .glo "_law_near_right", .glo "_law_all_right", .glo "_law_got", .glo "law", .free "ValueError"]
def fa3 : List He.Fa := [.free "abs", .free "all", .free "any", .free "bool", .free "divmod", .free "enumerate", .free "int", .free "isinstance", .free "len", .free "list", .free "max", .free "min", .free "range", .free "set", .free "sorted", .free "str", .free "sum", .free "tuple", .free "zip", .cls "Seeker", .mkr "Seeker", .noat "Seeker" "around", .noat "Seeker" "sought", .noat "Seeker" "trail", .noat "Seeker" "returns", .noat "Seeker" "goal", .meth "Seeker" "__init__", .meth "Seeker" "step", .meth "Seeker" "go_on", .meth "Seeker" "go_back"]
def fa4 : List He.Fa := [.meth "Seeker" "go_upwards", .meth "Seeker" "at", .meth "Seeker" "way", .meth "Seeker" "answer", .cls "Found", .mkr "Found", .noat "Found" "trail", .noat "Found" "goal", .noat "Found" "reasons", .meth "Found" "__init__", .meth "Found" "answer", .cls "Space", .mkr "Space", .noat "Space" "own_bits", .meth "Space" "__init__", .meth "Space" "bits", .meth "Space" "size", .meth "Space" "has", .meth "Space" "distance", .meth "Space" "is_between", .meth "Space" "nearest", .meth "Space" "preceding", .cls "Node", .mkr "Node", .noat "Node" "chain", .noat "Node" "prior", .noat "Node" "far", .noat "Node" "things", .meth "Node" "__init__", .cls "Ring"]
def fa5 : List He.Fa := [.mkr "Ring", .noat "Ring" "circle", .noat "Ring" "many", .noat "Ring" "fixed", .noat "Ring" "nodes", .noat "Ring" "stamps", .noat "Ring" "done", .meth "Ring" "__init__", .meth "Ring" "space", .meth "Ring" "length", .meth "Ring" "base", .meth "Ring" "members", .meth "Ring" "is_member", .meth "Ring" "want_point", .meth "Ring" "node", .meth "Ring" "links", .meth "Ring" "next_of", .meth "Ring" "before", .meth "Ring" "fingers", .meth "Ring" "kept", .meth "Ring" "enter", .meth "Ring" "vanish", .meth "Ring" "offer", .meth "Ring" "let_go", .meth "Ring" "new_stamp", .meth "Ring" "newest_stamp", .meth "Ring" "note"]
def fa : List He.Fa := fa0 ++ fa1 ++ fa2 ++ fa3 ++ fa4 ++ fa5
def tf0 : List He.Defn := [("farthest", none), ("Space", some "nearest"), ("Space", some "preceding"), ("upwards", none)]
def tf : List He.Defn := tf0
def exB0 (K : PySem.W.Frag) (x : Str) : Bool := oexB K x && (decide (PySem.W.findIn K (.ref (He.ga K x)) "__setattr__" = some (some (.builtin "object.__setattr__"))) && (decide (PySem.W.subIn K (.ref (He.ga K x)) (.type "BaseException") = some true) && (decide (PySem.W.typeIn K (.ref (He.ga K x)) = some (.type "type")) && (PySem.W.keepIn K (.ref (He.ga K x)) && (decide (PySem.W.findIn K (.ref (He.ga K x)) "__getattribute__" = some (some (.builtin "BaseException.__getattribute__"))) && decide (PySem.W.findIn K (.ref (He.ga K x)) "__getattr__" = some none))))))
def exI0 (K : PySem.W.Frag) (x : Str) : Bool := decide (PySem.W.findIn K (.ref (He.ga K x)) "__init__" = some (some (.ref (He.ma K (He.ga K x) "__init__")))) && decide (PySem.W.typeIn K (.ref (He.ma K (He.ga K x) "__init__")) = some (.type "function"))
def exL : List Str := ["RingError", "NoSpace", "NoPoint", "NoRing", "NoMember", "Taken", "Fixed", "Alone", "LastOne", "TooFar", "NoText", "NoValue", "NoOrder"]
def exI : List Str := ["NoRing", "NoMember", "Taken", "Fixed", "Alone", "LastOne", "TooFar", "NoValue"]
def exF : List (Str × Str) := [("NoRing", "field"), ("NoMember", "who"), ("Taken", "who"), ("Fixed", "who"), ("Alone", "who"), ("LastOne", "point"), ("TooFar", "stood"), ("NoValue", "point")]
def exM (K : PySem.W.Frag) : Bool := exL.all fun x => decide (PySem.W.exmOne K (.ref (He.ga K x)) (.ref (He.ga K "RingError")) = some true)
def exN : List Str := ["RingError", "NoSpace", "NoPoint", "NoText", "NoOrder"]
def exR (K : PySem.W.Frag) : Bool := decide (PySem.W.specialIn K (.ref (He.ga K "RingError")) "__getattribute__" = some (some (.builtin "type.__getattribute__"))) && (PySem.W.readsIn K (He.ga K "RingError") (.type "type") && (match PySem.W.findCls K (.ref (He.ga K "RingError")) (.type "type") "__init__" with | some (.val (.builtin n)) => n == "ValueError.__init__" | _ => false))
def exB (K : PySem.W.Frag) : Bool := (exR K && exN.all fun x => PySem.W.excIn K (He.ga K x) PySem.HandSPX.veTail "ValueError.__new__") && ((exL.all (exB0 K)) && ((exI.all (exI0 K)) && ((exF.all fun p => decide (PySem.W.findIn K (.ref (He.ga K p.1)) p.2 = some none)) && (exM K && decide ((tf.map fun p => (He.cT K p).2).Nodup)))))
def eqL : List Str := []
def isiB (K : PySem.W.Frag) (x : Str) : Bool := decide (PySem.W.findIn K (.ref (He.ga K x)) "__class__" = some (some (.builtin "object.__class__"))) && (decide (PySem.W.mroIn K (He.ga K x) (.type "object") = some true) && (decide (PySem.W.kitOne K (.ref (He.ga K x)) (.ref (He.ga K x)) = some true) && decide (PySem.W.findIn K (.ref (He.ga K x)) "__ne__" = some (some (.builtin "object.__ne__")))))
def neB (K : PySem.W.Frag) : Bool := eqL.isEmpty || (decide (PySem.W.specialIn K (.builtin "object.__class__") "__get__" = some (some (.builtin "getset_descriptor.__get__"))) && (decide (PySem.W.takesIn K (.builtin "object.__class__") = some true) && eqL.all (isiB K)))
def exC (K : PySem.W.Frag) : Bool := exB K && neB K
def fdO (K : PySem.W.Frag) (p : Str × Option Str) : FuncData := match K.lookup (He.fAd K p) with
  | some ⟨_, _, .func fd, _⟩ => fd
  | _ => default
def loose0 : List PySem.Str := ["_wall", "RingError", "NoSpace", "NoPoint", "NoRing", "NoMember", "Taken", "Fixed", "Alone", "LastOne", "TooFar", "NoText", "NoValue", "NoOrder", "first_of", "adopted", "spliced", "farthest", "known_by", "Seeker", "Found", "look", "BITS", "LEAST_BITS", "MOST_BITS", "FIGURES", "BITS_OF_A_FIGURE", "is_whole", "Space", "LENGTH"]
def loose1 : List PySem.Str := ["MOST_LENGTH", "MOST_BASE", "Node", "upwards", "others_upwards", "far_point", "right_chain", "right_far", "right_node", "is_length", "are_base", "space_of", "Ring", "MOST_SIGNS", "holders", "is_text", "hand_in", "put", "forget", "get", "settled", "settle", "source_of", "notified", "steadied", "refingered", "stabilize", "fix", "is_order", "mend"]
def loose2 : List PySem.Str := ["join", "want_loose", "member_before", "chains_without", "want_company", "is_kept_beside", "want_kept", "crash", "hand_on", "leave", "_law_cell", "_law_pot", "_law_take", "_law_free", "_law_ring", "_law_near", "_law_member", "_law_mixed", "_law_granted", "_law_done", "_law_history", "_law_orders", "_law_links", "_law_nearest", "_law_fingers", "_law_most", "_law_near_right", "_law_all_right", "_law_got"]
def loose : List PySem.Str := loose0 ++ loose1 ++ loose2
def nms0 : List PySem.Str := ["first_of", "adopted", "spliced", "farthest", "known_by", "look", "is_whole", "upwards", "others_upwards", "far_point", "right_chain", "right_far", "right_node", "is_length", "are_base", "space_of", "holders", "is_text", "hand_in", "put", "forget", "get", "settled", "settle", "source_of", "notified", "steadied", "refingered", "stabilize", "fix"]
def nms1 : List PySem.Str := ["is_order", "mend", "join", "want_loose", "member_before", "chains_without", "want_company", "is_kept_beside", "want_kept", "crash", "hand_on", "leave", "_law_cell", "_law_pot", "_law_take", "_law_free", "_law_ring", "_law_near", "_law_member", "_law_mixed", "_law_granted", "_law_done", "_law_history", "_law_orders", "_law_links", "_law_nearest", "_law_fingers", "_law_most", "_law_near_right", "_law_all_right"]
def nms2 : List PySem.Str := ["_law_got", "law", "RingError", "NoSpace", "NoPoint", "NoRing", "NoMember", "Taken", "Fixed", "Alone", "LastOne", "TooFar", "NoText", "NoValue", "NoOrder", "Seeker", "Found", "Space", "Node", "Ring"]
def nms : List PySem.Str := nms0 ++ nms1 ++ nms2
def tabT (K : PySem.W.Frag) : List (Addr × Str) := [((He.cT K ("farthest", none)).2, "farthest" ++ ".<locals>." ++ "<lambda>"), ((He.cT K ("Space", some "nearest")).2, "Space.nearest" ++ ".<locals>." ++ "<lambda>"), ((He.cT K ("Space", some "preceding")).2, "Space.preceding" ++ ".<locals>." ++ "<lambda>"), ((He.cT K ("upwards", none)).2, "upwards" ++ ".<locals>." ++ "<lambda>")]
/-- what is said of the written part -/
structure Say (K : PySem.W.Frag) (mg : Str → Option Value) (base : Heap) : Prop where
  fact : ∀ (i : Nat) (f : He.Fa), fa[i]? = some f → f.ok K = true
  def_ : ∀ (i : Nat) (d : He.DefD), fn[i]? = some d → FunD K d.name d.qual d.params d.body d.scope (d.dvs K) (d.kws K) (He.fAd K d.at_) (fdO K d.at_)
  ex : exB K = true
  ne : neB K = true
  kin : ∃ h : Heap, K.In h ∧ h.Ns mainGlobals mg
  tab : ∀ p ∈ tf, LamX.TabB base mg (He.cT K p).1 (He.cT K p).2
namespace Say
variable {K : PySem.W.Frag} {mg : Str → Option Value} {base : Heap}
theorem g_RingError (S : Say K mg base) : mg "RingError" = some (.ref (He.ga K "RingError")) := let ⟨_, X, G⟩ := S.kin; He.glo_ok X G (S.fact 0 (.glo "RingError") rfl)
theorem g_NoSpace (S : Say K mg base) : mg "NoSpace" = some (.ref (He.ga K "NoSpace")) := let ⟨_, X, G⟩ := S.kin; He.glo_ok X G (S.fact 1 (.glo "NoSpace") rfl)
theorem g_NoPoint (S : Say K mg base) : mg "NoPoint" = some (.ref (He.ga K "NoPoint")) := let ⟨_, X, G⟩ := S.kin; He.glo_ok X G (S.fact 2 (.glo "NoPoint") rfl)
theorem g_NoRing (S : Say K mg base) : mg "NoRing" = some (.ref (He.ga K "NoRing")) := let ⟨_, X, G⟩ := S.kin; He.glo_ok X G (S.fact 3 (.glo "NoRing") rfl)
theorem g_NoMember (S : Say K mg base) : mg "NoMember" = some (.ref (He.ga K "NoMember")) := let ⟨_, X, G⟩ := S.kin; He.glo_ok X G (S.fact 4 (.glo "NoMember") rfl)
theorem g_Taken (S : Say K mg base) : mg "Taken" = some (.ref (He.ga K "Taken")) := let ⟨_, X, G⟩ := S.kin; He.glo_ok X G (S.fact 5 (.glo "Taken") rfl)
theorem g_Fixed (S : Say K mg base) : mg "Fixed" = some (.ref (He.ga K "Fixed")) := let ⟨_, X, G⟩ := S.kin; He.glo_ok X G (S.fact 6 (.glo "Fixed") rfl)
theorem g_Alone (S : Say K mg base) : mg "Alone" = some (.ref (He.ga K "Alone")) := let ⟨_, X, G⟩ := S.kin; He.glo_ok X G (S.fact 7 (.glo "Alone") rfl)
theorem g_LastOne (S : Say K mg base) : mg "LastOne" = some (.ref (He.ga K "LastOne")) := let ⟨_, X, G⟩ := S.kin; He.glo_ok X G (S.fact 8 (.glo "LastOne") rfl)
theorem g_TooFar (S : Say K mg base) : mg "TooFar" = some (.ref (He.ga K "TooFar")) := let ⟨_, X, G⟩ := S.kin; He.glo_ok X G (S.fact 9 (.glo "TooFar") rfl)
theorem g_NoText (S : Say K mg base) : mg "NoText" = some (.ref (He.ga K "NoText")) := let ⟨_, X, G⟩ := S.kin; He.glo_ok X G (S.fact 10 (.glo "NoText") rfl)
theorem g_NoValue (S : Say K mg base) : mg "NoValue" = some (.ref (He.ga K "NoValue")) := let ⟨_, X, G⟩ := S.kin; He.glo_ok X G (S.fact 11 (.glo "NoValue") rfl)
theorem g_NoOrder (S : Say K mg base) : mg "NoOrder" = some (.ref (He.ga K "NoOrder")) := let ⟨_, X, G⟩ := S.kin; He.glo_ok X G (S.fact 12 (.glo "NoOrder") rfl)
theorem g_first_of (S : Say K mg base) : mg "first_of" = some (.ref (He.ga K "first_of")) := let ⟨_, X, G⟩ := S.kin; He.glo_ok X G (S.fact 13 (.glo "first_of") rfl)
theorem g_adopted (S : Say K mg base) : mg "adopted" = some (.ref (He.ga K "adopted")) := let ⟨_, X, G⟩ := S.kin; He.glo_ok X G (S.fact 14 (.glo "adopted") rfl)
theorem g_spliced (S : Say K mg base) : mg "spliced" = some (.ref (He.ga K "spliced")) := let ⟨_, X, G⟩ := S.kin; He.glo_ok X G (S.fact 15 (.glo "spliced") rfl)
theorem g_farthest (S : Say K mg base) : mg "farthest" = some (.ref (He.ga K "farthest")) := let ⟨_, X, G⟩ := S.kin; He.glo_ok X G (S.fact 16 (.glo "farthest") rfl)
theorem g_known_by (S : Say K mg base) : mg "known_by" = some (.ref (He.ga K "known_by")) := let ⟨_, X, G⟩ := S.kin; He.glo_ok X G (S.fact 17 (.glo "known_by") rfl)
theorem g_Seeker (S : Say K mg base) : mg "Seeker" = some (.ref (He.ga K "Seeker")) := let ⟨_, X, G⟩ := S.kin; He.glo_ok X G (S.fact 18 (.glo "Seeker") rfl)
theorem g_Found (S : Say K mg base) : mg "Found" = some (.ref (He.ga K "Found")) := let ⟨_, X, G⟩ := S.kin; He.glo_ok X G (S.fact 19 (.glo "Found") rfl)
theorem g_look (S : Say K mg base) : mg "look" = some (.ref (He.ga K "look")) := let ⟨_, X, G⟩ := S.kin; He.glo_ok X G (S.fact 20 (.glo "look") rfl)
theorem i_BITS (S : Say K mg base) : ∃ t, mg "BITS" = some (.int 8 t) := let ⟨_, X, G⟩ := S.kin; He.int_ok X G (S.fact 21 (.int "BITS" 8) rfl)
theorem i_LEAST_BITS (S : Say K mg base) : ∃ t, mg "LEAST_BITS" = some (.int 3 t) := let ⟨_, X, G⟩ := S.kin; He.int_ok X G (S.fact 22 (.int "LEAST_BITS" 3) rfl)
theorem i_MOST_BITS (S : Say K mg base) : ∃ t, mg "MOST_BITS" = some (.int 32 t) := let ⟨_, X, G⟩ := S.kin; He.int_ok X G (S.fact 23 (.int "MOST_BITS" 32) rfl)
theorem t_FIGURES (S : Say K mg base) : ∃ t, mg "FIGURES" = some (.str "0123456789abcdef" t) := let ⟨_, X, G⟩ := S.kin; He.str_ok X G (S.fact 24 (.str "FIGURES" "0123456789abcdef") rfl)
theorem i_BITS_OF_A_FIGURE (S : Say K mg base) : ∃ t, mg "BITS_OF_A_FIGURE" = some (.int 4 t) := let ⟨_, X, G⟩ := S.kin; He.int_ok X G (S.fact 25 (.int "BITS_OF_A_FIGURE" 4) rfl)
theorem g_is_whole (S : Say K mg base) : mg "is_whole" = some (.ref (He.ga K "is_whole")) := let ⟨_, X, G⟩ := S.kin; He.glo_ok X G (S.fact 26 (.glo "is_whole") rfl)
theorem g_Space (S : Say K mg base) : mg "Space" = some (.ref (He.ga K "Space")) := let ⟨_, X, G⟩ := S.kin; He.glo_ok X G (S.fact 27 (.glo "Space") rfl)
theorem i_LENGTH (S : Say K mg base) : ∃ t, mg "LENGTH" = some (.int 2 t) := let ⟨_, X, G⟩ := S.kin; He.int_ok X G (S.fact 28 (.int "LENGTH" 2) rfl)
theorem i_MOST_LENGTH (S : Say K mg base) : ∃ t, mg "MOST_LENGTH" = some (.int 4 t) := let ⟨_, X, G⟩ := S.kin; He.int_ok X G (S.fact 29 (.int "MOST_LENGTH" 4) rfl)
theorem i_MOST_BASE (S : Say K mg base) : ∃ t, mg "MOST_BASE" = some (.int 8 t) := let ⟨_, X, G⟩ := S.kin; He.int_ok X G (S.fact 30 (.int "MOST_BASE" 8) rfl)
theorem g_Node (S : Say K mg base) : mg "Node" = some (.ref (He.ga K "Node")) := let ⟨_, X, G⟩ := S.kin; He.glo_ok X G (S.fact 31 (.glo "Node") rfl)
theorem g_upwards (S : Say K mg base) : mg "upwards" = some (.ref (He.ga K "upwards")) := let ⟨_, X, G⟩ := S.kin; He.glo_ok X G (S.fact 32 (.glo "upwards") rfl)
theorem g_others_upwards (S : Say K mg base) : mg "others_upwards" = some (.ref (He.ga K "others_upwards")) := let ⟨_, X, G⟩ := S.kin; He.glo_ok X G (S.fact 33 (.glo "others_upwards") rfl)
theorem g_far_point (S : Say K mg base) : mg "far_point" = some (.ref (He.ga K "far_point")) := let ⟨_, X, G⟩ := S.kin; He.glo_ok X G (S.fact 34 (.glo "far_point") rfl)
theorem g_right_chain (S : Say K mg base) : mg "right_chain" = some (.ref (He.ga K "right_chain")) := let ⟨_, X, G⟩ := S.kin; He.glo_ok X G (S.fact 35 (.glo "right_chain") rfl)
theorem g_right_far (S : Say K mg base) : mg "right_far" = some (.ref (He.ga K "right_far")) := let ⟨_, X, G⟩ := S.kin; He.glo_ok X G (S.fact 36 (.glo "right_far") rfl)
theorem g_right_node (S : Say K mg base) : mg "right_node" = some (.ref (He.ga K "right_node")) := let ⟨_, X, G⟩ := S.kin; He.glo_ok X G (S.fact 37 (.glo "right_node") rfl)
theorem g_is_length (S : Say K mg base) : mg "is_length" = some (.ref (He.ga K "is_length")) := let ⟨_, X, G⟩ := S.kin; He.glo_ok X G (S.fact 38 (.glo "is_length") rfl)
theorem g_are_base (S : Say K mg base) : mg "are_base" = some (.ref (He.ga K "are_base")) := let ⟨_, X, G⟩ := S.kin; He.glo_ok X G (S.fact 39 (.glo "are_base") rfl)
theorem g_space_of (S : Say K mg base) : mg "space_of" = some (.ref (He.ga K "space_of")) := let ⟨_, X, G⟩ := S.kin; He.glo_ok X G (S.fact 40 (.glo "space_of") rfl)
theorem g_Ring (S : Say K mg base) : mg "Ring" = some (.ref (He.ga K "Ring")) := let ⟨_, X, G⟩ := S.kin; He.glo_ok X G (S.fact 41 (.glo "Ring") rfl)
theorem i_MOST_SIGNS (S : Say K mg base) : ∃ t, mg "MOST_SIGNS" = some (.int 40 t) := let ⟨_, X, G⟩ := S.kin; He.int_ok X G (S.fact 42 (.int "MOST_SIGNS" 40) rfl)
theorem g_holders (S : Say K mg base) : mg "holders" = some (.ref (He.ga K "holders")) := let ⟨_, X, G⟩ := S.kin; He.glo_ok X G (S.fact 43 (.glo "holders") rfl)
theorem g_is_text (S : Say K mg base) : mg "is_text" = some (.ref (He.ga K "is_text")) := let ⟨_, X, G⟩ := S.kin; He.glo_ok X G (S.fact 44 (.glo "is_text") rfl)
theorem g_hand_in (S : Say K mg base) : mg "hand_in" = some (.ref (He.ga K "hand_in")) := let ⟨_, X, G⟩ := S.kin; He.glo_ok X G (S.fact 45 (.glo "hand_in") rfl)
theorem g_put (S : Say K mg base) : mg "put" = some (.ref (He.ga K "put")) := let ⟨_, X, G⟩ := S.kin; He.glo_ok X G (S.fact 46 (.glo "put") rfl)
theorem g_forget (S : Say K mg base) : mg "forget" = some (.ref (He.ga K "forget")) := let ⟨_, X, G⟩ := S.kin; He.glo_ok X G (S.fact 47 (.glo "forget") rfl)
theorem g_get (S : Say K mg base) : mg "get" = some (.ref (He.ga K "get")) := let ⟨_, X, G⟩ := S.kin; He.glo_ok X G (S.fact 48 (.glo "get") rfl)
theorem g_settled (S : Say K mg base) : mg "settled" = some (.ref (He.ga K "settled")) := let ⟨_, X, G⟩ := S.kin; He.glo_ok X G (S.fact 49 (.glo "settled") rfl)
theorem g_settle (S : Say K mg base) : mg "settle" = some (.ref (He.ga K "settle")) := let ⟨_, X, G⟩ := S.kin; He.glo_ok X G (S.fact 50 (.glo "settle") rfl)
theorem g_source_of (S : Say K mg base) : mg "source_of" = some (.ref (He.ga K "source_of")) := let ⟨_, X, G⟩ := S.kin; He.glo_ok X G (S.fact 51 (.glo "source_of") rfl)
theorem g_notified (S : Say K mg base) : mg "notified" = some (.ref (He.ga K "notified")) := let ⟨_, X, G⟩ := S.kin; He.glo_ok X G (S.fact 52 (.glo "notified") rfl)
theorem g_steadied (S : Say K mg base) : mg "steadied" = some (.ref (He.ga K "steadied")) := let ⟨_, X, G⟩ := S.kin; He.glo_ok X G (S.fact 53 (.glo "steadied") rfl)
theorem g_refingered (S : Say K mg base) : mg "refingered" = some (.ref (He.ga K "refingered")) := let ⟨_, X, G⟩ := S.kin; He.glo_ok X G (S.fact 54 (.glo "refingered") rfl)
theorem g_stabilize (S : Say K mg base) : mg "stabilize" = some (.ref (He.ga K "stabilize")) := let ⟨_, X, G⟩ := S.kin; He.glo_ok X G (S.fact 55 (.glo "stabilize") rfl)
theorem g_fix (S : Say K mg base) : mg "fix" = some (.ref (He.ga K "fix")) := let ⟨_, X, G⟩ := S.kin; He.glo_ok X G (S.fact 56 (.glo "fix") rfl)
theorem g_is_order (S : Say K mg base) : mg "is_order" = some (.ref (He.ga K "is_order")) := let ⟨_, X, G⟩ := S.kin; He.glo_ok X G (S.fact 57 (.glo "is_order") rfl)
theorem g_mend (S : Say K mg base) : mg "mend" = some (.ref (He.ga K "mend")) := let ⟨_, X, G⟩ := S.kin; He.glo_ok X G (S.fact 58 (.glo "mend") rfl)
theorem g_join (S : Say K mg base) : mg "join" = some (.ref (He.ga K "join")) := let ⟨_, X, G⟩ := S.kin; He.glo_ok X G (S.fact 59 (.glo "join") rfl)
theorem g_want_loose (S : Say K mg base) : mg "want_loose" = some (.ref (He.ga K "want_loose")) := let ⟨_, X, G⟩ := S.kin; He.glo_ok X G (S.fact 60 (.glo "want_loose") rfl)
theorem g_member_before (S : Say K mg base) : mg "member_before" = some (.ref (He.ga K "member_before")) := let ⟨_, X, G⟩ := S.kin; He.glo_ok X G (S.fact 61 (.glo "member_before") rfl)
theorem g_chains_without (S : Say K mg base) : mg "chains_without" = some (.ref (He.ga K "chains_without")) := let ⟨_, X, G⟩ := S.kin; He.glo_ok X G (S.fact 62 (.glo "chains_without") rfl)
theorem g_want_company (S : Say K mg base) : mg "want_company" = some (.ref (He.ga K "want_company")) := let ⟨_, X, G⟩ := S.kin; He.glo_ok X G (S.fact 63 (.glo "want_company") rfl)
theorem g_is_kept_beside (S : Say K mg base) : mg "is_kept_beside" = some (.ref (He.ga K "is_kept_beside")) := let ⟨_, X, G⟩ := S.kin; He.glo_ok X G (S.fact 64 (.glo "is_kept_beside") rfl)
theorem g_want_kept (S : Say K mg base) : mg "want_kept" = some (.ref (He.ga K "want_kept")) := let ⟨_, X, G⟩ := S.kin; He.glo_ok X G (S.fact 65 (.glo "want_kept") rfl)
theorem g_crash (S : Say K mg base) : mg "crash" = some (.ref (He.ga K "crash")) := let ⟨_, X, G⟩ := S.kin; He.glo_ok X G (S.fact 66 (.glo "crash") rfl)
theorem g_hand_on (S : Say K mg base) : mg "hand_on" = some (.ref (He.ga K "hand_on")) := let ⟨_, X, G⟩ := S.kin; He.glo_ok X G (S.fact 67 (.glo "hand_on") rfl)
theorem g_leave (S : Say K mg base) : mg "leave" = some (.ref (He.ga K "leave")) := let ⟨_, X, G⟩ := S.kin; He.glo_ok X G (S.fact 68 (.glo "leave") rfl)
theorem g_law_cell (S : Say K mg base) : mg "_law_cell" = some (.ref (He.ga K "_law_cell")) := let ⟨_, X, G⟩ := S.kin; He.glo_ok X G (S.fact 69 (.glo "_law_cell") rfl)
theorem g_law_pot (S : Say K mg base) : mg "_law_pot" = some (.ref (He.ga K "_law_pot")) := let ⟨_, X, G⟩ := S.kin; He.glo_ok X G (S.fact 70 (.glo "_law_pot") rfl)
theorem g_law_take (S : Say K mg base) : mg "_law_take" = some (.ref (He.ga K "_law_take")) := let ⟨_, X, G⟩ := S.kin; He.glo_ok X G (S.fact 71 (.glo "_law_take") rfl)
theorem g_law_free (S : Say K mg base) : mg "_law_free" = some (.ref (He.ga K "_law_free")) := let ⟨_, X, G⟩ := S.kin; He.glo_ok X G (S.fact 72 (.glo "_law_free") rfl)
theorem g_law_ring (S : Say K mg base) : mg "_law_ring" = some (.ref (He.ga K "_law_ring")) := let ⟨_, X, G⟩ := S.kin; He.glo_ok X G (S.fact 73 (.glo "_law_ring") rfl)
theorem g_law_near (S : Say K mg base) : mg "_law_near" = some (.ref (He.ga K "_law_near")) := let ⟨_, X, G⟩ := S.kin; He.glo_ok X G (S.fact 74 (.glo "_law_near") rfl)
theorem g_law_member (S : Say K mg base) : mg "_law_member" = some (.ref (He.ga K "_law_member")) := let ⟨_, X, G⟩ := S.kin; He.glo_ok X G (S.fact 75 (.glo "_law_member") rfl)
theorem g_law_mixed (S : Say K mg base) : mg "_law_mixed" = some (.ref (He.ga K "_law_mixed")) := let ⟨_, X, G⟩ := S.kin; He.glo_ok X G (S.fact 76 (.glo "_law_mixed") rfl)
theorem g_law_granted (S : Say K mg base) : mg "_law_granted" = some (.ref (He.ga K "_law_granted")) := let ⟨_, X, G⟩ := S.kin; He.glo_ok X G (S.fact 77 (.glo "_law_granted") rfl)
theorem g_law_done (S : Say K mg base) : mg "_law_done" = some (.ref (He.ga K "_law_done")) := let ⟨_, X, G⟩ := S.kin; He.glo_ok X G (S.fact 78 (.glo "_law_done") rfl)
theorem g_law_history (S : Say K mg base) : mg "_law_history" = some (.ref (He.ga K "_law_history")) := let ⟨_, X, G⟩ := S.kin; He.glo_ok X G (S.fact 79 (.glo "_law_history") rfl)
theorem g_law_orders (S : Say K mg base) : mg "_law_orders" = some (.ref (He.ga K "_law_orders")) := let ⟨_, X, G⟩ := S.kin; He.glo_ok X G (S.fact 80 (.glo "_law_orders") rfl)
theorem g_law_links (S : Say K mg base) : mg "_law_links" = some (.ref (He.ga K "_law_links")) := let ⟨_, X, G⟩ := S.kin; He.glo_ok X G (S.fact 81 (.glo "_law_links") rfl)
theorem g_law_nearest (S : Say K mg base) : mg "_law_nearest" = some (.ref (He.ga K "_law_nearest")) := let ⟨_, X, G⟩ := S.kin; He.glo_ok X G (S.fact 82 (.glo "_law_nearest") rfl)
theorem g_law_fingers (S : Say K mg base) : mg "_law_fingers" = some (.ref (He.ga K "_law_fingers")) := let ⟨_, X, G⟩ := S.kin; He.glo_ok X G (S.fact 83 (.glo "_law_fingers") rfl)
theorem g_law_most (S : Say K mg base) : mg "_law_most" = some (.ref (He.ga K "_law_most")) := let ⟨_, X, G⟩ := S.kin; He.glo_ok X G (S.fact 84 (.glo "_law_most") rfl)
theorem g_law_near_right (S : Say K mg base) : mg "_law_near_right" = some (.ref (He.ga K "_law_near_right")) := let ⟨_, X, G⟩ := S.kin; He.glo_ok X G (S.fact 85 (.glo "_law_near_right") rfl)
theorem g_law_all_right (S : Say K mg base) : mg "_law_all_right" = some (.ref (He.ga K "_law_all_right")) := let ⟨_, X, G⟩ := S.kin; He.glo_ok X G (S.fact 86 (.glo "_law_all_right") rfl)
theorem g_law_got (S : Say K mg base) : mg "_law_got" = some (.ref (He.ga K "_law_got")) := let ⟨_, X, G⟩ := S.kin; He.glo_ok X G (S.fact 87 (.glo "_law_got") rfl)
theorem g_law (S : Say K mg base) : mg "law" = some (.ref (He.ga K "law")) := let ⟨_, X, G⟩ := S.kin; He.glo_ok X G (S.fact 88 (.glo "law") rfl)
theorem z_ValueError (S : Say K mg base) : mg "ValueError" = none := let ⟨_, X, G⟩ := S.kin; He.free_ok X G (S.fact 89 (.free "ValueError") rfl)
theorem z_abs (S : Say K mg base) : mg "abs" = none := let ⟨_, X, G⟩ := S.kin; He.free_ok X G (S.fact 90 (.free "abs") rfl)
theorem z_all (S : Say K mg base) : mg "all" = none := let ⟨_, X, G⟩ := S.kin; He.free_ok X G (S.fact 91 (.free "all") rfl)
theorem z_any (S : Say K mg base) : mg "any" = none := let ⟨_, X, G⟩ := S.kin; He.free_ok X G (S.fact 92 (.free "any") rfl)
theorem z_bool (S : Say K mg base) : mg "bool" = none := let ⟨_, X, G⟩ := S.kin; He.free_ok X G (S.fact 93 (.free "bool") rfl)
theorem z_divmod (S : Say K mg base) : mg "divmod" = none := let ⟨_, X, G⟩ := S.kin; He.free_ok X G (S.fact 94 (.free "divmod") rfl)
theorem z_enumerate (S : Say K mg base) : mg "enumerate" = none := let ⟨_, X, G⟩ := S.kin; He.free_ok X G (S.fact 95 (.free "enumerate") rfl)
theorem z_int (S : Say K mg base) : mg "int" = none := let ⟨_, X, G⟩ := S.kin; He.free_ok X G (S.fact 96 (.free "int") rfl)
theorem z_isinstance (S : Say K mg base) : mg "isinstance" = none := let ⟨_, X, G⟩ := S.kin; He.free_ok X G (S.fact 97 (.free "isinstance") rfl)
theorem z_len (S : Say K mg base) : mg "len" = none := let ⟨_, X, G⟩ := S.kin; He.free_ok X G (S.fact 98 (.free "len") rfl)
theorem z_list (S : Say K mg base) : mg "list" = none := let ⟨_, X, G⟩ := S.kin; He.free_ok X G (S.fact 99 (.free "list") rfl)
theorem z_max (S : Say K mg base) : mg "max" = none := let ⟨_, X, G⟩ := S.kin; He.free_ok X G (S.fact 100 (.free "max") rfl)
theorem z_min (S : Say K mg base) : mg "min" = none := let ⟨_, X, G⟩ := S.kin; He.free_ok X G (S.fact 101 (.free "min") rfl)
theorem z_range (S : Say K mg base) : mg "range" = none := let ⟨_, X, G⟩ := S.kin; He.free_ok X G (S.fact 102 (.free "range") rfl)
theorem z_set (S : Say K mg base) : mg "set" = none := let ⟨_, X, G⟩ := S.kin; He.free_ok X G (S.fact 103 (.free "set") rfl)
theorem z_sorted (S : Say K mg base) : mg "sorted" = none := let ⟨_, X, G⟩ := S.kin; He.free_ok X G (S.fact 104 (.free "sorted") rfl)
theorem z_str (S : Say K mg base) : mg "str" = none := let ⟨_, X, G⟩ := S.kin; He.free_ok X G (S.fact 105 (.free "str") rfl)
theorem z_sum (S : Say K mg base) : mg "sum" = none := let ⟨_, X, G⟩ := S.kin; He.free_ok X G (S.fact 106 (.free "sum") rfl)
theorem z_tuple (S : Say K mg base) : mg "tuple" = none := let ⟨_, X, G⟩ := S.kin; He.free_ok X G (S.fact 107 (.free "tuple") rfl)
theorem z_zip (S : Say K mg base) : mg "zip" = none := let ⟨_, X, G⟩ := S.kin; He.free_ok X G (S.fact 108 (.free "zip") rfl)
theorem c_Seeker (S : Say K mg base) : Cls K (He.ga K "Seeker") := He.cls_ok (S.fact 109 (.cls "Seeker") rfl)
theorem mk_Seeker (S : Say K mg base) : Mk K (He.ga K "Seeker") (He.ma K (He.ga K "Seeker") "__init__") := He.mkr_ok (S.fact 110 (.mkr "Seeker") rfl)
theorem n_Seeker_around (S : Say K mg base) : NoAttr K (He.ga K "Seeker") "around" := He.noat_ok (S.fact 111 (.noat "Seeker" "around") rfl)
theorem n_Seeker_sought (S : Say K mg base) : NoAttr K (He.ga K "Seeker") "sought" := He.noat_ok (S.fact 112 (.noat "Seeker" "sought") rfl)
theorem n_Seeker_trail (S : Say K mg base) : NoAttr K (He.ga K "Seeker") "trail" := He.noat_ok (S.fact 113 (.noat "Seeker" "trail") rfl)
theorem n_Seeker_returns (S : Say K mg base) : NoAttr K (He.ga K "Seeker") "returns" := He.noat_ok (S.fact 114 (.noat "Seeker" "returns") rfl)
theorem n_Seeker_goal (S : Say K mg base) : NoAttr K (He.ga K "Seeker") "goal" := He.noat_ok (S.fact 115 (.noat "Seeker" "goal") rfl)
theorem m_Seeker_init (S : Say K mg base) : Meth K (He.ga K "Seeker") "__init__" (He.ma K (He.ga K "Seeker") "__init__") := He.meth_ok (S.fact 116 (.meth "Seeker" "__init__") rfl)
theorem m_Seeker_step (S : Say K mg base) : Meth K (He.ga K "Seeker") "step" (He.ma K (He.ga K "Seeker") "step") := He.meth_ok (S.fact 117 (.meth "Seeker" "step") rfl)
theorem m_Seeker_go_on (S : Say K mg base) : Meth K (He.ga K "Seeker") "go_on" (He.ma K (He.ga K "Seeker") "go_on") := He.meth_ok (S.fact 118 (.meth "Seeker" "go_on") rfl)
theorem m_Seeker_go_back (S : Say K mg base) : Meth K (He.ga K "Seeker") "go_back" (He.ma K (He.ga K "Seeker") "go_back") := He.meth_ok (S.fact 119 (.meth "Seeker" "go_back") rfl)
theorem m_Seeker_go_upwards (S : Say K mg base) : Meth K (He.ga K "Seeker") "go_upwards" (He.ma K (He.ga K "Seeker") "go_upwards") := He.meth_ok (S.fact 120 (.meth "Seeker" "go_upwards") rfl)
theorem m_Seeker_at (S : Say K mg base) : Meth K (He.ga K "Seeker") "at" (He.ma K (He.ga K "Seeker") "at") := He.meth_ok (S.fact 121 (.meth "Seeker" "at") rfl)
theorem m_Seeker_way (S : Say K mg base) : Meth K (He.ga K "Seeker") "way" (He.ma K (He.ga K "Seeker") "way") := He.meth_ok (S.fact 122 (.meth "Seeker" "way") rfl)
theorem m_Seeker_answer (S : Say K mg base) : Meth K (He.ga K "Seeker") "answer" (He.ma K (He.ga K "Seeker") "answer") := He.meth_ok (S.fact 123 (.meth "Seeker" "answer") rfl)
theorem c_Found (S : Say K mg base) : Cls K (He.ga K "Found") := He.cls_ok (S.fact 124 (.cls "Found") rfl)
theorem mk_Found (S : Say K mg base) : Mk K (He.ga K "Found") (He.ma K (He.ga K "Found") "__init__") := He.mkr_ok (S.fact 125 (.mkr "Found") rfl)
theorem n_Found_trail (S : Say K mg base) : NoAttr K (He.ga K "Found") "trail" := He.noat_ok (S.fact 126 (.noat "Found" "trail") rfl)
theorem n_Found_goal (S : Say K mg base) : NoAttr K (He.ga K "Found") "goal" := He.noat_ok (S.fact 127 (.noat "Found" "goal") rfl)
theorem n_Found_reasons (S : Say K mg base) : NoAttr K (He.ga K "Found") "reasons" := He.noat_ok (S.fact 128 (.noat "Found" "reasons") rfl)
theorem m_Found_init (S : Say K mg base) : Meth K (He.ga K "Found") "__init__" (He.ma K (He.ga K "Found") "__init__") := He.meth_ok (S.fact 129 (.meth "Found" "__init__") rfl)
theorem m_Found_answer (S : Say K mg base) : Meth K (He.ga K "Found") "answer" (He.ma K (He.ga K "Found") "answer") := He.meth_ok (S.fact 130 (.meth "Found" "answer") rfl)
theorem c_Space (S : Say K mg base) : Cls K (He.ga K "Space") := He.cls_ok (S.fact 131 (.cls "Space") rfl)
theorem mk_Space (S : Say K mg base) : Mk K (He.ga K "Space") (He.ma K (He.ga K "Space") "__init__") := He.mkr_ok (S.fact 132 (.mkr "Space") rfl)
theorem n_Space_own_bits (S : Say K mg base) : NoAttr K (He.ga K "Space") "own_bits" := He.noat_ok (S.fact 133 (.noat "Space" "own_bits") rfl)
theorem m_Space_init (S : Say K mg base) : Meth K (He.ga K "Space") "__init__" (He.ma K (He.ga K "Space") "__init__") := He.meth_ok (S.fact 134 (.meth "Space" "__init__") rfl)
theorem m_Space_bits (S : Say K mg base) : Meth K (He.ga K "Space") "bits" (He.ma K (He.ga K "Space") "bits") := He.meth_ok (S.fact 135 (.meth "Space" "bits") rfl)
theorem m_Space_size (S : Say K mg base) : Meth K (He.ga K "Space") "size" (He.ma K (He.ga K "Space") "size") := He.meth_ok (S.fact 136 (.meth "Space" "size") rfl)
theorem m_Space_has (S : Say K mg base) : Meth K (He.ga K "Space") "has" (He.ma K (He.ga K "Space") "has") := He.meth_ok (S.fact 137 (.meth "Space" "has") rfl)
theorem m_Space_distance (S : Say K mg base) : Meth K (He.ga K "Space") "distance" (He.ma K (He.ga K "Space") "distance") := He.meth_ok (S.fact 138 (.meth "Space" "distance") rfl)
theorem m_Space_is_between (S : Say K mg base) : Meth K (He.ga K "Space") "is_between" (He.ma K (He.ga K "Space") "is_between") := He.meth_ok (S.fact 139 (.meth "Space" "is_between") rfl)
theorem m_Space_nearest (S : Say K mg base) : Meth K (He.ga K "Space") "nearest" (He.ma K (He.ga K "Space") "nearest") := He.meth_ok (S.fact 140 (.meth "Space" "nearest") rfl)
theorem m_Space_preceding (S : Say K mg base) : Meth K (He.ga K "Space") "preceding" (He.ma K (He.ga K "Space") "preceding") := He.meth_ok (S.fact 141 (.meth "Space" "preceding") rfl)
theorem c_Node (S : Say K mg base) : Cls K (He.ga K "Node") := He.cls_ok (S.fact 142 (.cls "Node") rfl)
theorem mk_Node (S : Say K mg base) : Mk K (He.ga K "Node") (He.ma K (He.ga K "Node") "__init__") := He.mkr_ok (S.fact 143 (.mkr "Node") rfl)
theorem n_Node_chain (S : Say K mg base) : NoAttr K (He.ga K "Node") "chain" := He.noat_ok (S.fact 144 (.noat "Node" "chain") rfl)
theorem n_Node_prior (S : Say K mg base) : NoAttr K (He.ga K "Node") "prior" := He.noat_ok (S.fact 145 (.noat "Node" "prior") rfl)
theorem n_Node_far (S : Say K mg base) : NoAttr K (He.ga K "Node") "far" := He.noat_ok (S.fact 146 (.noat "Node" "far") rfl)
theorem n_Node_things (S : Say K mg base) : NoAttr K (He.ga K "Node") "things" := He.noat_ok (S.fact 147 (.noat "Node" "things") rfl)
theorem m_Node_init (S : Say K mg base) : Meth K (He.ga K "Node") "__init__" (He.ma K (He.ga K "Node") "__init__") := He.meth_ok (S.fact 148 (.meth "Node" "__init__") rfl)
theorem c_Ring (S : Say K mg base) : Cls K (He.ga K "Ring") := He.cls_ok (S.fact 149 (.cls "Ring") rfl)
theorem mk_Ring (S : Say K mg base) : Mk K (He.ga K "Ring") (He.ma K (He.ga K "Ring") "__init__") := He.mkr_ok (S.fact 150 (.mkr "Ring") rfl)
theorem n_Ring_circle (S : Say K mg base) : NoAttr K (He.ga K "Ring") "circle" := He.noat_ok (S.fact 151 (.noat "Ring" "circle") rfl)
theorem n_Ring_many (S : Say K mg base) : NoAttr K (He.ga K "Ring") "many" := He.noat_ok (S.fact 152 (.noat "Ring" "many") rfl)
theorem n_Ring_fixed (S : Say K mg base) : NoAttr K (He.ga K "Ring") "fixed" := He.noat_ok (S.fact 153 (.noat "Ring" "fixed") rfl)
theorem n_Ring_nodes (S : Say K mg base) : NoAttr K (He.ga K "Ring") "nodes" := He.noat_ok (S.fact 154 (.noat "Ring" "nodes") rfl)
theorem n_Ring_stamps (S : Say K mg base) : NoAttr K (He.ga K "Ring") "stamps" := He.noat_ok (S.fact 155 (.noat "Ring" "stamps") rfl)
theorem n_Ring_done (S : Say K mg base) : NoAttr K (He.ga K "Ring") "done" := He.noat_ok (S.fact 156 (.noat "Ring" "done") rfl)
theorem m_Ring_init (S : Say K mg base) : Meth K (He.ga K "Ring") "__init__" (He.ma K (He.ga K "Ring") "__init__") := He.meth_ok (S.fact 157 (.meth "Ring" "__init__") rfl)
theorem m_Ring_space (S : Say K mg base) : Meth K (He.ga K "Ring") "space" (He.ma K (He.ga K "Ring") "space") := He.meth_ok (S.fact 158 (.meth "Ring" "space") rfl)
theorem m_Ring_length (S : Say K mg base) : Meth K (He.ga K "Ring") "length" (He.ma K (He.ga K "Ring") "length") := He.meth_ok (S.fact 159 (.meth "Ring" "length") rfl)
theorem m_Ring_base (S : Say K mg base) : Meth K (He.ga K "Ring") "base" (He.ma K (He.ga K "Ring") "base") := He.meth_ok (S.fact 160 (.meth "Ring" "base") rfl)
theorem m_Ring_members (S : Say K mg base) : Meth K (He.ga K "Ring") "members" (He.ma K (He.ga K "Ring") "members") := He.meth_ok (S.fact 161 (.meth "Ring" "members") rfl)
theorem m_Ring_is_member (S : Say K mg base) : Meth K (He.ga K "Ring") "is_member" (He.ma K (He.ga K "Ring") "is_member") := He.meth_ok (S.fact 162 (.meth "Ring" "is_member") rfl)
theorem m_Ring_want_point (S : Say K mg base) : Meth K (He.ga K "Ring") "want_point" (He.ma K (He.ga K "Ring") "want_point") := He.meth_ok (S.fact 163 (.meth "Ring" "want_point") rfl)
theorem m_Ring_node (S : Say K mg base) : Meth K (He.ga K "Ring") "node" (He.ma K (He.ga K "Ring") "node") := He.meth_ok (S.fact 164 (.meth "Ring" "node") rfl)
theorem m_Ring_links (S : Say K mg base) : Meth K (He.ga K "Ring") "links" (He.ma K (He.ga K "Ring") "links") := He.meth_ok (S.fact 165 (.meth "Ring" "links") rfl)
theorem m_Ring_next_of (S : Say K mg base) : Meth K (He.ga K "Ring") "next_of" (He.ma K (He.ga K "Ring") "next_of") := He.meth_ok (S.fact 166 (.meth "Ring" "next_of") rfl)
theorem m_Ring_before (S : Say K mg base) : Meth K (He.ga K "Ring") "before" (He.ma K (He.ga K "Ring") "before") := He.meth_ok (S.fact 167 (.meth "Ring" "before") rfl)
theorem m_Ring_fingers (S : Say K mg base) : Meth K (He.ga K "Ring") "fingers" (He.ma K (He.ga K "Ring") "fingers") := He.meth_ok (S.fact 168 (.meth "Ring" "fingers") rfl)
theorem m_Ring_kept (S : Say K mg base) : Meth K (He.ga K "Ring") "kept" (He.ma K (He.ga K "Ring") "kept") := He.meth_ok (S.fact 169 (.meth "Ring" "kept") rfl)
theorem m_Ring_enter (S : Say K mg base) : Meth K (He.ga K "Ring") "enter" (He.ma K (He.ga K "Ring") "enter") := He.meth_ok (S.fact 170 (.meth "Ring" "enter") rfl)
theorem m_Ring_vanish (S : Say K mg base) : Meth K (He.ga K "Ring") "vanish" (He.ma K (He.ga K "Ring") "vanish") := He.meth_ok (S.fact 171 (.meth "Ring" "vanish") rfl)
theorem m_Ring_offer (S : Say K mg base) : Meth K (He.ga K "Ring") "offer" (He.ma K (He.ga K "Ring") "offer") := He.meth_ok (S.fact 172 (.meth "Ring" "offer") rfl)
theorem m_Ring_let_go (S : Say K mg base) : Meth K (He.ga K "Ring") "let_go" (He.ma K (He.ga K "Ring") "let_go") := He.meth_ok (S.fact 173 (.meth "Ring" "let_go") rfl)
theorem m_Ring_new_stamp (S : Say K mg base) : Meth K (He.ga K "Ring") "new_stamp" (He.ma K (He.ga K "Ring") "new_stamp") := He.meth_ok (S.fact 174 (.meth "Ring" "new_stamp") rfl)
theorem m_Ring_newest_stamp (S : Say K mg base) : Meth K (He.ga K "Ring") "newest_stamp" (He.ma K (He.ga K "Ring") "newest_stamp") := He.meth_ok (S.fact 175 (.meth "Ring" "newest_stamp") rfl)
theorem m_Ring_note (S : Say K mg base) : Meth K (He.ga K "Ring") "note" (He.ma K (He.ga K "Ring") "note") := He.meth_ok (S.fact 176 (.meth "Ring" "note") rfl)
theorem F_NoRing_init (S : Say K mg base) : FunD K "__init__" "NoRing.__init__" (defArgs s_NoRing_init) (defBody s_NoRing_init) (defScope s_NoRing_init) [] [] (He.ma K (He.ga K "NoRing") "__init__") (fdO K ("NoRing", some "__init__")) := S.def_ 0 d_NoRing_init rfl
theorem F_NoMember_init (S : Say K mg base) : FunD K "__init__" "NoMember.__init__" (defArgs s_NoMember_init) (defBody s_NoMember_init) (defScope s_NoMember_init) [] [] (He.ma K (He.ga K "NoMember") "__init__") (fdO K ("NoMember", some "__init__")) := S.def_ 1 d_NoMember_init rfl
theorem F_Taken_init (S : Say K mg base) : FunD K "__init__" "Taken.__init__" (defArgs s_Taken_init) (defBody s_Taken_init) (defScope s_Taken_init) [] [] (He.ma K (He.ga K "Taken") "__init__") (fdO K ("Taken", some "__init__")) := S.def_ 2 d_Taken_init rfl
theorem F_Fixed_init (S : Say K mg base) : FunD K "__init__" "Fixed.__init__" (defArgs s_Fixed_init) (defBody s_Fixed_init) (defScope s_Fixed_init) [] [] (He.ma K (He.ga K "Fixed") "__init__") (fdO K ("Fixed", some "__init__")) := S.def_ 3 d_Fixed_init rfl
theorem F_Alone_init (S : Say K mg base) : FunD K "__init__" "Alone.__init__" (defArgs s_Alone_init) (defBody s_Alone_init) (defScope s_Alone_init) [] [] (He.ma K (He.ga K "Alone") "__init__") (fdO K ("Alone", some "__init__")) := S.def_ 4 d_Alone_init rfl
theorem F_LastOne_init (S : Say K mg base) : FunD K "__init__" "LastOne.__init__" (defArgs s_LastOne_init) (defBody s_LastOne_init) (defScope s_LastOne_init) [] [] (He.ma K (He.ga K "LastOne") "__init__") (fdO K ("LastOne", some "__init__")) := S.def_ 5 d_LastOne_init rfl
theorem F_TooFar_init (S : Say K mg base) : FunD K "__init__" "TooFar.__init__" (defArgs s_TooFar_init) (defBody s_TooFar_init) (defScope s_TooFar_init) [] [] (He.ma K (He.ga K "TooFar") "__init__") (fdO K ("TooFar", some "__init__")) := S.def_ 6 d_TooFar_init rfl
theorem F_NoValue_init (S : Say K mg base) : FunD K "__init__" "NoValue.__init__" (defArgs s_NoValue_init) (defBody s_NoValue_init) (defScope s_NoValue_init) [] [] (He.ma K (He.ga K "NoValue") "__init__") (fdO K ("NoValue", some "__init__")) := S.def_ 7 d_NoValue_init rfl
theorem F_first_of (S : Say K mg base) : FunD K "first_of" "first_of" (defArgs s_first_of) (defBody s_first_of) (defScope s_first_of) [] [] (He.ga K "first_of") (fdO K ("first_of", none)) := S.def_ 8 d_first_of rfl
theorem F_adopted (S : Say K mg base) : FunD K "adopted" "adopted" (defArgs s_adopted) (defBody s_adopted) (defScope s_adopted) [] [] (He.ga K "adopted") (fdO K ("adopted", none)) := S.def_ 9 d_adopted rfl
theorem F_spliced (S : Say K mg base) : FunD K "spliced" "spliced" (defArgs s_spliced) (defBody s_spliced) (defScope s_spliced) [] [] (He.ga K "spliced") (fdO K ("spliced", none)) := S.def_ 10 d_spliced rfl
theorem F_farthest (S : Say K mg base) : FunD K "farthest" "farthest" (defArgs s_farthest) (defBody s_farthest) (defScope s_farthest) [] [] (He.ga K "farthest") (fdO K ("farthest", none)) := S.def_ 11 d_farthest rfl
theorem F_known_by (S : Say K mg base) : FunD K "known_by" "known_by" (defArgs s_known_by) (defBody s_known_by) (defScope s_known_by) [] [] (He.ga K "known_by") (fdO K ("known_by", none)) := S.def_ 12 d_known_by rfl
theorem F_Seeker_init (S : Say K mg base) : FunD K "__init__" "Seeker.__init__" (defArgs s_Seeker_init) (defBody s_Seeker_init) (defScope s_Seeker_init) [] [] (He.ma K (He.ga K "Seeker") "__init__") (fdO K ("Seeker", some "__init__")) := S.def_ 13 d_Seeker_init rfl
theorem F_Seeker_step (S : Say K mg base) : FunD K "step" "Seeker.step" (defArgs s_Seeker_step) (defBody s_Seeker_step) (defScope s_Seeker_step) [] [] (He.ma K (He.ga K "Seeker") "step") (fdO K ("Seeker", some "step")) := S.def_ 14 d_Seeker_step rfl
theorem F_Seeker_go_on (S : Say K mg base) : FunD K "go_on" "Seeker.go_on" (defArgs s_Seeker_go_on) (defBody s_Seeker_go_on) (defScope s_Seeker_go_on) [] [] (He.ma K (He.ga K "Seeker") "go_on") (fdO K ("Seeker", some "go_on")) := S.def_ 15 d_Seeker_go_on rfl
theorem F_Seeker_go_back (S : Say K mg base) : FunD K "go_back" "Seeker.go_back" (defArgs s_Seeker_go_back) (defBody s_Seeker_go_back) (defScope s_Seeker_go_back) [] [] (He.ma K (He.ga K "Seeker") "go_back") (fdO K ("Seeker", some "go_back")) := S.def_ 16 d_Seeker_go_back rfl
theorem F_Seeker_go_upwards (S : Say K mg base) : FunD K "go_upwards" "Seeker.go_upwards" (defArgs s_Seeker_go_upwards) (defBody s_Seeker_go_upwards) (defScope s_Seeker_go_upwards) [] [] (He.ma K (He.ga K "Seeker") "go_upwards") (fdO K ("Seeker", some "go_upwards")) := S.def_ 17 d_Seeker_go_upwards rfl
theorem F_Seeker_at (S : Say K mg base) : FunD K "at" "Seeker.at" (defArgs s_Seeker_at) (defBody s_Seeker_at) (defScope s_Seeker_at) [] [] (He.ma K (He.ga K "Seeker") "at") (fdO K ("Seeker", some "at")) := S.def_ 18 d_Seeker_at rfl
theorem F_Seeker_way (S : Say K mg base) : FunD K "way" "Seeker.way" (defArgs s_Seeker_way) (defBody s_Seeker_way) (defScope s_Seeker_way) [] [] (He.ma K (He.ga K "Seeker") "way") (fdO K ("Seeker", some "way")) := S.def_ 19 d_Seeker_way rfl
theorem F_Seeker_answer (S : Say K mg base) : FunD K "answer" "Seeker.answer" (defArgs s_Seeker_answer) (defBody s_Seeker_answer) (defScope s_Seeker_answer) [] [] (He.ma K (He.ga K "Seeker") "answer") (fdO K ("Seeker", some "answer")) := S.def_ 20 d_Seeker_answer rfl
theorem F_Found_init (S : Say K mg base) : FunD K "__init__" "Found.__init__" (defArgs s_Found_init) (defBody s_Found_init) (defScope s_Found_init) [] [] (He.ma K (He.ga K "Found") "__init__") (fdO K ("Found", some "__init__")) := S.def_ 21 d_Found_init rfl
theorem F_Found_answer (S : Say K mg base) : FunD K "answer" "Found.answer" (defArgs s_Found_answer) (defBody s_Found_answer) (defScope s_Found_answer) [] [] (He.ma K (He.ga K "Found") "answer") (fdO K ("Found", some "answer")) := S.def_ 22 d_Found_answer rfl
theorem F_look (S : Say K mg base) : FunD K "look" "look" (defArgs s_look) (defBody s_look) (defScope s_look) [] [("within", V.non)] (He.ga K "look") (fdO K ("look", none)) := S.def_ 23 d_look rfl
theorem F_is_whole (S : Say K mg base) : FunD K "is_whole" "is_whole" (defArgs s_is_whole) (defBody s_is_whole) (defScope s_is_whole) [] [] (He.ga K "is_whole") (fdO K ("is_whole", none)) := S.def_ 24 d_is_whole rfl
theorem F_Space_init (S : Say K mg base) : FunD K "__init__" "Space.__init__" (defArgs s_Space_init) (defBody s_Space_init) (defScope s_Space_init) [V.int 8] [] (He.ma K (He.ga K "Space") "__init__") (fdO K ("Space", some "__init__")) := S.def_ 25 d_Space_init rfl
theorem F_Space_bits (S : Say K mg base) : FunD K "bits" "Space.bits" (defArgs s_Space_bits) (defBody s_Space_bits) (defScope s_Space_bits) [] [] (He.ma K (He.ga K "Space") "bits") (fdO K ("Space", some "bits")) := S.def_ 26 d_Space_bits rfl
theorem F_Space_size (S : Say K mg base) : FunD K "size" "Space.size" (defArgs s_Space_size) (defBody s_Space_size) (defScope s_Space_size) [] [] (He.ma K (He.ga K "Space") "size") (fdO K ("Space", some "size")) := S.def_ 27 d_Space_size rfl
theorem F_Space_has (S : Say K mg base) : FunD K "has" "Space.has" (defArgs s_Space_has) (defBody s_Space_has) (defScope s_Space_has) [] [] (He.ma K (He.ga K "Space") "has") (fdO K ("Space", some "has")) := S.def_ 28 d_Space_has rfl
theorem F_Space_distance (S : Say K mg base) : FunD K "distance" "Space.distance" (defArgs s_Space_distance) (defBody s_Space_distance) (defScope s_Space_distance) [] [] (He.ma K (He.ga K "Space") "distance") (fdO K ("Space", some "distance")) := S.def_ 29 d_Space_distance rfl
theorem F_Space_is_between (S : Say K mg base) : FunD K "is_between" "Space.is_between" (defArgs s_Space_is_between) (defBody s_Space_is_between) (defScope s_Space_is_between) [] [] (He.ma K (He.ga K "Space") "is_between") (fdO K ("Space", some "is_between")) := S.def_ 30 d_Space_is_between rfl
theorem F_Space_nearest (S : Say K mg base) : FunD K "nearest" "Space.nearest" (defArgs s_Space_nearest) (defBody s_Space_nearest) (defScope s_Space_nearest) [] [] (He.ma K (He.ga K "Space") "nearest") (fdO K ("Space", some "nearest")) := S.def_ 31 d_Space_nearest rfl
theorem F_Space_preceding (S : Say K mg base) : FunD K "preceding" "Space.preceding" (defArgs s_Space_preceding) (defBody s_Space_preceding) (defScope s_Space_preceding) [] [] (He.ma K (He.ga K "Space") "preceding") (fdO K ("Space", some "preceding")) := S.def_ 32 d_Space_preceding rfl
theorem F_Node_init (S : Say K mg base) : FunD K "__init__" "Node.__init__" (defArgs s_Node_init) (defBody s_Node_init) (defScope s_Node_init) [] [] (He.ma K (He.ga K "Node") "__init__") (fdO K ("Node", some "__init__")) := S.def_ 33 d_Node_init rfl
theorem F_upwards (S : Say K mg base) : FunD K "upwards" "upwards" (defArgs s_upwards) (defBody s_upwards) (defScope s_upwards) [] [] (He.ga K "upwards") (fdO K ("upwards", none)) := S.def_ 34 d_upwards rfl
theorem F_others_upwards (S : Say K mg base) : FunD K "others_upwards" "others_upwards" (defArgs s_others_upwards) (defBody s_others_upwards) (defScope s_others_upwards) [] [] (He.ga K "others_upwards") (fdO K ("others_upwards", none)) := S.def_ 35 d_others_upwards rfl
theorem F_far_point (S : Say K mg base) : FunD K "far_point" "far_point" (defArgs s_far_point) (defBody s_far_point) (defScope s_far_point) [] [] (He.ga K "far_point") (fdO K ("far_point", none)) := S.def_ 36 d_far_point rfl
theorem F_right_chain (S : Say K mg base) : FunD K "right_chain" "right_chain" (defArgs s_right_chain) (defBody s_right_chain) (defScope s_right_chain) [] [] (He.ga K "right_chain") (fdO K ("right_chain", none)) := S.def_ 37 d_right_chain rfl
theorem F_right_far (S : Say K mg base) : FunD K "right_far" "right_far" (defArgs s_right_far) (defBody s_right_far) (defScope s_right_far) [] [] (He.ga K "right_far") (fdO K ("right_far", none)) := S.def_ 38 d_right_far rfl
theorem F_right_node (S : Say K mg base) : FunD K "right_node" "right_node" (defArgs s_right_node) (defBody s_right_node) (defScope s_right_node) [] [] (He.ga K "right_node") (fdO K ("right_node", none)) := S.def_ 39 d_right_node rfl
theorem F_is_length (S : Say K mg base) : FunD K "is_length" "is_length" (defArgs s_is_length) (defBody s_is_length) (defScope s_is_length) [] [] (He.ga K "is_length") (fdO K ("is_length", none)) := S.def_ 40 d_is_length rfl
theorem F_are_base (S : Say K mg base) : FunD K "are_base" "are_base" (defArgs s_are_base) (defBody s_are_base) (defScope s_are_base) [] [] (He.ga K "are_base") (fdO K ("are_base", none)) := S.def_ 41 d_are_base rfl
theorem F_space_of (S : Say K mg base) : FunD K "space_of" "space_of" (defArgs s_space_of) (defBody s_space_of) (defScope s_space_of) [] [] (He.ga K "space_of") (fdO K ("space_of", none)) := S.def_ 42 d_space_of rfl
theorem F_Ring_init (S : Say K mg base) : FunD K "__init__" "Ring.__init__" (defArgs s_Ring_init) (defBody s_Ring_init) (defScope s_Ring_init) [] [("bits", V.int 8), ("length", V.int 2)] (He.ma K (He.ga K "Ring") "__init__") (fdO K ("Ring", some "__init__")) := S.def_ 43 d_Ring_init rfl
theorem F_Ring_space (S : Say K mg base) : FunD K "space" "Ring.space" (defArgs s_Ring_space) (defBody s_Ring_space) (defScope s_Ring_space) [] [] (He.ma K (He.ga K "Ring") "space") (fdO K ("Ring", some "space")) := S.def_ 44 d_Ring_space rfl
theorem F_Ring_length (S : Say K mg base) : FunD K "length" "Ring.length" (defArgs s_Ring_length) (defBody s_Ring_length) (defScope s_Ring_length) [] [] (He.ma K (He.ga K "Ring") "length") (fdO K ("Ring", some "length")) := S.def_ 45 d_Ring_length rfl
theorem F_Ring_base (S : Say K mg base) : FunD K "base" "Ring.base" (defArgs s_Ring_base) (defBody s_Ring_base) (defScope s_Ring_base) [] [] (He.ma K (He.ga K "Ring") "base") (fdO K ("Ring", some "base")) := S.def_ 46 d_Ring_base rfl
theorem F_Ring_members (S : Say K mg base) : FunD K "members" "Ring.members" (defArgs s_Ring_members) (defBody s_Ring_members) (defScope s_Ring_members) [] [] (He.ma K (He.ga K "Ring") "members") (fdO K ("Ring", some "members")) := S.def_ 47 d_Ring_members rfl
theorem F_Ring_is_member (S : Say K mg base) : FunD K "is_member" "Ring.is_member" (defArgs s_Ring_is_member) (defBody s_Ring_is_member) (defScope s_Ring_is_member) [] [] (He.ma K (He.ga K "Ring") "is_member") (fdO K ("Ring", some "is_member")) := S.def_ 48 d_Ring_is_member rfl
theorem F_Ring_want_point (S : Say K mg base) : FunD K "want_point" "Ring.want_point" (defArgs s_Ring_want_point) (defBody s_Ring_want_point) (defScope s_Ring_want_point) [] [] (He.ma K (He.ga K "Ring") "want_point") (fdO K ("Ring", some "want_point")) := S.def_ 49 d_Ring_want_point rfl
theorem F_Ring_node (S : Say K mg base) : FunD K "node" "Ring.node" (defArgs s_Ring_node) (defBody s_Ring_node) (defScope s_Ring_node) [] [] (He.ma K (He.ga K "Ring") "node") (fdO K ("Ring", some "node")) := S.def_ 50 d_Ring_node rfl
theorem F_Ring_links (S : Say K mg base) : FunD K "links" "Ring.links" (defArgs s_Ring_links) (defBody s_Ring_links) (defScope s_Ring_links) [] [] (He.ma K (He.ga K "Ring") "links") (fdO K ("Ring", some "links")) := S.def_ 51 d_Ring_links rfl
theorem F_Ring_next_of (S : Say K mg base) : FunD K "next_of" "Ring.next_of" (defArgs s_Ring_next_of) (defBody s_Ring_next_of) (defScope s_Ring_next_of) [] [] (He.ma K (He.ga K "Ring") "next_of") (fdO K ("Ring", some "next_of")) := S.def_ 52 d_Ring_next_of rfl
theorem F_Ring_before (S : Say K mg base) : FunD K "before" "Ring.before" (defArgs s_Ring_before) (defBody s_Ring_before) (defScope s_Ring_before) [] [] (He.ma K (He.ga K "Ring") "before") (fdO K ("Ring", some "before")) := S.def_ 53 d_Ring_before rfl
theorem F_Ring_fingers (S : Say K mg base) : FunD K "fingers" "Ring.fingers" (defArgs s_Ring_fingers) (defBody s_Ring_fingers) (defScope s_Ring_fingers) [] [] (He.ma K (He.ga K "Ring") "fingers") (fdO K ("Ring", some "fingers")) := S.def_ 54 d_Ring_fingers rfl
theorem F_Ring_kept (S : Say K mg base) : FunD K "kept" "Ring.kept" (defArgs s_Ring_kept) (defBody s_Ring_kept) (defScope s_Ring_kept) [] [] (He.ma K (He.ga K "Ring") "kept") (fdO K ("Ring", some "kept")) := S.def_ 55 d_Ring_kept rfl
theorem F_Ring_enter (S : Say K mg base) : FunD K "enter" "Ring.enter" (defArgs s_Ring_enter) (defBody s_Ring_enter) (defScope s_Ring_enter) [] [] (He.ma K (He.ga K "Ring") "enter") (fdO K ("Ring", some "enter")) := S.def_ 56 d_Ring_enter rfl
theorem F_Ring_vanish (S : Say K mg base) : FunD K "vanish" "Ring.vanish" (defArgs s_Ring_vanish) (defBody s_Ring_vanish) (defScope s_Ring_vanish) [] [] (He.ma K (He.ga K "Ring") "vanish") (fdO K ("Ring", some "vanish")) := S.def_ 57 d_Ring_vanish rfl
theorem F_Ring_offer (S : Say K mg base) : FunD K "offer" "Ring.offer" (defArgs s_Ring_offer) (defBody s_Ring_offer) (defScope s_Ring_offer) [] [] (He.ma K (He.ga K "Ring") "offer") (fdO K ("Ring", some "offer")) := S.def_ 58 d_Ring_offer rfl
theorem F_Ring_let_go (S : Say K mg base) : FunD K "let_go" "Ring.let_go" (defArgs s_Ring_let_go) (defBody s_Ring_let_go) (defScope s_Ring_let_go) [] [] (He.ma K (He.ga K "Ring") "let_go") (fdO K ("Ring", some "let_go")) := S.def_ 59 d_Ring_let_go rfl
theorem F_Ring_new_stamp (S : Say K mg base) : FunD K "new_stamp" "Ring.new_stamp" (defArgs s_Ring_new_stamp) (defBody s_Ring_new_stamp) (defScope s_Ring_new_stamp) [] [] (He.ma K (He.ga K "Ring") "new_stamp") (fdO K ("Ring", some "new_stamp")) := S.def_ 60 d_Ring_new_stamp rfl
theorem F_Ring_newest_stamp (S : Say K mg base) : FunD K "newest_stamp" "Ring.newest_stamp" (defArgs s_Ring_newest_stamp) (defBody s_Ring_newest_stamp) (defScope s_Ring_newest_stamp) [] [] (He.ma K (He.ga K "Ring") "newest_stamp") (fdO K ("Ring", some "newest_stamp")) := S.def_ 61 d_Ring_newest_stamp rfl
theorem F_Ring_note (S : Say K mg base) : FunD K "note" "Ring.note" (defArgs s_Ring_note) (defBody s_Ring_note) (defScope s_Ring_note) [] [] (He.ma K (He.ga K "Ring") "note") (fdO K ("Ring", some "note")) := S.def_ 62 d_Ring_note rfl
theorem F_holders (S : Say K mg base) : FunD K "holders" "holders" (defArgs s_holders) (defBody s_holders) (defScope s_holders) [] [] (He.ga K "holders") (fdO K ("holders", none)) := S.def_ 63 d_holders rfl
theorem F_is_text (S : Say K mg base) : FunD K "is_text" "is_text" (defArgs s_is_text) (defBody s_is_text) (defScope s_is_text) [] [] (He.ga K "is_text") (fdO K ("is_text", none)) := S.def_ 64 d_is_text rfl
theorem F_hand_in (S : Say K mg base) : FunD K "hand_in" "hand_in" (defArgs s_hand_in) (defBody s_hand_in) (defScope s_hand_in) [] [] (He.ga K "hand_in") (fdO K ("hand_in", none)) := S.def_ 65 d_hand_in rfl
theorem F_put (S : Say K mg base) : FunD K "put" "put" (defArgs s_put) (defBody s_put) (defScope s_put) [] [] (He.ga K "put") (fdO K ("put", none)) := S.def_ 66 d_put rfl
theorem F_forget (S : Say K mg base) : FunD K "forget" "forget" (defArgs s_forget) (defBody s_forget) (defScope s_forget) [] [] (He.ga K "forget") (fdO K ("forget", none)) := S.def_ 67 d_forget rfl
theorem F_get (S : Say K mg base) : FunD K "get" "get" (defArgs s_get) (defBody s_get) (defScope s_get) [] [] (He.ga K "get") (fdO K ("get", none)) := S.def_ 68 d_get rfl
theorem F_settled (S : Say K mg base) : FunD K "settled" "settled" (defArgs s_settled) (defBody s_settled) (defScope s_settled) [] [] (He.ga K "settled") (fdO K ("settled", none)) := S.def_ 69 d_settled rfl
theorem F_settle (S : Say K mg base) : FunD K "settle" "settle" (defArgs s_settle) (defBody s_settle) (defScope s_settle) [] [] (He.ga K "settle") (fdO K ("settle", none)) := S.def_ 70 d_settle rfl
theorem F_source_of (S : Say K mg base) : FunD K "source_of" "source_of" (defArgs s_source_of) (defBody s_source_of) (defScope s_source_of) [] [] (He.ga K "source_of") (fdO K ("source_of", none)) := S.def_ 71 d_source_of rfl
theorem F_notified (S : Say K mg base) : FunD K "notified" "notified" (defArgs s_notified) (defBody s_notified) (defScope s_notified) [] [] (He.ga K "notified") (fdO K ("notified", none)) := S.def_ 72 d_notified rfl
theorem F_steadied (S : Say K mg base) : FunD K "steadied" "steadied" (defArgs s_steadied) (defBody s_steadied) (defScope s_steadied) [] [] (He.ga K "steadied") (fdO K ("steadied", none)) := S.def_ 73 d_steadied rfl
theorem F_refingered (S : Say K mg base) : FunD K "refingered" "refingered" (defArgs s_refingered) (defBody s_refingered) (defScope s_refingered) [] [] (He.ga K "refingered") (fdO K ("refingered", none)) := S.def_ 74 d_refingered rfl
theorem F_stabilize (S : Say K mg base) : FunD K "stabilize" "stabilize" (defArgs s_stabilize) (defBody s_stabilize) (defScope s_stabilize) [] [] (He.ga K "stabilize") (fdO K ("stabilize", none)) := S.def_ 75 d_stabilize rfl
theorem F_fix (S : Say K mg base) : FunD K "fix" "fix" (defArgs s_fix) (defBody s_fix) (defScope s_fix) [] [] (He.ga K "fix") (fdO K ("fix", none)) := S.def_ 76 d_fix rfl
theorem F_is_order (S : Say K mg base) : FunD K "is_order" "is_order" (defArgs s_is_order) (defBody s_is_order) (defScope s_is_order) [] [] (He.ga K "is_order") (fdO K ("is_order", none)) := S.def_ 77 d_is_order rfl
theorem F_mend (S : Say K mg base) : FunD K "mend" "mend" (defArgs s_mend) (defBody s_mend) (defScope s_mend) [] [("order", V.non)] (He.ga K "mend") (fdO K ("mend", none)) := S.def_ 78 d_mend rfl
theorem F_join (S : Say K mg base) : FunD K "join" "join" (defArgs s_join) (defBody s_join) (defScope s_join) [] [] (He.ga K "join") (fdO K ("join", none)) := S.def_ 79 d_join rfl
theorem F_want_loose (S : Say K mg base) : FunD K "want_loose" "want_loose" (defArgs s_want_loose) (defBody s_want_loose) (defScope s_want_loose) [] [] (He.ga K "want_loose") (fdO K ("want_loose", none)) := S.def_ 80 d_want_loose rfl
theorem F_member_before (S : Say K mg base) : FunD K "member_before" "member_before" (defArgs s_member_before) (defBody s_member_before) (defScope s_member_before) [] [] (He.ga K "member_before") (fdO K ("member_before", none)) := S.def_ 81 d_member_before rfl
theorem F_chains_without (S : Say K mg base) : FunD K "chains_without" "chains_without" (defArgs s_chains_without) (defBody s_chains_without) (defScope s_chains_without) [] [] (He.ga K "chains_without") (fdO K ("chains_without", none)) := S.def_ 82 d_chains_without rfl
theorem F_want_company (S : Say K mg base) : FunD K "want_company" "want_company" (defArgs s_want_company) (defBody s_want_company) (defScope s_want_company) [] [] (He.ga K "want_company") (fdO K ("want_company", none)) := S.def_ 83 d_want_company rfl
theorem F_is_kept_beside (S : Say K mg base) : FunD K "is_kept_beside" "is_kept_beside" (defArgs s_is_kept_beside) (defBody s_is_kept_beside) (defScope s_is_kept_beside) [] [] (He.ga K "is_kept_beside") (fdO K ("is_kept_beside", none)) := S.def_ 84 d_is_kept_beside rfl
theorem F_want_kept (S : Say K mg base) : FunD K "want_kept" "want_kept" (defArgs s_want_kept) (defBody s_want_kept) (defScope s_want_kept) [] [] (He.ga K "want_kept") (fdO K ("want_kept", none)) := S.def_ 85 d_want_kept rfl
theorem F_crash (S : Say K mg base) : FunD K "crash" "crash" (defArgs s_crash) (defBody s_crash) (defScope s_crash) [] [] (He.ga K "crash") (fdO K ("crash", none)) := S.def_ 86 d_crash rfl
theorem F_hand_on (S : Say K mg base) : FunD K "hand_on" "hand_on" (defArgs s_hand_on) (defBody s_hand_on) (defScope s_hand_on) [] [] (He.ga K "hand_on") (fdO K ("hand_on", none)) := S.def_ 87 d_hand_on rfl
theorem F_leave (S : Say K mg base) : FunD K "leave" "leave" (defArgs s_leave) (defBody s_leave) (defScope s_leave) [] [] (He.ga K "leave") (fdO K ("leave", none)) := S.def_ 88 d_leave rfl
theorem F_law_cell (S : Say K mg base) : FunD K "_law_cell" "_law_cell" (defArgs s_law_cell) (defBody s_law_cell) (defScope s_law_cell) [] [] (He.ga K "_law_cell") (fdO K ("_law_cell", none)) := S.def_ 89 d_law_cell rfl
theorem F_law_pot (S : Say K mg base) : FunD K "_law_pot" "_law_pot" (defArgs s_law_pot) (defBody s_law_pot) (defScope s_law_pot) [] [] (He.ga K "_law_pot") (fdO K ("_law_pot", none)) := S.def_ 90 d_law_pot rfl
theorem F_law_take (S : Say K mg base) : FunD K "_law_take" "_law_take" (defArgs s_law_take) (defBody s_law_take) (defScope s_law_take) [] [] (He.ga K "_law_take") (fdO K ("_law_take", none)) := S.def_ 91 d_law_take rfl
theorem F_law_free (S : Say K mg base) : FunD K "_law_free" "_law_free" (defArgs s_law_free) (defBody s_law_free) (defScope s_law_free) [] [] (He.ga K "_law_free") (fdO K ("_law_free", none)) := S.def_ 92 d_law_free rfl
theorem F_law_ring (S : Say K mg base) : FunD K "_law_ring" "_law_ring" (defArgs s_law_ring) (defBody s_law_ring) (defScope s_law_ring) [] [] (He.ga K "_law_ring") (fdO K ("_law_ring", none)) := S.def_ 93 d_law_ring rfl
theorem F_law_near (S : Say K mg base) : FunD K "_law_near" "_law_near" (defArgs s_law_near) (defBody s_law_near) (defScope s_law_near) [] [] (He.ga K "_law_near") (fdO K ("_law_near", none)) := S.def_ 94 d_law_near rfl
theorem F_law_member (S : Say K mg base) : FunD K "_law_member" "_law_member" (defArgs s_law_member) (defBody s_law_member) (defScope s_law_member) [] [] (He.ga K "_law_member") (fdO K ("_law_member", none)) := S.def_ 95 d_law_member rfl
theorem F_law_mixed (S : Say K mg base) : FunD K "_law_mixed" "_law_mixed" (defArgs s_law_mixed) (defBody s_law_mixed) (defScope s_law_mixed) [] [] (He.ga K "_law_mixed") (fdO K ("_law_mixed", none)) := S.def_ 96 d_law_mixed rfl
theorem F_law_granted (S : Say K mg base) : FunD K "_law_granted" "_law_granted" (defArgs s_law_granted) (defBody s_law_granted) (defScope s_law_granted) [] [] (He.ga K "_law_granted") (fdO K ("_law_granted", none)) := S.def_ 97 d_law_granted rfl
theorem F_law_done (S : Say K mg base) : FunD K "_law_done" "_law_done" (defArgs s_law_done) (defBody s_law_done) (defScope s_law_done) [] [] (He.ga K "_law_done") (fdO K ("_law_done", none)) := S.def_ 98 d_law_done rfl
theorem F_law_history (S : Say K mg base) : FunD K "_law_history" "_law_history" (defArgs s_law_history) (defBody s_law_history) (defScope s_law_history) [] [] (He.ga K "_law_history") (fdO K ("_law_history", none)) := S.def_ 99 d_law_history rfl
theorem F_law_orders (S : Say K mg base) : FunD K "_law_orders" "_law_orders" (defArgs s_law_orders) (defBody s_law_orders) (defScope s_law_orders) [] [] (He.ga K "_law_orders") (fdO K ("_law_orders", none)) := S.def_ 100 d_law_orders rfl
theorem F_law_links (S : Say K mg base) : FunD K "_law_links" "_law_links" (defArgs s_law_links) (defBody s_law_links) (defScope s_law_links) [] [] (He.ga K "_law_links") (fdO K ("_law_links", none)) := S.def_ 101 d_law_links rfl
theorem F_law_nearest (S : Say K mg base) : FunD K "_law_nearest" "_law_nearest" (defArgs s_law_nearest) (defBody s_law_nearest) (defScope s_law_nearest) [] [] (He.ga K "_law_nearest") (fdO K ("_law_nearest", none)) := S.def_ 102 d_law_nearest rfl
theorem F_law_fingers (S : Say K mg base) : FunD K "_law_fingers" "_law_fingers" (defArgs s_law_fingers) (defBody s_law_fingers) (defScope s_law_fingers) [] [] (He.ga K "_law_fingers") (fdO K ("_law_fingers", none)) := S.def_ 103 d_law_fingers rfl
theorem F_law_most (S : Say K mg base) : FunD K "_law_most" "_law_most" (defArgs s_law_most) (defBody s_law_most) (defScope s_law_most) [] [] (He.ga K "_law_most") (fdO K ("_law_most", none)) := S.def_ 104 d_law_most rfl
theorem F_law_near_right (S : Say K mg base) : FunD K "_law_near_right" "_law_near_right" (defArgs s_law_near_right) (defBody s_law_near_right) (defScope s_law_near_right) [] [] (He.ga K "_law_near_right") (fdO K ("_law_near_right", none)) := S.def_ 105 d_law_near_right rfl
theorem F_law_all_right (S : Say K mg base) : FunD K "_law_all_right" "_law_all_right" (defArgs s_law_all_right) (defBody s_law_all_right) (defScope s_law_all_right) [] [] (He.ga K "_law_all_right") (fdO K ("_law_all_right", none)) := S.def_ 106 d_law_all_right rfl
theorem F_law_got (S : Say K mg base) : FunD K "_law_got" "_law_got" (defArgs s_law_got) (defBody s_law_got) (defScope s_law_got) [] [] (He.ga K "_law_got") (fdO K ("_law_got", none)) := S.def_ 107 d_law_got rfl
theorem F_law (S : Say K mg base) : FunD K "law" "law" (defArgs s_law) (defBody s_law) (defScope s_law) [] [] (He.ga K "law") (fdO K ("law", none)) := S.def_ 108 d_law rfl
theorem b_NoRing_init (S : Say K mg base) : Binds K (fdO K ("NoRing", some "__init__")) ["self", "field"] [] := (S.F_NoRing_init).bindsN fun _ _ _ _ _ _ us hl => match us, hl with | [_, _], _ => rfl
theorem b_NoMember_init (S : Say K mg base) : Binds K (fdO K ("NoMember", some "__init__")) ["self", "who"] [] := (S.F_NoMember_init).bindsN fun _ _ _ _ _ _ us hl => match us, hl with | [_, _], _ => rfl
theorem b_Taken_init (S : Say K mg base) : Binds K (fdO K ("Taken", some "__init__")) ["self", "who"] [] := (S.F_Taken_init).bindsN fun _ _ _ _ _ _ us hl => match us, hl with | [_, _], _ => rfl
theorem b_Fixed_init (S : Say K mg base) : Binds K (fdO K ("Fixed", some "__init__")) ["self", "who"] [] := (S.F_Fixed_init).bindsN fun _ _ _ _ _ _ us hl => match us, hl with | [_, _], _ => rfl
theorem b_Alone_init (S : Say K mg base) : Binds K (fdO K ("Alone", some "__init__")) ["self", "who"] [] := (S.F_Alone_init).bindsN fun _ _ _ _ _ _ us hl => match us, hl with | [_, _], _ => rfl
theorem b_LastOne_init (S : Say K mg base) : Binds K (fdO K ("LastOne", some "__init__")) ["self", "point"] [] := (S.F_LastOne_init).bindsN fun _ _ _ _ _ _ us hl => match us, hl with | [_, _], _ => rfl
theorem b_TooFar_init (S : Say K mg base) : Binds K (fdO K ("TooFar", some "__init__")) ["self", "stood"] [] := (S.F_TooFar_init).bindsN fun _ _ _ _ _ _ us hl => match us, hl with | [_, _], _ => rfl
theorem b_NoValue_init (S : Say K mg base) : Binds K (fdO K ("NoValue", some "__init__")) ["self", "point"] [] := (S.F_NoValue_init).bindsN fun _ _ _ _ _ _ us hl => match us, hl with | [_, _], _ => rfl
theorem b_first_of (S : Say K mg base) : Binds K (fdO K ("first_of", none)) ["names", "some"] [] := (S.F_first_of).bindsN fun _ _ _ _ _ _ us hl => match us, hl with | [_, _], _ => rfl
theorem b_adopted (S : Say K mg base) : Binds K (fdO K ("adopted", none)) ["name", "names"] [] := (S.F_adopted).bindsN fun _ _ _ _ _ _ us hl => match us, hl with | [_, _], _ => rfl
theorem b_spliced (S : Say K mg base) : Binds K (fdO K ("spliced", none)) ["names", "gone", "other"] [] := (S.F_spliced).bindsN fun _ _ _ _ _ _ us hl => match us, hl with | [_, _, _], _ => rfl
theorem b_farthest (S : Say K mg base) : Binds K (fdO K ("farthest", none)) ["ring", "here", "point"] [] := (S.F_farthest).bindsN fun _ _ _ _ _ _ us hl => match us, hl with | [_, _, _], _ => rfl
theorem b_known_by (S : Say K mg base) : Binds K (fdO K ("known_by", none)) ["ring", "here", "name"] [] := (S.F_known_by).bindsN fun _ _ _ _ _ _ us hl => match us, hl with | [_, _, _], _ => rfl
theorem kb_Seeker_init (S : Say K mg base) : KBn K (fdO K ("Seeker", some "__init__")) ["self", "ring", "point", "via"] 3 ["via"] (fun us ws => us ++ ws) (fun vs zs => vs ++ zs) := by
  obtain ⟨oc, od, dV, kV, doc, pm, an, cdv, ct, osl, e, _, _, hd, _⟩ := (S.F_Seeker_init).ex
  rcases hd with ⟨_, rfl⟩ | ⟨z, _⟩
  · rw [e]
    exact ⟨fun s us ws _ h1 h2 => match us, ws, h1, h2 with | [_, _, _], [_], _, _ => .of_eq rfl, fun r1 r2 => Vals.append r1 r2⟩
  · exact (z rfl).elim
theorem b_Seeker_step (S : Say K mg base) : Binds K (fdO K ("Seeker", some "step")) ["self"] [] := (S.F_Seeker_step).bindsN fun _ _ _ _ _ _ us hl => match us, hl with | [_], _ => rfl
theorem b_Seeker_go_on (S : Say K mg base) : Binds K (fdO K ("Seeker", some "go_on")) ["self"] [] := (S.F_Seeker_go_on).bindsN fun _ _ _ _ _ _ us hl => match us, hl with | [_], _ => rfl
theorem b_Seeker_go_back (S : Say K mg base) : Binds K (fdO K ("Seeker", some "go_back")) ["self"] [] := (S.F_Seeker_go_back).bindsN fun _ _ _ _ _ _ us hl => match us, hl with | [_], _ => rfl
theorem b_Seeker_go_upwards (S : Say K mg base) : Binds K (fdO K ("Seeker", some "go_upwards")) ["self", "here", "after"] [] := (S.F_Seeker_go_upwards).bindsN fun _ _ _ _ _ _ us hl => match us, hl with | [_, _, _], _ => rfl
theorem b_Seeker_at (S : Say K mg base) : Binds K (fdO K ("Seeker", some "at")) ["self"] [] := (S.F_Seeker_at).bindsN fun _ _ _ _ _ _ us hl => match us, hl with | [_], _ => rfl
theorem b_Seeker_way (S : Say K mg base) : Binds K (fdO K ("Seeker", some "way")) ["self"] [] := (S.F_Seeker_way).bindsN fun _ _ _ _ _ _ us hl => match us, hl with | [_], _ => rfl
theorem b_Seeker_answer (S : Say K mg base) : Binds K (fdO K ("Seeker", some "answer")) ["self"] [] := (S.F_Seeker_answer).bindsN fun _ _ _ _ _ _ us hl => match us, hl with | [_], _ => rfl
theorem b_Found_init (S : Say K mg base) : Binds K (fdO K ("Found", some "__init__")) ["self", "trail", "goal", "reasons"] [] := (S.F_Found_init).bindsN fun _ _ _ _ _ _ us hl => match us, hl with | [_, _, _, _], _ => rfl
theorem b_Found_answer (S : Say K mg base) : Binds K (fdO K ("Found", some "answer")) ["self"] [] := (S.F_Found_answer).bindsN fun _ _ _ _ _ _ us hl => match us, hl with | [_], _ => rfl
theorem kb_look (S : Say K mg base) : KBn K (fdO K ("look", none)) ["ring", "point", "via", "within"] 2 ["via", "within"] (fun us ws => us ++ ws) (fun vs zs => vs ++ zs) := by
  obtain ⟨oc, od, dV, kV, doc, pm, an, cdv, ct, osl, e, _, _, hd, _⟩ := (S.F_look).ex
  rcases hd with ⟨_, rfl⟩ | ⟨z, _⟩
  · rw [e]
    exact ⟨fun s us ws _ h1 h2 => match us, ws, h1, h2 with | [_, _], [_, _], _, _ => .of_eq rfl, fun r1 r2 => Vals.append r1 r2⟩
  · exact (z rfl).elim
theorem kb1_look (S : Say K mg base) : KBn K (fdO K ("look", none)) ["ring", "point", "via", "within"] 2 ["via"] (fun us ws => us ++ (ws ++ [.none])) (fun vs zs => vs ++ (zs ++ [.non])) := by
  obtain ⟨oc, od, dV, kV, doc, pm, an, cdv, ct, osl, e, _, _, hd, hk⟩ := (S.F_look).ex
  rcases hd with ⟨_, rfl⟩ | ⟨z, _⟩
  · rcases hk with hk | ⟨D, rfl, hk⟩
    · cases hk
    · obtain ⟨u, hu, hr⟩ := hk _ (.head _)
      obtain rfl : u = Value.none := hr
      rw [e]
      refine ⟨fun s us ws hK h1 h2 => BindsTo.of_looks fun M => KwChain.looks (l := [("within", Value.none)]) hK (fun q hq => by rw [List.mem_singleton.mp hq]; exact hu) ?_, fun r1 r2 => Vals.append r1 (Vals.append r2 (.cons rfl .nil))⟩
      match us, ws, h1, h2 with
      | [_, _], [_], _, _ => exact ⟨_, _, _, _, _, _, rfl, rfl, rfl⟩
  · exact (z rfl).elim
theorem b_is_whole (S : Say K mg base) : Binds K (fdO K ("is_whole", none)) ["thing"] [] := (S.F_is_whole).bindsN fun _ _ _ _ _ _ us hl => match us, hl with | [_], _ => rfl
theorem b_Space_init (S : Say K mg base) : Binds K (fdO K ("Space", some "__init__")) ["self", "bits"] [] := by
  obtain ⟨ds, h1, h2⟩ := (S.F_Space_init).binds1 (ps := ["self", "bits"]) 2 1 (by simp) rfl (fun T kV doc pm an cdv ct us its h1 h2 => match us, its, h1, h2 with | [_, _], [_], _, _ => ⟨_, rfl, rfl⟩)
  cases h1
  exact h2
theorem b_Space_bits (S : Say K mg base) : Binds K (fdO K ("Space", some "bits")) ["self"] [] := (S.F_Space_bits).bindsN fun _ _ _ _ _ _ us hl => match us, hl with | [_], _ => rfl
theorem b_Space_size (S : Say K mg base) : Binds K (fdO K ("Space", some "size")) ["self"] [] := (S.F_Space_size).bindsN fun _ _ _ _ _ _ us hl => match us, hl with | [_], _ => rfl
theorem b_Space_has (S : Say K mg base) : Binds K (fdO K ("Space", some "has")) ["self", "thing"] [] := (S.F_Space_has).bindsN fun _ _ _ _ _ _ us hl => match us, hl with | [_, _], _ => rfl
theorem b_Space_distance (S : Say K mg base) : Binds K (fdO K ("Space", some "distance")) ["self", "one", "other"] [] := (S.F_Space_distance).bindsN fun _ _ _ _ _ _ us hl => match us, hl with | [_, _, _], _ => rfl
theorem b_Space_is_between (S : Say K mg base) : Binds K (fdO K ("Space", some "is_between")) ["self", "point", "one", "other"] [] := (S.F_Space_is_between).bindsN fun _ _ _ _ _ _ us hl => match us, hl with | [_, _, _, _], _ => rfl
theorem b_Space_nearest (S : Say K mg base) : Binds K (fdO K ("Space", some "nearest")) ["self", "points", "point"] [] := (S.F_Space_nearest).bindsN fun _ _ _ _ _ _ us hl => match us, hl with | [_, _, _], _ => rfl
theorem b_Space_preceding (S : Say K mg base) : Binds K (fdO K ("Space", some "preceding")) ["self", "points", "point"] [] := (S.F_Space_preceding).bindsN fun _ _ _ _ _ _ us hl => match us, hl with | [_, _, _], _ => rfl
theorem b_Node_init (S : Say K mg base) : Binds K (fdO K ("Node", some "__init__")) ["self", "chain", "prior", "far"] [] := (S.F_Node_init).bindsN fun _ _ _ _ _ _ us hl => match us, hl with | [_, _, _, _], _ => rfl
theorem b_upwards (S : Say K mg base) : Binds K (fdO K ("upwards", none)) ["space", "names", "point"] [] := (S.F_upwards).bindsN fun _ _ _ _ _ _ us hl => match us, hl with | [_, _, _], _ => rfl
theorem b_others_upwards (S : Say K mg base) : Binds K (fdO K ("others_upwards", none)) ["space", "names", "name"] [] := (S.F_others_upwards).bindsN fun _ _ _ _ _ _ us hl => match us, hl with | [_, _, _], _ => rfl
theorem b_far_point (S : Say K mg base) : Binds K (fdO K ("far_point", none)) ["space", "name", "k"] [] := (S.F_far_point).bindsN fun _ _ _ _ _ _ us hl => match us, hl with | [_, _, _], _ => rfl
theorem b_right_chain (S : Say K mg base) : Binds K (fdO K ("right_chain", none)) ["space", "names", "name", "many"] [] := (S.F_right_chain).bindsN fun _ _ _ _ _ _ us hl => match us, hl with | [_, _, _, _], _ => rfl
theorem b_right_far (S : Say K mg base) : Binds K (fdO K ("right_far", none)) ["space", "names", "name"] [] := (S.F_right_far).bindsN fun _ _ _ _ _ _ us hl => match us, hl with | [_, _, _], _ => rfl
theorem b_right_node (S : Say K mg base) : Binds K (fdO K ("right_node", none)) ["space", "names", "name", "many"] [] := (S.F_right_node).bindsN fun _ _ _ _ _ _ us hl => match us, hl with | [_, _, _, _], _ => rfl
theorem b_is_length (S : Say K mg base) : Binds K (fdO K ("is_length", none)) ["thing"] [] := (S.F_is_length).bindsN fun _ _ _ _ _ _ us hl => match us, hl with | [_], _ => rfl
theorem b_are_base (S : Say K mg base) : Binds K (fdO K ("are_base", none)) ["space", "thing", "many"] [] := (S.F_are_base).bindsN fun _ _ _ _ _ _ us hl => match us, hl with | [_, _, _], _ => rfl
theorem b_space_of (S : Say K mg base) : Binds K (fdO K ("space_of", none)) ["bits"] [] := (S.F_space_of).bindsN fun _ _ _ _ _ _ us hl => match us, hl with | [_], _ => rfl
theorem kb_Ring_init (S : Say K mg base) : KBn K (fdO K ("Ring", some "__init__")) ["self", "base", "bits", "length"] 2 ["bits", "length"] (fun us ws => us ++ ws) (fun vs zs => vs ++ zs) := by
  obtain ⟨oc, od, dV, kV, doc, pm, an, cdv, ct, osl, e, _, _, hd, _⟩ := (S.F_Ring_init).ex
  rcases hd with ⟨_, rfl⟩ | ⟨z, _⟩
  · rw [e]
    exact ⟨fun s us ws _ h1 h2 => match us, ws, h1, h2 with | [_, _], [_, _], _, _ => .of_eq rfl, fun r1 r2 => Vals.append r1 r2⟩
  · exact (z rfl).elim
theorem b_Ring_space (S : Say K mg base) : Binds K (fdO K ("Ring", some "space")) ["self"] [] := (S.F_Ring_space).bindsN fun _ _ _ _ _ _ us hl => match us, hl with | [_], _ => rfl
theorem b_Ring_length (S : Say K mg base) : Binds K (fdO K ("Ring", some "length")) ["self"] [] := (S.F_Ring_length).bindsN fun _ _ _ _ _ _ us hl => match us, hl with | [_], _ => rfl
theorem b_Ring_base (S : Say K mg base) : Binds K (fdO K ("Ring", some "base")) ["self"] [] := (S.F_Ring_base).bindsN fun _ _ _ _ _ _ us hl => match us, hl with | [_], _ => rfl
theorem b_Ring_members (S : Say K mg base) : Binds K (fdO K ("Ring", some "members")) ["self"] [] := (S.F_Ring_members).bindsN fun _ _ _ _ _ _ us hl => match us, hl with | [_], _ => rfl
theorem b_Ring_is_member (S : Say K mg base) : Binds K (fdO K ("Ring", some "is_member")) ["self", "thing"] [] := (S.F_Ring_is_member).bindsN fun _ _ _ _ _ _ us hl => match us, hl with | [_, _], _ => rfl
theorem b_Ring_want_point (S : Say K mg base) : Binds K (fdO K ("Ring", some "want_point")) ["self", "thing"] [] := (S.F_Ring_want_point).bindsN fun _ _ _ _ _ _ us hl => match us, hl with | [_, _], _ => rfl
theorem b_Ring_node (S : Say K mg base) : Binds K (fdO K ("Ring", some "node")) ["self", "name"] [] := (S.F_Ring_node).bindsN fun _ _ _ _ _ _ us hl => match us, hl with | [_, _], _ => rfl
theorem b_Ring_links (S : Say K mg base) : Binds K (fdO K ("Ring", some "links")) ["self", "name"] [] := (S.F_Ring_links).bindsN fun _ _ _ _ _ _ us hl => match us, hl with | [_, _], _ => rfl
theorem b_Ring_next_of (S : Say K mg base) : Binds K (fdO K ("Ring", some "next_of")) ["self", "name"] [] := (S.F_Ring_next_of).bindsN fun _ _ _ _ _ _ us hl => match us, hl with | [_, _], _ => rfl
theorem b_Ring_before (S : Say K mg base) : Binds K (fdO K ("Ring", some "before")) ["self", "name"] [] := (S.F_Ring_before).bindsN fun _ _ _ _ _ _ us hl => match us, hl with | [_, _], _ => rfl
theorem b_Ring_fingers (S : Say K mg base) : Binds K (fdO K ("Ring", some "fingers")) ["self", "name"] [] := (S.F_Ring_fingers).bindsN fun _ _ _ _ _ _ us hl => match us, hl with | [_, _], _ => rfl
theorem b_Ring_kept (S : Say K mg base) : Binds K (fdO K ("Ring", some "kept")) ["self", "name"] [] := (S.F_Ring_kept).bindsN fun _ _ _ _ _ _ us hl => match us, hl with | [_, _], _ => rfl
theorem b_Ring_enter (S : Say K mg base) : Binds K (fdO K ("Ring", some "enter")) ["self", "name", "chain"] [] := (S.F_Ring_enter).bindsN fun _ _ _ _ _ _ us hl => match us, hl with | [_, _, _], _ => rfl
theorem b_Ring_vanish (S : Say K mg base) : Binds K (fdO K ("Ring", some "vanish")) ["self", "name"] [] := (S.F_Ring_vanish).bindsN fun _ _ _ _ _ _ us hl => match us, hl with | [_, _], _ => rfl
theorem b_Ring_offer (S : Say K mg base) : Binds K (fdO K ("Ring", some "offer")) ["self", "name", "point", "stamp", "text"] [] := (S.F_Ring_offer).bindsN fun _ _ _ _ _ _ us hl => match us, hl with | [_, _, _, _, _], _ => rfl
theorem b_Ring_let_go (S : Say K mg base) : Binds K (fdO K ("Ring", some "let_go")) ["self", "name", "point"] [] := (S.F_Ring_let_go).bindsN fun _ _ _ _ _ _ us hl => match us, hl with | [_, _, _], _ => rfl
theorem b_Ring_new_stamp (S : Say K mg base) : Binds K (fdO K ("Ring", some "new_stamp")) ["self"] [] := (S.F_Ring_new_stamp).bindsN fun _ _ _ _ _ _ us hl => match us, hl with | [_], _ => rfl
theorem b_Ring_newest_stamp (S : Say K mg base) : Binds K (fdO K ("Ring", some "newest_stamp")) ["self", "point"] [] := (S.F_Ring_newest_stamp).bindsN fun _ _ _ _ _ _ us hl => match us, hl with | [_, _], _ => rfl
theorem b_Ring_note (S : Say K mg base) : Binds K (fdO K ("Ring", some "note")) ["self", "deed"] [] := (S.F_Ring_note).bindsN fun _ _ _ _ _ _ us hl => match us, hl with | [_, _], _ => rfl
theorem kb_holders (S : Say K mg base) : KBn K (fdO K ("holders", none)) ["ring", "point", "via"] 2 ["via"] (fun us ws => us ++ ws) (fun vs zs => vs ++ zs) := by
  obtain ⟨oc, od, dV, kV, doc, pm, an, cdv, ct, osl, e, _, _, hd, _⟩ := (S.F_holders).ex
  rcases hd with ⟨_, rfl⟩ | ⟨z, _⟩
  · rw [e]
    exact ⟨fun s us ws _ h1 h2 => match us, ws, h1, h2 with | [_, _], [_], _, _ => .of_eq rfl, fun r1 r2 => Vals.append r1 r2⟩
  · exact (z rfl).elim
theorem b_is_text (S : Say K mg base) : Binds K (fdO K ("is_text", none)) ["thing"] [] := (S.F_is_text).bindsN fun _ _ _ _ _ _ us hl => match us, hl with | [_], _ => rfl
theorem b_hand_in (S : Say K mg base) : Binds K (fdO K ("hand_in", none)) ["ring", "point", "text", "via"] [] := (S.F_hand_in).bindsN fun _ _ _ _ _ _ us hl => match us, hl with | [_, _, _, _], _ => rfl
theorem kb_put (S : Say K mg base) : KBn K (fdO K ("put", none)) ["ring", "point", "text", "via"] 3 ["via"] (fun us ws => us ++ ws) (fun vs zs => vs ++ zs) := by
  obtain ⟨oc, od, dV, kV, doc, pm, an, cdv, ct, osl, e, _, _, hd, _⟩ := (S.F_put).ex
  rcases hd with ⟨_, rfl⟩ | ⟨z, _⟩
  · rw [e]
    exact ⟨fun s us ws _ h1 h2 => match us, ws, h1, h2 with | [_, _, _], [_], _, _ => .of_eq rfl, fun r1 r2 => Vals.append r1 r2⟩
  · exact (z rfl).elim
theorem kb_forget (S : Say K mg base) : KBn K (fdO K ("forget", none)) ["ring", "point", "via"] 2 ["via"] (fun us ws => us ++ ws) (fun vs zs => vs ++ zs) := by
  obtain ⟨oc, od, dV, kV, doc, pm, an, cdv, ct, osl, e, _, _, hd, _⟩ := (S.F_forget).ex
  rcases hd with ⟨_, rfl⟩ | ⟨z, _⟩
  · rw [e]
    exact ⟨fun s us ws _ h1 h2 => match us, ws, h1, h2 with | [_, _], [_], _, _ => .of_eq rfl, fun r1 r2 => Vals.append r1 r2⟩
  · exact (z rfl).elim
theorem kb_get (S : Say K mg base) : KBn K (fdO K ("get", none)) ["ring", "point", "via"] 2 ["via"] (fun us ws => us ++ ws) (fun vs zs => vs ++ zs) := by
  obtain ⟨oc, od, dV, kV, doc, pm, an, cdv, ct, osl, e, _, _, hd, _⟩ := (S.F_get).ex
  rcases hd with ⟨_, rfl⟩ | ⟨z, _⟩
  · rw [e]
    exact ⟨fun s us ws _ h1 h2 => match us, ws, h1, h2 with | [_, _], [_], _, _ => .of_eq rfl, fun r1 r2 => Vals.append r1 r2⟩
  · exact (z rfl).elim
theorem b_settled (S : Say K mg base) : Binds K (fdO K ("settled", none)) ["ring", "name"] [] := (S.F_settled).bindsN fun _ _ _ _ _ _ us hl => match us, hl with | [_, _], _ => rfl
theorem b_settle (S : Say K mg base) : Binds K (fdO K ("settle", none)) ["ring", "name"] [] := (S.F_settle).bindsN fun _ _ _ _ _ _ us hl => match us, hl with | [_, _], _ => rfl
theorem b_source_of (S : Say K mg base) : Binds K (fdO K ("source_of", none)) ["ring", "name"] [] := (S.F_source_of).bindsN fun _ _ _ _ _ _ us hl => match us, hl with | [_, _], _ => rfl
theorem b_notified (S : Say K mg base) : Binds K (fdO K ("notified", none)) ["ring", "name", "teller"] [] := (S.F_notified).bindsN fun _ _ _ _ _ _ us hl => match us, hl with | [_, _, _], _ => rfl
theorem b_steadied (S : Say K mg base) : Binds K (fdO K ("steadied", none)) ["ring", "name"] [] := (S.F_steadied).bindsN fun _ _ _ _ _ _ us hl => match us, hl with | [_, _], _ => rfl
theorem b_refingered (S : Say K mg base) : Binds K (fdO K ("refingered", none)) ["ring", "name"] [] := (S.F_refingered).bindsN fun _ _ _ _ _ _ us hl => match us, hl with | [_, _], _ => rfl
theorem b_stabilize (S : Say K mg base) : Binds K (fdO K ("stabilize", none)) ["ring", "name"] [] := (S.F_stabilize).bindsN fun _ _ _ _ _ _ us hl => match us, hl with | [_, _], _ => rfl
theorem b_fix (S : Say K mg base) : Binds K (fdO K ("fix", none)) ["ring", "name"] [] := (S.F_fix).bindsN fun _ _ _ _ _ _ us hl => match us, hl with | [_, _], _ => rfl
theorem b_is_order (S : Say K mg base) : Binds K (fdO K ("is_order", none)) ["ring", "thing"] [] := (S.F_is_order).bindsN fun _ _ _ _ _ _ us hl => match us, hl with | [_, _], _ => rfl
theorem kb_mend (S : Say K mg base) : KBn K (fdO K ("mend", none)) ["ring", "order"] 1 ["order"] (fun us ws => us ++ ws) (fun vs zs => vs ++ zs) := by
  obtain ⟨oc, od, dV, kV, doc, pm, an, cdv, ct, osl, e, _, _, hd, _⟩ := (S.F_mend).ex
  rcases hd with ⟨_, rfl⟩ | ⟨z, _⟩
  · rw [e]
    exact ⟨fun s us ws _ h1 h2 => match us, ws, h1, h2 with | [_], [_], _, _ => .of_eq rfl, fun r1 r2 => Vals.append r1 r2⟩
  · exact (z rfl).elim
theorem kb0_mend (S : Say K mg base) : KBn K (fdO K ("mend", none)) ["ring", "order"] 1 [] (fun us ws => us ++ (ws ++ [.none])) (fun vs zs => vs ++ (zs ++ [.non])) := by
  obtain ⟨oc, od, dV, kV, doc, pm, an, cdv, ct, osl, e, _, _, hd, hk⟩ := (S.F_mend).ex
  rcases hd with ⟨_, rfl⟩ | ⟨z, _⟩
  · rcases hk with hk | ⟨D, rfl, hk⟩
    · cases hk
    · obtain ⟨u, hu, hr⟩ := hk _ (.head _)
      obtain rfl : u = Value.none := hr
      rw [e]
      refine ⟨fun s us ws hK h1 h2 => BindsTo.of_looks fun M => KwChain.looks (l := [("order", Value.none)]) hK (fun q hq => by rw [List.mem_singleton.mp hq]; exact hu) ?_, fun r1 r2 => Vals.append r1 (Vals.append r2 (.cons rfl .nil))⟩
      match us, ws, h1, h2 with
      | [_], [], _, _ => exact ⟨_, _, _, _, _, _, rfl, rfl, rfl⟩
  · exact (z rfl).elim
theorem kb_join (S : Say K mg base) : KBn K (fdO K ("join", none)) ["ring", "name", "via"] 2 ["via"] (fun us ws => us ++ ws) (fun vs zs => vs ++ zs) := by
  obtain ⟨oc, od, dV, kV, doc, pm, an, cdv, ct, osl, e, _, _, hd, _⟩ := (S.F_join).ex
  rcases hd with ⟨_, rfl⟩ | ⟨z, _⟩
  · rw [e]
    exact ⟨fun s us ws _ h1 h2 => match us, ws, h1, h2 with | [_, _], [_], _, _ => .of_eq rfl, fun r1 r2 => Vals.append r1 r2⟩
  · exact (z rfl).elim
theorem b_want_loose (S : Say K mg base) : Binds K (fdO K ("want_loose", none)) ["ring", "name"] [] := (S.F_want_loose).bindsN fun _ _ _ _ _ _ us hl => match us, hl with | [_, _], _ => rfl
theorem b_member_before (S : Say K mg base) : Binds K (fdO K ("member_before", none)) ["ring", "name"] [] := (S.F_member_before).bindsN fun _ _ _ _ _ _ us hl => match us, hl with | [_, _], _ => rfl
theorem b_chains_without (S : Say K mg base) : Binds K (fdO K ("chains_without", none)) ["ring", "name"] [] := (S.F_chains_without).bindsN fun _ _ _ _ _ _ us hl => match us, hl with | [_, _], _ => rfl
theorem b_want_company (S : Say K mg base) : Binds K (fdO K ("want_company", none)) ["chains"] [] := (S.F_want_company).bindsN fun _ _ _ _ _ _ us hl => match us, hl with | [_], _ => rfl
theorem b_is_kept_beside (S : Say K mg base) : Binds K (fdO K ("is_kept_beside", none)) ["ring", "name", "point", "stamp"] [] := (S.F_is_kept_beside).bindsN fun _ _ _ _ _ _ us hl => match us, hl with | [_, _, _, _], _ => rfl
theorem b_want_kept (S : Say K mg base) : Binds K (fdO K ("want_kept", none)) ["ring", "name"] [] := (S.F_want_kept).bindsN fun _ _ _ _ _ _ us hl => match us, hl with | [_, _], _ => rfl
theorem b_crash (S : Say K mg base) : Binds K (fdO K ("crash", none)) ["ring", "name"] [] := (S.F_crash).bindsN fun _ _ _ _ _ _ us hl => match us, hl with | [_, _], _ => rfl
theorem b_hand_on (S : Say K mg base) : Binds K (fdO K ("hand_on", none)) ["ring", "name", "after"] [] := (S.F_hand_on).bindsN fun _ _ _ _ _ _ us hl => match us, hl with | [_, _, _], _ => rfl
theorem b_leave (S : Say K mg base) : Binds K (fdO K ("leave", none)) ["ring", "name"] [] := (S.F_leave).bindsN fun _ _ _ _ _ _ us hl => match us, hl with | [_, _], _ => rfl
theorem b_law_cell (S : Say K mg base) : Binds K (fdO K ("_law_cell", none)) ["_law_script", "_law_k"] [] := (S.F_law_cell).bindsN fun _ _ _ _ _ _ us hl => match us, hl with | [_, _], _ => rfl
theorem b_law_pot (S : Say K mg base) : Binds K (fdO K ("_law_pot", none)) ["_law_script", "_law_k"] [] := (S.F_law_pot).bindsN fun _ _ _ _ _ _ us hl => match us, hl with | [_, _], _ => rfl
theorem b_law_take (S : Say K mg base) : Binds K (fdO K ("_law_take", none)) ["_law_pot_here", "_law_room"] [] := (S.F_law_take).bindsN fun _ _ _ _ _ _ us hl => match us, hl with | [_, _], _ => rfl
theorem b_law_free (S : Say K mg base) : Binds K (fdO K ("_law_free", none)) ["_law_size", "_law_some", "_law_at"] [] := (S.F_law_free).bindsN fun _ _ _ _ _ _ us hl => match us, hl with | [_, _, _], _ => rfl
theorem b_law_ring (S : Say K mg base) : Binds K (fdO K ("_law_ring", none)) ["_law_pot_here"] [] := (S.F_law_ring).bindsN fun _ _ _ _ _ _ us hl => match us, hl with | [_], _ => rfl
theorem b_law_near (S : Say K mg base) : Binds K (fdO K ("_law_near", none)) ["_law_pot_here", "_law_ring_here"] [] := (S.F_law_near).bindsN fun _ _ _ _ _ _ us hl => match us, hl with | [_, _], _ => rfl
theorem b_law_member (S : Say K mg base) : Binds K (fdO K ("_law_member", none)) ["_law_pot_here", "_law_ring_here"] [] := (S.F_law_member).bindsN fun _ _ _ _ _ _ us hl => match us, hl with | [_, _], _ => rfl
theorem b_law_mixed (S : Say K mg base) : Binds K (fdO K ("_law_mixed", none)) ["_law_pot_here", "_law_some"] [] := (S.F_law_mixed).bindsN fun _ _ _ _ _ _ us hl => match us, hl with | [_, _], _ => rfl
theorem b_law_granted (S : Say K mg base) : Binds K (fdO K ("_law_granted", none)) ["_law_ring_here", "_law_way", "_law_name", "_law_asker", "_law_text", "_law_names"] [] := (S.F_law_granted).bindsN fun _ _ _ _ _ _ us hl => match us, hl with | [_, _, _, _, _, _], _ => rfl
theorem b_law_done (S : Say K mg base) : Binds K (fdO K ("_law_done", none)) ["_law_pot_here", "_law_ring_here", "_law_newest"] [] := (S.F_law_done).bindsN fun _ _ _ _ _ _ us hl => match us, hl with | [_, _, _], _ => rfl
theorem b_law_history (S : Say K mg base) : Binds K (fdO K ("_law_history", none)) ["_law_script", "_law_most_here"] [] := (S.F_law_history).bindsN fun _ _ _ _ _ _ us hl => match us, hl with | [_, _], _ => rfl
theorem b_law_orders (S : Say K mg base) : Binds K (fdO K ("_law_orders", none)) ["_law_script", "_law_most_here"] [] := (S.F_law_orders).bindsN fun _ _ _ _ _ _ us hl => match us, hl with | [_, _], _ => rfl
theorem b_law_links (S : Say K mg base) : Binds K (fdO K ("_law_links", none)) ["_law_ring_here", "_law_members", "_law_name"] [] := (S.F_law_links).bindsN fun _ _ _ _ _ _ us hl => match us, hl with | [_, _, _], _ => rfl
theorem b_law_nearest (S : Say K mg base) : Binds K (fdO K ("_law_nearest", none)) ["_law_members", "_law_point"] [] := (S.F_law_nearest).bindsN fun _ _ _ _ _ _ us hl => match us, hl with | [_, _], _ => rfl
theorem b_law_fingers (S : Say K mg base) : Binds K (fdO K ("_law_fingers", none)) ["_law_ring_here", "_law_members", "_law_name"] [] := (S.F_law_fingers).bindsN fun _ _ _ _ _ _ us hl => match us, hl with | [_, _, _], _ => rfl
theorem b_law_most (S : Say K mg base) : Binds K (fdO K ("_law_most", none)) ["_law_ring_here"] [] := (S.F_law_most).bindsN fun _ _ _ _ _ _ us hl => match us, hl with | [_], _ => rfl
theorem b_law_near_right (S : Say K mg base) : Binds K (fdO K ("_law_near_right", none)) ["_law_ring_here"] [] := (S.F_law_near_right).bindsN fun _ _ _ _ _ _ us hl => match us, hl with | [_], _ => rfl
theorem b_law_all_right (S : Say K mg base) : Binds K (fdO K ("_law_all_right", none)) ["_law_ring_here", "_law_newest"] [] := (S.F_law_all_right).bindsN fun _ _ _ _ _ _ us hl => match us, hl with | [_, _], _ => rfl
theorem b_law_got (S : Say K mg base) : Binds K (fdO K ("_law_got", none)) ["_law_ring_here", "_law_point", "_law_asker"] [] := (S.F_law_got).bindsN fun _ _ _ _ _ _ us hl => match us, hl with | [_, _, _], _ => rfl
theorem b_law (S : Say K mg base) : Binds K (fdO K ("law", none)) ["_law_script"] [] := (S.F_law).bindsN fun _ _ _ _ _ _ us hl => match us, hl with | [_], _ => rfl
end Say
end Nn
set_option Elab.async false
set_option linter.all false
set_option maxRecDepth 100000
set_option maxHeartbeats 0
namespace Nn
open PySem PySem.Spec PyProof.Rows L2
abbrev R : PySem.W.OpenRow := PySem.W.OpenLaw.row PySem.Challenge.rw_nearestname_k75_whole_all_right
abbrev hk : PySem.W.Hook := hookM nms fa fn tf exC
def ob (s : PySem.W.SharedT) : He.AlX := obsM nms fa fn tf exC (HandSHeadRun.getT s)
theorem ob_eq (s : PySem.W.SharedT) : ob s = hk.obs s.abs := obsM_eq (HandSHeadRun.getT_eq s)
theorem run (w : World) : HandSHeadRun.RunEq R (PySem.W.view R.prog [98]) hk ob 10000 loose w := by
  intro os
  kernel_rfl
end Nn
set_option Elab.async false
set_option linter.all false
set_option maxRecDepth 100000
set_option maxHeartbeats 1000000
namespace Nn
open PySem PySem.Spec PyProof.Rows L2 LamX KeyL
/-! ### spaces -/
/-- how far upwards -/
def dist (b : Nat) (x y : Int) : Int := (y - x) % (2 : Int) ^ b
def btw (b : Nat) (p x y : Int) : Bool := decide (0 < dist b x p) && (decide (x = y) || decide (dist b x p < dist b x y))
theorem two_pos (b : Nat) : (0 : Int) < 2 ^ b := Int.pow_pos (by decide)
theorem dist_nn (b : Nat) (x y : Int) : 0 ≤ dist b x y := Int.emod_nonneg _ (Int.ne_of_gt (two_pos b))
theorem dist_lt (b : Nat) (x y : Int) : dist b x y < 2 ^ b := Int.emod_lt_of_pos _ (two_pos b)
/-- a Space stands at sp -/
def SpaceAt (K : PySem.W.Frag) (H : Hp) (sp : Addr) (b : Nat) : Prop := (3 ≤ b ∧ b ≤ 32) ∧ ∃ dx, H sp = some (.ins (He.ga K "Space") dx [("own_bits", V.int b)])
theorem SpaceAt.ext {K : PySem.W.Frag} {H H' : Hp} {sp : Addr} {b : Nat} (h : SpaceAt K H sp b) (e : ExtN H H') : SpaceAt K H' sp b := by
  obtain ⟨h1, dx, h2⟩ := h
  exact ⟨h1, dx, e _ _ h2 fun ps z => nomatch z⟩
section
variable {P : Program} {w : World} {K : PySem.W.Frag} {mg : Str → Option Value} {base : Heap}
/-- as FunD.ok, the code object told -/
theorem okC {x qual : Str} {params : Arguments} {body : List Stmt} {scope : Scope} {dvs : List V} {kws : List (Str × V)} {f : Addr} {fd : FuncData} {CX : CXT} {N ps : List Str} {k : Nat} {sp : Sp} (F : FunD K x qual params body scope dvs kws f fd) (S : FnScope N ps scope) (len : ∀ vs H Q E, sp vs H Q E → vs.length = ps.length)
    (hbody : ∀ (cdv : Value), (∃ oc od osl fdd, K.lookup f = some ⟨oc, od, .func fdd, osl⟩ ∧ fdd.code = cdv) → (∃ c : Addr, cdv = .ref c) → ∀ (A : Around) (outer : List Env) (s : Shared) (H : Hp) (vs : List V) (Q : VK) (E : XK), Room k (A.deeper (envOfC qual scope s.heap.objs.size f cdv)) → sp vs H Q E →
      ∃ t, PSs (cxOf CX P w K mg base N qual scope f cdv A outer s H E) body t ∧ t { nx := fun _ H' => Q .non H', rt := Q } (start N vs) H) : FnOk P w K mg base CX (k + 1) f fd ps sp := by
  obtain ⟨oc, od, dV, kV, doc, pm, an, cdv, ct, osl, e, lk, hcd, _⟩ := F.ex
  subst e
  exact fn_of lk hcd S len (hbody cdv ⟨oc, od, osl, _, lk, rfl⟩ (He.codeIn_ref hcd))
/-- where the lambda's table is -/
theorem lamTab (S : Say K mg base) {i : Nat} {p : Str × Option Str} {q : Str} {cdv : Value} (h : tf[i]? = some p) (hq : (tabT K)[i]? = some ((He.cT K p).2, q)) (hfst : (tabT K).map (·.1) = tf.map fun p => (He.cT K p).2)
    (hcd : ∃ oc od osl fdd, K.lookup (He.fAd K p) = some ⟨oc, od, .func fdd, osl⟩ ∧ fdd.code = cdv) (hc : ∃ c : Addr, cdv = .ref c) :
    ∃ c P, TabB base mg c P ∧ cdv = .ref c ∧ (P, q) ∈ tabT K ∧ ∀ r ∈ tabT K, r.1 = P → r.2 = q := by
  obtain ⟨c, rfl⟩ := hc
  obtain ⟨oc, od, osl, fdd, lk, ec⟩ := hcd
  have e1 : (He.cT K p).1 = c := He.codeOf_eq lk ec
  have T := S.tab p (List.mem_of_getElem? h)
  rw [e1] at T
  refine ⟨c, _, T, rfl, List.mem_of_getElem? hq, fun r hr e => ?_⟩
  have nd : ((tabT K).map (·.1)).Nodup := by
    rw [hfst]
    have z := S.ex
    unfold exB at z
    simp only [Bool.and_eq_true, decide_eq_true_eq] at z
    exact z.2.2.2.2.2
  obtain ⟨j, hj⟩ := List.mem_iff_getElem?.mp hr
  have hj1 : ((tabT K).map (·.1))[j]? = some r.1 := by rw [List.getElem?_map, hj] <;> rfl
  have hi1 : ((tabT K).map (·.1))[i]? = some (He.cT K p).2 := by rw [List.getElem?_map, hq] <;> rfl
  rw [e] at hj1
  have eij : i = j := by
    obtain ⟨h1, h2⟩ := List.getElem?_eq_some_iff.mp hi1
    obtain ⟨h3, h4⟩ := List.getElem?_eq_some_iff.mp hj1
    exact (List.getElem_inj nd).mp (h2.trans h4.symm)
  rw [← eij, hq] at hj
  rw [← Option.some.inj hj]
/-- whether a value is a whole number -/
def wholeV : V → Bool
  | .int _ => true
  | _ => false
/-- what may be asked whether it is one -/
inductive Askable (K : PySem.W.Frag) (H : Hp) : V → Prop where
  | int (i : Int) : Askable K H (.int i)
  | non : Askable K H .non
  | bl (b : Bool) : Askable K H (.bl b)
  | str (x : Str) : Askable K H (.str x)
  | lst {a : Addr} {xs : List V} (h : H a = some (.lst xs)) : Askable K H (.ref a)
  | tup {a : Addr} {xs : List V} (h : H a = some (.tup xs)) : Askable K H (.ref a)
  | dic {a : Addr} {kvs : List (Key × V)} (h : H a = some (.dK kvs)) : Askable K H (.ref a)
def intV : V → Bool
  | .int _ => true
  | .bl _ => true
  | _ => false
def blV : V → Bool
  | .bl _ => true
  | _ => false
def strV : V → Bool
  | .str _ => true
  | _ => false
theorem Askable.ty {H : Hp} {x : V} (h : Askable K H x) : ∃ t : String, TyX K H x (.type t) ∧ kitB t "int" = some (intV x) ∧ kitB t "bool" = some (blV x) ∧ kitB t "str" = some (strV x) := by
  cases h with
  | int i => exact ⟨"int", .base (.int i), (show kitB "int" "int" = some true by decide +kernel), (show kitB "int" "bool" = some false by decide +kernel), (show kitB "int" "str" = some false by decide +kernel)⟩
  | non => exact ⟨"NoneType", .base .non, (show kitB "NoneType" "int" = some false by decide +kernel), (show kitB "NoneType" "bool" = some false by decide +kernel), (show kitB "NoneType" "str" = some false by decide +kernel)⟩
  | bl b => exact ⟨"bool", .base (.bl b), (show kitB "bool" "int" = some true by decide +kernel), (show kitB "bool" "bool" = some true by decide +kernel), (show kitB "bool" "str" = some false by decide +kernel)⟩
  | str x => exact ⟨"str", .base (.str x), (show kitB "str" "int" = some false by decide +kernel), (show kitB "str" "bool" = some false by decide +kernel), (show kitB "str" "str" = some true by decide +kernel)⟩
  | lst h => exact ⟨"list", .base (.lst h), (show kitB "list" "int" = some false by decide +kernel), (show kitB "list" "bool" = some false by decide +kernel), (show kitB "list" "str" = some false by decide +kernel)⟩
  | tup h => exact ⟨"tuple", .base (.tup h), (show kitB "tuple" "int" = some false by decide +kernel), (show kitB "tuple" "bool" = some false by decide +kernel), (show kitB "tuple" "str" = some false by decide +kernel)⟩
  | dic h => exact ⟨"dict", .base (.dK h), (show kitB "dict" "int" = some false by decide +kernel), (show kitB "dict" "bool" = some false by decide +kernel), (show kitB "dict" "str" = some false by decide +kernel)⟩
def spWhole (K : PySem.W.Frag) : Sp := fun vs H Q _ => ∃ x : V, vs = [x] ∧ Askable K H x ∧ Q (.bl (wholeV x)) H
theorem sc_is_whole : FnScope ["thing"] ["thing"] (defScope s_is_whole) := ⟨rfl, rfl, rfl, by decide +kernel, rfl, by decide +kernel, by decide +kernel⟩
theorem ok_is_whole (S : Say K mg base) : FnOk P w K mg base CX0 1 (He.ga K "is_whole") (fdO K ("is_whole", none)) ["thing"] (spWhole K) := by
  refine (S.F_is_whole).ok sc_is_whole (fun vs H Q E h => ?_) (fun cdv A outer s H vs Q E hr h => ?_)
  · obtain ⟨x, rfl, hx, k⟩ := h
    rfl
  obtain ⟨x, rfl, hx, k⟩ := h
  have hu := hu_of hr
  refine ⟨_, PSs.nox (pss_one (ps_ret (pe_and (pe_callB call_isi (by rfl) S.z_isinstance (by decide +kernel) (pa_cons (pv 0) (pa_cons (pe_bltn (v := .ty "int") rfl S.z_int (by decide +kernel) rfl) pa_nil))) (pe_one (pe_not (pe_callB call_isi (by rfl) S.z_isinstance (by decide +kernel) (pa_cons (pv 0) (pa_cons (pe_bltn (v := .ty "bool") rfl S.z_bool (by decide +kernel) rfl) pa_nil)))))))), ?_⟩
  obtain ⟨t, ty, h1, h2, _⟩ := hx.ty
  refine ⟨_, rfl, _, _, _, _, _, rfl, .ty "int", ty, kit_ty h1, _, rfl, ?_⟩
  cases hx with
  | int i => exact ⟨_, rfl, _, _, _, _, _, rfl, .ty "bool", ty, kit_ty h2, _, rfl, k⟩
  | bl i => exact ⟨_, rfl, _, _, _, _, _, rfl, .ty "bool", ty, kit_ty h2, _, rfl, k⟩
  | _ => exact k
def spBits (K : PySem.W.Frag) : Sp := fun vs H Q _ => ∃ (sp : Addr) (b : Nat), vs = [.ref sp] ∧ SpaceAt K H sp b ∧ Q (.int b) H
theorem sc_Space_bits : FnScope ["self"] ["self"] (defScope s_Space_bits) := ⟨rfl, rfl, rfl, by decide +kernel, rfl, by decide +kernel, by decide +kernel⟩
theorem ok_Space_bits (S : Say K mg base) : FnOk P w K mg base CX0 1 (He.ma K (He.ga K "Space") "bits") (fdO K ("Space", some "bits")) ["self"] (spBits K) := by
  refine (S.F_Space_bits).ok sc_Space_bits (fun vs H Q E h => ?_) (fun cdv A outer s H vs Q E hr h => ?_)
  · obtain ⟨sp, b, rfl, hs, k⟩ := h
    rfl
  obtain ⟨sp, b, rfl, hs, k⟩ := h
  have hu := hu_of hr
  refine ⟨_, PSs.nox (pss_one (ps_ret (pe_fld (pv 0) rfl))), ?_⟩
  obtain ⟨_, dx, h⟩ := hs
  exact ⟨_, rfl, sp, _, dx, _, _, rfl, h, S.c_Space, S.n_Space_own_bits, rfl, k⟩
def spSize (K : PySem.W.Frag) : Sp := fun vs H Q _ => ∃ (sp : Addr) (b : Nat), vs = [.ref sp] ∧ SpaceAt K H sp b ∧ Q (.int (2 ^ b)) H
theorem sc_Space_size : FnScope ["self"] ["self"] (defScope s_Space_size) := ⟨rfl, rfl, rfl, by decide +kernel, rfl, by decide +kernel, by decide +kernel⟩
theorem ok_Space_size (S : Say K mg base) : FnOk P w K mg base CX0 1 (He.ma K (He.ga K "Space") "size") (fdO K ("Space", some "size")) ["self"] (spSize K) := by
  refine (S.F_Space_size).ok sc_Space_size (fun vs H Q E h => ?_) (fun cdv A outer s H vs Q E hr h => ?_)
  · obtain ⟨sp, b, rfl, hs, k⟩ := h
    rfl
  obtain ⟨sp, b, rfl, hs, k⟩ := h
  have hu := hu_of hr
  refine ⟨_, PSs.nox (pss_one (ps_ret (pe_op op_shl pe_int (pe_fld (pv 0) rfl)))), ?_⟩
  obtain ⟨hb, dx, h⟩ := hs
  refine ⟨_, rfl, sp, _, dx, _, _, rfl, h, S.c_Space, S.n_Space_own_bits, rfl, _, _, rfl, rfl, ⟨by omega, by omega, by decide⟩, ?_⟩
  have e : (1 : Int) * 2 ^ ((b : Int)).toNat = 2 ^ b := by rw [Int.one_mul, Int.toNat_natCast]
  show Q (V.int (1 * 2 ^ ((b : Int)).toNat)) H
  rw [e]
  exact k
/-- whether a value is a point -/
def ptV (b : Nat) : V → Bool
  | .int i => decide (0 ≤ i) && decide (i < 2 ^ b)
  | _ => false
def spHas (K : PySem.W.Frag) : Sp := fun vs H Q _ => ∃ (sp : Addr) (b : Nat) (x : V), vs = [.ref sp, x] ∧ SpaceAt K H sp b ∧ Askable K H x ∧ Q (.bl (ptV b x)) H
theorem sc_Space_has : FnScope ["self", "thing"] ["self", "thing"] (defScope s_Space_has) := ⟨rfl, rfl, rfl, by decide +kernel, rfl, by decide +kernel, by decide +kernel⟩
theorem ok_Space_has (S : Say K mg base) : FnOk P w K mg base CX0 2 (He.ma K (He.ga K "Space") "has") (fdO K ("Space", some "has")) ["self", "thing"] (spHas K) := by
  refine (S.F_Space_has).ok sc_Space_has (fun vs H Q E h => ?_) (fun cdv A outer s H vs Q E hr h => ?_)
  · obtain ⟨sp, b, x, rfl, hs, hx, k⟩ := h
    rfl
  obtain ⟨sp, b, x, rfl, hs, hx, k⟩ := h
  have hu := hu_of hr
  refine ⟨_, PSs.nox (pss_one (ps_ret (pe_and (pe_call (ok_is_whole S) (hr.mono (by decide)) rfl S.g_is_whole (S.F_is_whole).kp S.b_is_whole .nil pass0 (pa_cons (pv 1) pa_nil)) (pe_one (pe_chain op_le op_lt pe_int (pv 1) (pe_meth0 (pv 0) S.c_Space S.m_Space_size (ok_Space_size S) (hr.mono (by decide)) S.b_Space_size .nil pass0)))))), ?_⟩
  refine ⟨_, rfl, x, rfl, hx, _, rfl, ?_⟩
  cases hx with
  | int i =>
    refine iteT ⟨_, rfl, _, _, rfl, rfl, _, rfl, ?_⟩
    have e : ptV b (.int i) = (decide (0 ≤ i) && decide (i < 2 ^ b)) := rfl
    rw [e] at k
    obtain ⟨_, dx, hp⟩ := id hs
    by_cases h0 : 0 ≤ i
    · rw [decide_eq_true h0] at k ⊢
      exact iteT ⟨_, rfl, sp, dx, _, rfl, hp, rfl, sp, b, rfl, hs, _, _, rfl, rfl, k⟩
    · rw [decide_eq_false h0] at k ⊢
      exact iteF k
  | _ => exact iteF k
def spDist (K : PySem.W.Frag) : Sp := fun vs H Q _ => ∃ (sp : Addr) (b : Nat) (x y : Int), vs = [.ref sp, .int x, .int y] ∧ SpaceAt K H sp b ∧ Q (.int (dist b x y)) H
theorem sc_Space_distance : FnScope ["self", "one", "other"] ["self", "one", "other"] (defScope s_Space_distance) := ⟨rfl, rfl, rfl, by decide +kernel, rfl, by decide +kernel, by decide +kernel⟩
theorem ok_Space_distance (S : Say K mg base) : FnOk P w K mg base CX0 2 (He.ma K (He.ga K "Space") "distance") (fdO K ("Space", some "distance")) ["self", "one", "other"] (spDist K) := by
  refine (S.F_Space_distance).ok sc_Space_distance (fun vs H Q E h => ?_) (fun cdv A outer s H vs Q E hr h => ?_)
  · obtain ⟨sp, b, x, y, rfl, hs, k⟩ := h
    rfl
  obtain ⟨sp, b, x, y, rfl, hs, k⟩ := h
  have hu := hu_of hr
  refine ⟨_, PSs.nox (pss_one (ps_ret (pe_op op_mod (pe_op op_sub (pv 2) (pv 1)) (pe_meth0 (pv 0) S.c_Space S.m_Space_size (ok_Space_size S) (hr.mono (by decide)) S.b_Space_size .nil pass0)))), ?_⟩
  obtain ⟨_, dx, hp⟩ := id hs
  exact ⟨_, rfl, _, rfl, _, _, rfl, rfl, _, rfl, sp, dx, _, rfl, hp, rfl, sp, b, rfl, hs, _, _, rfl, rfl, two_pos b, k⟩
def spBtw (K : PySem.W.Frag) : Sp := fun vs H Q _ => ∃ (sp : Addr) (b : Nat) (p x y : Int), vs = [.ref sp, .int p, .int x, .int y] ∧ SpaceAt K H sp b ∧ Q (.bl (btw b p x y)) H
theorem sc_Space_is_between : FnScope ["self", "point", "one", "other", "far"] ["self", "point", "one", "other"] (defScope s_Space_is_between) := ⟨rfl, rfl, rfl, by decide +kernel, rfl, by decide +kernel, by decide +kernel⟩
theorem ok_Space_is_between (S : Say K mg base) : FnOk P w K mg base CX0 3 (He.ma K (He.ga K "Space") "is_between") (fdO K ("Space", some "is_between")) ["self", "point", "one", "other"] (spBtw K) := by
  refine (S.F_Space_is_between).ok sc_Space_is_between (fun vs H Q E h => ?_) (fun cdv A outer s H vs Q E hr h => ?_)
  · obtain ⟨sp, b, p, x, y, rfl, hs, k⟩ := h
    rfl
  obtain ⟨sp, b, p, x, y, rfl, hs, k⟩ := h
  have hu := hu_of hr
  refine ⟨_, PSs.nox (pss_cons (ps_set (i := 4) sc_Space_is_between.nd rfl (Or.inl rfl) (pe_meth (pv 0) S.c_Space S.m_Space_distance (ok_Space_distance S) (hr.mono (by decide)) S.b_Space_distance .nil pass0 (pa_cons (pv 2) (pa_cons (pv 1) pa_nil))))
        (pss_one (ps_ret (pe_and (pe_cmpR op_gt (pv 4) pe_int (nomark _)) (pe_one (pe_or (pe_cmpR op_eq (pv 2) (pv 3) (nomark _)) (pe_one (pe_cmpR op_lt (pv 4) (pe_meth (pv 0) S.c_Space S.m_Space_distance (ok_Space_distance S) (hr.mono (by decide)) S.b_Space_distance .nil pass0 (pa_cons (pv 2) (pa_cons (pv 3) pa_nil))) (nomark _))))))))), ?_⟩
  obtain ⟨_, dx, hp⟩ := id hs
  unfold btw at k
  refine ⟨_, rfl, sp, dx, _, rfl, hp, rfl, _, rfl, _, rfl, sp, b, x, p, rfl, hs, ?_⟩
  refine ⟨_, rfl, _, _, rfl, rfl, _, rfl, ?_⟩
  by_cases h0 : 0 < dist b x p
  · rw [decide_eq_true h0] at k ⊢
    refine iteT ⟨_, rfl, _, rfl, rfl, _, rfl, ?_⟩
    have e : decide (V.int x = V.int y) = decide (x = y) := by simp
    rw [e]
    by_cases h1 : x = y
    · rw [decide_eq_true h1] at k ⊢
      exact iteT k
    · rw [decide_eq_false h1] at k ⊢
      exact iteF ⟨_, rfl, _, rfl, sp, dx, _, rfl, hp, rfl, _, rfl, _, rfl, sp, b, x, y, rfl, hs, _, _, rfl, rfl, k⟩
  · rw [decide_eq_false h0] at k ⊢
    exact iteF k
/-! ### the first of the least -/
def argMin (g : Int → Int) : List Int → Int
  | [] => 0
  | a :: r => r.foldl (fun m x => if g x < g m then x else m) a
theorem foldMin_spec (g : Int → Int) : ∀ (r : List Int) (pre : List Int) (a : Int) (i : Nat), pre[i]? = some a → (∀ (j : Nat) (y : Int), pre[j]? = some y → g a ≤ g y ∧ (j < i → g a < g y)) →
    ∃ k : Nat, (pre ++ r)[k]? = some (r.foldl (fun m x => if g x < g m then x else m) a) ∧ ∀ (j : Nat) (y : Int), (pre ++ r)[j]? = some y → g (r.foldl (fun m x => if g x < g m then x else m) a) ≤ g y ∧ (j < k → g (r.foldl (fun m x => if g x < g m then x else m) a) < g y)
  | [], pre, a, i, h1, h2 => ⟨i, by simpa using h1, fun j y e => h2 j y (by simpa using e)⟩
  | x :: r, pre, a, i, h1, h2 => by
    have hi : i < pre.length := (List.getElem?_eq_some_iff.mp h1).1
    have e : pre ++ x :: r = (pre ++ [x]) ++ r := by simp
    rw [e, List.foldl_cons]
    by_cases hx : g x < g a
    · rw [if_pos hx]
      refine foldMin_spec g r (pre ++ [x]) x pre.length (by simp) fun j y hj => ?_
      by_cases hjp : j < pre.length
      · rw [List.getElem?_append_left hjp] at hj
        have := (h2 j y hj).1
        exact ⟨by omega, fun _ => by omega⟩
      · have hj2 : j < (pre ++ [x]).length := (List.getElem?_eq_some_iff.mp hj).1
        rw [List.length_append, List.length_singleton] at hj2
        have ej : j = pre.length := by omega
        subst ej
        have : y = x := by simpa using hj.symm
        subst this
        exact ⟨Int.le_refl _, fun z => absurd z (Nat.lt_irrefl _)⟩
    · rw [if_neg hx]
      refine foldMin_spec g r (pre ++ [x]) a i (by rw [List.getElem?_append_left hi]; exact h1) fun j y hj => ?_
      by_cases hjp : j < pre.length
      · rw [List.getElem?_append_left hjp] at hj
        exact h2 j y hj
      · have hj2 : j < (pre ++ [x]).length := (List.getElem?_eq_some_iff.mp hj).1
        rw [List.length_append, List.length_singleton] at hj2
        have ej : j = pre.length := by omega
        subst ej
        have : y = x := by simpa using hj.symm
        subst this
        exact ⟨by omega, fun z => absurd z (by omega)⟩
theorem argMin_spec (g : Int → Int) {ns : List Int} (hn : ns ≠ []) : ∃ k : Nat, ns[k]? = some (argMin g ns) ∧ ∀ (j : Nat) (y : Int), ns[j]? = some y → g (argMin g ns) ≤ g y ∧ (j < k → g (argMin g ns) < g y) := by
  cases ns with
  | nil => exact (hn rfl).elim
  | cons a r =>
    refine foldMin_spec g r [a] a 0 rfl fun j y e => ?_
    have hj : j < [a].length := (List.getElem?_eq_some_iff.mp e).1
    have ej : j = 0 := by simpa using hj
    subst ej
    have : y = a := by simpa using e.symm
    subst this
    exact ⟨Int.le_refl _, fun z => absurd z (Nat.lt_irrefl _)⟩
theorem argMin_mem (g : Int → Int) {ns : List Int} (hn : ns ≠ []) : argMin g ns ∈ ns := by
  obtain ⟨k, h, _⟩ := argMin_spec g hn
  exact List.mem_of_getElem? h
theorem argMin_le (g : Int → Int) {ns : List Int} {y : Int} (hy : y ∈ ns) : g (argMin g ns) ≤ g y := by
  obtain ⟨k, _, h⟩ := argMin_spec g (ns := ns) (by intro z; rw [z] at hy; cases hy)
  obtain ⟨j, hj⟩ := List.mem_iff_getElem?.mp hy
  exact (h j y hj).1
/-- the only one -/
theorem argMin_is (g : Int → Int) {ns : List Int} {i : Nat} {x : Int} (h1 : ns[i]? = some x) (h2 : ∀ (j : Nat) (y : Int), ns[j]? = some y → g x ≤ g y ∧ (j < i → g x < g y)) : x = argMin g ns := by
  obtain ⟨k, h3, h4⟩ := argMin_spec g (ns := ns) (by intro z; rw [z] at h1; cases h1)
  have e : i = k := by
    rcases Nat.lt_trichotomy i k with z | z | z
    · have q1 := (h4 i x h1).2 z
      have q2 := (h2 k _ h3).1
      omega
    · exact z
    · have q1 := (h2 k _ h3).2 z
      have q2 := (h4 i x h1).1
      omega
  rw [e, h3] at h1
  exact (Option.some.inj h1).symm
/-- by the readings of min's key -/
theorem argMin_of {ns : List Int} {g : Int → Int} {i : Nat} {x : V} (hx : (ns.map V.int)[i]? = some x) (h : ∀ j, j < (ns.map V.int).length → (fun i => g (ns.getD i 0)) i ≤ (fun i => g (ns.getD i 0)) j ∧ (j < i → (fun i => g (ns.getD i 0)) i < (fun i => g (ns.getD i 0)) j)) : x = .int (argMin g ns) := by
  rw [List.getElem?_map] at hx
  cases e : ns[i]? with
  | none => rw [e] at hx; cases hx
  | some n =>
    rw [e] at hx
    have hx' : V.int n = x := Option.some.inj hx
    subst hx'
    have gd : ∀ (j : Nat) (y : Int), ns[j]? = some y → ns.getD j 0 = y := fun j y q => by rw [List.getD_eq_getElem?_getD, q] <;> rfl
    have q := argMin_is g e fun j y hj => by
      have hl : j < (ns.map V.int).length := by rw [List.length_map]; exact (List.getElem?_eq_some_iff.mp hj).1
      have z := h j hl
      simp only [gd i n e, gd j y hj] at z
      exact z
    rw [← q]
theorem keys_of {ns : List Int} {g : Int → Int} {i : Nat} {x : V} (hx : (ns.map V.int)[i]? = some x) : ∃ n, x = .int n ∧ n ∈ ns ∧ g (ns.getD i 0) = g n := by
  rw [List.getElem?_map] at hx
  cases e : ns[i]? with
  | none => rw [e] at hx; cases hx
  | some n =>
    rw [e] at hx
    exact ⟨n, (Option.some.inj hx).symm, List.mem_of_getElem? e, by rw [List.getD_eq_getElem?_getD, e] <;> rfl⟩
def nearest (b : Nat) (ns : List Int) (p : Int) : Int := argMin (fun n => dist b p n) ns
def preceding (b : Nat) (ns : List Int) (p : Int) : Int := argMin (fun n => dist b n (p - 1)) ns
/-- what asking by a lambda leaves: all but the tables as it was -/
def Fin (K : PySem.W.Frag) (H H' : Hp) : Prop := ExtN H H' ∧ Tabs (tabT K) H'
def spNear (K : PySem.W.Frag) : Sp := fun vs H Q _ => ∃ (sp l : Addr) (b : Nat) (ns : List Int) (p : Int), vs = [.ref sp, .ref l, .int p] ∧ SpaceAt K H sp b ∧ Tabs (tabT K) H ∧ SqL K H l (ns.map V.int) ∧ ns ≠ [] ∧ ∀ H', Fin K H H' → Q (.int (nearest b ns p)) H'
theorem sc_Space_nearest : FnScope ["self", "points", "point"] ["self", "points", "point"] (defScope s_Space_nearest) := ⟨rfl, rfl, rfl, by decide +kernel, rfl, by decide +kernel, by decide +kernel⟩
theorem ok_Space_nearest (S : Say K mg base) : FnOk P w K mg base CX0 6 (He.ma K (He.ga K "Space") "nearest") (fdO K ("Space", some "nearest")) ["self", "points", "point"] (spNear K) := by
  refine okC (S.F_Space_nearest) sc_Space_nearest (fun vs H Q E h => ?_) (fun cdv hcd hc A outer s H vs Q E hr h => ?_)
  · obtain ⟨sp, l, b, ns, p, rfl, hs, ht, hl, hn, k⟩ := h
    rfl
  obtain ⟨sp, l, b, ns, p, rfl, hs, ht, hl, hn, k⟩ := h
  have hu := hu_of hr
  refine ⟨_, PSs.nox (pss_one (ps_ret (pe_minK ⟨lamTab S (i := 1) rfl rfl rfl hcd hc, lamS1_by (sc := defScope s_Space_nearest) (by decide +kernel), rfl, (by intros; rfl), capOk_by (N := ["self", "points", "point"]) (a := "one") (Nf := ["self", "point"]) (js := [0, 2]) (by decide +kernel), ⟨rfl, rfl⟩, hr.mono (k := 2 + 3) (by decide), fun A s H f c' hr => pe_meth (pv 1) S.c_Space S.m_Space_distance (ok_Space_distance S) hr S.b_Space_distance .nil pass0 (pa_cons (pv 2) (pa_cons (pv 0) pa_nil))⟩ rfl S.z_min (pa_cons (pv 1) pa_nil)))), ?_⟩
  refine ⟨_, rfl, ht, l, _, rfl, hl, fun H2 e t => ⟨?_, fun i => dist b p (ns.getD i 0), fun i x hx => ?_, fun i x hx hb => ?_⟩⟩
  · rw [List.length_map]
    exact List.length_pos_iff.mpr hn
  · obtain ⟨n, rfl, _, en⟩ := keys_of (g := fun n => dist b p n) hx
    have hs2 := hs.ext e
    obtain ⟨_, dx, hp⟩ := id hs2
    refine ⟨_, rfl, sp, dx, _, rfl, hp, rfl, _, rfl, _, rfl, sp, b, p, n, rfl, hs2, ?_, rfl⟩
    show V.int _ = V.int _
    rw [← en]
  · rw [argMin_of (g := fun n => dist b p n) hx hb]
    exact k H2 ⟨e, t⟩
def spPrec (K : PySem.W.Frag) : Sp := fun vs H Q _ => ∃ (sp l : Addr) (b : Nat) (ns : List Int) (p : Int), vs = [.ref sp, .ref l, .int p] ∧ SpaceAt K H sp b ∧ Tabs (tabT K) H ∧ SqL K H l (ns.map V.int) ∧ ns ≠ [] ∧ ∀ H', Fin K H H' → Q (.int (preceding b ns p)) H'
theorem sc_Space_preceding : FnScope ["self", "points", "point"] ["self", "points", "point"] (defScope s_Space_preceding) := ⟨rfl, rfl, rfl, by decide +kernel, rfl, by decide +kernel, by decide +kernel⟩
theorem ok_Space_preceding (S : Say K mg base) : FnOk P w K mg base CX0 6 (He.ma K (He.ga K "Space") "preceding") (fdO K ("Space", some "preceding")) ["self", "points", "point"] (spPrec K) := by
  refine okC (S.F_Space_preceding) sc_Space_preceding (fun vs H Q E h => ?_) (fun cdv hcd hc A outer s H vs Q E hr h => ?_)
  · obtain ⟨sp, l, b, ns, p, rfl, hs, ht, hl, hn, k⟩ := h
    rfl
  obtain ⟨sp, l, b, ns, p, rfl, hs, ht, hl, hn, k⟩ := h
  have hu := hu_of hr
  refine ⟨_, PSs.nox (pss_one (ps_ret (pe_minK ⟨lamTab S (i := 2) rfl rfl rfl hcd hc, lamS1_by (sc := defScope s_Space_preceding) (by decide +kernel), rfl, (by intros; rfl), capOk_by (N := ["self", "points", "point"]) (a := "one") (Nf := ["self", "point"]) (js := [0, 2]) (by decide +kernel), ⟨rfl, rfl⟩, hr.mono (k := 2 + 3) (by decide), fun A s H f c' hr => pe_meth (pv 1) S.c_Space S.m_Space_distance (ok_Space_distance S) hr S.b_Space_distance .nil pass0 (pa_cons (pv 0) (pa_cons (pe_op op_sub (pv 2) pe_int) pa_nil))⟩ rfl S.z_min (pa_cons (pv 1) pa_nil)))), ?_⟩
  refine ⟨_, rfl, ht, l, _, rfl, hl, fun H2 e t => ⟨?_, fun i => dist b (ns.getD i 0) (p - 1), fun i x hx => ?_, fun i x hx hb => ?_⟩⟩
  · rw [List.length_map]
    exact List.length_pos_iff.mpr hn
  · obtain ⟨n, rfl, _, en⟩ := keys_of (g := fun n => dist b n (p - 1)) hx
    have hs2 := hs.ext e
    obtain ⟨_, dx, hp⟩ := id hs2
    refine ⟨_, rfl, sp, dx, _, rfl, hp, rfl, _, rfl, _, rfl, _, _, rfl, rfl, sp, b, n, p - 1, rfl, hs2, ?_, rfl⟩
    show V.int _ = V.int _
    rw [← en]
  · rw [argMin_of (g := fun n => dist b n (p - 1)) hx hb]
    exact k H2 ⟨e, t⟩
def spSpaceI (K : PySem.W.Frag) : Sp := fun vs H Q _ => ∃ (x dx : Addr) (b : Nat), vs = [.ref x, .int b] ∧ H x = some (.ins (He.ga K "Space") dx []) ∧ (3 ≤ b ∧ b ≤ 32) ∧ Q .non (upd H x (.ins (He.ga K "Space") dx [("own_bits", V.int b)]))
theorem sc_Space_init : FnScope ["self", "bits"] ["self", "bits"] (defScope s_Space_init) := ⟨rfl, rfl, rfl, by decide +kernel, rfl, by decide +kernel, by decide +kernel⟩
theorem ok_Space_init (S : Say K mg base) : FnOk P w K mg base CX0 2 (He.ma K (He.ga K "Space") "__init__") (fdO K ("Space", some "__init__")) ["self", "bits"] (spSpaceI K) := by
  refine (S.F_Space_init).ok sc_Space_init (fun vs H Q E h => ?_) (fun cdv A outer s H vs Q E hr h => ?_)
  · obtain ⟨x, dx, b, rfl, hx, hb, k⟩ := h
    rfl
  obtain ⟨x, dx, b, rfl, hx, hb, k⟩ := h
  have hu := hu_of hr
  refine ⟨_, PSs.nox (pss_cons (ps_if (PW.pt (pw_or (pt_not (pt_val (pe_call (ok_is_whole S) (hr.mono (by decide)) rfl S.g_is_whole (S.F_is_whole).kp S.b_is_whole .nil pass0 (pa_cons (pv 1) pa_nil)))) (pw_or1 (pt_not (pt_chain op_le op_le (pe_glob (v := V.int 3) rfl (S.i_LEAST_BITS).choose_spec ⟨_, rfl⟩) (pv 1) (pe_glob (v := V.int 32) rfl (S.i_MOST_BITS).choose_spec ⟨_, rfl⟩)))))) (pss_one ps_never) pss_nil)
        (pss_one (ps_fld (pv 0) (pv 1) rfl))), ?_⟩
  refine ⟨_, rfl, .int b, rfl, .int _, _, rfl, ?_⟩
  refine iteF ⟨_, rfl, _, _, rfl, rfl, _, rfl, ?_⟩
  rw [decide_eq_true (show (3 : Int) ≤ b by omega)]
  refine iteT ⟨_, _, rfl, rfl, _, rfl, ?_⟩
  rw [decide_eq_true (show (b : Int) ≤ 32 by omega)]
  exact iteF ⟨_, rfl, _, rfl, x, _, dx, _, rfl, hx, S.c_Space, S.n_Space_own_bits, by decide, k⟩
end
end Nn
set_option Elab.async false
set_option linter.all false
set_option maxRecDepth 100000
set_option maxHeartbeats 1000000
namespace Nn
open PySem PySem.Spec PyProof.Rows L2 LamX KeyL
/-! ### lists of ints -/
theorem flatI (ns : List Int) : (ns.map V.int).all flatV = true := by
  induction ns with
  | nil => rfl
  | cons n r ih => simp [flatV]
theorem inI (n : Int) (ns : List Int) : inV (.int n) (ns.map V.int) = decide (n ∈ ns) := by
  unfold inV
  rw [List.any_map]
  induction ns with
  | nil => rfl
  | cons m r ih =>
    rw [List.any_cons, ih]
    by_cases h : n = m
    · subst h
      simp [eqV]
    · have h2 : ¬ m = n := fun z => h z.symm
      have e1 : ((fun y => eqV y (V.int n)) ∘ V.int) m = false := by simp [eqV, h2]
      rw [e1, Bool.false_or]
      simp [h]
theorem szI {n : Nat} (h : n ≤ 1000) : n ≤ sizeLine := by rw [sizeLine_eq]; omega
theorem szL {n : Nat} (h : n ≤ 1000) : n < sizeLine := by rw [sizeLine_eq]; omega
/-- a new list -/
def NewL (H : Hp) (xs : List V) (Q : VK) : Prop := ∀ p H', H p = none → H' p = some (.lst xs) → Same H H' → Q (.ref p) H'
theorem same_new {H : Hp} {p : Addr} {o : HO} (h : H p = none) : Same H (upd H p o) := fun b u e => by rw [upd_ne (ne_of_none e h)]; exact e
theorem sameSql {K : PySem.W.Frag} {H H' : Hp} {a : Addr} {xs : List V} (e : Same H H') (h : SqL K H a xs) : SqL K H' a xs := Same.seq e h
theorem sameExtN {H H' : Hp} (e : Same H H') : ExtN H H' := fun b o h _ => e b o h
theorem Fin.of {K : PySem.W.Frag} {H H' : Hp} (e : Same H H') (t : Tabs (tabT K) H) : Fin K H H' := ⟨sameExtN e, t.ext e⟩
theorem Fin.trans {K : PySem.W.Frag} {H H1 H2 : Hp} (a : Fin K H H1) (b : Fin K H1 H2) : Fin K H H2 := ⟨a.1.trans b.1, b.2⟩
theorem Fin.new {K : PySem.W.Frag} {H H1 : Hp} {p : Addr} {o : HO} (a : Fin K H H1) (h : H1 p = none) : Fin K H (upd H1 p o) := a.trans (Fin.of (same_new h) a.2)
theorem Fin.none {K : PySem.W.Frag} {H H1 : Hp} {p : Addr} (a : Fin K H H1) (h : H1 p = none) (ht : ∀ ps, H p ≠ some (.tbl ps)) : H p = none := by
  cases q : H p with
  | none => rfl
  | some o =>
    have z := a.1 p o q fun ps e => ht ps (by rw [q, e])
    rw [h] at z
    cases z
theorem sameNone {H H1 : Hp} {p : Addr} (a : Same H H1) (h : H1 p = none) : H p = none := a.free h
def NewF (K : PySem.W.Frag) (H : Hp) (xs : List V) (Q : VK) : Prop := ∀ p H', (∀ b o, H b = some o → (∀ ps, o ≠ .tbl ps) → b ≠ p) → H' p = some (.lst xs) → Fin K H H' → Q (.ref p) H'
/-- what stood is not the new one -/
def NotOld (H : Hp) (p : Addr) : Prop := ∀ b o, H b = some o → (∀ ps, o ≠ .tbl ps) → b ≠ p
theorem notOld_of {H : Hp} {p : Addr} (h : H p = none) : NotOld H p := fun b o e _ => ne_of_none e h
theorem NotOld.back {K : PySem.W.Frag} {H H1 : Hp} {p : Addr} (a : Fin K H H1) (h : NotOld H1 p) : NotOld H p := fun b o e n => h b o (a.1 b o e n) n
def firstOf (ns some : List Int) : Option Int := ns.find? fun n => decide (n ∈ some)
def oV : Option Int → V
  | .none => .non
  | .some n => .int n
section
variable {P : Program} {w : World} {K : PySem.W.Frag} {mg : Str → Option Value} {base : Heap}
def spFirst (K : PySem.W.Frag) : Sp := fun vs H Q _ => ∃ (a b : Addr) (ns ms : List Int), vs = [.ref a, .ref b] ∧ SqL K H a (ns.map V.int) ∧ SqL K H b (ms.map V.int) ∧ Q (oV (firstOf ns ms)) H
theorem sc_first_of : FnScope ["names", "some", "name"] ["names", "some"] (defScope s_first_of) := ⟨rfl, rfl, rfl, by decide +kernel, rfl, by decide +kernel, by decide +kernel⟩
theorem ok_first_of (S : Say K mg base) : FnOk P w K mg base CX0 1 (He.ga K "first_of") (fdO K ("first_of", none)) ["names", "some"] (spFirst K) := by
  refine (S.F_first_of).ok sc_first_of (fun vs H Q E h => ?_) (fun cdv A outer s H vs Q E hr h => ?_)
  · obtain ⟨a, b, ns, ms, rfl, ha, hb, k⟩ := h
    rfl
  obtain ⟨a, b, ns, ms, rfl, ha, hb, k⟩ := h
  have hu := hu_of hr
  refine ⟨_, PSs.nox (pss_cons (ps_for PassesOwn.never rfl (pi_list (pv 0)) (pg_name (i := 2) sc_first_of.nd rfl (Or.inl rfl))
        (pss_one (ps_if (pt_cmpR op_in_seq (pv 2) (pv 1) rfl) (pss_one (ps_ret (pv 2))) pss_nil)))
        (pss_one (ps_ret pe_non))), ?_⟩
  refine ⟨_, rfl, a, rfl, ⟨_, ha⟩, for_list (K := K) (a := a) (xs := ns.map V.int) (fun i σ H2 => H2 = H ∧ firstOf ns ms = firstOf (ns.drop i) ms ∧ ∃ v, σ = [some (.ref a), some (.ref b), v]) ⟨rfl, rfl, _, rfl⟩ (fun i σ H2 _ h => by rw [h.1]; exact ha) ?_ ?_⟩
  · rintro i x σ H2 hi ⟨rfl, he, v, rfl⟩
    obtain ⟨n, hn, rfl⟩ : ∃ n, ns[i]? = some n ∧ x = V.int n := by
      rw [List.getElem?_map] at hi
      cases e : ns[i]? with
      | none => rw [e] at hi; cases hi
      | some z => rw [e] at hi; exact ⟨z, rfl, (Option.some.inj hi).symm⟩
    have hlt : i < ns.length := (List.getElem?_eq_some_iff.mp hn).1
    have hd : ns.drop i = n :: ns.drop (i + 1) := by
      rw [List.drop_eq_getElem_cons hlt]
      rw [List.getElem?_eq_getElem hlt] at hn
      rw [Option.some.inj hn]
    rw [hd] at he
    refine ⟨_, rfl, _, rfl, b, _, rfl, .inl hb, rfl, flatI ms, _, rfl, ?_⟩
    rw [if_neg (by decide), inI]
    unfold firstOf at he
    rw [List.find?_cons] at he
    by_cases hm : n ∈ ms
    · rw [decide_eq_true hm] at he ⊢
      refine iteT ⟨_, rfl, ?_⟩
      show Q (.int n) H2
      have z : firstOf ns ms = some n := he
      rw [z] at k
      exact k
    · rw [decide_eq_false hm] at he ⊢
      exact iteF ⟨rfl, he, _, rfl⟩
  · rintro σ H2 ⟨rfl, he, v, rfl⟩
    rw [List.length_map, List.drop_length] at he
    show Q .non H2
    rw [he] at k
    exact k
def spAdopted (K : PySem.W.Frag) : Sp := fun vs H Q _ => ∃ (n : Int) (l : Addr) (ns : List Int), vs = [.int n, .ref l] ∧ SqL K H l (ns.map V.int) ∧ ns ≠ [] ∧ ns.length ≤ 900 ∧ NewL H ((n :: ns.dropLast).map V.int) Q
theorem sc_adopted : FnScope ["name", "names", "ahead", "last"] ["name", "names"] (defScope s_adopted) := ⟨rfl, rfl, rfl, by decide +kernel, rfl, by decide +kernel, by decide +kernel⟩
theorem ok_adopted (S : Say K mg base) : FnOk P w K mg base CX0 1 (He.ga K "adopted") (fdO K ("adopted", none)) ["name", "names"] (spAdopted K) := by
  refine (S.F_adopted).ok sc_adopted (fun vs H Q E h => ?_) (fun cdv A outer s H vs Q E hr h => ?_)
  · obtain ⟨n, l, ns, rfl, hl, hn, hz, k⟩ := h
    rfl
  obtain ⟨n, l, ns, rfl, hl, hn, hz, k⟩ := h
  have hu := hu_of hr
  refine ⟨_, PSs.nox (pss_cons (ps_asg (pv 1) (pg_star rfl (pgs_cons (pg_name (i := 2) sc_adopted.nd rfl (Or.inl rfl) (Or.inr rfl)) (pgs_cons (pg_name (i := 3) sc_adopted.nd rfl (Or.inl rfl) (Or.inr rfl)) pgs_nil))))
        (pss_one (ps_ret (pe_op op_cat (pe_lst (pa_cons (pv 0) pa_nil)) (pv 2))))), ?_⟩
  have e : ns.map V.int = ns.dropLast.map V.int ++ [V.int (ns.getLast hn)] := by
    rw [← List.map_singleton, ← List.map_append, List.dropLast_concat_getLast hn]
  have z : ns.dropLast.length ≤ 900 := by rw [List.length_dropLast]; omega
  refine ⟨_, rfl, l, _, _, rfl, by rw [← e]; exact hl, fun p hp => ⟨_, _, rfl, _, _, rfl, rfl, ?_⟩⟩
  refine ⟨_, rfl, (by show 1 ≤ sizeLine; decide), fun q hq => ⟨_, rfl, q, p, _, _, rfl, rfl, upd_same, by rw [upd_ne (ne_of_none upd_same hq)]; exact upd_same, szI (by rw [List.length_map]; show 1 + _ ≤ 1000; omega), fun r hr => ?_⟩⟩
  have s1 := (same_new (o := HO.lst (ns.dropLast.map V.int)) hp).trans (same_new (o := HO.lst [V.int n]) hq)
  exact k r _ (s1.free hr) upd_same (s1.trans (same_new hr))
def spliceM (ns : List Int) (gone : Int) (other : List Int) : List Int := if gone ∈ ns then (ns.take (ns.idxOf gone) ++ other).take ns.length else ns
theorem cut_take {xs : List V} {i : Nat} (h : i ≤ xs.length) : cutV xs none (some (i : Int)) = xs.take i := by
  unfold cutV
  rw [HT.sIx_nat, HT.sIx_none, List.drop_zero, Nat.sub_zero, Nat.min_eq_left h]
theorem take_minL (xs : List V) (n : Nat) : xs.take (min n xs.length) = xs.take n := by
  by_cases h : n ≤ xs.length
  · rw [Nat.min_eq_left h]
  · rw [Nat.min_eq_right (by omega), List.take_length, List.take_of_length_le (by omega)]
def spSpliced (K : PySem.W.Frag) : Sp := fun vs H Q _ => ∃ (l o : Addr) (ns ms : List Int) (g : Int), vs = [.ref l, .int g, .ref o] ∧ H l = some (.lst (ns.map V.int)) ∧ H o = some (.lst (ms.map V.int)) ∧ ns.length ≤ 400 ∧ ms.length ≤ 400 ∧ NewL H ((spliceM ns g ms).map V.int) Q
theorem sc_spliced : FnScope ["names", "gone", "other"] ["names", "gone", "other"] (defScope s_spliced) := ⟨rfl, rfl, rfl, by decide +kernel, rfl, by decide +kernel, by decide +kernel⟩
theorem ok_spliced (S : Say K mg base) : FnOk P w K mg base CX0 1 (He.ga K "spliced") (fdO K ("spliced", none)) ["names", "gone", "other"] (spSpliced K) := by
  refine (S.F_spliced).ok sc_spliced (fun vs H Q E h => ?_) (fun cdv A outer s H vs Q E hr h => ?_)
  · obtain ⟨l, o, ns, ms, g, rfl, hl, ho, hn, hm, k⟩ := h
    rfl
  obtain ⟨l, o, ns, ms, g, rfl, hl, ho, hn, hm, k⟩ := h
  have hu := hu_of hr
  refine ⟨_, PSs.nox (pss_cons (ps_if (pt_cmpR op_notIn_seq (pv 1) (pv 0) rfl) (pss_one (ps_ret (pe_callTy call_list_of (by rfl) S.z_list (by decide +kernel) (pa_cons (pv 0) pa_nil)))) pss_nil)
        (pss_one (ps_ret (pe_slice sl_list (pe_op op_cat (pe_slice sl_list (pv 0) po_none (po_some (pe_bm PySem.F.plainAttrs_list PySem.F.slot_list_index PySem.F.type_list_index mt_index (pv 0) (pa_cons (pv 1) pa_nil)))) (pv 2)) po_none (po_some (pe_callB call_len_seq (by rfl) S.z_len (by decide +kernel) (pa_cons (pv 0) pa_nil))))))), ?_⟩
  refine ⟨_, rfl, _, rfl, l, _, rfl, .inl (.inl (.inl hl)), rfl, flatI ns, _, rfl, ?_⟩
  rw [if_pos rfl, inI]
  unfold spliceM at k
  by_cases hg : g ∈ ns
  · rw [if_pos hg] at k
    rw [decide_eq_true hg]
    have hi : ns.idxOf g < ns.length := List.idxOf_lt_length_of_mem hg
    refine iteF ⟨_, rfl, _, rfl, .inl ⟨rfl, _, .inl (.inl hl)⟩, _, rfl, l, _, _, ns.idxOf g, _, rfl, rfl, .inl (.inl hl), rfl, flatI ns, by rw [List.getElem?_map, List.getElem?_eq_getElem hi] <;> rfl, ?_, ?_, _, rfl, l, _, rfl, .inl (.inl hl), fun p hp => ?_⟩
    · simp [eqV]
    · intro m z hm1 hz
      rw [List.getElem?_map] at hz
      cases e : ns[m]? with
      | none => rw [e] at hz; cases hz
      | some y =>
        rw [e] at hz
        have hz' : V.int y = z := Option.some.inj hz
        subst hz'
        have hml : m < ns.length := (List.getElem?_eq_some_iff.mp e).1
        have ne : ns[m] ≠ g := fun q => by
          have z := List.not_of_lt_findIdx (p := (· == g)) (xs := ns) (i := m) hm1
          simp [q] at z
        rw [List.getElem?_eq_getElem hml] at e
        rw [Option.some.inj e] at ne
        simp [eqV, ne]
    rw [cut_take (by rw [List.length_map]; omega)]
    refine ⟨_, rfl, p, o, _, _, rfl, rfl, upd_same, by rw [upd_ne (ne_of_none ho hp)]; exact ho, szI (by rw [List.length_take, List.length_map, List.length_map]; omega), fun q hq => ?_⟩
    have s1 := same_new (o := HO.lst ((ns.map V.int).take (ns.idxOf g))) hp
    have s2 := s1.trans (same_new (o := HO.lst ((ns.map V.int).take (ns.idxOf g) ++ ms.map V.int)) hq)
    refine ⟨_, rfl, l, _, rfl, .inl (.inl (.inl (s2 _ _ hl))), _, rfl, q, _, rfl, .inl (.inl upd_same), fun r hr => ?_⟩
    refine k r _ (s2.free hr) ?_ (s2.trans (same_new hr))
    rw [upd_same]
    show some (HO.lst (cutV ((ns.map V.int).take (ns.idxOf g) ++ ms.map V.int) none (some ((ns.map V.int).length : Int)))) = _
    unfold cutV
    rw [HT.sIx_nat, HT.sIx_none, List.drop_zero, Nat.sub_zero, List.map_take, List.map_append, List.map_take, List.length_map]
    rw [take_minL]
  · rw [if_neg hg] at k
    rw [decide_eq_false hg]
    exact iteT ⟨_, rfl, l, _, rfl, .inl (.inl (.inl hl)), fun p hp => k p _ hp upd_same (same_new hp)⟩
/-! ### names by how far they are -/
/-- sorted by a key that tells them apart: the only one -/
theorem sorted_unique {g : Int → Int} : ∀ {xs ys : List Int}, xs.Perm ys → xs.Pairwise (fun x y => g x ≤ g y) → ys.Pairwise (fun x y => g x ≤ g y) → (∀ x ∈ ys, ∀ y ∈ ys, g x = g y → x = y) → xs = ys
  | [], ys, h, _, _, _ => by rw [List.nil_perm.mp h]
  | x :: xs, [], h, _, _, _ => by have := h.length_eq; simp at this
  | x :: xs, y :: ys, h, h1, h2, h3 => by
    have hx : x ∈ y :: ys := h.mem_iff.mp (List.mem_cons_self ..)
    have hy : y ∈ x :: xs := h.mem_iff.mpr (List.mem_cons_self ..)
    have e : x = y := by
      refine h3 x hx y (List.mem_cons_self ..) ?_
      have l1 : g x ≤ g y := by
        rcases List.mem_cons.mp hy with z | z
        · rw [z]; exact Int.le_refl _
        · exact (List.pairwise_cons.mp h1).1 y z
      have l2 : g y ≤ g x := by
        rcases List.mem_cons.mp hx with z | z
        · rw [z]; exact Int.le_refl _
        · exact (List.pairwise_cons.mp h2).1 x z
      omega
    subst e
    rw [sorted_unique (List.Perm.cons_inv h) (List.pairwise_cons.mp h1).2 (List.pairwise_cons.mp h2).2 fun a ha b hb => h3 a (List.mem_cons_of_mem _ ha) b (List.mem_cons_of_mem _ hb)]
def upw (b : Nat) (ns : List Int) (p : Int) : List Int := ns.mergeSort fun x y => decide (dist b p x ≤ dist b p y)
theorem upw_perm (b : Nat) (ns : List Int) (p : Int) : (upw b ns p).Perm ns := List.mergeSort_perm ..
theorem upw_sorted (b : Nat) (ns : List Int) (p : Int) : (upw b ns p).Pairwise fun x y => dist b p x ≤ dist b p y := by
  have h := List.pairwise_mergeSort (le := fun x y => decide (dist b p x ≤ dist b p y)) (fun x y z h1 h2 => by simp at *; omega) (fun x y => by simp; omega) ns
  exact h.imp fun h => by simpa using h
/-- points -/
def Pts (b : Nat) (ns : List Int) : Prop := ∀ n ∈ ns, 0 ≤ n ∧ n < 2 ^ b
theorem dist_inj {b : Nat} {p x y : Int} (hx : 0 ≤ x ∧ x < 2 ^ b) (hy : 0 ≤ y ∧ y < 2 ^ b) (h : dist b p x = dist b p y) : x = y := by
  have key : ∀ u v : Int, 0 ≤ u → u < 2 ^ b → 0 ≤ v → v < 2 ^ b → v ≤ u → (u - p) % (2 : Int) ^ b = (v - p) % 2 ^ b → u = v := fun u v h1 h2 h3 h4 hle h => by
    have e := Int.emod_eq_emod_iff_emod_sub_eq_zero.mp h
    have e2 : u - p - (v - p) = u - v := by omega
    rw [e2, Int.emod_eq_of_lt (by omega) (by omega)] at e
    omega
  unfold dist at h
  rcases Int.le_total x y with z | z
  · exact (key y x hy.1 hy.2 hx.1 hx.2 z h.symm).symm
  · exact key x y hx.1 hx.2 hy.1 hy.2 z h
def spUpw (K : PySem.W.Frag) : Sp := fun vs H Q _ => ∃ (sp l : Addr) (b : Nat) (ns : List Int) (p : Int), vs = [.ref sp, .ref l, .int p] ∧ SpaceAt K H sp b ∧ Tabs (tabT K) H ∧ SqL K H l (ns.map V.int) ∧ ns.length < 64 ∧ Pts b ns ∧ ∀ q H', NotOld H q → H' q = some (.lst ((upw b ns p).map V.int)) → Fin K H H' → Q (.ref q) H'
theorem sc_upwards : FnScope ["space", "names", "point"] ["space", "names", "point"] (defScope s_upwards) := ⟨rfl, rfl, rfl, by decide +kernel, rfl, by decide +kernel, by decide +kernel⟩
theorem ok_upwards (S : Say K mg base) : FnOk P w K mg base CX0 6 (He.ga K "upwards") (fdO K ("upwards", none)) ["space", "names", "point"] (spUpw K) := by
  refine okC (S.F_upwards) sc_upwards (fun vs H Q E h => ?_) (fun cdv hcd hc A outer s H vs Q E hr h => ?_)
  · obtain ⟨sp, l, b, ns, p, rfl, hs, ht, hl, hn, hp, k⟩ := h
    rfl
  obtain ⟨sp, l, b, ns, p, rfl, hs, ht, hl, hn, hp, k⟩ := h
  have hu := hu_of hr
  refine ⟨_, PSs.nox (pss_one (ps_ret (pe_sortK ⟨lamTab S (i := 3) rfl rfl rfl hcd hc, lamS1_by (sc := defScope s_upwards) (by decide +kernel), rfl, (by intros; rfl), capOk_by (N := ["space", "names", "point"]) (a := "name") (Nf := ["space", "point"]) (js := [0, 2]) (by decide +kernel), ⟨rfl, rfl⟩, hr.mono (k := 2 + 3) (by decide), fun A s H f c' hr => pe_meth (pv 1) S.c_Space S.m_Space_distance (ok_Space_distance S) hr S.b_Space_distance .nil pass0 (pa_cons (pv 2) (pa_cons (pv 0) pa_nil))⟩ rfl S.z_sorted (pa_cons (pv 1) pa_nil)))), ?_⟩
  refine ⟨_, rfl, ht, l, _, rfl, hl, fun H2 e t => ⟨ns, fun n => dist b p n, rfl, hn, fun n hn => ?_, fun ns' D hP hO hD => ?_⟩⟩
  · have hs2 := hs.ext e
    obtain ⟨_, dx, hp⟩ := id hs2
    exact ⟨_, rfl, sp, dx, _, rfl, hp, rfl, _, rfl, _, rfl, sp, b, p, n, rfl, hs2, rfl, rfl⟩
  · have eu : ns' = upw b ns p := sorted_unique (hP.trans (upw_perm b ns p).symm) hO (upw_sorted b ns p) fun x hx y hy h => dist_inj (hp x ((upw_perm b ns p).mem_iff.mp hx)) (hp y ((upw_perm b ns p).mem_iff.mp hy)) h
    rw [eu]
    have f1 : Fin K H H2 := ⟨e, t⟩
    exact k D _ ((notOld_of hD).back f1) upd_same (f1.new hD)
/-! ### comprehensions over a list of ints -/
def othersM (b : Nat) (ns : List Int) (n : Int) : List Int := (upw b ns n).filter fun m => decide (m ≠ n)
def spOthers (K : PySem.W.Frag) : Sp := fun vs H Q _ => ∃ (sp l : Addr) (b : Nat) (ns : List Int) (p : Int), vs = [.ref sp, .ref l, .int p] ∧ SpaceAt K H sp b ∧ Tabs (tabT K) H ∧ SqL K H l (ns.map V.int) ∧ ns.length < 64 ∧ Pts b ns ∧ ∀ q H', NotOld H q → H' q = some (.lst ((othersM b ns p).map V.int)) → Fin K H H' → Q (.ref q) H'
theorem getI {ns : List Int} {i : Nat} {x : V} (hi : (ns.map V.int)[i]? = some x) : ∃ n, ns[i]? = some n ∧ x = V.int n := by
  rw [List.getElem?_map] at hi
  cases e : ns[i]? with
  | none => rw [e] at hi; cases hi
  | some z => rw [e] at hi; exact ⟨z, rfl, (Option.some.inj hi).symm⟩
theorem take_one {ns : List Int} {i : Nat} {n : Int} (h : ns[i]? = some n) : ns.take (i + 1) = ns.take i ++ [n] := by rw [List.take_add_one, h]; rfl
theorem sc_others_upwards : FnScope ["space", "names", "name", "one"] ["space", "names", "name"] (defScope s_others_upwards) := ⟨rfl, rfl, rfl, by decide +kernel, rfl, by decide +kernel, by decide +kernel⟩
theorem ok_others_upwards (S : Say K mg base) : FnOk P w K mg base CX0 7 (He.ga K "others_upwards") (fdO K ("others_upwards", none)) ["space", "names", "name"] (spOthers K) := by
  refine (S.F_others_upwards).ok sc_others_upwards (fun vs H Q E h => ?_) (fun cdv A outer s H vs Q E hr h => ?_)
  · obtain ⟨sp, l, b, ns, p, rfl, hs, ht, hl, hn, hp, k⟩ := h
    rfl
  obtain ⟨sp, l, b, ns, p, rfl, hs, ht, hl, hn, hp, k⟩ := h
  have hu := hu_of hr
  refine ⟨_, PSs.nox (pss_one (ps_ret (pe_lc (own := [("one", 3)]) rfl sc_others_upwards.nd (pi_list (pe_call (ok_upwards S) (hr.mono (by decide)) rfl S.g_upwards (S.F_upwards).kp S.b_upwards .nil pass0 (pa_cons (pv 0) (pa_cons (pv 1) (pa_cons (pv 2) pa_nil))))) (blkOk_by (own := [("one", 3)]) (N := ["space", "names", "name", "one"]) (sc := defScope s_others_upwards) (by decide +kernel)) (fun _ _ _ _ _ => (pg_name (i := 3) sc_others_upwards.nd rfl (Or.inl rfl))) (fun _ _ _ _ _ => (pts_one (pt_cmpR op_ne (pv 3) (pv 2) (nomark _)))) (fun _ _ _ _ _ => (pv 3))))), ?_⟩
  refine ⟨_, rfl, _, rfl, _, rfl, sp, l, b, ns, p, rfl, hs, ht, hl, hn, hp, fun q H1 nq hq f1 => ⟨q, rfl, ⟨_, .inl (.inl hq)⟩, fun D hD => ?_⟩⟩
  have hlen : (upw b ns p).length = ns.length := (upw_perm b ns p).length_eq
  refine lc_list (K := K) (a := q) (xs := (upw b ns p).map V.int) (fun i H2 => Same H1 H2 ∧ H2 D = some (.lst ((((upw b ns p).take i).filter fun m => decide (m ≠ p)).map V.int))) ⟨same_new hD, upd_same⟩ (fun i H2 _ h => .inl (.inl (h.1 _ _ hq))) ?_ ?_
  · rintro i x H2 hi ⟨s2, hd⟩
    obtain ⟨m, hm, rfl⟩ := getI hi
    refine ⟨rfl, _, rfl, _, rfl, rfl, _, rfl, ?_⟩
    have e : decide (V.int m = V.int p) = decide (m = p) := by simp
    rw [e]
    by_cases h : m = p
    · rw [decide_eq_true h]
      refine iteF ⟨s2, ?_⟩
      rw [hd, take_one hm, List.filter_append]
      simp [h]
    · rw [decide_eq_false h]
      have nD : ∀ b' o, H1 b' = some o → b' ≠ D := fun b' o e => ne_of_none e hD
      refine iteT ⟨_, rfl, _, hd, szL ?_, fun b' o e => by rw [upd_ne (nD b' o e)]; exact s2 b' o e, ?_⟩
      · rw [List.length_map]
        have := List.length_filter_le (fun m => decide (m ≠ p)) ((upw b ns p).take i)
        rw [List.length_take] at this
        omega
      · rw [upd_same, take_one hm, List.filter_append]
        simp [h]
  · rintro H2 ⟨s2, hd⟩
    rw [List.length_map, List.take_length] at hd
    have f2 : Fin K H1 H2 := Fin.of s2 f1.2
    exact k D H2 ((notOld_of hD).back f1) hd (f1.trans f2)
end
end Nn
set_option Elab.async false
set_option linter.all false
set_option maxRecDepth 100000
set_option maxHeartbeats 1000000
namespace Nn
open PySem PySem.Spec PyProof.Rows L2 LamX KeyL
/-! ### a node -/
def nodeF (c : Addr) (pr : V) (f t : Addr) : List (Str × V) := [("chain", .ref c), ("prior", pr), ("far", .ref f), ("things", .ref t)]
theorem nodeF_put (c : Addr) (pr : V) (f t : Addr) : putF "things" (.ref t) (putF "far" (.ref f) (putF "prior" pr (putF "chain" (.ref c) []))) = nodeF c pr f t := by rfl
theorem nodeF_chain (c d : Addr) (pr : V) (f t : Addr) : putF "chain" (.ref d) (nodeF c pr f t) = nodeF d pr f t := by rfl
theorem nodeF_prior (c : Addr) (pr qr : V) (f t : Addr) : putF "prior" qr (nodeF c pr f t) = nodeF c qr f t := by rfl
/-- neither a table nor a thing by what is true of it -/
def plainO : HO → Bool
  | .tbl _ => false
  | .ext _ => false
  | _ => true
theorem plainO_tbl {o : HO} (h : plainO o = true) : ∀ ps, o ≠ .tbl ps := fun ps e => by rw [e] at h; cases h
/-- tables stay where another thing is written -/
theorem tabs_upd {T : List (Addr × Str)} {H : Hp} {D : Addr} {o o' : HO} (t : Tabs T H) (h : H D = some o) (hp : plainO o = true) : Tabs T (upd H D o') := fun p hpT => by
  obtain ⟨ps, e1, e2, e3⟩ := t p hpT
  have n1 : p.1 ≠ D := fun e => by
    rw [e, h] at e1
    cases e1
    cases hp
  refine ⟨ps, by rw [upd_ne n1]; exact e1, e2, fun pos cv hc => ?_⟩
  obtain ⟨c, e4, e5⟩ := e3 pos cv hc
  have n2 : c ≠ D := fun e => by
    rw [e, h] at e5
    have e6 := Option.some.inj e5
    unfold CodeO at e6
    rw [e6] at hp
    cases hp
  exact ⟨c, e4, by rw [upd_ne n2]; exact e5⟩
def farPt (b : Nat) (n : Int) (k : Nat) : Int := (n + 2 ^ k) % 2 ^ b
def rightFar (b : Nat) (ns : List Int) (n : Int) : List Int := (List.range b).map fun k => nearest b ns (farPt b n k)
section
variable {P : Program} {w : World} {K : PySem.W.Frag} {mg : Str → Option Value} {base : Heap}
def spFarPt (K : PySem.W.Frag) : Sp := fun vs H Q _ => ∃ (sp : Addr) (b k : Nat) (n : Int), vs = [.ref sp, .int n, .int k] ∧ SpaceAt K H sp b ∧ k ≤ 100 ∧ Q (.int (farPt b n k)) H
theorem sc_far_point : FnScope ["space", "name", "k"] ["space", "name", "k"] (defScope s_far_point) := ⟨rfl, rfl, rfl, by decide +kernel, rfl, by decide +kernel, by decide +kernel⟩
theorem ok_far_point (S : Say K mg base) : FnOk P w K mg base CX0 2 (He.ga K "far_point") (fdO K ("far_point", none)) ["space", "name", "k"] (spFarPt K) := by
  refine (S.F_far_point).ok sc_far_point (fun vs H Q E h => ?_) (fun cdv A outer s H vs Q E hr h => ?_)
  · obtain ⟨sp, b, j, n, rfl, hs, hj, k⟩ := h
    rfl
  obtain ⟨sp, b, j, n, rfl, hs, hj, k⟩ := h
  have hu := hu_of hr
  refine ⟨_, PSs.nox (pss_one (ps_ret (pe_op op_mod (pe_op op_add (pv 1) (pe_op op_shl pe_int (pv 2))) (pe_meth0 (pv 0) S.c_Space S.m_Space_size (ok_Space_size S) (hr.mono (by decide)) S.b_Space_size .nil pass0)))), ?_⟩
  obtain ⟨_, dx, hp⟩ := id hs
  refine ⟨_, rfl, _, rfl, _, _, rfl, rfl, ⟨by omega, by omega, by decide⟩, _, _, rfl, rfl, _, rfl, sp, dx, _, rfl, hp, rfl, sp, b, rfl, hs, _, _, rfl, rfl, two_pos b, ?_⟩
  show Q (.int ((n + 1 * 2 ^ ((j : Int)).toNat) % 2 ^ b)) H
  rw [Int.one_mul, Int.toNat_natCast]
  exact k
theorem cut_takeM (xs : List V) (m : Nat) : cutV xs none (some (m : Int)) = xs.take m := by
  unfold cutV
  rw [HT.sIx_nat, HT.sIx_none, List.drop_zero, Nat.sub_zero, take_minL]
def spRChain (K : PySem.W.Frag) : Sp := fun vs H Q _ => ∃ (sp l : Addr) (b m : Nat) (ns : List Int) (p : Int), vs = [.ref sp, .ref l, .int p, .int m] ∧ SpaceAt K H sp b ∧ Tabs (tabT K) H ∧ SqL K H l (ns.map V.int) ∧ ns.length < 64 ∧ Pts b ns ∧ ∀ q H', NotOld H q → H' q = some (.lst (((othersM b ns p).take m).map V.int)) → Fin K H H' → Q (.ref q) H'
theorem sc_right_chain : FnScope ["space", "names", "name", "many"] ["space", "names", "name", "many"] (defScope s_right_chain) := ⟨rfl, rfl, rfl, by decide +kernel, rfl, by decide +kernel, by decide +kernel⟩
theorem ok_right_chain (S : Say K mg base) : FnOk P w K mg base CX0 8 (He.ga K "right_chain") (fdO K ("right_chain", none)) ["space", "names", "name", "many"] (spRChain K) := by
  refine (S.F_right_chain).ok sc_right_chain (fun vs H Q E h => ?_) (fun cdv A outer s H vs Q E hr h => ?_)
  · obtain ⟨sp, l, b, m, ns, p, rfl, hs, ht, hl, hn, hp, k⟩ := h
    rfl
  obtain ⟨sp, l, b, m, ns, p, rfl, hs, ht, hl, hn, hp, k⟩ := h
  have hu := hu_of hr
  refine ⟨_, PSs.nox (pss_one (ps_ret (pe_slice sl_list (pe_call (ok_others_upwards S) (hr.mono (by decide)) rfl S.g_others_upwards (S.F_others_upwards).kp S.b_others_upwards .nil pass0 (pa_cons (pv 0) (pa_cons (pv 1) (pa_cons (pv 2) pa_nil)))) po_none (po_some (pv 3))))), ?_⟩
  refine ⟨_, rfl, _, rfl, _, rfl, sp, l, b, ns, p, rfl, hs, ht, hl, hn, hp, fun q H1 nq hq f1 => ⟨_, rfl, _, rfl, q, _, rfl, .inl (.inl hq), fun r hr => ?_⟩⟩
  refine k r _ ((notOld_of hr).back f1) ?_ (f1.new hr)
  rw [upd_same]
  show some (HO.lst (cutV ((othersM b ns p).map V.int) none (some (m : Int)))) = _
  rw [cut_takeM, List.map_take]
def spRFar (K : PySem.W.Frag) : Sp := fun vs H Q _ => ∃ (sp l : Addr) (b : Nat) (ns : List Int) (p : Int), vs = [.ref sp, .ref l, .int p] ∧ SpaceAt K H sp b ∧ Tabs (tabT K) H ∧ SqL K H l (ns.map V.int) ∧ ns ≠ [] ∧ ∀ q H', NotOld H q → H' q = some (.lst ((rightFar b ns p).map V.int)) → Fin K H H' → Q (.ref q) H'
theorem sc_right_far : FnScope ["space", "names", "name", "k"] ["space", "names", "name"] (defScope s_right_far) := ⟨rfl, rfl, rfl, by decide +kernel, rfl, by decide +kernel, by decide +kernel⟩
theorem ok_right_far (S : Say K mg base) : FnOk P w K mg base CX0 7 (He.ga K "right_far") (fdO K ("right_far", none)) ["space", "names", "name"] (spRFar K) := by
  refine (S.F_right_far).ok sc_right_far (fun vs H Q E h => ?_) (fun cdv A outer s H vs Q E hr h => ?_)
  · obtain ⟨sp, l, b, ns, p, rfl, hs, ht, hl, hn, k⟩ := h
    rfl
  obtain ⟨sp, l, b, ns, p, rfl, hs, ht, hl, hn, k⟩ := h
  have hu := hu_of hr
  refine ⟨_, PSs.nox (pss_one (ps_ret (pe_lc (own := [("k", 3)]) rfl sc_right_far.nd (pi_range1 rfl S.z_range (pa_cons (pe_meth0 (pv 0) S.c_Space S.m_Space_bits (ok_Space_bits S) (hr.mono (by decide)) S.b_Space_bits .nil pass0) pa_nil)) (blkOk_by (own := [("k", 3)]) (N := ["space", "names", "name", "k"]) (sc := defScope s_right_far) (by decide +kernel)) (fun _ _ _ _ _ => (pg_name (i := 3) sc_right_far.nd rfl (Or.inl rfl))) (fun _ _ _ _ _ => pts_nil) (fun _ _ _ _ _ => (pe_meth (pv 0) S.c_Space S.m_Space_nearest (ok_Space_nearest S) (hr.mono (by decide)) S.b_Space_nearest .nil pass0 (pa_cons (pv 1) (pa_cons (pe_call (ok_far_point S) (hr.mono (by decide)) rfl S.g_far_point (S.F_far_point).kp S.b_far_point .nil pass0 (pa_cons (pv 0) (pa_cons (pv 2) (pa_cons (pv 3) pa_nil)))) pa_nil))))))), ?_⟩
  obtain ⟨hb, dx, hp⟩ := id hs
  refine ⟨_, rfl, sp, dx, _, rfl, hp, rfl, sp, b, rfl, hs, _, rfl, by omega, by omega, fun D hD => ?_⟩
  rw [Int.toNat_natCast]
  refine lc_range (lo := 0) (n := b) (fun i H2 => Fin K H H2 ∧ H2 D = some (.lst (((List.range i).map fun k => nearest b ns (farPt b p k)).map V.int))) ⟨(Fin.of (same_new hD) ht), upd_same⟩ ?_ ?_
  · rintro i H2 hi ⟨f2, hd⟩
    have hs2 := hs.ext f2.1
    obtain ⟨_, dx2, hp2⟩ := id hs2
    have hl2 := extN_list f2.1 hl
    have ei : (0 : Int) + ((i : Nat) : Int) = ((i : Nat) : Int) := Int.zero_add _
    rw [ei]
    refine ⟨rfl, _, rfl, sp, dx2, _, rfl, hp2, rfl, _, rfl, _, rfl, _, rfl, _, rfl, sp, b, i, p, rfl, hs2, by omega, sp, l, b, ns, _, rfl, hs2, f2.2, hl2, hn, fun H3 f3 => ⟨_, f3.1 _ _ hd (fun ps z => nomatch z), szL ?_, ?_, ?_⟩⟩
    · rw [List.length_map, List.length_map, List.length_range]
      omega
    · have f4 := f2.trans f3
      refine ⟨fun b' o e n => ?_, ?_⟩
      · rw [upd_ne (ne_of_none e hD)]
        exact f4.1 b' o e n
      · exact tabs_upd f4.2 (f3.1 _ _ hd fun ps z => nomatch z) rfl
    · rw [upd_same, List.range_succ]
      simp
  · rintro H2 ⟨f2, hd⟩
    exact k D H2 (notOld_of hD) hd f2
def spNodeI (K : PySem.W.Frag) : Sp := fun vs H Q _ => ∃ (x dx c f : Addr) (pr : V), vs = [.ref x, .ref c, pr, .ref f] ∧ H x = some (.ins (He.ga K "Node") dx []) ∧ ∀ t, H t = none → Q .non (upd (upd H t (.dK [])) x (.ins (He.ga K "Node") dx (nodeF c pr f t)))
theorem sc_Node_init : FnScope ["self", "chain", "prior", "far"] ["self", "chain", "prior", "far"] (defScope s_Node_init) := ⟨rfl, rfl, rfl, by decide +kernel, rfl, by decide +kernel, by decide +kernel⟩
theorem ok_Node_init (S : Say K mg base) : FnOk P w K mg base CX0 1 (He.ma K (He.ga K "Node") "__init__") (fdO K ("Node", some "__init__")) ["self", "chain", "prior", "far"] (spNodeI K) := by
  refine (S.F_Node_init).ok sc_Node_init (fun vs H Q E h => ?_) (fun cdv A outer s H vs Q E hr h => ?_)
  · obtain ⟨x, dx, c, f, pr, rfl, hx, k⟩ := h
    rfl
  obtain ⟨x, dx, c, f, pr, rfl, hx, k⟩ := h
  have hu := hu_of hr
  refine ⟨_, PSs.nox (pss_cons (ps_fld (pv 0) (pv 1) rfl)
        (pss_cons (ps_fld (pv 0) (pv 2) rfl)
        (pss_cons (ps_fld (pv 0) (pv 3) rfl)
        (pss_one (ps_fld (pv 0) pe_dnewK rfl))))), ?_⟩
  refine ⟨_, rfl, _, rfl, x, _, dx, _, rfl, hx, S.c_Node, S.n_Node_chain, by decide, _, rfl, _, rfl, x, _, dx, _, rfl, upd_same, S.c_Node, S.n_Node_prior, (by show 1 < 1000; decide), _, rfl, _, rfl, x, _, dx, _, rfl, upd_same, S.c_Node, S.n_Node_far, (by show 2 < 1000; decide), fun t ht => ?_⟩
  have hxt : x ≠ t := fun e => by rw [← e, upd_same] at ht; cases ht
  refine ⟨_, rfl, x, _, dx, _, rfl, by rw [upd_ne hxt]; exact upd_same, S.c_Node, S.n_Node_things, (by show 3 < 1000; decide), ?_⟩
  have z := k t (by rw [upd_ne (Ne.symm hxt), upd_ne (Ne.symm hxt), upd_ne (Ne.symm hxt)] at ht; exact ht)
  show Q .non _
  have e : ∀ u v w y, upd (upd (upd (upd (upd H x u) x v) x w) t (.dK [])) x y = upd (upd H t (.dK [])) x y := fun u v w y => by
    funext b
    by_cases h1 : b = x
    · rw [h1, upd_same, upd_same]
    · rw [upd_ne h1, upd_ne h1]
      by_cases h2 : b = t
      · rw [h2, upd_same, upd_same]
      · rw [upd_ne h2, upd_ne h2, upd_ne h1, upd_ne h1, upd_ne h1]
  rw [e]
  exact z
end
/-! ### the mirror: nodes, rings -/
structure NodeS where
  chain : List Int
  prior : Option Int
  far : List (Option Int)
  things : List (Int × Int × Option Str)
def oT : Option Str → V
  | .none => .non
  | .some s => .str s
/-- a dict of items: by points tuples (stamp, text) -/
def ThingsAt (H : Hp) (a : Addr) (ts : List (Int × Int × Option Str)) : Prop :=
  (ts.map (·.1)).Nodup ∧ ∃ f : Int → Addr, H a = some (.dK (ts.map fun t => (Sum.inl t.1, V.ref (f t.1)))) ∧ ∀ t ∈ ts, H (f t.1) = some (.tup [.int t.2.1, oT t.2.2])
structure NodeAt (K : PySem.W.Frag) (H : Hp) (nd nx ac af at_ : Addr) (s : NodeS) : Prop where
  ob : H nd = some (.ins (He.ga K "Node") nx (nodeF ac (oV s.prior) af at_))
  chain : H ac = some (.lst (s.chain.map V.int))
  far : H af = some (.lst (s.far.map oV))
  things : ThingsAt H at_ s.things
theorem ThingsAt.ext {H H' : Hp} {a : Addr} {ts : List (Int × Int × Option Str)} (h : ThingsAt H a ts) (e1 : ∀ o, H a = some o → H' a = some o) (e2 : ∀ b xs, H b = some (.tup xs) → H' b = some (.tup xs)) : ThingsAt H' a ts := by
  obtain ⟨h0, f, h1, h2⟩ := h
  exact ⟨h0, f, e1 _ h1, fun t ht => e2 _ _ (h2 t ht)⟩
theorem NodeAt.ext {K : PySem.W.Frag} {H H' : Hp} {nd nx ac af at_ : Addr} {s : NodeS} (h : NodeAt K H nd nx ac af at_ s) (e : ∀ b o, (b = nd ∨ b = ac ∨ b = af ∨ b = at_) → H b = some o → H' b = some o) (e2 : ∀ b xs, H b = some (.tup xs) → H' b = some (.tup xs)) : NodeAt K H' nd nx ac af at_ s :=
  ⟨e _ _ (.inl rfl) h.ob, e _ _ (.inr (.inl rfl)) h.chain, e _ _ (.inr (.inr (.inl rfl))) h.far, h.things.ext (fun o => e _ o (.inr (.inr (.inr rfl)))) e2⟩
theorem NodeAt.extN {K : PySem.W.Frag} {H H' : Hp} {nd nx ac af at_ : Addr} {s : NodeS} (h : NodeAt K H nd nx ac af at_ s) (e : ExtN H H') : NodeAt K H' nd nx ac af at_ s := by
  obtain ⟨h1, h2, h3, h0, f, h4, h5⟩ := h
  exact ⟨e _ _ h1 (fun _ z => nomatch z), e _ _ h2 (fun _ z => nomatch z), e _ _ h3 (fun _ z => nomatch z), h0, f, e _ _ h4 (fun _ z => nomatch z), fun t ht => e _ _ (h5 t ht) (fun _ z => nomatch z)⟩
def rightNode (b : Nat) (ns : List Int) (n : Int) (m : Nat) : NodeS := ⟨(othersM b ns n).take m, some (preceding b ns n), (rightFar b ns n).map some, []⟩
section
variable {P : Program} {w : World} {K : PySem.W.Frag} {mg : Str → Option Value} {base : Heap}
def spRNode (K : PySem.W.Frag) : Sp := fun vs H Q _ => ∃ (sp l : Addr) (b m : Nat) (ns : List Int) (n : Int), vs = [.ref sp, .ref l, .int n, .int m] ∧ SpaceAt K H sp b ∧ Tabs (tabT K) H ∧ SqL K H l (ns.map V.int) ∧ ns.length < 64 ∧ Pts b ns ∧ ns ≠ [] ∧
  ∀ nd nx ac af at_ H', NotOld H nd → NotOld H ac → NotOld H af → NotOld H at_ → ac ≠ af → NodeAt K H' nd nx ac af at_ (rightNode b ns n m) → Fin K H H' → Q (.ref nd) H'
theorem sc_right_node : FnScope ["space", "names", "name", "many", "chain"] ["space", "names", "name", "many"] (defScope s_right_node) := ⟨rfl, rfl, rfl, by decide +kernel, rfl, by decide +kernel, by decide +kernel⟩
theorem ok_right_node (S : Say K mg base) : FnOk P w K mg base CX0 9 (He.ga K "right_node") (fdO K ("right_node", none)) ["space", "names", "name", "many"] (spRNode K) := by
  refine (S.F_right_node).ok sc_right_node (fun vs H Q E h => ?_) (fun cdv A outer s H vs Q E hr h => ?_)
  · obtain ⟨sp, l, b, m, ns, n, rfl, hs, ht, hl, hn, hp, hne, k⟩ := h
    rfl
  obtain ⟨sp, l, b, m, ns, n, rfl, hs, ht, hl, hn, hp, hne, k⟩ := h
  have hu := hu_of hr
  refine ⟨_, PSs.nox (pss_cons (ps_set (i := 4) sc_right_node.nd rfl (Or.inl rfl) (pe_call (ok_right_chain S) (hr.mono (by decide)) rfl S.g_right_chain (S.F_right_chain).kp S.b_right_chain .nil pass0 (pa_cons (pv 0) (pa_cons (pv 1) (pa_cons (pv 2) (pa_cons (pv 3) pa_nil))))))
        (pss_one (ps_ret (pe_make S.mk_Node (ok_Node_init S) (hr.mono (by decide)) rfl S.g_Node S.b_Node_init .nil pass0 (pa_cons (pv 4) (pa_cons (pe_meth (pv 0) S.c_Space S.m_Space_preceding (ok_Space_preceding S) (hr.mono (by decide)) S.b_Space_preceding .nil pass0 (pa_cons (pv 1) (pa_cons (pv 2) pa_nil))) (pa_cons (pe_call (ok_right_far S) (hr.mono (by decide)) rfl S.g_right_far (S.F_right_far).kp S.b_right_far .nil pass0 (pa_cons (pv 0) (pa_cons (pv 1) (pa_cons (pv 2) pa_nil)))) pa_nil))))))), ?_⟩
  refine ⟨_, rfl, _, rfl, _, rfl, _, rfl, sp, l, b, m, ns, n, rfl, hs, ht, hl, hn, hp, fun q H1 nq hq f1 => ?_⟩
  have hs1 := hs.ext f1.1
  obtain ⟨_, dx1, hp1⟩ := id hs1
  refine ⟨_, rfl, _, rfl, sp, dx1, _, rfl, hp1, rfl, _, rfl, _, rfl, sp, l, b, ns, n, rfl, hs1, f1.2, extN_list f1.1 hl, hne, fun H2 f2 => ?_⟩
  have f12 := f1.trans f2
  refine ⟨_, rfl, _, rfl, _, rfl, sp, l, b, ns, n, rfl, hs.ext f12.1, f12.2, extN_list f12.1 hl, hne, fun r H3 nr hr f3 => ?_⟩
  have f13 := f12.trans f3
  have hq2 : H2 q = some (.lst (((othersM b ns n).take m).map V.int)) := f2.1 _ _ hq fun _ z => nomatch z
  have hq3 : H3 q = some (.lst (((othersM b ns n).take m).map V.int)) := f3.1 _ _ hq2 fun _ z => nomatch z
  intro x dx hx hdx ndx
  refine ⟨x, dx, q, r, .int (preceding b ns n), rfl, upd_same, fun t htn => ⟨rfl, ?_⟩⟩
  have ntx : t ≠ x := fun e => by rw [e, upd_same] at htn; cases htn
  rw [upd_ne ntx] at htn
  have ntd : t ≠ dx := fun e => by rw [e, upd_same] at htn; cases htn
  rw [upd_ne ntd] at htn
  have sm : Same H3 (upd (upd (upd (upd H3 dx (.own x)) x (.ins (He.ga K "Node") dx [])) t (.dK [])) x (.ins (He.ga K "Node") dx (nodeF q (.int (preceding b ns n)) r t))) := fun b' o e => by
    rw [upd_ne (ne_of_none e hx), upd_ne (ne_of_none e htn), upd_ne (ne_of_none e hx), upd_ne (ne_of_none e hdx)]
    exact e
  have f14 := f13.trans (Fin.of sm f13.2)
  refine k x dx q r t _ ((notOld_of hx).back f13) nq (nr.back f12) ((notOld_of htn).back f13) (nr q _ hq2 fun _ z => nomatch z) ⟨upd_same, sm _ _ hq3, ?_, ?_⟩ f14
  · refine Eq.trans (sm _ _ hr) ?_
    show some (HO.lst _) = some (HO.lst (((rightFar b ns n).map some).map oV))
    rw [List.map_map]
    rfl
  · refine ⟨List.nodup_nil, fun _ => 0, ?_, fun t ht => absurd ht (by simp [rightNode])⟩
    exact Eq.trans (upd_ne ntx) (Eq.trans upd_same rfl)
def spIsLen (K : PySem.W.Frag) : Sp := fun vs H Q _ => ∃ m : Nat, vs = [.int m] ∧ (1 ≤ m ∧ m ≤ 4) ∧ Q (.bl true) H
theorem sc_is_length : FnScope ["thing"] ["thing"] (defScope s_is_length) := ⟨rfl, rfl, rfl, by decide +kernel, rfl, by decide +kernel, by decide +kernel⟩
theorem ok_is_length (S : Say K mg base) : FnOk P w K mg base CX0 1 (He.ga K "is_length") (fdO K ("is_length", none)) ["thing"] (spIsLen K) := by
  refine (S.F_is_length).ok sc_is_length (fun vs H Q E h => ?_) (fun cdv A outer s H vs Q E hr h => ?_)
  · obtain ⟨m, rfl, hm, k⟩ := h
    rfl
  obtain ⟨m, rfl, hm, k⟩ := h
  have hu := hu_of hr
  refine ⟨_, PSs.nox (pss_one (ps_ret (pe_and (pe_callB call_isi (by rfl) S.z_isinstance (by decide +kernel) (pa_cons (pv 0) (pa_cons (pe_bltn (v := .ty "int") rfl S.z_int (by decide +kernel) rfl) pa_nil))) (pe_and (pe_not (pe_callB call_isi (by rfl) S.z_isinstance (by decide +kernel) (pa_cons (pv 0) (pa_cons (pe_bltn (v := .ty "bool") rfl S.z_bool (by decide +kernel) rfl) pa_nil)))) (pe_one (pe_chain op_le op_le pe_int (pv 0) (pe_glob (v := V.int 4) rfl (S.i_MOST_LENGTH).choose_spec ⟨_, rfl⟩))))))), ?_⟩
  refine ⟨_, rfl, _, _, _, _, _, rfl, .ty "int", .base (.int m), kit_ty (show kitB "int" "int" = some true by decide +kernel), _, rfl, ?_⟩
  refine iteT ⟨_, rfl, _, _, _, _, _, rfl, .ty "bool", .base (.int m), kit_ty (show kitB "int" "bool" = some false by decide +kernel), _, rfl, _, rfl, ?_⟩
  refine iteT ⟨_, rfl, _, _, rfl, rfl, _, rfl, ?_⟩
  rw [decide_eq_true (show (1 : Int) ≤ m by omega)]
  refine iteT ⟨_, _, rfl, rfl, ?_⟩
  show Q (.bl (decide ((m : Int) ≤ 4))) H
  rw [decide_eq_true (show (m : Int) ≤ 4 by omega)]
  exact k
end
end Nn
set_option Elab.async false
set_option linter.all false
set_option maxRecDepth 100000
set_option maxHeartbeats 1000000
namespace Nn
open PySem PySem.Spec PyProof.Rows L2 LamX KeyL
/-! ### the mirror of a ring -/
inductive Deed where
  | flat (k : Str) (xs : List V)
  | mend (ns : List Int)
structure RingS where
  bits : Nat
  many : Nat
  fixed : List Int
  names : List Int
  node : Int → NodeS
  puts : List (Int × Option Str)
  done : List Deed
inductive Role where
  | ring | space | fixed | nodes | done
  | node (n : Int) | chain (n : Int) | far (n : Int) | things (n : Int)
structure RA where
  r : Addr
  dx : Addr
  sp : Addr
  afx : Addr
  an : Addr
  ad : Addr
  nd : Int → Addr
  nx : Int → Addr
  ac : Int → Addr
  af : Int → Addr
  at_ : Int → Addr
  ρ : Addr → Option Role
def ringF (A : RA) (many stamps : Nat) : List (Str × V) := [("circle", .ref A.sp), ("many", .int many), ("fixed", .ref A.afx), ("nodes", .ref A.an), ("stamps", .int stamps), ("done", .ref A.ad)]
def kvN (ns : List Int) (f : Int → Addr) : List (Key × V) := ns.map fun n => (Sum.inl n, V.ref (f n))
def scalV : V → Bool
  | .non => true | .bl _ => true | .int _ => true | .str _ => true
  | _ => false
def DeedAt (H : Hp) : V → Deed → Prop
  | v, .flat k xs => ∃ a, v = .ref a ∧ H a = some (.tup (.str k :: xs)) ∧ xs.all scalV = true
  | v, .mend ns => ∃ a b, v = .ref a ∧ H a = some (.tup [.str "mend", .ref b]) ∧ H b = some (.tup (ns.map V.int))
structure RingAt (K : PySem.W.Frag) (H : Hp) (A : RA) (R : RingS) : Prop where
  ob : H A.r = some (.ins (He.ga K "Ring") A.dx (ringF A R.many R.puts.length))
  space : SpaceAt K H A.sp R.bits
  fixed : H A.afx = some (.lst (R.fixed.map V.int))
  nodes : H A.an = some (.dK (kvN R.names A.nd))
  done : ∃ vs, H A.ad = some (.lst vs) ∧ Paired (DeedAt H) vs R.done
  node : ∀ n ∈ R.names, NodeAt K H (A.nd n) (A.nx n) (A.ac n) (A.af n) (A.at_ n) (R.node n)
  rRing : A.ρ A.r = some .ring
  rSpace : A.ρ A.sp = some .space
  rFixed : A.ρ A.afx = some .fixed
  rNodes : A.ρ A.an = some .nodes
  rDone : A.ρ A.ad = some .done
  rNode : ∀ n ∈ R.names, A.ρ (A.nd n) = some (.node n)
  rChain : ∀ n ∈ R.names, A.ρ (A.ac n) = some (.chain n)
  rFar : ∀ n ∈ R.names, A.ρ (A.af n) = some (.far n)
  rThings : ∀ n ∈ R.names, A.ρ (A.at_ n) = some (.things n)
  live : ∀ b ro, A.ρ b = some ro → ∃ o, H b = some o ∧ plainO o = true
structure Ok (R : RingS) : Prop where
  bits : 3 ≤ R.bits ∧ R.bits ≤ 32
  many : 1 ≤ R.many ∧ R.many ≤ 4
  fsort : R.fixed.Pairwise (· < ·)
  fixed : R.many < R.fixed.length ∧ R.fixed.length ≤ 8
  fsub : ∀ n ∈ R.fixed, n ∈ R.names
  nodup : R.names.Nodup
  pts : Pts R.bits R.names
  few : R.names.length < 64
  clen : ∀ n ∈ R.names, (R.node n).chain.length = R.many
  cpts : ∀ n ∈ R.names, Pts R.bits (R.node n).chain
  cmem : ∀ n ∈ R.names, ∃ m ∈ (R.node n).chain, m ∈ R.names
  flen : ∀ n ∈ R.names, (R.node n).far.length = R.bits
  fpts : ∀ n ∈ R.names, ∀ p, some p ∈ (R.node n).far → 0 ≤ p ∧ p < 2 ^ R.bits
  ppts : ∀ n ∈ R.names, ∀ p, (R.node n).prior = some p → 0 ≤ p ∧ p < 2 ^ R.bits
  keys : ∀ n ∈ R.names, ((R.node n).things.map (·.1)).Nodup
  kept : ∀ n ∈ R.names, ∀ t ∈ (R.node n).things, 1 ≤ t.2.1 ∧ R.puts[t.2.1.toNat - 1]? = some (t.1, t.2.2) ∧ 0 ≤ t.1 ∧ t.1 < 2 ^ R.bits
  puts : R.puts.length ≤ 100000
  dones : R.done.length ≤ 1000000
/-- a ring as it stands -/
structure At (K : PySem.W.Frag) (H : Hp) (A : RA) (R : RingS) : Prop where
  ring : RingAt K H A R
  ok : Ok R
  tabs : Tabs (tabT K) H
theorem Paired.impV {F G : V → Deed → Prop} (h : ∀ x y, F x y → G x y) : ∀ {xs : List V} {ys : List Deed}, Paired F xs ys → Paired G xs ys
  | _, _, .nil => .nil
  | _, _, .cons a t => .cons (h _ _ a) (Paired.impV h t)
theorem DeedAt.ext {H H' : Hp} (e : ∀ b xs, H b = some (.tup xs) → H' b = some (.tup xs)) : ∀ v d, DeedAt H v d → DeedAt H' v d
  | v, .flat k xs, ⟨a, e1, e2, e3⟩ => ⟨a, e1, e _ _ e2, e3⟩
  | v, .mend ns, ⟨a, b, e1, e2, e3⟩ => ⟨a, b, e1, e _ _ e2, e _ _ e3⟩
/-- what has a role stays, tuples stay: the ring stays -/
theorem RingAt.keep {K : PySem.W.Frag} {H H' : Hp} {A : RA} {R : RingS} (h : RingAt K H A R) (e1 : ∀ b ro o, A.ρ b = some ro → H b = some o → H' b = some o) (e2 : ∀ b xs, H b = some (.tup xs) → H' b = some (.tup xs)) : RingAt K H' A R := by
  refine ⟨e1 _ _ _ h.rRing h.ob, ?_, e1 _ _ _ h.rFixed h.fixed, e1 _ _ _ h.rNodes h.nodes, ?_, fun n hn => ?_, h.rRing, h.rSpace, h.rFixed, h.rNodes, h.rDone, h.rNode, h.rChain, h.rFar, h.rThings, fun b ro hb => ?_⟩
  · obtain ⟨h1, dx, h2⟩ := h.space
    exact ⟨h1, dx, e1 _ _ _ h.rSpace h2⟩
  · obtain ⟨vs, h1, h2⟩ := h.done
    exact ⟨vs, e1 _ _ _ h.rDone h1, Paired.impV (DeedAt.ext e2) h2⟩
  · refine (h.node n hn).ext (fun b o hb e => ?_) e2
    rcases hb with rfl | rfl | rfl | rfl
    · exact e1 _ _ _ (h.rNode n hn) e
    · exact e1 _ _ _ (h.rChain n hn) e
    · exact e1 _ _ _ (h.rFar n hn) e
    · exact e1 _ _ _ (h.rThings n hn) e
  · obtain ⟨o, h1, h2⟩ := h.live b ro hb
    exact ⟨o, e1 _ _ _ hb h1, h2⟩
theorem RingAt.extN {K : PySem.W.Frag} {H H' : Hp} {A : RA} {R : RingS} (h : RingAt K H A R) (e : ExtN H H') : RingAt K H' A R :=
  h.keep (fun b ro o hb ho => e b o ho (by obtain ⟨o', h1, h2⟩ := h.live b ro hb; rw [ho] at h1; rw [Option.some.inj h1]; exact plainO_tbl h2)) fun b xs hb => e b _ hb fun _ z => nomatch z
theorem At.fin {K : PySem.W.Frag} {H H' : Hp} {A : RA} {R : RingS} (h : At K H A R) (e : Fin K H H') : At K H' A R := ⟨h.ring.extN e.1, h.ok, e.2⟩
/-- what has no role in a ring is not touched by what is done to the ring, tuples stay -/
structure Frame (H : Hp) (A : RA) (H' : Hp) (A' : RA) : Prop where
  r : A'.r = A.r
  off : ∀ b o, H b = some o → (∀ ps, o ≠ .tbl ps) → A.ρ b = none → H' b = some o ∧ A'.ρ b = none
  tup : ∀ b xs, H b = some (.tup xs) → H' b = some (.tup xs)
theorem Frame.trans {H H1 H2 : Hp} {A A1 A2 : RA} (a : Frame H A H1 A1) (b : Frame H1 A1 H2 A2) : Frame H A H2 A2 :=
  ⟨b.r.trans a.r, fun c o h1 h2 h3 => by obtain ⟨k1, k2⟩ := a.off c o h1 h2 h3; exact b.off c o k1 h2 k2, fun c xs h => b.tup _ _ (a.tup _ _ h)⟩
theorem Frame.fin {K : PySem.W.Frag} {H H' : Hp} {A : RA} (e : Fin K H H') : Frame H A H' A := ⟨rfl, fun b o h1 h2 h3 => ⟨e.1 b o h1 h2, h3⟩, fun b xs h => e.1 _ _ h fun _ z => nomatch z⟩
theorem valV_kvN {ns : List Int} {f : Int → Addr} {n : Int} : valV (kvN ns f) (Sum.inl n : Key) = if n ∈ ns then some (V.ref (f n)) else none := by
  induction ns with
  | nil => rfl
  | cons m r ih =>
    show valV ((Sum.inl m, V.ref (f m)) :: kvN r f) _ = _
    by_cases h : m = n
    · subst h
      rw [valV_pos rfl, if_pos (List.mem_cons_self ..)]
    · rw [valV_neg (fun z => h (Sum.inl.inj z)), ih]
      have e : (n ∈ m :: r) = (n ∈ r) := by simp [Ne.symm h]
      simp only [e]
theorem dget {H : Hp} {a : Addr} {ns : List Int} {f : Int → Addr} (h : H a = some (.dK (kvN ns f))) (n : Int) : DGet H a (.int n) (if n ∈ ns then some (V.ref (f n)) else none) := by
  have z := DGet.k (k := (Sum.inl n : Key)) h
  rw [valV_kvN] at z
  exact z
theorem dgetM {H : Hp} {a : Addr} {ns : List Int} {f : Int → Addr} (h : H a = some (.dK (kvN ns f))) {n : Int} (hn : n ∈ ns) : DGet H a (.int n) (some (V.ref (f n))) := by
  have z := dget h n
  rw [if_pos hn] at z
  exact z
/-- whether a value is a member -/
def memV (R : RingS) : V → Bool
  | .int i => decide (i ∈ R.names)
  | _ => false
def nxt (R : RingS) (n : Int) : Option Int := firstOf (R.node n).chain R.names
def membersM (R : RingS) : List Int := R.names.mergeSort fun x y => decide (x ≤ y)
theorem membersM_perm (R : RingS) : (membersM R).Perm R.names := List.mergeSort_perm ..
theorem membersM_sorted (R : RingS) : (membersM R).Pairwise (· ≤ ·) := by
  have h := List.pairwise_mergeSort (le := fun x y : Int => decide (x ≤ y)) (fun x y z h1 h2 => by simp at *; omega) (fun x y => by simp; omega) R.names
  exact h.imp fun h => by simpa using h
theorem membersM_mem {R : RingS} {n : Int} : n ∈ membersM R ↔ n ∈ R.names := (membersM_perm R).mem_iff
theorem membersM_len (R : RingS) : (membersM R).length = R.names.length := (membersM_perm R).length_eq
theorem sortedI_unique {xs ys : List Int} (h : xs.Perm ys) (h1 : xs.Pairwise (· ≤ ·)) (h2 : ys.Pairwise (· ≤ ·)) : xs = ys :=
  sorted_unique (g := fun x => x) h h1 h2 fun _ _ _ _ e => e
theorem firstOf_perm {ns xs ys : List Int} (h : ∀ n, n ∈ xs ↔ n ∈ ys) : firstOf ns xs = firstOf ns ys := by
  unfold firstOf
  have e : (fun n : Int => decide (n ∈ xs)) = fun n => decide (n ∈ ys) := funext fun n => by simp [h n]
  rw [e]
section
variable {P : Program} {w : World} {K : PySem.W.Frag} {mg : Str → Option Value} {base : Heap}
/-- asked of a ring, which stays -/
def spAsk (K : PySem.W.Frag) (f : RingS → V) : Sp := fun vs H Q _ => ∃ A R, vs = [.ref A.r] ∧ RingAt K H A R ∧ Q (f R) H
def spSpace (K : PySem.W.Frag) : Sp := fun vs H Q _ => ∃ A R, vs = [.ref A.r] ∧ RingAt K H A R ∧ Q (.ref A.sp) H
theorem sc_Ring_space : FnScope ["self"] ["self"] (defScope s_Ring_space) := ⟨rfl, rfl, rfl, by decide +kernel, rfl, by decide +kernel, by decide +kernel⟩
theorem ok_Ring_space (S : Say K mg base) : FnOk P w K mg base CX0 1 (He.ma K (He.ga K "Ring") "space") (fdO K ("Ring", some "space")) ["self"] (spSpace K) := by
  refine (S.F_Ring_space).ok sc_Ring_space (fun vs H Q E h => ?_) (fun cdv A outer s H vs Q E hr h => ?_)
  · obtain ⟨A, R, rfl, h, k⟩ := h
    rfl
  obtain ⟨A, R, rfl, h, k⟩ := h
  have hu := hu_of hr
  refine ⟨_, PSs.nox (pss_one (ps_ret (pe_fld (pv 0) rfl))), ?_⟩
  exact ⟨_, rfl, A.r, _, A.dx, _, _, rfl, h.ob, S.c_Ring, S.n_Ring_circle, rfl, k⟩
def spBase (K : PySem.W.Frag) : Sp := fun vs H Q _ => ∃ A R, vs = [.ref A.r] ∧ At K H A R ∧ ∀ q H', NotOld H q → H' q = some (.lst (R.fixed.map V.int)) → Fin K H H' → Q (.ref q) H'
theorem sc_Ring_base : FnScope ["self"] ["self"] (defScope s_Ring_base) := ⟨rfl, rfl, rfl, by decide +kernel, rfl, by decide +kernel, by decide +kernel⟩
theorem ok_Ring_base (S : Say K mg base) : FnOk P w K mg base CX0 1 (He.ma K (He.ga K "Ring") "base") (fdO K ("Ring", some "base")) ["self"] (spBase K) := by
  refine (S.F_Ring_base).ok sc_Ring_base (fun vs H Q E h => ?_) (fun cdv A outer s H vs Q E hr h => ?_)
  · obtain ⟨A, R, rfl, h, k⟩ := h
    rfl
  obtain ⟨A, R, rfl, h, k⟩ := h
  have hu := hu_of hr
  refine ⟨_, PSs.nox (pss_one (ps_ret (pe_callTy call_list_of (by rfl) S.z_list (by decide +kernel) (pa_cons (pe_fld (pv 0) rfl) pa_nil)))), ?_⟩
  refine ⟨_, rfl, A.r, _, A.dx, _, _, rfl, h.ring.ob, S.c_Ring, S.n_Ring_fixed, rfl, A.afx, _, rfl, .inl (.inl (.inl h.ring.fixed)), fun q hq => ?_⟩
  exact k q _ (notOld_of hq) upd_same (Fin.of (same_new hq) h.tabs)
def spMembers (K : PySem.W.Frag) : Sp := fun vs H Q _ => ∃ A R, vs = [.ref A.r] ∧ At K H A R ∧ ∀ q H', NotOld H q → H' q = some (.lst ((membersM R).map V.int)) → Fin K H H' → Q (.ref q) H'
theorem sc_Ring_members : FnScope ["self"] ["self"] (defScope s_Ring_members) := ⟨rfl, rfl, rfl, by decide +kernel, rfl, by decide +kernel, by decide +kernel⟩
theorem ok_Ring_members (S : Say K mg base) : FnOk P w K mg base CX0 1 (He.ma K (He.ga K "Ring") "members") (fdO K ("Ring", some "members")) ["self"] (spMembers K) := by
  refine (S.F_Ring_members).ok sc_Ring_members (fun vs H Q E h => ?_) (fun cdv A outer s H vs Q E hr h => ?_)
  · obtain ⟨A, R, rfl, h, k⟩ := h
    rfl
  obtain ⟨A, R, rfl, h, k⟩ := h
  have hu := hu_of hr
  refine ⟨_, PSs.nox (pss_one (ps_ret (pe_callB (call_sortedDI rfl) (by rfl) S.z_sorted (by decide +kernel) (pa_cons (pe_fld (pv 0) rfl) pa_nil)))), ?_⟩
  refine ⟨_, rfl, A.r, _, A.dx, _, _, rfl, h.ring.ob, S.c_Ring, S.n_Ring_nodes, rfl, A.an, _, R.names, rfl, .inl h.ring.nodes, ?_, h.ok.few, fun ys q hp hs hq => ?_⟩
  · unfold kvN
    rw [List.map_map]
    rfl
  · rw [sortedI_unique (hp.trans (membersM_perm R).symm) hs (membersM_sorted R)]
    exact k q _ (notOld_of hq) upd_same (Fin.of (same_new hq) h.tabs)
def spIsMem (K : PySem.W.Frag) : Sp := fun vs H Q _ => ∃ A R x, vs = [.ref A.r, x] ∧ RingAt K H A R ∧ Ok R ∧ Askable K H x ∧ Q (.bl (memV R x)) H
theorem sc_Ring_is_member : FnScope ["self", "thing"] ["self", "thing"] (defScope s_Ring_is_member) := ⟨rfl, rfl, rfl, by decide +kernel, rfl, by decide +kernel, by decide +kernel⟩
theorem ok_Ring_is_member (S : Say K mg base) : FnOk P w K mg base CX0 3 (He.ma K (He.ga K "Ring") "is_member") (fdO K ("Ring", some "is_member")) ["self", "thing"] (spIsMem K) := by
  refine (S.F_Ring_is_member).ok sc_Ring_is_member (fun vs H Q E h => ?_) (fun cdv A outer s H vs Q E hr h => ?_)
  · obtain ⟨A, R, x, rfl, h, ho, hx, k⟩ := h
    rfl
  obtain ⟨A, R, x, rfl, h, ho, hx, k⟩ := h
  have hu := hu_of hr
  refine ⟨_, PSs.nox (pss_one (ps_ret (pe_and (pe_meth (pe_fld (pv 0) rfl) S.c_Space S.m_Space_has (ok_Space_has S) (hr.mono (by decide)) S.b_Space_has .nil pass0 (pa_cons (pv 1) pa_nil)) (pe_one (pe_cmp (pc_din hu (pv 1) (pe_fld (pv 0) rfl)) rfl))))), ?_⟩
  obtain ⟨_, dx, hp⟩ := id h.space
  refine ⟨_, rfl, A.r, _, A.dx, _, _, rfl, h.ob, S.c_Ring, S.n_Ring_circle, rfl, A.sp, dx, _, rfl, hp, rfl, x, rfl, A.sp, R.bits, x, rfl, h.space, hx, _, rfl, ?_⟩
  cases hx with
  | int i =>
    have em : memV R (.int i) = decide (i ∈ R.names) := rfl
    rw [em] at k
    have e : ptV R.bits (.int i) = (decide (0 ≤ i) && decide (i < 2 ^ R.bits)) := rfl
    rw [e]
    by_cases h0 : 0 ≤ i ∧ i < 2 ^ R.bits
    · rw [decide_eq_true h0.1, decide_eq_true h0.2]
      refine iteT ⟨_, rfl, _, rfl, A.r, _, A.dx, _, _, rfl, h.ob, S.c_Ring, S.n_Ring_nodes, rfl, A.an, _, rfl, dget h.nodes i, ?_⟩
      by_cases hi : i ∈ R.names
      · rw [if_pos hi]
        rw [decide_eq_true hi] at k
        exact k
      · rw [if_neg hi]
        rw [decide_eq_false hi] at k
        exact k
    · have hi : i ∉ R.names := fun z => h0 (ho.pts i z)
      rw [decide_eq_false hi] at k
      have e2 : (decide (0 ≤ i) && decide (i < 2 ^ R.bits)) = false := by
        rw [Bool.and_eq_false_iff]
        by_cases h1 : 0 ≤ i
        · exact .inr (decide_eq_false fun z => h0 ⟨h1, z⟩)
        · exact .inl (decide_eq_false h1)
      rw [e2]
      exact iteF k
  | _ => exact iteF k
def spNode (K : PySem.W.Frag) : Sp := fun vs H Q _ => ∃ A R n, vs = [.ref A.r, .int n] ∧ RingAt K H A R ∧ Ok R ∧ n ∈ R.names ∧ Q (.ref (A.nd n)) H
theorem sc_Ring_node : FnScope ["self", "name"] ["self", "name"] (defScope s_Ring_node) := ⟨rfl, rfl, rfl, by decide +kernel, rfl, by decide +kernel, by decide +kernel⟩
theorem ok_Ring_node (S : Say K mg base) : FnOk P w K mg base CX0 4 (He.ma K (He.ga K "Ring") "node") (fdO K ("Ring", some "node")) ["self", "name"] (spNode K) := by
  refine (S.F_Ring_node).ok sc_Ring_node (fun vs H Q E h => ?_) (fun cdv A outer s H vs Q E hr h => ?_)
  · obtain ⟨A, R, n, rfl, h, ho, hn, k⟩ := h
    rfl
  obtain ⟨A, R, n, rfl, h, ho, hn, k⟩ := h
  have hu := hu_of hr
  refine ⟨_, PSs.nox (pss_cons (ps_if (pt_not (pt_val (pe_meth (pv 0) S.c_Ring S.m_Ring_is_member (ok_Ring_is_member S) (hr.mono (by decide)) S.b_Ring_is_member .nil pass0 (pa_cons (pv 1) pa_nil)))) (pss_one ps_never /-raise-/) pss_nil)
        (pss_one (ps_ret (pe_dget hu (pe_fld (pv 0) rfl) (pv 1) (fun _ _ => rfl))))), ?_⟩
  refine ⟨_, rfl, A.r, A.dx, _, rfl, h.ob, rfl, _, rfl, A, R, _, rfl, h, ho, .int n, ?_⟩
  have e : memV R (.int n) = true := decide_eq_true hn
  rw [e]
  refine ⟨_, rfl, iteF ⟨_, rfl, A.r, _, A.dx, _, _, rfl, h.ob, S.c_Ring, S.n_Ring_nodes, rfl, _, rfl, A.an, _, rfl, dgetM h.nodes hn, k⟩⟩
def spLinks (K : PySem.W.Frag) : Sp := fun vs H Q _ => ∃ A R n, vs = [.ref A.r, .int n] ∧ At K H A R ∧ n ∈ R.names ∧ ∀ q H', NotOld H q → H' q = some (.lst ((R.node n).chain.map V.int)) → Fin K H H' → Q (.ref q) H'
theorem sc_Ring_links : FnScope ["self", "name"] ["self", "name"] (defScope s_Ring_links) := ⟨rfl, rfl, rfl, by decide +kernel, rfl, by decide +kernel, by decide +kernel⟩
theorem ok_Ring_links (S : Say K mg base) : FnOk P w K mg base CX0 5 (He.ma K (He.ga K "Ring") "links") (fdO K ("Ring", some "links")) ["self", "name"] (spLinks K) := by
  refine (S.F_Ring_links).ok sc_Ring_links (fun vs H Q E h => ?_) (fun cdv A outer s H vs Q E hr h => ?_)
  · obtain ⟨A, R, n, rfl, h, hn, k⟩ := h
    rfl
  obtain ⟨A, R, n, rfl, h, hn, k⟩ := h
  have hu := hu_of hr
  refine ⟨_, PSs.nox (pss_one (ps_ret (pe_callTy call_list_of (by rfl) S.z_list (by decide +kernel) (pa_cons (pe_fld (pe_meth (pv 0) S.c_Ring S.m_Ring_node (ok_Ring_node S) (hr.mono (by decide)) S.b_Ring_node .nil pass0 (pa_cons (pv 1) pa_nil)) rfl) pa_nil)))), ?_⟩
  have hN := h.ring.node n hn
  refine ⟨_, rfl, A.r, A.dx, _, rfl, h.ring.ob, rfl, _, rfl, A, R, n, rfl, h.ring, h.ok, hn, A.nd n, _, A.nx n, _, _, rfl, hN.ob, S.c_Node, S.n_Node_chain, rfl, A.ac n, _, rfl, .inl (.inl (.inl hN.chain)), fun q hq => ?_⟩
  exact k q _ (notOld_of hq) upd_same (Fin.of (same_new hq) h.tabs)
def spNext (K : PySem.W.Frag) : Sp := fun vs H Q _ => ∃ A R n, vs = [.ref A.r, .int n] ∧ At K H A R ∧ n ∈ R.names ∧ ∀ H', Fin K H H' → Q (oV (nxt R n)) H'
theorem sc_Ring_next_of : FnScope ["self", "name"] ["self", "name"] (defScope s_Ring_next_of) := ⟨rfl, rfl, rfl, by decide +kernel, rfl, by decide +kernel, by decide +kernel⟩
theorem ok_Ring_next_of (S : Say K mg base) : FnOk P w K mg base CX0 5 (He.ma K (He.ga K "Ring") "next_of") (fdO K ("Ring", some "next_of")) ["self", "name"] (spNext K) := by
  refine (S.F_Ring_next_of).ok sc_Ring_next_of (fun vs H Q E h => ?_) (fun cdv A outer s H vs Q E hr h => ?_)
  · obtain ⟨A, R, n, rfl, h, hn, k⟩ := h
    rfl
  obtain ⟨A, R, n, rfl, h, hn, k⟩ := h
  have hu := hu_of hr
  refine ⟨_, PSs.nox (pss_one (ps_ret (pe_call (ok_first_of S) (hr.mono (by decide)) rfl S.g_first_of (S.F_first_of).kp S.b_first_of .nil pass0 (pa_cons (pe_fld (pe_meth (pv 0) S.c_Ring S.m_Ring_node (ok_Ring_node S) (hr.mono (by decide)) S.b_Ring_node .nil pass0 (pa_cons (pv 1) pa_nil)) rfl) (pa_cons (pe_meth0 (pv 0) S.c_Ring S.m_Ring_members (ok_Ring_members S) (hr.mono (by decide)) S.b_Ring_members .nil pass0) pa_nil))))), ?_⟩
  have hN := h.ring.node n hn
  refine ⟨_, rfl, A.r, A.dx, _, rfl, h.ring.ob, rfl, _, rfl, A, R, n, rfl, h.ring, h.ok, hn, A.nd n, _, A.nx n, _, _, rfl, hN.ob, S.c_Node, S.n_Node_chain, rfl, _, rfl, A.r, A.dx, _, rfl, h.ring.ob, rfl, A, R, rfl, h, fun q H1 nq hq f1 => ?_⟩
  refine ⟨A.ac n, q, (R.node n).chain, membersM R, rfl, .inl (.inl (f1.1 _ _ hN.chain fun _ z => nomatch z)), .inl (.inl hq), ?_⟩
  rw [firstOf_perm fun n => membersM_mem]
  exact k H1 f1
def spBefore (K : PySem.W.Frag) : Sp := fun vs H Q _ => ∃ A R n, vs = [.ref A.r, .int n] ∧ RingAt K H A R ∧ Ok R ∧ n ∈ R.names ∧ Q (oV (R.node n).prior) H
theorem sc_Ring_before : FnScope ["self", "name"] ["self", "name"] (defScope s_Ring_before) := ⟨rfl, rfl, rfl, by decide +kernel, rfl, by decide +kernel, by decide +kernel⟩
theorem ok_Ring_before (S : Say K mg base) : FnOk P w K mg base CX0 5 (He.ma K (He.ga K "Ring") "before") (fdO K ("Ring", some "before")) ["self", "name"] (spBefore K) := by
  refine (S.F_Ring_before).ok sc_Ring_before (fun vs H Q E h => ?_) (fun cdv A outer s H vs Q E hr h => ?_)
  · obtain ⟨A, R, n, rfl, h, ho, hn, k⟩ := h
    rfl
  obtain ⟨A, R, n, rfl, h, ho, hn, k⟩ := h
  have hu := hu_of hr
  refine ⟨_, PSs.nox (pss_one (ps_ret (pe_fld (pe_meth (pv 0) S.c_Ring S.m_Ring_node (ok_Ring_node S) (hr.mono (by decide)) S.b_Ring_node .nil pass0 (pa_cons (pv 1) pa_nil)) rfl))), ?_⟩
  have hN := h.node n hn
  exact ⟨_, rfl, A.r, A.dx, _, rfl, h.ob, rfl, _, rfl, A, R, n, rfl, h, ho, hn, A.nd n, _, A.nx n, _, _, rfl, hN.ob, S.c_Node, S.n_Node_prior, rfl, k⟩
def spFingers (K : PySem.W.Frag) : Sp := fun vs H Q _ => ∃ A R n, vs = [.ref A.r, .int n] ∧ At K H A R ∧ n ∈ R.names ∧ ∀ q H', NotOld H q → H' q = some (.lst ((R.node n).far.map oV)) → Fin K H H' → Q (.ref q) H'
theorem sc_Ring_fingers : FnScope ["self", "name"] ["self", "name"] (defScope s_Ring_fingers) := ⟨rfl, rfl, rfl, by decide +kernel, rfl, by decide +kernel, by decide +kernel⟩
theorem ok_Ring_fingers (S : Say K mg base) : FnOk P w K mg base CX0 5 (He.ma K (He.ga K "Ring") "fingers") (fdO K ("Ring", some "fingers")) ["self", "name"] (spFingers K) := by
  refine (S.F_Ring_fingers).ok sc_Ring_fingers (fun vs H Q E h => ?_) (fun cdv A outer s H vs Q E hr h => ?_)
  · obtain ⟨A, R, n, rfl, h, hn, k⟩ := h
    rfl
  obtain ⟨A, R, n, rfl, h, hn, k⟩ := h
  have hu := hu_of hr
  refine ⟨_, PSs.nox (pss_one (ps_ret (pe_callTy call_list_of (by rfl) S.z_list (by decide +kernel) (pa_cons (pe_fld (pe_meth (pv 0) S.c_Ring S.m_Ring_node (ok_Ring_node S) (hr.mono (by decide)) S.b_Ring_node .nil pass0 (pa_cons (pv 1) pa_nil)) rfl) pa_nil)))), ?_⟩
  have hN := h.ring.node n hn
  refine ⟨_, rfl, A.r, A.dx, _, rfl, h.ring.ob, rfl, _, rfl, A, R, n, rfl, h.ring, h.ok, hn, A.nd n, _, A.nx n, _, _, rfl, hN.ob, S.c_Node, S.n_Node_far, rfl, A.af n, _, rfl, .inl (.inl (.inl hN.far)), fun q hq => ?_⟩
  exact k q _ (notOld_of hq) upd_same (Fin.of (same_new hq) h.tabs)
def spWantPt (K : PySem.W.Frag) : Sp := fun vs H Q _ => ∃ A R n, vs = [.ref A.r, .int n] ∧ RingAt K H A R ∧ (0 ≤ n ∧ n < 2 ^ R.bits) ∧ Q .non H
theorem sc_Ring_want_point : FnScope ["self", "thing"] ["self", "thing"] (defScope s_Ring_want_point) := ⟨rfl, rfl, rfl, by decide +kernel, rfl, by decide +kernel, by decide +kernel⟩
theorem ok_Ring_want_point (S : Say K mg base) : FnOk P w K mg base CX0 3 (He.ma K (He.ga K "Ring") "want_point") (fdO K ("Ring", some "want_point")) ["self", "thing"] (spWantPt K) := by
  refine (S.F_Ring_want_point).ok sc_Ring_want_point (fun vs H Q E h => ?_) (fun cdv A outer s H vs Q E hr h => ?_)
  · obtain ⟨A, R, n, rfl, h, hn, k⟩ := h
    rfl
  obtain ⟨A, R, n, rfl, h, hn, k⟩ := h
  have hu := hu_of hr
  refine ⟨_, PSs.nox (pss_one (ps_if (pt_not (pt_val (pe_meth (pe_fld (pv 0) rfl) S.c_Space S.m_Space_has (ok_Space_has S) (hr.mono (by decide)) S.b_Space_has .nil pass0 (pa_cons (pv 1) pa_nil)))) (pss_one ps_never /-raise-/) pss_nil)), ?_⟩
  obtain ⟨_, dx, hp⟩ := id h.space
  refine ⟨_, rfl, A.r, _, A.dx, _, _, rfl, h.ob, S.c_Ring, S.n_Ring_circle, rfl, A.sp, dx, _, rfl, hp, rfl, _, rfl, A.sp, R.bits, _, rfl, h.space, .int n, ?_⟩
  have e : ptV R.bits (.int n) = true := by
    show (decide (0 ≤ n) && decide (n < 2 ^ R.bits)) = true
    rw [decide_eq_true hn.1, decide_eq_true hn.2]
    rfl
  rw [e]
  exact ⟨_, rfl, iteF k⟩
end
end Nn
set_option Elab.async false
set_option linter.all false
set_option maxRecDepth 100000
set_option maxHeartbeats 1000000
namespace Nn
open PySem PySem.Spec PyProof.Rows L2 LamX KeyL
/-! ### kept things, in order -/
abbrev Thing := Int × Int × Option Str
def keptM (R : RingS) (n : Int) : List Thing := (R.node n).things.mergeSort fun x y => decide (x.1 ≤ y.1)
theorem keptM_perm (R : RingS) (n : Int) : (keptM R n).Perm (R.node n).things := List.mergeSort_perm ..
theorem keptM_sorted (R : RingS) (n : Int) : (keptM R n).Pairwise fun x y => x.1 ≤ y.1 := by
  have h := List.pairwise_mergeSort (le := fun x y : Thing => decide (x.1 ≤ y.1)) (fun x y z h1 h2 => by simp at *; omega) (fun x y => by simp; omega) (R.node n).things
  exact h.imp fun h => by simpa using h
theorem sortedU {α : Type} {g : α → Int} : ∀ {xs ys : List α}, xs.Perm ys → xs.Pairwise (fun x y => g x ≤ g y) → ys.Pairwise (fun x y => g x ≤ g y) → (∀ x ∈ ys, ∀ y ∈ ys, g x = g y → x = y) → xs = ys
  | [], ys, h, _, _, _ => by rw [List.nil_perm.mp h]
  | x :: xs, [], h, _, _, _ => by have := h.length_eq; simp at this
  | x :: xs, y :: ys, h, h1, h2, h3 => by
    have hx : x ∈ y :: ys := h.mem_iff.mp (List.mem_cons_self ..)
    have hy : y ∈ x :: xs := h.mem_iff.mpr (List.mem_cons_self ..)
    have e : x = y := by
      refine h3 x hx y (List.mem_cons_self ..) ?_
      have l1 : g x ≤ g y := by
        rcases List.mem_cons.mp hy with z | z
        · rw [z]; exact Int.le_refl _
        · exact (List.pairwise_cons.mp h1).1 y z
      have l2 : g y ≤ g x := by
        rcases List.mem_cons.mp hx with z | z
        · rw [z]; exact Int.le_refl _
        · exact (List.pairwise_cons.mp h2).1 x z
      omega
    subst e
    rw [sortedU (List.Perm.cons_inv h) (List.pairwise_cons.mp h1).2 (List.pairwise_cons.mp h2).2 fun a ha b hb => h3 a (List.mem_cons_of_mem _ ha) b (List.mem_cons_of_mem _ hb)]
theorem paired_perm {α β : Type} {F : α → β → Prop} {xs ys : List α} (p : ys.Perm xs) : ∀ {es : List β}, Paired F xs es → ∃ es', Paired F ys es' ∧ es'.Perm es := by
  induction p with
  | nil => exact fun h => ⟨_, h, List.Perm.refl _⟩
  | cons x _ ih =>
    intro es h
    cases h with
    | cons a t =>
      obtain ⟨es', h1, h2⟩ := ih t
      exact ⟨_ :: es', .cons a h1, h2.cons _⟩
  | swap x y l =>
    intro es h
    cases h with
    | cons a t =>
      cases t with
      | cons b t => exact ⟨_, .cons b (.cons a t), List.Perm.swap ..⟩
  | trans _ _ ih1 ih2 =>
    intro es h
    obtain ⟨e1, h1, h2⟩ := ih2 h
    obtain ⟨e2, h3, h4⟩ := ih1 h1
    exact ⟨e2, h3, h4.trans h2⟩
theorem paired_mono {α β : Type} {F G : α → β → Prop} (h : ∀ x y, F x y → G x y) : ∀ {xs : List α} {ys : List β}, Paired F xs ys → Paired G xs ys
  | _, _, .nil => .nil
  | _, _, .cons a t => .cons (h _ _ a) (paired_mono h t)
theorem paired_mapL {α β γ : Type} {F : α → β → Prop} (g : γ → α) : ∀ {xs : List γ} {ys : List β}, Paired (fun x y => F (g x) y) xs ys → Paired F (xs.map g) ys
  | _, _, .nil => .nil
  | _, _, .cons a t => .cons a (paired_mapL g t)
theorem paired_mapR {α β γ : Type} {F : α → β → Prop} (g : γ → β) : ∀ {ys : List γ} {xs : List α}, Paired F xs (ys.map g) → Paired (fun x y => F x (g y)) xs ys
  | [], _, .nil => .nil
  | _ :: _, _, .cons a t => .cons a (paired_mapR g t)
theorem paired_memL {α β : Type} {F : α → β → Prop} : ∀ {xs : List α} {ys : List β}, Paired F xs ys → ∀ x ∈ xs, ∃ y ∈ ys, F x y
  | _, _, .cons a t, x, hx => by
    rcases List.mem_cons.mp hx with e | hx
    · exact ⟨_, List.mem_cons_self .., by rw [e]; exact a⟩
    · obtain ⟨y, h1, h2⟩ := paired_memL t x hx
      exact ⟨y, List.mem_cons_of_mem _ h1, h2⟩
theorem paired_len {α β : Type} {F : α → β → Prop} : ∀ {xs : List α} {ys : List β}, Paired F xs ys → xs.length = ys.length
  | _, _, .nil => rfl
  | _, _, .cons _ t => congrArg (· + 1) (paired_len t)
theorem paired_at {α β : Type} {F : α → β → Prop} : ∀ {xs : List α} {ys : List β}, Paired F xs ys → ∀ {i : Nat} {x : α}, xs[i]? = some x → ∃ y, ys[i]? = some y ∧ F x y
  | _, _, .cons a t, 0, x, h => ⟨_, rfl, by rw [← Option.some.inj h]; exact a⟩
  | _, _, .cons a t, i + 1, x, h => paired_at t (i := i) h
theorem paired_pw {α β : Type} {F : α → β → Prop} {r : α → α → Prop} {r' : β → β → Prop} (h : ∀ x y u v, F x u → F y v → r x y → r' u v) : ∀ {xs : List α} {ys : List β}, Paired F xs ys → xs.Pairwise r → ys.Pairwise r'
  | _, _, .nil, _ => .nil
  | _, _, .cons a t, p => by
    refine List.pairwise_cons.mpr ⟨fun v hv => ?_, paired_pw h t (List.pairwise_cons.mp p).2⟩
    have key : ∀ {xs : List α} {ys : List β}, Paired F xs ys → ∀ v ∈ ys, ∃ x ∈ xs, F x v := by
      intro xs ys q
      induction q with
      | nil => intro v hv; cases hv
      | cons a t ih =>
        intro v hv
        rcases List.mem_cons.mp hv with e | hv
        · exact ⟨_, List.mem_cons_self .., by rw [e]; exact a⟩
        · obtain ⟨x, h1, h2⟩ := ih v hv
          exact ⟨x, List.mem_cons_of_mem _ h1, h2⟩
    obtain ⟨x, hx, hf⟩ := key t v hv
    exact h _ _ _ _ a hf ((List.pairwise_cons.mp p).1 x hx)
/-- a list of tuples (point, stamp, text) -/
def RowAt (H : Hp) (t : Addr) (e : Thing) : Prop := H t = some (.tup [.int e.1, .int e.2.1, oT e.2.2])
def KeptAt (H : Hp) (q : Addr) (es : List Thing) : Prop := ∃ us : List Addr, H q = some (.lst (us.map V.ref)) ∧ Paired (RowAt H) us es
def hdI (H : Hp) : V → Int
  | .ref t => match H t with
    | some (.tup (.int i :: _)) => i
    | _ => 0
  | _ => 0
theorem hdI_at {H : Hp} {t : Addr} {i : Int} {xs : List V} (h : H t = some (.tup (.int i :: xs))) : hdI H (.ref t) = i := by
  unfold hdI
  show (match H t with | some (.tup (.int i :: _)) => i | _ => 0) = i
  rw [h]
theorem Ok.tlen {R : RingS} (h : Ok R) (n : Int) (hn : n ∈ R.names) : (R.node n).things.length ≤ R.puts.length := by
  have e : ((R.node n).things.map fun t => t.2.1.toNat - 1).length ≤ (List.range R.puts.length).length := by
    refine nat_nodup_len _ _ ?_ fun x hx => ?_
    · refine List.pairwise_map.mpr (List.Pairwise.imp_of_mem (fun {a b} ha hb hab e => ?_) (List.pairwise_map.mp (h.keys n hn)))
      have k1 := (h.kept n hn a ha).2.1
      have k2 := (h.kept n hn b hb).2.1
      rw [e, k2] at k1
      exact hab (congrArg Prod.fst (Option.some.inj k1)).symm
    · obtain ⟨t, ht, rfl⟩ := List.mem_map.mp hx
      have k1 := (h.kept n hn t ht).2.1
      exact List.mem_range.mpr (List.getElem?_eq_some_iff.mp k1).1
  rw [List.length_map, List.length_range] at e
  exact e
section
variable {P : Program} {w : World} {K : PySem.W.Frag} {mg : Str → Option Value} {base : Heap}
def spKept (K : PySem.W.Frag) : Sp := fun vs H Q _ => ∃ A R n, vs = [.ref A.r, .int n] ∧ At K H A R ∧ n ∈ R.names ∧ ∀ q H', NotOld H q → KeptAt H' q (keptM R n) → Fin K H H' → Q (.ref q) H'
theorem sc_Ring_kept : FnScope ["self", "name", "point", "stamp", "text"] ["self", "name"] (defScope s_Ring_kept) := ⟨rfl, rfl, rfl, by decide +kernel, rfl, by decide +kernel, by decide +kernel⟩
theorem ok_Ring_kept (S : Say K mg base) : FnOk P w K mg base CX0 5 (He.ma K (He.ga K "Ring") "kept") (fdO K ("Ring", some "kept")) ["self", "name"] (spKept K) := by
  refine (S.F_Ring_kept).ok sc_Ring_kept (fun vs H Q E h => ?_) (fun cdv A outer s H vs Q E hr h => ?_)
  · obtain ⟨A, R, n, rfl, h, hn, k⟩ := h
    rfl
  obtain ⟨A, R, n, rfl, h, hn, k⟩ := h
  have hu := hu_of hr
  refine ⟨_, PSs.nox (pss_one (ps_ret (pe_lc (own := [("point", 2), ("stamp", 3), ("text", 4)]) rfl sc_Ring_kept.nd (pi_list (pe_callB cr_sortedHd (by rfl) S.z_sorted (by decide +kernel) (pa_cons (LiI.pe_listItems rfl ((pe_fld (pe_meth (pv 0) S.c_Ring S.m_Ring_node (ok_Ring_node S) (hr.mono (by decide)) S.b_Ring_node .nil pass0 (pa_cons (pv 1) pa_nil)) rfl)) (by rfl) S.z_list (by decide +kernel)) pa_nil))) (blkOk_by (own := [("point", 2), ("stamp", 3), ("text", 4)]) (N := ["self", "name", "point", "stamp", "text"]) (sc := defScope s_Ring_kept) (by decide +kernel)) (fun _ _ _ _ _ => (pg_tupK (K := K) (n := 2) rfl rfl (pgs_cons (pg_name (i := 2) sc_Ring_kept.nd rfl (Or.inl rfl) (Or.inr rfl)) (pgs_cons (pg_tupK (K := K) (n := 2) rfl rfl (pgs_cons (pg_name (i := 3) sc_Ring_kept.nd rfl (Or.inl rfl) (Or.inr rfl)) (pgs_cons (pg_name (i := 4) sc_Ring_kept.nd rfl (Or.inl rfl) (Or.inr rfl)) pgs_nil))) pgs_nil)))) (fun _ _ _ _ _ => pts_nil) (fun _ _ _ _ _ => (pe_tup (pa_cons (pv 2) (pa_cons (pv 3) (pa_cons (pv 4) pa_nil)))))))), ?_⟩
  have hN := h.ring.node n hn
  obtain ⟨hk, f, hd, ht⟩ := hN.things
  refine ⟨_, rfl, A.r, A.dx, _, rfl, h.ring.ob, rfl, _, rfl, A, R, n, rfl, h.ring, h.ok, hn, A.nd n, _, A.nx n, _, _, rfl, hN.ob, S.c_Node, S.n_Node_things, rfl, A.at_ n, _, rfl, hd, fun H1 p ts s1 hp hts hpt hH1 hP => ?_⟩
  have hP2 : Paired (fun t (e : Thing) => H1 t = some (.tup [.int e.1, V.ref (f e.1)])) ts (R.node n).things := paired_mapR (F := fun (t : Addr) (q : Key × V) => H1 t = some (.tup [kV q.1, q.2])) (fun t : Thing => ((Sum.inl t.1 : Key), V.ref (f t.1))) hP
  have hP3 : Paired (fun x (e : Thing) => ∃ t, x = V.ref t ∧ H1 t = some (.tup [.int e.1, V.ref (f e.1)])) (ts.map V.ref) (R.node n).things := paired_mapL V.ref (paired_mono (fun t e h => ⟨t, rfl, h⟩) hP2)
  have keyOf : ∀ x ∈ ts.map V.ref, ∃ e ∈ (R.node n).things, ∃ t, x = V.ref t ∧ H1 t = some (.tup [.int e.1, V.ref (f e.1)]) := paired_memL hP3
  have unq : ∀ x ∈ (R.node n).things, ∀ y ∈ (R.node n).things, x.1 = y.1 → x = y := by
    intro x hx y hy e
    obtain ⟨i, hi⟩ := List.mem_iff_getElem?.mp hx
    obtain ⟨j, hj⟩ := List.mem_iff_getElem?.mp hy
    have hi2 : ((R.node n).things.map (·.1))[i]? = some x.1 := by rw [List.getElem?_map, hi]; rfl
    have hj2 : ((R.node n).things.map (·.1))[j]? = some x.1 := by rw [List.getElem?_map, hj, e]; rfl
    have hl : i < ((R.node n).things.map (·.1)).length := (List.getElem?_eq_some_iff.mp hi2).1
    have eij : i = j := (List.getElem?_inj hl hk).mp (hi2.trans hj2.symm)
    rw [eij, hj] at hi
    exact (Option.some.inj hi).symm
  refine ⟨p, ts.map V.ref, hdI H1, rfl, .inl (.inl hH1), fun x hx => ?_, fun x hx y hy e => ?_, fun ys q hsrt hperm hq => ?_⟩
  · obtain ⟨e, _, t, rfl, h1⟩ := keyOf x hx
    exact ⟨t, _, rfl, by rw [hdI_at h1]; exact h1⟩
  · obtain ⟨i, hi⟩ := List.mem_iff_getElem?.mp hx
    obtain ⟨j, hj⟩ := List.mem_iff_getElem?.mp hy
    obtain ⟨e1, a1, t1, rfl, b1⟩ := paired_at hP3 hi
    obtain ⟨e2, a2, t2, rfl, b2⟩ := paired_at hP3 hj
    rw [hdI_at b1, hdI_at b2] at e
    have hi2 : ((R.node n).things.map (·.1))[i]? = some e1.1 := by rw [List.getElem?_map, a1]; rfl
    have hj2 : ((R.node n).things.map (·.1))[j]? = some e1.1 := by rw [List.getElem?_map, a2, e]; rfl
    have hl : i < ((R.node n).things.map (·.1)).length := (List.getElem?_eq_some_iff.mp hi2).1
    have eij : i = j := (List.getElem?_inj hl hk).mp (hi2.trans hj2.symm)
    rw [eij, hj] at hi
    exact (Option.some.inj hi).symm
  · obtain ⟨es, hE, pE⟩ := paired_perm hperm hP3
    have hE2 : Paired (fun x (e : Thing) => x ∈ ys ∧ ∃ t, x = V.ref t ∧ H1 t = some (.tup [.int e.1, V.ref (f e.1)])) ys es := by
      have go : ∀ {us : List V} {vs : List Thing}, Paired (fun x (e : Thing) => ∃ t, x = V.ref t ∧ H1 t = some (.tup [.int e.1, V.ref (f e.1)])) us vs → (∀ u ∈ us, u ∈ ys) → Paired (fun x (e : Thing) => x ∈ ys ∧ ∃ t, x = V.ref t ∧ H1 t = some (.tup [.int e.1, V.ref (f e.1)])) us vs := by
        intro us vs q
        induction q with
        | nil => exact fun _ => .nil
        | cons a t ih => exact fun h => .cons ⟨h _ (List.mem_cons_self ..), a⟩ (ih fun u hu => h u (List.mem_cons_of_mem _ hu))
      exact go hE fun u hu => hu
    have hS : es.Pairwise fun x y => x.1 ≤ y.1 := by
      refine paired_pw (r := fun x y => hdI H1 x ≤ hdI H1 y) (fun x y u v => ?_) hE hsrt
      rintro ⟨t, rfl, h1⟩ ⟨t', rfl, h2⟩ h3
      rw [hdI_at h1, hdI_at h2] at h3
      exact h3
    have eK : es = keptM R n := by
      refine sortedU (g := fun e : Thing => e.1) (pE.trans (keptM_perm R n).symm) hS (keptM_sorted R n) fun x hx y hy e => ?_
      exact unq x ((keptM_perm R n).mem_iff.mp hx) y ((keptM_perm R n).mem_iff.mp hy) e
    subst eK
    have f1 : Fin K H H1 := ⟨fun b o e _ => s1 b o e, h.tabs.ext s1⟩
    have f2 : Fin K H (upd H1 q (.lst ys)) := f1.new hq
    refine ⟨q, rfl, ⟨_, .inl (.inl upd_same)⟩, fun D hD => ?_⟩
    have hqD : upd H1 q (.lst ys) q = some (.lst ys) := upd_same
    have hln : ys.length = (keptM R n).length := paired_len hE
    refine lc_list (K := K) (a := q) (xs := ys) (fun i H2 => Same (upd H1 q (.lst ys)) H2 ∧ ∃ us : List Addr, H2 D = some (.lst (us.map V.ref)) ∧ Paired (RowAt H2) us ((keptM R n).take i)) ⟨same_new hD, [], upd_same, .nil⟩ (fun i H2 _ h => .inl (.inl (h.1 _ _ hqD))) ?_ ?_
    · rintro i x H2 hi ⟨s2, us, hd2, hP4⟩
      obtain ⟨e, he, t, rfl, ht1⟩ := paired_at hE hi
      have hem : e ∈ (R.node n).things := (keptM_perm R n).mem_iff.mp (List.mem_of_getElem? he)
      have ht2 : H2 t = some (.tup [.int e.1, V.ref (f e.1)]) := s2 _ _ (by rw [upd_ne (ne_of_none ht1 hq)]; exact ht1)
      have hf2 : H2 (f e.1) = some (.tup [.int e.2.1, oT e.2.2]) := s2 _ _ (by rw [upd_ne (ne_of_none (s1 _ _ (ht e hem)) hq)]; exact s1 _ _ (ht e hem))
      refine ⟨t, _, rfl, .inl (.inl ht2), rfl, _, _, rfl, _, _, rfl, ⟨f e.1, _, rfl, .inl (.inl hf2), rfl, _, _, rfl, _, _, rfl, rfl, rfl, rfl, ?_⟩⟩
      have rows : ∀ (u : Addr) (o : HO) (xs : List V), H2 u = none → ∀ t0 e0, RowAt H2 t0 e0 → RowAt (upd (upd H2 u o) D (.lst xs)) t0 e0 := fun u o xs hu t0 e0 h0 => by
        unfold RowAt at h0 ⊢
        rw [upd_ne (ne_of h0 hd2 fun z => nomatch z), upd_ne (ne_of_none h0 hu)]
        exact h0
      refine ⟨_, rfl, _, rfl, _, rfl, (by rw [sizeLine_eq]; show 3 ≤ 16777216; omega), fun u hu => ⟨us.map V.ref, by rw [upd_ne (ne_of_none hd2 hu)]; exact hd2, ?_, ?_, us ++ [u], ?_, ?_⟩⟩
      · rw [List.length_map, paired_len hP4, List.length_take, sizeLine_eq]
        have z1 := (keptM_perm R n).length_eq
        have z2 := h.ok.tlen n hn
        have z3 := h.ok.puts
        omega
      · intro b o e
        rw [upd_ne (ne_of_none e hD), upd_ne (ne_of_none (s2 b o e) hu)]
        exact s2 b o e
      · rw [upd_same, List.map_append]
        rfl
      · rw [List.take_add_one, he]
        refine Paired.snoc (paired_mono (rows u _ _ hu) hP4) ?_
        show upd (upd H2 u _) D _ u = _
        rw [upd_ne (Ne.symm (ne_of_none hd2 hu)), upd_same]
    · rintro H2 ⟨s2, us, hd2, hP4⟩
      rw [hln, List.take_length] at hP4
      have f3 : Fin K H H2 := f2.trans (Fin.of s2 f2.2)
      exact k D H2 ((notOld_of hD).back f2) ⟨us, hd2, hP4⟩ f3
end
end Nn
set_option Elab.async false
set_option linter.all false
set_option maxRecDepth 100000
set_option maxHeartbeats 1000000
namespace Nn
open PySem PySem.Spec PyProof.Rows L2 LamX KeyL
/-! ### what changes a ring -/
def RA.setC (A : RA) (n : Int) (q : Addr) : RA := { A with ac := fun m => if m = n then q else A.ac m, ρ := fun b => if b = q then some (.chain n) else A.ρ b }
def RingS.setN (R : RingS) (n : Int) (s : NodeS) : RingS := { R with node := fun m => if m = n then s else R.node m }
theorem setN_same (R : RingS) (n : Int) (s : NodeS) : (R.setN n s).node n = s := if_pos rfl
theorem setN_ne (R : RingS) {n m : Int} (s : NodeS) (h : m ≠ n) : (R.setN n s).node m = R.node m := if_neg h
theorem roleNe {A : RA} {a b : Addr} {x y : Role} (h1 : A.ρ a = some x) (h2 : A.ρ b = some y) (h : x ≠ y) : a ≠ b := fun e => h (by rw [e, h2] at h1; exact (Option.some.inj h1).symm)
theorem RingAt.setN {K : PySem.W.Frag} {H H' : Hp} {A : RA} {R : RingS} (h : RingAt K H A R) {n : Int} (hn : n ∈ R.names) {q : Addr} {s' : NodeS}
    (e1 : ∀ b ro o, A.ρ b = some ro → ro ≠ .node n → ro ≠ .chain n → ro ≠ .far n → ro ≠ .things n → H b = some o → H' b = some o)
    (e2 : ∀ b xs, H b = some (.tup xs) → H' b = some (.tup xs)) (hq : A.ρ q = none ∨ A.ρ q = some (.chain n))
    (hN : NodeAt K H' (A.nd n) (A.nx n) q (A.af n) (A.at_ n) s') (e3 : ∀ b ro, A.ρ b = some ro → ∃ o, H' b = some o ∧ plainO o = true) : RingAt K H' (A.setC n q) (R.setN n s') := by
  have ρe : ∀ b ro, A.ρ b = some ro → (A.setC n q).ρ b = some ro := fun b ro hb => by
    show (if b = q then some (Role.chain n) else A.ρ b) = some ro
    by_cases e : b = q
    · rw [if_pos e]
      rw [e] at hb
      rcases hq with z | z
      · rw [z] at hb; cases hb
      · rw [z] at hb; exact hb
    · rw [if_neg e]; exact hb
  refine ⟨e1 _ _ _ h.rRing nofun nofun nofun nofun h.ob, ?_, e1 _ _ _ h.rFixed nofun nofun nofun nofun h.fixed, e1 _ _ _ h.rNodes nofun nofun nofun nofun h.nodes, ?_, fun m hm => ?_, ρe _ _ h.rRing, ρe _ _ h.rSpace, ρe _ _ h.rFixed, ρe _ _ h.rNodes, ρe _ _ h.rDone, fun m hm => ρe _ _ (h.rNode m hm), fun m hm => ?_, fun m hm => ρe _ _ (h.rFar m hm), fun m hm => ρe _ _ (h.rThings m hm), fun b ro hb => ?_⟩
  · obtain ⟨h1, dx, h2⟩ := h.space
    exact ⟨h1, dx, e1 _ _ _ h.rSpace nofun nofun nofun nofun h2⟩
  · obtain ⟨vs, h1, h2⟩ := h.done
    exact ⟨vs, e1 _ _ _ h.rDone nofun nofun nofun nofun h1, Paired.impV (DeedAt.ext e2) h2⟩
  · by_cases e : m = n
    · subst e
      rw [setN_same]
      show NodeAt K H' (A.nd m) (A.nx m) (if m = m then q else A.ac m) (A.af m) (A.at_ m) s'
      rw [if_pos rfl]
      exact hN
    · rw [setN_ne R s' e]
      show NodeAt K H' (A.nd m) (A.nx m) (if m = n then q else A.ac m) (A.af m) (A.at_ m) (R.node m)
      rw [if_neg e]
      have ne : ∀ {f : Int → Role}, (∀ a b, f a = f b → a = b) → f m ≠ f n := fun hf z => e (hf _ _ z)
      refine (h.node m hm).ext (fun b o hb eo => ?_) e2
      rcases hb with rfl | rfl | rfl | rfl
      · exact e1 _ _ _ (h.rNode m hm) (fun z => e (Role.node.inj z)) nofun nofun nofun eo
      · exact e1 _ _ _ (h.rChain m hm) nofun (fun z => e (Role.chain.inj z)) nofun nofun eo
      · exact e1 _ _ _ (h.rFar m hm) nofun nofun (fun z => e (Role.far.inj z)) nofun eo
      · exact e1 _ _ _ (h.rThings m hm) nofun nofun nofun (fun z => e (Role.things.inj z)) eo
  · show (if (if m = n then q else A.ac m) = q then some (Role.chain n) else A.ρ (if m = n then q else A.ac m)) = some (.chain m)
    by_cases e : m = n
    · rw [if_pos e, if_pos rfl, e]
    · rw [if_neg e]
      exact ρe _ _ (h.rChain m hm)
  · have hb' : (if b = q then some (Role.chain n) else A.ρ b) = some ro := hb
    by_cases e : b = q
    · rw [e]
      exact ⟨_, hN.chain, rfl⟩
    · rw [if_neg e] at hb'
      exact e3 b ro hb'
/-- one object of the ring written -/
theorem live_upd {K : PySem.W.Frag} {H : Hp} {A : RA} {R : RingS} (h : RingAt K H A R) {a : Addr} {o : HO} (hp : plainO o = true) : ∀ b ro, A.ρ b = some ro → ∃ o', upd H a o b = some o' ∧ plainO o' = true := fun b ro hb => by
  by_cases e : b = a
  · rw [e]; exact ⟨o, upd_same, hp⟩
  · rw [upd_ne e]; exact h.live b ro hb
theorem tabs_role {K : PySem.W.Frag} {H : Hp} {A : RA} {R : RingS} (h : RingAt K H A R) (t : Tabs (tabT K) H) {a : Addr} {ro : Role} (ha : A.ρ a = some ro) (o : HO) : Tabs (tabT K) (upd H a o) := by
  obtain ⟨o', h1, h2⟩ := h.live a ro ha
  exact tabs_upd t h1 h2
theorem frame_role {K : PySem.W.Frag} {H : Hp} {A A' : RA} {R : RingS} (h : RingAt K H A R) {a : Addr} {ro : Role} (ha : A.ρ a = some ro) {o : HO} (hr : A'.r = A.r) (hρ : ∀ b o, H b = some o → (∀ ps, o ≠ .tbl ps) → A.ρ b = none → A'.ρ b = none) (ht : ∀ xs, H a ≠ some (.tup xs)) : Frame H A (upd H a o) A' :=
  ⟨hr, fun b u h1 h2 h3 => ⟨by rw [upd_ne (fun e => by rw [e, ha] at h3; cases h3)]; exact h1, hρ b u h1 h2 h3⟩, fun b xs hb => by rw [upd_ne (fun e => by rw [e] at hb; exact ht xs hb)]; exact hb⟩
theorem setC_same {A : RA} {n : Int} (h : A.ρ (A.ac n) = some (.chain n)) : A.setC n (A.ac n) = A := by
  cases A with
  | mk r dx sp afx an ad nd nx ac af at_ ρ =>
    show RA.mk r dx sp afx an ad nd nx (fun m => if m = n then ac n else ac m) af at_ (fun b => if b = ac n then some (.chain n) else ρ b) = _
    congr 1
    · funext m
      by_cases e : m = n
      · rw [if_pos e, e]
      · rw [if_neg e]
    · funext b
      by_cases e : b = ac n
      · rw [if_pos e, e]; exact h.symm
      · rw [if_neg e]
theorem Ok.setN {R : RingS} (h : Ok R) {n : Int} (s : NodeS) (clen : s.chain.length = R.many) (cpts : Pts R.bits s.chain) (cmem : ∃ m ∈ s.chain, m ∈ R.names) (flen : s.far.length = R.bits) (fpts : ∀ p, some p ∈ s.far → 0 ≤ p ∧ p < 2 ^ R.bits)
    (ppts : ∀ p, s.prior = some p → 0 ≤ p ∧ p < 2 ^ R.bits) (keys : (s.things.map (·.1)).Nodup) (kept : ∀ t ∈ s.things, 1 ≤ t.2.1 ∧ R.puts[t.2.1.toNat - 1]? = some (t.1, t.2.2) ∧ 0 ≤ t.1 ∧ t.1 < 2 ^ R.bits) : Ok (R.setN n s) := by
  have go : ∀ (m : Int) (p : NodeS → Prop), p s → p (R.node m) → p ((R.setN n s).node m) := fun m p h1 h2 => by
    by_cases e : m = n
    · rw [e, setN_same]; exact h1
    · rw [setN_ne R s e]; exact h2
  exact ⟨h.bits, h.many, h.fsort, h.fixed, h.fsub, h.nodup, h.pts, h.few, fun m hm => go m (fun s => s.chain.length = R.many) clen (h.clen m hm), fun m hm => go m (fun s => Pts R.bits s.chain) cpts (h.cpts m hm),
    fun m hm => go m (fun s => ∃ m ∈ s.chain, m ∈ R.names) cmem (h.cmem m hm), fun m hm => go m (fun s => s.far.length = R.bits) flen (h.flen m hm), fun m hm => go m (fun s => ∀ p, some p ∈ s.far → 0 ≤ p ∧ p < 2 ^ R.bits) fpts (h.fpts m hm),
    fun m hm => go m (fun s => ∀ p, s.prior = some p → 0 ≤ p ∧ p < 2 ^ R.bits) ppts (h.ppts m hm), fun m hm => go m (fun s => (s.things.map (·.1)).Nodup) keys (h.keys m hm), fun m hm => go m (fun s => ∀ t ∈ s.things, 1 ≤ t.2.1 ∧ R.puts[t.2.1.toNat - 1]? = some (t.1, t.2.2) ∧ 0 ≤ t.1 ∧ t.1 < 2 ^ R.bits) kept (h.kept m hm), h.puts, h.dones⟩
/-! the node's parts -/
def withChain (s : NodeS) (c : List Int) : NodeS := { s with chain := c }
def withPrior (s : NodeS) (p : Option Int) : NodeS := { s with prior := p }
def withFar (s : NodeS) (f : List (Option Int)) : NodeS := { s with far := f }
def withThings (s : NodeS) (t : List Thing) : NodeS := { s with things := t }
def RingS.setChain (R : RingS) (n : Int) (c : List Int) : RingS := R.setN n (withChain (R.node n) c)
def RingS.setPrior (R : RingS) (n : Int) (p : Option Int) : RingS := R.setN n (withPrior (R.node n) p)
def RingS.setFar (R : RingS) (n : Int) (f : List (Option Int)) : RingS := R.setN n (withFar (R.node n) f)
def RingS.setThings (R : RingS) (n : Int) (t : List Thing) : RingS := R.setN n (withThings (R.node n) t)
section
variable {K : PySem.W.Frag} {H : Hp} {A : RA} {R : RingS} {n : Int}
/-- node.chain = a new list -/
theorem At.chain (h : At K H A R) (hn : n ∈ R.names) {q : Addr} {c : List Int} (hq : H q = some (.lst (c.map V.int))) (hr : A.ρ q = none) (hx : A.nx n = A.nx n) (l : c.length = R.many) (p : Pts R.bits c) (m : ∃ m ∈ c, m ∈ R.names) :
    At K (upd H (A.nd n) (.ins (He.ga K "Node") (A.nx n) (nodeF q (oV (R.node n).prior) (A.af n) (A.at_ n)))) (A.setC n q) (R.setChain n c) ∧
    ∀ {G : Hp} (_ : Fin K G H) (_ : NotOld G q), Frame G A (upd H (A.nd n) (.ins (He.ga K "Node") (A.nx n) (nodeF q (oV (R.node n).prior) (A.af n) (A.at_ n)))) (A.setC n q) := by
  have hN := h.ring.node n hn
  have rn := h.ring.rNode n hn
  have tp : ∀ b xs, H b = some (.tup xs) → upd H (A.nd n) (.ins (He.ga K "Node") (A.nx n) (nodeF q (oV (R.node n).prior) (A.af n) (A.at_ n))) b = some (.tup xs) := fun b xs hb => by
    rw [upd_ne (ne_of hb hN.ob fun z => nomatch z)]; exact hb
  refine ⟨⟨h.ring.setN hn (fun b ro o hb n1 _ _ _ e => by rw [upd_ne (roleNe hb rn n1)]; exact e) tp (.inl hr) ?_ (live_upd h.ring rfl), ?_, tabs_role h.ring h.tabs rn _⟩, fun {G} f nq => ?_⟩
  · refine ⟨upd_same, by rw [upd_ne (ne_of hq hN.ob fun z => nomatch z)]; exact hq, by rw [upd_ne (roleNe (h.ring.rFar n hn) rn nofun)]; exact hN.far, hN.things.ext (fun o e => by rw [upd_ne (roleNe (h.ring.rThings n hn) rn nofun)]; exact e) tp⟩
  · exact h.ok.setN _ l p m (h.ok.flen n hn) (h.ok.fpts n hn) (h.ok.ppts n hn) (h.ok.keys n hn) (h.ok.kept n hn)
  · refine ⟨rfl, fun b o e1 e2 e3 => ⟨?_, ?_⟩, fun b xs e => tp _ _ (f.1 _ _ e fun _ z => nomatch z)⟩
    · rw [upd_ne (fun e => by rw [e, rn] at e3; cases e3)]
      exact f.1 b o e1 e2
    · show (if b = q then some (Role.chain n) else A.ρ b) = none
      rw [if_neg (nq b o e1 e2)]
      exact e3
theorem At.same (h : At K H A R) (hn : n ∈ R.names) {H' : Hp} {s : NodeS} (hr : RingAt K H' (A.setC n (A.ac n)) (R.setN n s)) (ho : Ok (R.setN n s)) (ht : Tabs (tabT K) H') : At K H' A (R.setN n s) := by
  rw [setC_same (h.ring.rChain n hn)] at hr
  exact ⟨hr, ho, ht⟩
/-- node.prior = a name -/
theorem At.prior (h : At K H A R) (hn : n ∈ R.names) {p : Option Int} (hp : ∀ x, p = some x → 0 ≤ x ∧ x < 2 ^ R.bits) :
    At K (upd H (A.nd n) (.ins (He.ga K "Node") (A.nx n) (nodeF (A.ac n) (oV p) (A.af n) (A.at_ n)))) A (R.setPrior n p) ∧ Frame H A (upd H (A.nd n) (.ins (He.ga K "Node") (A.nx n) (nodeF (A.ac n) (oV p) (A.af n) (A.at_ n)))) A := by
  have hN := h.ring.node n hn
  have rn := h.ring.rNode n hn
  have tp : ∀ b xs, H b = some (.tup xs) → upd H (A.nd n) (.ins (He.ga K "Node") (A.nx n) (nodeF (A.ac n) (oV p) (A.af n) (A.at_ n))) b = some (.tup xs) := fun b xs hb => by
    rw [upd_ne (ne_of hb hN.ob fun z => nomatch z)]; exact hb
  refine ⟨h.same hn (h.ring.setN hn (fun b ro o hb n1 _ _ _ e => by rw [upd_ne (roleNe hb rn n1)]; exact e) tp (.inr (h.ring.rChain n hn)) ?_ (live_upd h.ring rfl)) ?_ (tabs_role h.ring h.tabs rn _), frame_role h.ring rn rfl (fun b o _ _ e => e) fun xs z => by rw [hN.ob] at z; cases z⟩
  · exact ⟨upd_same, by rw [upd_ne (roleNe (h.ring.rChain n hn) rn nofun)]; exact hN.chain, by rw [upd_ne (roleNe (h.ring.rFar n hn) rn nofun)]; exact hN.far, hN.things.ext (fun o e => by rw [upd_ne (roleNe (h.ring.rThings n hn) rn nofun)]; exact e) tp⟩
  · exact h.ok.setN _ (h.ok.clen n hn) (h.ok.cpts n hn) (h.ok.cmem n hn) (h.ok.flen n hn) (h.ok.fpts n hn) hp (h.ok.keys n hn) (h.ok.kept n hn)
/-- node.far[k] = a name -/
theorem At.far (h : At K H A R) (hn : n ∈ R.names) {f : List (Option Int)} (l : f.length = R.bits) (hp : ∀ p, some p ∈ f → 0 ≤ p ∧ p < 2 ^ R.bits) :
    At K (upd H (A.af n) (.lst (f.map oV))) A (R.setFar n f) ∧ Frame H A (upd H (A.af n) (.lst (f.map oV))) A := by
  have hN := h.ring.node n hn
  have rn := h.ring.rFar n hn
  have tp : ∀ b xs, H b = some (.tup xs) → upd H (A.af n) (.lst (f.map oV)) b = some (.tup xs) := fun b xs hb => by
    rw [upd_ne (ne_of hb hN.far fun z => nomatch z)]; exact hb
  refine ⟨h.same hn (h.ring.setN hn (fun b ro o hb _ _ n1 _ e => by rw [upd_ne (roleNe hb rn n1)]; exact e) tp (.inr (h.ring.rChain n hn)) ?_ (live_upd h.ring rfl)) ?_ (tabs_role h.ring h.tabs rn _), frame_role h.ring rn rfl (fun b o _ _ e => e) fun xs z => by rw [hN.far] at z; cases z⟩
  · exact ⟨by rw [upd_ne (roleNe (h.ring.rNode n hn) rn nofun)]; exact hN.ob, by rw [upd_ne (roleNe (h.ring.rChain n hn) rn nofun)]; exact hN.chain, upd_same, hN.things.ext (fun o e => by rw [upd_ne (roleNe (h.ring.rThings n hn) rn nofun)]; exact e) tp⟩
  · exact h.ok.setN _ (h.ok.clen n hn) (h.ok.cpts n hn) (h.ok.cmem n hn) l hp (h.ok.ppts n hn) (h.ok.keys n hn) (h.ok.kept n hn)
/-- node.things: a key written or dropped -/
theorem At.things (h : At K H A R) (hn : n ∈ R.names) {ts : List Thing} {f : Int → Addr} (hk : (ts.map (·.1)).Nodup) (hf : ∀ t ∈ ts, H (f t.1) = some (.tup [.int t.2.1, oT t.2.2]))
    (kp : ∀ t ∈ ts, 1 ≤ t.2.1 ∧ R.puts[t.2.1.toNat - 1]? = some (t.1, t.2.2) ∧ 0 ≤ t.1 ∧ t.1 < 2 ^ R.bits) :
    At K (upd H (A.at_ n) (.dK (ts.map fun t => (Sum.inl t.1, V.ref (f t.1))))) A (R.setThings n ts) ∧ Frame H A (upd H (A.at_ n) (.dK (ts.map fun t => (Sum.inl t.1, V.ref (f t.1))))) A := by
  have hN := h.ring.node n hn
  have rn := h.ring.rThings n hn
  obtain ⟨_, f0, hd, _⟩ := hN.things
  have tp : ∀ b xs, H b = some (.tup xs) → upd H (A.at_ n) (.dK (ts.map fun t => (Sum.inl t.1, V.ref (f t.1)))) b = some (.tup xs) := fun b xs hb => by
    rw [upd_ne (ne_of hb hd fun z => nomatch z)]; exact hb
  refine ⟨h.same hn (h.ring.setN hn (fun b ro o hb _ _ _ n1 e => by rw [upd_ne (roleNe hb rn n1)]; exact e) tp (.inr (h.ring.rChain n hn)) ?_ (live_upd h.ring rfl)) ?_ (tabs_role h.ring h.tabs rn _), frame_role h.ring rn rfl (fun b o _ _ e => e) fun xs z => by rw [hd] at z; cases z⟩
  · exact ⟨by rw [upd_ne (roleNe (h.ring.rNode n hn) rn nofun)]; exact hN.ob, by rw [upd_ne (roleNe (h.ring.rChain n hn) rn nofun)]; exact hN.chain, by rw [upd_ne (roleNe (h.ring.rFar n hn) rn nofun)]; exact hN.far, hk, f, upd_same, fun t ht => tp _ _ (hf t ht)⟩
  · exact h.ok.setN _ (h.ok.clen n hn) (h.ok.cpts n hn) (h.ok.cmem n hn) (h.ok.flen n hn) (h.ok.fpts n hn) (h.ok.ppts n hn) hk kp
/-- a deed more -/
def RingS.note (R : RingS) (d : Deed) : RingS := { R with done := R.done ++ [d] }
theorem At.noted (h : At K H A R) {vs : List V} (hv : H A.ad = some (.lst vs)) (hp : Paired (DeedAt H) vs R.done) {v : V} {d : Deed} (hd : DeedAt H v d) (hl : R.done.length < 1000000) :
    At K (upd H A.ad (.lst (vs ++ [v]))) A (R.note d) ∧ Frame H A (upd H A.ad (.lst (vs ++ [v]))) A := by
  have rn := h.ring.rDone
  have tp : ∀ b xs, H b = some (.tup xs) → upd H A.ad (.lst (vs ++ [v])) b = some (.tup xs) := fun b xs hb => by
    rw [upd_ne (ne_of hb hv fun z => nomatch z)]; exact hb
  have k : ∀ b ro o, A.ρ b = some ro → ro ≠ .done → H b = some o → upd H A.ad (.lst (vs ++ [v])) b = some o := fun b ro o h1 h2 h3 => by rw [upd_ne (roleNe h1 rn h2)]; exact h3
  have r := h.ring
  refine ⟨⟨⟨k _ _ _ r.rRing nofun r.ob, ?_, k _ _ _ r.rFixed nofun r.fixed, k _ _ _ r.rNodes nofun r.nodes, ⟨_, upd_same, Paired.snoc (Paired.impV (DeedAt.ext tp) hp) (DeedAt.ext tp _ _ hd)⟩, fun m hm => ?_, r.rRing, r.rSpace, r.rFixed, r.rNodes, r.rDone, r.rNode, r.rChain, r.rFar, r.rThings, live_upd r rfl⟩, ?_, tabs_role r h.tabs rn _⟩, frame_role r rn rfl (fun b o _ _ e => e) fun xs z => by rw [hv] at z; cases z⟩
  · obtain ⟨h1, dx, h2⟩ := r.space
    exact ⟨h1, dx, k _ _ _ r.rSpace nofun h2⟩
  · refine (r.node m hm).ext (fun b o hb eo => ?_) tp
    rcases hb with rfl | rfl | rfl | rfl
    · exact k _ _ _ (r.rNode m hm) nofun eo
    · exact k _ _ _ (r.rChain m hm) nofun eo
    · exact k _ _ _ (r.rFar m hm) nofun eo
    · exact k _ _ _ (r.rThings m hm) nofun eo
  · have o := h.ok
    exact ⟨o.bits, o.many, o.fsort, o.fixed, o.fsub, o.nodup, o.pts, o.few, o.clen, o.cpts, o.cmem, o.flen, o.fpts, o.ppts, o.keys, o.kept, o.puts, by show (R.done ++ [d]).length ≤ _; rw [List.length_append, List.length_singleton]; omega⟩
/-- a stamp more -/
def RingS.stamp (R : RingS) (p : Int × Option Str) : RingS := { R with puts := R.puts ++ [p] }
theorem At.stamped (h : At K H A R) (p : Int × Option Str) (hl : R.puts.length < 100000) :
    At K (upd H A.r (.ins (He.ga K "Ring") A.dx (ringF A R.many (R.puts.length + 1)))) A (R.stamp p) ∧ Frame H A (upd H A.r (.ins (He.ga K "Ring") A.dx (ringF A R.many (R.puts.length + 1)))) A := by
  have rn := h.ring.rRing
  have r := h.ring
  have tp : ∀ b xs, H b = some (.tup xs) → upd H A.r (.ins (He.ga K "Ring") A.dx (ringF A R.many (R.puts.length + 1))) b = some (.tup xs) := fun b xs hb => by
    rw [upd_ne (ne_of hb r.ob fun z => nomatch z)]; exact hb
  have k : ∀ b ro o, A.ρ b = some ro → ro ≠ .ring → H b = some o → upd H A.r (.ins (He.ga K "Ring") A.dx (ringF A R.many (R.puts.length + 1))) b = some o := fun b ro o h1 h2 h3 => by rw [upd_ne (roleNe h1 rn h2)]; exact h3
  refine ⟨⟨⟨?_, ?_, k _ _ _ r.rFixed nofun r.fixed, k _ _ _ r.rNodes nofun r.nodes, ?_, fun m hm => ?_, r.rRing, r.rSpace, r.rFixed, r.rNodes, r.rDone, r.rNode, r.rChain, r.rFar, r.rThings, live_upd r rfl⟩, ?_, tabs_role r h.tabs rn _⟩, frame_role r rn rfl (fun b o _ _ e => e) fun xs z => by rw [r.ob] at z; cases z⟩
  · rw [upd_same]
    show some (HO.ins _ _ (ringF A R.many (R.puts.length + 1))) = some (HO.ins _ _ (ringF A R.many (R.puts ++ [p]).length))
    rw [List.length_append, List.length_singleton]
  · obtain ⟨h1, dx, h2⟩ := r.space
    exact ⟨h1, dx, k _ _ _ r.rSpace nofun h2⟩
  · obtain ⟨vs, h1, h2⟩ := r.done
    exact ⟨vs, k _ _ _ r.rDone nofun h1, Paired.impV (DeedAt.ext tp) h2⟩
  · refine (r.node m hm).ext (fun b o hb eo => ?_) tp
    rcases hb with rfl | rfl | rfl | rfl
    · exact k _ _ _ (r.rNode m hm) nofun eo
    · exact k _ _ _ (r.rChain m hm) nofun eo
    · exact k _ _ _ (r.rFar m hm) nofun eo
    · exact k _ _ _ (r.rThings m hm) nofun eo
  · have o := h.ok
    refine ⟨o.bits, o.many, o.fsort, o.fixed, o.fsub, o.nodup, o.pts, o.few, o.clen, o.cpts, o.cmem, o.flen, o.fpts, o.ppts, o.keys, fun m hm t ht => ?_, by show (R.puts ++ [p]).length ≤ _; rw [List.length_append, List.length_singleton]; omega, o.dones⟩
    obtain ⟨k1, k2, k3⟩ := o.kept m hm t ht
    refine ⟨k1, ?_, k3⟩
    show (R.puts ++ [p])[_]? = _
    rw [List.getElem?_append_left (List.getElem?_eq_some_iff.mp k2).1]
    exact k2
end
end Nn
set_option Elab.async false
set_option linter.all false
set_option maxRecDepth 100000
set_option maxHeartbeats 1000000
namespace Nn
open PySem PySem.Spec PyProof.Rows L2 LamX KeyL
/-! ### coming and going -/
def RA.enter (A : RA) (n : Int) (x dx q r t : Addr) : RA := { A with nd := fun m => if m = n then x else A.nd m, nx := fun m => if m = n then dx else A.nx m, ac := fun m => if m = n then q else A.ac m, af := fun m => if m = n then r else A.af m, at_ := fun m => if m = n then t else A.at_ m, ρ := fun b => if b = x then some (.node n) else if b = q then some (.chain n) else if b = r then some (.far n) else if b = t then some (.things n) else A.ρ b }
def newNode (b : Nat) (c : List Int) : NodeS := ⟨c, none, List.replicate b none, []⟩
def RingS.enter (R : RingS) (n : Int) (c : List Int) : RingS := { R with names := R.names ++ [n], node := fun m => if m = n then newNode R.bits c else R.node m }
def RingS.vanish (R : RingS) (n : Int) : RingS := { R with names := R.names.filter fun m => decide (m ≠ n) }
section
variable {K : PySem.W.Frag} {H : Hp} {A : RA} {R : RingS} {n : Int}
theorem kvN_snoc (ns : List Int) (f : Int → Addr) (n : Int) (x : Addr) (h : n ∉ ns) : kvN ns f ++ [(Sum.inl n, V.ref x)] = kvN (ns ++ [n]) (fun m => if m = n then x else f m) := by
  unfold kvN
  rw [List.map_append, List.map_singleton]
  have e0 : (fun m : Int => if m = n then x else f m) n = x := if_pos rfl
  rw [e0]
  congr 1
  refine List.map_congr_left fun m hm => ?_
  have e1 : (fun m : Int => if m = n then x else f m) m = f m := if_neg (fun e : m = n => h (by rw [← e]; exact hm))
  rw [e1]
theorem kvN_drop (ns : List Int) (f : Int → Addr) (n : Int) : dropK (kvN ns f) (Sum.inl n : Key) = kvN (ns.filter fun m => decide (m ≠ n)) f := by
  unfold dropK kvN
  rw [List.filter_map]
  congr 1
  refine List.filter_congr fun m hm => ?_
  show decide ((Sum.inl m : Key) ≠ Sum.inl n) = decide (m ≠ n)
  refine decide_eq_decide.mpr ⟨fun h e => h (by rw [e]), fun h e => h (Sum.inl.inj e)⟩
theorem At.enter (h : At K H A R) {H1 : Hp} (f : Fin K H H1) (hn : n ∉ R.names) (hp : 0 ≤ n ∧ n < 2 ^ R.bits) (hl : R.names.length < 63) {x dx q r t : Addr} {c : List Int}
    (nx : NotOld H x) (nq : NotOld H q) (nr : NotOld H r) (nt : NotOld H t) (hx : H1 x = some (.ins (He.ga K "Node") dx (nodeF q .non r t))) (hq : H1 q = some (.lst (c.map V.int))) (hr : H1 r = some (.lst (List.replicate R.bits .non))) (ht : H1 t = some (.dK []))
    (qr : q ≠ r) (l : c.length = R.many) (p : Pts R.bits c) (m : ∃ m ∈ c, m ∈ R.names) :
    At K (upd H1 A.an (.dK (kvN (R.names ++ [n]) (fun m => if m = n then x else A.nd m)))) (A.enter n x dx q r t) (R.enter n c) ∧ Frame H A (upd H1 A.an (.dK (kvN (R.names ++ [n]) (fun m => if m = n then x else A.nd m)))) (A.enter n x dx q r t) := by
  have h1 := h.fin f
  have r1 := h1.ring
  have rn := r1.rNodes
  have old : ∀ b ro, A.ρ b = some ro → b ≠ x ∧ b ≠ q ∧ b ≠ r ∧ b ≠ t := fun b ro hb => by
    obtain ⟨o, e1, e2⟩ := h.ring.live b ro hb
    have e3 := plainO_tbl e2
    exact ⟨nx b o e1 e3, nq b o e1 e3, nr b o e1 e3, nt b o e1 e3⟩
  have off : ∀ b, b ≠ x ∧ b ≠ q ∧ b ≠ r ∧ b ≠ t → (A.enter n x dx q r t).ρ b = A.ρ b := fun b e => by
    show (if b = x then some (Role.node n) else if b = q then some (Role.chain n) else if b = r then some (Role.far n) else if b = t then some (Role.things n) else A.ρ b) = A.ρ b
    rw [if_neg e.1, if_neg e.2.1, if_neg e.2.2.1, if_neg e.2.2.2]
  have ρe : ∀ b ro, A.ρ b = some ro → (A.enter n x dx q r t).ρ b = some ro := fun b ro hb => by rw [off b (old b ro hb)]; exact hb
  have qx : q ≠ x := ne_of hq hx fun z => nomatch z
  have rx : r ≠ x := ne_of hr hx fun z => nomatch z
  have tx : t ≠ x := ne_of ht hx fun z => nomatch z
  have tq : t ≠ q := ne_of ht hq fun z => nomatch z
  have tr : t ≠ r := ne_of ht hr fun z => nomatch z
  have ρx : (A.enter n x dx q r t).ρ x = some (.node n) := if_pos rfl
  have ρq : (A.enter n x dx q r t).ρ q = some (.chain n) := by
    show (if q = x then some (Role.node n) else if q = q then some (Role.chain n) else if q = r then some (Role.far n) else if q = t then some (Role.things n) else A.ρ q) = _
    rw [if_neg qx, if_pos rfl]
  have ρr : (A.enter n x dx q r t).ρ r = some (.far n) := by
    show (if r = x then some (Role.node n) else if r = q then some (Role.chain n) else if r = r then some (Role.far n) else if r = t then some (Role.things n) else A.ρ r) = _
    rw [if_neg rx, if_neg (Ne.symm qr), if_pos rfl]
  have ρt : (A.enter n x dx q r t).ρ t = some (.things n) := by
    show (if t = x then some (Role.node n) else if t = q then some (Role.chain n) else if t = r then some (Role.far n) else if t = t then some (Role.things n) else A.ρ t) = _
    rw [if_neg tx, if_neg tq, if_neg tr, if_pos rfl]
  have oan := old _ _ rn
  have k : ∀ b ro o, A.ρ b = some ro → ro ≠ .nodes → H1 b = some o → upd H1 A.an (.dK (kvN (R.names ++ [n]) (fun m => if m = n then x else A.nd m))) b = some o := fun b ro o a1 a2 a3 => by rw [upd_ne (roleNe a1 rn a2)]; exact a3
  have tp : ∀ b xs, H1 b = some (.tup xs) → upd H1 A.an (.dK (kvN (R.names ++ [n]) (fun m => if m = n then x else A.nd m))) b = some (.tup xs) := fun b xs hb => by
    rw [upd_ne (ne_of hb r1.nodes fun z => nomatch z)]; exact hb
  refine ⟨⟨⟨k _ _ _ r1.rRing nofun r1.ob, ?_, k _ _ _ r1.rFixed nofun r1.fixed, upd_same, ?_, fun m hm => ?_, ρe _ _ r1.rRing, ρe _ _ r1.rSpace, ρe _ _ r1.rFixed, ρe _ _ r1.rNodes, ρe _ _ r1.rDone, fun m hm => ?_, fun m hm => ?_, fun m hm => ?_, fun m hm => ?_, fun b ro hb => ?_⟩, ?_, tabs_role r1 h1.tabs rn _⟩, ⟨rfl, fun b o e1 e2 e3 => ⟨?_, ?_⟩, fun b xs e => tp _ _ (f.1 _ _ e fun _ z => nomatch z)⟩⟩
  · obtain ⟨a1, d, a2⟩ := r1.space
    exact ⟨a1, d, k _ _ _ r1.rSpace nofun a2⟩
  · obtain ⟨vs, a1, a2⟩ := r1.done
    exact ⟨vs, k _ _ _ r1.rDone nofun a1, Paired.impV (DeedAt.ext tp) a2⟩
  · show NodeAt K _ (if m = n then x else A.nd m) (if m = n then dx else A.nx m) (if m = n then q else A.ac m) (if m = n then r else A.af m) (if m = n then t else A.at_ m) (if m = n then newNode R.bits c else R.node m)
    by_cases e : m = n
    · rw [if_pos e, if_pos e, if_pos e, if_pos e, if_pos e, if_pos e]
      refine ⟨by rw [upd_ne (Ne.symm oan.1)]; exact hx, by rw [upd_ne (Ne.symm oan.2.1)]; exact hq, ?_, List.nodup_nil, fun _ => 0, by rw [upd_ne (Ne.symm oan.2.2.2)]; exact ht, fun t h => absurd h (by simp [newNode])⟩
      rw [upd_ne (Ne.symm oan.2.2.1), hr]
      show _ = some (HO.lst ((List.replicate R.bits none).map oV))
      rw [List.map_replicate]
      rfl
    · rw [if_neg e, if_neg e, if_neg e, if_neg e, if_neg e, if_neg e]
      have hm' : m ∈ R.names := by
        rcases List.mem_append.mp hm with z | z
        · exact z
        · exact absurd (List.mem_singleton.mp z) e
      refine (r1.node m hm').ext (fun b o hb eo => ?_) tp
      rcases hb with rfl | rfl | rfl | rfl
      · exact k _ _ _ (r1.rNode m hm') nofun eo
      · exact k _ _ _ (r1.rChain m hm') nofun eo
      · exact k _ _ _ (r1.rFar m hm') nofun eo
      · exact k _ _ _ (r1.rThings m hm') nofun eo
  all_goals first
    | (show (A.enter n x dx q r t).ρ (if m = n then x else A.nd m) = some (.node m)
       by_cases e : m = n
       · rw [if_pos e, e]; exact ρx
       · rw [if_neg e]
         rcases List.mem_append.mp hm with z | z
         · exact ρe _ _ (r1.rNode m z)
         · exact absurd (List.mem_singleton.mp z) e)
    | (show (A.enter n x dx q r t).ρ (if m = n then q else A.ac m) = some (.chain m)
       by_cases e : m = n
       · rw [if_pos e, e]; exact ρq
       · rw [if_neg e]
         rcases List.mem_append.mp hm with z | z
         · exact ρe _ _ (r1.rChain m z)
         · exact absurd (List.mem_singleton.mp z) e)
    | (show (A.enter n x dx q r t).ρ (if m = n then r else A.af m) = some (.far m)
       by_cases e : m = n
       · rw [if_pos e, e]; exact ρr
       · rw [if_neg e]
         rcases List.mem_append.mp hm with z | z
         · exact ρe _ _ (r1.rFar m z)
         · exact absurd (List.mem_singleton.mp z) e)
    | (show (A.enter n x dx q r t).ρ (if m = n then t else A.at_ m) = some (.things m)
       by_cases e : m = n
       · rw [if_pos e, e]; exact ρt
       · rw [if_neg e]
         rcases List.mem_append.mp hm with z | z
         · exact ρe _ _ (r1.rThings m z)
         · exact absurd (List.mem_singleton.mp z) e)
    | skip
  · by_cases e : b = A.an
    · rw [e]; exact ⟨_, upd_same, rfl⟩
    · rw [upd_ne e]
      by_cases e1 : b = x
      · rw [e1]; exact ⟨_, hx, rfl⟩
      by_cases e2 : b = q
      · rw [e2]; exact ⟨_, hq, rfl⟩
      by_cases e3 : b = r
      · rw [e3]; exact ⟨_, hr, rfl⟩
      by_cases e4 : b = t
      · rw [e4]; exact ⟨_, ht, rfl⟩
      rw [off b ⟨e1, e2, e3, e4⟩] at hb
      exact r1.live b ro hb
  · have o := h.ok
    have go : ∀ (P : NodeS → Prop), P (newNode R.bits c) → (∀ m ∈ R.names, P (R.node m)) → ∀ m ∈ R.names ++ [n], P ((R.enter n c).node m) := fun P a1 a2 m hm => by
      show P (if m = n then newNode R.bits c else R.node m)
      by_cases e : m = n
      · rw [if_pos e]; exact a1
      · rw [if_neg e]
        rcases List.mem_append.mp hm with z | z
        · exact a2 m z
        · exact absurd (List.mem_singleton.mp z) e
    refine ⟨o.bits, o.many, o.fsort, o.fixed, fun m hm => List.mem_append_left _ (o.fsub m hm), ?_, ?_, ?_, go (fun s => s.chain.length = R.many) l o.clen, go (fun s => Pts R.bits s.chain) p o.cpts, go (fun s => ∃ m ∈ s.chain, m ∈ R.names ++ [n]) ?_ ?_, go (fun s => s.far.length = R.bits) (List.length_replicate ..) o.flen, go (fun s => ∀ p, some p ∈ s.far → 0 ≤ p ∧ p < 2 ^ R.bits) ?_ o.fpts, go (fun s => ∀ p, s.prior = some p → 0 ≤ p ∧ p < 2 ^ R.bits) (fun p z => nomatch z) o.ppts, go (fun s => (s.things.map (fun t : Thing => t.1)).Nodup) List.nodup_nil o.keys, go (fun s => ∀ t ∈ s.things, 1 ≤ t.2.1 ∧ R.puts[t.2.1.toNat - 1]? = some (t.1, t.2.2) ∧ 0 ≤ t.1 ∧ t.1 < 2 ^ R.bits) (fun t z => absurd z (by simp [newNode])) o.kept, o.puts, o.dones⟩
    · show (R.names ++ [n]).Nodup
      refine List.nodup_append.mpr ⟨o.nodup, List.pairwise_singleton _ n, fun a ha b hb => ?_⟩
      rw [List.mem_singleton.mp hb]
      exact fun e => hn (by rw [← e]; exact ha)
    · intro m hm
      rcases List.mem_append.mp hm with z | z
      · exact o.pts m z
      · rw [List.mem_singleton.mp z]; exact hp
    · show (R.names ++ [n]).length < 64
      rw [List.length_append, List.length_singleton]
      omega
    · obtain ⟨m, a1, a2⟩ := m
      exact ⟨m, a1, List.mem_append_left _ a2⟩
    · intro m hm
      obtain ⟨m', a1, a2⟩ := o.cmem m hm
      exact ⟨m', a1, List.mem_append_left _ a2⟩
    · intro p hp'
      have z := List.eq_of_mem_replicate hp'
      cases z
  · rw [upd_ne (fun e => by rw [e, rn] at e3; cases e3)]
    exact f.1 b o e1 e2
  · rw [off b ⟨nx b o e1 e2, nq b o e1 e2, nr b o e1 e2, nt b o e1 e2⟩]
    exact e3
theorem At.vanish (h : At K H A R) (hf : n ∉ R.fixed) (hc : ∀ m ∈ R.names, m ≠ n → ∃ k ∈ (R.node m).chain, k ∈ R.names ∧ k ≠ n) :
    At K (upd H A.an (.dK (kvN (R.names.filter fun m => decide (m ≠ n)) A.nd))) A (R.vanish n) ∧ Frame H A (upd H A.an (.dK (kvN (R.names.filter fun m => decide (m ≠ n)) A.nd))) A := by
  have r1 := h.ring
  have rn := r1.rNodes
  have k : ∀ b ro o, A.ρ b = some ro → ro ≠ .nodes → H b = some o → upd H A.an (.dK (kvN (R.names.filter fun m => decide (m ≠ n)) A.nd)) b = some o := fun b ro o a1 a2 a3 => by rw [upd_ne (roleNe a1 rn a2)]; exact a3
  have tp : ∀ b xs, H b = some (.tup xs) → upd H A.an (.dK (kvN (R.names.filter fun m => decide (m ≠ n)) A.nd)) b = some (.tup xs) := fun b xs hb => by
    rw [upd_ne (ne_of hb r1.nodes fun z => nomatch z)]; exact hb
  have mem : ∀ m, m ∈ R.names.filter (fun m => decide (m ≠ n)) ↔ m ∈ R.names ∧ m ≠ n := fun m => by rw [List.mem_filter, decide_eq_true_eq]
  have sub : ∀ m, m ∈ (R.vanish n).names → m ∈ R.names := fun m hm => ((mem m).mp hm).1
  refine ⟨⟨⟨k _ _ _ r1.rRing nofun r1.ob, ?_, k _ _ _ r1.rFixed nofun r1.fixed, upd_same, ?_, fun m hm => ?_, r1.rRing, r1.rSpace, r1.rFixed, r1.rNodes, r1.rDone, fun m hm => r1.rNode m (sub m hm), fun m hm => r1.rChain m (sub m hm), fun m hm => r1.rFar m (sub m hm), fun m hm => r1.rThings m (sub m hm), live_upd r1 rfl⟩, ?_, tabs_role r1 h.tabs rn _⟩, frame_role r1 rn rfl (fun b o _ _ e => e) fun xs z => by rw [r1.nodes] at z; cases z⟩
  · obtain ⟨a1, d, a2⟩ := r1.space
    exact ⟨a1, d, k _ _ _ r1.rSpace nofun a2⟩
  · obtain ⟨vs, a1, a2⟩ := r1.done
    exact ⟨vs, k _ _ _ r1.rDone nofun a1, Paired.impV (DeedAt.ext tp) a2⟩
  · have hm' := sub m hm
    refine (r1.node m hm').ext (fun b o hb eo => ?_) tp
    rcases hb with rfl | rfl | rfl | rfl
    · exact k _ _ _ (r1.rNode m hm') nofun eo
    · exact k _ _ _ (r1.rChain m hm') nofun eo
    · exact k _ _ _ (r1.rFar m hm') nofun eo
    · exact k _ _ _ (r1.rThings m hm') nofun eo
  · have o := h.ok
    refine ⟨o.bits, o.many, o.fsort, o.fixed, fun m hm => (mem m).mpr ⟨o.fsub m hm, fun e => hf (by rw [← e]; exact hm)⟩, o.nodup.filter _, fun m hm => o.pts m (sub m hm), Nat.lt_of_le_of_lt (List.length_filter_le ..) o.few, fun m hm => o.clen m (sub m hm), fun m hm => o.cpts m (sub m hm), fun m hm => ?_, fun m hm => o.flen m (sub m hm), fun m hm => o.fpts m (sub m hm), fun m hm => o.ppts m (sub m hm), fun m hm => o.keys m (sub m hm), fun m hm => o.kept m (sub m hm), o.puts, o.dones⟩
    obtain ⟨k, a1, a2⟩ := hc m (sub m hm) ((mem m).mp hm).2
    exact ⟨k, a1, (mem k).mpr a2⟩
end
end Nn
set_option Elab.async false
set_option linter.all false
set_option maxRecDepth 100000
set_option maxHeartbeats 1000000
namespace Nn
open PySem PySem.Spec PyProof.Rows L2 LamX KeyL
/-! ### the ring's own methods that change it -/
def getT (ts : List Thing) (p : Int) : Option Thing := ts.find? fun t => decide (t.1 = p)
/-- a thing offered: the newer one stays -/
def offerT (ts : List Thing) (p s : Int) (x : Option Str) : List Thing :=
  match getT ts p with
  | none => ts ++ [(p, s, x)]
  | some o => if o.2.1 < s then ts.map fun t => if t.1 = p then (p, s, x) else t else ts
def dropT (ts : List Thing) (p : Int) : List Thing := ts.filter fun t => decide (t.1 ≠ p)
def kvT (ts : List Thing) (f : Int → Addr) : List (Key × V) := ts.map fun t => (Sum.inl t.1, V.ref (f t.1))
theorem valV_kvT (f : Int → Addr) (p : Int) : ∀ ts : List Thing, valV (kvT ts f) (Sum.inl p : Key) = (getT ts p).map fun _ => V.ref (f p)
  | [] => rfl
  | t :: ts => by
    show valV ((Sum.inl t.1, V.ref (f t.1)) :: kvT ts f) _ = _
    unfold getT
    rw [List.find?_cons]
    by_cases h : t.1 = p
    · rw [valV_pos (by rw [h]), decide_eq_true h, h]
      rfl
    · rw [valV_neg (fun z => h (Sum.inl.inj z)), decide_eq_false h]
      exact valV_kvT f p ts
theorem getT_mem {ts : List Thing} {p : Int} {t : Thing} (h : getT ts p = some t) : t ∈ ts ∧ t.1 = p := ⟨List.mem_of_find?_eq_some h, by have := List.find?_some h; simpa using this⟩
theorem getT_none {ts : List Thing} {p : Int} (h : getT ts p = none) : ∀ t ∈ ts, t.1 ≠ p := fun t ht e => by
  have := List.find?_eq_none.mp h t ht
  simp [e] at this
theorem dropK_kvT (ts : List Thing) (f : Int → Addr) (p : Int) : dropK (kvT ts f) (Sum.inl p : Key) = kvT (dropT ts p) f := by
  unfold dropK kvT dropT
  rw [List.filter_map]
  congr 1
  refine List.filter_congr fun m hm => ?_
  show decide ((Sum.inl m.1 : Key) ≠ Sum.inl p) = decide (m.1 ≠ p)
  refine decide_eq_decide.mpr ⟨fun h e => h (by rw [e]), fun h e => h (Sum.inl.inj e)⟩
def updF (f : Int → Addr) (p : Int) (u : Addr) : Int → Addr := fun z => if z = p then u else f z
theorem putK_kvT_new {ts : List Thing} (f : Int → Addr) {p : Int} (h : getT ts p = none) (u : Addr) (s : Int) (x : Option Str) : putK (kvT ts f) (Sum.inl p : Key) (V.ref u) = kvT (ts ++ [(p, s, x)]) (updF f p u) := by
  rw [putK_new _ (by rw [valV_kvT, h]; rfl)]
  unfold kvT
  rw [List.map_append, List.map_singleton]
  have e0 : updF f p u p = u := if_pos rfl
  show _ = _ ++ [(Sum.inl p, V.ref (updF f p u p))]
  rw [e0]
  congr 1
  refine List.map_congr_left fun t ht => ?_
  have e1 : updF f p u t.1 = f t.1 := if_neg (getT_none h t ht)
  rw [e1]
theorem putK_kvT_old {ts : List Thing} (f : Int → Addr) {p : Int} {o : Thing} (h : getT ts p = some o) (u : Addr) (s : Int) (x : Option Str) : putK (kvT ts f) (Sum.inl p : Key) (V.ref u) = kvT (ts.map fun t => if t.1 = p then (p, s, x) else t) (updF f p u) := by
  unfold putK
  rw [valV_any, valV_kvT, h]
  show List.map _ (kvT ts f) = _
  unfold kvT
  rw [List.map_map, List.map_map]
  refine List.map_congr_left fun t ht => ?_
  show (if (Sum.inl t.1 : Key) = Sum.inl p then ((Sum.inl t.1 : Key), V.ref u) else (Sum.inl t.1, V.ref (f t.1))) = (Sum.inl (if t.1 = p then (p, s, x) else t).1, V.ref (updF f p u (if t.1 = p then (p, s, x) else t).1))
  by_cases e : t.1 = p
  · rw [if_pos (by rw [e]), if_pos e, e]
    have e0 : updF f p u p = u := if_pos rfl
    show _ = (Sum.inl p, V.ref (updF f p u p))
    rw [e0]
  · have e1 : updF f p u t.1 = f t.1 := if_neg e
    rw [if_neg (fun z => e (Sum.inl.inj z)), if_neg e, e1]
section
variable {P : Program} {w : World} {K : PySem.W.Frag} {mg : Str → Option Value} {base : Heap}
def spEnter (K : PySem.W.Frag) : Sp := fun vs H Q _ => ∃ A R n l c, vs = [.ref A.r, .int n, .ref l] ∧ At K H A R ∧ SqL K H l (c.map V.int) ∧ n ∉ R.names ∧ (0 ≤ n ∧ n < 2 ^ R.bits) ∧ R.names.length < 63 ∧ c.length = R.many ∧ Pts R.bits c ∧ (∃ m ∈ c, m ∈ R.names) ∧
  ∀ H' A', At K H' A' (R.enter n c) → Frame H A H' A' → Q .non H'
theorem sc_Ring_enter : FnScope ["self", "name", "chain"] ["self", "name", "chain"] (defScope s_Ring_enter) := ⟨rfl, rfl, rfl, by decide +kernel, rfl, by decide +kernel, by decide +kernel⟩
theorem ok_Ring_enter (S : Say K mg base) : FnOk P w K mg base CX0 3 (He.ma K (He.ga K "Ring") "enter") (fdO K ("Ring", some "enter")) ["self", "name", "chain"] (spEnter K) := by
  refine (S.F_Ring_enter).ok sc_Ring_enter (fun vs H Q E h => ?_) (fun cdv A outer s H vs Q E hr h => ?_)
  · obtain ⟨A, R, n, l, c, rfl, h, hl, hn, hp, hz, hc, hcp, hcm, k⟩ := h
    rfl
  obtain ⟨A, R, n, l, c, rfl, h, hl, hn, hp, hz, hc, hcp, hcm, k⟩ := h
  have hu := hu_of hr
  refine ⟨_, PSs.nox (pss_one (ps_dput hu (pe_fld (pv 0) rfl) (pv 1) (pe_make S.mk_Node (ok_Node_init S) (hr.mono (by decide)) rfl S.g_Node S.b_Node_init .nil pass0 (pa_cons (pe_callTy call_list_of (by rfl) S.z_list (by decide +kernel) (pa_cons (pv 2) pa_nil)) (pa_cons pe_non (pa_cons (pe_op op_rep (pe_lst (pa_cons pe_non pa_nil)) (pe_meth0 (pe_fld (pv 0) rfl) S.c_Space S.m_Space_bits (ok_Space_bits S) (hr.mono (by decide)) S.b_Space_bits .nil pass0)) pa_nil)))) rfl)), ?_⟩
  obtain ⟨_, dxs, hsp⟩ := id h.ring.space
  refine ⟨_, rfl, l, _, rfl, .inl hl, fun q hq => ⟨(by show 1 ≤ sizeLine; decide), fun l0 hl0 => ?_⟩⟩
  have s1 := same_new (o := HO.lst (c.map V.int)) hq
  have s2 := s1.trans (same_new (o := HO.lst [V.non]) hl0)
  have hq2 : upd (upd H q (.lst (c.map V.int))) l0 (.lst [V.non]) q = some (.lst (c.map V.int)) := by rw [upd_ne (ne_of_none upd_same hl0)]; exact upd_same
  refine ⟨_, rfl, A.r, _, A.dx, _, _, rfl, s2 _ _ h.ring.ob, S.c_Ring, S.n_Ring_circle, rfl, A.sp, dxs, _, rfl, s2 _ _ hsp, rfl, A.sp, R.bits, rfl, h.ring.space.ext (sameExtN s2), l0, _, _, rfl, rfl, upd_same, by omega, by have := h.ok.bits; omega, ?_, fun r hr => ?_⟩
  · have := h.ok.bits
    rw [Int.toNat_natCast, sizeLine_eq]
    show 1 * R.bits ≤ _
    omega
  have s3 := s2.trans (same_new (o := HO.lst (List.replicate (Int.toNat (R.bits : Int)) [V.non]).flatten) hr)
  have hq3 := (same_new (o := HO.lst (List.replicate (Int.toNat (R.bits : Int)) [V.non]).flatten) hr) _ _ hq2
  intro x dx hx hdx ndx
  refine ⟨x, dx, q, r, .non, rfl, upd_same, fun t htn => ⟨rfl, ?_⟩⟩
  have ntx : t ≠ x := fun e => by rw [e, upd_same] at htn; cases htn
  rw [upd_ne ntx] at htn
  have ntd : t ≠ dx := fun e => by rw [e, upd_same] at htn; cases htn
  rw [upd_ne ntd] at htn
  have er : (List.replicate (Int.toNat (R.bits : Int)) [V.non]).flatten = List.replicate R.bits V.non := by
    rw [Int.toNat_natCast]
    generalize R.bits = z
    induction z with
    | zero => rfl
    | succ z ih => rw [List.replicate_succ, List.flatten_cons, ih, List.replicate_succ]; rfl
  have hr3 : (upd (upd (upd H q (.lst (c.map V.int))) l0 (.lst [V.non])) r (HO.lst (List.replicate (Int.toNat (R.bits : Int)) [V.non]).flatten)) r = some (.lst (List.replicate R.bits V.non)) := by rw [upd_same, er]
  have qr : q ≠ r := ne_of_none hq2 hr
  have nx := notOld_of (s3.free hx)
  have nt := notOld_of (s3.free htn)
  have nr := notOld_of (s2.free hr)
  revert hx hdx htn hq3 hr3 s3
  generalize (upd (upd (upd H q (.lst (c.map V.int))) l0 (.lst [V.non])) r (HO.lst (List.replicate (Int.toNat (R.bits : Int)) [V.non]).flatten)) = H3
  intro s3 hq3 hx hdx htn hr3
  have sm : Same H3 (upd (upd (upd (upd H3 dx (.own x)) x (.ins (He.ga K "Node") dx [])) t (.dK [])) x (.ins (He.ga K "Node") dx (nodeF q .non r t))) := fun b' o e => by
    rw [upd_ne (ne_of_none e hx), upd_ne (ne_of_none e htn), upd_ne (ne_of_none e hx), upd_ne (ne_of_none e hdx)]
    exact e
  have s4 := s3.trans sm
  have f4 : Fin K H _ := Fin.of s4 h.tabs
  have z := h.enter f4 hn hp hz nx (notOld_of hq) nr nt upd_same (sm _ _ hq3) (sm _ _ hr3) (by rw [upd_ne ntx]; exact upd_same) qr hc hcp hcm
  refine ⟨_, rfl, A.r, _, A.dx, _, _, rfl, s4 _ _ h.ring.ob, S.c_Ring, S.n_Ring_nodes, rfl, _, rfl, A.an, _, rfl, DPut.k (k := (Sum.inl n : Key)) (s4 _ _ h.ring.nodes) ?_, ?_⟩
  · unfold kvN
    rw [List.length_map, sizeLine_eq]
    omega
  · rw [putK_new _ (by rw [valV_kvN, if_neg hn]), kvN_snoc _ _ _ _ hn]
    exact k _ _ z.1 z.2
def spVanish (K : PySem.W.Frag) : Sp := fun vs H Q _ => ∃ A R n, vs = [.ref A.r, .int n] ∧ At K H A R ∧ n ∈ R.names ∧ n ∉ R.fixed ∧ (∀ m ∈ R.names, m ≠ n → ∃ k ∈ (R.node m).chain, k ∈ R.names ∧ k ≠ n) ∧
  ∀ H', At K H' A (R.vanish n) → Frame H A H' A → Q .non H'
theorem sc_Ring_vanish : FnScope ["self", "name"] ["self", "name"] (defScope s_Ring_vanish) := ⟨rfl, rfl, rfl, by decide +kernel, rfl, by decide +kernel, by decide +kernel⟩
theorem ok_Ring_vanish (S : Say K mg base) : FnOk P w K mg base CX0 1 (He.ma K (He.ga K "Ring") "vanish") (fdO K ("Ring", some "vanish")) ["self", "name"] (spVanish K) := by
  refine (S.F_Ring_vanish).ok sc_Ring_vanish (fun vs H Q E h => ?_) (fun cdv A outer s H vs Q E hr h => ?_)
  · obtain ⟨A, R, n, rfl, h, hn, hf, hc, k⟩ := h
    rfl
  obtain ⟨A, R, n, rfl, h, hn, hf, hc, k⟩ := h
  have hu := hu_of hr
  refine ⟨_, PSs.nox (pss_one (ps_expr (pe_dpop1 (pe_fld (pv 0) rfl) (pv 1) (.mk rfl rfl rfl rfl)))), ?_⟩
  have e := h.vanish hf hc
  refine ⟨_, rfl, A.r, _, A.dx, _, _, rfl, h.ring.ob, S.c_Ring, S.n_Ring_nodes, rfl, A.an, rfl, .inl ⟨_, .inl h.ring.nodes⟩, _, rfl, _, (Sum.inl n : Key), V.ref (A.nd n), h.ring.nodes, rfl, ?_, ?_⟩
  · rw [valV_kvN, if_pos hn]
  · rw [kvN_drop]
    exact k _ e.1 e.2
theorem setThings_same (R : RingS) (n : Int) : R.setThings n (R.node n).things = R := by
  have e : (fun m => if m = n then withThings (R.node n) (R.node n).things else R.node m) = R.node := by
    funext m
    by_cases h : m = n
    · rw [if_pos h, h]; rfl
    · rw [if_neg h]
  show { R with node := fun m => if m = n then withThings (R.node n) (R.node n).things else R.node m } = R
  rw [e]
def RingS.offer (R : RingS) (n p s : Int) (x : Option Str) : RingS := R.setThings n (offerT (R.node n).things p s x)
def RingS.letGo (R : RingS) (n p : Int) : RingS := R.setThings n (dropT (R.node n).things p)
theorem map_put_keys (ts : List Thing) (p s : Int) (x : Option Str) : (ts.map fun t => if t.1 = p then (p, s, x) else t).map (·.1) = ts.map (·.1) := by
  rw [List.map_map]
  refine List.map_congr_left fun t _ => ?_
  show (if t.1 = p then (p, s, x) else t).1 = t.1
  by_cases e : t.1 = p
  · rw [if_pos e, e]
  · rw [if_neg e]
theorem offerT_keys {ts : List Thing} (h : (ts.map (·.1)).Nodup) (p s : Int) (x : Option Str) : ((offerT ts p s x).map (·.1)).Nodup := by
  unfold offerT
  cases e : getT ts p with
  | none =>
    show ((ts ++ [(p, s, x)]).map (·.1)).Nodup
    rw [List.map_append]
    refine List.nodup_append.mpr ⟨h, List.pairwise_singleton _ _, fun a ha b hb => ?_⟩
    rw [List.mem_singleton.mp hb]
    obtain ⟨t, ht, rfl⟩ := List.mem_map.mp ha
    exact getT_none e t ht
  | some o =>
    show ((if o.2.1 < s then ts.map fun t => if t.1 = p then (p, s, x) else t else ts).map (·.1)).Nodup
    by_cases c : o.2.1 < s
    · rw [if_pos c, map_put_keys]; exact h
    · rw [if_neg c]; exact h
theorem offerT_mem {ts : List Thing} {p s : Int} {x : Option Str} {t : Thing} (h : t ∈ offerT ts p s x) : t ∈ ts ∨ t = (p, s, x) := by
  unfold offerT at h
  cases e : getT ts p with
  | none =>
    rw [e] at h
    rcases List.mem_append.mp h with z | z
    · exact .inl z
    · exact .inr (List.mem_singleton.mp z)
  | some o =>
    rw [e] at h
    have h' : t ∈ (if o.2.1 < s then ts.map fun t => if t.1 = p then (p, s, x) else t else ts) := h
    by_cases c : o.2.1 < s
    · rw [if_pos c] at h'
      obtain ⟨u, hu, e2⟩ := List.mem_map.mp h'
      by_cases e3 : u.1 = p
      · rw [if_pos e3] at e2; exact .inr e2.symm
      · rw [if_neg e3] at e2; rw [← e2]; exact .inl hu
    · rw [if_neg c] at h'
      exact .inl h'
theorem At.offered {H : Hp} {A : RA} {R : RingS} (h : At K H A R) {n p s : Int} {x : Option Str} (hn : n ∈ R.names) (hs : 1 ≤ s) (hput : R.puts[s.toNat - 1]? = some (p, x)) (hp : 0 ≤ p ∧ p < 2 ^ R.bits)
    {u : Addr} (hu : H u = none) {f : Int → Addr} (hd : H (A.at_ n) = some (.dK (kvT (R.node n).things f))) (hf : ∀ t ∈ (R.node n).things, H (f t.1) = some (.tup [.int t.2.1, oT t.2.2]))
    (c : ∀ o, getT (R.node n).things p = some o → o.2.1 < s) :
    let H' := upd (upd H u (.tup [.int s, oT x])) (A.at_ n) (.dK (putK (kvT (R.node n).things f) (Sum.inl p : Key) (.ref u)))
    At K H' A (R.offer n p s x) ∧ Frame H A H' A := by
  have s1 := same_new (o := HO.tup [.int s, oT x]) hu
  have f1 := Fin.of s1 h.tabs
  have h1 := h.fin f1
  have kp : ∀ t ∈ offerT (R.node n).things p s x, 1 ≤ t.2.1 ∧ R.puts[t.2.1.toNat - 1]? = some (t.1, t.2.2) ∧ 0 ≤ t.1 ∧ t.1 < 2 ^ R.bits := fun t ht => by
    rcases offerT_mem ht with z | z
    · exact h.ok.kept n hn t z
    · rw [z]; exact ⟨hs, hput, hp⟩
  have ff : ∀ t ∈ offerT (R.node n).things p s x, upd H u (.tup [.int s, oT x]) (updF f p u t.1) = some (.tup [.int t.2.1, oT t.2.2]) := fun t ht => by
    by_cases e : t.1 = p
    · have e0 : updF f p u t.1 = u := if_pos e
      rw [e0, upd_same]
      have et : t = (p, s, x) := by
        unfold offerT at ht
        cases q : getT (R.node n).things p with
        | none =>
          rw [q] at ht
          rcases List.mem_append.mp ht with z | z
          · exact absurd e (getT_none q t z)
          · exact List.mem_singleton.mp z
        | some o =>
          rw [q] at ht
          have ht' : t ∈ (if o.2.1 < s then (R.node n).things.map fun t => if t.1 = p then (p, s, x) else t else (R.node n).things) := ht
          rw [if_pos (c o q)] at ht'
          obtain ⟨v, hv, e2⟩ := List.mem_map.mp ht'
          by_cases e3 : v.1 = p
          · rw [if_pos e3] at e2; exact e2.symm
          · rw [if_neg e3] at e2; rw [e2] at e3; exact absurd e e3
      rw [et]
    · have e0 : updF f p u t.1 = f t.1 := if_neg e
      rw [e0]
      rcases offerT_mem ht with z | z
      · exact s1 _ _ (hf t z)
      · rw [z] at e; exact absurd rfl e
  have z := h1.things hn (offerT_keys (h.ok.keys n hn) p s x) ff kp
  have ek : putK (kvT (R.node n).things f) (Sum.inl p : Key) (.ref u) = kvT (offerT (R.node n).things p s x) (updF f p u) := by
    unfold offerT
    cases q : getT (R.node n).things p with
    | none => exact putK_kvT_new f q u s x
    | some o =>
      show _ = kvT (if o.2.1 < s then (R.node n).things.map fun t => if t.1 = p then (p, s, x) else t else (R.node n).things) _
      rw [if_pos (c o q)]
      exact putK_kvT_old f q u s x
  intro H'
  have eH : H' = upd (upd H u (.tup [.int s, oT x])) (A.at_ n) (.dK (kvT (offerT (R.node n).things p s x) (updF f p u))) := by
    show upd (upd H u (.tup [.int s, oT x])) (A.at_ n) (.dK (putK (kvT (R.node n).things f) (Sum.inl p : Key) (.ref u))) = _
    rw [ek]
  rw [eH]
  exact ⟨z.1, (Frame.fin f1).trans z.2⟩
def spOffer (K : PySem.W.Frag) : Sp := fun vs H Q _ => ∃ A R n p s x, vs = [.ref A.r, .int n, .int p, .int s, oT x] ∧ At K H A R ∧ n ∈ R.names ∧ 1 ≤ s ∧ R.puts[s.toNat - 1]? = some (p, x) ∧ (0 ≤ p ∧ p < 2 ^ R.bits) ∧
  ∀ H', At K H' A (R.offer n p s x) → Frame H A H' A → Q .non H'
theorem sc_Ring_offer : FnScope ["self", "name", "point", "stamp", "text", "things"] ["self", "name", "point", "stamp", "text"] (defScope s_Ring_offer) := ⟨rfl, rfl, rfl, by decide +kernel, rfl, by decide +kernel, by decide +kernel⟩
theorem ok_Ring_offer (S : Say K mg base) : FnOk P w K mg base CX0 1 (He.ma K (He.ga K "Ring") "offer") (fdO K ("Ring", some "offer")) ["self", "name", "point", "stamp", "text"] (spOffer K) := by
  refine (S.F_Ring_offer).ok sc_Ring_offer (fun vs H Q E h => ?_) (fun cdv A outer s H vs Q E hr h => ?_)
  · obtain ⟨A, R, n, p, st, x, rfl, h, hn, hs, hput, hp, k⟩ := h
    rfl
  obtain ⟨A, R, n, p, st, x, rfl, h, hn, hs, hput, hp, k⟩ := h
  have hu := hu_of hr
  refine ⟨_, PSs.nox (pss_cons (ps_set (i := 5) sc_Ring_offer.nd rfl (Or.inl rfl) (pe_fld (pe_dget hu (pe_fld (pv 0) rfl) (pv 1) (fun _ _ => rfl)) rfl))
        (pss_one (ps_if (PW.pt (pw_or (pt_cmp (pc_dnotin hu (pv 2) (pv 5))) (pw_or1 (pt_cmpR op_lt (pe_ix ix_tup (pe_dget hu (pv 5) (pv 2) (fun _ _ => rfl)) pe_int (fun _ _ => rfl)) (pv 3) (nomark _))))) (pss_one (ps_dput hu (pv 5) (pv 2) (pe_tup (pa_cons (pv 3) (pa_cons (pv 4) pa_nil))) rfl)) pss_nil))), ?_⟩
  have hN := h.ring.node n hn
  obtain ⟨hk, f, hd, hf⟩ := hN.things
  have hd' : H (A.at_ n) = some (.dK (kvT (R.node n).things f)) := hd
  have hz : (kvT (R.node n).things f).length < sizeLine := by
    unfold kvT
    have z2 := h.ok.tlen n hn
    have z3 := h.ok.puts
    rw [List.length_map, sizeLine_eq]
    omega
  refine ⟨_, rfl, A.r, _, A.dx, _, _, rfl, h.ring.ob, S.c_Ring, S.n_Ring_nodes, rfl, _, rfl, A.an, _, rfl, dgetM h.ring.nodes hn, A.nd n, _, A.nx n, _, _, rfl, hN.ob, S.c_Node, S.n_Node_things, rfl, ?_⟩
  refine ⟨_, rfl, _, rfl, A.at_ n, _, rfl, DGet.k (k := (Sum.inl p : Key)) hd', ?_⟩
  have wr : (∀ o, getT (R.node n).things p = some o → o.2.1 < st) → sDPut (tVar 5) (tVar 2) (tTup (tCons (tVar 3) (tCons (tVar 4) tNil))) { nx := fun x H' => Q V.non H', rt := Q } (List.set (L2.start ["self", "name", "point", "stamp", "text", "things"] [V.ref A.r, V.int n, V.int p, V.int st, oT x]) 5 (some (V.ref (A.at_ n)))) H := by
    intro c
    refine ⟨_, rfl, _, rfl, (by show 2 ≤ sizeLine; decide), fun u hu => ⟨_, rfl, _, rfl, A.at_ n, _, rfl, DPut.k (k := (Sum.inl p : Key)) (same_new hu _ _ hd') hz, ?_⟩⟩
    have z := h.offered hn hs hput hp hu hd' hf c
    exact k _ z.1 z.2
  rw [valV_kvT]
  cases q : getT (R.node n).things p with
  | none => exact ⟨true, rfl, iteT (iteT (wr fun o z => by rw [q] at z; cases z))⟩
  | some o =>
    obtain ⟨o1, o2⟩ := getT_mem q
    have ho := hf o o1
    rw [o2] at ho
    refine ⟨false, rfl, iteF ⟨_, rfl, _, rfl, A.at_ n, V.ref (f p), rfl, ?_, f p, _, 0, _, rfl, rfl, .inl (.inl ho), rfl, _, rfl, _, _, rfl, rfl, _, rfl, ?_⟩⟩
    · have g := DGet.k (k := (Sum.inl p : Key)) hd'
      rw [valV_kvT, q] at g
      exact g
    · by_cases c : o.2.1 < st
      · rw [decide_eq_true c]
        exact iteT (wr fun o' z => by rw [q] at z; rw [← Option.some.inj z]; exact c)
      · rw [decide_eq_false c]
        have e : R.offer n p st x = R := by
          unfold RingS.offer offerT
          rw [q]
          show R.setThings n (if o.2.1 < st then _ else (R.node n).things) = R
          rw [if_neg c]
          exact setThings_same R n
        refine iteF ?_
        have z := k H
        rw [e] at z
        exact z h ⟨rfl, fun b o e1 e2 e3 => ⟨e1, e3⟩, fun b xs e => e⟩
theorem Frame.refl {H : Hp} {A : RA} : Frame H A H A := ⟨rfl, fun b o e1 e2 e3 => ⟨e1, e3⟩, fun b xs e => e⟩
def spLetGo (K : PySem.W.Frag) : Sp := fun vs H Q _ => ∃ A R n p, vs = [.ref A.r, .int n, .int p] ∧ At K H A R ∧ n ∈ R.names ∧ (getT (R.node n).things p).isSome = true ∧ ∀ H', At K H' A (R.letGo n p) → Frame H A H' A → Q .non H'
theorem sc_Ring_let_go : FnScope ["self", "name", "point"] ["self", "name", "point"] (defScope s_Ring_let_go) := ⟨rfl, rfl, rfl, by decide +kernel, rfl, by decide +kernel, by decide +kernel⟩
theorem ok_Ring_let_go (S : Say K mg base) : FnOk P w K mg base CX0 1 (He.ma K (He.ga K "Ring") "let_go") (fdO K ("Ring", some "let_go")) ["self", "name", "point"] (spLetGo K) := by
  refine (S.F_Ring_let_go).ok sc_Ring_let_go (fun vs H Q E h => ?_) (fun cdv A outer s H vs Q E hr h => ?_)
  · obtain ⟨A, R, n, p, rfl, h, hn, hp, k⟩ := h
    rfl
  obtain ⟨A, R, n, p, rfl, h, hn, hp, k⟩ := h
  have hu := hu_of hr
  refine ⟨_, PSs.nox (pss_one (ps_expr (pe_dpop1 (pe_fld (pe_dget hu (pe_fld (pv 0) rfl) (pv 1) (fun _ _ => rfl)) rfl) (pv 2) (.mk rfl rfl rfl rfl)))), ?_⟩
  have hN := h.ring.node n hn
  obtain ⟨hk, f, hd, hf⟩ := hN.things
  have hd' : H (A.at_ n) = some (.dK (kvT (R.node n).things f)) := hd
  have sub : ∀ t, t ∈ dropT (R.node n).things p → t ∈ (R.node n).things := fun t ht => (List.mem_filter.mp ht).1
  have hk' : ((dropT (R.node n).things p).map (·.1)).Nodup := by
    unfold dropT
    exact (List.filter_sublist.map _).nodup hk
  have z := h.things (f := f) hn hk' (fun t ht => hf t (sub t ht)) (fun t ht => h.ok.kept n hn t (sub t ht))
  refine ⟨_, rfl, A.r, _, A.dx, _, _, rfl, h.ring.ob, S.c_Ring, S.n_Ring_nodes, rfl, _, rfl, A.an, _, rfl, dgetM h.ring.nodes hn, A.nd n, _, A.nx n, _, _, rfl, hN.ob, S.c_Node, S.n_Node_things, rfl, A.at_ n, rfl, .inl ⟨_, .inl hd'⟩, _, rfl, _, (Sum.inl p : Key), V.ref (f p), hd', rfl, ?_, ?_⟩
  · rw [valV_kvT]
    cases q : getT (R.node n).things p with
    | none => rw [q] at hp; cases hp
    | some o => rfl
  · rw [dropK_kvT]
    exact k _ z.1 z.2
def spStamp (K : PySem.W.Frag) : Sp := fun vs H Q _ => ∃ A R p, vs = [.ref A.r] ∧ At K H A R ∧ R.puts.length < 100000 ∧ ∀ H', At K H' A (R.stamp p) → Frame H A H' A → Q (.int (R.puts.length + 1 : Nat)) H'
theorem sc_Ring_new_stamp : FnScope ["self"] ["self"] (defScope s_Ring_new_stamp) := ⟨rfl, rfl, rfl, by decide +kernel, rfl, by decide +kernel, by decide +kernel⟩
theorem ok_Ring_new_stamp (S : Say K mg base) : FnOk P w K mg base CX0 1 (He.ma K (He.ga K "Ring") "new_stamp") (fdO K ("Ring", some "new_stamp")) ["self"] (spStamp K) := by
  refine (S.F_Ring_new_stamp).ok sc_Ring_new_stamp (fun vs H Q E h => ?_) (fun cdv A outer s H vs Q E hr h => ?_)
  · obtain ⟨A, R, p, rfl, h, hl, k⟩ := h
    rfl
  obtain ⟨A, R, p, rfl, h, hl, k⟩ := h
  have hu := hu_of hr
  refine ⟨_, PSs.nox (pss_cons (ps_fldaug (pv 0) pe_int in_add)
        (pss_one (ps_ret (pe_fld (pv 0) rfl)))), ?_⟩
  have z := h.stamped p hl
  refine ⟨_, rfl, A.r, _, A.dx, _, _, rfl, h.ring.ob, S.c_Ring, S.n_Ring_stamps, rfl, _, _, rfl, rfl, A.dx, _, h.ring.ob, (by show 6 < 1000; decide), ?_⟩
  refine ⟨_, rfl, A.r, _, A.dx, _, _, rfl, upd_same, S.c_Ring, S.n_Ring_stamps, rfl, ?_⟩
  exact k _ z.1 z.2
def spNote (K : PySem.W.Frag) : Sp := fun vs H Q _ => ∃ A R v d, vs = [.ref A.r, v] ∧ At K H A R ∧ R.done.length < 1000000 ∧ DeedAt H v d ∧ ∀ H', At K H' A (R.note d) → Frame H A H' A → Q .non H'
theorem sc_Ring_note : FnScope ["self", "deed"] ["self", "deed"] (defScope s_Ring_note) := ⟨rfl, rfl, rfl, by decide +kernel, rfl, by decide +kernel, by decide +kernel⟩
theorem ok_Ring_note (S : Say K mg base) : FnOk P w K mg base CX0 1 (He.ma K (He.ga K "Ring") "note") (fdO K ("Ring", some "note")) ["self", "deed"] (spNote K) := by
  refine (S.F_Ring_note).ok sc_Ring_note (fun vs H Q E h => ?_) (fun cdv A outer s H vs Q E hr h => ?_)
  · obtain ⟨A, R, v, d, rfl, h, hl, hd, k⟩ := h
    rfl
  obtain ⟨A, R, v, d, rfl, h, hl, hd, k⟩ := h
  have hu := hu_of hr
  refine ⟨_, PSs.nox (pss_one (ps_expr (pe_bm PySem.F.plainAttrs_list PySem.F.slot_list_append PySem.F.type_list_append mt_append (pe_fld (pv 0) rfl) (pa_cons (pv 1) pa_nil)))), ?_⟩
  obtain ⟨vs, h1, h2⟩ := h.ring.done
  have z := h.noted h1 h2 hd hl
  have e := paired_len h2
  exact ⟨_, rfl, A.r, _, A.dx, _, _, rfl, h.ring.ob, S.c_Ring, S.n_Ring_done, rfl, .inl ⟨rfl, _, .inl (.inl h1)⟩, _, rfl, A.ad, _, _, rfl, rfl, h1, (by rw [e, sizeLine_eq]; omega), k _ z.1 z.2⟩
def spDeeds (K : PySem.W.Frag) : Sp := fun vs H Q _ => ∃ A R, vs = [.ref A.r] ∧ At K H A R ∧ ∀ q H' vs, NotOld H q → H A.ad = some (.lst vs) → H' q = some (.lst vs) → Fin K H H' → Q (.ref q) H'
end
end Nn
set_option Elab.async false
set_option linter.all false
set_option maxRecDepth 100000
set_option maxHeartbeats 1000000
namespace Nn
open PySem PySem.Spec PyProof.Rows L2 LamX KeyL
def stampsM (R : RingS) (p : Int) : List Int := R.names.filterMap fun n => (getT (R.node n).things p).map fun t => t.2.1
def newestM (R : RingS) (p : Int) : Int := (stampsM R p).foldl max 0
theorem foldl_max : ∀ (xs : List Int) (a : Int), (∀ m, (m = a ∨ m ∈ xs) → (∀ y, (y = a ∨ y ∈ xs) → y ≤ m) → xs.foldl max a = m)
  | [], a, m, h, _ => by
    rcases h with e | e
    · exact e.symm
    · cases e
  | x :: xs, a, m, h, u => by
    rw [List.foldl_cons]
    refine foldl_max xs (max a x) m ?_ fun y hy => ?_
    · rcases h with e | e
      · have := u x (.inr (List.mem_cons_self ..))
        left
        omega
      · rcases List.mem_cons.mp e with e | e
        · have := u a (.inl rfl)
          left
          omega
        · exact .inr e
    · rcases hy with e | e
      · have h1 := u a (.inl rfl)
        have h2 := u x (.inr (List.mem_cons_self ..))
        omega
      · exact u y (.inr (List.mem_cons_of_mem _ e))
theorem stampsM_pos {R : RingS} (h : Ok R) (p : Int) : ∀ s ∈ stampsM R p, 1 ≤ s := fun s hs => by
  obtain ⟨n, hn, e⟩ := List.mem_filterMap.mp hs
  cases q : getT (R.node n).things p with
  | none => rw [q] at e; cases e
  | some t =>
    rw [q] at e
    have e2 : t.2.1 = s := Option.some.inj e
    rw [← e2]
    exact (h.kept n hn t (getT_mem q).1).1
theorem newestM_of {R : RingS} (h : Ok R) {p m : Int} (hm : m ∈ stampsM R p) (hu : ∀ y ∈ stampsM R p, y ≤ m) : newestM R p = m := by
  refine foldl_max _ 0 m (.inr hm) fun y hy => ?_
  rcases hy with e | e
  · have := stampsM_pos h p m hm
    omega
  · exact hu y e
section
variable {P : Program} {w : World} {K : PySem.W.Frag} {mg : Str → Option Value} {base : Heap}
def spNewest (K : PySem.W.Frag) : Sp := fun vs H Q _ => ∃ A R p, vs = [.ref A.r, .int p] ∧ At K H A R ∧ ∀ H', Fin K H H' → Q (.int (newestM R p)) H'
theorem sc_Ring_newest_stamp : FnScope ["self", "point", "node"] ["self", "point"] (defScope s_Ring_newest_stamp) := ⟨rfl, rfl, rfl, by decide +kernel, rfl, by decide +kernel, by decide +kernel⟩
theorem ok_Ring_newest_stamp (S : Say K mg base) : FnOk P w K mg base CX0 1 (He.ma K (He.ga K "Ring") "newest_stamp") (fdO K ("Ring", some "newest_stamp")) ["self", "point"] (spNewest K) := by
  refine (S.F_Ring_newest_stamp).ok sc_Ring_newest_stamp (fun vs H Q E h => ?_) (fun cdv A outer s H vs Q E hr h => ?_)
  · obtain ⟨A, R, p, rfl, h, k⟩ := h
    rfl
  obtain ⟨A, R, p, rfl, h, k⟩ := h
  have hu := hu_of hr
  refine ⟨_, PSs.nox (pss_one (ps_ret (pe_lock (pe_callBK (cr_maxDef rfl hr.units) (by rfl) S.z_max (by decide +kernel) (pa_cons (pe_lc (own := [("node", 2)]) rfl sc_Ring_newest_stamp.nd (pi_values (pe_fld (pv 0) rfl)) (blkOk_by (own := [("node", 2)]) (N := ["self", "point", "node"]) (sc := defScope s_Ring_newest_stamp) (by decide +kernel)) (fun _ _ _ _ _ => (pg_name (i := 2) sc_Ring_newest_stamp.nd rfl (Or.inl rfl))) (fun _ _ _ _ _ => (pts_one (pt_cmp (pc_din hu (pv 1) (pe_fldK (K := K) rfl (pv 2) rfl))))) (fun _ _ _ _ _ => (pe_ix (ix_tupK (K := K) rfl) (pe_dget hu (pe_fldK (K := K) rfl (pv 2) rfl) (pv 1) (fun _ _ => rfl)) pe_int (fun _ _ => rfl)))) pa_nil) (pk_cons pe_int pk_nil))))), ?_⟩
  have hna := h.ring.nodes
  refine ⟨A.an, _, hna, True.intro, fun od => ?_⟩
  have rn := h.ring.rNodes
  have off : ∀ b ro o, A.ρ b = some ro → ro ≠ .nodes → H b = some o → upd H A.an (.frz od (.dK (kvN R.names A.nd))) b = some o := fun b ro o a1 a2 a3 => by rw [upd_ne (roleNe a1 rn a2)]; exact a3
  have tp : ∀ b xs, H b = some (.tup xs) → upd H A.an (.frz od (.dK (kvN R.names A.nd))) b = some (.tup xs) := fun b xs hb => by
    rw [upd_ne (ne_of hb hna fun z => nomatch z)]; exact hb
  refine ⟨_, rfl, A.r, _, A.dx, _, _, rfl, off _ _ _ h.ring.rRing nofun h.ring.ob, S.c_Ring, S.n_Ring_nodes, rfl, A.an, od, kvN R.names A.nd, rfl, upd_same, fun D hD => ?_⟩
  have hlen : (kvN R.names A.nd).length = R.names.length := by unfold kvN; rw [List.length_map]
  have hDa : D ≠ A.an := fun e => by rw [e, upd_same] at hD; cases hD
  have hDn : H D = none := by rw [upd_ne hDa] at hD; exact hD
  refine lc_it walk_values (fun i H2 => Same (upd H A.an (.frz od (.dK (kvN R.names A.nd)))) H2 ∧ H2 D = some (.lst (((R.names.take i).filterMap fun n => (getT (R.node n).things p).map fun t => t.2.1).map V.int))) ⟨same_new hD, upd_same⟩ (fun i H2 _ h => h.1 _ _ upd_same) ?_ ?_
  · rintro i x H2 H3 hi ⟨s2, hd2⟩ ⟨rfl, k0, hk0⟩
    obtain ⟨n, hn, e⟩ : ∃ n, R.names[i]? = some n ∧ ((Sum.inl n : Key), V.ref (A.nd n)) = (k0, x) := by
      unfold kvN at hk0
      rw [List.getElem?_map] at hk0
      cases q : R.names[i]? with
      | none => rw [q] at hk0; cases hk0
      | some n => rw [q] at hk0; exact ⟨n, rfl, Option.some.inj hk0⟩
    have ex : x = V.ref (A.nd n) := (congrArg Prod.snd e).symm
    subst ex
    have hm : n ∈ R.names := List.mem_of_getElem? hn
    have hN := h.ring.node n hm
    obtain ⟨hk, f, hd, hf⟩ := hN.things
    have hob := s2 _ _ (off _ _ _ (h.ring.rNode n hm) nofun hN.ob)
    have hth : H3 (A.at_ n) = some (.dK (kvT (R.node n).things f)) := s2 _ _ (off _ _ _ (h.ring.rThings n hm) nofun hd)
    have tk : R.names.take (i + 1) = R.names.take i ++ [n] := by rw [List.take_add_one, hn]; rfl
    refine ⟨rfl, _, rfl, _, rfl, A.nd n, _, A.nx n, _, _, rfl, hob, S.c_Node, S.n_Node_things, rfl, A.at_ n, _, rfl, DGet.k (k := (Sum.inl p : Key)) hth, ?_⟩
    rw [valV_kvT]
    cases q : getT (R.node n).things p with
    | none =>
      refine ⟨false, rfl, iteF ⟨s2, ?_⟩⟩
      rw [tk, List.filterMap_append]
      have e0 : [n].filterMap (fun n => (getT (R.node n).things p).map fun t => t.2.1) = [] := by simp [q]
      rw [e0, List.append_nil]
      exact hd2
    | some t =>
      obtain ⟨t1, t2⟩ := getT_mem q
      have hft := hf t t1
      rw [t2] at hft
      have hft2 := s2 _ _ (tp _ _ hft)
      have g := DGet.k (k := (Sum.inl p : Key)) hth
      rw [valV_kvT, q] at g
      refine ⟨true, rfl, iteT ⟨_, rfl, A.nd n, _, A.nx n, _, _, rfl, hob, S.c_Node, S.n_Node_things, rfl, _, rfl, A.at_ n, _, rfl, g, f p, _, 0, _, rfl, rfl, .inl (.inl hft2), rfl, _, hd2, ?_, ?_, ?_⟩⟩
      · rw [List.length_map, sizeLine_eq]
        have z1 := List.length_filterMap_le (fun n => (getT (R.node n).things p).map fun t => t.2.1) (R.names.take i)
        have z2 := h.ok.few
        rw [List.length_take] at z1
        omega
      · intro b o e
        rw [upd_ne (ne_of_none e hD)]
        exact s2 b o e
      · rw [upd_same, tk, List.filterMap_append]
        have e0 : [n].filterMap (fun n => (getT (R.node n).things p).map fun t => t.2.1) = [t.2.1] := by simp [q]
        rw [e0, List.map_append]
        rfl
  · rintro H2 ⟨s2, hd2⟩
    rw [hlen, List.take_length] at hd2
    have fin : Fin K H (upd H2 A.an (.dK (kvN R.names A.nd))) := by
      have sm : Same H (upd H2 A.an (.dK (kvN R.names A.nd))) := fun b o e => by
        by_cases c : b = A.an
        · rw [c, upd_same, ← hna, ← c]; exact e
        · rw [upd_ne c]
          exact s2 b o (by rw [upd_ne c]; exact e)
      exact Fin.of sm h.tabs
    refine ⟨D, stampsM R p, .int 0, rfl, rfl, .inl (.inl hd2), fun e => ⟨s2 _ _ upd_same, ?_⟩, fun m hm hu => ⟨s2 _ _ upd_same, ?_⟩⟩
    · have e0 : newestM R p = 0 := by unfold newestM; rw [e]; rfl
      have z := k _ fin
      rw [e0] at z
      exact z
    · have z := k _ fin
      rw [newestM_of h.ok hm hu] at z
      exact z
end
end Nn
set_option Elab.async false
set_option linter.all false
set_option maxRecDepth 100000
set_option maxHeartbeats 1000000
namespace Nn
open PySem PySem.Spec PyProof.Rows L2 LamX KeyL
section
variable {P : Program} {w : World} {K : PySem.W.Frag} {mg : Str → Option Value} {base : Heap}
def spAreBase (K : PySem.W.Frag) : Sp := fun vs H Q _ => ∃ (sp l : Addr) (b m : Nat) (ns : List Int), vs = [.ref sp, .ref l, .int m] ∧ SpaceAt K H sp b ∧ Tabs (tabT K) H ∧ H l = some (.lst (ns.map V.int)) ∧ m < ns.length ∧ ns.length ≤ 8 ∧ Pts b ns ∧ ns.Nodup ∧ ∀ H', Fin K H H' → Q (.bl true) H'
theorem sc_are_base : FnScope ["space", "thing", "many", "one"] ["space", "thing", "many"] (defScope s_are_base) := ⟨rfl, rfl, rfl, by decide +kernel, rfl, by decide +kernel, by decide +kernel⟩
theorem ok_are_base (S : Say K mg base) : FnOk P w K mg base CX0 3 (He.ga K "are_base") (fdO K ("are_base", none)) ["space", "thing", "many"] (spAreBase K) := by
  refine (S.F_are_base).ok sc_are_base (fun vs H Q E h => ?_) (fun cdv A outer s H vs Q E hr h => ?_)
  · obtain ⟨sp, l, b, m, ns, rfl, hs, ht, hl, hm, h8, hp, hn, k⟩ := h
    rfl
  obtain ⟨sp, l, b, m, ns, rfl, hs, ht, hl, hm, h8, hp, hn, k⟩ := h
  have hu := hu_of hr
  refine ⟨_, PSs.nox (pss_cons (ps_if (PW.pt (pw_or (pt_not (pt_val (pe_callB call_isi (by rfl) S.z_isinstance (by decide +kernel) (pa_cons (pv 1) (pa_cons (pe_bltn (v := .ty "list") rfl S.z_list (by decide +kernel) rfl) pa_nil))))) (pw_or1 (pt_not (pt_chain op_lt op_le (pv 2) (pe_callB call_len_seq (by rfl) S.z_len (by decide +kernel) (pa_cons (pv 1) pa_nil)) (pe_glob (v := V.int 8) rfl (S.i_MOST_BASE).choose_spec ⟨_, rfl⟩)))))) (pss_one (ps_ret pe_bl)) pss_nil)
        (pss_one (ps_ret (pe_and (pe_callB (cr_all rfl) (by rfl) S.z_all (by decide +kernel) (pa_cons (pe_lc (own := [("one", 3)]) rfl sc_are_base.nd (pi_list (pv 1)) (blkOk_by (own := [("one", 3)]) (N := ["space", "thing", "many", "one"]) (sc := defScope s_are_base) (by decide +kernel)) (fun _ _ _ _ _ => (pg_name (i := 3) sc_are_base.nd rfl (Or.inl rfl))) (fun _ _ _ _ _ => pts_nil) (fun _ _ _ _ _ => (pe_meth (pv 0) S.c_Space S.m_Space_has (ok_Space_has S) (hr.mono (by decide)) S.b_Space_has .nil pass0 (pa_cons (pv 3) pa_nil)))) pa_nil)) (pe_one (pe_cmpR op_eq (RZ.pe_lenSetI (by rfl) S.z_len (by rfl) S.z_set (pv 1)) (pe_callB call_len_seq (by rfl) S.z_len (by decide +kernel) (pa_cons (pv 1) pa_nil)) (nomark _))))))), ?_⟩
  have kl : kitB "list" "list" = some true := by decide +kernel
  have len : (ns.map V.int).length = ns.length := List.length_map ..
  refine ⟨_, rfl, _, _, _, _, _, rfl, .ty "list", .base (.lst hl), kit_ty kl, _, rfl, ?_⟩
  refine iteF ⟨_, rfl, _, rfl, l, _, rfl, .inl (.inl (.inl hl)), ?_⟩
  rw [len]
  refine ⟨_, _, rfl, rfl, _, rfl, ?_⟩
  rw [decide_eq_true (show (m : Int) < ns.length by omega)]
  refine iteT ⟨_, _, rfl, rfl, _, rfl, ?_⟩
  rw [decide_eq_true (show (ns.length : Int) ≤ 8 by omega)]
  refine iteF ⟨_, rfl, l, rfl, ⟨_, .inl (.inl hl)⟩, fun D hD => ?_⟩
  refine lc_list (K := K) (a := l) (xs := ns.map V.int) (fun i H2 => Same H H2 ∧ H2 D = some (.lst ((List.replicate i true).map V.bl))) ⟨same_new hD, upd_same⟩ (fun i H2 _ h => .inl (.inl (h.1 _ _ hl))) ?_ ?_
  · rintro i x H2 hi ⟨s2, hd⟩
    obtain ⟨n, hn1, rfl⟩ := getI hi
    have hpt := hp n (List.mem_of_getElem? hn1)
    have hs2 := hs.ext (sameExtN s2)
    obtain ⟨_, dx, hps⟩ := id hs2
    have e : ptV b (.int n) = true := by
      show (decide (0 ≤ n) && decide (n < 2 ^ b)) = true
      rw [decide_eq_true hpt.1, decide_eq_true hpt.2]
      rfl
    have hi2 : i < ns.length := (List.getElem?_eq_some_iff.mp hn1).1
    refine ⟨rfl, _, rfl, sp, dx, _, rfl, hps, rfl, _, rfl, sp, b, _, rfl, hs2, .int n, _, hd, szL (by rw [List.length_map, List.length_replicate]; omega), fun b' o e' => by rw [upd_ne (ne_of_none e' hD)]; exact s2 b' o e', ?_⟩
    rw [upd_same, e, List.replicate_succ', List.map_append]
    rfl
  · rintro H2 ⟨s2, hd⟩
    refine ⟨D, _, rfl, .inl (.inl hd), ?_⟩
    have ea : (List.replicate (ns.map V.int).length true).all id = true := by simp
    rw [ea]
    refine ⟨_, rfl, iteT ⟨_, rfl, l, ns, rfl, .inl (.inl (s2 _ _ hl)), hn, by omega, _, rfl, l, _, rfl, .inl (.inl (.inl (s2 _ _ hl))), rfl, ?_⟩⟩
    rw [len, decide_eq_true rfl]
    exact k H2 (Fin.of s2 ht)
def spSpaceOf (K : PySem.W.Frag) : Sp := fun vs H Q _ => ∃ b : Nat, vs = [.int b] ∧ (3 ≤ b ∧ b ≤ 32) ∧ ∀ sp H', H sp = none → SpaceAt K H' sp b → Same H H' → Q (.ref sp) H'
theorem sc_space_of : FnScope ["bits", "space", "e"] ["bits"] (defScope s_space_of) := ⟨rfl, rfl, rfl, by decide +kernel, rfl, by decide +kernel, by decide +kernel⟩
theorem ok_space_of (S : Say K mg base) : FnOk P w K mg base CX0 4 (He.ga K "space_of") (fdO K ("space_of", none)) ["bits"] (spSpaceOf K) := by
  refine (S.F_space_of).ok sc_space_of (fun vs H Q E h => ?_) (fun cdv A outer s H vs Q E hr h => ?_)
  · obtain ⟨b, rfl, hb, k⟩ := h
    rfl
  obtain ⟨b, rfl, hb, k⟩ := h
  have hu := hu_of hr
  refine ⟨_, PSs.nox (pss_cons (ps_try_thru0 (pss_one (ps_set (i := 1) sc_space_of.nd rfl (Or.inl rfl) (pe_make S.mk_Space (ok_Space_init S) (hr.mono (by decide)) rfl S.g_Space S.b_Space_init .nil pass0 (pa_cons (pv 0) pa_nil)))))
        (pss_one (ps_ret (pv 1)))), ?_⟩
  refine ⟨_, rfl, fun x dx hx hdx ndx => ⟨x, dx, b, rfl, upd_same, hb, rfl, _, rfl, ?_⟩⟩
  refine k x _ hx ⟨hb, dx, upd_same⟩ fun b' o e => ?_
  rw [upd_ne (ne_of_none e hx), upd_ne (ne_of_none e hx), upd_ne (ne_of_none e hdx)]
  exact e
def sortedM (ns : List Int) : List Int := ns.mergeSort fun x y => decide (x ≤ y)
theorem sortedM_perm (ns : List Int) : (sortedM ns).Perm ns := List.mergeSort_perm ..
theorem sortedM_sorted (ns : List Int) : (sortedM ns).Pairwise (· ≤ ·) := by
  have h := List.pairwise_mergeSort (le := fun x y : Int => decide (x ≤ y)) (fun x y z h1 h2 => by simp at *; omega) (fun x y => by simp; omega) ns
  exact h.imp fun h => by simpa using h
def initM (b m : Nat) (ns : List Int) : RingS := ⟨b, m, sortedM ns, sortedM ns, fun n => rightNode b (sortedM ns) n m, [], []⟩
/-- the nodes of a ring that is being made -/
def Part (K : PySem.W.Frag) (H3 H4 : Hp) (D : Addr) (N : Int → NodeS) (ns : List Int) (i : Nat) : Prop :=
  Fin K H3 H4 ∧ ∃ (nd nx ac af at_ : Int → Addr) (ρ : Addr → Option Role), H4 D = some (.dK (kvN (ns.take i) nd)) ∧
    (∀ n ∈ ns.take i, NodeAt K H4 (nd n) (nx n) (ac n) (af n) (at_ n) (N n) ∧ ρ (nd n) = some (.node n) ∧ ρ (ac n) = some (.chain n) ∧ ρ (af n) = some (.far n) ∧ ρ (at_ n) = some (.things n)) ∧
    ∀ c ro, ρ c = some ro → c ≠ D ∧ NotOld H3 c ∧ (∃ o, H4 c = some o ∧ plainO o = true)
theorem Part.step {H3 H4 H5 : Hp} {D : Addr} {N : Int → NodeS} {i : Nat} {ns : List Int} {n : Int} {nd ac af at_ nx : Addr} {nd0 : Int → Addr} (h : Part K H3 H4 D N ns i) (hD : H3 D = none) (hn : ns[i]? = some n) (hnd : ns.Nodup)
    (k1 : NotOld H4 nd) (k2 : NotOld H4 ac) (k3 : NotOld H4 af) (k4 : NotOld H4 at_) (k5 : ac ≠ af) (k6 : NodeAt K H5 nd nx ac af at_ (N n)) (f5 : Fin K H4 H5) (hd4 : H4 D = some (.dK (kvN (ns.take i) nd0))) :
    Part K H3 (upd H5 D (.dK (putK (kvN (ns.take i) nd0) (Sum.inl n : Key) (.ref nd)))) D N ns (i + 1) := by
  obtain ⟨f4, nd1, nx1, ac1, af1, at1, ρ1, hd1, hN, hρ⟩ := h
  have hlt : i < ns.length := (List.getElem?_eq_some_iff.mp hn).1
  have tk : ns.take (i + 1) = ns.take i ++ [n] := by rw [List.take_add_one, hn]; rfl
  have hnew : n ∉ ns.take i := by
    have z : (ns.take (i + 1)).Nodup := (List.take_sublist _ _).nodup hnd
    rw [tk] at z
    exact fun hm => (List.nodup_append.mp z).2.2 n hm n (List.mem_singleton.mpr rfl) rfl
  have ekv : kvN (ns.take i) nd0 = kvN (ns.take i) nd1 := by rw [hd4] at hd1; exact HO.dK.inj (Option.some.inj hd1)
  rw [ekv, putK_new _ (by rw [valV_kvN, if_neg hnew]), kvN_snoc _ _ _ _ hnew, ← tk]
  have hd5 : H5 D = some (.dK (kvN (ns.take i) nd0)) := f5.1 _ _ hd4 fun _ z => nomatch z
  have nD : ∀ c, NotOld H4 c → c ≠ D := fun c hc => Ne.symm (hc D _ hd4 fun _ z => nomatch z)
  have up : ∀ c o, c ≠ D → H5 c = some o → upd H5 D (.dK (kvN (ns.take (i + 1)) fun z => if z = n then nd else nd1 z)) c = some o := fun c o e1 e2 => by rw [upd_ne e1]; exact e2
  have tp : ∀ c xs, H5 c = some (.tup xs) → upd H5 D (.dK (kvN (ns.take (i + 1)) fun z => if z = n then nd else nd1 z)) c = some (.tup xs) := fun c xs e => up c _ (ne_of e hd5 fun z => nomatch z) e
  refine ⟨⟨fun c o e1 e2 => up c o (ne_of_none e1 hD) (f5.1 _ _ (f4.1 c o e1 e2) e2), tabs_upd f5.2 hd5 rfl⟩, fun z => if z = n then nd else nd1 z, fun z => if z = n then nx else nx1 z, fun z => if z = n then ac else ac1 z, fun z => if z = n then af else af1 z, fun z => if z = n then at_ else at1 z,
    fun c => if c = nd then some (.node n) else if c = ac then some (.chain n) else if c = af then some (.far n) else if c = at_ then some (.things n) else ρ1 c, upd_same, fun z hz => ?_, fun c ro hc => ?_⟩
  · have cad : ac ≠ nd := ne_of k6.chain k6.ob fun z => nomatch z
    have fad : af ≠ nd := ne_of k6.far k6.ob fun z => nomatch z
    obtain ⟨_, ff, hth, _⟩ := k6.things
    have tnd : at_ ≠ nd := ne_of hth k6.ob fun z => nomatch z
    have tac : at_ ≠ ac := ne_of hth k6.chain fun z => nomatch z
    have taf : at_ ≠ af := ne_of hth k6.far fun z => nomatch z
    by_cases e : z = n
    · subst e
      simp only [if_true]
      refine ⟨k6.ext (fun c o hc e => up c o ?_ e) tp, trivial, ?_, ?_, ?_⟩
      · rcases hc with rfl | rfl | rfl | rfl
        · exact nD _ k1
        · exact nD _ k2
        · exact nD _ k3
        · exact nD _ k4
      · rw [if_neg cad]
      · rw [if_neg fad, if_neg (Ne.symm k5)]
      · rw [if_neg tnd, if_neg tac, if_neg taf]
    · have hz' : z ∈ ns.take i := by
        rw [tk] at hz
        rcases List.mem_append.mp hz with h | h
        · exact h
        · exact absurd (List.mem_singleton.mp h) e
      obtain ⟨a1, a2, a3, a4, a5⟩ := hN z hz'
      have old : ∀ c ro, ρ1 c = some ro → (if c = nd then some (Role.node n) else if c = ac then some (.chain n) else if c = af then some (.far n) else if c = at_ then some (.things n) else ρ1 c) = some ro := fun c ro hc => by
        obtain ⟨_, _, o, h1, h2⟩ := hρ c ro hc
        have h3 := plainO_tbl h2
        rw [if_neg (k1 c o h1 h3), if_neg (k2 c o h1 h3), if_neg (k3 c o h1 h3), if_neg (k4 c o h1 h3)]
        exact hc
      simp only [if_neg e]
      refine ⟨a1.ext (fun c o hc eo => ?_) fun c xs e => tp _ _ (f5.1 _ _ e fun _ z => nomatch z), old _ _ a2, old _ _ a3, old _ _ a4, old _ _ a5⟩
      have hr : ∃ ro, ρ1 c = some ro := by
        rcases hc with rfl | rfl | rfl | rfl
        · exact ⟨_, a2⟩
        · exact ⟨_, a3⟩
        · exact ⟨_, a4⟩
        · exact ⟨_, a5⟩
      obtain ⟨ro, hro⟩ := hr
      obtain ⟨g1, _, o', g2, g3⟩ := hρ c ro hro
      rw [eo] at g2
      exact up c o g1 (f5.1 _ _ eo (by rw [Option.some.inj g2]; exact plainO_tbl g3))
  · have nw : ∀ c0 o, NotOld H4 c0 → H5 c0 = some o → plainO o = true → c0 ≠ D ∧ NotOld H3 c0 ∧ ∃ o, upd H5 D (.dK (kvN (ns.take (i + 1)) fun z => if z = n then nd else nd1 z)) c0 = some o ∧ plainO o = true := fun c0 o a1 a2 a3 => ⟨nD _ a1, a1.back f4, o, up _ _ (nD _ a1) a2, a3⟩
    by_cases e1 : c = nd
    · rw [e1]; exact nw _ _ k1 k6.ob rfl
    by_cases e2 : c = ac
    · rw [e2]; exact nw _ _ k2 k6.chain rfl
    by_cases e3 : c = af
    · rw [e3]; exact nw _ _ k3 k6.far rfl
    by_cases e4 : c = at_
    · rw [e4]
      obtain ⟨_, ff, hth, _⟩ := k6.things
      exact nw _ _ k4 hth rfl
    have hc' : (if c = nd then some (Role.node n) else if c = ac then some (.chain n) else if c = af then some (.far n) else if c = at_ then some (.things n) else ρ1 c) = some ro := hc
    rw [if_neg e1, if_neg e2, if_neg e3, if_neg e4] at hc'
    obtain ⟨g1, g2, o, g3, g4⟩ := hρ c ro hc'
    exact ⟨g1, g2, o, up c o g1 (f5.1 _ _ g3 (plainO_tbl g4)), g4⟩
theorem initM_ok {b m : Nat} {ns : List Int} (hb : 3 ≤ b ∧ b ≤ 32) (hm : 1 ≤ m ∧ m ≤ 4) (hmn : m < ns.length) (h8 : ns.length ≤ 8) (hp : Pts b ns) (hn : ns.Nodup) : Ok (initM b m ns) := by
  have hnd : (sortedM ns).Nodup := (sortedM_perm ns).nodup_iff.mpr hn
  have hps : Pts b (sortedM ns) := fun n h => hp n ((sortedM_perm ns).mem_iff.mp h)
  have hls : (sortedM ns).length = ns.length := (sortedM_perm ns).length_eq
  have hne : sortedM ns ≠ [] := fun e => by rw [e] at hls; simp at hls; omega
  have hlt : (sortedM ns).Pairwise (· < ·) := by
    have z := (sortedM_sorted ns).and hnd
    exact z.imp fun h => by have := h.1; have := h.2; omega
  have olen : ∀ n ∈ sortedM ns, (othersM b (sortedM ns) n).length + 1 = ns.length := fun n hmem => by
    have hpm := upw_perm b (sortedM ns) n
    have h1 : (upw b (sortedM ns) n).Nodup := hpm.nodup_iff.mpr hnd
    have h2 : n ∈ upw b (sortedM ns) n := hpm.mem_iff.mpr hmem
    have h3 : othersM b (sortedM ns) n = (upw b (sortedM ns) n).erase n := by
      unfold othersM
      rw [h1.erase_eq_filter]
      refine List.filter_congr fun z _ => ?_
      by_cases e : z = n
      · simp [e]
      · simp [e]
    have h4 := List.length_erase_of_mem h2
    rw [h3, h4, hpm.length_eq, hls]
    omega
  have omem : ∀ n, ∀ z ∈ othersM b (sortedM ns) n, z ∈ sortedM ns := fun n z hz => (upw_perm b (sortedM ns) n).mem_iff.mp (List.mem_filter.mp hz).1
  have am : ∀ (g : Int → Int) (xs : List Int), xs ≠ [] → argMin g xs ∈ xs := fun g xs hx => argMin_mem g hx
  refine ⟨hb, hm, hlt, ⟨by show m < _; rw [show (initM b m ns).fixed = sortedM ns from rfl, hls]; exact hmn, by rw [show (initM b m ns).fixed = sortedM ns from rfl, hls]; exact h8⟩, fun n h => h, hnd, hps, by show (sortedM ns).length < 64; omega, fun n h => ?_, fun n h z hz => ?_, fun n h => ?_, fun n h => ?_, fun n h p hp' => ?_, fun n h p hp' => ?_, fun n h => List.nodup_nil, fun n h t ht => absurd ht (List.not_mem_nil), Nat.zero_le _, Nat.zero_le _⟩
  · show ((othersM b (sortedM ns) n).take m).length = m
    rw [List.length_take]
    have := olen n h
    omega
  · exact hps z (omem n z (List.mem_of_mem_take hz))
  · have := olen n h
    have hh : ((othersM b (sortedM ns) n).take m).length = m := by rw [List.length_take]; omega
    cases e : (othersM b (sortedM ns) n).take m with
    | nil => rw [e] at hh; simp at hh; omega
    | cons z r =>
      refine ⟨z, ?_, omem n z (List.mem_of_mem_take (by rw [e]; exact List.mem_cons_self ..))⟩
      show z ∈ (othersM b (sortedM ns) n).take m
      rw [e]
      exact List.mem_cons_self ..
  · show ((rightFar b (sortedM ns) n).map some).length = b
    unfold rightFar
    rw [List.length_map, List.length_map, List.length_range]
  · obtain ⟨q, hq, e⟩ := List.mem_map.mp (show some p ∈ (rightFar b (sortedM ns) n).map some from hp')
    rw [← Option.some.inj e]
    obtain ⟨i, _, rfl⟩ := List.mem_map.mp hq
    exact hps _ (am _ _ hne)
  · have e : preceding b (sortedM ns) n = p := Option.some.inj hp'
    rw [← e]
    exact hps _ (am _ _ hne)
theorem Part.init {H3 H6 H7 : Hp} {D x dx sp p q : Addr} {R : RingS} (h : Part K H3 H6 D R.node R.names R.names.length) (hD : H3 D = none) {fs : List (Str × V)} (hx3 : H3 x = some (HO.ins (He.ga K "Ring") dx fs)) (hp3 : H3 p = some (.lst (R.fixed.map V.int))) (hs3 : SpaceAt K H3 sp R.bits)
    (hq : H6 q = none) (hsx : sp ≠ x) (ho : Ok R) (hx7 : H7 x = some (HO.ins (He.ga K "Ring") dx [("circle", .ref sp), ("many", .int R.many), ("fixed", .ref p), ("nodes", .ref D), ("stamps", .int R.puts.length), ("done", .ref q)]))
    {vs : List V} (hq7 : H7 q = some (.lst vs)) (hvs : Paired (DeedAt H7) vs R.done) (h7 : ∀ c o, c ≠ x → c ≠ q → H6 c = some o → H7 c = some o) (t7 : Tabs (tabT K) H7) :
    ∃ A : RA, A.r = x ∧ At K H7 A R ∧ (∀ c o, H3 c = some o → (∀ ps, o ≠ .tbl ps) → c ≠ x → c ≠ sp → c ≠ p → H7 c = some o ∧ A.ρ c = none) ∧ ∀ c ro, A.ρ c = some ro → c = x ∨ c = sp ∨ c = p ∨ NotOld H3 c := by
  obtain ⟨f6, nd, nx, ac, af, at_, ρ, hd, hN, hρ⟩ := h
  rw [List.take_length] at hd hN
  obtain ⟨hb, sdx, hsp⟩ := id hs3
  have nt : ∀ {o : HO} ps, plainO o = true → o ≠ .tbl ps := fun ps h => plainO_tbl h ps
  have hp6 := f6.1 _ _ hp3 fun _ z => nomatch z
  have hs6 := f6.1 _ _ hsp fun _ z => nomatch z
  have hxD : D ≠ x := fun e => by rw [e, hx3] at hD; cases hD
  have hpx : p ≠ x := ne_of hp3 hx3 fun z => nomatch z
  have hps : p ≠ sp := ne_of hp3 hsp fun z => nomatch z
  have hDp : D ≠ p := fun e => by rw [e, hp3] at hD; cases hD
  have hDs : D ≠ sp := fun e => by rw [e, hsp] at hD; cases hD
  have hqs : ∀ c o, H6 c = some o → c ≠ q := fun c o e z => by rw [z, hq] at e; cases e
  have hqx : q ≠ x := Ne.symm (hqs _ _ (f6.1 _ _ hx3 fun _ z => nomatch z))
  have off : ∀ c ro, ρ c = some ro → c ≠ x ∧ c ≠ sp ∧ c ≠ p ∧ c ≠ D ∧ c ≠ q := fun c ro hc => by
    obtain ⟨g1, g2, o, g3, g4⟩ := hρ c ro hc
    exact ⟨Ne.symm (g2 x _ hx3 fun _ z => nomatch z), Ne.symm (g2 sp _ hsp fun _ z => nomatch z), Ne.symm (g2 p _ hp3 fun _ z => nomatch z), g1, hqs _ _ g3⟩
  have ρe : ∀ c ro, ρ c = some ro → (if c = x then some Role.ring else if c = sp then some .space else if c = p then some .fixed else if c = D then some .nodes else if c = q then some .done else ρ c) = some ro := fun c ro hc => by
    obtain ⟨a1, a2, a3, a4, a5⟩ := off c ro hc
    rw [if_neg a1, if_neg a2, if_neg a3, if_neg a4, if_neg a5]
    exact hc
  refine ⟨⟨x, dx, sp, p, D, q, nd, nx, ac, af, at_, fun c => if c = x then some Role.ring else if c = sp then some .space else if c = p then some .fixed else if c = D then some .nodes else if c = q then some .done else ρ c⟩, rfl, ⟨⟨?_, ⟨hb, sdx, h7 _ _ hsx (hqs _ _ hs6) hs6⟩, h7 _ _ hpx (hqs _ _ hp6) hp6, h7 _ _ hxD (hqs _ _ hd) hd, ⟨vs, hq7, hvs⟩, fun n hn => ?_, if_pos rfl, ?_, ?_, ?_, ?_, fun n hn => ρe _ _ (hN n hn).2.1, fun n hn => ρe _ _ (hN n hn).2.2.1, fun n hn => ρe _ _ (hN n hn).2.2.2.1, fun n hn => ρe _ _ (hN n hn).2.2.2.2, fun c ro hc => ?_⟩, ho, t7⟩, fun c o c1 c2 c3 c4 c5 => ?_, fun c ro hc => ?_⟩
  · rw [hx7]
    rfl
  · obtain ⟨a1, a2, a3, a4, a5⟩ := hN n hn
    refine a1.ext (fun c o hc e => ?_) fun c xs e => ?_
    · have hr : ∃ ro, ρ c = some ro := by
        rcases hc with rfl | rfl | rfl | rfl
        · exact ⟨_, a2⟩
        · exact ⟨_, a3⟩
        · exact ⟨_, a4⟩
        · exact ⟨_, a5⟩
      obtain ⟨ro, hro⟩ := hr
      have z := off c ro hro
      exact h7 c o z.1 z.2.2.2.2 e
    · exact h7 c _ (ne_of e (f6.1 _ _ hx3 fun _ z => nomatch z) fun z => nomatch z) (hqs _ _ e) e
  · show (if sp = x then _ else _) = _
    rw [if_neg hsx, if_pos rfl]
  · show (if p = x then _ else _) = _
    rw [if_neg hpx, if_neg hps, if_pos rfl]
  · show (if D = x then _ else _) = _
    rw [if_neg hxD, if_neg hDs, if_neg hDp, if_pos rfl]
  · show (if q = x then _ else _) = _
    rw [if_neg hqx, if_neg (Ne.symm (hqs _ _ hs6)), if_neg (Ne.symm (hqs _ _ hp6)), if_neg (Ne.symm (hqs _ _ hd)), if_pos rfl]
  · by_cases e1 : c = x
    · rw [e1]; exact ⟨_, hx7, rfl⟩
    by_cases e5 : c = q
    · rw [e5]; exact ⟨_, hq7, rfl⟩
    by_cases e2 : c = sp
    · rw [e2]; exact ⟨_, h7 _ _ hsx (hqs _ _ hs6) hs6, rfl⟩
    by_cases e3 : c = p
    · rw [e3]; exact ⟨_, h7 _ _ hpx (hqs _ _ hp6) hp6, rfl⟩
    by_cases e4 : c = D
    · rw [e4]; exact ⟨_, h7 _ _ hxD (hqs _ _ hd) hd, rfl⟩
    have hc' : (if c = x then some Role.ring else if c = sp then some .space else if c = p then some .fixed else if c = D then some .nodes else if c = q then some .done else ρ c) = some ro := hc
    rw [if_neg e1, if_neg e2, if_neg e3, if_neg e4, if_neg e5] at hc'
    obtain ⟨_, _, o, g3, g4⟩ := hρ c ro hc'
    exact ⟨o, h7 c o e1 e5 g3, g4⟩
  · have g := f6.1 c o c1 c2
    refine ⟨h7 c o c3 (hqs _ _ g) g, ?_⟩
    show (if c = x then some Role.ring else if c = sp then some .space else if c = p then some .fixed else if c = D then some .nodes else if c = q then some .done else ρ c) = none
    rw [if_neg c3, if_neg c4, if_neg c5, if_neg (fun e => by rw [e, hD] at c1; cases c1), if_neg (hqs _ _ g)]
    cases e : ρ c with
    | none => rfl
    | some ro => exact absurd rfl ((hρ c ro e).2.1 c o c1 c2)
  · have hc' : (if c = x then some Role.ring else if c = sp then some .space else if c = p then some .fixed else if c = D then some .nodes else if c = q then some .done else ρ c) = some ro := hc
    by_cases e1 : c = x
    · exact .inl e1
    by_cases e2 : c = sp
    · exact .inr (.inl e2)
    by_cases e3 : c = p
    · exact .inr (.inr (.inl e3))
    refine .inr (.inr (.inr ?_))
    by_cases e4 : c = D
    · rw [e4]; exact notOld_of hD
    by_cases e5 : c = q
    · rw [e5]; exact (notOld_of hq).back f6
    rw [if_neg e1, if_neg e2, if_neg e3, if_neg e4, if_neg e5] at hc'
    exact (hρ c ro hc').2.1
def spRingI (K : PySem.W.Frag) : Sp := fun vs H Q _ => ∃ (x dx l : Addr) (b m : Nat) (ns : List Int), vs = [.ref x, .ref l, .int b, .int m] ∧ H x = some (.ins (He.ga K "Ring") dx []) ∧ Tabs (tabT K) H ∧ H l = some (.lst (ns.map V.int)) ∧ (3 ≤ b ∧ b ≤ 32) ∧ (1 ≤ m ∧ m ≤ 4) ∧ m < ns.length ∧ ns.length ≤ 8 ∧ Pts b ns ∧ ns.Nodup ∧
  ∀ A H', A.r = x → At K H' A (initM b m ns) → (∀ b o, H b = some o → (∀ ps, o ≠ .tbl ps) → b ≠ x → H' b = some o ∧ A.ρ b = none) → Q .non H'
theorem sc_Ring_init : FnScope ["self", "base", "bits", "length", "circle", "name"] ["self", "base", "bits", "length"] (defScope s_Ring_init) := ⟨rfl, rfl, rfl, by decide +kernel, rfl, by decide +kernel, by decide +kernel⟩
theorem ok_Ring_init (S : Say K mg base) : FnOk P w K mg base CX0 10 (He.ma K (He.ga K "Ring") "__init__") (fdO K ("Ring", some "__init__")) ["self", "base", "bits", "length"] (spRingI K) := by
  refine (S.F_Ring_init).ok sc_Ring_init (fun vs H Q E h => ?_) (fun cdv A outer s H vs Q E hr h => ?_)
  · obtain ⟨x, dx, l, b, m, ns, rfl, hx, ht, hl, hb, hm, hmn, h8, hp, hn, k⟩ := h
    rfl
  obtain ⟨x, dx, l, b, m, ns, rfl, hx, ht, hl, hb, hm, hmn, h8, hp, hn, k⟩ := h
  have hu := hu_of hr
  refine ⟨_, PSs.nox (pss_cons (ps_set (i := 4) sc_Ring_init.nd rfl (Or.inr rfl) (pe_call (ok_space_of S) (hr.mono (by decide)) rfl S.g_space_of (S.F_space_of).kp S.b_space_of .nil pass0 (pa_cons (pv 2) pa_nil)))
        (pss_cons (ps_if (pt_not (pt_val (pe_call (ok_is_length S) (hr.mono (by decide)) rfl S.g_is_length (S.F_is_length).kp S.b_is_length .nil pass0 (pa_cons (pv 3) pa_nil)))) (pss_one ps_never /-raise-/) pss_nil)
        (pss_cons (ps_if (pt_not (pt_val (pe_call (ok_are_base S) (hr.mono (by decide)) rfl S.g_are_base (S.F_are_base).kp S.b_are_base .nil pass0 (pa_cons (pv 4) (pa_cons (pv 1) (pa_cons (pv 3) pa_nil)))))) (pss_one ps_never /-raise-/) pss_nil)
        (pss_cons (ps_fld (pv 0) (pv 4) rfl)
        (pss_cons (ps_fld (pv 0) (pv 3) rfl)
        (pss_cons (ps_fld (pv 0) (pe_callB cr_sortedI (by rfl) S.z_sorted (by decide +kernel) (pa_cons (pv 1) pa_nil)) rfl)
        (pss_cons (ps_fld (pv 0) (pe_dc (own := [("name", 5)]) rfl sc_Ring_init.nd (pi_list (pe_fld (pv 0) rfl)) (blkOk_by (own := [("name", 5)]) (N := ["self", "base", "bits", "length", "circle", "name"]) (sc := defScope s_Ring_init) (by decide +kernel)) (fun _ _ _ _ _ => (pg_name (i := 5) sc_Ring_init.nd rfl (Or.inl rfl))) (fun _ _ _ _ _ => pts_nil) (fun _ _ _ _ _ => (pv 5)) (fun _ _ _ _ _ => (pe_call (ok_right_node S) (hr.mono (by decide)) rfl S.g_right_node (S.F_right_node).kp S.b_right_node .nil pass0 (pa_cons (pv 4) (pa_cons (pe_fldK (K := K) rfl (pv 0) rfl) (pa_cons (pv 5) (pa_cons (pv 3) pa_nil))))))) rfl)
        (pss_cons (ps_fld (pv 0) pe_int rfl)
        (pss_one (ps_fld (pv 0) (pe_lst pa_nil) rfl)))))))))), ?_⟩
  refine ⟨_, rfl, b, rfl, hb, fun sp H1 hsp hs1 s1 => ⟨_, rfl, m, rfl, hm, _, rfl, iteF ?_⟩⟩
  have t1 := ht.ext s1
  refine ⟨_, rfl, _, rfl, _, rfl, sp, l, b, m, ns, rfl, hs1, t1, s1 _ _ hl, hmn, h8, hp, hn, fun H2 f2 => ⟨_, rfl, iteF ?_⟩⟩
  have f02 : Fin K H H2 := (Fin.of s1 ht).trans f2
  have hx2 : H2 x = some (.ins (He.ga K "Ring") dx []) := f02.1 _ _ hx fun _ z => nomatch z
  refine ⟨_, rfl, _, rfl, x, _, dx, _, rfl, hx2, S.c_Ring, S.n_Ring_circle, by decide, _, rfl, _, rfl, x, _, dx, _, rfl, upd_same, S.c_Ring, S.n_Ring_many, (by show 1 < 1000; decide), ?_⟩
  have hl2 : H2 l = some (.lst (ns.map V.int)) := f02.1 _ _ hl fun _ z => nomatch z
  have hlx : l ≠ x := ne_of hl2 hx2 fun z => nomatch z
  rw [upd_upd]
  refine ⟨_, rfl, l, ns, rfl, .inl (.inl (by rw [upd_ne hlx]; exact hl2)), fun ns' p hpm hsr hpn => ?_⟩
  have es : ns' = sortedM ns := sortedI_unique (hpm.trans (sortedM_perm ns).symm) hsr (sortedM_sorted ns)
  subst es
  have hpx : p ≠ x := fun e => by rw [e, upd_same] at hpn; cases hpn
  refine ⟨_, rfl, x, _, dx, _, rfl, by rw [upd_ne (Ne.symm hpx)]; exact upd_same, S.c_Ring, S.n_Ring_fixed, (by show 2 < 1000; decide), ?_⟩
  rw [upd_ne hpx] at hpn
  -- the heap in which the nodes are made
  have hc : ∃ H3 : Hp, H3 = upd (upd (upd H2 x (HO.ins (He.ga K "Ring") dx (putF "many" (V.int m) (putF "circle" (V.ref sp) [])))) p (HO.lst ((sortedM ns).map V.int))) x (HO.ins (He.ga K "Ring") dx (putF "fixed" (V.ref p) (putF "many" (V.int m) (putF "circle" (V.ref sp) [])))) := ⟨_, rfl⟩
  obtain ⟨H3, e3⟩ := hc
  rw [← e3]
  have off3 : ∀ b o, H2 b = some o → b ≠ x → H3 b = some o := fun b o e1 e2 => by rw [e3, upd_ne e2, upd_ne (ne_of_none e1 hpn), upd_ne e2]; exact e1
  have hx3 : H3 x = some (HO.ins (He.ga K "Ring") dx (putF "fixed" (V.ref p) (putF "many" (V.int m) (putF "circle" (V.ref sp) [])))) := by rw [e3]; exact upd_same
  have hp3 : H3 p = some (.lst ((sortedM ns).map V.int)) := by rw [e3, upd_ne hpx]; exact upd_same
  have hs3 : SpaceAt K H3 sp b := by
    obtain ⟨z, d, hh⟩ := hs1
    have hh2 := f2.1 _ _ hh fun _ z => nomatch z
    exact ⟨z, d, off3 _ _ hh2 fun e => by rw [e, hx] at hsp; cases hsp⟩
  have t3 : Tabs (tabT K) H3 := by
    rw [e3]
    refine tabs_upd (H := upd (upd H2 x _) p _) ?_ (by rw [upd_ne (Ne.symm hpx)]; exact upd_same) rfl
    exact (tabs_upd f2.2 hx2 rfl).ext (same_new (by rw [upd_ne hpx]; exact hpn))
  refine ⟨_, rfl, x, _, dx, _, _, rfl, hx3, S.c_Ring, S.n_Ring_fixed, rfl, p, rfl, ⟨_, .inl (.inl hp3)⟩, fun D hD => ?_⟩
  have hnd : (sortedM ns).Nodup := (sortedM_perm ns).nodup_iff.mpr hn
  have hps : Pts b (sortedM ns) := fun n h => hp n ((sortedM_perm ns).mem_iff.mp h)
  have hls : (sortedM ns).length = ns.length := (sortedM_perm ns).length_eq
  have hne : sortedM ns ≠ [] := fun e => by rw [e] at hls; simp at hls; omega
  refine dc_it (walk_list (K := K) (a := p) (xs := (sortedM ns).map V.int)) (fun i H4 => Part K H3 H4 D (fun n => rightNode b (sortedM ns) n m) (sortedM ns) i) ?_ (fun i H4 _ h => .inl (.inl (h.1.1 _ _ hp3 fun _ z => nomatch z))) ?_ ?_
  · exact ⟨Fin.of (same_new hD) t3, fun _ => 0, fun _ => 0, fun _ => 0, fun _ => 0, fun _ => 0, fun _ => none, upd_same, fun n h => absurd h (List.not_mem_nil), fun c ro h => nomatch (show (none : Option Role) = some ro from h)⟩
  · rintro i v H4 H4' hi hPart ⟨rfl, hv⟩
    obtain ⟨n, hn1, rfl⟩ := getI hv
    obtain ⟨f4, nd, nx, ac, af, at_, ρ, hd4, hN4, hρ4⟩ := id hPart
    have h4 := fun b o e => f4.1 b o e
    have hx4 := f4.1 _ _ hx3 fun _ z => nomatch z
    refine ⟨rfl, _, rfl, _, rfl, _, rfl, x, _, dx, _, _, rfl, hx4, S.c_Ring, S.n_Ring_fixed, rfl, _, rfl, _, rfl, sp, p, b, m, sortedM ns, n, rfl, hs3.ext f4.1, f4.2, .inl (.inl (f4.1 _ _ hp3 fun _ z => nomatch z)), by omega, hps, hne, fun nd' nx' ac' af' at' H5 k1 k2 k3 k4 k5 k6 f5 => ?_⟩
    refine ⟨_, (Sum.inl n : Key), rfl, f5.1 _ _ hd4 (fun _ z => nomatch z), ?_, ?_⟩
    · unfold kvN
      rw [List.length_map, List.length_take, sizeLine_eq]
      omega
    · exact hPart.step hD hn1 hnd k1 k2 k3 k4 k5 k6 f5 hd4
  · intro H6 hPart
    rw [List.length_map] at hPart
    have hx6 := hPart.1.1 _ _ hx3 fun _ z => nomatch z
    refine ⟨_, rfl, x, _, dx, _, rfl, hx6, S.c_Ring, S.n_Ring_nodes, (by show 3 < 1000; decide), _, rfl, x, _, dx, _, rfl, upd_same, S.c_Ring, S.n_Ring_stamps, (by show 4 < 1000; decide), ?_⟩
    rw [upd_upd]
    refine ⟨(by show 0 ≤ sizeLine; omega), fun q hq => ?_⟩
    have hqx : q ≠ x := fun e => by rw [e, upd_same] at hq; cases hq
    refine ⟨_, rfl, x, _, dx, _, rfl, by rw [upd_ne (Ne.symm hqx)]; exact upd_same, S.c_Ring, S.n_Ring_done, (by show 5 < 1000; decide), ?_⟩
    rw [upd_ne hqx] at hq
    have hsx : sp ≠ x := fun e => by rw [e, hx] at hsp; cases hsp
    have hz := Part.init (R := initM b m ns) (x := x) (dx := dx) (sp := sp) (p := p) (q := q) (vs := []) hPart hD hx3 hp3 hs3 hq hsx (initM_ok hb hm hmn h8 hp hn)
      (H7 := upd (upd (upd H6 x (HO.ins (He.ga K "Ring") dx (putF "stamps" (.int 0) (putF "nodes" (.ref D) (putF "fixed" (.ref p) (putF "many" (V.int m) (putF "circle" (V.ref sp) []))))))) q (HO.lst [])) x (HO.ins (He.ga K "Ring") dx (putF "done" (.ref q) (putF "stamps" (.int 0) (putF "nodes" (.ref D) (putF "fixed" (.ref p) (putF "many" (V.int m) (putF "circle" (V.ref sp) []))))))))
      (by rw [upd_same]; rfl) (by rw [upd_ne hqx]; exact upd_same) .nil (fun c o c1 c2 c3 => by rw [upd_ne c1, upd_ne c2, upd_ne c1]; exact c3)
      (by
        refine tabs_upd (H := upd (upd H6 x _) q _) ?_ (by rw [upd_ne (Ne.symm hqx)]; exact upd_same) rfl
        exact (tabs_upd hPart.1.2 hx6 rfl).ext (same_new (by rw [upd_ne hqx]; exact hq)))
    obtain ⟨A, hr, hA, hoff, _⟩ := hz
    refine k A _ hr hA fun c o c1 c2 c3 => ?_
    have c4 := off3 _ _ (f02.1 c o c1 c2) c3
    refine hoff c o c4 c2 c3 (fun e => ?_) fun e => ?_
    · rw [e, hsp] at c1; cases c1
    · have z := f02.1 c o c1 c2
      rw [e, hpn] at z; cases z
end
end Nn
set_option Elab.async false
set_option linter.all false
set_option maxRecDepth 100000
set_option maxHeartbeats 1000000
namespace Nn
open PySem PySem.Spec PyProof.Rows L2 LamX KeyL
/-! ### lookups -/
def optsM (R : RingS) (n : Int) : List (Option Int) := (R.node n).chain.map some ++ (R.node n).far
def memO (R : RingS) : Option Int → Option Int
  | some m => if m ∈ R.names then some m else none
  | none => none
def knownM (R : RingS) (n : Int) : List Int := (optsM R n).filterMap (memO R)
def betweenM (R : RingS) (here p : Int) : List Int := (knownM R here).filter fun n => btw R.bits n here p
def farM (R : RingS) (here p : Int) : Int := argMin (fun n => - dist R.bits here n) (betweenM R here p)
theorem getO {os : List (Option Int)} {i : Nat} {x : V} (hi : (os.map oV)[i]? = some x) : ∃ o, os[i]? = some o ∧ x = oV o := by
  rw [List.getElem?_map] at hi
  cases e : os[i]? with
  | none => rw [e] at hi; cases hi
  | some z => rw [e] at hi; exact ⟨z, rfl, (Option.some.inj hi).symm⟩
theorem take_oneG {α : Type} {ns : List α} {i : Nat} {n : α} (h : ns[i]? = some n) : ns.take (i + 1) = ns.take i ++ [n] := by rw [List.take_add_one, h]; rfl
theorem askO {K : PySem.W.Frag} {H : Hp} (o : Option Int) : Askable K H (oV o) := by
  cases o with
  | none => exact .non
  | some n => exact .int n
theorem memV_o (R : RingS) (o : Option Int) : memV R (oV o) = (memO R o).isSome := by
  cases o with
  | none => rfl
  | some n =>
    show decide (n ∈ R.names) = (if n ∈ R.names then some n else none).isSome
    by_cases h : n ∈ R.names
    · rw [decide_eq_true h, if_pos h]; rfl
    · rw [decide_eq_false h, if_neg h]; rfl
theorem memO_some {R : RingS} {o : Option Int} {m : Int} (h : memO R o = some m) : o = some m ∧ m ∈ R.names := by
  cases o with
  | none => cases h
  | some n =>
    have h' : (if n ∈ R.names then some n else none) = some m := h
    by_cases e : n ∈ R.names
    · rw [if_pos e] at h'
      have := Option.some.inj h'
      subst this
      exact ⟨rfl, e⟩
    · rw [if_neg e] at h'
      cases h'
theorem knownM_mem {R : RingS} {n m : Int} (h : m ∈ knownM R n) : m ∈ R.names ∧ (m ∈ (R.node n).chain ∨ some m ∈ (R.node n).far) := by
  obtain ⟨o, h1, h2⟩ := List.mem_filterMap.mp h
  obtain ⟨e, h3⟩ := memO_some h2
  subst e
  refine ⟨h3, ?_⟩
  rcases List.mem_append.mp h1 with h | h
  · obtain ⟨z, hz, e⟩ := List.mem_map.mp h
    exact .inl (by rw [← Option.some.inj e]; exact hz)
  · exact .inr h
section
variable {P : Program} {w : World} {K : PySem.W.Frag} {mg : Str → Option Value} {base : Heap}
theorem optsM_len {R : RingS} (h : Ok R) {n : Int} (hn : n ∈ R.names) : (optsM R n).length ≤ 36 := by
  unfold optsM
  rw [List.length_append, List.length_map, h.clen n hn, h.flen n hn]
  have := h.bits
  have := h.many
  omega
def spFarthest (K : PySem.W.Frag) : Sp := fun vs H Q _ => ∃ A R here p, vs = [.ref A.r, .int here, .int p] ∧ At K H A R ∧ here ∈ R.names ∧ betweenM R here p ≠ [] ∧ ∀ H', Fin K H H' → Q (.int (farM R here p)) H'
theorem sc_farthest : FnScope ["ring", "here", "point", "space", "known", "between", "name"] ["ring", "here", "point"] (defScope s_farthest) := ⟨rfl, rfl, rfl, by decide +kernel, rfl, by decide +kernel, by decide +kernel⟩
theorem ok_farthest (S : Say K mg base) : FnOk P w K mg base CX0 9 (He.ga K "farthest") (fdO K ("farthest", none)) ["ring", "here", "point"] (spFarthest K) := by
  refine okC (S.F_farthest) sc_farthest (fun vs H Q E h => ?_) (fun cdv hcd hc A outer s H vs Q E hr h => ?_)
  · obtain ⟨A, R, here, p, rfl, h, hh, hb, k⟩ := h
    rfl
  obtain ⟨A, R, here, p, rfl, h, hh, hb, k⟩ := h
  have hu := hu_of hr
  refine ⟨_, PSs.nox (pss_cons (ps_set (i := 3) sc_farthest.nd rfl (Or.inr rfl) (pe_meth0 (pv 0) S.c_Ring S.m_Ring_space (ok_Ring_space S) (hr.mono (by decide)) S.b_Ring_space .nil pass0))
        (pss_cons (ps_setLc (i := 4) (own := [("name", 6)]) rfl sc_farthest.nd rfl rfl (sw_true rfl rfl rfl (by decide +kernel)) (pi_list (pe_op op_cat (pe_meth (pv 0) S.c_Ring S.m_Ring_links (ok_Ring_links S) (hr.mono (by decide)) S.b_Ring_links .nil pass0 (pa_cons (pv 1) pa_nil)) (pe_meth (pv 0) S.c_Ring S.m_Ring_fingers (ok_Ring_fingers S) (hr.mono (by decide)) S.b_Ring_fingers .nil pass0 (pa_cons (pv 1) pa_nil)))) (blkOk_by (own := [("name", 6)]) (N := ["ring", "here", "point", "space", "known", "between", "name"]) (sc := defScope s_farthest) (by decide +kernel)) (fun _ _ _ _ _ => (pg_name (i := 6) sc_farthest.nd rfl (Or.inl rfl))) (fun _ _ _ _ _ => (pts_one (pt_val (pe_meth (pv 0) S.c_Ring S.m_Ring_is_member (ok_Ring_is_member S) (hr.mono (by decide)) S.b_Ring_is_member .nil pass0 (pa_cons (pv 6) pa_nil))))) (fun _ _ _ _ _ => (pv 6)))
        (pss_cons (ps_setLc (i := 5) (own := [("name", 6)]) rfl sc_farthest.nd rfl rfl (sw_true rfl rfl rfl (by decide +kernel)) (pi_list (pv 4)) (blkOk_by (own := [("name", 6)]) (N := ["ring", "here", "point", "space", "known", "between", "name"]) (sc := defScope s_farthest) (by decide +kernel)) (fun _ _ _ _ _ => (pg_name (i := 6) sc_farthest.nd rfl (Or.inl rfl))) (fun _ _ _ _ _ => (pts_one (pt_val (pe_meth (pv 3) S.c_Space S.m_Space_is_between (ok_Space_is_between S) (hr.mono (by decide)) S.b_Space_is_between .nil pass0 (pa_cons (pv 6) (pa_cons (pv 1) (pa_cons (pv 2) pa_nil))))))) (fun _ _ _ _ _ => (pv 6)))
        (pss_one (ps_ret (pe_maxK ⟨lamTab S (i := 0) rfl rfl rfl hcd hc, lamS1_by (sc := defScope s_farthest) (by decide +kernel), rfl, (by intros; rfl), capOk_by (N := ["ring", "here", "point", "space", "known", "between", "name"]) (a := "name") (Nf := ["space", "here"]) (js := [3, 1]) (by decide +kernel), ⟨rfl, rfl⟩, Room.mono (j := 2 + 3) hr (by decide), fun A s H f c' hr => pe_meth (pv 1) S.c_Space S.m_Space_distance (ok_Space_distance S) hr S.b_Space_distance .nil pass0 (pa_cons (pv 2) (pa_cons (pv 0) pa_nil))⟩ rfl S.z_max (pa_cons (pv 5) pa_nil))))))), ?_⟩
  refine ⟨_, rfl, A.r, A.dx, _, rfl, h.ring.ob, rfl, A, R, rfl, h.ring, ?_⟩
  refine ⟨_, rfl, A.r, A.dx, _, rfl, h.ring.ob, rfl, _, rfl, A, R, here, rfl, h, hh, fun q1 H1 n1 hq1 f1 => ?_⟩
  have h1 := h.fin f1
  refine ⟨_, rfl, A.r, A.dx, _, rfl, h1.ring.ob, rfl, _, rfl, A, R, here, rfl, h1, hh, fun q2 H2 n2 hq2 f2 => ?_⟩
  have f02 := f1.trans f2
  have h2 := h1.fin f2
  have ol := optsM_len h.ok hh
  have ecat : (R.node here).chain.map V.int ++ (R.node here).far.map oV = (optsM R here).map oV := by
    unfold optsM
    rw [List.map_append, List.map_map]
    rfl
  refine ⟨q1, q2, _, _, rfl, rfl, f2.1 _ _ hq1 (fun _ z => nomatch z), hq2, ?_, fun r hr => ?_⟩
  · refine szI ?_
    have e1 : ((R.node here).chain.map V.int).length = R.many := by rw [List.length_map]; exact h.ok.clen here hh
    have e2 : ((R.node here).far.map oV).length = R.bits := by rw [List.length_map]; exact h.ok.flen here hh
    rw [e1, e2]
    have := h.ok.bits
    have := h.ok.many
    omega
  rw [ecat]
  have f3 : Fin K H2 (upd H2 r (.lst ((optsM R here).map oV))) := Fin.of (same_new hr) h2.tabs
  have h3 := h2.fin f3
  have hr3 : upd H2 r (.lst ((optsM R here).map oV)) r = some (.lst ((optsM R here).map oV)) := upd_same
  revert f3 h3 hr3
  generalize upd H2 r (.lst ((optsM R here).map oV)) = H3
  intro f3 h3 hr3
  refine ⟨r, rfl, ⟨_, .inl (.inl hr3)⟩, fun D hD => ?_⟩
  refine lc_list (K := K) (a := r) (xs := (optsM R here).map oV) (fun i H4 => Same H3 H4 ∧ H4 D = some (.lst ((((optsM R here).take i).filterMap (memO R)).map V.int))) ⟨same_new hD, upd_same⟩ (fun i H4 _ h => .inl (.inl (h.1 _ _ hr3))) ?_ ?_
  · rintro i x H4 hi ⟨s4, hd⟩
    obtain ⟨o, ho, rfl⟩ := getO hi
    have h4 := h3.fin (Fin.of s4 h3.tabs)
    refine ⟨rfl, _, rfl, A.r, A.dx, _, rfl, h4.ring.ob, rfl, _, rfl, A, R, _, rfl, h4.ring, h4.ok, askO o, ?_⟩
    rw [memV_o]
    cases e : memO R o with
    | none =>
      refine ⟨false, rfl, iteF ⟨s4, ?_⟩⟩
      rw [take_oneG ho, List.filterMap_append]
      have e0 : [o].filterMap (memO R) = [] := by simp [e]
      rw [e0, List.append_nil]
      exact hd
    | some m =>
      obtain ⟨rfl, _⟩ := memO_some e
      refine ⟨true, rfl, iteT ⟨_, rfl, _, hd, ?_, ?_, ?_⟩⟩
      · refine szL ?_
        rw [List.length_map]
        have := List.length_filterMap_le (memO R) ((optsM R here).take i)
        rw [List.length_take] at this
        omega
      · intro b o e
        rw [upd_ne (ne_of_none e hD)]
        exact s4 b o e
      · rw [upd_same, take_oneG ho, List.filterMap_append]
        have e0 : [some m].filterMap (memO R) = [m] := by simp [e]
        rw [e0, List.map_append]
        rfl
  · rintro H4 ⟨s4, hd⟩
    rw [List.length_map, List.take_length] at hd
    have f4 : Fin K H3 H4 := Fin.of s4 h3.tabs
    have f04 := (f02.trans f3).trans f4
    have h4 := h3.fin f4
    have hd' : H4 D = some (.lst ((knownM R here).map V.int)) := hd
    have kl : (knownM R here).length ≤ 36 := Nat.le_trans (List.length_filterMap_le ..) ol
    obtain ⟨_, dxs, hsp⟩ := id h4.ring.space
    refine ⟨_, rfl, D, rfl, ⟨_, .inl (.inl hd')⟩, fun E0 hE => ?_⟩
    refine lc_list (K := K) (a := D) (xs := (knownM R here).map V.int) (fun i H5 => Same H4 H5 ∧ H5 E0 = some (.lst ((((knownM R here).take i).filter fun n => btw R.bits n here p).map V.int))) ⟨same_new hE, upd_same⟩ (fun i H5 _ h => .inl (.inl (h.1 _ _ hd'))) ?_ ?_
    · rintro i x H5 hi ⟨s5, hd5⟩
      obtain ⟨n, hn, rfl⟩ := getI hi
      have hsp5 := s5 _ _ hsp
      refine ⟨rfl, _, rfl, A.sp, dxs, _, rfl, hsp5, rfl, _, rfl, _, rfl, _, rfl, A.sp, R.bits, n, here, p, rfl, h4.ring.space.ext (sameExtN s5), ?_⟩
      by_cases c : btw R.bits n here p = true
      · rw [c]
        refine ⟨true, rfl, iteT ⟨_, rfl, _, hd5, ?_, ?_, ?_⟩⟩
        · refine szL ?_
          rw [List.length_map]
          have := List.length_filter_le (fun n => btw R.bits n here p) ((knownM R here).take i)
          rw [List.length_take] at this
          omega
        · intro b o e
          rw [upd_ne (ne_of_none e hE)]
          exact s5 b o e
        · rw [upd_same, take_one hn, List.filter_append]
          simp [c]
      · have c' : btw R.bits n here p = false := by cases q : btw R.bits n here p with
          | false => rfl
          | true => exact absurd q c
        rw [c']
        refine ⟨false, rfl, iteF ⟨s5, ?_⟩⟩
        rw [hd5, take_one hn, List.filter_append]
        simp [c']
    · rintro H5 ⟨s5, hd5⟩
      rw [List.length_map, List.take_length] at hd5
      have f5 : Fin K H4 H5 := Fin.of s5 h4.tabs
      have h5 := h4.fin f5
      have hd5' : H5 E0 = some (.lst ((betweenM R here p).map V.int)) := hd5
      refine ⟨_, rfl, h5.tabs, E0, _, rfl, .inl (.inl hd5'), fun H6 e6 t6 => ⟨?_, fun i => dist R.bits here ((betweenM R here p).getD i 0), fun i x hx => ?_, fun i x hx hbest => ?_⟩⟩
      · rw [List.length_map]
        exact List.length_pos_iff.mpr hb
      · obtain ⟨n, rfl, _, en⟩ := keys_of (g := fun n => dist R.bits here n) hx
        have hs2 := h5.ring.space.ext e6
        obtain ⟨_, dx, hp⟩ := id hs2
        refine ⟨_, rfl, A.sp, dx, _, rfl, hp, rfl, _, rfl, _, rfl, A.sp, R.bits, here, n, rfl, hs2, ?_, rfl⟩
        show V.int _ = V.int _
        rw [← en]
      · have hz := argMin_of (g := fun n => - dist R.bits here n) hx fun j hj => by
          have := hbest j hj
          constructor
          · exact Int.neg_le_neg this.1
          · exact fun hji => Int.neg_lt_neg (this.2 hji)
        rw [hz]
        exact k H6 ((f04.trans f5).trans ⟨e6, t6⟩)
end
end Nn
set_option Elab.async false
set_option linter.all false
set_option maxRecDepth 100000
set_option maxHeartbeats 1000000
namespace Nn
open PySem PySem.Spec PyProof.Rows L2 LamX KeyL
/-! ### distances -/
theorem dist_rng (b : Nat) (x y : Int) : 0 ≤ dist b x y ∧ dist b x y < 2 ^ b := by
  have hp : (0 : Int) < 2 ^ b := two_pos b
  exact ⟨Int.emod_nonneg _ (by omega), Int.emod_lt_of_pos _ hp⟩
theorem dist_self (b : Nat) (x : Int) : dist b x x = 0 := by
  unfold dist
  rw [Int.sub_self, Int.zero_emod]
theorem dist_pos {b : Nat} {x y : Int} (hx : 0 ≤ x ∧ x < 2 ^ b) (hy : 0 ≤ y ∧ y < 2 ^ b) (h : x ≠ y) : 0 < dist b x y := by
  have r := dist_rng b x y
  rcases Int.lt_or_eq_of_le r.1 with z | z
  · exact z
  · exact absurd (dist_inj (p := x) hx hy (by rw [dist_self, z])) h
theorem dist_sub {b : Nat} {x n p : Int} (h : dist b x n ≤ dist b x p) : dist b n p = dist b x p - dist b x n := by
  have r1 := dist_rng b x n
  have r2 := dist_rng b x p
  unfold dist at *
  have e : (p - n) % (2 : Int) ^ b = ((p - x) % 2 ^ b - (n - x) % 2 ^ b) % 2 ^ b := by
    rw [← Int.sub_emod]
    congr 1
    omega
  rw [e, Int.emod_eq_of_lt (by omega) (by omega)]
theorem btw_iff {b : Nat} {q x y : Int} : btw b q x y = true ↔ 0 < dist b x q ∧ (x = y ∨ dist b x q < dist b x y) := by
  unfold btw
  rw [Bool.and_eq_true, Bool.or_eq_true, decide_eq_true_eq, decide_eq_true_eq, decide_eq_true_eq]
/-! ### one step of a lookup -/
def nxtI (R : RingS) (n : Int) : Int := (nxt R n).getD 0
theorem nxt_some {R : RingS} (h : Ok R) {n : Int} (hn : n ∈ R.names) : nxt R n = some (nxtI R n) ∧ nxtI R n ∈ R.names ∧ nxtI R n ∈ (R.node n).chain := by
  obtain ⟨m, h1, h2⟩ := h.cmem n hn
  unfold nxtI
  cases e : nxt R n with
  | none =>
    have z := List.find?_eq_none.mp (show ((R.node n).chain.find? fun n => decide (n ∈ R.names)) = none from e) m h1
    simp [h2] at z
  | some q =>
    have z := List.find?_some (show ((R.node n).chain.find? fun n => decide (n ∈ R.names)) = some q from e)
    exact ⟨rfl, by simpa using z, List.mem_of_find?_eq_some (show ((R.node n).chain.find? fun n => decide (n ∈ R.names)) = some q from e)⟩
def lastI (tr : List Int) : Int := tr.getLastD 0
def stepM (R : RingS) (p : Int) (tr : List Int) : List Int × Option Int :=
  if lastI tr = p then (tr, some (lastI tr)) else
  if p = nxtI R (lastI tr) ∨ btw R.bits p (lastI tr) (nxtI R (lastI tr)) = true then (tr, some (nxtI R (lastI tr))) else
  (tr ++ [farM R (lastI tr) p], none)
theorem knownM_chain {R : RingS} {n m : Int} (h1 : m ∈ (R.node n).chain) (h2 : m ∈ R.names) : m ∈ knownM R n := by
  refine List.mem_filterMap.mpr ⟨some m, List.mem_append_left _ (List.mem_map.mpr ⟨m, h1, rfl⟩), ?_⟩
  show (if m ∈ R.names then some m else none) = some m
  rw [if_pos h2]
theorem step_ok {R : RingS} (h : Ok R) {here p : Int} (hh : here ∈ R.names) (hp : 0 ≤ p ∧ p < 2 ^ R.bits) (h1 : here ≠ p) (h2 : ¬ (p = nxtI R here ∨ btw R.bits p here (nxtI R here) = true)) :
    betweenM R here p ≠ [] := by
  obtain ⟨_, n1, n2⟩ := nxt_some h hh
  have hhp := h.pts here hh
  have hnp := h.pts _ n1
  have d0 := dist_pos hhp hp h1
  rw [btw_iff] at h2
  have c1 : here ≠ nxtI R here := fun e => h2 (.inr ⟨d0, .inl e⟩)
  have c2 : ¬ dist R.bits here p < dist R.bits here (nxtI R here) := fun e => h2 (.inr ⟨d0, .inr e⟩)
  have c3 : dist R.bits here p ≠ dist R.bits here (nxtI R here) := fun e => h2 (.inl (dist_inj hp hnp e))
  have hm : nxtI R here ∈ betweenM R here p := by
    refine List.mem_filter.mpr ⟨knownM_chain n2 n1, ?_⟩
    rw [btw_iff]
    exact ⟨dist_pos hhp hnp c1, .inr (by omega)⟩
  exact fun e => by rw [e] at hm; cases hm
theorem far_ok {R : RingS} {here p : Int} (hb : betweenM R here p ≠ []) (h1 : here ≠ p) : farM R here p ∈ knownM R here ∧ farM R here p ∈ R.names ∧ dist R.bits (farM R here p) p < dist R.bits here p ∧ btw R.bits (farM R here p) here p = true := by
  have hm := argMin_mem (fun n => - dist R.bits here n) hb
  obtain ⟨k1, k2⟩ := List.mem_filter.mp (show farM R here p ∈ betweenM R here p from hm)
  refine ⟨k1, (knownM_mem k1).1, ?_, k2⟩
  obtain ⟨c1, c2⟩ := btw_iff.mp k2
  rcases c2 with e | e
  · exact absurd e h1
  · rw [dist_sub (Int.le_of_lt e)]
    omega
/-! ### the seeker's object -/
def skF (r t : Addr) (p rt : Int) (g : Option Int) : List (Str × V) := [("around", .ref r), ("sought", .int p), ("trail", .ref t), ("returns", .int rt), ("goal", oV g)]
structure SkAt (K : PySem.W.Frag) (H : Hp) (A : RA) (x t dx : Addr) (tr : List Int) (p rt : Int) (g : Option Int) : Prop where
  ob : H x = some (.ins (He.ga K "Seeker") dx (skF A.r t p rt g))
  trail : H t = some (.lst (tr.map V.int))
  rx : A.ρ x = none
  rt : A.ρ t = none
/-- only what stands at x and at t may be another -/
def Off2 (K : PySem.W.Frag) (x t : Addr) (H H' : Hp) : Prop := (∀ b o, H b = some o → (∀ ps, o ≠ .tbl ps) → b ≠ x → b ≠ t → H' b = some o) ∧ Tabs (tabT K) H'
theorem Off2.trans {K : PySem.W.Frag} {x t : Addr} {H H1 H2 : Hp} (a : Off2 K x t H H1) (b : Off2 K x t H1 H2) : Off2 K x t H H2 := ⟨fun c o h1 h2 h3 h4 => b.1 c o (a.1 c o h1 h2 h3 h4) h2 h3 h4, b.2⟩
theorem Off2.fin {K : PySem.W.Frag} {x t : Addr} {H H' : Hp} (a : Fin K H H') : Off2 K x t H H' := ⟨fun c o h1 h2 _ _ => a.1 c o h1 h2, a.2⟩
theorem At.off2 {K : PySem.W.Frag} {H H' : Hp} {A : RA} {R : RingS} {x t dx : Addr} {tr : List Int} {p rt : Int} {g : Option Int} (h : At K H A R) (sk : SkAt K H A x t dx tr p rt g) (o : Off2 K x t H H') : At K H' A R := by
  refine ⟨h.ring.keep (fun b ro u e1 e2 => ?_) fun b xs e => ?_, h.ok, o.2⟩
  · obtain ⟨u', k1, k2⟩ := h.ring.live b ro e1
    rw [e2] at k1
    exact o.1 b u e2 (by rw [Option.some.inj k1]; exact plainO_tbl k2) (fun e => by rw [e, sk.rx] at e1; cases e1) fun e => by rw [e, sk.rt] at e1; cases e1
  · exact o.1 b _ e (fun _ z => nomatch z) (ne_of e sk.ob fun z => nomatch z) (ne_of e sk.trail fun z => nomatch z)
theorem SkAt.fin {K : PySem.W.Frag} {H H' : Hp} {A : RA} {x t dx : Addr} {tr : List Int} {p rt : Int} {g : Option Int} (sk : SkAt K H A x t dx tr p rt g) (f : Fin K H H') : SkAt K H' A x t dx tr p rt g :=
  ⟨f.1 _ _ sk.ob (fun _ z => nomatch z), f.1 _ _ sk.trail (fun _ z => nomatch z), sk.rx, sk.rt⟩
section
variable {P : Program} {w : World} {K : PySem.W.Frag} {mg : Str → Option Value} {base : Heap}
theorem SkAt.goal {H : Hp} {A : RA} {x t dx : Addr} {tr : List Int} {p rt : Int} {g : Option Int} (sk : SkAt K H A x t dx tr p rt g) (ht : Tabs (tabT K) H) (g' : Option Int) :
    SkAt K (upd H x (.ins (He.ga K "Seeker") dx (skF A.r t p rt g'))) A x t dx tr p rt g' ∧ Off2 K x t H (upd H x (.ins (He.ga K "Seeker") dx (skF A.r t p rt g'))) :=
  ⟨⟨upd_same, by rw [upd_ne (ne_of sk.trail sk.ob fun z => nomatch z)]; exact sk.trail, sk.rx, sk.rt⟩, fun b o h1 _ h3 _ => by rw [upd_ne h3]; exact h1, tabs_upd ht sk.ob rfl⟩
theorem SkAt.more {H : Hp} {A : RA} {x t dx : Addr} {tr : List Int} {p rt : Int} {g : Option Int} (sk : SkAt K H A x t dx tr p rt g) (ht : Tabs (tabT K) H) (n : Int) :
    SkAt K (upd H t (.lst (tr.map V.int ++ [.int n]))) A x t dx (tr ++ [n]) p rt g ∧ Off2 K x t H (upd H t (.lst (tr.map V.int ++ [.int n]))) :=
  ⟨⟨by rw [upd_ne (ne_of sk.ob sk.trail fun z => nomatch z)]; exact sk.ob, by rw [upd_same, List.map_append]; rfl, sk.rx, sk.rt⟩, fun b o h1 _ _ h4 => by rw [upd_ne h4]; exact h1, tabs_upd ht sk.trail rfl⟩
theorem atI_last {tr : List Int} (h : tr ≠ []) : atI (tr.map V.int) (-1) = some (V.int (lastI tr)) := by
  obtain ⟨ys, y, rfl⟩ : ∃ ys y, tr = ys ++ [y] := ⟨_, _, (List.dropLast_concat_getLast h).symm⟩
  have e1 : (ys ++ [y]).map V.int = ys.map V.int ++ [V.int y] := by rw [List.map_append]; rfl
  have e2 : lastI (ys ++ [y]) = y := by unfold lastI; simp
  rw [e1, e2]
  unfold atI
  have e3 : ixN (ys.map V.int ++ [V.int y]).length (-1) = some ys.length := by
    unfold ixN
    simp
    refine ⟨?_, ?_⟩ <;> omega
  rw [e3]
  simp
def spSkAt (K : PySem.W.Frag) : Sp := fun vs H Q _ => ∃ A x t dx tr p rt g, vs = [.ref x] ∧ SkAt K H A x t dx tr p rt g ∧ tr ≠ [] ∧ Q (.int (lastI tr)) H
theorem sc_Seeker_at : FnScope ["self"] ["self"] (defScope s_Seeker_at) := ⟨rfl, rfl, rfl, by decide +kernel, rfl, by decide +kernel, by decide +kernel⟩
theorem ok_Seeker_at (S : Say K mg base) : FnOk P w K mg base CX0 1 (He.ma K (He.ga K "Seeker") "at") (fdO K ("Seeker", some "at")) ["self"] (spSkAt K) := by
  refine (S.F_Seeker_at).ok sc_Seeker_at (fun vs H Q E h => ?_) (fun cdv A outer s H vs Q E hr h => ?_)
  · obtain ⟨A, x, t, dx, tr, p, rt, g, rfl, sk, hne, k⟩ := h
    rfl
  obtain ⟨A, x, t, dx, tr, p, rt, g, rfl, sk, hne, k⟩ := h
  have hu := hu_of hr
  refine ⟨_, PSs.nox (pss_one (ps_ret (pe_ix ix_list (pe_fld (pv 0) rfl) (pe_un un_neg pe_int) (fun _ _ => rfl)))), ?_⟩
  exact ⟨_, rfl, x, _, dx, _, _, rfl, sk.ob, S.c_Seeker, S.n_Seeker_trail, rfl, _, rfl, t, _, -1, _, rfl, rfl, .inl (.inl sk.trail), atI_last hne, k⟩
def spSkWay (K : PySem.W.Frag) : Sp := fun vs H Q _ => ∃ A x t dx tr p rt g, vs = [.ref x] ∧ SkAt K H A x t dx tr p rt g ∧ ∀ q, H q = none → Q (.ref q) (upd H q (.lst (tr.map V.int)))
theorem sc_Seeker_way : FnScope ["self"] ["self"] (defScope s_Seeker_way) := ⟨rfl, rfl, rfl, by decide +kernel, rfl, by decide +kernel, by decide +kernel⟩
theorem ok_Seeker_way (S : Say K mg base) : FnOk P w K mg base CX0 1 (He.ma K (He.ga K "Seeker") "way") (fdO K ("Seeker", some "way")) ["self"] (spSkWay K) := by
  refine (S.F_Seeker_way).ok sc_Seeker_way (fun vs H Q E h => ?_) (fun cdv A outer s H vs Q E hr h => ?_)
  · obtain ⟨A, x, t, dx, tr, p, rt, g, rfl, sk, k⟩ := h
    rfl
  obtain ⟨A, x, t, dx, tr, p, rt, g, rfl, sk, k⟩ := h
  have hu := hu_of hr
  refine ⟨_, PSs.nox (pss_one (ps_ret (pe_callTy call_list_of (by rfl) S.z_list (by decide +kernel) (pa_cons (pe_fld (pv 0) rfl) pa_nil)))), ?_⟩
  exact ⟨_, rfl, x, _, dx, _, _, rfl, sk.ob, S.c_Seeker, S.n_Seeker_trail, rfl, t, _, rfl, .inl (.inl (.inl sk.trail)), fun q hq => k q hq⟩
def spSkAns (K : PySem.W.Frag) : Sp := fun vs H Q _ => ∃ A x t dx tr p rt g, vs = [.ref x] ∧ SkAt K H A x t dx tr p rt g ∧ Q (oV g) H
theorem sc_Seeker_answer : FnScope ["self"] ["self"] (defScope s_Seeker_answer) := ⟨rfl, rfl, rfl, by decide +kernel, rfl, by decide +kernel, by decide +kernel⟩
theorem ok_Seeker_answer (S : Say K mg base) : FnOk P w K mg base CX0 1 (He.ma K (He.ga K "Seeker") "answer") (fdO K ("Seeker", some "answer")) ["self"] (spSkAns K) := by
  refine (S.F_Seeker_answer).ok sc_Seeker_answer (fun vs H Q E h => ?_) (fun cdv A outer s H vs Q E hr h => ?_)
  · obtain ⟨A, x, t, dx, tr, p, rt, g, rfl, sk, k⟩ := h
    rfl
  obtain ⟨A, x, t, dx, tr, p, rt, g, rfl, sk, k⟩ := h
  have hu := hu_of hr
  refine ⟨_, PSs.nox (pss_one (ps_ret (pe_fld (pv 0) rfl))), ?_⟩
  exact ⟨_, rfl, x, _, dx, _, _, rfl, sk.ob, S.c_Seeker, S.n_Seeker_goal, rfl, k⟩
def spSkUp (K : PySem.W.Frag) : Sp := fun vs H Q _ => ∃ A R x t dx tr p rt, vs = [.ref x, .int (lastI tr), .int (nxtI R (lastI tr))] ∧ At K H A R ∧ SkAt K H A x t dx tr p rt none ∧ lastI tr ∈ R.names ∧ tr.length ≤ 900 ∧ (0 ≤ p ∧ p < 2 ^ R.bits) ∧ lastI tr ≠ p ∧
  ∀ H', Off2 K x t H H' → SkAt K H' A x t dx (stepM R p tr).1 p rt (stepM R p tr).2 → Q .non H'
theorem sc_Seeker_go_upwards : FnScope ["self", "here", "after"] ["self", "here", "after"] (defScope s_Seeker_go_upwards) := ⟨rfl, rfl, rfl, by decide +kernel, rfl, by decide +kernel, by decide +kernel⟩
theorem ok_Seeker_go_upwards (S : Say K mg base) : FnOk P w K mg base CX0 10 (He.ma K (He.ga K "Seeker") "go_upwards") (fdO K ("Seeker", some "go_upwards")) ["self", "here", "after"] (spSkUp K) := by
  refine (S.F_Seeker_go_upwards).ok sc_Seeker_go_upwards (fun vs H Q E h => ?_) (fun cdv A outer s H vs Q E hr h => ?_)
  · obtain ⟨A, R, x, t, dx, tr, p, rt, rfl, h, sk, hh, hz, hp, hne, k⟩ := h
    rfl
  obtain ⟨A, R, x, t, dx, tr, p, rt, rfl, h, sk, hh, hz, hp, hne, k⟩ := h
  have hu := hu_of hr
  refine ⟨_, PSs.nox (pss_one (ps_if (PW.pt (pw_or (pt_cmpR op_eq (pe_fld (pv 0) rfl) (pv 2) (nomark _)) (pw_or1 (pt_val (pe_meth (pe_meth0 (pe_fld (pv 0) rfl) S.c_Ring S.m_Ring_space (ok_Ring_space S) (hr.mono (by decide)) S.b_Ring_space .nil pass0) S.c_Space S.m_Space_is_between (ok_Space_is_between S) (hr.mono (by decide)) S.b_Space_is_between .nil pass0 (pa_cons (pe_fld (pv 0) rfl) (pa_cons (pv 1) (pa_cons (pv 2) pa_nil)))))))) (pss_one (ps_fld (pv 0) (pv 2) rfl)) (pss_one (ps_expr (pe_bm PySem.F.plainAttrs_list PySem.F.slot_list_append PySem.F.type_list_append mt_append (pe_fld (pv 0) rfl) (pa_cons (pe_call (ok_farthest S) (hr.mono (by decide)) rfl S.g_farthest (S.F_farthest).kp S.b_farthest .nil pass0 (pa_cons (pe_fld (pv 0) rfl) (pa_cons (pv 1) (pa_cons (pe_fld (pv 0) rfl) pa_nil)))) pa_nil)))))), ?_⟩
  obtain ⟨_, dxs, hsp⟩ := id h.ring.space
  unfold stepM at k
  rw [if_neg hne] at k
  refine ⟨_, rfl, x, _, dx, _, _, rfl, sk.ob, S.c_Seeker, S.n_Seeker_sought, rfl, _, rfl, rfl, _, rfl, ?_⟩
  have eq1 : decide (V.int p = V.int (nxtI R (lastI tr))) = decide (p = nxtI R (lastI tr)) := by simp
  rw [eq1]
  have goal : (p = nxtI R (lastI tr) ∨ btw R.bits p (lastI tr) (nxtI R (lastI tr)) = true) → sFld K (tVar 0) (tVar 2) "goal" { nx := fun x H' => Q V.non H', rt := Q } (L2.start ["self", "here", "after"] [V.ref x, V.int (lastI tr), V.int (nxtI R (lastI tr))]) H := by
    intro c
    rw [if_pos c] at k
    have z := sk.goal h.tabs (some (nxtI R (lastI tr)))
    exact ⟨_, rfl, _, rfl, x, _, dx, _, rfl, sk.ob, S.c_Seeker, S.n_Seeker_goal, (by show 5 < 1000; decide), k _ z.2 z.1⟩
  by_cases c1 : p = nxtI R (lastI tr)
  · rw [decide_eq_true c1]
    exact iteT (iteT (goal (.inl c1)))
  · rw [decide_eq_false c1]
    refine iteF ⟨_, rfl, x, _, dx, _, _, rfl, sk.ob, S.c_Seeker, S.n_Seeker_around, rfl, A.r, A.dx, _, rfl, h.ring.ob, rfl, A, R, rfl, h.ring, A.sp, dxs, _, rfl, hsp, rfl, _, rfl, x, _, dx, _, _, rfl, sk.ob, S.c_Seeker, S.n_Seeker_sought, rfl, _, rfl, _, rfl, A.sp, R.bits, p, _, _, rfl, h.ring.space, _, rfl, ?_⟩
    by_cases c2 : btw R.bits p (lastI tr) (nxtI R (lastI tr)) = true
    · rw [c2]
      exact iteT (goal (.inr c2))
    · have c2' : btw R.bits p (lastI tr) (nxtI R (lastI tr)) = false := by cases q : btw R.bits p (lastI tr) (nxtI R (lastI tr)) with
        | false => rfl
        | true => exact absurd q c2
      rw [c2']
      have c3 : ¬ (p = nxtI R (lastI tr) ∨ btw R.bits p (lastI tr) (nxtI R (lastI tr)) = true) := fun e => e.elim c1 c2
      rw [if_neg c3] at k
      have hb := step_ok h.ok hh hp hne c3
      refine iteF ⟨_, rfl, x, _, dx, _, _, rfl, sk.ob, S.c_Seeker, S.n_Seeker_trail, rfl, .inl ⟨rfl, _, .inl (.inl sk.trail)⟩, _, rfl, x, _, dx, _, _, rfl, sk.ob, S.c_Seeker, S.n_Seeker_around, rfl, _, rfl, _, rfl, x, _, dx, _, _, rfl, sk.ob, S.c_Seeker, S.n_Seeker_sought, rfl, A, R, lastI tr, p, rfl, h, hh, hb, fun H1 f1 => ?_⟩
      have sk1 := sk.fin f1
      have z := sk1.more f1.2 (farM R (lastI tr) p)
      exact ⟨t, _, _, rfl, rfl, sk1.trail, szL (by rw [List.length_map]; omega), k _ ((Off2.fin f1).trans z.2) z.1⟩
def spSkOn (K : PySem.W.Frag) : Sp := fun vs H Q _ => ∃ A R x t dx tr p rt, vs = [.ref x] ∧ At K H A R ∧ SkAt K H A x t dx tr p rt none ∧ tr ≠ [] ∧ lastI tr ∈ R.names ∧ tr.length ≤ 900 ∧ (0 ≤ p ∧ p < 2 ^ R.bits) ∧
  ∀ H', Off2 K x t H H' → SkAt K H' A x t dx (stepM R p tr).1 p rt (stepM R p tr).2 → Q .non H'
theorem sc_Seeker_go_back : FnScope ["self", "left", "name"] ["self"] (defScope s_Seeker_go_back) := ⟨rfl, rfl, rfl, by decide +kernel, rfl, by decide +kernel, by decide +kernel⟩
theorem ok_Seeker_go_back (S : Say K mg base) : FnOk P w K mg base CX0 7 (He.ma K (He.ga K "Seeker") "go_back") (fdO K ("Seeker", some "go_back")) ["self"] (fun _ _ _ _ => False) :=
  (S.F_Seeker_go_back).ok sc_Seeker_go_back (fun vs H Q E h => h.elim) (fun cdv A outer s H vs Q E hr h => h.elim)
theorem sc_Seeker_go_on : FnScope ["self", "here"] ["self"] (defScope s_Seeker_go_on) := ⟨rfl, rfl, rfl, by decide +kernel, rfl, by decide +kernel, by decide +kernel⟩
theorem ok_Seeker_go_on (S : Say K mg base) : FnOk P w K mg base CX0 11 (He.ma K (He.ga K "Seeker") "go_on") (fdO K ("Seeker", some "go_on")) ["self"] (spSkOn K) := by
  refine (S.F_Seeker_go_on).ok sc_Seeker_go_on (fun vs H Q E h => ?_) (fun cdv A outer s H vs Q E hr h => ?_)
  · obtain ⟨A, R, x, t, dx, tr, p, rt, rfl, h, sk, ht, hh, hz, hp, k⟩ := h
    rfl
  obtain ⟨A, R, x, t, dx, tr, p, rt, rfl, h, sk, ht, hh, hz, hp, k⟩ := h
  have hu := hu_of hr
  refine ⟨_, PSs.nox (pss_cons (ps_set (i := 1) sc_Seeker_go_on.nd rfl (Or.inl rfl) (pe_meth0 (pv 0) S.c_Seeker S.m_Seeker_at (ok_Seeker_at S) (hr.mono (by decide)) S.b_Seeker_at .nil pass0))
        (pss_one (ps_if (pt_not (pt_val (pe_meth (pe_fld (pv 0) rfl) S.c_Ring S.m_Ring_is_member (ok_Ring_is_member S) (hr.mono (by decide)) S.b_Ring_is_member .nil pass0 (pa_cons (pv 1) pa_nil)))) (pss_one (ps_expr (pe_meth0 (pv 0) S.c_Seeker S.m_Seeker_go_back (ok_Seeker_go_back S) (hr.mono (by decide)) S.b_Seeker_go_back .nil pass0))) (pss_one (ps_if (pt_cmpR op_eq (pv 1) (pe_fld (pv 0) rfl) (nomark _)) (pss_one (ps_fld (pv 0) (pv 1) rfl)) (pss_one (ps_expr (pe_meth (pv 0) S.c_Seeker S.m_Seeker_go_upwards (ok_Seeker_go_upwards S) (hr.mono (by decide)) S.b_Seeker_go_upwards .nil pass0 (pa_cons (pv 1) (pa_cons (pe_meth (pe_fld (pv 0) rfl) S.c_Ring S.m_Ring_next_of (ok_Ring_next_of S) (hr.mono (by decide)) S.b_Ring_next_of .nil pass0 (pa_cons (pv 1) pa_nil)) pa_nil)))))))))), ?_⟩
  refine ⟨_, rfl, x, dx, _, rfl, sk.ob, rfl, A, x, t, dx, tr, p, rt, none, rfl, sk, ht, ?_⟩
  refine ⟨_, rfl, x, _, dx, _, _, rfl, sk.ob, S.c_Seeker, S.n_Seeker_around, rfl, A.r, A.dx, _, rfl, h.ring.ob, rfl, _, rfl, A, R, _, rfl, h.ring, h.ok, .int _, ?_⟩
  have e : memV R (.int (lastI tr)) = true := decide_eq_true hh
  rw [e]
  refine ⟨_, rfl, iteF ⟨_, rfl, _, rfl, x, _, dx, _, _, rfl, sk.ob, S.c_Seeker, S.n_Seeker_sought, rfl, rfl, _, rfl, ?_⟩⟩
  have eq1 : decide (V.int (lastI tr) = V.int p) = decide (lastI tr = p) := by simp
  rw [eq1]
  by_cases c : lastI tr = p
  · rw [decide_eq_true c]
    unfold stepM at k
    rw [if_pos c] at k
    have z := sk.goal h.tabs (some (lastI tr))
    exact iteT ⟨_, rfl, _, rfl, x, _, dx, _, rfl, sk.ob, S.c_Seeker, S.n_Seeker_goal, (by show 5 < 1000; decide), k _ z.2 z.1⟩
  · rw [decide_eq_false c]
    refine iteF ⟨_, rfl, x, dx, _, rfl, sk.ob, rfl, _, rfl, _, rfl, x, _, dx, _, _, rfl, sk.ob, S.c_Seeker, S.n_Seeker_around, rfl, A.r, A.dx, _, rfl, h.ring.ob, rfl, _, rfl, A, R, _, rfl, h, hh, fun H1 f1 => ?_⟩
    rw [(nxt_some h.ok hh).1]
    exact ⟨A, R, x, t, dx, tr, p, rt, rfl, h.fin f1, sk.fin f1, hh, hz, hp, c, fun H2 o2 s2 => k H2 ((Off2.fin f1).trans o2) s2⟩
def spSkStep (K : PySem.W.Frag) : Sp := fun vs H Q _ => ∃ A R x t dx tr p rt, vs = [.ref x] ∧ At K H A R ∧ SkAt K H A x t dx tr p rt none ∧ tr ≠ [] ∧ lastI tr ∈ R.names ∧ tr.length ≤ 900 ∧ (0 ≤ p ∧ p < 2 ^ R.bits) ∧
  ∀ H', Off2 K x t H H' → SkAt K H' A x t dx (stepM R p tr).1 p rt (stepM R p tr).2 → Q (.bl (stepM R p tr).2.isSome) H'
theorem sc_Seeker_step : FnScope ["self"] ["self"] (defScope s_Seeker_step) := ⟨rfl, rfl, rfl, by decide +kernel, rfl, by decide +kernel, by decide +kernel⟩
theorem ok_Seeker_step (S : Say K mg base) : FnOk P w K mg base CX0 12 (He.ma K (He.ga K "Seeker") "step") (fdO K ("Seeker", some "step")) ["self"] (spSkStep K) := by
  refine (S.F_Seeker_step).ok sc_Seeker_step (fun vs H Q E h => ?_) (fun cdv A outer s H vs Q E hr h => ?_)
  · obtain ⟨A, R, x, t, dx, tr, p, rt, rfl, h, sk, ht, hh, hz, hp, k⟩ := h
    rfl
  obtain ⟨A, R, x, t, dx, tr, p, rt, rfl, h, sk, ht, hh, hz, hp, k⟩ := h
  have hu := hu_of hr
  refine ⟨_, PSs.nox (pss_cons (ps_if (pt_cmpR op_isN (pe_fld (pv 0) rfl) pe_non (nomark _)) (pss_one (ps_expr (pe_meth0 (pv 0) S.c_Seeker S.m_Seeker_go_on (ok_Seeker_go_on S) (hr.mono (by decide)) S.b_Seeker_go_on .nil pass0))) pss_nil)
        (pss_one (ps_ret (pe_cmpR op_notN (pe_fld (pv 0) rfl) pe_non (nomark _))))), ?_⟩
  refine ⟨_, rfl, x, _, dx, _, _, rfl, sk.ob, S.c_Seeker, S.n_Seeker_goal, rfl, rfl, _, rfl, ?_⟩
  have e0 : decide (oV none = V.non) = true := rfl
  rw [e0]
  refine iteT ⟨_, rfl, x, dx, _, rfl, sk.ob, rfl, A, R, x, t, dx, tr, p, rt, rfl, h, sk, ht, hh, hz, hp, fun H1 o1 s1 => ?_⟩
  refine ⟨_, rfl, x, _, dx, _, _, rfl, s1.ob, S.c_Seeker, S.n_Seeker_goal, rfl, rfl, ?_⟩
  have z := k H1 o1 s1
  cases e : (stepM R p tr).2 with
  | none => rw [e] at z; exact z
  | some g => rw [e] at z; exact z
end
end Nn
set_option Elab.async false
set_option linter.all false
set_option maxRecDepth 100000
set_option maxHeartbeats 1000000
namespace Nn
open PySem PySem.Spec PyProof.Rows L2 LamX KeyL
theorem flatO (os : List (Option Int)) : (os.map oV).all flatV = true := by
  induction os with
  | nil => rfl
  | cons o r ih =>
    rw [List.map_cons, List.all_cons, ih]
    cases o <;> rfl
theorem ixO {os : List (Option Int)} {n : Int} (h : some n ∈ os) : (os.map oV)[os.idxOf (some n)]? = some (.int n) ∧ ∀ (m : Nat) (z : V), m < os.idxOf (some n) → (os.map oV)[m]? = some z → L2.eqV z (.int n) = false := by
  have hi : os.idxOf (some n) < os.length := List.idxOf_lt_length_of_mem h
  refine ⟨?_, fun m z hm hz => ?_⟩
  · rw [List.getElem?_map, List.getElem?_eq_getElem hi, List.getElem_idxOf hi]
    rfl
  · obtain ⟨o, ho, rfl⟩ := getO hz
    have hml : m < os.length := (List.getElem?_eq_some_iff.mp ho).1
    have ne : o ≠ some n := fun q => by
      have z := List.not_of_lt_findIdx (p := (· == some n)) (xs := os) (i := m) hm
      rw [List.getElem?_eq_getElem hml] at ho
      rw [Option.some.inj ho, q] at z
      simp at z
    cases o with
    | none => rfl
    | some k =>
      have hk : k ≠ n := fun e => ne (by rw [e])
      show L2.eqV (.int k) (.int n) = false
      simp [L2.eqV, hk]
theorem mapSome (ns : List Int) : ns.map V.int = (ns.map some).map oV := by rw [List.map_map]; rfl
theorem idxSome (ns : List Int) (n : Int) : (ns.map some).idxOf (some n) = ns.idxOf n := by
  induction ns with
  | nil => rfl
  | cons m r ih =>
    rw [List.map_cons, List.idxOf_cons, List.idxOf_cons, ih]
    by_cases h : m = n
    · simp [h]
    · simp [h]
def wayV (R : RingS) (a b : Int) : List V := if b ∈ (R.node a).chain then [.str "list", .int ((R.node a).chain.idxOf b : Nat)] else [.str "finger", .int ((R.node a).far.idxOf (some b) : Nat)]
section
variable {P : Program} {w : World} {K : PySem.W.Frag} {mg : Str → Option Value} {base : Heap}
def spKnown (K : PySem.W.Frag) : Sp := fun vs H Q _ => ∃ A R a b, vs = [.ref A.r, .int a, .int b] ∧ At K H A R ∧ a ∈ R.names ∧ b ∈ knownM R a ∧ ∀ u H', NotOld H u → H' u = some (.tup (wayV R a b)) → Fin K H H' → Q (.ref u) H'
theorem sc_known_by : FnScope ["ring", "here", "name", "links"] ["ring", "here", "name"] (defScope s_known_by) := ⟨rfl, rfl, rfl, by decide +kernel, rfl, by decide +kernel, by decide +kernel⟩
theorem ok_known_by (S : Say K mg base) : FnOk P w K mg base CX0 6 (He.ga K "known_by") (fdO K ("known_by", none)) ["ring", "here", "name"] (spKnown K) := by
  refine (S.F_known_by).ok sc_known_by (fun vs H Q E h => ?_) (fun cdv A outer s H vs Q E hr h => ?_)
  · obtain ⟨A, R, a, b, rfl, h, ha, hb, k⟩ := h
    rfl
  obtain ⟨A, R, a, b, rfl, h, ha, hb, k⟩ := h
  have hu := hu_of hr
  refine ⟨_, PSs.nox (pss_cons (ps_set (i := 3) sc_known_by.nd rfl (Or.inl rfl) (pe_meth (pv 0) S.c_Ring S.m_Ring_links (ok_Ring_links S) (hr.mono (by decide)) S.b_Ring_links .nil pass0 (pa_cons (pv 1) pa_nil)))
        (pss_cons (ps_if (pt_cmpR op_in_seq (pv 2) (pv 3) rfl) (pss_one (ps_ret (pe_tup (pa_cons pe_str (pa_cons (pe_bm PySem.F.plainAttrs_list PySem.F.slot_list_index PySem.F.type_list_index mt_index (pv 3) (pa_cons (pv 2) pa_nil)) pa_nil))))) pss_nil)
        (pss_one (ps_ret (pe_tup (pa_cons pe_str (pa_cons (pe_bm PySem.F.plainAttrs_list PySem.F.slot_list_index PySem.F.type_list_index mt_index (pe_meth (pv 0) S.c_Ring S.m_Ring_fingers (ok_Ring_fingers S) (hr.mono (by decide)) S.b_Ring_fingers .nil pass0 (pa_cons (pv 1) pa_nil)) (pa_cons (pv 2) pa_nil)) pa_nil))))))), ?_⟩
  refine ⟨_, rfl, A.r, A.dx, _, rfl, h.ring.ob, rfl, _, rfl, A, R, a, rfl, h, ha, fun q H1 n1 hq f1 => ?_⟩
  have h1 := h.fin f1
  refine ⟨_, rfl, _, rfl, q, _, rfl, .inl (.inl (.inl hq)), rfl, flatI _, _, rfl, ?_⟩
  rw [if_neg (by decide), inI]
  by_cases c : b ∈ (R.node a).chain
  · rw [decide_eq_true c]
    have ew : wayV R a b = [.str "list", .int ((R.node a).chain.idxOf b : Nat)] := if_pos c
    obtain ⟨i1, i2⟩ := ixO (os := (R.node a).chain.map some) (n := b) (List.mem_map.mpr ⟨b, c, rfl⟩)
    rw [← mapSome, idxSome] at i1 i2
    refine iteT ⟨_, rfl, .inl ⟨rfl, _, .inl (.inl hq)⟩, _, rfl, q, _, _, (R.node a).chain.idxOf b, _, rfl, rfl, .inl (.inl hq), rfl, flatI _, i1, ?_, i2, (by show 2 ≤ sizeLine; decide), fun u hu => ?_⟩
    · simp [L2.eqV]
    · rw [ew] at k
      exact k u _ ((notOld_of hu).back f1) upd_same (f1.new hu)
  · rw [decide_eq_false c]
    have ew : wayV R a b = [.str "finger", .int ((R.node a).far.idxOf (some b) : Nat)] := if_neg c
    have hf : some b ∈ (R.node a).far := (knownM_mem hb).2.resolve_left c
    obtain ⟨i1, i2⟩ := ixO hf
    refine iteF ⟨_, rfl, A.r, A.dx, _, rfl, h1.ring.ob, rfl, _, rfl, A, R, a, rfl, h1, ha, fun q2 H2 n2 hq2 f2 => ?_⟩
    refine ⟨.inl ⟨rfl, _, .inl (.inl hq2)⟩, _, rfl, q2, _, _, (R.node a).far.idxOf (some b), _, rfl, rfl, .inl (.inl hq2), rfl, flatO _, i1, ?_, i2, (by show 2 ≤ sizeLine; decide), fun u hu => ?_⟩
    · simp [L2.eqV]
    · rw [ew] at k
      exact k u _ ((notOld_of hu).back (f1.trans f2)) upd_same ((f1.trans f2).new hu)
def spSkI (K : PySem.W.Frag) : Sp := fun vs H Q _ => ∃ A R x dx p via, vs = [.ref x, .ref A.r, .int p, .int via] ∧ At K H A R ∧ H x = some (.ins (He.ga K "Seeker") dx []) ∧ via ∈ R.names ∧ (0 ≤ p ∧ p < 2 ^ R.bits) ∧ ∀ t, H t = none → Q .non (upd (upd H t (.lst [.int via])) x (.ins (He.ga K "Seeker") dx (skF A.r t p 0 none)))
theorem sc_Seeker_init : FnScope ["self", "ring", "point", "via"] ["self", "ring", "point", "via"] (defScope s_Seeker_init) := ⟨rfl, rfl, rfl, by decide +kernel, rfl, by decide +kernel, by decide +kernel⟩
theorem ok_Seeker_init (S : Say K mg base) : FnOk P w K mg base CX0 5 (He.ma K (He.ga K "Seeker") "__init__") (fdO K ("Seeker", some "__init__")) ["self", "ring", "point", "via"] (spSkI K) := by
  refine (S.F_Seeker_init).ok sc_Seeker_init (fun vs H Q E h => ?_) (fun cdv A outer s H vs Q E hr h => ?_)
  · obtain ⟨A, R, x, dx, p, via, rfl, h, hx, hv, hp, k⟩ := h
    rfl
  obtain ⟨A, R, x, dx, p, via, rfl, h, hx, hv, hp, k⟩ := h
  have hu := hu_of hr
  refine ⟨_, PSs.nox (pss_cons (ps_expr (pe_meth (pv 1) S.c_Ring S.m_Ring_want_point (ok_Ring_want_point S) (hr.mono (by decide)) S.b_Ring_want_point .nil pass0 (pa_cons (pv 2) pa_nil)))
        (pss_cons (ps_expr (pe_meth (pv 1) S.c_Ring S.m_Ring_node (ok_Ring_node S) (hr.mono (by decide)) S.b_Ring_node .nil pass0 (pa_cons (pv 3) pa_nil)))
        (pss_cons (ps_fld (pv 0) (pv 1) rfl)
        (pss_cons (ps_fld (pv 0) (pv 2) rfl)
        (pss_cons (ps_fld (pv 0) (pe_lst (pa_cons (pv 3) pa_nil)) rfl)
        (pss_cons (ps_fld (pv 0) pe_int rfl)
        (pss_one (ps_fld (pv 0) pe_non rfl)))))))), ?_⟩
  refine ⟨_, rfl, A.r, A.dx, _, rfl, h.ring.ob, rfl, _, rfl, A, R, p, rfl, h.ring, hp, ?_⟩
  refine ⟨_, rfl, A.r, A.dx, _, rfl, h.ring.ob, rfl, _, rfl, A, R, via, rfl, h.ring, h.ok, hv, ?_⟩
  refine ⟨_, rfl, _, rfl, x, _, dx, _, rfl, hx, S.c_Seeker, S.n_Seeker_around, by decide, _, rfl, _, rfl, x, _, dx, _, rfl, upd_same, S.c_Seeker, S.n_Seeker_sought, (by show 1 < 1000; decide), ?_⟩
  rw [upd_upd]
  refine ⟨_, rfl, (by show 1 ≤ sizeLine; decide), fun t ht => ?_⟩
  have htx : t ≠ x := fun e => by rw [e, upd_same] at ht; cases ht
  refine ⟨_, rfl, x, _, dx, _, rfl, by rw [upd_ne (Ne.symm htx)]; exact upd_same, S.c_Seeker, S.n_Seeker_trail, (by show 2 < 1000; decide), _, rfl, x, _, dx, _, rfl, upd_same, S.c_Seeker, S.n_Seeker_returns, (by show 3 < 1000; decide), ?_⟩
  rw [upd_upd]
  refine ⟨_, rfl, x, _, dx, _, rfl, upd_same, S.c_Seeker, S.n_Seeker_goal, (by show 4 < 1000; decide), ?_⟩
  rw [upd_upd]
  rw [upd_ne htx] at ht
  have z := k t ht
  have e : ∀ u v y, upd (upd (upd H x u) t v) x y = upd (upd H t v) x y := fun u v y => by
    funext b
    by_cases h1 : b = x
    · rw [h1, upd_same, upd_same]
    · rw [upd_ne h1, upd_ne h1]
      by_cases h2 : b = t
      · rw [h2, upd_same, upd_same]
      · rw [upd_ne h2, upd_ne h2, upd_ne h1]
  show Q .non _
  rw [e]
  exact z
end
end Nn
set_option Elab.async false
set_option linter.all false
set_option maxRecDepth 100000
set_option maxHeartbeats 1000000
namespace Nn
open PySem PySem.Spec PyProof.Rows L2 LamX KeyL
/-! ### a lookup -/
def lookF (R : RingS) (p : Int) : Nat → List Int → List Int × Int
  | 0, tr => (tr, 0)
  | k + 1, tr => match (stepM R p tr).2 with
    | some g => ((stepM R p tr).1, g)
    | none => lookF R p k (stepM R p tr).1
def lookM (R : RingS) (p via : Int) : List Int × Int := lookF R p 199 [via]
/-- the answer alone -/
def ansM (R : RingS) (p via : Int) : Int := (lookM R p via).2
theorem lookF_some {R : RingS} {p : Int} {k : Nat} {tr : List Int} {g : Int} (h : (stepM R p tr).2 = some g) : lookF R p (k + 1) tr = ((stepM R p tr).1, g) := by
  show (match (stepM R p tr).2 with | some g => ((stepM R p tr).1, g) | none => lookF R p k (stepM R p tr).1) = _
  rw [h]
theorem lookF_none {R : RingS} {p : Int} {k : Nat} {tr : List Int} (h : (stepM R p tr).2 = none) : lookF R p (k + 1) tr = lookF R p k (stepM R p tr).1 := by
  show (match (stepM R p tr).2 with | some g => ((stepM R p tr).1, g) | none => lookF R p k (stepM R p tr).1) = _
  rw [h]
theorem stepM_cases {R : RingS} (h : Ok R) {p : Int} (hp : 0 ≤ p ∧ p < 2 ^ R.bits) {tr : List Int} (hh : lastI tr ∈ R.names) :
    (∃ g, stepM R p tr = (tr, some g) ∧ g ∈ R.names) ∨ (∃ n, stepM R p tr = (tr ++ [n], none) ∧ n ∈ R.names ∧ n ∈ knownM R (lastI tr) ∧ dist R.bits n p < dist R.bits (lastI tr) p) := by
  unfold stepM
  by_cases c : lastI tr = p
  · rw [if_pos c]
    exact .inl ⟨_, rfl, hh⟩
  · rw [if_neg c]
    by_cases c2 : p = nxtI R (lastI tr) ∨ btw R.bits p (lastI tr) (nxtI R (lastI tr)) = true
    · rw [if_pos c2]
      exact .inl ⟨_, rfl, (nxt_some h hh).2.1⟩
    · rw [if_neg c2]
      obtain ⟨k1, k2, k3, _⟩ := far_ok (step_ok h hh hp c c2) c
      exact .inr ⟨_, rfl, k2, k1, k3⟩
theorem nodup_len {α : Type} [DecidableEq α] : ∀ (l D : List α), l.Nodup → (∀ x ∈ l, x ∈ D) → l.length ≤ D.length
  | [], _, _, _ => Nat.zero_le _
  | x :: l, D, hn, hs => by
    obtain ⟨h1, h2⟩ := List.nodup_cons.mp hn
    have hx := hs x (List.mem_cons_self ..)
    have z := nodup_len l (D.erase x) h2 fun y hy => (List.mem_erase_of_ne (fun e => h1 (by rw [← e]; exact hy))).mpr (hs y (List.mem_cons_of_mem _ hy))
    have e := List.length_erase_of_mem hx
    have : 0 < D.length := List.length_pos_of_mem hx
    rw [List.length_cons]
    omega
/-- a way so far: of members, unlike, nearer and nearer, each known to the one ahead -/
structure Way (R : RingS) (p : Int) (tr : List Int) : Prop where
  ne : tr ≠ []
  mem : ∀ a ∈ tr, a ∈ R.names
  near : ∀ a ∈ tr, dist R.bits (lastI tr) p ≤ dist R.bits a p
  nodup : tr.Nodup
  known : ∀ i a b, tr[i]? = some a → tr[i + 1]? = some b → b ∈ knownM R a
theorem lastI_snoc (tr : List Int) (n : Int) : lastI (tr ++ [n]) = n := by unfold lastI; simp
theorem lastI_mem {tr : List Int} (h : tr ≠ []) : lastI tr ∈ tr := by
  obtain ⟨ys, y, rfl⟩ : ∃ ys y, tr = ys ++ [y] := ⟨_, _, (List.dropLast_concat_getLast h).symm⟩
  rw [lastI_snoc]
  exact List.mem_append_right _ (List.mem_singleton.mpr rfl)
theorem Way.one {R : RingS} {p via : Int} (h : via ∈ R.names) : Way R p [via] :=
  ⟨by simp, fun a ha => by rw [List.mem_singleton.mp ha]; exact h, fun a ha => by rw [List.mem_singleton.mp ha]; exact Int.le_refl _, List.pairwise_singleton _ _, fun i a b _ h2 => by
    cases i <;> simp at h2⟩
theorem Way.snoc {R : RingS} {p n : Int} {tr : List Int} (w : Way R p tr) (h1 : n ∈ R.names) (h2 : n ∈ knownM R (lastI tr)) (h3 : dist R.bits n p < dist R.bits (lastI tr) p) : Way R p (tr ++ [n]) := by
  refine ⟨by simp, fun a ha => ?_, fun a ha => ?_, ?_, fun i a b e1 e2 => ?_⟩
  · rcases List.mem_append.mp ha with z | z
    · exact w.mem a z
    · rw [List.mem_singleton.mp z]; exact h1
  · rw [lastI_snoc]
    rcases List.mem_append.mp ha with z | z
    · have := w.near a z; omega
    · rw [List.mem_singleton.mp z]; exact Int.le_refl _
  · refine List.nodup_append.mpr ⟨w.nodup, List.pairwise_singleton _ _, fun a ha b hb e => ?_⟩
    rw [List.mem_singleton.mp hb] at e
    have := w.near a ha
    rw [e] at this
    omega
  · by_cases c : i + 1 < tr.length
    · rw [List.getElem?_append_left c] at e2
      rw [List.getElem?_append_left (by omega)] at e1
      exact w.known i a b e1 e2
    · have hi : i + 1 = tr.length := by
        have z := (List.getElem?_eq_some_iff.mp e2).1
        rw [List.length_append, List.length_singleton] at z
        omega
      rw [List.getElem?_append_right (by omega), hi, Nat.sub_self] at e2
      have eb : n = b := Option.some.inj e2
      rw [List.getElem?_append_left (by omega)] at e1
      have ea : lastI tr = a := by
        unfold lastI
        rw [List.getLastD_eq_getLast?, List.getLast?_eq_getElem?]
        have : tr.length - 1 = i := by omega
        rw [this, e1]
        rfl
      rw [← ea, ← eb]
      exact h2
theorem Way.len {R : RingS} {p : Int} {tr : List Int} (w : Way R p tr) (h : Ok R) : tr.length < 64 := Nat.lt_of_le_of_lt (nodup_len tr R.names w.nodup w.mem) h.few
/-- the end of it -/
theorem lookF_way {R : RingS} (h : Ok R) {p : Int} (hp : 0 ≤ p ∧ p < 2 ^ R.bits) : ∀ (k : Nat) (tr : List Int), Way R p tr → tr.length + k = 200 → Way R p (lookF R p k tr).1 ∧ (lookF R p k tr).2 ∈ R.names
  | 0, tr, w, hl => by have := w.len h; omega
  | k + 1, tr, w, hl => by
    rcases stepM_cases h hp (w.mem _ (lastI_mem w.ne)) with ⟨g, e, hg⟩ | ⟨n, e, h1, h2, h3⟩
    · rw [lookF_some (g := g) (by rw [e]), e]
      exact ⟨w, hg⟩
    · rw [lookF_none (by rw [e]), e]
      exact lookF_way h hp k _ (w.snoc h1 h2 h3) (by show (tr ++ [n]).length + k = 200; rw [List.length_append, List.length_singleton]; omega)
theorem lookM_way {R : RingS} (h : Ok R) {p via : Int} (hp : 0 ≤ p ∧ p < 2 ^ R.bits) (hv : via ∈ R.names) : Way R p (lookM R p via).1 ∧ ansM R p via ∈ R.names :=
  lookF_way h hp 199 [via] (Way.one hv) rfl
def waysM (R : RingS) (tr : List Int) : List (List V) := (tr.zip tr.tail).map fun p => wayV R p.1 p.2
def foundF (t rs : Addr) (g : Int) : List (Str × V) := [("trail", .ref t), ("goal", .int g), ("reasons", .ref rs)]
structure FoundAt (K : PySem.W.Frag) (H : Hp) (f : Addr) (tr : List Int) (g : Int) (ws : List (List V)) : Prop where
  ob : ∃ dx t rs us, H f = some (.ins (He.ga K "Found") dx (foundF t rs g)) ∧ H t = some (.lst (tr.map V.int)) ∧ H rs = some (.lst (us.map V.ref)) ∧ Paired (fun u w => H u = some (.tup w)) us ws
section
variable {P : Program} {w : World} {K : PySem.W.Frag} {mg : Str → Option Value} {base : Heap}
def spFoundI (K : PySem.W.Frag) : Sp := fun vs H Q _ => ∃ x dx t rs g, vs = [.ref x, .ref t, .int g, .ref rs] ∧ H x = some (.ins (He.ga K "Found") dx []) ∧ Q .non (upd H x (.ins (He.ga K "Found") dx (foundF t rs g)))
theorem sc_Found_init : FnScope ["self", "trail", "goal", "reasons"] ["self", "trail", "goal", "reasons"] (defScope s_Found_init) := ⟨rfl, rfl, rfl, by decide +kernel, rfl, by decide +kernel, by decide +kernel⟩
theorem ok_Found_init (S : Say K mg base) : FnOk P w K mg base CX0 1 (He.ma K (He.ga K "Found") "__init__") (fdO K ("Found", some "__init__")) ["self", "trail", "goal", "reasons"] (spFoundI K) := by
  refine (S.F_Found_init).ok sc_Found_init (fun vs H Q E h => ?_) (fun cdv A outer s H vs Q E hr h => ?_)
  · obtain ⟨x, dx, t, rs, g, rfl, hx, k⟩ := h
    rfl
  obtain ⟨x, dx, t, rs, g, rfl, hx, k⟩ := h
  have hu := hu_of hr
  refine ⟨_, PSs.nox (pss_cons (ps_fld (pv 0) (pv 1) rfl)
        (pss_cons (ps_fld (pv 0) (pv 2) rfl)
        (pss_one (ps_fld (pv 0) (pv 3) rfl)))), ?_⟩
  refine ⟨_, rfl, _, rfl, x, _, dx, _, rfl, hx, S.c_Found, S.n_Found_trail, by decide, _, rfl, _, rfl, x, _, dx, _, rfl, upd_same, S.c_Found, S.n_Found_goal, (by show 1 < 1000; decide), ?_⟩
  rw [upd_upd]
  refine ⟨_, rfl, _, rfl, x, _, dx, _, rfl, upd_same, S.c_Found, S.n_Found_reasons, (by show 2 < 1000; decide), ?_⟩
  rw [upd_upd]
  exact k
def spFoundA (K : PySem.W.Frag) : Sp := fun vs H Q _ => ∃ f tr g ws, vs = [.ref f] ∧ FoundAt K H f tr g ws ∧ Q (.int g) H
theorem sc_Found_answer : FnScope ["self"] ["self"] (defScope s_Found_answer) := ⟨rfl, rfl, rfl, by decide +kernel, rfl, by decide +kernel, by decide +kernel⟩
theorem ok_Found_answer (S : Say K mg base) : FnOk P w K mg base CX0 1 (He.ma K (He.ga K "Found") "answer") (fdO K ("Found", some "answer")) ["self"] (spFoundA K) := by
  refine (S.F_Found_answer).ok sc_Found_answer (fun vs H Q E h => ?_) (fun cdv A outer s H vs Q E hr h => ?_)
  · obtain ⟨f, tr, g, ws, rfl, hf, k⟩ := h
    rfl
  obtain ⟨f, tr, g, ws, rfl, hf, k⟩ := h
  have hu := hu_of hr
  refine ⟨_, PSs.nox (pss_one (ps_ret (pe_fld (pv 0) rfl))), ?_⟩
  obtain ⟨dx, t, rs, us, h1, _, _, _⟩ := hf.ob
  exact ⟨_, rfl, f, _, dx, _, _, rfl, h1, S.c_Found, S.n_Found_goal, rfl, k⟩
def spLook (K : PySem.W.Frag) : Sp := fun vs H Q _ => ∃ A R p via, vs = [.ref A.r, .int p, .int via, .non] ∧ At K H A R ∧ via ∈ R.names ∧ (0 ≤ p ∧ p < 2 ^ R.bits) ∧
  ∀ f H', NotOld H f → FoundAt K H' f (lookM R p via).1 (ansM R p via) (waysM R (lookM R p via).1) → Fin K H H' → Q (.ref f) H'
theorem sc_look : FnScope ["ring", "point", "via", "within", "seeker", "trail", "reasons", "one", "other"] ["ring", "point", "via", "within"] (defScope s_look) := ⟨rfl, rfl, rfl, by decide +kernel, rfl, by decide +kernel, by decide +kernel⟩
theorem ok_look (S : Say K mg base) : FnOk P w K mg base CX0 13 (He.ga K "look") (fdO K ("look", none)) ["ring", "point", "via", "within"] (spLook K) := by
  refine (S.F_look).ok sc_look (fun vs H Q E h => ?_) (fun cdv A outer s H vs Q E hr h => ?_)
  · obtain ⟨A, R, p, via, rfl, h, hv, hp, k⟩ := h
    rfl
  obtain ⟨A, R, p, via, rfl, h, hv, hp, k⟩ := h
  have hu := hu_of hr
  refine ⟨_, PSs.nox (pss_cons (ps_set (i := 4) sc_look.nd rfl (Or.inl rfl) (pe_makeN S.mk_Seeker (ok_Seeker_init S) (hr.mono (by decide)) rfl S.g_Seeker S.kb_Seeker_init pass0 (pa_cons (pv 0) (pa_cons (pv 1) pa_nil)) (pk_cons (pv 2) pk_nil)))
        (pss_cons (ps_while PassesOwn.never (pt_not (pt_val (pe_meth0 (pv 4) S.c_Seeker S.m_Seeker_step (ok_Seeker_step S) (hr.mono (by decide)) S.b_Seeker_step .nil pass0))) (pss_cons (ps_set (i := 5) sc_look.nd rfl (Or.inl rfl) (pe_meth0 (pv 4) S.c_Seeker S.m_Seeker_way (ok_Seeker_way S) (hr.mono (by decide)) S.b_Seeker_way .nil pass0))
        (pss_one (ps_if (PW.pt (pw_and (pt_cmpR op_notN (pv 3) pe_non (nomark _)) (pw_and1 (pt_cmpR op_gt (pe_op op_sub (pe_callB call_len_seq (by rfl) S.z_len (by decide +kernel) (pa_cons (pv 5) pa_nil)) pe_int) (pv 3) (nomark _))))) (pss_one ps_never /-raise-/) pss_nil))))
        (pss_cons (ps_set (i := 5) sc_look.nd rfl (Or.inl rfl) (pe_meth0 (pv 4) S.c_Seeker S.m_Seeker_way (ok_Seeker_way S) (hr.mono (by decide)) S.b_Seeker_way .nil pass0))
        (pss_cons (ps_setLc (i := 6) (own := [("one", 7), ("other", 8)]) rfl sc_look.nd rfl rfl (sw_true rfl rfl rfl (by decide +kernel)) (pi_zip (by rfl) S.z_zip (pa_cons (pv 5) (pa_cons (pe_slice sl_list (pv 5) (po_some pe_int) po_none) pa_nil))) (blkOk_by (own := [("one", 7), ("other", 8)]) (N := ["ring", "point", "via", "within", "seeker", "trail", "reasons", "one", "other"]) (sc := defScope s_look) (by decide +kernel)) (fun _ _ _ _ _ => (pg_tupK (K := K) (n := 2) rfl rfl (pgs_cons (pg_name (i := 7) sc_look.nd rfl (Or.inl rfl) (Or.inr rfl)) (pgs_cons (pg_name (i := 8) sc_look.nd rfl (Or.inl rfl) (Or.inr rfl)) pgs_nil)))) (fun _ _ _ _ _ => pts_nil) (fun _ _ _ _ _ => (pe_call (ok_known_by S) (hr.mono (by decide)) rfl S.g_known_by (S.F_known_by).kp S.b_known_by .nil pass0 (pa_cons (pv 0) (pa_cons (pv 7) (pa_cons (pv 8) pa_nil))))))
        (pss_one (ps_ret (pe_make S.mk_Found (ok_Found_init S) (hr.mono (by decide)) rfl S.g_Found S.b_Found_init .nil pass0 (pa_cons (pv 5) (pa_cons (pe_meth0 (pv 4) S.c_Seeker S.m_Seeker_answer (ok_Seeker_answer S) (hr.mono (by decide)) S.b_Seeker_answer .nil pass0) (pa_cons (pv 6) pa_nil)))))))))), ?_⟩
  refine ⟨_, rfl, _, rfl, _, rfl, rfl, rfl, fun x dx hx hdx ndx => ?_⟩
  have s1 : Same H (upd (upd H dx (.own x)) x (.ins (He.ga K "Seeker") dx [])) := fun b' o e => by
    rw [upd_ne (ne_of_none e hx), upd_ne (ne_of_none e hdx)]
    exact e
  have f1 : Fin K H _ := Fin.of s1 h.tabs
  refine ⟨A, R, x, dx, p, via, rfl, h.fin f1, upd_same, hv, hp, fun t ht => ⟨rfl, ?_⟩⟩
  have htx : t ≠ x := fun e => by rw [e, upd_same] at ht; cases ht
  have hnt : NotOld H t := (notOld_of ht).back f1
  have hnx : NotOld H x := notOld_of hx
  have noρ : ∀ q, NotOld H q → A.ρ q = none := fun q nq => by
    cases e : A.ρ q with
    | none => rfl
    | some ro =>
      obtain ⟨o, e1, e2⟩ := h.ring.live q ro e
      exact absurd rfl (nq q o e1 (plainO_tbl e2))
  have s2 : Same (upd (upd H dx (.own x)) x (.ins (He.ga K "Seeker") dx [])) (upd (upd (upd H dx (.own x)) x (.ins (He.ga K "Seeker") dx [])) t (.lst [.int via])) := same_new ht
  have s3 : Same H (upd (upd (upd (upd H dx (.own x)) x (.ins (He.ga K "Seeker") dx [])) t (.lst [.int via])) x (.ins (He.ga K "Seeker") dx (skF A.r t p 0 none))) := fun b o e => by
    rw [upd_ne (ne_of_none e hx)]
    exact s2 _ _ (s1 _ _ e)
  have f3 := Fin.of s3 h.tabs
  have sk3 : SkAt K (upd (upd (upd (upd H dx (.own x)) x (.ins (He.ga K "Seeker") dx [])) t (.lst [.int via])) x (.ins (He.ga K "Seeker") dx (skF A.r t p 0 none))) A x t dx [via] p 0 none := ⟨upd_same, by rw [upd_ne htx]; exact upd_same, noρ x hnx, noρ t hnt⟩
  have hold : ∀ {G G' : Hp}, Fin K H G → Off2 K x t G G' → Fin K H G' := fun {G G'} f o => ⟨fun b u e1 e2 => o.1 b u (f.1 b u e1 e2) e2 (hnx b u e1 e2) (hnt b u e1 e2), o.2⟩
  refine ⟨fun m σ H4 => ∃ tr v kk, At K H4 A R ∧ SkAt K H4 A x t dx tr p 0 none ∧ Way R p tr ∧ tr.length + kk = 200 ∧ lookF R p kk tr = lookM R p via ∧ Fin K H H4 ∧ m = (dist R.bits (lastI tr) p).toNat ∧ σ = [some (.ref A.r), some (.int p), some (.int via), some .non, some (.ref x), v, none, none, none], ⟨_, [via], none, 199, h.fin f3, sk3, Way.one hv, rfl, rfl, f3, rfl, rfl⟩, ?_⟩
  rintro m σ H4 ⟨tr, v, kk, h4, sk4, w4, hl, hF, f4, rfl, rfl⟩
  have wl := w4.len h4.ok
  have hh := w4.mem _ (lastI_mem w4.ne)
  refine ⟨_, rfl, x, dx, _, rfl, sk4.ob, rfl, A, R, x, t, dx, tr, p, 0, rfl, h4, sk4, w4.ne, hh, by omega, hp, fun H5 o5 s5 => ?_⟩
  have h5 := h4.off2 sk4 o5
  have f5 := hold f4 o5
  obtain ⟨j, rfl⟩ : ∃ j, kk = j + 1 := ⟨kk - 1, by omega⟩
  rcases stepM_cases h4.ok hp hh with ⟨g, e, hg⟩ | ⟨n, e, n1, n2, n3⟩
  · rw [e] at s5 ⊢
    rw [lookF_some (g := g) (by rw [e]), e] at hF
    have sk5 : SkAt K H5 A x t dx tr p 0 (some g) := s5
    refine ⟨true, rfl, iteF ?_⟩
    refine ⟨_, rfl, x, dx, _, rfl, sk5.ob, rfl, A, x, t, dx, tr, p, 0, some g, rfl, sk5, fun q hq => ?_⟩
    have f6 : Fin K H5 (upd H5 q (.lst (tr.map V.int))) := Fin.of (same_new hq) h5.tabs
    have hq6 : upd H5 q (.lst (tr.map V.int)) q = some (.lst (tr.map V.int)) := upd_same
    refine ⟨_, rfl, _, rfl, _, rfl, q, _, rfl, .inl (.inl hq6), fun r hr => ?_⟩
    have f7 := f6.new (o := .lst (cutV (tr.map V.int) (some 1) none)) hr
    have hr7 : upd (upd H5 q (.lst (tr.map V.int))) r (.lst (cutV (tr.map V.int) (some 1) none)) r = some (.lst ((tr.drop 1).map V.int)) := by
      rw [upd_same]
      have e1 : cutV (tr.map V.int) (some 1) none = (tr.drop 1).map V.int := by
        unfold cutV
        rw [List.map_drop]
        have e2 : HT.sIx (tr.map V.int).length 0 (some 1) = min 1 (tr.map V.int).length := HT.sIx_nat _ _ 1
        rw [HT.sIx_none, e2]
        rw [List.take_of_length_le (by rw [List.length_drop]; omega)]
        by_cases c : 1 ≤ (tr.map V.int).length
        · rw [Nat.min_eq_left c]
        · rw [Nat.min_eq_right (by omega), List.drop_length, List.drop_of_length_le (by omega)]
      rw [e1]
    have hq7 : upd (upd H5 q (.lst (tr.map V.int))) r (.lst (cutV (tr.map V.int) (some 1) none)) q = some (.lst (tr.map V.int)) := by rw [upd_ne (ne_of_none hq6 hr)]; exact hq6
    refine ⟨q, r, _, _, rfl, .inl (.inl hq7), .inl (.inl hr7), fun D hD => ?_⟩
    have f57 := f5.trans f7
    have h7 := h5.fin f7
    have sk7 := sk5.fin f7
    have hwl : (waysM R tr).length = min (tr.map V.int).length ((tr.drop 1).map V.int).length := by
      unfold waysM
      rw [List.length_map, List.length_zip, List.length_tail, List.length_map, List.length_map, List.length_drop]
    revert hq7 hr7 f7 h7 sk7 hD f57
    generalize upd (upd H5 q (.lst (tr.map V.int))) r (.lst (cutV (tr.map V.int) (some 1) none)) = H7
    intro f7 hr7 hq7 hD f57 h7 sk7
    refine lc_it (walk_zip (K := K) (a := q) (b := r) (xs := tr.map V.int) (ys := (tr.drop 1).map V.int) rfl) (fun i H8 => Fin K H7 H8 ∧ ∃ us : List Addr, H8 D = some (.lst (us.map V.ref)) ∧ Paired (fun u w => H8 u = some (.tup w)) us ((waysM R tr).take i)) ⟨Fin.of (same_new hD) h7.tabs, [], upd_same, .nil⟩ (fun i H8 _ h => ⟨.inl (.inl (h.1.1 _ _ hq7 fun _ z => nomatch z)), .inl (.inl (h.1.1 _ _ hr7 fun _ z => nomatch z))⟩) ?_ ?_
    · rintro i v8 H8 H8' hi ⟨f8, us, hd8, hP8⟩ ⟨T, y1, y2, rfl, hT, rfl, e1, e2⟩
      obtain ⟨a, ha, rfl⟩ := getI e1
      obtain ⟨b, hb, rfl⟩ := getI e2
      rw [List.getElem?_drop] at hb
      have hb' : tr[i + 1]? = some b := by rw [Nat.add_comm]; exact hb
      have f9 : Fin K H8 (upd H8 T (.tup [.int a, .int b])) := Fin.of (same_new hT) f8.2
      have h9 := (h7.fin f8).fin f9
      have hw : (waysM R tr)[i]? = some (wayV R a b) := by
        unfold waysM
        rw [List.getElem?_map]
        have z : (tr.zip tr.tail)[i]? = some (a, b) := by
          rw [List.getElem?_zip_eq_some]
          exact ⟨ha, by rw [List.getElem?_tail]; exact hb'⟩
        rw [z]
        rfl
      refine ⟨T, _, rfl, .inl (.inl upd_same), rfl, _, _, rfl, _, _, rfl, rfl, rfl, _, rfl, _, rfl, _, rfl, A, R, a, b, rfl, h9, w4.mem a (List.mem_of_getElem? ha), w4.known i a b ha hb', fun u H10 nu hu f10 => ?_⟩
      have f810 := f9.trans f10
      have hd10 : H10 D = some (.lst (us.map V.ref)) := f810.1 _ _ hd8 fun _ z => nomatch z
      have hD10 : ∀ c xs, H10 c = some (.tup xs) → upd H10 D (.lst (us.map V.ref ++ [.ref u])) c = some (.tup xs) := fun c xs e => by rw [upd_ne (ne_of e hd10 fun z => nomatch z)]; exact e
      refine ⟨_, hd10, ?_, ⟨fun c o e1 e2 => ?_, tabs_upd f10.2 hd10 rfl⟩, us ++ [u], ?_, ?_⟩
      · rw [List.length_map, paired_len hP8, List.length_take, sizeLine_eq, hwl, List.length_map]
        omega
      · rw [upd_ne (ne_of_none e1 hD)]
        exact f810.1 c o (f8.1 c o e1 e2) e2
      · rw [upd_same, List.map_append]
        rfl
      · rw [take_oneG hw]
        exact Paired.snoc (paired_mono (fun u' w' e => hD10 _ _ (f810.1 _ _ e fun _ z => nomatch z)) hP8) (hD10 _ _ hu)
    · rintro H8 ⟨f8, us, hd8, hP8⟩
      rw [← hwl, List.take_length] at hP8
      have sk8 := sk7.fin f8
      have hq8 := f8.1 _ _ hq7 fun _ z => nomatch z
      have f58 := f57.trans f8
      refine ⟨_, rfl, _, rfl, x, dx, _, rfl, sk8.ob, rfl, A, x, t, dx, tr, p, 0, some g, rfl, sk8, _, rfl, ?_⟩
      intro x' dx' hx' hdx' ndx'
      refine ⟨x', dx', q, D, g, rfl, upd_same, rfl, ?_⟩
      have s9 : Same H8 (upd (upd (upd H8 dx' (.own x')) x' (.ins (He.ga K "Found") dx' [])) x' (.ins (He.ga K "Found") dx' (foundF q D g))) := fun b o e => by
        rw [upd_ne (ne_of_none e hx'), upd_ne (ne_of_none e hx'), upd_ne (ne_of_none e hdx')]
        exact e
      have eg : ansM R p via = g := by unfold ansM; rw [← hF]
      have et : (lookM R p via).1 = tr := by rw [← hF]
      have z := k x' _ ((notOld_of hx').back f58) (by
        rw [eg, et]
        exact ⟨dx', q, D, us, upd_same, s9 _ _ hq8, s9 _ _ hd8, paired_mono (fun u w e => s9 _ _ e) hP8⟩) (f58.trans (Fin.of s9 f8.2))
      exact z
  · rw [e] at s5 ⊢
    rw [lookF_none (by rw [e]), e] at hF
    refine ⟨false, rfl, iteT ?_⟩
    have sk5 : SkAt K H5 A x t dx (tr ++ [n]) p 0 none := s5
    refine ⟨fun σ' H' => ∃ v', Fin K H5 H' ∧ σ' = [some (.ref A.r), some (.int p), some (.int via), some .non, some (.ref x), v', none, none, none], ?_, ?_⟩
    · rintro σ' H' ⟨v', f', rfl⟩
      refine ⟨_, ?_, tr ++ [n], v', j, h5.fin f', sk5.fin f', w4.snoc n1 n2 n3, ?_, hF, f5.trans f', rfl, rfl⟩
      · rw [lastI_snoc]
        have := dist_rng R.bits n p
        omega
      · rw [List.length_append, List.length_singleton]
        omega
    · refine ⟨_, rfl, x, dx, _, rfl, sk5.ob, rfl, A, x, t, dx, tr ++ [n], p, 0, none, rfl, sk5, fun q hq => ?_⟩
      refine ⟨_, rfl, rfl, _, rfl, iteF (iteF ⟨_, Fin.of (same_new hq) h5.tabs, rfl⟩)⟩
end
end Nn
set_option Elab.async false
set_option linter.all false
set_option maxRecDepth 100000
set_option maxHeartbeats 1000000
namespace Nn
open PySem PySem.Spec PyProof.Rows L2 LamX KeyL
/-! ### values -/
def holdersM (R : RingS) (p via : Int) : List Int := ansM R p via :: (R.node (ansM R p via)).chain.filter fun m => decide (m ∈ R.names)
theorem noRole {K : PySem.W.Frag} {H : Hp} {A : RA} {R : RingS} (h : RingAt K H A R) {q : Addr} (nq : NotOld H q) : A.ρ q = none := by
  cases e : A.ρ q with
  | none => rfl
  | some ro =>
    obtain ⟨o, e1, e2⟩ := h.live q ro e
    exact absurd rfl (nq q o e1 (plainO_tbl e2))
theorem holdersM_mem {R : RingS} (h : Ok R) {p via : Int} (hp : 0 ≤ p ∧ p < 2 ^ R.bits) (hv : via ∈ R.names) : ∀ m ∈ holdersM R p via, m ∈ R.names := fun m hm => by
  rcases List.mem_cons.mp hm with e | hm
  · rw [e]; exact (lookM_way h hp hv).2
  · simpa using (List.mem_filter.mp hm).2
theorem memV_i (R : RingS) (n : Int) : memV R (.int n) = decide (n ∈ R.names) := rfl
section
variable {P : Program} {w : World} {K : PySem.W.Frag} {mg : Str → Option Value} {base : Heap}
def spHolders (K : PySem.W.Frag) : Sp := fun vs H Q _ => ∃ A R p via, vs = [.ref A.r, .int p, .int via] ∧ At K H A R ∧ via ∈ R.names ∧ (0 ≤ p ∧ p < 2 ^ R.bits) ∧ ∀ q H', NotOld H q → H' q = some (.lst ((holdersM R p via).map V.int)) → Fin K H H' → Q (.ref q) H'
theorem sc_holders : FnScope ["ring", "point", "via", "home", "name"] ["ring", "point", "via"] (defScope s_holders) := ⟨rfl, rfl, rfl, by decide +kernel, rfl, by decide +kernel, by decide +kernel⟩
theorem ok_holders (S : Say K mg base) : FnOk P w K mg base CX0 14 (He.ga K "holders") (fdO K ("holders", none)) ["ring", "point", "via"] (spHolders K) := by
  refine (S.F_holders).ok sc_holders (fun vs H Q E h => ?_) (fun cdv A outer s H vs Q E hr h => ?_)
  · obtain ⟨A, R, p, via, rfl, h, hv, hp, k⟩ := h
    rfl
  obtain ⟨A, R, p, via, rfl, h, hv, hp, k⟩ := h
  have hu := hu_of hr
  refine ⟨_, PSs.nox (pss_cons (ps_set (i := 3) sc_holders.nd rfl (Or.inl rfl) (pe_meth0 (pe_callN (ok_look S) (hr.mono (by decide)) rfl S.g_look (S.F_look).kp S.kb1_look pass0 (pa_cons (pv 0) (pa_cons (pv 1) pa_nil)) (pk_cons (pv 2) pk_nil)) S.c_Found S.m_Found_answer (ok_Found_answer S) (hr.mono (by decide)) S.b_Found_answer .nil pass0))
        (pss_one (ps_ret (pe_op op_cat (pe_lst (pa_cons (pv 3) pa_nil)) (pe_lc (own := [("name", 4)]) rfl sc_holders.nd (pi_list (pe_meth (pv 0) S.c_Ring S.m_Ring_links (ok_Ring_links S) (hr.mono (by decide)) S.b_Ring_links .nil pass0 (pa_cons (pv 3) pa_nil))) (blkOk_by (own := [("name", 4)]) (N := ["ring", "point", "via", "home", "name"]) (sc := defScope s_holders) (by decide +kernel)) (fun _ _ _ _ _ => (pg_name (i := 4) sc_holders.nd rfl (Or.inl rfl))) (fun _ _ _ _ _ => (pts_one (pt_val (pe_meth (pv 0) S.c_Ring S.m_Ring_is_member (ok_Ring_is_member S) (hr.mono (by decide)) S.b_Ring_is_member .nil pass0 (pa_cons (pv 4) pa_nil))))) (fun _ _ _ _ _ => (pv 4))))))), ?_⟩
  refine ⟨_, rfl, _, rfl, _, rfl, rfl, rfl, A, R, p, via, rfl, h, hv, hp, fun f H1 nf hf f1 => ?_⟩
  obtain ⟨fdx, ft, frs, fus, fob, _⟩ := id hf.ob
  refine ⟨f, fdx, _, rfl, fob, rfl, f, _, _, _, rfl, hf, ?_⟩
  have hm := (lookM_way h.ok hp hv).2
  have h1 := h.fin f1
  refine ⟨_, rfl, (by show 1 ≤ sizeLine; decide), fun q hq => ?_⟩
  have f2 := Fin.of (same_new (o := HO.lst [V.int (ansM R p via)]) hq) h1.tabs
  have h2 := h1.fin f2
  refine ⟨_, rfl, A.r, A.dx, _, rfl, h2.ring.ob, rfl, _, rfl, A, R, ansM R p via, rfl, h2, hm, fun l H3 nl hl f3 => ?_⟩
  have h3 := h2.fin f3
  have hq3 : H3 q = some (.lst [V.int (ansM R p via)]) := f3.1 _ _ upd_same fun _ z => nomatch z
  have cl : (R.node (ansM R p via)).chain.length ≤ 4 := by rw [h.ok.clen _ hm]; exact h.ok.many.2
  refine ⟨l, rfl, ⟨_, .inl (.inl hl)⟩, fun D hD => ?_⟩
  refine lc_list (K := K) (a := l) (xs := (R.node (ansM R p via)).chain.map V.int) (fun i H4 => Same H3 H4 ∧ H4 D = some (.lst ((((R.node (ansM R p via)).chain.take i).filter fun m => decide (m ∈ R.names)).map V.int))) ⟨same_new hD, upd_same⟩ (fun i H4 _ h => .inl (.inl (h.1 _ _ hl))) ?_ ?_
  · rintro i x H4 hi ⟨s4, hd⟩
    obtain ⟨n, hn, rfl⟩ := getI hi
    have h4 := h3.fin (Fin.of s4 h3.tabs)
    refine ⟨rfl, _, rfl, A.r, A.dx, _, rfl, h4.ring.ob, rfl, _, rfl, A, R, _, rfl, h4.ring, h4.ok, .int n, ?_⟩
    rw [memV_i]
    by_cases c : n ∈ R.names
    · rw [decide_eq_true c]
      refine ⟨true, rfl, iteT ⟨_, rfl, _, hd, ?_, ?_, ?_⟩⟩
      · refine szL ?_
        rw [List.length_map]
        have := List.length_filter_le (fun m => decide (m ∈ R.names)) ((R.node (ansM R p via)).chain.take i)
        rw [List.length_take] at this
        omega
      · intro b o e
        rw [upd_ne (ne_of_none e hD)]
        exact s4 b o e
      · rw [upd_same, take_one hn, List.filter_append]
        simp [c]
    · rw [decide_eq_false c]
      refine ⟨false, rfl, iteF ⟨s4, ?_⟩⟩
      rw [hd, take_one hn, List.filter_append]
      simp [c]
  · rintro H4 ⟨s4, hd⟩
    rw [List.length_map, List.take_length] at hd
    have f4 := Fin.of s4 h3.tabs
    refine ⟨q, D, _, _, rfl, rfl, s4 _ _ hq3, hd, szI ?_, fun r hr => ?_⟩
    · have := List.length_filter_le (fun m => decide (m ∈ R.names)) (R.node (ansM R p via)).chain
      rw [List.length_map]
      show 1 + _ ≤ 1000
      omega
    · have f14 := ((f1.trans f2).trans f3).trans f4
      exact k r _ ((notOld_of hr).back f14) upd_same (f14.new hr)
def spIsText (K : PySem.W.Frag) : Sp := fun vs H Q _ => ∃ x : Str, vs = [.str x] ∧ x.length ≤ 1000000 ∧ Q (.bl (decide ((x.length : Int) ≤ 40))) H
theorem sc_is_text : FnScope ["thing"] ["thing"] (defScope s_is_text) := ⟨rfl, rfl, rfl, by decide +kernel, rfl, by decide +kernel, by decide +kernel⟩
theorem ok_is_text (S : Say K mg base) : FnOk P w K mg base CX0 1 (He.ga K "is_text") (fdO K ("is_text", none)) ["thing"] (spIsText K) := by
  refine (S.F_is_text).ok sc_is_text (fun vs H Q E h => ?_) (fun cdv A outer s H vs Q E hr h => ?_)
  · obtain ⟨x, rfl, hl, k⟩ := h
    rfl
  obtain ⟨x, rfl, hl, k⟩ := h
  have hu := hu_of hr
  refine ⟨_, PSs.nox (pss_one (ps_ret (pe_and (pe_callB call_isi (by rfl) S.z_isinstance (by decide +kernel) (pa_cons (pv 0) (pa_cons (pe_bltn (v := .ty "str") rfl S.z_str (by decide +kernel) rfl) pa_nil))) (pe_one (pe_cmpR op_le (pe_callB call_len_str (by rfl) S.z_len (by decide +kernel) (pa_cons (pv 0) pa_nil)) (pe_glob (v := V.int 40) rfl (S.i_MOST_SIGNS).choose_spec ⟨_, rfl⟩) (nomark _)))))), ?_⟩
  have ks : kitB "str" "str" = some true := by decide +kernel
  refine ⟨_, rfl, _, _, _, _, _, rfl, .ty "str", .base (.str x), kit_ty ks, _, rfl, ?_⟩
  refine iteT ⟨_, rfl, ?_⟩
  exact ⟨x, rfl, (by rw [sizeLine_eq]; omega), _, _, rfl, rfl, k⟩
def offersM (R : RingS) (ns : List Int) (p s : Int) (x : Option Str) : RingS := ns.foldl (fun R n => R.offer n p s x) R
theorem offersM_same (p s : Int) (x : Option Str) : ∀ (ns : List Int) (R : RingS), (offersM R ns p s x).names = R.names ∧ (offersM R ns p s x).bits = R.bits ∧ (offersM R ns p s x).puts = R.puts ∧ (offersM R ns p s x).fixed = R.fixed ∧ (offersM R ns p s x).done = R.done ∧ (offersM R ns p s x).many = R.many
  | [], R => ⟨rfl, rfl, rfl, rfl, rfl, rfl⟩
  | n :: ns, R => offersM_same p s x ns (R.offer n p s x)
theorem offersM_snoc (R : RingS) (ns : List Int) (n p s : Int) (x : Option Str) : offersM R (ns ++ [n]) p s x = (offersM R ns p s x).offer n p s x := by unfold offersM; rw [List.foldl_append]; rfl
def handInM (R : RingS) (p : Int) (x : Option Str) (via : Int) : RingS := offersM (R.stamp (p, x)) (holdersM R p via) p (R.puts.length + 1 : Nat) x
def spHandIn (K : PySem.W.Frag) : Sp := fun vs H Q _ => ∃ A R p x via, vs = [.ref A.r, .int p, oT x, .int via] ∧ At K H A R ∧ via ∈ R.names ∧ (0 ≤ p ∧ p < 2 ^ R.bits) ∧ R.puts.length < 100000 ∧ ∀ H', At K H' A (handInM R p x via) → Frame H A H' A → Q (.int (R.puts.length + 1 : Nat)) H'
theorem sc_hand_in : FnScope ["ring", "point", "text", "via", "some", "stamp", "name"] ["ring", "point", "text", "via"] (defScope s_hand_in) := ⟨rfl, rfl, rfl, by decide +kernel, rfl, by decide +kernel, by decide +kernel⟩
theorem ok_hand_in (S : Say K mg base) : FnOk P w K mg base CX0 15 (He.ga K "hand_in") (fdO K ("hand_in", none)) ["ring", "point", "text", "via"] (spHandIn K) := by
  refine (S.F_hand_in).ok sc_hand_in (fun vs H Q E h => ?_) (fun cdv A outer s H vs Q E hr h => ?_)
  · obtain ⟨A, R, p, x, via, rfl, h, hv, hp, hl, k⟩ := h
    rfl
  obtain ⟨A, R, p, x, via, rfl, h, hv, hp, hl, k⟩ := h
  have hu := hu_of hr
  refine ⟨_, PSs.nox (pss_cons (ps_set (i := 4) sc_hand_in.nd rfl (Or.inl rfl) (pe_callN (ok_holders S) (hr.mono (by decide)) rfl S.g_holders (S.F_holders).kp S.kb_holders pass0 (pa_cons (pv 0) (pa_cons (pv 1) pa_nil)) (pk_cons (pv 3) pk_nil)))
        (pss_cons (ps_set (i := 5) sc_hand_in.nd rfl (Or.inl rfl) (pe_meth0 (pv 0) S.c_Ring S.m_Ring_new_stamp (ok_Ring_new_stamp S) (hr.mono (by decide)) S.b_Ring_new_stamp .nil pass0))
        (pss_cons (ps_for PassesOwn.never rfl (pi_list (pv 4)) (pg_name (i := 6) sc_hand_in.nd rfl (Or.inl rfl))
        (pss_one (ps_expr (pe_meth (pv 0) S.c_Ring S.m_Ring_offer (ok_Ring_offer S) (hr.mono (by decide)) S.b_Ring_offer .nil pass0 (pa_cons (pv 6) (pa_cons (pv 1) (pa_cons (pv 5) (pa_cons (pv 2) pa_nil))))))))
        (pss_one (ps_ret (pv 5)))))), ?_⟩
  refine ⟨_, rfl, _, rfl, _, rfl, rfl, rfl, A, R, p, via, rfl, h, hv, hp, fun q H1 nq hq f1 => ?_⟩
  have h1 := h.fin f1
  refine ⟨_, rfl, A.r, A.dx, _, rfl, h1.ring.ob, rfl, A, R, (p, x), rfl, h1, hl, fun H2 h2 fr2 => ?_⟩
  have rq := noRole h.ring nq
  have hq2 := (fr2.off _ _ hq (fun _ z => nomatch z) rq).1
  have hmem := holdersM_mem h.ok hp hv
  have es := offersM_same p (R.puts.length + 1 : Nat) x
  refine ⟨_, rfl, q, rfl, ⟨_, .inl (.inl hq2)⟩, for_list (K := K) (a := q) (xs := (holdersM R p via).map V.int) (fun i σ H3 => At K H3 A (offersM (R.stamp (p, x)) ((holdersM R p via).take i) p (R.puts.length + 1 : Nat) x) ∧ Frame H2 A H3 A ∧ ∃ v, σ = [some (.ref A.r), some (.int p), some (oT x), some (.int via), some (.ref q), some (.int (R.puts.length + 1 : Nat)), v]) ⟨h2, Frame.refl, none, rfl⟩ (fun i σ H3 _ h => .inl (.inl (h.2.1.off _ _ hq2 (fun _ z => nomatch z) rq).1)) ?_ ?_⟩
  · rintro i y σ H3 hi ⟨h3, f3, v, rfl⟩
    obtain ⟨n, hn, rfl⟩ := getI hi
    obtain ⟨e1, e2, e3, _⟩ := es ((holdersM R p via).take i) (R.stamp (p, x))
    refine ⟨_, rfl, A.r, A.dx, _, rfl, h3.ring.ob, rfl, _, rfl, _, rfl, _, rfl, _, rfl, A, _, n, p, _, x, rfl, h3, ?_, by omega, ?_, ?_, fun H4 h4 f4 => ⟨?_, f3.trans f4, _, rfl⟩⟩
    · rw [e1]; exact hmem n (List.mem_of_getElem? hn)
    · rw [e3]
      show (R.puts ++ [(p, x)])[(((R.puts.length + 1 : Nat) : Int)).toNat - 1]? = some (p, x)
      rw [Int.toNat_natCast, Nat.add_sub_cancel, List.getElem?_append_right (Nat.le_refl _), Nat.sub_self]
      rfl
    · rw [e2]; exact hp
    · rw [take_one hn, offersM_snoc]
      exact h4
  · rintro σ H3 ⟨h3, f3, v, rfl⟩
    rw [List.length_map, List.take_length] at h3
    exact ⟨_, rfl, k H3 h3 ((Frame.fin f1).trans (fr2.trans f3))⟩
def putM (R : RingS) (p : Int) (x : Str) (via : Int) : RingS := (handInM R p (some x) via).note (.flat "put" [.int p, .str x, .int via])
def forgetM (R : RingS) (p via : Int) : RingS := (handInM R p none via).note (.flat "forget" [.int p, .int via])
theorem handInM_same (R : RingS) (p : Int) (x : Option Str) (via : Int) : (handInM R p x via).names = R.names ∧ (handInM R p x via).bits = R.bits ∧ (handInM R p x via).fixed = R.fixed ∧ (handInM R p x via).done = R.done ∧ (handInM R p x via).puts = R.puts ++ [(p, x)] ∧ (handInM R p x via).many = R.many := by
  obtain ⟨a, b, c, d, e, f⟩ := offersM_same p (R.puts.length + 1 : Nat) x (holdersM R p via) (R.stamp (p, x))
  exact ⟨a, b, d, e, c, f⟩
def spPut (K : PySem.W.Frag) : Sp := fun vs H Q _ => ∃ A R p x via, vs = [.ref A.r, .int p, .str x, .int via] ∧ At K H A R ∧ via ∈ R.names ∧ (0 ≤ p ∧ p < 2 ^ R.bits) ∧ x.length ≤ 40 ∧ R.puts.length < 100000 ∧ R.done.length < 1000000 ∧ ∀ H', At K H' A (putM R p x via) → Frame H A H' A → Q (.int (R.puts.length + 1 : Nat)) H'
theorem sc_put : FnScope ["ring", "point", "text", "via", "stamp"] ["ring", "point", "text", "via"] (defScope s_put) := ⟨rfl, rfl, rfl, by decide +kernel, rfl, by decide +kernel, by decide +kernel⟩
theorem ok_put (S : Say K mg base) : FnOk P w K mg base CX0 16 (He.ga K "put") (fdO K ("put", none)) ["ring", "point", "text", "via"] (spPut K) := by
  refine (S.F_put).ok sc_put (fun vs H Q E h => ?_) (fun cdv A outer s H vs Q E hr h => ?_)
  · obtain ⟨A, R, p, x, via, rfl, h, hv, hp, hx, hl, hd, k⟩ := h
    rfl
  obtain ⟨A, R, p, x, via, rfl, h, hv, hp, hx, hl, hd, k⟩ := h
  have hu := hu_of hr
  refine ⟨_, PSs.nox (pss_cons (ps_expr (pe_meth (pv 0) S.c_Ring S.m_Ring_want_point (ok_Ring_want_point S) (hr.mono (by decide)) S.b_Ring_want_point .nil pass0 (pa_cons (pv 1) pa_nil)))
        (pss_cons (ps_if (pt_not (pt_val (pe_call (ok_is_text S) (hr.mono (by decide)) rfl S.g_is_text (S.F_is_text).kp S.b_is_text .nil pass0 (pa_cons (pv 2) pa_nil)))) (pss_one ps_never /-raise-/) pss_nil)
        (pss_cons (ps_set (i := 4) sc_put.nd rfl (Or.inl rfl) (pe_call (ok_hand_in S) (hr.mono (by decide)) rfl S.g_hand_in (S.F_hand_in).kp S.b_hand_in .nil pass0 (pa_cons (pv 0) (pa_cons (pv 1) (pa_cons (pv 2) (pa_cons (pv 3) pa_nil))))))
        (pss_cons (ps_expr (pe_meth (pv 0) S.c_Ring S.m_Ring_note (ok_Ring_note S) (hr.mono (by decide)) S.b_Ring_note .nil pass0 (pa_cons (pe_tup (pa_cons pe_str (pa_cons (pv 1) (pa_cons (pv 2) (pa_cons (pv 3) pa_nil))))) pa_nil)))
        (pss_one (ps_ret (pv 4))))))), ?_⟩
  refine ⟨_, rfl, A.r, A.dx, _, rfl, h.ring.ob, rfl, _, rfl, A, R, p, rfl, h.ring, hp, ?_⟩
  refine ⟨_, rfl, x, rfl, by omega, ?_⟩
  rw [decide_eq_true (show (x.length : Int) ≤ 40 by omega)]
  refine ⟨_, rfl, iteF ⟨_, rfl, _, rfl, _, rfl, _, rfl, A, R, p, some x, via, rfl, h, hv, hp, hl, fun H1 h1 f1 => ?_⟩⟩
  have e := handInM_same R p (some x) via
  refine ⟨_, rfl, A.r, A.dx, _, rfl, h1.ring.ob, rfl, _, rfl, _, rfl, _, rfl, (by show 4 ≤ sizeLine; decide), fun u hu => ?_⟩
  have f2 := Fin.of (same_new (o := HO.tup [.str "put", .int p, .str x, .int via]) hu) h1.tabs
  refine ⟨A, _, _, .flat "put" [.int p, .str x, .int via], rfl, h1.fin f2, by rw [e.2.2.2.1]; exact hd, ⟨u, rfl, upd_same, rfl⟩, fun H3 h3 f3 => ⟨_, rfl, ?_⟩⟩
  exact k H3 h3 (f1.trans ((Frame.fin f2).trans f3))
def spForget (K : PySem.W.Frag) : Sp := fun vs H Q _ => ∃ A R p via, vs = [.ref A.r, .int p, .int via] ∧ At K H A R ∧ via ∈ R.names ∧ (0 ≤ p ∧ p < 2 ^ R.bits) ∧ R.puts.length < 100000 ∧ R.done.length < 1000000 ∧ ∀ H', At K H' A (forgetM R p via) → Frame H A H' A → Q (.int (R.puts.length + 1 : Nat)) H'
theorem sc_forget : FnScope ["ring", "point", "via", "stamp"] ["ring", "point", "via"] (defScope s_forget) := ⟨rfl, rfl, rfl, by decide +kernel, rfl, by decide +kernel, by decide +kernel⟩
theorem ok_forget (S : Say K mg base) : FnOk P w K mg base CX0 16 (He.ga K "forget") (fdO K ("forget", none)) ["ring", "point", "via"] (spForget K) := by
  refine (S.F_forget).ok sc_forget (fun vs H Q E h => ?_) (fun cdv A outer s H vs Q E hr h => ?_)
  · obtain ⟨A, R, p, via, rfl, h, hv, hp, hl, hd, k⟩ := h
    rfl
  obtain ⟨A, R, p, via, rfl, h, hv, hp, hl, hd, k⟩ := h
  have hu := hu_of hr
  refine ⟨_, PSs.nox (pss_cons (ps_set (i := 3) sc_forget.nd rfl (Or.inl rfl) (pe_call (ok_hand_in S) (hr.mono (by decide)) rfl S.g_hand_in (S.F_hand_in).kp S.b_hand_in .nil pass0 (pa_cons (pv 0) (pa_cons (pv 1) (pa_cons pe_non (pa_cons (pv 2) pa_nil))))))
        (pss_cons (ps_expr (pe_meth (pv 0) S.c_Ring S.m_Ring_note (ok_Ring_note S) (hr.mono (by decide)) S.b_Ring_note .nil pass0 (pa_cons (pe_tup (pa_cons pe_str (pa_cons (pv 1) (pa_cons (pv 2) pa_nil)))) pa_nil)))
        (pss_one (ps_ret (pv 3))))), ?_⟩
  refine ⟨_, rfl, _, rfl, _, rfl, A, R, p, none, via, rfl, h, hv, hp, hl, fun H1 h1 f1 => ?_⟩
  have e := handInM_same R p none via
  refine ⟨_, rfl, A.r, A.dx, _, rfl, h1.ring.ob, rfl, _, rfl, _, rfl, (by show 3 ≤ sizeLine; decide), fun u hu => ?_⟩
  have f2 := Fin.of (same_new (o := HO.tup [.str "forget", .int p, .int via]) hu) h1.tabs
  refine ⟨A, _, _, .flat "forget" [.int p, .int via], rfl, h1.fin f2, by rw [e.2.2.2.1]; exact hd, ⟨u, rfl, upd_same, rfl⟩, fun H3 h3 f3 => ⟨_, rfl, ?_⟩⟩
  exact k H3 h3 (f1.trans ((Frame.fin f2).trans f3))
end
end Nn
set_option Elab.async false
set_option linter.all false
set_option maxRecDepth 100000
set_option maxHeartbeats 1000000
namespace Nn
open PySem PySem.Spec PyProof.Rows L2 LamX KeyL
/-! ### settling -/
def hasT (R : RingS) (n p : Int) : Prop := (getT (R.node n).things p).isSome = true
theorem getT_some {ts : List Thing} {p : Int} : (getT ts p).isSome = true ↔ ∃ t ∈ ts, t.1 = p := by
  unfold getT
  rw [List.find?_isSome]
  simp
theorem offerT_has {ts : List Thing} {p p' s : Int} {x : Option Str} (h : (getT ts p').isSome = true) : (getT (offerT ts p s x) p').isSome = true := by
  rw [getT_some] at h ⊢
  obtain ⟨t, ht, e⟩ := h
  unfold offerT
  cases q : getT ts p with
  | none => exact ⟨t, List.mem_append_left _ ht, e⟩
  | some o =>
    show ∃ t ∈ (if o.2.1 < s then ts.map fun t => if t.1 = p then (p, s, x) else t else ts), t.1 = p'
    by_cases c : o.2.1 < s
    · rw [if_pos c]
      by_cases d : t.1 = p
      · exact ⟨(p, s, x), List.mem_map.mpr ⟨t, ht, if_pos d⟩, by rw [← e, d]⟩
      · exact ⟨t, List.mem_map.mpr ⟨t, ht, if_neg d⟩, e⟩
    · rw [if_neg c]
      exact ⟨t, ht, e⟩
theorem setThings_node (R : RingS) (m n : Int) (ts : List Thing) : ((R.setThings m ts).node n).things = if n = m then ts else (R.node n).things := by
  show (if n = m then withThings (R.node m) ts else R.node n).things = _
  by_cases e : n = m
  · rw [if_pos e, if_pos e]; rfl
  · rw [if_neg e, if_neg e]
theorem offer_has {R : RingS} {n p' m p s : Int} {x : Option Str} (h : hasT R n p') : hasT (R.offer m p s x) n p' := by
  unfold hasT RingS.offer at *
  rw [setThings_node]
  by_cases e : n = m
  · rw [if_pos e, ← e]; exact offerT_has h
  · rw [if_neg e]; exact h
theorem offersM_has {n p' p s : Int} {x : Option Str} : ∀ (ns : List Int) {R : RingS}, hasT R n p' → hasT (offersM R ns p s x) n p'
  | [], _, h => h
  | m :: ns, _, h => offersM_has ns (offer_has h)
theorem letGo_has {R : RingS} {n p' m p : Int} (h : hasT R n p') (ne : p' ≠ p) : hasT (R.letGo m p) n p' := by
  unfold hasT RingS.letGo at *
  rw [setThings_node]
  by_cases e : n = m
  · rw [if_pos e, ← e]
    rw [getT_some] at h ⊢
    obtain ⟨t, ht, e2⟩ := h
    exact ⟨t, List.mem_filter.mpr ⟨ht, by simp [e2, ne]⟩, e2⟩
  · rw [if_neg e]; exact h
def settleStep (n : Int) (R : RingS) (t : Thing) : RingS :=
  if n ∈ holdersM R t.1 n then offersM R (holdersM R t.1 n) t.1 t.2.1 t.2.2 else (offersM R (holdersM R t.1 n) t.1 t.2.1 t.2.2).letGo n t.1
def settledFrom (R : RingS) (n : Int) (ts : List Thing) : RingS := ts.foldl (settleStep n) R
def settledM (R : RingS) (n : Int) : RingS := settledFrom R n (keptM R n)
def settleM (R : RingS) (n : Int) : RingS := (settledM R n).note (.flat "settle" [.int n])
/-- what settling leaves alone -/
def SameBut (R R' : RingS) : Prop := R'.names = R.names ∧ R'.bits = R.bits ∧ R'.puts = R.puts ∧ R'.fixed = R.fixed ∧ R'.done = R.done ∧ R'.many = R.many
theorem SameBut.refl (R : RingS) : SameBut R R := ⟨rfl, rfl, rfl, rfl, rfl, rfl⟩
theorem SameBut.trans {R R1 R2 : RingS} (a : SameBut R R1) (b : SameBut R1 R2) : SameBut R R2 := ⟨b.1.trans a.1, b.2.1.trans a.2.1, b.2.2.1.trans a.2.2.1, b.2.2.2.1.trans a.2.2.2.1, b.2.2.2.2.1.trans a.2.2.2.2.1, b.2.2.2.2.2.trans a.2.2.2.2.2⟩
theorem offersM_but (R : RingS) (ns : List Int) (p s : Int) (x : Option Str) : SameBut R (offersM R ns p s x) := offersM_same p s x ns R
theorem settleStep_but (n : Int) (R : RingS) (t : Thing) : SameBut R (settleStep n R t) := by
  unfold settleStep
  by_cases c : n ∈ holdersM R t.1 n
  · rw [if_pos c]; exact offersM_but ..
  · rw [if_neg c]; exact (offersM_but ..).trans ⟨rfl, rfl, rfl, rfl, rfl, rfl⟩
theorem settledFrom_but (n : Int) : ∀ (ts : List Thing) (R : RingS), SameBut R (settledFrom R n ts)
  | [], R => SameBut.refl R
  | t :: ts, R => (settleStep_but n R t).trans (settledFrom_but n ts _)
theorem settledFrom_snoc (R : RingS) (n : Int) (ts : List Thing) (t : Thing) : settledFrom R n (ts ++ [t]) = settleStep n (settledFrom R n ts) t := by unfold settledFrom; rw [List.foldl_append]; rfl
section
variable {P : Program} {w : World} {K : PySem.W.Frag} {mg : Str → Option Value} {base : Heap}
theorem KeptAt.frame {H H' : Hp} {A A' : RA} {q : Addr} {es : List Thing} (h : KeptAt H q es) (f : Frame H A H' A') (r : A.ρ q = none) : KeptAt H' q es := by
  obtain ⟨us, h1, h2⟩ := h
  exact ⟨us, (f.off _ _ h1 (fun _ z => nomatch z) r).1, paired_mono (fun u e h => f.tup _ _ h) h2⟩
def spSettled (K : PySem.W.Frag) : Sp := fun vs H Q _ => ∃ A R n, vs = [.ref A.r, .int n] ∧ At K H A R ∧ n ∈ R.names ∧ ∀ H', At K H' A (settledM R n) → Frame H A H' A → Q .non H'
theorem sc_settled : FnScope ["ring", "name", "point", "stamp", "text", "some", "one"] ["ring", "name"] (defScope s_settled) := ⟨rfl, rfl, rfl, by decide +kernel, rfl, by decide +kernel, by decide +kernel⟩
theorem ok_settled (S : Say K mg base) : FnOk P w K mg base CX0 15 (He.ga K "settled") (fdO K ("settled", none)) ["ring", "name"] (spSettled K) := by
  refine (S.F_settled).ok sc_settled (fun vs H Q E h => ?_) (fun cdv A outer s H vs Q E hr h => ?_)
  · obtain ⟨A, R, n, rfl, h, hn, k⟩ := h
    rfl
  obtain ⟨A, R, n, rfl, h, hn, k⟩ := h
  have hu := hu_of hr
  refine ⟨_, PSs.nox (pss_one (ps_for PassesOwn.never rfl (pi_list (pe_meth (pv 0) S.c_Ring S.m_Ring_kept (ok_Ring_kept S) (hr.mono (by decide)) S.b_Ring_kept .nil pass0 (pa_cons (pv 1) pa_nil))) (pg_tupK (K := K) (n := 3) rfl rfl (pgs_cons (pg_name (i := 2) sc_settled.nd rfl (Or.inl rfl) (Or.inr rfl)) (pgs_cons (pg_name (i := 3) sc_settled.nd rfl (Or.inl rfl) (Or.inr rfl)) (pgs_cons (pg_name (i := 4) sc_settled.nd rfl (Or.inl rfl) (Or.inr rfl)) pgs_nil))))
        (pss_cons (ps_set (i := 5) sc_settled.nd rfl (Or.inl rfl) (pe_callN (ok_holders S) (hr.mono (by decide)) rfl S.g_holders (S.F_holders).kp S.kb_holders pass0 (pa_cons (pv 0) (pa_cons (pv 2) pa_nil)) (pk_cons (pv 1) pk_nil)))
        (pss_cons (ps_for PassesOwn.never rfl (pi_list (pv 5)) (pg_name (i := 6) sc_settled.nd rfl (Or.inl rfl))
        (pss_one (ps_expr (pe_meth (pv 0) S.c_Ring S.m_Ring_offer (ok_Ring_offer S) (hr.mono (by decide)) S.b_Ring_offer .nil pass0 (pa_cons (pv 6) (pa_cons (pv 2) (pa_cons (pv 3) (pa_cons (pv 4) pa_nil))))))))
        (pss_one (ps_if (pt_cmpR op_notIn_seq (pv 1) (pv 5) rfl) (pss_one (ps_expr (pe_meth (pv 0) S.c_Ring S.m_Ring_let_go (ok_Ring_let_go S) (hr.mono (by decide)) S.b_Ring_let_go .nil pass0 (pa_cons (pv 1) (pa_cons (pv 2) pa_nil))))) pss_nil)))))), ?_⟩
  refine ⟨_, rfl, A.r, A.dx, _, rfl, h.ring.ob, rfl, _, rfl, A, R, n, rfl, h, hn, fun q H1 nq hq f1 => ?_⟩
  have h1 := h.fin f1
  have rq := noRole h.ring nq
  obtain ⟨us, hus, hP⟩ := id hq
  have kk : ∀ t ∈ keptM R n, t ∈ (R.node n).things := fun t ht => (keptM_perm R n).mem_iff.mp ht
  have keysN : ((keptM R n).map (·.1)).Nodup := ((keptM_perm R n).map (·.1)).nodup_iff.mpr (h.ok.keys n hn)
  have lus := paired_len hP
  refine ⟨q, rfl, ⟨_, .inl (.inl hus)⟩, for_list (K := K) (a := q) (xs := us.map V.ref) (fun i σ H2 => At K H2 A (settledFrom R n ((keptM R n).take i)) ∧ Frame H1 A H2 A ∧ (∀ j t, i ≤ j → (keptM R n)[j]? = some t → hasT (settledFrom R n ((keptM R n).take i)) n t.1) ∧ ∃ a b c d e, σ = [some (.ref A.r), some (.int n), a, b, c, d, e]) ⟨h1, Frame.refl, fun j t _ ht => getT_some.mpr ⟨t, kk t (List.mem_of_getElem? ht), rfl⟩, none, none, none, none, none, rfl⟩ (fun i σ H2 _ g => .inl (.inl (g.2.1.off _ _ hus (fun _ z => nomatch z) rq).1)) ?_ ?_⟩
  · rintro i y σ H2 hi ⟨h2, f2, has, a, b, c, d, e, rfl⟩
    obtain ⟨u, hu, rfl⟩ : ∃ u, us[i]? = some u ∧ y = V.ref u := by
      rw [List.getElem?_map] at hi
      cases q : us[i]? with
      | none => rw [q] at hi; cases hi
      | some u => rw [q] at hi; exact ⟨u, rfl, (Option.some.inj hi).symm⟩
    obtain ⟨t, ht, hrow⟩ := paired_at hP hu
    have hrow2 := f2.tup _ _ hrow
    obtain ⟨kp1, kp2, kp3, kp4⟩ := h.ok.kept n hn t (kk t (List.mem_of_getElem? ht))
    obtain ⟨b1, b2, b3, b4, b5, b6⟩ := settledFrom_but n ((keptM R n).take i) R
    have hn2 : n ∈ (settledFrom R n ((keptM R n).take i)).names := by rw [b1]; exact hn
    have hp2 : 0 ≤ t.1 ∧ t.1 < 2 ^ (settledFrom R n ((keptM R n).take i)).bits := by rw [b2]; exact ⟨kp3, kp4⟩
    have hput2 : (settledFrom R n ((keptM R n).take i)).puts[t.2.1.toNat - 1]? = some (t.1, t.2.2) := by rw [b3]; exact kp2
    have esn := settledFrom_snoc R n ((keptM R n).take i) t
    rw [← take_oneG ht] at esn
    have hasi := has i t (Nat.le_refl _) ht
    have rest : ∀ j t', i + 1 ≤ j → (keptM R n)[j]? = some t' → t'.1 ≠ t.1 ∧ hasT (settledFrom R n ((keptM R n).take i)) n t'.1 := fun j t' hj ht' => by
      refine ⟨fun e => ?_, has j t' (by omega) ht'⟩
      have z1 : ((keptM R n).map (·.1))[i]? = some t.1 := by rw [List.getElem?_map, ht]; rfl
      have z2 : ((keptM R n).map (·.1))[j]? = some t.1 := by rw [List.getElem?_map, ht', ← e]; rfl
      have hl : i < ((keptM R n).map (·.1)).length := (List.getElem?_eq_some_iff.mp z1).1
      have := (List.getElem?_inj hl keysN).mp (z1.trans z2.symm)
      omega
    revert h2 has esn hasi rest hn2 hp2 hput2
    generalize settledFrom R n ((keptM R n).take i) = R2
    intro h2 has hn2 hp2 hput2 esn hasi rest
    refine ⟨u, _, rfl, .inl (.inl hrow2), rfl, _, _, rfl, _, _, rfl, _, _, rfl, rfl, ?_⟩
    refine ⟨_, rfl, _, rfl, _, rfl, rfl, rfl, A, R2, t.1, n, rfl, h2, hn2, hp2, fun q2 H3 nq2 hq3 f3 => ?_⟩
    have h3 := h2.fin f3
    have rq2 := noRole h2.ring nq2
    have hmem := holdersM_mem h2.ok hp2 hn2
    refine ⟨_, rfl, q2, rfl, ⟨_, .inl (.inl hq3)⟩, for_list (K := K) (a := q2) (xs := (holdersM R2 t.1 n).map V.int) (fun i2 σ H4 => At K H4 A (offersM R2 ((holdersM R2 t.1 n).take i2) t.1 t.2.1 t.2.2) ∧ Frame H3 A H4 A ∧ ∃ v, σ = [some (.ref A.r), some (.int n), some (.int t.1), some (.int t.2.1), some (oT t.2.2), some (.ref q2), v]) ⟨h3, Frame.refl, _, rfl⟩ (fun i2 σ H4 _ g => .inl (.inl (g.2.1.off _ _ hq3 (fun _ z => nomatch z) rq2).1)) ?_ ?_⟩
    · rintro i2 y σ H4 hi2 ⟨h4, f4, v, rfl⟩
      obtain ⟨m, hm, rfl⟩ := getI hi2
      obtain ⟨e1, e2, e3, _⟩ := offersM_but R2 ((holdersM R2 t.1 n).take i2) t.1 t.2.1 t.2.2
      refine ⟨_, rfl, A.r, A.dx, _, rfl, h4.ring.ob, rfl, _, rfl, _, rfl, _, rfl, _, rfl, A, _, m, t.1, t.2.1, t.2.2, rfl, h4, ?_, kp1, ?_, ?_, fun H5 h5 f5 => ⟨?_, f4.trans f5, _, rfl⟩⟩
      · rw [e1]; exact hmem m (List.mem_of_getElem? hm)
      · rw [e3]; exact hput2
      · rw [e2]; exact hp2
      · rw [take_one hm, offersM_snoc]
        exact h5
    · rintro σ H4 ⟨h4, f4, v, rfl⟩
      rw [List.length_map, List.take_length] at h4
      have hq4 := (f4.off _ _ hq3 (fun _ z => nomatch z) rq2).1
      obtain ⟨e1, e2, e3, _⟩ := offersM_but R2 (holdersM R2 t.1 n) t.1 t.2.1 t.2.2
      refine ⟨_, rfl, _, rfl, q2, _, rfl, .inl (.inl (.inl hq4)), rfl, flatI _, _, rfl, ?_⟩
      rw [if_pos rfl, inI]
      by_cases c : n ∈ holdersM R2 t.1 n
      · rw [decide_eq_true c]
        have es : settleStep n R2 t = offersM R2 (holdersM R2 t.1 n) t.1 t.2.1 t.2.2 := if_pos c
        refine iteF ⟨?_, (f2.trans (Frame.fin f3)).trans f4, ?_, _, _, _, _, _, rfl⟩
        · rw [esn, es]; exact h4
        · intro j t' hj ht'
          rw [esn, es]
          exact offersM_has _ (rest j t' hj ht').2
      · rw [decide_eq_false c]
        have es : settleStep n R2 t = (offersM R2 (holdersM R2 t.1 n) t.1 t.2.1 t.2.2).letGo n t.1 := if_neg c
        refine iteT ⟨_, rfl, A.r, A.dx, _, rfl, h4.ring.ob, rfl, _, rfl, _, rfl, A, _, n, t.1, rfl, h4, by rw [e1]; exact hn2, offersM_has _ hasi, fun H5 h5 f5 => ⟨?_, ((f2.trans (Frame.fin f3)).trans f4).trans f5, ?_, _, _, _, _, _, rfl⟩⟩
        · rw [esn, es]; exact h5
        · intro j t' hj ht'
          rw [esn, es]
          exact letGo_has (offersM_has _ (rest j t' hj ht').2) (rest j t' hj ht').1
  · rintro σ H2 ⟨h2, f2, _, a, b, c, d, e, rfl⟩
    rw [List.length_map, lus, List.take_length] at h2
    exact k H2 h2 ((Frame.fin f1).trans f2)
def spSettle (K : PySem.W.Frag) : Sp := fun vs H Q _ => ∃ A R n, vs = [.ref A.r, .int n] ∧ At K H A R ∧ n ∈ R.names ∧ R.done.length < 1000000 ∧ ∀ H', At K H' A (settleM R n) → Frame H A H' A → Q .non H'
theorem sc_settle : FnScope ["ring", "name"] ["ring", "name"] (defScope s_settle) := ⟨rfl, rfl, rfl, by decide +kernel, rfl, by decide +kernel, by decide +kernel⟩
theorem ok_settle (S : Say K mg base) : FnOk P w K mg base CX0 16 (He.ga K "settle") (fdO K ("settle", none)) ["ring", "name"] (spSettle K) := by
  refine (S.F_settle).ok sc_settle (fun vs H Q E h => ?_) (fun cdv A outer s H vs Q E hr h => ?_)
  · obtain ⟨A, R, n, rfl, h, hn, hd, k⟩ := h
    rfl
  obtain ⟨A, R, n, rfl, h, hn, hd, k⟩ := h
  have hu := hu_of hr
  refine ⟨_, PSs.nox (pss_cons (ps_expr (pe_call (ok_settled S) (hr.mono (by decide)) rfl S.g_settled (S.F_settled).kp S.b_settled .nil pass0 (pa_cons (pv 0) (pa_cons (pv 1) pa_nil))))
        (pss_one (ps_expr (pe_meth (pv 0) S.c_Ring S.m_Ring_note (ok_Ring_note S) (hr.mono (by decide)) S.b_Ring_note .nil pass0 (pa_cons (pe_tup (pa_cons pe_str (pa_cons (pv 1) pa_nil))) pa_nil))))), ?_⟩
  refine ⟨_, rfl, _, rfl, A, R, n, rfl, h, hn, fun H1 h1 f1 => ?_⟩
  have e := settledFrom_but n (keptM R n) R
  refine ⟨_, rfl, A.r, A.dx, _, rfl, h1.ring.ob, rfl, _, rfl, (by show 2 ≤ sizeLine; decide), fun u hu => ?_⟩
  have f2 := Fin.of (same_new (o := HO.tup [.str "settle", .int n]) hu) h1.tabs
  refine ⟨A, _, _, .flat "settle" [.int n], rfl, h1.fin f2, ?_, ⟨u, rfl, upd_same, rfl⟩, fun H3 h3 f3 => k H3 h3 (f1.trans ((Frame.fin f2).trans f3))⟩
  show (settledFrom R n (keptM R n)).done.length < 1000000
  rw [e.2.2.2.2.1]
  exact hd
end
end Nn
set_option Elab.async false
set_option linter.all false
set_option maxRecDepth 100000
set_option maxHeartbeats 1000000
namespace Nn
open PySem PySem.Spec PyProof.Rows L2 LamX KeyL
/-! ### mending -/
def sourceM (R : RingS) (n : Int) : Int :=
  match memO R (R.node (nxtI R n)).prior with
  | some p => if btw R.bits p n (nxtI R n) = true then p else nxtI R n
  | none => nxtI R n
def notifiedM (R : RingS) (n t : Int) : RingS :=
  match memO R (R.node n).prior with
  | some p => if btw R.bits t p n = true then R.setPrior n (some t) else R
  | none => R.setPrior n (some t)
def steadiedM (R : RingS) (n : Int) : RingS := notifiedM (R.setChain n (sourceM R n :: (R.node (sourceM R n)).chain.dropLast)) (sourceM R n) n
def stabM (R : RingS) (n : Int) : RingS := (steadiedM R n).note (.flat "stabilize" [.int n])
theorem sourceM_mem {R : RingS} (h : Ok R) {n : Int} (hn : n ∈ R.names) : sourceM R n ∈ R.names := by
  have h1 := (nxt_some h hn).2.1
  unfold sourceM
  cases e : memO R (R.node (nxtI R n)).prior with
  | none => exact h1
  | some p =>
    show (if btw R.bits p n (nxtI R n) = true then p else nxtI R n) ∈ R.names
    by_cases c : btw R.bits p n (nxtI R n) = true
    · rw [if_pos c]; exact (memO_some e).2
    · rw [if_neg c]; exact h1
/-- nobody comes or goes, nothing told -/
def SameN (R R' : RingS) : Prop := R'.names = R.names ∧ R'.bits = R.bits ∧ R'.puts = R.puts ∧ R'.fixed = R.fixed ∧ R'.done = R.done ∧ R'.many = R.many
theorem notifiedM_but (R : RingS) (n t : Int) : SameBut R (notifiedM R n t) := by
  unfold notifiedM
  cases e : memO R (R.node n).prior with
  | none => exact ⟨rfl, rfl, rfl, rfl, rfl, rfl⟩
  | some p =>
    show SameBut R (if btw R.bits t p n = true then R.setPrior n (some t) else R)
    by_cases c : btw R.bits t p n = true
    · rw [if_pos c]; exact ⟨rfl, rfl, rfl, rfl, rfl, rfl⟩
    · rw [if_neg c]; exact SameBut.refl R
theorem steadiedM_but (R : RingS) (n : Int) : SameBut R (steadiedM R n) := SameBut.trans (R1 := R.setChain n (sourceM R n :: (R.node (sourceM R n)).chain.dropLast)) ⟨rfl, rfl, rfl, rfl, rfl, rfl⟩ (notifiedM_but ..)
section
variable {P : Program} {w : World} {K : PySem.W.Frag} {mg : Str → Option Value} {base : Heap}
theorem bfalse {b : Bool} (h : ¬ b = true) : b = false := by cases b with
  | false => rfl
  | true => exact absurd rfl h
def spSource (K : PySem.W.Frag) : Sp := fun vs H Q _ => ∃ A R n, vs = [.ref A.r, .int n] ∧ At K H A R ∧ n ∈ R.names ∧ ∀ H', Fin K H H' → Q (.int (sourceM R n)) H'
theorem sc_source_of : FnScope ["ring", "name", "ahead", "prior"] ["ring", "name"] (defScope s_source_of) := ⟨rfl, rfl, rfl, by decide +kernel, rfl, by decide +kernel, by decide +kernel⟩
theorem ok_source_of (S : Say K mg base) : FnOk P w K mg base CX0 6 (He.ga K "source_of") (fdO K ("source_of", none)) ["ring", "name"] (spSource K) := by
  refine (S.F_source_of).ok sc_source_of (fun vs H Q E h => ?_) (fun cdv A outer s H vs Q E hr h => ?_)
  · obtain ⟨A, R, n, rfl, h, hn, k⟩ := h
    rfl
  obtain ⟨A, R, n, rfl, h, hn, k⟩ := h
  have hu := hu_of hr
  refine ⟨_, PSs.nox (pss_cons (ps_set (i := 2) sc_source_of.nd rfl (Or.inl rfl) (pe_meth (pv 0) S.c_Ring S.m_Ring_next_of (ok_Ring_next_of S) (hr.mono (by decide)) S.b_Ring_next_of .nil pass0 (pa_cons (pv 1) pa_nil)))
        (pss_cons (ps_set (i := 3) sc_source_of.nd rfl (Or.inl rfl) (pe_meth (pv 0) S.c_Ring S.m_Ring_before (ok_Ring_before S) (hr.mono (by decide)) S.b_Ring_before .nil pass0 (pa_cons (pv 2) pa_nil)))
        (pss_cons (ps_if (PW.pt (pw_and (pt_val (pe_meth (pv 0) S.c_Ring S.m_Ring_is_member (ok_Ring_is_member S) (hr.mono (by decide)) S.b_Ring_is_member .nil pass0 (pa_cons (pv 3) pa_nil))) (pw_and1 (pt_val (pe_meth (pe_meth0 (pv 0) S.c_Ring S.m_Ring_space (ok_Ring_space S) (hr.mono (by decide)) S.b_Ring_space .nil pass0) S.c_Space S.m_Space_is_between (ok_Space_is_between S) (hr.mono (by decide)) S.b_Space_is_between .nil pass0 (pa_cons (pv 3) (pa_cons (pv 1) (pa_cons (pv 2) pa_nil)))))))) (pss_one (ps_ret (pv 3))) pss_nil)
        (pss_one (ps_ret (pv 2)))))), ?_⟩
  obtain ⟨e1, e2, e3⟩ := nxt_some h.ok hn
  refine ⟨_, rfl, A.r, A.dx, _, rfl, h.ring.ob, rfl, _, rfl, A, R, n, rfl, h, hn, fun H1 f1 => ?_⟩
  have h1 := h.fin f1
  obtain ⟨_, dxs, hsp⟩ := id h1.ring.space
  rw [e1]
  refine ⟨_, rfl, A.r, A.dx, _, rfl, h1.ring.ob, rfl, _, rfl, A, R, nxtI R n, rfl, h1.ring, h1.ok, e2, ?_⟩
  refine ⟨_, rfl, A.r, A.dx, _, rfl, h1.ring.ob, rfl, _, rfl, A, R, _, rfl, h1.ring, h1.ok, askO _, ?_⟩
  rw [memV_o]
  have k' := k H1 f1
  unfold sourceM at k'
  cases e : memO R (R.node (nxtI R n)).prior with
  | none =>
    rw [e] at k'
    exact ⟨false, rfl, iteF (iteF ⟨_, rfl, k'⟩)⟩
  | some p =>
    rw [e] at k'
    have k2 : Q (.int (if btw R.bits p n (nxtI R n) = true then p else nxtI R n)) H1 := k'
    obtain ⟨ep, _⟩ := memO_some e
    rw [ep]
    refine ⟨true, rfl, iteT ⟨_, rfl, A.r, A.dx, _, rfl, h1.ring.ob, rfl, A, R, rfl, h1.ring, A.sp, dxs, _, rfl, hsp, rfl, _, rfl, _, rfl, _, rfl, A.sp, R.bits, p, n, _, rfl, h1.ring.space, _, rfl, ?_⟩⟩
    by_cases c : btw R.bits p n (nxtI R n) = true
    · rw [if_pos c] at k2
      rw [c]
      exact iteT ⟨_, rfl, k2⟩
    · rw [if_neg c] at k2
      rw [bfalse c]
      exact iteF ⟨_, rfl, k2⟩
def spNotified (K : PySem.W.Frag) : Sp := fun vs H Q _ => ∃ A R n t, vs = [.ref A.r, .int n, .int t] ∧ At K H A R ∧ n ∈ R.names ∧ t ∈ R.names ∧ ∀ H', At K H' A (notifiedM R n t) → Frame H A H' A → Q .non H'
theorem sc_notified : FnScope ["ring", "name", "teller", "node"] ["ring", "name", "teller"] (defScope s_notified) := ⟨rfl, rfl, rfl, by decide +kernel, rfl, by decide +kernel, by decide +kernel⟩
theorem ok_notified (S : Say K mg base) : FnOk P w K mg base CX0 5 (He.ga K "notified") (fdO K ("notified", none)) ["ring", "name", "teller"] (spNotified K) := by
  refine (S.F_notified).ok sc_notified (fun vs H Q E h => ?_) (fun cdv A outer s H vs Q E hr h => ?_)
  · obtain ⟨A, R, n, t, rfl, h, hn, ht, k⟩ := h
    rfl
  obtain ⟨A, R, n, t, rfl, h, hn, ht, k⟩ := h
  have hu := hu_of hr
  refine ⟨_, PSs.nox (pss_cons (ps_set (i := 3) sc_notified.nd rfl (Or.inl rfl) (pe_meth (pv 0) S.c_Ring S.m_Ring_node (ok_Ring_node S) (hr.mono (by decide)) S.b_Ring_node .nil pass0 (pa_cons (pv 1) pa_nil)))
        (pss_one (ps_if (PW.pt (pw_or (pt_not (pt_val (pe_meth (pv 0) S.c_Ring S.m_Ring_is_member (ok_Ring_is_member S) (hr.mono (by decide)) S.b_Ring_is_member .nil pass0 (pa_cons (pe_fld (pv 3) rfl) pa_nil)))) (pw_or1 (pt_val (pe_meth (pe_meth0 (pv 0) S.c_Ring S.m_Ring_space (ok_Ring_space S) (hr.mono (by decide)) S.b_Ring_space .nil pass0) S.c_Space S.m_Space_is_between (ok_Space_is_between S) (hr.mono (by decide)) S.b_Space_is_between .nil pass0 (pa_cons (pv 2) (pa_cons (pe_fld (pv 3) rfl) (pa_cons (pv 1) pa_nil)))))))) (pss_one (ps_fld (pv 3) (pv 2) rfl)) pss_nil))), ?_⟩
  have hN := h.ring.node n hn
  obtain ⟨_, dxs, hsp⟩ := id h.ring.space
  refine ⟨_, rfl, A.r, A.dx, _, rfl, h.ring.ob, rfl, _, rfl, A, R, n, rfl, h.ring, h.ok, hn, ?_⟩
  refine ⟨_, rfl, A.r, A.dx, _, rfl, h.ring.ob, rfl, _, rfl, A.nd n, _, A.nx n, _, _, rfl, hN.ob, S.c_Node, S.n_Node_prior, rfl, A, R, _, rfl, h.ring, h.ok, askO _, ?_⟩
  rw [memV_o]
  have wr : notifiedM R n t = R.setPrior n (some t) → sFld K (tVar 3) (tVar 2) "prior" { nx := fun x H' => Q V.non H', rt := Q } (List.set (L2.start ["ring", "name", "teller", "node"] [V.ref A.r, V.int n, V.int t]) 3 (some (V.ref (A.nd n)))) H := by
    intro e
    rw [e] at k
    have z := h.prior hn (p := some t) fun x hx => by rw [← Option.some.inj hx]; exact h.ok.pts t ht
    exact ⟨_, rfl, _, rfl, A.nd n, _, A.nx n, _, rfl, hN.ob, S.c_Node, S.n_Node_prior, (by show 4 < 1000; decide), k _ z.1 z.2⟩
  cases e : memO R (R.node n).prior with
  | none => exact ⟨false, rfl, iteT (iteT (wr (by unfold notifiedM; rw [e])))⟩
  | some p =>
    obtain ⟨ep, _⟩ := memO_some e
    have en : notifiedM R n t = if btw R.bits t p n = true then R.setPrior n (some t) else R := by unfold notifiedM; rw [e]
    refine ⟨true, rfl, iteF ⟨_, rfl, A.r, A.dx, _, rfl, h.ring.ob, rfl, A, R, rfl, h.ring, A.sp, dxs, _, rfl, hsp, rfl, _, rfl, _, rfl, A.nd n, _, A.nx n, _, _, rfl, hN.ob, S.c_Node, S.n_Node_prior, rfl, _, rfl, ?_⟩⟩
    rw [ep]
    refine ⟨A.sp, R.bits, t, p, n, rfl, h.ring.space, _, rfl, ?_⟩
    by_cases c : btw R.bits t p n = true
    · rw [c]
      exact iteT (wr (by rw [en, if_pos c]))
    · rw [bfalse c]
      rw [en, if_neg c] at k
      exact iteF (k H h Frame.refl)
def spSteady (K : PySem.W.Frag) : Sp := fun vs H Q _ => ∃ A R n, vs = [.ref A.r, .int n] ∧ At K H A R ∧ n ∈ R.names ∧ ∀ H' A', At K H' A' (steadiedM R n) → Frame H A H' A' → Q .non H'
theorem sc_steadied : FnScope ["ring", "name", "source", "node"] ["ring", "name"] (defScope s_steadied) := ⟨rfl, rfl, rfl, by decide +kernel, rfl, by decide +kernel, by decide +kernel⟩
theorem ok_steadied (S : Say K mg base) : FnOk P w K mg base CX0 7 (He.ga K "steadied") (fdO K ("steadied", none)) ["ring", "name"] (spSteady K) := by
  refine (S.F_steadied).ok sc_steadied (fun vs H Q E h => ?_) (fun cdv A outer s H vs Q E hr h => ?_)
  · obtain ⟨A, R, n, rfl, h, hn, k⟩ := h
    rfl
  obtain ⟨A, R, n, rfl, h, hn, k⟩ := h
  have hu := hu_of hr
  refine ⟨_, PSs.nox (pss_cons (ps_set (i := 2) sc_steadied.nd rfl (Or.inl rfl) (pe_call (ok_source_of S) (hr.mono (by decide)) rfl S.g_source_of (S.F_source_of).kp S.b_source_of .nil pass0 (pa_cons (pv 0) (pa_cons (pv 1) pa_nil))))
        (pss_cons (ps_set (i := 3) sc_steadied.nd rfl (Or.inl rfl) (pe_meth (pv 0) S.c_Ring S.m_Ring_node (ok_Ring_node S) (hr.mono (by decide)) S.b_Ring_node .nil pass0 (pa_cons (pv 1) pa_nil)))
        (pss_cons (ps_fld (pv 3) (pe_call (ok_adopted S) (hr.mono (by decide)) rfl S.g_adopted (S.F_adopted).kp S.b_adopted .nil pass0 (pa_cons (pv 2) (pa_cons (pe_meth (pv 0) S.c_Ring S.m_Ring_links (ok_Ring_links S) (hr.mono (by decide)) S.b_Ring_links .nil pass0 (pa_cons (pv 2) pa_nil)) pa_nil))) rfl)
        (pss_one (ps_expr (pe_call (ok_notified S) (hr.mono (by decide)) rfl S.g_notified (S.F_notified).kp S.b_notified .nil pass0 (pa_cons (pv 0) (pa_cons (pv 2) (pa_cons (pv 1) pa_nil))))))))), ?_⟩
  have hs := sourceM_mem h.ok hn
  refine ⟨_, rfl, _, rfl, A, R, n, rfl, h, hn, fun H1 f1 => ?_⟩
  have h1 := h.fin f1
  refine ⟨_, rfl, A.r, A.dx, _, rfl, h1.ring.ob, rfl, _, rfl, A, R, n, rfl, h1.ring, h1.ok, hn, ?_⟩
  refine ⟨_, rfl, _, rfl, A.r, A.dx, _, rfl, h1.ring.ob, rfl, _, rfl, A, R, sourceM R n, rfl, h1, hs, fun l H2 nl hl f2 => ?_⟩
  have h2 := h1.fin f2
  have cl := h.ok.clen _ hs
  have hm := h.ok.many
  have cne : (R.node (sourceM R n)).chain ≠ [] := fun e => by rw [e] at cl; simp at cl; omega
  refine ⟨_, l, _, rfl, .inl (.inl hl), cne, by omega, fun q H3 hq hql s3 => ?_⟩
  have f3 := Fin.of s3 h2.tabs
  have h3 := h2.fin f3
  have f03 := (f1.trans f2).trans f3
  have nq : NotOld H q := (notOld_of hq).back (f1.trans f2)
  have hN := h3.ring.node n hn
  obtain ⟨z1, z2⟩ := h3.chain hn hql (noRole h.ring nq) rfl (by rw [List.length_cons, List.length_dropLast, cl]; omega)
    (fun m hmm => by
      rcases List.mem_cons.mp hmm with e | e
      · rw [e]; exact h.ok.pts _ hs
      · exact h.ok.cpts _ hs m ((List.dropLast_sublist _).subset e)) ⟨_, List.mem_cons_self .., hs⟩
  refine ⟨_, rfl, A.nd n, _, A.nx n, _, rfl, hN.ob, S.c_Node, S.n_Node_chain, (by show 4 < 1000; decide), ?_⟩
  refine ⟨_, rfl, _, rfl, _, rfl, A.setC n q, R.setChain n (sourceM R n :: (R.node (sourceM R n)).chain.dropLast), sourceM R n, n, rfl, z1, hs, hn, fun H4 h4 f4 => ?_⟩
  exact k H4 _ h4 ((z2 f03 nq).trans f4)
def spStab (K : PySem.W.Frag) : Sp := fun vs H Q _ => ∃ A R n, vs = [.ref A.r, .int n] ∧ At K H A R ∧ n ∈ R.names ∧ R.done.length < 1000000 ∧ ∀ H' A', At K H' A' (stabM R n) → Frame H A H' A' → Q .non H'
theorem sc_stabilize : FnScope ["ring", "name"] ["ring", "name"] (defScope s_stabilize) := ⟨rfl, rfl, rfl, by decide +kernel, rfl, by decide +kernel, by decide +kernel⟩
theorem ok_stabilize (S : Say K mg base) : FnOk P w K mg base CX0 8 (He.ga K "stabilize") (fdO K ("stabilize", none)) ["ring", "name"] (spStab K) := by
  refine (S.F_stabilize).ok sc_stabilize (fun vs H Q E h => ?_) (fun cdv A outer s H vs Q E hr h => ?_)
  · obtain ⟨A, R, n, rfl, h, hn, hd, k⟩ := h
    rfl
  obtain ⟨A, R, n, rfl, h, hn, hd, k⟩ := h
  have hu := hu_of hr
  refine ⟨_, PSs.nox (pss_cons (ps_expr (pe_meth (pv 0) S.c_Ring S.m_Ring_node (ok_Ring_node S) (hr.mono (by decide)) S.b_Ring_node .nil pass0 (pa_cons (pv 1) pa_nil)))
        (pss_cons (ps_expr (pe_call (ok_steadied S) (hr.mono (by decide)) rfl S.g_steadied (S.F_steadied).kp S.b_steadied .nil pass0 (pa_cons (pv 0) (pa_cons (pv 1) pa_nil))))
        (pss_one (ps_expr (pe_meth (pv 0) S.c_Ring S.m_Ring_note (ok_Ring_note S) (hr.mono (by decide)) S.b_Ring_note .nil pass0 (pa_cons (pe_tup (pa_cons pe_str (pa_cons (pv 1) pa_nil))) pa_nil)))))), ?_⟩
  refine ⟨_, rfl, A.r, A.dx, _, rfl, h.ring.ob, rfl, _, rfl, A, R, n, rfl, h.ring, h.ok, hn, ?_⟩
  refine ⟨_, rfl, _, rfl, A, R, n, rfl, h, hn, fun H1 A1 h1 f1 => ?_⟩
  have e := steadiedM_but R n
  refine ⟨_, rfl, A1.r, A1.dx, _, by rw [← f1.r], h1.ring.ob, rfl, _, rfl, (by show 2 ≤ sizeLine; decide), fun u hu => ?_⟩
  have f2 := Fin.of (same_new (o := HO.tup [.str "stabilize", .int n]) hu) h1.tabs
  exact ⟨A1, _, _, .flat "stabilize" [.int n], by rw [f1.r]; rfl, h1.fin f2, by rw [e.2.2.2.2.1]; exact hd, ⟨u, rfl, upd_same, rfl⟩, fun H3 h3 f3 => k H3 A1 h3 (f1.trans ((Frame.fin f2).trans f3))⟩
end
end Nn
set_option Elab.async false
set_option linter.all false
set_option maxRecDepth 100000
set_option maxHeartbeats 1000000
namespace Nn
open PySem PySem.Spec PyProof.Rows L2 LamX KeyL
/-! ### fingers -/
def refStep (n : Int) (R : RingS) (k : Nat) : RingS := R.setFar n ((R.node n).far.set k (some (ansM R (farPt R.bits n k) n)))
def refFrom (R : RingS) (n : Int) (ks : List Nat) : RingS := ks.foldl (refStep n) R
def refingM (R : RingS) (n : Int) : RingS := refFrom R n (List.range R.bits)
def fixM (R : RingS) (n : Int) : RingS := (refingM R n).note (.flat "fix" [.int n])
theorem refFrom_but (n : Int) : ∀ (ks : List Nat) (R : RingS), SameBut R (refFrom R n ks)
  | [], R => SameBut.refl R
  | k :: ks, R => SameBut.trans (R1 := refStep n R k) ⟨rfl, rfl, rfl, rfl, rfl, rfl⟩ (refFrom_but n ks _)
theorem refFrom_snoc (R : RingS) (n : Int) (ks : List Nat) (k : Nat) : refFrom R n (ks ++ [k]) = refStep n (refFrom R n ks) k := by unfold refFrom; rw [List.foldl_append]; rfl
theorem farPt_rng (b : Nat) (n : Int) (k : Nat) : 0 ≤ farPt b n k ∧ farPt b n k < 2 ^ b := ⟨Int.emod_nonneg _ (Int.ne_of_gt (two_pos b)), Int.emod_lt_of_pos _ (two_pos b)⟩
/-! ### rounds -/
def allM (f : RingS → Int → RingS) (R : RingS) (ns : List Int) : RingS := ns.foldl f R
def mendM (R : RingS) (ns : List Int) : RingS := (allM settledM (allM refingM (allM steadiedM R ns) ns) ns).note (.mend ns)
theorem allM_but {f : RingS → Int → RingS} (hf : ∀ R n, SameBut R (f R n)) : ∀ (ns : List Int) (R : RingS), SameBut R (allM f R ns)
  | [], R => SameBut.refl R
  | n :: ns, R => (hf R n).trans (allM_but hf ns _)
theorem allM_snoc (f : RingS → Int → RingS) (R : RingS) (ns : List Int) (n : Int) : allM f R (ns ++ [n]) = f (allM f R ns) n := by unfold allM; rw [List.foldl_append]; rfl
theorem refingM_but (R : RingS) (n : Int) : SameBut R (refingM R n) := refFrom_but ..
theorem settledM_but (R : RingS) (n : Int) : SameBut R (settledM R n) := settledFrom_but ..
section
variable {P : Program} {w : World} {K : PySem.W.Frag} {mg : Str → Option Value} {base : Heap}
def spRefing (K : PySem.W.Frag) : Sp := fun vs H Q _ => ∃ A R n, vs = [.ref A.r, .int n] ∧ At K H A R ∧ n ∈ R.names ∧ ∀ H', At K H' A (refingM R n) → Frame H A H' A → Q .non H'
theorem sc_refingered : FnScope ["ring", "name", "node", "k"] ["ring", "name"] (defScope s_refingered) := ⟨rfl, rfl, rfl, by decide +kernel, rfl, by decide +kernel, by decide +kernel⟩
theorem ok_refingered (S : Say K mg base) : FnOk P w K mg base CX0 14 (He.ga K "refingered") (fdO K ("refingered", none)) ["ring", "name"] (spRefing K) := by
  refine (S.F_refingered).ok sc_refingered (fun vs H Q E h => ?_) (fun cdv A outer s H vs Q E hr h => ?_)
  · obtain ⟨A, R, n, rfl, h, hn, k⟩ := h
    rfl
  obtain ⟨A, R, n, rfl, h, hn, k⟩ := h
  have hu := hu_of hr
  refine ⟨_, PSs.nox (pss_cons (ps_set (i := 2) sc_refingered.nd rfl (Or.inl rfl) (pe_meth (pv 0) S.c_Ring S.m_Ring_node (ok_Ring_node S) (hr.mono (by decide)) S.b_Ring_node .nil pass0 (pa_cons (pv 1) pa_nil)))
        (pss_one (ps_for PassesOwn.never rfl (pi_range1 rfl S.z_range (pa_cons (pe_meth0 (pe_meth0 (pv 0) S.c_Ring S.m_Ring_space (ok_Ring_space S) (hr.mono (by decide)) S.b_Ring_space .nil pass0) S.c_Space S.m_Space_bits (ok_Space_bits S) (hr.mono (by decide)) S.b_Space_bits .nil pass0) pa_nil)) (pg_name (i := 3) sc_refingered.nd rfl (Or.inl rfl))
        (pss_one (ps_asg (pe_meth0 (pe_callN (ok_look S) (hr.mono (by decide)) rfl S.g_look (S.F_look).kp S.kb1_look pass0 (pa_cons (pv 0) (pa_cons (pe_call (ok_far_point S) (hr.mono (by decide)) rfl S.g_far_point (S.F_far_point).kp S.b_far_point .nil pass0 (pa_cons (pe_meth0 (pv 0) S.c_Ring S.m_Ring_space (ok_Ring_space S) (hr.mono (by decide)) S.b_Ring_space .nil pass0) (pa_cons (pv 1) (pa_cons (pv 3) pa_nil)))) pa_nil)) (pk_cons (pv 1) pk_nil)) S.c_Found S.m_Found_answer (ok_Found_answer S) (hr.mono (by decide)) S.b_Found_answer .nil pass0) (pg_sub (pe_fld (pv 2) rfl) (pv 3) set_list)))))), ?_⟩
  have hb := h.ok.bits
  obtain ⟨_, dxs0, hsp0⟩ := id h.ring.space
  refine ⟨_, rfl, A.r, A.dx, _, rfl, h.ring.ob, rfl, _, rfl, A, R, n, rfl, h.ring, h.ok, hn, ?_⟩
  refine ⟨_, rfl, A.r, A.dx, _, rfl, h.ring.ob, rfl, A, R, rfl, h.ring, A.sp, dxs0, _, rfl, hsp0, rfl, A.sp, R.bits, rfl, h.ring.space, _, rfl, by omega, by omega, ?_⟩
  rw [Int.toNat_natCast]
  refine for_it walk_range (fun i σ H2 => At K H2 A (refFrom R n (List.range i)) ∧ Frame H A H2 A ∧ ∃ v, σ = [some (.ref A.r), some (.int n), some (.ref (A.nd n)), v]) ⟨h, Frame.refl, none, rfl⟩ (fun _ _ _ _ _ => True.intro) ?_ ?_
  · rintro i y σ H2 H2' hi ⟨h2, f2, v, rfl⟩ ⟨rfl, rfl⟩
    have ei : (0 : Int) + ((i : Nat) : Int) = ((i : Nat) : Int) := Int.zero_add _
    show gName 3 (.int (0 + ((i : Nat) : Int))) _ _ _
    rw [ei]
    obtain ⟨b1, b2, b3, b4, b5, b6⟩ := refFrom_but n (List.range i) R
    have hn2 : n ∈ (refFrom R n (List.range i)).names := by rw [b1]; exact hn
    have es := refFrom_snoc R n (List.range i) i
    rw [← List.range_succ] at es
    rw [← b2] at hi hb
    revert h2 es hn2
    generalize refFrom R n (List.range i) = R2 at hi hb
    intro h2 hn2 es
    obtain ⟨_, dxs, hsp⟩ := id h2.ring.space
    have hr := farPt_rng R2.bits n i
    refine ⟨_, rfl, _, rfl, A.r, A.dx, _, rfl, h2.ring.ob, rfl, A, R2, rfl, h2.ring, _, rfl, _, rfl, A.sp, R2.bits, i, n, rfl, h2.ring.space, by omega, _, rfl, rfl, rfl, A, R2, farPt R2.bits n i, n, rfl, h2, hn2, hr, fun f H3 nf hf f3 => ?_⟩
    have h3 := h2.fin f3
    obtain ⟨fdx, ft, frs, fus, fob, _⟩ := id hf.ob
    have hN := h3.ring.node n hn2
    have fl := h3.ok.flen n hn2
    obtain ⟨z1, z2⟩ := h3.far hn2 (f := (R2.node n).far.set i (some (ansM R2 (farPt R2.bits n i) n))) (by rw [List.length_set]; exact fl) (fun p hp => by
      rcases List.mem_or_eq_of_mem_set hp with z | z
      · exact h3.ok.fpts n hn2 p z
      · rw [Option.some.inj z]
        exact h3.ok.pts _ (lookM_way h3.ok hr hn2).2)
    refine ⟨f, fdx, _, rfl, fob, rfl, f, _, _, _, rfl, hf, _, rfl, A.nd n, _, A.nx n, _, _, rfl, hN.ob, S.c_Node, S.n_Node_far, rfl, _, rfl, A.af n, _, i, i, rfl, rfl, hN.far, ?_, ?_⟩
    · rw [List.length_map, fl]
      unfold ixN
      rw [if_pos (by omega), if_pos (by omega), Int.toNat_natCast]
    · have em : ((R2.node n).far.set i (some (ansM R2 (farPt R2.bits n i) n))).map oV = ((R2.node n).far.map oV).set i (.int (ansM R2 (farPt R2.bits n i) n)) := by rw [List.map_set]; rfl
      rw [em] at z1 z2
      refine ⟨?_, (f2.trans (Frame.fin f3)).trans z2, _, rfl⟩
      rw [es]
      exact z1
  · rintro σ H2 ⟨h2, f2, v, rfl⟩
    exact k H2 h2 f2
def spFix (K : PySem.W.Frag) : Sp := fun vs H Q _ => ∃ A R n, vs = [.ref A.r, .int n] ∧ At K H A R ∧ n ∈ R.names ∧ R.done.length < 1000000 ∧ ∀ H', At K H' A (fixM R n) → Frame H A H' A → Q .non H'
theorem sc_fix : FnScope ["ring", "name"] ["ring", "name"] (defScope s_fix) := ⟨rfl, rfl, rfl, by decide +kernel, rfl, by decide +kernel, by decide +kernel⟩
theorem ok_fix (S : Say K mg base) : FnOk P w K mg base CX0 15 (He.ga K "fix") (fdO K ("fix", none)) ["ring", "name"] (spFix K) := by
  refine (S.F_fix).ok sc_fix (fun vs H Q E h => ?_) (fun cdv A outer s H vs Q E hr h => ?_)
  · obtain ⟨A, R, n, rfl, h, hn, hd, k⟩ := h
    rfl
  obtain ⟨A, R, n, rfl, h, hn, hd, k⟩ := h
  have hu := hu_of hr
  refine ⟨_, PSs.nox (pss_cons (ps_expr (pe_meth (pv 0) S.c_Ring S.m_Ring_node (ok_Ring_node S) (hr.mono (by decide)) S.b_Ring_node .nil pass0 (pa_cons (pv 1) pa_nil)))
        (pss_cons (ps_expr (pe_call (ok_refingered S) (hr.mono (by decide)) rfl S.g_refingered (S.F_refingered).kp S.b_refingered .nil pass0 (pa_cons (pv 0) (pa_cons (pv 1) pa_nil))))
        (pss_one (ps_expr (pe_meth (pv 0) S.c_Ring S.m_Ring_note (ok_Ring_note S) (hr.mono (by decide)) S.b_Ring_note .nil pass0 (pa_cons (pe_tup (pa_cons pe_str (pa_cons (pv 1) pa_nil))) pa_nil)))))), ?_⟩
  refine ⟨_, rfl, A.r, A.dx, _, rfl, h.ring.ob, rfl, _, rfl, A, R, n, rfl, h.ring, h.ok, hn, ?_⟩
  refine ⟨_, rfl, _, rfl, A, R, n, rfl, h, hn, fun H1 h1 f1 => ?_⟩
  have e := refingM_but R n
  refine ⟨_, rfl, A.r, A.dx, _, rfl, h1.ring.ob, rfl, _, rfl, (by show 2 ≤ sizeLine; decide), fun u hu => ?_⟩
  have f2 := Fin.of (same_new (o := HO.tup [.str "fix", .int n]) hu) h1.tabs
  exact ⟨A, _, _, .flat "fix" [.int n], rfl, h1.fin f2, by rw [e.2.2.2.2.1]; exact hd, ⟨u, rfl, upd_same, rfl⟩, fun H3 h3 f3 => k H3 h3 (f1.trans ((Frame.fin f2).trans f3))⟩
/-! equality of lists of ints -/
theorem dpI {H : Hp} {a : Addr} {ns : List Int} (h : SqL K H a (ns.map V.int)) : Dp K H (.ref a) (.list (ns.map PyData.int)) := by
  refine .lst h ?_
  clear h
  induction ns with
  | nil => exact .nil
  | cons n r ih => exact .cons (.int n) ih
theorem eqvI (ns ms : List Int) : PyData.eqv (.list (ns.map PyData.int)) (.list (ms.map PyData.int)) = decide (ns = ms) := PySem.W.Datum.eqv ns ms
theorem shapedI (ns : List Int) : SeqAt.shaped (.list (ns.map PyData.int)) = true := by
  have h1 : PyData.canLay0 (.list (ns.map PyData.int)) = true := by
    rw [PyData.canLay0]
    induction ns with
    | nil => rfl
    | cons n r ih => rw [List.map_cons, PyData.canLayAll0, ih, PyData.canLay0]; rfl
  have h2 : PyData.depth (.list (ns.map PyData.int)) ≤ 1 := PySem.W.Datum.depth_le (α := List Int) ns
  unfold SeqAt.shaped
  rw [h1, decide_eq_true (show PyData.depth (.list (ns.map PyData.int)) ≤ 64 by omega)]
  rfl
def spIsOrder (K : PySem.W.Frag) : Sp := fun vs H Q _ => ∃ (A : RA) (R : RingS) (l : Addr) (ns : List Int), vs = [.ref A.r, .ref l] ∧ At K H A R ∧ H l = some (.lst (ns.map V.int)) ∧ ns.Perm R.names ∧ ∀ H', Fin K H H' → Q (.bl true) H'
theorem sc_is_order : FnScope ["ring", "thing", "one"] ["ring", "thing"] (defScope s_is_order) := ⟨rfl, rfl, rfl, by decide +kernel, rfl, by decide +kernel, by decide +kernel⟩
theorem ok_is_order (S : Say K mg base) : FnOk P w K mg base CX0 4 (He.ga K "is_order") (fdO K ("is_order", none)) ["ring", "thing"] (spIsOrder K) := by
  refine (S.F_is_order).ok sc_is_order (fun vs H Q E h => ?_) (fun cdv A outer s H vs Q E hr h => ?_)
  · obtain ⟨A, R, l, ns, rfl, h, hl, hp, k⟩ := h
    rfl
  obtain ⟨A, R, l, ns, rfl, h, hl, hp, k⟩ := h
  have hu := hu_of hr
  refine ⟨_, PSs.nox (pss_cons (ps_if (PW.pt (pw_or (pt_not (pt_val (pe_callB call_isi (by rfl) S.z_isinstance (by decide +kernel) (pa_cons (pv 1) (pa_cons (pe_bltn (v := .ty "list") rfl S.z_list (by decide +kernel) rfl) pa_nil))))) (pw_or1 (pt_cmpR op_ne (pe_callB call_len_seq (by rfl) S.z_len (by decide +kernel) (pa_cons (pv 1) pa_nil)) (pe_callB call_len_seq (by rfl) S.z_len (by decide +kernel) (pa_cons (pe_meth0 (pv 0) S.c_Ring S.m_Ring_members (ok_Ring_members S) (hr.mono (by decide)) S.b_Ring_members .nil pass0) pa_nil)) (nomark _))))) (pss_one (ps_ret pe_bl)) pss_nil)
        (pss_one (ps_ret (pe_and (pe_callB (cr_all rfl) (by rfl) S.z_all (by decide +kernel) (pa_cons (pe_lc (own := [("one", 2)]) rfl sc_is_order.nd (pi_list (pv 1)) (blkOk_by (own := [("one", 2)]) (N := ["ring", "thing", "one"]) (sc := defScope s_is_order) (by decide +kernel)) (fun _ _ _ _ _ => (pg_name (i := 2) sc_is_order.nd rfl (Or.inl rfl))) (fun _ _ _ _ _ => pts_nil) (fun _ _ _ _ _ => (pe_meth (pv 0) S.c_Ring S.m_Ring_is_member (ok_Ring_is_member S) (hr.mono (by decide)) S.b_Ring_is_member .nil pass0 (pa_cons (pv 2) pa_nil)))) pa_nil)) (pe_one (pe_cmpR (op_eqD hr.units) (pe_callB cr_sortedI (by rfl) S.z_sorted (by decide +kernel) (pa_cons (pv 1) pa_nil)) (pe_meth0 (pv 0) S.c_Ring S.m_Ring_members (ok_Ring_members S) (hr.mono (by decide)) S.b_Ring_members .nil pass0) (nomark _))))))), ?_⟩
  have kl : kitB "list" "list" = some true := by decide +kernel
  have len : (ns.map V.int).length = ns.length := List.length_map ..
  have few := h.ok.few
  have el := hp.length_eq
  refine ⟨_, rfl, _, _, _, _, _, rfl, .ty "list", .base (.lst hl), kit_ty kl, _, rfl, ?_⟩
  refine iteF ⟨_, rfl, l, _, rfl, .inl (.inl (.inl hl)), _, rfl, A.r, A.dx, _, rfl, h.ring.ob, rfl, A, R, rfl, h, fun q H1 nq hq f1 => ?_⟩
  have h1 := h.fin f1
  have hl1 := f1.1 _ _ hl fun _ z => nomatch z
  refine ⟨q, _, rfl, .inl (.inl (.inl hq)), rfl, _, rfl, ?_⟩
  have e0 : decide (V.int ((ns.map V.int).length : Nat) = V.int (((membersM R).map V.int).length : Nat)) = true := by
    rw [decide_eq_true_eq, len, List.length_map, membersM_len, el]
  rw [e0]
  refine iteF ⟨_, rfl, l, rfl, ⟨_, .inl (.inl hl1)⟩, fun D hD => ?_⟩
  refine lc_list (K := K) (a := l) (xs := ns.map V.int) (fun i H2 => Same H1 H2 ∧ H2 D = some (.lst ((List.replicate i true).map V.bl))) ⟨same_new hD, upd_same⟩ (fun i H2 _ h => .inl (.inl (h.1 _ _ hl1))) ?_ ?_
  · rintro i x H2 hi ⟨s2, hd⟩
    obtain ⟨n, hn1, rfl⟩ := getI hi
    have h2 := h1.fin (Fin.of s2 h1.tabs)
    have hm : n ∈ R.names := hp.mem_iff.mp (List.mem_of_getElem? hn1)
    have hi2 : i < ns.length := (List.getElem?_eq_some_iff.mp hn1).1
    refine ⟨rfl, _, rfl, A.r, A.dx, _, rfl, h2.ring.ob, rfl, _, rfl, A, R, _, rfl, h2.ring, h2.ok, .int n, _, hd, szL (by rw [List.length_map, List.length_replicate]; omega), fun b' o e' => by rw [upd_ne (ne_of_none e' hD)]; exact s2 b' o e', ?_⟩
    rw [upd_same, memV_i, decide_eq_true hm, List.replicate_succ', List.map_append]
    rfl
  · rintro H2 ⟨s2, hd⟩
    refine ⟨D, _, rfl, .inl (.inl hd), ?_⟩
    have ea : (List.replicate (ns.map V.int).length true).all id = true := by simp
    rw [ea]
    have f2 := f1.trans (Fin.of s2 h1.tabs)
    have h2 := h.fin f2
    have hl2 := f2.1 _ _ hl fun _ z => nomatch z
    refine ⟨_, rfl, iteT ⟨_, rfl, l, ns, rfl, .inl (.inl hl2), fun ns' p hpm hsr hpn => ?_⟩⟩
    have es : ns' = membersM R := sortedI_unique ((hpm.trans hp).trans (membersM_perm R).symm) hsr (membersM_sorted R)
    subst es
    have f3 := f2.new (o := HO.lst ((membersM R).map V.int)) hpn
    have h3 := h.fin f3
    refine ⟨_, rfl, A.r, A.dx, _, rfl, h3.ring.ob, rfl, A, R, rfl, h3, fun q2 H4 nq2 hq2 f4 => ?_⟩
    have hp4 : H4 p = some (.lst ((membersM R).map V.int)) := f4.1 _ _ upd_same fun _ z => nomatch z
    refine ⟨_, _, dpI (.inl (.inl hp4)), dpI (.inl (.inl hq2)), shapedI _, shapedI _, ?_⟩
    rw [eqvI, decide_eq_true rfl]
    exact k H4 (f3.trans f4)
/-! cutting a block in two -/
theorem tnext_step {D : Ends} {σ : L2.St} {H : Hp} (h : D.nx σ H) : tNext D σ H := h
theorem gname_step {i : Nat} {v : V} {σ : L2.St} {H : Hp} {Q : L2.St → Hp → Prop} (h : Q (σ.set i (some v)) H) : gName i v σ H Q := h
theorem seq_set {te : TE} {i : Nat} {rest : TS} {D : Ends} {σ : L2.St} {H : Hp} (G : V → Hp → Prop) (ht : ∀ Q' : VK, (∀ v H', G v H' → Q' v H') → te σ H Q') (h : ∀ v H', G v H' → rest D (σ.set i (some v)) H') : tSeq (tAsg te (gName i)) rest D σ H := ht _ h
theorem seq_if {t : TT} {s1 s2 rest : TS} {D : Ends} {σ : L2.St} {H : Hp} (G : Hp → Prop) (ht : ∀ Q' : Bool → Hp → Prop, (∀ b H', G H' → Q' b H') → t σ H Q') (h1 : ∀ H', G H' → s1 { D with nx := fun σ' H' => rest D σ' H' } σ H') (h2 : ∀ H', G H' → s2 { D with nx := fun σ' H' => rest D σ' H' } σ H') : tSeq (tIfS t s1 s2) rest D σ H := by
  refine ht _ fun b H' g => ?_
  cases b with
  | true => exact h1 H' g
  | false => exact h2 H' g
theorem seq_by {t u : TS} {D : Ends} {σ : L2.St} {H : Hp} (G : L2.St → Hp → Prop) (ht : ∀ nx : L2.St → Hp → Prop, (∀ σ' H', G σ' H' → nx σ' H') → t { D with nx := nx } σ H) (h : ∀ σ' H', G σ' H' → u D σ' H') : tSeq t u D σ H := ht _ h
def spMend (K : PySem.W.Frag) : Sp := fun vs H Q _ => ∃ (A : RA) (R : RingS) (ov : V) (ns : List Int), vs = [.ref A.r, ov] ∧ At K H A R ∧ ((ov = .non ∧ ns = membersM R) ∨ ∃ l, ov = .ref l ∧ H l = some (.lst (ns.map V.int)) ∧ ns.Perm R.names) ∧ R.done.length < 1000000 ∧ ∀ H' A', At K H' A' (mendM R ns) → Frame H A H' A' → Q .non H'
theorem sc_mend : FnScope ["ring", "order", "names", "name"] ["ring", "order"] (defScope s_mend) := ⟨rfl, rfl, rfl, by decide +kernel, rfl, by decide +kernel, by decide +kernel⟩
theorem ok_mend (S : Say K mg base) : FnOk P w K mg base CX0 16 (He.ga K "mend") (fdO K ("mend", none)) ["ring", "order"] (spMend K) := by
  refine (S.F_mend).ok sc_mend (fun vs H Q E h => ?_) (fun cdv A outer s H vs Q E hr h => ?_)
  · obtain ⟨A, R, ov, ns, rfl, h, hor, hd, k⟩ := h
    rfl
  obtain ⟨A, R, ov, ns, rfl, h, hor, hd, k⟩ := h
  have hu := hu_of hr
  refine ⟨_, PSs.nox (pss_cons (ps_set (i := 2) sc_mend.nd rfl (Or.inl rfl) (pe_meth0 (pv 0) S.c_Ring S.m_Ring_members (ok_Ring_members S) (hr.mono (by decide)) S.b_Ring_members .nil pass0))
        (pss_cons (ps_if (pt_cmpR op_notN (pv 1) pe_non (nomark _)) (pss_cons (ps_if (pt_not (pt_val (pe_call (ok_is_order S) (hr.mono (by decide)) rfl S.g_is_order (S.F_is_order).kp S.b_is_order .nil pass0 (pa_cons (pv 0) (pa_cons (pv 1) pa_nil))))) (pss_one ps_never /-raise-/) pss_nil)
        (pss_one (ps_set (i := 2) sc_mend.nd rfl (Or.inl rfl) (pe_callTy call_list_of (by rfl) S.z_list (by decide +kernel) (pa_cons (pv 1) pa_nil))))) pss_nil)
        (pss_cons (ps_for PassesOwn.never rfl (pi_list (pv 2)) (pg_name (i := 3) sc_mend.nd rfl (Or.inl rfl))
        (pss_one (ps_expr (pe_call (ok_steadied S) (hr.mono (by decide)) rfl S.g_steadied (S.F_steadied).kp S.b_steadied .nil pass0 (pa_cons (pv 0) (pa_cons (pv 3) pa_nil))))))
        (pss_cons (ps_for PassesOwn.never rfl (pi_list (pv 2)) (pg_name (i := 3) sc_mend.nd rfl (Or.inl rfl))
        (pss_one (ps_expr (pe_call (ok_refingered S) (hr.mono (by decide)) rfl S.g_refingered (S.F_refingered).kp S.b_refingered .nil pass0 (pa_cons (pv 0) (pa_cons (pv 3) pa_nil))))))
        (pss_cons (ps_for PassesOwn.never rfl (pi_list (pv 2)) (pg_name (i := 3) sc_mend.nd rfl (Or.inl rfl))
        (pss_one (ps_expr (pe_call (ok_settled S) (hr.mono (by decide)) rfl S.g_settled (S.F_settled).kp S.b_settled .nil pass0 (pa_cons (pv 0) (pa_cons (pv 3) pa_nil))))))
        (pss_one (ps_expr (pe_meth (pv 0) S.c_Ring S.m_Ring_note (ok_Ring_note S) (hr.mono (by decide)) S.b_Ring_note .nil pass0 (pa_cons (pe_tup (pa_cons pe_str (pa_cons (pe_callTy call_tuple_of (by rfl) S.z_tuple (by decide +kernel) (pa_cons (pv 2) pa_nil)) pa_nil))) pa_nil))))))))), ?_⟩
  refine ⟨_, rfl, A.r, A.dx, _, rfl, h.ring.ob, rfl, A, R, rfl, h, fun q H1 nq hq f1 => ?_⟩
  have h1 := h.fin f1
  have hp : ns.Perm R.names := by
    rcases hor with ⟨_, e⟩ | ⟨_, _, _, e⟩
    · rw [e]; exact membersM_perm R
    · exact e
  refine gname_step ?_
  dsimp only
  refine seq_by (fun σ' H3 => ∃ m, σ' = [some (.ref A.r), some ov, some (.ref m), none] ∧ Fin K H H3 ∧ H3 m = some (.lst (ns.map V.int)) ∧ A.ρ m = none) (fun nx hnx => ?_) fun σ' H3 hG => ?_
  · rcases hor with ⟨rfl, rfl⟩ | ⟨l, rfl, hl, _⟩
    · exact ⟨_, rfl, rfl, _, rfl, iteF (hnx _ _ ⟨q, rfl, f1, hq, noRole h.ring nq⟩)⟩
    · have hl1 := f1.1 _ _ hl fun _ z => nomatch z
      refine ⟨_, rfl, rfl, _, rfl, iteT ?_⟩
      refine ⟨_, rfl, _, rfl, A, R, l, ns, rfl, h1, hl1, hp, fun H2 f2 => ⟨_, rfl, iteF ?_⟩⟩
      have f02 := f1.trans f2
      have hl2 := f02.1 _ _ hl fun _ z => nomatch z
      refine ⟨_, rfl, l, _, rfl, .inl (.inl (.inl hl2)), fun m hm => ?_⟩
      exact hnx _ _ ⟨m, rfl, f02.new (o := HO.lst (ns.map V.int)) hm, upd_same, noRole h.ring ((notOld_of hm).back f02)⟩
  obtain ⟨m, rfl, f03, hm3, rm⟩ := hG
  have h3 := h.fin f03
  have mem : ∀ i n, ns[i]? = some n → n ∈ R.names := fun i n e => hp.mem_iff.mp (List.mem_of_getElem? e)
  refine ⟨_, rfl, m, rfl, ⟨_, .inl (.inl hm3)⟩, for_list (K := K) (a := m) (xs := ns.map V.int) (fun i σ H4 => (∃ A4, At K H4 A4 (allM steadiedM R (ns.take i)) ∧ Frame H3 A H4 A4) ∧ ∃ v, σ = [some (.ref A.r), some ov, some (.ref m), v]) ⟨⟨A, h3, Frame.refl⟩, none, rfl⟩ (fun i σ H4 _ h => by obtain ⟨⟨A4, _, f4⟩, _⟩ := h; exact .inl (.inl (f4.off _ _ hm3 (fun _ z => nomatch z) rm).1)) ?_ ?_⟩
  · rintro i y σ H4 hi ⟨⟨A4, h4, f4⟩, v, rfl⟩
    obtain ⟨n, hn, rfl⟩ := getI hi
    have e := allM_but (f := steadiedM) steadiedM_but (ns.take i) R
    refine ⟨_, rfl, _, rfl, A4, _, n, by rw [f4.r]; rfl, h4, by rw [e.1]; exact mem i n hn, fun H5 A5 h5 f5 => ⟨⟨A5, ?_, f4.trans f5⟩, _, rfl⟩⟩
    rw [take_one hn, allM_snoc]
    exact h5
  rintro σ H4 ⟨⟨A4, h4, f4⟩, v, rfl⟩
  rw [List.length_map, List.take_length] at h4
  obtain ⟨hm4, rm4⟩ := f4.off _ _ hm3 (fun _ z => nomatch z) rm
  have e1 := allM_but (f := steadiedM) steadiedM_but ns R
  refine ⟨_, rfl, m, rfl, ⟨_, .inl (.inl hm4)⟩, for_list (K := K) (a := m) (xs := ns.map V.int) (fun i σ H5 => (At K H5 A4 (allM refingM (allM steadiedM R ns) (ns.take i)) ∧ Frame H4 A4 H5 A4) ∧ ∃ v, σ = [some (.ref A.r), some ov, some (.ref m), v]) ⟨⟨h4, Frame.refl⟩, _, rfl⟩ (fun i σ H5 _ h => .inl (.inl (h.1.2.off _ _ hm4 (fun _ z => nomatch z) rm4).1)) ?_ ?_⟩
  · rintro i y σ H5 hi ⟨⟨h5, f5⟩, v, rfl⟩
    obtain ⟨n, hn, rfl⟩ := getI hi
    have e := allM_but (f := refingM) refingM_but (ns.take i) (allM steadiedM R ns)
    refine ⟨_, rfl, _, rfl, A4, _, n, by rw [f4.r]; rfl, h5, by rw [e.1, e1.1]; exact mem i n hn, fun H6 h6 f6 => ⟨⟨?_, f5.trans f6⟩, _, rfl⟩⟩
    rw [take_one hn, allM_snoc]
    exact h6
  rintro σ H5 ⟨⟨h5, f5⟩, v, rfl⟩
  rw [List.length_map, List.take_length] at h5
  obtain ⟨hm5, _⟩ := f5.off _ _ hm4 (fun _ z => nomatch z) rm4
  have e2 := e1.trans (allM_but (f := refingM) refingM_but ns (allM steadiedM R ns))
  refine ⟨_, rfl, m, rfl, ⟨_, .inl (.inl hm5)⟩, for_list (K := K) (a := m) (xs := ns.map V.int) (fun i σ H6 => (At K H6 A4 (allM settledM (allM refingM (allM steadiedM R ns) ns) (ns.take i)) ∧ Frame H5 A4 H6 A4) ∧ ∃ v, σ = [some (.ref A.r), some ov, some (.ref m), v]) ⟨⟨h5, Frame.refl⟩, _, rfl⟩ (fun i σ H6 _ h => .inl (.inl (h.1.2.off _ _ hm5 (fun _ z => nomatch z) rm4).1)) ?_ ?_⟩
  · rintro i y σ H6 hi ⟨⟨h6, f6⟩, v, rfl⟩
    obtain ⟨n, hn, rfl⟩ := getI hi
    have e := allM_but (f := settledM) settledM_but (ns.take i) (allM refingM (allM steadiedM R ns) ns)
    refine ⟨_, rfl, _, rfl, A4, _, n, by rw [f4.r]; rfl, h6, by rw [e.1, e2.1]; exact mem i n hn, fun H7 h7 f7 => ⟨⟨?_, f6.trans f7⟩, _, rfl⟩⟩
    rw [take_one hn, allM_snoc]
    exact h7
  rintro σ H6 ⟨⟨h6, f6⟩, v, rfl⟩
  rw [List.length_map, List.take_length] at h6
  obtain ⟨hm6, _⟩ := f6.off _ _ hm5 (fun _ z => nomatch z) rm4
  have e3 := e2.trans (allM_but (f := settledM) settledM_but ns (allM refingM (allM steadiedM R ns) ns))
  refine ⟨_, rfl, A4.r, A4.dx, _, by rw [f4.r], h6.ring.ob, rfl, _, rfl, m, _, rfl, .inl ⟨.inl (.inl hm6), fun t ht => ⟨(by show 2 ≤ sizeLine; decide), fun u hu => ?_⟩⟩⟩
  have f7 := Fin.of (same_new (o := HO.tup (ns.map V.int)) ht) h6.tabs
  have h7 := h6.fin f7
  have f8 := f7.new (o := HO.tup [.str "mend", .ref t]) hu
  refine ⟨A4, _, _, .mend ns, by rw [f4.r]; rfl, h6.fin f8, by rw [e3.2.2.2.2.1]; exact hd, ⟨u, t, rfl, upd_same, by rw [upd_ne (ne_of_none upd_same hu)]; exact upd_same⟩, fun H9 h9 f9 => ?_⟩
  exact k H9 A4 h9 ((((Frame.fin f03).trans f4).trans f5).trans ((f6.trans (Frame.fin f8)).trans f9))
end
end Nn
set_option Elab.async false
set_option linter.all false
set_option maxRecDepth 100000
set_option maxHeartbeats 1000000
namespace Nn
open PySem PySem.Spec PyProof.Rows L2 LamX KeyL
/-! ### own exceptions -/
section
variable {P : Program} {w : World} {K : PySem.W.Frag} {mg : Str → Option Value} {base : Heap}
theorem exParts (S : Say K mg base) : exR K = true ∧ (∀ x ∈ exN, PySem.W.excIn K (He.ga K x) PySem.HandSPX.veTail "ValueError.__new__" = true) ∧ (∀ x ∈ exL, exB0 K x = true) ∧ (∀ x ∈ exI, exI0 K x = true) ∧ (∀ p ∈ exF, PySem.W.findIn K (.ref (He.ga K p.1)) p.2 = some none) ∧ exM K = true := by
  have z := S.ex
  unfold exB at z
  simp only [Bool.and_eq_true, decide_eq_true_eq, List.all_eq_true] at z
  exact ⟨z.1.1, z.1.2, z.2.1, z.2.2.1, z.2.2.2.1, z.2.2.2.2.1⟩
theorem oexB_ok {x : Str} (h : oexB K x = true) : ∃ nm q N bs bm sn sub ab col dd k0 k1 k2 k3 k5, K.lookup (He.ga K x) = some (excClassObj nm q (He.ga K x) N bs bm true sn sub ab col dd k0 k1 k2 k3 k5 "ValueError.__new__") ∧ PySem.HandSPX.refsVE bm = true := by
  unfold oexB at h
  split at h
  · rename_i dd cd sl ho
    split at h
    · rename_i C' bm k0 k1 k2 k3 n k5 hm hs
      simp only [Bool.and_eq_true, beq_iff_eq, Bool.not_eq_true'] at h
      obtain ⟨rfl, rfl, hdel, hd, hr⟩ := h
      obtain ⟨nm, bs, mro, ns, qn, hd', sn, sub, ab, col, del⟩ := cd
      dsimp only at hm hdel hd
      subst hm hdel hd
      have hsl : sl = #[k0, k1, k2, k3, some (.builtin "ValueError.__new__"), k5] := by
        obtain ⟨l⟩ := sl
        simp only at hs
        rw [hs]
      subst hsl
      exact ⟨nm, qn, ns, bs, bm, sn, sub, ab, col, dd, k0, k1, k2, k3, k5, ho, hr⟩
    · cases h
  · cases h
theorem oexC (S : Say K mg base) {x : Str} (hx : x ∈ exL) : OexC K (He.ga K x) := by
  have z := (exParts S).2.2.1 x hx
  unfold exB0 at z
  simp only [Bool.and_eq_true, decide_eq_true_eq] at z
  exact ⟨oexB_ok z.1, z.2.1, z.2.2.1, z.2.2.2.1, z.2.2.2.2.1⟩
theorem exInit (S : Say K mg base) {x : Str} (hx : x ∈ exI) : PySem.W.findIn K (.ref (He.ga K x)) "__init__" = some (some (.ref (He.ma K (He.ga K x) "__init__"))) ∧ PySem.W.typeIn K (.ref (He.ma K (He.ga K x) "__init__")) = some (.type "function") := by
  have z := (exParts S).2.2.2.1 x hx
  unfold exI0 at z
  simp only [Bool.and_eq_true, decide_eq_true_eq] at z
  exact z
theorem exFld (S : Say K mg base) {p : Str × Str} (hp : p ∈ exF) : PySem.W.findIn K (.ref (He.ga K p.1)) p.2 = some none := (exParts S).2.2.2.2.1 p hp
theorem exMatch (S : Say K mg base) {x : Str} (hx : x ∈ exL) : PySem.W.exmOne K (.ref (He.ga K x)) (.ref (He.ga K "RingError")) = some true := by
  have z := (exParts S).2.2.2.2.2
  unfold exM at z
  have y := List.all_eq_true.mp z x hx
  simpa using y
theorem exRe (S : Say K mg base) : PySem.W.specialIn K (.ref (He.ga K "RingError")) "__getattribute__" = some (some (.builtin "type.__getattribute__")) ∧ PySem.W.readsIn K (He.ga K "RingError") (.type "type") = true ∧ PySem.W.findCls K (.ref (He.ga K "RingError")) (.type "type") "__init__" = some (.val (.builtin "ValueError.__init__")) := by
  have z := (exParts S).1
  unfold exR at z
  simp only [Bool.and_eq_true, decide_eq_true_eq] at z
  refine ⟨z.1, z.2.1, ?_⟩
  have y := z.2.2
  split at y
  · rename_i n e
    rw [e, beq_iff_eq.mp y]
  · cases y
/-- what an own __init__ of such a class does -/
def spOex (C fl : Str) (K : PySem.W.Frag) : Sp := fun vs H Q _ => ∃ (a : Addr) (v : V), vs = [.ref a, v] ∧ H a = some (exo a (He.ga K C) none) ∧ ∀ dx, H dx = none → dx ≠ a → Q .non (upd (upd H dx (exd dx [(fl, v)])) a (exo a (He.ga K C) (some dx)))
theorem sc_Taken_init : FnScope ["self", "who"] ["self", "who"] (defScope s_Taken_init) := ⟨rfl, rfl, rfl, by decide +kernel, rfl, by decide +kernel, by decide +kernel⟩
theorem ok_Taken_init (S : Say K mg base) : FnOk P w K mg base CX0 1 (He.ma K (He.ga K "Taken") "__init__") (fdO K ("Taken", some "__init__")) ["self", "who"] (spOex "Taken" "who" K) := by
  refine (S.F_Taken_init).ok sc_Taken_init (fun vs H Q E h => ?_) (fun cdv A outer s H vs Q E hr h => ?_)
  · obtain ⟨a, v, rfl, ha, k⟩ := h
    rfl
  obtain ⟨a, v, rfl, ha, k⟩ := h
  have hu := hu_of hr
  refine ⟨_, PSs.nox (pss_cons (ps_expr (pe_reinit (by rfl) S.g_RingError (exRe S).1 (exRe S).2.1 (exRe S).2.2 (pa_cons (pv 0) (pa_cons pe_str pa_nil))))
        (pss_one (ps_ost (pv 0) (pv 1)))), ?_⟩
  refine ⟨_, rfl, a, He.ga K "Taken", _, rfl, (by show 1 ≤ 1000; decide), oexC S (by decide), ha, ?_⟩
  exact ⟨_, rfl, _, rfl, a, He.ga K "Taken", rfl, oexC S (by decide), exFld S (p := ("Taken", "who")) (by decide), .inl ⟨ha, fun dx h1 h2 => k dx h1 h2⟩⟩
theorem sc_Fixed_init : FnScope ["self", "who"] ["self", "who"] (defScope s_Fixed_init) := ⟨rfl, rfl, rfl, by decide +kernel, rfl, by decide +kernel, by decide +kernel⟩
theorem ok_Fixed_init (S : Say K mg base) : FnOk P w K mg base CX0 1 (He.ma K (He.ga K "Fixed") "__init__") (fdO K ("Fixed", some "__init__")) ["self", "who"] (spOex "Fixed" "who" K) := by
  refine (S.F_Fixed_init).ok sc_Fixed_init (fun vs H Q E h => ?_) (fun cdv A outer s H vs Q E hr h => ?_)
  · obtain ⟨a, v, rfl, ha, k⟩ := h
    rfl
  obtain ⟨a, v, rfl, ha, k⟩ := h
  have hu := hu_of hr
  refine ⟨_, PSs.nox (pss_cons (ps_expr (pe_reinit (by rfl) S.g_RingError (exRe S).1 (exRe S).2.1 (exRe S).2.2 (pa_cons (pv 0) (pa_cons pe_str pa_nil))))
        (pss_one (ps_ost (pv 0) (pv 1)))), ?_⟩
  refine ⟨_, rfl, a, He.ga K "Fixed", _, rfl, (by show 1 ≤ 1000; decide), oexC S (by decide), ha, ?_⟩
  exact ⟨_, rfl, _, rfl, a, He.ga K "Fixed", rfl, oexC S (by decide), exFld S (p := ("Fixed", "who")) (by decide), .inl ⟨ha, fun dx h1 h2 => k dx h1 h2⟩⟩
theorem sc_Alone_init : FnScope ["self", "who"] ["self", "who"] (defScope s_Alone_init) := ⟨rfl, rfl, rfl, by decide +kernel, rfl, by decide +kernel, by decide +kernel⟩
theorem ok_Alone_init (S : Say K mg base) : FnOk P w K mg base CX0 1 (He.ma K (He.ga K "Alone") "__init__") (fdO K ("Alone", some "__init__")) ["self", "who"] (spOex "Alone" "who" K) := by
  refine (S.F_Alone_init).ok sc_Alone_init (fun vs H Q E h => ?_) (fun cdv A outer s H vs Q E hr h => ?_)
  · obtain ⟨a, v, rfl, ha, k⟩ := h
    rfl
  obtain ⟨a, v, rfl, ha, k⟩ := h
  have hu := hu_of hr
  refine ⟨_, PSs.nox (pss_cons (ps_expr (pe_reinit (by rfl) S.g_RingError (exRe S).1 (exRe S).2.1 (exRe S).2.2 (pa_cons (pv 0) (pa_cons pe_str pa_nil))))
        (pss_one (ps_ost (pv 0) (pv 1)))), ?_⟩
  refine ⟨_, rfl, a, He.ga K "Alone", _, rfl, (by show 1 ≤ 1000; decide), oexC S (by decide), ha, ?_⟩
  exact ⟨_, rfl, _, rfl, a, He.ga K "Alone", rfl, oexC S (by decide), exFld S (p := ("Alone", "who")) (by decide), .inl ⟨ha, fun dx h1 h2 => k dx h1 h2⟩⟩
theorem sc_LastOne_init : FnScope ["self", "point"] ["self", "point"] (defScope s_LastOne_init) := ⟨rfl, rfl, rfl, by decide +kernel, rfl, by decide +kernel, by decide +kernel⟩
theorem ok_LastOne_init (S : Say K mg base) : FnOk P w K mg base CX0 1 (He.ma K (He.ga K "LastOne") "__init__") (fdO K ("LastOne", some "__init__")) ["self", "point"] (spOex "LastOne" "point" K) := by
  refine (S.F_LastOne_init).ok sc_LastOne_init (fun vs H Q E h => ?_) (fun cdv A outer s H vs Q E hr h => ?_)
  · obtain ⟨a, v, rfl, ha, k⟩ := h
    rfl
  obtain ⟨a, v, rfl, ha, k⟩ := h
  have hu := hu_of hr
  refine ⟨_, PSs.nox (pss_cons (ps_expr (pe_reinit (by rfl) S.g_RingError (exRe S).1 (exRe S).2.1 (exRe S).2.2 (pa_cons (pv 0) (pa_cons pe_str pa_nil))))
        (pss_one (ps_ost (pv 0) (pv 1)))), ?_⟩
  refine ⟨_, rfl, a, He.ga K "LastOne", _, rfl, (by show 1 ≤ 1000; decide), oexC S (by decide), ha, ?_⟩
  exact ⟨_, rfl, _, rfl, a, He.ga K "LastOne", rfl, oexC S (by decide), exFld S (p := ("LastOne", "point")) (by decide), .inl ⟨ha, fun dx h1 h2 => k dx h1 h2⟩⟩
/-- an exception of the class C has been let out, its field holding v; all else stands -/
def Out (K : PySem.W.Frag) (C fl : Str) (v : V) (H : Hp) (E : XK) : Prop := ∀ d H', H d = none → H' d = some (.xd [(fl, v)]) → Same H H' → E (.ref (He.ga K C)) (some d) H'
theorem out_of {C fl : Str} {v : V} {H : Hp} {E : XK} {a : Addr} (ha : H a = none) (h : Out K C fl v H E) : spOex C fl K [.ref a, v] (upd H a (exo a (He.ga K C) none))
    (fun u H2 => u = .non ∧ ∃ (d : Addr) (fs : List (Str × V)), H2 a = some (exo a (He.ga K C) (some d)) ∧ H2 d = some (exd d fs) ∧ H d = none ∧ E (.ref (He.ga K C)) (some d) (upd (del H2 a) d (.xd fs))) (fun _ _ _ => False) := by
  refine ⟨a, v, rfl, upd_same, fun dx h1 h2 => ⟨rfl, dx, [(fl, v)], upd_same, by rw [upd_ne h2]; exact upd_same, by rw [upd_ne h2] at h1; exact h1, ?_⟩⟩
  rw [upd_ne h2] at h1
  refine h dx _ h1 upd_same fun b o e => ?_
  have n1 : b ≠ dx := ne_of_none e h1
  have n2 : b ≠ a := ne_of_none e ha
  rw [upd_ne n1, del_ne n2, upd_ne n2, upd_ne n1, upd_ne n2]
  exact e
def spLoose (K : PySem.W.Frag) : Sp := fun vs H Q E => ∃ A R n, vs = [.ref A.r, .int n] ∧ At K H A R ∧ n ∈ R.names ∧ (n ∉ R.fixed → ∀ H', Fin K H H' → Q .non H') ∧ (n ∈ R.fixed → ∀ H', Fin K H H' → Out K "Fixed" "who" (.int n) H' E)
theorem sc_want_loose : FnScope ["ring", "name"] ["ring", "name"] (defScope s_want_loose) := ⟨rfl, rfl, rfl, by decide +kernel, rfl, by decide +kernel, by decide +kernel⟩
theorem ok_want_loose (S : Say K mg base) : FnOk P w K mg base (L2.CX P w) 5 (He.ga K "want_loose") (fdO K ("want_loose", none)) ["ring", "name"] (spLoose K) := by
  refine (S.F_want_loose).ok sc_want_loose (fun vs H Q E h => ?_) (fun cdv A outer s H vs Q E hr h => ?_)
  · obtain ⟨A, R, n, rfl, h, hn, k1, k2⟩ := h
    rfl
  obtain ⟨A, R, n, rfl, h, hn, k1, k2⟩ := h
  have hu := hu_of hr
  refine ⟨_, (pss_cons (ps_expr (pe_meth (pv 0) S.c_Ring S.m_Ring_node (ok_Ring_node S) (hr.mono (by decide)) S.b_Ring_node .nil pass0 (pa_cons (pv 1) pa_nil)))
        (pss_one (ps_if (pt_cmpR op_in_seq (pv 1) (pe_meth0 (pv 0) S.c_Ring S.m_Ring_base (ok_Ring_base S) (hr.mono (by decide)) S.b_Ring_base .nil pass0) rfl) (pss_one (ps_raise rfl (takes_of rfl rfl rfl rfl) (pmk_oex (oexC S (x := "Fixed") (by decide)) (exInit S (x := "Fixed") (by decide)).1 (exInit S (x := "Fixed") (by decide)).2 (ok_Fixed_init S) (hr.mono (by decide)) S.b_Fixed_init .nil pass0 (by rfl) S.g_Fixed (pa_cons (pv 1) pa_nil)))) pss_nil))), ?_⟩
  refine ⟨_, rfl, A.r, A.dx, _, rfl, h.ring.ob, rfl, _, rfl, A, R, n, rfl, h.ring, h.ok, hn, ?_⟩
  refine ⟨_, rfl, _, rfl, A.r, A.dx, _, rfl, h.ring.ob, rfl, A, R, rfl, h, fun q H1 nq hq f1 => ?_⟩
  refine ⟨q, _, rfl, .inl (.inl (.inl hq)), rfl, flatI _, _, rfl, ?_⟩
  rw [if_neg (by decide), inI]
  by_cases c : n ∈ R.fixed
  · rw [decide_eq_true c]
    refine iteT ⟨_, rfl, (by show 1 ≤ 1000; decide), fun a ha => ?_⟩
    exact out_of ha (k2 c H1 f1)
  · rw [decide_eq_false c]
    exact iteF (k1 c H1 f1)
def joinChain (R : RingS) (n via : Int) : List Int := ansM R n via :: (R.node (ansM R n via)).chain.dropLast
def joinM (R : RingS) (n via : Int) : RingS := (R.enter n (joinChain R n via)).note (.flat "join" [.int n, .int via])
def spJoin (K : PySem.W.Frag) : Sp := fun vs H Q E => ∃ A R n via, vs = [.ref A.r, .int n, .int via] ∧ At K H A R ∧ via ∈ R.names ∧ (0 ≤ n ∧ n < 2 ^ R.bits) ∧ R.names.length < 63 ∧ R.done.length < 1000000 ∧
  (n ∉ R.names → ∀ H' A', At K H' A' (joinM R n via) → Frame H A H' A' → Q .non H') ∧ (n ∈ R.names → Out K "Taken" "who" (.int n) H E)
theorem sc_join : FnScope ["ring", "name", "via", "home"] ["ring", "name", "via"] (defScope s_join) := ⟨rfl, rfl, rfl, by decide +kernel, rfl, by decide +kernel, by decide +kernel⟩
theorem ok_join (S : Say K mg base) : FnOk P w K mg base (L2.CX P w) 14 (He.ga K "join") (fdO K ("join", none)) ["ring", "name", "via"] (spJoin K) := by
  refine (S.F_join).ok sc_join (fun vs H Q E h => ?_) (fun cdv A outer s H vs Q E hr h => ?_)
  · obtain ⟨A, R, n, via, rfl, h, hv, hp, hl, hd, k1, k2⟩ := h
    rfl
  obtain ⟨A, R, n, via, rfl, h, hv, hp, hl, hd, k1, k2⟩ := h
  have hu := hu_of hr
  refine ⟨_, (pss_cons (ps_expr (pe_meth (pv 0) S.c_Ring S.m_Ring_want_point (ok_Ring_want_point S) (hr.mono (by decide)) S.b_Ring_want_point .nil pass0 (pa_cons (pv 1) pa_nil)))
        (pss_cons (ps_if (pt_val (pe_meth (pv 0) S.c_Ring S.m_Ring_is_member (ok_Ring_is_member S) (hr.mono (by decide)) S.b_Ring_is_member .nil pass0 (pa_cons (pv 1) pa_nil))) (pss_one (ps_raise rfl (takes_of rfl rfl rfl rfl) (pmk_oex (oexC S (x := "Taken") (by decide)) (exInit S (x := "Taken") (by decide)).1 (exInit S (x := "Taken") (by decide)).2 (ok_Taken_init S) (hr.mono (by decide)) S.b_Taken_init .nil pass0 (by rfl) S.g_Taken (pa_cons (pv 1) pa_nil)))) pss_nil)
        (pss_cons (ps_set (i := 3) sc_join.nd rfl (Or.inl rfl) (pe_meth0 (pe_callN (ok_look S) (hr.mono (by decide)) rfl S.g_look (S.F_look).kp S.kb1_look pass0 (pa_cons (pv 0) (pa_cons (pv 1) pa_nil)) (pk_cons (pv 2) pk_nil)) S.c_Found S.m_Found_answer (ok_Found_answer S) (hr.mono (by decide)) S.b_Found_answer .nil pass0))
        (pss_cons (ps_expr (pe_meth (pv 0) S.c_Ring S.m_Ring_enter (ok_Ring_enter S) (hr.mono (by decide)) S.b_Ring_enter .nil pass0 (pa_cons (pv 1) (pa_cons (pe_call (ok_adopted S) (hr.mono (by decide)) rfl S.g_adopted (S.F_adopted).kp S.b_adopted .nil pass0 (pa_cons (pv 3) (pa_cons (pe_meth (pv 0) S.c_Ring S.m_Ring_links (ok_Ring_links S) (hr.mono (by decide)) S.b_Ring_links .nil pass0 (pa_cons (pv 3) pa_nil)) pa_nil))) pa_nil))))
        (pss_one (ps_expr (pe_meth (pv 0) S.c_Ring S.m_Ring_note (ok_Ring_note S) (hr.mono (by decide)) S.b_Ring_note .nil pass0 (pa_cons (pe_tup (pa_cons pe_str (pa_cons (pv 1) (pa_cons (pv 2) pa_nil)))) pa_nil)))))))), ?_⟩
  refine ⟨_, rfl, A.r, A.dx, _, rfl, h.ring.ob, rfl, _, rfl, A, R, n, rfl, h.ring, hp, ?_⟩
  refine ⟨_, rfl, A.r, A.dx, _, rfl, h.ring.ob, rfl, _, rfl, A, R, _, rfl, h.ring, h.ok, .int n, ?_⟩
  rw [memV_i]
  by_cases c : n ∈ R.names
  · rw [decide_eq_true c]
    exact ⟨true, rfl, iteT ⟨_, rfl, (by show 1 ≤ 1000; decide), fun a ha => out_of ha (k2 c)⟩⟩
  · rw [decide_eq_false c]
    refine ⟨false, rfl, iteF ?_⟩
    refine ⟨_, rfl, _, rfl, _, rfl, rfl, rfl, A, R, n, via, rfl, h, hv, hp, fun f H1 nf hf f1 => ?_⟩
    obtain ⟨fdx, ft, frs, fus, fob, _⟩ := id hf.ob
    have hm := (lookM_way h.ok hp hv).2
    have h1 := h.fin f1
    refine ⟨f, fdx, _, rfl, fob, rfl, f, _, _, _, rfl, hf, ?_⟩
    refine ⟨_, rfl, A.r, A.dx, _, rfl, h1.ring.ob, rfl, _, rfl, _, rfl, _, rfl, A.r, A.dx, _, rfl, h1.ring.ob, rfl, _, rfl, A, R, ansM R n via, rfl, h1, hm, fun l H2 nl hl2 f2 => ?_⟩
    have h2 := h1.fin f2
    have cl := h.ok.clen _ hm
    have hmn := h.ok.many
    have cne : (R.node (ansM R n via)).chain ≠ [] := fun e => by rw [e] at cl; simp at cl; omega
    refine ⟨_, l, _, rfl, .inl (.inl hl2), cne, by omega, fun q H3 hq hql s3 => ?_⟩
    have f3 := Fin.of s3 h2.tabs
    have f03 := (f1.trans f2).trans f3
    refine ⟨A, R, n, q, joinChain R n via, rfl, h.fin f03, .inl (.inl hql), c, hp, hl, ?_, ?_, ⟨_, List.mem_cons_self .., hm⟩, fun H4 A4 h4 f4 => ?_⟩
    · unfold joinChain
      rw [List.length_cons, List.length_dropLast, cl]
      omega
    · intro m hmm
      rcases List.mem_cons.mp hmm with e | e
      · rw [e]; exact h.ok.pts _ hm
      · exact h.ok.cpts _ hm m ((List.dropLast_sublist _).subset e)
    · refine ⟨_, rfl, A4.r, A4.dx, _, by rw [f4.r], h4.ring.ob, rfl, _, rfl, _, rfl, (by show 3 ≤ sizeLine; decide), fun u hu => ?_⟩
      have f5 := Fin.of (same_new (o := HO.tup [.str "join", .int n, .int via]) hu) h4.tabs
      exact ⟨A4, _, _, .flat "join" [.int n, .int via], by rw [f4.r]; rfl, h4.fin f5, hd, ⟨u, rfl, upd_same, rfl⟩, fun H6 h6 f6 => k1 c H6 A4 h6 ((Frame.fin f03).trans (f4.trans ((Frame.fin f5).trans f6)))⟩
end
end Nn
set_option Elab.async false
set_option linter.all false
set_option maxRecDepth 100000
set_option maxHeartbeats 1000000
namespace Nn
open PySem PySem.Spec PyProof.Rows L2 LamX KeyL
/-! ### coming and going: who is left alone -/
def othersN (R : RingS) (n : Int) : List Int := (membersM R).filter fun m => decide (m ≠ n)
theorem othersN_mem {R : RingS} {n m : Int} : m ∈ othersN R n ↔ m ∈ R.names ∧ m ≠ n := by
  unfold othersN
  rw [List.mem_filter, membersM_mem, decide_eq_true_eq]
theorem othersN_sorted (R : RingS) (n : Int) : (othersN R n).Pairwise (· ≤ ·) := (membersM_sorted R).filter _
theorem othersN_len (R : RingS) (h : Ok R) (n : Int) : (othersN R n).length < 64 := by
  have := List.length_filter_le (fun m => decide (m ≠ n)) (membersM R)
  have e := membersM_len R
  have := h.few
  unfold othersN
  omega
theorem othersN_nodup {R : RingS} (h : Ok R) (n : Int) : (othersN R n).Nodup := ((membersM_perm R).nodup_iff.mpr h.nodup).filter _
def companyM (ns : List Int) (c : Int → List Int) : Option Int := ns.find? fun m => (firstOf (c m) ns).isNone
section
variable {P : Program} {w : World} {K : PySem.W.Frag} {mg : Str → Option Value} {base : Heap}
def spMemBef (K : PySem.W.Frag) : Sp := fun vs H Q _ => ∃ A R n, vs = [.ref A.r, .int n] ∧ At K H A R ∧ n ∈ R.names ∧ Q (oV (memO R (R.node n).prior)) H
theorem sc_member_before : FnScope ["ring", "name", "prior"] ["ring", "name"] (defScope s_member_before) := ⟨rfl, rfl, rfl, by decide +kernel, rfl, by decide +kernel, by decide +kernel⟩
theorem ok_member_before (S : Say K mg base) : FnOk P w K mg base CX0 6 (He.ga K "member_before") (fdO K ("member_before", none)) ["ring", "name"] (spMemBef K) := by
  refine (S.F_member_before).ok sc_member_before (fun vs H Q E h => ?_) (fun cdv A outer s H vs Q E hr h => ?_)
  · obtain ⟨A, R, n, rfl, h, hn, k⟩ := h
    rfl
  obtain ⟨A, R, n, rfl, h, hn, k⟩ := h
  have hu := hu_of hr
  refine ⟨_, PSs.nox (pss_cons (ps_set (i := 2) sc_member_before.nd rfl (Or.inl rfl) (pe_meth (pv 0) S.c_Ring S.m_Ring_before (ok_Ring_before S) (hr.mono (by decide)) S.b_Ring_before .nil pass0 (pa_cons (pv 1) pa_nil)))
        (pss_cons (ps_if (PW.pt (pw_and (pt_cmpR op_notN (pv 2) pe_non (nomark _)) (pw_and1 (pt_val (pe_meth (pv 0) S.c_Ring S.m_Ring_is_member (ok_Ring_is_member S) (hr.mono (by decide)) S.b_Ring_is_member .nil pass0 (pa_cons (pv 2) pa_nil)))))) (pss_one (ps_ret (pv 2))) pss_nil)
        (pss_one (ps_ret pe_non)))), ?_⟩
  refine ⟨_, rfl, A.r, A.dx, _, rfl, h.ring.ob, rfl, _, rfl, A, R, n, rfl, h.ring, h.ok, hn, ?_⟩
  cases e : (R.node n).prior with
  | none =>
    rw [e] at k
    exact ⟨_, rfl, rfl, _, rfl, iteF (iteF k)⟩
  | some p =>
    rw [e] at k
    refine ⟨_, rfl, rfl, _, rfl, iteT ⟨_, rfl, A.r, A.dx, _, rfl, h.ring.ob, rfl, _, rfl, A, R, _, rfl, h.ring, h.ok, .int p, ?_⟩⟩
    have ev : memV R (oV (some p)) = decide (p ∈ R.names) := rfl
    rw [ev]
    by_cases c : p ∈ R.names
    · have e2 : memO R (some p) = some p := if_pos c
      rw [e2] at k
      rw [decide_eq_true c]
      exact ⟨_, rfl, iteT ⟨_, rfl, k⟩⟩
    · have e2 : memO R (some p) = none := if_neg c
      rw [e2] at k
      rw [decide_eq_false c]
      exact ⟨_, rfl, iteF k⟩
def spChainsW (K : PySem.W.Frag) : Sp := fun vs H Q _ => ∃ A R n, vs = [.ref A.r, .int n] ∧ At K H A R ∧ ∀ D f H', NotOld H D → H' D = some (.dK (kvN (othersN R n) f)) → (∀ m ∈ othersN R n, NotOld H (f m) ∧ H' (f m) = some (.lst ((R.node m).chain.map V.int))) → Fin K H H' → Q (.ref D) H'
theorem sc_chains_without : FnScope ["ring", "name", "one"] ["ring", "name"] (defScope s_chains_without) := ⟨rfl, rfl, rfl, by decide +kernel, rfl, by decide +kernel, by decide +kernel⟩
theorem ok_chains_without (S : Say K mg base) : FnOk P w K mg base CX0 6 (He.ga K "chains_without") (fdO K ("chains_without", none)) ["ring", "name"] (spChainsW K) := by
  refine (S.F_chains_without).ok sc_chains_without (fun vs H Q E h => ?_) (fun cdv A outer s H vs Q E hr h => ?_)
  · obtain ⟨A, R, n, rfl, h, k⟩ := h
    rfl
  obtain ⟨A, R, n, rfl, h, k⟩ := h
  have hu := hu_of hr
  refine ⟨_, PSs.nox (pss_one (ps_ret (pe_dc (own := [("one", 2)]) rfl sc_chains_without.nd (pi_list (pe_meth0 (pv 0) S.c_Ring S.m_Ring_members (ok_Ring_members S) (hr.mono (by decide)) S.b_Ring_members .nil pass0)) (blkOk_by (own := [("one", 2)]) (N := ["ring", "name", "one"]) (sc := defScope s_chains_without) (by decide +kernel)) (fun _ _ _ _ _ => (pg_name (i := 2) sc_chains_without.nd rfl (Or.inl rfl))) (fun _ _ _ _ _ => (pts_one (pt_cmpR op_ne (pv 2) (pv 1) (nomark _)))) (fun _ _ _ _ _ => (pv 2)) (fun _ _ _ _ _ => (pe_meth (pv 0) S.c_Ring S.m_Ring_links (ok_Ring_links S) (hr.mono (by decide)) S.b_Ring_links .nil pass0 (pa_cons (pv 2) pa_nil)))))), ?_⟩
  refine ⟨_, rfl, A.r, A.dx, _, rfl, h.ring.ob, rfl, A, R, rfl, h, fun q H1 nq hq f1 => ⟨q, rfl, ⟨_, .inl (.inl hq)⟩, fun D hD => ?_⟩⟩
  have h1 := h.fin f1
  have hnd : (membersM R).Nodup := (membersM_perm R).nodup_iff.mpr h.ok.nodup
  refine dc_it (walk_list (K := K) (a := q) (xs := (membersM R).map V.int)) (fun i H2 => Fin K H1 H2 ∧ ∃ f : Int → Addr, H2 D = some (.dK (kvN (((membersM R).take i).filter fun m => decide (m ≠ n)) f)) ∧ ∀ m ∈ ((membersM R).take i).filter (fun m => decide (m ≠ n)), NotOld H (f m) ∧ H2 (f m) = some (.lst ((R.node m).chain.map V.int))) ⟨Fin.of (same_new hD) h1.tabs, fun _ => 0, upd_same, fun m hm => absurd hm (by simp)⟩ (fun i H2 _ g => .inl (.inl (g.1.1 _ _ hq fun _ z => nomatch z))) ?_ ?_
  · rintro i x H2 H2' hi ⟨f2, f, hd, hf⟩ ⟨rfl, hx⟩
    obtain ⟨m, hm, rfl⟩ := getI hx
    have h2 := h1.fin f2
    have hmem : m ∈ R.names := membersM_mem.mp (List.mem_of_getElem? hm)
    refine ⟨rfl, _, rfl, _, rfl, rfl, _, rfl, ?_⟩
    have e : decide (V.int m = V.int n) = decide (m = n) := by simp
    rw [e, take_one hm, List.filter_append]
    by_cases c : m = n
    · rw [decide_eq_true c]
      have e0 : [m].filter (fun m => decide (m ≠ n)) = [] := by simp [c]
      rw [e0, List.append_nil]
      exact iteF ⟨f2, f, hd, hf⟩
    · rw [decide_eq_false c]
      have e0 : [m].filter (fun m => decide (m ≠ n)) = [m] := by simp [c]
      rw [e0]
      refine iteT ⟨_, rfl, _, rfl, A.r, A.dx, _, rfl, h2.ring.ob, rfl, _, rfl, A, R, m, rfl, h2, hmem, fun l H3 nl hl f3 => ?_⟩
      have hd3 : H3 D = some (.dK (kvN (((membersM R).take i).filter fun m => decide (m ≠ n)) f)) := f3.1 _ _ hd fun _ z => nomatch z
      have hnew : m ∉ ((membersM R).take i).filter fun m => decide (m ≠ n) := fun hin => by
        have z : ((membersM R).take (i + 1)).Nodup := (List.take_sublist _ _).nodup hnd
        rw [take_one hm] at z
        exact (List.nodup_append.mp z).2.2 m (List.mem_filter.mp hin).1 m (List.mem_singleton.mpr rfl) rfl
      refine ⟨_, (Sum.inl m : Key), rfl, hd3, ?_, ?_⟩
      · unfold kvN
        rw [List.length_map, sizeLine_eq]
        have := List.length_filter_le (fun m => decide (m ≠ n)) ((membersM R).take i)
        rw [List.length_take, membersM_len] at this
        have := h.ok.few
        omega
      · rw [putK_new _ (by rw [valV_kvN, if_neg hnew]), kvN_snoc _ _ _ _ hnew]
        have lD : ∀ c xs, H3 c = some (.lst xs) → c ≠ D := fun c xs e => ne_of e hd3 fun z => nomatch z
        refine ⟨⟨fun b o e1 e2 => ?_, tabs_upd f3.2 hd3 rfl⟩, _, upd_same, fun z hz => ?_⟩
        · rw [upd_ne (ne_of_none e1 hD)]
          exact f3.1 b o (f2.1 b o e1 e2) e2
        · by_cases c2 : z = m
          · simp only [c2, if_true]
            exact ⟨nl.back (f1.trans f2), by rw [upd_ne (lD _ _ hl)]; exact hl⟩
          · simp only [if_neg c2]
            have hz' : z ∈ ((membersM R).take i).filter fun m => decide (m ≠ n) := by
              rcases List.mem_append.mp hz with y | y
              · exact y
              · exact absurd (List.mem_singleton.mp y) c2
            obtain ⟨g1, g2⟩ := hf z hz'
            have g3 := f3.1 _ _ g2 fun _ z => nomatch z
            exact ⟨g1, by rw [upd_ne (lD _ _ g3)]; exact g3⟩
  · rintro H2 ⟨f2, f, hd, hf⟩
    rw [List.length_map, List.take_length] at hd hf
    exact k D f H2 ((notOld_of hD).back f1) hd hf (f1.trans f2)
def spCompany (K : PySem.W.Frag) : Sp := fun vs H Q E => ∃ (D : Addr) (ns : List Int) (f : Int → Addr) (c : Int → List Int), vs = [.ref D] ∧ Tabs (tabT K) H ∧ H D = some (.dK (kvN ns f)) ∧ (∀ m ∈ ns, H (f m) = some (.lst ((c m).map V.int))) ∧ ns.Pairwise (· ≤ ·) ∧ ns.length < 64 ∧
  (companyM ns c = none → ∀ H', Fin K H H' → Q .non H') ∧ (∀ m, companyM ns c = some m → ∀ H', Fin K H H' → Out K "Alone" "who" (.int m) H' E)
theorem sc_want_company : FnScope ["chains", "name"] ["chains"] (defScope s_want_company) := ⟨rfl, rfl, rfl, by decide +kernel, rfl, by decide +kernel, by decide +kernel⟩
theorem ok_want_company (S : Say K mg base) : FnOk P w K mg base (L2.CX P w) 3 (He.ga K "want_company") (fdO K ("want_company", none)) ["chains"] (spCompany K) := by
  refine (S.F_want_company).ok sc_want_company (fun vs H Q E h => ?_) (fun cdv A outer s H vs Q E hr h => ?_)
  · obtain ⟨D, ns, f, c, rfl, ht, hd, hf, hs, hl, k1, k2⟩ := h
    rfl
  obtain ⟨D, ns, f, c, rfl, ht, hd, hf, hs, hl, k1, k2⟩ := h
  have hu := hu_of hr
  refine ⟨_, (pss_one (ps_for (passes_of rfl) rfl (pi_list (pe_callB (call_sortedDI rfl) (by rfl) S.z_sorted (by decide +kernel) (pa_cons (pv 0) pa_nil))) (pg_name (i := 1) sc_want_company.nd rfl (Or.inl rfl))
        (pss_one (ps_if (pt_cmpR op_isN (pe_call (ok_first_of S) (hr.mono (by decide)) rfl S.g_first_of (S.F_first_of).kp S.b_first_of .nil pass0 (pa_cons (pe_dget hu (pv 0) (pv 1) (fun _ _ => rfl)) (pa_cons (pe_callB (call_sortedDI rfl) (by rfl) S.z_sorted (by decide +kernel) (pa_cons (pv 0) pa_nil)) pa_nil))) pe_non (nomark _)) (pss_one (ps_raise rfl (takes_of rfl rfl rfl rfl) (pmk_oex (oexC S (x := "Alone") (by decide)) (exInit S (x := "Alone") (by decide)).1 (exInit S (x := "Alone") (by decide)).2 (ok_Alone_init S) (hr.mono (by decide)) S.b_Alone_init .nil pass0 (by rfl) S.g_Alone (pa_cons (pv 1) pa_nil)))) pss_nil)))), ?_⟩
  have keys : (kvN ns f).map (·.1) = ns.map Sum.inl := by unfold kvN; rw [List.map_map]; rfl
  have srt : ∀ ys : List Int, ys.Perm ns → ys.Pairwise (· ≤ ·) → ys = ns := fun ys h1 h2 => sortedI_unique h1 h2 hs
  refine ⟨_, rfl, D, _, ns, rfl, .inl hd, keys, hl, fun ys q hp1 hp2 hq => ?_⟩
  obtain rfl := srt ys hp1 hp2
  have f1 := Fin.of (same_new (o := HO.lst (ys.map V.int)) hq) ht
  have hq1 : upd H q (.lst (ys.map V.int)) q = some (.lst (ys.map V.int)) := upd_same
  revert f1 hq1
  generalize upd H q (.lst (ys.map V.int)) = H1
  intro f1 hq1
  refine ⟨q, rfl, ⟨_, .inl (.inl hq1)⟩, for_list (K := K) (a := q) (xs := ys.map V.int) (fun i σ H2 => Fin K H1 H2 ∧ companyM ys c = (ys.drop i).find? (fun m => (firstOf (c m) ys).isNone) ∧ ∃ v, σ = [some (.ref D), v]) ⟨⟨fun _ _ e _ => e, f1.2⟩, rfl, none, rfl⟩ (fun i σ H2 _ g => .inl (.inl (g.1.1 _ _ hq1 fun _ z => nomatch z))) ?_ ?_⟩
  · rintro i x σ H2 hi ⟨f2, he, v, rfl⟩
    obtain ⟨m, hm, rfl⟩ := getI hi
    have hlt : i < ys.length := (List.getElem?_eq_some_iff.mp hm).1
    have hdr : ys.drop i = m :: ys.drop (i + 1) := by
      rw [List.drop_eq_getElem_cons hlt]
      rw [List.getElem?_eq_getElem hlt] at hm
      rw [Option.some.inj hm]
    have hmm : m ∈ ys := List.mem_of_getElem? (by rw [List.getElem?_eq_getElem hlt] at hm ⊢; exact hm)
    rw [hdr, List.find?_cons] at he
    have f02 := f1.trans f2
    have hd2 := f02.1 _ _ hd fun _ z => nomatch z
    have hf2 := f02.1 _ _ (hf m hmm) fun _ z => nomatch z
    refine ⟨_, rfl, _, rfl, D, _, rfl, dgetM hd2 hmm, _, rfl, D, _, ys, rfl, .inl hd2, keys, hl, fun zs r hp3 hp4 hr => ?_⟩
    obtain rfl := srt zs hp3 hp4
    have f3 := Fin.of (same_new (o := HO.lst (zs.map V.int)) hr) f2.2
    refine ⟨f m, r, c m, zs, rfl, .inl (.inl (f3.1 _ _ hf2 fun _ z => nomatch z)), .inl (.inl upd_same), rfl, ?_⟩
    cases e : firstOf (c m) zs with
    | none =>
      rw [e] at he
      refine ⟨_, rfl, iteT ⟨_, rfl, (by show 1 ≤ 1000; decide), fun a ha => out_of ha (k2 m he _ (f02.trans f3))⟩⟩
    | some g =>
      rw [e] at he
      refine ⟨_, rfl, iteF ⟨f2.trans f3, he, _, rfl⟩⟩
  · rintro σ H2 ⟨f2, he, v, rfl⟩
    rw [List.length_map, List.drop_length] at he
    exact k1 he H2 (f1.trans f2)
end
end Nn
set_option Elab.async false
set_option linter.all false
set_option maxRecDepth 100000
set_option maxHeartbeats 1000000
namespace Nn
open PySem PySem.Spec PyProof.Rows L2 LamX KeyL
/-! ### what would be lost -/
theorem wipe_in {σ : L2.St} {j : Nat} : ∀ {vs : List Nat}, j ∈ vs → j < σ.length → (wipe σ vs)[j]? = some none
  | v :: vs, h, hl => by
    show ((wipe σ vs).set v none)[j]? = some none
    by_cases e : v = j
    · rw [e, List.getElem?_set_self (by rw [wipe_length]; exact hl)]
    · rw [List.getElem?_set_ne e]
      exact wipe_in ((List.mem_cons.mp h).resolve_left (Ne.symm e)) hl
theorem wipe_congr {σ τ : L2.St} {vs : List Nat} (hl : σ.length = τ.length) (h : ∀ j, j ∉ vs → σ[j]? = τ[j]?) : wipe σ vs = wipe τ vs := by
  refine List.ext_getElem? fun j => ?_
  by_cases c : j ∈ vs
  · by_cases d : j < σ.length
    · rw [wipe_in c d, wipe_in c (by omega)]
    · rw [List.getElem?_eq_none (by rw [wipe_length]; omega), List.getElem?_eq_none (by rw [wipe_length]; omega)]
  · rw [wipe_out c, wipe_out c]
    exact h j c
/-- three names of a target, set where they had been wiped -/
theorem wipe3 (σ : L2.St) (i j k : Nat) (a b c : Option V) : wipe ((((wipe σ [i, j, k]).set i a).set j b).set k c) [i, j, k] = wipe σ [i, j, k] := by
  refine wipe_congr (by rw [List.length_set, List.length_set, List.length_set, wipe_length]) fun l hl => ?_
  have n1 : i ≠ l := fun e => hl (by rw [e]; simp)
  have n2 : j ≠ l := fun e => hl (by rw [e]; simp)
  have n3 : k ≠ l := fun e => hl (by rw [e]; simp)
  rw [List.getElem?_set_ne n3, List.getElem?_set_ne n2, List.getElem?_set_ne n1, wipe_out hl]
def sameT (p s : Int) (t : Thing) : Bool := decide (t.1 = p) && decide (t.2.1 = s)
def besideM (R : RingS) (n p s : Int) : Bool := (othersN R n).any fun m => (keptM R m).any (sameT p s)
def lastM (R : RingS) (n : Int) : Option Int := ((keptM R n).find? fun t => decide (t.2.1 = newestM R t.1) && !besideM R n t.1 t.2.1).map (·.1)
theorem keptM_len {R : RingS} (h : Ok R) {n : Int} (hn : n ∈ R.names) : (keptM R n).length ≤ 100000 := by
  rw [(keptM_perm R n).length_eq]
  exact Nat.le_trans (h.tlen n hn) h.puts
theorem flat_len {α β : Type} (g : α → List β) (B : Nat) : ∀ xs : List α, (∀ x ∈ xs, (g x).length ≤ B) → (xs.flatMap g).length ≤ xs.length * B
  | [], _ => Nat.zero_le _
  | x :: xs, h => by
    have z1 := h x (List.mem_cons_self ..)
    have z2 := flat_len g B xs fun y hy => h y (List.mem_cons_of_mem _ hy)
    rw [List.flatMap_cons, List.length_append, List.length_cons, Nat.add_mul, Nat.one_mul]
    omega
def flagsM (R : RingS) (ms : List Int) (p s : Int) : List Bool := ms.flatMap fun m => (keptM R m).map (sameT p s)
theorem flagsM_len {R : RingS} (h : Ok R) {ms : List Int} (hm : ∀ m ∈ ms, m ∈ R.names) (hl : ms.length ≤ 64) (p s : Int) : (flagsM R ms p s).length ≤ 6400000 := by
  have z := flat_len (fun m => (keptM R m).map (sameT p s)) 100000 ms fun m h' => by rw [List.length_map]; exact keptM_len h (hm m h')
  have y : ms.length * 100000 ≤ 64 * 100000 := Nat.mul_le_mul_right _ hl
  exact Nat.le_trans z y
theorem flagsM_snoc (R : RingS) (ms : List Int) (m : Int) (p s : Int) : flagsM R (ms ++ [m]) p s = flagsM R ms p s ++ (keptM R m).map (sameT p s) := by
  unfold flagsM
  rw [List.flatMap_append, List.flatMap_cons, List.flatMap_nil, List.append_nil]
theorem flagsM_any (R : RingS) (n p s : Int) : (flagsM R (othersN R n) p s).any id = besideM R n p s := by
  unfold besideM flagsM
  rw [List.any_flatMap]
  congr 1
  funext m
  rw [List.any_map]
  rfl
section
variable {P : Program} {w : World} {K : PySem.W.Frag} {mg : Str → Option Value} {base : Heap}
def spBeside (K : PySem.W.Frag) : Sp := fun vs H Q _ => ∃ A R n p s, vs = [.ref A.r, .int n, .int p, .int s] ∧ At K H A R ∧ ∀ H', Fin K H H' → Q (.bl (besideM R n p s)) H'
theorem sc_is_kept_beside : FnScope ["ring", "name", "point", "stamp", "others", "one", "own", "its", "text"] ["ring", "name", "point", "stamp"] (defScope s_is_kept_beside) := ⟨rfl, rfl, rfl, by decide +kernel, rfl, by decide +kernel, by decide +kernel⟩
theorem ok_is_kept_beside (S : Say K mg base) : FnOk P w K mg base CX0 6 (He.ga K "is_kept_beside") (fdO K ("is_kept_beside", none)) ["ring", "name", "point", "stamp"] (spBeside K) := by
  refine (S.F_is_kept_beside).ok sc_is_kept_beside (fun vs H Q E h => ?_) (fun cdv A outer s H vs Q E hr h => ?_)
  · obtain ⟨A, R, n, p, st, rfl, h, k⟩ := h
    rfl
  obtain ⟨A, R, n, p, st, rfl, h, k⟩ := h
  have hu := hu_of hr
  refine ⟨_, PSs.nox (pss_cons (ps_setLc (i := 4) (own := [("one", 5)]) rfl sc_is_kept_beside.nd rfl rfl (sw_true rfl rfl rfl (by decide +kernel)) (pi_list (pe_meth0 (pv 0) S.c_Ring S.m_Ring_members (ok_Ring_members S) (hr.mono (by decide)) S.b_Ring_members .nil pass0)) (blkOk_by (own := [("one", 5)]) (N := ["ring", "name", "point", "stamp", "others", "one", "own", "its", "text"]) (sc := defScope s_is_kept_beside) (by decide +kernel)) (fun _ _ _ _ _ => (pg_name (i := 5) sc_is_kept_beside.nd rfl (Or.inl rfl))) (fun _ _ _ _ _ => (pts_one (pt_cmpR op_ne (pv 5) (pv 1) (nomark _)))) (fun _ _ _ _ _ => (pv 5)))
        (pss_one (ps_ret (pe_callB (cr_any rfl) (by rfl) S.z_any (by decide +kernel) (pa_cons (pe_lc2 (own := [("one", 5), ("own", 6), ("its", 7), ("text", 8)]) (vs1 := [6, 7, 8]) rfl sc_is_kept_beside.nd (pi_list (pv 4)) (blkOk_by (own := [("one", 5), ("own", 6), ("its", 7), ("text", 8)]) (N := ["ring", "name", "point", "stamp", "others", "one", "own", "its", "text"]) (sc := defScope s_is_kept_beside) (by decide +kernel)) (by decide) (fun _ _ _ _ _ => (pg_name (i := 5) sc_is_kept_beside.nd rfl (Or.inl rfl))) (fun _ _ _ _ _ => pts_nil) (fun _ _ _ _ _ => (pi_listK (K := K) rfl (pe_meth (pv 0) S.c_Ring S.m_Ring_kept (ok_Ring_kept S) (hr.mono (by decide)) S.b_Ring_kept .nil pass0 (pa_cons (pv 5) pa_nil)))) (fun _ _ _ _ _ => (pg_tupK (K := K) (n := 3) rfl rfl (pgs_cons (pg_name (i := 6) sc_is_kept_beside.nd rfl (Or.inl rfl) (Or.inr rfl)) (pgs_cons (pg_name (i := 7) sc_is_kept_beside.nd rfl (Or.inl rfl) (Or.inr rfl)) (pgs_cons (pg_name (i := 8) sc_is_kept_beside.nd rfl (Or.inl rfl) (Or.inr rfl)) pgs_nil))))) (fun _ _ _ _ _ => pts_nil) (fun _ _ _ _ _ => (pe_and (pe_cmpR op_eq (pv 6) (pv 2) (nomark _)) (pe_one (pe_cmpR op_eq (pv 7) (pv 3) (nomark _)))))) pa_nil))))), ?_⟩
  have oln := othersN_len R h.ok n
  refine ⟨_, rfl, A.r, A.dx, _, rfl, h.ring.ob, rfl, A, R, rfl, h, fun q0 H0 nq0 hq0 f0 => ⟨q0, rfl, ⟨_, .inl (.inl hq0)⟩, fun q hq => ?_⟩⟩
  have h0 := h.fin f0
  refine lc_list (K := K) (a := q0) (xs := (membersM R).map V.int) (fun i H2 => Same H0 H2 ∧ H2 q = some (.lst ((((membersM R).take i).filter fun m => decide (m ≠ n)).map V.int))) ⟨same_new hq, upd_same⟩ (fun i H2 _ h => .inl (.inl (h.1 _ _ hq0))) ?_ ?_
  · rintro i x H2 hi ⟨s2, hd⟩
    obtain ⟨m, hm, rfl⟩ := getI hi
    refine ⟨rfl, _, rfl, _, rfl, rfl, _, rfl, ?_⟩
    have e : decide (V.int m = V.int n) = decide (m = n) := by simp
    rw [e]
    by_cases c : m = n
    · rw [decide_eq_true c]
      refine iteF ⟨s2, ?_⟩
      rw [hd, take_one hm, List.filter_append]
      simp [c]
    · rw [decide_eq_false c]
      refine iteT ⟨_, rfl, _, hd, szL ?_, fun b' o e => by rw [upd_ne (ne_of_none e hq)]; exact s2 b' o e, ?_⟩
      · rw [List.length_map]
        have := List.length_filter_le (fun m => decide (m ≠ n)) ((membersM R).take i)
        rw [List.length_take, membersM_len] at this
        have := h.ok.few
        omega
      · rw [upd_same, take_one hm, List.filter_append]
        simp [c]
  rintro H1 ⟨s1, hq1'⟩
  rw [List.length_map, List.take_length] at hq1'
  have hq1 : H1 q = some (.lst ((othersN R n).map V.int)) := hq1'
  have f1 : Fin K H H1 := f0.trans (Fin.of s1 h0.tabs)
  have h1 := h.fin f1
  refine ⟨_, rfl, q, rfl, ⟨_, .inl (.inl hq1)⟩, fun D hD => ?_⟩
  refine ⟨fun i m H2 => m = (othersN R n).length - i ∧ i ≤ (othersN R n).length ∧ Fin K H1 H2 ∧ H2 D = some (.lst ((flagsM R ((othersN R n).take i) p st).map V.bl)), ⟨_, rfl, Nat.zero_le _, Fin.of (same_new hD) h1.tabs, upd_same⟩, ?_⟩
  rintro i m0 H2 ⟨rfl, hi, f2, hd⟩
  have hq2 : SqL K H2 q ((othersN R n).map V.int) := .inl (.inl (f2.1 _ _ hq1 fun _ z => nomatch z))
  by_cases hlt : i < (othersN R n).length
  · refine .inr ⟨⟨_, V.int (othersN R n)[i], hq2, by simp [hlt]⟩, fun H3 => Fin K H1 H3 ∧ H3 D = some (.lst ((flagsM R ((othersN R n).take (i + 1)) p st).map V.bl)), fun H3 h3 => ⟨(othersN R n).length - (i + 1), by omega, rfl, by omega, h3⟩, fun x H3 y => ?_⟩
    obtain ⟨rfl, y⟩ := y
    obtain ⟨m, hm, rfl⟩ := getI (y _ hq2)
    have hmn : m ∈ R.names := (othersN_mem.mp (List.mem_of_getElem? hm)).1
    have h2 := h1.fin f2
    have tk := take_one hm
    refine ⟨rfl, _, rfl, A.r, A.dx, _, rfl, h2.ring.ob, rfl, _, rfl, A, R, m, rfl, h2, hmn, fun q3 H3 nq3 hq3 f3 => ?_⟩
    obtain ⟨us, hus, hP⟩ := hq3
    have lus := paired_len hP
    have hd3 : H3 D = some (.lst ((flagsM R ((othersN R n).take i) p st).map V.bl)) := f3.1 _ _ hd fun _ z => nomatch z
    refine ⟨q3, rfl, ⟨_, .inl (.inl hus)⟩, fun j k H4 => k = us.length - j ∧ j ≤ us.length ∧ Fin K H1 H4 ∧ (∀ b o, H3 b = some o → (∀ ps, o ≠ .tbl ps) → b ≠ D → H4 b = some o) ∧ H4 D = some (.lst ((flagsM R ((othersN R n).take i) p st ++ ((keptM R m).take j).map (sameT p st)).map V.bl)), ⟨_, rfl, Nat.zero_le _, f2.trans f3, fun b o e _ _ => e, by rw [List.take_zero, List.map_nil, List.append_nil]; exact hd3⟩, ?_⟩
    rintro j k0 H4 ⟨rfl, hj, f4, o4, hd4⟩
    have hq3D : q3 ≠ D := fun e => nq3 D _ hd (fun _ z => nomatch z) e.symm
    have hus4 : SqL K H4 q3 (us.map V.ref) := .inl (.inl (o4 _ _ hus (fun _ z => nomatch z) hq3D))
    by_cases hlj : j < us.length
    · refine .inr ⟨⟨_, V.ref us[j], hus4, by simp [hlj]⟩, fun H5 => Fin K H1 H5 ∧ (∀ b o, H3 b = some o → (∀ ps, o ≠ .tbl ps) → b ≠ D → H5 b = some o) ∧ H5 D = some (.lst ((flagsM R ((othersN R n).take i) p st ++ ((keptM R m).take (j + 1)).map (sameT p st)).map V.bl)), fun H5 h5 => ⟨us.length - (j + 1), by omega, rfl, by omega, h5⟩, fun x H5 y5 => ?_⟩
      obtain ⟨rfl, y5⟩ := y5
      obtain ⟨u, hu, rfl⟩ : ∃ u, us[j]? = some u ∧ x = V.ref u := by
        have z := y5 _ hus4
        rw [List.getElem?_map] at z
        cases q : us[j]? with
        | none => rw [q] at z; cases z
        | some u => rw [q] at z; exact ⟨u, rfl, (Option.some.inj z).symm⟩
      obtain ⟨t, ht, hrow⟩ := paired_at hP hu
      have hrow4 := o4 _ _ hrow (fun _ z => nomatch z) (ne_of hrow hd3 fun z => nomatch z)
      have tkj := take_oneG ht
      have fin : ∀ b : Bool, b = sameT p st t → ∃ acc, H5 D = some (.lst acc) ∧ acc.length < sizeLine ∧ (Fin K H1 (upd H5 D (.lst (acc ++ [V.bl b]))) ∧ (∀ c o, H3 c = some o → (∀ ps, o ≠ .tbl ps) → c ≠ D → upd H5 D (.lst (acc ++ [V.bl b])) c = some o) ∧ upd H5 D (.lst (acc ++ [V.bl b])) D = some (.lst ((flagsM R ((othersN R n).take i) p st ++ ((keptM R m).take (j + 1)).map (sameT p st)).map V.bl))) := by
        intro b eb
        refine ⟨_, hd4, ?_, ⟨fun c o e1 e2 => ?_, tabs_upd f4.2 hd4 rfl⟩, fun c o e1 e2 e3 => by rw [upd_ne e3]; exact o4 c o e1 e2 e3, ?_⟩
        · rw [List.length_map, List.length_append, List.length_map, List.length_take, sizeLine_eq]
          have z1 := flagsM_len h.ok (ms := (othersN R n).take i) (fun m hm => (othersN_mem.mp (List.mem_of_mem_take hm)).1) (by rw [List.length_take]; omega) p st
          have z2 := keptM_len h.ok hmn
          omega
        · rw [upd_ne (ne_of_none e1 hD)]
          exact f4.1 c o e1 e2
        · rw [upd_same, tkj, eb]
          simp
      refine ⟨u, _, rfl, .inl (.inl hrow4), rfl, _, _, rfl, _, _, rfl, _, _, rfl, rfl, wipe3 _ _ _ _ _ _ _, ?_⟩
      refine ⟨_, rfl, _, rfl, rfl, _, rfl, ?_⟩
      have e1 : decide (V.int t.1 = V.int p) = decide (t.1 = p) := by simp
      rw [e1]
      by_cases c : t.1 = p
      · rw [decide_eq_true c]
        refine iteT ⟨_, rfl, _, rfl, rfl, fin _ ?_⟩
        unfold sameT
        rw [decide_eq_true c, Bool.true_and]
        simp
      · rw [decide_eq_false c]
        refine iteF (fin _ ?_)
        unfold sameT
        rw [decide_eq_false c, Bool.false_and]
    · have ej : j = us.length := by omega
      subst ej
      rw [lus, List.take_length] at hd4
      refine .inl ⟨⟨_, hus4, by rw [List.length_map]; exact Nat.le_refl _⟩, f4, ?_⟩
      rw [tk, flagsM_snoc]
      exact hd4
  · have ei : i = (othersN R n).length := by omega
    subst ei
    rw [List.take_length] at hd
    refine .inl ⟨⟨_, hq2, by rw [List.length_map]; exact Nat.le_refl _⟩, D, _, rfl, .inl (.inl hd), ?_⟩
    rw [flagsM_any]
    exact k H2 (f1.trans f2)
end
end Nn
set_option Elab.async false
set_option linter.all false
set_option maxRecDepth 100000
set_option maxHeartbeats 1000000
namespace Nn
open PySem PySem.Spec PyProof.Rows L2 LamX KeyL
section
variable {P : Program} {w : World} {K : PySem.W.Frag} {mg : Str → Option Value} {base : Heap}
def lostT (R : RingS) (n : Int) (t : Thing) : Bool := decide (t.2.1 = newestM R t.1) && !besideM R n t.1 t.2.1
theorem lastM_find (R : RingS) (n : Int) : lastM R n = ((keptM R n).find? (lostT R n)).map (·.1) := rfl
def spWantKept (K : PySem.W.Frag) : Sp := fun vs H Q E => ∃ A R n, vs = [.ref A.r, .int n] ∧ At K H A R ∧ n ∈ R.names ∧ (lastM R n = none → ∀ H', Fin K H H' → Q .non H') ∧ (∀ p, lastM R n = some p → ∀ H', Fin K H H' → Out K "LastOne" "point" (.int p) H' E)
theorem sc_want_kept : FnScope ["ring", "name", "point", "stamp", "text"] ["ring", "name"] (defScope s_want_kept) := ⟨rfl, rfl, rfl, by decide +kernel, rfl, by decide +kernel, by decide +kernel⟩
theorem ok_want_kept (S : Say K mg base) : FnOk P w K mg base (L2.CX P w) 7 (He.ga K "want_kept") (fdO K ("want_kept", none)) ["ring", "name"] (spWantKept K) := by
  refine (S.F_want_kept).ok sc_want_kept (fun vs H Q E h => ?_) (fun cdv A outer s H vs Q E hr h => ?_)
  · obtain ⟨A, R, n, rfl, h, hn, k1, k2⟩ := h
    rfl
  obtain ⟨A, R, n, rfl, h, hn, k1, k2⟩ := h
  have hu := hu_of hr
  refine ⟨_, (pss_one (ps_for (passes_of rfl) rfl (pi_list (pe_meth (pv 0) S.c_Ring S.m_Ring_kept (ok_Ring_kept S) (hr.mono (by decide)) S.b_Ring_kept .nil pass0 (pa_cons (pv 1) pa_nil))) (pg_tupK (K := K) (n := 3) rfl rfl (pgs_cons (pg_name (i := 2) sc_want_kept.nd rfl (Or.inl rfl) (Or.inr rfl)) (pgs_cons (pg_name (i := 3) sc_want_kept.nd rfl (Or.inl rfl) (Or.inr rfl)) (pgs_cons (pg_name (i := 4) sc_want_kept.nd rfl (Or.inl rfl) (Or.inr rfl)) pgs_nil))))
        (pss_one (ps_if (PW.pt (pw_and (pt_cmpR op_eq (pv 3) (pe_meth (pv 0) S.c_Ring S.m_Ring_newest_stamp (ok_Ring_newest_stamp S) (hr.mono (by decide)) S.b_Ring_newest_stamp .nil pass0 (pa_cons (pv 2) pa_nil)) (nomark _)) (pw_and1 (pt_not (pt_val (pe_call (ok_is_kept_beside S) (hr.mono (by decide)) rfl S.g_is_kept_beside (S.F_is_kept_beside).kp S.b_is_kept_beside .nil pass0 (pa_cons (pv 0) (pa_cons (pv 1) (pa_cons (pv 2) (pa_cons (pv 3) pa_nil)))))))))) (pss_one (ps_raise rfl (takes_of rfl rfl rfl rfl) (pmk_oex (oexC S (x := "LastOne") (by decide)) (exInit S (x := "LastOne") (by decide)).1 (exInit S (x := "LastOne") (by decide)).2 (ok_LastOne_init S) (hr.mono (by decide)) S.b_LastOne_init .nil pass0 (by rfl) S.g_LastOne (pa_cons (pv 2) pa_nil)))) pss_nil)))), ?_⟩
  refine ⟨_, rfl, A.r, A.dx, _, rfl, h.ring.ob, rfl, _, rfl, A, R, n, rfl, h, hn, fun q H1 nq hq f1 => ?_⟩
  have h1 := h.fin f1
  obtain ⟨us, hus, hP⟩ := id hq
  have lus := paired_len hP
  refine ⟨q, rfl, ⟨_, .inl (.inl hus)⟩, for_list (K := K) (a := q) (xs := us.map V.ref) (fun i σ H2 => Fin K H1 H2 ∧ lastM R n = (((keptM R n).drop i).find? (lostT R n)).map (·.1) ∧ ∃ a b c, σ = [some (.ref A.r), some (.int n), a, b, c]) ⟨⟨fun _ _ e _ => e, h1.tabs⟩, rfl, none, none, none, rfl⟩ (fun i σ H2 _ g => .inl (.inl (g.1.1 _ _ hus fun _ z => nomatch z))) ?_ ?_⟩
  · rintro i x σ H2 hi ⟨f2, he, a, b, c, rfl⟩
    obtain ⟨u, hu, rfl⟩ : ∃ u, us[i]? = some u ∧ x = V.ref u := by
      rw [List.getElem?_map] at hi
      cases q : us[i]? with
      | none => rw [q] at hi; cases hi
      | some u => rw [q] at hi; exact ⟨u, rfl, (Option.some.inj hi).symm⟩
    obtain ⟨t, ht, hrow⟩ := paired_at hP hu
    have hrow2 := f2.1 _ _ hrow fun _ z => nomatch z
    have hlt : i < (keptM R n).length := (List.getElem?_eq_some_iff.mp ht).1
    have hdr : (keptM R n).drop i = t :: (keptM R n).drop (i + 1) := by
      rw [List.drop_eq_getElem_cons hlt]
      rw [List.getElem?_eq_getElem hlt] at ht
      rw [Option.some.inj ht]
    rw [hdr, List.find?_cons] at he
    have f02 := f1.trans f2
    have h2 := h1.fin f2
    refine ⟨u, _, rfl, .inl (.inl hrow2), rfl, _, _, rfl, _, _, rfl, _, _, rfl, rfl, ?_⟩
    refine ⟨_, rfl, _, rfl, A.r, A.dx, _, rfl, h2.ring.ob, rfl, _, rfl, A, R, t.1, rfl, h2, fun H3 f3 => ⟨rfl, _, rfl, ?_⟩⟩
    have h3 := h2.fin f3
    have e1 : decide (V.int t.2.1 = V.int (newestM R t.1)) = decide (t.2.1 = newestM R t.1) := by simp
    rw [e1]
    by_cases c1 : t.2.1 = newestM R t.1
    · rw [decide_eq_true c1]
      refine iteT ⟨_, rfl, _, rfl, _, rfl, _, rfl, A, R, n, t.1, t.2.1, rfl, h3, fun H4 f4 => ?_⟩
      by_cases c2 : besideM R n t.1 t.2.1 = true
      · have el : lostT R n t = false := by unfold lostT; rw [c2]; simp
        rw [el] at he
        rw [c2]
        exact ⟨_, rfl, iteF ⟨(f2.trans f3).trans f4, he, _, _, _, rfl⟩⟩
      · have c2' := bfalse c2
        have el : lostT R n t = true := by unfold lostT; rw [c2', decide_eq_true c1]; rfl
        rw [el] at he
        rw [c2']
        exact ⟨_, rfl, iteT ⟨_, rfl, (by show 1 ≤ 1000; decide), fun a ha => out_of ha (k2 t.1 he _ ((f02.trans f3).trans f4))⟩⟩
    · have el : lostT R n t = false := by unfold lostT; rw [decide_eq_false c1]; rfl
      rw [el] at he
      rw [decide_eq_false c1]
      exact iteF (iteF ⟨f2.trans f3, he, _, _, _, rfl⟩)
  · rintro σ H2 ⟨f2, he, a, b, c, rfl⟩
    rw [List.length_map, lus, List.drop_length] at he
    exact k1 he H2 (f1.trans f2)
/-- what refuses a crash -/
def crashErr (R : RingS) (n : Int) : Option (Str × Str × V) :=
  if n ∈ R.fixed then some ("Fixed", "who", .int n) else
  match companyM (othersN R n) fun m => (R.node m).chain with
  | some m => some ("Alone", "who", .int m)
  | none => match lastM R n with
    | some p => some ("LastOne", "point", .int p)
    | none => none
def crashM (R : RingS) (n : Int) : RingS := (R.vanish n).note (.flat "crash" [.int n])
theorem company_ok {R : RingS} {n : Int} {c : Int → List Int} (h : companyM (othersN R n) c = none) : ∀ m ∈ R.names, m ≠ n → ∃ k ∈ c m, k ∈ R.names ∧ k ≠ n := fun m hm hne => by
  have z := List.find?_eq_none.mp h m (othersN_mem.mpr ⟨hm, hne⟩)
  cases e : firstOf (c m) (othersN R n) with
  | none => rw [e] at z; exact absurd rfl z
  | some k =>
    have y := List.find?_some (show ((c m).find? fun n' => decide (n' ∈ othersN R n)) = some k from e)
    exact ⟨k, List.mem_of_find?_eq_some (show ((c m).find? fun n' => decide (n' ∈ othersN R n)) = some k from e), othersN_mem.mp (by simpa using y)⟩
def spCrash (K : PySem.W.Frag) : Sp := fun vs H Q E => ∃ A R n, vs = [.ref A.r, .int n] ∧ At K H A R ∧ n ∈ R.names ∧ R.done.length < 1000000 ∧ (crashErr R n = none → ∀ H', At K H' A (crashM R n) → Frame H A H' A → Q .non H') ∧ (∀ e, crashErr R n = some e → ∀ H', Fin K H H' → Out K e.1 e.2.1 e.2.2 H' E)
theorem sc_crash : FnScope ["ring", "name"] ["ring", "name"] (defScope s_crash) := ⟨rfl, rfl, rfl, by decide +kernel, rfl, by decide +kernel, by decide +kernel⟩
theorem ok_crash (S : Say K mg base) : FnOk P w K mg base (L2.CX P w) 8 (He.ga K "crash") (fdO K ("crash", none)) ["ring", "name"] (spCrash K) := by
  refine (S.F_crash).ok sc_crash (fun vs H Q E h => ?_) (fun cdv A outer s H vs Q E hr h => ?_)
  · obtain ⟨A, R, n, rfl, h, hn, hd, k1, k2⟩ := h
    rfl
  obtain ⟨A, R, n, rfl, h, hn, hd, k1, k2⟩ := h
  have hu := hu_of hr
  refine ⟨_, (pss_cons (ps_expr (pe_call (ok_want_loose S) (hr.mono (by decide)) rfl S.g_want_loose (S.F_want_loose).kp S.b_want_loose .nil (passes_call (W := fun c d _ H => E c d H) (takes_of rfl rfl rfl rfl) (fun _ _ _ _ h => h)) (pa_cons (pv 0) (pa_cons (pv 1) pa_nil))))
        (pss_cons (ps_expr (pe_call (ok_want_company S) (hr.mono (by decide)) rfl S.g_want_company (S.F_want_company).kp S.b_want_company .nil (passes_call (W := fun c d _ H => E c d H) (takes_of rfl rfl rfl rfl) (fun _ _ _ _ h => h)) (pa_cons (pe_call (ok_chains_without S) (hr.mono (by decide)) rfl S.g_chains_without (S.F_chains_without).kp S.b_chains_without .nil pass0 (pa_cons (pv 0) (pa_cons (pv 1) pa_nil))) pa_nil)))
        (pss_cons (ps_expr (pe_call (ok_want_kept S) (hr.mono (by decide)) rfl S.g_want_kept (S.F_want_kept).kp S.b_want_kept .nil (passes_call (W := fun c d _ H => E c d H) (takes_of rfl rfl rfl rfl) (fun _ _ _ _ h => h)) (pa_cons (pv 0) (pa_cons (pv 1) pa_nil))))
        (pss_cons (ps_expr (pe_meth (pv 0) S.c_Ring S.m_Ring_vanish (ok_Ring_vanish S) (hr.mono (by decide)) S.b_Ring_vanish .nil pass0 (pa_cons (pv 1) pa_nil)))
        (pss_one (ps_expr (pe_meth (pv 0) S.c_Ring S.m_Ring_note (ok_Ring_note S) (hr.mono (by decide)) S.b_Ring_note .nil pass0 (pa_cons (pe_tup (pa_cons pe_str (pa_cons (pv 1) pa_nil))) pa_nil)))))))), ?_⟩
  refine ⟨_, rfl, _, rfl, A, R, n, rfl, h, hn, fun c1 H1 f1 => ?_, fun c1 H1 f1 => k2 _ (if_pos c1) H1 f1⟩
  have h1 := h.fin f1
  have e1 : crashErr R n = match companyM (othersN R n) (fun m => (R.node m).chain) with
    | some m => some ("Alone", "who", .int m)
    | none => match lastM R n with
      | some p => some ("LastOne", "point", .int p)
      | none => none := if_neg c1
  refine ⟨_, rfl, _, rfl, A, R, n, rfl, h1, fun D f H2 nD hD hf f2 => ?_⟩
  have h2 := h1.fin f2
  have f12 := f1.trans f2
  refine ⟨D, othersN R n, f, fun m => (R.node m).chain, rfl, h2.tabs, hD, fun m hm => (hf m hm).2, othersN_sorted R n, othersN_len R h.ok n, fun c2 H3 f3 => ?_, fun m c2 H3 f3 => ?_⟩
  · rw [c2] at e1
    have h3 := h2.fin f3
    have f13 := f12.trans f3
    refine ⟨_, rfl, _, rfl, A, R, n, rfl, h3, hn, fun c3 H4 f4 => ?_, fun p c3 H4 f4 => k2 ("LastOne", "point", .int p) (e1.trans (by rw [c3])) H4 (f13.trans f4)⟩
    rw [c3] at e1
    have h4 := h3.fin f4
    have f14 := f13.trans f4
    refine ⟨_, rfl, A.r, A.dx, _, rfl, h4.ring.ob, rfl, _, rfl, A, R, n, rfl, h4, hn, c1, company_ok c2, fun H5 h5 f5 => ?_⟩
    refine ⟨_, rfl, A.r, A.dx, _, rfl, h5.ring.ob, rfl, _, rfl, (by show 2 ≤ sizeLine; decide), fun u hu => ?_⟩
    have f6 := Fin.of (same_new (o := HO.tup [.str "crash", .int n]) hu) h5.tabs
    exact ⟨A, _, _, .flat "crash" [.int n], rfl, h5.fin f6, hd, ⟨u, rfl, upd_same, rfl⟩, fun H7 h7 f7 => k1 e1 H7 h7 ((Frame.fin f14).trans (f5.trans ((Frame.fin f6).trans f7)))⟩
  · rw [c2] at e1
    exact k2 _ e1 H3 (f12.trans f3)
end
end Nn
set_option Elab.async false
set_option linter.all false
set_option maxRecDepth 100000
set_option maxHeartbeats 1000000
namespace Nn
open PySem PySem.Spec PyProof.Rows L2 LamX KeyL
/-! ### leaving -/
def handSome (R : RingS) (n a : Int) : List Int := (a :: (R.node a).chain).filter fun m => decide (m ∈ R.names) && decide (m ≠ n)
def handStep (hs : List Int) (R : RingS) (t : Thing) : RingS := offersM R hs t.1 t.2.1 t.2.2
def handFrom (R : RingS) (hs : List Int) (ts : List Thing) : RingS := ts.foldl (handStep hs) R
def handOnM (R : RingS) (n a : Int) : RingS := handFrom R (handSome R n a) (keptM R n)
theorem handFrom_but (hs : List Int) : ∀ (ts : List Thing) (R : RingS), SameBut R (handFrom R hs ts)
  | [], R => SameBut.refl R
  | t :: ts, R => (offersM_but R hs t.1 t.2.1 t.2.2).trans (handFrom_but hs ts _)
theorem handFrom_snoc (R : RingS) (hs : List Int) (ts : List Thing) (t : Thing) : handFrom R hs (ts ++ [t]) = handStep hs (handFrom R hs ts) t := by unfold handFrom; rw [List.foldl_append]; rfl
/-- the tables stay, but for kept things -/
def SameP (R R' : RingS) : Prop := ∀ m, (R'.node m).chain = (R.node m).chain ∧ (R'.node m).prior = (R.node m).prior ∧ (R'.node m).far = (R.node m).far
theorem SameP.refl (R : RingS) : SameP R R := fun m => ⟨rfl, rfl, rfl⟩
theorem SameP.trans {R R1 R2 : RingS} (a : SameP R R1) (b : SameP R1 R2) : SameP R R2 := fun m => ⟨(b m).1.trans (a m).1, (b m).2.1.trans (a m).2.1, (b m).2.2.trans (a m).2.2⟩
theorem setThings_parts (R : RingS) (n : Int) (ts : List Thing) : SameP R (R.setThings n ts) := fun m => by
  show ((if m = n then withThings (R.node n) ts else R.node m).chain = _ ∧ (if m = n then withThings (R.node n) ts else R.node m).prior = _ ∧ (if m = n then withThings (R.node n) ts else R.node m).far = _)
  by_cases e : m = n
  · rw [if_pos e, e]; exact ⟨rfl, rfl, rfl⟩
  · rw [if_neg e]; exact ⟨rfl, rfl, rfl⟩
theorem offersM_parts (p s : Int) (x : Option Str) : ∀ (ns : List Int) (R : RingS), SameP R (offersM R ns p s x)
  | [], R => SameP.refl R
  | n :: ns, R => (setThings_parts R n _).trans (offersM_parts p s x ns (R.offer n p s x))
theorem handFrom_parts (hs : List Int) : ∀ (ts : List Thing) (R : RingS), SameP R (handFrom R hs ts)
  | [], R => SameP.refl R
  | t :: ts, R => (offersM_parts t.1 t.2.1 t.2.2 hs R).trans (handFrom_parts hs ts _)
def priorM (R : RingS) (n : Int) : Option Int := memO R (R.node n).prior
def leaveC (R : RingS) (n m : Int) : List Int := if priorM R n = some m then spliceM (R.node m).chain n (R.node n).chain else (R.node m).chain
def leaveErr (R : RingS) (n : Int) : Option (Str × Str × V) :=
  if n ∈ R.fixed then some ("Fixed", "who", .int n) else
  match companyM (othersN R n) (leaveC R n) with
  | some m => some ("Alone", "who", .int m)
  | none => none
def leave2 (R : RingS) (n : Int) : RingS :=
  match priorM R n with
  | some p => (handOnM R n (nxtI R n)).setChain p (leaveC R n p)
  | none => handOnM R n (nxtI R n)
def leave3 (R : RingS) (n : Int) : RingS := if ((leave2 R n).node (nxtI R n)).prior = some n then (leave2 R n).setPrior (nxtI R n) (priorM R n) else leave2 R n
def leaveM (R : RingS) (n : Int) : RingS := ((leave3 R n).vanish n).note (.flat "leave" [.int n])
theorem leave2_but (R : RingS) (n : Int) : SameBut R (leave2 R n) := by
  unfold leave2
  cases priorM R n with
  | none => exact handFrom_but ..
  | some p => exact (handFrom_but (handSome R n (nxtI R n)) (keptM R n) R).trans ⟨rfl, rfl, rfl, rfl, rfl, rfl⟩
theorem leave3_but (R : RingS) (n : Int) : SameBut R (leave3 R n) := by
  unfold leave3
  by_cases c : ((leave2 R n).node (nxtI R n)).prior = some n
  · rw [if_pos c]; exact (leave2_but R n).trans ⟨rfl, rfl, rfl, rfl, rfl, rfl⟩
  · rw [if_neg c]; exact leave2_but R n
theorem leave2_chain (R : RingS) (n m : Int) : ((leave2 R n).node m).chain = leaveC R n m := by
  unfold leave2
  have hp := handFrom_parts (handSome R n (nxtI R n)) (keptM R n) R m
  cases e : priorM R n with
  | none =>
    show ((handOnM R n (nxtI R n)).node m).chain = _
    unfold leaveC
    rw [e, if_neg (fun z => nomatch z)]
    exact hp.1
  | some p =>
    show (if m = p then withChain ((handOnM R n (nxtI R n)).node p) (leaveC R n p) else (handOnM R n (nxtI R n)).node m).chain = _
    by_cases c : m = p
    · rw [if_pos c, c]; rfl
    · rw [if_neg c]
      unfold leaveC
      rw [e, if_neg (fun z => c (Option.some.inj z).symm)]
      exact hp.1
theorem leave3_chain (R : RingS) (n m : Int) : ((leave3 R n).node m).chain = leaveC R n m := by
  unfold leave3
  by_cases c : ((leave2 R n).node (nxtI R n)).prior = some n
  · rw [if_pos c]
    show (if m = nxtI R n then withPrior ((leave2 R n).node (nxtI R n)) (priorM R n) else (leave2 R n).node m).chain = _
    by_cases e : m = nxtI R n
    · rw [if_pos e, e]; exact leave2_chain R n _
    · rw [if_neg e]; exact leave2_chain R n m
  · rw [if_neg c]; exact leave2_chain R n m
theorem putK_kvN_old {ns : List Int} {f : Int → Addr} {p : Int} (h : p ∈ ns) (q : Addr) : putK (kvN ns f) (Sum.inl p : Key) (V.ref q) = kvN ns (updF f p q) := by
  unfold putK
  rw [valV_any, valV_kvN, if_pos h]
  show List.map _ (kvN ns f) = _
  unfold kvN
  rw [List.map_map]
  refine List.map_congr_left fun t ht => ?_
  show (if (Sum.inl t : Key) = Sum.inl p then ((Sum.inl t : Key), V.ref q) else (Sum.inl t, V.ref (f t))) = (Sum.inl t, V.ref (updF f p q t))
  by_cases e : t = p
  · rw [if_pos (by rw [e])]
    have e0 : updF f p q t = q := if_pos e
    rw [e0]
  · rw [if_neg (fun z => e (Sum.inl.inj z))]
    have e0 : updF f p q t = f t := if_neg e
    rw [e0]
theorem spliceM_len {ns ms : List Int} {g : Int} (h : ns.length = ms.length) : (spliceM ns g ms).length = ns.length := by
  unfold spliceM
  by_cases c : g ∈ ns
  · rw [if_pos c, List.length_take, List.length_append]
    omega
  · rw [if_neg c]
theorem spliceM_mem {ns ms : List Int} {g x : Int} (h : x ∈ spliceM ns g ms) : x ∈ ns ∨ x ∈ ms := by
  unfold spliceM at h
  by_cases c : g ∈ ns
  · rw [if_pos c] at h
    rcases List.mem_append.mp (List.mem_of_mem_take h) with z | z
    · exact .inl (List.mem_of_mem_take z)
    · exact .inr z
  · rw [if_neg c] at h
    exact .inl h
section
variable {P : Program} {w : World} {K : PySem.W.Frag} {mg : Str → Option Value} {base : Heap}
theorem At.chainF {H : Hp} {A : RA} {R : RingS} {n : Int} (h : At K H A R) (hn : n ∈ R.names) {q : Addr} {G : Hp} {A0 : RA} (fr : Frame G A0 H A) (nq : NotOld G q) : Frame G A0 (upd H (A.nd n) (.ins (He.ga K "Node") (A.nx n) (nodeF q (oV (R.node n).prior) (A.af n) (A.at_ n)))) (A.setC n q) := by
  have hN := h.ring.node n hn
  have rn := h.ring.rNode n hn
  refine ⟨fr.r, fun b o e1 e2 e3 => ?_, fun b xs e => ?_⟩
  · obtain ⟨g1, g2⟩ := fr.off b o e1 e2 e3
    refine ⟨by rw [upd_ne (fun e => by rw [e, rn] at g2; cases g2)]; exact g1, ?_⟩
    show (if b = q then some (Role.chain n) else A.ρ b) = none
    rw [if_neg (nq b o e1 e2)]
    exact g2
  · have z := fr.tup _ _ e
    rw [upd_ne (ne_of z hN.ob fun z => nomatch z)]
    exact z
theorem At.write {H : Hp} {A : RA} {R : RingS} (h : At K H A R) {D : Addr} {o0 o : HO} (hr : A.ρ D = none) (hD : H D = some o0) (hp : plainO o0 = true) (ht : ∀ xs, o0 ≠ .tup xs) : At K (upd H D o) A R :=
  ⟨h.ring.keep (fun b ro u e1 e2 => by rw [upd_ne (fun e => by rw [e, hr] at e1; cases e1)]; exact e2) (fun b xs e => by rw [upd_ne (fun z => by rw [z, hD] at e; exact ht xs (Option.some.inj e))]; exact e), h.ok, tabs_upd h.tabs hD hp⟩
def spHandOn (K : PySem.W.Frag) : Sp := fun vs H Q _ => ∃ A R n a, vs = [.ref A.r, .int n, .int a] ∧ At K H A R ∧ n ∈ R.names ∧ a ∈ R.names ∧ ∀ H', At K H' A (handOnM R n a) → Frame H A H' A → Q .non H'
theorem sc_hand_on : FnScope ["ring", "name", "after", "some", "point", "stamp", "text", "one"] ["ring", "name", "after"] (defScope s_hand_on) := ⟨rfl, rfl, rfl, by decide +kernel, rfl, by decide +kernel, by decide +kernel⟩
theorem ok_hand_on (S : Say K mg base) : FnOk P w K mg base CX0 6 (He.ga K "hand_on") (fdO K ("hand_on", none)) ["ring", "name", "after"] (spHandOn K) := by
  refine (S.F_hand_on).ok sc_hand_on (fun vs H Q E h => ?_) (fun cdv A outer s H vs Q E hr h => ?_)
  · obtain ⟨A, R, n, a, rfl, h, hn, ha, k⟩ := h
    rfl
  obtain ⟨A, R, n, a, rfl, h, hn, ha, k⟩ := h
  have hu := hu_of hr
  refine ⟨_, PSs.nox (pss_cons (ps_setLc (i := 3) (own := [("one", 7)]) rfl sc_hand_on.nd rfl rfl (sw_true rfl rfl rfl (by decide +kernel)) (pi_list (pe_op op_cat (pe_lst (pa_cons (pv 2) pa_nil)) (pe_meth (pv 0) S.c_Ring S.m_Ring_links (ok_Ring_links S) (hr.mono (by decide)) S.b_Ring_links .nil pass0 (pa_cons (pv 2) pa_nil)))) (blkOk_by (own := [("one", 7)]) (N := ["ring", "name", "after", "some", "point", "stamp", "text", "one"]) (sc := defScope s_hand_on) (by decide +kernel)) (fun _ _ _ _ _ => (pg_name (i := 7) sc_hand_on.nd rfl (Or.inl rfl))) (fun _ _ _ _ _ => (pts_one (PW.pt (pw_and (pt_val (pe_meth (pv 0) S.c_Ring S.m_Ring_is_member (ok_Ring_is_member S) (hr.mono (by decide)) S.b_Ring_is_member .nil pass0 (pa_cons (pv 7) pa_nil))) (pw_and1 (pt_cmpR op_ne (pv 7) (pv 1) (nomark _))))))) (fun _ _ _ _ _ => (pv 7)))
        (pss_one (ps_for PassesOwn.never rfl (pi_list (pe_meth (pv 0) S.c_Ring S.m_Ring_kept (ok_Ring_kept S) (hr.mono (by decide)) S.b_Ring_kept .nil pass0 (pa_cons (pv 1) pa_nil))) (pg_tupK (K := K) (n := 3) rfl rfl (pgs_cons (pg_name (i := 4) sc_hand_on.nd rfl (Or.inl rfl) (Or.inr rfl)) (pgs_cons (pg_name (i := 5) sc_hand_on.nd rfl (Or.inl rfl) (Or.inr rfl)) (pgs_cons (pg_name (i := 6) sc_hand_on.nd rfl (Or.inl rfl) (Or.inr rfl)) pgs_nil))))
        (pss_one (ps_for PassesOwn.never rfl (pi_list (pv 3)) (pg_name (i := 7) sc_hand_on.nd rfl (Or.inl rfl))
        (pss_one (ps_expr (pe_meth (pv 0) S.c_Ring S.m_Ring_offer (ok_Ring_offer S) (hr.mono (by decide)) S.b_Ring_offer .nil pass0 (pa_cons (pv 7) (pa_cons (pv 4) (pa_cons (pv 5) (pa_cons (pv 6) pa_nil)))))))))))), ?_⟩
  have cl : (R.node a).chain.length ≤ 4 := by rw [h.ok.clen _ ha]; exact h.ok.many.2
  refine ⟨_, rfl, (by show 1 ≤ sizeLine; decide), fun q1 hq1 => ?_⟩
  have f1 := Fin.of (same_new (o := HO.lst [V.int a]) hq1) h.tabs
  have h1 := h.fin f1
  refine ⟨_, rfl, A.r, A.dx, _, rfl, h1.ring.ob, rfl, _, rfl, A, R, a, rfl, h1, ha, fun q2 H2 nq2 hq2 f2 => ?_⟩
  have h2 := h1.fin f2
  have hq12 : H2 q1 = some (.lst [V.int a]) := f2.1 _ _ upd_same fun _ z => nomatch z
  refine ⟨q1, q2, _, _, rfl, rfl, hq12, hq2, szI (by rw [List.length_map]; show 1 + _ ≤ 1000; omega), fun q3 hq3 => ?_⟩
  have ec : [V.int a] ++ (R.node a).chain.map V.int = (a :: (R.node a).chain).map V.int := rfl
  rw [ec]
  have f3 := Fin.of (same_new (o := HO.lst ((a :: (R.node a).chain).map V.int)) hq3) h2.tabs
  have h3 := h2.fin f3
  have hq33 : upd H2 q3 (.lst ((a :: (R.node a).chain).map V.int)) q3 = some (.lst ((a :: (R.node a).chain).map V.int)) := upd_same
  have f03 := (f1.trans f2).trans f3
  revert f3 h3 hq33 f03
  generalize upd H2 q3 (.lst ((a :: (R.node a).chain).map V.int)) = H3
  intro f3 h3 hq33 f03
  refine ⟨q3, rfl, ⟨_, .inl (.inl hq33)⟩, fun q hq => ?_⟩
  refine lc_list (K := K) (a := q3) (xs := (a :: (R.node a).chain).map V.int) (fun i H4 => Same H3 H4 ∧ H4 q = some (.lst ((((a :: (R.node a).chain).take i).filter fun m => decide (m ∈ R.names) && decide (m ≠ n)).map V.int))) ⟨same_new hq, upd_same⟩ (fun i H4 _ h => .inl (.inl (h.1 _ _ hq33))) ?_ ?_
  · rintro i x H4 hi ⟨s4, hd⟩
    obtain ⟨m, hm, rfl⟩ := getI hi
    have h4 := h3.fin (Fin.of s4 h3.tabs)
    refine ⟨rfl, _, rfl, A.r, A.dx, _, rfl, h4.ring.ob, rfl, _, rfl, A, R, _, rfl, h4.ring, h4.ok, .int m, _, rfl, ?_⟩
    rw [memV_i]
    have no : (decide (m ∈ R.names) && decide (m ≠ n)) = false → Same H3 H4 ∧ H4 q = some (.lst ((((a :: (R.node a).chain).take (i + 1)).filter fun m => decide (m ∈ R.names) && decide (m ≠ n)).map V.int)) := fun e => by
      refine ⟨s4, ?_⟩
      rw [hd, take_one hm, List.filter_append, List.filter_cons_of_neg (by rw [e]; decide), List.filter_nil, List.append_nil]
    by_cases c : m ∈ R.names
    · rw [decide_eq_true c]
      refine iteT ⟨_, rfl, _, rfl, rfl, _, rfl, ?_⟩
      have e : decide (V.int m = V.int n) = decide (m = n) := by simp
      rw [e]
      by_cases c2 : m = n
      · rw [decide_eq_true c2]
        exact iteF (no (by simp [c2]))
      · rw [decide_eq_false c2]
        refine iteT ⟨_, rfl, _, hd, szL ?_, fun b' o e => by rw [upd_ne (ne_of_none e hq)]; exact s4 b' o e, ?_⟩
        · rw [List.length_map]
          have := List.length_filter_le (fun m => decide (m ∈ R.names) && decide (m ≠ n)) ((a :: (R.node a).chain).take i)
          rw [List.length_take, List.length_cons] at this
          omega
        · rw [upd_same, take_one hm, List.filter_append, List.filter_cons_of_pos (by simp [c, c2]), List.filter_nil, List.map_append]
          rfl
    · rw [decide_eq_false c]
      exact iteF (iteF (no (by simp [c])))
  rintro H4 ⟨s4, hd4⟩
  rw [List.length_map, List.take_length] at hd4
  have hs4 : H4 q = some (.lst ((handSome R n a).map V.int)) := hd4
  have f04 := f03.trans (Fin.of s4 h3.tabs)
  have h4 := h.fin f04
  have nq : NotOld H q := (notOld_of hq).back f03
  have rq := noRole h.ring nq
  have hsm : ∀ m ∈ handSome R n a, m ∈ R.names := fun m hm => by
    have z := (List.mem_filter.mp hm).2
    simp only [Bool.and_eq_true, decide_eq_true_eq] at z
    exact z.1
  refine ⟨_, rfl, A.r, A.dx, _, rfl, h4.ring.ob, rfl, _, rfl, A, R, n, rfl, h4, hn, fun q5 H5 nq5 hq5 f5 => ?_⟩
  have h5 := h4.fin f5
  have rq5 := noRole h4.ring nq5
  have hs5 := f5.1 _ _ hs4 fun _ z => nomatch z
  obtain ⟨us, hus, hP⟩ := id hq5
  have lus := paired_len hP
  have kk : ∀ t ∈ keptM R n, t ∈ (R.node n).things := fun t ht => (keptM_perm R n).mem_iff.mp ht
  refine ⟨q5, rfl, ⟨_, .inl (.inl hus)⟩, for_list (K := K) (a := q5) (xs := us.map V.ref) (fun i σ H6 => At K H6 A (handFrom R (handSome R n a) ((keptM R n).take i)) ∧ Frame H5 A H6 A ∧ ∃ b c d e, σ = [some (.ref A.r), some (.int n), some (.int a), some (.ref q), b, c, d, e]) ⟨h5, Frame.refl, none, none, none, none, rfl⟩ (fun i σ H6 _ g => .inl (.inl (g.2.1.off _ _ hus (fun _ z => nomatch z) rq5).1)) ?_ ?_⟩
  · rintro i y σ H6 hi ⟨h6, f6, b, c, d, e, rfl⟩
    obtain ⟨u, hu, rfl⟩ : ∃ u, us[i]? = some u ∧ y = V.ref u := by
      rw [List.getElem?_map] at hi
      cases q : us[i]? with
      | none => rw [q] at hi; cases hi
      | some u => rw [q] at hi; exact ⟨u, rfl, (Option.some.inj hi).symm⟩
    obtain ⟨t, ht, hrow⟩ := paired_at hP hu
    have hrow6 := f6.tup _ _ hrow
    obtain ⟨kp1, kp2, kp3, kp4⟩ := h.ok.kept n hn t (kk t (List.mem_of_getElem? ht))
    obtain ⟨b1, b2, b3, _⟩ := handFrom_but (handSome R n a) ((keptM R n).take i) R
    have esn := handFrom_snoc R (handSome R n a) ((keptM R n).take i) t
    rw [← take_oneG ht] at esn
    have hs6 := (f6.off _ _ hs5 (fun _ z => nomatch z) rq).1
    refine ⟨u, _, rfl, .inl (.inl hrow6), rfl, _, _, rfl, _, _, rfl, _, _, rfl, rfl, ?_⟩
    refine ⟨_, rfl, q, rfl, ⟨_, .inl (.inl hs6)⟩, for_list (K := K) (a := q) (xs := (handSome R n a).map V.int) (fun i2 σ H7 => At K H7 A (offersM (handFrom R (handSome R n a) ((keptM R n).take i)) ((handSome R n a).take i2) t.1 t.2.1 t.2.2) ∧ Frame H6 A H7 A ∧ ∃ v, σ = [some (.ref A.r), some (.int n), some (.int a), some (.ref q), some (.int t.1), some (.int t.2.1), some (oT t.2.2), v]) ⟨h6, Frame.refl, _, rfl⟩ (fun i2 σ H7 _ g => .inl (.inl (g.2.1.off _ _ hs6 (fun _ z => nomatch z) rq).1)) ?_ ?_⟩
    · rintro i2 y σ H7 hi2 ⟨h7, f7, v, rfl⟩
      obtain ⟨m, hm, rfl⟩ := getI hi2
      obtain ⟨e1, e2, e3, _⟩ := offersM_but (handFrom R (handSome R n a) ((keptM R n).take i)) ((handSome R n a).take i2) t.1 t.2.1 t.2.2
      refine ⟨_, rfl, A.r, A.dx, _, rfl, h7.ring.ob, rfl, _, rfl, _, rfl, _, rfl, _, rfl, A, _, m, t.1, t.2.1, t.2.2, rfl, h7, ?_, kp1, ?_, ?_, fun H8 h8 f8 => ⟨?_, f7.trans f8, _, rfl⟩⟩
      · rw [e1, b1]; exact hsm m (List.mem_of_getElem? hm)
      · rw [e3, b3]; exact kp2
      · rw [e2, b2]; exact ⟨kp3, kp4⟩
      · rw [take_one hm, offersM_snoc]
        exact h8
    · rintro σ H7 ⟨h7, f7, v, rfl⟩
      rw [List.length_map, List.take_length] at h7
      refine ⟨?_, f6.trans f7, _, _, _, _, rfl⟩
      rw [esn]
      exact h7
  · rintro σ H6 ⟨h6, f6, b, c, d, e, rfl⟩
    rw [List.length_map, lus, List.take_length] at h6
    exact k H6 h6 ((Frame.fin (f04.trans f5)).trans f6)
end
end Nn
set_option Elab.async false
set_option linter.all false
set_option maxRecDepth 100000
set_option maxHeartbeats 1000000
namespace Nn
open PySem PySem.Spec PyProof.Rows L2 LamX KeyL
section
variable {P : Program} {w : World} {K : PySem.W.Frag} {mg : Str → Option Value} {base : Heap}
def spLeave (K : PySem.W.Frag) : Sp := fun vs H Q E => ∃ A R n, vs = [.ref A.r, .int n] ∧ At K H A R ∧ n ∈ R.names ∧ R.done.length < 1000000 ∧ (∀ p, priorM R n = some p → p ≠ n) ∧
  (leaveErr R n = none → ∀ H' A', At K H' A' (leaveM R n) → Frame H A H' A' → Q .non H') ∧ (∀ e, leaveErr R n = some e → ∀ H', Fin K H H' → Out K e.1 e.2.1 e.2.2 H' E)
theorem sc_leave : FnScope ["ring", "name", "prior", "after", "chains", "before", "behind"] ["ring", "name"] (defScope s_leave) := ⟨rfl, rfl, rfl, by decide +kernel, rfl, by decide +kernel, by decide +kernel⟩
theorem ok_leave (S : Say K mg base) : FnOk P w K mg base (L2.CX P w) 7 (He.ga K "leave") (fdO K ("leave", none)) ["ring", "name"] (spLeave K) := by
  refine (S.F_leave).ok sc_leave (fun vs H Q E h => ?_) (fun cdv A outer s H vs Q E hr h => ?_)
  · obtain ⟨A, R, n, rfl, h, hn, hd, hpn, k1, k2⟩ := h
    rfl
  obtain ⟨A, R, n, rfl, h, hn, hd, hpn, k1, k2⟩ := h
  have hu := hu_of hr
  refine ⟨_, (pss_cons (ps_expr (pe_call (ok_want_loose S) (hr.mono (by decide)) rfl S.g_want_loose (S.F_want_loose).kp S.b_want_loose .nil (passes_call (W := fun c d _ H => E c d H) (takes_of rfl rfl rfl rfl) (fun _ _ _ _ h => h)) (pa_cons (pv 0) (pa_cons (pv 1) pa_nil))))
        (pss_cons (ps_set (i := 2) sc_leave.nd rfl (Or.inl rfl) (pe_call (ok_member_before S) (hr.mono (by decide)) rfl S.g_member_before (S.F_member_before).kp S.b_member_before .nil pass0 (pa_cons (pv 0) (pa_cons (pv 1) pa_nil))))
        (pss_cons (ps_set (i := 3) sc_leave.nd rfl (Or.inl rfl) (pe_meth (pv 0) S.c_Ring S.m_Ring_next_of (ok_Ring_next_of S) (hr.mono (by decide)) S.b_Ring_next_of .nil pass0 (pa_cons (pv 1) pa_nil)))
        (pss_cons (ps_set (i := 4) sc_leave.nd rfl (Or.inl rfl) (pe_call (ok_chains_without S) (hr.mono (by decide)) rfl S.g_chains_without (S.F_chains_without).kp S.b_chains_without .nil pass0 (pa_cons (pv 0) (pa_cons (pv 1) pa_nil))))
        (pss_cons (ps_if (pt_cmpR op_notN (pv 2) pe_non (nomark _)) (pss_one (ps_dput hu (pv 4) (pv 2) (pe_call (ok_spliced S) (hr.mono (by decide)) rfl S.g_spliced (S.F_spliced).kp S.b_spliced .nil pass0 (pa_cons (pe_dget hu (pv 4) (pv 2) (fun _ _ => rfl)) (pa_cons (pv 1) (pa_cons (pe_meth (pv 0) S.c_Ring S.m_Ring_links (ok_Ring_links S) (hr.mono (by decide)) S.b_Ring_links .nil pass0 (pa_cons (pv 1) pa_nil)) pa_nil)))) rfl)) pss_nil)
        (pss_cons (ps_expr (pe_call (ok_want_company S) (hr.mono (by decide)) rfl S.g_want_company (S.F_want_company).kp S.b_want_company .nil (passes_call (W := fun c d _ H => E c d H) (takes_of rfl rfl rfl rfl) (fun _ _ _ _ h => h)) (pa_cons (pv 4) pa_nil)))
        (pss_cons (ps_expr (pe_call (ok_hand_on S) (hr.mono (by decide)) rfl S.g_hand_on (S.F_hand_on).kp S.b_hand_on .nil pass0 (pa_cons (pv 0) (pa_cons (pv 1) (pa_cons (pv 3) pa_nil)))))
        (pss_cons (ps_if (pt_cmpR op_notN (pv 2) pe_non (nomark _)) (pss_cons (ps_set (i := 5) sc_leave.nd rfl (Or.inl rfl) (pe_meth (pv 0) S.c_Ring S.m_Ring_node (ok_Ring_node S) (hr.mono (by decide)) S.b_Ring_node .nil pass0 (pa_cons (pv 2) pa_nil)))
        (pss_one (ps_fld (pv 5) (pe_dget hu (pv 4) (pv 2) (fun _ _ => rfl)) rfl))) pss_nil)
        (pss_cons (ps_if (pt_cmpR op_eq (pe_meth (pv 0) S.c_Ring S.m_Ring_before (ok_Ring_before S) (hr.mono (by decide)) S.b_Ring_before .nil pass0 (pa_cons (pv 3) pa_nil)) (pv 1) (nomark _)) (pss_cons (ps_set (i := 6) sc_leave.nd rfl (Or.inl rfl) (pe_meth (pv 0) S.c_Ring S.m_Ring_node (ok_Ring_node S) (hr.mono (by decide)) S.b_Ring_node .nil pass0 (pa_cons (pv 3) pa_nil)))
        (pss_one (ps_fld (pv 6) (pv 2) rfl))) pss_nil)
        (pss_cons (ps_expr (pe_meth (pv 0) S.c_Ring S.m_Ring_vanish (ok_Ring_vanish S) (hr.mono (by decide)) S.b_Ring_vanish .nil pass0 (pa_cons (pv 1) pa_nil)))
        (pss_one (ps_expr (pe_meth (pv 0) S.c_Ring S.m_Ring_note (ok_Ring_note S) (hr.mono (by decide)) S.b_Ring_note .nil pass0 (pa_cons (pe_tup (pa_cons pe_str (pa_cons (pv 1) pa_nil))) pa_nil)))))))))))))), ?_⟩
  obtain ⟨x1, x2, x3⟩ := nxt_some h.ok hn
  refine ⟨_, rfl, _, rfl, A, R, n, rfl, h, hn, fun c1 H1 f1 => ?_, fun c1 H1 f1 => k2 _ (if_pos c1) H1 f1⟩
  have h1 := h.fin f1
  have e1 : leaveErr R n = match companyM (othersN R n) (leaveC R n) with
    | some m => some ("Alone", "who", .int m)
    | none => none := if_neg c1
  refine ⟨_, rfl, _, rfl, A, R, n, rfl, h1, hn, ?_⟩
  refine ⟨_, rfl, A.r, A.dx, _, rfl, h1.ring.ob, rfl, _, rfl, A, R, n, rfl, h1, hn, fun H2 f2 => ?_⟩
  rw [x1]
  have h2 := h1.fin f2
  refine ⟨_, rfl, _, rfl, A, R, n, rfl, h2, fun D f H3 nD hD hf f3 => ?_⟩
  have h3 := h2.fin f3
  have f03 := (f1.trans f2).trans f3
  have nD0 : NotOld H D := nD.back (f1.trans f2)
  have rD := noRole h.ring nD0
  have hcn := h.ok.clen n hn
  have hmany := h.ok.many
  have decO : ∀ o : Option Int, decide (oV o = V.int n) = decide (o = some n) := fun o => by
    cases o with
    | none => rw [decide_eq_false (fun z => nomatch z), decide_eq_false (fun z => nomatch z)]
    | some m => exact decide_eq_decide.mpr ⟨fun z => by cases z; rfl, fun z => by cases z; rfl⟩
  have scO : ∀ o : Option Int, scal (oV o) (V.int n) = true := fun o => by cases o <;> rfl
  have b9 := leave3_but R n
  cases e : memO R (R.node n).prior with
  | none =>
    have ep : priorM R n = none := e
    have el : ∀ m, leaveC R n m = (R.node m).chain := fun m => by unfold leaveC; rw [ep, if_neg (fun z => nomatch z)]
    have e2 : leave2 R n = handOnM R n (nxtI R n) := by unfold leave2; rw [ep]
    refine ⟨_, rfl, rfl, _, rfl, iteF ?_⟩
    refine ⟨_, rfl, D, othersN R n, f, leaveC R n, rfl, h3.tabs, hD, fun m hm => by rw [el]; exact (hf m hm).2, othersN_sorted R n, othersN_len R h.ok n, fun c2 H4 f4 => ?_, fun m c2 H4 f4 => k2 ("Alone", "who", .int m) (e1.trans (by rw [c2])) H4 (f03.trans f4)⟩
    rw [c2] at e1
    have h4 := h3.fin f4
    refine ⟨_, rfl, _, rfl, _, rfl, A, R, n, nxtI R n, rfl, h4, hn, x2, fun H5 h5 f5 => ?_⟩
    have f05 := (Frame.fin (f03.trans f4)).trans f5
    rw [← e2] at h5
    have b2 := leave2_but R n
    have x5 : nxtI R n ∈ (leave2 R n).names := by rw [b2.1]; exact x2
    refine ⟨_, rfl, rfl, _, rfl, iteF ?_⟩
    refine ⟨_, rfl, A.r, A.dx, _, rfl, h5.ring.ob, rfl, _, rfl, A, _, nxtI R n, rfl, h5.ring, h5.ok, x5, _, rfl, scO _, _, rfl, ?_⟩
    rw [decO]
    by_cases c3 : ((leave2 R n).node (nxtI R n)).prior = some n
    · rw [decide_eq_true c3]
      have hN := h5.ring.node _ x5
      refine iteT ⟨_, rfl, A.r, A.dx, _, rfl, h5.ring.ob, rfl, _, rfl, A, _, nxtI R n, rfl, h5.ring, h5.ok, x5, ?_⟩
      obtain ⟨h9, g9⟩ := h5.prior x5 (p := none) (fun x z => nomatch z)
      have e3 : (leave2 R n).setPrior (nxtI R n) none = leave3 R n := by unfold leave3; rw [if_pos c3, ep]
      rw [e3] at h9
      have f9 := f05.trans g9
      refine ⟨_, rfl, _, rfl, A.nd (nxtI R n), _, A.nx (nxtI R n), _, rfl, hN.ob, S.c_Node, S.n_Node_prior, (by show 4 < 1000; decide), ?_⟩
      refine ⟨_, rfl, _, _, _, rfl, h9.ring.ob, rfl, _, rfl, _, _, n, rfl, h9, by rw [b9.1]; exact hn, by rw [b9.2.2.2.1]; exact c1, fun m hm hne => ?_, fun H10 h10 f10 => ?_⟩
      · rw [b9.1] at hm
        obtain ⟨k, g1, g2⟩ := company_ok c2 m hm hne
        exact ⟨k, by rw [leave3_chain]; exact g1, by rw [b9.1]; exact g2⟩
      · refine ⟨_, rfl, _, _, _, rfl, h10.ring.ob, rfl, _, rfl, (by show 2 ≤ sizeLine; decide), fun u hu => ?_⟩
        have f11 := Fin.of (same_new (o := HO.tup [.str "leave", .int n]) hu) h10.tabs
        exact ⟨_, _, _, .flat "leave" [.int n], rfl, h10.fin f11, by show (leave3 R n).done.length < 1000000; rw [b9.2.2.2.2.1]; exact hd, ⟨u, rfl, upd_same, rfl⟩, fun H12 h12 f12 => k1 e1 H12 _ h12 (f9.trans (f10.trans ((Frame.fin f11).trans f12)))⟩
    · rw [decide_eq_false c3]
      have h9 := h5
      have e3 : leave2 R n = leave3 R n := by unfold leave3; rw [if_neg c3]
      rw [e3] at h9
      have f9 := f05
      refine iteF ?_
      refine ⟨_, rfl, _, _, _, rfl, h9.ring.ob, rfl, _, rfl, _, _, n, rfl, h9, by rw [b9.1]; exact hn, by rw [b9.2.2.2.1]; exact c1, fun m hm hne => ?_, fun H10 h10 f10 => ?_⟩
      · rw [b9.1] at hm
        obtain ⟨k, g1, g2⟩ := company_ok c2 m hm hne
        exact ⟨k, by rw [leave3_chain]; exact g1, by rw [b9.1]; exact g2⟩
      · refine ⟨_, rfl, _, _, _, rfl, h10.ring.ob, rfl, _, rfl, (by show 2 ≤ sizeLine; decide), fun u hu => ?_⟩
        have f11 := Fin.of (same_new (o := HO.tup [.str "leave", .int n]) hu) h10.tabs
        exact ⟨_, _, _, .flat "leave" [.int n], rfl, h10.fin f11, by show (leave3 R n).done.length < 1000000; rw [b9.2.2.2.2.1]; exact hd, ⟨u, rfl, upd_same, rfl⟩, fun H12 h12 f12 => k1 e1 H12 _ h12 (f9.trans (f10.trans ((Frame.fin f11).trans f12)))⟩
  | some p =>
    have ep : priorM R n = some p := e
    have hpn' := hpn p ep
    have hpm : p ∈ R.names := (memO_some e).2
    have hpo : p ∈ othersN R n := othersN_mem.mpr ⟨hpm, hpn'⟩
    have elp : leaveC R n p = spliceM (R.node p).chain n (R.node n).chain := by unfold leaveC; rw [ep, if_pos rfl]
    have eln : ∀ m, m ≠ p → leaveC R n m = (R.node m).chain := fun m hm => by unfold leaveC; rw [ep, if_neg (fun z => hm (Option.some.inj z).symm)]
    have e2 : leave2 R n = (handOnM R n (nxtI R n)).setChain p (leaveC R n p) := by unfold leave2; rw [ep]
    have hcp := h.ok.clen p hpm
    have cD : V.bl (!decide (oV (some p) = V.non)) = V.bl true := rfl
    refine ⟨_, rfl, rfl, _, rfl, iteT ?_⟩
    refine ⟨_, rfl, _, rfl, D, _, rfl, dgetM hD hpo, _, rfl, _, rfl, A.r, A.dx, _, rfl, h3.ring.ob, rfl, _, rfl, A, R, n, rfl, h3, hn, fun l H4 nl hl f4 => ?_⟩
    have hfp4 := f4.1 _ _ (hf p hpo).2 fun _ z => nomatch z
    have hD4 := f4.1 _ _ hD fun _ z => nomatch z
    refine ⟨f p, l, (R.node p).chain, (R.node n).chain, n, rfl, hfp4, hl, by omega, by omega, fun q H5 hq hql s5 => ?_⟩
    rw [← elp] at hql
    have f5 := Fin.of s5 f4.2
    have f05 := (f03.trans f4).trans f5
    have hD5 := s5 _ _ hD4
    have nq : NotOld H q := (notOld_of hq).back (f03.trans f4)
    have hqD : q ≠ D := ne_of hql hD5 fun z => nomatch z
    refine ⟨_, rfl, _, rfl, D, _, rfl, DPut.k (k := (Sum.inl p : Key)) hD5 ?_, ?_⟩
    · unfold kvN
      rw [List.length_map, sizeLine_eq]
      have := othersN_len R h.ok n
      omega
    rw [putK_kvN_old hpo]
    have f06 : Fin K H (upd H5 D (.dK (kvN (othersN R n) (updF f p q)))) := ⟨fun b o a1 a2 => by rw [upd_ne (nD0 b o a1 a2)]; exact f05.1 b o a1 a2, tabs_upd f05.2 hD5 rfl⟩
    have hD6 : upd H5 D (.dK (kvN (othersN R n) (updF f p q))) D = some (.dK (kvN (othersN R n) (updF f p q))) := upd_same
    have hq6 : upd H5 D (.dK (kvN (othersN R n) (updF f p q))) q = some (.lst ((leaveC R n p).map V.int)) := by rw [upd_ne hqD]; exact hql
    have ch6 : ∀ m ∈ othersN R n, upd H5 D (.dK (kvN (othersN R n) (updF f p q))) (updF f p q m) = some (.lst ((leaveC R n m).map V.int)) := fun m hm => by
      by_cases c : m = p
      · have e0 : updF f p q m = q := if_pos c
        rw [e0, c]; exact hq6
      · have e0 : updF f p q m = f m := if_neg c
        have z := s5 _ _ (f4.1 _ _ (hf m hm).2 fun _ z => nomatch z)
        rw [e0, eln m c, upd_ne (ne_of z hD5 fun z => nomatch z)]
        exact z
    revert f06 hD6 hq6 ch6
    generalize upd H5 D (.dK (kvN (othersN R n) (updF f p q))) = H6
    intro f06 hD6 hq6 ch6
    have h6 := h.fin f06
    refine ⟨_, rfl, D, othersN R n, updF f p q, leaveC R n, rfl, h6.tabs, hD6, ch6, othersN_sorted R n, othersN_len R h.ok n, fun c2 H7 f7 => ?_, fun m c2 H7 f7 => k2 ("Alone", "who", .int m) (e1.trans (by rw [c2])) H7 (f06.trans f7)⟩
    rw [c2] at e1
    have h7 := h6.fin f7
    have hD7 := f7.1 _ _ hD6 fun _ z => nomatch z
    have hq7 := f7.1 _ _ hq6 fun _ z => nomatch z
    refine ⟨_, rfl, _, rfl, _, rfl, A, R, n, nxtI R n, rfl, h7, hn, x2, fun H8 h8 f8 => ?_⟩
    have rq := noRole h.ring nq
    have hD8 := (f8.off _ _ hD7 (fun _ z => nomatch z) rD).1
    have hq8 := (f8.off _ _ hq7 (fun _ z => nomatch z) rq).1
    have b1 := handFrom_but (handSome R n (nxtI R n)) (keptM R n) R
    have hp8 : p ∈ (handOnM R n (nxtI R n)).names := by show p ∈ (handFrom R (handSome R n (nxtI R n)) (keptM R n)).names; rw [b1.1]; exact hpm
    have hNp := h8.ring.node p hp8
    have dg : DGet H8 D (.int p) (some (V.ref q)) := by
      have z := dgetM hD8 hpo
      have e0 : updF f p q p = q := if_pos rfl
      rw [e0] at z
      exact z
    obtain ⟨k0, g1, g2, g3⟩ := company_ok c2 p hpm hpn'
    have hls : (leaveC R n p).length = R.many := by rw [elp, spliceM_len (by rw [hcp, hcn]), hcp]
    have hps : Pts R.bits (leaveC R n p) := fun m hm => by
      rw [elp] at hm
      rcases spliceM_mem hm with z | z
      · exact h.ok.cpts p hpm m z
      · exact h.ok.cpts n hn m z
    obtain ⟨h9', _⟩ := h8.chain hp8 hq8 rq rfl (c := leaveC R n p) (by rw [hls]; exact b1.2.2.2.2.2.symm) (by show Pts (handFrom R (handSome R n (nxtI R n)) (keptM R n)).bits _; rw [b1.2.1]; exact hps) ⟨k0, g1, by show k0 ∈ (handFrom R (handSome R n (nxtI R n)) (keptM R n)).names; rw [b1.1]; exact g2⟩
    have f08 := (Frame.fin (f06.trans f7)).trans f8
    have f09' := h8.chainF hp8 f08 nq
    rw [← e2] at h9'
    have b2 := leave2_but R n
    have x5 : nxtI R n ∈ (leave2 R n).names := by rw [b2.1]; exact x2
    refine ⟨_, rfl, rfl, _, rfl, iteT ⟨_, rfl, A.r, A.dx, _, rfl, h8.ring.ob, rfl, _, rfl, A, _, p, rfl, h8.ring, h8.ok, hp8, _, rfl, _, rfl, D, _, rfl, dg, _, rfl, A.nd p, _, A.nx p, _, rfl, hNp.ob, S.c_Node, S.n_Node_chain, (by show 4 < 1000; decide), ?_⟩⟩
    refine ⟨_, rfl, (A.setC p q).r, (A.setC p q).dx, _, rfl, h9'.ring.ob, rfl, _, rfl, A.setC p q, _, nxtI R n, rfl, h9'.ring, h9'.ok, x5, _, rfl, scO _, _, rfl, ?_⟩
    rw [decO]
    by_cases c3 : ((leave2 R n).node (nxtI R n)).prior = some n
    · rw [decide_eq_true c3]
      have hN := h9'.ring.node _ x5
      refine iteT ⟨_, rfl, (A.setC p q).r, (A.setC p q).dx, _, rfl, h9'.ring.ob, rfl, _, rfl, A.setC p q, _, nxtI R n, rfl, h9'.ring, h9'.ok, x5, ?_⟩
      obtain ⟨h9, g9⟩ := h9'.prior x5 (p := some p) (fun x z => by rw [← Option.some.inj z, b2.2.1]; exact h.ok.pts p hpm)
      have e3 : (leave2 R n).setPrior (nxtI R n) (some p) = leave3 R n := by unfold leave3; rw [if_pos c3, ep]
      rw [e3] at h9
      have f9 := f09'.trans g9
      refine ⟨_, rfl, _, rfl, (A.setC p q).nd (nxtI R n), _, (A.setC p q).nx (nxtI R n), _, rfl, hN.ob, S.c_Node, S.n_Node_prior, (by show 4 < 1000; decide), ?_⟩
      refine ⟨_, rfl, _, _, _, rfl, h9.ring.ob, rfl, _, rfl, A.setC p q, _, n, rfl, h9, by rw [b9.1]; exact hn, by rw [b9.2.2.2.1]; exact c1, fun m hm hne => ?_, fun H10 h10 f10 => ?_⟩
      · rw [b9.1] at hm
        obtain ⟨k, g1, g2⟩ := company_ok c2 m hm hne
        exact ⟨k, by rw [leave3_chain]; exact g1, by rw [b9.1]; exact g2⟩
      · refine ⟨_, rfl, _, _, _, rfl, h10.ring.ob, rfl, _, rfl, (by show 2 ≤ sizeLine; decide), fun u hu => ?_⟩
        have f11 := Fin.of (same_new (o := HO.tup [.str "leave", .int n]) hu) h10.tabs
        exact ⟨A.setC p q, _, _, .flat "leave" [.int n], rfl, h10.fin f11, by show (leave3 R n).done.length < 1000000; rw [b9.2.2.2.2.1]; exact hd, ⟨u, rfl, upd_same, rfl⟩, fun H12 h12 f12 => k1 e1 H12 _ h12 (f9.trans (f10.trans ((Frame.fin f11).trans f12)))⟩
    · rw [decide_eq_false c3]
      have h9 := h9'
      have e3 : leave2 R n = leave3 R n := by unfold leave3; rw [if_neg c3]
      rw [e3] at h9
      have f9 := f09'
      refine iteF ?_
      refine ⟨_, rfl, _, _, _, rfl, h9.ring.ob, rfl, _, rfl, A.setC p q, _, n, rfl, h9, by rw [b9.1]; exact hn, by rw [b9.2.2.2.1]; exact c1, fun m hm hne => ?_, fun H10 h10 f10 => ?_⟩
      · rw [b9.1] at hm
        obtain ⟨k, g1, g2⟩ := company_ok c2 m hm hne
        exact ⟨k, by rw [leave3_chain]; exact g1, by rw [b9.1]; exact g2⟩
      · refine ⟨_, rfl, _, _, _, rfl, h10.ring.ob, rfl, _, rfl, (by show 2 ≤ sizeLine; decide), fun u hu => ?_⟩
        have f11 := Fin.of (same_new (o := HO.tup [.str "leave", .int n]) hu) h10.tabs
        exact ⟨A.setC p q, _, _, .flat "leave" [.int n], rfl, h10.fin f11, by show (leave3 R n).done.length < 1000000; rw [b9.2.2.2.2.1]; exact hd, ⟨u, rfl, upd_same, rfl⟩, fun H12 h12 f12 => k1 e1 H12 _ h12 (f9.trans (f10.trans ((Frame.fin f11).trans f12)))⟩
end
end Nn
set_option Elab.async false
set_option linter.all false
set_option maxRecDepth 100000
set_option maxHeartbeats 1000000
namespace Nn
open PySem PySem.Spec PyProof.Rows L2 LamX KeyL
/-! ### the law's own helpers -/
section
variable {P : Program} {w : World} {K : PySem.W.Frag} {mg : Str → Option Value} {base : Heap}
def spCell (K : PySem.W.Frag) : Sp := fun vs H Q _ => ∃ (a : Addr) (xs : List Int) (k : Nat), vs = [.ref a, .int k] ∧ SqL K H a (xs.map V.int) ∧ Q (.int (xs.getD k 0)) H
theorem sc_law_cell : FnScope ["_law_script", "_law_k"] ["_law_script", "_law_k"] (defScope s_law_cell) := ⟨rfl, rfl, rfl, by decide +kernel, rfl, by decide +kernel, by decide +kernel⟩
theorem ok_law_cell (S : Say K mg base) : FnOk P w K mg base CX0 1 (He.ga K "_law_cell") (fdO K ("_law_cell", none)) ["_law_script", "_law_k"] (spCell K) := by
  refine (S.F_law_cell).ok sc_law_cell (fun vs H Q E h => ?_) (fun cdv A outer s H vs Q E hr h => ?_)
  · obtain ⟨a, xs, j, rfl, ha, k⟩ := h
    rfl
  obtain ⟨a, xs, j, rfl, ha, k⟩ := h
  have hu := hu_of hr
  refine ⟨_, PSs.nox (pss_one (ps_ret (pe_ifExp (pt_cmpR op_lt (pv 1) (pe_callB call_len_seq (by rfl) S.z_len (by decide +kernel) (pa_cons (pv 0) pa_nil)) (nomark _)) (pe_ix ix_list (pv 0) (pv 1) (fun _ _ => rfl)) pe_int))), ?_⟩
  refine ⟨_, rfl, _, rfl, a, _, rfl, .inl ha, _, _, rfl, rfl, _, rfl, ?_⟩
  rw [List.length_map]
  by_cases c : j < xs.length
  · rw [decide_eq_true (show (j : Int) < (xs.length : Nat) by omega)]
    refine iteT ⟨_, rfl, _, rfl, a, _, (j : Int), _, rfl, rfl, ha, ?_, k⟩
    unfold atI ixN
    rw [List.length_map, if_pos (by omega), if_pos (by omega)]
    show (xs.map V.int)[((j : Int)).toNat]? = _
    rw [Int.toNat_natCast, List.getElem?_map, List.getElem?_eq_getElem c, List.getD_eq_getElem?_getD, List.getElem?_eq_getElem c]
    rfl
  · rw [decide_eq_false (show ¬ (j : Int) < (xs.length : Nat) by omega)]
    have e : xs.getD j 0 = 0 := by rw [List.getD_eq_getElem?_getD, List.getElem?_eq_none (by omega)]; rfl
    rw [e] at k
    exact iteF k
def PotAt (H : Hp) (q : Addr) : Prop := ∃ x y : Int, H q = some (.lst [.int x, .int y])
def spTake (K : PySem.W.Frag) : Sp := fun vs H Q _ => ∃ (q : Addr) (m : Int), vs = [.ref q, .int m] ∧ PotAt H q ∧ (0 < m ∧ m < 1073741824) ∧ ∀ d x y, 0 ≤ d → d < m → Q (.int d) (upd H q (.lst [.int x, .int y]))
theorem sc_law_take : FnScope ["_law_pot_here", "_law_room", "_law_digit"] ["_law_pot_here", "_law_room"] (defScope s_law_take) := ⟨rfl, rfl, rfl, by decide +kernel, rfl, by decide +kernel, by decide +kernel⟩
theorem ok_law_take (S : Say K mg base) : FnOk P w K mg base CX0 1 (He.ga K "_law_take") (fdO K ("_law_take", none)) ["_law_pot_here", "_law_room"] (spTake K) := by
  refine (S.F_law_take).ok sc_law_take (fun vs H Q E h => ?_) (fun cdv A outer s H vs Q E hr h => ?_)
  · obtain ⟨q, m, rfl, ⟨x, y, hq⟩, hm, k⟩ := h
    rfl
  obtain ⟨q, m, rfl, ⟨x, y, hq⟩, hm, k⟩ := h
  have hu := hu_of hr
  refine ⟨_, PSs.nox (pss_cons (ps_if (pt_cmpR op_gt (pe_ix ix_list (pv 0) pe_int (fun _ _ => rfl)) pe_int (nomark _)) (pss_cons (ps_set (i := 2) sc_law_take.nd rfl (Or.inl rfl) (pe_op op_mod (pe_ix ix_list (pv 0) pe_int (fun _ _ => rfl)) (pv 1)))
        (pss_cons (ps_asg (pe_op op_fdiv (pe_ix ix_list (pv 0) pe_int (fun _ _ => rfl)) (pv 1)) (pg_sub (pv 0) pe_int set_list))
        (pss_one (ps_ret (pv 2))))) pss_nil)
        (pss_cons (ps_asg (pe_op op_mod (pe_op op_add (pe_op op_mul (pe_ix ix_list (pv 0) pe_int (fun _ _ => rfl)) pe_int) pe_int) pe_int) (pg_sub (pv 0) pe_int set_list))
        (pss_one (ps_ret (pe_op op_mod (pe_op op_fdiv (pe_op op_mod (pe_op op_mul (pe_ix ix_list (pv 0) pe_int (fun _ _ => rfl)) (pe_ix ix_list (pv 0) pe_int (fun _ _ => rfl))) pe_int) pe_int) (pv 1)))))), ?_⟩
  refine ⟨_, rfl, q, _, 0, _, rfl, rfl, .inl (.inl hq), rfl, _, _, rfl, rfl, _, rfl, ?_⟩
  by_cases c : 0 < x
  · rw [decide_eq_true c]
    refine iteT ⟨_, rfl, q, _, 0, _, rfl, rfl, .inl (.inl hq), rfl, _, rfl, _, _, rfl, rfl, hm.1, ?_⟩
    refine ⟨_, rfl, q, _, 0, _, rfl, rfl, .inl (.inl hq), rfl, _, rfl, _, _, rfl, rfl, hm, _, rfl, q, _, 0, 0, rfl, rfl, hq, rfl, _, rfl, ?_⟩
    exact k (x % m) (x / m) y (Int.emod_nonneg _ (by omega)) (Int.emod_lt_of_pos _ hm.1)
  · rw [decide_eq_false c]
    refine iteF ⟨_, rfl, q, _, 1, _, rfl, rfl, .inl (.inl hq), rfl, _, _, rfl, rfl, .inr ⟨by decide, by decide⟩, _, _, rfl, rfl, _, _, rfl, rfl, (show (0 : Int) < 2147483587 by decide), _, rfl, q, _, 1, 1, rfl, rfl, hq, rfl, ?_⟩
    have b1 : 0 ≤ (y * 39373 + 8191) % 2147483587 := Int.emod_nonneg _ (by decide)
    have b2 : (y * 39373 + 8191) % 2147483587 < 2147483587 := Int.emod_lt_of_pos _ (by decide)
    refine ⟨_, rfl, q, _, 1, _, rfl, rfl, .inl (.inl upd_same), rfl, _, rfl, q, _, 1, _, rfl, rfl, .inl (.inl upd_same), rfl, _, _, rfl, rfl, .inl ⟨by omega, by omega⟩, _, _, rfl, rfl, (show (0 : Int) < 2147483543 by decide), _, _, rfl, rfl, ⟨by decide, by decide⟩, _, rfl, _, _, rfl, rfl, hm.1, ?_⟩
    exact k _ x _ (Int.emod_nonneg _ (by omega)) (Int.emod_lt_of_pos _ hm.1)
def spPot (K : PySem.W.Frag) : Sp := fun vs H Q _ => ∃ (a : Addr) (xs : List Int) (j : Nat), vs = [.ref a, .int j] ∧ SqL K H a (xs.map V.int) ∧ j < 1000 ∧ ∀ q x y, H q = none → Q (.ref q) (upd H q (.lst [.int x, .int y]))
theorem sc_law_pot : FnScope ["_law_script", "_law_k", "_law_cell_here"] ["_law_script", "_law_k"] (defScope s_law_pot) := ⟨rfl, rfl, rfl, by decide +kernel, rfl, by decide +kernel, by decide +kernel⟩
theorem ok_law_pot (S : Say K mg base) : FnOk P w K mg base CX0 2 (He.ga K "_law_pot") (fdO K ("_law_pot", none)) ["_law_script", "_law_k"] (spPot K) := by
  refine (S.F_law_pot).ok sc_law_pot (fun vs H Q E h => ?_) (fun cdv A outer s H vs Q E hr h => ?_)
  · obtain ⟨a, xs, j, rfl, ha, hj, k⟩ := h
    rfl
  obtain ⟨a, xs, j, rfl, ha, hj, k⟩ := h
  have hu := hu_of hr
  refine ⟨_, PSs.nox (pss_cons (ps_set (i := 2) sc_law_pot.nd rfl (Or.inl rfl) (pe_call (ok_law_cell S) (hr.mono (by decide)) rfl S.g_law_cell (S.F_law_cell).kp S.b_law_cell .nil pass0 (pa_cons (pv 0) (pa_cons (pv 1) pa_nil))))
        (pss_one (ps_ret (pe_lst (pa_cons (pe_callB (call_max2 rfl) (by rfl) S.z_max (by decide +kernel) (pa_cons pe_int (pa_cons (pe_op op_sub (pv 2) (pe_op op_pow pe_int pe_int)) pa_nil))) (pa_cons (pe_op op_mod (pe_op op_add (pe_op op_add (pe_op op_add (pe_op op_mul (pe_op op_mod (pe_callB call_abs (by rfl) S.z_abs (by decide +kernel) (pa_cons (pv 2) pa_nil)) pe_int) pe_int) (pe_op op_mul (pe_op op_mul pe_int (pv 1)) (pv 1))) (pe_op op_mul pe_int (pv 1))) pe_int) pe_int) pa_nil)))))), ?_⟩
  refine ⟨_, rfl, _, rfl, a, xs, j, rfl, ha, ?_⟩
  refine ⟨_, rfl, _, _, rfl, rfl, ⟨by decide, by decide, by decide⟩, _, _, rfl, rfl, _, _, rfl, ?_⟩
  refine ⟨_, rfl, _, rfl, _, _, rfl, rfl, (show (0 : Int) < 2147483629 by decide), _, _, rfl, rfl, .inr ⟨by decide, by decide⟩, _, rfl, _, _, rfl, rfl, .inl ⟨by decide, by decide⟩, _, rfl, _, _, rfl, rfl, .inr ⟨by omega, by omega⟩, _, _, rfl, rfl, _, rfl, _, _, rfl, rfl, .inl ⟨by decide, by decide⟩, _, _, rfl, rfl, _, _, rfl, rfl, _, _, rfl, rfl, (show (0 : Int) < 2147483629 by decide), ?_⟩
  exact ⟨(by show 2 ≤ sizeLine; decide), fun q hq => k q _ _ hq⟩
def freeF (size : Int) (some : List Int) : Nat → Int → Int
  | 0, at_ => at_
  | k + 1, at_ => freeF size some k (if at_ ∈ some then (at_ + 1) % size else at_)
def spFree (K : PySem.W.Frag) : Sp := fun vs H Q _ => ∃ (a : Addr) (ns : List Int) (size x : Int), vs = [.int size, .ref a, .int x] ∧ SqL K H a (ns.map V.int) ∧ ns.length ≤ 100 ∧ 0 < size ∧ Q (.int (freeF size ns ns.length x)) H
theorem sc_law_free : FnScope ["_law_size", "_law_some", "_law_at", "_law_step"] ["_law_size", "_law_some", "_law_at"] (defScope s_law_free) := ⟨rfl, rfl, rfl, by decide +kernel, rfl, by decide +kernel, by decide +kernel⟩
theorem ok_law_free (S : Say K mg base) : FnOk P w K mg base CX0 1 (He.ga K "_law_free") (fdO K ("_law_free", none)) ["_law_size", "_law_some", "_law_at"] (spFree K) := by
  refine (S.F_law_free).ok sc_law_free (fun vs H Q E h => ?_) (fun cdv A outer s H vs Q E hr h => ?_)
  · obtain ⟨a, ns, size, x, rfl, ha, hn, hs, k⟩ := h
    rfl
  obtain ⟨a, ns, size, x, rfl, ha, hn, hs, k⟩ := h
  have hu := hu_of hr
  refine ⟨_, PSs.nox (pss_cons (ps_for PassesOwn.never rfl (pi_range1 rfl S.z_range (pa_cons (pe_callB call_len_seq (by rfl) S.z_len (by decide +kernel) (pa_cons (pv 1) pa_nil)) pa_nil)) (pg_name (i := 3) sc_law_free.nd rfl (Or.inl rfl))
        (pss_one (ps_if (pt_cmpR op_in_seq (pv 2) (pv 1) rfl) (pss_one (ps_set (i := 2) sc_law_free.nd rfl (Or.inl rfl) (pe_op op_mod (pe_op op_add (pv 2) pe_int) (pv 0)))) pss_nil)))
        (pss_one (ps_ret (pv 2)))), ?_⟩
  refine ⟨_, rfl, a, _, rfl, .inl ha, _, rfl, (by omega), (by rw [List.length_map]; omega), ?_⟩
  rw [List.length_map, Int.toNat_natCast]
  refine for_it walk_range (fun i σ H2 => H2 = H ∧ ∃ y v, freeF size ns ns.length x = freeF size ns (ns.length - i) y ∧ σ = [some (.int size), some (.ref a), some (.int y), v]) ⟨rfl, x, none, rfl, rfl⟩ (fun _ _ _ _ _ => True.intro) ?_ ?_
  · rintro i z σ H2 H2' hi ⟨rfl, y, v, he, rfl⟩ ⟨rfl, rfl⟩
    have es : ns.length - i = (ns.length - (i + 1)) + 1 := by omega
    rw [es] at he
    have e2 : freeF size ns (ns.length - (i + 1) + 1) y = freeF size ns (ns.length - (i + 1)) (if y ∈ ns then (y + 1) % size else y) := rfl
    rw [e2] at he
    refine ⟨_, rfl, _, rfl, a, _, rfl, .inl ha, rfl, flatI _, _, rfl, ?_⟩
    rw [if_neg (by decide), inI]
    by_cases c : y ∈ ns
    · rw [if_pos c] at he
      rw [decide_eq_true c]
      exact iteT ⟨_, rfl, _, _, rfl, rfl, _, rfl, _, _, rfl, rfl, hs, rfl, _, _, he, rfl⟩
    · rw [if_neg c] at he
      rw [decide_eq_false c]
      exact iteF ⟨rfl, _, _, he, rfl⟩
  · rintro σ H2 ⟨rfl, y, v, he, rfl⟩
    rw [Nat.sub_self] at he
    have e2 : freeF size ns 0 y = y := rfl
    rw [he, e2] at k
    exact ⟨_, rfl, k⟩
end
end Nn
set_option Elab.async false
set_option linter.all false
set_option maxRecDepth 100000
set_option maxHeartbeats 1000000
namespace Nn
open PySem PySem.Spec PyProof.Rows L2 LamX KeyL
/-- the pot alone may be another, new things may stand -/
def PotStep (K : PySem.W.Frag) (H : Hp) (q : Addr) (H' : Hp) : Prop := (∀ b o, H b = some o → (∀ ps, o ≠ .tbl ps) → b ≠ q → H' b = some o) ∧ PotAt H' q ∧ Tabs (tabT K) H'
theorem PotStep.trans {K : PySem.W.Frag} {H H1 H2 : Hp} {q : Addr} (a : PotStep K H q H1) (b : PotStep K H1 q H2) : PotStep K H q H2 := ⟨fun c o h1 h2 h3 => b.1 c o (a.1 c o h1 h2 h3) h2 h3, b.2⟩
theorem PotAt.fin {K : PySem.W.Frag} {H H' : Hp} {q : Addr} (p : PotAt H q) (f : Fin K H H') : PotAt H' q := by
  obtain ⟨x, y, h⟩ := p
  exact ⟨x, y, f.1 _ _ h fun _ z => nomatch z⟩
theorem PotStep.fin {K : PySem.W.Frag} {H H' : Hp} {q : Addr} (p : PotAt H q) (f : Fin K H H') : PotStep K H q H' := ⟨fun b o h1 h2 _ => f.1 b o h1 h2, p.fin f, f.2⟩
theorem PotStep.upd {K : PySem.W.Frag} {H : Hp} {q : Addr} (p : PotAt H q) (t : Tabs (tabT K) H) (x y : Int) : PotStep K H q (upd H q (.lst [.int x, .int y])) := by
  obtain ⟨x0, y0, h⟩ := p
  exact ⟨fun b o h1 _ h3 => by rw [upd_ne h3]; exact h1, ⟨x, y, upd_same⟩, tabs_upd t h rfl⟩
theorem At.pot {K : PySem.W.Frag} {H H' : Hp} {A : RA} {R : RingS} {q : Addr} (h : At K H A R) (p : PotAt H q) (hr : A.ρ q = none) (s : PotStep K H q H') : At K H' A R := by
  obtain ⟨x, y, hq⟩ := p
  refine ⟨h.ring.keep (fun b ro u e1 e2 => ?_) fun b xs e => ?_, h.ok, s.2.2⟩
  · obtain ⟨u', k1, k2⟩ := h.ring.live b ro e1
    rw [e2] at k1
    exact s.1 b u e2 (by rw [Option.some.inj k1]; exact plainO_tbl k2) fun e => by rw [e, hr] at e1; cases e1
  · exact s.1 b _ e (fun _ z => nomatch z) (ne_of e hq fun z => nomatch z)
theorem atI_nn {ns : List Int} {d : Int} (h0 : 0 ≤ d) (h1 : d < (ns.length : Nat)) : atI (ns.map V.int) d = some (V.int (ns.getD d.toNat 0)) := by
  unfold atI ixN
  rw [List.length_map, if_pos h0, if_pos h1]
  show (ns.map V.int)[d.toNat]? = _
  have hl : d.toNat < ns.length := by omega
  rw [List.getElem?_map, List.getElem?_eq_getElem hl, List.getD_eq_getElem?_getD, List.getElem?_eq_getElem hl]
  rfl
theorem getD_mem {ns : List Int} {d : Int} (h0 : 0 ≤ d) (h1 : d < (ns.length : Nat)) : ns.getD d.toNat 0 ∈ ns := by
  have hl : d.toNat < ns.length := by omega
  rw [List.getD_eq_getElem?_getD, List.getElem?_eq_getElem hl]
  exact List.getElem_mem hl
section
variable {P : Program} {w : World} {K : PySem.W.Frag} {mg : Str → Option Value} {base : Heap}
theorem names_pos {R : RingS} (h : Ok R) : 0 < R.names.length := by
  have := h.fixed
  have hf : R.fixed ≠ [] := fun e => by rw [e] at this; simp at this
  obtain ⟨x, hx⟩ := List.exists_mem_of_ne_nil _ hf
  exact List.length_pos_of_mem (h.fsub x hx)
def spMember (K : PySem.W.Frag) : Sp := fun vs H Q _ => ∃ A R q, vs = [.ref q, .ref A.r] ∧ At K H A R ∧ PotAt H q ∧ A.ρ q = none ∧ ∀ n H', n ∈ R.names → PotStep K H q H' → Q (.int n) H'
theorem sc_law_member : FnScope ["_law_pot_here", "_law_ring_here"] ["_law_pot_here", "_law_ring_here"] (defScope s_law_member) := ⟨rfl, rfl, rfl, by decide +kernel, rfl, by decide +kernel, by decide +kernel⟩
theorem ok_law_member (S : Say K mg base) : FnOk P w K mg base CX0 2 (He.ga K "_law_member") (fdO K ("_law_member", none)) ["_law_pot_here", "_law_ring_here"] (spMember K) := by
  refine (S.F_law_member).ok sc_law_member (fun vs H Q E h => ?_) (fun cdv A outer s H vs Q E hr h => ?_)
  · obtain ⟨A, R, q, rfl, h, hq, rq, k⟩ := h
    rfl
  obtain ⟨A, R, q, rfl, h, hq, rq, k⟩ := h
  have hu := hu_of hr
  refine ⟨_, PSs.nox (pss_one (ps_ret (pe_ix ix_list (pe_meth0 (pv 1) S.c_Ring S.m_Ring_members (ok_Ring_members S) (hr.mono (by decide)) S.b_Ring_members .nil pass0) (pe_call (ok_law_take S) (hr.mono (by decide)) rfl S.g_law_take (S.F_law_take).kp S.b_law_take .nil pass0 (pa_cons (pv 0) (pa_cons (pe_callB call_len_seq (by rfl) S.z_len (by decide +kernel) (pa_cons (pe_meth0 (pv 1) S.c_Ring S.m_Ring_members (ok_Ring_members S) (hr.mono (by decide)) S.b_Ring_members .nil pass0) pa_nil)) pa_nil))) (fun _ _ => rfl)))), ?_⟩
  have hpos := names_pos h.ok
  have few := h.ok.few
  refine ⟨_, rfl, A.r, A.dx, _, rfl, h.ring.ob, rfl, A, R, rfl, h, fun l H1 nl hl f1 => ?_⟩
  have h1 := h.fin f1
  refine ⟨_, rfl, _, rfl, A.r, A.dx, _, rfl, h1.ring.ob, rfl, A, R, rfl, h1, fun l2 H2 nl2 hl2 f2 => ?_⟩
  have f12 := f1.trans f2
  have q2 := hq.fin f12
  refine ⟨l2, _, rfl, .inl (.inl (.inl hl2)), q, _, rfl, q2, ?_, fun d x y d0 d1 => ?_⟩
  · rw [List.length_map, membersM_len]
    omega
  rw [List.length_map] at d1
  have hl2' : H2 l = some (.lst ((membersM R).map V.int)) := f2.1 _ _ hl fun _ z => nomatch z
  have hlq : l ≠ q := fun e => by
    obtain ⟨x0, y0, hqq⟩ := hq
    exact nl q _ hqq (fun _ z => nomatch z) e.symm
  refine ⟨l, _, d, _, rfl, rfl, .inl (.inl (by rw [upd_ne hlq]; exact hl2')), atI_nn d0 d1, ?_⟩
  exact k _ _ (membersM_mem.mp (getD_mem d0 d1)) ((PotStep.fin hq f12).trans (PotStep.upd q2 f2.2 x y))
theorem two_small {b : Nat} (h : b ≤ 20) : (2 : Int) ^ b < 1073741824 := by
  have z : (2 : Nat) ^ b ≤ 2 ^ 20 := Nat.pow_le_pow_right (by decide) h
  have e : ((2 ^ b : Nat) : Int) = (2 : Int) ^ b := by simp
  rw [← e]
  have : (2 : Nat) ^ 20 = 1048576 := by decide
  omega
def spNearL (K : PySem.W.Frag) : Sp := fun vs H Q _ => ∃ A R q, vs = [.ref q, .ref A.r] ∧ At K H A R ∧ R.bits ≤ 20 ∧ PotAt H q ∧ A.ρ q = none ∧ ∀ p H', 0 ≤ p → p < 2 ^ R.bits → PotStep K H q H' → Q (.int p) H'
theorem sc_law_near : FnScope ["_law_pot_here", "_law_ring_here", "_law_size", "_law_members", "_law_far"] ["_law_pot_here", "_law_ring_here"] (defScope s_law_near) := ⟨rfl, rfl, rfl, by decide +kernel, rfl, by decide +kernel, by decide +kernel⟩
theorem ok_law_near (S : Say K mg base) : FnOk P w K mg base CX0 2 (He.ga K "_law_near") (fdO K ("_law_near", none)) ["_law_pot_here", "_law_ring_here"] (spNearL K) := by
  refine (S.F_law_near).ok sc_law_near (fun vs H Q E h => ?_) (fun cdv A outer s H vs Q E hr h => ?_)
  · obtain ⟨A, R, q, rfl, h, hb, hq, rq, k⟩ := h
    rfl
  obtain ⟨A, R, q, rfl, h, hb, hq, rq, k⟩ := h
  have hu := hu_of hr
  refine ⟨_, PSs.nox (pss_cons (ps_set (i := 2) sc_law_near.nd rfl (Or.inl rfl) (pe_meth0 (pe_meth0 (pv 1) S.c_Ring S.m_Ring_space (ok_Ring_space S) (hr.mono (by decide)) S.b_Ring_space .nil pass0) S.c_Space S.m_Space_size (ok_Space_size S) (hr.mono (by decide)) S.b_Space_size .nil pass0))
        (pss_cons (ps_if (pt_cmpR op_eq (pe_call (ok_law_take S) (hr.mono (by decide)) rfl S.g_law_take (S.F_law_take).kp S.b_law_take .nil pass0 (pa_cons (pv 0) (pa_cons pe_int pa_nil))) pe_int (nomark _)) (pss_one (ps_ret (pe_call (ok_law_take S) (hr.mono (by decide)) rfl S.g_law_take (S.F_law_take).kp S.b_law_take .nil pass0 (pa_cons (pv 0) (pa_cons (pv 2) pa_nil))))) pss_nil)
        (pss_cons (ps_set (i := 3) sc_law_near.nd rfl (Or.inl rfl) (pe_meth0 (pv 1) S.c_Ring S.m_Ring_members (ok_Ring_members S) (hr.mono (by decide)) S.b_Ring_members .nil pass0))
        (pss_cons (ps_set (i := 4) sc_law_near.nd rfl (Or.inl rfl) (pe_ix ix_list (pe_lst (pa_cons pe_int (pa_cons pe_int (pa_cons (pe_op op_sub (pv 2) pe_int) (pa_cons (pe_op op_add pe_int (pe_call (ok_law_take S) (hr.mono (by decide)) rfl S.g_law_take (S.F_law_take).kp S.b_law_take .nil pass0 (pa_cons (pv 0) (pa_cons (pv 2) pa_nil)))) pa_nil))))) (pe_call (ok_law_take S) (hr.mono (by decide)) rfl S.g_law_take (S.F_law_take).kp S.b_law_take .nil pass0 (pa_cons (pv 0) (pa_cons pe_int pa_nil))) (fun _ _ => rfl)))
        (pss_one (ps_ret (pe_op op_mod (pe_op op_add (pe_ix ix_list (pv 3) (pe_call (ok_law_take S) (hr.mono (by decide)) rfl S.g_law_take (S.F_law_take).kp S.b_law_take .nil pass0 (pa_cons (pv 0) (pa_cons (pe_callB call_len_seq (by rfl) S.z_len (by decide +kernel) (pa_cons (pv 3) pa_nil)) pa_nil))) (fun _ _ => rfl)) (pv 4)) (pv 2)))))))), ?_⟩
  have hpos := names_pos h.ok
  have few := h.ok.few
  have hs := two_pos R.bits
  have hs2 := two_small hb
  obtain ⟨_, dxs, hsp⟩ := id h.ring.space
  refine ⟨_, rfl, A.r, A.dx, _, rfl, h.ring.ob, rfl, A, R, rfl, h.ring, A.sp, dxs, _, rfl, hsp, rfl, A.sp, R.bits, rfl, h.ring.space, ?_⟩
  refine ⟨_, rfl, q, 4, rfl, hq, ⟨by decide, by decide⟩, fun d x y d0 d1 => ⟨rfl, _, rfl, ?_⟩⟩
  have p1 : PotStep K H q (upd H q (.lst [.int x, .int y])) := PotStep.upd hq h.tabs x y
  have h1 := h.pot hq rq p1
  by_cases c : d = 0
  · rw [c]
    refine iteT ⟨_, rfl, _, rfl, q, _, rfl, p1.2.1, ⟨hs, hs2⟩, fun d2 x2 y2 e0 e1 => ?_⟩
    exact k d2 _ e0 e1 (p1.trans (PotStep.upd p1.2.1 p1.2.2 x2 y2))
  have cd : decide (V.int d = V.int 0) = false := decide_eq_false fun e => c (by cases e; rfl)
  rw [cd]
  refine iteF ⟨_, rfl, A.r, A.dx, _, rfl, h1.ring.ob, rfl, A, R, rfl, h1, fun l H2 nl hl f2 => ?_⟩
  have h2 := h1.fin f2
  have q2 := p1.2.1.fin f2
  have p2 := p1.trans (PotStep.fin p1.2.1 f2)
  refine ⟨_, rfl, _, _, rfl, rfl, _, rfl, _, rfl, q, _, rfl, q2, ⟨hs, hs2⟩, fun d2 x2 y2 e0 e1 => ?_⟩
  have p3 := PotStep.upd q2 f2.2 x2 y2
  have h3 := h2.pot q2 rq p3
  have hlq : l ≠ q := fun e => by
    obtain ⟨x0, y0, hqq⟩ := p1.2.1
    exact nl q _ hqq (fun _ z => nomatch z) e.symm
  have hl3 : upd H2 q (.lst [.int x2, .int y2]) l = some (.lst ((membersM R).map V.int)) := by rw [upd_ne hlq]; exact hl
  revert p3 h3 hl3
  generalize upd H2 q (.lst [.int x2, .int y2]) = H3
  intro p3 h3 hl3
  refine ⟨_, _, rfl, rfl, (by show 4 ≤ sizeLine; decide), fun l4 hl4 => ?_⟩
  have f4 := Fin.of (same_new (o := HO.lst [.int 1, .int 2, .int (2 ^ R.bits - 1), .int (1 + d2)]) hl4) h3.tabs
  have q4 := p3.2.1.fin f4
  refine ⟨_, rfl, q, 4, rfl, q4, ⟨by decide, by decide⟩, fun d3 x3 y3 g0 g1 => ?_⟩
  have p5 := PotStep.upd q4 f4.2 x3 y3
  have l4q : l4 ≠ q := fun e => by
    obtain ⟨x0, y0, hqq⟩ := p3.2.1
    rw [e, hqq] at hl4
    cases hl4
  have hl45 : upd (upd H3 l4 (.lst [.int 1, .int 2, .int (2 ^ R.bits - 1), .int (1 + d2)])) q (.lst [.int x3, .int y3]) l4 = some (.lst ([1, 2, 2 ^ R.bits - 1, 1 + d2].map V.int)) := by rw [upd_ne l4q]; exact upd_same
  have hl5 : upd (upd H3 l4 (.lst [.int 1, .int 2, .int (2 ^ R.bits - 1), .int (1 + d2)])) q (.lst [.int x3, .int y3]) l = some (.lst ((membersM R).map V.int)) := by rw [upd_ne hlq, upd_ne (ne_of_none hl3 hl4)]; exact hl3
  have h5 := (h3.fin f4).pot q4 rq p5
  revert p5 hl45 hl5 h5
  generalize upd (upd H3 l4 (.lst [.int 1, .int 2, .int (2 ^ R.bits - 1), .int (1 + d2)])) q (.lst [.int x3, .int y3]) = H5
  intro p5 hl45 hl5 h5
  refine ⟨l4, _, d3, _, rfl, rfl, .inl (.inl hl45), atI_nn (ns := [1, 2, 2 ^ R.bits - 1, 1 + d2]) g0 (by show d3 < 4; exact g1), ?_⟩
  refine ⟨_, rfl, _, rfl, _, rfl, l, _, rfl, .inl (.inl (.inl hl5)), q, _, rfl, p5.2.1, ?_, fun d6 x6 y6 j0 j1 => ?_⟩
  · rw [List.length_map, membersM_len]
    omega
  rw [List.length_map] at j1
  have p6 := PotStep.upd p5.2.1 p5.2.2 x6 y6
  refine ⟨l, _, d6, _, rfl, rfl, .inl (.inl (by rw [upd_ne hlq]; exact hl5)), atI_nn j0 j1, _, rfl, _, _, rfl, rfl, _, rfl, _, _, rfl, rfl, hs, ?_⟩
  exact k _ _ (Int.emod_nonneg _ (by omega)) (Int.emod_lt_of_pos _ hs) (((p2.trans p3).trans ((PotStep.fin p3.2.1 f4).trans p5)).trans p6)
end
end Nn
set_option Elab.async false
set_option linter.all false
set_option maxRecDepth 100000
set_option maxHeartbeats 1000000
namespace Nn
open PySem PySem.Spec PyProof.Rows L2 LamX KeyL
section
variable {P : Program} {w : World} {K : PySem.W.Frag} {mg : Str → Option Value} {base : Heap}
theorem erase_perm {α : Type} : ∀ (xs : List α) (k : Nat) (y : α), xs[k]? = some y → (y :: xs.eraseIdx k).Perm xs
  | x :: xs, 0, y, h => by
    have e : x = y := Option.some.inj h
    rw [e]
    exact List.Perm.refl _
  | x :: xs, k + 1, y, h => by
    have ih := erase_perm xs k y h
    rw [List.eraseIdx_cons_succ]
    exact (List.Perm.swap x y _).trans (ih.cons x)
  | [], k, y, h => by cases h
theorem eraseIdx_mapI {α β : Type} (f : α → β) : ∀ (xs : List α) (k : Nat), (xs.map f).eraseIdx k = (xs.eraseIdx k).map f
  | [], _ => rfl
  | _ :: _, 0 => rfl
  | x :: xs, k + 1 => by
    rw [List.map_cons, List.eraseIdx_cons_succ, List.eraseIdx_cons_succ, List.map_cons, eraseIdx_mapI f xs k]
def spMixed (K : PySem.W.Frag) : Sp := fun vs H Q _ => ∃ (q l : Addr) (ns : List Int), vs = [.ref q, .ref l] ∧ Tabs (tabT K) H ∧ PotAt H q ∧ l ≠ q ∧ H l = some (.lst (ns.map V.int)) ∧ ns.length < 64 ∧ ∀ (r : Addr) (ms : List Int) (H' : Hp), ms.Perm ns → NotOld H r → H' r = some (.lst (ms.map V.int)) → PotStep K H q H' → Q (.ref r) H'
theorem sc_law_mixed : FnScope ["_law_pot_here", "_law_some", "_law_left", "_law_k"] ["_law_pot_here", "_law_some"] (defScope s_law_mixed) := ⟨rfl, rfl, rfl, by decide +kernel, rfl, by decide +kernel, by decide +kernel⟩
theorem ok_law_mixed (S : Say K mg base) : FnOk P w K mg base CX0 2 (He.ga K "_law_mixed") (fdO K ("_law_mixed", none)) ["_law_pot_here", "_law_some"] (spMixed K) := by
  refine (S.F_law_mixed).ok sc_law_mixed (fun vs H Q E h => ?_) (fun cdv A outer s H vs Q E hr h => ?_)
  · obtain ⟨q, l, ns, rfl, ht, hq, lq, hl, hn, k⟩ := h
    rfl
  obtain ⟨q, l, ns, rfl, ht, hq, lq, hl, hn, k⟩ := h
  have hu := hu_of hr
  refine ⟨_, PSs.nox (pss_cons (ps_set (i := 2) sc_law_mixed.nd rfl (Or.inr rfl) (pe_callTy call_list_of (by rfl) S.z_list (by decide +kernel) (pa_cons (pv 1) pa_nil)))
        (pss_one (ps_ret (pe_lc (own := [("_law_k", 3)]) rfl sc_law_mixed.nd (pi_range1 rfl S.z_range (pa_cons (pe_callB call_len_seq (by rfl) S.z_len (by decide +kernel) (pa_cons (pv 1) pa_nil)) pa_nil)) (blkOk_by (own := [("_law_k", 3)]) (N := ["_law_pot_here", "_law_some", "_law_left", "_law_k"]) (sc := defScope s_law_mixed) (by decide +kernel)) (fun _ _ _ _ _ => (pg_name (i := 3) sc_law_mixed.nd rfl (Or.inl rfl))) (fun _ _ _ _ _ => pts_nil) (fun _ _ _ _ _ => (pe_bmK (K := K) rfl PySem.F.plainAttrs_list PySem.F.slot_list_pop PySem.F.type_list_pop mt_popAt (pv 2) (pa_cons (pe_call (ok_law_take S) (hr.mono (by decide)) rfl S.g_law_take (S.F_law_take).kp S.b_law_take .nil pass0 (pa_cons (pv 0) (pa_cons (pe_callB (call_lenK (K := K) rfl) (by rfl) S.z_len (by decide +kernel) (pa_cons (pv 2) pa_nil)) pa_nil))) pa_nil))))))), ?_⟩
  refine ⟨_, rfl, l, _, rfl, .inl (.inl (.inl hl)), fun L hL => ?_⟩
  have f1 := Fin.of (same_new (o := HO.lst (ns.map V.int)) hL) ht
  have hl1 : upd H L (.lst (ns.map V.int)) l = some (.lst (ns.map V.int)) := by rw [upd_ne (ne_of_none hl hL)]; exact hl
  have Lq : L ≠ q := fun e => by
    obtain ⟨x0, y0, hqq⟩ := hq
    rw [e, hqq] at hL
    cases hL
  refine ⟨_, rfl, l, _, rfl, .inl (.inl (.inl hl1)), _, rfl, by omega, (by rw [List.length_map]; omega), fun D hD => ?_⟩
  rw [List.length_map, Int.toNat_natCast]
  have nD : NotOld H D := (notOld_of hD).back f1
  have LD : L ≠ D := fun e => by rw [← e, upd_same] at hD; cases hD
  have Dq : D ≠ q := fun e => by
    obtain ⟨x0, y0, hqq⟩ := hq
    exact nD q _ hqq (fun _ z => nomatch z) e.symm
  refine lc_range (lo := 0) (n := ns.length) (fun i H2 => PotStep K H q H2 ∧ ∃ left ms : List Int, H2 L = some (.lst (left.map V.int)) ∧ H2 D = some (.lst (ms.map V.int)) ∧ (left ++ ms).Perm ns ∧ left.length = ns.length - i) ⟨PotStep.fin hq (f1.new hD), ns, [], by rw [upd_ne LD]; exact upd_same, upd_same, by rw [List.append_nil], rfl⟩ ?_ ?_
  · rintro i H2 hi ⟨p2, left, ms, hL2, hD2, hp, hll⟩
    refine ⟨rfl, _, rfl, .inl ⟨rfl, _, .inl (.inl hL2)⟩, _, rfl, _, rfl, L, _, rfl, .inl (.inl (.inl hL2)), q, _, rfl, p2.2.1, ?_, fun d x y d0 d1 => ?_⟩
    · rw [List.length_map]
      omega
    rw [List.length_map] at d1
    have p3 := PotStep.upd p2.2.1 p2.2.2 x y
    have hL3 : upd H2 q (.lst [.int x, .int y]) L = some (.lst (left.map V.int)) := by rw [upd_ne Lq]; exact hL2
    have hD3 : upd H2 q (.lst [.int x, .int y]) D = some (.lst (ms.map V.int)) := by rw [upd_ne Dq]; exact hD2
    have hdl : d.toNat < left.length := by omega
    have ix : ixN left.length d = some d.toNat := by unfold ixN; rw [if_pos d0, if_pos d1]
    refine ⟨L, _, d, d.toNat, .int left[d.toNat], rfl, rfl, hL3, by omega, by omega, by rw [List.length_map]; exact (ixN_seq ix).1, by rw [List.getElem?_map, List.getElem?_eq_getElem hdl]; rfl, ?_⟩
    have hD4 : upd (upd H2 q (.lst [.int x, .int y])) L (.lst ((left.map V.int).eraseIdx d.toNat)) D = some (.lst (ms.map V.int)) := by rw [upd_ne (Ne.symm LD)]; exact hD3
    have len := hp.length_eq
    rw [List.length_append] at len
    have nL : NotOld H L := notOld_of hL
    refine ⟨_, hD4, szL (by rw [List.length_map]; omega), ⟨fun b o e1 e2 e3 => ?_, ?_, ?_⟩, left.eraseIdx d.toNat, ms ++ [left[d.toNat]], ?_, ?_, ?_, ?_⟩
    · rw [upd_ne (nD b o e1 e2), upd_ne (nL b o e1 e2)]
      exact p3.1 b o (p2.1 b o e1 e2 e3) e2 e3
    · obtain ⟨x1, y1, e⟩ := p3.2.1
      exact ⟨x1, y1, by rw [upd_ne (Ne.symm Dq), upd_ne (Ne.symm Lq)]; exact e⟩
    · exact tabs_upd (tabs_upd p3.2.2 hL3 rfl) hD4 rfl
    · rw [upd_ne LD, upd_same, eraseIdx_mapI]
    · rw [upd_same, List.map_append]
      rfl
    · have z := erase_perm left d.toNat left[d.toNat] (List.getElem?_eq_getElem hdl)
      refine List.Perm.trans ?_ hp
      refine List.Perm.trans ?_ (List.Perm.append_right ms z)
      show (left.eraseIdx d.toNat ++ (ms ++ [left[d.toNat]])).Perm ((left[d.toNat] :: left.eraseIdx d.toNat) ++ ms)
      rw [← List.append_assoc]
      exact List.perm_append_singleton _ _
    · rw [List.length_eraseIdx_of_lt hdl]
      omega
  · rintro H2 ⟨p2, left, ms, hL2, hD2, hp, hll⟩
    have e0 : left = [] := List.length_eq_zero_iff.mp (by omega)
    subst e0
    exact k D ms H2 hp nD hD2 p2
end
end Nn
set_option Elab.async false
set_option linter.all false
set_option maxRecDepth 100000
set_option maxHeartbeats 1000000
namespace Nn
open PySem PySem.Spec PyProof.Rows L2 LamX KeyL
/-! ### a free place -/
theorem freeF_stay {size : Int} {ns : List Int} {x : Int} (h : x ∉ ns) : ∀ k, freeF size ns k x = x
  | 0 => rfl
  | k + 1 => by
    show freeF size ns k (if x ∈ ns then (x + 1) % size else x) = x
    rw [if_neg h]
    exact freeF_stay h k
theorem freeF_rng {size : Int} {ns : List Int} (hs : 0 < size) : ∀ (k : Nat) (x : Int), 0 ≤ x ∧ x < size → 0 ≤ freeF size ns k x ∧ freeF size ns k x < size
  | 0, x, h => h
  | k + 1, x, h => by
    show 0 ≤ freeF size ns k (if x ∈ ns then (x + 1) % size else x) ∧ _
    by_cases c : x ∈ ns
    · have z := freeF_rng (ns := ns) hs k ((x + 1) % size) ⟨Int.emod_nonneg _ (by omega), Int.emod_lt_of_pos _ hs⟩
      rw [if_pos c]
      refine ⟨z.1, ?_⟩
      show freeF size ns k (if x ∈ ns then (x + 1) % size else x) < size
      rw [if_pos c]
      exact z.2
    · have z := freeF_rng (ns := ns) hs k x h
      rw [if_neg c]
      refine ⟨z.1, ?_⟩
      show freeF size ns k (if x ∈ ns then (x + 1) % size else x) < size
      rw [if_neg c]
      exact z.2
theorem freeF_all {size : Int} {ns : List Int} (hs : 0 < size) : ∀ (k : Nat) (x : Int), freeF size ns k (x % size) ∈ ns → ∀ j : Nat, j ≤ k → (x + j) % size ∈ ns
  | 0, x, h, j, hj => by
    have e : j = 0 := by omega
    subst e
    rw [show x + ((0 : Nat) : Int) = x by omega]
    exact h
  | k + 1, x, h, j, hj => by
    have h' : freeF size ns k (if x % size ∈ ns then (x % size + 1) % size else x % size) ∈ ns := h
    by_cases c : x % size ∈ ns
    · rw [if_pos c] at h'
      have e1 : (x % size + 1) % size = (x + 1) % size := by rw [Int.emod_add_emod]
      rw [e1] at h'
      cases j with
      | zero => rw [show x + ((0 : Nat) : Int) = x by omega]; exact c
      | succ j =>
        have z := freeF_all hs k (x + 1) h' j (by omega)
        rw [show x + ((j + 1 : Nat) : Int) = x + 1 + (j : Int) by omega]
        exact z
    · rw [if_neg c, freeF_stay c] at h'
      exact absurd h' c
theorem emod_apart {size x : Int} {i j : Nat} (hi : (i : Int) < size) (hj : (j : Int) < size) (h : (x + i) % size = (x + j) % size) : i = j := by
  have key : ∀ i j : Nat, (i : Int) < size → (j : Int) < size → j ≤ i → (x + i) % size = (x + j) % size → i = j := fun i j hi hj hle h => by
    have e := Int.emod_eq_emod_iff_emod_sub_eq_zero.mp h
    have e2 : x + (i : Int) - (x + (j : Int)) = (i : Int) - j := by omega
    rw [e2, Int.emod_eq_of_lt (by omega) (by omega)] at e
    omega
  rcases Nat.le_total i j with z | z
  · exact (key j i hj hi z h.symm).symm
  · exact key i j hi hj z h
theorem freeF_ok {size : Int} {ns : List Int} {x : Int} (hs : (ns.length : Int) < size) (hx : 0 ≤ x ∧ x < size) : freeF size ns ns.length x ∉ ns := by
  intro h
  have hp : 0 < size := by omega
  have hx' : x % size = x := Int.emod_eq_of_lt hx.1 hx.2
  rw [← hx'] at h
  have all := freeF_all hp ns.length x h
  have nd : ((List.range (ns.length + 1)).map fun j : Nat => (x + (j : Int)) % size).Nodup := by
    refine List.pairwise_map.mpr (List.Pairwise.imp_of_mem (fun {a b} ha hb hab e => ?_) List.nodup_range)
    have a1 := List.mem_range.mp ha
    have b1 := List.mem_range.mp hb
    exact hab (emod_apart (by omega) (by omega) e)
  have z := nodup_len _ ns nd fun y hy => by
    obtain ⟨j, hj, rfl⟩ := List.mem_map.mp hy
    exact all j (by have := List.mem_range.mp hj; omega)
  rw [List.length_map, List.length_range] at z
  omega
section
variable {P : Program} {w : World} {K : PySem.W.Frag} {mg : Str → Option Value} {base : Heap}
def spLRing (K : PySem.W.Frag) : Sp := fun vs H Q _ => ∃ q : Addr, vs = [.ref q] ∧ Tabs (tabT K) H ∧ PotAt H q ∧ ∀ (b m : Nat) (ns : List Int) (A : RA) (H' : Hp), (3 ≤ b ∧ b ≤ 12) → (1 ≤ m ∧ m ≤ 4) → m < ns.length → ns.length ≤ 8 → Pts b ns → ns.Nodup → At K H' A (initM b m ns) → PotStep K H q H' →
  A.ρ q = none → (∀ c o, H c = some o → (∀ ps, o ≠ .tbl ps) → A.ρ c = none) → Q (.ref A.r) H'
theorem sc_law_ring : FnScope ["_law_pot_here", "_law_wide", "_law_long", "_law_size", "_law_crowd", "_law_begin", "_law_some", "_law_k"] ["_law_pot_here"] (defScope s_law_ring) := ⟨rfl, rfl, rfl, by decide +kernel, rfl, by decide +kernel, by decide +kernel⟩
theorem ok_law_ring (S : Say K mg base) : FnOk P w K mg base CX0 12 (He.ga K "_law_ring") (fdO K ("_law_ring", none)) ["_law_pot_here"] (spLRing K) := by
  refine (S.F_law_ring).ok sc_law_ring (fun vs H Q E h => ?_) (fun cdv A outer s H vs Q E hr h => ?_)
  · obtain ⟨q, rfl, ht, hq, k⟩ := h
    rfl
  obtain ⟨q, rfl, ht, hq, k⟩ := h
  have hu := hu_of hr
  refine ⟨_, PSs.nox (pss_cons (ps_set (i := 1) sc_law_ring.nd rfl (Or.inl rfl) (pe_ix ix_list (pe_lst (pa_cons pe_int (pa_cons pe_int (pa_cons pe_int (pa_cons pe_int (pa_cons pe_int (pa_cons pe_int pa_nil))))))) (pe_call (ok_law_take S) (hr.mono (by decide)) rfl S.g_law_take (S.F_law_take).kp S.b_law_take .nil pass0 (pa_cons (pv 0) (pa_cons pe_int pa_nil))) (fun _ _ => rfl)))
        (pss_cons (ps_set (i := 2) sc_law_ring.nd rfl (Or.inl rfl) (pe_op op_add pe_int (pe_call (ok_law_take S) (hr.mono (by decide)) rfl S.g_law_take (S.F_law_take).kp S.b_law_take .nil pass0 (pa_cons (pv 0) (pa_cons pe_int pa_nil)))))
        (pss_cons (ps_set (i := 3) sc_law_ring.nd rfl (Or.inl rfl) (pe_meth0 (pe_make S.mk_Space (ok_Space_init S) (hr.mono (by decide)) rfl S.g_Space S.b_Space_init .nil pass0 (pa_cons (pv 1) pa_nil)) S.c_Space S.m_Space_size (ok_Space_size S) (hr.mono (by decide)) S.b_Space_size .nil pass0))
        (pss_cons (ps_set (i := 4) sc_law_ring.nd rfl (Or.inl rfl) (pe_ix ix_list (pe_lst (pa_cons (pv 3) (pa_cons (pe_callB (call_min2 rfl) (by rfl) S.z_min (by decide +kernel) (pa_cons (pv 3) (pa_cons pe_int pa_nil))) pa_nil))) (pe_call (ok_law_take S) (hr.mono (by decide)) rfl S.g_law_take (S.F_law_take).kp S.b_law_take .nil pass0 (pa_cons (pv 0) (pa_cons pe_int pa_nil))) (fun _ _ => rfl)))
        (pss_cons (ps_set (i := 5) sc_law_ring.nd rfl (Or.inl rfl) (pe_call (ok_law_take S) (hr.mono (by decide)) rfl S.g_law_take (S.F_law_take).kp S.b_law_take .nil pass0 (pa_cons (pv 0) (pa_cons (pv 3) pa_nil))))
        (pss_cons (ps_set (i := 6) sc_law_ring.nd rfl (Or.inl rfl) (pe_lst pa_nil))
        (pss_cons (ps_for PassesOwn.never rfl (pi_range1 rfl S.z_range (pa_cons (pe_op op_add (pe_op op_add (pv 2) pe_int) (pe_call (ok_law_take S) (hr.mono (by decide)) rfl S.g_law_take (S.F_law_take).kp S.b_law_take .nil pass0 (pa_cons (pv 0) (pa_cons pe_int pa_nil)))) pa_nil)) (pg_name (i := 7) sc_law_ring.nd rfl (Or.inl rfl))
        (pss_one (ps_expr (pe_bm PySem.F.plainAttrs_list PySem.F.slot_list_append PySem.F.type_list_append mt_append (pv 6) (pa_cons (pe_call (ok_law_free S) (hr.mono (by decide)) rfl S.g_law_free (S.F_law_free).kp S.b_law_free .nil pass0 (pa_cons (pv 3) (pa_cons (pv 6) (pa_cons (pe_op op_mod (pe_op op_add (pv 5) (pe_call (ok_law_take S) (hr.mono (by decide)) rfl S.g_law_take (S.F_law_take).kp S.b_law_take .nil pass0 (pa_cons (pv 0) (pa_cons (pv 4) pa_nil)))) (pv 3)) pa_nil)))) pa_nil)))))
        (pss_one (ps_ret (pe_makeN S.mk_Ring (ok_Ring_init S) (hr.mono (by decide)) rfl S.g_Ring S.kb_Ring_init pass0 (pa_cons (pv 6) pa_nil) (pk_cons (pv 1) (pk_cons (pv 2) pk_nil)))))))))))), ?_⟩
  refine ⟨(by show 6 ≤ sizeLine; decide), fun l1 hl1 => ?_⟩
  have f1 := Fin.of (same_new (o := HO.lst [.int 3, .int 4, .int 5, .int 6, .int 8, .int 12]) hl1) ht
  have p1 := PotStep.fin hq f1
  refine ⟨_, rfl, q, 6, rfl, p1.2.1, ⟨by decide, by decide⟩, fun d1 x1 y1 d10 d11 => ?_⟩
  have l1q : l1 ≠ q := fun e => by
    obtain ⟨x0, y0, hqq⟩ := hq
    rw [e, hqq] at hl1
    cases hl1
  have p2 := p1.trans (PotStep.upd p1.2.1 p1.2.2 x1 y1)
  refine ⟨l1, _, d1, _, rfl, rfl, .inl (.inl (by rw [upd_ne l1q]; exact upd_same)), atI_nn (ns := [3, 4, 5, 6, 8, 12]) d10 (by show d1 < 6; exact d11), ?_⟩
  obtain ⟨b, hbe, hb⟩ : ∃ b : Nat, ([3, 4, 5, 6, 8, 12] : List Int).getD d1.toNat 0 = (b : Int) ∧ 3 ≤ b ∧ b ≤ 12 := by
    have c : d1 = 0 ∨ d1 = 1 ∨ d1 = 2 ∨ d1 = 3 ∨ d1 = 4 ∨ d1 = 5 := by omega
    rcases c with rfl | rfl | rfl | rfl | rfl | rfl
    · exact ⟨3, rfl, by decide, by decide⟩
    · exact ⟨4, rfl, by decide, by decide⟩
    · exact ⟨5, rfl, by decide, by decide⟩
    · exact ⟨6, rfl, by decide, by decide⟩
    · exact ⟨8, rfl, by decide, by decide⟩
    · exact ⟨12, rfl, by decide, by decide⟩
  rw [hbe]
  revert p2
  generalize upd (upd H l1 (.lst [.int 3, .int 4, .int 5, .int 6, .int 8, .int 12])) q (.lst [.int x1, .int y1]) = H2
  intro p2
  refine ⟨_, rfl, q, 4, rfl, p2.2.1, ⟨by decide, by decide⟩, fun d2 x2 y2 d20 d21 => ?_⟩
  have p3 := p2.trans (PotStep.upd p2.2.1 p2.2.2 x2 y2)
  obtain ⟨m, hme, hm⟩ : ∃ m : Nat, 1 + d2 = (m : Int) ∧ 1 ≤ m ∧ m ≤ 4 := ⟨(1 + d2).toNat, by omega, by omega, by omega⟩
  refine ⟨_, _, rfl, rfl, ?_⟩
  have em : (fun i j : Int => V.int (i + j)) 1 d2 = V.int (m : Int) := by
    show V.int (1 + d2) = _
    rw [hme]
  rw [em]
  revert p3
  generalize upd H2 q (.lst [.int x2, .int y2]) = H3
  intro p3
  refine ⟨_, rfl, fun sx sdx hsx hsdx hsn => ⟨sx, sdx, b, rfl, upd_same, ⟨hb.1, by omega⟩, rfl, sx, sdx, _, rfl, upd_same, rfl, sx, b, rfl, ⟨⟨hb.1, by omega⟩, sdx, upd_same⟩, ?_⟩⟩
  have s4 : Same H3 (upd (upd (upd H3 sdx (.own sx)) sx (.ins (He.ga K "Space") sdx [])) sx (.ins (He.ga K "Space") sdx [("own_bits", V.int b)])) := fun c o e => by
    rw [upd_ne (ne_of_none e hsx), upd_ne (ne_of_none e hsx), upd_ne (ne_of_none e hsdx)]
    exact e
  have p4 := p3.trans (PotStep.fin p3.2.1 (Fin.of s4 p3.2.2))
  have hs := two_pos b
  have hs2 := two_small (b := b) (by omega)
  have hs8 : (8 : Int) ≤ 2 ^ b := by
    have z : (2 : Nat) ^ 3 ≤ 2 ^ b := Nat.pow_le_pow_right (by decide) hb.1
    have e : ((2 ^ b : Nat) : Int) = (2 : Int) ^ b := by simp
    rw [← e]
    have : (2 : Nat) ^ 3 = 8 := by decide
    omega
  generalize e4 : upd (upd (upd H3 sdx (.own sx)) sx (.ins (He.ga K "Space") sdx [])) sx (.ins (He.ga (cxOf CX0 P w K mg base ["_law_pot_here", "_law_wide", "_law_long", "_law_size", "_law_crowd", "_law_begin", "_law_some", "_law_k"] "_law_ring" (defScope s_law_ring) (He.ga K "_law_ring") cdv A outer s H E).nox.K "Space") sdx [("own_bits", V.int b)]) = H4
  have p4 : PotStep K H q H4 := by
    rw [← e4]
    exact p4
  refine ⟨_, rfl, _, rfl, _, _, rfl, (by show 2 ≤ sizeLine; decide), fun l5 hl5 => ?_⟩
  have f5 := Fin.of (same_new (o := HO.lst [.int (2 ^ b), .int (if (14 : Int) < 2 ^ b then 14 else 2 ^ b)]) hl5) p4.2.2
  have l5q : l5 ≠ q := fun e => by
    obtain ⟨x0, y0, hqq⟩ := p4.2.1
    rw [e, hqq] at hl5
    cases hl5
  have q5 := p4.2.1.fin f5
  refine ⟨_, rfl, q, 2, rfl, q5, ⟨by decide, by decide⟩, fun d5 x5 y5 d50 d51 => ?_⟩
  have p5 := (p4.trans (PotStep.fin p4.2.1 f5)).trans (PotStep.upd q5 f5.2 x5 y5)
  have hl55 : upd (upd H4 l5 (.lst [.int (2 ^ b), .int (if (14 : Int) < 2 ^ b then 14 else 2 ^ b)])) q (.lst [.int x5, .int y5]) l5 = some (.lst ([2 ^ b, if (14 : Int) < 2 ^ b then 14 else 2 ^ b].map V.int)) := by rw [upd_ne l5q]; exact upd_same
  revert p5 hl55
  generalize upd (upd H4 l5 (.lst [.int (2 ^ b), .int (if (14 : Int) < 2 ^ b then 14 else 2 ^ b)])) q (.lst [.int x5, .int y5]) = H5
  intro p5 hl55
  refine ⟨l5, _, d5, _, rfl, rfl, .inl (.inl hl55), atI_nn (ns := [2 ^ b, if (14 : Int) < 2 ^ b then 14 else 2 ^ b]) d50 (by show d5 < 2; exact d51), ?_⟩
  obtain ⟨cr, hcr, cr0, cr1⟩ : ∃ c : Int, ([2 ^ b, if (14 : Int) < 2 ^ b then 14 else 2 ^ b] : List Int).getD d5.toNat 0 = c ∧ 0 < c ∧ c < 1073741824 := by
    have c : d5 = 0 ∨ d5 = 1 := by omega
    rcases c with rfl | rfl
    · exact ⟨2 ^ b, rfl, hs, hs2⟩
    · refine ⟨if (14 : Int) < 2 ^ b then 14 else 2 ^ b, rfl, ?_, ?_⟩
      · by_cases c : (14 : Int) < 2 ^ b
        · rw [if_pos c]; decide
        · rw [if_neg c]; exact hs
      · by_cases c : (14 : Int) < 2 ^ b
        · rw [if_pos c]; decide
        · rw [if_neg c]; exact hs2
  rw [hcr]
  refine ⟨_, rfl, _, rfl, q, _, rfl, p5.2.1, ⟨hs, hs2⟩, fun bg x6 y6 bg0 bg1 => ?_⟩
  have p6 := p5.trans (PotStep.upd p5.2.1 p5.2.2 x6 y6)
  revert p6
  generalize upd H5 q (.lst [.int x6, .int y6]) = H6
  intro p6
  refine ⟨(by show 0 ≤ sizeLine; omega), fun L hL => ?_⟩
  have f7 := Fin.of (same_new (o := HO.lst []) hL) p6.2.2
  have p7 := p6.trans (PotStep.fin p6.2.1 f7)
  have Lq : L ≠ q := fun e => by
    obtain ⟨x0, y0, hqq⟩ := p6.2.1
    rw [e, hqq] at hL
    cases hL
  have nL : NotOld H L := fun c o e1 e2 e => by
    by_cases cq : c = q
    · exact Lq (e.symm.trans cq)
    · have z := p6.1 c o e1 e2 cq
      rw [e, hL] at z
      cases z
  have hL7 : upd H6 L (.lst []) L = some (.lst (([] : List Int).map V.int)) := upd_same
  revert p7 hL7
  generalize upd H6 L (.lst []) = H7
  intro p7 hL7
  refine ⟨_, rfl, _, _, rfl, rfl, _, rfl, q, 3, rfl, p7.2.1, ⟨by decide, by decide⟩, fun d8 x8 y8 d80 d81 => ?_⟩
  have p8 := p7.trans (PotStep.upd p7.2.1 p7.2.2 x8 y8)
  have hL8 : upd H7 q (.lst [.int x8, .int y8]) L = some (.lst (([] : List Int).map V.int)) := by rw [upd_ne Lq]; exact hL7
  revert p8 hL8
  generalize upd H7 q (.lst [.int x8, .int y8]) = H8
  intro p8 hL8
  obtain ⟨N, hN, hN1, hN2⟩ : ∃ N : Nat, (m : Int) + 1 + d8 = (N : Int) ∧ m < N ∧ N ≤ 7 := ⟨((m : Int) + 1 + d8).toNat, by omega, by omega, by omega⟩
  refine ⟨_, _, rfl, rfl, (N : Int), (by show [V.int ((m : Int) + 1 + d8)] = [V.int (N : Int)]; rw [hN]), by omega, by omega, ?_⟩
  rw [Int.toNat_natCast]
  refine for_it walk_range (fun i σ H9 => ∃ (ns : List Int) (v : Option V), σ = [some (.ref q), some (.int b), some (.int m), some (.int (2 ^ b)), some (.int cr), some (.int bg), some (.ref L), v] ∧ PotStep K H q H9 ∧ H9 L = some (.lst (ns.map V.int)) ∧ ns.length = i ∧ Pts b ns ∧ ns.Nodup) ⟨[], none, rfl, p8, hL8, rfl, fun n h => absurd h (by simp), List.nodup_nil⟩ (fun _ _ _ _ _ => True.intro) ?_ ?_
  · rintro i z σ H9 H9' hi ⟨ns, v, rfl, p9, hL9, hl, hp, hn⟩ ⟨rfl, rfl⟩
    refine ⟨_, rfl, .inl ⟨rfl, _, .inl (.inl hL9)⟩, _, rfl, _, rfl, _, rfl, _, rfl, _, rfl, q, _, rfl, p9.2.1, ⟨cr0, cr1⟩, fun d x y d0 d1 => ?_⟩
    have p10 := PotStep.upd p9.2.1 p9.2.2 x y
    have hL10 : upd H9' q (.lst [.int x, .int y]) L = some (.lst (ns.map V.int)) := by rw [upd_ne Lq]; exact hL9
    have at0 : 0 ≤ (bg + d) % 2 ^ b ∧ (bg + d) % 2 ^ b < 2 ^ b := ⟨Int.emod_nonneg _ (by omega), Int.emod_lt_of_pos _ hs⟩
    have fr := freeF_rng (ns := ns) hs ns.length _ at0
    have fo := freeF_ok (ns := ns) (size := 2 ^ b) (x := (bg + d) % 2 ^ b) (by omega) at0
    refine ⟨_, _, rfl, rfl, _, rfl, _, _, rfl, rfl, hs, L, ns, 2 ^ b, _, rfl, .inl (.inl hL10), by omega, hs, ?_⟩
    refine ⟨L, _, _, rfl, rfl, hL10, szL (by rw [List.length_map]; omega), ns ++ [freeF (2 ^ b) ns ns.length ((bg + d) % 2 ^ b)], _, rfl, ⟨fun c o e1 e2 e3 => ?_, ?_, tabs_upd p10.2.2 hL10 rfl⟩, ?_, ?_, ?_, ?_⟩
    · rw [upd_ne (nL c o e1 e2)]
      exact p10.1 c o (p9.1 c o e1 e2 e3) e2 e3
    · obtain ⟨x0, y0, e⟩ := p10.2.1
      exact ⟨x0, y0, by rw [upd_ne (Ne.symm Lq)]; exact e⟩
    · rw [upd_same, List.map_append]
      rfl
    · rw [List.length_append, List.length_singleton, hl]
    · intro c hc
      rcases List.mem_append.mp hc with h | h
      · exact hp c h
      · rw [List.mem_singleton.mp h]; exact fr
    · refine List.nodup_append.mpr ⟨hn, List.pairwise_singleton _ _, fun a ha b' hb' e => ?_⟩
      rw [List.mem_singleton.mp hb'] at e
      exact fo (by rw [← e]; exact ha)
  · rintro σ H9 ⟨ns, v, rfl, p9, hL9, hl, hp, hn⟩
    refine ⟨_, rfl, _, rfl, _, rfl, rfl, rfl, fun x dx hx hdx hxn => ?_⟩
    have s10 : Same H9 (upd (upd H9 dx (.own x)) x (.ins (He.ga K "Ring") dx [])) := fun c o e => by
      rw [upd_ne (ne_of_none e hx), upd_ne (ne_of_none e hdx)]
      exact e
    refine ⟨x, dx, L, b, m, ns, rfl, upd_same, p9.2.2.ext s10, s10 _ _ hL9, ⟨hb.1, by omega⟩, hm, by omega, by omega, hp, hn, fun A' H' hr hA hoff => ⟨rfl, ?_⟩⟩
    have off : ∀ c o, H9 c = some o → (∀ ps, o ≠ .tbl ps) → H' c = some o ∧ A'.ρ c = none := fun c o e1 e2 => hoff c o (s10 _ _ e1) e2 (ne_of_none e1 hx)
    obtain ⟨x0, y0, hq9⟩ := p9.2.1
    have hqq := off q _ hq9 fun _ z => nomatch z
    have z := k b m ns A' H' hb hm (by omega) (by omega) hp hn hA ⟨fun c o e1 e2 e3 => (off c o (p9.1 c o e1 e2 e3) e2).1, ⟨x0, y0, hqq.1⟩, hA.tabs⟩ hqq.2 fun c o e1 e2 => by
      by_cases cq : c = q
      · rw [cq]; exact hqq.2
      · exact (off c o (p9.1 c o e1 e2 cq) e2).2
    rw [hr] at z
    exact z
end
end Nn
set_option Elab.async false
set_option linter.all false
set_option maxRecDepth 100000
set_option maxHeartbeats 1000000
namespace Nn
open PySem PySem.Spec PyProof.Rows L2 LamX KeyL
/-! ### neighbours: no base name is passed -/
theorem dist_add {b : Nat} {x n c : Int} (h : dist b x n + dist b n c < 2 ^ b) : dist b x c = dist b x n + dist b n c := by
  have r1 := dist_rng b x n
  have r2 := dist_rng b n c
  unfold dist at *
  have e : (c - x) % (2 : Int) ^ b = ((n - x) % 2 ^ b + (c - n) % 2 ^ b) % 2 ^ b := by
    rw [← Int.add_emod]
    congr 1
    omega
  rw [e, Int.emod_eq_of_lt (by omega) h]
def adj (R : RingS) (x y : Int) : Prop := 0 < dist R.bits x y ∧ ∀ f ∈ R.fixed, f = x ∨ dist R.bits x y ≤ dist R.bits x f
def AdjL (R : RingS) : Int → List Int → Prop
  | _, [] => True
  | x, y :: r => adj R x y ∧ AdjL R y r
/-- what deeds keep: no list and no predecessor passes a base name -/
def Sound (R : RingS) : Prop := ∀ n ∈ R.names, AdjL R n (R.node n).chain ∧ ∀ p, (R.node n).prior = some p → adj R p n
theorem adj_ne {R : RingS} {x y : Int} (h : adj R x y) : x ≠ y := fun e => by
  have := h.1
  rw [e, dist_self] at this
  omega
theorem fixed_pts {R : RingS} (h : Ok R) : ∀ f ∈ R.fixed, 0 ≤ f ∧ f < 2 ^ R.bits := fun f hf => h.pts f (h.fsub f hf)
theorem fixed_two {R : RingS} (h : Ok R) (x : Int) : ∃ f ∈ R.fixed, f ≠ x := by
  have h1 := h.fixed
  have h2 := h.many
  cases e : R.fixed with
  | nil => rw [e] at h1; simp at h1
  | cons a r =>
    cases e2 : r with
    | nil => rw [e, e2] at h1; simp at h1; omega
    | cons c r2 =>
      have hs := h.fsort
      rw [e, e2] at hs
      have lt := (List.pairwise_cons.mp hs).1 c (List.mem_cons_self ..)
      by_cases ea : a = x
      · exact ⟨c, by simp, by omega⟩
      · exact ⟨a, by simp, ea⟩
theorem adj_trans {R : RingS} (h : Ok R) {x n c : Int} (hn : 0 ≤ n ∧ n < 2 ^ R.bits) (h1 : adj R x n) (h2 : adj R n c) (hf : n ∉ R.fixed) : adj R x c := by
  have key : ∀ f ∈ R.fixed, f ≠ x → dist R.bits x n + dist R.bits n c ≤ dist R.bits x f := fun f hfm hfx => by
    have a1 := (h1.2 f hfm).resolve_left hfx
    have fn : f ≠ n := fun e => hf (by rw [← e]; exact hfm)
    have a2 : dist R.bits x n ≠ dist R.bits x f := fun e => fn (dist_inj (fixed_pts h f hfm) hn e.symm)
    have a3 := dist_sub (b := R.bits) (x := x) (n := n) (p := f) a1
    have a4 := (h2.2 f hfm).resolve_left fn
    omega
  obtain ⟨f0, m0, n0⟩ := fixed_two h x
  have k0 := key f0 m0 n0
  have r0 := dist_rng R.bits x f0
  have e := dist_add (b := R.bits) (x := x) (n := n) (c := c) (by omega)
  refine ⟨by rw [e]; have := h1.1; have := h2.1; omega, fun f hfm => ?_⟩
  by_cases c1 : f = x
  · exact .inl c1
  · right
    rw [e]
    exact key f hfm c1
/-- a name between two neighbours is a neighbour of both -/
theorem adj_left {R : RingS} {x z y : Int} (h : adj R x y) (h1 : 0 < dist R.bits x z) (h2 : dist R.bits x z ≤ dist R.bits x y) : adj R x z :=
  ⟨h1, fun f hf => (h.2 f hf).imp id fun e => by omega⟩
theorem adj_right {R : RingS} {x z y : Int} (h : adj R x y) (h1 : 0 < dist R.bits x z) (h2 : dist R.bits x z < dist R.bits x y) (hx : x ∈ R.fixed → dist R.bits z y ≤ dist R.bits z x) : adj R z y := by
  have e := dist_sub (b := R.bits) (x := x) (n := z) (p := y) (by omega)
  refine ⟨by omega, fun f hf => ?_⟩
  rcases h.2 f hf with c | c
  · right
    rw [c]
    exact hx (by rw [← c]; exact hf)
  · right
    rw [dist_sub (b := R.bits) (x := x) (n := z) (p := f) (by omega), e]
    omega
theorem adj_back {R : RingS} {x z y : Int} (hxy : x ≠ z) (h2 : dist R.bits x z < dist R.bits x y) (h1 : 0 < dist R.bits x z) : dist R.bits z y ≤ dist R.bits z x := by
  -- dist z x = 2^b - dist x z
  have r := dist_rng R.bits x y
  have e1 := dist_sub (b := R.bits) (x := x) (n := z) (p := y) (by omega)
  have e2 : dist R.bits z x = 2 ^ R.bits - dist R.bits x z := by
    have r1 := dist_rng R.bits x z
    have r2 := dist_rng R.bits z x
    by_cases c : dist R.bits x z + dist R.bits z x < 2 ^ R.bits
    · have z := dist_add c
      rw [dist_self] at z
      omega
    · unfold dist at *
      have s : ((z - x) % (2 : Int) ^ R.bits + (x - z) % 2 ^ R.bits) % 2 ^ R.bits = 0 := by
        rw [← Int.add_emod]
        have : z - x + (x - z) = 0 := by omega
        rw [this, Int.zero_emod]
      have s2 : ((z - x) % (2 : Int) ^ R.bits + (x - z) % 2 ^ R.bits - 2 ^ R.bits) % 2 ^ R.bits = 0 := by
        rw [Int.sub_emod_right]
        exact s
      rw [Int.emod_eq_of_lt (by omega) (by omega)] at s2
      omega
  rw [e1, e2]
  omega
theorem AdjL.take {R : RingS} : ∀ (l : List Int) (x : Int) (k : Nat), AdjL R x l → AdjL R x (l.take k)
  | [], _, k, _ => by rw [List.take_nil]; exact True.intro
  | y :: r, x, 0, _ => True.intro
  | y :: r, x, k + 1, h => ⟨h.1, AdjL.take r y k h.2⟩
/-- the first living one of a list of neighbours -/
theorem adj_first {R : RingS} (h : Ok R) : ∀ (l : List Int) (x g : Int), Pts R.bits l → AdjL R x l → firstOf l R.names = some g → adj R x g
  | [], x, g, _, _, e => by cases e
  | y :: r, x, g, hp, ha, e => by
    unfold firstOf at e
    rw [List.find?_cons] at e
    by_cases c : y ∈ R.names
    · rw [decide_eq_true c] at e
      rw [← Option.some.inj e]
      exact ha.1
    · rw [decide_eq_false c] at e
      have hy := hp y (List.mem_cons_self ..)
      exact adj_trans h hy ha.1 (adj_first h r y g (fun z hz => hp z (List.mem_cons_of_mem _ hz)) ha.2 e) fun z => c (h.fsub y z)
theorem adj_next {R : RingS} (h : Ok R) (s : Sound R) {n : Int} (hn : n ∈ R.names) : adj R n (nxtI R n) :=
  adj_first h _ n _ (h.cpts n hn) (s n hn).1 (nxt_some h hn).1
theorem prior_ne {R : RingS} (s : Sound R) {n : Int} (hn : n ∈ R.names) : ∀ p, priorM R n = some p → p ≠ n := fun p hp => by
  obtain ⟨e, _⟩ := memO_some hp
  exact adj_ne ((s n hn).2 p e)
end Nn
set_option Elab.async false
set_option linter.all false
set_option maxRecDepth 100000
set_option maxHeartbeats 1000000
namespace Nn
open PySem PySem.Spec PyProof.Rows L2 LamX KeyL
/-! ### what deeds keep -/
theorem adj_but {R R' : RingS} (hb : R'.bits = R.bits) (hf : R'.fixed = R.fixed) {x y : Int} (h : adj R x y) : adj R' x y := by
  unfold adj at *
  rw [hb, hf]
  exact h
theorem AdjL_but {R R' : RingS} (hb : R'.bits = R.bits) (hf : R'.fixed = R.fixed) : ∀ (l : List Int) (x : Int), AdjL R x l → AdjL R' x l
  | [], _, _ => True.intro
  | y :: r, x, h => ⟨adj_but hb hf h.1, AdjL_but hb hf r y h.2⟩
theorem sound_of {R R' : RingS} (s : Sound R) (hb : R'.bits = R.bits) (hf : R'.fixed = R.fixed) (hn : ∀ n ∈ R'.names, n ∈ R.names) (hc : ∀ n, (R'.node n).chain = (R.node n).chain ∧ (R'.node n).prior = (R.node n).prior) : Sound R' := fun n h => by
  obtain ⟨h1, h2⟩ := s n (hn n h)
  rw [(hc n).1, (hc n).2]
  exact ⟨AdjL_but hb hf _ _ h1, fun p hp => adj_but hb hf (h2 p hp)⟩
theorem sound_chain {R : RingS} (s : Sound R) {n : Int} {c : List Int} (h : AdjL R n c) : Sound (R.setChain n c) := fun m hm => by
  obtain ⟨h1, h2⟩ := s m hm
  show AdjL (R.setChain n c) m ((R.setChain n c).node m).chain ∧ ∀ p, ((R.setChain n c).node m).prior = some p → adj (R.setChain n c) p m
  have e : (R.setChain n c).node m = if m = n then withChain (R.node n) c else R.node m := rfl
  rw [e]
  by_cases q : m = n
  · rw [if_pos q, q]
    rw [q] at h2
    exact ⟨AdjL_but (R := R) (R' := R.setChain n c) rfl rfl _ _ h, fun p hp => adj_but (R := R) (R' := R.setChain n c) rfl rfl (h2 p hp)⟩
  · rw [if_neg q]
    exact ⟨AdjL_but (R := R) (R' := R.setChain n c) rfl rfl _ _ h1, fun p hp => adj_but (R := R) (R' := R.setChain n c) rfl rfl (h2 p hp)⟩
theorem sound_prior {R : RingS} (s : Sound R) {n : Int} {o : Option Int} (h : ∀ p, o = some p → adj R p n) : Sound (R.setPrior n o) := fun m hm => by
  obtain ⟨h1, h2⟩ := s m hm
  show AdjL (R.setPrior n o) m ((R.setPrior n o).node m).chain ∧ ∀ p, ((R.setPrior n o).node m).prior = some p → adj (R.setPrior n o) p m
  have e : (R.setPrior n o).node m = if m = n then withPrior (R.node n) o else R.node m := rfl
  rw [e]
  by_cases q : m = n
  · rw [if_pos q, q]
    rw [q] at h1
    exact ⟨AdjL_but (R := R) (R' := R.setPrior n o) rfl rfl _ _ h1, fun p hp => adj_but (R := R) (R' := R.setPrior n o) rfl rfl (h p hp)⟩
  · rw [if_neg q]
    exact ⟨AdjL_but (R := R) (R' := R.setPrior n o) rfl rfl _ _ h1, fun p hp => adj_but (R := R) (R' := R.setPrior n o) rfl rfl (h2 p hp)⟩
theorem adj_source {R : RingS} (h : Ok R) (s : Sound R) {n : Int} (hn : n ∈ R.names) : adj R n (sourceM R n) := by
  have a := adj_next h s hn
  unfold sourceM
  cases e : memO R (R.node (nxtI R n)).prior with
  | none => exact a
  | some p =>
    show adj R n (if btw R.bits p n (nxtI R n) = true then p else nxtI R n)
    by_cases c : btw R.bits p n (nxtI R n) = true
    · rw [if_pos c]
      obtain ⟨c1, c2⟩ := btw_iff.mp c
      have c3 := c2.resolve_left (adj_ne a)
      exact adj_left a c1 (by omega)
    · rw [if_neg c]; exact a
theorem AdjL.adopt {R : RingS} {n s : Int} {l : List Int} (h : adj R n s) (hl : AdjL R s l) : AdjL R n (s :: l.dropLast) :=
  ⟨h, by rw [List.dropLast_eq_take]; exact AdjL.take _ _ _ hl⟩
theorem sound_notified {R : RingS} (s : Sound R) {n t : Int} (h : adj R t n) : Sound (notifiedM R n t) := by
  unfold notifiedM
  have z := sound_prior s (n := n) (o := some t) fun p hp => by rw [← Option.some.inj hp]; exact h
  cases e : memO R (R.node n).prior with
  | none => exact z
  | some p =>
    show Sound (if btw R.bits t p n = true then R.setPrior n (some t) else R)
    by_cases c : btw R.bits t p n = true
    · rw [if_pos c]; exact z
    · rw [if_neg c]; exact s
theorem sound_steadied {R : RingS} (h : Ok R) (s : Sound R) {n : Int} (hn : n ∈ R.names) : Sound (steadiedM R n) := by
  have a := adj_source h s hn
  have hs := sourceM_mem h hn
  have s1 := sound_chain s (n := n) (c := sourceM R n :: (R.node (sourceM R n)).chain.dropLast) (AdjL.adopt a (s _ hs).1)
  exact sound_notified s1 (adj_but (R := R) rfl rfl a)
theorem okChain {R : RingS} (h : Ok R) {n : Int} (hn : n ∈ R.names) {c : List Int} (l : c.length = R.many) (p : Pts R.bits c) (m : ∃ m ∈ c, m ∈ R.names) : Ok (R.setChain n c) :=
  h.setN _ l p m (h.flen n hn) (h.fpts n hn) (h.ppts n hn) (h.keys n hn) (h.kept n hn)
theorem okPrior {R : RingS} (h : Ok R) {n : Int} (hn : n ∈ R.names) {p : Option Int} (hp : ∀ x, p = some x → 0 ≤ x ∧ x < 2 ^ R.bits) : Ok (R.setPrior n p) :=
  h.setN _ (h.clen n hn) (h.cpts n hn) (h.cmem n hn) (h.flen n hn) (h.fpts n hn) hp (h.keys n hn) (h.kept n hn)
theorem okNotified {R : RingS} (h : Ok R) {n t : Int} (hn : n ∈ R.names) (ht : t ∈ R.names) : Ok (notifiedM R n t) := by
  unfold notifiedM
  have z := okPrior h hn (p := some t) fun x hx => by rw [← Option.some.inj hx]; exact h.pts t ht
  cases e : memO R (R.node n).prior with
  | none => exact z
  | some p =>
    show Ok (if btw R.bits t p n = true then R.setPrior n (some t) else R)
    by_cases c : btw R.bits t p n = true
    · rw [if_pos c]; exact z
    · rw [if_neg c]; exact h
theorem okSteadied {R : RingS} (h : Ok R) {n : Int} (hn : n ∈ R.names) : Ok (steadiedM R n) := by
  have hs := sourceM_mem h hn
  have cl := h.clen _ hs
  have hm := h.many
  have z := okChain h hn (c := sourceM R n :: (R.node (sourceM R n)).chain.dropLast) (by rw [List.length_cons, List.length_dropLast, cl]; omega)
    (fun m hmm => by
      rcases List.mem_cons.mp hmm with e | e
      · rw [e]; exact h.pts _ hs
      · exact h.cpts _ hs m ((List.dropLast_sublist _).subset e)) ⟨_, List.mem_cons_self .., hs⟩
  exact okNotified z hs hn
theorem all_steadied {R : RingS} : ∀ (ns : List Int) {R : RingS}, Ok R → Sound R → (∀ n ∈ ns, n ∈ R.names) → Ok (allM steadiedM R ns) ∧ Sound (allM steadiedM R ns)
  | [], _, h, s, _ => ⟨h, s⟩
  | n :: ns, R, h, s, hn => by
    have hn0 := hn n (List.mem_cons_self ..)
    exact all_steadied (R := R) ns (okSteadied h hn0) (sound_steadied h s hn0) fun m hm => by
      rw [(steadiedM_but R n).1]; exact hn m (List.mem_cons_of_mem _ hm)
theorem refFrom_cp (n : Int) : ∀ (ks : List Nat) (R : RingS) (m : Int), ((refFrom R n ks).node m).chain = (R.node m).chain ∧ ((refFrom R n ks).node m).prior = (R.node m).prior
  | [], _, _ => ⟨rfl, rfl⟩
  | k :: ks, R, m => by
    have z := refFrom_cp n ks (refStep n R k) m
    have e : ((refStep n R k).node m).chain = (R.node m).chain ∧ ((refStep n R k).node m).prior = (R.node m).prior := by
      have e0 : (refStep n R k).node m = if m = n then withFar (R.node n) ((R.node n).far.set k (some (ansM R (farPt R.bits n k) n))) else R.node m := rfl
      rw [e0]
      by_cases q : m = n
      · rw [if_pos q, q]; exact ⟨rfl, rfl⟩
      · rw [if_neg q]; exact ⟨rfl, rfl⟩
    exact ⟨z.1.trans e.1, z.2.trans e.2⟩
theorem settledFrom_parts (n : Int) : ∀ (ts : List Thing) (R : RingS), SameP R (settledFrom R n ts)
  | [], R => SameP.refl R
  | t :: ts, R => by
    refine SameP.trans ?_ (settledFrom_parts n ts _)
    show SameP R (settleStep n R t)
    unfold settleStep
    by_cases c : n ∈ holdersM R t.1 n
    · rw [if_pos c]; exact offersM_parts _ _ _ _ R
    · rw [if_neg c]; exact (offersM_parts _ _ _ _ R).trans (setThings_parts _ _ _)
theorem sound_but {R R' : RingS} (s : Sound R) (b : SameBut R R') (p : ∀ n, (R'.node n).chain = (R.node n).chain ∧ (R'.node n).prior = (R.node n).prior) : Sound R' :=
  sound_of s b.2.1 b.2.2.2.1 (fun n hn => by rw [← b.1]; exact hn) p
theorem sound_refing {R : RingS} (s : Sound R) (n : Int) : Sound (refingM R n) := sound_but s (refingM_but R n) fun m => refFrom_cp n _ R m
theorem sound_settled {R : RingS} (s : Sound R) (n : Int) : Sound (settledM R n) := sound_but s (settledM_but R n) fun m => ⟨(settledFrom_parts n _ R m).1, (settledFrom_parts n _ R m).2.1⟩
theorem sound_note {R : RingS} (s : Sound R) (d : Deed) : Sound (R.note d) := sound_of s rfl rfl (fun _ h => h) fun _ => ⟨rfl, rfl⟩
theorem all_sound {f : RingS → Int → RingS} (hf : ∀ R n, Sound R → Sound (f R n)) : ∀ (ns : List Int) (R : RingS), Sound R → Sound (allM f R ns)
  | [], _, s => s
  | n :: ns, R, s => all_sound hf ns _ (hf R n s)
theorem sound_mend {R : RingS} (h : Ok R) (s : Sound R) {ns : List Int} (hn : ∀ n ∈ ns, n ∈ R.names) : Sound (mendM R ns) := by
  have z := (all_steadied (R := R) ns h s hn).2
  exact sound_note (all_sound (fun R n s => sound_settled s n) ns _ (all_sound (fun R n s => sound_refing s n) ns _ z)) _
theorem sound_stab {R : RingS} (h : Ok R) (s : Sound R) {n : Int} (hn : n ∈ R.names) : Sound (stabM R n) := sound_note (sound_steadied h s hn) _
theorem sound_fix {R : RingS} (s : Sound R) (n : Int) : Sound (fixM R n) := sound_note (sound_refing s n) _
theorem sound_settle {R : RingS} (s : Sound R) (n : Int) : Sound (settleM R n) := sound_note (sound_settled s n) _
theorem sound_handIn {R : RingS} (s : Sound R) (p : Int) (x : Option Str) (via : Int) : Sound (handInM R p x via) := by
  have e := handInM_same R p x via
  have q := offersM_parts p (R.puts.length + 1 : Nat) x (holdersM R p via) (R.stamp (p, x))
  exact sound_of s e.2.1 e.2.2.1 (fun n hn => by rw [e.1] at hn; exact hn) fun n => ⟨(q n).1, (q n).2.1⟩
theorem sound_put {R : RingS} (s : Sound R) (p : Int) (x : Str) (via : Int) : Sound (putM R p x via) := sound_note (sound_handIn s p (some x) via) _
theorem sound_forget {R : RingS} (s : Sound R) (p via : Int) : Sound (forgetM R p via) := sound_note (sound_handIn s p none via) _
theorem sound_vanish {R : RingS} (s : Sound R) (n : Int) : Sound (R.vanish n) := sound_of s rfl rfl (fun m hm => (List.mem_filter.mp hm).1) fun _ => ⟨rfl, rfl⟩
theorem sound_crash {R : RingS} (s : Sound R) (n : Int) : Sound (crashM R n) := sound_note (sound_vanish s n) _
end Nn
set_option Elab.async false
set_option linter.all false
set_option maxRecDepth 100000
set_option maxHeartbeats 1000000
namespace Nn
open PySem PySem.Spec PyProof.Rows L2 LamX KeyL
/-! ### joins, leaves, new rings -/
theorem lookF_adj {R : RingS} (h : Ok R) (s : Sound R) {p : Int} (hp : 0 ≤ p ∧ p < 2 ^ R.bits) (hn : p ∉ R.names) : ∀ (k : Nat) (tr : List Int), Way R p tr → tr.length + k = 200 → adj R p (lookF R p k tr).2
  | 0, tr, w, hl => by have := w.len h; omega
  | k + 1, tr, w, hl => by
    have hh := w.mem _ (lastI_mem w.ne)
    obtain ⟨_, x2, _⟩ := nxt_some h hh
    have a := adj_next h s hh
    rcases stepM_cases h hp hh with ⟨g, e, hg⟩ | ⟨n, e, h1, h2, h3⟩
    · rw [lookF_some (g := g) (by rw [e])]
      show adj R p g
      have c1 : ¬ lastI tr = p := fun z => hn (by rw [← z]; exact hh)
      unfold stepM at e
      rw [if_neg c1] at e
      by_cases c2 : p = nxtI R (lastI tr) ∨ btw R.bits p (lastI tr) (nxtI R (lastI tr)) = true
      · rw [if_pos c2] at e
        have eg : nxtI R (lastI tr) = g := Option.some.inj (congrArg Prod.snd e)
        rw [← eg]
        rcases c2 with z | z
        · exact absurd (by rw [z]; exact x2) hn
        · obtain ⟨b1, b2⟩ := btw_iff.mp z
          have b3 := b2.resolve_left (adj_ne a)
          exact adj_right a b1 b3 fun _ => adj_back c1 b3 b1
      · rw [if_neg c2] at e
        have z := congrArg Prod.snd e
        cases z
    · rw [lookF_none (by rw [e]), e]
      exact lookF_adj h s hp hn k _ (w.snoc h1 h2 h3) (by show (tr ++ [n]).length + k = 200; rw [List.length_append, List.length_singleton]; omega)
theorem sound_join {R : RingS} (h : Ok R) (s : Sound R) {n via : Int} (hp : 0 ≤ n ∧ n < 2 ^ R.bits) (hn : n ∉ R.names) (hv : via ∈ R.names) : Sound (joinM R n via) := by
  refine sound_note ?_ _
  have a : adj R n (ansM R n via) := lookF_adj h s hp hn 199 [via] (Way.one hv) rfl
  have hm := (lookM_way h hp hv).2
  intro m hmm
  have e : (R.enter n (joinChain R n via)).node m = if m = n then newNode R.bits (joinChain R n via) else R.node m := rfl
  rw [e]
  by_cases q : m = n
  · rw [if_pos q, q]
    exact ⟨AdjL_but (R := R) (R' := R.enter n (joinChain R n via)) rfl rfl _ _ (AdjL.adopt a (s _ hm).1), fun p z => nomatch z⟩
  · rw [if_neg q]
    have hmr : m ∈ R.names := by
      rcases List.mem_append.mp (show m ∈ R.names ++ [n] from hmm) with z | z
      · exact z
      · exact absurd (List.mem_singleton.mp z) q
    obtain ⟨h1, h2⟩ := s m hmr
    exact ⟨AdjL_but (R := R) (R' := R.enter n (joinChain R n via)) rfl rfl _ _ h1, fun p z => adj_but (R := R) (R' := R.enter n (joinChain R n via)) rfl rfl (h2 p z)⟩
theorem AdjL.over {R : RingS} (h : Ok R) {x n : Int} {ms : List Int} (hn : 0 ≤ n ∧ n < 2 ^ R.bits) (hf : n ∉ R.fixed) (a : adj R x n) (hm : AdjL R n ms) : AdjL R x ms := by
  cases ms with
  | nil => exact True.intro
  | cons c r => exact ⟨adj_trans h hn a hm.1 hf, hm.2⟩
theorem AdjL.splice {R : RingS} (h : Ok R) {n : Int} {ms : List Int} (hn : 0 ≤ n ∧ n < 2 ^ R.bits) (hf : n ∉ R.fixed) (hm : AdjL R n ms) : ∀ (l : List Int) (x : Int), AdjL R x l → n ∈ l → AdjL R x (l.take (l.idxOf n) ++ ms)
  | [], _, _, z => nomatch z
  | y :: r, x, ha, z => by
    rw [List.idxOf_cons]
    by_cases c : y = n
    · have e : (y == n) = true := beq_iff_eq.mpr c
      rw [e]
      show AdjL R x ms
      have a := ha.1
      rw [c] at a
      exact AdjL.over h hn hf a hm
    · have e : (y == n) = false := beq_eq_false_iff_ne.mpr c
      rw [e]
      show AdjL R x (y :: (r.take (r.idxOf n) ++ ms))
      exact ⟨ha.1, AdjL.splice h hn hf hm r y ha.2 ((List.mem_cons.mp z).resolve_left (Ne.symm c))⟩
theorem sound_leave {R : RingS} (h : Ok R) (s : Sound R) {n : Int} (hn : n ∈ R.names) (hf : n ∉ R.fixed) : Sound (leaveM R n) := by
  refine sound_note (sound_vanish ?_ n) _
  have hp := h.pts n hn
  have s1 : Sound (handOnM R n (nxtI R n)) := sound_but s (handFrom_but ..) fun m => ⟨(handFrom_parts (handSome R n (nxtI R n)) (keptM R n) R m).1, (handFrom_parts (handSome R n (nxtI R n)) (keptM R n) R m).2.1⟩
  have b1 := handFrom_but (handSome R n (nxtI R n)) (keptM R n) R
  have s2 : Sound (leave2 R n) := by
    unfold leave2
    cases e : priorM R n with
    | none => exact s1
    | some p =>
      show Sound ((handOnM R n (nxtI R n)).setChain p (leaveC R n p))
      have hpm : p ∈ R.names := (memO_some e).2
      have elp : leaveC R n p = spliceM (R.node p).chain n (R.node n).chain := by unfold leaveC; rw [e, if_pos rfl]
      refine sound_chain s1 (AdjL_but (R := R) b1.2.1 b1.2.2.2.1 _ _ ?_)
      rw [elp]
      unfold spliceM
      by_cases c : n ∈ (R.node p).chain
      · rw [if_pos c]
        exact AdjL.take _ _ _ (AdjL.splice h hp hf (s n hn).1 _ _ (s p hpm).1 c)
      · rw [if_neg c]
        exact (s p hpm).1
  unfold leave3
  by_cases c : ((leave2 R n).node (nxtI R n)).prior = some n
  · rw [if_pos c]
    have b2 := leave2_but R n
    refine sound_prior s2 fun p hpp => adj_but (R := R) b2.2.1 b2.2.2.2.1 ?_
    obtain ⟨e1, _⟩ := memO_some hpp
    exact adj_trans h hp ((s n hn).2 p e1) (adj_next h s hn) hf
  · rw [if_neg c]
    exact s2
theorem dist_opp {b : Nat} {x z : Int} (h : 0 < dist b x z) : dist b z x = 2 ^ b - dist b x z := by
  have r1 := dist_rng b x z
  have r2 := dist_rng b z x
  by_cases c : dist b x z + dist b z x < 2 ^ b
  · have y := dist_add c
    rw [dist_self] at y
    omega
  · unfold dist at *
    have s : ((z - x) % (2 : Int) ^ b + (x - z) % 2 ^ b) % 2 ^ b = 0 := by
      rw [← Int.add_emod]
      have : z - x + (x - z) = 0 := by omega
      rw [this, Int.zero_emod]
    have s2 : ((z - x) % (2 : Int) ^ b + (x - z) % 2 ^ b - 2 ^ b) % 2 ^ b = 0 := by
      rw [Int.sub_emod_right]
      exact s
    rw [Int.emod_eq_of_lt (by omega) (by omega)] at s2
    omega
/-- base names in their order upwards from n are neighbours -/
theorem AdjL.sorted {R : RingS} {n : Int} (fp : ∀ f ∈ R.fixed, 0 ≤ f ∧ f < 2 ^ R.bits) : ∀ (l : List Int) (x : Int), (0 ≤ x ∧ x < 2 ^ R.bits) → (∀ y ∈ l, dist R.bits n x < dist R.bits n y) → l.Pairwise (fun y z => dist R.bits n y < dist R.bits n z) → (∀ f ∈ R.fixed, f ∈ l ∨ dist R.bits n f ≤ dist R.bits n x) → (∀ y ∈ l, 0 ≤ y ∧ y < 2 ^ R.bits) → AdjL R x l
  | [], _, _, _, _, _, _ => True.intro
  | y :: r, x, hx, h1, h2, h3, h4 => by
    have hxy := h1 y (List.mem_cons_self ..)
    have e := dist_sub (b := R.bits) (x := n) (n := x) (p := y) (by omega)
    have ry := dist_rng R.bits n y
    have rx := dist_rng R.bits n x
    obtain ⟨p1, p2⟩ := List.pairwise_cons.mp h2
    refine ⟨⟨by omega, fun f hf => ?_⟩, AdjL.sorted fp r y (h4 y (List.mem_cons_self ..)) p1 p2 (fun f hf => ?_) fun z hz => h4 z (List.mem_cons_of_mem _ hz)⟩
    · rcases h3 f hf with c | c
      · right
        have hy : dist R.bits n y ≤ dist R.bits n f := by
          rcases List.mem_cons.mp c with z | z
          · rw [z]; exact Int.le_refl _
          · exact Int.le_of_lt (p1 f z)
        rw [dist_sub (b := R.bits) (x := n) (n := x) (p := f) (by omega), e]
        omega
      · by_cases ef : f = x
        · exact .inl ef
        · right
          have ne : dist R.bits n f ≠ dist R.bits n x := fun z => ef (dist_inj (fp f hf) hx z)
          have e2 := dist_sub (b := R.bits) (x := n) (n := f) (p := x) c
          have rf := dist_rng R.bits n f
          have o := dist_opp (b := R.bits) (x := f) (z := x) (by omega)
          rw [o, e2, e]
          omega
    · rcases h3 f hf with c | c
      · rcases List.mem_cons.mp c with z | z
        · right; rw [z]; exact Int.le_refl _
        · exact .inl z
      · right; omega
theorem sound_init {b m : Nat} {ns : List Int} (hb : 3 ≤ b ∧ b ≤ 32) (hm : 1 ≤ m ∧ m ≤ 4) (hmn : m < ns.length) (h8 : ns.length ≤ 8) (hp : Pts b ns) (hn : ns.Nodup) : Sound (initM b m ns) := by
  have hnd : (sortedM ns).Nodup := (sortedM_perm ns).nodup_iff.mpr hn
  have hps : Pts b (sortedM ns) := fun n h => hp n ((sortedM_perm ns).mem_iff.mp h)
  have hls : (sortedM ns).length = ns.length := (sortedM_perm ns).length_eq
  have hne : sortedM ns ≠ [] := fun e => by rw [e] at hls; simp at hls; omega
  have ok := initM_ok hb hm hmn h8 hp hn
  intro n hnm
  have hnm' : n ∈ sortedM ns := hnm
  have hnp := hps n hnm'
  have om : ∀ y, y ∈ othersM b (sortedM ns) n ↔ y ∈ sortedM ns ∧ y ≠ n := fun y => by
    unfold othersM
    rw [List.mem_filter, (upw_perm b (sortedM ns) n).mem_iff, decide_eq_true_eq]
  refine ⟨?_, fun p hpp => ?_⟩
  · show AdjL (initM b m ns) n ((othersM b (sortedM ns) n).take m)
    refine AdjL.take _ _ _ (AdjL.sorted (R := initM b m ns) (n := n) (fun f hf => hps f hf) _ n hnp (fun y hy => ?_) ?_ (fun f hf => ?_) fun y hy => hps y ((om y).mp hy).1)
    · obtain ⟨y1, y2⟩ := (om y).mp hy
      show dist b n n < dist b n y
      rw [dist_self]
      exact dist_pos hnp (hps y y1) (Ne.symm y2)
    · have u1 := upw_sorted b (sortedM ns) n
      have u2 : (upw b (sortedM ns) n).Nodup := (upw_perm b (sortedM ns) n).nodup_iff.mpr hnd
      have u3 : (upw b (sortedM ns) n).Pairwise fun x y => dist b n x < dist b n y := by
        refine List.Pairwise.imp_of_mem (fun {x y} hx hy h => ?_) (u1.and u2)
        have x1 := hps x ((upw_perm b (sortedM ns) n).mem_iff.mp hx)
        have y1 := hps y ((upw_perm b (sortedM ns) n).mem_iff.mp hy)
        have : dist b n x ≠ dist b n y := fun e => h.2 (dist_inj x1 y1 e)
        have := h.1
        omega
      exact u3.filter _
    · by_cases c : f = n
      · right; rw [c]; exact Int.le_refl _
      · exact .inl ((om f).mpr ⟨hf, c⟩)
  · have ep : preceding b (sortedM ns) n = p := Option.some.inj hpp
    have hpm : p ∈ sortedM ns := by rw [← ep]; exact argMin_mem _ hne
    have hle : ∀ f ∈ sortedM ns, dist b p (n - 1) ≤ dist b f (n - 1) := fun f hf => by
      rw [← ep]
      exact argMin_le (fun one => dist b one (n - 1)) hf
    have rn : ∀ x : Int, dist b x n = 0 ∨ dist b x n = dist b x (n - 1) + 1 := fun x => by
      have r := dist_rng b x (n - 1)
      by_cases c : dist b x (n - 1) + 1 < 2 ^ b
      · right
        unfold dist at *
        have e : (n - x) % (2 : Int) ^ b = ((n - 1 - x) % 2 ^ b + 1) % 2 ^ b := by
          rw [Int.emod_add_emod]
          congr 1
          omega
        rw [e, Int.emod_eq_of_lt (by omega) c]
      · left
        unfold dist at *
        have e : (n - x) % (2 : Int) ^ b = ((n - 1 - x) % 2 ^ b + 1) % 2 ^ b := by
          rw [Int.emod_add_emod]
          congr 1
          omega
        have e2 : (n - 1 - x) % (2 : Int) ^ b + 1 = 2 ^ b := by omega
        rw [e, e2, Int.emod_self]
    have dn : ∀ x, x ∈ sortedM ns → x ≠ n → dist b x n = dist b x (n - 1) + 1 := fun x hx hxn => by
      have := dist_pos (hps x hx) hnp hxn
      rcases rn x with z | z
      · omega
      · exact z
    obtain ⟨f0, m0, n0⟩ := fixed_two ok n
    have pn : p ≠ n := fun e => by
      have h1 := hle f0 m0
      have h2 := dn f0 m0 n0
      have h3 : dist b p (n - 1) = 2 ^ b - 1 := by
        rw [e]
        have r := dist_rng b n (n - 1)
        unfold dist at *
        have e1 : n - 1 - n = -1 := by omega
        rw [e1] at r ⊢
        have e2 : ((-1 : Int)) % 2 ^ b = (-1 + 2 ^ b) % 2 ^ b := by rw [Int.add_emod_right]
        have hpw := two_pos b
        rw [e2, Int.emod_eq_of_lt (by omega) (by omega)]
        omega
      have h4 := dist_rng b f0 n
      omega
    have e0 := dn p hpm pn
    refine ⟨dist_pos (hps p hpm) hnp pn, fun f hf => ?_⟩
    by_cases c : f = p
    · exact .inl c
    · right
      show dist b p n ≤ dist b p f
      rcases Int.lt_or_le (dist b p f) (dist b p n) with z | z
      · exfalso
        have fn : f ≠ n := fun e => by rw [e] at z; omega
        have e1 := dist_sub (b := b) (x := p) (n := f) (p := n) (by omega)
        have e2 := dn f hf fn
        have e3 := hle f hf
        have e4 := dist_pos (hps p hpm) (hps f hf) (Ne.symm c)
        omega
      · exact z
end Nn
set_option Elab.async false
set_option linter.all false
set_option maxRecDepth 100000
set_option maxHeartbeats 1000000
namespace Nn
open PySem PySem.Spec PyProof.Rows L2 LamX KeyL
/-! ### the newest item of each point is kept by a member -/
theorem getT_offer_ne {ts : List Thing} {p s q : Int} {x : Option Str} (h : q ≠ p) : getT (offerT ts p s x) q = getT ts q := by
  unfold offerT
  cases e : getT ts p with
  | none =>
    show (ts ++ [(p, s, x)]).find? _ = ts.find? _
    rw [List.find?_append]
    have z : [((p, s, x) : Thing)].find? (fun t => decide (t.1 = q)) = none := by
      rw [List.find?_cons, decide_eq_false (by exact fun c => h c.symm)]
      rfl
    rw [z, Option.or_none]
  | some o =>
    show (if o.2.1 < s then ts.map fun t => if t.1 = p then (p, s, x) else t else ts).find? (fun t => decide (t.1 = q)) = ts.find? fun t => decide (t.1 = q)
    by_cases c : o.2.1 < s
    · rw [if_pos c]
      clear e
      induction ts with
      | nil => rfl
      | cons t ts ih =>
        rw [List.map_cons, List.find?_cons, List.find?_cons, ih]
        by_cases d : t.1 = p
        · rw [if_pos d, decide_eq_false (show ¬ ((p, s, x) : Thing).1 = q from fun c => h c.symm), decide_eq_false (show ¬ t.1 = q from fun c => h (c.symm.trans d))]
        · rw [if_neg d]
          all_goals (by_cases f : t.1 = q <;> simp only [f, decide_true, decide_false])
    · rw [if_neg c]
theorem getT_offer_same {ts : List Thing} {p s : Int} {x : Option Str} : getT (offerT ts p s x) p = match getT ts p with
    | none => some (p, s, x)
    | some o => if o.2.1 < s then some (p, s, x) else some o := by
  unfold offerT
  cases e : getT ts p with
  | none =>
    show (ts ++ [(p, s, x)]).find? _ = _
    rw [List.find?_append]
    have e' : ts.find? (fun t => decide (t.1 = p)) = none := e
    rw [e', Option.none_or, List.find?_cons, decide_eq_true rfl]
  | some o =>
    show getT (if o.2.1 < s then ts.map fun t => if t.1 = p then (p, s, x) else t else ts) p = if o.2.1 < s then some (p, s, x) else some o
    by_cases c : o.2.1 < s
    · rw [if_pos c, if_pos c]
      obtain ⟨h1, h2⟩ := getT_mem e
      clear e
      unfold getT
      induction ts with
      | nil => cases h1
      | cons t ts ih =>
        rw [List.map_cons, List.find?_cons]
        by_cases d : t.1 = p
        · rw [if_pos d, decide_eq_true rfl]
        · rw [if_neg d, decide_eq_false d]
          rcases List.mem_cons.mp h1 with f | f
          · exact absurd (by rw [← f]; exact h2) d
          · exact ih f
    · rw [if_neg c, if_neg c]
      exact e
theorem getT_drop {ts : List Thing} {p q : Int} : getT (dropT ts p) q = if q = p then none else getT ts q := by
  unfold getT dropT
  induction ts with
  | nil => by_cases c : q = p <;> simp [c]
  | cons t ts ih =>
    rw [List.filter_cons]
    by_cases d : t.1 = p
    · rw [decide_eq_false (by simpa using d), if_neg (by simp), ih]
      by_cases c : q = p
      · rw [if_pos c, if_pos c]
      · rw [if_neg c, if_neg c, List.find?_cons, decide_eq_false (fun f => c (f.symm.trans d))]
    · rw [decide_eq_true d, if_pos rfl, List.find?_cons, List.find?_cons, ih]
      by_cases f : t.1 = q
      · rw [decide_eq_true f]
        show some t = if q = p then none else some t
        rw [if_neg (fun c => d (f.trans c))]
      · rw [decide_eq_false f]
theorem getT_of {ts : List Thing} (hk : (ts.map (·.1)).Nodup) {t : Thing} (ht : t ∈ ts) : getT ts t.1 = some t := by
  unfold getT
  induction ts with
  | nil => cases ht
  | cons u ts ih =>
    rw [List.map_cons] at hk
    obtain ⟨h1, h2⟩ := List.nodup_cons.mp hk
    rw [List.find?_cons]
    rcases List.mem_cons.mp ht with e | e
    · rw [e, decide_eq_true rfl]
    · have c : u.1 ≠ t.1 := fun c => h1 (by rw [c]; exact List.mem_map.mpr ⟨t, e, rfl⟩)
      rw [decide_eq_false c]
      exact ih h2 e
theorem dropT_keys {ts : List Thing} {p : Int} (hk : (ts.map (·.1)).Nodup) : ((dropT ts p).map (·.1)).Nodup :=
  ((List.filter_sublist (l := ts)).map _).nodup hk
/-- an item that was put -/
def Valid (R : RingS) (t : Thing) : Prop := 1 ≤ t.2.1 ∧ R.puts[t.2.1.toNat - 1]? = some (t.1, t.2.2) ∧ 0 ≤ t.1 ∧ t.1 < 2 ^ R.bits
def IsNew (R : RingS) (t : Thing) : Prop := (1 ≤ t.2.1 ∧ R.puts[t.2.1.toNat - 1]? = some (t.1, t.2.2)) ∧ ∀ (j : Nat) (y : Option Str), t.2.1.toNat ≤ j → R.puts[j]? ≠ some (t.1, y)
def itm (R : RingS) (n p : Int) : Option Thing := getT (R.node n).things p
def Held (R : RingS) : Prop := ∀ t, IsNew R t → ∃ n ∈ R.names, itm R n t.1 = some t
/-- what is kept was put, each point once -/
structure Kp (R : RingS) : Prop where
  val : ∀ n ∈ R.names, ∀ t ∈ (R.node n).things, Valid R t
  keys : ∀ n ∈ R.names, ((R.node n).things.map (·.1)).Nodup
theorem Ok.kp {R : RingS} (h : Ok R) : Kp R := ⟨h.kept, h.keys⟩
theorem Kp.itm {R : RingS} (k : Kp R) {n : Int} (hn : n ∈ R.names) {p : Int} {t : Thing} (h : itm R n p = some t) : Valid R t ∧ t.1 = p := by
  obtain ⟨h1, h2⟩ := getT_mem h
  exact ⟨k.val n hn t h1, h2⟩
theorem IsNew.top {R : RingS} {t u : Thing} (h : IsNew R t) (v : Valid R u) (e : u.1 = t.1) : u.2.1 ≤ t.2.1 ∧ (u.2.1 = t.2.1 → u = t) := by
  obtain ⟨⟨h1, h2⟩, h3⟩ := h
  obtain ⟨v1, v2, _⟩ := v
  refine ⟨?_, fun c => ?_⟩
  · by_cases c : u.2.1 ≤ t.2.1
    · exact c
    · exact absurd (by rw [v2, e]) (h3 (u.2.1.toNat - 1) u.2.2 (by omega))
  · rw [c, h2, e] at v2
    have z := congrArg Prod.snd (Option.some.inj v2)
    obtain ⟨a, b, d⟩ := t
    obtain ⟨a', b', d'⟩ := u
    simp only at e c z
    rw [e, c, z]
theorem IsNew.but {R R' : RingS} (e : R'.puts = R.puts) {t : Thing} (h : IsNew R' t) : IsNew R t := by
  unfold IsNew at h ⊢
  rw [e] at h
  exact h
theorem Valid.but {R R' : RingS} (e : R'.puts = R.puts) (b : R'.bits = R.bits) {t : Thing} (h : Valid R t) : Valid R' t := by
  unfold Valid at h ⊢
  rw [e, b]
  exact h
theorem held_same {R R' : RingS} (h : Held R) (e : R'.puts = R.puts) (hn : ∀ n ∈ R.names, n ∈ R'.names ∧ (R'.node n).things = (R.node n).things) : Held R' := fun t ht => by
  obtain ⟨n, h1, h2⟩ := h t (ht.but e)
  obtain ⟨k1, k2⟩ := hn n h1
  exact ⟨n, k1, by unfold itm; rw [k2]; exact h2⟩
/-! offers -/
theorem itm_offer {R : RingS} {m p s : Int} {x : Option Str} {n q : Int} : itm (R.offer m p s x) n q = if n = m then getT (offerT (R.node n).things p s x) q else itm R n q := by
  unfold itm RingS.offer
  rw [setThings_node]
  by_cases c : n = m
  · rw [if_pos c, if_pos c, c]
  · rw [if_neg c, if_neg c]
theorem offer_other {R : RingS} {m p s : Int} {x : Option Str} {n q : Int} (h : q ≠ p) : itm (R.offer m p s x) n q = itm R n q := by
  rw [itm_offer]
  by_cases c : n = m
  · rw [if_pos c, getT_offer_ne h]; rfl
  · rw [if_neg c]
theorem offer_keeps {R : RingS} {m p s : Int} {x : Option Str} {n : Int} {t : Thing} (v : Valid R (p, s, x)) (hw : IsNew R t) (h : itm R n t.1 = some t) : itm (R.offer m p s x) n t.1 = some t := by
  by_cases c : t.1 = p
  · rw [itm_offer]
    by_cases d : n = m
    · rw [if_pos d]
      have h' : getT (R.node n).things t.1 = some t := h
      rw [c] at h' ⊢
      rw [getT_offer_same, h']
      have z := (hw.top v c.symm).1
      show (if t.2.1 < s then some (p, s, x) else some t) = some t
      rw [if_neg (by have : s ≤ t.2.1 := z; omega)]
    · rw [if_neg d]; exact h
  · rw [offer_other c]; exact h
theorem offer_gives {R : RingS} {m p s : Int} {x : Option Str} (k : Kp R) (hm : m ∈ R.names) (hw : IsNew R (p, s, x)) : itm (R.offer m p s x) m p = some (p, s, x) := by
  rw [itm_offer, if_pos rfl, getT_offer_same]
  cases e : getT (R.node m).things p with
  | none => rfl
  | some o =>
    show (if o.2.1 < s then some (p, s, x) else some o) = _
    obtain ⟨v, ho⟩ := k.itm hm (p := p) e
    obtain ⟨t1, t2⟩ := hw.top v ho
    by_cases c : o.2.1 < s
    · rw [if_pos c]
    · rw [if_neg c, t2 (by have : o.2.1 ≤ s := t1; show o.2.1 = s; omega)]
theorem offer_kp {R : RingS} {m p s : Int} {x : Option Str} (v : Valid R (p, s, x)) (k : Kp R) : Kp (R.offer m p s x) := by
  refine ⟨fun n hn t ht => ?_, fun n hn => ?_⟩
  · have e : ((R.offer m p s x).node n).things = if n = m then offerT (R.node m).things p s x else (R.node n).things := setThings_node ..
    rw [e] at ht
    have hn' : n ∈ R.names := hn
    by_cases c : n = m
    · rw [if_pos c] at ht
      have key : t = (p, s, x) ∨ t ∈ (R.node m).things := by
        unfold offerT at ht
        cases q : getT (R.node m).things p with
        | none =>
          rw [q] at ht
          rcases List.mem_append.mp ht with z | z
          · exact .inr z
          · exact .inl (by simpa using z)
        | some o =>
          rw [q] at ht
          have ht' : t ∈ (if o.2.1 < s then (R.node m).things.map fun t => if t.1 = p then (p, s, x) else t else (R.node m).things) := ht
          by_cases d : o.2.1 < s
          · rw [if_pos d] at ht'
            obtain ⟨u, h1, h2⟩ := List.mem_map.mp ht'
            by_cases f : u.1 = p
            · rw [if_pos f] at h2; exact .inl h2.symm
            · rw [if_neg f] at h2; exact .inr (by rw [← h2]; exact h1)
          · rw [if_neg d] at ht'; exact .inr ht'
      rcases key with z | z
      · rw [z]; exact v
      · exact k.val m (c ▸ hn') t z
    · rw [if_neg c] at ht
      exact k.val n hn' t ht
  · have e : ((R.offer m p s x).node n).things = if n = m then offerT (R.node m).things p s x else (R.node n).things := setThings_node ..
    rw [e]
    have hn' : n ∈ R.names := hn
    by_cases c : n = m
    · rw [if_pos c]
      exact offerT_keys (k.keys m (c ▸ hn')) _ _ _
    · rw [if_neg c]
      exact k.keys n hn'
theorem offers_all {p s : Int} {x : Option Str} : ∀ (ns : List Int) (R : RingS), Valid R (p, s, x) → Kp R → Kp (offersM R ns p s x) ∧ (∀ n q, q ≠ p → itm (offersM R ns p s x) n q = itm R n q) ∧ (∀ n t, IsNew R t → itm R n t.1 = some t → itm (offersM R ns p s x) n t.1 = some t) ∧
    ∀ n ∈ ns, n ∈ R.names → IsNew R (p, s, x) → itm (offersM R ns p s x) n p = some (p, s, x)
  | [], R, _, k => ⟨k, fun _ _ _ => rfl, fun _ _ _ h => h, fun _ h => absurd h (by simp)⟩
  | m :: ns, R, v, k => by
    obtain ⟨h1, h2, h3, h4⟩ := offers_all ns (R.offer m p s x) v (offer_kp v k)
    refine ⟨h1, fun n q hq => (h2 n q hq).trans (offer_other hq), fun n t hw h => h3 n t hw (offer_keeps v hw h), fun n hn hm hw => ?_⟩
    rcases List.mem_cons.mp hn with e | e
    · rw [e] at hm ⊢
      exact h3 m (p, s, x) hw (offer_gives k hm hw)
    · exact h4 n e hm hw
/-! lookups do not see what is kept -/
theorem stepM_parts {R R' : RingS} (b : SameBut R R') (q : SameP R R') (p : Int) (tr : List Int) : stepM R' p tr = stepM R p tr := by
  have hx : ∀ m, nxtI R' m = nxtI R m := fun m => by
    unfold nxtI nxt
    rw [b.1, (q m).1]
  have hm : ∀ o, memO R' o = memO R o := fun o => by
    cases o with
    | none => rfl
    | some y =>
      show (if y ∈ R'.names then some y else none) = if y ∈ R.names then some y else none
      rw [b.1]
  have hk : ∀ n, knownM R' n = knownM R n := fun n => by
    unfold knownM optsM
    rw [(q n).1, (q n).2.2]
    congr 1
    funext o
    exact hm o
  have hf : ∀ h, farM R' h p = farM R h p := fun h => by
    unfold farM betweenM
    rw [hk, b.2.1]
  unfold stepM
  rw [hx, b.2.1, hf]
theorem lookF_parts {R R' : RingS} (b : SameBut R R') (q : SameP R R') (p : Int) : ∀ (k : Nat) (tr : List Int), lookF R' p k tr = lookF R p k tr
  | 0, _ => rfl
  | k + 1, tr => by
    show (match (stepM R' p tr).2 with | some g => ((stepM R' p tr).1, g) | none => lookF R' p k (stepM R' p tr).1) = (match (stepM R p tr).2 with | some g => ((stepM R p tr).1, g) | none => lookF R p k (stepM R p tr).1)
    rw [stepM_parts b q, lookF_parts b q p k]
theorem ansM_parts {R R' : RingS} (b : SameBut R R') (q : SameP R R') (p v : Int) : ansM R' p v = ansM R p v := by
  unfold ansM lookM
  rw [lookF_parts b q]
theorem holdersM_parts {R R' : RingS} (b : SameBut R R') (q : SameP R R') (p v : Int) : holdersM R' p v = holdersM R p v := by
  unfold holdersM
  rw [ansM_parts b q, (q _).1, b.1]
theorem holdersM_home {R : RingS} (h : Ok R) {p via : Int} (hp : 0 ≤ p ∧ p < 2 ^ R.bits) (hv : via ∈ R.names) : ∃ k ∈ holdersM R p via, k ∈ R.names :=
  ⟨ansM R p via, List.mem_cons_self .., (lookM_way h hp hv).2⟩
/-! settling -/
theorem itm_letGo {R : RingS} {m p n q : Int} : itm (R.letGo m p) n q = if n = m then (if q = p then none else itm R n q) else itm R n q := by
  unfold itm RingS.letGo
  rw [setThings_node]
  by_cases c : n = m
  · rw [if_pos c, if_pos c, getT_drop, c]
  · rw [if_neg c, if_neg c]
theorem letGo_kp {R : RingS} {m p : Int} (k : Kp R) : Kp (R.letGo m p) := by
  have e : ∀ n, ((R.letGo m p).node n).things = if n = m then dropT (R.node m).things p else (R.node n).things := fun n => setThings_node ..
  refine ⟨fun n hn t ht => ?_, fun n hn => ?_⟩
  · have hn' : n ∈ R.names := hn
    rw [e] at ht
    by_cases c : n = m
    · rw [if_pos c] at ht
      exact k.val m (c ▸ hn') t (List.mem_filter.mp ht).1
    · rw [if_neg c] at ht
      exact k.val n hn' t ht
  · have hn' : n ∈ R.names := hn
    rw [e]
    by_cases c : n = m
    · rw [if_pos c]
      exact dropT_keys (k.keys m (c ▸ hn'))
    · rw [if_neg c]
      exact k.keys n hn'
theorem settleStep_all {R : RingS} {n : Int} {t : Thing} (k : Kp R) (v : Valid R t) (hi : itm R n t.1 = some t) (hh : ∃ h ∈ holdersM R t.1 n, h ∈ R.names) : Kp (settleStep n R t) ∧ (∀ m q, q ≠ t.1 → itm (settleStep n R t) m q = itm R m q) ∧ (Held R → Held (settleStep n R t)) := by
  obtain ⟨o1, o2, o3, o4⟩ := offers_all (p := t.1) (s := t.2.1) (x := t.2.2) (holdersM R t.1 n) R v k
  have b := offersM_but R (holdersM R t.1 n) t.1 t.2.1 t.2.2
  unfold settleStep
  by_cases c : n ∈ holdersM R t.1 n
  · rw [if_pos c]
    refine ⟨o1, o2, fun H u hu => ?_⟩
    have hu' := hu.but b.2.2.1
    obtain ⟨m, h1, h2⟩ := H u hu'
    exact ⟨m, by rw [b.1]; exact h1, o3 m u hu' h2⟩
  · rw [if_neg c]
    refine ⟨letGo_kp o1, fun m q hq => ?_, fun H u hu => ?_⟩
    · rw [itm_letGo, if_neg hq]
      by_cases d : m = n
      · rw [if_pos d]; exact o2 m q hq
      · rw [if_neg d]; exact o2 m q hq
    · have hu' : IsNew R u := hu.but (R' := (offersM R (holdersM R t.1 n) t.1 t.2.1 t.2.2).letGo n t.1) b.2.2.1
      obtain ⟨m, h1, h2⟩ := H u hu'
      by_cases d : m = n ∧ u.1 = t.1
      · obtain ⟨d1, d2⟩ := d
        have e : u = t := by
          rw [d1, d2, hi] at h2
          exact (Option.some.inj h2).symm
        obtain ⟨h, k1, k2⟩ := hh
        have hn : h ≠ n := fun z => c (z ▸ k1)
        refine ⟨h, by show h ∈ (offersM R _ _ _ _).names; rw [b.1]; exact k2, ?_⟩
        rw [itm_letGo, if_neg hn, e]
        exact o4 h k1 k2 (by rw [e] at hu'; exact hu')
      · refine ⟨m, by show m ∈ (offersM R _ _ _ _).names; rw [b.1]; exact h1, ?_⟩
        rw [itm_letGo]
        have z := o3 m u hu' h2
        by_cases d1 : m = n
        · rw [if_pos d1, if_neg fun d2 => d ⟨d1, d2⟩]; exact z
        · rw [if_neg d1]; exact z
theorem settledFrom_all {R0 : RingS} (ho : Ok R0) {n : Int} (hn : n ∈ R0.names) : ∀ (ts : List Thing) (R : RingS), SameBut R0 R → SameP R0 R → Kp R → (∀ t ∈ ts, Valid R t) → (ts.map (·.1)).Nodup → (∀ t ∈ ts, itm R n t.1 = some t) → Kp (settledFrom R n ts) ∧ (Held R → Held (settledFrom R n ts))
  | [], R, _, _, k, _, _, _ => ⟨k, fun h => h⟩
  | t :: ts, R, b, q, k, v, nd, hi => by
    rw [List.map_cons] at nd
    obtain ⟨n1, n2⟩ := List.nodup_cons.mp nd
    have vt := v t (List.mem_cons_self ..)
    have hh : ∃ h ∈ holdersM R t.1 n, h ∈ R.names := by
      rw [holdersM_parts b q, b.1]
      exact holdersM_home ho (by rw [← b.2.1]; exact vt.2.2) hn
    obtain ⟨s1, s2, s3⟩ := settleStep_all k vt (hi t (List.mem_cons_self ..)) hh
    have bs := settleStep_but n R t
    have ps : SameP R (settleStep n R t) := settledFrom_parts n [t] R
    obtain ⟨z1, z2⟩ := settledFrom_all ho hn ts (settleStep n R t) (b.trans bs) (q.trans ps) s1 (fun u hu => (v u (List.mem_cons_of_mem _ hu)).but bs.2.2.1 bs.2.1) n2 fun u hu => by
      have c : u.1 ≠ t.1 := fun c => n1 (by rw [← c]; exact List.mem_map.mpr ⟨u, hu, rfl⟩)
      rw [s2 n u.1 c]
      exact hi u (List.mem_cons_of_mem _ hu)
    exact ⟨z1, fun h => z2 (s3 h)⟩
theorem settledM_all {R0 R : RingS} (ho : Ok R0) {n : Int} (hn : n ∈ R0.names) (b : SameBut R0 R) (q : SameP R0 R) (k : Kp R) : Kp (settledM R n) ∧ (Held R → Held (settledM R n)) := by
  have hn' : n ∈ R.names := by rw [b.1]; exact hn
  have nd : ((keptM R n).map (·.1)).Nodup := ((keptM_perm R n).map _).nodup_iff.mpr (k.keys n hn')
  exact settledFrom_all ho hn (keptM R n) R b q k (fun t ht => k.val n hn' t ((keptM_perm R n).mem_iff.mp ht)) nd fun t ht => getT_of (k.keys n hn') ((keptM_perm R n).mem_iff.mp ht)
theorem allSettled_all {R0 : RingS} (ho : Ok R0) : ∀ (ns : List Int) (R : RingS), (∀ n ∈ ns, n ∈ R0.names) → SameBut R0 R → SameP R0 R → Kp R → Kp (allM settledM R ns) ∧ (Held R → Held (allM settledM R ns))
  | [], R, _, _, _, k => ⟨k, fun h => h⟩
  | n :: ns, R, hns, b, q, k => by
    obtain ⟨z1, z2⟩ := settledM_all ho (hns n (List.mem_cons_self ..)) b q k
    obtain ⟨y1, y2⟩ := allSettled_all ho ns (settledM R n) (fun m hm => hns m (List.mem_cons_of_mem _ hm)) (b.trans (settledM_but R n)) (q.trans (settledFrom_parts n _ R)) z1
    exact ⟨y1, fun h => y2 (z2 h)⟩
end Nn
set_option Elab.async false
set_option linter.all false
set_option maxRecDepth 100000
set_option maxHeartbeats 1000000
namespace Nn
open PySem PySem.Spec PyProof.Rows L2 LamX KeyL
/-! ### deeds keep the newest -/
theorem things_chain (R : RingS) (n m : Int) (c : List Int) : ((R.setChain n c).node m).things = (R.node m).things := by
  show (if m = n then withChain (R.node n) c else R.node m).things = _
  by_cases e : m = n
  · rw [if_pos e, e]; rfl
  · rw [if_neg e]
theorem things_prior (R : RingS) (n m : Int) (o : Option Int) : ((R.setPrior n o).node m).things = (R.node m).things := by
  show (if m = n then withPrior (R.node n) o else R.node m).things = _
  by_cases e : m = n
  · rw [if_pos e, e]; rfl
  · rw [if_neg e]
theorem things_steadied (R : RingS) (n m : Int) : ((steadiedM R n).node m).things = (R.node m).things := by
  have key : ∀ (R1 : RingS) (s t : Int), ((notifiedM R1 s t).node m).things = (R1.node m).things := fun R1 s t => by
    unfold notifiedM
    cases e : memO R1 (R1.node s).prior with
    | none => exact things_prior ..
    | some p =>
      show ((if btw R1.bits t p s = true then R1.setPrior s (some t) else R1).node m).things = _
      by_cases c : btw R1.bits t p s = true
      · rw [if_pos c]; exact things_prior ..
      · rw [if_neg c]
  unfold steadiedM
  rw [key]
  exact things_chain ..
theorem things_refFrom (n m : Int) : ∀ (ks : List Nat) (R : RingS), ((refFrom R n ks).node m).things = (R.node m).things
  | [], _ => rfl
  | k :: ks, R => by
    refine (things_refFrom n m ks (refStep n R k)).trans ?_
    show (if m = n then withFar (R.node n) _ else R.node m).things = _
    by_cases e : m = n
    · rw [if_pos e, e]; rfl
    · rw [if_neg e]
theorem things_all {f : RingS → Int → RingS} (hf : ∀ R n m, ((f R n).node m).things = (R.node m).things) : ∀ (ns : List Int) (R : RingS) (m : Int), ((allM f R ns).node m).things = (R.node m).things
  | [], _, _ => rfl
  | n :: ns, R, m => (things_all hf ns (f R n) m).trans (hf R n m)
theorem held_note {R : RingS} {d : Deed} (h : Held R) : Held (R.note d) := held_same h rfl fun n hn => ⟨hn, rfl⟩
theorem held_but {R R' : RingS} (h : Held R) (b : SameBut R R') (ht : ∀ n, (R'.node n).things = (R.node n).things) : Held R' := held_same h b.2.2.1 fun n hn => ⟨by rw [b.1]; exact hn, ht n⟩
theorem held_steadied {R : RingS} (h : Held R) (n : Int) : Held (steadiedM R n) := held_but h (steadiedM_but R n) (things_steadied R n)
theorem held_refing {R : RingS} (h : Held R) (n : Int) : Held (refingM R n) := held_but h (refingM_but R n) (things_refFrom n · _ R)
theorem held_settled {R : RingS} (ho : Ok R) (h : Held R) {n : Int} (hn : n ∈ R.names) : Held (settledM R n) := (settledM_all ho hn (SameBut.refl R) (SameP.refl R) ho.kp).2 h
/-- what a round's first two parts leave alone -/
theorem fars_things (R : RingS) (ns : List Int) (m : Int) : ((allM refingM (allM steadiedM R ns) ns).node m).things = (R.node m).things :=
  (things_all (f := refingM) (fun R n m => things_refFrom n m _ R) ns _ m).trans (things_all (f := steadiedM) things_steadied ns R m)
theorem fars_but (R : RingS) (ns : List Int) : SameBut R (allM refingM (allM steadiedM R ns) ns) := (allM_but (f := steadiedM) steadiedM_but ns R).trans (allM_but (f := refingM) refingM_but ns _)
theorem refStep_ok' {R : RingS} (h : Ok R) {n : Int} (hn : n ∈ R.names) (k : Nat) : Ok (refStep n R k) := by
  have hr := farPt_rng R.bits n k
  refine Ok.setN h _ (h.clen n hn) (h.cpts n hn) (h.cmem n hn) ?_ (fun p hp => ?_) (h.ppts n hn) (h.keys n hn) (h.kept n hn)
  · show ((R.node n).far.set k _).length = _
    rw [List.length_set]
    exact h.flen n hn
  · rcases List.mem_or_eq_of_mem_set (show some p ∈ (R.node n).far.set k (some (ansM R (farPt R.bits n k) n)) from hp) with z | z
    · exact h.fpts n hn p z
    · rw [Option.some.inj z]
      exact h.pts _ (lookM_way h hr hn).2
theorem refFrom_ok' {n : Int} : ∀ (ks : List Nat) {R : RingS}, Ok R → n ∈ R.names → Ok (refFrom R n ks)
  | [], _, h, _ => h
  | k :: ks, R, h, hn => refFrom_ok' ks (R := refStep n R k) (refStep_ok' h hn k) hn
theorem allRefing_ok : ∀ (ns : List Int) {R : RingS}, Ok R → (∀ n ∈ ns, n ∈ R.names) → Ok (allM refingM R ns)
  | [], _, h, _ => h
  | n :: ns, R, h, hns => allRefing_ok ns (R := refingM R n) (refFrom_ok' _ h (hns n (List.mem_cons_self ..))) fun m hm => by
    rw [(refingM_but R n).1]
    exact hns m (List.mem_cons_of_mem _ hm)
theorem fars_ok {R : RingS} (h : Ok R) (s : Sound R) {ns : List Int} (hns : ∀ n ∈ ns, n ∈ R.names) : Ok (allM refingM (allM steadiedM R ns) ns) := by
  obtain ⟨o1, _⟩ := all_steadied (R := R) ns h s hns
  exact allRefing_ok ns o1 fun n hn => by rw [(allM_but (f := steadiedM) steadiedM_but ns R).1]; exact hns n hn
theorem held_mend {R : RingS} (ho : Ok R) (so : Sound R) (h : Held R) {ns : List Int} (hns : ∀ n ∈ ns, n ∈ R.names) : Held (mendM R ns) := by
  have o2 := fars_ok ho so hns
  have b := fars_but R ns
  have h2 : Held (allM refingM (allM steadiedM R ns) ns) := held_but h b (fars_things R ns)
  exact held_note ((allSettled_all o2 ns _ (fun n hn => by rw [b.1]; exact hns n hn) (SameBut.refl _) (SameP.refl _) o2.kp).2 h2)
theorem held_crash {R : RingS} (ho : Ok R) (h : Held R) {n : Int} (hn : n ∈ R.names) (hl : lastM R n = none) : Held (R.vanish n) := fun t ht => by
  have ht' : IsNew R t := ht
  obtain ⟨m, h1, h2⟩ := h t ht'
  have back : ∀ m, m ∈ R.names → m ≠ n → m ∈ (R.vanish n).names := fun m hm hne => List.mem_filter.mpr ⟨hm, by simpa using hne⟩
  by_cases c : m = n
  · rw [c] at h2
    obtain ⟨k1, k2⟩ := getT_mem h2
    have hk : t ∈ keptM R n := (keptM_perm R n).mem_iff.mpr k1
    have hnew : t.2.1 = newestM R t.1 := by
      refine (newestM_of ho ?_ fun y hy => ?_).symm
      · exact List.mem_filterMap.mpr ⟨n, hn, by
          have z : getT (R.node n).things t.1 = some t := h2
          rw [z]
          rfl⟩
      · obtain ⟨m', hm', e⟩ := List.mem_filterMap.mp hy
        cases q : getT (R.node m').things t.1 with
        | none => rw [q] at e; cases e
        | some u =>
          rw [q] at e
          have e2 : u.2.1 = y := Option.some.inj e
          obtain ⟨v, hu⟩ := ho.kp.itm hm' (p := t.1) q
          rw [← e2]
          exact (ht'.top v hu).1
    have hb : besideM R n t.1 t.2.1 = true := by
      rw [lastM_find] at hl
      have z := Option.map_eq_none_iff.mp hl
      have y := List.find?_eq_none.mp z t hk
      unfold lostT at y
      rw [decide_eq_true hnew, Bool.true_and] at y
      cases q : besideM R n t.1 t.2.1 with
      | true => rfl
      | false => rw [q] at y; exact absurd rfl y
    obtain ⟨m', g1, g2⟩ := List.any_eq_true.mp hb
    obtain ⟨u, u1, u2⟩ := List.any_eq_true.mp g2
    obtain ⟨g3, g4⟩ := othersN_mem.mp g1
    unfold sameT at u2
    rw [Bool.and_eq_true, decide_eq_true_eq, decide_eq_true_eq] at u2
    have hu := (keptM_perm R m').mem_iff.mp u1
    have e := (ht'.top (ho.kp.val m' g3 u hu) u2.1).2 u2.2
    rw [e] at hu
    exact ⟨m', back m' g3 g4, getT_of (ho.keys m' g3) hu⟩
  · exact ⟨m, back m h1 c, h2⟩
theorem handFrom_all {hs : List Int} : ∀ (ts : List Thing) (R : RingS), Kp R → (∀ t ∈ ts, Valid R t) → (∀ m t, IsNew R t → itm R m t.1 = some t → itm (handFrom R hs ts) m t.1 = some t) ∧ ∀ m ∈ hs, m ∈ R.names → ∀ t ∈ ts, IsNew R t → itm (handFrom R hs ts) m t.1 = some t
  | [], R, _, _ => ⟨fun _ _ _ h => h, fun _ _ _ t ht => absurd ht (by simp)⟩
  | t :: ts, R, k, v => by
    have vt := v t (List.mem_cons_self ..)
    obtain ⟨o1, o2, o3, o4⟩ := offers_all (p := t.1) (s := t.2.1) (x := t.2.2) hs R vt k
    have b := offersM_but R hs t.1 t.2.1 t.2.2
    obtain ⟨z1, z2⟩ := handFrom_all (hs := hs) ts (offersM R hs t.1 t.2.1 t.2.2) o1 fun u hu => (v u (List.mem_cons_of_mem _ hu)).but b.2.2.1 b.2.1
    have up : ∀ u, IsNew R u → IsNew (offersM R hs t.1 t.2.1 t.2.2) u := fun u hu => hu.but (R := offersM R hs t.1 t.2.1 t.2.2) b.2.2.1.symm
    refine ⟨fun m u hu h => z1 m u (up u hu) (o3 m u hu h), fun m hm hn u hu hw => ?_⟩
    rcases List.mem_cons.mp hu with e | e
    · rw [e] at hw ⊢
      exact z1 m t (up t hw) (o4 m hm hn hw)
    · exact z2 m hm (by rw [b.1]; exact hn) u e (up u hw)
theorem held_leave {R : RingS} (ho : Ok R) (so : Sound R) (h : Held R) {n : Int} (hn : n ∈ R.names) : Held (leaveM R n) := by
  have an := adj_next ho so hn
  obtain ⟨_, ny, _⟩ := nxt_some ho hn
  have ha : nxtI R n ∈ handSome R n (nxtI R n) := by
    unfold handSome
    refine List.mem_filter.mpr ⟨List.mem_cons_self .., ?_⟩
    rw [decide_eq_true ny, decide_eq_true (adj_ne an).symm]
    rfl
  have hk : ∀ t ∈ keptM R n, t ∈ (R.node n).things := fun t ht => (keptM_perm R n).mem_iff.mp ht
  obtain ⟨z1, z2⟩ := handFrom_all (hs := handSome R n (nxtI R n)) (keptM R n) R ho.kp fun t ht => ho.kp.val n hn t (hk t ht)
  have ht : ∀ m, ((leave3 R n).node m).things = ((handOnM R n (nxtI R n)).node m).things := fun m => by
    have e2 : ((leave2 R n).node m).things = ((handOnM R n (nxtI R n)).node m).things := by
      unfold leave2
      cases priorM R n with
      | none => rfl
      | some p => exact things_chain ..
    unfold leave3
    by_cases c : ((leave2 R n).node (nxtI R n)).prior = some n
    · rw [if_pos c, things_prior]; exact e2
    · rw [if_neg c]; exact e2
  have b := leave3_but R n
  refine held_note (R := (leave3 R n).vanish n) fun t hw => ?_
  have hw' : IsNew R t := IsNew.but (R := R) (R' := leave3 R n) b.2.2.1 hw
  obtain ⟨m, h1, h2⟩ := h t hw'
  have back : ∀ m, m ∈ R.names → m ≠ n → m ∈ ((leave3 R n).vanish n).names := fun m hm hne => List.mem_filter.mpr ⟨by rw [b.1]; exact hm, by simpa using hne⟩
  have conv : ∀ m, itm (handOnM R n (nxtI R n)) m t.1 = some t → itm ((leave3 R n).vanish n) m t.1 = some t := fun m e => by
    have e0 : itm ((leave3 R n).vanish n) m t.1 = getT ((leave3 R n).node m).things t.1 := rfl
    rw [e0, ht]
    exact e
  by_cases c : m = n
  · rw [c] at h2
    have k1 := (getT_mem h2).1
    exact ⟨nxtI R n, back _ ny (adj_ne an).symm, conv _ (z2 _ ha ny t ((keptM_perm R n).mem_iff.mpr k1) hw')⟩
  · exact ⟨m, back m h1 c, conv m (z1 m t hw' h2)⟩
theorem held_handIn {R : RingS} (ho : Ok R) (h : Held R) {p via : Int} {x : Option Str} (hp : 0 ≤ p ∧ p < 2 ^ R.bits) (hv : via ∈ R.names) : Held (handInM R p x via) := by
  have kS : Kp (R.stamp (p, x)) := ⟨fun n hn t ht => by
    obtain ⟨v1, v2, v3⟩ := ho.kp.val n hn t ht
    refine ⟨v1, ?_, v3⟩
    show (R.puts ++ [(p, x)])[t.2.1.toNat - 1]? = _
    rw [List.getElem?_append_left (List.getElem?_eq_some_iff.mp v2).1]
    exact v2, ho.keys⟩
  have vS : Valid (R.stamp (p, x)) (p, ((R.puts.length + 1 : Nat) : Int), x) := by
    refine ⟨by show (1 : Int) ≤ ((R.puts.length + 1 : Nat) : Int); omega, ?_, hp⟩
    show (R.puts ++ [(p, x)])[(((R.puts.length + 1 : Nat) : Int)).toNat - 1]? = some (p, x)
    have e : (((R.puts.length + 1 : Nat) : Int)).toNat - 1 = R.puts.length := by omega
    rw [e, List.getElem?_append_right (Nat.le_refl _)]
    simp
  obtain ⟨o1, o2, o3, o4⟩ := offers_all (p := p) (s := ((R.puts.length + 1 : Nat) : Int)) (x := x) (holdersM R p via) (R.stamp (p, x)) vS kS
  have b := offersM_but (R.stamp (p, x)) (holdersM R p via) p ((R.puts.length + 1 : Nat) : Int) x
  intro t hw
  have hw' : IsNew (R.stamp (p, x)) t := hw.but (R' := handInM R p x via) b.2.2.1
  obtain ⟨⟨w1, w2⟩, w3⟩ := hw'
  have w2' : (R.puts ++ [(p, x)])[t.2.1.toNat - 1]? = some (t.1, t.2.2) := w2
  by_cases c : t.1 = p
  · have lt : R.puts.length < t.2.1.toNat := by
      by_cases d : R.puts.length < t.2.1.toNat
      · exact d
      · refine absurd ?_ (w3 R.puts.length x (by omega))
        show (R.puts ++ [(p, x)])[R.puts.length]? = some (t.1, x)
        rw [List.getElem?_append_right (Nat.le_refl _), c]
        simp
    have le := (List.getElem?_eq_some_iff.mp w2').1
    rw [List.length_append, List.length_singleton] at le
    have es : t.2.1 = ((R.puts.length + 1 : Nat) : Int) := by omega
    have e0 : t.2.1.toNat - 1 = R.puts.length := by omega
    rw [e0, List.getElem?_append_right (Nat.le_refl _)] at w2'
    have ex : x = t.2.2 := by
      have z : some ((p, x) : Int × Option Str) = some (t.1, t.2.2) := by simpa using w2'
      exact congrArg Prod.snd (Option.some.inj z)
    have et : t = (p, ((R.puts.length + 1 : Nat) : Int), x) := by
      obtain ⟨a1, a2, a3⟩ := t
      simp only at c es ex
      rw [c, es, ex]
    obtain ⟨k, k1, k2⟩ := holdersM_home ho hp hv
    refine ⟨k, by show k ∈ (offersM _ _ _ _ _).names; rw [b.1]; exact k2, ?_⟩
    rw [c]
    have z := o4 k k1 k2 (by rw [← et]; exact ⟨⟨w1, w2⟩, w3⟩)
    rw [et]
    exact z
  · have hold : IsNew R t := by
      have hlt : t.2.1.toNat - 1 < R.puts.length := by
        have le := (List.getElem?_eq_some_iff.mp w2').1
        rw [List.length_append, List.length_singleton] at le
        by_cases d : t.2.1.toNat - 1 < R.puts.length
        · exact d
        · exfalso
          have e0 : t.2.1.toNat - 1 = R.puts.length := by omega
          rw [e0, List.getElem?_append_right (Nat.le_refl _)] at w2'
          have z : some ((p, x) : Int × Option Str) = some (t.1, t.2.2) := by simpa using w2'
          exact c (congrArg Prod.fst (Option.some.inj z)).symm
      refine ⟨⟨w1, ?_⟩, fun j y hj e => ?_⟩
      · rw [List.getElem?_append_left hlt] at w2'
        exact w2'
      · refine absurd ?_ (w3 j y hj)
        show (R.puts ++ [(p, x)])[j]? = some (t.1, y)
        rw [List.getElem?_append_left (List.getElem?_eq_some_iff.mp e).1]
        exact e
    obtain ⟨m, h1, h2⟩ := h t hold
    refine ⟨m, by show m ∈ (offersM _ _ _ _ _).names; rw [b.1]; exact h1, ?_⟩
    show itm (offersM (R.stamp (p, x)) (holdersM R p via) p ((R.puts.length + 1 : Nat) : Int) x) m t.1 = some t
    rw [o2 m t.1 c]
    exact h2
theorem held_join {R : RingS} (h : Held R) {n via : Int} (hn : n ∉ R.names) : Held (joinM R n via) := by
  refine held_note (R := R.enter n (joinChain R n via)) (held_same h rfl fun m hm => ⟨List.mem_append_left _ hm, ?_⟩)
  have c : m ≠ n := fun e => hn (by rw [← e]; exact hm)
  show (if m = n then newNode R.bits (joinChain R n via) else R.node m).things = _
  rw [if_neg c]
theorem held_init (b m : Nat) (ns : List Int) : Held (initM b m ns) := fun t ht => by
  have z := ht.1.2
  have e : (initM b m ns).puts = [] := rfl
  rw [e] at z
  cases z
end Nn
set_option Elab.async false
set_option linter.all false
set_option maxRecDepth 100000
set_option maxHeartbeats 1000000
namespace Nn
open PySem PySem.Spec PyProof.Rows L2 LamX KeyL
/-! ### a deed of the law -/
structure Good (N : Nat) (R : RingS) : Prop where
  sound : Sound R
  bits : R.bits ≤ 12
  done : R.done.length ≤ N
  puts : R.puts.length ≤ N
/-- a deed behind -/
structure Next (N : Nat) (R R' : RingS) : Prop where
  good : Good (N + 1) R'
  len : R'.names.length ≤ R.names.length + 1
  bits : R'.bits = R.bits
  held : Held R → Held R'
theorem next_but {N : Nat} {R R1 : RingS} (g : Good N R) (b : SameBut R R1) (s : Sound R1) (hh : Held R → Held R1) (d : Deed) : Next N R (R1.note d) :=
  ⟨⟨sound_note s d, by show R1.bits ≤ 12; rw [b.2.1]; exact g.bits, by show (R1.done ++ [d]).length ≤ _; rw [List.length_append, b.2.2.2.2.1]; have := g.done; simp; omega, by show R1.puts.length ≤ _; rw [b.2.2.1]; have := g.puts; omega⟩, by show R1.names.length ≤ _; rw [b.1]; omega, b.2.1, fun h => held_note (hh h)⟩
theorem next_hand {N : Nat} {R : RingS} (ho : Ok R) (g : Good N R) {p : Int} (hp : 0 ≤ p ∧ p < 2 ^ R.bits) (x : Option Str) {via : Int} (hv : via ∈ R.names) (d : Deed) : Next N R ((handInM R p x via).note d) := by
  obtain ⟨a, b, c, e, f, _⟩ := handInM_same R p x via
  exact ⟨⟨sound_note (sound_handIn g.sound p x via) d, by show (handInM R p x via).bits ≤ 12; rw [b]; exact g.bits, by show ((handInM R p x via).done ++ [d]).length ≤ _; rw [List.length_append, e]; have := g.done; simp; omega, by show (handInM R p x via).puts.length ≤ _; rw [f, List.length_append]; have := g.puts; simp; omega⟩, by show (handInM R p x via).names.length ≤ _; rw [a]; omega, b, fun h => held_note (held_handIn ho h hp hv)⟩
theorem next_vanish {N : Nat} {R R1 : RingS} (g : Good N R) (b : SameBut R R1) (s : Sound R1) (n : Int) (hh : Held R → Held (R1.vanish n)) (d : Deed) : Next N R ((R1.vanish n).note d) :=
  ⟨⟨sound_note (sound_vanish s n) d, by show R1.bits ≤ 12; rw [b.2.1]; exact g.bits, by show (R1.done ++ [d]).length ≤ _; rw [List.length_append, b.2.2.2.2.1]; have := g.done; simp; omega, by show R1.puts.length ≤ _; rw [b.2.2.1]; have := g.puts; omega⟩, by show (R1.names.filter _).length ≤ _; have := List.length_filter_le (fun m => decide (m ≠ n)) R1.names; rw [b.1] at this ⊢; omega, b.2.1, fun h => held_note (hh h)⟩
theorem next_join {N : Nat} {R : RingS} (h : Ok R) (g : Good N R) {n via : Int} (hp : 0 ≤ n ∧ n < 2 ^ R.bits) (hn : n ∉ R.names) (hv : via ∈ R.names) : Next N R (joinM R n via) :=
  ⟨⟨sound_join h g.sound hp hn hv, g.bits, by show (R.done ++ [_]).length ≤ _; rw [List.length_append]; have := g.done; simp; omega, by show R.puts.length ≤ _; have := g.puts; omega⟩, by show (R.names ++ [n]).length ≤ _; rw [List.length_append]; simp, rfl, fun h => held_join h hn⟩
theorem crashErr_in {R : RingS} {n : Int} {e : Str × Str × V} (h : crashErr R n = some e) : e.1 ∈ exL := by
  unfold crashErr at h
  by_cases c : n ∈ R.fixed
  · rw [if_pos c] at h; rw [← Option.some.inj h]; show ("Fixed" : Str) ∈ exL; decide
  · rw [if_neg c] at h
    cases q : companyM (othersN R n) fun m => (R.node m).chain with
    | some m => rw [q] at h; rw [← Option.some.inj h]; show ("Alone" : Str) ∈ exL; decide
    | none =>
      rw [q] at h
      cases q2 : lastM R n with
      | some p => rw [q2] at h; rw [← Option.some.inj h]; show ("LastOne" : Str) ∈ exL; decide
      | none => rw [q2] at h; cases h
theorem leaveErr_in {R : RingS} {n : Int} {e : Str × Str × V} (h : leaveErr R n = some e) : e.1 ∈ exL := by
  unfold leaveErr at h
  by_cases c : n ∈ R.fixed
  · rw [if_pos c] at h; rw [← Option.some.inj h]; show ("Fixed" : Str) ∈ exL; decide
  · rw [if_neg c] at h
    cases q : companyM (othersN R n) (leaveC R n) with
    | some m => rw [q] at h; rw [← Option.some.inj h]; show ("Alone" : Str) ∈ exL; decide
    | none => rw [q] at h; cases h
theorem leaveErr_fixed {R : RingS} {n : Int} (h : leaveErr R n = none) : n ∉ R.fixed := fun c => by
  unfold leaveErr at h
  rw [if_pos c] at h
  cases h
theorem crashErr_last {R : RingS} {n : Int} (h : crashErr R n = none) : lastM R n = none := by
  unfold crashErr at h
  by_cases c : n ∈ R.fixed
  · rw [if_pos c] at h; cases h
  · rw [if_neg c] at h
    cases q : companyM (othersN R n) fun m => (R.node m).chain with
    | some m => rw [q] at h; cases h
    | none =>
      rw [q] at h
      cases q2 : lastM R n with
      | some p => rw [q2] at h; cases h
      | none => rfl
theorem Held.but {R : RingS} {d : Deed} (h : Held (R.note d)) : Held R := held_same h rfl fun n hn => ⟨hn, rfl⟩
/-- what a deed told, and what it put -/
def PutsBy (way n : Int) (x : Str) (s : Int) (R R' : RingS) : Prop := (s = 0 ∧ R'.puts = R.puts) ∨ (9 ≤ way ∧ s = ((R.puts.length + 1 : Nat) : Int) ∧ R'.puts = R.puts ++ [(n, if way = 9 then none else some x)])
theorem next_mend {N : Nat} {R : RingS} (h : Ok R) (g : Good N R) {ns : List Int} (hp : ns.Perm R.names) : Next N R (mendM R ns) := by
  have b := ((allM_but (f := steadiedM) steadiedM_but ns R).trans (allM_but (f := refingM) refingM_but ns _)).trans (allM_but (f := settledM) settledM_but ns _)
  have s := sound_mend h g.sound (ns := ns) fun n hn => hp.mem_iff.mp hn
  have z := (all_steadied (R := R) ns h g.sound fun n hn => hp.mem_iff.mp hn).2
  exact next_but g b (all_sound (fun R n s => sound_settled s n) ns _ (all_sound (fun R n s => sound_refing s n) ns _ z)) (fun hh => (held_mend h g.sound hh fun n hn => hp.mem_iff.mp hn).but) _
section
variable {P : Program} {w : World} {K : PySem.W.Frag} {mg : Str → Option Value} {base : Heap}
def spGranted (K : PySem.W.Frag) : Sp := fun vs H Q E => ∃ (A : RA) (R : RingS) (way n via : Int) (x : Str) (lv : V) (N : Nat), vs = [.ref A.r, .int way, .int n, .int via, .str x, lv] ∧ At K H A R ∧ Good N R ∧ N < 90000 ∧ (0 ≤ n ∧ n < 2 ^ R.bits) ∧ via ∈ R.names ∧ x.length ≤ 40 ∧ R.names.length < 63 ∧
  (way = 8 → ∃ (l : Addr) (ns : List Int), lv = .ref l ∧ H l = some (.lst (ns.map V.int)) ∧ ns.Perm R.names) ∧
  (∀ H' A' R' (s : Int), At K H' A' R' → Next N R R' → Frame H A H' A' → PutsBy way n x s R R' → Q (.int s) H') ∧ (∀ C fl v H', C ∈ exL → Fin K H H' → Out K C fl v H' E)
theorem sc_law_granted : FnScope ["_law_ring_here", "_law_way", "_law_name", "_law_asker", "_law_text", "_law_names"] ["_law_ring_here", "_law_way", "_law_name", "_law_asker", "_law_text", "_law_names"] (defScope s_law_granted) := ⟨rfl, rfl, rfl, by decide +kernel, rfl, by decide +kernel, by decide +kernel⟩
theorem ok_law_granted (S : Say K mg base) : FnOk P w K mg base (L2.CX P w) 17 (He.ga K "_law_granted") (fdO K ("_law_granted", none)) ["_law_ring_here", "_law_way", "_law_name", "_law_asker", "_law_text", "_law_names"] (spGranted K) := by
  refine (S.F_law_granted).ok sc_law_granted (fun vs H Q E h => ?_) (fun cdv A outer s H vs Q E hr h => ?_)
  · obtain ⟨A, R, way, n, via, x, lv, N, rfl, h, g, hN, hp, hv, hx, hl, h8, k1, k2⟩ := h
    rfl
  obtain ⟨A, R, way, n, via, x, lv, N, rfl, h, g, hN, hp, hv, hx, hl, h8, k1, k2⟩ := h
  have hu := hu_of hr
  refine ⟨_, (pss_cons (ps_if (pt_cmpR op_lt (pv 1) pe_int (nomark _)) (pss_one (ps_expr (pe_callN (ok_join S) (hr.mono (by decide)) rfl S.g_join (S.F_join).kp S.kb_join (passes_call (W := fun c d _ H => E c d H) (takes_of rfl rfl rfl rfl) (fun _ _ _ _ h => h)) (pa_cons (pv 0) (pa_cons (pv 2) pa_nil)) (pk_cons (pv 3) pk_nil)))) (pss_one (ps_if (pt_cmpR op_eq (pv 1) pe_int (nomark _)) (pss_one (ps_expr (pe_call (ok_crash S) (hr.mono (by decide)) rfl S.g_crash (S.F_crash).kp S.b_crash .nil (passes_call (W := fun c d _ H => E c d H) (takes_of rfl rfl rfl rfl) (fun _ _ _ _ h => h)) (pa_cons (pv 0) (pa_cons (pv 3) pa_nil))))) (pss_one (ps_if (pt_cmpR op_eq (pv 1) pe_int (nomark _)) (pss_one (ps_expr (pe_call (ok_leave S) (hr.mono (by decide)) rfl S.g_leave (S.F_leave).kp S.b_leave .nil (passes_call (W := fun c d _ H => E c d H) (takes_of rfl rfl rfl rfl) (fun _ _ _ _ h => h)) (pa_cons (pv 0) (pa_cons (pv 3) pa_nil))))) (pss_one (ps_if (pt_cmpR op_eq (pv 1) pe_int (nomark _)) (pss_one (ps_expr (pe_call (ok_stabilize S) (hr.mono (by decide)) rfl S.g_stabilize (S.F_stabilize).kp S.b_stabilize .nil pass0 (pa_cons (pv 0) (pa_cons (pv 3) pa_nil))))) (pss_one (ps_if (pt_cmpR op_eq (pv 1) pe_int (nomark _)) (pss_one (ps_expr (pe_call (ok_fix S) (hr.mono (by decide)) rfl S.g_fix (S.F_fix).kp S.b_fix .nil pass0 (pa_cons (pv 0) (pa_cons (pv 3) pa_nil))))) (pss_one (ps_if (pt_cmpR op_eq (pv 1) pe_int (nomark _)) (pss_one (ps_expr (pe_call (ok_settle S) (hr.mono (by decide)) rfl S.g_settle (S.F_settle).kp S.b_settle .nil pass0 (pa_cons (pv 0) (pa_cons (pv 3) pa_nil))))) (pss_one (ps_if (pt_cmpR op_eq (pv 1) pe_int (nomark _)) (pss_one (ps_expr (pe_callN (ok_mend S) (hr.mono (by decide)) rfl S.g_mend (S.F_mend).kp S.kb_mend pass0 (pa_cons (pv 0) pa_nil) (pk_cons (pv 5) pk_nil)))) (pss_one (ps_if (pt_cmpR op_eq (pv 1) pe_int (nomark _)) (pss_one (ps_ret (pe_callN (ok_forget S) (hr.mono (by decide)) rfl S.g_forget (S.F_forget).kp S.kb_forget pass0 (pa_cons (pv 0) (pa_cons (pv 2) pa_nil)) (pk_cons (pv 3) pk_nil)))) (pss_one (ps_ret (pe_callN (ok_put S) (hr.mono (by decide)) rfl S.g_put (S.F_put).kp S.kb_put pass0 (pa_cons (pv 0) (pa_cons (pv 2) (pa_cons (pv 4) pa_nil))) (pk_cons (pv 3) pk_nil)))))))))))))))))))
        (pss_one (ps_ret pe_int))), ?_⟩
  have gd := g.done
  have gp := g.puts
  have dd : ∀ j : Int, decide (V.int way = V.int j) = decide (way = j) := fun j => by simp
  refine ⟨_, rfl, _, _, rfl, rfl, _, rfl, ?_⟩
  by_cases c3 : way < 3
  · rw [decide_eq_true c3]
    refine iteT ⟨_, rfl, _, rfl, _, rfl, rfl, rfl, A, R, n, via, rfl, h, hv, hp, hl, by omega, fun c H1 A1 h1 f1 => ?_, fun c => k2 _ _ _ H (by decide) ⟨fun _ _ e _ => e, h.tabs⟩⟩
    exact k1 H1 A1 _ 0 h1 (next_join h.ok g hp c hv) f1 (.inl ⟨rfl, rfl⟩)
  rw [decide_eq_false c3]
  refine iteF ⟨_, rfl, rfl, _, rfl, ?_⟩
  rw [dd]
  by_cases c4 : way = 3
  · rw [decide_eq_true c4]
    refine iteT ⟨_, rfl, _, rfl, A, R, via, rfl, h, hv, by omega, fun c H1 h1 f1 => ?_, fun e c H1 f1 => k2 _ _ _ H1 (crashErr_in c) f1⟩
    exact k1 H1 A _ 0 h1 (next_vanish g (SameBut.refl R) g.sound via (fun hh => held_crash h.ok hh hv (crashErr_last c)) _) f1 (.inl ⟨rfl, rfl⟩)
  rw [decide_eq_false c4]
  refine iteF ⟨_, rfl, rfl, _, rfl, ?_⟩
  rw [dd]
  by_cases c5 : way = 4
  · rw [decide_eq_true c5]
    refine iteT ⟨_, rfl, _, rfl, A, R, via, rfl, h, hv, by omega, prior_ne g.sound hv, fun c H1 A1 h1 f1 => ?_, fun e c H1 f1 => k2 _ _ _ H1 (leaveErr_in c) f1⟩
    have s3 : Sound (leaveM R via) := sound_leave h.ok g.sound hv (leaveErr_fixed c)
    have b3 := leave3_but R via
    refine k1 H1 A1 _ 0 h1 ⟨⟨s3, by show (leave3 R via).bits ≤ 12; rw [b3.2.1]; exact g.bits, ?_, by show (leave3 R via).puts.length ≤ _; rw [b3.2.2.1]; omega⟩, ?_, b3.2.1, fun hh => held_leave h.ok g.sound hh hv⟩ f1 (.inl ⟨rfl, b3.2.2.1⟩)
    · show ((leave3 R via).done ++ [_]).length ≤ _
      rw [List.length_append, b3.2.2.2.2.1]
      simp
      omega
    · show ((leave3 R via).names.filter _).length ≤ _
      have := List.length_filter_le (fun m => decide (m ≠ via)) (leave3 R via).names
      rw [b3.1] at this ⊢
      omega
  rw [decide_eq_false c5]
  refine iteF ⟨_, rfl, rfl, _, rfl, ?_⟩
  rw [dd]
  by_cases c6 : way = 5
  · rw [decide_eq_true c6]
    refine iteT ⟨_, rfl, _, rfl, A, R, via, rfl, h, hv, by omega, fun H1 A1 h1 f1 => ?_⟩
    exact k1 H1 A1 _ 0 h1 (next_but g (steadiedM_but R via) (sound_steadied h.ok g.sound hv) (fun hh => held_steadied hh via) _) f1 (.inl ⟨rfl, (steadiedM_but R via).2.2.1⟩)
  rw [decide_eq_false c6]
  refine iteF ⟨_, rfl, rfl, _, rfl, ?_⟩
  rw [dd]
  by_cases c7 : way = 6
  · rw [decide_eq_true c7]
    refine iteT ⟨_, rfl, _, rfl, A, R, via, rfl, h, hv, by omega, fun H1 h1 f1 => ?_⟩
    exact k1 H1 A _ 0 h1 (next_but g (refingM_but R via) (sound_refing g.sound via) (fun hh => held_refing hh via) _) f1 (.inl ⟨rfl, (refingM_but R via).2.2.1⟩)
  rw [decide_eq_false c7]
  refine iteF ⟨_, rfl, rfl, _, rfl, ?_⟩
  rw [dd]
  by_cases c8 : way = 7
  · rw [decide_eq_true c8]
    refine iteT ⟨_, rfl, _, rfl, A, R, via, rfl, h, hv, by omega, fun H1 h1 f1 => ?_⟩
    exact k1 H1 A _ 0 h1 (next_but g (settledM_but R via) (sound_settled g.sound via) (fun hh => held_settled h.ok hh hv) _) f1 (.inl ⟨rfl, (settledM_but R via).2.2.1⟩)
  rw [decide_eq_false c8]
  refine iteF ⟨_, rfl, rfl, _, rfl, ?_⟩
  rw [dd]
  by_cases c9 : way = 8
  · rw [decide_eq_true c9]
    obtain ⟨l, ns, rfl, hl2, hpm⟩ := h8 c9
    refine iteT ⟨_, rfl, _, rfl, rfl, rfl, A, R, .ref l, ns, rfl, h, .inr ⟨l, rfl, hl2, hpm⟩, by omega, fun H1 A1 h1 f1 => ?_⟩
    exact k1 H1 A1 _ 0 h1 (next_mend h.ok g hpm) f1 (.inl ⟨rfl, ((allM_but (f := steadiedM) steadiedM_but ns R).trans ((allM_but (f := refingM) refingM_but ns _).trans (allM_but (f := settledM) settledM_but ns _))).2.2.1⟩)
  rw [decide_eq_false c9]
  refine iteF ⟨_, rfl, rfl, _, rfl, ?_⟩
  rw [dd]
  by_cases c10 : way = 9
  · rw [decide_eq_true c10]
    refine iteT ⟨_, rfl, _, rfl, _, rfl, rfl, rfl, A, R, n, via, rfl, h, hv, hp, by omega, by omega, fun H1 h1 f1 => ?_⟩
    exact k1 H1 A _ _ h1 (next_hand h.ok g hp none hv _) f1 (.inr ⟨by omega, rfl, by rw [if_pos c10]; exact (handInM_same R n none via).2.2.2.2.1⟩)
  · rw [decide_eq_false c10]
    refine iteF ⟨_, rfl, _, rfl, _, rfl, _, rfl, rfl, rfl, A, R, n, x, via, rfl, h, hv, hp, hx, by omega, by omega, fun H1 h1 f1 => ?_⟩
    exact k1 H1 A _ _ h1 (next_hand h.ok g hp (some x) hv _) f1 (.inr ⟨by omega, rfl, by rw [if_neg c10]; exact (handInM_same R n (some x) via).2.2.2.2.1⟩)
end
end Nn
set_option Elab.async false
set_option linter.all false
set_option maxRecDepth 100000
set_option maxHeartbeats 1000000
namespace Nn
open PySem PySem.Spec PyProof.Rows L2 LamX KeyL
section
variable {P : Program} {w : World} {K : PySem.W.Frag} {mg : Str → Option Value} {base : Heap}
theorem next_same {N : Nat} {R : RingS} (g : Good N R) : Next N R R := ⟨⟨g.sound, g.bits, Nat.le_succ_of_le g.done, Nat.le_succ_of_le g.puts⟩, Nat.le_succ _, rfl, fun h => h⟩
/-- the law's own dict: the newest item of each point -/
def News (H : Hp) (D : Addr) (R : RingS) : Prop := ∃ (ns : List Int) (f : Int → Addr), H D = some (.dK (kvN ns f)) ∧ ns.Nodup ∧ (∀ p ∈ ns, ∃ s x, IsNew R (p, s, x) ∧ H (f p) = some (.tup [.int s, oT x])) ∧ ∀ t, IsNew R t → t.1 ∈ ns
theorem News.keep {H H' : Hp} {D : Addr} {R R' : RingS} (h : News H D R) (hp : R'.puts = R.puts) (hD : ∀ ks, H D = some (.dK ks) → H' D = some (.dK ks)) (ht : ∀ b xs, H b = some (.tup xs) → H' b = some (.tup xs)) : News H' D R' := by
  obtain ⟨ns, f, h1, h2, h3, h4⟩ := h
  refine ⟨ns, f, hD _ h1, h2, fun p hp' => ?_, fun t ht' => h4 t (ht'.but hp)⟩
  obtain ⟨s, x, k1, k2⟩ := h3 p hp'
  exact ⟨s, x, k1.but hp.symm, ht _ _ k2⟩
theorem isNew_put {R R' : RingS} {p : Int} {x : Option Str} (hp : R'.puts = R.puts ++ [(p, x)]) : IsNew R' (p, ((R.puts.length + 1 : Nat) : Int), x) ∧ (∀ t, IsNew R t → t.1 ≠ p → IsNew R' t) ∧ ∀ t, IsNew R' t → t.1 ≠ p → IsNew R t := by
  refine ⟨⟨⟨by show (1 : Int) ≤ ((R.puts.length + 1 : Nat) : Int); omega, ?_⟩, fun j y hj e => ?_⟩, fun t ht c => ⟨⟨ht.1.1, ?_⟩, fun j y hj e => ?_⟩, fun t ht c => ⟨⟨ht.1.1, ?_⟩, fun j y hj e => ?_⟩⟩
  · show R'.puts[(((R.puts.length + 1 : Nat) : Int)).toNat - 1]? = some (p, x)
    have e : (((R.puts.length + 1 : Nat) : Int)).toNat - 1 = R.puts.length := by omega
    rw [hp, e, List.getElem?_append_right (Nat.le_refl _)]
    simp
  · have hj' : R.puts.length + 1 ≤ j := by
      have : (((R.puts.length + 1 : Nat) : Int)).toNat ≤ j := hj
      omega
    have le := (List.getElem?_eq_some_iff.mp e).1
    rw [hp, List.length_append, List.length_singleton] at le
    omega
  · rw [hp, List.getElem?_append_left (List.getElem?_eq_some_iff.mp ht.1.2).1]
    exact ht.1.2
  · rw [hp] at e
    have le := (List.getElem?_eq_some_iff.mp e).1
    rw [List.length_append, List.length_singleton] at le
    by_cases d : j < R.puts.length
    · rw [List.getElem?_append_left d] at e
      exact ht.2 j y hj e
    · have e0 : j = R.puts.length := by omega
      rw [e0, List.getElem?_append_right (Nat.le_refl _)] at e
      have z : some ((p, x) : Int × Option Str) = some (t.1, y) := by simpa using e
      exact c (congrArg Prod.fst (Option.some.inj z)).symm
  · have e := ht.1.2
    rw [hp] at e
    have le := (List.getElem?_eq_some_iff.mp e).1
    rw [List.length_append, List.length_singleton] at le
    by_cases d : t.2.1.toNat - 1 < R.puts.length
    · rw [List.getElem?_append_left d] at e
      exact e
    · have e0 : t.2.1.toNat - 1 = R.puts.length := by omega
      rw [e0, List.getElem?_append_right (Nat.le_refl _)] at e
      have z : some ((p, x) : Int × Option Str) = some (t.1, t.2.2) := by simpa using e
      exact absurd (congrArg Prod.fst (Option.some.inj z)).symm c
  · refine ht.2 j y hj ?_
    rw [hp, List.getElem?_append_left (List.getElem?_eq_some_iff.mp e).1]
    exact e
theorem News.put {H H' : Hp} {D u : Addr} {R R' : RingS} {p : Int} {x : Option Str} {kvs : List (Key × V)} (h : News H D R) (hD : H D = some (.dK kvs)) (hp : R'.puts = R.puts ++ [(p, x)]) (hD' : H' D = some (.dK (putK kvs (Sum.inl p : Key) (.ref u)))) (hu : H' u = some (.tup [.int ((R.puts.length + 1 : Nat) : Int), oT x])) (ht : ∀ b xs, H b = some (.tup xs) → H' b = some (.tup xs)) : News H' D R' := by
  obtain ⟨ns, f, h1, h2, h3, h4⟩ := h
  have ek : kvs = kvN ns f := by
    rw [h1] at hD
    exact (HO.dK.inj (Option.some.inj hD)).symm
  subst ek
  obtain ⟨n1, n2, n3⟩ := isNew_put hp
  by_cases c : p ∈ ns
  · rw [putK_kvN_old c] at hD'
    refine ⟨ns, _, hD', h2, fun q hq => ?_, fun t htn => ?_⟩
    · by_cases d : q = p
      · refine ⟨_, x, by rw [d]; exact n1, ?_⟩
        show H' (updF f p u q) = _
        unfold updF
        rw [if_pos d]
        exact hu
      · obtain ⟨s, y, k1, k2⟩ := h3 q hq
        refine ⟨s, y, n2 _ k1 d, ?_⟩
        show H' (updF f p u q) = _
        unfold updF
        rw [if_neg d]
        exact ht _ _ k2
    · by_cases d : t.1 = p
      · rw [d]; exact c
      · exact h4 t (n3 t htn d)
  · rw [putK_new _ (by rw [valV_kvN, if_neg c]), kvN_snoc _ _ _ _ c] at hD'
    refine ⟨ns ++ [p], _, hD', List.nodup_append.mpr ⟨h2, by simp, fun a ha b hb => by
      have e : b = p := by simpa using hb
      rw [e]
      exact fun z => c (by rw [← z]; exact ha)⟩, fun q hq => ?_, fun t htn => ?_⟩
    · by_cases d : q = p
      · refine ⟨_, x, by rw [d]; exact n1, ?_⟩
        show H' (if q = p then u else f q) = _
        rw [if_pos d]
        exact hu
      · have hq' : q ∈ ns := by
          rcases List.mem_append.mp hq with z | z
          · exact z
          · exact absurd (List.mem_singleton.mp z) d
        obtain ⟨s, y, k1, k2⟩ := h3 q hq'
        refine ⟨s, y, n2 _ k1 d, ?_⟩
        show H' (if q = p then u else f q) = _
        rw [if_neg d]
        exact ht _ _ k2
    · by_cases d : t.1 = p
      · exact List.mem_append_right _ (List.mem_singleton.mpr d)
      · exact List.mem_append_left _ (h4 t (n3 t htn d))
/-- what one deed of the law leaves -/
structure DoneAt (K : PySem.W.Frag) (N : Nat) (H : Hp) (A : RA) (R : RingS) (q D : Addr) (n : Nat) (H' : Hp) (A' : RA) (R' : RingS) (kvs' : List (Key × V)) : Prop where
  at_ : At K H' A' R'
  next : Next N R R'
  r : A'.r = A.r
  off : ∀ b o, H b = some o → (∀ ps, o ≠ .tbl ps) → A.ρ b = none → b ≠ q → b ≠ D → H' b = some o ∧ A'.ρ b = none
  pot : PotAt H' q
  rq : A'.ρ q = none
  dict : H' D = some (.dK kvs')
  len : kvs'.length ≤ n + 1
  rD : A'.ρ D = none
  news : News H D R → News H' D R'
def spDone (K : PySem.W.Frag) : Sp := fun vs H Q _ => ∃ (A : RA) (R : RingS) (q D : Addr) (kvs : List (Key × V)) (N : Nat), vs = [.ref q, .ref A.r, .ref D] ∧ At K H A R ∧ Good N R ∧ N < 90000 ∧ PotAt H q ∧ A.ρ q = none ∧ A.ρ D = none ∧ H D = some (.dK kvs) ∧ kvs.length ≤ 1000 ∧ R.names.length < 63 ∧
  ∀ H' A' R' kvs', DoneAt K N H A R q D kvs.length H' A' R' kvs' → Q .non H'
theorem sc_law_done : FnScope ["_law_pot_here", "_law_ring_here", "_law_newest", "_law_way", "_law_name", "_law_asker", "_law_text", "_law_names", "_law_stamp"] ["_law_pot_here", "_law_ring_here", "_law_newest"] (defScope s_law_done) := ⟨rfl, rfl, rfl, by decide +kernel, rfl, by decide +kernel, by decide +kernel⟩
theorem ok_law_done (S : Say K mg base) : FnOk P w K mg base CX0 18 (He.ga K "_law_done") (fdO K ("_law_done", none)) ["_law_pot_here", "_law_ring_here", "_law_newest"] (spDone K) := by
  refine (S.F_law_done).ok sc_law_done (fun vs H Q E h => ?_) (fun cdv A outer s H vs Q E hr h => ?_)
  · obtain ⟨A, R, q, D, kvs, N, rfl, h, g, hN, hq, rq, rD, hD, hk, hl, k⟩ := h
    rfl
  obtain ⟨A, R, q, D, kvs, N, rfl, h, g, hN, hq, rq, rD, hD, hk, hl, k⟩ := h
  have hu := hu_of hr
  refine ⟨_, PSs.nox (pss_cons (ps_set (i := 3) sc_law_done.nd rfl (Or.inl rfl) (pe_ix ix_list (pe_lst (pa_cons pe_int (pa_cons pe_int (pa_cons pe_int (pa_cons pe_int (pa_cons pe_int (pa_cons pe_int (pa_cons pe_int (pa_cons pe_int (pa_cons pe_int (pa_cons pe_int (pa_cons pe_int (pa_cons pe_int (pa_cons pe_int (pa_cons pe_int (pa_cons pe_int (pa_cons pe_int pa_nil))))))))))))))))) (pe_call (ok_law_take S) (hr.mono (by decide)) rfl S.g_law_take (S.F_law_take).kp S.b_law_take .nil pass0 (pa_cons (pv 0) (pa_cons pe_int pa_nil))) (fun _ _ => rfl)))
        (pss_cons (ps_set (i := 4) sc_law_done.nd rfl (Or.inl rfl) (pe_call (ok_law_near S) (hr.mono (by decide)) rfl S.g_law_near (S.F_law_near).kp S.b_law_near .nil pass0 (pa_cons (pv 0) (pa_cons (pv 1) pa_nil))))
        (pss_cons (ps_set (i := 5) sc_law_done.nd rfl (Or.inl rfl) (pe_call (ok_law_member S) (hr.mono (by decide)) rfl S.g_law_member (S.F_law_member).kp S.b_law_member .nil pass0 (pa_cons (pv 0) (pa_cons (pv 1) pa_nil))))
        (pss_cons (ps_set (i := 6) sc_law_done.nd rfl (Or.inl rfl) (pe_slice sl_str pe_str po_none (po_some (pe_call (ok_law_take S) (hr.mono (by decide)) rfl S.g_law_take (S.F_law_take).kp S.b_law_take .nil pass0 (pa_cons (pv 0) (pa_cons pe_int pa_nil))))))
        (pss_cons (ps_set (i := 7) sc_law_done.nd rfl (Or.inl rfl) (pe_ifExp (pt_cmpR op_eq (pv 3) pe_int (nomark _)) (pe_call (ok_law_mixed S) (hr.mono (by decide)) rfl S.g_law_mixed (S.F_law_mixed).kp S.b_law_mixed .nil pass0 (pa_cons (pv 0) (pa_cons (pe_meth0 (pv 1) S.c_Ring S.m_Ring_members (ok_Ring_members S) (hr.mono (by decide)) S.b_Ring_members .nil pass0) pa_nil))) (pe_lst pa_nil)))
        (pss_cons (ps_if (PW.pt (pw_or (PW.pt (pw_and (pt_cmpR op_lt (pv 3) pe_int (nomark _)) (pw_and1 (pt_cmpR op_gt (pe_callB call_len_seq (by rfl) S.z_len (by decide +kernel) (pa_cons (pe_meth0 (pv 1) S.c_Ring S.m_Ring_members (ok_Ring_members S) (hr.mono (by decide)) S.b_Ring_members .nil pass0) pa_nil)) pe_int (nomark _))))) (pw_or1 (PW.pt (pw_and (pt_cmpR op_gt (pv 3) pe_int (nomark _)) (pw_and (pt_cmpR op_gt (pe_callB call_lenD (by rfl) S.z_len (by decide +kernel) (pa_cons (pv 2) pa_nil)) pe_int (nomark _)) (pw_and1 (pt_cmp (pc_dnotin hu (pv 4) (pv 2)))))))))) (pss_one ps_retN) pss_nil)
        (pss_cons (ps_set (i := 8) sc_law_done.nd rfl (Or.inl rfl) pe_int)
        (pss_cons (ps_try_only rfl rfl ⟨by rfl, by decide, .inl S.g_RingError⟩ L2.takes0 (fun W pn xe tk hp => pss_one (ps_set (i := 8) sc_law_done.nd rfl (Or.inl rfl) (pe_callS (E := WE W) (ok_law_granted S) (hr.mono (by decide)) rfl S.g_law_granted (S.F_law_granted).kp S.b_law_granted (fun σ => passAt tk σ) (pa_cons (pv 1) (pa_cons (pv 3) (pa_cons (pv 4) (pa_cons (pv 5) (pa_cons (pv 6) (pa_cons (pv 7) pa_nil))))))))) (fun a oe cls d pn hz hf => pss_one (ps_set (i := 8) sc_law_done.nd rfl (Or.inl rfl) pe_int)))
        (pss_one (ps_if (pt_cmpR op_gt (pv 8) pe_int (nomark _)) (pss_one (ps_dput hu (pv 2) (pv 4) (pe_tup (pa_cons (pv 8) (pa_cons (pe_ifExp (pt_cmpR op_eq (pv 3) pe_int (nomark _)) (pv 6) pe_non) pa_nil))) rfl)) pss_nil)))))))))), ?_⟩
  refine ⟨(by show 16 ≤ sizeLine; decide), fun l1 hl1 => ?_⟩
  have f1 := Fin.of (same_new (o := HO.lst ([0, 1, 2, 3, 4, 5, 6, 7, 3, 4, 5, 9, 10, 10, 8, 0].map V.int)) hl1) h.tabs
  have p1 := PotStep.fin hq f1
  refine ⟨_, rfl, q, 16, rfl, p1.2.1, ⟨by decide, by decide⟩, fun d1 x1 y1 d10 d11 => ?_⟩
  have l1q : l1 ≠ q := fun e => by
    obtain ⟨x0, y0, hqq⟩ := hq
    rw [e, hqq] at hl1
    cases hl1
  have p2 := p1.trans (PotStep.upd p1.2.1 p1.2.2 x1 y1)
  have h2 := h.pot hq rq p2
  refine ⟨l1, _, d1, _, rfl, rfl, .inl (.inl (by rw [upd_ne l1q]; exact upd_same)), atI_nn (ns := [0, 1, 2, 3, 4, 5, 6, 7, 3, 4, 5, 9, 10, 10, 8, 0]) d10 (by show d1 < 16; exact d11), ?_⟩
  have hway : ([0, 1, 2, 3, 4, 5, 6, 7, 3, 4, 5, 9, 10, 10, 8, 0] : List Int).getD d1.toNat 0 ≤ 10 := by
    have key : ∀ k : Nat, k < 16 → ([0, 1, 2, 3, 4, 5, 6, 7, 3, 4, 5, 9, 10, 10, 8, 0] : List Int).getD k 0 ≤ 10 := by decide
    exact key _ (by omega)
  revert hway
  generalize ([0, 1, 2, 3, 4, 5, 6, 7, 3, 4, 5, 9, 10, 10, 8, 0] : List Int).getD d1.toNat 0 = way
  intro hway
  refine ⟨_, rfl, _, rfl, A, R, q, rfl, h2, by have := g.bits; omega, p2.2.1, rq, fun n H3 n0 n1 p3 => ?_⟩
  have p03 := p2.trans p3
  have h3 := h.pot hq rq p03
  refine ⟨_, rfl, _, rfl, A, R, q, rfl, h3, p03.2.1, rq, fun via H4 hv p4 => ?_⟩
  have p04 := p03.trans p4
  have h4 := h.pot hq rq p04
  refine ⟨_, rfl, q, 4, rfl, p04.2.1, ⟨by decide, by decide⟩, fun d5 x5 y5 d50 d51 => ⟨_, rfl, ?_⟩⟩
  have p5 := PotStep.upd p04.2.1 p04.2.2 x5 y5
  have p05 := p04.trans p5
  have h5 := h.pot hq rq p05
  revert p05 h5
  generalize upd H4 q (.lst [.int x5, .int y5]) = H5
  intro p05 h5
  have tz : ∀ y : Str, y = cutS "abc" none (some d5) → y.length ≤ 40 := fun y e => by
    have c : d5 = 0 ∨ d5 = 1 ∨ d5 = 2 ∨ d5 = 3 := by omega
    rw [e]
    rcases c with rfl | rfl | rfl | rfl <;> decide
  refine ⟨"abc", rfl, (by decide), ?_⟩
  generalize ex : cutS "abc" none (some d5) = x
  have hx := tz x ex.symm
  refine gname_step ?_
  dsimp only
  refine seq_set (fun v H6 => PotStep K H q H6 ∧ (way = 8 → ∃ (l : Addr) (ns : List Int), v = .ref l ∧ H6 l = some (.lst (ns.map V.int)) ∧ ns.Perm R.names)) (fun Q' hQ => ?_) fun lv H6 hlv => ?_
  · have few := h.ok.few
    refine ⟨_, rfl, rfl, _, rfl, ?_⟩
    have dd : decide (V.int way = V.int 8) = decide (way = 8) := by simp
    rw [dd]
    by_cases c8 : way = 8
    · rw [decide_eq_true c8]
      refine iteT ⟨_, rfl, _, rfl, A.r, A.dx, _, rfl, h5.ring.ob, rfl, A, R, rfl, h5, fun l H6 nl hl6 f6 => ?_⟩
      have q6 := p05.2.1.fin f6
      have lq : l ≠ q := fun e => by
        obtain ⟨x0, y0, hqq⟩ := p05.2.1
        exact nl q _ hqq (fun _ z => nomatch z) e.symm
      refine ⟨q, l, membersM R, rfl, f6.2, q6, lq, hl6, by rw [membersM_len]; exact few, fun r ms H7 hp nr hr p7 => ?_⟩
      exact hQ _ _ ⟨(p05.trans (PotStep.fin p05.2.1 f6)).trans p7, fun _ => ⟨r, ms, rfl, hr, hp.trans (membersM_perm R)⟩⟩
    · rw [decide_eq_false c8]
      refine iteF ⟨(by show 0 ≤ sizeLine; omega), fun r hr => ?_⟩
      exact hQ _ _ ⟨p05.trans (PotStep.fin p05.2.1 (Fin.of (same_new hr) h5.tabs)), fun c => absurd c c8⟩
  obtain ⟨p6, h8⟩ := hlv
  have h6 := h.pot hq rq p6
  have hD6 : H6 D = some (.dK kvs) := p6.1 _ _ hD (fun _ z => nomatch z) fun e => by
    obtain ⟨x0, y0, hqq⟩ := hq
    rw [e, hqq] at hD
    cases hD
  have nq_tup : ∀ {b xs}, H b = some (.tup xs) → b ≠ q := fun {b xs} e c => by
    obtain ⟨x0, y0, hqq⟩ := hq
    rw [c, hqq] at e
    cases e
  refine seq_if (fun H7 => Fin K H6 H7) (fun Q' hQ => ?_) (fun H7 f7 => ?_) fun H7 f7 => ?_
  · refine ⟨_, rfl, _, _, rfl, rfl, _, rfl, ?_⟩
    have f0 : Fin K H6 H6 := ⟨fun _ _ e _ => e, h6.tabs⟩
    by_cases a : way < 3
    · rw [decide_eq_true a]
      refine iteT ⟨_, rfl, A.r, A.dx, _, rfl, h6.ring.ob, rfl, A, R, rfl, h6, fun l H7 nl hl7 f7 => ⟨l, _, rfl, .inl (.inl (.inl hl7)), _, _, rfl, rfl, _, rfl, ?_⟩⟩
      by_cases a2 : (9 : Int) < (((membersM R).map V.int).length : Nat)
      · rw [decide_eq_true a2]
        exact iteT (hQ _ _ f7)
      · rw [decide_eq_false a2]
        refine iteF ?_
        have hD7 : H7 D = some (.dK kvs) := (f7).1 _ _ hD6 fun _ z => nomatch z
        refine ⟨_, rfl, _, _, rfl, rfl, _, rfl, ?_⟩
        by_cases b : 8 < way
        · rw [decide_eq_true b]
          refine iteT ⟨_, rfl, D, kvs, rfl, hD7, _, _, rfl, rfl, _, rfl, ?_⟩
          by_cases c : (19 : Int) < (kvs.length : Nat)
          · rw [decide_eq_true c]
            refine iteT ⟨_, rfl, _, rfl, D, _, rfl, DGet.k (k := (Sum.inl n : Key)) hD7, _, rfl, ?_⟩
            exact hQ _ _ (f7)
          · rw [decide_eq_false c]
            exact iteF (hQ _ _ (f7))
        · rw [decide_eq_false b]
          exact iteF (hQ _ _ (f7))
    · rw [decide_eq_false a]
      refine iteF (iteF ?_)
      have hD7 : H6 D = some (.dK kvs) := (f0).1 _ _ hD6 fun _ z => nomatch z
      refine ⟨_, rfl, _, _, rfl, rfl, _, rfl, ?_⟩
      by_cases b : 8 < way
      · rw [decide_eq_true b]
        refine iteT ⟨_, rfl, D, kvs, rfl, hD7, _, _, rfl, rfl, _, rfl, ?_⟩
        by_cases c : (19 : Int) < (kvs.length : Nat)
        · rw [decide_eq_true c]
          refine iteT ⟨_, rfl, _, rfl, D, _, rfl, DGet.k (k := (Sum.inl n : Key)) hD7, _, rfl, ?_⟩
          exact hQ _ _ (f0)
        · rw [decide_eq_false c]
          exact iteF (hQ _ _ (f0))
      · rw [decide_eq_false b]
        exact iteF (hQ _ _ (f0))
  · have p7 := p6.trans (PotStep.fin p6.2.1 f7)
    have tup7 : ∀ b xs, H b = some (.tup xs) → H7 b = some (.tup xs) := fun b xs e => p7.1 b _ e (fun _ z => nomatch z) (nq_tup e)
    exact k H7 A R kvs ⟨h6.fin f7, next_same g, rfl, fun b o e1 e2 e3 e4 e5 => ⟨p7.1 b o e1 e2 e4, e3⟩, p7.2.1, rq, f7.1 _ _ hD6 (fun _ z => nomatch z), Nat.le_succ _, rD, fun hN => hN.keep rfl (fun ks e => by rw [hD] at e; rw [← Option.some.inj e]; exact f7.1 _ _ hD6 fun _ z => nomatch z) tup7⟩
  have p7 := p6.trans (PotStep.fin p6.2.1 f7)
  have h7 := h6.fin f7
  have hD7 := f7.1 _ _ hD6 fun _ z => nomatch z
  refine tnext_step ?_
  dsimp only
  refine seq_set (fun v H8 => v = .int 0 ∧ H8 = H7) (fun Q' hQ => hQ _ _ ⟨rfl, rfl⟩) ?_
  rintro v H8 ⟨rfl, rfl⟩
  refine seq_by (fun σ' H9 => ∃ (s : Int) (A9 : RA) (R9 : RingS), σ' = [some (.ref q), some (.ref A.r), some (.ref D), some (.int way), some (.int n), some (.int via), some (.str x), some lv, some (.int s)] ∧ At K H9 A9 R9 ∧ Next N R R9 ∧ Frame H8 A H9 A9 ∧ PutsBy way n x s R R9) (fun nx hnx => ?_) fun σ' H9 hG => ?_
  · refine ⟨_, rfl, _, rfl, _, rfl, _, rfl, _, rfl, _, rfl, A, R, way, n, via, x, lv, N, rfl, h7, g, hN, ⟨n0, n1⟩, hv, hx, hl, fun c => ?_, fun H9 A9 R9 s a9 b9 f9 hs => ?_, fun C fl v H9 hC f9 d H10 e1 e2 e3 => ?_⟩
    · obtain ⟨l, ns, e1, e2, e3⟩ := h8 c
      exact ⟨l, ns, e1, f7.1 _ _ e2 (fun _ z => nomatch z), e3⟩
    · exact hnx _ _ ⟨s, A9, R9, rfl, a9, b9, f9, hs⟩
    · refine ⟨true, exMatch S hC, fun _ a ha => ?_, fun z => nomatch z⟩
      have f10 : Fin K H8 H10 := f9.trans (Fin.of e3 f9.2)
      exact hnx _ _ ⟨0, A, R, rfl, h7.fin f10, next_same g, Frame.fin f10, .inl ⟨rfl, rfl⟩⟩
  · obtain ⟨s, A9, R9, rfl, a9, b9, f9, pb⟩ := hG
    have tup9 : ∀ b xs, H b = some (.tup xs) → H9 b = some (.tup xs) := fun b xs e => f9.tup _ _ (p7.1 b _ e (fun _ z => nomatch z) (nq_tup e))
    obtain ⟨hD9, rD9⟩ := f9.off _ _ hD7 (fun _ z => nomatch z) rD
    obtain ⟨x0, y0, hq7⟩ := p7.2.1
    obtain ⟨hq9, rq9⟩ := f9.off _ _ hq7 (fun _ z => nomatch z) rq
    have off9 : ∀ b o, H b = some o → (∀ ps, o ≠ .tbl ps) → A.ρ b = none → b ≠ q → H9 b = some o ∧ A9.ρ b = none := fun b o e1 e2 e3 e4 => f9.off b o (p7.1 b o e1 e2 e4) e2 e3
    have put : ∀ (z : V) (u : Addr), 0 < s → z = oT (if way = 9 then none else some x) → H9 u = none → Q .non (upd (upd H9 u (.tup [.int s, z])) D (.dK (putK kvs (Sum.inl n : Key) (.ref u)))) := fun z u s0 ez hu => by
      have f10 := Fin.of (same_new (o := HO.tup [.int s, z]) hu) a9.tabs
      have hD10 := f10.1 _ _ hD9 fun _ z => nomatch z
      have Dq : q ≠ D := ne_of hq9 hD9 fun z => nomatch z
      refine k _ A9 R9 _ ⟨(a9.fin f10).write rD9 hD10 rfl (fun _ z => nomatch z), b9, f9.r, fun b o e1 e2 e3 e4 e5 => ?_, ⟨x0, y0, ?_⟩, rq9, upd_same, length_putK _ _ _, rD9, fun hN => ?_⟩
      · obtain ⟨g1, g2⟩ := off9 b o e1 e2 e3 e4
        exact ⟨by rw [upd_ne e5]; exact f10.1 _ _ g1 e2, g2⟩
      · rw [upd_ne Dq]
        exact f10.1 _ _ hq9 fun _ z => nomatch z
      · rcases pb with ⟨e, _⟩ | ⟨_, e1, e2⟩
        · omega
        · refine hN.put hD e2 upd_same ?_ fun b xs e => ?_
          · have uD : u ≠ D := fun c => by rw [c, hD9] at hu; cases hu
            rw [upd_ne uD, upd_same, e1, ez]
          · have bD : b ≠ D := ne_of e hD fun z => nomatch z
            rw [upd_ne bD]
            exact f10.1 _ _ (tup9 b xs e) fun _ z => nomatch z
    refine ⟨_, rfl, _, _, rfl, rfl, _, rfl, ?_⟩
    by_cases c : 0 < s
    · rw [decide_eq_true c]
      have hk9 : kvs.length < sizeLine := szL hk
      refine iteT ⟨_, rfl, _, rfl, rfl, _, rfl, ?_⟩
      have dd : decide (V.int way = V.int 10) = decide (way = 10) := by simp
      rw [dd]
      by_cases c10 : way = 10
      · rw [decide_eq_true c10]
        refine iteT ⟨_, rfl, (by show 2 ≤ sizeLine; decide), fun u hu => ⟨_, rfl, _, rfl, D, _, rfl, DPut.k (k := (Sum.inl n : Key)) (same_new hu _ _ hD9) hk9, put _ u c (by rw [if_neg (by omega)]; rfl) hu⟩⟩
      · rw [decide_eq_false c10]
        refine iteF ⟨(by show 2 ≤ sizeLine; decide), fun u hu => ⟨_, rfl, _, rfl, D, _, rfl, DPut.k (k := (Sum.inl n : Key)) (same_new hu _ _ hD9) hk9, put _ u c (by rw [if_pos (by rcases pb with ⟨e, _⟩ | ⟨e, _⟩ <;> omega)]; rfl) hu⟩⟩
    · rw [decide_eq_false c]
      refine iteF ?_
      exact k H9 A9 R9 kvs ⟨a9, b9, f9.r, fun b o e1 e2 e3 e4 _ => off9 b o e1 e2 e3 e4, ⟨x0, y0, hq9⟩, rq9, hD9, Nat.le_succ _, rD9, fun hN => hN.keep (by rcases pb with ⟨_, e⟩ | ⟨_, e, _⟩; exact e; omega) (fun ks e => by rw [hD] at e; rw [← Option.some.inj e]; exact hD9) tup9⟩
end
end Nn
set_option Elab.async false
set_option linter.all false
set_option maxRecDepth 100000
set_option maxHeartbeats 1000000
namespace Nn
open PySem PySem.Spec PyProof.Rows L2 LamX KeyL
/-! ### the law's own look at tables -/
section
variable {P : Program} {w : World} {K : PySem.W.Frag} {mg : Str → Option Value} {base : Heap}
def spLBtw (K : PySem.W.Frag) : Sp := fun vs H Q _ => ∃ (s a x y : Int), vs = [.int s, .int a, .int x, .int y] ∧ 0 < s ∧ Q (.bl (decide (0 < (a - x) % s) && (decide (x = y) || decide ((a - x) % s < (y - x) % s)))) H
end
end Nn
set_option Elab.async false
set_option linter.all false
set_option maxRecDepth 100000
set_option maxHeartbeats 1000000
namespace Nn
open PySem PySem.Spec PyProof.Rows L2 LamX KeyL
/-! ### the law's own look at tables -/
section
variable {P : Program} {w : World} {K : PySem.W.Frag} {mg : Str → Option Value} {base : Heap}
/-- the four things that the law asks of one name; L: what holds of the addresses of their lists, by their places -/
def ItemL (L : Nat → Addr → Prop) (H : Hp) (R : RingS) (a : Addr) (n : Int) : Prop := ∃ l f g : Addr, (L 0 a ∧ L 1 l ∧ L 2 f ∧ L 3 g) ∧ H a = some (.lst [.ref l, oV (R.node n).prior, .ref f, .ref g]) ∧ H l = some (.lst ((R.node n).chain.map V.int)) ∧ H f = some (.lst ((R.node n).far.map oV)) ∧ KeptAt H g (keptM R n)
def NM (N M : Addr → Prop) : Nat → Addr → Prop
  | 0 => N
  | _ + 1 => M
abbrev ItemAt (N M : Addr → Prop) (H : Hp) (R : RingS) (a : Addr) (n : Int) : Prop := ItemL (NM N M) H R a n
/-- the law's dict of all names' things -/
def TablesL (N : Addr → Prop) (L : Int → Nat → Addr → Prop) (H : Hp) (D : Addr) (R : RingS) (ns : List Int) : Prop := N D ∧ ∃ f : Int → Addr, H D = some (.dK (kvN ns f)) ∧ ∀ n ∈ ns, ItemL (L n) H R (f n) n
abbrev TablesAt (N : Addr → Prop) (H : Hp) (D : Addr) (R : RingS) (ns : List Int) : Prop := TablesL N (fun _ => NM N N) H D R ns
theorem ItemL.mono {L L' : Nat → Addr → Prop} {H : Hp} {R : RingS} {a : Addr} {n : Int} (e : ∀ j b xs, H b = some (.lst xs) → L j b → L' j b) (h : ItemL L H R a n) : ItemL L' H R a n := by
  obtain ⟨l, f, g, ⟨n1, n2, n3, n4⟩, h1, h2, h3, us, h4, h5⟩ := h
  exact ⟨l, f, g, ⟨e _ _ _ h1 n1, e _ _ _ h2 n2, e _ _ _ h3 n3, e _ _ _ h4 n4⟩, h1, h2, h3, us, h4, h5⟩
theorem ItemL.keep {L : Nat → Addr → Prop} {H H' : Hp} {R : RingS} {a : Addr} {n : Int} (e1 : ∀ j b xs, L j b → H b = some (.lst xs) → H' b = some (.lst xs)) (e2 : ∀ b xs, H b = some (.tup xs) → H' b = some (.tup xs)) (h : ItemL L H R a n) : ItemL L H' R a n := by
  obtain ⟨l, f, g, ⟨n1, n2, n3, n4⟩, h1, h2, h3, us, h4, h5⟩ := h
  refine ⟨l, f, g, ⟨n1, n2, n3, n4⟩, e1 _ _ _ n1 h1, e1 _ _ _ n2 h2, e1 _ _ _ n3 h3, us, e1 _ _ _ n4 h4, ?_⟩
  exact paired_mono (F := RowAt H) (G := RowAt H') (fun x y r => e2 x _ r) h5
theorem ItemL.fin {L : Nat → Addr → Prop} {K : PySem.W.Frag} {H H' : Hp} {R : RingS} {a : Addr} {n : Int} (e : Fin K H H') (h : ItemL L H R a n) : ItemL L H' R a n :=
  h.keep (fun _ b xs _ z => e.1 _ _ z fun _ z => nomatch z) fun b xs z => e.1 _ _ z fun _ z => nomatch z
theorem TablesL.fin {N : Addr → Prop} {L : Int → Nat → Addr → Prop} {K : PySem.W.Frag} {H H' : Hp} {D : Addr} {R : RingS} {ns : List Int} (e : Fin K H H') (h : TablesL N L H D R ns) : TablesL N L H' D R ns := by
  obtain ⟨hN, f, h1, h2⟩ := h
  exact ⟨hN, f, e.1 _ _ h1 (fun _ z => nomatch z), fun n hn => (h2 n hn).fin e⟩
/-- each list of the tables is another one: lab tells whose it is and which -/
def Lab (H : Hp) (lab : Addr → Option (Int × Nat)) (n : Int) (j : Nat) (b : Addr) : Prop := NotOld H b ∧ lab b = some (n, j)
theorem TablesL.plain {H0 H : Hp} {lab : Addr → Option (Int × Nat)} {D : Addr} {R : RingS} {ns : List Int} (h : TablesL (NotOld H0) (Lab H0 lab) H D R ns) : TablesAt (NotOld H0) H D R ns := by
  obtain ⟨hN, f, h1, h2⟩ := h
  exact ⟨hN, f, h1, fun n hn => (h2 n hn).mono fun j b xs _ z => by
    cases j with
    | zero => exact z.1
    | succ j => exact z.1⟩
theorem kept_diff {H : Hp} {t : Addr} {e : Thing} {D : Addr} {o : HO} (hd : ∃ ks, H D = some (.dK ks)) (h : RowAt H t e) : RowAt (upd H D o) t e := by
  obtain ⟨ks, hd⟩ := hd
  have c : t ≠ D := fun c => by
    have h' : H t = some (.tup [.int e.1, .int e.2.1, oT e.2.2]) := h
    rw [c, hd] at h'
    cases h'
  show upd H D o t = _
  rw [upd_ne c]
  exact h
def spTables (K : PySem.W.Frag) : Sp := fun vs H Q _ => ∃ (A : RA) (R : RingS), vs = [.ref A.r] ∧ At K H A R ∧ ∀ D H' lab, TablesL (NotOld H) (Lab H lab) H' D R (membersM R) → Fin K H H' → Q (.ref D) H'
end
end Nn
set_option Elab.async false
set_option linter.all false
set_option maxRecDepth 100000
set_option maxHeartbeats 1000000
namespace Nn
open PySem PySem.Spec PyProof.Rows L2 LamX KeyL
section
variable {P : Program} {w : World} {K : PySem.W.Frag} {mg : Str → Option Value} {base : Heap}
theorem dgetM2 {R : RingS} {H : Hp} {a : Addr} {f : Int → Addr} (h : H a = some (.dK (kvN (membersM R) f))) {n : Int} (hn : n ∈ R.names) : DGet H a (.int n) (some (V.ref (f n))) := dgetM h (membersM_mem.mpr hn)
theorem filter_first {ns xs : List Int} {m : Int} (h : firstOf ns xs = some m) : (ns.filter fun x => decide (x ∈ xs))[0]? = some m := by
  unfold firstOf at h
  rw [← List.head?_filter] at h
  rw [← List.head?_eq_getElem?]
  exact h
theorem atI_0 {ns : List Int} {m : Int} (h : ns[0]? = some m) : atI (ns.map V.int) 0 = some (V.int m) := by
  have hl : 0 < ns.length := by
    cases ns with
    | nil => cases h
    | cons _ _ => exact Nat.zero_lt_succ _
  have z := atI_nn (ns := ns) (d := 0) (by decide) (by omega)
  rw [z]
  cases ns with
  | nil => cases h
  | cons a t =>
    have e : a = m := by simpa using h
    subst e
    rfl
def spLNext (K : PySem.W.Frag) : Sp := fun vs H Q _ => ∃ (N : Addr → Prop) (L : Int → Nat → Addr → Prop) (T : Addr) (R : RingS) (n : Int), vs = [.ref T, .int n] ∧ Tabs (tabT K) H ∧ TablesL N L H T R (membersM R) ∧ Ok R ∧ n ∈ R.names ∧ ∀ H', Fin K H H' → Q (.int (nxtI R n)) H'
end
end Nn
set_option Elab.async false
set_option linter.all false
set_option maxRecDepth 100000
set_option maxHeartbeats 1000000
namespace Nn
open PySem PySem.Spec PyProof.Rows L2 LamX KeyL
theorem dgetF {R : RingS} {H : Hp} {a : Addr} {od : Obj} {f : Int → Addr} (h : H a = some (.frz od (.dK (kvN (membersM R) f)))) {n : Int} (hn : n ∈ R.names) : DGet H a (.int n) (some (V.ref (f n))) := by
  have z : DGet H a (.int n) (valV (kvN (membersM R) f) (Sum.inl n : Key)) := .inl ⟨_, (Sum.inl n : Key), .inr ⟨od, h⟩, rfl, rfl⟩
  rw [valV_kvN, if_pos (membersM_mem.mpr hn)] at z
  exact z
theorem getKv {ns : List Int} {f : Int → Addr} {i : Nat} {k : Key} {v : V} (h : (kvN ns f)[i]? = some (k, v)) : ∃ n, ns[i]? = some n ∧ k = Sum.inl n := by
  unfold kvN at h
  rw [List.getElem?_map] at h
  cases q : ns[i]? with
  | none => rw [q] at h; cases h
  | some n =>
    rw [q] at h
    have e := Option.some.inj h
    exact ⟨n, rfl, (congrArg Prod.fst e).symm⟩
theorem lst_inj {H : Hp} {a : Addr} {xs ys : List V} (h1 : H a = some (.lst xs)) (h2 : H a = some (.lst ys)) : xs = ys := by
  rw [h1] at h2
  exact HO.lst.inj (Option.some.inj h2)
section
variable {N M : Addr → Prop} {H : Hp} {R : RingS} {a : Addr} {n : Int}
theorem ItemL.updNe {L : Nat → Addr → Prop} {x : Addr} {o : HO} (hx : ∃ xs, H x = some (.lst xs)) (hL : ∀ j b, L j b → b ≠ x) (h : ItemL L H R a n) : ItemL L (upd H x o) R a n := by
  obtain ⟨xs, hx⟩ := hx
  refine h.keep (fun j b ys hb e => ?_) fun b ys e => ?_
  · rw [upd_ne (hL j b hb)]
    exact e
  · rw [upd_ne (ne_of e hx fun z => nomatch z)]
    exact e
theorem ItemL.other {L : Nat → Addr → Prop} {m : Int} {s : NodeS} (hm : m ≠ n) (h : ItemL L H R a m) : ItemL L H (R.setN n s) a m := by
  unfold ItemL keptM at h ⊢
  rw [setN_ne R s hm]
  exact h
theorem ItemAt.updNe {x : Addr} {o : HO} (hx : ∃ xs, H x = some (.lst xs)) (hM : ∀ b, M b → b ≠ x) (ha : a ≠ x) (h : ItemAt N M H R a n) : ItemAt N M (upd H x o) R a n := by
  obtain ⟨l, f, g, ⟨n1, n2, n3, n4⟩, h1, h2, h3, us, h4, h5⟩ := h
  obtain ⟨xs, hx⟩ := hx
  refine ⟨l, f, g, ⟨n1, n2, n3, n4⟩, by rw [upd_ne ha]; exact h1, by rw [upd_ne (hM _ n2)]; exact h2, by rw [upd_ne (hM _ n3)]; exact h3, us, by rw [upd_ne (hM _ n4)]; exact h4, ?_⟩
  refine paired_mono (F := RowAt H) (G := RowAt (upd H x o)) (fun t y r => ?_) h5
  have r' : H t = some (.tup [.int y.1, .int y.2.1, oT y.2.2]) := r
  show upd H x o t = _
  rw [upd_ne (ne_of r' hx fun z => nomatch z)]
  exact r
theorem ItemAt.other {m : Int} {s : NodeS} (hm : m ≠ n) (h : ItemAt N M H R a m) : ItemAt N M H (R.setN n s) a m := ItemL.other hm h
theorem ItemAt.chain {r : Addr} {c : List Int} {xs : List V} (hr : M r) (hc : H r = some (.lst (c.map V.int))) (hM : ∀ b, M b → b ≠ a) (hx : H a = some (.lst xs)) (h : ItemAt N M H R a n) : ItemAt N M (upd H a (.lst (xs.set 0 (.ref r)))) (R.setChain n c) a n := by
  obtain ⟨l, f, g, ⟨n1, n2, n3, n4⟩, h1, h2, h3, us, h4, h5⟩ := h
  have e := lst_inj hx h1
  subst e
  have en : (R.setChain n c).node n = withChain (R.node n) c := by unfold RingS.setChain; rw [setN_same]
  unfold ItemAt ItemL keptM
  rw [en]
  refine ⟨r, f, g, ⟨n1, hr, n3, n4⟩, upd_same, by rw [upd_ne (hM _ hr)]; exact hc, by rw [upd_ne (hM _ n3)]; exact h3, us, by rw [upd_ne (hM _ n4)]; exact h4, ?_⟩
  refine paired_mono (F := RowAt H) (G := RowAt (upd H a _)) (fun t y r => ?_) h5
  have r' : H t = some (.tup [.int y.1, .int y.2.1, oT y.2.2]) := r
  show upd H a _ t = _
  rw [upd_ne (ne_of r' hx fun z => nomatch z)]
  exact r
theorem ItemAt.prior {p : Option Int} {xs : List V} (hM : ∀ b, M b → b ≠ a) (hx : H a = some (.lst xs)) (h : ItemAt N M H R a n) : ItemAt N M (upd H a (.lst (xs.set 1 (oV p)))) (R.setPrior n p) a n := by
  obtain ⟨l, f, g, ⟨n1, n2, n3, n4⟩, h1, h2, h3, us, h4, h5⟩ := h
  have e := lst_inj hx h1
  subst e
  have en : (R.setPrior n p).node n = withPrior (R.node n) p := by unfold RingS.setPrior; rw [setN_same]
  unfold ItemAt ItemL keptM
  rw [en]
  refine ⟨l, f, g, ⟨n1, n2, n3, n4⟩, upd_same, by rw [upd_ne (hM _ n2)]; exact h2, by rw [upd_ne (hM _ n3)]; exact h3, us, by rw [upd_ne (hM _ n4)]; exact h4, ?_⟩
  refine paired_mono (F := RowAt H) (G := RowAt (upd H a _)) (fun t y r => ?_) h5
  have r' : H t = some (.tup [.int y.1, .int y.2.1, oT y.2.2]) := r
  show upd H a _ t = _
  rw [upd_ne (ne_of r' hx fun z => nomatch z)]
  exact r
end
/-! ### tables and deeds compared -/
theorem sqL {K : PySem.W.Frag} {H : Hp} {a : Addr} {xs : List V} (h : H a = some (.lst xs)) : SqL K H a xs := .inl (.inl h)
theorem sqT {K : PySem.W.Frag} {H : Hp} {a : Addr} {xs : List V} (h : H a = some (.tup xs)) : SqT K H a xs := .inl (.inl h)
theorem pairFlat {K : PySem.W.Frag} {H : Hp} {n : Nat} : ∀ {xs : List V}, (∀ x ∈ xs, flatB x = true) → Paired (EqW K H (n + 1)) xs xs
  | [], _ => .nil
  | x :: xs, h => .cons (.inl ⟨rfl, h x (List.mem_cons_self ..)⟩) (pairFlat fun y hy => h y (List.mem_cons_of_mem _ hy))
theorem flatBO (o : Option Int) : flatB (oV o) = true := by cases o <;> rfl
theorem flatBT (o : Option Str) : flatB (oT o) = true := by cases o <;> rfl
theorem scal_flat {v : V} (h : scalV v = true) : flatB v = true := by
  cases v <;> first | rfl | cases h
theorem paired_rows {K : PySem.W.Frag} {H : Hp} : ∀ {us vs : List Addr} {es : List Thing}, Paired (RowAt H) us es → Paired (RowAt H) vs es → Paired (EqW K H 2) (us.map V.ref) (vs.map V.ref)
  | _, _, _, .nil, .nil => .nil
  | _, _, _, .cons (a := u) (b := e) h1 t1, .cons (a := v) h2 t2 => .cons (.inr (.inr ⟨_, _, _, _, rfl, rfl, .inr ⟨sqT h1, sqT h2⟩, pairFlat fun x hx => by
      rcases List.mem_cons.mp hx with rfl | hx
      · rfl
      · rcases List.mem_cons.mp hx with rfl | hx
        · rfl
        · rw [List.mem_singleton.mp hx]
          exact flatBT _⟩)) (paired_rows t1 t2)
theorem item_eq {K : PySem.W.Frag} {L L' : Nat → Addr → Prop} {H : Hp} {R : RingS} {a a' : Addr} {n : Int} (h : ItemL L H R a n) (h' : ItemL L' H R a' n) : EqW K H 4 (.ref a) (.ref a') := by
  obtain ⟨l, f, g, _, h1, h2, h3, us, h4, h5⟩ := h
  obtain ⟨l', f', g', _, k1, k2, k3, us', k4, k5⟩ := h'
  refine .inr (.inr ⟨_, _, _, _, rfl, rfl, .inl ⟨sqL h1, sqL k1⟩, .cons ?_ (.cons (.inl ⟨rfl, flatBO _⟩) (.cons ?_ (.cons ?_ .nil)))⟩)
  · exact .inr (.inr ⟨_, _, _, _, rfl, rfl, .inl ⟨sqL h2, sqL k2⟩, pairFlat fun x hx => by
      obtain ⟨y, _, rfl⟩ := List.mem_map.mp hx
      rfl⟩)
  · exact .inr (.inr ⟨_, _, _, _, rfl, rfl, .inl ⟨sqL h3, sqL k3⟩, pairFlat fun x hx => by
      obtain ⟨y, _, rfl⟩ := List.mem_map.mp hx
      exact flatBO y⟩)
  · exact .inr (.inr ⟨_, _, _, _, rfl, rfl, .inl ⟨sqL h4, sqL k4⟩, paired_rows h5 k5⟩)
theorem tables_eq {K : PySem.W.Frag} {N N' : Addr → Prop} {L L' : Int → Nat → Addr → Prop} {H : Hp} {R : RingS} {D D' : Addr} {ns : List Int} (h : TablesL N L H D R ns) (h' : TablesL N' L' H D' R ns) : DicW K H 4 (.ref D) (.ref D') := by
  obtain ⟨_, f, h1, h2⟩ := h
  obtain ⟨_, f', k1, k2⟩ := h'
  refine ⟨_, _, _, _, rfl, rfl, h1, k1, ?_, fun p hp => ?_⟩
  · unfold kvN
    rw [List.length_map, List.length_map]
  · unfold kvN at hp
    obtain ⟨n, hn, rfl⟩ := List.mem_map.mp hp
    exact ⟨V.ref (f' n), by rw [valV_kvN, if_pos hn], item_eq (h2 n hn) (k2 n hn)⟩
theorem deed_eq {K : PySem.W.Frag} {H : Hp} {v v' : V} {d : Deed} (h : DeedAt H v d) (h' : DeedAt H v' d) : EqW K H 3 v v' := by
  cases d with
  | flat k xs =>
    obtain ⟨a, rfl, h1, h2⟩ := h
    obtain ⟨a', rfl, k1, _⟩ := h'
    refine .inr (.inr ⟨_, _, _, _, rfl, rfl, .inr ⟨sqT h1, sqT k1⟩, pairFlat fun x hx => ?_⟩)
    rcases List.mem_cons.mp hx with rfl | hx
    · rfl
    · exact scal_flat (List.all_eq_true.mp h2 x hx)
  | mend ns =>
    obtain ⟨a, b, rfl, h1, h2⟩ := h
    obtain ⟨a', b', rfl, k1, k2⟩ := h'
    refine .inr (.inr ⟨_, _, _, _, rfl, rfl, .inr ⟨sqT h1, sqT k1⟩, .cons (.inl ⟨rfl, rfl⟩) (.cons (.inr (.inr ⟨_, _, _, _, rfl, rfl, .inr ⟨sqT h2, sqT k2⟩, pairFlat fun x hx => ?_⟩)) .nil)⟩)
    obtain ⟨y, _, rfl⟩ := List.mem_map.mp hx
    rfl
theorem paired_deeds {K : PySem.W.Frag} {H : Hp} : ∀ {us vs : List V} {ds : List Deed}, Paired (DeedAt H) us ds → Paired (DeedAt H) vs ds → Paired (EqW K H 3) us vs
  | _, _, _, .nil, .nil => .nil
  | _, _, _, .cons h1 t1, .cons h2 t2 => .cons (deed_eq h1 h2) (paired_deeds t1 t2)
theorem deeds_eq {K : PySem.W.Frag} {H : Hp} {q q' : Addr} {us vs : List V} {ds : List Deed} (h1 : H q = some (.lst us)) (h2 : Paired (DeedAt H) us ds) (k1 : H q' = some (.lst vs)) (k2 : Paired (DeedAt H) vs ds) : SeqW K H (EqW K H 3) (.ref q) (.ref q') :=
  ⟨_, _, _, _, rfl, rfl, .inl ⟨sqL h1, sqL k1⟩, paired_deeds h2 k2⟩
theorem paired_snoc {α β : Type} {F : α → β → Prop} {x : α} {y : β} (h : F x y) : ∀ {xs : List α} {ys : List β}, Paired F xs ys → Paired F (xs ++ [x]) (ys ++ [y])
  | _, _, .nil => .cons h .nil
  | _, _, .cons a t => .cons a (paired_snoc h t)
theorem TablesL.frame {N : Addr → Prop} {L : Int → Nat → Addr → Prop} {H H' : Hp} {A A' : RA} {D : Addr} {R : RingS} {ns : List Int} (hN : ∀ b, N b → A.ρ b = none) (hL : ∀ n j b, L n j b → A.ρ b = none) (fr : Frame H A H' A') (h : TablesL N L H D R ns) : TablesL N L H' D R ns := by
  obtain ⟨n1, f, h1, h2⟩ := h
  refine ⟨n1, f, (fr.off D _ h1 (fun _ z => nomatch z) (hN D n1)).1, fun n hn => (h2 n hn).keep (fun j b xs nb e => (fr.off b _ e (fun _ z => nomatch z) (hL n j b nb)).1) fr.tup⟩
theorem TablesAt.frame {N : Addr → Prop} {H H' : Hp} {A A' : RA} {D : Addr} {R : RingS} {ns : List Int} (hN : ∀ b, N b → A.ρ b = none) (fr : Frame H A H' A') (h : TablesAt N H D R ns) : TablesAt N H' D R ns :=
  TablesL.frame hN (fun _ j b z => hN b (by cases j <;> exact z)) fr h
/-! ### the script stays -/
def Scr (K : PySem.W.Frag) (H : Hp) (A : RA) (q : Addr) (a : Addr) (xs : List V) : Prop := (∃ o, H a = some o ∧ (o = .lst xs ∨ ∃ ob, o = .frz ob (.lst xs)) ∧ A.ρ a = none ∧ a ≠ q) ∨ ∀ H', SqL K H' a xs
theorem Scr.sq {K : PySem.W.Frag} {H : Hp} {A : RA} {q a : Addr} {xs : List V} (h : Scr K H A q a xs) : SqL K H a xs := by
  rcases h with ⟨o, h1, h2, _⟩ | h
  · rcases h2 with rfl | ⟨ob, rfl⟩
    · exact .inl (.inl h1)
    · exact .inl (.inr ⟨ob, h1⟩)
  · exact h H
theorem Scr.plain {o : HO} {xs : List V} (h : o = .lst xs ∨ ∃ ob, o = .frz ob (.lst xs)) : ∀ ps, o ≠ .tbl ps := fun ps e => by
  rcases h with rfl | ⟨ob, rfl⟩ <;> cases e
theorem Scr.keep {K : PySem.W.Frag} {H H' : Hp} {A A' : RA} {q q' a : Addr} {xs : List V} (h : Scr K H A q a xs) (k : ∀ o, H a = some o → (∀ ps, o ≠ .tbl ps) → (o = .lst xs ∨ ∃ ob, o = .frz ob (.lst xs)) → A.ρ a = none → a ≠ q → H' a = some o ∧ A'.ρ a = none ∧ a ≠ q') : Scr K H' A' q' a xs := by
  rcases h with ⟨o, h1, h2, h3, h4⟩ | h
  · obtain ⟨k1, k2, k3⟩ := k o h1 (Scr.plain h2) h2 h3 h4
    exact .inl ⟨o, k1, h2, k2, k3⟩
  · exact .inr h
theorem Scr.keep2 {K : PySem.W.Frag} {H H' : Hp} {A A' : RA} {q D a : Addr} {xs : List V} (h : Scr K H A q a xs) (h' : Scr K H A D a xs) (k : ∀ o, H a = some o → (∀ ps, o ≠ .tbl ps) → A.ρ a = none → a ≠ q → a ≠ D → H' a = some o ∧ A'.ρ a = none) : Scr K H' A' q a xs ∧ Scr K H' A' D a xs := by
  rcases h with ⟨o, e1, e2, e3, e4⟩ | e
  · rcases h' with ⟨o', e1', e2', e3', e4'⟩ | e'
    · obtain ⟨g1, g2⟩ := k o e1 (Scr.plain e2) e3 e4 e4'
      exact ⟨.inl ⟨o, g1, e2, g2, e4⟩, .inl ⟨o, g1, e2, g2, e4'⟩⟩
    · exact ⟨.inr e', .inr e'⟩
  · exact ⟨.inr e, .inr e⟩
theorem sq_split {K : PySem.W.Frag} {H : Hp} {a : Addr} {xs : List V} (h : SqL K H a xs) : (∃ o, H a = some o ∧ (o = .lst xs ∨ ∃ ob, o = .frz ob (.lst xs))) ∨ ∀ H', SqL K H' a xs := by
  rcases h with h | h
  · rcases h with h | ⟨ob, h⟩
    · exact .inl ⟨_, h, .inl rfl⟩
    · exact .inl ⟨_, h, .inr ⟨ob, rfl⟩⟩
  · exact .inr fun _ => .inr h
/-- what stands at the head of a turn: c deeds asked for, s more that stabilized -/
structure Turn (K : PySem.W.Frag) (c s : Nat) (H : Hp) (A : RA) (R : RingS) (r : Addr) (b : Nat) (a : Addr) (xs : List V) (D : Addr) : Prop where
  at_ : At K H A R
  good : Good (c + s) R
  few : R.names.length ≤ 8 + c
  ring : A.r = r
  bits : R.bits = b
  dict : ∃ kvs, H D = some (.dK kvs) ∧ kvs.length ≤ c
  rD : A.ρ D = none
  scr : Scr K H A D a xs
end Nn
set_option Elab.async false
set_option linter.all false
set_option maxRecDepth 100000
set_option maxHeartbeats 1000000
namespace Nn
open PySem PySem.Spec PyProof.Rows L2 LamX KeyL
/-! ### copies -/
section
variable {P : Program} {w : World} {K : PySem.W.Frag} {mg : Str → Option Value} {base : Heap}
def spTwin (K : PySem.W.Frag) : Sp := fun vs H Q _ => ∃ (nd nx ac af at_ : Addr) (s : NodeS), vs = [.ref nd] ∧ Tabs (tabT K) H ∧ NodeAt K H nd nx ac af at_ s ∧
  ∀ nd' nx' ac' af' at' H', NotOld H nd' → NotOld H ac' → NotOld H af' → NotOld H at' → ac' ≠ af' → NodeAt K H' nd' nx' ac' af' at' s → Fin K H H' → Q (.ref nd') H'
/-! a lock taken off -/
theorem Part.unlock {H3 H6 : Hp} {D a : Addr} {u : HO} {od : Obj} {N : Int → NodeS} {ns : List Int} {i : Nat} (hu : H3 a = some u) (hp : plainO u = true) (h : Part K (upd H3 a (.frz od u)) H6 D N ns i) (hD : H3 D = none) (t6 : Tabs (tabT K) (upd H6 a u)) :
    Part K H3 (upd H6 a u) D N ns i := by
  obtain ⟨f, nd, nx, ac, af, at_, ρ, hd, hN, hρ⟩ := h
  have ha6 : H6 a = some (.frz od u) := f.1 _ _ upd_same fun _ z => nomatch z
  have Da : D ≠ a := fun e => by rw [e, hu] at hD; cases hD
  have old : ∀ c, NotOld (upd H3 a (.frz od u)) c → NotOld H3 c ∧ c ≠ a := fun c hc => by
    have ca : a ≠ c := hc a _ upd_same fun _ z => nomatch z
    refine ⟨fun b o e1 e2 => ?_, Ne.symm ca⟩
    by_cases q : b = a
    · rw [q]; exact ca
    · exact hc b o (by rw [upd_ne q]; exact e1) e2
  refine ⟨⟨fun b o e1 e2 => ?_, t6⟩, nd, nx, ac, af, at_, ρ, by rw [upd_ne Da]; exact hd, fun n hn => ?_, fun c ro hc => ?_⟩
  · by_cases q : b = a
    · rw [q, upd_same, ← hu, ← q]
      exact e1
    · rw [upd_ne q]
      exact f.1 b o (by rw [upd_ne q]; exact e1) e2
  · obtain ⟨a1, a2, a3, a4, a5⟩ := hN n hn
    refine ⟨a1.ext (fun b o hb e => ?_) fun b xs e => ?_, a2, a3, a4, a5⟩
    · have hr : ∃ ro, ρ b = some ro := by
        rcases hb with rfl | rfl | rfl | rfl
        · exact ⟨_, a2⟩
        · exact ⟨_, a3⟩
        · exact ⟨_, a4⟩
        · exact ⟨_, a5⟩
      obtain ⟨ro, hro⟩ := hr
      rw [upd_ne (old b (hρ b ro hro).2.1).2]
      exact e
    · rw [upd_ne (ne_of e ha6 fun z => nomatch z)]
      exact e
  · obtain ⟨g1, g2, o, g3, g4⟩ := hρ c ro hc
    obtain ⟨o1, o2⟩ := old c g2
    exact ⟨g1, o1, o, by rw [upd_ne o2]; exact g3, g4⟩
def spCopied (K : PySem.W.Frag) : Sp := fun vs H Q _ => ∃ (A : RA) (R : RingS), vs = [.ref A.r] ∧ At K H A R ∧ ∀ A' H', At K H' A' R → (∀ b ro, A'.ρ b = some ro → NotOld H b) → Fin K H H' → Q (.ref A'.r) H'
end
end Nn
set_option Elab.async false
set_option linter.all false
set_option maxRecDepth 100000
namespace KeyL
open PySem PySem.Spec PyProof.Rows PySem.W PySem.Builtin
/-! ### x != y of instances of a class that has an own == and no own != -/
section
variable {prog : Program} {w : World} {A : Around} {E : Value → Shared → Prop} {s : Shared} {K : PySem.W.Frag} {x C L f : Addr} {h₀ : Heap} {m : Str → Option Value} {ox : Obj} {od : Option Obj} {b tb : Value}
theorem ne_entry {y : Value} (X : K.In s.heap) (I : InstAt s.heap x ox C od) (he : findIn K (.ref C) "__eq__" = some (some (.ref f))) (hf : isFn K (.ref f) = true) (hu : A.units < cLine) {Q : Fin → Shared → Prop}
    (hcall : wpAny (model prog w) A (call (.ref f) [.ref x, y]) (fun v s' => ∃ t, v = .bool t ∧ Q (.done (.ret (.bool (!t)))) s') E s) : wpAny (model prog w) A (Builtin.«object.__ne__» ⟨[.ref x, y], []⟩) Q E s := by
  unfold Builtin.«object.__ne__»
  repeat (first
    | with_reducible refine wpAny_cRoomFor hu ?_
    | (refine wpAny_bind (m := callSpecialIfBound? (.ref x) (Str.ofString "__eq__") [y])
        (ifBound_K X I he hf (wpAny_mono hcall (fun v s' hr => by
          obtain ⟨t, rfl, hq⟩ := hr
          repeat (first | exact hq | exact wpAny_pure hq | exact wpAny_truthy_bool hq | (refine wpAny_bind (m := truthy (.bool _)) (wpAny_truthy_bool ?_)) | wp_step)) fun _ _ e => e)))
    | wp_step)
theorem ne_K {Q : Value → Shared → Prop} (hu : A.units + 1 < cLine) (F : Fr h₀ L s.heap m) (X₀ : K.In h₀) (I : InstAt s.heap x ox C od) (hb : Looks (model prog w) s.heap (typeOf b) tb) (hn : notFirst K C tb = true)
    (hs : findIn K (.ref C) "__ne__" = some (some (.builtin "object.__ne__"))) (hm : mroIn K C (.type "object") = some true) (he : findIn K (.ref C) "__eq__" = some (some (.ref f))) (hf : isFn K (.ref f) = true)
    (h : wpAny (model prog w) A.in1 (call (.ref f) [.ref x, b]) (fun v s' => ∃ t, v = .bool t ∧ Q (.bool (!t)) s') E s) : wpAny (model prog w) A (richCompare .NotEq (.ref x) b) Q E s := by
  have X := X₀.keeps F.keep
  have sub : Looks (model prog w) s.heap (isInstance (.ref x) (.type "object")) true := I.type.andThen (looks_mroIn X hm)
  have called : wpAny (model prog w) A (call (.builtin "object.__ne__") [.ref x, b]) (fun v s' => ∃ t, v = .bool t ∧ Q (.bool t) s') E s :=
    wpAny_call (codeAny_call_builtin PySem.F.cmp_object.ne.plain PySem.F.cmpEntry_ne (check_slot PySem.F.cmpKind_ne PySem.F.cmpSplit_ne sub (PySem.F.cmpArgs_ne _ _) (ne_entry (A := A.in1) X I he hf hu (wpAny_mono h (fun v s' hv => by
      obtain ⟨t, e, hq⟩ := hv
      exact ⟨t, e, !t, rfl, hq⟩) fun _ _ e => e))))
  have fin : wpAny (model prog w) A (call (.builtin "object.__ne__") ([.ref x] ++ [b]) >>= fun v => pure (some v)) (fun r s' => ∃ t, r = some (.bool t) ∧ Q (.bool t) s') E s :=
    wpAny_bind (wpAny_mono called (fun v s' hv => by
      obtain ⟨t, rfl, hq⟩ := hv
      exact wpAny_pure ⟨t, rfl, hq⟩) fun _ _ e => e)
  have bound : wpAny (model prog w) A (callSpecialIfBound? (.ref x) "__ne__" [b]) (fun r s' => ∃ t, r = some (.bool t) ∧ Q (.bool t) s') E s := by
    simp only [callSpecialIfBound?, bindSpecialIfBound?]
    refine wpAny_holding (wpAny_bind (wpAny_bind (wpAny_bind (I.type.here ((looks_findIn X hs).here ?_)))))
    simp only [PySem.F.cmp_object.ne.bind]
    refine wpAny_bind (wpAny_askSetting (wpAny_ite ?_))
    split
    · exact wpAny_bind (wpAny_pure (wpAny_pure fin))
    · exact wpAny_tryCatch (wpAny_bind (wpAny_pure (wpAny_pure fin)))
  have one : wpAny (model prog w) A (tryCompare (.ref x) "__ne__" b) (fun r s' => ∃ v, r = some v ∧ Q v s') E s := by
    unfold tryCompare
    exact wpAny_bind (wpAny_mono bound (fun r s' z => by
      obtain ⟨t, rfl, hq⟩ := z
      exact wpAny_pure ⟨_, rfl, hq⟩) fun _ _ e => e)
  unfold richCompare
  simp only [oneThing_ref]
  refine wpAny_holding (wpAny_bind (wpAny_cRoomFor (by omega) ?_))
  refine wpAny_bind (I.type.here (wpAny_bind (hb.here ?_)))
  split
  · rename_i q
    have e : subIn K tb (.ref C) = some false := by
      rcases Bool.or_eq_true_iff.mp hn with e | e
      · rw [beq_iff_eq.mp e] at q; simp at q
      · exact beq_iff_eq.mp e
    refine wpAny_bind ((looks_subIn X e).here ?_)
    simp only [Bool.false_eq_true, if_false]
    refine wpAny_bind (wpAny_mono one (fun r s' z => ?_) fun _ _ e => e)
    obtain ⟨v, rfl, hq⟩ := z
    exact wpAny_pure hq
  · refine wpAny_bind (wpAny_pure ?_)
    simp only [Bool.false_eq_true, if_false]
    refine wpAny_bind (wpAny_mono one (fun r s' z => ?_) fun _ _ e => e)
    obtain ⟨v, rfl, hq⟩ := z
    exact wpAny_pure hq
end
end KeyL
namespace KeyL
open PySem PySem.Spec PyProof.Rows L2
section
variable {X : Cx}
/-- what is asked of two instances: what their own == promises -/
def rOwn (sp : Sp) (C : Addr) (E : XK) (neg : Bool) : R2 := fun x y H Q => ∃ a b dx dy fs gs, x = .ref a ∧ y = .ref b ∧ H a = some (.ins C dx fs) ∧ H b = some (.ins C dy gs) ∧ sp [.ref a, .ref b] H (fun v H' => ∃ t, v = .bl t ∧ Q (.bl (t != neg)) H') E
theorem run_own {CX : CXT} {n : Nat} {f : Addr} {fd : FuncData} {ps : List Str} {sp : Sp} {E : XK} (F : FnOk X.prog X.w X.K X.mg X.base CX n f fd ps sp) (hb : Binds X.K fd ps []) (hx : Passes CX X E) {A : Around} (hr : Room n A) (hfr : A.frames = X.A.frames)
    {pins : List (Addr × Obj)} {σ : L2.St} {H : Hp} {s : Shared} {a b : Addr} (I : Inv X pins σ H s) {Q : VK} (h : sp [.ref a, .ref b] H (fun v H' => ∃ t, v = .bl t ∧ Q (.bl t) H') E) :
    wpAny (model X.prog X.w) A (call (.ref f) [.ref a, .ref b]) (fun r s' => ∃ t, r = .bool t ∧ ∃ H', Inv X pins σ H' s' ∧ Q (.bl t) H') X.xe s := by
  have e0 : Env0 X.prog X.w X.K X.mg X.base A X.stack s H := by
    have e := I.env0
    exact ⟨by rw [hfr]; exact e.frames, e.mod, e.bs, e.bsz, e.funs, e.frf, e.hok, e.bare⟩
  have hl := F.len _ _ _ _ h
  have r2 : Vals [V.ref a, V.ref b] [Value.ref a, Value.ref b] := .cons rfl (.cons rfl .nil)
  refine wpAny_call (codeAny_mono (F.run A X.stack s H ⟨[.ref a, .ref b], []⟩ [.ref a, .ref b] [.ref a, .ref b] _ E hr e0 (by
    have := hb s [.ref a, .ref b] I.kIn (by simpa using hl)
    simpa using this) r2 h) fun r s' hq => ?_)
  cases r with
  | error e => exact hx pins σ H s e s' I hq
  | ok fl =>
    cases fl with
    | ret w =>
      obtain ⟨z, H', I', rz, ez⟩ := I.after hq
      obtain ⟨t, rfl, q⟩ := ez
      cases rz
      exact ⟨t, rfl, H', I', q⟩
    | next => exact False.elim hq
    | brk => exact False.elim hq
    | cont => exact False.elim hq
theorem op_eqOwn {CX : CXT} {C f : Addr} {n : Nat} {fd : FuncData} {ps : List Str} {sp : Sp} {E : XK} (F : FnOk X.prog X.w X.K X.mg X.base CX n f fd ps sp) (hs : PySem.W.findIn X.K (.ref C) "__eq__" = some (some (.ref f))) (hf : PySem.W.isFn X.K (.ref f) = true)
    (hb : Binds X.K fd ps []) (hx : Passes CX X E) (hr : Room n X.A) : OpR X (compareOp .Eq) (rOwn sp C E false) := by
  intro pins s σ H x y v u Q I rx ry h
  obtain ⟨a, b, dx, dy, fs, gs, rfl, rfl, ha, hb', hsp⟩ := h
  cases rx
  cases ry
  obtain ⟨mA, J, _⟩ := ins_get I.hok ha
  obtain ⟨mB, J', _⟩ := ins_get I.hok hb'
  obtain ⟨od, J, _⟩ := J.look
  obtain ⟨od', J', _⟩ := J'.look
  obtain ⟨m, hF⟩ := I.fr
  have z := run_own F hb hx hr rfl I (Q := fun v H' => Q v H') (by
    have e : (fun (v : V) (H' : Hp) => ∃ t, v = .bl t ∧ Q (.bl (t != false)) H') = fun v H' => ∃ t, v = .bl t ∧ Q (.bl t) H' := by
      funext v H'
      congr 1
      funext t
      rw [Bool.bne_false]
    rw [← e]
    exact hsp)
  show wpAny (model X.prog X.w) X.A (richCompare .Eq (.ref a) (.ref b)) _ _ s
  refine PySem.W.cmp_K (op := .Eq) (tb := .ref C) hr.units0 hF I.ok.mod.kin J J'.type (by simp [PySem.W.notFirst]) hs hf (wpAny_mono z (fun r s' hq => ?_) fun _ _ e => e)
  obtain ⟨t, rfl, H', I', q⟩ := hq
  exact ⟨.bl t, H', I', rfl, q⟩
theorem op_neOwn {CX : CXT} {C f : Addr} {n : Nat} {fd : FuncData} {ps : List Str} {sp : Sp} {E : XK} (F : FnOk X.prog X.w X.K X.mg X.base CX n f fd ps sp) (hs : PySem.W.findIn X.K (.ref C) "__eq__" = some (some (.ref f))) (hf : PySem.W.isFn X.K (.ref f) = true)
    (hne : PySem.W.findIn X.K (.ref C) "__ne__" = some (some (.builtin "object.__ne__"))) (hm : PySem.W.mroIn X.K C (.type "object") = some true)
    (hb : Binds X.K fd ps []) (hx : Passes CX X E) (hr : Room (n + 1) X.A) : OpR X (compareOp .NotEq) (rOwn sp C E true) := by
  intro pins s σ H x y v u Q I rx ry h
  obtain ⟨a, b, dx, dy, fs, gs, rfl, rfl, ha, hb', hsp⟩ := h
  cases rx
  cases ry
  obtain ⟨mA, J, _⟩ := ins_get I.hok ha
  obtain ⟨mB, J', _⟩ := ins_get I.hok hb'
  obtain ⟨od, J, _⟩ := J.look
  obtain ⟨od', J', _⟩ := J'.look
  obtain ⟨m, hF⟩ := I.fr
  have z := run_own F hb hx hr.in1 rfl I (Q := fun v H' => ∃ t, v = .bl t ∧ Q (.bl (!t)) H') (by
    have e : (fun (v : V) (H' : Hp) => ∃ t, v = .bl t ∧ Q (.bl (t != true)) H') = fun v H' => ∃ t, v = .bl t ∧ ∃ t', (V.bl t) = .bl t' ∧ Q (.bl (!t')) H' := by
      funext v H'
      congr 1
      funext t
      rw [Bool.bne_true]
      refine propext ⟨fun ⟨h1, h2⟩ => ⟨h1, t, rfl, h2⟩, fun ⟨h1, t', h2, h3⟩ => ⟨h1, ?_⟩⟩
      cases h2
      exact h3
    rw [← e]
    exact hsp)
  show wpAny (model X.prog X.w) X.A (richCompare .NotEq (.ref a) (.ref b)) _ _ s
  refine ne_K (tb := .ref C) (by have := hr.units; omega) hF I.ok.mod.kin J J'.type (by simp [PySem.W.notFirst]) hne hm hs hf (wpAny_mono z (fun r s' hq => ?_) fun _ _ e => e)
  obtain ⟨t, rfl, H', I', t', e, q⟩ := hq
  cases e
  exact ⟨t, rfl, .bl (!t), H', I', rfl, q⟩
end
end KeyL
set_option Elab.async false
set_option linter.all false
set_option maxRecDepth 100000
namespace KeyL
open PySem PySem.Spec PyProof.Rows L2
/-! ### a call with keywords whose exception a try takes -/
def tCallNS (n m : Nat) (sp : Sp) (gV : List V → List V → List V) (E : L2.St → XK) (t tk : TA) : TE := fun σ H Q => t σ H fun vs H1 => tk σ H1 fun zs H2 => vs.length = n ∧ zs.length = m ∧ sp (gV vs zs) H2 Q (E σ)
section
variable {X : Cx} {CX : CXT} {k n : Nat} {f : Addr} {fd : FuncData} {ps ks : List Str} {sp : Sp} {E : L2.St → XK} {x : Str} {p pos : Pos} {e : Expr} {es : List Expr} {kws : List Keyword} {t tk : TA} {g : List Value → List Value → List Value} {gV : List V → List V → List V}
theorem run_fnNS {pins : List (Addr × Obj)} {σ : L2.St} {H : Hp} {s : Shared} {Q : VK} {us ws : List Value} {vs zs : List V} (F : FnOk X.prog X.w X.K X.mg X.base CX k f fd ps sp) (hr : Room k X.A) (hb : KBn X.K fd ps n ks g gV) (hx : PassesAt CX X σ (E σ))
    (I : Inv X pins σ H s) (r : Vals vs us) (rz : Vals zs ws) (l1 : vs.length = n) (l2 : zs.length = ks.length) (h : sp (gV vs zs) H Q (E σ)) : wpAny (model X.prog X.w) X.A (call (.ref f) us (ks.zip ws)) (EP X pins σ Q) X.xe s := by
  have r2 := hb.rel r rz
  refine wpAny_call (codeAny_mono (F.run X.A X.stack s H ⟨us, ks.zip ws⟩ (g us ws) (gV vs zs) Q (E σ) hr I.env0 (hb.to s us ws I.kIn (r.length.symm.trans l1) (rz.length.symm.trans l2)) r2 h) fun r s' hq => ?_)
  cases r with
  | error e => exact hx pins H s e s' I hq
  | ok fl =>
    cases fl with
    | ret u => exact I.after hq
    | next => exact False.elim hq
    | brk => exact False.elim hq
    | cont => exact False.elim hq
theorem pe_callNS (F : FnOk X.prog X.w X.K X.mg X.base CX k f fd ps sp) (hr : Room k X.A) (hg : Gl X x) (hm : X.mg x = some (.ref f)) (hk : PySem.W.keepIn X.K (.ref f) = true) (hb : KBn X.K fd ps n ks g gV) (hx : ∀ σ, PassesAt CX X σ (E σ))
    (ha : PA X (e :: es) t) (hkw : PK X kws tk) (hall : (backToKw pos (keywordEach kws X.env)).all (·.1.isSome) = true := by rfl) (hks : (backToKw pos (keywordEach kws X.env)).filterMap (·.1) = ks := by rfl)
    (hdb : (x == ("__debug__" : Str)) = false := by decide) (he : starEach (e :: es) X.env = (false, eval e X.env) :: starEach es X.env := by rfl)
    (hpl : ((backTo pos (starEach (e :: es) X.env)).any (·.1) || (backToKw pos (keywordEach kws X.env)).any (·.1.isNone)) = false := by rfl) :
    PE X (.Call (.Name x p) (e :: es) kws pos) (tCallNS n ks.length sp gV E t tk) := by
  refine ⟨fun pins s σ H Q I h => ?_⟩
  refine wpAny_Call_Name_kw (ld_glob I hg hm ?_ hdb)
  refine PySem.W.callWith_KW (h₀ := X.base) I.ok.mod.kin hk hall (thn (ha.run pos pins s σ H _ I h) fun us s1 ⟨vs, H1, I1, r, q⟩ => ?_) hpl he
  refine thn (hkw.run pos pins s1 σ H1 _ I1 q) fun ws s2 ⟨zs, H2, I2, rz, l1, l2, q2⟩ => ⟨I2.kIn, ?_⟩
  rw [hks]
  exact run_fnNS F hr hb (hx σ) I2 r rz l1 l2 q2
end
end KeyL
set_option Elab.async false
set_option linter.all false
set_option maxRecDepth 100000
set_option maxHeartbeats 1000000
namespace Nn
open PySem PySem.Spec PyProof.Rows L2 LamX KeyL
/-! ### rings told and compared -/
def TupI (H : Hp) (u : Addr) (e : Thing) : Prop := ∃ f, H u = some (.tup [.int e.1, .ref f]) ∧ H f = some (.tup [.int e.2.1, oT e.2.2])
def sortT (l : List Thing) : List Thing := l.mergeSort fun x y => decide (x.1 ≤ y.1)
def TNode (N : Addr → Prop) (H : Hp) (t : Addr) (s : NodeS) : Prop := ∃ (q r p : Addr) (ts : List Addr), (N q ∧ N r ∧ N p) ∧ H t = some (.tup [.ref q, oV s.prior, .ref r, .ref p]) ∧ H q = some (.lst (s.chain.map V.int)) ∧ H r = some (.lst (s.far.map oV)) ∧ H p = some (.lst (ts.map V.ref)) ∧ Paired (TupI H) ts (sortT s.things)
def RowT (N : Addr → Prop) (H : Hp) (R : RingS) (u : Addr) (n : Int) : Prop := ∃ t, H u = some (.tup [.int n, .ref t]) ∧ TNode N H t (R.node n)
def TRing (H : Hp) (t : Addr) (R : RingS) : Prop := ∃ (lb lr : Addr) (us : List Addr), H t = some (.tup [.int R.bits, .int R.many, .ref lb, .int R.puts.length, .ref lr]) ∧ H lb = some (.lst (R.fixed.map V.int)) ∧ H lr = some (.lst (us.map V.ref)) ∧ Paired (RowT (fun _ => True) H R) us (membersM R)
theorem TupI.ext {H H' : Hp} (e : ∀ b xs, H b = some (.tup xs) → H' b = some (.tup xs)) {u : Addr} {x : Thing} (h : TupI H u x) : TupI H' u x := by
  obtain ⟨f, h1, h2⟩ := h
  exact ⟨f, e _ _ h1, e _ _ h2⟩
theorem TNode.ext {N N' : Addr → Prop} {H H' : Hp} (eN : ∀ b xs, H b = some (.lst xs) → N b → N' b) (e1 : ∀ b xs, N b → H b = some (.lst xs) → H' b = some (.lst xs)) (e2 : ∀ b xs, H b = some (.tup xs) → H' b = some (.tup xs)) {t : Addr} {s : NodeS} (h : TNode N H t s) : TNode N' H' t s := by
  obtain ⟨q, r, p, ts, ⟨n1, n2, n3⟩, h1, h2, h3, h4, h5⟩ := h
  exact ⟨q, r, p, ts, ⟨eN _ _ h2 n1, eN _ _ h3 n2, eN _ _ h4 n3⟩, e2 _ _ h1, e1 _ _ n1 h2, e1 _ _ n2 h3, e1 _ _ n3 h4, paired_mono (fun _ _ z => TupI.ext e2 z) h5⟩
theorem RowT.ext {N N' : Addr → Prop} {H H' : Hp} {R : RingS} (eN : ∀ b xs, H b = some (.lst xs) → N b → N' b) (e1 : ∀ b xs, N b → H b = some (.lst xs) → H' b = some (.lst xs)) (e2 : ∀ b xs, H b = some (.tup xs) → H' b = some (.tup xs)) {u : Addr} {n : Int} (h : RowT N H R u n) : RowT N' H' R u n := by
  obtain ⟨t, h1, h2⟩ := h
  exact ⟨t, e2 _ _ h1, h2.ext eN e1 e2⟩
theorem seqW_mono {K : PySem.W.Frag} {H : Hp} {E F : V → V → Prop} (h : ∀ x y, E x y → F x y) {x y : V} (z : SeqW K H E x y) : SeqW K H F x y := by
  obtain ⟨a, b, xs, ys, e1, e2, e3, e4⟩ := z
  exact ⟨a, b, xs, ys, e1, e2, e3, paired_mono h e4⟩
theorem eqW_succ {K : PySem.W.Frag} {H : Hp} : ∀ {n : Nat} {x y : V}, EqW K H n x y → EqW K H (n + 1) x y
  | 0, _, _, h => h.elim
  | n + 1, _, _, h => by
    rcases h with h | h | h
    · exact .inl h
    · exact .inr (.inl h)
    · exact .inr (.inr (seqW_mono (fun _ _ z => eqW_succ z) h))
theorem sortRows {H1 : Hp} {f : Int → Addr} {things : List Thing} {xs ys : List V} (hk : (things.map (·.1)).Nodup) (hP3 : Paired (fun x (e : Thing) => ∃ t, x = V.ref t ∧ H1 t = some (.tup [.int e.1, V.ref (f e.1)])) xs things) :
    (∀ x ∈ xs, ∃ t y, x = V.ref t ∧ H1 t = some (.tup [.int (hdI H1 x), y])) ∧ (∀ x ∈ xs, ∀ y ∈ xs, hdI H1 x = hdI H1 y → ∃ i : Nat, xs[i]? = some x ∧ xs[i]? = some y) ∧
    (ys.Perm xs → ys.Pairwise (fun x y => hdI H1 x ≤ hdI H1 y) → Paired (fun x (e : Thing) => ∃ t, x = V.ref t ∧ H1 t = some (.tup [.int e.1, V.ref (f e.1)])) ys (sortT things)) := by
  have keyOf := paired_memL hP3
  have unq : ∀ x ∈ things, ∀ y ∈ things, x.1 = y.1 → x = y := by
    intro x hx y hy e
    obtain ⟨i, hi⟩ := List.mem_iff_getElem?.mp hx
    obtain ⟨j, hj⟩ := List.mem_iff_getElem?.mp hy
    have hi2 : (things.map (·.1))[i]? = some x.1 := by rw [List.getElem?_map, hi]; rfl
    have hj2 : (things.map (·.1))[j]? = some x.1 := by rw [List.getElem?_map, hj, e]; rfl
    have hl : i < (things.map (·.1)).length := (List.getElem?_eq_some_iff.mp hi2).1
    have eij : i = j := (List.getElem?_inj hl hk).mp (hi2.trans hj2.symm)
    rw [eij, hj] at hi
    exact (Option.some.inj hi).symm
  refine ⟨fun x hx => ?_, fun x hx y hy e => ?_, fun hperm hsrt => ?_⟩
  · obtain ⟨e, _, t, rfl, h1⟩ := keyOf x hx
    exact ⟨t, _, rfl, by rw [hdI_at h1]; exact h1⟩
  · obtain ⟨i, hi⟩ := List.mem_iff_getElem?.mp hx
    obtain ⟨j, hj⟩ := List.mem_iff_getElem?.mp hy
    obtain ⟨e1, a1, t1, rfl, b1⟩ := paired_at hP3 hi
    obtain ⟨e2, a2, t2, rfl, b2⟩ := paired_at hP3 hj
    rw [hdI_at b1, hdI_at b2] at e
    have hi2 : (things.map (·.1))[i]? = some e1.1 := by rw [List.getElem?_map, a1]; rfl
    have hj2 : (things.map (·.1))[j]? = some e1.1 := by rw [List.getElem?_map, a2, e]; rfl
    have hl : i < (things.map (·.1)).length := (List.getElem?_eq_some_iff.mp hi2).1
    have eij : i = j := (List.getElem?_inj hl hk).mp (hi2.trans hj2.symm)
    rw [← eij] at hj
    exact ⟨i, hi, hj⟩
  · obtain ⟨es, hE, pE⟩ := paired_perm hperm hP3
    have hS : es.Pairwise fun x y => x.1 ≤ y.1 := by
      refine paired_pw (r := fun x y => hdI H1 x ≤ hdI H1 y) (fun x y u v => ?_) hE hsrt
      rintro ⟨t, rfl, h1⟩ ⟨t', rfl, h2⟩ h3
      rw [hdI_at h1, hdI_at h2] at h3
      exact h3
    have pS : (sortT things).Perm things := List.mergeSort_perm ..
    have sS : (sortT things).Pairwise fun x y => x.1 ≤ y.1 := by
      have h := List.pairwise_mergeSort (le := fun x y : Thing => decide (x.1 ≤ y.1)) (fun x y z h1 h2 => by simp at *; omega) (fun x y => by simp; omega) things
      exact h.imp fun h => by simpa using h
    have eK : es = sortT things := by
      refine sortedU (g := fun e : Thing => e.1) (pE.trans pS.symm) hS sS fun x hx y hy e => ?_
      exact unq x (pS.mem_iff.mp hx) y (pS.mem_iff.mp hy) e
    rw [← eK]
    exact hE
/-- two lists of the same things in any order are sorted alike -/
theorem sortT_perm {l l' : List Thing} (hk : (l'.map (·.1)).Nodup) (p : l.Perm l') : sortT l = sortT l' := by
  have pS : ∀ l, (sortT l).Perm l := fun l => List.mergeSort_perm ..
  have sS : ∀ l, (sortT l).Pairwise fun x y => x.1 ≤ y.1 := fun l => by
    have h := List.pairwise_mergeSort (le := fun x y : Thing => decide (x.1 ≤ y.1)) (fun x y z h1 h2 => by simp at *; omega) (fun x y => by simp; omega) l
    exact h.imp fun h => by simpa using h
  refine sortedU (g := fun e : Thing => e.1) ((pS l).trans (p.trans (pS l').symm)) (sS l) (sS l') fun x hx y hy e => ?_
  have hx := (pS l').mem_iff.mp hx
  have hy := (pS l').mem_iff.mp hy
  obtain ⟨i, hi⟩ := List.mem_iff_getElem?.mp hx
  obtain ⟨j, hj⟩ := List.mem_iff_getElem?.mp hy
  have hi2 : (l'.map (·.1))[i]? = some x.1 := by rw [List.getElem?_map, hi]; rfl
  have hj2 : (l'.map (·.1))[j]? = some x.1 := by rw [List.getElem?_map, hj, e]; rfl
  have hl : i < (l'.map (·.1)).length := (List.getElem?_eq_some_iff.mp hi2).1
  have eij : i = j := (List.getElem?_inj hl hk).mp (hi2.trans hj2.symm)
  rw [eij, hj] at hi
  exact (Option.some.inj hi).symm
section
variable {P : Program} {w : World} {K : PySem.W.Frag} {mg : Str → Option Value} {base : Heap}
def spToldN (K : PySem.W.Frag) : Sp := fun vs H Q _ => ∃ (nd nx ac af at_ : Addr) (s : NodeS), vs = [.ref nd] ∧ Tabs (tabT K) H ∧ NodeAt K H nd nx ac af at_ s ∧ s.chain.length < 1000 ∧
  ∀ t H', TNode (NotOld H) H' t s → Fin K H H' → Q (.ref t) H'
def spToldR (K : PySem.W.Frag) : Sp := fun vs H Q _ => ∃ (A : RA) (R : RingS), vs = [.ref A.r] ∧ At K H A R ∧ ∀ t H', TRing H' t R → Fin K H H' → Q (.ref t) H'
theorem insC (S : Say K mg base) {x : Str} (hx : x ∈ eqL) (hc : Cls K (He.ga K x)) : C8.InsC K (He.ga K x) ∧ PySem.W.findIn K (.ref (He.ga K x)) "__ne__" = some (some (.builtin "object.__ne__")) := by
  have z := S.ne
  unfold neB at z
  rcases Bool.or_eq_true_iff.mp z with z | z
  · rw [List.isEmpty_iff.mp z] at hx
    cases hx
  · simp only [Bool.and_eq_true, decide_eq_true_eq, List.all_eq_true] at z
    obtain ⟨z1, z2, z3⟩ := z
    have y := z3 x hx
    unfold isiB at y
    simp only [Bool.and_eq_true, decide_eq_true_eq] at y
    exact ⟨⟨hc, y.1, z1, z2, y.2.1, y.2.2.1⟩, y.2.2.2⟩
theorem pairI {H : Hp} {n : Nat} (xs : List Int) : Paired (EqW K H (n + 1)) (xs.map V.int) (xs.map V.int) := pairFlat fun x hx => by
  obtain ⟨y, _, rfl⟩ := List.mem_map.mp hx
  rfl
theorem tupI_eq {H : Hp} : ∀ {us vs : List Addr} {es : List Thing}, Paired (TupI H) us es → Paired (TupI H) vs es → Paired (EqW K H 3) (us.map V.ref) (vs.map V.ref)
  | _, _, _, .nil, .nil => .nil
  | _, _, _, .cons ⟨f, a1, a2⟩ t1, .cons ⟨f', b1, b2⟩ t2 => .cons (.inr (.inr ⟨_, _, _, _, rfl, rfl, .inr ⟨sqT a1, sqT b1⟩, .cons (.inl ⟨rfl, rfl⟩) (.cons (.inr (.inr ⟨_, _, _, _, rfl, rfl, .inr ⟨sqT a2, sqT b2⟩, .cons (.inl ⟨rfl, rfl⟩) (.cons (.inl ⟨rfl, flatBT _⟩) .nil)⟩)) .nil)⟩)) (tupI_eq t1 t2)
theorem tnode_eq {H : Hp} {t t' : Addr} {s s' : NodeS} {N N' : Addr → Prop} (h : TNode N H t s) (h' : TNode N' H t' s') (e1 : s'.chain = s.chain) (e2 : s'.prior = s.prior) (e3 : s'.far = s.far) (e4 : sortT s'.things = sortT s.things) : EqW K H 5 (.ref t) (.ref t') := by
  obtain ⟨q, r, p, ts, _, h1, h2, h3, h4, h5⟩ := h
  obtain ⟨q', r', p', ts', _, g1, g2, g3, g4, g5⟩ := h'
  rw [e1] at g2
  rw [e2] at g1
  rw [e3] at g3
  rw [e4] at g5
  refine .inr (.inr ⟨_, _, _, _, rfl, rfl, .inr ⟨sqT h1, sqT g1⟩, .cons ?_ (.cons (.inl ⟨rfl, flatBO _⟩) (.cons ?_ (.cons ?_ .nil)))⟩)
  · exact .inr (.inr ⟨_, _, _, _, rfl, rfl, .inl ⟨sqL h2, sqL g2⟩, pairI _⟩)
  · exact .inr (.inr ⟨_, _, _, _, rfl, rfl, .inl ⟨sqL h3, sqL g3⟩, pairFlat fun x hx => by
      obtain ⟨y, _, rfl⟩ := List.mem_map.mp hx
      exact flatBO y⟩)
  · exact .inr (.inr ⟨_, _, _, _, rfl, rfl, .inl ⟨sqL h4, sqL g4⟩, tupI_eq h5 g5⟩)
/-- alike by all that is told -/
structure Alike (R R' : RingS) : Prop where
  bits : R'.bits = R.bits
  many : R'.many = R.many
  fixed : R'.fixed = R.fixed
  puts : R'.puts.length = R.puts.length
  names : membersM R' = membersM R
  node : ∀ n ∈ membersM R, (R'.node n).chain = (R.node n).chain ∧ (R'.node n).prior = (R.node n).prior ∧ (R'.node n).far = (R.node n).far ∧ sortT (R'.node n).things = sortT (R.node n).things
theorem rows_eq {N N' : Addr → Prop} {H : Hp} {R R' : RingS} : ∀ {us vs : List Addr} {ns : List Int}, (∀ n ∈ ns, (R'.node n).chain = (R.node n).chain ∧ (R'.node n).prior = (R.node n).prior ∧ (R'.node n).far = (R.node n).far ∧ sortT (R'.node n).things = sortT (R.node n).things) → Paired (RowT N H R) us ns → Paired (RowT N' H R') vs ns → Paired (EqW K H 6) (us.map V.ref) (vs.map V.ref)
  | _, _, _, _, .nil, .nil => .nil
  | _, _, _, hn, .cons ⟨t, a1, a2⟩ t1, .cons ⟨t', b1, b2⟩ t2 => .cons (.inr (.inr ⟨_, _, _, _, rfl, rfl, .inr ⟨sqT a1, sqT b1⟩, .cons (.inl ⟨rfl, rfl⟩) (.cons (by
      obtain ⟨e1, e2, e3, e4⟩ := hn _ (List.mem_cons_self ..)
      exact tnode_eq a2 b2 e1 e2 e3 e4) .nil)⟩)) (rows_eq (fun n h => hn n (List.mem_cons_of_mem _ h)) t1 t2)
theorem tring_eq {H : Hp} {t t' : Addr} {R R' : RingS} (a : Alike R R') (h : TRing H t R) (h' : TRing H t' R') : SeqW K H (EqW K H 8) (.ref t) (.ref t') := by
  obtain ⟨lb, lr, us, h1, h2, h3, h4⟩ := h
  obtain ⟨lb', lr', us', g1, g2, g3, g4⟩ := h'
  rw [a.bits, a.many, a.puts] at g1
  rw [a.fixed] at g2
  rw [a.names] at g4
  refine ⟨_, _, _, _, rfl, rfl, .inr ⟨sqT h1, sqT g1⟩, .cons (.inl ⟨rfl, rfl⟩) (.cons (.inl ⟨rfl, rfl⟩) (.cons ?_ (.cons (.inl ⟨rfl, rfl⟩) (.cons ?_ .nil))))⟩
  · exact .inr (.inr ⟨_, _, _, _, rfl, rfl, .inl ⟨sqL h2, sqL g2⟩, pairI _⟩)
  · refine .inr (.inr ⟨_, _, _, _, rfl, rfl, .inl ⟨sqL h3, sqL g3⟩, ?_⟩)
    have z := rows_eq (K := K) a.node h4 g4
    exact paired_mono (fun x y e => eqW_succ e) z
theorem TRing.fin {H H' : Hp} {t : Addr} {R : RingS} (e : Fin K H H') (h : TRing H t R) : TRing H' t R := by
  obtain ⟨lb, lr, us, h1, h2, h3, h4⟩ := h
  refine ⟨lb, lr, us, e.1 _ _ h1 nofun, e.1 _ _ h2 nofun, e.1 _ _ h3 nofun, paired_mono (fun u n g => g.ext (fun _ _ _ z => z) (fun b xs _ z => e.1 _ _ z nofun) fun b xs z => e.1 _ _ z nofun) h4⟩
def spEqR (K : PySem.W.Frag) : Sp := fun vs H Q _ => ∃ (A A' : RA) (R R' : RingS), vs = [.ref A.r, .ref A'.r] ∧ At K H A R ∧ At K H A' R' ∧ Alike R R' ∧ ∀ H', Fin K H H' → Q (.bl true) H'
end
end Nn
set_option Elab.async false
set_option linter.all false
set_option maxRecDepth 100000
set_option maxHeartbeats 1000000
namespace Nn
open PySem PySem.Spec PyProof.Rows L2 LamX KeyL
/-! ### the order of members -/
theorem dist_cases {b : Nat} {x y : Int} (hx : 0 ≤ x ∧ x < 2 ^ b) (hy : 0 ≤ y ∧ y < 2 ^ b) : (x ≤ y ∧ dist b x y = y - x) ∨ (y < x ∧ dist b x y = y - x + 2 ^ b) := by
  unfold dist
  by_cases c : x ≤ y
  · exact .inl ⟨c, Int.emod_eq_of_lt (by omega) (by omega)⟩
  · refine .inr ⟨by omega, ?_⟩
    rw [← Int.add_emod_right]
    exact Int.emod_eq_of_lt (by omega) (by omega)
/-- y is the member next to x, upwards -/
structure Nb (R : RingS) (x y : Int) : Prop where
  left : x ∈ R.names
  right : y ∈ R.names
  ne : x ≠ y
  near : ∀ m ∈ R.names, m ≠ x → dist R.bits x y ≤ dist R.bits x m
theorem Nb.but {R R' : RingS} (hn : R'.names = R.names) (hb : R'.bits = R.bits) {x y : Int} (h : Nb R x y) : Nb R' x y :=
  ⟨by rw [hn]; exact h.left, by rw [hn]; exact h.right, h.ne, fun m hm => by rw [hn] at hm; rw [hb]; exact h.near m hm⟩
theorem Nb.back {R : RingS} (ho : Ok R) {x y : Int} (h : Nb R x y) : ∀ m ∈ R.names, m ≠ y → dist R.bits x y ≤ dist R.bits m y := fun m hm hne => by
  by_cases e : m = x
  · rw [e]; exact Int.le_refl _
  · have h1 := h.near m hm e
    have px := ho.pts x h.left
    have py := ho.pts y h.right
    have pm := ho.pts m hm
    have hxy := h.ne
    rcases dist_cases px py with ⟨c1, e1⟩ | ⟨c1, e1⟩ <;> rcases dist_cases px pm with ⟨c2, e2⟩ | ⟨c2, e2⟩ <;> rcases dist_cases pm py with ⟨c3, e3⟩ | ⟨c3, e3⟩ <;> rw [e1, e2] at h1 <;> rw [e1, e3] <;> omega
theorem Nb.unique {R : RingS} (ho : Ok R) {x y z : Int} (h : Nb R x y) (k : Nb R x z) : y = z := by
  have h1 := h.near z k.right k.ne.symm
  have h2 := k.near y h.right h.ne.symm
  have e : dist R.bits x y = dist R.bits x z := by omega
  exact dist_inj (ho.pts y h.right) (ho.pts z k.right) e
theorem Nb.unique_left {R : RingS} (ho : Ok R) {x y z : Int} (h : Nb R x z) (k : Nb R y z) : x = y := by
  have h1 := h.back ho y k.left k.ne
  have h2 := k.back ho x h.left h.ne
  have px := ho.pts x h.left
  have py := ho.pts y k.left
  have pz := ho.pts z h.right
  rcases dist_cases px pz with ⟨c1, e1⟩ | ⟨c1, e1⟩ <;> rcases dist_cases py pz with ⟨c2, e2⟩ | ⟨c2, e2⟩ <;> omega
theorem two_names {R : RingS} (ho : Ok R) (x : Int) : ∃ m ∈ R.names, m ≠ x := by
  obtain ⟨f, h1, h2⟩ := fixed_two ho x
  exact ⟨f, ho.fsub f h1, h2⟩
theorem nb_right {R : RingS} (ho : Ok R) {x : Int} (hx : x ∈ R.names) : ∃ y, Nb R x y := by
  obtain ⟨m, h1, h2⟩ := two_names ho x
  have hne : (R.names.filter fun z => decide (z ≠ x)) ≠ [] := fun e => by
    have : m ∈ R.names.filter fun z => decide (z ≠ x) := List.mem_filter.mpr ⟨h1, by simpa using h2⟩
    rw [e] at this
    cases this
  have hm := argMin_mem (fun z => dist R.bits x z) hne
  obtain ⟨k1, k2⟩ := List.mem_filter.mp hm
  have kne : argMin (fun z => dist R.bits x z) (R.names.filter fun z => decide (z ≠ x)) ≠ x := by simpa using k2
  refine ⟨_, hx, k1, kne.symm, fun z hz hzx => ?_⟩
  exact argMin_le (fun z => dist R.bits x z) (List.mem_filter.mpr ⟨hz, by simpa using hzx⟩)
theorem nb_left {R : RingS} (ho : Ok R) {y : Int} (hy : y ∈ R.names) : ∃ x, Nb R x y := by
  obtain ⟨m, h1, h2⟩ := two_names ho y
  have hne : (R.names.filter fun z => decide (z ≠ y)) ≠ [] := fun e => by
    have : m ∈ R.names.filter fun z => decide (z ≠ y) := List.mem_filter.mpr ⟨h1, by simpa using h2⟩
    rw [e] at this
    cases this
  have hm := argMin_mem (fun z => dist R.bits z y) hne
  obtain ⟨k1, k2⟩ := List.mem_filter.mp hm
  have kne : argMin (fun z => dist R.bits z y) (R.names.filter fun z => decide (z ≠ y)) ≠ y := by simpa using k2
  refine ⟨_, k1, hy, kne, fun z hz hzx => ?_⟩
  by_cases e : z = y
  · rw [e]; exact Int.le_refl _
  · have h3 := argMin_le (fun z => dist R.bits z y) (List.mem_filter.mpr ⟨hz, by simpa using e⟩ : z ∈ R.names.filter fun z => decide (z ≠ y))
    have h3' : dist R.bits (argMin (fun z => dist R.bits z y) (R.names.filter fun z => decide (z ≠ y))) y ≤ dist R.bits z y := h3
    revert h3' kne hzx k1
    generalize argMin (fun z => dist R.bits z y) (R.names.filter fun z => decide (z ≠ y)) = x
    intro k1 kne hzx h3
    have px := ho.pts x k1
    have py := ho.pts y hy
    have pz := ho.pts z hz
    rcases dist_cases px py with ⟨c1, e1⟩ | ⟨c1, e1⟩ <;> rcases dist_cases px pz with ⟨c2, e2⟩ | ⟨c2, e2⟩ <;> rcases dist_cases pz py with ⟨c3, e3⟩ | ⟨c3, e3⟩ <;> omega
/-! ### how many members stand behind a next, up to the base name -/
theorem filter_le {α : Type} {p q : α → Bool} : ∀ (l : List α), (∀ z ∈ l, p z = true → q z = true) → (l.filter p).length ≤ (l.filter q).length
  | [], _ => Nat.le_refl _
  | a :: l, h => by
    have ih := filter_le l fun z hz => h z (List.mem_cons_of_mem _ hz)
    rw [List.filter_cons, List.filter_cons]
    by_cases c : p a = true
    · rw [if_pos c, if_pos (h a (List.mem_cons_self ..) c), List.length_cons, List.length_cons]
      omega
    · rw [if_neg c]
      by_cases d : q a = true
      · rw [if_pos d, List.length_cons]; omega
      · rw [if_neg d]; exact ih
theorem filter_lt {α : Type} {p q : α → Bool} : ∀ (l : List α), (∀ z ∈ l, p z = true → q z = true) → (∃ z ∈ l, q z = true ∧ ¬ p z = true) → (l.filter p).length < (l.filter q).length
  | [], _, ⟨z, hz, _⟩ => absurd hz (by simp)
  | a :: l, h, ⟨z, hz, h1, h2⟩ => by
    have sub : ∀ z ∈ l, p z = true → q z = true := fun z hz => h z (List.mem_cons_of_mem _ hz)
    rw [List.filter_cons, List.filter_cons]
    rcases List.mem_cons.mp hz with e | hz
    · subst e
      rw [if_neg h2, if_pos h1, List.length_cons]
      have := filter_le l sub
      omega
    · have ih := filter_lt l sub ⟨z, hz, h1, h2⟩
      by_cases c : p a = true
      · rw [if_pos c, if_pos (h a (List.mem_cons_self ..) c), List.length_cons, List.length_cons]
        omega
      · rw [if_neg c]
        by_cases d : q a = true
        · rw [if_pos d, List.length_cons]; omega
        · rw [if_neg d]; exact ih
def adjB (R : RingS) (x y : Int) : Bool := decide (0 < dist R.bits x y) && R.fixed.all fun f => decide (f = x) || decide (dist R.bits x y ≤ dist R.bits x f)
theorem adjB_iff {R : RingS} {x y : Int} : adjB R x y = true ↔ adj R x y := by
  unfold adjB adj
  rw [Bool.and_eq_true, decide_eq_true_eq, List.all_eq_true]
  refine ⟨fun ⟨h1, h2⟩ => ⟨h1, fun f hf => by simpa using h2 f hf⟩, fun ⟨h1, h2⟩ => ⟨h1, fun f hf => by simpa using h2 f hf⟩⟩
def cnt (R : RingS) (n y : Int) : Nat := (R.names.filter fun z => decide (dist R.bits n y < dist R.bits n z) && adjB R n z).length
theorem cnt_but {R R' : RingS} (hn : R'.names = R.names) (hb : R'.bits = R.bits) (hf : R'.fixed = R.fixed) (n y : Int) : cnt R' n y = cnt R n y := by
  unfold cnt adjB
  rw [hn, hb, hf]
/-- nearer is at least one more -/
theorem cnt_lt {R : RingS} {n p y : Int} (hy : y ∈ R.names) (ha : adj R n y) (h : dist R.bits n p < dist R.bits n y) : cnt R n y < cnt R n p := by
  unfold cnt
  refine filter_lt _ (fun z _ hz => ?_) ⟨y, hy, ?_, fun hz => ?_⟩
  · rw [Bool.and_eq_true, decide_eq_true_eq] at hz ⊢
    exact ⟨by omega, hz.2⟩
  · rw [Bool.and_eq_true, decide_eq_true_eq]
    exact ⟨h, adjB_iff.mpr ha⟩
  · rw [Bool.and_eq_true, decide_eq_true_eq] at hz
    omega
/-- seen from a member between, that is no base name -/
theorem cnt_same {R : RingS} (ho : Ok R) {n x y : Int} (hn : n ∈ R.names) (hx : x ∈ R.names) (hy : y ∈ R.names) (ha : adj R n y) (h1 : 0 < dist R.bits n x) (h2 : dist R.bits n x < dist R.bits n y) : cnt R x y = cnt R n y := by
  have xf : x ∉ R.fixed := fun hf => by
    rcases ha.2 x hf with e | e
    · rw [e, dist_self] at h1; omega
    · omega
  have pn := ho.pts n hn
  have px := ho.pts x hx
  have py := ho.pts y hy
  have fwd : ∀ z, z ∈ R.names → dist R.bits n y < dist R.bits n z → dist R.bits x z = dist R.bits n z - dist R.bits n x := fun z hz hlt => dist_sub (by omega)
  have exy : dist R.bits x y = dist R.bits n y - dist R.bits n x := dist_sub (by omega)
  unfold cnt
  congr 1
  refine List.filter_congr fun z hz => ?_
  rw [Bool.eq_iff_iff, Bool.and_eq_true, Bool.and_eq_true, decide_eq_true_eq, decide_eq_true_eq, adjB_iff, adjB_iff]
  have pz := ho.pts z hz
  constructor
  · rintro ⟨a1, a2, a3⟩
    -- z stands behind y, seen from x; n is not passed
    have key : dist R.bits n z = dist R.bits n x + dist R.bits x z := by
      obtain ⟨f, f1, f2⟩ := fixed_two ho n
      have pf := fixed_pts ho f f1
      have b1 := (ha.2 f f1).resolve_left f2
      have fx : f ≠ x := fun e => xf (by rw [← e]; exact f1)
      have b2 := (a3 f f1).resolve_left fx
      have b3 : dist R.bits x f = dist R.bits n f - dist R.bits n x := dist_sub (by omega)
      have r1 := dist_rng R.bits n f
      exact dist_add (by omega)
    refine ⟨by omega, by omega, fun f hf => ?_⟩
    have fx : f ≠ x := fun e => xf (by rw [← e]; exact hf)
    have b2 := (a3 f hf).resolve_left fx
    by_cases e : f = n
    · exact .inl e
    · have b1 := (ha.2 f hf).resolve_left e
      have b3 : dist R.bits x f = dist R.bits n f - dist R.bits n x := dist_sub (by omega)
      right
      omega
  · rintro ⟨a1, a2, a3⟩
    have e1 := fwd z hz a1
    refine ⟨by omega, by omega, fun f hf => .inr ?_⟩
    rcases a3 f hf with e | e
    · rw [e]
      have := dist_opp (b := R.bits) (x := n) (z := x) h1
      have r := dist_rng R.bits n z
      omega
    · have b3 : dist R.bits x f = dist R.bits n f - dist R.bits n x := dist_sub (by omega)
      omega
end Nn
set_option Elab.async false
set_option linter.all false
set_option maxRecDepth 100000
set_option maxHeartbeats 1000000
namespace Nn
open PySem PySem.Spec PyProof.Rows L2 LamX KeyL
/-! ### what one that stabilizes does, in parts -/
theorem steadied_chain (R : RingS) (n m : Int) : ((steadiedM R n).node m).chain = if m = n then sourceM R n :: (R.node (sourceM R n)).chain.dropLast else (R.node m).chain := by
  have key : ∀ (R1 : RingS) (s t : Int), ((notifiedM R1 s t).node m).chain = (R1.node m).chain := fun R1 s t => by
    have e2 : ((R1.setPrior s (some t)).node m).chain = (R1.node m).chain := by
      have e0 : (R1.setPrior s (some t)).node m = if m = s then withPrior (R1.node s) (some t) else R1.node m := rfl
      rw [e0]
      by_cases q : m = s
      · rw [if_pos q, q]; rfl
      · rw [if_neg q]
    unfold notifiedM
    cases e : memO R1 (R1.node s).prior with
    | none => exact e2
    | some p =>
      show ((if btw R1.bits t p s = true then R1.setPrior s (some t) else R1).node m).chain = _
      by_cases c : btw R1.bits t p s = true
      · rw [if_pos c]; exact e2
      · rw [if_neg c]
  unfold steadiedM
  rw [key]
  have e0 : (R.setChain n (sourceM R n :: (R.node (sourceM R n)).chain.dropLast)).node m = if m = n then withChain (R.node n) (sourceM R n :: (R.node (sourceM R n)).chain.dropLast) else R.node m := rfl
  rw [e0]
  by_cases q : m = n
  · rw [if_pos q, if_pos q]; rfl
  · rw [if_neg q, if_neg q]
/-- who a member's predecessor is, behind a word of n -/
def toldM (R : RingS) (y n : Int) : Option Int :=
  match memO R (R.node y).prior with
  | some p => if btw R.bits n p y = true then some n else (R.node y).prior
  | none => some n
theorem steadied_prior (R : RingS) (n m : Int) : ((steadiedM R n).node m).prior = if m = sourceM R n then toldM R m n else (R.node m).prior := by
  have hp : ∀ z, ((R.setChain n (sourceM R n :: (R.node (sourceM R n)).chain.dropLast)).node z).prior = (R.node z).prior := fun z => by
    have e0 : (R.setChain n (sourceM R n :: (R.node (sourceM R n)).chain.dropLast)).node z = if z = n then withChain (R.node n) (sourceM R n :: (R.node (sourceM R n)).chain.dropLast) else R.node z := rfl
    rw [e0]
    by_cases q : z = n
    · rw [if_pos q, q]; rfl
    · rw [if_neg q]
  have key : ∀ (R1 : RingS) (s t : Int), R1.names = R.names → R1.bits = R.bits → (∀ z, (R1.node z).prior = (R.node z).prior) → ((notifiedM R1 s t).node m).prior = if m = s then toldM R m t else (R.node m).prior := fun R1 s t h1 h2 h3 => by
    have e2 : ((R1.setPrior s (some t)).node m).prior = if m = s then some t else (R.node m).prior := by
      have e0 : (R1.setPrior s (some t)).node m = if m = s then withPrior (R1.node s) (some t) else R1.node m := rfl
      rw [e0]
      by_cases q : m = s
      · rw [if_pos q, if_pos q]; rfl
      · rw [if_neg q, if_neg q]; exact h3 m
    have em : ∀ o, memO R1 o = memO R o := fun o => by
      cases o with
      | none => rfl
      | some x =>
        show (if x ∈ R1.names then some x else none) = if x ∈ R.names then some x else none
        rw [h1]
    have es : notifiedM R1 s t = match memO R (R.node s).prior with
      | some p => if btw R.bits t p s = true then R1.setPrior s (some t) else R1
      | none => R1.setPrior s (some t) := by
      unfold notifiedM
      rw [em, h3, h2]
      all_goals (cases memO R (R.node s).prior <;> rfl)
    rw [es]
    unfold toldM
    by_cases q : m = s
    · subst q
      cases e : memO R (R.node m).prior with
      | none =>
        show ((R1.setPrior m (some t)).node m).prior = _
        rw [e2]
      | some p =>
        show ((if btw R.bits t p m = true then R1.setPrior m (some t) else R1).node m).prior = if m = m then (if btw R.bits t p m = true then some t else (R.node m).prior) else _
        by_cases c : btw R.bits t p m = true
        · rw [if_pos c, if_pos c, e2]
        · rw [if_neg c, if_neg c, if_pos rfl]; exact h3 m
    · rw [if_neg q]
      rw [if_neg q] at e2
      cases e : memO R (R.node s).prior with
      | none => exact e2
      | some p =>
        show ((if btw R.bits t p s = true then R1.setPrior s (some t) else R1).node m).prior = _
        by_cases c : btw R.bits t p s = true
        · rw [if_pos c]; exact e2
        · rw [if_neg c]; exact h3 m
  exact key _ _ _ rfl rfl hp
theorem nxtI_of_chain {R R' : RingS} {m : Int} (hn : R'.names = R.names) (hc : (R'.node m).chain = (R.node m).chain) : nxtI R' m = nxtI R m := by
  unfold nxtI nxt
  rw [hn, hc]
theorem steadied_next {R : RingS} (ho : Ok R) {n : Int} (hn : n ∈ R.names) (m : Int) : nxtI (steadiedM R n) m = if m = n then sourceM R n else nxtI R m := by
  have b := (steadiedM_but R n).1
  by_cases q : m = n
  · rw [if_pos q, q]
    unfold nxtI nxt
    rw [b, steadied_chain, if_pos rfl]
    unfold firstOf
    rw [List.find?_cons, decide_eq_true (sourceM_mem ho hn)]
    rfl
  · rw [if_neg q]
    refine nxtI_of_chain b ?_
    rw [steadied_chain, if_neg q]
/-! ### how far the mending is -/
def NextOk (R : RingS) (n : Int) : Prop := Nb R n (nxtI R n)
structure Ev (t : Nat) (S : Int → Prop) (R : RingS) : Prop where
  a : ∀ n ∈ R.names, NextOk R n ∨ t ≤ cnt R n (nxtI R n) + 1
  a' : ∀ n ∈ R.names, S n → NextOk R n ∨ t ≤ cnt R n (nxtI R n)
  b : ∀ x y, Nb R x y → cnt R x y < t → (R.node y).prior = some x
  b' : ∀ x y, Nb R x y → S x → cnt R x y ≤ t → (R.node y).prior = some x
theorem memO_of {R : RingS} {p : Int} (h : p ∈ R.names) : memO R (some p) = some p := if_pos h
theorem Ev.step {t : Nat} {S : Int → Prop} {R : RingS} (ho : Ok R) (so : Sound R) (ev : Ev t S R) {n : Int} (hn : n ∈ R.names) : Ev t (fun m => S m ∨ m = n) (steadiedM R n) := by
  obtain ⟨bn, bb, bp, bf, bd, bm⟩ := steadiedM_but R n
  have hnb : ∀ {x y}, Nb (steadiedM R n) x y → Nb R x y := fun h => h.but bn.symm bb.symm
  have hnb' : ∀ {x y}, Nb R x y → Nb (steadiedM R n) x y := fun h => h.but bn bb
  have hc : ∀ x y, cnt (steadiedM R n) x y = cnt R x y := fun x y => cnt_but bn bb bf x y
  obtain ⟨_, ny, _⟩ := nxt_some ho hn
  have an := adj_next ho so hn
  have hs := sourceM_mem ho hn
  have as := adj_source ho so hn
  -- a right predecessor stays
  have stay : ∀ x y, Nb R x y → (R.node y).prior = some x → ((steadiedM R n).node y).prior = some x := fun x y h e => by
    rw [steadied_prior]
    by_cases q : y = sourceM R n
    · rw [if_pos q]
      unfold toldM
      rw [e, memO_of h.left]
      show (if btw R.bits n x y = true then some n else some x) = some x
      by_cases c : btw R.bits n x y = true
      · rw [if_pos c]
        obtain ⟨c1, c2⟩ := btw_iff.mp c
        have c3 := c2.resolve_left h.ne
        have nx : n ≠ x := fun e => by rw [e, dist_self] at c1; omega
        have := h.near n hn nx
        omega
      · rw [if_neg c]
    · rw [if_neg q]; exact e
  -- what n has behind it
  have nextn : NextOk (steadiedM R n) n ∨ t ≤ cnt R n (sourceM R n) := by
    unfold NextOk
    rw [steadied_next ho hn, if_pos rfl]
    by_cases ok : Nb R n (sourceM R n)
    · exact .inl (hnb' ok)
    · right
      rcases ev.a n hn with c | c
      · -- the next is right: the source is it
        exfalso
        refine ok ?_
        have c' : Nb R n (nxtI R n) := c
        obtain ⟨p, hp⟩ : ∃ p, (R.node (nxtI R n)).prior = p := ⟨_, rfl⟩
        unfold sourceM
        cases e : memO R (R.node (nxtI R n)).prior with
        | none => exact c'
        | some p =>
          show Nb R n (if btw R.bits p n (nxtI R n) = true then p else nxtI R n)
          by_cases d : btw R.bits p n (nxtI R n) = true
          · exfalso
            obtain ⟨d1, d2⟩ := btw_iff.mp d
            have d3 := d2.resolve_left (adj_ne an)
            have pn : p ≠ n := fun e => by rw [e, dist_self] at d1; omega
            have := c'.near p (memO_some e).2 pn
            omega
          · rw [if_neg d]; exact c'
      · by_cases c2 : t ≤ cnt R n (nxtI R n)
        · -- the source is no farther
          have le : dist R.bits n (sourceM R n) ≤ dist R.bits n (nxtI R n) := by
            unfold sourceM
            cases e : memO R (R.node (nxtI R n)).prior with
            | none => exact Int.le_refl _
            | some p =>
              show dist R.bits n (if btw R.bits p n (nxtI R n) = true then p else nxtI R n) ≤ _
              by_cases d : btw R.bits p n (nxtI R n) = true
              · rw [if_pos d]
                obtain ⟨d1, d2⟩ := btw_iff.mp d
                have d3 := d2.resolve_left (adj_ne an)
                omega
              · rw [if_neg d]; exact Int.le_refl _
          by_cases eq : dist R.bits n (sourceM R n) = dist R.bits n (nxtI R n)
          · rw [dist_inj (ho.pts _ hs) (ho.pts _ ny) eq]; exact c2
          · have := cnt_lt (R := R) (n := n) (p := sourceM R n) ny an (by omega)
            omega
        · -- the next's predecessor is right, and between
          obtain ⟨x, hx⟩ := nb_left ho ny
          have nok : ¬ Nb R n (nxtI R n) := fun z => ok (by
            have e : sourceM R n = nxtI R n := by
              unfold sourceM
              cases e : memO R (R.node (nxtI R n)).prior with
              | none => rfl
              | some p =>
                show (if btw R.bits p n (nxtI R n) = true then p else nxtI R n) = _
                by_cases d : btw R.bits p n (nxtI R n) = true
                · exfalso
                  obtain ⟨d1, d2⟩ := btw_iff.mp d
                  have d3 := d2.resolve_left (adj_ne an)
                  have pn : p ≠ n := fun e => by rw [e, dist_self] at d1; omega
                  have := z.near p (memO_some e).2 pn
                  omega
                · rw [if_neg d]
            rw [e]; exact z)
          have xn : x ≠ n := fun e => nok (by have z := hx; rw [e] at z; exact z)
          -- x stands between n and its next
          have px := ho.pts x hx.left
          have pn := ho.pts n hn
          have py := ho.pts _ ny
          have back := hx.back ho n hn (adj_ne an)
          have hxne := hx.ne
          have hxb : 0 < dist R.bits n x ∧ dist R.bits n x < dist R.bits n (nxtI R n) := by
            have nyn := adj_ne an
            rcases dist_cases px py with ⟨c1, e1⟩ | ⟨c1, e1⟩ <;> rcases dist_cases pn px with ⟨c3, e3⟩ | ⟨c3, e3⟩ <;> rcases dist_cases pn py with ⟨c4, e4⟩ | ⟨c4, e4⟩ <;> omega
          have ce := cnt_same ho hn hx.left ny an hxb.1 hxb.2
          have pr := ev.b x _ hx (by omega)
          have e : sourceM R n = x := by
            unfold sourceM
            rw [pr, memO_of hx.left]
            show (if btw R.bits x n (nxtI R n) = true then x else nxtI R n) = x
            rw [if_pos (btw_iff.mpr ⟨hxb.1, .inr hxb.2⟩)]
          rw [e]
          have := cnt_lt (R := R) (n := n) (p := x) ny an hxb.2
          omega
  refine ⟨fun m hm => ?_, fun m hm hS => ?_, fun x y h c => ?_, fun x y h hS c => ?_⟩
  · rw [bn] at hm
    rw [hc]
    by_cases q : m = n
    · subst q
      rcases nextn with z | z
      · exact .inl z
      · right
        rw [steadied_next ho hn, if_pos rfl]
        omega
    · unfold NextOk
      rw [steadied_next ho hn, if_neg q]
      exact (ev.a m hm).imp hnb' id
  · rw [bn] at hm
    rw [hc]
    by_cases q : m = n
    · subst q
      rcases nextn with z | z
      · exact .inl z
      · right
        rw [steadied_next ho hn, if_pos rfl]
        exact z
    · unfold NextOk
      rw [steadied_next ho hn, if_neg q]
      exact (ev.a' m hm (hS.resolve_right q)).imp hnb' id
  · have h0 := hnb h
    rw [hc] at c
    exact stay x y h0 (ev.b x y h0 c)
  · have h0 := hnb h
    rw [hc] at c
    by_cases q : x = n
    · subst q
      rcases nextn with z | z
      · -- its next is right: it told it so
        have z' : Nb R x (sourceM R x) := by
          have := hnb z
          rw [steadied_next ho hn, if_pos rfl] at this
          exact this
        have ey := h0.unique ho z'
        subst ey
        rw [steadied_prior, if_pos rfl]
        unfold toldM
        cases e : memO R (R.node (sourceM R x)).prior with
        | none => rfl
        | some p =>
          show (if btw R.bits x p (sourceM R x) = true then some x else (R.node (sourceM R x)).prior) = some x
          by_cases d : btw R.bits x p (sourceM R x) = true
          · rw [if_pos d]
          · rw [if_neg d]
            obtain ⟨e1, e2⟩ := memO_some e
            rw [e1]
            by_cases epx : p = x
            · rw [epx]
            · exfalso
              refine d (btw_iff.mpr ?_)
              have ap := (so _ hs).2 p e1
              have pp := ho.pts p e2
              have px := ho.pts x hn
              have py := ho.pts _ hs
              have k1 := z'.back ho p e2 (adj_ne ap)
              have pne := adj_ne ap
              have xne := z'.ne
              rcases dist_cases px py with ⟨c1, e1⟩ | ⟨c1, e1⟩ <;> rcases dist_cases pp px with ⟨c3, e3⟩ | ⟨c3, e3⟩ <;> rcases dist_cases pp py with ⟨c4, e4⟩ | ⟨c4, e4⟩ <;> omega
      · -- else its count is too great
        by_cases ok : Nb R x (sourceM R x)
        · have ey := h0.unique ho ok
          subst ey
          rw [steadied_prior, if_pos rfl]
          unfold toldM
          cases e : memO R (R.node (sourceM R x)).prior with
          | none => rfl
          | some p =>
            show (if btw R.bits x p (sourceM R x) = true then some x else (R.node (sourceM R x)).prior) = some x
            by_cases d : btw R.bits x p (sourceM R x) = true
            · rw [if_pos d]
            · rw [if_neg d]
              obtain ⟨e1, e2⟩ := memO_some e
              rw [e1]
              by_cases epx : p = x
              · rw [epx]
              · exfalso
                refine d (btw_iff.mpr ?_)
                have ap := (so _ hs).2 p e1
                have pp := ho.pts p e2
                have px := ho.pts x hn
                have py := ho.pts _ hs
                have k1 := ok.back ho p e2 (adj_ne ap)
                have pne := adj_ne ap
                have xne := ok.ne
                rcases dist_cases px py with ⟨c1, e1⟩ | ⟨c1, e1⟩ <;> rcases dist_cases pp px with ⟨c3, e3⟩ | ⟨c3, e3⟩ <;> rcases dist_cases pp py with ⟨c4, e4⟩ | ⟨c4, e4⟩ <;> omega
        · exfalso
          have lt : dist R.bits x y < dist R.bits x (sourceM R x) := by
            have h1 := h0.near _ hs (adj_ne as).symm
            have h2 : dist R.bits x y ≠ dist R.bits x (sourceM R x) := fun e => ok (by
              rw [← dist_inj (ho.pts _ h0.right) (ho.pts _ hs) e]
              exact h0)
            omega
          have := cnt_lt (R := R) (n := x) (p := y) hs as lt
          omega
    · exact stay x y h0 (ev.b' x y h0 (hS.resolve_right q) c)
end Nn
set_option Elab.async false
set_option linter.all false
set_option maxRecDepth 100000
set_option maxHeartbeats 1000000
namespace Nn
open PySem PySem.Spec PyProof.Rows L2 LamX KeyL
/-! ### rounds -/
theorem Ev.all {t : Nat} : ∀ (ns : List Int) {S : Int → Prop} {R : RingS}, Ok R → Sound R → (∀ n ∈ ns, n ∈ R.names) → Ev t S R → Ev t (fun m => S m ∨ m ∈ ns) (allM steadiedM R ns)
  | [], S, R, _, _, _, e => by
    refine ⟨e.a, fun n hn hS => e.a' n hn (hS.resolve_right (by simp)), e.b, fun x y h hS c => e.b' x y h (hS.resolve_right (by simp)) c⟩
  | n :: ns, S, R, ho, so, hns, e => by
    have hn := hns n (List.mem_cons_self ..)
    have z := Ev.all ns (okSteadied ho hn) (sound_steadied ho so hn) (fun m hm => by rw [(steadiedM_but R n).1]; exact hns m (List.mem_cons_of_mem _ hm)) (e.step ho so hn)
    have conv : ∀ m, S m ∨ m ∈ n :: ns → (S m ∨ m = n) ∨ m ∈ ns := fun m h => by
      rcases h with h | h
      · exact .inl (.inl h)
      · rcases List.mem_cons.mp h with h | h
        · exact .inl (.inr h)
        · exact .inr h
    exact ⟨z.a, fun m hm hS => z.a' m hm (conv m hS), z.b, fun x y h hS c => z.b' x y h (conv x hS) c⟩
theorem Ev.keep {t : Nat} {S : Int → Prop} {R R' : RingS} (b : SameBut R R') (p : ∀ n, (R'.node n).chain = (R.node n).chain ∧ (R'.node n).prior = (R.node n).prior) (e : Ev t S R) : Ev t S R' := by
  obtain ⟨bn, bb, bp, bf, bd, bm⟩ := b
  have hnb : ∀ {x y}, Nb R' x y → Nb R x y := fun h => h.but bn.symm bb.symm
  have hnx : ∀ m, nxtI R' m = nxtI R m := fun m => nxtI_of_chain bn (p m).1
  have hc : ∀ x y, cnt R' x y = cnt R x y := fun x y => cnt_but bn bb bf x y
  refine ⟨fun n hn => ?_, fun n hn hS => ?_, fun x y h c => ?_, fun x y h hS c => ?_⟩
  · rw [bn] at hn
    unfold NextOk
    rw [hnx, hc]
    exact (e.a n hn).imp (fun z => Nb.but bn bb z) id
  · rw [bn] at hn
    unfold NextOk
    rw [hnx, hc]
    exact (e.a' n hn hS).imp (fun z => Nb.but bn bb z) id
  · rw [hc] at c
    rw [(p y).2]
    exact e.b x y (hnb h) c
  · rw [hc] at c
    rw [(p y).2]
    exact e.b' x y (hnb h) hS c
theorem allM_parts {f : RingS → Int → RingS} (hf : ∀ R n m, ((f R n).node m).chain = (R.node m).chain ∧ ((f R n).node m).prior = (R.node m).prior) : ∀ (ns : List Int) (R : RingS) (m : Int), ((allM f R ns).node m).chain = (R.node m).chain ∧ ((allM f R ns).node m).prior = (R.node m).prior
  | [], _, _ => ⟨rfl, rfl⟩
  | n :: ns, R, m => by
    obtain ⟨z1, z2⟩ := allM_parts hf ns (f R n) m
    obtain ⟨y1, y2⟩ := hf R n m
    exact ⟨z1.trans y1, z2.trans y2⟩
theorem mendM_parts (R : RingS) (ns : List Int) (m : Int) : ((mendM R ns).node m).chain = ((allM steadiedM R ns).node m).chain ∧ ((mendM R ns).node m).prior = ((allM steadiedM R ns).node m).prior := by
  have z1 := allM_parts (f := settledM) (fun R n m => ⟨(settledFrom_parts n _ R m).1, (settledFrom_parts n _ R m).2.1⟩) ns (allM refingM (allM steadiedM R ns) ns) m
  have z2 := allM_parts (f := refingM) (fun R n m => refFrom_cp n _ R m) ns (allM steadiedM R ns) m
  exact ⟨z1.1.trans z2.1, z1.2.trans z2.2⟩
theorem mendM_names (R : RingS) (ns : List Int) : (mendM R ns).names = R.names ∧ (mendM R ns).bits = R.bits ∧ (mendM R ns).fixed = R.fixed ∧ (mendM R ns).many = R.many ∧ (mendM R ns).puts = R.puts ∧ (mendM R ns).done = R.done ++ [.mend ns] := by
  have b := ((allM_but (f := steadiedM) steadiedM_but ns R).trans (allM_but (f := refingM) refingM_but ns _)).trans (allM_but (f := settledM) settledM_but ns _)
  obtain ⟨h1, h2, h3, h4, h5, h6⟩ := b
  refine ⟨h1, h2, h4, h6, h3, ?_⟩
  show (allM settledM (allM refingM (allM steadiedM R ns) ns) ns).done ++ [.mend ns] = _
  rw [h5]
theorem Ev.round {t : Nat} {R : RingS} (ho : Ok R) (so : Sound R) {ns : List Int} (hp : ns.Perm R.names) (e : Ev t (fun _ => False) R) : Ev (t + 1) (fun _ => False) (mendM R ns) := by
  have z := Ev.all ns ho so (fun n hn => hp.mem_iff.mp hn) e
  have bs := allM_but (f := steadiedM) steadiedM_but ns R
  obtain ⟨m1, m2, m3, _⟩ := mendM_names R ns
  have hn : (mendM R ns).names = (allM steadiedM R ns).names := m1.trans bs.1.symm
  have hb : (mendM R ns).bits = (allM steadiedM R ns).bits := m2.trans bs.2.1.symm
  have hf : (mendM R ns).fixed = (allM steadiedM R ns).fixed := m3.trans bs.2.2.2.1.symm
  have hnb : ∀ {x y}, Nb (mendM R ns) x y → Nb (allM steadiedM R ns) x y := fun h => h.but hn.symm hb.symm
  have hnx : ∀ m, nxtI (mendM R ns) m = nxtI (allM steadiedM R ns) m := fun m => nxtI_of_chain hn (mendM_parts R ns m).1
  have hc : ∀ x y, cnt (mendM R ns) x y = cnt (allM steadiedM R ns) x y := fun x y => cnt_but hn hb hf x y
  have all : ∀ n ∈ (allM steadiedM R ns).names, n ∈ ns := fun n h => hp.mem_iff.mpr (by rw [← bs.1]; exact h)
  refine ⟨fun n h => ?_, fun n h hS => hS.elim, fun x y h c => ?_, fun x y h hS => hS.elim⟩
  · rw [hn] at h
    unfold NextOk
    rw [hnx, hc]
    rcases z.a' n h (.inr (all n h)) with c | c
    · exact .inl (Nb.but hn hb c)
    · exact .inr (by omega)
  · rw [hc] at c
    rw [(mendM_parts R ns y).2]
    exact z.b' x y (hnb h) (.inr (all x (hnb h).left)) (by omega)
theorem Ev.zero (R : RingS) : Ev 0 (fun _ => False) R := ⟨fun _ _ => .inr (Nat.zero_le _), fun _ _ h => h.elim, fun _ _ _ c => absurd c (Nat.not_lt_zero _), fun _ _ _ h => h.elim⟩
def gapA (R : RingS) (n : Int) : Nat := (R.names.filter (adjB R n)).length
theorem nb_adj {R : RingS} (ho : Ok R) {x y : Int} (h : Nb R x y) : adj R x y :=
  ⟨dist_pos (ho.pts x h.left) (ho.pts y h.right) h.ne, fun f hf => by
    by_cases e : f = x
    · exact .inl e
    · exact .inr (h.near f (ho.fsub f hf) e)⟩
theorem Ev.done {t : Nat} {R : RingS} (ho : Ok R) (so : Sound R) (e : Ev t (fun _ => False) R) (hg : ∀ n ∈ R.names, gapA R n ≤ t) : (∀ n ∈ R.names, NextOk R n) ∧ ∀ x y, Nb R x y → (R.node y).prior = some x := by
  have one : ∀ x y, Nb R x y → cnt R x y < gapA R x := fun x y h => by
    have ha := nb_adj ho h
    refine filter_lt _ (fun z _ hz => ?_) ⟨y, h.right, adjB_iff.mpr ha, fun hz => ?_⟩
    · rw [Bool.and_eq_true] at hz
      exact hz.2
    · rw [Bool.and_eq_true, decide_eq_true_eq] at hz
      omega
  refine ⟨fun n hn => ?_, fun x y h => e.b x y h (by have := one x y h; have := hg x h.left; omega)⟩
  by_cases ok : NextOk R n
  · exact ok
  · exfalso
    have c := (e.a n hn).resolve_left ok
    obtain ⟨y, hy⟩ := nb_right ho hn
    have an := adj_next ho so hn
    obtain ⟨_, ny, _⟩ := nxt_some ho hn
    have le := hy.near _ ny (adj_ne an).symm
    have ne : dist R.bits n y ≠ dist R.bits n (nxtI R n) := fun e => ok (by
      unfold NextOk
      rw [← dist_inj (ho.pts _ hy.right) (ho.pts _ ny) e]
      exact hy)
    have h1 := cnt_lt (R := R) (n := n) (p := y) ny an (by omega)
    have h2 := one n y hy
    have := hg n hn
    omega
end Nn
set_option Elab.async false
set_option linter.all false
set_option maxRecDepth 100000
set_option maxHeartbeats 1000000
namespace Nn
open PySem PySem.Spec PyProof.Rows L2 LamX KeyL
/-! ### lookups where all nexts are right -/
/-- the member that answers for a point -/
structure Near (R : RingS) (p a : Int) : Prop where
  mem : a ∈ R.names
  le : ∀ m ∈ R.names, dist R.bits p a ≤ dist R.bits p m
theorem Near.unique {R : RingS} (ho : Ok R) {p a c : Int} (h : Near R p a) (k : Near R p c) : a = c := by
  have h1 := h.le c k.mem
  have h2 := k.le a h.mem
  have e : dist R.bits p a = dist R.bits p c := by omega
  exact dist_inj (ho.pts a h.mem) (ho.pts c k.mem) e
theorem near_is {R : RingS} (ho : Ok R) {p : Int} : Near R p (nearest R.bits R.names p) := by
  obtain ⟨m, h1, _⟩ := two_names ho 0
  have hne : R.names ≠ [] := fun e => by rw [e] at h1; cases h1
  exact ⟨argMin_mem (fun n => dist R.bits p n) hne, fun m hm => argMin_le (fun n => dist R.bits p n) hm⟩
theorem step_near {R : RingS} (ho : Ok R) (hx : ∀ n ∈ R.names, NextOk R n) {p : Int} (hp : 0 ≤ p ∧ p < 2 ^ R.bits) {tr : List Int} (hh : lastI tr ∈ R.names) {g : Int} (h : (stepM R p tr).2 = some g) : Near R p g := by
  unfold stepM at h
  by_cases c : lastI tr = p
  · rw [if_pos c] at h
    have e : lastI tr = g := Option.some.inj h
    rw [← e, c]
    rw [c] at hh
    exact ⟨hh, fun m hm => by rw [dist_self]; exact dist_nn ..⟩
  · rw [if_neg c] at h
    by_cases c2 : p = nxtI R (lastI tr) ∨ btw R.bits p (lastI tr) (nxtI R (lastI tr)) = true
    · rw [if_pos c2] at h
      have e : nxtI R (lastI tr) = g := Option.some.inj h
      rw [← e]
      have nb : Nb R (lastI tr) (nxtI R (lastI tr)) := hx _ hh
      refine ⟨nb.right, fun m hm => ?_⟩
      rcases c2 with d | d
      · rw [← d, dist_self]
        exact dist_nn ..
      · obtain ⟨d1, d2⟩ := btw_iff.mp d
        have d3 := d2.resolve_left nb.ne
        have e1 := dist_sub (b := R.bits) (x := lastI tr) (n := p) (p := nxtI R (lastI tr)) (by omega)
        by_cases e : m = lastI tr
        · rw [e, e1, dist_opp (b := R.bits) (x := lastI tr) (z := p) d1]
          have := dist_rng R.bits (lastI tr) (nxtI R (lastI tr))
          omega
        · have k1 := nb.near m hm e
          have e2 := dist_sub (b := R.bits) (x := lastI tr) (n := p) (p := m) (by omega)
          omega
    · rw [if_neg c2] at h
      cases h
theorem lookF_near {R : RingS} (ho : Ok R) (hx : ∀ n ∈ R.names, NextOk R n) {p : Int} (hp : 0 ≤ p ∧ p < 2 ^ R.bits) : ∀ (k : Nat) (tr : List Int), Way R p tr → tr.length + k = 200 → Near R p (lookF R p k tr).2
  | 0, tr, w, hl => by have := w.len ho; omega
  | k + 1, tr, w, hl => by
    have hm := w.mem _ (lastI_mem w.ne)
    rcases stepM_cases ho hp hm with ⟨g, e, hg⟩ | ⟨n, e, h1, h2, h3⟩
    · rw [lookF_some (g := g) (by rw [e])]
      exact step_near ho hx hp hm (by rw [e])
    · rw [lookF_none (by rw [e]), e]
      exact lookF_near ho hx hp k _ (w.snoc h1 h2 h3) (by show (tr ++ [n]).length + k = 200; rw [List.length_append, List.length_singleton]; omega)
theorem ans_near {R : RingS} (ho : Ok R) (hx : ∀ n ∈ R.names, NextOk R n) {p via : Int} (hp : 0 ≤ p ∧ p < 2 ^ R.bits) (hv : via ∈ R.names) : ansM R p via = nearest R.bits R.names p :=
  (lookF_near ho hx hp 199 [via] (Way.one hv) rfl).unique ho (near_is ho)
/-! ### fingers -/
def FarOk (R : RingS) (n : Int) : Prop := (R.node n).far = (rightFar R.bits R.names n).map some
theorem refFrom_other (n : Int) {m : Int} (hm : m ≠ n) : ∀ (ks : List Nat) (R : RingS), (refFrom R n ks).node m = R.node m
  | [], _ => rfl
  | k :: ks, R => by
    have z := refFrom_other n hm ks (refStep n R k)
    have e0 : (refStep n R k).node m = if m = n then withFar (R.node n) ((R.node n).far.set k (some (ansM R (farPt R.bits n k) n))) else R.node m := rfl
    rw [if_neg hm] at e0
    exact z.trans e0
theorem nextOk_keep {R R' : RingS} (hn : R'.names = R.names) (hb : R'.bits = R.bits) (hc : ∀ m, (R'.node m).chain = (R.node m).chain) {n : Int} (h : NextOk R n) : NextOk R' n := by
  unfold NextOk
  rw [nxtI_of_chain hn (hc n)]
  exact Nb.but hn hb h
theorem refing_far {R : RingS} (ho : Ok R) (hx : ∀ n ∈ R.names, NextOk R n) {n : Int} (hn : n ∈ R.names) : FarOk (refingM R n) n := by
  have key : ∀ i, i ≤ R.bits → ∀ j, j < i → ((refFrom R n (List.range i)).node n).far[j]? = some (some (nearest R.bits R.names (farPt R.bits n j))) := fun i => by
    induction i with
    | zero => intro _ j hj; omega
    | succ i ih =>
      intro hi j hj
      have b := refFrom_but n (List.range i) R
      have ok := refFrom_ok' (List.range i) ho hn
      have hn2 : n ∈ (refFrom R n (List.range i)).names := by rw [b.1]; exact hn
      have es := refFrom_snoc R n (List.range i) i
      rw [← List.range_succ] at es
      rw [es]
      have e0 : (refStep n (refFrom R n (List.range i)) i).node n = withFar ((refFrom R n (List.range i)).node n) (((refFrom R n (List.range i)).node n).far.set i (some (ansM (refFrom R n (List.range i)) (farPt (refFrom R n (List.range i)).bits n i) n))) := by
        unfold refStep RingS.setFar
        rw [setN_same]
      rw [e0]
      show (((refFrom R n (List.range i)).node n).far.set i _)[j]? = _
      have hx2 : ∀ m ∈ (refFrom R n (List.range i)).names, NextOk (refFrom R n (List.range i)) m := fun m hm => by
        rw [b.1] at hm
        exact nextOk_keep b.1 b.2.1 (fun z => (refFrom_cp n _ R z).1) (hx m hm)
      rw [ans_near ok hx2 (farPt_rng _ n i) hn2, b.1, b.2.1, List.getElem?_set]
      by_cases q : i = j
      · rw [if_pos q, if_pos (by rw [ok.flen n hn2, b.2.1]; omega), q]
      · rw [if_neg q]
        exact ih (by omega) j (by omega)
  have b := refingM_but R n
  have ok := refFrom_ok' (List.range R.bits) ho hn
  unfold FarOk
  rw [b.1, b.2.1]
  refine List.ext_getElem? fun j => ?_
  have fl : ((refingM R n).node n).far.length = R.bits := (ok.flen n (by show n ∈ (refingM R n).names; rw [b.1]; exact hn)).trans b.2.1
  by_cases hj : j < R.bits
  · rw [show ((refingM R n).node n).far[j]? = _ from key R.bits (Nat.le_refl _) j hj]
    unfold rightFar
    rw [List.map_map, List.getElem?_map, List.getElem?_range hj]
    rfl
  · rw [List.getElem?_eq_none (by rw [fl]; omega), List.getElem?_eq_none (by unfold rightFar; rw [List.length_map, List.length_map, List.length_range]; omega)]
theorem farOk_keep {R R' : RingS} (hn : R'.names = R.names) (hb : R'.bits = R.bits) {n : Int} (hf : (R'.node n).far = (R.node n).far) (h : FarOk R n) : FarOk R' n := by
  unfold FarOk
  rw [hf, hn, hb]
  exact h
theorem allM_refing_far : ∀ (ns : List Int) {S : Int → Prop} {R : RingS}, Ok R → (∀ n ∈ R.names, NextOk R n) → (∀ n ∈ ns, n ∈ R.names) → (∀ n, S n → FarOk R n) → ∀ n, S n ∨ n ∈ ns → FarOk (allM refingM R ns) n
  | [], S, R, _, _, _, hS, n, h => hS n (h.resolve_right (by simp))
  | m :: ns, S, R, ho, hx, hns, hS, n, h => by
    have hm := hns m (List.mem_cons_self ..)
    have b := refingM_but R m
    have ok := refFrom_ok' (List.range R.bits) ho hm
    refine allM_refing_far ns (S := fun z => S z ∨ z = m) (R := refingM R m) ok (fun z hz => ?_) (fun z hz => by rw [b.1]; exact hns z (List.mem_cons_of_mem _ hz)) (fun z hz => ?_) n ?_
    · rw [b.1] at hz
      exact nextOk_keep b.1 b.2.1 (fun y => (refFrom_cp m _ R y).1) (hx z hz)
    · by_cases q : z = m
      · rw [q]; exact refing_far ho hx hm
      · exact farOk_keep b.1 b.2.1 (by show ((refFrom R m (List.range R.bits)).node z).far = _; rw [refFrom_other m q]) (hS z (hz.resolve_right q))
    · rcases h with h | h
      · exact .inl (.inl h)
      · rcases List.mem_cons.mp h with h | h
        · exact .inl (.inr h)
        · exact .inr h
theorem allM_settled_far : ∀ (ns : List Int) (R : RingS) (m : Int), ((allM settledM R ns).node m).far = (R.node m).far
  | [], _, _ => rfl
  | n :: ns, R, m => (allM_settled_far ns (settledM R n) m).trans (settledFrom_parts n _ R m).2.2
/-- behind a round that leaves all nexts right all fingers are right -/
theorem mend_far {R : RingS} (ho : Ok R) (so : Sound R) {ns : List Int} (hp : ns.Perm R.names) (hx : ∀ n ∈ (mendM R ns).names, NextOk (mendM R ns) n) : ∀ n ∈ (mendM R ns).names, FarOk (mendM R ns) n := fun n hn => by
  have hns : ∀ n ∈ ns, n ∈ R.names := fun n h => hp.mem_iff.mp h
  obtain ⟨o1, s1⟩ := all_steadied (R := R) ns ho so hns
  have bs := allM_but (f := steadiedM) steadiedM_but ns R
  obtain ⟨m1, m2, _⟩ := mendM_names R ns
  have hx1 : ∀ n ∈ (allM steadiedM R ns).names, NextOk (allM steadiedM R ns) n := fun n h => by
    rw [bs.1, ← m1] at h
    exact nextOk_keep (bs.1.trans m1.symm) (bs.2.1.trans m2.symm) (fun z => (mendM_parts R ns z).1.symm) (hx n h)
  have z := allM_refing_far ns (S := fun _ => False) (R := allM steadiedM R ns) o1 hx1 (fun n h => by rw [bs.1]; exact hns n h) (fun _ h => h.elim) n (.inr (hp.mem_iff.mpr (by rw [← m1]; exact hn)))
  have br := allM_but (f := refingM) refingM_but ns (allM steadiedM R ns)
  exact farOk_keep (R := allM refingM (allM steadiedM R ns) ns) (m1.trans (br.1.trans bs.1).symm) (m2.trans (br.2.1.trans bs.2.1).symm) (allM_settled_far ns _ n) z
end Nn
set_option Elab.async false
set_option linter.all false
set_option maxRecDepth 100000
set_option maxHeartbeats 1000000
namespace Nn
open PySem PySem.Spec PyProof.Rows L2 LamX KeyL
section
variable {P : Program} {w : World} {K : PySem.W.Frag} {mg : Str → Option Value} {base : Heap}
theorem histJ (x mo : Int) (h : 4 ≤ mo ∧ mo ≤ 20) : 4 ≤ (if (if mo < x then mo else x) > 4 then (if mo < x then mo else x) else 4) ∧ (if (if mo < x then mo else x) > 4 then (if mo < x then mo else x) else 4) ≤ mo := by
  by_cases c : mo < x
  · simp only [if_pos c]
    by_cases d : mo > 4
    · rw [if_pos d]; omega
    · rw [if_neg d]; omega
  · simp only [if_neg c]
    by_cases d : x > 4
    · rw [if_pos d]; omega
    · rw [if_neg d]; omega
/-- a ring behind a history -/
def spHist (K : PySem.W.Frag) : Sp := fun vs H Q _ => ∃ (a : Addr) (xs : List Int) (mo : Int), vs = [.ref a, .int mo] ∧ Tabs (tabT K) H ∧ SqL K H a (xs.map V.int) ∧ xs.length ≤ 63 ∧ (4 ≤ mo ∧ mo ≤ 20) ∧
  ∀ (t D : Addr) (c : Nat) (H' : Hp) (A : RA) (R : RingS) (b : Nat), H' t = some (.tup [.ref A.r, .ref D]) → (c : Int) ≤ 2 * mo → Turn K c 0 H' A R A.r b a (xs.map V.int) D → Held R → News H' D R → Q (.ref t) H'
theorem sc_law_history : FnScope ["_law_script", "_law_most_here", "_law_ring_here", "_law_newest", "_law_k", "_law_pot_here", "_law_turn"] ["_law_script", "_law_most_here"] (defScope s_law_history) := ⟨rfl, rfl, rfl, by decide +kernel, rfl, by decide +kernel, by decide +kernel⟩
theorem ok_law_history (S : Say K mg base) : FnOk P w K mg base CX0 19 (He.ga K "_law_history") (fdO K ("_law_history", none)) ["_law_script", "_law_most_here"] (spHist K) := by
  refine (S.F_law_history).ok sc_law_history (fun vs H Q E h => ?_) (fun cdv A outer s H vs Q E hr h => ?_)
  · obtain ⟨a, xs, mo, rfl, ht, hs, hx, hmo, k⟩ := h
    rfl
  obtain ⟨a, xs, mo, rfl, ht, hs, hx, hmo, k⟩ := h
  have hu := hu_of hr
  refine ⟨_, PSs.nox (pss_cons (ps_set (i := 2) sc_law_history.nd rfl (Or.inl rfl) (pe_call (ok_law_ring S) (hr.mono (by decide)) rfl S.g_law_ring (S.F_law_ring).kp S.b_law_ring .nil pass0 (pa_cons (pe_call (ok_law_pot S) (hr.mono (by decide)) rfl S.g_law_pot (S.F_law_pot).kp S.b_law_pot .nil pass0 (pa_cons (pv 0) (pa_cons pe_int pa_nil))) pa_nil)))
        (pss_cons (ps_set (i := 3) sc_law_history.nd rfl (Or.inl rfl) pe_dnewK)
        (pss_cons (ps_for PassesOwn.never rfl (pi_range2 rfl S.z_range (pa_cons pe_int (pa_cons (pe_callB (call_max2 rfl) (by rfl) S.z_max (by decide +kernel) (pa_cons pe_int (pa_cons (pe_callB (call_min2 rfl) (by rfl) S.z_min (by decide +kernel) (pa_cons (pe_callB call_len_seq (by rfl) S.z_len (by decide +kernel) (pa_cons (pv 0) pa_nil)) (pa_cons (pv 1) pa_nil))) pa_nil))) pa_nil))) (pg_name (i := 4) sc_law_history.nd rfl (Or.inl rfl))
        (pss_cons (ps_set (i := 5) sc_law_history.nd rfl (Or.inl rfl) (pe_call (ok_law_pot S) (hr.mono (by decide)) rfl S.g_law_pot (S.F_law_pot).kp S.b_law_pot .nil pass0 (pa_cons (pv 0) (pa_cons (pv 4) pa_nil))))
        (pss_one (ps_for PassesOwn.never rfl (pi_range1 rfl S.z_range (pa_cons (pe_op op_add pe_int (pe_call (ok_law_take S) (hr.mono (by decide)) rfl S.g_law_take (S.F_law_take).kp S.b_law_take .nil pass0 (pa_cons (pv 5) (pa_cons pe_int pa_nil)))) pa_nil)) (pg_name (i := 6) sc_law_history.nd rfl (Or.inl rfl))
        (pss_one (ps_expr (pe_call (ok_law_done S) (hr.mono (by decide)) rfl S.g_law_done (S.F_law_done).kp S.b_law_done .nil pass0 (pa_cons (pv 5) (pa_cons (pv 2) (pa_cons (pv 3) pa_nil))))))))))
        (pss_one (ps_ret (pe_tup (pa_cons (pv 2) (pa_cons (pv 3) pa_nil)))))))), ?_⟩
  refine ⟨_, rfl, a, xs, 0, rfl, hs, by omega, fun q x y hq => ?_⟩
  have f1 : Fin K H (upd H q (.lst [.int x, .int y])) := Fin.of (same_new hq) ht
  refine ⟨q, rfl, f1.2, ⟨x, y, upd_same⟩, fun b m ns A H2 hb hm hmn h8 hp hn h2 p2 rq hold => ?_⟩
  have aq : ∀ o, H a = some o → a ≠ q := fun o e => ne_of_none e hq
  have h2s : Scr K H2 A q a (xs.map V.int) := by
    rcases sq_split hs with ⟨o, e1, e2⟩ | e
    · have e3 := f1.1 a o e1 (Scr.plain e2)
      exact .inl ⟨o, p2.1 a o e3 (Scr.plain e2) (aq o e1), e2, hold a o e3 (Scr.plain e2), aq o e1⟩
    · exact .inr e
  refine fun D hD => ?_
  have f3 := Fin.of (same_new (o := HO.dK []) hD) h2.tabs
  have rD : A.ρ D = none := noRole h2.ring (notOld_of hD)
  have t0 : Turn K 0 0 (upd H2 D (.dK [])) A (initM b m ns) A.r b a (xs.map V.int) D := by
    refine ⟨h2.fin f3, ⟨sound_init ⟨hb.1, by omega⟩ hm hmn h8 hp hn, hb.2, Nat.le_refl _, Nat.le_refl _⟩, (by show (sortedM ns).length ≤ 8; rw [(sortedM_perm ns).length_eq]; exact h8), rfl, rfl, ⟨[], upd_same, Nat.le_refl _⟩, rD, Scr.keep h2s fun o e1 e2 e3 e4 e5 => ⟨f3.1 a o e1 e2, e4, ne_of_none e1 hD⟩⟩
  have n0 : News (upd H2 D (.dK [])) D (initM b m ns) := ⟨[], fun _ => 0, upd_same, .nil, fun p h => absurd h (by simp), fun t ht => by
    have z := ht.1.2
    have e : (initM b m ns).puts = [] := rfl
    rw [e] at z
    cases z⟩
  have h0 : Held (initM b m ns) := held_init b m ns
  revert t0 n0
  generalize upd H2 D (.dK []) = H3
  intro t0 n0
  refine ⟨_, rfl, a, _, rfl, .inl t0.scr.sq, _, rfl, _, _, rfl, _, _, rfl, _, _, rfl, ?_, ?_⟩
  · have z := histJ ((xs.map V.int).length : Int) mo hmo
    exact ⟨by decide, by decide, by omega, by omega⟩
  have hJ := histJ ((xs.map V.int).length : Int) mo hmo
  generalize (if (if mo < ((xs.map V.int).length : Int) then mo else ((xs.map V.int).length : Int)) > 4 then (if mo < ((xs.map V.int).length : Int) then mo else ((xs.map V.int).length : Int)) else 4) = J at hJ ⊢
  refine for_it walk_range (fun i σ H4 => ∃ (A4 : RA) (R4 : RingS) (v4 v5 v6 : Option V), σ = [some (.ref a), some (.int mo), some (.ref A.r), some (.ref D), v4, v5, v6] ∧ Turn K (2 * i) 0 H4 A4 R4 A.r b a (xs.map V.int) D ∧ Held R4 ∧ News H4 D R4) ⟨A, _, none, none, none, rfl, t0, h0, n0⟩ (fun _ _ _ _ _ => True.intro) ?_ ?_
  · rintro i z σ H4 H4' hi ⟨A4, R4, v4, v5, v6, rfl, t4, hh4, n4⟩ ⟨rfl, rfl⟩
    have hi24 : i < 19 := by omega
    refine ⟨_, rfl, _, rfl, a, xs, i + 1, (by show [V.ref a, V.int (1 + (i : Int))] = _; rw [Int.add_comm]; rfl), t4.scr.sq, by omega, fun q x y hq => ?_⟩
    have fq : Fin K H4' (upd H4' q (.lst [.int x, .int y])) := Fin.of (same_new hq) t4.at_.tabs
    have sq4 : Scr K (upd H4' q (.lst [.int x, .int y])) A4 q a (xs.map V.int) := Scr.keep t4.scr fun o e1 e2 e3 e4 e5 => ⟨fq.1 a o e1 e2, e4, ne_of_none e1 hq⟩
    have t5 : Turn K (2 * i) 0 (upd H4' q (.lst [.int x, .int y])) A4 R4 A.r b a (xs.map V.int) D := by
      obtain ⟨kvs, h1, h2⟩ := t4.dict
      exact ⟨t4.at_.fin fq, t4.good, t4.few, t4.ring, t4.bits, ⟨kvs, fq.1 _ _ h1 (fun _ z => nomatch z), h2⟩, t4.rD, Scr.keep t4.scr fun o e1 e2 e3 e4 e5 => ⟨fq.1 a o e1 e2, e4, e5⟩⟩
    have rq : A4.ρ q = none := noRole t4.at_.ring (notOld_of hq)
    have pq : PotAt (upd H4' q (.lst [.int x, .int y])) q := ⟨x, y, upd_same⟩
    have n5 : News (upd H4' q (.lst [.int x, .int y])) D R4 := n4.keep rfl (fun ks e => fq.1 _ _ e fun _ z => nomatch z) fun b xs e => fq.1 _ _ e fun _ z => nomatch z
    revert sq4 t5 pq n5
    generalize upd H4' q (.lst [.int x, .int y]) = H5
    intro sq4 t5 pq n5
    clear fq t4 hq n4
    have Dq : D ≠ q := fun e => by
      obtain ⟨kvs, h1, _⟩ := t5.dict
      obtain ⟨x0, y0, h2⟩ := pq
      rw [e, h2] at h1
      cases h1
    refine ⟨_, rfl, q, 2, rfl, pq, ⟨by decide, by decide⟩, fun d x' y' d0 d1 => ⟨_, _, rfl, rfl, 1 + d, rfl, by omega, by omega, ?_⟩⟩
    have p6 := PotStep.upd pq t5.at_.tabs x' y'
    have t6 : Turn K (2 * i + 0) 0 (upd H5 q (.lst [.int x', .int y'])) A4 R4 A.r b a (xs.map V.int) D := by
      obtain ⟨kvs, h1, h2⟩ := t5.dict
      refine ⟨t5.at_.pot pq rq p6, t5.good, t5.few, t5.ring, t5.bits, ⟨kvs, p6.1 _ _ h1 (fun _ z => nomatch z) Dq, h2⟩, t5.rD, ?_⟩
      rcases sq4 with ⟨o, e1, e2, e3, e4⟩ | e
      · exact Scr.keep t5.scr fun o f1 f2 f3 f4 f5 => ⟨p6.1 a o f1 f2 e4, f4, f5⟩
      · exact .inr e
    have sq6 : Scr K (upd H5 q (.lst [.int x', .int y'])) A4 q a (xs.map V.int) := Scr.keep sq4 fun o f1 f2 f3 f4 f5 => ⟨p6.1 a o f1 f2 f5, f4, f5⟩
    have pq6 := p6.2.1
    have n6 : News (upd H5 q (.lst [.int x', .int y'])) D R4 := n5.keep rfl (fun ks e => p6.1 _ _ e (fun _ z => nomatch z) Dq) fun b xs e => p6.1 _ _ e (fun _ z => nomatch z) fun c => by
      obtain ⟨x0, y0, h2⟩ := pq
      rw [c, h2] at e
      cases e
    revert sq6 t6 pq6 n6
    generalize upd H5 q (.lst [.int x', .int y']) = H6
    intro t6 sq6 pq6 n6
    clear p6 t5 sq4 pq
    refine for_it walk_range (fun j σ H7 => ∃ (A7 : RA) (R7 : RingS) (v6' : Option V), σ = [some (.ref a), some (.int mo), some (.ref A.r), some (.ref D), some (.int (1 + (i : Int))), some (.ref q), v6'] ∧ Turn K (2 * i + j) 0 H7 A7 R7 A.r b a (xs.map V.int) D ∧ PotAt H7 q ∧ A7.ρ q = none ∧ Scr K H7 A7 q a (xs.map V.int) ∧ Held R7 ∧ News H7 D R7) ⟨A4, R4, v6, rfl, t6, pq6, rq, sq6, hh4, n6⟩ (fun _ _ _ _ _ => True.intro) ?_ ?_
    · rintro j z σ H7 H7' hj ⟨A7, R7, v6', rfl, t7, p7, r7, s7, hh7, n7⟩ ⟨rfl, rfl⟩
      have hj2 : j < 2 := by omega
      obtain ⟨kvs, h1, h2⟩ := t7.dict
      have few7 := t7.few
      refine ⟨_, rfl, _, rfl, _, rfl, A7, R7, q, D, kvs, _, by rw [t7.ring]; rfl, t7.at_, t7.good, by omega, p7, r7, t7.rD, h1, by omega, by omega, fun H8 A8 R8 kvs' dn => ?_⟩
      obtain ⟨s8, s8'⟩ := Scr.keep2 (H' := H8) (A' := A8) s7 t7.scr fun o f1 f2 f3 f4 f5 => dn.off a o f1 f2 f3 f4 f5
      refine ⟨A8, R8, _, rfl, ⟨dn.at_, ?_, ?_, dn.r.trans t7.ring, dn.next.bits.trans t7.bits, ⟨kvs', dn.dict, by have := dn.len; omega⟩, dn.rD, s8'⟩, dn.pot, dn.rq, s8, dn.next.held hh7, dn.news n7⟩
      · have e : 2 * i + (j + 1) + 0 = 2 * i + j + 0 + 1 := by omega
        rw [e]
        exact dn.next.good
      · have := dn.next.len
        omega
    · rintro σ H7 ⟨A7, R7, v6', rfl, t7, p7, r7, s7, hh7, n7⟩
      obtain ⟨kvs, hk1, hk2⟩ := t7.dict
      have hJ2 : (1 + d).toNat ≤ 2 := by omega
      have g := t7.good
      have few := t7.few
      refine ⟨A7, R7, _, _, _, rfl, ⟨t7.at_, ⟨g.sound, g.bits, by have := g.done; omega, by have := g.puts; omega⟩, by omega, t7.ring, t7.bits, ⟨kvs, hk1, by omega⟩, t7.rD, t7.scr⟩, hh7, n7⟩
  · rintro σ H4 ⟨A4, R4, v4, v5, v6, rfl, t4, hh4, n4⟩
    refine ⟨_, rfl, _, rfl, (by show 2 ≤ sizeLine; decide), fun t ht' => ?_⟩
    have f5 : Fin K H4 (upd H4 t (.tup [.ref A.r, .ref D])) := Fin.of (same_new ht') t4.at_.tabs
    obtain ⟨kvs, h1, h2⟩ := t4.dict
    have e := t4.ring
    refine k t D _ _ A4 R4 b (by rw [e]; exact upd_same) (by omega) ⟨t4.at_.fin f5, t4.good, t4.few, rfl, t4.bits, ⟨kvs, f5.1 _ _ h1 (fun _ z => nomatch z), h2⟩, t4.rD, Scr.keep t4.scr fun o e1 e2 e3 e4 e5 => ⟨f5.1 a o e1 e2, e4, e5⟩⟩ hh4 (n4.keep rfl (fun ks e => f5.1 _ _ e fun _ z => nomatch z) fun b xs e => f5.1 _ _ e fun _ z => nomatch z)
end
end Nn
set_option Elab.async false
set_option linter.all false
set_option maxRecDepth 100000
set_option maxHeartbeats 1000000
namespace Nn
open PySem PySem.Spec PyProof.Rows L2 LamX KeyL
section
variable {P : Program} {w : World} {K : PySem.W.Frag} {mg : Str → Option Value} {base : Heap}
def spOrders (K : PySem.W.Frag) : Sp := fun vs H Q _ => ∃ (a : Addr) (xs : List Int) (mo : Int), vs = [.ref a, .int mo] ∧ Tabs (tabT K) H ∧ SqL K H a (xs.map V.int) ∧ (∀ H', Fin K H H' → SqL K H' a (xs.map V.int)) ∧ xs.length ≤ 63 ∧ (0 ≤ mo ∧ mo < 1000) ∧ ∀ q H', NotOld H q → PotAt H' q → Fin K H H' → Q (.ref q) H'
theorem sc_law_orders : FnScope ["_law_script", "_law_most_here", "_law_cell_here", "_law_one"] ["_law_script", "_law_most_here"] (defScope s_law_orders) := ⟨rfl, rfl, rfl, by decide +kernel, rfl, by decide +kernel, by decide +kernel⟩
theorem ok_law_orders (S : Say K mg base) : FnOk P w K mg base CX0 1 (He.ga K "_law_orders") (fdO K ("_law_orders", none)) ["_law_script", "_law_most_here"] (spOrders K) := by
  refine (S.F_law_orders).ok sc_law_orders (fun vs H Q E h => ?_) (fun cdv A outer s H vs Q E hr h => ?_)
  · obtain ⟨a, xs, mo, rfl, ht, hs, hs2, hx, hmo, k⟩ := h
    rfl
  obtain ⟨a, xs, mo, rfl, ht, hs, hs2, hx, hmo, k⟩ := h
  have hu := hu_of hr
  refine ⟨_, PSs.nox (pss_cons (ps_set (i := 2) sc_law_orders.nd rfl (Or.inl rfl) (pe_ifExp (pt_cmpR op_gt (pe_callB call_len_seq (by rfl) S.z_len (by decide +kernel) (pa_cons (pv 0) pa_nil)) (pv 1) (nomark _)) (pe_ix ix_list (pv 0) (pv 1) (fun _ _ => rfl)) (pe_callB (cr_sum rfl) (by rfl) S.z_sum (by decide +kernel) (pa_cons (pe_lc (own := [("_law_one", 3)]) rfl sc_law_orders.nd (pi_list (pv 0)) (blkOk_by (own := [("_law_one", 3)]) (N := ["_law_script", "_law_most_here", "_law_cell_here", "_law_one"]) (sc := defScope s_law_orders) (by decide +kernel)) (fun _ _ _ _ _ => (pg_name (i := 3) sc_law_orders.nd rfl (Or.inl rfl))) (fun _ _ _ _ _ => pts_nil) (fun _ _ _ _ _ => (pe_op op_mod (pe_callB call_abs (by rfl) S.z_abs (by decide +kernel) (pa_cons (pv 3) pa_nil)) (pe_op op_pow pe_int pe_int)))) pa_nil))))
        (pss_one (ps_ret (pe_lst (pa_cons (pe_callB (call_max2 rfl) (by rfl) S.z_max (by decide +kernel) (pa_cons pe_int (pa_cons (pe_op op_sub (pv 2) (pe_op op_pow pe_int pe_int)) pa_nil))) (pa_cons (pe_op op_mod (pe_op op_add (pe_op op_add (pe_op op_mul (pe_op op_mod (pe_callB call_abs (by rfl) S.z_abs (by decide +kernel) (pa_cons (pv 2) pa_nil)) pe_int) pe_int) (pe_op op_mul pe_int (pv 1))) pe_int) pe_int) pa_nil)))))), ?_⟩
  refine seq_set (fun v H1 => (∃ z : Int, v = .int z) ∧ Fin K H H1) (fun Q' hQ => ?_) fun v H1 hv => ?_
  · have f0 : Fin K H H := ⟨fun _ _ e _ => e, ht⟩
    refine ⟨_, rfl, a, _, rfl, .inl hs, _, rfl, _, _, rfl, rfl, _, rfl, ?_⟩
    by_cases c : mo < (((xs.map V.int).length : Nat) : Int)
    · rw [decide_eq_true c]
      rw [List.length_map] at c
      refine iteT ⟨_, rfl, _, rfl, a, _, mo, _, rfl, rfl, hs, atI_nn hmo.1 c, hQ _ _ ⟨⟨_, rfl⟩, f0⟩⟩
    · rw [decide_eq_false c]
      refine iteF ⟨_, rfl, a, rfl, ⟨_, hs⟩, fun D hD => ?_⟩
      refine lc_list (K := K) (a := a) (xs := xs.map V.int) (fun i H2 => Same H H2 ∧ H2 D = some (.lst (((xs.take i).map fun x : Int => (if x < 0 then -x else x) % 10 ^ 15).map V.int))) ⟨same_new hD, upd_same⟩ (fun i H2 _ h => hs2 H2 (Fin.of h.1 ht)) ?_ ?_
      · rintro i x H2 hi ⟨s2, hd⟩
        obtain ⟨z, hz, rfl⟩ := getI hi
        refine ⟨rfl, _, rfl, _, rfl, _, _, rfl, rfl, ⟨by decide, by decide, by decide⟩, _, _, rfl, rfl, (show (0 : Int) < 10 ^ 15 by decide), _, hd, ?_, ?_, ?_⟩
        · refine szL ?_
          rw [List.length_map, List.length_map, List.length_take]
          omega
        · intro b' o e
          rw [upd_ne (ne_of_none e hD)]
          exact s2 b' o e
        · rw [upd_same, take_one hz, List.map_append, List.map_append]
          rfl
      · rintro H2 ⟨s2, hd⟩
        rw [List.length_map, List.take_length] at hd
        exact ⟨D, _, rfl, .inl (.inl hd), hQ _ _ ⟨⟨_, rfl⟩, Fin.of s2 ht⟩⟩
  · obtain ⟨⟨z, rfl⟩, f1⟩ := hv
    refine ⟨_, rfl, _, _, rfl, rfl, ⟨by decide, by decide, by decide⟩, _, _, rfl, rfl, _, _, rfl, ?_⟩
    refine ⟨_, rfl, _, rfl, _, _, rfl, rfl, (show (0 : Int) < 2147483629 by decide), _, _, rfl, rfl, .inr ⟨by decide, by decide⟩, _, rfl, _, _, rfl, rfl, .inl ⟨by decide, by decide⟩, _, _, rfl, rfl, _, _, rfl, rfl, _, _, rfl, rfl, (show (0 : Int) < 2147483629 by decide), (by show 2 ≤ sizeLine; decide), fun q hq => ?_⟩
    exact k q _ ((notOld_of hq).back f1) ⟨_, _, upd_same⟩ (f1.trans (Fin.of (same_new hq) f1.2))
end
end Nn
set_option Elab.async false
set_option linter.all false
set_option maxRecDepth 100000
set_option maxHeartbeats 1000000
namespace Nn
open PySem PySem.Spec PyProof.Rows L2 LamX KeyL
/-! ### lists become right, one name a round -/
def Chn (R : RingS) : Int → List Int → Prop
  | _, [] => True
  | x, y :: r => Nb R x y ∧ Chn R y r
theorem Chn.but {R R' : RingS} (hn : R'.names = R.names) (hb : R'.bits = R.bits) : ∀ (l : List Int) (x : Int), Chn R x l → Chn R' x l
  | [], _, _ => True.intro
  | y :: r, x, h => ⟨h.1.but hn hb, Chn.but hn hb r y h.2⟩
theorem Chn.take {R : RingS} : ∀ (l : List Int) (x : Int) (k : Nat), Chn R x l → Chn R x (l.take k)
  | [], _, k, _ => by rw [List.take_nil]; exact True.intro
  | y :: r, x, 0, _ => True.intro
  | y :: r, x, k + 1, h => ⟨h.1, Chn.take r y k h.2⟩
theorem Chn.unique {R : RingS} (ho : Ok R) : ∀ (l l' : List Int) (x : Int), Chn R x l → Chn R x l' → l.length = l'.length → l = l'
  | [], [], _, _, _, _ => rfl
  | [], _ :: _, _, _, _, e => by cases e
  | _ :: _, [], _, _, _, e => by cases e
  | y :: r, y' :: r', x, h, h', e => by
    have ey := h.1.unique ho h'.1
    subst ey
    rw [Chn.unique ho r r' y h.2 h'.2 (Nat.succ.inj e)]
theorem Chn.mem {R : RingS} : ∀ (l : List Int) (x : Int), Chn R x l → ∀ y ∈ l, y ∈ R.names
  | y :: r, x, h, z, hz => by
    rcases List.mem_cons.mp hz with e | e
    · rw [e]; exact h.1.right
    · exact Chn.mem r y h.2 z e
/-- a right predecessor stays when one stabilizes -/
theorem prior_stay {R : RingS} {n : Int} (hn : n ∈ R.names) {x y : Int} (h : Nb R x y) (e : (R.node y).prior = some x) : ((steadiedM R n).node y).prior = some x := by
  rw [steadied_prior]
  by_cases q : y = sourceM R n
  · rw [if_pos q]
    unfold toldM
    rw [e, memO_of h.left]
    show (if btw R.bits n x y = true then some n else some x) = some x
    by_cases c : btw R.bits n x y = true
    · rw [if_pos c]
      obtain ⟨c1, c2⟩ := btw_iff.mp c
      have c3 := c2.resolve_left h.ne
      have nx : n ≠ x := fun e => by rw [e, dist_self] at c1; omega
      have := h.near n hn nx
      omega
    · rw [if_neg c]
  · rw [if_neg q]; exact e
/-- all nexts and predecessors right -/
structure Rt (R : RingS) : Prop where
  next : ∀ n ∈ R.names, NextOk R n
  prior : ∀ x y, Nb R x y → (R.node y).prior = some x
theorem Rt.source {R : RingS} (r : Rt R) {n : Int} (hn : n ∈ R.names) : sourceM R n = nxtI R n := by
  have h : Nb R n (nxtI R n) := r.next n hn
  unfold sourceM
  rw [r.prior _ _ h, memO_of hn]
  show (if btw R.bits n n (nxtI R n) = true then n else nxtI R n) = _
  by_cases c : btw R.bits n n (nxtI R n) = true
  · obtain ⟨c1, _⟩ := btw_iff.mp c
    rw [dist_self] at c1
    omega
  · rw [if_neg c]
theorem Rt.steadied {R : RingS} (ho : Ok R) (r : Rt R) {n : Int} (hn : n ∈ R.names) : Rt (steadiedM R n) := by
  obtain ⟨bn, bb, _⟩ := steadiedM_but R n
  refine ⟨fun m hm => ?_, fun x y h => prior_stay hn (h.but bn.symm bb.symm) (r.prior x y (h.but bn.symm bb.symm))⟩
  rw [bn] at hm
  unfold NextOk
  rw [steadied_next ho hn]
  by_cases q : m = n
  · rw [if_pos q, r.source hn, q]
    exact Nb.but bn bb (r.next n hn)
  · rw [if_neg q]
    exact Nb.but bn bb (r.next m hm)
theorem chn_steadied {R : RingS} (ho : Ok R) (r : Rt R) {n : Int} (hn : n ∈ R.names) {j : Nat} (hj : ∀ m ∈ R.names, Chn R m ((R.node m).chain.take j)) : Chn (steadiedM R n) n (((steadiedM R n).node n).chain.take (j + 1)) := by
  obtain ⟨bn, bb, _⟩ := steadiedM_but R n
  have h : Nb R n (nxtI R n) := r.next n hn
  rw [steadied_chain, if_pos rfl, r.source hn]
  refine Chn.but bn bb _ _ ⟨h, ?_⟩
  have z := hj _ h.right
  have e : ((R.node (nxtI R n)).chain.dropLast.take j) = ((R.node (nxtI R n)).chain.take j).take ((R.node (nxtI R n)).chain.length - 1) := by
    rw [List.dropLast_eq_take, List.take_take, List.take_take, Nat.min_comm]
  show Chn R (nxtI R n) ((R.node (nxtI R n)).chain.dropLast.take j)
  rw [e]
  exact z.take _ _ _
theorem chn_all {j : Nat} : ∀ (ns : List Int) {S : Int → Prop} {R : RingS}, Ok R → Rt R → (∀ n ∈ ns, n ∈ R.names) → (∀ m ∈ R.names, Chn R m ((R.node m).chain.take j)) → (∀ m ∈ R.names, S m → Chn R m ((R.node m).chain.take (j + 1))) →
    Rt (allM steadiedM R ns) ∧ ∀ m ∈ R.names, S m ∨ m ∈ ns → Chn (allM steadiedM R ns) m (((allM steadiedM R ns).node m).chain.take (j + 1))
  | [], S, R, _, r, _, _, hS => ⟨r, fun m hm h => hS m hm (h.resolve_right (by simp))⟩
  | n :: ns, S, R, ho, r, hns, hj, hS => by
    have hn := hns n (List.mem_cons_self ..)
    obtain ⟨bn, bb, _⟩ := steadiedM_but R n
    have z := chn_steadied ho r hn hj
    obtain ⟨r2, h2⟩ := chn_all (j := j) ns (S := fun m => S m ∨ m = n) (R := steadiedM R n) (okSteadied ho hn) (r.steadied ho hn) (fun m hm => by rw [bn]; exact hns m (List.mem_cons_of_mem _ hm)) (fun m hm => by
      rw [bn] at hm
      by_cases q : m = n
      · rw [q]
        have y := Chn.take _ _ j z
        rw [List.take_take, Nat.min_eq_left (Nat.le_succ j)] at y
        exact y
      · rw [steadied_chain, if_neg q]
        exact Chn.but bn bb _ _ (hj m hm)) fun m hm hS' => by
      rw [bn] at hm
      by_cases q : m = n
      · rw [q]; exact z
      · rw [steadied_chain, if_neg q]
        exact Chn.but bn bb _ _ (hS m hm (hS'.resolve_right q))
    refine ⟨r2, fun m hm h => h2 m (by rw [bn]; exact hm) ?_⟩
    rcases h with h | h
    · exact .inl (.inl h)
    · rcases List.mem_cons.mp h with h | h
      · exact .inl (.inr h)
      · exact .inr h
/-- a list that begins with a member -/
def HeadIn (R : RingS) (n : Int) : Prop := ∃ y r, (R.node n).chain = y :: r ∧ y ∈ R.names
theorem head_all : ∀ (ns : List Int) {S : Int → Prop} {R : RingS}, Ok R → (∀ n ∈ ns, n ∈ R.names) → (∀ m, S m → HeadIn R m) → ∀ m, S m ∨ m ∈ ns → HeadIn (allM steadiedM R ns) m
  | [], S, R, _, _, hS, m, h => hS m (h.resolve_right (by simp))
  | n :: ns, S, R, ho, hns, hS, m, h => by
    have hn := hns n (List.mem_cons_self ..)
    obtain ⟨bn, bb, _⟩ := steadiedM_but R n
    refine head_all ns (S := fun m => S m ∨ m = n) (R := steadiedM R n) (okSteadied ho hn) (fun m hm => by rw [bn]; exact hns m (List.mem_cons_of_mem _ hm)) (fun m hm => ?_) m ?_
    · unfold HeadIn
      rw [steadied_chain, bn]
      by_cases q : m = n
      · rw [if_pos q]
        exact ⟨_, _, rfl, sourceM_mem ho hn⟩
      · rw [if_neg q]
        exact hS m (hm.resolve_right q)
    · rcases h with h | h
      · exact .inl (.inl h)
      · rcases List.mem_cons.mp h with h | h
        · exact .inl (.inr h)
        · exact .inr h
theorem Rt.keep {R R' : RingS} (hn : R'.names = R.names) (hb : R'.bits = R.bits) (p : ∀ m, (R'.node m).chain = (R.node m).chain ∧ (R'.node m).prior = (R.node m).prior) (r : Rt R) : Rt R' := by
  refine ⟨fun m hm => ?_, fun x y h => ?_⟩
  · rw [hn] at hm
    unfold NextOk
    rw [nxtI_of_chain hn (p m).1]
    exact Nb.but hn hb (r.next m hm)
  · rw [(p y).2]
    exact r.prior x y (h.but hn.symm hb.symm)
theorem mendM_same (R : RingS) (ns : List Int) : (mendM R ns).names = (allM steadiedM R ns).names ∧ (mendM R ns).bits = (allM steadiedM R ns).bits := by
  have bs := allM_but (f := steadiedM) steadiedM_but ns R
  obtain ⟨m1, m2, _⟩ := mendM_names R ns
  exact ⟨m1.trans bs.1.symm, m2.trans bs.2.1.symm⟩
/-- a round where all nexts and predecessors are right: one name more of each list -/
theorem chn_round {R : RingS} (ho : Ok R) (r : Rt R) {ns : List Int} (hp : ns.Perm R.names) {j : Nat} (hj : ∀ m ∈ R.names, Chn R m ((R.node m).chain.take j)) : Rt (mendM R ns) ∧ ∀ m ∈ (mendM R ns).names, Chn (mendM R ns) m (((mendM R ns).node m).chain.take (j + 1)) := by
  obtain ⟨r2, h2⟩ := chn_all (j := j) ns (S := fun _ => False) ho r (fun n hn => hp.mem_iff.mp hn) hj (fun _ _ h => h.elim)
  obtain ⟨en, eb⟩ := mendM_same R ns
  refine ⟨r2.keep en eb fun m => mendM_parts R ns m, fun m hm => ?_⟩
  rw [(mendM_parts R ns m).1]
  refine Chn.but en eb _ _ (h2 m ?_ (.inr (hp.mem_iff.mpr ?_)))
  · rw [(mendM_names R ns).1] at hm; exact hm
  · rw [(mendM_names R ns).1] at hm; exact hm
theorem head_round {R : RingS} (ho : Ok R) {ns : List Int} (hp : ns.Perm R.names) : ∀ m ∈ (mendM R ns).names, HeadIn (mendM R ns) m := fun m hm => by
  have hm' : m ∈ R.names := by rw [(mendM_names R ns).1] at hm; exact hm
  obtain ⟨y, r, h1, h2⟩ := head_all ns (S := fun _ => False) ho (fun n hn => hp.mem_iff.mp hn) (fun _ h => h.elim) m (.inr (hp.mem_iff.mpr hm'))
  exact ⟨y, r, (mendM_parts R ns m).1.trans h1, by rw [(mendM_same R ns).1]; exact h2⟩
theorem chn_one {R : RingS} (r : Rt R) (hh : ∀ m ∈ R.names, HeadIn R m) : ∀ m ∈ R.names, Chn R m ((R.node m).chain.take 1) := fun m hm => by
  obtain ⟨y, l, h1, h2⟩ := hh m hm
  have e : nxtI R m = y := by
    unfold nxtI nxt firstOf
    rw [h1, List.find?_cons, decide_eq_true h2]
    rfl
  rw [h1]
  have z : Nb R m (nxtI R m) := r.next m hm
  rw [e] at z
  exact ⟨z, True.intro⟩
/-! ### settling where all lists are right -/
theorem exists_new (R : RingS) {p : Int} {i : Nat} {x : Option Str} (h : R.puts[i]? = some (p, x)) : ∃ t, IsNew R t ∧ t.1 = p := by
  have key : ∀ (k : Nat) (i : Nat) (x : Option Str), R.puts.length - i = k → R.puts[i]? = some (p, x) → ∃ t, IsNew R t ∧ t.1 = p := fun k => by
    induction k using Nat.strongRecOn with
    | ind k ih =>
      intro i x hk h
      by_cases c : ∃ (j : Nat) (y : Option Str), i + 1 ≤ j ∧ R.puts[j]? = some (p, y)
      · obtain ⟨j, y, h1, h2⟩ := c
        have l1 := (List.getElem?_eq_some_iff.mp h2).1
        exact ih (R.puts.length - j) (by omega) j y rfl h2
      · refine ⟨(p, ((i + 1 : Nat) : Int), x), ⟨⟨by show (1 : Int) ≤ ((i + 1 : Nat) : Int); omega, ?_⟩, fun j y hj e => c ⟨j, y, ?_, e⟩⟩, rfl⟩
        · show R.puts[(((i + 1 : Nat) : Int)).toNat - 1]? = some (p, x)
          have e : (((i + 1 : Nat) : Int)).toNat - 1 = i := by omega
          rw [e]
          exact h
        · have : (((i + 1 : Nat) : Int)).toNat ≤ j := hj
          omega
  exact key _ i x rfl h
section
variable {R0 : RingS} {D : Int → List Int}
/-- whom a point's items belong to, whoever asks -/
def Due (R0 : RingS) (D : Int → List Int) : Prop := ∀ R, SameBut R0 R → SameP R0 R → ∀ p n, n ∈ R.names → 0 ≤ p ∧ p < 2 ^ R.bits → holdersM R p n = D p
structure StepD (R0 : RingS) (D : Int → List Int) (n : Int) (R R' : RingS) (ts : List Thing) : Prop where
  kp : Kp R'
  keeps : ∀ u m, IsNew R u → itm R m u.1 = some u → (m ≠ n ∨ n ∈ D u.1 ∨ ∀ t ∈ ts, t.1 ≠ u.1) → itm R' m u.1 = some u
  gives : ∀ t ∈ ts, IsNew R t → ∀ k ∈ D t.1, k ∈ R.names → itm R' k t.1 = some t
  goes : ∀ t ∈ ts, n ∉ D t.1 → itm R' n t.1 = none
  only : ∀ m q, itm R' m q ≠ none → itm R m q ≠ none ∨ m ∈ D q
  other : ∀ m q, (∀ t ∈ ts, t.1 ≠ q) → itm R' m q = itm R m q
theorem offers_only {p s : Int} {x : Option Str} : ∀ (ns : List Int) (R : RingS) (m q : Int), itm (offersM R ns p s x) m q ≠ none → itm R m q ≠ none ∨ (m ∈ ns ∧ q = p)
  | [], _, _, _, h => .inl h
  | n :: ns, R, m, q, h => by
    rcases offers_only ns (R.offer n p s x) m q h with h | h
    · rw [itm_offer] at h
      by_cases c : m = n
      · rw [if_pos c] at h
        by_cases d : q = p
        · exact .inr ⟨by rw [c]; exact List.mem_cons_self .., d⟩
        · rw [getT_offer_ne d] at h
          exact .inl h
      · rw [if_neg c] at h
        exact .inl h
    · exact .inr ⟨List.mem_cons_of_mem _ h.1, h.2⟩
theorem stepD_one {n : Int} {R : RingS} {t : Thing} (hD : Due R0 D) (b : SameBut R0 R) (q : SameP R0 R) (hn : n ∈ R.names) (k : Kp R) (v : Valid R t) : StepD R0 D n R (settleStep n R t) [t] := by
  have eh : holdersM R t.1 n = D t.1 := hD R b q t.1 n hn v.2.2
  obtain ⟨o1, o2, o3, o4⟩ := offers_all (p := t.1) (s := t.2.1) (x := t.2.2) (D t.1) R v k
  have oo := offers_only (p := t.1) (s := t.2.1) (x := t.2.2) (D t.1) R
  unfold settleStep
  rw [eh]
  by_cases c : n ∈ D t.1
  · rw [if_pos c]
    refine ⟨o1, fun u m hu h _ => o3 m u hu h, fun t' ht' hw k hk hm => ?_, fun t' ht' hd => ?_, fun m q h => ?_, fun m q h => o2 m q fun e => h t (List.mem_singleton.mpr rfl) e.symm⟩
    · rw [List.mem_singleton.mp ht'] at hw hk ⊢
      exact o4 k hk hm hw
    · rw [List.mem_singleton.mp ht'] at hd
      exact absurd c hd
    · rcases oo m q h with z | ⟨z1, z2⟩
      · exact .inl z
      · exact .inr (by rw [z2]; exact z1)
  · rw [if_neg c]
    refine ⟨letGo_kp o1, fun u m hu h hc => ?_, fun t' ht' hw k hk hm => ?_, fun t' ht' hd => ?_, fun m q h => ?_, fun m q h => ?_⟩
    · rw [itm_letGo]
      have z := o3 m u hu h
      by_cases d : m = n
      · rw [if_pos d]
        by_cases f : u.1 = t.1
        · exfalso
          rcases hc with g | g | g
          · exact g d
          · exact c (by rw [← f]; exact g)
          · exact g t (List.mem_singleton.mpr rfl) f.symm
        · rw [if_neg f]; exact z
      · rw [if_neg d]; exact z
    · rw [List.mem_singleton.mp ht'] at hw hk ⊢
      have kn : k ≠ n := fun e => c (by rw [← e]; exact hk)
      rw [itm_letGo, if_neg kn]
      exact o4 k hk hm hw
    · rw [List.mem_singleton.mp ht', itm_letGo, if_pos rfl, if_pos rfl]
    · rw [itm_letGo] at h
      have h' : itm (offersM R (D t.1) t.1 t.2.1 t.2.2) m q ≠ none := by
        by_cases d : m = n
        · rw [if_pos d] at h
          by_cases f : q = t.1
          · rw [if_pos f] at h; exact absurd rfl h
          · rw [if_neg f] at h; exact h
        · rw [if_neg d] at h; exact h
      rcases oo m q h' with z | ⟨z1, z2⟩
      · exact .inl z
      · exact .inr (by rw [z2]; exact z1)
    · have f : q ≠ t.1 := fun e => h t (List.mem_singleton.mpr rfl) e.symm
      rw [itm_letGo]
      by_cases d : m = n
      · rw [if_pos d, if_neg f]; exact o2 m q f
      · rw [if_neg d]; exact o2 m q f
theorem stepD_all {n : Int} (hD : Due R0 D) : ∀ (ts : List Thing) (R : RingS), SameBut R0 R → SameP R0 R → n ∈ R.names → Kp R → (∀ t ∈ ts, Valid R t) → (ts.map (·.1)).Nodup → StepD R0 D n R (settledFrom R n ts) ts
  | [], R, _, _, _, k, _, _ => ⟨k, fun _ _ _ h _ => h, fun t ht => absurd ht (by simp), fun t ht => absurd ht (by simp), fun _ _ h => .inl h, fun _ _ _ => rfl⟩
  | t :: ts, R, b, q, hn, k, v, nd => by
    rw [List.map_cons] at nd
    obtain ⟨n1, n2⟩ := List.nodup_cons.mp nd
    have hne : ∀ u ∈ ts, u.1 ≠ t.1 := fun u hu c => n1 (by rw [← c]; exact List.mem_map.mpr ⟨u, hu, rfl⟩)
    have s1 := stepD_one hD b q hn k (v t (List.mem_cons_self ..))
    have bs := settleStep_but n R t
    have ps : SameP R (settleStep n R t) := settledFrom_parts n [t] R
    have up : ∀ u, IsNew R u → IsNew (settleStep n R t) u := fun u hu => hu.but (R := settleStep n R t) bs.2.2.1.symm
    have s2 := stepD_all hD ts (settleStep n R t) (b.trans bs) (q.trans ps) (by rw [bs.1]; exact hn) s1.kp (fun u hu => (v u (List.mem_cons_of_mem _ hu)).but bs.2.2.1 bs.2.1) n2
    show StepD R0 D n R (settledFrom (settleStep n R t) n ts) (t :: ts)
    refine ⟨s2.kp, fun u m hu h hc => ?_, fun t' ht' hw k hk hm => ?_, fun t' ht' hd => ?_, fun m q h => ?_, fun m q h => ?_⟩
    · refine s2.keeps u m (up u hu) (s1.keeps u m hu h ?_) ?_
      · rcases hc with g | g | g
        · exact .inl g
        · exact .inr (.inl g)
        · exact .inr (.inr fun t' ht' => by rw [List.mem_singleton.mp ht']; exact g t (List.mem_cons_self ..))
      · rcases hc with g | g | g
        · exact .inl g
        · exact .inr (.inl g)
        · exact .inr (.inr fun t' ht' => g t' (List.mem_cons_of_mem _ ht'))
    · rcases List.mem_cons.mp ht' with e | e
      · rw [e] at hw hk ⊢
        rw [s2.other k t.1 hne]
        exact s1.gives t (List.mem_singleton.mpr rfl) hw k hk hm
      · exact s2.gives t' e (up t' hw) k hk (by rw [bs.1]; exact hm)
    · rcases List.mem_cons.mp ht' with e | e
      · rw [e] at hd ⊢
        rw [s2.other n t.1 hne]
        exact s1.goes t (List.mem_singleton.mpr rfl) hd
      · exact s2.goes t' e hd
    · rcases s2.only m q h with z | z
      · exact s1.only m q z
      · exact .inr z
    · rw [s2.other m q fun u hu => h u (List.mem_cons_of_mem _ hu)]
      exact s1.other m q fun u hu => by rw [List.mem_singleton.mp hu]; exact h t (List.mem_cons_self ..)
/-- how far the settling is: S have settled -/
structure Stl (R0 : RingS) (D : Int → List Int) (S : Int → Prop) (R : RingS) : Prop where
  but : SameBut R0 R
  parts : SameP R0 R
  kp : Kp R
  due : ∀ n, S n → ∀ q, itm R n q ≠ none → n ∈ D q
  spread : ∀ t, IsNew R t → (∀ k ∈ D t.1, k ∈ R.names → itm R k t.1 = some t) ∨ ∃ m ∈ R.names, ¬ S m ∧ itm R m t.1 = some t
theorem Stl.step {S : Int → Prop} {R : RingS} (hD : Due R0 D) (s : Stl R0 D S R) {n : Int} (hn : n ∈ R.names) : Stl R0 D (fun m => S m ∨ m = n) (settledM R n) := by
  have hk : ∀ t ∈ keptM R n, t ∈ (R.node n).things := fun t ht => (keptM_perm R n).mem_iff.mp ht
  have nd : ((keptM R n).map (·.1)).Nodup := ((keptM_perm R n).map _).nodup_iff.mpr (s.kp.keys n hn)
  have z := stepD_all hD (keptM R n) R s.but s.parts hn s.kp (fun t ht => s.kp.val n hn t (hk t ht)) nd
  have bs := settledM_but R n
  refine ⟨s.but.trans bs, s.parts.trans (settledFrom_parts n _ R), z.kp, fun m hm q h => ?_, fun t ht => ?_⟩
  · rcases z.only m q h with y | y
    · by_cases c : m = n
      · rw [c] at y h ⊢
        cases e : itm R n q with
        | none => exact absurd e y
        | some t =>
          obtain ⟨h1, h2⟩ := getT_mem e
          by_cases d : n ∈ D q
          · exact d
          · refine absurd ?_ h
            rw [← h2]
            exact z.goes t ((keptM_perm R n).mem_iff.mpr h1) (by rw [h2]; exact d)
      · exact s.due m (hm.resolve_right c) q y
    · exact y
  · have ht' : IsNew R t := ht.but bs.2.2.1
    rw [bs.1]
    rcases s.spread t ht' with h | ⟨m, h1, h2, h3⟩
    · refine .inl fun k hk' hm => z.keeps t k ht' (h k hk' hm) ?_
      by_cases c : k = n
      · exact .inr (.inl (by rw [← c]; exact hk'))
      · exact .inl c
    · by_cases c : m = n
      · rw [c] at h3
        obtain ⟨k1, _⟩ := getT_mem h3
        exact .inl fun k hk' hm => z.gives t ((keptM_perm R n).mem_iff.mpr k1) ht' k hk' hm
      · exact .inr ⟨m, h1, fun e => e.elim h2 c, z.keeps t m ht' h3 (.inl c)⟩
theorem Stl.all (hD : Due R0 D) : ∀ (ns : List Int) {S : Int → Prop} {R : RingS}, Stl R0 D S R → (∀ n ∈ ns, n ∈ R.names) → Stl R0 D (fun m => S m ∨ m ∈ ns) (allM settledM R ns)
  | [], S, R, s, _ => ⟨s.but, s.parts, s.kp, fun n h => s.due n (h.resolve_right (by simp)), fun t ht => (s.spread t ht).imp id fun ⟨m, h1, h2, h3⟩ => ⟨m, h1, fun e => h2 (e.resolve_right (by simp)), h3⟩⟩
  | n :: ns, S, R, s, hns => by
    have z := Stl.all hD ns (s.step hD (hns n (List.mem_cons_self ..))) fun m hm => by rw [(settledM_but R n).1]; exact hns m (List.mem_cons_of_mem _ hm)
    have conv : ∀ m, (S m ∨ m = n) ∨ m ∈ ns ↔ S m ∨ m ∈ n :: ns := fun m => by
      rw [List.mem_cons, or_assoc]
    exact ⟨z.but, z.parts, z.kp, fun m h => z.due m ((conv m).mpr h), fun t ht => (z.spread t ht).imp id fun ⟨m, h1, h2, h3⟩ => ⟨m, h1, fun e => h2 ((conv m).mpr e), h3⟩⟩
/-- behind it members keep just the newest items that are theirs -/
theorem settle_right {ns : List Int} (hD : Due R0 D) (ho : Ok R0) (hh : Held R0) (hp : ns.Perm R0.names) : ∀ n ∈ R0.names, ∀ t, t ∈ ((allM settledM R0 ns).node n).things ↔ IsNew R0 t ∧ n ∈ D t.1 := by
  have s0 : Stl R0 D (fun _ => False) R0 := ⟨SameBut.refl R0, SameP.refl R0, ho.kp, fun _ h => h.elim, fun t ht => by
    obtain ⟨m, h1, h2⟩ := hh t ht
    exact .inr ⟨m, h1, fun h => h, h2⟩⟩
  have z := Stl.all hD ns s0 fun n hn => hp.mem_iff.mp hn
  have spread : ∀ t, IsNew R0 t → ∀ k ∈ D t.1, k ∈ R0.names → itm (allM settledM R0 ns) k t.1 = some t := fun t ht k hk hm => by
    have ht' : IsNew (allM settledM R0 ns) t := ht.but (R := allM settledM R0 ns) z.but.2.2.1.symm
    rcases z.spread t ht' with h | ⟨m, h1, h2, _⟩
    · exact h k hk (by rw [z.but.1]; exact hm)
    · refine absurd (.inr (hp.mem_iff.mpr ?_)) h2
      rw [z.but.1] at h1
      exact h1
  intro n hn t
  have hn' : n ∈ (allM settledM R0 ns).names := by rw [z.but.1]; exact hn
  constructor
  · intro ht
    have hi := getT_of (z.kp.keys n hn') ht
    have d : n ∈ D t.1 := z.due n (.inr (hp.mem_iff.mpr hn)) t.1 (by
      show getT _ _ ≠ none
      rw [hi]
      exact nofun)
    have v := z.kp.val n hn' t ht
    have v2 := v.2.1
    rw [z.but.2.2.1] at v2
    obtain ⟨u, u1, u2⟩ := exists_new R0 v2
    have e := spread u u1 n (by rw [u2]; exact d) hn
    rw [u2] at e
    have e' : getT ((allM settledM R0 ns).node n).things t.1 = some u := e
    rw [hi] at e'
    rw [Option.some.inj e']
    exact ⟨u1, by rw [u2]; exact d⟩
  · rintro ⟨h1, h2⟩
    exact (getT_mem (spread t h1 n h2 hn)).1
end
end Nn
set_option Elab.async false
set_option linter.all false
set_option maxRecDepth 100000
set_option maxHeartbeats 1000000
namespace Nn
open PySem PySem.Spec PyProof.Rows L2 LamX KeyL
theorem sqL_fin {K : PySem.W.Frag} {H H' : Hp} {a : Addr} {xs : List V} (h : SqL K H a xs) (f : Fin K H H') : SqL K H' a xs := by
  rcases sq_split h with ⟨o, e1, e2⟩ | e
  · have z := f.1 a o e1 (Scr.plain e2)
    rcases e2 with rfl | ⟨ob, rfl⟩
    · exact .inl (.inl z)
    · exact .inl (.inr ⟨ob, z⟩)
  · exact e H'
theorem gapA_but {R R' : RingS} (hn : R'.names = R.names) (hb : R'.bits = R.bits) (hf : R'.fixed = R.fixed) (n : Int) : gapA R' n = gapA R n := by
  unfold gapA adjB
  rw [hn, hb, hf]
/-! ### all is right -/
def dueM (R : RingS) (p : Int) : List Int := nearest R.bits R.names p :: (R.node (nearest R.bits R.names p)).chain
structure AllRight (R : RingS) : Prop where
  rt : Rt R
  chain : ∀ n ∈ R.names, Chn R n (R.node n).chain
  far : ∀ n ∈ R.names, FarOk R n
  things : ∀ n ∈ R.names, ∀ t, t ∈ (R.node n).things ↔ IsNew R t ∧ n ∈ dueM R t.1
theorem allM_settled_node (ns : List Int) (R : RingS) (m : Int) : ((allM settledM R ns).node m).chain = (R.node m).chain ∧ ((allM settledM R ns).node m).prior = (R.node m).prior :=
  allM_parts (f := settledM) (fun R n m => ⟨(settledFrom_parts n _ R m).1, (settledFrom_parts n _ R m).2.1⟩) ns R m
theorem right_round {R : RingS} (ho : Ok R) (so : Sound R) (hh : Held R) {ns : List Int} (hp : ns.Perm R.names) (hx : Rt (mendM R ns)) (hc : ∀ n ∈ (mendM R ns).names, Chn (mendM R ns) n ((mendM R ns).node n).chain) : AllRight (mendM R ns) := by
  have hns : ∀ n ∈ ns, n ∈ R.names := fun n h => hp.mem_iff.mp h
  have o2 := fars_ok ho so hns
  have b2 := fars_but R ns
  have h2 : Held (allM refingM (allM steadiedM R ns) ns) := held_but hh b2 (fars_things R ns)
  have b3 := allM_but (f := settledM) settledM_but ns (allM refingM (allM steadiedM R ns) ns)
  have p3 := allM_settled_node ns (allM refingM (allM steadiedM R ns) ns)
  have em : ∀ n, ((mendM R ns).node n) = ((allM settledM (allM refingM (allM steadiedM R ns) ns) ns).node n) := fun _ => rfl
  obtain ⟨m1, m2, _, _, m5, _⟩ := mendM_names R ns
  have hp2 : ns.Perm (allM refingM (allM steadiedM R ns) ns).names := by rw [b2.1]; exact hp
  have e1 : (mendM R ns).names = (allM refingM (allM steadiedM R ns) ns).names := m1.trans b2.1.symm
  have e2 : (mendM R ns).bits = (allM refingM (allM steadiedM R ns) ns).bits := m2.trans b2.2.1.symm
  have e3 : (mendM R ns).puts = (allM refingM (allM steadiedM R ns) ns).puts := m5.trans b2.2.2.1.symm
  refine ⟨hx, hc, mend_far ho so hp hx.next, fun n hn t => ?_⟩
  have hx2 : ∀ n ∈ (allM refingM (allM steadiedM R ns) ns).names, NextOk (allM refingM (allM steadiedM R ns) ns) n := fun n h => nextOk_keep e1.symm e2.symm (fun z => (p3 z).1.symm) (hx.next n (by rw [e1]; exact h))
  have hD : Due (allM refingM (allM steadiedM R ns) ns) (dueM (mendM R ns)) := fun R' b q p n hn hr => by
    rw [holdersM_parts b q]
    rw [b.1] at hn
    rw [b.2.1] at hr
    unfold holdersM
    rw [ans_near o2 hx2 hr hn]
    have ec : ((allM refingM (allM steadiedM R ns) ns).node (nearest (allM refingM (allM steadiedM R ns) ns).bits (allM refingM (allM steadiedM R ns) ns).names p)).chain = ((mendM R ns).node (nearest (mendM R ns).bits (mendM R ns).names p)).chain := by
      rw [e1, e2, em, (p3 _).1]
    have en : nearest (allM refingM (allM steadiedM R ns) ns).bits (allM refingM (allM steadiedM R ns) ns).names p = nearest (mendM R ns).bits (mendM R ns).names p := by rw [e1, e2]
    show _ = nearest (mendM R ns).bits (mendM R ns).names p :: ((mendM R ns).node (nearest (mendM R ns).bits (mendM R ns).names p)).chain
    rw [ec, en]
    congr 1
    refine List.filter_eq_self.mpr fun z hz => ?_
    rw [decide_eq_true_eq, ← e1]
    refine Chn.mem _ _ (hc _ ?_) z hz
    have ok3 : Near (allM refingM (allM steadiedM R ns) ns) p (nearest (allM refingM (allM steadiedM R ns) ns).bits (allM refingM (allM steadiedM R ns) ns).names p) := near_is o2
    rw [← en, e1]
    exact ok3.mem
  rw [em, settle_right hD o2 h2 hp2 n (by rw [← e1]; exact hn) t]
  refine and_congr_left fun _ => ⟨fun h => h.but e3.symm, fun h => h.but e3⟩
theorem perm_of {l l' : List Thing} (h1 : (l.map (·.1)).Nodup) (h2 : (l'.map (·.1)).Nodup) (h : ∀ t, t ∈ l ↔ t ∈ l') : l.Perm l' := by
  have nd : ∀ {l : List Thing}, (l.map (·.1)).Nodup → l.Nodup := fun {l} h => List.Pairwise.imp (fun hne e => hne (congrArg Prod.fst e)) (List.pairwise_map.mp h)
  exact (List.perm_ext_iff_of_nodup (nd h1) (nd h2)).mpr h
/-- two rings that are all right, of the same members and items -/
theorem AllRight.alike {R R' : RingS} (o : Ok R) (o' : Ok R') (a : AllRight R) (a' : AllRight R') (en : R'.names = R.names) (eb : R'.bits = R.bits) (em : R'.many = R.many) (ef : R'.fixed = R.fixed) (ep : R'.puts = R.puts) : Alike R R' := by
  have hc : ∀ n ∈ R.names, (R'.node n).chain = (R.node n).chain := fun n hn => by
    have hn' : n ∈ R'.names := by rw [en]; exact hn
    exact Chn.unique o _ _ n (Chn.but en.symm eb.symm _ _ (a'.chain n hn')) (a.chain n hn) (by rw [o'.clen n hn', o.clen n hn, em])
  refine ⟨eb, em, ef, by rw [ep], by unfold membersM; rw [en], fun n hn => ?_⟩
  have hn := membersM_mem.mp hn
  have hn' : n ∈ R'.names := by rw [en]; exact hn
  refine ⟨hc n hn, ?_, ?_, ?_⟩
  · obtain ⟨x, hx⟩ := nb_left o hn
    rw [a.rt.prior x n hx, a'.rt.prior x n (hx.but en eb)]
  · have z := a.far n hn
    have z' := a'.far n hn'
    unfold FarOk at z z'
    rw [z', z, en, eb]
  · refine sortT_perm (o.keys n hn) (perm_of (o'.keys n hn') (o.keys n hn) fun t => ?_)
    rw [a.things n hn t, a'.things n hn' t]
    have ed : dueM R' t.1 = dueM R t.1 := by
      unfold dueM
      rw [en, eb, hc _ (near_is (p := t.1) o).mem]
    rw [ed]
    exact and_congr_left fun _ => ⟨fun h => h.but ep, fun h => h.but ep.symm⟩
/-! ### rounds of a ring -/
structure Rnd (g i : Nat) (R0 R : RingS) : Prop where
  names : R.names = R0.names
  bits : R.bits = R0.bits
  fixed : R.fixed = R0.fixed
  many : R.many = R0.many
  puts : R.puts = R0.puts
  sound : Sound R
  held : Held R
  ev : Ev i (fun _ => False) R
  done : R.done.length ≤ R0.done.length + i
  head : 0 < i → ∀ n ∈ R.names, HeadIn R n
  lists : ∀ j, i = g + 1 + j → ∀ n ∈ R.names, Chn R n ((R.node n).chain.take (j + 1))
  right : g + R.many ≤ i → AllRight R
theorem Rnd.zero {R : RingS} (g : Nat) (h : 1 ≤ R.many) (s : Sound R) (hh : Held R) : Rnd g 0 R R :=
  ⟨rfl, rfl, rfl, rfl, rfl, s, hh, Ev.zero R, Nat.le_refl _, fun h => absurd h (Nat.lt_irrefl _), fun j h => by omega, fun h => by omega⟩
theorem Rnd.rt {g i : Nat} {R0 R : RingS} (ho : Ok R) (m : Rnd g i R0 R) (hg : ∀ n ∈ R0.names, gapA R0 n ≤ g + 1) (hi : g + 1 ≤ i) : Rt R := by
  obtain ⟨d1, d2⟩ := m.ev.done ho m.sound fun n hn => by
    rw [gapA_but m.names m.bits m.fixed]
    have := hg n (by rw [← m.names]; exact hn)
    omega
  exact ⟨d1, d2⟩
theorem Rnd.step {g i : Nat} {R0 R : RingS} (ho : Ok R) (m : Rnd g i R0 R) (hg : ∀ n ∈ R0.names, gapA R0 n ≤ g + 1) {ns : List Int} (hp : ns.Perm R.names) (ho' : Ok (mendM R ns)) : Rnd g (i + 1) R0 (mendM R ns) := by
  obtain ⟨e1, e2, e3, e4, e5, e6⟩ := mendM_names R ns
  have hns : ∀ n ∈ ns, n ∈ R.names := fun n hn => hp.mem_iff.mp hn
  have s' := sound_mend ho m.sound hns
  have ev' := m.ev.round ho m.sound hp
  have hd := head_round ho hp
  have rt' : g ≤ i → Rt (mendM R ns) := fun h => by
    obtain ⟨d1, d2⟩ := ev'.done ho' s' fun n hn => by
      rw [gapA_but (e1.trans m.names) (e2.trans m.bits) (e3.trans m.fixed)]
      have := hg n (by rw [← m.names, ← e1]; exact hn)
      omega
    exact ⟨d1, d2⟩
  have ls : ∀ j, i + 1 = g + 1 + j → ∀ n ∈ (mendM R ns).names, Chn (mendM R ns) n (((mendM R ns).node n).chain.take (j + 1)) := fun j hj => by
    cases j with
    | zero => exact chn_one (rt' (by omega)) hd
    | succ j => exact (chn_round ho (m.rt ho hg (by omega)) hp (m.lists j (by omega))).2
  refine ⟨e1.trans m.names, e2.trans m.bits, e3.trans m.fixed, e4.trans m.many, e5.trans m.puts, s', held_mend ho m.sound m.held hns, ev', by rw [e6, List.length_append, List.length_singleton]; have := m.done; omega, fun _ => hd, ls, fun h => ?_⟩
  rw [e4] at h
  have hm := ho.many
  refine right_round ho m.sound m.held hp (rt' (by omega)) fun n hn => ?_
  have z := ls (i - g) (by omega) n hn
  rw [List.take_of_length_le (by rw [ho'.clen n hn, e4]; omega)] at z
  exact z
/-! tables of rings alike -/
theorem keptM_alike {R R' : RingS} (a : Alike R R') {n : Int} (hn : n ∈ membersM R) : keptM R' n = keptM R n := (a.node n hn).2.2.2
theorem TablesL.alike {N : Addr → Prop} {L : Int → Nat → Addr → Prop} {H : Hp} {D : Addr} {R R' : RingS} {ns : List Int} (a : Alike R R') (hns : ∀ n ∈ ns, n ∈ membersM R) (h : TablesL N L H D R' ns) : TablesL N L H D R ns := by
  obtain ⟨n1, f, h1, h2⟩ := h
  refine ⟨n1, f, h1, fun n hn => ?_⟩
  obtain ⟨l, f', g, k1, k2, k3, k4, k5⟩ := h2 n hn
  obtain ⟨a1, a2, a3, _⟩ := a.node n (hns n hn)
  rw [a2] at k2
  rw [a1] at k3
  rw [a3] at k4
  rw [keptM_alike a (hns n hn)] at k5
  exact ⟨l, f', g, k1, k2, k3, k4, k5⟩
section
variable {P : Program} {w : World} {K : PySem.W.Frag} {mg : Str → Option Value} {base : Heap}
def spLen (K : PySem.W.Frag) : Sp := fun vs H Q _ => ∃ (A : RA) (R : RingS), vs = [.ref A.r] ∧ RingAt K H A R ∧ Q (.int R.many) H
theorem sc_Ring_length : FnScope ["self"] ["self"] (defScope s_Ring_length) := ⟨rfl, rfl, rfl, by decide +kernel, rfl, by decide +kernel, by decide +kernel⟩
theorem ok_Ring_length (S : Say K mg base) : FnOk P w K mg base CX0 1 (He.ma K (He.ga K "Ring") "length") (fdO K ("Ring", some "length")) ["self"] (spLen K) := by
  refine (S.F_Ring_length).ok sc_Ring_length (fun vs H Q E h => ?_) (fun cdv A outer s H vs Q E hr h => ?_)
  · obtain ⟨A, R, rfl, h, k⟩ := h
    rfl
  obtain ⟨A, R, rfl, h, k⟩ := h
  have hu := hu_of hr
  refine ⟨_, PSs.nox (pss_one (ps_ret (pe_fld (pv 0) rfl))), ?_⟩
  exact ⟨_, rfl, A.r, _, A.dx, _, _, rfl, h.ob, S.c_Ring, S.n_Ring_many, rfl, k⟩
end
end Nn
set_option Elab.async false
set_option linter.all false
set_option maxRecDepth 100000
set_option maxHeartbeats 1000000
namespace Nn
open PySem PySem.Spec PyProof.Rows L2 LamX KeyL
/-! ### the law's own nearest member -/
def nearL (s : List Int) (p : Int) : Int := ((s.filter fun x => decide (p ≤ x))[0]?).getD (s.getD 0 0)
theorem nearL_near {R : RingS} (ho : Ok R) {p : Int} (hp : 0 ≤ p ∧ p < 2 ^ R.bits) : nearL (membersM R) p = nearest R.bits R.names p := by
  have hs := membersM_sorted R
  have hm : ∀ m, m ∈ membersM R ↔ m ∈ R.names := fun m => membersM_mem
  refine Near.unique ho (p := p) ?_ (near_is ho)
  have gen : ∀ s : List Int, s.Pairwise (· ≤ ·) → s ≠ [] → (∀ m ∈ s, 0 ≤ m ∧ m < 2 ^ R.bits) → nearL s p ∈ s ∧ ∀ m ∈ s, dist R.bits p (nearL s p) ≤ dist R.bits p m := fun s h1 h2 h3 => by
    unfold nearL
    cases e : s.filter fun x => decide (p ≤ x) with
    | nil =>
      have all : ∀ m ∈ s, m < p := fun m hm => by
        have : ¬ m ∈ s.filter fun x => decide (p ≤ x) := by rw [e]; simp
        rw [List.mem_filter] at this
        simp [hm] at this
        exact this
      cases s with
      | nil => exact absurd rfl h2
      | cons a r =>
        show a ∈ a :: r ∧ ∀ m ∈ a :: r, dist R.bits p a ≤ dist R.bits p m
        refine ⟨List.mem_cons_self .., fun m hm => ?_⟩
        have ha := h3 a (List.mem_cons_self ..)
        have hmm := h3 m hm
        have l1 := all a (List.mem_cons_self ..)
        have l2 := all m hm
        have l3 : a ≤ m := by
          rcases List.mem_cons.mp hm with q | q
          · omega
          · exact (List.pairwise_cons.mp h1).1 m q
        rcases dist_cases hp ha with ⟨c1, e1⟩ | ⟨c1, e1⟩ <;> rcases dist_cases hp hmm with ⟨c2, e2⟩ | ⟨c2, e2⟩ <;> omega
    | cons a r =>
      show a ∈ s ∧ ∀ m ∈ s, dist R.bits p a ≤ dist R.bits p m
      have ha : a ∈ s.filter fun x => decide (p ≤ x) := by rw [e]; exact List.mem_cons_self ..
      obtain ⟨a1, a2⟩ := List.mem_filter.mp ha
      have a3 : p ≤ a := by simpa using a2
      refine ⟨a1, fun m hm => ?_⟩
      have hs2 : (s.filter fun x => decide (p ≤ x)).Pairwise (· ≤ ·) := h1.filter _
      have pa := h3 a a1
      have pm := h3 m hm
      by_cases c : p ≤ m
      · have hmf : m ∈ s.filter fun x => decide (p ≤ x) := List.mem_filter.mpr ⟨hm, by simpa using c⟩
        rw [e] at hmf hs2
        have l3 : a ≤ m := by
          rcases List.mem_cons.mp hmf with q | q
          · omega
          · exact (List.pairwise_cons.mp hs2).1 m q
        rcases dist_cases hp pa with ⟨c1, e1⟩ | ⟨c1, e1⟩ <;> rcases dist_cases hp pm with ⟨c2, e2⟩ | ⟨c2, e2⟩ <;> omega
      · rcases dist_cases hp pa with ⟨c1, e1⟩ | ⟨c1, e1⟩ <;> rcases dist_cases hp pm with ⟨c2, e2⟩ | ⟨c2, e2⟩ <;> omega
  obtain ⟨m0, h0, _⟩ := two_names ho 0
  obtain ⟨g1, g2⟩ := gen (membersM R) hs (fun e => by have := (hm m0).mpr h0; rw [e] at this; cases this) fun m h => ho.pts m ((hm m).mp h)
  exact ⟨(hm _).mp g1, fun m h => g2 m ((hm m).mpr h)⟩
section
variable {P : Program} {w : World} {K : PySem.W.Frag} {mg : Str → Option Value} {base : Heap}
def spLNear (K : PySem.W.Frag) : Sp := fun vs H Q _ => ∃ (l : Addr) (s : List Int) (p : Int), vs = [.ref l, .int p] ∧ Tabs (tabT K) H ∧ H l = some (.lst (s.map V.int)) ∧ s ≠ [] ∧ s.length ≤ 1000 ∧ ∀ H', Fin K H H' → Q (.int (nearL s p)) H'
theorem sc_law_nearest : FnScope ["_law_members", "_law_point", "_law_some", "_law_one"] ["_law_members", "_law_point"] (defScope s_law_nearest) := ⟨rfl, rfl, rfl, by decide +kernel, rfl, by decide +kernel, by decide +kernel⟩
theorem ok_law_nearest (S : Say K mg base) : FnOk P w K mg base CX0 1 (He.ga K "_law_nearest") (fdO K ("_law_nearest", none)) ["_law_members", "_law_point"] (spLNear K) := by
  refine (S.F_law_nearest).ok sc_law_nearest (fun vs H Q E h => ?_) (fun cdv A outer s H vs Q E hr h => ?_)
  · obtain ⟨l, s, p, rfl, ht, hl, hne, hlen, k⟩ := h
    rfl
  obtain ⟨l, s, p, rfl, ht, hl, hne, hlen, k⟩ := h
  have hu := hu_of hr
  refine ⟨_, PSs.nox (pss_cons (ps_setLc (i := 2) (own := [("_law_one", 3)]) rfl sc_law_nearest.nd rfl rfl (sw_true rfl rfl rfl (by decide +kernel)) (pi_list (pv 0)) (blkOk_by (own := [("_law_one", 3)]) (N := ["_law_members", "_law_point", "_law_some", "_law_one"]) (sc := defScope s_law_nearest) (by decide +kernel)) (fun _ _ _ _ _ => (pg_name (i := 3) sc_law_nearest.nd rfl (Or.inl rfl))) (fun _ _ _ _ _ => (pts_one (pt_cmpR op_ge (pv 3) (pv 1) (nomark _)))) (fun _ _ _ _ _ => (pv 3)))
        (pss_one (ps_ret (pe_ifExp (pt_cmpR (op_neD hr.units) (pv 2) (pe_lst pa_nil) (nomark _)) (pe_ix ix_list (pv 2) pe_int (fun _ _ => rfl)) (pe_ix ix_list (pv 0) pe_int (fun _ _ => rfl)))))), ?_⟩
  refine ⟨_, rfl, l, rfl, ⟨_, sqL hl⟩, fun D hD => ?_⟩
  refine lc_list (K := K) (a := l) (xs := s.map V.int) (fun i H2 => Same H H2 ∧ H2 D = some (.lst (((s.take i).filter fun x => decide (p ≤ x)).map V.int))) ⟨same_new hD, upd_same⟩ (fun i H2 _ h => sqL (h.1 _ _ hl)) ?_ ?_
  · rintro i x H2 hi ⟨s2, hd⟩
    obtain ⟨m, hm, rfl⟩ := getI hi
    refine ⟨rfl, _, rfl, _, rfl, _, _, rfl, rfl, _, rfl, ?_⟩
    by_cases c : p ≤ m
    · rw [decide_eq_true c]
      refine iteT ⟨_, rfl, _, hd, ?_, ?_, ?_⟩
      · refine szL ?_
        rw [List.length_map]
        have := List.length_filter_le (fun x => decide (p ≤ x)) (s.take i)
        rw [List.length_take] at this
        omega
      · intro b o e
        rw [upd_ne (ne_of_none e hD)]
        exact s2 b o e
      · have e3 : [m].filter (fun x => decide (p ≤ x)) = [m] := by simp [c]
        rw [upd_same, take_one hm, List.filter_append, e3, List.map_append]
        rfl
    · rw [decide_eq_false c]
      refine iteF ⟨s2, ?_⟩
      have e3 : [m].filter (fun x => decide (p ≤ x)) = [] := by simp; omega
      rw [take_one hm, List.filter_append, e3, List.append_nil]
      exact hd
  · rintro H2 ⟨s2, hd⟩
    rw [List.length_map, List.take_length] at hd
    have f2 := Fin.of s2 ht
    have hl2 := s2 _ _ hl
    refine ⟨_, rfl, (by show 0 ≤ sizeLine; omega), fun e he => ?_⟩
    have f3 : Fin K H2 (upd H2 e (.lst [])) := Fin.of (same_new he) f2.2
    have he3 : upd H2 e (.lst []) e = some (.lst (([] : List Int).map V.int)) := upd_same
    have hd3 := f3.1 _ _ hd fun _ z => nomatch z
    have hl3 := f3.1 _ _ hl2 fun _ z => nomatch z
    have k' := k _ (f2.trans f3)
    refine ⟨_, _, dpI (sqL hd3), dpI (sqL he3), shapedI _, shapedI _, _, rfl, ?_⟩
    rw [eqvI]
    unfold nearL at k'
    cases q : s.filter fun x => decide (p ≤ x) with
    | nil =>
      rw [q] at k'
      cases s with
      | nil => exact absurd rfl hne
      | cons a r => exact ⟨_, rfl, _, _, 0, _, rfl, rfl, sqL hl3, atI_0 (m := a) rfl, k'⟩
    | cons a r =>
      rw [q] at k' hd3
      exact ⟨_, rfl, _, _, 0, _, rfl, rfl, sqL hd3, atI_0 (m := a) rfl, k'⟩
end
end Nn
set_option Elab.async false
set_option linter.all false
set_option maxRecDepth 100000
set_option maxHeartbeats 1000000
namespace Nn
open PySem PySem.Spec PyProof.Rows L2 LamX KeyL
/-! ### how many stand between base names, by places in the sorted list -/
theorem filter_none {α : Type} {p : α → Bool} : ∀ (l : List α), (∀ (i : Nat) (z : α), l[i]? = some z → ¬ p z = true) → l.filter p = [] := fun l h => by
  refine List.filter_eq_nil_iff.mpr fun z hz => ?_
  obtain ⟨i, hi⟩ := List.mem_iff_getElem?.mp hz
  exact h i z hi
theorem filter_inside {α : Type} {p : α → Bool} {s : List α} {a b : Nat} (h : ∀ (i : Nat) (z : α), s[i]? = some z → p z = true → a ≤ i ∧ i < b) : (s.filter p).length ≤ b - a := by
  have e : s = s.take a ++ ((s.drop a).take (b - a) ++ (s.drop a).drop (b - a)) := by rw [List.take_append_drop, List.take_append_drop]
  have h1 : (s.take a).filter p = [] := filter_none _ fun i z hz hp => by
    rw [List.getElem?_take] at hz
    by_cases c : i < a
    · rw [if_pos c] at hz
      have := h i z hz hp
      omega
    · rw [if_neg c] at hz; cases hz
  have h2 : ((s.drop a).drop (b - a)).filter p = [] := filter_none _ fun i z hz hp => by
    rw [List.getElem?_drop, List.getElem?_drop] at hz
    have := h _ z hz hp
    omega
  rw [e, List.filter_append, List.filter_append, h1, h2, List.nil_append, List.append_nil]
  have := List.length_filter_le p ((s.drop a).take (b - a))
  rw [List.length_take] at this
  omega
theorem filter_outside {α : Type} {p : α → Bool} {s : List α} {a b : Nat} (hb : b ≤ s.length) (h : ∀ (i : Nat) (z : α), s[i]? = some z → p z = true → i < a ∨ b ≤ i) : (s.filter p).length ≤ a + (s.length - b) := by
  by_cases hab : a ≤ b
  · have e : s = s.take a ++ ((s.drop a).take (b - a) ++ (s.drop a).drop (b - a)) := by rw [List.take_append_drop, List.take_append_drop]
    have h1 : ((s.drop a).take (b - a)).filter p = [] := filter_none _ fun i z hz hp => by
      rw [List.getElem?_take] at hz
      by_cases c : i < b - a
      · rw [if_pos c, List.getElem?_drop] at hz
        have := h _ z hz hp
        omega
      · rw [if_neg c] at hz; cases hz
    have z1 := List.length_filter_le p (s.take a)
    have z2 := List.length_filter_le p ((s.drop a).drop (b - a))
    rw [List.length_take] at z1
    rw [List.length_drop, List.length_drop] at z2
    have e2 : (s.filter p).length = ((s.take a).filter p).length + (((s.drop a).drop (b - a)).filter p).length := by
      have e3 := congrArg (fun l => (l.filter p).length) e
      rw [List.filter_append, List.filter_append, h1, List.nil_append, List.length_append] at e3
      exact e3
    omega
  · have := List.length_filter_le p s
    omega
theorem marks_split : ∀ (r : List Int) (a k : Int), (∃ p ∈ (a :: r).zip r, p.1 ≤ k ∧ k < p.2) ∨ k < a ∨ lastI (a :: r) ≤ k
  | [], a, k => by
    by_cases c : k < a
    · exact .inr (.inl c)
    · exact .inr (.inr (by show a ≤ k; omega))
  | c :: r, a, k => by
    by_cases h1 : k < a
    · exact .inr (.inl h1)
    · by_cases h2 : k < c
      · exact .inl ⟨(a, c), by simp, by omega, h2⟩
      · rcases marks_split r c k with ⟨p, hp, q⟩ | q | q
        · refine .inl ⟨p, ?_, q⟩
          show p ∈ (a, c) :: (c :: r).zip r
          exact List.mem_cons_of_mem _ hp
        · exact absurd q h2
        · exact .inr (.inr q)
/-- the places of base names in the sorted list -/
def marksM (s fx : List Int) : List Int := ((List.range s.length).filter fun i => decide (s.getD i 0 ∈ fx)).map fun i : Nat => (i : Int)
theorem marks_mem {s fx : List Int} {j : Int} : j ∈ marksM s fx ↔ ∃ (i : Nat) (f : Int), j = i ∧ s[i]? = some f ∧ f ∈ fx := by
  unfold marksM
  rw [List.mem_map]
  constructor
  · rintro ⟨i, hi, rfl⟩
    obtain ⟨h1, h2⟩ := List.mem_filter.mp hi
    have hl : i < s.length := List.mem_range.mp h1
    refine ⟨i, s[i], rfl, List.getElem?_eq_getElem hl, ?_⟩
    rw [decide_eq_true_eq, List.getD_eq_getElem?_getD, List.getElem?_eq_getElem hl] at h2
    exact h2
  · rintro ⟨i, f, rfl, h1, h2⟩
    refine ⟨i, List.mem_filter.mpr ⟨List.mem_range.mpr (List.getElem?_eq_some_iff.mp h1).1, ?_⟩, rfl⟩
    rw [decide_eq_true_eq, List.getD_eq_getElem?_getD, h1]
    exact h2
theorem marks_sorted (s fx : List Int) : (marksM s fx).Pairwise (· < ·) := by
  unfold marksM
  refine List.pairwise_map.mpr ((List.pairwise_lt_range.filter _).imp fun h => by omega)
theorem members_lt {R : RingS} (ho : Ok R) : (membersM R).Pairwise (· < ·) := by
  have h1 := membersM_sorted R
  have h2 : (membersM R).Nodup := (membersM_perm R).nodup_iff.mpr ho.nodup
  exact (h1.and h2).imp fun ⟨a, b⟩ => by omega
theorem lt_of_places {s : List Int} (hs : s.Pairwise (· < ·)) {i j : Nat} {x y : Int} (hx : s[i]? = some x) (hy : s[j]? = some y) : (i < j ↔ x < y) ∧ (i = j ↔ x = y) := by
  have key : ∀ {i j : Nat} {x y : Int}, s[i]? = some x → s[j]? = some y → i < j → x < y := fun {i j x y} hx hy h => by
    obtain ⟨hi, rfl⟩ := List.getElem?_eq_some_iff.mp hx
    obtain ⟨hj, rfl⟩ := List.getElem?_eq_some_iff.mp hy
    exact List.pairwise_iff_getElem.mp hs i j hi hj h
  have same : i = j → x = y := fun e => by rw [e, hy] at hx; exact (Option.some.inj hx).symm
  refine ⟨⟨key hx hy, fun h => ?_⟩, ⟨same, fun h => ?_⟩⟩
  · rcases Nat.lt_trichotomy i j with c | c | c
    · exact c
    · have := same c; omega
    · have := key hy hx c; omega
  · rcases Nat.lt_trichotomy i j with c | c | c
    · have := key hx hy c; omega
    · exact c
    · have := key hy hx c; omega
/-- a number not less than each gap bounds how many stand ahead of a member up to the base name -/
theorem gap_bound {R : RingS} (ho : Ok R) {a g : Int} {r : List Int} (hm : marksM (membersM R) R.fixed = a :: r) (hg : ∀ p ∈ (a :: r).zip r, p.2 - p.1 - 1 ≤ g) (hw : a + (membersM R).length - lastI (a :: r) - 1 ≤ g) : ∀ n ∈ R.names, (gapA R n : Int) ≤ g + 1 := fun n hn => by
  have hs := members_lt ho
  have hlen : gapA R n = ((membersM R).filter (adjB R n)).length := by
    unfold gapA
    exact ((membersM_perm R).filter _).length_eq.symm
  rw [hlen]
  obtain ⟨k, hk⟩ := List.mem_iff_getElem?.mp (membersM_mem.mpr hn)
  have hkl : k < (membersM R).length := (List.getElem?_eq_some_iff.mp hk).1
  have pn := ho.pts n hn
  have mark : ∀ j ∈ a :: r, ∃ (i : Nat) (f : Int), j = i ∧ (membersM R)[i]? = some f ∧ f ∈ R.fixed := fun j hj => by
    rw [← hm] at hj
    exact marks_mem.mp hj
  have srt : (a :: r).Pairwise (· < ·) := by rw [← hm]; exact marks_sorted _ _
  have last_mem : lastI (a :: r) ∈ a :: r := lastI_mem (by simp)
  obtain ⟨ia, fa, ea, ha, hfa⟩ := mark a (List.mem_cons_self ..)
  obtain ⟨il, fl, el, hl, hfl⟩ := mark _ last_mem
  have hll : il < (membersM R).length := (List.getElem?_eq_some_iff.mp hl).1
  have hal : ia < (membersM R).length := (List.getElem?_eq_some_iff.mp ha).1
  -- ahead of the mark j
  have upto : ∀ (j : Nat) (f : Int), (membersM R)[j]? = some f → f ∈ R.fixed → k < j → ((membersM R).filter (adjB R n)).length ≤ j - k := fun j f hj hf hkj => by
    have z := filter_inside (p := adjB R n) (s := membersM R) (a := k + 1) (b := j + 1) fun i z hz hp => by
      have az := adjB_iff.mp hp
      have zm := membersM_mem.mp (List.mem_of_getElem? hz)
      have pz := ho.pts z zm
      have pf := ho.pts f (ho.fsub f hf)
      have l1 := (lt_of_places hs hk hj).1.mp hkj
      have l2 := (az.2 f hf).resolve_left (by omega)
      have l3 := az.1
      have i1 := lt_of_places hs hk hz
      have i2 := lt_of_places hs hj hz
      have i3 := lt_of_places hs hz hj
      have c : n < z ∧ z ≤ f := by
        rcases dist_cases pn pz with ⟨c1, e1⟩ | ⟨c1, e1⟩ <;> rcases dist_cases pn pf with ⟨c2, e2⟩ | ⟨c2, e2⟩ <;> omega
      have j1 := i1.1.mpr c.1
      have j2 : ¬ j < i := fun q => by have := i2.1.mp q; omega
      omega
    omega
  rcases marks_split r a (k : Int) with ⟨p, hp, q1, q2⟩ | q | q
  · have hp2 : p.2 ∈ a :: r := List.mem_cons_of_mem _ (List.of_mem_zip hp).2
    obtain ⟨j, f, ej, hj, hf⟩ := mark _ hp2
    have z := upto j f hj hf (by omega)
    have := hg p hp
    omega
  · have z := upto ia fa ha hfa (by omega)
    omega
  · -- behind the last mark
    have hlt : ia < il := by
      by_cases e : r = []
      · exfalso
        subst e
        obtain ⟨f1, g1, g2⟩ := fixed_two ho fa
        obtain ⟨i1, hi1⟩ := List.mem_iff_getElem?.mp (membersM_mem.mpr (ho.fsub f1 g1))
        have m1 : (i1 : Int) ∈ marksM (membersM R) R.fixed := marks_mem.mpr ⟨i1, f1, rfl, hi1, g1⟩
        rw [hm] at m1
        have e1 := List.mem_singleton.mp m1
        have : i1 = ia := by omega
        rw [this, ha] at hi1
        exact g2 (Option.some.inj hi1).symm
      · have lm : lastI (a :: r) ∈ r := by
          have : lastI (a :: r) = lastI r := by
            cases r with
            | nil => exact absurd rfl e
            | cons c r2 => rfl
          rw [this]
          exact lastI_mem e
        have := (List.pairwise_cons.mp srt).1 _ lm
        omega
    have z := filter_outside (p := adjB R n) (s := membersM R) (a := ia + 1) (b := k + 1) (by omega) fun i z hz hp => by
      have az := adjB_iff.mp hp
      have zm := membersM_mem.mp (List.mem_of_getElem? hz)
      have pz := ho.pts z zm
      have pf := ho.pts fa (ho.fsub fa hfa)
      have l1 := (lt_of_places hs ha hk).1.mp (by omega)
      have l2 := (az.2 fa hfa).resolve_left (by omega)
      have l3 := az.1
      have i1 := lt_of_places hs hk hz
      have i2 := lt_of_places hs ha hz
      have i3 := lt_of_places hs hz ha
      have c : n < z ∨ z ≤ fa := by
        rcases dist_cases pn pz with ⟨c1, e1⟩ | ⟨c1, e1⟩ <;> rcases dist_cases pn pf with ⟨c2, e2⟩ | ⟨c2, e2⟩ <;> omega
      rcases c with c | c
      · have := i1.1.mpr c
        omega
      · have j2 : ¬ ia < i := fun q => by have := i2.1.mp q; omega
        omega
    omega
end Nn
set_option Elab.async false
set_option linter.all false
set_option maxRecDepth 100000
set_option maxHeartbeats 1000000
namespace Nn
open PySem PySem.Spec PyProof.Rows L2 LamX KeyL
section
variable {P : Program} {w : World} {K : PySem.W.Frag} {mg : Str → Option Value} {base : Heap}
theorem members_ne {R : RingS} (ho : Ok R) : membersM R ≠ [] := fun e => by
  obtain ⟨m, h1, _⟩ := two_names ho 0
  have := membersM_mem.mpr h1
  rw [e] at this
  cases this
theorem members_len64 {R : RingS} (ho : Ok R) : (membersM R).length < 64 := by rw [membersM_len]; exact ho.few
def spLFing (K : PySem.W.Frag) : Sp := fun vs H Q _ => ∃ (A : RA) (R : RingS) (l : Addr) (n : Int), vs = [.ref A.r, .ref l, .int n] ∧ At K H A R ∧ H l = some (.lst ((membersM R).map V.int)) ∧ ∀ q H', NotOld H q → H' q = some (.lst ((rightFar R.bits R.names n).map V.int)) → Fin K H H' → Q (.ref q) H'
theorem sc_law_fingers : FnScope ["_law_ring_here", "_law_members", "_law_name", "_law_size", "_law_found", "_law_step", "_law_k"] ["_law_ring_here", "_law_members", "_law_name"] (defScope s_law_fingers) := ⟨rfl, rfl, rfl, by decide +kernel, rfl, by decide +kernel, by decide +kernel⟩
theorem ok_law_fingers (S : Say K mg base) : FnOk P w K mg base CX0 2 (He.ga K "_law_fingers") (fdO K ("_law_fingers", none)) ["_law_ring_here", "_law_members", "_law_name"] (spLFing K) := by
  refine (S.F_law_fingers).ok sc_law_fingers (fun vs H Q E h => ?_) (fun cdv A outer s H vs Q E hr h => ?_)
  · obtain ⟨A, R, l, n, rfl, h, hl, k⟩ := h
    rfl
  obtain ⟨A, R, l, n, rfl, h, hl, k⟩ := h
  have hu := hu_of hr
  refine ⟨_, PSs.nox (pss_cons (ps_set (i := 3) sc_law_fingers.nd rfl (Or.inl rfl) (pe_meth0 (pe_meth0 (pv 0) S.c_Ring S.m_Ring_space (ok_Ring_space S) (hr.mono (by decide)) S.b_Ring_space .nil pass0) S.c_Space S.m_Space_size (ok_Space_size S) (hr.mono (by decide)) S.b_Space_size .nil pass0))
        (pss_cons (ps_set (i := 4) sc_law_fingers.nd rfl (Or.inl rfl) (pe_lst pa_nil))
        (pss_cons (ps_set (i := 5) sc_law_fingers.nd rfl (Or.inl rfl) pe_int)
        (pss_cons (ps_for PassesOwn.never rfl (pi_range1 rfl S.z_range (pa_cons (pe_meth0 (pe_meth0 (pv 0) S.c_Ring S.m_Ring_space (ok_Ring_space S) (hr.mono (by decide)) S.b_Ring_space .nil pass0) S.c_Space S.m_Space_bits (ok_Space_bits S) (hr.mono (by decide)) S.b_Space_bits .nil pass0) pa_nil)) (pg_name (i := 6) sc_law_fingers.nd rfl (Or.inl rfl))
        (pss_cons (ps_expr (pe_bm PySem.F.plainAttrs_list PySem.F.slot_list_append PySem.F.type_list_append mt_append (pv 4) (pa_cons (pe_call (ok_law_nearest S) (hr.mono (by decide)) rfl S.g_law_nearest (S.F_law_nearest).kp S.b_law_nearest .nil pass0 (pa_cons (pv 1) (pa_cons (pe_op op_mod (pe_op op_add (pv 2) (pv 5)) (pv 3)) pa_nil))) pa_nil)))
        (pss_one (ps_set (i := 5) sc_law_fingers.nd rfl (Or.inl rfl) (pe_op op_mul (pv 5) pe_int)))))
        (pss_one (ps_ret (pv 4))))))), ?_⟩
  obtain ⟨_, dxs, hsp⟩ := id h.ring.space
  have hb := h.ok.bits
  refine ⟨_, rfl, A.r, A.dx, _, rfl, h.ring.ob, rfl, A, R, rfl, h.ring, A.sp, dxs, _, rfl, hsp, rfl, A.sp, R.bits, rfl, h.ring.space, ?_⟩
  refine ⟨(by show 0 ≤ sizeLine; omega), fun L hL => ?_⟩
  have f1 : Fin K H (upd H L (.lst [])) := Fin.of (same_new hL) h.tabs
  have hL1 : upd H L (.lst []) L = some (.lst (([] : List Int).map V.int)) := upd_same
  have nL := notOld_of hL
  have Ll : l ≠ L := fun e => by rw [e, hL] at hl; cases hl
  revert f1 hL1
  generalize upd H L (.lst []) = H1
  intro f1 hL1
  have h1 := h.fin f1
  have hsp1 := f1.1 _ _ hsp fun _ z => nomatch z
  refine ⟨_, rfl, A.r, A.dx, _, rfl, h1.ring.ob, rfl, A, R, rfl, h1.ring, A.sp, dxs, _, rfl, hsp1, rfl, A.sp, R.bits, rfl, h1.ring.space, _, rfl, by omega, by omega, ?_⟩
  rw [Int.toNat_natCast]
  refine for_it walk_range (fun i σ H2 => Fin K H H2 ∧ H2 L = some (.lst (((List.range i).map fun k => nearest R.bits R.names (farPt R.bits n k)).map V.int)) ∧ ∃ v, σ = [some (.ref A.r), some (.ref l), some (.int n), some (.int (2 ^ R.bits)), some (.ref L), some (.int (2 ^ i)), v]) ⟨f1, hL1, none, rfl⟩ (fun _ _ _ _ _ => True.intro) ?_ ?_
  · rintro i y σ H2 H2' hi ⟨f2, hL2, v, rfl⟩ ⟨rfl, rfl⟩
    have hl2 := f2.1 _ _ hl fun _ z => nomatch z
    have hr := farPt_rng R.bits n i
    refine ⟨_, rfl, .inl ⟨rfl, _, sqL hL2⟩, _, rfl, _, rfl, _, rfl, _, _, rfl, rfl, _, rfl, _, _, rfl, rfl, two_pos _, ?_⟩
    refine ⟨l, membersM R, (n + 2 ^ i) % 2 ^ R.bits, rfl, f2.2, hl2, members_ne h.ok, by have := members_len64 h.ok; omega, fun H3 f3 => ?_⟩
    have f03 := f2.trans f3
    have hL3 := f3.1 _ _ hL2 fun _ z => nomatch z
    have en : nearL (membersM R) ((n + 2 ^ i) % 2 ^ R.bits) = nearest R.bits R.names (farPt R.bits n i) := nearL_near h.ok hr
    rw [en]
    refine ⟨L, _, _, rfl, rfl, hL3, szL (by rw [List.length_map, List.length_map, List.length_range]; omega), ?_⟩
    refine ⟨_, rfl, _, _, rfl, rfl, .inr ⟨by decide, by decide⟩, ⟨fun b o e1 e2 => ?_, tabs_upd f03.2 hL3 rfl⟩, ?_, _, rfl⟩
    · rw [upd_ne (ne_of_none e1 hL)]
      exact f03.1 b o e1 e2
    · rw [upd_same, List.range_succ, List.map_append, List.map_append]
      rfl
  · rintro σ H2 ⟨f2, hL2, v, rfl⟩
    exact ⟨_, rfl, k L H2 nL hL2 f2⟩
theorem cut_1 (xs : List V) : cutV xs (some 1) none = xs.drop 1 := by
  unfold cutV
  have e2 : HT.sIx xs.length 0 (some 1) = min 1 xs.length := HT.sIx_nat _ _ 1
  rw [HT.sIx_none, e2, List.take_of_length_le (by rw [List.length_drop]; omega)]
  by_cases c : 1 ≤ xs.length
  · rw [Nat.min_eq_left c]
  · rw [Nat.min_eq_right (by omega), List.drop_length, List.drop_of_length_le (by omega)]
def gapsM (ms : List Int) : List Int := (ms.zip ms.tail).map fun p => p.2 - p.1 - 1
/-- how many rounds are enough for nexts -/
def spMost (K : PySem.W.Frag) : Sp := fun vs H Q _ => ∃ (A : RA) (R : RingS), vs = [.ref A.r] ∧ At K H A R ∧ ∀ (g : Int) H', 0 ≤ g → g ≤ 200 → (∀ n ∈ R.names, (gapA R n : Int) ≤ g + 1) → Fin K H H' → Q (.int g) H'
theorem sc_law_most : FnScope ["_law_ring_here", "_law_members", "_law_marks", "_law_gaps", "_law_k", "_law_name", "_law_one", "_law_later"] ["_law_ring_here"] (defScope s_law_most) := ⟨rfl, rfl, rfl, by decide +kernel, rfl, by decide +kernel, by decide +kernel⟩
theorem ok_law_most (S : Say K mg base) : FnOk P w K mg base CX0 2 (He.ga K "_law_most") (fdO K ("_law_most", none)) ["_law_ring_here"] (spMost K) := by
  refine (S.F_law_most).ok sc_law_most (fun vs H Q E h => ?_) (fun cdv A outer s H vs Q E hr h => ?_)
  · obtain ⟨A, R, rfl, h, k⟩ := h
    rfl
  obtain ⟨A, R, rfl, h, k⟩ := h
  have hu := hu_of hr
  refine ⟨_, PSs.nox (pss_cons (ps_set (i := 1) sc_law_most.nd rfl (Or.inl rfl) (pe_meth0 (pv 0) S.c_Ring S.m_Ring_members (ok_Ring_members S) (hr.mono (by decide)) S.b_Ring_members .nil pass0))
        (pss_cons (ps_setLc (i := 2) (own := [("_law_k", 4), ("_law_name", 5)]) rfl sc_law_most.nd rfl rfl (sw_true rfl rfl rfl (by decide +kernel)) (pi_enum (by rfl) S.z_enumerate (pa_cons (pv 1) pa_nil)) (blkOk_by (own := [("_law_k", 4), ("_law_name", 5)]) (N := ["_law_ring_here", "_law_members", "_law_marks", "_law_gaps", "_law_k", "_law_name", "_law_one", "_law_later"]) (sc := defScope s_law_most) (by decide +kernel)) (fun _ _ _ _ _ => (pg_tupK (K := K) (n := 2) rfl rfl (pgs_cons (pg_name (i := 4) sc_law_most.nd rfl (Or.inl rfl) (Or.inr rfl)) (pgs_cons (pg_name (i := 5) sc_law_most.nd rfl (Or.inl rfl) (Or.inr rfl)) pgs_nil)))) (fun _ _ _ _ _ => (pts_one (pt_cmpR (op_in_seqK (K := K) rfl) (pv 5) (pe_meth0 (pv 0) S.c_Ring S.m_Ring_base (ok_Ring_base S) (hr.mono (by decide)) S.b_Ring_base .nil pass0) rfl))) (fun _ _ _ _ _ => (pv 4)))
        (pss_cons (ps_setLc (i := 3) (own := [("_law_one", 6), ("_law_later", 7)]) rfl sc_law_most.nd rfl rfl (sw_true rfl rfl rfl (by decide +kernel)) (pi_zip (by rfl) S.z_zip (pa_cons (pv 2) (pa_cons (pe_slice sl_list (pv 2) (po_some pe_int) po_none) pa_nil))) (blkOk_by (own := [("_law_one", 6), ("_law_later", 7)]) (N := ["_law_ring_here", "_law_members", "_law_marks", "_law_gaps", "_law_k", "_law_name", "_law_one", "_law_later"]) (sc := defScope s_law_most) (by decide +kernel)) (fun _ _ _ _ _ => (pg_tupK (K := K) (n := 2) rfl rfl (pgs_cons (pg_name (i := 6) sc_law_most.nd rfl (Or.inl rfl) (Or.inr rfl)) (pgs_cons (pg_name (i := 7) sc_law_most.nd rfl (Or.inl rfl) (Or.inr rfl)) pgs_nil)))) (fun _ _ _ _ _ => pts_nil) (fun _ _ _ _ _ => (pe_op op_sub (pe_op op_sub (pv 7) (pv 6)) pe_int)))
        (pss_one (ps_ret (pe_callB (cr_max rfl) (by rfl) S.z_max (by decide +kernel) (pa_cons (pe_op op_cat (pv 3) (pe_lst (pa_cons (pe_op op_sub (pe_op op_sub (pe_op op_add (pe_ix ix_list (pv 2) pe_int (fun _ _ => rfl)) (pe_callB call_len_seq (by rfl) S.z_len (by decide +kernel) (pa_cons (pv 1) pa_nil))) (pe_ix ix_list (pv 2) (pe_un un_neg pe_int) (fun _ _ => rfl))) pe_int) pa_nil))) pa_nil))))))), ?_⟩
  have hlen := members_len64 h.ok
  refine ⟨_, rfl, A.r, A.dx, _, rfl, h.ring.ob, rfl, A, R, rfl, h, fun l H1 nl hl f1 => ?_⟩
  have h1 := h.fin f1
  refine ⟨_, rfl, l, _, rfl, sqL hl, fun D hD => ?_⟩
  have hb := h.ok.fixed
  refine lc_it (walk_enum (K := K) (a := l) (xs := (membersM R).map V.int)) (fun i H2 => Fin K H1 H2 ∧ H2 D = some (.lst ((((List.range i).filter fun j => decide ((membersM R).getD j 0 ∈ R.fixed)).map fun j : Nat => (j : Int)).map V.int))) ⟨Fin.of (same_new hD) h1.tabs, upd_same⟩ (fun i H2 _ g => sqL (g.1.1 _ _ hl fun _ z => nomatch z)) ?_ ?_
  · rintro i v8 H2 H2' hi ⟨f2, hd⟩ ⟨T, y1, y2, rfl, hT, rfl, e1, e2⟩
    obtain ⟨m, hm, rfl⟩ := getI e2
    have e1' : y1 = V.int (i : Nat) := (Option.some.inj e1).symm
    subst e1'
    have hi2 : i < (membersM R).length := (List.getElem?_eq_some_iff.mp hm).1
    have f3 : Fin K H2 (upd H2 T (.tup [.int (i : Nat), .int m])) := Fin.of (same_new hT) f2.2
    have h3 := (h1.fin f2).fin f3
    have hd3 := f3.1 _ _ hd fun _ z => nomatch z
    refine ⟨T, _, rfl, sqT upd_same, rfl, _, _, rfl, _, _, rfl, rfl, rfl, _, rfl, _, rfl, A.r, A.dx, _, rfl, h3.ring.ob, rfl, A, R, rfl, h3, fun q H4 nq hq f4 => ?_⟩
    have hd4 := f4.1 _ _ hd3 fun _ z => nomatch z
    have f24 := f3.trans f4
    refine ⟨q, _, rfl, .inl (sqL hq), rfl, flatI _, _, rfl, ?_⟩
    rw [if_neg (by decide), inI]
    have gd : (membersM R).getD i 0 = m := by rw [List.getD_eq_getElem?_getD, hm]; rfl
    by_cases c : m ∈ R.fixed
    · rw [decide_eq_true c]
      refine iteT ⟨_, rfl, _, hd4, ?_, ⟨fun b o e1 e2 => ?_, tabs_upd (f24.2) hd4 rfl⟩, ?_⟩
      · refine szL ?_
        rw [List.length_map, List.length_map]
        have := List.length_filter_le (fun j => decide ((membersM R).getD j 0 ∈ R.fixed)) (List.range i)
        rw [List.length_range] at this
        omega
      · rw [upd_ne (ne_of_none e1 hD)]
        exact f24.1 b o (f2.1 b o e1 e2) e2
      · have e3 : [i].filter (fun j => decide ((membersM R).getD j 0 ∈ R.fixed)) = [i] := by simp only [List.filter_cons, gd, decide_eq_true c, if_true, List.filter_nil]
        rw [upd_same, List.range_succ, List.filter_append, e3, List.map_append, List.map_append]
        rfl
    · rw [decide_eq_false c]
      refine iteF ⟨f2.trans f24, ?_⟩
      have e3 : [i].filter (fun j => decide ((membersM R).getD j 0 ∈ R.fixed)) = [] := by simp only [List.filter_cons, gd, decide_eq_false c, List.filter_nil]; rfl
      rw [List.range_succ, List.filter_append, e3, List.append_nil]
      exact hd4
  · rintro H2 ⟨f2, hd⟩
    rw [List.length_map] at hd
    have hd2 : H2 D = some (.lst ((marksM (membersM R) R.fixed).map V.int)) := hd
    clear hd
    obtain ⟨a, r, hm⟩ : ∃ a r, marksM (membersM R) R.fixed = a :: r := by
      obtain ⟨f, g1, _⟩ := fixed_two h.ok 0
      obtain ⟨i, hi⟩ := List.mem_iff_getElem?.mp (membersM_mem.mpr (h.ok.fsub f g1))
      have z : (i : Int) ∈ marksM (membersM R) R.fixed := marks_mem.mpr ⟨i, f, rfl, hi, g1⟩
      cases e : marksM (membersM R) R.fixed with
      | nil => rw [e] at z; cases z
      | cons a r => exact ⟨a, r, rfl⟩
    have mlen : (marksM (membersM R) R.fixed).length ≤ 64 := by
      unfold marksM
      rw [List.length_map]
      have := List.length_filter_le (fun j => decide ((membersM R).getD j 0 ∈ R.fixed)) (List.range (membersM R).length)
      rw [List.length_range] at this
      omega
    have mb : ∀ j ∈ marksM (membersM R) R.fixed, 0 ≤ j ∧ j < ((membersM R).length : Int) := fun j hj => by
      obtain ⟨i, f, rfl, hi, _⟩ := marks_mem.mp hj
      have := (List.getElem?_eq_some_iff.mp hi).1
      omega
    rw [hm] at hd2 mlen mb
    have bound := fun g hg hw => gap_bound (g := g) h.ok hm hg hw
    have srt : (a :: r).Pairwise (· < ·) := by rw [← hm]; exact marks_sorted _ _
    refine gname_step ?_
    dsimp only
    have f02 := f1.trans f2
    refine ⟨_, rfl, _, rfl, _, rfl, D, _, rfl, sqL hd2, fun r1 hr1 => ?_⟩
    rw [cut_1]
    have f3 : Fin K H2 (upd H2 r1 (.lst (((a :: r).map V.int).drop 1))) := Fin.of (same_new hr1) f2.2
    have hr3 : upd H2 r1 (.lst (((a :: r).map V.int).drop 1)) r1 = some (.lst (r.map V.int)) := upd_same
    have hd3 := f3.1 _ _ hd2 fun _ z => nomatch z
    revert f3 hr3 hd3
    generalize upd H2 r1 (.lst (((a :: r).map V.int).drop 1)) = H3
    intro f3 hr3 hd3
    refine ⟨D, r1, _, _, rfl, sqL hd3, sqL hr3, fun E0 hE => ?_⟩
    have hl3 := (f2.trans f3).1 _ _ hl fun _ z => nomatch z
    have zl : (gapsM (a :: r)).length = min ((a :: r).map V.int).length (r.map V.int).length := by
      unfold gapsM
      rw [List.length_map, List.length_zip, List.length_map, List.length_map]
      rfl
    refine lc_it (walk_zip (K := K) (a := D) (b := r1) (xs := (a :: r).map V.int) (ys := r.map V.int) rfl) (fun i H4 => Fin K H3 H4 ∧ H4 E0 = some (.lst (((gapsM (a :: r)).take i).map V.int))) ⟨Fin.of (same_new hE) f3.2, upd_same⟩ (fun i H4 _ g => ⟨sqL (g.1.1 _ _ hd3 fun _ z => nomatch z), sqL (g.1.1 _ _ hr3 fun _ z => nomatch z)⟩) ?_ ?_
    · rintro i v8 H4 H4' hi ⟨f4, he⟩ ⟨T, y1, y2, rfl, hT, rfl, e1, e2⟩
      obtain ⟨x, hx, rfl⟩ := getI e1
      obtain ⟨y, hy, rfl⟩ := getI e2
      have f5 : Fin K H4 (upd H4 T (.tup [.int x, .int y])) := Fin.of (same_new hT) f4.2
      have he5 := f5.1 _ _ he fun _ z => nomatch z
      have hg : (gapsM (a :: r))[i]? = some (y - x - 1) := by
        unfold gapsM
        rw [List.getElem?_map]
        have z : ((a :: r).zip (a :: r).tail)[i]? = some (x, y) := by
          rw [List.getElem?_zip_eq_some]
          exact ⟨hx, hy⟩
        rw [z]
        rfl
      refine ⟨T, _, rfl, sqT upd_same, rfl, _, _, rfl, _, _, rfl, rfl, rfl, _, rfl, _, rfl, _, _, rfl, rfl, _, _, rfl, rfl, _, he5, ?_, ⟨fun b o e1 e2 => ?_, tabs_upd f5.2 he5 rfl⟩, ?_⟩
      · refine szL ?_
        rw [List.length_map, List.length_take]
        have : (gapsM (a :: r)).length ≤ 64 := by
          rw [zl, List.length_map]
          omega
        omega
      · rw [upd_ne (ne_of_none e1 hE)]
        exact f5.1 b o (f4.1 b o e1 e2) e2
      · rw [upd_same, take_one hg, List.map_append]
        rfl
    · rintro H4 ⟨f4, he⟩
      rw [← zl, List.take_length] at he
      have hd4 := f4.1 _ _ hd3 fun _ z => nomatch z
      have hl4 := f4.1 _ _ hl3 fun _ z => nomatch z
      have f04 := (f02.trans f3).trans f4
      refine gname_step ?_
      dsimp only
      have glen : (gapsM (a :: r)).length ≤ 64 := by
        rw [zl, List.length_map]
        omega
      refine ⟨_, rfl, _, rfl, D, _, 0, _, rfl, rfl, sqL hd4, atI_0 (m := a) rfl, _, rfl, l, _, rfl, .inl (sqL hl4), _, _, rfl, rfl, ?_⟩
      have ll : lastI (a :: r) ∈ a :: r := lastI_mem (by simp)
      refine ⟨_, rfl, _, rfl, D, _, -1, _, rfl, rfl, sqL hd4, atI_last (by simp), _, _, rfl, rfl, _, _, rfl, rfl, (by show 1 ≤ sizeLine; decide), fun e1 he1 => ?_⟩
      have ewl : ((a :: r).map V.int).length ≤ 64 := by rw [List.length_map]; exact mlen
      have ew : (fun i j : Int => V.int (i - j)) (a + ((((membersM R).map V.int).length : Nat) : Int) - lastI (a :: r)) 1 = V.int (a + (membersM R).length - lastI (a :: r) - 1) := by
        show V.int _ = _
        rw [List.length_map]
      rw [ew]
      have f5 : Fin K H4 (upd H4 e1 (.lst ([a + (membersM R).length - lastI (a :: r) - 1].map V.int))) := Fin.of (same_new he1) f4.2
      have he5 : upd H4 e1 (.lst ([a + (membersM R).length - lastI (a :: r) - 1].map V.int)) e1 = some (.lst ([a + (membersM R).length - lastI (a :: r) - 1].map V.int)) := upd_same
      have hE5 := f5.1 _ _ he fun _ z => nomatch z
      refine ⟨E0, e1, _, _, rfl, rfl, hE5, he5, szI (by rw [List.length_map, List.length_map]; show _ + 1 ≤ 1000; omega), fun r2 hr2 => ?_⟩
      rw [← List.map_append]
      have f6 := f5.new (o := HO.lst ((gapsM (a :: r) ++ [a + (membersM R).length - lastI (a :: r) - 1]).map V.int)) hr2
      refine ⟨r2, _, rfl, sqL upd_same, by rw [List.length_append]; show 0 < _ + 1; omega, fun m hm2 hub => ?_⟩
      have hw := hub _ (List.mem_append_right _ (List.mem_singleton.mpr rfl))
      have ml := mb _ ll
      have ma := mb a (List.mem_cons_self ..)
      refine k m _ (by omega) ?_ (bound m (fun p hp => hub _ (List.mem_append_left _ (List.mem_map.mpr ⟨p, hp, rfl⟩))) hw) (f04.trans f6)
      rcases List.mem_append.mp hm2 with z | z
      · obtain ⟨p, hp, rfl⟩ := List.mem_map.mp z
        have z1 := mb p.1 (List.of_mem_zip hp).1
        have z2 := mb p.2 (List.mem_cons_of_mem _ (List.of_mem_zip hp).2)
        omega
      · rw [List.mem_singleton.mp z]
        omega
end
end Nn
set_option Elab.async false
set_option linter.all false
set_option maxRecDepth 100000
set_option maxHeartbeats 1000000
namespace Nn
open PySem PySem.Spec PyProof.Rows L2 LamX KeyL
/-! ### neighbours by places -/
theorem members_two {R : RingS} (ho : Ok R) : 2 ≤ (membersM R).length := by
  have h1 := ho.fixed
  have h2 := ho.many
  have h3 := nodup_len R.fixed R.names (ho.fsort.imp fun h => by omega) ho.fsub
  rw [membersM_len]
  omega
theorem getD_some {s : List Int} {j : Nat} (h : j < s.length) : s[j]? = some (s.getD j 0) := by
  rw [List.getD_eq_getElem?_getD, List.getElem?_eq_getElem h]
  rfl
theorem nb_next {R : RingS} (ho : Ok R) {i : Nat} {m : Int} (hm : (membersM R)[i]? = some m) : Nb R m ((membersM R).getD ((i + 1) % (membersM R).length) 0) := by
  have hs := members_lt ho
  have h2 := members_two ho
  have hi : i < (membersM R).length := (List.getElem?_eq_some_iff.mp hm).1
  have hj : (i + 1) % (membersM R).length < (membersM R).length := Nat.mod_lt _ (by omega)
  have hy := getD_some hj
  have mem : ∀ z, z ∈ R.names → ∃ k : Nat, (membersM R)[k]? = some z := fun z hz => List.mem_iff_getElem?.mp (membersM_mem.mpr hz)
  have mm := membersM_mem.mp (List.mem_of_getElem? hm)
  have ym := membersM_mem.mp (List.mem_of_getElem? hy)
  have pm := ho.pts m mm
  have py := ho.pts _ ym
  have hji : (i + 1) % (membersM R).length = i + 1 ∧ i + 1 < (membersM R).length ∨ (i + 1) % (membersM R).length = 0 ∧ i + 1 = (membersM R).length := by
    by_cases c : i + 1 < (membersM R).length
    · exact .inl ⟨Nat.mod_eq_of_lt c, c⟩
    · have e : i + 1 = (membersM R).length := by omega
      exact .inr ⟨by rw [e, Nat.mod_self], e⟩
  revert hy py ym hj
  generalize (membersM R).getD ((i + 1) % (membersM R).length) 0 = y
  intro hj hy ym py
  have imy := lt_of_places hs hm hy
  refine ⟨mm, ym, fun e => by have := imy.2.mpr e; omega, fun z hz hzm => ?_⟩
  obtain ⟨k, hk⟩ := mem z hz
  have pz := ho.pts z hz
  have hkl : k < (membersM R).length := (List.getElem?_eq_some_iff.mp hk).1
  have ki : k ≠ i := fun e => hzm ((lt_of_places hs hk hm).2.mp e)
  have i1 := lt_of_places hs hm hk
  have i2 := lt_of_places hs hy hk
  have i3 := lt_of_places hs hk hm
  have i4 := lt_of_places hs hy hm
  rcases hji with ⟨e, c⟩ | ⟨e, c⟩
  · rw [e] at i2 imy i4
    have l1 := imy.1.mp (by omega)
    by_cases ck : i < k
    · have l2 := i1.1.mp ck
      have l3 : y ≤ z := by
        by_cases q : i + 1 = k
        · have := i2.2.mp q; omega
        · have := i2.1.mp (by omega); omega
      rcases dist_cases pm py with ⟨c1, e1⟩ | ⟨c1, e1⟩ <;> rcases dist_cases pm pz with ⟨c2, e2⟩ | ⟨c2, e2⟩ <;> omega
    · have l2 := i3.1.mp (by omega)
      rcases dist_cases pm py with ⟨c1, e1⟩ | ⟨c1, e1⟩ <;> rcases dist_cases pm pz with ⟨c2, e2⟩ | ⟨c2, e2⟩ <;> omega
  · rw [e] at i2 imy i4
    have l1 := i4.1.mp (by omega)
    have l2 := i3.1.mp (by omega)
    have l3 : y ≤ z := by
      by_cases q : 0 = k
      · have := i2.2.mp q; omega
      · have := i2.1.mp (by omega); omega
    rcases dist_cases pm py with ⟨c1, e1⟩ | ⟨c1, e1⟩ <;> rcases dist_cases pm pz with ⟨c2, e2⟩ | ⟨c2, e2⟩ <;> omega
theorem nb_prev {R : RingS} (ho : Ok R) {i : Nat} {m : Int} (hm : (membersM R)[i]? = some m) : ∃ x, atI ((membersM R).map V.int) ((i : Int) - 1) = some (V.int x) ∧ Nb R x m := by
  have h2 := members_two ho
  have hi : i < (membersM R).length := (List.getElem?_eq_some_iff.mp hm).1
  by_cases c : i = 0
  · subst c
    have hl : (membersM R).length - 1 < (membersM R).length := by omega
    have e0 := getD_some (s := membersM R) hl
    have nb := nb_next ho e0
    rw [show (membersM R).length - 1 + 1 = (membersM R).length by omega, Nat.mod_self] at nb
    have em : (membersM R).getD 0 0 = m := by rw [List.getD_eq_getElem?_getD, hm]; rfl
    rw [em] at nb
    refine ⟨lastI (membersM R), ?_, ?_⟩
    · show atI ((membersM R).map V.int) (((0 : Nat) : Int) - 1) = _
      exact atI_last (fun e => by rw [e] at h2; simp at h2)
    · have el : lastI (membersM R) = (membersM R).getD ((membersM R).length - 1) 0 := by
        unfold lastI
        rw [List.getLastD_eq_getLast?, List.getLast?_eq_getElem?, List.getD_eq_getElem?_getD]
      rw [el]
      exact nb
  · have hl : i - 1 < (membersM R).length := by omega
    have e0 := getD_some (s := membersM R) hl
    have nb := nb_next ho e0
    rw [show i - 1 + 1 = i by omega, Nat.mod_eq_of_lt hi] at nb
    have em : (membersM R).getD i 0 = m := by rw [List.getD_eq_getElem?_getD, hm]; rfl
    rw [em] at nb
    refine ⟨(membersM R).getD (i - 1) 0, ?_, nb⟩
    have z := atI_nn (ns := membersM R) (d := (i : Int) - 1) (by omega) (by omega)
    rw [z, show ((i : Int) - 1).toNat = i - 1 by omega]
/-- nexts, predecessors and fingers are right -/
structure NearOk (R : RingS) : Prop where
  next : ∀ n ∈ R.names, NextOk R n
  prior : ∀ x y, Nb R x y → (R.node y).prior = some x
  far : ∀ n ∈ R.names, FarOk R n
section
variable {P : Program} {w : World} {K : PySem.W.Frag} {mg : Str → Option Value} {base : Heap}
def spNearR (K : PySem.W.Frag) : Sp := fun vs H Q _ => ∃ (A : RA) (R : RingS), vs = [.ref A.r] ∧ At K H A R ∧ NearOk R ∧ ∀ H', Fin K H H' → Q (.bl true) H'
theorem sc_law_near_right : FnScope ["_law_ring_here", "_law_members", "_law_at", "_law_name"] ["_law_ring_here"] (defScope s_law_near_right) := ⟨rfl, rfl, rfl, by decide +kernel, rfl, by decide +kernel, by decide +kernel⟩
theorem ok_law_near_right (S : Say K mg base) : FnOk P w K mg base CX0 6 (He.ga K "_law_near_right") (fdO K ("_law_near_right", none)) ["_law_ring_here"] (spNearR K) := by
  refine (S.F_law_near_right).ok sc_law_near_right (fun vs H Q E h => ?_) (fun cdv A outer s H vs Q E hr h => ?_)
  · obtain ⟨A, R, rfl, h, nr, k⟩ := h
    rfl
  obtain ⟨A, R, rfl, h, nr, k⟩ := h
  have hu := hu_of hr
  refine ⟨_, PSs.nox (pss_cons (ps_set (i := 1) sc_law_near_right.nd rfl (Or.inl rfl) (pe_meth0 (pv 0) S.c_Ring S.m_Ring_members (ok_Ring_members S) (hr.mono (by decide)) S.b_Ring_members .nil pass0))
        (pss_cons (ps_for PassesOwn.never rfl (pi_enum (by rfl) S.z_enumerate (pa_cons (pv 1) pa_nil)) (pg_tupK (K := K) (n := 2) rfl rfl (pgs_cons (pg_name (i := 2) sc_law_near_right.nd rfl (Or.inl rfl) (Or.inr rfl)) (pgs_cons (pg_name (i := 3) sc_law_near_right.nd rfl (Or.inl rfl) (Or.inr rfl)) pgs_nil)))
        (pss_cons (ps_if (PW.pt (pw_or (pt_cmpR op_ne (pe_meth (pv 0) S.c_Ring S.m_Ring_next_of (ok_Ring_next_of S) (hr.mono (by decide)) S.b_Ring_next_of .nil pass0 (pa_cons (pv 3) pa_nil)) (pe_ix ix_list (pv 1) (pe_op op_mod (pe_op op_add (pv 2) pe_int) (pe_callB call_len_seq (by rfl) S.z_len (by decide +kernel) (pa_cons (pv 1) pa_nil))) (fun _ _ => rfl)) (nomark _)) (pw_or1 (pt_cmpR op_ne (pe_meth (pv 0) S.c_Ring S.m_Ring_before (ok_Ring_before S) (hr.mono (by decide)) S.b_Ring_before .nil pass0 (pa_cons (pv 3) pa_nil)) (pe_ix ix_list (pv 1) (pe_op op_sub (pv 2) pe_int) (fun _ _ => rfl)) (nomark _))))) (pss_one (ps_ret pe_bl)) pss_nil)
        (pss_one (ps_if (pt_cmpR (op_neW hr.units) (pe_meth (pv 0) S.c_Ring S.m_Ring_fingers (ok_Ring_fingers S) (hr.mono (by decide)) S.b_Ring_fingers .nil pass0 (pa_cons (pv 3) pa_nil)) (pe_call (ok_law_fingers S) (hr.mono (by decide)) rfl S.g_law_fingers (S.F_law_fingers).kp S.b_law_fingers .nil pass0 (pa_cons (pv 0) (pa_cons (pv 1) (pa_cons (pv 3) pa_nil)))) (nomark _)) (pss_one (ps_ret pe_bl)) pss_nil))))
        (pss_one (ps_ret pe_bl)))), ?_⟩
  refine ⟨_, rfl, A.r, A.dx, _, rfl, h.ring.ob, rfl, A, R, rfl, h, fun l H1 nl hl f1 => ?_⟩
  have h1 := h.fin f1
  refine ⟨_, rfl, l, _, rfl, sqL hl, ?_⟩
  refine for_it (walk_enum (K := K) (a := l) (xs := (membersM R).map V.int)) (fun i σ H2 => Fin K H1 H2 ∧ ∃ v v', σ = [some (.ref A.r), some (.ref l), v, v']) ⟨⟨fun _ _ e _ => e, f1.2⟩, none, none, rfl⟩ (fun i σ H2 _ g => sqL (g.1.1 _ _ hl fun _ z => nomatch z)) ?_ ?_
  · rintro i y σ H2 H2' hi ⟨f2, v, v', rfl⟩ ⟨T, y1, y2, rfl, hT, rfl, e1, e2⟩
    obtain ⟨m, hm, rfl⟩ := getI e2
    have e1' : y1 = V.int (i : Nat) := (Option.some.inj e1).symm
    subst e1'
    have hi2 : i < (membersM R).length := (List.getElem?_eq_some_iff.mp hm).1
    have mm := membersM_mem.mp (List.mem_of_getElem? hm)
    have f3 : Fin K H2 (upd H2 T (.tup [.int (i : Nat), .int m])) := Fin.of (same_new hT) f2.2
    have hT3 : upd H2 T (.tup [.int (i : Nat), .int m]) T = some (.tup [.int (i : Nat), .int m]) := upd_same
    revert f3 hT3
    generalize upd H2 T (.tup [.int (i : Nat), .int m]) = H3
    intro f3 hT3
    have f13 := f2.trans f3
    have h3 := h1.fin f13
    refine ⟨T, _, rfl, sqT hT3, rfl, _, _, rfl, _, _, rfl, rfl, ?_⟩
    refine ⟨_, rfl, A.r, A.dx, _, rfl, h3.ring.ob, rfl, _, rfl, A, R, m, rfl, h3, mm, fun H4 f4 => ?_⟩
    have h4 := h3.fin f4
    have hl4 := (f13.trans f4).1 _ _ hl fun _ z => nomatch z
    have nb := nb_next h.ok hm
    have hj : (i + 1) % (membersM R).length < (membersM R).length := Nat.mod_lt _ (by omega)
    have eix : atI ((membersM R).map V.int) (((i : Nat) + 1 : Int) % (((membersM R).map V.int).length : Nat)) = some (V.int ((membersM R).getD ((i + 1) % (membersM R).length) 0)) := by
      have ec : ((i : Nat) + 1 : Int) % (((membersM R).map V.int).length : Nat) = (((i + 1) % (membersM R).length : Nat) : Int) := by
        rw [List.length_map]
        push_cast
        rfl
      rw [ec]
      have z := atI_nn (ns := membersM R) (d := (((i + 1) % (membersM R).length : Nat) : Int)) (by omega) (by omega)
      rw [z, Int.toNat_natCast]
    refine ⟨_, rfl, _, rfl, _, _, rfl, rfl, _, rfl, l, _, rfl, .inl (sqL hl4), _, _, rfl, rfl, (by rw [List.length_map]; omega), l, _, _, _, rfl, rfl, sqL hl4, eix, ?_⟩
    obtain ⟨en, _, _⟩ := nxt_some h.ok mm
    have eu := Nb.unique h.ok (nr.next m mm) nb
    have same : ∀ x : Int, (!decide (V.int x = V.int x)) = false := fun x => by simp
    rw [en, eu]
    refine ⟨rfl, _, rfl, ?_⟩
    show if (!decide (V.int _ = V.int _)) = true then _ else _
    rw [same]
    refine iteF ?_
    obtain ⟨x, ex, nx⟩ := nb_prev h.ok hm
    have ep := nr.prior x m nx
    refine ⟨_, rfl, A.r, A.dx, _, rfl, h4.ring.ob, rfl, _, rfl, A, R, m, rfl, h4.ring, h4.ok, mm, ?_⟩
    rw [ep]
    refine ⟨_, rfl, _, rfl, _, _, rfl, rfl, l, _, _, _, rfl, rfl, sqL hl4, ex, rfl, _, rfl, ?_⟩
    show if (!decide (V.int _ = V.int _)) = true then _ else _
    rw [same]
    refine iteF ?_
    refine ⟨_, rfl, A.r, A.dx, _, rfl, h4.ring.ob, rfl, _, rfl, A, R, m, rfl, h4, mm, fun q H5 nq hq f5 => ?_⟩
    have h5 := h4.fin f5
    have hl5 := f5.1 _ _ hl4 fun _ z => nomatch z
    refine ⟨_, rfl, _, rfl, _, rfl, A, R, l, m, rfl, h5, hl5, fun q2 H6 nq2 hq2 f6 => ?_⟩
    have hq6 := f6.1 _ _ hq fun _ z => nomatch z
    have far : (R.node m).far = (rightFar R.bits R.names m).map some := nr.far m mm
    have ef : (R.node m).far.map oV = (rightFar R.bits R.names m).map V.int := by
      rw [far, List.map_map]
      rfl
    rw [ef] at hq6
    refine ⟨1, by decide, .inl ⟨_, _, _, _, rfl, rfl, .inl ⟨sqL hq6, sqL hq2⟩, pairFlat (n := 0) fun x hx => ?_⟩, _, rfl, iteF ?_⟩
    · obtain ⟨z, _, rfl⟩ := List.mem_map.mp hx
      rfl
    · exact ⟨((f13.trans f4).trans f5).trans f6, _, _, rfl⟩
  · rintro σ H2 ⟨f2, v, v', rfl⟩
    exact k H2 (f1.trans f2)
end
end Nn
set_option Elab.async false
set_option linter.all false
set_option maxRecDepth 100000
set_option maxHeartbeats 1000000
namespace Nn
open PySem PySem.Spec PyProof.Rows L2 LamX KeyL
/-! ### what is got -/
section
variable {P : Program} {w : World} {K : PySem.W.Frag} {mg : Str → Option Value} {base : Heap}
theorem xfC (S : Say K mg base) {x : Str} (hx : x ∈ exL) : L2.XfC K (He.ga K x) := by
  have z := (exParts S).2.2.1 x hx
  unfold exB0 at z
  simp only [Bool.and_eq_true, decide_eq_true_eq] at z
  obtain ⟨nm, q, N, bs, bm, sn, sub, ab, col, dd, k0, k1, k2, k3, k5, hl, _⟩ := oexB_ok z.1
  refine ⟨z.2.2.2.2.2.1, z.2.2.2.2.2.2, z.2.2.1, ?_⟩
  unfold PySem.W.hasDictIn PySem.W.clsIn
  rw [hl]
  rfl
theorem exmSelf (S : Say K mg base) {x : Str} (hx : x ∈ exL) : PySem.W.exmOne K (.ref (He.ga K x)) (.ref (He.ga K x)) = some true := by
  have z := (exParts S).2.2.1 x hx
  unfold exB0 at z
  simp only [Bool.and_eq_true, decide_eq_true_eq] at z
  obtain ⟨nm, q, N, bs, bm, sn, sub, ab, col, dd, k0, k1, k2, k3, k5, hl, _⟩ := oexB_ok z.1
  have hc : (PySem.W.clsIn K (He.ga K x)).isSome = true := by
    unfold PySem.W.clsIn
    rw [hl]
    rfl
  have hm : PySem.W.subIn K (.ref (He.ga K x)) (.ref (He.ga K x)) = some true := by
    show PySem.W.mroIn K (He.ga K x) (.ref (He.ga K x)) = some true
    unfold PySem.W.mroIn PySem.W.clsIn
    rw [hl]
    show (if (Value.ref (He.ga K x) :: bm).isEmpty then none else some ((Value.ref (He.ga K x) :: bm).contains (Value.ref (He.ga K x)))) = some true
    simp
  unfold PySem.W.exmOne
  rw [z.2.2.1]
  simp [PySem.W.kitCls, hc, z.2.2.2.1, hm]
theorem sc_NoValue_init : FnScope ["self", "point"] ["self", "point"] (defScope s_NoValue_init) := ⟨rfl, rfl, rfl, by decide +kernel, rfl, by decide +kernel, by decide +kernel⟩
theorem ok_NoValue_init (S : Say K mg base) : FnOk P w K mg base CX0 1 (He.ma K (He.ga K "NoValue") "__init__") (fdO K ("NoValue", some "__init__")) ["self", "point"] (spOex "NoValue" "point" K) := by
  refine (S.F_NoValue_init).ok sc_NoValue_init (fun vs H Q E h => ?_) (fun cdv A outer s H vs Q E hr h => ?_)
  · obtain ⟨a, v, rfl, ha, k⟩ := h
    rfl
  obtain ⟨a, v, rfl, ha, k⟩ := h
  have hu := hu_of hr
  refine ⟨_, PSs.nox (pss_cons (ps_expr (pe_reinit (by rfl) S.g_RingError (exRe S).1 (exRe S).2.1 (exRe S).2.2 (pa_cons (pv 0) (pa_cons pe_str pa_nil))))
        (pss_one (ps_ost (pv 0) (pv 1)))), ?_⟩
  refine ⟨_, rfl, a, He.ga K "NoValue", _, rfl, (by show 1 ≤ 1000; decide), oexC S (by decide), ha, ?_⟩
  exact ⟨_, rfl, _, rfl, a, He.ga K "NoValue", rfl, oexC S (by decide), exFld S (p := ("NoValue", "point")) (by decide), .inl ⟨ha, fun dx h1 h2 => k dx h1 h2⟩⟩
/-- all holders keep one and the same item -/
def spGet (K : PySem.W.Frag) : Sp := fun vs H Q E => ∃ (A : RA) (R : RingS) (p via : Int) (t : Thing), vs = [.ref A.r, .int p, .int via] ∧ At K H A R ∧ via ∈ R.names ∧ (0 ≤ p ∧ p < 2 ^ R.bits) ∧ t.1 = p ∧ 1 ≤ t.2.1 ∧ (∀ m ∈ holdersM R p via, itm R m p = some t) ∧
  (∀ x H', t.2.2 = some x → Fin K H H' → Q (.str x) H') ∧ (t.2.2 = none → ∀ H', Fin K H H' → Out K "NoValue" "point" (.int p) H' E)
theorem sc_get : FnScope ["ring", "point", "via", "newest", "found", "name", "own", "stamp", "text"] ["ring", "point", "via"] (defScope s_get) := ⟨rfl, rfl, rfl, by decide +kernel, rfl, by decide +kernel, by decide +kernel⟩
theorem ok_get (S : Say K mg base) : FnOk P w K mg base (L2.CX P w) 15 (He.ga K "get") (fdO K ("get", none)) ["ring", "point", "via"] (spGet K) := by
  refine (S.F_get).ok sc_get (fun vs H Q E h => ?_) (fun cdv A outer s H vs Q E hr h => ?_)
  · obtain ⟨A, R, p, via, t, rfl, h, hv, hp, et, ht1, hall, k1, k2⟩ := h
    rfl
  obtain ⟨A, R, p, via, t, rfl, h, hv, hp, et, ht1, hall, k1, k2⟩ := h
  have hu := hu_of hr
  refine ⟨_, (pss_cons (ps_asg (pe_tup (pa_cons pe_int (pa_cons pe_non pa_nil))) (pg_tupK (K := K) (n := 2) rfl rfl (pgs_cons (pg_name (i := 3) sc_get.nd rfl (Or.inl rfl) (Or.inr rfl)) (pgs_cons (pg_name (i := 4) sc_get.nd rfl (Or.inl rfl) (Or.inr rfl)) pgs_nil))))
        (pss_cons (ps_for (passes_of rfl) rfl (pi_list (pe_callN (ok_holders S) (hr.mono (by decide)) rfl S.g_holders (S.F_holders).kp S.kb_holders pass0 (pa_cons (pv 0) (pa_cons (pv 1) pa_nil)) (pk_cons (pv 2) pk_nil))) (pg_name (i := 5) sc_get.nd rfl (Or.inl rfl))
        (pss_one (ps_for (passes_of rfl) rfl (pi_list (pe_meth (pv 0) S.c_Ring S.m_Ring_kept (ok_Ring_kept S) (hr.mono (by decide)) S.b_Ring_kept .nil pass0 (pa_cons (pv 5) pa_nil))) (pg_tupK (K := K) (n := 3) rfl rfl (pgs_cons (pg_name (i := 6) sc_get.nd rfl (Or.inl rfl) (Or.inr rfl)) (pgs_cons (pg_name (i := 7) sc_get.nd rfl (Or.inl rfl) (Or.inr rfl)) (pgs_cons (pg_name (i := 8) sc_get.nd rfl (Or.inl rfl) (Or.inr rfl)) pgs_nil))))
        (pss_one (ps_if (PW.pt (pw_and (pt_cmpR op_eq (pv 6) (pv 1) (nomark _)) (pw_and1 (pt_cmpR op_gt (pv 7) (pv 3) (nomark _))))) (pss_one (ps_par (i := 3) (j := 4) (by rfl) sc_get.nd rfl rfl (by decide) rfl rfl (pa_cons (pv 7) (pa_cons (pv 8) pa_nil)) (by rfl))) pss_nil)))))
        (pss_cons (ps_if (pt_cmpR op_isN (pv 4) pe_non (nomark _)) (pss_one (ps_raise rfl (takes_of rfl rfl rfl rfl) (pmk_oex (oexC S (x := "NoValue") (by decide)) (exInit S (x := "NoValue") (by decide)).1 (exInit S (x := "NoValue") (by decide)).2 (ok_NoValue_init S) (hr.mono (by decide)) S.b_NoValue_init .nil pass0 (by rfl) S.g_NoValue (pa_cons (pv 1) pa_nil)))) pss_nil)
        (pss_one (ps_ret (pv 4)))))), ?_⟩
  refine ⟨(by show 2 ≤ sizeLine; decide), fun T hT => ⟨T, _, rfl, sqT upd_same, rfl, _, _, rfl, _, _, rfl, rfl, ?_⟩⟩
  have f0 : Fin K H (upd H T (.tup [.int 0, .non])) := Fin.of (same_new hT) h.tabs
  refine ⟨_, rfl, _, rfl, _, rfl, rfl, rfl, A, R, p, via, rfl, h.fin f0, hv, hp, fun q H1 nq hq f1 => ?_⟩
  replace f1 := f0.trans f1
  have hmem := holdersM_mem h.ok hp hv
  refine ⟨q, rfl, ⟨_, sqL hq⟩, for_list (K := K) (a := q) (xs := (holdersM R p via).map V.int) (fun i σ H2 => Fin K H1 H2 ∧ ∃ (nw : Int) (fd : V) (a b c d : Option V), σ = [some (.ref A.r), some (.int p), some (.int via), some (.int nw), some fd, a, b, c, d] ∧ ((i = 0 ∧ nw = 0 ∧ fd = .non) ∨ (0 < i ∧ nw = t.2.1 ∧ fd = oT t.2.2))) ⟨⟨fun _ _ e _ => e, f1.2⟩, 0, .non, none, none, none, none, rfl, .inl ⟨rfl, rfl, rfl⟩⟩ (fun i σ H2 _ g => sqL (g.1.1 _ _ hq fun _ z => nomatch z)) ?_ ?_⟩
  · rintro i y σ H2 hi ⟨f2, nw0, fd0, a, b, c, d, rfl, hst⟩
    obtain ⟨m, hm, rfl⟩ := getI hi
    have mh := List.mem_of_getElem? hm
    have mm := hmem m mh
    have h2 := h.fin (f1.trans f2)
    have start : (nw0 = 0 ∧ fd0 = .non) ∨ (nw0 = t.2.1 ∧ fd0 = oT t.2.2) := hst.imp (fun z => z.2) fun z => z.2
    refine ⟨_, rfl, A.r, A.dx, _, rfl, h2.ring.ob, rfl, _, rfl, A, R, m, rfl, h2, mm, fun q2 H3 nq2 hq2 f3 => ?_⟩
    obtain ⟨us, hus, hP⟩ := id hq2
    have lus := paired_len hP
    refine ⟨q2, rfl, ⟨_, sqL hus⟩, for_list (K := K) (a := q2) (xs := us.map V.ref) (fun j σ H4 => Fin K H3 H4 ∧ ∃ (nw : Int) (fd : V) (b c d : Option V), σ = [some (.ref A.r), some (.int p), some (.int via), some (.int nw), some fd, some (.int m), b, c, d] ∧ ((nw = nw0 ∧ fd = fd0 ∧ ∀ e ∈ (keptM R m).take j, e.1 ≠ p) ∨ (nw = t.2.1 ∧ fd = oT t.2.2))) ⟨⟨fun _ _ e _ => e, f3.2⟩, nw0, fd0, b, c, d, rfl, .inl ⟨rfl, rfl, fun e he => absurd he (by simp)⟩⟩ (fun j σ H4 _ g => sqL (g.1.1 _ _ hus fun _ z => nomatch z)) ?_ ?_⟩
    · rintro j y σ H4 hj ⟨f4, nw, fd, b, c, d, rfl, hs4⟩
      obtain ⟨u, hu, rfl⟩ : ∃ u, us[j]? = some u ∧ y = V.ref u := by
        rw [List.getElem?_map] at hj
        cases q : us[j]? with
        | none => rw [q] at hj; cases hj
        | some u => rw [q] at hj; exact ⟨u, rfl, (Option.some.inj hj).symm⟩
      obtain ⟨e, he, hrow⟩ := paired_at hP hu
      have hrow4 := f4.1 _ _ hrow fun _ z => nomatch z
      have hek := (keptM_perm R m).mem_iff.mp (List.mem_of_getElem? he)
      refine ⟨u, _, rfl, sqT hrow4, rfl, _, _, rfl, _, _, rfl, _, _, rfl, rfl, ?_⟩
      refine ⟨_, rfl, _, rfl, rfl, _, rfl, ?_⟩
      have dd : decide (V.int e.1 = V.int p) = decide (e.1 = p) := by simp
      rw [dd]
      have tk := take_oneG he
      by_cases c1 : e.1 = p
      · have ee : e = t := by
          have z := getT_of (h.ok.keys m mm) hek
          have z2 := hall m mh
          rw [← c1] at z2
          have z3 : getT (R.node m).things e.1 = some t := z2
          rw [z] at z3
          exact Option.some.inj z3
        rw [decide_eq_true c1, ee]
        refine iteT ⟨_, rfl, _, rfl, _, _, rfl, rfl, _, rfl, ?_⟩
        by_cases c2 : nw < t.2.1
        · rw [decide_eq_true c2]
          refine iteT ⟨_, rfl, _, rfl, _, _, rfl, ?_⟩
          exact ⟨f4, _, _, _, _, _, rfl, .inr ⟨rfl, rfl⟩⟩
        · rw [decide_eq_false c2]
          refine iteF ⟨f4, _, _, _, _, _, rfl, .inr ?_⟩
          rcases hs4 with ⟨s1, s2, _⟩ | z
          · rcases start with ⟨z1, z2⟩ | ⟨z1, z2⟩
            · omega
            · exact ⟨s1.trans z1, s2.trans z2⟩
          · exact z
      · rw [decide_eq_false c1]
        refine iteF (iteF ⟨f4, _, _, _, _, _, rfl, hs4.imp (fun ⟨s1, s2, s3⟩ => ⟨s1, s2, fun x hx => ?_⟩) id⟩)
        rw [tk] at hx
        rcases List.mem_append.mp hx with z | z
        · exact s3 x z
        · rw [List.mem_singleton.mp z]; exact c1
    · rintro σ H4 ⟨f4, nw, fd, b, c, d, rfl, hs4⟩
      rw [List.length_map, lus, List.take_length] at hs4
      refine ⟨(f2.trans f3).trans f4, _, _, _, _, _, _, rfl, .inr ⟨Nat.succ_pos _, ?_⟩⟩
      rcases hs4 with ⟨_, _, s3⟩ | z
      · exfalso
        have z2 := hall m mh
        obtain ⟨g1, g2⟩ := getT_mem z2
        exact s3 t ((keptM_perm R m).mem_iff.mpr g1) g2
      · exact z
  · rintro σ H2 ⟨f2, nw, fd, a, b, c, d, rfl, hst⟩
    have hst2 : nw = t.2.1 ∧ fd = oT t.2.2 := by
      rcases hst with ⟨z, _⟩ | ⟨_, z⟩
      · rw [List.length_map] at z
        unfold holdersM at z
        simp at z
      · exact z
    obtain ⟨rfl, rfl⟩ := hst2
    refine ⟨_, rfl, rfl, _, rfl, ?_⟩
    cases e : t.2.2 with
    | none => exact iteT ⟨_, rfl, (by show 1 ≤ 1000; decide), fun a ha => out_of ha (k2 e H2 (f1.trans f2))⟩
    | some x => exact iteF ⟨_, rfl, k1 x H2 e (f1.trans f2)⟩
def spGot (K : PySem.W.Frag) : Sp := fun vs H Q _ => ∃ (A : RA) (R : RingS) (p via : Int) (t : Thing), vs = [.ref A.r, .int p, .int via] ∧ At K H A R ∧ via ∈ R.names ∧ (0 ≤ p ∧ p < 2 ^ R.bits) ∧ t.1 = p ∧ 1 ≤ t.2.1 ∧ (∀ m ∈ holdersM R p via, itm R m p = some t) ∧
  (∀ x H', t.2.2 = some x → Fin K H H' → Q (.str x) H') ∧ (t.2.2 = none → ∀ u H', H' u = some (.tup [.str "none", .int p]) → Fin K H H' → Q (.ref u) H')
theorem sc_law_got : FnScope ["_law_ring_here", "_law_point", "_law_asker", "_law_found", "e"] ["_law_ring_here", "_law_point", "_law_asker"] (defScope s_law_got) := ⟨rfl, rfl, rfl, by decide +kernel, rfl, by decide +kernel, by decide +kernel⟩
theorem ok_law_got (S : Say K mg base) : FnOk P w K mg base CX0 16 (He.ga K "_law_got") (fdO K ("_law_got", none)) ["_law_ring_here", "_law_point", "_law_asker"] (spGot K) := by
  refine (S.F_law_got).ok sc_law_got (fun vs H Q E h => ?_) (fun cdv A outer s H vs Q E hr h => ?_)
  · obtain ⟨A, R, p, via, t, rfl, h, hv, hp, et, ht1, hall, k1, k2⟩ := h
    rfl
  obtain ⟨A, R, p, via, t, rfl, h, hv, hp, et, ht1, hall, k1, k2⟩ := h
  have hu := hu_of hr
  refine ⟨_, PSs.nox (pss_cons (ps_set (i := 3) sc_law_got.nd rfl (Or.inl rfl) pe_non)
        (pss_cons (ps_try_as (i := 4) rfl rfl sc_law_got.nd rfl (by rfl) ⟨by rfl, by decide, .inl S.g_NoValue⟩ L2.takes0 (fun W pn xe tk hp => pss_one (ps_set (i := 3) sc_law_got.nd rfl (Or.inl rfl) (pe_callNS (E := WE W) (ok_get S) (hr.mono (by decide)) rfl S.g_get (S.F_get).kp S.kb_get (fun σ => passAt tk σ) (pa_cons (pv 0) (pa_cons (pv 1) pa_nil)) (pk_cons (pv 2) pk_nil)))) (fun a oe cls d pn hz hf => pss_one (ps_set (i := 3) sc_law_got.nd rfl (Or.inl rfl) (pe_tup (pa_cons pe_str (pa_cons (pe_xf (xfC S (x := "NoValue") (by decide)) (exFld S (p := ("NoValue", "point")) (by decide)) hz hf (pv 4)) pa_nil))))))
        (pss_one (ps_ret (pv 3))))), ?_⟩
  refine ⟨_, rfl, _, rfl, _, rfl, rfl, rfl, A, R, p, via, t, rfl, h, hv, hp, et, ht1, hall, fun x H1 e f1 => ?_, fun e H1 f1 d H2 e1 e2 e3 => ?_⟩
  · exact ⟨_, rfl, k1 x H1 e f1⟩
  · refine ⟨true, exmSelf S (x := "NoValue") (by decide), fun _ a ha => ?_, fun z => nomatch z⟩
    have f2 : Fin K H H2 := f1.trans (Fin.of e3 f1.2)
    refine ⟨_, rfl, rfl, rfl, d, _, _, rfl, e2, rfl, (by show 2 ≤ sizeLine; decide), fun u hu => ?_⟩
    exact ⟨_, rfl, k2 e u _ upd_same (f2.new hu)⟩
end
end Nn
set_option Elab.async false
set_option linter.all false
set_option maxRecDepth 100000
set_option maxHeartbeats 1000000
namespace Nn
open PySem PySem.Spec PyProof.Rows L2 LamX KeyL
/-! ### the law's own lists -/
def linksL (R : RingS) (j : Nat) : List Int := (List.range R.many).map fun i => (membersM R).getD ((j + 1 + i) % (membersM R).length) 0
theorem chn_at {R : RingS} (ho : Ok R) : ∀ (k j : Nat) (m : Int), (membersM R)[j]? = some m → Chn R m ((List.range k).map fun i => (membersM R).getD ((j + 1 + i) % (membersM R).length) 0)
  | 0, _, _, _ => True.intro
  | k + 1, j, m, hm => by
    rw [List.range_succ_eq_map, List.map_cons, List.map_map]
    have h2 := members_two ho
    have nb := nb_next ho hm
    have hj : (j + 1) % (membersM R).length < (membersM R).length := Nat.mod_lt _ (by omega)
    have e0 := getD_some hj
    refine ⟨by rw [Nat.add_zero]; exact nb, ?_⟩
    rw [Nat.add_zero]
    have z := chn_at ho k _ _ e0
    have e : (List.range k).map ((fun i => (membersM R).getD ((j + 1 + i) % (membersM R).length) 0) ∘ Nat.succ) = (List.range k).map fun i => (membersM R).getD (((j + 1) % (membersM R).length + 1 + i) % (membersM R).length) 0 := by
      refine List.map_congr_left fun i _ => ?_
      show (membersM R).getD ((j + 1 + (i + 1)) % (membersM R).length) 0 = _
      congr 1
      rw [Nat.add_assoc ((j + 1) % _), Nat.mod_add_mod]
      congr 1
      omega
    rw [e]
    exact z
theorem links_right {R : RingS} (ho : Ok R) (a : AllRight R) {j : Nat} {m : Int} (hm : (membersM R)[j]? = some m) : (R.node m).chain = linksL R j := by
  have hn := membersM_mem.mp (List.mem_of_getElem? hm)
  refine Chn.unique ho _ _ m (a.chain m hn) (chn_at ho R.many j m hm) ?_
  unfold linksL
  rw [ho.clen m hn, List.length_map, List.length_range]
section
variable {P : Program} {w : World} {K : PySem.W.Frag} {mg : Str → Option Value} {base : Heap}
def spLLinks (K : PySem.W.Frag) : Sp := fun vs H Q _ => ∃ (A : RA) (R : RingS) (l : Addr) (m : Int) (j : Nat), vs = [.ref A.r, .ref l, .int m] ∧ At K H A R ∧ H l = some (.lst ((membersM R).map V.int)) ∧ (membersM R)[j]? = some m ∧ ∀ q H', NotOld H q → H' q = some (.lst ((linksL R j).map V.int)) → Fin K H H' → Q (.ref q) H'
theorem sc_law_links : FnScope ["_law_ring_here", "_law_members", "_law_name", "_law_at", "_law_k"] ["_law_ring_here", "_law_members", "_law_name"] (defScope s_law_links) := ⟨rfl, rfl, rfl, by decide +kernel, rfl, by decide +kernel, by decide +kernel⟩
theorem ok_law_links (S : Say K mg base) : FnOk P w K mg base CX0 2 (He.ga K "_law_links") (fdO K ("_law_links", none)) ["_law_ring_here", "_law_members", "_law_name"] (spLLinks K) := by
  refine (S.F_law_links).ok sc_law_links (fun vs H Q E h => ?_) (fun cdv A outer s H vs Q E hr h => ?_)
  · obtain ⟨A, R, l, m, j, rfl, h, hl, hm, k⟩ := h
    rfl
  obtain ⟨A, R, l, m, j, rfl, h, hl, hm, k⟩ := h
  have hu := hu_of hr
  refine ⟨_, PSs.nox (pss_cons (ps_set (i := 3) sc_law_links.nd rfl (Or.inr rfl) (pe_bm PySem.F.plainAttrs_list PySem.F.slot_list_index PySem.F.type_list_index mt_index (pv 1) (pa_cons (pv 2) pa_nil)))
        (pss_one (ps_ret (pe_lc (own := [("_law_k", 4)]) rfl sc_law_links.nd (pi_range1 rfl S.z_range (pa_cons (pe_meth0 (pv 0) S.c_Ring S.m_Ring_length (ok_Ring_length S) (hr.mono (by decide)) S.b_Ring_length .nil pass0) pa_nil)) (blkOk_by (own := [("_law_k", 4)]) (N := ["_law_ring_here", "_law_members", "_law_name", "_law_at", "_law_k"]) (sc := defScope s_law_links) (by decide +kernel)) (fun _ _ _ _ _ => (pg_name (i := 4) sc_law_links.nd rfl (Or.inl rfl))) (fun _ _ _ _ _ => pts_nil) (fun _ _ _ _ _ => (pe_ix (ix_listK (K := K) rfl) (pv 1) (pe_op op_mod (pe_op op_add (pe_op op_add (pv 3) pe_int) (pv 4)) (pe_callB (call_lenK (K := K) rfl) (by rfl) S.z_len (by decide +kernel) (pa_cons (pv 1) pa_nil))) (fun _ _ => rfl))))))), ?_⟩
  have hm' : ((membersM R).map V.int)[j]? = some (V.int m) := by rw [List.getElem?_map, hm]; rfl
  have h2 := members_two h.ok
  have hj : j < (membersM R).length := (List.getElem?_eq_some_iff.mp hm).1
  have hmany := h.ok.many
  have hlen := members_len64 h.ok
  refine ⟨_, rfl, .inl ⟨rfl, _, sqL hl⟩, _, rfl, l, _, _, j, _, rfl, rfl, sqL hl, rfl, flatI _, hm', by simp [eqV], fun i z hi hz => ?_, ?_⟩
  · obtain ⟨x, hx, rfl⟩ := getI hz
    have hne : x ≠ m := fun e => by
      have := (lt_of_places (members_lt h.ok) hx hm).2.mpr e
      omega
    simp [eqV, hne]
  refine gname_step ?_
  dsimp only
  refine ⟨_, rfl, A.r, A.dx, _, rfl, h.ring.ob, rfl, A, R, rfl, h.ring, _, rfl, by omega, by omega, fun D hD => ?_⟩
  rw [Int.toNat_natCast]
  refine lc_range (lo := 0) (n := R.many) (fun i H2 => Fin K H H2 ∧ H2 D = some (.lst (((List.range i).map fun i => (membersM R).getD ((j + 1 + i) % (membersM R).length) 0).map V.int))) ⟨Fin.of (same_new hD) h.tabs, upd_same⟩ ?_ ?_
  · rintro i H2 hi ⟨f2, hd⟩
    have hl2 := f2.1 _ _ hl fun _ z => nomatch z
    have ei : (0 : Int) + ((i : Nat) : Int) = ((i : Nat) : Int) := Int.zero_add _
    rw [ei]
    have ec : ((j : Nat) + 1 + (i : Nat) : Int) % (((membersM R).map V.int).length : Nat) = (((j + 1 + i) % (membersM R).length : Nat) : Int) := by
      rw [List.length_map]
      push_cast
      rfl
    have eix : atI ((membersM R).map V.int) (((j : Nat) + 1 + (i : Nat) : Int) % (((membersM R).map V.int).length : Nat)) = some (V.int ((membersM R).getD ((j + 1 + i) % (membersM R).length) 0)) := by
      rw [ec]
      have hlt : (j + 1 + i) % (membersM R).length < (membersM R).length := Nat.mod_lt _ (by omega)
      have z := atI_nn (ns := membersM R) (d := (((j + 1 + i) % (membersM R).length : Nat) : Int)) (by omega) (by omega)
      rw [z, Int.toNat_natCast]
    refine ⟨rfl, _, rfl, _, rfl, _, _, rfl, rfl, _, rfl, _, _, rfl, rfl, _, rfl, l, _, rfl, .inl (sqL hl2), _, _, rfl, rfl, (by rw [List.length_map]; omega), l, _, _, _, rfl, rfl, sqL hl2, eix, _, hd, szL ?_, ⟨fun b o e1 e2 => ?_, tabs_upd f2.2 hd rfl⟩, ?_⟩
    · rw [List.length_map, List.length_map, List.length_range]
      omega
    · rw [upd_ne (ne_of_none e1 hD)]
      exact f2.1 b o e1 e2
    · rw [upd_same, List.range_succ]
      simp
  · rintro H2 ⟨f2, hd⟩
    exact k D H2 (notOld_of hD) hd f2
end
end Nn
set_option Elab.async false
set_option linter.all false
set_option maxRecDepth 100000
set_option maxHeartbeats 1000000
namespace Nn
open PySem PySem.Spec PyProof.Rows L2 LamX KeyL
/-! ### the law's look at all -/
/-- the law's dict with its items named -/
structure NewsG (H : Hp) (D : Addr) (R : RingS) (ns : List Int) (f : Int → Addr) (g : Int → Thing) : Prop where
  dict : H D = some (.dK (kvN ns f))
  nodup : ns.Nodup
  item : ∀ p ∈ ns, IsNew R (g p) ∧ (g p).1 = p ∧ H (f p) = some (.tup [.int (g p).2.1, oT (g p).2.2])
  all : ∀ t, IsNew R t → t.1 ∈ ns
theorem News.named {H : Hp} {D : Addr} {R : RingS} (h : News H D R) : ∃ ns f g, NewsG H D R ns f g := by
  obtain ⟨ns, f, h1, h2, h3, h4⟩ := h
  have z : ∀ p : Int, ∃ t : Thing, p ∈ ns → IsNew R t ∧ t.1 = p ∧ H (f p) = some (.tup [.int t.2.1, oT t.2.2]) := fun p => by
    by_cases c : p ∈ ns
    · obtain ⟨s, x, k1, k2⟩ := h3 p c
      exact ⟨(p, s, x), fun _ => ⟨k1, rfl, k2⟩⟩
    · exact ⟨(0, 0, none), fun h => absurd h c⟩
  exact ⟨ns, f, fun p => Classical.choose (z p), h1, h2, fun p hp => Classical.choose_spec (z p) hp, h4⟩
theorem NewsG.fin {K : PySem.W.Frag} {H H' : Hp} {D : Addr} {R : RingS} {ns : List Int} {f : Int → Addr} {g : Int → Thing} (h : NewsG H D R ns f g) (e : Fin K H H') : NewsG H' D R ns f g :=
  ⟨e.1 _ _ h.dict nofun, h.nodup, fun p hp => by obtain ⟨a, b, c⟩ := h.item p hp; exact ⟨a, b, e.1 _ _ c nofun⟩, h.all⟩
theorem new_unique {R : RingS} {t u : Thing} (h : IsNew R t) (k : IsNew R u) (e : t.1 = u.1) : t = u := by
  have go : ∀ {t u : Thing}, IsNew R t → IsNew R u → t.1 = u.1 → u.2.1 ≤ t.2.1 := fun {t u} h k e => by
    by_cases c : u.2.1 ≤ t.2.1
    · exact c
    · refine absurd ?_ (h.2 (u.2.1.toNat - 1) u.2.2 (by have := h.1.1; omega))
      rw [k.1.2, e]
  have h1 := go h k e
  have h2 := go k h e.symm
  have es : t.2.1 = u.2.1 := by omega
  have a := h.1.2
  rw [es, k.1.2] at a
  have z := congrArg Prod.snd (Option.some.inj a)
  obtain ⟨a1, a2, a3⟩ := t
  obtain ⟨b1, b2, b3⟩ := u
  simp only at e es z
  rw [e, es, z]
def dueL (R : RingS) (m : Int) (g : Int → Thing) (ps : List Int) : List Thing := (ps.filter fun p => decide (m ∈ dueM R p)).map g
theorem due_kept {R : RingS} (ho : Ok R) (a : AllRight R) {H : Hp} {D : Addr} {ns : List Int} {f : Int → Addr} {g : Int → Thing} (h : NewsG H D R ns f g) {m : Int} (hm : m ∈ R.names) {ys : List Int} (hp : ys.Perm ns) (hs : ys.Pairwise (· ≤ ·)) : keptM R m = dueL R m g ys := by
  have nd : (ys.map g).Nodup ∧ ys.Nodup := by
    have z : ys.Nodup := hp.nodup_iff.mpr h.nodup
    refine ⟨?_, z⟩
    refine List.pairwise_map.mpr (List.Pairwise.imp_of_mem (fun {x y} hx hy hxy e => hxy ?_) z)
    have e1 := (h.item x (hp.mem_iff.mp hx)).2.1
    have e2 := (h.item y (hp.mem_iff.mp hy)).2.1
    rw [← e1, ← e2, e]
  have mem : ∀ t, t ∈ dueL R m g ys ↔ IsNew R t ∧ m ∈ dueM R t.1 := fun t => by
    unfold dueL
    rw [List.mem_map]
    constructor
    · rintro ⟨p, h1, rfl⟩
      obtain ⟨k1, k2⟩ := List.mem_filter.mp h1
      obtain ⟨i1, i2, _⟩ := h.item p (hp.mem_iff.mp k1)
      exact ⟨i1, by rw [i2]; simpa using k2⟩
    · rintro ⟨h1, h2⟩
      have hn := h.all t h1
      obtain ⟨i1, i2, _⟩ := h.item _ hn
      exact ⟨t.1, List.mem_filter.mpr ⟨hp.mem_iff.mpr hn, by simpa using h2⟩, new_unique i1 h1 i2⟩
  have nd2 : (dueL R m g ys).Nodup := ((List.filter_sublist (l := ys)).map g).nodup nd.1
  have ndk : (R.node m).things.Nodup := List.Pairwise.imp (fun hne e => hne (congrArg Prod.fst e)) (List.pairwise_map.mp (ho.keys m hm))
  refine sortedU (g := fun e : Thing => e.1) ((keptM_perm R m).trans ((List.perm_ext_iff_of_nodup ndk nd2).mpr fun t => (a.things m hm t).trans (mem t).symm)) (keptM_sorted R m) ?_ fun x hx y hy e => ?_
  · refine List.pairwise_map.mpr (List.Pairwise.imp_of_mem (fun {x y} hx hy hxy => ?_) (hs.sublist List.filter_sublist))
    rw [(h.item x (hp.mem_iff.mp (List.mem_filter.mp hx).1)).2.1, (h.item y (hp.mem_iff.mp (List.mem_filter.mp hy).1)).2.1]
    exact hxy
  · exact new_unique ((mem x).mp hx).1 ((mem y).mp hy).1 e
theorem due_rng {R : RingS} (ho : Ok R) (a : AllRight R) {t : Thing} (h : IsNew R t) : 0 ≤ t.1 ∧ t.1 < 2 ^ R.bits := by
  have hm := (near_is (p := t.1) ho).mem
  have z := (a.things _ hm t).mpr ⟨h, List.mem_cons_self ..⟩
  exact (ho.kept _ hm t z).2.2
section
variable {P : Program} {w : World} {K : PySem.W.Frag} {mg : Str → Option Value} {base : Heap}
def spAllR (K : PySem.W.Frag) : Sp := fun vs H Q _ => ∃ (A : RA) (R : RingS) (D : Addr), vs = [.ref A.r, .ref D] ∧ At K H A R ∧ AllRight R ∧ News H D R ∧ (∃ kvs, H D = some (.dK kvs) ∧ kvs.length < 64) ∧ ∀ H', Fin K H H' → Q (.bl true) H'
theorem sc_law_all_right : FnScope ["_law_ring_here", "_law_newest", "_law_members", "_law_name", "_law_due", "_law_point", "_law_home"] ["_law_ring_here", "_law_newest"] (defScope s_law_all_right) := ⟨rfl, rfl, rfl, by decide +kernel, rfl, by decide +kernel, by decide +kernel⟩
theorem ok_law_all_right (S : Say K mg base) : FnOk P w K mg base CX0 7 (He.ga K "_law_all_right") (fdO K ("_law_all_right", none)) ["_law_ring_here", "_law_newest"] (spAllR K) := by
  refine (S.F_law_all_right).ok sc_law_all_right (fun vs H Q E h => ?_) (fun cdv A outer s H vs Q E hr h => ?_)
  · obtain ⟨A, R, D, rfl, h, ar, hN, hlen, k⟩ := h
    rfl
  obtain ⟨A, R, D, rfl, h, ar, hN, hlen, k⟩ := h
  have hu := hu_of hr
  refine ⟨_, PSs.nox (pss_cons (ps_set (i := 2) sc_law_all_right.nd rfl (Or.inl rfl) (pe_meth0 (pv 0) S.c_Ring S.m_Ring_members (ok_Ring_members S) (hr.mono (by decide)) S.b_Ring_members .nil pass0))
        (pss_cons (ps_for PassesOwn.never rfl (pi_list (pv 2)) (pg_name (i := 3) sc_law_all_right.nd rfl (Or.inl rfl))
        (pss_cons (ps_if (pt_cmpR (op_neW hr.units) (pe_meth (pv 0) S.c_Ring S.m_Ring_links (ok_Ring_links S) (hr.mono (by decide)) S.b_Ring_links .nil pass0 (pa_cons (pv 3) pa_nil)) (pe_call (ok_law_links S) (hr.mono (by decide)) rfl S.g_law_links (S.F_law_links).kp S.b_law_links .nil pass0 (pa_cons (pv 0) (pa_cons (pv 2) (pa_cons (pv 3) pa_nil)))) (nomark _)) (pss_one (ps_ret pe_bl)) pss_nil)
        (pss_cons (ps_set (i := 4) sc_law_all_right.nd rfl (Or.inl rfl) (pe_lst pa_nil))
        (pss_cons (ps_for PassesOwn.never rfl (pi_list (pe_callB (call_sortedDI rfl) (by rfl) S.z_sorted (by decide +kernel) (pa_cons (pv 1) pa_nil))) (pg_name (i := 5) sc_law_all_right.nd rfl (Or.inl rfl))
        (pss_cons (ps_set (i := 6) sc_law_all_right.nd rfl (Or.inl rfl) (pe_call (ok_law_nearest S) (hr.mono (by decide)) rfl S.g_law_nearest (S.F_law_nearest).kp S.b_law_nearest .nil pass0 (pa_cons (pv 2) (pa_cons (pv 5) pa_nil))))
        (pss_one (ps_if (pt_cmpR op_in_seq (pv 3) (pe_op op_cat (pe_lst (pa_cons (pv 6) pa_nil)) (pe_call (ok_law_links S) (hr.mono (by decide)) rfl S.g_law_links (S.F_law_links).kp S.b_law_links .nil pass0 (pa_cons (pv 0) (pa_cons (pv 2) (pa_cons (pv 6) pa_nil))))) rfl) (pss_one (ps_expr (pe_bm PySem.F.plainAttrs_list PySem.F.slot_list_append PySem.F.type_list_append mt_append (pv 4) (pa_cons (pe_tup (pa_cons (pv 5) (pa_cons (pe_ix ix_tup (pe_dget hu (pv 1) (pv 5) (fun _ _ => rfl)) pe_int (fun _ _ => rfl)) (pa_cons (pe_ix ix_tup (pe_dget hu (pv 1) (pv 5) (fun _ _ => rfl)) pe_int (fun _ _ => rfl)) pa_nil)))) pa_nil)))) pss_nil))))
        (pss_one (ps_if (pt_cmpR (op_neW hr.units) (pe_meth (pv 0) S.c_Ring S.m_Ring_kept (ok_Ring_kept S) (hr.mono (by decide)) S.b_Ring_kept .nil pass0 (pa_cons (pv 3) pa_nil)) (pv 4) (nomark _)) (pss_one (ps_ret pe_bl)) pss_nil))))))
        (pss_one (ps_ret (pe_call (ok_law_near_right S) (hr.mono (by decide)) rfl S.g_law_near_right (S.F_law_near_right).kp S.b_law_near_right .nil pass0 (pa_cons (pv 0) pa_nil)))))), ?_⟩
  obtain ⟨ns, f, g, hg⟩ := hN.named
  have hnl : ns.length < 64 := by
    obtain ⟨kvs, e1, e2⟩ := hlen
    rw [hg.dict] at e1
    have e3 := HO.dK.inj (Option.some.inj e1)
    rw [← e3] at e2
    unfold kvN at e2
    rw [List.length_map] at e2
    exact e2
  refine ⟨_, rfl, A.r, A.dx, _, rfl, h.ring.ob, rfl, A, R, rfl, h, fun l H1 nl hl f1 => ?_⟩
  have h1 := h.fin f1
  have g1 := hg.fin f1
  refine ⟨_, rfl, l, rfl, ⟨_, sqL hl⟩, ?_⟩
  refine for_list (K := K) (a := l) (xs := (membersM R).map V.int) (fun i σ H2 => Fin K H1 H2 ∧ ∃ v3 v4 v5 v6, σ = [some (.ref A.r), some (.ref D), some (.ref l), v3, v4, v5, v6]) ⟨⟨fun _ _ e _ => e, f1.2⟩, none, none, none, none, rfl⟩ (fun i σ H2 _ g => sqL (g.1.1 _ _ hl fun _ z => nomatch z)) ?_ ?_
  · rintro i y σ H2 hi ⟨f2, v3, v4, v5, v6, rfl⟩
    obtain ⟨m, hm, rfl⟩ := getI hi
    have mm := membersM_mem.mp (List.mem_of_getElem? hm)
    have h2 := h1.fin f2
    refine ⟨_, rfl, A.r, A.dx, _, rfl, h2.ring.ob, rfl, _, rfl, A, R, m, rfl, h2, mm, fun q H3 nq hq f3 => ?_⟩
    have h3 := h2.fin f3
    have hl3 := (f2.trans f3).1 _ _ hl fun _ z => nomatch z
    refine ⟨_, rfl, _, rfl, _, rfl, A, R, l, m, i, rfl, h3, hl3, hm, fun q2 H4 nq2 hq2 f4 => ?_⟩
    have hq4 := f4.1 _ _ hq fun _ z => nomatch z
    rw [links_right h.ok ar hm] at hq4
    refine ⟨1, by decide, .inl ⟨_, _, _, _, rfl, rfl, .inl ⟨sqL hq4, sqL hq2⟩, pairI _⟩, _, rfl, iteF ?_⟩
    have f14 := (f2.trans f3).trans f4
    refine tnext_step ?_
    dsimp only
    refine ⟨(by show 0 ≤ sizeLine; omega), fun L hL => ?_⟩
    have f5 : Fin K H4 (upd H4 L (.lst [])) := Fin.of (same_new hL) f14.2
    have hL5 : upd H4 L (.lst []) L = some (.lst (([] : List Addr).map V.ref)) := upd_same
    revert f5 hL5
    generalize upd H4 L (.lst []) = H5
    intro f5 hL5
    have g5 := g1.fin (f14.trans f5)
    refine ⟨_, rfl, D, _, ns, rfl, .inl g5.dict, ?_, hnl, fun ys p hp hs hpn => ?_⟩
    · unfold kvN
      rw [List.map_map]
      rfl
    have f6 : Fin K H5 (upd H5 p (.lst (ys.map V.int))) := Fin.of (same_new hpn) f5.2
    have hp6 : upd H5 p (.lst (ys.map V.int)) p = some (.lst (ys.map V.int)) := upd_same
    have Lp : p ≠ L := fun e => by rw [e, hL5] at hpn; cases hpn
    have hL6 := f6.1 _ _ hL5 fun _ z => nomatch z
    revert f6 hp6 hL6
    generalize upd H5 p (.lst (ys.map V.int)) = H6
    intro f6 hp6 hL6
    have f46 := f5.trans f6
    refine ⟨p, rfl, ⟨_, sqL hp6⟩, for_list (K := K) (a := p) (xs := ys.map V.int) (fun j σ H7 => Fin K H4 H7 ∧ H7 p = some (.lst (ys.map V.int)) ∧ (∃ us : List Addr, H7 L = some (.lst (us.map V.ref)) ∧ Paired (RowAt H7) us (dueL R m g (ys.take j))) ∧ ∃ v5 v6, σ = [some (.ref A.r), some (.ref D), some (.ref l), some (.int m), some (.ref L), v5, v6]) ⟨f46, hp6, ⟨[], hL6, .nil⟩, _, _, rfl⟩ (fun j σ H7 _ g => sqL g.2.1) ?_ ?_⟩
    · rintro j y σ H7 hj ⟨f7, hp7, ⟨us, hL7, hP⟩, v5, v6, rfl⟩
      obtain ⟨pt, hpt, rfl⟩ := getI hj
      have hpn2 : pt ∈ ns := hp.mem_iff.mp (List.mem_of_getElem? hpt)
      obtain ⟨i1, i2, _⟩ := g5.item pt hpn2
      have rng := due_rng h.ok ar i1
      rw [i2] at rng
      have f17 := f14.trans f7
      have h7 := h1.fin f17
      have hl7 := f17.1 _ _ hl fun _ z => nomatch z
      refine ⟨_, rfl, _, rfl, l, membersM R, pt, rfl, f7.2, hl7, members_ne h.ok, by have := members_len64 h.ok; omega, fun H8 f8 => ?_⟩
      rw [nearL_near h.ok rng]
      have hh := (near_is (p := pt) h.ok).mem
      have ed : dueM R pt = nearest R.bits R.names pt :: (R.node (nearest R.bits R.names pt)).chain := rfl
      revert ed hh
      generalize nearest R.bits R.names pt = home
      intro hh ed
      obtain ⟨jh, hjh⟩ := List.mem_iff_getElem?.mp (membersM_mem.mpr hh)
      rw [links_right h.ok ar hjh] at ed
      refine gname_step ?_
      dsimp only
      have h8 := h7.fin f8
      have f48 := f7.trans f8
      refine ⟨_, rfl, _, rfl, (by show 1 ≤ sizeLine; decide), fun c hc => ?_⟩
      have f9 : Fin K H8 (upd H8 c (.lst [.int home])) := Fin.of (same_new hc) f8.2
      have hc9 : upd H8 c (.lst [.int home]) c = some (.lst [.int home]) := upd_same
      revert f9 hc9
      generalize upd H8 c (.lst [.int home]) = H9
      intro f9 hc9
      have h9 := h8.fin f9
      have f49 := f48.trans f9
      have hl9 := (f14.trans f49).1 _ _ hl fun _ z => nomatch z
      refine ⟨_, rfl, _, rfl, _, rfl, A, R, l, home, jh, rfl, h9, hl9, hjh, fun q3 H10 nq3 hq3 f10 => ?_⟩
      have hc10 := f10.1 _ _ hc9 fun _ z => nomatch z
      have hll : (linksL R jh).length ≤ 4 := by
        unfold linksL
        rw [List.length_map, List.length_range]
        exact h.ok.many.2
      refine ⟨c, q3, _, _, rfl, rfl, hc10, hq3, szI (by rw [List.length_map]; show 1 + (linksL R jh).length ≤ 1000; omega), fun r hr => ?_⟩
      have f11 : Fin K H10 (upd H10 r (.lst ([.int home] ++ (linksL R jh).map V.int))) := Fin.of (same_new hr) f10.2
      have hr11 : upd H10 r (.lst ([.int home] ++ (linksL R jh).map V.int)) r = some (.lst ((home :: linksL R jh).map V.int)) := upd_same
      revert f11 hr11
      generalize upd H10 r (.lst ([.int home] ++ (linksL R jh).map V.int)) = H11
      intro f11 hr11
      have f411 := (f49.trans f10).trans f11
      have f711 := ((f8.trans f9).trans f10).trans f11
      have hL11 := f711.1 _ _ hL7 fun _ z => nomatch z
      have hp11 := f711.1 _ _ hp7 fun _ z => nomatch z
      have hP11 := paired_mono (F := RowAt H7) (G := RowAt H11) (fun x y z => f711.1 x _ z fun _ z => nomatch z) hP
      have g11 := g1.fin (f14.trans f411)
      refine ⟨r, _, rfl, .inl (sqL hr11), rfl, flatI _, _, rfl, ?_⟩
      rw [if_neg (by decide), inI, ← ed]
      have tk : dueL R m g (ys.take (j + 1)) = dueL R m g (ys.take j) ++ dueL R m g [pt] := by
        unfold dueL
        rw [take_one hpt, List.filter_append, List.map_append]
      by_cases cd : m ∈ dueM R pt
      · rw [decide_eq_true cd]
        have e1 : dueL R m g [pt] = [g pt] := by
          unfold dueL
          simp [cd]
        rw [e1] at tk
        obtain ⟨j1, j2, j3⟩ := g11.item pt hpn2
        have dg : DGet H11 D (.int pt) (some (V.ref (f pt))) := by
          have z : DGet H11 D (.int pt) (valV (kvN ns f) (Sum.inl pt : Key)) := .inl ⟨_, (Sum.inl pt : Key), .inl g11.dict, rfl, rfl⟩
          rw [valV_kvN, if_pos hpn2] at z
          exact z
        refine iteT ⟨_, rfl, .inl ⟨rfl, _, sqL hL11⟩, _, rfl, _, rfl, _, rfl, D, _, rfl, dg, f pt, _, 0, _, rfl, rfl, sqT j3, rfl, _, rfl, _, rfl, D, _, rfl, dg, f pt, _, 1, _, rfl, rfl, sqT j3, rfl, (by show 3 ≤ sizeLine; decide), fun u hu => ?_⟩
        have uL : L ≠ u := fun e => by rw [← e, hL11] at hu; cases hu
        have pu : p ≠ u := fun e => by rw [← e, hp11] at hu; cases hu
        refine ⟨L, _, _, rfl, rfl, by rw [upd_ne uL]; exact hL11, szL ?_, ?_⟩
        · rw [List.length_map, paired_len hP11]
          unfold dueL
          rw [List.length_map]
          have z1 := List.length_filter_le (fun p => decide (m ∈ dueM R p)) (ys.take j)
          rw [List.length_take] at z1
          have z2 := hp.length_eq
          omega
        refine ⟨⟨fun b o z1 z2 => ?_, ?_⟩, ?_, ⟨us ++ [u], ?_, ?_⟩, _, _, rfl⟩
        · rw [upd_ne (ne_of_none z1 hL), upd_ne (ne_of_none (f411.1 b o z1 z2) hu)]
          exact f411.1 b o z1 z2
        · exact tabs_upd (H := upd H11 u _) (o := .lst (us.map V.ref)) (Fin.of (same_new hu) f11.2).2 (by rw [upd_ne uL]; exact hL11) rfl
        · rw [upd_ne Lp, upd_ne pu]
          exact hp11
        · rw [upd_same, List.map_append]
          rfl
        · rw [tk]
          refine paired_snoc ?_ (paired_mono (fun x y z => ?_) hP11)
          · show upd (upd H11 u _) L _ u = _
            rw [upd_ne (Ne.symm uL), upd_same, j2]
          · have z' : H11 x = some (.tup [.int y.1, .int y.2.1, oT y.2.2]) := z
            show upd (upd H11 u _) L _ x = _
            rw [upd_ne (ne_of z' hL11 fun z => nomatch z), upd_ne (ne_of_none z' hu)]
            exact z'
      · rw [decide_eq_false cd]
        have e1 : dueL R m g [pt] = [] := by
          unfold dueL
          simp [cd]
        rw [e1, List.append_nil] at tk
        refine iteF ⟨f411, hp11, ⟨us, hL11, by rw [tk]; exact hP11⟩, _, _, rfl⟩
    · rintro σ H7 ⟨f7, hp7, ⟨us, hL7, hP⟩, v5, v6, rfl⟩
      rw [List.length_map, List.take_length, ← due_kept h.ok ar hg mm hp hs] at hP
      have h7 := h1.fin (f14.trans f7)
      dsimp only
      refine ⟨_, rfl, A.r, A.dx, _, rfl, h7.ring.ob, rfl, _, rfl, A, R, m, rfl, h7, mm, fun q4 H8 nq4 hq4' f8 => ?_⟩
      obtain ⟨vs, hv1, hv2⟩ := hq4'
      have hL8 := f8.1 _ _ hL7 fun _ z => nomatch z
      have hP8 := paired_mono (F := RowAt H7) (G := RowAt H8) (fun x y z => f8.1 x _ z fun _ z => nomatch z) hP
      refine ⟨_, rfl, 2, by decide, .inl ⟨_, _, _, _, rfl, rfl, .inl ⟨sqL hv1, sqL hL8⟩, paired_rows hv2 hP8⟩, _, rfl, iteF ?_⟩
      exact ⟨(f14.trans f7).trans f8, _, _, _, _, rfl⟩
  · rintro σ H2 ⟨f2, v3, v4, v5, v6, rfl⟩
    have h2 := h1.fin f2
    exact ⟨_, rfl, A, R, rfl, h2, ⟨ar.rt.next, ar.rt.prior, ar.far⟩, fun H3 f3 => k H3 ((f1.trans f2).trans f3)⟩
end
end Nn
set_option Elab.async false
set_option linter.all false
set_option maxRecDepth 100000
set_option maxHeartbeats 1000000
namespace Nn
open PySem PySem.Spec PyProof.Rows L2 LamX KeyL
/-! ### a dict without a role is locked -/
theorem At.lock {K : PySem.W.Frag} {H : Hp} {A : RA} {R : RingS} {D : Addr} {kvs : List (Key × V)} {o : HO} (h : At K H A R) (r : A.ρ D = none) (hD : H D = some (.dK kvs)) : At K (upd H D o) A R := by
  refine ⟨h.ring.keep (fun b ro o hb e => ?_) fun b zs e => ?_, h.ok, tabs_upd h.tabs hD rfl⟩
  · rw [upd_ne fun c => by rw [c, r] at hb; cases hb]
    exact e
  · rw [upd_ne (ne_of e hD fun z => nomatch z)]
    exact e
theorem holders_right {R : RingS} (ho : Ok R) (a : AllRight R) {t : Thing} (h : IsNew R t) {via : Int} (hv : via ∈ R.names) : ∀ m ∈ holdersM R t.1 via, itm R m t.1 = some t := fun m hm => by
  have rng := due_rng ho a h
  have hmem := holdersM_mem ho rng hv m hm
  have hd : m ∈ dueM R t.1 := by
    unfold holdersM at hm
    rw [ans_near ho a.rt.next rng hv] at hm
    rcases List.mem_cons.mp hm with e | e
    · rw [e]; exact List.mem_cons_self ..
    · exact List.mem_cons_of_mem _ (List.mem_filter.mp e).1
  exact getT_of (ho.keys m hmem) ((a.things m hmem t).mpr ⟨h, hd⟩)
/-- what is got, and what is due: a text, or a tuple -/
def GotV (H : Hp) (p : Int) (x : Option Str) (v : V) : Prop := (∃ y, x = some y ∧ v = .str y) ∨ (x = none ∧ ∃ u, v = .ref u ∧ H u = some (.tup [.str "none", .int p]))
theorem GotV.ext {H H' : Hp} {p : Int} {x : Option Str} {v : V} (e : ∀ b xs, H b = some (.tup xs) → H' b = some (.tup xs)) (h : GotV H p x v) : GotV H' p x v :=
  h.imp id fun ⟨h1, u, h2, h3⟩ => ⟨h1, u, h2, e _ _ h3⟩
theorem got_eq {K : PySem.W.Frag} {H : Hp} {p : Int} {x : Option Str} {v v' : V} (h : GotV H p x v) (h' : GotV H p x v') : EqW K H 2 v v' := by
  rcases h with ⟨y, rfl, rfl⟩ | ⟨rfl, u, rfl, hu⟩
  · rcases h' with ⟨z, e, rfl⟩ | ⟨e, _⟩
    · cases e
      exact .inl ⟨rfl, rfl⟩
    · cases e
  · rcases h' with ⟨z, e, _⟩ | ⟨_, u', rfl, hu'⟩
    · cases e
    · exact .inr (.inr ⟨_, _, _, _, rfl, rfl, .inr ⟨sqT hu, sqT hu'⟩, .cons (.inl ⟨rfl, rfl⟩) (.cons (.inl ⟨rfl, rfl⟩) .nil)⟩)
theorem got_all {K : PySem.W.Frag} {H : Hp} {p : Int} {x : Option Str} {v' : V} (h' : GotV H p x v') : ∀ {vs : List V}, (∀ v ∈ vs, GotV H p x v) → Paired (EqW K H 2) vs (List.replicate vs.length v')
  | [], _ => .nil
  | v :: vs, h => .cons (got_eq (h v (List.mem_cons_self ..)) h') (got_all h' fun w hw => h w (List.mem_cons_of_mem _ hw))
section
variable {P : Program} {w : World} {K : PySem.W.Frag} {mg : Str → Option Value} {base : Heap}
def spLaw (K : PySem.W.Frag) : Sp := fun vs H Q _ => ∃ (a : Addr) (xs : List Int), vs = [.ref a] ∧ Tabs (tabT K) H ∧ SqL K H a (xs.map V.int) ∧ xs.length ≤ 63 ∧ ∀ H', Q (.bl true) H'
theorem sc_law : FnScope ["_law_script", "_law_ring_here", "_law_newest", "_law_pot_here", "_law_turn", "_law_point", "_law_due", "_law_asker"] ["_law_script"] (defScope s_law) := ⟨rfl, rfl, rfl, by decide +kernel, rfl, by decide +kernel, by decide +kernel⟩
theorem ok_law (S : Say K mg base) : FnOk P w K mg base CX0 20 (He.ga K "law") (fdO K ("law", none)) ["_law_script"] (spLaw K) := by
  refine (S.F_law).ok sc_law (fun vs H Q E h => ?_) (fun cdv A outer s H vs Q E hr h => ?_)
  · obtain ⟨a, xs, rfl, ht, hs, hx, k⟩ := h
    rfl
  obtain ⟨a, xs, rfl, ht, hs, hx, k⟩ := h
  have hu := hu_of hr
  refine ⟨_, PSs.nox (pss_cons (ps_asg (pe_call (ok_law_history S) (hr.mono (by decide)) rfl S.g_law_history (S.F_law_history).kp S.b_law_history .nil pass0 (pa_cons (pv 0) (pa_cons pe_int pa_nil))) (pg_tupK (K := K) (n := 2) rfl rfl (pgs_cons (pg_name (i := 1) sc_law.nd rfl (Or.inr rfl)) (pgs_cons (pg_name (i := 2) sc_law.nd rfl (Or.inl rfl) (Or.inr rfl)) pgs_nil))))
        (pss_cons (ps_set (i := 3) sc_law.nd rfl (Or.inl rfl) (pe_call (ok_law_orders S) (hr.mono (by decide)) rfl S.g_law_orders (S.F_law_orders).kp S.b_law_orders .nil pass0 (pa_cons (pv 0) (pa_cons pe_int pa_nil))))
        (pss_cons (ps_for PassesOwn.never rfl (pi_range1 rfl S.z_range (pa_cons (pe_op op_add (pe_call (ok_law_most S) (hr.mono (by decide)) rfl S.g_law_most (S.F_law_most).kp S.b_law_most .nil pass0 (pa_cons (pv 1) pa_nil)) (pe_meth0 (pv 1) S.c_Ring S.m_Ring_length (ok_Ring_length S) (hr.mono (by decide)) S.b_Ring_length .nil pass0)) pa_nil)) (pg_name (i := 4) sc_law.nd rfl (Or.inl rfl))
        (pss_one (ps_expr (pe_callN (ok_mend S) (hr.mono (by decide)) rfl S.g_mend (S.F_mend).kp S.kb_mend pass0 (pa_cons (pv 1) pa_nil) (pk_cons (pe_call (ok_law_mixed S) (hr.mono (by decide)) rfl S.g_law_mixed (S.F_law_mixed).kp S.b_law_mixed .nil pass0 (pa_cons (pv 3) (pa_cons (pe_meth0 (pv 1) S.c_Ring S.m_Ring_members (ok_Ring_members S) (hr.mono (by decide)) S.b_Ring_members .nil pass0) pa_nil))) pk_nil)))))
        (pss_cons (ps_if (pt_not (pt_val (pe_call (ok_law_all_right S) (hr.mono (by decide)) rfl S.g_law_all_right (S.F_law_all_right).kp S.b_law_all_right .nil pass0 (pa_cons (pv 1) (pa_cons (pv 2) pa_nil))))) (pss_one (ps_ret pe_bl)) pss_nil)
        (pss_cons (ps_lock (ps_for PassesOwn.never rfl (pi_keys (pv 2)) (pg_name (i := 5) sc_law.nd rfl (Or.inr rfl))
        (pss_cons (ps_set (i := 6) sc_law.nd rfl (Or.inl rfl) (pe_ifExp (pt_cmpR op_isN (pe_ix ix_tup (pe_dget hu (pv 2) (pv 5) (fun _ _ => rfl)) pe_int (fun _ _ => rfl)) pe_non (nomark _)) (pe_tup (pa_cons pe_str (pa_cons (pv 5) pa_nil))) (pe_ix ix_tup (pe_dget hu (pv 2) (pv 5) (fun _ _ => rfl)) pe_int (fun _ _ => rfl))))
        (pss_one (ps_if (pt_cmpR (op_neW hr.units) (pe_lc (own := [("_law_asker", 7)]) rfl sc_law.nd (pi_list (pe_meth0 (pv 1) S.c_Ring S.m_Ring_members (ok_Ring_members S) (hr.mono (by decide)) S.b_Ring_members .nil pass0)) (blkOk_by (own := [("_law_asker", 7)]) (N := ["_law_script", "_law_ring_here", "_law_newest", "_law_pot_here", "_law_turn", "_law_point", "_law_due", "_law_asker"]) (sc := defScope s_law) (by decide +kernel)) (fun _ _ _ _ _ => (pg_name (i := 7) sc_law.nd rfl (Or.inl rfl))) (fun _ _ _ _ _ => pts_nil) (fun _ _ _ _ _ => (pe_call (ok_law_got S) (hr.mono (by decide)) rfl S.g_law_got (S.F_law_got).kp S.b_law_got .nil pass0 (pa_cons (pv 1) (pa_cons (pv 5) (pa_cons (pv 7) pa_nil)))))) (pe_op op_rep (pe_lst (pa_cons (pv 6) pa_nil)) (pe_callB call_len_seq (by rfl) S.z_len (by decide +kernel) (pa_cons (pe_meth0 (pv 1) S.c_Ring S.m_Ring_members (ok_Ring_members S) (hr.mono (by decide)) S.b_Ring_members .nil pass0) pa_nil))) (nomark _)) (pss_one (ps_ret pe_bl)) pss_nil)))))
        (pss_one (ps_ret pe_bl))))))), ?_⟩
  refine ⟨_, rfl, a, xs, 17, rfl, ht, hs, hx, by decide, fun t D c H1 A R b ht1 hc t1 hh hN => ?_⟩
  refine ⟨t, _, rfl, sqT ht1, rfl, _, _, rfl, _, _, rfl, rfl, ?_⟩
  refine ⟨_, rfl, a, xs, 17, rfl, t1.at_.tabs, t1.scr.sq, fun H' f => sqL_fin t1.scr.sq f, hx, by decide, fun q H2 nq pq f2 => ?_⟩
  have h2 := t1.at_.fin f2
  have rq := noRole t1.at_.ring nq
  have gd := t1.good.done
  have hmany := h2.ok.many
  have hN2 : News H2 D R := hN.keep rfl (fun ks e => f2.1 _ _ e fun _ z => nomatch z) fun b xs e => f2.1 _ _ e fun _ z => nomatch z
  have Dq : D ≠ q := fun e => by
    obtain ⟨kvs, e1, _⟩ := t1.dict
    exact nq D _ e1 (fun _ z => nomatch z) e
  refine ⟨_, rfl, A, R, rfl, h2, fun g H3 g0 g1 hg f3 => ⟨_, rfl, A.r, A.dx, _, rfl, (h2.fin f3).ring.ob, rfl, A, R, rfl, (h2.fin f3).ring, _, _, rfl, rfl, _, rfl, by omega, by omega, ?_⟩⟩
  have h3 := h2.fin f3
  have p3 := pq.fin f3
  have hN3 : News H3 D R := hN2.keep rfl (fun ks e => f3.1 _ _ e fun _ z => nomatch z) fun b xs e => f3.1 _ _ e fun _ z => nomatch z
  have hgN : ∀ n ∈ R.names, gapA R n ≤ g.toNat + 1 := fun n hn => by have := hg n hn; omega
  have m0 : Rnd g.toNat 0 R R := Rnd.zero _ hmany.1 t1.good.sound hh
  have eN : (g + (R.many : Int)).toNat = g.toNat + R.many := by omega
  have hkv : ∃ kvs, H3 D = some (.dK kvs) ∧ kvs.length < 64 := by
    obtain ⟨kvs, e1, e2⟩ := t1.dict
    exact ⟨kvs, f3.1 _ _ (f2.1 _ _ e1 fun _ z => nomatch z) (fun _ z => nomatch z), by omega⟩
  obtain ⟨kvs, hkv1, hkv2⟩ := hkv
  refine for_it walk_range (fun i σ H4 => ∃ (A4 : RA) (R4 : RingS) (v : Option V), σ = [some (.ref a), some (.ref A.r), some (.ref D), some (.ref q), v, none, none, none] ∧ At K H4 A4 R4 ∧ A4.r = A.r ∧ Rnd g.toNat i R R4 ∧ PotAt H4 q ∧ A4.ρ q = none ∧ News H4 D R4 ∧ A4.ρ D = none ∧ H4 D = some (.dK kvs)) ⟨A, R, none, rfl, h3, rfl, m0, p3, rq, hN3, t1.rD, hkv1⟩ (fun _ _ _ _ _ => True.intro) ?_ ?_
  · rintro i z σ H4 H4' hi ⟨A4, R4, v, rfl, h4, er, m4, p4, r4, n4, d4, k4⟩ ⟨rfl, rfl⟩
    have hd4 := m4.done
    refine gname_step ?_
    dsimp only
    refine ⟨_, rfl, _, rfl, _, rfl, A4.r, A4.dx, _, by rw [er], h4.ring.ob, rfl, A4, R4, by rw [er]; rfl, h4, fun l H6 nl hl f6 => ?_⟩
    have h6 := h4.fin f6
    have p6 := p4.fin f6
    have lq : l ≠ q := fun e => by
      obtain ⟨x0, y0, hqq⟩ := p4
      exact nl q _ hqq (fun _ z => nomatch z) e.symm
    refine ⟨q, l, membersM R4, rfl, f6.2, p6, lq, hl, by rw [membersM_len]; exact h4.ok.few, fun r ms H7 hp nr hr p7 => ?_⟩
    have h7 := h6.pot p6 r4 p7
    have hp' := hp.trans (membersM_perm R4)
    refine ⟨rfl, rfl, A4, R4, .ref r, ms, by rw [er]; rfl, h7, .inr ⟨r, rfl, hr, hp'⟩, by omega, fun H8 A8 h8 f8 => ?_⟩
    have tq : ∀ b xs, H6 b = some (.tup xs) → b ≠ q := fun b xs e c => by
      obtain ⟨x0, y0, hqq⟩ := p6
      rw [c, hqq] at e
      cases e
    have k7 := p7.1 _ _ (f6.1 _ _ k4 fun _ z => nomatch z) (fun _ z => nomatch z) Dq
    obtain ⟨k8, d8⟩ := f8.off _ _ k7 (fun _ z => nomatch z) d4
    obtain ⟨x0, y0, hq7⟩ := p7.2.1
    obtain ⟨q8, r8⟩ := f8.off _ _ hq7 (fun _ z => nomatch z) r4
    refine ⟨A8, _, _, rfl, h8, f8.r.trans er, m4.step h4.ok hgN hp' h8.ok, ⟨x0, y0, q8⟩, r8, n4.keep (mendM_names R4 ms).2.2.2.2.1 (fun ks e => by rw [k4] at e; rw [← Option.some.inj e]; exact k8) fun b xs e => f8.tup _ _ (p7.1 b _ (f6.1 _ _ e fun _ z => nomatch z) (fun _ z => nomatch z) (tq b xs (f6.1 _ _ e fun _ z => nomatch z))), d8, k8⟩
  · rintro σ H4 ⟨A4, R4, v, rfl, h4, er, m4, p4, r4, n4, d4, k4⟩
    rw [eN] at m4
    have ar := m4.right (by rw [m4.many]; omega)
    dsimp only
    refine ⟨_, rfl, _, rfl, A4, R4, D, by rw [er]; rfl, h4, ar, n4, ⟨kvs, k4, hkv2⟩, fun H5 f5 => ?_⟩
    refine ⟨_, rfl, iteF ?_⟩
    refine tnext_step ?_
    dsimp only
    have h5 := h4.fin f5
    have n5 : News H5 D R4 := n4.keep rfl (fun ks e => f5.1 _ _ e fun _ z => nomatch z) fun b xs e => f5.1 _ _ e fun _ z => nomatch z
    obtain ⟨ns, f, gg, hg5⟩ := n5.named
    refine ⟨D, _, hg5.dict, True.intro, fun od => ⟨_, rfl, D, od, rfl, .inl ⟨_, upd_same, ?_⟩⟩⟩
    have h6 : At K (upd H5 D (.frz od (.dK (kvN ns f)))) A4 R4 := h5.lock d4 hg5.dict
    have hD6 : upd H5 D (.frz od (.dK (kvN ns f))) D = some (.frz od (.dK (kvN ns f))) := upd_same
    have it6 : ∀ p ∈ ns, upd H5 D (.frz od (.dK (kvN ns f))) (f p) = some (.tup [.int (gg p).2.1, oT (gg p).2.2]) := fun p hp => by
      have z := (hg5.item p hp).2.2
      rw [upd_ne (ne_of z hg5.dict fun z => nomatch z)]
      exact z
    revert h6 hD6 it6
    generalize upd H5 D (.frz od (.dK (kvN ns f))) = H6
    intro h6 hD6 it6
    refine for_it walk_keys (fun i σ H7 => Fin K H6 H7 ∧ ∃ v5 v6 v7, σ = [some (.ref a), some (.ref A.r), some (.ref D), some (.ref q), v, v5, v6, v7]) ⟨⟨fun _ _ e _ => e, h6.tabs⟩, none, none, none, rfl⟩ (fun i σ H7 _ g => g.1.1 _ _ hD6 fun _ z => nomatch z) ?_ ?_
    · rintro i y σ H70 H7 hi ⟨f7, v5, v6, v7, rfl⟩ ⟨rfl, key, val, hx, rfl⟩
      obtain ⟨pt, hpt, rfl⟩ := getKv hx
      have hpn := List.mem_of_getElem? hpt
      obtain ⟨i1, i2, _⟩ := hg5.item pt hpn
      have ht7 := f7.1 _ _ (it6 pt hpn) fun _ z => nomatch z
      have hD7 := f7.1 _ _ hD6 fun _ z => nomatch z
      have h7 := h6.fin f7
      have rng := due_rng h4.ok ar i1
      have dg : DGet H7 D (.int pt) (some (V.ref (f pt))) := by
        have z : DGet H7 D (.int pt) (valV (kvN ns f) (Sum.inl pt : Key)) := .inl ⟨_, (Sum.inl pt : Key), .inr ⟨od, hD7⟩, rfl, rfl⟩
        rw [valV_kvN, if_pos hpn] at z
        exact z
      refine gname_step ?_
      dsimp only
      refine seq_set (fun v H' => Fin K H7 H' ∧ GotV H' pt (gg pt).2.2 v) (fun Q' hQ => ?_) fun dv H8 hG => ?_
      · refine ⟨_, rfl, _, rfl, D, _, rfl, dg, f pt, _, 1, _, rfl, rfl, sqT ht7, rfl, rfl, _, rfl, ?_⟩
        cases e : (gg pt).2.2 with
        | none => exact iteT ⟨_, rfl, (by show 2 ≤ sizeLine; decide), fun u hu => hQ _ _ ⟨Fin.of (same_new hu) f7.2, .inr ⟨e, u, rfl, upd_same⟩⟩⟩
        | some x =>
          rw [e] at ht7
          exact iteF ⟨_, rfl, _, rfl, D, _, rfl, dg, f pt, _, 1, _, rfl, rfl, sqT ht7, rfl, hQ _ _ ⟨⟨fun _ _ e _ => e, f7.2⟩, .inl ⟨x, e, rfl⟩⟩⟩
      obtain ⟨f8, hdv⟩ := hG
      have h8 := h7.fin f8
      refine ⟨_, rfl, A4.r, A4.dx, _, by rw [er], h8.ring.ob, rfl, A4, R4, by rw [er]; rfl, h8, fun l H9 nl hl f9 => ⟨l, rfl, ⟨_, sqL hl⟩, fun E0 hE => ?_⟩⟩
      have h9 := h8.fin f9
      refine lc_list (K := K) (a := l) (xs := (membersM R4).map V.int) (fun j H10 => Fin K H9 H10 ∧ ∃ vs : List V, H10 E0 = some (.lst vs) ∧ vs.length = j ∧ ∀ v ∈ vs, GotV H10 pt (gg pt).2.2 v) ⟨Fin.of (same_new hE) f9.2, [], upd_same, rfl, fun v hv => absurd hv (by simp)⟩ (fun j H10 _ g => sqL (g.1.1 _ _ hl fun _ z => nomatch z)) ?_ ?_
      · rintro j y H10 hj ⟨f10, vs, hE10, hlv, hvs⟩
        obtain ⟨via, hvia, rfl⟩ := getI hj
        have hv := membersM_mem.mp (List.mem_of_getElem? hvia)
        have hjl : j < (membersM R4).length := (List.getElem?_eq_some_iff.mp hvia).1
        have hl64 := members_len64 h4.ok
        have h10 := h9.fin f10
        have hold := holders_right h4.ok ar i1 hv
        rw [i2] at hold rng
        have fin : ∀ (w0 : V) (H11 : Hp), Fin K H10 H11 → GotV H11 pt (gg pt).2.2 w0 → ∃ acc, H11 E0 = some (.lst acc) ∧ acc.length < sizeLine ∧ Fin K H9 (upd H11 E0 (.lst (acc ++ [w0]))) ∧ ∃ vs : List V, upd H11 E0 (.lst (acc ++ [w0])) E0 = some (.lst vs) ∧ vs.length = j + 1 ∧ ∀ v ∈ vs, GotV (upd H11 E0 (.lst (acc ++ [w0]))) pt (gg pt).2.2 v := fun w0 H11 f11 hw => by
          have hE11 := f11.1 _ _ hE10 fun _ z => nomatch z
          have f911 := f10.trans f11
          have tp : ∀ b xs, H11 b = some (.tup xs) → upd H11 E0 (.lst (vs ++ [w0])) b = some (.tup xs) := fun b xs e => by rw [upd_ne (ne_of e hE11 fun z => nomatch z)]; exact e
          refine ⟨vs, hE11, szL (by omega), ⟨fun b o e1 e2 => ?_, tabs_upd f911.2 hE11 rfl⟩, vs ++ [w0], upd_same, by rw [List.length_append, List.length_singleton, hlv], fun v hv => ?_⟩
          · rw [upd_ne (ne_of_none e1 hE)]
            exact f911.1 b o e1 e2
          · rcases List.mem_append.mp hv with z | z
            · exact ((hvs v z).ext fun b xs e => f11.1 _ _ e fun _ z => nomatch z).ext tp
            · rw [List.mem_singleton.mp z]
              exact hw.ext tp
        exact ⟨rfl, _, rfl, _, rfl, _, rfl, A4, R4, pt, via, gg pt, by rw [er]; rfl, h10, hv, rng, i2, i1.1.1, hold, fun x H11 e f11 => fin _ H11 f11 (.inl ⟨x, e, rfl⟩), fun e u H11 hu f11 => fin _ H11 f11 (.inr ⟨e, u, rfl, hu⟩)⟩
      · rintro H10 ⟨f10, vs, hE10, hlv, hvs⟩
        rw [List.length_map] at hlv
        have hl64 := members_len64 h4.ok
        refine ⟨_, rfl, (by show 1 ≤ sizeLine; decide), fun c hc => ?_⟩
        have f11 : Fin K H10 (upd H10 c (.lst [dv])) := Fin.of (same_new hc) f10.2
        have hc11 : upd H10 c (.lst [dv]) c = some (.lst [dv]) := upd_same
        revert f11 hc11
        generalize upd H10 c (.lst [dv]) = H11
        intro f11 hc11
        have h11 := (h9.fin f10).fin f11
        refine ⟨_, rfl, A4.r, A4.dx, _, by rw [er], h11.ring.ob, rfl, A4, R4, by rw [er]; rfl, h11, fun l2 H12 nl2 hl2 f12 => ?_⟩
        have hc12 := f12.1 _ _ hc11 fun _ z => nomatch z
        refine ⟨l2, _, rfl, .inl (sqL hl2), c, _, _, rfl, rfl, hc12, Int.le_trans (by decide) (Int.natCast_nonneg _), Int.lt_of_le_of_lt (b := 64) (by rw [List.length_map]; omega) (by decide), szI (by rw [List.length_map, Int.toNat_natCast]; show 1 * (membersM R4).length ≤ 1000; omega), fun r hr => ?_⟩
        have er2 : (List.replicate ((((membersM R4).map V.int).length : Nat) : Int).toNat [dv]).flatten = List.replicate vs.length dv := by
          rw [List.length_map, Int.toNat_natCast, hlv, List.flatten_replicate_singleton]
        rw [er2]
        have f13 : Fin K H12 (upd H12 r (.lst (List.replicate vs.length dv))) := Fin.of (same_new hr) f12.2
        have hr13 : upd H12 r (.lst (List.replicate vs.length dv)) r = some (.lst (List.replicate vs.length dv)) := upd_same
        revert f13 hr13
        generalize upd H12 r (.lst (List.replicate vs.length dv)) = H13
        intro f13 hr13
        have f1013 := (f11.trans f12).trans f13
        have f813 := (f9.trans f10).trans f1013
        have hE13 := f1013.1 _ _ hE10 fun _ z => nomatch z
        refine ⟨2, by decide, .inl ⟨E0, r, vs, _, rfl, rfl, .inl ⟨sqL hE13, sqL hr13⟩, got_all (hdv.ext fun b xs e => f813.1 _ _ e fun _ z => nomatch z) fun v hv => (hvs v hv).ext fun b xs e => f1013.1 _ _ e fun _ z => nomatch z⟩, _, rfl, iteF ?_⟩
        exact ⟨(f7.trans f8).trans f813, _, _, _, rfl⟩
    · rintro σ H7 ⟨f7, v5, v6, v7, rfl⟩
      exact ⟨f7.1 _ _ hD6 (fun _ z => nomatch z), k _⟩
end
end Nn
set_option Elab.async false
set_option linter.all false
set_option maxRecDepth 100000
set_option maxHeartbeats 1000000
namespace Nn
open PySem PySem.Spec PyProof.Rows L2 LamX KeyL
/-! ### the end -/
theorem say_of {w : World} {K : PySem.W.Frag} {h base : Heap} {mg : Str → Option Value} (X : K.In h) (G : h.Ns mainGlobals mg) (c : He.SaysX fa fn [] tf exC w h K) (hb : ∀ p ∈ tf.map (He.cT K), TabB base mg p.1 p.2) : Say K mg base where
  fact := fun i f e => c.t.d.fact i e
  def_ := fun i d e => by
    obtain ⟨fd, F⟩ := c.t.d.def_ i e
    have e2 : fdO K d.at_ = fd := by
      obtain ⟨oc, od, dV, kV, doc, pm, an, cdv, ct, osl, _, lk, _⟩ := F.ex
      unfold fdO
      rw [lk]
    rw [e2]
    exact F
  ex := (He.ba c.more).1
  ne := (He.ba c.more).2
  kin := ⟨h, X, G⟩
  tab := fun p hp => hb _ (List.mem_map.mpr ⟨p, hp, rfl⟩)
theorem tabT_fst (K : PySem.W.Frag) : (tabT K).map (·.1) = tf.map fun d => (He.cT K d).2 := rfl
theorem tabs_of {K : PySem.W.Frag} {H : Hp} (h : ∀ p ∈ tf.map (He.cT K), H p.2 = some (.tbl #[])) : Tabs (tabT K) H := fun p hp => by
  have z : p.1 ∈ (tabT K).map (·.1) := List.mem_map.mpr ⟨p, hp, rfl⟩
  rw [tabT_fst] at z
  obtain ⟨d, hd, e⟩ := List.mem_map.mp z
  exact TabS.nil (by rw [← e]; exact h _ (List.mem_map.mpr ⟨d, hd, rfl⟩))
theorem law_at {w : World} {K : PySem.W.Frag} {h : Heap} {mg : Str → Option Value} {f : Addr} (X : K.In h) (G : h.Ns mainGlobals mg) (hf : mg ("law" : Str) = some (.ref f)) (c : He.SaysX fa fn [] tf exC w h K) : LawAtS PySem.Challenge.rw_nearestname_k75_whole_all_right w K CX0 20 63 "_law_script" mg f h := by
  have gl : mg "law" = some (.ref (He.ga K "law")) := He.glo_ok X G (c.t.d.fact 88 (f := .glo "law") rfl)
  have ef : f = He.ga K "law" := by
    rw [hf] at gl
    exact Value.ref.inj (Option.some.inj gl)
  subst ef
  refine ⟨fdO K ("law", none), tf.map (He.cT K), spLaw K, ?_, ?_, ?_, ?_, fun H a ns hl _ hT hS => ⟨a, ns, rfl, tabs_of hT, hS, hl, fun _ => rfl⟩, fun base hK hns hTB => ok_law (say_of X G c hTB)⟩
  · intro p hp
    obtain ⟨d, hd, rfl⟩ := List.mem_map.mp hp
    exact c.empty d hd
  · intro p hp
    obtain ⟨d, hd, rfl⟩ := List.mem_map.mp hp
    exact c.out d hd
  · intro p hp
    obtain ⟨d, hd, rfl⟩ := List.mem_map.mp hp
    exact PySem.W.codeHd_of_K X (c.hd d hd)
  · obtain ⟨ix, hix⟩ : ∃ ix, fn[ix]? = some d_law := by
      have z : d_law ∈ fn := by simp [fn, fn0, fn1, fn2, fn3]
      exact List.mem_iff_getElem?.mp z
    obtain ⟨fd, F⟩ := c.t.d.def_ ix hix
    have e2 : fdO K ("law", none) = fd := by
      obtain ⟨oc, od, dV, kV, doc, pm, an, cdv, ct, osl, _, lk, _⟩ := F.ex
      unfold fdO
      have lk' : K.lookup (He.fAd K ("law", none)) = _ := lk
      rw [lk']
    rw [e2]
    have b := FunD.bindsA (ps := ["_law_script"]) F fun _ _ _ _ _ _ us hl => match us, hl with | [_], _ => rfl
    exact fun s v => b s [v] rfl
end Nn
open PySem PySem.W PySem.Calls PyProof.Rows
theorem PySem.Challenge.cw_nearestname_k75_whole_all_right_holds : PySem.Challenge.rw_nearestname_k75_whole_all_right.Holds := by
  w_on; o_law
  refine HandSHeadRun.head_any (r := OpenLaw.row PySem.Challenge.rw_nearestname_k75_whole_all_right) (q := view (OpenLaw.row PySem.Challenge.rw_nearestname_k75_whole_all_right).prog [98]) (H := Nn.hk) (ob := Nn.ob) (M := 10000) (loose := Nn.loose) (d := HandSHeadRun.topDef (OpenLaw.row PySem.Challenge.rw_nearestname_k75_whole_all_right).prog 98) (kwd := []) Nn.ob_eq
    (by kernel_rfl) (fun s => by kernel_rfl) Nn.run (by kernel_rfl) (by kernel_rfl) (by kernel_rfl) (by rfl) (by first | assumption | decide +kernel) (by decide +kernel) ⟨rfl, rfl, rfl, rfl, rfl, by decide +kernel⟩ ?hw ?hc
  case hw => w_witness2
  case hc =>
    refine LamX.walk_ofTsE (l := PySem.Challenge.rw_nearestname_k75_whole_all_right) (n := 63) (k := 20) (x := "_law_script") (CX := fun _ => L2.CX0) rfl (by decide) (by kernel_rfl) ⟨rfl, by decide, by decide⟩ ?F (fun _ _ _ _ _ z => z)
    intro w mg fa h Y G hmg0
    obtain ⟨K, KX, c⟩ := Y
    have hmg : mg ("law" : PySem.Str) = some (.ref fa) := by
      have e : (HandSHeadRun.topDef (OpenLaw.row PySem.Challenge.rw_nearestname_k75_whole_all_right).prog 98).name = ("law" : PySem.Str) := by kernel_rfl
      rw [← e]
      exact hmg0
    exact ⟨K, KX, Nn.law_at KX G hmg c⟩
