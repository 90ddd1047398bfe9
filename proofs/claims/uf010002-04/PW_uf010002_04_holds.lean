import PyProof.Rows.All
import Wide.All
import OpenK.AllK
import Wide.FinOn
import PyProof.SetKind
import PyProof.WalksS
import PyProof.Rows.SetFrom
import PyProof.CollectWalk
import PyProof.FactsAll.set
import PyProof.MakeMany
import PyProof.Rows.SortShell
import PyProof.SetNew
import Open.Row
import PyProof.Rows.News
import PyProof.Rows.Nodes
import PyProof.Rows.EqMixed
import PyProof.DictDisplay
import PyProof.DictIter
import PyProof.Rows.Tup
import PyProof.Rows.CellsFrame
import KE.KEqDict
import OpenK.KRaise
import KE.KDictOf
import PyProof.Rows.ListAppend
import PyProof.Rows.DictMethods
import KE.KItem
import PyProof.StrCalls2
import PyProof.StrLawsJoin
import PyProof.StrLaws
import PyProof.DictStraight
import PyProof.Rows.Chain
import PyProof.SliceMore
import OpenK.KWalk
import PyProof.DictTable
import PyProof.RangeFor
import PyProof.Raises
import PyProof.Seq
import PyProof.TableCode
import PyProof.CompFree
import PyProof.WalksMore
import PyProof.Rows.GenSrcRange
import PyProof.ZipIter
import PyProof.TupleIter
import KE.KPairComp
import KE.KRevIter
import PySem.Challenge.RW_uf010002_04
set_option Elab.async false
set_option genSizeOf false

section
set_option autoImplicit false
set_option linter.unusedVariables false
namespace Mine
open PySem

/-- the places of a table rise -/
def Rise (xs : Array Nat) : Prop := xs.toList.Pairwise (· < ·)
theorem Rise.lt {xs : Array Nat} (h : Rise xs) {i k a b : Nat} (hik : i < k) (ha : xs[i]? = some a) (hb : xs[k]? = some b) : a < b := by
  rw [← Array.getElem?_toList] at ha hb
  obtain ⟨h1, rfl⟩ := List.getElem?_eq_some_iff.mp ha
  obtain ⟨h2, rfl⟩ := List.getElem?_eq_some_iff.mp hb
  exact List.pairwise_iff_getElem.mp h i k h1 h2 hik
/-- what the search for a place gives -/
structure Found (xs : Array Nat) (j p : Nat) : Prop where
  le : p ≤ xs.size
  lo : ∀ i, i < p → ∀ x, xs[i]? = some x → x < j
  hi : ∀ i, p ≤ i → ∀ x, xs[i]? = some x → j ≤ x
theorem below_go {xs : Array Nat} (hr : Rise xs) {j : Nat} : ∀ (fuel lo hi : Nat), hi - lo ≤ fuel → lo ≤ hi → hi ≤ xs.size → (∀ i, i < lo → ∀ x, xs[i]? = some x → x < j) → (∀ i, hi ≤ i → ∀ x, xs[i]? = some x → j ≤ x) → Found xs j (SetTable.below.go xs j fuel lo hi)
  | 0, lo, hi, hf, hl, hs, h1, h2 => by
    have e : lo = hi := by omega
    subst e
    exact ⟨hs, h1, h2⟩
  | fuel + 1, lo, hi, hf, hl, hs, h1, h2 => by
    unfold SetTable.below.go
    by_cases c : lo < hi
    · rw [if_pos c]
      have hm : (lo + hi) / 2 < xs.size := by omega
      have hg : xs.getD ((lo + hi) / 2) j = xs[(lo + hi) / 2] := by rw [Array.getD_eq_getD_getElem?, Array.getElem?_eq_getElem hm]; rfl
      have hm' : xs[(lo + hi) / 2]? = some xs[(lo + hi) / 2] := Array.getElem?_eq_getElem hm
      dsimp only
      rw [hg]
      by_cases d : xs[(lo + hi) / 2] < j
      · rw [if_pos d]
        refine below_go hr fuel _ hi (by omega) (by omega) hs (fun i hi' x hx => ?_) h2
        by_cases e : i = (lo + hi) / 2
        · subst e; rw [hm'] at hx; cases hx; exact d
        · exact Nat.lt_trans (hr.lt (by omega) hx hm') d
      · rw [if_neg d]
        refine below_go hr fuel lo _ (by omega) (by omega) (by omega) h1 (fun i hi' x hx => ?_)
        by_cases e : i = (lo + hi) / 2
        · subst e; rw [hm'] at hx; cases hx; exact Nat.not_lt.mp d
        · exact Nat.le_trans (Nat.not_lt.mp d) (Nat.le_of_lt (hr.lt (by omega) hm' hx))
    · rw [if_neg c]
      have e : lo = hi := by omega
      subst e
      exact ⟨hs, h1, h2⟩
theorem below_ok {xs : Array Nat} (hr : Rise xs) (j : Nat) : Found xs j (SetTable.below xs j) :=
  below_go hr xs.size 0 xs.size (by omega) (by omega) (Nat.le_refl _) (fun i h => absurd h (Nat.not_lt_zero _)) (fun i h x hx => by rw [Array.getElem?_eq_none h] at hx; cases hx)
theorem Found.mem {xs : Array Nat} {j p : Nat} (hr : Rise xs) (h : Found xs j p) (hj : j ∈ xs.toList) : xs[p]? = some j := by
  obtain ⟨i, hi, e⟩ := List.getElem_of_mem hj
  have hx : xs[i]? = some j := by rw [← Array.getElem?_toList, List.getElem?_eq_getElem hi, e]
  have h1 : p ≤ i := Nat.le_of_not_lt fun q => Nat.lt_irrefl _ (h.lo i q j hx)
  have hi' : i < xs.size := by simpa using hi
  have hp : xs[p]? = some xs[p] := Array.getElem?_eq_getElem (by omega)
  by_cases c : i = p
  · subst c; exact hx
  · exact absurd (hr.lt (by omega) hp hx) (Nat.not_lt.mpr (h.hi p (Nat.le_refl _) _ hp))
theorem insert_rise {xs : Array Nat} (hr : Rise xs) {j : Nat} (hj : j ∉ xs.toList) : Rise (SetTable.insertAt xs (SetTable.below xs j) j) := by
  have hf := below_ok hr j
  unfold Rise
  rw [SetTable.toList_insertAt, List.pairwise_append, List.pairwise_cons]
  have key : ∀ a ∈ xs.toList.take (SetTable.below xs j), a < j := fun a ha => by
    obtain ⟨i, hi, e⟩ := List.getElem_of_mem ha
    rw [List.length_take] at hi
    rw [List.getElem_take] at e
    exact hf.lo i (by omega) a (by rw [← Array.getElem?_toList, List.getElem?_eq_getElem (by omega), e])
  have key2 : ∀ b ∈ xs.toList.drop (SetTable.below xs j), j < b := fun b hb => by
    obtain ⟨i, hi, e⟩ := List.getElem_of_mem hb
    rw [List.length_drop] at hi
    rw [List.getElem_drop] at e
    have hx : xs[SetTable.below xs j + i]? = some b := by rw [← Array.getElem?_toList, List.getElem?_eq_getElem (by omega), e]
    refine Nat.lt_of_le_of_ne (hf.hi _ (Nat.le_add_right _ _) b hx) fun q => hj ?_
    rw [q]
    exact List.mem_of_mem_drop hb
  refine ⟨hr.sublist (List.take_sublist ..), ⟨key2, hr.sublist (List.drop_sublist ..)⟩, fun a ha b hb => ?_⟩
  rcases List.mem_cons.mp hb with rfl | hb
  · exact key a ha
  · exact Nat.lt_trans (key a ha) (key2 b hb)
theorem slot_free {t : SetTable} (hr : Rise t.place) {j : Nat} (h : ∀ i, t.slot j ≠ .live i) : j ∉ t.place.toList := fun hj => by
  have e := (below_ok hr j).mem hr hj
  refine h (SetTable.below t.place j) ?_
  unfold SetTable.slot
  dsimp only
  rw [e, if_pos (by simp)]
theorem probe_go {t : SetTable} (hr : Rise t.place) {at' : Nat → Int} {h : Int} : ∀ (fuel : Nat) (p : SetTable.Probe) (j : Nat) (dm : Option Nat), (∀ d, p.dummy = some d → d ∉ t.place.toList) → SetTable.probe.go t at' h fuel p = some (.empty j dm) → j ∉ t.place.toList ∧ ∀ d, dm = some d → d ∉ t.place.toList
  | 0, p, j, dm, hp, e => by cases e
  | fuel + 1, p, j, dm, hp, e => by
    have adv : ∀ q : SetTable.Probe, (t.advance q).dummy = q.dummy := fun q => by
      unfold SetTable.advance
      split <;> rfl
    unfold SetTable.probe.go at e
    cases hs : t.slot p.j with
    | empty =>
      rw [hs] at e
      cases e
      exact ⟨slot_free hr (fun i q => by rw [hs] at q; cases q), hp⟩
    | dummy =>
      rw [hs] at e
      refine probe_go hr fuel _ j dm (fun d hd => ?_) e
      rw [adv] at hd
      cases hd
      exact slot_free hr (fun i q => by rw [hs] at q; cases q)
    | live i =>
      rw [hs] at e
      dsimp only at e
      split at e
      · cases e
      · exact probe_go hr fuel _ j dm (fun d hd => hp d (by rw [adv] at hd; exact hd)) e
theorem freeSlot_ok {t : SetTable} (hr : Rise t.place) {h : Int} {j : Nat} {b : Bool} (e : t.freeSlot h = some (j, b)) : j ∉ t.place.toList := by
  unfold SetTable.freeSlot at e
  split at e
  · rename_i i dm hp
    obtain ⟨h1, h2⟩ := probe_go hr _ _ i dm (fun d hd => by cases hd) hp
    cases e
    cases dm with
    | none => exact h1
    | some d => exact h2 d rfl
  · cases e
theorem range_rise (n : Nat) : Rise (Array.range n) := by
  unfold Rise
  rw [Array.toList_range]
  exact List.pairwise_lt_range
theorem layNew_rise {t : SetTable} (hr : Rise t.place) (es : Array (Int × Value)) (h : Int) (x : Value) : Rise (layNew t es h x).2.1.place ∧ (layNew t es h x).2.1.led = t.led := by
  unfold layNew
  split
  · rename_i j b e
    dsimp only
    unfold SetTable.orStandIn
    split
    · exact ⟨insert_rise hr (freeSlot_ok hr e), rfl⟩
    · exact ⟨range_rise _, rfl⟩
  · exact ⟨range_rise _, rfl⟩
theorem relayAll_rise {t : SetTable} (es : Array (Int × Value)) (n : Nat) : Rise (relayAll t es n).2.1.place ∧ (relayAll t es n).2.1.led = t.led := by
  unfold relayAll
  split
  · rename_i t' order e
    dsimp only
    split
    · unfold SetTable.relaid SetTable.laid at e
      obtain ⟨owner, _, e⟩ := Option.bind_eq_some_iff.mp e
      cases e
      refine ⟨?_, rfl⟩
      unfold Rise
      dsimp only
      generalize SetTable.sizeAbove n - 1 + 1 = m
      rw [List.pairwise_map, List.pairwise_filterMap]
      refine List.pairwise_lt_range.imp fun hab p hp q hq => ?_
      obtain ⟨_, _, rfl⟩ := Option.map_eq_some_iff.mp hp
      obtain ⟨_, _, rfl⟩ := Option.map_eq_some_iff.mp hq
      exact hab
    · exact ⟨range_rise _, rfl⟩
  · exact ⟨range_rise _, rfl⟩
end Mine
end

section
set_option autoImplicit false
set_option linter.unusedVariables false
set_option maxRecDepth 100000
namespace Mine
open PySem

def val : Value → Int
  | .int n _ => n
  | _ => 0
/-- the entries of a set of numbers -/
structure Ents (l : List (Int × Value)) (ns : List Int) : Prop where
  all : ∀ e ∈ l, ∃ n t, e = (hashInt n, Value.int n t)
  perm : (l.map fun e => val e.2).Perm ns
/-- a set object of the model that holds numbers, fit to be walked -/
structure SetObj (by' : Bool) (o : Obj) (ns : List Int) (es : Array (Int × Value)) (ep : Nat) (t : SetTable) : Prop where
  ex : o.ExactSet
  data : o.data = .set es ep t
  ents : Ents es.toList ns
  small : es.size < scanBound
  fits : t.fits es.size = true
  led : t.led = !by'
  rise : Rise t.place
def SetI (by' : Bool) (h : Heap) (a : Addr) (ns : List Int) : Prop := ∃ o es ep t, h.get? a = some o ∧ SetObj by' o ns es ep t
abbrev byT (w : World) : Bool := w.params.followText "set-order"

theorem below_zero {xs : Array Nat} (hr : Rise xs) : SetTable.below xs 0 = 0 := by
  have f := below_ok hr 0
  refine Nat.eq_zero_of_not_pos fun q => ?_
  have hz : 0 < xs.size := Nat.lt_of_lt_of_le q f.le
  have h0 : xs[0]? = some xs[0] := Array.getElem?_eq_getElem hz
  exact Nat.not_lt_zero _ (f.lo 0 q _ h0)
theorem below_next {xs : Array Nat} (hr : Rise xs) {i j : Nat} (h : xs[i]? = some j) : SetTable.below xs (j + 1) = i + 1 := by
  have f := below_ok hr (j + 1)
  have h1 : i < SetTable.below xs (j + 1) := Nat.lt_of_not_le fun q => Nat.not_succ_le_self j (f.hi i q j h)
  refine Nat.le_antisymm (Nat.le_of_not_lt fun q => ?_) h1
  have hz : i + 1 < xs.size := Nat.lt_of_lt_of_le q f.le
  have h2 : xs[i + 1]? = some xs[i + 1] := Array.getElem?_eq_getElem hz
  have h3 := f.lo (i + 1) q _ h2
  exact absurd (hr.lt (Nat.lt_succ_self i) h h2) (Nat.not_lt.mpr (Nat.le_of_lt_succ h3))

theorem eraseIdx_perm {α : Type} : ∀ {l : List α} {i : Nat} {x : α}, l[i]? = some x → (x :: l.eraseIdx i).Perm l
  | [], i, x, h => by cases i <;> cases h
  | y :: l, 0, x, h => by cases h; exact .refl _
  | y :: l, i + 1, x, h => (List.Perm.swap y x _).trans ((eraseIdx_perm (l := l) (i := i) h).cons y)

theorem pick_go {α : Type} {next : Nat → Nat} : ∀ (fuel k : Nat) (left : List α) (out : Array α), left.length = fuel → ∃ ys, (pickOrder.go next fuel k left out).toList = out.toList ++ ys ∧ ys.Perm left
  | 0, k, left, out, h => by
    cases left with
    | nil => exact ⟨[], by unfold pickOrder.go; simp, .nil⟩
    | cons _ _ => cases h
  | fuel + 1, k, left, out, h => by
    unfold pickOrder.go
    have hl : next k % left.length < left.length := Nat.mod_lt _ (by omega)
    have e : left[next k % left.length]? = some left[next k % left.length] := List.getElem?_eq_getElem hl
    rw [e]
    dsimp only
    obtain ⟨ys, h1, h2⟩ := pick_go fuel (k + 1) (left.eraseIdx (next k % left.length)) (out.push left[next k % left.length]) (by rw [List.length_eraseIdx_of_lt hl]; omega)
    refine ⟨left[next k % left.length] :: ys, ?_, ?_⟩
    · rw [h1, Array.toList_push, List.append_assoc]; rfl
    · exact (h2.cons _).trans (eraseIdx_perm e)
theorem pick_perm {α : Type} (next : Nat → Nat) (xs : Array α) : (pickOrder next xs).toList.Perm xs.toList := by
  obtain ⟨ys, h1, h2⟩ := pick_go (next := next) xs.size 0 xs.toList #[] (by simp)
  unfold pickOrder
  rw [h1]
  exact h2

section
variable {M : Model} {A : Around} {E : Value → Shared → Prop}
theorem wpAny_choose {src : Source} {n : Nat} {s : Shared} {Q : Nat → Shared → Prop} (hn : n ≠ 0) (h : ∀ i d, i < n → Q i { s with drawn := d }) : wpAny M A (choose src n) Q E s :=
  fun _ _ _ => ⟨hn, h _ _ (Nat.mod_lt _ (Nat.pos_of_ne_zero hn))⟩
theorem draw_order {α : Type} : ∀ {n : Nat} {xs : List α} {s : Shared} {Q : List α → Shared → Prop}, xs.length = n → (∀ ys d, ys.Perm xs → Q ys { s with drawn := d }) → wpAny M A (drawOrder n xs) Q E s
  | 0, xs, s, Q, h, hQ => by
    cases xs with
    | nil => exact wpAny_pure (hQ [] s.drawn .nil)
    | cons _ _ => cases h
  | n + 1, [], s, Q, h, hQ => by cases h
  | n + 1, x :: xs, s, Q, h, hQ => by
    show wpAny M A (choose .order (x :: xs).length >>= _) Q E s
    refine wpAny_bind (wpAny_choose (by simp) fun i d hi => ?_)
    have e : (x :: xs)[i]? = some (x :: xs)[i] := List.getElem?_eq_getElem hi
    rw [e]
    dsimp only
    refine wpAny_bind (draw_order (n := n) (by rw [List.length_eraseIdx_of_lt hi]; omega) fun ys d' hp => wpAny_pure (hQ _ _ ((hp.cons _).trans (eraseIdx_perm e))))
end
end Mine
end

section
set_option autoImplicit false
set_option linter.unusedVariables false
set_option maxRecDepth 100000
namespace Mine
open PySem PyProof.Rows

section
variable {prog : Program} {w : World}
theorem Ents.elems {l : List (Int × Value)} {ns : List Int} (h : Ents l ns) : ElemsOf (intKind prog w) l := fun e he => by
  obtain ⟨n, t, rfl⟩ := h.all e he
  exact ⟨⟨n, intKind_is _ _ _ _, rfl⟩, rfl⟩
theorem Ents.mem {l : List (Int × Value)} {ns : List Int} (h : Ents l ns) {v : Int} : (∃ e ∈ l, (intKind prog w).is v e.2 = true) ↔ v ∈ ns := by
  rw [← h.perm.mem_iff, List.mem_map]
  constructor
  · rintro ⟨e, he, hk⟩
    obtain ⟨t, ht⟩ := Value.isInt_shape hk
    exact ⟨e, he, by rw [ht]; rfl⟩
  · rintro ⟨e, he, rfl⟩
    obtain ⟨n, t, rfl⟩ := h.all e he
    exact ⟨_, he, intKind_is _ _ _ _⟩
theorem Ents.of_perm {l l' : List (Int × Value)} {ns : List Int} (h : Ents l ns) (p : l'.Perm l) : Ents l' ns :=
  ⟨fun e he => h.all e (p.mem_iff.mp he), (p.map _).trans h.perm⟩
theorem Ents.push {l : List (Int × Value)} {ns : List Int} (h : Ents l ns) (v : Int) (t : Tok) : Ents (l ++ [(hashInt v, Value.int v t)]) (ns ++ [v]) := by
  refine ⟨fun e he => ?_, ?_⟩
  · rcases List.mem_append.mp he with q | q
    · exact h.all e q
    · rw [List.mem_singleton] at q; exact ⟨v, t, q⟩
  · rw [List.map_append]
    exact h.perm.append_right _
theorem Ents.len {l : List (Int × Value)} {ns : List Int} (h : Ents l ns) : l.length = ns.length := by rw [← h.perm.length_eq, List.length_map]
end
section
variable {prog : Program} {w : World} {A : Around} {E : Value → Shared → Prop} {s : Shared}
theorem store_set {by' : Bool} {h : Heap} {a : Addr} {o : Obj} {ns ns' : List Int} {es es' : Array (Int × Value)} {ep : Nat} {t t' : SetTable} (ho : h.get? a = some o) (x : SetObj by' o ns es ep t)
    (he : Ents es'.toList ns') (hs : es'.size < scanBound) (hf : t'.fits es'.size = true) (hl : t'.led = t.led) (hr : Rise t'.place) :
    ∃ o', (h.update a (Obj.putSet es' t')).get? a = some o' ∧ SetObj by' o' ns' es' (ep + 1) t' := by
  have hg : (h.update a (Obj.putSet es' t')).get? a = some { o with data := .set es' (ep + 1) t' } := by
    have := Heap.get?_update_self (Obj.putSet es' t') ho (by rw [putSet_of es' t' x.data]; rfl)
    rw [putSet_of es' t' x.data] at this; exact this
  exact ⟨_, hg, x.ex, rfl, he, hs, hf, hl.trans x.led, hr⟩
theorem set_add {a : Addr} {ns : List Int} {v : Int} {tk : Tok} {Q : Bool → Shared → Prop} (hS : SetI (byT w) s.heap a ns) (hroom : ns.length + 1 < scanBound)
    (h : ∀ b h', Heap.SameBut a s.heap h' → SetI (byT w) h' a (step_dedup ns v) → Q b { s with heap := h' }) :
    wpAny (model prog w) A (setAddHashed a (.int v tk) (hashInt v)) Q E s := by
  obtain ⟨o, es, ep, t, ho, x⟩ := hS
  have hkey : (intKind prog w).is v (.int v tk) = true := intKind_is _ _ _ _
  have hel : ElemsOf (intKind prog w) es.toList := x.ents.elems
  have hlen : es.size = ns.length := by rw [← Array.length_toList, x.ents.len]
  unfold setAddHashed setAddHashedIn
  refine wpAny_holding (wpAny_bind (wpAny_setState_of ho x.data x.fits ?_))
  dsimp only
  rw [byScan_of rfl x.small hel]
  simp only [↓reduceIte]
  unfold setAddByScan
  refine wpAny_bind ?_
  refine wpAny_bind (wpAny_rule ?_)
  refine wpAny_bind (wpAny_setScan_of (knd := intKind prog w) hkey ho x.data x.fits hel ?_)
  cases hr : List.findIdx? (fun e => (intKind prog w).is v e.2) es.toList with
  | some j =>
    dsimp only
    obtain ⟨hj, hpj, _⟩ := List.findIdx?_eq_some_iff_getElem.mp hr
    have hm : v ∈ ns := x.ents.mem.mp ⟨es.toList[j], List.getElem_mem hj, hpj⟩
    have e : step_dedup ns v = ns := by
      unfold step_dedup
      rw [if_pos (show ns.any (· == v) = true from List.any_eq_true.mpr ⟨v, hm, beq_self_eq_true v⟩)]
    rw [e] at h
    exact wpAny_pure (wpAny_pure (h _ _ (Heap.SameBut.refl a s.heap) ⟨o, es, ep, t, ho, x⟩))
  | none =>
    dsimp only
    have hm : v ∉ ns := fun q => by
      obtain ⟨e, he, hk⟩ := (x.ents.mem (prog := prog) (w := w)).mpr q
      have := List.findIdx?_eq_none_iff.mp hr e he
      rw [hk] at this
      cases this
    have e : step_dedup ns v = ns ++ [v] := by
      unfold step_dedup
      rw [if_neg]
      intro q
      obtain ⟨y, hy, hb⟩ := List.any_eq_true.mp q
      exact hm ((beq_iff_eq.mp hb) ▸ hy)
    rw [e] at h
    have hgw : ∀ (b : Bool) {s₁ : Shared} {Q' : Unit → Shared → Prop}, Q' () s₁ → wpAny (model prog w) A (match b with | true => rule "set.scan.the-table-gave-way" | false => pure ()) Q' E s₁ :=
      fun b s₁ Q' hq => by cases b <;> first | exact wpAny_pure hq | exact wpAny_rule hq
    have hperm := layNew_perm t es (hashInt v) (.int v tk)
    have hfits := layNew_fits t es (hashInt v) (.int v tk)
    have hrise := layNew_rise x.rise es (hashInt v) (.int v tk)
    have hL' : (intKind prog w).hash v = hashInt v := rfl
    generalize hL : layNew t es (hashInt v) (.int v tk) = L at hperm hfits hrise ⊢
    obtain ⟨es1, t1, wasDummy, gave⟩ := L
    dsimp only at hperm hfits hrise ⊢
    rw [Array.toList_push] at hperm
    have he1 : Ents es1.toList (ns ++ [v]) := (x.ents.push v tk).of_perm hperm
    have hs1 : es1.size < scanBound := by rw [← Array.length_toList, he1.len, List.length_append]; exact hroom
    refine wpAny_bind (hgw _ ?_)
    have tail : ∀ t2 : SetTable, t2.fits es1.size = true → t2.led = t.led → Rise t2.place → wpAny (model prog w) A (do
        storeSet a es1 t2
        if (!wasDummy && t2.tooFull) = true then do
            (match (relayAll t2 es1 (SetTable.grown es1.size)).2.2 with | true => rule "set.scan.the-table-gave-way" | false => pure ())
            storeSet a (relayAll t2 es1 (SetTable.grown es1.size)).1 (relayAll t2 es1 (SetTable.grown es1.size)).2.1
            pure (some true)
          else pure (some true)) (fun r s' => wpAny (model prog w) A (match r with | some added => pure added | none => setAddHashedIn a (.int v tk) (hashInt v) 99999) Q E s') E s := by
      intro t2 f2 l2 r2
      refine wpAny_bind (wpAny_storeSet_of ho x.data ?_ (fits_of_scanBound hs1))
      obtain ⟨o1, ho1, x1⟩ := store_set ho x he1 hs1 f2 l2 r2
      have b1 := Heap.SameBut.update s.heap a (Obj.putSet es1 t2)
      split
      · have hp := relayAll_perm t2 es1 (SetTable.grown es1.size)
        have hfr := relayAll_fits t2 es1 (SetTable.grown es1.size)
        have hrr := relayAll_rise (t := t2) es1 (SetTable.grown es1.size)
        generalize relayAll t2 es1 (SetTable.grown es1.size) = Rl at hp hfr hrr ⊢
        obtain ⟨es2, t3, gave2⟩ := Rl
        dsimp only at hp hfr hrr ⊢
        have he2 := he1.of_perm hp
        have hs2 : es2.size < scanBound := by rw [← Array.length_toList, he2.len, List.length_append]; exact hroom
        refine wpAny_bind (hgw _ ?_)
        refine wpAny_bind (wpAny_storeSet_of ho1 x1.data ?_ (fits_of_scanBound hs2))
        obtain ⟨o2, ho2, x2⟩ := store_set ho1 x1 he2 hs2 hfr hrr.2 hrr.1
        exact wpAny_pure (wpAny_pure (h _ _ (b1.trans (Heap.SameBut.update _ a _)) ⟨o2, es2, _, t3, ho2, x2⟩))
      · exact wpAny_pure (wpAny_pure (h _ _ b1 ⟨o1, es1, _, t2, ho1, x1⟩))
    split
    · refine wpAny_bind ?_
      rw [hashByValue_scannable 8 (x := .int v tk) rfl]
      exact wpAny_pure (tail t1 hfits hrise.2 hrise.1)
    · refine wpAny_bind (wpAny_pure ?_)
      exact tail t1 hfits hrise.2 hrise.1
end
end Mine
end

section
set_option autoImplicit false
set_option linter.unusedVariables false
set_option maxRecDepth 100000
namespace Mine
open PySem PyProof.Rows

theorem SetI.frame {b : Bool} {h h' : Heap} {a : Addr} {ns : List Int} (x : SetI b h a ns) (hk : ∀ o, h.get? a = some o → h'.get? a = some o) : SetI b h' a ns := by
  obtain ⟨o, es, ep, t, ho, r⟩ := x
  exact ⟨o, es, ep, t, hk o ho, r⟩
theorem SetI.fresh {b : Bool} {h : Heap} {a : Addr} (hg : h.get? a = some { cls := .type "set", dict := none, data := .set #[] 0 (.fresh 0 0 (!b)) }) : SetI b h a [] :=
  ⟨_, #[], 0, .fresh 0 0 (!b), hg, ⟨rfl, rfl, rfl⟩, rfl, ⟨fun e he => (by cases he), List.Perm.nil⟩, by unfold scanBound; simp, rfl, rfl, List.Pairwise.nil⟩

section
variable {prog : Program} {w : World} {A : Around} {R : Result → Shared → Prop} {I : Addr} {fp wr : List Addr} {G : Array GenState → Array GenState → Prop} {n : Nat} {P : Nat → Value → Prop} {St : Nat → Shared → Prop}
theorem update_loop (W : WalksS prog w A.in1 I fp wr G n P St) (S : Addr) (hSf : S ∉ fp)
    (val : Nat → Int) (hval : ∀ i v, P i v → ∃ t, v = .int (val i) t) (hb : n + 1 < scanBound) :
    ∀ (k i : Nat) (s : Shared), n - i = k → i ≤ n → St i s →
      SetI (byT w) s.heap S (firstMet val i) →
      (∀ s', Moved (S :: wr) G s s' → SetI (byT w) s'.heap S (firstMet val n) → R (.ok (.ret .none)) s') →
      codeAny (model prog w) A (.builtin "set.update.loop" ⟨[.ref S, .ref I], []⟩) R s := by
  have hSw : S ∉ wr := fun h => hSf (W.sub _ h)
  have hsub : ∀ b ∈ wr, b ∈ S :: wr := fun b hb => List.mem_cons_of_mem _ hb
  intro k
  induction k with
  | zero =>
    intro i s hk hi hst hS hR
    have hin : i = n := by omega
    subst hin
    refine codeAny_builtin F.entry_set_update_loop ?_
    rw [Around.under_plainId F.plain_set_update_loop _]
    show wpAny _ A.in1 (pyNext (.ref I) >>= _) _ _ s
    refine wpAny_bind (W.done s _ _ hst fun s' hm => ?_)
    show wpAny _ A.in1 (ret Value.none) _ _ s'
    exact wpAny_pure (hR s' (hm.mono hsub) (hS.frame fun o e => hm.heap S o hSw e))
  | succ k ih =>
    intro i s hk hi hst hS hR
    have hlt : i < n := by omega
    refine codeAny_builtin F.entry_set_update_loop ?_
    rw [Around.under_plainId F.plain_set_update_loop _]
    show wpAny _ A.in1 (pyNext (.ref I) >>= _) _ _ s
    refine wpAny_bind (W.item i s _ _ hlt hst fun v s' hP hst' hm => ?_)
    obtain ⟨t, rfl⟩ := hval i v hP
    have hS' := hS.frame (h' := s'.heap) fun o e => hm.heap S o hSw e
    show wpAny _ A.in1 (holding [Value.int (val i) t] (setAdd S (.int (val i) t)) >>= _) _ _ s'
    refine wpAny_bind (wpAny_holding ?_)
    unfold setAdd
    refine wpAny_holding ?_
    refine wpAny_bind ((intKind prog w).pyHash (k := val i) (intKind_is _ _ _ _) ?_)
    have hroom : (firstMet val i).length + 1 < scanBound := by have := firstMet_length_le val i; omega
    refine set_add (s := { s' with toks := s'.toks + 1 }) hS' hroom fun b h' hsb hS2 => ?_
    rw [← firstMet_succ] at hS2
    refine wpAny_pure ⟨plainId_quiet F.plain_set_update_loop _, ih (i + 1) _ (by omega) hlt (W.frame _ s' _ _ hst' (Nat.le_succ _) fun b hb o e => ?_) hS2 fun s'' hm'' hS'' => ?_⟩
    · rw [hsb.2 b (fun h : b = S => hSf (by rw [← h]; exact hb))]; exact e
    · refine hR s'' (Moved.trans W.gtrans ((hm.mono hsub).then_heap (Nat.le_succ _) fun b o hb e => ?_) hm'') hS''
      rw [hsb.2 b (fun h : b = S => hb (by rw [h]; exact List.mem_cons_self))]; exact e
end
section
variable {prog : Program} {w : World} {A : Around} {E : Value → Shared → Prop} {s : Shared}
abbrev newSetObj (w : World) : Obj := { cls := .type "set", dict := none, data := .set #[] 0 (.fresh 0 0 (!byT w)) }
theorem set_new (a : Value) {Q₁ : Value → Shared → Prop}
    (h : Q₁ (.ref s.heap.objs.size) { s with heap := s.heap.push (newSetObj w) }) :
    codeAny (model prog w) A (.call (.builtin "set.__new__") ⟨[.type "set", a], []⟩) (wants Q₁ E) s := by
  refine codeAny_of_tree ?_
  show wpAny _ A.in1 (do checkBuiltinCall "set.__new__" ⟨[.type "set", a], []⟩; again (.builtin "set.__new__" ⟨[.type "set", a], []⟩)) _ _ s
  refine wpAny_bind (wpAny_of_eq (PySem.F.newCall_set_1 a) (wpAny_pure ⟨plainId_quiet PySem.F.plain_set_new _, codeAny_builtin PySem.F.entry_set_new ?_⟩))
  rw [Around.under_plainId PySem.F.plain_set_new _]
  unfold Builtin.«set.__new__» Builtin.Frozenset.newClass
  have hsub := sub_set_self
  obtain ⟨hp, g, d, tk, os⟩ := s
  dsimp only
  wp_walk
  refine wpAny_askSetting (wpAny_pure ?_)
  dsimp only
  simp only [newObj]
  refine wpAny_bind (wpAny_alloc (wpAny_pure ?_))
  exact wpAny_pure h

set_option maxHeartbeats 3200000 in
theorem set_list {l : Addr} {items : Array Value} {ns : List Int} {Q : Value → Shared → Prop}
    (hh : A.handled = none) (hl : s.heap.IsList l items) (hi : IntsAre items.toList ns) (hb : items.size + 1 < scanBound)
    (h : ∀ (h' : Heap) (tk : Nat), s.toks ≤ tk → SetI (byT w) h' s.heap.objs.size (firstMet (fun i => ns.getD i 0) items.size) →
      (∀ b o, b < s.heap.objs.size → s.heap.get? b = some o → h'.get? b = some o) → Q (.ref s.heap.objs.size) { s with heap := h', toks := tk }) :
    wpAny (model prog w) A (call (.type "set") [.ref l]) Q E s := by
  obtain ⟨c, tl, hmro⟩ := PySem.F.called_set.mro
  have hmade := PySem.F.called_set.made
  have hsub := PySem.F.called_set.sub
  refine wpAny_call (codeAny_of_tree ?_)
  show wpAny _ _ (callAny (.type "set") _) _ _ _
  refine wpAny_pure ⟨Code.quiet_builtin _ (by decide +kernel), codeAny_builtin PySem.F.entry_type_call ?_⟩
  rw [Around.under_plain (weight_type_call_type "set" [.ref l] []) rfl]
  have h1 := PySem.F.called_set.notType
  have h2 := PySem.F.called_set.canCreate
  have hct := PySem.F.typeCall_set_1 (.ref l)
  repeat (any_goals (first | assumption | wp_step))
  refine codeAny_mono (set_new (.ref l) (E := E) (Q₁ := fun obj s₁ => obj = .ref s.heap.objs.size ∧ s₁ = { s with heap := s.heap.push (newSetObj w) }) ⟨rfl, rfl⟩) fun r s₁ hr => ?_
  cases r with
  | error e => exact hr
  | ok fl =>
    cases fl with
    | ret obj =>
      obtain ⟨rfl, rfl⟩ := hr
      have hS : (s.heap.push (newSetObj w)).get? s.heap.objs.size = some (newSetObj w) := Heap.get?_push_size _ rfl
      have hT : Shared.TypeIs { s with heap := s.heap.push (newSetObj w) } (.ref s.heap.objs.size) "set" := ⟨_, hS, rfl⟩
      have hli := PySem.F.called_set.init.lookup
      have hbi := PySem.F.called_set.init.bind (.ref s.heap.objs.size)
      repeat (any_goals (first | assumption | wp_step))
      refine codeAny_mono (codeAny_call_builtin (R := wants (fun r s₂ => r = .none ∧ ∃ h' tk, s₂ = { s with heap := h', toks := tk } ∧ s.toks ≤ tk ∧
          SetI (byT w) h' s.heap.objs.size (firstMet (fun i => ns.getD i 0) items.size) ∧
          (∀ b o, b < s.heap.objs.size → s.heap.get? b = some o → h'.get? b = some o)) E) PySem.F.called_set.init.plain PySem.F.entry_set_init (check_set_init_1 hT ?_)) fun r₂ s₂ hr₂ => ?_
      · obtain ⟨ol, hol, hcl, nl, hdl⟩ := hl
        obtain ⟨ocls, odict, odata, oslots⟩ := ol
        simp only at hcl hdl
        subst hcl; subst hdl
        have hol' : (s.heap.push (newSetObj w)).get? l = some { cls := .type "list", dict := odict, data := .seq items nl, slots := oslots } := Heap.get?_push_of_some _ hol
        have hsls := PySem.F.sub_list_set
        have hslf := PySem.F.sub_list_frozenset
        have hne : (Value.type "list" == Value.type "dict") = false := by decide
        have hl1 : (s.heap.push (newSetObj w)).IsList l items := ⟨_, hol', rfl, nl, rfl⟩
        unfold Builtin.«set.__init__» noKeywords Builtin.Frozenset.updateFrom
        generalize hPI : pyIter = PI
        wp_walk
        subst hPI
        refine wpAny_pyIter_list hl1 ?_
        refine wpAny_bind (wpAny_runValue ?_)
        have hlS : l < s.heap.objs.size := Heap.lt_size hol
        have hh3 : A.in1.in1.in1.handled = none := by simp [hh]
        have hneI : l ≠ (s.heap.push (newSetObj w)).objs.size := by
          rw [Heap.size_push]; exact Nat.ne_of_lt (Nat.lt_succ_of_lt hlS)
        have hSf : s.heap.objs.size ∉ [(s.heap.push (newSetObj w)).objs.size, l] := by
          rw [Heap.size_push]; simp only [List.mem_cons, List.mem_singleton, List.not_mem_nil, or_false, not_or]
          exact ⟨Nat.ne_of_lt (Nat.lt_succ_self _), Nat.ne_of_gt hlS⟩
        have hval : ∀ (i : Nat) (v : Value), items[i]? = some v → ∃ t, v = .int ((fun i => ns.getD i 0) i) t := fun i v hv =>
          IntsAre.int_at hi i v (by rw [Array.getElem?_toList]; exact hv)
        refine update_loop ((Walks.list hh3 _ l hneI items).toS) s.heap.objs.size
          hSf (fun i => ns.getD i 0) hval hb (items.size - 0) 0 _ (by omega) (Nat.zero_le _)
          ⟨⟨_, Heap.get?_push_size _ rfl, rfl, rfl⟩, (hl1.push _)⟩ ?hS0 ?hR
        case hS0 => exact SetI.fresh (Heap.get?_push_of_some _ hS)
        case hR =>
          intro s' hm hS'
          obtain ⟨h', g', d', tk', os'⟩ := s'
          have eg : g' = s.gens := hm.gens
          have ed : d' = s.drawn := hm.drawn
          have eo : os' = s.os := hm.os
          have etk : s.toks ≤ tk' := hm.toks
          subst eg; subst ed; subst eo
          show wpAny _ _ _ _ _ _
          refine wpAny_pure ?_
          show wpAny _ _ (ret Value.none) _ _ _
          refine wpAny_pure ⟨rfl, h', tk', rfl, etk, hS', fun b o hb e => ?_⟩
          have hb1 : b ≠ s.heap.objs.size := Nat.ne_of_lt hb
          have hb2 : b ≠ (s.heap.push (newSetObj w)).objs.size := by
            rw [Heap.size_push]; exact Nat.ne_of_lt (Nat.lt_succ_of_lt hb)
          exact hm.heap b o (by simp only [List.mem_cons, List.mem_singleton, List.not_mem_nil, or_false, not_or]; exact ⟨hb1, hb2⟩) (Heap.get?_push_of_some _ (Heap.get?_push_of_some _ e))
      · cases r₂ with
        | error e => exact hr₂
        | ok fl₂ =>
          cases fl₂ with
          | ret r =>
            obtain ⟨rfl, h', tk, rfl, etk, hS', hk'⟩ := hr₂
            repeat (any_goals (first | assumption | wp_step))
            exact h _ _ etk hS' hk'
          | _ => exact hr₂.elim
    | _ => exact hr.elim
end
end Mine
end

section
set_option autoImplicit false
set_option linter.unusedVariables false
set_option maxRecDepth 100000
namespace Mine
open PySem

theorem entry_set_iter : entryFor table "set.__iter__" = some Builtin.«frozenset.__iter__» :=
  entryFor_alias (id' := "frozenset.__iter__") (by kernel_rfl) rfl (by decide +kernel) (by kernel_rfl)
theorem slot_si_next : Slot "set_iterator" "__next__" "set_iterator.__next__" :=
  .of (owner := "set_iterator") (n := "__next__") (by rw [typeLookup_type, builtinLookup_eq_fast]; kernel_rfl) (by decide +kernel) (by decide +kernel) (by decide +kernel)
    (by first | exact .inl (by decide +kernel) | exact .inr (by decide +kernel)) (by rw [isSubtype_type]; kernel_rfl)
theorem entry_si_next : entryFor table "set_iterator.__next__" = some Builtin.«set_iterator.__next__» := entryFor_of_tree (by kernel_rfl)
theorem args_si_next (a : Value) : argsOk "set_iterator.__next__" ⟨[a], []⟩ := by unfold argsOk; kernel_rfl
theorem slot_si_iter : Slot "set_iterator" "__iter__" "set_iterator.__iter__" :=
  .of (owner := "set_iterator") (n := "__iter__") (by rw [typeLookup_type, builtinLookup_eq_fast]; kernel_rfl) (by decide +kernel) (by decide +kernel) (by decide +kernel)
    (by first | exact .inl (by decide +kernel) | exact .inr (by decide +kernel)) (by rw [isSubtype_type]; kernel_rfl)
theorem args_si_iter (a : Value) : argsOk "set_iterator.__iter__" ⟨[a], []⟩ := by unfold argsOk; kernel_rfl
theorem entry_si_iter : entryFor table "set_iterator.__iter__" = some Builtin.«dict_keyiterator.__iter__» :=
  entryFor_alias (id' := "dict_keyiterator.__iter__") (by kernel_rfl) (by first | rfl | decide +kernel) (by decide +kernel) (by kernel_rfl)

def SetIt (h : Heap) (I : Addr) (first : Value) (i : Nat) (S : Addr) (n ep : Nat) : Prop :=
  ∃ o, h.get? I = some o ∧ o.cls = .type "set_iterator" ∧ o.data = .fields #[first, .int i 0, .ref S, .int n 0, .int ep 0]
theorem SetIt.typeIs {s : Shared} {I : Addr} {first : Value} {i : Nat} {S : Addr} {n ep : Nat} (x : SetIt s.heap I first i S n ep) : s.TypeIs (.ref I) "set_iterator" := let ⟨o, ho, hc, _⟩ := x; ⟨o, ho, hc⟩
theorem SetIt.frame {h h' : Heap} {I : Addr} {first : Value} {i : Nat} {S : Addr} {n ep : Nat} (x : SetIt h I first i S n ep) (k : ∀ o, h.get? I = some o → h'.get? I = some o) : SetIt h' I first i S n ep := let ⟨o, ho, r⟩ := x; ⟨o, k o ho, r⟩

/-- the three ways of walking a set -/
def Mode (w : World) (S T : Addr) (es : Array (Int × Value)) (ep : Nat) (t : SetTable) (h : Heap) (L : List Value) (i : Nat) (first : Value) : Prop :=
  (byT w = true ∧ L = (pickOrder (w.params.setOrder S ep) es).toList.map (·.2) ∧ first = .int 0 0) ∨
  (byT w = false ∧ (!t.plain && decide (es.size > 1)) = false ∧ L = es.toList.map (·.2) ∧ ∃ slot : Nat, first = .int slot 0 ∧ SetTable.below t.place slot = i) ∨
  (∃ (ord : List Nat) (oT : Obj) (k : Nat), first = .ref T ∧ h.get? T = some oT ∧ oT.data = .seq (ord.map fun p : Nat => rawInt p).toArray k ∧ L.length = ord.length ∧ ∀ j p : Nat, ord[j]? = some p → ∃ e : Int × Value, es[p]? = some e ∧ L[j]? = some e.2)

section
variable {prog : Program} {w : World} {A : Around} {E : Value → Shared → Prop} {s : Shared} {I S T : Addr} {o : Obj} {ns : List Int} {es : Array (Int × Value)} {ep : Nat} {t : SetTable} {L : List Value}

theorem byText_ok {Q : Bool → Shared → Prop} (h : Q (byT w) s) : wpAny (model prog w) A setsByText Q E s := wpAny_bind (wpAny_askSetting (wpAny_pure h))
theorem walk_text {Q : Array (Int × Value) → Shared → Prop} (ho : s.heap.get? S = some o) (x : SetObj (byT w) o ns es ep t) (hb : byT w = true)
    (h : Q (pickOrder (w.params.setOrder S ep) es) s) : wpAny (model prog w) A (setWalk S) Q E s := by
  unfold setWalk
  refine wpAny_bind (wpAny_setState_of ho x.data x.fits ?_)
  dsimp only
  refine wpAny_bind (byText_ok ?_)
  rw [if_pos hb]
  exact wpAny_bind (wpAny_askSetting (wpAny_pure h))
theorem next_text {slot i : Nat} {Q : Option (Value × Nat) → Shared → Prop} (ho : s.heap.get? S = some o) (x : SetObj (byT w) o ns es ep t) (hb : byT w = true)
    (h : Q (((pickOrder (w.params.setOrder S ep) es)[i]?).map fun e => (e.2, slot)) s) : wpAny (model prog w) A (setNext S slot i ep) Q E s := by
  unfold setNext
  refine wpAny_bind (wpAny_setState_of ho x.data x.fits ?_)
  dsimp only
  refine wpAny_bind (byText_ok ?_)
  rw [if_pos hb, if_neg (by simp)]
  exact wpAny_bind (walk_text ho x hb (wpAny_pure h))
theorem next_place {slot i : Nat} {Q : Option (Value × Nat) → Shared → Prop} (ho : s.heap.get? S = some o) (x : SetObj (byT w) o ns es ep t) (hb : byT w = false) (hd : (!t.plain && decide (es.size > 1)) = false)
    (h : Q (match es[SetTable.below t.place slot]?, t.place[SetTable.below t.place slot]? with
      | some (_, x), some j => some (x, j + 1)
      | _, _ => none) s) : wpAny (model prog w) A (setNext S slot i ep) Q E s := by
  unfold setNext
  refine wpAny_bind (wpAny_setState_of ho x.data x.fits ?_)
  dsimp only
  refine wpAny_bind (byText_ok ?_)
  have hl := x.led
  rw [hb] at hl
  rw [if_neg (by rw [hb]; exact Bool.false_ne_true), if_neg (by
    show ¬ (!t.plain && decide (es.size > 1)) = true
    rw [hd]; exact Bool.false_ne_true)]
  refine wpAny_bind (wpAny_of_eq (a := ()) ?_ (wpAny_pure h))
  show (if (!t.led && !es.isEmpty) = true then unsupported _ else pure ()) = pure ()
  rw [hl, if_neg (by simp)]
theorem next_drawn {p : Nat} {e : Int × Value} {Q : Value → Shared → Prop} (ho : s.heap.get? S = some o) (x : SetObj (byT w) o ns es ep t) (he : es[p]? = some e) (h : Q e.2 s) : wpAny (model prog w) A (setNextDrawn S p ep) Q E s := by
  unfold setNextDrawn
  refine wpAny_bind (wpAny_setState_of ho x.data x.fits ?_)
  dsimp only
  rw [if_neg (by simp), he]
  exact wpAny_pure h
theorem set_one {h : Heap} {oi : Obj} {vs : Array Value} {j : Nat} {y : Value} (hoi : h.get? I = some oi) (hdi : oi.data = .fields vs) :
    ∃ o', (h.update I (Obj.mapFields (·.setIfInBounds j y))).get? I = some o' ∧ o'.cls = oi.cls ∧ o'.data = .fields (vs.setIfInBounds j y) :=
  ⟨_, Heap.get?_update_self _ hoi (Obj.isFreed_of_fields (Obj.data_mapFields hdi _)), Obj.cls_mapFields .., Obj.data_mapFields hdi _⟩

theorem si_item {i : Nat} {first v : Value} {Q : Option Value → Shared → Prop} (hit : SetIt s.heap I first i S es.size ep) (ho : s.heap.get? S = some o) (x : SetObj (byT w) o ns es ep t)
    (m : Mode w S T es ep t s.heap L i first) (hv : L[i]? = some v) (hTI : T ≠ I)
    (hQ : ∀ h' first', SetIt h' I first' (i + 1) S es.size ep → Mode w S T es ep t h' L (i + 1) first' → Heap.SameBut I s.heap h' → Q (some v) { s with heap := h' }) : wpAny (model prog w) A (pyNext (.ref I)) Q E s := by
  obtain ⟨oi, hoi, hci, hdi⟩ := id hit
  unfold pyNext
  refine wpAny_bind (wpAny_attempt (wpAny_callSpecial?_slot (name := Str.ofString "__next__") hit.typeIs slot_si_next
    (wpAny_call_entry slot_si_next hit.typeIs entry_si_next ?_ (args_si_next _))))
  unfold Builtin.«set_iterator.__next__»
  refine wpAny_bind (wpAny_of_eq (a := (Value.ref I, [])) rfl ?_)
  refine wpAny_bind (wpAny_fieldsOf hoi hdi ?_)
  dsimp only
  refine wpAny_bind (wpAny_setEntries_of ho x.data x.fits ?_)
  rw [if_neg (by simp)]
  have two : ∀ (y : Nat) (v' : Value), v' = v → (∀ h', Heap.SameBut I s.heap h' → Mode w S T es ep t h' L (i + 1) (.int y 0)) → wpAny (model prog w) A.in1 (do
        setField (Value.ref I) 0 (rawInt y)
        setField (Value.ref I) 1 (rawInt ((i : Int) + 1))
        ret v') (fun fin s' => ∃ v, fin = Fin.done (Flow.ret v) ∧ wpAny (model prog w) A (pure (some v)) Q E s') (fun e s' =>
      wpAny (model prog w) A
        (do
          let __do_lift ← isInstance e (Value.type "StopIteration")
          if __do_lift = true then pure none else throw e)
        Q E s') s := fun y v' hv' hm => by
    refine wpAny_bind (wpAny_setField hoi hdi (by simp) ?_)
    obtain ⟨o1, h1, c1, d1⟩ := set_one (j := 0) (y := rawInt y) hoi hdi
    refine wpAny_bind (wpAny_setField h1 d1 (by simp) ?_)
    obtain ⟨o2, h2, c2, d2⟩ := set_one (j := 1) (y := rawInt ((i : Int) + 1)) h1 d1
    have sb := (Heap.SameBut.update s.heap I (Obj.mapFields (·.setIfInBounds 0 (rawInt y)))).trans (Heap.SameBut.update _ I (Obj.mapFields (·.setIfInBounds 1 (rawInt ((i : Int) + 1)))))
    exact wpAny_pure ⟨v', rfl, wpAny_pure (hv' ▸ hQ _ _ ⟨o2, h2, c2.trans (c1.trans hci), by rw [d2]; simp [rawInt]⟩ (hm _ sb) sb)⟩
  rcases m with ⟨hb, rfl, rfl⟩ | ⟨hb, hd, rfl, slot, rfl, hs⟩ | ⟨ord, oT, k, rfl, hT, hTd, hlen, hord⟩
  · dsimp only
    refine wpAny_bind (next_text ho x hb ?_)
    rw [List.getElem?_map, Array.getElem?_toList] at hv
    obtain ⟨e, he, rfl⟩ := Option.map_eq_some_iff.mp hv
    simp only [Int.toNat_natCast, he, Option.map_some]
    exact two 0 e.2 rfl fun h' _ => .inl ⟨hb, rfl, rfl⟩
  · dsimp only
    refine wpAny_bind (next_place ho x hb hd ?_)
    rw [List.getElem?_map, Array.getElem?_toList] at hv
    obtain ⟨e, he, rfl⟩ := Option.map_eq_some_iff.mp hv
    have hps : t.place.size = es.size := by
      have := x.fits
      simp only [SetTable.fits, Bool.and_eq_true, beq_iff_eq] at this
      exact this.1
    have hlt : i < t.place.size := by rw [hps]; exact (Array.getElem?_eq_some_iff.mp he).1
    have hp : t.place[i]? = some t.place[i] := Array.getElem?_eq_getElem hlt
    simp only [Int.toNat_natCast, hs, he, hp]
    exact two (t.place[i] + 1) e.2 rfl fun h' _ => .inr (.inl ⟨hb, hd, rfl, _, rfl, below_next x.rise hp⟩)
  · dsimp only
    refine wpAny_bind (wpAny_seqItems hT hTd ?_)
    have hlt : i < ord.length := by rw [← hlen]; exact (List.getElem?_eq_some_iff.mp hv).1
    obtain ⟨e, he, hv'⟩ := hord i ord[i] (List.getElem?_eq_getElem hlt)
    rw [hv] at hv'
    cases hv'
    have hpl : ((ord.map fun p : Nat => rawInt p).toArray)[i]? = some (rawInt (ord[i] : Nat)) := by
      rw [List.getElem?_toArray, List.getElem?_map, List.getElem?_eq_getElem hlt]; rfl
    simp only [Int.toNat_natCast, hpl]
    show wpAny _ _ (setNextDrawn S ((ord[i] : Nat) : Int).toNat ep >>= _) _ _ _
    rw [Int.toNat_natCast]
    refine wpAny_bind (next_drawn ho x he ?_)
    refine wpAny_bind (wpAny_setField hoi hdi (by simp) ?_)
    obtain ⟨o1, h1, c1, d1⟩ := set_one (j := 1) (y := rawInt ((i : Int) + 1)) hoi hdi
    have sb := Heap.SameBut.update s.heap I (Obj.mapFields (·.setIfInBounds 1 (rawInt ((i : Int) + 1))))
    exact wpAny_pure ⟨e.2, rfl, wpAny_pure (hQ _ _ ⟨o1, h1, c1.trans hci, by rw [d1]; simp [rawInt]⟩ (.inr (.inr ⟨ord, oT, k, rfl, (sb.2 T hTI).trans hT, hTd, hlen, hord⟩)) sb)⟩
end
end Mine
end

section
set_option autoImplicit false
set_option linter.unusedVariables false
set_option maxRecDepth 100000
namespace Mine
open PySem PyProof.Rows

section
variable {prog : Program} {w : World} {A : Around} {E : Value → Shared → Prop} {s : Shared} {I S T : Addr} {o : Obj} {ns : List Int} {es : Array (Int × Value)} {ep : Nat} {t : SetTable} {L : List Value}

theorem si_end {first : Value} {Q : Option Value → Shared → Prop} (hh : A.handled = none) (hit : SetIt s.heap I first es.size S es.size ep) (ho : s.heap.get? S = some o) (x : SetObj (byT w) o ns es ep t)
    (m : Mode w S T es ep t s.heap L es.size first) (hL : L.length = es.size)
    (hQ : ∀ h', Heap.ExtBut I s.heap h' → Q none { s with heap := h' }) : wpAny (model prog w) A (pyNext (.ref I)) Q E s := by
  obtain ⟨oi, hoi, hci, hdi⟩ := id hit
  unfold pyNext
  refine wpAny_bind (wpAny_attempt (wpAny_callSpecial?_slot (name := Str.ofString "__next__") hit.typeIs slot_si_next
    (wpAny_call_entry slot_si_next hit.typeIs entry_si_next ?_ (args_si_next _))))
  unfold Builtin.«set_iterator.__next__»
  refine wpAny_bind (wpAny_of_eq (a := (Value.ref I, [])) rfl ?_)
  refine wpAny_bind (wpAny_fieldsOf hoi hdi ?_)
  dsimp only
  refine wpAny_bind (wpAny_setEntries_of ho x.data x.fits ?_)
  rw [if_neg (by simp)]
  have stop : ∀ (h1 : Heap) (o1 : Obj) (vs : Array Value), Heap.ExtBut I s.heap h1 → h1.get? I = some o1 → o1.data = .fields vs → 2 < vs.size → wpAny (model prog w) A.in1 (do
        setField (Value.ref I) 2 .none
        let __do_lift ← newExc (Value.type "StopIteration") []
        raiseNew __do_lift) (fun fin s' => ∃ v, fin = Fin.done (Flow.ret v) ∧ wpAny (model prog w) A (pure (some v)) Q E s') (fun e s' =>
      wpAny (model prog w) A
        (do
          let __do_lift ← isInstance e (Value.type "StopIteration")
          if __do_lift = true then pure none else throw e)
        Q E s') { s with heap := h1 } := fun h1 o1 vs sb g1 d1 hz => by
    refine wpAny_bind (wpAny_setField g1 d1 hz ?_)
    show wpAny _ _ (newExc (.type "StopIteration") [] >>= _) _ _ _
    refine wpAny_bind ?_
    simp only [newExc, newTuple]
    refine wpAny_bind (wpAny_newObj_type ?_ (by size_fits))
    refine wpAny_bind (m := firstArgMember _ _) (wpAny_of_eq (a := Value.none) (by first | rfl | (simp only [firstArgMember]; rfl)) ?_)
    refine wpAny_newObj_type ?_ (by size_fits)
    simp only [raiseNew]
    refine wpAny_bind (wpAny_handled ?_)
    rw [show A.in1.handled = none from hh]
    refine wpAny_bind (wpAny_pure (wpAny_throw ?_))
    refine wpAny_bind (wpAny_isInstance (T := "StopIteration") (b := true) ⟨_, Heap.get?_push_size _ rfl, rfl⟩ isSubtype_stop ?_)
    exact wpAny_pure (hQ _ (((sb.trans (Heap.SameBut.update ..).extBut).push _).push _))
  have ge : ∀ {es' : Array (Int × Value)}, es'.size = es.size → es'[es.size]? = none := fun h => Array.getElem?_eq_none (Nat.le_of_eq h)
  rcases m with ⟨hb, rfl, rfl⟩ | ⟨hb, hd, rfl, slot, rfl, hs⟩ | ⟨ord, oT, k, rfl, hT, hTd, hlen, hord⟩
  · dsimp only
    refine wpAny_bind (next_text ho x hb ?_)
    rw [List.length_map, Array.length_toList] at hL
    simp only [Int.toNat_natCast, ge hL, Option.map_none]
    exact stop s.heap oi _ (Heap.ExtBut.refl _ _) hoi hdi (by simp)
  · dsimp only
    refine wpAny_bind (next_place ho x hb hd ?_)
    simp only [Int.toNat_natCast, hs, ge rfl]
    exact stop s.heap oi _ (Heap.ExtBut.refl _ _) hoi hdi (by simp)
  · dsimp only
    refine wpAny_bind (wpAny_seqItems hT hTd ?_)
    have hpl : ((ord.map fun p : Nat => rawInt p).toArray)[es.size]? = none := by
      rw [List.getElem?_toArray, List.getElem?_map, List.getElem?_eq_none (by omega)]; rfl
    simp only [Int.toNat_natCast, hpl]
    refine wpAny_bind (wpAny_setField hoi hdi (by simp) ?_)
    obtain ⟨o1, h1, c1, d1⟩ := set_one (j := 0) (y := rawInt 0) hoi hdi
    exact stop _ o1 _ (Heap.SameBut.update ..).extBut h1 d1 (by simp)

theorem si_self {first : Value} {i : Nat} {Q : Value → Shared → Prop} (hit : SetIt s.heap I first i S es.size ep) (h : Q (.ref I) s) : wpAny (model prog w) A (pyIter (.ref I)) Q E s := by
  refine wpAny_pyIter_slot hit.typeIs slot_si_iter (wpAny_call_entry slot_si_iter hit.typeIs entry_si_iter ?_ (args_si_iter _))
  show wpAny _ _ (ret (.ref I)) _ _ s
  exact wpAny_pure ⟨_, rfl, "set_iterator", _, hit.typeIs, slot_si_next.lookup, h⟩

theorem Mode.frame {h h' : Heap} {i : Nat} {first : Value} (m : Mode w S T es ep t h L i first) (k : ∀ o, h.get? T = some o → h'.get? T = some o) : Mode w S T es ep t h' L i first := by
  rcases m with m | m | ⟨ord, oT, j, e, hT, r⟩
  · exact .inl m
  · exact .inr (.inl m)
  · exact .inr (.inr ⟨ord, oT, j, e, k _ hT, r⟩)

theorem set_walks (hh : A.handled = none) (hSI : S ≠ I) (hTI : T ≠ I) (x : SetObj (byT w) o ns es ep t) (hL : L.length = es.size) :
    WalksS prog w A I [I, S, T] [I] (fun a b => b = a) es.size (fun i v => L[i]? = some v) (fun i s => s.heap.get? S = some o ∧ ∃ first, SetIt s.heap I first i S es.size ep ∧ Mode w S T es ep t s.heap L i first) where
  sub := fun b hb => by simp at hb; simp [hb]
  grefl := fun _ => rfl
  gtrans := fun _ _ _ h1 h2 => h2.trans h1
  frame := fun i s h' tk ⟨h1, first, h2, h3⟩ _ hk => ⟨hk S (by simp) o h1, first, h2.frame (fun o e => hk I (by simp) o e), h3.frame fun o e => hk T (by simp) o e⟩
  item := fun i s Q E hi ⟨h1, first, h2, h3⟩ hQ => by
    have hv : L[i]? = some (L[i]'(by omega)) := List.getElem?_eq_getElem (by omega)
    refine si_item h2 h1 x h3 hv hTI fun h' first' k1 k2 sb => ?_
    exact hQ _ _ hv ⟨(sb.2 S hSI).trans h1, first', k1, k2⟩ ⟨fun b o hb e => (sb.2 b (fun q => hb (by simp [q]))).trans e, rfl, rfl, rfl, Nat.le_refl _⟩
  done := fun s Q E ⟨h1, first, h2, h3⟩ hQ => si_end hh h2 h1 x h3 hL fun h' he => hQ _ ⟨fun b o hb e => he b o (fun q => hb (by simp [q])) e, rfl, rfl, rfl, Nat.le_refl _⟩
  self := fun i s Q E ⟨h1, first, h2, h3⟩ hQ => si_self h2 hQ
end
end Mine
end

section
set_option autoImplicit false
set_option linter.unusedVariables false
set_option maxRecDepth 100000
namespace Mine
open PySem PyProof.Rows

theorem intsAre_val : ∀ {L : List Value}, (∀ v ∈ L, ∃ n t, v = .int n t) → IntsAre L (L.map val)
  | [], _ => .nil
  | v :: L, h => by
    obtain ⟨n, t, rfl⟩ := h v (.head _)
    exact .cons n t (intsAre_val fun v hv => h v (.tail _ hv))
theorem ents_ints {l : List (Int × Value)} {ns : List Int} {L : List Value} (h : Ents l ns) (p : L.Perm (l.map (·.2))) : IntsAre L (L.map val) ∧ (L.map val).Perm ns := by
  refine ⟨intsAre_val fun v hv => ?_, (p.map val).trans ?_⟩
  · obtain ⟨e, he, rfl⟩ := List.mem_map.mp (p.mem_iff.mp hv)
    obtain ⟨n, t, rfl⟩ := h.all e he
    exact ⟨n, t, rfl⟩
  · rw [List.map_map]; exact h.perm

section
variable {prog : Program} {w : World} {A : Around} {E : Value → Shared → Prop} {s : Shared} {S : Addr} {ns : List Int}

theorem drawn_ok {o : Obj} {es : Array (Int × Value)} {ep : Nat} {t : SetTable} {Q : Bool → Shared → Prop} (ho : s.heap.get? S = some o) (x : SetObj (byT w) o ns es ep t)
    (h : Q (!byT w && (!t.plain && decide (es.size > 1))) s) : wpAny (model prog w) A (setDrawn S) Q E s := by
  unfold setDrawn
  refine wpAny_bind (wpAny_setState_of ho x.data x.fits ?_)
  dsimp only
  exact wpAny_bind (byText_ok (wpAny_pure h))

/-- what an iterator over a set is -/
structure Started (w : World) (S : Addr) (ns : List Int) (s s' : Shared) (I T : Addr) (o : Obj) (es : Array (Int × Value)) (ep : Nat) (t : SetTable) (L : List Value) : Prop where
  obj : SetObj (byT w) o ns es ep t
  len : L.length = es.size
  areInts : IntsAre L (L.map val)
  perm : (L.map val).Perm ns
  sI : S ≠ I
  tI : T ≠ I
  tlow : T = S ∨ s.heap.objs.size ≤ T
  low : s.heap.objs.size ≤ I
  lt : ∀ b ∈ [I, S, T], b < s'.heap.objs.size
  st : s'.heap.get? S = some o ∧ ∃ first, SetIt s'.heap I first 0 S es.size ep ∧ Mode w S T es ep t s'.heap L 0 first
  keep : ∀ b o, s.heap.get? b = some o → s'.heap.get? b = some o
  size : s.heap.objs.size ≤ s'.heap.objs.size
  gens : s'.gens = s.gens
  os : s'.os = s.os

theorem range_map (es : Array (Int × Value)) : (List.range es.size).map (fun p => (es[p]?.getD (0, Value.none)).2) = es.toList.map (·.2) := by
  refine List.ext_getElem (by simp) fun i h1 h2 => ?_
  have h3 : i < es.size := by simpa using h1
  simp [Array.getElem?_eq_getElem h3]

theorem set_iter {Q : Value → Shared → Prop} (hS : SetI (byT w) s.heap S ns) (hQ : ∀ I T o es ep t L s', Started w S ns s s' I T o es ep t L → Q (.ref I) s') : wpAny (model prog w) A (pyIter (.ref S)) Q E s := by
  obtain ⟨o, es, ep, t, ho, x⟩ := hS
  have hT : s.TypeIs (.ref S) "set" := ⟨o, ho, x.ex.1⟩
  have hlt := Heap.lt_size ho
  refine wpAny_pyIter_slot hT F.slot_set_iter (wpAny_call_entry F.slot_set_iter hT entry_set_iter ?_ (F.args_set_iter_1 _))
  unfold Builtin.«frozenset.__iter__»
  refine wpAny_bind (wpAny_of_eq (a := S) rfl ?_)
  unfold Builtin.Frozenset.sizeOf
  refine wpAny_bind (wpAny_bind (wpAny_setEntries_of ho x.data x.fits (wpAny_pure ?_)))
  refine wpAny_bind (drawn_ok ho x ?_)
  have plain : ∀ L : List Value, L.Perm (es.toList.map (·.2)) → (∀ h, Mode w S S es ep t h L 0 (.int 0 0)) →
      wpAny (model prog w) A.in1 (setEpoch S >>= fun e => newFields "set_iterator" [rawInt 0, rawInt 0, .ref S, rawInt es.size, rawInt e] >>= fun r => ret r) (fun fin s' => ∃ r, fin = .done (.ret r) ∧ ∃ T' l, s'.TypeIs r T' ∧ typeLookup (.type T') "__next__" = pure (some l) ∧ Q r s') E s := fun L hp hm => by
    refine wpAny_bind (wpAny_setEpoch_of ho x.data x.fits ?_)
    refine wpAny_bind (wpAny_newObj_type (wpAny_pure ⟨_, rfl, "set_iterator", _, ⟨_, Heap.get?_push_size _ rfl, rfl⟩, slot_si_next.lookup, ?_⟩))
    obtain ⟨h1, h2⟩ := ents_ints x.ents hp
    have hz : L.length = es.size := by rw [hp.length_eq]; simp
    have hs := Heap.size_push s.heap { cls := .type "set_iterator", data := .fields [rawInt 0, rawInt 0, .ref S, rawInt es.size, rawInt ep].toArray }
    refine hQ _ S o es ep t L _ ⟨x, hz, h1, h2, Nat.ne_of_lt hlt, Nat.ne_of_lt hlt, .inl rfl, Nat.le_refl _, fun b hb => ?_, ⟨Heap.get?_push_of_some _ ho, _, ⟨_, Heap.get?_push_size _ rfl, rfl, rfl⟩, hm _⟩, fun b o e => Heap.get?_push_of_some _ e, ?_, rfl, rfl⟩
    · simp only [List.mem_cons, List.not_mem_nil, or_false] at hb
      show b < (s.heap.push _).objs.size
      rw [hs]
      rcases hb with rfl | rfl | rfl
      · exact Nat.lt_succ_self _
      · exact Nat.lt_succ_of_lt hlt
      · exact Nat.lt_succ_of_lt hlt
    · show _ ≤ (s.heap.push _).objs.size
      rw [hs]; omega
  cases hb : byT w with
  | true =>
    simp only [Bool.not_true, Bool.false_and, Bool.false_eq_true, if_false]
    refine wpAny_bind (wpAny_pure ?_)
    exact plain _ ((pick_perm (w.params.setOrder S ep) es).map (·.2)) fun h => .inl ⟨hb, rfl, rfl⟩
  | false =>
    cases hd : (!t.plain && decide (es.size > 1)) with
    | false =>
      simp only [Bool.not_false, Bool.true_and, Bool.false_eq_true, if_false]
      refine wpAny_bind (wpAny_pure ?_)
      exact plain _ (.refl _) fun h => .inr (.inl ⟨hb, hd, rfl, 0, rfl, below_zero x.rise⟩)
    | true =>
      simp only [Bool.not_false, Bool.true_and, if_true]
      refine wpAny_bind (draw_order List.length_range fun ord d hp => ?_)
      have hol : ord.length = es.size := by rw [hp.length_eq]; simp
      have hsm : es.size ≤ sizeLine := by have := x.small; rw [sizeLine_eq]; unfold scanBound at this; omega
      refine wpAny_bind (wpAny_newTuple ?_ (by rw [List.length_map, hol]; exact hsm))
      have ho' : (s.heap.push { cls := .type "tuple", data := .seq (ord.map fun p : Nat => rawInt p).toArray }).get? S = some o := Heap.get?_push_of_some _ ho
      refine wpAny_bind (wpAny_setEpoch_of (s := { s with heap := s.heap.push { cls := .type "tuple", data := .seq (ord.map fun p : Nat => rawInt p).toArray }, drawn := d }) ho' x.data x.fits ?_)
      refine wpAny_bind (wpAny_newObj_type (wpAny_pure ⟨_, rfl, "set_iterator", _, ⟨_, Heap.get?_push_size _ rfl, rfl⟩, slot_si_next.lookup, ?_⟩))
      have hpL : (ord.map fun p => (es[p]?.getD (0, Value.none)).2).Perm (es.toList.map (·.2)) := by
        rw [← range_map]; exact hp.map _
      obtain ⟨h1, h2⟩ := ents_ints x.ents hpL
      have hs := Heap.size_push s.heap { cls := .type "tuple", data := .seq (ord.map fun p : Nat => rawInt p).toArray }
      have hs2 := fun o' => Heap.size_push (s.heap.push { cls := .type "tuple", data := .seq (ord.map fun p : Nat => rawInt p).toArray }) o'
      refine hQ _ s.heap.objs.size o es ep t (ord.map fun p => (es[p]?.getD (0, Value.none)).2) _ ⟨x, by simp [hol], h1, h2, ?_, ?_, .inr (Nat.le_refl _), ?_, fun b hb => ?_, ⟨Heap.get?_push_of_some _ ho', _, ⟨_, Heap.get?_push_size _ rfl, rfl, rfl⟩, .inr (.inr ⟨ord, _, 0, rfl, Heap.get?_push_of_some _ (Heap.get?_push_size _ rfl), rfl, by simp, fun j p hj => ?_⟩)⟩, fun b o e => Heap.get?_push_of_some _ (Heap.get?_push_of_some _ e), ?_, rfl, rfl⟩
      · show S ≠ (s.heap.push _).objs.size
        rw [hs]; exact Nat.ne_of_lt (Nat.lt_succ_of_lt hlt)
      · show s.heap.objs.size ≠ (s.heap.push _).objs.size
        rw [hs]; omega
      · show s.heap.objs.size ≤ (s.heap.push _).objs.size
        rw [hs]; omega
      · simp only [List.mem_cons, List.not_mem_nil, or_false] at hb
        show b < ((s.heap.push _).push _).objs.size
        rw [hs2, hs]
        rcases hb with rfl | rfl | rfl
        · show (s.heap.push _).objs.size < _
          rw [hs]; exact Nat.lt_succ_self _
        · exact Nat.lt_succ_of_lt (Nat.lt_succ_of_lt hlt)
        · exact Nat.lt_succ_of_lt (Nat.lt_succ_self _)
      · have hm : p ∈ List.range es.size := hp.mem_iff.mp (List.mem_of_getElem? hj)
        have hlt' : p < es.size := by simpa using hm
        refine ⟨es[p], Array.getElem?_eq_getElem hlt', ?_⟩
        rw [List.getElem?_map, hj]
        simp [Array.getElem?_eq_getElem hlt']
      · show _ ≤ ((s.heap.push _).push _).objs.size
        rw [hs2, hs]; omega
end
end Mine
end

section
set_option autoImplicit false
set_option linter.unusedVariables false
set_option maxRecDepth 100000
namespace Mine
open PySem PyProof.Rows

theorem itemsOf_list {L : List Value} {acc : Array Value} (h : ItemsOf (fun i v => L[i]? = some v) acc L.length) : acc.toList = L := by
  refine List.ext_getElem (by rw [Array.length_toList]; exact h.1) fun i h1 h2 => ?_
  have h3 : i < acc.size := by simpa using h1
  have : L[i]? = some acc[i] := h.2 i acc[i] (Array.getElem?_eq_getElem h3)
  rw [List.getElem?_eq_getElem h2] at this
  simp only [Option.some.injEq] at this
  rw [this]; simp

section
variable {prog : Program} {w : World} {A : Around} {E : Value → Shared → Prop} {s : Shared} {S : Addr} {ns : List Int}

/-- what stands after a step that only adds -/
structure More (s s' : Shared) : Prop where
  keep : ∀ b o, s.heap.get? b = some o → s'.heap.get? b = some o
  size : s.heap.objs.size ≤ s'.heap.objs.size
  gens : s'.gens = s.gens
  os : s'.os = s.os

theorem hint_set {Q : Bool → Shared → Prop} (hT : s.TypeIs (.ref S) "set") (h : Q false s) : wpAny (model prog w) A (Builtin.List.listLengthHint (.ref S)) Q E s := by
  unfold Builtin.List.listLengthHint
  refine wpAny_bind (wpAny_specialOf hT F.slot_set_len.lookup ?_)
  have hsp : splitId "set.__len__" = some ("set", "__len__") := by kernel_rfl
  dsimp only
  rw [hsp]
  dsimp only
  refine wpAny_bind (wpAny_isInstance hT sub_set_self ?_)
  rw [if_neg (by simp), if_pos (by decide +kernel)]
  exact wpAny_bind (wpAny_typeOf hT (wpAny_pure h))

theorem collect_set {Q : List Value → Shared → Prop} (hh : A.handled = none) (hS : SetI (byT w) s.heap S ns)
    (hQ : ∀ s' L, More s s' → IntsAre L (L.map val) → (L.map val).Perm ns → Q L s') : wpAny (model prog w) A (collect (.ref S)) Q E s := by
  have hS0 := hS
  obtain ⟨o, es, ep, t, ho, x⟩ := hS0
  have hSlt := Heap.lt_size ho
  have hSne : s.heap.objs.size ≠ S := Nat.ne_of_gt hSlt
  unfold collect
  refine wpAny_bind (wpAny_runValue (codeAny_builtin F.entry_proto_collect ?_))
  rw [Around.under_plainId F.plain_proto_collect _]
  show wpAny _ A.in1 (newList [] >>= fun l => again (.builtin "list.__iadd__" ⟨[l, .ref S], []⟩)) _ _ s
  refine wpAny_bind (wpAny_newObj_type ?_)
  refine wpAny_pure ⟨plainId_quiet F.plain_list_iadd _, codeAny_builtin F.entry_list_iadd ?_⟩
  rw [Around.under_plainId F.plain_list_iadd _]
  generalize hs₁ : ({ s with heap := s.heap.push { cls := .type "list", data := .seq ([] : List Value).toArray } } : Shared) = s₁
  have hk1 : ∀ b o, s.heap.get? b = some o → s₁.heap.get? b = some o := fun b o e => by rw [← hs₁]; exact Heap.get?_push_of_some _ e
  have hz1 : s₁.heap.objs.size = s.heap.objs.size + 1 := by rw [← hs₁]; exact Heap.size_push _ _
  have hL1 : s₁.heap.get? s.heap.objs.size = some { cls := .type "list", data := .seq ([] : List Value).toArray } := by rw [← hs₁]; exact Heap.get?_push_size _ rfl
  have hg1 : s₁.gens = s.gens := by rw [← hs₁]
  have ho1 : s₁.os = s.os := by rw [← hs₁]
  have hT : s₁.TypeIs (.ref S) "set" := ⟨o, hk1 _ _ ho, x.ex.1⟩
  show wpAny _ A.in1 (Builtin.List.listExtendWith (.ref s.heap.objs.size) (.ref S) (.ref s.heap.objs.size)) _ _ s₁
  unfold Builtin.List.listExtendWith
  refine wpAny_bind (wpAny_typeOf hT ?_)
  have h1 : Builtin.List.listSameRef (.ref s.heap.objs.size) (.ref S) = false := by simp [Builtin.List.listSameRef, hSne]
  have h2 : (Value.type "set" == Value.type "list") = false := by decide
  have h3 : (Value.type "set" == Value.type "tuple") = false := by decide
  simp only [h1, h2, h3, Bool.or_false, Bool.false_eq_true, if_false]
  refine wpAny_bind (set_iter (hS.frame fun o e => hk1 _ _ e) fun I T o' es' ep' t' L s₂ St => ?_)
  have hT2 : s₂.TypeIs (.ref S) "set" := ⟨o, St.keep _ _ (hk1 _ _ ho), x.ex.1⟩
  refine wpAny_bind (wpAny_holding (hint_set hT2 ?_))
  show wpAny _ A.in1 (rule "list.extend.makes-room" >>= fun _ => Builtin.List.listTouch (.ref s.heap.objs.size) >>= fun _ =>
    again (.builtin "list.extend.loop" ⟨[.ref s.heap.objs.size, .ref I, .ref s.heap.objs.size], []⟩)) _ _ _
  refine wpAny_bind (wpAny_rule ?_)
  have hS₁ := St.keep _ _ hL1
  refine wpAny_bind ?_
  show wpAny _ A.in1 (updateSeq s.heap.objs.size (·.push .none) >>= fun _ => updateSeq s.heap.objs.size (·.pop)) _ _ _
  refine wpAny_bind (wpAny_updateSeq hS₁ rfl ?_)
  have hS₂ := Heap.get?_update_self (Obj.mapSeq (·.push Value.none)) hS₁ rfl
  refine wpAny_updateSeq hS₂ rfl ?_
  have hS₃ := Heap.get?_update_self (Obj.mapSeq (·.pop)) hS₂ rfl
  have oth : ∀ b o, b ≠ s.heap.objs.size → s₂.heap.get? b = some o →
      ((s₂.heap.update s.heap.objs.size (Obj.mapSeq (·.push Value.none))).update s.heap.objs.size (Obj.mapSeq (·.pop))).get? b = some o :=
    fun b o hb e => (Heap.get?_update_other _ _ (Ne.symm hb)).trans ((Heap.get?_update_other _ _ (Ne.symm hb)).trans e)
  have hh1 : A.in1.handled = none := hh
  have W := set_walks (prog := prog) (A := A.in1) hh1 St.sI St.tI St.obj St.len
  have hIlow : s.heap.objs.size < I := by have := St.low; omega
  have hSf : s.heap.objs.size ∉ [I, S, T] := fun q => by
    simp only [List.mem_cons, List.not_mem_nil, or_false] at q
    rcases q with q | q | q
    · exact Nat.ne_of_lt hIlow q
    · exact hSne q
    · rcases St.tlow with e | e
      · exact hSne (q.trans e)
      · rw [hz1] at e; omega
  refine wpAny_pure ⟨plainId_quiet F.plain_extend_loop _, codeAny_extend_loopS W (by have := St.obj.small; rw [sizeLine_eq]; unfold scanBound at this; omega) _ hSf _ es'.size 0 _ _ _ rfl (Nat.zero_le _)
    (W.frame 0 s₂ _ s₂.toks St.st (Nat.le_refl _) fun b hb o e => oth b o (fun h => hSf (h ▸ hb)) e) hS₃ (ItemsOf.nil _) fun s' acc' c' hm hS' hacc => ?_⟩
  show wpAny _ A (load s.heap.objs.size >>= _) _ _ s'
  refine wpAny_bind (wpAny_load hS' ?_)
  rw [← St.len] at hacc
  refine wpAny_pure ?_
  rw [itemsOf_list hacc]
  refine hQ s' L ⟨fun b o e => ?_, ?_, hm.gens.trans (St.gens.trans hg1), hm.os.trans (St.os.trans ho1)⟩ St.areInts St.perm
  · refine hm.heap b o (fun q => ?_) (oth b o (Nat.ne_of_lt (Heap.lt_size e)) (St.keep _ _ (hk1 _ _ e)))
    simp only [List.mem_cons, List.not_mem_nil, or_false] at q
    rcases q with q | q
    · exact Nat.ne_of_lt (Heap.lt_size e) q
    · exact Nat.ne_of_lt (Nat.lt_trans (Heap.lt_size e) hIlow) q
  · exact Nat.le_of_lt (Heap.lt_size hS')
end
end Mine
end

section
set_option autoImplicit false
set_option linter.unusedVariables false
set_option maxRecDepth 100000
namespace Mine
open PySem PyProof.Rows

section
variable {prog : Program} {w : World} {A : Around} {E : Value → Shared → Prop} {s : Shared} {S : Addr} {ns : List Int}
theorem srt_at {h : Heap} {a : Addr} {vs : List Value} {out : Array Value} {c : String} {xs : Array Value} {n : Nat} (ho : h.get? a = some (seqObj c xs n)) : ∃ e, (sortedHeap h a vs out).get? a = some (seqObj c out e) := by
  have hlt := Heap.lt_size ho
  unfold sortedHeap
  obtain ⟨e, he⟩ : ∃ e, ((((h.update a (Obj.mapSeq fun _ => #[])).push (seqObj "tuple" vs.toArray 0)).push (seqObj "list" #[] 0))).get? a = some (seqObj c #[] e) :=
    ⟨_, Heap.get?_push_of_some _ (Heap.get?_push_of_some _ (get?_update_seq ho (fun _ => #[])))⟩
  exact ⟨_, get?_update_seq he (fun _ => out)⟩
theorem srt_old {h : Heap} {a : Addr} {vs : List Value} {out : Array Value} {b : Addr} {o : Obj} (hb : b ≠ a) (e : h.get? b = some o) : (sortedHeap h a vs out).get? b = some o := by
  unfold sortedHeap
  rw [Heap.get?_update_other _ _ (Ne.symm hb)]
  refine Heap.get?_push_of_some _ (Heap.get?_push_of_some _ ?_)
  rw [Heap.get?_update_other _ _ (Ne.symm hb)]
  exact e
theorem srt_size {h : Heap} {a : Addr} {vs : List Value} {out : Array Value} : h.objs.size ≤ (sortedHeap h a vs out).objs.size := by
  unfold sortedHeap
  rw [Heap.size_update, Heap.size_push, Heap.size_push, Heap.size_update]
  omega

theorem sorted_set {Q : Value → Shared → Prop} (hh : A.handled = none) (hS : SetI (byT w) s.heap S ns) (h64 : ns.length < 64)
    (h : ∀ (s' : Shared) (vs : List Value) (ns' : List Int) (a : Addr) (e : Nat), More s s' → IntsAre vs ns' → ns'.Perm ns → ns'.Pairwise (· ≤ ·) → s.heap.objs.size ≤ a → s'.heap.get? a = some { cls := .type "list", data := .seq vs.toArray e } → Q (.ref a) s') :
    wpAny (model prog w) A (call (.builtin "sorted") [.ref S]) Q E s := by
  refine Calls.call_function_entry kind_sorted plain_sorted entry_sorted (args_sorted1 _) ?_
  unfold Builtin.«sorted»
  refine wpAny_bind (m := checkCount "sorted" 1 1 _) (wpAny_pure ?_)
  refine wpAny_bind (collect_set hh hS fun s₁ L M hI hp => ?_)
  have hL : L.length < 64 := by
    have h1 := IntsAre.length hI
    have h2 := hp.length_eq
    omega
  refine wpAny_bind (wpAny_newList ?_ (by rw [sizeLine_eq]; omega))
  have hoL : (s₁.heap.push (seqObj "list" L.toArray 0)).get? s₁.heap.objs.size = some (seqObj "list" L.toArray 0) := Heap.get?_push_size _ rfl
  generalize hs₂ : ({ s₁ with heap := s₁.heap.push (seqObj "list" L.toArray 0) } : Shared) = s₂
  have hoL2 : s₂.heap.get? s₁.heap.objs.size = some (seqObj "list" L.toArray 0) := by rw [← hs₂]; exact hoL
  have M2 : More s s₂ := by
    rw [← hs₂]
    exact ⟨fun b o q => Heap.get?_push_of_some _ (M.keep b o q), by show _ ≤ (s₁.heap.push _).objs.size; rw [Heap.size_push]; exact Nat.le_succ_of_le M.size, M.gens, M.os⟩
  have hlow : ∀ b o, s.heap.get? b = some o → b ≠ s₁.heap.objs.size := fun b o q => Nat.ne_of_lt (Heap.lt_size (M.keep b o q))
  refine wpAny_bind (wpAny_holding (wpAny_call_entry slot_list_sort ⟨_, hoL2, rfl⟩ entry_list_sort (list_sort_tree hoL2 hI hL fun out ns' a1 a2 a3 => ⟨_, rfl, ?_⟩) (args_list_sort _)))
  obtain ⟨e, he⟩ := srt_at (vs := L) (out := out) hoL2
  have M3 : More s { s₂ with heap := sortedHeap s₂.heap s₁.heap.objs.size L out } := ⟨fun b o q => srt_old (hlow b o q) (M2.keep b o q), Nat.le_trans M2.size srt_size, M2.gens, M2.os⟩
  exact wpAny_pure ⟨_, rfl, h _ out.toList ns' s₁.heap.objs.size e M3 a1 (a2.trans hp) a3 M.size (by rw [Array.toArray_toList]; exact he)⟩
end
end Mine
end

section
set_option autoImplicit false
namespace Mine
open PySem

inductive Key where
  | i (n : Int)
  | s (x : Str)
  deriving DecidableEq

/-- frozen data -/
inductive D where
  | none
  | bool (b : Bool)
  | int (i : Int)
  | str (s : Str)
  | tup (xs : List D)
  | list (xs : List D)
  | dict (ks : List Key) (vs : List D)
  | set (ks : List Key)
  deriving Inhabited

/-- values: data, or an object of the store, or a tuple that has such -/
inductive V where
  | d (x : D)
  | obj (n : Nat)
  | tup (xs : List V)
  deriving Inhabited

inductive MO where
  | list (xs : List V)
  | dict (ks : List Key) (vs : List V)
  | inst (c : Str) (ks : List Str) (vs : List V)
  deriving Inhabited

abbrev St := List (Bool × MO)
abbrev Loc := List (Str × V)

inductive Fl where
  | next
  | ret (v : V)

noncomputable def allD : List V → Option (List D)
  | [] => some []
  | .d x :: r => (allD r).map (x :: ·)
  | _ :: _ => none

noncomputable def getV (x : Str) : Loc → Option V
  | [] => none
  | (y, v) :: r => if x = y then some v else getV x r
noncomputable def setV (x : Str) (v : V) : Loc → Loc
  | [] => [(x, v)]
  | (y, u) :: r => if x = y then (y, v) :: r else (y, u) :: setV x v r

noncomputable def getK {α : Type} (k : Key) : List Key → List α → Option α
  | k' :: ks, v :: vs => if k = k' then some v else getK k ks vs
  | _, _ => none
noncomputable def putK {α : Type} (k : Key) (v : α) : List Key → List α → List Key × List α
  | k' :: ks, u :: vs => if k = k' then (k' :: ks, v :: vs) else ((k' :: (putK k v ks vs).1), u :: (putK k v ks vs).2)
  | _, _ => ([k], [v])
noncomputable def getS {α : Type} (k : Str) : List Str → List α → Option α
  | k' :: ks, v :: vs => if k = k' then some v else getS k ks vs
  | _, _ => none
noncomputable def putS {α : Type} (k : Str) (v : α) : List Str → List α → List Str × List α
  | k' :: ks, u :: vs => if k = k' then (k' :: ks, v :: vs) else ((k' :: (putS k v ks vs).1), u :: (putS k v ks vs).2)
  | _, _ => ([k], [v])

noncomputable def keyOf : V → Option Key
  | .d (.int i) => some (.i i)
  | .d (.str s) => some (.s s)
  | _ => none
noncomputable def Key.toD : Key → D
  | .i n => .int n
  | .s x => .str x

noncomputable def oget (σ : St) (n : Nat) : Option MO := (σ[n]?).map (·.2)
/-- change an object that is not locked -/
noncomputable def oput (σ : St) (n : Nat) (o : MO) : Option St :=
  match σ[n]? with
  | some (false, _) => some (σ.set n (false, o))
  | _ => none

noncomputable def mkTup (vs : List V) : V := match allD vs with
  | some ds => .d (.tup ds)
  | none => .tup vs

/-- the items of a list or tuple -/
noncomputable def seqV (σ : St) : V → Option (List V)
  | .d (.list xs) => some (xs.map .d)
  | .d (.tup xs) => some (xs.map .d)
  | .tup xs => some xs
  | .obj n => match oget σ n with
    | some (.list xs) => some xs
    | _ => none
  | _ => none

noncomputable def idxL {α : Type} (xs : List α) (i : Int) : Option α :=
  if 0 ≤ i then (if i < 1000000000 then xs[i.toNat]? else none)
  else if -(xs.length : Int) ≤ i ∧ -1000000000 ≤ i then xs[(i + xs.length).toNat]? else none

noncomputable def chr1 (c : Nat) : Str := ⟨#[c]⟩

noncomputable def getItemV (σ : St) (o i : V) : Option V :=
  match o, i with
  | .d (.list xs), .d (.int k) => (idxL xs k).map .d
  | .d (.tup xs), .d (.int k) => (idxL xs k).map .d
  | .d (.str s), .d (.int k) => if 0 ≤ k ∧ k < 1000000000 then (s.cps.toList[k.toNat]?).map (fun c => .d (.str (chr1 c))) else none
  | .d (.dict ks vs), i => (keyOf i).bind fun k => (getK k ks vs).map .d
  | .tup xs, .d (.int k) => idxL xs k
  | .obj n, i => match oget σ n with
    | some (.list xs) => match i with
      | .d (.int k) => idxL xs k
      | _ => none
    | some (.dict ks vs) => (keyOf i).bind fun k => getK k ks vs
    | _ => none
  | _, _ => none

noncomputable def sizeOk (n : Nat) : Bool := decide (n < 100000)

noncomputable def setItemV (σ : St) (o i v : V) : Option St :=
  match o with
  | .obj n => match oget σ n with
    | some (.list xs) => match i with
      | .d (.int k) => if 0 ≤ k ∧ k < 1000000000 ∧ k.toNat < xs.length then oput σ n (.list (xs.set k.toNat v)) else none
      | _ => none
    | some (.dict ks vs) => (keyOf i).bind fun k => if sizeOk ks.length then oput σ n (.dict (putK k v ks vs).1 (putK k v ks vs).2) else none
    | _ => none
  | _ => none

noncomputable def cutL {α : Type} (xs : List α) (lo : Nat) : Option Nat → List α
  | none => xs.drop lo
  | some hi => (xs.take hi).drop lo

noncomputable def sliceV (σ : St) (o : V) (lo : Nat) (hi : Option Nat) : Option V :=
  match o with
  | .d (.list xs) => if xs.length < 100000 then some (.d (.list (cutL xs lo hi))) else none
  | .obj n => match oget σ n with
    | some (.list xs) => if xs.length < 100000 then (allD (cutL xs lo hi)).map fun ds => .d (.list ds) else none
    | _ => none
  | _ => none

noncomputable def small (x : Int) : Bool := decide (x.natAbs < 2 ^ 64)

noncomputable def intV : V → Option Int
  | .d x => match x with
    | .int i => some i
    | _ => none
  | _ => none
noncomputable def boolV : V → Option Bool
  | .d x => match x with
    | .bool i => some i
    | _ => none
  | _ => none
noncomputable def tupV : V → Option (List D)
  | .d x => match x with
    | .tup i => some i
    | _ => none
  | _ => none
noncomputable def listV : V → Option (List D)
  | .d x => match x with
    | .list i => some i
    | _ => none
  | _ => none
noncomputable def binI (op : Operator) (a b : Int) : Option D := match op with
  | .Add => some (.int (a + b))
  | .Sub => some (.int (a - b))
  | .Mult => if small a then some (.int (a * b)) else none
  | .FloorDiv => if 0 < b ∧ b < 1000000000 then some (.int (a / b)) else none
  | .Mod => if 0 < b then some (.int (a % b)) else none
  | _ => none
noncomputable def addV (a b : V) : Option V := match intV a with
  | some x => (intV b).map fun y => .d (.int (x + y))
  | none => (tupV a).bind fun x => (tupV b).bind fun y => if sizeOk (x ++ y).length then some (.d (.tup (x ++ y))) else none
noncomputable def binV (_ : St) (op : Operator) (a b : V) : Option V :=
  match op with
  | .Add => addV a b
  | op => (intV a).bind fun x => (intV b).bind fun y => (binI op x y).map V.d

noncomputable def and2 (a b : Option Bool) : Option Bool := a.bind fun x => b.map fun y => x && y
/-- two rows of items, each with each -/
noncomputable def eqL (f : D → D → Option Bool) : List D → List D → Option Bool
  | x :: xs, y :: ys => and2 (f x y) (eqL f xs ys)
  | _, _ => some true
noncomputable def eqK (f : D → D → Option Bool) : List Key → List D → List Key → List D → Option Bool
  | k :: ks, v :: vs, js, us => match getK k js us with
    | none => some false
    | some u => and2 (f v u) (eqK f ks vs js us)
  | _, _, _, _ => some true

/-- equality of data that has no dict, so many deep -/
noncomputable def eqS (x y : D) : Option Bool := match x with
  | .int a => match y with
    | .int b => some (decide (a = b))
    | _ => none
  | .str a => match y with
    | .str b => some (decide (a = b))
    | _ => none
  | .none => match y with
    | .none => some true
    | _ => none
  | .bool a => match y with
    | .bool b => some (a == b)
    | _ => none
  | _ => none
noncomputable def eqP : Nat → D → D → Option Bool
  | 0, x, y => eqS x y
  | k + 1, x, y => match x with
    | .tup xs => match y with
      | .tup ys => (eqL (eqP k) xs ys).map fun b => b && decide (xs.length = ys.length)
      | _ => none
    | .list xs => match y with
      | .list ys => if xs.length = ys.length then eqL (eqP k) xs ys else some false
      | _ => none
    | x => eqS x y

/-- equality of data; a dict's values have no dict -/
noncomputable def eqD (x y : D) : Option Bool :=
  match x, y with
  | .dict ks vs, .dict js us => if ks.length = js.length then eqK (eqP 20) ks vs js us else some false
  | x, y => eqP 20 x y

noncomputable def mapO {α β : Type} (f : α → Option β) : List α → Option (List β)
  | [] => some []
  | x :: r => (f x).bind fun y => (mapO f r).map (y :: ·)

/-- a value as data, as it lies now -/
noncomputable def view : Nat → St → V → Option D
  | k, σ, v => match v with
    | .d x => some x
    | .tup xs => match k with
      | 0 => none
      | k + 1 => (mapO (view k σ) xs).map .tup
    | .obj n => match k with
      | 0 => none
      | k + 1 => match oget σ n with
        | some (.list xs) => (mapO (view k σ) xs).map .list
        | some (.dict ks vs) => (mapO (view k σ) vs).map (.dict ks)
        | _ => none

/-- reading: at most six deep -/
noncomputable abbrev rd (σ : St) (v : V) : Option D := view 6 σ v

noncomputable def truthV (_ : St) (v : V) : Option Bool :=
  match v with
  | .d .none => some false
  | .d (.bool b) => some b
  | .d (.int i) => some (decide (i ≠ 0))
  | _ => none

noncomputable def intsOf : List D → Option (List Int)
  | [] => some []
  | .int i :: r => (intsOf r).map (i :: ·)
  | _ :: _ => none
noncomputable def strsOf : List D → Option (List Str)
  | [] => some []
  | .str i :: r => (strsOf r).map (i :: ·)
  | _ :: _ => none
noncomputable def boolsOf : List D → Option (List Bool)
  | [] => some []
  | .bool i :: r => (boolsOf r).map (i :: ·)
  | _ :: _ => none

/-- what a loop takes from data -/
noncomputable def itemsD : D → Option (List D)
  | .list xs => some xs
  | .dict ks _ => some (ks.map Key.toD)
  | _ => none

noncomputable def inL (x : D) : List D → Option Bool
  | [] => some false
  | y :: r => match eqP 20 y x, inL x r with
    | some a, some b => some (a || b)
    | _, _ => none

noncomputable def inD (x : D) : D → Option Bool
  | .list ys => inL x ys
  | .tup ys => inL x ys
  | .dict ks _ => (keyOf (.d x)).map fun k => ks.contains k
  | _ => none

noncomputable def cmpV (σ : St) (op : CmpOp) (a b : V) : Option Bool :=
  match op with
  | .Is => match b with
    | .d .none => match a with
      | .d .none => some true
      | _ => some false
    | _ => none
  | .IsNot => match b with
    | .d .none => match a with
      | .d .none => some false
      | _ => some true
    | _ => none
  | .Eq => (rd σ a).bind fun x => (rd σ b).bind fun y => eqD x y
  | .NotEq => (rd σ a).bind fun x => (rd σ b).bind fun y => (eqD x y).map not
  | .In => (rd σ a).bind fun x => (rd σ b).bind fun y => inD x y
  | .NotIn => (rd σ a).bind fun x => (rd σ b).bind fun y => (inD x y).map not
  | .Lt => match a, b with
    | .d (.int x), .d (.int y) => some (decide (x < y))
    | _, _ => none
  | .LtE => match a, b with
    | .d (.int x), .d (.int y) => some (decide (x ≤ y))
    | _, _ => none
  | .Gt => match a, b with
    | .d (.int x), .d (.int y) => some (decide (x > y))
    | _, _ => none
  | .GtE => match a, b with
    | .d (.int x), .d (.int y) => some (decide (x ≥ y))
    | _, _ => none

noncomputable def lenD : D → Option Nat
  | .list xs => some xs.length
  | .tup xs => some xs.length
  | .dict ks _ => some ks.length
  | .str s => some s.length
  | _ => none

noncomputable def sortI (ns : List Int) : List Int := ns.mergeSort fun a b => decide (a ≤ b)
noncomputable def sortS (ns : List Str) : List Str := ns.mergeSort fun a b => decide (a.cps.toList ≤ b.cps.toList)

noncomputable def sortD (xs : List D) : Option D :=
  if xs.length < 64 then (intsOf xs).map fun ns => .list ((sortI ns).map .int) else none

noncomputable def keysOf : List D → Option (List Key)
  | [] => some []
  | x :: r => (keyOf (.d x)).bind fun k => (keysOf r).map (k :: ·)

noncomputable def minL : List Int → Option Int
  | [] => none
  | x :: r => some (r.foldl (fun a b => if b < a then b else a) x)
noncomputable def maxL : List Int → Option Int
  | [] => none
  | x :: r => some (r.foldl (fun a b => if b > a then b else a) x)

inductive Bf where
  | len | min | max | int | list | dict | set | sorted | all
noncomputable def bfL : List (Str × Bf) := [("len", .len), ("min", .min), ("max", .max), ("int", .int), ("list", .list), ("dict", .dict), ("set", .set), ("sorted", .sorted), ("all", .all)]
noncomputable def bfOf (f : Str) : Option Bf := bfL.lookup f

noncomputable def one1 (args : List V) : Option V := match args with
  | [v] => some v
  | _ => none
noncomputable def listD : D → Option (List D)
  | .list xs => some xs
  | _ => none
noncomputable def sortIn : D → Option (List D)
  | .list xs => some xs
  | .set ks => some (ks.map Key.toD)
  | _ => none
noncomputable def addI (σ : List Int) (v : Int) : List Int := if σ.any (· == v) then σ else σ ++ [v]
noncomputable def dedI (ns : List Int) : List Int := ns.foldl addI []
noncomputable def ints1 (σ : St) (v : V) : Option (List Int) := (rd σ v).bind fun x => (listD x).bind intsOf
noncomputable def minV (σ : St) (args : List V) : Option V := match args with
  | [v] => (ints1 σ v).bind fun ns => (minL ns).map fun i => .d (.int i)
  | [a, b] => (intV a).bind fun x => (intV b).map fun y => .d (.int (if y < x then y else x))
  | _ => none
noncomputable def maxV (σ : St) (args : List V) : Option V := match args with
  | [v] => (ints1 σ v).bind fun ns => (maxL ns).map fun i => .d (.int i)
  | [a, b] => (intV a).bind fun x => (intV b).map fun y => .d (.int (if y > x then y else x))
  | _ => none
noncomputable def dictV (σ : St) (v : V) : Option V := match v with
  | .d x => match x with
    | .dict ks vs => if sizeOk ks.length then some (.d (.dict ks vs)) else none
    | _ => none
  | .obj n => match oget σ n with
    | some (.dict ks vs) => if sizeOk ks.length then (allD vs).map fun ds => .d (.dict ks ds) else none
    | _ => none
  | _ => none
noncomputable def bfV (σ : St) (f : Bf) (args : List V) : Option V :=
  match f with
  | .len => (one1 args).bind fun v => (rd σ v).bind fun x => (lenD x).bind fun n => if sizeOk n then some (.d (.int n)) else none
  | .min => minV σ args
  | .max => maxV σ args
  | .int => (one1 args).bind fun v => (boolV v).map fun b => .d (.int (if b then 1 else 0))
  | .list => (one1 args).bind fun v => (listV v).bind fun xs => if sizeOk xs.length then some (.d (.list xs)) else none
  | .dict => (one1 args).bind fun v => dictV σ v
  | .sorted => (one1 args).bind fun v => (rd σ v).bind fun x => (sortIn x).bind fun xs => (sortD xs).map .d
  | .set => (one1 args).bind fun v => (ints1 σ v).bind fun ns => if ns.length < 1000 then some (.d (.set ((dedI ns).map .i))) else none
  | _ => none

noncomputable def isiD (t : Str) : D → Option Bool
  | .none => some false
  | .bool _ => some (t = "int" || t = "bool")
  | .int _ => some (t = "int")
  | .str _ => some (t = "str")
  | .tup _ => some (t = "tuple")
  | .list _ => some (t = "list")
  | .dict _ _ => some (t = "dict")
  | .set _ => none
noncomputable def isiV (σ : St) (t : Str) : V → Option Bool
  | .d x => isiD t x
  | .tup _ => some (t = "tuple")
  | .obj n => match oget σ n with
    | some (.list _) => some (t = "list")
    | some (.dict _ _) => some (t = "dict")
    | _ => none
noncomputable def typeNames : List Str := ["int", "bool", "str", "tuple", "list", "dict"]

noncomputable def nameE : Expr → Option Str
  | .Name n _ => some n
  | _ => none

structure Genv where
  const : Str → Option D
  fn : Str → Bool
  cls : Str → Bool
  fresh : Str → Bool
  call : Str → List V → St → Option (V × St)
  mcall : Str → Str → List V → St → Option (V × St)
  make : Str → List V → St → Option (V × St)
  owned : Str → Bool
  ownRet : Bool

/-- a new container goes into the store -/
noncomputable def adopt (v : V) (σ : St) : V × St :=
  match v with
  | .d (.list xs) => (.obj σ.length, σ ++ [(false, .list (xs.map .d))])
  | .d (.dict ks vs) => (.obj σ.length, σ ++ [(false, .dict ks (vs.map .d))])
  | v => (v, σ)

/-- in own mode a new container goes into the store -/
noncomputable def own (b : Bool) (v : V) (σ : St) : V × St := if b then adopt v σ else (v, σ)

noncomputable def joinS : List Str → Str
  | [] => ⟨#[]⟩
  | x :: r => x ++ joinS r

/-- methods of the built-in containers and of str -/
inductive Mk where
  | append | dclear | join
noncomputable def mkOf (σ : St) (m : Str) (o : V) : Option Mk :=
  match o with
  | .obj n => match oget σ n with
    | some (.list _) => if m = "append" then some .append else none
    | some (.dict _ _) => if m = "clear" then some .dclear else none
    | _ => none
  | .d (.str _) => if m = "join" then some .join else none
  | _ => none

noncomputable def strsV : List V → Option (List Str)
  | [] => some []
  | v :: r => match v with
    | .d (.str x) => (strsV r).map (x :: ·)
    | _ => none
noncomputable def joinFit (ts : List Str) : Bool := decide (ts.length ≤ 1000) && ts.all fun t => decide (t.length ≤ 1000)

noncomputable def methV (σ : St) (k : Mk) (o : V) (args : List V) : Option (V × St) :=
  match k, o, args with
  | .append, .obj n, [v] => match oget σ n with
      | some (.list xs) => if sizeOk xs.length then (oput σ n (.list (xs ++ [v]))).map fun σ => (.d .none, σ) else none
      | _ => none
  | .dclear, .obj n, [] => match oget σ n with
      | some (.dict ks _) => if sizeOk ks.length then (oput σ n (.dict [] [])).map fun σ => (.d .none, σ) else none
      | _ => none
  | .join, .d (.str s), [.obj n] => match oget σ n with
      | some (.list xs) => (strsV xs).bind fun ts => if s.length = 0 ∧ joinFit ts = true then some (.d (.str (Str.join s ts)), σ) else none
      | _ => none
  | _, _, _ => none

noncomputable def clsOf (σ : St) : V → Option Str
  | .obj n => match oget σ n with
    | some (.inst c _ _) => some c
    | _ => none
  | _ => none

noncomputable def attrV (σ : St) (o : V) (a : Str) : Option V :=
  match o with
  | .obj n => match oget σ n with
    | some (.inst _ ks vs) => getS a ks vs
    | _ => none
  | _ => none
noncomputable def setAttrV (σ : St) (o : V) (a : Str) (v : V) : Option St :=
  match o with
  | .obj n => match oget σ n with
    | some (.inst c ks vs) => oput σ n (.inst c (putS a v ks vs).1 (putS a v ks vs).2)
    | _ => none
  | _ => none

noncomputable def rangeD (a b : Int) : List V := (List.range (b - a).toNat).map fun (k : Nat) => .d (.int (a + k))

noncomputable def lockO (b : Bool) (n : Nat) (σ : St) : St := match σ[n]? with
  | some (_, o) => σ.set n (b, o)
  | none => σ
noncomputable def lockd (n : Nat) (σ : St) : Bool := match σ[n]? with
  | some (b, _) => b
  | none => false

noncomputable def zipD : List D → List D → List V
  | x :: xs, y :: ys => .d (.tup [x, y]) :: zipD xs ys
  | _, _ => []

/-- a loop over items -/
noncomputable def loopL (f : V → Loc → St → Option (Fl × Loc × St)) : List V → Loc → St → Option (Fl × Loc × St)
  | [], ρ, σ => some (.next, ρ, σ)
  | v :: r, ρ, σ => (f v ρ σ).bind fun (fl, ρ, σ) => match fl with
    | .next => loopL f r ρ σ
    | .ret v => some (.ret v, ρ, σ)
noncomputable def whileL (t : Loc → St → Option (Bool × St)) (f : Loc → St → Option (Fl × Loc × St)) : Nat → Loc → St → Option (Fl × Loc × St)
  | 0, _, _ => none
  | k + 1, ρ, σ => (t ρ σ).bind fun (b, σ) => if b then (f ρ σ).bind fun (fl, ρ, σ) => match fl with
      | .next => whileL t f k ρ σ
      | .ret v => some (.ret v, ρ, σ)
    else some (.next, ρ, σ)

noncomputable def captured (sc : Scope) (ρ : Loc) : Loc := ρ.filter fun p => sc.names.lookup p.1 == some .free

noncomputable def constD : Const → Option D
  | .none => some .none
  | .bool b => some (.bool b)
  | .int i => some (.int i)
  | .str s => some (.str s)
  | _ => none

noncomputable def natV : V → Option Nat
  | .d (.int k) => if 0 ≤ k then some k.toNat else none
  | _ => none

/-- the items of a value to be looped over, and the object that must not change meanwhile -/
noncomputable def iterV (_ : St) (v : V) : Option (List V × Option Nat) :=
  match v with
  | .d x => (itemsD x).map fun xs => (xs.map .d, none)
  | _ => none


noncomputable def iterF (_ : St) (f : Str) (vs : List V) : Option (List V × Option Nat) :=
  if f = "range" then match vs with
    | [.d (.int b)] => if -1000000 ≤ b ∧ b ≤ 1000000 then some (rangeD 0 b, none) else none
    | [.d (.int a), .d (.int b)] => if (-1000000 ≤ a ∧ a ≤ 1000000) ∧ (-1000000 ≤ b ∧ b ≤ 1000000) then some (rangeD a b, none) else none
    | _ => none
  else if f = "zip" then match vs with
    | [a, b] => (tupV a).bind fun xs => (tupV b).bind fun ys => if xs.length = ys.length ∧ xs.length ≤ 1000 then some (zipD xs ys, none) else none
    | _ => none
  else if f = "reversed" then (one1 vs).bind fun v => (listV v).bind fun xs => if sizeOk xs.length then some (xs.reverse.map .d, none) else none
  else none
noncomputable def isItF (f : Str) : Bool := f = "range" || f = "zip" || f = "reversed"
noncomputable def isIt : Expr → Bool
  | .Call (.Name f _) _ _ _ => isItF f
  | _ => false

noncomputable def bindT (t : Expr) (v : V) : Option Loc :=
  match t with
  | .Name x _ => some [(x, v)]
  | .Tuple [.Name x _, .Name y _] _ _ => match v with
    | .d (.tup [a, b]) => some [(x, .d a), (y, .d b)]
    | _ => none
  | _ => none

noncomputable def constKeys : List (Option Expr) → Option (List Key)
  | [] => some []
  | some (.Constant c _ _) :: r => (constD c).bind fun d => (keyOf (.d d)).bind fun k => (constKeys r).map (k :: ·)
  | _ :: _ => none

noncomputable def mkList (o : Bool) (vs : List V) (σ : St) : Option (V × St) :=
  if o then some (.obj σ.length, σ ++ [(false, .list vs)]) else (allD vs).map fun ds => (.d (.list ds), σ)
noncomputable def mkDict (ks : List Key) (vs : List V) (σ : St) : Option (V × St) :=
  if ks.length = vs.length ∧ ks.length ≤ 15 ∧ ks.Nodup then (allD vs).map fun ds => (.d (.dict ks ds), σ) else none

/-- the number that a value is, the text that it is -/
noncomputable def intD : Option D → Option Int
  | some (.int a) => some a
  | _ => none
noncomputable def strD : Option D → Option Str
  | some (.str a) => some a
  | _ => none
/-- what a comprehension's item may be -/
noncomputable def evP (ρ : Loc) : Expr → Option D
  | .Constant c _ _ => constD c
  | .Name x _ => match getV x ρ with
    | some (.d d) => some d
    | _ => none
  | .BinOp l op r _ => (intD (evP ρ l)).bind fun a => (intD (evP ρ r)).bind fun b => binI op a b
  | .Subscript e i _ => (strD (evP ρ e)).bind fun s => (intD (evP ρ i)).bind fun k => if 0 ≤ k ∧ k < 1000000000 then (s.cps.toList[k.toNat]?).map fun c => .str (chr1 c) else none
  | _ => none
noncomputable def scalar : D → Bool
  | .int _ => true
  | .str _ => true
  | _ => false
noncomputable def itemP (sc : Scope) (ρ : Loc) (tgt elt : Expr) (v : V) : Option D :=
  (bindT tgt v).bind fun l => (evP (l ++ captured sc ρ) elt).bind fun d => if scalar d then some d else none

noncomputable def lockS (src : Option Nat) (σ : St) : St := match src with
  | some n => lockO true n σ
  | none => σ
noncomputable def unlockS (src : Option Nat) (σ σ' : St) : St := match src with
  | some n => lockO (lockd n σ) n σ'
  | none => σ'

mutual
noncomputable def evE (G : Genv) (ρ : Loc) (o : Bool) : Expr → St → Option (V × St)
  | .Constant c _ _, σ => (constD c).map fun d => (.d d, σ)
  | .Name x _, σ => match getV x ρ with
    | some v => some (v, σ)
    | none => (G.const x).map fun d => (.d d, σ)
  | .BoolOp op es _, σ => evB G ρ op es σ
  | .BinOp l op r _, σ => (evE G ρ false l σ).bind fun (a, σ) => (evE G ρ false r σ).bind fun (b, σ) => (binV σ op a b).map fun v => own o v σ
  | .UnaryOp op e _, σ => (evE G ρ false e σ).bind fun (a, σ) => match op with
    | .Not => (truthV σ a).map fun b => (.d (.bool !b), σ)
    | .USub => match a with
      | .d (.int i) => some (.d (.int (-i)), σ)
      | _ => none
    | _ => none
  | .Compare l ops es _, σ => (evE G ρ false l σ).bind fun (a, σ) => (evC G ρ a ops es σ).map fun (b, σ) => (.d (.bool b), σ)
  | .Tuple es _ _, σ => (evEs G ρ o es σ).map fun (vs, σ) => (mkTup vs, σ)
  | .List es _, σ => (evEs G ρ o es σ).bind fun (vs, σ) => mkList o vs σ
  | .Dict ks vs _, σ => match ks with
    | [] => match vs with
      | [] => some (own o (.d (.dict [] [])) σ)
      | _ => none
    | ks => if o then none else (constKeys ks).bind fun js => (evEs G ρ false vs σ).bind fun (vs, σ) => mkDict js vs σ
  | .Subscript e i _, σ => (evE G ρ false e σ).bind fun (ov, σ) => match i with
    | .Slice lo hi st _ => match lo, st with
      | some lo, none => (evE G ρ false lo σ).bind fun (lv, σ) => (natV lv).bind fun ln => match hi with
        | none => (sliceV σ ov ln none).map fun v => own o v σ
        | some hi => (evE G ρ false hi σ).bind fun (hv, σ) => (natV hv).bind fun hn => (sliceV σ ov ln (some hn)).map fun v => own o v σ
      | _, _ => none
    | i => (evE G ρ false i σ).bind fun (iv, σ) => (getItemV σ ov iv).map fun v => (v, σ)
  | .Attribute e a _, σ => (evE G ρ false e σ).bind fun (ov, σ) => (attrV σ ov a).map fun v => (v, σ)
  | .Call f args ks _, σ => match ks with
    | _ :: _ => none
    | [] => match f with
      | .Name f _ =>
        if f = "isinstance" then match args with
          | [x, t] => (evE G ρ false x σ).bind fun (v, σ) => (nameE t).bind fun t => if typeNames.contains t then (isiV σ t v).map fun b => (.d (.bool b), σ) else none
          | _ => none
        else match bfOf f with
        | some b => (evEs G ρ false args σ).bind fun (vs, σ) => (bfV σ b vs).map fun v => own o v σ
        | none => if G.fn f then (evEs G ρ false args σ).bind fun (vs, σ) => (G.call f vs σ).map fun (v, σ) => own (o && G.fresh f) v σ
          else if G.cls f then (evEs G ρ false args σ).bind fun (vs, σ) => G.make f vs σ else none
      | .Attribute e m _ => (evE G ρ false e σ).bind fun (ov, σ) => match clsOf σ ov with
        | some c => (evEs G ρ false args σ).bind fun (vs, σ) => G.mcall c m (ov :: vs) σ
        | none => (mkOf σ m ov).bind fun k => (evEs G ρ true args σ).bind fun (vs, σ) => methV σ k ov vs
      | _ => none
  | .ListComp elt gens sc _, σ => match gens with
    | [⟨tgt, it, ifs, a⟩] => match ifs with
      | [] => if a = 0 then (evI G ρ it σ).bind fun (vs, _, σ) => (mapO (itemP sc ρ tgt elt) vs).bind fun ds => if sizeOk ds.length then some (own o (.d (.list ds)) σ) else none else none
      | _ => none
    | _ => none
  | _, _ => none
noncomputable def evEs (G : Genv) (ρ : Loc) (o : Bool) : List Expr → St → Option (List V × St)
  | [], σ => some ([], σ)
  | e :: r, σ => (evE G ρ o e σ).bind fun (v, σ) => (evEs G ρ o r σ).map fun (vs, σ) => (v :: vs, σ)
noncomputable def evB (G : Genv) (ρ : Loc) (op : BoolOp) : List Expr → St → Option (V × St)
  | [], _ => none
  | e :: r, σ => (evE G ρ false e σ).bind fun (v, σ) => match r with
    | [] => some (v, σ)
    | r => (truthV σ v).bind fun b => match op, b with
      | .And, false => some (v, σ)
      | .Or, true => some (v, σ)
      | _, _ => evB G ρ op r σ
noncomputable def evC (G : Genv) (ρ : Loc) (a : V) : List CmpOp → List Expr → St → Option (Bool × St)
  | op :: ops, e :: r, σ => (evE G ρ false e σ).bind fun (b, σ) => (cmpV σ op a b).bind fun c => match ops with
    | [] => match r with
      | [] => some (c, σ)
      | _ => none
    | ops => match r with
      | [] => none
      | r => if c then evC G ρ b ops r σ else some (false, σ)
  | _, _, _ => none
noncomputable def evI (G : Genv) (ρ : Loc) : Expr → St → Option (List V × Option Nat × St)
  | .Call (.Name f _) args [] _, σ => (evEs G ρ false args σ).bind fun (vs, σ) => (iterF σ f vs).map fun (vs, src) => (vs, src, σ)
  | _, _ => none
end

mutual
noncomputable def evS (G : Genv) : Stmt → Loc → St → Option (Fl × Loc × St)
  | .Pass _, ρ, σ => some (.next, ρ, σ)
  | .Expr e _, ρ, σ => (evE G ρ false e σ).map fun (_, σ) => (.next, ρ, σ)
  | .Return e _, ρ, σ => match e with
    | none => some (.ret (.d .none), ρ, σ)
    | some e => (evE G ρ G.ownRet e σ).map fun (v, σ) => (.ret v, ρ, σ)
  | .Assign ts e _, ρ, σ => match ts with
    | [t] => match t with
      | .Name x _ => (evE G ρ (G.owned x) e σ).map fun (v, σ) => (.next, setV x v ρ, σ)
      | .Subscript b i _ => (evE G ρ true e σ).bind fun (v, σ) => (evE G ρ false b σ).bind fun (bv, σ) => (evE G ρ false i σ).bind fun (iv, σ) => (setItemV σ bv iv v).map fun σ => (.next, ρ, σ)
      | .Attribute b a _ => (evE G ρ true e σ).bind fun (v, σ) => (evE G ρ false b σ).bind fun (bv, σ) => (setAttrV σ bv a v).map fun σ => (.next, ρ, σ)
      | _ => none
    | _ => none
  | .If t b e _, ρ, σ => (evE G ρ false t σ).bind fun (v, σ) => (truthV σ v).bind fun c => if c then evSs G b ρ σ else evSs G e ρ σ
  | .For t it body e _, ρ, σ => match t, e with
    | .Name x _, [] =>
      (if isIt it then evI G ρ it σ else (evE G ρ false it σ).bind fun (v, σ) => (iterV σ v).map fun (vs, src) => (vs, src, σ)).bind fun (vs, src, σ) =>
        (loopL (fun v ρ σ => evSs G body (setV x v ρ) σ) vs ρ (lockS src σ)).map fun (fl, ρ, σ') => (fl, ρ, unlockS src σ σ')
    | _, _ => none
  | .While t body e _, ρ, σ => match e with
    | [] => whileL (fun ρ σ => (evE G ρ false t σ).bind fun (v, σ) => (truthV σ v).map fun b => (b, σ)) (fun ρ σ => evSs G body ρ σ) 500 ρ σ
    | _ => none
  | _, _, _ => none
noncomputable def evSs (G : Genv) : List Stmt → Loc → St → Option (Fl × Loc × St)
  | [], ρ, σ => some (.next, ρ, σ)
  | s :: r, ρ, σ => (evS G s ρ σ).bind fun (fl, ρ, σ) => match fl with
    | .next => evSs G r ρ σ
    | .ret v => some (.ret v, ρ, σ)
end

/-- a def of the text -/
structure FnRec where
  name : Str
  args : Arguments
  body : List Stmt
  scope : Scope

noncomputable def fnRec? : Stmt → Option FnRec
  | .FunctionDef n a b _ _ _ sc _ _ _ => some ⟨n, a, b, sc⟩
  | _ => none
noncomputable def findFn (f : Str) : List Stmt → Option FnRec
  | [] => none
  | s :: r => match fnRec? s with
    | some d => if d.name = f then some d else findFn f r
    | none => findFn f r

/-- what is told of a program beside its text -/
structure Hints where
  owned : List (Str × Str)
  fresh : List Str
  impure : List Str
  consts : List (Str × D)

noncomputable def bindP : List Arg → List V → Option Loc
  | [], [] => some []
  | a :: r, v :: vs => (bindP r vs).map ((a.arg, v) :: ·)
  | _, _ => none

/-- the arguments of a pure call as data; whether one of them had to be read from the store -/
noncomputable def snaps (σ : St) : List V → Option (List D × Bool)
  | [] => some ([], false)
  | v :: r => (rd σ v).bind fun d => (snaps σ r).map fun (ds, b) => (d :: ds, (match v with | .d _ => b | _ => true))

mutual
noncomputable def plainD : D → Bool
  | .list _ => false
  | .dict _ _ => false
  | .set _ => false
  | .tup xs => plainDs xs
  | _ => true
noncomputable def plainDs : List D → Bool
  | [] => true
  | x :: r => plainD x && plainDs r
end

noncomputable def retV : Fl → V
  | .next => .d .none
  | .ret v => v

/-- what a pure call hands back -/
noncomputable def handD (fresh : Bool) (σ : St) (v : V) : Option D :=
  match v with
  | .d x => if fresh && !plainD x then none else some x
  | .obj n => match oget σ n with
    | some (.list xs) => (allD xs).map .list
    | some (.dict ks vs) => (allD vs).map (.dict ks)
    | _ => none
  | .tup xs => view 2 σ (.tup xs)

noncomputable def callN (body : List Stmt) (H : Hints) : Nat → Str → List V → St → Option (V × St)
  | 0, _, _, _ => none
  | d + 1, f, args, σ => (findFn f body).bind fun r =>
    if H.impure.contains f then none
    else (snaps σ args).bind fun (ds, snap) => (bindP r.args.args (ds.map .d)).bind fun ρ =>
      (evSs { const := fun x => H.consts.lookup x, fn := fun x => (findFn x body).isSome, cls := fun _ => false, fresh := fun x => H.fresh.contains x,
              call := callN body H d, mcall := fun _ _ _ _ => none, make := fun _ _ _ => none, owned := fun x => H.owned.contains (f, x), ownRet := false } r.body ρ []).bind fun (fl, _, σ') =>
      (handD (H.fresh.contains f) σ' (retV fl)).bind fun x => if snap && !plainD x then none else some (.d x, σ)

/-- equations, by computation -/
theorem getK_cons {β : Type} {k k' : Key} {ks : List Key} {v : β} {vs : List β} : getK k (k' :: ks) (v :: vs) = if k = k' then some v else getK k ks vs := rfl
theorem putK_cons {β : Type} {k k' : Key} {ks : List Key} {u v : β} {vs : List β} : putK k v (k' :: ks) (u :: vs) = if k = k' then (k' :: ks, v :: vs) else (k' :: (putK k v ks vs).1, u :: (putK k v ks vs).2) := rfl
theorem putK_n1 {β : Type} {k : Key} {v : β} {vs : List β} : putK k v [] vs = ([k], [v]) := rfl
theorem putK_n2 {β : Type} {k k' : Key} {ks : List Key} {v : β} : putK k v (k' :: ks) [] = ([k], [v]) := rfl
theorem plainD_t {xs : List D} : plainD (.tup xs) = plainDs xs := rfl
theorem plainD_c {x : D} {r : List D} : plainDs (x :: r) = (plainD x && plainDs r) := rfl
theorem allD_n : allD [] = some [] := rfl
theorem allD_c {x : D} {r : List V} : allD (.d x :: r) = (allD r).map (x :: ·) := rfl
theorem view_0 {σ : St} {x : D} : view 0 σ (.d x) = some x := rfl
theorem view_d {k : Nat} {σ : St} {x : D} : view (k + 1) σ (.d x) = some x := rfl
theorem view_6 {σ : St} {x : D} : view 6 σ (.d x) = some x := rfl
theorem view_t {k : Nat} {σ : St} {xs : List V} : view (k + 1) σ (.tup xs) = (mapO (view k σ) xs).map .tup := rfl
theorem view_2 {σ : St} {xs : List V} : view 2 σ (.tup xs) = (mapO (view 1 σ) xs).map .tup := rfl
theorem view_o {k : Nat} {σ : St} {n : Nat} : view (k + 1) σ (.obj n) = match oget σ n with
        | some (.list xs) => (mapO (view k σ) xs).map .list
        | some (.dict ks vs) => (mapO (view k σ) vs).map (.dict ks)
        | _ => none := rfl
theorem mapO_n {β γ : Type} {f : β → Option γ} : mapO f [] = some [] := rfl
theorem mapO_c {β γ : Type} {f : β → Option γ} {x : β} {r : List β} : mapO f (x :: r) = (f x).bind fun y => (mapO f r).map (y :: ·) := rfl
theorem intsOf_n : intsOf [] = some [] := rfl
theorem intsOf_c {i : Int} {r : List D} : intsOf (.int i :: r) = (intsOf r).map (i :: ·) := rfl
theorem snaps_n {σ : St} : snaps σ [] = some ([], false) := rfl
theorem snaps_c {σ : St} {v : V} {r : List V} : snaps σ (v :: r) = (rd σ v).bind fun d => (snaps σ r).map fun (ds, b) => (d :: ds, (match v with | .d _ => b | _ => true)) := rfl
theorem getV_n {x : Str} : getV x [] = none := rfl
theorem getV_c {x y : Str} {v : V} {r : Loc} : getV x ((y, v) :: r) = if x = y then some v else getV x r := rfl
theorem setV_n {x : Str} {v : V} : setV x v [] = [(x, v)] := rfl
theorem setV_c {x y : Str} {u v : V} {r : Loc} : setV x v ((y, u) :: r) = if x = y then (y, v) :: r else (y, u) :: setV x v r := rfl
theorem loopL_n {f : V → Loc → St → Option (Fl × Loc × St)} {ρ : Loc} {σ : St} : loopL f [] ρ σ = some (.next, ρ, σ) := rfl
theorem loopL_c {f : V → Loc → St → Option (Fl × Loc × St)} {v : V} {r : List V} {ρ : Loc} {σ : St} : loopL f (v :: r) ρ σ = (f v ρ σ).bind fun (fl, ρ, σ) => match fl with
    | .next => loopL f r ρ σ
    | .ret v => some (.ret v, ρ, σ) := rfl
theorem findFn_c {f : Str} {s : Stmt} {r : List Stmt} : findFn f (s :: r) = match fnRec? s with
    | some d => if d.name = f then some d else findFn f r
    | none => findFn f r := rfl
theorem callN_s {body : List Stmt} {H : Hints} {d : Nat} {f : Str} {args : List V} {σ : St} : callN body H (d + 1) f args σ = (findFn f body).bind fun r =>
    if H.impure.contains f then none
    else (snaps σ args).bind fun (ds, snap) => (bindP r.args.args (ds.map .d)).bind fun ρ =>
      (evSs { const := fun x => H.consts.lookup x, fn := fun x => (findFn x body).isSome, cls := fun _ => false, fresh := fun x => H.fresh.contains x,
              call := callN body H d, mcall := fun _ _ _ _ => none, make := fun _ _ _ => none, owned := fun x => H.owned.contains (f, x), ownRet := false } r.body ρ []).bind fun (fl, _, σ') =>
      (handD (H.fresh.contains f) σ' (retV fl)).bind fun x => if snap && !plainD x then none else some (.d x, σ) := rfl
theorem and2_some {a b : Option Bool} {c : Bool} (h : and2 a b = some c) : ∃ x y, a = some x ∧ b = some y ∧ (x && y) = c := by
  cases a with
  | none => cases h
  | some x => cases b with
    | none => cases h
    | some y => cases h; exact ⟨x, y, rfl, rfl, rfl⟩

end Mine
end

section
set_option autoImplicit false
namespace Mine
open PySem
section
variable {G : Genv} {ρ : Loc} {o : Bool} {σ : St}
theorem evE_Constant {c : Const} {k : Nat} {p : Pos} : evE G ρ o (.Constant c k p) σ = (constD c).map fun d => (.d d, σ) := rfl
theorem evE_Name {x : Str} {p : Pos} : evE G ρ o (.Name x p) σ = match getV x ρ with
    | some v => some (v, σ)
    | none => (G.const x).map fun d => (.d d, σ) := rfl
theorem evE_BoolOp {op : BoolOp} {es : List Expr} {p : Pos} : evE G ρ o (.BoolOp op es p) σ = evB G ρ op es σ := rfl
theorem evE_BinOp {l r : Expr} {op : Operator} {p : Pos} : evE G ρ o (.BinOp l op r p) σ = (evE G ρ false l σ).bind fun (a, σ) => (evE G ρ false r σ).bind fun (b, σ) => (binV σ op a b).map fun v => own o v σ := rfl
theorem evE_UnaryOp {e : Expr} {op : UnaryOp} {p : Pos} : evE G ρ o (.UnaryOp op e p) σ = (evE G ρ false e σ).bind fun (a, σ) => match op with
    | .Not => (truthV σ a).map fun b => (.d (.bool !b), σ)
    | .USub => match a with
      | .d (.int i) => some (.d (.int (-i)), σ)
      | _ => none
    | _ => none := rfl
theorem evE_Compare {l : Expr} {ops : List CmpOp} {es : List Expr} {p : Pos} : evE G ρ o (.Compare l ops es p) σ = (evE G ρ false l σ).bind fun (a, σ) => (evC G ρ a ops es σ).map fun (b, σ) => (.d (.bool b), σ) := rfl
theorem evE_Tuple {es : List Expr} {k : Nat} {p : Pos} : evE G ρ o (.Tuple es k p) σ = (evEs G ρ o es σ).map fun (vs, σ) => (mkTup vs, σ) := rfl
theorem evE_List {es : List Expr} {p : Pos} : evE G ρ o (.List es p) σ = (evEs G ρ o es σ).bind fun (vs, σ) => mkList o vs σ := rfl
theorem evE_Dict0 {p : Pos} : evE G ρ o (.Dict [] [] p) σ = some (own o (.d (.dict [] [])) σ) := rfl
theorem evE_Dict0' {v : Expr} {vs : List Expr} {p : Pos} : evE G ρ o (.Dict [] (v :: vs) p) σ = none := rfl
theorem evE_Dict {k : Option Expr} {ks : List (Option Expr)} {vs : List Expr} {p : Pos} : evE G ρ o (.Dict (k :: ks) vs p) σ = if o then none else (constKeys (k :: ks)).bind fun js => (evEs G ρ false vs σ).bind fun (vs, σ) => mkDict js vs σ := rfl
theorem evE_Comp {elt tgt it : Expr} {sc : Scope} {p : Pos} : evE G ρ o (.ListComp elt [⟨tgt, it, [], 0⟩] sc p) σ = (evI G ρ it σ).bind fun (vs, _, σ) => (mapO (itemP sc ρ tgt elt) vs).bind fun ds => if sizeOk ds.length then some (own o (.d (.list ds)) σ) else none := rfl
theorem evE_Slice {e : Expr} {lo hi st : Option Expr} {p q : Pos} : evE G ρ o (.Subscript e (.Slice lo hi st q) p) σ = (evE G ρ false e σ).bind fun (ov, σ) => match lo, st with
      | some lo, none => (evE G ρ false lo σ).bind fun (lv, σ) => (natV lv).bind fun ln => match hi with
        | none => (sliceV σ ov ln none).map fun v => own o v σ
        | some hi => (evE G ρ false hi σ).bind fun (hv, σ) => (natV hv).bind fun hn => (sliceV σ ov ln (some hn)).map fun v => own o v σ
      | _, _ => none := by cases lo <;> cases st <;> cases hi <;> rfl
noncomputable def isSlice : Expr → Bool
  | .Slice .. => true
  | _ => false
noncomputable def isAttr : Expr → Bool
  | .Attribute .. => true
  | _ => false
theorem isSlice_ex {i : Expr} (h : isSlice i = true) : ∃ lo hi st pp, i = .Slice lo hi st pp := by
  cases i with
  | Slice lo hi st p => exact ⟨_, _, _, _, rfl⟩
  | _ => cases h
theorem evE_Item {e i : Expr} {p : Pos} (h : isSlice i = false) : evE G ρ o (.Subscript e i p) σ = (evE G ρ false e σ).bind fun (ov, σ) => (evE G ρ false i σ).bind fun (iv, σ) => (getItemV σ ov iv).map fun v => (v, σ) := by
  cases i with
  | Slice lo hi st p => cases h
  | _ => rfl
theorem evE_CallN {f : Str} {pp p : Pos} {args : List Expr} (hf : ¬ f = "isinstance") : evE G ρ o (.Call (.Name f pp) args [] p) σ = match bfOf f with
        | some b => (evEs G ρ false args σ).bind fun (vs, σ) => (bfV σ b vs).map fun v => own o v σ
        | none => if G.fn f then (evEs G ρ false args σ).bind fun (vs, σ) => (G.call f vs σ).map fun (v, σ) => own (o && G.fresh f) v σ
          else if G.cls f then (evEs G ρ false args σ).bind fun (vs, σ) => G.make f vs σ else none := by
  match args with
  | [] => show (if f = _ then _ else _) = _; rw [if_neg hf]; try rfl
  | [_] => show (if f = _ then _ else _) = _; rw [if_neg hf]; try rfl
  | [_, _] => show (if f = _ then _ else _) = _; rw [if_neg hf]; try rfl
  | _ :: _ :: _ :: _ => show (if f = _ then _ else _) = _; rw [if_neg hf]; try rfl
theorem evE_Isi {pp p : Pos} {args : List Expr} : evE G ρ o (.Call (.Name "isinstance" pp) args [] p) σ = match args with
          | [x, t] => (evE G ρ false x σ).bind fun (v, σ) => (nameE t).bind fun t => if typeNames.contains t then (isiV σ t v).map fun b => (.d (.bool b), σ) else none
          | _ => none := by
  match args with
  | [] => show (if _ = _ then _ else _) = _; rw [if_pos rfl]
  | [_] => show (if _ = _ then _ else _) = _; rw [if_pos rfl]
  | [_, _] => show (if _ = _ then _ else _) = _; rw [if_pos rfl]
  | _ :: _ :: _ :: _ => show (if _ = _ then _ else _) = _; rw [if_pos rfl]
theorem evE_CallM {e : Expr} {m : Str} {pp p : Pos} {args : List Expr} : evE G ρ o (.Call (.Attribute e m pp) args [] p) σ = (evE G ρ false e σ).bind fun (ov, σ) => match clsOf σ ov with
        | some c => (evEs G ρ false args σ).bind fun (vs, σ) => G.mcall c m (ov :: vs) σ
        | none => (mkOf σ m ov).bind fun k => (evEs G ρ true args σ).bind fun (vs, σ) => methV σ k ov vs := by
  match args with
  | [] => rfl
  | [_] => rfl
  | [_, _] => rfl
  | _ :: _ :: _ :: _ => rfl
theorem evEs_nil : evEs G ρ o [] σ = some ([], σ) := rfl
theorem evEs_cons {e : Expr} {r : List Expr} : evEs G ρ o (e :: r) σ = (evE G ρ o e σ).bind fun (v, σ) => (evEs G ρ o r σ).map fun (vs, σ) => (v :: vs, σ) := rfl
theorem evB_nil {op : BoolOp} : evB G ρ op [] σ = none := rfl
theorem evB_one {op : BoolOp} {e : Expr} : evB G ρ op [e] σ = (evE G ρ false e σ).bind fun (v, σ) => some (v, σ) := rfl
theorem evB_more {op : BoolOp} {e e' : Expr} {r : List Expr} : evB G ρ op (e :: e' :: r) σ = (evE G ρ false e σ).bind fun (v, σ) => (truthV σ v).bind fun b => match op, b with
      | .And, false => some (v, σ)
      | .Or, true => some (v, σ)
      | _, _ => evB G ρ op (e' :: r) σ := rfl
theorem evC_nil {a : V} {ops : List CmpOp} : evC G ρ a ops [] σ = none := by cases ops <;> rfl
theorem evC_nil' {a : V} {es : List Expr} : evC G ρ a [] es σ = none := by cases es <;> rfl
theorem evC_cons {a : V} {op : CmpOp} {ops : List CmpOp} {e : Expr} {r : List Expr} : evC G ρ a (op :: ops) (e :: r) σ = (evE G ρ false e σ).bind fun (b, σ) => (cmpV σ op a b).bind fun c => match ops with
    | [] => match r with
      | [] => some (c, σ)
      | _ => none
    | ops => match r with
      | [] => none
      | r => if c then evC G ρ b ops r σ else some (false, σ) := by cases ops <;> cases r <;> rfl
theorem evI_Call {f : Str} {args : List Expr} {p q : Pos} : evI G ρ (.Call (.Name f p) args [] q) σ = (evEs G ρ false args σ).bind fun (vs, σ) => (iterF σ f vs).map fun (vs, src) => (vs, src, σ) := rfl
theorem evS_Pass {p : Pos} : evS G (.Pass p) ρ σ = some (.next, ρ, σ) := rfl
theorem evS_Expr {e : Expr} {p : Pos} : evS G (.Expr e p) ρ σ = (evE G ρ false e σ).map fun (_, σ) => (.next, ρ, σ) := rfl
theorem evS_RetN {p : Pos} : evS G (.Return none p) ρ σ = some (.ret (.d .none), ρ, σ) := rfl
theorem evS_Ret {e : Expr} {p : Pos} : evS G (.Return (some e) p) ρ σ = (evE G ρ G.ownRet e σ).map fun (v, σ) => (.ret v, ρ, σ) := rfl
theorem evS_AssignN {x : Str} {e : Expr} {p q : Pos} : evS G (.Assign [.Name x q] e p) ρ σ = (evE G ρ (G.owned x) e σ).map fun (v, σ) => (.next, setV x v ρ, σ) := rfl
theorem evS_AssignS {b i : Expr} {e : Expr} {p q : Pos} : evS G (.Assign [.Subscript b i q] e p) ρ σ = (evE G ρ true e σ).bind fun (v, σ) => (evE G ρ false b σ).bind fun (bv, σ) => (evE G ρ false i σ).bind fun (iv, σ) => (setItemV σ bv iv v).map fun σ => (.next, ρ, σ) := rfl
theorem evS_If {t : Expr} {b e : List Stmt} {p : Pos} : evS G (.If t b e p) ρ σ = (evE G ρ false t σ).bind fun (v, σ) => (truthV σ v).bind fun c => if c then evSs G b ρ σ else evSs G e ρ σ := rfl
theorem evS_ForN {x : Str} {it : Expr} {body : List Stmt} {q p : Pos} : evS G (.For (.Name x q) it body [] p) ρ σ = (if isIt it then evI G ρ it σ else (evE G ρ false it σ).bind fun (v, σ) => (iterV σ v).map fun (vs, src) => (vs, src, σ)).bind fun (vs, src, σ) =>
        (loopL (fun v ρ σ => evSs G body (setV x v ρ) σ) vs ρ (lockS src σ)).map fun (fl, ρ, σ') => (fl, ρ, unlockS src σ σ') := rfl
theorem evS_ForE {x : Str} {it : Expr} {body els : List Stmt} {s : Stmt} {q p : Pos} : evS G (.For (.Name x q) it body (s :: els) p) ρ σ = none := rfl
theorem evS_While {t : Expr} {body : List Stmt} {p : Pos} : evS G (.While t body [] p) ρ σ = whileL (fun ρ σ => (evE G ρ false t σ).bind fun (v, σ) => (truthV σ v).map fun b => (b, σ)) (fun ρ σ => evSs G body ρ σ) 500 ρ σ := rfl
theorem evS_WhileE {t : Expr} {body els : List Stmt} {s : Stmt} {p : Pos} : evS G (.While t body (s :: els) p) ρ σ = none := rfl
theorem evSs_nil : evSs G [] ρ σ = some (.next, ρ, σ) := rfl
theorem evSs_cons {s : Stmt} {r : List Stmt} : evSs G (s :: r) ρ σ = (evS G s ρ σ).bind fun (fl, ρ, σ) => match fl with
    | .next => evSs G r ρ σ
    | .ret v => some (.ret v, ρ, σ) := rfl
end
end Mine
end

section
set_option autoImplicit false
namespace Mine
open PySem PyProof.Rows

noncomputable def keyIs : Key → Value → Bool
  | .i n, v => Value.isInt n v
  | .s x, v => Value.isStrOf x v
noncomputable def keyHash (w : World) : Key → Int
  | .i n => hashInt n
  | .s x => hashStr w x

theorem keyIs_shape {k : Key} {v : Value} (h : keyIs k v = true) : (∃ n t, k = .i n ∧ v = .int n t) ∨ (∃ x t, k = .s x ∧ v = .str x t) := by
  cases k with
  | i n => obtain ⟨t, e⟩ := Value.isInt_shape h; exact .inl ⟨n, t, rfl, e⟩
  | s x => obtain ⟨t, e⟩ := Value.isStrOf_shape h; exact .inr ⟨x, t, rfl, e⟩

theorem eqBool_is {prog : Program} {w : World} {A : Around} {E : Value → Shared → Prop} {s : Shared} {n : Int} {x : Str} {t u : Tok} {Q : Bool → Shared → Prop} (h : wpAny (model prog w) A (richCompare .Eq (.int n t) (.str x u)) (fun v s' => ∃ c, v = .bool c ∧ Q c s') E s) : wpAny (model prog w) A (eqBool (.int n t) (.str x u)) Q E s := by
  unfold eqBool
  refine wpAny_holding ?_
  rw [if_neg (show ¬ (Value.int n t == Value.str x u) = true from Bool.false_ne_true)]
  exact wpAny_bind (wpAny_mono h (fun v s' hv => by obtain ⟨c, rfl, hq⟩ := hv; exact wpAny_truthy_bool hq) fun _ _ x => x)
theorem eqBool_si {prog : Program} {w : World} {A : Around} {E : Value → Shared → Prop} {s : Shared} {n : Int} {x : Str} {t u : Tok} {Q : Bool → Shared → Prop} (h : wpAny (model prog w) A (richCompare .Eq (.str x u) (.int n t)) (fun v s' => ∃ c, v = .bool c ∧ Q c s') E s) : wpAny (model prog w) A (eqBool (.str x u) (.int n t)) Q E s := by
  unfold eqBool
  refine wpAny_holding ?_
  rw [if_neg (show ¬ (Value.str x u == Value.int n t) = true from Bool.false_ne_true)]
  exact wpAny_bind (wpAny_mono h (fun v s' hv => by obtain ⟨c, rfl, hq⟩ := hv; exact wpAny_truthy_bool hq) fun _ _ x => x)

theorem keyEq {prog : Program} {w : World} {A : Around} {E : Value → Shared → Prop} {s : Shared} {a b : Key} {u v : Value} {Q : Bool → Shared → Prop} (hu : keyIs a u = true) (hv : keyIs b v = true) (h : Q (decide (a = b)) s) :
    wpAny (model prog w) A (eqBool u v) Q E s := by
  rcases keyIs_shape hu with ⟨n, t, rfl, rfl⟩ | ⟨x, t, rfl, rfl⟩ <;> rcases keyIs_shape hv with ⟨m, t', rfl, rfl⟩ | ⟨y, t', rfl, rfl⟩
  · refine wpAny_eqBool_int ?_
    simpa [Key.i.injEq, Bool.beq_eq_decide_eq] using h
  · refine eqBool_is (EqMixed.eq_int_str ⟨false, rfl, ?_⟩)
    simpa using h
  · refine eqBool_si (EqMixed.eq_str_int ⟨false, rfl, ?_⟩)
    simpa using h
  · refine wpAny_eqBool_str ?_
    simpa [Key.s.injEq] using h

noncomputable def keyKind (prog : Program) (w : World) : KeyKind prog w Key where
  is := keyIs
  hash := keyHash w
  inj := fun v a b ha hb => by
    rcases keyIs_shape ha with ⟨n, t, rfl, rfl⟩ | ⟨x, t, rfl, rfl⟩ <;> rcases keyIs_shape hb with ⟨m, t', rfl, e⟩ | ⟨y, t', rfl, e⟩ <;> cases e <;> rfl
  byValue := fun k v h => by rcases keyIs_shape h with ⟨n, t, rfl, rfl⟩ | ⟨x, t, rfl, rfl⟩ <;> rfl
  pyHash := fun hv h => by
    rcases keyIs_shape hv with ⟨n, t, rfl, rfl⟩ | ⟨x, t, rfl, rfl⟩
    · exact wpAny_pyHash_int h
    · exact wpAny_pyHash_str h
  eqBool := fun hu hv h => keyEq hu hv h
  «strs» := fun k x t v h => by
    rcases keyIs_shape h with ⟨n, t, rfl, e⟩ | ⟨y, t, rfl, e⟩
    · cases e
    · cases e; cases v <;> rfl



/-- what is fixed through a law's call -/
structure Wo where
  prog : Program
  w : World
  base : Heap
  mg : Str → Option Value
  mb : Str → Option Value

noncomputable abbrev Wo.M (C : Wo) : Model := model C.prog C.w
noncomputable abbrev Wo.kk (C : Wo) : KeyKind C.prog C.w Key := keyKind C.prog C.w

mutual
/-- how the heap bears data, at addresses that are not in B -/
noncomputable def DRel (C : Wo) (B : Addr → Prop) (h : Heap) : D → Value → Prop
  | .none, v => v = .none
  | .bool b, v => v = .bool b
  | .int i, v => ∃ t, v = .int i t
  | .str x, v => ∃ t, v = .str x t
  | .tup xs, v => ∃ a vs, v = .ref a ∧ IsTup h a vs.toArray ∧ ¬ B a ∧ DsRel C B h xs vs
  | .list xs, v => ∃ a vs, v = .ref a ∧ h.IsList a vs.toArray ∧ ¬ B a ∧ DsRel C B h xs vs
  | .dict ks xs, v => ∃ a vs, v = .ref a ∧ h.DictOf C.kk a (ks.zip vs) ∧ ks.length = vs.length ∧ C.base.objs.size ≤ a ∧ ¬ B a ∧ DsRel C B h xs vs
  | .set ks, v => ∃ a ns, v = .ref a ∧ SetI (byT C.w) h a ns ∧ ks = ns.map .i ∧ ¬ B a
noncomputable def DsRel (C : Wo) (B : Addr → Prop) (h : Heap) : List D → List Value → Prop
  | [], vs => vs = []
  | x :: xs, vs => ∃ v r, vs = v :: r ∧ DRel C B h x v ∧ DsRel C B h xs r
end

/-- from (B, h) to (B', h'): what may not change is there still -/
def Grow (B : Addr → Prop) (h : Heap) (B' : Addr → Prop) (h' : Heap) : Prop := ∀ a o, ¬ B a → h.get? a = some o → h'.get? a = some o ∧ ¬ B' a

theorem Grow.refl (B : Addr → Prop) (h : Heap) : Grow B h B h := fun _ _ n e => ⟨e, n⟩
theorem Grow.trans {B B' B'' : Addr → Prop} {h h' h'' : Heap} (x : Grow B h B' h') (y : Grow B' h' B'' h'') : Grow B h B'' h'' :=
  fun a o n e => let ⟨e', n'⟩ := x a o n e; y a o n' e'

theorem isTup_at {h h' : Heap} {a : Addr} {items : Array Value} (x : IsTup h a items) (k : ∀ o, h.get? a = some o → h'.get? a = some o) : IsTup h' a items := let ⟨o, ho, r⟩ := x; ⟨o, k o ho, r⟩
theorem isList_at {h h' : Heap} {a : Addr} {items : Array Value} (x : h.IsList a items) (k : ∀ o, h.get? a = some o → h'.get? a = some o) : h'.IsList a items := let ⟨o, ho, r⟩ := x; ⟨o, k o ho, r⟩
theorem dictOf_at {C : Wo} {h h' : Heap} {a : Addr} {kvs : List (Key × Value)} (x : h.DictOf C.kk a kvs) (k : ∀ o, h.get? a = some o → h'.get? a = some o) : h'.DictOf C.kk a kvs :=
  let ⟨o, es, ep, ho, r⟩ := x; ⟨o, es, ep, k o ho, r⟩
theorem isTup_get {h : Heap} {a : Addr} {items : Array Value} (x : IsTup h a items) : ∃ o, h.get? a = some o := let ⟨o, ho, _⟩ := x; ⟨o, ho⟩
theorem isList_get {h : Heap} {a : Addr} {items : Array Value} (x : h.IsList a items) : ∃ o, h.get? a = some o := let ⟨o, ho, _⟩ := x; ⟨o, ho⟩
theorem dictOf_get {C : Wo} {h : Heap} {a : Addr} {kvs : List (Key × Value)} (x : h.DictOf C.kk a kvs) : ∃ o, h.get? a = some o := let ⟨o, _, _, ho, _⟩ := x; ⟨o, ho⟩

theorem setI_get {b : Bool} {h : Heap} {a : Addr} {ns : List Int} (x : SetI b h a ns) : ∃ o, h.get? a = some o := let ⟨o, _, _, _, ho, _⟩ := x; ⟨o, ho⟩
mutual
theorem DRel.grow {C : Wo} {B B' : Addr → Prop} {h h' : Heap} (g : Grow B h B' h') : ∀ {d : D} {v : Value}, DRel C B h d v → DRel C B' h' d v
  | .none, _, x => by simpa only [DRel] using x
  | .bool _, _, x => by simpa only [DRel] using x
  | .int _, _, x => by simpa only [DRel] using x
  | .str _, _, x => by simpa only [DRel] using x
  | .tup xs, _, x => by
    simp only [DRel] at x ⊢
    obtain ⟨a, vs, e, t, n, r⟩ := x
    obtain ⟨o, ho⟩ := isTup_get t
    exact ⟨a, vs, e, isTup_at t fun o ho => (g a o n ho).1, (g a o n ho).2, DsRel.grow g r⟩
  | .list xs, _, x => by
    simp only [DRel] at x ⊢
    obtain ⟨a, vs, e, t, n, r⟩ := x
    obtain ⟨o, ho⟩ := isList_get t
    exact ⟨a, vs, e, isList_at t fun o ho => (g a o n ho).1, (g a o n ho).2, DsRel.grow g r⟩
  | .dict ks xs, _, x => by
    simp only [DRel] at x ⊢
    obtain ⟨a, vs, e, t, l, b, n, r⟩ := x
    obtain ⟨o, ho⟩ := dictOf_get t
    exact ⟨a, vs, e, dictOf_at t fun o ho => (g a o n ho).1, l, b, (g a o n ho).2, DsRel.grow g r⟩
  | .set ks, _, x => by
    simp only [DRel] at x ⊢
    obtain ⟨a, ns, e, t, k, n⟩ := x
    obtain ⟨o, ho⟩ := setI_get t
    exact ⟨a, ns, e, t.frame fun o ho => (g a o n ho).1, k, (g a o n ho).2⟩
theorem DsRel.grow {C : Wo} {B B' : Addr → Prop} {h h' : Heap} (g : Grow B h B' h') : ∀ {xs : List D} {vs : List Value}, DsRel C B h xs vs → DsRel C B' h' xs vs
  | [], _, x => by simpa only [DsRel] using x
  | x :: xs, _, y => by
    simp only [DsRel] at y ⊢
    obtain ⟨v, r, e, a, b⟩ := y
    exact ⟨v, r, e, DRel.grow g a, DsRel.grow g b⟩
end

mutual
theorem DRel.plain {C : Wo} {B : Addr → Prop} {h h' : Heap} {B' : Addr → Prop} : ∀ {d : D} {v : Value}, plainD d = true → DRel C B h d v → (∀ a o, h.get? a = some o → h'.get? a = some o) → (∀ a vs, IsTup h a vs → ¬ B' a) → DRel C B' h' d v
  | .none, _, _, x, _, _ => by simpa only [DRel] using x
  | .bool _, _, _, x, _, _ => by simpa only [DRel] using x
  | .int _, _, _, x, _, _ => by simpa only [DRel] using x
  | .str _, _, _, x, _, _ => by simpa only [DRel] using x
  | .tup xs, _, p, x, k, nb => by
    simp only [DRel] at x ⊢
    obtain ⟨a, vs, e, t, n, r⟩ := x
    exact ⟨a, vs, e, isTup_at t fun o ho => k a o ho, nb a _ t, DsRel.plain (p) r k nb⟩
  | .list xs, _, p, _, _, _ => by cases p
  | .dict ks xs, _, p, _, _, _ => by cases p
  | .set _, _, p, _, _, _ => by cases p
theorem DsRel.plain {C : Wo} {B : Addr → Prop} {h h' : Heap} {B' : Addr → Prop} : ∀ {xs : List D} {vs : List Value}, plainDs xs = true → DsRel C B h xs vs → (∀ a o, h.get? a = some o → h'.get? a = some o) → (∀ a vs, IsTup h a vs → ¬ B' a) → DsRel C B' h' xs vs
  | [], _, _, x, _, _ => by simpa only [DsRel] using x
  | x :: xs, _, p, y, k, nb => by
    simp only [DsRel] at y ⊢
    rw [plainD_c, Bool.and_eq_true] at p
    obtain ⟨v, r, e, a, b⟩ := y
    exact ⟨v, r, e, DRel.plain p.1 a k nb, DsRel.plain p.2 b k nb⟩
end

theorem DsRel.length {C : Wo} {B : Addr → Prop} {h : Heap} : ∀ {xs : List D} {vs : List Value}, DsRel C B h xs vs → xs.length = vs.length
  | [], _, x => by simp only [DsRel] at x; subst x; rfl
  | x :: xs, _, y => by
    simp only [DsRel] at y
    obtain ⟨v, r, rfl, _, b⟩ := y
    simp [DsRel.length b]

/-- the addresses where nothing that is told as data lies -/
def Bad (X : Addr → Prop) (α : List Addr) (a : Addr) : Prop := X a ∨ a ∈ α

mutual
noncomputable def VRel (C : Wo) (X : Addr → Prop) (α : List Addr) (h : Heap) : V → Value → Prop
  | .d x, v => DRel C (Bad X α) h x v
  | .obj n, v => ∃ a, α[n]? = some a ∧ v = .ref a
  | .tup xs, v => ∃ a vs, v = .ref a ∧ IsTup h a vs.toArray ∧ ¬ Bad X α a ∧ VsRel C X α h xs vs
noncomputable def VsRel (C : Wo) (X : Addr → Prop) (α : List Addr) (h : Heap) : List V → List Value → Prop
  | [], vs => vs = []
  | x :: xs, vs => ∃ v r, vs = v :: r ∧ VRel C X α h x v ∧ VsRel C X α h xs r
end

mutual
theorem VRel.grow {C : Wo} {X X' : Addr → Prop} {α α' : List Addr} {h h' : Heap} (g : Grow (Bad X α) h (Bad X' α') h') (p : α <+: α') : ∀ {v : V} {u : Value}, VRel C X α h v u → VRel C X' α' h' v u
  | .d x, _, y => by simp only [VRel] at y ⊢; exact y.grow g
  | .obj n, _, y => by
    simp only [VRel] at y ⊢
    obtain ⟨a, e, r⟩ := y
    obtain ⟨t, rfl⟩ := p
    exact ⟨a, by rw [List.getElem?_append_left (by have := List.getElem?_eq_some_iff.mp e; exact this.1)]; exact e, r⟩
  | .tup xs, _, y => by
    simp only [VRel] at y ⊢
    obtain ⟨a, vs, e, t, n, r⟩ := y
    obtain ⟨o, ho⟩ := isTup_get t
    exact ⟨a, vs, e, isTup_at t fun o ho => (g a o n ho).1, (g a o n ho).2, VsRel.grow g p r⟩
theorem VsRel.grow {C : Wo} {X X' : Addr → Prop} {α α' : List Addr} {h h' : Heap} (g : Grow (Bad X α) h (Bad X' α') h') (p : α <+: α') : ∀ {vs : List V} {us : List Value}, VsRel C X α h vs us → VsRel C X' α' h' vs us
  | [], _, y => by simpa only [VsRel] using y
  | x :: xs, _, y => by
    simp only [VsRel] at y ⊢
    obtain ⟨v, r, e, a, b⟩ := y
    exact ⟨v, r, e, VRel.grow g p a, VsRel.grow g p b⟩
end

theorem VsRel.length {C : Wo} {X : Addr → Prop} {α : List Addr} {h : Heap} : ∀ {xs : List V} {vs : List Value}, VsRel C X α h xs vs → xs.length = vs.length
  | [], _, x => by simp only [VsRel] at x; subst x; rfl
  | x :: xs, _, y => by
    simp only [VsRel] at y
    obtain ⟨v, r, rfl, _, b⟩ := y
    simp [VsRel.length b]

theorem VsRel.map {C : Wo} {X : Addr → Prop} {α : List Addr} {h : Heap} : ∀ {xs : List D} {vs : List Value}, VsRel C X α h (xs.map .d) vs ↔ DsRel C (Bad X α) h xs vs
  | [], _ => by simp only [List.map_nil, VsRel, DsRel]
  | x :: xs, _ => by simp only [List.map_cons, VsRel, DsRel, VRel, VsRel.map (xs := xs)]

theorem allD_map {vs : List V} {ds : List D} : allD vs = some ds → vs = ds.map .d := by
  induction vs generalizing ds with
  | nil => intro h; cases h; rfl
  | cons v r ih =>
    intro h
    cases v with
    | d x =>
      rw [allD_c, Option.map_eq_some_iff] at h
      obtain ⟨ds', h', rfl⟩ := h
      rw [ih h']; rfl
    | _ => cases h

/-- a plain list object -/
noncomputable def lobj (its : Array Value) (n : Nat) : Obj := { cls := .type "list", data := .seq its n }
theorem lobj_isList {h : Heap} {a : Addr} {its : Array Value} {n : Nat} (e : h.get? a = some (lobj its n)) : h.IsList a its := ⟨_, e, rfl, n, rfl⟩

def ORel (C : Wo) (X : Addr → Prop) (α : List Addr) (h : Heap) (a : Addr) : MO → Prop
  | .list xs => ∃ vs n, h.get? a = some (lobj vs.toArray n) ∧ VsRel C X α h xs vs
  | .dict ks xs => ∃ vs, h.DictOf C.kk a (ks.zip vs) ∧ ks.length = vs.length ∧ VsRel C X α h xs vs
  | .inst _ _ _ => False

structure SRel (C : Wo) (X : Addr → Prop) (α : List Addr) (σ : St) (h : Heap) : Prop where
  len : α.length = σ.length
  nodup : α.Nodup
  out : ∀ a ∈ α, ¬ X a
  low : ∀ a ∈ α, C.base.objs.size ≤ a
  obj : ∀ (n : Nat) (a : Addr) (b : Bool) (o : MO), α[n]? = some a → σ[n]? = some (b, o) → ORel C X α h a o

/-- the addresses of a frame -/
noncomputable def FA (env : Env) : List Addr := env.locals :: env.cells.map (·.2)

structure FRel (C : Wo) (X : Addr → Prop) (env : Env) (ρ : Loc) (α : List Addr) (h : Heap) : Prop where
  kind : env.scope.kind = .function
  glob : env.globals = mainGlobals
  blt : env.builtins = builtinsNs
  kinds : ∀ x v, getV x ρ = some v → env.kindOf x = some .local ∨ env.kindOf x = some .cell ∨ env.kindOf x = some .free
  loc : ∃ m, h.Ns env.locals m ∧ ∀ x v, getV x ρ = some v → env.kindOf x = some .local → ∃ u, m x = some u ∧ VRel C X α h v u
  cel : ∀ x v, getV x ρ = some v → env.kindOf x = some .cell ∨ env.kindOf x = some .free → ∃ c u, env.cells.lookup x = some c ∧ h.IsCell c (some u) ∧ VRel C X α h v u
  has : ∀ x, env.kindOf x = some .cell → ∃ c u, env.cells.lookup x = some c ∧ h.IsCell c u
  apart : env.cells.Pairwise fun x y => x.2 ≠ y.2
  off : ∀ x c, (x, c) ∈ env.cells → c ≠ env.locals

/-- no tuple -/
def NoTup (o : Obj) : Prop := ∀ vs n, ¬ (o.cls = .type "tuple" ∧ o.data = .seq vs n)
theorem Heap.Ns.noTup {h : Heap} {a : Addr} {m : Str → Option Value} (x : h.Ns a m) : ∃ o, h.get? a = some o ∧ NoTup o := let ⟨o, _, _, ho, hd, _⟩ := x; ⟨o, ho, fun _ _ q => nomatch hd.symm.trans q.2⟩
theorem Heap.IsCell.noTup {h : Heap} {a : Addr} {u : Option Value} (x : h.IsCell a u) : ∃ o, h.get? a = some o ∧ NoTup o := let ⟨o, ho, hd⟩ := x; ⟨o, ho, fun _ _ q => nomatch hd.symm.trans q.2⟩

/-- a state that is as told -/
structure Rel (C : Wo) (X : Addr → Prop) (env : Env) (ρ : Loc) (α : List Addr) (σ : St) (s : Shared) : Prop where
  bas : ∀ b o, C.base.get? b = some o → s.heap.get? b = some o
  fr : FRel C X env ρ α s.heap
  st : SRel C X α σ s.heap
  fa : ∀ a ∈ FA env, X a
  flow : ∀ a ∈ FA env, C.base.objs.size ≤ a
  xlt : ∀ a, X a → a < s.heap.objs.size
  xnt : ∀ a, X a → ∃ o, s.heap.get? a = some o ∧ NoTup o

/-- what a step of an expression leaves as it was -/
structure Ext (env : Env) (α : List Addr) (σ : St) (s : Shared) (α' : List Addr) (σ' : St) (s' : Shared) : Prop where
  keep : ∀ a o, s.heap.get? a = some o → a ≠ env.locals → (∀ n : Nat, α[n]? = some a → ∃ o, σ[n]? = some (true, o)) → s'.heap.get? a = some o
  ns : ∀ m, s.heap.Ns env.locals m → s'.heap.Ns env.locals m
  new : ∃ t, α' = α ++ t ∧ ∀ a ∈ t, s.heap.objs.size ≤ a
  size : s.heap.objs.size ≤ s'.heap.objs.size
  gens : s'.gens = s.gens
  os : s'.os = s.os
  lock : ∀ (n : Nat) o, σ[n]? = some (true, o) → σ'[n]? = some (true, o)
  slen : σ.length ≤ σ'.length

end Mine
end

section
set_option autoImplicit false
namespace Mine
open PySem PyProof.Rows

variable {C : Wo} {X : Addr → Prop} {env : Env} {ρ : Loc} {α α' α'' : List Addr} {σ σ' σ'' : St} {s s' s'' : Shared}

theorem Ext.refl : Ext env α σ s α σ s := ⟨fun _ _ e _ _ => e, fun _ e => e, ⟨[], by simp, by simp⟩, Nat.le_refl _, rfl, rfl, fun _ _ e => e, Nat.le_refl _⟩

theorem Ext.pre (E : Ext env α σ s α' σ' s') : α <+: α' := let ⟨t, e, _⟩ := E.new; ⟨t, e.symm⟩

/-- σ has an entry for each address -/
theorem Ext.trans (x : Ext env α σ s α' σ' s') (y : Ext env α' σ' s' α'' σ'' s'') : Ext env α σ s α'' σ'' s'' where
  keep := fun a o e n l => y.keep a o (x.keep a o e n l) n fun k hk => by
    obtain ⟨t, rfl, ht⟩ := x.new
    by_cases hk' : k < α.length
    · rw [List.getElem?_append_left hk'] at hk
      obtain ⟨o', ho'⟩ := l k hk
      exact ⟨o', x.lock k o' ho'⟩
    · rw [List.getElem?_append_right (Nat.le_of_not_lt hk')] at hk
      have := ht a (List.mem_of_getElem? hk)
      exact absurd (Heap.lt_size e) (Nat.not_lt.mpr this)
  ns := fun m h => y.ns m (x.ns m h)
  new := by
    obtain ⟨t, rfl, ht⟩ := x.new
    obtain ⟨u, rfl, hu⟩ := y.new
    exact ⟨t ++ u, by rw [List.append_assoc], fun a ha => (List.mem_append.mp ha).elim (ht a) fun q => Nat.le_trans x.size (hu a q)⟩
  size := Nat.le_trans x.size y.size
  gens := y.gens.trans x.gens
  os := y.os.trans x.os
  lock := fun n o e => y.lock n o (x.lock n o e)
  slen := Nat.le_trans x.slen y.slen

theorem ORel.get {h : Heap} {a : Addr} {o : MO} (x : ORel C X α h a o) : ∃ o, h.get? a = some o := by
  cases o with
  | list xs => obtain ⟨vs, n, t, _⟩ := x; exact ⟨_, t⟩
  | dict ks xs => obtain ⟨vs, t, _⟩ := x; exact dictOf_get t
  | inst _ _ _ => exact x.elim

theorem SRel.lt {h : Heap} (S : SRel C X α σ h) {a : Addr} (ha : a ∈ α) : a < h.objs.size := by
  obtain ⟨n, hn, e⟩ := List.getElem_of_mem ha
  have h1 : α[n]? = some a := by rw [List.getElem?_eq_getElem hn, e]
  have h2 : n < σ.length := S.len ▸ hn
  obtain ⟨o, ho⟩ := (S.obj n a _ _ h1 (show σ[n]? = some ((σ[n]).1, (σ[n]).2) by rw [List.getElem?_eq_getElem h2])).get
  exact Heap.lt_size ho

theorem Rel.ltα (R : Rel C X env ρ α σ s) : ∀ a ∈ α, a < s.heap.objs.size := fun _ ha => R.st.lt ha

theorem Ext.grow (R : Rel C X env ρ α σ s) (E : Ext env α σ s α' σ' s') : Grow (Bad X α) s.heap (Bad X α') s'.heap := fun a o n e => by
  have nx : ¬ X a := fun q => n (.inl q)
  have na : a ∉ α := fun q => n (.inr q)
  refine ⟨E.keep a o e (fun q => nx (R.fa a (by rw [q]; exact .head _))) fun k hk => absurd (List.mem_of_getElem? hk) na, fun q => ?_⟩
  rcases q with q | q
  · exact nx q
  · obtain ⟨t, rfl, ht⟩ := E.new
    rcases List.mem_append.mp q with q | q
    · exact na q
    · exact absurd (Heap.lt_size e) (Nat.not_lt.mpr (ht a q))

theorem VRel.ext (R : Rel C X env ρ α σ s) (E : Ext env α σ s α' σ' s') {v : V} {u : Value} (x : VRel C X α s.heap v u) : VRel C X α' s'.heap v u := x.grow (E.grow R) E.pre
theorem VsRel.ext (R : Rel C X env ρ α σ s) (E : Ext env α σ s α' σ' s') {v : List V} {u : List Value} (x : VsRel C X α s.heap v u) : VsRel C X α' s'.heap v u := x.grow (E.grow R) E.pre

theorem Rel.cellKept (R : Rel C X env ρ α σ s) (E : Ext env α σ s α' σ' s') {x : Str} {c : Addr} {u : Option Value} (hc : env.cells.lookup x = some c) (h : s.heap.IsCell c u) : s'.heap.IsCell c u := by
  obtain ⟨o, ho, hd⟩ := h
  have hm := mem_of_lookup hc
  have hx : X c := R.fa c (.tail _ (List.mem_map.mpr ⟨_, hm, rfl⟩))
  exact ⟨o, E.keep c o ho (R.fr.off x c hm) fun k hk => absurd hx (R.st.out c (List.mem_of_getElem? hk)), hd⟩

theorem FRel.ext (R : Rel C X env ρ α σ s) (E : Ext env α σ s α' σ' s') : FRel C X env ρ α' s'.heap where
  kind := R.fr.kind
  glob := R.fr.glob
  blt := R.fr.blt
  kinds := R.fr.kinds
  loc := let ⟨m, hm, h⟩ := R.fr.loc; ⟨m, E.ns m hm, fun x v e k => let ⟨u, hu, hv⟩ := h x v e k; ⟨u, hu, hv.ext R E⟩⟩
  cel := fun x v e k => let ⟨c, u, hc, hi, hv⟩ := R.fr.cel x v e k; ⟨c, u, hc, R.cellKept E hc hi, hv.ext R E⟩
  has := fun x k => let ⟨c, u, hc, hi⟩ := R.fr.has x k; ⟨c, u, hc, R.cellKept E hc hi⟩
  apart := R.fr.apart
  off := R.fr.off

theorem Rel.ext (R : Rel C X env ρ α σ s) (E : Ext env α σ s α' σ' s') (S : SRel C X α' σ' s'.heap) : Rel C X env ρ α' σ' s' where
  bas := fun b o e => E.keep b o (R.bas b o e) (fun q => Nat.not_lt.mpr (R.flow b (by rw [q]; exact .head _)) (Heap.lt_size e)) fun k hk => absurd (Heap.lt_size e) (Nat.not_lt.mpr (R.st.low b (List.mem_of_getElem? hk)))
  fr := FRel.ext R E
  st := S
  fa := R.fa
  flow := R.flow
  xlt := fun a ha => Nat.lt_of_lt_of_le (R.xlt a ha) E.size
  xnt := fun a ha => by
    by_cases q : a = env.locals
    · obtain ⟨m, hm, _⟩ := R.fr.loc
      rw [q]; exact Heap.Ns.noTup (E.ns m hm)
    · obtain ⟨o, ho, hn⟩ := R.xnt a ha
      exact ⟨o, E.keep a o ho q fun k hk => absurd ha (R.st.out a (List.mem_of_getElem? hk)), hn⟩

/-- a step that changes nothing that stood -/
structure Ext0 (env : Env) (s s' : Shared) : Prop where
  keep : ∀ a o, s.heap.get? a = some o → a ≠ env.locals → s'.heap.get? a = some o
  ns : ∀ m, s.heap.Ns env.locals m → s'.heap.Ns env.locals m
  size : s.heap.objs.size ≤ s'.heap.objs.size
  gens : s'.gens = s.gens
  os : s'.os = s.os

theorem Ext0.refl : Ext0 env s s := ⟨fun _ _ e _ => e, fun _ e => e, Nat.le_refl _, rfl, rfl⟩
theorem Ext0.trans (x : Ext0 env s s') (y : Ext0 env s' s'') : Ext0 env s s'' :=
  ⟨fun a o e n => y.keep a o (x.keep a o e n) n, fun m h => y.ns m (x.ns m h), Nat.le_trans x.size y.size, y.gens.trans x.gens, y.os.trans x.os⟩
theorem Ext0.toks (t : Nat) : Ext0 env s { s with toks := t } := ⟨fun _ _ e _ => e, fun _ e => e, Nat.le_refl _, rfl, rfl⟩
/-- all is kept -/
theorem Ext0.of {h : Heap} {t : Nat} (k : ∀ a o, s.heap.get? a = some o → h.get? a = some o) (z : s.heap.objs.size ≤ h.objs.size) : Ext0 env s { s with heap := h, toks := t } :=
  ⟨fun a o e _ => k a o e, fun _ e => e.keeps k, z, rfl, rfl⟩
theorem Ext0.push (o : Obj) (t : Nat) : Ext0 env s { s with heap := s.heap.push o, toks := t } := .of (fun _ _ e => Heap.get?_push_of_some o e) (by rw [Heap.size_push]; omega)

theorem Ext0.ext (x : Ext0 env s s') : Ext env α σ s α σ s' := ⟨fun a o e n _ => x.keep a o e n, x.ns, ⟨[], by simp, by simp⟩, x.size, x.gens, x.os, fun _ _ e => e, Nat.le_refl _⟩

theorem ORel.grow {h h' : Heap} {a : Addr} {o : MO} (g : Grow (Bad X α) h (Bad X α') h') (p : α <+: α') (k : ∀ o, h.get? a = some o → h'.get? a = some o) (x : ORel C X α h a o) : ORel C X α' h' a o := by
  cases o with
  | list xs => obtain ⟨vs, n, t, r⟩ := x; exact ⟨vs, n, k _ t, r.grow g p⟩
  | dict ks xs => obtain ⟨vs, t, l, r⟩ := x; exact ⟨vs, dictOf_at t k, l, r.grow g p⟩
  | inst _ _ _ => exact x.elim

theorem Rel.neLoc (R : Rel C X env ρ α σ s) {a : Addr} (ha : a ∈ α) : a ≠ env.locals := fun q => R.st.out a ha (R.fa a (by rw [q]; exact .head _))

theorem Rel.srel0 (R : Rel C X env ρ α σ s) (E : Ext0 env s s') : SRel C X α σ s'.heap where
  len := R.st.len
  nodup := R.st.nodup
  out := R.st.out
  low := R.st.low
  obj := fun n a b o h1 h2 => (R.st.obj n a b o h1 h2).grow (E.ext.grow R) (List.prefix_refl _) fun o ho => E.keep a o ho (R.neLoc (List.mem_of_getElem? h1))

theorem Rel.ext0 (R : Rel C X env ρ α σ s) (E : Ext0 env s s') : Rel C X env ρ α σ s' := R.ext E.ext (R.srel0 E)

/-- a new container, told as data -/
def FreshRel (C : Wo) (B : Addr → Prop) (h : Heap) (n : Nat) : D → Value → Prop
  | .list xs, u => ∃ a vs e, u = .ref a ∧ n ≤ a ∧ h.get? a = some (lobj vs.toArray e) ∧ ¬ B a ∧ DsRel C (fun b => B b ∨ b = a) h xs vs
  | .dict ks xs, u => ∃ a vs, u = .ref a ∧ n ≤ a ∧ h.DictOf C.kk a (ks.zip vs) ∧ ks.length = vs.length ∧ C.base.objs.size ≤ a ∧ ¬ B a ∧ DsRel C (fun b => B b ∨ b = a) h xs vs
  | x, u => DRel C B h x u

theorem DsRel.weaken {B B' : Addr → Prop} {h : Heap} {xs : List D} {vs : List Value} (k : ∀ a, B' a → B a) (x : DsRel C B h xs vs) : DsRel C B' h xs vs := x.grow fun a _ n e => ⟨e, fun q => n (k a q)⟩
theorem DRel.weaken {B B' : Addr → Prop} {h : Heap} {x : D} {v : Value} (k : ∀ a, B' a → B a) (y : DRel C B h x v) : DRel C B' h x v := y.grow fun a _ n e => ⟨e, fun q => n (k a q)⟩

theorem FreshRel.rel {B : Addr → Prop} {h : Heap} {n : Nat} {x : D} {u : Value} (y : FreshRel C B h n x u) : DRel C B h x u := by
  cases x with
  | list xs => obtain ⟨a, vs, k, e, _, t, nb, r⟩ := y; simp only [DRel]; exact ⟨a, vs, e, lobj_isList t, nb, r.weaken fun _ => .inl⟩
  | dict ks xs => obtain ⟨a, vs, e, _, t, l, b, nb, r⟩ := y; simp only [DRel]; exact ⟨a, vs, e, t, l, b, nb, r.weaken fun _ => .inl⟩
  | _ => exact y

/-- one more object in the store -/
theorem adoptRel (R : Rel C X env ρ α σ s) (E : Ext0 env s s') {a : Addr} {o : MO} (ha : s.heap.objs.size ≤ a) (hb : C.base.objs.size ≤ a) (ho : ORel C X (α ++ [a]) s'.heap a o) :
    Rel C X env ρ (α ++ [a]) (σ ++ [(false, o)]) s' ∧ Ext env α σ s (α ++ [a]) (σ ++ [(false, o)]) s' := by
  have E' : Ext env α σ s (α ++ [a]) (σ ++ [(false, o)]) s' :=
    ⟨fun a o e n _ => E.keep a o e n, E.ns, ⟨[a], rfl, by simp [ha]⟩, E.size, E.gens, E.os, fun n o e => by
      rw [List.getElem?_append_left (List.getElem?_eq_some_iff.mp e).1]; exact e, by simp⟩
  refine ⟨R.ext E' ⟨by simp [R.st.len], ?_, ?_, ?_, fun n b l q h1 h2 => ?_⟩, E'⟩
  · rw [List.nodup_append]
    refine ⟨R.st.nodup, by simp, fun b hm c hc e => ?_⟩
    simp only [List.mem_singleton] at hc
    subst hc; subst e
    exact absurd (R.st.lt hm) (Nat.not_lt.mpr ha)
  · intro b hb'
    rcases List.mem_append.mp hb' with q | q
    · exact R.st.out b q
    · simp only [List.mem_singleton] at q
      subst q
      exact fun q => absurd (R.xlt _ q) (Nat.not_lt.mpr ha)
  · intro b hb'
    rcases List.mem_append.mp hb' with q | q
    · exact R.st.low b q
    · simp only [List.mem_singleton] at q; subst q; exact hb
  · by_cases hn : n < α.length
    · rw [List.getElem?_append_left hn] at h1
      rw [List.getElem?_append_left (R.st.len ▸ hn)] at h2
      exact (R.st.obj n b l q h1 h2).grow (E'.grow R) E'.pre fun o ho => E.keep b o ho (R.neLoc (List.mem_of_getElem? h1))
    · have hn' := Nat.le_of_not_lt hn
      rw [List.getElem?_append_right hn'] at h1
      rw [List.getElem?_append_right (R.st.len ▸ hn'), ← R.st.len] at h2
      cases hk : n - α.length with
      | zero => rw [hk] at h1 h2; simp at h1 h2; obtain ⟨_, rfl⟩ := h2; subst h1; exact ho
      | succ k => rw [hk] at h1; simp at h1

theorem bad_snoc {a b : Addr} (h : Bad X (α ++ [a]) b) : Bad X α b ∨ b = a := by
  rcases h with q | q
  · exact .inl (.inl q)
  · rcases List.mem_append.mp q with q | q
    · exact .inl (.inr q)
    · exact .inr (by simpa using q)

theorem own_ok (R : Rel C X env ρ α σ s) (E : Ext0 env s s') {o : Bool} {x : D} {u : Value} {v : V} {σ' : St} (F : FreshRel C (Bad X α) s'.heap s.heap.objs.size x u) (h : own o (.d x) σ = (v, σ')) :
    ∃ α', Rel C X env ρ α' σ' s' ∧ VRel C X α' s'.heap v u ∧ Ext env α σ s α' σ' s' := by
  have plain : own o (.d x) σ = (.d x, σ) → ∃ α', Rel C X env ρ α' σ' s' ∧ VRel C X α' s'.heap v u ∧ Ext env α σ s α' σ' s' := fun e => by
    rw [e] at h; cases h
    exact ⟨α, R.ext0 E, by simp only [VRel]; exact F.rel, E.ext⟩
  cases o with
  | false => exact plain rfl
  | true =>
    cases x with
    | list xs =>
      obtain ⟨a, vs, k, rfl, ha, t, nb, r⟩ := F
      simp only [own, adopt, if_true, Prod.mk.injEq] at h
      obtain ⟨rfl, rfl⟩ := h
      have hb : C.base.objs.size ≤ a := by
        exact Nat.le_trans (Nat.le_trans (R.flow env.locals (.head _)) (Nat.le_of_lt (R.xlt _ (R.fa env.locals (.head _))))) ha
      obtain ⟨R', E'⟩ := adoptRel R E ha hb (o := .list (xs.map .d)) ⟨vs, k, t, VsRel.map.mpr (r.weaken fun _ => bad_snoc)⟩
      exact ⟨α ++ [a], R', by simp only [VRel]; exact ⟨a, by rw [← R.st.len]; simp, rfl⟩, E'⟩
    | dict ks xs =>
      obtain ⟨a, vs, rfl, ha, t, l, hb, nb, r⟩ := F
      simp only [own, adopt, if_true, Prod.mk.injEq] at h
      obtain ⟨rfl, rfl⟩ := h
      obtain ⟨R', E'⟩ := adoptRel R E ha hb (o := .dict ks (xs.map .d)) ⟨vs, t, l, VsRel.map.mpr (r.weaken fun _ => bad_snoc)⟩
      exact ⟨α ++ [a], R', by simp only [VRel]; exact ⟨a, by rw [← R.st.len]; simp, rfl⟩, E'⟩
    | _ => exact plain rfl

/-- a list that was just made of data that stood -/
theorem fresh_list (R : Rel C X env ρ α σ s) (E : Ext0 env s s') {a : Addr} {xs : List D} {vs : List Value} {k : Nat} (ha : s.heap.objs.size ≤ a) (t : s'.heap.get? a = some (lobj vs.toArray k)) (r : DsRel C (Bad X α) s.heap xs vs) :
    FreshRel C (Bad X α) s'.heap s.heap.objs.size (.list xs) (.ref a) := by
  have nb : ¬ Bad X α a := fun q => q.elim (fun q => absurd (R.xlt _ q) (Nat.not_lt.mpr ha)) fun q => absurd (R.st.lt q) (Nat.not_lt.mpr ha)
  refine ⟨a, vs, k, rfl, ha, t, nb, r.grow fun b o n e => ⟨(E.ext.grow R b o n e).1, fun q => ?_⟩⟩
  rcases q with q | q
  · exact n q
  · subst q; exact absurd (Heap.lt_size e) (Nat.not_lt.mpr ha)
theorem fresh_dict (R : Rel C X env ρ α σ s) (E : Ext0 env s s') {a : Addr} {ks : List Key} {xs : List D} {vs : List Value} (ha : s.heap.objs.size ≤ a) (t : s'.heap.DictOf C.kk a (ks.zip vs)) (l : ks.length = vs.length) (r : DsRel C (Bad X α) s.heap xs vs) :
    FreshRel C (Bad X α) s'.heap s.heap.objs.size (.dict ks xs) (.ref a) := by
  have nb : ¬ Bad X α a := fun q => q.elim (fun q => absurd (R.xlt _ q) (Nat.not_lt.mpr ha)) fun q => absurd (R.st.lt q) (Nat.not_lt.mpr ha)
  have hb : C.base.objs.size ≤ a := by
    exact Nat.le_trans (Nat.le_trans (R.flow env.locals (.head _)) (Nat.le_of_lt (R.xlt _ (R.fa env.locals (.head _))))) ha
  refine ⟨a, vs, rfl, ha, t, l, hb, nb, r.grow fun b o n e => ⟨(E.ext.grow R b o n e).1, fun q => ?_⟩⟩
  rcases q with q | q
  · exact n q
  · subst q; exact absurd (Heap.lt_size e) (Nat.not_lt.mpr ha)

end Mine
end

section
set_option autoImplicit false
namespace Mine
open PySem PyProof.Rows

variable {C : Wo} {X : Addr → Prop} {env : Env} {ρ : Loc} {α α' α'' : List Addr} {σ σ' σ'' : St} {s s' s'' : Shared} {A : Around} {E : Value → Shared → Prop}

/-- all that stands but the frame's own dict -/
noncomputable def allNews (h : Heap) (L : Addr) : List (Addr × Obj) := (List.range h.objs.size).filterMap fun a => if a = L then none else (h.get? a).map fun o => (a, o)

theorem mem_allNews {h : Heap} {L a : Addr} {o : Obj} (e : h.get? a = some o) (n : a ≠ L) : (a, o) ∈ allNews h L := by
  unfold allNews
  refine List.mem_filterMap.mpr ⟨a, List.mem_range.mpr (Heap.lt_size e), ?_⟩
  rw [if_neg n, e]; rfl

theorem of_allNews {h : Heap} {L : Addr} {p : Addr × Obj} (m : p ∈ allNews h L) : p.1 ≠ L ∧ h.get? p.1 = some p.2 := by
  unfold allNews at m
  obtain ⟨a, _, e⟩ := List.mem_filterMap.mp m
  split at e
  · cases e
  · rename_i n
    obtain ⟨o, ho, rfl⟩ := Option.map_eq_some_iff.mp e
    exact ⟨n, ho⟩

noncomputable abbrev noHeap : Heap := {}
theorem noHeap_get (a : Addr) : noHeap.get? a = none := Heap.get?_none_of_le (Nat.zero_le a)
theorem news_all (h : Heap) (L : Addr) : News noHeap L h (allNews h L) := fun _ hp => let ⟨n, e⟩ := of_allNews hp; ⟨e, n, noHeap_get _⟩
theorem fr_all {h : Heap} {L : Addr} {m : Str → Option Value} (hn : h.Ns L m) : Fr noHeap L h m := ⟨hn, fun b o e => absurd ((noHeap_get b).symm.trans e) (fun q => nomatch q), Nat.zero_le _⟩

theorem ns_unique {h : Heap} {a : Addr} {m m' : Str → Option Value} (x : h.Ns a m) (y : h.Ns a m') : m = m' := by
  obtain ⟨o, es, ep, ho, hd, _, hf⟩ := x
  obtain ⟨o', es', ep', ho', hd', _, hf'⟩ := y
  rw [ho] at ho'; cases ho'
  rw [hd] at hd'; cases hd'
  exact funext fun n => (hf n).symm.trans (hf' n)

theorem ext0_news {m : Str → Option Value} {h' : Heap} {p : Addr × Obj} {t : Nat} (hn : s.heap.Ns env.locals m) (F' : Fr noHeap env.locals h' m) (N' : News noHeap env.locals h' (p :: allNews s.heap env.locals))
    (hp : s.heap.objs.size ≤ p.1) : Ext0 env s { s with heap := h', toks := t } where
  keep := fun a o e n => (N' (a, o) (.tail _ (mem_allNews e n))).1
  ns := fun _ e => ns_unique hn e ▸ F'.ns
  size := Nat.le_of_lt (Nat.lt_of_le_of_lt hp (Heap.lt_size (N' p (.head _)).1))
  gens := rfl
  os := rfl

theorem intMulOk {x y : Int} (h : small x = true) : IntMulOk x y := by
  have h' : x.natAbs < 2 ^ 64 := of_decide_eq_true h
  exact .of_left (intBits_le_64 (by omega) (by omega))

theorem DsRel.append {B : Addr → Prop} {h : Heap} : ∀ {xs ys : List D} {vs us : List Value}, DsRel C B h xs vs → DsRel C B h ys us → DsRel C B h (xs ++ ys) (vs ++ us)
  | [], _, _, _, x, y => by simp only [DsRel] at x; subst x; exact y
  | _ :: _, _, _, _, x, y => by
    simp only [DsRel] at x
    obtain ⟨v, r, rfl, a, b⟩ := x
    simp only [List.cons_append, DsRel]
    exact ⟨v, _, rfl, a, DsRel.append b y⟩

theorem sizeLine_big {n : Nat} (h : sizeOk n = true) : n ≤ sizeLine := by
  have : n < 100000 := of_decide_eq_true h
  rw [sizeLine_eq]; omega

/-- a list of data, wherever it lies -/
theorem Rel.objList (R : Rel C X env ρ α σ s) {n : Nat} {u : Value} {xs : List V} (h : VRel C X α s.heap (.obj n) u) (o : oget σ n = some (.list xs)) : ∃ a vs, u = .ref a ∧ α[n]? = some a ∧ (∃ k, s.heap.get? a = some (lobj vs.toArray k)) ∧ VsRel C X α s.heap xs vs := by
  simp only [VRel] at h
  obtain ⟨a, e, rfl⟩ := h
  simp only [oget, Option.map_eq_some_iff] at o
  obtain ⟨⟨b, q⟩, hq, rfl⟩ := o
  obtain ⟨vs, k, t, r⟩ := R.st.obj n a b _ e hq
  exact ⟨a, vs, rfl, e, ⟨k, t⟩, r⟩
theorem Rel.objDict (R : Rel C X env ρ α σ s) {n : Nat} {u : Value} {ks : List Key} {xs : List V} (h : VRel C X α s.heap (.obj n) u) (o : oget σ n = some (.dict ks xs)) :
    ∃ a vs, u = .ref a ∧ α[n]? = some a ∧ s.heap.DictOf C.kk a (ks.zip vs) ∧ ks.length = vs.length ∧ VsRel C X α s.heap xs vs := by
  simp only [VRel] at h
  obtain ⟨a, e, rfl⟩ := h
  simp only [oget, Option.map_eq_some_iff] at o
  obtain ⟨⟨b, q⟩, hq, rfl⟩ := o
  obtain ⟨vs, t, l, r⟩ := R.st.obj n a b _ e hq
  exact ⟨a, vs, rfl, e, t, l, r⟩

theorem DRel.tup_iff {B : Addr → Prop} {h : Heap} {xs : List D} {v : Value} : DRel C B h (.tup xs) v ↔ ∃ a vs, v = .ref a ∧ IsTup h a vs.toArray ∧ ¬ B a ∧ DsRel C B h xs vs := by simp only [DRel]
theorem DRel.list_iff {B : Addr → Prop} {h : Heap} {xs : List D} {v : Value} : DRel C B h (.list xs) v ↔ ∃ a vs, v = .ref a ∧ h.IsList a vs.toArray ∧ ¬ B a ∧ DsRel C B h xs vs := by simp only [DRel]
theorem DRel.dict_iff {B : Addr → Prop} {h : Heap} {ks : List Key} {xs : List D} {v : Value} : DRel C B h (.dict ks xs) v ↔ ∃ a vs, v = .ref a ∧ h.DictOf C.kk a (ks.zip vs) ∧ ks.length = vs.length ∧ C.base.objs.size ≤ a ∧ ¬ B a ∧ DsRel C B h xs vs := by simp only [DRel]
theorem VRel.d_iff {h : Heap} {x : D} {v : Value} : VRel C X α h (.d x) v ↔ DRel C (Bad X α) h x v := by simp only [VRel]

theorem Rel.newBad (R : Rel C X env ρ α σ s) {a : Addr} (ha : s.heap.objs.size ≤ a) : ¬ Bad X α a :=
  fun q => q.elim (fun q => absurd (R.xlt _ q) (Nat.not_lt.mpr ha)) fun q => absurd (R.st.lt q) (Nat.not_lt.mpr ha)

/-- a tuple that was just made of data that stood -/
theorem new_tup (R : Rel C X env ρ α σ s) (E0 : Ext0 env s s') {a : Addr} {xs : List D} {vs : List Value} (ha : s.heap.objs.size ≤ a) (t : IsTup s'.heap a vs.toArray) (r : DsRel C (Bad X α) s.heap xs vs) :
    DRel C (Bad X α) s'.heap (.tup xs) (.ref a) := DRel.tup_iff.mpr ⟨a, vs, rfl, t, R.newBad ha, r.grow (E0.ext (α := α) (σ := σ) |>.grow R)⟩

theorem intV_some {v : V} {i : Int} (h : intV v = some i) : v = .d (.int i) := by
  cases v with
  | d x => cases x with
    | int j => cases h; rfl
    | _ => cases h
  | _ => cases h
theorem boolV_some {v : V} {i : Bool} (h : boolV v = some i) : v = .d (.bool i) := by
  cases v with
  | d x => cases x with
    | bool j => cases h; rfl
    | _ => cases h
  | _ => cases h
theorem tupV_some {v : V} {i : List D} (h : tupV v = some i) : v = .d (.tup i) := by
  cases v with
  | d x => cases x with
    | tup j => cases h; rfl
    | _ => cases h
  | _ => cases h
theorem listV_some {v : V} {i : List D} (h : listV v = some i) : v = .d (.list i) := by
  cases v with
  | d x => cases x with
    | list j => cases h; rfl
    | _ => cases h
  | _ => cases h
theorem binV_ok (R : Rel C X env ρ α σ s) {op : Operator} {a b v : V} {ua ub : Value} {Q : Value → Shared → Prop} (ha : VRel C X α s.heap a ua) (hb : VRel C X α s.heap b ub) (h : binV σ op a b = some v)
    (hQ : ∀ x u s', v = .d x → Ext0 env s s' → FreshRel C (Bad X α) s'.heap s.heap.objs.size x u → Q u s') : wpAny C.M A (binaryOp op ua ub) Q E s := by
  unfold binV at h
  split at h
  · unfold addV at h
    split at h
    · rename_i x hx
      obtain ⟨y, hy, rfl⟩ := Option.map_eq_some_iff.mp h
      obtain rfl := intV_some hx
      obtain rfl := intV_some hy
      simp only [VRel, DRel] at ha hb
      obtain ⟨t, rfl⟩ := ha; obtain ⟨t', rfl⟩ := hb
      exact add_int (hQ _ _ _ rfl (.toks _) (by simp only [FreshRel, DRel]; exact ⟨_, rfl⟩))
    · simp only [Option.bind_eq_some_iff] at h
      obtain ⟨x, hx, y, hy, h⟩ := h
      obtain rfl := tupV_some hx
      obtain rfl := tupV_some hy
      split at h
      · rename_i hs; cases h
        simp only [VRel, DRel] at ha hb
        obtain ⟨p, vs, rfl, tp, np, rp⟩ := ha
        obtain ⟨q, us, rfl, tq, nq, rq⟩ := hb
        obtain ⟨m, hm, _⟩ := R.fr.loc
        have l1 := rp.length
        have l2 := rq.length
        have hz' := sizeLine_big hs
        rw [List.length_append] at hz'
        refine add_tuples (fr_all hm) (news_all s.heap env.locals) tp tq (fun e => ?_) (fun _ e => ?_) (fun _ _ h' F' N' => ?_) (by omega)
        · subst e
          obtain rfl : x = [] := List.length_eq_zero_iff.mp l1
          exact hQ _ _ _ rfl .refl (DRel.tup_iff.mpr ⟨q, us, rfl, tq, nq, by simpa using rq⟩)
        · subst e
          obtain rfl : y = [] := List.length_eq_zero_iff.mp l2
          exact hQ _ _ _ rfl .refl (DRel.tup_iff.mpr ⟨p, vs, rfl, tp, np, by simpa using rp⟩)
        · have E0 : Ext0 env s { s with heap := h' } := ext0_news (t := s.toks) hm F' N' (Nat.le_refl _)
          exact hQ _ _ _ rfl E0 (new_tup R E0 (Nat.le_refl _) ⟨_, (N' _ (.head _)).1, rfl, 0, rfl⟩ (rp.append rq))
      · cases h
  · simp only [Option.bind_eq_some_iff, Option.map_eq_some_iff] at h
    obtain ⟨x, hx, y, hy, d, h, rfl⟩ := h
    obtain rfl := intV_some hx
    obtain rfl := intV_some hy
    simp only [VRel, DRel] at ha hb
    obtain ⟨t, rfl⟩ := ha; obtain ⟨t', rfl⟩ := hb
    unfold binI at h
    split at h
    · cases h; exact add_int (hQ _ _ _ rfl (.toks _) (by simp only [FreshRel, DRel]; exact ⟨_, rfl⟩))
    · cases h; exact sub_int (hQ _ _ _ rfl (.toks _) (by simp only [FreshRel, DRel]; exact ⟨_, rfl⟩))
    · split at h
      · rename_i hs; cases h; exact mul_int (hQ _ _ _ rfl (.toks _) (by simp only [FreshRel, DRel]; exact ⟨_, rfl⟩)) (intMulOk hs)
      · cases h
    · split at h
      · cases h; exact floordiv_int (by omega) (hQ _ _ _ rfl (.toks _) (by simp only [FreshRel, DRel]; exact ⟨_, by rw [Int.fdiv_eq_ediv_of_nonneg _ (by omega)]⟩)) (.inl (PyProof.noPylong_small (by omega)))
      · cases h
    · split at h
      · cases h; exact mod_int (by omega) (hQ _ _ _ rfl (.toks _) (by simp only [FreshRel, DRel]; exact ⟨_, by rw [Int.fmod_eq_emod_of_nonneg _ (by omega)]⟩))
      · cases h
    · cases h

end Mine
end

section
set_option autoImplicit false
namespace Mine
open PySem PyProof.Rows

variable {C : Wo} {X : Addr → Prop} {env : Env} {ρ : Loc} {α α' α'' : List Addr} {σ σ' σ'' : St} {s s' s'' : Shared} {A : Around} {E : Value → Shared → Prop}

theorem subscripted_any (slice : Expr) (o i : Value) : ∃ ops, subscripted slice false o i = operate ops (getItem o i) := by
  unfold subscripted
  split
  · exact ⟨_, rfl⟩
  · rename_i h; cases h
  · exact ⟨_, rfl⟩

theorem tail_of {value slice : Expr} {o i : Value} {T id : String} {Q : Value → Shared → Prop} (hT : s.TypeIs o T)
    (hl : typeLookup (.type T) "__getitem__" = pure (some (.builtin id))) (hg : wpAny C.M A (getItem o i) Q E s) : wpAny C.M A (subscriptTail value slice o i) Q E s :=
  let ⟨_, e⟩ := subscripted_any slice o i; tail_any hT hl hg e

theorem DsRel.get {B : Addr → Prop} {h : Heap} : ∀ {xs : List D} {vs : List Value} {n : Nat} {x : D}, DsRel C B h xs vs → xs[n]? = some x → ∃ v, vs[n]? = some v ∧ DRel C B h x v
  | [], _, _, _, _, e => by simp at e
  | y :: ys, _, n, x, r, e => by
    simp only [DsRel] at r
    obtain ⟨v, r', rfl, a, b⟩ := r
    cases n with
    | zero => simp only [List.getElem?_cons_zero, Option.some.injEq] at e; subst e; exact ⟨v, rfl, a⟩
    | succ n => simp only [List.getElem?_cons_succ] at e ⊢; exact DsRel.get b e
theorem VsRel.get {h : Heap} : ∀ {xs : List V} {vs : List Value} {n : Nat} {x : V}, VsRel C X α h xs vs → xs[n]? = some x → ∃ v, vs[n]? = some v ∧ VRel C X α h x v
  | [], _, _, _, _, e => by simp at e
  | y :: ys, _, n, x, r, e => by
    simp only [VsRel] at r
    obtain ⟨v, r', rfl, a, b⟩ := r
    cases n with
    | zero => simp only [List.getElem?_cons_zero, Option.some.injEq] at e; subst e; exact ⟨v, rfl, a⟩
    | succ n => simp only [List.getElem?_cons_succ] at e ⊢; exact VsRel.get b e

/-- where an index lies -/
theorem idxL_at {β : Type} {xs : List β} {k : Int} {x : β} (h : idxL xs k = some x) : ∃ j : Nat, xs[j]? = some x ∧ ((0 ≤ k ∧ k < 1000000000 ∧ j = k.toNat) ∨ (k < 0 ∧ -(xs.length : Int) ≤ k ∧ -1000000000 ≤ k ∧ j = (k + xs.length).toNat)) := by
  unfold idxL at h
  split at h
  · split at h
    · exact ⟨_, h, .inl ⟨by assumption, by assumption, rfl⟩⟩
    · cases h
  · split at h
    · rename_i h1 h2; exact ⟨_, h, .inr ⟨by omega, h2.1, h2.2, rfl⟩⟩
    · cases h

theorem seqIndex_at {k : Int} {n j : Nat} (hj : j < n) (hk : (0 ≤ k ∧ j = k.toNat) ∨ (k < 0 ∧ 0 ≤ k + n ∧ j = (k + n).toNat)) : seqIndex? k n = some j := by
  unfold seqIndex?
  rcases hk with ⟨h0, rfl⟩ | ⟨h0, h1, rfl⟩
  · have h : ¬ k < 0 := by omega
    simp only [h, if_false]
    rw [if_pos (by simp only [Bool.and_eq_true, decide_eq_true_eq]; omega)]
  · simp only [h0, if_true]
    rw [if_pos (by simp only [Bool.and_eq_true, decide_eq_true_eq]; omega)]

theorem getItem_listAt {a : Addr} {vs : List Value} {n j : Nat} {k : Int} {t : Tok} {u : Value} {Q : Value → Shared → Prop} (hl : s.heap.IsList a vs.toArray) (hn : n = vs.length) (hj : vs[j]? = some u)
    (hk : (0 ≤ k ∧ k < 1000000000 ∧ j = k.toNat) ∨ (k < 0 ∧ -(n : Int) ≤ k ∧ -1000000000 ≤ k ∧ j = (k + n).toNat)) (h : Q u s) : wpAny C.M A (getItem (.ref a) (.int k t)) Q E s := by
  rcases hk with ⟨h0, h1, rfl⟩ | ⟨h0, h1, h2, rfl⟩
  · exact wpAny_getItem_list hl h0 (by omega) (by simpa using hj) h
  · exact wpAny_getItem_list_neg hl h0 (by simp only [List.size_toArray]; omega) (by omega) (by simp only [List.size_toArray, ← hn]; simpa using hj) h
theorem getItem_tupAt {a : Addr} {vs : List Value} {n j : Nat} {k : Int} {t : Tok} {u : Value} {Q : Value → Shared → Prop} (hl : IsTup s.heap a vs.toArray) (hn : n = vs.length) (hj : vs[j]? = some u)
    (hk : (0 ≤ k ∧ k < 1000000000 ∧ j = k.toNat) ∨ (k < 0 ∧ -(n : Int) ≤ k ∧ -1000000000 ≤ k ∧ j = (k + n).toNat)) (h : Q u s) : wpAny C.M A (getItem (.ref a) (.int k t)) Q E s := by
  have hlt := (List.getElem?_eq_some_iff.mp hj).1
  refine getItem_tuple (j := j) hl (by omega) (by omega) ?_ (by simpa using hj) h
  rw [List.size_toArray]
  exact seqIndex_at hlt (hk.imp (fun q => ⟨q.1, q.2.2⟩) fun q => ⟨q.1, by omega, by omega⟩)

theorem keyOf_is {h : Heap} {v : V} {k : Key} {u : Value} (e : keyOf v = some k) (r : VRel C X α h v u) : C.kk.is k u = true := by
  unfold keyOf at e
  split at e
  · cases e
    simp only [VRel, DRel] at r
    obtain ⟨t, rfl⟩ := r
    simp [Wo.kk, keyKind, keyIs, Value.isInt]
  · cases e
    simp only [VRel, DRel] at r
    obtain ⟨t, rfl⟩ := r
    simp [Wo.kk, keyKind, keyIs, Value.isStrOf]
  · cases e

theorem valueAt_zip {k : Key} : ∀ {ks : List Key} {vs : List Value}, valueAt (ks.zip vs) k = getK k ks vs
  | [], _ => by cases ‹List Value› <;> rfl
  | _ :: _, [] => rfl
  | k' :: ks, v :: vs => by
    unfold valueAt
    rw [List.zip_cons_cons, List.find?_cons, getK]
    by_cases h : k = k'
    · subst h; simp
    · rw [if_neg h]
      have h' : ¬ k' = k := fun e => h e.symm
      simp only [decide_eq_false h']
      exact valueAt_zip (ks := ks) (vs := vs)

theorem DsRel.getK {B : Addr → Prop} {h : Heap} {k : Key} : ∀ {ks : List Key} {xs : List D} {vs : List Value} {x : D}, DsRel C B h xs vs → Mine.getK k ks xs = some x → ∃ v, Mine.getK k ks vs = some v ∧ DRel C B h x v
  | [], _, _, _, _, e => by cases e
  | _ :: _, [], _, _, _, e => by cases e
  | k' :: ks, y :: ys, _, x, r, e => by
    simp only [DsRel] at r
    obtain ⟨v, r', rfl, a, b⟩ := r
    simp only [getK_cons] at e ⊢
    split at e
    · rename_i hk; cases e; rw [if_pos hk]; exact ⟨v, rfl, a⟩
    · rename_i hk; rw [if_neg hk]; exact DsRel.getK b e
theorem VsRel.getK {h : Heap} {k : Key} : ∀ {ks : List Key} {xs : List V} {vs : List Value} {x : V}, VsRel C X α h xs vs → Mine.getK k ks xs = some x → ∃ v, Mine.getK k ks vs = some v ∧ VRel C X α h x v
  | [], _, _, _, _, e => by cases e
  | _ :: _, [], _, _, _, e => by cases e
  | k' :: ks, y :: ys, _, x, r, e => by
    simp only [VsRel] at r
    obtain ⟨v, r', rfl, a, b⟩ := r
    simp only [getK_cons] at e ⊢
    split at e
    · rename_i hk; cases e; rw [if_pos hk]; exact ⟨v, rfl, a⟩
    · rename_i hk; rw [if_neg hk]; exact VsRel.getK b e

theorem getItemV_ok (R : Rel C X env ρ α σ s) {o i v : V} {uo ui : Value} {value slice : Expr} {Q : Value → Shared → Prop} (ho : VRel C X α s.heap o uo) (hi : VRel C X α s.heap i ui) (h : getItemV σ o i = some v)
    (hQ : ∀ u t, VRel C X α s.heap v u → Q u { s with toks := t }) : wpAny C.M A (subscriptTail value slice uo ui) Q E s := by
  have ofList : ∀ {xs : List V} {a : Addr} {vs : List Value} {k : Int}, uo = .ref a → s.heap.IsList a vs.toArray → VsRel C X α s.heap xs vs → i = .d (.int k) → idxL xs k = some v → wpAny C.M A (subscriptTail value slice uo ui) Q E s := by
    intro xs a vs k e1 t r e2 e3
    subst e1 e2
    simp only [VRel, DRel] at hi
    obtain ⟨tk, rfl⟩ := hi
    obtain ⟨j, hj, hk⟩ := idxL_at e3
    obtain ⟨u, hu, ru⟩ := r.get hj
    exact tail_of t.typeIs slot_list_getitem.lookup (getItem_listAt t r.length hu hk (hQ u s.toks ru))
  have ofTup : ∀ {xs : List V} {a : Addr} {vs : List Value} {k : Int}, uo = .ref a → IsTup s.heap a vs.toArray → VsRel C X α s.heap xs vs → i = .d (.int k) → idxL xs k = some v → wpAny C.M A (subscriptTail value slice uo ui) Q E s := by
    intro xs a vs k e1 t r e2 e3
    subst e1 e2
    simp only [VRel, DRel] at hi
    obtain ⟨tk, rfl⟩ := hi
    obtain ⟨j, hj, hk⟩ := idxL_at e3
    obtain ⟨u, hu, ru⟩ := r.get hj
    exact tail_of t.typeIs slot_tuple_getitem.lookup (getItem_tupAt t r.length hu hk (hQ u s.toks ru))
  have ofDict : ∀ {ks : List Key} {xs : List V} {a : Addr} {vs : List Value} {k : Key}, uo = .ref a → s.heap.DictOf C.kk a (ks.zip vs) → VsRel C X α s.heap xs vs → keyOf i = some k → getK k ks xs = some v → wpAny C.M A (subscriptTail value slice uo ui) Q E s := by
    intro ks xs a vs k e1 t r e2 e3
    subst e1
    obtain ⟨u, hu, ru⟩ := r.getK e3
    exact tail_of t.typeIs slot_dict_getitem.lookup (wpAny_getItem_of (keyOf_is e2 hi) t.mapOf (valueAt_zip.trans hu) (hQ u _ ru))
  have idxMap : ∀ {xs : List D} {k : Int} {x : D}, idxL xs k = some x → idxL (xs.map V.d) k = some (.d x) := by
    intro xs k x e
    unfold idxL at e ⊢
    simp only [List.length_map, List.getElem?_map]
    split at e
    · split at e
      · rename_i h1 h2; rw [if_pos h1, if_pos h2, e]; rfl
      · cases e
    · split at e
      · rename_i h1 h2; rw [if_neg h1, if_pos h2, e]; rfl
      · cases e
  have getKMap : ∀ {ks : List Key} {xs : List D} {k : Key} {x : D}, getK k ks xs = some x → getK k ks (xs.map V.d) = some (.d x) := by
    intro ks
    induction ks with
    | nil => intro xs k x e; cases e
    | cons k' ks ih =>
      intro xs k x e
      cases xs with
      | nil => cases e
      | cons y ys =>
        simp only [List.map_cons, getK_cons] at e ⊢
        split at e
        · rename_i hk; cases e; rw [if_pos hk]
        · rename_i hk; rw [if_neg hk]; exact ih e
  unfold getItemV at h
  split at h
  · obtain ⟨x, hx, rfl⟩ := Option.map_eq_some_iff.mp h
    simp only [VRel, DRel] at ho
    obtain ⟨a, vs, e, t, _, r⟩ := ho
    exact ofList e t (VsRel.map.mpr r) rfl (idxMap hx)
  · obtain ⟨x, hx, rfl⟩ := Option.map_eq_some_iff.mp h
    simp only [VRel, DRel] at ho
    obtain ⟨a, vs, e, t, _, r⟩ := ho
    exact ofTup e t (VsRel.map.mpr r) rfl (idxMap hx)
  · split at h
    · rename_i hk
      obtain ⟨c, hc, rfl⟩ := Option.map_eq_some_iff.mp h
      simp only [VRel, DRel] at ho hi
      obtain ⟨t, rfl⟩ := ho
      obtain ⟨t', rfl⟩ := hi
      have hlt := (List.getElem?_eq_some_iff.mp hc).1
      refine tail_of (typeIs_str _ _ _) slot_str_getitem.lookup (PyProof.Rows.getItem_str (c := c) (by simp; omega) ?_ (hQ _ _ (by simp only [VRel, DRel]; exact ⟨_, rfl⟩)))
      rw [Array.length_toList] at hlt
      unfold Str.length
      rw [seqIndex_at (j := Int.toNat _) hlt (.inl ⟨hk.1, rfl⟩)]
      simpa using hc
    · cases h
  · simp only [Option.bind_eq_some_iff, Option.map_eq_some_iff] at h
    obtain ⟨k, hk, x, hx, rfl⟩ := h
    simp only [VRel, DRel] at ho
    obtain ⟨a, vs, e, t, _, _, _, r⟩ := ho
    exact ofDict e t (VsRel.map.mpr r) hk (getKMap hx)
  · simp only [VRel] at ho
    obtain ⟨a, vs, e, t, _, r⟩ := ho
    exact ofTup e t r rfl h
  · split at h
    · rename_i n xs hn
      obtain ⟨a, vs, e, _, ⟨k, t⟩, r⟩ := R.objList ho hn
      replace t := lobj_isList t
      split at h
      · exact ofList e t r rfl h
      · cases h
    · rename_i n ks xs hn
      simp only [Option.bind_eq_some_iff] at h
      obtain ⟨k, hk, hx⟩ := h
      obtain ⟨a, vs, e, _, t, _, r⟩ := R.objDict ho hn
      exact ofDict e t r hk hx
    · cases h
  · cases h

end Mine
end

section
set_option autoImplicit false
namespace Mine
open PySem PyProof.Rows

variable {C : Wo} {X : Addr → Prop} {env : Env} {ρ : Loc} {α α' α'' : List Addr} {σ σ' σ'' : St} {s s' s'' : Shared} {A : Around} {E : Value → Shared → Prop}

abbrev B0 : Addr → Prop := fun _ => False

theorem getK_at {β : Type} : ∀ {ks : List Key} {vs : List β} {n : Nat} {k : Key} {v : β}, ks.Nodup → ks[n]? = some k → vs[n]? = some v → getK k ks vs = some v
  | [], _, _, _, _, _, e, _ => by simp at e
  | _ :: _, [], _, _, _, _, _, e => by simp at e
  | k' :: ks, v' :: vs, n, k, v, hn, e1, e2 => by
    simp only [getK_cons]
    cases n with
    | zero => simp only [List.getElem?_cons_zero, Option.some.injEq] at e1 e2; subst e1; subst e2; simp
    | succ n =>
      simp only [List.getElem?_cons_succ] at e1 e2
      have : k ≠ k' := fun q => (List.nodup_cons.mp hn).1 (q ▸ List.mem_of_getElem? e1)
      rw [if_neg this]
      exact getK_at (List.nodup_cons.mp hn).2 e1 e2

/-- no key stands twice -/
def okKeys : D → Prop
  | .dict ks vs => ks.Nodup ∧ ks.length = vs.length
  | _ => True

theorem DRel.keys {B : Addr → Prop} {h : Heap} {ks : List Key} {xs : List D} {u : Value} (r : DRel C B h (.dict ks xs) u) : ks.Nodup ∧ ks.length = xs.length := by
  simp only [DRel] at r
  obtain ⟨a, vs, _, t, l, _, _, r⟩ := r
  obtain ⟨_, _, _, _, _, _, _, _, hn⟩ := t
  rw [List.map_fst_zip (Nat.le_of_eq l)] at hn
  exact ⟨hn, l.trans r.length.symm⟩

/-- two readings of one value that can be compared are equal -/
theorem eqS_same {B : Addr → Prop} {h : Heap} {x y : D} {u : Value} {b : Bool} (e : eqS x y = some b) (rx : DRel C B h x u) (ry : DRel C B h y u) : b = true := by
  cases x with
  | int i => cases y with
    | int j =>
      cases e
      simp only [DRel] at rx ry
      obtain ⟨t, rfl⟩ := rx
      obtain ⟨t', e⟩ := ry
      cases e
      exact decide_eq_true rfl
    | _ => cases e
  | str i => cases y with
    | str j =>
      cases e
      simp only [DRel] at rx ry
      obtain ⟨t, rfl⟩ := rx
      obtain ⟨t', e⟩ := ry
      cases e
      exact decide_eq_true rfl
    | _ => cases e
  | none => cases y with
    | none => cases e; rfl
    | _ => cases e
  | bool i => cases y with
    | bool j =>
      cases e
      simp only [DRel] at rx ry
      subst rx
      cases ry
      exact beq_self_eq_true _
    | _ => cases e
  | _ => cases e
theorem eqL_same {B : Addr → Prop} {h : Heap} {f : D → D → Option Bool} (hf : ∀ x y u b, f x y = some b → DRel C B h x u → DRel C B h y u → b = true) : ∀ {xs ys : List D} {us : List Value} {b : Bool}, eqL f xs ys = some b → DsRel C B h xs us → DsRel C B h ys us → b = true
  | [], _, _, b, e, _, _ => by cases e; rfl
  | _ :: _, [], _, b, e, _, _ => by cases e; rfl
  | x :: xs, y :: ys, us, b, e, rx, ry => by
    simp only [DsRel] at rx ry
    obtain ⟨u, r, rfl, p1, p2⟩ := rx
    obtain ⟨u', r', e', q1, q2⟩ := ry
    cases e'
    obtain ⟨x', y', h1, h2, rfl⟩ := and2_some e
    rw [hf _ _ _ _ h1 p1 q1, eqL_same hf h2 p2 q2]; rfl
theorem seq_same {h : Heap} {a : Addr} {xs ys : Array Value} (p : ∃ o, h.get? a = some o ∧ ∃ n, o.data = .seq xs n) (q : ∃ o, h.get? a = some o ∧ ∃ n, o.data = .seq ys n) : xs = ys := by
  obtain ⟨o, ho, n, hd⟩ := p
  obtain ⟨o', ho', n', hd'⟩ := q
  rw [ho] at ho'
  cases ho'
  rw [hd] at hd'
  cases hd'
  rfl
theorem eqP_tup {k : Nat} {xs ys : List D} : eqP (k + 1) (.tup xs) (.tup ys) = (eqL (eqP k) xs ys).map fun b => b && decide (xs.length = ys.length) := rfl
theorem eqP_list {k : Nat} {xs ys : List D} : eqP (k + 1) (.list xs) (.list ys) = if xs.length = ys.length then eqL (eqP k) xs ys else some false := rfl
theorem eqP_same {B : Addr → Prop} {h : Heap} : ∀ (k : Nat) {x y : D} {u : Value} {b : Bool}, eqP k x y = some b → DRel C B h x u → DRel C B h y u → b = true := by
  intro k
  induction k with
  | zero => intro x y u b e rx ry; exact eqS_same e rx ry
  | succ k ih =>
    intro x y u b e rx ry
    cases x with
    | tup xs => cases y with
      | tup ys =>
        rw [eqP_tup] at e
        obtain ⟨c, hc, rfl⟩ := Option.map_eq_some_iff.mp e
        simp only [DRel] at rx ry
        obtain ⟨p, vs, rfl, ⟨o, ho, _, t⟩, _, r⟩ := rx
        obtain ⟨q, us, e', ⟨o', ho', _, t'⟩, _, r'⟩ := ry
        cases e'
        have ev : vs = us := congrArg Array.toList (seq_same ⟨o, ho, t⟩ ⟨o', ho', t'⟩)
        subst ev
        rw [eqL_same (fun _ _ _ _ => ih) hc r r', decide_eq_true (r.length.trans r'.length.symm)]
        rfl
      | _ => cases e
    | list xs => cases y with
      | list ys =>
        rw [eqP_list] at e
        simp only [DRel] at rx ry
        obtain ⟨p, vs, rfl, ⟨o, ho, _, t⟩, _, r⟩ := rx
        obtain ⟨q, us, e', ⟨o', ho', _, t'⟩, _, r'⟩ := ry
        cases e'
        have ev : vs = us := congrArg Array.toList (seq_same ⟨o, ho, t⟩ ⟨o', ho', t'⟩)
        subst ev
        rw [if_pos (r.length.trans r'.length.symm)] at e
        exact eqL_same (fun _ _ _ _ => ih) e r r'
      | _ => cases e
    | none => exact eqS_same (x := .none) e rx ry
    | bool i => exact eqS_same (x := .bool i) e rx ry
    | int i => exact eqS_same (x := .int i) e rx ry
    | str i => exact eqS_same (x := .str i) e rx ry
    | dict ks vs => exact eqS_same (x := .dict ks vs) e rx ry
    | set ks => exact eqS_same (x := .set ks) e rx ry

/-- pairs of items: the answers -/
noncomputable def ansL (f : D → D → Option Bool) (xs ys : List D) (j : Nat) : Bool := match xs[j]?, ys[j]? with
  | some x, some y => (f x y).getD false
  | _, _ => false

theorem eqL_all {f : D → D → Option Bool} : ∀ {xs ys : List D} {b : Bool}, eqL f xs ys = some b → (List.range (min xs.length ys.length)).all (ansL f xs ys) = b ∧ ∀ (j : Nat) x y, xs[j]? = some x → ys[j]? = some y → f x y = some (ansL f xs ys j)
  | [], ys, b, e => by
    cases e
    exact ⟨by simp, fun j x y h => by simp at h⟩
  | x :: xs, [], b, e => by
    cases e
    exact ⟨by simp, fun j x y _ h => by simp at h⟩
  | x :: xs, y :: ys, b, e => by
    obtain ⟨p, q, h1, h2, rfl⟩ := and2_some e
    obtain ⟨i1, i2⟩ := eqL_all h2
    have sh : ∀ j, ansL f (x :: xs) (y :: ys) (j + 1) = ansL f xs ys j := fun j => by simp only [ansL, List.getElem?_cons_succ]
    have s0 : ansL f (x :: xs) (y :: ys) 0 = p := by simp only [ansL, List.getElem?_cons_zero, h1, Option.getD_some]
    refine ⟨?_, fun j a b ha hb => ?_⟩
    · have : min (x :: xs).length (y :: ys).length = min xs.length ys.length + 1 := by simp only [List.length_cons]; omega
      rw [this, List.range_succ_eq_map, List.all_cons, List.all_map, s0, ← i1]
      congr 1
    · cases j with
      | zero => simp only [List.getElem?_cons_zero, Option.some.injEq] at ha hb; subst ha; subst hb; rw [s0]; exact h1
      | succ j => simp only [List.getElem?_cons_succ] at ha hb; rw [sh]; exact i2 j a b ha hb

theorem units_in1 : A.in1.units = A.units + 1 := rfl

section
variable (C)
theorem eqK_hits {s : Shared} {A : Around} {f : D → D → Option Bool} {js : List Key} {ys : List D} {us : List Value} (ry : DsRel C B0 s.heap ys us)
    (hf : ∀ x y u v b, f x y = some b → DRel C B0 s.heap x u → DRel C B0 s.heap y v → SeqAt.EqAt A s u v b) :
    ∀ {ks : List Key} {xs : List D} {vs : List Value} {b : Bool}, DsRel C B0 s.heap xs vs → ks.length = vs.length → eqK f ks xs js ys = some b → W.KeqHits A s (js.zip us) (ks.zip vs) b
  | [], _, vs, b, r, l, e => by
    cases e; exact .nil
  | k :: ks, [], vs, b, r, l, e => by
    simp only [DsRel] at r; subst r; cases l
  | k :: ks, x :: xs, vs, b, r, l, e => by
    simp only [DsRel] at r
    obtain ⟨v, r', rfl, p, q⟩ := r
    replace e : (match getK k js ys with | none => some false | some u => and2 (f x u) (eqK f ks xs js ys)) = some b := e
    rw [List.zip_cons_cons]
    cases hn : getK k js ys with
    | none =>
      rw [hn] at e
      cases e
      refine .miss (valueAt_zip.trans ?_)
      cases hq : getK k js us with
      | none => rfl
      | some w =>
        exfalso
        have : ∀ {js : List Key} {ys : List D} {us : List Value} {w : Value}, DsRel C B0 s.heap ys us → getK k js us = some w → getK k js ys ≠ none := by
          intro js
          induction js with
          | nil => intro ys us w _ h; cases h
          | cons j js ih =>
            intro ys us w r h
            cases ys with
            | nil => simp only [DsRel] at r; subst r; cases h
            | cons y ys =>
              simp only [DsRel] at r
              obtain ⟨v, r', rfl, p, q⟩ := r
              simp only [getK_cons] at h ⊢
              split
              · simp
              · rename_i hk; rw [if_neg hk] at h; exact ih q h
        exact this ry hq hn
    | some y =>
      rw [hn] at e
      obtain ⟨a, c, h1, h2, rfl⟩ := and2_some e
      obtain ⟨w, hw, rw'⟩ := ry.getK hn
      exact .hit (valueAt_zip.trans hw) (hf _ _ _ _ _ h1 p rw') (eqK_hits ry hf q (by simpa using l) h2)
end

theorem low_addr {a : Addr} (hb : C.base.objs.size ≤ a) (h2 : 2 ≤ C.base.objs.size) : (a == sysModules) = false := by
  have : a ≠ 1 := fun e => by subst e; omega
  exact beq_eq_false_iff_ne.mpr this

theorem bne_dec {β : Type} [DecidableEq β] {a b : β} : (a == b) = decide (a = b) := by
  by_cases h : a = b
  · subst h; simp
  · simp [h]

/-- three ways to ask -/
def Asked (A : Around) (s : Shared) (u v : Value) (b : Bool) : Prop := SeqAt.EqAt A s u v b ∧ SeqAt.RcAt A s u v b ∧ SeqAt.RcNeAt A s u v (!b)

theorem asked_items {A : Around} {f : D → D → Option Bool} {xs ys : List D} {vs us : List Value} {b : Bool} (rx : DsRel C B0 s.heap xs vs) (ry : DsRel C B0 s.heap ys us) (e : eqL f xs ys = some b)
    (hf : ∀ x y u v b, f x y = some b → DRel C B0 s.heap x u → DRel C B0 s.heap y v → SeqAt.EqAt A s u v b) :
    ∀ j (h1 : j < vs.toArray.size) (h2 : j < us.toArray.size), SeqAt.EqAt A s vs.toArray[j] us.toArray[j] (ansL f xs ys j) := by
  intro j h1 h2
  have l1 := rx.length
  have l2 := ry.length
  simp only [List.size_toArray] at h1 h2
  have hx : xs[j]? = some xs[j] := List.getElem?_eq_getElem (by omega)
  have hy : ys[j]? = some ys[j] := List.getElem?_eq_getElem (by omega)
  obtain ⟨u, hu, ru⟩ := rx.get hx
  obtain ⟨v, hv, rv⟩ := ry.get hy
  have e1 : vs.toArray[j] = u := by simpa [h1] using hu
  have e2 : us.toArray[j] = v := by simpa [h2] using hv
  rw [e1, e2]
  exact hf _ _ _ _ _ ((eqL_all e).2 j _ _ hx hy) ru rv

theorem eqS_at {A : Around} {x y : D} {u v : Value} {b : Bool} (e : eqS x y = some b) (rx : DRel C B0 s.heap x u) (ry : DRel C B0 s.heap y v) : Asked A s u v b := by
  cases x with
  | int i => cases y with
    | int j => simp only [DRel] at rx ry; obtain ⟨t, rfl⟩ := rx; obtain ⟨t', rfl⟩ := ry; cases e; rw [← bne_dec]; exact ⟨.int_int _ _ _ _, .int_int _ _ _ _, .int_int _ _ _ _⟩
    | _ => cases e
  | str i => cases y with
    | str j => simp only [DRel] at rx ry; obtain ⟨t, rfl⟩ := rx; obtain ⟨t', rfl⟩ := ry; cases e; rw [← bne_dec]; exact ⟨.str_str _ _ _ _, .str_str _ _ _ _, .str_str _ _ _ _⟩
    | _ => cases e
  | none => cases y with
    | none => simp only [DRel] at rx ry; subst rx; subst ry; cases e; exact ⟨.same _, .none_none, .none_none⟩
    | _ => cases e
  | bool i => cases y with
    | bool j => simp only [DRel] at rx ry; subst rx; subst ry; cases e; exact ⟨.bool_bool _ _, .bool_bool _ _, .bool_bool _ _⟩
    | _ => cases e
  | _ => cases e

theorem eqP_at : ∀ (k : Nat) {A : Around} {x y : D} {u v : Value} {b : Bool}, A.units + k < cLine → eqP k x y = some b → DRel C B0 s.heap x u → DRel C B0 s.heap y v → Asked A s u v b := by
  intro k
  induction k with
  | zero => intro A x y u v b hu e rx ry; exact eqS_at e rx ry
  | succ k ih =>
    intro A x y u v b hu e rx ry
    have hu' : A.units < cLine := by omega
    cases x with
    | tup xs =>
      cases y with
      | tup ys =>
        have e0 := e
        rw [eqP_tup] at e
        simp only [Option.map_eq_some_iff] at e
        obtain ⟨c, hc, rfl⟩ := e
        have rx' := rx; have ry' := ry
        simp only [DRel] at rx ry
        obtain ⟨p, vs, rfl, t, _, r⟩ := rx
        obtain ⟨q, us, rfl, t', _, r'⟩ := ry
        have it := asked_items (A := A.in1) r r' hc fun x y u v b h1 h2 h3 => (ih (by rw [units_in1]; omega) h1 h2 h3).1
        have l1 := r.length
        have l2 := r'.length
        have key : ((List.range (min vs.toArray.size us.toArray.size)).all (ansL (eqP k) xs ys) && vs.toArray.size == us.toArray.size) = (c && decide (xs.length = ys.length)) := by
          simp only [List.size_toArray, ← l1, ← l2]
          rw [(eqL_all hc).1, bne_dec]
        have rc := SeqAt.RcAt.tuples t t' hu' it
        have rn := SeqAt.RcNeAt.tuples t t' hu' it
        rw [key] at rc rn
        refine ⟨?_, rc, rn⟩
        by_cases hpq : p = q
        · subst hpq
          have h1 := eqP_same (k + 1) e0 rx' ry'
          rw [h1]
          exact SeqAt.EqAt.same (.ref p)
        · exact .of_refs hpq rc
      | _ => cases e
    | list xs =>
      cases y with
      | list ys =>
        have e0 := e
        rw [eqP_list] at e
        have rx' := rx; have ry' := ry
        simp only [DRel] at rx ry
        obtain ⟨p, vs, rfl, t, _, r⟩ := rx
        obtain ⟨q, us, rfl, t', _, r'⟩ := ry
        have l1 := r.length
        have l2 := r'.length
        split at e
        · rename_i hl
          have it := asked_items (A := A.in1) r r' e fun x y u v b h1 h2 h3 => (ih (by rw [units_in1]; omega) h1 h2 h3).1
          have hsz : vs.toArray.size = us.toArray.size := by simp only [List.size_toArray]; omega
          have key : (List.range vs.toArray.size).all (ansL (eqP k) xs ys) = b := by
            have := (eqL_all e).1
            rw [← hl, Nat.min_self] at this
            simp only [List.size_toArray, ← l1]; exact this
          have rc := SeqAt.RcAt.lists t t' hsz hu' it
          have rn := SeqAt.RcNeAt.lists t t' hsz hu' it
          rw [key] at rc rn
          refine ⟨?_, rc, rn⟩
          by_cases hpq : p = q
          · subst hpq
            have h1 := eqP_same (k + 1) e0 rx' ry'
            rw [h1]
            exact SeqAt.EqAt.same (.ref p)
          · exact .of_refs hpq rc
        · rename_i hl
          cases e
          have hsz : (vs.toArray.size != us.toArray.size) = true := by simp only [List.size_toArray, bne_iff_ne]; omega
          have rc := SeqAt.RcAt.lists_lengths t t' hsz hu'
          refine ⟨.of_refs (fun hpq => ?_) rc, rc, SeqAt.RcNeAt.lists_lengths t t' hsz hu'⟩
          subst hpq
          obtain ⟨o, ho, _, t⟩ := t
          obtain ⟨o', ho', _, t'⟩ := t'
          have ev : vs = us := congrArg Array.toList (seq_same ⟨o, ho, t⟩ ⟨o', ho', t'⟩)
          subst ev
          exact hl (l1.trans l2.symm)
      | _ => cases e
    | none => exact eqS_at (x := .none) (y := y) e rx ry
    | bool i => exact eqS_at (x := .bool i) (y := y) e rx ry
    | int i => exact eqS_at (x := .int i) (y := y) e rx ry
    | str i => exact eqS_at (x := .str i) (y := y) e rx ry
    | dict ks vs => exact eqS_at (x := .dict ks vs) (y := y) e rx ry
    | set ks => exact eqS_at (x := .set ks) (y := y) e rx ry
end Mine
end

section
set_option autoImplicit false
namespace Mine
open PySem PyProof.Rows

variable {C : Wo} {X : Addr → Prop} {env : Env} {ρ : Loc} {α α' α'' : List Addr} {σ σ' σ'' : St} {s s' s'' : Shared} {A : Around} {E : Value → Shared → Prop}

theorem DRel.any {B : Addr → Prop} {h : Heap} {x : D} {u : Value} (r : DRel C B h x u) : DRel C B0 h x u := r.weaken fun _ q => q.elim
theorem DsRel.any {B : Addr → Prop} {h : Heap} {x : List D} {u : List Value} (r : DsRel C B h x u) : DsRel C B0 h x u := r.weaken fun _ q => q.elim

/-- what is read of a value is there -/
theorem view_okB {B : Addr → Prop} (hB : ∀ a, B a → X a) (S : SRel C X α σ s.heap) : ∀ (k : Nat) {v : V} {u : Value} {x : D}, VRel C X α s.heap v u → view k σ v = some x → DRel C B s.heap x u := by
  intro k
  induction k with
  | zero =>
    intro v u x r e
    cases v with
    | d y => cases e; exact (VRel.d_iff.mp r).weaken fun a q => .inl (hB a q)
    | obj n => cases e
    | tup ys => cases e
  | succ k ih =>
    intro v u x r e
    have all : ∀ {vs : List V} {us : List Value} {xs : List D}, VsRel C X α s.heap vs us → mapO (view k σ) vs = some xs → DsRel C B s.heap xs us := by
      intro vs
      induction vs with
      | nil =>
        intro us xs r e
        cases e
        simp only [VsRel] at r
        simp only [DsRel]; exact r
      | cons v vs ihv =>
        intro us xs r e
        simp only [mapO_c, Option.bind_eq_some_iff, Option.map_eq_some_iff] at e
        obtain ⟨y, hy, ys, hys, rfl⟩ := e
        simp only [VsRel] at r
        obtain ⟨u, r', rfl, p, q⟩ := r
        simp only [DsRel]
        exact ⟨u, r', rfl, ih p hy, ihv q hys⟩
    cases v with
    | d y => cases e; exact (VRel.d_iff.mp r).weaken fun a q => .inl (hB a q)
    | tup ys =>
      simp only [view_t, Option.map_eq_some_iff] at e
      obtain ⟨xs, hx, rfl⟩ := e
      simp only [VRel] at r
      obtain ⟨a, vs, rfl, t, nb, r⟩ := r
      exact DRel.tup_iff.mpr ⟨a, vs, rfl, t, fun q => nb (.inl (hB a q)), all r hx⟩
    | obj n =>
      simp only [VRel] at r
      obtain ⟨a, ha, rfl⟩ := r
      rw [view_o] at e
      split at e
      · rename_i ys ho
        simp only [Option.map_eq_some_iff] at e
        obtain ⟨xs, hx, rfl⟩ := e
        simp only [oget, Option.map_eq_some_iff] at ho
        obtain ⟨⟨b, q⟩, hq, rfl⟩ := ho
        obtain ⟨vs, k', t, r⟩ := S.obj n a b _ ha hq
        exact DRel.list_iff.mpr ⟨a, vs, rfl, lobj_isList t, fun q => S.out a (List.mem_of_getElem? ha) (hB a q), all r hx⟩
      · rename_i ks ys ho
        simp only [Option.map_eq_some_iff] at e
        obtain ⟨xs, hx, rfl⟩ := e
        simp only [oget, Option.map_eq_some_iff] at ho
        obtain ⟨⟨b, q⟩, hq, rfl⟩ := ho
        obtain ⟨vs, t, l, r⟩ := S.obj n a b _ ha hq
        exact DRel.dict_iff.mpr ⟨a, vs, rfl, t, l, S.low a (List.mem_of_getElem? ha), fun q => S.out a (List.mem_of_getElem? ha) (hB a q), all r hx⟩
      · cases e

theorem view_ok (S : SRel C X α σ s.heap) (k : Nat) {v : V} {u : Value} {x : D} (r : VRel C X α s.heap v u) (e : view k σ v = some x) : DRel C B0 s.heap x u := view_okB (fun _ q => q.elim) S k r e

theorem eqD_ok (h2 : 2 ≤ C.base.objs.size) {x y : D} {u v : Value} {b : Bool} (hu : A.units + 30 < cLine) (e : eqD x y = some b) (rx : DRel C B0 s.heap x u) (ry : DRel C B0 s.heap y v) :
    (∀ Q : Value → Shared → Prop, Q (.bool b) s → wpAny C.M A (compareOp .Eq u v) Q E s) ∧ ∀ Q : Value → Shared → Prop, Q (.bool (!b)) s → wpAny C.M A (compareOp .NotEq u v) Q E s := by
  have plain : eqP 20 x y = some b → (∀ Q : Value → Shared → Prop, Q (.bool b) s → wpAny C.M A (compareOp .Eq u v) Q E s) ∧ ∀ Q : Value → Shared → Prop, Q (.bool (!b)) s → wpAny C.M A (compareOp .NotEq u v) Q E s := fun e =>
    have z := eqP_at 20 (by omega) e rx ry
    ⟨fun Q q => z.2.1 _ _ E Q q, fun Q q => z.2.2 _ _ E Q q⟩
  unfold eqD at e
  split at e
  · rename_i ks vs js us
    simp only [DRel] at rx ry
    obtain ⟨p, ps, rfl, t, l, lo, _, r⟩ := rx
    obtain ⟨q, qs, rfl, t', l', lo', _, r'⟩ := ry
    have z1 : (ks.zip ps).length = ks.length := by rw [List.length_zip, ← l, Nat.min_self]
    have z2 : (js.zip qs).length = js.length := by rw [List.length_zip, ← l', Nat.min_self]
    have hits : ∀ {c : Bool}, eqK (eqP 20) ks vs js us = some c → W.KeqHits A.in1 s (js.zip qs) (ks.zip ps) c := fun h =>
      eqK_hits C r' (fun x y u v b h1 h2 h3 => (eqP_at 20 (by rw [units_in1]; omega) h1 h2 h3).1) r l h
    split at e
    · rename_i hl
      have hk : ((ks.zip ps).length == (js.zip qs).length) = true := by rw [z1, z2, hl]; exact beq_self_eq_true _
      exact ⟨fun Q h => W.keq_eq (low_addr lo h2) (low_addr lo' h2) t t' (by omega) (fun _ => hits e) (by rw [hk, Bool.true_and]; exact h),
        fun Q h => W.keq_ne (low_addr lo h2) (low_addr lo' h2) t t' (by omega) (fun _ => hits e) (by rw [hk, Bool.true_and]; exact h)⟩
    · rename_i hl
      cases e
      have hk : ((ks.zip ps).length == (js.zip qs).length) = false := by rw [z1, z2]; exact beq_eq_false_iff_ne.mpr hl
      have no : ∀ {c : Bool}, (ks.zip ps).length = (js.zip qs).length → W.KeqHits A.in1 s (js.zip qs) (ks.zip ps) c := fun q => absurd (by rw [← z1, ← z2]; exact q) hl
      exact ⟨fun Q h => W.keq_eq (r := false) (low_addr lo h2) (low_addr lo' h2) t t' (by omega) no (by rw [hk, Bool.false_and]; exact h),
        fun Q h => W.keq_ne (r := false) (low_addr lo h2) (low_addr lo' h2) t t' (by omega) no (by rw [hk, Bool.false_and]; exact h)⟩
  · exact plain e

theorem inL_ans {x : D} : ∀ {ys : List D} {b : Bool}, inL x ys = some b → ∃ f : D → Bool, ys.any f = b ∧ ∀ y ∈ ys, eqP 20 y x = some (f y)
  | [], b, e => by simp only [inL, Option.some.injEq] at e; exact ⟨fun _ => false, e, by simp⟩
  | y :: ys, b, e => by
    simp only [inL] at e
    split at e
    · rename_i p q h1 h2
      cases e
      refine ⟨fun z => (eqP 20 z x).getD false, ?_, ?_⟩
      · obtain ⟨f, hf, hall⟩ := inL_ans h2
        rw [List.any_cons, h1, ← hf]
        have : ∀ {zs : List D}, (∀ y ∈ zs, eqP 20 y x = some (f y)) → zs.any (fun z => (eqP 20 z x).getD false) = zs.any f := by
          intro zs
          induction zs with
          | nil => intro _; rfl
          | cons z zs ih => intro h; rw [List.any_cons, List.any_cons, h z (.head _), ih fun y hy => h y (.tail _ hy)]; rfl
        rw [this hall]; rfl
      · intro z hz
        rcases List.mem_cons.mp hz with rfl | hz
        · simp only [h1, Option.getD_some]
        · obtain ⟨f, _, hall⟩ := inL_ans h2
          simp only [hall z hz, Option.getD_some]
    · cases e

theorem items_in {x : D} {ys : List D} {vs : List Value} {u : Value} {b : Bool} (e : inL x ys = some b) (ry : DsRel C B0 s.heap ys vs) (rx : DRel C B0 s.heap x u) (hu : A.units + 20 < cLine) :
    ∃ g : Value → Bool, vs.toArray.any g = b ∧ ∀ y, y ∈ vs.toArray → SeqAt.EqAt A s y u (g y) := by
  obtain ⟨f, hf, hall⟩ := inL_ans e
  classical
  refine ⟨fun v => decide (∃ y, y ∈ ys ∧ DRel C B0 s.heap y v ∧ f y = true), ?_, ?_⟩
  · rw [← hf, Bool.eq_iff_iff]
    simp only [List.any_toArray, List.any_eq_true, decide_eq_true_eq]
    constructor
    · rintro ⟨v, _, y, hy, _, h⟩; exact ⟨y, hy, h⟩
    · rintro ⟨y, hy, h⟩
      obtain ⟨n, hn, e⟩ := List.getElem_of_mem hy
      obtain ⟨v, hv, r⟩ := ry.get (show ys[n]? = some y by rw [List.getElem?_eq_getElem hn, e])
      exact ⟨v, List.mem_of_getElem? hv, y, hy, r, h⟩
  · intro v hv
    simp only [List.mem_toArray] at hv
    obtain ⟨n, hn, e⟩ := List.getElem_of_mem hv
    have hn' : n < ys.length := by rw [ry.length]; exact hn
    obtain ⟨v', hv', r⟩ := ry.get (show ys[n]? = some ys[n] from List.getElem?_eq_getElem hn')
    rw [List.getElem?_eq_getElem hn, e] at hv'
    cases hv'
    have hg : ∀ y ∈ ys, DRel C B0 s.heap y v → SeqAt.EqAt A s v u (f y) := fun y hy r => (eqP_at 20 (by omega) (hall y hy) r rx).1
    show SeqAt.EqAt A s v u (decide _)
    by_cases q : ∃ y, y ∈ ys ∧ DRel C B0 s.heap y v ∧ f y = true
    · rw [decide_eq_true q]
      obtain ⟨y, hy, r', hf⟩ := q
      rw [← hf]; exact hg y hy r'
    · rw [decide_eq_false q]
      have := hg _ (List.getElem_mem hn') r
      rwa [show f ys[n] = false from eq_false_of_ne_true fun hf => q ⟨_, List.getElem_mem hn', r, hf⟩] at this

theorem inD_ok (h2 : 2 ≤ C.base.objs.size) {x c : D} {u v : Value} {b : Bool} (hu : A.units + 30 < cLine) (e : inD x c = some b) (rx : DRel C B0 s.heap x u) (rc : DRel C B0 s.heap c v) :
    (∀ Q : Value → Shared → Prop, (∀ t, Q (.bool b) { s with toks := t }) → wpAny C.M A (compareOp .In u v) Q E s) ∧ ∀ Q : Value → Shared → Prop, (∀ t, Q (.bool (!b)) { s with toks := t }) → wpAny C.M A (compareOp .NotIn u v) Q E s := by
  unfold inD at e
  split at e
  · simp only [DRel] at rc
    obtain ⟨a, vs, rfl, t, _, r⟩ := rc
    obtain ⟨g, hg, hall⟩ := items_in (A := A.in1) e r rx (by rw [units_in1]; omega)
    exact ⟨fun Q q => SeqAt.in_listAt g t hall (by rw [hg]; exact q s.toks), fun Q q => SeqAt.notIn_listAt g t hall (by rw [hg]; exact q s.toks)⟩
  · simp only [DRel] at rc
    obtain ⟨a, vs, rfl, t, _, r⟩ := rc
    obtain ⟨g, hg, hall⟩ := items_in (A := A.in1) e r rx (by rw [units_in1]; omega)
    exact ⟨fun Q q => SeqAt.in_tupleAt g t hall (by rw [hg]; exact q s.toks), fun Q q => SeqAt.notIn_tupleAt g t hall (by rw [hg]; exact q s.toks)⟩
  · rename_i ks ys
    simp only [Option.map_eq_some_iff] at e
    obtain ⟨k, hk, rfl⟩ := e
    simp only [DRel] at rc
    obtain ⟨a, vs, rfl, t, l, lo, _, r⟩ := rc
    have key : C.kk.is k u = true := keyOf_is (X := B0) (α := []) hk (VRel.d_iff.mpr (rx.weaken fun _ q => q.elim id fun m => nomatch m))
    have ans : (valueAt (ks.zip vs) k).isSome = ks.contains k := by
      rw [valueAt_zip]
      have : ∀ {ks : List Key} {vs : List Value}, ks.length = vs.length → (getK k ks vs).isSome = ks.contains k := by
        intro ks
        induction ks with
        | nil => intro vs _; rfl
        | cons j js ih =>
          intro vs l
          cases vs with
          | nil => cases l
          | cons v vs =>
            simp only [getK_cons, List.contains_cons]
            by_cases h : k = j
            · subst h; simp
            · rw [if_neg h, ih (by simpa using l)]
              have : (k == j) = false := beq_eq_false_iff_ne.mpr h
              rw [this, Bool.false_or]
      exact this l
    refine ⟨fun Q q => wpAny_in_of key (low_addr lo h2) t.mapOf (by rw [ans]; exact q _), fun Q q => ?_⟩
    have h1 : wpAny C.M A (compareOp .In u (.ref a)) (fun v s' => v = .bool (ks.contains k) ∧ ∃ t, s' = { s with toks := t }) E s := wpAny_in_of key (low_addr lo h2) t.mapOf (by rw [ans]; exact ⟨rfl, _, rfl⟩)
    have h3 : wpAny C.M A (contains (.ref a) u) (fun b s' => b = ks.contains k ∧ ∃ t, s' = { s with toks := t }) E s := by
      intro Γ p hΓ
      have := h1 Γ p hΓ
      have h4 : Sem.wp C.M Γ (contains (.ref a) u >>= fun b => pure (Value.bool b)) (fun a _ s' => a = .bool (ks.contains k) ∧ ∃ t, s' = { s with toks := t }) (fun e _ s' => E e s') p s := this
      rw [Sem.wp_bind'] at h4
      exact Sem.wp_mono C.M Γ _ (fun b p' s' h => by
        have h' : Value.bool b = Value.bool (ks.contains k) ∧ ∃ t, s' = { s with toks := t } := h
        exact ⟨by have := h'.1; simpa using this, h'.2⟩) (fun _ _ _ h => h) p s h4
    show wpAny C.M A (do return .bool (!(← contains (.ref a) u))) Q E s
    refine wpAny_bind (wpAny_mono h3 (fun b s' h => ?_) fun _ _ x => x)
    obtain ⟨rfl, t, rfl⟩ := h
    exact wpAny_pure (q t)
  · cases e

end Mine
end

section
set_option autoImplicit false
namespace Mine
open PySem PyProof.Rows

variable {C : Wo} {X : Addr → Prop} {env : Env} {ρ : Loc} {α α' α'' : List Addr} {σ σ' σ'' : St} {s s' s'' : Shared} {A : Around} {E : Value → Shared → Prop}

theorem truthV_ok {v : V} {u : Value} {b : Bool} {Q : Bool → Shared → Prop} (h : truthV σ v = some b) (r : VRel C X α s.heap v u) (hQ : Q b s) : wpAny C.M A (truthy u) Q E s := by
  unfold truthV at h
  split at h
  · cases h; simp only [VRel, DRel] at r; subst r; exact truthy_none hQ
  · cases h; simp only [VRel, DRel] at r; subst r; exact wpAny_truthy_bool hQ
  · cases h; simp only [VRel, DRel] at r; obtain ⟨t, rfl⟩ := r
    refine PyProof.Rows.truthy_int ?_
    rename_i i
    have : (i != 0) = decide (i ≠ 0) := by by_cases h : i = 0 <;> simp [h]
    rw [this]; exact hQ
  · cases h

theorem cmpV_ok (h2 : 2 ≤ C.base.objs.size) (hu : A.units + 30 < cLine) (R : Rel C X env ρ α σ s) {op : CmpOp} {a b : V} {ua ub : Value} {c : Bool} {Q : Value → Shared → Prop} (ha : VRel C X α s.heap a ua) (hb : VRel C X α s.heap b ub) (h : cmpV σ op a b = some c)
    (hQ : ∀ t, Q (.bool c) { s with toks := t }) : wpAny C.M A (compareOp op ua ub) Q E s := by
  have q0 : Q (.bool c) s := hQ s.toks
  have noNone : ∀ {v : V} {u : Value}, VRel C X α s.heap v u → v ≠ .d .none → u ≠ .none := by
    intro v u r n e
    subst e
    cases v with
    | d x => cases x <;> simp [VRel, DRel] at r <;> exact n rfl
    | obj n => simp [VRel] at r
    | tup xs => simp [VRel] at r
  unfold cmpV at h
  split at h
  · split at h
    · simp only [VRel, DRel] at hb; subst hb
      split at h
      · cases h; simp only [VRel, DRel] at ha; subst ha; exact is_none_none q0
      · rename_i n; cases h; exact is_none_ne (noNone ha n) q0
    · cases h
  · split at h
    · simp only [VRel, DRel] at hb; subst hb
      split at h
      · cases h; simp only [VRel, DRel] at ha; subst ha; exact isnot_none_none q0
      · rename_i n; cases h; exact isnot_none_ne (noNone ha n) q0
    · cases h
  · simp only [Option.bind_eq_some_iff] at h
    obtain ⟨x, hx, y, hy, e⟩ := h
    exact (eqD_ok h2 hu e (view_ok R.st 6 ha hx) (view_ok R.st 6 hb hy)).1 Q q0
  · simp only [Option.bind_eq_some_iff, Option.map_eq_some_iff] at h
    obtain ⟨x, hx, y, hy, d, e, rfl⟩ := h
    exact (eqD_ok h2 hu e (view_ok R.st 6 ha hx) (view_ok R.st 6 hb hy)).2 Q q0
  · simp only [Option.bind_eq_some_iff] at h
    obtain ⟨x, hx, y, hy, e⟩ := h
    exact (inD_ok h2 hu e (view_ok R.st 6 ha hx) (view_ok R.st 6 hb hy)).1 Q hQ
  · simp only [Option.bind_eq_some_iff, Option.map_eq_some_iff] at h
    obtain ⟨x, hx, y, hy, d, e, rfl⟩ := h
    exact (inD_ok h2 hu e (view_ok R.st 6 ha hx) (view_ok R.st 6 hb hy)).2 Q hQ
  · split at h
    · cases h; simp only [VRel, DRel] at ha hb; obtain ⟨t, rfl⟩ := ha; obtain ⟨t', rfl⟩ := hb; exact lt_int q0
    · cases h
  · split at h
    · cases h; simp only [VRel, DRel] at ha hb; obtain ⟨t, rfl⟩ := ha; obtain ⟨t', rfl⟩ := hb; exact le_int q0
    · cases h
  · split at h
    · cases h; simp only [VRel, DRel] at ha hb; obtain ⟨t, rfl⟩ := ha; obtain ⟨t', rfl⟩ := hb; exact gt_int q0
    · cases h
  · split at h
    · cases h; simp only [VRel, DRel] at ha hb; obtain ⟨t, rfl⟩ := ha; obtain ⟨t', rfl⟩ := hb; exact ge_int q0
    · cases h

theorem isi_int (R : Rel C X env ρ α σ s) {v : V} {u : Value} {b : Bool} {Q : Value → Shared → Prop} (h : isiV σ "int" v = some b) (r : VRel C X α s.heap v u) (hQ : ∀ t, Q (.bool b) { s with toks := t }) :
    wpAny C.M A (call (.builtin "isinstance") [u, .type "int"]) Q E s := by
  have q0 : Q (.bool b) s := hQ s.toks
  have q1 := hQ (s.toks + 1)
  cases v with
  | d x =>
    cases x with
    | none => simp [isiV, isiD] at h; subst h; simp only [VRel, DRel] at r; subst r; exact IsiPair.NoneType_int q1
    | bool b => simp [isiV, isiD] at h; subst h; simp only [VRel, DRel] at r; subst r; exact IsiPair.bool_int q0
    | int i => simp [isiV, isiD] at h; subst h; simp only [VRel, DRel] at r; obtain ⟨t, rfl⟩ := r; exact IsiPair.int_int q0
    | str x => simp [isiV, isiD] at h; subst h; simp only [VRel, DRel] at r; obtain ⟨t, rfl⟩ := r; exact IsiPair.str_int q1
    | tup xs => simp [isiV, isiD] at h; subst h; simp only [VRel, DRel] at r; obtain ⟨a, vs, rfl, ⟨o, ho, hc, _⟩, _⟩ := r; exact IsiPair.tuple_int ho hc q1
    | list xs => simp [isiV, isiD] at h; subst h; simp only [VRel, DRel] at r; obtain ⟨a, vs, rfl, ⟨o, ho, hc, _⟩, _⟩ := r; exact IsiPair.list_int ho hc q1
    | dict ks xs => simp [isiV, isiD] at h; subst h; simp only [VRel, DRel] at r; obtain ⟨a, vs, rfl, ⟨o, _, _, ho, hc, _⟩, _⟩ := r; exact IsiPair.dict_int ho hc.1 q1
    | set ks => simp [isiV, isiD] at h
  | tup xs => simp [isiV] at h; subst h; simp only [VRel] at r; obtain ⟨a, vs, rfl, ⟨o, ho, hc, _⟩, _⟩ := r; exact IsiPair.tuple_int ho hc q1
  | obj n =>
    simp only [isiV] at h
    split at h
    · rename_i xs ho; simp at h; subst h; obtain ⟨a, vs, rfl, _, ⟨k, ho⟩, _⟩ := R.objList r ho; have hc : (lobj vs.toArray k).cls = .type "list" := rfl; exact IsiPair.list_int ho hc q1
    · rename_i ks xs ho; simp at h; subst h; obtain ⟨a, vs, rfl, _, ⟨o, _, _, ho, hc, _⟩, _⟩ := R.objDict r ho; exact IsiPair.dict_int ho hc.1 q1
    · cases h

theorem isi_bool (R : Rel C X env ρ α σ s) {v : V} {u : Value} {b : Bool} {Q : Value → Shared → Prop} (h : isiV σ "bool" v = some b) (r : VRel C X α s.heap v u) (hQ : ∀ t, Q (.bool b) { s with toks := t }) :
    wpAny C.M A (call (.builtin "isinstance") [u, .type "bool"]) Q E s := by
  have q0 : Q (.bool b) s := hQ s.toks
  have q1 := hQ (s.toks + 1)
  cases v with
  | d x =>
    cases x with
    | none => simp [isiV, isiD] at h; subst h; simp only [VRel, DRel] at r; subst r; exact IsiPair.NoneType_bool q1
    | bool b => simp [isiV, isiD] at h; subst h; simp only [VRel, DRel] at r; subst r; exact IsiPair.bool_bool q0
    | int i => simp [isiV, isiD] at h; subst h; simp only [VRel, DRel] at r; obtain ⟨t, rfl⟩ := r; exact IsiPair.int_bool q1
    | str x => simp [isiV, isiD] at h; subst h; simp only [VRel, DRel] at r; obtain ⟨t, rfl⟩ := r; exact IsiPair.str_bool q1
    | tup xs => simp [isiV, isiD] at h; subst h; simp only [VRel, DRel] at r; obtain ⟨a, vs, rfl, ⟨o, ho, hc, _⟩, _⟩ := r; exact IsiPair.tuple_bool ho hc q1
    | list xs => simp [isiV, isiD] at h; subst h; simp only [VRel, DRel] at r; obtain ⟨a, vs, rfl, ⟨o, ho, hc, _⟩, _⟩ := r; exact IsiPair.list_bool ho hc q1
    | dict ks xs => simp [isiV, isiD] at h; subst h; simp only [VRel, DRel] at r; obtain ⟨a, vs, rfl, ⟨o, _, _, ho, hc, _⟩, _⟩ := r; exact IsiPair.dict_bool ho hc.1 q1
    | set ks => simp [isiV, isiD] at h
  | tup xs => simp [isiV] at h; subst h; simp only [VRel] at r; obtain ⟨a, vs, rfl, ⟨o, ho, hc, _⟩, _⟩ := r; exact IsiPair.tuple_bool ho hc q1
  | obj n =>
    simp only [isiV] at h
    split at h
    · rename_i xs ho; simp at h; subst h; obtain ⟨a, vs, rfl, _, ⟨k, ho⟩, _⟩ := R.objList r ho; have hc : (lobj vs.toArray k).cls = .type "list" := rfl; exact IsiPair.list_bool ho hc q1
    · rename_i ks xs ho; simp at h; subst h; obtain ⟨a, vs, rfl, _, ⟨o, _, _, ho, hc, _⟩, _⟩ := R.objDict r ho; exact IsiPair.dict_bool ho hc.1 q1
    · cases h

theorem isi_str (R : Rel C X env ρ α σ s) {v : V} {u : Value} {b : Bool} {Q : Value → Shared → Prop} (h : isiV σ "str" v = some b) (r : VRel C X α s.heap v u) (hQ : ∀ t, Q (.bool b) { s with toks := t }) :
    wpAny C.M A (call (.builtin "isinstance") [u, .type "str"]) Q E s := by
  have q0 : Q (.bool b) s := hQ s.toks
  have q1 := hQ (s.toks + 1)
  cases v with
  | d x =>
    cases x with
    | none => simp [isiV, isiD] at h; subst h; simp only [VRel, DRel] at r; subst r; exact IsiPair.NoneType_str q1
    | bool b => simp [isiV, isiD] at h; subst h; simp only [VRel, DRel] at r; subst r; exact IsiPair.bool_str q1
    | int i => simp [isiV, isiD] at h; subst h; simp only [VRel, DRel] at r; obtain ⟨t, rfl⟩ := r; exact IsiPair.int_str q1
    | str x => simp [isiV, isiD] at h; subst h; simp only [VRel, DRel] at r; obtain ⟨t, rfl⟩ := r; exact IsiPair.str_str q0
    | tup xs => simp [isiV, isiD] at h; subst h; simp only [VRel, DRel] at r; obtain ⟨a, vs, rfl, ⟨o, ho, hc, _⟩, _⟩ := r; exact IsiPair.tuple_str ho hc q1
    | list xs => simp [isiV, isiD] at h; subst h; simp only [VRel, DRel] at r; obtain ⟨a, vs, rfl, ⟨o, ho, hc, _⟩, _⟩ := r; exact IsiPair.list_str ho hc q1
    | dict ks xs => simp [isiV, isiD] at h; subst h; simp only [VRel, DRel] at r; obtain ⟨a, vs, rfl, ⟨o, _, _, ho, hc, _⟩, _⟩ := r; exact IsiPair.dict_str ho hc.1 q1
    | set ks => simp [isiV, isiD] at h
  | tup xs => simp [isiV] at h; subst h; simp only [VRel] at r; obtain ⟨a, vs, rfl, ⟨o, ho, hc, _⟩, _⟩ := r; exact IsiPair.tuple_str ho hc q1
  | obj n =>
    simp only [isiV] at h
    split at h
    · rename_i xs ho; simp at h; subst h; obtain ⟨a, vs, rfl, _, ⟨k, ho⟩, _⟩ := R.objList r ho; have hc : (lobj vs.toArray k).cls = .type "list" := rfl; exact IsiPair.list_str ho hc q1
    · rename_i ks xs ho; simp at h; subst h; obtain ⟨a, vs, rfl, _, ⟨o, _, _, ho, hc, _⟩, _⟩ := R.objDict r ho; exact IsiPair.dict_str ho hc.1 q1
    · cases h

theorem isi_tuple (R : Rel C X env ρ α σ s) {v : V} {u : Value} {b : Bool} {Q : Value → Shared → Prop} (h : isiV σ "tuple" v = some b) (r : VRel C X α s.heap v u) (hQ : ∀ t, Q (.bool b) { s with toks := t }) :
    wpAny C.M A (call (.builtin "isinstance") [u, .type "tuple"]) Q E s := by
  have q0 : Q (.bool b) s := hQ s.toks
  have q1 := hQ (s.toks + 1)
  cases v with
  | d x =>
    cases x with
    | none => simp [isiV, isiD] at h; subst h; simp only [VRel, DRel] at r; subst r; exact IsiPair.NoneType_tuple q1
    | bool b => simp [isiV, isiD] at h; subst h; simp only [VRel, DRel] at r; subst r; exact IsiPair.bool_tuple q1
    | int i => simp [isiV, isiD] at h; subst h; simp only [VRel, DRel] at r; obtain ⟨t, rfl⟩ := r; exact IsiPair.int_tuple q1
    | str x => simp [isiV, isiD] at h; subst h; simp only [VRel, DRel] at r; obtain ⟨t, rfl⟩ := r; exact IsiPair.str_tuple q1
    | tup xs => simp [isiV, isiD] at h; subst h; simp only [VRel, DRel] at r; obtain ⟨a, vs, rfl, ⟨o, ho, hc, _⟩, _⟩ := r; exact IsiPair.tuple_tuple ho hc q0
    | list xs => simp [isiV, isiD] at h; subst h; simp only [VRel, DRel] at r; obtain ⟨a, vs, rfl, ⟨o, ho, hc, _⟩, _⟩ := r; exact IsiPair.list_tuple ho hc q1
    | dict ks xs => simp [isiV, isiD] at h; subst h; simp only [VRel, DRel] at r; obtain ⟨a, vs, rfl, ⟨o, _, _, ho, hc, _⟩, _⟩ := r; exact IsiPair.dict_tuple ho hc.1 q1
    | set ks => simp [isiV, isiD] at h
  | tup xs => simp [isiV] at h; subst h; simp only [VRel] at r; obtain ⟨a, vs, rfl, ⟨o, ho, hc, _⟩, _⟩ := r; exact IsiPair.tuple_tuple ho hc q0
  | obj n =>
    simp only [isiV] at h
    split at h
    · rename_i xs ho; simp at h; subst h; obtain ⟨a, vs, rfl, _, ⟨k, ho⟩, _⟩ := R.objList r ho; have hc : (lobj vs.toArray k).cls = .type "list" := rfl; exact IsiPair.list_tuple ho hc q1
    · rename_i ks xs ho; simp at h; subst h; obtain ⟨a, vs, rfl, _, ⟨o, _, _, ho, hc, _⟩, _⟩ := R.objDict r ho; exact IsiPair.dict_tuple ho hc.1 q1
    · cases h

theorem isi_list (R : Rel C X env ρ α σ s) {v : V} {u : Value} {b : Bool} {Q : Value → Shared → Prop} (h : isiV σ "list" v = some b) (r : VRel C X α s.heap v u) (hQ : ∀ t, Q (.bool b) { s with toks := t }) :
    wpAny C.M A (call (.builtin "isinstance") [u, .type "list"]) Q E s := by
  have q0 : Q (.bool b) s := hQ s.toks
  have q1 := hQ (s.toks + 1)
  cases v with
  | d x =>
    cases x with
    | none => simp [isiV, isiD] at h; subst h; simp only [VRel, DRel] at r; subst r; exact IsiPair.NoneType_list q1
    | bool b => simp [isiV, isiD] at h; subst h; simp only [VRel, DRel] at r; subst r; exact IsiPair.bool_list q1
    | int i => simp [isiV, isiD] at h; subst h; simp only [VRel, DRel] at r; obtain ⟨t, rfl⟩ := r; exact IsiPair.int_list q1
    | str x => simp [isiV, isiD] at h; subst h; simp only [VRel, DRel] at r; obtain ⟨t, rfl⟩ := r; exact IsiPair.str_list q1
    | tup xs => simp [isiV, isiD] at h; subst h; simp only [VRel, DRel] at r; obtain ⟨a, vs, rfl, ⟨o, ho, hc, _⟩, _⟩ := r; exact IsiPair.tuple_list ho hc q1
    | list xs => simp [isiV, isiD] at h; subst h; simp only [VRel, DRel] at r; obtain ⟨a, vs, rfl, ⟨o, ho, hc, _⟩, _⟩ := r; exact IsiPair.list_list ho hc q0
    | dict ks xs => simp [isiV, isiD] at h; subst h; simp only [VRel, DRel] at r; obtain ⟨a, vs, rfl, ⟨o, _, _, ho, hc, _⟩, _⟩ := r; exact IsiPair.dict_list ho hc.1 q1
    | set ks => simp [isiV, isiD] at h
  | tup xs => simp [isiV] at h; subst h; simp only [VRel] at r; obtain ⟨a, vs, rfl, ⟨o, ho, hc, _⟩, _⟩ := r; exact IsiPair.tuple_list ho hc q1
  | obj n =>
    simp only [isiV] at h
    split at h
    · rename_i xs ho; simp at h; subst h; obtain ⟨a, vs, rfl, _, ⟨k, ho⟩, _⟩ := R.objList r ho; have hc : (lobj vs.toArray k).cls = .type "list" := rfl; exact IsiPair.list_list ho hc q0
    · rename_i ks xs ho; simp at h; subst h; obtain ⟨a, vs, rfl, _, ⟨o, _, _, ho, hc, _⟩, _⟩ := R.objDict r ho; exact IsiPair.dict_list ho hc.1 q1
    · cases h

theorem isi_dict (R : Rel C X env ρ α σ s) {v : V} {u : Value} {b : Bool} {Q : Value → Shared → Prop} (h : isiV σ "dict" v = some b) (r : VRel C X α s.heap v u) (hQ : ∀ t, Q (.bool b) { s with toks := t }) :
    wpAny C.M A (call (.builtin "isinstance") [u, .type "dict"]) Q E s := by
  have q0 : Q (.bool b) s := hQ s.toks
  have q1 := hQ (s.toks + 1)
  cases v with
  | d x =>
    cases x with
    | none => simp [isiV, isiD] at h; subst h; simp only [VRel, DRel] at r; subst r; exact IsiPair.NoneType_dict q1
    | bool b => simp [isiV, isiD] at h; subst h; simp only [VRel, DRel] at r; subst r; exact IsiPair.bool_dict q1
    | int i => simp [isiV, isiD] at h; subst h; simp only [VRel, DRel] at r; obtain ⟨t, rfl⟩ := r; exact IsiPair.int_dict q1
    | str x => simp [isiV, isiD] at h; subst h; simp only [VRel, DRel] at r; obtain ⟨t, rfl⟩ := r; exact IsiPair.str_dict q1
    | tup xs => simp [isiV, isiD] at h; subst h; simp only [VRel, DRel] at r; obtain ⟨a, vs, rfl, ⟨o, ho, hc, _⟩, _⟩ := r; exact IsiPair.tuple_dict ho hc q1
    | list xs => simp [isiV, isiD] at h; subst h; simp only [VRel, DRel] at r; obtain ⟨a, vs, rfl, ⟨o, ho, hc, _⟩, _⟩ := r; exact IsiPair.list_dict ho hc q1
    | dict ks xs => simp [isiV, isiD] at h; subst h; simp only [VRel, DRel] at r; obtain ⟨a, vs, rfl, ⟨o, _, _, ho, hc, _⟩, _⟩ := r; exact IsiPair.dict_dict ho hc.1 q0
    | set ks => simp [isiV, isiD] at h
  | tup xs => simp [isiV] at h; subst h; simp only [VRel] at r; obtain ⟨a, vs, rfl, ⟨o, ho, hc, _⟩, _⟩ := r; exact IsiPair.tuple_dict ho hc q1
  | obj n =>
    simp only [isiV] at h
    split at h
    · rename_i xs ho; simp at h; subst h; obtain ⟨a, vs, rfl, _, ⟨k, ho⟩, _⟩ := R.objList r ho; have hc : (lobj vs.toArray k).cls = .type "list" := rfl; exact IsiPair.list_dict ho hc q1
    · rename_i ks xs ho; simp at h; subst h; obtain ⟨a, vs, rfl, _, ⟨o, _, _, ho, hc, _⟩, _⟩ := R.objDict r ho; exact IsiPair.dict_dict ho hc.1 q0
    · cases h

end Mine
end

section
set_option autoImplicit false
namespace Mine
open PySem PyProof.Rows

/-- the heap never shrinks -/
theorem runs_size {M : Model} {Γ : Ctx} {p : Pos} {t : Sem Fin} {fs : List Frame} {s s' : Shared} {e : End} (h : Runs M Γ p t fs s e s') : s.heap.objs.size ≤ s'.heap.objs.size := by
  induction h with
  | done => exact Nat.le_refl _
  | raise => exact Nat.le_refl _
  | yield => exact Nat.le_refl _
  | update _ _ ih => simpa using ih
  | alloc _ ih => rw [Heap.size_push] at ih; omega
  | call _ _ i1 i2 => exact Nat.le_trans i1 i2
  | resumeFresh _ _ _ _ i1 i2 => exact Nat.le_trans i1 i2
  | resumeSuspended _ _ _ _ i1 i2 => exact Nat.le_trans i1 i2
  | segRet _ _ i1 i2 => exact Nat.le_trans i1 i2
  | segGen _ _ i1 i2 => exact Nat.le_trans i1 i2
  | segSuspGen _ _ _ _ i1 i2 => exact Nat.le_trans i1 i2
  | _ => assumption

theorem wakes_size {M : Model} {Γ : Ctx} {p : Pos} {g : Nat} {r : Resume} {s s' : Shared} {res : GenResult} (h : Wakes M Γ p g r s res s') : s.heap.objs.size ≤ s'.heap.objs.size := by
  unfold Wakes at h
  split at h
  · exact h.elim
  · split at h
    · obtain ⟨e₁, s₁, h1, _, _, rfl⟩ := h; have z := runs_size h1; exact z
    · obtain ⟨_, rfl⟩ := h; exact Nat.le_refl _
    · obtain ⟨_, rfl⟩ := h; exact Nat.le_refl _
  · obtain ⟨e₁, s₁, h1, _, _, rfl⟩ := h; have z := runs_size h1; exact z
  · obtain ⟨_, rfl⟩ := h; exact Nat.le_refl _
  · obtain ⟨_, rfl⟩ := h; exact Nat.le_refl _

theorem wp_size {α : Type} {M : Model} {Γ : Ctx} (n : Nat) : ∀ (t : Sem α) (Q : α → Pos → Shared → Prop) (E : Value → Pos → Shared → Prop) (p : Pos) (s : Shared), n ≤ s.heap.objs.size → Sem.wp M Γ t Q E p s →
    Sem.wp M Γ t (fun a p s' => n ≤ s'.heap.objs.size ∧ Q a p s') E p s := by
  intro t
  induction t with
  | pure a => intro Q E p s hn h; exact ⟨hn, h⟩
  | raise e => intro Q E p s hn h; exact h
  | unsupported w => intro Q E p s hn h; exact h
  | finish e => intro Q E p s hn h; exact h
  | rule _ k ih => intro Q E p s hn h; exact ih () Q E p s hn h
  | «at» p' k ih => intro Q E p s hn h; exact ih () Q E p' s hn h
  | load a _ k ih => intro Q E p s hn h; obtain ⟨o, ho, h⟩ := h; exact ⟨o, ho, ih o Q E p s hn h⟩
  | update a _ f k ih => intro Q E p s hn h; exact ⟨h.1, ih () Q E p _ (by simpa using hn) h.2⟩
  | alloc o k ih => intro Q E p s hn h; exact ih _ Q E p _ (by show n ≤ (s.heap.push o).objs.size; rw [Heap.size_push]; omega) h
  | loadIfAlive a k ih => intro Q E p s hn h; exact ih _ Q E p s hn h
  | point _ k ih => intro Q E p s hn h; exact ih () Q E p s hn h
  | register a k ih => intro Q E p s hn h; exact h
  | fresh k ih => intro Q E p s hn h; exact ih _ Q E p _ hn h
  | ask k ih => intro Q E p s hn h; exact ih _ Q E p s hn h
  | choose src m k ih => intro Q E p s hn h; exact ⟨h.1, ih _ Q E p _ hn h.2⟩
  | os q _ k ih => intro Q E p s hn h; exact ih _ Q E p _ hn h
  | call c hd g l k ih =>
    intro Q E p s hn h
    obtain ⟨r, s₁, hr, h⟩ := h
    exact ⟨r, s₁, hr, ih r Q E p s₁ (Nat.le_trans hn (runs_size hr)) h⟩
  | handled own k ih => intro Q E p s hn h; exact ih _ Q E p s hn h
  | newGen c k ih => intro Q E p s hn h; exact ih _ Q E p _ hn h
  | genState g k ih => intro Q E p s hn h; obtain ⟨st, hs, h⟩ := h; exact ⟨st, hs, ih _ Q E p s hn h⟩
  | resume g r l k ih =>
    intro Q E p s hn h
    obtain ⟨res, s₁, hr, h⟩ := h
    exact ⟨res, s₁, hr, ih res Q E p s₁ (Nat.le_trans hn (wakes_size hr)) h⟩
  | yield v g l k ih => intro Q E p s hn h; exact h
  | stack k ih => intro Q E p s hn h; exact ih _ Q E p s hn h
  | fork c k ih => intro Q E p s hn h; exact h
  | thread k ih => intro Q E p s hn h; exact ih _ Q E p s hn h
  | await a t d l k ih => intro Q E p s hn h; exact h

theorem wpAny_size {α : Type} {M : Model} {A : Around} {t : Sem α} {Q : α → Shared → Prop} {E : Value → Shared → Prop} {s : Shared} (h : wpAny M A t (fun a s' => s.heap.objs.size ≤ s'.heap.objs.size → Q a s') E s) : wpAny M A t Q E s :=
  fun Γ p hΓ => Sem.wp_mono M Γ t (fun a _ s' x => x.2 x.1) (fun _ _ _ x => x) p s (wp_size s.heap.objs.size t _ _ p s (Nat.le_refl _) (h Γ p hΓ))

end Mine
end

section
set_option autoImplicit false
namespace Mine
open PySem PyProof.Rows

variable {C : Wo} {X : Addr → Prop} {env : Env} {ρ : Loc} {α α' α'' : List Addr} {σ σ' σ'' : St} {s s' s'' : Shared} {A : Around} {E : Value → Shared → Prop}

theorem intsAre_of {B : Addr → Prop} {h : Heap} : ∀ {xs : List D} {vs : List Value} {ns : List Int}, DsRel C B h xs vs → intsOf xs = some ns → IntsAre vs ns
  | [], _, _, r, e => by cases e; simp only [DsRel] at r; subst r; exact .nil
  | x :: xs, _, _, r, e => by
    simp only [DsRel] at r
    obtain ⟨v, r', rfl, p, q⟩ := r
    cases x with
    | int i =>
      rw [intsOf_c, Option.map_eq_some_iff] at e
      obtain ⟨ms, hm, rfl⟩ := e
      simp only [DRel] at p
      obtain ⟨t, rfl⟩ := p
      exact .cons _ _ (intsAre_of q hm)
    | _ => cases e

theorem intsAre_rel {B : Addr → Prop} {h : Heap} {vs : List Value} {ns : List Int} (r : IntsAre vs ns) : DsRel C B h (ns.map .int) vs := by
  induction r with
  | nil => simp only [List.map_nil, DsRel]
  | cons n t _ ih => simp only [List.map_cons, DsRel, DRel]; exact ⟨_, _, rfl, ⟨t, rfl⟩, ih⟩

theorem minL_eq {ns : List Int} {m M : Int} (h : minL ns = some m) (h1 : M ∈ ns) (h2 : ∀ a ∈ ns, M ≤ a) : M = m := by
  cases ns with
  | nil => simp [minL] at h
  | cons x r =>
    simp only [minL, Option.some.injEq] at h
    have key : ∀ (r : List Int) (x : Int), (r.foldl (fun a b => if b < a then b else a) x ∈ x :: r) ∧ ∀ a ∈ x :: r, r.foldl (fun a b => if b < a then b else a) x ≤ a := by
      intro r
      induction r with
      | nil => intro x; simp
      | cons y r ih =>
        intro x
        simp only [List.foldl_cons]
        split
        · rename_i hlt
          have := ih y
          refine ⟨.tail _ this.1, fun a ha => ?_⟩
          rcases List.mem_cons.mp ha with rfl | ha
          · have := this.2 y (.head _); omega
          · exact this.2 a ha
        · rename_i hlt
          have := ih x
          refine ⟨(List.mem_cons.mp this.1).elim (fun q => by rw [q]; exact .head _) (fun q => .tail _ (.tail _ q)), fun a ha => ?_⟩
          rcases List.mem_cons.mp ha with rfl | ha
          · exact this.2 _ (.head _)
          · rcases List.mem_cons.mp ha with rfl | ha
            · have := this.2 x (.head _); omega
            · exact this.2 a (.tail _ ha)
    have k := key r x
    rw [h] at k
    have := h2 m k.1
    have := k.2 M h1
    omega
theorem maxL_eq {ns : List Int} {m M : Int} (h : maxL ns = some m) (h1 : M ∈ ns) (h2 : ∀ a ∈ ns, a ≤ M) : M = m := by
  cases ns with
  | nil => simp [maxL] at h
  | cons x r =>
    simp only [maxL, Option.some.injEq] at h
    have key : ∀ (r : List Int) (x : Int), (r.foldl (fun a b => if b > a then b else a) x ∈ x :: r) ∧ ∀ a ∈ x :: r, a ≤ r.foldl (fun a b => if b > a then b else a) x := by
      intro r
      induction r with
      | nil => intro x; simp
      | cons y r ih =>
        intro x
        simp only [List.foldl_cons]
        split
        · rename_i hlt
          have := ih y
          refine ⟨.tail _ this.1, fun a ha => ?_⟩
          rcases List.mem_cons.mp ha with rfl | ha
          · have := this.2 y (.head _); omega
          · exact this.2 a ha
        · rename_i hlt
          have := ih x
          refine ⟨(List.mem_cons.mp this.1).elim (fun q => by rw [q]; exact .head _) (fun q => .tail _ (.tail _ q)), fun a ha => ?_⟩
          rcases List.mem_cons.mp ha with rfl | ha
          · exact this.2 _ (.head _)
          · rcases List.mem_cons.mp ha with rfl | ha
            · have := this.2 x (.head _); omega
            · exact this.2 a (.tail _ ha)
    have k := key r x
    rw [h] at k
    have := h2 m k.1
    have := k.2 M h1
    omega

theorem sortI_eq {ns ns' : List Int} (hp : ns'.Perm ns) (hs : ns'.Pairwise (· ≤ ·)) : ns' = sortI ns := by
  have p1 : (sortI ns).Perm ns := List.mergeSort_perm ns _
  have s1 : (sortI ns).Pairwise (· ≤ ·) := by
    have := List.pairwise_mergeSort (le := fun a b : Int => decide (a ≤ b)) (fun a b c h1 h2 => by simp only [decide_eq_true_eq] at *; omega) (fun a b => by simp only [Bool.or_eq_true, decide_eq_true_eq]; omega) ns
    exact this.imp fun h => of_decide_eq_true h
  exact (hp.trans p1.symm).eq_of_pairwise (fun _ _ _ _ h1 h2 => Int.le_antisymm h1 h2) hs s1

noncomputable def bfVal : Bf → Value
  | .len => .builtin "len"
  | .min => .builtin "min"
  | .max => .builtin "max"
  | .int => .type "int"
  | .list => .type "list"
  | .dict => .type "dict"
  | .set => .type "set"
  | .sorted => .builtin "sorted"
  | .all => .builtin "all"

theorem Ext0.grown {h : Heap} {t : Nat} (k : ∀ a o, s.heap.get? a = some o → h.get? a = some o) (z : s.heap.objs.size ≤ ({ s with heap := h, toks := t } : Shared).heap.objs.size) : Ext0 env s { s with heap := h, toks := t } := .of k z

theorem VsRel.one {h : Heap} {a : V} {us : List Value} (r : VsRel C X α h [a] us) : ∃ u, us = [u] ∧ VRel C X α h a u := by
  simp only [VsRel] at r
  obtain ⟨v, r', rfl, p, q⟩ := r
  exact ⟨v, by rw [q], p⟩
theorem VsRel.two {h : Heap} {a b : V} {us : List Value} (r : VsRel C X α h [a, b] us) : ∃ u v, us = [u, v] ∧ VRel C X α h a u ∧ VRel C X α h b v := by
  simp only [VsRel] at r
  obtain ⟨v, r', rfl, p, w, r'', rfl, q, e⟩ := r
  exact ⟨v, w, by rw [e], p, q⟩

theorem fit63 {n : Nat} (h : sizeOk n = true) : (n : Int) < 2 ^ 63 := by
  have : n < 100000 := of_decide_eq_true h
  omega

theorem one1_some {args : List V} {v : V} (h : one1 args = some v) : args = [v] := by
  cases args with
  | nil => cases h
  | cons a r => cases r with
    | nil => cases h; rfl
    | cons _ _ => cases h
theorem listD_some {x : D} {xs : List D} (h : listD x = some xs) : x = .list xs := by
  cases x with
  | list ys => cases h; rfl
  | _ => cases h
theorem sortIn_some {x : D} {xs : List D} (h : sortIn x = some xs) : x = .list xs ∨ ∃ ks, x = .set ks ∧ xs = ks.map Key.toD := by
  cases x with
  | list ys => cases h; exact .inl rfl
  | set ks => cases h; exact .inr ⟨ks, rfl, rfl⟩
  | _ => cases h
theorem intsOf_keys : ∀ {ns : List Int}, intsOf ((ns.map Key.i).map Key.toD) = some ns
  | [] => rfl
  | n :: r => by
    show (intsOf ((r.map Key.i).map Key.toD)).map (n :: ·) = _
    rw [intsOf_keys]; rfl
theorem firstMet_dedI (ns : List Int) : firstMet (fun i => ns.getD i 0) ns.length = dedI ns := by
  unfold firstMet dedI
  have e : (List.range ns.length).map (fun i => ns.getD i 0) = ns := by
    refine List.ext_getElem (by simp) fun i h1 h2 => ?_
    simp [List.getElem?_eq_getElem h2]
  rw [e]
  rfl
theorem bfV_ok (h2 : 2 ≤ C.base.objs.size) (hh : A.handled = none) (R : Rel C X env ρ α σ s) {f : Bf} {args : List V} {us : List Value} {v : V} {Q : Value → Shared → Prop} (ra : VsRel C X α s.heap args us) (h : bfV σ f args = some v)
    (hQ : ∀ x u s', v = .d x → Ext0 env s s' → FreshRel C (Bad X α) s'.heap s.heap.objs.size x u → Q u s') : wpAny C.M A (call (bfVal f) us) Q E s := by
  obtain ⟨m, hm, _⟩ := R.fr.loc
  cases f with
  | len =>
    unfold bfV at h
    dsimp only at h
    simp only [Option.bind_eq_some_iff] at h
    obtain ⟨w, hw, x, hx, n, hn, h⟩ := h
    obtain rfl := one1_some hw
    obtain ⟨u, rfl, r⟩ := ra.one
    split at h
    · rename_i hz
      cases h
      have rx := view_ok R.st 6 r hx
      have done : ∀ t t', Q (.int n t) { s with toks := t' } := fun t t' => hQ _ _ _ rfl (.toks _) (by simp only [FreshRel, DRel]; exact ⟨_, rfl⟩)
      have hz' := fit63 hz
      unfold lenD at hn
      split at hn
      · cases hn; simp only [DRel] at rx; obtain ⟨a, vs, rfl, t, _, r'⟩ := rx
        have e := r'.length
        exact Calls.call_len_list t (by simp only [List.size_toArray]; omega) (by simp only [List.size_toArray, ← e]; exact done _ _)
      · cases hn; simp only [DRel] at rx; obtain ⟨a, vs, rfl, t, _, r'⟩ := rx
        have e := r'.length
        exact PyProof.Rows.len_tuple t (by simp only [List.size_toArray]; omega) (by simp only [List.size_toArray, ← e]; exact done _ _)
      · rename_i ks _
        cases hn; simp only [DRel] at rx; obtain ⟨a, vs, rfl, t, l, lo, _, r'⟩ := rx
        have e : (ks.zip vs).length = ks.length := by rw [List.length_zip, ← l, Nat.min_self]
        exact call_len_dict (low_addr lo h2) t (by rw [e]; exact hz') (by rw [e]; exact done _ _)
      · cases hn; simp only [DRel] at rx; obtain ⟨t, rfl⟩ := rx
        exact PyProof.Rows.len_str (by omega) (done _ _)
      · cases hn
    · cases h
  | min =>
    unfold bfV at h
    dsimp only at h
    unfold minV at h
    match args, h, ra with
    | [], h, _ => cases h
    | [w], h, ra =>
    obtain ⟨u, rfl, r⟩ := ra.one
    dsimp only at h
    unfold ints1 at h
    simp only [Option.bind_eq_some_iff, Option.map_eq_some_iff] at h
    obtain ⟨ns, ⟨x, hx, xs, hxs, hn⟩, i, hi, rfl⟩ := h
    have rx := view_ok R.st 6 r hx
    obtain rfl := listD_some hxs
    simp only [DRel] at rx
    obtain ⟨a, vs, rfl, t, _, r'⟩ := rx
    have hne : 0 < ns.length := by cases ns <;> simp [minL] at hi ⊢
    refine wpAny_size (min_list_N hh (fr_all hm) (news_all s.heap env.locals) t (intsAre_of r' hn) hne fun h' M t' tk F' N' m1 m2 z => ?_)
    have E0 : Ext0 env s { s with heap := h', toks := tk } := ⟨fun a o e n => (N' (a, o) (mem_allNews e n)).1, fun _ e => ns_unique hm e ▸ F'.ns, z, rfl, rfl⟩
    exact hQ _ _ _ rfl E0 (by simp only [FreshRel, DRel]; exact ⟨_, by rw [minL_eq hi m1 m2]⟩)
    | [a, b], h, ra =>
    obtain ⟨u, v, rfl, r1, r2⟩ := ra.two
    dsimp only at h
    simp only [Option.bind_eq_some_iff, Option.map_eq_some_iff] at h
    obtain ⟨x, hx, y, hy, rfl⟩ := h
    obtain rfl := intV_some hx
    obtain rfl := intV_some hy
    simp only [VRel, DRel] at r1 r2
    obtain ⟨t, rfl⟩ := r1; obtain ⟨t', rfl⟩ := r2
    refine wpAny_size (min_two_ints hh fun h' tk hk z => ?_)
    have E0 : Ext0 env s { s with heap := h', toks := tk } := .of hk z
    refine hQ _ _ _ rfl E0 ?_
    simp only [FreshRel, DRel]
    split <;> exact ⟨_, rfl⟩
    | _ :: _ :: _ :: _, h, _ => cases h
  | max =>
    unfold bfV at h
    dsimp only at h
    unfold maxV at h
    match args, h, ra with
    | [], h, _ => cases h
    | [w], h, ra =>
    obtain ⟨u, rfl, r⟩ := ra.one
    dsimp only at h
    unfold ints1 at h
    simp only [Option.bind_eq_some_iff, Option.map_eq_some_iff] at h
    obtain ⟨ns, ⟨x, hx, xs, hxs, hn⟩, i, hi, rfl⟩ := h
    have rx := view_ok R.st 6 r hx
    obtain rfl := listD_some hxs
    simp only [DRel] at rx
    obtain ⟨a, vs, rfl, t, _, r'⟩ := rx
    have hne : 0 < ns.length := by cases ns <;> simp [maxL] at hi ⊢
    refine wpAny_size (max_list_N hh (fr_all hm) (news_all s.heap env.locals) t (intsAre_of r' hn) hne fun h' M t' tk F' N' m1 m2 z => ?_)
    have E0 : Ext0 env s { s with heap := h', toks := tk } := ⟨fun a o e n => (N' (a, o) (mem_allNews e n)).1, fun _ e => ns_unique hm e ▸ F'.ns, z, rfl, rfl⟩
    exact hQ _ _ _ rfl E0 (by simp only [FreshRel, DRel]; exact ⟨_, by rw [maxL_eq hi m1 m2]⟩)
    | [a, b], h, ra =>
    obtain ⟨u, v, rfl, r1, r2⟩ := ra.two
    dsimp only at h
    simp only [Option.bind_eq_some_iff, Option.map_eq_some_iff] at h
    obtain ⟨x, hx, y, hy, rfl⟩ := h
    obtain rfl := intV_some hx
    obtain rfl := intV_some hy
    simp only [VRel, DRel] at r1 r2
    obtain ⟨t, rfl⟩ := r1; obtain ⟨t', rfl⟩ := r2
    refine wpAny_size (max_two_ints hh fun h' tk hk z => ?_)
    have E0 : Ext0 env s { s with heap := h', toks := tk } := .of hk z
    refine hQ _ _ _ rfl E0 ?_
    simp only [FreshRel, DRel]
    split <;> exact ⟨_, rfl⟩
    | _ :: _ :: _ :: _, h, _ => cases h
  | int =>
    unfold bfV at h
    dsimp only at h
    simp only [Option.bind_eq_some_iff, Option.map_eq_some_iff] at h
    obtain ⟨w, hw, b, hb, rfl⟩ := h
    obtain rfl := one1_some hw
    obtain rfl := boolV_some hb
    obtain ⟨u, rfl, r⟩ := ra.one
    simp only [VRel, DRel] at r; subst r
    exact call_int_bool (hQ _ _ _ rfl (.toks _) (by simp only [FreshRel, DRel]; exact ⟨_, rfl⟩))
  | list =>
    unfold bfV at h
    dsimp only at h
    simp only [Option.bind_eq_some_iff] at h
    obtain ⟨w, hw, xs, hxs, h⟩ := h
    obtain rfl := one1_some hw
    obtain rfl := listV_some hxs
    obtain ⟨u, rfl, r⟩ := ra.one
    split at h
    · rename_i hz; cases h
      simp only [VRel, DRel] at r
      obtain ⟨a, vs, rfl, t, _, r'⟩ := r
      have e := r'.length
      have hz' := sizeLine_big hz
      have t' := t
      obtain ⟨o, ho, hc, n, hd⟩ := t'
      refine call_list_seq a (.inl rfl) ho hc hd (fun h' c' hk hD => ?_) (by simp only [List.size_toArray]; omega)
      have E0 : Ext0 env s { s with heap := h' } := .of (t := s.toks) hk (Nat.le_of_lt (Heap.lt_size hD))
      exact hQ _ _ _ rfl E0 (fresh_list R E0 (Nat.le_refl _) hD r')
    · cases h
  | dict =>
    unfold bfV at h
    dsimp only at h
    simp only [Option.bind_eq_some_iff] at h
    obtain ⟨w, hw, h⟩ := h
    obtain rfl := one1_some hw
    obtain ⟨u, rfl, r⟩ := ra.one
    unfold dictV at h
    cases w with
    | d x => cases x with
      | dict ks vs =>
        dsimp only at h
        split at h
        · rename_i hz; cases h
          simp only [VRel, DRel] at r
          obtain ⟨a, us, rfl, t, l, lo, _, r'⟩ := r
          have e : (ks.zip us).length = ks.length := by rw [List.length_zip, ← l, Nat.min_self]
          refine kt_call_dict (low_addr lo h2) t (by rw [e]; exact sizeLine_big hz) fun h' hd hs => ?_
          have kp : ∀ b o, s.heap.get? b = some o → h'.get? b = some o := fun b o q => (hs.2 b (Nat.ne_of_lt (Heap.lt_size q))).trans (Heap.get?_push_of_some _ q)
          have E0 : Ext0 env s { s with heap := h' } := .of (t := s.toks) kp (by rw [hs.1, Heap.size_push]; omega)
          exact hQ _ _ _ rfl E0 (fresh_dict R E0 (Nat.le_refl _) hd l r')
        · cases h
      | _ => cases h
    | obj n =>
      dsimp only at h
      split at h
      · rename_i ks vs ho
        split at h
        · rename_i hz
          obtain ⟨ds, hd, rfl⟩ := Option.map_eq_some_iff.mp h
          obtain ⟨a, us, rfl, ha, t, l, r'⟩ := R.objDict r ho
          rw [allD_map hd] at r'
          have e : (ks.zip us).length = ks.length := by rw [List.length_zip, ← l, Nat.min_self]
          refine kt_call_dict (low_addr (R.st.low a (List.mem_of_getElem? ha)) h2) t (by rw [e]; exact sizeLine_big hz) fun h' hd hs => ?_
          have kp : ∀ b o, s.heap.get? b = some o → h'.get? b = some o := fun b o q => (hs.2 b (Nat.ne_of_lt (Heap.lt_size q))).trans (Heap.get?_push_of_some _ q)
          have E0 : Ext0 env s { s with heap := h' } := .of (t := s.toks) kp (by rw [hs.1, Heap.size_push]; omega)
          exact hQ _ _ _ rfl E0 (fresh_dict R E0 (Nat.le_refl _) hd l (VsRel.map.mp r'))
        · cases h
      · cases h
    | tup _ => cases h
  | sorted =>
    unfold bfV at h
    dsimp only at h
    simp only [Option.bind_eq_some_iff] at h
    obtain ⟨w, hw, x, hx, xs, hxs, h⟩ := h
    obtain rfl := one1_some hw
    obtain ⟨u, rfl, r⟩ := ra.one
    have rx := view_ok R.st 6 r hx
    simp only [sortD, Option.map_eq_some_iff] at h
    obtain ⟨d, h, rfl⟩ := h
    split at h
    · rename_i h64
      rcases sortIn_some hxs with rfl | ⟨ks, rfl, rfl⟩
      case inr =>
        obtain ⟨ns, hn, rfl⟩ := Option.map_eq_some_iff.mp h
        simp only [DRel] at rx
        obtain ⟨a, ns', rfl, t, rfl, _⟩ := rx
        rw [intsOf_keys] at hn
        cases hn
        rw [List.length_map, List.length_map] at h64
        refine sorted_set hh t h64 fun s' vs' ns'' c e M a1 a2 a3 ha hl => ?_
        have E0 : Ext0 env s s' := ⟨fun a o e _ => M.keep a o e, fun m e => e.at' fun o e => M.keep _ o e, M.size, M.gens, M.os⟩
        obtain rfl := sortI_eq a2 a3
        exact hQ _ _ _ rfl E0 (fresh_list R E0 ha hl (intsAre_rel a1))
      obtain ⟨ns, hn, rfl⟩ := Option.map_eq_some_iff.mp h
      simp only [DRel] at rx
      obtain ⟨a, vs, rfl, t, _, r'⟩ := rx
      refine sorted_N (fr_all hm) (news_all s.heap env.locals) t (intsAre_of r' hn) (by rw [← r'.length]; exact h64) fun h' vs' ns' e F' N' a1 a2 a3 => ?_
      have E0 : Ext0 env s { s with heap := h' } := ext0_news (t := s.toks) hm F' N' (Nat.le_succ _)
      obtain rfl := sortI_eq a2 a3
      exact hQ _ _ _ rfl E0 (fresh_list R E0 (Nat.le_succ _) (N' _ (.head _)).1 (intsAre_rel a1))
    · cases h
  | set =>
    unfold bfV at h
    dsimp only at h
    unfold ints1 at h
    simp only [Option.bind_eq_some_iff] at h
    obtain ⟨w, hw, ns, ⟨x, hx, xs, hxs, hn⟩, h⟩ := h
    obtain rfl := one1_some hw
    obtain ⟨u, rfl, r⟩ := ra.one
    have rx := view_ok R.st 6 r hx
    obtain rfl := listD_some hxs
    split at h
    · rename_i hz
      cases h
      simp only [DRel] at rx
      obtain ⟨a, vs, rfl, t, _, r'⟩ := rx
      have hi := intsAre_of r' hn
      have hl : vs.length = ns.length := IntsAre.length hi
      refine wpAny_size (set_list hh t (by simpa using hi) (by rw [List.size_toArray]; unfold scanBound; omega) fun h' tk htk hS hk z => ?_)
      have kp : ∀ b o, s.heap.get? b = some o → h'.get? b = some o := fun b o e => hk b o (Heap.lt_size e) e
      have E0 : Ext0 env s { s with heap := h', toks := tk } := .of kp z
      refine hQ _ _ _ rfl E0 ?_
      rw [show vs.toArray.size = ns.length from (List.size_toArray).trans hl, firstMet_dedI] at hS
      simp only [FreshRel, DRel]
      exact ⟨_, _, rfl, hS, rfl, fun q => q.elim (fun q => absurd (R.xlt _ q) (Nat.lt_irrefl _)) fun q => absurd (R.st.lt q) (Nat.lt_irrefl _)⟩
    · cases h
  | all => cases h

end Mine
end

section
set_option autoImplicit false
namespace Mine
open PySem PyProof.Rows

variable {C : Wo} {X : Addr → Prop} {env : Env} {ρ : Loc} {α α' α'' : List Addr} {σ σ' σ'' : St} {s s' s'' : Shared} {A : Around} {E : Value → Shared → Prop}

theorem growBut {h h' : Heap} {a : Addr} (hs : Heap.SameBut a h h') (ha : a ∈ α) : Grow (Bad X α) h (Bad X α) h' := fun b o n e => by
  have hb : b ≠ a := fun q => n (.inr (q ▸ ha))
  exact ⟨(hs.2 b hb).trans e, n⟩

theorem oput_eq {n : Nat} {o : MO} (h : oput σ n o = some σ') : (∃ q, σ[n]? = some (false, q)) ∧ σ' = σ.set n (false, o) := by
  unfold oput at h
  split at h
  · rename_i q hq; cases h; exact ⟨⟨_, hq⟩, rfl⟩
  · cases h

theorem putRel (R : Rel C X env ρ α σ s) {n : Nat} {a : Addr} {o : MO} {h' : Heap} {t : Nat} (hn : α[n]? = some a) (hp : oput σ n o = some σ') (hs : Heap.SameBut a s.heap h') (ho : ORel C X α h' a o) :
    Rel C X env ρ α σ' { s with heap := h', toks := t } ∧ Ext env α σ s α σ' { s with heap := h', toks := t } := by
  obtain ⟨⟨q, hq⟩, rfl⟩ := oput_eq hp
  have ha : a ∈ α := List.mem_of_getElem? hn
  have hl : a ≠ env.locals := R.neLoc ha
  have E' : Ext env α σ s α (σ.set n (false, o)) { s with heap := h', toks := t } := by
    refine ⟨fun b p e nl l => ?_, fun m e => e.sameBut hs (Ne.symm hl), ⟨[], by simp, by simp⟩, Nat.le_of_eq hs.1.symm, rfl, rfl, fun k p e => ?_, by simp⟩
    · have hb : b ≠ a := fun q' => by
        obtain ⟨_, e'⟩ := l n (q' ▸ hn)
        rw [hq] at e'; cases e'
      exact (hs.2 b hb).trans e
    · have hk : n ≠ k := fun q' => by subst q'; rw [hq] at e; cases e
      rw [List.getElem?_set_ne hk]; exact e
  refine ⟨R.ext E' ⟨by simp [R.st.len], R.st.nodup, R.st.out, R.st.low, fun k b l p h1 h2 => ?_⟩, E'⟩
  by_cases hk : n = k
  · subst hk
    rw [hn] at h1; cases h1
    rw [List.getElem?_set_self (List.getElem?_eq_some_iff.mp hq).1] at h2
    cases h2
    exact ho
  · rw [List.getElem?_set_ne hk] at h2
    have hb : b ≠ a := fun e => hk (by
      subst e
      exact (List.getElem?_inj (List.getElem?_eq_some_iff.mp hn).1 R.st.nodup).mp (hn.trans h1.symm))
    exact (R.st.obj k b l p h1 h2).grow (growBut hs ha) (List.prefix_refl _) fun o ho => (hs.2 b hb).trans ho

theorem putK_len {β : Type} {k : Key} {v : β} : ∀ {ks : List Key} {vs : List β}, ks.length = vs.length → (putK k v ks vs).1.length = (putK k v ks vs).2.length
  | [], [], _ => rfl
  | k' :: ks, u :: vs, h => by
    simp only [putK_cons]
    split
    · simpa using h
    · simp [putK_len (ks := ks) (vs := vs) (by simpa using h)]

theorem putK_keys {β γ : Type} {k : Key} {v : β} {u : γ} : ∀ {ks : List Key} {vs : List β} {us : List γ}, vs.length = us.length → (putK k v ks vs).1 = (putK k u ks us).1
  | [], _, _, _ => rfl
  | _ :: _, [], [], _ => rfl
  | k' :: ks, _ :: vs, _ :: us, h => by
    simp only [putK_cons]
    split
    · rfl
    · simp [putK_keys (ks := ks) (vs := vs) (us := us) (v := v) (u := u) (by simpa using h)]

theorem putK_rel {h : Heap} {k : Key} {v : V} {u : Value} (hv : VRel C X α h v u) : ∀ {ks : List Key} {xs : List V} {vs : List Value}, VsRel C X α h xs vs → VsRel C X α h (putK k v ks xs).2 (putK k u ks vs).2
  | [], _, _, _ => by simp only [putK_n1, VsRel]; exact ⟨_, _, rfl, hv, rfl⟩
  | k' :: ks, [], _, r => by simp only [VsRel] at r; subst r; simp only [putK_n2, VsRel]; exact ⟨_, _, rfl, hv, rfl⟩
  | k' :: ks, x :: xs, _, r => by
    simp only [VsRel] at r
    obtain ⟨w, r', rfl, a, b⟩ := r
    simp only [putK_cons]
    split
    · simp only [VsRel]; exact ⟨_, _, rfl, hv, b⟩
    · simp only [VsRel]; exact ⟨_, _, rfl, a, putK_rel hv b⟩

theorem stored_no {k : Key} {v : Value} : ∀ {kvs : List (Key × Value)}, k ∉ kvs.map (·.1) → kvs.map (fun kv => if kv.1 = k then (kv.1, v) else kv) = kvs
  | [], _ => rfl
  | p :: r, h => by
    simp only [List.map_cons, List.mem_cons, not_or] at h
    rw [List.map_cons, stored_no h.2, if_neg (Ne.symm h.1)]

theorem stored_zip {k : Key} {v : Value} : ∀ {ks : List Key} {vs : List Value}, ks.length = vs.length → (((ks.zip vs).map (·.1)).Nodup) → stored (ks.zip vs) k v = (putK k v ks vs).1.zip (putK k v ks vs).2
  | [], [], _, _ => by simp [stored, putK_n1]
  | k' :: ks, u :: vs, hl, hn => by
    simp only [List.zip_cons_cons, List.map_cons, List.nodup_cons] at hn
    have ih := stored_zip (k := k) (v := v) (ks := ks) (vs := vs) (by simpa using hl) hn.2
    by_cases h : k = k'
    · subst h
      simp only [putK_cons, if_true, List.zip_cons_cons]
      unfold stored
      rw [if_pos (by simp), List.map_cons, if_pos rfl, stored_no hn.1]
    · simp only [putK_cons, if_neg h, List.zip_cons_cons]
      rw [← ih]
      unfold stored
      rw [List.any_cons, List.map_cons]
      have e1 : decide (k' = k) = false := by simpa using Ne.symm h
      simp only [e1, Bool.false_or, if_neg (Ne.symm h)]
      split <;> simp

theorem set_rel {h : Heap} {v : V} {u : Value} (hv : VRel C X α h v u) : ∀ {n : Nat} {xs : List V} {vs : List Value}, VsRel C X α h xs vs → VsRel C X α h (xs.set n v) (vs.set n u)
  | _, [], _, r => by simp only [VsRel] at r; subst r; simp [VsRel]
  | n, x :: xs, _, r => by
    simp only [VsRel] at r
    obtain ⟨w, r', rfl, a, b⟩ := r
    cases n with
    | zero => simp only [List.set_cons_zero, VsRel]; exact ⟨_, _, rfl, hv, b⟩
    | succ n => simp only [List.set_cons_succ, VsRel]; exact ⟨_, _, rfl, a, set_rel hv b⟩

theorem snoc_rel {h : Heap} {v : V} {u : Value} (hv : VRel C X α h v u) : ∀ {xs : List V} {vs : List Value}, VsRel C X α h xs vs → VsRel C X α h (xs ++ [v]) (vs ++ [u])
  | [], _, r => by simp only [VsRel] at r; subst r; simp only [List.nil_append, VsRel]; exact ⟨_, _, rfl, hv, rfl⟩
  | x :: xs, _, r => by
    simp only [VsRel] at r
    obtain ⟨w, r', rfl, a, b⟩ := r
    simp only [List.cons_append, VsRel]
    exact ⟨_, _, rfl, a, snoc_rel hv b⟩

theorem oget_oput {n : Nat} {o : MO} (h : oput σ n o = some σ') : ∃ q, oget σ n = some q := by
  obtain ⟨⟨q, hq⟩, _⟩ := oput_eq h
  exact ⟨q, by simp [oget, hq]⟩

theorem setItemV_ok (R : Rel C X env ρ α σ s) {o i v : V} {uo ui uv : Value} {Q : Unit → Shared → Prop} (ho : VRel C X α s.heap o uo) (hi : VRel C X α s.heap i ui) (hv : VRel C X α s.heap v uv)
    (h : setItemV σ o i v = some σ') (hQ : ∀ s', Rel C X env ρ α σ' s' → Ext env α σ s α σ' s' → Q () s') : wpAny C.M A (setItem uo ui uv) Q E s := by
  unfold setItemV at h
  split at h
  · rename_i n
    split at h
    · rename_i xs hg
      split at h
      · rename_i k
        split at h
        · rename_i hk
          obtain ⟨a, vs, rfl, hn, ⟨j, t⟩, r⟩ := R.objList ho hg
          simp only [VRel, DRel] at hi
          obtain ⟨tk, rfl⟩ := hi
          have hl := r.length
          refine W.ki_setAt (n := j) t hk.1 (by omega) (by simp only [List.size_toArray]; omega) ?_
          have hs : Heap.SameBut a s.heap (s.heap.update a (Obj.mapSeq (·.setIfInBounds k.toNat uv))) := .update ..
          have hx : a ∈ α := List.mem_of_getElem? hn
          obtain ⟨R', E'⟩ := putRel (t := s.toks) R hn h hs ⟨vs.set k.toNat uv, j, by
            rw [Heap.get?_update_self _ t (by rfl)]
            simp [Obj.mapSeq, lobj], (set_rel hv r).grow (growBut hs hx) (List.prefix_refl _)⟩
          exact hQ _ R' E'
        · cases h
      · cases h
    · rename_i ks xs hg
      simp only [Option.bind_eq_some_iff] at h
      obtain ⟨k, hk, h⟩ := h
      split at h
      · rename_i hz
        obtain ⟨a, vs, rfl, hn, t, hl, r⟩ := R.objDict ho hg
        have hx : a ∈ α := List.mem_of_getElem? hn
        have hl2 := r.length
        refine wpAny_setItem_pairs (keyOf_is hk hi) t (fun h' hd hs => ?_) ?_
        · obtain ⟨_, _, _, _, _, _, _, _, nd⟩ := id t
          rw [stored_zip hl nd] at hd
          obtain ⟨R', E'⟩ := putRel (t := s.toks + 1) R hn h hs ⟨(putK k uv ks vs).2, by rw [putK_keys (v := v) (u := uv) hl2]; exact hd, by
            rw [putK_keys (v := v) (u := uv) hl2]; exact putK_len hl, (putK_rel hv r).grow (growBut hs hx) (List.prefix_refl _)⟩
          exact hQ _ R' E'
        · have := sizeLine_big hz
          simp only [List.length_zip]; omega
      · cases h
    · cases h
  · cases h

/-- what is to be done with the method that was found -/
noncomputable def mkId : Mk → String
  | .append => "list.append"
  | .dclear => "dict.clear"
  | .join => "str.join"

theorem dictOf_noDict {a : Addr} {kvs : List (Key × Value)} (t : s.heap.DictOf C.kk a kvs) : ∀ b, Value.ref a = .ref b → ∃ ob, s.heap.get? b = some ob ∧ ob.dict = none := by
  intro b e; cases e
  obtain ⟨o, es, ep, ho, hx, _⟩ := t
  exact ⟨o, ho, hx.2.1⟩

theorem mkOf_ok (R : Rel C X env ρ α σ s) {m : Str} {o : V} {uo : Value} {k : Mk} {pos : Pos} {trees : List (Bool × Sem Value)} {Q : Value → Shared → Prop} (hm : mkOf σ m o = some k) (ho : VRel C X α s.heap o uo)
    (h : wpAny C.M A (callWith pos (.builtin (mkId k)) [uo] trees []) Q E s) : MethodOn C.prog C.w A m pos uo trees Q E s := by
  unfold mkOf at hm
  split at hm
  · rename_i n
    split at hm
    · rename_i xs hg
      obtain ⟨a, vs, rfl, hn, ⟨j, t⟩, r⟩ := R.objList ho hg
      split at hm
      · rename_i e; subst e; cases hm
        exact ⟨"list", "list.append", F.plainAttrs_list, F.slot_list_append, F.type_list_append, (lobj_isList t).typeIs, fun b e => by cases e; exact ⟨_, t, rfl⟩, h⟩
      · cases hm
    · rename_i ks xs hg
      obtain ⟨a, vs, rfl, hn, t, hl, r⟩ := R.objDict ho hg
      split at hm
      · rename_i e; subst e; cases hm
        exact ⟨"dict", "dict.clear", F.plainAttrs_dict, F.slot_dict_clear, F.type_dict_clear, t.typeIs, dictOf_noDict t, h⟩
      · cases hm
    · cases hm
  · rename_i x
    split at hm
    · rename_i e; subst e; cases hm
      simp only [VRel, DRel] at ho
      obtain ⟨tk, rfl⟩ := ho
      exact ⟨"str", "str.join", F.plainAttrs_str, F.slot_str_join, F.type_str_join, typeIs_str _ _ _, (fun b e => nomatch e), h⟩
    · cases hm
  · cases hm

theorem strs_vals {h : Heap} : ∀ {xs : List V} {vs : List Value} {ts : List Str}, strsV xs = some ts → VsRel C X α h xs vs → ∃ l : List (Str × Tok), vs = strValues l ∧ l.map (·.1) = ts
  | [], vs, ts, e, r => by
    simp only [strsV, Option.some.injEq] at e
    simp only [VsRel] at r
    subst e r
    exact ⟨[], rfl, rfl⟩
  | v :: xs, vs, ts, e, r => by
    simp only [VsRel] at r
    obtain ⟨u, us, rfl, hv, hr⟩ := r
    simp only [strsV] at e
    split at e
    · rename_i x
      simp only [Option.map_eq_some_iff] at e
      obtain ⟨ts', e, rfl⟩ := e
      obtain ⟨l, rfl, rfl⟩ := strs_vals e hr
      simp only [VRel, DRel] at hv
      obtain ⟨t, rfl⟩ := hv
      exact ⟨(x, t) :: l, rfl, rfl⟩
    · cases e
theorem join_fit {x : Str} {ts : List Str} (h0 : x.length = 0) (h : joinFit ts = true) : JoinOk x ts = true := by
  simp only [joinFit, Bool.and_eq_true, decide_eq_true_eq, List.all_eq_true] at h
  unfold JoinOk
  rw [StrLaws.joinFits (B := 1000) h.2 (by rw [h0]; omega)]
  rfl

theorem methV_ok (R : Rel C X env ρ α σ s) {o : V} {uo : Value} {k : Mk} {args : List V} {us : List Value} {v : V} {Q : Value → Shared → Prop} (ho : VRel C X α s.heap o uo) (ha : VsRel C X α s.heap args us) (h : methV σ k o args = some (v, σ'))
    (hQ : ∀ u s', Rel C X env ρ α σ' s' → Ext env α σ s α σ' s' → VRel C X α s'.heap v u → Q u s') : wpAny C.M A (call (.builtin (mkId k)) (uo :: us)) Q E s := by
  unfold methV at h
  split at h
  · rename_i n x
    obtain ⟨ux, rfl, hx⟩ := ha.one
    split at h
    · rename_i xs hg
      split at h
      · rename_i hz
        obtain ⟨a, vs, rfl, hn, ⟨j, t⟩, r⟩ := R.objList ho hg
        have hxm : a ∈ α := List.mem_of_getElem? hn
        simp only [Option.map_eq_some_iff, Prod.mk.injEq] at h
        obtain ⟨σ₁, hp, rfl, rfl⟩ := h
        refine append_at t (fun h' hs hg' => ?_) ?_
        · obtain ⟨R', E'⟩ := putRel (t := s.toks) R hn hp hs ⟨vs ++ [ux], j + 1, by rw [hg']; simp [lobj], (snoc_rel hx r).grow (growBut hs hxm) (List.prefix_refl _)⟩
          exact hQ _ _ R' E' (by simp only [VRel, DRel])
        · have := sizeLine_big hz
          have := r.length
          simp only [List.size_toArray]; omega
      · cases h
    · cases h
  · rename_i n
    simp only [VsRel] at ha
    subst ha
    split at h
    · rename_i ks xs hg
      split at h
      · rename_i hz
        obtain ⟨a, vs, rfl, hn, t, hl, r⟩ := R.objDict ho hg
        simp only [Option.map_eq_some_iff, Prod.mk.injEq] at h
        obtain ⟨σ₁, hp, rfl, rfl⟩ := h
        refine call_meetsIn F.slot_dict_clear t.typeIs F.entry_dict_clear (F.args_dict_clear_1 _) (meets_dict_clear C.kk a) ⟨_, t, ?_, fun h' hd hs => ?_⟩
        · have := sizeLine_big hz
          simp only [List.length_zip]; omega
        · obtain ⟨R', E'⟩ := putRel (t := s.toks) R hn hp hs ⟨[], hd, rfl, by simp only [VsRel]⟩
          exact hQ _ _ R' E' (by simp only [VRel, DRel])
      · cases h
    · cases h
  · rename_i x n
    obtain ⟨ux, rfl, hx⟩ := ha.one
    split at h
    · rename_i xs hg
      simp only [Option.bind_eq_some_iff] at h
      obtain ⟨ts, ht, h⟩ := h
      split at h
      · rename_i hf
        cases h
        obtain ⟨a, vs, rfl, hn, ⟨j, t⟩, r⟩ := R.objList hx hg
        obtain ⟨l, rfl, rfl⟩ := strs_vals ht r
        simp only [VRel, DRel] at ho
        obtain ⟨tk, rfl⟩ := ho
        refine SC.join (lobj_isList t) rfl (join_fit hf.1 hf.2) fun t' k => ?_
        refine hQ _ _ (R.ext0 (.toks k)) (Ext0.toks k).ext ?_
        simp only [VRel, DRel]
        exact ⟨t', by rw [← StrLaws.glued_eq_join]; rfl⟩
      · cases h
    · cases h
  · cases h

end Mine
end

section
set_option autoImplicit false
namespace Mine
open PySem PyProof.Rows PySem.Calls
open PySem.W (Looks)

noncomputable def gi (sc : Scope) (x : Str) : Bool := (sc.names.lookup x == some .globalImplicit) && !(x == ("__debug__" : Str))

/-- a call of no arguments has its own road in a method call -/
noncomputable def notBare : Expr → Bool
  | .Call (.Name _ _) [] [] _ => false
  | _ => true

noncomputable def giArgs (sc : Scope) : List Expr → Bool
  | [_, .Name t _] => gi sc t
  | _ => false

mutual
/-- what the text must be for the reading to hold -/
noncomputable def okE (K : Str → Option D) (sc : Scope) : Expr → Bool
  | .Constant _ _ _ => true
  | .Name x _ => !(x == ("__debug__" : Str)) && !(x == ("__classdict__" : Str)) && ((K x).isNone || gi sc x)
  | .BoolOp _ es _ => okEs K sc es
  | .BinOp l _ r _ => okE K sc l && okE K sc r
  | .UnaryOp _ e _ => okE K sc e
  | .Compare l ops es _ => okE K sc l && okEs K sc es && !lastMarks ops es
  | .Tuple es _ _ => okEs K sc es && decide (es.length < 1000)
  | .List es _ => okEs K sc es && decide (es.length < 1000)
  | .Subscript e i _ => okE K sc e && match i with
    | .Slice lo hi st _ => match lo, hi, st with
      | some lo, none, none => okE K sc lo
      | _, _, _ => false
    | i => okE K sc i
  | .Dict _ vs _ => okEs K sc vs
  | .Call f args ks pos => okEs K sc args && match ks with
    | [] => match f with
      | .Name f _ => gi sc f && (if f = "isinstance" then giArgs sc args else true)
      | .Attribute e _ apos => okE K sc e && notBare e && (apos.endLine == pos.line) && decide (args.length < 29)
      | _ => false
    | _ => false
  | _ => false
noncomputable def okEs (K : Str → Option D) (sc : Scope) : List Expr → Bool
  | [] => true
  | e :: r => okE K sc e && okEs K sc r
end

section
variable {K : Str → Option D} {sc : Scope}
theorem okE_Name {x : Str} {p : Pos} : okE K sc (.Name x p) = (!(x == ("__debug__" : Str)) && !(x == ("__classdict__" : Str)) && ((K x).isNone || gi sc x)) := rfl
theorem okE_BoolOp {op : BoolOp} {es : List Expr} {p : Pos} : okE K sc (.BoolOp op es p) = okEs K sc es := rfl
theorem okE_BinOp {l r : Expr} {op : Operator} {p : Pos} : okE K sc (.BinOp l op r p) = (okE K sc l && okE K sc r) := rfl
theorem okE_UnaryOp {e : Expr} {op : UnaryOp} {p : Pos} : okE K sc (.UnaryOp op e p) = okE K sc e := rfl
theorem okE_Compare {l : Expr} {ops : List CmpOp} {es : List Expr} {p : Pos} : okE K sc (.Compare l ops es p) = (okE K sc l && okEs K sc es && !lastMarks ops es) := rfl
theorem okE_Tuple {es : List Expr} {k : Nat} {p : Pos} : okE K sc (.Tuple es k p) = (okEs K sc es && decide (es.length < 1000)) := rfl
theorem okE_List {es : List Expr} {p : Pos} : okE K sc (.List es p) = (okEs K sc es && decide (es.length < 1000)) := rfl
theorem okE_Slice {e : Expr} {lo hi st : Option Expr} {p q : Pos} : okE K sc (.Subscript e (.Slice lo hi st q) p) = (okE K sc e && match lo, hi, st with
      | some lo, none, none => okE K sc lo
      | _, _, _ => false) := by cases lo <;> cases hi <;> cases st <;> rfl
theorem okE_Item {e i : Expr} {p : Pos} (h : isSlice i = false) : okE K sc (.Subscript e i p) = (okE K sc e && okE K sc i) := by
  cases i with
  | Slice lo hi st p => cases h
  | _ => rfl
theorem okE_Dict {ks : List (Option Expr)} {vs : List Expr} {p : Pos} : okE K sc (.Dict ks vs p) = okEs K sc vs := rfl
theorem okE_CallN {f : Str} {q p : Pos} {args : List Expr} : okE K sc (.Call (.Name f q) args [] p) = (okEs K sc args && (gi sc f && (if f = "isinstance" then giArgs sc args else true))) := rfl
theorem okE_CallM {e : Expr} {m : Str} {q p : Pos} {args : List Expr} : okE K sc (.Call (.Attribute e m q) args [] p) = (okEs K sc args && (okE K sc e && notBare e && (q.endLine == p.line) && decide (args.length < 29))) := rfl
theorem okE_CallK {f : Expr} {k : Keyword} {ks : List Keyword} {p : Pos} {args : List Expr} : okE K sc (.Call f args (k :: ks) p) = (okEs K sc args && false) := rfl
theorem okEs_cons {e : Expr} {r : List Expr} : okEs K sc (e :: r) = (okE K sc e && okEs K sc r) := rfl
end

/-- what a call of a def does -/
def CallAt (C : Wo) (G : Genv) (A : Around) (f : Str) (a : Addr) : Prop :=
  ∀ (X : Addr → Prop) (env : Env) (ρ : Loc) (α : List Addr) (σ : St) (s : Shared) (E : Value → Shared → Prop) (Q : Value → Shared → Prop) (args : List V) (us : List Value) (v : V) (σ' : St),
    Rel C X env ρ α σ s → VsRel C X α s.heap args us → G.call f args σ = some (v, σ') →
    (∀ x u s', v = .d x → σ' = σ → Ext0 env s s' → (G.fresh f = true → FreshRel C (Bad X α) s'.heap s.heap.objs.size x u) → DRel C (Bad X α) s'.heap x u → Q u s') →
    wpAny C.M A (call (.ref a) us) Q E s

noncomputable def typeStrs : List String := ["int", "bool", "str", "tuple", "list", "dict"]
/-- what is known of the world around -/
structure Wk (C : Wo) (G : Genv) (A : Around) : Prop where
  h2 : 2 ≤ C.base.objs.size
  hu : A.units + 30 < cLine
  hh : A.handled = none
  gns : C.base.Ns mainGlobals C.mg
  bns : C.base.Ns builtinsNs C.mb
  bf : ∀ f b, bfOf f = some b → C.mg f = none ∧ C.mb f = some (bfVal b)
  isi : C.mg "isinstance" = none ∧ C.mb "isinstance" = some (.builtin "isinstance")
  tys : ∀ t ∈ typeStrs, C.mg (Str.ofString t) = none ∧ C.mb (Str.ofString t) = some (.type t)
  rng : C.mg "range" = none ∧ C.mb "range" = some (.type "range")
  zp : C.mg "zip" = none ∧ C.mb "zip" = some (.type "zip")
  rev : C.mg "reversed" = none ∧ C.mb "reversed" = some (.type "reversed")
  cst : ∀ x d, G.const x = some d → ∃ u, C.mg x = some u ∧ ∀ B h, DRel C B h d u
  fns : ∀ f, G.fn f = true → ∃ a o fd, C.mg f = some (.ref a) ∧ C.base.get? a = some o ∧ o.data = .func fd ∧ CallAt C G A f a
  cls : ∀ f, G.cls f = false

section
variable {C : Wo} {G : Genv} {X : Addr → Prop} {env : Env} {ρ : Loc} {α α' α'' : List Addr} {σ σ' σ'' : St} {s s' s'' : Shared} {A : Around} {E : Value → Shared → Prop}

theorem starEach_cons {e : Expr} {r : List Expr} {o : Bool} {x : V × St} (h : evE G ρ o e σ = some x) (pos : Pos) : backTo pos (starEach (e :: r) env) = (false, eval e env) :: backTo pos (starEach r env) := by
  cases e <;> first | rfl | exact nomatch (show (none : Option (V × St)) = some x from h)

theorem evEs_plain {pos : Pos} : ∀ {es : List Expr} {σ : St} {o : Bool} {x : List V × St}, evEs G ρ o es σ = some x → (backTo pos (starEach es env)).any (·.1) = false
  | [], _, _, _, _ => rfl
  | e :: r, σ, o, x, h => by
    simp only [evEs_cons, Option.bind_eq_some_iff, Option.map_eq_some_iff] at h
    obtain ⟨⟨v, σ₁⟩, h1, ⟨vs, σ₂⟩, h2, _⟩ := h
    rw [starEach_cons h1, List.any_cons, evEs_plain h2]; rfl

theorem evEs_len : ∀ {es : List Expr} {σ : St} {o : Bool} {vs : List V} {σ' : St}, evEs G ρ o es σ = some (vs, σ') → vs.length = es.length
  | [], _, _, _, _, h => by simp only [evEs_nil, Option.some.injEq, Prod.mk.injEq] at h; rw [← h.1]; rfl
  | e :: r, σ, o, _, _, h => by
    simp only [evEs_cons, Option.bind_eq_some_iff, Option.map_eq_some_iff, Prod.mk.injEq] at h
    obtain ⟨⟨v, σ₁⟩, h1, ⟨ws, σ₂⟩, h2, rfl, rfl⟩ := h
    simp [evEs_len h2]

theorem keeper_builtin (M : Model) (h : Heap) (id : String) : Looks M h (keeperOf (.builtin id)) .machine := fun _ _ _ _ _ q => wpAny_pure q
theorem keeper_type (M : Model) (h : Heap) (id : String) : Looks M h (keeperOf (.type id)) .machine := fun _ _ _ _ _ q => wpAny_pure q
theorem keeper_fn {M : Model} {h : Heap} {a : Addr} {o : Obj} {fd : FuncData} (ho : h.get? a = some o) (hd : o.data = .func fd) : Looks M h (keeperOf (.ref a)) .frame := fun A Q E s k q => by
  unfold keeperOf
  refine wpAny_bind (wpAny_load (k _ _ ho) ?_)
  rw [hd]
  exact wpAny_pure q

theorem call_with {pos : Pos} {f : Value} {first : List Value} {es : List Expr} {P : Heap → Prop} {Q : Value → Shared → Prop} {σ : St} {o : Bool} {x : List V × St} (he : evEs G ρ o es σ = some x)
    (hk : ∀ h, P h → ∃ k, (k = Keeper.frame ∨ k = Keeper.machine ∨ k = Keeper.boundFrame) ∧ Looks C.M h (keeperOf f) k)
    (h : wpAny C.M A (spliced (backTo pos (starEach es env))) (fun us s' => P s'.heap ∧ wpAny C.M A (call f (first ++ us)) Q E s') E s) :
    wpAny C.M A (callWith pos f first (backTo pos (starEach es env)) []) Q E s := by
  refine W.callWith_of (P := P) (by rw [evEs_plain he]; rfl) hk ?_
  cases es with
  | nil =>
    unfold evalArgs
    show wpAny C.M A (spliced [] >>= _) _ E s
    refine wpAny_bind (wpAny_mono h (fun us s' h' => wpAny_bind (wpAny_pure ?_)) fun _ _ x => x)
    refine wpAny_holding ?_
    exact wpAny_bind (wpAny_pure (wpAny_bind (wpAny_pure (wpAny_pure h'))))
  | cons e r =>
    simp only [evEs_cons, Option.bind_eq_some_iff, Option.map_eq_some_iff] at he
    obtain ⟨⟨v, σ₁⟩, h1, _⟩ := he
    rw [starEach_cons h1] at h ⊢
    exact evalArgs_plain h
end

end Mine
end

section
set_option autoImplicit false
namespace Mine
open PySem PyProof.Rows PySem.Calls

section
variable {C : Wo} {G : Genv} {X X' : Addr → Prop} {env : Env} {ρ ρ' : Loc} {α α' α'' : List Addr} {σ σ' σ'' : St} {s s' s'' : Shared} {A : Around} {E : Value → Shared → Prop}

/-- the same reading of another state, with other addresses hidden -/
theorem Rel.move (R : Rel C X env ρ α σ s) (g : Grow (Bad X α) s.heap (Bad X' α) s'.heap) (kf : ∀ a ∈ FA env, ∀ o, s.heap.get? a = some o → s'.heap.get? a = some o)
    (kα : ∀ a ∈ α, ∀ o, s.heap.get? a = some o → s'.heap.get? a = some o) (kb : ∀ b o, C.base.get? b = some o → s'.heap.get? b = some o)
    (out : ∀ a ∈ α, ¬ X' a) (fa : ∀ a ∈ FA env, X' a) (xlt : ∀ a, X' a → a < s'.heap.objs.size) (xnt : ∀ a, X' a → ∃ o, s'.heap.get? a = some o ∧ NoTup o) : Rel C X' env ρ α σ s' := by
  have kc : ∀ {x : Str} {c : Addr} {u : Option Value}, env.cells.lookup x = some c → s.heap.IsCell c u → s'.heap.IsCell c u := fun hc ⟨o, ho, hd⟩ =>
    ⟨o, kf _ (.tail _ (List.mem_map.mpr ⟨_, mem_of_lookup hc, rfl⟩)) o ho, hd⟩
  refine ⟨kb, ⟨R.fr.kind, R.fr.glob, R.fr.blt, R.fr.kinds, ?_, fun x v e k => ?_, fun x k => ?_, R.fr.apart, R.fr.off⟩,
    ⟨R.st.len, R.st.nodup, out, R.st.low, fun n a b o h1 h2 => ?_⟩, fa, R.flow, xlt, xnt⟩
  · obtain ⟨m, hm, hl⟩ := R.fr.loc
    exact ⟨m, hm.at fun o ho => kf _ (.head _) o ho, fun x v e k => let ⟨u, hu, hv⟩ := hl x v e k; ⟨u, hu, hv.grow g (List.prefix_refl _)⟩⟩
  · obtain ⟨c, u, hc, hi, hv⟩ := R.fr.cel x v e k
    exact ⟨c, u, hc, kc hc hi, hv.grow g (List.prefix_refl _)⟩
  · obtain ⟨c, u, hc, hi⟩ := R.fr.has x k
    exact ⟨c, u, hc, kc hc hi⟩
  · have x := R.st.obj n a b o h1 h2
    have k := kα a (List.mem_of_getElem? h1)
    cases o with
    | list xs => obtain ⟨vs, j, t, r⟩ := x; exact ⟨vs, j, k _ t, r.grow g (List.prefix_refl _)⟩
    | dict ks xs => obtain ⟨vs, t, l, r⟩ := x; exact ⟨vs, dictOf_at t k, l, r.grow g (List.prefix_refl _)⟩
    | inst _ _ _ => exact x.elim

/-- one hidden thing changed -/
theorem Rel.but (R : Rel C X env ρ α σ s) {I : Addr} {h' : Heap} {t : Nat} (hX : X I) (hI : I ∉ FA env) (hb : C.base.objs.size ≤ I) (he : Heap.ExtBut I s.heap h') (hz : s.heap.objs.size ≤ h'.objs.size) (hno : ∃ o, h'.get? I = some o ∧ NoTup o) :
    Rel C X env ρ α σ { s with heap := h', toks := t } :=
  R.move (fun a o n e => ⟨he a o (fun q => n (.inl (q ▸ hX))) e, n⟩) (fun a ha o e => he a o (fun q => hI (q ▸ ha)) e) (fun a ha o e => he a o (fun q => R.st.out a ha (q ▸ hX)) e)
    (fun b o e => he b o (fun q => Nat.not_lt.mpr hb (q ▸ Heap.lt_size e)) (R.bas b o e)) R.st.out R.fa (fun a ha => Nat.lt_of_lt_of_le (R.xlt a ha) hz) fun a ha => by
      by_cases q : a = I
      · subst q; exact hno
      · obtain ⟨o, ho, hn⟩ := R.xnt a ha
        exact ⟨o, he a o q ho, hn⟩

def Hide (X : Addr → Prop) (I : Addr) : Addr → Prop := fun a => X a ∨ a = I

theorem Rel.widen (R : Rel C X env ρ α σ s) (E0 : Ext0 env s s') {I : Addr} (h1 : s.heap.objs.size ≤ I) (h2 : I < s'.heap.objs.size) (hno : ∃ o, s'.heap.get? I = some o ∧ NoTup o) : Rel C (Hide X I) env ρ α σ s' := by
  have R' := R.ext0 E0
  have g : Grow (Bad X α) s.heap (Bad (Hide X I) α) s'.heap := fun a o n e => by
    have := E0.ext.grow (α := α) (σ := σ) R a o n e
    refine ⟨this.1, fun q => ?_⟩
    rcases q with (q | q) | q
    · exact n (.inl q)
    · subst q; exact absurd (Heap.lt_size e) (Nat.not_lt.mpr h1)
    · exact n (.inr q)
  have F : FRel C (Hide X I) env ρ α s'.heap := by
    refine ⟨R.fr.kind, R.fr.glob, R.fr.blt, R.fr.kinds, ?_, fun x v e k => ?_, R'.fr.has, R.fr.apart, R.fr.off⟩
    · obtain ⟨m, hm, hl⟩ := R.fr.loc
      exact ⟨m, E0.ns m hm, fun x v e k => let ⟨u, hu, hv⟩ := hl x v e k; ⟨u, hu, hv.grow g (List.prefix_refl _)⟩⟩
    · obtain ⟨c, u, hc, hi, hv⟩ := R.fr.cel x v e k
      exact ⟨c, u, hc, R.cellKept E0.ext hc hi, hv.grow g (List.prefix_refl _)⟩
  refine ⟨R'.bas, F, ⟨R.st.len, R.st.nodup, fun a ha q => ?_, R.st.low, fun n a b o e1 e2 => ?_⟩, fun a ha => .inl (R.fa a ha), R.flow, fun a ha => ?_, fun a ha => ?_⟩
  · rcases q with q | q
    · exact R.st.out a ha q
    · subst q; exact absurd (R.st.lt ha) (Nat.not_lt.mpr h1)
  · exact (R.st.obj n a b o e1 e2) |> fun x => by
      have k : ∀ o, s.heap.get? a = some o → s'.heap.get? a = some o := fun o ho => E0.keep a o ho (R.neLoc (List.mem_of_getElem? e1))
      cases o with
      | list xs => obtain ⟨vs, j, t, r⟩ := x; exact ⟨vs, j, k _ t, r.grow g (List.prefix_refl _)⟩
      | dict ks xs => obtain ⟨vs, t, l, r⟩ := x; exact ⟨vs, dictOf_at t k, l, r.grow g (List.prefix_refl _)⟩
      | inst _ _ _ => exact x.elim
  · rcases ha with q | q
    · exact R'.xlt a q
    · subst q; exact h2
  · rcases ha with q | q
    · exact R'.xnt a q
    · subst q; exact hno

theorem growNarrow {I : Addr} {h : Heap} : Grow (Bad (Hide X I) α) h (Bad X α) h := fun a o n e => ⟨e, fun q => n (q.elim (fun q => .inl (.inl q)) .inr)⟩

theorem Rel.narrow {I : Addr} (R : Rel C (Hide X I) env ρ α σ s) (fa : ∀ a ∈ FA env, X a) : Rel C X env ρ α σ s :=
  R.move growNarrow (fun _ _ _ e => e) (fun _ _ _ e => e) R.bas (fun a ha q => R.st.out a ha (.inl q)) fa (fun a ha => R.xlt a (.inl ha)) fun a ha => R.xnt a (.inl ha)

theorem Rel.butNarrow {I : Addr} {h' : Heap} {t : Nat} (R : Rel C (Hide X I) env ρ α σ s) (fa : ∀ a ∈ FA env, X a) (hI : I ∉ FA env) (nX : ¬ X I) (hb : C.base.objs.size ≤ I) (he : Heap.ExtBut I s.heap h') (hz : s.heap.objs.size ≤ h'.objs.size) :
    Rel C X env ρ α σ { s with heap := h', toks := t } :=
  R.move (fun a o n e => ⟨he a o (fun q => n (.inl (.inr q))) e, fun q => n (q.elim (fun q => .inl (.inl q)) .inr)⟩) (fun a ha o e => he a o (fun q => hI (q ▸ ha)) e) (fun a ha o e => he a o (fun q => R.st.out a ha (.inr q)) e)
    (fun b o e => he b o (fun q => Nat.not_lt.mpr hb (q ▸ Heap.lt_size e)) (R.bas b o e)) (fun a ha q => R.st.out a ha (.inl q)) fa (fun a ha => Nat.lt_of_lt_of_le (R.xlt a (.inl ha)) hz) fun a ha => by
      obtain ⟨o, ho, hn⟩ := R.xnt a (.inl ha)
      exact ⟨o, he a o (fun q => nX (q ▸ ha)) ho, hn⟩

theorem Ext.but {I : Addr} {h' : Heap} {t : Nat} (x : Ext env α σ s α' σ' s') (h0 : s.heap.objs.size ≤ I) (hl : env.locals ≠ I) (he : Heap.ExtBut I s'.heap h') (hz : s'.heap.objs.size ≤ h'.objs.size) :
    Ext env α σ s α' σ' { s' with heap := h', toks := t } :=
  ⟨fun a o e n l => he a o (fun q => Nat.not_lt.mpr h0 (q ▸ Heap.lt_size e)) (x.keep a o e n l), fun m hm => let ⟨o, es, ep, y, r⟩ := x.ns m hm; ⟨o, es, ep, he _ _ hl y, r⟩, x.new, Nat.le_trans x.size hz, x.gens, x.os, x.lock, x.slen⟩
theorem merged_nodup : ∀ (more acc : List (Key × Value)), ((acc ++ more).map (·.1)).Nodup → merged acc more = acc ++ more
  | [], acc, _ => by rw [List.append_nil]; rfl
  | p :: r, acc, h => by
    have hn : p.1 ∉ acc.map (·.1) := fun q => by
      rw [List.map_append, List.map_cons] at h
      exact (List.nodup_append.mp h).2.2 _ q _ (.head _) rfl
    have hs : stored acc p.1 p.2 = acc ++ [p] := by
      unfold stored
      rw [if_neg]
      intro q
      rw [List.any_eq_true] at q
      obtain ⟨y, hy, e⟩ := q
      exact hn (List.mem_map.mpr ⟨y, hy, of_decide_eq_true e⟩)
    show merged (stored acc p.1 p.2) r = _
    rw [hs, merged_nodup r (acc ++ [p]) (by rw [List.append_assoc]; exact h), List.append_assoc]
    rfl
theorem constKeys_cons {x : Option Expr} {r : List (Option Expr)} {js : List Key} (h : constKeys (x :: r) = some js) : ∃ c k p d key js', x = some (.Constant c k p) ∧ constD c = some d ∧ keyOf (.d d) = some key ∧ constKeys r = some js' ∧ js = key :: js' := by
  cases x with
  | none => cases h
  | some e => cases e with
    | Constant c k p =>
      replace h : ((constD c).bind fun d => (keyOf (.d d)).bind fun k => (constKeys r).map (k :: ·)) = some js := h
      simp only [Option.bind_eq_some_iff, Option.map_eq_some_iff] at h
      obtain ⟨d, h1, key, h2, js', h3, rfl⟩ := h
      exact ⟨c, k, p, d, key, js', rfl, h1, h2, h3, rfl⟩
    | _ => cases h
theorem constKeys_all : ∀ {ks : List (Option Expr)} {js : List Key}, constKeys ks = some js → ks.all (·.isSome) = true ∧ js.length = ks.length
  | [], js, h => by cases h; exact ⟨rfl, rfl⟩
  | x :: r, js, h => by
    obtain ⟨c, k, p, d, key, js', rfl, _, _, h3, rfl⟩ := constKeys_cons h
    have ih := constKeys_all h3
    exact ⟨by rw [List.all_cons, ih.1]; rfl, by rw [List.length_cons, List.length_cons, ih.2]⟩
end
end Mine
end

section
set_option autoImplicit false
namespace Mine
open PySem PyProof.Rows PySem.Calls
open PySem.W (Looks)

def EOk (C : Wo) (G : Genv) (A : Around) (env : Env) (e : Expr) : Prop :=
  ∀ (X : Addr → Prop) (ρ : Loc) (α : List Addr) (σ : St) (o : Bool) (v : V) (σ' : St) (s : Shared) (E : Value → Shared → Prop) (Q : Value → Shared → Prop),
    okE G.const env.scope e = true → evE G ρ o e σ = some (v, σ') → Rel C X env ρ α σ s →
    (∀ α' u s', Rel C X env ρ α' σ' s' → Ext env α σ s α' σ' s' → VRel C X α' s'.heap v u → Q u s') → wpAny C.M A (eval e env) Q E s

def EsOk (C : Wo) (G : Genv) (A : Around) (env : Env) (es : List Expr) : Prop :=
  ∀ (X : Addr → Prop) (ρ : Loc) (α : List Addr) (σ : St) (o : Bool) (vs : List V) (σ' : St) (s : Shared) (E : Value → Shared → Prop) (pos : Pos) (Q : List Value → Shared → Prop),
    okEs G.const env.scope es = true → evEs G ρ o es σ = some (vs, σ') → Rel C X env ρ α σ s →
    (∀ α' us s', Rel C X env ρ α' σ' s' → Ext env α σ s α' σ' s' → VsRel C X α' s'.heap vs us → Q us s') → wpAny C.M A (spliced (backTo pos (starEach es env))) Q E s

section
variable {C : Wo} {G : Genv} {X : Addr → Prop} {env : Env} {ρ : Loc} {α α' α'' : List Addr} {σ σ' σ'' : St} {s s' s'' : Shared} {A : Around} {E : Value → Shared → Prop}

theorem EsOk.nil : EsOk C G A env [] := fun X ρ α σ o vs σ' s E pos Q _ h R hQ => by
  simp only [evEs_nil, Option.some.injEq, Prod.mk.injEq] at h
  obtain ⟨rfl, rfl⟩ := h
  exact spliced_nil (hQ α [] s R .refl (by simp only [VsRel]))

theorem EsOk.cons {e : Expr} {r : List Expr} (he : EOk C G A env e) (hr : EsOk C G A env r) : EsOk C G A env (e :: r) := fun X ρ α σ o vs σ' s E pos Q ok h R hQ => by
  simp only [okEs_cons, Bool.and_eq_true] at ok
  simp only [evEs_cons, Option.bind_eq_some_iff, Option.map_eq_some_iff, Prod.mk.injEq] at h
  obtain ⟨⟨v, σ₁⟩, h1, ⟨ws, σ₂⟩, h2, rfl, rfl⟩ := h
  rw [starEach_cons h1]
  refine spliced_cons (he X ρ α σ o v σ₁ s E _ ok.1 h1 R fun α₁ u s₁ R₁ E₁ V₁ => ?_)
  refine hr X ρ α₁ σ₁ o ws σ₂ s₁ E pos _ ok.2 h2 R₁ fun α₂ us s₂ R₂ E₂ V₂ => ?_
  exact hQ α₂ _ s₂ R₂ (E₁.trans E₂) (by simp only [VsRel]; exact ⟨u, us, rfl, V₁.ext R₁ E₂, V₂⟩)

theorem ok_Constant {c : Const} {k : Nat} {pos : Pos} : EOk C G A env (.Constant c k pos) := fun X ρ α σ o v σ' s E Q _ h R hQ => by
  simp only [evE_Constant, Option.map_eq_some_iff, Prod.mk.injEq] at h
  obtain ⟨d, hd, rfl, rfl⟩ := h
  unfold constD at hd
  split at hd <;> cases hd
  · exact Constant_none (hQ α _ s R .refl (by simp only [VRel, DRel]))
  · exact Constant_bool (hQ α _ s R .refl (by simp only [VRel, DRel]))
  · exact fun _ _ _ => hQ α _ _ (R.ext0 (.toks _)) (Ext0.toks _).ext (by simp only [VRel, DRel]; exact ⟨_, rfl⟩)
  · exact Constant_str (hQ α _ _ (R.ext0 (.toks _)) (Ext0.toks _).ext (by simp only [VRel, DRel]; exact ⟨_, rfl⟩))

theorem Rel.gns (W : Wk C G A) (R : Rel C X env ρ α σ s) : s.heap.Ns env.globals C.mg := by rw [R.fr.glob]; exact W.gns.keeps R.bas
theorem Rel.bns (W : Wk C G A) (R : Rel C X env ρ α σ s) : s.heap.Ns env.builtins C.mb := by rw [R.fr.blt]; exact W.bns.keeps R.bas

theorem gi_kind {x : Str} (h : gi env.scope x = true) : env.kindOf x = some .globalImplicit ∧ (x == ("__debug__" : Str)) = false := by
  simp only [gi, Bool.and_eq_true, Bool.not_eq_true', beq_iff_eq] at h
  exact h

theorem ok_Name (W : Wk C G A) {x : Str} {pos : Pos} : EOk C G A env (.Name x pos) := fun X ρ α σ o v σ' s E Q ok h R hQ => by
  simp only [okE_Name, Bool.and_eq_true, Bool.not_eq_true', Bool.or_eq_true] at ok
  obtain ⟨⟨hd, hc⟩, hk⟩ := ok
  simp only [evE_Name] at h
  split at h
  · rename_i u hu
    simp only [Option.some.injEq, Prod.mk.injEq] at h
    obtain ⟨rfl, rfl⟩ := h
    rcases R.fr.kinds x u hu with k | k | k
    · obtain ⟨m, hm, hl⟩ := R.fr.loc
      obtain ⟨w, hw, rw_⟩ := hl x u hu k
      exact wpAny_Name (wpAny_loadName_local R.fr.kind k hm hw (hQ α w s R .refl rw_)) hd
    · obtain ⟨c, w, hl, hi, rw_⟩ := R.fr.cel x u hu (.inl k)
      exact wpAny_Name (wpAny_loadName_cell R.fr.kind k hl hi (hQ α w s R .refl rw_)) hd
    · obtain ⟨c, w, hl, hi, rw_⟩ := R.fr.cel x u hu (.inr k)
      exact wpAny_Name (wpAny_loadName_free R.fr.kind k hl hi (hQ α w s R .refl rw_) hc) hd
  · simp only [Option.map_eq_some_iff, Prod.mk.injEq] at h
    obtain ⟨d, hd', rfl, rfl⟩ := h
    rcases hk with hk | hk
    · rw [hd'] at hk; cases hk
    · obtain ⟨u, hu, rd_⟩ := W.cst x d hd'
      have g := gi_kind hk
      exact Name_function_global R.fr.kind g.1 (loadGlobal_global (R.gns W) hu (hQ α u s R .refl (by simp only [VRel]; exact rd_ _ _))) hd

theorem ok_BinOp {l r : Expr} {op : Operator} {pos : Pos} (hl : EOk C G A env l) (hr : EOk C G A env r) : EOk C G A env (.BinOp l op r pos) := fun X ρ α σ o v σ' s E Q ok h R hQ => by
  simp only [okE_BinOp, Bool.and_eq_true] at ok
  simp only [evE_BinOp, Option.bind_eq_some_iff, Option.map_eq_some_iff] at h
  obtain ⟨⟨a, σ₁⟩, h1, ⟨b, σ₂⟩, h2, w, h3, h4⟩ := h
  refine wpAny_BinOp (hl X ρ α σ _ a σ₁ s E _ ok.1 h1 R fun α₁ u s₁ R₁ E₁ V₁ => ?_)
  refine hr X ρ α₁ σ₁ _ b σ₂ s₁ E _ ok.2 h2 R₁ fun α₂ u₂ s₂ R₂ E₂ V₂ => ?_
  refine binV_ok R₂ (V₁.ext R₁ E₂) V₂ h3 fun x u₃ s₃ e E₃ F => ?_
  subst e
  obtain ⟨α₃, R₃, V₃, E₃'⟩ := own_ok R₂ E₃ F h4
  exact hQ α₃ u₃ s₃ R₃ ((E₁.trans E₂).trans E₃') V₃

theorem ok_UnaryOp {e : Expr} {op : UnaryOp} {pos : Pos} (he : EOk C G A env e) : EOk C G A env (.UnaryOp op e pos) := fun X ρ α σ o v σ' s E Q ok h R hQ => by
  simp only [okE_UnaryOp] at ok
  simp only [evE_UnaryOp, Option.bind_eq_some_iff] at h
  obtain ⟨⟨a, σ₁⟩, h1, h2⟩ := h
  refine UnaryOp_ (he X ρ α σ _ a σ₁ s E _ ok h1 R fun α₁ u s₁ R₁ E₁ V₁ => ?_)
  dsimp only at h2
  split at h2
  · simp only [Option.map_eq_some_iff, Prod.mk.injEq] at h2
    obtain ⟨b, hb, rfl, rfl⟩ := h2
    exact not_of (truthV_ok hb V₁ (hQ α₁ _ s₁ R₁ E₁ (by simp only [VRel, DRel])))
  · split at h2
    · simp only [Option.some.injEq, Prod.mk.injEq] at h2
      obtain ⟨rfl, rfl⟩ := h2
      simp only [VRel, DRel] at V₁
      obtain ⟨t, rfl⟩ := V₁
      exact neg_int (hQ α₁ _ _ (R₁.ext0 (.toks _)) (E₁.trans (Ext0.toks _).ext) (by simp only [VRel, DRel]; exact ⟨_, rfl⟩))
    · cases h2
  · cases h2

theorem mkTup_ok {vs : List V} {us : List Value} (R : Rel C X env ρ α σ s) (r : VsRel C X α s.heap vs us) :
    VRel C X α (s.heap.push { cls := .type "tuple", data := .seq us.toArray }) (mkTup vs) (.ref s.heap.objs.size) := by
  have E0 : Ext0 env s { s with heap := s.heap.push { cls := .type "tuple", data := .seq us.toArray } } := .push _ s.toks
  have t : IsTup (s.heap.push { cls := .type "tuple", data := .seq us.toArray }) s.heap.objs.size us.toArray := ⟨_, Heap.get?_push_size _ rfl, rfl, 0, rfl⟩
  unfold mkTup
  split
  · rename_i ds hd
    rw [allD_map hd] at r
    simp only [VRel]
    exact new_tup R E0 (Nat.le_refl _) t (VsRel.map.mp r)
  · simp only [VRel]
    exact ⟨_, us, rfl, t, R.newBad (Nat.le_refl _), r.ext R (E0.ext (σ := σ))⟩

theorem ok_Tuple {es : List Expr} {x1} {pos : Pos} (hs : EsOk C G A env es) : EOk C G A env (.Tuple es x1 pos) := fun X ρ α σ o v σ' s E Q ok h R hQ => by
  simp only [okE_Tuple, Bool.and_eq_true, decide_eq_true_eq] at ok
  simp only [evE_Tuple, Option.map_eq_some_iff, Prod.mk.injEq] at h
  obtain ⟨⟨vs, σ₁⟩, h1, rfl, rfl⟩ := h
  refine wpAny_Tuple_spliced (hs X ρ α σ o vs σ₁ s E pos _ ok.1 h1 R fun α₁ us s₁ R₁ E₁ V₁ => ⟨?_, ?_⟩)
  · have := V₁.length
    have := evEs_len h1
    rw [sizeLine_eq]; omega
  · exact hQ α₁ _ _ (R₁.ext0 (.push _ _)) (E₁.trans (Ext0.push _ _).ext) (mkTup_ok R₁ V₁)

theorem DsRel.drop {B : Addr → Prop} {h : Heap} : ∀ {xs : List D} {vs : List Value} (n : Nat), DsRel C B h xs vs → DsRel C B h (xs.drop n) (vs.drop n)
  | _, _, 0, r => by simpa using r
  | [], _, n + 1, r => by simp only [DsRel] at r; subst r; simp [DsRel]
  | x :: xs, _, n + 1, r => by
    simp only [DsRel] at r
    obtain ⟨v, r', rfl, _, b⟩ := r
    simpa using DsRel.drop n b
theorem VsRel.drop {h : Heap} : ∀ {xs : List V} {vs : List Value} (n : Nat), VsRel C X α h xs vs → VsRel C X α h (xs.drop n) (vs.drop n)
  | _, _, 0, r => by simpa using r
  | [], _, n + 1, r => by simp only [VsRel] at r; subst r; simp [VsRel]
  | x :: xs, _, n + 1, r => by
    simp only [VsRel] at r
    obtain ⟨v, r', rfl, _, b⟩ := r
    simpa using VsRel.drop n b

theorem ok_List {es : List Expr} {pos : Pos} (hs : EsOk C G A env es) : EOk C G A env (.List es pos) := fun X ρ α σ o v σ' s E Q ok h R hQ => by
  simp only [okE_List, Bool.and_eq_true, decide_eq_true_eq] at ok
  simp only [evE_List, Option.bind_eq_some_iff] at h
  obtain ⟨⟨vs, σ₁⟩, h1, h2⟩ := h
  dsimp only at h2
  refine wpAny_List_spliced (hs X ρ α σ o vs σ₁ s E pos _ ok.1 h1 R fun α₁ us s₁ R₁ E₁ V₁ => ⟨?_, ?_⟩)
  · have := V₁.length
    have := evEs_len h1
    rw [sizeLine_eq]; omega
  · have E0 : Ext0 env s₁ { s₁ with heap := s₁.heap.push { cls := .type "list", data := .seq us.toArray } } := .push _ s₁.toks
    have t : (s₁.heap.push { cls := .type "list", data := .seq us.toArray }).get? s₁.heap.objs.size = some (lobj us.toArray 0) := Heap.get?_push_size _ rfl
    unfold mkList at h2
    split at h2
    · simp only [Option.some.injEq, Prod.mk.injEq] at h2
      obtain ⟨rfl, rfl⟩ := h2
      have hb : C.base.objs.size ≤ s₁.heap.objs.size := Nat.le_trans (R₁.flow env.locals (.head _)) (Nat.le_of_lt (R₁.xlt _ (R₁.fa env.locals (.head _))))
      have g : Grow (Bad X α₁) s₁.heap (Bad X (α₁ ++ [s₁.heap.objs.size])) (s₁.heap.push { cls := .type "list", data := .seq us.toArray }) := fun b q n e => ⟨E0.keep b q e (fun q' => n (.inl (R₁.fa b (by rw [q']; exact .head _)))), fun q' => (bad_snoc q').elim n fun q'' => by
        subst q''; exact absurd (Heap.lt_size e) (Nat.lt_irrefl _)⟩
      obtain ⟨R', E'⟩ := adoptRel R₁ E0 (o := .list vs) (Nat.le_refl _) hb ⟨us, 0, t, V₁.grow g ⟨_, rfl⟩⟩
      exact hQ _ _ _ R' (E₁.trans E') (by simp only [VRel]; exact ⟨_, by rw [← R₁.st.len]; simp, rfl⟩)
    · simp only [Option.map_eq_some_iff, Prod.mk.injEq] at h2
      obtain ⟨ds, hd, rfl, rfl⟩ := h2
      rw [allD_map hd] at V₁
      have F := fresh_list (k := 0) R₁ E0 (Nat.le_refl _) t (VsRel.map.mp V₁)
      exact hQ α₁ _ _ (R₁.ext0 E0) (E₁.trans E0.ext) (by simp only [VRel]; exact F.rel)

theorem sliceV_ok (R : Rel C X env ρ α σ s) {o v : V} {uo ul : Value} {n : Nat} {k : Int} {t : Tok} {value slice : Expr} {Q : Value → Shared → Prop} {sl : Addr} (ho : VRel C X α s.heap o uo) (hul : ul = .int k t) (hk : natV (.d (.int k)) = some n)
    (h : sliceV σ o n none = some v) (hs : s.heap.IsSliceOf sl ul .none .none)
    (hQ : ∀ x u s', v = .d x → Ext0 env s s' → FreshRel C (Bad X α) s'.heap s.heap.objs.size x u → Q u s') : wpAny C.M A (subscriptTail value slice uo (.ref sl)) Q E s := by
  subst hul
  have hk' : k = (n : Int) := by
    unfold natV at hk
    dsimp only at hk
    split at hk
    · cases hk; omega
    · cases hk
  have ofList : ∀ {a : Addr} {ds : List D} {vs : List Value}, uo = .ref a → s.heap.IsList a vs.toArray → DsRel C (Bad X α) s.heap ds vs → ds.length < 100000 → v = .d (.list (cutL ds n none)) → wpAny C.M A (subscriptTail value slice uo (.ref sl)) Q E s := by
    intro a ds vs e1 tl r hz e2
    subst e1
    have hl := r.length
    refine tail_of tl.typeIs (id := "list.__getitem__") (by rfl) (wpAny_getItem_list_slice tl hs (.int _ _) .none .none (by intro q; cases q) ?_ (by simp only [List.size_toArray]; rw [sizeLine_eq]; omega))
    rw [hk', slicePick_from']
    have E0 : Ext0 env s { s with heap := s.heap.push { cls := .type "list", data := .seq (vs.drop n).toArray } } := .push _ s.toks
    refine hQ _ _ _ e2 E0 (fresh_list (k := 0) R E0 (Nat.le_refl _) (Heap.get?_push_size _ rfl) ?_)
    exact r.drop n
  unfold sliceV at h
  split at h
  · rename_i xs
    split at h
    · rename_i hz
      simp only [VRel, DRel] at ho
      obtain ⟨a, vs, rfl, tl, nb, r⟩ := ho
      cases h
      exact ofList rfl tl r hz rfl
    · cases h
  · rename_i m
    split at h
    · rename_i xs hg
      split at h
      · rename_i hz
        obtain ⟨a, vs, rfl, hn, ⟨j, tl⟩, r⟩ := R.objList ho hg
        simp only [Option.map_eq_some_iff] at h
        obtain ⟨ds, hd, rfl⟩ := h
        have hd' := allD_map hd
        simp only [cutL] at hd'
        have hl := r.length
        refine tail_of (lobj_isList tl).typeIs (id := "list.__getitem__") (by rfl) (wpAny_getItem_list_slice (lobj_isList tl) hs (.int _ _) .none .none (by intro q; cases q) ?_ (by simp only [List.size_toArray]; rw [sizeLine_eq]; omega))
        rw [hk', slicePick_from']
        have E0 : Ext0 env s { s with heap := s.heap.push { cls := .type "list", data := .seq (vs.drop n).toArray } } := .push _ s.toks
        refine hQ _ _ _ rfl E0 (fresh_list (k := 0) R E0 (Nat.le_refl _) (Heap.get?_push_size _ rfl) ?_)
        have r' := r.drop n
        rw [hd'] at r'
        exact VsRel.map.mp r'
      · cases h
    · cases h
  · cases h

theorem natV_int {v : V} {n : Nat} (h : natV v = some n) : ∃ k, v = .d (.int k) := by
  cases v with
  | d x => cases x <;> first | exact ⟨_, rfl⟩ | simp [natV] at h
  | obj _ => simp [natV] at h
  | tup _ => simp [natV] at h

theorem ok_Subscript {e i : Expr} {pos : Pos} (he : EOk C G A env e) (hi : EOk C G A env i) (hlo : ∀ lo hi st p, i = .Slice (some lo) hi st p → EOk C G A env lo) : EOk C G A env (.Subscript e i pos) := fun X ρ α σ o v σ' s E Q ok h R hQ => by
  cases hs : isSlice i with
  | false =>
    rw [okE_Item hs, Bool.and_eq_true] at ok
    rw [evE_Item hs] at h
    simp only [Option.bind_eq_some_iff, Option.map_eq_some_iff, Prod.mk.injEq] at h
    obtain ⟨⟨ov, σ₁⟩, h1, ⟨iv, σ₂⟩, h3, w, h4, rfl, rfl⟩ := h
    refine Subscript_ (he X ρ α σ _ ov σ₁ s E _ ok.1 h1 R fun α₁ u s₁ R₁ E₁ V₁ => ?_)
    refine hi X ρ α₁ σ₁ _ iv σ₂ s₁ E _ ok.2 h3 R₁ fun α₂ ui s₂ R₂ E₂ V₂ => ?_
    exact getItemV_ok R₂ (V₁.ext R₁ E₂) V₂ h4 fun u₃ t hv => hQ α₂ u₃ _ (R₂.ext0 (.toks t)) ((E₁.trans E₂).trans (Ext0.toks t).ext) hv
  | true =>
    obtain ⟨lo, hi', st, p, rfl⟩ := isSlice_ex hs
    rw [okE_Slice, Bool.and_eq_true] at ok
    obtain ⟨ok1, ok2⟩ := ok
    cases st with
    | some _ => cases lo <;> cases hi' <;> cases ok2
    | none => cases hi' with
      | some _ => cases lo <;> cases ok2
      | none => cases lo with
        | none => cases ok2
        | some lo' =>
          dsimp only at ok2
          rw [evE_Slice] at h
          simp only [Option.bind_eq_some_iff, Option.map_eq_some_iff] at h
          obtain ⟨⟨ov, σ₁⟩, h1, ⟨lv, σ₂⟩, h3, n, h4, w, h5, h6⟩ := h
          refine Subscript_ (he X ρ α σ _ ov σ₁ s E _ ok1 h1 R fun α₁ u s₁ R₁ E₁ V₁ => ?_)
          refine wpAny_Slice ?_
          rw [evalPart_some]
          refine hlo _ _ _ _ rfl X ρ α₁ σ₁ _ lv σ₂ s₁ E _ ok2 h3 R₁ fun α₂ ul s₂ R₂ E₂ V₂ => ?_
          refine wpAny_pure (wpAny_pure ?_)
          have hlv := natV_int h4
          obtain ⟨k, rfl⟩ := hlv
          simp only [VRel, DRel] at V₂
          obtain ⟨t, rfl⟩ := V₂
          have E0 : Ext0 env s₂ { s₂ with heap := s₂.heap.push { cls := .type "slice", data := .fields #[.int k t, .none, .none] } } := .push _ s₂.toks
          have R₃ := R₂.ext0 E0
          refine sliceV_ok R₃ ((V₁.ext R₁ E₂).ext R₂ E0.ext) rfl h4 h5 (Heap.IsSliceOf.new _ _ _ _) fun x u₄ s₄ e E₄ F => ?_
          subst e
          obtain ⟨α₅, R₅, V₅, E₅⟩ := own_ok R₃ E₄ F h6
          exact hQ α₅ u₄ s₄ R₅ (((E₁.trans E₂).trans E0.ext).trans E₅) V₅

/-- keys and values of a dict display -/
theorem pairs_ok {pos : Pos} {X : Addr → Prop} {ρ : Loc} : ∀ {keys : List (Option Expr)} {values : List Expr} {js : List Key} {vs : List V} {α : List Addr} {σ σ' : St} {s : Shared} {Q : List (Value × Value) → Shared → Prop},
    constKeys keys = some js → keys.length = values.length → (∀ e ∈ values, EOk C G A env e) → okEs G.const env.scope values = true → evEs G ρ false values σ = some (vs, σ') → Rel C X env ρ α σ s →
    (∀ α' us kvs s', Rel C X env ρ α' σ' s' → Ext env α σ s α' σ' s' → VsRel C X α' s'.heap vs us → Carries C.kk kvs (js.zip us) → Q kvs s') → wpAny C.M A (evalPairs (pairTrees keys values env pos)) Q E s
  | [], [], js, vs, α, σ, σ', s, Q, h, _, _, _, ev, R, hQ => by
    cases h
    rw [evEs_nil] at ev
    simp only [Option.some.injEq, Prod.mk.injEq] at ev
    obtain ⟨rfl, rfl⟩ := ev
    exact wpAny_pure (hQ α [] [] s R .refl (by simp only [VsRel]) trivial)
  | [], _ :: _, js, vs, α, σ, σ', s, Q, _, hl, _, _, _, _, _ => nomatch hl
  | _ :: _, [], js, vs, α, σ, σ', s, Q, _, hl, _, _, _, _, _ => nomatch hl
  | x :: ks, e :: es, js, vs, α, σ, σ', s, Q, h, hl, he, ok, ev, R, hQ => by
    obtain ⟨c, k, p, d, key, js', rfl, h1, h2, h3, rfl⟩ := constKeys_cons h
    rw [okEs_cons, Bool.and_eq_true] at ok
    simp only [evEs_cons, Option.bind_eq_some_iff, Option.map_eq_some_iff, Prod.mk.injEq] at ev
    obtain ⟨⟨v, σ₁⟩, e1, ⟨ws, σ₂⟩, e2, rfl, rfl⟩ := ev
    refine wpAny_bind (ok_Constant (G := G) (k := k) X ρ α σ false (.d d) σ s E _ rfl (by rw [evE_Constant, h1]; rfl) R fun α₀ uk s₀ R₀ E₀ V₀ => ?_)
    refine wpAny_bind (wpAny_holding (wpAny_bind (he e (.head _) X ρ α₀ σ _ v σ₁ s₀ E _ ok.1 e1 R₀ fun α₁ u s₁ R₁ E₁ V₁ => ?_)))
    refine wpAny_bind (wpAny_standAt (wpAny_pure ?_))
    refine wpAny_bind (wpAny_holding ?_)
    refine pairs_ok h3 (Nat.succ.inj hl) (fun e' h' => he e' (.tail _ h')) ok.2 e2 R₁ fun α₂ us kvs s₂ R₂ E₂ V₂ hc => ?_
    exact wpAny_pure (hQ α₂ (u :: us) _ s₂ R₂ ((E₀.trans E₁).trans E₂) (by simp only [VsRel]; exact ⟨u, us, rfl, V₁.ext R₁ E₂, V₂⟩) ⟨keyOf_is h2 V₀, rfl, hc⟩)

theorem ok_Dict {ks : List (Option Expr)} {vs : List Expr} {pos : Pos} (he : ∀ e ∈ vs, EOk C G A env e) : EOk C G A env (.Dict ks vs pos) := fun X ρ α σ o v σ' s E Q ok h R hQ => by
  have E0 : Ext0 env s { s with heap := s.heap.push { cls := .type "dict", data := .dict #[] } } := .push _ s.toks
  cases ks with
  | nil => cases vs with
    | cons _ _ => rw [evE_Dict0'] at h; cases h
    | nil =>
      rw [evE_Dict0, Option.some.injEq] at h
      refine wpAny_Dict_empty ?_
      obtain ⟨α₃, R₃, V₃, E₃⟩ := own_ok R E0 (fresh_dict (ks := []) (xs := []) (vs := []) R E0 (Nat.le_refl _) (Heap.DictOf.new _) rfl (by simp only [DsRel])) h
      exact hQ α₃ _ _ R₃ E₃ V₃
  | cons k ks =>
    rw [okE_Dict] at ok
    cases o with
    | true => rw [evE_Dict, if_pos rfl] at h; cases h
    | false =>
      rw [evE_Dict] at h
      simp only [Bool.false_eq_true, if_false, Option.bind_eq_some_iff] at h
      obtain ⟨js, h1, ⟨ws, σ₁⟩, h2, h3⟩ := h
      dsimp only at h3
      unfold mkDict at h3
      split at h3
      · rename_i hk
        simp only [Option.map_eq_some_iff, Prod.mk.injEq] at h3
        obtain ⟨ds, hd, rfl, rfl⟩ := h3
        have hall := constKeys_all h1
        have hlen : (k :: ks).length = vs.length := by rw [← hall.2, hk.1]; exact evEs_len h2
        have hz : s.heap.objs.size < (s.heap.push { cls := .type "dict", data := .dict #[] }).objs.size := by rw [Heap.size_push]; exact Nat.lt_succ_self _
        have hI : s.heap.objs.size ∉ FA env := fun q => Nat.lt_irrefl _ (R.xlt _ (R.fa _ q))
        have hbs : C.base.objs.size ≤ s.heap.objs.size := Nat.le_trans (R.flow env.locals (.head _)) (Nat.le_of_lt (R.xlt _ (R.fa env.locals (.head _))))
        have R₁ := R.widen E0 (I := s.heap.objs.size) (Nat.le_refl _) hz ⟨_, Heap.get?_push_size _ rfl, fun _ _ q => nomatch q.2⟩
        have hn := pairTrees_length (k :: ks) vs env pos hall.1 hlen
        refine wpAny_Dict_pairs (knd := C.kk) (zip_pairTrees (k :: ks) vs env pos hall.1 hlen) (fun q => by rw [q] at hn; cases hn) (by rw [hn, ← hall.2]; exact hk.2.1) ?_
        refine pairs_ok h1 hlen he ok h2 R₁ fun α₂ us kvs s₂ R₂ E₂ V₂ hc => ?_
        have hnl : s.heap.objs.size ≠ env.locals := fun q => hI (by rw [q]; exact .head _)
        have hna : s.heap.objs.size ∉ α := fun q => Nat.lt_irrefl _ (R.st.lt q)
        refine ⟨js.zip us, hc, dictOf_at (Heap.DictOf.new s.heap) fun o ho => E₂.keep _ o ho hnl fun n hn => absurd (List.mem_of_getElem? hn) hna, fun h' hd' hs' => ?_⟩
        have hul : js.length = us.length := by rw [hk.1]; exact V₂.length
        have hnd : ((js.zip us).map (·.1)).Nodup := by rw [List.map_fst_zip (Nat.le_of_eq hul)]; exact hk.2.2
        rw [merged_nodup (js.zip us) [] hnd, List.nil_append] at hd'
        have hsz : s₂.heap.objs.size ≤ h'.objs.size := Nat.le_of_eq hs'.1.symm
        have nb : ¬ Bad X α₂ s.heap.objs.size := fun q => q.elim (fun q => Nat.lt_irrefl _ (R.xlt _ q)) fun q => R₂.st.out _ q (.inr rfl)
        refine hQ α₂ _ _ (R₂.butNarrow R.fa hI (fun q => Nat.lt_irrefl _ (R.xlt _ q)) hbs hs'.extBut hsz) ((E0.ext.trans E₂).but (Nat.le_refl _) (Ne.symm hnl) hs'.extBut hsz) ?_
        rw [allD_map hd] at V₂
        simp only [VRel, DRel]
        refine ⟨_, us, rfl, hd', hul, hbs, nb, (VsRel.map.mp V₂).grow fun b o n e => ⟨hs'.extBut b o (fun q => n (.inl (.inr q))) e, fun q => n (q.elim (fun q => .inl (.inl q)) .inr)⟩⟩
      · cases h3

def BOk (C : Wo) (G : Genv) (A : Around) (env : Env) (es : List Expr) : Prop :=
  ∀ (X : Addr → Prop) (ρ : Loc) (α : List Addr) (σ : St) (op : BoolOp) (v : V) (σ' : St) (s : Shared) (E : Value → Shared → Prop) (pos : Pos) (Q : Value → Shared → Prop),
    okEs G.const env.scope es = true → evB G ρ op es σ = some (v, σ') → Rel C X env ρ α σ s →
    (∀ α' u s', Rel C X env ρ α' σ' s' → Ext env α σ s α' σ' s' → VRel C X α' s'.heap v u → Q u s') → wpAny C.M A (eval (.BoolOp op es pos) env) Q E s

theorem BOk.nil : BOk C G A env [] := fun X ρ α σ op v σ' s E pos Q _ h _ _ => by simp only [evB_nil] at h; cases h

theorem BOk.cons {e : Expr} {r : List Expr} (he : EOk C G A env e) (hr : BOk C G A env r) : BOk C G A env (e :: r) := fun X ρ α σ op v σ' s E pos Q ok h R hQ => by
  simp only [okEs_cons, Bool.and_eq_true] at ok
  cases r with
  | nil =>
    simp only [evB_one, Option.bind_eq_some_iff] at h
    obtain ⟨⟨w, σ₁⟩, h1, h2⟩ := h
    cases h2
    exact BoolOp_one (he X ρ α σ _ _ _ s E _ ok.1 h1 R hQ)
  | cons e₂ r =>
    simp only [evB_more, Option.bind_eq_some_iff] at h
    obtain ⟨⟨w, σ₁⟩, h1, b, h2, h3⟩ := h
    cases op with
    | And =>
      refine BoolOp_and (he X ρ α σ _ w σ₁ s E _ ok.1 h1 R fun α₁ u s₁ R₁ E₁ V₁ => truthV_ok h2 V₁ ?_)
      cases b with
      | false => cases h3; exact hQ α₁ u s₁ R₁ E₁ V₁
      | true => exact hr X ρ α₁ σ₁ .And v σ' s₁ E pos _ ok.2 h3 R₁ fun α₂ u₂ s₂ R₂ E₂ V₂ => hQ α₂ u₂ s₂ R₂ (E₁.trans E₂) V₂
    | Or =>
      refine BoolOp_or (he X ρ α σ _ w σ₁ s E _ ok.1 h1 R fun α₁ u s₁ R₁ E₁ V₁ => truthV_ok h2 V₁ ?_)
      cases b with
      | true => cases h3; exact hQ α₁ u s₁ R₁ E₁ V₁
      | false => exact hr X ρ α₁ σ₁ .Or v σ' s₁ E pos _ ok.2 h3 R₁ fun α₂ u₂ s₂ R₂ E₂ V₂ => hQ α₂ u₂ s₂ R₂ (E₁.trans E₂) V₂

theorem ok_BoolOp {op : BoolOp} {es : List Expr} {pos : Pos} (hs : BOk C G A env es) : EOk C G A env (.BoolOp op es pos) := fun X ρ α σ o v σ' s E Q ok h R hQ => by
  simp only [okE_BoolOp] at ok
  simp only [evE_BoolOp] at h
  exact hs X ρ α σ op v σ' s E pos Q ok h R hQ

/-- a chain of comparisons, once as a value and once as a test -/
def COk (C : Wo) (G : Genv) (A : Around) (env : Env) (es : List Expr) : Prop :=
  ∀ (X : Addr → Prop) (ρ : Loc) (α : List Addr) (σ : St) (a : V) (ua : Value) (ops : List CmpOp) (b : Bool) (σ' : St) (s : Shared) (E : Value → Shared → Prop) (pos : Pos),
    okEs G.const env.scope es = true → evC G ρ a ops es σ = some (b, σ') → Rel C X env ρ α σ s → VRel C X α s.heap a ua →
    (∀ Q : Value → Shared → Prop, (∀ α' s', Rel C X env ρ α' σ' s' → Ext env α σ s α' σ' s' → Q (.bool b) s') → wpAny C.M A (compareChain pos ua ops (evalEach es env)) Q E s) ∧
    (∀ Q : Bool → Shared → Prop, (∀ α' s', Rel C X env ρ α' σ' s' → Ext env α σ s α' σ' s' → Q b s') → wpAny C.M A (testChain pos ua ops (evalEach es env)) Q E s)

theorem COk.nil : COk C G A env [] := fun X ρ α σ a ua ops b σ' s E pos _ h _ _ => by rw [evC_nil] at h; cases h

theorem COk.cons (W : Wk C G A) {e : Expr} {r : List Expr} (he : EOk C G A env e) (hr : COk C G A env r) : COk C G A env (e :: r) := fun X ρ α σ a ua ops b σ' s E pos ok h R hua => by
  simp only [okEs_cons, Bool.and_eq_true] at ok
  cases ops with
  | nil => rw [evC_nil'] at h; cases h
  | cons op ops =>
    simp only [evC_cons, Option.bind_eq_some_iff] at h
    obtain ⟨⟨w, σ₁⟩, h1, c, h2, h3⟩ := h
    dsimp only at h2 h3
    cases ops with
    | nil =>
      cases r with
      | cons _ _ => cases h3
      | nil =>
        cases h3
        refine ⟨fun Q hQ => chain_last ?_, fun Q hQ => test_last ?_⟩
        · refine he X ρ α σ _ w _ s E _ ok.1 h1 R fun α₁ u s₁ R₁ E₁ V₁ => ?_
          exact cmpV_ok W.h2 W.hu R₁ (hua.ext R E₁) V₁ h2 fun t => hQ α₁ _ (R₁.ext0 (.toks t)) (E₁.trans (Ext0.toks t).ext)
        · refine he X ρ α σ _ w _ s E _ ok.1 h1 R fun α₁ u s₁ R₁ E₁ V₁ => ?_
          exact cmpV_ok W.h2 W.hu R₁ (hua.ext R E₁) V₁ h2 fun t => wpAny_truthy_bool (hQ α₁ _ (R₁.ext0 (.toks t)) (E₁.trans (Ext0.toks t).ext))
    | cons op' ops =>
      cases r with
      | nil =>
        cases h3
      | cons e' r =>
        dsimp only at h3
        refine ⟨fun Q hQ => chain_link ?_, fun Q hQ => test_link ?_⟩
        · refine he X ρ α σ _ w _ s E _ ok.1 h1 R fun α₁ u s₁ R₁ E₁ V₁ => ?_
          refine cmpV_ok W.h2 W.hu R₁ (hua.ext R E₁) V₁ h2 fun t => wpAny_truthy_bool ?_
          have R₂ := R₁.ext0 (.toks t)
          have E₂ : Ext env α σ s α₁ σ₁ { s₁ with toks := t } := E₁.trans (Ext0.toks t).ext
          cases c with
          | false => simp at h3; obtain ⟨rfl, rfl⟩ := h3; exact hQ α₁ _ R₂ E₂
          | true => exact (hr X ρ α₁ σ₁ w u _ b σ' _ E pos ok.2 h3 R₂ (V₁.ext R₁ (Ext0.toks t).ext)).1 Q fun α₃ s₃ R₃ E₃ => hQ α₃ s₃ R₃ (E₂.trans E₃)
        · refine he X ρ α σ _ w _ s E _ ok.1 h1 R fun α₁ u s₁ R₁ E₁ V₁ => ?_
          refine cmpV_ok W.h2 W.hu R₁ (hua.ext R E₁) V₁ h2 fun t => wpAny_truthy_bool ?_
          have R₂ := R₁.ext0 (.toks t)
          have E₂ : Ext env α σ s α₁ σ₁ { s₁ with toks := t } := E₁.trans (Ext0.toks t).ext
          cases c with
          | false => simp at h3; obtain ⟨rfl, rfl⟩ := h3; exact hQ α₁ _ R₂ E₂
          | true => exact (hr X ρ α₁ σ₁ w u _ b σ' _ E pos ok.2 h3 R₂ (V₁.ext R₁ (Ext0.toks t).ext)).2 Q fun α₃ s₃ R₃ E₃ => hQ α₃ s₃ R₃ (E₂.trans E₃)

end
end Mine
end

section
set_option autoImplicit false
namespace Mine
open PySem PyProof.Rows PySem.Calls
open PySem.W (Looks)

section
variable {C : Wo} {G : Genv} {X : Addr → Prop} {env : Env} {ρ : Loc} {α α' α'' : List Addr} {σ σ' σ'' : St} {s s' s'' : Shared} {A : Around} {E : Value → Shared → Prop}

theorem attributeBase_plain {o : Expr} {name : Str} {w : Sem Value} (h : notBare o = true) : attributeBase o name env w = w := by
  cases o with
  | Call f as ks p => cases f with
    | Name n q => cases as with
      | cons _ _ => rfl
      | nil => cases ks with
        | cons _ _ => rfl
        | nil => exact absurd h Bool.false_ne_true
    | _ => rfl
  | _ => rfl

theorem isi_ok (W : Wk C G A) (R : Rel C X env ρ α σ s) {t : Str} {v : V} {u : Value} {b : Bool} (ht : typeNames.contains t = true) (h : isiV σ t v = some b) (r : VRel C X α s.heap v u) :
    ∃ T, C.mg t = none ∧ C.mb t = some (.type T) ∧ ∀ (s' : Shared) (Q : Value → Shared → Prop), s' = s → (∀ t, Q (.bool b) { s with toks := t }) → wpAny C.M A (call (.builtin "isinstance") [u, .type T]) Q E s' := by
  simp only [typeNames, List.contains_eq_mem, List.mem_cons, List.not_mem_nil, or_false, decide_eq_true_eq] at ht
  rcases ht with rfl | rfl | rfl | rfl | rfl | rfl
  · obtain ⟨a, b⟩ := W.tys "int" (by simp [typeStrs]); exact ⟨_, a, b, fun s' Q e q => by subst e; exact isi_int R h r q⟩
  · obtain ⟨a, b⟩ := W.tys "bool" (by simp [typeStrs]); exact ⟨_, a, b, fun s' Q e q => by subst e; exact isi_bool R h r q⟩
  · obtain ⟨a, b⟩ := W.tys "str" (by simp [typeStrs]); exact ⟨_, a, b, fun s' Q e q => by subst e; exact isi_str R h r q⟩
  · obtain ⟨a, b⟩ := W.tys "tuple" (by simp [typeStrs]); exact ⟨_, a, b, fun s' Q e q => by subst e; exact isi_tuple R h r q⟩
  · obtain ⟨a, b⟩ := W.tys "list" (by simp [typeStrs]); exact ⟨_, a, b, fun s' Q e q => by subst e; exact isi_list R h r q⟩
  · obtain ⟨a, b⟩ := W.tys "dict" (by simp [typeStrs]); exact ⟨_, a, b, fun s' Q e q => by subst e; exact isi_dict R h r q⟩

theorem keeper_bf (M : Model) (h : Heap) (b : Bf) : Looks M h (keeperOf (bfVal b)) .machine := by
  cases b <;> first | exact keeper_builtin _ _ _ | exact keeper_type _ _ _

theorem ok_CallName (W : Wk C G A) {f : Str} {p pos : Pos} {args : List Expr} {ks : List Keyword} (hs : EsOk C G A env args) (hx : ∀ x t, args = [x, t] → EOk C G A env x) : EOk C G A env (.Call (.Name f p) args ks pos) := fun X ρ α σ o v σ' s E Q ok h R hQ => by
  cases ks with
  | cons _ _ => rw [okE_CallK, Bool.and_false] at ok; cases ok
  | nil =>
    rw [okE_CallN] at ok
    simp only [Bool.and_eq_true] at ok
    obtain ⟨ok1, hg, ok3⟩ := ok
    have g := gi_kind hg
    show wpAny C.M A (do callWith pos (← eval (.Name f p) env) [] (backTo pos (starEach args env)) []) Q E s
    refine wpAny_bind ?_
    by_cases hf : f = "isinstance"
    · subst hf
      rw [if_pos rfl] at ok3
      rw [evE_Isi] at h
      split at h
      · rename_i x t
        simp only [Option.bind_eq_some_iff] at h
        obtain ⟨⟨w, σ₁⟩, h1, tn, h2, h3⟩ := h
        dsimp only at h3
        split at h3
        · rename_i htn
          simp only [Option.map_eq_some_iff, Prod.mk.injEq] at h3
          obtain ⟨b, hb, rfl, rfl⟩ := h3
          cases t with
          | Name tn' tp =>
            cases h2
            have gt := gi_kind (show gi env.scope tn = true from ok3)
            simp only [okEs_cons, Bool.and_eq_true] at ok1
            refine Name_function_global R.fr.kind g.1 (loadGlobal_builtin (R.gns W) W.isi.1 (R.bns W) W.isi.2 ?_) g.2
            refine PySem.W.callWith_of (P := fun _ => True) (by rw [starEach_cons h1]; rfl) (fun h _ => ⟨_, .inr (.inl rfl), keeper_builtin _ _ _⟩) ?_
            rw [starEach_cons h1]
            refine evalArgs_plain (spliced_cons (hx x _ rfl X ρ α σ _ w σ₁ s E _ ok1.1 h1 R fun α₁ u s₁ R₁ E₁ V₁ => ?_))
            obtain ⟨T, e1, e2, k⟩ := isi_ok (E := E) W R₁ htn hb V₁
            refine spliced_cons (Name_function_global R₁.fr.kind gt.1 (loadGlobal_builtin (R₁.gns W) e1 (R₁.bns W) e2 ?_) gt.2)
            refine spliced_nil ⟨trivial, ?_⟩
            exact k s₁ Q rfl fun t => hQ α₁ _ _ (R₁.ext0 (.toks t)) (E₁.trans (Ext0.toks t).ext) (by simp only [VRel, DRel])
          | _ => cases h2
        · cases h3
      · cases h
    · rw [evE_CallN hf] at h
      split at h
      · rename_i b hb
        simp only [Option.bind_eq_some_iff, Option.map_eq_some_iff] at h
        obtain ⟨⟨vs, σ₁⟩, h1, w, h2, h3⟩ := h
        have hbf := W.bf f b hb
        refine Name_function_global R.fr.kind g.1 (loadGlobal_builtin (R.gns W) hbf.1 (R.bns W) hbf.2 ?_) g.2
        refine call_with (P := fun _ => True) h1 (fun h _ => ⟨_, .inr (.inl rfl), keeper_bf _ _ _⟩) ?_
        refine hs X ρ α σ _ vs σ₁ s E pos _ ok1 h1 R fun α₁ us s₁ R₁ E₁ V₁ => ⟨trivial, ?_⟩
        rw [List.nil_append]
        refine bfV_ok W.h2 W.hh R₁ V₁ h2 fun x u s₂ e E₂ F => ?_
        subst e
        obtain ⟨α₃, R₃, V₃, E₃⟩ := own_ok R₁ E₂ F h3
        exact hQ α₃ u s₂ R₃ (E₁.trans E₃) V₃
      · split at h
        · rename_i hfn
          simp only [Option.bind_eq_some_iff, Option.map_eq_some_iff] at h
          obtain ⟨⟨vs, σ₁⟩, h1, ⟨w, σ₂⟩, h2, h3⟩ := h
          obtain ⟨a, ob, fd, e1, e2, e3, hc⟩ := W.fns f hfn
          refine Name_function_global R.fr.kind g.1 (loadGlobal_global (R.gns W) e1 ?_) g.2
          refine call_with (P := fun h => h.get? a = some ob) h1 (fun h hh => ⟨_, .inl rfl, keeper_fn hh e3⟩) ?_
          refine hs X ρ α σ _ vs σ₁ s E pos _ ok1 h1 R fun α₁ us s₁ R₁ E₁ V₁ => ⟨R₁.bas _ _ e2, ?_⟩
          rw [List.nil_append]
          refine hc X env ρ α₁ σ₁ s₁ E Q vs us w σ₂ R₁ V₁ h2 fun x u s₂ e e' E₂ F D₂ => ?_
          subst e e'
          dsimp only at h3
          cases hfr : G.fresh f with
          | true =>
            obtain ⟨α₃, R₃, V₃, E₃⟩ := own_ok R₁ E₂ (F hfr) h3
            exact hQ α₃ u s₂ R₃ (E₁.trans E₃) V₃
          | false =>
            rw [hfr, Bool.and_false] at h3
            simp only [own, Bool.false_eq_true, if_false, Prod.mk.injEq] at h3
            obtain ⟨rfl, rfl⟩ := h3
            exact hQ α₁ u s₂ (R₁.ext0 E₂) (E₁.trans E₂.ext) (by simp only [VRel]; exact D₂)
        · rw [W.cls f] at h
          simp at h

theorem ok_CallMeth {e : Expr} {m : Str} {apos pos : Pos} {args : List Expr} {ks : List Keyword} (he : EOk C G A env e) (hs : EsOk C G A env args) : EOk C G A env (.Call (.Attribute e m apos) args ks pos) := fun X ρ α σ o v σ' s E Q ok h R hQ => by
  cases ks with
  | cons _ _ => rw [okE_CallK, Bool.and_false] at ok; cases ok
  | nil =>
    rw [okE_CallM] at ok
    simp only [Bool.and_eq_true, decide_eq_true_eq] at ok
    obtain ⟨ok1, ⟨⟨oke, hb⟩, hl⟩, hn⟩ := ok
    rw [evE_CallM] at h
    simp only [Option.bind_eq_some_iff] at h
    obtain ⟨⟨ov, σ₁⟩, h1, h2⟩ := h
    dsimp only at h2
    have key : ∀ α₁ u s₁, Rel C X env ρ α₁ σ₁ s₁ → VRel C X α₁ s₁.heap ov u → clsOf σ₁ ov = none := fun α₁ u s₁ R₁ V₁ => by
      unfold clsOf
      split
      · rename_i n
        split
        · rename_i c ks vs hg
          simp only [VRel] at V₁
          obtain ⟨a, e, rfl⟩ := V₁
          simp only [oget, Option.map_eq_some_iff] at hg
          obtain ⟨⟨b, q⟩, hq, rfl⟩ := hg
          exact (R₁.st.obj n a b _ e hq).elim
        · rfl
      · rfl
    cases hc : clsOf σ₁ ov with
    | some c =>
      rw [hc] at h2
      simp only [Option.bind_eq_some_iff] at h2
      obtain ⟨⟨vs, σ₂⟩, h4, _⟩ := h2
      refine wpAny_Call_method_late (attributeBase_plain hb) ?_ hl rfl ?_
      · have := evEs_plain (env := env) (pos := pos) h4
        have e : (backTo pos (starEach args env)).all (fun x => !x.1) = true := by
          rw [List.all_eq_not_any_not]; simpa using this
        rw [e]
        rw [show keywordEach [] env = [] from rfl]; simp [backToKw]; omega
      · refine he X ρ α σ _ ov σ₁ s E _ oke h1 R fun α₁ u s₁ R₁ E₁ V₁ => ?_
        rw [key α₁ u s₁ R₁ V₁] at hc
        cases hc
    | none =>
      rw [hc] at h2
      simp only [Option.bind_eq_some_iff] at h2
      obtain ⟨k, h3, ⟨vs, σ₂⟩, h4, h5⟩ := h2
      refine wpAny_Call_method_late (attributeBase_plain hb) ?_ hl rfl ?_
      · have := evEs_plain (env := env) (pos := pos) h4
        have e : (backTo pos (starEach args env)).all (fun x => !x.1) = true := by
          rw [List.all_eq_not_any_not]; simpa using this
        rw [e]
        rw [show keywordEach [] env = [] from rfl]; simp [backToKw]; omega
      · refine he X ρ α σ _ ov σ₁ s E _ oke h1 R fun α₁ u s₁ R₁ E₁ V₁ => ?_
        refine mkOf_ok R₁ h3 V₁ ?_
        refine call_with (P := fun _ => True) h4 (fun h _ => ⟨_, .inr (.inl rfl), keeper_builtin _ _ _⟩) ?_
        refine hs X ρ α₁ σ₁ _ vs σ₂ s₁ E pos _ ok1 h4 R₁ fun α₂ us s₂ R₂ E₂ V₂ => ⟨trivial, ?_⟩
        exact methV_ok R₂ (V₁.ext R₁ E₂) V₂ h5 fun u₃ s₃ R₃ E₃ V₃ => hQ α₂ u₃ s₃ R₃ ((E₁.trans E₂).trans E₃) V₃

def TOk (C : Wo) (G : Genv) (A : Around) (env : Env) (e : Expr) : Prop :=
  ∀ (X : Addr → Prop) (ρ : Loc) (α : List Addr) (σ : St) (o : Bool) (v : V) (b : Bool) (σ' : St) (s : Shared) (E : Value → Shared → Prop) (Q : Bool → Shared → Prop),
    okE G.const env.scope e = true → evE G ρ o e σ = some (v, σ') → truthV σ' v = some b → Rel C X env ρ α σ s →
    (∀ α' s', Rel C X env ρ α' σ' s' → Ext env α σ s α' σ' s' → Q b s') → wpAny C.M A (isTrue e env (eval e env)) Q E s

theorem TOk.plain {e : Expr} (he : EOk C G A env e) (hp : ∀ whole, isTrue e env whole = (do let v ← whole; standAt e.pos; holding [v] (truthy v))) : TOk C G A env e := fun X ρ α σ o v b σ' s E Q ok h hb R hQ =>
  isTrue_plain (he X ρ α σ o v σ' s E _ ok h R fun α₁ u s₁ R₁ E₁ V₁ => truthV_ok hb V₁ (hQ α₁ s₁ R₁ E₁)) (hp _)

theorem TOk.not {e : Expr} {op : UnaryOp} {pos : Pos} (he : EOk C G A env e) (ht : TOk C G A env e) : TOk C G A env (.UnaryOp op e pos) := by
  cases op with
  | Not =>
    intro X ρ α σ o v b σ' s E Q ok h hb R hQ
    rw [okE_UnaryOp] at ok
    simp only [evE_UnaryOp, Option.bind_eq_some_iff, Option.map_eq_some_iff, Prod.mk.injEq] at h
    obtain ⟨⟨a, σ₁⟩, h1, c, hc, rfl, rfl⟩ := h
    simp only [truthV, Option.some.injEq] at hb
    subst hb
    exact isTrue_not (ht X ρ α σ _ a c σ₁ s E _ ok h1 hc R hQ)
  | _ => exact TOk.plain (ok_UnaryOp he) fun _ => rfl

def TBOk (C : Wo) (G : Genv) (A : Around) (env : Env) (es : List Expr) : Prop :=
  ∀ (X : Addr → Prop) (ρ : Loc) (α : List Addr) (σ : St) (op : BoolOp) (v : V) (b : Bool) (σ' : St) (s : Shared) (E : Value → Shared → Prop) (pos : Pos) (whole : Sem Value) (Q : Bool → Shared → Prop),
    okEs G.const env.scope es = true → evB G ρ op es σ = some (v, σ') → truthV σ' v = some b → Rel C X env ρ α σ s →
    (∀ α' s', Rel C X env ρ α' σ' s' → Ext env α σ s α' σ' s' → Q b s') → wpAny C.M A (isTrue (.BoolOp op es pos) env whole) Q E s

theorem TBOk.nil : TBOk C G A env [] := fun X ρ α σ op v b σ' s E pos whole Q _ h _ _ _ => by rw [evB_nil] at h; cases h

theorem TBOk.cons {e : Expr} {r : List Expr} (he : TOk C G A env e) (hr : TBOk C G A env r) : TBOk C G A env (e :: r) := fun X ρ α σ op v b σ' s E pos whole Q ok h hb R hQ => by
  simp only [okEs_cons, Bool.and_eq_true] at ok
  cases r with
  | nil =>
    simp only [evB_one, Option.bind_eq_some_iff] at h
    obtain ⟨⟨w, σ₁⟩, h1, h2⟩ := h
    cases h2
    cases op with
    | And =>
      refine isTrue_and (he X ρ α σ _ _ b _ s E _ ok.1 h1 hb R fun α₁ s₁ R₁ E₁ => ?_)
      cases b with
      | false => exact hQ α₁ s₁ R₁ E₁
      | true => exact isTrue_and_nil (hQ α₁ s₁ R₁ E₁)
    | Or =>
      refine isTrue_or (he X ρ α σ _ _ b _ s E _ ok.1 h1 hb R fun α₁ s₁ R₁ E₁ => ?_)
      cases b with
      | true => exact hQ α₁ s₁ R₁ E₁
      | false => exact isTrue_or_nil (hQ α₁ s₁ R₁ E₁)
  | cons e₂ r =>
    simp only [evB_more, Option.bind_eq_some_iff] at h
    obtain ⟨⟨w, σ₁⟩, h1, c, h2, h3⟩ := h
    cases op with
    | And =>
      refine isTrue_and (he X ρ α σ _ w c σ₁ s E _ ok.1 h1 h2 R fun α₁ s₁ R₁ E₁ => ?_)
      cases c with
      | false =>
        cases h3
        rw [h2] at hb; cases hb
        exact hQ α₁ s₁ R₁ E₁
      | true => exact hr X ρ α₁ σ₁ .And v b σ' s₁ E pos whole _ ok.2 h3 hb R₁ fun α₂ s₂ R₂ E₂ => hQ α₂ s₂ R₂ (E₁.trans E₂)
    | Or =>
      refine isTrue_or (he X ρ α σ _ w c σ₁ s E _ ok.1 h1 h2 R fun α₁ s₁ R₁ E₁ => ?_)
      cases c with
      | true =>
        cases h3
        rw [h2] at hb; cases hb
        exact hQ α₁ s₁ R₁ E₁
      | false => exact hr X ρ α₁ σ₁ .Or v b σ' s₁ E pos whole _ ok.2 h3 hb R₁ fun α₂ s₂ R₂ E₂ => hQ α₂ s₂ R₂ (E₁.trans E₂)

theorem ok_Compare {l : Expr} {ops : List CmpOp} {es : List Expr} {pos : Pos} (hl : EOk C G A env l) (hs : COk C G A env es) : EOk C G A env (.Compare l ops es pos) ∧ TOk C G A env (.Compare l ops es pos) := by
  constructor
  · intro X ρ α σ o v σ' s E Q ok h R hQ
    simp only [okE_Compare, Bool.and_eq_true, Bool.not_eq_true'] at ok
    simp only [evE_Compare, Option.bind_eq_some_iff, Option.map_eq_some_iff, Prod.mk.injEq] at h
    obtain ⟨⟨a, σ₁⟩, h1, ⟨b, σ₂⟩, h2, rfl, rfl⟩ := h
    show wpAny C.M A (do compareChain pos (← eval l env) ops (markedEach ops es (evalEach es env))) Q E s
    rw [markedEach_of_false _ _ _ ok.2]
    refine wpAny_bind (hl X ρ α σ _ a σ₁ s E _ ok.1.1 h1 R fun α₁ u s₁ R₁ E₁ V₁ => ?_)
    exact (hs X ρ α₁ σ₁ a u ops b σ₂ s₁ E pos ok.1.2 h2 R₁ V₁).1 Q fun α₂ s₂ R₂ E₂ => hQ α₂ _ s₂ R₂ (E₁.trans E₂) (by simp only [VRel, DRel])
  · intro X ρ α σ o v c σ' s E Q ok h hb R hQ
    simp only [okE_Compare, Bool.and_eq_true, Bool.not_eq_true'] at ok
    simp only [evE_Compare, Option.bind_eq_some_iff, Option.map_eq_some_iff, Prod.mk.injEq] at h
    obtain ⟨⟨a, σ₁⟩, h1, ⟨b, σ₂⟩, h2, rfl, rfl⟩ := h
    simp only [truthV, Option.some.injEq] at hb
    subst hb
    show wpAny C.M A (do testChain pos (← eval l env) ops (markedEach ops es (evalEach es env))) Q E s
    rw [markedEach_of_false _ _ _ ok.2]
    refine wpAny_bind (hl X ρ α σ _ a σ₁ s E _ ok.1.1 h1 R fun α₁ u s₁ R₁ E₁ V₁ => ?_)
    exact (hs X ρ α₁ σ₁ a u ops b σ₂ s₁ E pos ok.1.2 h2 R₁ V₁).2 Q fun α₂ s₂ R₂ E₂ => hQ α₂ s₂ R₂ (E₁.trans E₂)

theorem ok_none {e : Expr} (h : okE G.const env.scope e = false) : EOk C G A env e ∧ TOk C G A env e :=
  ⟨fun X ρ α σ o v σ' s E Q ok => (by rw [h] at ok; cases ok), fun X ρ α σ o v b σ' s E Q ok => (by rw [h] at ok; cases ok)⟩

def Sub (C : Wo) (G : Genv) (A : Around) (env : Env) (e : Expr) : Prop :=
  (∀ lo hi st p, e = .Slice (some lo) hi st p → EOk C G A env lo) ∧ (∀ x m p, e = .Attribute x m p → EOk C G A env x)
def HOk (C : Wo) (G : Genv) (A : Around) (env : Env) (es : List Expr) : Prop := ∀ x ∈ es, EOk C G A env x

theorem all_Call (W : Wk C G A) {f : Expr} {args : List Expr} {ks : List Keyword} {pos : Pos} (hf : Sub C G A env f) (hs : EsOk C G A env args) (hx : HOk C G A env args) :
    EOk C G A env (.Call f args ks pos) ∧ TOk C G A env (.Call f args ks pos) := by
  have h : EOk C G A env (.Call f args ks pos) := by
    cases f with
    | Name n p => exact ok_CallName W hs fun x t q => hx x (by rw [q]; exact .head _)
    | Attribute e m p => exact ok_CallMeth (hf.2 e m p rfl) hs
    | _ =>
      refine (ok_none ?_).1
      cases ks with
      | cons _ _ => rw [okE_CallK, Bool.and_false]
      | nil => exact Bool.and_false _
  exact ⟨h, .plain h fun _ => rfl⟩

theorem all_Sub {e i : Expr} {pos : Pos} (he : EOk C G A env e) (hi : EOk C G A env i) (hs : Sub C G A env i) : EOk C G A env (.Subscript e i pos) ∧ TOk C G A env (.Subscript e i pos) :=
  have h := ok_Subscript (pos := pos) he hi hs.1
  ⟨h, .plain h fun _ => rfl⟩

theorem Sub.no {e : Expr} (h1 : isSlice e = false) (h2 : isAttr e = false) : Sub C G A env e := ⟨fun lo hi st p h => by rw [h] at h1; exact Bool.noConfusion h1, fun x m p h => by rw [h] at h2; exact Bool.noConfusion h2⟩
theorem Sub.attr {e : Expr} {m : Str} {p : Pos} (h : EOk C G A env e) : Sub C G A env (.Attribute e m p) := ⟨fun lo hi st p h => (by cases h), fun x m p hh => by cases hh; exact h⟩
theorem Sub.slice {lo : Expr} {hi st : Option Expr} {p : Pos} (h : EOk C G A env lo) : Sub C G A env (.Slice (some lo) hi st p) := ⟨fun _ _ _ _ e => by cases e; exact h, fun x m p hh => by cases hh⟩
theorem Sub.slice' {hi st : Option Expr} {p : Pos} : Sub C G A env (.Slice none hi st p) := ⟨fun _ _ _ _ e => (by cases e), fun x m p hh => by cases hh⟩
theorem all_none {e : Expr} (h : okE G.const env.scope e = false) (hs : Sub C G A env e) : EOk C G A env e ∧ TOk C G A env e ∧ Sub C G A env e := ⟨(ok_none h).1, (ok_none h).2, hs⟩
theorem all_two {e : Expr} (h : EOk C G A env e ∧ TOk C G A env e) (hs : Sub C G A env e) : EOk C G A env e ∧ TOk C G A env e ∧ Sub C G A env e := ⟨h.1, h.2, hs⟩

mutual
theorem all_ok (W : Wk C G A) : ∀ e : Expr, EOk C G A env e ∧ TOk C G A env e ∧ Sub C G A env e
  | .Constant _ _ _ => ⟨ok_Constant, .plain ok_Constant fun _ => rfl, .no rfl rfl⟩
  | .Name _ _ => ⟨ok_Name W, .plain (ok_Name W) fun _ => rfl, .no rfl rfl⟩
  | .BoolOp _ es _ => ⟨ok_BoolOp (alls_ok W es).2.1, fun X ρ α σ o v b σ' s E Q ok h hb R hQ => by
      rw [okE_BoolOp] at ok
      rw [evE_BoolOp] at h
      exact (alls_ok W es).2.2.1 X ρ α σ _ v b σ' s E _ _ Q ok h hb R hQ, .no rfl rfl⟩
  | .BinOp l _ r _ => ⟨ok_BinOp (all_ok W l).1 (all_ok W r).1, .plain (ok_BinOp (all_ok W l).1 (all_ok W r).1) fun _ => rfl, .no rfl rfl⟩
  | .UnaryOp _ e _ => ⟨ok_UnaryOp (all_ok W e).1, .not (all_ok W e).1 (all_ok W e).2.1, .no rfl rfl⟩
  | .Compare l _ es _ => all_two (ok_Compare (all_ok W l).1 (alls_ok W es).2.2.2.1) (.no rfl rfl)
  | .Tuple es _ _ => ⟨ok_Tuple (alls_ok W es).1, .plain (ok_Tuple (alls_ok W es).1) fun _ => rfl, .no rfl rfl⟩
  | .List es _ => ⟨ok_List (alls_ok W es).1, .plain (ok_List (alls_ok W es).1) fun _ => rfl, .no rfl rfl⟩
  | .Subscript e i _ => all_two (all_Sub (all_ok W e).1 (all_ok W i).1 (all_ok W i).2.2) (.no rfl rfl)
  | .Call f args _ _ => all_two (all_Call W (all_ok W f).2.2 (alls_ok W args).1 (alls_ok W args).2.2.2.2) (.no rfl rfl)
  | .Attribute e _ _ => all_none (by rfl) (.attr (all_ok W e).1)
  | .Slice (some lo) _ _ _ => all_none (by rfl) (.slice (all_ok W lo).1)
  | .Slice none _ _ _ => all_none (by rfl) .slice'
  | .NamedExpr _ _ _ => all_none (by rfl) (.no rfl rfl)
  | .Lambda _ _ _ _ => all_none (by rfl) (.no rfl rfl)
  | .IfExp _ _ _ _ => all_none (by rfl) (.no rfl rfl)
  | .Dict _ vs _ => ⟨ok_Dict (alls_ok W vs).2.2.2.2, .plain (ok_Dict (alls_ok W vs).2.2.2.2) fun _ => rfl, .no rfl rfl⟩
  | .Set _ _ _ => all_none (by rfl) (.no rfl rfl)
  | .ListComp _ _ _ _ => all_none (by rfl) (.no rfl rfl)
  | .SetComp _ _ _ _ => all_none (by rfl) (.no rfl rfl)
  | .DictComp _ _ _ _ _ => all_none (by rfl) (.no rfl rfl)
  | .GeneratorExp _ _ _ _ => all_none (by rfl) (.no rfl rfl)
  | .Await _ _ => all_none (by rfl) (.no rfl rfl)
  | .Yield _ _ => all_none (by rfl) (.no rfl rfl)
  | .YieldFrom _ _ => all_none (by rfl) (.no rfl rfl)
  | .FormattedValue _ _ _ _ => all_none (by rfl) (.no rfl rfl)
  | .JoinedStr _ _ => all_none (by rfl) (.no rfl rfl)
  | .Starred _ _ => all_none (by rfl) (.no rfl rfl)
theorem alls_ok (W : Wk C G A) : ∀ es : List Expr, EsOk C G A env es ∧ BOk C G A env es ∧ TBOk C G A env es ∧ COk C G A env es ∧ HOk C G A env es
  | [] => ⟨.nil, .nil, .nil, .nil, fun _ q => nomatch q⟩
  | e :: r => ⟨.cons (all_ok W e).1 (alls_ok W r).1, .cons (all_ok W e).1 (alls_ok W r).2.1, .cons (all_ok W e).2.1 (alls_ok W r).2.2.1, .cons W (all_ok W e).1 (alls_ok W r).2.2.2.1, fun x q => (List.mem_cons.mp q).elim (fun q => q ▸ (all_ok W e).1) fun q => (alls_ok W r).2.2.2.2 x q⟩
end

end
end Mine
end

section
set_option autoImplicit false
namespace Mine
open PySem PyProof.Rows PySem.Calls

/-- what a step of a statement leaves as it was -/
structure SExt (env : Env) (α : List Addr) (σ : St) (s : Shared) (α' : List Addr) (σ' : St) (s' : Shared) : Prop where
  keep : ∀ a o, s.heap.get? a = some o → a ∉ FA env → (∀ n : Nat, α[n]? = some a → ∃ o, σ[n]? = some (true, o)) → s'.heap.get? a = some o
  new : ∃ t, α' = α ++ t ∧ ∀ a ∈ t, s.heap.objs.size ≤ a
  size : s.heap.objs.size ≤ s'.heap.objs.size
  gens : s'.gens = s.gens
  os : s'.os = s.os
  lock : ∀ (n : Nat) o, σ[n]? = some (true, o) → σ'[n]? = some (true, o)
  slen : σ.length ≤ σ'.length

section
variable {C : Wo} {G : Genv} {X X' : Addr → Prop} {env : Env} {ρ ρ' : Loc} {α α' α'' : List Addr} {σ σ' σ'' : St} {s s' s'' : Shared} {A : Around} {E : Value → Shared → Prop}

theorem SExt.refl : SExt env α σ s α σ s := ⟨fun _ _ e _ _ => e, ⟨[], by simp, by simp⟩, Nat.le_refl _, rfl, rfl, fun _ _ e => e, Nat.le_refl _⟩
theorem Ext.toS (x : Ext env α σ s α' σ' s') : SExt env α σ s α' σ' s' :=
  ⟨fun a o e n l => x.keep a o e (fun q => n (by rw [q]; exact .head _)) l, x.new, x.size, x.gens, x.os, x.lock, x.slen⟩

theorem SExt.trans (x : SExt env α σ s α' σ' s') (y : SExt env α' σ' s' α'' σ'' s'') : SExt env α σ s α'' σ'' s'' where
  keep := fun a o e n l => y.keep a o (x.keep a o e n l) n fun k hk => by
    obtain ⟨t, rfl, ht⟩ := x.new
    by_cases hk' : k < α.length
    · rw [List.getElem?_append_left hk'] at hk
      obtain ⟨o', ho'⟩ := l k hk
      exact ⟨o', x.lock k o' ho'⟩
    · rw [List.getElem?_append_right (Nat.le_of_not_lt hk')] at hk
      have := ht a (List.mem_of_getElem? hk)
      exact absurd (Heap.lt_size e) (Nat.not_lt.mpr this)
  new := by
    obtain ⟨t, rfl, ht⟩ := x.new
    obtain ⟨u, rfl, hu⟩ := y.new
    exact ⟨t ++ u, by rw [List.append_assoc], fun a ha => (List.mem_append.mp ha).elim (ht a) fun q => Nat.le_trans x.size (hu a q)⟩
  size := Nat.le_trans x.size y.size
  gens := y.gens.trans x.gens
  os := y.os.trans x.os
  lock := fun n o e => y.lock n o (x.lock n o e)
  slen := Nat.le_trans x.slen y.slen

theorem getV_setV {x y : Str} {v : V} : ∀ {ρ : Loc}, getV y (setV x v ρ) = if y = x then some v else getV y ρ
  | [] => by simp only [setV_n, getV_n, getV_c]
  | (z, u) :: r => by
    simp only [setV_c]
    by_cases hz : x = z
    · subst hz
      simp only [if_true, getV_c]
      by_cases hy : y = x
      · simp [hy]
      · simp [hy]
    · simp only [if_neg hz, getV_c]
      by_cases hy : y = z
      · subst hy; simp [Ne.symm hz]
      · simp only [if_neg hy]; exact getV_setV

theorem growFA {h h' : Heap} {a : Addr} (hs : Heap.SameBut a h h') (ha : X a) : Grow (Bad X α) h (Bad X α) h' := fun b o n e => by
  have hb : b ≠ a := fun q => n (.inl (q ▸ ha))
  exact ⟨(hs.2 b hb).trans e, n⟩

/-- a change in the frame -/
theorem Rel.frame (R : Rel C X env ρ α σ s) {a : Addr} {h' : Heap} {t : Nat} (ha : a ∈ FA env) (hs : Heap.SameBut a s.heap h') (F : FRel C X env ρ' α h') (hno : ∃ o, h'.get? a = some o ∧ NoTup o) :
    Rel C X env ρ' α σ { s with heap := h', toks := t } ∧ SExt env α σ s α σ { s with heap := h', toks := t } := by
  have g := growFA (α := α) hs (R.fa a ha)
  refine ⟨⟨fun b o e => ?_, F, ⟨R.st.len, R.st.nodup, R.st.out, R.st.low, fun n b l o h1 h2 => ?_⟩, R.fa, R.flow, fun b hb => ?_, fun b hb => ?_⟩, ⟨fun b o e n _ => ?_, ⟨[], by simp, by simp⟩, Nat.le_of_eq hs.1.symm, rfl, rfl, fun _ _ e => e, Nat.le_refl _⟩⟩
  · exact (hs.2 b (fun q => Nat.not_lt.mpr (R.flow b (q ▸ ha)) (Heap.lt_size e))).trans (R.bas b o e)
  · have hb : b ≠ a := fun q => R.st.out b (List.mem_of_getElem? h1) (R.fa b (q ▸ ha))
    exact (R.st.obj n b l o h1 h2).grow g (List.prefix_refl _) fun o ho => (hs.2 b hb).trans ho
  · show b < h'.objs.size
    rw [hs.1]; exact R.xlt b hb
  · by_cases q : b = a
    · subst q; exact hno
    · obtain ⟨o, ho, hn⟩ := R.xnt b hb
      exact ⟨o, (hs.2 b q).trans ho, hn⟩
  · exact (hs.2 b (fun q => n (q ▸ ha))).trans e

noncomputable def okN (sc : Scope) (x : Str) : Bool := sc.names.lookup x == some .local || sc.names.lookup x == some .cell

theorem cell_name {x y : Str} {c : Addr} (R : Rel C X env ρ α σ s) (hx : env.cells.lookup x = some c) (hy : env.cells.lookup y = some c) : x = y :=
  name_of_addr R.fr.apart (mem_of_lookup hx) (mem_of_lookup hy)

theorem store_ok (R : Rel C X env ρ α σ s) {x : Str} {v : V} {u : Value} {Q : Unit → Shared → Prop} (hx : okN env.scope x = true) (hv : VRel C X α s.heap v u)
    (hQ : ∀ s', Rel C X env (setV x v ρ) α σ s' → SExt env α σ s α σ s' → Q () s') : wpAny C.M A (storeName env x u) Q E s := by
  simp only [okN, Bool.or_eq_true, beq_iff_eq] at hx
  rcases hx with hx | hx
  · have hk : env.kindOf x = some .local := hx
    obtain ⟨m, hm, hl⟩ := R.fr.loc
    refine wpAny_storeName_local hk hm (fun h' hn hs => ?_) (by rw [R.fr.kind]; rfl)
    have ha : env.locals ∈ FA env := .head _
    have g := growFA (α := α) hs (R.fa _ ha)
    obtain ⟨R', S'⟩ := R.frame (ρ' := setV x v ρ) (t := s.toks + 1) ha hs
      ⟨R.fr.kind, R.fr.glob, R.fr.blt, fun y w e => by
          rw [getV_setV] at e
          split at e
          · rename_i q; subst q; exact .inl hk
          · exact R.fr.kinds y w e,
        ⟨_, hn, fun y w e k => by
          rw [getV_setV] at e
          split at e
          · rename_i q; subst q; cases e; exact ⟨u, by simp, hv.grow g (List.prefix_refl _)⟩
          · rename_i q
            obtain ⟨u', hu', hw⟩ := hl y w e k
            exact ⟨u', by simp only [if_neg q]; exact hu', hw.grow g (List.prefix_refl _)⟩⟩,
        fun y w e k => by
          rw [getV_setV] at e
          split at e
          · rename_i q; subst q; rw [hk] at k; rcases k with k | k <;> cases k
          · obtain ⟨c, u', hc, hi, hw⟩ := R.fr.cel y w e k
            exact ⟨c, u', hc, hi.sameBut hs (R.fr.off y c (mem_of_lookup hc)), hw.grow g (List.prefix_refl _)⟩,
        fun y k => by
          obtain ⟨c, u', hc, hi⟩ := R.fr.has y k
          exact ⟨c, u', hc, hi.sameBut hs (R.fr.off y c (mem_of_lookup hc))⟩, R.fr.apart, R.fr.off⟩ (Heap.Ns.noTup hn)
    exact hQ _ R' S'
  · have hk : env.kindOf x = some .cell := hx
    obtain ⟨c, u₀, hc, hi⟩ := R.fr.has x hk
    refine wpAny_storeName_cell R.fr.kind hk hc hi fun h' hn hs => ?_
    have ha : c ∈ FA env := .tail _ (List.mem_map.mpr ⟨_, mem_of_lookup hc, rfl⟩)
    have hcl : env.locals ≠ c := Ne.symm (R.fr.off x c (mem_of_lookup hc))
    have g := growFA (α := α) hs (R.fa _ ha)
    obtain ⟨m, hm, hl⟩ := R.fr.loc
    obtain ⟨R', S'⟩ := R.frame (ρ' := setV x v ρ) (t := s.toks) ha hs
      ⟨R.fr.kind, R.fr.glob, R.fr.blt, fun y w e => by
          rw [getV_setV] at e
          split at e
          · rename_i q; subst q; exact .inr (.inl hk)
          · exact R.fr.kinds y w e,
        ⟨m, hm.sameBut hs hcl, fun y w e k => by
          rw [getV_setV] at e
          split at e
          · rename_i q; subst q; rw [hk] at k; cases k
          · obtain ⟨u', hu', hw⟩ := hl y w e k
            exact ⟨u', hu', hw.grow g (List.prefix_refl _)⟩⟩,
        fun y w e k => by
          rw [getV_setV] at e
          split at e
          · rename_i q; subst q; cases e; exact ⟨c, u, hc, hn, hv.grow g (List.prefix_refl _)⟩
          · rename_i q
            obtain ⟨c', u', hc', hi', hw⟩ := R.fr.cel y w e k
            exact ⟨c', u', hc', hi'.sameBut hs (fun q' => q (cell_name R (q' ▸ hc') hc)), hw.grow g (List.prefix_refl _)⟩,
        fun y k => by
          by_cases q : y = x
          · subst q; exact ⟨c, _, hc, hn⟩
          · obtain ⟨c', u', hc', hi'⟩ := R.fr.has y k
            exact ⟨c', u', hc', hi'.sameBut hs (fun q' => q (cell_name R (q' ▸ hc') hc))⟩, R.fr.apart, R.fr.off⟩ (Heap.IsCell.noTup hn)
    exact hQ _ R' S'

end
end Mine
end

section
set_option autoImplicit false
namespace Mine
open PySem

noncomputable def gen (body : List Stmt) (H : Hints) (d : Nat) (f : Str) : Genv :=
  { const := fun x => H.consts.lookup x, fn := fun x => (findFn x body).isSome, cls := fun _ => false, fresh := fun x => H.fresh.contains x,
    call := callN body H d, mcall := fun _ _ _ _ => none, make := fun _ _ _ => none, owned := fun x => H.owned.contains (f, x), ownRet := false }

noncomputable def rangeL (x : Int) (n : Nat) : List V := (List.range n).map fun (k : Nat) => .d (.int (x + k))
theorem rangeL_succ (x : Int) (n : Nat) : rangeL x (n + 1) = .d (.int x) :: rangeL (x + 1) n := by
  unfold rangeL
  rw [List.range_succ_eq_map, List.map_cons, List.map_map]
  congr 1
  · rw [Int.natCast_zero, Int.add_zero]
  · refine List.map_congr_left fun k _ => ?_
    show V.d (D.int (x + ((k + 1 : Nat) : Int))) = V.d (D.int (x + 1 + (k : Int)))
    congr 2
    omega
theorem rangeL_zero (x : Int) : rangeL x 0 = [] := rfl

/-- what a path is told -/
inductive Tell where
  | v (x : V)
  | b (x : Bool)
  | w (x : V) (σ : St)
  | s (σ : St)
  | f (fl : Fl) (ρ : Loc) (σ : St)
abbrev Orc := List (Nat × Tell)

noncomputable def hit (n : Nat) (q : Orc) : Option (Tell × Orc) := match q with
  | [] => none
  | p :: r => match Nat.beq p.1 n with
    | true => some (p.2, r)
    | false => none

noncomputable def hitV (n : Nat) (q : Orc) : Option (V × Orc) := match hit n q with
  | some (.v y, r) => some (y, r)
  | _ => none
noncomputable def hitB (n : Nat) (q : Orc) : Option (Bool × Orc) := match hit n q with
  | some (.b y, r) => some (y, r)
  | _ => none
noncomputable def hitW (n : Nat) (q : Orc) : Option ((V × St) × Orc) := match hit n q with
  | some (.w y σ, r) => some ((y, σ), r)
  | _ => none
noncomputable def hitS (n : Nat) (q : Orc) : Option (St × Orc) := match hit n q with
  | some (.s y, r) => some (y, r)
  | _ => none
noncomputable def hitF (n : Nat) (q : Orc) : Option ((Fl × Loc × St) × Orc) := match hit n q with
  | some (.f fl ρ σ, r) => some ((fl, ρ, σ), r)
  | _ => none

noncomputable def ask {α : Type} (h : Option (α × Orc)) (x : Option α) (n : Nat) (q : Orc) (k : α → Nat → Orc → Prop) : Prop :=
  match h with
  | some p => x = some p.1 ∧ k p.1 (n + 1) p.2
  | none => match x with
    | some y => k y (n + 1) q
    | none => False
/-- what must be told -/
noncomputable def told {α : Type} (h : Option (α × Orc)) (x : Option α) (n : Nat) (k : α → Nat → Orc → Prop) : Prop :=
  match h with
  | some p => x = some p.1 ∧ k p.1 (n + 1) p.2
  | none => False

theorem ask_ok {α : Type} {h : Option (α × Orc)} {x : Option α} {n : Nat} {q : Orc} {k : α → Nat → Orc → Prop} (hh : ask h x n q k) : ∃ y n' q', x = some y ∧ k y n' q' := by
  unfold ask at hh
  cases h with
  | some p => exact ⟨_, _, _, hh.1, hh.2⟩
  | none => cases x with
    | some y => exact ⟨_, _, _, rfl, hh⟩
    | none => exact hh.elim
theorem told_ok {α : Type} {h : Option (α × Orc)} {x : Option α} {n : Nat} {k : α → Nat → Orc → Prop} (hh : told h x n k) : ∃ y n' q', x = some y ∧ k y n' q' := by
  unfold told at hh
  cases h with
  | some p => exact ⟨_, _, _, hh.1, hh.2⟩
  | none => exact hh.elim

noncomputable def opt {α : Type} (x : Option α) (k : α → Prop) : Prop := match x with
  | some y => k y
  | none => False
theorem opt_ok {α : Type} {x : Option α} {k : α → Prop} (h : opt x k) : ∃ y, x = some y ∧ k y := by
  cases x with
  | some y => exact ⟨y, rfl, h⟩
  | none => exact h.elim
noncomputable def tst (b : Bool) (x y : Prop) : Prop := match b with
  | true => x
  | false => y
theorem tst_ok {b : Bool} {x y : Prop} (h : tst b x y) : (b = true ∧ x) ∨ (b = false ∧ y) := by
  cases b with
  | true => exact .inl ⟨rfl, h⟩
  | false => exact .inr ⟨rfl, h⟩
/-- one of two -/
noncomputable def two {α : Type} (x : Option α) (k : α → Prop) (y : Prop) : Prop := match x with
  | some a => k a
  | none => y
theorem two_ok {α : Type} {x : Option α} {k : α → Prop} {y : Prop} (h : two x k y) : (∃ a, x = some a ∧ k a) ∨ (x = none ∧ y) := by
  cases x with
  | some a => exact .inl ⟨a, rfl, h⟩
  | none => exact .inr ⟨rfl, h⟩

mutual
noncomputable def wE (G : Genv) (ρ : Loc) (o : Bool) : Expr → St → Nat → Orc → (V → St → Nat → Orc → Prop) → Prop
  | .Constant c _ _, σ, n, q, k => opt (constD c) fun d => k (.d d) σ n q
  | .Name x _, σ, n, q, k => two (getV x ρ) (fun v => k v σ n q) (opt (G.const x) fun d => k (.d d) σ n q)
  | .BoolOp op es _, σ, n, q, k => wB G ρ op es σ n q k
  | .BinOp l op r _, σ, n, q, k => wE G ρ false l σ n q fun a σ n q => wE G ρ false r σ n q fun b σ n q => ask (hitV n q) (binV σ op a b) n q fun v n q => k (own o v σ).1 (own o v σ).2 n q
  | .UnaryOp op e _, σ, n, q, k => wE G ρ false e σ n q fun a σ n q => match op with
    | .Not => ask (hitB n q) (truthV σ a) n q fun b n q => k (.d (.bool !b)) σ n q
    | .USub => match a with
      | .d (.int i) => k (.d (.int (-i))) σ n q
      | _ => False
    | _ => False
  | .Compare l ops es _, σ, n, q, k => wE G ρ false l σ n q fun a σ n q => wC G ρ a ops es σ n q fun b σ n q => k (.d (.bool b)) σ n q
  | .Tuple es _ _, σ, n, q, k => wEs G ρ o es σ n q fun vs σ n q => k (mkTup vs) σ n q
  | .List es _, σ, n, q, k => wEs G ρ o es σ n q fun vs σ n q => ask (hitW n q) (mkList o vs σ) n q fun p n q => k p.1 p.2 n q
  | .Dict ks vs p, σ, n, q, k => match ks with
    | [] => ask (hitW n q) (evE G ρ o (.Dict [] vs p) σ) n q fun p n q => k p.1 p.2 n q
    | k' :: ks => tst o False (opt (constKeys (k' :: ks)) fun js => wEs G ρ false vs σ n q fun vs σ n q => ask (hitW n q) (mkDict js vs σ) n q fun p n q => k p.1 p.2 n q)
  | .Subscript e i _, σ, n, q, k => wE G ρ false e σ n q fun ov σ n q => match i with
    | .Slice lo hi st _ => match lo, st with
      | some lo, none => wE G ρ false lo σ n q fun lv σ n q => opt (natV lv) fun ln => match hi with
          | none => ask (hitV n q) (sliceV σ ov ln none) n q fun v n q => k (own o v σ).1 (own o v σ).2 n q
          | some hi => wE G ρ false hi σ n q fun hv σ n q => opt (natV hv) fun hn => ask (hitV n q) (sliceV σ ov ln (some hn)) n q fun v n q => k (own o v σ).1 (own o v σ).2 n q
      | _, _ => False
    | i => wE G ρ false i σ n q fun iv σ n q => ask (hitV n q) (getItemV σ ov iv) n q fun v n q => k v σ n q
  | .Call f args ks _, σ, n, q, k => match ks with
    | _ :: _ => False
    | [] => match f with
      | .Name f _ => tst (decide (f = "isinstance"))
        (match args with
          | [x, t] => wE G ρ false x σ n q fun v σ n q => opt (nameE t) fun t => tst (typeNames.contains t) (ask (hitB n q) (isiV σ t v) n q fun b n q => k (.d (.bool b)) σ n q) False
          | _ => False)
        (two (bfOf f) (fun b => wEs G ρ false args σ n q fun vs σ n q => ask (hitV n q) (bfV σ b vs) n q fun v n q => k (own o v σ).1 (own o v σ).2 n q)
          (tst (G.fn f) (wEs G ρ false args σ n q fun vs σ n q => told (hitW n q) (G.call f vs σ) n fun p n q => k (own (o && G.fresh f) p.1 p.2).1 (own (o && G.fresh f) p.1 p.2).2 n q) False))
      | .Attribute e m _ => wE G ρ false e σ n q fun ov σ n q => two (clsOf σ ov) (fun _ => False) (opt (mkOf σ m ov) fun j => wEs G ρ true args σ n q fun vs σ n q => ask (hitW n q) (methV σ j ov vs) n q fun p n q => k p.1 p.2 n q)
      | _ => False
  | .ListComp elt gens sc pos, σ, n, q, k => told (hitW n q) (evE G ρ o (.ListComp elt gens sc pos) σ) n fun p n q => k p.1 p.2 n q
  | _, _, _, _, _ => False
noncomputable def wEs (G : Genv) (ρ : Loc) (o : Bool) : List Expr → St → Nat → Orc → (List V → St → Nat → Orc → Prop) → Prop
  | [], σ, n, q, k => k [] σ n q
  | e :: r, σ, n, q, k => wE G ρ o e σ n q fun v σ n q => wEs G ρ o r σ n q fun vs σ n q => k (v :: vs) σ n q
noncomputable def wB (G : Genv) (ρ : Loc) (op : BoolOp) : List Expr → St → Nat → Orc → (V → St → Nat → Orc → Prop) → Prop
  | [], _, _, _, _ => False
  | e :: r, σ, n, q, k => wE G ρ false e σ n q fun v σ n q => match r with
    | [] => k v σ n q
    | r => ask (hitB n q) (truthV σ v) n q fun b n q => match op, b with
      | .And, false => k v σ n q
      | .Or, true => k v σ n q
      | _, _ => wB G ρ op r σ n q k
noncomputable def wC (G : Genv) (ρ : Loc) (a : V) : List CmpOp → List Expr → St → Nat → Orc → (Bool → St → Nat → Orc → Prop) → Prop
  | op :: ops, e :: r, σ, n, q, k => wE G ρ false e σ n q fun b σ n q => ask (hitB n q) (cmpV σ op a b) n q fun c n q => match ops with
    | [] => match r with
      | [] => k c σ n q
      | _ => False
    | ops => match r with
      | [] => False
      | r => match c with
        | true => wC G ρ b ops r σ n q k
        | false => k false σ n q
  | _, _, _, _, _, _ => False
end
end Mine
end

section
set_option autoImplicit false
namespace Mine
open PySem PyProof.Rows PySem.Calls

/-- the names that a comprehension's item may speak of -/
structure PEnv (C : Wo) (B : Addr → Prop) (h : Heap) (cenv : Env) (ρ : Loc) : Prop where
  kind : cenv.scope.kind = .function
  nm : ∀ n d, getV n ρ = some (.d d) → (cenv.kindOf n = some .local ∧ ∃ m u, h.Ns cenv.locals m ∧ m n = some u ∧ DRel C B h d u) ∨ (cenv.kindOf n = some .cell ∧ ∃ c u, cenv.cells.lookup n = some c ∧ h.IsCell c (some u) ∧ DRel C B h d u)

noncomputable def okP : Expr → Bool
  | .Constant .. => true
  | .Name x _ => !(x == ("__debug__" : Str))
  | .BinOp l _ r _ => okP l && okP r
  | .Subscript e i _ => okP e && okP i
  | _ => false

section
variable {C : Wo} {B : Addr → Prop} {cenv : Env} {ρ : Loc} {A : Around} {E : Value → Shared → Prop} {s : Shared} {Q : Value → Shared → Prop}

def PEOk (C : Wo) (B : Addr → Prop) (cenv : Env) (ρ : Loc) (A : Around) (e : Expr) : Prop :=
  ∀ (E : Value → Shared → Prop) (s : Shared) (Q : Value → Shared → Prop) (d : D), okP e = true → evP ρ e = some d → PEnv C B s.heap cenv ρ → (∀ u t, DRel C B s.heap d u → Q u { s with toks := t }) → wpAny C.M A (eval e cenv) Q E s

theorem intD_some {x : Option D} {a : Int} (h : intD x = some a) : x = some (.int a) := by
  cases x with
  | none => cases h
  | some d => cases d with
    | int i => cases h; rfl
    | _ => cases h
theorem strD_some {x : Option D} {a : Str} (h : strD x = some a) : x = some (.str a) := by
  cases x with
  | none => cases h
  | some d => cases d with
    | str i => cases h; rfl
    | _ => cases h

theorem pe_Constant {c : Const} {k : Nat} {p : Pos} : PEOk C B cenv ρ A (.Constant c k p) := fun E s Q d _ h _ hQ => by
  replace h : constD c = some d := h
  unfold constD at h
  split at h <;> cases h
  · exact Constant_none (hQ _ _ (by simp only [DRel]))
  · exact Constant_bool (hQ _ _ (by simp only [DRel]))
  · exact fun _ _ _ => hQ _ _ (by simp only [DRel]; exact ⟨_, rfl⟩)
  · exact Constant_str (hQ _ _ (by simp only [DRel]; exact ⟨_, rfl⟩))
theorem pe_Name {x : Str} {p : Pos} : PEOk C B cenv ρ A (.Name x p) := fun E s Q d ok h pe hQ => by
  replace ok : (!(x == ("__debug__" : Str))) = true := ok
  rw [Bool.not_eq_true'] at ok
  replace h : (match getV x ρ with | some (.d d) => some d | _ => none) = some d := h
  split at h
  · rename_i d' hg
    cases h
    rcases pe.nm x d hg with ⟨k, m, u, hm, hu, r⟩ | ⟨k, c, u, hc, hi, r⟩
    · exact wpAny_Name (wpAny_loadName_local pe.kind k hm hu (hQ u s.toks r)) ok
    · exact wpAny_Name (wpAny_loadName_cell pe.kind k hc hi (hQ u s.toks r)) ok
  · cases h
theorem pe_BinOp {l r : Expr} {op : Operator} {p : Pos} (hl : PEOk C B cenv ρ A l) (hr : PEOk C B cenv ρ A r) : PEOk C B cenv ρ A (.BinOp l op r p) := fun E s Q d ok h pe hQ => by
  replace ok : (okP l && okP r) = true := ok
  rw [Bool.and_eq_true] at ok
  replace h : ((intD (evP ρ l)).bind fun a => (intD (evP ρ r)).bind fun b => binI op a b) = some d := h
  simp only [Option.bind_eq_some_iff] at h
  obtain ⟨a, ha, b, hb, h⟩ := h
  refine wpAny_BinOp (hl E s _ _ ok.1 (intD_some ha) pe fun u t hu => ?_)
  simp only [DRel] at hu
  obtain ⟨t1, rfl⟩ := hu
  refine hr E { s with toks := t } _ _ ok.2 (intD_some hb) pe fun u t' hu => ?_
  simp only [DRel] at hu
  obtain ⟨t2, rfl⟩ := hu
  unfold binI at h
  split at h
  · cases h; exact add_int (hQ _ _ (by simp only [DRel]; exact ⟨_, rfl⟩))
  · cases h; exact sub_int (hQ _ _ (by simp only [DRel]; exact ⟨_, rfl⟩))
  · split at h
    · rename_i hs; cases h; exact mul_int (hQ _ _ (by simp only [DRel]; exact ⟨_, rfl⟩)) (intMulOk hs)
    · cases h
  · split at h
    · cases h; exact floordiv_int (by omega) (hQ _ _ (by simp only [DRel]; exact ⟨_, by rw [Int.fdiv_eq_ediv_of_nonneg _ (by omega)]⟩)) (.inl (PyProof.noPylong_small (by omega)))
    · cases h
  · split at h
    · cases h; exact mod_int (by omega) (hQ _ _ (by simp only [DRel]; exact ⟨_, by rw [Int.fmod_eq_emod_of_nonneg _ (by omega)]⟩))
    · cases h
  · cases h
theorem pe_Subscript {e i : Expr} {p : Pos} (he : PEOk C B cenv ρ A e) (hi : PEOk C B cenv ρ A i) : PEOk C B cenv ρ A (.Subscript e i p) := fun E s Q d ok h pe hQ => by
  replace ok : (okP e && okP i) = true := ok
  rw [Bool.and_eq_true] at ok
  replace h : ((strD (evP ρ e)).bind fun x => (intD (evP ρ i)).bind fun k => if 0 ≤ k ∧ k < 1000000000 then (x.cps.toList[k.toNat]?).map fun c => .str (chr1 c) else none) = some d := h
  simp only [Option.bind_eq_some_iff] at h
  obtain ⟨x, hx, k, hk, h⟩ := h
  refine Subscript_ (he E s _ _ ok.1 (strD_some hx) pe fun u t hu => ?_)
  simp only [DRel] at hu
  obtain ⟨t1, rfl⟩ := hu
  refine hi E { s with toks := t } _ _ ok.2 (intD_some hk) pe fun u t' hu => ?_
  simp only [DRel] at hu
  obtain ⟨t2, rfl⟩ := hu
  split at h
  · rename_i hk
    obtain ⟨c, hc, rfl⟩ := Option.map_eq_some_iff.mp h
    have hlt := (List.getElem?_eq_some_iff.mp hc).1
    refine tail_of (typeIs_str _ _ _) slot_str_getitem.lookup (PyProof.Rows.getItem_str (c := c) (by simp; omega) ?_ (hQ _ _ (by simp only [DRel]; exact ⟨_, rfl⟩)))
    rw [Array.length_toList] at hlt
    unfold Str.length
    rw [seqIndex_at (j := Int.toNat _) hlt (.inl ⟨hk.1, rfl⟩)]
    simpa using hc
  · cases h
theorem pe_no {e : Expr} (h : okP e = false) : PEOk C B cenv ρ A e := fun E s Q d ok => by rw [h] at ok; cases ok

theorem pe_all : ∀ e : Expr, PEOk C B cenv ρ A e
  | .Constant .. => pe_Constant
  | .Name .. => pe_Name
  | .BinOp l _ r _ => pe_BinOp (pe_all l) (pe_all r)
  | .Subscript e i _ => pe_Subscript (pe_all e) (pe_all i)
  | .BoolOp .. => pe_no rfl
  | .NamedExpr .. => pe_no rfl
  | .UnaryOp .. => pe_no rfl
  | .Lambda .. => pe_no rfl
  | .IfExp .. => pe_no rfl
  | .Dict .. => pe_no rfl
  | .Set .. => pe_no rfl
  | .ListComp .. => pe_no rfl
  | .SetComp .. => pe_no rfl
  | .DictComp .. => pe_no rfl
  | .GeneratorExp .. => pe_no rfl
  | .Await .. => pe_no rfl
  | .Yield .. => pe_no rfl
  | .YieldFrom .. => pe_no rfl
  | .Compare .. => pe_no rfl
  | .Call .. => pe_no rfl
  | .FormattedValue .. => pe_no rfl
  | .JoinedStr .. => pe_no rfl
  | .Attribute .. => pe_no rfl
  | .Starred .. => pe_no rfl
  | .List .. => pe_no rfl
  | .Tuple .. => pe_no rfl
  | .Slice .. => pe_no rfl
end

/-- the cells that a comprehension closes over -/
theorem closure_ok {csc : Scope} {env : Env} (h : ∀ n k, (n, k) ∈ csc.names → k = NameKind.free → ∃ c, env.cells.lookup n = some c) :
    ∃ cl, closureFor csc env = pure cl ∧ ∀ n, csc.names.lookup n = some .free → cl.lookup n = env.cells.lookup n := by
  have key : ∀ (names : List (Str × NameKind)) (acc : List (Str × Addr)), (∀ n k, (n, k) ∈ names → k = NameKind.free → ∃ c, env.cells.lookup n = some c) → (∀ n c, (n, c) ∈ acc → env.cells.lookup n = some c) →
      ∃ cl, (forIn names acc fun (x : Str × NameKind) (cs : List (Str × Addr)) => (if x.2 == NameKind.free then do let c ← cellOf env x.1; pure (ForInStep.yield ((x.1, c) :: cs)) else pure (ForInStep.yield cs) : Sem _)) = pure cl ∧
        (∀ n c, (n, c) ∈ cl → env.cells.lookup n = some c) ∧ (∀ p ∈ acc, p ∈ cl) ∧ ∀ n, (n, NameKind.free) ∈ names → ∃ c, (n, c) ∈ cl := by
    intro names
    induction names with
    | nil => intro acc _ h2; exact ⟨acc, rfl, h2, fun _ q => q, fun _ q => nomatch q⟩
    | cons x r ih =>
      intro acc h1 h2
      obtain ⟨n, k⟩ := x
      by_cases hk : k = .free
      · subst hk
        obtain ⟨c, hc⟩ := h1 n _ (.head _) rfl
        obtain ⟨cl, e, g1, g2, g3⟩ := ih ((n, c) :: acc) (fun n k q => h1 n k (.tail _ q)) (fun n' c' q => (List.mem_cons.mp q).elim (fun q => by cases q; exact hc) (h2 n' c'))
        refine ⟨cl, ?_, g1, fun p q => g2 p (.tail _ q), fun n' q => (List.mem_cons.mp q).elim (fun q => by cases q; exact ⟨c, g2 _ (.head _)⟩) (g3 n')⟩
        rw [List.forIn_cons]
        have hce : cellOf env n = pure c := by unfold cellOf; rw [hc]
        simp only [beq_self_eq_true, if_true, hce]
        exact e
      · obtain ⟨cl, e, g1, g2, g3⟩ := ih acc (fun n k q => h1 n k (.tail _ q)) h2
        refine ⟨cl, ?_, g1, g2, fun n' q => (List.mem_cons.mp q).elim (fun q => by cases q; exact absurd rfl hk) (g3 n')⟩
        rw [List.forIn_cons]
        have hb : (k == NameKind.free) = false := by simpa using hk
        simp only [hb, Bool.false_eq_true, if_false]
        exact e
  obtain ⟨cl, e, g1, _, g3⟩ := key csc.names [] h (fun _ _ q => nomatch q)
  refine ⟨cl, ?_, fun n hn => ?_⟩
  · show (forIn csc.names [] _ >>= fun cs => pure cs) = _
    have : (forIn csc.names ([] : List (Str × Addr)) fun (x : Str × NameKind) (cs : List (Str × Addr)) => (if x.2 == NameKind.free then do let c ← cellOf env x.1; pure (ForInStep.yield ((x.1, c) :: cs)) else pure (ForInStep.yield cs) : Sem _)) = pure cl := e
    exact (congrArg (fun t => t >>= fun cs => pure cs) this)
  · obtain ⟨c, hc⟩ := g3 n (mem_of_lookup hn)
    rw [g1 n c hc]
    cases hl : cl.lookup n with
    | none =>
      have := List.lookup_eq_none_iff.mp hl (n, c) hc
      simp at this
    | some c' => rw [← g1 n c' (mem_of_lookup hl), g1 n c hc]
end Mine
end

section
set_option autoImplicit false
namespace Mine
open PySem PyProof.Rows PySem.Calls

/-- a number or a text, as a value -/
def Scal : D → Value → Prop
  | .int k, y => ∃ t, y = .int k t
  | .str x, y => ∃ t, y = .str x t
  | _, _ => False
theorem Scal.of {C : Wo} {B : Addr → Prop} {h : Heap} {d : D} {y : Value} (hs : scalar d = true) (r : DRel C B h d y) : Scal d y := by
  cases d with
  | int k => simp only [DRel] at r; exact r
  | str k => simp only [DRel] at r; exact r
  | _ => cases hs
theorem Scal.rel {C : Wo} {B : Addr → Prop} {h : Heap} {d : D} {y : Value} (r : Scal d y) : DRel C B h d y := by
  cases d with
  | int k => simp only [DRel]; exact r
  | str k => simp only [DRel]; exact r
  | _ => exact r.elim

theorem mapO_cons {β γ : Type} {f : β → Option γ} {x : β} {r : List β} : mapO f (x :: r) = (f x).bind fun y => (mapO f r).map (y :: ·) := rfl

/-- the items of a comprehension over a range -/
theorem comp_items {C : Wo} {B : Addr → Prop} {h : Heap} {f : V → Option D} {F : Value → Value → Prop} (hF : ∀ v y, F v y → ∃ i t, v = .int i t ∧ ∃ d, f (.d (.int i)) = some d ∧ Scal d y) :
    ∀ {vs ys : List Value} {k : Int} {ds : List D}, mapO f (rangeL k vs.length) = some ds → (∀ (j : Nat) v, vs[j]? = some v → ∃ t, v = .int (k + j) t) → Paired F vs ys → DsRel C B h ds ys
  | [], _, k, ds, hm, _, .nil => by
    rw [List.length_nil, rangeL_zero] at hm
    cases hm
    simp only [DsRel]
  | v :: vs, y :: ys, k, ds, hm, hv, .cons h1 h2 => by
    rw [List.length_cons, rangeL_succ, mapO_cons] at hm
    simp only [Option.bind_eq_some_iff, Option.map_eq_some_iff] at hm
    obtain ⟨d, hd, ds', hm, rfl⟩ := hm
    obtain ⟨i, t, rfl, d', hd', hs⟩ := hF v y h1
    obtain ⟨t', e⟩ := hv 0 _ rfl
    simp only [Value.int.injEq] at e
    obtain ⟨rfl, rfl⟩ := e
    rw [show k + ((0 : Nat) : Int) = k from Int.add_zero k, hd] at hd'
    cases hd'
    have ih := comp_items (C := C) (B := B) (h := h) hF hm (fun j v q => by
      obtain ⟨t, e⟩ := hv (j + 1) v q
      exact ⟨t, by rw [e]; congr 1; omega⟩) h2
    simp only [DsRel]
    exact ⟨y, ys, rfl, hs.rel, ih⟩

section
variable {C : Wo} {G : Genv} {X : Addr → Prop} {env : Env} {ρ : Loc} {α : List Addr} {σ : St} {s s' : Shared} {A : Around} {E : Value → Shared → Prop}

/-- a name of the frame is bound anew -/
theorem Rel.stLocal (R : Rel C X env ρ α σ s) {x : Str} {v : V} {u : Value} {h' : Heap} {t : Nat} {m : Str → Option Value} (hk : env.kindOf x = some .local) (hm : s.heap.Ns env.locals m) (hv : VRel C X α s.heap v u)
    (hn : h'.Ns env.locals (fun z => if z = x then some u else m z)) (hs : Heap.SameBut env.locals s.heap h') :
    Rel C X env (setV x v ρ) α σ { s with heap := h', toks := t } ∧ SExt env α σ s α σ { s with heap := h', toks := t } := by
  obtain ⟨m', hm', hl⟩ := R.fr.loc
  have e := ns_unique hm hm'
  subst e
  have ha : env.locals ∈ FA env := .head _
  have g := growFA (α := α) hs (R.fa _ ha)
  exact R.frame (ρ' := setV x v ρ) (t := t) ha hs
      ⟨R.fr.kind, R.fr.glob, R.fr.blt, fun y w e => by
          rw [getV_setV] at e
          split at e
          · rename_i q; subst q; exact .inl hk
          · exact R.fr.kinds y w e,
        ⟨_, hn, fun y w e k => by
          rw [getV_setV] at e
          split at e
          · rename_i q; subst q; cases e; exact ⟨u, by simp, hv.grow g (List.prefix_refl _)⟩
          · rename_i q
            obtain ⟨u', hu', hw⟩ := hl y w e k
            exact ⟨u', by simp only [if_neg q]; exact hu', hw.grow g (List.prefix_refl _)⟩⟩,
        fun y w e k => by
          rw [getV_setV] at e
          split at e
          · rename_i q; subst q; rw [hk] at k; rcases k with k | k <;> cases k
          · obtain ⟨c, u', hc, hi, hw⟩ := R.fr.cel y w e k
            exact ⟨c, u', hc, hi.sameBut hs (R.fr.off y c (mem_of_lookup hc)), hw.grow g (List.prefix_refl _)⟩,
        fun y k => by
          obtain ⟨c, u', hc, hi⟩ := R.fr.has y k
          exact ⟨c, u', hc, hi.sameBut hs (R.fr.off y c (mem_of_lookup hc))⟩, R.fr.apart, R.fr.off⟩ (Heap.Ns.noTup hn)

/-- the block of a comprehension over an iterator that was just made -/
theorem comp_run {elt iter : Expr} {x : Str} {px pos : Pos} {csc : Scope} {cl : List (Str × Addr)} {I : Addr} {n : Nat} {P : Nat → Value → Prop} {St : Nat → Heap → Prop} (W : Walks C.prog C.w A I [I] [I] n P St) (hsz : n ≤ sizeLine)
    (F : Value → Value → Prop) {RR : Value → Addr → Result → Shared → Prop} (hcell : ∀ y ∈ csc.names, y.2 ≠ .cell) (hkind : csc.kind = .function) (hx : csc.names.lookup x = some .local) (hst : St 0 s.heap) (hI : I < s.heap.objs.size)
    (helt : ∀ (s₃ : Shared) m₃ i v E', P i v → s₃.heap.Ns (s.heap.objs.size + 1) m₃ → m₃ x = some v → (∀ b o, b ≠ I → s.heap.get? b = some o → s₃.heap.get? b = some o) →
      wpAny C.M A (eval elt (compEnvC csc cl (s.heap.objs.size + 1) env)) (fun y s₄ => F v y ∧ Keeps s₃ s₄) E' s₃)
    (hRR : ∀ h' tk m' ys (vs : List Value), h'.Ns (s.heap.objs.size + 1) m' → h'.PlainList s.heap.objs.size ys → vs.length = n → (∀ j v, vs[j]? = some v → P j v) → Paired F vs ys.toList →
      (∀ b o, b ≠ I → s.heap.get? b = some o → h'.get? b = some o) → RR (.ref s.heap.objs.size) (s.heap.objs.size + 1) (.ok .next) { s with heap := h', toks := tk }) :
    wpAny C.M A (newList []) (fun acc s₃ => wpAny C.M A (newFunctionEnv csc env.globals cl [] env.qual none .none (some env)) (fun cenv s₄ =>
      codeAny C.M A (.compStart (.ListComp elt [⟨.Name x px, iter, [], 0⟩] csc pos) 0 (.ref I) acc { cenv with scope := relabel csc env }) (RR acc cenv.locals) s₄) E s₃) E s := by
  refine wpAny_newObj_type ?_
  have hz : (s.heap.push { cls := .type "list", dict := none, data := .seq ([] : List Value).toArray }).objs.size = s.heap.objs.size + 1 := by rw [Heap.size_push]
  refine wpAny_newFunctionEnv hcell (fun y hy => nomatch hy) (fun h₁ hns₁ hsb₁ => ?_) hkind
  dsimp only at hns₁ hsb₁ ⊢
  rw [hz] at hns₁ hsb₁ ⊢
  have ne1 : ∀ {b : Addr} {o}, s.heap.get? b = some o → b ≠ s.heap.objs.size := fun e => Nat.ne_of_lt (Heap.lt_size e)
  have ne2 : ∀ {b : Addr} {o}, s.heap.get? b = some o → b ≠ s.heap.objs.size + 1 := fun e => Nat.ne_of_lt (Nat.lt_succ_of_lt (Heap.lt_size e))
  have old : ∀ b o, s.heap.get? b = some o → h₁.get? b = some o := fun b o e => hsb₁.extBut b o (ne2 e) (Heap.get?_push_of_some _ (Heap.get?_push_of_some _ e))
  have hD : h₁.PlainList s.heap.objs.size #[] := ⟨_, hsb₁.extBut _ _ (Nat.ne_of_lt (Nat.lt_succ_self _)) (Heap.get?_push_of_some _ (Heap.get?_push_size _ rfl))⟩
  have hst₁ : St 0 h₁ := W.frame _ _ _ hst fun b _ o e => old b o e
  have neI : ∀ {b : Addr}, b ∉ [I] → b ≠ I := fun h e => h (by rw [e]; exact .head _)
  have nI : ∀ {b : Addr}, b ≠ I → b ∉ [I] := fun h e => (List.mem_singleton.mp e) ▸ h <| rfl
  have loop : ∀ s₃ : Shared, s₃ = { s with heap := h₁, toks := s.toks + ([] : List (Str × Value)).length } → codeAny C.M A (.compLoop (.ListComp elt [⟨.Name x px, iter, [], 0⟩] csc pos) 0 (.ref I) (.ref s.heap.objs.size) (compEnvC csc cl (s.heap.objs.size + 1) env)) (RR (.ref s.heap.objs.size) (s.heap.objs.size + 1)) s₃ := by
    rintro s₃ rfl
    refine codeAny_compLoop_walk (hsz := hsz) (cenv := compEnvC csc cl (s.heap.objs.size + 1) env) W (fun _ => true) F (lookup_relabel_local hx) (by simp [compEnvC, relabel, hkind]) (Nat.ne_of_lt (Nat.lt_succ_self _)) (nI (Nat.ne_of_lt hI).symm) (nI (Nat.ne_of_lt (Nat.lt_succ_of_lt hI)).symm) hst₁ hD hns₁ ?_ ?_ ?_
    · intro i v s₃ m₃ _ _ _ _ _
      exact wpAny_pure ⟨rfl, s₃.heap, s₃.toks, rfl, fun _ _ e => e⟩
    · intro i v s₃ m₃ hv _ hn hm hk _
      exact helt s₃ m₃ i v _ hv hn hm fun b o hb e => hk b o (ne2 e) (nI hb) (ne1 e) (old b o e)
    · intro h' tk m' ys vs hn _ hpl hlen hP hF hk
      rw [List.filter_eq_self.mpr (fun _ _ => rfl)] at hF
      exact hRR h' tk m' ys vs hn hpl hlen hP hF fun b o hb e => hk b o (ne2 e) (nI hb) (ne1 e) (old b o e)
  exact codeAny_compStart_list (loop _ rfl) (W.self 0 _ _ _ hst₁ (loop _ rfl))
end
end Mine
end

section
set_option autoImplicit false
namespace Mine
open PySem PyProof.Rows PySem.Calls

section
variable {prog : Program} {w : World} {A : Around} {E : Value → Shared → Prop} {s : Shared}

theorem nextOf_tuple_item {it t : Addr} {i : Nat} {items : Array Value} {x : Value} {Q : Value → Shared → Prop} (hit : s.heap.IsTupleIter it t i) (ht : s.heap.IsTuple t items) (hx : items[i]? = some x)
    (hQ : ∀ h', h'.IsTupleIter it t (i + 1) → Heap.SameBut it s.heap h' → Q x { s with heap := h' }) : wpAny (model prog w) A (Builtin.SmallTypes.nextOf (.ref it)) Q E s := by
  obtain ⟨o, ho, hc, hd⟩ := id hit
  obtain ⟨ol, hol, _, nl, hdl⟩ := ht
  unfold Builtin.SmallTypes.nextOf
  refine wpAny_bind (wpAny_callSpecial?_slot (name := Str.ofString "__next__") hit.typeIs F.slot_tuple_iterator_next (wpAny_call_entry F.slot_tuple_iterator_next hit.typeIs F.entry_tuple_iterator_next ?_ (F.args_tuple_iterator_next_1 _)))
  show wpAny _ _ (field (.ref it) 0 >>= _) _ _ s
  refine wpAny_bind (wpAny_field ho hd (x := .ref t) rfl ?_)
  show wpAny _ _ (if (Value.ref t == Value.none) = true then _ else _) _ _ s
  rw [if_neg (show ¬ ((Value.ref t == Value.none) = true) from Bool.false_ne_true)]
  show wpAny _ _ (field (.ref it) 1 >>= _) _ _ s
  refine wpAny_bind (wpAny_field ho hd (x := .int i 0) rfl ?_)
  show wpAny _ _ (seqItems? (.ref t) >>= _) _ _ s
  refine wpAny_bind (wpAny_seqItems hol hdl ?_)
  simp only [Int.toNat_natCast, hx]
  refine wpAny_bind (wpAny_setField ho hd (by simp) (wpAny_pure ⟨x, rfl, wpAny_pure (hQ _ ⟨_, Heap.get?_update_self _ ho (Obj.isFreed_of_fields (Obj.data_mapFields hd _)), (Obj.cls_mapFields ..).trans hc, ?_⟩ (Heap.SameBut.update ..))⟩))
  rw [Obj.data_mapFields hd]; simp [rawInt]

theorem nextOf_tuple_end {it t : Addr} {i : Nat} {items : Array Value} {Q : Value → Shared → Prop} (hh : A.handled = none) (hit : s.heap.IsTupleIter it t i) (ht : s.heap.IsTuple t items) (hx : items[i]? = none)
    (hE : ∀ h' e, Heap.ExtBut it s.heap h' → (∃ o, h'.get? e = some o ∧ o.cls = .type "StopIteration") → E (.ref e) { s with heap := h' }) : wpAny (model prog w) A (Builtin.SmallTypes.nextOf (.ref it)) Q E s := by
  obtain ⟨o, ho, hc, hd⟩ := id hit
  obtain ⟨ol, hol, _, nl, hdl⟩ := ht
  unfold Builtin.SmallTypes.nextOf
  refine wpAny_bind (wpAny_callSpecial?_slot (name := Str.ofString "__next__") hit.typeIs F.slot_tuple_iterator_next (wpAny_call_entry F.slot_tuple_iterator_next hit.typeIs F.entry_tuple_iterator_next ?_ (F.args_tuple_iterator_next_1 _)))
  show wpAny _ _ (field (.ref it) 0 >>= _) _ _ s
  refine wpAny_bind (wpAny_field ho hd (x := .ref t) rfl ?_)
  show wpAny _ _ (if (Value.ref t == Value.none) = true then _ else _) _ _ s
  rw [if_neg (show ¬ ((Value.ref t == Value.none) = true) from Bool.false_ne_true)]
  show wpAny _ _ (field (.ref it) 1 >>= _) _ _ s
  refine wpAny_bind (wpAny_field ho hd (x := .int i 0) rfl ?_)
  show wpAny _ _ (seqItems? (.ref t) >>= _) _ _ s
  refine wpAny_bind (wpAny_seqItems hol hdl ?_)
  simp only [Int.toNat_natCast, hx]
  refine wpAny_bind (wpAny_rule (wpAny_bind (wpAny_setField ho hd (by simp) ?_)))
  show wpAny _ _ (newExc (.type "StopIteration") [] >>= _) _ _ _
  refine wpAny_bind ?_
  simp only [newExc, newTuple]
  refine wpAny_bind (wpAny_newObj_type ?_ (by size_fits))
  refine wpAny_bind (m := firstArgMember _ _) (wpAny_of_eq (a := Value.none) (by first | rfl | (simp only [firstArgMember]; rfl)) ?_)
  refine wpAny_newObj_type ?_ (by size_fits)
  simp only [raiseNew]
  refine wpAny_bind (wpAny_handled ?_)
  first | rw [show A.in1.handled = none from hh] | rw [hh]
  refine wpAny_bind (wpAny_pure (wpAny_throw ?_))
  exact hE _ _ (((Heap.SameBut.update ..).extBut.push _).push _) ⟨_, Heap.get?_push_size _ rfl, rfl⟩

/-- a zip of two tuples, just made: its parts lie at n and the four after it -/
structure ZS (h : Heap) (n : Nat) (f : Value) (t1 t2 : Addr) (xs ys : Array Value) (i : Nat) : Prop where
  z : IsZip h (n + 4) (n + 2) (n + 3) f
  ti : IsPair h (n + 2) (.ref n) (.ref (n + 1))
  to : ∃ a b, IsPair h (n + 3) a b
  i1 : h.IsTupleIter n t1 i
  i2 : h.IsTupleIter (n + 1) t2 i
  l1 : h.IsTuple t1 xs
  l2 : h.IsTuple t2 ys
theorem ZS.keep {h h' : Heap} {n : Nat} {f : Value} {t1 t2 : Addr} {xs ys : Array Value} {i : Nat} (x : ZS h n f t1 t2 xs ys i) (hk : ∀ c o, h.get? c = some o → c ≠ n + 5 → c ≠ n + 6 → h'.get? c = some o) (h1 : t1 < n) (h2 : t2 < n) : ZS h' n f t1 t2 xs ys i := by
  have k : ∀ c, c < n + 5 → ∀ o, h.get? c = some o → h'.get? c = some o := fun c hc o e => hk c o e (Nat.ne_of_lt hc) (Nat.ne_of_lt (Nat.lt_succ_of_lt hc))
  obtain ⟨z, ti, ⟨a, b, to⟩, ⟨o1, i1, r1⟩, ⟨o2, i2, r2⟩, ⟨o3, l1, r3⟩, ⟨o4, l2, r4⟩⟩ := x
  exact ⟨k _ (by omega) _ z, k _ (by omega) _ ti, ⟨a, b, k _ (by omega) _ to⟩, ⟨o1, k _ (by omega) _ i1, r1⟩, ⟨o2, k _ (by omega) _ i2, r2⟩, ⟨o3, k _ (Nat.lt_add_right 5 h1) _ l1, r3⟩, ⟨o4, k _ (Nat.lt_add_right 5 h2) _ l2, r4⟩⟩

/-- what is neither the zip, nor its tuple, nor its iterators -/
def OffZ (n c : Nat) : Prop := @Ne Nat c (n + 4) ∧ @Ne Nat c (n + 3) ∧ @Ne Nat c n ∧ @Ne Nat c (n + 1)
theorem OffZ.lt {n c : Nat} (h : c < n) : OffZ n c := ⟨by omega, by omega, by omega, by omega⟩
theorem OffZ.five {n : Nat} : OffZ n (n + 5) := ⟨by omega, by omega, by omega, by omega⟩
theorem OffZ.six {n : Nat} : OffZ n (n + 6) := ⟨by omega, by omega, by omega, by omega⟩

theorem zip_tt_item {n : Nat} {t1 t2 : Addr} {xs ys : Array Value} {i : Nat} {x y : Value} {Q : Option Value → Shared → Prop} (S : ZS s.heap n .none t1 t2 xs ys i) (h1 : t1 < n) (h2 : t2 < n) (hx : xs[i]? = some x) (hy : ys[i]? = some y)
    (hQ : ∀ h', ZS h' n (rawInt s.heap.objs.size) t1 t2 xs ys (i + 1) → IsPair h' s.heap.objs.size x y → (∀ c o, OffZ n c → s.heap.get? c = some o → h'.get? c = some o) → Q (some (.ref s.heap.objs.size)) { s with heap := h' }) :
    wpAny (model prog w) A (pyNext (.ref (n + 4))) Q E s := by
  obtain ⟨hz, hTI, ⟨a, b, hTO⟩, hi1, hi2, hl1, hl2⟩ := S
  have hT : s.TypeIs (.ref (n + 4)) "zip" := ⟨_, hz, rfl⟩
  have nt : ∀ k, t1 ≠ n + k := fun k => Nat.ne_of_lt (Nat.lt_of_lt_of_le h1 (Nat.le_add_right n k))
  have nt' : ∀ k, t2 ≠ n + k := fun k => Nat.ne_of_lt (Nat.lt_of_lt_of_le h2 (Nat.le_add_right n k))
  have nn : ∀ {j k : Nat}, j ≠ k → n + j ≠ n + k := fun h q => h (Nat.add_left_cancel q)
  have n0 : ∀ {k : Nat}, 0 < k → n ≠ n + k := fun h q => by omega
  unfold pyNext
  refine wpAny_bind (wpAny_attempt (wpAny_callSpecial?_slot (name := Str.ofString "__next__") hT F.slot_zip_next (wpAny_call_entry F.slot_zip_next hT F.entry_zip_next ?_ (F.args_zip_next_1 _))))
  show wpAny _ _ (field (.ref (n + 4)) 2 >>= _) _ _ _
  refine wpAny_bind (wpAny_field hz rfl (x := .bool false) rfl ?_)
  show wpAny _ _ (field (.ref (n + 4)) 3 >>= _) _ _ _
  refine wpAny_bind (wpAny_field hz rfl (x := .ref (n + 2)) rfl ?_)
  refine wpAny_bind (wpAny_seqItems hTI rfl ?_)
  show wpAny _ _ (Builtin.SmallTypes.ownedTupleIsFree (.ref (n + 4)) >>= _) _ _ _
  refine wpAny_bind ?_
  unfold Builtin.SmallTypes.ownedTupleIsFree
  refine wpAny_bind (wpAny_field hz rfl (x := .none) rfl (wpAny_pure ?_))
  simp only [if_true]
  refine wpAny_bind (wpAny_rule ?_)
  refine wpAny_bind (wpAny_field hz rfl (x := .ref (n + 3)) rfl ?_)
  refine wpAny_bind (wpAny_setField_rec hz (by simp) fun h₁ hz₁ hs₁ => ?_)
  replace hz₁ : IsZip h₁ (n + 4) (n + 2) (n + 3) .ellipsis := hz₁
  refine wpAny_bind ?_
  simp only [List.zipIdx_cons, List.zipIdx_nil, List.forIn_cons, List.forIn_nil]
  refine wpAny_bind (wpAny_bind (wpAny_onRaise ?_))
  show wpAny _ _ (Builtin.SmallTypes.nextOf (.ref n) >>= _) _ _ _
  refine wpAny_bind (nextOf_tuple_item (hi1.extBut hs₁.extBut (n0 (by decide))) (hl1.extBut hs₁.extBut (nt 4)) hx fun h₂ h1₂ hs₂ => wpAny_pure ?_)
  have hTO₂ : IsPair h₂ (n + 3) a b := hs₂.extBut _ _ (n0 (by decide)).symm (hs₁.extBut _ _ (nn (by decide)) hTO)
  refine wpAny_bind (wpAny_seqItems hTO₂ rfl ?_)
  refine wpAny_bind (wpAny_updateSeq_pair hTO₂ fun h₃ hTO₃ hs₃ => ?_)
  replace hTO₃ : IsPair h₃ (n + 3) x b := hTO₃
  refine wpAny_bind (wpAny_letGo (wpAny_pure ?_))
  refine wpAny_bind (wpAny_bind (wpAny_onRaise ?_))
  show wpAny _ _ (Builtin.SmallTypes.nextOf (.ref (n + 1)) >>= _) _ _ _
  refine wpAny_bind (nextOf_tuple_item (((hi2.extBut hs₁.extBut (nn (by decide))).extBut hs₂.extBut (n0 (by decide)).symm).extBut hs₃.extBut (nn (by decide)))
    (((hl2.extBut hs₁.extBut (nt' 4)).extBut hs₂.extBut (nt' 0)).extBut hs₃.extBut (nt' 3)) hy fun h₄ h2₄ hs₄ => wpAny_pure ?_)
  have hTO₄ : IsPair h₄ (n + 3) x b := hs₄.extBut _ _ (nn (by decide)) hTO₃
  refine wpAny_bind (wpAny_seqItems hTO₄ rfl ?_)
  refine wpAny_bind (wpAny_updateSeq_pair hTO₄ fun h₅ hTO₅ hs₅ => ?_)
  replace hTO₅ : IsPair h₅ (n + 3) x y := hTO₅
  refine wpAny_bind (wpAny_letGo (wpAny_pure (wpAny_pure ?_)))
  refine wpAny_bind (wpAny_seqItems hTO₅ rfl ?_)
  refine wpAny_bind (wpAny_newTuple ?_)
  have hsz : h₅.objs.size = s.heap.objs.size := by rw [hs₅.1, hs₄.1, hs₃.1, hs₂.1, hs₁.1]
  have hz₅ : IsZip h₅ (n + 4) (n + 2) (n + 3) .ellipsis := hs₅.extBut _ _ (nn (by decide)) (hs₄.extBut _ _ (nn (by decide)) (hs₃.extBut _ _ (nn (by decide)) (hs₂.extBut _ _ (n0 (by decide)).symm hz₁)))
  have hk₅ : ∀ c o, OffZ n c → s.heap.get? c = some o → h₅.get? c = some o := fun c o ⟨c1, c2, c3, c4⟩ e =>
    hs₅.extBut _ _ c2 (hs₄.extBut _ _ c4 (hs₃.extBut _ _ c2 (hs₂.extBut _ _ c3 (hs₁.extBut _ _ c1 e))))
  have h1₅ : h₅.IsTupleIter n t1 (i + 1) := ((h1₂.extBut hs₃.extBut (n0 (by decide))).extBut hs₄.extBut (n0 (by decide))).extBut hs₅.extBut (n0 (by decide))
  have h2₅ : h₅.IsTupleIter (n + 1) t2 (i + 1) := h2₄.extBut hs₅.extBut (nn (by decide))
  have hzlt : n + 4 < h₅.objs.size := Heap.lt_size hz₅
  show wpAny _ _ (Builtin.SmallTypes.ownedTupleHandOut (.ref (n + 4)) (.ref h₅.objs.size) >>= _) _ _ _
  refine wpAny_bind ?_
  unfold Builtin.SmallTypes.ownedTupleHandOut
  have hz₆ : IsZip (h₅.push { cls := .type "tuple", data := .seq #[x, y] }) (n + 4) (n + 2) (n + 3) .ellipsis := Heap.get?_push_of_some _ hz₅
  refine wpAny_bind (wpAny_setField_rec hz₆ (by simp) fun h₇ hz₇ hs₇ => ?_)
  replace hz₇ : IsZip h₇ (n + 4) (n + 2) (n + 3) (rawInt h₅.objs.size) := hz₇
  refine wpAny_setField_rec hz₇ (by simp) fun h₈ hz₈ hs₈ => ?_
  replace hz₈ : IsZip h₈ (n + 4) (n + 2) (n + 3) (rawInt h₅.objs.size) := hz₈
  have up : ∀ c o, c ≠ n + 4 → h₅.get? c = some o → h₈.get? c = some o := fun c o c1 e => hs₈.extBut _ _ c1 (hs₇.extBut _ _ c1 (Heap.get?_push_of_some _ e))
  have hT₈ : IsPair h₈ h₅.objs.size x y := hs₈.extBut _ _ (Nat.ne_of_gt hzlt) (hs₇.extBut _ _ (Nat.ne_of_gt hzlt) (Heap.get?_push_size _ rfl))
  rw [hsz] at hz₈ hT₈
  refine wpAny_pure ⟨_, rfl, ?_⟩
  show wpAny _ _ (pure (some (Value.ref h₅.objs.size))) _ _ _
  rw [hsz]
  have tl : ∀ {t : Addr} {us : Array Value}, (t < n) → s.heap.IsTuple t us → h₈.IsTuple t us := fun ht ⟨o, e, r⟩ =>
    ⟨o, up _ _ (Nat.ne_of_lt (Nat.lt_of_lt_of_le ht (Nat.le_add_right n 4))) (hk₅ _ _ ⟨Nat.ne_of_lt (Nat.lt_of_lt_of_le ht (Nat.le_add_right n 4)), Nat.ne_of_lt (Nat.lt_of_lt_of_le ht (Nat.le_add_right n 3)), Nat.ne_of_lt ht, Nat.ne_of_lt (Nat.lt_of_lt_of_le ht (Nat.le_add_right n 1))⟩ e), r⟩
  obtain ⟨o1, e1, r1⟩ := h1₅
  obtain ⟨o2, e2, r2⟩ := h2₅
  exact wpAny_pure (hQ h₈ ⟨hz₈, up _ _ (nn (by decide)) (hk₅ _ _ ⟨nn (by decide), nn (by decide), (n0 (by decide)).symm, nn (by decide)⟩ hTI), ⟨_, _, up _ _ (nn (by decide)) hTO₅⟩, ⟨o1, up _ _ (n0 (by decide)) e1, r1⟩, ⟨o2, up _ _ (nn (by decide)) e2, r2⟩, tl h1 hl1, tl h2 hl2⟩ hT₈
    fun c o hc e => up c o hc.1 (hk₅ c o hc e))

theorem zip_tt_end {n : Nat} {t1 t2 : Addr} {xs ys : Array Value} {i : Nat} {Q : Option Value → Shared → Prop} (hh : A.handled = none) (S : ZS s.heap n .none t1 t2 xs ys i) (h1 : t1 < n) (hx : xs[i]? = none)
    (hQ : ∀ h', (∀ c o, OffZ n c → s.heap.get? c = some o → h'.get? c = some o) → Q none { s with heap := h' }) : wpAny (model prog w) A (pyNext (.ref (n + 4))) Q E s := by
  obtain ⟨hz, hTI, ⟨a, b, hTO⟩, hi1, hi2, hl1, hl2⟩ := S
  have hT : s.TypeIs (.ref (n + 4)) "zip" := ⟨_, hz, rfl⟩
  have n0 : ∀ {k : Nat}, 0 < k → n ≠ n + k := fun h q => by omega
  unfold pyNext
  refine wpAny_bind (wpAny_attempt (wpAny_callSpecial?_slot (name := Str.ofString "__next__") hT F.slot_zip_next (wpAny_call_entry F.slot_zip_next hT F.entry_zip_next ?_ (F.args_zip_next_1 _))))
  show wpAny _ _ (field (.ref (n + 4)) 2 >>= _) _ _ _
  refine wpAny_bind (wpAny_field hz rfl (x := .bool false) rfl ?_)
  show wpAny _ _ (field (.ref (n + 4)) 3 >>= _) _ _ _
  refine wpAny_bind (wpAny_field hz rfl (x := .ref (n + 2)) rfl ?_)
  refine wpAny_bind (wpAny_seqItems hTI rfl ?_)
  show wpAny _ _ (Builtin.SmallTypes.ownedTupleIsFree (.ref (n + 4)) >>= _) _ _ _
  refine wpAny_bind ?_
  unfold Builtin.SmallTypes.ownedTupleIsFree
  refine wpAny_bind (wpAny_field hz rfl (x := .none) rfl (wpAny_pure ?_))
  simp only [if_true]
  refine wpAny_bind (wpAny_rule ?_)
  refine wpAny_bind (wpAny_field hz rfl (x := .ref (n + 3)) rfl ?_)
  refine wpAny_bind (wpAny_setField_rec hz (by simp) fun h₁ hz₁ hs₁ => ?_)
  replace hz₁ : IsZip h₁ (n + 4) (n + 2) (n + 3) .ellipsis := hz₁
  refine wpAny_bind ?_
  simp only [List.zipIdx_cons, List.zipIdx_nil, List.forIn_cons, List.forIn_nil]
  refine wpAny_bind (wpAny_bind (wpAny_onRaise ?_))
  show wpAny _ _ (Builtin.SmallTypes.nextOf (.ref n) >>= _) _ _ _
  refine wpAny_bind (nextOf_tuple_end hh (hi1.extBut hs₁.extBut (n0 (by decide))) (hl1.extBut hs₁.extBut (Nat.ne_of_lt (Nat.lt_of_lt_of_le h1 (Nat.le_add_right n 4)))) hx fun h₂ e hs₂ he => ?_)
  obtain ⟨oe, hoe, hce⟩ := he
  have hz₂ : IsZip h₂ (n + 4) (n + 2) (n + 3) .ellipsis := hs₂ _ _ (n0 (by decide)).symm hz₁
  have hez : e ≠ n + 4 := fun x => by subst x; rw [hz₂] at hoe; cases hoe; simp at hce
  refine wpAny_setField_rec hz₂ (by simp) fun h₃ _ hs₃ => ?_
  refine wpAny_bind (wpAny_isInstance (T := "StopIteration") (b := true) ⟨oe, hs₃.extBut _ _ hez hoe, hce⟩ isSubtype_stop ?_)
  exact wpAny_pure (hQ _ fun c o ⟨c1, _, c3, _⟩ x => hs₃.extBut _ _ c1 (hs₂ _ _ c3 (hs₁.extBut _ _ c1 x)))

noncomputable abbrev zH1 (h : Heap) (l1 : Addr) : Heap := h.push { cls := .type "tuple_iterator", data := .fields #[.ref l1, .int 0 0] }
noncomputable abbrev zH2 (h : Heap) (l1 l2 : Addr) : Heap := (zH1 h l1).push { cls := .type "tuple_iterator", data := .fields #[.ref l2, .int 0 0] }
noncomputable abbrev zH3 (h : Heap) (l1 l2 : Addr) : Heap := (zH2 h l1 l2).push { cls := .type "tuple", data := .seq #[.ref h.objs.size, .ref (zH1 h l1).objs.size] }
noncomputable abbrev zH4 (h : Heap) (l1 l2 : Addr) : Heap := (zH3 h l1 l2).push { cls := .type "tuple", data := .seq #[.none, .none] }
noncomputable abbrev zH5 (h : Heap) (l1 l2 : Addr) : Heap := (zH4 h l1 l2).push { cls := .type "zip", data := .fields #[.none, .bool false, .bool false, .ref (zH2 h l1 l2).objs.size, .ref (zH3 h l1 l2).objs.size] }

theorem meets_zip_tt (l1 l2 : Addr) (xs ys : Array Value) :
    Meets (Builtin.«zip.__new__» ⟨[.type "zip", .ref l1, .ref l2], []⟩) (fun _ R s => s.heap.IsTuple l1 xs ∧ s.heap.IsTuple l2 ys ∧ R (.ok (.ret (.ref (zH4 s.heap l1 l2).objs.size))) { s with heap := zH5 s.heap l1 l2 }) :=
  .of_wp fun prog w A R s h => by
    obtain ⟨hp, g, d, tk, os⟩ := s; obtain ⟨hl1, hl2, h⟩ := h
    have hsub := sub_zip
    have hL1 : Heap.IsTuple (Shared.heap ⟨hp, g, d, tk, os⟩) l1 xs := hl1
    have hL2 : Heap.IsTuple (Shared.heap ⟨hp.push { cls := .type "tuple_iterator", data := .fields #[.ref l1, .int 0 0] }, g, d, tk, os⟩) l2 ys := Heap.IsTuple.push hl2 _
    wp_walk using wpAny_pyIter_tuple hL1, wpAny_pyIter_tuple hL2
    exact ⟨_, rfl, h⟩

theorem call_zip_tt {l1 l2 : Addr} {xs ys : Array Value} {Q : Value → Shared → Prop} (hl1 : s.heap.IsTuple l1 xs) (hl2 : s.heap.IsTuple l2 ys)
    (h : ∀ h', ZS h' s.heap.objs.size .none l1 l2 xs ys 0 → h'.objs.size = s.heap.objs.size + 5 → (∀ c o, s.heap.get? c = some o → h'.get? c = some o) → Q (.ref (s.heap.objs.size + 4)) { s with heap := h' }) :
    wpAny (model prog w) A (call (.type "zip") [.ref l1, .ref l2]) Q E s := by
  refine callType_new F.called_zip (by decide) (F.typeCall_zip_2 _ _) (F.newCall_zip_2 _ _) (fun obj => F.args_object_init_3 obj _ _) F.entry_zip_new (meets_zip_tt l1 l2 xs ys) ⟨hl1, hl2, ?_⟩
  have z1 : (zH1 s.heap l1).objs.size = s.heap.objs.size + 1 := Heap.size_push ..
  have z2 : (zH2 s.heap l1 l2).objs.size = s.heap.objs.size + 2 := by rw [Heap.size_push, z1]
  have z3 : (zH3 s.heap l1 l2).objs.size = s.heap.objs.size + 3 := by rw [Heap.size_push, z2]
  have z4 : (zH4 s.heap l1 l2).objs.size = s.heap.objs.size + 4 := by rw [Heap.size_push, z3]
  have z5 : (zH5 s.heap l1 l2).objs.size = s.heap.objs.size + 5 := by rw [Heap.size_push, z4]
  have up : ∀ c o, s.heap.get? c = some o → (zH5 s.heap l1 l2).get? c = some o := fun c o x => Heap.get?_push_of_some _ (Heap.get?_push_of_some _ (Heap.get?_push_of_some _ (Heap.get?_push_of_some _ (Heap.get?_push_of_some _ x))))
  have g5 : (zH5 s.heap l1 l2).get? (zH4 s.heap l1 l2).objs.size = some _ := Heap.get?_push_size _ rfl
  have g4 : (zH5 s.heap l1 l2).get? (zH3 s.heap l1 l2).objs.size = some _ := Heap.get?_push_of_some _ (Heap.get?_push_size _ rfl)
  have g3 : (zH5 s.heap l1 l2).get? (zH2 s.heap l1 l2).objs.size = some _ := Heap.get?_push_of_some _ (Heap.get?_push_of_some _ (Heap.get?_push_size _ rfl))
  have g2 : (zH5 s.heap l1 l2).get? (zH1 s.heap l1).objs.size = some _ := Heap.get?_push_of_some _ (Heap.get?_push_of_some _ (Heap.get?_push_of_some _ (Heap.get?_push_size _ rfl)))
  have g1 : (zH5 s.heap l1 l2).get? s.heap.objs.size = some _ := Heap.get?_push_of_some _ (Heap.get?_push_of_some _ (Heap.get?_push_of_some _ (Heap.get?_push_of_some _ (Heap.get?_push_size _ rfl))))
  show _ ∧ _
  rw [z2, z3, z4] at g5
  rw [z1, z2] at g3
  rw [z3] at g4
  rw [z1] at g2
  rw [z4]
  refine ⟨⟨_, g5, rfl⟩, h _ ⟨g5, g3, ⟨_, _, g4⟩, ⟨_, g1, rfl, rfl⟩, ⟨_, g2, rfl, rfl⟩, ?_, ?_⟩ z5 up⟩
  · obtain ⟨o, e, r⟩ := hl1; exact ⟨o, up _ _ e, r⟩
  · obtain ⟨o, e, r⟩ := hl2; exact ⟨o, up _ _ e, r⟩
end
end Mine
end

section
set_option autoImplicit false
namespace Mine
open PySem PyProof.Rows PySem.Calls

section
variable {C : Wo} {env : Env} {A : Around} {E : Value → Shared → Prop} {s : Shared}

/-- the block of a comprehension over a zip that was just made -/
theorem zip_run {elt iter : Expr} {x y : Str} {px py tp pos : Pos} {kk : Nat} {csc : Scope} {cl : List (Str × Addr)} {n : Nat} {t1 t2 : Addr} {xs ys : Array Value} (hh : A.handled = none) (h1 : t1 < n) (h2 : t2 < n) (hxy : xs.size ≤ ys.size) (hsz : xs.size ≤ 1000)
    (F : Nat → Value → Prop) {RR : Value → Addr → Result → Shared → Prop} (hcell : ∀ q ∈ csc.names, q.2 ≠ .cell) (hkind : csc.kind = .function) (hx : csc.names.lookup x = some .local) (hy : csc.names.lookup y = some .local) (hne : x ≠ y)
    (S : ZS s.heap n .none t1 t2 xs ys 0) (hn : s.heap.objs.size = n + 5)
    (helt : ∀ (s₃ : Shared) m₃ i u v E', xs[i]? = some u → ys[i]? = some v → s₃.heap.Ns (n + 6) m₃ → m₃ x = some u → m₃ y = some v → (∀ b o, b < n → s.heap.get? b = some o → s₃.heap.get? b = some o) →
      wpAny C.M A (eval elt (compEnvC csc cl (n + 6) env)) (fun w s₄ => F i w ∧ ∃ t, s₄ = { s₃ with toks := t }) E' s₃)
    (hRR : ∀ h' tk m' ws, h'.Ns (n + 6) m' → h'.PlainList (n + 5) ws → ws.size = xs.size → (∀ i w, ws[i]? = some w → F i w) → (∀ b o, b < n → s.heap.get? b = some o → h'.get? b = some o) →
      RR (.ref (n + 5)) (n + 6) (.ok .next) { s with heap := h', toks := tk }) :
    wpAny C.M A (newList []) (fun acc s₃ => wpAny C.M A (newFunctionEnv csc env.globals cl [] env.qual none .none (some env)) (fun cenv s₄ =>
      codeAny C.M A (.compStart (.ListComp elt [⟨.Tuple [.Name x px, .Name y py] kk tp, iter, [], 0⟩] csc pos) 0 (.ref (n + 4)) acc { cenv with scope := relabel csc env }) (RR acc cenv.locals) s₄) E s₃) E s := by
  refine wpAny_newObj_type ?_
  have hz : (s.heap.push { cls := .type "list", dict := none, data := .seq ([] : List Value).toArray }).objs.size = n + 6 := by rw [Heap.size_push, hn]
  refine wpAny_newFunctionEnv hcell (fun y hy => nomatch hy) (fun h₁ hns₁ hsb₁ => ?_) hkind
  dsimp only at hns₁ hsb₁ ⊢
  rw [hz] at hns₁ hsb₁ ⊢
  have hlt : ∀ {b : Addr} {o}, s.heap.get? b = some o → b < n + 5 := fun e => hn ▸ Heap.lt_size e
  have old : ∀ b o, s.heap.get? b = some o → h₁.get? b = some o := fun b o e => hsb₁.extBut b o (Nat.ne_of_lt (Nat.lt_succ_of_lt (hlt e))) (Heap.get?_push_of_some _ (Heap.get?_push_of_some _ e))
  have hD : h₁.PlainList (n + 5) #[] := ⟨_, hsb₁.extBut _ _ (Nat.ne_of_lt (Nat.lt_succ_self _)) (Heap.get?_push_of_some _ (hn ▸ Heap.get?_push_size _ rfl))⟩
  have S₁ : ZS h₁ n .none t1 t2 xs ys 0 := S.keep (fun c o e _ _ => old c o e) h1 h2
  have loop : ∀ s₃ : Shared, s₃ = { s with heap := h₁, toks := s.toks + ([] : List (Str × Value)).length } → codeAny C.M A (.compLoop (.ListComp elt [⟨.Tuple [.Name x px, .Name y py] kk tp, iter, [], 0⟩] csc pos) 0 (.ref (n + 4)) (.ref (n + 5)) (compEnvC csc cl (n + 6) env)) (RR (.ref (n + 5)) (n + 6)) s₃ := by
    rintro s₃ rfl
    refine PySem.W.kcp_loop (fun k s' => ∃ h' tk m' ws, s' = { s with heap := h', toks := tk } ∧ ws.size ≤ xs.size ∧ k = xs.size + 1 - ws.size ∧ ZS h' n .none t1 t2 xs ys ws.size ∧ h'.PlainList (n + 5) ws ∧ h'.Ns (n + 6) m' ∧ (∀ i w, ws[i]? = some w → F i w) ∧
      (∀ b o, b < n → s.heap.get? b = some o → h'.get? b = some o)) ?_ (xs.size + 1) ⟨h₁, _, _, #[], rfl, Nat.zero_le _, rfl, S₁, hD, hns₁, fun i w q => by simp at q, fun b o _ e => old b o e⟩
    rintro k s' ⟨h', tk, m', ws, rfl, hle, rfl, S', hl', hn', hF', hk'⟩
    by_cases hi : ws.size < xs.size
    · have hxi : xs[ws.size]? = some xs[ws.size] := Array.getElem?_eq_getElem hi
      have hyi : ys[ws.size]? = some ys[ws.size] := Array.getElem?_eq_getElem (Nat.lt_of_lt_of_le hi hxy)
      refine zip_tt_item S' h1 h2 hxi hyi fun h₂ S₂ hT₂ hk₂ => ?_
      dsimp only at S₂ hT₂ hk₂ ⊢
      have hzT : n + 4 < h'.objs.size := Heap.lt_size S'.z
      have hDT : n + 5 < h'.objs.size := by obtain ⟨_, e⟩ := hl'; exact Heap.lt_size e
      refine wpAny_letOwnedTupleGo_zip S₂.z fun h₃ hz₃ hs₃ => ?_
      have up₃ : ∀ c o, OffZ n c → h'.get? c = some o → h₃.get? c = some o := fun c o hc e => hs₃.extBut c o hc.1 (hk₂ c o hc e)
      have nz : ∀ {c : Nat}, @Ne Nat c (n + 4) → ∀ o, h₂.get? c = some o → h₃.get? c = some o := fun hc o e => hs₃.extBut _ o hc e
      have S₃ : ZS h₃ n .none t1 t2 xs ys (ws.size + 1) := by
        obtain ⟨_, ti, ⟨a, b, to⟩, ⟨o1, i1, r1⟩, ⟨o2, i2, r2⟩, ⟨o3, l1, r3⟩, ⟨o4, l2, r4⟩⟩ := S₂
        exact ⟨hz₃, nz (by omega) _ ti, ⟨a, b, nz (by omega) _ to⟩, ⟨o1, nz (by omega) _ i1, r1⟩, ⟨o2, nz (by omega) _ i2, r2⟩, ⟨o3, nz (Nat.ne_of_lt (Nat.lt_of_lt_of_le h1 (Nat.le_add_right n 4))) _ l1, r3⟩, ⟨o4, nz (Nat.ne_of_lt (Nat.lt_of_lt_of_le h2 (Nat.le_add_right n 4))) _ l2, r4⟩⟩
      have hT₃ : h₃.IsTuple h'.objs.size #[xs[ws.size], ys[ws.size]] := ⟨_, hs₃.extBut _ _ (Nat.ne_of_gt hzT) hT₂, rfl, _, rfl⟩
      refine PySem.W.kcp_assign (env := compEnvC csc cl (n + 6) env) hh hT₃ (lookup_relabel_local hx) (lookup_relabel_local hy) (by simp [compEnvC, relabel, hkind]) (hn'.at' fun o e => up₃ _ o .six e) fun h₄ tk₄ hn₄ hs₄ => ?_
      have hs₄' : ∀ c o, c ≠ n + 6 → h₃.get? c = some o → h₄.get? c = some o := hs₄
      have hk₄ : ∀ b o, b < n → s.heap.get? b = some o → h₄.get? b = some o := fun b o hb e => hs₄' b o (Nat.ne_of_lt (Nat.lt_of_lt_of_le hb (Nat.le_add_right n 6))) (up₃ b o (.lt hb) (hk' b o hb e))
      refine wpAny_mono (helt { s with heap := h₄, toks := tk₄ } _ ws.size _ _ _ hxi hyi hn₄ (by rw [if_neg hne, if_pos rfl]) (by rw [if_pos rfl]) hk₄) (fun v s₅ h₅ => ?_) fun _ _ e => e
      obtain ⟨hv, t₅, rfl⟩ := h₅
      have hl₄ : h₄.PlainList (n + 5) ws := hl'.at fun o e => hs₄' _ o (by omega) (up₃ _ o .five e)
      refine wpAny_list_append_plain (hsz := Nat.le_trans (Nat.le_of_lt (Nat.lt_of_lt_of_le hi hsz)) (by rw [sizeLine_eq]; omega)) hl₄ fun h₆ hl₆ hs₆ => ?_
      have e : (ws.push v).size = ws.size + 1 := Array.size_push ..
      refine ⟨xs.size + 1 - (ws.size + 1), by omega, h₆, t₅, _, ws.push v, rfl, by rw [e]; exact hi, by rw [e], ?_, hl₆, hn₄.sameBut hs₆ (by show (n + 6 : Nat) ≠ n + 5; omega), fun i w q => ?_, fun b o hb e => hs₆.extBut b o (Nat.ne_of_lt (Nat.lt_of_lt_of_le hb (Nat.le_add_right n 5))) (hk₄ b o hb e)⟩
      · rw [e]
        exact S₃.keep (fun c o e a b => hs₆.extBut c o a (hs₄' c o b e)) h1 h2
      · rw [Array.getElem?_push] at q
        split at q
        · rename_i h; cases q; rw [h]; exact hv
        · exact hF' i w q
    · have he : ws.size = xs.size := Nat.le_antisymm hle (Nat.not_lt.mp hi)
      refine zip_tt_end hh S' h1 (by rw [he]; exact Array.getElem?_eq_none (Nat.le_refl _)) fun h₂ hk₂ => ?_
      exact hRR h₂ tk m' ws (hn'.at' fun o e => hk₂ _ o .six e) (hl'.at fun o e => hk₂ _ o .five e) he hF' fun b o hb e => hk₂ b o (.lt hb) (hk' b o hb e)
  rw [hn]
  exact codeAny_compStart_list (loop _ rfl) (wpAny_pyIter_zip S₁.z (loop _ rfl))
end
end Mine
end

section
set_option autoImplicit false
namespace Mine
open PySem PyProof.Rows PySem.Calls

section
variable {C : Wo} {G : Genv} {X X' : Addr → Prop} {env : Env} {ρ ρ' : Loc} {α α' α'' : List Addr} {σ σ' σ'' : St} {s s' s'' : Shared} {A : Around} {E : Value → Shared → Prop}

theorem SExt.but {I : Addr} {h' : Heap} {t : Nat} (x : SExt env α σ s α' σ' s') (h0 : s.heap.objs.size ≤ I) (he : Heap.ExtBut I s'.heap h') (hz : s'.heap.objs.size ≤ h'.objs.size) :
    SExt env α σ s α' σ' { s' with heap := h', toks := t } :=
  ⟨fun a o e n l => he a o (fun q => Nat.not_lt.mpr h0 (q ▸ Heap.lt_size e)) (x.keep a o e n l), x.new, Nat.le_trans x.size hz, x.gens, x.os, x.lock, x.slen⟩

def FlRel (C : Wo) (X : Addr → Prop) (α : List Addr) (h : Heap) : Fl → Flow → Prop
  | .next, f => f = .next
  | .ret v, f => ∃ u, f = .ret u ∧ VRel C X α h v u

theorem FlRel.narrow {I : Addr} {h : Heap} {fl : Fl} {f : Flow} (x : FlRel C (Hide X I) α h fl f) : FlRel C X α h fl f := by
  cases fl with
  | next => exact x
  | ret v => obtain ⟨u, e, r⟩ := x; exact ⟨u, e, r.grow growNarrow (List.prefix_refl _)⟩

/-- the shapes of expressions that are asked for -/
inductive Sh where
  | name (x : Str) (p : Pos)
  | call (f : Expr) (as : List Expr) (ks : List Keyword) (p : Pos)
  | comp (e : Expr) (g : List Comprehension) (sc : Scope) (p : Pos)
  | sub (b i : Expr) (p : Pos)
  | tup (es : List Expr) (k : Nat) (p : Pos)
  | no
noncomputable def Sh.e : Sh → Option Expr
  | .name x p => some (.Name x p)
  | .call f as ks p => some (.Call f as ks p)
  | .comp e g sc p => some (.ListComp e g sc p)
  | .sub b i p => some (.Subscript b i p)
  | .tup es k p => some (.Tuple es k p)
  | .no => none
noncomputable def sh : Expr → Sh
  | .Name x p => .name x p
  | .Call f as ks p => .call f as ks p
  | .ListComp e g sc p => .comp e g sc p
  | .Subscript b i p => .sub b i p
  | .Tuple es k p => .tup es k p
  | _ => .no
theorem sh_e {e x : Expr} (h : (sh e).e = some x) : e = x := by
  cases e <;> first | exact Option.some.inj h | cases h
noncomputable def nameP (e : Expr) : Option (Str × Pos) := match sh e with
  | .name x p => some (x, p)
  | _ => none
noncomputable def callP (e : Expr) : Option (Expr × List Expr × List Keyword × Pos) := match sh e with
  | .call f as ks p => some (f, as, ks, p)
  | _ => none
noncomputable def compP (e : Expr) : Option (Expr × List Comprehension × Scope × Pos) := match sh e with
  | .comp e g sc p => some (e, g, sc, p)
  | _ => none
noncomputable def subP (e : Expr) : Option (Expr × Expr × Pos) := match sh e with
  | .sub b i p => some (b, i, p)
  | _ => none
noncomputable def tupP (e : Expr) : Option (List Expr × Nat × Pos) := match sh e with
  | .tup es k p => some (es, k, p)
  | _ => none
theorem nameP_some {e : Expr} {x : Str × Pos} (h : nameP e = some x) : e = .Name x.1 x.2 := sh_e (by unfold nameP at h; cases q : sh e <;> rw [q] at h <;> cases h; rfl)
theorem callP_some {e : Expr} {x : Expr × List Expr × List Keyword × Pos} (h : callP e = some x) : e = .Call x.1 x.2.1 x.2.2.1 x.2.2.2 := sh_e (by unfold callP at h; cases q : sh e <;> rw [q] at h <;> cases h; rfl)
theorem compP_some {e : Expr} {x : Expr × List Comprehension × Scope × Pos} (h : compP e = some x) : e = .ListComp x.1 x.2.1 x.2.2.1 x.2.2.2 := sh_e (by unfold compP at h; cases q : sh e <;> rw [q] at h <;> cases h; rfl)
theorem subP_some {e : Expr} {x : Expr × Expr × Pos} (h : subP e = some x) : e = .Subscript x.1 x.2.1 x.2.2 := sh_e (by unfold subP at h; cases q : sh e <;> rw [q] at h <;> cases h; rfl)
theorem tupP_some {e : Expr} {x : List Expr × Nat × Pos} (h : tupP e = some x) : e = .Tuple x.1 x.2.1 x.2.2 := sh_e (by unfold tupP at h; cases q : sh e <;> rw [q] at h <;> cases h; rfl)
noncomputable def list1 {β : Type} : List β → Option β
  | [x] => some x
  | _ => none
theorem list1_some {β : Type} {l : List β} {x : β} (h : list1 l = some x) : l = [x] := by
  cases l with
  | nil => cases h
  | cons a r => cases r with
    | nil => cases h; rfl
    | cons _ _ => cases h
noncomputable def okIt (g : Str) (K : Str → Option D) (sc : Scope) (it : Expr) : Bool :=
  ((callP it).bind fun c => (nameP c.1).map fun f => decide (f.1 = g) && gi sc f.1 && okEs K sc c.2.1 && c.2.2.1.isEmpty) == some true

noncomputable def okTgt (K : Str → Option D) (sc : Scope) (ts : List Expr) : Bool :=
  ((list1 ts).bind fun t => match nameP t with
    | some x => some (okN sc x.1)
    | none => (subP t).map fun b => okE K sc b.1 && okE K sc b.2.1) == some true
/-- what a comprehension over a range must be that is bound to a name -/
noncomputable def okCompX (K : Str → Option D) (sc : Scope) (y : Str) (py : Pos) (elt : Expr) (x : Str) (a : Expr) (csc : Scope) (pos : Pos) : Bool :=
  gi sc "range" && okE K sc a && (sc.names.lookup y == some .local) && (py.line == pos.line) && !(csc.names.any fun q => q.1 == y && (q.2 == .local || q.2 == .cell)) && csc.names.all (fun q => !(q.2 == .cell)) && (csc.kind == .function) &&
    csc.names.all (fun q => !(q.2 == .local) || csc.names.lookup q.1 == some .local) && (csc.names.lookup x == some .local) && csc.names.all (fun q => !(q.2 == .free) || sc.names.lookup q.1 == some .cell) && okP elt
noncomputable def okCompA (K : Str → Option D) (sc : Scope) (ts : List Expr) (e : Expr) : Bool :=
  ((list1 ts).bind fun t => (nameP t).bind fun y => (compP e).bind fun c => (list1 c.2.1).bind fun g => (nameP g.target).bind fun x => (callP g.iter).bind fun ca => (nameP ca.1).bind fun f => (list1 ca.2.1).map fun a =>
    ca.2.2.1.isEmpty && g.ifs.isEmpty && (g.is_async == 0) && decide (f.1 = ("range" : Str)) && okCompX K sc y.1 y.2 c.1 x.1 a c.2.2.1 c.2.2.2) == some true

/-- sorted of a comprehension over a zip, bound to a name -/
noncomputable def names2 (es : List Expr) : Option ((Str × Pos) × (Str × Pos)) := match es with
  | [a, b] => (nameP a).bind fun x => (nameP b).map fun y => (x, y)
  | _ => none
theorem names2_some {es : List Expr} {x : (Str × Pos) × (Str × Pos)} (h : names2 es = some x) : es = [.Name x.1.1 x.1.2, .Name x.2.1 x.2.2] := by
  match es, h with
  | [a, b], h =>
    obtain ⟨u, h1, h⟩ := Option.bind_eq_some_iff.mp h
    obtain ⟨v, h2, rfl⟩ := Option.map_eq_some_iff.mp h
    rw [nameP_some h1, nameP_some h2]
noncomputable def okZipX (K : Str → Option D) (sc : Scope) (elt : Expr) (x y : Str) (args : List Expr) (csc : Scope) : Bool :=
  gi sc "sorted" && gi sc "zip" && okEs K sc args && csc.names.all (fun q => !(q.2 == .cell)) && (csc.kind == .function) &&
    csc.names.all (fun q => !(q.2 == .local) || csc.names.lookup q.1 == some .local) && (csc.names.lookup x == some .local) && (csc.names.lookup y == some .local) && !(x == y) && csc.names.all (fun q => !(q.2 == .free)) && okP elt
noncomputable def okZipA (K : Str → Option D) (sc : Scope) (ts : List Expr) (e : Expr) : Bool :=
  ((list1 ts).bind fun t => (nameP t).bind fun r => (callP e).bind fun so => (nameP so.1).bind fun sf => (list1 so.2.1).bind fun ce => (compP ce).bind fun c => (list1 c.2.1).bind fun g => (tupP g.target).bind fun tg => (names2 tg.1).bind fun xy =>
    (callP g.iter).bind fun ca => (nameP ca.1).map fun f => okN sc r.1 && so.2.2.1.isEmpty && decide (sf.1 = ("sorted" : Str)) && ca.2.2.1.isEmpty && g.ifs.isEmpty && (g.is_async == 0) && decide (f.1 = ("zip" : Str)) && okZipX K sc c.1 xy.1.1 xy.2.1 ca.2.1 c.2.2.1) == some true

mutual
noncomputable def okS (K : Str → Option D) (sc : Scope) : Stmt → Bool
  | .Pass _ => true
  | .Expr e _ => okE K sc e
  | .Return e _ => match e with
    | some e => okE K sc e
    | none => true
  | .Assign ts e _ => (okE K sc e && okTgt K sc ts) || okCompA K sc ts e || okZipA K sc ts e
  | .If t b e _ => okE K sc t && okSs K sc b && okSs K sc e
  | .For t it body _ _ => (okIt "range" K sc it || okIt "reversed" K sc it || (okE K sc it && (nameP it).isSome)) && okSs K sc body && (((nameP t).map fun x => okN sc x.1) == some true)
  | _ => false
noncomputable def okSs (K : Str → Option D) (sc : Scope) : List Stmt → Bool
  | [] => true
  | s :: r => okS K sc s && okSs K sc r
end

section
variable {K : Str → Option D} {sc : Scope}
theorem okS_Expr {e : Expr} {p : Pos} : okS K sc (.Expr e p) = okE K sc e := rfl
theorem okS_Ret {e : Expr} {p : Pos} : okS K sc (.Return (some e) p) = okE K sc e := rfl
theorem okS_If {t : Expr} {b e : List Stmt} {p : Pos} : okS K sc (.If t b e p) = (okE K sc t && okSs K sc b && okSs K sc e) := rfl
theorem okTgt_ex {ts : List Expr} (h : okTgt K sc ts = true) : (∃ x q, ts = [.Name x q] ∧ okN sc x = true) ∨ ∃ b i q, ts = [.Subscript b i q] ∧ okE K sc b = true ∧ okE K sc i = true := by
  unfold okTgt at h
  rw [beq_iff_eq, Option.bind_eq_some_iff] at h
  obtain ⟨t, h1, h⟩ := h
  obtain rfl := list1_some h1
  split at h
  · rename_i x hx
    obtain rfl := nameP_some hx
    exact .inl ⟨_, _, rfl, Option.some.inj h⟩
  · obtain ⟨b, hb, h2⟩ := Option.map_eq_some_iff.mp h
    obtain rfl := subP_some hb
    rw [Bool.and_eq_true] at h2
    exact .inr ⟨_, _, _, rfl, h2⟩
theorem okS_Assign {ts : List Expr} {e : Expr} {p : Pos} (h : okS K sc (.Assign ts e p) = true) : ((okE K sc e = true ∧ okTgt K sc ts = true) ∨ okCompA K sc ts e = true) ∨ okZipA K sc ts e = true := by
  replace h : ((okE K sc e && okTgt K sc ts) || okCompA K sc ts e || okZipA K sc ts e) = true := h
  rw [Bool.or_eq_true, Bool.or_eq_true, Bool.and_eq_true] at h
  exact h
theorem okZipA_ex {ts : List Expr} {e : Expr} (h : okZipA K sc ts e = true) : ∃ r pr ps pc elt x y px py k tp pf args pz csc pos, ts = [.Name r pr] ∧ okN sc r = true ∧
    e = .Call (.Name "sorted" ps) [.ListComp elt [⟨.Tuple [.Name x px, .Name y py] k tp, .Call (.Name "zip" pf) args [] pz, [], 0⟩] csc pos] [] pc ∧ okZipX K sc elt x y args csc = true := by
  unfold okZipA at h
  rw [beq_iff_eq] at h
  obtain ⟨t, h1, k1⟩ := Option.bind_eq_some_iff.mp h
  obtain ⟨⟨r, pr⟩, h2, k2⟩ := Option.bind_eq_some_iff.mp k1
  obtain ⟨⟨sf, sa, sk, pc⟩, h3, k3⟩ := Option.bind_eq_some_iff.mp k2
  obtain ⟨⟨sn, ps⟩, h4, k4⟩ := Option.bind_eq_some_iff.mp k3
  obtain ⟨ce, h5, k5⟩ := Option.bind_eq_some_iff.mp k4
  obtain ⟨⟨elt, gs, csc, pos⟩, h6, k6⟩ := Option.bind_eq_some_iff.mp k5
  obtain ⟨⟨gt, gi', gf, ga⟩, h7, k7⟩ := Option.bind_eq_some_iff.mp k6
  obtain ⟨⟨te, k, tp⟩, h8, k8⟩ := Option.bind_eq_some_iff.mp k7
  obtain ⟨⟨⟨x, px⟩, y, py⟩, h9, k9⟩ := Option.bind_eq_some_iff.mp k8
  obtain ⟨⟨cf, ca, ck, pz⟩, h10, k10⟩ := Option.bind_eq_some_iff.mp k9
  obtain ⟨⟨f, pf⟩, h11, k11⟩ := Option.map_eq_some_iff.mp k10
  replace k11 : (okN sc r && sk.isEmpty && decide (sn = ("sorted" : Str)) && ck.isEmpty && gf.isEmpty && (ga == 0) && decide (f = ("zip" : Str)) && okZipX K sc elt x y ca csc) = true := k11
  simp only [Bool.and_eq_true, List.isEmpty_iff, beq_iff_eq, decide_eq_true_eq] at k11
  have e1 : ts = [t] := list1_some h1
  have e2 : t = .Name r pr := nameP_some h2
  have e3 : e = .Call sf sa sk pc := callP_some h3
  have e4 : sf = .Name sn ps := nameP_some h4
  have e5 : sa = [ce] := list1_some h5
  have e6 : ce = .ListComp elt gs csc pos := compP_some h6
  have e7 : gs = [⟨gt, gi', gf, ga⟩] := list1_some h7
  have e8 : gt = .Tuple te k tp := tupP_some h8
  have e9 : te = [.Name x px, .Name y py] := names2_some h9
  have e10 : gi' = .Call cf ca ck pz := callP_some h10
  have e11 : cf = .Name f pf := nameP_some h11
  refine ⟨r, pr, ps, pc, elt, x, y, px, py, k, tp, pf, ca, pz, csc, pos, ?_, k11.1.1.1.1.1.1.1, ?_, k11.2⟩
  · rw [e1, e2]
  · rw [e3, e4, e5, e6, e7, e8, e9, e10, e11, k11.1.1.1.1.1.1.2, k11.1.1.1.1.1.2, k11.1.1.1.1.2, k11.1.1.1.2, k11.1.1.2, k11.1.2]
theorem okCompA_ex {ts : List Expr} {e : Expr} (h : okCompA K sc ts e = true) : ∃ y py elt x px pf a pr csc pos, ts = [.Name y py] ∧ e = .ListComp elt [⟨.Name x px, .Call (.Name "range" pf) [a] [] pr, [], 0⟩] csc pos ∧ okCompX K sc y py elt x a csc pos = true := by
  unfold okCompA at h
  rw [beq_iff_eq] at h
  obtain ⟨t, h1, k1⟩ := Option.bind_eq_some_iff.mp h
  obtain ⟨⟨y, py⟩, h2, k2⟩ := Option.bind_eq_some_iff.mp k1
  obtain ⟨⟨elt, gs, csc, pos⟩, h3, k3⟩ := Option.bind_eq_some_iff.mp k2
  obtain ⟨⟨gt, gi', gf, ga⟩, h4, k4⟩ := Option.bind_eq_some_iff.mp k3
  obtain ⟨⟨x, px⟩, h5, k5⟩ := Option.bind_eq_some_iff.mp k4
  obtain ⟨⟨cf, ca, ck, pr⟩, h6, k6⟩ := Option.bind_eq_some_iff.mp k5
  obtain ⟨⟨f, pf⟩, h7, k7⟩ := Option.bind_eq_some_iff.mp k6
  obtain ⟨a, h8, k8⟩ := Option.map_eq_some_iff.mp k7
  replace k8 : (ck.isEmpty && gf.isEmpty && (ga == 0) && decide (f = ("range" : Str)) && okCompX K sc y py elt x a csc pos) = true := k8
  simp only [Bool.and_eq_true, List.isEmpty_iff, beq_iff_eq, decide_eq_true_eq] at k8
  have e1 : ts = [t] := list1_some h1
  have e2 : t = .Name y py := nameP_some h2
  have e3 : e = .ListComp elt gs csc pos := compP_some h3
  have e4 : gs = [⟨gt, gi', gf, ga⟩] := list1_some h4
  have e5 : gt = .Name x px := nameP_some h5
  have e6 : gi' = .Call cf ca ck pr := callP_some h6
  have e7 : cf = .Name f pf := nameP_some h7
  have e8 : ca = [a] := list1_some h8
  refine ⟨y, py, elt, x, px, pf, a, pr, csc, pos, ?_, ?_, k8.2⟩
  · rw [e1, e2]
  · rw [e3, e4, e5, e6, e7, e8, k8.1.1.1.1, k8.1.1.1.2, k8.1.1.2, k8.1.2]
theorem okIt_ex {g : Str} {it : Expr} (h : okIt g K sc it = true) : ∃ p args q, it = .Call (.Name g p) args [] q ∧ gi sc g = true ∧ okEs K sc args = true := by
  unfold okIt at h
  rw [beq_iff_eq] at h
  simp only [Option.bind_eq_some_iff, Option.map_eq_some_iff] at h
  obtain ⟨⟨cf, ca, ck, pr⟩, h1, ⟨f, pf⟩, h2, h⟩ := h
  obtain rfl := callP_some h1
  obtain rfl := nameP_some h2
  simp only [Bool.and_eq_true, List.isEmpty_iff, decide_eq_true_eq] at h
  obtain ⟨⟨⟨rfl, hg⟩, ha⟩, rfl⟩ := h
  exact ⟨pf, ca, pr, rfl, hg, ha⟩
theorem okS_For {t it : Expr} {b e : List Stmt} {p : Pos} (h : okS K sc (.For t it b e p) = true) : ((okIt "range" K sc it = true ∨ okIt "reversed" K sc it = true) ∨ (okE K sc it = true ∧ ∃ y q, it = .Name y q)) ∧ okSs K sc b = true ∧ ∃ x q, t = .Name x q ∧ okN sc x = true := by
  replace h : ((okIt "range" K sc it || okIt "reversed" K sc it || (okE K sc it && (nameP it).isSome)) && okSs K sc b && (((nameP t).map fun x => okN sc x.1) == some true)) = true := h
  simp only [Bool.and_eq_true, Bool.or_eq_true, beq_iff_eq, Option.map_eq_some_iff, Option.isSome_iff_exists] at h
  obtain ⟨⟨h1, h2⟩, ⟨x, q⟩, h3, h4⟩ := h
  obtain rfl := nameP_some h3
  exact ⟨h1.imp id fun ⟨a, y, b⟩ => ⟨a, y.1, y.2, nameP_some b⟩, h2, x, q, rfl, h4⟩
theorem okSs_cons {s : Stmt} {r : List Stmt} : okSs K sc (s :: r) = (okS K sc s && okSs K sc r) := rfl
end

def SOk (C : Wo) (G : Genv) (A : Around) (env : Env) (st : Stmt) : Prop :=
  ∀ (X : Addr → Prop) (ρ : Loc) (α : List Addr) (σ : St) (fl : Fl) (ρ' : Loc) (σ' : St) (s : Shared) (E : Value → Shared → Prop) (Q : Flow → Shared → Prop),
    okS G.const env.scope st = true → evS G st ρ σ = some (fl, ρ', σ') → Rel C X env ρ α σ s →
    (∀ α' f s', Rel C X env ρ' α' σ' s' → SExt env α σ s α' σ' s' → FlRel C X α' s'.heap fl f → Q f s') → wpAny C.M A (exec st env) Q E s
def SsOk (C : Wo) (G : Genv) (A : Around) (env : Env) (ss : List Stmt) : Prop :=
  ∀ (X : Addr → Prop) (ρ : Loc) (α : List Addr) (σ : St) (fl : Fl) (ρ' : Loc) (σ' : St) (s : Shared) (E : Value → Shared → Prop) (Q : Flow → Shared → Prop),
    okSs G.const env.scope ss = true → evSs G ss ρ σ = some (fl, ρ', σ') → Rel C X env ρ α σ s →
    (∀ α' f s', Rel C X env ρ' α' σ' s' → SExt env α σ s α' σ' s' → FlRel C X α' s'.heap fl f → Q f s') → wpAny C.M A (execs ss env) Q E s

theorem SsOk.nil : SsOk C G A env [] := fun X ρ α σ fl ρ' σ' s E Q _ h R hQ => by
  simp only [evSs_nil, Option.some.injEq, Prod.mk.injEq] at h
  obtain ⟨rfl, rfl, rfl⟩ := h
  exact wpAny_execs_nil (hQ α _ s R .refl rfl)

theorem SsOk.cons {st : Stmt} {r : List Stmt} (h1 : SOk C G A env st) (h2 : SsOk C G A env r) : SsOk C G A env (st :: r) := fun X ρ α σ fl ρ' σ' s E Q ok h R hQ => by
  simp only [okSs_cons, Bool.and_eq_true] at ok
  simp only [evSs_cons, Option.bind_eq_some_iff] at h
  obtain ⟨⟨fl₁, ρ₁, σ₁⟩, e1, e2⟩ := h
  dsimp only at e2
  refine wpAny_execs_cons (h1 X ρ α σ fl₁ ρ₁ σ₁ s E _ ok.1 e1 R fun α₁ f s₁ R₁ E₁ F₁ => ?_)
  cases fl₁ with
  | next =>
    simp only [FlRel] at F₁
    subst F₁
    exact h2 X ρ₁ α₁ σ₁ fl ρ' σ' s₁ E Q ok.2 e2 R₁ fun α₂ f s₂ R₂ E₂ F₂ => hQ α₂ f s₂ R₂ (E₁.trans E₂) F₂
  | ret v =>
    simp only [Option.some.injEq, Prod.mk.injEq] at e2
    obtain ⟨rfl, rfl, rfl⟩ := e2
    obtain ⟨u, rfl, hv⟩ := F₁
    exact hQ α₁ _ s₁ R₁ E₁ ⟨u, rfl, hv⟩

theorem swaps_plain {e : Expr} {t : Option Expr} {n : Nat} (ok : okE G.const env.scope e = true) : swapsWith e t n env = pure false := by
  cases e <;> first | rfl | cases ok

theorem ok_Pass {pos : Pos} : SOk C G A env (.Pass pos) := fun X ρ α σ fl ρ' σ' s E Q _ h R hQ => by
  simp only [evS_Pass, Option.some.injEq, Prod.mk.injEq] at h
  obtain ⟨rfl, rfl, rfl⟩ := h
  exact wpAny_Pass (hQ α _ s R .refl rfl)

theorem interactive_no (R : Rel C X env ρ α σ s) : interactive env = false := by
  unfold interactive
  rw [R.fr.kind]; rfl

theorem ok_Expr (W : Wk C G A) {e : Expr} {pos : Pos} : SOk C G A env (.Expr e pos) := fun X ρ α σ fl ρ' σ' s E Q ok h R hQ => by
  rw [okS_Expr] at ok
  simp only [evS_Expr, Option.map_eq_some_iff, Prod.mk.injEq] at h
  obtain ⟨⟨v, σ₁⟩, e1, rfl, rfl, rfl⟩ := h
  exact wpAny_Expr_any ((all_ok W e).1 X ρ α σ _ v σ₁ s E _ ok e1 R fun α₁ u s₁ R₁ E₁ V₁ => hQ α₁ _ s₁ R₁ E₁.toS rfl) (interactive_no R) (swaps_plain ok)

theorem ok_Return (W : Wk C G A) {e : Option Expr} {pos : Pos} : SOk C G A env (.Return e pos) := fun X ρ α σ fl ρ' σ' s E Q ok h R hQ => by
  cases e with
  | none =>
    simp only [evS_RetN, Option.some.injEq, Prod.mk.injEq] at h
    obtain ⟨rfl, rfl, rfl⟩ := h
    exact wpAny_Return_none (hQ α _ s R .refl ⟨_, rfl, by simp only [VRel, DRel]⟩)
  | some e =>
    rw [okS_Ret] at ok
    simp only [evS_Ret, Option.map_eq_some_iff, Prod.mk.injEq] at h
    obtain ⟨⟨v, σ₁⟩, e1, rfl, rfl, rfl⟩ := h
    exact wpAny_Return_some ((all_ok W e).1 X ρ α σ _ v σ₁ s E _ ok e1 R fun α₁ u s₁ R₁ E₁ V₁ => hQ α₁ _ s₁ R₁ E₁.toS ⟨u, rfl, V₁⟩)

theorem ok_Assign (W : Wk C G A) {ts : List Expr} {e : Expr} {pos : Pos} {X : Addr → Prop} {ρ : Loc} {α : List Addr} {σ : St} {fl : Fl} {ρ' : Loc} {σ' : St} {s : Shared} {E : Value → Shared → Prop} {Q : Flow → Shared → Prop}
    (oke : okE G.const env.scope e = true) (okt : okTgt G.const env.scope ts = true) (h : evS G (.Assign ts e pos) ρ σ = some (fl, ρ', σ')) (R : Rel C X env ρ α σ s)
    (hQ : ∀ α' f s', Rel C X env ρ' α' σ' s' → SExt env α σ s α' σ' s' → FlRel C X α' s'.heap fl f → Q f s') : wpAny C.M A (exec (.Assign ts e pos) env) Q E s := by
  rcases okTgt_ex okt with ⟨x, px, rfl, ok⟩ | ⟨b, i, px, rfl, ok⟩
  · simp only [evS_AssignN, Option.map_eq_some_iff, Prod.mk.injEq] at h
    obtain ⟨⟨v, σ₁⟩, e1, rfl, rfl, rfl⟩ := h
    refine wpAny_Assign_Name ((all_ok W e).1 X ρ α σ _ v σ₁ s E _ oke e1 R fun α₁ u s₁ R₁ E₁ V₁ => ?_) (swaps_plain oke)
    exact store_ok R₁ ok V₁ fun s₂ R₂ E₂ => hQ α₁ _ s₂ R₂ (E₁.toS.trans E₂) rfl
  · simp only [evS_AssignS, Option.bind_eq_some_iff, Option.map_eq_some_iff, Prod.mk.injEq] at h
    obtain ⟨⟨v, σ₁⟩, e1, ⟨bv, σ₂⟩, e2, ⟨iv, σ₃⟩, e3, σ₄, e4, rfl, rfl, rfl⟩ := h
    refine wpAny_Assign_Subscript ((all_ok W e).1 X ρ α σ _ v σ₁ s E _ oke e1 R fun α₁ u s₁ R₁ E₁ V₁ => ?_) (swaps_plain oke)
    refine (all_ok W b).1 X ρ α₁ σ₁ _ bv σ₂ s₁ E _ ok.1 e2 R₁ fun α₂ ub s₂ R₂ E₂ V₂ => ?_
    refine (all_ok W i).1 X ρ α₂ σ₂ _ iv σ₃ s₂ E _ ok.2 e3 R₂ fun α₃ ui s₃ R₃ E₃ V₃ => ?_
    exact setItemV_ok R₃ (V₂.ext R₂ E₃) V₃ ((V₁.ext R₁ E₂).ext R₂ E₃) e4 fun s₄ R₄ E₄ => hQ α₃ _ s₄ R₄ (((E₁.trans E₂).trans E₃).trans E₄).toS rfl

theorem ok_If (W : Wk C G A) {t : Expr} {b e : List Stmt} {pos : Pos} (hb : SsOk C G A env b) (he : SsOk C G A env e) : SOk C G A env (.If t b e pos) := fun X ρ α σ fl ρ' σ' s E Q ok h R hQ => by
  simp only [okS_If, Bool.and_eq_true] at ok
  simp only [evS_If, Option.bind_eq_some_iff] at h
  obtain ⟨⟨v, σ₁⟩, e1, c, e2, e3⟩ := h
  dsimp only at e3
  refine wpAny_If ((all_ok W t).2.1 X ρ α σ _ v c σ₁ s E _ ok.1.1 e1 e2 R fun α₁ s₁ R₁ E₁ => ?_)
  cases c with
  | true => exact hb X ρ α₁ σ₁ fl ρ' σ' s₁ E Q ok.1.2 e3 R₁ fun α₂ f s₂ R₂ E₂ F₂ => hQ α₂ f s₂ R₂ (E₁.toS.trans E₂) F₂
  | false => exact he X ρ α₁ σ₁ fl ρ' σ' s₁ E Q ok.2 e3 R₁ fun α₂ f s₂ R₂ E₂ F₂ => hQ α₂ f s₂ R₂ (E₁.toS.trans E₂) F₂

end
end Mine
end

section
set_option autoImplicit false
namespace Mine
open PySem PyProof.Rows PySem.Calls

theorem mapO_get {β γ : Type} {f : β → Option γ} : ∀ {l : List β} {ds : List γ} {i : Nat} {x : β}, mapO f l = some ds → l[i]? = some x → ∃ d, f x = some d ∧ ds[i]? = some d
  | [], _, _, _, _, h => by simp at h
  | y :: r, ds, i, x, hm, h => by
    rw [mapO_cons] at hm
    simp only [Option.bind_eq_some_iff, Option.map_eq_some_iff] at hm
    obtain ⟨d, hd, ds', hm, rfl⟩ := hm
    cases i with
    | zero => simp at h; subst h; exact ⟨d, hd, rfl⟩
    | succ i =>
      obtain ⟨d2, h1, h2⟩ := mapO_get (i := i) hm (by simpa using h)
      exact ⟨d2, h1, by simpa using h2⟩
theorem mapO_len {β γ : Type} {f : β → Option γ} : ∀ {l : List β} {ds : List γ}, mapO f l = some ds → ds.length = l.length
  | [], _, h => by cases h; rfl
  | y :: r, ds, hm => by
    rw [mapO_cons] at hm
    simp only [Option.bind_eq_some_iff, Option.map_eq_some_iff] at hm
    obtain ⟨d, hd, ds', hm, rfl⟩ := hm
    rw [List.length_cons, List.length_cons, mapO_len hm]

theorem zipD_get : ∀ {xs ys : List D} {i : Nat} {a b : D}, xs[i]? = some a → ys[i]? = some b → (zipD xs ys)[i]? = some (.d (.tup [a, b]))
  | [], _, _, _, _, h, _ => by simp at h
  | _ :: _, [], _, _, _, _, h => by simp at h
  | x :: xs, y :: ys, 0, a, b, h1, h2 => by simp at h1 h2; subst h1; subst h2; rfl
  | x :: xs, y :: ys, i + 1, a, b, h1, h2 => zipD_get (xs := xs) (ys := ys) (i := i) (by simpa using h1) (by simpa using h2)
theorem zipD_len : ∀ {xs ys : List D}, xs.length = ys.length → (zipD xs ys).length = xs.length
  | [], [], _ => rfl
  | [], _ :: _, h => nomatch h
  | _ :: _, [], h => nomatch h
  | x :: xs, y :: ys, h => by
    show (zipD xs ys).length + 1 = xs.length + 1
    rw [zipD_len (Nat.succ.inj h)]
theorem dsRel_at {C : Wo} {B : Addr → Prop} {h : Heap} : ∀ {xs : List D} {vs : List Value} {i : Nat} {u : Value}, DsRel C B h xs vs → vs[i]? = some u → ∃ a, xs[i]? = some a ∧ DRel C B h a u
  | [], vs, i, u, r, e => by
    simp only [DsRel] at r
    subst r
    simp at e
  | x :: xs, vs, i, u, r, e => by
    simp only [DsRel] at r
    obtain ⟨v, r', rfl, h1, h2⟩ := r
    cases i with
    | zero => simp at e; subst e; exact ⟨x, rfl, h1⟩
    | succ i =>
      obtain ⟨a, k1, k2⟩ := dsRel_at (i := i) h2 (by simpa using e)
      exact ⟨a, by simpa using k1, k2⟩
theorem dsRel_scal {C : Wo} {B : Addr → Prop} {h : Heap} : ∀ {ds : List D} {ws : List Value}, ds.length = ws.length → (∀ (i : Nat) w, ws[i]? = some w → ∃ d, ds[i]? = some d ∧ Scal d w) → DsRel C B h ds ws
  | [], [], _, _ => by simp only [DsRel]
  | [], _ :: _, h, _ => nomatch h
  | _ :: _, [], h, _ => nomatch h
  | d :: ds, w :: ws, hl, hF => by
    simp only [DsRel]
    obtain ⟨d', e, hs⟩ := hF 0 w rfl
    simp at e; subst e
    exact ⟨w, ws, rfl, hs.rel, dsRel_scal (Nat.succ.inj hl) fun i w q => hF (i + 1) w q⟩
theorem captured_nil {csc : Scope} (hf : ∀ q ∈ csc.names, ¬ q.2 = .free) (ρ : Loc) : captured csc ρ = [] := by
  unfold captured
  refine List.filter_eq_nil_iff.mpr fun p _ q => ?_
  exact hf _ (mem_of_lookup (eq_of_beq q)) rfl
theorem zipF_ex {σ : St} {ws : List V} {r : List V × Option Nat} (h : iterF σ "zip" ws = some r) : ∃ xs ys, ws = [.d (.tup xs), .d (.tup ys)] ∧ xs.length = ys.length ∧ xs.length ≤ 1000 ∧ r.1 = zipD xs ys := by
  unfold iterF at h
  rw [if_neg (by decide +kernel), if_pos rfl] at h
  split at h
  · simp only [Option.bind_eq_some_iff] at h
    obtain ⟨xs, hx, ys, hy, h⟩ := h
    split at h
    · rename_i hl
      cases h
      exact ⟨xs, ys, by rw [tupV_some hx, tupV_some hy], hl.1, hl.2, rfl⟩
    · cases h
  · cases h

section
variable {C : Wo} {G : Genv} {X X' : Addr → Prop} {env : Env} {ρ ρ' : Loc} {α α' α'' : List Addr} {σ σ' σ'' : St} {s s' s'' : Shared} {A : Around} {E : Value → Shared → Prop}

theorem zip_ev (W : Wk C G A) {x y : Str} {px py tp pf pz pos : Pos} {k : Nat} {elt : Expr} {args : List Expr} {csc : Scope} {v : V} {Q : Value → Shared → Prop} (ok : okZipX G.const env.scope elt x y args csc = true)
    (h : evE G ρ false (.ListComp elt [⟨.Tuple [.Name x px, .Name y py] k tp, .Call (.Name "zip" pf) args [] pz, [], 0⟩] csc pos) σ = some (v, σ')) (R : Rel C X env ρ α σ s)
    (hQ : ∀ α' u s', Rel C X env ρ α' σ' s' → Ext env α σ s α' σ' s' → VRel C X α' s'.heap v u → Q u s') :
    wpAny C.M A (eval (.ListComp elt [⟨.Tuple [.Name x px, .Name y py] k tp, .Call (.Name "zip" pf) args [] pz, [], 0⟩] csc pos) env) Q E s := by
  unfold okZipX at ok
  simp only [Bool.and_eq_true, beq_iff_eq, Bool.not_eq_true', List.all_eq_true, Bool.or_eq_true, beq_eq_false_iff_ne] at ok
  obtain ⟨⟨⟨⟨⟨⟨⟨⟨⟨⟨_, hg⟩, oka⟩, hcell⟩, hkind⟩, hnames⟩, hx⟩, hy⟩, hne⟩, hfree⟩, okp⟩ := ok
  have g := gi_kind hg
  rw [evE_Comp, evI_Call] at h
  simp only [Option.map_eq_some_iff, Option.bind_eq_some_iff] at h
  obtain ⟨⟨vs, src, σ₁⟩, ⟨⟨ws, σ₁'⟩, e1, ⟨vs', src'⟩, e2, e5⟩, ds, e3, e4⟩ := h
  cases e5
  dsimp only at e2 e3 e4
  obtain ⟨xs, ys, rfl, hl, hl', rfl⟩ := zipF_ex e2
  obtain ⟨cl, hclos, _⟩ := closure_ok (csc := csc) (env := env) fun n k hm hk => absurd hk (hfree (n, k) hm)
  show wpAny C.M A (comprehension (.ListComp elt [⟨.Tuple [.Name x px, .Name y py] k tp, .Call (.Name "zip" pf) args [] pz, [], 0⟩] csc pos) csc env _ (newList []) false (eval (.Call (.Name "zip" pf) args [] pz) env) none) Q E s
  refine wpAny_comprehension_free (use := none) rfl (by intro _; rfl) hclos hkind (fun q hq hl => (hnames q hq).elim (fun h => absurd hl h) id) ?_
  show wpAny C.M A (do callWith pz (← eval (.Name "zip" pf) env) [] (backTo pz (starEach args env)) []) _ E s
  refine wpAny_bind (Name_function_global R.fr.kind g.1 (loadGlobal_builtin (R.gns W) W.zp.1 (R.bns W) W.zp.2 ?_) g.2)
  refine call_with (P := fun _ => True) e1 (fun h _ => ⟨_, .inr (.inl rfl), keeper_type _ _ _⟩) ?_
  refine (alls_ok W args).1 X ρ α σ _ _ σ₁' s E pz _ oka e1 R fun α₁ us s₁ R₁ E₁ V₁ => ⟨trivial, ?_⟩
  rw [List.nil_append]
  obtain ⟨u, u', rfl, hu, hu'⟩ := V₁.two
  simp only [VRel, DRel] at hu hu'
  obtain ⟨t1, vs1, rfl, ht1, _, hd1⟩ := hu
  obtain ⟨t2, vs2, rfl, ht2, _, hd2⟩ := hu'
  refine call_zip_tt (xs := vs1.toArray) (ys := vs2.toArray) ht1 ht2 fun h₂ S₂ hz₂ up₂ => ?_
  refine wpAny_pyIter_zip S₂.z ?_
  have lt1 : t1 < s₁.heap.objs.size := by obtain ⟨o, e, _⟩ := ht1; exact Heap.lt_size e
  have lt2 : t2 < s₁.heap.objs.size := by obtain ⟨o, e, _⟩ := ht2; exact Heap.lt_size e
  have len1 := hd1.length
  have len2 := hd2.length
  have hcap := captured_nil hfree ρ
  refine zip_run (C := C) (env := env) (s := { s₁ with heap := h₂ }) (n := s₁.heap.objs.size) W.hh lt1 lt2 (by simp; omega) (by simp; omega) (fun i w => ∃ d, ds[i]? = some d ∧ Scal d w) (fun q hq => hcell q hq) hkind hx hy hne S₂ hz₂ ?_ ?_
  · intro s₃ m₃ i u v E' hxi hyi hn hmx hmy hk
    rw [List.getElem?_toArray] at hxi hyi
    obtain ⟨a, ha, ra⟩ := dsRel_at hd1 hxi
    obtain ⟨b, hb, rb⟩ := dsRel_at hd2 hyi
    obtain ⟨d, hd, hds⟩ := mapO_get e3 (zipD_get ha hb)
    unfold itemP at hd
    rw [hcap] at hd
    simp only [Option.bind_eq_some_iff] at hd
    obtain ⟨l, hl, d', hd1, hd2⟩ := hd
    cases hl
    have hsc : scalar d' = true ∧ d' = d := by
      split at hd2
      · rename_i q; cases hd2; exact ⟨q, rfl⟩
      · cases hd2
    obtain ⟨hsc, rfl⟩ := hsc
    have g3 : Grow (Bad X α₁) s₁.heap (Bad X α₁) s₃.heap := fun bb o nb e => ⟨hk bb o (Heap.lt_size e) (up₂ bb o e), nb⟩
    have pe : PEnv C (Bad X α₁) s₃.heap (compEnvC csc cl (s₁.heap.objs.size + 6) env) ([(x, V.d a), (y, V.d b)] ++ []) := by
      refine ⟨hkind, fun n dd hg => ?_⟩
      rw [List.append_nil] at hg
      simp only [getV_c] at hg
      by_cases hnx : n = x
      · subst hnx
        rw [if_pos rfl] at hg
        simp only [Option.some.injEq, V.d.injEq] at hg
        subst hg
        exact .inl ⟨lookup_relabel_local hx, m₃, _, hn, hmx, ra.grow g3⟩
      · rw [if_neg hnx] at hg
        by_cases hny : n = y
        · subst hny
          rw [if_pos rfl] at hg
          simp only [Option.some.injEq, V.d.injEq] at hg
          subst hg
          exact .inl ⟨lookup_relabel_local hy, m₃, _, hn, hmy, rb.grow g3⟩
        · rw [if_neg hny] at hg; cases hg
    exact pe_all elt E' s₃ _ d' okp hd1 pe fun u t hu => ⟨⟨d', hds, Scal.of hsc hu⟩, t, rfl⟩
  · intro h' tk m' ws hn hpl hlen hF hk
    refine ⟨m', hn, fun h'' hs'' => ?_⟩
    have keep : ∀ bb o, s₁.heap.get? bb = some o → h''.get? bb = some o := fun bb o e => hs''.extBut bb o (Nat.ne_of_lt (Nat.lt_of_lt_of_le (Heap.lt_size e) (Nat.le_add_right _ 6))) (hk bb o (Heap.lt_size e) (up₂ bb o e))
    have hpl'' : h''.PlainList (s₁.heap.objs.size + 5) ws := hpl.extBut hs''.extBut (by show (s₁.heap.objs.size + 5 : Nat) ≠ s₁.heap.objs.size + 6; omega)
    obtain ⟨kk, hpl''⟩ := hpl''
    have hsz : s₁.heap.objs.size ≤ h''.objs.size := Nat.le_of_lt (Nat.lt_of_le_of_lt (Nat.le_add_right _ 5) (Heap.lt_size hpl''))
    have Ev : Ext0 env s₁ { s₁ with heap := h'', toks := tk } := .of keep hsz
    have hdl : ds.length = ws.toList.length := by
      rw [mapO_len e3, zipD_len hl, len1]
      show vs1.length = ws.size
      rw [hlen, List.size_toArray]
    have hds : DsRel C (Bad X α₁) s₁.heap ds ws.toList := dsRel_scal hdl fun i w q => hF i w (by rw [Array.getElem?_toList] at q; exact q)
    have Fr := fresh_list (k := kk) R₁ Ev (Nat.le_add_right _ 5) (by rw [Array.toArray_toList]; exact hpl'') hds
    have e5 : own false (.d (.list ds)) σ₁' = (v, σ') := by
      split at e4
      · exact Option.some.inj e4
      · cases e4
    obtain ⟨α₃, R₃, V₃, E₃⟩ := own_ok R₁ Ev Fr e5
    exact hQ α₃ _ _ R₃ (E₁.trans E₃) V₃

theorem ok_ZipAssign (W : Wk C G A) {r x y : Str} {pr ps pc px py tp pf pz pos spos : Pos} {k : Nat} {elt : Expr} {args : List Expr} {csc : Scope} {fl : Fl} {Q : Flow → Shared → Prop} (okr : okN env.scope r = true) (ok : okZipX G.const env.scope elt x y args csc = true)
    (h : evS G (.Assign [.Name r pr] (.Call (.Name "sorted" ps) [.ListComp elt [⟨.Tuple [.Name x px, .Name y py] k tp, .Call (.Name "zip" pf) args [] pz, [], 0⟩] csc pos] [] pc) spos) ρ σ = some (fl, ρ', σ')) (R : Rel C X env ρ α σ s)
    (hQ : ∀ α' f s', Rel C X env ρ' α' σ' s' → SExt env α σ s α' σ' s' → FlRel C X α' s'.heap fl f → Q f s') :
    wpAny C.M A (exec (.Assign [.Name r pr] (.Call (.Name "sorted" ps) [.ListComp elt [⟨.Tuple [.Name x px, .Name y py] k tp, .Call (.Name "zip" pf) args [] pz, [], 0⟩] csc pos] [] pc) spos) env) Q E s := by
  have hgs : gi env.scope "sorted" = true := by
    unfold okZipX at ok
    simp only [Bool.and_eq_true] at ok
    exact ok.1.1.1.1.1.1.1.1.1.1
  have g := gi_kind hgs
  have hb : bfOf "sorted" = some .sorted := by kernel_rfl
  rw [evS_AssignN, evE_CallN (by decide +kernel), hb] at h
  simp only [Option.map_eq_some_iff, Option.bind_eq_some_iff, Prod.mk.injEq] at h
  obtain ⟨⟨v, σ₂⟩, ⟨⟨vs, σ₁⟩, h1, w, h2, h3⟩, rfl, rfl, rfl⟩ := h
  have h1' := h1
  rw [evEs_cons] at h1'
  simp only [Option.bind_eq_some_iff, Option.map_eq_some_iff] at h1'
  obtain ⟨⟨v₀, σ₀⟩, e0, ⟨vs₀, σ₀'⟩, e1, e2⟩ := h1'
  cases e1
  cases e2
  refine wpAny_Assign_Name ?_ rfl
  show wpAny C.M A (do callWith pc (← eval (.Name "sorted" ps) env) [] (backTo pc (starEach [.ListComp elt [⟨.Tuple [.Name x px, .Name y py] k tp, .Call (.Name "zip" pf) args [] pz, [], 0⟩] csc pos] env)) []) _ E s
  have hbf := W.bf "sorted" .sorted hb
  refine wpAny_bind (Name_function_global R.fr.kind g.1 (loadGlobal_builtin (R.gns W) hbf.1 (R.bns W) hbf.2 ?_) g.2)
  refine call_with (P := fun _ => True) h1 (fun h _ => ⟨_, .inr (.inl rfl), keeper_bf _ _ _⟩) ?_
  rw [starEach_cons e0]
  refine spliced_cons (zip_ev W ok e0 R fun α₁ u s₁ R₁ E₁ V₁ => spliced_nil ⟨trivial, ?_⟩)
  rw [List.nil_append]
  have V₂ : VsRel C X α₁ s₁.heap [v₀] [u] := by simp only [VsRel]; exact ⟨_, _, rfl, V₁, rfl⟩
  refine bfV_ok W.h2 W.hh R₁ V₂ h2 fun x u s₂ e E₂ F => ?_
  subst e
  obtain ⟨α₃, R₃, V₃, E₃⟩ := own_ok R₁ E₂ F h3
  exact store_ok R₃ okr V₃ fun s₃ R₄ E₄ => hQ α₃ _ s₃ R₄ ((E₁.trans E₃).toS.trans E₄) rfl
end
end Mine
end

section
set_option autoImplicit false
namespace Mine
open PySem PyProof.Rows PySem.Calls

/-- an iterator that gives such items -/
structure Drawn (C : Wo) (A : Around) (X : Addr → Prop) (env : Env) (I : Addr) (S : List V → List Addr → St → Heap → Prop) : Prop where
  keep : ∀ (r : List V) (ρ : Loc) (α : List Addr) (σ : St) (s : Shared) (α' : List Addr) (σ' : St) (s' : Shared), Rel C X env ρ α σ s → S r α σ s.heap → SExt env α σ s α' σ' s' → S r α' σ' s'.heap
  cls : ∀ (r : List V) (α : List Addr) (σ : St) (h : Heap), S r α σ h → ∃ o, h.get? I = some o ∧ NoTup o
  item : ∀ (v : V) (r : List V) (ρ : Loc) (α : List Addr) (σ : St) (s : Shared) (E : Value → Shared → Prop) (Q : Option Value → Shared → Prop), Rel C X env ρ α σ s → S (v :: r) α σ s.heap →
    (∀ u h' t, Heap.SameBut I s.heap h' → VRel C X α h' v u → S r α σ h' → Q (some u) { s with heap := h', toks := t }) → wpAny C.M A (pyNext (.ref I)) Q E s
  fin : ∀ (α : List Addr) (σ : St) (s : Shared) (E : Value → Shared → Prop) (Q : Option Value → Shared → Prop), S [] α σ s.heap → (∀ h' t, Heap.ExtBut I s.heap h' → Q none { s with heap := h', toks := t }) → wpAny C.M A (pyNext (.ref I)) Q E s

section
variable {C : Wo} {G : Genv} {X X' : Addr → Prop} {env : Env} {ρ ρ' : Loc} {α α' α'' : List Addr} {σ σ' σ'' : St} {s s' s'' : Shared} {A : Around} {E : Value → Shared → Prop}

theorem loop_ok {x : Str} {px : Pos} {body : List Stmt} {I : Addr} {S : List V → List Addr → St → Heap → Prop} (D : Drawn C A (Hide X I) env I S) (fa : ∀ a ∈ FA env, X a) (nX : ¬ X I) (hI : I ∉ FA env) (hb : C.base.objs.size ≤ I) (hx : okN env.scope x = true)
    (hbody : SsOk C G A env body) (okb : okSs G.const env.scope body = true) {vs : List V} {fl : Fl} (h : loopL (fun v ρ σ => evSs G body (setV x v ρ) σ) vs ρ σ = some (fl, ρ', σ')) (R : Rel C (Hide X I) env ρ α σ s) (hS : S vs α σ s.heap)
    {s₀ : Shared} {α₀ : List Addr} {σ₀ : St} (h0 : s₀.heap.objs.size ≤ I) (E0 : SExt env α₀ σ₀ s₀ α σ s) {Rr : Result → Shared → Prop}
    (hQ : ∀ α' f s', Rel C X env ρ' α' σ' s' → SExt env α₀ σ₀ s₀ α' σ' s' → FlRel C X α' s'.heap fl f → Rr (.ok f) s') : codeAny C.M A (.forLoop (.Name x px) (.ref I) body [] env) Rr s := by
  refine codeAny_forLoop (fun n s => ∃ r ρ α σ, r.length = n ∧ loopL (fun v ρ σ => evSs G body (setV x v ρ) σ) r ρ σ = some (fl, ρ', σ') ∧ Rel C (Hide X I) env ρ α σ s ∧ S r α σ s.heap ∧ SExt env α₀ σ₀ s₀ α σ s) (fun n s hI' => ?_) vs.length
    ⟨vs, ρ, α, σ, rfl, h, R, hS, E0⟩
  obtain ⟨r, ρ, α, σ, rfl, h, R, hS, E0⟩ := hI'
  cases r with
  | nil =>
    simp only [loopL_n, Option.some.injEq, Prod.mk.injEq] at h
    obtain ⟨rfl, rfl, rfl⟩ := h
    refine wpAny_size (D.fin α σ s _ _ hS fun h' t he hz => ?_)
    exact wpAny_execs_nil (hQ α _ _ (R.butNarrow fa hI nX hb he hz) (E0.but h0 he hz) rfl)
  | cons v r =>
    simp only [loopL_c, Option.bind_eq_some_iff] at h
    obtain ⟨⟨fl₁, ρ₁, σ₁⟩, e1, e2⟩ := h
    dsimp only at e2
    refine D.item v r ρ α σ s _ _ R hS fun u h' t hs hv hS' => ?_
    have R₁ : Rel C (Hide X I) env ρ α σ { s with heap := h', toks := t } := R.but (.inr rfl) hI hb hs.extBut (Nat.le_of_eq hs.1.symm) (D.cls _ _ _ _ hS')
    have E₁ : SExt env α₀ σ₀ s₀ α σ { s with heap := h', toks := t } := E0.but h0 hs.extBut (Nat.le_of_eq hs.1.symm)
    refine wpAny_assign_Name (store_ok R₁ hx hv fun s₂ R₂ E₂ => ?_)
    have hS₂ := D.keep r ρ α σ _ α σ s₂ R₁ hS' E₂
    refine hbody (Hide X I) (setV x v ρ) α σ fl₁ ρ₁ σ₁ s₂ _ _ okb e1 R₂ fun α₃ f s₃ R₃ E₃ F₃ => ?_
    have hS₃ := D.keep r _ α σ _ α₃ σ₁ s₃ R₂ hS₂ E₃
    cases fl₁ with
    | next =>
      simp only [FlRel] at F₃
      subst F₃
      exact ⟨r.length, by simp, r, ρ₁, α₃, σ₁, rfl, e2, R₃, hS₃, (E₁.trans E₂).trans E₃⟩
    | ret w =>
      simp only [Option.some.injEq, Prod.mk.injEq] at e2
      obtain ⟨rfl, rfl, rfl⟩ := e2
      obtain ⟨u', rfl, hw⟩ := F₃
      exact hQ α₃ _ s₃ (R₃.narrow fa) ((E₁.trans E₂).trans E₃) ⟨u', rfl, hw.grow growNarrow (List.prefix_refl _)⟩

theorem range_drawn (hh : A.handled = none) {I : Addr} (hI : I ∉ FA env) (hX : X I) : Drawn C A X env I (fun r _ _ h => ∃ (x : Int) (n : Nat), r = rangeL x n ∧ IsRangeIter h I x n 1) where
  keep := fun r ρ α σ s α' σ' s' R ⟨x, n, e, hi⟩ E => ⟨x, n, e, E.keep I _ hi hI fun k hk => absurd hX (R.st.out I (List.mem_of_getElem? hk))⟩
  cls := fun r α σ h ⟨x, n, e, hi⟩ => ⟨_, hi, fun _ _ q => nomatch q.2⟩
  item := fun v r ρ α σ s E Q R ⟨x, n, e, hi⟩ hQ => by
    cases n with
    | zero => rw [rangeL_zero] at e; cases e
    | succ n =>
      rw [rangeL_succ] at e
      simp only [List.cons.injEq] at e
      obtain ⟨rfl, rfl⟩ := e
      exact wpAny_pyNext_range_item hi (by omega) fun h' hi' hs => hQ _ h' _ hs (by simp only [VRel, DRel]; exact ⟨_, rfl⟩) ⟨x + 1, n, rfl, by
        have : ((n + 1 : Nat) : Int) - 1 = (n : Int) := by omega
        rw [← this]; exact hi'⟩
  fin := fun α σ s E Q ⟨x, n, e, hi⟩ hQ => by
    cases n with
    | succ n => rw [rangeL_succ] at e; cases e
    | zero => exact wpAny_pyNext_range_end hh hi (by omega) fun h' he => hQ h' s.toks he

theorem small_of {a b : Int} (ha : -1000000 ≤ a ∧ a ≤ 1000000) (hb : -1000000 ≤ b ∧ b ≤ 1000000) : Builtin.Range.small a b 1 = true ∧ Builtin.Range.rangeSize a b 1 = (((b - a).toNat : Nat) : Int) := by
  have e : Builtin.Range.rangeSize a b 1 = (((b - a).toNat : Nat) : Int) := by
    unfold Builtin.Range.rangeSize
    simp only [show ((1 : Int) > 0) from by decide, if_true]
    split <;> omega
  refine ⟨?_, e⟩
  unfold Builtin.Range.small
  rw [e]
  simp only [Builtin.Range.rangeFitsLong, Bool.and_eq_true, decide_eq_true_eq, Bool.or_eq_true, beq_iff_eq]
  refine ⟨⟨⟨⟨⟨?_, ?_⟩, ?_, ?_⟩, ?_, ?_⟩, ?_, ?_⟩, .inr ?_⟩
  case refine_9 =>
    rw [if_pos (by decide)]
    simp only [Bool.and_eq_true, decide_eq_true_eq]
    omega
  all_goals omega

/-- the rest of a loop over a range, from the iterator's making on -/
theorem range_loop (W : Wk C G A) {x : Str} {px : Pos} {body : List Stmt} (hx : okN env.scope x = true) (hbody : SsOk C G A env body) (okb : okSs G.const env.scope body = true) {a b : Int} {t1 t2 t3 : Tok} {r : Addr} {fl : Fl}
    (ha : -1000000 ≤ a ∧ a ≤ 1000000) (hb : -1000000 ≤ b ∧ b ≤ 1000000) (h : loopL (fun v ρ σ => evSs G body (setV x v ρ) σ) (rangeD a b) ρ σ = some (fl, ρ', σ')) (R : Rel C X env ρ α σ s) (hr : IsRange s.heap r a b 1 t1 t2 t3) {Q : Flow → Shared → Prop}
    (hQ : ∀ α' f s', Rel C X env ρ' α' σ' s' → SExt env α σ s α' σ' s' → FlRel C X α' s'.heap fl f → Q f s') :
    wpAny C.M A (pyIter (.ref r)) (fun it s₂ => codeAny C.M A (.forLoop (.Name x px) it body [] env) (fun r s' => match r with | .ok f => Q f s' | .error e => cameBackBy C.M A env E e s') s₂) E s := by
  obtain ⟨hs, hz⟩ := small_of ha hb
  refine wpAny_pyIter_range hr hs ?_
  have E0 : Ext0 env s { s with heap := s.heap.push { cls := .type "range_iterator", data := .fields #[rawInt a, rawInt (Builtin.Range.rangeSize a b 1), rawInt 1] } } := .push _ s.toks
  have R₁ := R.widen E0 (I := s.heap.objs.size) (Nat.le_refl _) (by show s.heap.objs.size < (s.heap.push _).objs.size; rw [Heap.size_push]; exact Nat.lt_succ_self _) ⟨_, Heap.get?_push_size _ rfl, fun _ _ q => nomatch q.2⟩
  have hI : s.heap.objs.size ∉ FA env := fun q => Nat.lt_irrefl _ (R.xlt _ (R.fa _ q))
  have hbs : C.base.objs.size ≤ s.heap.objs.size := Nat.le_trans (R.flow env.locals (.head _)) (Nat.le_of_lt (R.xlt _ (R.fa env.locals (.head _))))
  refine loop_ok (range_drawn W.hh hI (.inr rfl)) R.fa (fun q => Nat.lt_irrefl _ (R.xlt _ q)) hI hbs hx hbody okb h R₁ ⟨a, (b - a).toNat, rfl, by rw [← hz]; exact Heap.get?_push_size _ rfl⟩ (Nat.le_refl _) (E0.ext (σ := σ)).toS fun α' f s' R' E' F' => ?_
  exact hQ α' f s' R' E' F'

theorem SExt.grow (R : Rel C X env ρ α σ s) (E : SExt env α σ s α' σ' s') : Grow (Bad X α) s.heap (Bad X α') s'.heap := fun a o n e => by
  refine ⟨E.keep a o e (fun q => n (.inl (R.fa a q))) fun k hk => absurd (List.mem_of_getElem? hk) fun q => n (.inr q), fun q => ?_⟩
  obtain ⟨t, rfl, ht⟩ := E.new
  rcases q with q | q
  · exact n (.inl q)
  · rcases List.mem_append.mp q with q | q
    · exact n (.inr q)
    · exact absurd (Heap.lt_size e) (Nat.not_lt.mpr (ht a q))
theorem growWide {h : Heap} {o : Obj} : Grow (Bad X α) h (Bad (Hide X h.objs.size) α) (h.push o) := fun a o n e => ⟨Heap.get?_push_of_some _ e, fun q => by
  rcases q with (q | q) | q
  · exact n (.inl q)
  · subst q; exact absurd (Heap.lt_size e) (Nat.lt_irrefl _)
  · exact n (.inr q)⟩
theorem DRel.listAt {B : Addr → Prop} {h : Heap} {xs : List D} {l : Addr} (r : DRel C B h (.list xs) (.ref l)) : ∃ vs, h.IsList l vs.toArray ∧ DsRel C B h xs vs := by
  simp only [DRel] at r
  obtain ⟨a, vs, e, t, _, r⟩ := r
  cases e
  exact ⟨vs, t, r⟩
theorem list_drawn (hh : A.handled = none) {I l : Addr} {xs : List D} (hI : I ∉ FA env) (hX : X I) :
    Drawn C A X env I (fun r α _ h => ∃ i, r = (xs.drop i).map V.d ∧ h.IsListIter I l i ∧ DRel C (Bad X α) h (.list xs) (.ref l)) where
  keep := fun r ρ α σ s α' σ' s' R ⟨i, e, ⟨o, ho, hi⟩, hd⟩ E => ⟨i, e, ⟨o, E.keep I _ ho hI fun k hk => absurd hX (R.st.out I (List.mem_of_getElem? hk)), hi⟩, hd.grow (E.grow R)⟩
  cls := fun r α σ h ⟨i, e, ⟨o, ho, _, hi⟩, _⟩ => ⟨_, ho, fun _ _ q => nomatch hi.symm.trans q.2⟩
  item := fun v r ρ α σ s E Q R ⟨i, e, hi, hd⟩ hQ => by
    obtain ⟨vs, hl, hr⟩ := hd.listAt
    cases hk : xs.drop i with
    | nil => rw [hk] at e; cases e
    | cons k rest =>
      have hlt : i < xs.length := by
        refine Nat.lt_of_not_le fun q => ?_
        rw [List.drop_eq_nil_of_le q] at hk; cases hk
      rw [List.drop_eq_getElem_cons hlt] at hk
      simp only [List.cons.injEq] at hk
      obtain ⟨rfl, rfl⟩ := hk
      rw [List.drop_eq_getElem_cons hlt, List.map_cons] at e
      simp only [List.cons.injEq] at e
      obtain ⟨rfl, rfl⟩ := e
      obtain ⟨u, hu, ru⟩ := hr.get (List.getElem?_eq_getElem hlt)
      exact wpAny_pyNext_list_item hi hl (by rw [List.getElem?_toArray]; exact hu) fun h' hi' hs => hQ u h' s.toks hs (by simp only [VRel]; exact ru.grow (growFA hs hX)) ⟨i + 1, rfl, hi', hd.grow (growFA hs hX)⟩
  fin := fun α σ s E Q ⟨i, e, hi, hd⟩ hQ => by
    obtain ⟨vs, hl, hr⟩ := hd.listAt
    have hge : xs.length ≤ i := by
      refine Nat.le_of_not_lt fun q => ?_
      rw [List.drop_eq_getElem_cons q] at e; cases e
    exact wpAny_pyNext_list_end hh hi hl (by rw [List.getElem?_toArray]; exact List.getElem?_eq_none (by rw [← hr.length]; exact hge)) fun h' he => hQ h' s.toks he
theorem take_rev {β : Type} {xs : List β} {k : Nat} (h : k < xs.length) : (xs.take (k + 1)).reverse = xs[k] :: (xs.take k).reverse := by
  rw [List.take_succ_eq_append_getElem h, List.reverse_append]; rfl
theorem rev_drawn (hh : A.handled = none) {I l : Addr} {xs : List D} (hI : I ∉ FA env) (hX : X I) :
    Drawn C A X env I (fun r α _ h => ∃ i : Nat, i ≤ xs.length ∧ r = (xs.take i).reverse.map V.d ∧ h.IsRevIter I l ((i : Int) - 1) ∧ DRel C (Bad X α) h (.list xs) (.ref l)) where
  keep := fun r ρ α σ s α' σ' s' R ⟨i, le, e, ⟨o, ho, hi⟩, hd⟩ E => ⟨i, le, e, ⟨o, E.keep I _ ho hI fun k hk => absurd hX (R.st.out I (List.mem_of_getElem? hk)), hi⟩, hd.grow (E.grow R)⟩
  cls := fun r α σ h ⟨i, _, e, ⟨o, ho, _, hi⟩, _⟩ => ⟨_, ho, fun _ _ q => nomatch hi.symm.trans q.2⟩
  item := fun v r ρ α σ s E Q R ⟨i, le, e, hi, hd⟩ hQ => by
    obtain ⟨vs, hl, hr⟩ := hd.listAt
    cases i with
    | zero => cases e
    | succ k =>
      rw [take_rev le, List.map_cons] at e
      simp only [List.cons.injEq] at e
      obtain ⟨rfl, rfl⟩ := e
      obtain ⟨u, hu, ru⟩ := hr.get (List.getElem?_eq_getElem le)
      rw [show (((k + 1 : Nat) : Int) - 1) = (k : Int) by omega] at hi
      exact wpAny_pyNext_rev_item hi hl (by rw [List.getElem?_toArray]; exact hu) fun h' hi' hs => hQ u h' s.toks hs (by simp only [VRel]; exact ru.grow (growFA hs hX)) ⟨k, Nat.le_of_lt le, rfl, hi', hd.grow (growFA hs hX)⟩
  fin := fun α σ s E Q ⟨i, le, e, hi, hd⟩ hQ => by
    cases i with
    | zero => exact wpAny_pyNext_rev_end hh hi fun h' he => hQ h' s.toks he
    | succ k => rw [take_rev le, List.map_cons] at e; cases e

/-- the rest of a loop over a list -/
theorem list_loop (W : Wk C G A) {x : Str} {px : Pos} {body : List Stmt} (hx : okN env.scope x = true) (hbody : SsOk C G A env body) (okb : okSs G.const env.scope body = true) {l : Addr} {xs : List D} {fl : Fl}
    (h : loopL (fun v ρ σ => evSs G body (setV x v ρ) σ) (xs.map V.d) ρ σ = some (fl, ρ', σ')) (R : Rel C X env ρ α σ s) (hd : DRel C (Bad X α) s.heap (.list xs) (.ref l)) {Q : Flow → Shared → Prop}
    (hQ : ∀ α' f s', Rel C X env ρ' α' σ' s' → SExt env α σ s α' σ' s' → FlRel C X α' s'.heap fl f → Q f s') :
    wpAny C.M A (pyIter (.ref l)) (fun it s₂ => codeAny C.M A (.forLoop (.Name x px) it body [] env) (fun r s' => match r with | .ok f => Q f s' | .error e => cameBackBy C.M A env E e s') s₂) E s := by
  obtain ⟨vs, hl, _⟩ := hd.listAt
  refine wpAny_pyIter_list hl ?_
  have E0 : Ext0 env s { s with heap := s.heap.push { cls := .type "list_iterator", data := .fields #[.ref l, .int 0 0] } } := .push _ s.toks
  have R₁ := R.widen E0 (I := s.heap.objs.size) (Nat.le_refl _) (by show s.heap.objs.size < (s.heap.push _).objs.size; rw [Heap.size_push]; exact Nat.lt_succ_self _) ⟨_, Heap.get?_push_size _ rfl, fun _ _ q => nomatch q.2⟩
  have hI : s.heap.objs.size ∉ FA env := fun q => Nat.lt_irrefl _ (R.xlt _ (R.fa _ q))
  have hbs : C.base.objs.size ≤ s.heap.objs.size := Nat.le_trans (R.flow env.locals (.head _)) (Nat.le_of_lt (R.xlt _ (R.fa env.locals (.head _))))
  refine loop_ok (list_drawn (l := l) (xs := xs) W.hh hI (.inr rfl)) R.fa (fun q => Nat.lt_irrefl _ (R.xlt _ q)) hI hbs hx hbody okb h R₁ ⟨0, rfl, ⟨_, Heap.get?_push_size _ rfl, rfl, rfl⟩, hd.grow growWide⟩ (Nat.le_refl _) (E0.ext (σ := σ)).toS fun α' f s' R' E' F' => ?_
  exact hQ α' f s' R' E' F'
theorem rev_loop (W : Wk C G A) {x : Str} {px : Pos} {body : List Stmt} (hx : okN env.scope x = true) (hbody : SsOk C G A env body) (okb : okSs G.const env.scope body = true) {l : Addr} {xs : List D} {fl : Fl}
    (h : loopL (fun v ρ σ => evSs G body (setV x v ρ) σ) (xs.reverse.map V.d) ρ σ = some (fl, ρ', σ')) (R : Rel C X env ρ α σ s) (hd : DRel C (Bad X α) s.heap (.list xs) (.ref l)) {Q : Flow → Shared → Prop}
    (hQ : ∀ α' f s', Rel C X env ρ' α' σ' s' → SExt env α σ s α' σ' s' → FlRel C X α' s'.heap fl f → Q f s') :
    wpAny C.M A (call (.type "reversed") [.ref l]) (fun v s₁ => wpAny C.M A (pyIter v) (fun it s₂ => codeAny C.M A (.forLoop (.Name x px) it body [] env) (fun r s' => match r with | .ok f => Q f s' | .error e => cameBackBy C.M A env E e s') s₂) E s₁) E s := by
  obtain ⟨vs, hl, hr⟩ := hd.listAt
  refine call_reversed_list hl ?_
  have hit : (s.heap.push (revObj l ((vs.toArray.size : Int) - 1))).IsRevIter s.heap.objs.size l ((xs.length : Int) - 1) := ⟨_, Heap.get?_push_size _ rfl, rfl, by rw [hr.length]; simp [revObj]⟩
  refine wpAny_pyIter_revIter hit ?_
  have E0 : Ext0 env s { s with heap := s.heap.push (revObj l ((vs.toArray.size : Int) - 1)) } := .push _ s.toks
  have R₁ := R.widen E0 (I := s.heap.objs.size) (Nat.le_refl _) (by show s.heap.objs.size < (s.heap.push _).objs.size; rw [Heap.size_push]; exact Nat.lt_succ_self _) ⟨_, Heap.get?_push_size _ rfl, fun _ _ q => nomatch q.2⟩
  have hI : s.heap.objs.size ∉ FA env := fun q => Nat.lt_irrefl _ (R.xlt _ (R.fa _ q))
  have hbs : C.base.objs.size ≤ s.heap.objs.size := Nat.le_trans (R.flow env.locals (.head _)) (Nat.le_of_lt (R.xlt _ (R.fa env.locals (.head _))))
  refine loop_ok (rev_drawn (l := l) (xs := xs) W.hh hI (.inr rfl)) R.fa (fun q => Nat.lt_irrefl _ (R.xlt _ q)) hI hbs hx hbody okb h R₁ ⟨xs.length, Nat.le_refl _, by rw [List.take_length], hit, hd.grow growWide⟩ (Nat.le_refl _) (E0.ext (σ := σ)).toS fun α' f s' R' E' F' => ?_
  exact hQ α' f s' R' E' F'

theorem dict_drawn (hh : A.handled = none) {I d : Addr} {ks : List Key} {vs : List Value} {ep : Nat} (hI : I ∉ FA env) (hX : X I) (hd : d ∉ FA env) (hl : ks.length = vs.length) :
    Drawn C A X env I (fun r α _ h => ∃ i, r = (ks.drop i).map (fun k => V.d k.toD) ∧ h.IsKeyIter I d i (ks.zip vs).length ep ∧ h.DictAt C.kk d (ks.zip vs) ep ∧ d ∉ α ∧ d ≠ I) where
  keep := fun r ρ α σ s α' σ' s' R ⟨i, e, ⟨o, ho, hi⟩, ⟨o', es, ho', hr⟩, hα, hdI⟩ E => by
    refine ⟨i, e, ⟨o, E.keep I _ ho hI fun k hk => absurd hX (R.st.out I (List.mem_of_getElem? hk)), hi⟩, ⟨o', es, E.keep d _ ho' hd fun k hk => absurd (List.mem_of_getElem? hk) hα, hr⟩, fun q => ?_, hdI⟩
    obtain ⟨t, rfl, ht⟩ := E.new
    rcases List.mem_append.mp q with q | q
    · exact hα q
    · exact absurd (Heap.lt_size ho') (Nat.not_lt.mpr (ht d q))
  cls := fun r α σ h ⟨i, e, ⟨o, ho, _, hi⟩, _⟩ => ⟨_, ho, fun _ _ q => nomatch hi.symm.trans q.2⟩
  item := fun v r ρ α σ s E Q R ⟨i, e, hi, hm, hα, hdI⟩ hQ => by
    cases hk : ks.drop i with
    | nil => rw [hk] at e; cases e
    | cons k rest =>
      have hlt : i < ks.length := by
        refine Nat.lt_of_not_le fun q => ?_
        rw [List.drop_eq_nil_of_le q] at hk; cases hk
      rw [List.drop_eq_getElem_cons hlt] at hk
      simp only [List.cons.injEq] at hk
      obtain ⟨rfl, rfl⟩ := hk
      rw [List.drop_eq_getElem_cons hlt, List.map_cons] at e
      simp only [List.cons.injEq] at e
      obtain ⟨rfl, rfl⟩ := e
      have hx : (ks.zip vs)[i]? = some (ks[i], vs[i]'(hl ▸ hlt)) := by
        rw [List.getElem?_eq_getElem (by rw [List.length_zip]; omega), List.getElem_zip]
      exact wpAny_pyNext_dict_item hi hm hx fun key h' hkey hi' hs => hQ key h' s.toks hs (by
        rcases keyIs_shape hkey with ⟨n, t, q, rfl⟩ | ⟨x, t, q, rfl⟩ <;> rw [q] <;> simp only [VRel, Key.toD, DRel] <;> exact ⟨_, rfl⟩) ⟨i + 1, rfl, hi', hm.extBut hs.extBut hdI, hα, hdI⟩
  fin := fun α σ s E Q ⟨i, e, hi, hm, hα, hdI⟩ hQ => by
    have hge : ks.length ≤ i := by
      refine Nat.le_of_not_lt fun q => ?_
      rw [List.drop_eq_getElem_cons q] at e; cases e
    exact wpAny_pyNext_dict_end hh hi hm (List.getElem?_eq_none (by rw [List.length_zip]; omega)) fun h' he => hQ h' s.toks he

/-- the rest of a loop over a dict -/
theorem dict_loop (W : Wk C G A) {x : Str} {px : Pos} {body : List Stmt} (hx : okN env.scope x = true) (hbody : SsOk C G A env body) (okb : okSs G.const env.scope body = true) {d : Addr} {ks : List Key} {vs : List Value} {fl : Fl}
    (h : loopL (fun v ρ σ => evSs G body (setV x v ρ) σ) (ks.map fun k => V.d k.toD) ρ σ = some (fl, ρ', σ')) (R : Rel C X env ρ α σ s) (hm : s.heap.DictOf C.kk d (ks.zip vs)) (hl : ks.length = vs.length) (hd : C.base.objs.size ≤ d) (nb : ¬ Bad X α d) {Q : Flow → Shared → Prop}
    (hQ : ∀ α' f s', Rel C X env ρ' α' σ' s' → SExt env α σ s α' σ' s' → FlRel C X α' s'.heap fl f → Q f s') :
    wpAny C.M A (pyIter (.ref d)) (fun it s₂ => codeAny C.M A (.forLoop (.Name x px) it body [] env) (fun r s' => match r with | .ok f => Q f s' | .error e => cameBackBy C.M A env E e s') s₂) E s := by
  obtain ⟨ep, hm⟩ := hm.dictAt
  have hdlt : d < s.heap.objs.size := hm.lt_size
  refine wpAny_pyIter_dict (low_addr hd W.h2) hm ?_
  have E0 : Ext0 env s { s with heap := s.heap.push { cls := .type "dict_keyiterator", data := .fields #[.ref d, .int 0 0, .int (ks.zip vs).length 0, .int ep 0] } } := .push _ s.toks
  have R₁ := R.widen E0 (I := s.heap.objs.size) (Nat.le_refl _) (by show s.heap.objs.size < (s.heap.push _).objs.size; rw [Heap.size_push]; exact Nat.lt_succ_self _) ⟨_, Heap.get?_push_size _ rfl, fun _ _ q => nomatch q.2⟩
  have hI : s.heap.objs.size ∉ FA env := fun q => Nat.lt_irrefl _ (R.xlt _ (R.fa _ q))
  have hbs : C.base.objs.size ≤ s.heap.objs.size := Nat.le_trans (R.flow env.locals (.head _)) (Nat.le_of_lt (R.xlt _ (R.fa env.locals (.head _))))
  refine loop_ok (dict_drawn (d := d) W.hh hI (.inr rfl) (fun q => nb (.inl (R.fa _ q))) hl) R.fa (fun q => Nat.lt_irrefl _ (R.xlt _ q)) hI hbs hx hbody okb h R₁ ⟨0, rfl, ⟨_, Heap.get?_push_size _ rfl, rfl, rfl⟩, hm.push _, fun q => nb (.inr q), Nat.ne_of_lt hdlt⟩ (Nat.le_refl _) (E0.ext (σ := σ)).toS fun α' f s' R' E' F' => ?_
  exact hQ α' f s' R' E' F'

theorem ok_For (W : Wk C G A) {t it : Expr} {body els : List Stmt} {pos : Pos} (hbody : SsOk C G A env body) : SOk C G A env (.For t it body els pos) := fun X ρ α σ fl ρ' σ' s E Q ok h R hQ => by
  obtain ⟨ok1, ok2, x, px, rfl, ok3⟩ := okS_For ok
  cases els with
  | cons _ _ => rw [evS_ForE] at h; cases h
  | nil =>
   rcases ok1 with (ok1 | ok1) | ⟨ok1, y, py, rfl⟩
   case nil.inr =>
    rw [evS_ForN, if_neg (show ¬ isIt (.Name y py) = true from Bool.false_ne_true)] at h
    simp only [Option.bind_eq_some_iff, Option.map_eq_some_iff] at h
    obtain ⟨⟨vs, src, σ₁⟩, ⟨⟨v, σ₁'⟩, e1, ⟨vs', src'⟩, e2, e3⟩, ⟨fl₁, ρ₁, σ₂⟩, e4, e5⟩ := h
    cases e3
    unfold iterV at e2
    dsimp only at e2 e4 e5
    split at e2
    · obtain ⟨ds, hds, e2⟩ := Option.map_eq_some_iff.mp e2
      cases e2
      cases e5
      unfold itemsD at hds
      split at hds
      · rename_i xs
        cases hds
        refine wpAny_For ?_ (by intro _; rfl)
        refine (all_ok W (.Name y py)).1 X ρ α σ _ _ σ₁' s E _ ok1 e1 R fun α₁ u s₁ R₁ E₁ V₁ => ?_
        simp only [VRel] at V₁
        have V₂ := V₁
        simp only [DRel] at V₂
        obtain ⟨l, us, rfl, _⟩ := V₂
        exact list_loop W ok3 hbody ok2 e4 R₁ V₁ fun α₂ f s₂ R₂ E₂ F₂ => hQ α₂ f s₂ R₂ (E₁.toS.trans E₂) F₂
      · rename_i ks ws
        cases hds
        refine wpAny_For ?_ (by intro _; rfl)
        refine (all_ok W (.Name y py)).1 X ρ α σ _ _ σ₁' s E _ ok1 e1 R fun α₁ u s₁ R₁ E₁ V₁ => ?_
        simp only [VRel, DRel] at V₁
        obtain ⟨d, us, rfl, hm, hl, hd, nb, _⟩ := V₁
        rw [List.map_map] at e4
        exact dict_loop W ok3 hbody ok2 e4 R₁ hm hl hd nb fun α₂ f s₂ R₂ E₂ F₂ => hQ α₂ f s₂ R₂ (E₁.toS.trans E₂) F₂
      · cases hds
    · cases e2
   case nil.inl.inr =>
    obtain ⟨pf, args, p, rfl, hg, oka⟩ := okIt_ex ok1
    have g := gi_kind hg
    have hit : isIt (.Call (.Name "reversed" pf) args [] p) = true := show isItF "reversed" = true by decide +kernel
    rw [evS_ForN, if_pos hit, evI_Call] at h
    simp only [Option.bind_eq_some_iff, Option.map_eq_some_iff, Prod.mk.injEq] at h
    obtain ⟨⟨vs, src, σ₁⟩, ⟨⟨ws, σ₁'⟩, e1, ⟨vs', src'⟩, e2, rfl, rfl, rfl⟩, ⟨fl₁, ρ₁, σ₂⟩, e3, rfl, rfl, rfl⟩ := h
    dsimp only at e2 e3
    refine wpAny_For ?_ (by intro _; rfl)
    show wpAny C.M A (do callWith p (← eval (.Name "reversed" pf) env) [] (backTo p (starEach args env)) []) _ E s
    refine wpAny_bind (Name_function_global R.fr.kind g.1 (loadGlobal_builtin (R.gns W) W.rev.1 (R.bns W) W.rev.2 ?_) g.2)
    refine call_with (P := fun _ => True) e1 (fun h _ => ⟨_, .inr (.inl rfl), keeper_type _ _ _⟩) ?_
    refine (alls_ok W args).1 X ρ α σ _ ws σ₁' s E p _ oka e1 R fun α₁ us s₁ R₁ E₁ V₁ => ⟨trivial, ?_⟩
    rw [List.nil_append]
    unfold iterF at e2
    rw [if_neg (by decide +kernel), if_neg (by decide +kernel), if_pos rfl] at e2
    simp only [Option.bind_eq_some_iff] at e2
    obtain ⟨v, hv, xs, hxs, e2⟩ := e2
    obtain rfl := one1_some hv
    obtain rfl := listV_some hxs
    split at e2
    · cases e2
      obtain ⟨u, rfl, hu⟩ := V₁.one
      simp only [VRel] at hu
      have hu2 := hu
      simp only [DRel] at hu2
      obtain ⟨l, us, rfl, _⟩ := hu2
      exact rev_loop W ok3 hbody ok2 e3 R₁ hu fun α₂ f s₂ R₂ E₂ F₂ => hQ α₂ f s₂ R₂ (E₁.toS.trans E₂) F₂
    · cases e2
   case nil.inl.inl =>
    obtain ⟨pf, args, p, rfl, hg, oka⟩ := okIt_ex ok1
    have g := gi_kind hg
    have hit : isIt (.Call (.Name "range" pf) args [] p) = true := show isItF "range" = true by decide +kernel
    rw [evS_ForN, if_pos hit, evI_Call] at h
    simp only [Option.bind_eq_some_iff, Option.map_eq_some_iff, Prod.mk.injEq] at h
    obtain ⟨⟨vs, src, σ₁⟩, ⟨⟨ws, σ₁'⟩, e1, ⟨vs', src'⟩, e2, rfl, rfl, rfl⟩, ⟨fl₁, ρ₁, σ₂⟩, e3, rfl, rfl, rfl⟩ := h
    dsimp only at e2 e3
    refine wpAny_For ?_ (by intro _; rfl)
    show wpAny C.M A (do callWith p (← eval (.Name "range" pf) env) [] (backTo p (starEach args env)) []) _ E s
    refine wpAny_bind (Name_function_global R.fr.kind g.1 (loadGlobal_builtin (R.gns W) W.rng.1 (R.bns W) W.rng.2 ?_) g.2)
    refine call_with (P := fun _ => True) e1 (fun h _ => ⟨_, .inr (.inl rfl), keeper_type _ _ _⟩) ?_
    refine (alls_ok W args).1 X ρ α σ _ ws σ₁' s E p _ oka e1 R fun α₁ us s₁ R₁ E₁ V₁ => ⟨trivial, ?_⟩
    rw [List.nil_append]
    unfold iterF at e2
    rw [if_pos rfl] at e2
    split at e2
    · rename_i b
      split at e2
      · rename_i hb
        cases e2
        obtain ⟨u, rfl, hu⟩ := V₁.one
        simp only [VRel, DRel] at hu
        obtain ⟨t, rfl⟩ := hu
        refine call_range_1 ?_
        have E0 := Ext0.push (env := env) (s := s₁) { cls := .type "range", data := .fields #[.int 0 s₁.toks, .int b t, .int 1 (s₁.toks + 1)] } (s₁.toks + 1 + 1)
        exact range_loop W ok3 hbody ok2 (by omega) hb e3 (R₁.ext0 E0) (Heap.get?_push_size _ rfl) fun α₂ f s₂ R₂ E₂ F₂ => hQ α₂ f s₂ R₂ ((E₁.trans E0.ext).toS.trans E₂) F₂
      · cases e2
    · rename_i a b
      split at e2
      · rename_i hb
        cases e2
        obtain ⟨u, u', rfl, hu, hu'⟩ := V₁.two
        simp only [VRel, DRel] at hu hu'
        obtain ⟨t, rfl⟩ := hu
        obtain ⟨t', rfl⟩ := hu'
        refine call_range_2 ?_
        have E0 := Ext0.push (env := env) (s := s₁) { cls := .type "range", data := .fields #[.int a t, .int b t', .int 1 s₁.toks] } (s₁.toks + 1)
        exact range_loop W ok3 hbody ok2 hb.1 hb.2 e3 (R₁.ext0 E0) (Heap.get?_push_size _ rfl) fun α₂ f s₂ R₂ E₂ F₂ => hQ α₂ f s₂ R₂ ((E₁.trans E0.ext).toS.trans E₂) F₂
      · cases e2
    · cases e2

theorem rangeD_eq' (b : Int) : rangeD 0 b = rangeL 0 b.toNat := by
  show rangeL 0 (b - 0).toNat = _
  rw [Int.sub_zero]
theorem captured_get {csc : Scope} {n : Str} {v : V} : ∀ {ρ : Loc}, getV n (captured csc ρ) = some v → getV n ρ = some v ∧ csc.names.lookup n = some .free
  | [], h => nomatch h
  | (y, u) :: r, h => by
    by_cases hf : (csc.names.lookup y == some .free) = true
    · have e : captured csc ((y, u) :: r) = (y, u) :: captured csc r := List.filter_cons_of_pos hf
      rw [e] at h
      simp only [getV_c] at h ⊢
      by_cases hy : n = y
      · rw [if_pos hy] at h ⊢
        exact ⟨h, by rw [hy]; exact eq_of_beq hf⟩
      · rw [if_neg hy] at h ⊢
        exact captured_get h
    · have e : captured csc ((y, u) :: r) = captured csc r := List.filter_cons_of_neg hf
      rw [e] at h
      have ih := captured_get h
      simp only [getV_c]
      by_cases hy : n = y
      · subst hy; rw [ih.2] at hf; exact absurd (beq_self_eq_true _) hf
      · rw [if_neg hy]; exact ih
theorem relabel_free {env : Env} (hk : env.scope.kind = .function) {n : Str} (hc : env.kindOf n = some .cell) : ∀ {names : List (Str × NameKind)}, names.lookup n = some .free →
    (names.map fun (n, k) => if (k == NameKind.free && env.scope.kind == .function && env.kindOf n == some .cell) then (n, NameKind.cell) else (n, k)).lookup n = some .cell
  | [], h => nomatch h
  | (y, k) :: r, h => by
    rw [List.map_cons, List.lookup_cons]
    rw [List.lookup_cons] at h
    by_cases hy : (n == y) = true
    · rw [hy] at h
      have e := eq_of_beq hy
      subst e
      simp only [Option.some.injEq] at h
      subst h
      simp [hk, hc]
    · have hy' : (n == y) = false := by simpa using hy
      rw [hy'] at h
      simp only [] at h
      have : (n == (if (k == NameKind.free && env.scope.kind == .function && env.kindOf y == some .cell) = true then (y, NameKind.cell) else (y, k)).1) = false := by split <;> exact hy'
      rw [this]
      exact relabel_free hk hc h
theorem rangeL_get {k : Int} {n i : Nat} (h : i < n) : (rangeL k n)[i]? = some (.d (.int (k + i))) := by
  unfold rangeL
  rw [List.getElem?_map, List.getElem?_range h]
  rfl

theorem ok_CompAssign (W : Wk C G A) {x y : Str} {px py pf pr pos spos : Pos} {elt a : Expr} {csc : Scope} {X : Addr → Prop} {ρ : Loc} {α : List Addr} {σ : St} {fl : Fl} {ρ' : Loc} {σ' : St} {s : Shared} {E : Value → Shared → Prop} {Q : Flow → Shared → Prop}
    (ok : okCompX G.const env.scope y py elt x a csc pos = true) (h : evS G (.Assign [.Name y py] (.ListComp elt [⟨.Name x px, .Call (.Name "range" pf) [a] [] pr, [], 0⟩] csc pos) spos) ρ σ = some (fl, ρ', σ')) (R : Rel C X env ρ α σ s)
    (hQ : ∀ α' f s', Rel C X env ρ' α' σ' s' → SExt env α σ s α' σ' s' → FlRel C X α' s'.heap fl f → Q f s') : wpAny C.M A (exec (.Assign [.Name y py] (.ListComp elt [⟨.Name x px, .Call (.Name "range" pf) [a] [] pr, [], 0⟩] csc pos) spos) env) Q E s := by
  unfold okCompX at ok
  simp only [Bool.and_eq_true, beq_iff_eq, Bool.not_eq_true', List.all_eq_true, Bool.or_eq_true, beq_eq_false_iff_ne] at ok
  obtain ⟨⟨⟨⟨⟨⟨⟨⟨⟨⟨hg, oka⟩, hy⟩, hline⟩, hany⟩, hcell⟩, hkind⟩, hnames⟩, hx⟩, hfree⟩, okp⟩ := ok
  have g := gi_kind hg
  have hcellOf : ∀ n, csc.names.lookup n = some .free → env.kindOf n = some .cell := fun n hn => (hfree (n, .free) (mem_of_lookup hn)).elim (fun q => absurd rfl q) id
  rw [evS_AssignN, evE_Comp, evI_Call] at h
  simp only [Option.map_eq_some_iff, Option.bind_eq_some_iff, Prod.mk.injEq] at h
  obtain ⟨⟨v, σ₂⟩, ⟨⟨vs, src, σ₁⟩, ⟨⟨ws, σ₁'⟩, e1, ⟨vs', src'⟩, e2, rfl, rfl, rfl⟩, ds, e3, e4⟩, rfl, rfl, rfl⟩ := h
  dsimp only at e2 e3 e4
  have hsw : swapsWith (.ListComp elt [⟨.Name x px, .Call (.Name "range" pf) [a] [] pr, [], 0⟩] csc pos) (some (.Name y py)) spos.line env = pure true := by
    have hb : env.blockKind = .function := by unfold Env.blockKind; rw [R.fr.kind]; rfl
    show pure (env.blockKind == .function && env.kindOf y == some .local && py.line == pos.line && !(csc.names.any fun q => q.1 == y && (q.2 == .local || q.2 == .cell))) = _
    rw [hb, show env.kindOf y = some .local from hy, hline, hany]
    simp
  obtain ⟨cl, hclos, hcl⟩ := closure_ok (csc := csc) (env := env) fun n k hm hk => by
    obtain ⟨c, u, hc, _⟩ := R.fr.has n ((hfree (n, k) hm).elim (fun q => absurd hk q) id)
    exact ⟨c, hc⟩
  rw [exec_Assign_Name_used _ _ _ _ hsw]
  refine wpAny_bind (wpAny_standAt (wpAny_bind ?_))
  show wpAny C.M A (do let _ ← comprehension (.ListComp elt [⟨.Name x px, .Call (.Name "range" pf) [a] [] pr, [], 0⟩] csc pos) csc env _ (newList []) false (eval (.Call (.Name "range" pf) [a] [] pr) env) (some (assign (.Name y py) env))) _ _ s
  refine wpAny_bind (wpAny_mono (wpAny_comprehension_free (use := some (assign (.Name y py) env)) (Q := fun _ s' => Q .next s') rfl (by intro _; rfl) hclos hkind (fun q hq hl => (hnames q hq).elim (fun h => absurd hl h) id) ?_) (fun _ s' hq => wpAny_pure (wpAny_pure hq)) fun _ _ e => e)
  show wpAny C.M A (do callWith pr (← eval (.Name "range" pf) env) [] (backTo pr (starEach [a] env)) []) _ E s
  refine wpAny_bind (Name_function_global R.fr.kind g.1 (loadGlobal_builtin (R.gns W) W.rng.1 (R.bns W) W.rng.2 ?_) g.2)
  refine call_with (P := fun _ => True) e1 (fun h _ => ⟨_, .inr (.inl rfl), keeper_type _ _ _⟩) ?_
  refine (alls_ok W [a]).1 X ρ α σ _ ws σ₁' s E pr _ (by rw [okEs_cons, oka]; rfl) e1 R fun α₁ us s₁ R₁ E₁ V₁ => ⟨trivial, ?_⟩
  rw [List.nil_append]
  have hl1 := evEs_len e1
  match ws, hl1 with
  | [w], _ =>
  obtain ⟨u, rfl, hu⟩ := V₁.one
  obtain ⟨b, rfl, hb, rfl⟩ : ∃ b, w = .d (.int b) ∧ (-1000000 ≤ b ∧ b ≤ 1000000) ∧ vs' = rangeD 0 b := by
    unfold iterF at e2
    rw [if_pos rfl] at e2
    split at e2
    · rename_i b hw
      split at e2
      · rename_i hb
        cases e2
        simp only [List.cons.injEq, and_true] at hw
        exact ⟨b, hw, hb, rfl⟩
      · cases e2
    · rename_i hw; simp at hw
    · cases e2
  simp only [VRel, DRel] at hu
  obtain ⟨t, rfl⟩ := hu
  refine call_range_1 ?_
  have E0 := Ext0.push (env := env) (s := s₁) { cls := .type "range", data := .fields #[.int 0 s₁.toks, .int b t, .int 1 (s₁.toks + 1)] } (s₁.toks + 1 + 1)
  have R₂ := R₁.ext0 E0
  generalize hS2 : ({ s₁ with heap := s₁.heap.push { cls := .type "range", data := .fields #[.int 0 s₁.toks, .int b t, .int 1 (s₁.toks + 1)] }, toks := s₁.toks + 1 + 1 } : Shared) = s₂ at E0 R₂ ⊢
  have hr : IsRange s₂.heap s₁.heap.objs.size 0 b 1 s₁.toks t (s₁.toks + 1) := by rw [← hS2]; exact Heap.get?_push_size _ rfl
  obtain ⟨hs, hz⟩ := small_of (a := 0) (b := b) (by omega) hb
  rw [Int.sub_zero] at hz
  refine wpAny_pyIter_range hr hs ?_
  have hiter : ∀ o : Obj, (s₂.heap.push o).objs.size = s₂.heap.objs.size + 1 := fun o => Heap.size_push _ _
  have hmL := rangeD_eq' b
  rw [hmL] at e3
  refine comp_run (env := env) (W := (Walks.range W.hh s₂.heap.objs.size 0 1 b.toNat).bound) (by rw [sizeLine_eq]; omega) (fun v y => ∃ i t, v = .int i t ∧ ∃ d, itemP csc ρ (.Name x px) elt (.d (.int i)) = some d ∧ Scal d y) (fun q hq => hcell q hq) hkind hx
    (by show IsRangeIter _ _ _ _ _; rw [hz]; simpa using Heap.get?_push_size _ rfl) (by show s₂.heap.objs.size < (s₂.heap.push _).objs.size; rw [hiter]; exact Nat.lt_succ_self _) ?_ ?_
  · intro s₃ m₃ i v E' hP hn hm hk
    obtain ⟨hi, t', rfl⟩ := hP
    have hv : (0 : Int) + (i : Int) * 1 = i := by omega
    rw [hv] at hm ⊢
    obtain ⟨d, hd, _⟩ := mapO_get e3 (rangeL_get hi)
    rw [Int.zero_add] at hd
    have hd' := hd
    unfold itemP at hd'
    simp only [Option.bind_eq_some_iff] at hd'
    obtain ⟨l, hl, d', hd1, hd2⟩ := hd'
    cases hl
    have hsc : scalar d' = true ∧ d' = d := by
      split at hd2
      · rename_i q; cases hd2; exact ⟨q, rfl⟩
      · cases hd2
    obtain ⟨hsc, rfl⟩ := hsc
    have keep3 : ∀ bb o, s₂.heap.get? bb = some o → s₃.heap.get? bb = some o := fun bb o e => hk bb o (Nat.ne_of_lt (Heap.lt_size e)) (Heap.get?_push_of_some _ e)
    have pe : PEnv C (Bad X α₁) s₃.heap (compEnvC csc cl ((s₂.heap.push { cls := .type "range_iterator", data := .fields #[rawInt 0, rawInt (Builtin.Range.rangeSize 0 b 1), rawInt 1] }).objs.size + 1) env) ([(x, V.d (D.int (i : Int)))] ++ captured csc ρ) := by
      refine ⟨hkind, fun n dd hg => ?_⟩
      rw [List.singleton_append] at hg
      simp only [getV_c] at hg
      by_cases hnx : n = x
      · subst hnx
        rw [if_pos rfl] at hg
        simp only [Option.some.injEq, V.d.injEq] at hg
        subst hg
        exact .inl ⟨lookup_relabel_local hx, m₃, _, hn, hm, by simp only [DRel]; exact ⟨_, rfl⟩⟩
      · rw [if_neg hnx] at hg
        obtain ⟨hg1, hg2⟩ := captured_get hg
        have hc := hcellOf n hg2
        obtain ⟨c, u, hcu, hi', hr'⟩ := R₂.fr.cel n _ hg1 (.inl hc)
        refine .inr ⟨relabel_free R.fr.kind hc hg2, c, u, ?_, ?_, ?_⟩
        · show cl.lookup n = some c
          rw [hcl n hg2]; exact hcu
        · obtain ⟨o, ho, hd⟩ := hi'
          exact ⟨o, keep3 _ _ ho, hd⟩
        · simp only [VRel] at hr'
          exact hr'.grow fun bb o nb e => ⟨keep3 bb o e, nb⟩
    exact pe_all elt E' s₃ _ d' okp hd1 pe fun u t hu => ⟨⟨i, t', rfl, d', hd, Scal.of hsc hu⟩, s₃.heap, t, rfl, fun _ _ e => e⟩
  · intro h' tk m' ys vs hn hpl hlen hP hF hk
    obtain ⟨m, hm, _⟩ := R₂.fr.loc
    have hmX := hm
    obtain ⟨oL, _, _, hoL, _⟩ := hmX
    have keep : ∀ bb o, s₂.heap.get? bb = some o → h'.get? bb = some o := fun bb o e => hk bb o (Nat.ne_of_lt (Heap.lt_size e)) (Heap.get?_push_of_some _ e)
    have hL := Heap.lt_size hoL
    rw [hiter] at hn hpl
    have hLC : env.locals ≠ s₂.heap.objs.size + 1 + 1 := Nat.ne_of_lt (Nat.lt_succ_of_lt (Nat.lt_succ_of_lt hL))
    have hLD : env.locals ≠ s₂.heap.objs.size + 1 := Nat.ne_of_lt (Nat.lt_succ_of_lt hL)
    show wpAny C.M A (assign (.Name y py) env (.ref (s₂.heap.push _).objs.size)) _ E _
    rw [hiter]
    refine wpAny_assign_Name (wpAny_storeName_local hy (hm.at' fun o e => keep _ o e) (fun h₂ hn₂ hs₂ => ?_) (by rw [R.fr.kind]; rfl))
    refine ⟨m', hn.sameBut hs₂ (Ne.symm hLC), fun h₃ hs₃ => ?_⟩
    have hs₃' : Heap.SameBut (s₂.heap.objs.size + 1 + 1) h₂ h₃ := hs₃
    have hn₃ := hn₂.sameBut hs₃' hLC
    have keep3 : ∀ bb o, bb ≠ env.locals → s₂.heap.get? bb = some o → h₃.get? bb = some o := fun bb o hb e => hs₃'.extBut bb o (Nat.ne_of_lt (Nat.lt_succ_of_lt (Nat.lt_succ_of_lt (Heap.lt_size e)))) (hs₂.extBut bb o hb (keep bb o e))
    obtain ⟨o3, _, _, ho3, _⟩ := id hn₃
    have hLv : (h₃.update env.locals fun _ => oL).get? env.locals = some oL := Heap.get?_update_self (fun _ => oL) ho3 (Heap.get?_some_iff.mp hoL).2
    have hsv : Heap.SameBut env.locals h₃ (h₃.update env.locals fun _ => oL) := .update ..
    have keepv : ∀ bb o, s₂.heap.get? bb = some o → (h₃.update env.locals fun _ => oL).get? bb = some o := fun bb o e => by
      by_cases hb : bb = env.locals
      · subst hb; rw [hoL] at e; cases e; exact hLv
      · exact hsv.extBut bb o hb (keep3 bb o hb e)
    have hplv : (h₃.update env.locals fun _ => oL).PlainList (s₂.heap.objs.size + 1) ys := ((hpl.extBut hs₂.extBut (Ne.symm hLD)).extBut hs₃'.extBut (Nat.ne_of_lt (Nat.lt_succ_self _))).extBut hsv.extBut (Ne.symm hLD)
    obtain ⟨kk, hplv⟩ := hplv
    have hsz : s₂.heap.objs.size ≤ (h₃.update env.locals fun _ => oL).objs.size := Nat.le_of_lt (Nat.lt_of_succ_lt (Heap.lt_size hplv))
    have Ev : Ext0 env s₂ { s₂ with heap := h₃.update env.locals fun _ => oL, toks := tk } := .of keepv hsz
    have hds : DsRel C (Bad X α₁) s₂.heap ds ys.toList := comp_items (f := itemP csc ρ (.Name x px) elt) (k := 0) (fun v y q => q) (by rw [hlen]; exact e3) (fun j v q => by
      obtain ⟨_, t, e⟩ := hP j v q
      exact ⟨t, by rw [e]; congr 1; omega⟩) hF
    have Fr := fresh_list (k := kk) R₂ Ev (Nat.le_succ _) (by rw [Array.toArray_toList]; exact hplv) hds
    have e5 : own (G.owned y) (.d (.list ds)) σ₁' = (v, σ₂) := by
      split at e4
      · exact Option.some.inj e4
      · cases e4
    obtain ⟨α₃, R₃, V₃, E₃⟩ := own_ok R₂ Ev Fr e5
    obtain ⟨R₄, S₄⟩ := R₃.stLocal (t := tk + 1) hy (hm.at' fun o e => keepv _ o e) V₃ hn₃ ⟨hsv.1.symm, fun bb hb => (hsv.2 bb hb).symm⟩
    subst hS2
    exact hQ α₃ .next _ R₄ ((((E₁.trans E0.ext).trans E₃).toS).trans S₄) rfl
theorem ok_AssignAll (W : Wk C G A) {ts : List Expr} {e : Expr} {pos : Pos} : SOk C G A env (.Assign ts e pos) := fun X ρ α σ fl ρ' σ' s E Q ok h R hQ => by
  rcases okS_Assign ok with (⟨h1, h2⟩ | h1) | h1
  · exact ok_Assign W h1 h2 h R hQ
  · obtain ⟨y, py, elt, x, px, pf, a, pr, csc, pos, rfl, rfl, h2⟩ := okCompA_ex h1
    exact ok_CompAssign W h2 h R hQ
  · obtain ⟨r, pr, ps, pc, elt, x, y, px, py, k, tp, pf, args, pz, csc, pos, rfl, h2, rfl, h3⟩ := okZipA_ex h1
    exact ok_ZipAssign W h2 h3 h R hQ
theorem okS_none {st : Stmt} (h : okS G.const env.scope st = false) : SOk C G A env st := fun X ρ α σ fl ρ' σ' s E Q ok => by rw [h] at ok; cases ok

mutual
theorem st_ok (W : Wk C G A) : ∀ st : Stmt, SOk C G A env st
  | .Pass _ => ok_Pass
  | .Expr _ _ => ok_Expr W
  | .Return _ _ => ok_Return W
  | .Assign _ _ _ => ok_AssignAll W
  | .If _ b e _ => ok_If W (sts_ok W b) (sts_ok W e)
  | .For _ _ b _ _ => ok_For W (sts_ok W b)
  | .While .. => okS_none (by rfl)
  | .FunctionDef .. => okS_none (by rfl)
  | .AsyncFunctionDef .. => okS_none (by rfl)
  | .ClassDef .. => okS_none (by rfl)
  | .Delete .. => okS_none (by rfl)
  | .TypeAlias .. => okS_none (by rfl)
  | .AugAssign .. => okS_none (by rfl)
  | .AnnAssign .. => okS_none (by rfl)
  | .AsyncFor .. => okS_none (by rfl)
  | .With .. => okS_none (by rfl)
  | .AsyncWith .. => okS_none (by rfl)
  | .Match .. => okS_none (by rfl)
  | .Raise .. => okS_none (by rfl)
  | .Try .. => okS_none (by rfl)
  | .TryStar .. => okS_none (by rfl)
  | .Assert .. => okS_none (by rfl)
  | .Import .. => okS_none (by rfl)
  | .ImportFrom .. => okS_none (by rfl)
  | .Global .. => okS_none (by rfl)
  | .Nonlocal .. => okS_none (by rfl)
  | .Break .. => okS_none (by rfl)
  | .Continue .. => okS_none (by rfl)
theorem sts_ok (W : Wk C G A) : ∀ ss : List Stmt, SsOk C G A env ss
  | [] => .nil
  | st :: r => .cons (st_ok W st) (sts_ok W r)
end

end
end Mine
end

section
set_option autoImplicit false
namespace Mine
open PySem PyProof.Rows PySem.Calls

theorem lookup_zip {x : Str} : ∀ {ns : List Str} {vs : List Value}, ns.length = vs.length → x ∈ ns → ((ns.zip vs).lookup x).isSome = true
  | [], _, _, h => nomatch h
  | n :: ns, v :: vs, hl, h => by
    rw [List.zip_cons_cons, List.lookup_cons]
    cases hb : x == n with
    | true => rfl
    | false =>
      rcases List.mem_cons.mp h with e | e
      · subst e; simp at hb
      · exact lookup_zip (by simpa using hl) e

theorem fm_congr {β γ : Type} {f g : β → Option γ} : ∀ {l : List β}, (∀ x ∈ l, f x = g x) → l.filterMap f = l.filterMap g
  | [], _ => rfl
  | x :: r, h => by rw [List.filterMap_cons, List.filterMap_cons, h x (.head _), fm_congr fun y hy => h y (.tail _ hy)]

theorem filterMap_zip : ∀ {ns : List Str} {vs : List Value}, ns.length = vs.length → ns.Nodup → ns.filterMap (fun n => ((ns.zip vs).lookup n).map fun v => (n, v)) = ns.zip vs
  | [], _, _, _ => rfl
  | n :: ns, v :: vs, hl, hn => by
    obtain ⟨h1, h2⟩ := List.nodup_cons.mp hn
    rw [List.filterMap_cons]
    simp only [List.zip_cons_cons, List.lookup_cons, beq_self_eq_true, Option.map_some]
    congr 1
    refine (fm_congr fun x hx => ?_).trans (filterMap_zip (by simpa using hl) h2)
    have : (x == n) = false := beq_eq_false_iff_ne.mpr fun q => h1 (q ▸ hx)
    simp only [this]

theorem bindArgs_plain {n : Str} {body : List Stmt} {sc : Scope} {pm cd doc : Value} {as : List Arg} {vals : List Value} (hl : (as.map (·.arg)).length = vals.length) (hn : (as.map (·.arg)).Nodup) :
    bindArgs (docDef n ⟨[], as, none, [], [], none, []⟩ body sc pm cd doc) ⟨vals, []⟩ = pure ((as.map (·.arg)).zip vals) := by
  have e1 : (as.map (·.arg)).filter (fun n => ((as.map (·.arg)).zip vals).lookup n |>.isNone) = [] := by
    rw [List.filter_eq_nil_iff]
    intro x hx
    have := lookup_zip hl hx
    cases h : ((as.map (·.arg)).zip vals).lookup x <;> simp_all
  have e2 := filterMap_zip hl hn
  have e3 : ¬ (vals.length > (as.map (·.arg)).length) := by omega
  unfold bindArgs
  simp only [docDef, List.map_nil, List.nil_append, List.append_nil, List.forIn_nil, pure_bind, Option.isNone_none, Bool.and_true, decide_eq_true_eq]
  show (seqItems? Value.none >>= _) = _
  have e4 : seqItems? Value.none = pure none := rfl
  rw [e4, pure_bind]
  simp only [Option.getD_none, e3, if_false, List.length_nil, List.drop_nil, Nat.sub_zero, List.take_length, e1, List.isEmpty_nil, Bool.not_true, Bool.false_eq_true, List.zip_nil_right, List.forIn_nil, pure_bind, e2]

theorem bindL_out {k : Str → Option NameKind} {x : Str} : ∀ {bs : List (Str × Value)} {m : Str → Option Value}, x ∉ bs.map (·.1) → bindL k bs m x = m x
  | [], _, _ => rfl
  | (n, v) :: r, m, h => by
    simp only [List.map_cons, List.mem_cons, not_or] at h
    simp only [bindL]
    rw [bindL_out h.2]
    split
    · simp [h.1]
    · rfl
theorem bindC_out {k : Str → Option NameKind} {x : Str} : ∀ {bs : List (Str × Value)} {m : Str → Option Value}, x ∉ bs.map (·.1) → bindC k bs m x = m x
  | [], _, _ => rfl
  | (n, v) :: r, m, h => by
    simp only [List.map_cons, List.mem_cons, not_or] at h
    simp only [bindC]
    rw [bindC_out h.2]
    split
    · rfl
    · simp [h.1]
theorem bindL_in {k : Str → Option NameKind} {x : Str} {u : Value} (hk : k x = some .local) : ∀ {bs : List (Str × Value)} {m : Str → Option Value}, (bs.map (·.1)).Nodup → (x, u) ∈ bs → bindL k bs m x = some u
  | (n, v) :: r, m, hn, h => by
    simp only [List.map_cons, List.nodup_cons] at hn
    simp only [bindL]
    rcases List.mem_cons.mp h with e | e
    · cases e
      rw [bindL_out hn.1, if_pos hk]; simp
    · exact bindL_in hk hn.2 e
theorem bindC_in {k : Str → Option NameKind} {x : Str} {u : Value} (hk : k x ≠ some .local) : ∀ {bs : List (Str × Value)} {m : Str → Option Value}, (bs.map (·.1)).Nodup → (x, u) ∈ bs → bindC k bs m x = some u
  | (n, v) :: r, m, hn, h => by
    simp only [List.map_cons, List.nodup_cons] at hn
    simp only [bindC]
    rcases List.mem_cons.mp h with e | e
    · cases e
      rw [bindC_out hn.1, if_neg hk]; simp
    · exact bindC_in hk hn.2 e

theorem cells_more {x : Str} : ∀ {names : List (Str × NameKind)} {n : Nat} {acc : List (Str × Addr)}, (acc.lookup x).isSome = true → ((cellsFrom n names acc).lookup x).isSome = true
  | [], _, _, h => h
  | (y, k) :: r, n, acc, h => by
    unfold cellsFrom
    split
    · refine cells_more ?_
      rw [List.lookup_cons]
      split
      · rfl
      · exact h
    · exact cells_more h
theorem cells_has {x : Str} : ∀ {names : List (Str × NameKind)} {n : Nat} {acc : List (Str × Addr)}, names.lookup x = some .cell → ((cellsFrom n names acc).lookup x).isSome = true
  | (y, k) :: r, n, acc, h => by
    rw [List.lookup_cons] at h
    unfold cellsFrom
    cases hb : x == y with
    | true =>
      rw [hb] at h
      simp only [Option.some.injEq] at h
      subst h
      rw [if_pos (by rfl)]
      exact cells_more (by rw [List.lookup_cons, hb]; rfl)
    | false =>
      rw [hb] at h
      split <;> exact cells_has h
theorem cells_keys : ∀ {names : List (Str × NameKind)} {n m : Nat} {acc acc' : List (Str × Addr)}, acc.map (·.1) = acc'.map (·.1) → (cellsFrom n names acc).map (·.1) = (cellsFrom m names acc').map (·.1)
  | [], _, _, _, _, h => h
  | (y, k) :: r, n, m, acc, acc', h => by
    unfold cellsFrom
    split
    · exact cells_keys (by simp [h])
    · exact cells_keys h
theorem lookup_in {β : Type} {x : Str} {c : β} : ∀ {l : List (Str × β)}, (l.map (·.1)).Nodup → (x, c) ∈ l → l.lookup x = some c
  | (y, d) :: r, hn, h => by
    simp only [List.map_cons, List.nodup_cons] at hn
    rw [List.lookup_cons]
    rcases List.mem_cons.mp h with e | e
    · cases e; simp
    · have : (x == y) = false := beq_eq_false_iff_ne.mpr fun q => hn.1 (q ▸ List.mem_map.mpr ⟨_, e, rfl⟩)
      rw [this]; exact lookup_in hn.2 e

/-- a def that can be called -/
noncomputable def okFn (K : Str → Option D) (r : FnRec) : Bool :=
  r.args.posonlyargs.isEmpty && r.args.vararg.isNone && r.args.kwonlyargs.isEmpty && r.args.kw_defaults.isEmpty && r.args.kwarg.isNone && r.args.defaults.isEmpty &&
  decide ((r.args.args.map (·.arg)).Nodup) && (r.args.args.all fun a => okN r.scope a.arg) && decide (((cellsFrom 0 r.scope.names []).map (·.1)).Nodup) &&
  (r.scope.kind == .function) && !r.scope.isCoroutine && !r.scope.isGenerator && okSs K r.scope r.body

end Mine
end

section
set_option autoImplicit false
namespace Mine
open PySem PyProof.Rows PySem.Calls

/-- what stands when the law is called -/
structure Tops (C : Wo) (body : List Stmt) (H : Hints) : Prop where
  h2 : 2 ≤ C.base.objs.size
  gns : C.base.Ns mainGlobals C.mg
  bns : C.base.Ns builtinsNs C.mb
  nolimit : C.base.NoLimit
  bf : ∀ f b, bfOf f = some b → C.mg f = none ∧ C.mb f = some (bfVal b)
  isi : C.mg "isinstance" = none ∧ C.mb "isinstance" = some (.builtin "isinstance")
  tys : ∀ t ∈ typeStrs, C.mg (Str.ofString t) = none ∧ C.mb (Str.ofString t) = some (.type t)
  rng : C.mg "range" = none ∧ C.mb "range" = some (.type "range")
  zp : C.mg "zip" = none ∧ C.mb "zip" = some (.type "zip")
  rev : C.mg "reversed" = none ∧ C.mb "reversed" = some (.type "reversed")
  cst : ∀ x d, H.consts.lookup x = some d → ∃ u, C.mg x = some u ∧ ∀ B h, DRel C B h d u
  fn : ∀ f r, findFn f body = some r → okFn (fun x => H.consts.lookup x) r = true ∧ ∃ a o pm code doc, C.mg f = some (.ref a) ∧ C.base.get? a = some o ∧ o.data = .func (docDef r.name r.args r.body r.scope pm code doc) ∧ C.base.CodeRec code r.name

structure AOk (d : Nat) (A : Around) : Prop where
  hh : A.handled = none
  dep : A.depth + d < recursionLimit
  uni : A.units + 3 * d + 30 < cLine

theorem AOk.deeper {d : Nat} {A : Around} (x : AOk (d + 1) A) (env : Env) : AOk d (A.deeper env) :=
  ⟨x.hh, by have := x.dep; show A.depth + 1 + d < _; omega, by have := x.uni; show A.units + 3 + 3 * d + 30 < _; omega⟩

section
variable {C : Wo} {G : Genv} {X X' : Addr → Prop} {env : Env} {ρ ρ' : Loc} {α α' α'' : List Addr} {σ σ' σ'' : St} {s s' s'' : Shared} {A : Around} {E : Value → Shared → Prop}

/-- the arguments of a pure call, as data -/
theorem snaps_ok (R : Rel C X env ρ α σ s) : ∀ {args : List V} {us : List Value} {ds : List D} {b : Bool}, VsRel C X α s.heap args us → snaps σ args = some (ds, b) →
    DsRel C B0 s.heap ds us ∧ (b = false → DsRel C (Bad X α) s.heap ds us)
  | [], us, ds, b, r, e => by
    simp only [snaps_n, Option.some.injEq, Prod.mk.injEq] at e
    obtain ⟨rfl, rfl⟩ := e
    simp only [VsRel] at r
    subst r
    simp only [DsRel]; exact ⟨trivial, fun _ => trivial⟩
  | v :: vs, us, ds, b, r, e => by
    simp only [snaps_c, Option.bind_eq_some_iff, Option.map_eq_some_iff, Prod.mk.injEq] at e
    obtain ⟨d, hd, ⟨ds', b'⟩, hr, rfl, e2⟩ := e
    simp only [VsRel] at r
    obtain ⟨u, us', rfl, p, q⟩ := r
    obtain ⟨h1, h2⟩ := snaps_ok R q hr
    refine ⟨?_, fun hb => ?_⟩
    · simp only [DsRel]; exact ⟨u, us', rfl, view_ok R.st _ p hd, h1⟩
    · cases v with
      | d x =>
        cases hd
        simp only [DsRel]
        exact ⟨u, us', rfl, VRel.d_iff.mp p, h2 (e2.trans hb)⟩
      | obj n => simp only at e2; rw [hb] at e2; cases e2
      | tup xs => simp only at e2; rw [hb] at e2; cases e2

theorem bindP_rel {B : Addr → Prop} {h : Heap} : ∀ {as : List Arg} {ds : List D} {us : List Value} {ρ : Loc}, bindP as (ds.map .d) = some ρ → DsRel C B h ds us →
    ((as.map (·.arg)).length = us.length ∧ ∀ x v, getV x ρ = some v → ∃ d u, v = .d d ∧ (x, u) ∈ (as.map (·.arg)).zip us ∧ DRel C B h d u)
  | [], [], us, ρ, e, r => by
    simp only [List.map_nil, bindP, Option.some.injEq] at e
    subst e
    simp only [DsRel] at r
    subst r
    exact ⟨rfl, fun x v q => by cases q⟩
  | [], _ :: _, _, _, e, _ => by simp [bindP] at e
  | _ :: _, [], _, _, e, _ => by simp [bindP] at e
  | a :: as, d :: ds, us, ρ, e, r => by
    simp only [List.map_cons, bindP, Option.map_eq_some_iff] at e
    obtain ⟨ρ', e', rfl⟩ := e
    simp only [DsRel] at r
    obtain ⟨u, us', rfl, p, q⟩ := r
    obtain ⟨h1, h2⟩ := bindP_rel e' q
    refine ⟨by simpa using h1, fun x v g => ?_⟩
    simp only [getV_c] at g
    split at g
    · rename_i hx
      cases g
      exact ⟨d, u, rfl, by rw [hx]; simp, p⟩
    · obtain ⟨d', u', e1, e2, e3⟩ := h2 x v g
      exact ⟨d', u', e1, by rw [List.map_cons, List.zip_cons_cons]; exact .tail _ e2, e3⟩

/-- what comes back -/
theorem hand_ok {B : Addr → Prop} {n : Nat} (hB : ∀ a, B a → X a) (hn : ∀ a ∈ α, n ≤ a) (S : SRel C X α σ s.heap) {fresh : Bool} {v : V} {u : Value} {x : D} (r : VRel C X α s.heap v u) (h : handD fresh σ v = some x) :
    DRel C B s.heap x u ∧ (fresh = true → FreshRel C B s.heap n x u) := by
  cases v with
  | d y =>
    simp only [handD] at h
    split at h
    · cases h
    · rename_i hp
      simp only [Option.some.injEq] at h
      subst h
      have dr : DRel C B s.heap y u := (VRel.d_iff.mp r).weaken fun a q => .inl (hB a q)
      refine ⟨dr, fun hf => ?_⟩
      subst hf
      simp only [Bool.true_and, Bool.not_eq_true', Bool.not_eq_false] at hp
      cases y with
      | list _ => cases hp
      | dict _ _ => cases hp
      | _ => exact dr
  | tup xs =>
    simp only [handD] at h
    have dr := view_okB (s := s) hB S 2 r h
    refine ⟨dr, fun _ => ?_⟩
    rw [view_2, Option.map_eq_some_iff] at h
    obtain ⟨ys, _, rfl⟩ := h
    exact dr
  | obj m =>
    simp only [VRel] at r
    obtain ⟨a, ha, rfl⟩ := r
    have ham := List.mem_of_getElem? ha
    have nB : ¬ B a := fun q => S.out a ham (hB a q)
    simp only [handD] at h
    split at h
    · rename_i xs ho
      simp only [Option.map_eq_some_iff] at h
      obtain ⟨ds, hd, rfl⟩ := h
      simp only [oget, Option.map_eq_some_iff] at ho
      obtain ⟨⟨b, q⟩, hq, rfl⟩ := ho
      obtain ⟨vs, k, t, rr⟩ := S.obj m a b _ ha hq
      rw [allD_map hd] at rr
      have r2 := VsRel.map.mp rr
      have fr : FreshRel C B s.heap n (.list ds) (.ref a) := ⟨a, vs, k, rfl, hn a ham, t, nB, r2.weaken fun b q => q.elim (fun q => .inl (hB b q)) fun q => .inr (q ▸ ham)⟩
      exact ⟨fr.rel, fun _ => fr⟩
    · rename_i ks xs ho
      simp only [Option.map_eq_some_iff] at h
      obtain ⟨ds, hd, rfl⟩ := h
      simp only [oget, Option.map_eq_some_iff] at ho
      obtain ⟨⟨b, q⟩, hq, rfl⟩ := ho
      obtain ⟨vs, t, l, rr⟩ := S.obj m a b _ ha hq
      rw [allD_map hd] at rr
      have r2 := VsRel.map.mp rr
      have fr : FreshRel C B s.heap n (.dict ks ds) (.ref a) := ⟨a, vs, rfl, hn a ham, t, l, S.low a ham, nB, r2.weaken fun b q => q.elim (fun q => .inl (hB b q)) fun q => .inr (q ▸ ham)⟩
      exact ⟨fr.rel, fun _ => fr⟩
    · cases h

theorem Rel.noTupBad (R : Rel C X env ρ α σ s) {a : Addr} (h : Bad X α a) : ∃ o, s.heap.get? a = some o ∧ NoTup o := by
  rcases h with h | h
  · exact R.xnt a h
  · obtain ⟨n, hn, e⟩ := List.getElem_of_mem h
    have h1 : α[n]? = some a := by rw [List.getElem?_eq_getElem hn, e]
    have h2 : n < σ.length := R.st.len ▸ hn
    have x := R.st.obj n a _ _ h1 (show σ[n]? = some ((σ[n]).1, (σ[n]).2) by rw [List.getElem?_eq_getElem h2])
    cases ho : (σ[n]).2 with
    | list xs => rw [ho] at x; obtain ⟨vs, k, t, _⟩ := x; exact ⟨_, t, fun _ _ q => by have := q.1; simp [lobj] at this⟩
    | dict ks xs => rw [ho] at x; obtain ⟨vs, t, _⟩ := x; obtain ⟨o, es, ep, hg, _, hd, _⟩ := t; exact ⟨o, hg, fun _ _ q => nomatch hd.symm.trans q.2⟩
    | inst _ _ _ => rw [ho] at x; exact x.elim

theorem plainDs_fresh {B : Addr → Prop} {h : Heap} {n : Nat} {x : D} {u : Value} (hp : plainD x = true) (r : DRel C B h x u) : FreshRel C B h n x u := by
  cases x with
  | list _ => cases hp
  | dict _ _ => cases hp
  | _ => exact r

theorem findFn_name {f : Str} {r : FnRec} : ∀ {body : List Stmt}, findFn f body = some r → r.name = f
  | [], h => by cases h
  | st :: rest, h => by
    rw [findFn_c] at h
    split at h
    · split at h
      · rename_i hn; cases h; exact hn
      · exact findFn_name h
    · exact findFn_name h

theorem okFn_args {K : Str → Option D} {r : FnRec} (h : okFn K r = true) : r.args = ⟨[], r.args.args, none, [], [], none, []⟩ ∧ (r.args.args.map (·.arg)).Nodup ∧ (∀ a ∈ r.args.args, okN r.scope a.arg = true) ∧ ((cellsFrom 0 r.scope.names []).map (·.1)).Nodup ∧
    r.scope.kind = .function ∧ r.scope.isCoroutine = false ∧ r.scope.isGenerator = false ∧ okSs K r.scope r.body = true := by
  simp only [okFn, Bool.and_eq_true, decide_eq_true_eq, beq_iff_eq, Bool.not_eq_true', List.all_eq_true, List.isEmpty_iff, Option.isNone_iff_eq_none] at h
  obtain ⟨⟨⟨⟨⟨⟨⟨⟨⟨⟨⟨⟨h1, h2⟩, h3⟩, h4⟩, h5⟩, h6⟩, h7⟩, h8⟩, h9⟩, h10⟩, h11⟩, h12⟩, h13⟩ := h
  refine ⟨?_, h7, h8, h9, h10, h11, h12, h13⟩
  cases hr : r.args
  rw [hr] at h1 h2 h3 h4 h5 h6
  simp only at h1 h2 h3 h4 h5 h6
  subst h1 h2 h3 h4 h5 h6
  rfl

/-- a new frame reads as told -/
theorem entry_rel {name : Str} {sc : Scope} {a : Addr} {cd : Value} {B : Addr → Prop} {as : List Arg} {ds : List D} {us : List Value} {h₁ : Heap} {tk : Nat} (bas : ∀ b o, C.base.get? b = some o → s.heap.get? b = some o) (hbs : C.base.objs.size ≤ s.heap.objs.size)
    (hk : sc.kind = .function) (hnd : (as.map (·.arg)).Nodup) (hok : ∀ a ∈ as, okN sc a.arg = true) (hcn : ((cellsFrom 0 sc.names []).map (·.1)).Nodup) (hb : bindP as (ds.map .d) = some ρ') (hd : DsRel C B s.heap ds us)
    (hB : ∀ a, B a → ∃ o, s.heap.get? a = some o ∧ NoTup o)
    (F : Fr s.heap s.heap.objs.size h₁ (bindL (envOfC name sc s.heap.objs.size a cd).kindOf ((as.map (·.arg)).zip us) fun _ => none))
    (X₁ : Cl s.heap.objs.size (cellsFrom (s.heap.objs.size + 1) sc.names []) h₁ (bindC (envOfC name sc s.heap.objs.size a cd).kindOf ((as.map (·.arg)).zip us) fun _ => none)) :
    Rel C (fun b => B b ∨ b ∈ FA (envOfC name sc s.heap.objs.size a cd)) (envOfC name sc s.heap.objs.size a cd) ρ' [] [] { s with heap := h₁, toks := tk } := by
  obtain ⟨hlen, hget⟩ := bindP_rel hb hd
  have hzk : ((as.map (·.arg)).zip us).map (·.1) = as.map (·.arg) := by rw [List.map_fst_zip]; omega
  have hznd : (((as.map (·.arg)).zip us).map (·.1)).Nodup := by rw [hzk]; exact hnd
  have hcn' : ((cellsFrom (s.heap.objs.size + 1) sc.names []).map (·.1)).Nodup := by rw [cells_keys (m := 0) (acc' := []) rfl]; exact hcn
  have hcell : ∀ x c, (x, c) ∈ (cellsFrom (s.heap.objs.size + 1) sc.names []) → ∃ u, h₁.IsCell c u := fun x c hm => ⟨_, X₁.cell x c (lookup_in hcn' hm)⟩
  have faGe : ∀ b ∈ FA (envOfC name sc s.heap.objs.size a cd), s.heap.objs.size ≤ b := fun b hm => by
    rcases List.mem_cons.mp hm with e | hm
    · subst e; exact Nat.le_refl _
    · obtain ⟨⟨x, c⟩, hm', rfl⟩ := List.mem_map.mp hm
      exact Nat.le_of_lt (X₁.above x c hm')
  have faNo : ∀ b ∈ FA (envOfC name sc s.heap.objs.size a cd), ∃ o, h₁.get? b = some o ∧ NoTup o := fun b hm => by
    rcases List.mem_cons.mp hm with e | hm
    · subst e; exact Heap.Ns.noTup F.ns
    · obtain ⟨⟨x, c⟩, hm', rfl⟩ := List.mem_map.mp hm
      obtain ⟨u, hu⟩ := hcell x c hm'
      exact Heap.IsCell.noTup hu
  have nt : ∀ b, (B b ∨ b ∈ FA (envOfC name sc s.heap.objs.size a cd)) → ∃ o, h₁.get? b = some o ∧ NoTup o := fun b hb => by
    rcases hb with hb | hb
    · obtain ⟨o, ho, hn⟩ := hB b hb; exact ⟨o, F.keep b o ho, hn⟩
    · exact faNo b hb
  have g : Grow B s.heap (Bad (fun b => B b ∨ b ∈ FA (envOfC name sc s.heap.objs.size a cd)) []) h₁ := fun b o n e => ⟨F.keep b o e, fun q => by
    rcases q with (q | q) | q
    · exact n q
    · exact absurd (Heap.lt_size e) (Nat.not_lt.mpr (faGe b q))
    · cases q⟩
  have kindEq : ∀ x, (envOfC name sc s.heap.objs.size a cd).kindOf x = sc.names.lookup x := fun x => rfl
  have memArg : ∀ {x : Str} {u : Value}, (x, u) ∈ (as.map (·.arg)).zip us → okN sc x = true := fun hm => by
    have := (List.of_mem_zip hm).1
    obtain ⟨ar, h1, rfl⟩ := List.mem_map.mp this
    exact hok ar h1
  refine ⟨fun b o e => F.keep b o (bas b o e), ⟨hk, rfl, rfl, fun x v e => ?_, ⟨_, F.ns, fun x v e k => ?_⟩, fun x v e k => ?_, fun x k => ?_, X₁.apart, fun x c hm => Nat.ne_of_gt (X₁.above x c hm)⟩,
    ⟨rfl, List.nodup_nil, (fun a ha => nomatch ha), (fun a ha => nomatch ha), fun n a b o h1 => by simp at h1⟩, fun b hm => .inr hm, fun b hm => Nat.le_trans hbs (faGe b hm), fun b hb => ?_, nt⟩
  · obtain ⟨d, u, _, hm, _⟩ := hget x v e
    have := memArg hm
    simp only [okN, Bool.or_eq_true, beq_iff_eq] at this
    rcases this with q | q
    · exact .inl q
    · exact .inr (.inl q)
  · obtain ⟨d, u, rfl, hm, hr⟩ := hget x v e
    exact ⟨u, bindL_in k hznd hm, by simp only [VRel]; exact hr.grow g⟩
  · obtain ⟨d, u, rfl, hm, hr⟩ := hget x v e
    have hc : sc.names.lookup x = some .cell := by
      have := memArg hm
      simp only [okN, Bool.or_eq_true, beq_iff_eq] at this
      rcases this with q | q
      · rw [kindEq, q] at k; rcases k with k | k <;> cases k
      · exact q
    obtain ⟨c, hcl⟩ := Option.isSome_iff_exists.mp (cells_has (n := s.heap.objs.size + 1) (acc := []) hc)
    refine ⟨c, u, hcl, ?_, by simp only [VRel]; exact hr.grow g⟩
    have := X₁.cell x c hcl
    rwa [bindC_in (by rw [kindEq, hc]; intro q; cases q) hznd hm] at this
  · obtain ⟨c, hcl⟩ := Option.isSome_iff_exists.mp (cells_has (n := s.heap.objs.size + 1) (acc := []) (show sc.names.lookup x = some .cell from k))
    exact ⟨c, _, hcl, X₁.cell x c hcl⟩
  · obtain ⟨o, ho, _⟩ := nt b hb; exact Heap.lt_size ho

/-- one call of a def, whoever calls -/
theorem call_core {body : List Stmt} {H : Hints} (T : Tops C body H) {d : Nat} (ih : ∀ (f₀ : Str) (A : Around), AOk d A → Wk C (gen body H d f₀) A) (hA : AOk (d + 1) A) {f : Str} {r : FnRec} (hok : okFn (fun x => H.consts.lookup x) r = true)
    {a : Addr} {o : Obj} {pm code doc : Value} (h2 : C.base.get? a = some o) (h3 : o.data = .func (docDef r.name r.args r.body r.scope pm code doc)) (h4 : C.base.CodeRec code r.name)
    {B : Addr → Prop} {ds : List D} {us : List Value} {fl : Fl} {ρ₁ : Loc} {σ₁ : St} {x : D} {fresh : Bool} (bas : ∀ b o, C.base.get? b = some o → s.heap.get? b = some o) (hbs : C.base.objs.size ≤ s.heap.objs.size)
    (hB : ∀ a, B a → ∃ o, s.heap.get? a = some o ∧ NoTup o) (hds : DsRel C B s.heap ds us) (e2 : bindP r.args.args (ds.map .d) = some ρ') (e3 : evSs (gen body H d f) r.body ρ' [] = some (fl, ρ₁, σ₁)) (e4 : handD fresh σ₁ (retV fl) = some x) {Q : Value → Shared → Prop}
    (hQ : ∀ u s', (∀ b o, s.heap.get? b = some o → s'.heap.get? b = some o) → s.heap.objs.size ≤ s'.heap.objs.size → s'.gens = s.gens → s'.os = s.os → DRel C B s'.heap x u → (fresh = true → FreshRel C B s'.heap s.heap.objs.size x u) → Q u s') :
    wpAny C.M A (call (.ref a) us) Q E s := by
  obtain ⟨ha, hnd, hpa, hcn, hk, hco, hge, hbo⟩ := okFn_args hok
  obtain ⟨hlen, _⟩ := bindP_rel e2 hds
  refine wpAny_call ?_
  refine call_cells_ret (name := r.name) (params := r.args) (body := r.body) (scope := r.scope) (pm := pm) (cd := code) (doc := doc) (binds := (r.args.args.map (·.arg)).zip us)
    (by have := hA.dep; omega) (bas _ _ h2) h3 (T.nolimit.keeps bas) (h4.keeps bas) (by rw [ha]; exact bindArgs_plain hlen hnd) (fun y hy => ?_) (fun hh tk F₁ X₁ => ?_) hco hge hk
  · obtain ⟨ar, ha1, ha2⟩ := List.mem_map.mp (List.of_mem_zip (show (y.1, y.2) ∈ _ from hy)).1
    have := hpa ar ha1
    simp only [okN, Bool.or_eq_true, beq_iff_eq] at this
    rw [ha2] at this
    rcases this with q | q
    · exact .inl q
    · exact .inr ⟨q, cells_has q⟩
  · have R₁ := entry_rel (a := a) (cd := code) (name := r.name) (tk := tk) bas hbs hk hnd hpa hcn e2 hds hB F₁ X₁
    refine sts_ok (ih f _ (hA.deeper _)) r.body _ ρ' [] [] fl ρ₁ σ₁ _ _ _ hbo e3 R₁ fun α₂ f₂ s₂ R₂ E₂ F₂ => ?_
    have keep : ∀ b o, s.heap.get? b = some o → s₂.heap.get? b = some o := fun b o e => E₂.keep b o (F₁.keep b o e) (fun q => by
        rcases List.mem_cons.mp q with q | q
        · subst q; exact absurd (Heap.lt_size e) (Nat.lt_irrefl _)
        · obtain ⟨⟨x, c⟩, hm, rfl⟩ := List.mem_map.mp q
          exact absurd (Heap.lt_size e) (Nat.not_lt.mpr (Nat.le_of_lt (X₁.above x c hm)))) (fun n hn => by simp at hn)
    have size1 : s.heap.objs.size ≤ hh.objs.size := Nat.le_of_lt (R₁.xlt _ (.inr (.head _)))
    have fin : ∀ u, VRel C (fun b => B b ∨ b ∈ FA (envOfC r.name r.scope s.heap.objs.size a code)) α₂ s₂.heap (retV fl) u → Q u s₂ := fun u hv => by
      have hnew : ∀ b ∈ α₂, s.heap.objs.size ≤ b := fun b hb => by
        obtain ⟨t, ht, hge'⟩ := E₂.new
        simp only [List.nil_append] at ht
        subst ht
        exact Nat.le_trans size1 (hge' b hb)
      obtain ⟨hD, hF⟩ := hand_ok (B := B) (n := s.heap.objs.size) (fun b q => .inl q) hnew R₂.st hv e4
      exact hQ u s₂ keep (Nat.le_trans size1 E₂.size) E₂.gens E₂.os hD hF
    cases fl with
    | next => simp only [FlRel] at F₂; subst F₂; exact fin _ (by simp only [retV, VRel, DRel])
    | ret w => obtain ⟨u, rfl, hw⟩ := F₂; exact fin u hw

theorem callN_ok {body : List Stmt} {H : Hints} (T : Tops C body H) : ∀ (d : Nat) (f₀ : Str) (A : Around), AOk d A → Wk C (gen body H d f₀) A := by
  intro d
  induction d with
  | zero =>
    intro f₀ A hA
    refine ⟨T.h2, by have := hA.uni; omega, hA.hh, T.gns, T.bns, T.bf, T.isi, T.tys, T.rng, T.zp, T.rev, T.cst, fun f hf => ?_, fun _ => rfl⟩
    obtain ⟨r, hr⟩ := Option.isSome_iff_exists.mp (show (findFn f body).isSome = true from hf)
    obtain ⟨_, a, o, pm, code, doc, h1, h2, h3, _⟩ := T.fn f r hr
    exact ⟨a, o, _, h1, h2, h3, fun X env ρ α σ s E Q args us v σ' _ _ h _ => by cases (show callN body H 0 f args σ = some (v, σ') from h)⟩
  | succ d ih =>
    intro f₀ A hA
    refine ⟨T.h2, by have := hA.uni; omega, hA.hh, T.gns, T.bns, T.bf, T.isi, T.tys, T.rng, T.zp, T.rev, T.cst, fun f hf => ?_, fun _ => rfl⟩
    obtain ⟨r, hr⟩ := Option.isSome_iff_exists.mp (show (findFn f body).isSome = true from hf)
    obtain ⟨hok, a, o, pm, code, doc, h1, h2, h3, h4⟩ := T.fn f r hr
    refine ⟨a, o, _, h1, h2, h3, fun X env ρ α σ s E Q args us v σ' R V h hQ => ?_⟩
    have hN : callN body H (d + 1) f args σ = some (v, σ') := h
    simp only [callN_s, hr, Option.bind_some] at hN
    split at hN
    · cases hN
    · simp only [Option.bind_eq_some_iff] at hN
      obtain ⟨⟨ds, snap⟩, e1, ρ', e2, ⟨fl, ρ₁, σ₁⟩, e3, x, e4, e5⟩ := hN
      dsimp only at e2 e3 e4 e5
      split at e5
      · cases e5
      · rename_i hsp
        simp only [Option.some.injEq, Prod.mk.injEq] at e5
        obtain ⟨rfl, rfl⟩ := e5
        obtain ⟨hs0, hs1⟩ := snaps_ok R V e1
        have hbs : C.base.objs.size ≤ s.heap.objs.size := Nat.le_trans (R.flow env.locals (.head _)) (Nat.le_of_lt (R.xlt _ (R.fa env.locals (.head _))))
        cases snap with
        | false =>
          refine call_core T ih hA hok h2 h3 h4 (B := Bad X α) R.bas hbs (fun b q => R.noTupBad q) (hs1 rfl) e2 e3 e4 fun u s₂ keep hz hg ho hD hF => ?_
          exact hQ x u s₂ rfl rfl ⟨fun b o e _ => keep b o e, fun m e => e.keeps keep, hz, hg, ho⟩ (fun q => hF q) hD
        | true =>
          refine call_core T ih hA hok h2 h3 h4 (B := B0) R.bas hbs (fun b q => q.elim) hs0 e2 e3 e4 fun u s₂ keep hz hg ho hD hF => ?_
          have hp : plainD x = true := by simpa using hsp
          have hD' : DRel C (Bad X α) s₂.heap x u := DRel.plain hp hD (fun _ _ e => e) fun b vs ht q => by
            obtain ⟨o, ho, hn⟩ := R.noTupBad q
            obtain ⟨o', ho', hc, k, hdt⟩ := ht
            rw [keep b o ho] at ho'
            cases ho'
            exact hn _ _ ⟨hc, hdt⟩
          exact hQ x u s₂ rfl rfl ⟨fun b o e _ => keep b o e, fun m e => e.keeps keep, hz, hg, ho⟩ (fun _ => plainDs_fresh hp hD') hD'

/-- the law's own call -/
theorem law_call {body : List Stmt} {H : Hints} (T : Tops C body H) {d : Nat} (hA : AOk (d + 1) A) {f : Str} {ds : List D} {us : List Value} {x : D} (h : callN body H (d + 1) f (ds.map .d) [] = some (.d x, []))
    (bas : ∀ b o, C.base.get? b = some o → s.heap.get? b = some o) (hbs : C.base.objs.size ≤ s.heap.objs.size) (hds : DsRel C B0 s.heap ds us) {a : Addr} (hmg : C.mg f = some (.ref a)) {Q : Value → Shared → Prop}
    (hQ : ∀ u s', (∀ b o, s.heap.get? b = some o → s'.heap.get? b = some o) → s'.gens = s.gens → s'.os = s.os → DRel C B0 s'.heap x u → Q u s') : wpAny C.M A (call (.ref a) us) Q E s := by
  have sn : ∀ ds : List D, snaps [] (ds.map .d) = some (ds, false) := fun ds => by
    induction ds with
    | nil => rfl
    | cons y r ih => simp only [List.map_cons, snaps_c, rd, view_6, Option.bind_some, ih, Option.map_some]
  simp only [callN_s, Option.bind_eq_some_iff] at h
  obtain ⟨r, hr, h⟩ := h
  split at h
  · cases h
  · rw [sn] at h
    simp only [Option.bind_eq_some_iff, Option.some.injEq] at h
    obtain ⟨⟨ds', snap⟩, e1, ρ', e2, ⟨fl, ρ₁, σ₁⟩, e3, y, e4, e5⟩ := h
    simp only [Prod.mk.injEq] at e1
    obtain ⟨rfl, rfl⟩ := e1
    dsimp only at e2 e3 e4 e5
    split at e5
    · cases e5
    · simp only [Option.some.injEq, Prod.mk.injEq, V.d.injEq, and_true] at e5
      subst e5
      obtain ⟨hok, a', o, pm, code, doc, h1, h2, h3, h4⟩ := T.fn f r hr
      rw [hmg] at h1
      cases h1
      exact call_core T (callN_ok T d) hA hok h2 h3 h4 (B := B0) bas hbs (fun b q => q.elim) hds e2 e3 e4 fun u s₂ keep hz hg ho hD hF => hQ u s₂ keep hg ho hD

end
end Mine
end

section
set_option autoImplicit false
namespace Mine
open PySem PySem.W PyProof.Rows PySem.Calls

noncomputable def toFn (d : DefRec) : FnRec := ⟨d.name, d.params, d.body, d.scope⟩
noncomputable def bnames : List Str := ["len", "min", "max", "int", "list", "dict", "set", "sorted", "all", "isinstance", "bool", "str", "tuple", "range", "zip", "reversed"]
noncomputable def freeOk (q : Program) (loose : List Str) (x : Str) : Bool :=
  !startupNames.contains x && !(looseW q loose).contains x && !((recsOf q).map (·.name)).contains x && !((litsOf q).map (·.1)).contains x && !((clssOf q (looseW q loose)).map (·.name)).contains x
noncomputable def cstOk (q : Program) (p : Str × D) : Bool := match p.2, valOf q p.1 with
  | .int i, some (.int j) => i == j
  | _, _ => false

theorem boot_bf : ∀ p ∈ bfL, p.1 ∈ bnames ∧ p.1 ≠ "__name__" ∧ bootBuiltins p.1 = some (bfVal p.2) := by decide +kernel
theorem boot_ty : ∀ t ∈ "range" :: "zip" :: "reversed" :: typeStrs, Str.ofString t ∈ bnames ∧ Str.ofString t ≠ "__name__" ∧ bootBuiltins (Str.ofString t) = some (.type t) := by decide +kernel
theorem boot_isi : ("isinstance" : Str) ∈ bnames ∧ ("isinstance" : Str) ≠ "__name__" ∧ bootBuiltins "isinstance" = some (.builtin "isinstance") := by decide +kernel

theorem findFn_mem {f : Str} {r : FnRec} : ∀ {body : List Stmt}, findFn f body = some r → r ∈ body.filterMap fnRec?
  | [], h => by cases h
  | st :: rest, h => by
    rw [findFn_c] at h
    rw [List.filterMap_cons]
    split at h
    · rename_i d hd
      rw [hd]
      split at h
      · cases h; exact .head _
      · exact .tail _ (findFn_mem h)
    · rename_i hd
      rw [hd]; exact findFn_mem h

theorem mem_lookup {x : Str} {d : D} : ∀ {l : List (Str × D)}, l.lookup x = some d → (x, d) ∈ l := fun h => mem_of_lookup h

theorem tops_of {q : Program} {loose : List Str} {mean : ExcName → Option Value} {C : Wo} {body : List Stmt} {H : Hints} (T : Top q (looseW q loose) mean C.mg C.mb C.base)
    (hrec : (recsOf q).map toFn = body.filterMap fnRec?) (hok : (body.filterMap fnRec?).all (okFn fun x => H.consts.lookup x) = true) (hcst : H.consts.all (cstOk q) = true) (hfree : bnames.all (freeOk q loose) = true) : Tops C body H := by
  have fr : ∀ x ∈ bnames, C.mg x = none := fun x hx => by
    have := List.all_eq_true.mp hfree x hx
    simp only [freeOk, Bool.and_eq_true, Bool.not_eq_true', List.contains_eq_mem, decide_eq_false_iff_not] at this
    obtain ⟨⟨⟨⟨a, b⟩, c⟩, d⟩, e⟩ := this
    exact T.free x a b c d e
  have bt : ∀ (x : Str) (v : Value), x ≠ "__name__" → bootBuiltins x = some v → C.mb x = some v := fun x v hx hv => (T.builtins x hx).trans hv
  have both : ∀ {x : Str} {v : Value}, (x ∈ bnames ∧ x ≠ "__name__" ∧ bootBuiltins x = some v) → C.mg x = none ∧ C.mb x = some v := fun h => ⟨fr _ h.1, bt _ _ h.2.1 h.2.2⟩
  obtain ⟨mc, hmc, _⟩ := T.nodigits
  refine ⟨?_, T.g, T.b, T.nolimit, fun f b hb => both (boot_bf (f, b) (mem_of_lookup hb)), both boot_isi, fun t ht => both (boot_ty t (.tail _ (.tail _ (.tail _ ht)))), both (boot_ty _ (.head _)), both (boot_ty _ (.tail _ (.head _))), both (boot_ty _ (.tail _ (.tail _ (.head _)))), ?_, ?_⟩
  · exact Nat.le_of_lt (show 2 < C.base.objs.size from hmc.lt)
  · intro x d hd
    have hm := List.all_eq_true.mp hcst _ (mem_lookup hd)
    unfold cstOk at hm
    split at hm
    · rename_i i j e1 e2
      dsimp only at e1 e2
      subst e1
      have : i = j := by simpa using hm
      subst this
      obtain ⟨v, hv, hr⟩ := T.const x _ e2
      cases hr C.base with
      | int _ t => exact ⟨_, hv, fun B h => by simp only [DRel]; exact ⟨_, rfl⟩⟩
    · cases hm
  · intro f r hr
    have hm := findFn_mem hr
    refine ⟨List.all_eq_true.mp hok r hm, ?_⟩
    rw [← hrec] at hm
    obtain ⟨d, hd, rfl⟩ := List.mem_map.mp hm
    obtain ⟨a, o, pm, code, doc, h1, h2, h3, h4⟩ := T.fn d hd
    have hn : d.name = f := findFn_name hr
    exact ⟨a, o, pm, code, doc, hn ▸ h1, h2, h3, h4⟩

theorem ints_of {cl : Str → Option Addr} {C : Wo} {h : Heap} : ∀ {xs : List WData} {vs : List Value} {as : List Addr}, WShape.hasItems [] xs .int = true → ReadsAllW [] cl h vs xs as → ∃ ns : List Int, ns.length = xs.length ∧ DsRel C B0 h (ns.map .int) vs
  | [], _, _, _, r => by cases r; exact ⟨[], rfl, by simp only [List.map_nil, DsRel]⟩
  | x :: xs, _, _, hi, r => by
    simp only [WShape.hasItems, Bool.and_eq_true] at hi
    obtain ⟨i, rfl⟩ := hasW_int hi.1
    cases r with
    | cons r1 r2 =>
      obtain ⟨ns, hl, hd⟩ := ints_of (C := C) hi.2 r2
      cases r1 with
      | int _ t => exact ⟨i :: ns, by simp [hl], by simp only [List.map_cons, DsRel, DRel]; exact ⟨_, _, rfl, ⟨_, rfl⟩, hd⟩⟩

theorem law_walk {q : Program} {loose : List Str} {XP : (Str → Option Value) → Heap → Prop} {YP : World → Heap → Prop} {l : OpenLaw} {d : DefRec} {kwd : List (Str × Expr)} (H : Hints) (n : Nat)
    (hrec : (recsOf q).map toFn = l.prog.main.body.filterMap fnRec?) (hok : (l.prog.main.body.filterMap fnRec?).all (okFn fun x => H.consts.lookup x) = true) (hcst : H.consts.all (cstOk q) = true) (hfree : bnames.all (freeOk q loose) = true)
    (hmost : l.most = some 63) (hn : n ≤ 100) (hlaw : ∀ ns : List Int, ns.length ≤ 63 → callN l.prog.main.body H (n + 1) d.name [.d (.list (ns.map .int))] [] = some (.d (.bool true), [])) :
    WalkO q loose XP YP l.row.toRowW d kwd fun f vs => PySem.call f vs := by
  intro w s₀ s₁ mg mb G Y fa o pm cd doc dV kV ho hd hcd hD hmg hg args vals as hpre hlay hrd hwl hlo
  let C : Wo := ⟨l.prog, w, s₁.heap, mg, mb⟩
  have T : Tops C l.prog.main.body H := tops_of (C := C) G.T hrec hok hcst hfree
  obtain ⟨ha, hp⟩ := pre_splitW hpre
  obtain ⟨x, r, rfl, hx, hr⟩ := hasAllW_cons ha
  obtain rfl := hasAllW_nil hr
  obtain ⟨xs, rfl, hi⟩ := hasW_list hx
  cases hrd with
  | cons r1 r2 =>
    cases r2
    cases r1 with
    | list h1 h2 h3 h4 =>
      rename_i la lo lvs ln las
      obtain ⟨ns, hlen, hds⟩ := ints_of (C := C) hi h4
      have hsz : ns.length ≤ 63 := by
        have hp' : (l.pre).holds [] { args := [.list xs] } = true := hp
        rw [hlen]
        refine Nat.le_of_not_lt fun hc => ?_
        have hless : less? (WData.int 63) (WData.int (xs.length : Int)) = some true := by
          have : (63 : Int) < (xs.length : Int) := by omega
          show some (decide ((63 : Int) < (xs.length : Int))) = some true
          rw [decide_eq_true this]
        have e : WTm.value [] l.pre { args := [.list xs] } = some (.bool false) := by
          unfold OpenLaw.pre
          rw [hmost]
          simp [WTm.value, hless]
        have e' : (l.pre).holds [] { args := [.list xs] } = false := by unfold WTm.holds; rw [e]
        rw [e'] at hp'
        cases hp'
      have hl := hlaw ns hsz
      have hD1 : DsRel C B0 s₁.heap [.list (ns.map .int)] [.ref la] := by
        simp only [DsRel, DRel]
        exact ⟨_, _, rfl, ⟨la, lvs.toList, rfl, ⟨lo, h1, h2, ln, by simpa using h3⟩, fun q => q, hds⟩, rfl⟩
      refine law_call (C := C) (A := callerA) (ds := [.list (ns.map .int)]) T ⟨rfl, by show 1 + claimMargin + (n + 1) < recursionLimit; unfold claimMargin recursionLimit; omega, by show 4 + 3 * (n + 1) + 30 < cLine; unfold cLine; omega⟩ hl (fun _ _ e => e) (Nat.le_refl _) hD1 hmg ?_
      intro u s' keep hgens hos hu
      simp only [DRel] at hu
      subst hu
      refine ⟨.inl ⟨_, .bool true, [], rfl, fun cls => rfl, .bool true, ?_, fun _ => ⟨List.nodup_nil, fun _ h => nomatch h⟩⟩, .of_keep keep, hos, .of_eq ?_⟩
      · kernel_rfl
      · rw [hgens, hg]

end Mine
end

section
set_option autoImplicit false
namespace Mine
open PySem

def POk (G : Genv) (ρ : Loc) (e : Expr) : Prop := ∀ (o : Bool) (σ : St) (n : Nat) (q : Orc) (k : V → St → Nat → Orc → Prop), wE G ρ o e σ n q k → ∃ v σ' n' q', evE G ρ o e σ = some (v, σ') ∧ k v σ' n' q'
def PSub (G : Genv) (ρ : Loc) (e : Expr) : Prop := (∀ lo hi st p, e = .Slice lo hi st p → (∀ x, lo = some x → POk G ρ x) ∧ ∀ x, hi = some x → POk G ρ x) ∧ ∀ x m p, e = .Attribute x m p → POk G ρ x
structure PsOk (G : Genv) (ρ : Loc) (zs : List Expr) : Prop where
  es : ∀ (o : Bool) (σ : St) (n : Nat) (q : Orc) (k : List V → St → Nat → Orc → Prop), wEs G ρ o zs σ n q k → ∃ v σ' n' q', evEs G ρ o zs σ = some (v, σ') ∧ k v σ' n' q'
  b : ∀ (op : BoolOp) (σ : St) (n : Nat) (q : Orc) (k : V → St → Nat → Orc → Prop), wB G ρ op zs σ n q k → ∃ v σ' n' q', evB G ρ op zs σ = some (v, σ') ∧ k v σ' n' q'
  c : ∀ (a : V) (ops : List CmpOp) (σ : St) (n : Nat) (q : Orc) (k : Bool → St → Nat → Orc → Prop), wC G ρ a ops zs σ n q k → ∃ v σ' n' q', evC G ρ a ops zs σ = some (v, σ') ∧ k v σ' n' q'
  h : ∀ x r, zs = x :: r → POk G ρ x

variable {G : Genv} {ρ : Loc}
theorem PSub.no {e : Expr} (h1 : isSlice e = false) (h2 : isAttr e = false) : PSub G ρ e := ⟨fun lo hi st p h => by rw [h] at h1; exact Bool.noConfusion h1, fun x m p h => by rw [h] at h2; exact Bool.noConfusion h2⟩
theorem PSub.attr {e : Expr} {m : Str} {p : Pos} (h : POk G ρ e) : PSub G ρ (.Attribute e m p) := ⟨fun lo hi st p h => (by cases h), fun x m p hh => by cases hh; exact h⟩
theorem PSub.slice {lo hi st : Option Expr} {p : Pos} (h : ∀ x, lo = some x → POk G ρ x) (h' : ∀ x, hi = some x → POk G ρ x) : PSub G ρ (.Slice lo hi st p) := ⟨fun _ _ _ _ e => by cases e; exact ⟨h, h'⟩, fun x m p hh => by cases hh⟩
theorem p_someE {x : Expr} (h : POk G ρ x) : ∀ y, some x = some y → POk G ρ y := fun y e => by cases e; exact h
theorem p_noneE : ∀ y : Expr, none = some y → POk G ρ y := fun y e => by cases e
theorem p_Constant {c : Const} {z1 : Nat} {z2 : Pos}  : POk G ρ (.Constant c z1 z2) := fun o σ n q k h => by
    obtain ⟨d, e, h⟩ := opt_ok h
    exact ⟨_, _, _, _, by show Option.map _ (constD c) = _; rw [e]; rfl, h⟩
theorem p_Name {x : Str} {z1 : Pos}  : POk G ρ (.Name x z1) := fun o σ n q k h => by
    rcases two_ok h with ⟨v, e, h⟩ | ⟨e, h⟩
    · exact ⟨_, _, _, _, by show (match getV x ρ with | some v => some (v, σ) | none => _) = _; rw [e], h⟩
    · obtain ⟨d, e', h⟩ := opt_ok h
      exact ⟨_, _, _, _, by show (match getV x ρ with | some v => some (v, σ) | none => Option.map _ (G.const x)) = _; rw [e, e']; rfl, h⟩
theorem p_BoolOp {op : BoolOp} {es : List Expr} {z2 : Pos} (pes : PsOk G ρ es) : POk G ρ (.BoolOp op es z2) := fun o σ n q k h => by
    obtain ⟨v, σ1, n1, q1, e1, h⟩ := pes.b op σ n q k h
    exact ⟨_, _, _, _, e1, h⟩
theorem p_BinOp {l : Expr} {op : Operator} {r : Expr} {z3 : Pos} (pl : POk G ρ l) (pr : POk G ρ r) : POk G ρ (.BinOp l op r z3) := fun o σ n q k h => by
    obtain ⟨a, σ1, n1, q1, e1, h⟩ := pl false _ _ _ _ h
    obtain ⟨b, σ2, n2, q2, e2, h⟩ := pr false _ _ _ _ h
    obtain ⟨v, n3, q3, e3, h⟩ := ask_ok h
    exact ⟨_, _, _, _, by show Option.bind (evE G ρ false l σ) _ = _; rw [e1]; show Option.bind (evE G ρ false r σ1) _ = _; rw [e2]; show Option.map _ (binV σ2 op a b) = _; rw [e3]; rfl, h⟩
theorem p_UnaryOp {op : UnaryOp} {e : Expr} {z2 : Pos} (pe : POk G ρ e) : POk G ρ (.UnaryOp op e z2) := fun o σ n q k h => by
    obtain ⟨a, σ1, n1, q1, e1, h⟩ := pe false _ _ _ _ h
    cases op with
    | Not =>
      obtain ⟨b, n2, q2, e2, h⟩ := ask_ok h
      exact ⟨_, _, _, _, by show Option.bind (evE G ρ false e σ) _ = _; rw [e1]; show Option.map _ (truthV σ1 a) = _; rw [e2]; rfl, h⟩
    | USub =>
      cases a with
      | d x => cases x with
        | int i => exact ⟨_, _, _, _, by show Option.bind (evE G ρ false e σ) _ = _; rw [e1]; rfl, h⟩
        | _ => exact h.elim
      | _ => exact h.elim
    | _ => exact h.elim
theorem p_Compare {l : Expr} {ops : List CmpOp} {es : List Expr} {z3 : Pos} (pl : POk G ρ l) (pes : PsOk G ρ es) : POk G ρ (.Compare l ops es z3) := fun o σ n q k h => by
    obtain ⟨a, σ1, n1, q1, e1, h⟩ := pl false _ _ _ _ h
    obtain ⟨b, σ2, n2, q2, e2, h⟩ := pes.c a ops _ _ _ _ h
    exact ⟨_, _, _, _, by show Option.bind (evE G ρ false l σ) _ = _; rw [e1]; show Option.map _ (evC G ρ a ops es σ1) = _; rw [e2]; rfl, h⟩
theorem p_Tuple {es : List Expr} {z1 : Nat} {z2 : Pos} (pes : PsOk G ρ es) : POk G ρ (.Tuple es z1 z2) := fun o σ n q k h => by
    obtain ⟨a, σ1, n1, q1, e1, h⟩ := pes.es o _ _ _ _ h
    exact ⟨_, _, _, _, by show Option.map _ (evEs G ρ o es σ) = _; rw [e1]; rfl, h⟩
theorem p_List {es : List Expr} {z1 : Pos} (pes : PsOk G ρ es) : POk G ρ (.List es z1) := fun o σ n q k h => by
    obtain ⟨a, σ1, n1, q1, e1, h⟩ := pes.es o _ _ _ _ h
    obtain ⟨v, n3, q3, e3, h⟩ := ask_ok h
    exact ⟨_, _, _, _, by show Option.bind (evEs G ρ o es σ) _ = _; rw [e1]; exact e3, h⟩
theorem p_Dict {ks : List (Option Expr)} {vs : List Expr} {z2 : Pos} (pvs : PsOk G ρ vs) : POk G ρ (.Dict ks vs z2) := fun o σ n q k h => by
    cases ks with
    | nil =>
      replace h : ask (hitW n q) (evE G ρ o (.Dict [] vs z2) σ) n q (fun p n q => k p.1 p.2 n q) := h
      obtain ⟨v, n3, q3, e3, h⟩ := ask_ok h
      exact ⟨_, _, _, _, e3, h⟩
    | cons k' ks =>
      replace h : tst o False (opt (constKeys (k' :: ks)) fun js => wEs G ρ false vs σ n q fun vs σ n q => ask (hitW n q) (mkDict js vs σ) n q fun p n q => k p.1 p.2 n q) := h
      rcases tst_ok h with ⟨_, h⟩ | ⟨ho, h⟩
      · exact h.elim
      · subst ho
        obtain ⟨js, e, h⟩ := opt_ok h
        obtain ⟨a, σ1, n1, q1, e1, h⟩ := pvs.es false _ _ _ _ h
        obtain ⟨v, n3, q3, e3, h⟩ := ask_ok h
        exact ⟨_, _, _, _, by rw [evE_Dict]; show Option.bind (constKeys (k' :: ks)) _ = _; rw [e]; show Option.bind (evEs G ρ false vs σ) _ = _; rw [e1]; exact e3, h⟩
noncomputable def subW (G : Genv) (ρ : Loc) (o : Bool) (i : Expr) (k : V → St → Nat → Orc → Prop) (ov : V) (σ : St) (n : Nat) (q : Orc) : Prop := match i with
  | .Slice lo hi st _ => match lo, st with
    | some lo, none => wE G ρ false lo σ n q fun lv σ n q => opt (natV lv) fun ln => match hi with
      | none => ask (hitV n q) (sliceV σ ov ln none) n q fun v n q => k (own o v σ).1 (own o v σ).2 n q
      | some hi => wE G ρ false hi σ n q fun hv σ n q => opt (natV hv) fun hn => ask (hitV n q) (sliceV σ ov ln (some hn)) n q fun v n q => k (own o v σ).1 (own o v σ).2 n q
    | _, _ => False
  | i => wE G ρ false i σ n q fun iv σ n q => ask (hitV n q) (getItemV σ ov iv) n q fun v n q => k v σ n q
theorem wE_Sub {o : Bool} {e i : Expr} {p : Pos} {σ : St} {n : Nat} {q : Orc} {k : V → St → Nat → Orc → Prop} (h : wE G ρ o (.Subscript e i p) σ n q k) : wE G ρ false e σ n q (subW G ρ o i k) := by
  cases i with
  | Slice lo hi st p => cases lo <;> cases st <;> cases hi <;> exact h
  | _ => exact h
theorem subW_plain {o : Bool} {i : Expr} {k : V → St → Nat → Orc → Prop} {ov : V} {σ : St} {n : Nat} {q : Orc} (h : isSlice i = false) (hh : subW G ρ o i k ov σ n q) : wE G ρ false i σ n q fun iv σ n q => ask (hitV n q) (getItemV σ ov iv) n q fun v n q => k v σ n q := by
  cases i with
  | Slice lo hi st p => cases h
  | _ => exact hh
theorem p_Subscript {e : Expr} {i : Expr} {z2 : Pos} (pe : POk G ρ e) (pi : POk G ρ i) (si : PSub G ρ i) : POk G ρ (.Subscript e i z2) := fun o σ n q k h => by
    replace h := wE_Sub h
    obtain ⟨a, σ1, n1, q1, e1, h⟩ := pe false _ _ _ _ h
    cases hs : isSlice i with
    | false =>
      obtain ⟨b, σ2, n2, q2, e2, h⟩ := pi false _ _ _ _ (subW_plain hs h)
      obtain ⟨v, n3, q3, e4, h⟩ := ask_ok h
      exact ⟨_, _, _, _, by rw [evE_Item hs, e1]; show Option.bind (evE G ρ false _ σ1) _ = _; rw [e2]; show Option.map _ (getItemV σ2 a b) = _; rw [e4]; rfl, h⟩
    | true =>
    obtain ⟨lo, hi, st, pp, rfl⟩ := isSlice_ex hs
    cases st with
    | some _ => cases lo <;> exact h.elim
    | none => cases lo with
      | none => exact h.elim
      | some lo =>
        obtain ⟨b, σ2, n2, q2, e2, h⟩ := si.1 _ _ _ _ rfl |>.1 _ rfl false _ _ _ _ h
        obtain ⟨ln, e3, h⟩ := opt_ok h
        cases hi with
        | none =>
          obtain ⟨v, n3, q3, e4, h⟩ := ask_ok h
          exact ⟨_, _, _, _, by show Option.bind (evE G ρ false e σ) _ = _; rw [e1]; show Option.bind (evE G ρ false lo σ1) _ = _; rw [e2]; show Option.bind (natV b) _ = _; rw [e3]; show Option.map _ (sliceV σ2 a ln none) = _; rw [e4]; rfl, h⟩
        | some hi =>
          obtain ⟨c, σ3, n3, q3, e4, h⟩ := si.1 _ _ _ _ rfl |>.2 _ rfl false _ _ _ _ h
          obtain ⟨hn, e5, h⟩ := opt_ok h
          obtain ⟨v, n3, q3, e6, h⟩ := ask_ok h
          exact ⟨_, _, _, _, by show Option.bind (evE G ρ false e σ) _ = _; rw [e1]; show Option.bind (evE G ρ false lo σ1) _ = _; rw [e2]; show Option.bind (natV b) _ = _; rw [e3]; show Option.bind (evE G ρ false hi σ2) _ = _; rw [e4]; show Option.bind (natV c) _ = _; rw [e5]; show Option.map _ (sliceV σ3 a ln (some hn)) = _; rw [e6]; rfl, h⟩
noncomputable def isiW (G : Genv) (ρ : Loc) (args : List Expr) (k : V → St → Nat → Orc → Prop) (σ : St) (n : Nat) (q : Orc) : Prop := match args with
  | [x, t] => wE G ρ false x σ n q fun v σ n q => opt (nameE t) fun t => tst (typeNames.contains t) (ask (hitB n q) (isiV σ t v) n q fun b n q => k (.d (.bool b)) σ n q) False
  | _ => False
theorem wE_Call {o : Bool} {f : Str} {pp p : Pos} {args : List Expr} {σ : St} {n : Nat} {q : Orc} {k : V → St → Nat → Orc → Prop} (h : wE G ρ o (.Call (.Name f pp) args [] p) σ n q k) : tst (decide (f = "isinstance")) (isiW G ρ args k σ n q) (two (bfOf f) (fun b => wEs G ρ false args σ n q fun vs σ n q => ask (hitV n q) (bfV σ b vs) n q fun v n q => k (own o v σ).1 (own o v σ).2 n q)
          (tst (G.fn f) (wEs G ρ false args σ n q fun vs σ n q => told (hitW n q) (G.call f vs σ) n fun p n q => k (own (o && G.fresh f) p.1 p.2).1 (own (o && G.fresh f) p.1 p.2).2 n q) False)) := by
  match args, h with
  | [], h => exact h
  | [_], h => exact h
  | [_, _], h => exact h
  | _ :: _ :: _ :: _, h => exact h
theorem wE_Meth {o : Bool} {e : Expr} {m : Str} {pp p : Pos} {args : List Expr} {σ : St} {n : Nat} {q : Orc} {k : V → St → Nat → Orc → Prop} (h : wE G ρ o (.Call (.Attribute e m pp) args [] p) σ n q k) : wE G ρ false e σ n q fun ov σ n q => two (clsOf σ ov) (fun _ => False) (opt (mkOf σ m ov) fun j => wEs G ρ true args σ n q fun vs σ n q => ask (hitW n q) (methV σ j ov vs) n q fun p n q => k p.1 p.2 n q) := by
  match args, h with
  | [], h => exact h
  | [_], h => exact h
  | [_, _], h => exact h
  | _ :: _ :: _ :: _, h => exact h
theorem p_Call {f : Expr} {args : List Expr} {ks : List Keyword} {z3 : Pos} (sf : PSub G ρ f) (pargs : PsOk G ρ args) : POk G ρ (.Call f args ks z3) := fun o σ n q k h => by
    cases ks with
    | cons _ _ => exact h.elim
    | nil => cases f with
      | Name f pp =>
        rcases tst_ok (wE_Call h) with ⟨hf, h⟩ | ⟨hf, h⟩
        · have hf := of_decide_eq_true hf
          match args, h, pargs with
          | [x, t], h, pargs =>
            obtain ⟨a, σ1, n1, q1, e1, h⟩ := pargs.h _ _ rfl false _ _ _ _ h
            obtain ⟨t', e2, h⟩ := opt_ok h
            rcases tst_ok h with ⟨e3, h⟩ | ⟨_, h⟩
            · obtain ⟨v, n3, q3, e4, h⟩ := ask_ok h
              exact ⟨_, _, _, _, by show (if f = _ then _ else _) = _; rw [if_pos hf]; show Option.bind (evE G ρ false x σ) _ = _; rw [e1]; show Option.bind (nameE t) _ = _; rw [e2]; show (if typeNames.contains t' = true then _ else _) = _; rw [if_pos e3]; show Option.map _ (isiV σ1 t' a) = _; rw [e4]; rfl, h⟩
            · exact h.elim
          | [], h, _ => exact h.elim
          | [_], h, _ => exact h.elim
          | _ :: _ :: _ :: _, h, _ => exact h.elim
        · have hf := of_decide_eq_false hf
          rcases two_ok h with ⟨b, eb, h⟩ | ⟨eb, h⟩
          · obtain ⟨vs, σ1, n1, q1, e1, h⟩ := pargs.es false _ _ _ _ h
            obtain ⟨v, n3, q3, e4, h⟩ := ask_ok h
            exact ⟨_, _, _, _, by rw [evE_CallN hf, eb]; show Option.bind (evEs G ρ false args σ) _ = _; rw [e1]; show Option.map _ (bfV σ1 b vs) = _; rw [e4]; rfl, h⟩
          · rcases tst_ok h with ⟨e3, h⟩ | ⟨_, h⟩
            · obtain ⟨vs, σ1, n1, q1, e1, h⟩ := pargs.es false _ _ _ _ h
              obtain ⟨v, n3, q3, e4, h⟩ := told_ok h
              exact ⟨_, _, _, _, by rw [evE_CallN hf, eb]; show (if G.fn f = true then _ else _) = _; rw [if_pos e3]; show Option.bind (evEs G ρ false args σ) _ = _; rw [e1]; show Option.map _ (G.call f vs σ1) = _; rw [e4]; rfl, h⟩
            · exact h.elim
      | Attribute e m pp =>
        replace h := wE_Meth h
        obtain ⟨a, σ1, n1, q1, e1, h⟩ := sf.2 _ _ _ rfl false _ _ _ _ h
        rcases two_ok h with ⟨_, _, h⟩ | ⟨e2, h⟩
        · exact h.elim
        · obtain ⟨j, e3, h⟩ := opt_ok h
          obtain ⟨vs, σ2, n1, q1, e4, h⟩ := pargs.es true _ _ _ _ h
          obtain ⟨v, n3, q3, e5, h⟩ := ask_ok h
          exact ⟨_, _, _, _, by rw [evE_CallM]; rw [e1]; show (match clsOf σ1 a with | some c => _ | none => _) = _; rw [e2]; show Option.bind (mkOf σ1 m a) _ = _; rw [e3]; show Option.bind (evEs G ρ true args σ1) _ = _; rw [e4]; exact e5, h⟩
      | _ => exact h.elim
theorem p_ListComp {elt : Expr} {gens : List Comprehension} {sc : Scope} {pos : Pos}  : POk G ρ (.ListComp elt gens sc pos) := fun o σ n q k h => by
    obtain ⟨v, n3, q3, e5, h⟩ := told_ok h
    exact ⟨_, _, _, _, e5, h⟩
theorem p_no {e : Expr} (h : ∀ o σ n q k, wE G ρ o e σ n q k = False) : POk G ρ e := fun o σ n q k hh => by rw [h] at hh; exact hh.elim
theorem p_nil : PsOk G ρ [] where
  es := fun o σ n q k h => ⟨_, _, _, _, rfl, h⟩
  b := fun op σ n q k h => h.elim
  c := fun a ops σ n q k h => by cases ops <;> exact h.elim
  h := fun _ _ h => nomatch h
theorem p_cons {e : Expr} {r : List Expr} (pe : POk G ρ e) (pr : PsOk G ρ r) : PsOk G ρ (e :: r) where
  es := fun o σ n q k h => by
    obtain ⟨a, σ1, n1, q1, e1, h⟩ := pe o _ _ _ _ h
    obtain ⟨b, σ2, n2, q2, e2, h⟩ := pr.es o _ _ _ _ h
    exact ⟨_, _, _, _, by show Option.bind (evE G ρ o e σ) _ = _; rw [e1]; show Option.map _ (evEs G ρ o r σ1) = _; rw [e2]; rfl, h⟩
  b := fun op σ n q k h => by
    cases r with
    | nil =>
      obtain ⟨a, σ1, n1, q1, e1, h⟩ := pe false _ _ _ _ h
      exact ⟨_, _, _, _, by show Option.bind (evE G ρ false e σ) _ = _; rw [e1]; rfl, h⟩
    | cons e' r' =>
      cases op
      · obtain ⟨a, σ1, n1, q1, e1, h⟩ := pe false _ _ _ _ h
        obtain ⟨b, n2, q2, e2, h⟩ := ask_ok h
        cases b
        · exact ⟨_, _, _, _, by show Option.bind (evE G ρ false e σ) _ = _; rw [e1]; show Option.bind (truthV σ1 a) _ = _; rw [e2]; rfl, h⟩
        · obtain ⟨c, σ2, n2, q2, e3, h⟩ := pr.b _ _ _ _ _ h
          exact ⟨_, _, _, _, by show Option.bind (evE G ρ false e σ) _ = _; rw [e1]; show Option.bind (truthV σ1 a) _ = _; rw [e2]; exact e3, h⟩
      · obtain ⟨a, σ1, n1, q1, e1, h⟩ := pe false _ _ _ _ h
        obtain ⟨b, n2, q2, e2, h⟩ := ask_ok h
        cases b
        · obtain ⟨c, σ2, n2, q2, e3, h⟩ := pr.b _ _ _ _ _ h
          exact ⟨_, _, _, _, by show Option.bind (evE G ρ false e σ) _ = _; rw [e1]; show Option.bind (truthV σ1 a) _ = _; rw [e2]; exact e3, h⟩
        · exact ⟨_, _, _, _, by show Option.bind (evE G ρ false e σ) _ = _; rw [e1]; show Option.bind (truthV σ1 a) _ = _; rw [e2]; rfl, h⟩
  c := fun a ops σ n q k h => by
    cases ops with
    | nil => exact h.elim
    | cons op ops =>
    cases ops with
    | nil => cases r with
      | nil =>
        obtain ⟨b, σ1, n1, q1, e1, h⟩ := pe false _ _ _ _ h
        obtain ⟨c, n2, q2, e2, h⟩ := ask_ok h
        exact ⟨_, _, _, _, by show Option.bind (evE G ρ false e σ) _ = _; rw [e1]; show Option.bind (cmpV σ1 op a b) _ = _; rw [e2]; rfl, h⟩
      | cons _ _ =>
        obtain ⟨b, σ1, n1, q1, e1, h⟩ := pe false _ _ _ _ h
        obtain ⟨c, n2, q2, e2, h⟩ := ask_ok h
        exact h.elim
    | cons op' ops' => cases r with
      | nil =>
        obtain ⟨b, σ1, n1, q1, e1, h⟩ := pe false _ _ _ _ h
        obtain ⟨c, n2, q2, e2, h⟩ := ask_ok h
        exact h.elim
      | cons e' r' =>
        obtain ⟨b, σ1, n1, q1, e1, h⟩ := pe false _ _ _ _ h
        obtain ⟨c, n2, q2, e2, h⟩ := ask_ok h
        cases c with
        | false => exact ⟨_, _, _, _, by show Option.bind (evE G ρ false e σ) _ = _; rw [e1]; show Option.bind (cmpV σ1 op a b) _ = _; rw [e2]; rfl, h⟩
        | true =>
          obtain ⟨c, σ2, n2, q2, e3, h⟩ := pr.c b (op' :: ops') _ _ _ _ h
          exact ⟨_, _, _, _, by show Option.bind (evE G ρ false e σ) _ = _; rw [e1]; show Option.bind (cmpV σ1 op a b) _ = _; rw [e2]; exact e3, h⟩
  h := fun x r' h => by cases h; exact pe

mutual
theorem p_all : ∀ e : Expr, POk G ρ e ∧ PSub G ρ e
  | .Constant .. => ⟨p_Constant, .no rfl rfl⟩
  | .Name .. => ⟨p_Name, .no rfl rfl⟩
  | .BoolOp _ es _ => ⟨p_BoolOp (p_alls es), .no rfl rfl⟩
  | .BinOp l _ r _ => ⟨p_BinOp (p_all l).1 (p_all r).1, .no rfl rfl⟩
  | .UnaryOp _ e _ => ⟨p_UnaryOp (p_all e).1, .no rfl rfl⟩
  | .Compare l _ es _ => ⟨p_Compare (p_all l).1 (p_alls es), .no rfl rfl⟩
  | .Tuple es _ _ => ⟨p_Tuple (p_alls es), .no rfl rfl⟩
  | .List es _ => ⟨p_List (p_alls es), .no rfl rfl⟩
  | .Dict _ vs _ => ⟨p_Dict (p_alls vs), .no rfl rfl⟩
  | .Subscript e i _ => ⟨p_Subscript (p_all e).1 (p_all i).1 (p_all i).2, .no rfl rfl⟩
  | .Call f args _ _ => ⟨p_Call (p_all f).2 (p_alls args), .no rfl rfl⟩
  | .ListComp .. => ⟨p_ListComp, .no rfl rfl⟩
  | .Slice (some lo) (some hi) _ _ => ⟨p_no fun _ _ _ _ _ => rfl, .slice (p_someE (p_all lo).1) (p_someE (p_all hi).1)⟩
  | .Slice (some lo) none _ _ => ⟨p_no fun _ _ _ _ _ => rfl, .slice (p_someE (p_all lo).1) p_noneE⟩
  | .Slice none (some hi) _ _ => ⟨p_no fun _ _ _ _ _ => rfl, .slice p_noneE (p_someE (p_all hi).1)⟩
  | .Slice none none _ _ => ⟨p_no fun _ _ _ _ _ => rfl, .slice p_noneE p_noneE⟩
  | .Attribute e _ _ => ⟨p_no fun _ _ _ _ _ => rfl, .attr (p_all e).1⟩
  | .Lambda .. => ⟨p_no fun _ _ _ _ _ => rfl, .no rfl rfl⟩
  | .IfExp .. => ⟨p_no fun _ _ _ _ _ => rfl, .no rfl rfl⟩
  | .Set .. => ⟨p_no fun _ _ _ _ _ => rfl, .no rfl rfl⟩
  | .SetComp .. => ⟨p_no fun _ _ _ _ _ => rfl, .no rfl rfl⟩
  | .DictComp .. => ⟨p_no fun _ _ _ _ _ => rfl, .no rfl rfl⟩
  | .GeneratorExp .. => ⟨p_no fun _ _ _ _ _ => rfl, .no rfl rfl⟩
  | .Await .. => ⟨p_no fun _ _ _ _ _ => rfl, .no rfl rfl⟩
  | .Yield .. => ⟨p_no fun _ _ _ _ _ => rfl, .no rfl rfl⟩
  | .YieldFrom .. => ⟨p_no fun _ _ _ _ _ => rfl, .no rfl rfl⟩
  | .JoinedStr .. => ⟨p_no fun _ _ _ _ _ => rfl, .no rfl rfl⟩
  | .FormattedValue .. => ⟨p_no fun _ _ _ _ _ => rfl, .no rfl rfl⟩
  | .NamedExpr .. => ⟨p_no fun _ _ _ _ _ => rfl, .no rfl rfl⟩
  | .Starred .. => ⟨p_no fun _ _ _ _ _ => rfl, .no rfl rfl⟩
theorem p_alls : ∀ es : List Expr, PsOk G ρ es
  | [] => p_nil
  | e :: r => p_cons (p_all e).1 (p_alls r)
end
end Mine
end

section
set_option autoImplicit false
namespace Mine
open PySem

mutual
noncomputable def wS (G : Genv) : Stmt → Loc → St → Nat → Orc → (Fl → Loc → St → Nat → Orc → Prop) → Prop
  | .Pass _, ρ, σ, n, q, k => k .next ρ σ n q
  | .Expr e _, ρ, σ, n, q, k => wE G ρ false e σ n q fun _ σ n q => k .next ρ σ n q
  | .Return e _, ρ, σ, n, q, k => two e (fun e => wE G ρ G.ownRet e σ n q fun v σ n q => k (.ret v) ρ σ n q) (k (.ret (.d .none)) ρ σ n q)
  | .Assign ts e _, ρ, σ, n, q, k => match ts with
    | [t] => match t with
      | .Name x _ => wE G ρ (G.owned x) e σ n q fun v σ n q => k .next (setV x v ρ) σ n q
      | .Subscript b i _ => wE G ρ true e σ n q fun v σ n q => wE G ρ false b σ n q fun bv σ n q => wE G ρ false i σ n q fun iv σ n q => ask (hitS n q) (setItemV σ bv iv v) n q fun σ n q => k .next ρ σ n q
      | _ => False
    | _ => False
  | .If t b e _, ρ, σ, n, q, k => wE G ρ false t σ n q fun v σ n q => ask (hitB n q) (truthV σ v) n q fun c n q => tst c (wSs G b ρ σ n q k) (wSs G e ρ σ n q k)
  | .For t it body e p, ρ, σ, n, q, k => told (hitF n q) (evS G (.For t it body e p) ρ σ) n fun x n q => k x.1 x.2.1 x.2.2 n q
  | .While t body e p, ρ, σ, n, q, k => told (hitF n q) (evS G (.While t body e p) ρ σ) n fun x n q => k x.1 x.2.1 x.2.2 n q
  | _, _, _, _, _, _ => False
noncomputable def wSs (G : Genv) : List Stmt → Loc → St → Nat → Orc → (Fl → Loc → St → Nat → Orc → Prop) → Prop
  | [], ρ, σ, n, q, k => k .next ρ σ n q
  | s :: r, ρ, σ, n, q, k => wS G s ρ σ n q fun fl ρ σ n q => match fl with
    | .next => wSs G r ρ σ n q k
    | .ret v => k (.ret v) ρ σ n q
end

def WSOk (G : Genv) (s : Stmt) : Prop := ∀ (ρ : Loc) (σ : St) (n : Nat) (q : Orc) (k : Fl → Loc → St → Nat → Orc → Prop), wS G s ρ σ n q k → ∃ fl ρ' σ' n' q', evS G s ρ σ = some (fl, ρ', σ') ∧ k fl ρ' σ' n' q'
def WSsOk (G : Genv) (s : List Stmt) : Prop := ∀ (ρ : Loc) (σ : St) (n : Nat) (q : Orc) (k : Fl → Loc → St → Nat → Orc → Prop), wSs G s ρ σ n q k → ∃ fl ρ' σ' n' q', evSs G s ρ σ = some (fl, ρ', σ') ∧ k fl ρ' σ' n' q'

variable {G : Genv}
theorem s_no {s : Stmt} (h : ∀ ρ σ n q k, wS G s ρ σ n q k = False) : WSOk G s := fun ρ σ n q k hh => by rw [h] at hh; exact hh.elim
theorem s_Expr {e : Expr} {p : Pos} : WSOk G (.Expr e p) := fun ρ σ n q k h => by
  obtain ⟨v, σ1, n1, q1, e1, h⟩ := (p_all e).1 false _ _ _ _ h
  exact ⟨_, _, _, _, _, by show Option.map _ (evE G ρ false e σ) = _; rw [e1]; rfl, h⟩
theorem s_Return {e : Option Expr} {p : Pos} : WSOk G (.Return e p) := fun ρ σ n q k h => by
  rcases two_ok h with ⟨e, rfl, h⟩ | ⟨rfl, h⟩
  · obtain ⟨v, σ1, n1, q1, e1, h⟩ := (p_all e).1 _ _ _ _ _ h
    exact ⟨_, _, _, _, _, by show Option.map _ (evE G ρ G.ownRet e σ) = _; rw [e1]; rfl, h⟩
  · exact ⟨_, _, _, _, _, rfl, h⟩
theorem s_Assign {ts : List Expr} {e : Expr} {p : Pos} : WSOk G (.Assign ts e p) := fun ρ σ n q k h => by
  cases ts with
  | nil => exact h.elim
  | cons t r =>
    cases r with
    | cons _ _ => cases t <;> exact h.elim
    | nil => cases t with
      | Name x pp =>
        obtain ⟨v, σ1, n1, q1, e1, h⟩ := (p_all e).1 _ _ _ _ _ h
        exact ⟨_, _, _, _, _, by show Option.map _ (evE G ρ (G.owned x) e σ) = _; rw [e1]; rfl, h⟩
      | Subscript b i pp =>
        obtain ⟨v, σ1, n1, q1, e1, h⟩ := (p_all e).1 _ _ _ _ _ h
        obtain ⟨bv, σ2, n1, q1, e2, h⟩ := (p_all b).1 _ _ _ _ _ h
        obtain ⟨iv, σ3, n1, q1, e3, h⟩ := (p_all i).1 _ _ _ _ _ h
        obtain ⟨σ4, n3, q3, e4, h⟩ := ask_ok h
        exact ⟨_, _, _, _, _, by show Option.bind (evE G ρ true e σ) _ = _; rw [e1]; show Option.bind (evE G ρ false b σ1) _ = _; rw [e2]; show Option.bind (evE G ρ false i σ2) _ = _; rw [e3]; show Option.map _ (setItemV σ3 bv iv v) = _; rw [e4]; rfl, h⟩
      | _ => exact h.elim
theorem s_If {t : Expr} {b e : List Stmt} {p : Pos} (hb : WSsOk G b) (he : WSsOk G e) : WSOk G (.If t b e p) := fun ρ σ n q k h => by
  obtain ⟨v, σ1, n1, q1, e1, h⟩ := (p_all t).1 _ _ _ _ _ h
  obtain ⟨c, n3, q3, e2, h⟩ := ask_ok h
  rcases tst_ok h with ⟨rfl, h⟩ | ⟨rfl, h⟩
  · obtain ⟨fl, ρ2, σ2, n2, q2, e3, h⟩ := hb _ _ _ _ _ h
    exact ⟨_, _, _, _, _, by show Option.bind (evE G ρ false t σ) _ = _; rw [e1]; show Option.bind (truthV σ1 v) _ = _; rw [e2]; exact e3, h⟩
  · obtain ⟨fl, ρ2, σ2, n2, q2, e3, h⟩ := he _ _ _ _ _ h
    exact ⟨_, _, _, _, _, by show Option.bind (evE G ρ false t σ) _ = _; rw [e1]; show Option.bind (truthV σ1 v) _ = _; rw [e2]; exact e3, h⟩
theorem s_told {s : Stmt} (hs : ∀ ρ σ n q k, wS G s ρ σ n q k = told (hitF n q) (evS G s ρ σ) n fun x n q => k x.1 x.2.1 x.2.2 n q) : WSOk G s := fun ρ σ n q k h => by
  rw [hs] at h
  obtain ⟨v, n3, q3, e5, h⟩ := told_ok h
  exact ⟨_, _, _, _, _, e5, h⟩
theorem s_cons {s : Stmt} {r : List Stmt} (hs : WSOk G s) (hr : WSsOk G r) : WSsOk G (s :: r) := fun ρ σ n q k h => by
  obtain ⟨fl, ρ1, σ1, n1, q1, e1, h⟩ := hs _ _ _ _ _ h
  cases fl with
  | next =>
    obtain ⟨fl, ρ2, σ2, n2, q2, e2, h⟩ := hr _ _ _ _ _ h
    exact ⟨_, _, _, _, _, by show Option.bind (evS G s ρ σ) _ = _; rw [e1]; exact e2, h⟩
  | ret v => exact ⟨_, _, _, _, _, by show Option.bind (evS G s ρ σ) _ = _; rw [e1]; rfl, h⟩

mutual
theorem s_all : ∀ s : Stmt, WSOk G s
  | .Pass _ => fun _ _ _ _ _ h => ⟨_, _, _, _, _, rfl, h⟩
  | .Expr .. => s_Expr
  | .Return .. => s_Return
  | .Assign .. => s_Assign
  | .If _ b e _ => s_If (s_alls b) (s_alls e)
  | .For .. => s_told fun _ _ _ _ _ => rfl
  | .While .. => s_told fun _ _ _ _ _ => rfl
  | .FunctionDef .. => s_no fun _ _ _ _ _ => rfl
  | .AsyncFunctionDef .. => s_no fun _ _ _ _ _ => rfl
  | .ClassDef .. => s_no fun _ _ _ _ _ => rfl
  | .Delete .. => s_no fun _ _ _ _ _ => rfl
  | .TypeAlias .. => s_no fun _ _ _ _ _ => rfl
  | .AugAssign .. => s_no fun _ _ _ _ _ => rfl
  | .AnnAssign .. => s_no fun _ _ _ _ _ => rfl
  | .AsyncFor .. => s_no fun _ _ _ _ _ => rfl
  | .With .. => s_no fun _ _ _ _ _ => rfl
  | .AsyncWith .. => s_no fun _ _ _ _ _ => rfl
  | .Match .. => s_no fun _ _ _ _ _ => rfl
  | .Raise .. => s_no fun _ _ _ _ _ => rfl
  | .Try .. => s_no fun _ _ _ _ _ => rfl
  | .TryStar .. => s_no fun _ _ _ _ _ => rfl
  | .Assert .. => s_no fun _ _ _ _ _ => rfl
  | .Import .. => s_no fun _ _ _ _ _ => rfl
  | .ImportFrom .. => s_no fun _ _ _ _ _ => rfl
  | .Global .. => s_no fun _ _ _ _ _ => rfl
  | .Nonlocal .. => s_no fun _ _ _ _ _ => rfl
  | .Break .. => s_no fun _ _ _ _ _ => rfl
  | .Continue .. => s_no fun _ _ _ _ _ => rfl
theorem s_alls : ∀ s : List Stmt, WSsOk G s
  | [] => fun _ _ _ _ _ h => ⟨_, _, _, _, _, rfl, h⟩
  | s :: r => s_cons (s_all s) (s_alls r)
end

noncomputable def fnAt (body : List Stmt) (i : Nat) : FnRec := ((body.filterMap fnRec?)[i]?).getD ⟨⟨#[]⟩, ⟨[], [], none, [], [], none, []⟩, [], ⟨.function, [], false, false, []⟩⟩
noncomputable def run (body : List Stmt) (H : Hints) (d : Nat) (f : Str) (r : FnRec) (ds : List D) : Option D :=
  (bindP r.args.args (ds.map .d)).bind fun ρ => (evSs (gen body H d f) r.body ρ []).bind fun p => handD (H.fresh.contains f) p.2.2 (retV p.1)
noncomputable def wRun (body : List Stmt) (H : Hints) (d : Nat) (f : Str) (r : FnRec) (ds : List D) (q : Orc) (x : D) : Prop :=
  opt (bindP r.args.args (ds.map .d)) fun ρ => wSs (gen body H d f) r.body ρ [] 0 q fun fl _ σ _ _ => handD (H.fresh.contains f) σ (retV fl) = some x

theorem snaps_d (σ : St) : ∀ ds : List D, snaps σ (ds.map .d) = some (ds, false)
  | [] => rfl
  | y :: r => by simp only [List.map_cons, snaps_c, rd, view_6, Option.bind_some, snaps_d σ r, Option.map_some]

theorem callN_run {body : List Stmt} {H : Hints} {d : Nat} {f : Str} {r : FnRec} {ds : List D} {x : D} (h : findFn f body = some r) (hi : H.impure.contains f = false) (hr : run body H d f r ds = some x) (σ : St) :
    callN body H (d + 1) f (ds.map .d) σ = some (.d x, σ) := by
  unfold run at hr
  simp only [Option.bind_eq_some_iff] at hr
  obtain ⟨ρ, e1, ⟨fl, ρ', σ'⟩, e2, e3⟩ := hr
  simp only [callN_s, h, hi, Option.bind_some, snaps_d, Bool.false_eq_true, if_false, e1]
  unfold gen at e2
  simp only [e2, Option.bind_some, e3, Bool.false_and, Bool.false_eq_true, if_false]

theorem run_of {body : List Stmt} {H : Hints} {d : Nat} {f : Str} {r : FnRec} {ds : List D} {q : Orc} {x : D} (h : wRun body H d f r ds q x) : run body H d f r ds = some x := by
  obtain ⟨ρ, e1, h⟩ := opt_ok h
  obtain ⟨fl, ρ', σ', n', q', e2, h⟩ := s_alls _ _ _ _ _ _ h
  unfold run
  rw [e1]
  show Option.bind (evSs _ _ _ _) _ = _
  rw [e2]
  exact h
/-- one path through a function -/
theorem path {body : List Stmt} {H : Hints} {d : Nat} {f : Str} {ds : List D} {i : Nat} {x : D} {P : Prop} (q : Orc) (hf : findFn f body = some (fnAt body i)) (hi : H.impure.contains f = false)
    (e : P = wRun body H d f (fnAt body i) ds q x) (hp : P) (σ : St) : callN body H (d + 1) f (ds.map .d) σ = some (.d x, σ) :=
  callN_run hf hi (run_of (e.mp hp)) σ
noncomputable def stAt (B : List Stmt) (i j : Nat) : Stmt := ((fnAt B i).body[j]?).getD (.Pass ⟨0, 0, 0, 0⟩)
noncomputable def forBody : Stmt → List Stmt
  | .For _ _ b _ _ => b
  | _ => []
/-- one path through some statements -/
theorem pathS {G : Genv} {ss : List Stmt} {ρ ρ' : Loc} {σ σ' : St} {fl : Fl} {P : Prop} (q : Orc) (e : P = wSs G ss ρ σ 0 q fun fl' ρ'' σ'' _ _ => (fl', ρ'', σ'') = (fl, ρ', σ')) (hp : P) : evSs G ss ρ σ = some (fl, ρ', σ') := by
  obtain ⟨fl, ρ', σ', n', q', e2, h⟩ := s_alls _ _ _ _ _ _ (e.mp hp)
  rw [e2, h]
theorem dT {p : Prop} [Decidable p] (h : p) : some (decide p) = some true := by rw [decide_eq_true h]
theorem dF {p : Prop} [Decidable p] (h : ¬ p) : some (decide p) = some false := by rw [decide_eq_false h]
end Mine
end

section
set_option autoImplicit false
namespace Mine
open PySem

/-- a stretch or none, as data -/
noncomputable def sD : Option (Int × Int) → D
  | none => .none
  | some p => .tup [.int p.1, .int p.2]

theorem mul_ok {σ : St} {x y : Int} (h : small x = true) : binV σ .Mult (.d (.int x)) (.d (.int y)) = some (.d (.int (x * y))) := by
  show Option.map V.d (if small x = true then some (D.int (x * y)) else none) = _
  rw [if_pos h]; rfl
theorem div_ok {σ : St} {x y : Int} (h : 0 < y ∧ y < 1000000000) : binV σ .FloorDiv (.d (.int x)) (.d (.int y)) = some (.d (.int (x / y))) := by
  show Option.map V.d (if 0 < y ∧ y < 1000000000 then some (D.int (x / y)) else none) = _
  rw [if_pos h]; rfl
theorem mod_ok {σ : St} {x y : Int} (h : 0 < y) : binV σ .Mod (.d (.int x)) (.d (.int y)) = some (.d (.int (x % y))) := by
  show Option.map V.d (if 0 < y then some (D.int (x % y)) else none) = _
  rw [if_pos h]; rfl
theorem idx_list {σ : St} {xs : List D} {k : Int} {v : D} (h : idxL xs k = some v) : getItemV σ (.d (.list xs)) (.d (.int k)) = some (.d v) := congrArg (Option.map V.d) h
theorem idx_tup {σ : St} {xs : List D} {k : Int} {v : D} (h : idxL xs k = some v) : getItemV σ (.d (.tup xs)) (.d (.int k)) = some (.d v) := congrArg (Option.map V.d) h

theorem sizeOk_of {n : Nat} (h : n < 100000) : sizeOk n = true := decide_eq_true h
theorem small_of_lt {x : Int} (h : -18446744073709551616 < x) (h' : x < 18446744073709551616) : small x = true := by
  unfold small
  refine decide_eq_true ?_
  have : (2 : Nat) ^ 64 = 18446744073709551616 := by decide
  omega
theorem allD_of : ∀ ds : List D, allD (ds.map .d) = some ds
  | [] => rfl
  | x :: r => by show Option.map _ (allD (r.map .d)) = _; rw [allD_of r]; rfl
theorem idxL_get {β : Type} {xs : List β} {i : Int} (h : 0 ≤ i) (h' : i < 1000000000) : idxL xs i = xs[i.toNat]? := by
  unfold idxL; rw [if_pos h, if_pos h']
theorem idxL_mem {β : Type} {xs : List β} {i : Int} (h : 0 ≤ i) (h' : i < xs.length) (hl : xs.length ≤ 1000) : ∃ v, v ∈ xs ∧ idxL xs i = some v := by
  have hi : i.toNat < xs.length := by omega
  exact ⟨xs[i.toNat], List.getElem_mem hi, by rw [idxL_get h (by omega), List.getElem?_eq_getElem hi]⟩
/-- an index into a row of numbers -/
theorem idx_ints {ns : List Int} {i : Int} (h : 0 ≤ i) (h' : i < ns.length) (hl : ns.length ≤ 1000) : ∃ w, w ∈ ns ∧ idxL (ns.map D.int) i = some (.int w) := by
  have hi : i.toNat < ns.length := by omega
  exact ⟨ns[i.toNat], List.getElem_mem hi, by rw [idxL_get h (by omega), List.getElem?_map, List.getElem?_eq_getElem hi]; rfl⟩
theorem len_ints {ns : List Int} {σ : St} (h : ns.length < 100000) : bfV σ .len [.d (.list (ns.map .int))] = some (.d (.int (ns.length : Nat))) := by
  show (if sizeOk (ns.map D.int).length = true then _ else _) = _
  rw [if_pos (sizeOk_of (by simpa using h)), List.length_map]
theorem app_ints {vs : List Int} {m : Int} (h : vs.length < 100000) : methV [(false, .list ((vs.map D.int).map V.d))] .append (.obj 0) [.d (.int m)] = some (.d .none, [(false, .list (((vs ++ [m]).map D.int).map V.d))]) := by
  show (if sizeOk ((vs.map D.int).map V.d).length = true then _ else _) = _
  rw [if_pos (sizeOk_of (by simpa using h)), List.map_append, List.map_append]
  rfl
theorem slice_ints {ws : List Int} {n : Nat} (h : ws.length < 100000) : sliceV [(false, .list ((ws.map D.int).map V.d))] (.obj 0) n none = some (.d (.list ((ws.drop n).map D.int))) := by
  show (if ((ws.map D.int).map V.d).length < 100000 then Option.map _ (allD (List.drop n _)) else _) = _
  rw [if_pos (by simpa using h), ← List.map_drop, allD_of, ← List.map_drop]
  rfl

theorem rangeD_eq (b : Int) : rangeD 0 b = rangeL 0 b.toNat := by
  show rangeL 0 (b - 0).toNat = _
  rw [Int.sub_zero]

/-- the loop of a stream, whatever the body, as long as one turn does so -/
theorem stream_loop {f : V → Loc → St → Option (Fl × Loc × St)} {L : Int → V → Loc} {P : Int → Prop}
    (step : ∀ (n k : Int) (old : V) (vs : List Int), 0 ≤ k → k ≤ 200 → vs.length ≤ 200 → P n → ∃ m, P m ∧ f (.d (.int k)) (L n old) [(false, .list ((vs.map D.int).map V.d))] = some (.next, L m (.d (.int k)), [(false, .list (((vs ++ [m]).map D.int).map V.d))])) :
    ∀ (c : Nat) (k n : Int) (old : V) (vs : List Int), 0 ≤ k → k + c ≤ 200 → P n → vs.length + c ≤ 200 →
      ∃ (ws : List Int) (m : Int) (old' : V), ws.length = vs.length + c ∧ (∀ x ∈ ws, x ∈ vs ∨ P x) ∧ loopL f (rangeL k c) (L n old) [(false, .list ((vs.map D.int).map V.d))] = some (.next, L m old', [(false, .list ((ws.map D.int).map V.d))])
  | 0, k, n, old, vs, _, _, _, _ => ⟨vs, n, old, rfl, fun x hx => .inl hx, by rw [rangeL_zero]; rfl⟩
  | c + 1, k, n, old, vs, hk, hk', hn, hl => by
    obtain ⟨m, hm, e⟩ := step n k old vs hk (by omega) (by omega) hn
    have hl' : (vs ++ [m]).length = vs.length + 1 := List.length_append
    obtain ⟨ws, m', old', h1, h2, h3⟩ := stream_loop step c (k + 1) m (.d (.int k)) (vs ++ [m]) (by omega) (by omega) hm (by omega)
    refine ⟨ws, m', old', by omega, fun x hx => ?_, ?_⟩
    · rcases h2 x hx with h | h
      · rcases List.mem_append.mp h with h | h
        · exact .inl h
        · rw [List.mem_singleton] at h; subst h; exact .inr hm
      · exact .inr h
    · rw [rangeL_succ]
      show Option.bind (f (.d (.int k)) (L n old) _) _ = _
      rw [e]
      exact h3
/-- the whole loop: the first turn comes without the loop's name -/
theorem stream_all {f : V → Loc → St → Option (Fl × Loc × St)} {L : Int → V → Loc} {P : Int → Prop} {ρ : Loc}
    (first : ∃ m, P m ∧ f (.d (.int 0)) ρ [(false, .list [])] = some (.next, L m (.d (.int 0)), [(false, .list ((([m] : List Int).map D.int).map V.d))]))
    (step : ∀ (n k : Int) (old : V) (vs : List Int), 0 ≤ k → k ≤ 200 → vs.length ≤ 200 → P n → ∃ m, P m ∧ f (.d (.int k)) (L n old) [(false, .list ((vs.map D.int).map V.d))] = some (.next, L m (.d (.int k)), [(false, .list (((vs ++ [m]).map D.int).map V.d))]))
    (c : Nat) (hc : c ≤ 150) : ∃ (ws : List Int) (m : Int) (old' : V), ws.length = c + 1 ∧ (∀ x ∈ ws, P x) ∧ loopL f (rangeL 0 (c + 1)) ρ [(false, .list [])] = some (.next, L m old', [(false, .list ((ws.map D.int).map V.d))]) := by
  obtain ⟨m, hm, e⟩ := first
  obtain ⟨ws, m', old', h1, h2, h3⟩ := stream_loop step c (0 + 1) m (.d (.int 0)) [m] (by omega) (by omega) hm (by show 1 + c ≤ 200; omega)
  refine ⟨ws, m', old', by rw [h1]; show 1 + c = _; omega, fun x hx => ?_, ?_⟩
  · rcases h2 x hx with h | h
    · rw [List.mem_singleton] at h; subst h; exact hm
    · exact h
  · rw [rangeL_succ]
    show Option.bind (f (.d (.int 0)) ρ _) _ = _
    rw [e]
    exact h3

noncomputable def forIt : Stmt → Expr
  | .For _ it _ _ _ => it
  | _ => .Constant .none 0 ⟨0, 0, 0, 0⟩
theorem evS_For {G : Genv} {ρ : Loc} {σ : St} {x : Str} {px pos : Pos} {it : Expr} {body : List Stmt} (h : isIt it = true) : evS G (.For (.Name x px) it body [] pos) ρ σ =
    (evI G ρ it σ).bind fun p => (loopL (fun v ρ σ => evSs G body (setV x v ρ) σ) p.1 ρ (lockS p.2.1 p.2.2)).map fun y => (y.1, y.2.1, unlockS p.2.1 p.2.2 y.2.2) := by
  show Option.bind (if isIt it = true then _ else _) _ = _
  rw [if_pos h]
/-- a loop over range(b) -/
theorem for_range {G : Genv} {ρ ρ' : Loc} {σ σ' : St} {x f : Str} {px p1 p2 pos : Pos} {e : Expr} {body : List Stmt} {b : Int} {fl : Fl} (hf : f = "range") (he : evE G ρ false e σ = some (.d (.int b), σ)) (hb : -1000000 ≤ b ∧ b ≤ 1000000)
    (h : loopL (fun v ρ σ => evSs G body (setV x v ρ) σ) (rangeL 0 b.toNat) ρ σ = some (fl, ρ', σ')) : evS G (.For (.Name x px) (.Call (.Name f p1) [e] [] p2) body [] pos) ρ σ = some (fl, ρ', σ') := by
  subst hf
  have hi : isIt (.Call (.Name "range" p1) [e] [] p2) = true := show isItF "range" = true by decide +kernel
  rw [evS_For hi]
  have h1 : evI G ρ (.Call (.Name "range" p1) [e] [] p2) σ = some (rangeD 0 b, none, σ) := by
    show Option.bind (Option.bind (evE G ρ false e σ) _) _ = _
    rw [he]
    show Option.map _ (if -1000000 ≤ b ∧ b ≤ 1000000 then _ else _) = _
    rw [if_pos hb]
    rfl
  rw [h1]
  show Option.map _ (loopL _ (rangeD 0 b) ρ σ) = _
  rw [rangeD_eq, h]
  rfl

noncomputable def rangeArg (s : Stmt) : Expr := match s with
  | .For _ it _ _ _ => match it with
    | .Call _ es _ _ => match es with
      | e :: _ => e
      | _ => .Constant .none 0 ⟨0, 0, 0, 0⟩
    | _ => .Constant .none 0 ⟨0, 0, 0, 0⟩
  | _ => .Constant .none 0 ⟨0, 0, 0, 0⟩
theorem eq_self_pair {σ : St} (a b : Int) : cmpV σ .Eq (.d (.tup [.int a, .int b])) (.d (.tup [.int a, .int b])) = some true := by
  show (Option.map (fun c => c && decide ((2 : Nat) = 2)) (some (decide (a = a) && (decide (b = b) && true)))) = some true
  rw [decide_eq_true (rfl : a = a), decide_eq_true (rfl : b = b)]
  rfl
theorem len3 {xs : List Int} (h : xs.length = 3) : ∃ a b c, xs = [a, b, c] := by
  match xs, h with
  | [a, b, c], _ => exact ⟨a, b, c, rfl⟩
theorem len4 {xs : List Int} (h : xs.length = 4) : ∃ a b c d, xs = [a, b, c, d] := by
  match xs, h with
  | [a, b, c, d], _ => exact ⟨a, b, c, d, rfl⟩
theorem len5 {xs : List Int} (h : xs.length = 5) : ∃ a b c d e, xs = [a, b, c, d, e] := by
  match xs, h with
  | [a, b, c, d, e], _ => exact ⟨a, b, c, d, e, rfl⟩
/-- remainders -/
theorem mod_nat (x : Int) {k : Int} (hk : 0 < k) : ∃ n : Nat, x % k = n ∧ (n : Int) < k := by
  obtain ⟨n, hn⟩ := Int.eq_ofNat_of_zero_le (Int.emod_nonneg x (Int.ne_of_gt hk))
  exact ⟨n, hn, hn ▸ Int.emod_lt_of_pos x hk⟩
theorem mod2 (x : Int) : x % 2 = 0 ∨ x % 2 = 1 := by
  obtain ⟨n, hn, hl⟩ := mod_nat x (k := 2) (by decide)
  rw [hn]
  match n, Int.ofNat_lt.mp hl with
  | 0, _ => exact .inl rfl
  | 1, _ => exact .inr rfl
theorem mod3 (x : Int) : x % 3 = 0 ∨ x % 3 = 1 ∨ x % 3 = 2 := by
  obtain ⟨n, hn, hl⟩ := mod_nat x (k := 3) (by decide)
  rw [hn]
  match n, Int.ofNat_lt.mp hl with
  | 0, _ => exact .inl rfl
  | 1, _ => exact .inr (.inl rfl)
  | 2, _ => exact .inr (.inr rfl)
theorem mod4 (x : Int) : x % 4 = 0 ∨ x % 4 = 1 ∨ x % 4 = 2 ∨ x % 4 = 3 := by
  obtain ⟨n, hn, hl⟩ := mod_nat x (k := 4) (by decide)
  rw [hn]
  match n, Int.ofNat_lt.mp hl with
  | 0, _ => exact .inl rfl
  | 1, _ => exact .inr (.inl rfl)
  | 2, _ => exact .inr (.inr (.inl rfl))
  | 3, _ => exact .inr (.inr (.inr rfl))
/-- rows of numbers by their places -/
theorem pick2 {P : Int → Prop} {a b i : Int} (h : i = 0 ∨ i = 1) (ha : P a) (hb : P b) : ∃ w, P w ∧ idxL [D.int a, D.int b] i = some (.int w) := by
  rcases h with rfl | rfl
  · exact ⟨a, ha, rfl⟩
  · exact ⟨b, hb, rfl⟩
theorem pickT {P : Int → Int → Prop} {a b c d i : Int} (h : i = 0 ∨ i = 1) (ha : P a b) (hb : P c d) : ∃ w u, P w u ∧ idxL [D.tup [.int a, .int b], D.tup [.int c, .int d]] i = some (.tup [.int w, .int u]) := by
  rcases h with rfl | rfl
  · exact ⟨a, b, ha, rfl⟩
  · exact ⟨c, d, hb, rfl⟩
theorem pick3 {P : Int → Prop} {a b c i : Int} (h : i = 0 ∨ i = 1 ∨ i = 2) (ha : P a) (hb : P b) (hc : P c) : ∃ w, P w ∧ idxL [D.int a, D.int b, D.int c] i = some (.int w) := by
  rcases h with rfl | rfl | rfl
  · exact ⟨a, ha, rfl⟩
  · exact ⟨b, hb, rfl⟩
  · exact ⟨c, hc, rfl⟩
theorem pick4 {P : Int → Prop} {a b c d i : Int} (h : i = 0 ∨ i = 1 ∨ i = 2 ∨ i = 3) (ha : P a) (hb : P b) (hc : P c) (hd : P d) : ∃ w, P w ∧ idxL [D.int a, D.int b, D.int c, D.int d] i = some (.int w) := by
  rcases h with rfl | rfl | rfl | rfl
  · exact ⟨a, ha, rfl⟩
  · exact ⟨b, hb, rfl⟩
  · exact ⟨c, hc, rfl⟩
  · exact ⟨d, hd, rfl⟩
end Mine
end

section
set_option autoImplicit false
namespace Mine
open PySem

/-- a loop over items, by an invariant -/
theorem loop_inv {f : V → Loc → St → Option (Fl × Loc × St)} {Inv : Nat → Loc → St → Prop} : ∀ {r : List V} {i : Nat} {ρ : Loc} {σ : St}, Inv i ρ σ →
    (∀ k u ρ σ, r[k]? = some u → Inv (i + k) ρ σ → ∃ ρ' σ', f u ρ σ = some (.next, ρ', σ') ∧ Inv (i + k + 1) ρ' σ') → ∃ ρ' σ', loopL f r ρ σ = some (.next, ρ', σ') ∧ Inv (i + r.length) ρ' σ'
  | [], i, ρ, σ, h, _ => ⟨ρ, σ, rfl, h⟩
  | v :: r, i, ρ, σ, h, step => by
    obtain ⟨ρ₁, σ₁, e, h₁⟩ := step 0 v ρ σ rfl h
    obtain ⟨ρ₂, σ₂, e₂, h₂⟩ := loop_inv (r := r) (i := i + 1) h₁ fun k u ρ σ hk hi => by
      have e : i + 1 + k = i + (k + 1) := by omega
      rw [e] at hi ⊢
      exact step (k + 1) u ρ σ hk hi
    refine ⟨ρ₂, σ₂, ?_, ?_⟩
    · show Option.bind (f v ρ σ) _ = _
      rw [e]
      exact e₂
    · have e : i + 1 + r.length = i + (v :: r).length := by rw [List.length_cons]; omega
      rw [← e]
      exact h₂
/-- a loop over a list that a name holds -/
theorem for_list {G : Genv} {ρ ρ' : Loc} {σ σ' : St} {x y : Str} {px py pos : Pos} {body : List Stmt} {xs : List D} {fl : Fl} (hy : getV y ρ = some (.d (.list xs)))
    (h : loopL (fun v ρ σ => evSs G body (setV x v ρ) σ) (xs.map V.d) ρ σ = some (fl, ρ', σ')) : evS G (.For (.Name x px) (.Name y py) body [] pos) ρ σ = some (fl, ρ', σ') := by
  rw [evS_ForN, if_neg (show ¬ isIt (.Name y py) = true from Bool.false_ne_true)]
  have he : evE G ρ false (.Name y py) σ = some (.d (.list xs), σ) := by
    show (match getV y ρ with | some v => some (v, σ) | none => _) = _
    rw [hy]
  rw [he]
  show Option.map _ (loopL _ (xs.map V.d) ρ σ) = _
  rw [h]
  rfl
theorem for_rev {G : Genv} {ρ ρ' : Loc} {σ σ' : St} {x y f : Str} {px py p1 p2 pos : Pos} {body : List Stmt} {xs : List D} {fl : Fl} (hf : f = "reversed") (hy : getV y ρ = some (.d (.list xs))) (hz : xs.length < 100000)
    (h : loopL (fun v ρ σ => evSs G body (setV x v ρ) σ) (xs.reverse.map V.d) ρ σ = some (fl, ρ', σ')) : evS G (.For (.Name x px) (.Call (.Name f p1) [.Name y py] [] p2) body [] pos) ρ σ = some (fl, ρ', σ') := by
  subst hf
  have hi : isIt (.Call (.Name "reversed" p1) [.Name y py] [] p2) = true := show isItF "reversed" = true by decide +kernel
  rw [evS_For hi]
  have he : evE G ρ false (.Name y py) σ = some (.d (.list xs), σ) := by
    show (match getV y ρ with | some v => some (v, σ) | none => _) = _
    rw [hy]
  have hs := sizeOk_of hz
  have h1 : evI G ρ (.Call (.Name "reversed" p1) [.Name y py] [] p2) σ = some (xs.reverse.map V.d, none, σ) := by
    show Option.bind (Option.bind (evE G ρ false (.Name y py) σ) _) _ = _
    rw [he]
    show Option.map _ (iterF σ "reversed" [.d (.list xs)]) = _
    have h2 : iterF σ "reversed" [.d (.list xs)] = some (xs.reverse.map V.d, none) := by
      unfold iterF
      rw [if_neg (by decide +kernel), if_neg (by decide +kernel), if_pos rfl]
      show (if sizeOk xs.length = true then _ else _) = _
      rw [if_pos hs]
    rw [h2]
    rfl
  rw [h1]
  show Option.map _ (loopL _ (xs.reverse.map V.d) ρ σ) = _
  rw [h]
  rfl
/-- a loop over range(a, b) -/
theorem for_range2 {G : Genv} {ρ ρ' : Loc} {σ σ' : St} {x f : Str} {px p1 p2 pos : Pos} {e1 e2 : Expr} {body : List Stmt} {a b : Int} {fl : Fl} (hf : f = "range") (h1 : evE G ρ false e1 σ = some (.d (.int a), σ)) (h2 : evE G ρ false e2 σ = some (.d (.int b), σ))
    (hb : (-1000000 ≤ a ∧ a ≤ 1000000) ∧ (-1000000 ≤ b ∧ b ≤ 1000000))
    (h : loopL (fun v ρ σ => evSs G body (setV x v ρ) σ) (rangeL a (b - a).toNat) ρ σ = some (fl, ρ', σ')) : evS G (.For (.Name x px) (.Call (.Name f p1) [e1, e2] [] p2) body [] pos) ρ σ = some (fl, ρ', σ') := by
  subst hf
  have hi : isIt (.Call (.Name "range" p1) [e1, e2] [] p2) = true := show isItF "range" = true by decide +kernel
  rw [evS_For hi]
  have hI : evI G ρ (.Call (.Name "range" p1) [e1, e2] [] p2) σ = some (rangeL a (b - a).toNat, none, σ) := by
    show Option.bind (Option.bind (evE G ρ false e1 σ) _) _ = _
    rw [h1]
    show Option.bind (Option.map _ (Option.bind (evE G ρ false e2 σ) _)) _ = _
    rw [h2]
    show Option.map _ (if (-1000000 ≤ a ∧ a ≤ 1000000) ∧ (-1000000 ≤ b ∧ b ≤ 1000000) then _ else _) = _
    rw [if_pos hb]
    rfl
  rw [hI]
  show Option.map _ (loopL _ (rangeL a (b - a).toNat) ρ σ) = _
  rw [h]
  rfl
noncomputable def rangeArg2 (s : Stmt) : Expr := match s with
  | .For _ it _ _ _ => match it with
    | .Call _ es _ _ => match es with
      | _ :: e :: _ => e
      | _ => .Constant .none 0 ⟨0, 0, 0, 0⟩
    | _ => .Constant .none 0 ⟨0, 0, 0, 0⟩
  | _ => .Constant .none 0 ⟨0, 0, 0, 0⟩
theorem len2 {xs : List Int} (h : xs.length = 2) : ∃ a b, xs = [a, b] := by
  match xs, h with
  | [a, b], _ => exact ⟨a, b, rfl⟩
theorem rangeL_at {a : Int} {n k : Nat} {u : V} (h : (rangeL a n)[k]? = some u) : k < n ∧ u = .d (.int (a + k)) := by
  unfold rangeL at h
  rw [List.getElem?_map, Option.map_eq_some_iff] at h
  obtain ⟨j, hj, rfl⟩ := h
  obtain ⟨h1, h2⟩ := List.getElem?_eq_some_iff.mp hj
  rw [List.getElem_range] at h2
  subst h2
  exact ⟨by simpa using h1, rfl⟩
theorem rangeL_len (a : Int) (n : Nat) : (rangeL a n).length = n := by unfold rangeL; simp

/-- rows of numbers -/
theorem intsOf_map : ∀ ns : List Int, intsOf (ns.map D.int) = some ns
  | [] => rfl
  | n :: r => by show (intsOf (r.map D.int)).map (n :: ·) = _; rw [intsOf_map r]; rfl
theorem view_ints {k : Nat} {σ : St} : ∀ ns : List Int, mapO (view (k + 1) σ) ((ns.map D.int).map V.d) = some (ns.map D.int)
  | [] => rfl
  | n :: r => by show (mapO (view (k + 1) σ) ((r.map D.int).map V.d)).map (D.int n :: ·) = _; rw [view_ints r]; rfl
theorem set_ints {vs : List Int} (h : vs.length < 1000) : bfV [(false, .list ((vs.map D.int).map V.d))] .set [.obj 0] = some (.d (.set ((dedI vs).map .i))) := by
  show Option.bind (Option.bind (Option.map D.list (mapO (view 5 _) ((vs.map D.int).map V.d))) _) _ = _
  rw [view_ints (k := 4) vs]
  show Option.bind (intsOf (vs.map D.int)) _ = _
  rw [intsOf_map]
  show (if vs.length < 1000 then _ else _) = _
  rw [if_pos h]
theorem key_ints (ns : List Int) : (ns.map Key.i).map Key.toD = ns.map D.int := by rw [List.map_map]; rfl
theorem sorted_set_ints {ns : List Int} {σ : St} (h : ns.length < 64) : bfV σ .sorted [.d (.set (ns.map .i))] = some (.d (.list ((sortI ns).map .int))) := by
  show Option.map V.d (sortD ((ns.map Key.i).map Key.toD)) = _
  rw [key_ints]
  show Option.map V.d (if (ns.map D.int).length < 64 then Option.map _ (intsOf (ns.map D.int)) else none) = _
  rw [if_pos (by simpa using h), intsOf_map]
  rfl
theorem list_ints {ns : List Int} {σ : St} (h : ns.length < 100000) : bfV σ .list [.d (.list (ns.map .int))] = some (.d (.list (ns.map .int))) := by
  show (if sizeOk (ns.map D.int).length = true then _ else _) = _
  rw [if_pos (sizeOk_of (by simpa using h))]
theorem eqL_ints : ∀ ns : List Int, eqL (eqP 19) (ns.map D.int) (ns.map D.int) = some true
  | [] => rfl
  | n :: r => by
    show and2 (some (decide (n = n))) (eqL (eqP 19) (r.map D.int) (r.map D.int)) = _
    rw [eqL_ints r, decide_eq_true rfl]
    rfl
theorem ne_ints {ns : List Int} {σ : St} : cmpV σ .NotEq (.d (.list (ns.map .int))) (.d (.list (ns.map .int))) = some false := by
  show Option.map not (if (ns.map D.int).length = (ns.map D.int).length then eqL (eqP 19) (ns.map D.int) (ns.map D.int) else _) = _
  rw [if_pos rfl, eqL_ints]
  rfl
theorem inL_ints {x : Int} : ∀ ns : List Int, inL (.int x) (ns.map D.int) = some (decide (x ∈ ns))
  | [] => rfl
  | n :: r => by
    show (match (some (decide (n = x)) : Option Bool), inL (.int x) (r.map D.int) with
      | some a, some b => some (a || b)
      | _, _ => none) = _
    rw [inL_ints r]
    show some _ = some _
    congr 1
    by_cases h : n = x
    · subst h; simp
    · have h' : ¬ x = n := fun q => h q.symm
      simp [h, h']
theorem notin_ints {x : Int} {ns : List Int} {σ : St} (h : x ∈ ns) : cmpV σ .NotIn (.d (.int x)) (.d (.list (ns.map .int))) = some false := by
  show Option.map not (inL (.int x) (ns.map D.int)) = _
  rw [inL_ints, decide_eq_true h]
  rfl

/-- each number once -/
theorem addI_mem {σ : List Int} {v x : Int} : x ∈ addI σ v ↔ x ∈ σ ∨ x = v := by
  unfold addI
  split
  · rename_i h
    obtain ⟨y, hy, e⟩ := List.any_eq_true.mp h
    have : y = v := eq_of_beq e
    subst this
    exact ⟨.inl, fun q => q.elim id fun q => q ▸ hy⟩
  · rw [List.mem_append, List.mem_singleton]
theorem addI_len {σ : List Int} {v : Int} : (addI σ v).length ≤ σ.length + 1 := by
  unfold addI
  split
  · exact Nat.le_succ _
  · rw [List.length_append]; exact Nat.le_refl _
theorem foldl_addI : ∀ {ns σ : List Int}, (∀ x, x ∈ ns.foldl addI σ ↔ x ∈ σ ∨ x ∈ ns) ∧ (ns.foldl addI σ).length ≤ σ.length + ns.length
  | [], σ => ⟨fun x => ⟨.inl, fun q => q.elim id fun q => nomatch q⟩, Nat.le_refl _⟩
  | n :: r, σ => by
    obtain ⟨h1, h2⟩ := foldl_addI (ns := r) (σ := addI σ n)
    refine ⟨fun x => ?_, ?_⟩
    · rw [List.foldl_cons, h1, addI_mem, List.mem_cons, or_assoc]
    · rw [List.foldl_cons, List.length_cons]
      have := addI_len (σ := σ) (v := n)
      omega
theorem dedI_mem {ns : List Int} {x : Int} : x ∈ dedI ns ↔ x ∈ ns := by
  unfold dedI
  rw [foldl_addI.1]
  exact ⟨fun q => q.elim (fun q => nomatch q) id, .inr⟩
theorem dedI_len {ns : List Int} : (dedI ns).length ≤ ns.length := by
  have := (foldl_addI (ns := ns) (σ := [])).2
  rw [List.length_nil, Nat.zero_add] at this
  exact this
/-- what the marks are -/
noncomputable def marksOf (vs : List Int) : List Int := sortI (dedI vs)
theorem marksOf_mem {vs : List Int} {x : Int} : x ∈ marksOf vs ↔ x ∈ vs := (List.mergeSort_perm (dedI vs) _).mem_iff.trans dedI_mem
theorem marksOf_up (vs : List Int) : (marksOf vs).Pairwise (· ≤ ·) := by
  have := List.pairwise_mergeSort (le := fun a b : Int => decide (a ≤ b)) (fun a b c h1 h2 => by simp only [decide_eq_true_eq] at *; omega) (fun a b => by simp only [Bool.or_eq_true, decide_eq_true_eq]; omega) (dedI vs)
  exact this.imp fun h => of_decide_eq_true h
theorem marksOf_len {vs : List Int} : (marksOf vs).length ≤ vs.length := by
  have : (marksOf vs).length = (dedI vs).length := (List.mergeSort_perm (dedI vs) _).length_eq
  have := dedI_len (ns := vs)
  omega
/-- the mark below, the mark above -/
noncomputable def lowF (a : Int) (lo m : Int) : Int := if m ≤ a then m else lo
noncomputable def hiF (b : Int) (hi m : Int) : Int := if m ≥ b then m else hi
theorem low_ok {a : Int} : ∀ {ms : List Int} {z : Int}, ms.Pairwise (· ≤ ·) → (∀ m ∈ ms, z ≤ m) → z ≤ a → ms.foldl (lowF a) z ≤ a ∧ (ms.foldl (lowF a) z = z ∨ ms.foldl (lowF a) z ∈ ms) ∧ z ≤ ms.foldl (lowF a) z ∧ ∀ m ∈ ms, m ≤ a → m ≤ ms.foldl (lowF a) z
  | [], z, _, _, h => ⟨h, .inl rfl, Int.le_refl _, fun m hm => nomatch hm⟩
  | m :: r, z, hp, hz, h => by
    rw [List.pairwise_cons] at hp
    rw [List.foldl_cons]
    by_cases c : m ≤ a
    · have e : lowF a z m = m := if_pos c
      rw [e]
      obtain ⟨h1, h2, h3, h4⟩ := low_ok (z := m) hp.2 hp.1 c
      refine ⟨h1, .inr ?_, Int.le_trans (hz m List.mem_cons_self) h3, fun k hk hka => ?_⟩
      · rcases h2 with h2 | h2
        · rw [h2]; exact List.mem_cons_self
        · exact List.mem_cons_of_mem _ h2
      · rcases List.mem_cons.mp hk with rfl | hk
        · exact h3
        · exact h4 k hk hka
    · have e : lowF a z m = z := if_neg c
      rw [e]
      obtain ⟨h1, h2, h3, h4⟩ := low_ok (z := z) hp.2 (fun k hk => hz k (List.mem_cons_of_mem _ hk)) h
      refine ⟨h1, h2.imp id (List.mem_cons_of_mem _), h3, fun k hk hka => ?_⟩
      rcases List.mem_cons.mp hk with rfl | hk
      · exact absurd hka c
      · exact h4 k hk hka
theorem hi_ok {b : Int} : ∀ {ms : List Int} {z : Int}, ms.Pairwise (fun x y => y ≤ x) → (∀ m ∈ ms, m ≤ z) → b ≤ z → b ≤ ms.foldl (hiF b) z ∧ (ms.foldl (hiF b) z = z ∨ ms.foldl (hiF b) z ∈ ms) ∧ ms.foldl (hiF b) z ≤ z ∧ ∀ m ∈ ms, b ≤ m → ms.foldl (hiF b) z ≤ m
  | [], z, _, _, h => ⟨h, .inl rfl, Int.le_refl _, fun m hm => nomatch hm⟩
  | m :: r, z, hp, hz, h => by
    rw [List.pairwise_cons] at hp
    rw [List.foldl_cons]
    by_cases c : m ≥ b
    · have e : hiF b z m = m := if_pos c
      rw [e]
      obtain ⟨h1, h2, h3, h4⟩ := hi_ok (z := m) hp.2 hp.1 c
      refine ⟨h1, .inr ?_, Int.le_trans h3 (hz m List.mem_cons_self), fun k hk hka => ?_⟩
      · rcases h2 with h2 | h2
        · rw [h2]; exact List.mem_cons_self
        · exact List.mem_cons_of_mem _ h2
      · rcases List.mem_cons.mp hk with rfl | hk
        · exact h3
        · exact h4 k hk hka
    · have e : hiF b z m = z := if_neg c
      rw [e]
      obtain ⟨h1, h2, h3, h4⟩ := hi_ok (z := z) hp.2 (fun k hk => hz k (List.mem_cons_of_mem _ hk)) h
      refine ⟨h1, h2.imp id (List.mem_cons_of_mem _), h3, fun k hk hka => ?_⟩
      rcases List.mem_cons.mp hk with rfl | hk
      · exact absurd hka c
      · exact h4 k hk hka
noncomputable def lowR (a : Int) (ms : List Int) : Int := ms.foldl (lowF a) (-1000000)
noncomputable def hiR (b : Int) (ms : List Int) : Int := ms.reverse.foldl (hiF b) 1000000
/-- what rounding gives -/
theorem rounded_law {a b : Int} {ms : List Int} (hp : ms.Pairwise (· ≤ ·)) (hm : ∀ m ∈ ms, -1000000 ≤ m ∧ m ≤ 1000000) (ha : -1000000 ≤ a) (hb : b ≤ 1000000) :
    (lowR a ms ≤ a ∧ (lowR a ms = -1000000 ∨ lowR a ms ∈ ms) ∧ ∀ m ∈ ms, m ≤ a → m ≤ lowR a ms) ∧ (b ≤ hiR b ms ∧ (hiR b ms = 1000000 ∨ hiR b ms ∈ ms) ∧ ∀ m ∈ ms, b ≤ m → hiR b ms ≤ m) := by
  obtain ⟨h1, h2, _, h3⟩ := low_ok (a := a) hp (fun m q => (hm m q).1) ha
  obtain ⟨k1, k2, _, k3⟩ := hi_ok (b := b) (ms := ms.reverse) (z := 1000000) (List.pairwise_reverse.mpr hp) (fun m q => (hm m (List.mem_reverse.mp q)).2) hb
  exact ⟨⟨h1, h2, h3⟩, k1, k2.imp id List.mem_reverse.mp, fun m q => k3 m (List.mem_reverse.mpr q)⟩
end Mine
end

section
open PySem
set_option maxRecDepth 100000
set_option linter.unusedVariables false
namespace Mine
noncomputable abbrev B04 : List Stmt := PySem.Challenge.rw_uf010002_04.prog.main.body
noncomputable def H04 : Hints := ⟨[((Str.ofString "_law_stream"), (Str.ofString "_law_found")), ((Str.ofString "_law_marks"), (Str.ofString "_law_marks_here"))], [], [], [((Str.ofString "LIMIT"), D.int (1000000))]⟩
theorem L04_f_rounded : findFn (Str.ofString "rounded") B04 = some (fnAt B04 0) := by kernel_rfl
theorem L04_f__law_cell_at : findFn (Str.ofString "_law_cell_at") B04 = some (fnAt B04 1) := by kernel_rfl
theorem L04_f__law_stream : findFn (Str.ofString "_law_stream") B04 = some (fnAt B04 2) := by kernel_rfl
theorem L04_f__law_number : findFn (Str.ofString "_law_number") B04 = some (fnAt B04 3) := by kernel_rfl
theorem L04_f__law_whole : findFn (Str.ofString "_law_whole") B04 = some (fnAt B04 4) := by kernel_rfl
theorem L04_f__law_is_stretch : findFn (Str.ofString "_law_is_stretch") B04 = some (fnAt B04 5) := by kernel_rfl
theorem L04_f__law_alike : findFn (Str.ofString "_law_alike") B04 = some (fnAt B04 6) := by kernel_rfl
theorem L04_f__law_stretch : findFn (Str.ofString "_law_stretch") B04 = some (fnAt B04 7) := by kernel_rfl
theorem L04_f__law_marks : findFn (Str.ofString "_law_marks") B04 = some (fnAt B04 8) := by kernel_rfl
theorem L04_f_law : findFn (Str.ofString "law") B04 = some (fnAt B04 9) := by kernel_rfl
theorem L04_imp (f : Str) : H04.impure.contains f = false := rfl
theorem L04_cell_at_T (d : Nat) (ns : List Int) (k : Int) (w1 : Int) (h1 : bfV [] .len [V.d (D.list (ns.map D.int))] = some (V.d (D.int (((List.length ns : Nat) : Int))))) (h2 : k < (((List.length ns : Nat) : Int))) (h3 : idxL (ns.map D.int) (k) = some (D.int (w1))) (σ : St) : callN B04 H04 (d + 1) (Str.ofString "_law_cell_at") [V.d (D.list (ns.map D.int)), V.d (D.int (k))] σ = some (V.d (D.int (w1)), σ) :=
  path (ds := [D.list (ns.map D.int), D.int (k)]) (i := 1) (x := D.int (w1)) (P := (bfV [] .len [V.d (D.list (ns.map D.int))] = some (V.d (D.int (((List.length ns : Nat) : Int))))) ∧ (some (decide (k < (((List.length ns : Nat) : Int)))) = some true) ∧ (getItemV [] (V.d (D.list (ns.map D.int))) (V.d (D.int (k))) = some (V.d (D.int (w1)))) ∧ some (D.int (w1)) = some (D.int (w1))) [(0, Tell.v (V.d (D.int (((List.length ns : Nat) : Int))))), (2, Tell.b true), (3, Tell.v (V.d (D.int (w1))))] L04_f__law_cell_at (L04_imp _) (by kernel_rfl) ⟨h1, dT h2, idx_list h3, rfl⟩ σ
theorem L04_cell_at_F (d : Nat) (ns : List Int) (k : Int)  (h1 : bfV [] .len [V.d (D.list (ns.map D.int))] = some (V.d (D.int (((List.length ns : Nat) : Int))))) (h2 : ¬ (k < (((List.length ns : Nat) : Int)))) (σ : St) : callN B04 H04 (d + 1) (Str.ofString "_law_cell_at") [V.d (D.list (ns.map D.int)), V.d (D.int (k))] σ = some (V.d (D.int (0)), σ) :=
  path (ds := [D.list (ns.map D.int), D.int (k)]) (i := 1) (x := D.int (0)) (P := (bfV [] .len [V.d (D.list (ns.map D.int))] = some (V.d (D.int (((List.length ns : Nat) : Int))))) ∧ (some (decide (k < (((List.length ns : Nat) : Int)))) = some false) ∧ some (D.int (0)) = some (D.int (0))) [(0, Tell.v (V.d (D.int (((List.length ns : Nat) : Int))))), (2, Tell.b false)] L04_f__law_cell_at (L04_imp _) (by kernel_rfl) ⟨h1, dF h2, rfl⟩ σ
theorem L04_cell_at (d : Nat) (ns : List Int) (k : Int) (hk : 0 ≤ k) (hk' : k < 100) (hn : ns.length ≤ 63) : ∃ c : Int, ∀ σ, callN B04 H04 (d + 1) (Str.ofString "_law_cell_at") [.d (.list (ns.map .int)), .d (.int k)] σ = some (.d (.int c), σ) := by
  by_cases h : k < (ns.length : Int)
  · obtain ⟨c, _, e⟩ := idx_ints hk h (by omega)
    exact ⟨c, L04_cell_at_T d ns k c (len_ints (by omega)) h e⟩
  · exact ⟨0, L04_cell_at_F d ns k (len_ints (by omega)) h⟩
noncomputable def L04_L (c m n : Int) (old : V) : Loc := [(Str.ofString "_law_cell", .d (.int c)), (Str.ofString "_law_many", .d (.int m)), (Str.ofString "_law_found", .obj 0), (Str.ofString "_law_number_here", .d (.int n)), (Str.ofString "_law_k", old)]
theorem L04_step0 (d : Nat) (c m n k : Int) (vs : List Int)  (h1 : small n = true) (h2 : methV [(false, MO.list (((vs).map D.int).map V.d))] .append (V.obj 0) [V.d (D.int ((((n * n) + (48271 * n)) + k) % 2147483647))] = some (V.d D.none, [(false, MO.list (((vs ++ [(((n * n) + (48271 * n)) + k) % 2147483647]).map D.int).map V.d))])) : evSs (gen B04 H04 (d) (Str.ofString "_law_stream")) (forBody (stAt B04 2 2)) [(Str.ofString "_law_cell", V.d (D.int (c))), (Str.ofString "_law_many", V.d (D.int (m))), (Str.ofString "_law_found", V.obj 0), (Str.ofString "_law_number_here", V.d (D.int (n))), (Str.ofString "_law_k", V.d (D.int (k)))] ([(false, MO.list (((vs).map D.int).map V.d))]) = some (Fl.next, [(Str.ofString "_law_cell", V.d (D.int (c))), (Str.ofString "_law_many", V.d (D.int (m))), (Str.ofString "_law_found", V.obj 0), (Str.ofString "_law_number_here", V.d (D.int ((((n * n) + (48271 * n)) + k) % 2147483647))), (Str.ofString "_law_k", V.d (D.int (k)))], [(false, MO.list (((vs ++ [(((n * n) + (48271 * n)) + k) % 2147483647]).map D.int).map V.d))]) :=
  pathS (P := (binV [(false, MO.list (((vs).map D.int).map V.d))] .Mult (V.d (D.int (n))) (V.d (D.int (n))) = some (V.d (D.int (n * n)))) ∧ (methV [(false, MO.list (((vs).map D.int).map V.d))] .append (V.obj 0) [V.d (D.int ((((n * n) + (48271 * n)) + k) % 2147483647))] = some (V.d D.none, [(false, MO.list (((vs ++ [(((n * n) + (48271 * n)) + k) % 2147483647]).map D.int).map V.d))])) ∧ ((Fl.next, [(Str.ofString "_law_cell", V.d (D.int (c))), (Str.ofString "_law_many", V.d (D.int (m))), (Str.ofString "_law_found", V.obj 0), (Str.ofString "_law_number_here", V.d (D.int ((((n * n) + (48271 * n)) + k) % 2147483647))), (Str.ofString "_law_k", V.d (D.int (k)))], [(false, MO.list (((vs ++ [(((n * n) + (48271 * n)) + k) % 2147483647]).map D.int).map V.d))]) : Fl × Loc × St) = (Fl.next, [(Str.ofString "_law_cell", V.d (D.int (c))), (Str.ofString "_law_many", V.d (D.int (m))), (Str.ofString "_law_found", V.obj 0), (Str.ofString "_law_number_here", V.d (D.int ((((n * n) + (48271 * n)) + k) % 2147483647))), (Str.ofString "_law_k", V.d (D.int (k)))], [(false, MO.list (((vs ++ [(((n * n) + (48271 * n)) + k) % 2147483647]).map D.int).map V.d))])) [(0, Tell.v (V.d (D.int (n * n)))), (5, Tell.w (V.d D.none) [(false, MO.list (((vs ++ [(((n * n) + (48271 * n)) + k) % 2147483647]).map D.int).map V.d))])] (by kernel_rfl) ⟨mul_ok h1, h2, rfl⟩
theorem L04_stream_0 (d : Nat) (c m n' : Int) (old : V) (ws : List Int)  (h1 : evS (gen B04 H04 (d) (Str.ofString "_law_stream")) (stAt B04 2 2) [(Str.ofString "_law_cell", V.d (D.int (c))), (Str.ofString "_law_many", V.d (D.int (m))), (Str.ofString "_law_found", V.obj 0), (Str.ofString "_law_number_here", V.d (D.int ((c % 2147483647) + 48271)))] [(false, MO.list [])] = some (Fl.next, [(Str.ofString "_law_cell", V.d (D.int (c))), (Str.ofString "_law_many", V.d (D.int (m))), (Str.ofString "_law_found", V.obj 0), (Str.ofString "_law_number_here", V.d (D.int (n'))), (Str.ofString "_law_k", old)], [(false, MO.list (((ws).map D.int).map V.d))])) (h2 : sliceV [(false, MO.list (((ws).map D.int).map V.d))] (V.obj 0) 1 none = some (V.d (D.list ((ws.drop 1).map D.int)))) (σ : St) : callN B04 H04 (d + 1) (Str.ofString "_law_stream") [V.d (D.int (c)), V.d (D.int (m))] σ = some (V.d (D.list ((ws.drop 1).map D.int)), σ) :=
  path (ds := [D.int (c), D.int (m)]) (i := 2) (x := D.list ((ws.drop 1).map D.int)) (P := (evS (gen B04 H04 (d) (Str.ofString "_law_stream")) (stAt B04 2 2) [(Str.ofString "_law_cell", V.d (D.int (c))), (Str.ofString "_law_many", V.d (D.int (m))), (Str.ofString "_law_found", V.obj 0), (Str.ofString "_law_number_here", V.d (D.int ((c % 2147483647) + 48271)))] [(false, MO.list [])] = some (Fl.next, [(Str.ofString "_law_cell", V.d (D.int (c))), (Str.ofString "_law_many", V.d (D.int (m))), (Str.ofString "_law_found", V.obj 0), (Str.ofString "_law_number_here", V.d (D.int (n'))), (Str.ofString "_law_k", old)], [(false, MO.list (((ws).map D.int).map V.d))])) ∧ (sliceV [(false, MO.list (((ws).map D.int).map V.d))] (V.obj 0) 1 none = some (V.d (D.list ((ws.drop 1).map D.int)))) ∧ some (D.list ((ws.drop 1).map D.int)) = some (D.list ((ws.drop 1).map D.int))) [(3, Tell.f Fl.next [(Str.ofString "_law_cell", V.d (D.int (c))), (Str.ofString "_law_many", V.d (D.int (m))), (Str.ofString "_law_found", V.obj 0), (Str.ofString "_law_number_here", V.d (D.int (n'))), (Str.ofString "_law_k", old)] [(false, MO.list (((ws).map D.int).map V.d))]), (4, Tell.v (V.d (D.list ((ws.drop 1).map D.int))))] L04_f__law_stream (L04_imp _) (by kernel_rfl) ⟨h1, h2, rfl⟩ σ
theorem L04_step (d : Nat) (c m n k : Int) (vs : List Int) (hk : 0 ≤ k) (hk' : k ≤ 200) (hv : vs.length ≤ 200) (hn : 0 ≤ n ∧ n < 4294967296) : ∃ j, (0 ≤ j ∧ j < 4294967296) ∧ evSs (gen B04 H04 d (Str.ofString "_law_stream")) (forBody (stAt B04 2 2)) (L04_L c m n (.d (.int k))) [(false, .list ((vs.map D.int).map V.d))] = some (.next, L04_L c m j (.d (.int k)), [(false, .list (((vs ++ [j]).map D.int).map V.d))]) := by
  refine ⟨(n * n + 48271 * n + k) % 2147483647, ⟨by omega, by omega⟩, ?_⟩
  exact L04_step0 d c m n k vs (small_of_lt (by omega) (by omega)) (app_ints (by omega))
theorem L04_stream (d : Nat) (c m : Int) (hm : 0 ≤ m) (hm' : m ≤ 100) : ∃ xs : List Int, xs.length = m.toNat ∧ (∀ x ∈ xs, 0 ≤ x ∧ x < 4294967296) ∧ ∀ σ, callN B04 H04 (d + 1) (Str.ofString "_law_stream") [.d (.int c), .d (.int m)] σ = some (.d (.list (xs.map .int)), σ) := by
  have hs0 : ∀ n v, setV (Str.ofString "_law_k") v [(Str.ofString "_law_cell", .d (.int c)), (Str.ofString "_law_many", .d (.int m)), (Str.ofString "_law_found", .obj 0), (Str.ofString "_law_number_here", .d (.int n))] = L04_L c m n v := fun n v => by kernel_rfl
  have hs1 : ∀ n u v, setV (Str.ofString "_law_k") v (L04_L c m n u) = L04_L c m n v := fun n u v => by kernel_rfl
  obtain ⟨ws, n', old, h1, h2, h3⟩ := stream_all (f := fun v ρ σ => evSs (gen B04 H04 d (Str.ofString "_law_stream")) (forBody (stAt B04 2 2)) (setV (Str.ofString "_law_k") v ρ) σ) (L := L04_L c m) (P := fun n => 0 ≤ n ∧ n < 4294967296) (ρ := [(Str.ofString "_law_cell", .d (.int c)), (Str.ofString "_law_many", .d (.int m)), (Str.ofString "_law_found", .obj 0), (Str.ofString "_law_number_here", .d (.int (c % 2147483647 + 48271)))])
    (by rw [hs0]; exact L04_step d c m _ 0 [] (by omega) (by omega) (Nat.zero_le _) ⟨by omega, by omega⟩)
    (fun n k old vs a1 a2 a3 a4 => by rw [hs1]; exact L04_step d c m n k vs a1 a2 a3 a4) m.toNat (by omega)
  refine ⟨ws.drop 1, by rw [List.length_drop]; omega, fun x hx => h2 x (List.mem_of_mem_drop hx), L04_stream_0 d c m n' old ws ?_ (slice_ints (by omega))⟩
  have he : evE (gen B04 H04 d (Str.ofString "_law_stream")) [(Str.ofString "_law_cell", .d (.int c)), (Str.ofString "_law_many", .d (.int m)), (Str.ofString "_law_found", .obj 0), (Str.ofString "_law_number_here", .d (.int (c % 2147483647 + 48271)))] false (rangeArg (stAt B04 2 2)) [(false, .list [])] = some (.d (.int (m + 1)), [(false, .list [])]) := by kernel_rfl
  refine for_range (x := Str.ofString "_law_k") (body := forBody (stAt B04 2 2)) rfl he (by omega) ?_
  rw [show (m + 1).toNat = m.toNat + 1 by omega]
  exact h3
theorem L04_number_T (d : Nat) (x : Int)  (h1 : (x % 8) < 4) (σ : St) : callN B04 H04 (d + 1) (Str.ofString "_law_number") [V.d (D.int (x))] σ = some (V.d (D.int (((x / 8) % 27) - 6)), σ) :=
  path (ds := [D.int (x)]) (i := 3) (x := D.int (((x / 8) % 27) - 6)) (P := (some (decide ((x % 8) < 4)) = some true) ∧ some (D.int (((x / 8) % 27) - 6)) = some (D.int (((x / 8) % 27) - 6))) [(2, Tell.b true)] L04_f__law_number (L04_imp _) (by kernel_rfl) ⟨dT h1, rfl⟩ σ
theorem L04_number_F (d : Nat) (x : Int) (w1 : Int) (w2 : Int) (h1 : ¬ ((x % 8) < 4)) (h2 : idxL [D.int (1000000), D.int (-1000000), D.int (999999), D.int (-999999)] ((x / 8) % 4) = some (D.int (w1))) (h3 : idxL [D.int (((x / 8) % 2000001) - 1000000), D.int (w1), D.int (((x / 8) % 2001) - 1000)] (if ((x % 8) - 4) < 2 then (x % 8) - 4 else 2) = some (D.int (w2))) (σ : St) : callN B04 H04 (d + 1) (Str.ofString "_law_number") [V.d (D.int (x))] σ = some (V.d (D.int (w2)), σ) :=
  path (ds := [D.int (x)]) (i := 3) (x := D.int (w2)) (P := (some (decide ((x % 8) < 4)) = some false) ∧ (getItemV [] (V.d (D.list [D.int (1000000), D.int (-1000000), D.int (999999), D.int (-999999)])) (V.d (D.int ((x / 8) % 4))) = some (V.d (D.int (w1)))) ∧ (getItemV [] (V.d (D.list [D.int (((x / 8) % 2000001) - 1000000), D.int (w1), D.int (((x / 8) % 2001) - 1000)])) (V.d (D.int (if ((x % 8) - 4) < 2 then (x % 8) - 4 else 2))) = some (V.d (D.int (w2)))) ∧ some (D.int (w2)) = some (D.int (w2))) [(2, Tell.b false), (9, Tell.v (V.d (D.int (w1)))), (17, Tell.v (V.d (D.int (w2))))] L04_f__law_number (L04_imp _) (by kernel_rfl) ⟨dF h1, idx_list h2, idx_list h3, rfl⟩ σ
theorem L04_number (d : Nat) (x : Int) (hx : 0 ≤ x) : ∃ r : Int, -1000000 ≤ r ∧ r ≤ 1000000 ∧ ∀ σ, callN B04 H04 (d + 1) (Str.ofString "_law_number") [.d (.int x)] σ = some (.d (.int r), σ) := by
  by_cases h : x % 8 < 4
  · exact ⟨_, by omega, by omega, L04_number_T d x h⟩
  · obtain ⟨w1, b1, e1⟩ := pick4 (P := fun w => -1000000 ≤ w ∧ w ≤ 1000000) (i := x / 8 % 4) (a := 1000000) (b := -1000000) (c := 999999) (d := -999999) (mod4 _) (by decide) (by decide) (by decide) (by decide)
    obtain ⟨w2, b2, e2⟩ := pick3 (P := fun w => -1000000 ≤ w ∧ w ≤ 1000000) (i := if x % 8 - 4 < 2 then x % 8 - 4 else 2) (a := x / 8 % 2000001 - 1000000) (b := w1) (c := x / 8 % 2001 - 1000) (by omega) (by omega) b1 (by omega)
    exact ⟨w2, b2.1, b2.2, L04_number_F d x w1 w2 h e1 e2⟩
theorem L04_whole_0 (d : Nat) (x : Int)   (σ : St) : callN B04 H04 (d + 1) (Str.ofString "_law_whole") [V.d (D.int (x))] σ = some (V.d (D.bool (true)), σ) :=
  path (ds := [D.int (x)]) (i := 4) (x := D.bool (true)) (P := some (D.bool (true)) = some (D.bool (true))) [] L04_f__law_whole (L04_imp _) (by kernel_rfl) rfl σ
theorem L04_is_stretch_n_0 (d : Nat)   (σ : St) : callN B04 H04 (d + 1 + 1) (Str.ofString "_law_is_stretch") [V.d (D.none)] σ = some (V.d (D.bool (false)), σ) :=
  path (ds := [D.none]) (i := 5) (x := D.bool (false)) (P := some (D.bool (false)) = some (D.bool (false))) [] L04_f__law_is_stretch (L04_imp _) (by kernel_rfl) rfl σ
theorem L04_is_stretch_s_0 (d : Nat) (a b : Int)  (hc1 : ∀ σ, callN B04 H04 (d + 1) (Str.ofString "_law_whole") [V.d (D.int (a))] σ = some (V.d (D.bool (true)), σ)) (hc2 : ∀ σ, callN B04 H04 (d + 1) (Str.ofString "_law_whole") [V.d (D.int (b))] σ = some (V.d (D.bool (true)), σ)) (σ : St) : callN B04 H04 (d + 1 + 1) (Str.ofString "_law_is_stretch") [V.d (D.tup [D.int (a), D.int (b)])] σ = some (V.d (D.bool (true)), σ) :=
  path (ds := [D.tup [D.int (a), D.int (b)]]) (i := 5) (x := D.bool (true)) (P := (callN B04 H04 (d + 1) (Str.ofString "_law_whole") [V.d (D.int (a))] [] = some (V.d (D.bool (true)), [])) ∧ (callN B04 H04 (d + 1) (Str.ofString "_law_whole") [V.d (D.int (b))] [] = some (V.d (D.bool (true)), [])) ∧ some (D.bool (true)) = some (D.bool (true))) [(7, Tell.w (V.d (D.bool (true))) []), (10, Tell.w (V.d (D.bool (true))) [])] L04_f__law_is_stretch (L04_imp _) (by kernel_rfl) ⟨hc1 _, hc2 _, rfl⟩ σ
theorem L04_stretch_0 (d : Nat) (x y lo : Int) (w1 : Int) (hc1 : ∀ σ, callN B04 H04 (d + 1) (Str.ofString "_law_number") [V.d (D.int (x))] σ = some (V.d (D.int (lo)), σ)) (h1 : idxL [D.int (0), D.int ((y / 4) % 9), D.int ((y / 4) % 3000), D.int ((y / 4) % 2000001)] (y % 4) = some (D.int (w1))) (σ : St) : callN B04 H04 (d + 1 + 1) (Str.ofString "_law_stretch") [V.d (D.int (x)), V.d (D.int (y))] σ = some (V.d (D.tup [D.int (lo), D.int (if (lo + w1) < 1000000 then lo + w1 else 1000000)]), σ) :=
  path (ds := [D.int (x), D.int (y)]) (i := 7) (x := D.tup [D.int (lo), D.int (if (lo + w1) < 1000000 then lo + w1 else 1000000)]) (P := (callN B04 H04 (d + 1) (Str.ofString "_law_number") [V.d (D.int (x))] [] = some (V.d (D.int (lo)), [])) ∧ (getItemV [] (V.d (D.list [D.int (0), D.int ((y / 4) % 9), D.int ((y / 4) % 3000), D.int ((y / 4) % 2000001)])) (V.d (D.int (y % 4))) = some (V.d (D.int (w1)))) ∧ some (D.tup [D.int (lo), D.int (if (lo + w1) < 1000000 then lo + w1 else 1000000)]) = some (D.tup [D.int (lo), D.int (if (lo + w1) < 1000000 then lo + w1 else 1000000)])) [(0, Tell.w (V.d (D.int (lo))) []), (9, Tell.v (V.d (D.int (w1))))] L04_f__law_stretch (L04_imp _) (by kernel_rfl) ⟨hc1 _, idx_list h1, rfl⟩ σ
theorem L04_stretch (d : Nat) (x y : Int) (hx : 0 ≤ x) (hy : 0 ≤ y) : ∃ a b : Int, -1000000 ≤ a ∧ a ≤ b ∧ b ≤ 1000000 ∧ ∀ σ, callN B04 H04 (d + 1 + 1) (Str.ofString "_law_stretch") [.d (.int x), .d (.int y)] σ = some (.d (.tup [.int a, .int b]), σ) := by
  obtain ⟨lo, h1, h2, e0⟩ := L04_number d x hx
  obtain ⟨w, hw, e1⟩ := pick4 (P := fun w => 0 ≤ w) (i := y % 4) (a := 0) (b := y / 4 % 9) (c := y / 4 % 3000) (d := y / 4 % 2000001) (mod4 _) (by decide) (by omega) (by omega) (by omega)
  exact ⟨_, _, h1, by omega, by omega, L04_stretch_0 d x y lo w e0 e1⟩
noncomputable def L04_R0 (a b : Int) (ms : List Int) (lo hi : Int) : Loc := [(Str.ofString "one", V.d (D.tup [D.int (a), D.int (b)])), (Str.ofString "marks", V.d (D.list (ms.map D.int))), (Str.ofString "low", V.d (D.int (lo))), (Str.ofString "high", V.d (D.int (hi)))]
noncomputable def L04_R (a b : Int) (ms : List Int) (lo hi : Int) (m : V) : Loc := [(Str.ofString "one", V.d (D.tup [D.int (a), D.int (b)])), (Str.ofString "marks", V.d (D.list (ms.map D.int))), (Str.ofString "low", V.d (D.int (lo))), (Str.ofString "high", V.d (D.int (hi))), (Str.ofString "mark", m)]
theorem L04_rs2T (d : Nat) (a b : Int) (ms : List Int) (lo hi m : Int)  (h1 : m ≤ a) : evSs (gen B04 H04 (d) (Str.ofString "rounded")) (forBody (stAt B04 0 2)) [(Str.ofString "one", V.d (D.tup [D.int (a), D.int (b)])), (Str.ofString "marks", V.d (D.list (ms.map D.int))), (Str.ofString "low", V.d (D.int (lo))), (Str.ofString "high", V.d (D.int (hi))), (Str.ofString "mark", V.d (D.int (m)))] ([]) = some (Fl.next, [(Str.ofString "one", V.d (D.tup [D.int (a), D.int (b)])), (Str.ofString "marks", V.d (D.list (ms.map D.int))), (Str.ofString "low", V.d (D.int (m))), (Str.ofString "high", V.d (D.int (hi))), (Str.ofString "mark", V.d (D.int (m)))], []) :=
  pathS (P := (some (decide (m ≤ a)) = some true) ∧ ((Fl.next, [(Str.ofString "one", V.d (D.tup [D.int (a), D.int (b)])), (Str.ofString "marks", V.d (D.list (ms.map D.int))), (Str.ofString "low", V.d (D.int (m))), (Str.ofString "high", V.d (D.int (hi))), (Str.ofString "mark", V.d (D.int (m)))], []) : Fl × Loc × St) = (Fl.next, [(Str.ofString "one", V.d (D.tup [D.int (a), D.int (b)])), (Str.ofString "marks", V.d (D.list (ms.map D.int))), (Str.ofString "low", V.d (D.int (m))), (Str.ofString "high", V.d (D.int (hi))), (Str.ofString "mark", V.d (D.int (m)))], [])) [(2, Tell.b true)] (by kernel_rfl) ⟨dT h1, rfl⟩
theorem L04_rs2F (d : Nat) (a b : Int) (ms : List Int) (lo hi m : Int)  (h1 : ¬ (m ≤ a)) : evSs (gen B04 H04 (d) (Str.ofString "rounded")) (forBody (stAt B04 0 2)) [(Str.ofString "one", V.d (D.tup [D.int (a), D.int (b)])), (Str.ofString "marks", V.d (D.list (ms.map D.int))), (Str.ofString "low", V.d (D.int (lo))), (Str.ofString "high", V.d (D.int (hi))), (Str.ofString "mark", V.d (D.int (m)))] ([]) = some (Fl.next, [(Str.ofString "one", V.d (D.tup [D.int (a), D.int (b)])), (Str.ofString "marks", V.d (D.list (ms.map D.int))), (Str.ofString "low", V.d (D.int (lo))), (Str.ofString "high", V.d (D.int (hi))), (Str.ofString "mark", V.d (D.int (m)))], []) :=
  pathS (P := (some (decide (m ≤ a)) = some false) ∧ ((Fl.next, [(Str.ofString "one", V.d (D.tup [D.int (a), D.int (b)])), (Str.ofString "marks", V.d (D.list (ms.map D.int))), (Str.ofString "low", V.d (D.int (lo))), (Str.ofString "high", V.d (D.int (hi))), (Str.ofString "mark", V.d (D.int (m)))], []) : Fl × Loc × St) = (Fl.next, [(Str.ofString "one", V.d (D.tup [D.int (a), D.int (b)])), (Str.ofString "marks", V.d (D.list (ms.map D.int))), (Str.ofString "low", V.d (D.int (lo))), (Str.ofString "high", V.d (D.int (hi))), (Str.ofString "mark", V.d (D.int (m)))], [])) [(2, Tell.b false)] (by kernel_rfl) ⟨dF h1, rfl⟩
theorem L04_rs3T (d : Nat) (a b : Int) (ms : List Int) (lo hi m : Int)  (h1 : m ≥ b) : evSs (gen B04 H04 (d) (Str.ofString "rounded")) (forBody (stAt B04 0 3)) [(Str.ofString "one", V.d (D.tup [D.int (a), D.int (b)])), (Str.ofString "marks", V.d (D.list (ms.map D.int))), (Str.ofString "low", V.d (D.int (lo))), (Str.ofString "high", V.d (D.int (hi))), (Str.ofString "mark", V.d (D.int (m)))] ([]) = some (Fl.next, [(Str.ofString "one", V.d (D.tup [D.int (a), D.int (b)])), (Str.ofString "marks", V.d (D.list (ms.map D.int))), (Str.ofString "low", V.d (D.int (lo))), (Str.ofString "high", V.d (D.int (m))), (Str.ofString "mark", V.d (D.int (m)))], []) :=
  pathS (P := (some (decide (m ≥ b)) = some true) ∧ ((Fl.next, [(Str.ofString "one", V.d (D.tup [D.int (a), D.int (b)])), (Str.ofString "marks", V.d (D.list (ms.map D.int))), (Str.ofString "low", V.d (D.int (lo))), (Str.ofString "high", V.d (D.int (m))), (Str.ofString "mark", V.d (D.int (m)))], []) : Fl × Loc × St) = (Fl.next, [(Str.ofString "one", V.d (D.tup [D.int (a), D.int (b)])), (Str.ofString "marks", V.d (D.list (ms.map D.int))), (Str.ofString "low", V.d (D.int (lo))), (Str.ofString "high", V.d (D.int (m))), (Str.ofString "mark", V.d (D.int (m)))], [])) [(2, Tell.b true)] (by kernel_rfl) ⟨dT h1, rfl⟩
theorem L04_rs3F (d : Nat) (a b : Int) (ms : List Int) (lo hi m : Int)  (h1 : ¬ (m ≥ b)) : evSs (gen B04 H04 (d) (Str.ofString "rounded")) (forBody (stAt B04 0 3)) [(Str.ofString "one", V.d (D.tup [D.int (a), D.int (b)])), (Str.ofString "marks", V.d (D.list (ms.map D.int))), (Str.ofString "low", V.d (D.int (lo))), (Str.ofString "high", V.d (D.int (hi))), (Str.ofString "mark", V.d (D.int (m)))] ([]) = some (Fl.next, [(Str.ofString "one", V.d (D.tup [D.int (a), D.int (b)])), (Str.ofString "marks", V.d (D.list (ms.map D.int))), (Str.ofString "low", V.d (D.int (lo))), (Str.ofString "high", V.d (D.int (hi))), (Str.ofString "mark", V.d (D.int (m)))], []) :=
  pathS (P := (some (decide (m ≥ b)) = some false) ∧ ((Fl.next, [(Str.ofString "one", V.d (D.tup [D.int (a), D.int (b)])), (Str.ofString "marks", V.d (D.list (ms.map D.int))), (Str.ofString "low", V.d (D.int (lo))), (Str.ofString "high", V.d (D.int (hi))), (Str.ofString "mark", V.d (D.int (m)))], []) : Fl × Loc × St) = (Fl.next, [(Str.ofString "one", V.d (D.tup [D.int (a), D.int (b)])), (Str.ofString "marks", V.d (D.list (ms.map D.int))), (Str.ofString "low", V.d (D.int (lo))), (Str.ofString "high", V.d (D.int (hi))), (Str.ofString "mark", V.d (D.int (m)))], [])) [(2, Tell.b false)] (by kernel_rfl) ⟨dF h1, rfl⟩
theorem L04_rs2 (d : Nat) (a b : Int) (ms : List Int) (lo hi m : Int) : evSs (gen B04 H04 (d) (Str.ofString "rounded")) (forBody (stAt B04 0 2)) (L04_R a b ms lo hi (.d (.int m))) [] = some (.next, L04_R a b ms (lowF a lo m) hi (.d (.int m)), []) := by
  by_cases h : m ≤ a
  · have e : lowF a lo m = m := if_pos h
    rw [e]; exact L04_rs2T d a b ms lo hi m h
  · have e : lowF a lo m = lo := if_neg h
    rw [e]; exact L04_rs2F d a b ms lo hi m h
theorem L04_rs3 (d : Nat) (a b : Int) (ms : List Int) (lo hi m : Int) : evSs (gen B04 H04 (d) (Str.ofString "rounded")) (forBody (stAt B04 0 3)) (L04_R a b ms lo hi (.d (.int m))) [] = some (.next, L04_R a b ms lo (hiF b hi m) (.d (.int m)), []) := by
  by_cases h : m ≥ b
  · have e : hiF b hi m = m := if_pos h
    rw [e]; exact L04_rs3T d a b ms lo hi m h
  · have e : hiF b hi m = hi := if_neg h
    rw [e]; exact L04_rs3F d a b ms lo hi m h
theorem L04_rl2 (d : Nat) (a b : Int) (ms : List Int) (lo hi : Int) (ρ0 : Loc) (h0 : ∀ v, setV (Str.ofString "mark") v ρ0 = L04_R a b ms lo hi v) (hy : getV (Str.ofString "marks") ρ0 = some (.d (.list (ms.map D.int)))) (hz : ms.length < 100000) : ∃ ρ', evS (gen B04 H04 (d) (Str.ofString "rounded")) (stAt B04 0 2) ρ0 [] = some (.next, ρ', []) ∧ ((ms = [] ∧ ρ' = ρ0) ∨ (ms ≠ [] ∧ ∃ m, ρ' = L04_R a b ms (ms.foldl (lowF a) lo) hi m)) := by
  have hs : ∀ p q u v, setV (Str.ofString "mark") v (L04_R a b ms p q u) = L04_R a b ms p q v := fun p q u v => by kernel_rfl
  refine Exists.elim (loop_inv (f := fun v ρ σ => evSs (gen B04 H04 (d) (Str.ofString "rounded")) (forBody (stAt B04 0 2)) (setV (Str.ofString "mark") v ρ) σ) (Inv := fun k ρ σ => σ = [] ∧ ((k = 0 ∧ ρ = ρ0) ∨ (0 < k ∧ ∃ m, ρ = L04_R a b ms ((ms.take k).foldl (lowF a) lo) hi m))) (r := (ms.map D.int).map V.d) (i := 0) (ρ := ρ0) (σ := []) ⟨rfl, .inl ⟨rfl, rfl⟩⟩ ?_) fun ρ' q => Exists.elim q fun σ' q => ?_
  case refine_2 =>
    obtain ⟨e, rfl, h⟩ := q
    refine ⟨ρ', for_list hy (by first | exact e | (rw [← List.map_reverse]; exact e)), ?_⟩
    rw [List.length_map, List.length_map, Nat.zero_add] at h
    rcases h with ⟨h1, h2⟩ | ⟨h1, m, h2⟩
    · refine .inl ⟨?_, h2⟩
      have := List.length_eq_zero_iff.mp h1
      first | exact this | exact List.reverse_eq_nil_iff.mp this
    · refine .inr ⟨fun q => ?_, m, ?_⟩
      · subst q; exact absurd h1 (by simp)
      · rw [List.take_length] at h2; exact h2
  case refine_1 =>
    intro k u ρ σ hk hi'
    rw [Nat.zero_add] at hi' ⊢
    obtain ⟨rfl, hi'⟩ := hi'
    rw [List.getElem?_map, List.getElem?_map, Option.map_map, Option.map_eq_some_iff] at hk
    obtain ⟨x, hx, rfl⟩ := hk
    have ht : ms.take (k + 1) = ms.take k ++ [x] := by rw [List.take_add_one, hx]; rfl
    rcases hi' with ⟨rfl, rfl⟩ | ⟨hp, m, rfl⟩
    · refine ⟨_, [], by show evSs _ _ (setV _ (V.d (D.int x)) _) [] = _; rw [h0]; exact L04_rs2 d a b ms lo hi x, rfl, .inr ⟨Nat.succ_pos _, .d (.int x), ?_⟩⟩
      rw [ht]; rfl
    · refine ⟨_, [], by show evSs _ _ (setV _ (V.d (D.int x)) _) [] = _; rw [hs]; exact L04_rs2 d a b ms _ _ x, rfl, .inr ⟨Nat.succ_pos _, .d (.int x), ?_⟩⟩
      rw [ht, List.foldl_append]; rfl
theorem L04_rl3 (d : Nat) (a b : Int) (ms : List Int) (lo hi : Int) (ρ0 : Loc) (h0 : ∀ v, setV (Str.ofString "mark") v ρ0 = L04_R a b ms lo hi v) (hy : getV (Str.ofString "marks") ρ0 = some (.d (.list (ms.map D.int)))) (hz : ms.length < 100000) : ∃ ρ', evS (gen B04 H04 (d) (Str.ofString "rounded")) (stAt B04 0 3) ρ0 [] = some (.next, ρ', []) ∧ ((ms = [] ∧ ρ' = ρ0) ∨ (ms ≠ [] ∧ ∃ m, ρ' = L04_R a b ms lo (ms.reverse.foldl (hiF b) hi) m)) := by
  have hs : ∀ p q u v, setV (Str.ofString "mark") v (L04_R a b ms p q u) = L04_R a b ms p q v := fun p q u v => by kernel_rfl
  refine Exists.elim (loop_inv (f := fun v ρ σ => evSs (gen B04 H04 (d) (Str.ofString "rounded")) (forBody (stAt B04 0 3)) (setV (Str.ofString "mark") v ρ) σ) (Inv := fun k ρ σ => σ = [] ∧ ((k = 0 ∧ ρ = ρ0) ∨ (0 < k ∧ ∃ m, ρ = L04_R a b ms lo ((ms.reverse.take k).foldl (hiF b) hi) m))) (r := (ms.reverse.map D.int).map V.d) (i := 0) (ρ := ρ0) (σ := []) ⟨rfl, .inl ⟨rfl, rfl⟩⟩ ?_) fun ρ' q => Exists.elim q fun σ' q => ?_
  case refine_2 =>
    obtain ⟨e, rfl, h⟩ := q
    refine ⟨ρ', for_rev rfl hy (by simpa using hz) (by first | exact e | (rw [← List.map_reverse]; exact e)), ?_⟩
    rw [List.length_map, List.length_map, Nat.zero_add] at h
    rcases h with ⟨h1, h2⟩ | ⟨h1, m, h2⟩
    · refine .inl ⟨?_, h2⟩
      have := List.length_eq_zero_iff.mp h1
      first | exact this | exact List.reverse_eq_nil_iff.mp this
    · refine .inr ⟨fun q => ?_, m, ?_⟩
      · subst q; exact absurd h1 (by simp)
      · rw [List.take_length] at h2; exact h2
  case refine_1 =>
    intro k u ρ σ hk hi'
    rw [Nat.zero_add] at hi' ⊢
    obtain ⟨rfl, hi'⟩ := hi'
    rw [List.getElem?_map, List.getElem?_map, Option.map_map, Option.map_eq_some_iff] at hk
    obtain ⟨x, hx, rfl⟩ := hk
    have ht : ms.reverse.take (k + 1) = ms.reverse.take k ++ [x] := by rw [List.take_add_one, hx]; rfl
    rcases hi' with ⟨rfl, rfl⟩ | ⟨hp, m, rfl⟩
    · refine ⟨_, [], by show evSs _ _ (setV _ (V.d (D.int x)) _) [] = _; rw [h0]; exact L04_rs3 d a b ms lo hi x, rfl, .inr ⟨Nat.succ_pos _, .d (.int x), ?_⟩⟩
      rw [ht]; rfl
    · refine ⟨_, [], by show evSs _ _ (setV _ (V.d (D.int x)) _) [] = _; rw [hs]; exact L04_rs3 d a b ms _ _ x, rfl, .inr ⟨Nat.succ_pos _, .d (.int x), ?_⟩⟩
      rw [ht, List.foldl_append]; rfl
theorem L04_rounded_e_0 (d : Nat) (a b : Int) (ms : List Int)  (h1 : evS (gen B04 H04 (d) (Str.ofString "rounded")) (stAt B04 0 2) [(Str.ofString "one", V.d (D.tup [D.int (a), D.int (b)])), (Str.ofString "marks", V.d (D.list (ms.map D.int))), (Str.ofString "low", V.d (D.int (-1000000))), (Str.ofString "high", V.d (D.int (1000000)))] [] = some (Fl.next, [(Str.ofString "one", V.d (D.tup [D.int (a), D.int (b)])), (Str.ofString "marks", V.d (D.list (ms.map D.int))), (Str.ofString "low", V.d (D.int (-1000000))), (Str.ofString "high", V.d (D.int (1000000)))], [])) (h2 : evS (gen B04 H04 (d) (Str.ofString "rounded")) (stAt B04 0 3) [(Str.ofString "one", V.d (D.tup [D.int (a), D.int (b)])), (Str.ofString "marks", V.d (D.list (ms.map D.int))), (Str.ofString "low", V.d (D.int (-1000000))), (Str.ofString "high", V.d (D.int (1000000)))] [] = some (Fl.next, [(Str.ofString "one", V.d (D.tup [D.int (a), D.int (b)])), (Str.ofString "marks", V.d (D.list (ms.map D.int))), (Str.ofString "low", V.d (D.int (-1000000))), (Str.ofString "high", V.d (D.int (1000000)))], [])) (σ : St) : callN B04 H04 (d + 1) (Str.ofString "rounded") [V.d (D.tup [D.int (a), D.int (b)]), V.d (D.list (ms.map D.int))] σ = some (V.d (D.tup [D.int (-1000000), D.int (1000000)]), σ) :=
  path (ds := [D.tup [D.int (a), D.int (b)], D.list (ms.map D.int)]) (i := 0) (x := D.tup [D.int (-1000000), D.int (1000000)]) (P := (evS (gen B04 H04 (d) (Str.ofString "rounded")) (stAt B04 0 2) [(Str.ofString "one", V.d (D.tup [D.int (a), D.int (b)])), (Str.ofString "marks", V.d (D.list (ms.map D.int))), (Str.ofString "low", V.d (D.int (-1000000))), (Str.ofString "high", V.d (D.int (1000000)))] [] = some (Fl.next, [(Str.ofString "one", V.d (D.tup [D.int (a), D.int (b)])), (Str.ofString "marks", V.d (D.list (ms.map D.int))), (Str.ofString "low", V.d (D.int (-1000000))), (Str.ofString "high", V.d (D.int (1000000)))], [])) ∧ (evS (gen B04 H04 (d) (Str.ofString "rounded")) (stAt B04 0 3) [(Str.ofString "one", V.d (D.tup [D.int (a), D.int (b)])), (Str.ofString "marks", V.d (D.list (ms.map D.int))), (Str.ofString "low", V.d (D.int (-1000000))), (Str.ofString "high", V.d (D.int (1000000)))] [] = some (Fl.next, [(Str.ofString "one", V.d (D.tup [D.int (a), D.int (b)])), (Str.ofString "marks", V.d (D.list (ms.map D.int))), (Str.ofString "low", V.d (D.int (-1000000))), (Str.ofString "high", V.d (D.int (1000000)))], [])) ∧ some (D.tup [D.int (-1000000), D.int (1000000)]) = some (D.tup [D.int (-1000000), D.int (1000000)])) [(0, Tell.f Fl.next [(Str.ofString "one", V.d (D.tup [D.int (a), D.int (b)])), (Str.ofString "marks", V.d (D.list (ms.map D.int))), (Str.ofString "low", V.d (D.int (-1000000))), (Str.ofString "high", V.d (D.int (1000000)))] []), (1, Tell.f Fl.next [(Str.ofString "one", V.d (D.tup [D.int (a), D.int (b)])), (Str.ofString "marks", V.d (D.list (ms.map D.int))), (Str.ofString "low", V.d (D.int (-1000000))), (Str.ofString "high", V.d (D.int (1000000)))] [])] L04_f_rounded (L04_imp _) (by kernel_rfl) ⟨h1, h2, rfl⟩ σ
theorem L04_rounded_n_0 (d : Nat) (a b : Int) (ms : List Int) (lo hi : Int) (m1 m2 : V)  (h1 : evS (gen B04 H04 (d) (Str.ofString "rounded")) (stAt B04 0 2) [(Str.ofString "one", V.d (D.tup [D.int (a), D.int (b)])), (Str.ofString "marks", V.d (D.list (ms.map D.int))), (Str.ofString "low", V.d (D.int (-1000000))), (Str.ofString "high", V.d (D.int (1000000)))] [] = some (Fl.next, [(Str.ofString "one", V.d (D.tup [D.int (a), D.int (b)])), (Str.ofString "marks", V.d (D.list (ms.map D.int))), (Str.ofString "low", V.d (D.int (lo))), (Str.ofString "high", V.d (D.int (1000000))), (Str.ofString "mark", m1)], [])) (h2 : evS (gen B04 H04 (d) (Str.ofString "rounded")) (stAt B04 0 3) [(Str.ofString "one", V.d (D.tup [D.int (a), D.int (b)])), (Str.ofString "marks", V.d (D.list (ms.map D.int))), (Str.ofString "low", V.d (D.int (lo))), (Str.ofString "high", V.d (D.int (1000000))), (Str.ofString "mark", m1)] [] = some (Fl.next, [(Str.ofString "one", V.d (D.tup [D.int (a), D.int (b)])), (Str.ofString "marks", V.d (D.list (ms.map D.int))), (Str.ofString "low", V.d (D.int (lo))), (Str.ofString "high", V.d (D.int (hi))), (Str.ofString "mark", m2)], [])) (σ : St) : callN B04 H04 (d + 1) (Str.ofString "rounded") [V.d (D.tup [D.int (a), D.int (b)]), V.d (D.list (ms.map D.int))] σ = some (V.d (D.tup [D.int (lo), D.int (hi)]), σ) :=
  path (ds := [D.tup [D.int (a), D.int (b)], D.list (ms.map D.int)]) (i := 0) (x := D.tup [D.int (lo), D.int (hi)]) (P := (evS (gen B04 H04 (d) (Str.ofString "rounded")) (stAt B04 0 2) [(Str.ofString "one", V.d (D.tup [D.int (a), D.int (b)])), (Str.ofString "marks", V.d (D.list (ms.map D.int))), (Str.ofString "low", V.d (D.int (-1000000))), (Str.ofString "high", V.d (D.int (1000000)))] [] = some (Fl.next, [(Str.ofString "one", V.d (D.tup [D.int (a), D.int (b)])), (Str.ofString "marks", V.d (D.list (ms.map D.int))), (Str.ofString "low", V.d (D.int (lo))), (Str.ofString "high", V.d (D.int (1000000))), (Str.ofString "mark", m1)], [])) ∧ (evS (gen B04 H04 (d) (Str.ofString "rounded")) (stAt B04 0 3) [(Str.ofString "one", V.d (D.tup [D.int (a), D.int (b)])), (Str.ofString "marks", V.d (D.list (ms.map D.int))), (Str.ofString "low", V.d (D.int (lo))), (Str.ofString "high", V.d (D.int (1000000))), (Str.ofString "mark", m1)] [] = some (Fl.next, [(Str.ofString "one", V.d (D.tup [D.int (a), D.int (b)])), (Str.ofString "marks", V.d (D.list (ms.map D.int))), (Str.ofString "low", V.d (D.int (lo))), (Str.ofString "high", V.d (D.int (hi))), (Str.ofString "mark", m2)], [])) ∧ some (D.tup [D.int (lo), D.int (hi)]) = some (D.tup [D.int (lo), D.int (hi)])) [(0, Tell.f Fl.next [(Str.ofString "one", V.d (D.tup [D.int (a), D.int (b)])), (Str.ofString "marks", V.d (D.list (ms.map D.int))), (Str.ofString "low", V.d (D.int (lo))), (Str.ofString "high", V.d (D.int (1000000))), (Str.ofString "mark", m1)] []), (1, Tell.f Fl.next [(Str.ofString "one", V.d (D.tup [D.int (a), D.int (b)])), (Str.ofString "marks", V.d (D.list (ms.map D.int))), (Str.ofString "low", V.d (D.int (lo))), (Str.ofString "high", V.d (D.int (hi))), (Str.ofString "mark", m2)] [])] L04_f_rounded (L04_imp _) (by kernel_rfl) ⟨h1, h2, rfl⟩ σ
theorem L04_rounded (d : Nat) (a b : Int) (ms : List Int) (hz : ms.length < 100000) (σ : St) : callN B04 H04 (d + 1) (Str.ofString "rounded") [.d (.tup [.int a, .int b]), .d (.list (ms.map .int))] σ = some (.d (.tup [.int (lowR a ms), .int (hiR b ms)]), σ) := by
  obtain ⟨ρ1, e1, h1⟩ := L04_rl2 d a b ms (-1000000) 1000000 (L04_R0 a b ms (-1000000) 1000000) (fun v => by kernel_rfl) (by kernel_rfl) hz
  rcases h1 with ⟨hm, rfl⟩ | ⟨hm, m1, rfl⟩
  · obtain ⟨ρ2, e2, h2⟩ := L04_rl3 d a b ms (-1000000) 1000000 (L04_R0 a b ms (-1000000) 1000000) (fun v => by kernel_rfl) (by kernel_rfl) hz
    rcases h2 with ⟨_, rfl⟩ | ⟨hm', _⟩
    · have r1 : lowR a ms = -1000000 := by rw [hm]; rfl
      have r2 : hiR b ms = 1000000 := by rw [hm]; rfl
      rw [r1, r2]
      exact L04_rounded_e_0 d a b ms e1 e2 σ
    · exact absurd hm hm'
  · obtain ⟨ρ2, e2, h2⟩ := L04_rl3 d a b ms (lowR a ms) 1000000 (L04_R a b ms (lowR a ms) 1000000 m1) (fun v => by kernel_rfl) (by kernel_rfl) hz
    rcases h2 with ⟨hm', _⟩ | ⟨_, m2, rfl⟩
    · exact absurd hm' hm
    · exact L04_rounded_n_0 d a b ms (lowR a ms) (hiR b ms) m1 m2 e1 e2 σ
noncomputable def L04_M0 (ns : List Int) (a b : Int) : Loc := [(Str.ofString "_law_script", V.d (D.list (ns.map D.int))), (Str.ofString "_law_one", V.d (D.tup [D.int (a), D.int (b)])), (Str.ofString "_law_marks_here", V.obj 0)]
noncomputable def L04_M1 (ns : List Int) (a b : Int) (k : V) : Loc := [(Str.ofString "_law_script", V.d (D.list (ns.map D.int))), (Str.ofString "_law_one", V.d (D.tup [D.int (a), D.int (b)])), (Str.ofString "_law_marks_here", V.obj 0), (Str.ofString "_law_k", k)]
noncomputable def L04_M (ns : List Int) (a b : Int) (k xs mk : V) : Loc := [(Str.ofString "_law_script", V.d (D.list (ns.map D.int))), (Str.ofString "_law_one", V.d (D.tup [D.int (a), D.int (b)])), (Str.ofString "_law_marks_here", V.obj 0), (Str.ofString "_law_k", k), (Str.ofString "_law_xs", xs), (Str.ofString "_law_mark", mk)]
theorem L04_msATTT (d : Nat) (ns : List Int) (a b k lo x0 x1 : Int) (vs : List Int) (w1 : Int) (w2 : Int) (h1 : idxL (ns.map D.int) (k) = some (D.int (w1))) (hc1 : ∀ σ, callN B04 H04 (d + 1) (Str.ofString "_law_stream") [V.d (D.int (w1)), V.d (D.int (2))] σ = some (V.d (D.list [D.int (x0), D.int (x1)]), σ)) (hc2 : ∀ σ, callN B04 H04 (d + 1) (Str.ofString "_law_number") [V.d (D.int (x0))] σ = some (V.d (D.int (lo)), σ)) (h2 : (k % 3) = 0) (h3 : idxL [D.int (a), D.int (b)] (x1 % 2) = some (D.int (w2))) (h4 : (-1000000) ≤ ((w2 + ((x1 / 2) % 3)) - 1)) (h5 : ((w2 + ((x1 / 2) % 3)) - 1) ≤ 1000000) (h6 : methV [(false, MO.list (((vs).map D.int).map V.d))] .append (V.obj 0) [V.d (D.int ((w2 + ((x1 / 2) % 3)) - 1))] = some (V.d D.none, [(false, MO.list (((vs ++ [(w2 + ((x1 / 2) % 3)) - 1]).map D.int).map V.d))])) : evSs (gen B04 H04 (d + 1) (Str.ofString "_law_marks")) (forBody (stAt B04 8 1)) [(Str.ofString "_law_script", V.d (D.list (ns.map D.int))), (Str.ofString "_law_one", V.d (D.tup [D.int (a), D.int (b)])), (Str.ofString "_law_marks_here", V.obj 0), (Str.ofString "_law_k", V.d (D.int (k)))] ([(false, MO.list (((vs).map D.int).map V.d))]) = some (Fl.next, [(Str.ofString "_law_script", V.d (D.list (ns.map D.int))), (Str.ofString "_law_one", V.d (D.tup [D.int (a), D.int (b)])), (Str.ofString "_law_marks_here", V.obj 0), (Str.ofString "_law_k", V.d (D.int (k))), (Str.ofString "_law_xs", V.d (D.list [D.int (x0), D.int (x1)])), (Str.ofString "_law_mark", V.d (D.int ((w2 + ((x1 / 2) % 3)) - 1)))], [(false, MO.list (((vs ++ [(w2 + ((x1 / 2) % 3)) - 1]).map D.int).map V.d))]) :=
  pathS (P := (getItemV [(false, MO.list (((vs).map D.int).map V.d))] (V.d (D.list (ns.map D.int))) (V.d (D.int (k))) = some (V.d (D.int (w1)))) ∧ (callN B04 H04 (d + 1) (Str.ofString "_law_stream") [V.d (D.int (w1)), V.d (D.int (2))] [(false, MO.list (((vs).map D.int).map V.d))] = some (V.d (D.list [D.int (x0), D.int (x1)]), [(false, MO.list (((vs).map D.int).map V.d))])) ∧ (callN B04 H04 (d + 1) (Str.ofString "_law_number") [V.d (D.int (x0))] [(false, MO.list (((vs).map D.int).map V.d))] = some (V.d (D.int (lo)), [(false, MO.list (((vs).map D.int).map V.d))])) ∧ (some (decide ((k % 3) = 0)) = some true) ∧ (getItemV [(false, MO.list (((vs).map D.int).map V.d))] (V.d (D.tup [D.int (a), D.int (b)])) (V.d (D.int (x1 % 2))) = some (V.d (D.int (w2)))) ∧ (some (decide ((-1000000) ≤ ((w2 + ((x1 / 2) % 3)) - 1))) = some true) ∧ (some (decide (((w2 + ((x1 / 2) % 3)) - 1) ≤ 1000000)) = some true) ∧ (methV [(false, MO.list (((vs).map D.int).map V.d))] .append (V.obj 0) [V.d (D.int ((w2 + ((x1 / 2) % 3)) - 1))] = some (V.d D.none, [(false, MO.list (((vs ++ [(w2 + ((x1 / 2) % 3)) - 1]).map D.int).map V.d))])) ∧ ((Fl.next, [(Str.ofString "_law_script", V.d (D.list (ns.map D.int))), (Str.ofString "_law_one", V.d (D.tup [D.int (a), D.int (b)])), (Str.ofString "_law_marks_here", V.obj 0), (Str.ofString "_law_k", V.d (D.int (k))), (Str.ofString "_law_xs", V.d (D.list [D.int (x0), D.int (x1)])), (Str.ofString "_law_mark", V.d (D.int ((w2 + ((x1 / 2) % 3)) - 1)))], [(false, MO.list (((vs ++ [(w2 + ((x1 / 2) % 3)) - 1]).map D.int).map V.d))]) : Fl × Loc × St) = (Fl.next, [(Str.ofString "_law_script", V.d (D.list (ns.map D.int))), (Str.ofString "_law_one", V.d (D.tup [D.int (a), D.int (b)])), (Str.ofString "_law_marks_here", V.obj 0), (Str.ofString "_law_k", V.d (D.int (k))), (Str.ofString "_law_xs", V.d (D.list [D.int (x0), D.int (x1)])), (Str.ofString "_law_mark", V.d (D.int ((w2 + ((x1 / 2) % 3)) - 1)))], [(false, MO.list (((vs ++ [(w2 + ((x1 / 2) % 3)) - 1]).map D.int).map V.d))])) [(0, Tell.v (V.d (D.int (w1)))), (1, Tell.w (V.d (D.list [D.int (x0), D.int (x1)])) [(false, MO.list (((vs).map D.int).map V.d))]), (3, Tell.w (V.d (D.int (lo))) [(false, MO.list (((vs).map D.int).map V.d))]), (6, Tell.b true), (9, Tell.v (V.d (D.int (w2)))), (15, Tell.b true), (17, Tell.b true), (18, Tell.w (V.d D.none) [(false, MO.list (((vs ++ [(w2 + ((x1 / 2) % 3)) - 1]).map D.int).map V.d))])] (by kernel_rfl) ⟨idx_list h1, hc1 _, hc2 _, dT h2, idx_tup h3, dT h4, dT h5, h6, rfl⟩
theorem L04_msATTF (d : Nat) (ns : List Int) (a b k lo x0 x1 : Int) (vs : List Int) (w1 : Int) (w2 : Int) (h1 : idxL (ns.map D.int) (k) = some (D.int (w1))) (hc1 : ∀ σ, callN B04 H04 (d + 1) (Str.ofString "_law_stream") [V.d (D.int (w1)), V.d (D.int (2))] σ = some (V.d (D.list [D.int (x0), D.int (x1)]), σ)) (hc2 : ∀ σ, callN B04 H04 (d + 1) (Str.ofString "_law_number") [V.d (D.int (x0))] σ = some (V.d (D.int (lo)), σ)) (h2 : (k % 3) = 0) (h3 : idxL [D.int (a), D.int (b)] (x1 % 2) = some (D.int (w2))) (h4 : (-1000000) ≤ ((w2 + ((x1 / 2) % 3)) - 1)) (h5 : ¬ (((w2 + ((x1 / 2) % 3)) - 1) ≤ 1000000)) : evSs (gen B04 H04 (d + 1) (Str.ofString "_law_marks")) (forBody (stAt B04 8 1)) [(Str.ofString "_law_script", V.d (D.list (ns.map D.int))), (Str.ofString "_law_one", V.d (D.tup [D.int (a), D.int (b)])), (Str.ofString "_law_marks_here", V.obj 0), (Str.ofString "_law_k", V.d (D.int (k)))] ([(false, MO.list (((vs).map D.int).map V.d))]) = some (Fl.next, [(Str.ofString "_law_script", V.d (D.list (ns.map D.int))), (Str.ofString "_law_one", V.d (D.tup [D.int (a), D.int (b)])), (Str.ofString "_law_marks_here", V.obj 0), (Str.ofString "_law_k", V.d (D.int (k))), (Str.ofString "_law_xs", V.d (D.list [D.int (x0), D.int (x1)])), (Str.ofString "_law_mark", V.d (D.int ((w2 + ((x1 / 2) % 3)) - 1)))], [(false, MO.list (((vs).map D.int).map V.d))]) :=
  pathS (P := (getItemV [(false, MO.list (((vs).map D.int).map V.d))] (V.d (D.list (ns.map D.int))) (V.d (D.int (k))) = some (V.d (D.int (w1)))) ∧ (callN B04 H04 (d + 1) (Str.ofString "_law_stream") [V.d (D.int (w1)), V.d (D.int (2))] [(false, MO.list (((vs).map D.int).map V.d))] = some (V.d (D.list [D.int (x0), D.int (x1)]), [(false, MO.list (((vs).map D.int).map V.d))])) ∧ (callN B04 H04 (d + 1) (Str.ofString "_law_number") [V.d (D.int (x0))] [(false, MO.list (((vs).map D.int).map V.d))] = some (V.d (D.int (lo)), [(false, MO.list (((vs).map D.int).map V.d))])) ∧ (some (decide ((k % 3) = 0)) = some true) ∧ (getItemV [(false, MO.list (((vs).map D.int).map V.d))] (V.d (D.tup [D.int (a), D.int (b)])) (V.d (D.int (x1 % 2))) = some (V.d (D.int (w2)))) ∧ (some (decide ((-1000000) ≤ ((w2 + ((x1 / 2) % 3)) - 1))) = some true) ∧ (some (decide (((w2 + ((x1 / 2) % 3)) - 1) ≤ 1000000)) = some false) ∧ ((Fl.next, [(Str.ofString "_law_script", V.d (D.list (ns.map D.int))), (Str.ofString "_law_one", V.d (D.tup [D.int (a), D.int (b)])), (Str.ofString "_law_marks_here", V.obj 0), (Str.ofString "_law_k", V.d (D.int (k))), (Str.ofString "_law_xs", V.d (D.list [D.int (x0), D.int (x1)])), (Str.ofString "_law_mark", V.d (D.int ((w2 + ((x1 / 2) % 3)) - 1)))], [(false, MO.list (((vs).map D.int).map V.d))]) : Fl × Loc × St) = (Fl.next, [(Str.ofString "_law_script", V.d (D.list (ns.map D.int))), (Str.ofString "_law_one", V.d (D.tup [D.int (a), D.int (b)])), (Str.ofString "_law_marks_here", V.obj 0), (Str.ofString "_law_k", V.d (D.int (k))), (Str.ofString "_law_xs", V.d (D.list [D.int (x0), D.int (x1)])), (Str.ofString "_law_mark", V.d (D.int ((w2 + ((x1 / 2) % 3)) - 1)))], [(false, MO.list (((vs).map D.int).map V.d))])) [(0, Tell.v (V.d (D.int (w1)))), (1, Tell.w (V.d (D.list [D.int (x0), D.int (x1)])) [(false, MO.list (((vs).map D.int).map V.d))]), (3, Tell.w (V.d (D.int (lo))) [(false, MO.list (((vs).map D.int).map V.d))]), (6, Tell.b true), (9, Tell.v (V.d (D.int (w2)))), (15, Tell.b true), (17, Tell.b false)] (by kernel_rfl) ⟨idx_list h1, hc1 _, hc2 _, dT h2, idx_tup h3, dT h4, dF h5, rfl⟩
theorem L04_msATF (d : Nat) (ns : List Int) (a b k lo x0 x1 : Int) (vs : List Int) (w1 : Int) (w2 : Int) (h1 : idxL (ns.map D.int) (k) = some (D.int (w1))) (hc1 : ∀ σ, callN B04 H04 (d + 1) (Str.ofString "_law_stream") [V.d (D.int (w1)), V.d (D.int (2))] σ = some (V.d (D.list [D.int (x0), D.int (x1)]), σ)) (hc2 : ∀ σ, callN B04 H04 (d + 1) (Str.ofString "_law_number") [V.d (D.int (x0))] σ = some (V.d (D.int (lo)), σ)) (h2 : (k % 3) = 0) (h3 : idxL [D.int (a), D.int (b)] (x1 % 2) = some (D.int (w2))) (h4 : ¬ ((-1000000) ≤ ((w2 + ((x1 / 2) % 3)) - 1))) : evSs (gen B04 H04 (d + 1) (Str.ofString "_law_marks")) (forBody (stAt B04 8 1)) [(Str.ofString "_law_script", V.d (D.list (ns.map D.int))), (Str.ofString "_law_one", V.d (D.tup [D.int (a), D.int (b)])), (Str.ofString "_law_marks_here", V.obj 0), (Str.ofString "_law_k", V.d (D.int (k)))] ([(false, MO.list (((vs).map D.int).map V.d))]) = some (Fl.next, [(Str.ofString "_law_script", V.d (D.list (ns.map D.int))), (Str.ofString "_law_one", V.d (D.tup [D.int (a), D.int (b)])), (Str.ofString "_law_marks_here", V.obj 0), (Str.ofString "_law_k", V.d (D.int (k))), (Str.ofString "_law_xs", V.d (D.list [D.int (x0), D.int (x1)])), (Str.ofString "_law_mark", V.d (D.int ((w2 + ((x1 / 2) % 3)) - 1)))], [(false, MO.list (((vs).map D.int).map V.d))]) :=
  pathS (P := (getItemV [(false, MO.list (((vs).map D.int).map V.d))] (V.d (D.list (ns.map D.int))) (V.d (D.int (k))) = some (V.d (D.int (w1)))) ∧ (callN B04 H04 (d + 1) (Str.ofString "_law_stream") [V.d (D.int (w1)), V.d (D.int (2))] [(false, MO.list (((vs).map D.int).map V.d))] = some (V.d (D.list [D.int (x0), D.int (x1)]), [(false, MO.list (((vs).map D.int).map V.d))])) ∧ (callN B04 H04 (d + 1) (Str.ofString "_law_number") [V.d (D.int (x0))] [(false, MO.list (((vs).map D.int).map V.d))] = some (V.d (D.int (lo)), [(false, MO.list (((vs).map D.int).map V.d))])) ∧ (some (decide ((k % 3) = 0)) = some true) ∧ (getItemV [(false, MO.list (((vs).map D.int).map V.d))] (V.d (D.tup [D.int (a), D.int (b)])) (V.d (D.int (x1 % 2))) = some (V.d (D.int (w2)))) ∧ (some (decide ((-1000000) ≤ ((w2 + ((x1 / 2) % 3)) - 1))) = some false) ∧ ((Fl.next, [(Str.ofString "_law_script", V.d (D.list (ns.map D.int))), (Str.ofString "_law_one", V.d (D.tup [D.int (a), D.int (b)])), (Str.ofString "_law_marks_here", V.obj 0), (Str.ofString "_law_k", V.d (D.int (k))), (Str.ofString "_law_xs", V.d (D.list [D.int (x0), D.int (x1)])), (Str.ofString "_law_mark", V.d (D.int ((w2 + ((x1 / 2) % 3)) - 1)))], [(false, MO.list (((vs).map D.int).map V.d))]) : Fl × Loc × St) = (Fl.next, [(Str.ofString "_law_script", V.d (D.list (ns.map D.int))), (Str.ofString "_law_one", V.d (D.tup [D.int (a), D.int (b)])), (Str.ofString "_law_marks_here", V.obj 0), (Str.ofString "_law_k", V.d (D.int (k))), (Str.ofString "_law_xs", V.d (D.list [D.int (x0), D.int (x1)])), (Str.ofString "_law_mark", V.d (D.int ((w2 + ((x1 / 2) % 3)) - 1)))], [(false, MO.list (((vs).map D.int).map V.d))])) [(0, Tell.v (V.d (D.int (w1)))), (1, Tell.w (V.d (D.list [D.int (x0), D.int (x1)])) [(false, MO.list (((vs).map D.int).map V.d))]), (3, Tell.w (V.d (D.int (lo))) [(false, MO.list (((vs).map D.int).map V.d))]), (6, Tell.b true), (9, Tell.v (V.d (D.int (w2)))), (15, Tell.b false)] (by kernel_rfl) ⟨idx_list h1, hc1 _, hc2 _, dT h2, idx_tup h3, dF h4, rfl⟩
theorem L04_msAFTT (d : Nat) (ns : List Int) (a b k lo x0 x1 : Int) (vs : List Int) (w1 : Int) (h1 : idxL (ns.map D.int) (k) = some (D.int (w1))) (hc1 : ∀ σ, callN B04 H04 (d + 1) (Str.ofString "_law_stream") [V.d (D.int (w1)), V.d (D.int (2))] σ = some (V.d (D.list [D.int (x0), D.int (x1)]), σ)) (hc2 : ∀ σ, callN B04 H04 (d + 1) (Str.ofString "_law_number") [V.d (D.int (x0))] σ = some (V.d (D.int (lo)), σ)) (h2 : ¬ ((k % 3) = 0)) (h3 : (-1000000) ≤ lo) (h4 : lo ≤ 1000000) (h5 : methV [(false, MO.list (((vs).map D.int).map V.d))] .append (V.obj 0) [V.d (D.int (lo))] = some (V.d D.none, [(false, MO.list (((vs ++ [lo]).map D.int).map V.d))])) : evSs (gen B04 H04 (d + 1) (Str.ofString "_law_marks")) (forBody (stAt B04 8 1)) [(Str.ofString "_law_script", V.d (D.list (ns.map D.int))), (Str.ofString "_law_one", V.d (D.tup [D.int (a), D.int (b)])), (Str.ofString "_law_marks_here", V.obj 0), (Str.ofString "_law_k", V.d (D.int (k)))] ([(false, MO.list (((vs).map D.int).map V.d))]) = some (Fl.next, [(Str.ofString "_law_script", V.d (D.list (ns.map D.int))), (Str.ofString "_law_one", V.d (D.tup [D.int (a), D.int (b)])), (Str.ofString "_law_marks_here", V.obj 0), (Str.ofString "_law_k", V.d (D.int (k))), (Str.ofString "_law_xs", V.d (D.list [D.int (x0), D.int (x1)])), (Str.ofString "_law_mark", V.d (D.int (lo)))], [(false, MO.list (((vs ++ [lo]).map D.int).map V.d))]) :=
  pathS (P := (getItemV [(false, MO.list (((vs).map D.int).map V.d))] (V.d (D.list (ns.map D.int))) (V.d (D.int (k))) = some (V.d (D.int (w1)))) ∧ (callN B04 H04 (d + 1) (Str.ofString "_law_stream") [V.d (D.int (w1)), V.d (D.int (2))] [(false, MO.list (((vs).map D.int).map V.d))] = some (V.d (D.list [D.int (x0), D.int (x1)]), [(false, MO.list (((vs).map D.int).map V.d))])) ∧ (callN B04 H04 (d + 1) (Str.ofString "_law_number") [V.d (D.int (x0))] [(false, MO.list (((vs).map D.int).map V.d))] = some (V.d (D.int (lo)), [(false, MO.list (((vs).map D.int).map V.d))])) ∧ (some (decide ((k % 3) = 0)) = some false) ∧ (some (decide ((-1000000) ≤ lo)) = some true) ∧ (some (decide (lo ≤ 1000000)) = some true) ∧ (methV [(false, MO.list (((vs).map D.int).map V.d))] .append (V.obj 0) [V.d (D.int (lo))] = some (V.d D.none, [(false, MO.list (((vs ++ [lo]).map D.int).map V.d))])) ∧ ((Fl.next, [(Str.ofString "_law_script", V.d (D.list (ns.map D.int))), (Str.ofString "_law_one", V.d (D.tup [D.int (a), D.int (b)])), (Str.ofString "_law_marks_here", V.obj 0), (Str.ofString "_law_k", V.d (D.int (k))), (Str.ofString "_law_xs", V.d (D.list [D.int (x0), D.int (x1)])), (Str.ofString "_law_mark", V.d (D.int (lo)))], [(false, MO.list (((vs ++ [lo]).map D.int).map V.d))]) : Fl × Loc × St) = (Fl.next, [(Str.ofString "_law_script", V.d (D.list (ns.map D.int))), (Str.ofString "_law_one", V.d (D.tup [D.int (a), D.int (b)])), (Str.ofString "_law_marks_here", V.obj 0), (Str.ofString "_law_k", V.d (D.int (k))), (Str.ofString "_law_xs", V.d (D.list [D.int (x0), D.int (x1)])), (Str.ofString "_law_mark", V.d (D.int (lo)))], [(false, MO.list (((vs ++ [lo]).map D.int).map V.d))])) [(0, Tell.v (V.d (D.int (w1)))), (1, Tell.w (V.d (D.list [D.int (x0), D.int (x1)])) [(false, MO.list (((vs).map D.int).map V.d))]), (3, Tell.w (V.d (D.int (lo))) [(false, MO.list (((vs).map D.int).map V.d))]), (6, Tell.b false), (7, Tell.b true), (9, Tell.b true), (10, Tell.w (V.d D.none) [(false, MO.list (((vs ++ [lo]).map D.int).map V.d))])] (by kernel_rfl) ⟨idx_list h1, hc1 _, hc2 _, dF h2, dT h3, dT h4, h5, rfl⟩
theorem L04_msBTTT (d : Nat) (ns : List Int) (a b k lo x0 x1 : Int) (vs : List Int) (ox om : V) (w1 : Int) (w2 : Int) (h1 : idxL (ns.map D.int) (k) = some (D.int (w1))) (hc1 : ∀ σ, callN B04 H04 (d + 1) (Str.ofString "_law_stream") [V.d (D.int (w1)), V.d (D.int (2))] σ = some (V.d (D.list [D.int (x0), D.int (x1)]), σ)) (hc2 : ∀ σ, callN B04 H04 (d + 1) (Str.ofString "_law_number") [V.d (D.int (x0))] σ = some (V.d (D.int (lo)), σ)) (h2 : (k % 3) = 0) (h3 : idxL [D.int (a), D.int (b)] (x1 % 2) = some (D.int (w2))) (h4 : (-1000000) ≤ ((w2 + ((x1 / 2) % 3)) - 1)) (h5 : ((w2 + ((x1 / 2) % 3)) - 1) ≤ 1000000) (h6 : methV [(false, MO.list (((vs).map D.int).map V.d))] .append (V.obj 0) [V.d (D.int ((w2 + ((x1 / 2) % 3)) - 1))] = some (V.d D.none, [(false, MO.list (((vs ++ [(w2 + ((x1 / 2) % 3)) - 1]).map D.int).map V.d))])) : evSs (gen B04 H04 (d + 1) (Str.ofString "_law_marks")) (forBody (stAt B04 8 1)) [(Str.ofString "_law_script", V.d (D.list (ns.map D.int))), (Str.ofString "_law_one", V.d (D.tup [D.int (a), D.int (b)])), (Str.ofString "_law_marks_here", V.obj 0), (Str.ofString "_law_k", V.d (D.int (k))), (Str.ofString "_law_xs", ox), (Str.ofString "_law_mark", om)] ([(false, MO.list (((vs).map D.int).map V.d))]) = some (Fl.next, [(Str.ofString "_law_script", V.d (D.list (ns.map D.int))), (Str.ofString "_law_one", V.d (D.tup [D.int (a), D.int (b)])), (Str.ofString "_law_marks_here", V.obj 0), (Str.ofString "_law_k", V.d (D.int (k))), (Str.ofString "_law_xs", V.d (D.list [D.int (x0), D.int (x1)])), (Str.ofString "_law_mark", V.d (D.int ((w2 + ((x1 / 2) % 3)) - 1)))], [(false, MO.list (((vs ++ [(w2 + ((x1 / 2) % 3)) - 1]).map D.int).map V.d))]) :=
  pathS (P := (getItemV [(false, MO.list (((vs).map D.int).map V.d))] (V.d (D.list (ns.map D.int))) (V.d (D.int (k))) = some (V.d (D.int (w1)))) ∧ (callN B04 H04 (d + 1) (Str.ofString "_law_stream") [V.d (D.int (w1)), V.d (D.int (2))] [(false, MO.list (((vs).map D.int).map V.d))] = some (V.d (D.list [D.int (x0), D.int (x1)]), [(false, MO.list (((vs).map D.int).map V.d))])) ∧ (callN B04 H04 (d + 1) (Str.ofString "_law_number") [V.d (D.int (x0))] [(false, MO.list (((vs).map D.int).map V.d))] = some (V.d (D.int (lo)), [(false, MO.list (((vs).map D.int).map V.d))])) ∧ (some (decide ((k % 3) = 0)) = some true) ∧ (getItemV [(false, MO.list (((vs).map D.int).map V.d))] (V.d (D.tup [D.int (a), D.int (b)])) (V.d (D.int (x1 % 2))) = some (V.d (D.int (w2)))) ∧ (some (decide ((-1000000) ≤ ((w2 + ((x1 / 2) % 3)) - 1))) = some true) ∧ (some (decide (((w2 + ((x1 / 2) % 3)) - 1) ≤ 1000000)) = some true) ∧ (methV [(false, MO.list (((vs).map D.int).map V.d))] .append (V.obj 0) [V.d (D.int ((w2 + ((x1 / 2) % 3)) - 1))] = some (V.d D.none, [(false, MO.list (((vs ++ [(w2 + ((x1 / 2) % 3)) - 1]).map D.int).map V.d))])) ∧ ((Fl.next, [(Str.ofString "_law_script", V.d (D.list (ns.map D.int))), (Str.ofString "_law_one", V.d (D.tup [D.int (a), D.int (b)])), (Str.ofString "_law_marks_here", V.obj 0), (Str.ofString "_law_k", V.d (D.int (k))), (Str.ofString "_law_xs", V.d (D.list [D.int (x0), D.int (x1)])), (Str.ofString "_law_mark", V.d (D.int ((w2 + ((x1 / 2) % 3)) - 1)))], [(false, MO.list (((vs ++ [(w2 + ((x1 / 2) % 3)) - 1]).map D.int).map V.d))]) : Fl × Loc × St) = (Fl.next, [(Str.ofString "_law_script", V.d (D.list (ns.map D.int))), (Str.ofString "_law_one", V.d (D.tup [D.int (a), D.int (b)])), (Str.ofString "_law_marks_here", V.obj 0), (Str.ofString "_law_k", V.d (D.int (k))), (Str.ofString "_law_xs", V.d (D.list [D.int (x0), D.int (x1)])), (Str.ofString "_law_mark", V.d (D.int ((w2 + ((x1 / 2) % 3)) - 1)))], [(false, MO.list (((vs ++ [(w2 + ((x1 / 2) % 3)) - 1]).map D.int).map V.d))])) [(0, Tell.v (V.d (D.int (w1)))), (1, Tell.w (V.d (D.list [D.int (x0), D.int (x1)])) [(false, MO.list (((vs).map D.int).map V.d))]), (3, Tell.w (V.d (D.int (lo))) [(false, MO.list (((vs).map D.int).map V.d))]), (6, Tell.b true), (9, Tell.v (V.d (D.int (w2)))), (15, Tell.b true), (17, Tell.b true), (18, Tell.w (V.d D.none) [(false, MO.list (((vs ++ [(w2 + ((x1 / 2) % 3)) - 1]).map D.int).map V.d))])] (by kernel_rfl) ⟨idx_list h1, hc1 _, hc2 _, dT h2, idx_tup h3, dT h4, dT h5, h6, rfl⟩
theorem L04_msBTTF (d : Nat) (ns : List Int) (a b k lo x0 x1 : Int) (vs : List Int) (ox om : V) (w1 : Int) (w2 : Int) (h1 : idxL (ns.map D.int) (k) = some (D.int (w1))) (hc1 : ∀ σ, callN B04 H04 (d + 1) (Str.ofString "_law_stream") [V.d (D.int (w1)), V.d (D.int (2))] σ = some (V.d (D.list [D.int (x0), D.int (x1)]), σ)) (hc2 : ∀ σ, callN B04 H04 (d + 1) (Str.ofString "_law_number") [V.d (D.int (x0))] σ = some (V.d (D.int (lo)), σ)) (h2 : (k % 3) = 0) (h3 : idxL [D.int (a), D.int (b)] (x1 % 2) = some (D.int (w2))) (h4 : (-1000000) ≤ ((w2 + ((x1 / 2) % 3)) - 1)) (h5 : ¬ (((w2 + ((x1 / 2) % 3)) - 1) ≤ 1000000)) : evSs (gen B04 H04 (d + 1) (Str.ofString "_law_marks")) (forBody (stAt B04 8 1)) [(Str.ofString "_law_script", V.d (D.list (ns.map D.int))), (Str.ofString "_law_one", V.d (D.tup [D.int (a), D.int (b)])), (Str.ofString "_law_marks_here", V.obj 0), (Str.ofString "_law_k", V.d (D.int (k))), (Str.ofString "_law_xs", ox), (Str.ofString "_law_mark", om)] ([(false, MO.list (((vs).map D.int).map V.d))]) = some (Fl.next, [(Str.ofString "_law_script", V.d (D.list (ns.map D.int))), (Str.ofString "_law_one", V.d (D.tup [D.int (a), D.int (b)])), (Str.ofString "_law_marks_here", V.obj 0), (Str.ofString "_law_k", V.d (D.int (k))), (Str.ofString "_law_xs", V.d (D.list [D.int (x0), D.int (x1)])), (Str.ofString "_law_mark", V.d (D.int ((w2 + ((x1 / 2) % 3)) - 1)))], [(false, MO.list (((vs).map D.int).map V.d))]) :=
  pathS (P := (getItemV [(false, MO.list (((vs).map D.int).map V.d))] (V.d (D.list (ns.map D.int))) (V.d (D.int (k))) = some (V.d (D.int (w1)))) ∧ (callN B04 H04 (d + 1) (Str.ofString "_law_stream") [V.d (D.int (w1)), V.d (D.int (2))] [(false, MO.list (((vs).map D.int).map V.d))] = some (V.d (D.list [D.int (x0), D.int (x1)]), [(false, MO.list (((vs).map D.int).map V.d))])) ∧ (callN B04 H04 (d + 1) (Str.ofString "_law_number") [V.d (D.int (x0))] [(false, MO.list (((vs).map D.int).map V.d))] = some (V.d (D.int (lo)), [(false, MO.list (((vs).map D.int).map V.d))])) ∧ (some (decide ((k % 3) = 0)) = some true) ∧ (getItemV [(false, MO.list (((vs).map D.int).map V.d))] (V.d (D.tup [D.int (a), D.int (b)])) (V.d (D.int (x1 % 2))) = some (V.d (D.int (w2)))) ∧ (some (decide ((-1000000) ≤ ((w2 + ((x1 / 2) % 3)) - 1))) = some true) ∧ (some (decide (((w2 + ((x1 / 2) % 3)) - 1) ≤ 1000000)) = some false) ∧ ((Fl.next, [(Str.ofString "_law_script", V.d (D.list (ns.map D.int))), (Str.ofString "_law_one", V.d (D.tup [D.int (a), D.int (b)])), (Str.ofString "_law_marks_here", V.obj 0), (Str.ofString "_law_k", V.d (D.int (k))), (Str.ofString "_law_xs", V.d (D.list [D.int (x0), D.int (x1)])), (Str.ofString "_law_mark", V.d (D.int ((w2 + ((x1 / 2) % 3)) - 1)))], [(false, MO.list (((vs).map D.int).map V.d))]) : Fl × Loc × St) = (Fl.next, [(Str.ofString "_law_script", V.d (D.list (ns.map D.int))), (Str.ofString "_law_one", V.d (D.tup [D.int (a), D.int (b)])), (Str.ofString "_law_marks_here", V.obj 0), (Str.ofString "_law_k", V.d (D.int (k))), (Str.ofString "_law_xs", V.d (D.list [D.int (x0), D.int (x1)])), (Str.ofString "_law_mark", V.d (D.int ((w2 + ((x1 / 2) % 3)) - 1)))], [(false, MO.list (((vs).map D.int).map V.d))])) [(0, Tell.v (V.d (D.int (w1)))), (1, Tell.w (V.d (D.list [D.int (x0), D.int (x1)])) [(false, MO.list (((vs).map D.int).map V.d))]), (3, Tell.w (V.d (D.int (lo))) [(false, MO.list (((vs).map D.int).map V.d))]), (6, Tell.b true), (9, Tell.v (V.d (D.int (w2)))), (15, Tell.b true), (17, Tell.b false)] (by kernel_rfl) ⟨idx_list h1, hc1 _, hc2 _, dT h2, idx_tup h3, dT h4, dF h5, rfl⟩
theorem L04_msBTF (d : Nat) (ns : List Int) (a b k lo x0 x1 : Int) (vs : List Int) (ox om : V) (w1 : Int) (w2 : Int) (h1 : idxL (ns.map D.int) (k) = some (D.int (w1))) (hc1 : ∀ σ, callN B04 H04 (d + 1) (Str.ofString "_law_stream") [V.d (D.int (w1)), V.d (D.int (2))] σ = some (V.d (D.list [D.int (x0), D.int (x1)]), σ)) (hc2 : ∀ σ, callN B04 H04 (d + 1) (Str.ofString "_law_number") [V.d (D.int (x0))] σ = some (V.d (D.int (lo)), σ)) (h2 : (k % 3) = 0) (h3 : idxL [D.int (a), D.int (b)] (x1 % 2) = some (D.int (w2))) (h4 : ¬ ((-1000000) ≤ ((w2 + ((x1 / 2) % 3)) - 1))) : evSs (gen B04 H04 (d + 1) (Str.ofString "_law_marks")) (forBody (stAt B04 8 1)) [(Str.ofString "_law_script", V.d (D.list (ns.map D.int))), (Str.ofString "_law_one", V.d (D.tup [D.int (a), D.int (b)])), (Str.ofString "_law_marks_here", V.obj 0), (Str.ofString "_law_k", V.d (D.int (k))), (Str.ofString "_law_xs", ox), (Str.ofString "_law_mark", om)] ([(false, MO.list (((vs).map D.int).map V.d))]) = some (Fl.next, [(Str.ofString "_law_script", V.d (D.list (ns.map D.int))), (Str.ofString "_law_one", V.d (D.tup [D.int (a), D.int (b)])), (Str.ofString "_law_marks_here", V.obj 0), (Str.ofString "_law_k", V.d (D.int (k))), (Str.ofString "_law_xs", V.d (D.list [D.int (x0), D.int (x1)])), (Str.ofString "_law_mark", V.d (D.int ((w2 + ((x1 / 2) % 3)) - 1)))], [(false, MO.list (((vs).map D.int).map V.d))]) :=
  pathS (P := (getItemV [(false, MO.list (((vs).map D.int).map V.d))] (V.d (D.list (ns.map D.int))) (V.d (D.int (k))) = some (V.d (D.int (w1)))) ∧ (callN B04 H04 (d + 1) (Str.ofString "_law_stream") [V.d (D.int (w1)), V.d (D.int (2))] [(false, MO.list (((vs).map D.int).map V.d))] = some (V.d (D.list [D.int (x0), D.int (x1)]), [(false, MO.list (((vs).map D.int).map V.d))])) ∧ (callN B04 H04 (d + 1) (Str.ofString "_law_number") [V.d (D.int (x0))] [(false, MO.list (((vs).map D.int).map V.d))] = some (V.d (D.int (lo)), [(false, MO.list (((vs).map D.int).map V.d))])) ∧ (some (decide ((k % 3) = 0)) = some true) ∧ (getItemV [(false, MO.list (((vs).map D.int).map V.d))] (V.d (D.tup [D.int (a), D.int (b)])) (V.d (D.int (x1 % 2))) = some (V.d (D.int (w2)))) ∧ (some (decide ((-1000000) ≤ ((w2 + ((x1 / 2) % 3)) - 1))) = some false) ∧ ((Fl.next, [(Str.ofString "_law_script", V.d (D.list (ns.map D.int))), (Str.ofString "_law_one", V.d (D.tup [D.int (a), D.int (b)])), (Str.ofString "_law_marks_here", V.obj 0), (Str.ofString "_law_k", V.d (D.int (k))), (Str.ofString "_law_xs", V.d (D.list [D.int (x0), D.int (x1)])), (Str.ofString "_law_mark", V.d (D.int ((w2 + ((x1 / 2) % 3)) - 1)))], [(false, MO.list (((vs).map D.int).map V.d))]) : Fl × Loc × St) = (Fl.next, [(Str.ofString "_law_script", V.d (D.list (ns.map D.int))), (Str.ofString "_law_one", V.d (D.tup [D.int (a), D.int (b)])), (Str.ofString "_law_marks_here", V.obj 0), (Str.ofString "_law_k", V.d (D.int (k))), (Str.ofString "_law_xs", V.d (D.list [D.int (x0), D.int (x1)])), (Str.ofString "_law_mark", V.d (D.int ((w2 + ((x1 / 2) % 3)) - 1)))], [(false, MO.list (((vs).map D.int).map V.d))])) [(0, Tell.v (V.d (D.int (w1)))), (1, Tell.w (V.d (D.list [D.int (x0), D.int (x1)])) [(false, MO.list (((vs).map D.int).map V.d))]), (3, Tell.w (V.d (D.int (lo))) [(false, MO.list (((vs).map D.int).map V.d))]), (6, Tell.b true), (9, Tell.v (V.d (D.int (w2)))), (15, Tell.b false)] (by kernel_rfl) ⟨idx_list h1, hc1 _, hc2 _, dT h2, idx_tup h3, dF h4, rfl⟩
theorem L04_msBFTT (d : Nat) (ns : List Int) (a b k lo x0 x1 : Int) (vs : List Int) (ox om : V) (w1 : Int) (h1 : idxL (ns.map D.int) (k) = some (D.int (w1))) (hc1 : ∀ σ, callN B04 H04 (d + 1) (Str.ofString "_law_stream") [V.d (D.int (w1)), V.d (D.int (2))] σ = some (V.d (D.list [D.int (x0), D.int (x1)]), σ)) (hc2 : ∀ σ, callN B04 H04 (d + 1) (Str.ofString "_law_number") [V.d (D.int (x0))] σ = some (V.d (D.int (lo)), σ)) (h2 : ¬ ((k % 3) = 0)) (h3 : (-1000000) ≤ lo) (h4 : lo ≤ 1000000) (h5 : methV [(false, MO.list (((vs).map D.int).map V.d))] .append (V.obj 0) [V.d (D.int (lo))] = some (V.d D.none, [(false, MO.list (((vs ++ [lo]).map D.int).map V.d))])) : evSs (gen B04 H04 (d + 1) (Str.ofString "_law_marks")) (forBody (stAt B04 8 1)) [(Str.ofString "_law_script", V.d (D.list (ns.map D.int))), (Str.ofString "_law_one", V.d (D.tup [D.int (a), D.int (b)])), (Str.ofString "_law_marks_here", V.obj 0), (Str.ofString "_law_k", V.d (D.int (k))), (Str.ofString "_law_xs", ox), (Str.ofString "_law_mark", om)] ([(false, MO.list (((vs).map D.int).map V.d))]) = some (Fl.next, [(Str.ofString "_law_script", V.d (D.list (ns.map D.int))), (Str.ofString "_law_one", V.d (D.tup [D.int (a), D.int (b)])), (Str.ofString "_law_marks_here", V.obj 0), (Str.ofString "_law_k", V.d (D.int (k))), (Str.ofString "_law_xs", V.d (D.list [D.int (x0), D.int (x1)])), (Str.ofString "_law_mark", V.d (D.int (lo)))], [(false, MO.list (((vs ++ [lo]).map D.int).map V.d))]) :=
  pathS (P := (getItemV [(false, MO.list (((vs).map D.int).map V.d))] (V.d (D.list (ns.map D.int))) (V.d (D.int (k))) = some (V.d (D.int (w1)))) ∧ (callN B04 H04 (d + 1) (Str.ofString "_law_stream") [V.d (D.int (w1)), V.d (D.int (2))] [(false, MO.list (((vs).map D.int).map V.d))] = some (V.d (D.list [D.int (x0), D.int (x1)]), [(false, MO.list (((vs).map D.int).map V.d))])) ∧ (callN B04 H04 (d + 1) (Str.ofString "_law_number") [V.d (D.int (x0))] [(false, MO.list (((vs).map D.int).map V.d))] = some (V.d (D.int (lo)), [(false, MO.list (((vs).map D.int).map V.d))])) ∧ (some (decide ((k % 3) = 0)) = some false) ∧ (some (decide ((-1000000) ≤ lo)) = some true) ∧ (some (decide (lo ≤ 1000000)) = some true) ∧ (methV [(false, MO.list (((vs).map D.int).map V.d))] .append (V.obj 0) [V.d (D.int (lo))] = some (V.d D.none, [(false, MO.list (((vs ++ [lo]).map D.int).map V.d))])) ∧ ((Fl.next, [(Str.ofString "_law_script", V.d (D.list (ns.map D.int))), (Str.ofString "_law_one", V.d (D.tup [D.int (a), D.int (b)])), (Str.ofString "_law_marks_here", V.obj 0), (Str.ofString "_law_k", V.d (D.int (k))), (Str.ofString "_law_xs", V.d (D.list [D.int (x0), D.int (x1)])), (Str.ofString "_law_mark", V.d (D.int (lo)))], [(false, MO.list (((vs ++ [lo]).map D.int).map V.d))]) : Fl × Loc × St) = (Fl.next, [(Str.ofString "_law_script", V.d (D.list (ns.map D.int))), (Str.ofString "_law_one", V.d (D.tup [D.int (a), D.int (b)])), (Str.ofString "_law_marks_here", V.obj 0), (Str.ofString "_law_k", V.d (D.int (k))), (Str.ofString "_law_xs", V.d (D.list [D.int (x0), D.int (x1)])), (Str.ofString "_law_mark", V.d (D.int (lo)))], [(false, MO.list (((vs ++ [lo]).map D.int).map V.d))])) [(0, Tell.v (V.d (D.int (w1)))), (1, Tell.w (V.d (D.list [D.int (x0), D.int (x1)])) [(false, MO.list (((vs).map D.int).map V.d))]), (3, Tell.w (V.d (D.int (lo))) [(false, MO.list (((vs).map D.int).map V.d))]), (6, Tell.b false), (7, Tell.b true), (9, Tell.b true), (10, Tell.w (V.d D.none) [(false, MO.list (((vs ++ [lo]).map D.int).map V.d))])] (by kernel_rfl) ⟨idx_list h1, hc1 _, hc2 _, dF h2, dT h3, dT h4, h5, rfl⟩
theorem L04_ms (d : Nat) (ns : List Int) (a b k : Int) (vs : List Int) (hk : 0 ≤ k) (hk' : k < ns.length) (hn : ns.length ≤ 63) (hv : vs.length ≤ 100) (hr : ∀ x ∈ vs, -1000000 ≤ x ∧ x ≤ 1000000) (ρ : Loc) (hρ : ρ = L04_M1 ns a b (.d (.int k)) ∨ ∃ ox om, ρ = L04_M ns a b (.d (.int k)) ox om) : ∃ (xs mk : V) (ws : List Int), ws.length ≤ vs.length + 1 ∧ (∀ x ∈ ws, -1000000 ≤ x ∧ x ≤ 1000000) ∧ evSs (gen B04 H04 (d + 1) (Str.ofString "_law_marks")) (forBody (stAt B04 8 1)) ρ [(false, .list ((vs.map D.int).map V.d))] = some (.next, L04_M ns a b (.d (.int k)) xs mk, [(false, .list ((ws.map D.int).map V.d))]) := by
  have mem0 : ∀ {a : Int} {r : List Int}, a ∈ a :: r := List.mem_cons_self
  have mem1 : ∀ {a b : Int} {r : List Int}, b ∈ a :: b :: r := List.mem_cons_of_mem _ List.mem_cons_self
  have mem2 : ∀ {a b c : Int} {r : List Int}, c ∈ a :: b :: c :: r := List.mem_cons_of_mem _ (List.mem_cons_of_mem _ List.mem_cons_self)
  have mem3 : ∀ {a b c d : Int} {r : List Int}, d ∈ a :: b :: c :: d :: r := List.mem_cons_of_mem _ (List.mem_cons_of_mem _ (List.mem_cons_of_mem _ List.mem_cons_self))
  have mem4 : ∀ {a b c d e : Int} {r : List Int}, e ∈ a :: b :: c :: d :: e :: r := List.mem_cons_of_mem _ (List.mem_cons_of_mem _ (List.mem_cons_of_mem _ (List.mem_cons_of_mem _ List.mem_cons_self)))
  obtain ⟨w1, _, ew⟩ := idx_ints hk hk' (by omega)
  obtain ⟨xs, hx, bx, ex⟩ := L04_stream d w1 2 (by omega) (by omega)
  obtain ⟨x0, x1, rfl⟩ := len2 (show xs.length = 2 from hx)
  obtain ⟨lo, l1, l2, el⟩ := L04_number d x0 (bx x0 mem0).1
  by_cases h2 : k % 3 = 0
  · obtain ⟨w2, _, e2⟩ := pick2 (P := fun _ => True) (i := x1 % 2) (a := a) (b := b) (by omega) trivial trivial
    by_cases h4 : -1000000 ≤ w2 + x1 / 2 % 3 - 1
    · by_cases h5 : w2 + x1 / 2 % 3 - 1 ≤ 1000000
      · have l1 := h4
        have l2 := h5
        rcases hρ with rfl | ⟨ox, om, rfl⟩
        · exact ⟨_, _, (vs ++ [w2 + x1 / 2 % 3 - 1]), (by rw [List.length_append]; exact Nat.le_refl _), (fun x hx => (List.mem_append.mp hx).elim (hr x) fun q => by rw [List.mem_singleton] at q; subst q; omega), L04_msATTT d ns a b k lo x0 x1 vs w1 w2 ew ex el h2 e2 h4 h5 (app_ints (by omega))⟩
        · exact ⟨_, _, (vs ++ [w2 + x1 / 2 % 3 - 1]), (by rw [List.length_append]; exact Nat.le_refl _), (fun x hx => (List.mem_append.mp hx).elim (hr x) fun q => by rw [List.mem_singleton] at q; subst q; omega), L04_msBTTT d ns a b k lo x0 x1 vs ox om w1 w2 ew ex el h2 e2 h4 h5 (app_ints (by omega))⟩
      · rcases hρ with rfl | ⟨ox, om, rfl⟩
        · exact ⟨_, _, vs, (Nat.le_succ _), hr, L04_msATTF d ns a b k lo x0 x1 vs w1 w2 ew ex el h2 e2 h4 h5⟩
        · exact ⟨_, _, vs, (Nat.le_succ _), hr, L04_msBTTF d ns a b k lo x0 x1 vs ox om w1 w2 ew ex el h2 e2 h4 h5⟩
    · rcases hρ with rfl | ⟨ox, om, rfl⟩
      · exact ⟨_, _, vs, (Nat.le_succ _), hr, L04_msATF d ns a b k lo x0 x1 vs w1 w2 ew ex el h2 e2 h4⟩
      · exact ⟨_, _, vs, (Nat.le_succ _), hr, L04_msBTF d ns a b k lo x0 x1 vs ox om w1 w2 ew ex el h2 e2 h4⟩
  · rcases hρ with rfl | ⟨ox, om, rfl⟩
    · exact ⟨_, _, (vs ++ [lo]), (by rw [List.length_append]; exact Nat.le_refl _), (fun x hx => (List.mem_append.mp hx).elim (hr x) fun q => by rw [List.mem_singleton] at q; subst q; omega), L04_msAFTT d ns a b k lo x0 x1 vs w1 ew ex el h2 l1 l2 (app_ints (by omega))⟩
    · exact ⟨_, _, (vs ++ [lo]), (by rw [List.length_append]; exact Nat.le_refl _), (fun x hx => (List.mem_append.mp hx).elim (hr x) fun q => by rw [List.mem_singleton] at q; subst q; omega), L04_msBFTT d ns a b k lo x0 x1 vs ox om w1 ew ex el h2 l1 l2 (app_ints (by omega))⟩
theorem L04_marks_e_0 (d : Nat) (ns : List Int) (a b : Int) (vs : List Int)  (h1 : evS (gen B04 H04 (d + 1) (Str.ofString "_law_marks")) (stAt B04 8 1) [(Str.ofString "_law_script", V.d (D.list (ns.map D.int))), (Str.ofString "_law_one", V.d (D.tup [D.int (a), D.int (b)])), (Str.ofString "_law_marks_here", V.obj 0)] [(false, MO.list [])] = some (Fl.next, [(Str.ofString "_law_script", V.d (D.list (ns.map D.int))), (Str.ofString "_law_one", V.d (D.tup [D.int (a), D.int (b)])), (Str.ofString "_law_marks_here", V.obj 0)], [(false, MO.list (((vs).map D.int).map V.d))])) (h2 : bfV [(false, MO.list (((vs).map D.int).map V.d))] .set [V.obj 0] = some (V.d (D.set ((dedI vs).map Key.i)))) (h3 : bfV [(false, MO.list (((vs).map D.int).map V.d))] .sorted [V.d (D.set ((dedI vs).map Key.i))] = some (V.d (D.list ((marksOf vs).map D.int)))) (σ : St) : callN B04 H04 (d + 1 + 1) (Str.ofString "_law_marks") [V.d (D.list (ns.map D.int)), V.d (D.tup [D.int (a), D.int (b)])] σ = some (V.d (D.list ((marksOf vs).map D.int)), σ) :=
  path (ds := [D.list (ns.map D.int), D.tup [D.int (a), D.int (b)]]) (i := 8) (x := D.list ((marksOf vs).map D.int)) (P := (evS (gen B04 H04 (d + 1) (Str.ofString "_law_marks")) (stAt B04 8 1) [(Str.ofString "_law_script", V.d (D.list (ns.map D.int))), (Str.ofString "_law_one", V.d (D.tup [D.int (a), D.int (b)])), (Str.ofString "_law_marks_here", V.obj 0)] [(false, MO.list [])] = some (Fl.next, [(Str.ofString "_law_script", V.d (D.list (ns.map D.int))), (Str.ofString "_law_one", V.d (D.tup [D.int (a), D.int (b)])), (Str.ofString "_law_marks_here", V.obj 0)], [(false, MO.list (((vs).map D.int).map V.d))])) ∧ (bfV [(false, MO.list (((vs).map D.int).map V.d))] .set [V.obj 0] = some (V.d (D.set ((dedI vs).map Key.i)))) ∧ (bfV [(false, MO.list (((vs).map D.int).map V.d))] .sorted [V.d (D.set ((dedI vs).map Key.i))] = some (V.d (D.list ((marksOf vs).map D.int)))) ∧ some (D.list ((marksOf vs).map D.int)) = some (D.list ((marksOf vs).map D.int))) [(1, Tell.f Fl.next [(Str.ofString "_law_script", V.d (D.list (ns.map D.int))), (Str.ofString "_law_one", V.d (D.tup [D.int (a), D.int (b)])), (Str.ofString "_law_marks_here", V.obj 0)] [(false, MO.list (((vs).map D.int).map V.d))]), (2, Tell.v (V.d (D.set ((dedI vs).map Key.i)))), (3, Tell.v (V.d (D.list ((marksOf vs).map D.int))))] L04_f__law_marks (L04_imp _) (by kernel_rfl) ⟨h1, h2, h3, rfl⟩ σ
theorem L04_marks_n_0 (d : Nat) (ns : List Int) (a b : Int) (vs : List Int) (ok ox om : V)  (h1 : evS (gen B04 H04 (d + 1) (Str.ofString "_law_marks")) (stAt B04 8 1) [(Str.ofString "_law_script", V.d (D.list (ns.map D.int))), (Str.ofString "_law_one", V.d (D.tup [D.int (a), D.int (b)])), (Str.ofString "_law_marks_here", V.obj 0)] [(false, MO.list [])] = some (Fl.next, [(Str.ofString "_law_script", V.d (D.list (ns.map D.int))), (Str.ofString "_law_one", V.d (D.tup [D.int (a), D.int (b)])), (Str.ofString "_law_marks_here", V.obj 0), (Str.ofString "_law_k", ok), (Str.ofString "_law_xs", ox), (Str.ofString "_law_mark", om)], [(false, MO.list (((vs).map D.int).map V.d))])) (h2 : bfV [(false, MO.list (((vs).map D.int).map V.d))] .set [V.obj 0] = some (V.d (D.set ((dedI vs).map Key.i)))) (h3 : bfV [(false, MO.list (((vs).map D.int).map V.d))] .sorted [V.d (D.set ((dedI vs).map Key.i))] = some (V.d (D.list ((marksOf vs).map D.int)))) (σ : St) : callN B04 H04 (d + 1 + 1) (Str.ofString "_law_marks") [V.d (D.list (ns.map D.int)), V.d (D.tup [D.int (a), D.int (b)])] σ = some (V.d (D.list ((marksOf vs).map D.int)), σ) :=
  path (ds := [D.list (ns.map D.int), D.tup [D.int (a), D.int (b)]]) (i := 8) (x := D.list ((marksOf vs).map D.int)) (P := (evS (gen B04 H04 (d + 1) (Str.ofString "_law_marks")) (stAt B04 8 1) [(Str.ofString "_law_script", V.d (D.list (ns.map D.int))), (Str.ofString "_law_one", V.d (D.tup [D.int (a), D.int (b)])), (Str.ofString "_law_marks_here", V.obj 0)] [(false, MO.list [])] = some (Fl.next, [(Str.ofString "_law_script", V.d (D.list (ns.map D.int))), (Str.ofString "_law_one", V.d (D.tup [D.int (a), D.int (b)])), (Str.ofString "_law_marks_here", V.obj 0), (Str.ofString "_law_k", ok), (Str.ofString "_law_xs", ox), (Str.ofString "_law_mark", om)], [(false, MO.list (((vs).map D.int).map V.d))])) ∧ (bfV [(false, MO.list (((vs).map D.int).map V.d))] .set [V.obj 0] = some (V.d (D.set ((dedI vs).map Key.i)))) ∧ (bfV [(false, MO.list (((vs).map D.int).map V.d))] .sorted [V.d (D.set ((dedI vs).map Key.i))] = some (V.d (D.list ((marksOf vs).map D.int)))) ∧ some (D.list ((marksOf vs).map D.int)) = some (D.list ((marksOf vs).map D.int))) [(1, Tell.f Fl.next [(Str.ofString "_law_script", V.d (D.list (ns.map D.int))), (Str.ofString "_law_one", V.d (D.tup [D.int (a), D.int (b)])), (Str.ofString "_law_marks_here", V.obj 0), (Str.ofString "_law_k", ok), (Str.ofString "_law_xs", ox), (Str.ofString "_law_mark", om)] [(false, MO.list (((vs).map D.int).map V.d))]), (2, Tell.v (V.d (D.set ((dedI vs).map Key.i)))), (3, Tell.v (V.d (D.list ((marksOf vs).map D.int))))] L04_f__law_marks (L04_imp _) (by kernel_rfl) ⟨h1, h2, h3, rfl⟩ σ
theorem L04_marks (d : Nat) (ns : List Int) (a b : Int) (hn : ns.length ≤ 63) : ∃ vs : List Int, vs.length ≤ 63 ∧ (∀ x ∈ vs, -1000000 ≤ x ∧ x ≤ 1000000) ∧ ∀ σ, callN B04 H04 (d + 1 + 1) (Str.ofString "_law_marks") [.d (.list (ns.map .int)), .d (.tup [.int a, .int b])] σ = some (.d (.list ((marksOf vs).map .int)), σ) := by
  have hs0 : ∀ v, setV (Str.ofString "_law_k") v (L04_M0 ns a b) = L04_M1 ns a b v := fun v => by kernel_rfl
  have hs1 : ∀ p q r v, setV (Str.ofString "_law_k") v (L04_M ns a b p q r) = L04_M ns a b v q r := fun p q r v => by kernel_rfl
  have h2a : evE (gen B04 H04 (d + 1) (Str.ofString "_law_marks")) (L04_M0 ns a b) false (rangeArg2 (stAt B04 8 1)) [(false, .list [])] = (bfV [(false, .list [])] .len [V.d (D.list (ns.map D.int))]).map (fun v => own false v [(false, .list [])]) := by kernel_rfl
  rw [len_ints (by omega)] at h2a
  refine Exists.elim (loop_inv (f := fun v ρ σ => evSs (gen B04 H04 (d + 1) (Str.ofString "_law_marks")) (forBody (stAt B04 8 1)) (setV (Str.ofString "_law_k") v ρ) σ) (Inv := fun k ρ σ => ∃ vs : List Int, vs.length ≤ k ∧ (∀ x ∈ vs, -1000000 ≤ x ∧ x ≤ 1000000) ∧ σ = [(false, .list ((vs.map D.int).map V.d))] ∧ ((k = 0 ∧ ρ = L04_M0 ns a b) ∨ (0 < k ∧ ∃ ok ox om, ρ = L04_M ns a b ok ox om))) (r := rangeL 2 ((ns.length : Int) - 2).toNat) (i := 0) (ρ := L04_M0 ns a b) (σ := [(false, .list [])]) ⟨[], Nat.le_refl _, (fun x hx => nomatch hx), rfl, .inl ⟨rfl, rfl⟩⟩ ?_) fun ρ' q => Exists.elim q fun σ' q => ?_
  case refine_2 =>
    obtain ⟨e, vs, h1, h2, rfl, h3⟩ := q
    rw [rangeL_len, Nat.zero_add] at h1
    have hvs : vs.length ≤ 63 := by omega
    refine ⟨vs, hvs, h2, fun σ => ?_⟩
    have hd := dedI_len (ns := vs)
    rcases h3 with ⟨_, rfl⟩ | ⟨_, ok, ox, om, rfl⟩
    · exact L04_marks_e_0 d ns a b vs (for_range2 (x := Str.ofString "_law_k") (body := forBody (stAt B04 8 1)) rfl (by kernel_rfl) h2a ⟨by omega, by omega⟩ e) (set_ints (by omega)) (sorted_set_ints (by omega)) σ
    · exact L04_marks_n_0 d ns a b vs ok ox om (for_range2 (x := Str.ofString "_law_k") (body := forBody (stAt B04 8 1)) rfl (by kernel_rfl) h2a ⟨by omega, by omega⟩ e) (set_ints (by omega)) (sorted_set_ints (by omega)) σ
  case refine_1 =>
    intro k u ρ σ hk hi'
    rw [Nat.zero_add] at hi' ⊢
    obtain ⟨hk, rfl⟩ := rangeL_at hk
    obtain ⟨vs, h1, h2, rfl, h3⟩ := hi'
    obtain ⟨xs, mk, ws, k1, k2, k3⟩ := L04_ms d ns a b (2 + k) vs (by omega) (by omega) hn (by omega) h2 (setV (Str.ofString "_law_k") (.d (.int (2 + k))) ρ) (by
      rcases h3 with ⟨_, rfl⟩ | ⟨_, ok, ox, om, rfl⟩
      · exact .inl (hs0 _)
      · exact .inr ⟨_, _, hs1 _ _ _ _⟩)
    exact ⟨_, _, k3, ws, by omega, k2, rfl, .inr ⟨Nat.succ_pos _, _, _, _, rfl⟩⟩
noncomputable def L04_W0 (ns : List Int) (x0 x1 a b : Int) (ms : List Int) (lo hi : Int) : Loc := [(Str.ofString "_law_script", V.d (D.list (ns.map D.int))), (Str.ofString "_law_xs", V.d (D.list [D.int (x0), D.int (x1)])), (Str.ofString "_law_one", V.d (D.tup [D.int (a), D.int (b)])), (Str.ofString "_law_marks_here", V.d (D.list (ms.map D.int))), (Str.ofString "_law_handed", V.d (D.list (ms.map D.int))), (Str.ofString "_law_found", V.d (D.tup [D.int (lo), D.int (hi)]))]
noncomputable def L04_W (ns : List Int) (x0 x1 a b : Int) (ms : List Int) (lo hi : Int) (m : V) : Loc := [(Str.ofString "_law_script", V.d (D.list (ns.map D.int))), (Str.ofString "_law_xs", V.d (D.list [D.int (x0), D.int (x1)])), (Str.ofString "_law_one", V.d (D.tup [D.int (a), D.int (b)])), (Str.ofString "_law_marks_here", V.d (D.list (ms.map D.int))), (Str.ofString "_law_handed", V.d (D.list (ms.map D.int))), (Str.ofString "_law_found", V.d (D.tup [D.int (lo), D.int (hi)])), (Str.ofString "_law_mark", m)]
theorem L04_wsTFTF (d : Nat) (ns : List Int) (x0 x1 a b : Int) (ms : List Int) (lo hi : Int) (m : Int)  (h1 : lo < m) (h2 : ¬ (m ≤ a)) (h3 : b ≤ m) (h4 : ¬ (m < hi)) : evSs (gen B04 H04 (d + 1 + 1 + 1) (Str.ofString "law")) (forBody (stAt B04 9 8)) [(Str.ofString "_law_script", V.d (D.list (ns.map D.int))), (Str.ofString "_law_xs", V.d (D.list [D.int (x0), D.int (x1)])), (Str.ofString "_law_one", V.d (D.tup [D.int (a), D.int (b)])), (Str.ofString "_law_marks_here", V.d (D.list (ms.map D.int))), (Str.ofString "_law_handed", V.d (D.list (ms.map D.int))), (Str.ofString "_law_found", V.d (D.tup [D.int (lo), D.int (hi)])), (Str.ofString "_law_mark", V.d (D.int (m)))] ([]) = some (Fl.next, [(Str.ofString "_law_script", V.d (D.list (ns.map D.int))), (Str.ofString "_law_xs", V.d (D.list [D.int (x0), D.int (x1)])), (Str.ofString "_law_one", V.d (D.tup [D.int (a), D.int (b)])), (Str.ofString "_law_marks_here", V.d (D.list (ms.map D.int))), (Str.ofString "_law_handed", V.d (D.list (ms.map D.int))), (Str.ofString "_law_found", V.d (D.tup [D.int (lo), D.int (hi)])), (Str.ofString "_law_mark", V.d (D.int (m)))], []) :=
  pathS (P := (some (decide (lo < m)) = some true) ∧ (some (decide (m ≤ a)) = some false) ∧ (some (decide (b ≤ m)) = some true) ∧ (some (decide (m < hi)) = some false) ∧ ((Fl.next, [(Str.ofString "_law_script", V.d (D.list (ns.map D.int))), (Str.ofString "_law_xs", V.d (D.list [D.int (x0), D.int (x1)])), (Str.ofString "_law_one", V.d (D.tup [D.int (a), D.int (b)])), (Str.ofString "_law_marks_here", V.d (D.list (ms.map D.int))), (Str.ofString "_law_handed", V.d (D.list (ms.map D.int))), (Str.ofString "_law_found", V.d (D.tup [D.int (lo), D.int (hi)])), (Str.ofString "_law_mark", V.d (D.int (m)))], []) : Fl × Loc × St) = (Fl.next, [(Str.ofString "_law_script", V.d (D.list (ns.map D.int))), (Str.ofString "_law_xs", V.d (D.list [D.int (x0), D.int (x1)])), (Str.ofString "_law_one", V.d (D.tup [D.int (a), D.int (b)])), (Str.ofString "_law_marks_here", V.d (D.list (ms.map D.int))), (Str.ofString "_law_handed", V.d (D.list (ms.map D.int))), (Str.ofString "_law_found", V.d (D.tup [D.int (lo), D.int (hi)])), (Str.ofString "_law_mark", V.d (D.int (m)))], [])) [(1, Tell.b true), (4, Tell.b false), (6, Tell.b true), (9, Tell.b false)] (by kernel_rfl) ⟨dT h1, dF h2, dT h3, dF h4, rfl⟩
theorem L04_wsTFF (d : Nat) (ns : List Int) (x0 x1 a b : Int) (ms : List Int) (lo hi : Int) (m : Int)  (h1 : lo < m) (h2 : ¬ (m ≤ a)) (h3 : ¬ (b ≤ m)) : evSs (gen B04 H04 (d + 1 + 1 + 1) (Str.ofString "law")) (forBody (stAt B04 9 8)) [(Str.ofString "_law_script", V.d (D.list (ns.map D.int))), (Str.ofString "_law_xs", V.d (D.list [D.int (x0), D.int (x1)])), (Str.ofString "_law_one", V.d (D.tup [D.int (a), D.int (b)])), (Str.ofString "_law_marks_here", V.d (D.list (ms.map D.int))), (Str.ofString "_law_handed", V.d (D.list (ms.map D.int))), (Str.ofString "_law_found", V.d (D.tup [D.int (lo), D.int (hi)])), (Str.ofString "_law_mark", V.d (D.int (m)))] ([]) = some (Fl.next, [(Str.ofString "_law_script", V.d (D.list (ns.map D.int))), (Str.ofString "_law_xs", V.d (D.list [D.int (x0), D.int (x1)])), (Str.ofString "_law_one", V.d (D.tup [D.int (a), D.int (b)])), (Str.ofString "_law_marks_here", V.d (D.list (ms.map D.int))), (Str.ofString "_law_handed", V.d (D.list (ms.map D.int))), (Str.ofString "_law_found", V.d (D.tup [D.int (lo), D.int (hi)])), (Str.ofString "_law_mark", V.d (D.int (m)))], []) :=
  pathS (P := (some (decide (lo < m)) = some true) ∧ (some (decide (m ≤ a)) = some false) ∧ (some (decide (b ≤ m)) = some false) ∧ ((Fl.next, [(Str.ofString "_law_script", V.d (D.list (ns.map D.int))), (Str.ofString "_law_xs", V.d (D.list [D.int (x0), D.int (x1)])), (Str.ofString "_law_one", V.d (D.tup [D.int (a), D.int (b)])), (Str.ofString "_law_marks_here", V.d (D.list (ms.map D.int))), (Str.ofString "_law_handed", V.d (D.list (ms.map D.int))), (Str.ofString "_law_found", V.d (D.tup [D.int (lo), D.int (hi)])), (Str.ofString "_law_mark", V.d (D.int (m)))], []) : Fl × Loc × St) = (Fl.next, [(Str.ofString "_law_script", V.d (D.list (ns.map D.int))), (Str.ofString "_law_xs", V.d (D.list [D.int (x0), D.int (x1)])), (Str.ofString "_law_one", V.d (D.tup [D.int (a), D.int (b)])), (Str.ofString "_law_marks_here", V.d (D.list (ms.map D.int))), (Str.ofString "_law_handed", V.d (D.list (ms.map D.int))), (Str.ofString "_law_found", V.d (D.tup [D.int (lo), D.int (hi)])), (Str.ofString "_law_mark", V.d (D.int (m)))], [])) [(1, Tell.b true), (4, Tell.b false), (6, Tell.b false)] (by kernel_rfl) ⟨dT h1, dF h2, dF h3, rfl⟩
theorem L04_wsFTF (d : Nat) (ns : List Int) (x0 x1 a b : Int) (ms : List Int) (lo hi : Int) (m : Int)  (h1 : ¬ (lo < m)) (h2 : b ≤ m) (h3 : ¬ (m < hi)) : evSs (gen B04 H04 (d + 1 + 1 + 1) (Str.ofString "law")) (forBody (stAt B04 9 8)) [(Str.ofString "_law_script", V.d (D.list (ns.map D.int))), (Str.ofString "_law_xs", V.d (D.list [D.int (x0), D.int (x1)])), (Str.ofString "_law_one", V.d (D.tup [D.int (a), D.int (b)])), (Str.ofString "_law_marks_here", V.d (D.list (ms.map D.int))), (Str.ofString "_law_handed", V.d (D.list (ms.map D.int))), (Str.ofString "_law_found", V.d (D.tup [D.int (lo), D.int (hi)])), (Str.ofString "_law_mark", V.d (D.int (m)))] ([]) = some (Fl.next, [(Str.ofString "_law_script", V.d (D.list (ns.map D.int))), (Str.ofString "_law_xs", V.d (D.list [D.int (x0), D.int (x1)])), (Str.ofString "_law_one", V.d (D.tup [D.int (a), D.int (b)])), (Str.ofString "_law_marks_here", V.d (D.list (ms.map D.int))), (Str.ofString "_law_handed", V.d (D.list (ms.map D.int))), (Str.ofString "_law_found", V.d (D.tup [D.int (lo), D.int (hi)])), (Str.ofString "_law_mark", V.d (D.int (m)))], []) :=
  pathS (P := (some (decide (lo < m)) = some false) ∧ (some (decide (b ≤ m)) = some true) ∧ (some (decide (m < hi)) = some false) ∧ ((Fl.next, [(Str.ofString "_law_script", V.d (D.list (ns.map D.int))), (Str.ofString "_law_xs", V.d (D.list [D.int (x0), D.int (x1)])), (Str.ofString "_law_one", V.d (D.tup [D.int (a), D.int (b)])), (Str.ofString "_law_marks_here", V.d (D.list (ms.map D.int))), (Str.ofString "_law_handed", V.d (D.list (ms.map D.int))), (Str.ofString "_law_found", V.d (D.tup [D.int (lo), D.int (hi)])), (Str.ofString "_law_mark", V.d (D.int (m)))], []) : Fl × Loc × St) = (Fl.next, [(Str.ofString "_law_script", V.d (D.list (ns.map D.int))), (Str.ofString "_law_xs", V.d (D.list [D.int (x0), D.int (x1)])), (Str.ofString "_law_one", V.d (D.tup [D.int (a), D.int (b)])), (Str.ofString "_law_marks_here", V.d (D.list (ms.map D.int))), (Str.ofString "_law_handed", V.d (D.list (ms.map D.int))), (Str.ofString "_law_found", V.d (D.tup [D.int (lo), D.int (hi)])), (Str.ofString "_law_mark", V.d (D.int (m)))], [])) [(1, Tell.b false), (4, Tell.b true), (7, Tell.b false)] (by kernel_rfl) ⟨dF h1, dT h2, dF h3, rfl⟩
theorem L04_wsFF (d : Nat) (ns : List Int) (x0 x1 a b : Int) (ms : List Int) (lo hi : Int) (m : Int)  (h1 : ¬ (lo < m)) (h2 : ¬ (b ≤ m)) : evSs (gen B04 H04 (d + 1 + 1 + 1) (Str.ofString "law")) (forBody (stAt B04 9 8)) [(Str.ofString "_law_script", V.d (D.list (ns.map D.int))), (Str.ofString "_law_xs", V.d (D.list [D.int (x0), D.int (x1)])), (Str.ofString "_law_one", V.d (D.tup [D.int (a), D.int (b)])), (Str.ofString "_law_marks_here", V.d (D.list (ms.map D.int))), (Str.ofString "_law_handed", V.d (D.list (ms.map D.int))), (Str.ofString "_law_found", V.d (D.tup [D.int (lo), D.int (hi)])), (Str.ofString "_law_mark", V.d (D.int (m)))] ([]) = some (Fl.next, [(Str.ofString "_law_script", V.d (D.list (ns.map D.int))), (Str.ofString "_law_xs", V.d (D.list [D.int (x0), D.int (x1)])), (Str.ofString "_law_one", V.d (D.tup [D.int (a), D.int (b)])), (Str.ofString "_law_marks_here", V.d (D.list (ms.map D.int))), (Str.ofString "_law_handed", V.d (D.list (ms.map D.int))), (Str.ofString "_law_found", V.d (D.tup [D.int (lo), D.int (hi)])), (Str.ofString "_law_mark", V.d (D.int (m)))], []) :=
  pathS (P := (some (decide (lo < m)) = some false) ∧ (some (decide (b ≤ m)) = some false) ∧ ((Fl.next, [(Str.ofString "_law_script", V.d (D.list (ns.map D.int))), (Str.ofString "_law_xs", V.d (D.list [D.int (x0), D.int (x1)])), (Str.ofString "_law_one", V.d (D.tup [D.int (a), D.int (b)])), (Str.ofString "_law_marks_here", V.d (D.list (ms.map D.int))), (Str.ofString "_law_handed", V.d (D.list (ms.map D.int))), (Str.ofString "_law_found", V.d (D.tup [D.int (lo), D.int (hi)])), (Str.ofString "_law_mark", V.d (D.int (m)))], []) : Fl × Loc × St) = (Fl.next, [(Str.ofString "_law_script", V.d (D.list (ns.map D.int))), (Str.ofString "_law_xs", V.d (D.list [D.int (x0), D.int (x1)])), (Str.ofString "_law_one", V.d (D.tup [D.int (a), D.int (b)])), (Str.ofString "_law_marks_here", V.d (D.list (ms.map D.int))), (Str.ofString "_law_handed", V.d (D.list (ms.map D.int))), (Str.ofString "_law_found", V.d (D.tup [D.int (lo), D.int (hi)])), (Str.ofString "_law_mark", V.d (D.int (m)))], [])) [(1, Tell.b false), (4, Tell.b false)] (by kernel_rfl) ⟨dF h1, dF h2, rfl⟩
theorem L04_ws (d : Nat) (ns : List Int) (x0 x1 a b : Int) (ms : List Int) (lo hi : Int) (m : Int) (h1 : m ≤ a → m ≤ lo) (h2 : b ≤ m → hi ≤ m) : evSs (gen B04 H04 (d + 1 + 1 + 1) (Str.ofString "law")) (forBody (stAt B04 9 8)) (L04_W ns x0 x1 a b ms lo hi (.d (.int m))) [] = some (.next, L04_W ns x0 x1 a b ms lo hi (.d (.int m)), []) := by
  by_cases k1 : lo < m
  · have k2 : ¬ m ≤ a := fun q => absurd (h1 q) (Int.not_le.mpr k1)
    by_cases k3 : b ≤ m
    · exact L04_wsTFTF d ns x0 x1 a b ms lo hi m k1 k2 k3 (Int.not_lt.mpr (h2 k3))
    · exact L04_wsTFF d ns x0 x1 a b ms lo hi m k1 k2 k3
  · by_cases k3 : b ≤ m
    · exact L04_wsFTF d ns x0 x1 a b ms lo hi m k1 k3 (Int.not_lt.mpr (h2 k3))
    · exact L04_wsFF d ns x0 x1 a b ms lo hi m k1 k3
theorem L04_wl (d : Nat) (ns : List Int) (x0 x1 a b : Int) (ms : List Int) (lo hi : Int) (h1 : ∀ m ∈ ms, m ≤ a → m ≤ lo) (h2 : ∀ m ∈ ms, b ≤ m → hi ≤ m) : ∃ ρ', evS (gen B04 H04 (d + 1 + 1 + 1) (Str.ofString "law")) (stAt B04 9 8) (L04_W0 ns x0 x1 a b ms lo hi) [] = some (.next, ρ', []) ∧ (ρ' = L04_W0 ns x0 x1 a b ms lo hi ∨ ∃ m, ρ' = L04_W ns x0 x1 a b ms lo hi m) := by
  have hs0 : ∀ v, setV (Str.ofString "_law_mark") v (L04_W0 ns x0 x1 a b ms lo hi) = L04_W ns x0 x1 a b ms lo hi v := fun v => by kernel_rfl
  have hs1 : ∀ u v, setV (Str.ofString "_law_mark") v (L04_W ns x0 x1 a b ms lo hi u) = L04_W ns x0 x1 a b ms lo hi v := fun u v => by kernel_rfl
  refine Exists.elim (loop_inv (f := fun v ρ σ => evSs (gen B04 H04 (d + 1 + 1 + 1) (Str.ofString "law")) (forBody (stAt B04 9 8)) (setV (Str.ofString "_law_mark") v ρ) σ) (Inv := fun k ρ σ => σ = [] ∧ (ρ = L04_W0 ns x0 x1 a b ms lo hi ∨ ∃ m, ρ = L04_W ns x0 x1 a b ms lo hi m)) (r := (ms.map D.int).map V.d) (i := 0) (ρ := L04_W0 ns x0 x1 a b ms lo hi) (σ := []) ⟨rfl, .inl rfl⟩ ?_) fun ρ' q => Exists.elim q fun σ' q => ?_
  case refine_2 =>
    obtain ⟨e, rfl, h⟩ := q
    exact ⟨ρ', for_list (by kernel_rfl) e, h⟩
  case refine_1 =>
    intro k u ρ σ hk hi'
    obtain ⟨rfl, hi'⟩ := hi'
    rw [List.getElem?_map, List.getElem?_map, Option.map_map, Option.map_eq_some_iff] at hk
    obtain ⟨x, hx, rfl⟩ := hk
    have hm := List.mem_of_getElem? hx
    have e := L04_ws d ns x0 x1 a b ms lo hi x (h1 x hm) (h2 x hm)
    rcases hi' with rfl | ⟨m, rfl⟩
    · exact ⟨_, [], by show evSs _ _ (setV _ (V.d (D.int x)) _) [] = _; rw [hs0]; exact e, rfl, .inr ⟨_, rfl⟩⟩
    · exact ⟨_, [], by show evSs _ _ (setV _ (V.d (D.int x)) _) [] = _; rw [hs1]; exact e, rfl, .inr ⟨_, rfl⟩⟩
theorem L04_law_e_FFTT (d : Nat) (ns : List Int) (c0 x0 x1 a b : Int) (ms : List Int) (lo hi : Int)  (hc1 : ∀ σ, callN B04 H04 (d + 1 + 1 + 1) (Str.ofString "_law_cell_at") [V.d (D.list (ns.map D.int)), V.d (D.int (0))] σ = some (V.d (D.int (c0)), σ)) (hc2 : ∀ σ, callN B04 H04 (d + 1 + 1 + 1) (Str.ofString "_law_stream") [V.d (D.int (c0)), V.d (D.int (2))] σ = some (V.d (D.list [D.int (x0), D.int (x1)]), σ)) (hc3 : ∀ σ, callN B04 H04 (d + 1 + 1 + 1) (Str.ofString "_law_stretch") [V.d (D.int (x0)), V.d (D.int (x1))] σ = some (V.d (D.tup [D.int (a), D.int (b)]), σ)) (hc4 : ∀ σ, callN B04 H04 (d + 1 + 1 + 1) (Str.ofString "_law_marks") [V.d (D.list (ns.map D.int)), V.d (D.tup [D.int (a), D.int (b)])] σ = some (V.d (D.list (ms.map D.int)), σ)) (h1 : bfV [] .list [V.d (D.list (ms.map D.int))] = some (V.d (D.list (ms.map D.int)))) (hc5 : ∀ σ, callN B04 H04 (d + 1 + 1 + 1) (Str.ofString "rounded") [V.d (D.tup [D.int (a), D.int (b)]), V.d (D.list (ms.map D.int))] σ = some (V.d (D.tup [D.int (lo), D.int (hi)]), σ)) (hc6 : ∀ σ, callN B04 H04 (d + 1 + 1 + 1) (Str.ofString "_law_is_stretch") [V.d (D.tup [D.int (lo), D.int (hi)])] σ = some (V.d (D.bool (true)), σ)) (h2 : cmpV [] .NotEq (V.d (D.list (ms.map D.int))) (V.d (D.list (ms.map D.int))) = some false) (h3 : ¬ (lo > a)) (h4 : ¬ (hi < b)) (h5 : (!(decide (lo = (-1000000)))) = true) (h6 : cmpV [] .NotIn (V.d (D.int (lo))) (V.d (D.list (ms.map D.int))) = some false) (h7 : (!(decide (hi = 1000000))) = true) (h8 : cmpV [] .NotIn (V.d (D.int (hi))) (V.d (D.list (ms.map D.int))) = some false) (h9 : evS (gen B04 H04 (d + 1 + 1 + 1) (Str.ofString "law")) (stAt B04 9 8) [(Str.ofString "_law_script", V.d (D.list (ns.map D.int))), (Str.ofString "_law_xs", V.d (D.list [D.int (x0), D.int (x1)])), (Str.ofString "_law_one", V.d (D.tup [D.int (a), D.int (b)])), (Str.ofString "_law_marks_here", V.d (D.list (ms.map D.int))), (Str.ofString "_law_handed", V.d (D.list (ms.map D.int))), (Str.ofString "_law_found", V.d (D.tup [D.int (lo), D.int (hi)]))] [] = some (Fl.next, [(Str.ofString "_law_script", V.d (D.list (ns.map D.int))), (Str.ofString "_law_xs", V.d (D.list [D.int (x0), D.int (x1)])), (Str.ofString "_law_one", V.d (D.tup [D.int (a), D.int (b)])), (Str.ofString "_law_marks_here", V.d (D.list (ms.map D.int))), (Str.ofString "_law_handed", V.d (D.list (ms.map D.int))), (Str.ofString "_law_found", V.d (D.tup [D.int (lo), D.int (hi)]))], [])) (σ : St) : callN B04 H04 (d + 1 + 1 + 1 + 1) (Str.ofString "law") [V.d (D.list (ns.map D.int))] σ = some (V.d (D.bool (true)), σ) :=
  path (ds := [D.list (ns.map D.int)]) (i := 9) (x := D.bool (true)) (P := (callN B04 H04 (d + 1 + 1 + 1) (Str.ofString "_law_cell_at") [V.d (D.list (ns.map D.int)), V.d (D.int (0))] [] = some (V.d (D.int (c0)), [])) ∧ (callN B04 H04 (d + 1 + 1 + 1) (Str.ofString "_law_stream") [V.d (D.int (c0)), V.d (D.int (2))] [] = some (V.d (D.list [D.int (x0), D.int (x1)]), [])) ∧ (callN B04 H04 (d + 1 + 1 + 1) (Str.ofString "_law_stretch") [V.d (D.int (x0)), V.d (D.int (x1))] [] = some (V.d (D.tup [D.int (a), D.int (b)]), [])) ∧ (callN B04 H04 (d + 1 + 1 + 1) (Str.ofString "_law_marks") [V.d (D.list (ns.map D.int)), V.d (D.tup [D.int (a), D.int (b)])] [] = some (V.d (D.list (ms.map D.int)), [])) ∧ (bfV [] .list [V.d (D.list (ms.map D.int))] = some (V.d (D.list (ms.map D.int)))) ∧ (callN B04 H04 (d + 1 + 1 + 1) (Str.ofString "rounded") [V.d (D.tup [D.int (a), D.int (b)]), V.d (D.list (ms.map D.int))] [] = some (V.d (D.tup [D.int (lo), D.int (hi)]), [])) ∧ (callN B04 H04 (d + 1 + 1 + 1) (Str.ofString "_law_is_stretch") [V.d (D.tup [D.int (lo), D.int (hi)])] [] = some (V.d (D.bool (true)), [])) ∧ (cmpV [] .NotEq (V.d (D.list (ms.map D.int))) (V.d (D.list (ms.map D.int))) = some false) ∧ (some (decide (lo > a)) = some false) ∧ (some (decide (hi < b)) = some false) ∧ (some (!(decide (lo = (-1000000)))) = some true) ∧ (cmpV [] .NotIn (V.d (D.int (lo))) (V.d (D.list (ms.map D.int))) = some false) ∧ (some (!(decide (hi = 1000000))) = some true) ∧ (cmpV [] .NotIn (V.d (D.int (hi))) (V.d (D.list (ms.map D.int))) = some false) ∧ (evS (gen B04 H04 (d + 1 + 1 + 1) (Str.ofString "law")) (stAt B04 9 8) [(Str.ofString "_law_script", V.d (D.list (ns.map D.int))), (Str.ofString "_law_xs", V.d (D.list [D.int (x0), D.int (x1)])), (Str.ofString "_law_one", V.d (D.tup [D.int (a), D.int (b)])), (Str.ofString "_law_marks_here", V.d (D.list (ms.map D.int))), (Str.ofString "_law_handed", V.d (D.list (ms.map D.int))), (Str.ofString "_law_found", V.d (D.tup [D.int (lo), D.int (hi)]))] [] = some (Fl.next, [(Str.ofString "_law_script", V.d (D.list (ns.map D.int))), (Str.ofString "_law_xs", V.d (D.list [D.int (x0), D.int (x1)])), (Str.ofString "_law_one", V.d (D.tup [D.int (a), D.int (b)])), (Str.ofString "_law_marks_here", V.d (D.list (ms.map D.int))), (Str.ofString "_law_handed", V.d (D.list (ms.map D.int))), (Str.ofString "_law_found", V.d (D.tup [D.int (lo), D.int (hi)]))], [])) ∧ some (D.bool (true)) = some (D.bool (true))) [(0, Tell.w (V.d (D.int (c0))) []), (1, Tell.w (V.d (D.list [D.int (x0), D.int (x1)])) []), (4, Tell.w (V.d (D.tup [D.int (a), D.int (b)])) []), (5, Tell.w (V.d (D.list (ms.map D.int))) []), (6, Tell.v (V.d (D.list (ms.map D.int)))), (7, Tell.w (V.d (D.tup [D.int (lo), D.int (hi)])) []), (8, Tell.w (V.d (D.bool (true))) []), (11, Tell.b false), (16, Tell.b false), (20, Tell.b false), (23, Tell.b true), (25, Tell.b false), (29, Tell.b true), (31, Tell.b false), (33, Tell.f Fl.next [(Str.ofString "_law_script", V.d (D.list (ns.map D.int))), (Str.ofString "_law_xs", V.d (D.list [D.int (x0), D.int (x1)])), (Str.ofString "_law_one", V.d (D.tup [D.int (a), D.int (b)])), (Str.ofString "_law_marks_here", V.d (D.list (ms.map D.int))), (Str.ofString "_law_handed", V.d (D.list (ms.map D.int))), (Str.ofString "_law_found", V.d (D.tup [D.int (lo), D.int (hi)]))] [])] L04_f_law (L04_imp _) (by kernel_rfl) ⟨hc1 _, hc2 _, hc3 _, hc4 _, h1, hc5 _, hc6 _, h2, dF h3, dF h4, congrArg some h5, h6, congrArg some h7, h8, h9, rfl⟩ σ
theorem L04_law_e_FFFT (d : Nat) (ns : List Int) (c0 x0 x1 a b : Int) (ms : List Int) (lo hi : Int)  (hc1 : ∀ σ, callN B04 H04 (d + 1 + 1 + 1) (Str.ofString "_law_cell_at") [V.d (D.list (ns.map D.int)), V.d (D.int (0))] σ = some (V.d (D.int (c0)), σ)) (hc2 : ∀ σ, callN B04 H04 (d + 1 + 1 + 1) (Str.ofString "_law_stream") [V.d (D.int (c0)), V.d (D.int (2))] σ = some (V.d (D.list [D.int (x0), D.int (x1)]), σ)) (hc3 : ∀ σ, callN B04 H04 (d + 1 + 1 + 1) (Str.ofString "_law_stretch") [V.d (D.int (x0)), V.d (D.int (x1))] σ = some (V.d (D.tup [D.int (a), D.int (b)]), σ)) (hc4 : ∀ σ, callN B04 H04 (d + 1 + 1 + 1) (Str.ofString "_law_marks") [V.d (D.list (ns.map D.int)), V.d (D.tup [D.int (a), D.int (b)])] σ = some (V.d (D.list (ms.map D.int)), σ)) (h1 : bfV [] .list [V.d (D.list (ms.map D.int))] = some (V.d (D.list (ms.map D.int)))) (hc5 : ∀ σ, callN B04 H04 (d + 1 + 1 + 1) (Str.ofString "rounded") [V.d (D.tup [D.int (a), D.int (b)]), V.d (D.list (ms.map D.int))] σ = some (V.d (D.tup [D.int (lo), D.int (hi)]), σ)) (hc6 : ∀ σ, callN B04 H04 (d + 1 + 1 + 1) (Str.ofString "_law_is_stretch") [V.d (D.tup [D.int (lo), D.int (hi)])] σ = some (V.d (D.bool (true)), σ)) (h2 : cmpV [] .NotEq (V.d (D.list (ms.map D.int))) (V.d (D.list (ms.map D.int))) = some false) (h3 : ¬ (lo > a)) (h4 : ¬ (hi < b)) (h5 : (!(decide (lo = (-1000000)))) = false) (h6 : (!(decide (hi = 1000000))) = true) (h7 : cmpV [] .NotIn (V.d (D.int (hi))) (V.d (D.list (ms.map D.int))) = some false) (h8 : evS (gen B04 H04 (d + 1 + 1 + 1) (Str.ofString "law")) (stAt B04 9 8) [(Str.ofString "_law_script", V.d (D.list (ns.map D.int))), (Str.ofString "_law_xs", V.d (D.list [D.int (x0), D.int (x1)])), (Str.ofString "_law_one", V.d (D.tup [D.int (a), D.int (b)])), (Str.ofString "_law_marks_here", V.d (D.list (ms.map D.int))), (Str.ofString "_law_handed", V.d (D.list (ms.map D.int))), (Str.ofString "_law_found", V.d (D.tup [D.int (lo), D.int (hi)]))] [] = some (Fl.next, [(Str.ofString "_law_script", V.d (D.list (ns.map D.int))), (Str.ofString "_law_xs", V.d (D.list [D.int (x0), D.int (x1)])), (Str.ofString "_law_one", V.d (D.tup [D.int (a), D.int (b)])), (Str.ofString "_law_marks_here", V.d (D.list (ms.map D.int))), (Str.ofString "_law_handed", V.d (D.list (ms.map D.int))), (Str.ofString "_law_found", V.d (D.tup [D.int (lo), D.int (hi)]))], [])) (σ : St) : callN B04 H04 (d + 1 + 1 + 1 + 1) (Str.ofString "law") [V.d (D.list (ns.map D.int))] σ = some (V.d (D.bool (true)), σ) :=
  path (ds := [D.list (ns.map D.int)]) (i := 9) (x := D.bool (true)) (P := (callN B04 H04 (d + 1 + 1 + 1) (Str.ofString "_law_cell_at") [V.d (D.list (ns.map D.int)), V.d (D.int (0))] [] = some (V.d (D.int (c0)), [])) ∧ (callN B04 H04 (d + 1 + 1 + 1) (Str.ofString "_law_stream") [V.d (D.int (c0)), V.d (D.int (2))] [] = some (V.d (D.list [D.int (x0), D.int (x1)]), [])) ∧ (callN B04 H04 (d + 1 + 1 + 1) (Str.ofString "_law_stretch") [V.d (D.int (x0)), V.d (D.int (x1))] [] = some (V.d (D.tup [D.int (a), D.int (b)]), [])) ∧ (callN B04 H04 (d + 1 + 1 + 1) (Str.ofString "_law_marks") [V.d (D.list (ns.map D.int)), V.d (D.tup [D.int (a), D.int (b)])] [] = some (V.d (D.list (ms.map D.int)), [])) ∧ (bfV [] .list [V.d (D.list (ms.map D.int))] = some (V.d (D.list (ms.map D.int)))) ∧ (callN B04 H04 (d + 1 + 1 + 1) (Str.ofString "rounded") [V.d (D.tup [D.int (a), D.int (b)]), V.d (D.list (ms.map D.int))] [] = some (V.d (D.tup [D.int (lo), D.int (hi)]), [])) ∧ (callN B04 H04 (d + 1 + 1 + 1) (Str.ofString "_law_is_stretch") [V.d (D.tup [D.int (lo), D.int (hi)])] [] = some (V.d (D.bool (true)), [])) ∧ (cmpV [] .NotEq (V.d (D.list (ms.map D.int))) (V.d (D.list (ms.map D.int))) = some false) ∧ (some (decide (lo > a)) = some false) ∧ (some (decide (hi < b)) = some false) ∧ (some (!(decide (lo = (-1000000)))) = some false) ∧ (some (!(decide (lo = (-1000000)))) = some false) ∧ (some (!(decide (hi = 1000000))) = some true) ∧ (cmpV [] .NotIn (V.d (D.int (hi))) (V.d (D.list (ms.map D.int))) = some false) ∧ (evS (gen B04 H04 (d + 1 + 1 + 1) (Str.ofString "law")) (stAt B04 9 8) [(Str.ofString "_law_script", V.d (D.list (ns.map D.int))), (Str.ofString "_law_xs", V.d (D.list [D.int (x0), D.int (x1)])), (Str.ofString "_law_one", V.d (D.tup [D.int (a), D.int (b)])), (Str.ofString "_law_marks_here", V.d (D.list (ms.map D.int))), (Str.ofString "_law_handed", V.d (D.list (ms.map D.int))), (Str.ofString "_law_found", V.d (D.tup [D.int (lo), D.int (hi)]))] [] = some (Fl.next, [(Str.ofString "_law_script", V.d (D.list (ns.map D.int))), (Str.ofString "_law_xs", V.d (D.list [D.int (x0), D.int (x1)])), (Str.ofString "_law_one", V.d (D.tup [D.int (a), D.int (b)])), (Str.ofString "_law_marks_here", V.d (D.list (ms.map D.int))), (Str.ofString "_law_handed", V.d (D.list (ms.map D.int))), (Str.ofString "_law_found", V.d (D.tup [D.int (lo), D.int (hi)]))], [])) ∧ some (D.bool (true)) = some (D.bool (true))) [(0, Tell.w (V.d (D.int (c0))) []), (1, Tell.w (V.d (D.list [D.int (x0), D.int (x1)])) []), (4, Tell.w (V.d (D.tup [D.int (a), D.int (b)])) []), (5, Tell.w (V.d (D.list (ms.map D.int))) []), (6, Tell.v (V.d (D.list (ms.map D.int)))), (7, Tell.w (V.d (D.tup [D.int (lo), D.int (hi)])) []), (8, Tell.w (V.d (D.bool (true))) []), (11, Tell.b false), (16, Tell.b false), (20, Tell.b false), (23, Tell.b false), (24, Tell.b false), (27, Tell.b true), (29, Tell.b false), (31, Tell.f Fl.next [(Str.ofString "_law_script", V.d (D.list (ns.map D.int))), (Str.ofString "_law_xs", V.d (D.list [D.int (x0), D.int (x1)])), (Str.ofString "_law_one", V.d (D.tup [D.int (a), D.int (b)])), (Str.ofString "_law_marks_here", V.d (D.list (ms.map D.int))), (Str.ofString "_law_handed", V.d (D.list (ms.map D.int))), (Str.ofString "_law_found", V.d (D.tup [D.int (lo), D.int (hi)]))] [])] L04_f_law (L04_imp _) (by kernel_rfl) ⟨hc1 _, hc2 _, hc3 _, hc4 _, h1, hc5 _, hc6 _, h2, dF h3, dF h4, congrArg some h5, congrArg some h5, congrArg some h6, h7, h8, rfl⟩ σ
theorem L04_law_e_FFFF (d : Nat) (ns : List Int) (c0 x0 x1 a b : Int) (ms : List Int) (lo hi : Int)  (hc1 : ∀ σ, callN B04 H04 (d + 1 + 1 + 1) (Str.ofString "_law_cell_at") [V.d (D.list (ns.map D.int)), V.d (D.int (0))] σ = some (V.d (D.int (c0)), σ)) (hc2 : ∀ σ, callN B04 H04 (d + 1 + 1 + 1) (Str.ofString "_law_stream") [V.d (D.int (c0)), V.d (D.int (2))] σ = some (V.d (D.list [D.int (x0), D.int (x1)]), σ)) (hc3 : ∀ σ, callN B04 H04 (d + 1 + 1 + 1) (Str.ofString "_law_stretch") [V.d (D.int (x0)), V.d (D.int (x1))] σ = some (V.d (D.tup [D.int (a), D.int (b)]), σ)) (hc4 : ∀ σ, callN B04 H04 (d + 1 + 1 + 1) (Str.ofString "_law_marks") [V.d (D.list (ns.map D.int)), V.d (D.tup [D.int (a), D.int (b)])] σ = some (V.d (D.list (ms.map D.int)), σ)) (h1 : bfV [] .list [V.d (D.list (ms.map D.int))] = some (V.d (D.list (ms.map D.int)))) (hc5 : ∀ σ, callN B04 H04 (d + 1 + 1 + 1) (Str.ofString "rounded") [V.d (D.tup [D.int (a), D.int (b)]), V.d (D.list (ms.map D.int))] σ = some (V.d (D.tup [D.int (lo), D.int (hi)]), σ)) (hc6 : ∀ σ, callN B04 H04 (d + 1 + 1 + 1) (Str.ofString "_law_is_stretch") [V.d (D.tup [D.int (lo), D.int (hi)])] σ = some (V.d (D.bool (true)), σ)) (h2 : cmpV [] .NotEq (V.d (D.list (ms.map D.int))) (V.d (D.list (ms.map D.int))) = some false) (h3 : ¬ (lo > a)) (h4 : ¬ (hi < b)) (h5 : (!(decide (lo = (-1000000)))) = false) (h6 : (!(decide (hi = 1000000))) = false) (h7 : evS (gen B04 H04 (d + 1 + 1 + 1) (Str.ofString "law")) (stAt B04 9 8) [(Str.ofString "_law_script", V.d (D.list (ns.map D.int))), (Str.ofString "_law_xs", V.d (D.list [D.int (x0), D.int (x1)])), (Str.ofString "_law_one", V.d (D.tup [D.int (a), D.int (b)])), (Str.ofString "_law_marks_here", V.d (D.list (ms.map D.int))), (Str.ofString "_law_handed", V.d (D.list (ms.map D.int))), (Str.ofString "_law_found", V.d (D.tup [D.int (lo), D.int (hi)]))] [] = some (Fl.next, [(Str.ofString "_law_script", V.d (D.list (ns.map D.int))), (Str.ofString "_law_xs", V.d (D.list [D.int (x0), D.int (x1)])), (Str.ofString "_law_one", V.d (D.tup [D.int (a), D.int (b)])), (Str.ofString "_law_marks_here", V.d (D.list (ms.map D.int))), (Str.ofString "_law_handed", V.d (D.list (ms.map D.int))), (Str.ofString "_law_found", V.d (D.tup [D.int (lo), D.int (hi)]))], [])) (σ : St) : callN B04 H04 (d + 1 + 1 + 1 + 1) (Str.ofString "law") [V.d (D.list (ns.map D.int))] σ = some (V.d (D.bool (true)), σ) :=
  path (ds := [D.list (ns.map D.int)]) (i := 9) (x := D.bool (true)) (P := (callN B04 H04 (d + 1 + 1 + 1) (Str.ofString "_law_cell_at") [V.d (D.list (ns.map D.int)), V.d (D.int (0))] [] = some (V.d (D.int (c0)), [])) ∧ (callN B04 H04 (d + 1 + 1 + 1) (Str.ofString "_law_stream") [V.d (D.int (c0)), V.d (D.int (2))] [] = some (V.d (D.list [D.int (x0), D.int (x1)]), [])) ∧ (callN B04 H04 (d + 1 + 1 + 1) (Str.ofString "_law_stretch") [V.d (D.int (x0)), V.d (D.int (x1))] [] = some (V.d (D.tup [D.int (a), D.int (b)]), [])) ∧ (callN B04 H04 (d + 1 + 1 + 1) (Str.ofString "_law_marks") [V.d (D.list (ns.map D.int)), V.d (D.tup [D.int (a), D.int (b)])] [] = some (V.d (D.list (ms.map D.int)), [])) ∧ (bfV [] .list [V.d (D.list (ms.map D.int))] = some (V.d (D.list (ms.map D.int)))) ∧ (callN B04 H04 (d + 1 + 1 + 1) (Str.ofString "rounded") [V.d (D.tup [D.int (a), D.int (b)]), V.d (D.list (ms.map D.int))] [] = some (V.d (D.tup [D.int (lo), D.int (hi)]), [])) ∧ (callN B04 H04 (d + 1 + 1 + 1) (Str.ofString "_law_is_stretch") [V.d (D.tup [D.int (lo), D.int (hi)])] [] = some (V.d (D.bool (true)), [])) ∧ (cmpV [] .NotEq (V.d (D.list (ms.map D.int))) (V.d (D.list (ms.map D.int))) = some false) ∧ (some (decide (lo > a)) = some false) ∧ (some (decide (hi < b)) = some false) ∧ (some (!(decide (lo = (-1000000)))) = some false) ∧ (some (!(decide (lo = (-1000000)))) = some false) ∧ (some (!(decide (hi = 1000000))) = some false) ∧ (some (!(decide (hi = 1000000))) = some false) ∧ (evS (gen B04 H04 (d + 1 + 1 + 1) (Str.ofString "law")) (stAt B04 9 8) [(Str.ofString "_law_script", V.d (D.list (ns.map D.int))), (Str.ofString "_law_xs", V.d (D.list [D.int (x0), D.int (x1)])), (Str.ofString "_law_one", V.d (D.tup [D.int (a), D.int (b)])), (Str.ofString "_law_marks_here", V.d (D.list (ms.map D.int))), (Str.ofString "_law_handed", V.d (D.list (ms.map D.int))), (Str.ofString "_law_found", V.d (D.tup [D.int (lo), D.int (hi)]))] [] = some (Fl.next, [(Str.ofString "_law_script", V.d (D.list (ns.map D.int))), (Str.ofString "_law_xs", V.d (D.list [D.int (x0), D.int (x1)])), (Str.ofString "_law_one", V.d (D.tup [D.int (a), D.int (b)])), (Str.ofString "_law_marks_here", V.d (D.list (ms.map D.int))), (Str.ofString "_law_handed", V.d (D.list (ms.map D.int))), (Str.ofString "_law_found", V.d (D.tup [D.int (lo), D.int (hi)]))], [])) ∧ some (D.bool (true)) = some (D.bool (true))) [(0, Tell.w (V.d (D.int (c0))) []), (1, Tell.w (V.d (D.list [D.int (x0), D.int (x1)])) []), (4, Tell.w (V.d (D.tup [D.int (a), D.int (b)])) []), (5, Tell.w (V.d (D.list (ms.map D.int))) []), (6, Tell.v (V.d (D.list (ms.map D.int)))), (7, Tell.w (V.d (D.tup [D.int (lo), D.int (hi)])) []), (8, Tell.w (V.d (D.bool (true))) []), (11, Tell.b false), (16, Tell.b false), (20, Tell.b false), (23, Tell.b false), (24, Tell.b false), (27, Tell.b false), (28, Tell.b false), (29, Tell.f Fl.next [(Str.ofString "_law_script", V.d (D.list (ns.map D.int))), (Str.ofString "_law_xs", V.d (D.list [D.int (x0), D.int (x1)])), (Str.ofString "_law_one", V.d (D.tup [D.int (a), D.int (b)])), (Str.ofString "_law_marks_here", V.d (D.list (ms.map D.int))), (Str.ofString "_law_handed", V.d (D.list (ms.map D.int))), (Str.ofString "_law_found", V.d (D.tup [D.int (lo), D.int (hi)]))] [])] L04_f_law (L04_imp _) (by kernel_rfl) ⟨hc1 _, hc2 _, hc3 _, hc4 _, h1, hc5 _, hc6 _, h2, dF h3, dF h4, congrArg some h5, congrArg some h5, congrArg some h6, congrArg some h6, h7, rfl⟩ σ
theorem L04_law_e_FFTF (d : Nat) (ns : List Int) (c0 x0 x1 a b : Int) (ms : List Int) (lo hi : Int)  (hc1 : ∀ σ, callN B04 H04 (d + 1 + 1 + 1) (Str.ofString "_law_cell_at") [V.d (D.list (ns.map D.int)), V.d (D.int (0))] σ = some (V.d (D.int (c0)), σ)) (hc2 : ∀ σ, callN B04 H04 (d + 1 + 1 + 1) (Str.ofString "_law_stream") [V.d (D.int (c0)), V.d (D.int (2))] σ = some (V.d (D.list [D.int (x0), D.int (x1)]), σ)) (hc3 : ∀ σ, callN B04 H04 (d + 1 + 1 + 1) (Str.ofString "_law_stretch") [V.d (D.int (x0)), V.d (D.int (x1))] σ = some (V.d (D.tup [D.int (a), D.int (b)]), σ)) (hc4 : ∀ σ, callN B04 H04 (d + 1 + 1 + 1) (Str.ofString "_law_marks") [V.d (D.list (ns.map D.int)), V.d (D.tup [D.int (a), D.int (b)])] σ = some (V.d (D.list (ms.map D.int)), σ)) (h1 : bfV [] .list [V.d (D.list (ms.map D.int))] = some (V.d (D.list (ms.map D.int)))) (hc5 : ∀ σ, callN B04 H04 (d + 1 + 1 + 1) (Str.ofString "rounded") [V.d (D.tup [D.int (a), D.int (b)]), V.d (D.list (ms.map D.int))] σ = some (V.d (D.tup [D.int (lo), D.int (hi)]), σ)) (hc6 : ∀ σ, callN B04 H04 (d + 1 + 1 + 1) (Str.ofString "_law_is_stretch") [V.d (D.tup [D.int (lo), D.int (hi)])] σ = some (V.d (D.bool (true)), σ)) (h2 : cmpV [] .NotEq (V.d (D.list (ms.map D.int))) (V.d (D.list (ms.map D.int))) = some false) (h3 : ¬ (lo > a)) (h4 : ¬ (hi < b)) (h5 : (!(decide (lo = (-1000000)))) = true) (h6 : cmpV [] .NotIn (V.d (D.int (lo))) (V.d (D.list (ms.map D.int))) = some false) (h7 : (!(decide (hi = 1000000))) = false) (h8 : evS (gen B04 H04 (d + 1 + 1 + 1) (Str.ofString "law")) (stAt B04 9 8) [(Str.ofString "_law_script", V.d (D.list (ns.map D.int))), (Str.ofString "_law_xs", V.d (D.list [D.int (x0), D.int (x1)])), (Str.ofString "_law_one", V.d (D.tup [D.int (a), D.int (b)])), (Str.ofString "_law_marks_here", V.d (D.list (ms.map D.int))), (Str.ofString "_law_handed", V.d (D.list (ms.map D.int))), (Str.ofString "_law_found", V.d (D.tup [D.int (lo), D.int (hi)]))] [] = some (Fl.next, [(Str.ofString "_law_script", V.d (D.list (ns.map D.int))), (Str.ofString "_law_xs", V.d (D.list [D.int (x0), D.int (x1)])), (Str.ofString "_law_one", V.d (D.tup [D.int (a), D.int (b)])), (Str.ofString "_law_marks_here", V.d (D.list (ms.map D.int))), (Str.ofString "_law_handed", V.d (D.list (ms.map D.int))), (Str.ofString "_law_found", V.d (D.tup [D.int (lo), D.int (hi)]))], [])) (σ : St) : callN B04 H04 (d + 1 + 1 + 1 + 1) (Str.ofString "law") [V.d (D.list (ns.map D.int))] σ = some (V.d (D.bool (true)), σ) :=
  path (ds := [D.list (ns.map D.int)]) (i := 9) (x := D.bool (true)) (P := (callN B04 H04 (d + 1 + 1 + 1) (Str.ofString "_law_cell_at") [V.d (D.list (ns.map D.int)), V.d (D.int (0))] [] = some (V.d (D.int (c0)), [])) ∧ (callN B04 H04 (d + 1 + 1 + 1) (Str.ofString "_law_stream") [V.d (D.int (c0)), V.d (D.int (2))] [] = some (V.d (D.list [D.int (x0), D.int (x1)]), [])) ∧ (callN B04 H04 (d + 1 + 1 + 1) (Str.ofString "_law_stretch") [V.d (D.int (x0)), V.d (D.int (x1))] [] = some (V.d (D.tup [D.int (a), D.int (b)]), [])) ∧ (callN B04 H04 (d + 1 + 1 + 1) (Str.ofString "_law_marks") [V.d (D.list (ns.map D.int)), V.d (D.tup [D.int (a), D.int (b)])] [] = some (V.d (D.list (ms.map D.int)), [])) ∧ (bfV [] .list [V.d (D.list (ms.map D.int))] = some (V.d (D.list (ms.map D.int)))) ∧ (callN B04 H04 (d + 1 + 1 + 1) (Str.ofString "rounded") [V.d (D.tup [D.int (a), D.int (b)]), V.d (D.list (ms.map D.int))] [] = some (V.d (D.tup [D.int (lo), D.int (hi)]), [])) ∧ (callN B04 H04 (d + 1 + 1 + 1) (Str.ofString "_law_is_stretch") [V.d (D.tup [D.int (lo), D.int (hi)])] [] = some (V.d (D.bool (true)), [])) ∧ (cmpV [] .NotEq (V.d (D.list (ms.map D.int))) (V.d (D.list (ms.map D.int))) = some false) ∧ (some (decide (lo > a)) = some false) ∧ (some (decide (hi < b)) = some false) ∧ (some (!(decide (lo = (-1000000)))) = some true) ∧ (cmpV [] .NotIn (V.d (D.int (lo))) (V.d (D.list (ms.map D.int))) = some false) ∧ (some (!(decide (hi = 1000000))) = some false) ∧ (some (!(decide (hi = 1000000))) = some false) ∧ (evS (gen B04 H04 (d + 1 + 1 + 1) (Str.ofString "law")) (stAt B04 9 8) [(Str.ofString "_law_script", V.d (D.list (ns.map D.int))), (Str.ofString "_law_xs", V.d (D.list [D.int (x0), D.int (x1)])), (Str.ofString "_law_one", V.d (D.tup [D.int (a), D.int (b)])), (Str.ofString "_law_marks_here", V.d (D.list (ms.map D.int))), (Str.ofString "_law_handed", V.d (D.list (ms.map D.int))), (Str.ofString "_law_found", V.d (D.tup [D.int (lo), D.int (hi)]))] [] = some (Fl.next, [(Str.ofString "_law_script", V.d (D.list (ns.map D.int))), (Str.ofString "_law_xs", V.d (D.list [D.int (x0), D.int (x1)])), (Str.ofString "_law_one", V.d (D.tup [D.int (a), D.int (b)])), (Str.ofString "_law_marks_here", V.d (D.list (ms.map D.int))), (Str.ofString "_law_handed", V.d (D.list (ms.map D.int))), (Str.ofString "_law_found", V.d (D.tup [D.int (lo), D.int (hi)]))], [])) ∧ some (D.bool (true)) = some (D.bool (true))) [(0, Tell.w (V.d (D.int (c0))) []), (1, Tell.w (V.d (D.list [D.int (x0), D.int (x1)])) []), (4, Tell.w (V.d (D.tup [D.int (a), D.int (b)])) []), (5, Tell.w (V.d (D.list (ms.map D.int))) []), (6, Tell.v (V.d (D.list (ms.map D.int)))), (7, Tell.w (V.d (D.tup [D.int (lo), D.int (hi)])) []), (8, Tell.w (V.d (D.bool (true))) []), (11, Tell.b false), (16, Tell.b false), (20, Tell.b false), (23, Tell.b true), (25, Tell.b false), (29, Tell.b false), (30, Tell.b false), (31, Tell.f Fl.next [(Str.ofString "_law_script", V.d (D.list (ns.map D.int))), (Str.ofString "_law_xs", V.d (D.list [D.int (x0), D.int (x1)])), (Str.ofString "_law_one", V.d (D.tup [D.int (a), D.int (b)])), (Str.ofString "_law_marks_here", V.d (D.list (ms.map D.int))), (Str.ofString "_law_handed", V.d (D.list (ms.map D.int))), (Str.ofString "_law_found", V.d (D.tup [D.int (lo), D.int (hi)]))] [])] L04_f_law (L04_imp _) (by kernel_rfl) ⟨hc1 _, hc2 _, hc3 _, hc4 _, h1, hc5 _, hc6 _, h2, dF h3, dF h4, congrArg some h5, h6, congrArg some h7, congrArg some h7, h8, rfl⟩ σ
theorem L04_law_n_FFTT (d : Nat) (ns : List Int) (c0 x0 x1 a b : Int) (ms : List Int) (lo hi : Int) (om : V)  (hc1 : ∀ σ, callN B04 H04 (d + 1 + 1 + 1) (Str.ofString "_law_cell_at") [V.d (D.list (ns.map D.int)), V.d (D.int (0))] σ = some (V.d (D.int (c0)), σ)) (hc2 : ∀ σ, callN B04 H04 (d + 1 + 1 + 1) (Str.ofString "_law_stream") [V.d (D.int (c0)), V.d (D.int (2))] σ = some (V.d (D.list [D.int (x0), D.int (x1)]), σ)) (hc3 : ∀ σ, callN B04 H04 (d + 1 + 1 + 1) (Str.ofString "_law_stretch") [V.d (D.int (x0)), V.d (D.int (x1))] σ = some (V.d (D.tup [D.int (a), D.int (b)]), σ)) (hc4 : ∀ σ, callN B04 H04 (d + 1 + 1 + 1) (Str.ofString "_law_marks") [V.d (D.list (ns.map D.int)), V.d (D.tup [D.int (a), D.int (b)])] σ = some (V.d (D.list (ms.map D.int)), σ)) (h1 : bfV [] .list [V.d (D.list (ms.map D.int))] = some (V.d (D.list (ms.map D.int)))) (hc5 : ∀ σ, callN B04 H04 (d + 1 + 1 + 1) (Str.ofString "rounded") [V.d (D.tup [D.int (a), D.int (b)]), V.d (D.list (ms.map D.int))] σ = some (V.d (D.tup [D.int (lo), D.int (hi)]), σ)) (hc6 : ∀ σ, callN B04 H04 (d + 1 + 1 + 1) (Str.ofString "_law_is_stretch") [V.d (D.tup [D.int (lo), D.int (hi)])] σ = some (V.d (D.bool (true)), σ)) (h2 : cmpV [] .NotEq (V.d (D.list (ms.map D.int))) (V.d (D.list (ms.map D.int))) = some false) (h3 : ¬ (lo > a)) (h4 : ¬ (hi < b)) (h5 : (!(decide (lo = (-1000000)))) = true) (h6 : cmpV [] .NotIn (V.d (D.int (lo))) (V.d (D.list (ms.map D.int))) = some false) (h7 : (!(decide (hi = 1000000))) = true) (h8 : cmpV [] .NotIn (V.d (D.int (hi))) (V.d (D.list (ms.map D.int))) = some false) (h9 : evS (gen B04 H04 (d + 1 + 1 + 1) (Str.ofString "law")) (stAt B04 9 8) [(Str.ofString "_law_script", V.d (D.list (ns.map D.int))), (Str.ofString "_law_xs", V.d (D.list [D.int (x0), D.int (x1)])), (Str.ofString "_law_one", V.d (D.tup [D.int (a), D.int (b)])), (Str.ofString "_law_marks_here", V.d (D.list (ms.map D.int))), (Str.ofString "_law_handed", V.d (D.list (ms.map D.int))), (Str.ofString "_law_found", V.d (D.tup [D.int (lo), D.int (hi)]))] [] = some (Fl.next, [(Str.ofString "_law_script", V.d (D.list (ns.map D.int))), (Str.ofString "_law_xs", V.d (D.list [D.int (x0), D.int (x1)])), (Str.ofString "_law_one", V.d (D.tup [D.int (a), D.int (b)])), (Str.ofString "_law_marks_here", V.d (D.list (ms.map D.int))), (Str.ofString "_law_handed", V.d (D.list (ms.map D.int))), (Str.ofString "_law_found", V.d (D.tup [D.int (lo), D.int (hi)])), (Str.ofString "_law_mark", om)], [])) (σ : St) : callN B04 H04 (d + 1 + 1 + 1 + 1) (Str.ofString "law") [V.d (D.list (ns.map D.int))] σ = some (V.d (D.bool (true)), σ) :=
  path (ds := [D.list (ns.map D.int)]) (i := 9) (x := D.bool (true)) (P := (callN B04 H04 (d + 1 + 1 + 1) (Str.ofString "_law_cell_at") [V.d (D.list (ns.map D.int)), V.d (D.int (0))] [] = some (V.d (D.int (c0)), [])) ∧ (callN B04 H04 (d + 1 + 1 + 1) (Str.ofString "_law_stream") [V.d (D.int (c0)), V.d (D.int (2))] [] = some (V.d (D.list [D.int (x0), D.int (x1)]), [])) ∧ (callN B04 H04 (d + 1 + 1 + 1) (Str.ofString "_law_stretch") [V.d (D.int (x0)), V.d (D.int (x1))] [] = some (V.d (D.tup [D.int (a), D.int (b)]), [])) ∧ (callN B04 H04 (d + 1 + 1 + 1) (Str.ofString "_law_marks") [V.d (D.list (ns.map D.int)), V.d (D.tup [D.int (a), D.int (b)])] [] = some (V.d (D.list (ms.map D.int)), [])) ∧ (bfV [] .list [V.d (D.list (ms.map D.int))] = some (V.d (D.list (ms.map D.int)))) ∧ (callN B04 H04 (d + 1 + 1 + 1) (Str.ofString "rounded") [V.d (D.tup [D.int (a), D.int (b)]), V.d (D.list (ms.map D.int))] [] = some (V.d (D.tup [D.int (lo), D.int (hi)]), [])) ∧ (callN B04 H04 (d + 1 + 1 + 1) (Str.ofString "_law_is_stretch") [V.d (D.tup [D.int (lo), D.int (hi)])] [] = some (V.d (D.bool (true)), [])) ∧ (cmpV [] .NotEq (V.d (D.list (ms.map D.int))) (V.d (D.list (ms.map D.int))) = some false) ∧ (some (decide (lo > a)) = some false) ∧ (some (decide (hi < b)) = some false) ∧ (some (!(decide (lo = (-1000000)))) = some true) ∧ (cmpV [] .NotIn (V.d (D.int (lo))) (V.d (D.list (ms.map D.int))) = some false) ∧ (some (!(decide (hi = 1000000))) = some true) ∧ (cmpV [] .NotIn (V.d (D.int (hi))) (V.d (D.list (ms.map D.int))) = some false) ∧ (evS (gen B04 H04 (d + 1 + 1 + 1) (Str.ofString "law")) (stAt B04 9 8) [(Str.ofString "_law_script", V.d (D.list (ns.map D.int))), (Str.ofString "_law_xs", V.d (D.list [D.int (x0), D.int (x1)])), (Str.ofString "_law_one", V.d (D.tup [D.int (a), D.int (b)])), (Str.ofString "_law_marks_here", V.d (D.list (ms.map D.int))), (Str.ofString "_law_handed", V.d (D.list (ms.map D.int))), (Str.ofString "_law_found", V.d (D.tup [D.int (lo), D.int (hi)]))] [] = some (Fl.next, [(Str.ofString "_law_script", V.d (D.list (ns.map D.int))), (Str.ofString "_law_xs", V.d (D.list [D.int (x0), D.int (x1)])), (Str.ofString "_law_one", V.d (D.tup [D.int (a), D.int (b)])), (Str.ofString "_law_marks_here", V.d (D.list (ms.map D.int))), (Str.ofString "_law_handed", V.d (D.list (ms.map D.int))), (Str.ofString "_law_found", V.d (D.tup [D.int (lo), D.int (hi)])), (Str.ofString "_law_mark", om)], [])) ∧ some (D.bool (true)) = some (D.bool (true))) [(0, Tell.w (V.d (D.int (c0))) []), (1, Tell.w (V.d (D.list [D.int (x0), D.int (x1)])) []), (4, Tell.w (V.d (D.tup [D.int (a), D.int (b)])) []), (5, Tell.w (V.d (D.list (ms.map D.int))) []), (6, Tell.v (V.d (D.list (ms.map D.int)))), (7, Tell.w (V.d (D.tup [D.int (lo), D.int (hi)])) []), (8, Tell.w (V.d (D.bool (true))) []), (11, Tell.b false), (16, Tell.b false), (20, Tell.b false), (23, Tell.b true), (25, Tell.b false), (29, Tell.b true), (31, Tell.b false), (33, Tell.f Fl.next [(Str.ofString "_law_script", V.d (D.list (ns.map D.int))), (Str.ofString "_law_xs", V.d (D.list [D.int (x0), D.int (x1)])), (Str.ofString "_law_one", V.d (D.tup [D.int (a), D.int (b)])), (Str.ofString "_law_marks_here", V.d (D.list (ms.map D.int))), (Str.ofString "_law_handed", V.d (D.list (ms.map D.int))), (Str.ofString "_law_found", V.d (D.tup [D.int (lo), D.int (hi)])), (Str.ofString "_law_mark", om)] [])] L04_f_law (L04_imp _) (by kernel_rfl) ⟨hc1 _, hc2 _, hc3 _, hc4 _, h1, hc5 _, hc6 _, h2, dF h3, dF h4, congrArg some h5, h6, congrArg some h7, h8, h9, rfl⟩ σ
theorem L04_law_n_FFFT (d : Nat) (ns : List Int) (c0 x0 x1 a b : Int) (ms : List Int) (lo hi : Int) (om : V)  (hc1 : ∀ σ, callN B04 H04 (d + 1 + 1 + 1) (Str.ofString "_law_cell_at") [V.d (D.list (ns.map D.int)), V.d (D.int (0))] σ = some (V.d (D.int (c0)), σ)) (hc2 : ∀ σ, callN B04 H04 (d + 1 + 1 + 1) (Str.ofString "_law_stream") [V.d (D.int (c0)), V.d (D.int (2))] σ = some (V.d (D.list [D.int (x0), D.int (x1)]), σ)) (hc3 : ∀ σ, callN B04 H04 (d + 1 + 1 + 1) (Str.ofString "_law_stretch") [V.d (D.int (x0)), V.d (D.int (x1))] σ = some (V.d (D.tup [D.int (a), D.int (b)]), σ)) (hc4 : ∀ σ, callN B04 H04 (d + 1 + 1 + 1) (Str.ofString "_law_marks") [V.d (D.list (ns.map D.int)), V.d (D.tup [D.int (a), D.int (b)])] σ = some (V.d (D.list (ms.map D.int)), σ)) (h1 : bfV [] .list [V.d (D.list (ms.map D.int))] = some (V.d (D.list (ms.map D.int)))) (hc5 : ∀ σ, callN B04 H04 (d + 1 + 1 + 1) (Str.ofString "rounded") [V.d (D.tup [D.int (a), D.int (b)]), V.d (D.list (ms.map D.int))] σ = some (V.d (D.tup [D.int (lo), D.int (hi)]), σ)) (hc6 : ∀ σ, callN B04 H04 (d + 1 + 1 + 1) (Str.ofString "_law_is_stretch") [V.d (D.tup [D.int (lo), D.int (hi)])] σ = some (V.d (D.bool (true)), σ)) (h2 : cmpV [] .NotEq (V.d (D.list (ms.map D.int))) (V.d (D.list (ms.map D.int))) = some false) (h3 : ¬ (lo > a)) (h4 : ¬ (hi < b)) (h5 : (!(decide (lo = (-1000000)))) = false) (h6 : (!(decide (hi = 1000000))) = true) (h7 : cmpV [] .NotIn (V.d (D.int (hi))) (V.d (D.list (ms.map D.int))) = some false) (h8 : evS (gen B04 H04 (d + 1 + 1 + 1) (Str.ofString "law")) (stAt B04 9 8) [(Str.ofString "_law_script", V.d (D.list (ns.map D.int))), (Str.ofString "_law_xs", V.d (D.list [D.int (x0), D.int (x1)])), (Str.ofString "_law_one", V.d (D.tup [D.int (a), D.int (b)])), (Str.ofString "_law_marks_here", V.d (D.list (ms.map D.int))), (Str.ofString "_law_handed", V.d (D.list (ms.map D.int))), (Str.ofString "_law_found", V.d (D.tup [D.int (lo), D.int (hi)]))] [] = some (Fl.next, [(Str.ofString "_law_script", V.d (D.list (ns.map D.int))), (Str.ofString "_law_xs", V.d (D.list [D.int (x0), D.int (x1)])), (Str.ofString "_law_one", V.d (D.tup [D.int (a), D.int (b)])), (Str.ofString "_law_marks_here", V.d (D.list (ms.map D.int))), (Str.ofString "_law_handed", V.d (D.list (ms.map D.int))), (Str.ofString "_law_found", V.d (D.tup [D.int (lo), D.int (hi)])), (Str.ofString "_law_mark", om)], [])) (σ : St) : callN B04 H04 (d + 1 + 1 + 1 + 1) (Str.ofString "law") [V.d (D.list (ns.map D.int))] σ = some (V.d (D.bool (true)), σ) :=
  path (ds := [D.list (ns.map D.int)]) (i := 9) (x := D.bool (true)) (P := (callN B04 H04 (d + 1 + 1 + 1) (Str.ofString "_law_cell_at") [V.d (D.list (ns.map D.int)), V.d (D.int (0))] [] = some (V.d (D.int (c0)), [])) ∧ (callN B04 H04 (d + 1 + 1 + 1) (Str.ofString "_law_stream") [V.d (D.int (c0)), V.d (D.int (2))] [] = some (V.d (D.list [D.int (x0), D.int (x1)]), [])) ∧ (callN B04 H04 (d + 1 + 1 + 1) (Str.ofString "_law_stretch") [V.d (D.int (x0)), V.d (D.int (x1))] [] = some (V.d (D.tup [D.int (a), D.int (b)]), [])) ∧ (callN B04 H04 (d + 1 + 1 + 1) (Str.ofString "_law_marks") [V.d (D.list (ns.map D.int)), V.d (D.tup [D.int (a), D.int (b)])] [] = some (V.d (D.list (ms.map D.int)), [])) ∧ (bfV [] .list [V.d (D.list (ms.map D.int))] = some (V.d (D.list (ms.map D.int)))) ∧ (callN B04 H04 (d + 1 + 1 + 1) (Str.ofString "rounded") [V.d (D.tup [D.int (a), D.int (b)]), V.d (D.list (ms.map D.int))] [] = some (V.d (D.tup [D.int (lo), D.int (hi)]), [])) ∧ (callN B04 H04 (d + 1 + 1 + 1) (Str.ofString "_law_is_stretch") [V.d (D.tup [D.int (lo), D.int (hi)])] [] = some (V.d (D.bool (true)), [])) ∧ (cmpV [] .NotEq (V.d (D.list (ms.map D.int))) (V.d (D.list (ms.map D.int))) = some false) ∧ (some (decide (lo > a)) = some false) ∧ (some (decide (hi < b)) = some false) ∧ (some (!(decide (lo = (-1000000)))) = some false) ∧ (some (!(decide (lo = (-1000000)))) = some false) ∧ (some (!(decide (hi = 1000000))) = some true) ∧ (cmpV [] .NotIn (V.d (D.int (hi))) (V.d (D.list (ms.map D.int))) = some false) ∧ (evS (gen B04 H04 (d + 1 + 1 + 1) (Str.ofString "law")) (stAt B04 9 8) [(Str.ofString "_law_script", V.d (D.list (ns.map D.int))), (Str.ofString "_law_xs", V.d (D.list [D.int (x0), D.int (x1)])), (Str.ofString "_law_one", V.d (D.tup [D.int (a), D.int (b)])), (Str.ofString "_law_marks_here", V.d (D.list (ms.map D.int))), (Str.ofString "_law_handed", V.d (D.list (ms.map D.int))), (Str.ofString "_law_found", V.d (D.tup [D.int (lo), D.int (hi)]))] [] = some (Fl.next, [(Str.ofString "_law_script", V.d (D.list (ns.map D.int))), (Str.ofString "_law_xs", V.d (D.list [D.int (x0), D.int (x1)])), (Str.ofString "_law_one", V.d (D.tup [D.int (a), D.int (b)])), (Str.ofString "_law_marks_here", V.d (D.list (ms.map D.int))), (Str.ofString "_law_handed", V.d (D.list (ms.map D.int))), (Str.ofString "_law_found", V.d (D.tup [D.int (lo), D.int (hi)])), (Str.ofString "_law_mark", om)], [])) ∧ some (D.bool (true)) = some (D.bool (true))) [(0, Tell.w (V.d (D.int (c0))) []), (1, Tell.w (V.d (D.list [D.int (x0), D.int (x1)])) []), (4, Tell.w (V.d (D.tup [D.int (a), D.int (b)])) []), (5, Tell.w (V.d (D.list (ms.map D.int))) []), (6, Tell.v (V.d (D.list (ms.map D.int)))), (7, Tell.w (V.d (D.tup [D.int (lo), D.int (hi)])) []), (8, Tell.w (V.d (D.bool (true))) []), (11, Tell.b false), (16, Tell.b false), (20, Tell.b false), (23, Tell.b false), (24, Tell.b false), (27, Tell.b true), (29, Tell.b false), (31, Tell.f Fl.next [(Str.ofString "_law_script", V.d (D.list (ns.map D.int))), (Str.ofString "_law_xs", V.d (D.list [D.int (x0), D.int (x1)])), (Str.ofString "_law_one", V.d (D.tup [D.int (a), D.int (b)])), (Str.ofString "_law_marks_here", V.d (D.list (ms.map D.int))), (Str.ofString "_law_handed", V.d (D.list (ms.map D.int))), (Str.ofString "_law_found", V.d (D.tup [D.int (lo), D.int (hi)])), (Str.ofString "_law_mark", om)] [])] L04_f_law (L04_imp _) (by kernel_rfl) ⟨hc1 _, hc2 _, hc3 _, hc4 _, h1, hc5 _, hc6 _, h2, dF h3, dF h4, congrArg some h5, congrArg some h5, congrArg some h6, h7, h8, rfl⟩ σ
theorem L04_law_n_FFFF (d : Nat) (ns : List Int) (c0 x0 x1 a b : Int) (ms : List Int) (lo hi : Int) (om : V)  (hc1 : ∀ σ, callN B04 H04 (d + 1 + 1 + 1) (Str.ofString "_law_cell_at") [V.d (D.list (ns.map D.int)), V.d (D.int (0))] σ = some (V.d (D.int (c0)), σ)) (hc2 : ∀ σ, callN B04 H04 (d + 1 + 1 + 1) (Str.ofString "_law_stream") [V.d (D.int (c0)), V.d (D.int (2))] σ = some (V.d (D.list [D.int (x0), D.int (x1)]), σ)) (hc3 : ∀ σ, callN B04 H04 (d + 1 + 1 + 1) (Str.ofString "_law_stretch") [V.d (D.int (x0)), V.d (D.int (x1))] σ = some (V.d (D.tup [D.int (a), D.int (b)]), σ)) (hc4 : ∀ σ, callN B04 H04 (d + 1 + 1 + 1) (Str.ofString "_law_marks") [V.d (D.list (ns.map D.int)), V.d (D.tup [D.int (a), D.int (b)])] σ = some (V.d (D.list (ms.map D.int)), σ)) (h1 : bfV [] .list [V.d (D.list (ms.map D.int))] = some (V.d (D.list (ms.map D.int)))) (hc5 : ∀ σ, callN B04 H04 (d + 1 + 1 + 1) (Str.ofString "rounded") [V.d (D.tup [D.int (a), D.int (b)]), V.d (D.list (ms.map D.int))] σ = some (V.d (D.tup [D.int (lo), D.int (hi)]), σ)) (hc6 : ∀ σ, callN B04 H04 (d + 1 + 1 + 1) (Str.ofString "_law_is_stretch") [V.d (D.tup [D.int (lo), D.int (hi)])] σ = some (V.d (D.bool (true)), σ)) (h2 : cmpV [] .NotEq (V.d (D.list (ms.map D.int))) (V.d (D.list (ms.map D.int))) = some false) (h3 : ¬ (lo > a)) (h4 : ¬ (hi < b)) (h5 : (!(decide (lo = (-1000000)))) = false) (h6 : (!(decide (hi = 1000000))) = false) (h7 : evS (gen B04 H04 (d + 1 + 1 + 1) (Str.ofString "law")) (stAt B04 9 8) [(Str.ofString "_law_script", V.d (D.list (ns.map D.int))), (Str.ofString "_law_xs", V.d (D.list [D.int (x0), D.int (x1)])), (Str.ofString "_law_one", V.d (D.tup [D.int (a), D.int (b)])), (Str.ofString "_law_marks_here", V.d (D.list (ms.map D.int))), (Str.ofString "_law_handed", V.d (D.list (ms.map D.int))), (Str.ofString "_law_found", V.d (D.tup [D.int (lo), D.int (hi)]))] [] = some (Fl.next, [(Str.ofString "_law_script", V.d (D.list (ns.map D.int))), (Str.ofString "_law_xs", V.d (D.list [D.int (x0), D.int (x1)])), (Str.ofString "_law_one", V.d (D.tup [D.int (a), D.int (b)])), (Str.ofString "_law_marks_here", V.d (D.list (ms.map D.int))), (Str.ofString "_law_handed", V.d (D.list (ms.map D.int))), (Str.ofString "_law_found", V.d (D.tup [D.int (lo), D.int (hi)])), (Str.ofString "_law_mark", om)], [])) (σ : St) : callN B04 H04 (d + 1 + 1 + 1 + 1) (Str.ofString "law") [V.d (D.list (ns.map D.int))] σ = some (V.d (D.bool (true)), σ) :=
  path (ds := [D.list (ns.map D.int)]) (i := 9) (x := D.bool (true)) (P := (callN B04 H04 (d + 1 + 1 + 1) (Str.ofString "_law_cell_at") [V.d (D.list (ns.map D.int)), V.d (D.int (0))] [] = some (V.d (D.int (c0)), [])) ∧ (callN B04 H04 (d + 1 + 1 + 1) (Str.ofString "_law_stream") [V.d (D.int (c0)), V.d (D.int (2))] [] = some (V.d (D.list [D.int (x0), D.int (x1)]), [])) ∧ (callN B04 H04 (d + 1 + 1 + 1) (Str.ofString "_law_stretch") [V.d (D.int (x0)), V.d (D.int (x1))] [] = some (V.d (D.tup [D.int (a), D.int (b)]), [])) ∧ (callN B04 H04 (d + 1 + 1 + 1) (Str.ofString "_law_marks") [V.d (D.list (ns.map D.int)), V.d (D.tup [D.int (a), D.int (b)])] [] = some (V.d (D.list (ms.map D.int)), [])) ∧ (bfV [] .list [V.d (D.list (ms.map D.int))] = some (V.d (D.list (ms.map D.int)))) ∧ (callN B04 H04 (d + 1 + 1 + 1) (Str.ofString "rounded") [V.d (D.tup [D.int (a), D.int (b)]), V.d (D.list (ms.map D.int))] [] = some (V.d (D.tup [D.int (lo), D.int (hi)]), [])) ∧ (callN B04 H04 (d + 1 + 1 + 1) (Str.ofString "_law_is_stretch") [V.d (D.tup [D.int (lo), D.int (hi)])] [] = some (V.d (D.bool (true)), [])) ∧ (cmpV [] .NotEq (V.d (D.list (ms.map D.int))) (V.d (D.list (ms.map D.int))) = some false) ∧ (some (decide (lo > a)) = some false) ∧ (some (decide (hi < b)) = some false) ∧ (some (!(decide (lo = (-1000000)))) = some false) ∧ (some (!(decide (lo = (-1000000)))) = some false) ∧ (some (!(decide (hi = 1000000))) = some false) ∧ (some (!(decide (hi = 1000000))) = some false) ∧ (evS (gen B04 H04 (d + 1 + 1 + 1) (Str.ofString "law")) (stAt B04 9 8) [(Str.ofString "_law_script", V.d (D.list (ns.map D.int))), (Str.ofString "_law_xs", V.d (D.list [D.int (x0), D.int (x1)])), (Str.ofString "_law_one", V.d (D.tup [D.int (a), D.int (b)])), (Str.ofString "_law_marks_here", V.d (D.list (ms.map D.int))), (Str.ofString "_law_handed", V.d (D.list (ms.map D.int))), (Str.ofString "_law_found", V.d (D.tup [D.int (lo), D.int (hi)]))] [] = some (Fl.next, [(Str.ofString "_law_script", V.d (D.list (ns.map D.int))), (Str.ofString "_law_xs", V.d (D.list [D.int (x0), D.int (x1)])), (Str.ofString "_law_one", V.d (D.tup [D.int (a), D.int (b)])), (Str.ofString "_law_marks_here", V.d (D.list (ms.map D.int))), (Str.ofString "_law_handed", V.d (D.list (ms.map D.int))), (Str.ofString "_law_found", V.d (D.tup [D.int (lo), D.int (hi)])), (Str.ofString "_law_mark", om)], [])) ∧ some (D.bool (true)) = some (D.bool (true))) [(0, Tell.w (V.d (D.int (c0))) []), (1, Tell.w (V.d (D.list [D.int (x0), D.int (x1)])) []), (4, Tell.w (V.d (D.tup [D.int (a), D.int (b)])) []), (5, Tell.w (V.d (D.list (ms.map D.int))) []), (6, Tell.v (V.d (D.list (ms.map D.int)))), (7, Tell.w (V.d (D.tup [D.int (lo), D.int (hi)])) []), (8, Tell.w (V.d (D.bool (true))) []), (11, Tell.b false), (16, Tell.b false), (20, Tell.b false), (23, Tell.b false), (24, Tell.b false), (27, Tell.b false), (28, Tell.b false), (29, Tell.f Fl.next [(Str.ofString "_law_script", V.d (D.list (ns.map D.int))), (Str.ofString "_law_xs", V.d (D.list [D.int (x0), D.int (x1)])), (Str.ofString "_law_one", V.d (D.tup [D.int (a), D.int (b)])), (Str.ofString "_law_marks_here", V.d (D.list (ms.map D.int))), (Str.ofString "_law_handed", V.d (D.list (ms.map D.int))), (Str.ofString "_law_found", V.d (D.tup [D.int (lo), D.int (hi)])), (Str.ofString "_law_mark", om)] [])] L04_f_law (L04_imp _) (by kernel_rfl) ⟨hc1 _, hc2 _, hc3 _, hc4 _, h1, hc5 _, hc6 _, h2, dF h3, dF h4, congrArg some h5, congrArg some h5, congrArg some h6, congrArg some h6, h7, rfl⟩ σ
theorem L04_law_n_FFTF (d : Nat) (ns : List Int) (c0 x0 x1 a b : Int) (ms : List Int) (lo hi : Int) (om : V)  (hc1 : ∀ σ, callN B04 H04 (d + 1 + 1 + 1) (Str.ofString "_law_cell_at") [V.d (D.list (ns.map D.int)), V.d (D.int (0))] σ = some (V.d (D.int (c0)), σ)) (hc2 : ∀ σ, callN B04 H04 (d + 1 + 1 + 1) (Str.ofString "_law_stream") [V.d (D.int (c0)), V.d (D.int (2))] σ = some (V.d (D.list [D.int (x0), D.int (x1)]), σ)) (hc3 : ∀ σ, callN B04 H04 (d + 1 + 1 + 1) (Str.ofString "_law_stretch") [V.d (D.int (x0)), V.d (D.int (x1))] σ = some (V.d (D.tup [D.int (a), D.int (b)]), σ)) (hc4 : ∀ σ, callN B04 H04 (d + 1 + 1 + 1) (Str.ofString "_law_marks") [V.d (D.list (ns.map D.int)), V.d (D.tup [D.int (a), D.int (b)])] σ = some (V.d (D.list (ms.map D.int)), σ)) (h1 : bfV [] .list [V.d (D.list (ms.map D.int))] = some (V.d (D.list (ms.map D.int)))) (hc5 : ∀ σ, callN B04 H04 (d + 1 + 1 + 1) (Str.ofString "rounded") [V.d (D.tup [D.int (a), D.int (b)]), V.d (D.list (ms.map D.int))] σ = some (V.d (D.tup [D.int (lo), D.int (hi)]), σ)) (hc6 : ∀ σ, callN B04 H04 (d + 1 + 1 + 1) (Str.ofString "_law_is_stretch") [V.d (D.tup [D.int (lo), D.int (hi)])] σ = some (V.d (D.bool (true)), σ)) (h2 : cmpV [] .NotEq (V.d (D.list (ms.map D.int))) (V.d (D.list (ms.map D.int))) = some false) (h3 : ¬ (lo > a)) (h4 : ¬ (hi < b)) (h5 : (!(decide (lo = (-1000000)))) = true) (h6 : cmpV [] .NotIn (V.d (D.int (lo))) (V.d (D.list (ms.map D.int))) = some false) (h7 : (!(decide (hi = 1000000))) = false) (h8 : evS (gen B04 H04 (d + 1 + 1 + 1) (Str.ofString "law")) (stAt B04 9 8) [(Str.ofString "_law_script", V.d (D.list (ns.map D.int))), (Str.ofString "_law_xs", V.d (D.list [D.int (x0), D.int (x1)])), (Str.ofString "_law_one", V.d (D.tup [D.int (a), D.int (b)])), (Str.ofString "_law_marks_here", V.d (D.list (ms.map D.int))), (Str.ofString "_law_handed", V.d (D.list (ms.map D.int))), (Str.ofString "_law_found", V.d (D.tup [D.int (lo), D.int (hi)]))] [] = some (Fl.next, [(Str.ofString "_law_script", V.d (D.list (ns.map D.int))), (Str.ofString "_law_xs", V.d (D.list [D.int (x0), D.int (x1)])), (Str.ofString "_law_one", V.d (D.tup [D.int (a), D.int (b)])), (Str.ofString "_law_marks_here", V.d (D.list (ms.map D.int))), (Str.ofString "_law_handed", V.d (D.list (ms.map D.int))), (Str.ofString "_law_found", V.d (D.tup [D.int (lo), D.int (hi)])), (Str.ofString "_law_mark", om)], [])) (σ : St) : callN B04 H04 (d + 1 + 1 + 1 + 1) (Str.ofString "law") [V.d (D.list (ns.map D.int))] σ = some (V.d (D.bool (true)), σ) :=
  path (ds := [D.list (ns.map D.int)]) (i := 9) (x := D.bool (true)) (P := (callN B04 H04 (d + 1 + 1 + 1) (Str.ofString "_law_cell_at") [V.d (D.list (ns.map D.int)), V.d (D.int (0))] [] = some (V.d (D.int (c0)), [])) ∧ (callN B04 H04 (d + 1 + 1 + 1) (Str.ofString "_law_stream") [V.d (D.int (c0)), V.d (D.int (2))] [] = some (V.d (D.list [D.int (x0), D.int (x1)]), [])) ∧ (callN B04 H04 (d + 1 + 1 + 1) (Str.ofString "_law_stretch") [V.d (D.int (x0)), V.d (D.int (x1))] [] = some (V.d (D.tup [D.int (a), D.int (b)]), [])) ∧ (callN B04 H04 (d + 1 + 1 + 1) (Str.ofString "_law_marks") [V.d (D.list (ns.map D.int)), V.d (D.tup [D.int (a), D.int (b)])] [] = some (V.d (D.list (ms.map D.int)), [])) ∧ (bfV [] .list [V.d (D.list (ms.map D.int))] = some (V.d (D.list (ms.map D.int)))) ∧ (callN B04 H04 (d + 1 + 1 + 1) (Str.ofString "rounded") [V.d (D.tup [D.int (a), D.int (b)]), V.d (D.list (ms.map D.int))] [] = some (V.d (D.tup [D.int (lo), D.int (hi)]), [])) ∧ (callN B04 H04 (d + 1 + 1 + 1) (Str.ofString "_law_is_stretch") [V.d (D.tup [D.int (lo), D.int (hi)])] [] = some (V.d (D.bool (true)), [])) ∧ (cmpV [] .NotEq (V.d (D.list (ms.map D.int))) (V.d (D.list (ms.map D.int))) = some false) ∧ (some (decide (lo > a)) = some false) ∧ (some (decide (hi < b)) = some false) ∧ (some (!(decide (lo = (-1000000)))) = some true) ∧ (cmpV [] .NotIn (V.d (D.int (lo))) (V.d (D.list (ms.map D.int))) = some false) ∧ (some (!(decide (hi = 1000000))) = some false) ∧ (some (!(decide (hi = 1000000))) = some false) ∧ (evS (gen B04 H04 (d + 1 + 1 + 1) (Str.ofString "law")) (stAt B04 9 8) [(Str.ofString "_law_script", V.d (D.list (ns.map D.int))), (Str.ofString "_law_xs", V.d (D.list [D.int (x0), D.int (x1)])), (Str.ofString "_law_one", V.d (D.tup [D.int (a), D.int (b)])), (Str.ofString "_law_marks_here", V.d (D.list (ms.map D.int))), (Str.ofString "_law_handed", V.d (D.list (ms.map D.int))), (Str.ofString "_law_found", V.d (D.tup [D.int (lo), D.int (hi)]))] [] = some (Fl.next, [(Str.ofString "_law_script", V.d (D.list (ns.map D.int))), (Str.ofString "_law_xs", V.d (D.list [D.int (x0), D.int (x1)])), (Str.ofString "_law_one", V.d (D.tup [D.int (a), D.int (b)])), (Str.ofString "_law_marks_here", V.d (D.list (ms.map D.int))), (Str.ofString "_law_handed", V.d (D.list (ms.map D.int))), (Str.ofString "_law_found", V.d (D.tup [D.int (lo), D.int (hi)])), (Str.ofString "_law_mark", om)], [])) ∧ some (D.bool (true)) = some (D.bool (true))) [(0, Tell.w (V.d (D.int (c0))) []), (1, Tell.w (V.d (D.list [D.int (x0), D.int (x1)])) []), (4, Tell.w (V.d (D.tup [D.int (a), D.int (b)])) []), (5, Tell.w (V.d (D.list (ms.map D.int))) []), (6, Tell.v (V.d (D.list (ms.map D.int)))), (7, Tell.w (V.d (D.tup [D.int (lo), D.int (hi)])) []), (8, Tell.w (V.d (D.bool (true))) []), (11, Tell.b false), (16, Tell.b false), (20, Tell.b false), (23, Tell.b true), (25, Tell.b false), (29, Tell.b false), (30, Tell.b false), (31, Tell.f Fl.next [(Str.ofString "_law_script", V.d (D.list (ns.map D.int))), (Str.ofString "_law_xs", V.d (D.list [D.int (x0), D.int (x1)])), (Str.ofString "_law_one", V.d (D.tup [D.int (a), D.int (b)])), (Str.ofString "_law_marks_here", V.d (D.list (ms.map D.int))), (Str.ofString "_law_handed", V.d (D.list (ms.map D.int))), (Str.ofString "_law_found", V.d (D.tup [D.int (lo), D.int (hi)])), (Str.ofString "_law_mark", om)] [])] L04_f_law (L04_imp _) (by kernel_rfl) ⟨hc1 _, hc2 _, hc3 _, hc4 _, h1, hc5 _, hc6 _, h2, dF h3, dF h4, congrArg some h5, h6, congrArg some h7, congrArg some h7, h8, rfl⟩ σ
theorem L04_law (d : Nat) (ns : List Int) (hn : ns.length ≤ 63) : callN B04 H04 (d + 1 + 1 + 1 + 1) (Str.ofString "law") [.d (.list (ns.map .int))] [] = some (.d (.bool true), []) := by
  have mem0 : ∀ {a : Int} {r : List Int}, a ∈ a :: r := List.mem_cons_self
  have mem1 : ∀ {a b : Int} {r : List Int}, b ∈ a :: b :: r := List.mem_cons_of_mem _ List.mem_cons_self
  have mem2 : ∀ {a b c : Int} {r : List Int}, c ∈ a :: b :: c :: r := List.mem_cons_of_mem _ (List.mem_cons_of_mem _ List.mem_cons_self)
  have mem3 : ∀ {a b c d : Int} {r : List Int}, d ∈ a :: b :: c :: d :: r := List.mem_cons_of_mem _ (List.mem_cons_of_mem _ (List.mem_cons_of_mem _ List.mem_cons_self))
  have mem4 : ∀ {a b c d e : Int} {r : List Int}, e ∈ a :: b :: c :: d :: e :: r := List.mem_cons_of_mem _ (List.mem_cons_of_mem _ (List.mem_cons_of_mem _ (List.mem_cons_of_mem _ List.mem_cons_self)))
  obtain ⟨c0, ec0⟩ := L04_cell_at (d + 1 + 1) ns 0 (by omega) (by omega) hn
  obtain ⟨xs, hx, bx, ex⟩ := L04_stream (d + 1 + 1) c0 2 (by omega) (by omega)
  obtain ⟨x0, x1, rfl⟩ := len2 (show xs.length = 2 from hx)
  obtain ⟨a, b, ha, hab, hb, es⟩ := L04_stretch (d + 1) x0 x1 (bx x0 mem0).1 (bx x1 mem1).1
  obtain ⟨vs, hv, hr, em⟩ := L04_marks (d + 1) ns a b hn
  have hl := marksOf_len (vs := vs)
  have er := L04_rounded (d + 1 + 1) a b (marksOf vs) (by omega)
  have ei := L04_is_stretch_s_0 (d + 1) (lowR a (marksOf vs)) (hiR b (marksOf vs)) (L04_whole_0 (d + 1) _) (L04_whole_0 (d + 1) _)
  obtain ⟨⟨p1, q1, r1⟩, p2, q2, r2⟩ := rounded_law (a := a) (b := b) (marksOf_up vs) (fun m hm => hr m (marksOf_mem.mp hm)) ha hb
  obtain ⟨ρ', el, hρ⟩ := L04_wl d ns x0 x1 a b (marksOf vs) (lowR a (marksOf vs)) (hiR b (marksOf vs)) r1 r2
  rcases hρ with rfl | ⟨om, rfl⟩
  · by_cases g1 : lowR a (marksOf vs) = -1000000
    · by_cases g2 : hiR b (marksOf vs) = 1000000
      · exact L04_law_e_FFFF _ _ _ _ _ _ _ _ _ _ (ec0) (ex) (es) (em) (list_ints (by omega)) (er) (ei) (ne_ints) (Int.not_lt.mpr p1) (Int.not_lt.mpr p2) (by rw [decide_eq_true g1]; rfl) (by rw [decide_eq_true g2]; rfl) (el) []
      · exact L04_law_e_FFFT _ _ _ _ _ _ _ _ _ _ (ec0) (ex) (es) (em) (list_ints (by omega)) (er) (ei) (ne_ints) (Int.not_lt.mpr p1) (Int.not_lt.mpr p2) (by rw [decide_eq_true g1]; rfl) (by rw [decide_eq_false g2]; rfl) (notin_ints (q2.resolve_left g2)) (el) []
    · by_cases g2 : hiR b (marksOf vs) = 1000000
      · exact L04_law_e_FFTF _ _ _ _ _ _ _ _ _ _ (ec0) (ex) (es) (em) (list_ints (by omega)) (er) (ei) (ne_ints) (Int.not_lt.mpr p1) (Int.not_lt.mpr p2) (by rw [decide_eq_false g1]; rfl) (notin_ints (q1.resolve_left g1)) (by rw [decide_eq_true g2]; rfl) (el) []
      · exact L04_law_e_FFTT _ _ _ _ _ _ _ _ _ _ (ec0) (ex) (es) (em) (list_ints (by omega)) (er) (ei) (ne_ints) (Int.not_lt.mpr p1) (Int.not_lt.mpr p2) (by rw [decide_eq_false g1]; rfl) (notin_ints (q1.resolve_left g1)) (by rw [decide_eq_false g2]; rfl) (notin_ints (q2.resolve_left g2)) (el) []
  · by_cases g1 : lowR a (marksOf vs) = -1000000
    · by_cases g2 : hiR b (marksOf vs) = 1000000
      · exact L04_law_n_FFFF _ _ _ _ _ _ _ _ _ _ _ (ec0) (ex) (es) (em) (list_ints (by omega)) (er) (ei) (ne_ints) (Int.not_lt.mpr p1) (Int.not_lt.mpr p2) (by rw [decide_eq_true g1]; rfl) (by rw [decide_eq_true g2]; rfl) (el) []
      · exact L04_law_n_FFFT _ _ _ _ _ _ _ _ _ _ _ (ec0) (ex) (es) (em) (list_ints (by omega)) (er) (ei) (ne_ints) (Int.not_lt.mpr p1) (Int.not_lt.mpr p2) (by rw [decide_eq_true g1]; rfl) (by rw [decide_eq_false g2]; rfl) (notin_ints (q2.resolve_left g2)) (el) []
    · by_cases g2 : hiR b (marksOf vs) = 1000000
      · exact L04_law_n_FFTF _ _ _ _ _ _ _ _ _ _ _ (ec0) (ex) (es) (em) (list_ints (by omega)) (er) (ei) (ne_ints) (Int.not_lt.mpr p1) (Int.not_lt.mpr p2) (by rw [decide_eq_false g1]; rfl) (notin_ints (q1.resolve_left g1)) (by rw [decide_eq_true g2]; rfl) (el) []
      · exact L04_law_n_FFTT _ _ _ _ _ _ _ _ _ _ _ (ec0) (ex) (es) (em) (list_ints (by omega)) (er) (ei) (ne_ints) (Int.not_lt.mpr p1) (Int.not_lt.mpr p2) (by rw [decide_eq_false g1]; rfl) (notin_ints (q1.resolve_left g1)) (by rw [decide_eq_false g2]; rfl) (notin_ints (q2.resolve_left g2)) (el) []
end Mine
end

section
open PySem PySem.W PyProof.Rows
set_option Elab.async false
set_option maxRecDepth 100000
set_option maxHeartbeats 8000000
set_option linter.unusedVariables false
namespace Mine
noncomputable def pick (is : List Nat) (b : List Stmt) : List Stmt := is.filterMap fun i => b[i]?
noncomputable def viewOf (p : Program) (is : List Nat) : Program := { p with main := { p.main with body := pick is p.main.body } }
noncomputable abbrev Q04 : Program := viewOf PySem.Challenge.rw_uf010002_04.prog [1, 2, 4, 5, 6, 7, 8, 9, 10, 11, 12]
theorem ok04 : (B04.filterMap fnRec?).all (okFn fun x => H04.consts.lookup x) = true := by decide +kernel
theorem z04 : PySem.Challenge.rw_uf010002_04.Holds := by
  w_on
  refine holds_law (by decide +kernel) fun said => ?_
  refine holds_open (q := Q04) (loose := []) (Xt := fun s => xlAt Q04 [] s && recOk (RowW.records PySem.Challenge.rw_uf010002_04.row.toRowW) s) (XP := XL Q04 []) (Yf := Hook.obs Hook.none) (Ya := Hook.val Hook.none) (YP := Hook.says Hook.none) (N := 3000) ?hl (Hook.of Hook.none) (Hook.keeps Hook.none) (fun s e => xl_of s (Bool.and_eq_true_iff.mp e).1) XL.keeps (by rfl) (by rfl) (by rfl) (fun s e => recFacts_of (Bool.and_eq_true_iff.mp e).2) (by rfl) (by first | assumption | decide +kernel) (by decide +kernel) ⟨rfl, rfl, rfl, rfl, rfl, by decide +kernel⟩ ?hw ?hc
  case hw => w_witness2
  case hl => exact fun w => by kernel_rfl
  case hc => exact Mine.law_walk Mine.H04 3 (by kernel_rfl) Mine.ok04 (by decide +kernel) (by decide +kernel) rfl (by decide) fun ns hn => Mine.L04_law 0 ns hn
end Mine
end

set_option maxRecDepth 100000 in
set_option maxHeartbeats 8000000 in
theorem PySem.Challenge.cw_uf010002_04_holds : PySem.Challenge.rw_uf010002_04.Holds := by
  exact Mine.z04
