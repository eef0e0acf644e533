import PyProof.Rows.All
import HandS.TupSets
import HandS.ForMost
import KE.SortData
import HandS.Walk
import HandS.Flow
import HandS.Exc
import HandS.HeadHook1
import HandS.TupAny
import HandS.TupMul
import HandS.IsInst
import HandS.Zip
import HandS.NoneIn
import HandS.Small
import HandS.More
import HandS.Defaults
import HandS.Codes
import HandS.Words
import KE.KStateDown
import HandS.Ends
import HandS.WordsExc
import HandS.Head0
import HandS.Head1
import HandS.Head2
import HandS.HeadEnd
import HandS.HeadHook2
import HandS.Star
import PyProof.TupleOfSeq
import PyProof.CollectStr
import KE.DataFind
import PyProof.AutoSeq1
import KE.DataMinMax
import PyProof.WalksMore
import HandS.DictComp
import HandS.Style
import HandS.RaiseMore
import KE.GoesMore
import HandS.HeadHook4
import PySem.Challenge.RW_filldowns_k75_what_marks_are
set_option Elab.async false
set_option linter.all false
set_option maxRecDepth 100000
set_option maxHeartbeats 0
/-! Fs1: sets of tuples of whole numbers and texts: search, add. -/
namespace Fd
open PySem PySem.Spec PyProof.Rows L2
abbrev KTup (P : Program) (w : World) (h : Heap) (k : List Key) (a : Addr) : Prop := IsTupleKey (mixKind P w) h k a
abbrev kH (P : Program) (w : World) (k : List Key) : Int := tupleKeyHash (mixKind P w) k
/-- an item of such a tuple -/
def Atm (v : Value) : Prop := (∃ i t, v = .int i t) ∨ ∃ x t, v = .str x t
section
variable {P : Program} {w : World} {A : Around} {E : Value → Shared → Prop} {s : Shared}
theorem atms_of {k : List Key} {vs : List Value} (h : ItemsAre (mixKind P w) k vs) : ∀ v ∈ vs, Atm v := by
  induction h with
  | nil => exact fun v hv => nomatch hv
  | @cons k0 v' ks vs h1 _ ih =>
    intro v hv
    rcases List.mem_cons.mp hv with rfl | hv
    · rcases keyIs_shape h1 with ⟨i, t, e, _⟩ | ⟨x, t, e, _⟩
      · first | exact .inl ⟨i, t, e⟩ | exact .inl ⟨i, t, by assumption⟩
      · first | exact .inr ⟨x, t, e⟩ | exact .inr ⟨x, t, by assumption⟩
    · exact ih v hv
theorem atm_class {v : Value} (h : Atm v) (n : Nat) : ofAClassStatement n v = pure false := by
  rcases h with ⟨i, t, rfl⟩ | ⟨x, t, rfl⟩ <;> cases n <;> rfl
theorem atm_hash {v : Value} (h : Atm v) (n : Nat) : ∃ b, hashByValue n v = pure b := by
  rcases h with ⟨i, t, rfl⟩ | ⟨x, t, rfl⟩ <;> cases n <;> exact ⟨_, rfl⟩
theorem ktup_class {k : List Key} {b : Addr} {Q : Bool → Shared → Prop} (hk : KTup P w s.heap k b) (q : Q false s) : wpAny (model P w) A (ofAClassStatement 8 (.ref b)) Q E s := by
  have ty := hk.typeIs
  obtain ⟨o, its, n, ho, _, od, oi⟩ := hk
  unfold ofAClassStatement
  refine wpAny_bind (wpAny_typeOf ty ?_)
  dsimp only
  have tt : (("tuple" : String) == "tuple") = true := by decide
  simp only [tt, if_true, Bool.not_true, Bool.false_eq_true, if_false]
  try refine wpAny_bind (wpAny_pure ?_)
  try simp only [Bool.not_true, Bool.false_eq_true, if_false]
  show wpAny _ _ (seqItems? (.ref b) >>= _) _ _ s
  refine wpAny_bind (wpAny_seqItems ho od ?_)
  dsimp only
  refine wpAny_bind ?_
  show wpAny _ _ (forIn its _ _) _ _ s
  rw [← Array.forIn_toList]
  refine wpAny_forIn_list _ (fun left r s1 => (r.1 = none ∧ s1 = s) ∧ ∀ v ∈ left, Atm v) _ ?_ ?_ _ _ ⟨⟨rfl, rfl⟩, atms_of oi⟩
  · rintro v left r s1 ⟨⟨hr, rfl⟩, al⟩
    rw [atm_class (al v List.mem_cons_self)]
    refine wpAny_bind (wpAny_pure ?_)
    simp only [Bool.false_eq_true, if_false]
    exact wpAny_pure ⟨⟨rfl, rfl⟩, fun u hu => al u (List.mem_cons_of_mem _ hu)⟩
  · rintro ⟨r1, r2⟩ s1 ⟨⟨hr, rfl⟩, _⟩
    simp only at hr
    subst hr
    exact wpAny_pure q
theorem ktup_hash {k : List Key} {b : Addr} {Q : Bool → Shared → Prop} (hk : KTup P w s.heap k b) (q : ∀ c, Q c s) : wpAny (model P w) A (hashByValue 8 (.ref b)) Q E s := by
  have ty := hk.typeIs
  obtain ⟨o, its, n, ho, _, od, oi⟩ := hk
  unfold hashByValue
  refine wpAny_bind (wpAny_specialOf ty F.slot_tuple_hash.lookup ?_)
  show wpAny _ _ (seqItems? (.ref b) >>= _) _ _ s
  refine wpAny_bind (wpAny_seqItems ho od ?_)
  refine wpAny_bind ?_
  show wpAny _ _ (forIn its _ _) _ _ s
  rw [← Array.forIn_toList]
  refine wpAny_forIn_list _ (fun left r s1 => s1 = s ∧ ∀ v ∈ left, Atm v) _ ?_ ?_ _ _ ⟨rfl, atms_of oi⟩
  · rintro v left r s1 ⟨rfl, al⟩
    obtain ⟨c, e⟩ := atm_hash (al v List.mem_cons_self) 7
    rw [e]
    refine wpAny_bind (wpAny_pure ?_)
    cases c with
    | true =>
      simp only [Bool.not_true, Bool.false_eq_true, if_false]
      exact wpAny_pure ⟨rfl, fun u hu => al u (List.mem_cons_of_mem _ hu)⟩
    | false =>
      simp only [Bool.not_false, if_true]
      exact wpAny_pure (wpAny_pure (q _))
  · rintro ⟨r1, r2⟩ s1 ⟨rfl, _⟩
    cases r1 with
    | none => exact wpAny_pure (q _)
    | some c => exact wpAny_pure (q _)
theorem ktup_seen {k : List Key} {b : Addr} {Q : Bool → Shared → Prop} (hk : KTup P w s.heap k b) {ys : List Value} (hy : ∀ y ∈ ys, ∃ k1 c, y = Value.ref c ∧ KTup P w s.heap k1 c) (q : Q false s) :
    wpAny (model P w) A (searchCouldBeSeen (.ref b) ys) Q E s := by
  unfold searchCouldBeSeen
  refine wpAny_bind ?_
  refine wpAny_forIn_list _ (fun left r s1 => (r.1 = none ∧ s1 = s) ∧ ∀ y ∈ left, ∃ k1 c, y = Value.ref c ∧ KTup P w s.heap k1 c) _ ?_ ?_ _ _ ⟨⟨rfl, rfl⟩, hy⟩
  · rintro v left r s1 ⟨⟨hr, rfl⟩, al⟩
    obtain ⟨k1, c, rfl, hc⟩ := al v List.mem_cons_self
    have al1 : ∀ y ∈ left, ∃ k1 c, y = Value.ref c ∧ KTup P w s1.heap k1 c := fun u hu => al u (List.mem_cons_of_mem _ hu)
    dsimp only
    by_cases g : (b == c || (carriedByValue (.ref b) && carriedByValue (.ref c))) = true
    · exact wp_if_pos g (wpAny_pure ⟨⟨rfl, rfl⟩, al1⟩)
    · refine wp_if_neg g (wpAny_bind (wpAny_eqIsQuiet_tuple hk ?_))
      simp only [Bool.not_true, Bool.false_eq_true, if_false]
      refine wpAny_bind (wpAny_eqIsQuiet_tuple hc ?_)
      simp only [Bool.not_true, Bool.false_eq_true, if_false]
      refine wpAny_bind (ktup_class hk ?_)
      simp only [Bool.false_eq_true, if_false]
      refine wpAny_bind (ktup_class hc ?_)
      simp only [Bool.false_eq_true, if_false]
      exact wpAny_pure ⟨⟨rfl, rfl⟩, al1⟩
  · rintro ⟨r1, r2⟩ s1 ⟨⟨hr, rfl⟩, _⟩
    simp only at hr
    subst hr
    exact wpAny_pure q
end

/-! ### the set -/
abbrev KL := List (Addr × List Key)
def rowK (P : Program) (w : World) (p : Addr × List Key) : Int × Value := (kH P w p.2, .ref p.1)
structure KSet (P : Program) (w : World) (h : Heap) (a : Addr) (L : KL) (es : Array (Int × Value)) (ep : Nat) (t : SetTable) : Prop where
  ob : ∃ o, h.get? a = some o ∧ o.ExactSet ∧ o.data = .set es ep t
  rows : es.toList = L.map (rowK P w)
  tab : TabOk t (L.map fun p => kH P w p.2)
  uniq : (L.map (·.2)).Nodup
  keys : ∀ p ∈ L, KTup P w h p.2 p.1
  led : w.params.followText "set-order" = true ∨ t.led = true
  room : L.length * 5 < t.mask * 3
  few : L.length < 64
section
variable {P : Program} {w : World} {A : Around} {E : Value → Shared → Prop} {s : Shared} {h : Heap} {a : Addr} {L : KL} {es : Array (Int × Value)} {ep : Nat} {t : SetTable}
theorem len_rows (r : es.toList = L.map (rowK P w)) : es.size = L.length := by
  have e := congrArg List.length r
  simpa using e
theorem fits_of (n : es.size = L.length) (sz : t.place.size = L.length) (dm : t.dummies = #[]) (le : L.length ≤ t.mask) : t.fits es.size = true := by
  unfold SetTable.fits SetTable.fill
  rw [dm, Bool.and_eq_true, beq_iff_eq, decide_eq_true_eq]
  show t.place.size = es.size ∧ t.place.size + 0 ≤ t.mask
  omega
theorem KSet.sz (R : KSet P w h a L es ep t) : t.place.size = L.length := by
  have e := R.tab.sz
  simpa using e
theorem KSet.fit (R : KSet P w h a L es ep t) : t.fits es.size = true := fits_of (len_rows R.rows) R.sz R.tab.dm (by have := R.room; omega)
theorem KSet.at' (R : KSet P w h a L es ep t) {i : Nat} {p : Addr × List Key} (e : L[i]? = some p) : es[i]? = some (kH P w p.2, Value.ref p.1) := by
  rw [← Array.getElem?_toList, R.rows, List.getElem?_map, e]
  rfl
theorem KSet.way (R : KSet P w h a L es ep t) : ¬ t.gaveWay = true := by
  unfold SetTable.gaveWay
  rw [mask_odd R.tab.mok]
  decide
abbrev wy (t : SetTable) (h : Int) (c : Nat) : Nat := L2.way t.mask h c
abbrev st0 (t : SetTable) (h : Int) : SetTable.Probe := runAt t.mask (SetTable.bits h % (t.mask + 1)) (SetTable.bits h)
theorem nth_dummy (m : Nat) : ∀ (n : Nat) (p : SetTable.Probe), p.dummy = none → (nth m p n).dummy = none
  | 0, _, h => h
  | n + 1, p, h => nth_dummy m n (adv m p) (by unfold adv; split <;> exact h)
/-- the way goes on from step c; the slot of the key, if it is there, isn't passed yet -/
theorem ks_from (R : KSet P w s.heap a L es ep t) {x : Addr} {k : List Key} (hx : KTup P w s.heap k x) (hu : A.units < cLine) {B : Nat} (hB : B < 10 * SetTable.turns t.mask) (bE : wy t (kH P w k) B ∉ t.place.toList) (bL : ∀ c, c < B → wy t (kH P w k) c ∈ t.place.toList)
    {Q : SetFound → Shared → Prop} (yes : k ∈ L.map (·.2) → Q (.there none) s) (no : k ∉ L.map (·.2) → Q (.free (wy t (kH P w k) B) false) s) :
    ∀ (f c : Nat) (sd : Option SetTable.Probe), sd.getD (t.probeStart (kH P w k)) = nth t.mask (st0 t (kH P w k)) c → c ≤ B → B - c < f → (∀ (i : Nat) p, L[i]? = some p → p.2 = k → ∃ d, c ≤ d ∧ d < B ∧ t.place.toList[i]? = some (wy t (kH P w k) d)) →
      wpAny (model P w) A (setSearchFrom a (.ref x) (kH P w k) true f sd) Q E s
  | 0, _, _, _, _, z, _ => absurd z (Nat.not_lt_zero _)
  | f + 1, c, sd, hsd, hc, hf, hre => by
    obtain ⟨o, ho, ox, od⟩ := R.ob
    rw [setSearchFrom_succ]
    refine wpAny_bind (wpAny_setState_of ho od R.fit ?_)
    dsimp only
    refine wp_if_neg R.way ?_
    try refine wpAny_bind (wpAny_pure ?_)
    have go : ∀ q, nth t.mask (nth t.mask (st0 t (kH P w k)) c) q = nth t.mask (st0 t (kH P w k)) (c + q) := fun q => (nth_add t.mask c _ q).symm
    have gj : ∀ q, (nth t.mask (nth t.mask (st0 t (kH P w k)) c) q).j = wy t (kH P w k) (c + q) := fun q => congrArg SetTable.Probe.j (go q)
    have hsh : ∀ (i : Nat) p, L[i]? = some p → ((es[i]?).map (·.1)).getD 0 = kH P w p.2 := fun i p e => by rw [R.at' e]; rfl
    have sp := go_spec t R.tab.ris R.tab.dm (fun i => ((es[i]?).map (·.1)).getD 0) (kH P w k) (10 * SetTable.turns t.mask) (B - c) _ (nth_dummy _ c (st0 t (kH P w k)) rfl) (by omega)
      (fun q hq => by rw [gj]; exact bL (c + q) (by omega)) (by rw [gj, Nat.add_sub_cancel' hc]; exact bE)
    rcases sp with ⟨q, i, hq, hi, _, hno, pr⟩ | ⟨hno, pr⟩
    · have pr1 : t.probe (fun i => ((es[i]?).map (·.1)).getD 0) (kH P w k) (sd.getD (t.probeStart (kH P w k))) = some (.candidate (wy t (kH P w k) (c + q)) i (nth t.mask (st0 t (kH P w k)) (c + (q + 1)))) := by
        rw [hsd, ← gj, ← go]; exact pr
      rw [pr1]
      dsimp only
      rw [gj] at hi
      have il : i < L.length := by
        have z := (List.getElem?_eq_some_iff.mp hi).1
        rw [Array.length_toList, R.sz] at z
        exact z
      obtain ⟨p, hp⟩ : ∃ p, L[i]? = some p := ⟨_, List.getElem?_eq_getElem il⟩
      have pm : p ∈ L := List.mem_of_getElem? hp
      have slot : t.slot (wy t (kH P w k) (c + q)) = .live i := slot_live R.tab.ris hi
      have tail : wpAny (model P w) A (searchRest a (.ref x) (kH P w k) true f es t (wy t (kH P w k) (c + q)) i (nth t.mask (st0 t (kH P w k)) (c + (q + 1)))) Q E s := by
        unfold searchRest
        rw [R.at' hp]
        dsimp only
        refine wpAny_bind (wpAny_holding (wpAny_eqBool_tuple hu (R.keys p pm) hx ?_))
        refine wpAny_bind (wpAny_setState_of ho od R.fit ?_)
        dsimp only
        by_cases ek : p.2 = k
        · exact wp_if_pos (by simp [ek]) (wpAny_pure (yes (List.mem_map.mpr ⟨p, pm, ek⟩)))
        · refine wp_if_neg (by simp [ek]) ?_
          try refine wpAny_bind (wpAny_pure ?_)
          rw [sameMem]
          dsimp only
          simp only [if_true, slot, R.at' hp]
          refine wpAny_bind (wpAny_isSame_ref_self (wpAny_bind (wpAny_pure ?_)))
          simp only [if_true]
          refine wp_if_neg (by simp [ek]) ?_
          refine ks_from R hx hu hB bE bL yes no f (c + (q + 1)) _ rfl (by omega) (by omega) fun i0 p0 h0 k0 => ?_
          obtain ⟨d, d1, d2, d3⟩ := hre i0 p0 h0 k0
          refine ⟨d, ?_, d2, d3⟩
          by_cases lt : d < c + q
          · exact absurd ((hsh i0 p0 h0).trans (congrArg (kH P w) k0)) (hno (d - c) i0 (by omega) (by rw [gj, Nat.add_sub_cancel' d1]; exact d3))
          · by_cases eq : d = c + q
            · rw [eq] at d3
              have z := slot_live R.tab.ris d3
              rw [slot] at z
              injection z with z
              rw [← z, hp] at h0
              cases h0
              exact absurd k0 ek
            · omega
      by_cases ld : t.led = true
      · refine wp_if_neg (by simp [ld]) ?_
        try refine wpAny_bind (wpAny_pure ?_)
        exact tail
      · refine wp_if_pos (by simp [ld]) ?_
        refine wpAny_bind (ktup_seen hx (fun y hy => ?_) ?_)
        · obtain ⟨e, he, rfl⟩ := List.mem_map.mp hy
          have he : e ∈ es ∧ e.1 = kH P w k := by simpa using he
          have he2 : e ∈ es.toList := by simpa using he.1
          rw [R.rows] at he2
          obtain ⟨p2, m2, rfl⟩ := List.mem_map.mp he2
          exact ⟨p2.2, p2.1, rfl, R.keys p2 m2⟩
        · refine wp_if_neg (by decide) ?_
          try refine wpAny_bind (wpAny_pure ?_)
          exact tail
    · have pr1 : t.probe (fun i => ((es[i]?).map (·.1)).getD 0) (kH P w k) (sd.getD (t.probeStart (kH P w k))) = some (.empty (wy t (kH P w k) B) none) := by
        have e2 := gj (B - c)
        rw [Nat.add_sub_cancel' hc] at e2
        rw [hsd, ← e2]; exact pr
      rw [pr1]
      dsimp only
      refine wpAny_pure (no fun hm => ?_)
      obtain ⟨p0, m0, k0⟩ := List.mem_map.mp hm
      obtain ⟨i0, l0, e0⟩ := List.getElem_of_mem m0
      have h0 : L[i0]? = some p0 := by rw [List.getElem?_eq_getElem l0, e0]
      obtain ⟨d, d1, d2, d3⟩ := hre i0 p0 h0 k0
      exact hno (d - c) i0 (by omega) (by rw [gj, Nat.add_sub_cancel' d1]; exact d3) ((hsh i0 p0 h0).trans (congrArg (kH P w) k0))
theorem ks_search (R : KSet P w s.heap a L es ep t) {x : Addr} {k : List Key} (hx : KTup P w s.heap k x) (hu : A.units < cLine) {Q : SetFound → Shared → Prop} (yes : k ∈ L.map (·.2) → Q (.there none) s)
    (no : ∀ B, k ∉ L.map (·.2) → wy t (kH P w k) B ∉ t.place.toList → (∀ c, c < B → wy t (kH P w k) c ∈ t.place.toList) → Q (.free (wy t (kH P w k) B) false) s) : wpAny (model P w) A (setSearch a (.ref x) (kH P w k) true) Q E s := by
  have rm := R.room
  obtain ⟨B, hB, bE, bL⟩ := R.tab.first (by rw [List.length_map]; omega) (kH P w k)
  have big : B < 100000 := by
    have z : 10 * SetTable.turns t.mask ≤ 1420 := by
      unfold SetTable.turns
      rcases R.tab.mok with e | e | e <;> omega
    omega
  unfold setSearch
  refine ks_from R hx hu hB bE bL yes (fun n => no B n bE bL) 100000 0 none rfl (Nat.zero_le _) (by omega) fun i p hp ek => ?_
  have hi : (L.map fun p => kH P w p.2)[i]? = some (kH P w k) := by rw [List.getElem?_map, hp, ← ek]; rfl
  have il : i < t.place.toList.length := by
    rw [Array.length_toList, R.sz]
    exact (List.getElem?_eq_some_iff.mp hp).1
  have hj := List.getElem?_eq_getElem il
  obtain ⟨c, hc, e⟩ := R.tab.before bE hi hj
  exact ⟨c, Nat.zero_le _, hc, hj.trans (congrArg some e.symm)⟩
/-! ### adding -/
theorem KTup.same {h h' : Heap} {k : List Key} {a b : Addr} {o : Obj} {es : Array (Int × Value)} {ep : Nat} {t : SetTable} (hb : KTup P w h k b) (ho : h.get? a = some o) (od : o.data = .set es ep t) (sb : Heap.SameBut a h h') : KTup P w h' k b := by
  obtain ⟨o1, its, n, h1, c1, d1, i1⟩ := hb
  have ne : b ≠ a := fun e => by
    rw [e, ho] at h1; cases h1
    rw [od] at d1; cases d1
  exact ⟨o1, its, n, (sb.2 b ne).trans h1, c1, d1, i1⟩
theorem ord_rows (L : KL) (es : Array (Int × Value)) (r : es.toList = L.map (rowK P w)) : ∀ l : List Nat, (∀ i ∈ l, i < L.length) →
    l.filterMap (fun i => es[i]?) = (l.filterMap fun i => L[i]?).map (rowK P w) ∧ ((l.filterMap fun i => L[i]?).map fun p => kH P w p.2) = l.map fun i => (es.map (·.1)).getD i 0
  | [], _ => ⟨rfl, rfl⟩
  | i :: l, hl => by
    obtain ⟨e1, e2⟩ := ord_rows L es r l fun j hj => hl j (List.mem_cons_of_mem _ hj)
    obtain ⟨p, hp⟩ : ∃ p, L[i]? = some p := ⟨_, List.getElem?_eq_getElem (hl i List.mem_cons_self)⟩
    have he : es[i]? = some (rowK P w p) := by rw [← Array.getElem?_toList, r, List.getElem?_map, hp]; rfl
    rw [List.filterMap_cons_some he, List.filterMap_cons_some hp, e1]
    refine ⟨rfl, ?_⟩
    rw [List.map_cons, List.map_cons, e2]
    congr 1
    have z : (es.map (·.1))[i]? = some (kH P w p.2) := by rw [Array.getElem?_map, he]; rfl
    simp [Array.getD_eq_getD_getElem?, z]
theorem all_range {α : Type} (L : List α) : ∀ n, n ≤ L.length → (List.range n).filterMap (fun i => L[i]?) = L.take n
  | 0, _ => rfl
  | n + 1, h => by
    obtain ⟨p, hp⟩ : ∃ p, L[n]? = some p := ⟨_, List.getElem?_eq_getElem h⟩
    rw [List.range_succ, List.filterMap_append, all_range L n (Nat.le_of_lt h), List.take_succ, List.filterMap_cons_some hp, hp]
    rfl
theorem ks_relay {o : Obj} (ho : s.heap.get? a = some o) (ox : o.ExactSet) (od : o.data = .set es ep t) (rows : es.toList = L.map (rowK P w)) (sz : t.place.size = L.length) (dm : t.dummies = #[]) (le : L.length ≤ t.mask)
    (uq : (L.map (·.2)).Nodup) (ky : ∀ p ∈ L, KTup P w s.heap p.2 p.1) (ld : w.params.followText "set-order" = true ∨ t.led = true) (few : L.length < 64) {want B : Nat}
    (hw : SetTable.sizeAbove want - 1 = B) (hM : MaskOk B) (hw2 : SetTable.sizeAbove want ≤ 128) (hn : L.length * 5 < B * 3) {Q : Unit → Shared → Prop}
    (q : ∀ h1 L1 es1 ep1 t1, Heap.SameBut a s.heap h1 → KSet P w h1 a L1 es1 ep1 t1 → L1.Perm L → Q () { s with heap := h1 }) : wpAny (model P w) A (setRelay a want) Q E s := by
  have n0 := len_rows rows
  obtain ⟨t1, order, e, pm, T, em, el, _, _⟩ := relaid_ok t (hs := es.map (·.1)) (wanted := want) hw hM (by rw [Array.size_map, n0]; omega)
  rw [Array.size_map, n0] at pm
  obtain ⟨r1, r2⟩ := ord_rows L es rows order.toList fun i hi => List.mem_range.mp (pm.mem_iff.mp hi)
  generalize hL1 : (order.toList.filterMap fun i => L[i]?) = L1 at r1 r2
  have pL : L1.Perm L := by
    have z := pm.filterMap fun i => L[i]?
    rw [all_range L L.length (Nat.le_refl _), List.take_length] at z
    rw [← hL1]; exact z
  rw [← r2] at T
  have rows1 : (order.filterMap (es[·]?)).toList = L1.map (rowK P w) := by
    first | (rw [Array.toList_filterMap]; exact r1) | simpa using r1
  have n1 := (len_rows rows1).trans pL.length_eq
  rw [setRelay_eq]
  refine wpAny_bind (wpAny_setState_of ho od (fits_of n0 sz dm le) ?_)
  dsimp only
  refine wp_if_neg (by rw [sizeLine_eq]; omega) ?_
  try refine wpAny_bind (wpAny_pure ?_)
  rw [e]
  dsimp only
  refine wpAny_bind ?_
  refine wp_if_neg (by rw [n1, n0]; simp) ?_
  try refine wpAny_bind (wpAny_pure ?_)
  refine wpAny_pure ?_
  dsimp only
  refine wpAny_storeSet_of ho od ?_ (by rw [n1, sizeLine_eq]; omega)
  have sb : Heap.SameBut a s.heap (s.heap.update a (Obj.putSet (order.filterMap (es[·]?)) t1)) := Heap.SameBut.update ..
  refine q _ L1 _ (ep + 1) t1 sb ⟨⟨_, store_at ho od, ⟨ox.1, ox.2.1, ox.2.2⟩, rfl⟩, rows1, T, (pL.map (·.2)).nodup_iff.mpr uq, fun p hp => KTup.same (ky p (pL.mem_iff.mp hp)) ho od sb, by rw [el]; exact ld, ?_, ?_⟩ pL
  · rw [pL.length_eq, em]; exact hn
  · rw [pL.length_eq]; exact few
theorem ks_add (R : KSet P w s.heap a L es ep t) {x : Addr} {k : List Key} (hx : KTup P w s.heap k x) (hu : A.units < cLine) (few : L.length + 1 < 64) {Q : Bool → Shared → Prop}
    (q : ∀ b h1 L1 es1 ep1 t1, Heap.SameBut a s.heap h1 → KSet P w h1 a L1 es1 ep1 t1 → (k ∈ L.map (·.2) → L1 = L) → (k ∉ L.map (·.2) → L1.Perm ((x, k) :: L)) → Q b { s with heap := h1 }) :
    wpAny (model P w) A (setAddHashed a (.ref x) (kH P w k)) Q E s := by
  obtain ⟨o, ho, ox, od⟩ := R.ob
  have n0 := len_rows R.rows
  have rm := R.room
  unfold setAddHashed
  refine wpAny_holding ?_
  rw [show (100000 : Nat) = 99999 + 1 from rfl, setAddHashedIn_succ]
  refine wpAny_bind (wpAny_setState_of ho od R.fit ?_)
  dsimp only
  refine wp_if_neg (by simp [byScan, Value.scannable]) ?_
  try refine wpAny_bind (wpAny_pure ?_)
  refine wpAny_bind (ks_search R hx hu (fun hm => ?_) fun B hm bE bL => ?_)
  · exact wpAny_pure (q false s.heap L es ep t (Heap.SameBut.refl a s.heap) R (fun _ => rfl) fun z => absurd hm z)
  · dsimp only
    refine wpAny_bind (wpAny_setState_of ho od R.fit ?_)
    dsimp only
    obtain ⟨q1, q2, q3, q4, q5, q6, q7, q8, q9⟩ := R.tab.put bE bL
    generalize hpt : t.put (L2.way t.mask (kH P w k) B) = pt at q1 q3 q4 q5 q6 q7 q8 q9 ⊢
    obtain ⟨t1, j⟩ := pt
    dsimp only at q1 q3 q4 q5 q6 q7 q8 q9 ⊢
    generalize hj : SetTable.below t.place (L2.way t.mask (kH P w k) B) = j1 at q1 q2 q3
    subst q1
    have rows1 : (SetTable.insertAt es j (kH P w k, Value.ref x)).toList = (L.take j ++ (x, k) :: L.drop j).map (rowK P w) := by
      rw [SetTable.toList_insertAt, R.rows, List.map_append, List.map_cons, List.map_take, List.map_drop]
      rfl
    have pm := put_perm L j (x, k)
    have hs1 : (L.map fun p => kH P w p.2).take j ++ kH P w k :: (L.map fun p => kH P w p.2).drop j = (L.take j ++ (x, k) :: L.drop j).map fun p => kH P w p.2 := by
      rw [List.map_append, List.map_cons, List.map_take, List.map_drop]
    rw [hs1] at q3
    have uq1 : ((L.take j ++ (x, k) :: L.drop j).map (·.2)).Nodup := by
      refine (pm.map (·.2)).nodup_iff.mpr ?_
      rw [List.map_cons]
      exact List.nodup_cons.mpr ⟨hm, R.uniq⟩
    have ln1 : (L.take j ++ (x, k) :: L.drop j).length = L.length + 1 := pm.length_eq
    have ne1 := (len_rows rows1).trans ln1
    generalize SetTable.insertAt es j (kH P w k, Value.ref x) = es1 at rows1 ne1 ⊢
    generalize L.take j ++ (x, k) :: L.drop j = L1 at pm ln1 q3 uq1 rows1
    -- what follows, whatever plain becomes
    have fin : ∀ t2 : SetTable, TabOk t2 (L1.map fun p => kH P w p.2) → t2.mask = t.mask → t2.led = t.led → t2.tooFull = t1.tooFull → wpAny (model P w) A (do
        storeSet a es1 t2
        if !false && t2.tooFull then setRelay a (SetTable.grown (es.size + 1))
        return true) Q E s := by
      intro t2 T2 m2 l2 f2
      refine wpAny_bind (wpAny_storeSet_of ho od ?_ (by rw [ne1, sizeLine_eq]; omega))
      have sb : Heap.SameBut a s.heap (s.heap.update a (Obj.putSet es1 t2)) := Heap.SameBut.update ..
      have ho1 := store_at (es' := es1) (t' := t2) ho od
      generalize s.heap.update a (Obj.putSet es1 t2) = h1 at sb ho1 ⊢
      have ky1 : ∀ p ∈ L1, KTup P w h1 p.2 p.1 := fun p hp => by
        rcases List.mem_cons.mp (pm.mem_iff.mp hp) with e | hp
        · rw [e]; exact KTup.same hx ho od sb
        · exact KTup.same (R.keys p hp) ho od sb
      have ld1 : w.params.followText "set-order" = true ∨ t2.led = true := by rw [l2]; exact R.led
      have full : t1.tooFull = true ↔ (L.length + 1) * 5 ≥ t.mask * 3 := by
        unfold SetTable.tooFull
        rw [decide_eq_true_eq, q9, List.length_map, q4]
      by_cases hf : t1.tooFull = true
      · have hf2 : t2.tooFull = true := f2.trans hf
        have big := full.mp hf
        have two : (t.mask = 7 ∧ L.length = 4) ∨ (t.mask = 31 ∧ L.length = 18) := by
          rcases R.tab.mok with e | e | e <;> rw [e] at big rm ⊢ <;> omega
        have go : ∀ B, SetTable.sizeAbove (SetTable.grown (L.length + 1)) - 1 = B → MaskOk B → SetTable.sizeAbove (SetTable.grown (L.length + 1)) ≤ 128 → (L.length + 1) * 5 < B * 3 →
            wpAny (model P w) A (setRelay a (SetTable.grown (es.size + 1))) (fun _ s1 => wpAny (model P w) A (pure true) Q E s1) E { s with heap := h1 } := fun B g1 g2 g3 g4 => by
          rw [n0]
          refine ks_relay (s := { s with heap := h1 }) (L := L1) ho1 ⟨ox.1, ox.2.1, ox.2.2⟩ rfl rows1 (by have z := T2.sz; simpa using z) T2.dm (by rw [ln1, m2]; rcases two with ⟨e, e2⟩ | ⟨e, e2⟩ <;> omega) uq1 ky1 ld1 (by omega) g1 g2 g3 (by rw [ln1]; exact g4) ?_
          intro h2 L2 es2 ep2 t2 sb2 R2 pm2
          exact wpAny_pure (q true h2 L2 es2 ep2 t2 (sb.trans sb2) R2 (fun z => absurd z hm) fun _ => pm2.trans pm)
        have go2 : wpAny (model P w) A (setRelay a (SetTable.grown (es.size + 1))) (fun _ s1 => wpAny (model P w) A (pure true) Q E s1) E { s with heap := h1 } := by
          rcases two with ⟨_, e2⟩ | ⟨_, e2⟩
          · exact go 31 (by rw [e2, size_20]) (.inr (.inl rfl)) (by rw [e2, size_20]; decide) (by omega)
          · exact go 127 (by rw [e2, size_76]) (.inr (.inr rfl)) (by rw [e2, size_76]; decide) (by omega)
        first
          | (refine wpAny_bind ?_; refine wp_if_pos (by simp [hf2]) ?_; exact go2)
          | (refine wp_if_pos (by simp [hf2]) ?_; refine wpAny_bind ?_; exact go2)
      · have hf2 : ¬ t2.tooFull = true := by rw [f2]; exact hf
        have fin1 := q true h1 L1 es1 (ep + 1) t2 sb ⟨⟨_, ho1, ⟨ox.1, ox.2.1, ox.2.2⟩, rfl⟩, rows1, T2, uq1, ky1, ld1, by rw [ln1, m2]; have := mt full.mpr hf; omega, by omega⟩ (fun z => absurd z hm) fun _ => pm
        first
          | (refine wp_if_neg (by simp [hf2]) ?_; exact wpAny_pure fin1)
          | (refine wpAny_bind ?_; refine wp_if_neg (by simp [hf2]) ?_; refine wpAny_pure ?_; exact wpAny_pure fin1)
    have off : TabOk { t1 with plain := false } (L1.map fun p => kH P w p.2) := ⟨q3.ris, q3.dm, q3.sz, q3.mok, q3.bd, q3.reach⟩
    by_cases hp : t1.plain = true
    · first
        | (refine wpAny_bind ?_; refine wp_if_pos hp ?_; refine ktup_hash hx fun c => ?_)
        | refine wp_if_pos hp (wpAny_bind (ktup_hash hx fun c => ?_))
      cases c with
      | true => simp only [if_true]; exact fin t1 q3 q4 q5 rfl
      | false => simp only [Bool.false_eq_true, if_false]; exact fin _ off q4 q5 rfl
    · first
        | (refine wpAny_bind ?_; refine wp_if_neg hp ?_; refine wpAny_pure ?_)
        | refine wp_if_neg hp (wpAny_bind (wpAny_pure ?_))
      simp only [if_true]; exact fin t1 q3 q4 q5 rfl
end
end Fd

/-! Fs2: set(xs) of any kind of keys that can be added; what is in it, sorted or counted. -/
namespace Fd
open PySem PySem.Spec PyProof.Rows L2
/-- a set's object, its members in some order -/
def AnySet (w : World) (h : Heap) (a : Addr) (vs : List Value) : Prop := ∃ o es ep t, h.get? a = some o ∧ o.ExactSet ∧ o.data = .set es ep t ∧ es.toList.map (·.2) = vs ∧ t.fits es.size = true ∧ Ris t.place.toList ∧ (w.params.followText "set-order" = true ∨ t.led = true) ∧ vs.length < 64
def newSet (w : World) : Obj := { cls := .type "set", dict := none, data := .set #[] 0 (.fresh 0 0 (!w.params.followText "set-order")) }
/-- keys of one kind, and how a set of them stands -/
structure SetThy (P : Program) (w : World) where
  κ : Type
  key : Heap → Value → κ → Prop
  J : Heap → Addr → List (Value × κ) → Prop
  kKeep : ∀ {h h' v k}, key h v k → (∀ c o, h.get? c = some o → h'.get? c = some o) → key h' v k
  jKeep : ∀ {h h' S L}, J h S L → (∀ o, h.get? S = some o → h'.get? S = some o) → (∀ p ∈ L, key h' p.1 p.2) → J h' S L
  new : ∀ {h S}, h.get? S = some (newSet w) → J h S []
  any : ∀ {h S L}, J h S L → AnySet w h S (L.map (·.1))
  uniq : ∀ {h S L}, J h S L → (L.map (·.2)).Nodup
  add : ∀ {A : Around} {E : Value → Shared → Prop} {s : Shared} {S L v k} {Q : Bool → Shared → Prop}, A.units < cLine → J s.heap S L → key s.heap v k → L.length + 1 < 64 →
    (∀ b h' tk L', s.toks ≤ tk → Heap.SameBut S s.heap h' → J h' S L' → (k ∈ L.map (·.2) → L' = L) → (k ∉ L.map (·.2) → L'.Perm ((v, k) :: L)) → Q b { s with heap := h', toks := tk }) → wpAny (model P w) A (setAdd S v) Q E s
/-- what came of the first i -/
structure Came {κ : Type} (ks : List (Value × κ)) (i : Nat) (L : List (Value × κ)) : Prop where
  from_ : ∀ p ∈ L, p ∈ ks.take i
  has : ∀ p ∈ ks.take i, p.2 ∈ L.map (·.2)
  le : L.length ≤ i
theorem Came.step {κ : Type} {ks L L' : List (Value × κ)} {i : Nat} {x : Value × κ} (g : Came ks i L) (h : ks[i]? = some x) (y : x.2 ∈ L.map (·.2) → L' = L) (n : x.2 ∉ L.map (·.2) → L'.Perm (x :: L)) : Came ks (i + 1) L' := by
  have tk : ks.take (i + 1) = ks.take i ++ [x] := by rw [List.take_succ, h]; rfl
  rcases Classical.em (x.2 ∈ L.map (·.2)) with c | c
  · rw [y c]
    refine ⟨fun p hp => ?_, fun p hp => ?_, Nat.le_succ_of_le g.le⟩
    · rw [tk]; exact List.mem_append_left _ (g.from_ p hp)
    · rw [tk] at hp
      rcases List.mem_append.mp hp with z | z
      · exact g.has p z
      · cases List.mem_singleton.mp z; exact c
  · have pm := n c
    refine ⟨fun p hp => ?_, fun p hp => ?_, by rw [pm.length_eq]; exact Nat.succ_le_succ g.le⟩
    · rw [tk]
      rcases List.mem_cons.mp (pm.mem_iff.mp hp) with rfl | z
      · exact List.mem_append_right _ (List.mem_singleton.mpr rfl)
      · exact List.mem_append_left _ (g.from_ p z)
    · rw [tk] at hp
      rw [(pm.map (·.2)).mem_iff, List.map_cons]
      rcases List.mem_append.mp hp with z | z
      · exact List.mem_cons_of_mem _ (g.has p z)
      · cases List.mem_singleton.mp z; exact List.mem_cons_self
section
variable {P : Program} {w : World} {A : Around} {E : Value → Shared → Prop} {s : Shared} (T : SetThy P w)
/-- the loop of set.update -/
theorem upd_loop {I : Addr} {fp wr : List Addr} {G : Array GenState → Array GenState → Prop} {n : Nat} {Pv : Nat → Value → Prop} {St : Nat → Shared → Prop} {R : Result → Shared → Prop}
    (W : WalksS P w A.in1 I fp wr G n Pv St) (S : Addr) (hS : S ∉ fp) (ks : List (Value × T.κ)) (hn : n = ks.length) (few : ks.length < 64) (hv : ∀ i v, Pv i v → ∃ k, ks[i]? = some (v, k)) (h0 : Heap) (hk : ∀ p ∈ ks, T.key h0 p.1 p.2)
    (hS0 : h0.get? S = none) (hw0 : ∀ b ∈ wr, h0.get? b = none) (hu : A.in1.units < cLine) : ∀ (m i : Nat) (s : Shared) (L : List (Value × T.κ)), n - i = m → i ≤ n → St i s → (∀ b o, h0.get? b = some o → s.heap.get? b = some o) → T.J s.heap S L → Came ks i L →
      (∀ s1 L1, Moved (S :: wr) G s s1 → T.J s1.heap S L1 → Came ks n L1 → (∀ b o, h0.get? b = some o → s1.heap.get? b = some o) → R (.ok (.ret .none)) s1) → codeAny (model P w) A (.builtin "set.update.loop" ⟨[.ref S, .ref I], []⟩) R s := by
  have nS : S ∉ wr := fun z => hS (W.sub _ z)
  have up : ∀ b ∈ wr, b ∈ S :: wr := fun b hb => List.mem_cons_of_mem _ hb
  have kp : ∀ {s s1 : Shared}, Moved wr G s s1 → (∀ b o, h0.get? b = some o → s.heap.get? b = some o) → ∀ b o, h0.get? b = some o → s1.heap.get? b = some o := fun mv k b o e => mv.heap b o (fun hb => by rw [hw0 b hb] at e; cases e) (k b o e)
  have jk : ∀ {s s1 : Shared} {L : List (Value × T.κ)} {i : Nat}, Moved wr G s s1 → T.J s.heap S L → Came ks i L → (∀ b o, h0.get? b = some o → s1.heap.get? b = some o) → T.J s1.heap S L := fun mv j g k =>
    T.jKeep j (fun o e => mv.heap S o nS e) fun p hp => T.kKeep (hk p (List.mem_of_mem_take (g.from_ p hp))) k
  intro m
  induction m with
  | zero =>
    intro i s L hm hi hst hkp j g fin
    have e : i = n := by omega
    subst e
    refine codeAny_builtin F.entry_set_update_loop ?_
    rw [Around.under_plainId F.plain_set_update_loop _]
    show wpAny _ A.in1 (pyNext (.ref I) >>= _) _ _ s
    refine wpAny_bind (W.done s _ _ hst fun s1 mv => ?_)
    show wpAny _ A.in1 (PySem.ret Value.none) _ _ s1
    exact wpAny_pure (fin s1 L (mv.mono up) (jk mv j g (kp mv hkp)) g (kp mv hkp))
  | succ m ih =>
    intro i s L hm hi hst hkp j g fin
    have lt : i < n := by omega
    refine codeAny_builtin F.entry_set_update_loop ?_
    rw [Around.under_plainId F.plain_set_update_loop _]
    show wpAny _ A.in1 (pyNext (.ref I) >>= _) _ _ s
    refine wpAny_bind (W.item i s _ _ lt hst fun v s1 hP hst1 mv => ?_)
    obtain ⟨k, hx⟩ := hv i v hP
    have k1 := kp mv hkp
    show wpAny _ A.in1 (holding [v] (setAdd S v) >>= _) _ _ s1
    refine wpAny_bind (wpAny_holding ?_)
    refine T.add hu (jk mv j g k1) (T.kKeep (hk _ (List.mem_of_getElem? hx)) k1) (by have := g.le; omega) fun b h' tk L1 ht sb j1 y n1 => ?_
    have k2 : ∀ b o, h0.get? b = some o → h'.get? b = some o := fun b o e => (sb.2 b fun z => by rw [z, hS0] at e; cases e).trans (k1 b o e)
    refine wpAny_pure ⟨plainId_quiet F.plain_set_update_loop _, ih (i + 1) _ L1 (by omega) lt (W.frame _ s1 _ _ hst1 ht fun b hb o e => ?_) k2 j1 (g.step hx y n1) fun s2 L2 mv2 j2 g2 k3 => ?_⟩
    · rw [sb.2 b fun z : b = S => hS (z ▸ hb)]; exact e
    · refine fin s2 L2 (Moved.trans W.gtrans ((mv.mono up).then_heap ht fun b o hb e => ?_) mv2) j2 g2 k3
      rw [sb.2 b fun z : b = S => hb (z ▸ List.mem_cons_self)]; exact e
set_option maxHeartbeats 8000000 in
/-- set(xs) -/
theorem set_call {l : Addr} {items : Array Value} (ks : List (Value × T.κ)) {Q : Value → Shared → Prop} (hh : A.handled = none) (hl : s.heap.IsList l items) (hit : items.toList = ks.map (·.1)) (hk : ∀ p ∈ ks, T.key s.heap p.1 p.2) (few : ks.length < 64) (hu : A.units + 3 < cLine)
    (q : ∀ (h' : Heap) (tk : Nat) L, T.J h' s.heap.objs.size L → Came ks ks.length L → (∀ b o, s.heap.get? b = some o → h'.get? b = some o) → Q (.ref s.heap.objs.size) { s with heap := h', toks := tk }) : wpAny (model P w) A (call (.type "set") [.ref l]) Q E s := by
  have sz : items.size = ks.length := by
    have z := congrArg List.length hit
    simpa using z
  obtain ⟨c0, c1, mro⟩ := F.called_set.mro
  have m1 := F.called_set.made
  have m2 := F.called_set.sub
  refine wpAny_call (codeAny_of_tree ?_)
  show wpAny _ _ (callAny (.type "set") _) _ _ _
  refine wpAny_pure ⟨Code.quiet_builtin _ (by decide +kernel), codeAny_builtin F.entry_type_call ?_⟩
  rw [Around.under_plain (weight_type_call_type "set" [.ref l] []) rfl]
  have f1 := F.called_set.notType
  have f2 := F.called_set.canCreate
  have f3 := F.typeCall_set_1 (.ref l)
  repeat (any_goals (first | assumption | wp_step))
  refine codeAny_mono (code_set_led1 (.ref l) (E := E) (Q₁ := fun u s1 => u = .ref s.heap.objs.size ∧ s1 = { s with heap := s.heap.push (newSet w) }) ⟨rfl, rfl⟩) fun r s1 hr => ?_
  cases r with
  | error e => exact hr
  | ok fl =>
    cases fl with
    | ret u =>
      obtain ⟨rfl, rfl⟩ := hr
      have gS : (s.heap.push (newSet w)).get? s.heap.objs.size = some (newSet w) := Heap.get?_push_size _ rfl
      have tS : Shared.TypeIs { s with heap := s.heap.push (newSet w) } (.ref s.heap.objs.size) "set" := ⟨_, gS, rfl⟩
      have i1 := F.called_set.init.lookup
      have i2 := F.called_set.init.bind (.ref s.heap.objs.size)
      repeat (any_goals (first | assumption | wp_step))
      refine codeAny_mono (codeAny_call_builtin (R := wants (fun r s2 => r = .none ∧ ∃ h' tk L, s2 = { s with heap := h', toks := tk } ∧ T.J h' s.heap.objs.size L ∧ Came ks ks.length L ∧ (∀ b o, s.heap.get? b = some o → h'.get? b = some o)) E) F.called_set.init.plain F.entry_set_init (check_set_init_1 tS ?_)) fun r2 s2 hr2 => ?_
      · obtain ⟨ol, hol, ocl, nl, odl⟩ := hl
        obtain ⟨oc, odi, oda, osl⟩ := ol
        simp only at ocl odl
        subst ocl; subst odl
        have hol1 : (s.heap.push (newSet w)).get? l = some { cls := .type "list", dict := odi, data := .seq items nl, slots := osl } := Heap.get?_push_of_some _ hol
        have n1 := F.sub_list_set
        have n2 := F.sub_list_frozenset
        have n3 : (Value.type "list" == Value.type "dict") = false := by decide
        have hl1 : (s.heap.push (newSet w)).IsList l items := ⟨_, hol1, rfl, nl, rfl⟩
        unfold Builtin.«set.__init__» noKeywords Builtin.Frozenset.updateFrom
        generalize hPI : pyIter = PI
        wp_walk
        subst hPI
        refine wpAny_pyIter_list hl1 ?_
        refine wpAny_bind (wpAny_runValue ?_)
        have lS : l < s.heap.objs.size := Heap.lt_size hol
        have h3 : A.in1.in1.in1.handled = none := by simp [hh]
        have neI : l ≠ (s.heap.push (newSet w)).objs.size := by
          rw [Heap.size_push]; exact Nat.ne_of_lt (Nat.lt_succ_of_lt lS)
        have nfp : s.heap.objs.size ∉ [(s.heap.push (newSet w)).objs.size, l] := by
          rw [Heap.size_push]; simp only [List.mem_cons, List.mem_singleton, List.not_mem_nil, or_false, not_or]
          exact ⟨Nat.ne_of_lt (Nat.lt_succ_self _), Nat.ne_of_gt lS⟩
        have val : ∀ (i : Nat) (v : Value), items[i]? = some v → ∃ k, ks[i]? = some (v, k) := fun i v e => by
          rw [← Array.getElem?_toList, hit, List.getElem?_map] at e
          obtain ⟨p, e1, rfl⟩ := Option.map_eq_some_iff.mp e
          exact ⟨p.2, e1⟩
        have non : ∀ b, s.heap.objs.size ≤ b → s.heap.get? b = none := fun b hb => by
          cases z : s.heap.get? b with
          | none => rfl
          | some o => exact absurd (Nat.lt_of_lt_of_le (Heap.lt_size z) hb) (Nat.lt_irrefl _)
        refine upd_loop T ((Walks.list h3 _ l neI items).toS) s.heap.objs.size nfp ks sz few val s.heap hk (non _ (Nat.le_refl _)) (fun b hb => non b (by rw [List.mem_singleton.mp hb, Heap.size_push]; exact Nat.le_succ _)) hu (items.size - 0) 0 _ [] (by omega) (Nat.zero_le _)
          ⟨⟨_, Heap.get?_push_size _ rfl, rfl, rfl⟩, (hl1.push _)⟩ (fun b o e => Heap.get?_push_of_some _ (Heap.get?_push_of_some _ e)) (T.new (Heap.get?_push_of_some _ gS)) ⟨fun p h => (by cases h), fun p h => (by simp at h), Nat.le_refl _⟩ ?_
        intro s1 L mv j g kp
        obtain ⟨h', g2, d', tk', os'⟩ := s1
        cases (mv.gens : g2 = s.gens)
        cases (mv.drawn : d' = s.drawn)
        cases (mv.os : os' = s.os)
        show wpAny _ _ _ _ _ _
        refine wpAny_pure ?_
        show wpAny _ _ (PySem.ret Value.none) _ _ _
        rw [sz] at g
        exact wpAny_pure ⟨rfl, h', tk', L, rfl, j, g, kp⟩
      · cases r2 with
        | error e => exact hr2
        | ok fl2 =>
          cases fl2 with
          | ret r =>
            obtain ⟨rfl, h', tk, L, rfl, j, g, kp⟩ := hr2
            repeat (any_goals (first | assumption | wp_step))
            exact q _ _ _ j g kp
          | _ => exact hr2.elim
    | _ => exact hr.elim
end
/-! ### sorted -/
mutual
theorem reads_in {h : Heap} : ∀ (d : PyData) {v : Value} {as : List Addr}, Reads h v d as → ∀ b ∈ as, b < h.objs.size
  | .none, _, _, r, b, hb => by cases r; cases hb
  | .bool _, _, _, r, b, hb => by cases r; cases hb
  | .int _, _, _, r, b, hb => by cases r; cases hb
  | .str _, _, _, r, b, hb => by cases r; cases hb
  | .list xs, _, _, r, b, hb => by
    cases r with
    | list ho _ _ ra =>
      rcases List.mem_cons.mp hb with rfl | hb
      · exact Heap.lt_size ho
      · exact readsAll_in xs ra b hb
  | .tuple xs, _, _, r, b, hb => by cases r with | tuple ho _ _ ra => exact readsAll_in xs ra b hb
  | .dict kvs, _, _, r, b, hb => by
    cases r with
    | dict ho _ _ ra rb =>
      rcases List.mem_cons.mp hb with rfl | hb
      · exact Heap.lt_size ho
      · rcases List.mem_append.mp hb with hb | hb
        · exact readsKeys_in kvs ra b hb
        · exact readsVals_in kvs rb b hb
theorem readsAll_in {h : Heap} : ∀ (ds : List PyData) {vs : List Value} {as : List Addr}, ReadsAll h vs ds as → ∀ b ∈ as, b < h.objs.size
  | [], _, _, r, b, hb => by cases r; cases hb
  | d :: ds, _, _, r, b, hb => by
    cases r with
    | cons r1 r2 =>
      rcases List.mem_append.mp hb with hb | hb
      · exact reads_in d r1 b hb
      · exact readsAll_in ds r2 b hb
theorem readsKeys_in {h : Heap} : ∀ (ds : List (PyData × PyData)) {vs : List Value} {as : List Addr}, ReadsAll h vs (ds.map (·.1)) as → ∀ b ∈ as, b < h.objs.size
  | [], _, _, r, b, hb => by
    have r : ReadsAll h _ [] _ := r
    cases r; cases hb
  | (d, e) :: ds, _, _, r, b, hb => by
    have r : ReadsAll h _ (d :: ds.map (·.1)) _ := r
    cases r with
    | cons r1 r2 =>
      rcases List.mem_append.mp hb with hb | hb
      · exact reads_in d r1 b hb
      · exact readsKeys_in ds r2 b hb
theorem readsVals_in {h : Heap} : ∀ (ds : List (PyData × PyData)) {vs : List Value} {as : List Addr}, ReadsAll h vs (ds.map (·.2)) as → ∀ b ∈ as, b < h.objs.size
  | [], _, _, r, b, hb => by
    have r : ReadsAll h _ [] _ := r
    cases r; cases hb
  | (d, e) :: ds, _, _, r, b, hb => by
    have r : ReadsAll h _ (e :: ds.map (·.2)) _ := r
    cases r with
    | cons r1 r2 =>
      rcases List.mem_append.mp hb with hb | hb
      · exact reads_in e r1 b hb
      · exact readsVals_in ds r2 b hb
end
section
variable {P : Program} {w : World} {A : Around} {E : Value → Shared → Prop} {s : Shared} {a : Addr} {β : Type}
theorem set_sorted {vs : List Value} {Q : Value → Shared → Prop} {R : Value → β → Prop} {enc : β → PyData} (S : AnySet w s.heap a vs) (hh : A.handled = none) (bs : List β) (e : PySem.W.EachIs R vs bs) (er : PySem.W.EachIs (fun v b => ∃ as, Reads s.heap v (enc b) as) vs bs)
    (al : PySem.W.AllAlike (bs.map enc)) (so : PySem.W.Sortable (bs.map enc)) (hu : ∀ b ∈ bs, A.units + 2 + (enc b).depth < cLine)
    (q : ∀ s1 p (out : List Value) (c : Nat) (cs : List β), (∀ b o, s.heap.get? b = some o → s1.heap.get? b = some o) → s1.gens = s.gens → s1.os = s.os → s.heap.objs.size ≤ p → s1.heap.get? p = some (seqObj "list" out.toArray c) → cs.Perm bs → PySem.W.EachIs R out (cs.mergeSort (PySem.W.dataLe false enc)) → Q (.ref p) s1) :
    wpAny (model P w) A (call (.builtin "sorted") [.ref a]) Q E s := by
  obtain ⟨o, es, ep, t, ho, ox, od, ev, ft, ri, ld, few⟩ := S
  have n0 : es.size = vs.length := by rw [← ev]; simp
  refine Calls.call_function_entry kind_sorted plain_sorted entry_sorted (args_sorted1 _) ?_
  unfold Builtin.«sorted»
  refine wpAny_bind (m := checkCount "sorted" 1 1 _) (wpAny_pure ?_)
  refine wpAny_bind (collect_set (A := A.in1) hh ⟨o, ho, ox.1, od⟩ ft (by unfold scanBound; omega) ri ld fun s1 us k1 hz g1 o1 pm => ?_)
  rw [ev] at pm
  -- the members' data in the order of the walk
  have ord : ∀ {us vs : List Value}, us.Perm vs → ∀ {bs : List β}, PySem.W.EachIs (fun v b => R v b ∧ ∃ as, Reads s.heap v (enc b) as) vs bs → ∃ cs : List β, cs.Perm bs ∧ PySem.W.EachIs (fun v b => R v b ∧ ∃ as, Reads s.heap v (enc b) as) us cs := by
    intro us vs pm
    induction pm with
    | nil => intro bs h; exact ⟨bs, List.Perm.refl _, h⟩
    | cons x _ ih => intro bs h; cases h with | cons a b => obtain ⟨cs, p, h⟩ := ih b; exact ⟨_ :: cs, p.cons _, .cons a h⟩
    | swap x y l => intro bs h; cases h with | cons a b => cases b with | cons b c => exact ⟨_, List.Perm.swap _ _ _, .cons b (.cons a c)⟩
    | trans _ _ ih1 ih2 => intro bs h; obtain ⟨cs, p, h⟩ := ih2 h; obtain ⟨ds, p2, h⟩ := ih1 h; exact ⟨ds, p2.trans p, h⟩
  have both : ∀ {vs : List Value} {bs : List β}, PySem.W.EachIs R vs bs → PySem.W.EachIs (fun v b => ∃ as, Reads s.heap v (enc b) as) vs bs → PySem.W.EachIs (fun v b => R v b ∧ ∃ as, Reads s.heap v (enc b) as) vs bs := by
    intro vs bs h
    induction h with
    | nil => intro _; exact .nil
    | cons a _ ih => intro k; cases k with | cons b c => exact .cons ⟨a, b⟩ (ih c)
  obtain ⟨cs, pc, ec⟩ := ord pm (both e er)
  have len : us.length = cs.length := ec.length
  have few1 : us.length < 64 := by rw [pm.length_eq]; exact few
  refine wpAny_bind (wpAny_newList ?_ (by rw [sizeLine_eq]; omega))
  have hoL : (s1.heap.push (seqObj "list" us.toArray 0)).get? s1.heap.objs.size = some (seqObj "list" us.toArray 0) := Heap.get?_push_size _ rfl
  have erL : PySem.W.EachIs (fun v b => ∃ as, Reads (s1.heap.push (seqObj "list" us.toArray 0)) v (enc b) as ∧ s1.heap.objs.size ∉ as) us cs := ec.mono fun v b ⟨_, as, r⟩ => ⟨as, PyProof.Rows.Reads.keeps (fun _ _ z => Heap.get?_push_of_some _ (k1 _ _ z)) r, fun hm => by
    exact absurd (reads_in _ r _ hm) (Nat.not_lt.mpr hz)⟩
  have al1 : PySem.W.AllAlike (cs.map enc) := fun d hd d' hd' => al d ((pc.map enc).mem_iff.mp hd) d' ((pc.map enc).mem_iff.mp hd')
  have so1 : PySem.W.Sortable (cs.map enc) := so.imp (fun z d hd => z d ((pc.map enc).mem_iff.mp hd)) fun z d hd => z d ((pc.map enc).mem_iff.mp hd)
  refine wpAny_bind (wpAny_holding (PySem.W.list_sort_data (s := { s1 with heap := s1.heap.push (seqObj "list" us.toArray 0) }) hoL (ec.mono fun _ _ z => z.1) erL al1 so1 (by rw [← len, sizeLine_eq]; omega) (fun b hb => ?_) fun out ho eo => ?_))
  · have := hu b (pc.mem_iff.mp hb)
    show A.units + 1 + 1 + _ < _
    omega
  · obtain ⟨c, hc⟩ := sortedHeap_at (vs := us) (out := out.toArray) hoL
    refine wpAny_pure ⟨_, rfl, q _ s1.heap.objs.size out c cs (fun b u z => ?_) g1 o1 hz hc pc eo⟩
    have z1 := k1 b u z
    have lt := Heap.lt_size z1
    show (sortedHeap (s1.heap.push (seqObj "list" us.toArray 0)) s1.heap.objs.size us out.toArray).get? b = some u
    rw [sortedHeap_old (Nat.ne_of_lt lt) (by rw [size_push']; exact Nat.lt_succ_of_lt lt)]
    exact Heap.get?_push_of_some _ z1
end
end Fd

/-! Fs3: the two kinds of keys: tuples; whole numbers and texts. -/
namespace Fd
open PySem PySem.Spec PyProof.Rows L2
section
variable {P : Program} {w : World} {A : Around} {E : Value → Shared → Prop} {s : Shared}
def kvL (L : KL) : List (Value × List Key) := L.map fun p => (.ref p.1, p.2)
theorem kvL_keys (L : KL) : (kvL L).map (·.2) = L.map (·.2) := by unfold kvL; rw [List.map_map]; rfl
theorem KSet.keep {h h' : Heap} {S : Addr} {L : KL} {es : Array (Int × Value)} {ep : Nat} {t : SetTable} (R : KSet P w h S L es ep t) (a : ∀ o, h.get? S = some o → h'.get? S = some o) (k : ∀ p ∈ L, KTup P w h' p.2 p.1) : KSet P w h' S L es ep t := by
  obtain ⟨o, ho, r⟩ := R.ob
  exact ⟨⟨o, a o ho, r⟩, R.rows, R.tab, R.uniq, k, R.led, R.room, R.few⟩
theorem kset_new {h : Heap} {S : Addr} (ho : h.get? S = some (newSet w)) : KSet P w h S [] #[] 0 (.fresh 0 0 (!w.params.followText "set-order")) where
  ob := ⟨_, ho, ⟨rfl, rfl, rfl⟩, rfl⟩
  rows := rfl
  tab := ⟨List.Pairwise.nil, rfl, rfl, .inl rfl, fun x hx => (by cases hx), fun i h j hi => (by simp at hi)⟩
  uniq := List.nodup_nil
  keys := fun p hp => (by cases hp)
  led := by
    show _ ∨ (!w.params.followText "set-order") = true
    cases w.params.followText "set-order" <;> simp
  room := by
    show 0 * 5 < 7 * 3
    decide
  few := by
    show 0 < 64
    decide
/-- tuples -/
def thyT (P : Program) (w : World) : SetThy P w where
  κ := List Key
  key := fun h v k => ∃ a, v = .ref a ∧ KTup P w h k a
  J := fun h S L => ∃ es ep t L0, L = kvL L0 ∧ KSet P w h S L0 es ep t
  kKeep := fun ⟨a, e, o, its, n, ho, r⟩ k => ⟨a, e, o, its, n, k a o ho, r⟩
  jKeep := fun ⟨es, ep, t, L0, e, R⟩ a k => by
    subst e
    refine ⟨es, ep, t, L0, rfl, R.keep a fun p hp => ?_⟩
    obtain ⟨b, e, z⟩ := k (.ref p.1, p.2) (List.mem_map_of_mem hp)
    cases e; exact z
  new := fun ho => ⟨_, _, _, [], rfl, kset_new ho⟩
  any := fun ⟨es, ep, t, L0, e, R⟩ => by
    subst e
    obtain ⟨o, ho, ox, od⟩ := R.ob
    refine ⟨o, es, ep, t, ho, ox, od, ?_, R.fit, R.tab.ris, R.led, by unfold kvL; rw [List.length_map, List.length_map]; exact R.few⟩
    rw [R.rows]; unfold kvL; rw [List.map_map, List.map_map]; rfl
  uniq := fun ⟨es, ep, t, L0, e, R⟩ => by subst e; rw [kvL_keys]; exact R.uniq
  add := fun {A E s S L v k Q} hu ⟨es, ep, t, L0, e, R⟩ ⟨x, ev, hx⟩ few q => by
    subst e; subst ev
    unfold setAdd
    refine wpAny_holding ?_
    refine wpAny_bind (wpAny_pyHash_tuple hu hx ?_)
    refine ks_add (s := { s with toks := s.toks + (k.length + 1) }) R hx hu (by unfold kvL at few; rw [List.length_map] at few; exact few) fun b h1 L1 es1 ep1 t1 sb R1 y n => ?_
    refine q b h1 (s.toks + (k.length + 1)) (kvL L1) (Nat.le_add_right _ _) sb ⟨es1, ep1, t1, L1, rfl, R1⟩ (fun z => ?_) fun z => ?_
    · rw [kvL_keys] at z; rw [y z]
    · rw [kvL_keys] at z; exact (n z).map _

/-! ### whole numbers and texts -/
structure ASet (P : Program) (w : World) (h : Heap) (a : Addr) (L : List (Value × Key)) : Prop where
  ex : ∃ o es ep t, h.get? a = some o ∧ o.ExactSet ∧ o.data = .set es ep t ∧ es.toList.map (·.2) = L.map (·.1) ∧ ElemsOf (mixKind P w) es.toList ∧ t.fits es.size = true ∧ Ris t.place.toList ∧ (w.params.followText "set-order" = true ∨ t.led = true)
  key : ∀ p ∈ L, (mixKind P w).is p.2 p.1 = true
  uniq : (L.map (·.2)).Nodup
  few : L.length < 64
theorem each_find {l : List (Int × Value)} {L : List (Value × Key)} (e : l.map (·.2) = L.map (·.1)) (hk : ∀ p ∈ L, (mixKind P w).is p.2 p.1 = true) (k : Key) : (∃ x ∈ l, (mixKind P w).is k x.2 = true) ↔ k ∈ L.map (·.2) := by
  constructor
  · rintro ⟨x, hx, z⟩
    have m : x.2 ∈ L.map (·.1) := by rw [← e]; exact List.mem_map_of_mem hx
    obtain ⟨p, hp, ep⟩ := List.mem_map.mp m
    have := (mixKind P w).inj _ _ _ z (by rw [← ep]; exact hk p hp)
    rw [this]; exact List.mem_map_of_mem hp
  · intro m
    obtain ⟨p, hp, rfl⟩ := List.mem_map.mp m
    have m2 : p.1 ∈ l.map (·.2) := by rw [e]; exact List.mem_map_of_mem hp
    obtain ⟨x, hx, ex⟩ := List.mem_map.mp m2
    exact ⟨x, hx, by rw [ex]; exact hk p hp⟩
theorem atm_tail {g : Bool → Sem Unit} (hg : ∀ (b : Bool) (s1 : Shared) (Q1 : Unit → Shared → Prop), Q1 () s1 → wpAny (model P w) A (g b) Q1 E s1) {o : Obj} {a : Addr} {es : Array (Int × Value)} {ep : Nat} {t : SetTable} (ho : s.heap.get? a = some o) (ox : o.ExactSet) (od : o.data = .set es ep t)
    {es1 : Array (Int × Value)} {t2 : SetTable} (el : ElemsOf (mixKind P w) es1.toList) (b1 : es1.size < scanBound) (f2 : t2.fits es1.size = true) (ri : Ris t2.place.toList) (ld : w.params.followText "set-order" = true ∨ t2.led = true) {dm : Bool} {R : Option Bool → Shared → Prop}
    (hR : ∀ h' o' es' ep' t', Heap.SameBut a s.heap h' → h'.get? a = some o' → o'.ExactSet → o'.data = .set es' ep' t' → es'.toList.Perm es1.toList → ElemsOf (mixKind P w) es'.toList → t'.fits es'.size = true → Ris t'.place.toList → (w.params.followText "set-order" = true ∨ t'.led = true) → R (some true) { s with heap := h' }) :
    wpAny (model P w) A (do
        storeSet a es1 t2
        if (!dm && t2.tooFull) = true then do
            g (relayAll t2 es1 (SetTable.grown es1.size)).2.2
            storeSet a (relayAll t2 es1 (SetTable.grown es1.size)).1 (relayAll t2 es1 (SetTable.grown es1.size)).2.1
            pure (some true)
          else pure (some true)) R E s := by
  refine wpAny_bind (wpAny_storeSet_of ho od ?_ (fits_of_scanBound b1))
  have ho1 := store_at (es' := es1) (t' := t2) ho od
  have sb1 := Heap.SameBut.update s.heap a (Obj.putSet es1 t2)
  split
  · have pm := relayAll_perm t2 es1 (SetTable.grown es1.size)
    have f3 := relayAll_fits t2 es1 (SetTable.grown es1.size)
    have r3 := relayAll_ris t2 es1 (SetTable.grown es1.size)
    have l3 := relayAll_led t2 es1 (SetTable.grown es1.size)
    generalize relayAll t2 es1 (SetTable.grown es1.size) = Z at pm f3 r3 l3 ⊢
    obtain ⟨es2, t3, gave⟩ := Z
    dsimp only at pm f3 r3 l3 ⊢
    have z : es2.size = es1.size := by rw [← Array.length_toList, pm.length_eq, Array.length_toList]
    refine wpAny_bind (hg _ _ _ ?_)
    refine wpAny_bind (wpAny_storeSet_of ho1 rfl ?_ (fits_of_scanBound (by rw [z]; exact b1)))
    exact wpAny_pure (hR _ _ es2 _ t3 (sb1.trans (Heap.SameBut.update _ a _)) (store_at (es' := es2) (t' := t3) ho1 rfl) ⟨ox.1, ox.2.1, ox.2.2⟩ rfl pm (fun e he => el e (pm.mem_iff.mp he)) f3 r3 (ld.imp id fun q => by rw [l3]; exact q))
  · exact wpAny_pure (hR _ _ es1 _ t2 sb1 ho1 ⟨ox.1, ox.2.1, ox.2.2⟩ rfl (List.Perm.refl _) el f2 ri ld)
theorem atm_add {a : Addr} {L : List (Value × Key)} {v : Value} {k : Key} {Q : Bool → Shared → Prop} (R : ASet P w s.heap a L) (hk : (mixKind P w).is k v = true) (sc : v.scannable = true) (few : L.length + 1 < 64)
    (q : ∀ b h' L', Heap.SameBut a s.heap h' → ASet P w h' a L' → (k ∈ L.map (·.2) → L' = L) → (k ∉ L.map (·.2) → L'.Perm ((v, k) :: L)) → Q b { s with heap := h' }) :
    wpAny (model P w) A (setAddHashed a v ((mixKind P w).hash k)) Q E s := by
  obtain ⟨o, es, ep, t, ho, ox, od, ev, el, ft, ri, ld⟩ := R.ex
  have n0 : es.size = L.length := by
    have z := congrArg List.length ev
    simpa using z
  have bd : es.size < scanBound := by unfold scanBound; omega
  unfold setAddHashed setAddHashedIn
  refine wpAny_holding (wpAny_bind (wpAny_setState_of ho od ft ?_))
  dsimp only
  rw [byScan_of sc bd el]
  simp only [↓reduceIte]
  unfold setAddByScan
  refine wpAny_bind ?_
  refine wpAny_bind (wpAny_rule ?_)
  refine wpAny_bind (wpAny_setScan_of hk ho od ft el ?_)
  cases fi : List.findIdx? (fun e => (mixKind P w).is k e.2) es.toList with
  | some j =>
    dsimp only
    obtain ⟨hj, pj, _⟩ := List.findIdx?_eq_some_iff_getElem.mp fi
    have m := (each_find ev R.key k).mp ⟨es.toList[j], List.getElem_mem hj, pj⟩
    exact wpAny_pure (wpAny_pure (q _ s.heap L (Heap.SameBut.refl a s.heap) R (fun _ => rfl) fun z => absurd m z))
  | none =>
    dsimp only
    have m : k ∉ L.map (·.2) := fun z => by
      obtain ⟨x, hx, y⟩ := (each_find ev R.key k).mpr z
      have c := List.findIdx?_eq_none_iff.mp fi x hx
      rw [y] at c; cases c
    have gv : ∀ (b : Bool) {s1 : Shared} {Q1 : Unit → Shared → Prop}, Q1 () s1 → wpAny (model P w) A (match b with | true => rule "set.scan.the-table-gave-way" | false => pure ()) Q1 E s1 :=
      fun b s1 Q1 y => by cases b <;> first | exact wpAny_pure y | exact wpAny_rule y
    have pm := layNew_perm t es ((mixKind P w).hash k) v
    have f1 := layNew_fits t es ((mixKind P w).hash k) v
    have r1 := layNew_ris t es ((mixKind P w).hash k) v ri
    have l1 := layNew_led t es ((mixKind P w).hash k) v
    generalize layNew t es ((mixKind P w).hash k) v = Z at pm f1 r1 l1 ⊢
    obtain ⟨es1, t1, dm, gave⟩ := Z
    dsimp only at pm f1 r1 l1 ⊢
    rw [Array.toList_push] at pm
    have pc : es1.toList.Perm (((mixKind P w).hash k, v) :: es.toList) := pm.trans (List.perm_append_singleton _ _)
    have el1 : ElemsOf (mixKind P w) es1.toList := fun e he => by
      rcases List.mem_cons.mp (pc.mem_iff.mp he) with z | z
      · rw [z]; exact ⟨⟨k, hk, rfl⟩, sc⟩
      · exact el e z
    have z1 : es1.size = L.length + 1 := by rw [← Array.length_toList, pc.length_eq, List.length_cons, Array.length_toList, n0]
    have b1 : es1.size < scanBound := by unfold scanBound; omega
    have ld1 : w.params.followText "set-order" = true ∨ t1.led = true := ld.imp id fun z => by rw [l1]; exact z
    have fin : ∀ h' o' es' ep' t', Heap.SameBut a s.heap h' → h'.get? a = some o' → o'.ExactSet → o'.data = .set es' ep' t' → es'.toList.Perm es1.toList → ElemsOf (mixKind P w) es'.toList → t'.fits es'.size = true → Ris t'.place.toList → (w.params.followText "set-order" = true ∨ t'.led = true) → Q true { s with heap := h' } := by
      intro h' o' es' ep' t' sb ho' ox' od' p' el' f' r' l'
      have pv : (es'.toList.map (·.2)).Perm (((v, k) :: L).map (·.1)) := by
        rw [List.map_cons, ← ev]
        exact (p'.trans pc).map (·.2)
      -- the members with their keys, in the order of es'
      have ord : ∀ {us : List Value} {ps : List Value}, us.Perm ps → ∀ {M : List (Value × Key)}, M.map (·.1) = ps → ∃ M' : List (Value × Key), M'.map (·.1) = us ∧ M'.Perm M := by
        intro us ps pp
        induction pp with
        | nil => intro M h; exact ⟨M, h, List.Perm.refl _⟩
        | cons x _ ih =>
          intro M h
          cases M with
          | nil => simp at h
          | cons p M => simp only [List.map_cons, List.cons.injEq] at h; obtain ⟨M', e, pp⟩ := ih h.2; exact ⟨p :: M', by simp [e, h.1], pp.cons p⟩
        | swap x y l =>
          intro M h
          cases M with
          | nil => simp at h
          | cons p M =>
            cases M with
            | nil => simp at h
            | cons p2 M => simp only [List.map_cons, List.cons.injEq] at h; exact ⟨p2 :: p :: M, by simp [h], List.Perm.swap _ _ _⟩
        | trans _ _ i1 i2 => intro M h; obtain ⟨M', e, pp⟩ := i2 h; obtain ⟨M2, e2, p2⟩ := i1 e; exact ⟨M2, e2, p2.trans pp⟩
      obtain ⟨L', e', pL⟩ := ord pv rfl
      refine q true h' L' sb ⟨⟨o', es', ep', t', ho', ox', od', e'.symm, el', f', r', l'⟩, fun p hp => ?_, ?_, by rw [pL.length_eq]; exact few⟩ (fun z => absurd z m) fun _ => pL
      · rcases List.mem_cons.mp (pL.mem_iff.mp hp) with z | z
        · rw [z]; exact hk
        · exact R.key p z
      · refine (pL.map (·.2)).nodup_iff.mpr ?_
        rw [List.map_cons]
        exact List.nodup_cons.mpr ⟨m, R.uniq⟩
    refine wpAny_bind (gv _ ?_)
    split
    · refine wpAny_bind ?_
      rw [hashByValue_scannable 8 sc]
      refine wpAny_pure ?_
      refine atm_tail ?_ ho ox od el1 b1 ?_ ?_ ?_ ?_
      · intro b s1 Q1 y; cases b <;> first | exact wpAny_pure y | exact wpAny_rule y
      · first | (split <;> first | exact f1 | exact SetTable.fits_plain_off f1) | exact f1
      · first | (split <;> exact r1) | exact r1
      · first | (split <;> exact ld1) | exact ld1
      · intro h' o' es' ep' t' sb i1 i2 i3 i4 i5 i6 i7 i8; dsimp only; exact wpAny_pure (fin h' o' es' ep' t' sb i1 i2 i3 i4 i5 i6 i7 i8)
    · refine wpAny_bind (wpAny_pure ?_)
      simp only [↓reduceIte]
      refine atm_tail ?_ ho ox od el1 b1 f1 r1 ld1 ?_
      · intro b s1 Q1 y; cases b <;> first | exact wpAny_pure y | exact wpAny_rule y
      · intro h' o' es' ep' t' sb i1 i2 i3 i4 i5 i6 i7 i8; dsimp only; exact wpAny_pure (fin h' o' es' ep' t' sb i1 i2 i3 i4 i5 i6 i7 i8)
theorem is_scan {k : Key} {v : Value} (h : (mixKind P w).is k v = true) : v.scannable = true := by
  rcases keyIs_shape h with ⟨i, t, rfl, rfl⟩ | ⟨x, t, rfl, rfl⟩ <;> rfl
def thyA (P : Program) (w : World) : SetThy P w where
  κ := Key
  key := fun _ v k => (mixKind P w).is k v = true
  J := fun h S L => ASet P w h S L
  kKeep := fun z _ => z
  jKeep := fun R a k => by
    obtain ⟨o, es, ep, t, ho, r⟩ := R.ex
    exact ⟨⟨o, es, ep, t, a o ho, r⟩, R.key, R.uniq, R.few⟩
  new := fun {h S} ho => ⟨⟨_, #[], 0, _, ho, ⟨rfl, rfl, rfl⟩, rfl, rfl, fun e he => (by simp at he), rfl, List.Pairwise.nil, by
    show _ ∨ (!w.params.followText "set-order") = true
    cases w.params.followText "set-order" <;> simp⟩, fun p hp => (by cases hp), List.nodup_nil, by decide⟩
  any := fun R => by
    obtain ⟨o, es, ep, t, ho, ox, od, ev, el, ft, ri, ld⟩ := R.ex
    exact ⟨o, es, ep, t, ho, ox, od, ev, ft, ri, ld, by rw [List.length_map]; exact R.few⟩
  uniq := fun R => R.uniq
  add := fun {A E s S L v k Q} hu R hk few q => by
    unfold setAdd
    refine wpAny_holding ?_
    refine wpAny_bind ((mixKind P w).pyHash hk ?_)
    exact atm_add (s := { s with toks := s.toks + 1 }) R hk (is_scan hk) few fun b h' L' sb R' y n => q b h' (s.toks + 1) L' (Nat.le_succ _) sb R' y n
end
end Fd

/-! Fd1: data, environments, the relation to the abstract heap. -/
namespace Fd
open PySem L2

/-- plain data -/
inductive D where
  | non
  | bl (b : Bool)
  | int (i : Int)
  | str (x : Str)
  | tup (ds : List D)
  | lst (ds : List D)
  | dK (kvs : List (Key × D))
  | dT (kvs : List (List Key × D))
  /-- the script -/
  | scr (ns : List Int)
  /-- a written tuple -/
  | kt (ds : List D)
deriving Inhabited

/-- what a slot of a def holds -/
inductive Slot where
  | no
  /-- data that nobody changes any more -/
  | val (d : D)
  /-- a list or dict that this frame alone holds -/
  | own (d : D)
  /-- one that a caller lends; lentF: lent, and frozen meanwhile -/
  | lent (d : D)
  | lentF (d : D)
  /-- one that a loop walks -/
  | lock (d : D) (l : Bool)
deriving Inhabited
abbrev Ev := List Slot
def Slot.dat : Slot → Option D
  | .no => none
  | .val d => some d
  | .own d => some d
  | .lent d => some d
  | .lentF d => some d
  | .lock d _ => some d
def Slot.mine : Slot → Bool
  | .own _ => true
  | .lent _ => true
  | .lock _ _ => true
  | _ => false
def Slot.isLent : Slot → Bool
  | .lent _ => true
  | .lentF _ => true
  | .lock _ _ => true
  | _ => false
/-- what an expression gives: data, a new list or dict, what slot i holds -/
inductive RV where
  | val (d : D)
  | tmp (d : D)
  | bor (i : Nat)
deriving Inhabited
structure Exn where
  cls : Str
  args : List D
inductive Out (α : Type) where
  | ok (a : α) (ρ : Ev)
  | exc (x : Exn) (ρ : Ev)
  | bad
abbrev M (α : Type) := Ev → Out α
def Out.bnd {α β : Type} (o : Out α) (g : α → M β) : Out β := match o with
  | .ok a ρ => g a ρ
  | .exc x ρ => .exc x ρ
  | .bad => .bad
def bnd {α β : Type} (f : M α) (g : α → M β) : M β := fun ρ => (f ρ).bnd g
def ret {α : Type} (a : α) : M α := fun ρ => .ok a ρ
def fail {α : Type} : M α := fun _ => .bad
@[simp] theorem bnd_ok {α β : Type} (a : α) (ρ : Ev) (g : α → M β) : (Out.ok a ρ).bnd g = g a ρ := rfl
@[simp] theorem bnd_exc {α β : Type} (x : Exn) (ρ : Ev) (g : α → M β) : (Out.exc x ρ : Out α).bnd g = .exc x ρ := rfl
@[simp] theorem bnd_bad {α β : Type} (g : α → M β) : (Out.bad : Out α).bnd g = .bad := rfl
def ofOpt {α : Type} : Option α → M α
  | some a => ret a
  | none => fail
/-- the data of a result, as the environment is now -/
def RV.dat (ρ : Ev) : RV → Option D
  | .val d => some d
  | .tmp d => some d
  | .bor i => (ρ[i]?).bind Slot.dat

/-! ### the relation -/
abbrev AP := Addr → Prop
/-- the slots that must not move: where a caller's or a walked object stands -/
abbrev Lc := Nat → Option (Option V)
def SqLM (M : AP) (K : PySem.W.Frag) (H : Hp) (a : Addr) (xs : List V) : Prop :=
  (Rd H a (.lst xs) ∧ ¬ M a) ∨ ∃ (o : Obj) (its : Array Value) (n : Nat), K.lookup a = some o ∧ o.cls = .type "list" ∧ o.dict = none ∧ o.data = .seq its n ∧ its.size ≤ sizeLine ∧ Vals xs its.toList
theorem SqLM.sq {M : AP} {K : PySem.W.Frag} {H : Hp} {a : Addr} {xs : List V} (h : SqLM M K H a xs) : SqL K H a xs := by
  rcases h with h | h
  · exact .inl h.1
  · exact .inr h
/-- a tuple that the program has written at its top -/
def KTp (K : PySem.W.Frag) (a : Addr) (xs : List V) : Prop := ∃ (o : Obj) (its : Array Value) (n : Nat), K.lookup a = some o ∧ o.cls = .type "tuple" ∧ o.data = .seq its n ∧ its.size ≤ sizeLine ∧ Vals xs its.toList
mutual
inductive Is (M : AP) (K : PySem.W.Frag) (H : Hp) : V → D → Prop
  | non : Is M K H .non .non
  | bl (b : Bool) : Is M K H (.bl b) (.bl b)
  | int (i : Int) : Is M K H (.int i) (.int i)
  | str (x : Str) : PyData.strOk x = true → Is M K H (.str x) (.str x)
  | tup {a : Addr} {xs : List V} {ds : List D} : H a = some (.tup xs) → ¬ M a → IsAll M K H xs ds → Is M K H (.ref a) (.tup ds)
  | scr {a : Addr} {ns : List Int} : SqLM M K H a (ns.map V.int) → Is M K H (.ref a) (.scr ns)
  | kt {a : Addr} {xs : List V} {ds : List D} : KTp K a xs → IsAll M K H xs ds → Is M K H (.ref a) (.kt ds)
  | lst {a : Addr} {xs : List V} {ds : List D} : H a = some (.lst xs) → ¬ M a → IsAll M K H xs ds → Is M K H (.ref a) (.lst ds)
  | dK {a : Addr} {xs : List (Key × V)} {ds : List (Key × D)} : Rd H a (.dK xs) → ¬ M a → IsK M K H xs ds → Is M K H (.ref a) (.dK ds)
  | dT {a : Addr} {xs : List (List Key × V)} {ds : List (List Key × D)} : Rd H a (.dT xs) → ¬ M a → IsT M K H xs ds → Is M K H (.ref a) (.dT ds)
inductive IsAll (M : AP) (K : PySem.W.Frag) (H : Hp) : List V → List D → Prop
  | nil : IsAll M K H [] []
  | cons {v : V} {d : D} {vs : List V} {ds : List D} : Is M K H v d → IsAll M K H vs ds → IsAll M K H (v :: vs) (d :: ds)
inductive IsK (M : AP) (K : PySem.W.Frag) (H : Hp) : List (Key × V) → List (Key × D) → Prop
  | nil : IsK M K H [] []
  | cons {k : Key} {v : V} {d : D} {vs : List (Key × V)} {ds : List (Key × D)} : Is M K H v d → IsK M K H vs ds → IsK M K H ((k, v) :: vs) ((k, d) :: ds)
inductive IsT (M : AP) (K : PySem.W.Frag) (H : Hp) : List (List Key × V) → List (List Key × D) → Prop
  | nil : IsT M K H [] []
  | cons {k : List Key} {v : V} {d : D} {vs : List (List Key × V)} {ds : List (List Key × D)} : Is M K H v d → IsT M K H vs ds → IsT M K H ((k, v) :: vs) ((k, d) :: ds)
end

/-- a dict that is data may be locked for good -/
def isDic : HO → Bool
  | .dK _ => true
  | .dT _ => true
  | _ => false
def Stay (H' : Hp) (a : Addr) (o : HO) : Prop := H' a = some o ∨ (isDic o = true ∧ ∃ ob, H' a = some (.frz ob o))
/-- F: what must not be touched -/
structure Evo (F M : AP) (H : Hp) (M' : AP) (H' : Hp) : Prop where
  fz : ∀ a o, H a = some o → ¬ M a → Stay H' a o ∧ ¬ M' a
  ow : ∀ a, F a → M a → H' a = H a ∧ M' a
theorem Evo.refl {F M : AP} {H : Hp} : Evo F M H M H := ⟨fun _ _ h n => ⟨.inl h, n⟩, fun _ _ h => ⟨rfl, h⟩⟩
theorem Evo.trans {F F1 M M1 M2 : AP} {H H1 H2 : Hp} (a : Evo F M H M1 H1) (b : Evo F1 M1 H1 M2 H2) (s : ∀ x, F x → F1 x) : Evo F M H M2 H2 :=
  ⟨fun x o h n => (by
    obtain ⟨h1, n1⟩ := a.fz x o h n
    rcases h1 with h1 | ⟨i1, ob, h1⟩
    · exact b.fz x o h1 n1
    · obtain ⟨h2, n2⟩ := b.fz x _ h1 n1
      rcases h2 with h2 | ⟨i2, _⟩
      · exact ⟨.inr ⟨i1, ob, h2⟩, n2⟩
      · exact nomatch i2),
    fun x f m => let ⟨h1, m1⟩ := a.ow x f m; let ⟨h2, m2⟩ := b.ow x (s x f) m1; ⟨h2.trans h1, m2⟩⟩
theorem Evo.weak {F F1 M M1 : AP} {H H1 : Hp} (a : Evo F1 M H M1 H1) (s : ∀ x, F x → F1 x) : Evo F M H M1 H1 := ⟨a.fz, fun x f => a.ow x (s x f)⟩
theorem Evo.nd {F M M1 : AP} {H H1 : Hp} {a : Addr} {o : HO} (e : Evo F M H M1 H1) (h : H a = some o) (n : ¬ M a) (d : isDic o = false) : H1 a = some o ∧ ¬ M1 a := by
  obtain ⟨h1, n1⟩ := e.fz a o h n
  rcases h1 with h1 | ⟨i1, _⟩
  · exact ⟨h1, n1⟩
  · rw [d] at i1; cases i1
theorem Evo.rd {F M M1 : AP} {H H1 : Hp} {a : Addr} {u : HO} (e : Evo F M H M1 H1) (h : Rd H a u) (n : ¬ M a) : Rd H1 a u ∧ ¬ M1 a := by
  rcases h with h | ⟨o, h⟩
  · obtain ⟨h1, n1⟩ := e.fz a _ h n
    rcases h1 with h1 | ⟨_, ob, h1⟩
    · exact ⟨.inl h1, n1⟩
    · exact ⟨.inr ⟨ob, h1⟩, n1⟩
  · obtain ⟨h1, n1⟩ := e.nd h n rfl
    exact ⟨.inr ⟨o, h1⟩, n1⟩

section
variable {F M M1 : AP} {K : PySem.W.Frag} {H H1 : Hp}
theorem SqLM.evo {a : Addr} {xs : List V} (h : SqLM M K H a xs) (e : Evo F M H M1 H1) : SqLM M1 K H1 a xs := by
  rcases h with h | h
  · exact .inl (e.rd h.1 h.2)
  · exact .inr h
mutual
theorem Is.evo (e : Evo F M H M1 H1) : ∀ {v : V} (d : D), Is M K H v d → Is M1 K H1 v d
  | _, .non, h => by cases h; exact .non
  | _, .bl b, h => by cases h; exact .bl b
  | _, .int b, h => by cases h; exact .int b
  | _, .str b, h => by cases h with | str _ q => exact .str b q
  | _, .tup ds, h => by cases h with | tup q n a => exact .tup (e.nd q n rfl).1 (e.nd q n rfl).2 (IsAll.evo e ds a)
  | _, .lst ds, h => by cases h with | lst q n a => exact .lst (e.nd q n rfl).1 (e.nd q n rfl).2 (IsAll.evo e ds a)
  | _, .scr ns, h => by cases h with | scr q => exact .scr (q.evo e)
  | _, .kt ds, h => by cases h with | kt q a => exact .kt q (IsAll.evo e ds a)
  | _, .dK ds, h => by cases h with | dK q n a => exact .dK (e.rd q n).1 (e.rd q n).2 (IsK.evo e ds a)
  | _, .dT ds, h => by cases h with | dT q n a => exact .dT (e.rd q n).1 (e.rd q n).2 (IsT.evo e ds a)
theorem IsAll.evo (e : Evo F M H M1 H1) : ∀ {vs : List V} (ds : List D), IsAll M K H vs ds → IsAll M1 K H1 vs ds
  | _, [], h => by cases h; exact .nil
  | _, d :: ds, h => by cases h with | cons a b => exact .cons (Is.evo e d a) (IsAll.evo e ds b)
theorem IsK.evo (e : Evo F M H M1 H1) : ∀ {vs : List (Key × V)} (ds : List (Key × D)), IsK M K H vs ds → IsK M1 K H1 vs ds
  | _, [], h => by cases h; exact .nil
  | _, (k, d) :: ds, h => by cases h with | cons a b => exact .cons (Is.evo e d a) (IsK.evo e ds b)
theorem IsT.evo (e : Evo F M H M1 H1) : ∀ {vs : List (List Key × V)} (ds : List (List Key × D)), IsT M K H vs ds → IsT M1 K H1 vs ds
  | _, [], h => by cases h; exact .nil
  | _, (k, d) :: ds, h => by cases h with | cons a b => exact .cons (Is.evo e d a) (IsT.evo e ds b)
end
end

/-- the content of a list or dict that is held alone -/
def Cont (M : AP) (K : PySem.W.Frag) (H : Hp) (a : Addr) : D → Prop
  | .lst ds => ∃ xs, H a = some (.lst xs) ∧ IsAll M K H xs ds
  | .dK ds => ∃ xs, H a = some (.dK xs) ∧ IsK M K H xs ds
  | .dT ds => ∃ xs, H a = some (.dT xs) ∧ IsT M K H xs ds
  | _ => False
theorem Cont.evo {F M M1 : AP} {K : PySem.W.Frag} {H H1 : Hp} {a : Addr} {d : D} (h : Cont M K H a d) (e : Evo F M H M1 H1) (s : H1 a = H a) : Cont M1 K H1 a d := by
  cases d with
  | lst ds => obtain ⟨xs, h1, h2⟩ := h; exact ⟨xs, s.trans h1, h2.evo e⟩
  | dK ds => obtain ⟨xs, h1, h2⟩ := h; exact ⟨xs, s.trans h1, h2.evo e⟩
  | dT ds => obtain ⟨xs, h1, h2⟩ := h; exact ⟨xs, s.trans h1, h2.evo e⟩
  | _ => exact h.elim
theorem Cont.frz {M : AP} {K : PySem.W.Frag} {H : Hp} {a : Addr} {d : D} (h : Cont M K H a d) (n : ¬ M a) : Is M K H (.ref a) d := by
  cases d with
  | lst ds => obtain ⟨xs, h1, h2⟩ := h; exact .lst h1 n h2
  | dK ds => obtain ⟨xs, h1, h2⟩ := h; exact .dK (.inl h1) n h2
  | dT ds => obtain ⟨xs, h1, h2⟩ := h; exact .dT (.inl h1) n h2
  | _ => exact h.elim
theorem Cont.there {M : AP} {K : PySem.W.Frag} {H : Hp} {a : Addr} {d : D} (h : Cont M K H a d) : H a ≠ none := by
  cases d with
  | lst ds => obtain ⟨xs, h1, h2⟩ := h; rw [h1]; exact fun z => nomatch z
  | dK ds => obtain ⟨xs, h1, h2⟩ := h; rw [h1]; exact fun z => nomatch z
  | dT ds => obtain ⟨xs, h1, h2⟩ := h; rw [h1]; exact fun z => nomatch z
  | _ => exact h.elim

/-- .. while it is walked -/
def ContR (M : AP) (K : PySem.W.Frag) (H : Hp) (a : Addr) : D → Prop
  | .lst ds => ∃ xs, H a = some (.lst xs) ∧ IsAll M K H xs ds
  | .dK ds => ∃ xs, Rd H a (.dK xs) ∧ IsK M K H xs ds
  | .dT ds => ∃ xs, Rd H a (.dT xs) ∧ IsT M K H xs ds
  | _ => False
theorem Cont.r {M : AP} {K : PySem.W.Frag} {H : Hp} {a : Addr} {d : D} (h : Cont M K H a d) : ContR M K H a d := by
  cases d with
  | lst ds => exact h
  | dK ds => obtain ⟨xs, h1, h2⟩ := h; exact ⟨xs, .inl h1, h2⟩
  | dT ds => obtain ⟨xs, h1, h2⟩ := h; exact ⟨xs, .inl h1, h2⟩
  | _ => exact h.elim
theorem Rd.of_eq {H H1 : Hp} {a : Addr} {u : HO} (h : Rd H a u) (s : H1 a = H a) : Rd H1 a u := by
  rcases h with h | ⟨o, h⟩
  · exact .inl (s.trans h)
  · exact .inr ⟨o, s.trans h⟩
theorem ContR.evo {F M M1 : AP} {K : PySem.W.Frag} {H H1 : Hp} {a : Addr} {d : D} (h : ContR M K H a d) (e : Evo F M H M1 H1) (s : H1 a = H a) : ContR M1 K H1 a d := by
  cases d with
  | lst ds => obtain ⟨xs, h1, h2⟩ := h; exact ⟨xs, s.trans h1, h2.evo e⟩
  | dK ds => obtain ⟨xs, h1, h2⟩ := h; exact ⟨xs, Rd.of_eq h1 s, h2.evo e⟩
  | dT ds => obtain ⟨xs, h1, h2⟩ := h; exact ⟨xs, Rd.of_eq h1 s, h2.evo e⟩
  | _ => exact h.elim
def SlotR (M : AP) (K : PySem.W.Frag) (H : Hp) (o : Option V) : Slot → Prop
  | .no => True
  | .val d => ∃ v, o = some v ∧ Is M K H v d
  | .lentF d => ∃ v, o = some v ∧ Is M K H v d
  | .own d => ∃ a, o = some (.ref a) ∧ M a ∧ Cont M K H a d
  | .lent d => ∃ a, o = some (.ref a) ∧ M a ∧ Cont M K H a d
  | .lock d _ => ∃ a, o = some (.ref a) ∧ M a ∧ ContR M K H a d
theorem SlotR.own {M : AP} {K : PySem.W.Frag} {H : Hp} {o : Option V} {s : Slot} (h : SlotR M K H o s) (m : s.mine = true) : ∃ a d, s.dat = some d ∧ o = some (.ref a) ∧ M a ∧ ContR M K H a d := by
  cases s with
  | own d => obtain ⟨a, h1, h2, h3⟩ := h; exact ⟨a, d, rfl, h1, h2, h3.r⟩
  | lent d => obtain ⟨a, h1, h2, h3⟩ := h; exact ⟨a, d, rfl, h1, h2, h3.r⟩
  | lock d l => obtain ⟨a, h⟩ := h; exact ⟨a, d, rfl, h⟩
  | _ => exact nomatch m
/-- what may be read -/
def RD (M : AP) (K : PySem.W.Frag) (H : Hp) (v : V) (d : D) : Prop := Is M K H v d ∨ ∃ a, v = .ref a ∧ M a ∧ ContR M K H a d
theorem SlotR.rd {M : AP} {K : PySem.W.Frag} {H : Hp} {v : V} {s : Slot} {d : D} (h : SlotR M K H (some v) s) (e : s.dat = some d) : RD M K H v d := by
  cases s with
  | no => cases e
  | val d' => cases e; obtain ⟨u, q, h⟩ := h; cases q; exact .inl h
  | lentF d' => cases e; obtain ⟨u, q, h⟩ := h; cases q; exact .inl h
  | own d' => cases e; obtain ⟨u, q, h, h'⟩ := h; cases q; exact .inr ⟨u, rfl, h, h'.r⟩
  | lent d' => cases e; obtain ⟨u, q, h, h'⟩ := h; cases q; exact .inr ⟨u, rfl, h, h'.r⟩
  | lock d' l => cases e; obtain ⟨u, q, h⟩ := h; cases q; exact .inr ⟨u, rfl, h⟩

structure Rel (K : PySem.W.Frag) (L : Lc) (F M : AP) (H : Hp) (ρ : Ev) (σ : St) : Prop where
  len : ρ.length = σ.length
  slot : ∀ (i : Nat) s, ρ[i]? = some s → SlotR M K H (σ[i]?.join) s
  inj : ∀ (i j : Nat) s t a, ρ[i]? = some s → ρ[j]? = some t → s.mine = true → t.mine = true → σ[i]? = some (some (.ref a)) → σ[j]? = some (some (.ref a)) → i = j
  apart : ∀ (i : Nat) s a, ρ[i]? = some s → s.mine = true → σ[i]? = some (some (.ref a)) → ¬ F a
  lent : ∀ (i : Nat) s, ρ[i]? = some s → s.isLent = true → σ[i]? = L i
  dom : ∀ a, M a → H a ≠ none
  fd : ∀ a, F a → M a

def RVR (K : PySem.W.Frag) (M : AP) (H : Hp) (σ : St) (v : V) : RV → Prop
  | .val d => Is M K H v d
  | .tmp d => ∃ a, v = .ref a ∧ M a ∧ Cont M K H a d
  | .bor i => σ[i]? = some (some v)
/-- with what a result holds -/
def adj (F : AP) (v : V) : RV → AP
  | .tmp _ => fun b => F b ∨ v = .ref b
  | _ => F
def NotF (F : AP) (v : V) : RV → Prop
  | .tmp _ => ∀ b, v = .ref b → ¬ F b
  | _ => True
theorem adj_sub {F : AP} {v : V} {r : RV} : ∀ x, F x → adj F v r x := by
  intro x h
  cases r with
  | tmp d => exact .inl h
  | _ => exact h
section
variable {K : PySem.W.Frag} {L : Lc} {F F1 M M1 : AP} {H H1 : Hp} {ρ : Ev} {σ : St} {v : V} {r : RV} {d : D}
theorem Rel.sub (h : Rel K L F1 M H ρ σ) (s : ∀ x, F x → F1 x) : Rel K L F M H ρ σ := ⟨h.len, h.slot, h.inj, fun i t a h1 h2 h3 f => h.apart i t a h1 h2 h3 (s a f), h.lent, h.dom, fun a f => h.fd a (s a f)⟩
theorem join_some {α : Type} {o : Option (Option α)} {x : α} (h : o.join = some x) : o = some (some x) := by
  cases o with
  | none => cases h
  | some p => exact congrArg some h
theorem Rel.mine (h : Rel K L F M H ρ σ) {i : Nat} {s : Slot} (e : ρ[i]? = some s) (m : s.mine = true) : ∃ a d, s.dat = some d ∧ σ[i]? = some (some (.ref a)) ∧ M a ∧ ContR M K H a d ∧ ¬ F a := by
  obtain ⟨a, d, h1, h2, h3, h4⟩ := (h.slot i s e).own m
  exact ⟨a, d, h1, join_some h2, h3, h4, h.apart i s a e m (join_some h2)⟩
theorem Rel.opn (h : Rel K L F M H ρ σ) {i : Nat} {s : Slot} (e : ρ[i]? = some s) (m : s.mine = true) (nl : ∀ d l, s ≠ .lock d l) : ∃ a d, s.dat = some d ∧ σ[i]? = some (some (.ref a)) ∧ M a ∧ Cont M K H a d ∧ ¬ F a := by
  have z := h.slot i s e
  cases s with
  | own d => obtain ⟨a, h1, h2, h3⟩ := z; exact ⟨a, d, rfl, join_some h1, h2, h3, h.apart i _ a e m (join_some h1)⟩
  | lent d => obtain ⟨a, h1, h2, h3⟩ := z; exact ⟨a, d, rfl, join_some h1, h2, h3, h.apart i _ a e m (join_some h1)⟩
  | lock d l => exact absurd rfl (nl d l)
  | _ => cases m
/-- what a result may be read as -/
theorem RVR.rd (q : RVR K M H σ v r) (h : Rel K L F M H ρ σ) (e : r.dat ρ = some d) : RD M K H v d := by
  cases r with
  | val d' => cases e; exact .inl q
  | tmp d' => cases e; obtain ⟨a, h1, h2, h3⟩ := q; exact .inr ⟨a, h1, h2, h3.r⟩
  | bor i =>
    have e' : (ρ[i]?).bind Slot.dat = some d := e
    cases hs : ρ[i]? with
    | none => rw [hs] at e'; cases e'
    | some s =>
      rw [hs] at e'
      have z := h.slot i s hs
      have q' : σ[i]? = some (some v) := q
      rw [q'] at z
      exact z.rd e'
/-- a result over a further evaluation -/
theorem RVR.evo (q : RVR K M H σ v r) (e : Evo (adj F v r) M H M1 H1) : RVR K M1 H1 σ v r := by
  cases r with
  | val d' => exact Is.evo e d' q
  | tmp d' =>
    obtain ⟨a, h1, h2, h3⟩ := q
    obtain ⟨e1, e2⟩ := e.ow a (.inr h1) h2
    exact ⟨a, h1, e2, h3.evo e e1⟩
  | bor i => exact q
end

/-! ### the four moves -/
section
variable {K : PySem.W.Frag} {L : Lc} {F M : AP} {H : Hp} {ρ : Ev} {σ : St} {v : V} {d : D}
/-- slots carry over -/
theorem SlotR.evo {M1 : AP} {H1 : Hp} {o : Option V} {s : Slot} (h : SlotR M K H o s) (e : Evo F M H M1 H1) (k : ∀ a, s.mine = true → o = some (.ref a) → H1 a = H a ∧ M1 a) : SlotR M1 K H1 o s := by
  cases s with
  | no => trivial
  | val d' => obtain ⟨u, q, h⟩ := h; exact ⟨u, q, h.evo e⟩
  | lentF d' => obtain ⟨u, q, h⟩ := h; exact ⟨u, q, h.evo e⟩
  | own d' => obtain ⟨u, q, h1, h⟩ := h; exact ⟨u, q, (k u rfl q).2, h.evo e (k u rfl q).1⟩
  | lent d' => obtain ⟨u, q, h1, h⟩ := h; exact ⟨u, q, (k u rfl q).2, h.evo e (k u rfl q).1⟩
  | lock d' l => obtain ⟨u, q, h1, h⟩ := h; exact ⟨u, q, (k u rfl q).2, h.evo e (k u rfl q).1⟩
/-- 1. something new that is not changed any more -/
theorem evo_new {p : Addr} {o : HO} (dom : ∀ a, M a → H a ≠ none) (hp : H p = none) : Evo F M H M (upd H p o) :=
  ⟨fun a u h n => ⟨.inl (by rw [upd_ne (ne_of_none h hp)]; exact h), n⟩, fun a f m => ⟨upd_ne fun e => dom a m (by rw [e]; exact hp), m⟩⟩
theorem Rel.keep {M1 : AP} {H1 : Hp} (h : Rel K L F M H ρ σ) (e : Evo F M H M1 H1) (k : ∀ (i : Nat) s a, ρ[i]? = some s → s.mine = true → σ[i]? = some (some (.ref a)) → H1 a = H a ∧ M1 a) (dom : ∀ a, M1 a → H1 a ≠ none) : Rel K L F M1 H1 ρ σ :=
  ⟨h.len, fun i s q => (h.slot i s q).evo e fun a m z => k i s a q m (join_some z), h.inj, h.apart, h.lent, dom, fun a f => (e.ow a f (h.fd a f)).2⟩
theorem Rel.new {p : Addr} {o : HO} (h : Rel K L F M H ρ σ) (hp : H p = none) : Rel K L F M (upd H p o) ρ σ :=
  h.keep (evo_new h.dom hp) (fun i s a q m z => by
    obtain ⟨b, d, _, e2, e3, _⟩ := h.mine q m
    rw [e2] at z; cases z
    exact ⟨upd_ne fun e => h.dom a e3 (by rw [e]; exact hp), e3⟩) fun a m => by
    by_cases e : a = p
    · rw [e, upd_same]; exact fun z => nomatch z
    · rw [upd_ne e]; exact h.dom a m
/-- 2. a new list or dict of ours -/
theorem evo_own {p : Addr} {o : HO} (dom : ∀ a, M a → H a ≠ none) (hp : H p = none) : Evo F M H (fun b => M b ∨ b = p) (upd H p o) :=
  ⟨fun a u h n => ⟨.inl (by rw [upd_ne (ne_of_none h hp)]; exact h), fun z => z.elim n (ne_of_none h hp)⟩, fun a f m => ⟨upd_ne fun e => dom a m (by rw [e]; exact hp), .inl m⟩⟩
theorem Rel.fresh (h : Rel K L F M H ρ σ) {p : Addr} (hp : H p = none) : ∀ (i : Nat) s a, ρ[i]? = some s → s.mine = true → σ[i]? = some (some (.ref a)) → a ≠ p := fun i s a q m z e => by
  obtain ⟨b, d, _, e2, e3, _⟩ := h.mine q m
  rw [e2] at z; cases z
  exact h.dom a e3 (by rw [e]; exact hp)
theorem Rel.newOwn {p : Addr} {o : HO} (h : Rel K L F M H ρ σ) (hp : H p = none) : Rel K L (fun b => F b ∨ V.ref p = .ref b) (fun b => M b ∨ b = p) (upd H p o) ρ σ := by
  have h1 : Rel K L F (fun b => M b ∨ b = p) (upd H p o) ρ σ := h.keep (evo_own h.dom hp) (fun i s a q m z => by
    obtain ⟨b, d, _, e2, e3, _⟩ := h.mine q m
    rw [e2] at z; cases z
    exact ⟨upd_ne fun e => h.dom a e3 (by rw [e]; exact hp), .inl e3⟩) fun a m => by
    by_cases e : a = p
    · rw [e, upd_same]; exact fun z => nomatch z
    · rw [upd_ne e]; exact h.dom a (m.resolve_right e)
  exact ⟨h1.len, h1.slot, h1.inj, fun i s a q m z f => f.elim (h1.apart i s a q m z) fun e => h.fresh hp i s a q m z (by cases e; rfl), h1.lent, h1.dom, fun a f => f.elim (h1.fd a) fun e => .inr (by cases e; rfl)⟩
/-- 3. it is changed no more -/
def cut (M : AP) (a : Addr) : AP := fun b => M b ∧ b ≠ a
theorem evo_cut {a : Addr} (n : ¬ F a) : Evo F M H (cut M a) H := ⟨fun b o h m => ⟨.inl h, fun z => m z.1⟩, fun b f m => ⟨rfl, m, fun e => n (e ▸ f)⟩⟩
theorem Rel.cut {a : Addr} {F1 : AP} (h : Rel K L F1 M H ρ σ) (s : ∀ x, F x → F1 x) (f : F1 a) (n : ¬ F a) : Rel K L F (cut M a) H ρ σ :=
  (h.sub s).keep (evo_cut n) (fun i t b q m z => by
    obtain ⟨c, d, _, e2, e3, _, nf⟩ := h.mine q m
    rw [e2] at z; cases z
    exact ⟨rfl, e3, fun e => nf (e ▸ f)⟩) fun b m => h.dom b m.1
/-- what is held alone becomes data -/
theorem Cont.cut {a : Addr} (n : ¬ F a) (h : Cont M K H a d) : Is (Fd.cut M a) K H (.ref a) d := (h.evo (evo_cut n) rfl).frz fun z => z.2 rfl
/-- 4. the content of slot i is changed -/
def Slot.put : Slot → D → Slot
  | .own _, d => .own d
  | .lent _, d => .lent d
  | s, _ => s
def Slot.open' : Slot → Bool
  | .own _ => true
  | .lent _ => true
  | _ => false
theorem Slot.open_mine {s : Slot} (h : s.open' = true) : s.mine = true := by cases s <;> first | rfl | cases h
theorem Slot.put_mine {s : Slot} {d : D} : (s.put d).mine = s.mine := by cases s <;> rfl
theorem Slot.put_lent {s : Slot} {d : D} : (s.put d).isLent = s.isLent := by cases s <;> rfl
theorem Slot.put_r {s : Slot} {d : D} {a : Addr} (h : s.open' = true) (m : M a) (c : Cont M K H a d) : SlotR M K H (some (.ref a)) (s.put d) := by
  cases s with
  | own _ => exact ⟨a, rfl, m, c⟩
  | lent _ => exact ⟨a, rfl, m, c⟩
  | _ => exact nomatch h
theorem evo_mut {a : Addr} {o : HO} (m : M a) (n : ¬ F a) : Evo F M H M (upd H a o) :=
  ⟨fun b u h k => ⟨.inl (by rw [upd_ne (fun e : b = a => k (by rw [e]; exact m))]; exact h), k⟩, fun b f k => ⟨upd_ne (fun e : b = a => n (by rw [← e]; exact f)), k⟩⟩
theorem get_set {α : Type} {l : List α} {i j : Nat} {x y : α} (h : (l.set i x)[j]? = some y) : (i = j ∧ y = x ∧ i < l.length) ∨ (i ≠ j ∧ l[j]? = some y) := by
  by_cases e : i = j
  · subst e
    by_cases hi : i < l.length
    · rw [List.getElem?_set_self hi] at h; cases h; exact .inl ⟨rfl, rfl, hi⟩
    · rw [List.getElem?_eq_none (by simpa using hi)] at h; cases h
  · rw [List.getElem?_set_ne e] at h; exact .inr ⟨e, h⟩
theorem Rel.mut {i : Nat} {s : Slot} {a : Addr} {o : HO} {d : D} (h : Rel K L F M H ρ σ) (e : ρ[i]? = some s) (so : s.open' = true) (z : σ[i]? = some (some (.ref a))) (c : Cont M K (upd H a o) a d) : Rel K L F M (upd H a o) (ρ.set i (s.put d)) σ := by
  obtain ⟨b, d0, _, e2, e3, _, nf⟩ := h.mine e (Slot.open_mine so)
  rw [e2] at z; cases z
  have ev : Evo F M H M (upd H a o) := evo_mut e3 nf
  have back : ∀ (j : Nat) t, (ρ.set i (s.put d))[j]? = some t → ∃ t', ρ[j]? = some t' ∧ t.mine = t'.mine ∧ t.isLent = t'.isLent := fun j t q => by
    rcases get_set q with ⟨rfl, rfl, _⟩ | ⟨_, q⟩
    · exact ⟨s, e, Slot.put_mine, Slot.put_lent⟩
    · exact ⟨t, q, rfl, rfl⟩
  refine ⟨by simpa using h.len, fun j t q => ?_, fun j k t u b q1 q2 m1 m2 z1 z2 => ?_, fun j t b q m z => ?_, fun j t q m => ?_, fun b m => ?_, fun b m => ?_⟩
  · rcases get_set q with ⟨rfl, rfl, _⟩ | ⟨ne, q⟩
    · rw [e2]; exact Slot.put_r so e3 c
    · refine (h.slot j t q).evo ev fun b m y => ?_
      obtain ⟨b', d', _, f2, f3, _⟩ := h.mine q m
      have y' := join_some y
      rw [f2] at y'; cases y'
      exact ⟨upd_ne fun x => ne (h.inj i j s t a e q (Slot.open_mine so) m e2 (x ▸ f2)), f3⟩
  · obtain ⟨t', q1', m1', _⟩ := back j t q1
    obtain ⟨u', q2', m2', _⟩ := back k u q2
    exact h.inj j k t' u' b q1' q2' (m1' ▸ m1) (m2' ▸ m2) z1 z2
  · obtain ⟨t', q', m', _⟩ := back j t q
    exact h.apart j t' b q' (m' ▸ m) z
  · obtain ⟨t', q', _, l'⟩ := back j t q
    exact h.lent j t' q' (l' ▸ m)
  · by_cases x : b = a
    · rw [x, upd_same]; exact fun z => nomatch z
    · rw [upd_ne x]; exact h.dom b m
  · exact h.fd b m
/-- 5. slot i is stored (what it held was not lent, not walked) -/
def Slot.free : Slot → Bool
  | .no => true
  | .val _ => true
  | .own _ => true
  | _ => false
theorem Slot.free_lent {s : Slot} (h : s.free = true) : s.isLent = false := by cases s <;> first | rfl | cases h
theorem Rel.setVal {i : Nat} {s : Slot} {v : V} {d : D} (h : Rel K L F M H ρ σ) (e : ρ[i]? = some s) (c : Is M K H v d) : Rel K L F M H (ρ.set i (.val d)) (σ.set i (some v)) := by
  have hi : i < ρ.length := (List.getElem?_eq_some_iff.mp e).1
  have hs : i < σ.length := h.len ▸ hi
  refine ⟨by simpa using h.len, fun j t q => ?_, fun j k t u b q1 q2 m1 m2 z1 z2 => ?_, fun j t b q m z => ?_, fun j t q m => ?_, h.dom, h.fd⟩
  · rcases get_set q with ⟨rfl, rfl, _⟩ | ⟨ne, q⟩
    · rw [List.getElem?_set_self hs]; exact ⟨v, rfl, c⟩
    · rw [List.getElem?_set_ne ne]; exact h.slot j t q
  · rcases get_set q1 with ⟨rfl, rfl, _⟩ | ⟨n1, q1⟩
    · cases m1
    · rcases get_set q2 with ⟨rfl, rfl, _⟩ | ⟨n2, q2⟩
      · cases m2
      · rw [List.getElem?_set_ne n1] at z1; rw [List.getElem?_set_ne n2] at z2; exact h.inj j k t u b q1 q2 m1 m2 z1 z2
  · rcases get_set q with ⟨rfl, rfl, _⟩ | ⟨ne, q⟩
    · cases m
    · rw [List.getElem?_set_ne ne] at z; exact h.apart j t b q m z
  · rcases get_set q with ⟨rfl, rfl, _⟩ | ⟨ne, q⟩
    · cases m
    · rw [List.getElem?_set_ne ne]; exact h.lent j t q m
/-- .. a new list or dict of ours -/
theorem Rel.setOwn {i : Nat} {s : Slot} {a : Addr} {d : D} {F1 : AP} (h : Rel K L F1 M H ρ σ) (sb : ∀ x, F x → F1 x) (f1 : F1 a) (nf : ¬ F a) (e : ρ[i]? = some s) (m : M a) (c : Cont M K H a d) : Rel K L F M H (ρ.set i (.own d)) (σ.set i (some (.ref a))) := by
  have hi : i < ρ.length := (List.getElem?_eq_some_iff.mp e).1
  have hs : i < σ.length := h.len ▸ hi
  refine ⟨by simpa using h.len, fun j t q => ?_, fun j k t u b q1 q2 m1 m2 z1 z2 => ?_, fun j t b q m z => ?_, fun j t q m => ?_, h.dom, fun x f => h.fd x (sb x f)⟩
  · rcases get_set q with ⟨rfl, rfl, _⟩ | ⟨ne, q⟩
    · rw [List.getElem?_set_self hs]; exact ⟨a, rfl, m, c⟩
    · rw [List.getElem?_set_ne ne]; exact h.slot j t q
  · rcases get_set q1 with ⟨rfl, rfl, _⟩ | ⟨n1, q1⟩
    · rcases get_set q2 with ⟨rfl, rfl, _⟩ | ⟨n2, q2⟩
      · rfl
      · rw [List.getElem?_set_self hs] at z1; rw [List.getElem?_set_ne n2] at z2; cases z1
        exact absurd f1 (h.apart k u a q2 m2 z2)
    · rw [List.getElem?_set_ne n1] at z1
      rcases get_set q2 with ⟨rfl, rfl, _⟩ | ⟨n2, q2⟩
      · rw [List.getElem?_set_self hs] at z2; cases z2
        exact absurd f1 (h.apart j t a q1 m1 z1)
      · rw [List.getElem?_set_ne n2] at z2; exact h.inj j k t u b q1 q2 m1 m2 z1 z2
  · rcases get_set q with ⟨rfl, rfl, _⟩ | ⟨ne, q⟩
    · rw [List.getElem?_set_self hs] at z; cases z; exact nf
    · rw [List.getElem?_set_ne ne] at z; exact fun f => h.apart j t b q m z (sb b f)
  · rcases get_set q with ⟨rfl, rfl, _⟩ | ⟨ne, q⟩
    · cases m
    · rw [List.getElem?_set_ne ne]; exact h.lent j t q m
/-- 6. what slot i holds is data from now on, or goes out of it -/
def Slot.frz : Slot → Slot
  | .own d => .val d
  | .lent d => .lentF d
  | s => s
theorem Slot.frz_mine : ∀ {s : Slot}, s.open' = true → s.frz.mine = true → False
  | .own _, _, m => nomatch m
  | .lent _, _, m => nomatch m
  | .no, h, _ => nomatch h
  | .val _, h, _ => nomatch h
  | .lentF _, h, _ => nomatch h
  | .lock _ _, h, _ => nomatch h
theorem Rel.other {i : Nat} {s t : Slot} (h : Rel K L F M H ρ σ) (e : ρ[i]? = some s) (r : SlotR M K H (σ[i]?.join) t) (nm : t.mine = true → s.mine = true) (nl : t.isLent = true → s.isLent = true) : Rel K L F M H (ρ.set i t) σ := by
  have back : ∀ (j : Nat) u, (ρ.set i t)[j]? = some u → ∃ u', ρ[j]? = some u' ∧ (u.mine = true → u'.mine = true) ∧ (u.isLent = true → u'.isLent = true) := fun j u q => by
    rcases get_set q with ⟨rfl, rfl, _⟩ | ⟨_, q⟩
    · exact ⟨s, e, nm, nl⟩
    · exact ⟨u, q, id, id⟩
  refine ⟨by simpa using h.len, fun j u q => ?_, fun j k u w b q1 q2 m1 m2 z1 z2 => ?_, fun j u b q m z => ?_, fun j u q m => ?_, h.dom, h.fd⟩
  · rcases get_set q with ⟨rfl, rfl, _⟩ | ⟨ne, q⟩
    · exact r
    · exact h.slot j u q
  · obtain ⟨u', q1', m1', _⟩ := back j u q1
    obtain ⟨w', q2', m2', _⟩ := back k w q2
    exact h.inj j k u' w' b q1' q2' (m1' m1) (m2' m2) z1 z2
  · obtain ⟨u', q', m', _⟩ := back j u q
    exact h.apart j u' b q' (m' m) z
  · obtain ⟨u', q', _, l'⟩ := back j u q
    exact h.lent j u' q' (l' m)
/-- slot i out of the environment, its object among what must not be touched -/
theorem Rel.out {i : Nat} {s : Slot} {a : Addr} (h : Rel K L F M H ρ σ) (e : ρ[i]? = some s) (m : s.mine = true) (z : σ[i]? = some (some (.ref a))) : Rel K L (fun b => F b ∨ V.ref a = .ref b) M H (ρ.set i .no) σ := by
  have h1 : Rel K L F M H (ρ.set i .no) σ := h.other (t := .no) e trivial (fun z => nomatch z) (fun z => nomatch z)
  refine ⟨h1.len, h1.slot, h1.inj, fun j u b q mm zz f => f.elim (h1.apart j u b q mm zz) fun x => ?_, h1.lent, h1.dom, fun b f => f.elim (h1.fd b) fun x => ?_⟩
  · cases x
    rcases get_set q with ⟨rfl, rfl, _⟩ | ⟨ne, q⟩
    · cases mm
    · exact ne (h.inj i j s u a e q m mm z zz)
  · cases x
    obtain ⟨c, _, _, e2, e3, _⟩ := h.mine e m
    rw [e2] at z; cases z
    exact e3
theorem Rel.freeze {i : Nat} {s : Slot} {a : Addr} (h : Rel K L F M H ρ σ) (e : ρ[i]? = some s) (so : s.open' = true) (z : σ[i]? = some (some (.ref a))) :
    Rel K L F (Fd.cut M a) H (ρ.set i s.frz) σ ∧ Evo F M H (Fd.cut M a) H ∧ ∃ d, s.dat = some d ∧ Is (Fd.cut M a) K H (.ref a) d := by
  obtain ⟨b, d0, e1, e2, e3, c, nf⟩ := h.opn e (Slot.open_mine so) (fun d l q => by rw [q] at so; cases so)
  rw [e2] at z; cases z
  have isd : Is (Fd.cut M a) K H (.ref a) d0 := c.cut nf
  have h1 := (h.out e (Slot.open_mine so) e2).cut (F := F) (a := a) (fun _ x => .inl x) (.inr rfl) nf
  have hi : i < ρ.length := (List.getElem?_eq_some_iff.mp e).1
  have e' : (ρ.set i .no)[i]? = some Slot.no := List.getElem?_set_self hi
  have sl : SlotR (Fd.cut M a) K H (σ[i]?.join) s.frz := by
    rw [e2]
    cases s with
    | own d => cases e1; exact ⟨_, rfl, isd⟩
    | lent d => cases e1; exact ⟨_, rfl, isd⟩
    | _ => exact nomatch so
  refine ⟨?_, evo_cut nf, d0, e1, isd⟩
  have ev : Evo F M H (Fd.cut M a) H := evo_cut nf
  refine ⟨by simpa using h.len, fun j u q => ?_, fun j k u w b q1 q2 m1 m2 z1 z2 => ?_, fun j u b q m z => ?_, fun j u q m => ?_, h1.dom, h1.fd⟩
  · rcases get_set q with ⟨rfl, rfl, _⟩ | ⟨ne, q⟩
    · exact sl
    · exact h1.slot j u (by rw [List.getElem?_set_ne ne]; exact q)
  · rcases get_set q1 with ⟨rfl, rfl, _⟩ | ⟨n1, q1⟩
    · exact (Slot.frz_mine so m1).elim
    · rcases get_set q2 with ⟨rfl, rfl, _⟩ | ⟨n2, q2⟩
      · exact (Slot.frz_mine so m2).elim
      · exact h.inj j k u w b q1 q2 m1 m2 z1 z2
  · rcases get_set q with ⟨rfl, rfl, _⟩ | ⟨ne, q⟩
    · exact (Slot.frz_mine so m).elim
    · exact h.apart j u b q m z
  · rcases get_set q with ⟨rfl, rfl, _⟩ | ⟨ne, q⟩
    · cases s with
      | own d => cases m
      | lent d => exact h.lent i _ e rfl
      | _ => exact nomatch so
    · exact h.lent j u q m
end
end Fd

/-! Fd2: the readings of the combinators; names, operators, tests. -/
namespace Fd
open PySem L2

/-! ### exceptions; none: none may come -/
abbrev WO := Option (Value → Option Addr → St → Hp → Prop)
def FldR (M : AP) (K : PySem.W.Frag) (H : Hp) : List (Str × V) → List (Str × D) → Prop
  | [], [] => True
  | p :: ps, q :: qs => p.1 = q.1 ∧ Is M K H p.2 q.2 ∧ FldR M K H ps qs
  | _, _ => False

/-! ### posts -/
section
variable (K : PySem.W.Frag) (L : Lc) (W : WO) (σ : St)
def ExR (M : AP) (H : Hp) (c : Value) (d : Option Addr) (x : Exn) : Prop := c = .ref (He.ga K x.cls) ∧ match x.args with
  | [] => True
  | e :: _ => ∃ a f v, d = some a ∧ H a = some (.xd [(f, v)]) ∧ ¬ M a ∧ Is M K H v e
def PX (F M : AP) (H : Hp) (x : Exn) (ρ' : Ev) : Prop := match W with
  | none => False
  | some w => ∀ c d M' H', Evo F M H M' H' → Rel K L F M' H' ρ' σ → ExR K M' H' c d x → w c d σ H'
def PV (Q : VK) (F M : AP) (H : Hp) : Out RV → Prop
  | .ok r ρ' => ∀ v M' H', Evo F M H M' H' → Rel K L (adj F v r) M' H' ρ' σ → RVR K M' H' σ v r → NotF F v r → Q v H'
  | .exc x ρ' => PX K L W σ F M H x ρ'
  | .bad => False
def PB (Q : Bool → Hp → Prop) (F M : AP) (H : Hp) : Out Bool → Prop
  | .ok b ρ' => ∀ M' H', Evo F M H M' H' → Rel K L F M' H' ρ' σ → Q b H'
  | .exc x ρ' => PX K L W σ F M H x ρ'
  | .bad => False
end
section
variable {K : PySem.W.Frag} {L : Lc} {W : WO} {σ : St} {F F1 M M1 : AP} {H H1 : Hp}
theorem adj_mono {v : V} {r : RV} (s : ∀ x, F x → F1 x) : ∀ x, adj F v r x → adj F1 v r x := by
  intro x h
  cases r with
  | tmp d => exact h.elim (fun z => .inl (s x z)) .inr
  | _ => exact s x h
theorem NotF.mono {v : V} {r : RV} (s : ∀ x, F x → F1 x) (h : NotF F1 v r) : NotF F v r := by
  cases r with
  | tmp d => exact fun b e f => h b e (s b f)
  | _ => trivial
theorem PX.reb {x : Exn} {ρ' : Ev} (p : PX K L W σ F M H x ρ') (e : Evo F M H M1 H1) (s : ∀ x, F x → F1 x) : PX K L W σ F1 M1 H1 x ρ' := by
  cases W with
  | none => exact p
  | some w => exact fun c d M' H' e' r => p c d M' H' (e.trans e' s) (r.sub s)
theorem PV.reb {Q : VK} {o : Out RV} (p : PV K L W σ Q F M H o) (e : Evo F M H M1 H1) (s : ∀ x, F x → F1 x) : PV K L W σ Q F1 M1 H1 o := by
  cases o with
  | ok r ρ' => exact fun v M' H' e' rl rv nf => p v M' H' (e.trans e' s) (rl.sub (adj_mono s)) rv (nf.mono s)
  | exc x ρ' => exact PX.reb p e s
  | bad => exact p
theorem PB.reb {Q : Bool → Hp → Prop} {o : Out Bool} (p : PB K L W σ Q F M H o) (e : Evo F M H M1 H1) (s : ∀ x, F x → F1 x) : PB K L W σ Q F1 M1 H1 o := by
  cases o with
  | ok b ρ' => exact fun M' H' e' rl => p M' H' (e.trans e' s) (rl.sub s)
  | exc x ρ' => exact PX.reb p e s
  | bad => exact p
end

/-! ### the readings -/
section
variable (K : PySem.W.Frag) (W : WO)
def TEof (f : M RV) : TE := fun σ H Q => ∃ L F M ρ, Rel K L F M H ρ σ ∧ PV K L W σ Q F M H (f ρ)
def TTof (f : M Bool) : TT := fun σ H Q => ∃ L F M ρ, Rel K L F M H ρ σ ∧ PB K L W σ Q F M H (f ρ)
end
theorem PE_weak {X : Cx} {e : Expr} {t t' : TE} (h : PE X e t) (k : ∀ σ H Q, t' σ H Q → t σ H Q) : PE X e t' := ⟨fun pins s σ H Q I q => h.run pins s σ H Q I (k σ H Q q)⟩
theorem PT_weak {X : Cx} {e : Expr} {t t' : TT} (h : PT X e t) (k : ∀ σ H Q, t' σ H Q → t σ H Q) : PT X e t' := ⟨fun pins s σ H Q I q => h.run pins s σ H Q I (k σ H Q q)⟩
theorem PW_weak {X : Cx} {e : Expr} {t t' : TT} (h : PW X e t) (k : ∀ σ H Q, t' σ H Q → t σ H Q) : PW X e t' := ⟨fun wh pins s σ H Q I q => h.run wh pins s σ H Q I (k σ H Q q)⟩

/-- an expression, then what follows -/
theorem seqV {K : PySem.W.Frag} {L : Lc} {W : WO} {σ : St} {F M : AP} {H : Hp} {ρ : Ev} {β : Type} {fa : Fd.M RV} {g : RV → Fd.M β} {Q1 : VK} (P : Out β → Prop) (hx : ∀ x ρ', P (.exc x ρ') → PX K L W σ F M H x ρ') (hb : ¬ P .bad)
    (rel : Rel K L F M H ρ σ) (post : P (bnd fa g ρ)) (k : ∀ r ρ1, P (g r ρ1) → ∀ v M1 H1, Evo F M H M1 H1 → Rel K L (adj F v r) M1 H1 ρ1 σ → RVR K M1 H1 σ v r → NotF F v r → Q1 v H1) : TEof K W fa σ H Q1 := by
  refine ⟨L, F, M, ρ, rel, ?_⟩
  unfold bnd at post
  cases h : fa ρ with
  | ok r ρ1 => rw [h] at post; exact k r ρ1 post
  | exc x ρ1 => rw [h] at post; exact hx x ρ1 post
  | bad => rw [h] at post; exact (hb post).elim
theorem seqB {K : PySem.W.Frag} {L : Lc} {W : WO} {σ : St} {F M : AP} {H : Hp} {ρ : Ev} {β : Type} {fa : Fd.M Bool} {g : Bool → Fd.M β} {Q1 : Bool → Hp → Prop} (P : Out β → Prop) (hx : ∀ x ρ', P (.exc x ρ') → PX K L W σ F M H x ρ') (hb : ¬ P .bad)
    (rel : Rel K L F M H ρ σ) (post : P (bnd fa g ρ)) (k : ∀ b ρ1, P (g b ρ1) → ∀ M1 H1, Evo F M H M1 H1 → Rel K L F M1 H1 ρ1 σ → Q1 b H1) : TTof K W fa σ H Q1 := by
  refine ⟨L, F, M, ρ, rel, ?_⟩
  unfold bnd at post
  cases h : fa ρ with
  | ok r ρ1 => rw [h] at post; exact k r ρ1 post
  | exc x ρ1 => rw [h] at post; exact hx x ρ1 post
  | bad => rw [h] at post; exact (hb post).elim

/-! ### results of built-in operations: the heap grows -/
structure Grow (M : AP) (H : Hp) (M' : AP) (H' : Hp) : Prop where
  keep : ∀ a o, H a = some o → H' a = some o
  same : ∀ a, H a ≠ none → (M' a ↔ M a)
  dom : ∀ a, M' a → H' a ≠ none
def NewR (K : PySem.W.Frag) (H : Hp) (M' : AP) (H' : Hp) (v : V) : RV → Prop
  | .val d => Is M' K H' v d
  | .tmp d => ∃ a, v = .ref a ∧ H a = none ∧ M' a ∧ Cont M' K H' a d
  | .bor _ => False
def ResP (K : PySem.W.Frag) (M : AP) (H : Hp) (res : RV) (Q : VK) : Prop := ∀ v M' H', Grow M H M' H' → NewR K H M' H' v res → Q v H'
section
variable {K : PySem.W.Frag} {L : Lc} {W : WO} {σ : St} {F F1 M M1 M2 : AP} {H H1 H2 : Hp} {ρ : Ev}
theorem Grow.refl (dom : ∀ a, M a → H a ≠ none) : Grow M H M H := ⟨fun _ _ h => h, fun _ _ => Iff.rfl, dom⟩
theorem Grow.evo (g : Grow M H M1 H1) (dom : ∀ a, M a → H a ≠ none) : Evo F M H M1 H1 :=
  ⟨fun a o h n => ⟨.inl (g.keep a o h), fun z => n ((g.same a (by rw [h]; exact fun y => nomatch y)).mp z)⟩, fun a _ m => ⟨by
    cases h : H a with
    | none => exact (dom a m h).elim
    | some o => exact g.keep a o h, (g.same a (dom a m)).mpr m⟩⟩
theorem Rel.grow (h : Rel K L F M H ρ σ) (g : Grow M H M1 H1) : Rel K L F M1 H1 ρ σ := h.keep (g.evo h.dom) (fun i s a q m z => by
    obtain ⟨b, d, _, e2, e3, _⟩ := h.mine q m
    rw [e2] at z; cases z
    exact ⟨by
      cases y : H a with
      | none => exact (h.dom a e3 y).elim
      | some o => exact g.keep a o y, (g.same a (h.dom a e3)).mpr e3⟩) g.dom
theorem resP {Q : VK} {res : RV} (post : PV K L W σ Q F M H (.ok res ρ)) (rel : Rel K L F1 M2 H2 ρ σ) (s : ∀ x, F x → F1 x) (e : Evo F M H M2 H2) : ResP K M2 H2 res Q := by
  intro v M' H' g n
  have r1 : Rel K L F M' H' ρ σ := (rel.sub s).grow g
  have e1 : Evo F M H M' H' := e.trans (g.evo rel.dom) (fun _ z => z)
  cases res with
  | val d => exact post v M' H' e1 r1 n trivial
  | tmp d =>
    obtain ⟨a, rfl, hn, m, c⟩ := n
    refine post (.ref a) M' H' e1 ⟨r1.len, r1.slot, r1.inj, fun i t b q mm z f => f.elim (r1.apart i t b q mm z) fun y => ?_, r1.lent, r1.dom, fun b f => f.elim (r1.fd b) fun y => ?_⟩ ⟨a, rfl, m, c⟩ (fun b y f => ?_)
    · cases y
      exact rel.fresh hn i t a q mm z rfl
    · cases y
      exact m
    · cases y
      exact rel.dom a (rel.fd a (s a f)) hn
  | bor i => exact n.elim
theorem ResP.same {d : D} {v : V} {Q : VK} (p : ResP K M H (.val d) Q) (dom : ∀ a, M a → H a ≠ none) (h : Is M K H v d) : Q v H := p v M H (Grow.refl dom) h
theorem grow_tup {p : Addr} {o : HO} (dom : ∀ a, M a → H a ≠ none) (hp : H p = none) : Grow M H M (upd H p o) :=
  ⟨fun a u h => by rw [upd_ne (ne_of_none h hp)]; exact h, fun _ _ => Iff.rfl, fun a m => by
    by_cases e : a = p
    · rw [e, upd_same]; exact fun z => nomatch z
    · rw [upd_ne e]; exact dom a m⟩
theorem grow_own {p : Addr} {o : HO} (dom : ∀ a, M a → H a ≠ none) (hp : H p = none) : Grow M H (fun b => M b ∨ b = p) (upd H p o) :=
  ⟨fun a u h => by rw [upd_ne (ne_of_none h hp)]; exact h, fun a n => ⟨fun z => z.elim id fun e => (n (by rw [e]; exact hp)).elim, .inl⟩, fun a m => by
    by_cases e : a = p
    · rw [e, upd_same]; exact fun z => nomatch z
    · rw [upd_ne e]; exact dom a (m.resolve_right e)⟩
/-- a new tuple -/
theorem ResP.tup {ds : List D} {xs : List V} {Q : VK} {p : Addr} (q : ResP K M H (.val (.tup ds)) Q) (dom : ∀ a, M a → H a ≠ none) (h : IsAll M K H xs ds) (hp : H p = none) : Q (.ref p) (upd H p (.tup xs)) :=
  q (.ref p) M _ (grow_tup dom hp) (.tup upd_same (fun m => dom p m hp) (h.evo (F := fun _ => False) (evo_new dom hp)))
/-- a new list -/
theorem ResP.lst {ds : List D} {xs : List V} {Q : VK} {p : Addr} (q : ResP K M H (.tmp (.lst ds)) Q) (dom : ∀ a, M a → H a ≠ none) (h : IsAll M K H xs ds) (hp : H p = none) : Q (.ref p) (upd H p (.lst xs)) :=
  q (.ref p) _ _ (grow_own dom hp) ⟨p, rfl, hp, .inr rfl, xs, upd_same, h.evo (F := fun _ => False) (evo_own dom hp)⟩
theorem ResP.dK {Q : VK} {p : Addr} (q : ResP K M H (.tmp (.dK [])) Q) (dom : ∀ a, M a → H a ≠ none) (hp : H p = none) : Q (.ref p) (upd H p (.dK [])) :=
  q (.ref p) _ _ (grow_own dom hp) ⟨p, rfl, hp, .inr rfl, [], upd_same, .nil⟩
theorem ResP.dT {Q : VK} {p : Addr} (q : ResP K M H (.tmp (.dT [])) Q) (dom : ∀ a, M a → H a ≠ none) (hp : H p = none) : Q (.ref p) (upd H p (.dT [])) :=
  q (.ref p) _ _ (grow_own dom hp) ⟨p, rfl, hp, .inr rfl, [], upd_same, .nil⟩
end

/-! ### reading data -/
section
variable {K : PySem.W.Frag} {M : AP} {H : Hp} {v : V}
theorem RD.non (h : RD M K H v .non) : v = .non := by
  rcases h with h | ⟨a, _, _, h⟩
  · cases h; rfl
  · exact h.elim
theorem RD.bl {b : Bool} (h : RD M K H v (.bl b)) : v = .bl b := by
  rcases h with h | ⟨a, _, _, h⟩
  · cases h; rfl
  · exact h.elim
theorem RD.int {i : Int} (h : RD M K H v (.int i)) : v = .int i := by
  rcases h with h | ⟨a, _, _, h⟩
  · cases h; rfl
  · exact h.elim
theorem RD.str {x : Str} (h : RD M K H v (.str x)) : v = .str x ∧ PyData.strOk x = true := by
  rcases h with h | ⟨a, _, _, h⟩
  · cases h with | str _ q => exact ⟨rfl, q⟩
  · exact h.elim
theorem RD.tup {ds : List D} (h : RD M K H v (.tup ds)) : ∃ a xs, v = .ref a ∧ H a = some (.tup xs) ∧ IsAll M K H xs ds := by
  rcases h with h | ⟨a, _, _, h⟩
  · cases h with | tup q _ r => exact ⟨_, _, rfl, q, r⟩
  · exact h.elim
theorem RD.lst {ds : List D} (h : RD M K H v (.lst ds)) : ∃ a xs, v = .ref a ∧ H a = some (.lst xs) ∧ IsAll M K H xs ds := by
  rcases h with h | ⟨a, rfl, m, xs, h1, h2⟩
  · cases h with | lst q _ r => exact ⟨_, _, rfl, q, r⟩
  · exact ⟨a, xs, rfl, h1, h2⟩
theorem RD.scr {ns : List Int} (h : RD M K H v (.scr ns)) : ∃ a, v = .ref a ∧ SqL K H a (ns.map V.int) := by
  rcases h with h | ⟨a, rfl, m, h⟩
  · cases h with | scr q => exact ⟨_, rfl, q.sq⟩
  · exact h.elim
theorem RD.kt {ds : List D} (h : RD M K H v (.kt ds)) : ∃ a xs, v = .ref a ∧ KTp K a xs ∧ IsAll M K H xs ds := by
  rcases h with h | ⟨a, rfl, m, h⟩
  · cases h with | kt q r => exact ⟨_, _, rfl, q, r⟩
  · exact h.elim
theorem RD.dK {ds : List (Key × D)} (h : RD M K H v (.dK ds)) : ∃ a xs, v = .ref a ∧ Rd H a (.dK xs) ∧ IsK M K H xs ds := by
  rcases h with h | ⟨a, rfl, m, xs, h1, h2⟩
  · cases h with | dK q _ r => exact ⟨_, _, rfl, q, r⟩
  · exact ⟨a, xs, rfl, h1, h2⟩
theorem RD.dT {ds : List (List Key × D)} (h : RD M K H v (.dT ds)) : ∃ a xs, v = .ref a ∧ Rd H a (.dT xs) ∧ IsT M K H xs ds := by
  rcases h with h | ⟨a, rfl, m, xs, h1, h2⟩
  · cases h with | dT q _ r => exact ⟨_, _, rfl, q, r⟩
  · exact ⟨a, xs, rfl, h1, h2⟩
theorem IsAll.length : ∀ {xs : List V} {ds : List D}, IsAll M K H xs ds → xs.length = ds.length
  | _, [], h => by cases h; rfl
  | _, d :: ds, h => by cases h with | cons a b => simp [IsAll.length b]
theorem IsAll.append : ∀ {xs ys : List V} {ds es : List D}, IsAll M K H xs ds → IsAll M K H ys es → IsAll M K H (xs ++ ys) (ds ++ es)
  | _, _, [], _, h, k => by cases h; exact k
  | _, _, d :: ds, _, h, k => by cases h with | cons a b => exact .cons a (b.append k)
theorem IsAll.get : ∀ {xs : List V} {ds : List D} {i : Nat} {d : D}, IsAll M K H xs ds → ds[i]? = some d → ∃ x, xs[i]? = some x ∧ Is M K H x d
  | _, [], _, _, h, e => by simp at e
  | _, d :: ds, 0, _, h, e => by cases h with | cons a b => simp at e; subst e; exact ⟨_, rfl, a⟩
  | _, d :: ds, i + 1, _, h, e => by cases h with | cons a b => obtain ⟨x, h1, h2⟩ := b.get (i := i) (by simpa using e); exact ⟨x, by simpa using h1, h2⟩
theorem IsAll.take : ∀ (n : Nat) {xs : List V} {ds : List D}, IsAll M K H xs ds → IsAll M K H (xs.take n) (ds.take n)
  | 0, _, _, _ => .nil
  | _ + 1, _, [], h => by cases h; exact .nil
  | n + 1, _, d :: ds, h => by cases h with | cons a b => exact .cons a (b.take n)
theorem IsAll.drop : ∀ (n : Nat) {xs : List V} {ds : List D}, IsAll M K H xs ds → IsAll M K H (xs.drop n) (ds.drop n)
  | 0, _, _, h => h
  | _ + 1, _, [], h => by cases h; exact .nil
  | n + 1, _, d :: ds, h => by cases h with | cons a b => exact b.drop n
theorem IsAll.set {x : V} {d : D} (hx : Is M K H x d) : ∀ (n : Nat) {xs : List V} {ds : List D}, IsAll M K H xs ds → IsAll M K H (xs.set n x) (ds.set n d)
  | _, _, [], h => by cases h; exact .nil
  | 0, _, _ :: _, h => by cases h with | cons a b => exact .cons hx b
  | n + 1, _, _ :: _, h => by cases h with | cons a b => exact .cons a (b.set hx n)
theorem IsAll.reverse : ∀ {xs : List V} {ds : List D}, IsAll M K H xs ds → IsAll M K H xs.reverse ds.reverse
  | _, [], h => by cases h; exact .nil
  | _, d :: ds, h => by cases h with | cons a b => simp only [List.reverse_cons]; exact b.reverse.append (.cons a .nil)
end

/-! ### names, constants -/
def ref (i : Nat) : M RV := fun ρ => match ρ[i]? with
  | some (.val d) => .ok (.val d) ρ
  | some (.lentF d) => .ok (.val d) ρ
  | some (.own _) => .ok (.bor i) ρ
  | some (.lent _) => .ok (.bor i) ρ
  | some (.lock _ _) => .ok (.bor i) ρ
  | _ => .bad
def con (d : D) : M RV := ret (.val d)
section
variable {X : Cx} {W : WO}
theorem t_ref {K : PySem.W.Frag} {i : Nat} {σ : St} {H : Hp} {Q : VK} (h : TEof K W (ref i) σ H Q) : tVar i σ H Q := by
  obtain ⟨L, F, M, ρ, rel, post⟩ := h
  unfold ref at post
  cases e : ρ[i]? with
  | none => rw [e] at post; exact post.elim
  | some s =>
    rw [e] at post
    have z := rel.slot i s e
    cases s with
    | no => exact post.elim
    | val d => obtain ⟨v, h1, h2⟩ := z; exact ⟨v, join_some h1, post v M H .refl rel h2 trivial⟩
    | lentF d => obtain ⟨v, h1, h2⟩ := z; exact ⟨v, join_some h1, post v M H .refl rel h2 trivial⟩
    | own d => obtain ⟨a, h1, h2⟩ := z; exact ⟨_, join_some h1, post _ M H .refl rel (join_some h1) trivial⟩
    | lent d => obtain ⟨a, h1, h2⟩ := z; exact ⟨_, join_some h1, post _ M H .refl rel (join_some h1) trivial⟩
    | lock d l => obtain ⟨a, h1, h2⟩ := z; exact ⟨_, join_some h1, post _ M H .refl rel (join_some h1) trivial⟩
theorem e_ref (i : Nat) {x : Str} {pos : Pos} (hN : X.N[i]? = some x := by rfl) (hv : Vis X.env.scope x := by first | exact Or.inl rfl | exact Or.inr (Or.inl rfl) | exact Or.inr (Or.inr rfl)) (hd : (x == ("__debug__" : Str)) = false := by decide)
    (hcd : (x == ("__classdict__" : Str)) = false := by decide) : PE X (.Name x pos) (TEof X.K W (ref i)) := PE_weak (pe_var hN hv hd hcd) fun _ _ _ => t_ref
/-- atoms -/
def D.atom : D → Option V
  | .non => some .non
  | .bl b => some (.bl b)
  | .int i => some (.int i)
  | .str x => if PyData.strOk x = true then some (.str x) else none
  | _ => none
theorem D.atom_is {M : AP} {K : PySem.W.Frag} {H : Hp} {d : D} {v : V} (h : d.atom = some v) : Is M K H v d := by
  cases d with
  | non => cases h; exact .non
  | bl b => cases h; exact .bl b
  | int b => cases h; exact .int b
  | str b =>
    have h' : (if PyData.strOk b = true then some (V.str b) else none) = some v := h
    by_cases q : PyData.strOk b = true
    · rw [if_pos q] at h'; cases h'; exact .str b q
    · rw [if_neg q] at h'; cases h'
  | _ => cases h
theorem t_con {K : PySem.W.Frag} {d : D} {v : V} {σ : St} {H : Hp} {Q : VK} (hd : d.atom = some v) (h : TEof K W (con d) σ H Q) : Q v H := by
  obtain ⟨L, F, M, ρ, rel, post⟩ := h
  exact post v M H .refl rel (D.atom_is hd) trivial
theorem e_int {i j pos} : PE X (.Constant (.int i) j pos) (TEof X.K W (con (.int i))) := PE_weak pe_int fun _ _ _ => t_con rfl
theorem e_bl {i j pos} : PE X (.Constant (.bool i) j pos) (TEof X.K W (con (.bl i))) := PE_weak pe_bl fun _ _ _ => t_con rfl
theorem e_non {j pos} : PE X (.Constant .none j pos) (TEof X.K W (con .non)) := PE_weak pe_non fun _ _ _ => t_con rfl
theorem e_str {x j pos} (h : (D.str x).atom = some (.str x) := by decide +kernel) : PE X (.Constant (.str x) j pos) (TEof X.K W (con (.str x))) := PE_weak pe_str fun _ _ _ => t_con h
/-- a module's constant -/
theorem e_glob {x : Str} {d : D} {v : V} {u : Value} {pos : Pos} (hm : X.mg x = some u) (r : RelV v u) (hd : d.atom = some v) (hg : Gl X x := by rfl) (hdb : (x == ("__debug__" : Str)) = false := by decide) : PE X (.Name x pos) (TEof X.K W (con d)) :=
  PE_weak (pe_glob hg hm r hdb) fun _ _ _ => t_con hd

/-! ### data out of a slot, a slot's object out of it -/
def vlR : RV → M RV
  | .bor i => fun ρ => match ρ[i]? with
    | some (.own d) => .ok (.val d) (ρ.set i (.val d))
    | some (.lent d) => .ok (.val d) (ρ.set i (.lentF d))
    | some (.val d) => .ok (.val d) ρ
    | some (.lentF d) => .ok (.val d) ρ
    | _ => .bad
  | r => ret r
def vl (f : M RV) : M RV := bnd f vlR
/-- .. moved out (what a def returns) -/
def mvR : RV → M RV
  | .bor i => fun ρ => match ρ[i]? with
    | some (.own d) => .ok (.tmp d) (ρ.set i .no)
    | some (.lent d) => .ok (.val d) (ρ.set i (.lentF d))
    | some (.val d) => .ok (.val d) ρ
    | some (.lentF d) => .ok (.val d) ρ
    | _ => .bad
  | r => ret r
def mv (f : M RV) : M RV := bnd f mvR
/-- with what is put away: new things become data -/
def fzR : RV → M RV
  | .tmp d => ret (.val d)
  | r => vlR r
def fz (f : M RV) : M RV := bnd f fzR
theorem PV.ofBor {K : PySem.W.Frag} {L : Lc} {σ : St} {F M : AP} {H : Hp} {ρ : Ev} {Q : VK} {i : Nat} {s : Slot} {d : D} (e : ρ[i]? = some s) (so : s.open' = true) (hd : s.dat = some d) (post : PV K L W σ Q F M H (.ok (.val d) (ρ.set i s.frz))) : PV K L W σ Q F M H (.ok (.bor i) ρ) := by
  intro v M' H' ev rl rv nf
  have q : σ[i]? = some (some v) := rv
  obtain ⟨a, d', e1, e2, e3, c, na⟩ := rl.mine e (Slot.open_mine so)
  rw [hd] at e1; cases e1
  rw [e2] at q; cases q
  obtain ⟨r1, v1, d1, h1, i1⟩ := rl.freeze e so e2
  rw [hd] at h1; cases h1
  exact post _ _ H' (ev.trans v1 fun _ z => z) r1 i1 trivial
theorem PV.ofVal {K : PySem.W.Frag} {L : Lc} {σ : St} {F M : AP} {H : Hp} {ρ : Ev} {Q : VK} {i : Nat} {s : Slot} {d : D} (e : ρ[i]? = some s) (so : s.mine = false) (hd : s.dat = some d) (post : PV K L W σ Q F M H (.ok (.val d) ρ)) : PV K L W σ Q F M H (.ok (.bor i) ρ) := by
  intro v M' H' ev rl rv nf
  have q : σ[i]? = some (some v) := rv
  refine post v M' H' ev rl ?_ trivial
  have z := rl.slot i s e
  rw [q] at z
  cases s with
  | val d' => cases hd; obtain ⟨u, q, h⟩ := z; cases q; exact h
  | lentF d' => cases hd; obtain ⟨u, q, h⟩ := z; cases q; exact h
  | no => cases hd
  | own d => cases so
  | lent d => cases so
  | lock d l => cases so
theorem TEof.vl {K : PySem.W.Frag} {f : M RV} {σ : St} {H : Hp} {Q : VK} (h : TEof K W (vl f) σ H Q) : TEof K W f σ H Q := by
  obtain ⟨L, F, M, ρ, rel, post⟩ := h
  refine ⟨L, F, M, ρ, rel, ?_⟩
  unfold Fd.vl bnd at post
  cases e : f ρ with
  | exc x ρ1 => rw [e] at post; exact post
  | bad => rw [e] at post; exact post
  | ok r ρ1 =>
    rw [e] at post
    cases r with
    | val d => exact post
    | tmp d => exact post
    | bor i =>
      have post : PV K L W σ Q F M H (vlR (.bor i) ρ1) := post
      unfold vlR at post
      dsimp only at post
      cases q : ρ1[i]? with
      | none => rw [q] at post; exact post.elim
      | some s =>
        rw [q] at post
        cases s with
        | no => exact post.elim
        | lock d l => exact post.elim
        | own d => exact PV.ofBor q rfl rfl post
        | lent d => exact PV.ofBor q rfl rfl post
        | val d => exact PV.ofVal q rfl rfl post
        | lentF d => exact PV.ofVal q rfl rfl post
theorem e_vl {e : Expr} {f : M RV} (h : PE X e (TEof X.K W f)) : PE X e (TEof X.K W (vl f)) := PE_weak h fun _ _ _ => TEof.vl
theorem TEof.mv {K : PySem.W.Frag} {f : M RV} {σ : St} {H : Hp} {Q : VK} (h : TEof K W (mv f) σ H Q) : TEof K W f σ H Q := by
  obtain ⟨L, F, M, ρ, rel, post⟩ := h
  refine ⟨L, F, M, ρ, rel, ?_⟩
  unfold Fd.mv bnd at post
  cases e : f ρ with
  | exc x ρ1 => rw [e] at post; exact post
  | bad => rw [e] at post; exact post
  | ok r ρ1 =>
    rw [e] at post
    cases r with
    | val d => exact post
    | tmp d => exact post
    | bor i =>
      have post : PV K L W σ Q F M H (mvR (.bor i) ρ1) := post
      unfold mvR at post
      dsimp only at post
      cases q : ρ1[i]? with
      | none => rw [q] at post; exact post.elim
      | some s =>
        rw [q] at post
        cases s with
        | no => exact post.elim
        | lock d l => exact post.elim
        | own d =>
          intro v M' H' ev rl rv nf
          have z : σ[i]? = some (some v) := rv
          obtain ⟨a, d', e1, e2, e3, c, na⟩ := rl.opn q rfl (fun _ _ z => nomatch z)
          cases e1
          rw [e2] at z; cases z
          exact post _ M' H' ev (rl.out q rfl e2) ⟨a, rfl, e3, c⟩ (fun b y f => by cases y; exact na f)
        | lent d => exact PV.ofBor q rfl rfl post
        | val d => exact PV.ofVal q rfl rfl post
        | lentF d => exact PV.ofVal q rfl rfl post
theorem e_mv {e : Expr} {f : M RV} (h : PE X e (TEof X.K W f)) : PE X e (TEof X.K W (mv f)) := PE_weak h fun _ _ _ => TEof.mv
/-- a new thing becomes data -/
theorem PV.ofTmp {K : PySem.W.Frag} {L : Lc} {σ : St} {F M : AP} {H : Hp} {ρ : Ev} {Q : VK} {d : D} (post : PV K L W σ Q F M H (.ok (.val d) ρ)) : PV K L W σ Q F M H (.ok (.tmp d) ρ) := by
  intro v M' H' ev rl rv nf
  obtain ⟨a, rfl, m, c⟩ := rv
  have na : ¬ F a := nf a rfl
  exact post _ (cut M' a) H' (ev.trans (evo_cut na) fun _ z => z) (rl.cut (F := F) (fun _ z => .inl z) (.inr rfl) na) (c.cut na) trivial
theorem TEof.fz {K : PySem.W.Frag} {f : M RV} {σ : St} {H : Hp} {Q : VK} (h : TEof K W (fz f) σ H Q) : TEof K W f σ H Q := by
  apply TEof.vl
  obtain ⟨L, F, M, ρ, rel, post⟩ := h
  refine ⟨L, F, M, ρ, rel, ?_⟩
  unfold Fd.fz bnd at post
  unfold Fd.vl bnd
  cases e : f ρ with
  | exc x ρ1 => rw [e] at post; exact post
  | bad => rw [e] at post; exact post
  | ok r ρ1 =>
    rw [e] at post
    cases r with
    | val d => exact post
    | bor i => exact post
    | tmp d => exact PV.ofTmp post
theorem e_fz {e : Expr} {f : M RV} (h : PE X e (TEof X.K W f)) : PE X e (TEof X.K W (fz f)) := PE_weak h fun _ _ _ => TEof.fz
end
end Fd

/-! Fd3: operators, comparisons, tests, subscripts, displays, built-in calls. -/
namespace Fd
open PySem L2

/-! ### data as the library's data -/
mutual
def D.py : D → PyData
  | .non => .none
  | .bl b => .bool b
  | .int i => .int i
  | .str x => .str x
  | .tup ds => .tuple (D.pyAll ds)
  | .lst ds => .list (D.pyAll ds)
  | .dK _ => .dict []
  | .dT _ => .dict []
  | .scr _ => .dict []
  | .kt _ => .dict []
def D.pyAll : List D → List PyData
  | [] => []
  | d :: ds => d.py :: D.pyAll ds
end
mutual
/-- no dict in it -/
def D.pl : D → Bool
  | .tup ds => D.plAll ds
  | .lst ds => D.plAll ds
  | .dK _ => false
  | .dT _ => false
  | .scr _ => false
  | .kt _ => false
  | _ => true
def D.plAll : List D → Bool
  | [] => true
  | d :: ds => d.pl && D.plAll ds
end
def D.dep (d : D) : Nat := d.py.depth
section
variable {K : PySem.W.Frag} {M : AP} {H : Hp}
mutual
theorem Is.dp : ∀ (d : D) {v : V}, Is M K H v d → d.pl = true → Dp K H v d.py ∧ d.py.canLay0 = true
  | .non, _, h, _ => by cases h; exact ⟨.non, rfl⟩
  | .bl b, _, h, _ => by cases h; exact ⟨.bl b, rfl⟩
  | .int b, _, h, _ => by cases h; exact ⟨.int b, rfl⟩
  | .str b, _, h, _ => by cases h with | str _ q => exact ⟨.str b, by simpa [D.py, PyData.canLay0] using q⟩
  | .tup ds, _, h, p => by
    cases h with
    | tup q _ r =>
      have z := IsAll.dp ds r (by simpa [D.pl] using p)
      exact ⟨by simp only [D.py]; exact .tup (.of q) z.1, by simpa [D.py, PyData.canLay0] using z.2⟩
  | .lst ds, _, h, p => by
    cases h with
    | lst q _ r =>
      have z := IsAll.dp ds r (by simpa [D.pl] using p)
      exact ⟨by simp only [D.py]; exact .lst (.of q) z.1, by simpa [D.py, PyData.canLay0] using z.2⟩
  | .dK _, _, _, p => by simp [D.pl] at p
  | .dT _, _, _, p => by simp [D.pl] at p
  | .scr _, _, _, p => by simp [D.pl] at p
  | .kt _, _, _, p => by simp [D.pl] at p
theorem IsAll.dp : ∀ (ds : List D) {vs : List V}, IsAll M K H vs ds → D.plAll ds = true → DpAll K H vs (D.pyAll ds) ∧ PyData.canLayAll0 (D.pyAll ds) = true
  | [], _, h, _ => by cases h; exact ⟨by simp only [D.pyAll]; exact .nil, rfl⟩
  | d :: ds, _, h, p => by
    cases h with
    | cons a b =>
      have p' : d.pl = true ∧ D.plAll ds = true := by simpa [D.plAll] using p
      have z1 := Is.dp d a p'.1
      have z2 := IsAll.dp ds b p'.2
      exact ⟨by simp only [D.pyAll]; exact .cons z1.1 z2.1, by simp [D.pyAll, PyData.canLayAll0, z1.2, z2.2]⟩
end
theorem RD.dp {d : D} {v : V} (h : RD M K H v d) (p : d.pl = true) : Dp K H v d.py ∧ d.py.canLay0 = true := by
  rcases h with h | ⟨a, rfl, m, h⟩
  · exact h.dp d p
  · cases d with
    | lst ds =>
      obtain ⟨xs, h1, h2⟩ := h
      have z := IsAll.dp ds h2 (by simpa [D.pl] using p)
      exact ⟨by simp only [D.py]; exact .lst (.of h1) z.1, by simpa [D.py, PyData.canLay0] using z.2⟩
    | dK _ => simp [D.pl] at p
    | dT _ => simp [D.pl] at p
    | scr _ => simp [D.pl] at p
    | _ => exact h.elim
end

/-! ### an operation on two results -/
def fin2 (g : D → D → Option RV) (r1 r2 : RV) : M RV := fun ρ => match r1.dat ρ, r2.dat ρ with
  | some a, some b => (match g a b with
    | some r => .ok r ρ
    | none => .bad)
  | _, _ => .bad
def op2 (g : D → D → Option RV) (fa fb : M RV) : M RV := bnd fa fun r1 => bnd fb fun r2 => fin2 g r1 r2
def fin1 (g : D → Option RV) (r1 : RV) : M RV := fun ρ => match r1.dat ρ with
  | some a => (match g a with
    | some r => .ok r ρ
    | none => .bad)
  | _ => .bad
def op1 (g : D → Option RV) (fa : M RV) : M RV := bnd fa fun r1 => fin1 g r1
abbrev Dom (M : AP) (H : Hp) : Prop := ∀ a, M a → H a ≠ none
def Good2 (K : PySem.W.Frag) (r : R2) (g : D → D → Option RV) : Prop := ∀ (M : AP) (H : Hp) (x y : V) (a b : D) (res : RV) (Q : VK), Dom M H → RD M K H x a → RD M K H y b → g a b = some res → ResP K M H res Q → r x y H Q
def Good1 (K : PySem.W.Frag) (r : V → Hp → VK → Prop) (g : D → Option RV) : Prop := ∀ (M : AP) (H : Hp) (x : V) (a : D) (res : RV) (Q : VK), Dom M H → RD M K H x a → g a = some res → ResP K M H res Q → r x H Q
section
variable {X : Cx} {W : WO} {a b c : Expr} {fa fb : M RV} {pos : Pos}
theorem t_op2 {K : PySem.W.Frag} {r : R2} {g : D → D → Option RV} {σ : St} {H : Hp} {Q : VK} (hg : Good2 K r g) (h : TEof K W (op2 g fa fb) σ H Q) : tOp r (TEof K W fa) (TEof K W fb) σ H Q := by
  obtain ⟨L, F, M, ρ, rel, post⟩ := h
  refine seqV (PV K L W σ Q F M H) (fun _ _ z => z) id rel post fun r1 ρ1 p1 v1 M1 H1 e1 l1 q1 n1 => ?_
  refine seqV (PV K L W σ Q (adj F v1 r1) M1 H1) (fun _ _ z => z) id l1 (PV.reb p1 e1 adj_sub) fun r2 ρ2 p2 v2 M2 H2 e2 l2 q2 n2 => ?_
  unfold fin2 at p2
  cases h1 : r1.dat ρ2 with
  | none => rw [h1] at p2; exact p2.elim
  | some d1 =>
    cases h2 : r2.dat ρ2 with
    | none => rw [h1, h2] at p2; exact p2.elim
    | some d2 =>
      rw [h1, h2] at p2
      dsimp only at p2
      cases h3 : g d1 d2 with
      | none => rw [h3] at p2; exact p2.elim
      | some res =>
        rw [h3] at p2
        exact hg M2 H2 v1 v2 d1 d2 res Q l2.dom ((q1.evo e2).rd l2 h1) (q2.rd l2 h2) h3 (resP p2 l2 adj_sub e2)
theorem t_op1 {K : PySem.W.Frag} {r : V → Hp → VK → Prop} {g : D → Option RV} {σ : St} {H : Hp} {Q : VK} (hg : Good1 K r g) (h : TEof K W (op1 g fa) σ H Q) : tUn r (TEof K W fa) σ H Q := by
  obtain ⟨L, F, M, ρ, rel, post⟩ := h
  refine seqV (PV K L W σ Q F M H) (fun _ _ z => z) id rel post fun r1 ρ1 p1 v1 M1 H1 e1 l1 q1 n1 => ?_
  unfold fin1 at p1
  cases h1 : r1.dat ρ1 with
  | none => rw [h1] at p1; exact p1.elim
  | some d1 =>
    rw [h1] at p1
    dsimp only at p1
    cases h3 : g d1 with
    | none => rw [h3] at p1; exact p1.elim
    | some res =>
      rw [h3] at p1
      exact hg M1 H1 v1 d1 res Q l1.dom (q1.rd l1 h1) h3 (resP p1 l1 adj_sub e1)
theorem e_op {op : Operator} {r : R2} {g : D → D → Option RV} (ho : OpR X (binaryOp op) r) (hg : Good2 X.K r g) (ha : PE X a (TEof X.K W fa)) (hb : PE X b (TEof X.K W fb)) : PE X (.BinOp a op b pos) (TEof X.K W (op2 g fa fb)) :=
  PE_weak (pe_op ho ha hb) fun _ _ _ => t_op2 hg
theorem e_un {op : UnaryOp} {r : V → Hp → VK → Prop} {g : D → Option RV} (ho : UnR X (unaryOp op) r) (hg : Good1 X.K r g) (ha : PE X a (TEof X.K W fa)) : PE X (.UnaryOp op a pos) (TEof X.K W (op1 g fa)) :=
  PE_weak (pe_un ho ha) fun _ _ _ => t_op1 hg
theorem e_cmp {op : CmpOp} {r : R2} {g : D → D → Option RV} (ho : OpR X (compareOp op) r) (hg : Good2 X.K r g) (ha : PE X a (TEof X.K W fa)) (hb : PE X b (TEof X.K W fb)) (hm : behindInMarks op b = false) : PE X (.Compare a [op] [b] pos) (TEof X.K W (op2 g fa fb)) :=
  PE_weak (pe_cmpR ho ha hb hm) fun _ _ _ => t_op2 hg

/-! ### tests -/
def truth : D → Option Bool
  | .non => some false
  | .bl b => some b
  | .int i => some (i != 0)
  | .str x => if x.length ≤ sizeLine then some ((x.length : Int) != 0) else none
  | .lst ds => some (!ds.isEmpty)
  | .tup ds => some (!ds.isEmpty)
  | .dK _ => none
  | .dT _ => none
  | .scr _ => none
  | .kt _ => none
def tst (f : M RV) : M Bool := bnd f fun r ρ => match r.dat ρ with
  | some d => (match truth d with
    | some b => .ok b ρ
    | none => .bad)
  | none => .bad
theorem RD.tru {K : PySem.W.Frag} {M : AP} {H : Hp} {v : V} {d : D} {k : Bool} (h : RD M K H v d) (e : truth d = some k) : TruV K v H k := by
  cases d with
  | non => rw [h.non]; cases e; rfl
  | bl b => rw [h.bl]; cases e; rfl
  | int i => rw [h.int]; cases e; rfl
  | str x =>
    rw [h.str.1]
    have e' : (if x.length ≤ sizeLine then some ((x.length : Int) != 0) else none) = some k := e
    by_cases z : x.length ≤ sizeLine
    · rw [if_pos z] at e'; cases e'; exact ⟨z, rfl⟩
    · rw [if_neg z] at e'; cases e'
  | lst ds =>
    obtain ⟨p, xs, rfl, h1, h2⟩ := h.lst
    cases e
    refine .inl ⟨xs, .of h1, ?_⟩
    have := h2.length
    cases xs <;> cases ds <;> first | rfl | simp at this
  | tup ds =>
    obtain ⟨p, xs, rfl, h1, h2⟩ := h.tup
    cases e
    refine .inr (.inl ⟨xs, .of h1, ?_⟩)
    have := h2.length
    cases xs <;> cases ds <;> first | rfl | simp at this
  | dK ds => cases e
  | dT ds => cases e
  | scr ds => cases e
  | kt ds => cases e
theorem t_tst {K : PySem.W.Frag} {σ : St} {H : Hp} {Q : Bool → Hp → Prop} (h : TTof K W (tst fa) σ H Q) : TEof K W fa σ H fun x H1 => ∃ k, TruV K x H1 k ∧ Q k H1 := by
  obtain ⟨L, F, M, ρ, rel, post⟩ := h
  refine seqV (PB K L W σ Q F M H) (fun _ _ z => z) id rel post fun r1 ρ1 p1 v1 M1 H1 e1 l1 q1 n1 => ?_
  cases h1 : r1.dat ρ1 with
  | none => rw [h1] at p1; exact p1.elim
  | some d1 =>
    rw [h1] at p1
    dsimp only at p1
    cases h3 : truth d1 with
    | none => rw [h3] at p1; exact p1.elim
    | some k =>
      rw [h3] at p1
      exact ⟨k, (q1.rd l1 h1).tru h3, p1 M1 H1 e1 (l1.sub adj_sub)⟩
theorem b_val (ha : PE X a (TEof X.K W fa)) (he : ∀ whole, isTrue a X.env whole = (do let v ← whole; standAt a.pos; holding [v] (truthy v)) := by intro _; rfl) : PT X a (TTof X.K W (tst fa)) := by
  refine ⟨fun pins s σ H Q I hw => ?_⟩
  refine (pt_truth (ta := TEof X.K W fa) ha he).run pins s σ H Q I ?_
  exact t_tst hw
/-- a comparison as a test -/
def Bool2 (g : D → D → Option RV) : Prop := ∀ x y res, g x y = some res → ∃ k, res = .val (.bl k)
theorem t_op2T {K : PySem.W.Frag} {r : R2} {g : D → D → Option RV} {σ : St} {H : Hp} {Q : Bool → Hp → Prop} (hg : Good2 K r g) (hb2 : Bool2 g) (h : TTof K W (tst (op2 g fa fb)) σ H Q) : tTest (tOp r (TEof K W fa) (TEof K W fb)) σ H Q := by
  obtain ⟨L, F, M, ρ, rel, post⟩ := h
  have post : PB K L W σ Q F M H (bnd fa (fun r1 => bnd fb fun r2 => bnd (fin2 g r1 r2) fun r ρ => match r.dat ρ with
    | some d => (match truth d with
      | some b => .ok b ρ
      | none => .bad)
    | none => .bad) ρ) := by
    have e : ∀ ρ, tst (op2 g fa fb) ρ = bnd fa (fun r1 => bnd fb fun r2 => bnd (fin2 g r1 r2) fun r ρ => match r.dat ρ with
      | some d => (match truth d with
        | some b => .ok b ρ
        | none => .bad)
      | none => .bad) ρ := fun ρ => by
      unfold tst op2 bnd
      cases fa ρ with
      | ok r1 ρ1 =>
        simp only [bnd_ok]
        cases fb ρ1 with
        | ok r2 ρ2 => simp only [bnd_ok]
        | exc x ρ2 => simp only [bnd_exc]
        | bad => simp only [bnd_bad]
      | exc x ρ1 => simp only [bnd_exc]
      | bad => simp only [bnd_bad]
    rw [← e]; exact post
  refine seqV (PB K L W σ Q F M H) (fun _ _ z => z) id rel post fun r1 ρ1 p1 v1 M1 H1 e1 l1 q1 n1 => ?_
  refine seqV (PB K L W σ Q (adj F v1 r1) M1 H1) (fun _ _ z => z) id l1 (PB.reb p1 e1 adj_sub) fun r2 ρ2 p2 v2 M2 H2 e2 l2 q2 n2 => ?_
  unfold bnd fin2 at p2
  cases h1 : r1.dat ρ2 with
  | none => rw [h1] at p2; exact p2.elim
  | some d1 =>
    cases h2 : r2.dat ρ2 with
    | none => rw [h1, h2] at p2; exact p2.elim
    | some d2 =>
      rw [h1, h2] at p2
      dsimp only at p2
      cases h3 : g d1 d2 with
      | none => rw [h3] at p2; exact p2.elim
      | some res =>
        rw [h3] at p2
        obtain ⟨k, rfl⟩ := hb2 d1 d2 res h3
        refine hg M2 H2 v1 v2 d1 d2 _ _ l2.dom ((q1.evo e2).rd l2 h1) (q2.rd l2 h2) h3 fun v M' H' gr nr => ?_
        have z : v = .bl k := by
          have nr' : Is M' K H' v (.bl k) := nr
          cases nr'; rfl
        have p3 : PB K L W σ Q (adj F v1 r1) M1 H1 (.ok k ρ2) := p2
        exact ⟨k, z, p3 M' H' (e2.trans (gr.evo l2.dom) fun _ y => y) ((l2.sub adj_sub).grow gr)⟩
theorem b_cmp {op : CmpOp} {r : R2} {g : D → D → Option RV} (ho : OpR X (compareOp op) r) (hg : Good2 X.K r g) (hb2 : Bool2 g) (ha : PE X a (TEof X.K W fa)) (hb : PE X b (TEof X.K W fb)) (hm : behindInMarks op b = false) :
    PT X (.Compare a [op] [b] pos) (TTof X.K W (tst (op2 g fa fb))) := PT_weak (pt_cmpR ho ha hb hm) fun _ _ _ => t_op2T hg hb2

/-! ### and, or, not, if .. else -/
variable {ca cb : M Bool} {rest : List Expr}
def bAnd (ca cb : M Bool) : M Bool := bnd ca fun k => if k = true then cb else ret false
def bOr (ca cb : M Bool) : M Bool := bnd ca fun k => if k = true then ret true else cb
def bNot (ca : M Bool) : M Bool := bnd ca fun k => ret (!k)
theorem b_and1 (ha : PT X a (TTof X.K W ca)) : PW X (.BoolOp .And [a] pos) (TTof X.K W ca) := pw_and1 ha
theorem b_or1 (ha : PT X a (TTof X.K W ca)) : PW X (.BoolOp .Or [a] pos) (TTof X.K W ca) := pw_or1 ha
theorem b_and (ha : PT X a (TTof X.K W ca)) (hb : PW X (.BoolOp .And (b :: rest) pos) (TTof X.K W cb)) : PW X (.BoolOp .And (a :: b :: rest) pos) (TTof X.K W (bAnd ca cb)) := by
  refine PW_weak (pw_and ha hb) fun σ H Q h => ?_
  obtain ⟨L, F, M, ρ, rel, post⟩ := h
  refine seqB (PB X.K L W σ Q F M H) (fun _ _ z => z) id rel post fun k ρ1 p1 M1 H1 e1 l1 => ?_
  cases k with
  | true => rw [if_pos rfl] at p1 ⊢; exact ⟨L, F, M1, ρ1, l1, PB.reb p1 e1 fun _ z => z⟩
  | false => rw [if_neg Bool.false_ne_true] at p1 ⊢; exact p1 M1 H1 e1 l1
theorem b_or (ha : PT X a (TTof X.K W ca)) (hb : PW X (.BoolOp .Or (b :: rest) pos) (TTof X.K W cb)) : PW X (.BoolOp .Or (a :: b :: rest) pos) (TTof X.K W (bOr ca cb)) := by
  refine PW_weak (pw_or ha hb) fun σ H Q h => ?_
  obtain ⟨L, F, M, ρ, rel, post⟩ := h
  refine seqB (PB X.K L W σ Q F M H) (fun _ _ z => z) id rel post fun k ρ1 p1 M1 H1 e1 l1 => ?_
  cases k with
  | true => rw [if_pos rfl] at p1 ⊢; exact p1 M1 H1 e1 l1
  | false => rw [if_neg Bool.false_ne_true] at p1 ⊢; exact ⟨L, F, M1, ρ1, l1, PB.reb p1 e1 fun _ z => z⟩
theorem b_not (ha : PT X a (TTof X.K W ca)) : PT X (.UnaryOp .Not a pos) (TTof X.K W (bNot ca)) := by
  refine PT_weak (pt_not ha) fun σ H Q h => ?_
  obtain ⟨L, F, M, ρ, rel, post⟩ := h
  exact seqB (PB X.K L W σ Q F M H) (fun _ _ z => z) id rel post fun k ρ1 p1 M1 H1 e1 l1 => p1 M1 H1 e1 l1
/-- .. as values: what is True or False -/
def eAnd (fa fb : M RV) : M RV := bnd fa fun r ρ => match r.dat ρ with
  | some (.bl true) => fb ρ
  | some (.bl false) => .ok (.val (.bl false)) ρ
  | _ => .bad
def eOr (fa fb : M RV) : M RV := bnd fa fun r ρ => match r.dat ρ with
  | some (.bl true) => .ok (.val (.bl true)) ρ
  | some (.bl false) => fb ρ
  | _ => .bad
def notD : D → Option RV
  | .bl b => some (.val (.bl (!b)))
  | _ => none
theorem e_one {op} (h : PE X a (TEof X.K W fa)) : PE X (.BoolOp op [a] pos) (TEof X.K W fa) := pe_one h
theorem e_and (ha : PE X a (TEof X.K W fa)) (hb : PE X (.BoolOp .And (b :: rest) pos) (TEof X.K W fb)) : PE X (.BoolOp .And (a :: b :: rest) pos) (TEof X.K W (eAnd fa fb)) := by
  refine PE_weak (pe_and ha hb) fun σ H Q h => ?_
  obtain ⟨L, F, M, ρ, rel, post⟩ := h
  refine seqV (PV X.K L W σ Q F M H) (fun _ _ z => z) id rel post fun r1 ρ1 p1 v1 M1 H1 e1 l1 q1 n1 => ?_
  cases h1 : r1.dat ρ1 with
  | none => rw [h1] at p1; exact p1.elim
  | some d1 =>
    rw [h1] at p1
    have z := q1.rd l1 h1
    cases d1 with
    | bl k =>
      refine ⟨k, z.bl, ?_⟩
      cases k with
      | true => rw [if_pos rfl]; exact ⟨L, _, M1, ρ1, l1, PV.reb p1 e1 adj_sub⟩
      | false => rw [if_neg Bool.false_ne_true]; exact p1 (.bl false) M1 H1 e1 (l1.sub adj_sub) (Is.bl false) trivial
    | _ => exact p1.elim
theorem e_or (ha : PE X a (TEof X.K W fa)) (hb : PE X (.BoolOp .Or (b :: rest) pos) (TEof X.K W fb)) : PE X (.BoolOp .Or (a :: b :: rest) pos) (TEof X.K W (eOr fa fb)) := by
  refine PE_weak (pe_or ha hb) fun σ H Q h => ?_
  obtain ⟨L, F, M, ρ, rel, post⟩ := h
  refine seqV (PV X.K L W σ Q F M H) (fun _ _ z => z) id rel post fun r1 ρ1 p1 v1 M1 H1 e1 l1 q1 n1 => ?_
  cases h1 : r1.dat ρ1 with
  | none => rw [h1] at p1; exact p1.elim
  | some d1 =>
    rw [h1] at p1
    have z := q1.rd l1 h1
    cases d1 with
    | bl k =>
      refine ⟨k, z.bl, ?_⟩
      cases k with
      | true => rw [if_pos rfl]; exact p1 (.bl true) M1 H1 e1 (l1.sub adj_sub) (Is.bl true) trivial
      | false => rw [if_neg Bool.false_ne_true]; exact ⟨L, _, M1, ρ1, l1, PV.reb p1 e1 adj_sub⟩
    | _ => exact p1.elim
theorem e_not (ha : PE X a (TEof X.K W fa)) : PE X (.UnaryOp .Not a pos) (TEof X.K W (op1 notD fa)) := by
  refine PE_weak (pe_not ha) fun σ H Q h => ?_
  refine t_op1 (r := fun x H Q => ∃ c, x = .bl c ∧ Q (.bl (!c)) H) (fun M H x a res Q dm ra e q => ?_) h
  cases a with
  | bl k => cases e; exact ⟨k, ra.bl, q.same dm (Is.bl _)⟩
  | _ => cases e
/-- x or y of any values -/
def eOrT (fa fb : M RV) : M RV := bnd fa fun r ρ => match r.dat ρ with
  | some d => (match truth d with
    | some true => .ok r ρ
    | some false => fb ρ
    | none => .bad)
  | none => .bad
theorem e_orT (ha : PE X a (TEof X.K W fa)) (hb : PE X (.BoolOp .Or (b :: rest) pos) (TEof X.K W fb)) : PE X (.BoolOp .Or (a :: b :: rest) pos) (TEof X.K W (eOrT fa fb)) := by
  refine PE_weak (pe_orT ha hb) fun σ H Q h => ?_
  obtain ⟨L, F, M, ρ, rel, post⟩ := h
  refine seqV (PV X.K L W σ Q F M H) (fun _ _ z => z) id rel post fun r1 ρ1 p1 v1 M1 H1 e1 l1 q1 n1 => ?_
  cases h1 : r1.dat ρ1 with
  | none => rw [h1] at p1; exact p1.elim
  | some d1 =>
    rw [h1] at p1
    dsimp only at p1
    have z := q1.rd l1 h1
    cases h2 : truth d1 with
    | none => rw [h2] at p1; exact p1.elim
    | some k =>
      rw [h2] at p1
      refine ⟨k, z.tru h2, ?_⟩
      cases k with
      | true => rw [if_pos rfl]; exact p1 v1 M1 H1 e1 l1 q1 n1
      | false => rw [if_neg Bool.false_ne_true]; exact ⟨L, _, M1, ρ1, l1, PV.reb p1 e1 adj_sub⟩
def eIf (c : M Bool) (fa fb : M RV) : M RV := bnd c fun k => if k = true then fa else fb
theorem e_if (hc : PT X c (TTof X.K W ca)) (ha : PE X a (TEof X.K W fa)) (hb : PE X b (TEof X.K W fb)) : PE X (.IfExp c a b pos) (TEof X.K W (eIf ca fa fb)) := by
  refine PE_weak (pe_ifExp hc ha hb) fun σ H Q h => ?_
  obtain ⟨L, F, M, ρ, rel, post⟩ := h
  refine seqB (PV X.K L W σ Q F M H) (fun _ _ z => z) id rel post fun k ρ1 p1 M1 H1 e1 l1 => ?_
  cases k with
  | true => rw [if_pos rfl] at p1 ⊢; exact ⟨L, F, M1, ρ1, l1, PV.reb p1 e1 fun _ z => z⟩
  | false => rw [if_neg Bool.false_ne_true] at p1 ⊢; exact ⟨L, F, M1, ρ1, l1, PV.reb p1 e1 fun _ z => z⟩
end

/-! ### the operators on data -/
section
variable {X : Cx}
def addD : D → D → Option RV
  | .int i, .int j => some (.val (.int (i + j)))
  | .str x, .str y => if x.length + y.length ≤ sizeLine then some (.val (.str (x ++ y))) else none
  | .lst xs, .lst ys => if xs.length + ys.length ≤ sizeLine then some (.tmp (.lst (xs ++ ys))) else none
  | .tup xs, .tup ys => if xs.length + ys.length ≤ sizeLine then some (.val (.tup (xs ++ ys))) else none
  | _, _ => none
theorem strOk_append {x y : Str} (h1 : PyData.strOk x = true) (h2 : PyData.strOk y = true) : PyData.strOk (x ++ y) = true := by
  unfold PyData.strOk at *
  have e : (x ++ y).cps = x.cps ++ y.cps := rfl
  rw [e, Array.all_append, h1, h2]; rfl
abbrev rAddD (K : PySem.W.Frag) : R2 := fun x y H Q => rI0 (fun i j => .int (i + j)) x y H Q ∨ ((∃ i j, x = .str i ∧ y = .str j ∧ i.length + j.length ≤ sizeLine ∧ Q (.str (i ++ j)) H) ∨ (rCat x y H Q ∨ rCatA K x y H Q))
theorem op_addD : OpR X (binaryOp .Add) (rAddD X.K) := OpR.or op_add (OpR.or op_add_str (OpR.or op_cat op_catA))
theorem good_add {K : PySem.W.Frag} : Good2 K (rAddD K) addD := by
  intro M H x y a b res Q dm ra rb e q
  cases a with
  | int i =>
    cases b with
    | int j => cases e; exact .inl ⟨i, j, ra.int, rb.int, q.same dm (Is.int _)⟩
    | _ => cases e
  | str i =>
    cases b with
    | str j =>
      have e' : (if i.length + j.length ≤ sizeLine then some (RV.val (D.str (i ++ j))) else none) = some res := e
      by_cases z : i.length + j.length ≤ sizeLine
      · rw [if_pos z] at e'; cases e'
        exact .inr (.inl ⟨i, j, ra.str.1, rb.str.1, z, q.same dm (Is.str _ (strOk_append ra.str.2 rb.str.2))⟩)
      · rw [if_neg z] at e'; cases e'
    | _ => cases e
  | lst i =>
    cases b with
    | lst j =>
      have e' : (if i.length + j.length ≤ sizeLine then some (RV.tmp (D.lst (i ++ j))) else none) = some res := e
      by_cases z : i.length + j.length ≤ sizeLine
      · rw [if_pos z] at e'; cases e'
        obtain ⟨p, xs, rfl, h1, h2⟩ := ra.lst
        obtain ⟨p', ys, rfl, h3, h4⟩ := rb.lst
        refine .inr (.inr (.inl ⟨p, p', xs, ys, rfl, rfl, h1, h3, by rw [h2.length, h4.length]; exact z, fun r hr => q.lst dm (h2.append h4) hr⟩))
      · rw [if_neg z] at e'; cases e'
    | _ => cases e
  | tup i =>
    cases b with
    | tup j =>
      have e' : (if i.length + j.length ≤ sizeLine then some (RV.val (D.tup (i ++ j))) else none) = some res := e
      by_cases z : i.length + j.length ≤ sizeLine
      · rw [if_pos z] at e'; cases e'
        obtain ⟨p, xs, rfl, h1, h2⟩ := ra.tup
        obtain ⟨p', ys, rfl, h3, h4⟩ := rb.tup
        have ra' : ∀ {i : List D} {v : V}, RD M K H v (.tup i) → Is M K H v (.tup i) := fun h => h.elim id fun ⟨_, _, _, z⟩ => z.elim
        refine .inr (.inr (.inr ⟨p, p', xs, ys, rfl, rfl, .of h1, .of h3, by rw [h2.length, h4.length]; exact z, fun z1 => ?_, fun z1 z2 => ?_, fun z1 z2 r hr => q.tup dm (h2.append h4) hr⟩))
        · subst z1
          cases h2
          exact q.same dm (by simpa using ra' rb)
        · subst z2
          cases h4
          exact q.same dm (by simpa using ra' ra)
      · rw [if_neg z] at e'; cases e'
    | _ => cases e
  | _ => cases b <;> cases e
/-- whole numbers alone -/
def int2 (C : Int → Int → Bool) (g : Int → Int → D) : D → D → Option RV
  | .int i, .int j => if C i j = true then some (.val (g i j)) else none
  | _, _ => none
def atomI (g : Int → Int → D) : Prop := ∀ i j, ∃ v, (g i j).atom = some v
theorem good_int2 {K : PySem.W.Frag} {C : Int → Int → Bool} {C' : Int → Int → Prop} {g : Int → Int → D} {gv : Int → Int → V} (hC : ∀ i j, C i j = true → C' i j) (hg : ∀ i j, (g i j).atom = some (gv i j)) : Good2 K (rI C' gv) (int2 C g) := by
  intro M H x y a b res Q dm ra rb e q
  cases a with
  | int i =>
    cases b with
    | int j =>
      have e' : (if C i j = true then some (RV.val (g i j)) else none) = some res := e
      by_cases z : C i j = true
      · rw [if_pos z] at e'; cases e'
        exact ⟨i, j, ra.int, rb.int, hC i j z, q.same dm (D.atom_is (hg i j))⟩
      · rw [if_neg z] at e'; cases e'
    | _ => cases e
  | _ => cases b <;> cases e
theorem good_int20 {K : PySem.W.Frag} {g : Int → Int → D} {gv : Int → Int → V} (hg : ∀ i j, (g i j).atom = some (gv i j)) : Good2 K (rI0 gv) (int2 (fun _ _ => true) g) := by
  intro M H x y a b res Q dm ra rb e q
  cases a with
  | int i =>
    cases b with
    | int j => cases e; exact ⟨i, j, ra.int, rb.int, q.same dm (D.atom_is (hg i j))⟩
    | _ => cases e
  | _ => cases b <;> cases e
def subD := int2 (fun _ _ => true) fun i j => .int (i - j)
theorem good_sub {K : PySem.W.Frag} : Good2 K (rI0 fun i j => .int (i - j)) subD := good_int20 fun _ _ => rfl
def fdivD := int2 (fun _ j => decide (j ≠ 0 ∧ j.natAbs < 1073741824)) fun i j => .int (i.fdiv j)
theorem good_fdiv {K : PySem.W.Frag} : Good2 K (rI CDivN fun i j => .int (i.fdiv j)) fdivD := good_int2 (fun i j h => by have q := of_decide_eq_true h; exact q) fun _ _ => rfl
def modD := int2 (fun _ j => decide (j ≠ 0)) fun i j => .int (i.fmod j)
theorem good_mod {K : PySem.W.Frag} : Good2 K (rI (fun _ j => j ≠ 0) fun i j => .int (i.fmod j)) modD := good_int2 (fun _ _ h => of_decide_eq_true h) fun _ _ => rfl
def powD := int2 (fun i j => decide (0 ≤ j ∧ j ≤ 1000000 ∧ i.natAbs < 2 ^ 64)) fun i j => .int (i ^ j.toNat)
theorem good_pow {K : PySem.W.Frag} : Good2 K (rI CPow fun i j => .int (i ^ j.toNat)) powD := good_int2 (fun i j h => by have q := of_decide_eq_true h; exact q) fun _ _ => rfl
def negD : D → Option RV
  | .int i => some (.val (.int (-i)))
  | _ => none
theorem good_neg {K : PySem.W.Frag} : Good1 K (rU fun i => .int (-i)) negD := by
  intro M H x a res Q dm ra e q
  cases a with
  | int i => cases e; exact ⟨i, ra.int, q.same dm (Is.int _)⟩
  | _ => cases e
theorem IsAll.rep {K : PySem.W.Frag} {M : AP} {H : Hp} {xs : List V} {ds : List D} (h : IsAll M K H xs ds) : ∀ k : Nat, IsAll M K H (List.replicate k xs).flatten (List.replicate k ds).flatten
  | 0 => .nil
  | k + 1 => by rw [List.replicate_succ, List.replicate_succ, List.flatten_cons, List.flatten_cons]; exact h.append (h.rep k)
def mulD : D → D → Option RV
  | .int i, .int j => if (-(2 ^ 64) < i ∧ i < 2 ^ 64) ∨ (-(2 ^ 64) < j ∧ j < 2 ^ 64) then some (.val (.int (i * j))) else none
  | .lst xs, .int k => if 0 ≤ k ∧ k ≤ 1000000 ∧ xs.length * k.toNat ≤ sizeLine then some (.tmp (.lst (List.replicate k.toNat xs).flatten)) else none
  | .tup xs, .int k => if xs ≠ [] ∧ 2 ≤ k ∧ k ≤ 1000 ∧ xs.length ≤ 1000 then some (.val (.tup (List.replicate k.toNat xs).flatten)) else none
  | _, _ => none
abbrev rMulD (K : PySem.W.Frag) : R2 := fun x y H Q => rI CMul (fun i j => .int (i * j)) x y H Q ∨ (rRep x y H Q ∨ rRepT K x y H Q)
theorem op_mulD : OpR X (binaryOp .Mult) (rMulD X.K) := OpR.or op_mul (OpR.or op_rep op_repT)
theorem good_mul {K : PySem.W.Frag} : Good2 K (rMulD K) mulD := by
  intro M H x y a b res Q dm ra rb e q
  unfold mulD at e
  split at e
  · split at e
    · cases e; exact .inl ⟨_, _, ra.int, rb.int, (by assumption), q.same dm (Is.int _)⟩
    · cases e
  · split at e
    · rename_i h
      cases e
      obtain ⟨p, xs, rfl, h1, h2⟩ := ra.lst
      exact .inr (.inl ⟨p, _, xs, rfl, rb.int, h1, by omega, by omega, by rw [h2.length]; exact h.2.2, fun r hr => q.lst dm (h2.rep _) hr⟩)
    · cases e
  · split at e
    · rename_i h
      cases e
      obtain ⟨p, xs, rfl, h1, h2⟩ := ra.tup
      refine .inr (.inr ⟨p, _, xs, rfl, rb.int, .of h1, ?_, h.2.1, h.2.2.1, by rw [h2.length]; exact h.2.2.2, fun r hr => q.tup dm (h2.rep _) hr⟩)
      rintro rfl
      cases h2
      exact h.1 rfl
    · cases e
  · cases e
/-! ### comparisons -/
def eqD (d e : D) : Option RV := if d.pl = true ∧ e.pl = true ∧ min d.dep e.dep ≤ 64 then some (.val (.bl (PyData.eqv d.py e.py))) else none
def neD (d e : D) : Option RV := if d.pl = true ∧ e.pl = true ∧ min d.dep e.dep ≤ 64 then some (.val (.bl (!PyData.eqv d.py e.py))) else none
def rEqM (K : PySem.W.Frag) (neg : Bool) : R2 := fun x y H Q => ∃ d e, Dp K H x d ∧ Dp K H y e ∧ d.canLay0 = true ∧ e.canLay0 = true ∧ min d.depth e.depth ≤ 64 ∧ Q (.bl (if neg then !PyData.eqv d e else PyData.eqv d e)) H
theorem op_eqM (hu : X.A.units + 64 < cLine) : OpR X (compareOp .Eq) (rEqM X.K false) := by
  intro pins s σ H x y v u Q I rx ry h
  obtain ⟨d, e, hd, he, sd, se, mn, q⟩ := h
  obtain ⟨as, r1⟩ := Dp.reads I d x v hd rx
  obtain ⟨bs, r2⟩ := Dp.reads I e y u he ry
  exact SeqAt.compareEq_reads r1 r2 sd se (by omega) ⟨.bl _, H, I, rfl, q⟩
theorem op_neM (hu : X.A.units + 64 < cLine) : OpR X (compareOp .NotEq) (rEqM X.K true) := by
  intro pins s σ H x y v u Q I rx ry h
  obtain ⟨d, e, hd, he, sd, se, mn, q⟩ := h
  obtain ⟨as, r1⟩ := Dp.reads I d x v hd rx
  obtain ⟨bs, r2⟩ := Dp.reads I e y u he ry
  exact SeqAt.compareNe_reads r1 r2 sd se (by omega) ⟨.bl _, H, I, rfl, q⟩
theorem good_eq {K : PySem.W.Frag} : Good2 K (rEqM K false) eqD := by
  intro M H x y a b res Q dm ra rb e q
  unfold eqD at e
  split at e
  · rename_i h
    cases e
    exact ⟨a.py, b.py, (ra.dp h.1).1, (rb.dp h.2.1).1, (ra.dp h.1).2, (rb.dp h.2.1).2, h.2.2, q.same dm (Is.bl _)⟩
  · cases e
theorem good_ne {K : PySem.W.Frag} : Good2 K (rEqM K true) neD := by
  intro M H x y a b res Q dm ra rb e q
  unfold neD at e
  split at e
  · rename_i h
    cases e
    exact ⟨a.py, b.py, (ra.dp h.1).1, (rb.dp h.2.1).1, (ra.dp h.1).2, (rb.dp h.2.1).2, h.2.2, q.same dm (Is.bl _)⟩
  · cases e
theorem bool_eq : Bool2 eqD := fun x y res h => by
  unfold eqD at h
  split at h
  · cases h; exact ⟨_, rfl⟩
  · cases h
theorem bool_ne : Bool2 neD := fun x y res h => by
  unfold neD at h
  split at h
  · cases h; exact ⟨_, rfl⟩
  · cases h
theorem bool_int2 {C : Int → Int → Bool} {g : Int → Int → Bool} : Bool2 (int2 C fun i j => .bl (g i j)) := fun x y res h => by
  unfold int2 at h
  split at h
  · split at h
    · cases h; exact ⟨_, rfl⟩
    · cases h
  · cases h
/-- < of numbers, of texts -/
def lt2 (gi : Int → Int → Bool) (gs : Str → Str → Bool) : D → D → Option RV
  | .int i, .int j => some (.val (.bl (gi i j)))
  | .str x, .str y => some (.val (.bl (gs x y)))
  | _, _ => none
theorem bool_lt2 {gi : Int → Int → Bool} {gs : Str → Str → Bool} : Bool2 (lt2 gi gs) := fun x y res h => by
  unfold lt2 at h
  split at h <;> first | (cases h; exact ⟨_, rfl⟩) | cases h
abbrev rS2 (gs : Str → Str → Bool) : R2 := fun x y H Q => ∃ i j, x = .str i ∧ y = .str j ∧ Q (.bl (gs i j)) H
theorem good_lt2 {K : PySem.W.Frag} {gi : Int → Int → Bool} {gs : Str → Str → Bool} : Good2 K (fun x y H Q => rI0 (fun i j => .bl (gi i j)) x y H Q ∨ rS2 gs x y H Q) (lt2 gi gs) := by
  intro M H x y a b res Q dm ra rb e q
  unfold lt2 at e
  split at e
  · cases e; exact .inl ⟨_, _, ra.int, rb.int, q.same dm (Is.bl _)⟩
  · cases e; exact .inr ⟨_, _, ra.str.1, rb.str.1, q.same dm (Is.bl _)⟩
  · cases e
def ltS (x y : Str) : Bool := decide (x.cps.toList < y.cps.toList)
def ltD := lt2 (fun i j => decide (i < j)) ltS
def leD := lt2 (fun i j => decide (i ≤ j)) fun x y => !ltS y x
def gtD := lt2 (fun i j => decide (j < i)) fun x y => ltS y x
def geD := lt2 (fun i j => decide (j ≤ i)) fun x y => !ltS x y
theorem op_ltD : OpR X (compareOp .Lt) (fun x y H Q => rI0 (fun i j => .bl (decide (i < j))) x y H Q ∨ rS2 ltS x y H Q) := OpR.or op_lt op_lt_str
theorem op_leD : OpR X (compareOp .LtE) (fun x y H Q => rI0 (fun i j => .bl (decide (i ≤ j))) x y H Q ∨ rS2 (fun x y => !ltS y x) x y H Q) := OpR.or op_le op_le_str
theorem op_gtD : OpR X (compareOp .Gt) (fun x y H Q => rI0 (fun i j => .bl (decide (j < i))) x y H Q ∨ rS2 (fun x y => ltS y x) x y H Q) := OpR.or op_gt op_gt_str
theorem op_geD : OpR X (compareOp .GtE) (fun x y H Q => rI0 (fun i j => .bl (decide (j ≤ i))) x y H Q ∨ rS2 (fun x y => !ltS x y) x y H Q) := OpR.or op_ge op_ge_str
/-- is None -/
def isND (neg : Bool) : D → D → Option RV
  | d, .non => some (.val (.bl (match d with | .non => !neg | _ => neg)))
  | _, _ => none
theorem bool_isN {neg : Bool} : Bool2 (isND neg) := fun x y res h => by
  unfold isND at h
  split at h <;> first | (cases h; exact ⟨_, rfl⟩) | cases h
theorem RD.isN {K : PySem.W.Frag} {M : AP} {H : Hp} {v : V} {d : D} (h : RD M K H v d) : decide (v = .non) = (match d with | .non => true | _ => false) := by
  rcases h with h | ⟨a, rfl, m, h⟩
  · cases h <;> simp
  · cases d <;> first | exact h.elim | simp
theorem good_isN {K : PySem.W.Frag} : Good2 K (fun x y H Q => y = .non ∧ Q (.bl (decide (x = .non))) H) (isND false) := by
  intro M H x y a b res Q dm ra rb e q
  unfold isND at e
  split at e
  · cases e
    refine ⟨rb.non, ?_⟩
    rw [ra.isN]
    refine q.same dm ?_
    cases a <;> exact Is.bl _
  · cases e
theorem good_notN {K : PySem.W.Frag} : Good2 K (fun x y H Q => y = .non ∧ Q (.bl (!decide (x = .non))) H) (isND true) := by
  intro M H x y a b res Q dm ra rb e q
  unfold isND at e
  split at e
  · cases e
    refine ⟨rb.non, ?_⟩
    rw [ra.isN]
    refine q.same dm ?_
    cases a <;> exact Is.bl _
  · cases e
end
end Fd

/-! Fd4: in, subscripts, slices, argument lists, displays, built-in calls. -/
namespace Fd
open PySem L2

/-! ### keys -/
def keyOf : D → Option Key
  | .int i => some (.inl i)
  | .str x => some (.inr x)
  | _ => none
def keysAll : List D → Option (List Key)
  | [] => some []
  | d :: ds => (keyOf d).bind fun k => (keysAll ds).map fun ks => k :: ks
def keysOf : D → Option (List Key)
  | .tup ds => keysAll ds
  | _ => none
def look {κ α : Type} [DecidableEq κ] (kvs : List (κ × α)) (k : κ) : Option α := (kvs.find? fun kv => decide (kv.1 = k)).map (·.2)
def putD {κ α : Type} [DecidableEq κ] (kvs : List (κ × α)) (k : κ) (v : α) : List (κ × α) :=
  if (kvs.any fun kv => decide (kv.1 = k)) = true then kvs.map (fun kv => if kv.1 = k then (kv.1, v) else kv) else kvs ++ [(k, v)]
section
variable {K : PySem.W.Frag} {M : AP} {H : Hp}
theorem RD.key {d : D} {v : V} {k : Key} (h : RD M K H v d) (e : keyOf d = some k) : v = kV k := by
  cases d with
  | int i => cases e; exact h.int
  | str i => cases e; exact h.str.1
  | _ => cases e
theorem Is.key {d : D} {v : V} {k : Key} (h : Is M K H v d) (e : keyOf d = some k) : v = kV k := RD.key (.inl h) e
theorem IsAll.keys : ∀ {ds : List D} {vs : List V} {ks : List Key}, IsAll M K H vs ds → keysAll ds = some ks → vs = ks.map kV
  | [], _, _, h, e => by cases h; cases e; rfl
  | d :: ds, _, _, h, e => by
    cases h with
    | cons a b =>
      unfold keysAll at e
      cases h1 : keyOf d with
      | none => rw [h1] at e; cases e
      | some k =>
        rw [h1] at e
        cases h2 : keysAll ds with
        | none => rw [h2] at e; cases e
        | some ks =>
          rw [h2] at e
          cases e
          rw [List.map_cons, a.key h1, b.keys h2]
theorem RD.keys {d : D} {v : V} {ks : List Key} (h : RD M K H v d) (e : keysOf d = some ks) : ∃ b, v = .ref b ∧ H b = some (.tup (ks.map kV)) := by
  cases d with
  | tup ds =>
    obtain ⟨a, xs, rfl, h1, h2⟩ := h.tup
    exact ⟨a, rfl, by rw [h1, h2.keys e]⟩
  | _ => cases e
theorem IsK.lk : ∀ {xs : List (Key × V)} {ds : List (Key × D)} (k : Key), IsK M K H xs ds → (∀ d, look ds k = some d → ∃ v, valV xs k = some v ∧ Is M K H v d) ∧ (look ds k = none → valV xs k = none)
  | _, [], k, h => by cases h; exact ⟨fun d e => (nomatch e), fun _ => rfl⟩
  | _, (k', d') :: ds, k, h => by
    cases h with
    | cons a b =>
      by_cases e : k' = k
      · have e1 : look ((k', d') :: ds) k = some d' := by simp [Fd.look, List.find?_cons, e]
        rw [e1]
        exact ⟨fun d q => by cases q; exact ⟨_, valV_pos e, a⟩, fun q => by cases q⟩
      · have e1 : look ((k', d') :: ds) k = look ds k := by simp [Fd.look, List.find?_cons, e]
        rw [e1, valV_neg (p := (k', _)) e]
        exact b.lk k
theorem IsT.lk : ∀ {xs : List (List Key × V)} {ds : List (List Key × D)} (k : List Key), IsT M K H xs ds → (∀ d, look ds k = some d → ∃ v, valV xs k = some v ∧ Is M K H v d) ∧ (look ds k = none → valV xs k = none)
  | _, [], k, h => by cases h; exact ⟨fun d e => (nomatch e), fun _ => rfl⟩
  | _, (k', d') :: ds, k, h => by
    cases h with
    | cons a b =>
      by_cases e : k' = k
      · have e1 : look ((k', d') :: ds) k = some d' := by simp [Fd.look, List.find?_cons, e]
        rw [e1]
        exact ⟨fun d q => by cases q; exact ⟨_, valV_pos e, a⟩, fun q => by cases q⟩
      · have e1 : look ((k', d') :: ds) k = look ds k := by simp [Fd.look, List.find?_cons, e]
        rw [e1, valV_neg (p := (k', _)) e]
        exact b.lk k
theorem IsK.isSome {xs : List (Key × V)} {ds : List (Key × D)} {k : Key} (h : IsK M K H xs ds) : (valV xs k).isSome = (look ds k).isSome := by
  cases e : look ds k with
  | none => rw [(h.lk k).2 e]; rfl
  | some d => obtain ⟨v, h1, _⟩ := (h.lk k).1 d e; rw [h1]; rfl
theorem IsT.isSome {xs : List (List Key × V)} {ds : List (List Key × D)} {k : List Key} (h : IsT M K H xs ds) : (valV xs k).isSome = (look ds k).isSome := by
  cases e : look ds k with
  | none => rw [(h.lk k).2 e]; rfl
  | some d => obtain ⟨v, h1, _⟩ := (h.lk k).1 d e; rw [h1]; rfl
end

/-! ### in -/
def inSeq (d : D) (ds : List D) : Bool := ds.any fun y => PyData.eqv y.py d.py
def inStr (x y : Str) : Bool := match x.cps.toList with
  | [c] => decide (c ∈ y.cps.toList)
  | _ => !(Builtin.Str.occurrences y x 0 y.length 1).isEmpty
def inD (neg : Bool) (d : D) : D → Option RV
  | .lst ds => if d.pl = true ∧ D.plAll ds = true ∧ min (PyData.depthAll (D.pyAll ds)) d.dep ≤ 64 then some (.val (.bl (inSeq d ds != neg))) else none
  | .tup ds => if d.pl = true ∧ D.plAll ds = true ∧ min (PyData.depthAll (D.pyAll ds)) d.dep ≤ 64 then some (.val (.bl (inSeq d ds != neg))) else none
  | .kt ds => if d.pl = true ∧ D.plAll ds = true ∧ min (PyData.depthAll (D.pyAll ds)) d.dep ≤ 64 then some (.val (.bl (inSeq d ds != neg))) else none
  | .str y => (match d with
    | .str x => some (.val (.bl (inStr x y != neg)))
    | _ => none)
  | .dK kvs => (keyOf d).map fun k => .val (.bl ((look kvs k).isSome != neg))
  | .dT kvs => (keysOf d).map fun k => .val (.bl ((look kvs k).isSome != neg))
  | _ => none
theorem bool_in {neg : Bool} : Bool2 (inD neg) := fun x y res h => by
  unfold inD at h
  split at h
  · split at h
    · cases h; exact ⟨_, rfl⟩
    · cases h
  · split at h
    · cases h; exact ⟨_, rfl⟩
    · cases h
  · split at h
    · cases h; exact ⟨_, rfl⟩
    · cases h
  · split at h
    · cases h; exact ⟨_, rfl⟩
    · cases h
  · cases hk : keyOf x with
    | none => rw [hk] at h; cases h
    | some k => rw [hk] at h; cases h; exact ⟨_, rfl⟩
  · cases hk : keysOf x with
    | none => rw [hk] at h; cases h
    | some k => rw [hk] at h; cases h; exact ⟨_, rfl⟩
  · cases h
section
variable {X : Cx}
def rInM (K : PySem.W.Frag) (neg : Bool) : R2 := fun x y H Q =>
  (∃ d ds, Dp K H x d ∧ (Dp K H y (.list ds) ∨ Dp K H y (.tuple ds)) ∧ d.canLay0 = true ∧ PyData.canLayAll0 ds = true ∧ min (PyData.depthAll ds) d.depth ≤ 64 ∧ Q (.bl ((ds.any fun z => PyData.eqv z d) != neg)) H) ∨
  (∃ i j, x = .str i ∧ y = .str j ∧ Q (.bl (inStr i j != neg)) H) ∨ ∃ a o, y = .ref a ∧ DGet H a x o ∧ Q (.bl (o.isSome != neg)) H
theorem op_inM (hu : X.A.units + 100 < cLine) : OpR X (compareOp .In) (rInM X.K false) := by
  intro pins s σ H x y v u Q I rx ry h
  rcases h with ⟨d, ds, hd, he, sd, se, mn, q⟩ | ⟨i, j, rfl, rfl, q⟩ | ⟨a, o, rfl, g, q⟩
  · rw [Bool.bne_false] at q
    obtain ⟨as, r1⟩ := Dp.reads I d x v hd rx
    rcases he with he | he
    · obtain ⟨bs, r2⟩ := Dp.reads I (.list ds) y u he ry
      exact SeqAt.in_list_reads r2 r1 se sd (by omega) ⟨.bl _, H, I, rfl, q⟩
    · obtain ⟨bs, r2⟩ := Dp.reads I (.tuple ds) y u he ry
      exact SeqAt.in_tuple_reads r2 r1 se sd (by omega) ⟨.bl _, H, I, rfl, q⟩
  · rw [Bool.bne_false] at q
    unfold inStr at q
    split at q
    · rename_i c hc
      have e : i = ⟨#[c]⟩ := by cases i with | mk cs => cases cs with | mk l => simp at hc; subst hc; rfl
      exact op_in_sign pins s σ H _ _ v u Q I rx ry ⟨c, j, by rw [e], rfl, q⟩
    · exact op_in_str pins s σ H _ _ v u Q I rx ry ⟨i, j, rfl, rfl, q⟩
  · rw [Bool.bne_false] at q
    cases ry
    exact d_in (by omega) I g rx fun s' I' => ⟨.bl _, H, I', rfl, q⟩
theorem op_notInM (hu : X.A.units + 100 < cLine) : OpR X (compareOp .NotIn) (rInM X.K true) := by
  intro pins s σ H x y v u Q I rx ry h
  rcases h with ⟨d, ds, hd, he, sd, se, mn, q⟩ | ⟨i, j, rfl, rfl, q⟩ | ⟨a, o, rfl, g, q⟩
  · rw [Bool.bne_true] at q
    obtain ⟨as, r1⟩ := Dp.reads I d x v hd rx
    rcases he with he | he
    · obtain ⟨bs, r2⟩ := Dp.reads I (.list ds) y u he ry
      exact SeqAt.notIn_list_reads r2 r1 se sd (by omega) ⟨.bl _, H, I, rfl, q⟩
    · obtain ⟨bs, r2⟩ := Dp.reads I (.tuple ds) y u he ry
      exact SeqAt.notIn_tuple_reads r2 r1 se sd (by omega) ⟨.bl _, H, I, rfl, q⟩
  · rw [Bool.bne_true] at q
    unfold inStr at q
    split at q
    · rename_i c hc
      have e : i = ⟨#[c]⟩ := by cases i with | mk cs => cases cs with | mk l => simp at hc; subst hc; rfl
      exact op_notIn_sign pins s σ H _ _ v u Q I rx ry ⟨c, j, by rw [e], rfl, by simpa using q⟩
    · exact op_notin_str pins s σ H _ _ v u Q I rx ry ⟨i, j, rfl, rfl, q⟩
  · rw [Bool.bne_true] at q
    cases ry
    exact d_notIn (by omega) I g rx fun s' I' => ⟨.bl _, H, I', rfl, q⟩
theorem any_py (d : D) : ∀ ds : List D, ((D.pyAll ds).any fun z => PyData.eqv z d.py) = inSeq d ds
  | [] => by simp [D.pyAll, inSeq]
  | e :: ds => by
    have ih := any_py d ds
    unfold inSeq at ih ⊢
    rw [D.pyAll, List.any_cons, List.any_cons, ih]
theorem good_in {K : PySem.W.Frag} {neg : Bool} : Good2 K (rInM K neg) (inD neg) := by
  intro M H x y a b res Q dm ra rb e q
  unfold inD at e
  split at e
  · split at e
    · rename_i ds h
      cases e
      have z := rb.dp (by simpa [D.pl] using h.2.1)
      simp only [D.py, PyData.canLay0] at z
      exact .inl ⟨a.py, D.pyAll ds, (ra.dp h.1).1, .inl z.1, (ra.dp h.1).2, z.2, h.2.2, by rw [any_py]; exact q.same dm (Is.bl _)⟩
    · cases e
  · split at e
    · rename_i ds h
      cases e
      have z := rb.dp (by simpa [D.pl] using h.2.1)
      simp only [D.py, PyData.canLay0] at z
      exact .inl ⟨a.py, D.pyAll ds, (ra.dp h.1).1, .inr z.1, (ra.dp h.1).2, z.2, h.2.2, by rw [any_py]; exact q.same dm (Is.bl _)⟩
    · cases e
  · split at e
    · rename_i ds h
      cases e
      obtain ⟨p, xs, rfl, h1, h2⟩ := rb.kt
      have z := IsAll.dp ds h2 h.2.1
      exact .inl ⟨a.py, D.pyAll ds, (ra.dp h.1).1, .inr (.tup (.inr h1) z.1), (ra.dp h.1).2, z.2, h.2.2, by rw [any_py]; exact q.same dm (Is.bl _)⟩
    · cases e
  · split at e
    · cases e; exact .inr (.inl ⟨_, _, ra.str.1, rb.str.1, q.same dm (Is.bl _)⟩)
    · cases e
  · rename_i kvs
    cases hk : keyOf a with
    | none => rw [hk] at e; cases e
    | some k =>
      rw [hk] at e; cases e
      obtain ⟨p, xs, rfl, h1, h2⟩ := rb.dK
      rw [ra.key hk]
      exact .inr (.inr ⟨p, valV xs k, rfl, .inl ⟨xs, k, h1, rfl, rfl⟩, by rw [h2.isSome]; exact q.same dm (Is.bl _)⟩)
  · rename_i kvs
    cases hk : keysOf a with
    | none => rw [hk] at e; cases e
    | some k =>
      rw [hk] at e; cases e
      obtain ⟨p, xs, rfl, h1, h2⟩ := rb.dT
      obtain ⟨c, rfl, h3⟩ := ra.keys hk
      exact .inr (.inr ⟨p, valV xs k, rfl, .inr ⟨xs, k, c, h1, rfl, h3, rfl⟩, by rw [h2.isSome]; exact q.same dm (Is.bl _)⟩)
  · cases e

/-! ### o[i] -/
theorem ix_dict (hu : X.A.units + 100 < cLine) : IxR X (fun x y H Q => ∃ a v, x = .ref a ∧ DGet H a y (some v) ∧ Q v H) := by
  intro value slice pins s σ H x y v u Q I rx ry h hs
  obtain ⟨a, w, rfl, g, q⟩ := h
  cases rx
  have hT := dict_typeIs I g
  have go : wpAny (model X.prog X.w) X.A (subscripted slice false (.ref a) u) (fun r s₃ => wpAny (model X.prog X.w) X.A (letTemporaryGo value (.ref a) r >>= fun _ => pure r) (EP X pins σ Q) X.xe s₃) X.xe s := by
    rw [hs]
    exact wpAny_operating (d_getItem (by omega) I g ry fun w' s3 I3 rw' => wpAny_bind (wpAny_letTemporaryGo (wpAny_pure ⟨w, H, I3, rw', q⟩)))
  unfold PyProof.Rows.subscriptTail
  refine wpAny_bind ?_
  rw [getitemInPython_of_ne hT.not_modules]
  refine wpAny_bind (wpAny_specialOf hT PySem.F.slot_dict_getitem.lookup ?_)
  first
    | exact wpAny_pure (wpAny_bind go)
    | exact wpAny_bind (wpAny_pure (wpAny_bind go))
    | exact wpAny_bind go
def ixD : D → D → Option RV
  | .lst ds, .int i => (atI ds i).map .val
  | .tup ds, .int i => (atI ds i).map .val
  | .scr ns, .int i => (atI ns i).map fun n => .val (.int n)
  | .str x, .int i => if x.length ≤ sizeLine then (atI x.cps.toList i).map fun c => .val (.str ⟨#[c]⟩) else none
  | .dK kvs, k => (keyOf k).bind fun k => (look kvs k).map .val
  | .dT kvs, k => (keysOf k).bind fun k => (look kvs k).map .val
  | _, _ => none
abbrev rIxD (K : PySem.W.Frag) : R2 := fun x y H Q => rIxL K x y H Q ∨ (rIxT K x y H Q ∨ (rIxS x y H Q ∨ ∃ a v, x = .ref a ∧ DGet H a y (some v) ∧ Q v H))
theorem ix_any (hu : X.A.units + 100 < cLine) : IxR X (rIxD X.K) := IxR.or ix_list (IxR.or ix_tup (IxR.or ix_str (ix_dict hu)))
theorem atI_all {K : PySem.W.Frag} {M : AP} {H : Hp} {xs : List V} {ds : List D} {i : Int} {d : D} (h : IsAll M K H xs ds) (e : atI ds i = some d) : ∃ v, atI xs i = some v ∧ Is M K H v d := by
  unfold atI at e ⊢
  rw [h.length]
  cases hj : ixN ds.length i with
  | none => rw [hj] at e; cases e
  | some j =>
    rw [hj] at e
    exact h.get e
theorem strOk_at {x : Str} {i : Int} {c : Nat} (h : PyData.strOk x = true) (e : atI x.cps.toList i = some c) : PyData.strOk ⟨#[c]⟩ = true := by
  unfold atI at e
  cases hj : ixN x.cps.toList.length i with
  | none => rw [hj] at e; cases e
  | some j =>
    rw [hj] at e
    have e' : x.cps.toList[j]? = some c := e
    have hm : c ∈ x.cps := by
      have := List.mem_of_getElem? e'
      simpa using this
    unfold PyData.strOk at h ⊢
    rw [Array.all_eq_true_iff_forall_mem] at h
    simpa using h c hm
theorem good_ix {K : PySem.W.Frag} : Good2 K (rIxD K) ixD := by
  intro M H x y a b res Q dm ra rb e q
  unfold ixD at e
  split at e
  · rename_i ds i
    cases h0 : atI ds i with
    | none => rw [h0] at e; cases e
    | some d =>
      rw [h0] at e; cases e
      obtain ⟨p, xs, rfl, h1, h2⟩ := ra.lst
      obtain ⟨v, h3, h4⟩ := atI_all h2 h0
      exact .inl ⟨p, xs, i, v, rfl, rb.int, .of h1, h3, q.same dm h4⟩
  · rename_i ds i
    cases h0 : atI ds i with
    | none => rw [h0] at e; cases e
    | some d =>
      rw [h0] at e; cases e
      obtain ⟨p, xs, rfl, h1, h2⟩ := ra.tup
      obtain ⟨v, h3, h4⟩ := atI_all h2 h0
      exact .inr (.inl ⟨p, xs, i, v, rfl, rb.int, .of h1, h3, q.same dm h4⟩)
  · rename_i ns i
    cases h0 : atI ns i with
    | none => rw [h0] at e; cases e
    | some n =>
      rw [h0] at e; cases e
      obtain ⟨p, rfl, h1⟩ := ra.scr
      refine .inl ⟨p, _, i, .int n, rfl, rb.int, h1, ?_, q.same dm (Is.int n)⟩
      unfold atI at h0 ⊢
      rw [List.length_map]
      cases hj : ixN ns.length i with
      | none => rw [hj] at h0; cases h0
      | some j =>
        rw [hj] at h0
        have h0' : ns[j]? = some n := h0
        show (ns.map V.int)[j]? = _
        rw [List.getElem?_map, h0']; rfl
  · rename_i z i
    split at e
    · rename_i hz
      cases h0 : atI z.cps.toList i with
      | none => rw [h0] at e; cases e
      | some c =>
        rw [h0] at e; cases e
        exact .inr (.inr (.inl ⟨z, i, c, ra.str.1, rb.int, hz, h0, q.same dm (Is.str _ (strOk_at ra.str.2 h0))⟩))
    · cases e
  · rename_i kvs
    cases hk : keyOf b with
    | none => rw [hk] at e; cases e
    | some k =>
      rw [hk] at e
      have e : (look kvs k).map RV.val = some res := e
      cases hl : look kvs k with
      | none => rw [hl] at e; cases e
      | some d =>
        rw [hl] at e; cases e
        obtain ⟨p, xs, rfl, h1, h2⟩ := ra.dK
        obtain ⟨v, h3, h4⟩ := (h2.lk k).1 d hl
        rw [rb.key hk]
        exact .inr (.inr (.inr ⟨p, v, rfl, by rw [← h3]; exact .inl ⟨xs, k, h1, rfl, rfl⟩, q.same dm h4⟩))
  · rename_i kvs
    cases hk : keysOf b with
    | none => rw [hk] at e; cases e
    | some k =>
      rw [hk] at e
      have e : (look kvs k).map RV.val = some res := e
      cases hl : look kvs k with
      | none => rw [hl] at e; cases e
      | some d =>
        rw [hl] at e; cases e
        obtain ⟨p, xs, rfl, h1, h2⟩ := ra.dT
        obtain ⟨v, h3, h4⟩ := (h2.lk k).1 d hl
        obtain ⟨c, rfl, h5⟩ := rb.keys hk
        exact .inr (.inr (.inr ⟨p, v, rfl, by rw [← h3]; exact .inr ⟨xs, k, c, h1, rfl, h5, rfl⟩, q.same dm h4⟩))
  · cases e
variable {W : WO} {a b c : Expr} {fa fb : M RV} {pos : Pos}
theorem e_ix (hu : X.A.units + 100 < cLine) (ha : PE X a (TEof X.K W fa)) (hb : PE X b (TEof X.K W fb)) (hs : PlainIx b := by intro _ _; rfl) : PE X (.Subscript a b pos) (TEof X.K W (op2 ixD fa fb)) :=
  PE_weak (pe_ix (ix_any hu) ha hb hs) fun _ _ _ => t_op2 good_ix
end
end Fd

/-! Fd5: slices, argument lists, displays, built-in calls. -/
namespace Fd
open PySem L2

/-! ### slices -/
def cutG {α : Type} (xs : List α) (lo hi : Option Int) : List α := (xs.drop (HT.sIx xs.length 0 lo)).take (HT.sIx xs.length xs.length hi - HT.sIx xs.length 0 lo)
theorem IsAll.cut {K : PySem.W.Frag} {M : AP} {H : Hp} {xs : List V} {ds : List D} {lo hi : Option Int} (h : IsAll M K H xs ds) : IsAll M K H (cutV xs lo hi) (cutG ds lo hi) := by
  unfold cutV cutG
  rw [h.length]
  exact (h.drop _).take _
theorem isAll_ints {K : PySem.W.Frag} {M : AP} {H : Hp} : ∀ ns : List Int, IsAll M K H (ns.map V.int) (ns.map D.int)
  | [] => .nil
  | n :: ns => .cons (.int n) (isAll_ints ns)
def sliceD (d : D) (lo hi : Option Int) : Option RV := match d with
  | .lst ds => some (.tmp (.lst (cutG ds lo hi)))
  | .tup ds => some (.val (.tup (cutG ds lo hi)))
  | .scr ns => some (.tmp (.lst ((cutG ns lo hi).map D.int)))
  | _ => none
/-- a bound of a slice -/
def slB (f : Option (M RV)) : M (Option Int) := match f with
  | none => ret none
  | some f => bnd f fun r ρ => match r.dat ρ with
    | some (.int i) => .ok (some i) ρ
    | _ => .bad
def slc (fa : M RV) (lo hi : Option (M RV)) : M RV := bnd fa fun r => bnd (slB lo) fun l => bnd (slB hi) fun h => fin1 (fun d => sliceD d l h) r
section
variable {K : PySem.W.Frag} {L : Lc} {W : WO} {σ : St}
def PI' (Q : Option Int → Hp → Prop) (F M : AP) (H : Hp) : Out (Option Int) → Prop
  | .ok b ρ' => ∀ M' H', Evo F M H M' H' → Rel K L F M' H' ρ' σ → Q b H'
  | .exc x ρ' => PX K L W σ F M H x ρ'
  | .bad => False
end
def TOof (K : PySem.W.Frag) (W : WO) (f : M (Option Int)) : TO := fun σ H Q => ∃ L F M ρ, Rel K L F M H ρ σ ∧ PI' (K := K) (L := L) (W := W) (σ := σ) Q F M H (f ρ)
theorem PO_weak {X : Cx} {e : Option Expr} {t t' : TO} (h : PO X e t) (k : ∀ σ H Q, t' σ H Q → t σ H Q) : PO X e t' := ⟨fun pins s σ H Q I q => h.run pins s σ H Q I (k σ H Q q)⟩
section
variable {X : Cx} {W : WO} {a b c : Expr} {fa fb : M RV} {pos : Pos}
theorem o_none : PO X none (TOof X.K W (slB none)) := PO_weak po_none fun σ H Q h => by
  obtain ⟨L, F, M, ρ, rel, post⟩ := h
  exact post M H .refl rel
theorem o_some (ha : PE X a (TEof X.K W fa)) : PO X (some a) (TOof X.K W (slB (some fa))) := PO_weak (po_some ha) fun σ H Q h => by
  obtain ⟨L, F, M, ρ, rel, post⟩ := h
  refine seqV (PI' (K := X.K) (L := L) (W := W) (σ := σ) Q F M H) (fun _ _ z => z) id rel post fun r1 ρ1 p1 v1 M1 H1 e1 l1 q1 n1 => ?_
  cases h1 : r1.dat ρ1 with
  | none => rw [h1] at p1; exact p1.elim
  | some d1 =>
    rw [h1] at p1
    cases d1 with
    | int i => exact ⟨i, (q1.rd l1 h1).int, p1 M1 H1 e1 (l1.sub adj_sub)⟩
    | _ => exact p1.elim
theorem seqO {K : PySem.W.Frag} {L : Lc} {W : WO} {σ : St} {F M : AP} {H : Hp} {ρ : Ev} {β : Type} {fa : Fd.M (Option Int)} {g : Option Int → Fd.M β} {Q1 : Option Int → Hp → Prop} (P : Out β → Prop) (hx : ∀ x ρ', P (.exc x ρ') → PX K L W σ F M H x ρ') (hb : ¬ P .bad)
    (rel : Rel K L F M H ρ σ) (post : P (bnd fa g ρ)) (k : ∀ b ρ1, P (g b ρ1) → ∀ M1 H1, Evo F M H M1 H1 → Rel K L F M1 H1 ρ1 σ → Q1 b H1) : TOof K W fa σ H Q1 := by
  refine ⟨L, F, M, ρ, rel, ?_⟩
  unfold bnd at post
  cases h : fa ρ with
  | ok r ρ1 => rw [h] at post; exact k r ρ1 post
  | exc x ρ1 => rw [h] at post; exact hx x ρ1 post
  | bad => rw [h] at post; exact (hb post).elim
abbrev rSlD (K : PySem.W.Frag) : V → Option Int → Option Int → Hp → VK → Prop := fun x lo hi H Q => rSlL K x lo hi H Q ∨ rSlA K x lo hi H Q
theorem sl_any : SlR X (rSlD X.K) := SlR.or sl_list sl_tupA
theorem sIx_whole {α : Type} (ds : List α) {lo hi : Option Int} (h : HT.sIx ds.length 0 lo = 0 ∧ HT.sIx ds.length ds.length hi = ds.length) : cutG ds lo hi = ds := by
  unfold cutG
  rw [h.1, h.2]
  simp
theorem good_slice {K : PySem.W.Frag} {M : AP} {H : Hp} {x : V} {d : D} {lo hi : Option Int} {res : RV} {Q : VK} (dm : Dom M H) (ra : RD M K H x d) (e : sliceD d lo hi = some res) (q : ResP K M H res Q) : rSlD K x lo hi H Q := by
  unfold sliceD at e
  split at e
  · cases e
    obtain ⟨p, xs, rfl, h1, h2⟩ := ra.lst
    exact .inl ⟨p, xs, rfl, .of h1, fun r hr => q.lst dm h2.cut hr⟩
  · cases e
    have ia : Is M K H x _ := ra.elim id fun ⟨_, _, _, z⟩ => z.elim
    obtain ⟨p, xs, rfl, h1, h2⟩ := ra.tup
    refine .inr ⟨p, xs, rfl, .of h1, fun z => ?_, fun z r hr => q.tup dm h2.cut hr⟩
    rw [h2.length] at z
    exact q.same dm (by rw [sIx_whole _ z]; exact ia)
  · cases e
    rename_i ns
    obtain ⟨p, rfl, h1⟩ := ra.scr
    refine .inl ⟨p, _, rfl, h1, fun r hr => ?_⟩
    have e2 : cutV (ns.map V.int) lo hi = (cutG ns lo hi).map V.int := by
      unfold cutV cutG
      rw [List.length_map, List.map_take, List.map_drop]
    rw [e2]
    exact q.lst dm (isAll_ints _) hr
  · cases e
theorem e_slc {lo hi : Option Expr} {fl fh : Option (M RV)} {p2 : Pos} (ha : PE X a (TEof X.K W fa)) (hl : PO X lo (TOof X.K W (slB fl))) (hh : PO X hi (TOof X.K W (slB fh))) : PE X (.Subscript a (.Slice lo hi none p2) pos) (TEof X.K W (slc fa fl fh)) := by
  refine PE_weak (pe_slice sl_any ha hl hh) fun σ H Q h => ?_
  obtain ⟨L, F, M, ρ, rel, post⟩ := h
  refine seqV (PV X.K L W σ Q F M H) (fun _ _ z => z) id rel post fun r1 ρ1 p1 v1 M1 H1 e1 l1 q1 n1 => ?_
  refine seqO (PV X.K L W σ Q (adj F v1 r1) M1 H1) (fun _ _ z => z) id l1 (PV.reb p1 e1 adj_sub) fun o2 ρ2 p2 M2 H2 e2 l2 => ?_
  refine seqO (PV X.K L W σ Q (adj F v1 r1) M2 H2) (fun _ _ z => z) id l2 (PV.reb p2 e2 fun _ z => z) fun o3 ρ3 p3 M3 H3 e3 l3 => ?_
  unfold fin1 at p3
  cases h1 : r1.dat ρ3 with
  | none => rw [h1] at p3; exact p3.elim
  | some d1 =>
    rw [h1] at p3
    dsimp only at p3
    cases h3 : sliceD d1 o2 o3 with
    | none => rw [h3] at p3; exact p3.elim
    | some res =>
      rw [h3] at p3
      exact good_slice l3.dom (((q1.evo e2).evo e3).rd l3 h1) h3 (resP p3 l3 (fun _ z => z) e3)
end

/-! ### argument lists -/
def adjs (F : AP) : List V → List RV → AP
  | v :: vs, r :: rs => adjs (adj F v r) vs rs
  | _, _ => F
def NotFs (F : AP) : List V → List RV → Prop
  | v :: vs, r :: rs => NotF F v r ∧ NotFs (adj F v r) vs rs
  | [], [] => True
  | _, _ => False
def RVRs (K : PySem.W.Frag) (M : AP) (H : Hp) (σ : St) : List V → List RV → Prop
  | v :: vs, r :: rs => RVR K M H σ v r ∧ RVRs K M H σ vs rs
  | [], [] => True
  | _, _ => False
theorem adjs_sub : ∀ {F : AP} (vs : List V) (rs : List RV), ∀ x, F x → adjs F vs rs x
  | _, [], _, _, h => h
  | _, _ :: _, [], _, h => h
  | _, v :: vs, r :: rs, x, h => adjs_sub vs rs x (adj_sub x h)
theorem adjs_mono : ∀ {F F1 : AP} (vs : List V) (rs : List RV), (∀ x, F x → F1 x) → ∀ x, adjs F vs rs x → adjs F1 vs rs x
  | _, _, [], _, s, x, h => s x h
  | _, _, _ :: _, [], s, x, h => s x h
  | _, _, v :: vs, r :: rs, s, x, h => adjs_mono vs rs (adj_mono s) x h
theorem NotFs.mono : ∀ {F F1 : AP} {vs : List V} {rs : List RV}, (∀ x, F x → F1 x) → NotFs F1 vs rs → NotFs F vs rs
  | _, _, [], [], _, h => h
  | _, _, [], _ :: _, _, h => h
  | _, _, _ :: _, [], _, h => h
  | _, _, v :: vs, r :: rs, s, h => ⟨h.1.mono s, NotFs.mono (adj_mono s) h.2⟩
section
variable (K : PySem.W.Frag) (L : Lc) (W : WO) (σ : St)
def PL (Q : List V → Hp → Prop) (F M : AP) (H : Hp) : Out (List RV) → Prop
  | .ok rs ρ' => ∀ vs M' H', Evo F M H M' H' → Rel K L (adjs F vs rs) M' H' ρ' σ → RVRs K M' H' σ vs rs → NotFs F vs rs → Q vs H'
  | .exc x ρ' => PX K L W σ F M H x ρ'
  | .bad => False
end
def TAof (K : PySem.W.Frag) (W : WO) (f : M (List RV)) : TA := fun σ H Q => ∃ L F M ρ, Rel K L F M H ρ σ ∧ PL K L W σ Q F M H (f ρ)
theorem PA_weak {X : Cx} {e : List Expr} {t t' : TA} (h : PA X e t) (k : ∀ σ H Q, t' σ H Q → t σ H Q) : PA X e t' := ⟨fun pos pins s σ H Q I q => h.run pos pins s σ H Q I (k σ H Q q)⟩
theorem PL.reb {K : PySem.W.Frag} {L : Lc} {W : WO} {σ : St} {F F1 M M1 : AP} {H H1 : Hp} {Q : List V → Hp → Prop} {o : Out (List RV)} (p : PL K L W σ Q F M H o) (e : Evo F M H M1 H1) (s : ∀ x, F x → F1 x) : PL K L W σ Q F1 M1 H1 o := by
  cases o with
  | ok r ρ' => exact fun v M' H' e' rl rv nf => p v M' H' (e.trans e' s) (rl.sub (adjs_mono _ _ s)) rv (nf.mono s)
  | exc x ρ' => exact PX.reb p e s
  | bad => exact p
theorem seqL {K : PySem.W.Frag} {L : Lc} {W : WO} {σ : St} {F M : AP} {H : Hp} {ρ : Ev} {β : Type} {fa : Fd.M (List RV)} {g : List RV → Fd.M β} {Q1 : List V → Hp → Prop} (P : Out β → Prop) (hx : ∀ x ρ', P (.exc x ρ') → PX K L W σ F M H x ρ') (hb : ¬ P .bad)
    (rel : Rel K L F M H ρ σ) (post : P (bnd fa g ρ)) (k : ∀ rs ρ1, P (g rs ρ1) → ∀ vs M1 H1, Evo F M H M1 H1 → Rel K L (adjs F vs rs) M1 H1 ρ1 σ → RVRs K M1 H1 σ vs rs → NotFs F vs rs → Q1 vs H1) : TAof K W fa σ H Q1 := by
  refine ⟨L, F, M, ρ, rel, ?_⟩
  unfold bnd at post
  cases h : fa ρ with
  | ok r ρ1 => rw [h] at post; exact k r ρ1 post
  | exc x ρ1 => rw [h] at post; exact hx x ρ1 post
  | bad => rw [h] at post; exact (hb post).elim
def aNil : M (List RV) := ret []
def aCons (fa : M RV) (fr : M (List RV)) : M (List RV) := bnd fa fun r => bnd fr fun rs => ret (r :: rs)
section
variable {X : Cx} {W : WO} {a b c : Expr} {fa fb : M RV} {pos : Pos} {es : List Expr} {fs : M (List RV)}
theorem a_nil : PA X [] (TAof X.K W aNil) := PA_weak pa_nil fun σ H Q h => by
  obtain ⟨L, F, M, ρ, rel, post⟩ := h
  exact post [] M H .refl rel trivial trivial
theorem a_cons (ha : PE X a (TEof X.K W fa)) (hr : PA X es (TAof X.K W fs)) (hs : starEach (a :: es) X.env = (false, eval a X.env) :: starEach es X.env := by rfl) : PA X (a :: es) (TAof X.K W (aCons fa fs)) := by
  refine PA_weak (pa_cons ha hr hs) fun σ H Q h => ?_
  obtain ⟨L, F, M, ρ, rel, post⟩ := h
  refine seqV (PL X.K L W σ Q F M H) (fun _ _ z => z) id rel post fun r1 ρ1 p1 v1 M1 H1 e1 l1 q1 n1 => ?_
  refine seqL (PL X.K L W σ Q F M H) (fun x ρ' z => PX.reb z e1 adj_sub) id l1 p1 fun rs ρ2 p2 vs M2 H2 e2 l2 q2 n2 => ?_
  have q1' := q1.evo (e2.weak (F := adj F v1 r1) fun _ z => z)
  exact p2 (v1 :: vs) M2 H2 (e1.trans e2 adj_sub) l2 ⟨q1', q2⟩ ⟨n1, n2⟩
/-- the data of results -/
def datsOf (ρ : Ev) : List RV → Option (List D)
  | [] => some []
  | r :: rs => (r.dat ρ).bind fun d => (datsOf ρ rs).map fun ds => d :: ds
def RDs (M : AP) (K : PySem.W.Frag) (H : Hp) : List V → List D → Prop
  | v :: vs, d :: ds => RD M K H v d ∧ RDs M K H vs ds
  | [], [] => True
  | _, _ => False
theorem RVRs.rds {K : PySem.W.Frag} {L : Lc} {σ : St} {F M : AP} {H : Hp} {ρ : Ev} (rel : Rel K L F M H ρ σ) : ∀ {vs : List V} {rs : List RV} {ds : List D}, RVRs K M H σ vs rs → datsOf ρ rs = some ds → RDs M K H vs ds
  | [], [], _, _, e => by cases e; trivial
  | [], _ :: _, _, h, _ => h.elim
  | _ :: _, [], _, h, _ => h.elim
  | v :: vs, r :: rs, _, h, e => by
    unfold datsOf at e
    cases h1 : r.dat ρ with
    | none => rw [h1] at e; cases e
    | some d =>
      rw [h1] at e
      cases h2 : datsOf ρ rs with
      | none => rw [h2] at e; cases e
      | some ds =>
        rw [h2] at e
        cases e
        exact ⟨h.1.rd rel h1, RVRs.rds rel h.2 h2⟩
def GoodL (K : PySem.W.Frag) (r : List V → Hp → VK → Prop) (g : List D → Option RV) : Prop := ∀ (M : AP) (H : Hp) (vs : List V) (ds : List D) (res : RV) (Q : VK), Dom M H → RDs M K H vs ds → g ds = some res → ResP K M H res Q → r vs H Q
def finL (g : List D → Option RV) (rs : List RV) : M RV := fun ρ => match datsOf ρ rs with
  | some ds => (match g ds with
    | some res => .ok res ρ
    | none => .bad)
  | none => .bad
def callB (g : List D → Option RV) (fs : M (List RV)) : M RV := bnd fs fun rs => finL g rs
theorem t_callB {K : PySem.W.Frag} {r : List V → Hp → VK → Prop} {g : List D → Option RV} {σ : St} {H : Hp} {Q : VK} (hg : GoodL K r g) (h : TEof K W (callB g fs) σ H Q) : tCB r (TAof K W fs) σ H Q := by
  obtain ⟨L, F, M, ρ, rel, post⟩ := h
  refine seqL (PV K L W σ Q F M H) (fun _ _ z => z) id rel post fun rs ρ1 p1 vs M1 H1 e1 l1 q1 n1 => ?_
  unfold finL at p1
  cases h1 : datsOf ρ1 rs with
  | none => rw [h1] at p1; exact p1.elim
  | some ds =>
    rw [h1] at p1
    dsimp only at p1
    cases h3 : g ds with
    | none => rw [h3] at p1; exact p1.elim
    | some res =>
      rw [h3] at p1
      exact hg M1 H1 vs ds res Q l1.dom (RVRs.rds l1 q1 h1) h3 (resP p1 l1 (adjs_sub _ _) e1)
theorem e_callB {x : Str} {id : String} {p : Pos} {r : List V → Hp → VK → Prop} {g : List D → Option RV} (hc : CallR X (.builtin id) r) (hg : GoodL X.K r g) (hm : X.mg x = none) (hv : bootBuiltins x = some (.builtin id)) (ha : PA X (a :: es) (TAof X.K W fs)) (hgl : Gl X x := by rfl)
    (hn : x ≠ "__name__" := by decide) (hdb : (x == ("__debug__" : Str)) = false := by decide) (he : starEach (a :: es) X.env = (false, eval a X.env) :: starEach es X.env := by rfl) (hpl : (backTo pos (starEach es X.env)).any (·.1) = false := by rfl) :
    PE X (.Call (.Name x p) (a :: es) [] pos) (TEof X.K W (callB g fs)) := PE_weak (pe_callB hc hgl hm hv ha hn hdb he hpl) fun _ _ _ => t_callB hg
theorem e_callT {x : Str} {T : String} {p : Pos} {r : List V → Hp → VK → Prop} {g : List D → Option RV} (hc : CallR X (.type T) r) (hg : GoodL X.K r g) (hm : X.mg x = none) (hv : bootBuiltins x = some (.type T)) (ha : PA X (a :: es) (TAof X.K W fs)) (hgl : Gl X x := by rfl)
    (hn : x ≠ "__name__" := by decide) (hdb : (x == ("__debug__" : Str)) = false := by decide) (he : starEach (a :: es) X.env = (false, eval a X.env) :: starEach es X.env := by rfl) (hpl : (backTo pos (starEach es X.env)).any (·.1) = false := by rfl) :
    PE X (.Call (.Name x p) (a :: es) [] pos) (TEof X.K W (callB g fs)) := PE_weak (pe_callTy hc hgl hm hv ha hn hdb he hpl) fun _ _ _ => t_callB hg

/-! ### displays: what is put in is data (fz) -/
def valsOf : List RV → Option (List D)
  | [] => some []
  | .val d :: rs => (valsOf rs).map fun ds => d :: ds
  | _ => none
theorem RVRs.vals {K : PySem.W.Frag} {σ : St} {M : AP} {H : Hp} : ∀ {vs : List V} {rs : List RV} {ds : List D}, RVRs K M H σ vs rs → valsOf rs = some ds → IsAll M K H vs ds
  | [], [], _, _, e => by cases e; exact .nil
  | [], _ :: _, _, h, _ => h.elim
  | _ :: _, [], _, h, _ => h.elim
  | v :: vs, r :: rs, _, h, e => by
    cases r with
    | val d =>
      have e : (valsOf rs).map (fun ds => d :: ds) = some _ := e
      cases h2 : valsOf rs with
      | none => rw [h2] at e; cases e
      | some ds =>
        rw [h2] at e
        cases e
        exact .cons h.1 (RVRs.vals h.2 h2)
    | _ => cases e
def tupE (fs : M (List RV)) : M RV := bnd fs fun rs ρ => match valsOf rs with
  | some ds => if ds.length ≤ 1000 then .ok (.val (.tup ds)) ρ else .bad
  | none => .bad
def lstE (fs : M (List RV)) : M RV := bnd fs fun rs ρ => match valsOf rs with
  | some ds => if ds.length ≤ 1000 then .ok (.tmp (.lst ds)) ρ else .bad
  | none => .bad
theorem le_line {n : Nat} (h : n ≤ 1000) : n ≤ sizeLine := Nat.le_trans h (by decide)
theorem e_tup {k : Nat} (ha : PA X es (TAof X.K W fs)) : PE X (.Tuple es k pos) (TEof X.K W (tupE fs)) := by
  refine PE_weak (pe_tup ha) fun σ H Q h => ?_
  obtain ⟨L, F, M, ρ, rel, post⟩ := h
  refine seqL (PV X.K L W σ Q F M H) (fun _ _ z => z) id rel post fun rs ρ1 p1 vs M1 H1 e1 l1 q1 n1 => ?_
  cases h1 : valsOf rs with
  | none => rw [h1] at p1; exact p1.elim
  | some ds =>
    rw [h1] at p1
    dsimp only at p1
    split at p1
    · rename_i hz
      have al := RVRs.vals q1 h1
      exact ⟨by rw [al.length]; exact le_line hz, fun p hp => (resP p1 l1 (adjs_sub _ _) e1).tup l1.dom al hp⟩
    · exact p1.elim
theorem e_lst (ha : PA X es (TAof X.K W fs)) : PE X (.List es pos) (TEof X.K W (lstE fs)) := by
  refine PE_weak (pe_lst ha) fun σ H Q h => ?_
  obtain ⟨L, F, M, ρ, rel, post⟩ := h
  refine seqL (PV X.K L W σ Q F M H) (fun _ _ z => z) id rel post fun rs ρ1 p1 vs M1 H1 e1 l1 q1 n1 => ?_
  cases h1 : valsOf rs with
  | none => rw [h1] at p1; exact p1.elim
  | some ds =>
    rw [h1] at p1
    dsimp only at p1
    split at p1
    · rename_i hz
      have al := RVRs.vals q1 h1
      exact ⟨by rw [al.length]; exact le_line hz, fun p hp => (resP p1 l1 (adjs_sub _ _) e1).lst l1.dom al hp⟩
    · exact p1.elim
end

/-! ### built-in functions on data -/
section
variable {X : Cx}
def lenD : List D → Option RV
  | [.str x] => if x.length ≤ sizeLine then some (.val (.int x.length)) else none
  | [.lst ds] => some (.val (.int ds.length))
  | [.tup ds] => some (.val (.int ds.length))
  | [.scr ds] => some (.val (.int ds.length))
  | [.kt ds] => some (.val (.int ds.length))
  | [.dK kvs] => some (.val (.int kvs.length))
  | _ => none
theorem cr_len : CallR X (.builtin "len") (fun xs H Q => (∃ x n, xs = [x] ∧ LenV X.K x H n ∧ Q (.int n) H) ∨ ∃ (a : Addr) (kvs : List (Key × V)), xs = [.ref a] ∧ Rd H a (.dK kvs) ∧ Q (.int kvs.length) H) := by
  intro pins s σ H xs us Q I r h
  rcases h with h | h
  · exact call_len pins s σ H xs us Q I r h
  · obtain ⟨a, kvs, rfl, h2, q⟩ := h
    obtain ⟨u, rfl, ru⟩ := vals1 r
    cases ru
    exact d_len I h2 fun t s' I' => ⟨.int kvs.length, H, I', ⟨t, rfl⟩, q⟩
theorem one_of {M : AP} {K : PySem.W.Frag} {H : Hp} {vs : List V} {d : D} (h : RDs M K H vs [d]) : ∃ v, vs = [v] ∧ RD M K H v d := by
  cases vs with
  | nil => exact h.elim
  | cons v vs =>
    cases vs with
    | nil => exact ⟨v, rfl, h.1⟩
    | cons w ws => exact h.2.elim
theorem two_of {M : AP} {K : PySem.W.Frag} {H : Hp} {vs : List V} {d e : D} (h : RDs M K H vs [d, e]) : ∃ v w, vs = [v, w] ∧ RD M K H v d ∧ RD M K H w e := by
  cases vs with
  | nil => exact h.elim
  | cons v vs =>
    obtain ⟨w, rfl, z⟩ := one_of h.2
    exact ⟨v, w, rfl, h.1, z⟩
theorem good_len {K : PySem.W.Frag} : GoodL K (fun xs H Q => (∃ x n, xs = [x] ∧ LenV K x H n ∧ Q (.int n) H) ∨ ∃ (a : Addr) (kvs : List (Key × V)), xs = [.ref a] ∧ Rd H a (.dK kvs) ∧ Q (.int kvs.length) H) lenD := by
  intro M H vs ds res Q dm rs e q
  unfold lenD at e
  split at e
  · split at e
    · cases e
      obtain ⟨v, rfl, h⟩ := one_of rs
      exact .inl ⟨v, _, rfl, by rw [h.str.1]; exact ⟨by assumption, rfl⟩, q.same dm (Is.int _)⟩
    · cases e
  · cases e
    obtain ⟨v, rfl, h⟩ := one_of rs
    obtain ⟨p, xs, rfl, h1, h2⟩ := h.lst
    exact .inl ⟨_, _, rfl, .inl ⟨xs, .of h1, rfl⟩, by rw [h2.length]; exact q.same dm (Is.int _)⟩
  · cases e
    obtain ⟨v, rfl, h⟩ := one_of rs
    obtain ⟨p, xs, rfl, h1, h2⟩ := h.tup
    exact .inl ⟨_, _, rfl, .inr ⟨xs, .of h1, rfl⟩, by rw [h2.length]; exact q.same dm (Is.int _)⟩
  · cases e
    obtain ⟨v, rfl, h⟩ := one_of rs
    obtain ⟨p, rfl, h1⟩ := h.scr
    exact .inl ⟨_, _, rfl, .inl ⟨_, h1, rfl⟩, by rw [List.length_map]; exact q.same dm (Is.int _)⟩
  · cases e
    obtain ⟨v, rfl, h⟩ := one_of rs
    obtain ⟨p, xs, rfl, h1, h2⟩ := h.kt
    exact .inl ⟨_, _, rfl, .inr ⟨xs, .inr h1, rfl⟩, by rw [h2.length]; exact q.same dm (Is.int _)⟩
  · cases e
    obtain ⟨v, rfl, h⟩ := one_of rs
    obtain ⟨p, xs, rfl, h1, h2⟩ := h.dK
    refine .inr ⟨p, xs, rfl, h1, ?_⟩
    have : ∀ {xs : List (Key × V)} {ds : List (Key × D)}, IsK M K H xs ds → xs.length = ds.length := by
      intro xs ds
      induction ds generalizing xs with
      | nil => intro h; cases h; rfl
      | cons d ds ih => intro h; cases h with | cons a b => simp [ih b]
    rw [this h2]
    exact q.same dm (Is.int _)
  · cases e
def absD : List D → Option RV
  | [.int i] => some (.val (.int (if i < 0 then -i else i)))
  | _ => none
theorem good_abs {K : PySem.W.Frag} : GoodL K (fun xs H Q => ∃ i, xs = [.int i] ∧ Q (.int (if i < 0 then -i else i)) H) absD := by
  intro M H vs ds res Q dm rs e q
  unfold absD at e
  split at e
  · cases e
    obtain ⟨v, rfl, h⟩ := one_of rs
    exact ⟨_, by rw [h.int], q.same dm (Is.int _)⟩
  · cases e
def intD : List D → Option RV
  | [.int i] => some (.val (.int i))
  | [.bl b] => some (.val (.int (if b then 1 else 0)))
  | _ => none
theorem good_intT {K : PySem.W.Frag} : GoodL K (fun xs H Q => (∃ i, xs = [.int i] ∧ Q (.int i) H) ∨ ∃ k, xs = [.bl k] ∧ Q (.int (if k then 1 else 0)) H) intD := by
  intro M H vs ds res Q dm rs e q
  unfold intD at e
  split at e
  · cases e
    obtain ⟨v, rfl, h⟩ := one_of rs
    exact .inl ⟨_, by rw [h.int], q.same dm (Is.int _)⟩
  · cases e
    obtain ⟨v, rfl, h⟩ := one_of rs
    exact .inr ⟨_, by rw [h.bl], q.same dm (Is.int _)⟩
  · cases e
def listD : List D → Option RV
  | [.lst ds] => some (.tmp (.lst ds))
  | [.tup ds] => some (.tmp (.lst ds))
  | _ => none
theorem good_list {K : PySem.W.Frag} : GoodL K (fun xs H Q => ∃ p ys, xs = [.ref p] ∧ (SqL K H p ys ∨ SqT K H p ys) ∧ ∀ l, H l = none → Q (.ref l) (upd H l (.lst ys))) listD := by
  intro M H vs ds res Q dm rs e q
  unfold listD at e
  split at e
  · cases e
    obtain ⟨v, rfl, h⟩ := one_of rs
    obtain ⟨p, xs, rfl, h1, h2⟩ := h.lst
    exact ⟨p, xs, rfl, .inl (.of h1), fun l hl => q.lst dm h2 hl⟩
  · cases e
    obtain ⟨v, rfl, h⟩ := one_of rs
    obtain ⟨p, xs, rfl, h1, h2⟩ := h.tup
    exact ⟨p, xs, rfl, .inr (.of h1), fun l hl => q.lst dm h2 hl⟩
  · cases e
def tupleD : List D → Option RV
  | [.lst ds] => some (.val (.tup ds))
  | [.tup ds] => some (.val (.tup ds))
  | _ => none
theorem good_tuple {K : PySem.W.Frag} : GoodL K (fun xs H Q => ∃ p ys, xs = [.ref p] ∧ ((SqL K H p ys ∧ ∀ l, H l = none → Q (.ref l) (upd H l (.tup ys))) ∨ (SqT K H p ys ∧ Q (.ref p) H))) tupleD := by
  intro M H vs ds res Q dm rs e q
  unfold tupleD at e
  split at e
  · cases e
    obtain ⟨v, rfl, h⟩ := one_of rs
    obtain ⟨p, xs, rfl, h1, h2⟩ := h.lst
    exact ⟨p, xs, rfl, .inl ⟨.of h1, fun l hl => q.tup dm h2 hl⟩⟩
  · cases e
    obtain ⟨v, rfl, h⟩ := one_of rs
    have ia : Is M K H v _ := h.elim id fun ⟨_, _, _, z⟩ => z.elim
    obtain ⟨p, xs, rfl, h1, h2⟩ := h.tup
    exact ⟨p, xs, rfl, .inr ⟨.of h1, q.same dm ia⟩⟩
  · cases e
/-- lists of truth values, of numbers -/
def boolsOf : List D → Option (List Bool)
  | [] => some []
  | .bl b :: ds => (boolsOf ds).map fun bs => b :: bs
  | _ => none
def intsOf : List D → Option (List Int)
  | [] => some []
  | .int b :: ds => (intsOf ds).map fun bs => b :: bs
  | _ => none
theorem IsAll.bools {M : AP} {K : PySem.W.Frag} {H : Hp} : ∀ {ds : List D} {xs : List V} {bs : List Bool}, IsAll M K H xs ds → boolsOf ds = some bs → xs = bs.map V.bl
  | [], _, _, h, e => by cases h; cases e; rfl
  | d :: ds, _, _, h, e => by
    cases h with
    | cons a b =>
      cases d with
      | bl k =>
        have e : (boolsOf ds).map (fun bs => k :: bs) = some _ := e
        cases h2 : boolsOf ds with
        | none => rw [h2] at e; cases e
        | some bs => rw [h2] at e; cases e; cases a; rw [List.map_cons, b.bools h2]
      | _ => cases e
theorem IsAll.ints {M : AP} {K : PySem.W.Frag} {H : Hp} : ∀ {ds : List D} {xs : List V} {bs : List Int}, IsAll M K H xs ds → intsOf ds = some bs → xs = bs.map V.int
  | [], _, _, h, e => by cases h; cases e; rfl
  | d :: ds, _, _, h, e => by
    cases h with
    | cons a b =>
      cases d with
      | int k =>
        have e : (intsOf ds).map (fun bs => k :: bs) = some _ := e
        cases h2 : intsOf ds with
        | none => rw [h2] at e; cases e
        | some bs => rw [h2] at e; cases e; cases a; rw [List.map_cons, b.ints h2]
      | _ => cases e
def allD : List D → Option RV
  | [.lst ds] => (boolsOf ds).map fun bs => .val (.bl (bs.all id))
  | _ => none
def anyD : List D → Option RV
  | [.lst ds] => (boolsOf ds).map fun bs => .val (.bl (bs.any id))
  | _ => none
def sumD : List D → Option RV
  | [.lst ds] => (intsOf ds).map fun bs => .val (.int bs.sum)
  | _ => none
theorem good_all {K : PySem.W.Frag} : GoodL K (rAll K) allD := by
  intro M H vs ds res Q dm rs e q
  unfold allD at e
  split at e
  · rename_i ds
    cases h0 : boolsOf ds with
    | none => rw [h0] at e; cases e
    | some bs =>
      rw [h0] at e; cases e
      obtain ⟨v, rfl, h⟩ := one_of rs
      obtain ⟨p, xs, rfl, h1, h2⟩ := h.lst
      exact ⟨p, bs, rfl, by rw [← h2.bools h0]; exact .of h1, q.same dm (Is.bl _)⟩
  · cases e
theorem good_any {K : PySem.W.Frag} : GoodL K (rAny K) anyD := by
  intro M H vs ds res Q dm rs e q
  unfold anyD at e
  split at e
  · rename_i ds
    cases h0 : boolsOf ds with
    | none => rw [h0] at e; cases e
    | some bs =>
      rw [h0] at e; cases e
      obtain ⟨v, rfl, h⟩ := one_of rs
      obtain ⟨p, xs, rfl, h1, h2⟩ := h.lst
      exact ⟨p, bs, rfl, by rw [← h2.bools h0]; exact .of h1, q.same dm (Is.bl _)⟩
  · cases e
theorem good_sum {K : PySem.W.Frag} : GoodL K (rSum K) sumD := by
  intro M H vs ds res Q dm rs e q
  unfold sumD at e
  split at e
  · rename_i ds
    cases h0 : intsOf ds with
    | none => rw [h0] at e; cases e
    | some bs =>
      rw [h0] at e; cases e
      obtain ⟨v, rfl, h⟩ := one_of rs
      obtain ⟨p, xs, rfl, h1, h2⟩ := h.lst
      exact ⟨p, bs, rfl, by rw [← h2.ints h0]; exact .of h1, q.same dm (Is.int _)⟩
  · cases e
/-- max, min of two numbers -/
def max2D : List D → Option RV
  | [.int i, .int j] => some (.val (.int (if j > i then j else i)))
  | _ => none
def min2D : List D → Option RV
  | [.int i, .int j] => some (.val (.int (if j < i then j else i)))
  | _ => none
theorem good_max2 {K : PySem.W.Frag} : GoodL K (fun xs H Q => ∃ i j, xs = [.int i, .int j] ∧ Q (.int (if j > i then j else i)) H) max2D := by
  intro M H vs ds res Q dm rs e q
  unfold max2D at e
  split at e
  · cases e
    obtain ⟨v, w, rfl, h1, h2⟩ := two_of rs
    exact ⟨_, _, by rw [h1.int, h2.int], q.same dm (Is.int _)⟩
  · cases e
theorem good_min2 {K : PySem.W.Frag} : GoodL K (fun xs H Q => ∃ i j, xs = [.int i, .int j] ∧ Q (.int (if j < i then j else i)) H) min2D := by
  intro M H vs ds res Q dm rs e q
  unfold min2D at e
  split at e
  · cases e
    obtain ⟨v, w, rfl, h1, h2⟩ := two_of rs
    exact ⟨_, _, by rw [h1.int, h2.int], q.same dm (Is.int _)⟩
  · cases e
/-! ### isinstance -/
def tyName : D → String
  | .non => "NoneType"
  | .bl _ => "bool"
  | .int _ => "int"
  | .str _ => "str"
  | .tup _ => "tuple"
  | .lst _ => "list"
  | .dK _ => "dict"
  | .dT _ => "dict"
  | .scr _ => "list"
  | .kt _ => "tuple"
/-- is it one of int, bool, str, list, tuple, dict -/
def isiD (ts : List String) (d : D) : Bool := ts.any fun t => tyName d == t || (tyName d == "bool" && t == "int")
def isiOk (ts : List String) : Bool := ts.all fun t => ["int", "bool", "str", "list", "tuple", "dict"].contains t
theorem RD.ty {M : AP} {K : PySem.W.Frag} {H : Hp} {v : V} {d : D} (h : RD M K H v d) (ns : ∀ ns, d ≠ .scr ns) (nt : ∀ k, d ≠ .dT k) (nk : ∀ k, d ≠ .kt k) : TyX K H v (.type (tyName d)) := by
  cases d with
  | non => rw [h.non]; exact .base .non
  | bl b => rw [h.bl]; exact .base (.bl b)
  | int b => rw [h.int]; exact .base (.int b)
  | str b => rw [h.str.1]; exact .base (.str b)
  | tup ds => obtain ⟨p, xs, rfl, h1, h2⟩ := h.tup; exact .base (.tup h1)
  | lst ds => obtain ⟨p, xs, rfl, h1, h2⟩ := h.lst; exact .base (.lst h1)
  | dK ds =>
    obtain ⟨p, xs, rfl, h1, h2⟩ := h.dK
    rcases h1 with h1 | ⟨o, h1⟩
    · exact .base (.dK h1)
    · exact .fDict h1
  | dT ds => exact absurd rfl (nt ds)
  | scr s => exact absurd rfl (ns s)
  | kt s => exact absurd rfl (nk s)
def isi1 (t : String) : D → Option RV
  | .scr _ => none
  | .dT _ => none
  | .kt _ => none
  | d => some (.val (.bl (isiD [t] d)))
def isiN (ts : List String) : D → Option RV
  | .scr _ => none
  | .dT _ => none
  | .kt _ => none
  | d => some (.val (.bl (isiD ts d)))
theorem kit1 {K : PySem.W.Frag} (d : D) {t : String} (h : isiOk [t] = true) : PySem.W.kitOne K (.type (tyName d)) (.type t) = some (isiD [t] d) := by
  have ht : t = "int" ∨ t = "bool" ∨ t = "str" ∨ t = "list" ∨ t = "tuple" ∨ t = "dict" := by
    simpa [isiOk] using h
  rcases ht with rfl | rfl | rfl | rfl | rfl | rfl <;> cases d <;> rfl
variable {W : WO} {a b c : Expr} {fa fb : M RV} {pos : Pos}
theorem e_isi {p p2 : Pos} {t : Str} {tn : String} (ha : PE X a (TEof X.K W fa)) (hok : isiOk [tn] = true) (hm : X.mg "isinstance" = none) (hmt : X.mg t = none) (hvt : bootBuiltins t = some (.type tn)) (hg : Gl X "isinstance" := by rfl) (hgt : Gl X t := by rfl)
    (hn : t ≠ "__name__" := by decide) (hdb : (t == ("__debug__" : Str)) = false := by decide) (he : starEach [a, .Name t p2] X.env = (false, eval a X.env) :: starEach [.Name t p2] X.env := by rfl) (he2 : starEach [.Name t p2] X.env = (false, eval (.Name t p2) X.env) :: starEach [] X.env := by rfl)
    (hpl : (backTo pos (starEach [.Name t p2] X.env)).any (·.1) = false := by rfl) :
    PE X (.Call (.Name "isinstance" p) [a, .Name t p2] [] pos) (TEof X.K W (op1 (isi1 tn) fa)) := by
  refine PE_weak (pe_callB call_isi hg hm (by decide +kernel) (pa_cons ha (pa_cons (pe_bltn (v := .ty tn) hgt hmt hvt rfl hn hdb) pa_nil he2) he) (by decide) (by decide) he hpl) fun σ H Q h => ?_
  refine t_op1 (r := fun x H Q => rIsi X.K [x, .ty tn] H Q) (fun M H x d res Q dm ra e q => ?_) h
  unfold isi1 at e
  split at e
  · cases e
  · cases e
  · cases e
  · rename_i hns hnt hnk
    cases e
    exact ⟨x, .ty tn, _, _, _, rfl, .ty tn, ra.ty (fun ns z => hns ns z) (fun ns z => hnt ns z) (fun ns z => hnk ns z), kit1 d hok, q.same dm (Is.bl _)⟩
theorem e_isi2 {p p2 p3 p4 : Pos} {k : Nat} {t u : Str} {tn un : String} (ha : PE X a (TEof X.K W fa)) (hok : isiOk [tn] = true) (hok2 : isiOk [un] = true) (hm : X.mg "isinstance" = none) (hmt : X.mg t = none) (hvt : bootBuiltins t = some (.type tn)) (hmu : X.mg u = none) (hvu : bootBuiltins u = some (.type un)) (hg : Gl X "isinstance" := by rfl) (hgt : Gl X t := by rfl) (hgu : Gl X u := by rfl)
    (hn : t ≠ "__name__" := by decide) (hdb : (t == ("__debug__" : Str)) = false := by decide) (hnu : u ≠ "__name__" := by decide) (hdbu : (u == ("__debug__" : Str)) = false := by decide) (he : starEach [a, .Tuple [.Name t p2, .Name u p3] k p4] X.env = (false, eval a X.env) :: starEach [.Tuple [.Name t p2, .Name u p3] k p4] X.env := by rfl)
    (he2 : starEach [.Tuple [.Name t p2, .Name u p3] k p4] X.env = (false, eval (.Tuple [.Name t p2, .Name u p3] k p4) X.env) :: starEach [] X.env := by rfl)
    (he3 : starEach [.Name t p2, .Name u p3] X.env = (false, eval (.Name t p2) X.env) :: starEach [.Name u p3] X.env := by rfl) (he4 : starEach [.Name u p3] X.env = (false, eval (.Name u p3) X.env) :: starEach [] X.env := by rfl)
    (hpl : (backTo pos (starEach [.Tuple [.Name t p2, .Name u p3] k p4] X.env)).any (·.1) = false := by rfl) :
    PE X (.Call (.Name "isinstance" p) [a, .Tuple [.Name t p2, .Name u p3] k p4] [] pos) (TEof X.K W (op1 (isiN [tn, un]) fa)) := by
  refine PE_weak (pe_callB call_isiT hg hm (by decide +kernel) (pa_cons ha (pa_cons (pe_tup (pa_cons (pe_bltn (v := .ty tn) hgt hmt hvt rfl hn hdb) (pa_cons (pe_bltn (v := .ty un) hgu hmu hvu rfl hnu hdbu) pa_nil he4) he3)) pa_nil he2) he) (by decide) (by decide) he hpl) fun σ H Q h => ?_
  refine t_op1 (r := fun x H Q => 2 ≤ sizeLine ∧ ∀ p, H p = none → rIsiT X.K [x, .ref p] (upd H p (.tup [.ty tn, .ty un])) Q) (fun M H x d res Q dm ra e q => ?_) h
  unfold isiN at e
  split at e
  · cases e
  · cases e
  · cases e
  · rename_i hns hnt hnk
    cases e
    refine ⟨by decide, fun p hp => ?_⟩
    have ra' : RD M X.K (upd H p (.tup [.ty tn, .ty un])) x d := by
      rcases ra with ra | ⟨b, rfl, m, c⟩
      · exact .inl (Is.evo (F := fun _ => False) (evo_new dm hp) d ra)
      · refine .inr ⟨b, rfl, m, c.evo (F := fun _ => False) (evo_new dm hp) (upd_ne fun z => dm b m (by rw [z]; exact hp))⟩
    have e1 : PySem.W.kitAny X.K (.type (tyName d)) [.type tn, .type un] = some (isiD [tn, un] d) := by
      have k1 := kit1 (K := X.K) d hok
      have k2 := kit1 (K := X.K) d hok2
      have z : isiD [tn, un] d = (isiD [tn] d || isiD [un] d) := by simp [isiD]
      rw [z]
      simp only [PySem.W.kitAny, k1, k2]
      cases isiD [tn] d <;> cases isiD [un] d <;> rfl
    exact ⟨x, p, _, _, _, _, rfl, upd_same, .cons (.ty tn) (.cons (.ty un) .nil), ra'.ty (fun ns z => hns ns z) (fun ns z => hnt ns z) (fun ns z => hnk ns z), e1, q _ M _ (grow_tup dm hp) (Is.bl _)⟩
end
end Fd

/-! Fd6: statements, targets, loops. -/
namespace Fd
open PySem L2

inductive Fl where
  | nx
  | rt (r : RV)
  | bk
  | ct
section
variable (K : PySem.W.Frag) (L : Lc) (W : WO)
def PXs (F M : AP) (H : Hp) (x : Exn) (ρ' : Ev) : Prop := match W with
  | none => False
  | some w => ∀ σ c d M' H', Evo F M H M' H' → Rel K L F M' H' ρ' σ → ExR K M' H' c d x → w c d σ H'
def PF (D : Ends) (F M : AP) (H : Hp) : Out Fl → Prop
  | .ok .nx ρ' => ∀ σ' M' H', Evo F M H M' H' → Rel K L F M' H' ρ' σ' → D.nx σ' H'
  | .ok .bk ρ' => ∀ σ' M' H', Evo F M H M' H' → Rel K L F M' H' ρ' σ' → D.bk σ' H'
  | .ok .ct ρ' => ∀ σ' M' H', Evo F M H M' H' → Rel K L F M' H' ρ' σ' → D.ct σ' H'
  | .ok (.rt r) ρ' => ∀ v σ' M' H', Evo F M H M' H' → Rel K L (adj F v r) M' H' ρ' σ' → RVR K M' H' σ' v r → NotF F v r → D.rt v H'
  | .exc x ρ' => PXs K L W F M H x ρ'
  | .bad => False
end
section
variable {K : PySem.W.Frag} {L : Lc} {W : WO} {σ : St} {F F1 M M1 : AP} {H H1 : Hp}
theorem PXs.px {x : Exn} {ρ' : Ev} (p : PXs K L W F M H x ρ') : PX K L W σ F M H x ρ' := by
  cases W with
  | none => exact p
  | some w => exact p σ
theorem PXs.reb {x : Exn} {ρ' : Ev} (p : PXs K L W F M H x ρ') (e : Evo F M H M1 H1) (s : ∀ x, F x → F1 x) : PXs K L W F1 M1 H1 x ρ' := by
  cases W with
  | none => exact p
  | some w => exact fun σ c d M' H' e' r => p σ c d M' H' (e.trans e' s) (r.sub s)
theorem PF.reb {D : Ends} {o : Out Fl} (p : PF K L W D F M H o) (e : Evo F M H M1 H1) (s : ∀ x, F x → F1 x) : PF K L W D F1 M1 H1 o := by
  cases o with
  | ok fl ρ' =>
    cases fl with
    | nx => exact fun σ' M' H' e' rl => p σ' M' H' (e.trans e' s) (rl.sub s)
    | bk => exact fun σ' M' H' e' rl => p σ' M' H' (e.trans e' s) (rl.sub s)
    | ct => exact fun σ' M' H' e' rl => p σ' M' H' (e.trans e' s) (rl.sub s)
    | rt r => exact fun v σ' M' H' e' rl rv nf => p v σ' M' H' (e.trans e' s) (rl.sub (adj_mono s)) rv (nf.mono s)
  | exc x ρ' => exact PXs.reb p e s
  | bad => exact p
end
def TSof (K : PySem.W.Frag) (W : WO) (f : M Fl) : TS := fun D σ H => ∃ L F M ρ, Rel K L F M H ρ σ ∧ PF K L W D F M H (f ρ)
theorem PS_weak {X : Cx} {st : Stmt} {t t' : TS} (h : PS X st t) (k : ∀ D σ H, t' D σ H → t D σ H) : PS X st t' := ⟨fun pins s σ H D I q => h.run pins s σ H D I (k D σ H q)⟩
theorem PSs_weak {X : Cx} {st : List Stmt} {t t' : TS} (h : PSs X st t) (k : ∀ D σ H, t' D σ H → t D σ H) : PSs X st t' := ⟨fun pins s σ H D I q => h.run pins s σ H D I (k D σ H q)⟩

/-! ### blocks -/
def sqF (g : M Fl) : Fl → M Fl
  | .nx => g
  | f => ret f
def sq (f g : M Fl) : M Fl := bnd f (sqF g)
def nop : M Fl := ret .nx
section
variable {X : Cx} {W : WO} {st : Stmt} {sts : List Stmt} {f g : M Fl} {e c : Expr} {fe : M RV} {ca : M Bool} {pos : Pos}
theorem s_nil : PSs X [] (TSof X.K W nop) := PSs_weak pss_nil fun D σ H h => by
  obtain ⟨L, F, M, ρ, rel, post⟩ := h
  exact post σ M H .refl rel
theorem t_sq {K : PySem.W.Frag} {D : Ends} {σ : St} {H : Hp} (h : TSof K W (sq f g) D σ H) : tSeq (TSof K W f) (TSof K W g) D σ H := by
  obtain ⟨L, F, M, ρ, rel, post⟩ := h
  refine ⟨L, F, M, ρ, rel, ?_⟩
  unfold sq bnd at post
  cases e : f ρ with
  | exc x ρ1 => rw [e] at post; exact post
  | bad => rw [e] at post; exact post
  | ok fl ρ1 =>
    rw [e] at post
    cases fl with
    | nx => exact fun σ' M' H' e' rl => ⟨L, F, M', ρ1, rl, PF.reb post e' fun _ z => z⟩
    | rt r => exact post
    | bk => exact post
    | ct => exact post
theorem s_cons (h1 : PS X st (TSof X.K W f)) (h2 : PSs X sts (TSof X.K W g)) : PSs X (st :: sts) (TSof X.K W (sq f g)) := PSs_weak (pss_cons h1 h2) fun _ _ _ => t_sq
theorem s_one (h1 : PS X st (TSof X.K W f)) : PSs X [st] (TSof X.K W f) := pss_one h1
def dropS (fe : M RV) : M Fl := bnd fe fun _ => ret .nx
theorem s_expr (he : PE X e (TEof X.K W fe)) (hs : swapsWith e none pos.line X.env = pure false := by rfl) : PS X (.Expr e pos) (TSof X.K W (dropS fe)) := by
  refine PS_weak (ps_expr he hs) fun D σ H h => ?_
  obtain ⟨L, F, M, ρ, rel, post⟩ := h
  exact seqV (PF X.K L W D F M H) (fun _ _ z => z.px) id rel post fun r1 ρ1 p1 v1 M1 H1 e1 l1 q1 n1 => p1 σ M1 H1 e1 (l1.sub adj_sub)
def retS (fe : M RV) : M Fl := bnd fe fun r => ret (.rt r)
theorem s_ret (he : PE X e (TEof X.K W fe)) : PS X (.Return (some e) pos) (TSof X.K W (retS fe)) := by
  refine PS_weak (ps_ret he) fun D σ H h => ?_
  obtain ⟨L, F, M, ρ, rel, post⟩ := h
  exact seqV (PF X.K L W D F M H) (fun _ _ z => z.px) id rel post fun r1 ρ1 p1 v1 M1 H1 e1 l1 q1 n1 => p1 v1 σ M1 H1 e1 l1 q1 n1
theorem s_retN : PS X (.Return none pos) (TSof X.K W (ret (.rt (.val .non)))) := by
  refine PS_weak ps_retN fun D σ H h => ?_
  obtain ⟨L, F, M, ρ, rel, post⟩ := h
  exact post .non σ M H .refl rel Is.non trivial
theorem s_pass : PS X (.Pass pos) (TSof X.K W nop) := PS_weak ps_pass fun D σ H h => by
  obtain ⟨L, F, M, ρ, rel, post⟩ := h
  exact post σ M H .refl rel
theorem s_break : PS X (.Break pos) (TSof X.K W (ret .bk)) := PS_weak ps_break fun D σ H h => by
  obtain ⟨L, F, M, ρ, rel, post⟩ := h
  exact post σ M H .refl rel
theorem s_cont : PS X (.Continue pos) (TSof X.K W (ret .ct)) := PS_weak ps_continue fun D σ H h => by
  obtain ⟨L, F, M, ρ, rel, post⟩ := h
  exact post σ M H .refl rel
theorem s_never : PS X st (TSof X.K W fail) := PS_weak ps_never fun D σ H h => by
  obtain ⟨L, F, M, ρ, rel, post⟩ := h
  exact post
theorem s_doc {x j pos pos'} : PS X (.Expr (.Constant (.str x) j pos) pos') (TSof X.K W nop) := PS_weak ps_doc fun D σ H h => by
  obtain ⟨L, F, M, ρ, rel, post⟩ := h
  exact post σ M H .refl rel
def ifS (c : M Bool) (f g : M Fl) : M Fl := bnd c fun k => if k = true then f else g
theorem s_if {a b : List Stmt} (hc : PT X c (TTof X.K W ca)) (ha : PSs X a (TSof X.K W f)) (hb : PSs X b (TSof X.K W g)) : PS X (.If c a b pos) (TSof X.K W (ifS ca f g)) := by
  refine PS_weak (ps_if hc ha hb) fun D σ H h => ?_
  obtain ⟨L, F, M, ρ, rel, post⟩ := h
  refine seqB (PF X.K L W D F M H) (fun _ _ z => z.px) id rel post fun k ρ1 p1 M1 H1 e1 l1 => ?_
  cases k with
  | true => rw [if_pos rfl] at p1 ⊢; exact ⟨L, F, M1, ρ1, l1, PF.reb p1 e1 fun _ z => z⟩
  | false => rw [if_neg Bool.false_ne_true] at p1 ⊢; exact ⟨L, F, M1, ρ1, l1, PF.reb p1 e1 fun _ z => z⟩

/-! ### name = e -/
def stoR (i : Nat) (r : RV) : M Fl := fun ρ => match ρ[i]? with
  | some s => if s.free = true then (match r with
    | .val d => .ok .nx (ρ.set i (.val d))
    | .tmp d => .ok .nx (ρ.set i (.own d))
    | .bor _ => .bad) else .bad
  | none => .bad
def setS (i : Nat) (fe : M RV) : M Fl := bnd fe (stoR i)
theorem t_set {K : PySem.W.Frag} {D : Ends} {σ : St} {H : Hp} {i : Nat} (h : TSof K W (setS i fe) D σ H) : tAsg (TEof K W fe) (gName i) D σ H := by
  obtain ⟨L, F, M, ρ, rel, post⟩ := h
  refine seqV (PF K L W D F M H) (fun _ _ z => z.px) id rel post fun r1 ρ1 p1 v1 M1 H1 e1 l1 q1 n1 => ?_
  unfold stoR at p1
  cases hs : ρ1[i]? with
  | none => rw [hs] at p1; exact p1.elim
  | some s =>
    rw [hs] at p1
    dsimp only at p1
    split at p1
    · cases r1 with
      | val d => exact p1 _ M1 H1 e1 (l1.setVal hs q1)
      | tmp d =>
        obtain ⟨a, rfl, m, c⟩ := q1
        exact p1 _ M1 H1 e1 (l1.setOwn adj_sub (.inr rfl) (n1 a rfl) hs m c)
      | bor j => exact p1.elim
    · exact p1.elim
theorem s_set (i : Nat) {x : Str} {pos' : Pos} (hN : X.N.Nodup) (he : PE X e (TEof X.K W fe)) (hi : X.N[i]? = some x := by rfl) (hx : Loc X.env.scope x := by first | exact Or.inl rfl | exact Or.inr rfl) (hs : swapsWith e (some (.Name x pos')) pos.line X.env = pure false := by rfl)
    (hf : X.fn x = true ∨ X.env.scope.names.lookup x = some .local := by first | exact .inl rfl | exact .inr rfl) : PS X (.Assign [.Name x pos'] e pos) (TSof X.K W (setS i fe)) := PS_weak (ps_set hN hi hx he hs hf) fun _ _ _ => t_set

/-! ### targets -/
def SameOut (σ σ' : St) (vs : List Nat) : Prop := σ'.length = σ.length ∧ ∀ i, i ∉ vs → σ'[i]? = σ[i]?
theorem SameOut.refl {σ : St} {vs : List Nat} : SameOut σ σ vs := ⟨rfl, fun _ _ => rfl⟩
theorem SameOut.trans {σ σ1 σ2 : St} {vs ws : List Nat} (a : SameOut σ σ1 vs) (b : SameOut σ1 σ2 ws) : SameOut σ σ2 (vs ++ ws) :=
  ⟨b.1.trans a.1, fun i h => (b.2 i fun z => h (List.mem_append_right _ z)).trans (a.2 i fun z => h (List.mem_append_left _ z))⟩
theorem SameOut.set {σ : St} {i : Nat} {v : Option V} : SameOut σ (σ.set i v) [i] := ⟨by simp, fun j h => List.getElem?_set_ne fun e => h (by simp [e])⟩
def PU (K : PySem.W.Frag) (L : Lc) (Q : St → Hp → Prop) (σ : St) (vs : List Nat) (F M : AP) (H : Hp) : Option Ev → Prop
  | some ρ' => ∀ σ' M' H', Evo F M H M' H' → Rel K L F M' H' ρ' σ' → SameOut σ σ' vs → Q σ' H'
  | none => False
abbrev Tg := D → Ev → Option Ev
abbrev Tgs := List D → Ev → Option Ev
def TGof (K : PySem.W.Frag) (vs : List Nat) (h : Tg) : TG := fun v σ H Q => ∃ L F M ρ d, Rel K L F M H ρ σ ∧ Is M K H v d ∧ PU K L Q σ vs F M H (h d ρ)
def TGsof (K : PySem.W.Frag) (vs : List Nat) (h : Tgs) : TGs := fun xs σ H Q => ∃ L F M ρ ds, Rel K L F M H ρ σ ∧ IsAll M K H xs ds ∧ PU K L Q σ vs F M H (h ds ρ)
theorem PG_weak {X : Cx} {tg : Expr} {t t' : TG} (h : PG X tg t) (k : ∀ v σ H Q, t' v σ H Q → t v σ H Q) : PG X tg t' := ⟨fun pins s σ H v u Q I r q => h.run pins s σ H v u Q I r (k v σ H Q q)⟩
theorem PGs_weak {X : Cx} {tg : List Expr} {t t' : TGs} (h : PGs X tg t) (k : ∀ v σ H Q, t' v σ H Q → t v σ H Q) : PGs X tg t' := ⟨fun pins s σ H v u Q I r q => h.run pins s σ H v u Q I r (k v σ H Q q)⟩
def setN (i : Nat) : Tg := fun d ρ => match ρ[i]? with
  | some s => if s.free = true then some (ρ.set i (.val d)) else none
  | none => none
theorem g_name (i : Nat) {x : Str} (hN : X.N.Nodup) (hi : X.N[i]? = some x := by rfl) (hx : Loc X.env.scope x := by first | exact Or.inl rfl | exact Or.inr rfl) (hf : X.fn x = true ∨ X.env.scope.names.lookup x = some .local := by first | exact .inl rfl | exact .inr rfl) :
    PG X (.Name x pos) (TGof X.K [i] (setN i)) := by
  refine PG_weak (pg_name hN hi hx hf) fun v σ H Q h => ?_
  obtain ⟨L, F, M, ρ, d, rel, is, post⟩ := h
  unfold setN at post
  cases hs : ρ[i]? with
  | none => rw [hs] at post; exact post.elim
  | some s =>
    rw [hs] at post
    dsimp only at post
    split at post
    · exact post _ M H .refl (rel.setVal hs is) .set
    · exact post.elim
def setNil : Tgs
  | [], ρ => some ρ
  | _, _ => none
def setCons (h : Tg) (hs : Tgs) : Tgs
  | d :: ds, ρ => (h d ρ).bind (hs ds)
  | [], _ => none
theorem gs_nil : PGs X [] (TGsof X.K [] setNil) := PGs_weak pgs_nil fun xs σ H Q h => by
  obtain ⟨L, F, M, ρ, ds, rel, al, post⟩ := h
  cases ds with
  | nil => cases al; exact ⟨rfl, post σ M H .refl rel .refl⟩
  | cons d ds => exact post.elim
theorem gs_cons {tg : Expr} {tgs : List Expr} {vs ws : List Nat} {h : Tg} {hs : Tgs} (h1 : PG X tg (TGof X.K vs h)) (h2 : PGs X tgs (TGsof X.K ws hs))
    (ha : (assignEach (tg :: tgs) X.env).map (·.2) = assign tg X.env :: (assignEach tgs X.env).map (·.2) := by rfl) : PGs X (tg :: tgs) (TGsof X.K (vs ++ ws) (setCons h hs)) := by
  refine PGs_weak (pgs_cons h1 h2 ha) fun xs σ H Q hq => ?_
  obtain ⟨L, F, M, ρ, ds, rel, al, post⟩ := hq
  cases ds with
  | nil => exact post.elim
  | cons d ds =>
    cases al with
    | cons a b =>
      refine ⟨_, _, rfl, L, F, M, ρ, d, rel, a, ?_⟩
      have post : PU X.K L Q σ (vs ++ ws) F M H ((h d ρ).bind (hs ds)) := post
      cases e : h d ρ with
      | none => rw [e] at post; exact post.elim
      | some ρ1 =>
        rw [e] at post
        intro σ1 M1 H1 e1 l1 s1
        refine ⟨L, F, M1, ρ1, ds, l1, b.evo e1, ?_⟩
        have post : PU X.K L Q σ (vs ++ ws) F M H (hs ds ρ1) := post
        cases e2 : hs ds ρ1 with
        | none => rw [e2] at post; exact post.elim
        | some ρ2 =>
          rw [e2] at post
          exact fun σ2 M2 H2 e3 l2 s2 => post σ2 M2 H2 (e1.trans e3 fun _ z => z) l2 (s1.trans s2)
/-- a, b, .. = a tuple or a list -/
def setTup (n : Nat) (hs : Tgs) : Tg := fun d ρ => match d with
  | .tup ds => if ds.length = n then hs ds ρ else none
  | .lst ds => if ds.length = n then hs ds ρ else none
  | _ => none
theorem PG_or {X : Cx} {tg : Expr} {t t' : TG} (h : PG X tg t) (h' : PG X tg t') : PG X tg (fun v σ H Q => t v σ H Q ∨ t' v σ H Q) := ⟨fun pins s σ H v u Q I r q => q.elim (h.run pins s σ H v u Q I r) (h'.run pins s σ H v u Q I r)⟩
theorem g_tup {tgs : List Expr} {k n : Nat} {vs : List Nat} {hs : Tgs} (hc : X.calm = true) (h : PGs X tgs (TGsof X.K vs hs)) (hn : (assignEach tgs X.env).length = n := by rfl) (hst : (assignEach tgs X.env).findIdx? (·.1) = none := by rfl) :
    PG X (.Tuple tgs k pos) (TGof X.K vs (setTup n hs)) := by
  refine PG_weak (PG_or (pg_tup hc h hn hst) (pg_unl hc h hn hst)) fun v σ H Q hq => ?_
  obtain ⟨L, F, M, ρ, d, rel, is, post⟩ := hq
  cases d with
  | tup ds =>
    obtain ⟨a, xs, rfl, h1, h2⟩ := RD.tup (.inl is)
    simp only [setTup] at post
    split at post
    · rename_i hl
      exact .inl ⟨a, xs, rfl, .of h1, h2.length.trans hl, L, F, M, ρ, ds, rel, h2, post⟩
    · exact post.elim
  | lst ds =>
    obtain ⟨a, xs, rfl, h1, h2⟩ := RD.lst (.inl is)
    simp only [setTup] at post
    split at post
    · rename_i hl
      exact .inr ⟨a, xs, rfl, .of h1, h2.length.trans hl, L, F, M, ρ, ds, rel, h2, post⟩
    · exact post.elim
  | _ => exact post.elim
/-- target = e -/
def runT (o : Option Ev) : Out Fl := match o with
  | some ρ => .ok .nx ρ
  | none => .bad
def asgS (h : Tg) (fe : M RV) : M Fl := bnd fe fun r ρ => match r with
  | .val d => runT (h d ρ)
  | _ => .bad
theorem s_asg {tg : Expr} {vs : List Nat} {h : Tg} (he : PE X e (TEof X.K W fe)) (hg : PG X tg (TGof X.K vs h)) (hs : swapsWithSole [tg] e pos.line X.env = pure false := by rfl) (hw : swappedStores [tg] e X.env = pure none := by rfl)
    (h1 : (assignEach [tg] X.env).map (·.2) = [assign tg X.env] := by rfl) : PS X (.Assign [tg] e pos) (TSof X.K W (asgS h fe)) := by
  refine PS_weak (ps_asg he hg hs hw h1) fun D σ H hq => ?_
  obtain ⟨L, F, M, ρ, rel, post⟩ := hq
  refine seqV (PF X.K L W D F M H) (fun _ _ z => z.px) id rel post fun r1 ρ1 p1 v1 M1 H1 e1 l1 q1 n1 => ?_
  cases r1 with
  | tmp d => exact p1.elim
  | bor d => exact p1.elim
  | val d =>
    refine ⟨L, F, M1, ρ1, d, l1, q1, ?_⟩
    have p1 : PF X.K L W D F M H (runT (h d ρ1)) := p1
    cases e2 : h d ρ1 with
    | none => rw [e2] at p1; exact p1.elim
    | some ρ2 =>
      rw [e2] at p1
      exact fun σ2 M2 H2 e3 l2 s2 => p1 σ2 M2 H2 (e1.trans e3 fun _ z => z) l2
/-- a, b = x, y with plain local names -/
def sto (i : Nat) (r : RV) (ρ : Ev) : Option Ev := match ρ[i]? with
  | some s => if s.free = true then (match r with
    | .val d => some (ρ.set i (.val d))
    | .tmp d => some (ρ.set i (.own d))
    | .bor _ => none) else none
  | none => none
def parS (i j : Nat) (fs : M (List RV)) : M Fl := bnd fs fun rs ρ => match rs with
  | [r1, r2] => runT ((sto i r1 ρ).bind (sto j r2))
  | _ => .bad
theorem t_par {K : PySem.W.Frag} {D : Ends} {σ : St} {H : Hp} {i j : Nat} {fs : M (List RV)} (h : TSof K W (parS i j fs) D σ H) : tPar i j (TAof K W fs) D σ H := by
  obtain ⟨L, F, M, ρ, rel, post⟩ := h
  refine seqL (PF K L W D F M H) (fun _ _ z => z.px) id rel post fun rs ρ1 p1 vs M1 H1 e1 l1 q1 n1 => ?_
  have sto_ok : ∀ {F0 : AP} {i : Nat} {r : RV} {ρ ρ' : Ev} {σ : St} {v : V}, Rel K L (adj F0 v r) M1 H1 ρ σ → RVR K M1 H1 σ v r → NotF F0 v r → sto i r ρ = some ρ' → Rel K L F0 M1 H1 ρ' (σ.set i (some v)) := by
    intro F0 i r ρ ρ' σ v l q n e
    unfold sto at e
    cases hs : ρ[i]? with
    | none => rw [hs] at e; cases e
    | some s =>
      rw [hs] at e
      dsimp only at e
      split at e
      · cases r with
        | val d => cases e; exact l.setVal hs q
        | tmp d =>
          cases e
          obtain ⟨a, rfl, m, c⟩ := q
          exact l.setOwn adj_sub (.inr rfl) (n a rfl) hs m c
        | bor k => cases e
      · cases e
  match rs, vs, p1, l1, q1, n1 with
  | [r1, r2], [v, w], p1, l1, q1, n1 =>
    refine ⟨v, w, rfl, ?_⟩
    have p1 : PF K L W D F M H (runT ((sto i r1 ρ1).bind (sto j r2))) := p1
    cases h1 : sto i r1 ρ1 with
    | none => rw [h1] at p1; exact p1.elim
    | some ρ2 =>
      rw [h1] at p1
      have p1 : PF K L W D F M H (runT (sto j r2 ρ2)) := p1
      cases h2 : sto j r2 ρ2 with
      | none => rw [h2] at p1; exact p1.elim
      | some ρ3 =>
        rw [h2] at p1
        refine p1 _ M1 H1 e1 ?_
        -- v is stored first, w is held meanwhile
        have l1' : Rel K L (adj (adj F v r1) w r2) M1 H1 ρ1 σ := l1
        have sw : ∀ x, adj (adj F w r2) v r1 x → adj (adj F v r1) w r2 x := by
          intro x hx
          cases r1 <;> cases r2 <;> simp only [adj] at hx ⊢ <;> first | exact hx | (rcases hx with (hx | hx) | hx <;> simp [hx]) | (rcases hx with hx | hx <;> simp [hx])
        have n1' : NotF (adj F w r2) v r1 := by
          have n11 := n1.1
          have n12 : NotF (adj F v r1) w r2 := n1.2.1
          cases r1 with
          | tmp d =>
            cases r2 with
            | tmp d2 =>
              intro b hb f
              rcases f with f | f
              · exact n11 b hb f
              · exact n12 b f (.inr hb)
            | val d2 => exact n11
            | bor d2 => exact n11
          | val d => trivial
          | bor d => trivial
        have l2 := sto_ok (F0 := adj F w r2) (l1'.sub sw) q1.1 n1' h1
        have q2 : RVR K M1 H1 (σ.set i (some v)) w r2 := by
          cases r2 with
          | val d => exact q1.2.1
          | tmp d => exact q1.2.1
          | bor k => unfold sto at h2; split at h2 <;> (try split at h2) <;> cases h2
        have n2 : NotF F w r2 := (n1.2.1 : NotF (adj F v r1) w r2).mono adj_sub
        exact sto_ok (F0 := F) l2 q2 n2 h2
  | [], _, p1, _, _, _ => exact p1.elim
  | [_], _, p1, _, _, _ => exact p1.elim
  | _ :: _ :: _ :: _, _, p1, _, _, _ => exact p1.elim
  | [_, _], [], _, _, q1, _ => exact q1.elim
  | [_, _], [_], _, _, q1, _ => exact q1.2.elim
  | [_, _], _ :: _ :: _ :: _, _, _, q1, _ => exact q1.2.2.elim
theorem s_par (i j : Nat) {x y : Str} {a b : Expr} {fs : M (List RV)} {px py pt : Pos} {kt k2 pt2} (hc : X.calm = true) (hN : X.N.Nodup) (ha : PA X [a, b] (TAof X.K W fs)) (hij : i ≠ j := by decide) (hi : X.N[i]? = some x := by rfl) (hj : X.N[j]? = some y := by rfl)
    (hx : X.env.scope.names.lookup x = some .local := by rfl) (hy : X.env.scope.names.lookup y = some .local := by rfl)
    (hw : swappedStores [.Tuple [.Name x px, .Name y py] kt pt] (.Tuple [a, b] k2 pt2) X.env = pure (some [x, y]) := by rfl)
    (hs : swapsWithSole [.Tuple [.Name x px, .Name y py] kt pt] (.Tuple [a, b] k2 pt2) pos.line X.env = pure false := by rfl) :
    PS X (.Assign [.Tuple [.Name x px, .Name y py] kt pt] (.Tuple [a, b] k2 pt2) pos) (TSof X.K W (parS i j fs)) := PS_weak (ps_par hc hN hi hj hij hx hy ha hw hs) fun _ _ _ => t_par
end
end Fd

/-! Fd7: what is walked; for, while. -/
namespace Fd
open PySem L2

/-- what a loop walks: items, or the list in slot i -/
inductive ItS where
  | dat (ds : List D)
  | slot (i : Nat)
def ItD (K : PySem.W.Frag) (J : It) (ds : List D) (F M : AP) (H : Hp) : Prop := ∃ G Y, Walk J ds.length G Y ∧ (∀ M2 H2, Evo F M H M2 H2 → G H2) ∧
  ∀ i M2 H2 x H3, i < ds.length → Evo F M H M2 H2 → Dom M2 H2 → Y i H2 x H3 → ∃ d, ds[i]? = some d ∧ Grow M2 H2 M2 H3 ∧ Is M2 K H3 x d
def PIt (K : PySem.W.Frag) (L : Lc) (W : WO) (σ : St) (R : It → Hp → Prop) (F M : AP) (H : Hp) : Out ItS → Prop
  | .ok (.dat ds) ρ' => ∀ J B M' H', Evo F M H M' H' → (∀ x, B x → ¬ F x) → Rel K L (fun x => F x ∨ B x) M' H' ρ' σ → ItD K J ds B M' H' → R J H'
  | .ok (.slot i) ρ' => ∀ a M' H', Evo F M H M' H' → Rel K L F M' H' ρ' σ → σ[i]? = some (some (.ref a)) → R (Itl K a) H'
  | .exc x ρ' => PX K L W σ F M H x ρ'
  | .bad => False
theorem ItD.mono {K : PySem.W.Frag} {J : It} {ds : List D} {B F M : AP} {H : Hp} (h : ItD K J ds B M H) (s : ∀ x, B x → F x) : ItD K J ds F M H := by
  obtain ⟨G, Y, w, hG, hY⟩ := h
  exact ⟨G, Y, w, fun M2 H2 e => hG M2 H2 (e.weak s), fun i M2 H2 x H3 hi e => hY i M2 H2 x H3 hi (e.weak s)⟩
abbrev noB : AP := fun _ => False
theorem Rel.noB {K : PySem.W.Frag} {L : Lc} {F F1 M : AP} {H : Hp} {ρ : Ev} {σ : St} (h : Rel K L F1 M H ρ σ) (s : ∀ x, F x → F1 x) : Rel K L (fun x => F x ∨ Fd.noB x) M H ρ σ := h.sub fun x z => z.elim (s x) fun z => z.elim
def TIof (K : PySem.W.Frag) (W : WO) (f : M ItS) : TI := fun σ H R => ∃ L F M ρ, Rel K L F M H ρ σ ∧ PIt K L W σ R F M H (f ρ)
theorem PI_weak {X : Cx} {tg e : Expr} {t t' : TI} (h : PI X tg e t) (k : ∀ σ H R, t' σ H R → t σ H R) : PI X tg e t' := ⟨fun pins s σ H R I q => h.run pins s σ H R I (k σ H R q)⟩
theorem seqI {K : PySem.W.Frag} {L : Lc} {W : WO} {σ : St} {F M : AP} {H : Hp} {ρ : Ev} {β : Type} {fa : Fd.M ItS} {g : ItS → Fd.M β} {R : It → Hp → Prop} (P : Out β → Prop) (hx : ∀ x ρ', P (.exc x ρ') → PX K L W σ F M H x ρ') (hb : ¬ P .bad)
    (rel : Rel K L F M H ρ σ) (post : P (bnd fa g ρ)) (k1 : ∀ ds ρ1, P (g (.dat ds) ρ1) → ∀ J B M1 H1, Evo F M H M1 H1 → (∀ x, B x → ¬ F x) → Rel K L (fun x => F x ∨ B x) M1 H1 ρ1 σ → ItD K J ds B M1 H1 → R J H1)
    (k2 : ∀ i ρ1, P (g (.slot i) ρ1) → ∀ a M1 H1, Evo F M H M1 H1 → Rel K L F M1 H1 ρ1 σ → σ[i]? = some (some (.ref a)) → R (Itl K a) H1) : TIof K W fa σ H R := by
  refine ⟨L, F, M, ρ, rel, ?_⟩
  unfold bnd at post
  cases h : fa ρ with
  | ok r ρ1 =>
    rw [h] at post
    cases r with
    | dat ds => exact k1 ds ρ1 post
    | slot i => exact k2 i ρ1 post
  | exc x ρ1 => rw [h] at post; exact hx x ρ1 post
  | bad => rw [h] at post; exact (hb post).elim

/-! ### a list, a tuple, a text -/
def signs (x : Str) : List D := x.cps.toList.map fun c => .str ⟨#[c]⟩
def itR : RV → M ItS
  | .bor i => fun ρ => match ρ[i]?.bind Slot.dat with
    | some (.lst _) => .ok (.slot i) ρ
    | _ => .bad
  | .val (.lst ds) => ret (.dat ds)
  | .val (.tup ds) => ret (.dat ds)
  | .val (.str x) => ret (.dat (signs x))
  | .tmp (.lst ds) => ret (.dat ds)
  | _ => fail
def itE (f : M RV) : M ItS := bnd f itR
section
variable {X : Cx} {W : WO} {tg e a b : Expr} {fe fa fb : M RV} {pos : Pos}
theorem pi_seq {t : TE} (hl : PE X e t) : PI X tg e (fun σ H R => t σ H fun x H1 => (∃ a, x = .ref a ∧ (∃ xs, SqL X.K H1 a xs) ∧ R (Itl X.K a) H1) ∨ (∃ a, x = .ref a ∧ (∃ xs, SqT X.K H1 a xs) ∧ R (Itt X.K a) H1) ∨ ∃ z, x = .str z ∧ R (Its z) H1) := by
  refine ⟨fun pins s σ H R I h => ?_⟩
  refine thn (hl.run pins s σ H _ I h) fun v s1 ⟨x, H1, I1, r1, q1⟩ => ?_
  rcases q1 with ⟨a, rfl, ⟨xs, hq⟩, q⟩ | ⟨a, rfl, ⟨xs, hq⟩, q⟩ | ⟨z, rfl, q⟩
  · cases r1
    obtain ⟨its, rv, p, hz⟩ := I1.list hq
    exact wpAny_pyIter_list p.isList (pi_one (tk := s1.toks) I1 _ (turn_list a _) ⟨_, Heap.get?_push_size _ rfl, rfl, rfl⟩ q)
  · cases r1
    obtain ⟨its, rv, p, hz⟩ := I1.tuple hq
    exact wpAny_pyIter_tuple (show s1.heap.IsTuple a its.toArray from p) (pi_one (tk := s1.toks) I1 _ (turn_tuple a _) ⟨_, Heap.get?_push_size _ rfl, rfl, rfl⟩ q)
  · obtain ⟨t, rfl⟩ := r1
    cases ha : z.cps.all (· < 128)
    · exact wpAny_pyIter_wide ha (pi_one (tk := s1.toks) I1 _ (turn_str _ z t "str_iterator" (.inr rfl)) ⟨_, Heap.get?_push_size _ rfl, rfl, rfl⟩ q)
    · exact wpAny_pyIter_ascii ha (pi_one (tk := s1.toks) I1 _ (turn_str _ z t "str_ascii_iterator" (.inl rfl)) ⟨_, Heap.get?_push_size _ rfl, rfl, rfl⟩ q)
theorem itd_list {K : PySem.W.Frag} {F M : AP} {H : Hp} {p : Addr} {xs : List V} {ds : List D} (h : H p = some (.lst xs)) (al : IsAll M K H xs ds) (hk : ¬ M p ∨ (M p ∧ F p)) : ItD K (Itl K p) ds F M H := by
  have st : ∀ M2 H2, Evo F M H M2 H2 → H2 p = some (.lst xs) := fun M2 H2 e => by
    rcases hk with n | ⟨m, f⟩
    · exact (e.nd h n rfl).1
    · exact (e.ow p f m).1.trans h
  refine ⟨fun H => SqL K H p xs, YAt xs, by rw [← al.length]; exact walk_list, fun M2 H2 e => .of (st M2 H2 e), fun i M2 H2 x H3 hi e dm y => ?_⟩
  obtain ⟨rfl, y⟩ := y
  have hi' : ds[i]? = some ds[i] := List.getElem?_eq_getElem hi
  obtain ⟨x', h1, h2⟩ := al.get hi'
  rw [y] at h1; cases h1
  exact ⟨_, hi', Grow.refl dm, h2.evo e⟩
theorem itd_tup {K : PySem.W.Frag} {F M : AP} {H : Hp} {p : Addr} {xs : List V} {ds : List D} (h : H p = some (.tup xs)) (al : IsAll M K H xs ds) (n : ¬ M p) : ItD K (Itt K p) ds F M H := by
  refine ⟨fun H => SqT K H p xs, YAt xs, by rw [← al.length]; exact walk_tup, fun M2 H2 e => .of (e.nd h n rfl).1, fun i M2 H2 x H3 hi e dm y => ?_⟩
  obtain ⟨rfl, y⟩ := y
  have hi' : ds[i]? = some ds[i] := List.getElem?_eq_getElem hi
  obtain ⟨x', h1, h2⟩ := al.get hi'
  rw [y] at h1; cases h1
  exact ⟨_, hi', Grow.refl dm, h2.evo e⟩
theorem itd_str {K : PySem.W.Frag} {F M : AP} {H : Hp} {z : Str} (hz : PyData.strOk z = true) : ItD K (Its z) (signs z) F M H := by
  have hl : (signs z).length = z.cps.size := by simp [signs]
  refine ⟨_, _, by rw [hl]; exact walk_str, fun _ _ _ => trivial, fun i M2 H2 x H3 hi e dm y => ?_⟩
  obtain ⟨rfl, c, h1, rfl⟩ := y
  have h1' : z.cps.toList[i]? = some c := by simpa using h1
  refine ⟨.str ⟨#[c]⟩, by simp [signs, h1'], Grow.refl dm, .str _ ?_⟩
  have hm : c ∈ z.cps := by simpa using List.mem_of_getElem? h1'
  unfold PyData.strOk at hz ⊢
  rw [Array.all_eq_true_iff_forall_mem] at hz
  simpa using hz c hm
theorem i_seq (he : PE X e (TEof X.K W fe)) : PI X tg e (TIof X.K W (itE fe)) := by
  refine PI_weak (pi_seq he) fun σ H R h => ?_
  obtain ⟨L, F, M, ρ, rel, post⟩ := h
  refine seqV (PIt X.K L W σ R F M H) (fun _ _ z => z) id rel post fun r1 ρ1 p1 v1 M1 H1 e1 l1 q1 n1 => ?_
  cases r1 with
  | bor i =>
    have p1 : PIt X.K L W σ R F M H (itR (.bor i) ρ1) := p1
    unfold itR at p1
    dsimp only at p1
    cases h0 : ρ1[i]?.bind Slot.dat with
    | none => rw [h0] at p1; exact p1.elim
    | some d =>
      rw [h0] at p1
      have z := RVR.rd q1 l1 h0
      cases d with
      | lst ds =>
        obtain ⟨a, xs, rfl, h1, h2⟩ := z.lst
        exact .inl ⟨a, rfl, ⟨xs, .of h1⟩, p1 a M1 H1 e1 l1 q1⟩
      | _ => exact p1.elim
  | tmp d =>
    obtain ⟨a, rfl, m, c⟩ := q1
    cases d with
    | lst ds =>
      obtain ⟨xs, h1, h2⟩ := c
      exact .inl ⟨a, rfl, ⟨xs, .of h1⟩, p1 _ (fun b => V.ref a = .ref b) M1 H1 e1 (fun b hb => n1 b hb) l1 (itd_list h1 h2 (.inr ⟨m, rfl⟩))⟩
    | _ => exact p1.elim
  | val d =>
    cases d with
    | lst ds =>
      cases q1 with
      | lst h1 h2 h3 => exact .inl ⟨_, rfl, ⟨_, .of h1⟩, p1 _ noB M1 H1 e1 (fun _ z => z.elim) (l1.noB fun _ z => z) (itd_list h1 h3 (.inl h2))⟩
    | tup ds =>
      cases q1 with
      | tup h1 h2 h3 => exact .inr (.inl ⟨_, rfl, ⟨_, .of h1⟩, p1 _ noB M1 H1 e1 (fun _ z => z.elim) (l1.noB fun _ z => z) (itd_tup h1 h3 h2)⟩)
    | str x =>
      cases q1 with
      | str _ hz => exact .inr (.inr ⟨x, rfl, p1 _ noB M1 H1 e1 (fun _ z => z.elim) (l1.noB fun _ z => z) (itd_str hz)⟩)
    | _ => exact p1.elim

/-! ### range -/
def rngD (i : Int) (n : Nat) : List D := (List.range n).map fun k => .int (i + (k : Nat))
def rng1 (fa : M RV) : M ItS := bnd fa fun r ρ => match r.dat ρ with
  | some (.int j) => if -(2 ^ 62) ≤ j ∧ j < 2 ^ 62 then .ok (.dat (rngD 0 j.toNat)) ρ else .bad
  | _ => .bad
def rng2 (fa fb : M RV) : M ItS := bnd fa fun r => bnd fb fun q ρ => match r.dat ρ, q.dat ρ with
  | some (.int i), some (.int j) => if -(2 ^ 62) ≤ i ∧ i < 2 ^ 62 ∧ -(2 ^ 62) ≤ j ∧ j < 2 ^ 62 then .ok (.dat (rngD i (j - i).toNat)) ρ else .bad
  | _, _ => .bad
theorem itd_rng {K : PySem.W.Frag} {F M : AP} {H : Hp} {i : Int} {n : Nat} : ItD K (Itr i n) (rngD i n) F M H := by
  have hl : (rngD i n).length = n := by simp [rngD]
  refine ⟨_, _, by rw [hl]; exact walk_range, fun _ _ _ => trivial, fun k M2 H2 x H3 hi e dm y => ?_⟩
  obtain ⟨rfl, rfl⟩ := y
  rw [hl] at hi
  exact ⟨.int (i + (k : Nat)), by simp [rngD, hi], Grow.refl dm, .int _⟩
theorem i_rng1 {p : Pos} (hm : X.mg "range" = none) (ha : PE X a (TEof X.K W fa)) (hg : Gl X "range" := by rfl) (hs : starEach [a] X.env = [(false, eval a X.env)] := by rfl) : PI X tg (.Call (.Name "range" p) [a] [] pos) (TIof X.K W (rng1 fa)) := by
  refine PI_weak (pi_range1 hg hm (pa_cons ha pa_nil hs) hs) fun σ H R h => ?_
  obtain ⟨L, F, M, ρ, rel, post⟩ := h
  refine seqV (PIt X.K L W σ R F M H) (fun _ _ z => z) id rel post fun r1 ρ1 p1 v1 M1 H1 e1 l1 q1 n1 => ?_
  cases h1 : r1.dat ρ1 with
  | none => rw [h1] at p1; exact p1.elim
  | some d =>
    rw [h1] at p1
    have rd := q1.rd l1 h1
    cases d with
    | int j =>
      dsimp only at p1
      split at p1
      · rename_i hb
        exact ⟨j, by rw [rd.int], hb.1, hb.2, p1 _ noB M1 H1 e1 (fun _ z => z.elim) (l1.noB adj_sub) itd_rng⟩
      · exact p1.elim
    | _ => exact p1.elim
theorem i_rng2 {p : Pos} (hm : X.mg "range" = none) (ha : PE X a (TEof X.K W fa)) (hb : PE X b (TEof X.K W fb)) (hg : Gl X "range" := by rfl) (hs : starEach [a, b] X.env = [(false, eval a X.env), (false, eval b X.env)] := by rfl) (hs2 : starEach [b] X.env = [(false, eval b X.env)] := by rfl) :
    PI X tg (.Call (.Name "range" p) [a, b] [] pos) (TIof X.K W (rng2 fa fb)) := by
  refine PI_weak (pi_range2 hg hm (pa_cons ha (pa_cons hb pa_nil hs2) (by rw [hs, hs2])) hs hs2) fun σ H R h => ?_
  obtain ⟨L, F, M, ρ, rel, post⟩ := h
  refine seqV (PIt X.K L W σ R F M H) (fun _ _ z => z) id rel post fun r1 ρ1 p1 v1 M1 H1 e1 l1 q1 n1 => ?_
  refine seqV (PIt X.K L W σ R F M H) (fun _ _ z => PX.reb z e1 adj_sub) id l1 p1 fun r2 ρ2 p2 v2 M2 H2 e2 l2 q2 n2 => ?_
  cases h1 : r1.dat ρ2 with
  | none => rw [h1] at p2; exact p2.elim
  | some d1 =>
    cases h2 : r2.dat ρ2 with
    | none => rw [h1, h2] at p2; cases d1 <;> exact p2.elim
    | some d2 =>
      rw [h1, h2] at p2
      have rd1 := (q1.evo e2).rd l2 h1
      have rd2 := q2.rd l2 h2
      cases d1 with
      | int i =>
        cases d2 with
        | int j =>
          dsimp only at p2
          split at p2
          · rename_i hb
            exact ⟨i, j, by rw [rd1.int, rd2.int], hb, p2 _ noB M2 H2 (e1.trans e2 adj_sub) (fun _ z => z.elim) (l2.noB fun x z => adj_sub x (adj_sub x z)) itd_rng⟩
          · exact p2.elim
        | _ => exact p2.elim
      | _ => cases d2 <;> exact p2.elim

/-! ### enumerate, zip of lists -/
/-- what is read as a list -/
def lstOf : D → Option (List D)
  | .lst ds => some ds
  | _ => none
def enumE (fa : M RV) : M ItS := bnd fa fun r ρ => match r with
  | .bor _ => .bad
  | r => (match (r.dat ρ).bind lstOf with
    | some ds => .ok (.dat (ds.mapIdx fun i d => .tup [.int i, d])) ρ
    | none => .bad)
theorem i_enum {p tpos : Pos} {elts : List Expr} {kk : Nat} (hm : X.mg "enumerate" = none) (ha : PE X a (TEof X.K W fa)) (hg : Gl X "enumerate" := by rfl) (hs : starEach [a] X.env = [(false, eval a X.env)] := by rfl) :
    PI X (.Tuple elts kk tpos) (.Call (.Name "enumerate" p) [a] [] pos) (TIof X.K W (enumE fa)) := by
  refine PI_weak (pi_enum hg hm (pa_cons ha pa_nil hs) hs) fun σ H R h => ?_
  obtain ⟨L, F, M, ρ, rel, post⟩ := h
  refine seqV (PIt X.K L W σ R F M H) (fun _ _ z => z) id rel post fun r1 ρ1 p1 v1 M1 H1 e1 l1 q1 n1 => ?_
  have go : ∀ {a : Addr} {xs : List V} {ds : List D} {F' : AP}, H1 a = some (.lst xs) → IsAll M1 X.K H1 xs ds → (¬ M1 a ∨ (M1 a ∧ F' a)) → ItD X.K (Ite X.K a) (ds.mapIdx fun i d => .tup [.int i, d]) F' M1 H1 := by
    intro a xs ds F' h al hk
    have st : ∀ M2 H2, Evo F' M1 H1 M2 H2 → H2 a = some (.lst xs) := fun M2 H2 e => by
      rcases hk with n | ⟨m, f⟩
      · exact (e.nd h n rfl).1
      · exact (e.ow a f m).1.trans h
    refine ⟨fun H => SqL X.K H a xs, _, by rw [List.length_mapIdx, ← al.length]; exact walk_enum, fun M2 H2 e => .of (st M2 H2 e), fun i M2 H2 x H3 hi e dm y => ?_⟩
    obtain ⟨T, x', y', rfl, hT, rfl, hx', hy'⟩ := y
    cases hx'
    have hi0 : i < ds.length := by simpa using hi
    have hi' : ds[i]? = some ds[i] := List.getElem?_eq_getElem hi0
    obtain ⟨x'', h1, h2⟩ := al.get hi'
    have hy' : xs[i]? = some y' := hy'
    rw [hy'] at h1; cases h1
    refine ⟨.tup [.int i, ds[i]], by simp [List.getElem?_mapIdx, hi'], grow_tup dm hT, .tup upd_same (fun m => dm T m hT) (.cons (.int _) (.cons ?_ .nil))⟩
    exact Is.evo (F := fun _ => False) (evo_new dm hT) _ (h2.evo e)
  cases r1 with
  | bor i => exact p1.elim
  | tmp d =>
    obtain ⟨a, rfl, m, c⟩ := q1
    cases d with
    | lst ds =>
      obtain ⟨xs, h1, h2⟩ := c
      exact ⟨a, xs, rfl, .of h1, p1 _ (fun b => V.ref a = .ref b) M1 H1 e1 (fun b hb => n1 b hb) l1 (go h1 h2 (.inr ⟨m, rfl⟩))⟩
    | _ => exact p1.elim
  | val d =>
    cases d with
    | lst ds =>
      cases q1 with
      | lst h1 h2 h3 => exact ⟨_, _, rfl, .of h1, p1 _ noB M1 H1 e1 (fun _ z => z.elim) (l1.noB fun _ z => z) (go h1 h3 (.inl h2))⟩
    | _ => exact p1.elim
/-- zip of two that are data (fz): two lists, two tuples -/
def zipE (fa fb : M RV) : M ItS := bnd fa fun r => bnd fb fun q ρ => match r, q with
  | .val (.lst xs), .val (.lst ys) => .ok (.dat ((xs.zip ys).map fun p => .tup [p.1, p.2])) ρ
  | .val (.tup xs), .val (.tup ys) => .ok (.dat ((xs.zip ys).map fun p => .tup [p.1, p.2])) ρ
  | .val (.kt xs), .val (.tup ys) => .ok (.dat ((xs.zip ys).map fun p => .tup [p.1, p.2])) ρ
  | _, _ => .bad
theorem zip_len {α β γ : Type} (xs : List α) (ys : List β) (f : α × β → γ) : ((xs.zip ys).map f).length = min xs.length ys.length := by simp
theorem itd_pair {K : PySem.W.Frag} {F M : AP} {H : Hp} {J : It} {G : Hp → Prop} {xs ys : List V} {ds es : List D} (hw : Walk J (min xs.length ys.length) G (YPair (fun i => xs[i]?) (fun i => ys[i]?))) (hG : ∀ M2 H2, Evo F M H M2 H2 → G H2) (a1 : IsAll M K H xs ds) (a2 : IsAll M K H ys es) : ItD K J ((ds.zip es).map fun p => .tup [p.1, p.2]) F M H := by
  refine ⟨G, _, by rw [zip_len, ← a1.length, ← a2.length]; exact hw, hG, fun i M2 H2 x H3 hi e dm y => ?_⟩
  obtain ⟨T, x', y', rfl, hT, rfl, hx', hy'⟩ := y
  rw [zip_len] at hi
  have i1 : ds[i]? = some (ds[i]'(by omega)) := List.getElem?_eq_getElem (by omega)
  have i2 : es[i]? = some (es[i]'(by omega)) := List.getElem?_eq_getElem (by omega)
  obtain ⟨_, h1, h2⟩ := a1.get i1
  obtain ⟨_, h3, h4⟩ := a2.get i2
  have hx' : xs[i]? = some x' := hx'
  have hy' : ys[i]? = some y' := hy'
  rw [hx'] at h1; cases h1
  rw [hy'] at h3; cases h3
  refine ⟨.tup [ds[i]'(by omega), es[i]'(by omega)], by simp [List.getElem?_zip_eq_some, i1, i2], grow_tup dm hT, .tup upd_same (fun m => dm T m hT) (.cons ?_ (.cons ?_ .nil))⟩
  · exact Is.evo (F := fun _ => False) (evo_new dm hT) _ (h2.evo e)
  · exact Is.evo (F := fun _ => False) (evo_new dm hT) _ (h4.evo e)
theorem walk_zipT {K : PySem.W.Frag} {a b : Addr} {xs ys : List V} : Walk (RZ.ItzT K a b) (min xs.length ys.length) (fun H => SqT K H a xs ∧ SqT K H b ys) (YPair (fun i => xs[i]?) (fun i => ys[i]?)) := by
  refine ⟨fun i _ hi q => ?_, fun _ q => ⟨xs, ys, q.1, q.2, by omega⟩, fun i H v H' _ q y => ?_⟩
  · have h1 : i < xs.length := by omega
    have h2 : i < ys.length := by omega
    exact ⟨xs, ys, xs[i], ys[i], q.1, q.2, by simp [h1], by simp [h2]⟩
  · obtain ⟨T, x, z, h1, h2, h3, h4, h5⟩ := y
    exact ⟨T, x, z, h1, h2, h3, h4 xs q.1, h5 ys q.2⟩
theorem i_zip {p tpos : Pos} {elts : List Expr} {kk : Nat} (hm : X.mg "zip" = none) (ha : PE X a (TEof X.K W fa)) (hb : PE X b (TEof X.K W fb)) (hg : Gl X "zip" := by rfl) (hs : starEach [a, b] X.env = (false, eval a X.env) :: starEach [b] X.env := by rfl) (hs2 : starEach [b] X.env = (false, eval b X.env) :: starEach [] X.env := by rfl) (hpl : (backTo pos (starEach [b] X.env)).any (·.1) = false := by rfl) :
    PI X (.Tuple elts kk tpos) (.Call (.Name "zip" p) [a, b] [] pos) (TIof X.K W (zipE fa fb)) := by
  refine PI_weak (RZ.pi_zipA hg hm (pa_cons ha (pa_cons hb pa_nil hs2) hs) hs hpl) fun σ H R h => ?_
  obtain ⟨L, F, M, ρ, rel, post⟩ := h
  refine seqV (PIt X.K L W σ R F M H) (fun _ _ z => z) id rel post fun r1 ρ1 p1 v1 M1 H1 e1 l1 q1 n1 => ?_
  refine seqV (PIt X.K L W σ R F M H) (fun _ _ z => PX.reb z e1 adj_sub) id l1 p1 fun r2 ρ2 p2 v2 M2 H2 e2 l2 q2 n2 => ?_
  have q1' := q1.evo e2
  have ev := e1.trans e2 adj_sub
  have sb : ∀ x, F x → adj (adj F v1 r1) v2 r2 x := fun x z => adj_sub x (adj_sub x z)
  cases r1 with
  | tmp d => cases d <;> cases r2 <;> exact p2.elim
  | bor d => cases r2 <;> exact p2.elim
  | val d =>
    cases r2 with
    | tmp e => cases d <;> exact p2.elim
    | bor e => cases d <;> exact p2.elim
    | val e =>
      cases d with
      | lst ds =>
        cases e with
        | lst es =>
          cases q1' with
          | lst h1 h2 h3 =>
            cases q2 with
            | lst h4 h5 h6 =>
              exact ⟨_, _, _, _, rfl, .inl ⟨.of h1, .of h4, p2 _ noB M2 H2 ev (fun _ z => z.elim) (l2.noB sb) (itd_pair (walk_zip rfl) (fun M3 H3 e3 => ⟨.of (e3.nd h1 h2 rfl).1, .of (e3.nd h4 h5 rfl).1⟩) h3 h6)⟩⟩
        | _ => exact p2.elim
      | tup ds =>
        cases e with
        | tup es =>
          cases q1' with
          | tup h1 h2 h3 =>
            cases q2 with
            | tup h4 h5 h6 =>
              exact ⟨_, _, _, _, rfl, .inr ⟨.of h1, .of h4, p2 _ noB M2 H2 ev (fun _ z => z.elim) (l2.noB sb) (itd_pair walk_zipT (fun M3 H3 e3 => ⟨.of (e3.nd h1 h2 rfl).1, .of (e3.nd h4 h5 rfl).1⟩) h3 h6)⟩⟩
        | _ => exact p2.elim
      | kt ds =>
        cases e with
        | tup es =>
          cases q1' with
          | kt h1 h3 =>
            cases q2 with
            | tup h4 h5 h6 =>
              exact ⟨_, _, _, _, rfl, .inr ⟨.inr h1, .of h4, p2 _ noB M2 H2 ev (fun _ z => z.elim) (l2.noB sb) (itd_pair walk_zipT (fun M3 H3 e3 => ⟨.inr h1, .of (e3.nd h4 h5 rfl).1⟩) h3 h6)⟩⟩
        | _ => exact p2.elim
      | _ => cases e <;> exact p2.elim

/-! ### locking a slot -/
def setL (L : Lc) (i : Nat) (x : Option (Option V)) : Lc := fun j => if j = i then x else L j
theorem Rel.lock {K : PySem.W.Frag} {L : Lc} {F M : AP} {H : Hp} {ρ : Ev} {σ : St} {i : Nat} {s : Slot} {d : D} {v : V} (h : Rel K L F M H ρ σ) (e : ρ[i]? = some s) (so : s.open' = true) (hd : s.dat = some d) (z : σ[i]? = some (some v)) :
    Rel K (setL L i (some (some v))) F M H (ρ.set i (.lock d s.isLent)) σ := by
  have sm := Slot.open_mine so
  have back : ∀ (j : Nat) u, (ρ.set i (.lock d s.isLent))[j]? = some u → ∃ u', ρ[j]? = some u' ∧ u.mine = u'.mine := fun j u q => by
    rcases get_set q with ⟨rfl, rfl, _⟩ | ⟨_, q⟩
    · exact ⟨s, e, sm.symm⟩
    · exact ⟨u, q, rfl⟩
  refine ⟨by simpa using h.len, fun j u q => ?_, fun j k u w b q1 q2 m1 m2 z1 z2 => ?_, fun j u b q m z => ?_, fun j u q m => ?_, h.dom, h.fd⟩
  · rcases get_set q with ⟨rfl, rfl, _⟩ | ⟨ne, q⟩
    · obtain ⟨a, d', h1, h2, h3, h4, _⟩ := h.mine e sm
      rw [hd] at h1; cases h1
      rw [h2]
      exact ⟨a, rfl, h3, h4⟩
    · exact h.slot j u q
  · obtain ⟨u', q1', m1'⟩ := back j u q1
    obtain ⟨w', q2', m2'⟩ := back k w q2
    exact h.inj j k u' w' b q1' q2' (m1' ▸ m1) (m2' ▸ m2) z1 z2
  · obtain ⟨u', q', m'⟩ := back j u q
    exact h.apart j u' b q' (m' ▸ m) z
  · unfold setL
    rcases get_set q with ⟨rfl, rfl, _⟩ | ⟨ne, q⟩
    · rw [if_pos rfl]; exact z
    · rw [if_neg (Ne.symm ne)]; exact h.lent j u q m
/-- a walked slot again as it was -/
def unlk (d : D) (l : Bool) : Slot := if l = true then .lent d else .own d
theorem Rel.unlock {K : PySem.W.Frag} {L : Lc} {F M : AP} {H : Hp} {ρ : Ev} {σ : St} {i : Nat} {l l' : Bool} {ds : List D} {v : V} (h : Rel K (setL L i (some (some v))) F M H ρ σ) (e : ρ[i]? = some (.lock (.lst ds) l')) (hl : l = true → L i = some (some v)) :
    Rel K L F M H (ρ.set i (unlk (.lst ds) l)) σ := by
  have um : (unlk (.lst ds) l).mine = true := by unfold unlk; split <;> rfl
  have back : ∀ (j : Nat) u, (ρ.set i (unlk (.lst ds) l))[j]? = some u → ∃ u', ρ[j]? = some u' ∧ u.mine = u'.mine := fun j u q => by
    rcases get_set q with ⟨rfl, rfl, _⟩ | ⟨_, q⟩
    · exact ⟨_, e, um⟩
    · exact ⟨u, q, rfl⟩
  refine ⟨by simpa using h.len, fun j u q => ?_, fun j k u w b q1 q2 m1 m2 z1 z2 => ?_, fun j u b q m z => ?_, fun j u q m => ?_, h.dom, h.fd⟩
  · rcases get_set q with ⟨rfl, rfl, _⟩ | ⟨ne, q⟩
    · have z := h.slot i _ e
      obtain ⟨a, h1, h2, h3⟩ := z
      unfold unlk
      split <;> exact ⟨a, h1, h2, h3⟩
    · exact h.slot j u q
  · obtain ⟨u', q1', m1'⟩ := back j u q1
    obtain ⟨w', q2', m2'⟩ := back k w q2
    exact h.inj j k u' w' b q1' q2' (m1' ▸ m1) (m2' ▸ m2) z1 z2
  · obtain ⟨u', q', m'⟩ := back j u q
    exact h.apart j u' b q' (m' ▸ m) z
  · rcases get_set q with ⟨rfl, rfl, _⟩ | ⟨ne, q⟩
    · have z := h.lent i _ e rfl
      unfold setL at z
      rw [if_pos rfl] at z
      have lt : l = true := by
        unfold unlk at m
        split at m
        · assumption
        · cases m
      rw [z, hl lt]
    · have z := h.lent j u q m
      unfold setL at z
      rw [if_neg (Ne.symm ne)] at z
      exact z
def unO {α : Type} (i : Nat) (l : Bool) : Out α → Out α
  | .ok a ρ => (match ρ[i]? with
    | some (.lock (.lst ds) _) => .ok a (ρ.set i (unlk (.lst ds) l))
    | _ => .bad)
  | .exc x ρ => (match ρ[i]? with
    | some (.lock (.lst ds) _) => .exc x (ρ.set i (unlk (.lst ds) l))
    | _ => .bad)
  | .bad => .bad

/-! ### for -/
def againF (g : M Fl) : Fl → M Fl
  | .nx => g
  | .ct => g
  | .bk => ret .nx
  | .rt r => ret (.rt r)
def turnF (h : Tg) (body : M Fl) (g : M Fl) (d : D) : M Fl := fun ρ => match h d ρ with
  | some ρ1 => bnd body (againF g) ρ1
  | none => .bad
def forL (h : Tg) (body : M Fl) : List D → M Fl
  | [] => ret .nx
  | d :: ds => turnF h body (forL h body ds) d
def forB (h : Tg) (body : M Fl) (i : Nat) : Nat → Nat → M Fl
  | 0, k => fun ρ => match ρ[i]? with
    | some (.lock (.lst ds) _) => if ds.length ≤ k then .ok .nx ρ else .bad
    | _ => .bad
  | n + 1, k => fun ρ => match ρ[i]? with
    | some (.lock (.lst ds) _) => (match ds[k]? with
      | none => .ok .nx ρ
      | some d => turnF h body (forB h body i n (k + 1)) d ρ)
    | _ => .bad
/-- l: whether it may be lent -/
def forSl (h : Tg) (body : M Fl) (i : Nat) : M Fl := fun ρ => match ρ[i]? with
  | some (.own (.lst ds)) => unO i false (forB h body i ds.length 0 (ρ.set i (.lock (.lst ds) false)))
  | some (.lent (.lst ds)) => unO i true (forB h body i ds.length 0 (ρ.set i (.lock (.lst ds) true)))
  | _ => .bad
def forS (fi : M ItS) (h : Tg) (body : M Fl) : M Fl := bnd fi fun it => match it with
  | .dat ds => forL h body ds
  | .slot i => forSl h body i
variable {h : Tg} {body : M Fl} {vs : List Nat}
/-- one turn: the item stored, the body run, then N -/
theorem t_turn {K : PySem.W.Frag} {L : Lc} {F M : AP} {H : Hp} {ρ : Ev} {σ : St} {D' : Ends} {d : D} {x : V} {g : Fd.M Fl} {N : St → Hp → Prop} (rel : Rel K L F M H ρ σ) (is : Is M K H x d) (post : PF K L W D' F M H (turnF h body g d ρ))
    (hN : ∀ ρ1 σ1 M1 H1, Evo F M H M1 H1 → Rel K L F M1 H1 ρ1 σ1 → PF K L W D' F M1 H1 (g ρ1) → N σ1 H1) :
    TGof K vs h x σ H fun σ2 H2 => TSof K W body { D' with nx := N, ct := N, bk := D'.nx } σ2 H2 := by
  refine ⟨L, F, M, ρ, d, rel, is, ?_⟩
  unfold turnF at post
  cases e : h d ρ with
  | none => rw [e] at post; exact post.elim
  | some ρ1 =>
    rw [e] at post
    intro σ1 M1 H1 e1 l1 s1
    refine ⟨L, F, M1, ρ1, l1, ?_⟩
    have post : PF K L W D' F M H ((body ρ1).bnd (againF g)) := post
    have post := PF.reb post e1 fun _ z => z
    cases e2 : body ρ1 with
    | exc x ρ2 => rw [e2] at post; exact post
    | bad => rw [e2] at post; exact post
    | ok fl ρ2 =>
      rw [e2] at post
      cases fl with
      | nx => exact fun σ' M' H' e' rl => hN ρ2 σ' M' H' (e1.trans e' fun _ z => z) rl (PF.reb post e' fun _ z => z)
      | ct => exact fun σ' M' H' e' rl => hN ρ2 σ' M' H' (e1.trans e' fun _ z => z) rl (PF.reb post e' fun _ z => z)
      | bk => exact post
      | rt r => exact post
theorem t_forB {K : PySem.W.Frag} {F M0 : AP} {H0 : Hp} {σ0 : St} {ρ0 : Ev} {D' : Ends} {i : Nat} {a : Addr} (n : Nat) (L' : Lc) (hL : L' i = some (some (.ref a))) (rel : Rel K L' F M0 H0 ρ0 σ0) (post : PF K L' W D' F M0 H0 (forB h body i n 0 ρ0)) :
    ∃ Wv : Nat → Nat → St → Hp → Prop, (∃ m, Wv 0 m σ0 H0) ∧ ∀ k m σ H, Wv k m σ H →
      ((Itl K a).stop k H ∧ D'.nx σ H) ∨ ((Itl K a).go k H ∧ ∃ N : St → Hp → Prop, (∀ σ' H', N σ' H' → ∃ m', m' < m ∧ Wv (k + 1) m' σ' H') ∧ ∀ x H', (Itl K a).yld k H x H' → TGof K vs h x σ H' fun σ2 H2 => TSof K W body { D' with nx := N, ct := N, bk := D'.nx } σ2 H2) := by
  refine ⟨fun k m σ H => ∃ M ρ, Rel K L' F M H ρ σ ∧ PF K L' W D' F M H (forB h body i m k ρ), ⟨n, M0, ρ0, rel, post⟩, ?_⟩
  rintro k m σ H ⟨M, ρ, rel, post⟩
  have content : ∀ ds l, ρ[i]? = some (.lock (.lst ds) l) → ∃ xs, H a = some (.lst xs) ∧ IsAll M K H xs ds := fun ds l e => by
    obtain ⟨b, h1, h2, xs, h3, h4⟩ := rel.slot i _ e
    have z := rel.lent i _ e rfl
    rw [hL] at z
    rw [z] at h1
    cases h1
    exact ⟨xs, h3, h4⟩
  cases m with
  | zero =>
    unfold forB at post
    cases e : ρ[i]? with
    | none => rw [e] at post; exact post.elim
    | some s =>
      rw [e] at post
      cases s with
      | lock d l =>
        cases d with
        | lst ds =>
          obtain ⟨xs, h1, h2⟩ := content ds l e
          dsimp only at post
          split at post
          · exact .inl ⟨⟨xs, .of h1, by rw [h2.length]; assumption⟩, post σ M H .refl rel⟩
          · exact post.elim
        | _ => exact post.elim
      | _ => exact post.elim
  | succ m =>
    unfold forB at post
    cases e : ρ[i]? with
    | none => rw [e] at post; exact post.elim
    | some s =>
      rw [e] at post
      cases s with
      | lock d l =>
        cases d with
        | lst ds =>
          obtain ⟨xs, h1, h2⟩ := content ds l e
          dsimp only at post
          cases hk : ds[k]? with
          | none =>
            rw [hk] at post
            exact .inl ⟨⟨xs, .of h1, by rw [h2.length]; exact List.getElem?_eq_none_iff.mp hk⟩, post σ M H .refl rel⟩
          | some d =>
            rw [hk] at post
            obtain ⟨x, h3, h4⟩ := h2.get hk
            refine .inr ⟨⟨xs, x, .of h1, h3⟩, fun σ1 H1 => ∃ M1 ρ1, Rel K L' F M1 H1 ρ1 σ1 ∧ PF K L' W D' F M1 H1 (forB h body i m (k + 1) ρ1), fun σ' H' ⟨M1, ρ1, r1, p1⟩ => ⟨m, Nat.lt_succ_self _, M1, ρ1, r1, p1⟩, fun x' H' y => ?_⟩
            obtain ⟨rfl, y⟩ := y
            have y := y xs (.of h1)
            rw [h3] at y; cases y
            exact t_turn rel h4 post fun ρ1 σ1 M1 H1 e1 l1 p1 => ⟨M1, ρ1, l1, p1⟩
        | _ => exact post.elim
      | _ => exact post.elim
/-- posts with a slot unlocked -/
theorem PF.un {K : PySem.W.Frag} {L : Lc} {F M : AP} {H : Hp} {D' : Ends} {i : Nat} {v : V} {l : Bool} {o : Out Fl} (hl : l = true → L i = some (some v)) (post : PF K L W D' F M H (unO i l o)) : PF K (setL L i (some (some v))) W D' F M H o := by
  cases o with
  | bad => exact post
  | exc x ρ =>
    simp only [unO] at post
    split at post
    · rename_i ds l' e
      have post : PXs K L W F M H x (ρ.set i (unlk (.lst ds) l)) := post
      cases W with
      | none => exact post
      | some w => exact fun σ c d M' H' ev r ex => post σ c d M' H' ev (r.unlock e hl) ex
    · exact post.elim
  | ok fl ρ =>
    simp only [unO] at post
    split at post
    · rename_i ds l' e
      cases fl with
      | nx => exact fun σ' M' H' ev r => post σ' M' H' ev (r.unlock e hl)
      | bk => exact fun σ' M' H' ev r => post σ' M' H' ev (r.unlock e hl)
      | ct => exact fun σ' M' H' ev r => post σ' M' H' ev (r.unlock e hl)
      | rt r0 => exact fun v σ' M' H' ev r rv nf => post v σ' M' H' ev (r.unlock e hl) rv nf
    · exact post.elim
theorem t_forL {K : PySem.W.Frag} {L : Lc} {F M0 : AP} {H0 : Hp} {σ0 : St} {ρ0 : Ev} {D' : Ends} {J : It} {ds : List D} (rel : Rel K L F M0 H0 ρ0 σ0) (it : ItD K J ds F M0 H0) (post : PF K L W D' F M0 H0 (forL h body ds ρ0)) :
    ∃ Wv : Nat → Nat → St → Hp → Prop, (∃ m, Wv 0 m σ0 H0) ∧ ∀ k m σ H, Wv k m σ H →
      (J.stop k H ∧ D'.nx σ H) ∨ (J.go k H ∧ ∃ N : St → Hp → Prop, (∀ σ' H', N σ' H' → ∃ m', m' < m ∧ Wv (k + 1) m' σ' H') ∧ ∀ x H', J.yld k H x H' → TGof K vs h x σ H' fun σ2 H2 => TSof K W body { D' with nx := N, ct := N, bk := D'.nx } σ2 H2) := by
  obtain ⟨G, Y, w, hG, hY⟩ := it
  refine for_it w (fun k σ H => ∃ M ρ, Evo F M0 H0 M H ∧ Rel K L F M H ρ σ ∧ PF K L W D' F M H (forL h body (ds.drop k) ρ)) ⟨M0, ρ0, .refl, rel, post⟩ (fun k σ H _ ⟨M, ρ, e, r, p⟩ => hG M H e) (fun k x σ H H3 hk ⟨M, ρ, e, r, p⟩ y => ?_) (fun σ H ⟨M, ρ, e, r, p⟩ => ?_)
  · obtain ⟨d, hd, gr, is⟩ := hY k M H x H3 hk e r.dom y
    have hdrop : ds.drop k = d :: ds.drop (k + 1) := by
      obtain ⟨hlt, rfl⟩ := List.getElem?_eq_some_iff.mp hd
      exact List.drop_eq_getElem_cons hlt
    rw [hdrop] at p
    have ge : Evo F M H M H3 := gr.evo r.dom
    exact t_turn (r.grow gr) is (PF.reb p ge fun _ z => z) fun ρ1 σ1 M1 H1 e1 l1 p1 => ⟨M1, ρ1, e.trans (ge.trans e1 fun _ z => z) fun _ z => z, l1, p1⟩
  · rw [List.drop_length] at p
    exact p σ M H .refl r
theorem s_for {iter : Expr} {sts : List Stmt} {fi : M ItS} (hp : PassesOwn (model X.prog X.w) X.A X.env X.xe) (hc : X.calm = true) (hi : PI X tg iter (TIof X.K W fi)) (hg : PG X tg (TGof X.K vs h)) (hb : PSs X sts (TSof X.K W body))
    (hs : ∀ x, foldedSetIterable iter X.env x = pure x := by intro _; rfl) : PS X (.For tg iter sts [] pos) (TSof X.K W (forS fi h body)) := by
  refine PS_weak (ps_for hp hc hi hg hb hs) fun D' σ H hq => ?_
  obtain ⟨L, F, M, ρ, rel, post⟩ := hq
  refine seqI (PF X.K L W D' F M H) (fun _ _ z => z.px) id rel post (fun ds ρ1 p1 J B M1 H1 e1 nb l1 it => ?_) (fun i ρ1 p1 a M1 H1 e1 l1 z => ?_)
  · exact t_forL l1 (it.mono fun _ z => .inr z) (PF.reb p1 e1 fun _ z => .inl z)
  · have p1 := PF.reb p1 e1 fun _ z => z
    have p1 : PF X.K L W D' F M1 H1 (forSl h body i ρ1) := p1
    unfold forSl at p1
    cases e : ρ1[i]? with
    | none => rw [e] at p1; exact p1.elim
    | some s =>
      rw [e] at p1
      cases s with
      | own d =>
        cases d with
        | lst ds => exact t_forB ds.length _ (by unfold setL; rw [if_pos rfl]) (l1.lock (d := .lst ds) e rfl rfl z) (PF.un (l := false) (fun q => Bool.noConfusion q) p1)
        | _ => exact p1.elim
      | lent d =>
        cases d with
        | lst ds => exact t_forB ds.length _ (by unfold setL; rw [if_pos rfl]) (l1.lock (d := .lst ds) e rfl rfl z) (PF.un (l := true) (fun _ => (l1.lent i _ e rfl).symm.trans z) p1)
        | _ => exact p1.elim
      | _ => exact p1.elim

/-! ### while -/
def whS (c : M Bool) (body : M Fl) : Nat → M Fl
  | 0 => fail
  | n + 1 => bnd c fun k => if k = true then bnd body (againF (whS c body n)) else ret .nx
theorem s_while {c : Expr} {sts : List Stmt} {cb : M Bool} (n : Nat) (hp : PassesOwn (model X.prog X.w) X.A X.env X.xe) (hc : PT X c (TTof X.K W cb)) (hb : PSs X sts (TSof X.K W body)) : PS X (.While c sts [] pos) (TSof X.K W (whS cb body n)) := by
  refine PS_weak (ps_while hp hc hb) fun D' σ H hq => ?_
  obtain ⟨L, F, M, ρ, rel, post⟩ := hq
  refine ⟨fun m σ H => ∃ M ρ, Rel X.K L F M H ρ σ ∧ PF X.K L W D' F M H (whS cb body m ρ), ⟨n, M, ρ, rel, post⟩, ?_⟩
  rintro m σ H ⟨M, ρ, rel, post⟩
  cases m with
  | zero => exact post.elim
  | succ m =>
    refine seqB (PF X.K L W D' F M H) (fun _ _ z => z.px) id rel post fun k ρ1 p1 M1 H1 e1 l1 => ?_
    cases k with
    | false => rw [if_neg Bool.false_ne_true] at p1 ⊢; exact p1 σ M1 H1 e1 l1
    | true =>
      rw [if_pos rfl] at p1 ⊢
      have p1 := PF.reb p1 e1 fun _ z => z
      refine ⟨fun σ1 H1 => ∃ M1 ρ1, Rel X.K L F M1 H1 ρ1 σ1 ∧ PF X.K L W D' F M1 H1 (whS cb body m ρ1), fun σ' H' ⟨M1, ρ1, r1, p1⟩ => ⟨m, Nat.lt_succ_self _, M1, ρ1, r1, p1⟩, L, F, M1, ρ1, l1, ?_⟩
      have p1 : PF X.K L W D' F M1 H1 ((body ρ1).bnd (againF (whS cb body m))) := p1
      cases e2 : body ρ1 with
      | exc x ρ2 => rw [e2] at p1; exact p1
      | bad => rw [e2] at p1; exact p1
      | ok fl ρ2 =>
        rw [e2] at p1
        cases fl with
        | nx => exact fun σ' M' H' e' rl => ⟨M', ρ2, rl, PF.reb p1 e' fun _ z => z⟩
        | ct => exact fun σ' M' H' e' rl => ⟨M', ρ2, rl, PF.reb p1 e' fun _ z => z⟩
        | bk => exact p1
        | rt r => exact p1
end
end Fd

/-! Fd8: list comprehensions. -/
namespace Fd
open PySem L2

/-! ### the block's own names -/
def wipeE (ρ : Ev) : List Nat → Ev
  | [] => ρ
  | v :: vs => (wipeE ρ vs).set v .no
def backE (ρ ρ' : Ev) : List Nat → Ev
  | [] => ρ'
  | v :: vs => (backE ρ ρ' vs).set v (ρ.getD v .no)
def wipeOk (ρ : Ev) (vs : List Nat) : Bool := vs.all fun v => match ρ[v]? with
  | some .no => true
  | some (.val _) => true
  | _ => false
theorem wipeE_len (ρ : Ev) : ∀ vs, (wipeE ρ vs).length = ρ.length
  | [] => rfl
  | v :: vs => by unfold wipeE; rw [List.length_set, wipeE_len ρ vs]
theorem backE_len (ρ ρ' : Ev) : ∀ vs, (backE ρ ρ' vs).length = ρ'.length
  | [] => rfl
  | v :: vs => by unfold backE; rw [List.length_set, backE_len ρ ρ' vs]
theorem wipeE_out {ρ : Ev} {i : Nat} : ∀ {vs : List Nat}, i ∉ vs → (wipeE ρ vs)[i]? = ρ[i]?
  | [], _ => rfl
  | v :: vs, h => by
    rw [List.mem_cons, not_or] at h
    unfold wipeE
    rw [List.getElem?_set_ne (Ne.symm h.1), wipeE_out h.2]
theorem wipeE_in {ρ : Ev} {i : Nat} {s : Slot} : ∀ {vs : List Nat}, i ∈ vs → (wipeE ρ vs)[i]? = some s → s = .no
  | [], h, _ => by cases h
  | v :: vs, h, e => by
    unfold wipeE at e
    rcases get_set e with ⟨_, rfl, _⟩ | ⟨ne, e⟩
    · rfl
    · rcases List.mem_cons.mp h with rfl | h
      · exact absurd rfl ne
      · exact wipeE_in h e
theorem backE_out {ρ ρ' : Ev} {i : Nat} : ∀ {vs : List Nat}, i ∉ vs → (backE ρ ρ' vs)[i]? = ρ'[i]?
  | [], _ => rfl
  | v :: vs, h => by
    rw [List.mem_cons, not_or] at h
    unfold backE
    rw [List.getElem?_set_ne (Ne.symm h.1), backE_out h.2]
theorem backE_in {ρ ρ' : Ev} {i : Nat} {s : Slot} : ∀ {vs : List Nat}, i ∈ vs → (backE ρ ρ' vs)[i]? = some s → s = ρ.getD i .no
  | [], h, _ => by cases h
  | v :: vs, h, e => by
    unfold backE at e
    rcases get_set e with ⟨rfl, rfl, _⟩ | ⟨ne, e⟩
    · rfl
    · rcases List.mem_cons.mp h with rfl | h
      · exact absurd rfl ne
      · exact backE_in h e
theorem wipe_in {σ : St} {i : Nat} {o : Option V} : ∀ {vs : List Nat}, i ∈ vs → (wipe σ vs)[i]? = some o → o = none
  | [], h, _ => by cases h
  | v :: vs, h, e => by
    unfold wipe at e
    rcases get_set e with ⟨_, rfl, _⟩ | ⟨ne, e⟩
    · rfl
    · rcases List.mem_cons.mp h with rfl | h
      · exact absurd rfl ne
      · exact wipe_in h e
theorem wipe_same {σ σ' : St} {vs : List Nat} (h : SameOut (wipe σ vs) σ' vs) : wipe σ' vs = wipe σ vs := by
  have hl : (wipe σ' vs).length = (wipe σ vs).length := by rw [wipe_length, h.1]
  apply List.ext_getElem?
  intro i
  by_cases hi : i ∈ vs
  · cases e1 : (wipe σ' vs)[i]? with
    | none =>
      have : (wipe σ vs)[i]? = none := by
        rw [List.getElem?_eq_none_iff] at e1 ⊢
        omega
      rw [this]
    | some o =>
      cases e2 : (wipe σ vs)[i]? with
      | none =>
        rw [List.getElem?_eq_none_iff] at e2
        have := (List.getElem?_eq_some_iff.mp e1).1
        omega
      | some o' => rw [wipe_in hi e1, wipe_in hi e2]
  · rw [wipe_out hi, h.2 i hi]
theorem SameOut.sub {σ σ' : St} {vs ws : List Nat} (h : SameOut σ σ' vs) (s : ∀ i ∈ vs, i ∈ ws) : SameOut σ σ' ws := ⟨h.1, fun i hi => h.2 i fun z => hi (s i z)⟩
section
variable {K : PySem.W.Frag} {L : Lc} {F F' M M1 : AP} {H H1 : Hp} {ρ ρ1 ρ' : Ev} {σ σ2 : St} {vs : List Nat}
theorem Rel.wipe (h : Rel K L F M H ρ σ2) (e : wipe σ2 vs = wipe σ vs) : Rel K L F M H (wipeE ρ vs) (L2.wipe σ vs) := by
  have out : ∀ i, i ∉ vs → (L2.wipe σ vs)[i]? = σ2[i]? := fun i hi => by rw [← e, wipe_out hi]
  have back : ∀ (i : Nat) s, (wipeE ρ vs)[i]? = some s → s = .no ∨ (i ∉ vs ∧ ρ[i]? = some s) := fun i s q => by
    by_cases hi : i ∈ vs
    · exact .inl (wipeE_in hi q)
    · exact .inr ⟨hi, by rw [wipeE_out hi] at q; exact q⟩
  refine ⟨by rw [wipeE_len, ← e, wipe_length]; exact h.len, fun i s q => ?_, fun i j s t a q1 q2 m1 m2 z1 z2 => ?_, fun i s a q m z => ?_, fun i s q m => ?_, h.dom, h.fd⟩
  · rcases back i s q with rfl | ⟨hi, q⟩
    · trivial
    · rw [out i hi]; exact h.slot i s q
  · rcases back i s q1 with rfl | ⟨hi, q1⟩
    · cases m1
    · rcases back j t q2 with rfl | ⟨hj, q2⟩
      · cases m2
      · rw [out i hi] at z1; rw [out j hj] at z2; exact h.inj i j s t a q1 q2 m1 m2 z1 z2
  · rcases back i s q with rfl | ⟨hi, q⟩
    · cases m
    · rw [out i hi] at z; exact h.apart i s a q m z
  · rcases back i s q with rfl | ⟨hi, q⟩
    · cases m
    · rw [out i hi]; exact h.lent i s q m
theorem Rel.back (r0 : Rel K L F' M1 H1 ρ1 σ) (ok : wipeOk ρ1 vs = true) (ev : Evo F' M1 H1 M H) (r : Rel K L F M H ρ' (L2.wipe σ vs)) : Rel K L F M H (backE ρ1 ρ' vs) σ := by
  have out : ∀ i, i ∉ vs → (L2.wipe σ vs)[i]? = σ[i]? := fun i hi => wipe_out hi
  have inn : ∀ (i : Nat) s, i ∈ vs → (backE ρ1 ρ' vs)[i]? = some s → s = .no ∨ ∃ d, s = .val d ∧ ρ1[i]? = some (.val d) := fun i s hi q => by
    have e := backE_in hi q
    have o := List.all_eq_true.mp ok i hi
    rw [List.getD_eq_getElem?_getD] at e
    cases h : ρ1[i]? with
    | none => rw [h] at e; exact .inl e
    | some t =>
      rw [h] at e o
      cases t with
      | no => exact .inl e
      | val d => exact .inr ⟨d, e, rfl⟩
      | _ => cases o
  have nm : ∀ (i : Nat) s, i ∈ vs → (backE ρ1 ρ' vs)[i]? = some s → s.mine = false ∧ s.isLent = false := fun i s hi q => by
    rcases inn i s hi q with rfl | ⟨d, rfl, _⟩ <;> exact ⟨rfl, rfl⟩
  refine ⟨by rw [backE_len, r.len, wipe_length], fun i s q => ?_, fun i j s t a q1 q2 m1 m2 z1 z2 => ?_, fun i s a q m z => ?_, fun i s q m => ?_, r.dom, r.fd⟩
  · by_cases hi : i ∈ vs
    · rcases inn i s hi q with rfl | ⟨d, rfl, q'⟩
      · trivial
      · obtain ⟨v, h1, h2⟩ := r0.slot i _ q'
        exact ⟨v, h1, h2.evo ev⟩
    · rw [backE_out hi] at q
      rw [← out i hi]
      exact r.slot i s q
  · by_cases hi : i ∈ vs
    · rw [(nm i s hi q1).1] at m1; cases m1
    · by_cases hj : j ∈ vs
      · rw [(nm j t hj q2).1] at m2; cases m2
      · rw [backE_out hi] at q1; rw [backE_out hj] at q2; rw [← out i hi] at z1; rw [← out j hj] at z2
        exact r.inj i j s t a q1 q2 m1 m2 z1 z2
  · by_cases hi : i ∈ vs
    · rw [(nm i s hi q).1] at m; cases m
    · rw [backE_out hi] at q; rw [← out i hi] at z
      exact r.apart i s a q m z
  · by_cases hi : i ∈ vs
    · rw [(nm i s hi q).2] at m; cases m
    · rw [backE_out hi] at q; rw [← out i hi]
      exact r.lent i s q m
/-- something held apart is changed -/
theorem Rel.poke {a : Addr} {o : HO} (h : Rel K L F M H ρ σ) (f : F a) : Rel K L F M (upd H a o) ρ σ := by
  have ev : Evo (fun _ => False) M H M (upd H a o) := evo_mut (h.fd a f) (fun z => z)
  refine ⟨h.len, fun i s q => (h.slot i s q).evo ev fun b m z => ?_, h.inj, h.apart, h.lent, fun b m => ?_, h.fd⟩
  · obtain ⟨c, d, _, e2, e3, _, nf⟩ := h.mine q m
    have z' := join_some z
    rw [e2] at z'; cases z'
    exact ⟨upd_ne fun e => nf (e ▸ f), e3⟩
  · by_cases e : b = a
    · rw [e, upd_same]; exact fun z => nomatch z
    · rw [upd_ne e]; exact h.dom b m
end

/-! ### the loop of a comprehension: acc is the new list so far -/
def lcTurn (h : Tg) (ct : M Bool) (fe : M RV) (vs : List Nat) (g : List D → M (List D)) (acc : List D) (d : D) : M (List D) := fun ρ => match h d ρ with
  | none => .bad
  | some ρ1 => bnd ct (fun k => if k = true then bnd fe (fun r ρ2 => match r with
      | .val e => if acc.length < 1000000 then g (acc ++ [e]) (wipeE ρ2 vs) else .bad
      | _ => .bad) else fun ρ2 => g acc (wipeE ρ2 vs)) ρ1
def lcL (h : Tg) (ct : M Bool) (fe : M RV) (vs : List Nat) : List D → List D → M (List D)
  | [], acc => ret acc
  | d :: ds, acc => lcTurn h ct fe vs (lcL h ct fe vs ds) acc d
def lcB (h : Tg) (ct : M Bool) (fe : M RV) (vs : List Nat) (i : Nat) : Nat → Nat → List D → M (List D)
  | 0, k, acc => fun ρ => match ρ[i]? with
    | some (.lock (.lst ds) _) => if ds.length ≤ k then .ok acc ρ else .bad
    | _ => .bad
  | n + 1, k, acc => fun ρ => match ρ[i]? with
    | some (.lock (.lst ds) _) => (match ds[k]? with
      | none => .ok acc ρ
      | some d => lcTurn h ct fe vs (lcB h ct fe vs i n (k + 1)) acc d ρ)
    | _ => .bad
abbrev with1 (F : AP) (a : Addr) : AP := fun b => F b ∨ b = a
/-- what holds between two turns -/
structure LcSt (K : PySem.W.Frag) (L : Lc) (F : AP) (Dd : Addr) (σ : St) (M : AP) (H : Hp) (ρ : Ev) (acc : List D) : Prop where
  rel : Rel K L (with1 F Dd) M H ρ σ
  nf : ¬ F Dd
  lst : ∃ xs, H Dd = some (.lst xs) ∧ IsAll M K H xs acc
section
variable {K : PySem.W.Frag} {L : Lc} {F M M0 : AP} {H H0 : Hp} {ρ ρ0 : Ev} {σ : St} {vs vs0 : List Nat} {h : Tg} {ct : Fd.M Bool} {fe : Fd.M RV} {Dd : Addr} {acc : List D} {x : V} {d : D}
/-- one turn of a comprehension's loop -/
theorem t_lcTurn {g : List D → Fd.M (List D)} {Nx : Hp → Prop} (P : Out (List D) → Prop) (hx : ∀ x ρ', ¬ P (.exc x ρ')) (hb : ¬ P .bad) (sb : ∀ i ∈ vs0, i ∈ vs) (st : LcSt K L F Dd (wipe σ vs) M H ρ acc) (is : Is M K H x d) (post : P (lcTurn h ct fe vs g acc d ρ))
    (hN : ∀ M' H' ρ' acc', Evo F M H M' H' → LcSt K L F Dd (wipe σ vs) M' H' ρ' acc' → P (g acc' ρ') → Nx H') :
    TGof K vs0 h x (wipe σ vs) H fun σ2 H2 => wipe σ2 vs = wipe σ vs ∧ TTof K none ct σ2 H2 fun b H3 =>
      if b = true then TEof K none fe σ2 H3 fun y H4 => ∃ acc, H4 Dd = some (.lst acc) ∧ acc.length < sizeLine ∧ Nx (upd H4 Dd (.lst (acc ++ [y]))) else Nx H3 := by
  refine ⟨L, with1 F Dd, M, ρ, d, st.rel, is, ?_⟩
  unfold lcTurn at post
  cases e : h d ρ with
  | none => rw [e] at post; exact (hb post).elim
  | some ρ1 =>
    rw [e] at post
    intro σ1 M1 H1 e1 l1 s1
    have ws := wipe_same (s1.sub sb)
    refine ⟨ws, ?_⟩
    have mD : M Dd := st.rel.fd Dd (.inr rfl)
    refine seqB P (fun x ρ' z => (hx x ρ' z).elim) hb l1 post fun k ρ2 p2 M2 H2 e2 l2 => ?_
    have e12 := e1.trans e2 fun _ z => z
    obtain ⟨xs, hD, al⟩ := st.lst
    cases k with
    | false =>
      rw [if_neg Bool.false_ne_true] at p2 ⊢
      refine hN M2 H2 (wipeE ρ2 vs) acc (e12.weak fun _ z => .inl z) ⟨l2.wipe ws, st.nf, xs, (e12.ow Dd (.inr rfl) mD).1.trans hD, al.evo e12⟩ p2
    | true =>
      rw [if_pos rfl] at p2 ⊢
      refine seqV P (fun x ρ' z => (hx x ρ' z).elim) hb l2 p2 fun r ρ3 p3 v M3 H3 e3 l3 q3 n3 => ?_
      have e13 := e12.trans e3 fun _ z => z
      cases r with
      | tmp d => exact (hb p3).elim
      | bor d => exact (hb p3).elim
      | val d3 =>
        dsimp only at p3
        split at p3
        · rename_i hz
          have al3 := al.evo e13
          have hD3 := (e13.ow Dd (.inr rfl) mD).1.trans hD
          have m3 : M3 Dd := (e13.ow Dd (.inr rfl) mD).2
          refine ⟨xs, hD3, by rw [al.length]; exact Nat.lt_of_lt_of_le hz (by decide), ?_⟩
          have ev3 : Evo F M3 H3 M3 (upd H3 Dd (.lst (xs ++ [v]))) := evo_mut m3 st.nf
          refine hN M3 _ (wipeE ρ3 vs) (acc ++ [d3]) ((e13.weak fun _ z => .inl z).trans ev3 fun _ z => z) ⟨(l3.poke (.inr rfl)).wipe ws, st.nf, xs ++ [v], upd_same, ?_⟩ p3
          exact (al3.evo ev3).append (.cons (Is.evo ev3 _ q3) .nil)
        · exact (hb p3).elim
theorem t_lcL {J : It} {ds : List D} {Z : Hp → Prop} (P : Out (List D) → Prop) (hx : ∀ x ρ', ¬ P (.exc x ρ')) (hb : ¬ P .bad) (sb : ∀ i ∈ vs0, i ∈ vs) (it : ItD K J ds F M0 H0) (ev0 : Evo F M0 H0 M H) (st : LcSt K L F Dd (wipe σ vs) M H ρ acc) (post : P (lcL h ct fe vs ds acc ρ))
    (fin : ∀ M' H' ρ' acc', Evo F M H M' H' → LcSt K L F Dd (wipe σ vs) M' H' ρ' acc' → P (.ok acc' ρ') → Z H') :
    ∃ Wv : Nat → Nat → Hp → Prop, (∃ m, Wv 0 m H) ∧ ∀ i m H, Wv i m H →
      (J.stop i H ∧ Z H) ∨ (J.go i H ∧ ∃ Nx : Hp → Prop, (∀ H', Nx H' → ∃ m', m' < m ∧ Wv (i + 1) m' H') ∧ ∀ x H', J.yld i H x H' → TGof K vs0 h x (wipe σ vs) H' fun σ2 H2 => wipe σ2 vs = wipe σ vs ∧ TTof K none ct σ2 H2 fun b H3 =>
        if b = true then TEof K none fe σ2 H3 fun y H4 => ∃ acc, H4 Dd = some (.lst acc) ∧ acc.length < sizeLine ∧ Nx (upd H4 Dd (.lst (acc ++ [y]))) else Nx H3) := by
  obtain ⟨G, Y, w, hG, hY⟩ := it
  let Pv : Nat → Hp → Prop := fun k H' => ∃ M' ρ' acc', Evo F M H M' H' ∧ LcSt K L F Dd (wipe σ vs) M' H' ρ' acc' ∧ P (lcL h ct fe vs (ds.drop k) acc' ρ')
  refine ⟨fun k m H' => m = ds.length - k ∧ k ≤ ds.length ∧ Pv k H', ⟨ds.length, by simp, Nat.zero_le _, M, ρ, acc, .refl, st, post⟩, ?_⟩
  rintro k m H' ⟨rfl, hk, M', ρ', acc', e', st', p'⟩
  have eg : Evo F M0 H0 M' H' := ev0.trans e' fun _ z => z
  by_cases hlt : k < ds.length
  · refine .inr ⟨w.goes k H' hlt (hG M' H' eg), Pv (k + 1), fun H2 pv => ⟨ds.length - (k + 1), by omega, rfl, hlt, pv⟩, fun x H3 y => ?_⟩
    obtain ⟨d, hd, gr, is⟩ := hY k M' H' x H3 hlt eg st'.rel.dom (w.yields k H' x H3 hlt (hG M' H' eg) y)
    have hdrop : ds.drop k = d :: ds.drop (k + 1) := by
      obtain ⟨hlt, rfl⟩ := List.getElem?_eq_some_iff.mp hd
      exact List.drop_eq_getElem_cons hlt
    rw [hdrop] at p'
    have ge : ∀ {F : AP}, Evo F M' H' M' H3 := gr.evo st'.rel.dom
    obtain ⟨xs, hD, al⟩ := st'.lst
    refine t_lcTurn P hx hb sb ⟨st'.rel.grow gr, st'.nf, xs, gr.keep _ _ hD, al.evo (ge (F := F))⟩ is p' fun M2 H2 ρ2 acc2 e2 st2 p2 => ⟨M2, ρ2, acc2, e'.trans (ge.trans e2 fun _ z => z) fun _ z => z, st2, p2⟩
  · have e : k = ds.length := by omega
    subst e
    rw [List.drop_length] at p'
    exact .inl ⟨w.stops H' (hG M' H' eg), fin M' H' ρ' acc' e' st' p'⟩
theorem t_lcB {i : Nat} {a : Addr} {Z : Hp → Prop} (n : Nat) (hL : L i = some (some (.ref a))) (P : Out (List D) → Prop) (hx : ∀ x ρ', ¬ P (.exc x ρ')) (hb : ¬ P .bad) (sb : ∀ i ∈ vs0, i ∈ vs) (hi : i ∉ vs) (st : LcSt K L F Dd (wipe σ vs) M H ρ acc) (post : P (lcB h ct fe vs i n 0 acc ρ))
    (fin : ∀ M' H' ρ' acc', Evo F M H M' H' → LcSt K L F Dd (wipe σ vs) M' H' ρ' acc' → P (.ok acc' ρ') → Z H') :
    ∃ Wv : Nat → Nat → Hp → Prop, (∃ m, Wv 0 m H) ∧ ∀ j m H, Wv j m H →
      ((Itl K a).stop j H ∧ Z H) ∨ ((Itl K a).go j H ∧ ∃ Nx : Hp → Prop, (∀ H', Nx H' → ∃ m', m' < m ∧ Wv (j + 1) m' H') ∧ ∀ x H', (Itl K a).yld j H x H' → TGof K vs0 h x (wipe σ vs) H' fun σ2 H2 => wipe σ2 vs = wipe σ vs ∧ TTof K none ct σ2 H2 fun b H3 =>
        if b = true then TEof K none fe σ2 H3 fun y H4 => ∃ acc, H4 Dd = some (.lst acc) ∧ acc.length < sizeLine ∧ Nx (upd H4 Dd (.lst (acc ++ [y]))) else Nx H3) := by
  let Pv : Nat → Nat → Hp → Prop := fun k m H' => ∃ M' ρ' acc', Evo F M H M' H' ∧ LcSt K L F Dd (wipe σ vs) M' H' ρ' acc' ∧ P (lcB h ct fe vs i m k acc' ρ')
  refine ⟨Pv, ⟨n, M, ρ, acc, .refl, st, post⟩, ?_⟩
  rintro k m H' ⟨M', ρ', acc', e', st', p'⟩
  have content : ∀ ds l, ρ'[i]? = some (.lock (.lst ds) l) → ∃ xs, H' a = some (.lst xs) ∧ IsAll M' K H' xs ds := fun ds l e => by
    obtain ⟨b, h1, h2, xs, h3, h4⟩ := st'.rel.slot i _ e
    have z := st'.rel.lent i _ e rfl
    rw [hL] at z
    rw [z] at h1
    cases h1
    exact ⟨xs, h3, h4⟩
  cases m with
  | zero =>
    unfold lcB at p'
    cases e : ρ'[i]? with
    | none => rw [e] at p'; exact (hb p').elim
    | some s =>
      rw [e] at p'
      cases s with
      | lock d l =>
        cases d with
        | lst ds =>
          obtain ⟨xs, h1, h2⟩ := content ds l e
          dsimp only at p'
          split at p'
          · exact .inl ⟨⟨xs, .of h1, by rw [h2.length]; assumption⟩, fin M' H' ρ' acc' e' st' p'⟩
          · exact (hb p').elim
        | _ => exact (hb p').elim
      | _ => exact (hb p').elim
  | succ m =>
    unfold lcB at p'
    cases e : ρ'[i]? with
    | none => rw [e] at p'; exact (hb p').elim
    | some s =>
      rw [e] at p'
      cases s with
      | lock d l =>
        cases d with
        | lst ds =>
          obtain ⟨xs, h1, h2⟩ := content ds l e
          dsimp only at p'
          cases hk : ds[k]? with
          | none =>
            rw [hk] at p'
            exact .inl ⟨⟨xs, .of h1, by rw [h2.length]; exact List.getElem?_eq_none_iff.mp hk⟩, fin M' H' ρ' acc' e' st' p'⟩
          | some d =>
            rw [hk] at p'
            obtain ⟨x, h3, h4⟩ := h2.get hk
            refine .inr ⟨⟨xs, x, .of h1, h3⟩, Pv (k + 1) m, fun H2 pv => ⟨m, Nat.lt_succ_self _, pv⟩, fun x' H2 y => ?_⟩
            obtain ⟨rfl, y⟩ := y
            have y := y xs (.of h1)
            rw [h3] at y; cases y
            exact t_lcTurn P hx hb sb st' h4 p' fun M2 H2 ρ2 acc2 e2 st2 p2 => ⟨M2, ρ2, acc2, e'.trans e2 fun _ z => z, st2, p2⟩
        | _ => exact (hb p').elim
      | _ => exact (hb p').elim
end

/-! ### [e for x in iter if t] -/
def finLc (ρ : Ev) (vs : List Nat) : Out (List D) → Out RV
  | .ok acc ρ' => .ok (.tmp (.lst acc)) (backE ρ ρ' vs)
  | _ => .bad
def lcE (vs : List Nat) (fi : M ItS) (h : Tg) (ct : M Bool) (fe : M RV) : M RV := bnd fi fun it ρ => if wipeOk ρ vs = true then (match it with
  | .dat ds => finLc ρ vs (lcL h ct fe vs ds [] (wipeE ρ vs))
  | .slot i => if vs.contains i = true then .bad else (match ρ[i]? with
    | some (.own (.lst ds)) => finLc ρ vs (unO i false (lcB h ct fe vs i ds.length 0 [] (wipeE (ρ.set i (.lock (.lst ds) false)) vs)))
    | some (.lent (.lst ds)) => finLc ρ vs (unO i true (lcB h ct fe vs i ds.length 0 [] (wipeE (ρ.set i (.lock (.lst ds) true)) vs)))
    | some (.lock (.lst ds) _) => finLc ρ vs (lcB h ct fe vs i ds.length 0 [] (wipeE ρ vs))
    | _ => .bad)) else .bad
def yes : M Bool := ret true
section
variable {X : Cx} {W : WO} {vs vs0 : List Nat} {fi : M ItS} {h : Tg} {ct : M Bool} {fe : M RV}
theorem lc_start {K : PySem.W.Frag} {L : Lc} {F M : AP} {H : Hp} {ρ : Ev} {σ : St} {Dd : Addr} (rel : Rel K L F M H ρ σ) (hD : H Dd = none) : LcSt K L F Dd (wipe σ vs) (fun b => M b ∨ b = Dd) (upd H Dd (.lst [])) (wipeE ρ vs) [] := by
  have r1 := rel.newOwn (o := .lst []) hD
  refine ⟨(r1.sub (F := with1 F Dd) fun x z => z.elim .inl fun e => .inr (by rw [e])).wipe rfl, fun f => rel.dom Dd (rel.fd Dd f) hD, [], upd_same, .nil⟩
theorem lc_stop {K : PySem.W.Frag} {L : Lc} {F F' M0 M1 M : AP} {H0 H1 H : Hp} {ρ ρ' : Ev} {σ : St} {Dd : Addr} {Q : VK} {acc : List D} (e1 : Evo F M0 H0 M1 H1) (sb : ∀ x, F x → F' x) (rel : Rel K L F' M1 H1 ρ σ) (hD : H1 Dd = none) (ok : wipeOk ρ vs = true) (ev : Evo F' (fun b => M1 b ∨ b = Dd) (upd H1 Dd (.lst [])) M H)
    (st : LcSt K L F' Dd (wipe σ vs) M H ρ' acc) (post : PV K L W σ Q F M0 H0 (.ok (.tmp (.lst acc)) (backE ρ ρ' vs))) : Q (.ref Dd) H := by
  have e2 : Evo F' M1 H1 M H := (evo_own rel.dom hD).trans ev fun _ z => z
  have r2 := Rel.back rel ok e2 st.rel
  obtain ⟨xs, h1, h2⟩ := st.lst
  refine post (.ref Dd) M H (e1.trans e2 sb) (r2.sub fun x z => z.elim (fun z => .inl (sb x z)) fun z => .inr (by cases z; rfl)) ⟨Dd, rfl, st.rel.fd Dd (.inr rfl), xs, h1, h2⟩ (fun b y f => ?_)
  cases y
  exact st.nf (sb Dd f)
theorem t_lc {K : PySem.W.Frag} {σ : St} {H : Hp} {Q : VK} (sb0 : ∀ i ∈ vs0, i ∈ vs) (hq : TEof K W (lcE vs fi h ct fe) σ H Q) : tLc (TIof K W fi) (TGof K vs0 h) (TTof K none ct) (TEof K none fe) vs σ H Q := by
  obtain ⟨L, F, M, ρ, rel, post⟩ := hq
  refine seqI (PV K L W σ Q F M H) (fun _ _ z => z) id rel post (fun ds ρ1 p1 J B M1 H1 e1 nb l1 it0 => ?_) (fun i ρ1 p1 a M1 H1 e1 l1 z => ?_)
  · have it := it0.mono (F := fun x => F x ∨ B x) fun _ z => .inr z
    have sb : ∀ x, F x → F x ∨ B x := fun _ z => .inl z
    intro Dd hD
    dsimp only at p1
    split at p1
    · rename_i ok
      have it' : ItD K J ds (fun x => F x ∨ B x) (fun b => M1 b ∨ b = Dd) (upd H1 Dd (.lst [])) := by
        obtain ⟨G, Y, w, hG, hY⟩ := it
        exact ⟨G, Y, w, fun M2 H2 e => hG M2 H2 ((evo_own l1.dom hD).trans e fun _ z => z), fun i M2 H2 x H3 hi e => hY i M2 H2 x H3 hi ((evo_own l1.dom hD).trans e fun _ z => z)⟩
      exact t_lcL (fun o => PV K L W σ Q F M H (finLc ρ1 vs o)) (fun _ _ z => z) id sb0 it' .refl (lc_start l1 hD) p1 fun M' H' ρ' acc' e' st' p' => lc_stop e1 sb l1 hD ok e' st' p'
    · exact p1.elim
  · intro Dd hD
    dsimp only at p1
    split at p1
    · rename_i ok
      split at p1
      · exact p1.elim
      · rename_i hni
        have hni : i ∉ vs := fun hm => hni (by simpa using hm)
        have run : ∀ {s : Slot} {l : Bool} {d : List D}, ρ1[i]? = some s → s.open' = true → s.dat = some (.lst d) → s.isLent = l → (l = true → L i = some (some (.ref a))) →
            PV K L W σ Q F M H (finLc ρ1 vs (unO i l (lcB h ct fe vs i d.length 0 [] (wipeE (ρ1.set i (.lock (.lst d) l)) vs)))) → ∃ Wv : Nat → Nat → Hp → Prop, (∃ m, Wv 0 m (upd H1 Dd (.lst []))) ∧ ∀ j m H, Wv j m H →
              ((Itl K a).stop j H ∧ Q (.ref Dd) H) ∨ ((Itl K a).go j H ∧ ∃ Nx : Hp → Prop, (∀ H', Nx H' → ∃ m', m' < m ∧ Wv (j + 1) m' H') ∧ ∀ x H', (Itl K a).yld j H x H' → TGof K vs0 h x (wipe σ vs) H' fun σ2 H2 => wipe σ2 vs = wipe σ vs ∧ TTof K none ct σ2 H2 fun b H3 =>
                if b = true then TEof K none fe σ2 H3 fun y H4 => ∃ acc, H4 Dd = some (.lst acc) ∧ acc.length < sizeLine ∧ Nx (upd H4 Dd (.lst (acc ++ [y]))) else Nx H3) := by
          intro s l d hs so hd hl hLi p1
          subst hl
          have lk := l1.lock (d := .lst d) hs so hd z
          have okl : wipeOk (ρ1.set i (.lock (.lst d) s.isLent)) vs = true := by
            unfold wipeOk at ok ⊢
            rw [List.all_eq_true] at ok ⊢
            intro v hv
            rw [List.getElem?_set_ne fun e => hni (by rw [e]; exact hv)]
            exact ok v hv
          refine t_lcB d.length (by unfold setL; rw [if_pos rfl]) (fun o => PV K L W σ Q F M H (finLc ρ1 vs (unO i s.isLent o))) (fun x ρ' z => ?_) (fun z => z) sb0 hni (lc_start lk hD) p1 fun M' H' ρ' acc' e' st' p' => ?_
          · simp only [unO] at z
            split at z <;> exact z
          · simp only [unO] at p'
            split at p'
            · rename_i ds' l' eL
              have un := st'.rel.unlock (l := s.isLent) eL hLi
              have un2 : LcSt K L F Dd (wipe σ vs) M' H' (ρ'.set i (unlk (.lst ds') s.isLent)) acc' := ⟨un, st'.nf, st'.lst⟩
              exact lc_stop e1 (fun _ z => z) l1 hD ok e' un2 p'
            · exact p'.elim
        cases e : ρ1[i]? with
        | none => rw [e] at p1; exact p1.elim
        | some s =>
          rw [e] at p1
          cases s with
          | own d =>
            cases d with
            | lst ds => exact run e rfl rfl rfl (fun q => Bool.noConfusion q) p1
            | _ => exact p1.elim
          | lent d =>
            cases d with
            | lst ds => exact run e rfl rfl rfl (fun _ => (l1.lent i _ e rfl).symm.trans z) p1
            | _ => exact p1.elim
          | lock d l =>
            cases d with
            | lst ds =>
              exact t_lcB ds.length ((l1.lent i _ e rfl).symm.trans z) (fun o => PV K L W σ Q F M H (finLc ρ1 vs o)) (fun _ _ z => z) id sb0 hni (lc_start l1 hD) p1 fun M' H' ρ' acc' e' st' p' => lc_stop e1 (fun _ z => z) l1 hD ok e' st' p'
            | _ => exact p1.elim
          | _ => exact p1.elim
    · exact p1.elim
variable {elt tg iter : Expr} {ifs : List Expr} {scope : Scope} {own : List (Str × Nat)} {pos : Pos}
theorem e_lc (hc : X.calm = true) (hN : X.N.Nodup) (hi : PI X tg iter (TIof X.K W fi)) (ok : blkC X.N X.env.scope scope own = true)
    (hg : ∀ (s : Shared) (H : Hp) (C : Addr) (cl : List (Str × Addr)) (fp : List Addr), PG (X.blk s H scope (compEnvC scope cl C X.env) fp) tg (TGof X.K vs0 h)) (ht : ∀ (s : Shared) (H : Hp) (C : Addr) (cl : List (Str × Addr)) (fp : List Addr), PTs (X.blk s H scope (compEnvC scope cl C X.env) fp) ifs (TTof X.K none ct))
    (he : ∀ (s : Shared) (H : Hp) (C : Addr) (cl : List (Str × Addr)) (fp : List Addr), PE (X.blk s H scope (compEnvC scope cl C X.env) fp) elt (TEof X.K none fe)) (sb : ∀ i ∈ vs0, i ∈ own.map (·.2) := by decide) (hs : ∀ x, foldedSetIterable iter X.env x = pure x := by intro _; rfl) :
    PE X (.ListComp elt [⟨tg, iter, ifs, 0⟩] scope pos) (TEof X.K W (lcE (own.map (·.2)) fi h ct fe)) := PE_weak (pe_lc hc hN hi (blkOk_by ok) hg ht he hs) fun _ _ _ => t_lc sb
theorem s_setLc (i : Nat) {y : Str} {py spos : Pos} (hc : X.calm = true) (hN : X.N.Nodup) (hi : PI X tg iter (TIof X.K W fi)) (ok : blkC X.N X.env.scope scope own = true)
    (hg : ∀ (s : Shared) (H : Hp) (C : Addr) (cl : List (Str × Addr)) (fp : List Addr), PG (X.blk s H scope (compEnvC scope cl C X.env) fp) tg (TGof X.K vs0 h)) (ht : ∀ (s : Shared) (H : Hp) (C : Addr) (cl : List (Str × Addr)) (fp : List Addr), PTs (X.blk s H scope (compEnvC scope cl C X.env) fp) ifs (TTof X.K none ct))
    (he : ∀ (s : Shared) (H : Hp) (C : Addr) (cl : List (Str × Addr)) (fp : List Addr), PE (X.blk s H scope (compEnvC scope cl C X.env) fp) elt (TEof X.K none fe)) (sb : ∀ i ∈ vs0, i ∈ own.map (·.2) := by decide) (hy : X.N[i]? = some y := by rfl) (hyl : X.env.scope.names.lookup y = some .local := by rfl)
    (hsw : swapsWith (.ListComp elt [⟨tg, iter, ifs, 0⟩] scope pos) (some (.Name y py)) spos.line X.env = pure true := by exact sw_true rfl rfl rfl (by decide +kernel)) (hs : ∀ x, foldedSetIterable iter X.env x = pure x := by intro _; rfl) :
    PS X (.Assign [.Name y py] (.ListComp elt [⟨tg, iter, ifs, 0⟩] scope pos) spos) (TSof X.K W (setS i (lcE (own.map (·.2)) fi h ct fe))) := by
  refine PS_weak (ps_setLc hc hN hy hyl hsw hi (blkOk_by ok) hg ht he hs) fun D' σ H hq => ?_
  have z := t_set hq
  exact t_lc sb z
theorem pts_yes {X : Cx} : PTs X [] (TTof X.K none yes) := ⟨fun pins s σ H Q I h => pts_nil.run pins s σ H Q I (by
  obtain ⟨L, F, M, ρ, rel, post⟩ := h
  exact post M H .refl rel)⟩
end
end Fd

/-! Fd9: two fors in a comprehension; what changes lists and dicts; calls of own defs. -/
namespace Fd
open PySem L2

/-! ### [e for x in xs if .. for y in ys if ..] -/
def lc2L (h : Tg) (ct : M Bool) (fi1 : M ItS) (h1 : Tg) (ct1 : M Bool) (fe : M RV) (vs vs1 : List Nat) : List D → List D → M (List D)
  | [], acc => ret acc
  | d :: ds, acc => fun ρ => match h d ρ with
    | none => .bad
    | some ρ1 => bnd ct (fun k => if k = true then bnd fi1 (fun it ρ2 => match it with
        | .dat ds1 => bnd (lcL h1 ct1 fe vs1 ds1 acc) (fun acc' ρ3 => lc2L h ct fi1 h1 ct1 fe vs vs1 ds acc' (wipeE ρ3 vs)) (wipeE ρ2 vs1)
        | .slot _ => .bad) else fun ρ2 => lc2L h ct fi1 h1 ct1 fe vs vs1 ds acc (wipeE ρ2 vs)) ρ1
def lc2E (vs vs1 : List Nat) (fi : M ItS) (h : Tg) (ct : M Bool) (fi1 : M ItS) (h1 : Tg) (ct1 : M Bool) (fe : M RV) : M RV := bnd fi fun it ρ => if wipeOk ρ vs = true then (match it with
  | .dat ds => finLc ρ vs (lc2L h ct fi1 h1 ct1 fe vs vs1 ds [] (wipeE ρ vs))
  | .slot _ => .bad) else .bad
section
variable {X : Cx} {W : WO} {vs vs0 vs1 vs10 : List Nat} {fi fi1 : M ItS} {h h1 : Tg} {ct ct1 : M Bool} {fe : M RV}
theorem wipe_wipe {σ σ' : St} {vs vs1 : List Nat} (sb : ∀ i ∈ vs1, i ∈ vs) (e : wipe σ' vs1 = wipe σ vs1) : wipe σ' vs = wipe σ vs := by
  have hl : σ'.length = σ.length := by
    have := congrArg List.length e
    rwa [wipe_length, wipe_length] at this
  have out : ∀ i, i ∉ vs → σ'[i]? = σ[i]? := fun i hi => by
    have := congrArg (fun l => l[i]?) e
    rwa [wipe_out fun z => hi (sb i z), wipe_out fun z => hi (sb i z)] at this
  exact wipe_same ⟨by rw [wipe_length, hl], fun i hi => by rw [wipe_out hi]; exact out i hi⟩
theorem t_lc2 {K : PySem.W.Frag} {σ : St} {H : Hp} {Q : VK} (sb0 : ∀ i ∈ vs0, i ∈ vs) (sb1 : ∀ i ∈ vs1, i ∈ vs) (sb10 : ∀ i ∈ vs10, i ∈ vs1) (hq : TEof K W (lc2E vs vs1 fi h ct fi1 h1 ct1 fe) σ H Q) :
    tLc2 (TIof K W fi) (TGof K vs0 h) (TTof K none ct) (TIof K none fi1) (TGof K vs10 h1) (TTof K none ct1) (TEof K none fe) vs vs1 σ H Q := by
  obtain ⟨L, F, M, ρ, rel, post⟩ := hq
  refine seqI (PV K L W σ Q F M H) (fun _ _ z => z) id rel post (fun ds ρ1 p1 J B M1 H1 e1 nb l1 it0 => ?_) (fun i ρ1 p1 a M1 H1 e1 l1 z => ?_)
  · let F' : AP := fun x => F x ∨ B x
    have it : ItD K J ds F' M1 H1 := it0.mono fun _ z => .inr z
    have sb : ∀ x, F x → F' x := fun _ z => .inl z
    intro Dd hD
    dsimp only at p1
    split at p1
    · rename_i ok
      obtain ⟨G, Y, w, hG, hY⟩ := it
      let Ms : AP := fun b => M1 b ∨ b = Dd
      let Hs : Hp := upd H1 Dd (.lst [])
      let P : Out (List D) → Prop := fun o => PV K L W σ Q F M H (finLc ρ1 vs o)
      let Pv : Nat → Hp → Prop := fun k H' => ∃ M' ρ' acc', Evo F' Ms Hs M' H' ∧ LcSt K L F' Dd (wipe σ vs) M' H' ρ' acc' ∧ P (lc2L h ct fi1 h1 ct1 fe vs vs1 (ds.drop k) acc' ρ')
      refine ⟨fun k m H' => m = ds.length - k ∧ k ≤ ds.length ∧ Pv k H', ⟨ds.length, by simp, Nat.zero_le _, Ms, wipeE ρ1 vs, [], .refl, lc_start l1 hD, p1⟩, ?_⟩
      rintro k m H' ⟨rfl, hk, M', ρ', acc', e', st', p'⟩
      have eg : Evo F' M1 H1 M' H' := (evo_own l1.dom hD).trans e' fun _ z => z
      by_cases hlt : k < ds.length
      · refine .inr ⟨w.goes k H' hlt (hG M' H' eg), Pv (k + 1), fun H2 pv => ⟨ds.length - (k + 1), by omega, rfl, hlt, pv⟩, fun x H3 y => ?_⟩
        obtain ⟨d, hd, gr, is⟩ := hY k M' H' x H3 hlt eg st'.rel.dom (w.yields k H' x H3 hlt (hG M' H' eg) y)
        have hdrop : ds.drop k = d :: ds.drop (k + 1) := by
          obtain ⟨hlt, rfl⟩ := List.getElem?_eq_some_iff.mp hd
          exact List.drop_eq_getElem_cons hlt
        rw [hdrop] at p'
        have ge : ∀ {F : AP}, Evo F M' H' M' H3 := gr.evo st'.rel.dom
        obtain ⟨xs, hDx, al⟩ := st'.lst
        have mD : M' Dd := st'.rel.fd Dd (.inr rfl)
        refine ⟨L, with1 F' Dd, M', ρ', d, st'.rel.grow gr, is, ?_⟩
        unfold lc2L at p'
        cases eh : h d ρ' with
        | none => rw [eh] at p'; exact p'.elim
        | some ρ2 =>
          rw [eh] at p'
          intro σ2 M2 H2 e2 l2 s2
          have ws := wipe_same (s2.sub sb0)
          refine ⟨ws, ?_⟩
          refine seqB P (fun x ρ' z => z.elim) id l2 p' fun b ρ3 p3 M3 H3' e3 l3 => ?_
          have e23 := (ge.trans (e2.trans e3 fun _ z => z) fun _ z => z : Evo (with1 F' Dd) M' H' M3 H3')
          have hD3 : H3' Dd = some (.lst xs) := (e23.ow Dd (.inr rfl) mD).1.trans hDx
          have al3 : IsAll M3 K H3' xs acc' := al.evo e23
          cases b with
          | false =>
            rw [if_neg Bool.false_ne_true] at p3 ⊢
            exact ⟨M3, wipeE ρ3 vs, acc', e'.trans (e23.weak fun _ z => .inl z) fun _ z => z, ⟨l3.wipe ws, st'.nf, xs, hD3, al3⟩, p3⟩
          | true =>
            rw [if_pos rfl] at p3 ⊢
            refine seqI P (fun x ρ' z => z.elim) id l3 p3 (fun ds1 ρ4 p4 J1 B4 M4 H4 e4 nb4 l4 it4 => ?_) (fun i ρ4 p4 a M4 H4 e4 l4 z => p4.elim)
            have e24 : Evo (with1 F' Dd) M' H' M4 H4 := e23.trans e4 fun _ z => z
            have hD4 : H4 Dd = some (.lst xs) := (e24.ow Dd (.inr rfl) mD).1.trans hDx
            have al4 : IsAll M4 K H4 xs acc' := al.evo e24
            let F5 : AP := fun x => F' x ∨ B4 x
            have s5 : ∀ x, with1 F5 Dd x → (with1 F' Dd x ∨ B4 x) := fun x z => z.elim (fun z => z.elim (fun z => .inl (.inl z)) .inr) fun z => .inl (.inr z)
            have nf5 : ¬ F5 Dd := fun z => z.elim st'.nf fun z => nb4 Dd z (.inr rfl)
            refine t_lcL (F := F5) (σ := σ2) (vs := vs1) (vs0 := vs10) (Dd := Dd) (acc := acc') (M := M4) (H := H4) (ρ := wipeE ρ4 vs1) (fun o => P (o.bnd fun acc' ρ3 => lc2L h ct fi1 h1 ct1 fe vs vs1 (ds.drop (k + 1)) acc' (wipeE ρ3 vs))) (fun _ _ z => z) id sb10 (it4.mono fun _ z => .inr z) .refl ⟨(l4.sub s5).wipe rfl, nf5, xs, hD4, al4⟩ p4 fun M6 H6 ρ6 acc6 e6 st6 p6 => ?_
            refine ⟨M6, wipeE ρ6 vs, acc6, e'.trans ((e24.weak fun _ z => .inl z).trans (e6.weak fun _ z => .inl z) fun _ z => z) fun _ z => z, ⟨?_, st'.nf, st6.lst⟩, p6⟩
            have r6 : Rel K L (with1 F' Dd) M6 H6 ρ6 (wipe σ2 vs1) := st6.rel.sub fun x z => z.elim (fun z => .inl (.inl z)) .inr
            refine r6.wipe ?_
            rw [← ws]
            refine wipe_same ⟨by rw [wipe_length, wipe_length], fun i hi => ?_⟩
            rw [wipe_out hi, wipe_out fun z => hi (sb1 i z)]
      · have e : k = ds.length := by omega
        subst e
        rw [List.drop_length] at p'
        exact .inl ⟨w.stops H' (hG M' H' eg), lc_stop e1 sb l1 hD ok e' st' p'⟩
    · exact p1.elim
  · exact fun _ _ => by
      dsimp only at p1
      split at p1 <;> exact p1.elim
end
end Fd

/-! Fd10: comprehensions with two fors (rules); what changes lists and dicts. -/
namespace Fd
open PySem L2
section
variable {X : Cx} {W : WO} {vs0 vs10 vs1 : List Nat} {fi fi1 : M ItS} {h h1 : Tg} {ct ct1 : M Bool} {fe : M RV}
variable {elt tg iter tg1 iter1 : Expr} {ifs ifs1 : List Expr} {scope : Scope} {own : List (Str × Nat)} {pos : Pos}
theorem pts_bt {c : Expr} (h : PT X c (TTof X.K none ct)) : PTs X [c] (TTof X.K none ct) := pts_one h
theorem e_lc2 (vs1 : List Nat) (hc : X.calm = true) (hN : X.N.Nodup) (hi : PI X tg iter (TIof X.K W fi)) (ok : blkC X.N X.env.scope scope own = true)
    (hg : ∀ (s : Shared) (H : Hp) (C : Addr) (cl : List (Str × Addr)) (fp : List Addr), PG (X.blk s H scope (compEnvC scope cl C X.env) fp) tg (TGof X.K vs0 h)) (ht : ∀ (s : Shared) (H : Hp) (C : Addr) (cl : List (Str × Addr)) (fp : List Addr), PTs (X.blk s H scope (compEnvC scope cl C X.env) fp) ifs (TTof X.K none ct))
    (hi1 : ∀ (s : Shared) (H : Hp) (C : Addr) (cl : List (Str × Addr)) (fp : List Addr), PI (X.blk s H scope (compEnvC scope cl C X.env) fp) tg1 iter1 (TIof X.K none fi1))
    (hg1 : ∀ (s : Shared) (H : Hp) (C : Addr) (cl : List (Str × Addr)) (fp : List Addr), PG (X.blk s H scope (compEnvC scope cl C X.env) fp) tg1 (TGof X.K vs10 h1)) (ht1 : ∀ (s : Shared) (H : Hp) (C : Addr) (cl : List (Str × Addr)) (fp : List Addr), PTs (X.blk s H scope (compEnvC scope cl C X.env) fp) ifs1 (TTof X.K none ct1))
    (he : ∀ (s : Shared) (H : Hp) (C : Addr) (cl : List (Str × Addr)) (fp : List Addr), PE (X.blk s H scope (compEnvC scope cl C X.env) fp) elt (TEof X.K none fe)) (sb : ∀ i ∈ vs0, i ∈ own.map (·.2) := by decide) (sb1 : ∀ i ∈ vs1, i ∈ own.map (·.2) := by decide) (sb10 : ∀ i ∈ vs10, i ∈ vs1 := by decide)
    (hs : ∀ x, foldedSetIterable iter X.env x = pure x := by intro _; rfl) (hs1 : ∀ env x, foldedSetIterable iter1 env x = pure x := by intro _ _; rfl) :
    PE X (.ListComp elt [⟨tg, iter, ifs, 0⟩, ⟨tg1, iter1, ifs1, 0⟩] scope pos) (TEof X.K W (lc2E (own.map (·.2)) vs1 fi h ct fi1 h1 ct1 fe)) := PE_weak (pe_lc2 hc hN hi (blkOk_by ok) sb1 hg ht hi1 hg1 ht1 he hs hs1) fun _ _ _ => t_lc2 sb sb1 sb10
theorem s_setLc2 (vs1 : List Nat) (i : Nat) {y : Str} {py spos : Pos} (hc : X.calm = true) (hN : X.N.Nodup) (hi : PI X tg iter (TIof X.K W fi)) (ok : blkC X.N X.env.scope scope own = true)
    (hg : ∀ (s : Shared) (H : Hp) (C : Addr) (cl : List (Str × Addr)) (fp : List Addr), PG (X.blk s H scope (compEnvC scope cl C X.env) fp) tg (TGof X.K vs0 h)) (ht : ∀ (s : Shared) (H : Hp) (C : Addr) (cl : List (Str × Addr)) (fp : List Addr), PTs (X.blk s H scope (compEnvC scope cl C X.env) fp) ifs (TTof X.K none ct))
    (hi1 : ∀ (s : Shared) (H : Hp) (C : Addr) (cl : List (Str × Addr)) (fp : List Addr), PI (X.blk s H scope (compEnvC scope cl C X.env) fp) tg1 iter1 (TIof X.K none fi1))
    (hg1 : ∀ (s : Shared) (H : Hp) (C : Addr) (cl : List (Str × Addr)) (fp : List Addr), PG (X.blk s H scope (compEnvC scope cl C X.env) fp) tg1 (TGof X.K vs10 h1)) (ht1 : ∀ (s : Shared) (H : Hp) (C : Addr) (cl : List (Str × Addr)) (fp : List Addr), PTs (X.blk s H scope (compEnvC scope cl C X.env) fp) ifs1 (TTof X.K none ct1))
    (he : ∀ (s : Shared) (H : Hp) (C : Addr) (cl : List (Str × Addr)) (fp : List Addr), PE (X.blk s H scope (compEnvC scope cl C X.env) fp) elt (TEof X.K none fe)) (sb : ∀ i ∈ vs0, i ∈ own.map (·.2) := by decide) (sb1 : ∀ i ∈ vs1, i ∈ own.map (·.2) := by decide) (sb10 : ∀ i ∈ vs10, i ∈ vs1 := by decide)
    (hy : X.N[i]? = some y := by rfl) (hyl : X.env.scope.names.lookup y = some .local := by rfl)
    (hsw : swapsWith (.ListComp elt [⟨tg, iter, ifs, 0⟩, ⟨tg1, iter1, ifs1, 0⟩] scope pos) (some (.Name y py)) spos.line X.env = pure true := by exact sw_true rfl rfl rfl (by decide +kernel))
    (hs : ∀ x, foldedSetIterable iter X.env x = pure x := by intro _; rfl) (hs1 : ∀ env x, foldedSetIterable iter1 env x = pure x := by intro _ _; rfl) :
    PS X (.Assign [.Name y py] (.ListComp elt [⟨tg, iter, ifs, 0⟩, ⟨tg1, iter1, ifs1, 0⟩] scope pos) spos) (TSof X.K W (setS i (lc2E (own.map (·.2)) vs1 fi h ct fi1 h1 ct1 fe))) := by
  refine PS_weak (ps_setLc2 hc hN hy hyl hsw hi (blkOk_by ok) sb1 hg ht hi1 hg1 ht1 he hs hs1) fun D' σ H hq => ?_
  have z := t_set hq
  exact t_lc2 sb sb1 sb10 z
end

/-! ### methods that change a list in a slot -/
def GoodM (K : PySem.W.Frag) (r : V → List V → Hp → VK → Prop) (g : List D → List D → Option (List D × D)) : Prop :=
  ∀ (M : AP) (H : Hp) (a : Addr) (xs : List V) (cs : List D) (vs : List V) (ds es : List D) (e : D) (Q : VK), H a = some (.lst xs) → IsAll M K H xs cs → IsAll M K H vs ds → g cs ds = some (es, e) →
    (∀ v ys, IsAll M K H ys es → Is M K H v e → Q v (upd H a (.lst ys))) → r (.ref a) vs H Q
def mtF (g : List D → List D → Option (List D × D)) (i : Nat) (ds : List D) : M RV := fun ρ => match ρ[i]? with
  | some s => if s.open' = true then (match s.dat with
    | some (.lst cs) => (match g cs ds with
      | some (es, e) => .ok (.val e) (ρ.set i (s.put (.lst es)))
      | none => .bad)
    | _ => .bad) else .bad
  | none => .bad
def mtE (g : List D → List D → Option (List D × D)) (i : Nat) (fs : M (List RV)) : M RV := fun ρ => match ρ[i]? with
  | some s => if s.mine = true then (match s.dat with
    | some (.lst _) => bnd fs (fun rs ρ1 => match valsOf rs with
      | some ds => mtF g i ds ρ1
      | none => .bad) ρ
    | _ => .bad) else .bad
  | none => .bad
section
variable {X : Cx} {W : WO} {e : Expr} {es : List Expr} {fs : M (List RV)} {name : Str} {apos cpos : Pos} {id : String} {r : V → List V → Hp → VK → Prop} {g : List D → List D → Option (List D × D)}
theorem slot_at {K : PySem.W.Frag} {L : Lc} {F M : AP} {H : Hp} {ρ : Ev} {σ : St} {i : Nat} {s : Slot} (rel : Rel K L F M H ρ σ) (hs : ρ[i]? = some s) (m : s.mine = true) {Q : VK} (k : ∀ a, σ[i]? = some (some (.ref a)) → Q (.ref a) H) : tVar i σ H Q := by
  obtain ⟨a, d, _, h2, _⟩ := rel.mine hs m
  exact ⟨_, h2, k a h2⟩
/-- the change itself -/
theorem t_mtF {K : PySem.W.Frag} {L : Lc} {F M : AP} {H : Hp} {ρ : Ev} {σ : St} {i : Nat} {a : Addr} {vs : List V} {ds : List D} {Q : VK} (hg : GoodM K r g) (rel : Rel K L F M H ρ σ) (z : σ[i]? = some (some (.ref a))) (al : IsAll M K H vs ds) (post : PV K L W σ Q F M H (mtF g i ds ρ)) : r (.ref a) vs H Q := by
  unfold mtF at post
  cases hs : ρ[i]? with
  | none => rw [hs] at post; exact post.elim
  | some s =>
    rw [hs] at post
    dsimp only at post
    split at post
    · rename_i so
      split at post
      · rename_i cs hd
        split at post
        · rename_i es e ge
          obtain ⟨b, d, e1, e2, e3, c, nf⟩ := rel.opn hs (Slot.open_mine so) (fun d l q => by rw [q] at so; cases so)
          rw [hd] at e1; cases e1
          rw [e2] at z; cases z
          obtain ⟨xs, h1, h2⟩ := c
          refine hg M H a xs cs vs ds es e Q h1 h2 al ge fun v ys iy iv => ?_
          have ev : ∀ {F : AP}, ¬ F a → Evo F M H M (upd H a (.lst ys)) := fun n => evo_mut e3 n
          exact post v M _ (ev nf) (rel.mut hs so e2 ⟨ys, upd_same, iy.evo (ev nf)⟩) (iv.evo (ev nf)) trivial
        · exact post.elim
      · exact post.elim
    · exact post.elim
theorem t_mt {K : PySem.W.Frag} {i : Nat} {σ : St} {H : Hp} {Q : VK} (hg : GoodM K r g) (h : TEof K W (mtE g i fs) σ H Q) : tBM K "list" r (tVar i) (TAof K W fs) σ H Q := by
  obtain ⟨L, F, M, ρ, rel, post⟩ := h
  unfold mtE at post
  cases hs : ρ[i]? with
  | none => rw [hs] at post; exact post.elim
  | some s =>
    rw [hs] at post
    dsimp only at post
    split at post
    · rename_i m
      split at post
      · rename_i cs hd
        obtain ⟨a, d, e1, e2, e3, c, nf⟩ := rel.mine hs m
        rw [hd] at e1; cases e1
        obtain ⟨xs, h1, h2⟩ := c
        refine ⟨_, e2, .inl ⟨rfl, xs, .of h1⟩, ?_⟩
        refine seqL (PV K L W σ Q F M H) (fun _ _ z => z) id rel post fun rs ρ1 p1 vs M1 H1 ev1 l1 q1 n1 => ?_
        cases hv : valsOf rs with
        | none => rw [hv] at p1; exact p1.elim
        | some ds =>
          rw [hv] at p1
          exact t_mtF hg (l1.sub (adjs_sub _ _)) e2 (RVRs.vals q1 hv) (PV.reb p1 ev1 fun _ z => z)
      · exact post.elim
    · exact post.elim
theorem e_mt (i : Nat) {x : Str} {p : Pos} (slot : PySem.Slot "list" name id) (hty : typeOf (.builtin id) = pure (.type "method_descriptor")) (hm : MtR X id r) (hg : GoodM X.K r g) (ha : PA X (e :: es) (TAof X.K W fs)) (hN : X.N[i]? = some x := by rfl)
    (hv : Vis X.env.scope x := by first | exact Or.inl rfl | exact Or.inr (Or.inl rfl) | exact Or.inr (Or.inr rfl)) (hd : (x == ("__debug__" : Str)) = false := by decide)
    (hcd : (x == ("__classdict__" : Str)) = false := by decide) (hbase : attributeBase (.Name x p) name X.env (eval (.Name x p) X.env) = eval (.Name x p) X.env := by rfl)
    (hfew : ((backTo cpos (starEach (e :: es) X.env)).all (fun x => !x.1) && (backToKw cpos (keywordEach [] X.env)).all (fun x => x.1.isSome)
      && decide ((e :: es).length + ([] : List Keyword).length + (if ([] : List Keyword).isEmpty then 0 else 1) < 30)) = true := by rfl)
    (hline : (apos.endLine == cpos.line) = true := by rfl) (hs : starEach (e :: es) X.env = (false, eval e X.env) :: starEach es X.env := by rfl) (hplain : (backTo cpos (starEach es X.env)).any (·.1) = false := by rfl) :
    PE X (.Call (.Attribute (.Name x p) name apos) (e :: es) [] cpos) (TEof X.K W (mtE g i fs)) :=
  PE_weak (pe_bm PySem.F.plainAttrs_list slot hty hm (pe_var hN hv hd hcd) ha hbase hfew hline hs hplain) fun _ _ _ => t_mt hg
theorem t_mt0 {K : PySem.W.Frag} {i : Nat} {σ : St} {H : Hp} {Q : VK} (hg : GoodM K r g) (h : TEof K W (mtE g i aNil) σ H Q) : tBM0 K "list" r (tVar i) σ H Q := by
  obtain ⟨L, F, M, ρ, rel, post⟩ := h
  unfold mtE at post
  cases hs : ρ[i]? with
  | none => rw [hs] at post; exact post.elim
  | some s =>
    rw [hs] at post
    dsimp only at post
    split at post
    · rename_i m
      split at post
      · rename_i cs hd
        obtain ⟨a, d, e1, e2, e3, c, nf⟩ := rel.mine hs m
        rw [hd] at e1; cases e1
        obtain ⟨xs, h1, h2⟩ := c
        refine ⟨_, e2, .inl ⟨rfl, xs, .of h1⟩, ?_⟩
        exact t_mtF hg rel e2 .nil post
      · exact post.elim
    · exact post.elim
theorem e_mt0 (i : Nat) {x : Str} {p : Pos} (slot : PySem.Slot "list" name id) (hty : typeOf (.builtin id) = pure (.type "method_descriptor")) (hm : MtR X id r) (hg : GoodM X.K r g) (hN : X.N[i]? = some x := by rfl)
    (hv : Vis X.env.scope x := by first | exact Or.inl rfl | exact Or.inr (Or.inl rfl) | exact Or.inr (Or.inr rfl)) (hd : (x == ("__debug__" : Str)) = false := by decide)
    (hcd : (x == ("__classdict__" : Str)) = false := by decide) (hbase : attributeBase (.Name x p) name X.env (eval (.Name x p) X.env) = eval (.Name x p) X.env := by rfl)
    (hline : (apos.endLine == cpos.line) = true := by rfl) : PE X (.Call (.Attribute (.Name x p) name apos) [] [] cpos) (TEof X.K W (mtE g i aNil)) :=
  PE_weak (pe_bm0 PySem.F.plainAttrs_list slot hty hm (pe_var hN hv hd hcd) hbase hline) fun _ _ _ => t_mt0 hg
end
/-! the methods -/
def appG : List D → List D → Option (List D × D)
  | cs, [d] => if cs.length < 1000000 then some (cs ++ [d], .non) else none
  | _, _ => none
def extG : List D → List D → Option (List D × D)
  | cs, [.lst ds] => if cs.length + ds.length ≤ 1000000 then some (cs ++ ds, .non) else none
  | _, _ => none
def popG : List D → List D → Option (List D × D)
  | cs, [] => (cs[cs.length - 1]?).map fun d => (cs.dropLast, d)
  | cs, [.int i] => if cs.length ≤ 1000000 then (ixN cs.length i).bind fun k => (cs[k]?).map fun d => (cs.eraseIdx k, d) else none
  | _, _ => none
def insG : List D → List D → Option (List D × D)
  | cs, [.int i, d] => if 0 ≤ i ∧ i ≤ cs.length ∧ cs.length < 1000000 then some (cs.take i.toNat ++ [d] ++ cs.drop i.toNat, .non) else none
  | _, _ => none
def revG : List D → List D → Option (List D × D)
  | cs, [] => some (cs.reverse, .non)
  | _, _ => none
theorem mil_line : 1000000 ≤ sizeLine := by decide
theorem good_app {K : PySem.W.Frag} : GoodM K rAppend appG := by
  intro M H a xs cs vs ds es e Q h1 h2 h3 hg q
  match ds, h3, hg with
  | [d], h3, hg =>
    cases h3 with
    | cons x y =>
      cases y
      have hg : (if cs.length < 1000000 then some (cs ++ [d], D.non) else none) = some (es, e) := hg
      split at hg
      · cases hg
        have := mil_line
        have := h2.length
        exact ⟨a, xs, _, rfl, rfl, h1, by omega, q .non _ (h2.append (.cons x .nil)) .non⟩
      · cases hg
theorem good_ext {K : PySem.W.Frag} : GoodM K rExtend extG := by
  intro M H a xs cs vs ds es e Q h1 h2 h3 hg q
  match ds, h3, hg with
  | [.lst d], h3, hg =>
    cases h3 with
    | cons x y =>
      cases y
      have hg : (if cs.length + d.length ≤ 1000000 then some (cs ++ d, D.non) else none) = some (es, e) := hg
      split at hg
      · cases hg
        have := mil_line
        have := h2.length
        obtain ⟨b, zs, rfl, hb, hz⟩ := RD.lst (.inl x)
        have := hz.length
        exact ⟨a, b, xs, zs, rfl, rfl, h1, hb, by omega, q .non _ (h2.append hz) .non⟩
      · cases hg
theorem dropLast_take {α : Type} (l : List α) : l.dropLast = l.take (l.length - 1) := List.dropLast_eq_take
theorem IsAll.dropLast {K : PySem.W.Frag} {M : AP} {H : Hp} {xs : List V} {ds : List D} (h : IsAll M K H xs ds) : IsAll M K H xs.dropLast ds.dropLast := by
  rw [dropLast_take, dropLast_take, h.length]; exact h.take _
theorem IsAll.erase {K : PySem.W.Frag} {M : AP} {H : Hp} {xs : List V} {ds : List D} (n : Nat) (h : IsAll M K H xs ds) : IsAll M K H (xs.eraseIdx n) (ds.eraseIdx n) := by
  rw [List.eraseIdx_eq_take_drop_succ, List.eraseIdx_eq_take_drop_succ]; exact (h.take _).append (h.drop _)
abbrev rPopA : V → List V → Hp → VK → Prop := fun x vs H Q => rPop x vs H Q ∨ rPopAt x vs H Q
theorem MtR_or {X : Cx} {id : String} {r r' : V → List V → Hp → VK → Prop} (h : MtR X id r) (h' : MtR X id r') : MtR X id (fun x vs H Q => r x vs H Q ∨ r' x vs H Q) := fun pins s σ H x xs v us Q I rx rxs q => q.elim (h pins s σ H x xs v us Q I rx rxs) (h' pins s σ H x xs v us Q I rx rxs)
theorem mt_popA {X : Cx} : MtR X "list.pop" rPopA := MtR_or mt_pop mt_popAt
theorem good_pop {K : PySem.W.Frag} : GoodM K rPopA popG := by
  intro M H a xs cs vs ds es e Q h1 h2 h3 hg q
  match ds, h3, hg with
  | [], h3, hg =>
    cases h3
    have hg : ((cs[cs.length - 1]?).map fun d => (cs.dropLast, d)) = some (es, e) := hg
    cases hc : cs[cs.length - 1]? with
    | none => rw [hc] at hg; cases hg
    | some d =>
      rw [hc] at hg; cases hg
      obtain ⟨x, e1, e2⟩ := h2.get hc
      exact .inl ⟨a, xs, x, rfl, rfl, h1, by rw [h2.length]; exact e1, q x _ h2.dropLast e2⟩
  | [.int i], h3, hg =>
    cases h3 with
    | cons x y =>
      cases y
      cases x
      have hg : (if cs.length ≤ 1000000 then (ixN cs.length i).bind fun k => (cs[k]?).map fun d => (cs.eraseIdx k, d) else none) = some (es, e) := hg
      split at hg
      · rename_i hzz
        cases hk : ixN cs.length i with
        | none => rw [hk] at hg; cases hg
        | some k =>
          rw [hk] at hg
          have hg : ((cs[k]?).map fun d => (cs.eraseIdx k, d)) = some (es, e) := hg
          cases hc : cs[k]? with
          | none => rw [hc] at hg; cases hg
          | some d =>
            rw [hc] at hg; cases hg
            obtain ⟨x, e1, e2⟩ := h2.get hc
            obtain ⟨s1, s2, s3, s4⟩ := ixN_seq hk
            exact .inr ⟨a, xs, i, k, x, rfl, rfl, h1, by omega, by omega, by rw [h2.length]; exact s1, e1, q x _ (h2.erase k) e2⟩
      · cases hg
abbrev rIns : V → List V → Hp → VK → Prop := fun x vs H Q => ∃ (l : Addr) (xs : List V) (i : Int) (y : V), x = .ref l ∧ vs = [.int i, y] ∧ H l = some (.lst xs) ∧ xs.length < sizeLine ∧ 0 ≤ i ∧ i < 2 ^ 63 ∧
    Q .non (upd H l (.lst (xs.take i.toNat ++ [y] ++ xs.drop i.toNat)))
theorem good_ins {K : PySem.W.Frag} : GoodM K rIns insG := by
  intro M H a xs cs vs ds es e Q h1 h2 h3 hg q
  match ds, h3, hg with
  | [.int i, d], h3, hg =>
    cases h3 with
    | cons x y =>
      cases y with
      | cons y z =>
        cases z
        cases x
        have hg : (if 0 ≤ i ∧ i ≤ cs.length ∧ cs.length < 1000000 then some (cs.take i.toNat ++ [d] ++ cs.drop i.toNat, D.non) else none) = some (es, e) := hg
        split at hg
        · rename_i hc
          cases hg
          have := mil_line
          have := h2.length
          exact ⟨a, xs, i, _, rfl, rfl, h1, by omega, hc.1, by omega, q .non _ (((h2.take _).append (.cons y .nil)).append (h2.drop _)) .non⟩
        · cases hg
theorem good_rev {K : PySem.W.Frag} : GoodM K rReverse revG := by
  intro M H a xs cs vs ds es e Q h1 h2 h3 hg q
  match ds, h3, hg with
  | [], h3, hg =>
    cases h3
    cases hg
    exact ⟨a, xs, rfl, rfl, h1, q .non _ h2.reverse .non⟩

/-! ### x[i] = e, d[k] = e : the target -/
abbrev rSetA : TSet := fun o i v H Q => rSetL o i v H Q ∨ rSetD o i v H Q
theorem set_any {X : Cx} (hu : X.A.units + 100 < cLine) : PSet X rSetA := fun pins s σ H o i v ov iv u Q I ro ri rv h => h.elim (set_list pins s σ H o i v ov iv u Q I ro ri rv) (set_dict (by omega) pins s σ H o i v ov iv u Q I ro ri rv)
def putAt : D → D → D → Option D
  | .lst cs, .int k, d => (ixN cs.length k).map fun j => .lst (cs.set j d)
  | .dK kvs, k, d => if kvs.length < 1000000 then (keyOf k).map fun k => .dK (putD kvs k d) else none
  | .dT kvs, k, d => if kvs.length < 1000000 then (keysOf k).map fun k => .dT (putD kvs k d) else none
  | _, _, _ => none
def setX (i : Nat) (fi : M RV) : Tg := fun d ρ => match ρ[i]? with
  | some s => if s.mine = true then (match fi ρ with
    | .ok r ρ1 => (match r.dat ρ1, ρ1[i]? with
      | some k, some s1 => if s1.open' = true then (match s1.dat with
        | some c => (match putAt c k d with
          | some c' => some (ρ1.set i (s1.put c'))
          | none => none)
        | none => none) else none
      | _, _ => none)
    | _ => none) else none
  | none => none
section
variable {K : PySem.W.Frag} {M : AP} {H : Hp}
theorem IsK.any : ∀ {xs : List (Key × V)} {ds : List (Key × D)} (k : Key), IsK M K H xs ds → (xs.any fun kv => decide (kv.1 = k)) = (ds.any fun kv => decide (kv.1 = k))
  | _, [], _, h => by cases h; rfl
  | _, (_, d) :: ds, k, h => by cases h with | cons a b => simp [List.any_cons, b.any k]
theorem IsT.any : ∀ {xs : List (List Key × V)} {ds : List (List Key × D)} (k : List Key), IsT M K H xs ds → (xs.any fun kv => decide (kv.1 = k)) = (ds.any fun kv => decide (kv.1 = k))
  | _, [], _, h => by cases h; rfl
  | _, (_, d) :: ds, k, h => by cases h with | cons a b => simp [List.any_cons, b.any k]
theorem IsK.mapSet {k : Key} {v : V} {d : D} (hv : Is M K H v d) : ∀ {xs : List (Key × V)} {ds : List (Key × D)}, IsK M K H xs ds → IsK M K H (xs.map fun kv => if kv.1 = k then (kv.1, v) else kv) (ds.map fun kv => if kv.1 = k then (kv.1, d) else kv)
  | _, [], h => by cases h; exact .nil
  | _, (q, d) :: ds, h => by
    cases h with
    | cons a b =>
      simp only [List.map_cons]
      by_cases e : q = k
      · rw [if_pos e, if_pos e]; exact .cons hv (b.mapSet hv)
      · rw [if_neg e, if_neg e]; exact .cons a (b.mapSet hv)
theorem IsT.mapSet {k : List Key} {v : V} {d : D} (hv : Is M K H v d) : ∀ {xs : List (List Key × V)} {ds : List (List Key × D)}, IsT M K H xs ds → IsT M K H (xs.map fun kv => if kv.1 = k then (kv.1, v) else kv) (ds.map fun kv => if kv.1 = k then (kv.1, d) else kv)
  | _, [], h => by cases h; exact .nil
  | _, (q, d) :: ds, h => by
    cases h with
    | cons a b =>
      simp only [List.map_cons]
      by_cases e : q = k
      · rw [if_pos e, if_pos e]; exact .cons hv (b.mapSet hv)
      · rw [if_neg e, if_neg e]; exact .cons a (b.mapSet hv)
theorem IsK.snoc {k : Key} {v : V} {d : D} (hv : Is M K H v d) : ∀ {xs : List (Key × V)} {ds : List (Key × D)}, IsK M K H xs ds → IsK M K H (xs ++ [(k, v)]) (ds ++ [(k, d)])
  | _, [], h => by cases h; exact .cons hv .nil
  | _, (q, d) :: ds, h => by cases h with | cons a b => exact .cons a (b.snoc hv)
theorem IsT.snoc {k : List Key} {v : V} {d : D} (hv : Is M K H v d) : ∀ {xs : List (List Key × V)} {ds : List (List Key × D)}, IsT M K H xs ds → IsT M K H (xs ++ [(k, v)]) (ds ++ [(k, d)])
  | _, [], h => by cases h; exact .cons hv .nil
  | _, (q, d) :: ds, h => by cases h with | cons a b => exact .cons a (b.snoc hv)
theorem IsK.put {xs : List (Key × V)} {ds : List (Key × D)} (k : Key) {v : V} {d : D} (h : IsK M K H xs ds) (hv : Is M K H v d) : IsK M K H (putK xs k v) (putD ds k d) := by
  unfold putK putD
  rw [h.any k]
  split
  · exact h.mapSet hv
  · exact h.snoc hv
theorem IsT.put {xs : List (List Key × V)} {ds : List (List Key × D)} (k : List Key) {v : V} {d : D} (h : IsT M K H xs ds) (hv : Is M K H v d) : IsT M K H (putK xs k v) (putD ds k d) := by
  unfold putK putD
  rw [h.any k]
  split
  · exact h.mapSet hv
  · exact h.snoc hv
theorem IsK.length : ∀ {xs : List (Key × V)} {ds : List (Key × D)}, IsK M K H xs ds → xs.length = ds.length
  | _, [], h => by cases h; rfl
  | _, (_, d) :: ds, h => by cases h with | cons a b => simp [b.length]
theorem IsT.length : ∀ {xs : List (List Key × V)} {ds : List (List Key × D)}, IsT M K H xs ds → xs.length = ds.length
  | _, [], h => by cases h; rfl
  | _, (_, d) :: ds, h => by cases h with | cons a b => simp [b.length]
/-- the store itself -/
theorem good_put {F : AP} {a : Addr} {c c' k d : D} {x v : V} {Q : Hp → Prop} (m : M a) (nf : ¬ F a) (hc : Cont M K H a c) (hk : RD M K H x k) (hv : Is M K H v d) (e : putAt c k d = some c') (q : ∀ o, Cont M K (upd H a o) a c' → Q (upd H a o)) : rSetA (.ref a) x v H Q := by
  have ev : ∀ {o : HO}, Evo F M H M (upd H a o) := evo_mut m nf
  cases c with
  | lst cs =>
    obtain ⟨xs, h1, h2⟩ := hc
    cases k with
    | int i =>
      have e : ((ixN cs.length i).map fun j => D.lst (cs.set j d)) = some c' := e
      cases hj : ixN cs.length i with
      | none => rw [hj] at e; cases e
      | some j =>
        rw [hj] at e; cases e
        rw [hk.int]
        exact .inl ⟨a, xs, i, j, rfl, rfl, h1, by rw [h2.length]; exact hj, q _ ⟨_, upd_same, (h2.set hv j).evo (F := F) ev⟩⟩
    | _ => cases e
  | dK kvs =>
    obtain ⟨xs, h1, h2⟩ := hc
    have e : (if kvs.length < 1000000 then (keyOf k).map fun k => D.dK (putD kvs k d) else none) = some c' := by cases k <;> exact e
    split at e
    · rename_i hl
      cases hj : keyOf k with
      | none => rw [hj] at e; cases e
      | some j =>
        rw [hj] at e; cases e
        rw [hk.key hj]
        have := mil_line
        have := h2.length
        exact .inr ⟨a, _, rfl, DPut.k h1 (by omega), q _ ⟨_, upd_same, (h2.put j hv).evo (F := F) ev⟩⟩
    · cases e
  | dT kvs =>
    obtain ⟨xs, h1, h2⟩ := hc
    have e : (if kvs.length < 1000000 then (keysOf k).map fun k => D.dT (putD kvs k d) else none) = some c' := by cases k <;> exact e
    split at e
    · rename_i hl
      cases hj : keysOf k with
      | none => rw [hj] at e; cases e
      | some j =>
        rw [hj] at e; cases e
        obtain ⟨b, rfl, hb⟩ := hk.keys hj
        have := mil_line
        have := h2.length
        exact .inr ⟨a, _, rfl, DPut.t h1 hb (by omega), q _ ⟨_, upd_same, (h2.put j hv).evo (F := F) ev⟩⟩
    · cases e
  | _ => exact hc.elim
end
section
variable {X : Cx} {b : Expr} {fi : M RV} {pos : Pos}
theorem g_ix (i : Nat) {x : Str} {p : Pos} (hu : X.A.units + 100 < cLine) (hi : PE X b (TEof X.K none fi)) (hN : X.N[i]? = some x := by rfl)
    (hv : Vis X.env.scope x := by first | exact Or.inl rfl | exact Or.inr (Or.inl rfl) | exact Or.inr (Or.inr rfl)) (hd : (x == ("__debug__" : Str)) = false := by decide)
    (hcd : (x == ("__classdict__" : Str)) = false := by decide) (ha : ∀ v, assign (.Subscript (.Name x p) b pos) X.env v = (do
      let ov ← holding [v] (eval (.Name x p) X.env)
      let iv ← holding [v, ov] (eval b X.env)
      standAt pos
      holding [v, ov, iv] (setItem ov iv v)
      release [v, ov, iv] []) := by intro _; rfl) : PG X (.Subscript (.Name x p) b pos) (TGof X.K [] (setX i fi)) := by
  refine PG_weak (pg_sub (pe_var hN hv hd hcd) hi (set_any hu) ha) fun v σ H Q hq => ?_
  obtain ⟨L, F, M, ρ, d, rel, is, post⟩ := hq
  unfold setX at post
  cases hs : ρ[i]? with
  | none => rw [hs] at post; exact post.elim
  | some s =>
    rw [hs] at post
    dsimp only at post
    split at post
    · rename_i m
      obtain ⟨a, d0, e1, e2, e3, c, nf⟩ := rel.mine hs m
      refine ⟨_, e2, L, F, M, ρ, rel, ?_⟩
      cases hf : fi ρ with
      | exc y ρ1 => rw [hf] at post; exact post.elim
      | bad => rw [hf] at post; exact post.elim
      | ok r ρ1 =>
        rw [hf] at post
        intro v1 M1 H1 ev1 l1 q1 n1
        dsimp only at post
        cases hr : r.dat ρ1 with
        | none => rw [hr] at post; exact post.elim
        | some k =>
          cases hs1 : ρ1[i]? with
          | none => rw [hr, hs1] at post; exact post.elim
          | some s1 =>
            rw [hr, hs1] at post
            dsimp only at post
            split at post
            · rename_i so
              cases hd1 : s1.dat with
              | none => rw [hd1] at post; exact post.elim
              | some c1 =>
                rw [hd1] at post
                dsimp only at post
                cases hp : putAt c1 k d with
                | none => rw [hp] at post; exact post.elim
                | some c' =>
                  rw [hp] at post
                  obtain ⟨a1, d1, f1, f2, f3, cc, nf1⟩ := l1.opn hs1 (Slot.open_mine so) (fun d l q => by rw [q] at so; cases so)
                  rw [hd1] at f1; cases f1
                  rw [e2] at f2; cases f2
                  refine good_put (F := F) f3 (fun z => nf1 (adj_sub _ z)) cc (q1.rd l1 hr) (is.evo ev1) hp fun o co => ?_
                  exact post σ M1 _ (ev1.trans (evo_mut f3 fun z => nf1 (adj_sub _ z)) fun _ z => z) ((l1.sub adj_sub).mut hs1 so e2 co) .refl
            · exact post.elim
    · exact post.elim
end

/-! ### {} -/
section
variable {X : Cx} {W : WO} {pos : Pos}
theorem e_dK : PE X (.Dict [] [] pos) (TEof X.K W (ret (.tmp (.dK [])))) := PE_weak pe_dnewK fun σ H Q h => by
  obtain ⟨L, F, M, ρ, rel, post⟩ := h
  exact fun p hp => (resP post rel (fun _ z => z) .refl).dK rel.dom hp
theorem e_dT : PE X (.Dict [] [] pos) (TEof X.K W (ret (.tmp (.dT [])))) := PE_weak pe_dnewT fun σ H Q h => by
  obtain ⟨L, F, M, ρ, rel, post⟩ := h
  exact fun p hp => (resP post rel (fun _ z => z) .refl).dT rel.dom hp
end
end Fd

/-! Fd11: calls of own defs. -/
namespace Fd
open PySem L2

/-- what a def does with what its parameters are bound to -/
abbrev FnS := List Slot → Out RV
def Lof (vs : List V) : Lc := fun i => (vs.map some)[i]?
def noBor : Out RV → Prop
  | .ok (.bor _) _ => False
  | _ => True
def spF (K : PySem.W.Frag) (n : Nat) (G : FnS) : Sp := fun vs H Q _ => vs.length = n ∧ ∃ F M ps, Rel K (Lof vs) F M H ps (vs.map some) ∧ PV K (Lof vs) none (vs.map some) Q F M H (G ps) ∧ noBor (G ps)

/-! ### the def -/
def mask : Slot → Slot
  | .lent d => .lent d
  | .lentF d => .lentF d
  | .lock d l => .lock d l
  | _ => .no
def outP (n : Nat) (ρ : Ev) (r : RV) : Out RV := if n ≤ ρ.length then .ok r ((ρ.take n).map mask) else .bad
def finF (n : Nat) : Out Fl → Out RV
  | .ok .nx ρ => outP n ρ (.val .non)
  | .ok (.rt (.val d)) ρ => outP n ρ (.val d)
  | .ok (.rt (.tmp d)) ρ => outP n ρ (.tmp d)
  | .ok _ _ => .bad
  | .exc x ρ => .exc x ((ρ.take n).map mask)
  | .bad => .bad
def fDef (k : Nat) (body : M Fl) : FnS := fun ps => finF ps.length (body (ps ++ List.replicate k .no))
theorem mask_r {K : PySem.W.Frag} {M : AP} {H : Hp} {o : Option V} {s : Slot} (h : SlotR M K H o s) : SlotR M K H o (mask s) := by
  cases s <;> first | exact h | trivial
theorem mask_lent {s : Slot} : (mask s).isLent = true → s.isLent = true := by cases s <;> first | exact id | exact fun z => nomatch z
theorem mask_mine {s : Slot} : (mask s).mine = true → s.mine = true ∧ (mask s).isLent = true := by cases s <;> first | exact fun _ => ⟨rfl, rfl⟩ | exact fun z => nomatch z
section
variable {K : PySem.W.Frag} {F M : AP} {H : Hp} {vs : List V} {ps : List Slot}
theorem rel_start {N : List Str} {L : Lc} (h : Rel K L F M H ps (vs.map some)) : Rel K L F M H (ps ++ List.replicate (N.length - vs.length) .no) (L2.start N vs) := by
  have hl : ps.length = (vs.map some).length := h.len
  have at' : ∀ (i : Nat) s, (ps ++ List.replicate (N.length - vs.length) Slot.no)[i]? = some s → (ps[i]? = some s ∧ (L2.start N vs)[i]? = (vs.map some)[i]?) ∨ s = .no := fun i s q => by
    by_cases hi : i < ps.length
    · rw [List.getElem?_append_left hi] at q
      exact .inl ⟨q, by unfold L2.start; rw [List.getElem?_append_left (by omega)]⟩
    · rw [List.getElem?_append_right (by omega)] at q
      obtain ⟨_, q⟩ := List.getElem?_eq_some_iff.mp q
      rw [List.getElem_replicate] at q
      exact .inr q.symm
  refine ⟨by unfold L2.start; simp [h.len], fun i s q => ?_, fun i j s t a q1 q2 m1 m2 z1 z2 => ?_, fun i s a q m z => ?_, fun i s q m => ?_, h.dom, h.fd⟩
  · rcases at' i s q with ⟨q, e⟩ | rfl
    · rw [e]; exact h.slot i s q
    · trivial
  · rcases at' i s q1 with ⟨q1, e1⟩ | rfl
    · rcases at' j t q2 with ⟨q2, e2⟩ | rfl
      · rw [e1] at z1; rw [e2] at z2; exact h.inj i j s t a q1 q2 m1 m2 z1 z2
      · cases m2
    · cases m1
  · rcases at' i s q with ⟨q, e⟩ | rfl
    · rw [e] at z; exact h.apart i s a q m z
    · cases m
  · rcases at' i s q with ⟨q, e⟩ | rfl
    · rw [e]; exact h.lent i s q m
    · cases m
theorem rel_stop {n : Nat} {ρ : Ev} {σ : St} (hl : vs.length = n) (hn : n ≤ ρ.length) (h : Rel K (Lof vs) F M H ρ σ) : Rel K (Lof vs) F M H ((ρ.take n).map mask) (vs.map some) := by
  have at' : ∀ (i : Nat) s, ((ρ.take n).map mask)[i]? = some s → ∃ t, ρ[i]? = some t ∧ s = mask t ∧ (s.isLent = true → σ[i]? = (vs.map some)[i]?) := fun i s q => by
    rw [List.getElem?_map] at q
    by_cases hi : i < n
    · rw [List.getElem?_take_of_lt hi] at q
      cases e : ρ[i]? with
      | none => rw [e] at q; cases q
      | some t =>
        rw [e] at q; cases q
        exact ⟨t, rfl, rfl, fun m => h.lent i t e (mask_lent m)⟩
    · rw [List.getElem?_take_eq_none (by omega)] at q; cases q
  refine ⟨by simp [hl]; omega, fun i s q => ?_, fun i j s t a q1 q2 m1 m2 z1 z2 => ?_, fun i s a q m z => ?_, fun i s q m => rfl, h.dom, h.fd⟩
  · obtain ⟨t, e, rfl, z⟩ := at' i s q
    have z0 := mask_r (h.slot i t e)
    by_cases m : (mask t).isLent = true
    · rw [← z m]; exact z0
    · have : mask t = .no := by cases t <;> first | rfl | exact absurd rfl m
      rw [this]; trivial
  · obtain ⟨s', e1, rfl, l1⟩ := at' i s q1
    obtain ⟨t', e2, rfl, l2⟩ := at' j t q2
    exact h.inj i j s' t' a e1 e2 (mask_mine m1).1 (mask_mine m2).1 ((l1 (mask_mine m1).2).trans z1) ((l2 (mask_mine m2).2).trans z2)
  · obtain ⟨s', e1, rfl, l1⟩ := at' i s q
    exact h.apart i s' a e1 (mask_mine m).1 ((l1 (mask_mine m).2).trans z)
theorem PV.outP {n : Nat} {L : Lc} {W : WO} {σ : St} {Q : VK} {ρ : Ev} {r : RV} (p : PV K L W σ Q F M H (outP n ρ r)) : n ≤ ρ.length ∧ PV K L W σ Q F M H (.ok r ((ρ.take n).map mask)) := by
  unfold Fd.outP at p
  split at p
  · rename_i h; exact ⟨h, p⟩
  · exact p.elim
theorem t_def {n : Nat} {N : List Str} {k : Nat} {body : Fd.M Fl} {Q : VK} {E : XK} (hk : N.length = n + k) (h : spF K n (fDef k body) vs H Q E) : TSof K none body { nx := fun _ H' => Q .non H', rt := Q } (L2.start N vs) H := by
  obtain ⟨hl, F, M, ps, rel, post, nb⟩ := h
  have e : N.length - vs.length = k := by omega
  have rs := rel_start (N := N) rel
  rw [e] at rs
  refine ⟨Lof vs, F, M, _, rs, ?_⟩
  have hlen : ps.length = n := by rw [rel.len, List.length_map, hl]
  unfold fDef at post
  rw [hlen] at post
  cases hb : body (ps ++ List.replicate k .no) with
  | bad => rw [hb] at post; exact post.elim
  | exc x ρ => rw [hb] at post; exact post.elim
  | ok fl ρ =>
    rw [hb] at post
    cases fl with
    | nx =>
      obtain ⟨hn, post⟩ := PV.outP post
      exact fun σ' M' H' ev r => post .non M' H' ev (rel_stop hl hn r) Is.non trivial
    | bk => exact post.elim
    | ct => exact post.elim
    | rt r =>
      cases r with
      | val d =>
        obtain ⟨hn, post⟩ := PV.outP post
        exact fun v σ' M' H' ev r rv nf => post v M' H' ev (rel_stop hl hn r) rv nf
      | tmp d =>
        obtain ⟨hn, post⟩ := PV.outP post
        exact fun v σ' M' H' ev r rv nf => post v M' H' ev (rel_stop hl hn r) rv nf
      | bor i => exact post.elim
end
/-- a def keeps its promise -/
theorem fn_ok {P : Program} {w : World} {K : PySem.W.Frag} {mg : Str → Option Value} {base : Heap} {x qual : Str} {params : Arguments} {body : List Stmt} {scope : Scope} {dvs : List V} {kws : List (Str × V)} {f : Addr} {fd : FuncData} {N ps : List Str} {k j : Nat} {fb : M Fl}
    (F : FunD K x qual params body scope dvs kws f fd) (S : FnScope N ps scope) (hj : N.length = ps.length + j)
    (hbody : ∀ (cdv : Value) (A : Around) (outer : List Env) (s : Shared) (H : Hp) (E : XK), Room k (A.deeper (PyProof.Rows.envOfC qual scope s.heap.objs.size f cdv)) → PSs (cxOf CX0 P w K mg base N qual scope f cdv A outer s H E).nox body (TSof K none fb)) :
    FnOk P w K mg base CX0 (k + 1) f fd ps (spF K ps.length (fDef j fb)) :=
  F.ok S (fun vs H Q E h => h.1) fun cdv A outer s H vs Q E hr h => ⟨_, (hbody cdv A outer s H E hr).nox, t_def hj h⟩

/-! ### the call -/
def argS (ρ : Ev) : RV → Option Slot
  | .val d => some (.val d)
  | .tmp d => some (.own d)
  | .bor i => match ρ[i]? with
    | some (.own d) => some (.lent d)
    | some (.lent d) => some (.lent d)
    | some (.val d) => some (.val d)
    | some (.lentF d) => some (.val d)
    | some (.lock d _) => some (.lock d true)
    | _ => none
def argsOf (ρ : Ev) : List RV → Option (List Slot)
  | [] => some []
  | r :: rs => (argS ρ r).bind fun s => (argsOf ρ rs).map fun ss => s :: ss
def bors : List RV → List Nat
  | [] => []
  | .bor i :: rs => i :: bors rs
  | _ :: rs => bors rs
def wb : Slot → Slot → Slot
  | .own _, .lent d => .own d
  | .own _, .lentF d => .val d
  | .lent _, .lent d => .lent d
  | .lent _, .lentF d => .lentF d
  | .lock _ l, .lock d _ => .lock d l
  | .val d, _ => .val d
  | .lentF d, _ => .lentF d
  | _, _ => .no
def wbs : List RV → List Slot → Ev → Ev
  | .bor i :: rs, s :: ss, ρ => (match ρ[i]? with
    | some s0 => wbs rs ss (ρ.set i (wb s0 s))
    | none => wbs rs ss ρ)
  | _ :: rs, _ :: ss, ρ => wbs rs ss ρ
  | _, _, ρ => ρ
def finC (rs : List RV) (ρ : Ev) (n : Nat) : Out RV → Out RV
  | .ok (.bor _) _ => .bad
  | .ok r ss => if ss.length = n then .ok r (wbs rs ss ρ) else .bad
  | _ => .bad
def callR (G : FnS) (rs : List RV) : M RV := fun ρ => if (bors rs).Nodup then (match argsOf ρ rs with
  | some ss => finC rs ρ rs.length (G ss)
  | none => .bad) else .bad
def callF (G : FnS) (fs : M (List RV)) : M RV := bnd fs (callR G)

theorem bors_mem : ∀ {rs : List RV} {i : Nat}, i ∈ bors rs ↔ ∃ p : Nat, rs[p]? = some (RV.bor i)
  | [], i => by simp [bors]
  | r :: rs, i => by
    have ih := bors_mem (rs := rs) (i := i)
    cases r with
    | bor j =>
      simp only [bors, List.mem_cons, ih]
      constructor
      · rintro (rfl | ⟨p, h⟩)
        · exact ⟨0, rfl⟩
        · exact ⟨p + 1, by simpa using h⟩
      · rintro ⟨p, h⟩
        cases p with
        | zero => simp at h; exact .inl h.symm
        | succ p => exact .inr ⟨p, by simpa using h⟩
    | val d =>
      simp only [bors, ih]
      constructor
      · rintro ⟨p, h⟩; exact ⟨p + 1, by simpa using h⟩
      · rintro ⟨p, h⟩
        cases p with
        | zero => simp at h
        | succ p => exact ⟨p, by simpa using h⟩
    | tmp d =>
      simp only [bors, ih]
      constructor
      · rintro ⟨p, h⟩; exact ⟨p + 1, by simpa using h⟩
      · rintro ⟨p, h⟩
        cases p with
        | zero => simp at h
        | succ p => exact ⟨p, by simpa using h⟩
theorem bors_at : ∀ {rs : List RV} {i p q : Nat}, (bors rs).Nodup → rs[p]? = some (.bor i) → rs[q]? = some (.bor i) → p = q
  | [], i, p, q, _, h, _ => by simp at h
  | r :: rs, i, p, q, nd, h1, h2 => by
    have ndr : (bors rs).Nodup := by
      cases r with
      | bor j => exact (List.nodup_cons.mp nd).2
      | val d => exact nd
      | tmp d => exact nd
    cases p with
    | zero =>
      cases q with
      | zero => rfl
      | succ q =>
        simp at h1; subst h1
        exact absurd (bors_mem.mpr ⟨q, by simpa using h2⟩) (List.nodup_cons.mp nd).1
    | succ p =>
      cases q with
      | zero =>
        simp at h2; subst h2
        exact absurd (bors_mem.mpr ⟨p, by simpa using h1⟩) (List.nodup_cons.mp nd).1
      | succ q => rw [bors_at ndr (p := p) (q := q) (by simpa using h1) (by simpa using h2)]
theorem wbs_length : ∀ (rs : List RV) (ss : List Slot) (ρ : Ev), (wbs rs ss ρ).length = ρ.length
  | [], ss, ρ => by cases ss <;> rfl
  | .bor i :: rs, [], ρ => rfl
  | .val d :: rs, [], ρ => rfl
  | .tmp d :: rs, [], ρ => rfl
  | .bor i :: rs, s :: ss, ρ => by
    unfold wbs
    split
    · rw [wbs_length rs ss]; simp
    · exact wbs_length rs ss ρ
  | .val d :: rs, s :: ss, ρ => by unfold wbs; exact wbs_length rs ss ρ
  | .tmp d :: rs, s :: ss, ρ => by unfold wbs; exact wbs_length rs ss ρ
theorem wbs_get : ∀ {rs : List RV} {ss : List Slot} {ρ : Ev} {j : Nat} {t : Slot}, (bors rs).Nodup → ss.length = rs.length → (wbs rs ss ρ)[j]? = some t → ∃ s, ρ[j]? = some s ∧ ((j ∉ bors rs ∧ t = s) ∨ ∃ (p : Nat) (s' : Slot), rs[p]? = some (.bor j) ∧ ss[p]? = some s' ∧ t = wb s s')
  | [], ss, ρ, j, t, _, _, h => ⟨t, by cases ss <;> exact h, .inl ⟨by simp [bors], rfl⟩⟩
  | r :: rs, [], ρ, j, t, _, hl, h => by simp at hl
  | .val d :: rs, s :: ss, ρ, j, t, nd, hl, h => by
    unfold wbs at h
    obtain ⟨s0, h1, h2⟩ := wbs_get (rs := rs) nd (by simpa using hl) h
    refine ⟨s0, h1, h2.imp id ?_⟩
    rintro ⟨p, s', a, b, c⟩
    exact ⟨p + 1, s', by simpa using a, by simpa using b, c⟩
  | .tmp d :: rs, s :: ss, ρ, j, t, nd, hl, h => by
    unfold wbs at h
    obtain ⟨s0, h1, h2⟩ := wbs_get (rs := rs) nd (by simpa using hl) h
    refine ⟨s0, h1, h2.imp id ?_⟩
    rintro ⟨p, s', a, b, c⟩
    exact ⟨p + 1, s', by simpa using a, by simpa using b, c⟩
  | .bor i :: rs, s :: ss, ρ, j, t, nd, hl, h => by
    unfold wbs at h
    have nd' := List.nodup_cons.mp nd
    cases e : ρ[i]? with
    | none =>
      rw [e] at h
      obtain ⟨s0, h1, h2⟩ := wbs_get (rs := rs) nd'.2 (by simpa using hl) h
      refine ⟨s0, h1, ?_⟩
      rcases h2 with ⟨a, b⟩ | ⟨p, s', a, b, c⟩
      · refine .inl ⟨fun z => ?_, b⟩
        rcases List.mem_cons.mp (show j ∈ i :: bors rs from z) with rfl | z
        · rw [e] at h1; cases h1
        · exact a z
      · exact .inr ⟨p + 1, s', by simpa using a, by simpa using b, c⟩
    | some s0 =>
      rw [e] at h
      obtain ⟨s1, h1, h2⟩ := wbs_get (rs := rs) nd'.2 (by simpa using hl) h
      rcases get_set h1 with ⟨rfl, rfl, _⟩ | ⟨ne, h1⟩
      · refine ⟨s0, e, .inr ⟨0, s, rfl, rfl, ?_⟩⟩
        rcases h2 with ⟨a, b⟩ | ⟨p, s', a, b, c⟩
        · exact b
        · exact absurd (bors_mem.mpr ⟨p, a⟩) nd'.1
      · refine ⟨s1, h1, ?_⟩
        rcases h2 with ⟨a, b⟩ | ⟨p, s', a, b, c⟩
        · refine .inl ⟨fun z => ?_, b⟩
          rcases List.mem_cons.mp (show j ∈ i :: bors rs from z) with rfl | z
          · exact ne rfl
          · exact a z
        · exact .inr ⟨p + 1, s', by simpa using a, by simpa using b, c⟩
theorem argsOf_get : ∀ {ρ : Ev} {rs : List RV} {ss : List Slot}, argsOf ρ rs = some ss → ss.length = rs.length ∧ ∀ (p : Nat) (s : Slot), ss[p]? = some s → ∃ r, rs[p]? = some r ∧ argS ρ r = some s
  | ρ, [], ss, h => by cases h; exact ⟨rfl, fun p s z => by simp at z⟩
  | ρ, r :: rs, ss, h => by
    unfold argsOf at h
    cases e : argS ρ r with
    | none => rw [e] at h; cases h
    | some s0 =>
      rw [e] at h
      cases e2 : argsOf ρ rs with
      | none => rw [e2] at h; cases h
      | some ss0 =>
        rw [e2] at h; cases h
        obtain ⟨h1, h2⟩ := argsOf_get e2
        refine ⟨by simp [h1], fun p s z => ?_⟩
        cases p with
        | zero => simp at z; subst z; exact ⟨r, rfl, e⟩
        | succ p => obtain ⟨r', a, b⟩ := h2 p s (by simpa using z); exact ⟨r', by simpa using a, b⟩

/-- the arguments of a call, in any order -/
structure Args (K : PySem.W.Frag) (L : Lc) (F M : AP) (H : Hp) (ρ : Ev) (σ : St) (rs : List RV) (vs : List V) : Prop where
  rel : Rel K L F M H ρ σ
  len : vs.length = rs.length
  rv : ∀ (p : Nat) r v, rs[p]? = some r → vs[p]? = some v → RVR K M H σ v r
  tF : ∀ (p : Nat) d a, rs[p]? = some (.tmp d) → vs[p]? = some (.ref a) → ¬ F a
  tS : ∀ (p : Nat) d a, rs[p]? = some (.tmp d) → vs[p]? = some (.ref a) → ∀ (j : Nat) s, ρ[j]? = some s → s.mine = true → σ[j]? ≠ some (some (.ref a))
  tD : ∀ (p q : Nat) d d' a, rs[p]? = some (.tmp d) → rs[q]? = some (.tmp d') → vs[p]? = some (.ref a) → vs[q]? = some (.ref a) → p = q
section
variable {K : PySem.W.Frag} {L : Lc} {F M : AP} {H : Hp} {ρ : Ev} {σ : St} {rs : List RV} {vs : List V}
theorem RVRs.len : ∀ {vs : List V} {rs : List RV}, RVRs K M H σ vs rs → vs.length = rs.length
  | [], [], _ => rfl
  | [], _ :: _, h => h.elim
  | _ :: _, [], h => h.elim
  | v :: vs, r :: rs, h => by simp [RVRs.len h.2]
theorem RVRs.get : ∀ {vs : List V} {rs : List RV}, RVRs K M H σ vs rs → ∀ (p : Nat) r v, rs[p]? = some r → vs[p]? = some v → RVR K M H σ v r
  | [], [], _, _, _, _, h, _ => by simp at h
  | [], _ :: _, h, _, _, _, _, _ => h.elim
  | _ :: _, [], h, _, _, _, _, _ => h.elim
  | v :: vs, r :: rs, h, 0, _, _, h1, h2 => by simp at h1 h2; subst h1; subst h2; exact h.1
  | v :: vs, r :: rs, h, p + 1, _, _, h1, h2 => RVRs.get h.2 p _ _ (by simpa using h1) (by simpa using h2)
theorem adjs_tmp : ∀ {F : AP} {vs : List V} {rs : List RV} (p : Nat) (d : D) (a : Addr), rs[p]? = some (.tmp d) → vs[p]? = some (.ref a) → adjs F vs rs a
  | _, [], _, _, _, _, _, h => by simp at h
  | _, _ :: _, [], _, _, _, h, _ => by simp at h
  | F, v :: vs, r :: rs, 0, d, a, h1, h2 => by
    simp at h1 h2; subst h1; subst h2
    exact adjs_sub vs rs a (.inr rfl)
  | F, v :: vs, r :: rs, p + 1, d, a, h1, h2 => adjs_tmp (F := adj F v r) (vs := vs) (rs := rs) p d a (by simpa using h1) (by simpa using h2)
theorem notFs_F : ∀ {F : AP} {vs : List V} {rs : List RV}, NotFs F vs rs → ∀ (p : Nat) (d : D) (a : Addr), rs[p]? = some (.tmp d) → vs[p]? = some (.ref a) → ¬ F a
  | _, [], _, _, _, _, _, _, h => by simp at h
  | _, _ :: _, [], _, _, _, _, h, _ => by simp at h
  | F, v :: vs, r :: rs, n, 0, d, a, h1, h2 => by simp at h1 h2; subst h1; subst h2; exact n.1 a rfl
  | F, v :: vs, r :: rs, n, p + 1, d, a, h1, h2 => fun f => notFs_F n.2 p d a (by simpa using h1) (by simpa using h2) (adj_sub a f)
theorem notFs_D : ∀ {F : AP} {vs : List V} {rs : List RV}, NotFs F vs rs → ∀ (p q : Nat) (d d' : D) (a : Addr), rs[p]? = some (.tmp d) → rs[q]? = some (.tmp d') → vs[p]? = some (.ref a) → vs[q]? = some (.ref a) → p = q
  | _, [], _, _, _, _, _, _, _, _, _, h, _ => by simp at h
  | _, _ :: _, [], _, _, _, _, _, _, h, _, _, _ => by simp at h
  | F, v :: vs, r :: rs, n, 0, 0, d, d', a, _, _, _, _ => rfl
  | F, v :: vs, r :: rs, n, 0, q + 1, d, d', a, h1, h2, h3, h4 => by
    simp at h1 h3; subst h1; subst h3
    exact absurd (.inr rfl) (notFs_F n.2 q d' a (by simpa using h2) (by simpa using h4))
  | F, v :: vs, r :: rs, n, p + 1, 0, d, d', a, h1, h2, h3, h4 => by
    simp at h2 h4; subst h2; subst h4
    exact absurd (.inr rfl) (notFs_F n.2 p d a (by simpa using h1) (by simpa using h3))
  | F, v :: vs, r :: rs, n, p + 1, q + 1, d, d', a, h1, h2, h3, h4 => by rw [notFs_D n.2 p q d d' a (by simpa using h1) (by simpa using h2) (by simpa using h3) (by simpa using h4)]
theorem args_of (rel : Rel K L (adjs F vs rs) M H ρ σ) (rv : RVRs K M H σ vs rs) (nf : NotFs F vs rs) : Args K L F M H ρ σ rs vs :=
  ⟨rel.sub (adjs_sub _ _), rv.len, rv.get, notFs_F nf, fun p d a h1 h2 j s q m z => rel.apart j s a q m z (adjs_tmp p d a h1 h2), notFs_D nf⟩
/-- what the callee must leave alone -/
def Fcal (F : AP) (ρ : Ev) (σ : St) (rs : List RV) : AP := fun b => F b ∨ ∃ (j : Nat) (s : Slot), ρ[j]? = some s ∧ s.mine = true ∧ j ∉ bors rs ∧ σ[j]? = some (some (.ref b))
/-- a parameter's slot that is held alone: from a new thing or from a slot -/
theorem arg_mine {r : RV} {s : Slot} (e : argS ρ r = some s) (m : s.mine = true) : (∃ d, r = .tmp d) ∨ ∃ i t, r = .bor i ∧ ρ[i]? = some t ∧ t.mine = true := by
  cases r with
  | val d => cases e; cases m
  | tmp d => exact .inl ⟨d, rfl⟩
  | bor i =>
    right
    unfold argS at e
    dsimp only at e
    cases h : ρ[i]? with
    | none => rw [h] at e; cases e
    | some t =>
      rw [h] at e
      cases t with
      | no => cases e
      | val d => cases e; cases m
      | lentF d => cases e; cases m
      | own d => exact ⟨i, _, rfl, h, rfl⟩
      | lent d => exact ⟨i, _, rfl, h, rfl⟩
      | lock d l => exact ⟨i, _, rfl, h, rfl⟩
theorem arg_slot {r : RV} {s : Slot} {v : V} (rel : Rel K L F M H ρ σ) (e : argS ρ r = some s) (q : RVR K M H σ v r) : SlotR M K H (some v) s := by
  cases r with
  | val d => cases e; exact ⟨v, rfl, q⟩
  | tmp d => cases e; obtain ⟨a, rfl, m, c⟩ := q; exact ⟨a, rfl, m, c⟩
  | bor i =>
    unfold argS at e
    dsimp only at e
    cases h : ρ[i]? with
    | none => rw [h] at e; cases e
    | some t =>
      rw [h] at e
      have z := rel.slot i t h
      have q' : σ[i]? = some (some v) := q
      rw [q'] at z
      cases t with
      | no => cases e
      | val d => cases e; exact z
      | lentF d => cases e; exact z
      | own d => cases e; exact z
      | lent d => cases e; exact z
      | lock d l => cases e; exact z
theorem Args.start (A : Args K L F M H ρ σ rs vs) (nd : (bors rs).Nodup) {ss : List Slot} (e : argsOf ρ rs = some ss) : Rel K (Lof vs) (Fcal F ρ σ rs) M H ss (vs.map some) := by
  obtain ⟨hl, hg⟩ := argsOf_get e
  have val : ∀ {i : Nat} {a : Addr}, (vs.map some)[i]? = some (some (.ref a)) → vs[i]? = some (.ref a) := fun z => by
    rw [List.getElem?_map] at z
    obtain ⟨x, h1, h2⟩ := Option.map_eq_some_iff.mp z
    cases h2; exact h1
  have who : ∀ (p : Nat) (s : Slot) (a : Addr), ss[p]? = some s → s.mine = true → vs[p]? = some (.ref a) → (∃ d, rs[p]? = some (.tmp d)) ∨ ∃ i t, rs[p]? = some (.bor i) ∧ ρ[i]? = some t ∧ t.mine = true ∧ σ[i]? = some (some (.ref a)) := fun p s a q m z => by
    obtain ⟨r, h1, h2⟩ := hg p s q
    rcases arg_mine h2 m with ⟨d, rfl⟩ | ⟨i, t, rfl, h3, h4⟩
    · exact .inl ⟨d, h1⟩
    · exact .inr ⟨i, t, h1, h3, h4, A.rv p _ _ h1 z⟩
  refine ⟨by simp [hl, A.len], fun p s q => ?_, fun p q s t a q1 q2 m1 m2 z1 z2 => ?_, fun p s a q m z f => ?_, fun p s q m => rfl, A.rel.dom, fun a f => ?_⟩
  · obtain ⟨r, h1, h2⟩ := hg p s q
    have hp : p < vs.length := by rw [A.len]; exact (List.getElem?_eq_some_iff.mp h1).1
    have hv : vs[p]? = some vs[p] := List.getElem?_eq_getElem hp
    rw [List.getElem?_map, hv]
    exact arg_slot A.rel h2 (A.rv p r _ h1 hv)
  · rcases who p s a q1 m1 (val z1) with ⟨d, h1⟩ | ⟨i, t1, h1, h2, h3, h4⟩
    · rcases who q t a q2 m2 (val z2) with ⟨d', g1⟩ | ⟨j, t2, g1, g2, g3, g4⟩
      · exact A.tD p q d d' a h1 g1 (val z1) (val z2)
      · exact absurd g4 (A.tS p d a h1 (val z1) j t2 g2 g3)
    · rcases who q t a q2 m2 (val z2) with ⟨d', g1⟩ | ⟨j, t2, g1, g2, g3, g4⟩
      · exact absurd h4 (A.tS q d' a g1 (val z2) i t1 h2 h3)
      · have e := A.rel.inj i j t1 t2 a h2 g2 h3 g3 h4 g4
        subst e
        exact bors_at nd h1 g1
  · rcases who p s a q m (val z) with ⟨d, h1⟩ | ⟨i, t1, h1, h2, h3, h4⟩
    · rcases f with f | ⟨j, t, f1, f2, f3, f4⟩
      · exact A.tF p d a h1 (val z) f
      · exact absurd f4 (A.tS p d a h1 (val z) j t f1 f2)
    · rcases f with f | ⟨j, t, f1, f2, f3, f4⟩
      · exact A.rel.apart i t1 a h2 h3 h4 f
      · have e := A.rel.inj i j t1 t a h2 f1 h3 f2 h4 f4
        subst e
        exact f3 (bors_mem.mpr ⟨p, h1⟩)
  · rcases f with f | ⟨j, t, f1, f2, f3, f4⟩
    · exact A.rel.fd a f
    · obtain ⟨b, d, _, e2, e3, _⟩ := A.rel.mine f1 f2
      rw [e2] at f4; cases f4; exact e3
theorem wb_mine {s s' : Slot} (h : (wb s s').mine = true) : s.mine = true ∧ s'.mine = true := by
  cases s <;> cases s' <;> first | exact ⟨rfl, rfl⟩ | exact nomatch h
theorem wb_lent {s s' : Slot} (h : (wb s s').isLent = true) : s.isLent = true := by
  cases s <;> cases s' <;> first | rfl | exact nomatch h
theorem wb_r {M' : AP} {H' : Hp} {o : Option V} {s s' : Slot} (h : SlotR M' K H' o s') (v : s.mine = false → SlotR M' K H' o s) : SlotR M' K H' o (wb s s') := by
  cases s <;> cases s' <;> first | trivial | exact h | exact v rfl
theorem Args.stop (A : Args K L F M H ρ σ rs vs) (nd : (bors rs).Nodup) {ss' : List Slot} (hl : ss'.length = rs.length) {M' : AP} {H' : Hp} {v : V} {r : RV} (ev : Evo (Fcal F ρ σ rs) M H M' H') (rl : Rel K (Lof vs) (adj (Fcal F ρ σ rs) v r) M' H' ss' (vs.map some)) (nf : NotF (Fcal F ρ σ rs) v r) :
    Rel K L (adj F v r) M' H' (wbs rs ss' ρ) σ := by
  have sb : ∀ x, F x → Fcal F ρ σ rs x := fun _ z => .inl z
  -- slot j ahead of the call, not lent out
  have own : ∀ (j : Nat) (s : Slot) (a : Addr), ρ[j]? = some s → s.mine = true → j ∉ bors rs → σ[j]? = some (some (.ref a)) → Fcal F ρ σ rs a := fun j s a h1 h2 h3 h4 => .inr ⟨j, s, h1, h2, h3, h4⟩
  have mem : ∀ (j : Nat) (a : Addr) (s : Slot), ρ[j]? = some s → s.mine = true → σ[j]? = some (some (.ref a)) → M a := fun j a s h1 h2 h3 => by
    obtain ⟨b, d, _, e2, e3, _⟩ := A.rel.mine h1 h2
    rw [e2] at h3; cases h3; exact e3
  have pv : ∀ (p j : Nat) (s' : Slot), rs[p]? = some (.bor j) → ss'[p]? = some s' → ∃ v, vs[p]? = some v ∧ σ[j]? = some (some v) := fun p j s' h1 h2 => by
    have hp : p < vs.length := by rw [A.len]; exact (List.getElem?_eq_some_iff.mp h1).1
    have hv : vs[p]? = some vs[p] := List.getElem?_eq_getElem hp
    exact ⟨_, hv, A.rv p _ _ h1 hv⟩
  refine ⟨by rw [wbs_length]; exact A.rel.len, fun j t q => ?_, fun i j s t a q1 q2 m1 m2 z1 z2 => ?_, fun j t a q m z => ?_, fun j t q m => ?_, rl.dom, fun a f => ?_⟩
  · obtain ⟨s, h1, h2⟩ := wbs_get nd hl q
    have keep : (s.mine = true → ∀ a, σ[j]? = some (some (.ref a)) → H' a = H a ∧ M' a) → SlotR M' K H' (σ[j]?.join) s := fun k => (A.rel.slot j s h1).evo ev fun a m z => k m a (join_some z)
    rcases h2 with ⟨h2, rfl⟩ | ⟨p, s', g1, g2, rfl⟩
    · exact keep fun m a z => ev.ow a (own j _ a h1 m h2 z) (mem j a _ h1 m z)
    · obtain ⟨u, g3, g4⟩ := pv p j s' g1 g2
      have z := rl.slot p s' g2
      rw [List.getElem?_map, g3] at z
      have e : σ[j]?.join = some u := by rw [g4]; rfl
      rw [e] at keep ⊢
      exact wb_r z fun nm => keep fun m => by rw [nm] at m; cases m
  · obtain ⟨s0, h1, h2⟩ := wbs_get nd hl q1
    obtain ⟨t0, g1, g2⟩ := wbs_get nd hl q2
    have ms : s0.mine = true := by
      rcases h2 with ⟨_, rfl⟩ | ⟨p, s', _, _, rfl⟩
      · exact m1
      · exact (wb_mine m1).1
    have mt : t0.mine = true := by
      rcases g2 with ⟨_, rfl⟩ | ⟨p, s', _, _, rfl⟩
      · exact m2
      · exact (wb_mine m2).1
    exact A.rel.inj i j s0 t0 a h1 g1 ms mt z1 z2
  · obtain ⟨s0, h1, h2⟩ := wbs_get nd hl q
    have ms : s0.mine = true := by
      rcases h2 with ⟨_, rfl⟩ | ⟨p, s', _, _, rfl⟩
      · exact m
      · exact (wb_mine m).1
    have nF := A.rel.apart j s0 a h1 ms z
    have nv : ∀ d, r = .tmp d → v ≠ .ref a := by
      rintro d rfl e
      rcases h2 with ⟨h2, rfl⟩ | ⟨p, s', g1, g2, rfl⟩
      · exact nf a e (own j _ a h1 ms h2 z)
      · obtain ⟨u, g3, g4⟩ := pv p j s' g1 g2
        rw [g4] at z; cases z
        exact rl.apart p s' a g2 (wb_mine m).2 (by rw [List.getElem?_map, g3]; rfl) (.inr e)
    cases r with
    | val d => exact nF
    | bor d => exact nF
    | tmp d => exact fun f => f.elim nF (nv d rfl)
  · obtain ⟨s0, h1, h2⟩ := wbs_get nd hl q
    have ls : s0.isLent = true := by
      rcases h2 with ⟨_, rfl⟩ | ⟨p, s', _, _, rfl⟩
      · exact m
      · exact wb_lent m
    exact A.rel.lent j s0 h1 ls
  · exact rl.fd a (adj_mono sb a f)
theorem t_call {W : WO} {G : FnS} {n : Nat} {Q : VK} {E : XK} (hn : rs.length = n) (A : Args K L F M H ρ σ rs vs) (post : PV K L W σ Q F M H (callR G rs ρ)) : spF K n G vs H Q E := by
  unfold callR at post
  split at post
  · rename_i nd
    cases e : argsOf ρ rs with
    | none => rw [e] at post; exact post.elim
    | some ss =>
      rw [e] at post
      dsimp only at post
      refine ⟨A.len.trans hn, Fcal F ρ σ rs, M, ss, A.start nd e, ?_⟩
      cases hG : G ss with
      | bad => rw [hG] at post; exact post.elim
      | exc x ss' => rw [hG] at post; exact post.elim
      | ok r ss' =>
        rw [hG] at post
        cases r with
        | bor i => exact post.elim
        | val d =>
          have post : PV K L W σ Q F M H (if ss'.length = rs.length then .ok (.val d) (wbs rs ss' ρ) else .bad) := post
          split at post
          · rename_i hl
            exact ⟨fun v M' H' ev rl rv nf => post v M' H' (ev.weak fun _ z => .inl z) (A.stop nd hl ev rl nf) rv trivial, trivial⟩
          · exact post.elim
        | tmp d =>
          have post : PV K L W σ Q F M H (if ss'.length = rs.length then .ok (.tmp d) (wbs rs ss' ρ) else .bad) := post
          split at post
          · rename_i hl
            exact ⟨fun v M' H' ev rl rv nf => post v M' H' (ev.weak fun _ z => .inl z) (A.stop nd hl ev rl nf) rv (nf.mono fun _ z => .inl z), trivial⟩
          · exact post.elim
  · exact post.elim
end
/-! rules -/
/-- how many arguments: told by the reading -/
def lenA (n : Nat) (fs : M (List RV)) : M (List RV) := bnd fs fun rs => if rs.length = n then ret rs else fail
section
variable {X : Cx} {W : WO} {k n : Nat} {f : Addr} {fd : FuncData} {ps : List Str} {G : FnS} {x : Str} {p pos : Pos} {e : Expr} {es : List Expr} {fs : M (List RV)}
theorem t_callF {K : PySem.W.Frag} {σ : St} {H : Hp} {Q : VK} (h : TEof K W (callF G (lenA n fs)) σ H Q) : tCall (spF K n G) [] E0 (TAof K W fs) σ H Q := by
  obtain ⟨L, F, M, ρ, rel, post⟩ := h
  have post : PV K L W σ Q F M H (bnd fs (fun rs => bnd (if rs.length = n then ret rs else fail) (callR G)) ρ) := by
    have e : callF G (lenA n fs) ρ = bnd fs (fun rs => bnd (if rs.length = n then ret rs else fail) (callR G)) ρ := by
      unfold callF lenA bnd
      cases fs ρ <;> rfl
    rw [← e]; exact post
  refine seqL (PV K L W σ Q F M H) (fun _ _ z => z) id rel post fun rs ρ1 p1 vs M1 H1 ev1 l1 q1 n1 => ?_
  rw [List.append_nil]
  unfold bnd at p1
  split at p1
  · rename_i hn
    exact t_call hn (args_of l1 q1 n1) (PV.reb p1 ev1 fun _ z => z)
  · exact p1.elim
theorem e_call (F : FnOk X.prog X.w X.K X.mg X.base CX0 k f fd ps (spF X.K n G)) (hr : Room k X.A) (hm : X.mg x = some (.ref f)) (hk : PySem.W.keepIn X.K (.ref f) = true) (hb : Binds X.K fd ps [])
    (ha : PA X (e :: es) (TAof X.K W fs)) (hg : Gl X x := by rfl) (hdb : (x == ("__debug__" : Str)) = false := by decide) (he : starEach (e :: es) X.env = (false, eval e X.env) :: starEach es X.env := by rfl) (hpl : (backTo pos (starEach es X.env)).any (·.1) = false := by rfl) :
    PE X (.Call (.Name x p) (e :: es) [] pos) (TEof X.K W (callF G (lenA n fs))) := PE_weak (pe_call F hr hg hm hk hb .nil pass0 ha hdb he hpl) fun _ _ _ => t_callF
theorem e_call0 (F : FnOk X.prog X.w X.K X.mg X.base CX0 k f fd ps (spF X.K 0 G)) (hr : Room k X.A) (hm : X.mg x = some (.ref f)) (hk : PySem.W.keepIn X.K (.ref f) = true) (hb : Binds X.K fd ps [])
    (hg : Gl X x := by rfl) (hdb : (x == ("__debug__" : Str)) = false := by decide) : PE X (.Call (.Name x p) [] [] pos) (TEof X.K W (callR G [])) := PE_weak (pe_call0 (E := E0) F hr hg hm hk hb .nil pass0 hdb) fun σ H Q h => by
  obtain ⟨L, F, M, ρ, rel, post⟩ := h
  exact t_call (E := E0) rfl ⟨rel, rfl, fun p r v h _ => by simp at h, fun p d a h => by simp at h, fun p d a h => by simp at h, fun p q d d' a h => by simp at h⟩ post
end
end Fd

/-! Fd12: calls with keywords; defaults. -/
namespace Fd
open PySem L2
def pick {α : Type} (π : List Nat) (l : List α) : List α := π.filterMap fun i => l[i]?
theorem pick_cons {α : Type} {l : List α} {i : Nat} {π : List Nat} (h : ∀ j ∈ i :: π, j < l.length) : ∃ x, l[i]? = some x ∧ pick (i :: π) l = x :: pick π l := by
  have hi : i < l.length := h i (List.mem_cons_self ..)
  exact ⟨l[i], List.getElem?_eq_getElem hi, by simp [pick, List.filterMap_cons, List.getElem?_eq_getElem hi]⟩
theorem pick_get {α : Type} {l : List α} : ∀ {π : List Nat} (p : Nat), (∀ i ∈ π, i < l.length) → (pick π l)[p]? = (π[p]?).bind fun i => l[i]?
  | [], p, _ => by simp [pick]
  | i :: π, p, h => by
    obtain ⟨x, hi, e⟩ := pick_cons h
    rw [e]
    cases p with
    | zero => simp [hi]
    | succ p => simpa using pick_get (π := π) p fun j hj => h j (List.mem_cons_of_mem _ hj)
theorem pick_len {α : Type} {l : List α} : ∀ {π : List Nat}, (∀ i ∈ π, i < l.length) → (pick π l).length = π.length
  | [], _ => rfl
  | i :: π, h => by
    obtain ⟨x, hi, e⟩ := pick_cons h
    rw [e, List.length_cons, List.length_cons, pick_len (π := π) fun j hj => h j (List.mem_cons_of_mem _ hj)]
theorem nodup_at {α : Type} : ∀ {l : List α} {p q : Nat} {x : α}, l.Nodup → l[p]? = some x → l[q]? = some x → p = q
  | [], p, q, x, _, h, _ => by simp at h
  | y :: l, 0, 0, x, _, _, _ => rfl
  | y :: l, 0, q + 1, x, n, h1, h2 => by
    simp at h1 h2; subst h1
    exact absurd (List.mem_of_getElem? h2) (List.nodup_cons.mp n).1
  | y :: l, p + 1, 0, x, n, h1, h2 => by
    simp at h1 h2; subst h2
    exact absurd (List.mem_of_getElem? h1) (List.nodup_cons.mp n).1
  | y :: l, p + 1, q + 1, x, n, h1, h2 => by rw [nodup_at (List.nodup_cons.mp n).2 (p := p) (q := q) (by simpa using h1) (by simpa using h2)]
theorem Vals.pick : ∀ (π : List Nat) {vs : List V} {us : List Value}, Vals vs us → Vals (pick π vs) (pick π us)
  | [], _, _, _ => .nil
  | i :: π, vs, us, h => by
    have ih := Vals.pick π h
    cases e : vs[i]? with
    | none =>
      have e2 : us[i]? = none := by
        rw [List.getElem?_eq_none_iff] at e ⊢
        rw [← h.length]; exact e
      simp only [Fd.pick, List.filterMap_cons, e, e2]
      exact ih
    | some v =>
      obtain ⟨u, e2, r⟩ := h.get e
      simp only [Fd.pick, List.filterMap_cons, e, e2]
      exact .cons r ih
section
variable {K : PySem.W.Frag} {L : Lc} {F M : AP} {H : Hp} {ρ : Ev} {σ : St} {rs : List RV} {vs : List V}
theorem Args.perm (A : Args K L F M H ρ σ rs vs) {π : List Nat} (hp : ∀ i ∈ π, i < rs.length) (nd : π.Nodup) : Args K L F M H ρ σ (pick π rs) (pick π vs) := by
  have hv : ∀ i ∈ π, i < vs.length := fun i hi => by rw [A.len]; exact hp i hi
  have at' : ∀ {α : Type} {l : List α} (p : Nat) (x : α), (∀ i ∈ π, i < l.length) → (pick π l)[p]? = some x → ∃ i, π[p]? = some i ∧ l[i]? = some x := fun p x h e => by
    rw [pick_get p h] at e
    exact Option.bind_eq_some_iff.mp e
  refine ⟨A.rel, by rw [pick_len hp, pick_len hv], fun p r v h1 h2 => ?_, fun p d a h1 h2 => ?_, fun p d a h1 h2 => ?_, fun p q d d' a h1 h2 h3 h4 => ?_⟩
  · obtain ⟨i, e1, e2⟩ := at' p r hp h1
    obtain ⟨j, e3, e4⟩ := at' p v hv h2
    rw [e1] at e3; cases e3
    exact A.rv i r v e2 e4
  · obtain ⟨i, e1, e2⟩ := at' p _ hp h1
    obtain ⟨j, e3, e4⟩ := at' p _ hv h2
    rw [e1] at e3; cases e3
    exact A.tF i d a e2 e4
  · obtain ⟨i, e1, e2⟩ := at' p _ hp h1
    obtain ⟨j, e3, e4⟩ := at' p _ hv h2
    rw [e1] at e3; cases e3
    exact A.tS i d a e2 e4
  · obtain ⟨i, e1, e2⟩ := at' p _ hp h1
    obtain ⟨j, e3, e4⟩ := at' p _ hv h3
    rw [e1] at e3; cases e3
    obtain ⟨i', f1, f2⟩ := at' q _ hp h2
    obtain ⟨j', f3, f4⟩ := at' q _ hv h4
    rw [f1] at f3; cases f3
    have e := A.tD i i' d d' a e2 f2 e4 f4
    subst e
    exact nodup_at nd e1 f1
end
/-! ### keywords -/
section
variable {X : Cx} {W : WO} {e : Expr} {fe : M RV} {kws : List Keyword} {fs ks' : M (List RV)} {nm : Option Str} {kpos : Pos}
theorem PK_weak {t t' : TA} (h : PK X kws t) (k : ∀ σ H Q, t' σ H Q → t σ H Q) : PK X kws t' := ⟨fun pos pins s σ H Q I q => h.run pos pins s σ H Q I (k σ H Q q)⟩
theorem k_nil : PK X [] (TAof X.K W aNil) := PK_weak pk_nil fun σ H Q h => by
  obtain ⟨L, F, M, ρ, rel, post⟩ := h
  exact post [] M H .refl rel trivial trivial
theorem k_cons (ha : PE X e (TEof X.K W fe)) (hr : PK X kws (TAof X.K W fs)) : PK X (⟨nm, e, kpos⟩ :: kws) (TAof X.K W (aCons fe fs)) := by
  refine PK_weak (pk_cons ha hr) fun σ H Q h => ?_
  obtain ⟨L, F, M, ρ, rel, post⟩ := h
  refine seqV (PL X.K L W σ Q F M H) (fun _ _ z => z) id rel post fun r1 ρ1 p1 v1 M1 H1 e1 l1 q1 n1 => ?_
  refine seqL (PL X.K L W σ Q F M H) (fun x ρ' z => PX.reb z e1 adj_sub) id l1 p1 fun rs ρ2 p2 vs M2 H2 e2 l2 q2 n2 => ?_
  have q1' := q1.evo (e2.weak (F := adj F v1 r1) fun _ z => z)
  exact p2 (v1 :: vs) M2 H2 (e1.trans e2 adj_sub) l2 ⟨q1', q2⟩ ⟨n1, n2⟩
end
/-! two lists of arguments, one behind the other -/
section
variable {K : PySem.W.Frag} {M M1 : AP} {H H1 : Hp} {σ : St}
theorem adjs_append : ∀ {F : AP} {vs : List V} {rs : List RV} {ws : List V} {qs : List RV}, vs.length = rs.length → adjs F (vs ++ ws) (rs ++ qs) = adjs (adjs F vs rs) ws qs
  | F, [], [], ws, qs, _ => rfl
  | F, v :: vs, r :: rs, ws, qs, h => by simp only [List.cons_append, adjs]; exact adjs_append (by simpa using h)
  | F, [], _ :: _, _, _, h => by simp at h
  | F, _ :: _, [], _, _, h => by simp at h
theorem NotFs.append : ∀ {F : AP} {vs : List V} {rs : List RV} {ws : List V} {qs : List RV}, vs.length = rs.length → NotFs F vs rs → NotFs (adjs F vs rs) ws qs → NotFs F (vs ++ ws) (rs ++ qs)
  | F, [], [], ws, qs, _, _, h => h
  | F, v :: vs, r :: rs, ws, qs, hl, h, k => ⟨h.1, NotFs.append (by simpa using hl) h.2 k⟩
  | F, [], _ :: _, _, _, h, _, _ => by simp at h
  | F, _ :: _, [], _, _, h, _, _ => by simp at h
theorem RVRs.append : ∀ {vs : List V} {rs : List RV} {ws : List V} {qs : List RV}, RVRs K M H σ vs rs → RVRs K M H σ ws qs → RVRs K M H σ (vs ++ ws) (rs ++ qs)
  | [], [], _, _, _, h => h
  | v :: vs, r :: rs, _, _, h, k => ⟨h.1, RVRs.append h.2 k⟩
  | [], _ :: _, _, _, h, _ => h.elim
  | _ :: _, [], _, _, h, _ => h.elim
theorem RVRs.evo : ∀ {F : AP} {vs : List V} {rs : List RV}, RVRs K M H σ vs rs → Evo (adjs F vs rs) M H M1 H1 → RVRs K M1 H1 σ vs rs
  | F, [], [], h, _ => h
  | F, v :: vs, r :: rs, h, e => ⟨h.1.evo (F := F) (e.weak fun x z => adjs_sub vs rs x z), RVRs.evo (F := adj F v r) h.2 e⟩
  | _, [], _ :: _, h, _ => h.elim
  | _, _ :: _, [], h, _ => h.elim
end
def callK (G : FnS) (n m : Nat) (π : List Nat) (fs ks : M (List RV)) : M RV := bnd fs fun rs => bnd ks fun qs => if rs.length = n ∧ qs.length = m then callR G (pick π (rs ++ qs)) else fail
def piOk (π : List Nat) (n : Nat) : Bool := π.all (fun i => decide (i < n)) && decide π.Nodup
section
variable {K : PySem.W.Frag} {L : Lc} {W : WO} {σ : St} {H : Hp} {Q : VK} {n m N : Nat} {π : List Nat} {G : FnS} {fs ks : M (List RV)}
theorem t_callK (hN : π.length = N) (ok : piOk π (n + m) = true) (h : TEof K W (callK G n m π fs ks) σ H Q) : tCallN n m (spF K N G) (fun vs zs => pick π (vs ++ zs)) E0 (TAof K W fs) (TAof K W ks) σ H Q := by
  obtain ⟨L, F, M, ρ, rel, post⟩ := h
  refine seqL (PV K L W σ Q F M H) (fun _ _ z => z) id rel post fun rs ρ1 p1 vs M1 H1 ev1 l1 q1 n1 => ?_
  refine seqL (PV K L W σ Q F M H) (fun x ρ' z => PX.reb z ev1 (adjs_sub _ _)) id l1 p1 fun qs ρ2 p2 zs M2 H2 ev2 l2 q2 n2 => ?_
  split at p2
  · rename_i hl
    have hv1 := q1.len
    have hv2 := q2.len
    unfold piOk at ok
    simp only [Bool.and_eq_true, List.all_eq_true, decide_eq_true_eq] at ok
    have hp : ∀ i ∈ π, i < (rs ++ qs).length := fun i hi => by rw [List.length_append, hl.1, hl.2]; exact ok.1 i hi
    have A : Args K L F M2 H2 ρ2 σ (rs ++ qs) (vs ++ zs) := args_of (by rw [adjs_append hv1]; exact l2) ((q1.evo ev2).append q2) (NotFs.append hv1 n1 n2)
    exact ⟨hv1.trans hl.1, hv2.trans hl.2, t_call (by rw [pick_len hp, hN]) (A.perm hp ok.2) (PV.reb p2 (ev1.trans ev2 (adjs_sub _ _)) fun _ z => z)⟩
  · exact p2.elim
end
section
variable {X : Cx} {W : WO} {k n N : Nat} {f : Addr} {fd : FuncData} {ps ks : List Str} {G : FnS} {x : Str} {p pos : Pos} {e : Expr} {es : List Expr} {kws : List Keyword} {fs gs : M (List RV)} {π : List Nat}
theorem pe_callN0 {CX : CXT} {sp : Sp} {E : XK} {g : List Value → List Value → List Value} {gV : List V → List V → List V} {tk : TA} (F : FnOk X.prog X.w X.K X.mg X.base CX k f fd ps sp) (hr : Room k X.A) (hg : Gl X x) (hm : X.mg x = some (.ref f)) (hk : PySem.W.keepIn X.K (.ref f) = true) (hb : KBn X.K fd ps 0 ks g gV) (hx : Passes CX X E)
    (hkw : PK X kws tk) (hall : (backToKw pos (keywordEach kws X.env)).all (·.1.isSome) = true := by rfl) (hks : (backToKw pos (keywordEach kws X.env)).filterMap (·.1) = ks := by rfl)
    (hdb : (x == ("__debug__" : Str)) = false := by decide) (hpl : ((backTo pos (starEach [] X.env)).any (·.1) || (backToKw pos (keywordEach kws X.env)).any (·.1.isNone)) = false := by rfl) :
    PE X (.Call (.Name x p) [] kws pos) (tCallN 0 ks.length sp gV E tNil tk) := by
  refine ⟨fun pins s σ H Q I h => ?_⟩
  refine wpAny_Call_Name_kw (ld_glob I hg hm ?_ hdb)
  refine PySem.W.callWith_KW0 (h₀ := X.base) I.ok.mod.kin hk hall ?_ hpl
  refine thn (hkw.run pos pins s σ H _ I h) fun ws s2 ⟨zs, H2, I2, rz, l1, l2, q2⟩ => ⟨I2.kIn, ?_⟩
  rw [hks]
  exact run_fnN (us := []) (vs := []) F hr hb hx I2 .nil rz rfl l2 q2
theorem e_callK (F : FnOk X.prog X.w X.K X.mg X.base CX0 k f fd ps (spF X.K N G)) (hr : Room k X.A) (hm : X.mg x = some (.ref f)) (hk : PySem.W.keepIn X.K (.ref f) = true) (hb : KBn X.K fd ps n ks (fun us ws => pick π (us ++ ws)) (fun vs zs => pick π (vs ++ zs)))
    (ha : PA X (e :: es) (TAof X.K W fs)) (hkw : PK X kws (TAof X.K W gs)) (hN : π.length = N := by rfl) (ok : piOk π (n + ks.length) = true := by decide) (hg : Gl X x := by rfl) (hall : (backToKw pos (keywordEach kws X.env)).all (·.1.isSome) = true := by rfl) (hks : (backToKw pos (keywordEach kws X.env)).filterMap (·.1) = ks := by rfl)
    (hdb : (x == ("__debug__" : Str)) = false := by decide) (he : starEach (e :: es) X.env = (false, eval e X.env) :: starEach es X.env := by rfl)
    (hpl : ((backTo pos (starEach (e :: es) X.env)).any (·.1) || (backToKw pos (keywordEach kws X.env)).any (·.1.isNone)) = false := by rfl) :
    PE X (.Call (.Name x p) (e :: es) kws pos) (TEof X.K W (callK G n ks.length π fs gs)) := PE_weak (pe_callN F hr hg hm hk hb pass0 ha hkw hall hks hdb he hpl) fun _ _ _ => t_callK hN ok
theorem e_callK0 (F : FnOk X.prog X.w X.K X.mg X.base CX0 k f fd ps (spF X.K N G)) (hr : Room k X.A) (hm : X.mg x = some (.ref f)) (hk : PySem.W.keepIn X.K (.ref f) = true) (hb : KBn X.K fd ps 0 ks (fun us ws => pick π (us ++ ws)) (fun vs zs => pick π (vs ++ zs)))
    (hkw : PK X kws (TAof X.K W gs)) (hN : π.length = N := by rfl) (ok : piOk π (0 + ks.length) = true := by decide) (hg : Gl X x := by rfl) (hall : (backToKw pos (keywordEach kws X.env)).all (·.1.isSome) = true := by rfl) (hks : (backToKw pos (keywordEach kws X.env)).filterMap (·.1) = ks := by rfl)
    (hdb : (x == ("__debug__" : Str)) = false := by decide) (hpl : ((backTo pos (starEach [] X.env)).any (·.1) || (backToKw pos (keywordEach kws X.env)).any (·.1.isNone)) = false := by rfl) :
    PE X (.Call (.Name x p) [] kws pos) (TEof X.K W (callK G 0 ks.length π aNil gs)) := PE_weak (pe_callN0 F hr hg hm hk hb pass0 hkw hall hks hdb hpl) fun σ H Q h => by
  have z := t_callK hN ok h
  obtain ⟨L, F, M, ρ, rel, post⟩ := z
  exact post [] M H .refl rel trivial trivial
end
/-- no defaults: what a call with keywords binds -/
theorem kbindsN {K : PySem.W.Frag} {x qual : Str} {params : Arguments} {body : List Stmt} {scope : Scope} {kws : List (Str × V)} {f : Addr} {fd : FuncData} {ps : List Str} (F : FunD K x qual params body scope [] kws f fd) (n : Nat) (ks : List Str) (π : List Nat)
    (h : ∀ (kV doc pm : Value) (an : Option Addr) (cdv ct : Value) (us ws : List Value), us.length = n → ws.length = ks.length → bindArgs (PySem.W.fnOf x qual params body scope .none kV doc pm an cdv ct) ⟨us, ks.zip ws⟩ = pure (ps.zip (pick π (us ++ ws)))) :
    KBn K fd ps n ks (fun us ws => pick π (us ++ ws)) (fun vs zs => pick π (vs ++ zs)) := by
  obtain ⟨oc, od, dV, kV, doc, pm, an, cdv, ct, osl, rfl, lk, hcd, hD, hK⟩ := F.ex
  rcases hD with ⟨_, rfl⟩ | ⟨e, _⟩
  · exact ⟨fun s us ws _ l1 l2 => .of_eq (h kV doc pm an cdv ct us ws l1 l2), fun r1 r2 => Vals.pick π (r1.append r2)⟩
  · exact absurd rfl e
end Fd

/-! Fd13: sorted. -/
namespace Fd
open PySem L2

/-! ### the order -/
def dlt (a b : D) : Bool := PySem.W.dataLt a.py b.py
def insD (d : D) : List D → List D
  | [] => [d]
  | x :: xs => if dlt x d = true then x :: insD d xs else d :: x :: xs
def isort : List D → List D
  | [] => []
  | d :: ds => insD d (isort ds)
mutual
theorem eq_of_alike : ∀ (a b : D), PySem.W.alike a.py b.py = true → PyData.eqv a.py b.py = true → a = b
  | .non, b, h, e => by cases b <;> simp [D.py, PySem.W.alike] at h ⊢
  | .bl x, b, h, e => by cases b <;> simp [D.py, PySem.W.alike, PyData.eqv] at h e ⊢; exact e
  | .int x, b, h, e => by cases b <;> simp [D.py, PySem.W.alike, PyData.eqv] at h e ⊢; exact e
  | .str x, b, h, e => by cases b <;> simp [D.py, PySem.W.alike, PyData.eqv] at h e ⊢; exact e
  | .tup xs, b, h, e => by cases b <;> simp [D.py, PySem.W.alike, PyData.eqv] at h e ⊢; exact eq_of_alikeAll xs _ h e
  | .lst xs, b, h, e => by cases b <;> simp [D.py, PySem.W.alike, PyData.eqv] at h e ⊢; exact eq_of_alikeAll xs _ h e
  | .dK _, b, h, e => by cases b <;> simp [D.py, PySem.W.alike] at h
  | .dT _, b, h, e => by cases b <;> simp [D.py, PySem.W.alike] at h
  | .scr _, b, h, e => by cases b <;> simp [D.py, PySem.W.alike] at h
  | .kt _, b, h, e => by cases b <;> simp [D.py, PySem.W.alike] at h
theorem eq_of_alikeAll : ∀ (a b : List D), PySem.W.alikeAll (D.pyAll a) (D.pyAll b) = true → PyData.eqvAll (D.pyAll a) (D.pyAll b) = true → a = b
  | [], [], _, _ => rfl
  | [], _ :: _, _, e => by simp [D.pyAll, PyData.eqvAll] at e
  | _ :: _, [], _, e => by simp [D.pyAll, PyData.eqvAll] at e
  | a :: as, b :: bs, h, e => by
    simp only [D.pyAll, PySem.W.alikeAll, PyData.eqvAll, Bool.and_eq_true] at h e
    rw [eq_of_alike a b h.1 e.1, eq_of_alikeAll as bs h.2 e.2]
end
theorem dlt_irrefl (a : D) : dlt a a = false := (PyProof.Rows.listOrd PyProof.Rows.itemOrd).irrefl _
theorem dlt_trans {a b c : D} : dlt a b = true → dlt b c = true → dlt a c = true := (PyProof.Rows.listOrd PyProof.Rows.itemOrd).trans _ _ _
theorem dlt_neg {a b c : D} : dlt a c = true → dlt a b = true ∨ dlt b c = true := (PyProof.Rows.listOrd PyProof.Rows.itemOrd).negTrans _ _ _
theorem dlt_asymm {a b : D} (h : dlt a b = true) : dlt b a = false := by
  cases e : dlt b a with
  | false => rfl
  | true => have := dlt_trans h e; rw [dlt_irrefl] at this; cases this
theorem dlt_tri {a b : D} (al : PySem.W.alike a.py b.py = true) (h1 : dlt a b = false) (h2 : dlt b a = false) : a = b := by
  have k : PySem.W.keyToks a.py = PySem.W.keyToks b.py := (PyProof.Rows.listOrd PyProof.Rows.itemOrd).total _ _ h1 h2
  have t := PySem.W.toks_eqv a.py b.py al
  cases e : PyData.eqv a.py b.py with
  | true => exact eq_of_alike a b al e
  | false =>
    have z := t.2 e [.inl 0] [.inl 1]
    rw [← k, PySem.W.lex_pre, PyProof.Rows.lex_irrefl] at z
    exact absurd z (by decide)
theorem dataLe_d (a b : D) : PySem.W.dataLe false D.py a b = !dlt b a := rfl
theorem insD_perm (d : D) : ∀ ds : List D, (insD d ds).Perm (d :: ds)
  | [] => List.Perm.refl _
  | x :: xs => by
    unfold insD
    split
    · exact ((insD_perm d xs).cons x).trans (List.Perm.swap d x xs)
    · exact List.Perm.refl _
theorem isort_perm : ∀ ds : List D, (isort ds).Perm ds
  | [] => List.Perm.refl _
  | d :: ds => (insD_perm d _).trans ((isort_perm ds).cons d)
abbrev LeD (a b : D) : Prop := dlt b a = false
theorem leD_trans {a b c : D} (h1 : LeD a b) (h2 : LeD b c) : LeD a c := by
  cases e : dlt c a with
  | false => exact e
  | true => rcases dlt_neg (b := b) e with z | z
            · rw [h2] at z; cases z
            · rw [h1] at z; cases z
theorem insD_sorted (d : D) : ∀ {ds : List D}, ds.Pairwise LeD → (insD d ds).Pairwise LeD
  | [], _ => List.pairwise_singleton _ _
  | x :: xs, h => by
    have h' := List.pairwise_cons.mp h
    unfold insD
    split
    · rename_i lt
      refine List.pairwise_cons.mpr ⟨fun y hy => ?_, insD_sorted d h'.2⟩
      rcases List.mem_cons.mp ((insD_perm d xs).mem_iff.mp hy) with rfl | hy
      · exact dlt_asymm lt
      · exact h'.1 y hy
    · rename_i nlt
      have nlt : dlt x d = false := by cases e : dlt x d with
        | false => rfl
        | true => exact absurd e nlt
      refine List.pairwise_cons.mpr ⟨fun y hy => ?_, h⟩
      rcases List.mem_cons.mp hy with rfl | hy
      · exact nlt
      · exact leD_trans nlt (h'.1 y hy)
theorem isort_sorted : ∀ ds : List D, (isort ds).Pairwise LeD
  | [] => .nil
  | d :: ds => insD_sorted d (isort_sorted ds)
def AllA (ds : List D) : Prop := ∀ a ∈ ds, ∀ b ∈ ds, PySem.W.alike a.py b.py = true
/-- a sorted list of the same items is the sorted list -/
theorem isort_unique {ds es : List D} (al : AllA ds) (p : es.Perm ds) (s : es.Pairwise LeD) : es = isort ds := by
  refine List.Perm.eq_of_pairwise (le := LeD) (fun a b ha hb h1 h2 => ?_) s (isort_sorted ds) (p.trans (isort_perm ds).symm)
  exact dlt_tri (al a (p.mem_iff.mp ha) b ((isort_perm ds).mem_iff.mp hb)) h2 h1
theorem mergeSort_isort {ds : List D} (al : AllA ds) : ds.mergeSort (PySem.W.dataLe false D.py) = isort ds := by
  refine isort_unique al (List.mergeSort_perm ds _) ?_
  refine (List.pairwise_mergeSort (le := PySem.W.dataLe false D.py) (fun a b c h1 h2 => ?_) (fun a b => ?_) ds).imp fun {a b} h => ?_
  · rw [dataLe_d, Bool.not_eq_true'] at h1 h2 ⊢
    exact leD_trans h1 h2
  · rw [dataLe_d, dataLe_d]
    cases e : dlt b a with
    | false => rfl
    | true => rw [dlt_asymm e]; rfl
  · rw [dataLe_d, Bool.not_eq_true'] at h
    exact h

/-! ### sorted(xs) -/
abbrev rSortD (K : PySem.W.Frag) : List V → Hp → VK → Prop := fun vs H Q => ∃ (a : Addr) (bs : List (V × D)), vs = [.ref a] ∧ SqL K H a (bs.map (·.1)) ∧ (∀ b ∈ bs, Dp K H b.1 b.2.py) ∧ AllA (bs.map (·.2)) ∧ PySem.W.Sortable (bs.map fun b => b.2.py) ∧ (∀ b ∈ bs, b.2.py.depth ≤ 60) ∧
  ∀ p, H p = none → Q (.ref p) (upd H p (.lst ((bs.mergeSort (PySem.W.dataLe false fun b => b.2.py)).map (·.1))))
theorem vals_each {bs : List (V × D)} : ∀ {us : List Value}, Vals (bs.map (·.1)) us → PySem.W.EachIs (fun u b => RelV b.1 u) us bs := by
  induction bs with
  | nil => intro us h; cases h; exact .nil
  | cons b bs ih => intro us h; cases h with | cons r t => exact .cons r (ih t)
theorem each_vals {bs : List (V × D)} : ∀ {us : List Value}, PySem.W.EachIs (fun u b => RelV b.1 u) us bs → Vals (bs.map (·.1)) us := by
  induction bs with
  | nil => intro us h; cases h; exact .nil
  | cons b bs ih => intro us h; cases h with | cons r t => exact .cons r (ih t)
theorem each_mem {α β : Type} {R R' : α → β → Prop} : ∀ {as : List α} {bs : List β}, PySem.W.EachIs R as bs → (∀ a b, b ∈ bs → R a b → R' a b) → PySem.W.EachIs R' as bs
  | _, _, .nil, _ => .nil
  | _, _, .cons r t, h => .cons (h _ _ (List.mem_cons_self ..) r) (each_mem t fun a b hb => h a b (List.mem_cons_of_mem _ hb))
theorem cr_sortD {X : Cx} (hu : X.A.units + 100 < cLine) : CallR X (.builtin "sorted") (rSortD X.K) := by
  intro pins s σ H vs us Q I r h
  obtain ⟨a, bs, rfl, hs, hd, al, so, dp, q⟩ := h
  obtain ⟨its, rv, hl, hz⟩ := I.list hs
  rw [Vals.ref1 r]
  have e := vals_each rv
  have er : PySem.W.EachIs (fun v (b : V × D) => ∃ as, Reads s.heap v b.2.py as) its bs := each_mem e fun u b hb r => Dp.reads I b.2.py b.1 u (hd b hb) r
  have hlen : bs.length ≤ sizeLine := by rw [List.length_map] at hz; exact hz
  refine PySem.W.sorted_data hl.isList e er (fun d hd d' hd' => ?_) so hlen (fun b hb => ?_) fun out ho eo => ?_
  · obtain ⟨b, hb, rfl⟩ := List.mem_map.mp hd
    obtain ⟨b', hb', rfl⟩ := List.mem_map.mp hd'
    exact al b.2 (List.mem_map_of_mem hb) b'.2 (List.mem_map_of_mem hb')
  · have := dp b hb
    omega
  · obtain ⟨ep, he'⟩ := PyProof.Rows.sortedAll_at s.heap its out.toArray
    refine ⟨.ref _, upd H (s.heap.objs.size + 1) (.lst ((bs.mergeSort (PySem.W.dataLe false fun b => b.2.py)).map (·.1))), I.laid (t' := s.toks) (fun _ _ => PyProof.Rows.sortedAll_old) (Nat.le_succ _) ⟨?_, out, ep, each_vals eo, he'⟩, rfl, q _ (I.hok.fresh (Nat.le_succ _))⟩
    rw [List.length_map, List.length_mergeSort]
    exact hlen
def sortOkB (ds : List D) : Bool := D.plAll ds && ds.all (fun a => ds.all fun b => PySem.W.alike a.py b.py) && ds.all (fun a => decide (a.dep ≤ 60)) &&
  (ds.all (fun a => match a with
    | .tup (_ :: _) => true
    | _ => false) || ds.all (fun a => match a with
    | .non => false
    | .tup _ => false
    | _ => true))
def sortA (ds : List D) : Option (List D) := if sortOkB ds = true then some (isort ds) else none
def sortedD : List D → Option RV
  | [.lst ds] => (sortA ds).map fun es => .tmp (.lst es)
  | _ => none
theorem IsAll.zip {K : PySem.W.Frag} {M : AP} {H : Hp} : ∀ {xs : List V} {ds : List D}, IsAll M K H xs ds → ∃ bs : List (V × D), bs.map (·.1) = xs ∧ bs.map (·.2) = ds ∧ ∀ b ∈ bs, Is M K H b.1 b.2
  | _, [], h => by cases h; exact ⟨[], rfl, rfl, fun b hb => by cases hb⟩
  | _, d :: ds, h => by
    cases h with
    | cons a t =>
      obtain ⟨bs, h1, h2, h3⟩ := t.zip
      rename_i v vs0
      refine ⟨(v, d) :: bs, by simp [h1], by simp [h2], fun b hb => ?_⟩
      rcases List.mem_cons.mp hb with rfl | hb
      · exact a
      · exact h3 b hb
theorem isAll_zip {K : PySem.W.Frag} {M : AP} {H : Hp} : ∀ {bs : List (V × D)}, (∀ b ∈ bs, Is M K H b.1 b.2) → IsAll M K H (bs.map (·.1)) (bs.map (·.2))
  | [], _ => .nil
  | b :: bs, h => .cons (h b (List.mem_cons_self ..)) (isAll_zip fun c hc => h c (List.mem_cons_of_mem _ hc))
theorem pl_mem : ∀ {ds : List D} {d : D}, D.plAll ds = true → d ∈ ds → d.pl = true
  | [], _, _, h => by cases h
  | x :: xs, d, p, h => by
    have p' : x.pl = true ∧ D.plAll xs = true := by simpa [D.plAll] using p
    rcases List.mem_cons.mp h with rfl | h
    · exact p'.1
    · exact pl_mem p'.2 h
theorem good_sorted {K : PySem.W.Frag} : GoodL K (rSortD K) sortedD := by
  intro M H vs ds res Q dm rd e q
  match ds, rd, e with
  | [.lst ds], rd, e =>
    have e : (sortA ds).map (fun es => RV.tmp (.lst es)) = some res := e
    unfold sortA at e
    split at e
    · rename_i ok
      cases e
      match vs, rd with
      | [v], rd =>
        obtain ⟨a, xs, rfl, h1, h2⟩ := rd.1.lst
        obtain ⟨bs, e1, e2, e3⟩ := h2.zip
        subst e1; subst e2
        unfold sortOkB at ok
        simp only [Bool.and_eq_true, Bool.or_eq_true, List.all_eq_true, decide_eq_true_eq] at ok
        obtain ⟨⟨⟨k1, k2⟩, k3⟩, k4⟩ := ok
        refine ⟨a, bs, rfl, .of h1, fun b hb => ((e3 b hb).dp b.2 (pl_mem k1 (List.mem_map_of_mem hb))).1, k2, ?_, fun b hb => k3 b.2 (List.mem_map_of_mem hb), fun p hp => ?_⟩
        · rcases k4 with k4 | k4
          · refine .inl fun d hd => ?_
            obtain ⟨b, hb, rfl⟩ := List.mem_map.mp hd
            have z := k4 b.2 (List.mem_map_of_mem hb)
            split at z
            · rename_i y ys he
              rw [he]
              exact ⟨y.py, D.pyAll ys, by simp [D.py, D.pyAll]⟩
            · cases z
          · refine .inr fun d hd => ?_
            obtain ⟨b, hb, rfl⟩ := List.mem_map.mp hd
            have z := k4 b.2 (List.mem_map_of_mem hb)
            cases hb2 : b.2 with
            | non => rw [hb2] at z; cases z
            | tup _ => rw [hb2] at z; cases z
            | _ => exact ⟨by simp [D.py], fun xs => by simp [D.py]⟩
        · have e4 : isort (bs.map (·.2)) = (bs.mergeSort (PySem.W.dataLe false fun b => b.2.py)).map (·.2) := by
            rw [← mergeSort_isort k2]
            exact (List.map_mergeSort (r := PySem.W.dataLe false fun b : V × D => b.2.py) (s := PySem.W.dataLe false D.py) (f := Prod.snd) fun a _ b _ => rfl).symm
          rw [e4] at q
          exact q.lst dm (isAll_zip fun b hb => e3 b ((List.mergeSort_perm bs _).mem_iff.mp hb)) hp
      | [], rd => exact rd.elim
      | _ :: _ :: _, rd => exact rd.2.elim
    · cases e
end Fd

/-! Fs4: sorted(set(xs)), len(set(xs)): the rules. -/
namespace Fd
open PySem L2
def SetHO (w : World) (a : Addr) (vs : List V) : HO := .ext fun h => ∃ us, Vals vs us ∧ AnySet w h a us
theorem AnySet.at' {w : World} {h h' : Heap} {a : Addr} {us : List Value} (S : AnySet w h a us) (k : ∀ o, h.get? a = some o → h'.get? a = some o) : AnySet w h' a us := by
  obtain ⟨o, es, ep, t, ho, r⟩ := S
  exact ⟨o, es, ep, t, k o ho, r⟩
theorem setHO_new {P : Program} {w : World} {H : Hp} {h : Heap} {a : Addr} {vs : List V} {us : List Value} (r : Vals vs us) (S : AnySet w h a us) : ObjOk P w H h a (SetHO w a vs) := by
  have ⟨o, _, _, _, ho, _⟩ := S
  exact ⟨⟨us, r, S⟩, ⟨o, ho⟩, fun h1 h2 ⟨us, r, S⟩ k => ⟨us, r, S.at' k⟩⟩
/-- items of a list that all come from another -/
theorem pull {α β : Type} {f : α → β} {zs : List α} : ∀ {L : List β}, (∀ p ∈ L, p ∈ zs.map f) → ∃ cs : List α, cs.map f = L ∧ ∀ c ∈ cs, c ∈ zs
  | [], _ => ⟨[], rfl, fun c hc => nomatch hc⟩
  | p :: L, h => by
    obtain ⟨z, hz, e⟩ := List.mem_map.mp (h p List.mem_cons_self)
    obtain ⟨cs, e2, h2⟩ := pull (L := L) fun q hq => h q (List.mem_cons_of_mem _ hq)
    refine ⟨z :: cs, by rw [List.map_cons, e, e2], fun c hc => ?_⟩
    rcases List.mem_cons.mp hc with rfl | hc
    · exact hz
    · exact h2 c hc
theorem vals_zip {bs : List (V × D)} : ∀ {us : List Value}, Vals (bs.map (·.1)) us → ∃ zs : List (Value × (V × D)), zs.map (·.1) = us ∧ zs.map (·.2) = bs ∧ ∀ z ∈ zs, RelV z.2.1 z.1 := by
  induction bs with
  | nil => intro us h; cases h; exact ⟨[], rfl, rfl, fun z hz => nomatch hz⟩
  | cons b bs ih =>
    intro us h
    cases h with
    | cons r t =>
      rename_i u us0
      obtain ⟨zs, e1, e2, h3⟩ := ih t
      refine ⟨(u, b) :: zs, by simp [e1], by simp [e2], fun z hz => ?_⟩
      rcases List.mem_cons.mp hz with rfl | hz
      · exact r
      · exact h3 z hz
theorem zip_vals : ∀ {zs : List (Value × (V × D))}, (∀ z ∈ zs, RelV z.2.1 z.1) → Vals (zs.map fun z => z.2.1) (zs.map (·.1))
  | [], _ => .nil
  | z :: zs, h => .cons (h z List.mem_cons_self) (zip_vals fun y hy => h y (List.mem_cons_of_mem _ hy))
def KeyA (bs : List (V × D)) : Prop := ∀ b ∈ bs, ∃ k, keyOf b.2 = some k ∧ b.1 = kV k
def KeyT (H : Hp) (bs : List (V × D)) : Prop := ∀ b ∈ bs, ∃ k c, keysOf b.2 = some k ∧ b.1 = .ref c ∧ H c = some (.tup (k.map kV))
abbrev rSet1 (K : PySem.W.Frag) (w : World) : List V → Hp → VK → Prop := fun xs H Q => ∃ (l : Addr) (bs : List (V × D)), xs = [.ref l] ∧ SqL K H l (bs.map (·.1)) ∧ bs.length < 64 ∧ (KeyA bs ∨ KeyT H bs) ∧
  ∀ (a : Addr) (cs : List (V × D)), H a = none → (∀ c ∈ cs, c ∈ bs) → (∀ b ∈ bs, ∃ c ∈ cs, keyOf c.2 = keyOf b.2 ∧ keysOf c.2 = keysOf b.2) → (cs.map fun c => (keyOf c.2, keysOf c.2)).Nodup → Q (.ref a) (upd H a (SetHO w a (cs.map (·.1))))
section
variable {X : Cx}
theorem set_of (T : SetThy X.prog X.w) (kf : D → T.κ) (hc : X.calm = true) (hu : X.A.units + 100 < cLine) {pins : List (Addr × Obj)} {s : Shared} {σ : St} {H : Hp} {l : Addr} {bs : List (V × D)} {Q : VK} (I : Inv X pins σ H s) (hl : SqL X.K H l (bs.map (·.1))) (few : bs.length < 64)
    (hk : ∀ b ∈ bs, ∀ u, RelV b.1 u → T.key s.heap u (kf b.2)) (inj : ∀ b ∈ bs, ∀ c ∈ bs, kf b.2 = kf c.2 ↔ (keyOf b.2 = keyOf c.2 ∧ keysOf b.2 = keysOf c.2))
    (q : ∀ (a : Addr) (cs : List (V × D)), H a = none → (∀ c ∈ cs, c ∈ bs) → (∀ b ∈ bs, ∃ c ∈ cs, keyOf c.2 = keyOf b.2 ∧ keysOf c.2 = keysOf b.2) → (cs.map fun c => (keyOf c.2, keysOf c.2)).Nodup → Q (.ref a) (upd H a (SetHO X.w a (cs.map (·.1))))) :
    wpAny (model X.prog X.w) X.A (call (.type "set") [.ref l]) (EP X pins σ Q) X.xe s := by
  obtain ⟨its, rv, pl, hz⟩ := I.list hl
  obtain ⟨zs, e1, e2, rz⟩ := vals_zip rv
  have hf : H s.heap.objs.size = none := I.hok.fresh (Nat.le_refl _)
  have zb : ∀ z ∈ zs, z.2 ∈ bs := fun z hz => by rw [← e2]; exact List.mem_map_of_mem hz
  refine set_call T (zs.map fun z => (z.1, kf z.2.2)) (I.ok.hd hc) pl.isList (by rw [List.map_map, ← e1]; simp) (fun p hp => ?_) (by rw [List.length_map, ← List.length_map (f := (·.2)), e2]; exact few) (by omega) fun h' tk L j g kp => ?_
  · obtain ⟨z, hz, rfl⟩ := List.mem_map.mp hp
    exact hk z.2 (zb z hz) z.1 (rz z hz)
  · have gl : (zs.map fun z => (z.1, kf z.2.2)).take (zs.map fun z => (z.1, kf z.2.2)).length = zs.map fun z => (z.1, kf z.2.2) := List.take_length
    obtain ⟨ys, ey, hy⟩ := pull (f := fun z : Value × (V × D) => (z.1, kf z.2.2)) (zs := zs) (L := L) fun p hp => by rw [← gl]; exact g.from_ p hp
    have any := T.any j
    have uq := T.uniq j
    rw [← ey, List.map_map] at any uq
    refine ⟨.ref s.heap.objs.size, upd H s.heap.objs.size (SetHO X.w s.heap.objs.size ((ys.map (·.2)).map (·.1))), I.laid (t' := tk) kp (Nat.le_refl _) (setHO_new (us := ys.map (·.1)) ?_ ?_), rfl, q _ (ys.map (·.2)) hf (fun c hc => ?_) (fun b hb => ?_) ?_⟩
    · rw [List.map_map]; exact zip_vals fun z hz => rz z (hy z hz)
    · exact any
    · obtain ⟨z, hz, rfl⟩ := List.mem_map.mp hc
      exact zb z (hy z hz)
    · rw [← e2] at hb
      obtain ⟨z, hz, rfl⟩ := List.mem_map.mp hb
      have m := g.has (z.1, kf z.2.2) (by rw [gl]; exact List.mem_map_of_mem hz)
      rw [← ey, List.map_map] at m
      obtain ⟨y, hy2, e⟩ := List.mem_map.mp m
      exact ⟨y.2, List.mem_map_of_mem hy2, (inj y.2 (zb y (hy y hy2)) z.2 (zb z hz)).mp e⟩
    · rw [List.map_map]
      refine List.pairwise_map.mpr (List.Pairwise.imp_of_mem (fun {y z} h1 h2 ne e => ne ?_) (List.pairwise_map.mp uq))
      have e := Prod.mk.inj e
      exact (inj y.2 (zb y (hy y h1)) z.2 (zb z (hy z h2))).mpr e
theorem keyOf_keys {d : D} {k : Key} (h : keyOf d = some k) : keysOf d = none := by cases d <;> first | rfl | cases h
theorem keysOf_key {d : D} {k : List Key} (h : keysOf d = some k) : keyOf d = none := by cases d <;> first | rfl | cases h
theorem cr_set1 (hc : X.calm = true) (hu : X.A.units + 100 < cLine) : CallR X (.type "set") (rSet1 X.K X.w) := by
  intro pins s σ H xs us Q I r h
  obtain ⟨l, bs, rfl, hl, few, ky, q⟩ := h
  rw [Vals.ref1 r]
  rcases ky with ky | ky
  · refine set_of (thyA X.prog X.w) (fun d => (keyOf d).getD (.inl 0)) hc hu I hl few (fun b hb u ru => ?_) (fun b hb c hc => ?_) q
    · obtain ⟨k, e1, e2⟩ := ky b hb
      rw [e2] at ru
      show (mixKind X.prog X.w).is ((keyOf b.2).getD _) u = true
      rw [e1]; exact kV_is ru
    · obtain ⟨k, e1, _⟩ := ky b hb
      obtain ⟨k2, e2, _⟩ := ky c hc
      rw [e1, e2, keyOf_keys e1, keyOf_keys e2]
      simp
      exact Iff.rfl
  · refine set_of (thyT X.prog X.w) (fun d => (keysOf d).getD []) hc hu I hl few (fun b hb u ru => ?_) (fun b hb c hc => ?_) q
    · obtain ⟨k, c, e1, e2, e3⟩ := ky b hb
      rw [e2] at ru
      cases (show u = Value.ref c from ru)
      refine ⟨c, rfl, ?_⟩
      rw [e1]; exact key_of I.hok e3
    · obtain ⟨k, _, e1, _⟩ := ky b hb
      obtain ⟨k2, _, e2, _⟩ := ky c hc
      rw [e1, e2, keysOf_key e1, keysOf_key e2]
      simp
      exact Iff.rfl
abbrev rSort1 (K : PySem.W.Frag) (w : World) : List V → Hp → VK → Prop := fun vs H Q => ∃ (a : Addr) (cs : List (V × D)), vs = [.ref a] ∧ H a = some (SetHO w a (cs.map (·.1))) ∧ (∀ b ∈ cs, Dp K H b.1 b.2.py) ∧ AllA (cs.map (·.2)) ∧ PySem.W.Sortable (cs.map fun b => b.2.py) ∧ (∀ b ∈ cs, b.2.py.depth ≤ 60) ∧
  ∀ (p : Addr) (es : List (V × D)), H p = none → es.Perm cs → Q (.ref p) (upd H p (.lst ((es.mergeSort (PySem.W.dataLe false fun b => b.2.py)).map (·.1))))
theorem cr_sort1 (hc : X.calm = true) (hu : X.A.units + 100 < cLine) : CallR X (.builtin "sorted") (rSort1 X.K X.w) := by
  intro pins s σ H vs us Q I r h
  obtain ⟨a, cs, rfl, ha, hd, al, so, dp, q⟩ := h
  rw [Vals.ref1 r]
  obtain ⟨ws, rw', S⟩ : ∃ us, Vals (cs.map (·.1)) us ∧ AnySet X.w s.heap a us := (I.hok a _ ha).1
  have e := vals_each rw'
  have er : PySem.W.EachIs (fun v (b : V × D) => ∃ as, Reads s.heap v b.2.py as) ws cs := each_mem e fun u b hb r => Dp.reads I b.2.py b.1 u (hd b hb) r
  have few : cs.length < 64 := by
    obtain ⟨_, _, _, _, _, _, _, _, _, _, _, z⟩ := S
    rw [← e.length]; exact z
  refine set_sorted S (I.ok.hd hc) cs e er (fun d hd d' hd' => ?_) so (fun b hb => ?_) fun s1 p out c es kp g o hp hg pm eo => ?_
  · obtain ⟨b, hb, rfl⟩ := List.mem_map.mp hd
    obtain ⟨b', hb', rfl⟩ := List.mem_map.mp hd'
    exact al b.2 (List.mem_map_of_mem hb) b'.2 (List.mem_map_of_mem hb')
  · have := dp b hb
    omega
  · have hn : H p = none := I.hok.fresh hp
    have hlen : ((es.mergeSort (PySem.W.dataLe false fun b => b.2.py)).map (·.1)).length ≤ sizeLine := by
      rw [List.length_map, List.length_mergeSort, pm.length_eq, sizeLine_eq]; omega
    have J : Inv X pins σ (upd H p (.lst ((es.mergeSort (PySem.W.dataLe false fun b => b.2.py)).map (·.1)))) { s with heap := s1.heap, gens := s1.gens, drawn := s1.drawn, toks := s1.toks } :=
      I.call (ch := []) (Un.laid kp hp hn) (I.hok.laid kp hp ⟨hlen, out, c, each_vals eo, hg⟩) (by rw [g]; exact I.bare) (fun _ z => nomatch z)
    have e : s1 = { s with heap := s1.heap, gens := s1.gens, drawn := s1.drawn, toks := s1.toks } := by
      cases s1; cases s; cases o; rfl
    rw [e]
    exact ⟨.ref p, _, J, rfl, q p es hn pm⟩
end
/-! ### each once -/
def dedup : List D → List D
  | [] => []
  | d :: ds => if (dedup ds).any (fun e => PyData.eqv e.py d.py) = true then dedup ds else d :: dedup ds
theorem eqv_iff {a b : D} (al : PySem.W.alike a.py b.py = true) (al2 : PySem.W.alike a.py a.py = true) : PyData.eqv a.py b.py = true ↔ a = b := ⟨eq_of_alike a b al, fun e => by rw [← e]; exact PySem.W.eqv_refl_alike _ al2⟩
theorem AllA.tail {d : D} {ds : List D} (h : AllA (d :: ds)) : AllA ds := fun a ha b hb => h a (List.mem_cons_of_mem _ ha) b (List.mem_cons_of_mem _ hb)
theorem dedup_spec : ∀ {ds : List D}, AllA ds → (dedup ds).Nodup ∧ ∀ x, x ∈ dedup ds ↔ x ∈ ds
  | [], _ => ⟨List.nodup_nil, fun x => Iff.rfl⟩
  | d :: ds, al => by
    obtain ⟨n, m⟩ := dedup_spec al.tail
    have any : (dedup ds).any (fun e => PyData.eqv e.py d.py) = true ↔ d ∈ ds := by
      rw [List.any_eq_true]
      constructor
      · rintro ⟨e, he, z⟩
        have he := (m e).mp he
        rw [← (eqv_iff (al e (List.mem_cons_of_mem _ he) d List.mem_cons_self) (al e (List.mem_cons_of_mem _ he) e (List.mem_cons_of_mem _ he))).mp z]
        exact he
      · intro h
        exact ⟨d, (m d).mpr h, PySem.W.eqv_refl_alike _ (al d List.mem_cons_self d List.mem_cons_self)⟩
    unfold dedup
    by_cases c : d ∈ ds
    · rw [if_pos (any.mpr c)]
      refine ⟨n, fun x => (m x).trans ⟨List.mem_cons_of_mem _, fun h => ?_⟩⟩
      rcases List.mem_cons.mp h with rfl | h
      · exact c
      · exact h
    · rw [if_neg (fun z => c (any.mp z))]
      exact ⟨List.nodup_cons.mpr ⟨fun z => c ((m d).mp z), n⟩, fun x => by rw [List.mem_cons, List.mem_cons, m x]⟩
theorem keyOf_inj {a b : D} {k : Key} (h : keyOf b = some k) (e : keyOf a = keyOf b) : a = b := by
  rw [h] at e
  cases a <;> cases b <;> simp [keyOf] at h e ⊢ <;> (rw [← h] at e; first | (injection e) | cases e)
theorem keysAll_inj : ∀ {as bs : List D} {k : List Key}, keysAll bs = some k → keysAll as = keysAll bs → as = bs
  | [], [], _, _, _ => rfl
  | [], b :: bs, k, h, e => by
    rw [h] at e
    simp only [keysAll] at h e
    cases e
    cases h1 : keyOf b with
    | none => rw [h1] at h; cases h
    | some x =>
      rw [h1] at h
      cases h2 : keysAll bs with
      | none => rw [h2] at h; cases h
      | some y => rw [h2] at h; cases h
  | a :: as, [], k, h, e => by
    simp only [keysAll] at h e
    cases h1 : keyOf a with
    | none => rw [h1] at e; cases e
    | some x =>
      rw [h1] at e
      cases h2 : keysAll as with
      | none => rw [h2] at e; cases e
      | some y => rw [h2] at e; cases e
  | a :: as, b :: bs, k, h, e => by
    rw [h] at e
    simp only [keysAll] at h e
    cases h1 : keyOf b with
    | none => rw [h1] at h; cases h
    | some x =>
      rw [h1] at h
      cases h2 : keysAll bs with
      | none => rw [h2] at h; cases h
      | some y =>
        rw [h2] at h
        cases h
        cases g1 : keyOf a with
        | none => rw [g1] at e; cases e
        | some x' =>
          rw [g1] at e
          cases g2 : keysAll as with
          | none => rw [g2] at e; cases e
          | some y' =>
            rw [g2] at e
            cases e
            rw [keyOf_inj h1 (g1.trans h1.symm), keysAll_inj h2 (g2.trans h2.symm)]
theorem keysOf_inj {a b : D} {k : List Key} (h : keysOf b = some k) (e : keysOf a = keysOf b) : a = b := by
  cases b with
  | tup bs =>
    cases a with
    | tup as => rw [keysAll_inj h e]
    | _ => rw [h] at e; cases e
  | _ => cases h
theorem isort_perm_eq {as bs : List D} (al : AllA bs) (p : as.Perm bs) : isort as = isort bs := isort_unique al ((isort_perm as).trans p) (isort_sorted as)
def keysOkB (ds : List D) : Bool := ds.all (fun d => (keyOf d).isSome) || ds.all (fun d => (keysOf d).isSome)
def sortSetD : D → Option RV
  | .lst ds => if keysOkB ds = true ∧ sortOkB ds = true ∧ ds.length < 64 then some (.tmp (.lst (isort (dedup ds)))) else none
  | _ => none
theorem sortable_of {bs : List (V × D)} (k4 : (∀ a ∈ bs.map (·.2), (match a with
    | .tup (_ :: _) => true
    | _ => false) = true) ∨ ∀ a ∈ bs.map (·.2), (match a with
    | .non => false
    | .tup _ => false
    | _ => true) = true) : PySem.W.Sortable (bs.map fun b => b.2.py) := by
  rcases k4 with k4 | k4
  · refine .inl fun d hd => ?_
    obtain ⟨b, hb, rfl⟩ := List.mem_map.mp hd
    have z := k4 b.2 (List.mem_map_of_mem hb)
    split at z
    · rename_i y ys he
      rw [he]
      exact ⟨y.py, D.pyAll ys, by simp [D.py, D.pyAll]⟩
    · cases z
  · refine .inr fun d hd => ?_
    obtain ⟨b, hb, rfl⟩ := List.mem_map.mp hd
    have z := k4 b.2 (List.mem_map_of_mem hb)
    cases hb2 : b.2 with
    | non => rw [hb2] at z; cases z
    | tup _ => rw [hb2] at z; cases z
    | _ => exact ⟨by simp [D.py], fun xs => by simp [D.py]⟩
theorem good_sortSet {K : PySem.W.Frag} {w : World} : Good1 K (fun x H Q => rSet1 K w [x] H fun y H2 => rSort1 K w [y] H2 Q) sortSetD := by
  intro M H x d res Q dm rd e q
  cases d with
  | lst ds =>
    have e : (if keysOkB ds = true ∧ sortOkB ds = true ∧ ds.length < 64 then some (RV.tmp (.lst (isort (dedup ds)))) else none) = some res := e
    split at e
    · rename_i ok
      cases e
      obtain ⟨ok1, ok2, few⟩ := ok
      obtain ⟨l, xs, rfl, h1, h2⟩ := rd.lst
      obtain ⟨bs, e1, e2, e3⟩ := h2.zip
      subst e1; subst e2
      unfold sortOkB at ok2
      simp only [Bool.and_eq_true, Bool.or_eq_true, List.all_eq_true, decide_eq_true_eq] at ok2
      obtain ⟨⟨⟨k1, k2⟩, k3⟩, k4⟩ := ok2
      unfold keysOkB at ok1
      rw [Bool.or_eq_true, List.all_eq_true, List.all_eq_true] at ok1
      have inj : ∀ b ∈ bs, ∀ c : V × D, keyOf c.2 = keyOf b.2 → keysOf c.2 = keysOf b.2 → c.2 = b.2 := fun b hb c u1 u2 => by
        rcases ok1 with o | o
        · obtain ⟨k, hk⟩ := Option.isSome_iff_exists.mp (o b.2 (List.mem_map_of_mem hb))
          exact keyOf_inj hk u1
        · obtain ⟨k, hk⟩ := Option.isSome_iff_exists.mp (o b.2 (List.mem_map_of_mem hb))
          exact keysOf_inj hk u2
      refine ⟨l, bs, rfl, .of h1, by rw [List.length_map] at few; exact few, ?_, fun a cs ha sub all nd => ?_⟩
      · rcases ok1 with o | o
        · refine .inl fun b hb => ?_
          obtain ⟨k, hk⟩ := Option.isSome_iff_exists.mp (o b.2 (List.mem_map_of_mem hb))
          exact ⟨k, hk, (e3 b hb).key hk⟩
        · refine .inr fun b hb => ?_
          obtain ⟨k, hk⟩ := Option.isSome_iff_exists.mp (o b.2 (List.mem_map_of_mem hb))
          obtain ⟨c, z1, z2⟩ := RD.keys (.inl (e3 b hb)) hk
          exact ⟨k, c, hk, z1, z2⟩
      · have evA : Evo (fun _ => False) M H M (upd H a (SetHO w a (cs.map (·.1)))) := evo_new dm ha
        have in2 : ∀ c ∈ cs, c.2 ∈ bs.map (·.2) := fun c hc => List.mem_map_of_mem (sub c hc)
        refine ⟨a, cs, rfl, upd_same, fun b hb => (((e3 b (sub b hb)).evo evA).dp b.2 (pl_mem k1 (in2 b hb))).1, fun x hx y hy => ?_, ?_, fun b hb => k3 b.2 (in2 b hb), fun p es hp pm => ?_⟩
        · obtain ⟨b, hb, rfl⟩ := List.mem_map.mp hx
          obtain ⟨c, hc, rfl⟩ := List.mem_map.mp hy
          exact k2 _ (in2 b hb) _ (in2 c hc)
        · refine sortable_of (k4.imp (fun z y hy => ?_) fun z y hy => ?_)
          · obtain ⟨b, hb, rfl⟩ := List.mem_map.mp hy
            exact z _ (in2 b hb)
          · obtain ⟨b, hb, rfl⟩ := List.mem_map.mp hy
            exact z _ (in2 b hb)
        · have pa : p ≠ a := fun e => by rw [e, upd_same] at hp; cases hp
          have hp0 : H p = none := by rw [upd_ne pa] at hp; exact hp
          have alE : AllA (es.map (·.2)) := fun x hx y hy => by
            obtain ⟨b, hb, rfl⟩ := List.mem_map.mp hx
            obtain ⟨c, hc, rfl⟩ := List.mem_map.mp hy
            exact k2 _ (in2 b (pm.mem_iff.mp hb)) _ (in2 c (pm.mem_iff.mp hc))
          have sp := dedup_spec (ds := bs.map Prod.snd) k2
          have nd2 : (cs.map (·.2)).Nodup := by
            refine List.pairwise_map.mpr (List.Pairwise.imp (fun {b c} ne e => ne ?_) (List.pairwise_map.mp nd))
            rw [e]
          have same : (cs.map (·.2)).Perm (dedup (bs.map (·.2))) := by
            refine (List.perm_ext_iff_of_nodup nd2 sp.1).mpr fun x => ?_
            rw [sp.2 x]
            constructor
            · intro hx
              obtain ⟨c, hc, rfl⟩ := List.mem_map.mp hx
              exact in2 c hc
            · intro hx
              obtain ⟨b, hb, rfl⟩ := List.mem_map.mp hx
              obtain ⟨c, hc, u1, u2⟩ := all b hb
              rw [← inj b hb c u1 u2]
              exact List.mem_map_of_mem hc
          have e4 : (es.mergeSort (PySem.W.dataLe false fun b => b.2.py)).map (·.2) = isort (dedup (bs.map (·.2))) := by
            have z := List.map_mergeSort (r := PySem.W.dataLe false fun b : V × D => b.2.py) (s := PySem.W.dataLe false D.py) (f := Prod.snd) (l := es) fun a _ b _ => rfl
            refine z.trans ((mergeSort_isort alE).trans (isort_perm_eq (fun a ha b hb => k2 a ((sp.2 a).mp ha) b ((sp.2 b).mp hb)) ?_))
            exact (pm.map (·.2)).trans same
          have gr : Grow M H (fun b => M b ∨ b = p) (upd (upd H a (SetHO w a (cs.map (·.1)))) p (.lst ((es.mergeSort (PySem.W.dataLe false fun b => b.2.py)).map (·.1)))) := by
            refine ⟨fun b o hb => ?_, fun b n => ⟨fun z => z.elim id fun e => (n (by rw [e]; exact hp0)).elim, .inl⟩, fun b m => ?_⟩
            · rw [upd_ne (ne_of_none hb hp0), upd_ne (ne_of_none hb ha)]; exact hb
            · by_cases e : b = p
              · rw [e, upd_same]; exact fun z => nomatch z
              · have m := m.resolve_right e
                rw [upd_ne e, upd_ne fun e2 => dm b m (by rw [e2]; exact ha)]
                exact dm b m
          refine q (.ref p) _ _ gr ⟨p, rfl, hp0, .inr rfl, _, upd_same, ?_⟩
          rw [← e4]
          exact isAll_zip fun b hb => (e3 b (sub b (pm.mem_iff.mp ((List.mergeSort_perm es _).mem_iff.mp hb)))).evo (gr.evo (F := fun _ => False) dm)
    · cases e
  | _ => cases e
section
variable {X : Cx} {W : WO} {a : Expr} {fa : M RV} {pos p p2 pos2 : Pos}
theorem e_sortSet (hc : X.calm = true) (hu : X.A.units + 100 < cLine) (hm : X.mg "sorted" = none) (hm2 : X.mg "set" = none) (ha : PE X a (TEof X.K W fa)) (hg : Gl X "sorted" := by rfl) (hg2 : Gl X "set" := by rfl)
    (he : starEach [.Call (.Name "set" p2) [a] [] pos2] X.env = (false, eval (.Call (.Name "set" p2) [a] [] pos2) X.env) :: starEach [] X.env := by rfl) (hpl : (backTo pos (starEach [] X.env)).any (·.1) = false := by rfl)
    (he2 : starEach [a] X.env = (false, eval a X.env) :: starEach [] X.env := by rfl) (hpl2 : (backTo pos2 (starEach [] X.env)).any (·.1) = false := by rfl) :
    PE X (.Call (.Name "sorted" p) [.Call (.Name "set" p2) [a] [] pos2] [] pos) (TEof X.K W (op1 sortSetD fa)) := by
  refine PE_weak (pe_callB (cr_sort1 hc hu) hg hm (by decide +kernel) (pa_cons (pe_callTy (cr_set1 hc hu) hg2 hm2 (by decide +kernel) (pa_cons ha pa_nil he2) (by decide) (by decide) he2 hpl2) pa_nil he) (by decide) (by decide) he hpl) fun σ H Q h => ?_
  exact t_op1 (r := fun x H Q => rSet1 X.K X.w [x] H fun y H2 => rSort1 X.K X.w [y] H2 Q) good_sortSet h
end
end Fd

/-! Fd14: small things for the printed texts. -/
namespace Fd
open PySem L2
theorem fn_bad {P : Program} {w : World} {K : PySem.W.Frag} {mg : Str → Option Value} {base : Heap} {x qual : Str} {params : Arguments} {body : List Stmt} {scope : Scope} {dvs : List V} {kws : List (Str × V)} {f : Addr} {fd : FuncData} {ps : List Str} {k n : Nat}
    (F : FunD K x qual params body scope dvs kws f fd) : FnOk P w K mg base CX0 k f fd ps (spF K n fun _ => .bad) :=
  ⟨fun vs H Q E h => by obtain ⟨_, _, _, _, _, p, _⟩ := h; exact p.elim, fun A outer s H args us vs Q E hr he hb hv hs => by obtain ⟨_, _, _, _, _, p, _⟩ := hs; exact p.elim⟩
theorem rm100 {k : Nat} {A : Around} (r : Room k A) : A.units + 100 < cLine := by have := r.un; omega
theorem rm64 {k : Nat} {A : Around} (r : Room k A) : A.units + 64 < cLine := by have := r.un; omega
end Fd

/-! Fd15: the law's def at the script. -/
namespace Fd
open PySem L2
theorem law_sp {K : PySem.W.Frag} {f : FnS} {m : Nat} (h : ∀ ns : List Int, ns.length ≤ m → ∃ ss, f [.val (.scr ns)] = .ok (.val (.bl true)) ss) {H : Hp} {a : Addr} {ns : List Int} {E : XK} (hl : ns.length ≤ m) (hS : SqL K H a (ns.map V.int)) : spF K 1 f [.ref a] H (fun v _ => v = .bl true) E := by
  obtain ⟨ss, e⟩ := h ns hl
  refine ⟨rfl, fun _ => False, fun _ => False, [.val (.scr ns)], ⟨rfl, fun i s q => ?_, fun i j s t a q1 _ m1 => ?_, fun i s a q m => ?_, fun i s q m => ?_, fun _ z => z.elim, fun _ z => z.elim⟩, ?_⟩
  · cases i with
    | zero =>
      simp at q; subst q
      exact ⟨.ref a, rfl, .scr (hS.elim (fun z => .inl ⟨z, id⟩) .inr)⟩
    | succ i => simp at q
  · cases i with
    | zero => simp at q1; subst q1; cases m1
    | succ i => simp at q1
  · cases i with
    | zero => simp at q; subst q; cases m
    | succ i => simp at q
  · rfl
  · rw [e]
    refine ⟨fun v M' H' ev rl rv nf => ?_, trivial⟩
    have z : Is M' K H' v (.bl true) := rv
    cases z; rfl
end Fd

/-! Fm1: reckoning with the combinators. -/
namespace Fd
open PySem L2
section
variable {i j : Int}
theorem modD_ok (h : j ≠ 0) : modD (.int i) (.int j) = some (.val (.int (i.fmod j))) := by
  show (if decide (j ≠ 0) = true then some (RV.val (.int (i.fmod j))) else none) = _
  rw [if_pos (decide_eq_true h)]
theorem fdivD_ok (h : j ≠ 0) (h2 : j.natAbs < 1073741824) : fdivD (.int i) (.int j) = some (.val (.int (i.fdiv j))) := by
  show (if decide (j ≠ 0 ∧ j.natAbs < 1073741824) = true then some (RV.val (.int (i.fdiv j))) else none) = _
  rw [if_pos (decide_eq_true ⟨h, h2⟩)]
theorem powD_ok (h : 0 ≤ j) (h2 : j ≤ 1000000) (h3 : i.natAbs < 2 ^ 64) : powD (.int i) (.int j) = some (.val (.int (i ^ j.toNat))) := by
  show (if decide (0 ≤ j ∧ j ≤ 1000000 ∧ i.natAbs < 2 ^ 64) = true then some (RV.val (.int (i ^ j.toNat))) else none) = _
  rw [if_pos (decide_eq_true ⟨h, h2, h3⟩)]
theorem addD_ok : addD (.int i) (.int j) = some (.val (.int (i + j))) := rfl
theorem subD_ok : subD (.int i) (.int j) = some (.val (.int (i - j))) := rfl
theorem mulD_ok (h : (-(2 ^ 64) < i ∧ i < 2 ^ 64) ∨ (-(2 ^ 64) < j ∧ j < 2 ^ 64)) : mulD (.int i) (.int j) = some (.val (.int (i * j))) := by
  show (if _ then _ else _) = _
  rw [if_pos h]
theorem negD_ok : negD (.int i) = some (.val (.int (-i))) := rfl
theorem ltD_ok : ltD (.int i) (.int j) = some (.val (.bl (decide (i < j)))) := rfl
theorem leD_ok : leD (.int i) (.int j) = some (.val (.bl (decide (i ≤ j)))) := rfl
theorem gtD_ok : gtD (.int i) (.int j) = some (.val (.bl (decide (j < i)))) := rfl
theorem geD_ok : geD (.int i) (.int j) = some (.val (.bl (decide (j ≤ i)))) := rfl
end
theorem dat_val (ρ : Ev) (d : D) : RV.dat ρ (.val d) = some d := rfl
theorem dat_tmp (ρ : Ev) (d : D) : RV.dat ρ (.tmp d) = some d := rfl
theorem dat_bor (ρ : Ev) (i : Nat) : RV.dat ρ (.bor i) = (ρ[i]?).bind Slot.dat := rfl
section
variable {α β γ : Type}
theorem bnd_at (f : M α) (g : α → M β) (ρ : Ev) : bnd f g ρ = (f ρ).bnd g := rfl
theorem bnd_of {f : M α} {g : α → M β} {ρ ρ' : Ev} {a : α} (h : f ρ = .ok a ρ') : bnd f g ρ = g a ρ' := by unfold bnd; rw [h]; rfl
end
theorem sq_nx {f g : M Fl} {ρ ρ' : Ev} (h : f ρ = .ok .nx ρ') : sq f g ρ = g ρ' := by unfold sq; rw [bnd_of h]; rfl
theorem sq_rt {f g : M Fl} {ρ ρ' : Ev} {r : RV} (h : f ρ = .ok (.rt r) ρ') : sq f g ρ = .ok (.rt r) ρ' := by unfold sq; rw [bnd_of h]; rfl
theorem forS_dat {fi : M ItS} {h : Tg} {body : M Fl} {ρ ρ' : Ev} {ds : List D} (e : fi ρ = .ok (.dat ds) ρ') : forS fi h body ρ = forL h body ds ρ' := by unfold forS; rw [bnd_of e]
/-- a loop that goes on to its end -/
theorem forL_all {h : Tg} {body : M Fl} (I : Nat → Ev → Prop) : ∀ (ds : List D) (k : Nat) (ρ : Ev), I k ρ → (∀ (i : Nat) (d : D) (ρ : Ev), ds[i]? = some d → I (k + i) ρ → ∃ ρ1 ρ2, h d ρ = some ρ1 ∧ body ρ1 = .ok .nx ρ2 ∧ I (k + i + 1) ρ2) → ∃ ρ', forL h body ds ρ = .ok .nx ρ' ∧ I (k + ds.length) ρ'
  | [], k, ρ, i0, _ => ⟨ρ, rfl, i0⟩
  | d :: ds, k, ρ, i0, st => by
    obtain ⟨ρ1, ρ2, e1, e2, i1⟩ := st 0 d ρ rfl i0
    obtain ⟨ρ', e3, i2⟩ := forL_all I ds (k + 1) ρ2 (by simpa using i1) fun i d ρ hd hi => by
      obtain ⟨a, b, u1, u2, u3⟩ := st (i + 1) d ρ (by simpa using hd) (by rw [show k + (i + 1) = k + 1 + i by omega]; exact hi)
      exact ⟨a, b, u1, u2, by rw [show k + 1 + i + 1 = k + (i + 1) + 1 by omega]; exact u3⟩
    refine ⟨ρ', ?_, by rw [List.length_cons, show k + (ds.length + 1) = k + 1 + ds.length by omega]; exact i2⟩
    show turnF h body (forL h body ds) d ρ = _
    unfold turnF
    rw [e1]
    show bnd body _ ρ1 = _
    rw [bnd_of e2]
    exact e3
theorem forL_run {h : Tg} {body : M Fl} (I : Nat → Ev → Prop) {ds : List D} {ρ : Ev} (i0 : I 0 ρ) (st : ∀ (i : Nat) (d : D) (ρ : Ev), ds[i]? = some d → I i ρ → ∃ ρ1 ρ2, h d ρ = some ρ1 ∧ body ρ1 = .ok .nx ρ2 ∧ I (i + 1) ρ2) : ∃ ρ', forL h body ds ρ = .ok .nx ρ' ∧ I ds.length ρ' := by
  have z := forL_all (h := h) (body := body) I ds 0 ρ i0 fun i d ρ hd hi => by
    rw [Nat.zero_add] at hi ⊢
    exact st i d ρ hd hi
  rw [Nat.zero_add] at z
  exact z
/-! ### comprehensions that change nothing else -/
section
variable {α : Type} {enc : α → D} {P : α → Bool} {G : α → D} {h : Tg} {ct : M Bool} {fe : M RV} {vs : List Nat} {ρw : Ev}
def Pure1 (h : Tg) (ct : M Bool) (fe : M RV) (vs : List Nat) (ρw : Ev) (d : D) (p : Bool) (g : D) : Prop := ∃ ρ1, h d ρw = some ρ1 ∧ ct ρ1 = .ok p ρ1 ∧ (p = true → fe ρ1 = .ok (.val g) ρ1) ∧ wipeE ρ1 vs = ρw
theorem turn_pure {d g : D} {p : Bool} {k : List D → M (List D)} {acc : List D} (t : Pure1 h ct fe vs ρw d p g) (l : acc.length < 1000000) : lcTurn h ct fe vs k acc d ρw = k (if p = true then acc ++ [g] else acc) ρw := by
  obtain ⟨ρ1, e1, e2, e3, e4⟩ := t
  unfold lcTurn
  rw [e1]
  dsimp only
  rw [bnd_of e2]
  cases p with
  | true =>
    rw [if_pos rfl, if_pos rfl, bnd_of (e3 rfl)]
    dsimp only
    rw [if_pos l, e4]
  | false => rw [if_neg Bool.false_ne_true, if_neg Bool.false_ne_true, e4]
theorem lcL_pure : ∀ (L : List α) (acc : List D), (∀ a ∈ L, Pure1 h ct fe vs ρw (enc a) (P a) (G a)) → acc.length + L.length ≤ 1000000 → lcL h ct fe vs (L.map enc) acc ρw = .ok (acc ++ (L.filter P).map G) ρw
  | [], acc, _, _ => by show ret acc ρw = _; simp [ret]
  | a :: L, acc, t, l => by
    rw [List.length_cons] at l
    show lcTurn h ct fe vs (lcL h ct fe vs (L.map enc)) acc (enc a) ρw = _
    rw [turn_pure (t a List.mem_cons_self) (by omega)]
    have t' : ∀ b ∈ L, Pure1 h ct fe vs ρw (enc b) (P b) (G b) := fun b hb => t b (List.mem_cons_of_mem _ hb)
    by_cases p : P a = true
    · rw [if_pos p, lcL_pure L _ t' (by simp; omega), List.filter_cons_of_pos p]
      simp
    · rw [if_neg p, lcL_pure L _ t' (by omega), List.filter_cons_of_neg p]
theorem lcB_pure {i : Nat} {l : Bool} {L : List α} (hi : ρw[i]? = some (.lock (.lst (L.map enc)) l)) : ∀ (n k : Nat) (acc : List D), n + k = L.length → (∀ a ∈ L, Pure1 h ct fe vs ρw (enc a) (P a) (G a)) → acc.length + n ≤ 1000000 → lcB h ct fe vs i n k acc ρw = .ok (acc ++ ((L.drop k).filter P).map G) ρw
  | 0, k, acc, e, _, _ => by
    unfold lcB
    rw [hi]
    dsimp only
    rw [if_pos (by simp; omega), List.drop_eq_nil_of_le (by omega)]
    simp
  | n + 1, k, acc, e, t, len => by
    unfold lcB
    rw [hi]
    dsimp only
    have hk : k < L.length := by omega
    rw [List.getElem?_map, List.getElem?_eq_getElem hk]
    dsimp only [Option.map_some]
    rw [turn_pure (t L[k] (List.getElem_mem hk)) (by omega), List.drop_eq_getElem_cons hk]
    by_cases p : P L[k] = true
    · rw [if_pos p, lcB_pure hi n (k + 1) _ (by omega) t (by simp; omega), List.filter_cons_of_pos p]
      simp
    · rw [if_neg p, lcB_pure hi n (k + 1) _ (by omega) t (by omega), List.filter_cons_of_neg p]
theorem lcE_dat {fi : M ItS} {ρ ρ1 : Ev} {L : List α} (e : fi ρ = .ok (.dat (L.map enc)) ρ1) (ok : wipeOk ρ1 vs = true) (hw : wipeE ρ1 vs = ρw) (hb : backE ρ1 ρw vs = ρ1) (l : L.length ≤ 1000000) (t : ∀ a ∈ L, Pure1 h ct fe vs ρw (enc a) (P a) (G a)) :
    lcE vs fi h ct fe ρ = .ok (.tmp (.lst ((L.filter P).map G))) ρ1 := by
  unfold lcE
  rw [bnd_of e]
  dsimp only
  rw [if_pos ok, hw, lcL_pure L [] t (by simpa using l)]
  simp [finLc, hb]
theorem lcE_lock {fi : M ItS} {ρ ρ1 : Ev} {L : List α} {i : Nat} {b : Bool} (e : fi ρ = .ok (.slot i) ρ1) (ok : wipeOk ρ1 vs = true) (ni : vs.contains i = false) (hs : ρ1[i]? = some (if b = true then .lent (.lst (L.map enc)) else .own (.lst (L.map enc)))) (hw : wipeE (ρ1.set i (.lock (.lst (L.map enc)) b)) vs = ρw) (hl : ρw[i]? = some (.lock (.lst (L.map enc)) b))
    (hb : backE ρ1 (ρw.set i (unlk (.lst (L.map enc)) b)) vs = ρ1) (l : L.length ≤ 1000000) (t : ∀ a ∈ L, Pure1 h ct fe vs ρw (enc a) (P a) (G a)) : lcE vs fi h ct fe ρ = .ok (.tmp (.lst ((L.filter P).map G))) ρ1 := by
  have run := lcB_pure (P := P) (G := G) (fe := fe) (ct := ct) (h := h) (vs := vs) hl L.length 0 [] (by omega) t (by simpa using l)
  unfold lcE
  rw [bnd_of e]
  dsimp only
  rw [if_pos ok, ni, if_neg Bool.false_ne_true, hs]
  cases b with
  | true =>
    rw [if_pos rfl]
    dsimp only
    rw [hw, List.length_map, run]
    simp [finLc, unO, hl, hb]
  | false =>
    rw [if_neg Bool.false_ne_true]
    dsimp only
    rw [hw, List.length_map, run]
    simp [finLc, unO, hl, hb]
/-- two fors -/
theorem lc2L_pure {β : Type} {enc1 : α → β → D} {G1 : α → β → D} {inner : α → List β} {h1 : Tg} {fi1 : M ItS} {vs1 : List Nat} : ∀ (L : List α) (acc : List D), (∀ a ∈ L, ∃ ρ1 ρ2, h (enc a) ρw = some ρ1 ∧ fi1 ρ1 = .ok (.dat ((inner a).map (enc1 a))) ρ1 ∧ wipeE ρ1 vs1 = ρ2 ∧ wipeE ρ2 vs = ρw ∧ ∀ b ∈ inner a, Pure1 h1 yes fe vs1 ρ2 (enc1 a b) true (G1 a b)) →
      acc.length + (L.map fun a => (inner a).length).sum ≤ 1000000 → lc2L h yes fi1 h1 yes fe vs vs1 (L.map enc) acc ρw = .ok (acc ++ L.flatMap fun a => (inner a).map (G1 a)) ρw
  | [], acc, _, _ => by show ret acc ρw = _; simp [ret]
  | a :: L, acc, t, l => by
    rw [List.map_cons, List.sum_cons] at l
    obtain ⟨ρ1, ρ2, e1, e2, e3, e4, e5⟩ := t a List.mem_cons_self
    have run := lcL_pure (P := fun _ => true) (G := G1 a) (enc := enc1 a) (h := h1) (ct := yes) (fe := fe) (vs := vs1) (ρw := ρ2) (inner a) acc e5 (by omega)
    have ft : (inner a).filter (fun _ => true) = inner a := List.filter_eq_self.mpr fun _ _ => rfl
    rw [ft] at run
    show lc2L h yes fi1 h1 yes fe vs vs1 (enc a :: L.map enc) acc ρw = _
    unfold lc2L
    rw [e1]
    dsimp only
    rw [bnd_of (show yes ρ1 = .ok true ρ1 from rfl), if_pos rfl, bnd_of e2]
    dsimp only
    rw [e3, bnd_of run]
    rw [e4, lc2L_pure L _ (fun b hb => t b (List.mem_cons_of_mem _ hb)) (by simp; omega)]
    simp
theorem lc2E_dat {β : Type} {enc1 : α → β → D} {G1 : α → β → D} {inner : α → List β} {h1 : Tg} {fi fi1 : M ItS} {vs1 : List Nat} {ρ ρ0 : Ev} {L : List α} (e : fi ρ = .ok (.dat (L.map enc)) ρ0) (ok : wipeOk ρ0 vs = true) (hw : wipeE ρ0 vs = ρw) (hb : backE ρ0 ρw vs = ρ0)
    (t : ∀ a ∈ L, ∃ ρ1 ρ2, h (enc a) ρw = some ρ1 ∧ fi1 ρ1 = .ok (.dat ((inner a).map (enc1 a))) ρ1 ∧ wipeE ρ1 vs1 = ρ2 ∧ wipeE ρ2 vs = ρw ∧ ∀ b ∈ inner a, Pure1 h1 yes fe vs1 ρ2 (enc1 a b) true (G1 a b)) (l : (L.map fun a => (inner a).length).sum ≤ 1000000) :
    lc2E vs vs1 fi h yes fi1 h1 yes fe ρ = .ok (.tmp (.lst (L.flatMap fun a => (inner a).map (G1 a)))) ρ0 := by
  unfold lc2E
  rw [bnd_of e]
  dsimp only
  rw [if_pos ok, hw, lc2L_pure L [] t (by simpa using l)]
  simp [finLc, hb]
end
end Fd

/-! Ft1: what a combinator does to an environment that is known slot by slot. -/
namespace Fd
open PySem L2
/-- what is known of a slot: all; no or data; that it may be stored in -/
inductive SS where
  | sl (s : Slot)
  | nv
  | jk
  | lf (d : D)
def SS.ok : SS → Slot → Prop
  | .sl s, t => t = s
  | .nv, t => t = .no ∨ ∃ d, t = .val d
  | .jk, t => t.free = true
  | .lf d, t => t = .lent d ∨ t = .lentF d
inductive Mt : List SS → Ev → Prop
  | nil : Mt [] []
  | cons {a : SS} {s : Slot} {S : List SS} {ρ : Ev} : a.ok s → Mt S ρ → Mt (a :: S) (s :: ρ)
def TE {α : Type} (S : List SS) (f : M α) (a : α) (S' : List SS) : Prop := ∀ ρ, Mt S ρ → ∃ ρ', f ρ = .ok a ρ' ∧ Mt S' ρ'
def TG (S : List SS) (h : Tg) (d : D) (S' : List SS) : Prop := ∀ ρ, Mt S ρ → ∃ ρ', h d ρ = some ρ' ∧ Mt S' ρ'
def TGs (S : List SS) (h : Tgs) (d : List D) (S' : List SS) : Prop := ∀ ρ, Mt S ρ → ∃ ρ', h d ρ = some ρ' ∧ Mt S' ρ'
theorem Mt.len {S : List SS} {ρ : Ev} (h : Mt S ρ) : ρ.length = S.length := by
  induction h with
  | nil => rfl
  | cons _ _ ih => simp [ih]
theorem Mt.get {S : List SS} {ρ : Ev} (h : Mt S ρ) : ∀ {i : Nat} {a : SS}, S[i]? = some a → ∃ s, ρ[i]? = some s ∧ a.ok s := by
  induction h with
  | nil => intro i a e; cases e
  | cons h0 _ ih =>
    intro i a e
    cases i with
    | zero => cases e; exact ⟨_, rfl, h0⟩
    | succ i => exact ih (by simpa using e)
theorem Mt.set {S : List SS} {ρ : Ev} (h : Mt S ρ) {a : SS} {s : Slot} (k : a.ok s) : ∀ {i : Nat}, Mt (S.set i a) (ρ.set i s) := by
  induction h with
  | nil => intro i; exact .nil
  | cons h0 h1 ih =>
    intro i
    cases i with
    | zero => exact .cons k h1
    | succ i => exact .cons h0 ih
theorem Mt.put {S : List SS} {ρ : Ev} (h : Mt S ρ) {s : Slot} {i : Nat} : Mt (S.set i (.sl s)) (ρ.set i s) := h.set (a := .sl s) rfl
def slS (S : List SS) (i : Nat) : Option Slot := match S[i]? with
  | some (.sl s) => some s
  | _ => none
theorem Mt.sl {S : List SS} {ρ : Ev} (h : Mt S ρ) {i : Nat} {s : Slot} (e : slS S i = some s) : ρ[i]? = some s := by
  unfold slS at e
  split at e
  · rename_i s' e'
    cases e
    obtain ⟨t, h1, h2⟩ := h.get e'
    cases h2; exact h1
  · cases e
def SS.free : SS → Bool
  | .sl s => s.free
  | .lf _ => false
  | _ => true
def frS (S : List SS) (i : Nat) : Bool := match S[i]? with
  | some s => s.free
  | _ => false
theorem Mt.fr {S : List SS} {ρ : Ev} (h : Mt S ρ) {i : Nat} (e : frS S i = true) : ∃ s, ρ[i]? = some s ∧ s.free = true := by
  unfold frS at e
  split at e
  · rename_i a e'
    obtain ⟨t, h1, h2⟩ := h.get e'
    refine ⟨t, h1, ?_⟩
    cases a with
    | sl s => cases h2; exact e
    | nv => rcases h2 with rfl | ⟨_, rfl⟩ <;> rfl
    | jk => exact h2
    | lf _ => cases e
  · cases e
def datR (S : List SS) : RV → Option D
  | .val d => some d
  | .tmp d => some d
  | .bor i => (slS S i).bind Slot.dat
theorem Mt.dat {S : List SS} {ρ : Ev} (h : Mt S ρ) {r : RV} {d : D} (e : datR S r = some d) : r.dat ρ = some d := by
  cases r with
  | val => exact e
  | tmp => exact e
  | bor i =>
    obtain ⟨s, h1, h2⟩ := Option.bind_eq_some_iff.mp (show (slS S i).bind Slot.dat = some d from e)
    show (ρ[i]?).bind Slot.dat = _
    rw [h.sl h1]; exact h2
def datRs (S : List SS) : List RV → Option (List D)
  | [] => some []
  | r :: rs => (datR S r).bind fun d => (datRs S rs).map fun ds => d :: ds
theorem Mt.dats {S : List SS} {ρ : Ev} (h : Mt S ρ) : ∀ {rs : List RV} {ds : List D}, datRs S rs = some ds → datsOf ρ rs = some ds
  | [], ds, e => e
  | r :: rs, ds, e => by
    obtain ⟨d, h1, h2⟩ := Option.bind_eq_some_iff.mp (show (datR S r).bind _ = some ds from e)
    obtain ⟨ds', h3, rfl⟩ := Option.map_eq_some_iff.mp h2
    unfold datsOf
    rw [h.dat h1, h.dats h3]; rfl
/-! ### weaker -/
inductive Sub : List SS → List SS → Prop
  | nil : Sub [] []
  | keep {a : SS} {S T : List SS} : Sub S T → Sub (a :: S) (a :: T)
  | no {S T : List SS} : Sub S T → Sub (.sl .no :: S) (.nv :: T)
  | val {d : D} {S T : List SS} : Sub S T → Sub (.sl (.val d) :: S) (.nv :: T)
  | fr {a : SS} {S T : List SS} : a.free = true → Sub S T → Sub (a :: S) (.jk :: T)
  | lf1 {d : D} {S T : List SS} : Sub S T → Sub (.sl (.lent d) :: S) (.lf d :: T)
  | lf2 {d : D} {S T : List SS} : Sub S T → Sub (.sl (.lentF d) :: S) (.lf d :: T)
theorem Sub.rfl' : ∀ {S : List SS}, Sub S S
  | [] => .nil
  | _ :: _ => .keep Sub.rfl'
theorem Sub.mt {S T : List SS} (h : Sub S T) : ∀ {ρ : Ev}, Mt S ρ → Mt T ρ := by
  induction h with
  | nil => intro _ m; exact m
  | keep _ ih => intro _ m; cases m with | cons a b => exact .cons a (ih b)
  | no _ ih => intro _ m; cases m with | cons a b => exact .cons (.inl a) (ih b)
  | val _ ih => intro _ m; cases m with | cons a b => exact .cons (.inr ⟨_, a⟩) (ih b)
  | lf1 _ ih => intro _ m; cases m with | cons a b => exact .cons (.inl a) (ih b)
  | lf2 _ ih => intro _ m; cases m with | cons a b => exact .cons (.inr a) (ih b)
  | @fr a S T f _ ih =>
    intro _ m
    cases m with
    | cons h0 b =>
      refine .cons ?_ (ih b)
      cases a with
      | sl s => cases h0; exact f
      | nv => rcases h0 with rfl | ⟨_, rfl⟩ <;> rfl
      | jk => exact h0
      | lf _ => cases f
section
variable {α : Type} {S S1 S2 S3 : List SS} {f : M α} {a : α}
theorem TE.pre (w : Sub S S1) (h : TE S1 f a S2) : TE S f a S2 := fun ρ m => h ρ (w.mt m)
theorem TE.post (h : TE S f a S1) (w : Sub S1 S2) : TE S f a S2 := fun ρ m => by
  obtain ⟨ρ', e, m'⟩ := h ρ m
  exact ⟨ρ', e, w.mt m'⟩
theorem TE.bnd {β : Type} {g : α → M β} {b : β} (h : TE S f a S1) (k : TE S1 (g a) b S2) : TE S (bnd f g) b S2 := fun ρ m => by
  obtain ⟨ρ1, e1, m1⟩ := h ρ m
  obtain ⟨ρ2, e2, m2⟩ := k ρ1 m1
  exact ⟨ρ2, by unfold Fd.bnd; rw [e1]; exact e2, m2⟩
theorem TE.ret : TE S (Fd.ret a) a S := fun ρ m => ⟨ρ, rfl, m⟩
end
section
variable {S S1 S2 S3 : List SS} {fa fb fe : M RV} {ra rb r : RV} {a b d : D} {fs : M (List RV)} {rs : List RV} {ds : List D}
theorem te_con : TE S (con d) (.val d) S := .ret
def refR (i : Nat) : Slot → Option RV
  | .val d => some (.val d)
  | .lentF d => some (.val d)
  | .own _ => some (.bor i)
  | .lent _ => some (.bor i)
  | .lock _ _ => some (.bor i)
  | .no => none
theorem te_ref {i : Nat} (h : (slS S i).bind (refR i) = some r) : TE S (ref i) r S := fun ρ m => by
  obtain ⟨s, h1, h2⟩ := Option.bind_eq_some_iff.mp h
  refine ⟨ρ, ?_, m⟩
  unfold ref
  rw [m.sl h1]
  cases s <;> cases h2 <;> rfl
theorem te_op2 {g : D → D → Option RV} (ha : TE S fa ra S1) (hb : TE S1 fb rb S2) (ea : datR S2 ra = some a) (eb : datR S2 rb = some b) (hg : g a b = some r) : TE S (op2 g fa fb) r S2 :=
  ha.bnd (hb.bnd fun ρ m => ⟨ρ, by unfold fin2; rw [m.dat ea, m.dat eb]; dsimp only; rw [hg], m⟩)
theorem te_op1 {g : D → Option RV} (ha : TE S fa ra S1) (ea : datR S1 ra = some a) (hg : g a = some r) : TE S (op1 g fa) r S1 :=
  ha.bnd fun ρ m => ⟨ρ, by unfold fin1; rw [m.dat ea]; dsimp only; rw [hg], m⟩
theorem te_tst {k : Bool} (ha : TE S fa ra S1) (ea : datR S1 ra = some a) (ht : truth a = some k) : TE S (tst fa) k S1 :=
  ha.bnd fun ρ m => ⟨ρ, by show (match ra.dat ρ with | some d => _ | none => _) = _; rw [m.dat ea]; dsimp only; rw [ht], m⟩
section
variable {ca cb : M Bool} {k k2 : Bool}
theorem te_and (ha : TE S ca k S1) (hb : k = true → TE S1 cb k2 S1) : TE S (bAnd ca cb) (k && k2) S1 := ha.bnd (by
  cases k with
  | true => exact hb rfl
  | false => exact .ret)
theorem te_or (ha : TE S ca k S1) (hb : k = false → TE S1 cb k2 S1) : TE S (bOr ca cb) (k || k2) S1 := ha.bnd (by
  cases k with
  | true => exact .ret
  | false => exact hb rfl)
theorem te_not (ha : TE S ca k S1) : TE S (bNot ca) (!k) S1 := ha.bnd .ret
theorem te_andX {R : Bool} {T : Bool → List SS} (ha : TE S ca k S1) (hb : k = true → TE S1 cb k2 (T true)) (hs : k = false → Sub S1 (T false)) : TE S (bAnd ca cb) (k && k2) (T k) := ha.bnd (by
  cases k with
  | true => exact hb rfl
  | false => exact TE.ret.post (hs rfl))
theorem te_orX {R : Bool} {T : Bool → List SS} (ha : TE S ca k S1) (hb : k = false → TE S1 cb k2 (T false)) (hs : k = true → Sub S1 (T true)) : TE S (bOr ca cb) (k || k2) (T k) := ha.bnd (by
  cases k with
  | true => exact TE.ret.post (hs rfl)
  | false => exact hb rfl)
theorem te_eAnd (ha : TE S fa ra S1) (ea : datR S1 ra = some (.bl k)) (hb : k = true → TE S1 fb (.val (.bl k2)) S1) : TE S (eAnd fa fb) (.val (.bl (k && k2))) S1 := ha.bnd (by
  cases k with
  | true =>
    intro ρ m
    dsimp only
    rw [m.dat ea]
    exact hb rfl ρ m
  | false =>
    intro ρ m
    dsimp only
    rw [m.dat ea]
    exact ⟨ρ, rfl, m⟩)
theorem te_eOr (ha : TE S fa ra S1) (ea : datR S1 ra = some (.bl k)) (hb : k = false → TE S1 fb (.val (.bl k2)) S1) : TE S (eOr fa fb) (.val (.bl (k || k2))) S1 := ha.bnd (by
  cases k with
  | true =>
    intro ρ m
    dsimp only
    rw [m.dat ea]
    exact ⟨ρ, rfl, m⟩
  | false =>
    intro ρ m
    dsimp only
    rw [m.dat ea]
    exact hb rfl ρ m)
theorem te_eNot (ha : TE S fa ra S1) (ea : datR S1 ra = some (.bl k)) : TE S (op1 notD fa) (.val (.bl (!k))) S1 := te_op1 ha ea rfl
theorem te_eIf {R : Bool → RV} {T : Bool → List SS} (hc : TE S ca k S1) (ha : k = true → TE S1 fa (R true) (T true)) (hb : k = false → TE S1 fb (R false) (T false)) : TE S (eIf ca fa fb) (R k) (T k) := hc.bnd (by
  cases k with
  | true => exact ha rfl
  | false => exact hb rfl)
/-- x or y with a value of the first kind -/
theorem te_eOrT {T : Bool → List SS} {R : Bool → RV} (ha : TE S fa ra S1) (ea : datR S1 ra = some a) (ht : truth a = some k) (h1 : k = true → R true = ra ∧ T true = S1) (hb : k = false → TE S1 fb (R false) (T false)) : TE S (eOrT fa fb) (R k) (T k) := ha.bnd (by
  intro ρ m
  dsimp only
  rw [m.dat ea]
  dsimp only
  rw [ht]
  cases k with
  | true => obtain ⟨e1, e2⟩ := h1 rfl; rw [e1, e2]; exact ⟨ρ, rfl, m⟩
  | false => exact hb rfl ρ m)
end
theorem te_nil : TE S aNil [] S := .ret
theorem te_cons (ha : TE S fa r S1) (hs : TE S1 fs rs S2) : TE S (aCons fa fs) (r :: rs) S2 := ha.bnd (hs.bnd .ret)
theorem te_callB {g : List D → Option RV} (hs : TE S fs rs S1) (e : datRs S1 rs = some ds) (hg : g ds = some r) : TE S (callB g fs) r S1 :=
  hs.bnd fun ρ m => ⟨ρ, by unfold finL; rw [m.dats e]; dsimp only; rw [hg], m⟩
theorem te_tup (hs : TE S fs rs S1) (e : valsOf rs = some ds) (l : ds.length ≤ 1000) : TE S (tupE fs) (.val (.tup ds)) S1 :=
  hs.bnd fun ρ m => ⟨ρ, by show (match valsOf rs with | some ds => _ | none => _) = _; rw [e]; dsimp only; rw [if_pos l], m⟩
theorem te_lst (hs : TE S fs rs S1) (e : valsOf rs = some ds) (l : ds.length ≤ 1000) : TE S (lstE fs) (.tmp (.lst ds)) S1 :=
  hs.bnd fun ρ m => ⟨ρ, by show (match valsOf rs with | some ds => _ | none => _) = _; rw [e]; dsimp only; rw [if_pos l], m⟩
/-! ### out of a slot -/
def vlS (S : List SS) : RV → Option (RV × List SS)
  | .bor i => match slS S i with
    | some (.own d) => some (.val d, S.set i (.sl (.val d)))
    | some (.lent d) => some (.val d, S.set i (.sl (.lentF d)))
    | some (.val d) => some (.val d, S)
    | some (.lentF d) => some (.val d, S)
    | _ => none
  | r => some (r, S)
def mvS (S : List SS) : RV → Option (RV × List SS)
  | .bor i => match slS S i with
    | some (.own d) => some (.tmp d, S.set i (.sl .no))
    | some (.lent d) => some (.val d, S.set i (.sl (.lentF d)))
    | some (.val d) => some (.val d, S)
    | some (.lentF d) => some (.val d, S)
    | _ => none
  | r => some (r, S)
def fzS (S : List SS) : RV → Option (RV × List SS)
  | .tmp d => some (.val d, S)
  | r => vlS S r
theorem te_vlR (h : vlS S r = some (rb, S1)) : TE S (vlR r) rb S1 := fun ρ m => by
  cases r with
  | val d => cases h; exact ⟨ρ, rfl, m⟩
  | tmp d => cases h; exact ⟨ρ, rfl, m⟩
  | bor i =>
    unfold vlS at h
    unfold vlR
    dsimp only at h ⊢
    split at h
    · rename_i d e; cases h; rw [m.sl e]; exact ⟨_, rfl, m.put⟩
    · rename_i d e; cases h; rw [m.sl e]; exact ⟨_, rfl, m.put⟩
    · rename_i d e; cases h; rw [m.sl e]; exact ⟨_, rfl, m⟩
    · rename_i d e; cases h; rw [m.sl e]; exact ⟨_, rfl, m⟩
    · cases h
theorem te_mvR (h : mvS S r = some (rb, S1)) : TE S (mvR r) rb S1 := fun ρ m => by
  cases r with
  | val d => cases h; exact ⟨ρ, rfl, m⟩
  | tmp d => cases h; exact ⟨ρ, rfl, m⟩
  | bor i =>
    unfold mvS at h
    unfold mvR
    dsimp only at h ⊢
    split at h
    · rename_i d e; cases h; rw [m.sl e]; exact ⟨_, rfl, m.put⟩
    · rename_i d e; cases h; rw [m.sl e]; exact ⟨_, rfl, m.put⟩
    · rename_i d e; cases h; rw [m.sl e]; exact ⟨_, rfl, m⟩
    · rename_i d e; cases h; rw [m.sl e]; exact ⟨_, rfl, m⟩
    · cases h
theorem te_vl (ha : TE S fa ra S1) (h : vlS S1 ra = some (r, S2)) : TE S (vl fa) r S2 := ha.bnd (te_vlR h)
theorem te_mv (ha : TE S fa ra S1) (h : mvS S1 ra = some (r, S2)) : TE S (mv fa) r S2 := ha.bnd (te_mvR h)
theorem te_fz (ha : TE S fa ra S1) (h : fzS S1 ra = some (r, S2)) : TE S (fz fa) r S2 := ha.bnd (by
  cases ra with
  | tmp d => cases h; exact .ret
  | val d => exact te_vlR (r := .val d) h
  | bor d => exact te_vlR (r := .bor d) h)
/-! ### slices -/
theorem te_slN : TE S (slB none) none S := .ret
theorem te_slS {i : Int} (ha : TE S fa ra S1) (e : datR S1 ra = some (.int i)) : TE S (slB (some fa)) (some i) S1 := ha.bnd fun ρ m => ⟨ρ, by show (match ra.dat ρ with | some (.int i) => _ | _ => _) = _; rw [m.dat e], m⟩
theorem te_slc {lo hi : Option (M RV)} {l h : Option Int} (ha : TE S fa ra S1) (hl : TE S1 (slB lo) l S2) (hh : TE S2 (slB hi) h S3) (e : datR S3 ra = some a) (hg : sliceD a l h = some r) : TE S (slc fa lo hi) r S3 :=
  ha.bnd (hl.bnd (hh.bnd fun ρ m => ⟨ρ, by unfold fin1; rw [m.dat e]; dsimp only; rw [hg], m⟩))
/-! ### calls -/
def argSS (S : List SS) : RV → Option Slot
  | .val d => some (.val d)
  | .tmp d => some (.own d)
  | .bor i => match slS S i with
    | some (.own d) => some (.lent d)
    | some (.lent d) => some (.lent d)
    | some (.val d) => some (.val d)
    | some (.lentF d) => some (.val d)
    | some (.lock d _) => some (.lock d true)
    | _ => none
def argsSS (S : List SS) : List RV → Option (List Slot)
  | [] => some []
  | r :: rs => (argSS S r).bind fun s => (argsSS S rs).map fun ss => s :: ss
def wbsS : List RV → List Slot → List SS → List SS
  | .bor i :: rs, s :: ss, S => (match slS S i with
    | some s0 => wbsS rs ss (S.set i (.sl (wb s0 s)))
    | none => wbsS rs ss S)
  | _ :: rs, _ :: ss, S => wbsS rs ss S
  | _, _, S => S
theorem Mt.argS {S : List SS} {ρ : Ev} (m : Mt S ρ) {r : RV} {s : Slot} (e : argSS S r = some s) : argS ρ r = some s := by
  cases r with
  | val d => exact e
  | tmp d => exact e
  | bor i =>
    unfold argSS at e
    unfold Fd.argS
    dsimp only at e ⊢
    split at e
    all_goals first | (rename_i d h; cases e; rw [m.sl h]) | (rename_i d l h; cases e; rw [m.sl h]) | cases e
theorem Mt.args {S : List SS} {ρ : Ev} (m : Mt S ρ) : ∀ {rs : List RV} {ss : List Slot}, argsSS S rs = some ss → argsOf ρ rs = some ss
  | [], ss, e => e
  | r :: rs, ss, e => by
    obtain ⟨s, h1, h2⟩ := Option.bind_eq_some_iff.mp (show (argSS S r).bind _ = some ss from e)
    obtain ⟨ss', h3, rfl⟩ := Option.map_eq_some_iff.mp h2
    unfold argsOf
    rw [m.argS h1, m.args h3]; rfl
theorem Mt.wbs : ∀ {rs : List RV} {ss : List Slot} {S : List SS} {ρ : Ev}, Mt S ρ → (∀ i, i ∈ bors rs → (slS S i).isSome = true) → (bors rs).Nodup → Mt (wbsS rs ss S) (wbs rs ss ρ)
  | [], ss, S, ρ, m, _, _ => by cases ss <;> exact m
  | .val _ :: rs, [], S, ρ, m, _, _ => m
  | .tmp _ :: rs, [], S, ρ, m, _, _ => m
  | .bor _ :: rs, [], S, ρ, m, _, _ => m
  | .val _ :: rs, s :: ss, S, ρ, m, k, n => Mt.wbs (rs := rs) m k n
  | .tmp _ :: rs, s :: ss, S, ρ, m, k, n => Mt.wbs (rs := rs) m k n
  | .bor i :: rs, s :: ss, S, ρ, m, k, n => by
    obtain ⟨s0, h0⟩ := Option.isSome_iff_exists.mp (k i List.mem_cons_self)
    have n' := List.nodup_cons.mp n
    unfold wbsS Fd.wbs
    rw [h0, m.sl h0]
    refine Mt.wbs (rs := rs) (m.put) (fun j hj => ?_) n'.2
    have ne : i ≠ j := fun e => n'.1 (e ▸ hj)
    have := k j (List.mem_cons_of_mem _ hj)
    unfold slS at this ⊢
    rw [List.getElem?_set_ne ne]
    exact this
def borsOk (S : List SS) (rs : List RV) : Bool := decide (bors rs).Nodup && (bors rs).all fun i => (slS S i).isSome
def RV.noB : RV → Bool
  | .bor _ => false
  | _ => true
theorem te_callR {G : FnS} {ss ss' : List Slot} (e : argsSS S rs = some ss) (hG : G ss = .ok r ss') (hb : borsOk S rs = true) (hr : r.noB = true) (hl : ss'.length = rs.length) : TE S (callR G rs) r (wbsS rs ss' S) := fun ρ m => by
  have hb' := Bool.and_eq_true_iff.mp hb
  have nd : (bors rs).Nodup := of_decide_eq_true hb'.1
  refine ⟨Fd.wbs rs ss' ρ, ?_, m.wbs (fun i hi => List.all_eq_true.mp hb'.2 i hi) nd⟩
  unfold callR
  rw [if_pos nd, m.args e]
  dsimp only
  rw [hG]
  cases r with
  | bor _ => cases hr
  | val d => show (if ss'.length = rs.length then _ else _) = _; rw [if_pos hl]
  | tmp d => show (if ss'.length = rs.length then _ else _) = _; rw [if_pos hl]
theorem te_call {G : FnS} {ss ss' : List Slot} {n : Nat} (hs : TE S fs rs S1) (hn : rs.length = n) (e : argsSS S1 rs = some ss) (hG : G ss = .ok r ss') (hb : borsOk S1 rs = true) (hr : r.noB = true) (hl : ss'.length = n) : TE S (callF G (lenA n fs)) r (wbsS rs ss' S1) :=
  (TE.bnd (g := fun (q : List RV) => if q.length = n then Fd.ret q else fail) hs (by rw [if_pos hn]; exact .ret)).bnd (te_callR e hG hb hr (hl.trans hn.symm))
theorem te_call0 {G : FnS} (hG : G [] = .ok r []) (hr : r.noB = true) : TE S (callR G []) r S := te_callR (rs := []) rfl hG rfl hr rfl
theorem te_callK {G : FnS} {ss ss' : List Slot} {n m : Nat} {π : List Nat} {ks : M (List RV)} {qs ps : List RV} (hs : TE S fs rs S1) (hk : TE S1 ks qs S2) (hn : rs.length = n) (hm : qs.length = m) (hp : pick π (rs ++ qs) = ps) (e : argsSS S2 ps = some ss) (hG : G ss = .ok r ss') (hb : borsOk S2 ps = true) (hr : r.noB = true) (hl : ss'.length = ps.length) : TE S (callK G n m π fs ks) r (wbsS ps ss' S2) :=
  hs.bnd (hk.bnd (by rw [if_pos ⟨hn, hm⟩, hp]; exact te_callR e hG hb hr hl))
/-! ### targets -/
theorem tg_name {i : Nat} (h : frS S i = true) : TG S (setN i) d (S.set i (.sl (.val d))) := fun ρ m => by
  obtain ⟨s, h1, h2⟩ := m.fr h
  refine ⟨ρ.set i (.val d), ?_, m.put⟩
  unfold setN
  rw [h1]; dsimp only; rw [if_pos h2]
theorem tgs_nil : TGs S setNil [] S := fun ρ m => ⟨ρ, rfl, m⟩
theorem tgs_cons {h : Tg} {hs : Tgs} (h1 : TG S h d S1) (h2 : TGs S1 hs ds S2) : TGs S (setCons h hs) (d :: ds) S2 := fun ρ m => by
  obtain ⟨ρ1, e1, m1⟩ := h1 ρ m
  obtain ⟨ρ2, e2, m2⟩ := h2 ρ1 m1
  exact ⟨ρ2, by show (h d ρ).bind (hs ds) = _; rw [e1]; exact e2, m2⟩
theorem tg_tup {n : Nat} {hs : Tgs} (hl : ds.length = n) (h : TGs S hs ds S1) : TG S (setTup n hs) (.tup ds) S1 := fun ρ m => by
  obtain ⟨ρ1, e1, m1⟩ := h ρ m
  exact ⟨ρ1, by show (if ds.length = n then _ else _) = _; rw [if_pos hl]; exact e1, m1⟩
theorem tg_lst {n : Nat} {hs : Tgs} (hl : ds.length = n) (h : TGs S hs ds S1) : TG S (setTup n hs) (.lst ds) S1 := fun ρ m => by
  obtain ⟨ρ1, e1, m1⟩ := h ρ m
  exact ⟨ρ1, by show (if ds.length = n then _ else _) = _; rw [if_pos hl]; exact e1, m1⟩
def opS (S : List SS) (i : Nat) : Option Slot := (slS S i).bind fun s => if s.open' = true then some s else none
theorem opS_sl {i : Nat} {s : Slot} (h : opS S i = some s) : slS S i = some s ∧ s.open' = true := by
  obtain ⟨s', h1, h2⟩ := Option.bind_eq_some_iff.mp h
  by_cases o : s'.open' = true
  · rw [if_pos o] at h2; cases h2; exact ⟨h1, o⟩
  · rw [if_neg o] at h2; cases h2
theorem tg_ix {i : Nat} {s : Slot} {k c c' : D} (h0 : opS S i = some s) (hk : TE S fe r S1) (h1 : opS S1 i = some s) (ek : datR S1 r = some k) (ec : s.dat = some c) (hp : putAt c k d = some c') : TG S (setX i fe) d (S1.set i (.sl (s.put c'))) := fun ρ m => by
  obtain ⟨a1, a2⟩ := opS_sl h0
  obtain ⟨b1, b2⟩ := opS_sl h1
  obtain ⟨ρ1, e1, m1⟩ := hk ρ m
  refine ⟨ρ1.set i (s.put c'), ?_, m1.put⟩
  unfold setX
  rw [m.sl a1]; dsimp only
  rw [if_pos (Slot.open_mine a2), e1]; dsimp only
  rw [m1.dat ek, m1.sl b1]; dsimp only
  rw [if_pos b2, ec]; dsimp only
  rw [hp]
/-! ### methods of a list -/
theorem te_mt {g : List D → List D → Option (List D × D)} {i : Nat} {s s1 : Slot} {cs es : List D} {c0 : List D} {e : D} (h0 : opS S i = some s) (h0d : s.dat = some (.lst c0)) (hs : TE S fs rs S1) (hv : valsOf rs = some ds) (h1 : opS S1 i = some s1) (hc : s1.dat = some (.lst cs)) (hg : g cs ds = some (es, e)) : TE S (mtE g i fs) (.val e) (S1.set i (.sl (s1.put (.lst es)))) := fun ρ m => by
  obtain ⟨a1, a2⟩ := opS_sl h0
  obtain ⟨b1, b2⟩ := opS_sl h1
  obtain ⟨ρ1, e1, m1⟩ := hs ρ m
  refine ⟨ρ1.set i (s1.put (.lst es)), ?_, m1.put⟩
  unfold mtE
  rw [m.sl a1]; dsimp only
  rw [if_pos (Slot.open_mine a2), h0d]; dsimp only
  unfold Fd.bnd
  rw [e1]; dsimp only [Out.bnd]
  rw [hv]; dsimp only
  unfold mtF
  rw [m1.sl b1]; dsimp only
  rw [if_pos b2, hc]; dsimp only
  rw [hg]
end
/-! ### statements -/
section
variable {S S1 S2 S3 : List SS} {fe : M RV} {r : RV} {d : D} {f g rest : M Fl} {x : Fl}
theorem te_sq (h : TE S f .nx S1) (k : TE S1 g x S2) : TE S (sq f g) x S2 := h.bnd k
theorem te_sqR (h : TE S f (.rt r) S1) : TE S (sq f g) (.rt r) S1 := h.bnd .ret
theorem te_sqB (h : TE S f .bk S1) : TE S (sq f g) .bk S1 := h.bnd .ret
theorem te_sqC (h : TE S f .ct S1) : TE S (sq f g) .ct S1 := h.bnd .ret
theorem te_nop : TE S nop .nx S := .ret
theorem te_drop (h : TE S fe r S1) : TE S (dropS fe) .nx S1 := h.bnd .ret
theorem te_retS (h : TE S fe r S1) : TE S (retS fe) (.rt r) S1 := h.bnd .ret
def stoS (i : Nat) : RV → List SS → Option (List SS)
  | .val d, S => some (S.set i (.sl (.val d)))
  | .tmp d, S => some (S.set i (.sl (.own d)))
  | .bor _, _ => none
theorem te_set {i : Nat} (h : TE S fe r S1) (hf : frS S1 i = true) (e : stoS i r S1 = some S2) : TE S (setS i fe) .nx S2 := h.bnd fun ρ m => by
  obtain ⟨s, h1, h2⟩ := m.fr hf
  unfold stoR
  rw [h1]; dsimp only; rw [if_pos h2]
  cases r with
  | val d => cases e; exact ⟨_, rfl, m.put⟩
  | tmp d => cases e; exact ⟨_, rfl, m.put⟩
  | bor d => cases e
theorem te_asg {h : Tg} (he : TE S fe (.val d) S1) (hg : TG S1 h d S2) : TE S (asgS h fe) .nx S2 := he.bnd fun ρ m => by
  obtain ⟨ρ', e, m'⟩ := hg ρ m
  exact ⟨ρ', by dsimp only; rw [e]; rfl, m'⟩
theorem sto_te {i : Nat} {ρ : Ev} (m : Mt S ρ) (hf : frS S i = true) (e : stoS i r S = some S1) : ∃ ρ', sto i r ρ = some ρ' ∧ Mt S1 ρ' := by
  obtain ⟨s, h1, h2⟩ := m.fr hf
  unfold sto
  rw [h1]; dsimp only; rw [if_pos h2]
  cases r with
  | val d => cases e; exact ⟨_, rfl, m.put⟩
  | tmp d => cases e; exact ⟨_, rfl, m.put⟩
  | bor d => cases e
theorem te_par {i j : Nat} {fs : M (List RV)} {r1 r2 : RV} (h : TE S fs [r1, r2] S1) (f1 : frS S1 i = true) (e1 : stoS i r1 S1 = some S2) (f2 : frS S2 j = true) (e2 : stoS j r2 S2 = some S3) : TE S (parS i j fs) .nx S3 := h.bnd fun ρ m => by
  obtain ⟨ρ1, a1, m1⟩ := sto_te m f1 e1
  obtain ⟨ρ2, a2, m2⟩ := sto_te m1 f2 e2
  refine ⟨ρ2, ?_, m2⟩
  dsimp only
  rw [a1, Option.bind_some, a2]; rfl
section
variable {X : Type} {F : X → Fl} {T : X → List SS} {x y : X} {c : M Bool} {k : Bool}
theorem te_if (hc : TE S c k S1) (ha : k = true → TE S1 f (F x) (T x)) (hb : k = false → TE S1 g (F y) (T y)) : TE S (ifS c f g) (F (if k = true then x else y)) (T (if k = true then x else y)) := hc.bnd (by
  cases k with
  | true => exact ha rfl
  | false => exact hb rfl)
theorem te_sqIf (hc : TE S c k S1) (ha : k = true → TE S1 (sq f rest) (F x) (T x)) (hb : k = false → TE S1 (sq g rest) (F y) (T y)) : TE S (sq (ifS c f g) rest) (F (if k = true then x else y)) (T (if k = true then x else y)) := by
  intro ρ m
  obtain ⟨ρ1, e1, m1⟩ := hc ρ m
  cases k with
  | true =>
    obtain ⟨ρ2, e2, m2⟩ := ha rfl ρ1 m1
    refine ⟨ρ2, ?_, m2⟩
    show (bnd (bnd c _) _) ρ = _
    unfold bnd
    rw [e1]
    exact e2
  | false =>
    obtain ⟨ρ2, e2, m2⟩ := hb rfl ρ1 m1
    refine ⟨ρ2, ?_, m2⟩
    show (bnd (bnd c _) _) ρ = _
    unfold bnd
    rw [e1]
    exact e2
end
end
end Fd

/-! Fp1: from combinators over slots to plain functions of data, rule by rule. -/
namespace Fd
open PySem L2
inductive Res (α : Type) where
  | ok (a : α)
  | exc (x : Exn)
  | bad
namespace Res
variable {α β γ δ ε : Type}
def bind (r : Res α) (k : α → Res β) : Res β := match r with
  | .ok a => k a
  | .exc x => .exc x
  | .bad => .bad
def bind2 (r : Res (α × β)) (k : α → β → Res γ) : Res γ := r.bind fun x => k x.1 x.2
def bind3 (r : Res (α × β × γ)) (k : α → β → γ → Res δ) : Res δ := r.bind fun x => k x.1 x.2.1 x.2.2
def bind4 (r : Res (α × β × γ × δ)) (k : α → β → γ → δ → Res ε) : Res ε := r.bind fun x => k x.1 x.2.1 x.2.2.1 x.2.2.2
@[simp] theorem bind_ok (a : α) (k : α → Res β) : (Res.ok a).bind k = k a := .trans rfl rfl
@[simp] theorem bind_exc (x : Exn) (k : α → Res β) : (Res.exc x : Res α).bind k = .exc x := .trans rfl rfl
@[simp] theorem bind_bad (k : α → Res β) : (Res.bad : Res α).bind k = .bad := .trans rfl rfl
@[simp] theorem bind2_ok (a : α) (b : β) (k : α → β → Res γ) : (Res.ok (a, b)).bind2 k = k a b := .trans rfl rfl
@[simp] theorem bind2_bad (k : α → β → Res γ) : (Res.bad : Res (α × β)).bind2 k = .bad := .trans rfl rfl
@[simp] theorem bind3_ok (a : α) (b : β) (c : γ) (k : α → β → γ → Res δ) : (Res.ok (a, b, c)).bind3 k = k a b c := .trans rfl rfl
@[simp] theorem bind3_bad (k : α → β → γ → Res δ) : (Res.bad : Res (α × β × γ)).bind3 k = .bad := .trans rfl rfl
@[simp] theorem bind4_ok (a : α) (b : β) (c : γ) (d : δ) (k : α → β → γ → δ → Res ε) : (Res.ok (a, b, c, d)).bind4 k = k a b c d := .trans rfl rfl
@[simp] theorem bind4_bad (k : α → β → γ → δ → Res ε) : (Res.bad : Res (α × β × γ × δ)).bind4 k = .bad := .trans rfl rfl
theorem bind_assoc (r : Res α) (k : α → Res β) (l : β → Res γ) : (r.bind k).bind l = r.bind fun a => (k a).bind l := by cases r <;> rfl
end Res
/-! ### slots, in short -/
abbrev nn : SS := .sl .no
abbrev vv (d : D) : SS := .sl (.val d)
abbrev oo (l : List D) : SS := .sl (.own (.lst l))
abbrev ll (l : List D) : SS := .sl (.lent (.lst l))
abbrev lz (l : List D) : SS := .sl (.lentF (.lst l))
abbrev kf (l : List D) : SS := .sl (.lock (.lst l) false)
abbrev kt (l : List D) : SS := .sl (.lock (.lst l) true)
abbrev lf (l : List D) : SS := .lf (.lst l)
/-- data, or a new list -/
inductive VT where
  | v (d : D)
  | t (l : List D)
def VT.rv : VT → RV
  | .v d => .val d
  | .t l => .tmp (.lst l)
theorem VT.noB : ∀ x : VT, x.rv.noB = true
  | .v _ => rfl
  | .t _ => rfl
/-! ### operators -/
def ofV (o : Option RV) : Res D := match o with
  | some (.val d) => .ok d
  | _ => .bad
def ofL (o : Option RV) : Res (List D) := match o with
  | some (.tmp (.lst l)) => .ok l
  | _ => .bad
def ofB (o : Option RV) : Res Bool := match o with
  | some (.val (.bl k)) => .ok k
  | _ => .bad
def ofO {α : Type} (o : Option α) : Res α := match o with
  | some a => .ok a
  | none => .bad
def asB (d : D) : Res Bool := match d with
  | .bl k => .ok k
  | _ => .bad
def asI (d : D) : Res Int := match d with
  | .int k => .ok k
  | _ => .bad
def tstR (d : D) : Res Bool := ofO (truth d)
@[simp] theorem ofV_val (d : D) : ofV (some (.val d)) = .ok d := .trans rfl rfl
@[simp] theorem ofL_tmp (d : List D) : ofL (some (.tmp (.lst d))) = .ok d := .trans rfl rfl
@[simp] theorem ofB_val (d : Bool) : ofB (some (.val (.bl d))) = .ok d := .trans rfl rfl
@[simp] theorem ofO_some {α : Type} (a : α) : ofO (some a) = .ok a := .trans rfl rfl
@[simp] theorem asB_bl (d : Bool) : asB (.bl d) = .ok d := .trans rfl rfl
@[simp] theorem asI_int (d : Int) : asI (.int d) = .ok d := .trans rfl rfl
def un2 : D → Res (D × D)
  | .tup [a, b] => .ok (a, b)
  | .lst [a, b] => .ok (a, b)
  | _ => .bad
def un3 : D → Res (D × D × D)
  | .tup [a, b, c] => .ok (a, b, c)
  | .lst [a, b, c] => .ok (a, b, c)
  | _ => .bad
def un4 : D → Res (D × D × D × D)
  | .tup [a, b, c, d] => .ok (a, b, c, d)
  | .lst [a, b, c, d] => .ok (a, b, c, d)
  | _ => .bad
@[simp] theorem un2_tup (a b : D) : un2 (.tup [a, b]) = .ok (a, b) := .trans rfl rfl
@[simp] theorem un2_lst (a b : D) : un2 (.lst [a, b]) = .ok (a, b) := .trans rfl rfl
@[simp] theorem un3_tup (a b c : D) : un3 (.tup [a, b, c]) = .ok (a, b, c) := .trans rfl rfl
@[simp] theorem un3_lst (a b c : D) : un3 (.lst [a, b, c]) = .ok (a, b, c) := .trans rfl rfl
@[simp] theorem un4_tup (a b c d : D) : un4 (.tup [a, b, c, d]) = .ok (a, b, c, d) := .trans rfl rfl
@[simp] theorem un4_lst (a b c d : D) : un4 (.lst [a, b, c, d]) = .ok (a, b, c, d) := .trans rfl rfl
/-- the items of data that is walked -/
def items : D → Res (List D)
  | .lst ds => .ok ds
  | .tup ds => .ok ds
  | .str x => .ok (signs x)
  | _ => .bad
@[simp] theorem items_lst (ds : List D) : items (.lst ds) = .ok ds := .trans rfl rfl
@[simp] theorem items_tup (ds : List D) : items (.tup ds) = .ok ds := .trans rfl rfl
/-! ### loops -/
inductive Lp (σ ρ : Type) where
  | go (s : σ)
  | stop (s : σ)
  | ret (r : ρ)
section
variable {σ ρ α : Type}
def forR (b : σ → α → Res σ) : List α → σ → Res σ
  | [], s => .ok s
  | d :: ds, s => (b s d).bind fun s => forR b ds s
def forX (b : σ → α → Res (Lp σ ρ)) : List α → σ → Res (Sum σ ρ)
  | [], s => .ok (.inl s)
  | d :: ds, s => (b s d).bind fun x => match x with
    | .go s => forX b ds s
    | .stop s => .ok (.inl s)
    | .ret r => .ok (.inr r)
def whR (c : σ → Res Bool) (b : σ → Res σ) : Nat → σ → Res σ
  | 0, _ => .bad
  | n + 1, s => (c s).bind fun k => if k = true then (b s).bind fun s => whR c b n s else .ok s
def whX (c : σ → Res Bool) (b : σ → Res (Lp σ ρ)) : Nat → σ → Res (Sum σ ρ)
  | 0, _ => .bad
  | n + 1, s => (c s).bind fun k => if k = true then (b s).bind fun x => (match x with
    | .go s => whX c b n s
    | .stop s => .ok (.inl s)
    | .ret r => .ok (.inr r)) else .ok (.inl s)
/-- the rest behind a loop that may return -/
def after {Y : Type} (r : Res (Sum σ ρ)) (k : σ → Res Y) (l : ρ → Res Y) : Res Y := r.bind fun x => match x with
  | .inl s => k s
  | .inr r => l r
def mapR (b : α → Res (Option D)) : List α → Res (List D)
  | [] => .ok []
  | d :: ds => (b d).bind fun o => (mapR b ds).bind fun l => .ok (o.toList ++ l)
def noX {α : Type} : Res α → Res α
  | .ok a => .ok a
  | _ => .bad
def lcR (b : D → Res (Option D)) (ds : List D) : Res (List D) := if ds.length ≤ 1000000 then noX (mapR b ds) else .bad
def mapS (b : σ → D → Res (Option D × σ)) : List D → σ → Res (List D × σ)
  | [], s => .ok ([], s)
  | d :: ds, s => (b s d).bind fun o => (mapS b ds o.2).bind fun l => .ok (o.1.toList ++ l.1, l.2)
def lcS (b : σ → D → Res (Option D × σ)) (ds : List D) (s : σ) : Res (List D × σ) := if ds.length ≤ 1000000 then noX (mapS b ds s) else .bad
def mapC (b : D → Res (List D)) : List D → Res (List D)
  | [] => .ok []
  | d :: ds => (b d).bind fun o => (mapC b ds).bind fun l => .ok (o ++ l)
def lim (l : List D) : Res (List D) := if l.length ≤ 1000000 then .ok l else .bad
def lc2R (b : D → Res (List D)) (ds : List D) : Res (List D) := (noX (mapC b ds)).bind lim
end
@[simp] theorem noX_ok {α : Type} (a : α) : noX (.ok a) = .ok a := .trans rfl rfl
/-! ### the judgement -/
section
variable {α β X Y : Type}
def Lk (o : Out α) (Q : X → α → Ev → Prop) : Res X → Prop
  | .ok x => ∃ a ρ', o = .ok a ρ' ∧ Q x a ρ'
  | _ => True
structure Go (S : List SS) (f : M α) (r : Res X) (Q : X → α → Ev → Prop) : Prop where
  run : ∀ ρ, Mt S ρ → Lk (f ρ) Q r
instance {S : List SS} {f : M α} {r : Res X} {Q : X → α → Ev → Prop} : CoeFun (Go S f r Q) (fun _ => ∀ ρ, Mt S ρ → Lk (f ρ) Q r) := ⟨Go.run⟩
theorem Go.eq {S : List SS} {f g : M α} {r : Res X} {Q : X → α → Ev → Prop} (e : f = g) (h : Go S g r Q) : Go S f r Q := e ▸ h
theorem bnd_assoc {γ : Type} (f : M α) (g : α → M β) (h : β → M γ) : bnd (bnd f g) h = bnd f fun a => bnd (g a) h := by
  funext ρ
  unfold bnd
  cases f ρ <;> rfl
theorem bnd_ret (f : M α) : bnd f ret = f := by
  funext ρ
  unfold bnd
  cases f ρ <;> rfl
theorem ret_bnd (a : α) (g : α → M β) : bnd (ret a) g = g a := rfl
/-- values and slots are told -/
def QE (A : X → α) (E : X → List SS) : X → α → Ev → Prop := fun x a ρ => a = A x ∧ Mt (E x) ρ
variable {S S1 S2 : List SS} {r : Res X} {Q : X → α → Ev → Prop}
theorem z_bnd {f : M β} {κ : β → M α} {Z : Type} {A : Z → β} {E : Z → List SS} {r1 : Res Z} {k : Z → Res X} (h : Go S f r1 (QE A E)) (h2 : ∀ z, Go (E z) (κ (A z)) (k z) Q) : Go S (bnd f κ) (r1.bind k) Q := .mk fun ρ m => by
  have q := h ρ m
  cases r1 with
  | ok z =>
    obtain ⟨a, ρ', e, rfl, m'⟩ := q
    show Lk ((f ρ).bnd κ) Q (k z)
    rw [e]
    exact h2 z ρ' m'
  | exc => trivial
  | bad => trivial
theorem z_sub (w : Sub S S1) {f : M α} (h : Go S1 f r Q) : Go S f r Q := .mk fun ρ m => h ρ (w.mt m)
theorem z_end {A : X → α} {E : X → List SS} {x : X} {a : α} (e : a = A x) (w : Sub S (E x)) : Go S (ret a) (.ok x) (QE A E) := .mk fun ρ m => ⟨a, ρ, rfl, e, w.mt m⟩
theorem z_endB {f : M α} (h : Go S (bnd f ret) r Q) : Go S f r Q := h.eq (bnd_ret f).symm
theorem z_ite {k : Bool} {f g : M α} {r1 r2 : Res X} (h1 : k = true → Go S f r1 Q) (h2 : k = false → Go S g r2 Q) : Go S (if k = true then f else g) (if k = true then r1 else r2) Q := by
  cases k with
  | true => exact h1 rfl
  | false => exact h2 rfl
theorem z_bad {f : M α} : Go S f (Res.bad : Res X) Q := .mk fun _ _ => trivial
end
section
variable {α X : Type} {S S1 S2 : List SS} {r : Res X} {Q : X → α → Ev → Prop}
variable {fa fb fe : M RV} {κ : RV → M α} {q q1 q2 : RV} {a b d : D} {i : Nat}
theorem z_con (h : Go S (κ (.val d)) r Q) : Go S (bnd (con d) κ) r Q := h
theorem z_ref (e : (slS S i).bind (refR i) = some q) (h : Go S (κ q) r Q) : Go S (bnd (ref i) κ) r Q := .mk fun ρ m => by
  obtain ⟨ρ', e1, m1⟩ := te_ref e ρ m
  have : ρ' = ρ := by
    unfold ref at e1
    split at e1 <;> first | (cases e1; rfl) | cases e1
  subst this
  show Lk ((ref i ρ').bnd κ) Q r
  rw [e1]
  exact h ρ' m
theorem z_op2 {g : D → D → Option RV} (h : Go S (bnd fa fun r1 => bnd fb fun r2 => bnd (fin2 g r1 r2) κ) r Q) : Go S (bnd (op2 g fa fb) κ) r Q := h.eq (by
  unfold op2
  rw [bnd_assoc]
  congr 1
  funext r1
  rw [bnd_assoc])
theorem z_op1 {g : D → Option RV} (h : Go S (bnd fa fun r1 => bnd (fin1 g r1) κ) r Q) : Go S (bnd (op1 g fa) κ) r Q := h.eq (by unfold op1; rw [bnd_assoc])
theorem fin2_at {g : D → D → Option RV} {ρ : Ev} (m : Mt S ρ) (ea : datR S q1 = some a) (eb : datR S q2 = some b) : fin2 g q1 q2 ρ = match g a b with
    | some r => .ok r ρ
    | none => .bad := by
  unfold fin2
  rw [m.dat ea, m.dat eb]
  all_goals rfl
theorem fin1_at {g : D → Option RV} {ρ : Ev} (m : Mt S ρ) (ea : datR S q1 = some a) : fin1 g q1 ρ = match g a with
    | some r => .ok r ρ
    | none => .bad := by
  unfold fin1
  rw [m.dat ea]
  all_goals rfl
theorem z_optV {o : Option RV} {f : M RV} {k : D → Res X} (e : ∀ ρ, Mt S ρ → f ρ = match o with
    | some r => .ok r ρ
    | none => .bad) (h : ∀ v, Go S (κ (.val v)) (k v) Q) : Go S (bnd f κ) ((ofV o).bind k) Q := .mk fun ρ m => by
  show Lk ((f ρ).bnd κ) Q _
  rw [e ρ m]
  cases o with
  | none => trivial
  | some v =>
    cases v with
    | val d => exact h d ρ m
    | tmp d => trivial
    | bor d => trivial
theorem z_optL {o : Option RV} {f : M RV} {k : List D → Res X} (e : ∀ ρ, Mt S ρ → f ρ = match o with
    | some r => .ok r ρ
    | none => .bad) (h : ∀ v, Go S (κ (.tmp (.lst v))) (k v) Q) : Go S (bnd f κ) ((ofL o).bind k) Q := .mk fun ρ m => by
  show Lk ((f ρ).bnd κ) Q _
  rw [e ρ m]
  cases o with
  | none => trivial
  | some v =>
    cases v with
    | val d => trivial
    | tmp d =>
      cases d with
      | lst l => exact h l ρ m
      | _ => trivial
    | bor d => trivial
theorem z_fin2V {g : D → D → Option RV} {k : D → Res X} (ea : datR S q1 = some a) (eb : datR S q2 = some b) (h : ∀ v, Go S (κ (.val v)) (k v) Q) : Go S (bnd (fin2 g q1 q2) κ) ((ofV (g a b)).bind k) Q := z_optV (fun ρ m => fin2_at m ea eb) h
theorem z_fin2L {g : D → D → Option RV} {k : List D → Res X} (ea : datR S q1 = some a) (eb : datR S q2 = some b) (h : ∀ v, Go S (κ (.tmp (.lst v))) (k v) Q) : Go S (bnd (fin2 g q1 q2) κ) ((ofL (g a b)).bind k) Q := z_optL (fun ρ m => fin2_at m ea eb) h
theorem z_fin1V {g : D → Option RV} {k : D → Res X} (ea : datR S q1 = some a) (h : ∀ v, Go S (κ (.val v)) (k v) Q) : Go S (bnd (fin1 g q1) κ) ((ofV (g a)).bind k) Q := z_optV (fun ρ m => fin1_at m ea) h
theorem z_fin1L {g : D → Option RV} {k : List D → Res X} (ea : datR S q1 = some a) (h : ∀ v, Go S (κ (.tmp (.lst v))) (k v) Q) : Go S (bnd (fin1 g q1) κ) ((ofL (g a)).bind k) Q := z_optL (fun ρ m => fin1_at m ea) h
/-! out of a slot -/
theorem te_go {f : M RV} (t : TE S f q S1) (h : Go S1 (κ q) r Q) : Go S (bnd f κ) r Q := .mk fun ρ m => by
  obtain ⟨ρ', e, m'⟩ := t ρ m
  show Lk ((f ρ).bnd κ) Q r
  rw [e]
  exact h ρ' m'
theorem z_vl (h : Go S (bnd fa fun r => bnd (vlR r) κ) r Q) : Go S (bnd (vl fa) κ) r Q := h.eq (by unfold vl; rw [bnd_assoc])
theorem z_mv (h : Go S (bnd fa fun r => bnd (mvR r) κ) r Q) : Go S (bnd (mv fa) κ) r Q := h.eq (by unfold mv; rw [bnd_assoc])
theorem z_fz (h : Go S (bnd fa fun r => bnd (fzR r) κ) r Q) : Go S (bnd (fz fa) κ) r Q := h.eq (by unfold fz; rw [bnd_assoc])
theorem z_vlR (S1 : List SS) (e : vlS S q = some (q1, S1)) (h : Go S1 (κ q1) r Q) : Go S (bnd (vlR q) κ) r Q := te_go (te_vlR e) h
theorem z_mvR (S1 : List SS) (e : mvS S q = some (q1, S1)) (h : Go S1 (κ q1) r Q) : Go S (bnd (mvR q) κ) r Q := te_go (te_mvR e) h
theorem te_fzR (h : fzS S q = some (q1, S1)) : TE S (fzR q) q1 S1 := by
  cases q with
  | tmp d => cases h; exact .ret
  | val d => exact te_vlR (r := .val d) h
  | bor d => exact te_vlR (r := .bor d) h
theorem z_fzR (S1 : List SS) (e : fzS S q = some (q1, S1)) (h : Go S1 (κ q1) r Q) : Go S (bnd (fzR q) κ) r Q := te_go (te_fzR e) h
/-! a result that is data or new -/
def needL : VT → Res (List D)
  | .t d => .ok d
  | _ => .bad
def frz : VT → D
  | .v d => d
  | .t l => .lst l
theorem z_fzRV {x : VT} (h : Go S (κ (.val (frz x))) r Q) : Go S (bnd (fzR x.rv) κ) r Q := by
  cases x with
  | v d => exact h
  | t d => exact h
theorem z_mvRV {x : VT} (h : Go S (κ x.rv) r Q) : Go S (bnd (mvR x.rv) κ) r Q := by
  cases x with
  | v d => exact h
  | t d => exact h
end
/-! ### arguments, displays, calls -/
section
variable {α X : Type} {S S1 S2 : List SS} {r : Res X} {Q : X → α → Ev → Prop}
variable {fa fb fe : M RV} {q : RV} {ds : List D} {fs ks : M (List RV)} {rs : List RV}
theorem z_aNil {κ : List RV → M α} (h : Go S (κ []) r Q) : Go S (bnd aNil κ) r Q := h
theorem z_aCons {κ : List RV → M α} (h : Go S (bnd fa fun r => bnd fs fun rs => κ (r :: rs)) r Q) : Go S (bnd (aCons fa fs) κ) r Q := h.eq (by
  unfold aCons
  rw [bnd_assoc]
  congr 1
  funext r1
  rw [bnd_assoc]
  rfl)
theorem z_callB {κ : RV → M α} {g : List D → Option RV} (h : Go S (bnd fs fun rs => bnd (finL g rs) κ) r Q) : Go S (bnd (callB g fs) κ) r Q := h.eq (by unfold callB; rw [bnd_assoc])
theorem finL_at {g : List D → Option RV} {ρ : Ev} (m : Mt S ρ) (e : datRs S rs = some ds) : finL g rs ρ = match g ds with
    | some r => .ok r ρ
    | none => .bad := by
  unfold finL
  rw [m.dats e]
  all_goals rfl
theorem z_finLV {κ : RV → M α} {g : List D → Option RV} {k : D → Res X} (e : datRs S rs = some ds) (h : ∀ v, Go S (κ (.val v)) (k v) Q) : Go S (bnd (finL g rs) κ) ((ofV (g ds)).bind k) Q := z_optV (fun ρ m => finL_at m e) h
theorem z_finLL {κ : RV → M α} {g : List D → Option RV} {k : List D → Res X} (e : datRs S rs = some ds) (h : ∀ v, Go S (κ (.tmp (.lst v))) (k v) Q) : Go S (bnd (finL g rs) κ) ((ofL (g ds)).bind k) Q := z_optL (fun ρ m => finL_at m e) h
def tupK (rs : List RV) : M RV := fun ρ => match valsOf rs with
  | some ds => if ds.length ≤ 1000 then .ok (.val (.tup ds)) ρ else .bad
  | none => .bad
def lstK (rs : List RV) : M RV := fun ρ => match valsOf rs with
  | some ds => if ds.length ≤ 1000 then .ok (.tmp (.lst ds)) ρ else .bad
  | none => .bad
theorem z_tup {κ : RV → M α} (h : Go S (bnd fs fun rs => bnd (tupK rs) κ) r Q) : Go S (bnd (tupE fs) κ) r Q := h.eq (by unfold tupE; rw [bnd_assoc]; rfl)
theorem z_lst {κ : RV → M α} (h : Go S (bnd fs fun rs => bnd (lstK rs) κ) r Q) : Go S (bnd (lstE fs) κ) r Q := h.eq (by unfold lstE; rw [bnd_assoc]; rfl)
theorem z_tupK {κ : RV → M α} (e : valsOf rs = some ds) (l : (decide (ds.length ≤ 1000)) = true) (h : Go S (κ (.val (.tup ds))) r Q) : Go S (bnd (tupK rs) κ) r Q := h.eq (by
  have l := of_decide_eq_true l
  funext ρ
  unfold bnd tupK
  rw [e]
  dsimp only
  rw [if_pos l]
  rfl)
theorem z_lstK {κ : RV → M α} (e : valsOf rs = some ds) (l : (decide (ds.length ≤ 1000)) = true) (h : Go S (κ (.tmp (.lst ds))) r Q) : Go S (bnd (lstK rs) κ) r Q := h.eq (by
  have l := of_decide_eq_true l
  funext ρ
  unfold bnd lstK
  rw [e]
  dsimp only
  rw [if_pos l]
  rfl)
/-! slices -/
def slK (r : RV) : M (Option Int) := fun ρ => match r.dat ρ with
  | some (.int i) => .ok (some i) ρ
  | _ => .bad
theorem z_slc {κ : RV → M α} {lo hi : Option (M RV)} (h : Go S (bnd fa fun r => bnd (slB lo) fun l => bnd (slB hi) fun h => bnd (fin1 (fun d => sliceD d l h) r) κ) r Q) : Go S (bnd (slc fa lo hi) κ) r Q := h.eq (by
  unfold slc
  rw [bnd_assoc]
  congr 1
  funext r1
  rw [bnd_assoc]
  congr 1
  funext r1
  rw [bnd_assoc])
theorem z_slN {κ : Option Int → M α} (h : Go S (κ none) r Q) : Go S (bnd (slB none) κ) r Q := h
theorem z_slS {κ : Option Int → M α} (h : Go S (bnd fa fun r => bnd (slK r) κ) r Q) : Go S (bnd (slB (some fa)) κ) r Q := h.eq (by unfold slB; dsimp only; rw [bnd_assoc]; rfl)
theorem z_slK {κ : Option Int → M α} {k : Int → Res X} {d : D} (e : datR S q = some d) (h : ∀ i, Go S (κ (some i)) (k i) Q) : Go S (bnd (slK q) κ) ((asI d).bind k) Q := .mk fun ρ m => by
  show Lk ((slK q ρ).bnd κ) Q _
  unfold slK
  rw [m.dat e]
  cases d with
  | int i => exact h i ρ m
  | _ => trivial
/-! own defs -/
def FnR (G : FnS) (ss : List Slot) (r : Res X) (A : X → RV × List SS) : Prop := match r with
  | .ok x => ∃ ss', G ss = .ok (A x).1 ss' ∧ Mt (A x).2 ss'
  | _ => True
def wbO : Slot → SS → SS
  | s0, .sl s => .sl (wb s0 s)
  | .own _, .lf _ => .jk
  | .lent _, .lf d => .lf d
  | .val d, _ => .sl (.val d)
  | .lentF d, _ => .sl (.lentF d)
  | s0, _ => .sl s0
def outOk (s0 : Slot) (a : SS) : Bool := match a with
  | .sl _ => true
  | .lf _ => (match s0 with | .lock _ _ => false | .no => false | _ => true)
  | _ => false
theorem wbO_ok {s0 s : Slot} {a : SS} (h : a.ok s) (g : outOk s0 a = true) : (wbO s0 a).ok (wb s0 s) := by
  cases a with
  | sl t => cases h; cases s0 <;> rfl
  | nv => cases g
  | jk => cases g
  | lf d =>
    cases s0 with
    | own e => rcases h with rfl | rfl <;> rfl
    | lent e =>
      rcases h with rfl | rfl
      · exact .inl rfl
      · exact .inr rfl
    | val e => rcases h with rfl | rfl <;> rfl
    | lentF e => rcases h with rfl | rfl <;> rfl
    | no => cases g
    | lock e b => cases g
def wbsO : List RV → List SS → List SS → List SS
  | .bor i :: rs, a :: as, S => (match slS S i with
    | some s0 => wbsO rs as (S.set i (wbO s0 a))
    | none => wbsO rs as S)
  | _ :: rs, _ :: as, S => wbsO rs as S
  | _, _, S => S
def wbsOk : List RV → List SS → List SS → Bool
  | .bor i :: rs, a :: as, S => (match slS S i with
    | some s0 => outOk s0 a && wbsOk rs as (S.set i (wbO s0 a))
    | none => false)
  | _ :: rs, _ :: as, S => wbsOk rs as S
  | _, _, _ => true
theorem Mt.wbsO : ∀ {rs : List RV} {as : List SS} {ss : List Slot} {S : List SS} {ρ : Ev}, Mt S ρ → Mt as ss → wbsOk rs as S = true → Mt (Fd.wbsO rs as S) (Fd.wbs rs ss ρ)
  | [], as, ss, S, ρ, m, _, _ => by cases ss <;> cases as <;> exact m
  | .val _ :: rs, [], ss, S, ρ, m, k, _ => by cases k; exact m
  | .tmp _ :: rs, [], ss, S, ρ, m, k, _ => by cases k; exact m
  | .bor _ :: rs, [], ss, S, ρ, m, k, _ => by cases k; exact m
  | .val _ :: rs, a :: as, ss, S, ρ, m, k, n => by cases k with | cons _ k => exact Mt.wbsO (rs := rs) m k n
  | .tmp _ :: rs, a :: as, ss, S, ρ, m, k, n => by cases k with | cons _ k => exact Mt.wbsO (rs := rs) m k n
  | .bor i :: rs, a :: as, ss, S, ρ, m, k, n => by
    cases k with
    | @cons _ s _ ss h0 k =>
      unfold wbsOk at n
      unfold Fd.wbsO Fd.wbs
      cases e : slS S i with
      | none => rw [e] at n; cases n
      | some s0 =>
        rw [e] at n
        have n := Bool.and_eq_true_iff.mp n
        rw [m.sl e]
        exact Mt.wbsO (rs := rs) (m.set (wbO_ok h0 n.1)) k n.2
theorem z_callF {κ : RV → M α} {G : FnS} {n : Nat} (h : Go S (bnd fs fun rs => bnd (if rs.length = n then callR G rs else fail) κ) r Q) : Go S (bnd (callF G (lenA n fs)) κ) r Q := h.eq (by
  unfold callF lenA
  rw [bnd_assoc, bnd_assoc]
  congr 1
  funext r1
  by_cases z : r1.length = n
  · rw [if_pos z, if_pos z]; rfl
  · rw [if_neg z, if_neg z]; rfl)
theorem Mt.ln {as : List SS} {ss : List Slot} (h : Mt as ss) : ss.length = as.length := h.len
theorem callR_go {κ : RV → M α} {Z : Type} {G : FnS} {ss : List Slot} {rz : Res Z} {A : Z → RV × List SS} {k : Z → Res X} (F : FnR G ss rz A) (e : argsSS S rs = some ss) (hb : (decide (bors rs).Nodup) = true) (hr : ∀ z, (A z).1.noB = true) (hl : ∀ z, (A z).2.length = rs.length ∧ wbsOk rs (A z).2 S = true) (T : Z → List SS) (hT : ∀ z, wbsO rs (A z).2 S = T z) (h : ∀ z, Go (T z) (κ (A z).1) (k z) Q) : Go S (bnd (callR G rs) κ) (rz.bind k) Q := by
  cases rz with
  | exc => exact .mk fun _ _ => trivial
  | bad => exact z_bad
  | ok z =>
    refine .mk fun ρ m => ?_
    obtain ⟨ss', e1, m1⟩ := F
    have h2 := h z
    rw [← hT z] at h2
    have hr := hr z
    obtain ⟨hl, hw⟩ := hl z
    show Lk ((callR G rs ρ).bnd κ) Q (k z)
    have e2 : callR G rs ρ = .ok (A z).1 (Fd.wbs rs ss' ρ) := by
      unfold callR
      rw [if_pos (of_decide_eq_true hb), m.args e]
      dsimp only
      rw [e1]
      have hl' : ss'.length = rs.length := m1.len.trans hl
      cases ea : (A z).1 with
      | bor _ => rw [ea] at hr; cases hr
      | val d => show (if ss'.length = rs.length then _ else _) = _; rw [if_pos hl']
      | tmp d => show (if ss'.length = rs.length then _ else _) = _; rw [if_pos hl']
    rw [e2]
    exact h2 _ (m.wbsO m1 hw)
theorem z_call {κ : RV → M α} {Z : Type} {G : FnS} {n : Nat} {ss : List Slot} {rz : Res Z} {A : Z → RV × List SS} {k : Z → Res X} (F : FnR G ss rz A) (hn : rs.length = n) (e : argsSS S rs = some ss) (hb : (decide (bors rs).Nodup) = true) (hr : ∀ z, (A z).1.noB = true) (hl : ∀ z, (A z).2.length = rs.length ∧ wbsOk rs (A z).2 S = true) (T : Z → List SS) (hT : ∀ z, wbsO rs (A z).2 S = T z) (h : ∀ z, Go (T z) (κ (A z).1) (k z) Q) : Go S (bnd (if rs.length = n then callR G rs else fail) κ) (rz.bind k) Q := by
  rw [if_pos hn]
  exact callR_go F e hb hr hl T hT h
/-- a result of open kind that must be a new list -/
theorem callNL {κ : RV → M α} {G : FnS} {ss : List Slot} {rz : Res VT} {os : List SS} {k : List D → Res X} (F : FnR G ss rz (fun x => (x.rv, os))) (e : argsSS S rs = some ss) (hb : (decide (bors rs).Nodup) = true) (hl : os.length = rs.length ∧ wbsOk rs os S = true) (T : List SS) (hT : wbsO rs os S = T) (h : ∀ l, Go T (κ (.tmp (.lst l))) (k l) Q) : Go S (bnd (callR G rs) κ) (rz.bind fun x => (needL x).bind k) Q :=
  callR_go F e hb VT.noB (fun _ => hl) (fun _ => T) (fun _ => hT) fun x => by
    cases x with
    | v d => exact z_bad
    | t l => exact h l
theorem z_callNL {κ : RV → M α} {G : FnS} {n : Nat} {ss : List Slot} {rz : Res VT} {os : List SS} {k : List D → Res X} (F : FnR G ss rz (fun x => (x.rv, os))) (hn : rs.length = n) (e : argsSS S rs = some ss) (hb : (decide (bors rs).Nodup) = true) (hl : os.length = rs.length ∧ wbsOk rs os S = true) (T : List SS) (hT : wbsO rs os S = T) (h : ∀ l, Go T (κ (.tmp (.lst l))) (k l) Q) : Go S (bnd (if rs.length = n then callR G rs else fail) κ) (rz.bind fun x => (needL x).bind k) Q := by
  rw [if_pos hn]
  exact callNL F e hb hl T hT h
theorem z_callK {κ : RV → M α} {G : FnS} {n m : Nat} {π : List Nat} (h : Go S (bnd fs fun rs => bnd ks fun qs => bnd (if rs.length = n ∧ qs.length = m then callR G (pick π (rs ++ qs)) else fail) κ) r Q) : Go S (bnd (callK G n m π fs ks) κ) r Q := h.eq (by
  unfold callK
  rw [bnd_assoc]
  congr 1
  funext r1
  rw [bnd_assoc])
theorem z_callKR {κ : RV → M α} {Z : Type} {G : FnS} {n m : Nat} {π : List Nat} {us vs : List RV} {ss : List Slot} {rz : Res Z} {A : Z → RV × List SS} {k : Z → Res X} (F : FnR G ss rz A) (hn : us.length = n) (hm : vs.length = m) (hp : pick π (us ++ vs) = rs) (e : argsSS S rs = some ss) (hb : (decide (bors rs).Nodup) = true) (hr : ∀ z, (A z).1.noB = true) (hl : ∀ z, (A z).2.length = rs.length ∧ wbsOk rs (A z).2 S = true) (T : Z → List SS) (hT : ∀ z, wbsO rs (A z).2 S = T z) (h : ∀ z, Go (T z) (κ (A z).1) (k z) Q) : Go S (bnd (if us.length = n ∧ vs.length = m then callR G (pick π (us ++ vs)) else fail) κ) (rz.bind k) Q := by
  rw [if_pos ⟨hn, hm⟩, hp]
  exact callR_go F e hb hr hl T hT h
end
/-! ### tests -/
section
variable {α X : Type} {S S1 S2 : List SS} {r : Res X} {Q : X → α → Ev → Prop}
variable {fa fb fe : M RV} {q q1 q2 : RV} {a b d : D} {ca cb : M Bool}
def tstK (r : RV) : M Bool := fun ρ => match r.dat ρ with
  | some d => (match truth d with
    | some b => .ok b ρ
    | none => .bad)
  | none => .bad
def cmpK (g : D → D → Option RV) (r1 r2 : RV) : M Bool := bnd (fin2 g r1 r2) tstK
theorem z_tst {κ : Bool → M α} (h : Go S (bnd fa fun r => bnd (tstK r) κ) r Q) : Go S (bnd (tst fa) κ) r Q := h.eq (by unfold tst; rw [bnd_assoc]; rfl)
theorem z_tstK {κ : Bool → M α} {k : Bool → Res X} (e : datR S q = some d) (h : ∀ v, Go S (κ v) (k v) Q) : Go S (bnd (tstK q) κ) ((tstR d).bind k) Q := .mk fun ρ m => by
  show Lk ((tstK q ρ).bnd κ) Q _
  unfold tstK tstR
  rw [m.dat e]
  dsimp only
  cases truth d with
  | some v => exact h v ρ m
  | none => trivial
theorem z_cmp {κ : Bool → M α} {g : D → D → Option RV} (h : Go S (bnd fa fun r1 => bnd fb fun r2 => bnd (cmpK g r1 r2) κ) r Q) : Go S (bnd (tst (op2 g fa fb)) κ) r Q := h.eq (by
  unfold tst op2
  rw [bnd_assoc, bnd_assoc]
  congr 1
  funext r1
  rw [bnd_assoc]
  congr 1
  funext r2
  unfold cmpK
  rw [bnd_assoc]
  rfl)
theorem z_cmpK {κ : Bool → M α} {g : D → D → Option RV} {k : Bool → Res X} (ea : datR S q1 = some a) (eb : datR S q2 = some b) (h : ∀ v, Go S (κ v) (k v) Q) : Go S (bnd (cmpK g q1 q2) κ) ((ofB (g a b)).bind k) Q := .mk fun ρ m => by
  show Lk ((cmpK g q1 q2 ρ).bnd κ) Q _
  unfold cmpK bnd
  rw [fin2_at m ea eb]
  cases g a b with
  | none => trivial
  | some v =>
    cases v with
    | val d =>
      cases d with
      | bl t => exact h t ρ m
      | _ => trivial
    | _ => trivial
theorem z_bAnd {κ : Bool → M α} (h : Go S (bnd ca fun k => bnd (if k = true then cb else ret false) κ) r Q) : Go S (bnd (bAnd ca cb) κ) r Q := h.eq (by unfold bAnd; rw [bnd_assoc])
theorem z_bOr {κ : Bool → M α} (h : Go S (bnd ca fun k => bnd (if k = true then ret true else cb) κ) r Q) : Go S (bnd (bOr ca cb) κ) r Q := h.eq (by unfold bOr; rw [bnd_assoc])
theorem z_bNot {κ : Bool → M α} (h : Go S (bnd ca fun k => κ (!k)) r Q) : Go S (bnd (bNot ca) κ) r Q := h.eq (by unfold bNot; rw [bnd_assoc]; rfl)
theorem z_yes {κ : Bool → M α} (h : Go S (κ true) r Q) : Go S (bnd yes κ) r Q := h
theorem z_yes1 {f g : M α} (h : Go S f r Q) : Go S (if true = true then f else g) r Q := h
theorem z_eIf {κ : RV → M α} {c : M Bool} (h : Go S (bnd c fun k => bnd (if k = true then fa else fb) κ) r Q) : Go S (bnd (eIf c fa fb) κ) r Q := h.eq (by unfold eIf; rw [bnd_assoc])
def asBK (r : RV) : M Bool := fun ρ => match r.dat ρ with
  | some (.bl k) => .ok k ρ
  | _ => .bad
theorem z_asBK {κ : Bool → M α} {k : Bool → Res X} (e : datR S q = some d) (h : ∀ v, Go S (κ v) (k v) Q) : Go S (bnd (asBK q) κ) ((asB d).bind k) Q := .mk fun ρ m => by
  show Lk ((asBK q ρ).bnd κ) Q _
  unfold asBK
  rw [m.dat e]
  cases d with
  | bl i => exact h i ρ m
  | _ => trivial
theorem z_eAnd {κ : RV → M α} (h : Go S (bnd fa fun r => bnd (asBK r) fun k => bnd (if k = true then fb else ret (.val (.bl false))) κ) r Q) : Go S (bnd (eAnd fa fb) κ) r Q := h.eq (by
  unfold eAnd
  rw [bnd_assoc]
  congr 1
  funext r1
  funext ρ
  dsimp only [bnd, asBK]
  cases e : r1.dat ρ with
  | none => rfl
  | some d =>
    cases d with
    | bl k => cases k <;> rfl
    | _ => rfl)
theorem z_eOr {κ : RV → M α} (h : Go S (bnd fa fun r => bnd (asBK r) fun k => bnd (if k = true then ret (.val (.bl true)) else fb) κ) r Q) : Go S (bnd (eOr fa fb) κ) r Q := h.eq (by
  unfold eOr
  rw [bnd_assoc]
  congr 1
  funext r1
  funext ρ
  dsimp only [bnd, asBK]
  cases e : r1.dat ρ with
  | none => rfl
  | some d =>
    cases d with
    | bl k => cases k <;> rfl
    | _ => rfl)
theorem z_eOrT {κ : RV → M α} (h : Go S (bnd fa fun r => bnd (tstK r) fun k => bnd (if k = true then ret r else fb) κ) r Q) : Go S (bnd (eOrT fa fb) κ) r Q := h.eq (by
  unfold eOrT
  rw [bnd_assoc]
  congr 1
  funext r1
  funext ρ
  dsimp only [bnd, tstK]
  cases e : r1.dat ρ with
  | none => rfl
  | some d =>
    dsimp only
    cases e2 : truth d with
    | none => rfl
    | some k => cases k <;> rfl)
end
end Fd

/-! Fp2: statements, loops, comprehensions, defs. -/
namespace Fd
open PySem L2
def wipeS (S : List SS) : List Nat → List SS
  | [] => S
  | v :: vs => (wipeS S vs).set v (.sl .no)
def backS (S S' : List SS) : List Nat → List SS
  | [] => S'
  | v :: vs => (backS S S' vs).set v (S.getD v (.sl .no))
def wipeOkS (S : List SS) (vs : List Nat) : Bool := vs.all fun v => match S[v]? with
  | some (.sl .no) => true
  | some (.sl (.val _)) => true
  | some .nv => true
  | _ => false
theorem Mt.wipe {S : List SS} {ρ : Ev} (m : Mt S ρ) : ∀ vs, Mt (wipeS S vs) (wipeE ρ vs)
  | [] => m
  | v :: vs => (m.wipe vs).put
theorem Mt.getD {S : List SS} {ρ : Ev} (m : Mt S ρ) (v : Nat) : (S.getD v (.sl .no)).ok (ρ.getD v .no) := by
  cases e : S[v]? with
  | some a =>
    obtain ⟨s, h1, h2⟩ := m.get e
    simp only [List.getD_eq_getElem?_getD, e, h1]
    exact h2
  | none =>
    have e2 : ρ[v]? = none := by
      rw [List.getElem?_eq_none_iff] at e ⊢
      rw [m.len]; exact e
    simp only [List.getD_eq_getElem?_getD, e, e2]
    rfl
theorem Mt.back {S S' : List SS} {ρ ρ' : Ev} (m : Mt S ρ) (m' : Mt S' ρ') : ∀ vs, Mt (backS S S' vs) (backE ρ ρ' vs)
  | [] => m'
  | v :: vs => (m.back m' vs).set (m.getD v)
theorem Mt.wipeOk {S : List SS} {ρ : Ev} (m : Mt S ρ) {vs : List Nat} (h : wipeOkS S vs = true) : Fd.wipeOk ρ vs = true := by
  unfold Fd.wipeOk
  unfold wipeOkS at h
  rw [List.all_eq_true] at h ⊢
  intro v hv
  have := h v hv
  split at this
  · rename_i e; obtain ⟨s, h1, h2⟩ := m.get e; cases h2; rw [h1]
  · rename_i d e; obtain ⟨s, h1, h2⟩ := m.get e; cases h2; rw [h1]
  · rename_i e; obtain ⟨s, h1, h2⟩ := m.get e; rcases h2 with rfl | ⟨_, rfl⟩ <;> rw [h1]
  · cases this
def mkO : SS → SS
  | .sl s => .sl (mask s)
  | .lf d => .lf d
  | _ => .sl .no
theorem mkO_one {a : SS} {s : Slot} (h : a.ok s) : (mkO a).ok (mask s) := by
  cases a with
  | sl u => cases h; rfl
  | nv => rcases h with rfl | ⟨_, rfl⟩ <;> rfl
  | jk => cases s <;> first | rfl | cases h
  | lf d =>
    rcases h with rfl | rfl
    · exact .inl rfl
    · exact .inr rfl
theorem mkO_all : ∀ {S : List SS} (n : Nat) {ρ : Ev}, Mt S ρ → Mt ((S.take n).map mkO) ((ρ.take n).map mask)
  | S, 0, ρ, m => by simp; exact .nil
  | [], n + 1, ρ, m => by cases m; simp; exact .nil
  | a :: S, n + 1, ρ, m => by
    cases m with
    | @cons _ s _ ρ h0 m =>
      rw [List.take_succ_cons, List.take_succ_cons, List.map_cons, List.map_cons]
      exact .cons (mkO_one h0) (mkO_all n m)
def lockS (S : List SS) (i : Nat) : Option (List SS × D × Bool) := match slS S i with
  | some (.own (.lst ds)) => some (S.set i (.sl (.lock (.lst ds) false)), .lst ds, false)
  | some (.lent (.lst ds)) => some (S.set i (.sl (.lock (.lst ds) true)), .lst ds, true)
  | _ => none

section
variable {X : Type} {S S1 S2 : List SS} {r : Res X} {Q : X → Fl → Ev → Prop}
variable {fa fb fe : M RV} {q q1 q2 : RV} {d : D} {st rest f g : M Fl} {c : M Bool} {i j : Nat}
theorem z_last (h : Go S (sq st nop) r Q) : Go S st r Q := h.eq (by
  funext ρ
  unfold sq bnd
  cases st ρ with
  | ok a ρ' => cases a <;> rfl
  | _ => rfl)
theorem z_nop (h : Go S rest r Q) : Go S (sq nop rest) r Q := h
theorem stoR_nx (i : Nat) (q : RV) (k : Fl → M Fl) : bnd (stoR i q) k = bnd (stoR i q) fun _ => k .nx := by
  funext ρ
  unfold bnd stoR
  split
  · split
    · cases q <;> rfl
    · rfl
  · rfl
theorem z_set (h : Go S (bnd fe fun q => bnd (stoR i q) fun _ => rest) r Q) : Go S (sq (setS i fe) rest) r Q := h.eq (by
  unfold sq setS
  rw [bnd_assoc]
  congr 1
  funext q
  rw [stoR_nx]
  rfl)
theorem z_sto (S1 : List SS) (e0 : frS S i = true) (e : stoS i q S = some S1) (h : Go S1 f r Q) : Go S (bnd (stoR i q) fun _ => f) r Q := .mk fun ρ m => by
  obtain ⟨s, h1, h2⟩ := m.fr e0
  show Lk ((stoR i q ρ).bnd _) Q r
  unfold stoR
  rw [h1]; dsimp only; rw [if_pos h2]
  cases q with
  | val d => cases e; exact h _ m.put
  | tmp d => cases e; exact h _ m.put
  | bor d => cases e
theorem z_drop (h : Go S (bnd fe fun _ => rest) r Q) : Go S (sq (dropS fe) rest) r Q := h.eq (by unfold sq dropS; rw [bnd_assoc]; rfl)
theorem z_ret (h : Go S (bnd fe fun q => ret (.rt q)) r Q) : Go S (sq (retS fe) rest) r Q := h.eq (by unfold sq retS; rw [bnd_assoc]; rfl)
theorem z_retN (h : Go S (ret (.rt (.val .non))) r Q) : Go S (sq (ret (.rt (.val .non))) rest) r Q := h
theorem z_bk (h : Go S (ret .bk) r Q) : Go S (sq (ret .bk) rest) r Q := h
theorem z_ct (h : Go S (ret .ct) r Q) : Go S (sq (ret .ct) rest) r Q := h
theorem sq_ite {k : Bool} : sq (if k = true then f else g) rest = if k = true then sq f rest else sq g rest := by cases k <;> rfl
theorem z_if (h : Go S (bnd c fun k => if k = true then sq f rest else sq g rest) r Q) : Go S (sq (ifS c f g) rest) r Q := h.eq (by
  show bnd (bnd c _) _ = _
  rw [bnd_assoc]
  congr 1
  funext k
  exact sq_ite)
theorem sq_assoc (a b d : M Fl) : sq (sq a b) d = sq a (sq b d) := by
  funext ρ
  unfold sq bnd
  cases a ρ with
  | ok x ρ' => cases x <;> rfl
  | _ => rfl
theorem z_sq (h : Go S (sq f (sq g rest)) r Q) : Go S (sq (sq f g) rest) r Q := h.eq (sq_assoc f g rest)
theorem z_ifJ {Z : Type} {E : Z → List SS} {r1 : Res Z} {k : Z → Res X} (h : Go S (bnd c fun k => if k = true then f else g) r1 (QE (fun _ => .nx) E)) (h2 : ∀ z, Go (E z) rest (k z) Q) : Go S (sq (ifS c f g) rest) (r1.bind k) Q :=
  z_bnd (κ := sqF rest) (f := ifS c f g) h h2
end
/-! targets -/
def tgM (h : Tg) (d : D) : M Unit := fun ρ => match h d ρ with
  | some ρ1 => .ok () ρ1
  | none => .bad
def putL (l : List D) (k d : D) : Res (List D) := match putAt (.lst l) k d with
  | some (.lst l') => .ok l'
  | _ => .bad
section
variable {α X : Type} {S S1 S2 : List SS} {r : Res X} {Q : X → α → Ev → Prop} {κ : Unit → M α} {d : D} {i : Nat} {h1 h2 h3 h4 : Tg}
theorem z_tgN (S1 : List SS) (e : frS S i = true) (e' : S.set i (.sl (.val d)) = S1) (h : Go S1 (κ ()) r Q) : Go S (bnd (tgM (setN i) d) κ) r Q := .mk fun ρ m => by
  obtain ⟨s, e1, e2⟩ := m.fr e
  show Lk ((tgM (setN i) d ρ).bnd κ) Q r
  unfold tgM setN
  rw [e1]; dsimp only; rw [if_pos e2]
  subst e'
  exact h _ m.put
theorem tg_bnd {γ : Type} {hs : Tgs} {ds : List D} {κ : Unit → M γ} : bnd (fun ρ => match setCons h1 hs (d :: ds) ρ with
    | some ρ1 => .ok () ρ1
    | none => .bad) κ = bnd (tgM h1 d) fun _ => bnd (fun ρ => match hs ds ρ with
    | some ρ1 => .ok () ρ1
    | none => .bad) κ := by
  funext ρ
  dsimp only [bnd, tgM, setCons]
  cases h1 d ρ <;> rfl
def tgsM (hs : Tgs) (ds : List D) : M Unit := fun ρ => match hs ds ρ with
  | some ρ1 => .ok () ρ1
  | none => .bad
theorem tgsM_nil : tgsM setNil [] = ret () := rfl
theorem tgsM_cons (h : Tg) (hs : Tgs) (d : D) (ds : List D) : tgsM (setCons h hs) (d :: ds) = bnd (tgM h d) fun _ => tgsM hs ds := by
  funext ρ
  dsimp only [bnd, tgM, tgsM, setCons]
  cases h d ρ <;> rfl
theorem tgM_tup (n : Nat) (hs : Tgs) (ds : List D) (e : ds.length = n) : tgM (setTup n hs) (.tup ds) = tgsM hs ds := by
  funext ρ
  unfold tgM tgsM setTup
  dsimp only
  rw [if_pos e]
theorem tgM_lst (n : Nat) (hs : Tgs) (ds : List D) (e : ds.length = n) : tgM (setTup n hs) (.lst ds) = tgsM hs ds := by
  funext ρ
  unfold tgM tgsM setTup
  dsimp only
  rw [if_pos e]
theorem tgs2 {κ : Unit → M α} (a b : D) : bnd (tgsM (setCons h1 (setCons h2 setNil)) [a, b]) κ = bnd (tgM h1 a) fun _ => bnd (tgM h2 b) κ := by
  rw [tgsM_cons, tgsM_cons, tgsM_nil, bnd_assoc]
  congr 1
  funext _
  rw [bnd_assoc]
  rfl
theorem tgs3 {κ : Unit → M α} (a b c : D) : bnd (tgsM (setCons h1 (setCons h2 (setCons h3 setNil))) [a, b, c]) κ = bnd (tgM h1 a) fun _ => bnd (tgM h2 b) fun _ => bnd (tgM h3 c) κ := by
  rw [tgsM_cons, bnd_assoc]
  congr 1
  funext _
  exact tgs2 b c
theorem tgs4 {κ : Unit → M α} (a b c e : D) : bnd (tgsM (setCons h1 (setCons h2 (setCons h3 (setCons h4 setNil)))) [a, b, c, e]) κ = bnd (tgM h1 a) fun _ => bnd (tgM h2 b) fun _ => bnd (tgM h3 c) fun _ => bnd (tgM h4 e) κ := by
  rw [tgsM_cons, bnd_assoc]
  congr 1
  funext _
  exact tgs3 b c e
theorem z_tg2 {k : D → D → Res X} (h : ∀ a b, Go S (bnd (tgM h1 a) fun _ => bnd (tgM h2 b) κ) (k a b) Q) : Go S (bnd (tgM (setTup 2 (setCons h1 (setCons h2 setNil))) d) κ) ((un2 d).bind2 k) Q := by
  unfold un2
  split
  · rw [tgM_tup 2 _ [_, _] rfl, tgs2]; exact h _ _
  · rw [tgM_lst 2 _ [_, _] rfl, tgs2]; exact h _ _
  · exact z_bad
theorem z_tg3 {k : D → D → D → Res X} (h : ∀ a b c, Go S (bnd (tgM h1 a) fun _ => bnd (tgM h2 b) fun _ => bnd (tgM h3 c) κ) (k a b c) Q) : Go S (bnd (tgM (setTup 3 (setCons h1 (setCons h2 (setCons h3 setNil)))) d) κ) ((un3 d).bind3 k) Q := by
  unfold un3
  split
  · rw [tgM_tup 3 _ [_, _, _] rfl, tgs3]; exact h _ _ _
  · rw [tgM_lst 3 _ [_, _, _] rfl, tgs3]; exact h _ _ _
  · exact z_bad
theorem z_tg4 {k : D → D → D → D → Res X} (h : ∀ a b c e, Go S (bnd (tgM h1 a) fun _ => bnd (tgM h2 b) fun _ => bnd (tgM h3 c) fun _ => bnd (tgM h4 e) κ) (k a b c e) Q) : Go S (bnd (tgM (setTup 4 (setCons h1 (setCons h2 (setCons h3 (setCons h4 setNil))))) d) κ) ((un4 d).bind4 k) Q := by
  unfold un4
  split
  · rw [tgM_tup 4 _ [_, _, _, _] rfl, tgs4]; exact h _ _ _ _
  · rw [tgM_lst 4 _ [_, _, _, _] rfl, tgs4]; exact h _ _ _ _
  · exact z_bad
theorem z_tgX {fi : M RV} {s : Slot} {l : List D} {rk : Res D} {k : List D → Res X} (h0 : opS S i = some s) (ec : s.dat = some (.lst l)) (hi : Go S fi rk (QE (fun z => RV.val z) fun _ => S)) (T : List D → List SS) (hT : ∀ l', S.set i (.sl (s.put (.lst l'))) = T l') (h : ∀ l', Go (T l') (κ ()) (k l') Q) : Go S (bnd (tgM (setX i fi) d) κ) ((noX rk).bind fun v => (putL l v d).bind k) Q := .mk fun ρ m => by
  obtain ⟨a1, a2⟩ := opS_sl h0
  have q := hi ρ m
  cases rk with
  | exc => trivial
  | bad => trivial
  | ok z =>
    obtain ⟨_, ρ1, e1, rfl, m1⟩ := q
    have key : setX i fi d ρ = (match putAt (.lst l) z d with
      | some c' => some (ρ1.set i (s.put c'))
      | none => none) := by
      unfold setX
      rw [m.sl a1]; dsimp only
      rw [if_pos (Slot.open_mine a2), e1]; dsimp only [RV.dat]
      rw [m1.sl a1]; dsimp only
      rw [if_pos a2, ec]
      all_goals rfl
    show Lk ((tgM (setX i fi) d ρ).bnd κ) Q ((putL l z d).bind k)
    unfold tgM putL
    rw [key]
    cases e : putAt (.lst l) z d with
    | none => trivial
    | some c =>
      cases c with
      | lst l' => exact (hT l' ▸ h l') _ m1.put
      | _ => trivial
end
section
variable {X : Type} {S S1 S2 : List SS} {r : Res X} {Q : X → Fl → Ev → Prop}
variable {fa fb fe : M RV} {q q1 q2 : RV} {d : D} {st rest f g : M Fl} {c : M Bool} {i j : Nat}
def asgK (h : Tg) (q : RV) : M Unit := match q with
  | .val d => tgM h d
  | _ => fail
theorem z_asg {h : Tg} (hh : Go S (bnd fe fun q => bnd (asgK h q) fun _ => rest) r Q) : Go S (sq (asgS h fe) rest) r Q := hh.eq (by
  unfold sq asgS
  rw [bnd_assoc]
  congr 1
  funext q
  funext ρ
  cases q with
  | val d =>
    dsimp only [bnd, asgK, tgM, runT]
    cases h d ρ <;> rfl
  | _ => rfl)
theorem z_asgK {h : Tg} {κ : Unit → M Fl} (hh : Go S (bnd (tgM h d) κ) r Q) : Go S (bnd (asgK h (.val d)) κ) r Q := hh
def parK (i j : Nat) (rs : List RV) : M Unit := fun ρ => match rs with
  | [r1, r2] => (match (sto i r1 ρ).bind (sto j r2) with
    | some ρ1 => .ok () ρ1
    | none => .bad)
  | _ => .bad
theorem z_par {fs : M (List RV)} (hh : Go S (bnd fs fun rs => bnd (parK i j rs) fun _ => rest) r Q) : Go S (sq (parS i j fs) rest) r Q := hh.eq (by
  unfold sq parS
  rw [bnd_assoc]
  congr 1
  funext q
  funext ρ
  rcases q with _ | ⟨r1, _ | ⟨r2, _ | ⟨_, _⟩⟩⟩
  · rfl
  · rfl
  · dsimp only [bnd, parK, runT]
    cases (sto i r1 ρ).bind (sto j r2) <;> rfl
  · rfl)
theorem z_parK (S1 S2 : List SS) (f1 : frS S i = true) (e1 : stoS i q1 S = some S1) (f2 : frS S1 j = true) (e2 : stoS j q2 S1 = some S2) (h : Go S2 rest r Q) : Go S (bnd (parK i j [q1, q2]) fun _ => rest) r Q := .mk fun ρ m => by
  obtain ⟨ρ1, a1, m1⟩ := sto_te m f1 e1
  obtain ⟨ρ2, a2, m2⟩ := sto_te m1 f2 e2
  show Lk ((parK i j [q1, q2] ρ).bnd _) Q r
  unfold parK
  dsimp only
  rw [a1, Option.bind_some, a2]
  exact h ρ2 m2
end
/-! methods of a list -/
section
variable {α X : Type} {S S1 S2 : List SS} {r : Res X} {Q : X → α → Ev → Prop} {κ : RV → M α} {i : Nat} {s : Slot} {fs : M (List RV)} {rs : List RV} {ds cs c0 : List D} {g : List D → List D → Option (List D × D)}
def mtK (g : List D → List D → Option (List D × D)) (i : Nat) (rs : List RV) : M RV := fun ρ => match valsOf rs with
  | some ds => mtF g i ds ρ
  | none => .bad
theorem z_mt (h0 : opS S i = some s) (h0d : s.dat = some (.lst c0)) (h : Go S (bnd fs fun rs => bnd (mtK g i rs) κ) r Q) : Go S (bnd (mtE g i fs) κ) r Q := .mk fun ρ m => by
  obtain ⟨a1, a2⟩ := opS_sl h0
  have z := h ρ m
  show Lk ((mtE g i fs ρ).bnd κ) Q r
  have e : mtE g i fs ρ = bnd fs (fun rs => mtK g i rs) ρ := by
    unfold mtE
    rw [m.sl a1]; dsimp only
    rw [if_pos (Slot.open_mine a2), h0d]
    rfl
  rw [e]
  have e2 := congrFun (bnd_assoc fs (fun rs => mtK g i rs) κ) ρ
  unfold bnd at e2 z
  unfold bnd
  rw [e2]
  exact z
theorem z_mtK {k : List D → D → Res X} (h1 : opS S i = some s) (hc : s.dat = some (.lst cs)) (hv : valsOf rs = some ds) (T : List D → List SS) (hT : ∀ es, S.set i (.sl (s.put (.lst es))) = T es) (h : ∀ es e, Go (T es) (κ (.val e)) (k es e) Q) : Go S (bnd (mtK g i rs) κ) ((ofO (g cs ds)).bind2 k) Q := .mk fun ρ m => by
  obtain ⟨b1, b2⟩ := opS_sl h1
  show Lk ((mtK g i rs ρ).bnd κ) Q _
  unfold mtK
  rw [hv]; dsimp only
  unfold mtF
  rw [m.sl b1]; dsimp only
  rw [if_pos b2, hc]; dsimp only
  cases g cs ds with
  | none => trivial
  | some p => exact (hT p.1 ▸ h p.1 p.2) _ m.put
end
end Fd

namespace Fd
open PySem L2
/-! ### what is walked -/
section
variable {α X : Type} {S S1 S2 : List SS} {r : Res X} {Q : X → α → Ev → Prop} {κ : ItS → M α} {fa fb : M RV} {q q1 q2 : RV} {d a b : D} {i : Nat}
theorem z_it (h : Go S (bnd fa fun r => bnd (itR r) κ) r Q) : Go S (bnd (itE fa) κ) r Q := h.eq (by unfold itE; rw [bnd_assoc])
theorem z_itV {k : List D → Res X} (h : ∀ ds, Go S (κ (.dat ds)) (k ds) Q) : Go S (bnd (itR (.val d)) κ) ((items d).bind k) Q := by
  cases d with
  | lst ds => exact h ds
  | tup ds => exact h ds
  | str x => exact h _
  | _ => exact z_bad
theorem z_itL {l : List D} (h : Go S (κ (.dat l)) r Q) : Go S (bnd (itR (.tmp (.lst l))) κ) r Q := h
theorem z_itS {l : List D} (e : (slS S i).bind Slot.dat = some (.lst l)) (h : Go S (κ (.slot i)) r Q) : Go S (bnd (itR (.bor i)) κ) r Q := .mk fun ρ m => by
  obtain ⟨s, h1, h2⟩ := Option.bind_eq_some_iff.mp e
  show Lk ((itR (.bor i) ρ).bnd κ) Q r
  have z : (ρ[i]?).bind Slot.dat = some (.lst l) := by rw [m.sl h1]; exact h2
  unfold itR
  dsimp only
  rw [z]
  exact h ρ m
theorem z_itLP {l : List D} {k : List D → Res X} (h : Go S (κ (.dat l)) (k l) Q) : Go S (bnd (itR (.tmp (.lst l))) κ) ((items (.lst l)).bind k) Q := h
theorem z_itSP {l : List D} {k : List D → Res X} (e : (slS S i).bind Slot.dat = some (.lst l)) (h : Go S (κ (.slot i)) (k l) Q) : Go S (bnd (itR (.bor i)) κ) ((items (.lst l)).bind k) Q := z_itS e h
def rngK (q : RV) : M ItS := fun ρ => match q.dat ρ with
  | some (.int j) => if -(2 ^ 62) ≤ j ∧ j < 2 ^ 62 then .ok (.dat (rngD 0 j.toNat)) ρ else .bad
  | _ => .bad
def rngR (d : D) : Res (List D) := match d with
  | .int j => if -(2 ^ 62) ≤ j ∧ j < 2 ^ 62 then .ok (rngD 0 j.toNat) else .bad
  | _ => .bad
theorem z_rng1 (h : Go S (bnd fa fun r => bnd (rngK r) κ) r Q) : Go S (bnd (rng1 fa) κ) r Q := h.eq (by unfold rng1; rw [bnd_assoc]; rfl)
theorem z_rngK {k : List D → Res X} (e : datR S q = some d) (h : ∀ ds, Go S (κ (.dat ds)) (k ds) Q) : Go S (bnd (rngK q) κ) ((rngR d).bind k) Q := .mk fun ρ m => by
  show Lk ((rngK q ρ).bnd κ) Q _
  unfold rngK rngR
  rw [m.dat e]
  cases d with
  | int j =>
    dsimp only
    by_cases z : -(2 ^ 62) ≤ j ∧ j < 2 ^ 62
    · rw [if_pos z, if_pos z]; exact h _ ρ m
    · rw [if_neg z, if_neg z]; trivial
  | _ => trivial
def rng2K (q q' : RV) : M ItS := fun ρ => match q.dat ρ, q'.dat ρ with
  | some (.int i), some (.int j) => if -(2 ^ 62) ≤ i ∧ i < 2 ^ 62 ∧ -(2 ^ 62) ≤ j ∧ j < 2 ^ 62 then .ok (.dat (rngD i (j - i).toNat)) ρ else .bad
  | _, _ => .bad
def rng2R (a b : D) : Res (List D) := match a, b with
  | .int i, .int j => if -(2 ^ 62) ≤ i ∧ i < 2 ^ 62 ∧ -(2 ^ 62) ≤ j ∧ j < 2 ^ 62 then .ok (rngD i (j - i).toNat) else .bad
  | _, _ => .bad
theorem z_rng2 (h : Go S (bnd fa fun r => bnd fb fun r' => bnd (rng2K r r') κ) r Q) : Go S (bnd (rng2 fa fb) κ) r Q := h.eq (by
  unfold rng2
  rw [bnd_assoc]
  congr 1
  funext _
  rw [bnd_assoc]
  rfl)
theorem z_rng2K {k : List D → Res X} (e1 : datR S q1 = some a) (e2 : datR S q2 = some b) (h : ∀ ds, Go S (κ (.dat ds)) (k ds) Q) : Go S (bnd (rng2K q1 q2) κ) ((rng2R a b).bind k) Q := .mk fun ρ m => by
  show Lk ((rng2K q1 q2 ρ).bnd κ) Q _
  unfold rng2K
  rw [m.dat e1, m.dat e2]
  cases a with
  | int i =>
    cases b with
    | int j =>
      unfold rng2R
      dsimp only
      by_cases z : -(2 ^ 62) ≤ i ∧ i < 2 ^ 62 ∧ -(2 ^ 62) ≤ j ∧ j < 2 ^ 62
      · rw [if_pos z, if_pos z]; exact h _ ρ m
      · rw [if_neg z, if_neg z]; trivial
    | _ => trivial
  | _ => trivial
def enumL (ds : List D) : List D := ds.mapIdx fun i d => .tup [.int i, d]
def enumR (d : D) : Res (List D) := match d with
  | .lst ds => .ok (enumL ds)
  | _ => .bad
def enumK (q : RV) : M ItS := fun ρ => match q with
  | .bor _ => .bad
  | r => (match (r.dat ρ).bind lstOf with
    | some ds => .ok (.dat (ds.mapIdx fun i d => .tup [.int i, d])) ρ
    | none => .bad)
theorem z_enum (h : Go S (bnd fa fun r => bnd (enumK r) κ) r Q) : Go S (bnd (enumE fa) κ) r Q := h.eq (by unfold enumE; rw [bnd_assoc]; rfl)
theorem z_enumV {k : List D → Res X} (h : ∀ ds, Go S (κ (.dat ds)) (k ds) Q) : Go S (bnd (enumK (.val d)) κ) ((enumR d).bind k) Q := by
  cases d with
  | lst ds => exact h _
  | _ => exact z_bad
theorem z_enumL {l : List D} (h : Go S (κ (.dat (enumL l))) r Q) : Go S (bnd (enumK (.tmp (.lst l))) κ) r Q := h
def zipL (xs ys : List D) : List D := (xs.zip ys).map fun p => .tup [p.1, p.2]
def zipR (a b : D) : Res (List D) := match a, b with
  | .lst xs, .lst ys => .ok (zipL xs ys)
  | .tup xs, .tup ys => .ok (zipL xs ys)
  | .kt xs, .tup ys => .ok (zipL xs ys)
  | _, _ => .bad
def zipK (q q' : RV) : M ItS := fun ρ => match q, q' with
  | .val (.lst xs), .val (.lst ys) => .ok (.dat ((xs.zip ys).map fun p => .tup [p.1, p.2])) ρ
  | .val (.tup xs), .val (.tup ys) => .ok (.dat ((xs.zip ys).map fun p => .tup [p.1, p.2])) ρ
  | .val (.kt xs), .val (.tup ys) => .ok (.dat ((xs.zip ys).map fun p => .tup [p.1, p.2])) ρ
  | _, _ => .bad
theorem z_zip (h : Go S (bnd fa fun r => bnd fb fun r' => bnd (zipK r r') κ) r Q) : Go S (bnd (zipE fa fb) κ) r Q := h.eq (by
  unfold zipE
  rw [bnd_assoc]
  congr 1
  funext _
  rw [bnd_assoc]
  rfl)
theorem z_zipK {k : List D → Res X} (h : ∀ ds, Go S (κ (.dat ds)) (k ds) Q) : Go S (bnd (zipK (.val a) (.val b)) κ) ((zipR a b).bind k) Q := by
  unfold zipR
  split
  · exact h _
  · exact h _
  · exact h _
  · exact z_bad
end
/-! ### loops -/
section
variable {X σ P : Type} {S S1 S2 : List SS} {r : Res X} {Q : X → Fl → Ev → Prop} {h : Tg} {body rest : M Fl} {fi : M ItS} {E : σ → List SS} {s0 : σ} {ds : List D}
def QN (E : σ → List SS) : σ → Fl → Ev → Prop := fun s a ρ => (a = .nx ∨ a = .ct) ∧ Mt (E s) ρ
def QL (E : σ → List SS) (F : P → RV) (T : P → List SS) : Lp σ P → Fl → Ev → Prop := fun x a ρ => match x with
  | .go s => (a = .nx ∨ a = .ct) ∧ Mt (E s) ρ
  | .stop s => a = .bk ∧ Mt (E s) ρ
  | .ret p => a = .rt (F p) ∧ Mt (T p) ρ
theorem z_nxN {s : σ} (w : Sub S (E s)) : Go S nop (.ok s) (QN E) := .mk fun ρ m => ⟨.nx, ρ, rfl, .inl rfl, w.mt m⟩
theorem z_ctN {s : σ} (w : Sub S (E s)) : Go S (ret .ct) (.ok s) (QN E) := .mk fun ρ m => ⟨.ct, ρ, rfl, .inr rfl, w.mt m⟩
theorem z_nxL {F : P → RV} {T : P → List SS} {s : σ} (w : Sub S (E s)) : Go S nop (.ok (.go s)) (QL E F T) := .mk fun ρ m => ⟨.nx, ρ, rfl, .inl rfl, w.mt m⟩
theorem z_ctL {F : P → RV} {T : P → List SS} {s : σ} (w : Sub S (E s)) : Go S (ret .ct) (.ok (.go s)) (QL E F T) := .mk fun ρ m => ⟨.ct, ρ, rfl, .inr rfl, w.mt m⟩
theorem z_bkL {F : P → RV} {T : P → List SS} {s : σ} (w : Sub S (E s)) : Go S (ret .bk) (.ok (.stop s)) (QL E F T) := .mk fun ρ m => ⟨.bk, ρ, rfl, rfl, w.mt m⟩
theorem z_rtL {F : P → RV} {T : P → List SS} {p : P} {q : RV} (e : q = F p) (w : Sub S (T p)) : Go S (ret (.rt q)) (.ok (.ret p)) (QL E F T) := .mk fun ρ m => ⟨.rt q, ρ, rfl, e ▸ rfl, w.mt m⟩
theorem z_nxJ {E : σ → List SS} {s : σ} (w : Sub S (E s)) : Go S nop (.ok s) (QE (fun _ => Fl.nx) E) := .mk fun ρ m => ⟨.nx, ρ, rfl, rfl, w.mt m⟩
def forK (h : Tg) (body : M Fl) (it : ItS) : M Fl := match it with
  | .dat ds => forL h body ds
  | .slot i => forSl h body i
theorem z_for (hh : Go S (bnd fi fun it => sq (forK h body it) rest) r Q) : Go S (sq (forS fi h body) rest) r Q := hh.eq (by
  unfold sq forS
  rw [bnd_assoc]
  rfl)
theorem turn_eq (h : Tg) (body g : M Fl) (d : D) : turnF h body g d = bnd (bnd (tgM h d) fun _ => body) (againF g) := by
  funext ρ
  dsimp only [turnF, bnd, tgM]
  cases h d ρ <;> rfl
theorem forL_go {b : σ → D → Res σ} (hb : ∀ s d, Go (E s) (bnd (tgM h d) fun _ => body) (b s d) (QN E)) : ∀ (ds : List D) (s : σ), Go (E s) (forL h body ds) (forR b ds s) (QE (fun _ => Fl.nx) E)
  | [], s => .mk fun ρ m => ⟨.nx, ρ, rfl, rfl, m⟩
  | d :: ds, s => .mk fun ρ m => by
    have q := hb s d ρ m
    show Lk (turnF h body (forL h body ds) d ρ) _ ((b s d).bind _)
    rw [turn_eq]
    cases e : b s d with
    | ok s1 =>
      rw [e] at q
      obtain ⟨a, ρ', e1, ha, m'⟩ := q
      show Lk ((bnd (tgM h d) (fun _ => body) ρ).bnd _) _ _
      rw [e1]
      rcases ha with rfl | rfl
      · exact forL_go hb ds s1 ρ' m'
      · exact forL_go hb ds s1 ρ' m'
    | exc => trivial
    | bad => trivial
def QS (E : σ → List SS) (F : P → RV) (T : P → List SS) : Sum σ P → Fl → Ev → Prop := fun x a ρ => match x with
  | .inl s => a = .nx ∧ Mt (E s) ρ
  | .inr p => a = .rt (F p) ∧ Mt (T p) ρ
theorem forL_goX {F : P → RV} {T : P → List SS} {b : σ → D → Res (Lp σ P)} (hb : ∀ s d, Go (E s) (bnd (tgM h d) fun _ => body) (b s d) (QL E F T)) : ∀ (ds : List D) (s : σ), Go (E s) (forL h body ds) (forX b ds s) (QS E F T)
  | [], s => .mk fun ρ m => ⟨.nx, ρ, rfl, rfl, m⟩
  | d :: ds, s => .mk fun ρ m => by
    have q := hb s d ρ m
    show Lk (turnF h body (forL h body ds) d ρ) _ ((b s d).bind _)
    rw [turn_eq]
    cases e : b s d with
    | ok x =>
      rw [e] at q
      obtain ⟨a, ρ', e1, ha⟩ := q
      show Lk ((bnd (tgM h d) (fun _ => body) ρ).bnd _) _ _
      rw [e1]
      cases x with
      | go s1 =>
        obtain ⟨ha, m'⟩ := ha
        rcases ha with rfl | rfl
        · exact forL_goX hb ds s1 ρ' m'
        · exact forL_goX hb ds s1 ρ' m'
      | stop s1 => obtain ⟨rfl, m'⟩ := ha; exact ⟨.nx, ρ', rfl, rfl, m'⟩
      | ret p => obtain ⟨rfl, m'⟩ := ha; exact ⟨.rt (F p), ρ', rfl, rfl, m'⟩
    | exc => trivial
    | bad => trivial
theorem z_forD {b : σ → D → Res σ} {k : σ → Res X} (w : Sub S (E s0)) (hb : ∀ s d, Go (E s) (bnd (tgM h d) fun _ => body) (b s d) (QN E)) (hk : ∀ s, Go (E s) rest (k s) Q) : Go S (sq (forK h body (.dat ds)) rest) ((forR b ds s0).bind k) Q :=
  z_sub w (z_bnd (κ := sqF rest) (forL_go hb ds s0) hk)
theorem z_aft {f : M Fl} {F : P → RV} {T : P → List SS} {r1 : Res (Sum σ P)} {k : σ → Res X} {l : P → Res X} (h : Go S f r1 (QS E F T)) (hk : ∀ s, Go (E s) rest (k s) Q) (hl : ∀ p, Go (T p) (ret (.rt (F p))) (l p) Q) : Go S (sq f rest) (after r1 k l) Q := .mk fun ρ m => by
  have q := h ρ m
  cases r1 with
  | ok x =>
    obtain ⟨a, ρ', e, ha⟩ := q
    show Lk ((f ρ).bnd _) Q _
    rw [e]
    cases x with
    | inl s => obtain ⟨rfl, m'⟩ := ha; exact hk s ρ' m'
    | inr p => obtain ⟨rfl, m'⟩ := ha; exact hl p ρ' m'
  | exc => trivial
  | bad => trivial
theorem z_forDX {F : P → RV} {T : P → List SS} {b : σ → D → Res (Lp σ P)} {k : σ → Res X} {l : P → Res X} (w : Sub S (E s0)) (hb : ∀ s d, Go (E s) (bnd (tgM h d) fun _ => body) (b s d) (QL E F T)) (hk : ∀ s, Go (E s) rest (k s) Q) (hl : ∀ p, Go (T p) (ret (.rt (F p))) (l p) Q) : Go S (sq (forK h body (.dat ds)) rest) (after (forX b ds s0) k l) Q :=
  z_sub w (z_aft (forL_goX hb ds s0) hk hl)
/-! over a list in a slot -/
theorem forB_go {i : Nat} {lb : Bool} {b : σ → D → Res σ} (hl : ∀ s, slS (E s) i = some (.lock (.lst ds) lb)) (hb : ∀ s d, Go (E s) (bnd (tgM h d) fun _ => body) (b s d) (QN E)) : ∀ (n k : Nat) (s : σ), ds.length = n + k → Go (E s) (forB h body i n k) (forR b (ds.drop k) s) (QE (fun _ => Fl.nx) E)
  | 0, k, s, hn => .mk fun ρ m => by
    rw [List.drop_of_length_le (by omega)]
    refine ⟨.nx, ρ, ?_, rfl, m⟩
    unfold forB; rw [m.sl (hl s)]; dsimp only; rw [if_pos (by omega)]
  | n + 1, k, s, hn => .mk fun ρ m => by
    have hk : k < ds.length := by omega
    rw [List.drop_eq_getElem_cons hk]
    have q := hb s ds[k] ρ m
    show Lk _ _ ((b s ds[k]).bind _)
    unfold forB
    rw [m.sl (hl s)]; dsimp only
    rw [List.getElem?_eq_getElem hk]; dsimp only
    rw [turn_eq]
    cases e : b s ds[k] with
    | ok s1 =>
      rw [e] at q
      obtain ⟨a, ρ', e1, ha, m'⟩ := q
      show Lk ((bnd (tgM h ds[k]) (fun _ => body) ρ).bnd _) _ _
      rw [e1]
      rcases ha with rfl | rfl
      · exact forB_go hl hb n (k + 1) s1 (by omega) ρ' m'
      · exact forB_go hl hb n (k + 1) s1 (by omega) ρ' m'
    | exc => trivial
    | bad => trivial
theorem forB_goX {i : Nat} {lb : Bool} {F : P → RV} {T : P → List SS} {b : σ → D → Res (Lp σ P)} (hl : ∀ s, slS (E s) i = some (.lock (.lst ds) lb)) (hb : ∀ s d, Go (E s) (bnd (tgM h d) fun _ => body) (b s d) (QL E F T)) : ∀ (n k : Nat) (s : σ), ds.length = n + k → Go (E s) (forB h body i n k) (forX b (ds.drop k) s) (QS E F T)
  | 0, k, s, hn => .mk fun ρ m => by
    rw [List.drop_of_length_le (by omega)]
    refine ⟨.nx, ρ, ?_, rfl, m⟩
    unfold forB; rw [m.sl (hl s)]; dsimp only; rw [if_pos (by omega)]
  | n + 1, k, s, hn => .mk fun ρ m => by
    have hk : k < ds.length := by omega
    rw [List.drop_eq_getElem_cons hk]
    have q := hb s ds[k] ρ m
    show Lk _ _ ((b s ds[k]).bind _)
    unfold forB
    rw [m.sl (hl s)]; dsimp only
    rw [List.getElem?_eq_getElem hk]; dsimp only
    rw [turn_eq]
    cases e : b s ds[k] with
    | ok x =>
      rw [e] at q
      obtain ⟨a, ρ', e1, ha⟩ := q
      show Lk ((bnd (tgM h ds[k]) (fun _ => body) ρ).bnd _) _ _
      rw [e1]
      cases x with
      | go s1 =>
        obtain ⟨ha, m'⟩ := ha
        rcases ha with rfl | rfl
        · exact forB_goX hl hb n (k + 1) s1 (by omega) ρ' m'
        · exact forB_goX hl hb n (k + 1) s1 (by omega) ρ' m'
      | stop s1 => obtain ⟨rfl, m'⟩ := ha; exact ⟨.nx, ρ', rfl, rfl, m'⟩
      | ret p => obtain ⟨rfl, m'⟩ := ha; exact ⟨.rt (F p), ρ', rfl, rfl, m'⟩
    | exc => trivial
    | bad => trivial
theorem lock_run {i : Nat} {lb : Bool} (h0 : lockS S i = some (S2, .lst ds, lb)) {ρ : Ev} (m : Mt S ρ) : ∃ ρ2, Mt S2 ρ2 ∧ forSl h body i ρ = unO i lb (forB h body i ds.length 0 ρ2) := by
  unfold lockS at h0
  unfold forSl
  split at h0
  · rename_i ds hs
    cases h0
    rw [m.sl hs]
    exact ⟨_, m.put, rfl⟩
  · rename_i ds hs
    cases h0
    rw [m.sl hs]
    exact ⟨_, m.put, rfl⟩
  · cases h0
theorem z_forS {i : Nat} {lb : Bool} {b : σ → D → Res σ} {k : σ → Res X} (h0 : lockS S i = some (S2, .lst ds, lb)) (w : Sub S2 (E s0)) (hl : ∀ s, slS (E s) i = some (.lock (.lst ds) lb)) (hb : ∀ s d, Go (E s) (bnd (tgM h d) fun _ => body) (b s d) (QN E)) (T1 : σ → List SS) (hT : ∀ s, (E s).set i (.sl (unlk (.lst ds) lb)) = T1 s) (hk : ∀ s, Go (T1 s) rest (k s) Q) : Go S (sq (forK h body (.slot i)) rest) ((forR b ds s0).bind k) Q := .mk fun ρ m => by
  obtain ⟨ρ2, m2, e⟩ := lock_run (h := h) (body := body) h0 m
  have q := forB_go hl hb ds.length 0 s0 rfl ρ2 (w.mt m2)
  rw [List.drop_zero] at q
  show Lk ((forSl h body i ρ).bnd _) Q _
  rw [e]
  cases e2 : forR b ds s0 with
  | ok s =>
    rw [e2] at q
    obtain ⟨_, ρ', e3, rfl, m'⟩ := q
    rw [e3]
    unfold unO; dsimp only
    rw [m'.sl (hl s)]
    exact (hT s ▸ hk s) _ m'.put
  | exc => trivial
  | bad => trivial
theorem z_forSX {i : Nat} {lb : Bool} {F : P → RV} {T : P → List SS} {b : σ → D → Res (Lp σ P)} {k : σ → Res X} {l : P → Res X} (h0 : lockS S i = some (S2, .lst ds, lb)) (w : Sub S2 (E s0)) (hl : ∀ s, slS (E s) i = some (.lock (.lst ds) lb)) (hlT : ∀ p, slS (T p) i = some (.lock (.lst ds) lb)) (hb : ∀ s d, Go (E s) (bnd (tgM h d) fun _ => body) (b s d) (QL E F T)) (T1 : σ → List SS) (hT : ∀ s, (E s).set i (.sl (unlk (.lst ds) lb)) = T1 s) (T2 : P → List SS) (hT2 : ∀ s, (T s).set i (.sl (unlk (.lst ds) lb)) = T2 s) (hk : ∀ s, Go (T1 s) rest (k s) Q) (hr : ∀ p, Go (T2 p) (ret (.rt (F p))) (l p) Q) : Go S (sq (forK h body (.slot i)) rest) (after (forX b ds s0) k l) Q := .mk fun ρ m => by
  obtain ⟨ρ2, m2, e⟩ := lock_run (h := h) (body := body) h0 m
  have q := forB_goX hl hb ds.length 0 s0 rfl ρ2 (w.mt m2)
  rw [List.drop_zero] at q
  show Lk ((forSl h body i ρ).bnd _) Q _
  rw [e]
  cases e2 : forX b ds s0 with
  | ok x =>
    rw [e2] at q
    obtain ⟨a, ρ', e3, ha⟩ := q
    rw [e3]
    unfold unO; dsimp only
    cases x with
    | inl s =>
      obtain ⟨rfl, m'⟩ := ha
      rw [m'.sl (hl s)]
      exact (hT s ▸ hk s) _ m'.put
    | inr p =>
      obtain ⟨rfl, m'⟩ := ha
      rw [m'.sl (hlT p)]
      exact (hT2 p ▸ hr p) _ m'.put
  | exc => trivial
  | bad => trivial
/-! while -/
theorem wh_go {c : M Bool} {cb : σ → Res Bool} {b : σ → Res σ} (hc : ∀ s, Go (E s) c (cb s) (QE id fun _ => E s)) (hb : ∀ s, Go (E s) body (b s) (QN E)) : ∀ (n : Nat) (s : σ), Go (E s) (whS c body n) (whR cb b n s) (QE (fun _ => Fl.nx) E)
  | 0, s => z_bad
  | n + 1, s => .mk fun ρ m => by
    have q := hc s ρ m
    show Lk ((c ρ).bnd _) _ ((cb s).bind _)
    cases e : cb s with
    | ok k =>
      rw [e] at q
      obtain ⟨k', ρ', e1, hk, m'⟩ := q
      have hk : k' = k := hk
      subst hk
      rw [e1]
      cases k' with
      | false => exact ⟨.nx, ρ', rfl, rfl, m'⟩
      | true =>
        show Lk ((body ρ').bnd _) _ ((b s).bind _)
        have q2 := hb s ρ' m'
        cases e2 : b s with
        | ok s1 =>
          rw [e2] at q2
          obtain ⟨a, ρ2, e3, ha, m2⟩ := q2
          rw [e3]
          rcases ha with rfl | rfl
          · exact wh_go hc hb n s1 ρ2 m2
          · exact wh_go hc hb n s1 ρ2 m2
        | exc => trivial
        | bad => trivial
    | exc => trivial
    | bad => trivial
theorem wh_goX {c : M Bool} {cb : σ → Res Bool} {F : P → RV} {T : P → List SS} {b : σ → Res (Lp σ P)} (hc : ∀ s, Go (E s) c (cb s) (QE id fun _ => E s)) (hb : ∀ s, Go (E s) body (b s) (QL E F T)) : ∀ (n : Nat) (s : σ), Go (E s) (whS c body n) (whX cb b n s) (QS E F T)
  | 0, s => z_bad
  | n + 1, s => .mk fun ρ m => by
    have q := hc s ρ m
    show Lk ((c ρ).bnd _) _ ((cb s).bind _)
    cases e : cb s with
    | ok k =>
      rw [e] at q
      obtain ⟨k', ρ', e1, hk, m'⟩ := q
      have hk : k' = k := hk
      subst hk
      rw [e1]
      cases k' with
      | false => exact ⟨.nx, ρ', rfl, rfl, m'⟩
      | true =>
        show Lk ((body ρ').bnd _) _ ((b s).bind _)
        have q2 := hb s ρ' m'
        cases e2 : b s with
        | ok x =>
          rw [e2] at q2
          obtain ⟨a, ρ2, e3, ha⟩ := q2
          rw [e3]
          cases x with
          | go s1 =>
            obtain ⟨ha, m2⟩ := ha
            rcases ha with rfl | rfl
            · exact wh_goX hc hb n s1 ρ2 m2
            · exact wh_goX hc hb n s1 ρ2 m2
          | stop s1 => obtain ⟨rfl, m2⟩ := ha; exact ⟨.nx, ρ2, rfl, rfl, m2⟩
          | ret p => obtain ⟨rfl, m2⟩ := ha; exact ⟨.rt (F p), ρ2, rfl, rfl, m2⟩
        | exc => trivial
        | bad => trivial
    | exc => trivial
    | bad => trivial
theorem z_wh {c : M Bool} {n : Nat} {cb : σ → Res Bool} {b : σ → Res σ} {k : σ → Res X} (w : Sub S (E s0)) (hc : ∀ s, Go (E s) c (cb s) (QE id fun _ => E s)) (hb : ∀ s, Go (E s) body (b s) (QN E)) (hk : ∀ s, Go (E s) rest (k s) Q) : Go S (sq (whS c body n) rest) ((whR cb b n s0).bind k) Q :=
  z_sub w (z_bnd (κ := sqF rest) (wh_go hc hb n s0) hk)
theorem z_whX {c : M Bool} {n : Nat} {cb : σ → Res Bool} {F : P → RV} {T : P → List SS} {b : σ → Res (Lp σ P)} {k : σ → Res X} {l : P → Res X} (w : Sub S (E s0)) (hc : ∀ s, Go (E s) c (cb s) (QE id fun _ => E s)) (hb : ∀ s, Go (E s) body (b s) (QL E F T)) (hk : ∀ s, Go (E s) rest (k s) Q) (hl : ∀ p, Go (T p) (ret (.rt (F p))) (l p) Q) : Go S (sq (whS c body n) rest) (after (whX cb b n s0) k l) Q :=
  z_sub w (z_aft (wh_goX hc hb n s0) hk hl)
end
/-! ### a def -/
section
variable {X : Type} {S : List SS} {A : X → RV × List SS} {n : Nat}
def QF (n : Nat) (A : X → RV × List SS) : X → Fl → Ev → Prop := fun x a ρ => (a = .rt (A x).1 ∨ (a = .nx ∧ (A x).1 = .val .non)) ∧ Mt (A x).2 ((ρ.take n).map mask) ∧ n ≤ ρ.length
theorem z_fret {q : RV} {x : X} (e : q = (A x).1) (w : Sub ((S.take n).map mkO) (A x).2) (l : (decide (n ≤ S.length)) = true) : Go S (ret (.rt q)) (.ok x) (QF n A) := .mk fun ρ m => ⟨.rt q, ρ, rfl, .inl (e ▸ rfl), w.mt (mkO_all n m), by rw [m.len]; exact of_decide_eq_true l⟩
theorem z_fnx {x : X} (e : (A x).1 = .val .non) (w : Sub ((S.take n).map mkO) (A x).2) (l : (decide (n ≤ S.length)) = true) : Go S nop (.ok x) (QF n A) := .mk fun ρ m => ⟨.nx, ρ, rfl, .inr ⟨rfl, e⟩, w.mt (mkO_all n m), by rw [m.len]; exact of_decide_eq_true l⟩
theorem mt_sl : ∀ l : List Slot, Mt (l.map SS.sl) l
  | [] => .nil
  | _ :: l => .cons rfl (mt_sl l)
theorem z_fn {k : Nat} {body : M Fl} {ss : List Slot} {r : Res X} (S0 : List SS) (e0 : (ss ++ List.replicate k Slot.no).map SS.sl = S0) (n0 : Nat) (en : ss.length = n0) (h : Go S0 body r (QF n0 A)) (hr : ∀ x, (A x).1.noB = true) : FnR (fDef k body) ss r A := by
  subst e0
  subst en
  have q := h _ (mt_sl _)
  cases r with
  | exc => trivial
  | bad => trivial
  | ok x =>
    obtain ⟨a, ρ', e, ha, hm, hl⟩ := q
    refine ⟨(ρ'.take ss.length).map mask, ?_, hm⟩
    unfold fDef
    rw [e]
    have o : ∀ r : RV, outP ss.length ρ' r = .ok r ((ρ'.take ss.length).map mask) := fun r => by unfold outP; rw [if_pos hl]
    have hx := hr x
    rcases ha with rfl | ⟨rfl, e2⟩
    · cases e3 : (A x).1 with
      | val d => exact o _
      | tmp d => exact o _
      | bor _ => rw [e3] at hx; cases hx
    · rw [e2]; exact o _
end
/-- what one run of the kernel tells -/
def okT : Out RV → Bool
  | .ok (.val (.bl b)) [] => b
  | _ => false
theorem okT_eq {o : Out RV} (h : okT o = true) : o = .ok (.val (.bl true)) [] := by
  unfold okT at h
  split at h
  · cases h; rfl
  · cases h
end Fd

namespace Fd
open PySem L2
/-! ### comprehensions -/
section
variable {α X σ : Type} {S S1 S2 W : List SS} {r : Res X} {Q : X → α → Ev → Prop} {κ : RV → M α} {fi : M ItS} {h : Tg} {ct : M Bool} {fe : M RV} {vs : List Nat} {ds : List D} {E : σ → List SS} {s0 : σ}
def lcK (vs : List Nat) (h : Tg) (ct : M Bool) (fe : M RV) (it : ItS) : M RV := fun ρ => if wipeOk ρ vs = true then (match it with
  | .dat ds => finLc ρ vs (lcL h ct fe vs ds [] (wipeE ρ vs))
  | .slot i => if vs.contains i = true then .bad else (match ρ[i]? with
    | some (.own (.lst ds)) => finLc ρ vs (unO i false (lcB h ct fe vs i ds.length 0 [] (wipeE (ρ.set i (.lock (.lst ds) false)) vs)))
    | some (.lent (.lst ds)) => finLc ρ vs (unO i true (lcB h ct fe vs i ds.length 0 [] (wipeE (ρ.set i (.lock (.lst ds) true)) vs)))
    | some (.lock (.lst ds) _) => finLc ρ vs (lcB h ct fe vs i ds.length 0 [] (wipeE ρ vs))
    | _ => .bad)) else .bad
theorem z_lc (hh : Go S (bnd fi fun it => bnd (lcK vs h ct fe it) κ) r Q) : Go S (bnd (lcE vs fi h ct fe) κ) r Q := hh.eq (by unfold lcE; rw [bnd_assoc]; rfl)
/-- one turn -/
def lcV (q : RV) : M (Option D) := match q with
  | .val e => ret (some e)
  | _ => fail
def turnC (h : Tg) (ct : M Bool) (fe : M RV) (d : D) : M (Option D) := bnd (tgM h d) fun _ => bnd ct fun k => if k = true then bnd fe lcV else ret none
theorem lcTurn_eq (g : List D → M (List D)) (acc : List D) (d : D) (hl : acc.length < 1000000) : lcTurn h ct fe vs g acc d = bnd (turnC h ct fe d) fun o ρ => g (acc ++ o.toList) (wipeE ρ vs) := by
  unfold turnC
  rw [bnd_assoc]
  funext ρ
  dsimp only [lcTurn]
  show _ = (tgM h d ρ).bnd _
  unfold tgM
  cases h d ρ with
  | none => rfl
  | some ρ1 =>
    show bnd ct _ ρ1 = bnd (bnd ct _) _ ρ1
    rw [bnd_assoc]
    congr 1
    congr 1
    funext k
    cases k with
    | false => funext ρ2; simp [bnd, Fd.ret, Out.bnd]
    | true =>
      show bnd fe _ = bnd (bnd fe lcV) _
      rw [bnd_assoc]
      congr 1
      funext q ρ2
      cases q with
      | val e => simp [bnd, lcV, Fd.ret, Out.bnd, hl]
      | tmp _ => rfl
      | bor _ => rfl
/-- the state's turn -/
def QC (E : σ → List SS) (vs : List Nat) : Option D × σ → Option D → Ev → Prop := fun x a ρ => a = x.1 ∧ Mt (E x.2) (wipeE ρ vs)
theorem lcL_go {b : σ → D → Res (Option D × σ)} (hb : ∀ s d, Go (E s) (turnC h ct fe d) (b s d) (QC E vs)) : ∀ (ds acc : List D) (s : σ) (ρ : Ev) (x : List D × σ), Mt (E s) ρ → mapS b ds s = .ok x → acc.length + x.1.length ≤ 1000000 → ∃ ρ', lcL h ct fe vs ds acc ρ = .ok (acc ++ x.1) ρ' ∧ Mt (E x.2) ρ'
  | [], acc, s, ρ, x, m, e, _ => by
    cases e
    exact ⟨ρ, by rw [List.append_nil]; rfl, m⟩
  | d :: ds, acc, s, ρ, x, m, e, hl => by
    have q := hb s d ρ m
    have e : (b s d).bind (fun o => (mapS b ds o.2).bind fun l => .ok (o.1.toList ++ l.1, l.2)) = .ok x := e
    cases e1 : b s d with
    | exc => rw [e1] at e; cases e
    | bad => rw [e1] at e; cases e
    | ok o =>
      rw [e1] at e q
      obtain ⟨a, ρ1, e2, rfl, m1⟩ := q
      have e : (mapS b ds o.2).bind (fun l => .ok (o.1.toList ++ l.1, l.2)) = .ok x := e
      cases e3 : mapS b ds o.2 with
      | exc => rw [e3] at e; cases e
      | bad => rw [e3] at e; cases e
      | ok l =>
        rw [e3] at e
        cases e
        rw [List.length_append] at hl
        show ∃ ρ', lcTurn h ct fe vs (lcL h ct fe vs ds) acc d ρ = _ ∧ _
        by_cases hz : acc.length < 1000000
        · rw [lcTurn_eq _ _ _ hz]
          show ∃ ρ', (turnC h ct fe d ρ).bnd _ = _ ∧ _
          rw [e2]
          obtain ⟨ρ', e4, m4⟩ := lcL_go hb ds (acc ++ o.1.toList) o.2 _ l m1 e3 (by rw [List.length_append]; omega)
          exact ⟨ρ', by rw [List.append_assoc] at e4; exact e4, m4⟩
        · -- nothing more can be kept
          have h0 : o.1.toList.length = 0 := by omega
          have h1 : l.1.length = 0 := by omega
          have oo : o.1 = none := by
            cases ho : o.1 with
            | none => rfl
            | some v => rw [ho] at h0; cases h0
          have key : lcTurn h ct fe vs (lcL h ct fe vs ds) acc d ρ = lcL h ct fe vs ds acc (wipeE ρ1 vs) := by
            rw [oo] at e2
            unfold turnC at e2
            unfold lcTurn
            unfold bnd tgM at e2
            cases eh : h d ρ with
            | none => rw [eh] at e2; cases e2
            | some ρ0 =>
              rw [eh] at e2
              have e2 : (ct ρ0).bnd (fun k => if k = true then bnd fe lcV else ret none) = .ok none ρ1 := e2
              show (ct ρ0).bnd _ = _
              cases ec : ct ρ0 with
              | exc => rw [ec] at e2; cases e2
              | bad => rw [ec] at e2; cases e2
              | ok k ρc =>
                rw [ec] at e2
                cases k with
                | false => cases e2; rfl
                | true =>
                  have e2 : (fe ρc).bnd lcV = .ok none ρ1 := e2
                  cases ef : fe ρc with
                  | exc => rw [ef] at e2; cases e2
                  | bad => rw [ef] at e2; cases e2
                  | ok v ρv =>
                    rw [ef] at e2
                    cases v <;> cases e2
          rw [key]
          obtain ⟨ρ', e4, m4⟩ := lcL_go hb ds acc o.2 _ l m1 e3 (by omega)
          refine ⟨ρ', ?_, m4⟩
          rw [oo]
          exact e4
theorem lcB_lcL {i : Nat} {lb : Bool} (hl : ∀ s, slS (E s) i = some (.lock (.lst ds) lb)) {b : σ → D → Res (Option D × σ)} (hb : ∀ s d, Go (E s) (turnC h ct fe d) (b s d) (QC E vs)) : ∀ (n k : Nat) (acc : List D) (s : σ) (ρ : Ev) (x : List D × σ), ds.length = n + k → Mt (E s) ρ → mapS b (ds.drop k) s = .ok x → acc.length + x.1.length ≤ 1000000 → ∃ ρ', lcB h ct fe vs i n k acc ρ = .ok (acc ++ x.1) ρ' ∧ Mt (E x.2) ρ'
  | 0, k, acc, s, ρ, x, hn, m, e, _ => by
    rw [List.drop_of_length_le (by omega)] at e
    cases e
    refine ⟨ρ, ?_, m⟩
    unfold lcB; rw [m.sl (hl s)]; dsimp only; rw [if_pos (by omega), List.append_nil]
  | n + 1, k, acc, s, ρ, x, hn, m, e, hle => by
    have hk : k < ds.length := by omega
    rw [List.drop_eq_getElem_cons hk] at e
    have q := hb s ds[k] ρ m
    have e : (b s ds[k]).bind (fun o => (mapS b (ds.drop (k + 1)) o.2).bind fun l => .ok (o.1.toList ++ l.1, l.2)) = .ok x := e
    unfold lcB
    rw [m.sl (hl s)]; dsimp only
    rw [List.getElem?_eq_getElem hk]; dsimp only
    cases e1 : b s ds[k] with
    | exc => rw [e1] at e; cases e
    | bad => rw [e1] at e; cases e
    | ok o =>
      rw [e1] at e q
      obtain ⟨a, ρ1, e2, rfl, m1⟩ := q
      have e : (mapS b (ds.drop (k + 1)) o.2).bind (fun l => .ok (o.1.toList ++ l.1, l.2)) = .ok x := e
      cases e3 : mapS b (ds.drop (k + 1)) o.2 with
      | exc => rw [e3] at e; cases e
      | bad => rw [e3] at e; cases e
      | ok l =>
        rw [e3] at e
        cases e
        rw [List.length_append] at hle
        by_cases hz : acc.length < 1000000
        · rw [lcTurn_eq _ _ _ hz]
          show ∃ ρ', (turnC h ct fe ds[k] ρ).bnd _ = _ ∧ _
          rw [e2]
          obtain ⟨ρ', e4, m4⟩ := lcB_lcL hl hb n (k + 1) (acc ++ o.1.toList) o.2 _ l (by omega) m1 e3 (by rw [List.length_append]; omega)
          exact ⟨ρ', by rw [List.append_assoc] at e4; exact e4, m4⟩
        · have h0 : o.1.toList.length = 0 := by omega
          have oo : o.1 = none := by
            cases ho : o.1 with
            | none => rfl
            | some v => rw [ho] at h0; cases h0
          have key : lcTurn h ct fe vs (lcB h ct fe vs i n (k + 1)) acc ds[k] ρ = lcB h ct fe vs i n (k + 1) acc (wipeE ρ1 vs) := by
            rw [oo] at e2
            unfold turnC at e2
            unfold lcTurn
            unfold bnd tgM at e2
            cases eh : h ds[k] ρ with
            | none => rw [eh] at e2; cases e2
            | some ρ0 =>
              rw [eh] at e2
              have e2 : (ct ρ0).bnd (fun k => if k = true then bnd fe lcV else ret none) = .ok none ρ1 := e2
              show (ct ρ0).bnd _ = _
              cases ec : ct ρ0 with
              | exc => rw [ec] at e2; cases e2
              | bad => rw [ec] at e2; cases e2
              | ok k ρc =>
                rw [ec] at e2
                cases k with
                | false => cases e2; rfl
                | true =>
                  have e2 : (fe ρc).bnd lcV = .ok none ρ1 := e2
                  cases ef : fe ρc with
                  | exc => rw [ef] at e2; cases e2
                  | bad => rw [ef] at e2; cases e2
                  | ok v ρv =>
                    rw [ef] at e2
                    cases v <;> cases e2
          rw [key]
          obtain ⟨ρ', e4, m4⟩ := lcB_lcL hl hb n (k + 1) acc o.2 _ l (by omega) m1 e3 (by omega)
          refine ⟨ρ', ?_, m4⟩
          rw [oo]
          exact e4
def limS {σ : Type} (x : List D × σ) : Res (List D × σ) := if x.1.length ≤ 1000000 then .ok x else .bad
def lcSR (b : σ → D → Res (Option D × σ)) (ds : List D) (s : σ) : Res (List D × σ) := (noX (mapS b ds s)).bind limS
/-- data, with a state -/
theorem z_lcDS {b : σ → D → Res (Option D × σ)} {k : List D × σ → Res X} (wo : wipeOkS S vs = true) (w : Sub (wipeS S vs) (E s0)) (hb : ∀ s d, Go (E s) (turnC h ct fe d) (b s d) (QC E vs)) (T : σ → List SS) (hT : ∀ s, backS S (E s) vs = T s) (hk : ∀ x, Go (T x.2) (κ (.tmp (.lst x.1))) (k x) Q) : Go S (bnd (lcK vs h ct fe (.dat ds)) κ) ((lcSR b ds s0).bind k) Q := .mk fun ρ m => by
  show Lk ((lcK vs h ct fe (.dat ds) ρ).bnd κ) Q _
  unfold lcK lcSR
  rw [if_pos (m.wipeOk wo)]
  cases e : mapS b ds s0 with
  | exc => trivial
  | bad => trivial
  | ok x =>
    show Lk _ Q ((limS x).bind k)
    unfold limS
    by_cases z : x.1.length ≤ 1000000
    · rw [if_pos z]
      obtain ⟨ρ', e1, m1⟩ := lcL_go hb ds [] s0 _ x (w.mt (m.wipe vs)) e (by simpa using z)
      dsimp only
      rw [e1]
      exact (hT x.2 ▸ hk x) _ (m.back m1 vs)
    · rw [if_neg z]; trivial
/-- data, nothing changed -/
theorem mapR_S {b : D → Res (Option D)} : ∀ ds : List D, mapS (σ := Unit) (fun _ d => (b d).bind fun o => .ok (o, ())) ds () = (mapR b ds).bind fun l => .ok (l, ())
  | [] => rfl
  | d :: ds => by
    show ((b d).bind _).bind _ = ((b d).bind _).bind _
    cases b d with
    | ok o =>
      show (mapS _ ds ()).bind _ = ((mapR b ds).bind _).bind _
      rw [mapR_S ds]
      cases mapR b ds <;> rfl
    | exc => rfl
    | bad => rfl
def lcP (b : D → Res (Option D)) (ds : List D) : Res (List D) := (noX (mapR b ds)).bind lim
theorem lcSR_P {b : D → Res (Option D)} (ds : List D) : lcSR (σ := Unit) (fun _ d => (b d).bind fun o => .ok (o, ())) ds () = (lcP b ds).bind fun l => .ok (l, ()) := by
  unfold lcSR lcP
  rw [mapR_S]
  cases mapR b ds with
  | ok l =>
    show limS (l, ()) = (lim l).bind _
    unfold limS lim
    by_cases z : l.length ≤ 1000000
    · rw [if_pos z, if_pos z]; rfl
    · rw [if_neg z, if_neg z]; rfl
  | exc => rfl
  | bad => rfl
def QCP (W : List SS) (vs : List Nat) : Option D → Option D → Ev → Prop := fun x a ρ => a = x ∧ Mt W (wipeE ρ vs)
theorem turnP {b : D → Res (Option D)} (hb : ∀ d, Go W (turnC h ct fe d) (b d) (QCP W vs)) : ∀ (s : Unit) d, Go ((fun _ : Unit => W) s) (turnC h ct fe d) ((b d).bind fun o => .ok (o, ())) (QC (fun _ => W) vs) := fun s d => .mk fun ρ m => by
  have q := hb d ρ m
  cases e : b d with
  | ok o => rw [e] at q; exact q
  | exc => trivial
  | bad => trivial
theorem z_lcD {b : D → Res (Option D)} {k : List D → Res X} (wo : wipeOkS S vs = true) (w : Sub (wipeS S vs) W) (hb : ∀ d, Go W (turnC h ct fe d) (b d) (QCP W vs)) (T : List SS) (hT : backS S W vs = T) (hk : ∀ l, Go T (κ (.tmp (.lst l))) (k l) Q) : Go S (bnd (lcK vs h ct fe (.dat ds)) κ) ((lcP b ds).bind k) Q := by
  have z := z_lcDS (E := fun _ : Unit => W) (s0 := ()) (ds := ds) (κ := κ) (Q := Q) (k := fun x => k x.1) wo w (turnP hb) (fun _ => T) (fun _ => hT) fun x => hk x.1
  rw [lcSR_P, Res.bind_assoc] at z
  exact z
theorem z_lcV {e : D} (w : Sub (wipeS S vs) W) : Go S (lcV (.val e)) (.ok (some e)) (QCP W vs) := .mk fun ρ m => ⟨some e, ρ, rfl, rfl, w.mt (m.wipe vs)⟩
theorem z_lcN (w : Sub (wipeS S vs) W) : Go S (ret none) (.ok none) (QCP W vs) := .mk fun ρ m => ⟨none, ρ, rfl, rfl, w.mt (m.wipe vs)⟩
theorem z_lcVS {e : D} {s : σ} (w : Sub (wipeS S vs) (E s)) : Go S (lcV (.val e)) (.ok (some e, s)) (QC E vs) := .mk fun ρ m => ⟨some e, ρ, rfl, rfl, w.mt (m.wipe vs)⟩
theorem z_lcNS {s : σ} (w : Sub (wipeS S vs) (E s)) : Go S (ret none) (.ok (none, s)) (QC E vs) := .mk fun ρ m => ⟨none, ρ, rfl, rfl, w.mt (m.wipe vs)⟩
/-! over a slot -/
def lockC (S : List SS) (i : Nat) : Option (List SS × List D × Bool × Option Bool) := match slS S i with
  | some (.own (.lst ds)) => some (S.set i (.sl (.lock (.lst ds) false)), ds, false, some false)
  | some (.lent (.lst ds)) => some (S.set i (.sl (.lock (.lst ds) true)), ds, true, some true)
  | some (.lock (.lst ds) b) => some (S, ds, b, none)
  | _ => none
def unlkS (S : List SS) (i : Nat) (ds : List D) : Option Bool → List SS
  | some b => S.set i (.sl (unlk (.lst ds) b))
  | none => S
theorem z_lcSS {i : Nat} {lb : Bool} {ul : Option Bool} {b : σ → D → Res (Option D × σ)} {k : List D × σ → Res X} (h0 : lockC S i = some (S2, ds, lb, ul)) (hc : vs.contains i = false) (wo : wipeOkS S vs = true) (w : Sub (wipeS S2 vs) (E s0)) (hl : ∀ s, slS (E s) i = some (.lock (.lst ds) lb)) (hb : ∀ s d, Go (E s) (turnC h ct fe d) (b s d) (QC E vs)) (T : σ → List SS) (hT : ∀ s, backS S (unlkS (E s) i ds ul) vs = T s) (hk : ∀ x, Go (T x.2) (κ (.tmp (.lst x.1))) (k x) Q) : Go S (bnd (lcK vs h ct fe (.slot i)) κ) ((lcSR b ds s0).bind k) Q := .mk fun ρ m => by
  show Lk ((lcK vs h ct fe (.slot i) ρ).bnd κ) Q _
  unfold lcK lcSR
  rw [if_pos (m.wipeOk wo)]
  cases e : mapS b ds s0 with
  | exc => trivial
  | bad => trivial
  | ok x =>
    show Lk _ Q ((limS x).bind k)
    unfold limS
    by_cases z : x.1.length ≤ 1000000
    · rw [if_pos z]
      dsimp only
      rw [hc]
      simp only [Bool.false_eq_true, if_false]
      unfold lockC at h0
      split at h0
      · rename_i ds' hs
        cases h0
        rw [m.sl hs]; dsimp only
        obtain ⟨ρ', e1, m1⟩ := lcB_lcL hl hb ds.length 0 [] s0 _ x rfl (w.mt ((m.put).wipe vs)) (by simpa using e) (by simpa using z)
        rw [e1]
        unfold unO; dsimp only
        rw [m1.sl (hl _)]
        exact (hT x.2 ▸ hk x) _ (m.back m1.put vs)
      · rename_i ds' hs
        cases h0
        rw [m.sl hs]; dsimp only
        obtain ⟨ρ', e1, m1⟩ := lcB_lcL hl hb ds.length 0 [] s0 _ x rfl (w.mt ((m.put).wipe vs)) (by simpa using e) (by simpa using z)
        rw [e1]
        unfold unO; dsimp only
        rw [m1.sl (hl _)]
        exact (hT x.2 ▸ hk x) _ (m.back m1.put vs)
      · rename_i ds' b' hs
        cases h0
        rw [m.sl hs]; dsimp only
        obtain ⟨ρ', e1, m1⟩ := lcB_lcL hl hb ds.length 0 [] s0 _ x rfl (w.mt (m.wipe vs)) (by simpa using e) (by simpa using z)
        rw [e1]
        exact (hT x.2 ▸ hk x) _ (m.back m1 vs)
      · cases h0
    · rw [if_neg z]; trivial
theorem z_lcS {i : Nat} {lb : Bool} {ul : Option Bool} {b : D → Res (Option D)} {k : List D → Res X} (h0 : lockC S i = some (S2, ds, lb, ul)) (hc : vs.contains i = false) (wo : wipeOkS S vs = true) (w : Sub (wipeS S2 vs) W) (hl : slS W i = some (.lock (.lst ds) lb)) (hb : ∀ d, Go W (turnC h ct fe d) (b d) (QCP W vs)) (T : List SS) (hT : backS S (unlkS W i ds ul) vs = T) (hk : ∀ l, Go T (κ (.tmp (.lst l))) (k l) Q) : Go S (bnd (lcK vs h ct fe (.slot i)) κ) ((lcP b ds).bind k) Q := by
  have z := z_lcSS (E := fun _ : Unit => W) (s0 := ()) (ds := ds) (κ := κ) (Q := Q) (k := fun x => k x.1) h0 hc wo w (fun _ => hl) (turnP hb) (fun _ => T) (fun _ => hT) fun x => hk x.1
  rw [lcSR_P, Res.bind_assoc] at z
  exact z
end
end Fd

/-! Fp5: comprehensions with two for. -/
namespace Fd
open PySem L2
section
variable {α X : Type} {S W W1 : List SS} {r : Res X} {Q : X → α → Ev → Prop} {κ : RV → M α} {fi fi1 : M ItS} {h h1 : Tg} {ct ct1 : M Bool} {fe : M RV} {vs vs1 : List Nat} {ds : List D}
theorem lcL_acc : ∀ (ds a : List D) (ρ : Ev) (r : List D) (ρ' : Ev), lcL h ct fe vs ds a ρ = .ok r ρ' → ∃ l, r = a ++ l ∧ ∀ b : List D, b.length + l.length ≤ 1000000 → lcL h ct fe vs ds b ρ = .ok (b ++ l) ρ'
  | [], a, ρ, r, ρ', e => by
    cases e
    exact ⟨[], (List.append_nil _).symm, fun b _ => by rw [List.append_nil]; rfl⟩
  | d :: ds, a, ρ, r, ρ', e => by
    have e : lcTurn h ct fe vs (lcL h ct fe vs ds) a d ρ = .ok r ρ' := e
    have g : ∀ b, lcL h ct fe vs (d :: ds) b ρ = lcTurn h ct fe vs (lcL h ct fe vs ds) b d ρ := fun _ => rfl
    unfold lcTurn at e g
    cases eh : h d ρ with
    | none => rw [eh] at e; cases e
    | some ρ1 =>
      rw [eh] at e g
      have e : (ct ρ1).bnd _ = _ := e
      have g : ∀ b, lcL h ct fe vs (d :: ds) b ρ = (ct ρ1).bnd _ := g
      cases ec : ct ρ1 with
      | exc => rw [ec] at e; cases e
      | bad => rw [ec] at e; cases e
      | ok k ρ2 =>
        rw [ec] at e g
        cases k with
        | false =>
          obtain ⟨l, h1, h2⟩ := lcL_acc ds a _ r ρ' e
          exact ⟨l, h1, fun b hb => (g b).trans (h2 b hb)⟩
        | true =>
          have e : (fe ρ2).bnd _ = _ := e
          have g : ∀ b, lcL h ct fe vs (d :: ds) b ρ = (fe ρ2).bnd _ := g
          cases ef : fe ρ2 with
          | exc => rw [ef] at e; cases e
          | bad => rw [ef] at e; cases e
          | ok v ρ3 =>
            rw [ef] at e g
            cases v with
            | tmp _ => cases e
            | bor _ => cases e
            | val w =>
              have e : (if a.length < 1000000 then lcL h ct fe vs ds (a ++ [w]) (wipeE ρ3 vs) else .bad) = .ok r ρ' := e
              have g : ∀ b, lcL h ct fe vs (d :: ds) b ρ = (if b.length < 1000000 then lcL h ct fe vs ds (b ++ [w]) (wipeE ρ3 vs) else .bad) := g
              by_cases z : a.length < 1000000
              · rw [if_pos z] at e
                obtain ⟨l, h1, h2⟩ := lcL_acc ds _ _ r ρ' e
                refine ⟨w :: l, by rw [h1, List.append_assoc]; rfl, fun b hb => ?_⟩
                rw [List.length_cons] at hb
                rw [g b, if_pos (by omega), h2 (b ++ [w]) (by rw [List.length_append, List.length_singleton]; omega), List.append_assoc]
                rfl
              · rw [if_neg z] at e; cases e
def lc2K (vs vs1 : List Nat) (h : Tg) (ct : M Bool) (fi1 : M ItS) (h1 : Tg) (ct1 : M Bool) (fe : M RV) (it : ItS) : M RV := fun ρ => if wipeOk ρ vs = true then (match it with
  | .dat ds => finLc ρ vs (lc2L h ct fi1 h1 ct1 fe vs vs1 ds [] (wipeE ρ vs))
  | .slot _ => .bad) else .bad
theorem z_lc2 (hh : Go S (bnd fi fun it => bnd (lc2K vs vs1 h ct fi1 h1 ct1 fe it) κ) r Q) : Go S (bnd (lc2E vs vs1 fi h ct fi1 h1 ct1 fe) κ) r Q := hh.eq (by unfold lc2E; rw [bnd_assoc]; rfl)
def in2 (vs1 : List Nat) (h1 : Tg) (ct1 : M Bool) (fe : M RV) (it : ItS) : M (List D) := match it with
  | .dat ds1 => fun ρ => lcL h1 ct1 fe vs1 ds1 [] (wipeE ρ vs1)
  | .slot _ => fail
def turn2 (vs1 : List Nat) (h : Tg) (ct : M Bool) (fi1 : M ItS) (h1 : Tg) (ct1 : M Bool) (fe : M RV) (d : D) : M (List D) := bnd (tgM h d) fun _ => bnd ct fun k => if k = true then bnd fi1 fun it => in2 vs1 h1 ct1 fe it else ret []
def QC2 (W : List SS) (vs : List Nat) : List D → List D → Ev → Prop := fun x a ρ => a = x ∧ Mt W (wipeE ρ vs)
theorem lc2L_go {b : D → Res (List D)} (hb : ∀ d, Go W (turn2 vs1 h ct fi1 h1 ct1 fe d) (b d) (QC2 W vs)) : ∀ (ds acc : List D) (ρ : Ev) (x : List D), Mt W ρ → mapC b ds = .ok x → acc.length + x.length ≤ 1000000 → ∃ ρ', lc2L h ct fi1 h1 ct1 fe vs vs1 ds acc ρ = .ok (acc ++ x) ρ' ∧ Mt W ρ'
  | [], acc, ρ, x, m, e, _ => by
    cases e
    exact ⟨ρ, by rw [List.append_nil]; rfl, m⟩
  | d :: ds, acc, ρ, x, m, e, hl => by
    have q := hb d ρ m
    have e : (b d).bind (fun o => (mapC b ds).bind fun l => .ok (o ++ l)) = .ok x := e
    cases e1 : b d with
    | exc => rw [e1] at e; cases e
    | bad => rw [e1] at e; cases e
    | ok o =>
      rw [e1] at e q
      obtain ⟨a, ρ1, e2, rfl, m1⟩ := q
      have e : (mapC b ds).bind (fun l => .ok (a ++ l)) = .ok x := e
      cases e3 : mapC b ds with
      | exc => rw [e3] at e; cases e
      | bad => rw [e3] at e; cases e
      | ok l =>
        rw [e3] at e
        cases e
        rw [List.length_append] at hl
        have ih := fun acc' (hz : acc'.length + l.length ≤ 1000000) => lc2L_go hb ds acc' _ l m1 e3 hz
        have e2 : bnd (tgM h d) (fun _ => bnd ct fun k => if k = true then bnd fi1 fun it => in2 vs1 h1 ct1 fe it else ret []) ρ = .ok a ρ1 := e2
        have g : ∀ acc, lc2L h ct fi1 h1 ct1 fe vs vs1 (d :: ds) acc ρ = (match h d ρ with
          | none => .bad
          | some ρ1 => bnd ct (fun k => if k = true then bnd fi1 (fun it ρ2 => match it with
              | .dat ds1 => bnd (lcL h1 ct1 fe vs1 ds1 acc) (fun acc' ρ3 => lc2L h ct fi1 h1 ct1 fe vs vs1 ds acc' (wipeE ρ3 vs)) (wipeE ρ2 vs1)
              | .slot _ => .bad) else fun ρ2 => lc2L h ct fi1 h1 ct1 fe vs vs1 ds acc (wipeE ρ2 vs)) ρ1) := fun _ => rfl
        unfold bnd tgM at e2
        unfold bnd at g
        cases eh : h d ρ with
        | none => rw [eh] at e2; cases e2
        | some ρ0 =>
          rw [eh] at e2
          have g := g acc
          rw [eh] at g
          have e2 : (ct ρ0).bnd _ = .ok a ρ1 := e2
          have g : _ = (ct ρ0).bnd _ := g
          cases ec : ct ρ0 with
          | exc => rw [ec] at e2; cases e2
          | bad => rw [ec] at e2; cases e2
          | ok k ρc =>
            rw [ec] at e2 g
            cases k with
            | false =>
              cases e2
              obtain ⟨ρ', e4, m4⟩ := ih acc (by simp at hl; omega)
              exact ⟨ρ', g.trans e4, m4⟩
            | true =>
              have e2 : (fi1 ρc).bnd _ = .ok a ρ1 := e2
              have g : _ = (fi1 ρc).bnd _ := g
              cases ei : fi1 ρc with
              | exc => rw [ei] at e2; cases e2
              | bad => rw [ei] at e2; cases e2
              | ok it ρi =>
                rw [ei] at e2 g
                cases it with
                | slot _ => cases e2
                | dat ds1 =>
                  have e2 : lcL h1 ct1 fe vs1 ds1 [] (wipeE ρi vs1) = .ok a ρ1 := e2
                  obtain ⟨l1, q1, q2⟩ := lcL_acc ds1 [] _ _ _ e2
                  rw [List.nil_append] at q1
                  subst q1
                  have g : _ = (lcL h1 ct1 fe vs1 ds1 acc (wipeE ρi vs1)).bnd _ := g
                  rw [q2 acc (by omega)] at g
                  obtain ⟨ρ', e4, m4⟩ := ih (acc ++ a) (by rw [List.length_append]; omega)
                  rw [List.append_assoc] at e4
                  exact ⟨ρ', g.trans e4, m4⟩
theorem z_lc2D {b : D → Res (List D)} {k : List D → Res X} (wo : wipeOkS S vs = true) (w : Sub (wipeS S vs) W) (hb : ∀ d, Go W (turn2 vs1 h ct fi1 h1 ct1 fe d) (b d) (QC2 W vs)) (T : List SS) (hT : backS S W vs = T) (hk : ∀ l, Go T (κ (.tmp (.lst l))) (k l) Q) : Go S (bnd (lc2K vs vs1 h ct fi1 h1 ct1 fe (.dat ds)) κ) ((lc2R b ds).bind k) Q := .mk fun ρ m => by
  show Lk ((lc2K vs vs1 h ct fi1 h1 ct1 fe (.dat ds) ρ).bnd κ) Q _
  unfold lc2K lc2R
  rw [if_pos (m.wipeOk wo)]
  cases e : mapC b ds with
  | exc => trivial
  | bad => trivial
  | ok x =>
    show Lk _ Q ((lim x).bind k)
    unfold lim
    by_cases z : x.length ≤ 1000000
    · rw [if_pos z]
      obtain ⟨ρ', e1, m1⟩ := lc2L_go hb ds [] _ x (w.mt (m.wipe vs)) e (by simpa using z)
      dsimp only
      rw [e1]
      exact (hT ▸ hk x) _ (m.back m1 vs)
    · rw [if_neg z]; trivial
theorem z_in2 {ds1 : List D} {b1 : D → Res (Option D)} (w1 : Sub (wipeS S vs1) W1) (hb : ∀ d, Go W1 (turnC h1 ct1 fe d) (b1 d) (QCP W1 vs1)) (w : Sub (wipeS W1 vs) W) : Go S (in2 vs1 h1 ct1 fe (.dat ds1)) (lcP b1 ds1) (QC2 W vs) := .mk fun ρ m => by
  unfold lcP
  cases e : mapR b1 ds1 with
  | exc => trivial
  | bad => trivial
  | ok x =>
    show Lk _ _ (lim x)
    unfold lim
    by_cases z : x.length ≤ 1000000
    · rw [if_pos z]
      have e' : mapS (σ := Unit) (fun _ d => (b1 d).bind fun o => .ok (o, ())) ds1 () = .ok (x, ()) := by rw [mapR_S, e]; rfl
      obtain ⟨ρ', e1, m1⟩ := lcL_go (turnP hb) ds1 [] () _ (x, ()) (w1.mt (m.wipe vs1)) e' (by simpa using z)
      exact ⟨x, ρ', e1, rfl, w.mt (m1.wipe vs)⟩
    · rw [if_neg z]; trivial
theorem z_in2N (w : Sub (wipeS S vs) W) : Go S (ret []) (.ok []) (QC2 W vs) := .mk fun ρ m => ⟨[], ρ, rfl, rfl, w.mt (m.wipe vs)⟩
end
end Fd

/-! Fd16: starred items of a display. -/
namespace Fd
open PySem L2
def starK (fr : M (List RV)) : RV → M (List RV)
  | .val (.lst ds) => bnd fr fun rs => ret (ds.map RV.val ++ rs)
  | .val (.tup ds) => bnd fr fun rs => ret (ds.map RV.val ++ rs)
  | _ => fail
def aStar (fa : M RV) (fr : M (List RV)) : M (List RV) := bnd fa (starK fr)
section
variable {X : Cx} {W : WO} {a : Expr} {fa : M RV} {pos p : Pos} {es : List Expr} {fs : M (List RV)}
theorem rvrs_app {K : PySem.W.Frag} {σ : St} {M : AP} {H : Hp} : ∀ {xs : List V} {ds : List D} {vs : List V} {rs : List RV}, IsAll M K H xs ds → RVRs K M H σ vs rs → RVRs K M H σ (xs ++ vs) (ds.map RV.val ++ rs)
  | [], [], _, _, _, h => h
  | _ :: _, _ :: _, _, _, h, k => by cases h with | cons a b => exact ⟨a, rvrs_app b k⟩
  | [], _ :: _, _, _, h, _ => nomatch h
  | _ :: _, [], _, _, h, _ => nomatch h
theorem adjs_app {F : AP} : ∀ {xs : List V} {ds : List D} {vs : List V} {rs : List RV}, xs.length = ds.length → adjs F (xs ++ vs) (ds.map RV.val ++ rs) = adjs F vs rs
  | [], [], _, _, _ => rfl
  | _ :: xs, _ :: ds, _, _, h => adjs_app (xs := xs) (ds := ds) (by simpa using h)
  | [], _ :: _, _, _, h => nomatch h
  | _ :: _, [], _, _, h => nomatch h
theorem notFs_app {F : AP} : ∀ {xs : List V} {ds : List D} {vs : List V} {rs : List RV}, xs.length = ds.length → NotFs F vs rs → NotFs F (xs ++ vs) (ds.map RV.val ++ rs)
  | [], [], _, _, _, h => h
  | _ :: xs, _ :: ds, _, _, h, k => ⟨trivial, notFs_app (xs := xs) (ds := ds) (by simpa using h) k⟩
  | [], _ :: _, _, _, h, _ => nomatch h
  | _ :: _, [], _, _, h, _ => nomatch h
theorem isAll_len {M : AP} {K : PySem.W.Frag} {H : Hp} : ∀ {xs : List V} {ds : List D}, IsAll M K H xs ds → xs.length = ds.length
  | [], [], _ => rfl
  | _ :: _, _ :: _, h => by cases h with | cons _ b => simp [isAll_len b]
  | [], _ :: _, h => nomatch h
  | _ :: _, [], h => nomatch h
theorem a_star (ha : PE X a (TEof X.K W fa)) (hr : PA X es (TAof X.K W fs)) (hs : starEach (.Starred a p :: es) X.env = (true, eval a X.env) :: starEach es X.env := by rfl) : PA X (.Starred a p :: es) (TAof X.K W (aStar fa fs)) := by
  refine PA_weak (StX.pa_star ha hr hs) fun σ H Q h => ?_
  obtain ⟨L, F, M, ρ, rel, post⟩ := h
  refine seqV (PL X.K L W σ Q F M H) (fun _ _ z => z) id rel post fun r1 ρ1 p1 v1 M1 H1 e1 l1 q1 n1 => ?_
  have go : ∀ (ds : List D) (xs : List V), IsAll M1 X.K H1 xs ds → adj F v1 r1 = F → PL X.K L W σ Q F M H (bnd fs (fun rs => ret (ds.map RV.val ++ rs)) ρ1) → TAof X.K W fs σ H1 fun ys H2 => Q (xs ++ ys) H2 := by
    intro ds xs hx ea p1
    rw [ea] at l1
    refine seqL (PL X.K L W σ Q F M H) (fun x ρ' z => PX.reb z e1 (fun _ z => z)) id l1 p1 fun rs ρ2 p2 vs M2 H2 e2 l2 q2 n2 => ?_
    have hl := isAll_len hx
    exact p2 (xs ++ vs) M2 H2 (e1.trans e2 (fun _ z => z)) (by rw [adjs_app hl]; exact l2) (rvrs_app (IsAll.evo e2 _ hx) q2) (notFs_app hl n2)
  cases r1 with
  | tmp d => exact p1.elim
  | bor i => exact p1.elim
  | val d =>
    cases d with
    | lst ds =>
      have q1 : Is M1 X.K H1 v1 (.lst ds) := q1
      cases q1 with
      | lst ha hn hx => exact ⟨_, _, rfl, .inr (SqL.of ha), go ds _ hx rfl p1⟩
    | tup ds =>
      have q1 : Is M1 X.K H1 v1 (.tup ds) := q1
      cases q1 with
      | tup ha hn hx => exact ⟨_, _, rfl, .inl (SqT.of ha), go ds _ hx rfl p1⟩
    | _ => exact p1.elim
end
end Fd

/-! Fp6: starred items. -/
namespace Fd
open PySem L2
section
variable {α X : Type} {S : List SS} {r : Res X} {Q : X → α → Ev → Prop} {fa : M RV} {fs : M (List RV)} {d : D} {rs : List RV} {ds es : List D}
def seqR : D → Res (List D)
  | .lst ds => .ok ds
  | .tup ds => .ok ds
  | _ => .bad
@[simp] theorem seqR_lst (ds : List D) : seqR (.lst ds) = .ok ds := .trans rfl rfl
@[simp] theorem seqR_tup (ds : List D) : seqR (.tup ds) = .ok ds := .trans rfl rfl
def cap (l : List D) : Res (List D) := if l.length ≤ 1000 then .ok l else .bad
theorem cap_ok {l : List D} (h : l.length ≤ 1000) : cap l = .ok l := if_pos h
theorem z_aStar {κ : List RV → M α} (h : Go S (bnd fa fun r => bnd (starK fs r) κ) r Q) : Go S (bnd (aStar fa fs) κ) r Q := h.eq (by unfold aStar; rw [bnd_assoc])
theorem z_starV {κ : List RV → M α} {k : List D → Res X} (h : ∀ ds, Go S (bnd fs fun rs => κ (ds.map RV.val ++ rs)) (k ds) Q) : Go S (bnd (starK fs (.val d)) κ) ((seqR d).bind k) Q := by
  cases d with
  | lst ds => exact (h ds).eq (by unfold starK; dsimp only; rw [bnd_assoc]; rfl)
  | tup ds => exact (h ds).eq (by unfold starK; dsimp only; rw [bnd_assoc]; rfl)
  | _ => exact z_bad
theorem va_nil : valsOf [] = some [] := rfl
theorem va_cons (h : valsOf rs = some ds) : valsOf (.val d :: rs) = some (d :: ds) := by
  show (valsOf rs).map _ = _
  rw [h]; rfl
theorem va_star (h : valsOf rs = some ds) : ∀ es : List D, valsOf (es.map RV.val ++ rs) = some (es ++ ds)
  | [] => h
  | _ :: es => va_cons (va_star h es)
theorem z_lstC {κ : RV → M α} {k : List D → Res X} (e : valsOf rs = some ds) (h : Go S (κ (.tmp (.lst ds))) (k ds) Q) : Go S (bnd (lstK rs) κ) ((cap ds).bind k) Q := by
  unfold cap
  by_cases l : ds.length ≤ 1000
  · rw [if_pos l]
    exact z_lstK e (decide_eq_true l) h
  · rw [if_neg l]; exact z_bad
theorem z_tupC {κ : RV → M α} {k : List D → Res X} (e : valsOf rs = some ds) (h : Go S (κ (.val (.tup ds))) (k ds) Q) : Go S (bnd (tupK rs) κ) ((cap ds).bind k) Q := by
  unfold cap
  by_cases l : ds.length ≤ 1000
  · rw [if_pos l]
    exact z_tupK e (decide_eq_true l) h
  · rw [if_neg l]; exact z_bad
end
end Fd

/-! Sp1: data of sheets, their order; no program in sight. -/
namespace Sp
open PySem L2 Fd
def once (b c : Int) : Int := ((b + 48271 * (c + 1)) * (39373 + (c + 1))).fmod 2147483647
def far (b c : Int) : Int := (once b c).fmod 40009 + 7
def twice (b c : Int) : Int := ((once b c + (c + 1) + b.fdiv 1000003) * far b c).fmod 2147483629
def drawn (b c t : Int) : Int := (((twice b c * 48271 + once b c).fmod 2147483587).fdiv 64).fmod t
theorem once_bd {b c : Int} : 0 ≤ once b c ∧ once b c < 2147483647 := ⟨Int.fmod_nonneg_of_pos _ (by decide), Int.fmod_lt_of_pos _ (by decide)⟩
theorem far_bd {b c : Int} : 7 ≤ far b c ∧ far b c < 40016 := by
  have h1 := Int.fmod_nonneg_of_pos (once b c) (b := 40009) (by decide)
  have h2 := Int.fmod_lt_of_pos (once b c) (b := 40009) (by decide)
  unfold far
  omega
theorem ixD_lst {xs : List D} {r : Int} (h0 : 0 ≤ r) (h1 : r < xs.length) : ∃ x, x ∈ xs ∧ xs[r.toNat]? = some x ∧ ixD (.lst xs) (.int r) = some (.val x) := by
  have hl : r.toNat < xs.length := by omega
  refine ⟨xs[r.toNat], List.getElem_mem hl, List.getElem?_eq_getElem hl, ?_⟩
  show (atI xs r).map _ = _
  unfold atI ixN
  rw [if_pos h0, if_pos h1]
  simp [List.getElem?_eq_getElem hl]
theorem popG_ok {xs : List D} {r : Int} (h0 : 0 ≤ r) (h1 : r < xs.length) (hl : xs.length ≤ 1000000) : ∃ x, xs[r.toNat]? = some x ∧ popG xs [.int r] = some (xs.eraseIdx r.toNat, x) := by
  have hlt : r.toNat < xs.length := by omega
  refine ⟨xs[r.toNat], List.getElem?_eq_getElem hlt, ?_⟩
  show (if xs.length ≤ 1000000 then (ixN xs.length r).bind _ else none) = _
  rw [if_pos hl]
  unfold ixN
  rw [if_pos h0, if_pos h1]
  simp [List.getElem?_eq_getElem hlt]
abbrev Row := Str × Int
abbrev Col := Str × List Row
abbrev Wire := Str × Str × Int
def dRow (r : Row) : D := .tup [.str r.1, .int r.2]
def dRows (rs : List Row) : D := .tup (rs.map dRow)
def dCol (c : Col) : D := .tup [.str c.1, dRows c.2]
def dPlan (p : List Col) : D := .tup (p.map dCol)
def dWire (w : Wire) : D := .tup [.str w.1, .str w.2.1, .int w.2.2]
def wiresOf (p : List Col) : List Wire := p.flatMap fun c => c.2.map fun r => (c.1, r.1, r.2)
theorem eqD_int (i j : Int) : eqD (.int i) (.int j) = some (.val (.bl (i == j))) := by simp [eqD, D.pl, D.dep, D.py, PyData.depth, PyData.eqv]
theorem eqD_str (x y : Str) : eqD (.str x) (.str y) = some (.val (.bl (x == y))) := by simp [eqD, D.pl, D.dep, D.py, PyData.depth, PyData.eqv]
def Nice : Nat → D → Prop
  | 0, _ => False
  | n + 1, .tup ds => ds.length ≤ 100000 ∧ ∀ e ∈ ds, Nice n e
  | n + 1, .lst ds => ds.length ≤ 100000 ∧ ∀ e ∈ ds, Nice n e
  | _ + 1, .dK _ => False
  | _ + 1, .dT _ => False
  | _ + 1, .scr _ => False
  | _ + 1, .kt _ => False
  | _ + 1, _ => True
theorem Nice.up : ∀ {n : Nat} {d : D}, Nice n d → Nice (n + 1) d
  | 0, _, h => h.elim
  | n + 1, .tup ds, h => ⟨h.1, fun e he => (h.2 e he).up⟩
  | n + 1, .lst ds, h => ⟨h.1, fun e he => (h.2 e he).up⟩
  | _ + 1, .dK _, h => h.elim
  | _ + 1, .dT _, h => h.elim
  | _ + 1, .scr _, h => h.elim
  | _ + 1, .kt _, h => h.elim
  | _ + 1, .non, _ => trivial
  | _ + 1, .bl _, _ => trivial
  | _ + 1, .int _, _ => trivial
  | _ + 1, .str _, _ => trivial
theorem Nice.le {n m : Nat} {d : D} (h : Nice n d) (l : n ≤ m) : Nice m d := by
  induction l with
  | refl => exact h
  | step _ ih => exact ih.up
theorem zip_self {α : Type} : ∀ l : List α, l.zip l = l.map fun a => (a, a)
  | [] => rfl
  | a :: l => by simp [zip_self l]
theorem bools_true {α : Type} : ∀ l : List α, boolsOf (l.map fun _ => D.bl true) = some (l.map fun _ => true)
  | [] => rfl
  | a :: l => by simp [boolsOf, bools_true l]
theorem eqD_bl (i j : Bool) : eqD (.bl i) (.bl j) = some (.val (.bl (i == j))) := by simp [eqD, D.pl, D.dep, D.py, PyData.depth, PyData.eqv]
theorem neD_bl (i j : Bool) : neD (.bl i) (.bl j) = some (.val (.bl (!(i == j)))) := by simp [neD, D.pl, D.dep, D.py, PyData.depth, PyData.eqv]
theorem eqD_non : eqD .non .non = some (.val (.bl true)) := by simp [eqD, D.pl, D.dep, D.py, PyData.depth, PyData.eqv]
def NoL : Nat → D → Prop
  | 0, _ => False
  | n + 1, .tup ds => ds.length ≤ 100000 ∧ ∀ e ∈ ds, NoL n e
  | _ + 1, .int _ => True
  | _ + 1, .str _ => True
  | _ + 1, _ => False
mutual
def lsD : D → D
  | .tup ds => .lst (lsAll ds)
  | d => d
def lsAll : List D → List D
  | [] => []
  | d :: ds => lsD d :: lsAll ds
end
theorem lsAll_map : ∀ ds, lsAll ds = ds.map lsD
  | [] => rfl
  | d :: ds => by simp [lsAll, lsAll_map ds]
def slt (x y : Str) : Bool := decide (x.cps.toList < y.cps.toList)
theorem dlt_str (x y : Str) : dlt (.str x) (.str y) = slt x y := by
  unfold dlt slt; simp only [D.py]; exact PySem.W.dataLt_str x y
theorem al_row (a b : Row) : PySem.W.alike (dRow a).py (dRow b).py = true := by simp [dRow, D.py, D.pyAll, PySem.W.alike, PySem.W.alikeAll]
theorem al_wire (a b : Wire) : PySem.W.alike (dWire a).py (dWire b).py = true := by simp [dWire, D.py, D.pyAll, PySem.W.alike, PySem.W.alikeAll]
theorem dlt_row (a b : Row) : dlt (dRow a) (dRow b) = if a.1 = b.1 then decide (a.2 < b.2) else slt a.1 b.1 := by
  unfold dlt dRow
  simp only [D.py, D.pyAll]
  rw [PySem.W.dataLt_pair (by simp [PySem.W.alike]) (by simp [PySem.W.alike])]
  simp only [PyData.eqv, PySem.W.dataLt_str, PySem.W.dataLt_int, beq_iff_eq]
  by_cases h : a.1 = b.1
  · simp only [h, if_true]
    by_cases h2 : a.2 = b.2
    · simp [h2]
    · simp [h2]
  · simp only [h, if_false, slt]
theorem dlt_wire (a b : Wire) : dlt (dWire a) (dWire b) = if a.1 = b.1 then dlt (dRow a.2) (dRow b.2) else slt a.1 b.1 := by
  unfold dlt dWire
  simp only [D.py, D.pyAll]
  rw [PySem.W.dataLt_tuple, PySem.W.dataLt_cons (by simp [PySem.W.alike])]
  simp only [PyData.eqv, PySem.W.dataLt_str, beq_iff_eq, slt]
  by_cases h : a.1 = b.1
  · simp only [h, if_true]
    rw [← PySem.W.dataLt_tuple]
    unfold dRow
    simp only [D.py, D.pyAll]
  · simp only [h, if_false]
theorem sortOk_rows (rs : List Row) : sortOkB (rs.map dRow) = true := by
  unfold sortOkB
  simp only [Bool.and_eq_true, Bool.or_eq_true, List.all_eq_true]
  refine ⟨⟨⟨?_, ?_⟩, ?_⟩, .inl ?_⟩
  · induction rs with
    | nil => rfl
    | cons a l ih => simp [D.plAll, dRow, D.pl, ih]
  · intro x hx y hy
    obtain ⟨a, _, rfl⟩ := List.mem_map.mp hx
    obtain ⟨b, _, rfl⟩ := List.mem_map.mp hy
    exact al_row a b
  · intro x hx
    obtain ⟨a, _, rfl⟩ := List.mem_map.mp hx
    simp [dRow, D.dep, D.py, D.pyAll, PyData.depth, PyData.depthAll]
  · intro x hx
    obtain ⟨a, _, rfl⟩ := List.mem_map.mp hx
    rfl
theorem sortOk_wires (rs : List Wire) : sortOkB (rs.map dWire) = true := by
  unfold sortOkB
  simp only [Bool.and_eq_true, Bool.or_eq_true, List.all_eq_true]
  refine ⟨⟨⟨?_, ?_⟩, ?_⟩, .inl ?_⟩
  · induction rs with
    | nil => rfl
    | cons a l ih => simp [D.plAll, dWire, D.pl, ih]
  · intro x hx y hy
    obtain ⟨a, _, rfl⟩ := List.mem_map.mp hx
    obtain ⟨b, _, rfl⟩ := List.mem_map.mp hy
    exact al_wire a b
  · intro x hx
    obtain ⟨a, _, rfl⟩ := List.mem_map.mp hx
    simp [dWire, D.dep, D.py, D.pyAll, PyData.depth, PyData.depthAll]
  · intro x hx
    obtain ⟨a, _, rfl⟩ := List.mem_map.mp hx
    rfl
theorem sortOk_strs (rs : List Str) : sortOkB (rs.map D.str) = true := by
  unfold sortOkB
  simp only [Bool.and_eq_true, Bool.or_eq_true, List.all_eq_true]
  refine ⟨⟨⟨?_, ?_⟩, ?_⟩, .inr ?_⟩
  · induction rs with
    | nil => rfl
    | cons a l ih => simp [D.plAll, D.pl, ih]
  · intro x hx y hy
    obtain ⟨a, _, rfl⟩ := List.mem_map.mp hx
    obtain ⟨b, _, rfl⟩ := List.mem_map.mp hy
    simp [D.py, PySem.W.alike]
  · intro x hx
    obtain ⟨a, _, rfl⟩ := List.mem_map.mp hx
    simp [D.dep, D.py, PyData.depth]
  · intro x hx
    obtain ⟨a, _, rfl⟩ := List.mem_map.mp hx
    rfl
theorem sortA_rows (rs : List Row) : sortA (rs.map dRow) = some (isort (rs.map dRow)) := by unfold sortA; rw [if_pos (sortOk_rows rs)]
theorem sortA_wires (rs : List Wire) : sortA (rs.map dWire) = some (isort (rs.map dWire)) := by unfold sortA; rw [if_pos (sortOk_wires rs)]
theorem sortA_strs (rs : List Str) : sortA (rs.map D.str) = some (isort (rs.map D.str)) := by unfold sortA; rw [if_pos (sortOk_strs rs)]
theorem isort_id {α : Type} {enc : α → D} {l : List α} (al : ∀ a b, PySem.W.alike (enc a).py (enc b).py = true) (h : l.Pairwise fun a b => dlt (enc a) (enc b) = true) : isort (l.map enc) = l.map enc := by
  refine (isort_unique (fun x hx y hy => ?_) (List.Perm.refl _) (List.pairwise_map.mpr (h.imp fun z => dlt_asymm z))).symm
  obtain ⟨a, _, rfl⟩ := List.mem_map.mp hx
  obtain ⟨b, _, rfl⟩ := List.mem_map.mp hy
  exact al a b
structure PlanOk (p : List Col) : Prop where
  len : p.length ≤ 10
  rlen : ∀ c ∈ p, c.2.length ≤ 20
  names : p.Pairwise fun a b => slt a.1 b.1 = true
  rows : ∀ c ∈ p, c.2.Pairwise fun a b => dlt (dRow a) (dRow b) = true
theorem slt_ne {x y : Str} (h : slt x y = true) : x ≠ y := by
  rintro rfl
  have := dlt_irrefl (.str x)
  rw [dlt_str, h] at this
  cases this
theorem wires_rise {p : List Col} (h : PlanOk p) : (wiresOf p).Pairwise fun a b => dlt (dWire a) (dWire b) = true := by
  unfold wiresOf
  refine List.pairwise_flatMap.mpr ⟨fun c hc => ?_, h.names.imp fun {a b} z x hx y hy => ?_⟩
  · refine List.pairwise_map.mpr ((h.rows c hc).imp fun {a b} z => ?_)
    rw [dlt_wire, if_pos rfl]; exact z
  · obtain ⟨r, _, rfl⟩ := List.mem_map.mp hx
    obtain ⟨q, _, rfl⟩ := List.mem_map.mp hy
    rw [dlt_wire, if_neg (slt_ne z)]; exact z
theorem askers_rise {p : List Col} (h : PlanOk p) (n : Str) : ((wiresOf p).filter fun w => w.2.1 == n).Pairwise fun a b => dlt (dRow (a.1, a.2.2)) (dRow (b.1, b.2.2)) = true := by
  refine List.Pairwise.imp_of_mem (fun {a b} ha hb z => ?_) ((wires_rise h).filter _)
  have e1 : a.2.1 = n := by simpa using (List.mem_filter.mp ha).2
  have e2 : b.2.1 = n := by simpa using (List.mem_filter.mp hb).2
  rw [dlt_wire, dlt_row] at z
  rw [dlt_row]
  simp only [e1, e2, if_true] at z ⊢
  exact z
theorem shift_rise {rs : List Row} (h : rs.Pairwise fun a b => dlt (dRow a) (dRow b) = true) (k : Int) : rs.Pairwise fun a b => dlt (dRow (a.1, k + a.2)) (dRow (b.1, k + b.2)) = true := by
  refine h.imp fun {a b} z => ?_
  rw [dlt_row] at z ⊢
  by_cases e : a.1 = b.1
  · simp only [e, if_true, decide_eq_true_eq] at z ⊢
    omega
  · simp only [e, if_false] at z ⊢
    exact z
theorem wires_len {p : List Col} (h : PlanOk p) : (wiresOf p).length ≤ 200 ∧ (p.map fun c => c.2.length).sum ≤ 200 := by
  have key : ∀ q : List Col, (∀ c ∈ q, c.2.length ≤ 20) → (q.map fun c => c.2.length).sum ≤ 20 * q.length := by
    intro q
    induction q with
    | nil => intro _; simp
    | cons c q ih =>
      intro hq
      have h1 := hq c List.mem_cons_self
      have h2 := ih fun d hd => hq d (List.mem_cons_of_mem _ hd)
      simp only [List.map_cons, List.sum_cons, List.length_cons]
      omega
  have := key p h.rlen
  have := h.len
  refine ⟨?_, by omega⟩
  unfold wiresOf
  rw [List.length_flatMap]
  simp only [List.length_map]
  omega
theorem only_one {p : List Col} (h : PlanOk p) {c : Col} (hc : c ∈ p) : p.filter (fun d => d.1 == c.1) = [c] := by
  have nm := h.names
  clear h
  induction p with
  | nil => cases hc
  | cons d p ih =>
    have nm' := List.pairwise_cons.mp nm
    rcases List.mem_cons.mp hc with rfl | hc
    · rw [List.filter_cons_of_pos (by simp)]
      have : p.filter (fun d => d.1 == c.1) = [] := List.filter_eq_nil_iff.mpr fun e he => by
        simp [Ne.symm (slt_ne (nm'.1 e he))]
      rw [this]
    · rw [List.filter_cons_of_neg (by simp [slt_ne (nm'.1 c hc)])]
      exact ih hc nm'.2
theorem pl_strs : ∀ l : List Str, D.plAll (l.map D.str) = true
  | [] => rfl
  | a :: l => by simp [D.plAll, D.pl, pl_strs l]
theorem in_strs (neg : Bool) (x : Str) (l : List Str) : inD neg (.str x) (.tup (l.map D.str)) = some (.val (.bl ((l.any fun y => y == x) != neg))) ∧ inD neg (.str x) (.lst (l.map D.str)) = some (.val (.bl ((l.any fun y => y == x) != neg))) := by
  have e : inSeq (.str x) (l.map D.str) = l.any fun y => y == x := by
    unfold inSeq
    rw [List.any_map]
    congr 1
  have c : (D.str x).pl = true ∧ D.plAll (l.map D.str) = true ∧ min (PyData.depthAll (D.pyAll (l.map D.str))) (D.str x).dep ≤ 64 := ⟨rfl, pl_strs l, by simp [D.dep, D.py, PyData.depth]⟩
  constructor
  · show (if _ then _ else _) = _
    rw [if_pos c, e]
  · show (if _ then _ else _) = _
    rw [if_pos c, e]
theorem names_map (p : List Col) : (p.map fun c => D.str c.1) = (p.map (·.1)).map D.str := by simp
theorem any_name {p : List Col} {c : Col} (hc : c ∈ p) : ((p.map (·.1)).any fun y => y == c.1) = true := List.any_eq_true.mpr ⟨c.1, List.mem_map_of_mem hc, by simp⟩
def askersOf (p : List Col) (n : Str) : List Row := ((wiresOf p).filter fun w => w.2.1 == n).map fun w => (w.1, w.2.2)
theorem PlanOk.take {p : List Col} (h : PlanOk p) (k : Nat) : PlanOk (p.take k) :=
  ⟨by have := h.len; rw [List.length_take]; omega, fun c hc => h.rlen c (List.mem_of_mem_take hc), h.names.sublist (List.take_sublist _ _), fun c hc => h.rows c (List.mem_of_mem_take hc)⟩
theorem isort_rise {l : List D} (al : AllA l) (nd : l.Nodup) : (isort l).Pairwise fun a b => dlt a b = true := by
  have n2 : (isort l).Nodup := (isort_perm l).nodup_iff.mpr nd
  refine List.Pairwise.imp_of_mem (fun {a b} ha hb z => ?_) ((isort_sorted l).and n2)
  cases e : dlt a b with
  | true => rfl
  | false => exact absurd (dlt_tri (al a ((isort_perm l).mem_iff.mp ha) b ((isort_perm l).mem_iff.mp hb)) e z.1) z.2
def unRow : D → Row
  | .tup [.str a, .int b] => (a, b)
  | _ => ("", 0)
def unStr : D → Str
  | .str a => a
  | _ => ""
theorem un_rows {l : List D} (h : ∀ d ∈ l, ∃ r, d = dRow r) : (l.map unRow).map dRow = l := by
  rw [List.map_map]
  refine (List.map_congr_left fun d hd => ?_).trans (List.map_id _)
  obtain ⟨r, rfl⟩ := h d hd
  rfl
theorem un_strs {l : List D} (h : ∀ d ∈ l, ∃ r, d = D.str r) : (l.map unStr).map D.str = l := by
  rw [List.map_map]
  refine (List.map_congr_left fun d hd => ?_).trans (List.map_id _)
  obtain ⟨r, rfl⟩ := h d hd
  rfl
def rowsFor (ws : List Wire) (n : Str) : List Row := (isort (dedup (((ws.filter fun w => w.1 == n).map fun w => w.2).map dRow))).map unRow
theorem allA_rows (rs : List Row) : AllA (rs.map dRow) := fun x hx y hy => by
  obtain ⟨a, _, rfl⟩ := List.mem_map.mp hx
  obtain ⟨b, _, rfl⟩ := List.mem_map.mp hy
  exact al_row a b
theorem dedup_len : ∀ l : List D, (dedup l).length ≤ l.length
  | [] => Nat.le_refl _
  | d :: l => by
    have := dedup_len l
    unfold dedup
    split
    · rw [List.length_cons]; omega
    · rw [List.length_cons, List.length_cons]; omega
theorem rowsFor_ok (ws : List Wire) (n : Str) (hl : ws.length ≤ 20) : (rowsFor ws n).map dRow = isort (dedup (((ws.filter fun w => w.1 == n).map fun w => w.2).map dRow)) ∧ (rowsFor ws n).length ≤ 20 ∧ (rowsFor ws n).Pairwise (fun a b => dlt (dRow a) (dRow b) = true) ∧
    sortSetD (.lst (((ws.filter fun w => w.1 == n).map fun w => w.2).map dRow)) = some (.tmp (.lst ((rowsFor ws n).map dRow))) := by
  have len : ((ws.filter fun w => w.1 == n).map fun w => w.2).length ≤ 20 := by
    rw [List.length_map]; exact Nat.le_trans (List.length_filter_le _ _) hl
  generalize hL : ((ws.filter fun w => w.1 == n).map fun w => w.2) = L at len
  have sp := dedup_spec (allA_rows L)
  have e : (rowsFor ws n).map dRow = isort (dedup (L.map dRow)) := by
    unfold rowsFor
    rw [hL]
    refine un_rows fun d hd => ?_
    obtain ⟨r, _, rfl⟩ := List.mem_map.mp ((sp.2 d).mp ((isort_perm _).mem_iff.mp hd))
    exact ⟨r, rfl⟩
  have rise : ((rowsFor ws n).map dRow).Pairwise fun a b => dlt a b = true := by
    rw [e]
    exact isort_rise (fun a ha b hb => allA_rows L a ((sp.2 a).mp ha) b ((sp.2 b).mp hb)) sp.1
  refine ⟨e, ?_, List.pairwise_map.mp rise, ?_⟩
  · have z := congrArg List.length e
    rw [List.length_map, (isort_perm _).length_eq] at z
    have := dedup_len (L.map dRow)
    rw [List.length_map] at this
    omega
  · have k : keysOkB (L.map dRow) = true := by
      unfold keysOkB
      rw [Bool.or_eq_true]
      right
      rw [List.all_eq_true]
      intro d hd
      obtain ⟨r, _, rfl⟩ := List.mem_map.mp hd
      rfl
    show (if _ then _ else _) = _
    rw [if_pos ⟨k, sortOk_rows L, by rw [List.length_map]; omega⟩, e]
def planFor (tags : List Str) (ws : List Wire) : List Col := ((isort (tags.map D.str)).map unStr).map fun n => (n, rowsFor ws n)
theorem names_ok (tags : List Str) : ((isort (tags.map D.str)).map unStr).map D.str = isort (tags.map D.str) := un_strs fun d hd => by
  obtain ⟨r, _, rfl⟩ := List.mem_map.mp ((isort_perm _).mem_iff.mp hd)
  exact ⟨r, rfl⟩
theorem nodup_strs {tags : List Str} (h : tags.Nodup) : (tags.map D.str).Nodup := List.pairwise_map.mpr (h.imp fun ne e => ne (by cases e; rfl))
theorem planFor_ok {tags : List Str} {ws : List Wire} (nd : tags.Nodup) (hl : tags.length ≤ 10) (hw : ws.length ≤ 20) : PlanOk (planFor tags ws) := by
  have al : AllA (tags.map D.str) := fun x hx y hy => by
    obtain ⟨a, _, rfl⟩ := List.mem_map.mp hx
    obtain ⟨b, _, rfl⟩ := List.mem_map.mp hy
    simp [D.py, PySem.W.alike]
  have rise := isort_rise al (nodup_strs nd)
  rw [← names_ok tags] at rise
  refine ⟨?_, fun c hc => ?_, ?_, fun c hc => ?_⟩
  · unfold planFor
    rw [List.length_map, List.length_map, (isort_perm _).length_eq, List.length_map]
    exact hl
  · obtain ⟨n, _, rfl⟩ := List.mem_map.mp hc
    exact (rowsFor_ok ws n hw).2.1
  · unfold planFor
    refine List.pairwise_map.mpr ((List.pairwise_map.mp rise).imp fun {a b} z => ?_)
    rw [dlt_str] at z
    exact z
  · obtain ⟨n, _, rfl⟩ := List.mem_map.mp hc
    exact (rowsFor_ok ws n hw).2.2.1
end Sp

/-! Sp2: loops and comprehensions of plain functions. -/
namespace Sp
open PySem L2 Fd

section
variable {σ ρ α β γ δ ε : Type}
@[simp] theorem after_inl {Y : Type} (s : σ) (k : σ → Res Y) (l : ρ → Res Y) : after (.ok (.inl s)) k l = k s := .trans rfl rfl
@[simp] theorem after_inr {Y : Type} (s : ρ) (k : σ → Res Y) (l : ρ → Res Y) : after (.ok (.inr s)) k l = l s := .trans rfl rfl
end
section
variable {σ α β P : Type}
theorem mapR_map {b : D → Res (Option D)} {e : α → D} {p : α → Bool} {g : α → D} : ∀ (L : List α), (∀ a ∈ L, b (e a) = .ok (if p a = true then some (g a) else none)) → mapR b (L.map e) = .ok ((L.filter p).map g)
  | [], _ => rfl
  | a :: L, h => by
    have ih := mapR_map L fun x hx => h x (List.mem_cons_of_mem _ hx)
    show (b (e a)).bind _ = _
    rw [h a List.mem_cons_self]
    show (mapR b (L.map e)).bind _ = _
    rw [ih]
    by_cases z : p a = true
    · simp [z]
    · simp [z]
theorem lim_ok {l : List D} (h : l.length ≤ 1000000) : lim l = .ok l := if_pos h
theorem lcP_map {b : D → Res (Option D)} {e : α → D} {p : α → Bool} {g : α → D} {L : List α} (h : ∀ a ∈ L, b (e a) = .ok (if p a = true then some (g a) else none)) (hl : L.length ≤ 1000000) : lcP b (L.map e) = .ok ((L.filter p).map g) := by
  unfold lcP
  rw [mapR_map L h]
  show lim _ = _
  refine lim_ok ?_
  rw [List.length_map]
  exact Nat.le_trans (List.length_filter_le _ _) hl
theorem lcP_all {b : D → Res (Option D)} {e : α → D} {g : α → D} {L : List α} (h : ∀ a ∈ L, b (e a) = .ok (some (g a))) (hl : L.length ≤ 1000000) : lcP b (L.map e) = .ok (L.map g) := by
  have z := lcP_map (p := fun _ => true) (g := g) (L := L) (e := e) (b := b) (fun a ha => by rw [h a ha]; rfl) hl
  rw [z, List.filter_eq_self.mpr fun _ _ => rfl]
theorem mapC_map {b : D → Res (List D)} {e : α → D} {g : α → List D} : ∀ (L : List α), (∀ a ∈ L, b (e a) = .ok (g a)) → mapC b (L.map e) = .ok (L.flatMap g)
  | [], _ => rfl
  | a :: L, h => by
    show (b (e a)).bind _ = _
    rw [h a List.mem_cons_self]
    show (mapC b (L.map e)).bind _ = _
    rw [mapC_map L fun x hx => h x (List.mem_cons_of_mem _ hx)]
    simp
theorem lc2R_map {b : D → Res (List D)} {e : α → D} {g : α → List D} {L : List α} (h : ∀ a ∈ L, b (e a) = .ok (g a)) (hl : (L.flatMap g).length ≤ 1000000) : lc2R b (L.map e) = .ok (L.flatMap g) := by
  unfold lc2R
  rw [mapC_map L h]
  exact lim_ok hl
theorem forR_fold {b : σ → D → Res σ} {e : α → D} {τ : Type} {E : τ → σ} {st : τ → α → τ} (I : τ → Prop) : ∀ (L : List α) (s : τ), I s → (∀ s a, a ∈ L → I s → b (E s) (e a) = .ok (E (st s a)) ∧ I (st s a)) → forR b (L.map e) (E s) = .ok (E (L.foldl st s)) ∧ I (L.foldl st s)
  | [], s, i, _ => ⟨rfl, i⟩
  | a :: L, s, i, h => by
    obtain ⟨h1, h2⟩ := h s a List.mem_cons_self i
    have ih := forR_fold (E := E) (b := b) (e := e) I L (st s a) h2 fun s x hx => h s x (List.mem_cons_of_mem _ hx)
    refine ⟨?_, ih.2⟩
    show (b (E s) (e a)).bind _ = _
    rw [h1]
    exact ih.1
/-- a loop whose state is what was walked -/
theorem forR_pre {b : σ → D → Res σ} {e : α → D} {E : List α → σ} : ∀ (post pre : List α), (∀ p a q, p ++ a :: q = pre ++ post → b (E p) (e a) = .ok (E (p ++ [a]))) → forR b (post.map e) (E pre) = .ok (E (pre ++ post))
  | [], pre, _ => by rw [List.append_nil]; rfl
  | a :: post, pre, h => by
    have ih := forR_pre post (pre ++ [a]) fun p x q z => h p x q (by rw [z, List.append_assoc]; rfl)
    show (b (E pre) (e a)).bind _ = _
    rw [h pre a post rfl, Res.bind_ok, ih, List.append_assoc]
    rfl
theorem forR_all {b : σ → D → Res σ} {e : α → D} {E : List α → σ} (L : List α) {s : σ} (hs : s = E []) (h : ∀ p a q, p ++ a :: q = L → b (E p) (e a) = .ok (E (p ++ [a]))) : forR b (L.map e) s = .ok (E L) := by
  rw [hs]
  exact forR_pre L [] h
theorem forR_inv {b : σ → D → Res σ} (I : Nat → σ → Prop) : ∀ (ds : List D) (k : Nat) (s : σ), I k s → (∀ (i : Nat) (s : σ) (d : D), ds[i]? = some d → I (k + i) s → ∃ s', b s d = .ok s' ∧ I (k + i + 1) s') → ∃ s', forR b ds s = .ok s' ∧ I (k + ds.length) s'
  | [], k, s, i, _ => ⟨s, rfl, i⟩
  | d :: ds, k, s, i, h => by
    obtain ⟨s1, e1, i1⟩ := h 0 s d rfl i
    obtain ⟨s2, e2, i2⟩ := forR_inv I ds (k + 1) s1 i1 fun j s d hd hi => by
      obtain ⟨s', e, q⟩ := h (j + 1) s d (by simpa using hd) (by rw [show k + (j + 1) = k + 1 + j by omega]; exact hi)
      exact ⟨s', e, by rw [show k + 1 + j + 1 = k + (j + 1) + 1 by omega]; exact q⟩
    refine ⟨s2, ?_, by rw [List.length_cons, show k + (ds.length + 1) = k + 1 + ds.length by omega]; exact i2⟩
    show (b s d).bind _ = _
    rw [e1]
    exact e2
theorem forX_inv {b : σ → D → Res (Lp σ P)} (I : Nat → σ → Prop) : ∀ (ds : List D) (k : Nat) (s : σ), I k s → (∀ (i : Nat) (s : σ) (d : D), ds[i]? = some d → I (k + i) s → ∃ s', b s d = .ok (.go s') ∧ I (k + i + 1) s') → ∃ s', forX b ds s = .ok (.inl s') ∧ I (k + ds.length) s'
  | [], k, s, i, _ => ⟨s, rfl, i⟩
  | d :: ds, k, s, i, h => by
    obtain ⟨s1, e1, i1⟩ := h 0 s d rfl i
    obtain ⟨s2, e2, i2⟩ := forX_inv I ds (k + 1) s1 i1 fun j s d hd hi => by
      obtain ⟨s', e, q⟩ := h (j + 1) s d (by simpa using hd) (by rw [show k + (j + 1) = k + 1 + j by omega]; exact hi)
      exact ⟨s', e, by rw [show k + 1 + j + 1 = k + (j + 1) + 1 by omega]; exact q⟩
    refine ⟨s2, ?_, by rw [List.length_cons, show k + (ds.length + 1) = k + 1 + ds.length by omega]; exact i2⟩
    show (b s d).bind _ = _
    rw [e1]
    exact e2
theorem whR_run {c : σ → Res Bool} {b : σ → Res σ} {τ : Type} {E : τ → σ} (I : τ → Prop) (go : τ → Bool) (st : τ → τ) (m : τ → Nat) (hc : ∀ s, I s → c (E s) = .ok (go s)) (hb : ∀ s, I s → go s = true → b (E s) = .ok (E (st s)) ∧ I (st s) ∧ m (st s) < m s) : ∀ (n : Nat) (s : τ), I s → m s < n → ∃ s', whR c b n (E s) = .ok (E s') ∧ I s' ∧ go s' = false ∧ ∃ k, s' = Nat.rec s (fun _ x => st x) k
  | 0, _, _, h => absurd h (by omega)
  | n + 1, s, i, h => by
    show ∃ s', (c (E s)).bind _ = _ ∧ _
    rw [hc s i]
    cases g : go s with
    | false => exact ⟨s, rfl, i, g, 0, rfl⟩
    | true =>
      obtain ⟨h1, h2, h3⟩ := hb s i g
      obtain ⟨s', e, q1, q2, k, q3⟩ := whR_run I go st m hc hb n (st s) h2 (by omega)
      refine ⟨s', ?_, q1, q2, k + 1, ?_⟩
      · show (b (E s)).bind _ = _
        rw [h1]; exact e
      · rw [q3]
        clear q3 e q1 q2 h1 h2 h3 g i h
        induction k with
        | zero => rfl
        | succ k ih => show st _ = st _; rw [ih]
end
/-! ### built-ins at data of known kinds -/
theorem addI (i j : Int) : addD (.int i) (.int j) = some (.val (.int (i + j))) := .trans rfl rfl
theorem subI (i j : Int) : subD (.int i) (.int j) = some (.val (.int (i - j))) := .trans rfl rfl
theorem negI (i : Int) : negD (.int i) = some (.val (.int (-i))) := .trans rfl rfl
theorem ltI (i j : Int) : ltD (.int i) (.int j) = some (.val (.bl (decide (i < j)))) := .trans rfl rfl
theorem leI (i j : Int) : leD (.int i) (.int j) = some (.val (.bl (decide (i ≤ j)))) := .trans rfl rfl
theorem gtI (i j : Int) : gtD (.int i) (.int j) = some (.val (.bl (decide (j < i)))) := .trans rfl rfl
theorem geI (i j : Int) : geD (.int i) (.int j) = some (.val (.bl (decide (j ≤ i)))) := .trans rfl rfl
theorem intD_int (i : Int) : intD [.int i] = some (.val (.int i)) := .trans rfl rfl
theorem intD_bl (b : Bool) : intD [.bl b] = some (.val (.int (if b then 1 else 0))) := .trans rfl rfl
theorem lenD_lst (l : List D) : lenD [.lst l] = some (.val (.int l.length)) := .trans rfl rfl
theorem lenD_tup (l : List D) : lenD [.tup l] = some (.val (.int l.length)) := .trans rfl rfl
theorem lenD_scr (l : List Int) : lenD [.scr l] = some (.val (.int l.length)) := .trans rfl rfl
theorem listD_lst (l : List D) : listD [.lst l] = some (.tmp (.lst l)) := .trans rfl rfl
theorem listD_tup (l : List D) : listD [.tup l] = some (.tmp (.lst l)) := .trans rfl rfl
theorem tupleD_lst (l : List D) : tupleD [.lst l] = some (.val (.tup l)) := .trans rfl rfl
theorem tupleD_tup (l : List D) : tupleD [.tup l] = some (.val (.tup l)) := .trans rfl rfl
theorem absD_int (i : Int) : absD [.int i] = some (.val (.int (if i < 0 then -i else i))) := .trans rfl rfl
theorem tstR_bl (b : Bool) : tstR (.bl b) = .ok b := .trans rfl rfl
theorem tstR_lst (l : List D) : tstR (.lst l) = .ok (!l.isEmpty) := .trans rfl rfl
theorem notD_bl (b : Bool) : notD (.bl b) = some (.val (.bl (!b))) := .trans rfl rfl
theorem sliceD_lst (l : List D) (a b : Option Int) : sliceD (.lst l) a b = some (.tmp (.lst (cutG l a b))) := .trans rfl rfl
theorem sliceD_tup (l : List D) (a b : Option Int) : sliceD (.tup l) a b = some (.val (.tup (cutG l a b))) := .trans rfl rfl
theorem sliceD_scr (l : List Int) (a b : Option Int) : sliceD (.scr l) a b = some (.tmp (.lst ((cutG l a b).map D.int))) := .trans rfl rfl
theorem sorted_lst (l : List D) : sortedD [.lst l] = (sortA l).map fun es => .tmp (.lst es) := .trans rfl rfl
/-! ### the box of draws -/
/-- a box after at most n draws -/
def Box (n : Nat) (l : List D) : Prop := ∃ a b c : Int, l = [.int a, .int b, .int c] ∧ 0 ≤ b ∧ b < 2 ^ 62 ∧ 0 ≤ c ∧ c ≤ n
theorem Box.mono {n m : Nat} {d : List D} (h : Box n d) (l : n ≤ m) : Box m d := by
  obtain ⟨a, b, c, e, h1, h2, h3, h4⟩ := h
  exact ⟨a, b, c, e, h1, h2, h3, by omega⟩
theorem ix30 (a b c : D) : ixD (.lst [a, b, c]) (.int 0) = some (.val a) := .trans rfl rfl
theorem ix31 (a b c : D) : ixD (.lst [a, b, c]) (.int 1) = some (.val b) := .trans rfl rfl
theorem ix32 (a b c : D) : ixD (.lst [a, b, c]) (.int 2) = some (.val c) := .trans rfl rfl
theorem put30 (a b c x : D) : putL [a, b, c] (.int 0) x = .ok [x, b, c] := .trans rfl rfl
theorem put32 (a b c x : D) : putL [a, b, c] (.int 2) x = .ok [a, b, x] := .trans rfl rfl
theorem appG_ok {cs : List D} {d : D} (h : cs.length < 1000000) : appG cs [d] = some (cs ++ [d], .non) := if_pos h
theorem rngR_nat {n : Nat} (h : n ≤ 1000000) : rngR (.int n) = .ok (rngD 0 n) := by
  unfold rngR
  dsimp only
  rw [if_pos (⟨by omega, by omega⟩ : -(2 ^ 62 : Int) ≤ (n : Int) ∧ (n : Int) < 2 ^ 62), Int.toNat_natCast]
theorem addL_ok {xs ys : List D} (h : xs.length + ys.length ≤ 1000000) : addD (.lst xs) (.lst ys) = some (.tmp (.lst (xs ++ ys))) := by
  show (if xs.length + ys.length ≤ sizeLine then some (RV.tmp (.lst (xs ++ ys))) else none) = _
  rw [if_pos (Nat.le_trans h mil_line)]
/-- a loop whose turns all go on -/
theorem forX_each {P : Type} {b : Unit → D → Res (Lp Unit P)} : ∀ {ds : List D}, (∀ d ∈ ds, b () d = .ok (.go ())) → forX b ds () = .ok (.inl ())
  | [], _ => rfl
  | d :: ds, h => by
    show (b () d).bind _ = _
    rw [h d List.mem_cons_self, Res.bind_ok]
    exact forX_each fun x hx => h x (List.mem_cons_of_mem _ hx)
/-- so many turns, each with at most g draws -/
theorem right_loop {P : Type} (g N : Nat) {bx : List D} (hbx : Box 0 bx) {b : List D → D → Res (Lp (List D) P)} {k : List D → Res (D × List D)} {l : P → Res (D × List D)} (hb : ∀ (n : Nat) (s : List D) (d : D), n ≤ g * N → Box n s → ∃ s', b s d = .ok (.go s') ∧ Box (n + g) s') (hk : ∀ s, ∃ z, k s = .ok (.bl true, z)) : ∃ z, after (forX b (rngD 0 N) bx) k l = .ok (.bl true, z) := by
  obtain ⟨s', e, _⟩ := forX_inv (b := b) (fun j s => Box (g * j) s) (rngD 0 N) 0 bx hbx (fun i s d hd hI => by
    have hi : i < N := by
      have := (List.getElem?_eq_some_iff.mp hd).1
      simpa [rngD] using this
    obtain ⟨l', e1, e2⟩ := hb _ s d (Nat.mul_le_mul_left g (by omega)) hI
    exact ⟨l', e1, by rw [show 0 + i + 1 = (0 + i) + 1 by omega, Nat.mul_add, Nat.mul_one]; exact e2⟩)
  rw [e, after_inl]
  exact hk s'
end Sp

/-! Sp3: what is come to along wires. -/
namespace Sp
open PySem L2 Fd
section
variable {σ τ : Type}
def iterW (go : τ → Bool) (st : τ → τ) : Nat → τ → τ
  | 0, s => s
  | n + 1, s => if go s = true then iterW go st n (st s) else s
theorem whR_iter {c : σ → Res Bool} {b : σ → Res σ} {E : τ → σ} (I : τ → Prop) (go : τ → Bool) (st : τ → τ) (m : τ → Nat) (hc : ∀ s, I s → c (E s) = .ok (go s)) (hb : ∀ s, I s → go s = true → b (E s) = .ok (E (st s)) ∧ I (st s) ∧ m (st s) < m s) : ∀ (n : Nat) (s : τ), I s → m s < n → whR c b n (E s) = .ok (E (iterW go st n s)) ∧ I (iterW go st n s) ∧ go (iterW go st n s) = false
  | 0, _, _, h => absurd h (by omega)
  | n + 1, s, i, h => by
    show (c (E s)).bind _ = _ ∧ I (if go s = true then _ else _) ∧ go (if go s = true then _ else _) = false
    rw [hc s i]
    cases g : go s with
    | false => exact ⟨by rw [Res.bind_ok, if_neg (by decide)]; unfold iterW; rw [if_neg (by rw [g]; decide)], by rw [if_neg (by decide)]; exact i, by rw [if_neg (by decide)]; exact g⟩
    | true =>
      obtain ⟨h1, h2, h3⟩ := hb s i g
      obtain ⟨q1, q2, q3⟩ := whR_iter I go st m hc hb n (st s) h2 (by omega)
      refine ⟨?_, by rw [if_pos rfl]; exact q2, by rw [if_pos rfl]; exact q3⟩
      rw [Res.bind_ok, if_pos rfl, h1, Res.bind_ok, q1]
      unfold iterW
      rw [if_pos g]
      cases n <;> rfl
end
abbrev FE := List Str × List Str
def rStep (h : Str) (s : FE) (w : Wire) : FE := if (w.1 == h && !(s.1.any fun y => y == w.2.1)) = true then (s.1 ++ [w.2.1], s.2 ++ [w.2.1]) else s
def rTurn (ws : List Wire) (s : FE) : FE := ws.foldl (rStep (s.2.getLast?.getD "")) (s.1, s.2.dropLast)
def eFE (s : FE) : List D × List D := (s.1.map D.str, s.2.map D.str)
def goFE (s : FE) : Bool := !s.2.isEmpty
/-- how many wires lead to what is not found -/
def left (ws : List Wire) (f : List Str) : Nat := ws.countP fun w => !(f.any fun y => y == w.2.1)
theorem countP_lt {α : Type} {p q : α → Bool} : ∀ {l : List α}, (∀ a ∈ l, q a = true → p a = true) → (∃ a ∈ l, p a = true ∧ q a = false) → l.countP q < l.countP p
  | [], _, ⟨_, h, _⟩ => nomatch h
  | a :: l, h, ⟨b, hb, h1, h2⟩ => by
    have mono : l.countP q ≤ l.countP p := List.countP_mono_left fun x hx => h x (List.mem_cons_of_mem _ hx)
    rw [List.countP_cons, List.countP_cons]
    by_cases e : p a = true ∧ q a = false
    · rw [e.1, e.2]; simp; omega
    · have hb' : b ∈ l := by
        rcases List.mem_cons.mp hb with rfl | hb
        · exact absurd ⟨h1, h2⟩ e
        · exact hb
      have ih := countP_lt (fun x hx => h x (List.mem_cons_of_mem _ hx)) ⟨b, hb', h1, h2⟩
      have ha := h a List.mem_cons_self
      cases hq : q a with
      | false => cases hp : p a <;> simp <;> omega
      | true => rw [ha hq]; simp; omega
structure RI (ws : List Wire) (s : FE) : Prop where
  a : s.1.length + left ws s.1 ≤ ws.length
  b : s.2.length ≤ 1 + s.1.length
theorem rStep_ok {ws : List Wire} {h : Str} {s : FE} {w : Wire} (hw : w ∈ ws) (i : s.1.length + left ws s.1 ≤ ws.length) : (rStep h s w).1.length + left ws (rStep h s w).1 ≤ ws.length ∧ (rStep h s w).2.length + left ws (rStep h s w).1 ≤ s.2.length + left ws s.1 ∧ (rStep h s w).2.length + s.1.length = s.2.length + (rStep h s w).1.length := by
  unfold rStep
  split
  · rename_i c
    have c := Bool.and_eq_true_iff.mp c
    have nf : (s.1.any fun y => y == w.2.1) = false := by simpa using c.2
    have lt : left ws (s.1 ++ [w.2.1]) < left ws s.1 := by
      refine countP_lt (fun x _ hx => ?_) ⟨w, hw, by simp [nf], by simp⟩
      simp only [List.any_append, Bool.not_or, Bool.and_eq_true] at hx
      exact hx.1
    simp only [List.length_append, List.length_singleton]
    omega
  · exact ⟨i, Nat.le_refl _, rfl⟩
theorem fold_ok {ws : List Wire} {h : Str} : ∀ (vs : List Wire) (s : FE), (∀ w ∈ vs, w ∈ ws) → s.1.length + left ws s.1 ≤ ws.length → (vs.foldl (rStep h) s).1.length + left ws (vs.foldl (rStep h) s).1 ≤ ws.length ∧ (vs.foldl (rStep h) s).2.length + left ws (vs.foldl (rStep h) s).1 ≤ s.2.length + left ws s.1 ∧ (vs.foldl (rStep h) s).2.length + s.1.length = s.2.length + (vs.foldl (rStep h) s).1.length
  | [], s, _, i => ⟨i, Nat.le_refl _, rfl⟩
  | w :: vs, s, hv, i => by
    obtain ⟨h1, h2, h3⟩ := rStep_ok (h := h) (hv w List.mem_cons_self) i
    obtain ⟨q1, q2, q3⟩ := fold_ok (h := h) vs (rStep h s w) (fun x hx => hv x (List.mem_cons_of_mem _ hx)) h1
    exact ⟨q1, by simp only [List.foldl_cons]; omega, by simp only [List.foldl_cons]; omega⟩
theorem rTurn_ok {ws : List Wire} {s : FE} (i : RI ws s) (g : goFE s = true) : RI ws (rTurn ws s) ∧ (rTurn ws s).2.length + left ws (rTurn ws s).1 < s.2.length + left ws s.1 := by
  have hl : 0 < s.2.length := by
    unfold goFE at g
    cases e : s.2 with
    | nil => rw [e] at g; cases g
    | cons a l => simp
  have ia := i.a
  have ib := i.b
  obtain ⟨q1, q2, q3⟩ := fold_ok (ws := ws) (h := s.2.getLast?.getD "") ws (s.1, s.2.dropLast) (fun _ h => h) i.a
  simp only [List.length_dropLast] at q2 q3
  unfold rTurn
  exact ⟨⟨q1, by omega⟩, by omega⟩
/-- the columns that are found, in the order of finding -/
def found (n : Nat) (ws : List Wire) (t : Str) : List Str := (iterW goFE (rTurn ws) n ([], [t])).1
/-! ### that it is what walks lead to -/
inductive Reach (ws : List Wire) (a : Str) : Str → Prop
  | one {w : Wire} : w ∈ ws → w.1 = a → Reach ws a w.2.1
  | more {w : Wire} : Reach ws a w.1 → w ∈ ws → Reach ws a w.2.1
theorem Reach.trans {ws : List Wire} {a b c : Str} (h : Reach ws a b) (k : Reach ws b c) : Reach ws a c := by
  induction k with
  | one hw e => exact .more (e ▸ h) hw
  | more _ hw ih => exact .more ih hw
def swapW (w : Wire) : Wire := (w.2.1, w.1, w.2.2)
theorem Reach.swap {ws : List Wire} {a b : Str} (h : Reach ws a b) : Reach (ws.map swapW) b a := by
  have st : ∀ w ∈ ws, Reach (ws.map swapW) w.2.1 w.1 := fun w hw => .one (w := swapW w) (List.mem_map_of_mem hw) rfl
  induction h with
  | one hw e => exact e ▸ st _ hw
  | more _ hw ih => exact (st _ hw).trans ih
theorem swap_swap (ws : List Wire) : (ws.map swapW).map swapW = ws := by
  rw [List.map_map]
  exact (List.map_congr_left fun w _ => rfl).trans (List.map_id _)
theorem reach_swap {ws : List Wire} {a b : Str} : Reach (ws.map swapW) b a ↔ Reach ws a b := ⟨fun h => by have := h.swap; rwa [swap_swap] at this, fun h => h.swap⟩
structure FI (h : Str) (vs : List Wire) (s s' : FE) : Prop where
  f : ∀ x ∈ s.1, x ∈ s'.1
  e : ∀ x ∈ s.2, x ∈ s'.2
  n : ∀ x ∈ s'.1, x ∈ s.1 ∨ (x ∈ s'.2 ∧ ∃ w ∈ vs, w.1 = h ∧ w.2.1 = x)
  k : ∀ x ∈ s'.2, x ∈ s.2 ∨ x ∈ s'.1
  c : ∀ w ∈ vs, w.1 = h → w.2.1 ∈ s'.1
theorem any_mem {l : List Str} {x : Str} : (l.any fun y => y == x) = true ↔ x ∈ l := by
  rw [List.any_eq_true]
  exact ⟨fun ⟨y, hy, e⟩ => by rw [beq_iff_eq] at e; exact e ▸ hy, fun h => ⟨x, h, by simp⟩⟩
theorem fold_fi {h : Str} : ∀ (vs : List Wire) (s : FE), FI h vs s (vs.foldl (rStep h) s)
  | [], s => ⟨fun _ z => z, fun _ z => z, fun _ z => .inl z, fun _ z => .inl z, fun _ z => nomatch z⟩
  | w :: vs, s => by
    have ih := fold_fi (h := h) vs (rStep h s w)
    have st : FI h [w] s (rStep h s w) := by
      unfold rStep
      split
      · rename_i c
        have c := Bool.and_eq_true_iff.mp c
        have hh : w.1 = h := by simpa using c.1
        refine ⟨fun x hx => List.mem_append_left _ hx, fun x hx => List.mem_append_left _ hx, fun x hx => ?_, fun x hx => ?_, fun v hv _ => ?_⟩
        · rcases List.mem_append.mp hx with hx | hx
          · exact .inl hx
          · cases List.mem_singleton.mp hx
            exact .inr ⟨List.mem_append_right _ (List.mem_singleton.mpr rfl), w, List.mem_singleton.mpr rfl, hh, rfl⟩
        · rcases List.mem_append.mp hx with hx | hx
          · exact .inl hx
          · exact .inr (List.mem_append_right _ hx)
        · cases List.mem_singleton.mp hv
          exact List.mem_append_right _ (List.mem_singleton.mpr rfl)
      · rename_i c
        refine ⟨fun _ z => z, fun _ z => z, fun _ z => .inl z, fun _ z => .inl z, fun v hv e => ?_⟩
        cases List.mem_singleton.mp hv
        rw [Bool.and_eq_true_iff] at c
        refine any_mem.mp ?_
        cases z : (s.1.any fun y => y == w.2.1) with
        | true => rfl
        | false => exact absurd ⟨by simp [e], by rw [z]; rfl⟩ c
    rw [List.foldl_cons]
    refine ⟨fun x hx => ih.f x (st.f x hx), fun x hx => ih.e x (st.e x hx), fun x hx => ?_, fun x hx => ?_, fun v hv e => ?_⟩
    · rcases ih.n x hx with q | ⟨q, v, hv, e1, e2⟩
      · rcases st.n x q with q | ⟨q, v, hv, e1, e2⟩
        · exact .inl q
        · cases List.mem_singleton.mp hv
          exact .inr ⟨ih.e x q, w, List.mem_cons_self, e1, e2⟩
      · exact .inr ⟨q, v, List.mem_cons_of_mem _ hv, e1, e2⟩
    · rcases ih.k x hx with q | q
      · rcases st.k x q with q | q
        · exact .inl q
        · exact .inr (ih.f x q)
      · exact .inr q
    · rcases List.mem_cons.mp hv with rfl | hv
      · exact ih.f _ (st.c v (List.mem_singleton.mpr rfl) e)
      · exact ih.c v hv e
structure RC (ws : List Wire) (t : Str) (s : FE) : Prop where
  sound : ∀ x ∈ s.1, Reach ws t x
  edge : ∀ x ∈ s.2, x = t ∨ x ∈ s.1
  closed : ∀ x, (x = t ∨ x ∈ s.1) → x ∉ s.2 → ∀ w ∈ ws, w.1 = x → w.2.1 ∈ s.1
theorem rTurn_rc {ws : List Wire} {t : Str} {s : FE} (i : RC ws t s) (g : goFE s = true) : RC ws t (rTurn ws s) := by
  have hne : s.2 ≠ [] := by
    intro e
    unfold goFE at g
    rw [e] at g; cases g
  have hl : s.2.getLast?.getD "" = s.2.getLast hne := by rw [List.getLast?_eq_some_getLast hne]; rfl
  have hs : s.2.dropLast ++ [s.2.getLast hne] = s.2 := List.dropLast_concat_getLast hne
  have F := fold_fi (h := s.2.getLast?.getD "") ws (s.1, s.2.dropLast)
  unfold rTurn
  rw [hl] at F ⊢
  generalize ws.foldl (rStep (s.2.getLast hne)) (s.1, s.2.dropLast) = s' at F ⊢
  have hh : s.2.getLast hne = t ∨ s.2.getLast hne ∈ s.1 := i.edge _ (List.getLast_mem hne)
  refine ⟨fun x hx => ?_, fun x hx => ?_, fun x hx hn w hw e => ?_⟩
  · rcases F.n x hx with q | ⟨_, w, hw, e1, e2⟩
    · exact i.sound x q
    · rw [← e2]
      rcases hh with hh | hh
      · exact .one hw (e1.trans hh)
      · exact .more (e1 ▸ i.sound _ hh) hw
  · rcases F.k x hx with q | q
    · rcases i.edge x (List.dropLast_subset _ q) with z | z
      · exact .inl z
      · exact .inr (F.f x z)
    · exact .inr q
  · by_cases eh : x = s.2.getLast hne
    · exact F.c w hw (e.trans eh)
    · have hx' : x = t ∨ x ∈ s.1 := by
        rcases hx with z | z
        · exact .inl z
        · rcases F.n x z with q | ⟨q, _⟩
          · exact .inr q
          · exact absurd q hn
      refine F.f _ (i.closed x hx' (fun z => ?_) w hw e)
      rw [← hs] at z
      rcases List.mem_append.mp z with z | z
      · exact hn (F.e x z)
      · exact eh (List.mem_singleton.mp z)
theorem iter_rc {ws : List Wire} {t : Str} : ∀ (n : Nat) (s : FE), RC ws t s → RC ws t (iterW goFE (rTurn ws) n s)
  | 0, s, i => i
  | n + 1, s, i => by
    unfold iterW
    split
    · rename_i g
      exact iter_rc n _ (rTurn_rc i g)
    · exact i
theorem ri_start {ws : List Wire} {t : Str} : RI ws ([], [t]) := ⟨by
  have : left ws [] ≤ ws.length := List.countP_le_length
  simpa using this, by simp⟩
theorem rc_start {ws : List Wire} {t : Str} : RC ws t ([], [t]) where
  sound := fun _ z => absurd z (List.not_mem_nil)
  edge := fun x hx => .inl (List.mem_singleton.mp hx)
  closed := fun x hx hn => by
    rcases hx with rfl | z
    · exact absurd (List.mem_singleton.mpr rfl) hn
    · cases z
theorem rc_end {ws : List Wire} {t : Str} {s : FE} (i : RC ws t s) (g : goFE s = false) {x : Str} : x ∈ s.1 ↔ Reach ws t x := by
  have he : s.2 = [] := by
    unfold goFE at g
    cases e : s.2 with
    | nil => rfl
    | cons a l => rw [e] at g; cases g
  refine ⟨i.sound x, fun h => ?_⟩
  have nn : ∀ y, y ∉ s.2 := fun y hy => by rw [he] at hy; cases hy
  induction h with
  | one hw e => exact i.closed _ (.inl e) (nn _) _ hw rfl
  | more h hw ih => exact i.closed _ (.inr ih) (nn _) _ hw rfl
end Sp

/-! Sp4: drawn sheets; sorted names. -/
namespace Sp
open PySem L2 Fd
theorem dRow_inj {a b : Row} (h : dRow a = dRow b) : a = b := by
  unfold dRow at h
  injection h with h
  injection h with h1 h2
  injection h2 with h2
  injection h1 with h1
  injection h2 with h2
  exact Prod.ext h1 h2
theorem mem_rowsFor {ws : List Wire} {n : Str} (hw : ws.length ≤ 20) {r : Row} : r ∈ rowsFor ws n ↔ (n, r) ∈ ws := by
  have e := (rowsFor_ok ws n hw).1
  have sp := dedup_spec (allA_rows ((ws.filter fun w => w.1 == n).map fun w => w.2))
  have h1 : r ∈ rowsFor ws n ↔ dRow r ∈ (rowsFor ws n).map dRow := ⟨fun h => List.mem_map_of_mem h, fun h => by
    obtain ⟨q, hq, e⟩ := List.mem_map.mp h
    exact dRow_inj e ▸ hq⟩
  rw [h1, e, (isort_perm _).mem_iff, sp.2]
  constructor
  · intro h
    obtain ⟨q, hq, e⟩ := List.mem_map.mp h
    cases dRow_inj e
    obtain ⟨w, hw, rfl⟩ := List.mem_map.mp hq
    obtain ⟨h1, h2⟩ := List.mem_filter.mp hw
    have : w.1 = n := by simpa using h2
    rw [← this]; exact h1
  · intro h
    exact List.mem_map_of_mem (List.mem_map.mpr ⟨(n, r), List.mem_filter.mpr ⟨h, by simp⟩, rfl⟩)
/-- names, sorted -/
def srt (l : List Str) : List Str := (isort (l.map D.str)).map unStr
theorem srt_map (l : List Str) : (srt l).map D.str = isort (l.map D.str) := names_ok l
theorem mem_srt {l : List Str} {x : Str} : x ∈ srt l ↔ x ∈ l := by
  have h1 : x ∈ srt l ↔ D.str x ∈ (srt l).map D.str := ⟨fun h => List.mem_map_of_mem h, fun h => by
    obtain ⟨q, hq, e⟩ := List.mem_map.mp h
    cases e; exact hq⟩
  rw [h1, srt_map, (isort_perm _).mem_iff]
  exact ⟨fun h => by obtain ⟨q, hq, e⟩ := List.mem_map.mp h; cases e; exact hq, fun h => List.mem_map_of_mem h⟩
theorem srt_len (l : List Str) : (srt l).length = l.length := by
  unfold srt
  rw [List.length_map, (isort_perm _).length_eq, List.length_map]
theorem planFor_names (ts : List Str) (ws : List Wire) : (planFor ts ws).map (·.1) = srt ts := by
  unfold planFor srt
  rw [List.map_map]
  exact (List.map_congr_left fun _ _ => rfl).trans (List.map_id _)
theorem mem_wires {ts : List Str} {ws : List Wire} (hw : ws.length ≤ 20) {w : Wire} : w ∈ wiresOf (planFor ts ws) ↔ w ∈ ws ∧ w.1 ∈ ts := by
  unfold wiresOf
  constructor
  · intro h
    obtain ⟨c, hc, h⟩ := List.mem_flatMap.mp h
    obtain ⟨r, hr, rfl⟩ := List.mem_map.mp h
    have hc' : c.1 ∈ srt ts := by rw [← planFor_names ts ws]; exact List.mem_map_of_mem hc
    unfold planFor at hc
    obtain ⟨n, hn, rfl⟩ := List.mem_map.mp hc
    exact ⟨(mem_rowsFor hw).mp hr, mem_srt.mp hc'⟩
  · rintro ⟨h1, h2⟩
    have hn : w.1 ∈ srt ts := mem_srt.mpr h2
    refine List.mem_flatMap.mpr ⟨(w.1, rowsFor ws w.1), List.mem_map.mpr ⟨w.1, hn, rfl⟩, List.mem_map.mpr ⟨w.2, (mem_rowsFor hw).mpr h1, rfl⟩⟩
/-- a sheet whose asks are for its columns -/
structure Sheet (p : List Col) : Prop where
  ok : PlanOk p
  cl : ∀ w ∈ wiresOf p, w.2.1 ∈ p.map (·.1)
theorem wire_src {p : List Col} {w : Wire} (h : w ∈ wiresOf p) : w.1 ∈ p.map (·.1) := by
  unfold wiresOf at h
  obtain ⟨c, hc, h⟩ := List.mem_flatMap.mp h
  obtain ⟨r, _, rfl⟩ := List.mem_map.mp h
  exact List.mem_map_of_mem hc
theorem planFor_sheet {ts : List Str} {ws : List Wire} (nd : ts.Nodup) (hl : ts.length ≤ 10) (hw : ws.length ≤ 20) (cl : ∀ w ∈ ws, w.2.1 ∈ ts) : Sheet (planFor ts ws) := ⟨planFor_ok nd hl hw, fun w h => by
  rw [planFor_names]
  exact mem_srt.mpr (cl w ((mem_wires hw).mp h).1)⟩
/-! ### no name is found twice -/
theorem rStep_nd {h : Str} {s : FE} {w : Wire} (n : s.1.Nodup) : (rStep h s w).1.Nodup := by
  unfold rStep
  split
  · rename_i c
    have c := (Bool.and_eq_true_iff.mp c).2
    refine List.nodup_append.mpr ⟨n, by simp, fun a ha b hb e => ?_⟩
    cases List.mem_singleton.mp hb
    have : (s.1.any fun y => y == w.2.1) = true := any_mem.mpr (e ▸ ha)
    rw [this] at c
    cases c
  · exact n
theorem fold_nd {h : Str} : ∀ (vs : List Wire) (s : FE), s.1.Nodup → (vs.foldl (rStep h) s).1.Nodup
  | [], _, n => n
  | _ :: vs, s, n => fold_nd vs _ (rStep_nd n)
theorem iter_nd {ws : List Wire} : ∀ (n : Nat) (s : FE), s.1.Nodup → (iterW goFE (rTurn ws) n s).1.Nodup
  | 0, _, h => h
  | n + 1, s, h => by
    unfold iterW
    split
    · exact iter_nd n _ (fold_nd ws _ h)
    · exact h
theorem found_nd (n : Nat) (ws : List Wire) (t : Str) : (found n ws t).Nodup := iter_nd n _ List.nodup_nil
theorem Reach.last {ws : List Wire} {a b : Str} (h : Reach ws a b) : ∃ w ∈ ws, w.2.1 = b := by
  cases h with
  | one hw _ => exact ⟨_, hw, rfl⟩
  | more _ hw => exact ⟨_, hw, rfl⟩
theorem sortSet_strs {l : List Str} (hl : l.length < 64) : sortSetD (.lst (l.map D.str)) = some (.tmp (.lst (isort (dedup (l.map D.str))))) := by
  have k : keysOkB (l.map D.str) = true := by
    unfold keysOkB
    rw [Bool.or_eq_true]
    left
    rw [List.all_eq_true]
    intro d hd
    obtain ⟨r, _, rfl⟩ := List.mem_map.mp hd
    rfl
  show (if _ then _ else _) = _
  rw [if_pos ⟨k, sortOk_strs l, by rw [List.length_map]; omega⟩]
theorem nice_names {n : Nat} {l : List Str} (h : l.length ≤ 100000) : Nice (n + 2) (.tup (l.map D.str)) := ⟨by simpa using h, fun d hd => by
  obtain ⟨r, _, rfl⟩ := List.mem_map.mp hd
  trivial⟩
end Sp

/-! Fd17: tuple(text). -/
namespace Fd
open PySem PySem.Spec PyProof.Rows L2
theorem meets_tuple_str (x : Str) (t : Tok) (hsz : x.cps.size ≤ sizeLine) :
    Meets (Builtin.«tuple.__new__» ⟨[.type "tuple", .str x t], []⟩)
      (fun A R s => A.handled = none ∧ ∀ (s' : Shared) (acc : Array Value), (∀ b o, s.heap.get? b = some o → s'.heap.get? b = some o) → s'.gens = s.gens → s'.drawn = s.drawn → s'.os = s.os → ItemsOf (SignAt x) acc x.cps.size → R (.ok (.ret (.ref s'.heap.objs.size))) { s' with heap := s'.heap.push { cls := .type "tuple", data := .seq acc } }) :=
  .of_wp fun prog w A R s h => by
    obtain ⟨hp, g, d, tk, os⟩ := s; obtain ⟨hh, h⟩ := h
    have hsub := sub_tuple_self
    have hinit := init_tuple_lookup
    have hmh := madeHere_tuple
    have hT : Shared.TypeIs ⟨hp, g, d, tk, os⟩ (.str x t) "str" := rfl
    have hh1 : A.in1.handled = none := hh
    wp_walk using wpAny_typeOf hT, wpAny_collect_str (hn := hsz) hh1 x t
    intro s' acc k e1 e2 e3 hi
    show wpAny _ _ (Builtin.Tuple.tupleExact acc.toList.toArray >>= fun v => PySem.ret v) _ _ _
    unfold Builtin.Tuple.tupleExact
    have e : acc.toList.toArray = acc := by simp
    refine wpAny_bind (wpAny_newObj_type ?_ (by show acc.toList.toArray.size ≤ sizeLine; rw [e, hi.1]; exact hsz))
    refine wpAny_pure ⟨_, rfl, ?_⟩
    rw [e]
    exact h s' acc k e1 e2 e3 hi
theorem call_tuple_str {prog : Program} {w : World} {A : Around} {E : Value → Shared → Prop} {s : Shared} {Q : Value → Shared → Prop} (x : Str) (t : Tok) (hsz : x.cps.size ≤ sizeLine) (hh : A.handled = none)
    (h : ∀ (s' : Shared) (acc : Array Value), (∀ b o, s.heap.get? b = some o → s'.heap.get? b = some o) → s'.gens = s.gens → s'.drawn = s.drawn → s'.os = s.os → ItemsOf (SignAt x) acc x.cps.size → Q (.ref s'.heap.objs.size) { s' with heap := s'.heap.push { cls := .type "tuple", data := .seq acc } }) :
    wpAny (model prog w) A (call (.type "tuple") [.str x t]) Q E s :=
  callType_new F.called_tuple (by decide) (F.typeCall_tuple_1 _) (F.newCall_tuple_1 _) (fun obj => F.args_object_init_2 obj _) F.entry_tuple_new
    (meets_tuple_str x t hsz) ⟨hh, fun s' acc k e1 e2 e3 hi => ⟨⟨_, Heap.get?_push_size _ rfl, rfl⟩, h s' acc k e1 e2 e3 hi⟩⟩
theorem vals_signs {x : Str} {acc : Array Value} (h : ItemsOf (SignAt x) acc x.cps.size) : Vals (x.cps.toList.map fun c => V.str ⟨#[c]⟩) acc.toList := by
  have gen : ∀ (cs : List Nat) (us : List Value), cs.length = us.length → (∀ (j : Nat) (c : Nat) (u : Value), cs[j]? = some c → us[j]? = some u → ∃ t, u = Value.str ⟨#[c]⟩ t) → Vals (cs.map fun c => V.str ⟨#[c]⟩) us := by
    intro cs
    induction cs with
    | nil => intro us hl _; cases us with | nil => exact .nil | cons _ _ => cases hl
    | cons c cs ih =>
      intro us hl hk
      cases us with
      | nil => cases hl
      | cons u us => exact .cons (hk 0 c u rfl rfl) (ih us (by simpa using hl) fun j c u h1 h2 => hk (j + 1) c u (by simpa using h1) (by simpa using h2))
  refine gen x.cps.toList acc.toList (by simpa using h.1.symm) fun j c u h1 h2 => ?_
  obtain ⟨c', t, e1, e2⟩ := h.2 j u (by simpa using h2)
  have h1' : x.cps[j]? = some c := by simpa using h1
  rw [h1'] at e1
  cases e1
  exact ⟨t, e2⟩
section
variable {X : Cx}
theorem cr_tupS (hc : X.calm = true) : CallR X (.type "tuple") (fun xs H Q => ∃ x : Str, xs = [.str x] ∧ x.cps.size ≤ sizeLine ∧ ∀ l, H l = none → Q (.ref l) (upd H l (.tup (x.cps.toList.map fun c => V.str ⟨#[c]⟩)))) := by
  intro pins s σ H xs us Q I r h
  obtain ⟨x, rfl, hz, q⟩ := h
  obtain ⟨u, rfl, t, rfl⟩ := vals1 r
  refine call_tuple_str x t hz (I.ok.hd hc) fun s' acc k e1 e2 e3 hi => ?_
  have es : s' = { s with heap := s'.heap, toks := s'.toks } := by cases s'; cases s; cases e1; cases e2; cases e3; rfl
  have I1 : Inv X pins σ H { s with heap := s'.heap, toks := s'.toks } := I.kept (t' := s'.toks) k
  have hl : acc.toList.length ≤ sizeLine := by rw [Array.length_toList, hi.1]; exact hz
  have I2 : Inv X pins σ (upd H s'.heap.objs.size (.tup (x.cps.toList.map fun c => V.str ⟨#[c]⟩))) { s with heap := s'.heap.push { cls := .type "tuple", data := .seq acc }, toks := s'.toks } :=
    I1.laid (t' := s'.toks) (fun b o e => Heap.get?_push_of_some _ e) (Nat.le_refl _) (show ObjOk X.prog X.w _ _ _ (.tup _) from ⟨by rw [List.length_map, Array.length_toList]; exact hz, acc.toList, vals_signs hi, by rw [Array.toArray_toList]; exact PyProof.Rows.IsTup.new _ _⟩)
  rw [es]
  exact ⟨.ref s'.heap.objs.size, _, I2, rfl, q _ (I1.hok.fresh (Nat.le_refl _))⟩
end
def tupSD : List D → Option RV
  | [.str x] => if x.cps.size ≤ 1000 then some (.val (.tup (signs x))) else none
  | _ => none
theorem good_tupS {K : PySem.W.Frag} : GoodL K (fun xs H Q => ∃ x : Str, xs = [.str x] ∧ x.cps.size ≤ sizeLine ∧ ∀ l, H l = none → Q (.ref l) (upd H l (.tup (x.cps.toList.map fun c => V.str ⟨#[c]⟩)))) tupSD := by
  intro M H vs ds res Q dm rs e q
  unfold tupSD at e
  split at e
  · rename_i x
    split at e
    · rename_i hz
      cases e
      obtain ⟨v, rfl, h⟩ := one_of rs
      obtain ⟨rfl, hs⟩ : v = .str x ∧ PyData.strOk x = true := by
        rcases h with h | ⟨_, _, _, z⟩
        · cases h with | str _ z => exact ⟨rfl, z⟩
        · exact z.elim
      refine ⟨x, rfl, le_line hz, fun l hl => q.tup dm ?_ hl⟩
      have al : ∀ cs : List Nat, (∀ c ∈ cs, PyData.strOk ⟨#[c]⟩ = true) → IsAll M K H (cs.map fun c => V.str ⟨#[c]⟩) (cs.map fun c => D.str ⟨#[c]⟩) := by
        intro cs
        induction cs with
        | nil => intro _; exact .nil
        | cons c cs ih => intro hc; exact .cons (.str _ (hc c (by simp))) (ih fun c h => hc c (by simp [h]))
      refine al _ fun c hc => ?_
      unfold PyData.strOk at hs ⊢
      rw [Array.all_eq_true_iff_forall_mem] at hs
      simpa using hs c (by simpa using hc)
    · cases e
  · cases e
end Fd

/-! Fd18: list.remove of data. -/
namespace Fd
open PySem L2
mutual
theorem plain_py : ∀ d : D, d.pl = true → d.py.plain = true
  | .non, _ => rfl
  | .bl _, _ => rfl
  | .int _, _ => rfl
  | .str _, _ => rfl
  | .tup ds, h => plain_pyAll ds h
  | .lst ds, h => plain_pyAll ds h
  | .dK _, h => nomatch h
  | .dT _, h => nomatch h
  | .scr _, h => nomatch h
  | .kt _, h => nomatch h
theorem plain_pyAll : ∀ ds : List D, D.plAll ds = true → PyData.plainAll (D.pyAll ds) = true
  | [], _ => rfl
  | d :: ds, h => by
    have h := Bool.and_eq_true_iff.mp (show (d.pl && D.plAll ds) = true from h)
    show (d.py.plain && PyData.plainAll (D.pyAll ds)) = true
    rw [plain_py d h.1, plain_pyAll ds h.2]
    rfl
end
def rRemD (K : PySem.W.Frag) : V → List V → Hp → VK → Prop := fun x xs H Q => ∃ (l : Addr) (ys : List V) (y : V) (ds : List PyData) (d : PyData) (j : Nat), x = .ref l ∧ xs = [y] ∧ H l = some (.lst ys) ∧ DpAll K H ys ds ∧ Dp K H y d ∧ PyData.plainAll ds = true ∧ d.plain = true ∧ min (PyData.depthAll ds) d.depth ≤ 64 ∧ SeqAt.dataPlace ds d = some j ∧ Q .non (upd H l (.lst (ys.eraseIdx j)))
section
variable {X : Cx}
theorem Paired.erase {xs : List V} {us : List Value} (h : Vals xs us) (j : Nat) : Vals (xs.eraseIdx j) (us.eraseIdx j) := h.eraseIdx j
theorem mt_remD (hu : X.A.units + 100 < cLine) : MtR X "list.remove" (rRemD X.K) := by
  intro pins s σ H x xs v us Q I rx rxs h
  obtain ⟨l, ys, y, ds, d, j, rfl, rfl, hH, da, dy, p1, p2, mn, hp, q⟩ := h
  cases rx
  obtain ⟨u, rfl, ru⟩ := rxs.one
  obtain ⟨z, its, n, r, hl, e⟩ := I.lstM hH
  obtain ⟨as, r1⟩ := Dp.readsAll I ds ys its da r
  obtain ⟨bs, r2⟩ := Dp.reads I d y u dy ru
  have il : s.heap.IsList l its.toArray := ⟨_, e, rfl, _, rfl⟩
  refine SeqAt.remove_list_data (j := j) il (by simpa using r1) r2 p1 p2 (by omega) hp (by rw [List.size_toArray]; omega) ?_
  refine ⟨.non, _, I.lset (its' := its.eraseIdx j) (t' := s.toks) hH e ?_ (Paired.erase r j) ?_, rfl, q⟩
  · show its.toArray.eraseIdxIfInBounds j = (its.eraseIdx j).toArray
    rw [List.eraseIdxIfInBounds_toArray]
  · have := List.length_eraseIdx_le ys j
    omega
end
def remG : List D → List D → Option (List D × D)
  | cs, [d] => if D.plAll cs = true ∧ d.pl = true ∧ min (PyData.depthAll (D.pyAll cs)) d.dep ≤ 64 then (cs.findIdx? fun y => PyData.eqv y.py d.py).map fun j => (cs.eraseIdx j, .non) else none
  | _, _ => none
theorem pyAll_map : ∀ ds : List D, D.pyAll ds = ds.map D.py
  | [] => rfl
  | d :: ds => by show d.py :: D.pyAll ds = _; rw [pyAll_map ds]; rfl
theorem good_rem {K : PySem.W.Frag} : GoodM K (rRemD K) remG := by
  intro M H a xs cs vs ds es e Q h1 h2 h3 hg q
  match ds, h3, hg with
  | [d], h3, hg =>
    cases h3 with
    | cons x y =>
      cases y
      have hg : (if D.plAll cs = true ∧ d.pl = true ∧ min (PyData.depthAll (D.pyAll cs)) d.dep ≤ 64 then (cs.findIdx? fun y => PyData.eqv y.py d.py).map (fun j => (cs.eraseIdx j, D.non)) else none) = some (es, e) := hg
      split at hg
      · rename_i c
        cases hf : cs.findIdx? fun y => PyData.eqv y.py d.py with
        | none => rw [hf] at hg; cases hg
        | some j =>
          rw [hf] at hg
          cases hg
          refine ⟨a, xs, _, D.pyAll cs, d.py, j, rfl, rfl, h1, (IsAll.dp cs h2 c.1).1, (Is.dp d x c.2.1).1, plain_pyAll cs c.1, plain_py d c.2.1, c.2.2, ?_, q .non _ (h2.erase j) .non⟩
          unfold SeqAt.dataPlace
          rw [pyAll_map, List.findIdx?_map]
          exact hf
      · cases hg
end Fd

/-! Fd19: xs.extend(t), t a tuple. -/
namespace Fd
open PySem PySem.AutoSeq1 L2
theorem list_extend_tup (l : Addr) (items : Array Value) (n : Nat) (b : Addr) (items2 : Array Value) (n2 : Nat) (dd : Option Addr) (sl : Array (Option Value)) (hs0 : ¬(!items.isEmpty && Builtin.List.listTooLong (items.size + items2.size)) = true) (hs1 : items.size ≤ sizeLine) (hs2 : items.size + items2.size ≤ sizeLine + 1) :
    Meets (Builtin.«list.extend» ⟨[.ref l, .ref b], []⟩) (fun _ R s => s.heap.get? l = some { cls := .type "list", dict := none, data := .seq items n, slots := #[] } ∧ s.heap.get? b = some { cls := .type "tuple", dict := dd, data := .seq items2 n2, slots := sl } ∧ R (.ok (.ret Value.none)) { s with heap := s.heap.update l (Obj.mapSeq fun x => x ++ items2), toks := s.toks }) :=
  .of_wp fun prog w A R s h => by
    obtain ⟨hp, g, d, tk, os⟩ := s; obtain ⟨hl, hb, h⟩ := h; have f1 := idx_int; have f2 := sub_tuple_tuple; have f3 := sub_list_list; have f4 := sub_tuple_list; have f5 := sub_list_tuple;
    have hz' : (items ++ items2).size ≤ sizeLine + 1 := by rw [Array.size_append]; exact hs2
    wp_walk using (wpAny_updateSeq hl rfl (hz := hs1) (_hz' := hz')), wpAny_loadPart' hl, wpAny_loadPart' hb; exact ⟨_, rfl, h⟩
def rExtT (K : PySem.W.Frag) : V → List V → Hp → VK → Prop := fun x vs H Q => ∃ l b xs zs, x = .ref l ∧ vs = [.ref b] ∧ H l = some (.lst xs) ∧ SqT K H b zs ∧ xs.length + zs.length ≤ sizeLine ∧ Q .non (upd H l (.lst (xs ++ zs)))
theorem mt_extT {X : Cx} : MtR X "list.extend" (rExtT X.K) := by
  intro pins s σ H x vs v us Q I rx rv h
  obtain ⟨l, b, xs, zs, rfl, rfl, hH, hB, hz, q⟩ := h
  cases rx
  obtain ⟨u, rfl, ru⟩ := rv.one
  cases ru
  obtain ⟨z, its, n, r, hl, e⟩ := I.lstM hH
  obtain ⟨its2, r2, ⟨⟨cls, dd, data, sl⟩, e2, hc, n2, hd⟩, z2⟩ := I.tuple hB
  simp only at hc hd
  subst hc hd
  have hl2 := r2.length
  have hsz : its.toArray.size + its2.toArray.size ≤ sizeLine := by rw [List.size_toArray, List.size_toArray]; omega
  have hlong : ¬ (!its.toArray.isEmpty && Builtin.List.listTooLong (its.toArray.size + its2.toArray.size)) = true := by
    rw [notLongL hsz, Bool.and_false]
    exact Bool.false_ne_true
  refine call_meets F.slot_list_extend ⟨_, e, rfl⟩ F.entry_list_extend (F.args_list_extend_2 _ _)
    (list_extend_tup l its.toArray n b its2.toArray n2 dd sl hlong (by rw [List.size_toArray]; omega) (by omega)) ⟨e, e2, ?_⟩
  refine ⟨.non, _, I.lset (its' := its ++ its2) hH e (by simp) (r.append r2) ?_, rfl, q⟩
  rw [List.length_append]
  omega
def ext2G : List D → List D → Option (List D × D)
  | cs, [.lst ds] => if cs.length + ds.length ≤ 1000000 then some (cs ++ ds, .non) else none
  | cs, [.tup ds] => if cs.length + ds.length ≤ 1000000 then some (cs ++ ds, .non) else none
  | _, _ => none
theorem mt_ext2 {X : Cx} : MtR X "list.extend" (fun x vs H Q => rExtend x vs H Q ∨ rExtT X.K x vs H Q) := MtR_or mt_extend mt_extT
theorem good_ext2 {K : PySem.W.Frag} : GoodM K (fun x vs H Q => rExtend x vs H Q ∨ rExtT K x vs H Q) ext2G := by
  intro M H a xs cs vs ds es e Q h1 h2 h3 hg q
  match ds, h3, hg with
  | [.lst d], h3, hg => exact .inl (good_ext M H a xs cs vs [.lst d] es e Q h1 h2 h3 hg q)
  | [.tup d], h3, hg =>
    cases h3 with
    | cons x y =>
      cases y
      have hg : (if cs.length + d.length ≤ 1000000 then some (cs ++ d, D.non) else none) = some (es, e) := hg
      split at hg
      · cases hg
        have := mil_line
        have := h2.length
        obtain ⟨b, zs, rfl, hb, hz⟩ := RD.tup (.inl x)
        have := hz.length
        exact .inr ⟨a, b, xs, zs, rfl, rfl, h1, SqT.of hb, by omega, q .non _ (h2.append hz) .non⟩
      · cases hg
end Fd

/-! Fd20: a, b, .. = x, y, .. with any names of the def, by a tuple that nobody keeps. -/
namespace Fd
open PySem L2
def stoAll : List Nat → List RV → Ev → Option Ev
  | [], [], ρ => some ρ
  | i :: is, r :: rs, ρ => (sto i r ρ).bind (stoAll is rs)
  | _, _, _ => none
def parN (is : List Nat) (fs : M (List RV)) : M Fl := bnd fs fun rs ρ => runT (stoAll is rs ρ)
def gNames : List Nat → L2.TGs
  | [] => gNil
  | i :: is => gCons (gName i) (gNames is)
theorem stoAll_len : ∀ {is : List Nat} {rs : List RV} {ρ ρ' : Ev}, stoAll is rs ρ = some ρ' → rs.length = is.length
  | [], [], _, _, _ => rfl
  | i :: is, r :: rs, ρ, ρ', h => by
    obtain ⟨ρ1, _, h2⟩ := Option.bind_eq_some_iff.mp (show (sto i r ρ).bind (stoAll is rs) = some ρ' from h)
    rw [List.length_cons, List.length_cons, stoAll_len h2]
  | [], _ :: _, _, _, h => nomatch h
  | _ :: _, [], _, _, h => nomatch h
theorem rvrs_len {K : PySem.W.Frag} {M : AP} {H : Hp} {σ : St} : ∀ {vs : List V} {rs : List RV}, RVRs K M H σ vs rs → vs.length = rs.length
  | [], [], _ => rfl
  | _ :: _, _ :: _, h => by rw [List.length_cons, List.length_cons, rvrs_len h.2]
  | [], _ :: _, h => h.elim
  | _ :: _, [], h => h.elim
def nbR : RV → Bool
  | .bor _ => false
  | _ => true
theorem sto_nb {i : Nat} {r : RV} {ρ ρ' : Ev} (h : sto i r ρ = some ρ') : nbR r = true := by
  cases r with
  | val _ => rfl
  | tmp _ => rfl
  | bor k => unfold sto at h; split at h <;> (try split at h) <;> cases h
theorem rvr_set {K : PySem.W.Frag} {M : AP} {H : Hp} {σ σ' : St} {v : V} {r : RV} (n : nbR r = true) (h : RVR K M H σ v r) : RVR K M H σ' v r := by
  cases r with
  | val d => exact h
  | tmp d => exact h
  | bor k => cases n
theorem rvrs_set {K : PySem.W.Frag} {M : AP} {H : Hp} {σ σ' : St} : ∀ {is : List Nat} {vs : List V} {rs : List RV} {ρ ρ' : Ev}, stoAll is rs ρ = some ρ' → RVRs K M H σ vs rs → RVRs K M H σ' vs rs
  | _, [], [], _, _, _, h => h
  | i :: is, v :: vs, r :: rs, ρ, ρ', e, h => by
    obtain ⟨ρ1, e1, e2⟩ := Option.bind_eq_some_iff.mp (show (sto i r ρ).bind (stoAll is rs) = some ρ' from e)
    exact ⟨rvr_set (sto_nb e1) h.1, rvrs_set e2 h.2⟩
  | [], _ :: _, _ :: _, _, _, e, _ => nomatch e
  | _, [], _ :: _, _, _, _, h => h.elim
  | _, _ :: _, [], _, _, _, h => h.elim
theorem adjs_out {b : Addr} : ∀ {F0 G : AP} {vs : List V} {rs : List RV}, (∀ x, F0 x → G x) → G b → ¬ F0 b → NotFs G vs rs → ¬ adjs F0 vs rs b
  | _, _, [], [], _, _, n, _ => n
  | F0, G, w :: vs, q :: rs, s, g, n, h => by
    show ¬ adjs (adj F0 w q) vs rs b
    refine adjs_out (G := adj G w q) (adj_mono s) (adj_sub b g) ?_ h.2
    cases q with
    | tmp d =>
      rintro (f | f)
      · exact n f
      · exact h.1 b f g
    | val d => exact n
    | bor d => exact n
  | _, _, [], _ :: _, _, _, _, h => h.elim
  | _, _, _ :: _, [], _, _, _, h => h.elim
theorem sto_rel {K : PySem.W.Frag} {L : Lc} {M1 : AP} {H1 : Hp} {F0 : AP} {i : Nat} {r : RV} {ρ ρ' : Ev} {σ : St} {v : V} (l : Rel K L (adj F0 v r) M1 H1 ρ σ) (q : RVR K M1 H1 σ v r) (n : NotF F0 v r) (e : sto i r ρ = some ρ') : Rel K L F0 M1 H1 ρ' (σ.set i (some v)) := by
  unfold sto at e
  cases hs : ρ[i]? with
  | none => rw [hs] at e; cases e
  | some s =>
    rw [hs] at e
    dsimp only at e
    split at e
    · cases r with
      | val d => cases e; exact l.setVal hs q
      | tmp d =>
        cases e
        obtain ⟨a, rfl, m, c⟩ := q
        exact l.setOwn adj_sub (.inr rfl) (n a rfl) hs m c
      | bor k => cases e
    · cases e
theorem adjs_swap {v : V} {r : RV} : ∀ {F0 : AP} (vs : List V) (rs : List RV), ∀ x, adj (adjs F0 vs rs) v r x → adjs (adj F0 v r) vs rs x := by
  intro F0 vs rs x hx
  cases r with
  | val d => exact hx
  | bor d => exact hx
  | tmp d =>
    rcases hx with hx | hx
    · exact adjs_mono vs rs adj_sub x hx
    · exact adjs_sub vs rs x (.inr hx)
theorem run_names {K : PySem.W.Frag} {L : Lc} {M1 : AP} {H1 : Hp} {Q : St → Hp → Prop} : ∀ (is : List Nat) (rs : List RV) (vs : List V) (F0 : AP) (ρ ρ' : Ev) (σ : St), Rel K L (adjs F0 vs rs) M1 H1 ρ σ → RVRs K M1 H1 σ vs rs → NotFs F0 vs rs → stoAll is rs ρ = some ρ' → (∀ σ', Rel K L F0 M1 H1 ρ' σ' → Q σ' H1) → gNames is vs σ H1 Q
  | [], [], [], _, _, _, σ, l, _, _, e, q => by cases e; exact ⟨rfl, q σ l⟩
  | i :: is, r :: rs, v :: vs, F0, ρ, ρ', σ, l, rv, n, e, q => by
    obtain ⟨ρ1, e1, e2⟩ := Option.bind_eq_some_iff.mp (show (sto i r ρ).bind (stoAll is rs) = some ρ' from e)
    refine ⟨v, vs, rfl, ?_⟩
    have nv : NotF (adjs F0 vs rs) v r := by
      cases r with
      | val d => trivial
      | bor d => trivial
      | tmp d => exact fun b hb => adjs_out (G := adj F0 v (.tmp d)) adj_sub (.inr hb) (n.1 b hb) n.2
    have l2 : Rel K L (adjs F0 vs rs) M1 H1 ρ1 (σ.set i (some v)) := sto_rel (l.sub (adjs_swap vs rs)) rv.1 nv e1
    exact run_names is rs vs F0 ρ1 ρ' _ l2 (rvrs_set e2 rv.2) (n.2.mono adj_sub) e2 q
  | [], [], _ :: _, _, _, _, _, _, rv, _, _, _ => rv.elim
  | [], _ :: _, _, _, _, _, _, _, _, _, e, _ => nomatch e
  | _ :: _, [], _, _, _, _, _, _, _, _, e, _ => nomatch e
  | _ :: _, _ :: _, [], _, _, _, _, _, rv, _, _, _ => rv.elim
section
variable {X : Cx} {W : WO} {pos p p2 : Pos} {es tgs : List Expr} {k k2 : Nat} {fs : M (List RV)} {is : List Nat}
theorem gs_nm0 : PGs X [] (gNames []) := pgs_nil
theorem gs_nm {x : Str} (i : Nat) (nd : X.N.Nodup) (h2 : PGs X es (gNames is)) (hi : X.N[i]? = some x := by rfl) (hx : Loc X.env.scope x := by first | exact Or.inl rfl | exact Or.inr rfl) (hf : X.fn x = true ∨ X.env.scope.names.lookup x = some .local := by first | exact .inl rfl | exact .inr rfl)
    (hs : (assignEach (.Name x pos :: es) X.env).map (·.2) = assign (.Name x pos) X.env :: (assignEach es X.env).map (·.2) := by rfl) : PGs X (.Name x pos :: es) (gNames (i :: is)) := pgs_cons (pg_name nd hi hx hf) h2 hs
theorem s_parN (hc : X.calm = true) (ha : PA X es (TAof X.K W fs)) (hg : PGs X tgs (gNames is)) (hl : is.length ≤ 1000 := by decide) (hn : (assignEach tgs X.env).length = is.length := by rfl) (hst : (assignEach tgs X.env).findIdx? (·.1) = none := by rfl) (hs : swapsWithSole [.Tuple tgs k p] (.Tuple es k2 p2) pos.line X.env = pure false := by rfl) (hw : swappedStores [.Tuple tgs k p] (.Tuple es k2 p2) X.env = pure none := by rfl)
    (h1 : (assignEach [.Tuple tgs k p] X.env).map (·.2) = [assign (.Tuple tgs k p) X.env] := by rfl) : PS X (.Assign [.Tuple tgs k p] (.Tuple es k2 p2) pos) (TSof X.K W (parN is fs)) := by
  refine PS_weak (ps_asg (pe_tup ha) (pg_tup hc hg hn hst) hs hw h1) fun D σ H hq => ?_
  obtain ⟨L, F, M, ρ, rel, post⟩ := hq
  refine seqL (PF X.K L W D F M H) (fun _ _ z => z.px) id rel post fun rs ρ1 p1 vs M1 H1 e1 l1 q1 n1 => ?_
  have p1 : PF X.K L W D F M H (runT (stoAll is rs ρ1)) := p1
  cases h2 : stoAll is rs ρ1 with
  | none => rw [h2] at p1; exact p1.elim
  | some ρ2 =>
    rw [h2] at p1
    have len : vs.length = is.length := (rvrs_len q1).trans (stoAll_len h2)
    refine ⟨le_line (by omega), fun a ha => ⟨a, vs, rfl, SqT.of upd_same, len, ?_⟩⟩
    have g : Grow M1 H1 M1 (upd H1 a (.tup vs)) := ⟨fun b o hb => by rw [upd_ne (by rintro rfl; rw [ha] at hb; cases hb)]; exact hb, fun _ _ => Iff.rfl, fun b hb => by
      by_cases e : b = a
      · rw [e, upd_same]; exact fun z => nomatch z
      · rw [upd_ne e]; exact l1.dom b hb⟩
    have ev : Evo (adjs F vs rs) M1 H1 M1 (upd H1 a (.tup vs)) := g.evo l1.dom
    refine run_names is rs vs F ρ1 ρ2 σ (l1.grow g) ?_ n1 h2 fun σ2 l2 => p1 σ2 M1 _ (e1.trans ev (adjs_sub vs rs)) l2
    have mv : ∀ {vs' : List V} {rs' : List RV}, RVRs X.K M1 H1 σ vs' rs' → RVRs X.K M1 (upd H1 a (.tup vs)) σ vs' rs' := by
      intro vs'
      induction vs' with
      | nil => intro rs' h; cases rs' with | nil => exact h | cons _ _ => exact h.elim
      | cons v vs' ih =>
        intro rs' h
        cases rs' with
        | nil => exact h.elim
        | cons r rs' =>
          refine ⟨?_, ih h.2⟩
          have hr := h.1
          cases r with
          | val d => exact Is.evo (F := F) (g.evo l1.dom) d hr
          | tmp d =>
            obtain ⟨b, rfl, m, c⟩ := hr
            have ne : b ≠ a := by rintro rfl; exact c.there ha
            exact ⟨b, rfl, m, c.evo (F := F) (g.evo l1.dom) (upd_ne ne)⟩
          | bor j => exact hr
    exact mv q1
end
end Fd

/-! Fp7: a, b, .. = x, y, .. -/
namespace Fd
open PySem L2
def stoSs : List Nat → List RV → List SS → Option (List SS)
  | [], [], S => some S
  | i :: is, r :: rs, S => if frS S i = true then (stoS i r S).bind (stoSs is rs) else none
  | _, _, _ => none
theorem stoSs_ok : ∀ {is : List Nat} {rs : List RV} {S S' : List SS} {ρ : Ev}, Mt S ρ → stoSs is rs S = some S' → ∃ ρ', stoAll is rs ρ = some ρ' ∧ Mt S' ρ'
  | [], [], S, S', ρ, m, e => by cases e; exact ⟨ρ, rfl, m⟩
  | i :: is, r :: rs, S, S', ρ, m, e => by
    have e : (if frS S i = true then (stoS i r S).bind (stoSs is rs) else none) = some S' := e
    by_cases f : frS S i = true
    · rw [if_pos f] at e
      obtain ⟨S1, e1, e2⟩ := Option.bind_eq_some_iff.mp e
      obtain ⟨ρ1, a1, m1⟩ := sto_te m f e1
      obtain ⟨ρ2, a2, m2⟩ := stoSs_ok m1 e2
      exact ⟨ρ2, by show (sto i r ρ).bind _ = _; rw [a1]; exact a2, m2⟩
    · rw [if_neg f] at e; cases e
  | [], _ :: _, _, _, _, _, e => nomatch e
  | _ :: _, [], _, _, _, _, e => nomatch e
section
variable {X : Type} {S S1 : List SS} {r : Res X} {Q : X → Fl → Ev → Prop} {rest : M Fl} {fs : M (List RV)} {is : List Nat} {rs : List RV}
def parNK (is : List Nat) (rs : List RV) : M Unit := fun ρ => match stoAll is rs ρ with
  | some ρ1 => .ok () ρ1
  | none => .bad
theorem z_parN (hh : Go S (bnd fs fun rs => bnd (parNK is rs) fun _ => rest) r Q) : Go S (sq (parN is fs) rest) r Q := hh.eq (by
  unfold sq parN
  rw [bnd_assoc]
  congr 1
  funext q
  funext ρ
  dsimp only [bnd, parNK, runT]
  cases stoAll is q ρ <;> rfl)
theorem z_parNK (S1 : List SS) (e : stoSs is rs S = some S1) (h : Go S1 rest r Q) : Go S (bnd (parNK is rs) fun _ => rest) r Q := .mk fun ρ m => by
  obtain ⟨ρ1, a1, m1⟩ := stoSs_ok m e
  show Lk ((parNK is rs ρ).bnd _) Q r
  unfold parNK
  rw [a1]
  exact h ρ1 m1
end
end Fd

/-! Fd21: max(xs), min(xs) of a list of data. -/
namespace Fd
open PySem L2
def rMM (mx : Bool) (K : PySem.W.Frag) : List V → Hp → VK → Prop := fun vs H Q => ∃ (a : Addr) (ys : List V) (x : PyData) (xs : List PyData), vs = [.ref a] ∧ SqL K H a ys ∧ DpAll K H ys (x :: xs) ∧ PySem.W.AlikeAll (x :: xs) ∧ PyData.depthAll (x :: xs) ≤ 60 ∧
  ∀ (i : Nat) (y : V), ys[i]? = some y → (x :: xs)[i]? = some (if mx then PySem.W.maxD x xs else PySem.W.minD x xs) → Q y H
theorem DpAll_len {K : PySem.W.Frag} {H : Hp} : ∀ {ys : List V} {xs : List PyData}, DpAll K H ys xs → ys.length = xs.length
  | [], [], _ => rfl
  | _ :: _, _ :: _, h => by cases h with | cons _ t => simp [DpAll_len t]
  | [], _ :: _, h => nomatch h
  | _ :: _, [], h => nomatch h
section
variable {X : Cx}
theorem mm_end {pins : List (Addr × Obj)} {σ : St} {H : Hp} {s : Shared} {Q : VK} {ys : List V} {its : List Value} {x : PyData} {xs : List PyData} {as bs : List Addr} {m : PyData} {i : Nat} {v : Value} {h' : Heap} {tk : Nat} (I : Inv X pins σ H s) (rv : Vals ys its) (hr : ReadsAll s.heap its (x :: xs) as) (hv : its[i]? = some v) (r : Reads h' v m bs) (hk : ∀ b o, s.heap.get? b = some o → h'.get? b = some o)
    (q : ∀ (i : Nat) (y : V), ys[i]? = some y → (x :: xs)[i]? = some m → Q y H) : EP X pins σ Q v { s with heap := h', toks := tk } := by
  obtain ⟨cs, r2, hl, _, _⟩ := PySem.W.readsAll_at hr i v hv
  have e := (PySem.Reads.unique (PySem.W.reads_keeps hk r2) m bs r).1
  have hi : i < its.length := (List.getElem?_eq_some_iff.mp hv).1
  have hy : i < ys.length := by rw [rv.length]; exact hi
  obtain ⟨u, hu, ru⟩ := rv.get (List.getElem?_eq_getElem hy)
  rw [hv] at hu
  cases hu
  refine ⟨ys[i], H, I.kept (t' := tk) hk, ru, q i _ (List.getElem?_eq_getElem hy) ?_⟩
  rw [List.getElem?_eq_getElem hl, ← e, List.getD_eq_getElem?_getD, List.getElem?_eq_getElem hl]
  rfl
theorem cr_max1 (hc : X.calm = true) (hu : X.A.units + 100 < cLine) : CallR X (.builtin "max") (rMM true X.K) := by
  intro pins s σ H vs us Q I r h
  obtain ⟨a, ys, x, xs, rfl, hs, da, al, dp, q⟩ := h
  obtain ⟨its, rv, hl, hz⟩ := I.list hs
  rw [Vals.ref1 r]
  obtain ⟨as, hr⟩ := Dp.readsAll I (x :: xs) ys its da rv
  exact PySem.W.max_list_data (I.ok.hd hc) hl.isList (by simpa using hr) al (by omega) fun i v h' tk bs hv r hk => mm_end I rv hr (by simpa using hv) r hk q
theorem cr_min1 (hc : X.calm = true) (hu : X.A.units + 100 < cLine) : CallR X (.builtin "min") (rMM false X.K) := by
  intro pins s σ H vs us Q I r h
  obtain ⟨a, ys, x, xs, rfl, hs, da, al, dp, q⟩ := h
  obtain ⟨its, rv, hl, hz⟩ := I.list hs
  rw [Vals.ref1 r]
  obtain ⟨as, hr⟩ := Dp.readsAll I (x :: xs) ys its da rv
  exact PySem.W.min_list_data (I.ok.hd hc) hl.isList (by simpa using hr) al (by omega) fun i v h' tk bs hv r hk => mm_end I rv hr (by simpa using hv) r hk q
end
/-- the greatest, the least: the first of those -/
def maxF : List D → Option D
  | [] => none
  | d :: ds => some (ds.foldl (fun a y => if dlt a y = true then y else a) d)
def minF : List D → Option D
  | [] => none
  | d :: ds => some (ds.foldl (fun a y => if dlt y a = true then y else a) d)
def mmOk (ds : List D) : Bool := D.plAll ds && ds.all (fun a => ds.all fun b => PySem.W.alike a.py b.py) && decide (PyData.depthAll (D.pyAll ds) ≤ 60) && ds.all fun a => match a with
  | .non => false
  | _ => true
def max1D : List D → Option RV
  | [.lst ds] => if mmOk ds = true then (maxF ds).map .val else none
  | _ => none
def min1D : List D → Option RV
  | [.lst ds] => if mmOk ds = true then (minF ds).map .val else none
  | _ => none
theorem fold_py (f : PyData → PyData → Bool) : ∀ (ds : List D) (d : D), (ds.foldl (fun a y => if f a.py y.py = true then y else a) d).py = (D.pyAll ds).foldl (fun a y => if f a y = true then y else a) d.py
  | [], _ => rfl
  | e :: ds, d => by
    show (ds.foldl _ (if f d.py e.py = true then e else d)).py = (D.pyAll ds).foldl _ (if f d.py e.py = true then e.py else d.py)
    rw [fold_py f ds]
    congr 1
    split <;> rfl
theorem fold_mem {f : D → D → Bool} : ∀ (ds : List D) (d : D), ds.foldl (fun a y => if f a y = true then y else a) d ∈ d :: ds
  | [], d => List.mem_cons_self
  | e :: ds, d => by
    show ds.foldl _ (if f d e = true then e else d) ∈ _
    have := fold_mem (f := f) ds (if f d e = true then e else d)
    rcases List.mem_cons.mp this with h | h
    · rw [h]
      split
      · exact List.mem_cons_of_mem _ List.mem_cons_self
      · exact List.mem_cons_self
    · exact List.mem_cons_of_mem _ (List.mem_cons_of_mem _ h)
theorem py_eq {a b : D} (al : PySem.W.alike a.py b.py = true) (h : a.py = b.py) : a = b := by
  have e1 : dlt a b = false := by
    have := dlt_irrefl b
    unfold dlt at this ⊢
    rw [h]; exact this
  have e2 : dlt b a = false := by
    have := dlt_irrefl b
    unfold dlt at this ⊢
    rw [h]; exact this
  exact dlt_tri al e1 e2
theorem good_mm {K : PySem.W.Frag} {mx : Bool} {M : AP} {H : Hp} {vs : List V} {d : D} {ds : List D} {e : D} {Q : VK} (dm : Dom M H) (rd : RDs M K H vs [.lst (d :: ds)]) (ok : mmOk (d :: ds) = true) (he : e = if mx then ds.foldl (fun a y => if dlt a y = true then y else a) d else ds.foldl (fun a y => if dlt y a = true then y else a) d) (q : ResP K M H (.val e) Q) : rMM mx K vs H Q := by
  unfold mmOk at ok
  simp only [Bool.and_eq_true, List.all_eq_true, decide_eq_true_eq] at ok
  obtain ⟨⟨⟨k1, k2⟩, k3⟩, k4⟩ := ok
  obtain ⟨v, rfl, h⟩ := one_of rd
  obtain ⟨p, xs, rfl, h1, h2⟩ := h.lst
  have em : e ∈ d :: ds := by
    rw [he]
    cases mx with
    | true => exact fold_mem ds d
    | false => exact fold_mem (f := fun a y => dlt y a) ds d
  have ep : e.py = if mx then PySem.W.maxD d.py (D.pyAll ds) else PySem.W.minD d.py (D.pyAll ds) := by
    rw [he]
    cases mx with
    | true => exact fold_py (fun a y => PySem.W.dataLt a y) ds d
    | false => exact fold_py (fun a y => PySem.W.dataLt y a) ds d
  refine ⟨p, xs, d.py, D.pyAll ds, rfl, SqL.of h1, (IsAll.dp (d :: ds) h2 k1).1, ⟨fun a ha b hb => ?_, fun a ha => ?_⟩, k3, fun i y hy hx => ?_⟩
  · have ha : a ∈ (d :: ds).map D.py := by rw [← pyAll_map]; exact ha
    have hb : b ∈ (d :: ds).map D.py := by rw [← pyAll_map]; exact hb
    obtain ⟨a', ha', rfl⟩ := List.mem_map.mp ha
    obtain ⟨b', hb', rfl⟩ := List.mem_map.mp hb
    exact k2 a' ha' b' hb'
  · have ha : a ∈ (d :: ds).map D.py := by rw [← pyAll_map]; exact ha
    obtain ⟨a', ha', rfl⟩ := List.mem_map.mp ha
    have := k4 a' ha'
    cases a' with
    | non => cases this
    | _ => intro z; cases z
  · have hx : (D.pyAll (d :: ds))[i]? = some e.py := by rw [ep]; exact hx
    rw [pyAll_map, List.getElem?_map] at hx
    obtain ⟨d', hd', e2⟩ := Option.map_eq_some_iff.mp hx
    have em' : d' ∈ d :: ds := List.mem_of_getElem? hd'
    have : d' = e := py_eq (k2 d' em' e em) e2
    subst this
    obtain ⟨y', hy', iy⟩ := h2.get hd'
    rw [hy] at hy'
    cases hy'
    exact q.same dm iy
theorem good_max1 {K : PySem.W.Frag} : GoodL K (rMM true K) max1D := by
  intro M H vs ds res Q dm rd e q
  match ds, rd, e with
  | [.lst []], rd, e => unfold max1D at e; simp [maxF] at e
  | [.lst (d :: ds)], rd, e =>
    have e : (if mmOk (d :: ds) = true then (maxF (d :: ds)).map RV.val else none) = some res := e
    split at e
    · rename_i ok
      cases e
      exact good_mm (mx := true) dm rd ok rfl q
    · cases e
theorem good_min1 {K : PySem.W.Frag} : GoodL K (rMM false K) min1D := by
  intro M H vs ds res Q dm rd e q
  match ds, rd, e with
  | [.lst []], rd, e => unfold min1D at e; simp [minF] at e
  | [.lst (d :: ds)], rd, e =>
    have e : (if mmOk (d :: ds) = true then (minF (d :: ds)).map RV.val else none) = some res := e
    split at e
    · rename_i ok
      cases e
      exact good_mm (mx := false) dm rd ok rfl q
    · cases e
end Fd

/-! Fd22: a < b < c. -/
namespace Fd
open PySem L2
def chK (g2 : D → D → Option RV) (fc : M RV) (r2 : RV) : RV → M RV
  | .val (.bl true) => bnd fc fun r3 => fin2 g2 r2 r3
  | .val (.bl false) => ret (.val (.bl false))
  | _ => fail
def chE (g1 g2 : D → D → Option RV) (fa fb fc : M RV) : M RV := bnd fa fun r1 => bnd fb fun r2 => bnd (fin2 g1 r1 r2) (chK g2 fc r2)
section
variable {X : Cx} {W : WO} {a b c : Expr} {fa fb fc : M RV} {pos : Pos}
theorem t_chain {K : PySem.W.Frag} {r r' : R2} {g1 g2 : D → D → Option RV} {σ : St} {H : Hp} {Q : VK} (hg : Good2 K r g1) (hb1 : Bool2 g1) (hg' : Good2 K r' g2) (h : TEof K W (chE g1 g2 fa fb fc) σ H Q) : tChain r r' (TEof K W fa) (TEof K W fb) (TEof K W fc) σ H Q := by
  obtain ⟨L, F, M, ρ, rel, post⟩ := h
  refine seqV (PV K L W σ Q F M H) (fun _ _ z => z) id rel post fun r1 ρ1 p1 v1 M1 H1 e1 l1 q1 n1 => ?_
  refine seqV (PV K L W σ Q (adj F v1 r1) M1 H1) (fun _ _ z => z) id l1 (PV.reb p1 e1 adj_sub) fun r2 ρ2 p2 v2 M2 H2 e2 l2 q2 n2 => ?_
  have p2 : PV K L W σ Q (adj F v1 r1) M1 H1 ((fin2 g1 r1 r2 ρ2).bnd (chK g2 fc r2)) := p2
  unfold fin2 at p2
  cases h1 : r1.dat ρ2 with
  | none => rw [h1] at p2; exact p2.elim
  | some d1 =>
    cases h2 : r2.dat ρ2 with
    | none => rw [h1, h2] at p2; exact p2.elim
    | some d2 =>
      rw [h1, h2] at p2
      dsimp only at p2
      cases h3 : g1 d1 d2 with
      | none => rw [h3] at p2; exact p2.elim
      | some res =>
        rw [h3] at p2
        obtain ⟨k, rfl⟩ := hb1 d1 d2 res h3
        refine hg M2 H2 v1 v2 d1 d2 _ _ l2.dom ((q1.evo e2).rd l2 h1) (q2.rd l2 h2) h3 fun v M' H' gr nr => ?_
        have z : v = .bl k := by
          have nr' : Is M' K H' v (.bl k) := nr
          cases nr'; rfl
        refine ⟨k, z, ?_⟩
        have ge : Evo (adj (adj F v1 r1) v2 r2) M2 H2 M' H' := gr.evo l2.dom
        have l3 := l2.grow gr
        have q3 : RVR K M' H' σ v2 r2 := q2.evo ge
        cases k with
        | false =>
          rw [if_neg (by decide)]
          have p3 : PV K L W σ Q (adj F v1 r1) M1 H1 (.ok (.val (.bl false)) ρ2) := p2
          exact p3 (.bl false) M' H' (e2.trans (gr.evo l2.dom) fun _ y => y) (l3.sub adj_sub) (.bl false) trivial
        | true =>
          rw [if_pos rfl]
          have p3 : PV K L W σ Q (adj F v1 r1) M1 H1 (bnd fc (fun r3 => fin2 g2 r2 r3) ρ2) := p2
          have ee : Evo (adj F v1 r1) M1 H1 M' H' := e2.trans (gr.evo l2.dom) fun _ y => y
          refine seqV (PV K L W σ Q (adj (adj F v1 r1) v2 r2) M' H') (fun _ _ z => z) id l3 (PV.reb p3 ee adj_sub) fun r3 ρ3 p4 v3 M3 H3 e4 l4 q4 n4 => ?_
          unfold fin2 at p4
          cases h4 : r2.dat ρ3 with
          | none => rw [h4] at p4; exact p4.elim
          | some d4 =>
            cases h5 : r3.dat ρ3 with
            | none => rw [h4, h5] at p4; exact p4.elim
            | some d5 =>
              rw [h4, h5] at p4
              dsimp only at p4
              cases h6 : g2 d4 d5 with
              | none => rw [h6] at p4; exact p4.elim
              | some res =>
                rw [h6] at p4
                exact hg' M3 H3 v2 v3 d4 d5 res Q l4.dom ((q3.evo e4).rd l4 h4) (q4.rd l4 h5) h6 (resP p4 l4 adj_sub e4)
def BoolM (f : M RV) : Prop := ∀ ρ r ρ', f ρ = .ok r ρ' → ∃ k, r = .val (.bl k)
theorem test_bool {K : PySem.W.Frag} {f : M RV} {σ : St} {H : Hp} {Q : Bool → Hp → Prop} (hb : BoolM f) (h : TTof K W (tst f) σ H Q) : TEof K W f σ H fun x H1 => ∃ k, x = .bl k ∧ Q k H1 := by
  obtain ⟨L, F, M, ρ, rel, post⟩ := h
  refine ⟨L, F, M, ρ, rel, ?_⟩
  unfold tst bnd at post
  cases e : f ρ with
  | bad => rw [e] at post; exact post
  | exc x ρ1 => rw [e] at post; exact post
  | ok r ρ1 =>
    rw [e] at post
    obtain ⟨k, rfl⟩ := hb ρ r ρ1 e
    have post : PB K L W σ Q F M H (.ok k ρ1) := post
    intro v M' H' ev rl rv nf
    have rv : Is M' K H' v (.bl k) := rv
    cases rv
    exact ⟨k, rfl, post M' H' ev rl⟩
theorem chE_bool {g1 g2 : D → D → Option RV} (hb2 : Bool2 g2) : BoolM (chE g1 g2 fa fb fc) := by
  intro ρ r ρ' e
  unfold chE bnd at e
  cases ea : fa ρ with
  | bad => rw [ea] at e; cases e
  | exc => rw [ea] at e; cases e
  | ok r1 ρ1 =>
    rw [ea] at e
    have e : (fb ρ1).bnd _ = .ok r ρ' := e
    cases eb : fb ρ1 with
    | bad => rw [eb] at e; cases e
    | exc => rw [eb] at e; cases e
    | ok r2 ρ2 =>
      rw [eb] at e
      have e : (fin2 g1 r1 r2 ρ2).bnd (chK g2 fc r2) = .ok r ρ' := e
      cases ef : fin2 g1 r1 r2 ρ2 with
      | bad => rw [ef] at e; cases e
      | exc => rw [ef] at e; cases e
      | ok z ρ3 =>
        rw [ef] at e
        have e : chK g2 fc r2 z ρ3 = .ok r ρ' := e
        unfold chK at e
        split at e
        · have e : (fc ρ3).bnd (fun r3 => fin2 g2 r2 r3) = .ok r ρ' := e
          cases ec : fc ρ3 with
          | bad => rw [ec] at e; cases e
          | exc => rw [ec] at e; cases e
          | ok r3 ρ4 =>
            rw [ec] at e
            have e : fin2 g2 r2 r3 ρ4 = .ok r ρ' := e
            unfold fin2 at e
            split at e
            · split at e
              · rename_i h3
                cases e
                exact hb2 _ _ _ h3
              · cases e
            · cases e
        · cases e; exact ⟨false, rfl⟩
        · cases e
theorem e_chain {op op' : CmpOp} {r r' : R2} {g1 g2 : D → D → Option RV} (ho : OpR X (compareOp op) r) (hg : Good2 X.K r g1) (hb1 : Bool2 g1) (ho' : OpR X (compareOp op') r') (hg' : Good2 X.K r' g2) (ha : PE X a (TEof X.K W fa)) (hb : PE X b (TEof X.K W fb)) (hc : PE X c (TEof X.K W fc))
    (hm : lastMarks [op, op'] [b, c] = false := by with_unfolding_all rfl) : PE X (.Compare a [op, op'] [b, c] pos) (TEof X.K W (chE g1 g2 fa fb fc)) := PE_weak (pe_chain ho ho' ha hb hc hm) fun _ _ _ => t_chain hg hb1 hg'
theorem b_chain {op op' : CmpOp} {r r' : R2} {g1 g2 : D → D → Option RV} (ho : OpR X (compareOp op) r) (hg : Good2 X.K r g1) (hb1 : Bool2 g1) (ho' : OpR X (compareOp op') r') (hg' : Good2 X.K r' g2) (hb2 : Bool2 g2) (ha : PE X a (TEof X.K W fa)) (hb : PE X b (TEof X.K W fb)) (hc : PE X c (TEof X.K W fc))
    (hm : lastMarks [op, op'] [b, c] = false := by with_unfolding_all rfl) : PT X (.Compare a [op, op'] [b, c] pos) (TTof X.K W (tst (chE g1 g2 fa fb fc))) := PT_weak (pt_chain ho ho' ha hb hc hm) fun _ _ _ h => t_chain hg hb1 hg' (test_bool (chE_bool hb2) h)
end
end Fd

/-! Fp8: chains of comparisons. -/
namespace Fd
open PySem L2
section
variable {α X : Type} {S : List SS} {r : Res X} {Q : X → α → Ev → Prop} {fa fb fc : M RV} {κ : RV → M α} {q1 q2 : RV} {a b : D} {g1 g2 : D → D → Option RV}
theorem z_chE (h : Go S (bnd fa fun r1 => bnd fb fun r2 => bnd (bnd (fin2 g1 r1 r2) (chK g2 fc r2)) κ) r Q) : Go S (bnd (chE g1 g2 fa fb fc) κ) r Q := h.eq (by
  unfold chE
  rw [bnd_assoc]
  congr 1
  funext r1
  rw [bnd_assoc])
theorem z_chK {k : Bool → Res X} (ea : datR S q1 = some a) (eb : datR S q2 = some b) (h : ∀ v, Go S (bnd (if v = true then (bnd fc fun r3 => fin2 g2 q2 r3) else ret (.val (.bl false))) κ) (k v) Q) : Go S (bnd (bnd (fin2 g1 q1 q2) (chK g2 fc q2)) κ) ((ofB (g1 a b)).bind k) Q := .mk fun ρ m => by
  rw [bnd_assoc]
  show Lk ((fin2 g1 q1 q2 ρ).bnd _) Q _
  rw [fin2_at m ea eb]
  cases g1 a b with
  | none => trivial
  | some v =>
    cases v with
    | val d =>
      cases d with
      | bl t => cases t <;> exact h _ ρ m
      | _ => trivial
    | _ => trivial
theorem z_ch3 {f3 : RV → M RV} (h : Go S (bnd fc fun r3 => bnd (f3 r3) κ) r Q) : Go S (bnd (bnd fc f3) κ) r Q := h.eq (bnd_assoc _ _ _)
end
end Fd

/-! Fs5: set of a tuple. -/
namespace Fd
open PySem PySem.Spec PyProof.Rows L2
section
variable {P : Program} {w : World} {A : Around} {E : Value → Shared → Prop} {s : Shared} (T : SetThy P w)
set_option maxHeartbeats 8000000 in
/-- set(xs), xs a tuple -/
theorem set_callT {l : Addr} {items : Array Value} (ks : List (Value × T.κ)) {Q : Value → Shared → Prop} (hh : A.handled = none) (hl : s.heap.IsTuple l items) (hit : items.toList = ks.map (·.1)) (hk : ∀ p ∈ ks, T.key s.heap p.1 p.2) (few : ks.length < 64) (hu : A.units + 3 < cLine)
    (q : ∀ (h' : Heap) (tk : Nat) L, T.J h' s.heap.objs.size L → Came ks ks.length L → (∀ b o, s.heap.get? b = some o → h'.get? b = some o) → Q (.ref s.heap.objs.size) { s with heap := h', toks := tk }) : wpAny (model P w) A (call (.type "set") [.ref l]) Q E s := by
  have sz : items.size = ks.length := by
    have z := congrArg List.length hit
    simpa using z
  obtain ⟨c0, c1, mro⟩ := F.called_set.mro
  have m1 := F.called_set.made
  have m2 := F.called_set.sub
  refine wpAny_call (codeAny_of_tree ?_)
  show wpAny _ _ (callAny (.type "set") _) _ _ _
  refine wpAny_pure ⟨Code.quiet_builtin _ (by decide +kernel), codeAny_builtin F.entry_type_call ?_⟩
  rw [Around.under_plain (weight_type_call_type "set" [.ref l] []) rfl]
  have f1 := F.called_set.notType
  have f2 := F.called_set.canCreate
  have f3 := F.typeCall_set_1 (.ref l)
  repeat (any_goals (first | assumption | wp_step))
  refine codeAny_mono (code_set_led1 (.ref l) (E := E) (Q₁ := fun u s1 => u = .ref s.heap.objs.size ∧ s1 = { s with heap := s.heap.push (newSet w) }) ⟨rfl, rfl⟩) fun r s1 hr => ?_
  cases r with
  | error e => exact hr
  | ok fl =>
    cases fl with
    | ret u =>
      obtain ⟨rfl, rfl⟩ := hr
      have gS : (s.heap.push (newSet w)).get? s.heap.objs.size = some (newSet w) := Heap.get?_push_size _ rfl
      have tS : Shared.TypeIs { s with heap := s.heap.push (newSet w) } (.ref s.heap.objs.size) "set" := ⟨_, gS, rfl⟩
      have i1 := F.called_set.init.lookup
      have i2 := F.called_set.init.bind (.ref s.heap.objs.size)
      repeat (any_goals (first | assumption | wp_step))
      refine codeAny_mono (codeAny_call_builtin (R := wants (fun r s2 => r = .none ∧ ∃ h' tk L, s2 = { s with heap := h', toks := tk } ∧ T.J h' s.heap.objs.size L ∧ Came ks ks.length L ∧ (∀ b o, s.heap.get? b = some o → h'.get? b = some o)) E) F.called_set.init.plain F.entry_set_init (check_set_init_1 tS ?_)) fun r2 s2 hr2 => ?_
      · obtain ⟨ol, hol, ocl, nl, odl⟩ := hl
        obtain ⟨oc, odi, oda, osl⟩ := ol
        simp only at ocl odl
        subst ocl; subst odl
        have hol1 : (s.heap.push (newSet w)).get? l = some { cls := .type "tuple", dict := odi, data := .seq items nl, slots := osl } := Heap.get?_push_of_some _ hol
        have n1 := F.sub_tuple_set
        have n2 := F.sub_tuple_frozenset
        have n3 : (Value.type "tuple" == Value.type "dict") = false := by decide
        have hl1 : (s.heap.push (newSet w)).IsTuple l items := ⟨_, hol1, rfl, nl, rfl⟩
        unfold Builtin.«set.__init__» noKeywords Builtin.Frozenset.updateFrom
        generalize hPI : pyIter = PI
        wp_walk
        subst hPI
        refine wpAny_pyIter_tuple hl1 ?_
        refine wpAny_bind (wpAny_runValue ?_)
        have lS : l < s.heap.objs.size := Heap.lt_size hol
        have h3 : A.in1.in1.in1.handled = none := by simp [hh]
        have neI : l ≠ (s.heap.push (newSet w)).objs.size := by
          rw [Heap.size_push]; exact Nat.ne_of_lt (Nat.lt_succ_of_lt lS)
        have nfp : s.heap.objs.size ∉ [(s.heap.push (newSet w)).objs.size, l] := by
          rw [Heap.size_push]; simp only [List.mem_cons, List.mem_singleton, List.not_mem_nil, or_false, not_or]
          exact ⟨Nat.ne_of_lt (Nat.lt_succ_self _), Nat.ne_of_gt lS⟩
        have val : ∀ (i : Nat) (v : Value), items[i]? = some v → ∃ k, ks[i]? = some (v, k) := fun i v e => by
          rw [← Array.getElem?_toList, hit, List.getElem?_map] at e
          obtain ⟨p, e1, rfl⟩ := Option.map_eq_some_iff.mp e
          exact ⟨p.2, e1⟩
        have non : ∀ b, s.heap.objs.size ≤ b → s.heap.get? b = none := fun b hb => by
          cases z : s.heap.get? b with
          | none => rfl
          | some o => exact absurd (Nat.lt_of_lt_of_le (Heap.lt_size z) hb) (Nat.lt_irrefl _)
        refine upd_loop T ((Walks.tuple h3 _ l neI items).toS) s.heap.objs.size nfp ks sz few val s.heap hk (non _ (Nat.le_refl _)) (fun b hb => non b (by rw [List.mem_singleton.mp hb, Heap.size_push]; exact Nat.le_succ _)) hu (items.size - 0) 0 _ [] (by omega) (Nat.zero_le _)
          ⟨⟨_, Heap.get?_push_size _ rfl, rfl, rfl⟩, (hl1.push _)⟩ (fun b o e => Heap.get?_push_of_some _ (Heap.get?_push_of_some _ e)) (T.new (Heap.get?_push_of_some _ gS)) ⟨fun p h => (by cases h), fun p h => (by simp at h), Nat.le_refl _⟩ ?_
        intro s1 L mv j g kp
        obtain ⟨h', g2, d', tk', os'⟩ := s1
        cases (mv.gens : g2 = s.gens)
        cases (mv.drawn : d' = s.drawn)
        cases (mv.os : os' = s.os)
        show wpAny _ _ _ _ _ _
        refine wpAny_pure ?_
        show wpAny _ _ (PySem.ret Value.none) _ _ _
        rw [sz] at g
        exact wpAny_pure ⟨rfl, h', tk', L, rfl, j, g, kp⟩
      · cases r2 with
        | error e => exact hr2
        | ok fl2 =>
          cases fl2 with
          | ret r =>
            obtain ⟨rfl, h', tk, L, rfl, j, g, kp⟩ := hr2
            repeat (any_goals (first | assumption | wp_step))
            exact q _ _ _ j g kp
          | _ => exact hr2.elim
    | _ => exact hr.elim
end
end Fd

/-! Fs6: sorted(set(xs)), xs a list or a tuple. -/
namespace Fd
open PySem L2
abbrev rSet2 (K : PySem.W.Frag) (w : World) : List V → Hp → VK → Prop := fun xs H Q => ∃ (l : Addr) (bs : List (V × D)), xs = [.ref l] ∧ (SqL K H l (bs.map (·.1)) ∨ SqT K H l (bs.map (·.1))) ∧ bs.length < 64 ∧ (KeyA bs ∨ KeyT H bs) ∧
  ∀ (a : Addr) (cs : List (V × D)), H a = none → (∀ c ∈ cs, c ∈ bs) → (∀ b ∈ bs, ∃ c ∈ cs, keyOf c.2 = keyOf b.2 ∧ keysOf c.2 = keysOf b.2) → (cs.map fun c => (keyOf c.2, keysOf c.2)).Nodup → Q (.ref a) (upd H a (SetHO w a (cs.map (·.1))))
section
variable {X : Cx}
theorem set_ofT (T : SetThy X.prog X.w) (kf : D → T.κ) (hc : X.calm = true) (hu : X.A.units + 100 < cLine) {pins : List (Addr × Obj)} {s : Shared} {σ : St} {H : Hp} {l : Addr} {bs : List (V × D)} {Q : VK} (I : Inv X pins σ H s) (hl : SqT X.K H l (bs.map (·.1))) (few : bs.length < 64)
    (hk : ∀ b ∈ bs, ∀ u, RelV b.1 u → T.key s.heap u (kf b.2)) (inj : ∀ b ∈ bs, ∀ c ∈ bs, kf b.2 = kf c.2 ↔ (keyOf b.2 = keyOf c.2 ∧ keysOf b.2 = keysOf c.2))
    (q : ∀ (a : Addr) (cs : List (V × D)), H a = none → (∀ c ∈ cs, c ∈ bs) → (∀ b ∈ bs, ∃ c ∈ cs, keyOf c.2 = keyOf b.2 ∧ keysOf c.2 = keysOf b.2) → (cs.map fun c => (keyOf c.2, keysOf c.2)).Nodup → Q (.ref a) (upd H a (SetHO X.w a (cs.map (·.1))))) :
    wpAny (model X.prog X.w) X.A (call (.type "set") [.ref l]) (EP X pins σ Q) X.xe s := by
  obtain ⟨its, rv, pl, hz⟩ := I.tuple hl
  obtain ⟨zs, e1, e2, rz⟩ := vals_zip rv
  have hf : H s.heap.objs.size = none := I.hok.fresh (Nat.le_refl _)
  have zb : ∀ z ∈ zs, z.2 ∈ bs := fun z hz => by rw [← e2]; exact List.mem_map_of_mem hz
  refine set_callT T (zs.map fun z => (z.1, kf z.2.2)) (I.ok.hd hc) (show s.heap.IsTuple l its.toArray from pl) (by rw [List.map_map, ← e1]; simp) (fun p hp => ?_) (by rw [List.length_map, ← List.length_map (f := (·.2)), e2]; exact few) (by omega) fun h' tk L j g kp => ?_
  · obtain ⟨z, hz, rfl⟩ := List.mem_map.mp hp
    exact hk z.2 (zb z hz) z.1 (rz z hz)
  · have gl : (zs.map fun z => (z.1, kf z.2.2)).take (zs.map fun z => (z.1, kf z.2.2)).length = zs.map fun z => (z.1, kf z.2.2) := List.take_length
    obtain ⟨ys, ey, hy⟩ := pull (f := fun z : Value × (V × D) => (z.1, kf z.2.2)) (zs := zs) (L := L) fun p hp => by rw [← gl]; exact g.from_ p hp
    have any := T.any j
    have uq := T.uniq j
    rw [← ey, List.map_map] at any uq
    refine ⟨.ref s.heap.objs.size, upd H s.heap.objs.size (SetHO X.w s.heap.objs.size ((ys.map (·.2)).map (·.1))), I.laid (t' := tk) kp (Nat.le_refl _) (setHO_new (us := ys.map (·.1)) ?_ ?_), rfl, q _ (ys.map (·.2)) hf (fun c hc => ?_) (fun b hb => ?_) ?_⟩
    · rw [List.map_map]; exact zip_vals fun z hz => rz z (hy z hz)
    · exact any
    · obtain ⟨z, hz, rfl⟩ := List.mem_map.mp hc
      exact zb z (hy z hz)
    · rw [← e2] at hb
      obtain ⟨z, hz, rfl⟩ := List.mem_map.mp hb
      have m := g.has (z.1, kf z.2.2) (by rw [gl]; exact List.mem_map_of_mem hz)
      rw [← ey, List.map_map] at m
      obtain ⟨y, hy2, e⟩ := List.mem_map.mp m
      exact ⟨y.2, List.mem_map_of_mem hy2, (inj y.2 (zb y (hy y hy2)) z.2 (zb z hz)).mp e⟩
    · rw [List.map_map]
      refine List.pairwise_map.mpr (List.Pairwise.imp_of_mem (fun {y z} h1 h2 ne e => ne ?_) (List.pairwise_map.mp uq))
      have e := Prod.mk.inj e
      exact (inj y.2 (zb y (hy y h1)) z.2 (zb z (hy z h2))).mpr e
theorem cr_set2 (hc : X.calm = true) (hu : X.A.units + 100 < cLine) : CallR X (.type "set") (rSet2 X.K X.w) := by
  intro pins s σ H xs us Q I r h
  obtain ⟨l, bs, rfl, hl, few, ky, q⟩ := h
  rw [Vals.ref1 r]
  rcases hl with hl | hl
  · exact cr_set1 hc hu pins s σ H [.ref l] [.ref l] Q I (.cons rfl .nil) ⟨l, bs, rfl, hl, few, ky, q⟩
  rcases ky with ky | ky
  · refine set_ofT (thyA X.prog X.w) (fun d => (keyOf d).getD (.inl 0)) hc hu I hl few (fun b hb u ru => ?_) (fun b hb c hc => ?_) q
    · obtain ⟨k, e1, e2⟩ := ky b hb
      rw [e2] at ru
      show (mixKind X.prog X.w).is ((keyOf b.2).getD _) u = true
      rw [e1]; exact kV_is ru
    · obtain ⟨k, e1, _⟩ := ky b hb
      obtain ⟨k2, e2, _⟩ := ky c hc
      rw [e1, e2, keyOf_keys e1, keyOf_keys e2]
      simp
      exact Iff.rfl
  · refine set_ofT (thyT X.prog X.w) (fun d => (keysOf d).getD []) hc hu I hl few (fun b hb u ru => ?_) (fun b hb c hc => ?_) q
    · obtain ⟨k, c, e1, e2, e3⟩ := ky b hb
      rw [e2] at ru
      cases (show u = Value.ref c from ru)
      refine ⟨c, rfl, ?_⟩
      rw [e1]; exact key_of I.hok e3
    · obtain ⟨k, _, e1, _⟩ := ky b hb
      obtain ⟨k2, _, e2, _⟩ := ky c hc
      rw [e1, e2, keysOf_key e1, keysOf_key e2]
      simp
      exact Iff.rfl
end
def sortSet2D : D → Option RV
  | .lst ds => if keysOkB ds = true ∧ sortOkB ds = true ∧ ds.length < 64 then some (.tmp (.lst (isort (dedup ds)))) else none
  | .tup ds => if keysOkB ds = true ∧ sortOkB ds = true ∧ ds.length < 64 then some (.tmp (.lst (isort (dedup ds)))) else none
  | _ => none
theorem sortSet2_lst (ds : List D) : sortSet2D (.lst ds) = sortSetD (.lst ds) := .trans rfl rfl
theorem sortSet2_tup (ds : List D) : sortSet2D (.tup ds) = sortSetD (.lst ds) := .trans rfl rfl
theorem good_sortSet2 {K : PySem.W.Frag} {w : World} : Good1 K (fun x H Q => rSet2 K w [x] H fun y H2 => rSort1 K w [y] H2 Q) sortSet2D := by
  intro M H x d res Q dm rd e q
  cases d with
  | lst ds =>
    have e : (if keysOkB ds = true ∧ sortOkB ds = true ∧ ds.length < 64 then some (RV.tmp (.lst (isort (dedup ds)))) else none) = some res := e
    split at e
    · rename_i ok
      cases e
      obtain ⟨ok1, ok2, few⟩ := ok
      obtain ⟨l, xs, rfl, h1, h2⟩ := rd.lst
      obtain ⟨bs, e1, e2, e3⟩ := h2.zip
      subst e1; subst e2
      unfold sortOkB at ok2
      simp only [Bool.and_eq_true, Bool.or_eq_true, List.all_eq_true, decide_eq_true_eq] at ok2
      obtain ⟨⟨⟨k1, k2⟩, k3⟩, k4⟩ := ok2
      unfold keysOkB at ok1
      rw [Bool.or_eq_true, List.all_eq_true, List.all_eq_true] at ok1
      have inj : ∀ b ∈ bs, ∀ c : V × D, keyOf c.2 = keyOf b.2 → keysOf c.2 = keysOf b.2 → c.2 = b.2 := fun b hb c u1 u2 => by
        rcases ok1 with o | o
        · obtain ⟨k, hk⟩ := Option.isSome_iff_exists.mp (o b.2 (List.mem_map_of_mem hb))
          exact keyOf_inj hk u1
        · obtain ⟨k, hk⟩ := Option.isSome_iff_exists.mp (o b.2 (List.mem_map_of_mem hb))
          exact keysOf_inj hk u2
      refine ⟨l, bs, rfl, .inl (.of h1), by rw [List.length_map] at few; exact few, ?_, fun a cs ha sub all nd => ?_⟩
      · rcases ok1 with o | o
        · refine .inl fun b hb => ?_
          obtain ⟨k, hk⟩ := Option.isSome_iff_exists.mp (o b.2 (List.mem_map_of_mem hb))
          exact ⟨k, hk, (e3 b hb).key hk⟩
        · refine .inr fun b hb => ?_
          obtain ⟨k, hk⟩ := Option.isSome_iff_exists.mp (o b.2 (List.mem_map_of_mem hb))
          obtain ⟨c, z1, z2⟩ := RD.keys (.inl (e3 b hb)) hk
          exact ⟨k, c, hk, z1, z2⟩
      · have evA : Evo (fun _ => False) M H M (upd H a (SetHO w a (cs.map (·.1)))) := evo_new dm ha
        have in2 : ∀ c ∈ cs, c.2 ∈ bs.map (·.2) := fun c hc => List.mem_map_of_mem (sub c hc)
        refine ⟨a, cs, rfl, upd_same, fun b hb => (((e3 b (sub b hb)).evo evA).dp b.2 (pl_mem k1 (in2 b hb))).1, fun x hx y hy => ?_, ?_, fun b hb => k3 b.2 (in2 b hb), fun p es hp pm => ?_⟩
        · obtain ⟨b, hb, rfl⟩ := List.mem_map.mp hx
          obtain ⟨c, hc, rfl⟩ := List.mem_map.mp hy
          exact k2 _ (in2 b hb) _ (in2 c hc)
        · refine sortable_of (k4.imp (fun z y hy => ?_) fun z y hy => ?_)
          · obtain ⟨b, hb, rfl⟩ := List.mem_map.mp hy
            exact z _ (in2 b hb)
          · obtain ⟨b, hb, rfl⟩ := List.mem_map.mp hy
            exact z _ (in2 b hb)
        · have pa : p ≠ a := fun e => by rw [e, upd_same] at hp; cases hp
          have hp0 : H p = none := by rw [upd_ne pa] at hp; exact hp
          have alE : AllA (es.map (·.2)) := fun x hx y hy => by
            obtain ⟨b, hb, rfl⟩ := List.mem_map.mp hx
            obtain ⟨c, hc, rfl⟩ := List.mem_map.mp hy
            exact k2 _ (in2 b (pm.mem_iff.mp hb)) _ (in2 c (pm.mem_iff.mp hc))
          have sp := dedup_spec (ds := bs.map Prod.snd) k2
          have nd2 : (cs.map (·.2)).Nodup := by
            refine List.pairwise_map.mpr (List.Pairwise.imp (fun {b c} ne e => ne ?_) (List.pairwise_map.mp nd))
            rw [e]
          have same : (cs.map (·.2)).Perm (dedup (bs.map (·.2))) := by
            refine (List.perm_ext_iff_of_nodup nd2 sp.1).mpr fun x => ?_
            rw [sp.2 x]
            constructor
            · intro hx
              obtain ⟨c, hc, rfl⟩ := List.mem_map.mp hx
              exact in2 c hc
            · intro hx
              obtain ⟨b, hb, rfl⟩ := List.mem_map.mp hx
              obtain ⟨c, hc, u1, u2⟩ := all b hb
              rw [← inj b hb c u1 u2]
              exact List.mem_map_of_mem hc
          have e4 : (es.mergeSort (PySem.W.dataLe false fun b => b.2.py)).map (·.2) = isort (dedup (bs.map (·.2))) := by
            have z := List.map_mergeSort (r := PySem.W.dataLe false fun b : V × D => b.2.py) (s := PySem.W.dataLe false D.py) (f := Prod.snd) (l := es) fun a _ b _ => rfl
            refine z.trans ((mergeSort_isort alE).trans (isort_perm_eq (fun a ha b hb => k2 a ((sp.2 a).mp ha) b ((sp.2 b).mp hb)) ?_))
            exact (pm.map (·.2)).trans same
          have gr : Grow M H (fun b => M b ∨ b = p) (upd (upd H a (SetHO w a (cs.map (·.1)))) p (.lst ((es.mergeSort (PySem.W.dataLe false fun b => b.2.py)).map (·.1)))) := by
            refine ⟨fun b o hb => ?_, fun b n => ⟨fun z => z.elim id fun e => (n (by rw [e]; exact hp0)).elim, .inl⟩, fun b m => ?_⟩
            · rw [upd_ne (ne_of_none hb hp0), upd_ne (ne_of_none hb ha)]; exact hb
            · by_cases e : b = p
              · rw [e, upd_same]; exact fun z => nomatch z
              · have m := m.resolve_right e
                rw [upd_ne e, upd_ne fun e2 => dm b m (by rw [e2]; exact ha)]
                exact dm b m
          refine q (.ref p) _ _ gr ⟨p, rfl, hp0, .inr rfl, _, upd_same, ?_⟩
          rw [← e4]
          exact isAll_zip fun b hb => (e3 b (sub b (pm.mem_iff.mp ((List.mergeSort_perm es _).mem_iff.mp hb)))).evo (gr.evo (F := fun _ => False) dm)
    · cases e
  | tup ds =>
    have e : (if keysOkB ds = true ∧ sortOkB ds = true ∧ ds.length < 64 then some (RV.tmp (.lst (isort (dedup ds)))) else none) = some res := e
    split at e
    · rename_i ok
      cases e
      obtain ⟨ok1, ok2, few⟩ := ok
      obtain ⟨l, xs, rfl, h1, h2⟩ := rd.tup
      obtain ⟨bs, e1, e2, e3⟩ := h2.zip
      subst e1; subst e2
      unfold sortOkB at ok2
      simp only [Bool.and_eq_true, Bool.or_eq_true, List.all_eq_true, decide_eq_true_eq] at ok2
      obtain ⟨⟨⟨k1, k2⟩, k3⟩, k4⟩ := ok2
      unfold keysOkB at ok1
      rw [Bool.or_eq_true, List.all_eq_true, List.all_eq_true] at ok1
      have inj : ∀ b ∈ bs, ∀ c : V × D, keyOf c.2 = keyOf b.2 → keysOf c.2 = keysOf b.2 → c.2 = b.2 := fun b hb c u1 u2 => by
        rcases ok1 with o | o
        · obtain ⟨k, hk⟩ := Option.isSome_iff_exists.mp (o b.2 (List.mem_map_of_mem hb))
          exact keyOf_inj hk u1
        · obtain ⟨k, hk⟩ := Option.isSome_iff_exists.mp (o b.2 (List.mem_map_of_mem hb))
          exact keysOf_inj hk u2
      refine ⟨l, bs, rfl, .inr (.of h1), by rw [List.length_map] at few; exact few, ?_, fun a cs ha sub all nd => ?_⟩
      · rcases ok1 with o | o
        · refine .inl fun b hb => ?_
          obtain ⟨k, hk⟩ := Option.isSome_iff_exists.mp (o b.2 (List.mem_map_of_mem hb))
          exact ⟨k, hk, (e3 b hb).key hk⟩
        · refine .inr fun b hb => ?_
          obtain ⟨k, hk⟩ := Option.isSome_iff_exists.mp (o b.2 (List.mem_map_of_mem hb))
          obtain ⟨c, z1, z2⟩ := RD.keys (.inl (e3 b hb)) hk
          exact ⟨k, c, hk, z1, z2⟩
      · have evA : Evo (fun _ => False) M H M (upd H a (SetHO w a (cs.map (·.1)))) := evo_new dm ha
        have in2 : ∀ c ∈ cs, c.2 ∈ bs.map (·.2) := fun c hc => List.mem_map_of_mem (sub c hc)
        refine ⟨a, cs, rfl, upd_same, fun b hb => (((e3 b (sub b hb)).evo evA).dp b.2 (pl_mem k1 (in2 b hb))).1, fun x hx y hy => ?_, ?_, fun b hb => k3 b.2 (in2 b hb), fun p es hp pm => ?_⟩
        · obtain ⟨b, hb, rfl⟩ := List.mem_map.mp hx
          obtain ⟨c, hc, rfl⟩ := List.mem_map.mp hy
          exact k2 _ (in2 b hb) _ (in2 c hc)
        · refine sortable_of (k4.imp (fun z y hy => ?_) fun z y hy => ?_)
          · obtain ⟨b, hb, rfl⟩ := List.mem_map.mp hy
            exact z _ (in2 b hb)
          · obtain ⟨b, hb, rfl⟩ := List.mem_map.mp hy
            exact z _ (in2 b hb)
        · have pa : p ≠ a := fun e => by rw [e, upd_same] at hp; cases hp
          have hp0 : H p = none := by rw [upd_ne pa] at hp; exact hp
          have alE : AllA (es.map (·.2)) := fun x hx y hy => by
            obtain ⟨b, hb, rfl⟩ := List.mem_map.mp hx
            obtain ⟨c, hc, rfl⟩ := List.mem_map.mp hy
            exact k2 _ (in2 b (pm.mem_iff.mp hb)) _ (in2 c (pm.mem_iff.mp hc))
          have sp := dedup_spec (ds := bs.map Prod.snd) k2
          have nd2 : (cs.map (·.2)).Nodup := by
            refine List.pairwise_map.mpr (List.Pairwise.imp (fun {b c} ne e => ne ?_) (List.pairwise_map.mp nd))
            rw [e]
          have same : (cs.map (·.2)).Perm (dedup (bs.map (·.2))) := by
            refine (List.perm_ext_iff_of_nodup nd2 sp.1).mpr fun x => ?_
            rw [sp.2 x]
            constructor
            · intro hx
              obtain ⟨c, hc, rfl⟩ := List.mem_map.mp hx
              exact in2 c hc
            · intro hx
              obtain ⟨b, hb, rfl⟩ := List.mem_map.mp hx
              obtain ⟨c, hc, u1, u2⟩ := all b hb
              rw [← inj b hb c u1 u2]
              exact List.mem_map_of_mem hc
          have e4 : (es.mergeSort (PySem.W.dataLe false fun b => b.2.py)).map (·.2) = isort (dedup (bs.map (·.2))) := by
            have z := List.map_mergeSort (r := PySem.W.dataLe false fun b : V × D => b.2.py) (s := PySem.W.dataLe false D.py) (f := Prod.snd) (l := es) fun a _ b _ => rfl
            refine z.trans ((mergeSort_isort alE).trans (isort_perm_eq (fun a ha b hb => k2 a ((sp.2 a).mp ha) b ((sp.2 b).mp hb)) ?_))
            exact (pm.map (·.2)).trans same
          have gr : Grow M H (fun b => M b ∨ b = p) (upd (upd H a (SetHO w a (cs.map (·.1)))) p (.lst ((es.mergeSort (PySem.W.dataLe false fun b => b.2.py)).map (·.1)))) := by
            refine ⟨fun b o hb => ?_, fun b n => ⟨fun z => z.elim id fun e => (n (by rw [e]; exact hp0)).elim, .inl⟩, fun b m => ?_⟩
            · rw [upd_ne (ne_of_none hb hp0), upd_ne (ne_of_none hb ha)]; exact hb
            · by_cases e : b = p
              · rw [e, upd_same]; exact fun z => nomatch z
              · have m := m.resolve_right e
                rw [upd_ne e, upd_ne fun e2 => dm b m (by rw [e2]; exact ha)]
                exact dm b m
          refine q (.ref p) _ _ gr ⟨p, rfl, hp0, .inr rfl, _, upd_same, ?_⟩
          rw [← e4]
          exact isAll_zip fun b hb => (e3 b (sub b (pm.mem_iff.mp ((List.mergeSort_perm es _).mem_iff.mp hb)))).evo (gr.evo (F := fun _ => False) dm)
    · cases e
  | _ => cases e
section
variable {X : Cx} {W : WO} {a : Expr} {fa : M RV} {pos p p2 pos2 : Pos}
theorem e_sortSet2 (hc : X.calm = true) (hu : X.A.units + 100 < cLine) (hm : X.mg "sorted" = none) (hm2 : X.mg "set" = none) (ha : PE X a (TEof X.K W fa)) (hg : Gl X "sorted" := by rfl) (hg2 : Gl X "set" := by rfl)
    (he : starEach [.Call (.Name "set" p2) [a] [] pos2] X.env = (false, eval (.Call (.Name "set" p2) [a] [] pos2) X.env) :: starEach [] X.env := by rfl) (hpl : (backTo pos (starEach [] X.env)).any (·.1) = false := by rfl)
    (he2 : starEach [a] X.env = (false, eval a X.env) :: starEach [] X.env := by rfl) (hpl2 : (backTo pos2 (starEach [] X.env)).any (·.1) = false := by rfl) :
    PE X (.Call (.Name "sorted" p) [.Call (.Name "set" p2) [a] [] pos2] [] pos) (TEof X.K W (op1 sortSet2D fa)) := by
  refine PE_weak (pe_callB (cr_sort1 hc hu) hg hm (by decide +kernel) (pa_cons (pe_callTy (cr_set2 hc hu) hg2 hm2 (by decide +kernel) (pa_cons ha pa_nil he2) (by decide) (by decide) he2 hpl2) pa_nil he) (by decide) (by decide) he hpl) fun σ H Q h => ?_
  exact t_op1 (r := fun x H Q => rSet2 X.K X.w [x] H fun y H2 => rSort1 X.K X.w [y] H2 Q) good_sortSet2 h
end
end Fd

/-! Fs7: sorted of a tuple. -/
namespace Fd
open PySem PySem.Spec PyProof.Rows L2
section
variable {P : Program} {w : World} {A : Around} {E : Value → Shared → Prop} {s : Shared} {a : Addr} {β : Type}
theorem collect_sq {Q : List Value → Shared → Prop} (it : Addr) {T : String} {o : Obj} {items : Array Value} {n : Nat} (hT : T = "list" ∨ T = "tuple")
    (ho : s.heap.get? it = some o) (hc : o.cls = .type T) (hd : o.data = .seq items n)
    (hQ : ∀ h', (∀ b o', s.heap.get? b = some o' → h'.get? b = some o') → s.heap.objs.size ≤ h'.objs.size → Q items.toList { s with heap := h' }) (hsz : items.size ≤ sizeLine := by size_fits) :
    wpAny (model P w) A (collect (.ref it)) Q E s := by
  unfold collect
  refine wpAny_bind (wpAny_runValue (codeAny_builtin F.entry_proto_collect ?_))
  rw [Around.under_plainId F.plain_proto_collect _]
  show wpAny _ A.in1 (newList [] >>= fun l => again (.builtin "list.__iadd__" ⟨[l, .ref it], []⟩)) _ _ s
  refine wpAny_bind (wpAny_newObj_type ?_)
  refine wpAny_pure ⟨plainId_quiet F.plain_list_iadd _, codeAny_builtin F.entry_list_iadd ?_⟩
  rw [Around.under_plainId F.plain_list_iadd _]
  show wpAny _ A.in1 (Builtin.List.listExtendWith (.ref s.heap.objs.size) (.ref it) (.ref s.heap.objs.size)) _ _ _
  have hS : (s.heap.push { cls := .type "list", data := .seq ([] : List Value).toArray }).get? s.heap.objs.size = some { cls := .type "list", data := .seq #[] 0 } := Heap.get?_push_size _ rfl
  have hS₂ := Heap.get?_update_self (Obj.mapSeq (· ++ items)) hS rfl
  have fin' : wpAny (model P w) A (match Value.ref s.heap.objs.size with
      | Value.ref a => do
        match (← load a).data with
          | Data.seq xs _ => pure xs.toList
          | _ => unsupported "internal:collect"
      | _ => unsupported "internal:collect") Q E { s with heap := (s.heap.push { cls := .type "list", data := .seq ([] : List Value).toArray }).update s.heap.objs.size (Obj.mapSeq (· ++ items)) } := by
    show wpAny _ A (load s.heap.objs.size >>= _) _ _ _
    refine wpAny_bind (wpAny_load hS₂ ?_)
    refine wpAny_pure ?_
    have e : ((#[] : Array Value) ++ items).toList = items.toList := by simp
    show Q ((#[] : Array Value) ++ items).toList _
    rw [e]
    refine hQ _ (fun b o' hb => ?_) (by
      show _ ≤ ((s.heap.objs.push _).modify _ _).size
      rw [Array.size_modify, Array.size_push]
      exact Nat.le_succ _)
    exact (Heap.get?_update_other _ _ (Nat.ne_of_gt (Heap.lt_size hb))).trans (Heap.get?_push_of_some _ hb)
  refine wpAny_mono (wpAny_extend_seq (hsz := hsz) (A := A) (R := fun r s' => r = .ok (.ret (.ref s.heap.objs.size)) ∧ s' = { s with heap := (s.heap.push { cls := .type "list", data := .seq ([] : List Value).toArray }).update s.heap.objs.size (Obj.mapSeq (· ++ items)) })
    (s := { s with heap := s.heap.push { cls := .type "list", data := .seq ([] : List Value).toArray } }) _ it _ 0 hT hS (Heap.get?_push_of_some _ ho) hc hd ⟨rfl, rfl⟩) (fun fin s' h => ?_) (fun e s' h => ?_)
  · cases fin with
    | done f =>
      obtain ⟨e, rfl⟩ := h
      cases e
      exact fin'
    | again c' => exact ⟨h.1, codeAny_mono h.2 fun r s'' hr => by obtain ⟨rfl, rfl⟩ := hr; exact fin'⟩
  · exact absurd h.1 (by simp)
theorem tup_sorted {vs : List Value} {Q : Value → Shared → Prop} {R : Value → β → Prop} {enc : β → PyData} (ht : IsTup s.heap a vs.toArray) (bs : List β) (e : PySem.W.EachIs R vs bs) (er : PySem.W.EachIs (fun v b => ∃ as, Reads s.heap v (enc b) as) vs bs) (hL : vs.length ≤ sizeLine)
    (al : PySem.W.AllAlike (bs.map enc)) (so : PySem.W.Sortable (bs.map enc)) (hu : ∀ b ∈ bs, A.units + 2 + (enc b).depth < cLine)
    (q : ∀ s1 p (out : List Value) (c : Nat), (∀ b o, s.heap.get? b = some o → s1.heap.get? b = some o) → s1.gens = s.gens → s1.os = s.os → s.heap.objs.size ≤ p → s1.heap.get? p = some (seqObj "list" out.toArray c) → PySem.W.EachIs R out (bs.mergeSort (PySem.W.dataLe false enc)) → Q (.ref p) s1) :
    wpAny (model P w) A (call (.builtin "sorted") [.ref a]) Q E s := by
  obtain ⟨o, ho, hcl, n, hda⟩ := (show s.heap.IsTuple a vs.toArray from ht)
  refine Calls.call_function_entry kind_sorted plain_sorted entry_sorted (args_sorted1 _) ?_
  unfold Builtin.«sorted»
  refine wpAny_bind (m := checkCount "sorted" 1 1 _) (wpAny_pure ?_)
  refine wpAny_bind (collect_sq (A := A.in1) a (T := "tuple") (.inr rfl) ho hcl hda ?_)
  intro h' k1 hz
  have len : vs.length = bs.length := e.length
  show wpAny (model P w) A.in1 (newList vs >>= _) _ _ _
  refine wpAny_bind (wpAny_newList ?_ (by omega))
  have hoL : (h'.push (seqObj "list" vs.toArray 0)).get? h'.objs.size = some (seqObj "list" vs.toArray 0) := Heap.get?_push_size _ rfl
  have erL : PySem.W.EachIs (fun v b => ∃ as, Reads (h'.push (seqObj "list" vs.toArray 0)) v (enc b) as ∧ h'.objs.size ∉ as) vs bs := er.mono fun v b ⟨as, r⟩ => ⟨as, PyProof.Rows.Reads.keeps (fun _ _ z => Heap.get?_push_of_some _ (k1 _ _ z)) r, fun hm => by
    exact absurd (reads_in _ r _ hm) (Nat.not_lt.mpr hz)⟩
  refine wpAny_bind (wpAny_holding (PySem.W.list_sort_data (s := { s with heap := h'.push (seqObj "list" vs.toArray 0) }) hoL e erL al so (by rw [← len]; exact hL) (fun b hb => ?_) fun out ho eo => ?_))
  · have := hu b hb
    show A.units + 1 + 1 + _ < _
    omega
  · obtain ⟨c, hc⟩ := sortedHeap_at (vs := vs) (out := out.toArray) hoL
    refine wpAny_pure ⟨_, rfl, q _ h'.objs.size out c (fun b u z => ?_) rfl rfl hz hc eo⟩
    have z1 := k1 b u z
    have lt := Heap.lt_size z1
    show (sortedHeap (h'.push (seqObj "list" vs.toArray 0)) h'.objs.size vs out.toArray).get? b = some u
    rw [sortedHeap_old (Nat.ne_of_lt lt) (by rw [size_push']; exact Nat.lt_succ_of_lt lt)]
    exact Heap.get?_push_of_some _ z1
end
end Fd
namespace Fd
open PySem L2
abbrev rSortE (K : PySem.W.Frag) : List V → Hp → VK → Prop := fun vs H Q => ∃ (a : Addr) (bs : List (V × D)), vs = [.ref a] ∧ (SqL K H a (bs.map (·.1)) ∨ SqT K H a (bs.map (·.1))) ∧ (∀ b ∈ bs, Dp K H b.1 b.2.py) ∧ AllA (bs.map (·.2)) ∧ PySem.W.Sortable (bs.map fun b => b.2.py) ∧ (∀ b ∈ bs, b.2.py.depth ≤ 60) ∧
  ∀ p, H p = none → Q (.ref p) (upd H p (.lst ((bs.mergeSort (PySem.W.dataLe false fun b => b.2.py)).map (·.1))))
theorem cr_sortE {X : Cx} (hu : X.A.units + 100 < cLine) : CallR X (.builtin "sorted") (rSortE X.K) := by
  intro pins s σ H vs us Q I r h
  obtain ⟨a, bs, rfl, hs, hd, al, so, dp, q⟩ := h
  rcases hs with hs | hs
  · exact cr_sortD hu pins s σ H _ us Q I r ⟨a, bs, rfl, hs, hd, al, so, dp, q⟩
  obtain ⟨its, rv, hl, hz⟩ := I.tuple hs
  rw [Vals.ref1 r]
  have e := vals_each rv
  have er : PySem.W.EachIs (fun v (b : V × D) => ∃ as, Reads s.heap v b.2.py as) its bs := each_mem e fun u b hb r => Dp.reads I b.2.py b.1 u (hd b hb) r
  have hlen : bs.length ≤ sizeLine := by rw [List.length_map] at hz; exact hz
  refine tup_sorted hl bs e er (by rw [e.length]; exact hlen) (fun d hd d' hd' => ?_) so (fun b hb => ?_) fun s1 p out c kp g o hp hg eo => ?_
  · obtain ⟨b, hb, rfl⟩ := List.mem_map.mp hd
    obtain ⟨b', hb', rfl⟩ := List.mem_map.mp hd'
    exact al b.2 (List.mem_map_of_mem hb) b'.2 (List.mem_map_of_mem hb')
  · have := dp b hb
    omega
  · have hn : H p = none := I.hok.fresh hp
    have hlen : ((bs.mergeSort (PySem.W.dataLe false fun b => b.2.py)).map (·.1)).length ≤ sizeLine := by
      rw [List.length_map, List.length_mergeSort]; exact hlen
    have J : Inv X pins σ (upd H p (.lst ((bs.mergeSort (PySem.W.dataLe false fun b => b.2.py)).map (·.1)))) { s with heap := s1.heap, gens := s1.gens, drawn := s1.drawn, toks := s1.toks } :=
      I.call (ch := []) (Un.laid kp hp hn) (I.hok.laid kp hp ⟨hlen, out, c, each_vals eo, hg⟩) (by rw [g]; exact I.bare) (fun _ z => nomatch z)
    have e : s1 = { s with heap := s1.heap, gens := s1.gens, drawn := s1.drawn, toks := s1.toks } := by
      cases s1; cases s; cases o; rfl
    rw [e]
    exact ⟨.ref p, _, J, rfl, q p hn⟩
def sorted2D : List D → Option RV
  | [.lst ds] => (sortA ds).map fun es => .tmp (.lst es)
  | [.tup ds] => (sortA ds).map fun es => .tmp (.lst es)
  | _ => none
theorem sorted2_lst (ds : List D) : sorted2D [.lst ds] = sortedD [.lst ds] := .trans rfl rfl
theorem sorted2_tup (ds : List D) : sorted2D [.tup ds] = sortedD [.lst ds] := .trans rfl rfl
theorem good_sorted2 {K : PySem.W.Frag} : GoodL K (rSortE K) sorted2D := by
  intro M H vs ds res Q dm rd e q
  match ds, rd, e with
  | [.lst ds], rd, e =>
    have e : (sortA ds).map (fun es => RV.tmp (.lst es)) = some res := e
    unfold sortA at e
    split at e
    · rename_i ok
      cases e
      match vs, rd with
      | [v], rd =>
        obtain ⟨a, xs, rfl, h1, h2⟩ := rd.1.lst
        obtain ⟨bs, e1, e2, e3⟩ := h2.zip
        subst e1; subst e2
        unfold sortOkB at ok
        simp only [Bool.and_eq_true, Bool.or_eq_true, List.all_eq_true, decide_eq_true_eq] at ok
        obtain ⟨⟨⟨k1, k2⟩, k3⟩, k4⟩ := ok
        refine ⟨a, bs, rfl, .inl (.of h1), fun b hb => ((e3 b hb).dp b.2 (pl_mem k1 (List.mem_map_of_mem hb))).1, k2, ?_, fun b hb => k3 b.2 (List.mem_map_of_mem hb), fun p hp => ?_⟩
        · rcases k4 with k4 | k4
          · refine .inl fun d hd => ?_
            obtain ⟨b, hb, rfl⟩ := List.mem_map.mp hd
            have z := k4 b.2 (List.mem_map_of_mem hb)
            split at z
            · rename_i y ys he
              rw [he]
              exact ⟨y.py, D.pyAll ys, by simp [D.py, D.pyAll]⟩
            · cases z
          · refine .inr fun d hd => ?_
            obtain ⟨b, hb, rfl⟩ := List.mem_map.mp hd
            have z := k4 b.2 (List.mem_map_of_mem hb)
            cases hb2 : b.2 with
            | non => rw [hb2] at z; cases z
            | tup _ => rw [hb2] at z; cases z
            | _ => exact ⟨by simp [D.py], fun xs => by simp [D.py]⟩
        · have e4 : isort (bs.map (·.2)) = (bs.mergeSort (PySem.W.dataLe false fun b => b.2.py)).map (·.2) := by
            rw [← mergeSort_isort k2]
            exact (List.map_mergeSort (r := PySem.W.dataLe false fun b : V × D => b.2.py) (s := PySem.W.dataLe false D.py) (f := Prod.snd) fun a _ b _ => rfl).symm
          rw [e4] at q
          exact q.lst dm (isAll_zip fun b hb => e3 b ((List.mergeSort_perm bs _).mem_iff.mp hb)) hp
      | [], rd => exact rd.elim
      | _ :: _ :: _, rd => exact rd.2.elim
    · cases e
  | [.tup ds], rd, e =>
    have e : (sortA ds).map (fun es => RV.tmp (.lst es)) = some res := e
    unfold sortA at e
    split at e
    · rename_i ok
      cases e
      match vs, rd with
      | [v], rd =>
        obtain ⟨a, xs, rfl, h1, h2⟩ := rd.1.tup
        obtain ⟨bs, e1, e2, e3⟩ := h2.zip
        subst e1; subst e2
        unfold sortOkB at ok
        simp only [Bool.and_eq_true, Bool.or_eq_true, List.all_eq_true, decide_eq_true_eq] at ok
        obtain ⟨⟨⟨k1, k2⟩, k3⟩, k4⟩ := ok
        refine ⟨a, bs, rfl, .inr (.of h1), fun b hb => ((e3 b hb).dp b.2 (pl_mem k1 (List.mem_map_of_mem hb))).1, k2, ?_, fun b hb => k3 b.2 (List.mem_map_of_mem hb), fun p hp => ?_⟩
        · rcases k4 with k4 | k4
          · refine .inl fun d hd => ?_
            obtain ⟨b, hb, rfl⟩ := List.mem_map.mp hd
            have z := k4 b.2 (List.mem_map_of_mem hb)
            split at z
            · rename_i y ys he
              rw [he]
              exact ⟨y.py, D.pyAll ys, by simp [D.py, D.pyAll]⟩
            · cases z
          · refine .inr fun d hd => ?_
            obtain ⟨b, hb, rfl⟩ := List.mem_map.mp hd
            have z := k4 b.2 (List.mem_map_of_mem hb)
            cases hb2 : b.2 with
            | non => rw [hb2] at z; cases z
            | tup _ => rw [hb2] at z; cases z
            | _ => exact ⟨by simp [D.py], fun xs => by simp [D.py]⟩
        · have e4 : isort (bs.map (·.2)) = (bs.mergeSort (PySem.W.dataLe false fun b => b.2.py)).map (·.2) := by
            rw [← mergeSort_isort k2]
            exact (List.map_mergeSort (r := PySem.W.dataLe false fun b : V × D => b.2.py) (s := PySem.W.dataLe false D.py) (f := Prod.snd) fun a _ b _ => rfl).symm
          rw [e4] at q
          exact q.lst dm (isAll_zip fun b hb => e3 b ((List.mergeSort_perm bs _).mem_iff.mp hb)) hp
      | [], rd => exact rd.elim
      | _ :: _ :: _, rd => exact rd.2.elim
    · cases e
end Fd

/-! Fd23: dict comprehensions (as data), d.items(). -/
namespace L2
open PySem PySem.Spec PyProof.Rows

/-! ### name = {k: v for ..} on one line, the name a local -/
section
variable {X : Cx}
theorem ps_setDc {i : Nat} {y : Str} {py : Pos} {kx vx tg iter : Expr} {ifs : List Expr} {scope : Scope} {own : List (Str × Nat)} {pos spos : Pos} {wi : TI} {g : TG} {tt : TT} {tk tv : TE} (hc : X.calm = true) (hN : X.N.Nodup) (hy : X.N[i]? = some y) (hyl : X.env.scope.names.lookup y = some .local)
    (hsw : swapsWith (.DictComp kx vx [⟨tg, iter, ifs, 0⟩] scope pos) (some (.Name y py)) spos.line X.env = pure true) (hi : PI X tg iter wi) (ok : BlkOk X.N X.env.scope scope own)
    (hg : ∀ (s : Shared) (H : Hp) (C : Addr) (cl : List (Str × Addr)) (fp : List Addr), PG (X.blk s H scope (compEnvC scope cl C X.env) fp) tg g) (ht : ∀ (s : Shared) (H : Hp) (C : Addr) (cl : List (Str × Addr)) (fp : List Addr), PTs (X.blk s H scope (compEnvC scope cl C X.env) fp) ifs tt)
    (hk : ∀ (s : Shared) (H : Hp) (C : Addr) (cl : List (Str × Addr)) (fp : List Addr), PE (X.blk s H scope (compEnvC scope cl C X.env) fp) kx tk)
    (he : ∀ (s : Shared) (H : Hp) (C : Addr) (cl : List (Str × Addr)) (fp : List Addr), PE (X.blk s H scope (compEnvC scope cl C X.env) fp) vx tv) (hs : ∀ x, foldedSetIterable iter X.env x = pure x := by intro _; rfl) :
    PS X (.Assign [.Name y py] (.DictComp kx vx [⟨tg, iter, ifs, 0⟩] scope pos) spos) (tAsg (tDc wi g tt tk tv (own.map (·.2))) (gName i)) := by
  refine ⟨fun pins s σ H D I h => ?_⟩
  rw [exec_Assign_Name_used _ _ _ _ hsw]
  refine wpAny_bind (wpAny_standAt (wpAny_bind ?_))
  show wpAny _ X.A (do let _ ← comprehension (.DictComp kx vx [⟨tg, iter, ifs, 0⟩] scope pos) scope X.env (firstIterPos [⟨tg, iter, ifs, 0⟩] pos) newDict false (eval iter X.env) (some (assign (.Name y py) X.env))) _ _ s
  have h : tDc wi g tt tk tv (own.map (·.2)) σ H (fun x H1 => gName i x σ H1 D.nx) := h
  refine wpAny_bind (thn (dc_core (Qf := fun _ s' => SP X pins D .next s') hc hN I hi ok hg ht hk he hs h fun L C s' m H' I' q hn f => ?_) fun _ s' hq => wpAny_pure (wpAny_pure hq))
  show wpAny _ _ (assign (.Name y py) X.env (.ref L)) _ _ _
  refine wpAny_assign_Name (store_ok2 (v := V.ref L) I' hN hy (.inl hyl) rfl (fun s2 I2 ⟨a, sb, ha⟩ => ?_) (.inr hyl))
  obtain ⟨f0, f1, f2, f3, f4, f5⟩ := f
  have haC : C ≠ a := by
    rcases ha with z | z
    · rw [z]; exact f1
    · exact fun e => f4 y a z e.symm
  refine ⟨m, hn.sameBut sb haC, fun h3 sb3 => ?_⟩
  exact ⟨_, H', I2.turned (t' := s2.toks) (fun b o hb e => (sb3.2 b hb).trans e) f0 f1 f3 f4 f5, q⟩
theorem sw_trueD {kx vx : Expr} {gs : List Comprehension} {scope : Scope} {pos py : Pos} {y : Str} {l : Nat} {env : Env} (hk : env.scope.kind = .function) (hy : env.scope.names.lookup y = some .local) (hl : (py.line == pos.line) = true)
    (ha : (scope.names.any fun (n, k) => n == y && (k == .local || k == .cell)) = false) : swapsWith (.DictComp kx vx gs scope pos) (some (.Name y py)) l env = pure true := by
  have ky : env.kindOf y = some .local := hy
  have hb : env.blockKind = .function := by unfold Env.blockKind; rw [hk]; rfl
  unfold swapsWith
  simp only [hb, ky, ha, Expr.pos, hl]
  rfl
end

end L2
namespace Fd
open PySem L2
/-! ### the data -/
def dic1 (m : List (Key × D)) (p : D) : List (Key × D) := match p with
  | .tup [k, e] => (match keyOf k with
    | some k => putD m k e
    | none => m)
  | _ => m
def dicOf (ps : List D) : List (Key × D) := ps.foldl dic1 []
theorem dicOf_snoc {ps : List D} {kd e : D} {k : Key} (h : keyOf kd = some k) : dicOf (ps ++ [.tup [kd, e]]) = putD (dicOf ps) k e := by
  unfold dicOf
  rw [List.foldl_append, List.foldl_cons, List.foldl_nil]
  generalize List.foldl dic1 [] ps = m
  show (match keyOf kd with
    | some k => putD m k e
    | none => m) = _
  rw [h]
def kvK2 (kd : D) : RV → M RV
  | .val e => ret (.val (.tup [kd, e]))
  | _ => fail
def kvK (fv : M RV) : RV → M RV
  | .val kd => (match keyOf kd with
    | some _ => bnd fv (kvK2 kd)
    | none => fail)
  | _ => fail
def kvE (fk fv : M RV) : M RV := bnd fk (kvK fv)
def dicR : RV → M RV
  | .tmp (.lst l) => ret (.tmp (.dK (dicOf l)))
  | _ => fail
def dcK (vs : List Nat) (h : Tg) (ct : M Bool) (fk fv : M RV) : ItS → M RV
  | .dat ds => bnd (fun ρ => if wipeOk ρ vs = true then finLc ρ vs (lcL h ct (kvE fk fv) vs ds [] (wipeE ρ vs)) else .bad) dicR
  | .slot _ => fail
def dcE (vs : List Nat) (fi : M ItS) (h : Tg) (ct : M Bool) (fk fv : M RV) : M RV := bnd fi (dcK vs h ct fk fv)
theorem bnd_asc {α β γ : Type} (f : M α) (g : α → M β) (h : β → M γ) : bnd (bnd f g) h = bnd f fun a => bnd (g a) h := by
  funext ρ
  unfold bnd
  cases f ρ <;> rfl
/-- what holds between two turns -/
structure DcSt (K : PySem.W.Frag) (L : Lc) (F : AP) (Dd : Addr) (σ : St) (M : AP) (H : Hp) (ρ : Ev) (acc : List D) : Prop where
  rel : Rel K L (with1 F Dd) M H ρ σ
  nf : ¬ F Dd
  dic : ∃ xs, H Dd = some (.dK xs) ∧ IsK M K H xs (dicOf acc) ∧ xs.length ≤ acc.length
section
variable {K : PySem.W.Frag} {L : Lc} {F M M0 : AP} {H H0 : Hp} {ρ ρ0 : Ev} {σ : St} {vs vs0 : List Nat} {h : Tg} {ct : Fd.M Bool} {fk fv : Fd.M RV} {Dd : Addr} {acc : List D} {x : V} {d : D}
theorem t_dcTurn {g : List D → Fd.M (List D)} {Nx : Hp → Prop} (P : Out (List D) → Prop) (hx : ∀ x ρ', ¬ P (.exc x ρ')) (hb : ¬ P .bad) (sb : ∀ i ∈ vs0, i ∈ vs) (st : DcSt K L F Dd (wipe σ vs) M H ρ acc) (is : Is M K H x d) (post : P (lcTurn h ct (kvE fk fv) vs g acc d ρ))
    (hN : ∀ M' H' ρ' acc', Evo F M H M' H' → DcSt K L F Dd (wipe σ vs) M' H' ρ' acc' → P (g acc' ρ') → Nx H') :
    TGof K vs0 h x (wipe σ vs) H fun σ2 H2 => wipe σ2 vs = wipe σ vs ∧ TTof K none ct σ2 H2 fun b H3 =>
      if b = true then TEof K none fk σ2 H3 fun y H4 => TEof K none fv σ2 H4 fun z H5 => ∃ kvs k, y = kV k ∧ H5 Dd = some (.dK kvs) ∧ kvs.length < sizeLine ∧ Nx (upd H5 Dd (.dK (putK kvs k z))) else Nx H3 := by
  refine ⟨L, with1 F Dd, M, ρ, d, st.rel, is, ?_⟩
  unfold lcTurn at post
  cases e : h d ρ with
  | none => rw [e] at post; exact (hb post).elim
  | some ρ1 =>
    rw [e] at post
    intro σ1 M1 H1 e1 l1 s1
    have ws := wipe_same (s1.sub sb)
    refine ⟨ws, ?_⟩
    have mD : M Dd := st.rel.fd Dd (.inr rfl)
    refine seqB P (fun x ρ' z => (hx x ρ' z).elim) hb l1 post fun k ρ2 p2 M2 H2 e2 l2 => ?_
    have e12 := e1.trans e2 fun _ z => z
    obtain ⟨xs, hD, al, hl⟩ := st.dic
    cases k with
    | false =>
      rw [if_neg Bool.false_ne_true] at p2 ⊢
      refine hN M2 H2 (wipeE ρ2 vs) acc (e12.weak fun _ z => .inl z) ⟨l2.wipe ws, st.nf, xs, (e12.ow Dd (.inr rfl) mD).1.trans hD, IsK.evo e12 _ al, hl⟩ p2
    | true =>
      rw [if_pos rfl] at p2 ⊢
      rw [show kvE fk fv = bnd fk (kvK fv) from rfl, bnd_asc] at p2
      refine seqV P (fun x ρ' z => (hx x ρ' z).elim) hb l2 p2 fun r ρ3 p3 v M3 H3 e3 l3 q3 n3 => ?_
      have e13 := e12.trans e3 fun _ z => z
      cases r with
      | tmp d => exact (hb p3).elim
      | bor d => exact (hb p3).elim
      | val kd =>
        unfold kvK at p3
        dsimp only at p3
        cases hk : keyOf kd with
        | none => rw [hk] at p3; exact (hb p3).elim
        | some key =>
          rw [hk] at p3
          dsimp only at p3
          rw [bnd_asc] at p3
          refine seqV P (fun x ρ' z => (hx x ρ' z).elim) hb l3 p3 fun r ρ4 p4 v4 M4 H4 e4 l4 q4 n4 => ?_
          have e14 := e13.trans e4 fun _ z => z
          cases r with
          | tmp d => exact (hb p4).elim
          | bor d => exact (hb p4).elim
          | val d4 =>
            have p4 : P (if acc.length < 1000000 then g (acc ++ [.tup [kd, d4]]) (wipeE ρ4 vs) else .bad) := p4
            split at p4
            · rename_i hz
              have al4 := IsK.evo e14 _ al
              have hD4 := (e14.ow Dd (.inr rfl) mD).1.trans hD
              have m4 : M4 Dd := (e14.ow Dd (.inr rfl) mD).2
              refine ⟨xs, key, Is.key q3 hk, hD4, Nat.lt_of_lt_of_le (Nat.lt_of_le_of_lt hl hz) (by decide), ?_⟩
              have ev4 : Evo F M4 H4 M4 (upd H4 Dd (.dK (putK xs key v4))) := evo_mut m4 st.nf
              refine hN M4 _ (wipeE ρ4 vs) (acc ++ [.tup [kd, d4]]) ((e14.weak fun _ z => .inl z).trans ev4 fun _ z => z) ⟨(l4.poke (.inr rfl)).wipe ws, st.nf, putK xs key v4, upd_same, ?_, ?_⟩ p4
              · rw [dicOf_snoc hk]
                exact IsK.put key (IsK.evo ev4 _ al4) (Is.evo ev4 _ q4)
              · have := length_putK xs key v4
                rw [List.length_append]
                simp only [List.length_cons, List.length_nil]
                omega
            · exact (hb p4).elim
theorem t_dcL {J : It} {ds : List D} {Z : Hp → Prop} (P : Out (List D) → Prop) (hx : ∀ x ρ', ¬ P (.exc x ρ')) (hb : ¬ P .bad) (sb : ∀ i ∈ vs0, i ∈ vs) (it : ItD K J ds F M0 H0) (ev0 : Evo F M0 H0 M H) (st : DcSt K L F Dd (wipe σ vs) M H ρ acc) (post : P (lcL h ct (kvE fk fv) vs ds acc ρ))
    (fin : ∀ M' H' ρ' acc', Evo F M H M' H' → DcSt K L F Dd (wipe σ vs) M' H' ρ' acc' → P (.ok acc' ρ') → Z H') :
    ∃ Wv : Nat → Nat → Hp → Prop, (∃ m, Wv 0 m H) ∧ ∀ i m H, Wv i m H →
      (J.stop i H ∧ Z H) ∨ (J.go i H ∧ ∃ Nx : Hp → Prop, (∀ H', Nx H' → ∃ m', m' < m ∧ Wv (i + 1) m' H') ∧ ∀ x H', J.yld i H x H' → TGof K vs0 h x (wipe σ vs) H' fun σ2 H2 => wipe σ2 vs = wipe σ vs ∧ TTof K none ct σ2 H2 fun b H3 =>
        if b = true then TEof K none fk σ2 H3 fun y H4 => TEof K none fv σ2 H4 fun z H5 => ∃ kvs k, y = kV k ∧ H5 Dd = some (.dK kvs) ∧ kvs.length < sizeLine ∧ Nx (upd H5 Dd (.dK (putK kvs k z))) else Nx H3) := by
  obtain ⟨G, Y, w, hG, hY⟩ := it
  let Pv : Nat → Hp → Prop := fun k H' => ∃ M' ρ' acc', Evo F M H M' H' ∧ DcSt K L F Dd (wipe σ vs) M' H' ρ' acc' ∧ P (lcL h ct (kvE fk fv) vs (ds.drop k) acc' ρ')
  refine ⟨fun k m H' => m = ds.length - k ∧ k ≤ ds.length ∧ Pv k H', ⟨ds.length, by simp, Nat.zero_le _, M, ρ, acc, .refl, st, post⟩, ?_⟩
  rintro k m H' ⟨rfl, hk, M', ρ', acc', e', st', p'⟩
  have eg : Evo F M0 H0 M' H' := ev0.trans e' fun _ z => z
  by_cases hlt : k < ds.length
  · refine .inr ⟨w.goes k H' hlt (hG M' H' eg), Pv (k + 1), fun H2 pv => ⟨ds.length - (k + 1), by omega, rfl, hlt, pv⟩, fun x H3 y => ?_⟩
    obtain ⟨d, hd, gr, is⟩ := hY k M' H' x H3 hlt eg st'.rel.dom (w.yields k H' x H3 hlt (hG M' H' eg) y)
    have hdrop : ds.drop k = d :: ds.drop (k + 1) := by
      obtain ⟨hlt, rfl⟩ := List.getElem?_eq_some_iff.mp hd
      exact List.drop_eq_getElem_cons hlt
    rw [hdrop] at p'
    have ge : ∀ {F : AP}, Evo F M' H' M' H3 := gr.evo st'.rel.dom
    obtain ⟨xs, hD, al, hl⟩ := st'.dic
    refine t_dcTurn P hx hb sb ⟨st'.rel.grow gr, st'.nf, xs, gr.keep _ _ hD, IsK.evo (ge (F := F)) _ al, hl⟩ is p' fun M2 H2 ρ2 acc2 e2 st2 p2 => ⟨M2, ρ2, acc2, e'.trans (ge.trans e2 fun _ z => z) fun _ z => z, st2, p2⟩
  · have e : k = ds.length := by omega
    subst e
    rw [List.drop_length] at p'
    exact .inl ⟨w.stops H' (hG M' H' eg), fin M' H' ρ' acc' e' st' p'⟩
end
section
variable {X : Cx} {W : WO} {vs vs0 : List Nat} {fi : M ItS} {h : Tg} {ct : M Bool} {fk fv : M RV}
theorem dc_start {K : PySem.W.Frag} {L : Lc} {F M : AP} {H : Hp} {ρ : Ev} {σ : St} {Dd : Addr} (rel : Rel K L F M H ρ σ) (hD : H Dd = none) : DcSt K L F Dd (wipe σ vs) (fun b => M b ∨ b = Dd) (upd H Dd (.dK [])) (wipeE ρ vs) [] := by
  have r1 := rel.newOwn (o := .dK []) hD
  refine ⟨(r1.sub (F := with1 F Dd) fun x z => z.elim .inl fun e => .inr (by rw [e])).wipe rfl, fun f => rel.dom Dd (rel.fd Dd f) hD, [], upd_same, .nil, Nat.le_refl _⟩
theorem dc_stop {K : PySem.W.Frag} {L : Lc} {F F' M0 M1 M : AP} {H0 H1 H : Hp} {ρ ρ' : Ev} {σ : St} {Dd : Addr} {Q : VK} {acc : List D} (e1 : Evo F M0 H0 M1 H1) (sb : ∀ x, F x → F' x) (rel : Rel K L F' M1 H1 ρ σ) (hD : H1 Dd = none) (ok : wipeOk ρ vs = true) (ev : Evo F' (fun b => M1 b ∨ b = Dd) (upd H1 Dd (.dK [])) M H)
    (st : DcSt K L F' Dd (wipe σ vs) M H ρ' acc) (post : PV K L W σ Q F M0 H0 (.ok (.tmp (.dK (dicOf acc))) (backE ρ ρ' vs))) : Q (.ref Dd) H := by
  have e2 : Evo F' M1 H1 M H := (evo_own rel.dom hD).trans ev fun _ z => z
  have r2 := Rel.back rel ok e2 st.rel
  obtain ⟨xs, h1, h2, _⟩ := st.dic
  refine post (.ref Dd) M H (e1.trans e2 sb) (r2.sub fun x z => z.elim (fun z => .inl (sb x z)) fun z => .inr (by cases z; rfl)) ⟨Dd, rfl, st.rel.fd Dd (.inr rfl), xs, h1, h2⟩ (fun b y f => ?_)
  cases y
  exact st.nf (sb Dd f)
theorem t_dc {K : PySem.W.Frag} {σ : St} {H : Hp} {Q : VK} (sb0 : ∀ i ∈ vs0, i ∈ vs) (hq : TEof K W (dcE vs fi h ct fk fv) σ H Q) : tDc (TIof K W fi) (TGof K vs0 h) (TTof K none ct) (TEof K none fk) (TEof K none fv) vs σ H Q := by
  obtain ⟨L, F, M, ρ, rel, post⟩ := hq
  refine seqI (PV K L W σ Q F M H) (fun _ _ z => z) id rel post (fun ds ρ1 p1 J B M1 H1 e1 nb l1 it0 => ?_) (fun i ρ1 p1 a M1 H1 e1 l1 z => p1.elim)
  have it := it0.mono (F := fun x => F x ∨ B x) fun _ z => .inr z
  have sb : ∀ x, F x → F x ∨ B x := fun _ z => .inl z
  intro Dd hD
  have p1 : PV K L W σ Q F M H ((if wipeOk ρ1 vs = true then finLc ρ1 vs (lcL h ct (kvE fk fv) vs ds [] (wipeE ρ1 vs)) else .bad : Out RV).bnd dicR) := p1
  split at p1
  · rename_i ok
    have it' : ItD K J ds (fun x => F x ∨ B x) (fun b => M1 b ∨ b = Dd) (upd H1 Dd (.dK [])) := by
      obtain ⟨G, Y, w, hG, hY⟩ := it
      exact ⟨G, Y, w, fun M2 H2 e => hG M2 H2 ((evo_own l1.dom hD).trans e fun _ z => z), fun i M2 H2 x H3 hi e => hY i M2 H2 x H3 hi ((evo_own l1.dom hD).trans e fun _ z => z)⟩
    exact t_dcL (fun o => PV K L W σ Q F M H ((finLc ρ1 vs o).bnd dicR)) (fun _ _ z => z) id sb0 it' .refl (dc_start l1 hD) p1 fun M' H' ρ' acc' e' st' p' => dc_stop e1 sb l1 hD ok e' st' p'
  · exact p1.elim
variable {kx vx tg iter : Expr} {ifs : List Expr} {scope : Scope} {own : List (Str × Nat)} {pos : Pos}
theorem e_dc (hc : X.calm = true) (hN : X.N.Nodup) (hi : PI X tg iter (TIof X.K W fi)) (ok : blkC X.N X.env.scope scope own = true)
    (hg : ∀ (s : Shared) (H : Hp) (C : Addr) (cl : List (Str × Addr)) (fp : List Addr), PG (X.blk s H scope (compEnvC scope cl C X.env) fp) tg (TGof X.K vs0 h)) (ht : ∀ (s : Shared) (H : Hp) (C : Addr) (cl : List (Str × Addr)) (fp : List Addr), PTs (X.blk s H scope (compEnvC scope cl C X.env) fp) ifs (TTof X.K none ct))
    (hk : ∀ (s : Shared) (H : Hp) (C : Addr) (cl : List (Str × Addr)) (fp : List Addr), PE (X.blk s H scope (compEnvC scope cl C X.env) fp) kx (TEof X.K none fk))
    (he : ∀ (s : Shared) (H : Hp) (C : Addr) (cl : List (Str × Addr)) (fp : List Addr), PE (X.blk s H scope (compEnvC scope cl C X.env) fp) vx (TEof X.K none fv)) (sb : ∀ i ∈ vs0, i ∈ own.map (·.2) := by decide) (hs : ∀ x, foldedSetIterable iter X.env x = pure x := by intro _; rfl) :
    PE X (.DictComp kx vx [⟨tg, iter, ifs, 0⟩] scope pos) (TEof X.K W (fz (dcE (own.map (·.2)) fi h ct fk fv))) := e_fz (PE_weak (pe_dc hc hN hi (blkOk_by ok) hg ht hk he hs) fun _ _ _ => t_dc sb)
theorem s_setDc (i : Nat) {y : Str} {py spos : Pos} (hc : X.calm = true) (hN : X.N.Nodup) (hi : PI X tg iter (TIof X.K W fi)) (ok : blkC X.N X.env.scope scope own = true)
    (hg : ∀ (s : Shared) (H : Hp) (C : Addr) (cl : List (Str × Addr)) (fp : List Addr), PG (X.blk s H scope (compEnvC scope cl C X.env) fp) tg (TGof X.K vs0 h)) (ht : ∀ (s : Shared) (H : Hp) (C : Addr) (cl : List (Str × Addr)) (fp : List Addr), PTs (X.blk s H scope (compEnvC scope cl C X.env) fp) ifs (TTof X.K none ct))
    (hk : ∀ (s : Shared) (H : Hp) (C : Addr) (cl : List (Str × Addr)) (fp : List Addr), PE (X.blk s H scope (compEnvC scope cl C X.env) fp) kx (TEof X.K none fk))
    (he : ∀ (s : Shared) (H : Hp) (C : Addr) (cl : List (Str × Addr)) (fp : List Addr), PE (X.blk s H scope (compEnvC scope cl C X.env) fp) vx (TEof X.K none fv)) (sb : ∀ i ∈ vs0, i ∈ own.map (·.2) := by decide) (hy : X.N[i]? = some y := by rfl) (hyl : X.env.scope.names.lookup y = some .local := by rfl)
    (hsw : swapsWith (.DictComp kx vx [⟨tg, iter, ifs, 0⟩] scope pos) (some (.Name y py)) spos.line X.env = pure true := by exact sw_trueD rfl rfl rfl (by decide +kernel)) (hs : ∀ x, foldedSetIterable iter X.env x = pure x := by intro _; rfl) :
    PS X (.Assign [.Name y py] (.DictComp kx vx [⟨tg, iter, ifs, 0⟩] scope pos) spos) (TSof X.K W (setS i (fz (dcE (own.map (·.2)) fi h ct fk fv)))) := by
  refine PS_weak (ps_setDc hc hN hy hyl hsw hi (blkOk_by ok) hg ht hk he hs) fun D' σ H hq => ?_
  have z := t_set hq
  exact t_dc sb (TEof.fz z)
end

/-! ### for k, v in d.items() -/
def okK : Key → Bool
  | .inl _ => true
  | .inr x => x.cps.toList.all fun c => decide (c < 0x110000)
theorem okK_str {x : Str} : okK (.inr x) = PyData.strOk x := by
  show (x.cps.toList.all fun c => decide (c < 0x110000)) = x.cps.all fun c => decide (c < 0x110000)
  rw [Array.all_toList]
def keyD : Key → D
  | .inl i => .int i
  | .inr x => .str x
def pairsD : D → Option (List D)
  | .dK kvs => if (kvs.all fun kv => okK kv.1) = true then some (kvs.map fun kv => .tup [keyD kv.1, kv.2]) else none
  | _ => none
def itemsR : RV → M ItS
  | .val d => (match pairsD d with
    | some l => ret (.dat l)
    | none => fail)
  | _ => fail
def itemsE (fe : M RV) : M ItS := bnd fe itemsR
section
variable {X : Cx} {W : WO}
/-- a dict that is walked stays locked -/
theorem pe_frz {e : Expr} {t : L2.TE} (h : PE X e t) : PE X e (fun σ H Q => t σ H fun x H1 => ∃ d, x = .ref d ∧ ((∃ o u, H1 d = some (.frz o u) ∧ Q x H1) ∨ ∃ u, H1 d = some u ∧ Mut (some u) ∧ ∀ od, Q x (upd H1 d (.frz od u)))) := by
  refine ⟨fun pins s σ H Q I hw => thn (h.run pins s σ H _ I hw) fun v s1 ⟨x, H1, I1, r, d, ex, q⟩ => ?_⟩
  rcases q with ⟨o, u, _, q⟩ | ⟨u, hd, mu, q⟩
  · exact ⟨x, H1, I1, r, q⟩
  · obtain ⟨od, I2⟩ := I1.lock hd mu
    exact ⟨x, _, I2, r, q od⟩
theorem IsK.kys {M : AP} {K : PySem.W.Frag} {H : Hp} : ∀ {xs : List (Key × V)} {ds : List (Key × D)}, IsK M K H xs ds → (ds.all fun kv => okK kv.1) = true → IsAll M K H (xs.map fun kv => kV kv.1) (ds.map fun kv => keyD kv.1)
  | _, [], h, _ => by cases h; exact .nil
  | _, (k, d) :: ds, h, e => by
    cases h with
    | cons a b =>
      rw [List.all_cons, Bool.and_eq_true] at e
      refine .cons ?_ (b.kys e.2)
      cases k with
      | inl i => exact .int i
      | inr x => exact .str x (okK_str.symm.trans e.1)
theorem IsK.vls {M : AP} {K : PySem.W.Frag} {H : Hp} : ∀ {xs : List (Key × V)} {ds : List (Key × D)}, IsK M K H xs ds → IsAll M K H (xs.map Prod.snd) (ds.map Prod.snd)
  | _, [], h => by cases h; exact .nil
  | _, (k, d) :: ds, h => by cases h with | cons a b => exact .cons a b.vls
theorem itd_items {K : PySem.W.Frag} {F M : AP} {H : Hp} {p : Addr} {o : Obj} {xs : List (Key × V)} {ds : List (Key × D)} (h : H p = some (.frz o (.dK xs))) (al : IsK M K H xs ds) (n : ¬ M p) (ok : (ds.all fun kv => okK kv.1) = true) : ItD K (Iti p o xs) (ds.map fun kv => .tup [keyD kv.1, kv.2]) F M H := by
  have e : (ds.map fun kv => D.tup [keyD kv.1, kv.2]) = ((ds.map fun kv => keyD kv.1).zip (ds.map Prod.snd)).map fun p => D.tup [p.1, p.2] := by
    rw [List.zip_map', List.map_map]
    rfl
  rw [e]
  refine itd_pair (xs := xs.map fun kv => kV kv.1) (ys := xs.map Prod.snd) (G := fun H => H p = some (.frz o (.dK xs))) ?_ (fun M2 H2 e => (e.nd h n rfl).1) (al.kys ok) al.vls
  have w := walk_items (d := p) (o := o) (kvs := xs)
  have l : min (xs.map fun kv => kV kv.1).length (xs.map Prod.snd).length = xs.length := by simp
  rw [l]
  have e1 : (fun (i : Nat) => (xs.map fun kv : Key × V => kV kv.1)[i]?) = fun (i : Nat) => xs[i]?.map fun kv : Key × V => kV kv.1 := by funext i; rw [List.getElem?_map]
  have e2 : (fun (i : Nat) => (xs.map Prod.snd)[i]?) = fun (i : Nat) => xs[i]?.map Prod.snd := by funext i; rw [List.getElem?_map]
  rw [e1, e2]
  exact w
theorem i_items {e : Expr} {fe : M RV} {elts : List Expr} {kk : Nat} {tpos apos cpos : Pos} (he : PE X e (TEof X.K W fe)) (hbase : attributeBase e "items" X.env (eval e X.env) = eval e X.env := by rfl) (hline : (apos.endLine == cpos.line) = true := by rfl) :
    PI X (.Tuple elts kk tpos) (.Call (.Attribute e "items" apos) [] [] cpos) (TIof X.K W (itemsE fe)) := by
  refine PI_weak (pi_items (pe_frz he) hbase hline) fun σ H R h => ?_
  obtain ⟨L, F, M, ρ, rel, post⟩ := h
  refine seqV (PIt X.K L W σ R F M H) (fun _ _ z => z) id rel post fun r1 ρ1 p1 v1 M1 H1 e1 l1 q1 n1 => ?_
  cases r1 with
  | bor i => exact p1.elim
  | tmp d => exact p1.elim
  | val d =>
    have p1 : PIt X.K L W σ R F M H (itemsR (.val d) ρ1) := p1
    unfold itemsR at p1
    dsimp only at p1
    cases d with
    | dK kvs =>
      by_cases ok : (kvs.all fun kv => okK kv.1) = true
      · have ep : pairsD (.dK kvs) = some (kvs.map fun kv => .tup [keyD kv.1, kv.2]) := if_pos ok
        rw [ep] at p1
        · have p1 : PIt X.K L W σ R F M H (.ok (.dat (kvs.map fun kv => .tup [keyD kv.1, kv.2])) ρ1) := p1
          cases q1 with
          | dK hr n al =>
            rename_i a xs
            refine ⟨a, rfl, ?_⟩
            rcases hr with hr | ⟨o, hr⟩
            · refine .inr ⟨_, hr, trivial, fun od => ⟨a, od, xs, rfl, upd_same, ?_⟩⟩
              have ev : ∀ {F : AP}, Evo F M1 H1 M1 (upd H1 a (.frz od (.dK xs))) := ⟨fun b o hb nb => by
                by_cases eb : b = a
                · subst eb
                  rw [hr] at hb
                  cases hb
                  exact ⟨.inr ⟨rfl, od, upd_same⟩, nb⟩
                · exact ⟨.inl (by rw [upd_ne eb]; exact hb), nb⟩, fun b _ mb => ⟨upd_ne fun eb => n (eb ▸ mb), mb⟩⟩
              exact p1 _ noB M1 _ (e1.trans ev fun _ z => z) (fun _ z => z.elim) ((l1.keep ev (fun i s b q m z => by
                obtain ⟨c, d, _, e2, e3, _⟩ := l1.mine q m
                rw [e2] at z; cases z
                exact ⟨upd_ne fun eb => n (eb ▸ e3), e3⟩) (fun b mb => by
                have ne : b ≠ a := fun eb => n (eb ▸ mb)
                rw [upd_ne ne]; exact l1.dom b mb)).noB fun _ z => z) (itd_items upd_same (IsK.evo (ev (F := noB)) _ al) n ok)
            · exact .inl ⟨o, _, hr, a, o, xs, rfl, hr, p1 _ noB M1 H1 e1 (fun _ z => z.elim) (l1.noB fun _ z => z) (itd_items hr al n ok)⟩
      · have ep : pairsD (.dK kvs) = none := if_neg ok
        rw [ep] at p1
        exact p1.elim
    | _ => exact p1.elim
end
end Fd

namespace Fd
open PySem L2
/-! ### dict comprehensions, d.items() -/
section
variable {α X σ : Type} {S S1 S2 W : List SS} {r : Res X} {Q : X → α → Ev → Prop} {κ : RV → M α} {fi : M ItS} {h : Tg} {ct : M Bool} {fk fv : M RV} {vs : List Nat} {ds : List D}
theorem z_dc (hh : Go S (bnd fi fun it => bnd (dcK vs h ct fk fv it) κ) r Q) : Go S (bnd (dcE vs fi h ct fk fv) κ) r Q := hh.eq (by unfold dcE; rw [bnd_assoc])
theorem z_dcD {b : D → Res (Option D)} {k : List D → Res X} (wo : wipeOkS S vs = true) (w : Sub (wipeS S vs) W) (hb : ∀ d, Go W (turnC h ct (kvE fk fv) d) (b d) (QCP W vs)) (T : List SS) (hT : backS S W vs = T) (hk : ∀ l, Go T (κ (.val (.dK (dicOf l)))) (k l) Q) : Go S (bnd (dcK vs h ct fk fv (.dat ds)) (fun r => bnd (fzR r) κ)) ((lcP b ds).bind k) Q := by
  have e : dcK vs h ct fk fv (.dat ds) = bnd (lcK vs h ct (kvE fk fv) (.dat ds)) dicR := rfl
  rw [e, bnd_assoc]
  exact z_lcD wo w hb T hT fun l => hk l
def keyR (kd : D) : Res Unit := if (keyOf kd).isSome = true then .ok () else .bad
theorem z_kv (hh : Go S (bnd fk fun r => bnd (kvK fv r) κ) r Q) : Go S (bnd (kvE fk fv) κ) r Q := hh.eq (by unfold kvE; rw [bnd_assoc])
theorem z_kvK {kd : D} (hh : Go S (bnd fv fun r => bnd (kvK2 kd r) κ) r Q) : Go S (bnd (kvK fv (.val kd)) κ) ((keyR kd).bind fun _ => r) Q := by
  unfold kvK keyR
  dsimp only
  cases e : keyOf kd with
  | none => exact z_bad
  | some k =>
    dsimp only
    rw [bnd_assoc]
    exact hh
theorem z_kvK2 {kd e : D} (hh : Go S (κ (.val (.tup [kd, e]))) r Q) : Go S (bnd (kvK2 kd (.val e)) κ) r Q := hh
end
section
variable {α X : Type} {S : List SS} {r : Res X} {Q : X → α → Ev → Prop} {κ : ItS → M α} {fa : M RV} {d : D}
def pairsR (d : D) : Res (List D) := match pairsD d with
  | some l => .ok l
  | none => .bad
theorem z_items (h : Go S (bnd fa fun r => bnd (itemsR r) κ) r Q) : Go S (bnd (itemsE fa) κ) r Q := h.eq (by unfold itemsE; rw [bnd_assoc])
theorem z_itemsV {k : List D → Res X} (h : ∀ ds, Go S (κ (.dat ds)) (k ds) Q) : Go S (bnd (itemsR (.val d)) κ) ((pairsR d).bind k) Q := by
  unfold itemsR pairsR
  dsimp only
  cases e : pairsD d with
  | none => exact z_bad
  | some l => exact h l
end
end Fd

/-! Sp5: sheets made of names and wires; sheets of lists. -/
namespace Sp
open PySem L2 Fd
theorem asc_ext {α : Type} {R : α → α → Prop} (as : ∀ a b, R a b → ¬ R b a) : ∀ {l m : List α}, l.Pairwise R → m.Pairwise R → (∀ x, x ∈ l ↔ x ∈ m) → l = m
  | [], [], _, _, _ => rfl
  | [], b :: m, _, _, h => nomatch (h b).mpr List.mem_cons_self
  | a :: l, [], _, _, h => nomatch (h a).mp List.mem_cons_self
  | a :: l, b :: m, hl, hm, h => by
    obtain ⟨l1, l2⟩ := List.pairwise_cons.mp hl
    obtain ⟨m1, m2⟩ := List.pairwise_cons.mp hm
    have e : a = b := by
      rcases List.mem_cons.mp ((h a).mp List.mem_cons_self) with e | ha
      · exact e
      · rcases List.mem_cons.mp ((h b).mpr List.mem_cons_self) with e | hb
        · exact e.symm
        · exact absurd (l1 b hb) (as _ _ (m1 a ha))
    subst e
    rw [asc_ext as l2 m2 fun x => ?_]
    have nx : ∀ y ∈ l, y ≠ a := fun y hy e => as _ _ (l1 y hy) (by rw [e]; exact e ▸ l1 y hy)
    have nm : ∀ y ∈ m, y ≠ a := fun y hy e => as _ _ (m1 y hy) (by rw [e]; exact e ▸ m1 y hy)
    constructor
    · intro hx
      rcases List.mem_cons.mp ((h x).mp (List.mem_cons_of_mem _ hx)) with e | z
      · exact absurd e (nx x hx)
      · exact z
    · intro hx
      rcases List.mem_cons.mp ((h x).mpr (List.mem_cons_of_mem _ hx)) with e | z
      · exact absurd e (nm x hx)
      · exact z
theorem slt_as (x y : Str) (h : slt x y = true) : ¬ slt y x = true := by
  rw [← dlt_str] at h ⊢
  rw [dlt_asymm h]
  decide
theorem row_as (x y : Row) (h : dlt (dRow x) (dRow y) = true) : ¬ dlt (dRow y) (dRow x) = true := by
  rw [dlt_asymm h]
  decide
theorem wire_as (x y : Wire) (h : dlt (dWire x) (dWire y) = true) : ¬ dlt (dWire y) (dWire x) = true := by
  rw [dlt_asymm h]
  decide
theorem al_str (l : List Str) : AllA (l.map D.str) := fun x hx y hy => by
  obtain ⟨a, _, rfl⟩ := List.mem_map.mp hx
  obtain ⟨b, _, rfl⟩ := List.mem_map.mp hy
  simp [D.py, PySem.W.alike]
theorem al_wires (l : List Wire) : AllA (l.map dWire) := fun x hx y hy => by
  obtain ⟨a, _, rfl⟩ := List.mem_map.mp hx
  obtain ⟨b, _, rfl⟩ := List.mem_map.mp hy
  exact al_wire a b
/-! ### names, each once, sorted -/
def sst (l : List Str) : List Str := (isort (dedup (l.map D.str))).map unStr
theorem sst_map (l : List Str) : (sst l).map D.str = isort (dedup (l.map D.str)) := un_strs fun d hd => by
  obtain ⟨x, _, e⟩ := List.mem_map.mp (((dedup_spec (al_str l)).2 d).mp ((isort_perm _).mem_iff.mp hd))
  exact ⟨x, e.symm⟩
theorem mem_sst {l : List Str} {x : Str} : x ∈ sst l ↔ x ∈ l := by
  have h1 : x ∈ sst l ↔ D.str x ∈ (sst l).map D.str := ⟨fun h => List.mem_map_of_mem h, fun h => by
    obtain ⟨q, hq, e⟩ := List.mem_map.mp h
    cases e; exact hq⟩
  rw [h1, sst_map, (isort_perm _).mem_iff, (dedup_spec (al_str l)).2]
  exact ⟨fun h => by obtain ⟨q, hq, e⟩ := List.mem_map.mp h; cases e; exact hq, fun h => List.mem_map_of_mem h⟩
theorem sst_rise (l : List Str) : (sst l).Pairwise fun a b => slt a b = true := by
  have sp := dedup_spec (al_str l)
  have z := isort_rise (fun a ha b hb => al_str l a ((sp.2 a).mp ha) b ((sp.2 b).mp hb)) sp.1
  rw [← sst_map] at z
  exact (List.pairwise_map.mp z).imp fun {a b} q => by rw [← dlt_str]; exact q
theorem rise_nd {l : List Str} (h : l.Pairwise fun a b => slt a b = true) : l.Nodup := h.imp fun z => slt_ne z
theorem sst_len (l : List Str) : (sst l).length ≤ l.length := by
  have := congrArg List.length (sst_map l)
  rw [List.length_map, (isort_perm _).length_eq] at this
  have := dedup_len (l.map D.str)
  rw [List.length_map] at this
  omega
theorem sortSet_sst {l : List Str} (hl : l.length < 64) : sortSetD (.lst (l.map D.str)) = some (.tmp (.lst ((sst l).map D.str))) := by rw [sortSet_strs hl, sst_map]
theorem srt_rise {l : List Str} (nd : l.Nodup) : (srt l).Pairwise fun a b => slt a b = true := by
  have z := isort_rise (al_str l) (nodup_strs nd)
  rw [← srt_map] at z
  exact (List.pairwise_map.mp z).imp fun {a b} q => by rw [← dlt_str]; exact q
theorem srt_eq {l m : List Str} (nd : l.Nodup) (nd' : m.Nodup) (h : ∀ x, x ∈ l ↔ x ∈ m) : srt l = srt m := asc_ext slt_as (srt_rise nd) (srt_rise nd') fun x => by rw [mem_srt, mem_srt, h]
theorem srt_id {l : List Str} (h : l.Pairwise fun a b => slt a b = true) : srt l = l := asc_ext slt_as (srt_rise (rise_nd h)) h fun x => mem_srt
/-! ### wires, each once, sorted -/
def unWire : D → Wire
  | .tup [.str a, .str b, .int c] => (a, b, c)
  | _ => ("", "", 0)
theorem dWire_inj {a b : Wire} (h : dWire a = dWire b) : a = b := by
  obtain ⟨a1, a2, a3⟩ := a
  obtain ⟨b1, b2, b3⟩ := b
  simp only [dWire, D.tup.injEq, List.cons.injEq, D.str.injEq, D.int.injEq, and_true] at h
  obtain ⟨rfl, rfl, rfl⟩ := h
  rfl
def srtW (ws : List Wire) : List Wire := (isort (dedup (ws.map dWire))).map unWire
theorem srtW_map (ws : List Wire) : (srtW ws).map dWire = isort (dedup (ws.map dWire)) := by
  unfold srtW
  rw [List.map_map]
  refine (List.map_congr_left fun d hd => ?_).trans (List.map_id _)
  obtain ⟨x, _, e⟩ := List.mem_map.mp (((dedup_spec (al_wires ws)).2 d).mp ((isort_perm _).mem_iff.mp hd))
  subst e
  rfl
theorem mem_srtW {ws : List Wire} {w : Wire} : w ∈ srtW ws ↔ w ∈ ws := by
  have h1 : ∀ l : List Wire, w ∈ l ↔ dWire w ∈ l.map dWire := fun l => ⟨fun h => List.mem_map_of_mem h, fun h => by
    obtain ⟨q, hq, e⟩ := List.mem_map.mp h
    exact dWire_inj e ▸ hq⟩
  rw [h1, srtW_map, (isort_perm _).mem_iff, (dedup_spec (al_wires ws)).2, ← h1]
theorem srtW_rise (ws : List Wire) : (srtW ws).Pairwise fun a b => dlt (dWire a) (dWire b) = true := by
  have sp := dedup_spec (al_wires ws)
  have z := isort_rise (fun a ha b hb => al_wires ws a ((sp.2 a).mp ha) b ((sp.2 b).mp hb)) sp.1
  rw [← srtW_map] at z
  exact List.pairwise_map.mp z
theorem srtW_len (l : List Wire) : (srtW l).length ≤ l.length := by
  have := congrArg List.length (srtW_map l)
  rw [List.length_map, (isort_perm _).length_eq] at this
  have := dedup_len (l.map dWire)
  rw [List.length_map] at this
  omega
theorem sortSet_wires {l : List Wire} (hl : l.length < 64) : sortSetD (.lst (l.map dWire)) = some (.tmp (.lst ((srtW l).map dWire))) := by
  have k : keysOkB (l.map dWire) = true := by
    unfold keysOkB
    rw [Bool.or_eq_true]
    right
    rw [List.all_eq_true]
    intro d hd
    obtain ⟨r, _, rfl⟩ := List.mem_map.mp hd
    rfl
  rw [srtW_map]
  show (if _ then _ else _) = _
  rw [if_pos ⟨k, sortOk_wires l, by rw [List.length_map]; omega⟩]
theorem rows_srtW {ws : List Wire} (hw : ws.length ≤ 20) (n : Str) : ((srtW ws).filter fun w => w.1 == n).map (·.2) = rowsFor ws n := by
  refine asc_ext row_as ?_ (rowsFor_ok ws n hw).2.2.1 fun r => ?_
  · refine List.pairwise_map.mpr (List.Pairwise.imp_of_mem (fun {a b} ha hb z => ?_) ((srtW_rise ws).filter _))
    have e1 : a.1 = n := by simpa using (List.mem_filter.mp ha).2
    have e2 : b.1 = n := by simpa using (List.mem_filter.mp hb).2
    rw [dlt_wire, if_pos (e1.trans e2.symm)] at z
    exact z
  · rw [mem_rowsFor hw]
    constructor
    · intro h
      obtain ⟨w, hw, rfl⟩ := List.mem_map.mp h
      obtain ⟨h1, h2⟩ := List.mem_filter.mp hw
      have : w.1 = n := by simpa using h2
      rw [← this]
      exact mem_srtW.mp h1
    · intro h
      exact List.mem_map.mpr ⟨(n, r), List.mem_filter.mpr ⟨mem_srtW.mpr h, by simp⟩, rfl⟩
theorem rowsFor_eq {ws ws' : List Wire} (hw : ws.length ≤ 20) (hw' : ws'.length ≤ 20) {n : Str} (h : ∀ r, (n, r) ∈ ws ↔ (n, r) ∈ ws') : rowsFor ws n = rowsFor ws' n :=
  asc_ext row_as (rowsFor_ok ws n hw).2.2.1 (rowsFor_ok ws' n hw').2.2.1 fun r => by rw [mem_rowsFor hw, mem_rowsFor hw', h]
theorem planFor_eq {ts ts' : List Str} {ws ws' : List Wire} (nd : ts.Nodup) (nd' : ts'.Nodup) (hm : ∀ x, x ∈ ts ↔ x ∈ ts') (hw : ws.length ≤ 20) (hw' : ws'.length ≤ 20) (h : ∀ n ∈ ts, ∀ r, (n, r) ∈ ws ↔ (n, r) ∈ ws') : planFor ts ws = planFor ts' ws' := by
  have e : srt ts = srt ts' := srt_eq nd nd' hm
  show (srt ts).map (fun n => (n, rowsFor ws n)) = (srt ts').map fun n => (n, rowsFor ws' n)
  rw [← e]
  exact List.map_congr_left fun n hn => by rw [rowsFor_eq hw hw' (h n (mem_srt.mp hn))]
theorem wires_nd {p : List Col} (h : PlanOk p) : (wiresOf p).Nodup := (wires_rise h).imp fun {a b} z e => by rw [e, dlt_irrefl] at z; cases z
theorem nd_len {α : Type} [DecidableEq α] {l m : List α} (nd : l.Nodup) (h : ∀ x ∈ l, x ∈ m) : l.length ≤ m.length := nd.length_le_of_subset h
theorem planWires_len {ts : List Str} {ws : List Wire} (nd : ts.Nodup) (hl : ts.length ≤ 10) (hw : ws.length ≤ 20) : (wiresOf (planFor ts ws)).length ≤ ws.length :=
  nd_len (wires_nd (planFor_ok nd hl hw)) fun w h => ((mem_wires hw).mp h).1
/-! ### a dict of names -/
theorem look_fresh {α : Type} {m : List (Key × α)} {k : Key} (h : ∀ p ∈ m, p.1 ≠ k) (v : α) : putD m k v = m ++ [(k, v)] := by
  unfold putD
  rw [if_neg]
  intro z
  obtain ⟨p, hp, e⟩ := List.any_eq_true.mp z
  exact h p hp (by simpa using e)
theorem dicOf_names (g : Str → D) : ∀ {L : List Str}, L.Nodup → dicOf (L.map fun n => .tup [.str n, g n]) = L.map fun n => (Sum.inr n, g n) := by
  intro L
  have key : ∀ (L pre : List Str), (pre ++ L).Nodup → List.foldl dic1 (pre.map fun n => ((Sum.inr n : Key), g n)) (L.map fun n => D.tup [.str n, g n]) = (pre ++ L).map fun n => ((Sum.inr n : Key), g n) := by
    intro L
    induction L with
    | nil => intro pre _; simp
    | cons n L ih =>
      intro pre nd
      rw [List.map_cons, List.foldl_cons]
      have e : dic1 (pre.map fun n => ((Sum.inr n : Key), g n)) (.tup [.str n, g n]) = (pre ++ [n]).map fun n => ((Sum.inr n : Key), g n) := by
        show putD _ (Sum.inr n) (g n) = _
        rw [look_fresh, List.map_append]
        · rfl
        · intro p hp e
          obtain ⟨q, hq, rfl⟩ := List.mem_map.mp hp
          have e : q = n := by injection e
          subst e
          have := (List.nodup_append.mp nd).2.2 q hq q List.mem_cons_self
          exact this rfl
      rw [e, ih (pre ++ [n]) (by simpa using nd)]
      simp
  intro nd
  exact key L [] nd
theorem pairs_names (g : Str → D) {L : List Str} (h : ∀ n ∈ L, PyData.strOk n = true) : pairsR (.dK (L.map fun n => (Sum.inr n, g n))) = .ok (L.map fun n => .tup [.str n, g n]) := by
  have e : pairsD (.dK (L.map fun n => (Sum.inr n, g n))) = some (L.map fun n => .tup [.str n, g n]) := by
    have ok : ((L.map fun n => ((Sum.inr n : Key), g n)).all fun kv => okK kv.1) = true := by
      rw [List.all_eq_true]
      intro p hp
      obtain ⟨n, hn, rfl⟩ := List.mem_map.mp hp
      exact okK_str.trans (h n hn)
    refine (if_pos ok).trans ?_
    rw [List.map_map]; rfl
  unfold pairsR
  rw [e]
/-! ### tuples, or lists in their place -/
def enc (s : Bool) (ds : List D) : D := if s = true then .lst ds else .tup ds
def sRow (s : Bool) (r : Row) : D := enc s [.str r.1, .int r.2]
def sRows (s : Bool) (rs : List Row) : D := enc s (rs.map (sRow s))
def sCol (s : Bool) (c : Col) : D := enc s [.str c.1, sRows s c.2]
def sPlan (s : Bool) (p : List Col) : D := enc s (p.map (sCol s))
def sWire (s : Bool) (w : Wire) : D := enc s [.str w.1, .str w.2.1, .int w.2.2]
theorem sRow_f (r : Row) : sRow false r = dRow r := rfl
theorem sRows_f (r : List Row) : sRows false r = dRows r := by
  show D.tup (r.map (sRow false)) = D.tup (r.map dRow)
  rw [show sRow false = dRow from funext sRow_f]
theorem sCol_f (c : Col) : sCol false c = dCol c := by
  show D.tup [.str c.1, sRows false c.2] = D.tup [.str c.1, dRows c.2]
  rw [sRows_f]
theorem sPlan_f (p : List Col) : sPlan false p = dPlan p := by
  show D.tup (p.map (sCol false)) = D.tup (p.map dCol)
  rw [show sCol false = dCol from funext sCol_f]
theorem items_enc (s : Bool) (ds : List D) : items (enc s ds) = .ok ds := by cases s <;> rfl
theorem un2_enc (s : Bool) (a b : D) : un2 (enc s [a, b]) = .ok (a, b) := by cases s <;> rfl
theorem ix0_enc (s : Bool) (a b c : D) : ixD (enc s [a, b, c]) (.int 0) = some (.val a) := by cases s <;> rfl
theorem ix1_enc (s : Bool) (a b c : D) : ixD (enc s [a, b, c]) (.int 1) = some (.val b) := by cases s <;> rfl
theorem isi_enc (s : Bool) (ds : List D) : isiN ["list", "tuple"] (enc s ds) = some (.val (.bl true)) := by cases s <;> rfl
theorem isi_str (x : Str) : isiN ["list", "tuple"] (.str x) = some (.val (.bl false)) := by rfl
theorem isi_int (x : Int) : isiN ["list", "tuple"] (.int x) = some (.val (.bl false)) := by rfl
end Sp

/-! Sp6: wires compared; sheets compared with themselves. -/
namespace Sp
open PySem L2 Fd
theorem eqv_wire (a b : Wire) : PyData.eqv (dWire a).py (dWire b).py = (a == b) := by
  have h := eqv_iff (al_wire a b) (al_wire a a)
  rw [Bool.eq_iff_iff, h, beq_iff_eq]
  exact ⟨dWire_inj, fun e => by rw [e]⟩
theorem dep_wire (a : Wire) : (dWire a).dep ≤ 3 := by simp [dWire, D.dep, D.py, D.pyAll, PyData.depth, PyData.depthAll]
theorem pl_wire (a : Wire) : (dWire a).pl = true := by simp [dWire, D.pl, D.plAll]
theorem pl_wires : ∀ l : List Wire, D.plAll (l.map dWire) = true
  | [] => rfl
  | a :: l => by simp [D.plAll, pl_wire, pl_wires l]
theorem ne_wire (a b : Wire) : neD (dWire a) (dWire b) = some (.val (.bl (!(a == b)))) := by
  unfold neD
  rw [if_pos ⟨pl_wire a, pl_wire b, by have := dep_wire a; omega⟩, eqv_wire]
theorem in_wires (neg : Bool) (w : Wire) (l : List Wire) : inD neg (dWire w) (.tup (l.map dWire)) = some (.val (.bl ((l.any fun y => y == w) != neg))) ∧ inD neg (dWire w) (.lst (l.map dWire)) = some (.val (.bl ((l.any fun y => y == w) != neg))) := by
  have e : inSeq (dWire w) (l.map dWire) = l.any fun y => y == w := by
    unfold inSeq
    rw [List.any_map]
    congr 1
    funext y
    exact eqv_wire y w
  have c : (dWire w).pl = true ∧ D.plAll (l.map dWire) = true ∧ min (PyData.depthAll (D.pyAll (l.map dWire))) (dWire w).dep ≤ 64 := ⟨pl_wire w, pl_wires l, by have := dep_wire w; omega⟩
  constructor
  · show (if _ then _ else _) = _
    rw [if_pos c, e]
  · show (if _ then _ else _) = _
    rw [if_pos c, e]
theorem depAll_le {n : Nat} : ∀ {l : List D}, (∀ d ∈ l, d.dep ≤ n) → PyData.depthAll (D.pyAll l) ≤ n
  | [], _ => by simp [D.pyAll, PyData.depthAll]
  | d :: l, h => by
    have h1 := h d List.mem_cons_self
    have h2 := depAll_le (l := l) fun e he => h e (List.mem_cons_of_mem _ he)
    unfold D.dep at h1
    simp only [D.pyAll, PyData.depthAll]
    omega
theorem plAll_all : ∀ {l : List D}, (∀ d ∈ l, d.pl = true) → D.plAll l = true
  | [], _ => rfl
  | d :: l, h => by
    simp only [D.plAll, Bool.and_eq_true]
    exact ⟨h d List.mem_cons_self, plAll_all fun e he => h e (List.mem_cons_of_mem _ he)⟩
theorem enc_pl (s : Bool) {l : List D} (h : ∀ d ∈ l, d.pl = true) : (enc s l).pl = true := by
  cases s
  · exact plAll_all h
  · exact plAll_all h
theorem enc_dep (s : Bool) {n : Nat} {l : List D} (h : ∀ d ∈ l, d.dep ≤ n) : (enc s l).dep ≤ n + 1 := by
  have := depAll_le h
  cases s
  · simp only [enc, D.dep, D.py, PyData.depth, Bool.false_eq_true, if_false]; omega
  · simp only [enc, D.dep, D.py, PyData.depth, if_true]; omega
theorem sRow_pd (s : Bool) (r : Row) : (sRow s r).pl = true ∧ (sRow s r).dep ≤ 3 := by cases s <;> simp [sRow, enc, D.pl, D.plAll, D.dep, D.py, D.pyAll, PyData.depth, PyData.depthAll]
theorem sRows_pd (s : Bool) (rs : List Row) : (sRows s rs).pl = true ∧ (sRows s rs).dep ≤ 4 := by
  have h : ∀ d ∈ rs.map (sRow s), d.pl = true ∧ d.dep ≤ 3 := fun d hd => by
    obtain ⟨r, _, rfl⟩ := List.mem_map.mp hd
    exact sRow_pd s r
  exact ⟨enc_pl s fun d hd => (h d hd).1, enc_dep s fun d hd => (h d hd).2⟩
theorem sCol_pd (s : Bool) (c : Col) : (sCol s c).pl = true ∧ (sCol s c).dep ≤ 5 := by
  have h : ∀ d ∈ [D.str c.1, sRows s c.2], d.pl = true ∧ d.dep ≤ 4 := fun d hd => by
    rcases List.mem_cons.mp hd with rfl | hd
    · exact ⟨rfl, by simp [D.dep, D.py, PyData.depth]⟩
    · rcases List.mem_cons.mp hd with rfl | hd
      · exact sRows_pd s _
      · nomatch hd
  exact ⟨enc_pl s fun d hd => (h d hd).1, enc_dep s fun d hd => (h d hd).2⟩
theorem sPlan_pd (s : Bool) (p : List Col) : (sPlan s p).pl = true ∧ (sPlan s p).dep ≤ 6 := by
  have h : ∀ d ∈ p.map (sCol s), d.pl = true ∧ d.dep ≤ 5 := fun d hd => by
    obtain ⟨r, _, rfl⟩ := List.mem_map.mp hd
    exact sCol_pd s r
  exact ⟨enc_pl s fun d hd => (h d hd).1, enc_dep s fun d hd => (h d hd).2⟩
mutual
theorem eqv_self : ∀ d : D, d.pl = true → PyData.eqv d.py d.py = true
  | .non, _ => rfl
  | .bl b, _ => by simp [D.py, PyData.eqv]
  | .int i, _ => by simp [D.py, PyData.eqv]
  | .str x, _ => by simp [D.py, PyData.eqv]
  | .lst xs, h => by rw [D.py, PyData.eqv]; exact eqvAll_self xs h
  | .tup xs, h => by rw [D.py, PyData.eqv]; exact eqvAll_self xs h
  | .dK _, h => nomatch h
  | .dT _, h => nomatch h
  | .scr _, h => nomatch h
  | .kt _, h => nomatch h
theorem eqvAll_self : ∀ xs : List D, D.plAll xs = true → PyData.eqvAll (D.pyAll xs) (D.pyAll xs) = true
  | [], _ => rfl
  | x :: xs, h => by
    have h' : x.pl = true ∧ D.plAll xs = true := by simpa [D.plAll] using h
    rw [D.pyAll, PyData.eqvAll, eqv_self x h'.1, eqvAll_self xs h'.2]; rfl
end
theorem ne_self {d : D} (h : d.pl = true) (h2 : d.dep ≤ 64) : neD d d = some (.val (.bl false)) := by
  unfold neD
  rw [if_pos ⟨h, h, by omega⟩, eqv_self d h]
  rfl
/-! ### the rows of a column -/
def rowsAt (p : List Col) (x : Str) : List Row := (p.filter fun c => c.1 == x).flatMap (·.2)
theorem rowsAt_eq {p : List Col} (h : PlanOk p) {c : Col} (hc : c ∈ p) : rowsAt p c.1 = c.2 := by
  unfold rowsAt
  rw [only_one h hc]
  simp
theorem mem_rowsAt {p : List Col} {x : Str} {r : Row} : r ∈ rowsAt p x ↔ (x, r) ∈ wiresOf p := by
  unfold rowsAt wiresOf
  rw [List.mem_flatMap, List.mem_flatMap]
  constructor
  · rintro ⟨c, hc, hr⟩
    obtain ⟨h1, h2⟩ := List.mem_filter.mp hc
    have : c.1 = x := by simpa using h2
    exact ⟨c, h1, List.mem_map.mpr ⟨r, hr, by rw [this]⟩⟩
  · rintro ⟨c, hc, hr⟩
    obtain ⟨q, hq, e⟩ := List.mem_map.mp hr
    have e1 : c.1 = x := congrArg (·.1) e
    have e2 : q = r := congrArg (·.2) e
    exact ⟨c, List.mem_filter.mpr ⟨hc, by simpa using e1⟩, e2 ▸ hq⟩
/-! ### only: the columns that are come to from some -/
def oLater (p : List Col) (s : FE) : List Str := sst (((rowsAt p (s.2.getLast?.getD "")).map (·.1)).filter fun y => !(s.1.any fun z => z == y))
def oTurn (p : List Col) (s : FE) : FE := (s.1 ++ oLater p s, s.2.dropLast ++ oLater p s)
structure OI (p : List Col) (some : List Str) (s : FE) : Prop where
  nd : s.1.Nodup
  cols : ∀ x ∈ s.1, x ∈ p.map (·.1)
  ed : ∀ x ∈ s.2, x ∈ s.1
  src : ∀ x ∈ s.1, ∃ t ∈ some, x = t ∨ Reach (wiresOf p) t x
  has : ∀ t ∈ some, t ∈ s.1
  cl : ∀ x ∈ s.1, x ∉ s.2 → ∀ w ∈ wiresOf p, w.1 = x → w.2.1 ∈ s.1
  len : s.2.length + (10 - s.1.length) ≤ 20
theorem mem_oLater {p : List Col} {s : FE} {y : Str} : y ∈ oLater p s ↔ (∃ k, (s.2.getLast?.getD "", y, k) ∈ wiresOf p) ∧ y ∉ s.1 := by
  unfold oLater
  rw [mem_sst, List.mem_filter, List.mem_map]
  constructor
  · rintro ⟨⟨r, hr, rfl⟩, h⟩
    refine ⟨⟨r.2, mem_rowsAt.mp hr⟩, fun z => ?_⟩
    rw [any_mem.mpr z] at h
    cases h
  · rintro ⟨⟨k, h⟩, n⟩
    refine ⟨⟨(y, k), mem_rowsAt.mpr h, rfl⟩, ?_⟩
    cases e : s.1.any fun z => z == y with
    | false => rfl
    | true => exact absurd (any_mem.mp e) n
theorem last_mem {s : FE} (g : goFE s = true) : s.2.getLast?.getD "" ∈ s.2 ∧ s.2.dropLast ++ [s.2.getLast?.getD ""] = s.2 ∧ s.2.length = s.2.dropLast.length + 1 := by
  have ne : s.2 ≠ [] := by
    intro e
    unfold goFE at g
    rw [e] at g
    cases g
  have e : s.2.getLast?.getD "" = s.2.getLast ne := by rw [List.getLast?_eq_getLast ne]; rfl
  rw [e]
  refine ⟨List.getLast_mem ne, List.dropLast_concat_getLast ne, ?_⟩
  rw [List.length_dropLast]
  have := List.length_pos_iff.mpr ne
  omega
theorem oTurn_ok {p : List Col} (h : Sheet p) {some : List Str} {s : FE} (i : OI p some s) (g : goFE s = true) : OI p some (oTurn p s) ∧ (oTurn p s).2.length + (10 - (oTurn p s).1.length) < s.2.length + (10 - s.1.length) := by
  obtain ⟨lm, le, ll⟩ := last_mem g
  have nd' : (oTurn p s).1.Nodup := List.nodup_append.mpr ⟨i.nd, rise_nd (sst_rise _), fun a ha b hb e => (mem_oLater.mp hb).2 (e ▸ ha)⟩
  have cols' : ∀ x ∈ (oTurn p s).1, x ∈ p.map (·.1) := fun x hx => by
    rcases List.mem_append.mp hx with hx | hx
    · exact i.cols x hx
    · obtain ⟨⟨k, hw⟩, _⟩ := mem_oLater.mp hx
      exact h.cl _ hw
  have len' : (oTurn p s).1.length ≤ 10 := by
    have := nd'.length_le_of_subset cols'
    rw [List.length_map] at this
    exact Nat.le_trans this h.ok.len
  have l1 : (oTurn p s).1.length = s.1.length + (oLater p s).length := List.length_append
  have l2 : (oTurn p s).2.length = s.2.dropLast.length + (oLater p s).length := List.length_append
  have dec : (oTurn p s).2.length + (10 - (oTurn p s).1.length) < s.2.length + (10 - s.1.length) := by omega
  refine ⟨⟨nd', cols', fun x hx => ?_, fun x hx => ?_, fun t ht => List.mem_append_left _ (i.has t ht), fun x hx hn w hw e => ?_, by have := i.len; omega⟩, dec⟩
  · rcases List.mem_append.mp hx with hx | hx
    · exact List.mem_append_left _ (i.ed x (by rw [← le]; exact List.mem_append_left _ hx))
    · exact List.mem_append_right _ hx
  · rcases List.mem_append.mp hx with hx | hx
    · exact i.src x hx
    · obtain ⟨⟨k, hw⟩, _⟩ := mem_oLater.mp hx
      obtain ⟨t, ht, q⟩ := i.src _ (i.ed _ lm)
      refine ⟨t, ht, .inr ?_⟩
      rcases q with q | q
      · exact .one hw q
      · exact .more q hw
  · rcases List.mem_append.mp hx with hx | hx
    · by_cases e2 : x = s.2.getLast?.getD ""
      · by_cases hm : w.2.1 ∈ s.1
        · exact List.mem_append_left _ hm
        · refine List.mem_append_right _ (mem_oLater.mpr ⟨⟨w.2.2, ?_⟩, hm⟩)
          rw [← e2, ← e]
          exact hw
      · refine List.mem_append_left _ (i.cl x hx (fun z => ?_) w hw e)
        rw [← le] at z
        rcases List.mem_append.mp z with z | z
        · exact hn (List.mem_append_left _ z)
        · exact e2 (List.mem_singleton.mp z)
    · exact absurd (List.mem_append_right _ hx) hn
theorem oi_start {p : List Col} {some : List Str} (nd : some.Nodup) (hs : ∀ t ∈ some, t ∈ p.map (·.1)) (hl : some.length ≤ 10) : OI p some (sst some, some) where
  nd := rise_nd (sst_rise _)
  cols := fun x hx => hs x (mem_sst.mp hx)
  ed := fun x hx => mem_sst.mpr hx
  src := fun x hx => ⟨x, mem_sst.mp hx, .inl rfl⟩
  has := fun t ht => mem_sst.mpr ht
  cl := fun x hx hn => absurd (mem_sst.mp hx) hn
  len := by dsimp only; omega
theorem oi_end {p : List Col} {some : List Str} {s : FE} (i : OI p some s) (g : goFE s = false) (x : Str) : x ∈ s.1 ↔ ∃ t ∈ some, x = t ∨ Reach (wiresOf p) t x := by
  have e : s.2 = [] := by
    unfold goFE at g
    simpa using g
  refine ⟨i.src x, ?_⟩
  rintro ⟨t, ht, rfl | r⟩
  · exact i.has _ ht
  · have cl : ∀ x ∈ s.1, ∀ w ∈ wiresOf p, w.1 = x → w.2.1 ∈ s.1 := fun x hx => i.cl x hx (by rw [e]; exact fun z => nomatch z)
    induction r with
    | one hw hq => exact cl _ (i.has t ht) _ hw hq
    | more _ hw ih => exact cl _ ih _ hw rfl
end Sp

/-! Fd24: a, b, c = x, y, z with three plain locals. -/
namespace Fd
open PySem L2
section
variable {X : Cx} {W : WO} {fs : M (List RV)}
theorem s_par3 (i j l : Nat) {x y z : Str} {a b c : Expr} {px py pz pt pos : Pos} {kt k2 pt2} (hc : X.calm = true) (hN : X.N.Nodup) (ha : PA X [a, b, c] (TAof X.K W fs)) (hij : i ≠ j := by decide) (hil : i ≠ l := by decide) (hjl : j ≠ l := by decide) (hi : X.N[i]? = some x := by rfl) (hj : X.N[j]? = some y := by rfl) (hl : X.N[l]? = some z := by rfl)
    (hx : X.env.scope.names.lookup x = some .local := by rfl) (hy : X.env.scope.names.lookup y = some .local := by rfl) (hz : X.env.scope.names.lookup z = some .local := by rfl)
    (hw : swappedStores [.Tuple [.Name x px, .Name y py, .Name z pz] kt pt] (.Tuple [a, b, c] k2 pt2) X.env = pure (some [x, y, z]) := by rfl)
    (hs : swapsWithSole [.Tuple [.Name x px, .Name y py, .Name z pz] kt pt] (.Tuple [a, b, c] k2 pt2) pos.line X.env = pure false := by rfl) :
    PS X (.Assign [.Tuple [.Name x px, .Name y py, .Name z pz] kt pt] (.Tuple [a, b, c] k2 pt2) pos) (TSof X.K W (parN [i, j, l] fs)) := by
  refine PS_weak (ps_par3 hc hN hi hj hl hij hil hjl hx hy hz ha hw hs) fun D σ H hq => ?_
  obtain ⟨L, F, M, ρ, rel, post⟩ := hq
  refine seqL (PF X.K L W D F M H) (fun _ _ z => z.px) id rel post fun rs ρ1 p1 vs M1 H1 e1 l1 q1 n1 => ?_
  have p1 : PF X.K L W D F M H (runT (stoAll [i, j, l] rs ρ1)) := p1
  cases h2 : stoAll [i, j, l] rs ρ1 with
  | none => rw [h2] at p1; exact p1.elim
  | some ρ2 =>
    rw [h2] at p1
    have g := run_names (Q := D.nx) [i, j, l] rs vs F ρ1 ρ2 σ l1 q1 n1 h2 fun σ2 l2 => p1 σ2 M1 H1 e1 l2
    obtain ⟨u, vs1, rfl, g⟩ := g
    obtain ⟨v, vs2, rfl, g⟩ := g
    obtain ⟨w, vs3, rfl, g⟩ := g
    obtain ⟨rfl, g⟩ := g
    exact ⟨u, v, w, rfl, g⟩
end
end Fd

/-! Fd25: dict displays, d.get, dict(..), xs[::-1]. -/
namespace Fd
open PySem L2
/-! ### {k: v, ..} -/
def prV (k : Key) (r : M (List (Key × D))) : RV → M (List (Key × D))
  | .val e => bnd r fun l => ret ((k, e) :: l)
  | _ => fail
def prK (fv : M RV) (r : M (List (Key × D))) : RV → M (List (Key × D))
  | .val kd => (match keyOf kd with
    | some k => bnd fv (prV k r)
    | none => fail)
  | _ => fail
def pairsE : List (M RV × M RV) → M (List (Key × D))
  | [] => ret []
  | t :: r => bnd t.1 (prK t.2 (pairsE r))
def mergeD (l : List (Key × D)) : List (Key × D) := l.foldl (fun m kv => putD m kv.1 kv.2) []
def dispK (l : List (Key × D)) : M RV := if l.length ≤ 15 then ret (.tmp (.dK (mergeD l))) else fail
def dispE (trs : List (M RV × M RV)) : M RV := bnd (pairsE trs) dispK
theorem IsK.mrg {M : AP} {K : PySem.W.Frag} {H : Hp} : ∀ {kvs : List (Key × V)} {l : List (Key × D)} {as : List (Key × V)} {ds : List (Key × D)}, IsK M K H kvs l → IsK M K H as ds → IsK M K H (mergeK as kvs) (l.foldl (fun m kv => putD m kv.1 kv.2) ds)
  | _, [], _, _, h, h0 => by cases h; exact h0
  | _, (k, d) :: l, as, ds, h, h0 => by
    cases h with
    | cons a b =>
      rename_i v vs
      show IsK M K H (mergeK (putK as k v) vs) (l.foldl (fun m kv => putD m kv.1 kv.2) (putD ds k d))
      exact IsK.mrg b (IsK.put k h0 a)
section
variable {K : PySem.W.Frag} {L : Lc} {W : WO} {σ : St}
theorem t_pairs {β : Type} (P : Out β → Prop) (hb : ¬ P .bad) : ∀ (trs : List (Fd.M RV × Fd.M RV)) {F M : AP} {H : Hp} {ρ : Ev} {g : List (Key × D) → Fd.M β} {Q1 : List (V × V) → Hp → Prop} (hx : ∀ x ρ', P (.exc x ρ') → PX K L W σ F M H x ρ')
    (rel : Rel K L F M H ρ σ) (post : P (bnd (pairsE trs) g ρ)) (k : ∀ l ρ1, P (g l ρ1) → ∀ kvs M1 H1, Evo F M H M1 H1 → Rel K L F M1 H1 ρ1 σ → IsK M1 K H1 kvs l → Q1 (kvs.map fun kv => (kV kv.1, kv.2)) H1),
    tPairs (trs.map fun t => (TEof K W t.1, TEof K W t.2)) σ H Q1
  | [], F, M, H, ρ, g, Q1, hx, rel, post, k => k [] ρ post [] M H .refl rel .nil
  | t :: r, F, M, H, ρ, g, Q1, hx, rel, post, k => by
    rw [show pairsE (t :: r) = bnd t.1 (prK t.2 (pairsE r)) from rfl, bnd_asc] at post
    refine seqV P hx hb rel post fun r1 ρ1 p1 v1 M1 H1 e1 l1 q1 n1 => ?_
    cases r1 with
    | tmp d => exact (hb p1).elim
    | bor d => exact (hb p1).elim
    | val kd =>
      unfold prK at p1
      dsimp only at p1
      cases hk : keyOf kd with
      | none => rw [hk] at p1; exact (hb p1).elim
      | some key =>
        rw [hk] at p1
        dsimp only at p1
        rw [bnd_asc] at p1
        refine seqV P (fun x ρ' z => PX.reb (hx x ρ' z) e1 fun _ z => z) hb l1 p1 fun r2 ρ2 p2 v2 M2 H2 e2 l2 q2 n2 => ?_
        cases r2 with
        | tmp d => exact (hb p2).elim
        | bor d => exact (hb p2).elim
        | val e =>
          unfold prV at p2
          dsimp only at p2
          rw [bnd_asc] at p2
          have e12 := e1.trans e2 fun _ z => z
          refine t_pairs P hb r (F := F) (g := fun l => g ((key, e) :: l)) (fun x ρ' z => PX.reb (hx x ρ' z) e12 fun _ z => z) l2 p2 fun l ρ3 p3 kvs M3 H3 e3 l3 al => ?_
          have z := k ((key, e) :: l) ρ3 p3 ((key, v2) :: kvs) M3 H3 (e12.trans e3 fun _ z => z) l3 (.cons (Is.evo e3 _ q2) al)
          rw [Is.key q1 hk]
          exact z
theorem t_disp {trs : List (Fd.M RV × Fd.M RV)} {H : Hp} {Q : VK} (hq : TEof K W (dispE trs) σ H Q) : tDisp (trs.map fun t => (TEof K W t.1, TEof K W t.2)) σ H Q := by
  obtain ⟨L, F, M, ρ, rel, post⟩ := hq
  intro p hp
  have r1 := rel.newOwn (o := .dK []) hp
  have ev0 : Evo F M H (fun b => M b ∨ b = p) (upd H p (.dK [])) := evo_own rel.dom hp
  have nf : ¬ F p := fun f => rel.dom p (rel.fd p f) hp
  refine t_pairs (L := L) (PV K L W σ Q F M H) id trs (fun x ρ' z => PX.reb z ev0 fun _ z => .inl z) r1 post fun l ρ1 p1 kvs M1 H1 e1 l1 al => ?_
  unfold dispK at p1
  split at p1
  · rename_i hl
    have hp1 := e1.ow p (.inr rfl) (.inr rfl)
    refine ⟨hp1.1.trans upd_same, kvs, rfl, by rw [al.length]; exact hl, ?_⟩
    have ev2 : Evo F M1 H1 M1 (upd H1 p (.dK (mergeK [] kvs))) := evo_mut hp1.2 nf
    refine p1 (.ref p) M1 _ ((ev0.trans e1 fun _ z => .inl z).trans ev2 fun _ z => z) (l1.poke (.inr rfl)) ⟨p, rfl, hp1.2, _, upd_same, IsK.mrg (IsK.evo ev2 _ al) .nil⟩ fun b y f => ?_
    cases y
    exact nf f
  · exact p1.elim
end
abbrev PPd (X : Cx) (W : WO) (pos : Pos) (keys : List (Option Expr)) (values : List Expr) (trs : List (M RV × M RV)) : Prop := PPs X pos keys values (trs.map fun t => (TEof X.K W t.1, TEof X.K W t.2))
section
variable {X : Cx} {W : WO} {pos : Pos} {keys : List (Option Expr)} {values : List Expr} {trs : List (M RV × M RV)}
theorem d_nil : PPd X W pos [] [] [] := pps_nil
theorem d_cons {k v : Expr} {fk fv : M RV} (hk : PE X k (TEof X.K W fk)) (hv : PE X v (TEof X.K W fv)) (hr : PPd X W pos keys values trs) : PPd X W pos (some k :: keys) (v :: values) ((fk, fv) :: trs) := pps_cons hk hv hr
theorem e_disp (h : PPd X W pos keys values trs) (hall : keys.all (·.isSome) = true := by rfl) (hl : keys.length = values.length := by rfl) (h0 : keys ≠ [] := by exact List.cons_ne_nil _ _) (h15 : keys.length ≤ 15 := by decide) : PE X (.Dict keys values pos) (TEof X.K W (dispE trs)) :=
  PE_weak (pe_disp h hall hl h0 h15) fun _ _ _ => t_disp
end
/-! ### d.get(k, x) -/
def isDK (r : RV) : M Unit := fun ρ => match r.dat ρ with
  | some (.dK _) => .ok () ρ
  | _ => .bad
def getK (r1 r2 r3 : RV) : M RV := fun ρ => match r1.dat ρ with
  | some (.dK kvs) => (match (r2.dat ρ).bind keyOf with
    | some k => (match r3 with
      | .val d => .ok (.val ((look kvs k).getD d)) ρ
      | _ => .bad)
    | none => .bad)
  | _ => .bad
def dget2E (fd fk fx : M RV) : M RV := bnd fd fun r1 => bnd (isDK r1) fun _ => bnd fk fun r2 => bnd fx fun r3 => getK r1 r2 r3
section
variable {X : Cx} {W : WO} {fd fk fx : M RV}
theorem t_dget2 {K : PySem.W.Frag} {σ : St} {H : Hp} {Q : VK} (h : TEof K W (dget2E fd fk fx) σ H Q) : tDGet2 (TEof K W fd) (TEof K W fk) (TEof K W fx) σ H Q := by
  obtain ⟨L, F, M, ρ, rel, post⟩ := h
  refine seqV (PV K L W σ Q F M H) (fun _ _ z => z) id rel post fun r1 ρ1 p1 v1 M1 H1 e1 l1 q1 n1 => ?_
  have p1 : PV K L W σ Q F M H ((isDK r1 ρ1).bnd fun _ => bnd fk fun r2 => bnd fx fun r3 => getK r1 r2 r3) := p1
  unfold isDK at p1
  cases h1 : r1.dat ρ1 with
  | none => rw [h1] at p1; exact p1.elim
  | some d1 =>
    rw [h1] at p1
    have rd1 := q1.rd l1 h1
    cases d1 with
    | dK kvs1 =>
      obtain ⟨a, xs1, rfl, hr1, _⟩ := rd1.dK
      refine ⟨a, rfl, .inl ⟨xs1, hr1⟩, ?_⟩
      have p1 : PV K L W σ Q F M H (bnd fk (fun r2 => bnd fx fun r3 => getK r1 r2 r3) ρ1) := p1
      refine seqV (PV K L W σ Q (adj F (.ref a) r1) M1 H1) (fun _ _ z => z) id l1 (PV.reb p1 e1 adj_sub) fun r2 ρ2 p2 v2 M2 H2 e2 l2 q2 n2 => ?_
      refine seqV (PV K L W σ Q (adj (adj F (.ref a) r1) v2 r2) M2 H2) (fun _ _ z => z) id l2 (PV.reb p2 e2 adj_sub) fun r3 ρ3 p3 v3 M3 H3 e3 l3 q3 n3 => ?_
      unfold getK at p3
      have e23 := e2.trans e3 adj_sub
      cases h2 : r1.dat ρ3 with
      | none => rw [h2] at p3; exact p3.elim
      | some d2 =>
        rw [h2] at p3
        have rd2 := (q1.evo e23).rd l3 h2
        cases d2 with
        | dK kvs =>
          dsimp only at p3
          obtain ⟨b, xs, eb, hr, al⟩ := rd2.dK
          cases eb
          cases h4 : r2.dat ρ3 with
          | none => rw [h4] at p3; exact p3.elim
          | some kd =>
            rw [h4] at p3
            cases h5 : keyOf kd with
            | none => simp only [Option.bind, h5] at p3; exact p3.elim
            | some k =>
              simp only [Option.bind, h5] at p3
              have yk : v2 = kV k := RD.key ((q2.evo e3).rd l3 h4) h5
              cases r3 with
              | tmp d => exact p3.elim
              | bor d => exact p3.elim
              | val d =>
                refine ⟨valV xs k, .inl ⟨xs, k, hr, yk, rfl⟩, ?_⟩
                have p3 : PV K L W σ Q (adj (adj F (.ref a) r1) v2 r2) M2 H2 (.ok (.val ((look kvs k).getD d)) ρ3) := p3
                obtain ⟨lk1, lk2⟩ := IsK.lk k al
                refine p3 _ M3 H3 e3 l3 ?_ trivial
                cases hlk : look kvs k with
                | none => rw [lk2 hlk]; exact q3
                | some d' =>
                  obtain ⟨v, hv, is⟩ := lk1 d' hlk
                  rw [hv]
                  exact is
        | _ => exact p3.elim
    | _ => exact p1.elim
theorem e_dget2 {o e f : Expr} {apos cpos : Pos} (hu : X.A.units + 100 < cLine) (ho : PE X o (TEof X.K W fd)) (he : PE X e (TEof X.K W fk)) (hf : PE X f (TEof X.K W fx))
    (base : attributeBase o "get" X.env (eval o X.env) = eval o X.env := by rfl)
    (few : ((backTo cpos (starEach [e, f] X.env)).all (fun x => !x.1) && (backToKw cpos (keywordEach [] X.env)).all (fun x => x.1.isSome) && decide (([e, f] : List Expr).length + ([] : List Keyword).length + (if ([] : List Keyword).isEmpty then 0 else 1) < 30)) = true := by rfl)
    (line : (apos.endLine == cpos.line) = true := by rfl) (trees : backTo cpos (starEach [e, f] X.env) = [(false, eval e X.env), (false, eval f X.env)] := by rfl) :
    PE X (.Call (.Attribute o "get" apos) [e, f] [] cpos) (TEof X.K W (dget2E fd fk fx)) := PE_weak (pe_dget2 (by omega) ho he hf ⟨base, few, line, trees⟩) fun _ _ _ => t_dget2
end
/-! ### xs[::-1] -/
def revD : D → Option RV
  | .lst l => some (.tmp (.lst l.reverse))
  | _ => none
theorem IsAll.rev {M : AP} {K : PySem.W.Frag} {H : Hp} : ∀ {xs : List V} {ds : List D}, IsAll M K H xs ds → IsAll M K H xs.reverse ds.reverse
  | _, [], h => by cases h; exact .nil
  | _, d :: ds, h => by
    cases h with
    | cons a b =>
      rw [List.reverse_cons, List.reverse_cons]
      exact b.rev.append (.cons a .nil)
section
variable {X : Cx} {W : WO} {fe : M RV}
theorem good_rev1 {K : PySem.W.Frag} : Good1 K (fun x H1 Q => ∃ a xs, x = .ref a ∧ SqL K H1 a xs ∧ ∀ p, H1 p = none → Q (.ref p) (upd H1 p (.lst xs.reverse))) revD := by
  intro M H x a res Q dm rd e q
  cases a with
  | lst l =>
    cases e
    obtain ⟨b, xs, rfl, h1, h2⟩ := rd.lst
    exact ⟨b, xs, rfl, .of h1, fun p hp => q.lst dm h2.rev hp⟩
  | _ => cases e
theorem e_revL {e : Expr} {k : Nat} {p1 p2 p3 pos : Pos} (he : PE X e (TEof X.K W fe)) : PE X (.Subscript e (.Slice none none (some (.UnaryOp .USub (.Constant (.int 1) k p1) p2)) p3) pos) (TEof X.K W (op1 revD fe)) :=
  PE_weak (pe_revL he) fun _ _ _ h => t_op1 (r := fun x H1 Q => ∃ a xs, x = .ref a ∧ SqL X.K H1 a xs ∧ ∀ p, H1 p = none → Q (.ref p) (upd H1 p (.lst xs.reverse))) good_rev1 h
end
/-! ### dict(ps), dict(d) -/
def isPr : D → Bool
  | .tup [k, _] => (keyOf k).isSome
  | _ => false
def dictD : List D → Option RV
  | [.lst ps] => if (ps.all isPr) = true then some (.tmp (.dK (dicOf ps))) else none
  | [.dK kvs] => some (.tmp (.dK kvs))
  | _ => none
theorem ResP.dKs {K : PySem.W.Frag} {M : AP} {H : Hp} {kvs : List (Key × V)} {ds : List (Key × D)} {Q : VK} {p : Addr} (q : ResP K M H (.tmp (.dK ds)) Q) (dom : ∀ a, M a → H a ≠ none) (h : IsK M K H kvs ds) (hp : H p = none) : Q (.ref p) (upd H p (.dK kvs)) :=
  q (.ref p) _ _ (grow_own dom hp) ⟨p, rfl, hp, .inr rfl, kvs, upd_same, IsK.evo (F := fun _ => False) (evo_own dom hp) _ h⟩
theorem prs_of {M : AP} {K : PySem.W.Frag} {H : Hp} : ∀ {xs : List V} {ps : List D}, IsAll M K H xs ps → (ps.all isPr) = true → ∃ (bs : List Addr) (kvs : List (Key × V)) (l : List (Key × D)), xs = bs.map V.ref ∧ Paired (fun p kv => SqT K H p [kV kv.1, kv.2]) bs kvs ∧ IsK M K H kvs l ∧ ∀ m, ps.foldl dic1 m = l.foldl (fun m kv => putD m kv.1 kv.2) m
  | _, [], h, _ => by cases h; exact ⟨[], [], [], rfl, .nil, .nil, fun _ => rfl⟩
  | _, d :: ps, h, e => by
    cases h with
    | cons a b =>
      rw [List.all_cons, Bool.and_eq_true] at e
      obtain ⟨bs, kvs, l, e1, e2, e3, e4⟩ := prs_of b e.2
      cases d with
      | tup ds =>
        match ds, a, e with
        | [kd, v], a, e =>
          obtain ⟨k, hk⟩ := Option.isSome_iff_exists.mp (show (keyOf kd).isSome = true from e.1)
          cases a with
          | tup h1 n al =>
            rename_i c ys
            cases al with
            | cons a1 al =>
              cases al with
              | cons a2 al =>
                cases al
                rename_i y1 y2
                have ek : y1 = kV k := Is.key a1 hk
                subst ek
                refine ⟨c :: bs, (k, y2) :: kvs, (k, v) :: l, by rw [List.map_cons, e1], .cons (.of h1) e2, .cons a2 e3, fun m => ?_⟩
                rw [List.foldl_cons, List.foldl_cons, ← e4]
                congr 1
                show (match keyOf kd with
                  | some k => putD m k v
                  | none => m) = _
                rw [hk]
        | [], _, e => cases e.1
        | [_], _, e => cases e.1
        | _ :: _ :: _ :: _, _, e => cases e.1
      | _ => cases e.1
abbrev rDict (K : PySem.W.Frag) : List V → Hp → VK → Prop := fun xs H Q => (∃ (a : Addr) (ps : List Addr) (kvs : List (Key × V)), xs = [.ref a] ∧ SqL K H a (ps.map V.ref) ∧ Paired (fun p kv => SqT K H p [kV kv.1, kv.2]) ps kvs ∧
    ∀ p, H p = none → Q (.ref p) (upd H p (.dK (mergeK [] kvs)))) ∨ ∃ (a : Addr) (kvs : List (Key × V)), xs = [.ref a] ∧ Rd H a (.dK kvs) ∧ ∀ p, H p = none → Q (.ref p) (upd H p (.dK kvs))
theorem cr_dict {X : Cx} (hc : X.calm = true) : CallR X (.type "dict") (rDict X.K) := fun pins s σ H xs us Q I r h => h.elim (call_dictP hc pins s σ H xs us Q I r) (call_dictD pins s σ H xs us Q I r)
theorem good_dict {K : PySem.W.Frag} : GoodL K (rDict K) dictD := by
  intro M H vs ds res Q dm rd e q
  match ds, rd, e with
  | [.lst ps], rd, e =>
    have e : (if (ps.all isPr) = true then some (RV.tmp (.dK (dicOf ps))) else none) = some res := e
    split at e
    · rename_i ok
      cases e
      match vs, rd with
      | [v], rd =>
        obtain ⟨a, xs, rfl, h1, h2⟩ := rd.1.lst
        obtain ⟨bs, kvs, l, rfl, e2, e3, e4⟩ := prs_of h2 ok
        refine .inl ⟨a, bs, kvs, rfl, .of h1, e2, fun p hp => ?_⟩
        have e5 : dicOf ps = mergeD l := e4 []
        rw [e5] at q
        exact q.dKs dm (IsK.mrg e3 .nil) hp
      | [], rd => exact rd.elim
      | _ :: _ :: _, rd => exact rd.2.elim
    · cases e
  | [.dK kvs], rd, e =>
    cases e
    match vs, rd with
    | [v], rd =>
      obtain ⟨a, xs, rfl, h1, h2⟩ := rd.1.dK
      exact .inr ⟨a, xs, rfl, h1, fun p hp => q.dKs dm h2 hp⟩
    | [], rd => exact rd.elim
    | _ :: _ :: _, rd => exact rd.2.elim
end Fd

/-! Fd26: min(x, y), max(x, y) of tuples; sorted(d) of a dict with texts as keys. -/
namespace PySem.W
open PySem PySem.Spec PyProof.Rows
section
variable {prog : Program} {w : World} {A : Around} {E : Value → Shared → Prop} {s : Shared}
theorem min_twoH {a b : Value} {Q : Value → Shared → Prop}
    (h : wpAny (model prog w) A.in1 (pyIter (.ref s.heap.objs.size)) (fun it s₂ => ∃ I fp wr G n P St H bt, it = .ref I ∧ WalksS prog w A.in1 I fp wr G n P St ∧ St 0 s₂ ∧ (∀ b ∈ fp, b < s₂.heap.objs.size) ∧ 0 < n ∧
      (∀ b o, H.get? b = some o → b ∉ wr) ∧ (∀ b o, H.get? b = some o → s₂.heap.get? b = some o) ∧ CmpIn prog w A.in1 .Lt H P bt ∧ ∀ v s', P (argBest bt (n - 1)) v → Moved wr G s₂ s' → Q v s') E { s with heap := s.heap.push { cls := .type "tuple", data := .seq #[a, b] } }) :
    wpAny (model prog w) A (call (.builtin "min") [a, b]) Q E s := by
  have hname : (toString "min" ++ toString ".loop" : String) = "min.loop" := by decide
  refine call_function_tree F.kind_min F.plain_min F.entry_min (F.args_min2 _ _) ?_
  show wpAny _ A.in1 (Builtin.Builtins.bindParams "min" ["key", "default"] 0 ⟨[], []⟩ >>= _) _ _ s
  refine wpAny_bind (wpAny_of_eq (show Builtin.Builtins.bindParams "min" ["key", "default"] 0 ⟨[], []⟩ = pure [none, none] from rfl) ?_)
  show wpAny _ A.in1 (newTuple [a, b] >>= _) _ _ s
  refine wpAny_bind (wpAny_newObj_type ?_)
  refine wpAny_bind (wpAny_mono h (fun it s₂ h₂ => ?_) fun _ _ e => e)
  obtain ⟨I, fp, wr, G, n, P, St, H, bt, rfl, W, hst, hfp, hn, hw, hkeep, hcmp, hQ⟩ := h₂
  refine wpAny_bind (wpAny_newObj_type ?_)
  have hSf : s₂.heap.objs.size ∉ fp := fun hm => Nat.lt_irrefl _ (hfp _ hm)
  rw [hname]
  refine wpAny_pure ⟨plainId_quiet F.plain_min_loop _, codeAny_min_loop_firstH W H hw bt hcmp s₂.heap.objs.size hSf (fresh_in hkeep) _ hn (fun b o e => Heap.get?_push_of_some _ (hkeep b o e)) (W.frame 0 s₂ _ s₂.toks hst (Nat.le_refl _) fun b _ o e => Heap.get?_push_of_some _ e) (Heap.get?_push_size _ rfl) fun v s' hP hm => ?_⟩
  exact hQ v s' hP (Moved.drop_new (tk := s₂.toks) hm (Nat.le_refl _))
theorem max_twoH {a b : Value} {Q : Value → Shared → Prop}
    (h : wpAny (model prog w) A.in1 (pyIter (.ref s.heap.objs.size)) (fun it s₂ => ∃ I fp wr G n P St H bt, it = .ref I ∧ WalksS prog w A.in1 I fp wr G n P St ∧ St 0 s₂ ∧ (∀ b ∈ fp, b < s₂.heap.objs.size) ∧ 0 < n ∧
      (∀ b o, H.get? b = some o → b ∉ wr) ∧ (∀ b o, H.get? b = some o → s₂.heap.get? b = some o) ∧ CmpIn prog w A.in1 .Gt H P bt ∧ ∀ v s', P (argBest bt (n - 1)) v → Moved wr G s₂ s' → Q v s') E { s with heap := s.heap.push { cls := .type "tuple", data := .seq #[a, b] } }) :
    wpAny (model prog w) A (call (.builtin "max") [a, b]) Q E s := by
  have hname : (toString "max" ++ toString ".loop" : String) = "max.loop" := by decide
  refine call_function_tree F.kind_max F.plain_max F.entry_max (F.args_max2 _ _) ?_
  show wpAny _ A.in1 (Builtin.Builtins.bindParams "max" ["key", "default"] 0 ⟨[], []⟩ >>= _) _ _ s
  refine wpAny_bind (wpAny_of_eq (show Builtin.Builtins.bindParams "max" ["key", "default"] 0 ⟨[], []⟩ = pure [none, none] from rfl) ?_)
  show wpAny _ A.in1 (newTuple [a, b] >>= _) _ _ s
  refine wpAny_bind (wpAny_newObj_type ?_)
  refine wpAny_bind (wpAny_mono h (fun it s₂ h₂ => ?_) fun _ _ e => e)
  obtain ⟨I, fp, wr, G, n, P, St, H, bt, rfl, W, hst, hfp, hn, hw, hkeep, hcmp, hQ⟩ := h₂
  refine wpAny_bind (wpAny_newObj_type ?_)
  have hSf : s₂.heap.objs.size ∉ fp := fun hm => Nat.lt_irrefl _ (hfp _ hm)
  rw [hname]
  refine wpAny_pure ⟨plainId_quiet F.plain_max_loop _, codeAny_max_loop_firstH W H hw bt hcmp s₂.heap.objs.size hSf (fresh_in hkeep) _ hn (fun b o e => Heap.get?_push_of_some _ (hkeep b o e)) (W.frame 0 s₂ _ s₂.toks hst (Nat.le_refl _) fun b _ o e => Heap.get?_push_of_some _ e) (Heap.get?_push_size _ rfl) fun v s' hP hm => ?_⟩
  exact hQ v s' hP (Moved.drop_new (tk := s₂.toks) hm (Nat.le_refl _))
theorem min_two_data {a b : Value} {x y : PyData} {as : List Addr} {Q : Value → Shared → Prop} (hh : A.handled = none) (hr : ReadsAll s.heap [a, b] [x, y] as) (ha : AlikeAll [x, y]) (hu : A.units + 1 + PyData.depthAll [x, y] < cLine)
    (h : ∀ (i : Nat) v h' tk bs, [a, b][i]? = some v → Reads h' v (minD x [y]) bs → (∀ b o, s.heap.get? b = some o → h'.get? b = some o) → Q v { s with heap := h', toks := tk }) :
    wpAny (model prog w) A (call (.builtin "min") [a, b]) Q E s := by
  have hT : (s.heap.push { cls := .type "tuple", data := .seq #[a, b] }).IsTuple s.heap.objs.size #[a, b] := ⟨_, Heap.get?_push_size _ rfl, rfl, 0, rfl⟩
  have hr1 : ReadsAll (s.heap.push { cls := .type "tuple", data := .seq #[a, b] }) (#[a, b] : Array Value).toList [x, y] as := ReadsAll.keeps (fun _ _ z => Heap.get?_push_of_some _ z) hr
  refine min_twoH (iter_tupleW (A := A.in1) (s := { s with heap := s.heap.push { cls := .type "tuple", data := .seq #[a, b] } }) hh hT fun s₂ e W st hfp hw hk => ?_)
  refine ⟨_, _, _, _, _, _, _, s.heap.push { cls := .type "tuple", data := .seq #[a, b] }, _, rfl, W, st, hfp, by show 0 < 2; decide, hw, hk, cmpIn_lt (A := A.in1) (s := { s with heap := s.heap.push { cls := .type "tuple", data := .seq #[a, b] } }) hr1 ha (by show A.units + 1 + _ < _; exact hu), fun v s' hP m => ?_⟩
  obtain ⟨h', tk, rfl, hk'⟩ := moved_old e rfl m
  obtain ⟨bs, r, _, _, _⟩ := readsAll_atA hr1 _ v hP
  have e2 := (argBest_fold dataLt PyData.none x [y] 1 (Nat.le_refl _)).2
  refine h _ v h' tk bs (by simpa using hP) (reads_keeps hk' (by unfold minD; exact e2 ▸ r)) fun b o z => hk' b o (Heap.get?_push_of_some _ z)
theorem max_two_data {a b : Value} {x y : PyData} {as : List Addr} {Q : Value → Shared → Prop} (hh : A.handled = none) (hr : ReadsAll s.heap [a, b] [x, y] as) (ha : AlikeAll [x, y]) (hu : A.units + 1 + PyData.depthAll [x, y] < cLine)
    (h : ∀ (i : Nat) v h' tk bs, [a, b][i]? = some v → Reads h' v (maxD x [y]) bs → (∀ b o, s.heap.get? b = some o → h'.get? b = some o) → Q v { s with heap := h', toks := tk }) :
    wpAny (model prog w) A (call (.builtin "max") [a, b]) Q E s := by
  have hT : (s.heap.push { cls := .type "tuple", data := .seq #[a, b] }).IsTuple s.heap.objs.size #[a, b] := ⟨_, Heap.get?_push_size _ rfl, rfl, 0, rfl⟩
  have hr1 : ReadsAll (s.heap.push { cls := .type "tuple", data := .seq #[a, b] }) (#[a, b] : Array Value).toList [x, y] as := ReadsAll.keeps (fun _ _ z => Heap.get?_push_of_some _ z) hr
  refine max_twoH (iter_tupleW (A := A.in1) (s := { s with heap := s.heap.push { cls := .type "tuple", data := .seq #[a, b] } }) hh hT fun s₂ e W st hfp hw hk => ?_)
  refine ⟨_, _, _, _, _, _, _, s.heap.push { cls := .type "tuple", data := .seq #[a, b] }, _, rfl, W, st, hfp, by show 0 < 2; decide, hw, hk, cmpIn_gt (A := A.in1) (s := { s with heap := s.heap.push { cls := .type "tuple", data := .seq #[a, b] } }) hr1 ha (by show A.units + 1 + _ < _; exact hu), fun v s' hP m => ?_⟩
  obtain ⟨h', tk, rfl, hk'⟩ := moved_old e rfl m
  obtain ⟨bs, r, _, _, _⟩ := readsAll_atA hr1 _ v hP
  have e2 := (argBest_fold (fun a b => dataLt b a) PyData.none x [y] 1 (Nat.le_refl _)).2
  refine h _ v h' tk bs (by simpa using hP) (reads_keeps hk' (by unfold maxD; exact e2 ▸ r)) fun b o z => hk' b o (Heap.get?_push_of_some _ z)
end
end PySem.W
namespace Fd
open PySem L2
def rM2 (mx : Bool) (K : PySem.W.Frag) : List V → Hp → VK → Prop := fun vs H Q => ∃ (y1 y2 : V) (d1 d2 : PyData), vs = [y1, y2] ∧ DpAll K H [y1, y2] [d1, d2] ∧ PySem.W.AlikeAll [d1, d2] ∧ PyData.depthAll [d1, d2] ≤ 60 ∧
  ∀ (i : Nat) (y : V), [y1, y2][i]? = some y → [d1, d2][i]? = some (if mx then PySem.W.maxD d1 [d2] else PySem.W.minD d1 [d2]) → Q y H
section
variable {X : Cx}
theorem cr_min2T (hc : X.calm = true) (hu : X.A.units + 100 < cLine) : CallR X (.builtin "min") (rM2 false X.K) := by
  intro pins s σ H vs us Q I r h
  obtain ⟨y1, y2, d1, d2, rfl, da, al, dp, q⟩ := h
  obtain ⟨u1, u2, rfl, r1, r2⟩ := vals2 r
  obtain ⟨as, hr⟩ := Dp.readsAll I [d1, d2] [y1, y2] [u1, u2] da r
  exact PySem.W.min_two_data (I.ok.hd hc) hr al (by omega) fun i v h' tk bs hv r' hk => mm_end I r hr hv r' hk q
theorem cr_max2T (hc : X.calm = true) (hu : X.A.units + 100 < cLine) : CallR X (.builtin "max") (rM2 true X.K) := by
  intro pins s σ H vs us Q I r h
  obtain ⟨y1, y2, d1, d2, rfl, da, al, dp, q⟩ := h
  obtain ⟨u1, u2, rfl, r1, r2⟩ := vals2 r
  obtain ⟨as, hr⟩ := Dp.readsAll I [d1, d2] [y1, y2] [u1, u2] da r
  exact PySem.W.max_two_data (I.ok.hd hc) hr al (by omega) fun i v h' tk bs hv r' hk => mm_end I r hr hv r' hk q
end
theorem RD.isTup {K : PySem.W.Frag} {M : AP} {H : Hp} {v : V} {ds : List D} (h : RD M K H v (.tup ds)) : Is M K H v (.tup ds) := by
  rcases h with h | ⟨_, _, _, c⟩
  · exact h
  · exact c.elim
def min2T : List D → Option RV
  | [.tup a, .tup b] => if mmOk [.tup a, .tup b] = true then some (.val (if dlt (.tup b) (.tup a) = true then .tup b else .tup a)) else none
  | _ => none
def max2T : List D → Option RV
  | [.tup a, .tup b] => if mmOk [.tup a, .tup b] = true then some (.val (if dlt (.tup a) (.tup b) = true then .tup b else .tup a)) else none
  | _ => none
theorem good_m2 {K : PySem.W.Frag} {mx : Bool} {M : AP} {H : Hp} {vs : List V} {a b : List D} {e : D} {Q : VK} (dm : Dom M H) (rd : RDs M K H vs [.tup a, .tup b]) (ok : mmOk [.tup a, .tup b] = true) (he : e = if mx then (if dlt (.tup a) (.tup b) = true then .tup b else .tup a) else if dlt (.tup b) (.tup a) = true then .tup b else .tup a) (q : ResP K M H (.val e) Q) : rM2 mx K vs H Q := by
  unfold mmOk at ok
  simp only [Bool.and_eq_true, List.all_eq_true, decide_eq_true_eq] at ok
  obtain ⟨⟨⟨k1, k2⟩, k3⟩, k4⟩ := ok
  obtain ⟨v1, v2, rfl, h1, h2⟩ := two_of rd
  have i1 := h1.isTup
  have i2 := h2.isTup
  have al : IsAll M K H [v1, v2] [.tup a, .tup b] := .cons i1 (.cons i2 .nil)
  have em : e ∈ [D.tup a, .tup b] := by
    rw [he]
    cases mx <;> simp only [if_true, Bool.false_eq_true, if_false] <;> split <;> simp
  have ep : e.py = if mx then PySem.W.maxD (D.tup a).py (D.pyAll [.tup b]) else PySem.W.minD (D.tup a).py (D.pyAll [.tup b]) := by
    rw [he]
    cases mx with
    | true => exact fold_py (fun a y => PySem.W.dataLt a y) [.tup b] (.tup a)
    | false => exact fold_py (fun a y => PySem.W.dataLt y a) [.tup b] (.tup a)
  refine ⟨v1, v2, (D.tup a).py, (D.tup b).py, rfl, (IsAll.dp [.tup a, .tup b] al k1).1, ⟨fun x hx y hy => ?_, fun x hx => ?_⟩, k3, fun i y hy hx => ?_⟩
  · have hx : x ∈ [D.tup a, .tup b].map D.py := hx
    have hy : y ∈ [D.tup a, .tup b].map D.py := hy
    obtain ⟨x', hx', rfl⟩ := List.mem_map.mp hx
    obtain ⟨y', hy', rfl⟩ := List.mem_map.mp hy
    exact k2 x' hx' y' hy'
  · have hx : x ∈ [D.tup a, .tup b].map D.py := hx
    obtain ⟨x', hx', rfl⟩ := List.mem_map.mp hx
    have := k4 x' hx'
    cases x' with
    | non => cases this
    | _ => intro z; cases z
  · have hx : (D.pyAll [.tup a, .tup b])[i]? = some e.py := by rw [ep]; exact hx
    rw [pyAll_map, List.getElem?_map] at hx
    obtain ⟨d', hd', e2⟩ := Option.map_eq_some_iff.mp hx
    have em' : d' ∈ [D.tup a, .tup b] := List.mem_of_getElem? hd'
    have : d' = e := py_eq (k2 d' em' e em) e2
    subst this
    obtain ⟨y', hy', iy⟩ := al.get hd'
    rw [hy] at hy'
    cases hy'
    exact q.same dm iy
theorem good_min2T {K : PySem.W.Frag} : GoodL K (rM2 false K) min2T := by
  intro M H vs ds res Q dm rd e q
  match ds, rd, e with
  | [.tup a, .tup b], rd, e =>
    have e : (if mmOk [.tup a, .tup b] = true then some (RV.val (if dlt (.tup b) (.tup a) = true then .tup b else .tup a)) else none) = some res := e
    split at e
    · rename_i ok
      cases e
      exact good_m2 (mx := false) dm rd ok rfl q
    · cases e
theorem good_max2T {K : PySem.W.Frag} : GoodL K (rM2 true K) max2T := by
  intro M H vs ds res Q dm rd e q
  match ds, rd, e with
  | [.tup a, .tup b], rd, e =>
    have e : (if mmOk [.tup a, .tup b] = true then some (RV.val (if dlt (.tup a) (.tup b) = true then .tup b else .tup a)) else none) = some res := e
    split at e
    · rename_i ok
      cases e
      exact good_m2 (mx := true) dm rd ok rfl q
    · cases e
/-! ### sorted(d), texts as keys -/
def keyS : Key → Str
  | .inr x => x
  | .inl _ => ""
def txtK : Key → Bool
  | .inr x => x.cps.toList.all fun c => decide (c < 0x110000)
  | .inl _ => false
def sortedKD : List D → Option RV
  | [.dK kvs] => if (kvs.all fun kv => txtK kv.1) = true ∧ kvs.length < 64 then some (.tmp (.lst (isort (kvs.map fun kv => .str (keyS kv.1))))) else none
  | _ => none
abbrev rSortK : List V → Hp → VK → Prop := fun xs H Q => ∃ (a : Addr) (kvs : List (Key × V)) (ks : List Str), xs = [.ref a] ∧ Rd H a (.dK kvs) ∧ kvs.map (·.1) = ks.map Sum.inr ∧ ks.length < 64 ∧
    ∀ ys p, ys.Perm ks → PyProof.Rows.sortedS ys = true → H p = none → Q (.ref p) (upd H p (.lst (ys.map V.str)))
theorem ltC (a b : Str) : PySem.Spec.ltCps a.cps.toList b.cps.toList = dlt (.str a) (.str b) := by
  unfold dlt
  simp only [D.py]
  rw [PySem.W.dataLt_str]
  exact PyProof.Rows.ltCps_eq _ _
theorem sortedS_pair : ∀ (l : List Str), PyProof.Rows.sortedS l = true → (l.map D.str).Pairwise LeD := by
  have go : ∀ (r : List Str) (p : Str), PyProof.Rows.risingS p r = true → ((p :: r).map D.str).Pairwise LeD := by
    intro r
    induction r with
    | nil => intro p _; simp
    | cons x r ih =>
      intro p h
      have h : (!PySem.Spec.ltCps x.cps.toList p.cps.toList && PyProof.Rows.risingS x r) = true := h
      rw [Bool.and_eq_true, Bool.not_eq_true', ltC] at h
      have t := ih x h.2
      refine List.pairwise_cons.mpr ⟨fun d hd => ?_, t⟩
      rcases List.mem_cons.mp hd with rfl | hd
      · exact h.1
      · exact leD_trans h.1 ((List.pairwise_cons.mp t).1 d hd)
  intro l
  cases l with
  | nil => intro _; exact .nil
  | cons x r => exact go r x
theorem str_al (l : List Str) : AllA (l.map D.str) := fun x hx y hy => by
  obtain ⟨a, _, rfl⟩ := List.mem_map.mp hx
  obtain ⟨b, _, rfl⟩ := List.mem_map.mp hy
  simp [D.py, PySem.W.alike]
theorem isK_keys {M : AP} {K : PySem.W.Frag} {H : Hp} : ∀ {xs : List (Key × V)} {ds : List (Key × D)}, IsK M K H xs ds → xs.map (·.1) = ds.map (·.1)
  | _, [], h => by cases h; rfl
  | _, (k, d) :: ds, h => by cases h with | cons a b => rw [List.map_cons, List.map_cons, isK_keys b]
theorem isAll_strs {M : AP} {K : PySem.W.Frag} {H : Hp} : ∀ {ys : List Str}, (∀ y ∈ ys, PyData.strOk y = true) → IsAll M K H (ys.map V.str) (ys.map D.str)
  | [], _ => .nil
  | y :: ys, h => .cons (.str y (h y List.mem_cons_self)) (isAll_strs fun z hz => h z (List.mem_cons_of_mem _ hz))
theorem good_sortK {K : PySem.W.Frag} : GoodL K rSortK sortedKD := by
  intro M H vs ds res Q dm rd e q
  match ds, rd, e with
  | [.dK kvs], rd, e =>
    have e : (if (kvs.all fun kv => txtK kv.1) = true ∧ kvs.length < 64 then some (RV.tmp (.lst (isort (kvs.map fun kv => .str (keyS kv.1))))) else none) = some res := e
    split at e
    · rename_i ok
      cases e
      obtain ⟨ok1, ok2⟩ := ok
      match vs, rd with
      | [v], rd =>
        obtain ⟨a, xs, rfl, h1, h2⟩ := rd.1.dK
        have ks : ∀ kv ∈ kvs, kv.1 = Sum.inr (keyS kv.1) ∧ PyData.strOk (keyS kv.1) = true := fun kv hkv => by
          have z := List.all_eq_true.mp ok1 kv hkv
          cases hk : kv.1 with
          | inl i => rw [hk] at z; cases z
          | inr x =>
            rw [hk] at z
            exact ⟨rfl, (okK_str (x := x)).symm.trans z⟩
        refine ⟨a, xs, kvs.map fun kv => keyS kv.1, rfl, h1, ?_, by rw [List.length_map]; exact ok2, fun ys p pm so hp => ?_⟩
        · rw [isK_keys h2, List.map_map]
          exact List.map_congr_left fun kv hkv => (ks kv hkv).1
        · have e1 : isort (kvs.map fun kv => D.str (keyS kv.1)) = ys.map D.str := by
            rw [show (kvs.map fun kv => D.str (keyS kv.1)) = (kvs.map fun kv => keyS kv.1).map D.str by rw [List.map_map]; rfl]
            exact (isort_unique (str_al _) (pm.map D.str) (sortedS_pair ys so)).symm
          rw [e1] at q
          refine q.lst dm (isAll_strs fun y hy => ?_) hp
          obtain ⟨kv, hkv, rfl⟩ := List.mem_map.mp (pm.mem_iff.mp hy)
          exact (ks kv hkv).2
      | [], rd => exact rd.elim
      | _ :: _ :: _, rd => exact rd.2.elim
    · cases e
end Fd

/-! Fd27: min, max of two ints or two tuples. -/
namespace Fd
open PySem L2
/-- min, max of two ints, of two tuples -/
def minAD : List D → Option RV
  | [.int i, .int j] => min2D [.int i, .int j]
  | ds => min2T ds
def maxAD : List D → Option RV
  | [.int i, .int j] => max2D [.int i, .int j]
  | ds => max2T ds
abbrev rMinA (K : PySem.W.Frag) : List V → Hp → VK → Prop := fun xs H Q => (∃ i j, xs = [.int i, .int j] ∧ Q (.int (if j < i then j else i)) H) ∨ rM2 false K xs H Q
abbrev rMaxA (K : PySem.W.Frag) : List V → Hp → VK → Prop := fun xs H Q => (∃ i j, xs = [.int i, .int j] ∧ Q (.int (if j > i then j else i)) H) ∨ rM2 true K xs H Q
theorem cr_minA {X : Cx} (hc : X.calm = true) (hu : X.A.units + 100 < cLine) : CallR X (.builtin "min") (rMinA X.K) := fun pins s σ H xs us Q I r h => h.elim (call_min2 hc pins s σ H xs us Q I r) (cr_min2T hc hu pins s σ H xs us Q I r)
theorem cr_maxA {X : Cx} (hc : X.calm = true) (hu : X.A.units + 100 < cLine) : CallR X (.builtin "max") (rMaxA X.K) := fun pins s σ H xs us Q I r h => h.elim (call_max2 hc pins s σ H xs us Q I r) (cr_max2T hc hu pins s σ H xs us Q I r)
theorem good_minA {K : PySem.W.Frag} : GoodL K (rMinA K) minAD := by
  intro M H vs ds res Q dm rd e q
  unfold minAD at e
  split at e
  · exact .inl (good_min2 M H vs _ res Q dm rd e q)
  · exact .inr (good_min2T M H vs _ res Q dm rd e q)
theorem good_maxA {K : PySem.W.Frag} : GoodL K (rMaxA K) maxAD := by
  intro M H vs ds res Q dm rd e q
  unfold maxAD at e
  split at e
  · exact .inl (good_max2 M H vs _ res Q dm rd e q)
  · exact .inr (good_max2T M H vs _ res Q dm rd e q)
theorem minA_int (i j : Int) : minAD [.int i, .int j] = some (.val (.int (if j < i then j else i))) := .trans rfl rfl
theorem maxA_int (i j : Int) : maxAD [.int i, .int j] = some (.val (.int (if j > i then j else i))) := .trans rfl rfl
end Fd

namespace Fd
open PySem L2
/-! ### dicts in slots -/
abbrev od (d : D) : SS := .sl (.own d)
def ofD (o : Option RV) : Res D := match o with
  | some (.tmp d) => .ok d
  | _ => .bad
@[simp] theorem ofD_tmp (d : D) : ofD (some (.tmp d)) = .ok d := .trans rfl rfl
def putDD (c k d : D) : Res D := match putAt c k d with
  | some c' => .ok c'
  | none => .bad
def keyK (d : D) : Res Key := match keyOf d with
  | some k => .ok k
  | none => .bad
@[simp] theorem keyK_str (x : Str) : keyK (.str x) = .ok (.inr x) := .trans rfl rfl
@[simp] theorem keyK_int (x : Int) : keyK (.int x) = .ok (.inl x) := .trans rfl rfl
section
variable {α X : Type} {S S1 S2 : List SS} {r : Res X} {Q : X → α → Ev → Prop} {κ : RV → M α} {fd fk fx fv : M RV} {q q1 q2 q3 : RV} {d : D} {i : Nat}
theorem z_rtv (h : Go S (κ q) r Q) : Go S (bnd (ret q) κ) r Q := h
theorem z_optD {f : M RV} {o : Option RV} {k : D → Res X} (e : ∀ ρ, Mt S ρ → f ρ = match o with
    | some q => .ok q ρ
    | none => .bad) (h : ∀ v, Go S (κ (.tmp v)) (k v) Q) : Go S (bnd f κ) ((ofD o).bind k) Q := .mk fun ρ m => by
  show Lk ((f ρ).bnd κ) Q _
  rw [e ρ m]
  cases o with
  | none => trivial
  | some q =>
    cases q with
    | tmp v => exact h v ρ m
    | val _ => trivial
    | bor _ => trivial
theorem z_finLD {rs : List RV} {ds : List D} {g : List D → Option RV} {k : D → Res X} (e : datRs S rs = some ds) (h : ∀ v, Go S (κ (.tmp v)) (k v) Q) : Go S (bnd (finL g rs) κ) ((ofD (g ds)).bind k) Q := z_optD (fun ρ m => finL_at m e) h
/-! displays -/
theorem z_disp {trs : List (M RV × M RV)} (h : Go S (bnd (pairsE trs) fun l => bnd (dispK l) κ) r Q) : Go S (bnd (dispE trs) κ) r Q := h.eq (by unfold dispE; rw [bnd_assoc])
theorem z_dispK {l : List (Key × D)} (hl : l.length ≤ 15) (h : Go S (κ (.tmp (.dK (mergeD l)))) r Q) : Go S (bnd (dispK l) κ) r Q := by
  unfold dispK
  rw [if_pos hl]
  exact h
end
section
variable {α X : Type} {S : List SS} {r : Res X} {Q : X → α → Ev → Prop} {κ : List (Key × D) → M α} {fk fv : M RV} {tl : M (List (Key × D))}
theorem z_prN (h : Go S (κ []) r Q) : Go S (bnd (pairsE []) κ) r Q := h
theorem z_prC {trs : List (M RV × M RV)} (h : Go S (bnd fk fun q => bnd (prK fv (pairsE trs) q) κ) r Q) : Go S (bnd (pairsE ((fk, fv) :: trs)) κ) r Q := h.eq (by show bnd (bnd fk (prK fv (pairsE trs))) κ = _; rw [bnd_assoc])
theorem z_prK {kd : D} {k : Key → Res X} (h : ∀ key, Go S (bnd fv fun q => bnd (prV key tl q) κ) (k key) Q) : Go S (bnd (prK fv tl (.val kd)) κ) ((keyK kd).bind k) Q := by
  unfold prK keyK
  dsimp only
  cases e : keyOf kd with
  | none => exact z_bad
  | some key =>
    dsimp only
    rw [bnd_assoc]
    exact h key
theorem z_prV {key : Key} {e : D} (h : Go S (bnd tl fun l => κ ((key, e) :: l)) r Q) : Go S (bnd (prV key tl (.val e)) κ) r Q := h.eq (by unfold prV; rw [bnd_assoc]; rfl)
end
/-! d.get(k, x) -/
def isDic' (d : D) : Res Unit := match d with
  | .dK _ => .ok ()
  | _ => .bad
def getR (c k x : D) : Res D := match c with
  | .dK kvs => (match keyOf k with
    | some k => .ok ((look kvs k).getD x)
    | none => .bad)
  | _ => .bad
section
variable {α X : Type} {S S1 S2 : List SS} {r : Res X} {Q : X → α → Ev → Prop} {κ : RV → M α} {fd fk fx : M RV} {q q1 q2 : RV} {c c' kd x : D}
theorem z_dget2 (h : Go S (bnd fd fun r1 => bnd (isDK r1) fun _ => bnd fk fun r2 => bnd fx fun r3 => bnd (getK r1 r2 r3) κ) r Q) : Go S (bnd (dget2E fd fk fx) κ) r Q := h.eq (by
  unfold dget2E
  rw [bnd_assoc]
  congr 1
  funext r1
  rw [bnd_assoc]
  congr 1
  funext _
  rw [bnd_assoc]
  congr 1
  funext r2
  rw [bnd_assoc])
theorem z_isDK {κ : Unit → M α} (e : datR S q = some c) (h : Go S (κ ()) r Q) : Go S (bnd (isDK q) κ) ((isDic' c).bind fun _ => r) Q := .mk fun ρ m => by
  show Lk ((isDK q ρ).bnd κ) Q _
  unfold isDK isDic'
  rw [m.dat e]
  cases c with
  | dK kvs => exact h ρ m
  | _ => trivial
theorem z_getK {k : D → Res X} (e1 : datR S q1 = some c) (e2 : datR S q2 = some kd) (h : ∀ v, Go S (κ (.val v)) (k v) Q) : Go S (bnd (getK q1 q2 (.val x)) κ) ((getR c kd x).bind k) Q := .mk fun ρ m => by
  show Lk ((getK q1 q2 (.val x) ρ).bnd κ) Q _
  unfold getK getR
  rw [m.dat e1, m.dat e2]
  cases c with
  | dK kvs =>
    dsimp only [Option.bind]
    cases keyOf kd with
    | none => trivial
    | some key => exact h _ ρ m
  | _ => trivial
theorem z_tgXD {κ : Unit → M α} {i : Nat} {d : D} {fi : M RV} {s : Slot} {rk : Res D} {k : D → Res X} (h0 : opS S i = some s) (ec : s.dat = some c) (hi : Go S fi rk (QE (fun z => RV.val z) fun _ => S)) (T : D → List SS) (hT : ∀ l', S.set i (.sl (s.put l')) = T l') (h : ∀ l', Go (T l') (κ ()) (k l') Q) : Go S (bnd (tgM (setX i fi) d) κ) ((noX rk).bind fun v => (putDD c v d).bind k) Q := .mk fun ρ m => by
  obtain ⟨a1, a2⟩ := opS_sl h0
  have q := hi ρ m
  cases rk with
  | exc => trivial
  | bad => trivial
  | ok z =>
    obtain ⟨_, ρ1, e1, rfl, m1⟩ := q
    have key : setX i fi d ρ = (match putAt c z d with
      | some c' => some (ρ1.set i (s.put c'))
      | none => none) := by
      unfold setX
      rw [m.sl a1]; dsimp only
      rw [if_pos (Slot.open_mine a2), e1]; dsimp only [RV.dat]
      rw [m1.sl a1]; dsimp only
      rw [if_pos a2, ec]
      all_goals rfl
    show Lk ((tgM (setX i fi) d ρ).bnd κ) Q ((putDD c z d).bind k)
    unfold tgM putDD
    rw [key]
    cases e : putAt c z d with
    | none => trivial
    | some c' => exact (hT c' ▸ h c') _ m1.put
end
end Fd

/-! Fd28: t[::-1] of a tuple; str(x) of a text. -/
namespace HT
open PySem PySem.Spec PyProof.Rows
section
variable {prog : Program} {w : World} {A : Around} {E : Value → Shared → Prop} {s : Shared}
theorem sliceApplied_rev {sl : Addr} {vl vu vs : Value} {n : Nat} {Q : Int × Int × Nat → Shared → Prop} (hs : s.heap.IsSliceOf sl vl vu vs) (pl : IsPart vl none) (pu : IsPart vu none) (ps : IsPart vs (some (-1)))
    (h : Q ((n : Int) - 1, -1, n) s) : wpAny (model prog w) A (Builtin.Slice.sliceApplied (.ref sl) (pure (n : Int))) Q E s := by
  obtain ⟨os, hos, hcs, hds⟩ := id hs
  unfold Builtin.Slice.sliceApplied Builtin.Slice.sliceFields
  refine wpAny_bind (wpAny_bind (wpAny_field hos hds (x := vl) rfl (wpAny_bind (wpAny_field hos hds (x := vu) rfl (wpAny_bind (wpAny_field hos hds (x := vs) rfl (wpAny_pure ?_)))))))
  refine wpAny_bind (slicePart_ ps ?_)
  show wpAny _ _ (if ((-1 : Int) == 0) = true then _ else _) _ _ s
  rw [if_neg (by decide)]
  refine wpAny_bind (slicePart_ pl (wpAny_bind (slicePart_ pu (wpAny_bind (wpAny_pure ?_)))))
  show wpAny _ _ (match Builtin.Slice.sliceAdjust none none (-1) (n : Int) with | (lo, hi) => pure (lo, (-1 : Int), Builtin.Slice.slicePlaces lo hi (-1))) _ _ s
  have e : Builtin.Slice.sliceAdjust none none (-1) (n : Int) = ((n : Int) - 1, -1) := by
    unfold Builtin.Slice.sliceAdjust
    simp
  have e2 : Builtin.Slice.slicePlaces ((n : Int) - 1) (-1) (-1) = n := by
    unfold Builtin.Slice.slicePlaces
    simp
    omega
  rw [e]
  show wpAny _ _ (pure ((n : Int) - 1, (-1 : Int), Builtin.Slice.slicePlaces ((n : Int) - 1) (-1) (-1))) _ _ s
  rw [e2]
  exact wpAny_pure h
theorem pick_rev (xs : Array Value) : ((List.range xs.size).filterMap fun (m : Nat) => xs[(((xs.size : Int) - 1) + (m : Int) * (-1)).toNat]?).toArray = xs.toList.reverse.toArray := by
  congr 1
  have key : ∀ k, k ≤ xs.size → (List.range k).filterMap (fun (m : Nat) => xs[(((xs.size : Int) - 1) + (m : Int) * (-1)).toNat]?) = xs.toList.reverse.take k := by
    intro k
    induction k with
    | zero => intro _; rfl
    | succ k ih =>
      intro hk
      rw [List.range_succ, List.filterMap_append, ih (by omega)]
      have hl : k < xs.toList.reverse.length := by simp; omega
      rw [List.take_succ_eq_append_getElem hl]
      congr 1
      have e : (((xs.size : Int) - 1) + (k : Int) * (-1)).toNat = xs.size - 1 - k := by omega
      have hi : xs.size - 1 - k < xs.size := by omega
      simp only [List.filterMap_cons, List.filterMap_nil, e]
      rw [Array.getElem?_eq_getElem hi]
      simp only [List.getElem_reverse]
      simp
  have z := key xs.size (Nat.le_refl _)
  rw [z]
  exact List.take_of_length_le (by simp)
theorem getItem_tuple_rev {t sl : Addr} {items : Array Value} {vl vu vs : Value} {Q : Value → Shared → Prop} (ht : IsTup s.heap t items) (hs : s.heap.IsSliceOf sl vl vu vs) (pl : IsPart vl none) (pu : IsPart vu none) (ps : IsPart vs (some (-1)))
    (h : Q (.ref s.heap.objs.size) { s with heap := s.heap.push { cls := .type "tuple", data := .seq items.toList.reverse.toArray } })
    (hsz : items.size ≤ sizeLine) : wpAny (model prog w) A (getItem (.ref t) (.ref sl)) Q E s := by
  have htake : sizeOk (.seq items.toList.reverse.toArray) := by
    show items.toList.reverse.toArray.size ≤ sizeLine
    simpa using hsz
  obtain ⟨os, hos, hcs, hds⟩ := id hs
  have hTs : s.TypeIs (.ref sl) "slice" := ⟨os, hos, hcs⟩
  unfold getItem
  try with_reducible refine wpAny_holding ?_
  first | refine wpAny_bind (wpAny_pure ?_) | skip
  refine wpAny_bind (wpAny_sequenceKey ht.typeIs (by decide) ?_)
  refine wpAny_bind (wpAny_callSpecial?_slot (name := Str.ofString "__getitem__") ht.typeIs PyProof.Rows.slot_tuple_getitem
    (wpAny_call_entry PyProof.Rows.slot_tuple_getitem ht.typeIs entry_tuple_getitem ?_ (args_tuple_getitem _ _)))
  show wpAny _ _ (Builtin.Tuple.tupleItemsOf (.ref t) >>= _) _ _ s
  refine wpAny_bind (tupleItemsOf_ ht ?_)
  refine wpAny_bind (wpAny_typeOf hTs ?_)
  rw [if_pos (by decide)]
  refine wpAny_bind (sliceApplied_rev hs pl pu ps ?_)
  show wpAny _ _ (if (((items.size : Int) - 1) == 0 && (-1 : Int) == 1 && items.size == items.size) = true then _ else _) _ _ s
  rw [if_neg (by simp), pick_rev]
  first
    | exact wpAny_bind (m := Builtin.Tuple.tupleExact _) (wpAny_newObj_type (wpAny_pure ⟨_, rfl, wpAny_pure h⟩) htake)
    | exact wpAny_bind (m := Builtin.Tuple.tupleExact _) (wpAny_newObj_type (wpAny_bind (wpAny_pure (wpAny_pure ⟨_, rfl, wpAny_pure h⟩))) htake)
    | exact wpAny_bind (wpAny_bind (m := Builtin.Tuple.tupleExact _) (wpAny_newObj_type (wpAny_pure (wpAny_pure ⟨_, rfl, wpAny_pure h⟩)) htake))
    | exact wpAny_bind (wpAny_bind (m := Builtin.Tuple.tupleExact _) (wpAny_newObj_type (wpAny_pure ⟨_, rfl, wpAny_pure h⟩) htake))
end
end HT
namespace L2
open PySem PySem.Spec PyProof.Rows
section
variable {X : Cx}
theorem pe_revT {e : Expr} {te : TE} {k : Nat} {p1 p2 p3 pos : Pos} (he : PE X e te) : PE X (.Subscript e (.Slice none none (some (.UnaryOp .USub (.Constant (.int 1) k p1) p2)) p3) pos) (tUn (fun x H1 Q => ∃ a xs, x = .ref a ∧ SqT X.K H1 a xs ∧ ∀ p, H1 p = none → Q (.ref p) (upd H1 p (.tup xs.reverse))) te) := by
  refine ⟨fun pins s σ H Q I h => ?_⟩
  refine Subscript_ (thn (he.run pins s σ H _ I h) fun v s1 ⟨x, H1, I1, r1, q1⟩ => ?_)
  obtain ⟨a, xs, ex, hx, q⟩ := q1
  subst ex
  cases r1
  have hst : PO X (some (.UnaryOp .USub (.Constant (.int 1) k p1) p2)) (tPart (tUn (rU fun i => .int (-i)) (tC (.int 1)))) := po_some (pe_un un_neg pe_int)
  refine wpAny_Slice (thn (po_none.run pins s1 σ H1 (fun o H2 => o = none ∧ H2 = H1) I1 ⟨rfl, rfl⟩) fun vl s2 ⟨l, H2, I2, pl, el, e2⟩ => ?_)
  subst el e2
  refine thn (po_none.run pins s2 σ H2 (fun o H3 => o = none ∧ H3 = H2) I2 ⟨rfl, rfl⟩) fun vu s3 ⟨u, H3, I3, pu, eu, e3⟩ => ?_
  subst eu e3
  refine thn (hst.run pins s3 σ H3 (fun o H4 => o = some (-1) ∧ H4 = H3) I3 ⟨1, rfl, -1, rfl, rfl, rfl⟩) fun vs s4 ⟨o, H4, I4, ps, eo, e4⟩ => ?_
  subst eo e4
  have I5 : Inv X pins σ H4 { s4 with heap := s4.heap.push { cls := .type "slice", data := .fields #[vl, vu, vs] } } := I4.kept (t' := s4.toks) fun b ob q => Heap.get?_push_of_some _ q
  obtain ⟨its, r, ht, hz⟩ := I5.tuple hx
  have hlen := r.length
  show wpAny (model X.prog X.w) X.A (subscriptTail e (.Slice none none (some (.UnaryOp .USub (.Constant (.int 1) k p1) p2)) p3) (.ref a) (.ref s4.heap.objs.size)) (EP X pins σ Q) X.xe { s4 with heap := s4.heap.push { cls := .type "slice", data := .fields #[vl, vu, vs] } }
  refine tail_any (ops := [.ref a, .ref s4.heap.objs.size]) ht.typeIs (PyProof.Rows.slot_tuple_getitem.lookup) ?_ (by with_unfolding_all rfl)
  refine HT.getItem_tuple_rev ht (Heap.IsSliceOf.new _ vl vu vs) pl pu ps ?_ (by rw [List.size_toArray]; omega)
  refine ⟨.ref _, _, I5.laid (t' := s4.toks) (o := .tup xs.reverse) (fun b ob q => Heap.get?_push_of_some _ q) (Nat.le_refl _) ?_, rfl, q _ (I5.hok.fresh (Nat.le_refl _))⟩
  exact ⟨by rw [List.length_reverse]; exact hz, _, r.reverse, IsTup.new _ _⟩
end
end L2
namespace Fd
open PySem L2
def revTD : D → Option RV
  | .tup l => some (.val (.tup l.reverse))
  | _ => none
section
variable {X : Cx} {W : WO} {fe : M RV}
theorem good_revT {K : PySem.W.Frag} : Good1 K (fun x H1 Q => ∃ a xs, x = .ref a ∧ SqT K H1 a xs ∧ ∀ p, H1 p = none → Q (.ref p) (upd H1 p (.tup xs.reverse))) revTD := by
  intro M H x a res Q dm rd e q
  cases a with
  | tup l =>
    cases e
    obtain ⟨b, xs, rfl, h1, h2⟩ := rd.tup
    exact ⟨b, xs, rfl, .of h1, fun p hp => q.tup dm h2.rev hp⟩
  | _ => cases e
theorem e_revT {e : Expr} {k : Nat} {p1 p2 p3 pos : Pos} (he : PE X e (TEof X.K W fe)) : PE X (.Subscript e (.Slice none none (some (.UnaryOp .USub (.Constant (.int 1) k p1) p2)) p3) pos) (TEof X.K W (op1 revTD fe)) :=
  PE_weak (pe_revT he) fun _ _ _ h => t_op1 good_revT h
end
def strD : List D → Option RV
  | [.str x] => some (.val (.str x))
  | _ => none
theorem good_str {K : PySem.W.Frag} : GoodL K (fun xs H Q => ∃ a, xs = [.str a] ∧ Q (.str a) H) strD := by
  intro M H vs ds res Q dm rd e q
  match ds, rd, e with
  | [.str x], rd, e =>
    cases e
    match vs, rd with
    | [v], rd =>
      obtain ⟨h1, h2⟩ := rd.1.str
      subst h1
      exact ⟨x, rfl, q.same dm (.str x h2)⟩
    | [], rd => exact rd.elim
    | _ :: _ :: _, rd => exact rd.2.elim
end Fd

/-! Fd29: enumerate(t), t a tuple (after the library's rules for lists). -/
namespace PySem
open Sem (wp)
open AutoSeq1 (wpAny_loadPart')
theorem meets_enumerate_newT (l : Addr) (items : Array Value) (n : Nat) (dct : Option Addr) (sl : Array (Option Value)) :
    Meets (Builtin.«enumerate.__new__» ⟨[.type "enumerate", .ref l], []⟩) (fun _ R s => s.heap.get? l = some { cls := .type "tuple", dict := dct, data := .seq items n, slots := sl } ∧
      R (.ok (.ret (.ref (s.heap.push { cls := .type "tuple_iterator", data := .fields #[.ref l, .int 0 0] }).objs.size)))
        { s with heap := (s.heap.push { cls := .type "tuple_iterator", data := .fields #[.ref l, .int 0 0] }).push { cls := .type "enumerate", data := .fields #[.none, .bool false, .ref s.heap.objs.size, rawInt 0, .none, .none] } }) :=
  .of_wp fun prog w A R s h => by
    obtain ⟨hp, g, d, tk, os⟩ := s; obtain ⟨hl, h⟩ := h
    have hsub := sub_enumerate
    have hL : Heap.IsTuple (Shared.heap ⟨hp, g, d, tk, os⟩) l items := ⟨_, hl, rfl, n, rfl⟩
    wp_walk using wpAny_loadPart' hl
    refine wpAny_stack_any fun st => wpAny_pure ?_
    split
    · rename_i c _ _ _ _ _
      cases (c == Value.type "enumerate")
      · wp_walk using wpAny_loadPart' hl, wpAny_pyIter_tuple hL
        exact ⟨_, rfl, h⟩
      · wp_walk using wpAny_loadPart' hl, wpAny_pyIter_tuple hL
        exact ⟨_, rfl, h⟩
    · wp_walk using wpAny_loadPart' hl, wpAny_pyIter_tuple hL
      exact ⟨_, rfl, h⟩
section
variable {prog : Program} {w : World} {A : Around} {E : Value → Shared → Prop} {s : Shared}
theorem call_enumerate_tuple {l : Addr} {items : Array Value} {Q : Value → Shared → Prop} (hL : s.heap.IsTuple l items)
    (h : ∀ h', IsEnum h' (s.heap.objs.size + 1) s.heap.objs.size 0 .none → h'.IsTupleIter s.heap.objs.size l 0 → h'.objs.size = s.heap.objs.size + 2 →
      (∀ b o, s.heap.get? b = some o → h'.get? b = some o) → Q (.ref (s.heap.objs.size + 1)) { s with heap := h' }) :
    wpAny (model prog w) A (call (.type "enumerate") [.ref l]) Q E s := by
  obtain ⟨⟨c, dct, dt, sl⟩, hl, hc, n, hd⟩ := hL
  replace hc : c = .type "tuple" := hc
  replace hd : dt = .seq items n := hd
  subst hc hd
  refine callType_new F.called_enumerate (by decide) (F.typeCall_enumerate_1 _) (F.newCall_enumerate_1 _) (fun obj => F.args_object_init_2 obj _) F.entry_enumerate_new
    (meets_enumerate_newT l items n dct sl) ⟨hl, ?_⟩
  have hz : (s.heap.push { cls := .type "tuple_iterator", data := .fields #[.ref l, .int 0 0] }).objs.size = s.heap.objs.size + 1 := Heap.size_push ..
  show _ ∧ _
  rw [hz]
  have he : IsEnum ((s.heap.push { cls := .type "tuple_iterator", data := .fields #[.ref l, .int 0 0] }).push
      { cls := .type "enumerate", data := .fields #[.none, .bool false, .ref s.heap.objs.size, rawInt 0, .none, .none] }) (s.heap.objs.size + 1) s.heap.objs.size 0 .none := by
    have := Heap.get?_push_size (s.heap.push { cls := .type "tuple_iterator", data := .fields #[.ref l, .int 0 0] })
      (o := { cls := .type "enumerate", data := .fields #[.none, .bool false, .ref s.heap.objs.size, rawInt 0, .none, .none] }) rfl
    rw [hz] at this; exact this
  refine ⟨⟨_, he, rfl⟩, h _ he ⟨_, Heap.get?_push_of_some _ (Heap.get?_push_size _ rfl), rfl, rfl⟩ (by rw [Heap.size_push, hz]) fun b o x => Heap.get?_push_of_some _ (Heap.get?_push_of_some _ x)⟩
end
end PySem
namespace L2
open PySem PySem.Spec PyProof.Rows
def IteT (K : PySem.W.Frag) (a : Addr) : It :=
  ⟨fun i H => ∃ (xs : List V) (x : V), SqT K H a xs ∧ xs[i]? = some x, fun i H v H' => ∃ T x, v = .ref T ∧ H T = none ∧ H' = upd H T (.tup [.int (i : Nat), x]) ∧ ∀ xs, SqT K H a xs → xs[i]? = some x, fun i H => ∃ xs : List V, SqT K H a xs ∧ xs.length ≤ i⟩
theorem turn_enumT {P : Program} {w : World} {K : PySem.W.Frag} {elts : List Expr} {kk : Nat} {tpos : Pos} (a e it : Addr) :
    Turn P w K (.Tuple elts kk tpos) (IteT K a) [e, it] e (fun i h => (∃ old, IsEnum h e it ((i : Nat) : Int) old) ∧ h.IsTupleIter it a i ∧ e ≠ it) where
  mem := by simp
  obj := fun i h st b hb => by
    obtain ⟨⟨old, he⟩, ⟨o, ho, hc, hd⟩, _⟩ := st
    have e' : b = e ∨ b = it := by simpa using hb
    rcases e' with z | z
    · rw [z]; exact ⟨_, he, fun v q => nomatch q⟩
    · rw [z]; exact ⟨o, ho, fun v q => by rw [hd] at q; cases q⟩
  keep := fun i h h' st k => let ⟨⟨old, he⟩, ⟨o, ho, r⟩, hne⟩ := st; ⟨⟨old, k e (by simp) _ he⟩, ⟨o, k it (by simp) o ho, r⟩, hne⟩
  item := by
    intro X hP hw hK hc i pins s σ H E I hf st hg
    subst hP hw hK
    obtain ⟨⟨old, he⟩, hit, hne⟩ := st
    obtain ⟨xs, x, hq, hx⟩ := hg
    obtain ⟨its, rv, p, hz⟩ := I.tuple hq
    have hT0 : s.heap.IsTuple a its.toArray := p
    obtain ⟨u, hu, ru⟩ := rv.get hx
    have hel : e < s.heap.objs.size := Heap.lt_size he
    have hil : it < s.heap.objs.size := by obtain ⟨_, q, _⟩ := hit; exact Heap.lt_size q
    have nai : a ≠ it := fun z => by
      obtain ⟨o1, h1, c1, _⟩ := hT0
      obtain ⟨o2, h2, c2, _⟩ := hit
      rw [z, h2] at h1
      cases h1
      rw [c2] at c1
      exact absurd c1 (by decide)
    have nae : e ≠ a := fun z => by
      obtain ⟨o1, h1, c1, _⟩ := hT0
      have he1 : s.heap.get? e = _ := he
      rw [← z, he1] at h1
      cases h1
      have c1 : Value.type "enumerate" = Value.type "tuple" := c1
      exact absurd c1 (by decide)
    have hlt : i < its.toArray.size := by
      have := (List.getElem?_eq_some_iff.mp hu).1
      simpa using this
    refine wpAny_pyNext_enum_itemD (Draws.tuple (A := X.A.in1) (by have := I.ok.hd hc; simpa using this) it a nai its.toArray) he ⟨hit, hT0⟩ hlt hne (by simp [hne, nae]) fun x' h' tk hx' ho hst' hT hsz hk => ?_
    have hx' : its.toArray[i]? = some x' := hx'
    have ex : x' = u := by
      have h2 : its[i]? = some x' := by simpa using hx'
      rw [hu] at h2
      cases h2
      rfl
    subst ex
    refine ⟨_, rfl, wpAny_letOwnedTupleGo_enum (s := { s with heap := h', toks := tk + 1 }) ho fun h'' he' sb => ?_⟩
    have hT2 : h''.get? s.heap.objs.size = some { cls := .type "tuple", data := .seq #[.int i tk, x'] } := (sb.2 _ (Nat.ne_of_gt hel)).trans hT
    have new : ObjOk X.prog X.w (upd H s.heap.objs.size (.tup [.int (i : Nat), x])) h'' s.heap.objs.size (.tup [.int (i : Nat), x]) :=
      ⟨by show 2 ≤ sizeLine; decide, [.int i tk, x'], .cons ⟨_, rfl⟩ (.cons ru .nil), ⟨_, hT2, rfl, _, rfl⟩⟩
    have I1 : Inv X pins σ (upd H s.heap.objs.size (.tup [.int (i : Nat), x])) { s with heap := h'', toks := tk + 1 } :=
      I.turnedNew (ch := [e, it]) (fun b ob hb q => (sb.2 b (fun z => hb (by simp [z]))).trans (hk b ob (fun z => hb (by simp [z])) (fun z => hb (by simp [z])) q)) hf (Nat.le_refl _) new
    obtain ⟨oi, hoi, ri⟩ := hst'.1
    refine ⟨.ref s.heap.objs.size, _, I1, rfl, ⟨_, x, rfl, I.hok.fresh (Nat.le_refl _), rfl, fun ys hy => by rw [I.tuple_inj hy hq]; exact hx⟩, ⟨⟨x', ?_⟩, ⟨oi, (sb.2 it (Ne.symm hne)).trans hoi, ri⟩, hne⟩, fun b hb => ?_⟩
    · have e1 : ((i + 1 : Nat) : Int) = (i : Int) + 1 := by omega
      rw [e1]; exact he'
    · have hb' : b < s.heap.objs.size := by
        have e' : b = e ∨ b = it := by simpa using hb
        rcases e' with z | z
        · rw [z]; exact hel
        · rw [z]; exact hil
      rw [upd_ne (Nat.ne_of_lt hb')]
      exact (hf b hb).1
  done := by
    intro X hP hw hK hc i pins s σ H E I hf st hg
    subst hP hw hK
    obtain ⟨⟨old, he⟩, hit, hne⟩ := st
    obtain ⟨xs, hq, hx⟩ := hg
    obtain ⟨its, rv, p, hz⟩ := I.tuple hq
    have hT0 : s.heap.IsTuple a its.toArray := p
    obtain ⟨f0, f1, f2, f3, f4, f5⟩ := hf it (by simp)
    have hl := rv.length
    have hT : s.TypeIs (.ref e) "enumerate" := ⟨_, he, rfl⟩
    unfold pyNext
    refine wpAny_bind (wpAny_attempt (wpAny_callSpecial?_slot (name := Str.ofString "__next__") hT F.slot_enumerate_next
      (wpAny_call_entry F.slot_enumerate_next hT F.entry_enumerate_next ?_ (F.args_enumerate_next_1 _))))
    show wpAny _ _ (field (.ref e) 2 >>= _) _ _ _
    refine wpAny_bind (wpAny_field he rfl (x := .ref it) rfl ?_)
    refine wpAny_bind (wpAny_nextOf_tuple_end (by have := I.ok.hd hc; simpa using this) hit hT0 (by simp; omega) fun h' x he' hx' => ?_)
    obtain ⟨o, ho, hc'⟩ := hx'
    refine wpAny_bind (wpAny_isInstance (T := "StopIteration") (b := true) ⟨o, ho, hc'⟩ isSubtype_stop ?_)
    exact wpAny_pure ⟨rfl, I.turned (t' := s.toks) (fun b o hb q => he' b o hb q) f0 f1 f3 f4 f5⟩
  self := fun A i s Q E st h => let ⟨⟨_, he⟩, _⟩ := st; wpAny_pyIter_enum he h
def iEnumT (K : PySem.W.Frag) (ta : TA) : TI := fun σ H R => ta σ H fun vs H1 => ∃ a xs, vs = [.ref a] ∧ SqT K H1 a xs ∧ R (IteT K a) H1
theorem pi_enumT {X : Cx} {e : Expr} {ta : TA} {p pos tpos : Pos} {elts : List Expr} {kk : Nat} (hg : Gl X "enumerate") (hm : X.mg "enumerate" = none) (ha : PA X [e] ta) (hs : starEach [e] X.env = [(false, eval e X.env)] := by rfl) :
    PI X (.Tuple elts kk tpos) (.Call (.Name "enumerate" p) [e] [] pos) (iEnumT X.K ta) := by
  refine ⟨fun pins s σ H R I h => ?_⟩
  refine Call_ (ld_blt I hg hm boot_enumerate (PyProof.Rows.callWith_type1 (thn (ha.run pos pins s σ H _ I h) fun us s1 ⟨vs, H1, I1, r1, q1⟩ => ?_) hs rfl))
  obtain ⟨a, xs, ex, hq, q⟩ := q1
  subst ex
  cases r1 with
  | cons r rr =>
    cases rr
    cases r
    obtain ⟨its, rv, p', hz⟩ := I1.tuple hq
    refine call_enumerate_tuple (show s1.heap.IsTuple a its.toArray from p') fun h' he hit hsz hk => wpAny_pyIter_enum he ?_
    have I2 : Inv X pins σ H1 { s1 with heap := h' } := I1.kept (t' := s1.toks) hk
    refine ⟨s1.heap.objs.size + 1, [s1.heap.objs.size + 1, s1.heap.objs.size], _, _, H1, rfl, I2, turn_enumT a (s1.heap.objs.size + 1) s1.heap.objs.size, ⟨⟨.none, he⟩, hit, Nat.succ_ne_self _⟩, fun b hb => ?_, q⟩
    have e' : b = s1.heap.objs.size + 1 ∨ b = s1.heap.objs.size := by simpa using hb
    have hle : s1.heap.objs.size ≤ b := by
      rcases e' with z | z
      · rw [z]; exact Nat.le_add_right _ _
      · rw [z]; exact Nat.le_refl _
    exact I1.fpOk hle (I1.hok.fresh hle)
theorem walk_enumT {K : PySem.W.Frag} {a : Addr} {xs : List V} : Walk (IteT K a) xs.length (fun H => SqT K H a xs) (YPair (fun i => some (.int (i : Nat))) (fun i => xs[i]?)) := by
  refine ⟨fun i _ hi q => ⟨xs, xs[i], q, by simp [hi]⟩, fun _ q => ⟨xs, q, Nat.le_refl _⟩, fun i H v H' _ q y => ?_⟩
  obtain ⟨T, x, h1, h2, h3, h4⟩ := y
  exact ⟨T, .int (i : Nat), x, h1, h2, h3, rfl, h4 xs q⟩
end L2
namespace Fd
open PySem L2
def enumTR : RV → M ItS
  | .val (.tup ds) => ret (.dat (ds.mapIdx fun i d => .tup [.int i, d]))
  | _ => fail
def enumTE (fa : M RV) : M ItS := bnd fa enumTR
theorem i_enumT {X : Cx} {W : WO} {a : Expr} {fa : M RV} {pos p tpos : Pos} {elts : List Expr} {kk : Nat} (hm : X.mg "enumerate" = none) (ha : PE X a (TEof X.K W fa)) (hg : Gl X "enumerate" := by rfl) (hs : starEach [a] X.env = [(false, eval a X.env)] := by rfl) :
    PI X (.Tuple elts kk tpos) (.Call (.Name "enumerate" p) [a] [] pos) (TIof X.K W (enumTE fa)) := by
  refine PI_weak (pi_enumT hg hm (pa_cons ha pa_nil hs) hs) fun σ H R h => ?_
  obtain ⟨L, F, M, ρ, rel, post⟩ := h
  refine seqV (PIt X.K L W σ R F M H) (fun _ _ z => z) id rel post fun r1 ρ1 p1 v1 M1 H1 e1 l1 q1 n1 => ?_
  have go : ∀ {a : Addr} {xs : List V} {ds : List D} {F' : AP}, H1 a = some (.tup xs) → IsAll M1 X.K H1 xs ds → ¬ M1 a → ItD X.K (IteT X.K a) (ds.mapIdx fun i d => .tup [.int i, d]) F' M1 H1 := by
    intro a xs ds F' h al n
    refine ⟨fun H => SqT X.K H a xs, _, by rw [List.length_mapIdx, ← al.length]; exact walk_enumT, fun M2 H2 e => .of (e.nd h n rfl).1, fun i M2 H2 x H3 hi e dm y => ?_⟩
    obtain ⟨T, x', y', rfl, hT, rfl, hx', hy'⟩ := y
    cases hx'
    have hi0 : i < ds.length := by simpa using hi
    have hi' : ds[i]? = some ds[i] := List.getElem?_eq_getElem hi0
    obtain ⟨x'', h1, h2⟩ := al.get hi'
    have hy' : xs[i]? = some y' := hy'
    rw [hy'] at h1; cases h1
    refine ⟨.tup [.int i, ds[i]], by simp [List.getElem?_mapIdx, hi'], grow_tup dm hT, .tup upd_same (fun m => dm T m hT) (.cons (.int _) (.cons ?_ .nil))⟩
    exact Is.evo (F := fun _ => False) (evo_new dm hT) _ (h2.evo e)
  cases r1 with
  | bor i => exact p1.elim
  | tmp d => exact p1.elim
  | val d =>
    cases d with
    | tup ds =>
      cases q1 with
      | tup h1 h2 h3 => exact ⟨_, _, rfl, .of h1, p1 _ noB M1 H1 e1 (fun _ z => z.elim) (l1.noB fun _ z => z) (go h1 h3 h2)⟩
    | _ => exact p1.elim
end Fd

namespace Fd
open PySem L2
section
variable {α X : Type} {S : List SS} {r : Res X} {Q : X → α → Ev → Prop} {κ : ItS → M α} {fa : M RV} {d : D}
def enumTRs (d : D) : Res (List D) := match d with
  | .tup ds => .ok (enumL ds)
  | _ => .bad
theorem z_enumT (h : Go S (bnd fa fun r => bnd (enumTR r) κ) r Q) : Go S (bnd (enumTE fa) κ) r Q := h.eq (by unfold enumTE; rw [bnd_assoc])
theorem z_enumTV {k : List D → Res X} (h : ∀ ds, Go S (κ (.dat ds)) (k ds) Q) : Go S (bnd (enumTR (.val d)) κ) ((enumTRs d).bind k) Q := by
  cases d with
  | tup ds => exact h (enumL ds)
  | _ => exact z_bad
end
end Fd

/-! Sp10: data of any kind and small depth; loops that end at the first bad one. -/
namespace Sp
open PySem L2 Fd
def Od (L : Nat) : Nat → D → Prop
  | 0, _ => False
  | n + 1, .tup ds => ds.length ≤ L ∧ ∀ e ∈ ds, Od L n e
  | n + 1, .lst ds => ds.length ≤ L ∧ ∀ e ∈ ds, Od L n e
  | _ + 1, .dK _ => False
  | _ + 1, .dT _ => False
  | _ + 1, .scr _ => False
  | _ + 1, .kt _ => False
  | _ + 1, .str x => x.length ≤ 100
  | _ + 1, _ => True
theorem Od.up {L : Nat} : ∀ {n : Nat} {d : D}, Od L n d → Od L (n + 1) d
  | 0, _, h => h.elim
  | n + 1, .tup ds, h => ⟨h.1, fun e he => (h.2 e he).up⟩
  | n + 1, .lst ds, h => ⟨h.1, fun e he => (h.2 e he).up⟩
  | _ + 1, .dK _, h => h.elim
  | _ + 1, .dT _, h => h.elim
  | _ + 1, .scr _, h => h.elim
  | _ + 1, .kt _, h => h.elim
  | _ + 1, .non, _ => trivial
  | _ + 1, .bl _, _ => trivial
  | _ + 1, .int _, _ => trivial
  | _ + 1, .str _, h => h
theorem Od.le {L : Nat} {n m : Nat} {d : D} (h : Od L n d) (l : n ≤ m) : Od L m d := by
  induction l with
  | refl => exact h
  | step _ ih => exact ih.up
theorem Od.wide {L L' : Nat} (hl : L ≤ L') : ∀ {n : Nat} {d : D}, Od L n d → Od L' n d
  | 0, _, h => h.elim
  | n + 1, .tup ds, h => ⟨Nat.le_trans h.1 hl, fun e he => (h.2 e he).wide hl⟩
  | n + 1, .lst ds, h => ⟨Nat.le_trans h.1 hl, fun e he => (h.2 e he).wide hl⟩
  | _ + 1, .dK _, h => h.elim
  | _ + 1, .dT _, h => h.elim
  | _ + 1, .scr _, h => h.elim
  | _ + 1, .kt _, h => h.elim
  | _ + 1, .non, _ => trivial
  | _ + 1, .bl _, _ => trivial
  | _ + 1, .int _, _ => trivial
  | _ + 1, .str _, h => h
theorem Od.pd {L : Nat} : ∀ {n : Nat} {d : D}, Od L n d → d.pl = true ∧ d.dep ≤ n + 1
  | 0, _, h => h.elim
  | n + 1, .tup ds, h => ⟨plAll_all fun e he => (h.2 e he).pd.1, by
      have := depAll_le (n := n + 1) fun e he => (h.2 e he).pd.2
      simp only [D.dep, D.py, PyData.depth]; omega⟩
  | n + 1, .lst ds, h => ⟨plAll_all fun e he => (h.2 e he).pd.1, by
      have := depAll_le (n := n + 1) fun e he => (h.2 e he).pd.2
      simp only [D.dep, D.py, PyData.depth]; omega⟩
  | _ + 1, .dK _, h => h.elim
  | _ + 1, .dT _, h => h.elim
  | _ + 1, .scr _, h => h.elim
  | _ + 1, .kt _, h => h.elim
  | _ + 1, .non, _ => by simp [D.pl, D.dep, D.py, PyData.depth]
  | _ + 1, .bl _, _ => by simp [D.pl, D.dep, D.py, PyData.depth]
  | _ + 1, .int _, _ => by simp [D.pl, D.dep, D.py, PyData.depth]
  | _ + 1, .str _, h => by simp [D.pl, D.dep, D.py, PyData.depth]
theorem eqD_of {a b : D} (ha : a.pl = true) (hb : b.pl = true) (hd : a.dep ≤ 64) : eqD a b = some (.val (.bl (PyData.eqv a.py b.py))) := by
  unfold eqD; rw [if_pos ⟨ha, hb, by omega⟩]
theorem neD_of {a b : D} (ha : a.pl = true) (hb : b.pl = true) (hd : a.dep ≤ 64) : neD a b = some (.val (.bl (!PyData.eqv a.py b.py))) := by
  unfold neD; rw [if_pos ⟨ha, hb, by omega⟩]
/-! ### all -/
theorem bools_map {α : Type} (g : α → Bool) : ∀ l : List α, boolsOf (l.map fun a => D.bl (g a)) = some (l.map g)
  | [] => rfl
  | a :: l => by simp [boolsOf, bools_map g l]
theorem allD_map {α : Type} (g : α → Bool) (l : List α) : allD [.lst (l.map fun a => D.bl (g a))] = some (.val (.bl (l.all g))) := by
  show (boolsOf _).map _ = _
  rw [bools_map]
  simp
theorem lcP_id {b : D → Res (Option D)} {g : D → D} {L : List D} (h : ∀ a ∈ L, b a = .ok (some (g a))) (hl : L.length ≤ 1000000) : lcP b L = .ok (L.map g) := by
  have := lcP_all (e := fun d : D => d) (b := b) (g := g) (L := L) h hl
  simpa using this
theorem lcP_idf {b : D → Res (Option D)} {p : D → Bool} {L : List D} (h : ∀ a ∈ L, b a = .ok (if p a = true then some a else none)) (hl : L.length ≤ 1000000) : lcP b L = .ok (L.filter p) := by
  have := lcP_map (e := fun d : D => d) (b := b) (p := p) (g := fun d => d) (L := L) h hl
  simpa using this
/-! ### loops that end at the first bad one -/
theorem forX_first {Y ρ : Type} {b : Unit → D → Res (Lp Unit ρ)} {g : D → Bool} {r0 : ρ} {k : Unit → Res Y} {l : ρ → Res Y} : ∀ {ds : List D}, (∀ d ∈ ds, b () d = .ok (if g d = true then .go () else .ret r0)) → after (forX b ds ()) k l = if ds.all g = true then k () else l r0
  | [], _ => rfl
  | d :: ds, h => by
    have h1 := h d List.mem_cons_self
    have ih := forX_first (Y := Y) (k := k) (l := l) (ds := ds) fun e he => h e (List.mem_cons_of_mem _ he)
    by_cases hg : g d = true
    · rw [if_pos hg] at h1
      have e : forX b (d :: ds) () = forX b ds () := by
        show (b () d).bind _ = _
        rw [h1]; rfl
      rw [e, ih, List.all_cons, hg, Bool.true_and]
    · rw [if_neg hg] at h1
      have e : forX b (d :: ds) () = .ok (.inr r0) := by
        show (b () d).bind _ = _
        rw [h1]; rfl
      rw [e, List.all_cons, Bool.not_eq_true _ |>.mp hg, Bool.false_and]
      rfl
theorem forX_enum {Y ρ : Type} {b : Unit → D → Res (Lp Unit ρ)} {g : Nat → D → Bool} {r0 : ρ} {k : Unit → Res Y} {l : ρ → Res Y} {all : List D} : ∀ (ds : List D) (m : Nat), all.drop m = ds →
    (∀ i d, all[i]? = some d → (∀ j e, j < i → all[j]? = some e → g j e = true) → b () (.tup [.int i, d]) = .ok (if g i d = true then .go () else .ret r0)) →
    (∀ j e, j < m → all[j]? = some e → g j e = true) →
    ∃ r : Bool, after (forX b (ds.mapIdx fun i d => .tup [.int ((m + i : Nat) : Int), d]) ()) k l = (if r = true then k () else l r0) ∧ (r = true ↔ ∀ j e, all[j]? = some e → g j e = true)
  | [], m, hm, _, hp => ⟨true, rfl, by
      refine ⟨fun _ j e he => hp j e ?_ he, fun _ => rfl⟩
      have h1 : all.length ≤ m := List.drop_eq_nil_iff.mp hm
      have h2 := (List.getElem?_eq_some_iff.mp he).1
      omega⟩
  | d :: ds, m, hm, hb, hp => by
    have hd : all[m]? = some d := by
      have : (all.drop m)[0]? = some d := by rw [hm]; rfl
      rwa [List.getElem?_drop] at this
    have h1 := hb m d hd hp
    have hm' : all.drop (m + 1) = ds := by
      rw [← List.drop_drop, hm]; rfl
    have e0 : (((d :: ds).mapIdx fun i d => D.tup [.int ((m + i : Nat) : Int), d])) = D.tup [.int ((m : Nat) : Int), d] :: (ds.mapIdx fun i d => D.tup [.int ((m + 1 + i : Nat) : Int), d]) := by
      rw [List.mapIdx_cons]
      congr 1
      congr 1
      funext i d
      congr 4
      omega
    rw [e0]
    by_cases hg : g m d = true
    · rw [if_pos hg] at h1
      obtain ⟨r, e, hr⟩ := forX_enum (Y := Y) (k := k) (l := l) ds (m + 1) hm' hb fun j e hj he => by
        by_cases hjm : j = m
        · subst hjm; rw [hd] at he; cases he; exact hg
        · exact hp j e (by omega) he
      refine ⟨r, ?_, hr⟩
      rw [← e]
      congr 1
      show (b () _).bind _ = _
      rw [h1]; rfl
    · rw [if_neg hg] at h1
      refine ⟨false, ?_, ?_⟩
      · have e : forX b (D.tup [.int ((m : Nat) : Int), d] :: (ds.mapIdx fun i d => D.tup [.int ((m + 1 + i : Nat) : Int), d])) () = .ok (.inr r0) := by
          show (b () _).bind _ = _
          rw [h1]; rfl
        rw [e]; rfl
      · exact ⟨fun z => (by cases z), fun z => absurd (z m d hd) hg⟩
/-! ### names, numbers -/
def signB : D → Bool
  | .str c => inStr c "abcdefghijklmnopqrstuvwxyz"
  | _ => false
def nameB : D → Bool
  | .str x => decide (1 ≤ (x.length : Int)) && decide ((x.length : Int) ≤ 8) && (signs x).all signB
  | _ => false
theorem nameB_str (x : Str) : nameB (.str x) = (decide (1 ≤ (x.length : Int)) && decide ((x.length : Int) ≤ 8) && (signs x).all signB) := rfl
def numB : D → Bool
  | .int _ => true
  | _ => false
theorem sortSet_rows {l : List Row} (hl : l.length < 64) : sortSetD (.lst (l.map dRow)) = some (.tmp (.lst (isort (dedup (l.map dRow))))) := by
  have k : keysOkB (l.map dRow) = true := by
    unfold keysOkB
    rw [Bool.or_eq_true]
    right
    rw [List.all_eq_true]
    intro d hd
    obtain ⟨r, _, rfl⟩ := List.mem_map.mp hd
    rfl
  show (if _ then _ else _) = _
  rw [if_pos ⟨k, sortOk_rows l, by rw [List.length_map]; omega⟩]
theorem lst_pd {n : Nat} {l : List D} (h : ∀ d ∈ l, d.pl = true ∧ d.dep ≤ n) : (D.lst l).pl = true ∧ (D.lst l).dep ≤ n + 1 := by
  refine ⟨plAll_all fun d hd => (h d hd).1, ?_⟩
  have := depAll_le fun d hd => (h d hd).2
  simp only [D.dep, D.py, PyData.depth]; omega
theorem isort_dedup_mem {l : List D} {d : D} (h : d ∈ isort (dedup l)) : d ∈ l := by
  have := (isort_perm _).mem_iff.mp h
  clear h
  induction l with
  | nil => exact this
  | cons a l ih =>
    unfold dedup at this
    split at this
    · exact List.mem_cons_of_mem _ (ih this)
    · rcases List.mem_cons.mp this with rfl | h
      · exact List.mem_cons_self
      · exact List.mem_cons_of_mem _ (ih h)
end Sp

/-! Fd30: the module's own numbers and texts. -/
namespace Fd
open PySem L2
section
variable {X : Cx} {W : WO}
theorem e_globI {x : Str} {i : Int} {pos : Pos} (h : ∃ t, X.mg x = some (.int i t)) (hg : Gl X x := by rfl) (hdb : (x == ("__debug__" : Str)) = false := by decide) : PE X (.Name x pos) (TEof X.K W (con (.int i))) :=
  let ⟨t, q⟩ := h
  e_glob (d := .int i) (v := .int i) q ⟨t, rfl⟩ rfl hg hdb
theorem e_globS {x a : Str} {pos : Pos} (h : ∃ t, X.mg x = some (.str a t)) (ok : (D.str a).atom = some (.str a)) (hg : Gl X x := by rfl) (hdb : (x == ("__debug__" : Str)) = false := by decide) : PE X (.Name x pos) (TEof X.K W (con (.str a))) :=
  let ⟨t, q⟩ := h
  e_glob (d := .str a) (v := .str a) q ⟨t, rfl⟩ ok hg hdb
end
theorem call_str_str {X : Cx} : CallR X (.type "str") (fun xs H Q => ∃ a, xs = [.str a] ∧ Q (.str a) H) := SkE.call_str_str
end Fd

/-! Fd31: tuples and tables that the program has written at its top. -/
namespace Fd
open PySem L2
/-- at a: a written dict of texts to tuples of texts -/
structure KTab (w : World) (K : PySem.W.Frag) (a : Addr) (tbl : List (Str × List Str)) : Prop where
  dict : ∃ es n, KDict K w a es n
  has : ∀ z ss, tbl.lookup z = some ss → ∃ p, PySem.W.nsIn K a z = some (some (.ref p)) ∧ KTp K p (ss.map V.str)
  no : ∀ z, tbl.lookup z = none → PySem.W.nsIn K a z = some none
  ok : ∀ z ss, tbl.lookup z = some ss → ∀ s ∈ ss, PyData.strOk s = true
theorem isAll_kt {M : AP} {K : PySem.W.Frag} {H : Hp} : ∀ {ss : List Str}, (∀ s ∈ ss, PyData.strOk s = true) → IsAll M K H (ss.map V.str) (ss.map D.str)
  | [], _ => .nil
  | s :: ss, h => .cons (.str s (h s List.mem_cons_self)) (isAll_kt fun t ht => h t (List.mem_cons_of_mem _ ht))
def inKd (neg : Bool) (tbl : List (Str × List Str)) : D → Option RV
  | .str z => some (.val (.bl ((tbl.lookup z).isSome != neg)))
  | _ => none
def ixKd (tbl : List (Str × List Str)) : D → Option RV
  | .str z => (tbl.lookup z).map fun ss => .val (.kt (ss.map D.str))
  | _ => none
section
variable {X : Cx} {W : WO} {e : Expr} {fe : M RV} {a : Addr} {tbl : List (Str × List Str)} {x : Str} {p pos : Pos}
theorem ns_of {w : World} {K : PySem.W.Frag} (T : KTab w K a tbl) (z : Str) : ∃ r, PySem.W.nsIn K a z = some r ∧ r.isSome = (tbl.lookup z).isSome := by
  cases h : tbl.lookup z with
  | none => exact ⟨none, T.no z h, rfl⟩
  | some ss => obtain ⟨q, h1, _⟩ := T.has z ss h; exact ⟨_, h1, rfl⟩
theorem e_inK (hm : X.mg x = some (.ref a)) (T : KTab X.w X.K a tbl) (he : PE X e (TEof X.K W fe)) (hg : Gl X x := by rfl) (hdb : (x == ("__debug__" : Str)) = false := by decide) (hb : behindInMarks .In (.Name x p) = false := by rfl) : PE X (.Compare e [.In] [.Name x p] pos) (TEof X.K W (op1 (inKd false tbl) fe)) := by
  obtain ⟨es, n, kd⟩ := T.dict
  refine PE_weak (pe_cmpR (op_in_kd kd) he (pe_glob (v := .ref a) hg hm rfl hdb) hb) fun σ H Q h => ?_
  refine t_op1 (r := fun v H Q => ∃ (z : Str) (r : Option Value), v = .str z ∧ V.ref a = .ref a ∧ PySem.W.nsIn X.K a z = some r ∧ Q (.bl r.isSome) H) (fun M H v d res Q dm ra e q => ?_) h
  cases d with
  | str z =>
    cases e
    obtain ⟨r, h1, h2⟩ := ns_of T z
    exact ⟨z, r, ra.str.1, rfl, h1, by rw [h2]; rw [Bool.bne_false] at q; exact q.same dm (Is.bl _)⟩
  | _ => cases e
theorem e_notInK (hm : X.mg x = some (.ref a)) (T : KTab X.w X.K a tbl) (he : PE X e (TEof X.K W fe)) (hg : Gl X x := by rfl) (hdb : (x == ("__debug__" : Str)) = false := by decide) (hb : behindInMarks .NotIn (.Name x p) = false := by rfl) : PE X (.Compare e [.NotIn] [.Name x p] pos) (TEof X.K W (op1 (inKd true tbl) fe)) := by
  obtain ⟨es, n, kd⟩ := T.dict
  refine PE_weak (pe_cmpR (op_notIn_kd kd) he (pe_glob (v := .ref a) hg hm rfl hdb) hb) fun σ H Q h => ?_
  refine t_op1 (r := fun v H Q => ∃ (z : Str) (r : Option Value), v = .str z ∧ V.ref a = .ref a ∧ PySem.W.nsIn X.K a z = some r ∧ Q (.bl (!r.isSome)) H) (fun M H v d res Q dm ra e q => ?_) h
  cases d with
  | str z =>
    cases e
    obtain ⟨r, h1, h2⟩ := ns_of T z
    exact ⟨z, r, ra.str.1, rfl, h1, by rw [h2]; rw [Bool.bne_true] at q; exact q.same dm (Is.bl _)⟩
  | _ => cases e
theorem e_ixK (hm : X.mg x = some (.ref a)) (T : KTab X.w X.K a tbl) (he : PE X e (TEof X.K W fe)) (hs : PlainIx e := by intro _ _; rfl) (hg : Gl X x := by rfl) (hdb : (x == ("__debug__" : Str)) = false := by decide) : PE X (.Subscript (.Name x p) e pos) (TEof X.K W (op1 (ixKd tbl) fe)) := by
  obtain ⟨es, n, kd⟩ := T.dict
  refine PE_weak (pe_ix ix_kdict (pe_glob (v := .ref a) hg hm rfl hdb) he hs) fun σ H Q h => ?_
  refine t_op1 (r := fun v H Q => L2.rIxD X.K X.w (.ref a) v H Q) (fun M H v d res Q dm ra e q => ?_) h
  cases d with
  | str z =>
    have e : (tbl.lookup z).map (fun ss => RV.val (.kt (ss.map D.str))) = some res := e
    cases hz : tbl.lookup z with
    | none => rw [hz] at e; cases e
    | some ss =>
      rw [hz] at e
      cases e
      obtain ⟨q', h1, h2⟩ := T.has z ss hz
      exact ⟨a, z, .ref q', rfl, ra.str.1, ⟨es, n, .ref q', kd.at_, kd.lit, h1, rfl⟩, q.same dm (Is.kt h2 (isAll_kt (T.ok z ss hz)))⟩
  | _ => cases e
theorem t_op1T {K : PySem.W.Frag} {r : V → Hp → VK → Prop} {g : D → Option RV} {fa : M RV} {σ : L2.St} {H : Hp} {Q : Bool → Hp → Prop} (hg : Good1 K r g) (hb2 : ∀ x res, g x = some res → ∃ k, res = .val (.bl k)) (h : TTof K W (tst (op1 g fa)) σ H Q) : tTest (tUn r (TEof K W fa)) σ H Q := by
  obtain ⟨L, F, M, ρ, rel, post⟩ := h
  have post : PB K L W σ Q F M H (bnd fa (fun r1 => bnd (fin1 g r1) fun r ρ => match r.dat ρ with
    | some d => (match truth d with
      | some b => .ok b ρ
      | none => .bad)
    | none => .bad) ρ) := by
    have e : ∀ ρ, tst (op1 g fa) ρ = bnd fa (fun r1 => bnd (fin1 g r1) fun r ρ => match r.dat ρ with
      | some d => (match truth d with
        | some b => .ok b ρ
        | none => .bad)
      | none => .bad) ρ := fun ρ => by
      unfold tst op1 bnd
      cases fa ρ with
      | ok r1 ρ1 => simp only [bnd_ok]; all_goals rfl
      | exc x ρ1 => simp only [bnd_exc]
      | bad => simp only [bnd_bad]
    rw [← e]; exact post
  refine seqV (PB K L W σ Q F M H) (fun _ _ z => z) id rel post fun r1 ρ1 p1 v1 M1 H1 e1 l1 q1 n1 => ?_
  unfold bnd fin1 at p1
  cases h1 : r1.dat ρ1 with
  | none => rw [h1] at p1; exact p1.elim
  | some d1 =>
    rw [h1] at p1
    dsimp only at p1
    cases h3 : g d1 with
    | none => rw [h3] at p1; exact p1.elim
    | some res =>
      rw [h3] at p1
      obtain ⟨k, rfl⟩ := hb2 d1 res h3
      refine hg M1 H1 v1 d1 _ _ l1.dom (q1.rd l1 h1) h3 fun v M' H' gr nr => ?_
      have z : v = .bl k := by
        have nr' : Is M' K H' v (.bl k) := nr
        cases nr'; rfl
      have p3 : PB K L W σ Q F M H (.ok k ρ1) := p1
      exact ⟨k, z, p3 M' H' (e1.trans (gr.evo l1.dom) fun _ y => y) ((l1.sub adj_sub).grow gr)⟩
theorem bool_inK {neg : Bool} : ∀ x res, inKd neg tbl x = some res → ∃ k, res = .val (.bl k) := fun x res h => by
  cases x with
  | str z => cases h; exact ⟨_, rfl⟩
  | _ => cases h
theorem b_inK (hm : X.mg x = some (.ref a)) (T : KTab X.w X.K a tbl) (he : PE X e (TEof X.K W fe)) (hg : Gl X x := by rfl) (hdb : (x == ("__debug__" : Str)) = false := by decide) (hb : behindInMarks .In (.Name x p) = false := by rfl) : PT X (.Compare e [.In] [.Name x p] pos) (TTof X.K W (tst (op1 (inKd false tbl) fe))) := by
  obtain ⟨es, n, kd⟩ := T.dict
  refine PT_weak (pt_cmpR (op_in_kd kd) he (pe_glob (v := .ref a) hg hm rfl hdb) hb) fun σ H Q h => ?_
  refine t_op1T (r := fun v H Q => ∃ (z : Str) (r : Option Value), v = .str z ∧ V.ref a = .ref a ∧ PySem.W.nsIn X.K a z = some r ∧ Q (.bl r.isSome) H) (fun M H v d res Q dm ra e q => ?_) bool_inK h
  cases d with
  | str z =>
    cases e
    obtain ⟨r, h1, h2⟩ := ns_of T z
    exact ⟨z, r, ra.str.1, rfl, h1, by rw [h2]; rw [Bool.bne_false] at q; exact q.same dm (Is.bl _)⟩
  | _ => cases e
theorem b_notInK (hm : X.mg x = some (.ref a)) (T : KTab X.w X.K a tbl) (he : PE X e (TEof X.K W fe)) (hg : Gl X x := by rfl) (hdb : (x == ("__debug__" : Str)) = false := by decide) (hb : behindInMarks .NotIn (.Name x p) = false := by rfl) : PT X (.Compare e [.NotIn] [.Name x p] pos) (TTof X.K W (tst (op1 (inKd true tbl) fe))) := by
  obtain ⟨es, n, kd⟩ := T.dict
  refine PT_weak (pt_cmpR (op_notIn_kd kd) he (pe_glob (v := .ref a) hg hm rfl hdb) hb) fun σ H Q h => ?_
  refine t_op1T (r := fun v H Q => ∃ (z : Str) (r : Option Value), v = .str z ∧ V.ref a = .ref a ∧ PySem.W.nsIn X.K a z = some r ∧ Q (.bl (!r.isSome)) H) (fun M H v d res Q dm ra e q => ?_) bool_inK h
  cases d with
  | str z =>
    cases e
    obtain ⟨r, h1, h2⟩ := ns_of T z
    exact ⟨z, r, ra.str.1, rfl, h1, by rw [h2]; rw [Bool.bne_true] at q; exact q.same dm (Is.bl _)⟩
  | _ => cases e
/-- a written tuple of texts -/
theorem e_globT {ss : List Str} (hm : X.mg x = some (.ref a)) (T : KTp X.K a (ss.map V.str)) (ok : ∀ s ∈ ss, PyData.strOk s = true) (hg : Gl X x := by rfl) (hdb : (x == ("__debug__" : Str)) = false := by decide) : PE X (.Name x pos) (TEof X.K W (con (.kt (ss.map D.str)))) :=
  PE_weak (pe_glob (v := .ref a) hg hm rfl hdb) fun σ H Q h => by
    obtain ⟨L, F, M, ρ, rel, post⟩ := h
    exact post _ M H .refl rel (Is.kt T (isAll_kt ok)) trivial
end
end Fd

/-! Fd32: the head's looks at written tuples and tables. -/
namespace Fd
open PySem L2
def okS (s : Str) : Bool := s.cps.toList.all fun c => decide (c < 0x110000)
theorem okS_ok {s : Str} (h : okS s = true) : PyData.strOk s = true := by
  unfold PyData.strOk
  have e : (s.cps.toList.all fun c => decide (c < 0x110000)) = s.cps.all fun c => decide (c < 0x110000) := by simp
  rw [← e]; exact h
def ktpB (K : PySem.W.Frag) (p : Addr) (xs : List V) : Bool := match K.lookup p with
  | some ⟨.type c, _, .seq its _, _⟩ => decide (c = "tuple") && (decide (its.size ≤ sizeLine) && He.relAll xs its.toList)
  | _ => false
theorem ktpB_ok {K : PySem.W.Frag} {p : Addr} {xs : List V} (h : ktpB K p xs = true) : KTp K p xs := by
  unfold ktpB at h
  cases q : K.lookup p with
  | none => rw [q] at h; cases h
  | some o =>
    obtain ⟨oc, od, dt, osl⟩ := o
    rw [q] at h
    cases oc with
    | type c =>
      cases dt with
      | seq its n =>
        obtain ⟨h1, h2⟩ := He.ba (show (decide (c = "tuple") && (decide (its.size ≤ sizeLine) && He.relAll xs its.toList)) = true from h)
        obtain ⟨h3, h4⟩ := He.ba h2
        exact ⟨_, its, n, q, congrArg Value.type (of_decide_eq_true h1), rfl, of_decide_eq_true h3, He.relAll_ok h4⟩
      | _ => cases h
    | _ => cases dt <;> cases h
def kStr (e : DictEntry) : Option Str := match e.key with
  | .str x _ => some x
  | _ => none
def keysB (K : PySem.W.Frag) (a : Addr) (ks : List Str) : Bool := match K.lookup a with
  | some ⟨_, _, .dict es _, _⟩ => decide (es.toList.map kStr = ks.map some)
  | _ => false
theorem find_no {z : Str} : ∀ {l : List DictEntry} {ks : List Str}, l.map kStr = ks.map some → z ∉ ks → l.find? (·.key.isStr z) = none ∧ l.any (·.refKey) = false
  | [], _, _, _ => ⟨rfl, rfl⟩
  | e :: l, [], h, _ => by cases h
  | e :: l, k :: ks, h, hz => by
    rw [List.map_cons, List.map_cons] at h
    injection h with h1 h2
    obtain ⟨i1, i2⟩ := find_no h2 fun m => hz (List.mem_cons_of_mem _ m)
    unfold kStr at h1
    split at h1
    · rename_i x t hk
      cases h1
      have hx : (e.key.isStr z) = false := by
        rw [hk]
        show (k == z) = false
        rw [beq_eq_false_iff_ne]
        exact fun q => hz (q ▸ List.mem_cons_self)
      have hr : e.refKey = false := by unfold DictEntry.refKey; rw [hk]
      exact ⟨by rw [List.find?_cons, hx]; exact i1, by rw [List.any_cons, hr, i2]; rfl⟩
    · cases h1
theorem keysB_no {K : PySem.W.Frag} {a : Addr} {ks : List Str} {z : Str} (h : keysB K a ks = true) (hz : z ∉ ks) : PySem.W.nsIn K a z = some none := by
  unfold keysB at h
  unfold PySem.W.nsIn
  cases q : K.lookup a with
  | none => rw [q] at h; cases h
  | some o =>
    obtain ⟨oc, od, dt, osl⟩ := o
    rw [q] at h
    cases dt with
    | dict es n =>
      have h' := of_decide_eq_true (show decide (es.toList.map kStr = ks.map some) = true from h)
      obtain ⟨i1, i2⟩ := find_no h' hz
      show (match es.toList.find? (·.key.isStr z) with
        | some e => some (some e.val)
        | none => if es.toList.any (·.refKey) then none else some none) = _
      rw [i1, i2]
      rfl
    | _ => cases h
def tabB (K : PySem.W.Frag) (a : Addr) (tbl : List (Str × List Str)) : Bool := keysB K a (tbl.map (·.1)) && (tbl.all fun q => q.2.all okS && (match PySem.W.nsIn K a q.1 with
  | some (some (.ref p)) => ktpB K p (q.2.map V.str)
  | _ => false))
theorem lookup_memS {z : Str} {ss : List Str} : ∀ {l : List (Str × List Str)}, l.lookup z = some ss → (z, ss) ∈ l
  | [], h => by cases h
  | (k, v) :: l, h => by
    rw [List.lookup_cons] at h
    split at h
    · rename_i hk
      rw [beq_iff_eq] at hk
      cases h
      rw [hk]
      exact List.mem_cons_self
    · exact List.mem_cons_of_mem _ (lookup_memS h)
theorem lookup_noS {z : Str} : ∀ {l : List (Str × List Str)}, l.lookup z = none → z ∉ l.map (·.1)
  | [], _ => by simp
  | (k, v) :: l, h => by
    rw [List.lookup_cons] at h
    split at h
    · cases h
    · rename_i hk
      rw [beq_eq_false_iff_ne] at hk
      intro m
      rcases List.mem_cons.mp m with m | m
      · exact hk m
      · exact lookup_noS h m
theorem ktab_of {w : World} {K : PySem.W.Frag} {a : Addr} {tbl : List (Str × List Str)} (d : ∃ es n, KDict K w a es n) (h : tabB K a tbl = true) : KTab w K a tbl := by
  obtain ⟨h1, h2⟩ := He.ba h
  have g : ∀ z ss, tbl.lookup z = some ss → ss.all okS = true ∧ (match PySem.W.nsIn K a z with
      | some (some (.ref p)) => ktpB K p (ss.map V.str)
      | _ => false) = true := fun z ss hz => He.ba (List.all_eq_true.mp h2 (z, ss) (lookup_memS hz))
  refine ⟨d, fun z ss hz => ?_, fun z hz => keysB_no h1 (lookup_noS hz), fun z ss hz s hs => okS_ok (List.all_eq_true.mp (g z ss hz).1 s hs)⟩
  have := (g z ss hz).2
  split at this
  · rename_i p hp
    exact ⟨p, hp, ktpB_ok this⟩
  · cases this
def ktsB (K : PySem.W.Frag) (a : Addr) (ss : List Str) : Bool := ss.all okS && ktpB K a (ss.map V.str)
theorem ktsB_ok {K : PySem.W.Frag} {a : Addr} {ss : List Str} (h : ktsB K a ss = true) : KTp K a (ss.map V.str) ∧ ∀ s ∈ ss, PyData.strOk s = true := by
  obtain ⟨h1, h2⟩ := He.ba h
  exact ⟨ktpB_ok h2, fun s hs => okS_ok (List.all_eq_true.mp h1 s hs)⟩
end Fd

namespace L_k75
open PySem L2 Fd
/-! ### what the defs do -/
abbrev t_SHAPES : List (Str × List Str) := [("sound", []), ("falling", []), ("kind", ["name", "kind"]), ("late", ["name", "count"]), ("leans", ["name", "name", "number"]), ("apart", ["name", "name"]), ("window", ["count"]), ("passes", ["count"])]
/-- _law_box(_law_script, _law_k); slots _law_script _law_k _law_great_so -/
def b__law_box_1 : M Fl := (setS 2 (vl (eIf (tst (op2 ltD (ref 1) (callB lenD (aCons (ref 0) aNil)))) (op2 ixD (ref 0) (ref 1)) (con (.int 0)))))
def b__law_box_2 : M Fl := (retS (lstE (aCons (fz (op2 mulD (callB absD (aCons (ref 2) aNil)) (callB intD (aCons (op2 geD (callB absD (aCons (ref 2) aNil)) (op2 powD (con (.int 10)) (con (.int 18)))) aNil)))) (aCons (fz (op2 addD (op2 addD (op2 modD (callB intD (aCons (ref 2) aNil)) (con (.int 2305843009213693951))) (op2 mulD (con (.int 39373)) (ref 1))) (con (.int 2556)))) (aCons (con (.int 0)) aNil)))))
def b__law_box : M Fl := (sq b__law_box_1 b__law_box_2)
def f__law_box : FnS := fDef 1 b__law_box
/-- _law_cells(_law_script, _law_most); slots _law_script _law_most _law_cells_here _law_k _law_great_so _law_at_so -/
def b__law_cells_1 : M Fl := (setS 2 (vl (eOrT (callB listD (aCons (slc (ref 0) none (some (ref 1))) aNil)) (lstE (aCons (con (.int 0)) aNil)))))
def b__law_cells_2a_1 : M Fl := (setS 5 (op2 modD (callB intD (aCons (ref 3) aNil)) (ref 1)))
def b__law_cells_2a_2 : M Fl := (asgS (setX 2 (ref 5)) (fz (op2 addD (op2 ixD (ref 2) (ref 5)) (op2 mulD (ref 4) (op2 addD (ref 3) (con (.int 2)))))))
def b__law_cells_2 : M Fl := (forS (enumE (slc (ref 0) (some (ref 1)) (some (con (.int 63))))) (setTup 2 (setCons (setN 3) (setCons (setN 4) setNil))) (sq b__law_cells_2a_1 b__law_cells_2a_2))
def b__law_cells : M Fl := (sq b__law_cells_1 (sq b__law_cells_2 (retS (mv (ref 2)))))
def f__law_cells : FnS := fDef 4 b__law_cells
/-- is_number(thing); slots thing -/
def b_is_number_1 : M Fl := (retS (mv (eAnd (op1 (isi1 "int") (ref 0)) (op1 notD (op1 (isi1 "bool") (ref 0))))))
def b_is_number : M Fl := b_is_number_1
def f_is_number : FnS := fDef 0 b_is_number
/-- is_name(thing); slots thing sign -/
def c_is_name_1 : M RV := (lcE [1] (itE (ref 0)) (setN 1) yes (op2 (inD false) (ref 1) (con (.str "abcdefghijklmnopqrstuvwxyz"))))
def b_is_name_1 : M Fl := (retS (mv (eAnd (op1 (isi1 "str") (ref 0)) (eAnd (chE leD leD (con (.int 1)) (callB lenD (aCons (ref 0) aNil)) (con (.int 8))) (callB allD (aCons c_is_name_1 aNil))))))
def b_is_name : M Fl := b_is_name_1
def f_is_name : FnS := fDef 1 b_is_name
/-- is_part(shape, thing); slots shape thing -/
def b_is_part_1a_1 : M Fl := (retS (callF f_is_name (lenA 1 (aCons (ref 1) aNil))))
def b_is_part_1 : M Fl := (ifS (tst (op2 eqD (ref 0) (con (.str "name")))) b_is_part_1a_1 nop)
def b_is_part_2a_1 : M Fl := (retS (mv (eAnd (op1 (isi1 "str") (ref 1)) (op2 (inD false) (ref 1) (con (.kt ((["free", "falling", "rising", "ringed"] : List Str).map D.str)))))))
def b_is_part_2 : M Fl := (ifS (tst (op2 eqD (ref 0) (con (.str "kind")))) b_is_part_2a_1 nop)
def b_is_part_3 : M Fl := (retS (mv (eAnd (callF f_is_number (lenA 1 (aCons (ref 1) aNil))) (eOr (op2 eqD (ref 0) (con (.str "number"))) (op2 geD (ref 1) (con (.int 0)))))))
def b_is_part : M Fl := (sq b_is_part_1 (sq b_is_part_2 b_is_part_3))
def f_is_part : FnS := fDef 0 b_is_part
/-- is_mark(thing); slots thing shapes shape part -/
def b_is_mark_1 : M Fl := (ifS (bOr (bNot (tst (op1 (isi1 "tuple") (ref 0)))) (bOr (tst (op2 eqD (callB lenD (aCons (ref 0) aNil)) (con (.int 0)))) (bOr (bNot (tst (op1 (isi1 "str") (op2 ixD (ref 0) (con (.int 0)))))) (tst (op1 (inKd true t_SHAPES) (op2 ixD (ref 0) (con (.int 0)))))))) (retS (con (.bl false))) nop)
def b_is_mark_2 : M Fl := (setS 1 (op1 (ixKd t_SHAPES) (op2 ixD (ref 0) (con (.int 0)))))
def c_is_mark_1 : M RV := (lcE [2, 3] (zipE (fz (ref 1)) (fz (slc (ref 0) (some (con (.int 1))) none))) (setTup 2 (setCons (setN 2) (setCons (setN 3) setNil))) yes (fz (callF f_is_part (lenA 2 (aCons (ref 2) (aCons (ref 3) aNil))))))
def b_is_mark_3 : M Fl := (retS (mv (eAnd (op2 eqD (callB lenD (aCons (ref 0) aNil)) (op2 addD (callB lenD (aCons (ref 1) aNil)) (con (.int 1)))) (callB allD (aCons c_is_mark_1 aNil)))))
def b_is_mark : M Fl := (sq b_is_mark_1 (sq b_is_mark_2 b_is_mark_3))
def f_is_mark : FnS := fDef 3 b_is_mark
/-- _law_same(_law_got, _law_due); slots _law_got _law_due _law_own _law_mine _law_its -/
def b__law_same_1a_1 (self : FnS) : M Fl := (ifS (bOr (tst (op2 neD (op1 (isi1 "list") (ref 0)) (op1 (isi1 "list") (ref 1)))) (tst (op2 neD (op1 (isi1 "tuple") (ref 0)) (op1 (isi1 "tuple") (ref 1))))) (retS (con (.bl false))) nop)
def c__law_same_1 (self : FnS) : M RV := (lcE [3, 4] (zipE (fz (ref 0)) (fz (ref 1))) (setTup 2 (setCons (setN 3) (setCons (setN 4) setNil))) yes (fz (callF self (lenA 2 (aCons (ref 3) (aCons (ref 4) aNil))))))
def b__law_same_1a_2 (self : FnS) : M Fl := (retS (mv (eAnd (op2 eqD (callB lenD (aCons (ref 0) aNil)) (callB lenD (aCons (ref 1) aNil))) (callB allD (aCons (c__law_same_1 self) aNil)))))
def b__law_same_1 (self : FnS) : M Fl := (ifS (tst (op1 (isiN ["list", "tuple"]) (ref 1))) (sq (b__law_same_1a_1 self) (b__law_same_1a_2 self)) nop)
def b__law_same_2a_1 (self : FnS) : M Fl := (ifS (bOr (bNot (tst (op1 (isi1 "dict") (ref 0)))) (tst (op2 neD (callB sortedD (aCons (ref 0) aNil)) (callB sortedD (aCons (ref 1) aNil))))) (retS (con (.bl false))) nop)
def c__law_same_2 (self : FnS) : M RV := (lcE [2] (itE (ref 1)) (setN 2) yes (fz (callF self (lenA 2 (aCons (op2 ixD (ref 0) (ref 2)) (aCons (op2 ixD (ref 1) (ref 2)) aNil))))))
def b__law_same_2a_2 (self : FnS) : M Fl := (retS (callB allD (aCons (c__law_same_2 self) aNil)))
def b__law_same_2 (self : FnS) : M Fl := (ifS (tst (op1 (isi1 "dict") (ref 1))) (sq (b__law_same_2a_1 self) (b__law_same_2a_2 self)) nop)
def b__law_same_3a_1 (self : FnS) : M Fl := (retS (mv (eAnd (op2 eqD (ref 0) (ref 1)) (eAnd (op2 eqD (op1 (isi1 "bool") (ref 0)) (op1 (isi1 "bool") (ref 1))) (op2 eqD (op2 (isND false) (ref 0) (con .non)) (op2 (isND false) (ref 1) (con .non)))))))
def b__law_same_3 (self : FnS) : M Fl := (ifS (bOr (tst (op2 (isND false) (ref 1) (con .non))) (tst (op1 (isiN ["bool", "str"]) (ref 1)))) (b__law_same_3a_1 self) nop)
def b__law_same_4 (self : FnS) : M Fl := (retS (mv (eAnd (op1 (isi1 "int") (ref 0)) (eAnd (op1 notD (op1 (isi1 "bool") (ref 0))) (op2 eqD (ref 0) (ref 1))))))
def b__law_same (self : FnS) : M Fl := (sq (b__law_same_1 self) (sq (b__law_same_2 self) (sq (b__law_same_3 self) (b__law_same_4 self))))
def f__law_same : Nat → FnS
  | 0 => fun _ => .bad
  | n + 1 => fDef 3 (b__law_same (f__law_same n))
/-- _law_by_hand_right(); slots _law_fine _law_odd _law_got _law_own -/
def b__law_by_hand_right_1 : M Fl := (setS 0 (lstE (aCons (tupE (aCons (con (.str "sound")) aNil)) (aCons (tupE (aCons (con (.str "falling")) aNil)) (aCons (tupE (aCons (con (.str "kind")) (aCons (con (.str "a")) (aCons (con (.str "free")) aNil)))) (aCons (tupE (aCons (con (.str "kind")) (aCons (con (.str "abcdefgh")) (aCons (con (.str "ringed")) aNil)))) (aCons (tupE (aCons (con (.str "late")) (aCons (con (.str "a")) (aCons (con (.int 0)) aNil)))) aNil)))))))
def b__law_by_hand_right_2 : M Fl := (setS 0 (op2 addD (ref 0) (lstE (aCons (tupE (aCons (con (.str "leans")) (aCons (con (.str "a")) (aCons (con (.str "b")) (aCons (op1 negD (op2 powD (con (.int 10)) (con (.int 40)))) aNil))))) (aCons (tupE (aCons (con (.str "leans")) (aCons (con (.str "a")) (aCons (con (.str "a")) (aCons (con (.int 0)) aNil))))) (aCons (tupE (aCons (con (.str "apart")) (aCons (con (.str "a")) (aCons (con (.str "a")) aNil)))) (aCons (tupE (aCons (con (.str "window")) (aCons (con (.int 0)) aNil))) aNil)))))))
def b__law_by_hand_right_3 : M Fl := (setS 0 (op2 addD (ref 0) (lstE (aCons (tupE (aCons (con (.str "window")) (aCons (fz (op2 powD (con (.int 10)) (con (.int 40)))) aNil))) (aCons (tupE (aCons (con (.str "passes")) (aCons (con (.int 0)) aNil))) (aCons (tupE (aCons (con (.str "passes")) (aCons (fz (op2 powD (con (.int 10)) (con (.int 40)))) aNil))) (aCons (tupE (aCons (con (.str "late")) (aCons (con (.str "zz")) (aCons (fz (op2 powD (con (.int 10)) (con (.int 40)))) aNil)))) aNil)))))))
def b__law_by_hand_right_4 : M Fl := (setS 1 (lstE (aCons (tupE aNil) (aCons (con .non) (aCons (con (.bl true)) (aCons (con (.int 0)) (aCons (con (.str "sound")) (aCons (fz (lstE (aCons (con (.str "sound")) aNil))) (aCons (tupE (aCons (con (.str "Sound")) aNil)) (aCons (tupE (aCons (con (.str "sound")) (aCons (con (.int 0)) aNil))) (aCons (tupE (aCons (con (.str "sound")) (aCons (tupE aNil) aNil))) (aCons (tupE (aCons (con (.str "falling")) (aCons (con (.str "a")) aNil))) (aCons (tupE (aCons (tupE (aCons (con (.str "sound")) aNil)) aNil)) aNil)))))))))))))
def b__law_by_hand_right_5 : M Fl := (setS 1 (op2 addD (ref 1) (lstE (aCons (tupE (aCons (con (.str "kind")) (aCons (con (.str "a")) aNil))) (aCons (tupE (aCons (con (.str "kind")) (aCons (con (.str "a")) (aCons (con (.str "up")) aNil)))) (aCons (tupE (aCons (con (.str "kind")) (aCons (con (.str "a")) (aCons (con .non) aNil)))) (aCons (tupE (aCons (con (.str "kind")) (aCons (con (.str "A")) (aCons (con (.str "free")) aNil)))) (aCons (tupE (aCons (con (.str "kind")) (aCons (con (.str "")) (aCons (con (.str "free")) aNil)))) aNil))))))))
def b__law_by_hand_right_6 : M Fl := (setS 1 (op2 addD (ref 1) (lstE (aCons (tupE (aCons (con (.str "kind")) (aCons (con (.str "a")) (aCons (fz (lstE (aCons (con (.str "free")) aNil))) aNil)))) (aCons (tupE (aCons (con (.str "kind")) (aCons (con (.str "a")) (aCons (tupE (aCons (con (.str "free")) aNil)) aNil)))) (aCons (tupE (aCons (con (.str "kind")) (aCons (con (.str "toolonger")) (aCons (con (.str "free")) aNil)))) (aCons (tupE (aCons (con (.str "kind")) (aCons (con (.str "a")) (aCons (con (.str "free")) (aCons (con (.int 0)) aNil))))) aNil)))))))
def b__law_by_hand_right_7 : M Fl := (setS 1 (op2 addD (ref 1) (lstE (aCons (tupE (aCons (con (.str "late")) (aCons (con (.str "a")) (aCons (op1 negD (con (.int 1))) aNil)))) (aCons (tupE (aCons (con (.str "late")) (aCons (con (.str "a")) (aCons (con (.bl true)) aNil)))) (aCons (tupE (aCons (con (.str "late")) (aCons (con (.str "a")) (aCons (con .non) aNil)))) (aCons (tupE (aCons (con (.str "late")) (aCons (con (.int 0)) (aCons (con (.str "a")) aNil)))) (aCons (tupE (aCons (con (.str "late")) (aCons (con (.str "a")) aNil))) (aCons (tupE (aCons (con (.str "late")) (aCons (con (.str "a")) (aCons (con (.str "0")) aNil)))) aNil)))))))))
def b__law_by_hand_right_8 : M Fl := (setS 1 (op2 addD (ref 1) (lstE (aCons (tupE (aCons (con (.str "leans")) (aCons (con (.str "a")) (aCons (con (.int 0)) aNil)))) (aCons (tupE (aCons (con (.str "leans")) (aCons (con (.str "a")) (aCons (con (.str "b")) (aCons (con (.bl false)) aNil))))) (aCons (tupE (aCons (con (.str "leans")) (aCons (con (.str "a")) (aCons (con (.str "b")) (aCons (con (.str "0")) aNil))))) (aCons (tupE (aCons (con (.str "leans")) (aCons (con (.str "a")) (aCons (fz (lstE (aCons (con (.str "b")) aNil))) (aCons (con (.int 0)) aNil))))) aNil)))))))
def b__law_by_hand_right_9 : M Fl := (setS 1 (op2 addD (ref 1) (lstE (aCons (tupE (aCons (con (.str "apart")) (aCons (con (.str "a")) aNil))) (aCons (tupE (aCons (con (.str "apart")) (aCons (con (.str "a")) (aCons (con (.int 0)) aNil)))) (aCons (tupE (aCons (con (.str "apart")) (aCons (con (.str "a")) (aCons (con (.str "a")) (aCons (con (.str "a")) aNil))))) (aCons (tupE (aCons (con (.str "apart")) (aCons (con (.str "a")) (aCons (con (.str "b c")) aNil)))) (aCons (tupE (aCons (con (.str "window")) aNil)) aNil))))))))
def b__law_by_hand_right_10 : M Fl := (setS 1 (op2 addD (ref 1) (lstE (aCons (tupE (aCons (con (.str "window")) (aCons (op1 negD (con (.int 1))) aNil))) (aCons (tupE (aCons (con (.str "window")) (aCons (con (.bl true)) aNil))) (aCons (tupE (aCons (con (.str "window")) (aCons (con (.int 1)) (aCons (con (.int 1)) aNil)))) (aCons (tupE (aCons (con (.str "window")) (aCons (tupE (aCons (con (.int 1)) aNil)) aNil))) (aCons (tupE (aCons (con (.str "passes")) (aCons (op1 negD (con (.int 1))) aNil))) (aCons (tupE (aCons (con (.str "passes")) (aCons (con (.str "1")) aNil))) aNil)))))))))
def b__law_by_hand_right_11 : M Fl := (setS 1 (op2 addD (ref 1) (lstE (aCons (tupE (aCons (con (.int 0)) (aCons (con (.int 1)) aNil))) (aCons (tupE (aCons (con .non) aNil)) (aCons (tupE (aCons (fz (lstE aNil)) aNil)) (aCons (tupE (aCons (con (.str "rings")) (aCons (con (.int 1)) aNil))) (aCons (tupE (aCons (con (.str "")) (aCons (con (.int 1)) aNil))) (aCons (tupE (aCons (con (.str "leans")) aNil)) (aCons (fz (lstE (aCons (tupE (aCons (con (.str "sound")) aNil)) aNil))) (aCons (tupE (aCons (con (.str "name")) (aCons (con (.str "a")) aNil))) aNil)))))))))))
def c__law_by_hand_right_1 : M RV := (lcE [3] (itE (op2 addD (ref 0) (ref 1))) (setN 3) yes (fz (callF f_is_mark (lenA 1 (aCons (ref 3) aNil)))))
def b__law_by_hand_right_12 : M Fl := (setS 2 (op2 addD c__law_by_hand_right_1 (lstE (aCons (fz (callK f_is_mark 0 1 [0] aNil (aCons (tupE (aCons (con (.str "window")) (aCons (con (.int 5)) aNil))) aNil))) (aCons (fz (callK f_is_mark 0 1 [0] aNil (aCons (fz (lstE (aCons (con (.str "window")) (aCons (con (.int 5)) aNil)))) aNil))) aNil)))))
def c__law_by_hand_right_2 : M RV := (lcE [3] (itE (op2 addD (slc (ref 0) none (some (con (.int 3)))) (slc (ref 1) (some (op1 negD (con (.int 3)))) none))) (setN 3) yes (fz (callF f_is_mark (lenA 1 (aCons (ref 3) aNil)))))
def b__law_by_hand_right_13 : M Fl := (setS 2 (op2 addD (ref 2) c__law_by_hand_right_2))
def b__law_by_hand_right_14 : M Fl := (retS (callF (f__law_same 12) (lenA 2 (aCons (ref 2) (aCons (fz (op2 addD (op2 addD (op2 addD (op2 addD (op2 mulD (lstE (aCons (con (.bl true)) aNil)) (callB lenD (aCons (ref 0) aNil))) (op2 mulD (lstE (aCons (con (.bl false)) aNil)) (callB lenD (aCons (ref 1) aNil)))) (lstE (aCons (con (.bl true)) (aCons (con (.bl false)) aNil)))) (op2 mulD (lstE (aCons (con (.bl true)) aNil)) (con (.int 3)))) (op2 mulD (lstE (aCons (con (.bl false)) aNil)) (con (.int 3))))) aNil)))))
def b__law_by_hand_right : M Fl := (sq b__law_by_hand_right_1 (sq b__law_by_hand_right_2 (sq b__law_by_hand_right_3 (sq b__law_by_hand_right_4 (sq b__law_by_hand_right_5 (sq b__law_by_hand_right_6 (sq b__law_by_hand_right_7 (sq b__law_by_hand_right_8 (sq b__law_by_hand_right_9 (sq b__law_by_hand_right_10 (sq b__law_by_hand_right_11 (sq b__law_by_hand_right_12 (sq b__law_by_hand_right_13 b__law_by_hand_right_14)))))))))))))
def f__law_by_hand_right : FnS := fDef 4 b__law_by_hand_right
/-- _law_take(_law_box_here, _law_top_so); slots _law_box_here _law_top_so _law_once _law_far _law_twice _law_digit_so -/
def b__law_take_1a_1 : M Fl := (setS 5 (op2 modD (callB intD (aCons (op2 ixD (ref 0) (con (.int 0))) aNil)) (ref 1)))
def b__law_take_1a_2 : M Fl := (asgS (setX 0 (con (.int 0))) (fz (op2 fdivD (op2 ixD (ref 0) (con (.int 0))) (ref 1))))
def b__law_take_1 : M Fl := (ifS (tst (op2 gtD (op2 ixD (ref 0) (con (.int 0))) (con (.int 0)))) (sq b__law_take_1a_1 (sq b__law_take_1a_2 (retS (mv (ref 5))))) nop)
def b__law_take_2 : M Fl := (asgS (setX 0 (con (.int 2))) (fz (op2 addD (op2 ixD (ref 0) (con (.int 2))) (con (.int 1)))))
def b__law_take_3 : M Fl := (setS 2 (op2 modD (callB intD (aCons (op2 mulD (op2 addD (op2 ixD (ref 0) (con (.int 1))) (op2 mulD (con (.int 48271)) (op2 ixD (ref 0) (con (.int 2))))) (op2 addD (con (.int 39373)) (op2 ixD (ref 0) (con (.int 2))))) aNil)) (con (.int 2147483647))))
def b__law_take_4 : M Fl := (setS 3 (op2 addD (op2 modD (callB intD (aCons (ref 2) aNil)) (con (.int 40009))) (con (.int 7))))
def b__law_take_5 : M Fl := (setS 4 (op2 modD (callB intD (aCons (op2 mulD (op2 addD (op2 addD (ref 2) (op2 ixD (ref 0) (con (.int 2)))) (op2 fdivD (op2 ixD (ref 0) (con (.int 1))) (con (.int 1000003)))) (ref 3)) aNil)) (con (.int 2147483629))))
def b__law_take_6 : M Fl := (retS (op2 modD (callB intD (aCons (op2 fdivD (op2 modD (callB intD (aCons (op2 addD (op2 mulD (ref 4) (con (.int 48271))) (ref 2)) aNil)) (con (.int 2147483587))) (con (.int 64))) aNil)) (ref 1)))
def b__law_take : M Fl := (sq b__law_take_1 (sq b__law_take_2 (sq b__law_take_3 (sq b__law_take_4 (sq b__law_take_5 b__law_take_6)))))
def f__law_take : FnS := fDef 4 b__law_take
/-- _law_of(_law_box_here, _law_some); slots _law_box_here _law_some -/
def b__law_of_1 : M Fl := (retS (op2 ixD (ref 1) (callF f__law_take (lenA 2 (aCons (ref 0) (aCons (fz (callB lenD (aCons (ref 1) aNil))) aNil))))))
def b__law_of : M Fl := b__law_of_1
def f__law_of : FnS := fDef 0 b__law_of
/-- _law_note(_law_box_here, _law_tags_here, _law_words_so); slots _law_box_here _law_tags_here _law_words_so _law_word _law_tag _law_far -/
def b__law_note_1 : M Fl := (setS 3 (callF f__law_of (lenA 2 (aCons (ref 0) (aCons (ref 2) aNil)))))
def b__law_note_2 : M Fl := (parS 4 5 (aCons (callF f__law_of (lenA 2 (aCons (ref 0) (aCons (ref 1) aNil)))) (aCons (callF f__law_of (lenA 2 (aCons (ref 0) (aCons (ref 1) aNil)))) aNil)))
def b__law_note_3a_1 : M Fl := (retS (tupE (aCons (fz (ref 3)) aNil)))
def b__law_note_3 : M Fl := (ifS (tst (op2 (inD false) (ref 3) (tupE (aCons (con (.str "sound")) (aCons (con (.str "falling")) aNil))))) b__law_note_3a_1 nop)
def b__law_note_4a_1 : M Fl := (retS (tupE (aCons (fz (ref 3)) (aCons (fz (ref 4)) (aCons (fz (callF f__law_of (lenA 2 (aCons (ref 0) (aCons (fz (lstE (aCons (con (.str "free")) (aCons (con (.str "falling")) (aCons (con (.str "rising")) (aCons (con (.str "ringed")) aNil)))))) aNil))))) aNil)))))
def b__law_note_4 : M Fl := (ifS (tst (op2 eqD (ref 3) (con (.str "kind")))) b__law_note_4a_1 nop)
def b__law_note_5a_1 : M Fl := (retS (tupE (aCons (fz (ref 3)) (aCons (fz (ref 4)) (aCons (fz (callF f__law_take (lenA 2 (aCons (ref 0) (aCons (con (.int 4)) aNil))))) aNil)))))
def b__law_note_5 : M Fl := (ifS (tst (op2 eqD (ref 3) (con (.str "late")))) b__law_note_5a_1 nop)
def b__law_note_6a_1 : M Fl := (retS (tupE (aCons (fz (ref 3)) (aCons (fz (ref 4)) (aCons (fz (ref 5)) (aCons (fz (op2 subD (callF f__law_take (lenA 2 (aCons (ref 0) (aCons (con (.int 9)) aNil)))) (con (.int 4)))) aNil))))))
def b__law_note_6 : M Fl := (ifS (tst (op2 eqD (ref 3) (con (.str "leans")))) b__law_note_6a_1 nop)
def b__law_note_7a_1 : M Fl := (retS (tupE (aCons (fz (ref 3)) (aCons (fz (ref 4)) (aCons (fz (ref 5)) aNil)))))
def b__law_note_7 : M Fl := (ifS (tst (op2 eqD (ref 3) (con (.str "apart")))) b__law_note_7a_1 nop)
def b__law_note_8 : M Fl := (retS (tupE (aCons (fz (ref 3)) (aCons (fz (callF f__law_take (lenA 2 (aCons (ref 0) (aCons (eIf (tst (op2 eqD (ref 3) (con (.str "window")))) (con (.int 7)) (con (.int 4))) aNil))))) aNil))))
def b__law_note : M Fl := (sq b__law_note_1 (sq b__law_note_2 (sq b__law_note_3 (sq b__law_note_4 (sq b__law_note_5 (sq b__law_note_6 (sq b__law_note_7 b__law_note_8)))))))
def f__law_note : FnS := fDef 3 b__law_note
/-- _law_is_name(_law_matter); slots _law_matter _law_letters_so _law_sign -/
def b__law_is_name_1 : M Fl := (setS 1 (con (.str "abcdefghijklmnopqrstuvwxyz")))
def c__law_is_name_1 : M RV := (lcE [2] (itE (ref 0)) (setN 2) (tst (op2 (inD true) (ref 2) (ref 1))) (fz (ref 2)))
def b__law_is_name_2 : M Fl := (retS (mv (eAnd (op1 (isi1 "str") (ref 0)) (eAnd (chE leD leD (con (.int 1)) (callB lenD (aCons (ref 0) aNil)) (con (.int 8))) (op2 eqD c__law_is_name_1 (lstE aNil))))))
def b__law_is_name : M Fl := (sq b__law_is_name_1 b__law_is_name_2)
def f__law_is_name : FnS := fDef 2 b__law_is_name
/-- _law_is_count(_law_matter, _law_low); slots _law_matter _law_low -/
def b__law_is_count_1 : M Fl := (retS (mv (eAnd (op1 (isi1 "int") (ref 0)) (eAnd (op1 notD (op1 (isi1 "bool") (ref 0))) (eOr (op2 (isND false) (ref 1) (con .non)) (op2 geD (ref 0) (ref 1)))))))
def b__law_is_count : M Fl := b__law_is_count_1
def f__law_is_count : FnS := fDef 0 b__law_is_count
/-- _law_fits(_law_matter); slots _law_matter _law_word _law_bits _law_sorts_so -/
def b__law_fits_1 : M Fl := (ifS (bOr (bNot (tst (op1 (isi1 "tuple") (ref 0)))) (bOr (tst (op2 eqD (ref 0) (tupE aNil))) (bNot (tst (op1 (isi1 "str") (op2 ixD (ref 0) (con (.int 0)))))))) (retS (con (.bl false))) nop)
def b__law_fits_2 : M Fl := (parS 1 2 (aCons (op2 ixD (ref 0) (con (.int 0))) (aCons (slc (ref 0) (some (con (.int 1))) none) aNil)))
def b__law_fits_3a_1 : M Fl := (retS (op2 eqD (ref 2) (tupE aNil)))
def b__law_fits_3 : M Fl := (ifS (tst (op2 (inD false) (ref 1) (tupE (aCons (con (.str "sound")) (aCons (con (.str "falling")) aNil))))) b__law_fits_3a_1 nop)
def b__law_fits_4a_1 : M Fl := (retS (mv (eAnd (op2 eqD (callB lenD (aCons (ref 2) aNil)) (con (.int 1))) (callF f__law_is_count (lenA 2 (aCons (op2 ixD (ref 2) (con (.int 0))) (aCons (con (.int 0)) aNil)))))))
def b__law_fits_4 : M Fl := (ifS (tst (op2 (inD false) (ref 1) (tupE (aCons (con (.str "window")) (aCons (con (.str "passes")) aNil))))) b__law_fits_4a_1 nop)
def b__law_fits_5a_1 : M Fl := (ifS (bOr (tst (op2 neD (callB lenD (aCons (ref 2) aNil)) (con (.int 2)))) (bNot (tst (callF f__law_is_name (lenA 1 (aCons (op2 ixD (ref 2) (con (.int 0))) aNil)))))) (retS (con (.bl false))) nop)
def b__law_fits_5a_2a_1 : M Fl := (retS (callF f__law_is_count (lenA 2 (aCons (op2 ixD (ref 2) (con (.int 1))) (aCons (con (.int 0)) aNil)))))
def b__law_fits_5a_2 : M Fl := (ifS (tst (op2 eqD (ref 1) (con (.str "late")))) b__law_fits_5a_2a_1 nop)
def b__law_fits_5a_3 : M Fl := (setS 3 (tupE (aCons (con (.str "free")) (aCons (con (.str "falling")) (aCons (con (.str "rising")) (aCons (con (.str "ringed")) aNil))))))
def b__law_fits_5a_4 : M Fl := (retS (mv (eIf (tst (op2 eqD (ref 1) (con (.str "apart")))) (callF f__law_is_name (lenA 1 (aCons (op2 ixD (ref 2) (con (.int 1))) aNil))) (eAnd (op1 (isi1 "str") (op2 ixD (ref 2) (con (.int 1)))) (op2 (inD false) (op2 ixD (ref 2) (con (.int 1))) (ref 3))))))
def b__law_fits_5 : M Fl := (ifS (tst (op2 (inD false) (ref 1) (tupE (aCons (con (.str "kind")) (aCons (con (.str "late")) (aCons (con (.str "apart")) aNil)))))) (sq b__law_fits_5a_1 (sq b__law_fits_5a_2 (sq b__law_fits_5a_3 b__law_fits_5a_4))) nop)
def b__law_fits_6 : M Fl := (ifS (bOr (tst (op2 neD (ref 1) (con (.str "leans")))) (bOr (tst (op2 neD (callB lenD (aCons (ref 2) aNil)) (con (.int 3)))) (bOr (bNot (tst (callF f__law_is_name (lenA 1 (aCons (op2 ixD (ref 2) (con (.int 0))) aNil))))) (bNot (tst (callF f__law_is_name (lenA 1 (aCons (op2 ixD (ref 2) (con (.int 1))) aNil)))))))) (retS (con (.bl false))) nop)
def b__law_fits_7 : M Fl := (retS (callF f__law_is_count (lenA 2 (aCons (op2 ixD (ref 2) (con (.int 2))) (aCons (con .non) aNil)))))
def b__law_fits : M Fl := (sq b__law_fits_1 (sq b__law_fits_2 (sq b__law_fits_3 (sq b__law_fits_4 (sq b__law_fits_5 (sq b__law_fits_6 b__law_fits_7))))))
def f__law_fits : FnS := fDef 3 b__law_fits
/-- _law_right(_law_box_here); slots _law_box_here _law_words_so _law_odd _law_turn _law_note_here _law_some _law_due _law_k _law_own _law_bit -/
def b__law_right_1 : M Fl := (setS 1 (lstE (aCons (con (.str "sound")) (aCons (con (.str "falling")) (aCons (con (.str "kind")) (aCons (con (.str "late")) (aCons (con (.str "leans")) (aCons (con (.str "apart")) (aCons (con (.str "window")) (aCons (con (.str "passes")) aNil))))))))))
def b__law_right_2 : M Fl := (setS 2 (lstE (aCons (con .non) (aCons (con (.bl true)) (aCons (con (.str "")) (aCons (con (.str "a")) (aCons (con (.str "free")) (aCons (op1 negD (con (.int 1))) (aCons (con (.int 0)) (aCons (con (.int 3)) (aCons (tupE aNil) (aCons (tupE (aCons (con (.str "a")) aNil)) (aCons (fz (lstE (aCons (con (.str "a")) aNil))) (aCons (con (.str "Ab")) (aCons (con (.str "toolonger")) (aCons (fz (op2 powD (con (.int 10)) (con (.int 40)))) (aCons (con (.str "sound")) (aCons (con (.str "window")) aNil))))))))))))))))))
def b__law_right_3a_1 : M Fl := (setS 4 (callF f__law_note (lenA 3 (aCons (ref 0) (aCons (fz (lstE (aCons (con (.str "a")) (aCons (con (.str "b")) (aCons (con (.str "abcdefgh")) aNil))))) (aCons (ref 1) aNil))))))
def b__law_right_3a_2 : M Fl := (parS 7 8 (aCons (callF f__law_take (lenA 2 (aCons (ref 0) (aCons (fz (callB lenD (aCons (ref 4) aNil))) aNil)))) (aCons (callF f__law_of (lenA 2 (aCons (ref 0) (aCons (ref 2) aNil)))) aNil)))
def b__law_right_3a_3 : M Fl := (setS 5 (lstE (aCons (fz (ref 4)) (aCons (fz (op2 addD (op2 addD (slc (ref 4) none (some (ref 7))) (tupE (aCons (fz (ref 8)) aNil))) (slc (ref 4) (some (op2 addD (ref 7) (con (.int 1)))) none))) (aCons (fz (op2 addD (ref 4) (tupE (aCons (fz (ref 8)) aNil)))) (aCons (fz (op2 addD (slc (ref 4) none (some (ref 7))) (slc (ref 4) (some (op2 addD (ref 7) (con (.int 1)))) none))) (aCons (fz (callB listD (aCons (ref 4) aNil))) (aCons (op1 revTD (ref 4)) aNil))))))))
def c__law_right_1 : M RV := (lcE [9] (itE (ref 5)) (setN 9) yes (fz (callF f__law_fits (lenA 1 (aCons (ref 9) aNil)))))
def c__law_right_2 : M RV := (lcE [9] (itE (ref 5)) (setN 9) yes (fz (callF f_is_mark (lenA 1 (aCons (ref 9) aNil)))))
def b__law_right_3a_5 : M Fl := (ifS (bOr (bNot (tst (op2 ixD (ref 6) (con (.int 0))))) (bNot (tst (callF (f__law_same 12) (lenA 2 (aCons (fz c__law_right_2) (aCons (ref 6) aNil))))))) (retS (con (.bl false))) nop)
def b__law_right_3 : M Fl := (forS (rng1 (con (.int 40))) (setN 3) (sq b__law_right_3a_1 (sq b__law_right_3a_2 (sq b__law_right_3a_3 (sq (setS 6 c__law_right_1) b__law_right_3a_5)))))
def b__law_right : M Fl := (sq b__law_right_1 (sq b__law_right_2 (sq b__law_right_3 (retS (con (.bl true))))))
def f__law_right : FnS := fDef 9 b__law_right
/-- law(_law_script); slots _law_script _law_cells_here _law_k -/
def b_law_1 : M Fl := (setS 1 (callF f__law_cells (lenA 2 (aCons (ref 0) (aCons (con (.int 3)) aNil)))))
def c_law_1 : M RV := (lcE [2] (rng1 (callB lenD (aCons (ref 1) aNil))) (setN 2) yes (fz (callF f__law_right (lenA 1 (aCons (callF f__law_box (lenA 2 (aCons (ref 1) (aCons (ref 2) aNil)))) aNil)))))
def b_law_2 : M Fl := (retS (mv (eAnd (callR f__law_by_hand_right []) (callB allD (aCons c_law_1 aNil)))))
def b_law : M Fl := (sq b_law_1 b_law_2)
def f_law : FnS := fDef 2 b_law
/-! ### where they stand -/
def top (i : Nat) : Stmt := PySem.Challenge.pw_filldowns_k75_what_marks_are.main.body.getD i (.Pass ⟨0, 0, 0, 0⟩)
abbrev s__law_box : Stmt := top 19
abbrev s__law_cells : Stmt := top 21
abbrev s_is_number : Stmt := top 3
abbrev s_is_name : Stmt := top 4
abbrev s_is_part : Stmt := top 16
abbrev s_is_mark : Stmt := top 17
abbrev s__law_same : Stmt := top 25
abbrev s__law_by_hand_right : Stmt := top 33
abbrev s__law_take : Stmt := top 20
abbrev s__law_of : Stmt := top 22
abbrev s__law_note : Stmt := top 29
abbrev s__law_is_name : Stmt := top 30
abbrev s__law_is_count : Stmt := top 31
abbrev s__law_fits : Stmt := top 32
abbrev s__law_right : Stmt := top 34
abbrev s_law : Stmt := top 35
abbrev FnP (K : PySem.W.Frag) (x : Str) (st : Stmt) (f : Addr) (fd : FuncData) : Prop := FunD K x x (defArgs st) (defBody st) (defScope st) [] [] f fd
structure Facts (w : World) (K : PySem.W.Frag) (mg : Str → Option Value) where
  a__law_box : Addr
  d__law_box : FuncData
  F__law_box : FnP K "_law_box" s__law_box a__law_box d__law_box
  g__law_box : mg "_law_box" = some (.ref a__law_box)
  a__law_cells : Addr
  d__law_cells : FuncData
  F__law_cells : FnP K "_law_cells" s__law_cells a__law_cells d__law_cells
  g__law_cells : mg "_law_cells" = some (.ref a__law_cells)
  a_is_number : Addr
  d_is_number : FuncData
  F_is_number : FnP K "is_number" s_is_number a_is_number d_is_number
  g_is_number : mg "is_number" = some (.ref a_is_number)
  a_is_name : Addr
  d_is_name : FuncData
  F_is_name : FnP K "is_name" s_is_name a_is_name d_is_name
  g_is_name : mg "is_name" = some (.ref a_is_name)
  a_is_part : Addr
  d_is_part : FuncData
  F_is_part : FnP K "is_part" s_is_part a_is_part d_is_part
  g_is_part : mg "is_part" = some (.ref a_is_part)
  a_is_mark : Addr
  d_is_mark : FuncData
  F_is_mark : FnP K "is_mark" s_is_mark a_is_mark d_is_mark
  g_is_mark : mg "is_mark" = some (.ref a_is_mark)
  a__law_same : Addr
  d__law_same : FuncData
  F__law_same : FnP K "_law_same" s__law_same a__law_same d__law_same
  g__law_same : mg "_law_same" = some (.ref a__law_same)
  a__law_by_hand_right : Addr
  d__law_by_hand_right : FuncData
  F__law_by_hand_right : FnP K "_law_by_hand_right" s__law_by_hand_right a__law_by_hand_right d__law_by_hand_right
  g__law_by_hand_right : mg "_law_by_hand_right" = some (.ref a__law_by_hand_right)
  a__law_take : Addr
  d__law_take : FuncData
  F__law_take : FnP K "_law_take" s__law_take a__law_take d__law_take
  g__law_take : mg "_law_take" = some (.ref a__law_take)
  a__law_of : Addr
  d__law_of : FuncData
  F__law_of : FnP K "_law_of" s__law_of a__law_of d__law_of
  g__law_of : mg "_law_of" = some (.ref a__law_of)
  a__law_note : Addr
  d__law_note : FuncData
  F__law_note : FnP K "_law_note" s__law_note a__law_note d__law_note
  g__law_note : mg "_law_note" = some (.ref a__law_note)
  a__law_is_name : Addr
  d__law_is_name : FuncData
  F__law_is_name : FnP K "_law_is_name" s__law_is_name a__law_is_name d__law_is_name
  g__law_is_name : mg "_law_is_name" = some (.ref a__law_is_name)
  a__law_is_count : Addr
  d__law_is_count : FuncData
  F__law_is_count : FnP K "_law_is_count" s__law_is_count a__law_is_count d__law_is_count
  g__law_is_count : mg "_law_is_count" = some (.ref a__law_is_count)
  a__law_fits : Addr
  d__law_fits : FuncData
  F__law_fits : FnP K "_law_fits" s__law_fits a__law_fits d__law_fits
  g__law_fits : mg "_law_fits" = some (.ref a__law_fits)
  a__law_right : Addr
  d__law_right : FuncData
  F__law_right : FnP K "_law_right" s__law_right a__law_right d__law_right
  g__law_right : mg "_law_right" = some (.ref a__law_right)
  a_law : Addr
  d_law : FuncData
  F_law : FnP K "law" s_law a_law d_law
  g_law : mg "law" = some (.ref a_law)
  n_abs : mg "abs" = none
  n_all : mg "all" = none
  n_bool : mg "bool" = none
  n_dict : mg "dict" = none
  n_enumerate : mg "enumerate" = none
  n_int : mg "int" = none
  n_isinstance : mg "isinstance" = none
  n_len : mg "len" = none
  n_list : mg "list" = none
  n_range : mg "range" = none
  n_sorted : mg "sorted" = none
  n_str : mg "str" = none
  n_tuple : mg "tuple" = none
  n_zip : mg "zip" = none
  c_KIND : ∃ t, mg "KIND" = some (.str "kind" t)
  c_KINDS : mg "KINDS" = some (.ref (He.ga K "KINDS")) ∧ KTp K (He.ga K "KINDS") ((["free", "falling", "rising", "ringed"] : List Str).map V.str) ∧ ∀ s ∈ (["free", "falling", "rising", "ringed"] : List Str), PyData.strOk s = true
  c_LETTERS : ∃ t, mg "LETTERS" = some (.str "abcdefghijklmnopqrstuvwxyz" t)
  c_LONGEST : ∃ t, mg "LONGEST" = some (.int 8 t)
  c_NAME : ∃ t, mg "NAME" = some (.str "name" t)
  c_NUMBER : ∃ t, mg "NUMBER" = some (.str "number" t)
  c_SHAPES : mg "SHAPES" = some (.ref (He.ga K "SHAPES")) ∧ KTab w K (He.ga K "SHAPES") t_SHAPES
section
variable {P : Program} {w : World} {K : PySem.W.Frag} {mg : Str → Option Value} {base : Heap}
theorem sc__law_box : FnScope ["_law_script", "_law_k", "_law_great_so"] ["_law_script", "_law_k"] (defScope s__law_box) := ⟨rfl, rfl, rfl, by decide +kernel, rfl, by decide +kernel, by decide +kernel⟩
theorem bn__law_box (E : Facts w K mg) : Binds K E.d__law_box ["_law_script", "_law_k"] [] := E.F__law_box.bindsN fun _ _ _ _ _ _ us hl => match us, hl with | [_, _], _ => rfl
theorem sc__law_cells : FnScope ["_law_script", "_law_most", "_law_cells_here", "_law_k", "_law_great_so", "_law_at_so"] ["_law_script", "_law_most"] (defScope s__law_cells) := ⟨rfl, rfl, rfl, by decide +kernel, rfl, by decide +kernel, by decide +kernel⟩
theorem bn__law_cells (E : Facts w K mg) : Binds K E.d__law_cells ["_law_script", "_law_most"] [] := E.F__law_cells.bindsN fun _ _ _ _ _ _ us hl => match us, hl with | [_, _], _ => rfl
theorem sc_is_number : FnScope ["thing"] ["thing"] (defScope s_is_number) := ⟨rfl, rfl, rfl, by decide +kernel, rfl, by decide +kernel, by decide +kernel⟩
theorem bn_is_number (E : Facts w K mg) : Binds K E.d_is_number ["thing"] [] := E.F_is_number.bindsN fun _ _ _ _ _ _ us hl => match us, hl with | [_], _ => rfl
theorem sc_is_name : FnScope ["thing", "sign"] ["thing"] (defScope s_is_name) := ⟨rfl, rfl, rfl, by decide +kernel, rfl, by decide +kernel, by decide +kernel⟩
theorem bn_is_name (E : Facts w K mg) : Binds K E.d_is_name ["thing"] [] := E.F_is_name.bindsN fun _ _ _ _ _ _ us hl => match us, hl with | [_], _ => rfl
theorem sc_is_part : FnScope ["shape", "thing"] ["shape", "thing"] (defScope s_is_part) := ⟨rfl, rfl, rfl, by decide +kernel, rfl, by decide +kernel, by decide +kernel⟩
theorem bn_is_part (E : Facts w K mg) : Binds K E.d_is_part ["shape", "thing"] [] := E.F_is_part.bindsN fun _ _ _ _ _ _ us hl => match us, hl with | [_, _], _ => rfl
theorem sc_is_mark : FnScope ["thing", "shapes", "shape", "part"] ["thing"] (defScope s_is_mark) := ⟨rfl, rfl, rfl, by decide +kernel, rfl, by decide +kernel, by decide +kernel⟩
theorem bn_is_mark (E : Facts w K mg) : Binds K E.d_is_mark ["thing"] [] := E.F_is_mark.bindsN fun _ _ _ _ _ _ us hl => match us, hl with | [_], _ => rfl
theorem sc__law_same : FnScope ["_law_got", "_law_due", "_law_own", "_law_mine", "_law_its"] ["_law_got", "_law_due"] (defScope s__law_same) := ⟨rfl, rfl, rfl, by decide +kernel, rfl, by decide +kernel, by decide +kernel⟩
theorem bn__law_same (E : Facts w K mg) : Binds K E.d__law_same ["_law_got", "_law_due"] [] := E.F__law_same.bindsN fun _ _ _ _ _ _ us hl => match us, hl with | [_, _], _ => rfl
theorem sc__law_by_hand_right : FnScope ["_law_fine", "_law_odd", "_law_got", "_law_own"] [] (defScope s__law_by_hand_right) := ⟨rfl, rfl, rfl, by decide +kernel, rfl, by decide +kernel, by decide +kernel⟩
theorem bn__law_by_hand_right (E : Facts w K mg) : Binds K E.d__law_by_hand_right [] [] := E.F__law_by_hand_right.bindsN fun _ _ _ _ _ _ us hl => match us, hl with | [], _ => rfl
theorem sc__law_take : FnScope ["_law_box_here", "_law_top_so", "_law_once", "_law_far", "_law_twice", "_law_digit_so"] ["_law_box_here", "_law_top_so"] (defScope s__law_take) := ⟨rfl, rfl, rfl, by decide +kernel, rfl, by decide +kernel, by decide +kernel⟩
theorem bn__law_take (E : Facts w K mg) : Binds K E.d__law_take ["_law_box_here", "_law_top_so"] [] := E.F__law_take.bindsN fun _ _ _ _ _ _ us hl => match us, hl with | [_, _], _ => rfl
theorem sc__law_of : FnScope ["_law_box_here", "_law_some"] ["_law_box_here", "_law_some"] (defScope s__law_of) := ⟨rfl, rfl, rfl, by decide +kernel, rfl, by decide +kernel, by decide +kernel⟩
theorem bn__law_of (E : Facts w K mg) : Binds K E.d__law_of ["_law_box_here", "_law_some"] [] := E.F__law_of.bindsN fun _ _ _ _ _ _ us hl => match us, hl with | [_, _], _ => rfl
theorem sc__law_note : FnScope ["_law_box_here", "_law_tags_here", "_law_words_so", "_law_word", "_law_tag", "_law_far"] ["_law_box_here", "_law_tags_here", "_law_words_so"] (defScope s__law_note) := ⟨rfl, rfl, rfl, by decide +kernel, rfl, by decide +kernel, by decide +kernel⟩
theorem bn__law_note (E : Facts w K mg) : Binds K E.d__law_note ["_law_box_here", "_law_tags_here", "_law_words_so"] [] := E.F__law_note.bindsN fun _ _ _ _ _ _ us hl => match us, hl with | [_, _, _], _ => rfl
theorem sc__law_is_name : FnScope ["_law_matter", "_law_letters_so", "_law_sign"] ["_law_matter"] (defScope s__law_is_name) := ⟨rfl, rfl, rfl, by decide +kernel, rfl, by decide +kernel, by decide +kernel⟩
theorem bn__law_is_name (E : Facts w K mg) : Binds K E.d__law_is_name ["_law_matter"] [] := E.F__law_is_name.bindsN fun _ _ _ _ _ _ us hl => match us, hl with | [_], _ => rfl
theorem sc__law_is_count : FnScope ["_law_matter", "_law_low"] ["_law_matter", "_law_low"] (defScope s__law_is_count) := ⟨rfl, rfl, rfl, by decide +kernel, rfl, by decide +kernel, by decide +kernel⟩
theorem bn__law_is_count (E : Facts w K mg) : Binds K E.d__law_is_count ["_law_matter", "_law_low"] [] := E.F__law_is_count.bindsN fun _ _ _ _ _ _ us hl => match us, hl with | [_, _], _ => rfl
theorem sc__law_fits : FnScope ["_law_matter", "_law_word", "_law_bits", "_law_sorts_so"] ["_law_matter"] (defScope s__law_fits) := ⟨rfl, rfl, rfl, by decide +kernel, rfl, by decide +kernel, by decide +kernel⟩
theorem bn__law_fits (E : Facts w K mg) : Binds K E.d__law_fits ["_law_matter"] [] := E.F__law_fits.bindsN fun _ _ _ _ _ _ us hl => match us, hl with | [_], _ => rfl
theorem sc__law_right : FnScope ["_law_box_here", "_law_words_so", "_law_odd", "_law_turn", "_law_note_here", "_law_some", "_law_due", "_law_k", "_law_own", "_law_bit"] ["_law_box_here"] (defScope s__law_right) := ⟨rfl, rfl, rfl, by decide +kernel, rfl, by decide +kernel, by decide +kernel⟩
theorem bn__law_right (E : Facts w K mg) : Binds K E.d__law_right ["_law_box_here"] [] := E.F__law_right.bindsN fun _ _ _ _ _ _ us hl => match us, hl with | [_], _ => rfl
theorem sc_law : FnScope ["_law_script", "_law_cells_here", "_law_k"] ["_law_script"] (defScope s_law) := ⟨rfl, rfl, rfl, by decide +kernel, rfl, by decide +kernel, by decide +kernel⟩
theorem bn_law (E : Facts w K mg) : Binds K E.d_law ["_law_script"] [] := E.F_law.bindsN fun _ _ _ _ _ _ us hl => match us, hl with | [_], _ => rfl
theorem kb_is_mark_0_thing (E : Facts w K mg) : KBn K E.d_is_mark ["thing"] 0 ["thing"] (fun us ws => pick [0] (us ++ ws)) (fun vs zs => pick [0] (vs ++ zs)) := kbindsN E.F_is_mark 0 ["thing"] [0] fun _ _ _ _ _ _ us ws hl hl2 => match us, ws, hl, hl2 with | [], [_], _, _ => rfl
theorem ok__law_box (E : Facts w K mg) : FnOk P w K mg base CX0 1 E.a__law_box E.d__law_box ["_law_script", "_law_k"] (spF K 2 f__law_box) := by
  refine fn_ok (ps := ["_law_script", "_law_k"]) (k := 0) E.F__law_box sc__law_box rfl fun cdv A outer s H X hr => ?_
  have hu := rm100 hr
  have hu64 := rm64 hr
  have S := sc__law_box
  exact (s_cons (s_set 2 S.nd (e_vl (e_if (b_cmp op_ltD good_lt2 bool_lt2 (e_ref 1) (e_callB cr_len good_len E.n_len (by decide +kernel) (a_cons (e_ref 0) a_nil)) (nomark _)) (e_ix hu (e_ref 0) (e_ref 1)) e_int)))
  (s_one (s_ret (e_lst (a_cons (e_fz (e_op op_mulD good_mul (e_callB call_abs good_abs E.n_abs (by decide +kernel) (a_cons (e_ref 2) a_nil)) (e_callT call_int1 good_intT E.n_int (by decide +kernel) (a_cons (e_cmp op_geD good_lt2 (e_callB call_abs good_abs E.n_abs (by decide +kernel) (a_cons (e_ref 2) a_nil)) (e_op op_pow good_pow e_int e_int) (nomark _)) a_nil)))) (a_cons (e_fz (e_op op_addD good_add (e_op op_addD good_add (e_op op_modN good_mod (e_callT call_int1 good_intT E.n_int (by decide +kernel) (a_cons (e_ref 2) a_nil)) e_int) (e_op op_mulD good_mul e_int (e_ref 1))) e_int)) (a_cons e_int a_nil)))))))
theorem ok__law_cells (E : Facts w K mg) : FnOk P w K mg base CX0 1 E.a__law_cells E.d__law_cells ["_law_script", "_law_most"] (spF K 2 f__law_cells) := by
  refine fn_ok (ps := ["_law_script", "_law_most"]) (k := 0) E.F__law_cells sc__law_cells rfl fun cdv A outer s H X hr => ?_
  have hu := rm100 hr
  have hu64 := rm64 hr
  have S := sc__law_cells
  exact (s_cons (s_set 2 S.nd (e_vl (e_orT (e_callT call_list_of good_list E.n_list (by decide +kernel) (a_cons (e_slc (e_ref 0) o_none (o_some (e_ref 1))) a_nil)) (e_one (e_lst (a_cons e_int a_nil))))))
  (s_cons (s_for PassesOwn.never rfl (i_enum E.n_enumerate (e_slc (e_ref 0) (o_some (e_ref 1)) (o_some e_int))) (g_tup rfl (gs_cons (g_name 3 S.nd) (gs_cons (g_name 4 S.nd) gs_nil))) (s_cons (s_set 5 S.nd (e_op op_modN good_mod (e_callT call_int1 good_intT E.n_int (by decide +kernel) (a_cons (e_ref 3) a_nil)) (e_ref 1)))
  (s_one (s_asg (e_fz (e_op op_addD good_add (e_ix hu (e_ref 2) (e_ref 5)) (e_op op_mulD good_mul (e_ref 4) (e_op op_addD good_add (e_ref 3) e_int)))) (g_ix 2 hu (e_ref 5))))))
  (s_one (s_ret (e_mv (e_ref 2))))))
theorem ok_is_number (E : Facts w K mg) : FnOk P w K mg base CX0 1 E.a_is_number E.d_is_number ["thing"] (spF K 1 f_is_number) := by
  refine fn_ok (ps := ["thing"]) (k := 0) E.F_is_number sc_is_number rfl fun cdv A outer s H X hr => ?_
  have hu := rm100 hr
  have hu64 := rm64 hr
  have S := sc_is_number
  exact (s_one (s_ret (e_mv (e_and (e_isi (e_ref 0) (by decide) E.n_isinstance E.n_int (by decide +kernel)) (e_one (e_not (e_isi (e_ref 0) (by decide) E.n_isinstance E.n_bool (by decide +kernel))))))))
theorem ok_is_name (E : Facts w K mg) : FnOk P w K mg base CX0 1 E.a_is_name E.d_is_name ["thing"] (spF K 1 f_is_name) := by
  refine fn_ok (ps := ["thing"]) (k := 0) E.F_is_name sc_is_name rfl fun cdv A outer s H X hr => ?_
  have hu := rm100 hr
  have hu64 := rm64 hr
  have S := sc_is_name
  exact (s_one (s_ret (e_mv (e_and (e_isi (e_ref 0) (by decide) E.n_isinstance E.n_str (by decide +kernel)) (e_and (e_chain op_leD good_lt2 bool_lt2 op_leD good_lt2 e_int (e_callB cr_len good_len E.n_len (by decide +kernel) (a_cons (e_ref 0) a_nil)) (e_globI E.c_LONGEST)) (e_one (e_callB (cr_all rfl) good_all E.n_all (by decide +kernel) (a_cons (e_lc (own := [("sign", 1)]) rfl S.nd (i_seq (e_ref 0)) (by kernel_rfl) (fun _ _ _ _ _ => (g_name 1 S.nd)) (fun _ _ _ _ _ => pts_yes) (fun _ _ _ _ _ => (e_cmp (op_inM hu) good_in (e_ref 1) (e_globS E.c_LETTERS (by decide +kernel)) rfl))) a_nil))))))))
theorem ok_is_part (E : Facts w K mg) : FnOk P w K mg base CX0 2 E.a_is_part E.d_is_part ["shape", "thing"] (spF K 2 f_is_part) := by
  refine fn_ok (ps := ["shape", "thing"]) (k := 1) E.F_is_part sc_is_part rfl fun cdv A outer s H X hr => ?_
  have hu := rm100 hr
  have hu64 := rm64 hr
  have S := sc_is_part
  exact (s_cons (s_if (b_cmp (op_eqM hu64) good_eq bool_eq (e_ref 0) (e_globS E.c_NAME (by decide +kernel)) (nomark _)) (s_one (s_ret (e_call (ok_is_name E) (hr.mono (by decide)) E.g_is_name E.F_is_name.kp (bn_is_name E) (a_cons (e_ref 1) a_nil)))) s_nil)
  (s_cons (s_if (b_cmp (op_eqM hu64) good_eq bool_eq (e_ref 0) (e_globS E.c_KIND (by decide +kernel)) (nomark _)) (s_one (s_ret (e_mv (e_and (e_isi (e_ref 1) (by decide) E.n_isinstance E.n_str (by decide +kernel)) (e_one (e_cmp (op_inM hu) good_in (e_ref 1) (e_globT E.c_KINDS.1 E.c_KINDS.2.1 E.c_KINDS.2.2) rfl)))))) s_nil)
  (s_one (s_ret (e_mv (e_and (e_call (ok_is_number E) (hr.mono (by decide)) E.g_is_number E.F_is_number.kp (bn_is_number E) (a_cons (e_ref 1) a_nil)) (e_one (e_or (e_cmp (op_eqM hu64) good_eq (e_ref 0) (e_globS E.c_NUMBER (by decide +kernel)) (nomark _)) (e_one (e_cmp op_geD good_lt2 (e_ref 1) e_int (nomark _)))))))))))
theorem ok_is_mark (E : Facts w K mg) : FnOk P w K mg base CX0 3 E.a_is_mark E.d_is_mark ["thing"] (spF K 1 f_is_mark) := by
  refine fn_ok (ps := ["thing"]) (k := 2) E.F_is_mark sc_is_mark rfl fun cdv A outer s H X hr => ?_
  have hu := rm100 hr
  have hu64 := rm64 hr
  have S := sc_is_mark
  exact (s_cons (s_if (b_or (b_not (b_val (e_isi (e_ref 0) (by decide) E.n_isinstance E.n_tuple (by decide +kernel)))) (b_or (b_cmp (op_eqM hu64) good_eq bool_eq (e_callB cr_len good_len E.n_len (by decide +kernel) (a_cons (e_ref 0) a_nil)) e_int (nomark _)) (b_or (b_not (b_val (e_isi (e_ix hu (e_ref 0) e_int) (by decide) E.n_isinstance E.n_str (by decide +kernel)))) (b_or1 (b_notInK E.c_SHAPES.1 E.c_SHAPES.2 (e_ix hu (e_ref 0) e_int)))))).pt (s_one (s_ret e_bl)) s_nil)
  (s_cons (s_set 1 S.nd (e_ixK E.c_SHAPES.1 E.c_SHAPES.2 (e_ix hu (e_ref 0) e_int)))
  (s_one (s_ret (e_mv (e_and (e_cmp (op_eqM hu64) good_eq (e_callB cr_len good_len E.n_len (by decide +kernel) (a_cons (e_ref 0) a_nil)) (e_op op_addD good_add (e_callB cr_len good_len E.n_len (by decide +kernel) (a_cons (e_ref 1) a_nil)) e_int) (nomark _)) (e_one (e_callB (cr_all rfl) good_all E.n_all (by decide +kernel) (a_cons (e_lc (own := [("shape", 2), ("part", 3)]) rfl S.nd (i_zip E.n_zip (e_fz (e_ref 1)) (e_fz (e_slc (e_ref 0) (o_some e_int) o_none))) (by kernel_rfl) (fun _ _ _ _ _ => (g_tup rfl (gs_cons (g_name 2 S.nd) (gs_cons (g_name 3 S.nd) gs_nil)))) (fun _ _ _ _ _ => pts_yes) (fun _ _ _ _ _ => (e_fz (e_call (ok_is_part E) (hr.mono (by decide)) E.g_is_part E.F_is_part.kp (bn_is_part E) (a_cons (e_ref 2) (a_cons (e_ref 3) a_nil)))))) a_nil)))))))))
theorem okr__law_same (E : Facts w K mg) : ∀ n : Nat, FnOk P w K mg base CX0 (0 + n + 1) E.a__law_same E.d__law_same ["_law_got", "_law_due"] (spF K 2 (f__law_same n))
  | 0 => fn_bad E.F__law_same
  | n + 1 => by
    have IH := okr__law_same E n
    refine fn_ok (ps := ["_law_got", "_law_due"]) E.F__law_same sc__law_same rfl fun cdv A outer s H X hr => ?_
    have hu := rm100 hr
    have hu64 := rm64 hr
    have S := sc__law_same
    exact (s_cons (s_if (b_val (e_isi2 (e_ref 1) (by decide) (by decide) E.n_isinstance E.n_list (by decide +kernel) E.n_tuple (by decide +kernel))) (s_cons (s_if (b_or (b_cmp (op_neM hu64) good_ne bool_ne (e_isi (e_ref 0) (by decide) E.n_isinstance E.n_list (by decide +kernel)) (e_isi (e_ref 1) (by decide) E.n_isinstance E.n_list (by decide +kernel)) (nomark _)) (b_or1 (b_cmp (op_neM hu64) good_ne bool_ne (e_isi (e_ref 0) (by decide) E.n_isinstance E.n_tuple (by decide +kernel)) (e_isi (e_ref 1) (by decide) E.n_isinstance E.n_tuple (by decide +kernel)) (nomark _)))).pt (s_one (s_ret e_bl)) s_nil)
  (s_one (s_ret (e_mv (e_and (e_cmp (op_eqM hu64) good_eq (e_callB cr_len good_len E.n_len (by decide +kernel) (a_cons (e_ref 0) a_nil)) (e_callB cr_len good_len E.n_len (by decide +kernel) (a_cons (e_ref 1) a_nil)) (nomark _)) (e_one (e_callB (cr_all rfl) good_all E.n_all (by decide +kernel) (a_cons (e_lc (own := [("_law_mine", 3), ("_law_its", 4)]) rfl S.nd (i_zip E.n_zip (e_fz (e_ref 0)) (e_fz (e_ref 1))) (by kernel_rfl) (fun _ _ _ _ _ => (g_tup rfl (gs_cons (g_name 3 S.nd) (gs_cons (g_name 4 S.nd) gs_nil)))) (fun _ _ _ _ _ => pts_yes) (fun _ _ _ _ _ => (e_fz (e_call IH (hr.mono (by omega)) E.g__law_same E.F__law_same.kp (bn__law_same E) (a_cons (e_ref 3) (a_cons (e_ref 4) a_nil)))))) a_nil)))))))) s_nil)
  (s_cons (s_if (b_val (e_isi (e_ref 1) (by decide) E.n_isinstance E.n_dict (by decide +kernel))) (s_cons (s_if (b_or (b_not (b_val (e_isi (e_ref 0) (by decide) E.n_isinstance E.n_dict (by decide +kernel)))) (b_or1 (b_cmp (op_neM hu64) good_ne bool_ne (e_callB (cr_sortD hu) good_sorted E.n_sorted (by decide +kernel) (a_cons (e_ref 0) a_nil)) (e_callB (cr_sortD hu) good_sorted E.n_sorted (by decide +kernel) (a_cons (e_ref 1) a_nil)) (nomark _)))).pt (s_one (s_ret e_bl)) s_nil)
  (s_one (s_ret (e_callB (cr_all rfl) good_all E.n_all (by decide +kernel) (a_cons (e_lc (own := [("_law_own", 2)]) rfl S.nd (i_seq (e_ref 1)) (by kernel_rfl) (fun _ _ _ _ _ => (g_name 2 S.nd)) (fun _ _ _ _ _ => pts_yes) (fun _ _ _ _ _ => (e_fz (e_call IH (hr.mono (by omega)) E.g__law_same E.F__law_same.kp (bn__law_same E) (a_cons (e_ix hu (e_ref 0) (e_ref 2)) (a_cons (e_ix hu (e_ref 1) (e_ref 2)) a_nil)))))) a_nil))))) s_nil)
  (s_cons (s_if (b_or (b_cmp op_isN good_isN bool_isN (e_ref 1) e_non (nomark _)) (b_or1 (b_val (e_isi2 (e_ref 1) (by decide) (by decide) E.n_isinstance E.n_bool (by decide +kernel) E.n_str (by decide +kernel))))).pt (s_one (s_ret (e_mv (e_and (e_cmp (op_eqM hu64) good_eq (e_ref 0) (e_ref 1) (nomark _)) (e_and (e_cmp (op_eqM hu64) good_eq (e_isi (e_ref 0) (by decide) E.n_isinstance E.n_bool (by decide +kernel)) (e_isi (e_ref 1) (by decide) E.n_isinstance E.n_bool (by decide +kernel)) (nomark _)) (e_one (e_cmp (op_eqM hu64) good_eq (e_cmp op_isN good_isN (e_ref 0) e_non (nomark _)) (e_cmp op_isN good_isN (e_ref 1) e_non (nomark _)) (nomark _)))))))) s_nil)
  (s_one (s_ret (e_mv (e_and (e_isi (e_ref 0) (by decide) E.n_isinstance E.n_int (by decide +kernel)) (e_and (e_not (e_isi (e_ref 0) (by decide) E.n_isinstance E.n_bool (by decide +kernel))) (e_one (e_cmp (op_eqM hu64) good_eq (e_ref 0) (e_ref 1) (nomark _)))))))))))
theorem ok__law_same (E : Facts w K mg) : FnOk P w K mg base CX0 13 E.a__law_same E.d__law_same ["_law_got", "_law_due"] (spF K 2 (f__law_same 12)) := (okr__law_same E 12).mono (by decide)
theorem ok__law_by_hand_right (E : Facts w K mg) : FnOk P w K mg base CX0 14 E.a__law_by_hand_right E.d__law_by_hand_right [] (spF K 0 f__law_by_hand_right) := by
  refine fn_ok (ps := []) (k := 13) E.F__law_by_hand_right sc__law_by_hand_right rfl fun cdv A outer s H X hr => ?_
  have hu := rm100 hr
  have hu64 := rm64 hr
  have S := sc__law_by_hand_right
  exact (s_cons (s_set 0 S.nd (e_lst (a_cons (e_tup (a_cons e_str a_nil)) (a_cons (e_tup (a_cons e_str a_nil)) (a_cons (e_tup (a_cons e_str (a_cons e_str (a_cons e_str a_nil)))) (a_cons (e_tup (a_cons e_str (a_cons e_str (a_cons e_str a_nil)))) (a_cons (e_tup (a_cons e_str (a_cons e_str (a_cons e_int a_nil)))) a_nil)))))))
  (s_cons (s_set 0 S.nd (e_op op_addD good_add (e_ref 0) (e_lst (a_cons (e_tup (a_cons e_str (a_cons e_str (a_cons e_str (a_cons (e_un un_neg good_neg (e_op op_pow good_pow e_int e_int)) a_nil))))) (a_cons (e_tup (a_cons e_str (a_cons e_str (a_cons e_str (a_cons e_int a_nil))))) (a_cons (e_tup (a_cons e_str (a_cons e_str (a_cons e_str a_nil)))) (a_cons (e_tup (a_cons e_str (a_cons e_int a_nil))) a_nil)))))))
  (s_cons (s_set 0 S.nd (e_op op_addD good_add (e_ref 0) (e_lst (a_cons (e_tup (a_cons e_str (a_cons (e_fz (e_op op_pow good_pow e_int e_int)) a_nil))) (a_cons (e_tup (a_cons e_str (a_cons e_int a_nil))) (a_cons (e_tup (a_cons e_str (a_cons (e_fz (e_op op_pow good_pow e_int e_int)) a_nil))) (a_cons (e_tup (a_cons e_str (a_cons e_str (a_cons (e_fz (e_op op_pow good_pow e_int e_int)) a_nil)))) a_nil)))))))
  (s_cons (s_set 1 S.nd (e_lst (a_cons (e_tup a_nil) (a_cons e_non (a_cons e_bl (a_cons e_int (a_cons e_str (a_cons (e_fz (e_lst (a_cons e_str a_nil))) (a_cons (e_tup (a_cons e_str a_nil)) (a_cons (e_tup (a_cons e_str (a_cons e_int a_nil))) (a_cons (e_tup (a_cons e_str (a_cons (e_tup a_nil) a_nil))) (a_cons (e_tup (a_cons e_str (a_cons e_str a_nil))) (a_cons (e_tup (a_cons (e_tup (a_cons e_str a_nil)) a_nil)) a_nil)))))))))))))
  (s_cons (s_set 1 S.nd (e_op op_addD good_add (e_ref 1) (e_lst (a_cons (e_tup (a_cons e_str (a_cons e_str a_nil))) (a_cons (e_tup (a_cons e_str (a_cons e_str (a_cons e_str a_nil)))) (a_cons (e_tup (a_cons e_str (a_cons e_str (a_cons e_non a_nil)))) (a_cons (e_tup (a_cons e_str (a_cons e_str (a_cons e_str a_nil)))) (a_cons (e_tup (a_cons e_str (a_cons e_str (a_cons e_str a_nil)))) a_nil))))))))
  (s_cons (s_set 1 S.nd (e_op op_addD good_add (e_ref 1) (e_lst (a_cons (e_tup (a_cons e_str (a_cons e_str (a_cons (e_fz (e_lst (a_cons e_str a_nil))) a_nil)))) (a_cons (e_tup (a_cons e_str (a_cons e_str (a_cons (e_tup (a_cons e_str a_nil)) a_nil)))) (a_cons (e_tup (a_cons e_str (a_cons e_str (a_cons e_str a_nil)))) (a_cons (e_tup (a_cons e_str (a_cons e_str (a_cons e_str (a_cons e_int a_nil))))) a_nil)))))))
  (s_cons (s_set 1 S.nd (e_op op_addD good_add (e_ref 1) (e_lst (a_cons (e_tup (a_cons e_str (a_cons e_str (a_cons (e_un un_neg good_neg e_int) a_nil)))) (a_cons (e_tup (a_cons e_str (a_cons e_str (a_cons e_bl a_nil)))) (a_cons (e_tup (a_cons e_str (a_cons e_str (a_cons e_non a_nil)))) (a_cons (e_tup (a_cons e_str (a_cons e_int (a_cons e_str a_nil)))) (a_cons (e_tup (a_cons e_str (a_cons e_str a_nil))) (a_cons (e_tup (a_cons e_str (a_cons e_str (a_cons e_str a_nil)))) a_nil)))))))))
  (s_cons (s_set 1 S.nd (e_op op_addD good_add (e_ref 1) (e_lst (a_cons (e_tup (a_cons e_str (a_cons e_str (a_cons e_int a_nil)))) (a_cons (e_tup (a_cons e_str (a_cons e_str (a_cons e_str (a_cons e_bl a_nil))))) (a_cons (e_tup (a_cons e_str (a_cons e_str (a_cons e_str (a_cons e_str a_nil))))) (a_cons (e_tup (a_cons e_str (a_cons e_str (a_cons (e_fz (e_lst (a_cons e_str a_nil))) (a_cons e_int a_nil))))) a_nil)))))))
  (s_cons (s_set 1 S.nd (e_op op_addD good_add (e_ref 1) (e_lst (a_cons (e_tup (a_cons e_str (a_cons e_str a_nil))) (a_cons (e_tup (a_cons e_str (a_cons e_str (a_cons e_int a_nil)))) (a_cons (e_tup (a_cons e_str (a_cons e_str (a_cons e_str (a_cons e_str a_nil))))) (a_cons (e_tup (a_cons e_str (a_cons e_str (a_cons e_str a_nil)))) (a_cons (e_tup (a_cons e_str a_nil)) a_nil))))))))
  (s_cons (s_set 1 S.nd (e_op op_addD good_add (e_ref 1) (e_lst (a_cons (e_tup (a_cons e_str (a_cons (e_un un_neg good_neg e_int) a_nil))) (a_cons (e_tup (a_cons e_str (a_cons e_bl a_nil))) (a_cons (e_tup (a_cons e_str (a_cons e_int (a_cons e_int a_nil)))) (a_cons (e_tup (a_cons e_str (a_cons (e_tup (a_cons e_int a_nil)) a_nil))) (a_cons (e_tup (a_cons e_str (a_cons (e_un un_neg good_neg e_int) a_nil))) (a_cons (e_tup (a_cons e_str (a_cons e_str a_nil))) a_nil)))))))))
  (s_cons (s_set 1 S.nd (e_op op_addD good_add (e_ref 1) (e_lst (a_cons (e_tup (a_cons e_int (a_cons e_int a_nil))) (a_cons (e_tup (a_cons e_non a_nil)) (a_cons (e_tup (a_cons (e_fz (e_lst a_nil)) a_nil)) (a_cons (e_tup (a_cons e_str (a_cons e_int a_nil))) (a_cons (e_tup (a_cons e_str (a_cons e_int a_nil))) (a_cons (e_tup (a_cons e_str a_nil)) (a_cons (e_fz (e_lst (a_cons (e_tup (a_cons e_str a_nil)) a_nil))) (a_cons (e_tup (a_cons e_str (a_cons e_str a_nil))) a_nil)))))))))))
  (s_cons (s_set 2 S.nd (e_op op_addD good_add (e_lc (own := [("_law_own", 3)]) rfl S.nd (i_seq (e_op op_addD good_add (e_ref 0) (e_ref 1))) (by kernel_rfl) (fun _ _ _ _ _ => (g_name 3 S.nd)) (fun _ _ _ _ _ => pts_yes) (fun _ _ _ _ _ => (e_fz (e_call (ok_is_mark E) (hr.mono (by decide)) E.g_is_mark E.F_is_mark.kp (bn_is_mark E) (a_cons (e_ref 3) a_nil))))) (e_lst (a_cons (e_fz (e_callK0 (ks := ["thing"]) (π := [0]) (ok_is_mark E) (hr.mono (by decide)) E.g_is_mark E.F_is_mark.kp (kb_is_mark_0_thing E) (k_cons (e_tup (a_cons e_str (a_cons e_int a_nil))) k_nil))) (a_cons (e_fz (e_callK0 (ks := ["thing"]) (π := [0]) (ok_is_mark E) (hr.mono (by decide)) E.g_is_mark E.F_is_mark.kp (kb_is_mark_0_thing E) (k_cons (e_fz (e_lst (a_cons e_str (a_cons e_int a_nil)))) k_nil))) a_nil)))))
  (s_cons (s_set 2 S.nd (e_op op_addD good_add (e_ref 2) (e_lc (own := [("_law_own", 3)]) rfl S.nd (i_seq (e_op op_addD good_add (e_slc (e_ref 0) o_none (o_some e_int)) (e_slc (e_ref 1) (o_some (e_un un_neg good_neg e_int)) o_none))) (by kernel_rfl) (fun _ _ _ _ _ => (g_name 3 S.nd)) (fun _ _ _ _ _ => pts_yes) (fun _ _ _ _ _ => (e_fz (e_call (ok_is_mark E) (hr.mono (by decide)) E.g_is_mark E.F_is_mark.kp (bn_is_mark E) (a_cons (e_ref 3) a_nil)))))))
  (s_one (s_ret (e_call (ok__law_same E) (hr.mono (by decide)) E.g__law_same E.F__law_same.kp (bn__law_same E) (a_cons (e_ref 2) (a_cons (e_fz (e_op op_addD good_add (e_op op_addD good_add (e_op op_addD good_add (e_op op_addD good_add (e_op op_mulD good_mul (e_lst (a_cons e_bl a_nil)) (e_callB cr_len good_len E.n_len (by decide +kernel) (a_cons (e_ref 0) a_nil))) (e_op op_mulD good_mul (e_lst (a_cons e_bl a_nil)) (e_callB cr_len good_len E.n_len (by decide +kernel) (a_cons (e_ref 1) a_nil)))) (e_lst (a_cons e_bl (a_cons e_bl a_nil)))) (e_op op_mulD good_mul (e_lst (a_cons e_bl a_nil)) e_int)) (e_op op_mulD good_mul (e_lst (a_cons e_bl a_nil)) e_int))) a_nil))))))))))))))))))
theorem ok__law_take (E : Facts w K mg) : FnOk P w K mg base CX0 1 E.a__law_take E.d__law_take ["_law_box_here", "_law_top_so"] (spF K 2 f__law_take) := by
  refine fn_ok (ps := ["_law_box_here", "_law_top_so"]) (k := 0) E.F__law_take sc__law_take rfl fun cdv A outer s H X hr => ?_
  have hu := rm100 hr
  have hu64 := rm64 hr
  have S := sc__law_take
  exact (s_cons (s_if (b_cmp op_gtD good_lt2 bool_lt2 (e_ix hu (e_ref 0) e_int) e_int (nomark _)) (s_cons (s_set 5 S.nd (e_op op_modN good_mod (e_callT call_int1 good_intT E.n_int (by decide +kernel) (a_cons (e_ix hu (e_ref 0) e_int) a_nil)) (e_ref 1)))
  (s_cons (s_asg (e_fz (e_op op_fdivN good_fdiv (e_ix hu (e_ref 0) e_int) (e_ref 1))) (g_ix 0 hu e_int))
  (s_one (s_ret (e_mv (e_ref 5)))))) s_nil)
  (s_cons (s_asg (e_fz (e_op op_addD good_add (e_ix hu (e_ref 0) e_int) e_int)) (g_ix 0 hu e_int))
  (s_cons (s_set 2 S.nd (e_op op_modN good_mod (e_callT call_int1 good_intT E.n_int (by decide +kernel) (a_cons (e_op op_mulD good_mul (e_op op_addD good_add (e_ix hu (e_ref 0) e_int) (e_op op_mulD good_mul e_int (e_ix hu (e_ref 0) e_int))) (e_op op_addD good_add e_int (e_ix hu (e_ref 0) e_int))) a_nil)) e_int))
  (s_cons (s_set 3 S.nd (e_op op_addD good_add (e_op op_modN good_mod (e_callT call_int1 good_intT E.n_int (by decide +kernel) (a_cons (e_ref 2) a_nil)) e_int) e_int))
  (s_cons (s_set 4 S.nd (e_op op_modN good_mod (e_callT call_int1 good_intT E.n_int (by decide +kernel) (a_cons (e_op op_mulD good_mul (e_op op_addD good_add (e_op op_addD good_add (e_ref 2) (e_ix hu (e_ref 0) e_int)) (e_op op_fdivN good_fdiv (e_ix hu (e_ref 0) e_int) e_int)) (e_ref 3)) a_nil)) e_int))
  (s_one (s_ret (e_op op_modN good_mod (e_callT call_int1 good_intT E.n_int (by decide +kernel) (a_cons (e_op op_fdivN good_fdiv (e_op op_modN good_mod (e_callT call_int1 good_intT E.n_int (by decide +kernel) (a_cons (e_op op_addD good_add (e_op op_mulD good_mul (e_ref 4) e_int) (e_ref 2)) a_nil)) e_int) e_int) a_nil)) (e_ref 1)))))))))
theorem ok__law_of (E : Facts w K mg) : FnOk P w K mg base CX0 2 E.a__law_of E.d__law_of ["_law_box_here", "_law_some"] (spF K 2 f__law_of) := by
  refine fn_ok (ps := ["_law_box_here", "_law_some"]) (k := 1) E.F__law_of sc__law_of rfl fun cdv A outer s H X hr => ?_
  have hu := rm100 hr
  have hu64 := rm64 hr
  have S := sc__law_of
  exact (s_one (s_ret (e_ix hu (e_ref 1) (e_call (ok__law_take E) (hr.mono (by decide)) E.g__law_take E.F__law_take.kp (bn__law_take E) (a_cons (e_ref 0) (a_cons (e_fz (e_callB cr_len good_len E.n_len (by decide +kernel) (a_cons (e_ref 1) a_nil))) a_nil))))))
theorem ok__law_note (E : Facts w K mg) : FnOk P w K mg base CX0 3 E.a__law_note E.d__law_note ["_law_box_here", "_law_tags_here", "_law_words_so"] (spF K 3 f__law_note) := by
  refine fn_ok (ps := ["_law_box_here", "_law_tags_here", "_law_words_so"]) (k := 2) E.F__law_note sc__law_note rfl fun cdv A outer s H X hr => ?_
  have hu := rm100 hr
  have hu64 := rm64 hr
  have S := sc__law_note
  exact (s_cons (s_set 3 S.nd (e_call (ok__law_of E) (hr.mono (by decide)) E.g__law_of E.F__law_of.kp (bn__law_of E) (a_cons (e_ref 0) (a_cons (e_ref 2) a_nil))))
  (s_cons (s_par 4 5 rfl S.nd (a_cons (e_call (ok__law_of E) (hr.mono (by decide)) E.g__law_of E.F__law_of.kp (bn__law_of E) (a_cons (e_ref 0) (a_cons (e_ref 1) a_nil))) (a_cons (e_call (ok__law_of E) (hr.mono (by decide)) E.g__law_of E.F__law_of.kp (bn__law_of E) (a_cons (e_ref 0) (a_cons (e_ref 1) a_nil))) a_nil)))
  (s_cons (s_if (b_cmp (op_inM hu) good_in bool_in (e_ref 3) (e_tup (a_cons e_str (a_cons e_str a_nil))) rfl) (s_one (s_ret (e_tup (a_cons (e_fz (e_ref 3)) a_nil)))) s_nil)
  (s_cons (s_if (b_cmp (op_eqM hu64) good_eq bool_eq (e_ref 3) e_str (nomark _)) (s_one (s_ret (e_tup (a_cons (e_fz (e_ref 3)) (a_cons (e_fz (e_ref 4)) (a_cons (e_fz (e_call (ok__law_of E) (hr.mono (by decide)) E.g__law_of E.F__law_of.kp (bn__law_of E) (a_cons (e_ref 0) (a_cons (e_fz (e_lst (a_cons e_str (a_cons e_str (a_cons e_str (a_cons e_str a_nil)))))) a_nil)))) a_nil)))))) s_nil)
  (s_cons (s_if (b_cmp (op_eqM hu64) good_eq bool_eq (e_ref 3) e_str (nomark _)) (s_one (s_ret (e_tup (a_cons (e_fz (e_ref 3)) (a_cons (e_fz (e_ref 4)) (a_cons (e_fz (e_call (ok__law_take E) (hr.mono (by decide)) E.g__law_take E.F__law_take.kp (bn__law_take E) (a_cons (e_ref 0) (a_cons e_int a_nil)))) a_nil)))))) s_nil)
  (s_cons (s_if (b_cmp (op_eqM hu64) good_eq bool_eq (e_ref 3) e_str (nomark _)) (s_one (s_ret (e_tup (a_cons (e_fz (e_ref 3)) (a_cons (e_fz (e_ref 4)) (a_cons (e_fz (e_ref 5)) (a_cons (e_fz (e_op op_sub good_sub (e_call (ok__law_take E) (hr.mono (by decide)) E.g__law_take E.F__law_take.kp (bn__law_take E) (a_cons (e_ref 0) (a_cons e_int a_nil))) e_int)) a_nil))))))) s_nil)
  (s_cons (s_if (b_cmp (op_eqM hu64) good_eq bool_eq (e_ref 3) e_str (nomark _)) (s_one (s_ret (e_tup (a_cons (e_fz (e_ref 3)) (a_cons (e_fz (e_ref 4)) (a_cons (e_fz (e_ref 5)) a_nil)))))) s_nil)
  (s_one (s_ret (e_tup (a_cons (e_fz (e_ref 3)) (a_cons (e_fz (e_call (ok__law_take E) (hr.mono (by decide)) E.g__law_take E.F__law_take.kp (bn__law_take E) (a_cons (e_ref 0) (a_cons (e_if (b_cmp (op_eqM hu64) good_eq bool_eq (e_ref 3) e_str (nomark _)) e_int e_int) a_nil)))) a_nil))))))))))))
theorem ok__law_is_name (E : Facts w K mg) : FnOk P w K mg base CX0 1 E.a__law_is_name E.d__law_is_name ["_law_matter"] (spF K 1 f__law_is_name) := by
  refine fn_ok (ps := ["_law_matter"]) (k := 0) E.F__law_is_name sc__law_is_name rfl fun cdv A outer s H X hr => ?_
  have hu := rm100 hr
  have hu64 := rm64 hr
  have S := sc__law_is_name
  exact (s_cons (s_set 1 S.nd e_str)
  (s_one (s_ret (e_mv (e_and (e_isi (e_ref 0) (by decide) E.n_isinstance E.n_str (by decide +kernel)) (e_and (e_chain op_leD good_lt2 bool_lt2 op_leD good_lt2 e_int (e_callB cr_len good_len E.n_len (by decide +kernel) (a_cons (e_ref 0) a_nil)) e_int) (e_one (e_cmp (op_eqM hu64) good_eq (e_lc (own := [("_law_sign", 2)]) rfl S.nd (i_seq (e_ref 0)) (by kernel_rfl) (fun _ _ _ _ _ => (g_name 2 S.nd)) (fun _ _ _ _ _ => (pts_bt (b_cmp (op_notInM hu) good_in bool_in (e_ref 2) (e_ref 1) rfl))) (fun _ _ _ _ _ => (e_fz (e_ref 2)))) (e_lst a_nil) (nomark _)))))))))
theorem ok__law_is_count (E : Facts w K mg) : FnOk P w K mg base CX0 1 E.a__law_is_count E.d__law_is_count ["_law_matter", "_law_low"] (spF K 2 f__law_is_count) := by
  refine fn_ok (ps := ["_law_matter", "_law_low"]) (k := 0) E.F__law_is_count sc__law_is_count rfl fun cdv A outer s H X hr => ?_
  have hu := rm100 hr
  have hu64 := rm64 hr
  have S := sc__law_is_count
  exact (s_one (s_ret (e_mv (e_and (e_isi (e_ref 0) (by decide) E.n_isinstance E.n_int (by decide +kernel)) (e_and (e_not (e_isi (e_ref 0) (by decide) E.n_isinstance E.n_bool (by decide +kernel))) (e_one (e_or (e_cmp op_isN good_isN (e_ref 1) e_non (nomark _)) (e_one (e_cmp op_geD good_lt2 (e_ref 0) (e_ref 1) (nomark _))))))))))
theorem ok__law_fits (E : Facts w K mg) : FnOk P w K mg base CX0 2 E.a__law_fits E.d__law_fits ["_law_matter"] (spF K 1 f__law_fits) := by
  refine fn_ok (ps := ["_law_matter"]) (k := 1) E.F__law_fits sc__law_fits rfl fun cdv A outer s H X hr => ?_
  have hu := rm100 hr
  have hu64 := rm64 hr
  have S := sc__law_fits
  exact (s_cons (s_if (b_or (b_not (b_val (e_isi (e_ref 0) (by decide) E.n_isinstance E.n_tuple (by decide +kernel)))) (b_or (b_cmp (op_eqM hu64) good_eq bool_eq (e_ref 0) (e_tup a_nil) (nomark _)) (b_or1 (b_not (b_val (e_isi (e_ix hu (e_ref 0) e_int) (by decide) E.n_isinstance E.n_str (by decide +kernel))))))).pt (s_one (s_ret e_bl)) s_nil)
  (s_cons (s_par 1 2 rfl S.nd (a_cons (e_ix hu (e_ref 0) e_int) (a_cons (e_slc (e_ref 0) (o_some e_int) o_none) a_nil)))
  (s_cons (s_if (b_cmp (op_inM hu) good_in bool_in (e_ref 1) (e_tup (a_cons e_str (a_cons e_str a_nil))) rfl) (s_one (s_ret (e_cmp (op_eqM hu64) good_eq (e_ref 2) (e_tup a_nil) (nomark _)))) s_nil)
  (s_cons (s_if (b_cmp (op_inM hu) good_in bool_in (e_ref 1) (e_tup (a_cons e_str (a_cons e_str a_nil))) rfl) (s_one (s_ret (e_mv (e_and (e_cmp (op_eqM hu64) good_eq (e_callB cr_len good_len E.n_len (by decide +kernel) (a_cons (e_ref 2) a_nil)) e_int (nomark _)) (e_one (e_call (ok__law_is_count E) (hr.mono (by decide)) E.g__law_is_count E.F__law_is_count.kp (bn__law_is_count E) (a_cons (e_ix hu (e_ref 2) e_int) (a_cons e_int a_nil)))))))) s_nil)
  (s_cons (s_if (b_cmp (op_inM hu) good_in bool_in (e_ref 1) (e_tup (a_cons e_str (a_cons e_str (a_cons e_str a_nil)))) rfl) (s_cons (s_if (b_or (b_cmp (op_neM hu64) good_ne bool_ne (e_callB cr_len good_len E.n_len (by decide +kernel) (a_cons (e_ref 2) a_nil)) e_int (nomark _)) (b_or1 (b_not (b_val (e_call (ok__law_is_name E) (hr.mono (by decide)) E.g__law_is_name E.F__law_is_name.kp (bn__law_is_name E) (a_cons (e_ix hu (e_ref 2) e_int) a_nil)))))).pt (s_one (s_ret e_bl)) s_nil)
  (s_cons (s_if (b_cmp (op_eqM hu64) good_eq bool_eq (e_ref 1) e_str (nomark _)) (s_one (s_ret (e_call (ok__law_is_count E) (hr.mono (by decide)) E.g__law_is_count E.F__law_is_count.kp (bn__law_is_count E) (a_cons (e_ix hu (e_ref 2) e_int) (a_cons e_int a_nil))))) s_nil)
  (s_cons (s_set 3 S.nd (e_tup (a_cons e_str (a_cons e_str (a_cons e_str (a_cons e_str a_nil))))))
  (s_one (s_ret (e_mv (e_if (b_cmp (op_eqM hu64) good_eq bool_eq (e_ref 1) e_str (nomark _)) (e_call (ok__law_is_name E) (hr.mono (by decide)) E.g__law_is_name E.F__law_is_name.kp (bn__law_is_name E) (a_cons (e_ix hu (e_ref 2) e_int) a_nil)) (e_and (e_isi (e_ix hu (e_ref 2) e_int) (by decide) E.n_isinstance E.n_str (by decide +kernel)) (e_one (e_cmp (op_inM hu) good_in (e_ix hu (e_ref 2) e_int) (e_ref 3) rfl)))))))))) s_nil)
  (s_cons (s_if (b_or (b_cmp (op_neM hu64) good_ne bool_ne (e_ref 1) e_str (nomark _)) (b_or (b_cmp (op_neM hu64) good_ne bool_ne (e_callB cr_len good_len E.n_len (by decide +kernel) (a_cons (e_ref 2) a_nil)) e_int (nomark _)) (b_or (b_not (b_val (e_call (ok__law_is_name E) (hr.mono (by decide)) E.g__law_is_name E.F__law_is_name.kp (bn__law_is_name E) (a_cons (e_ix hu (e_ref 2) e_int) a_nil)))) (b_or1 (b_not (b_val (e_call (ok__law_is_name E) (hr.mono (by decide)) E.g__law_is_name E.F__law_is_name.kp (bn__law_is_name E) (a_cons (e_ix hu (e_ref 2) e_int) a_nil)))))))).pt (s_one (s_ret e_bl)) s_nil)
  (s_one (s_ret (e_call (ok__law_is_count E) (hr.mono (by decide)) E.g__law_is_count E.F__law_is_count.kp (bn__law_is_count E) (a_cons (e_ix hu (e_ref 2) e_int) (a_cons e_non a_nil)))))))))))
theorem ok__law_right (E : Facts w K mg) : FnOk P w K mg base CX0 14 E.a__law_right E.d__law_right ["_law_box_here"] (spF K 1 f__law_right) := by
  refine fn_ok (ps := ["_law_box_here"]) (k := 13) E.F__law_right sc__law_right rfl fun cdv A outer s H X hr => ?_
  have hu := rm100 hr
  have hu64 := rm64 hr
  have S := sc__law_right
  exact (s_cons (s_set 1 S.nd (e_lst (a_cons e_str (a_cons e_str (a_cons e_str (a_cons e_str (a_cons e_str (a_cons e_str (a_cons e_str (a_cons e_str a_nil))))))))))
  (s_cons (s_set 2 S.nd (e_lst (a_cons e_non (a_cons e_bl (a_cons e_str (a_cons e_str (a_cons e_str (a_cons (e_un un_neg good_neg e_int) (a_cons e_int (a_cons e_int (a_cons (e_tup a_nil) (a_cons (e_tup (a_cons e_str a_nil)) (a_cons (e_fz (e_lst (a_cons e_str a_nil))) (a_cons e_str (a_cons e_str (a_cons (e_fz (e_op op_pow good_pow e_int e_int)) (a_cons e_str (a_cons e_str a_nil))))))))))))))))))
  (s_cons (s_for PassesOwn.never rfl (i_rng1 E.n_range e_int) (g_name 3 S.nd) (s_cons (s_set 4 S.nd (e_call (ok__law_note E) (hr.mono (by decide)) E.g__law_note E.F__law_note.kp (bn__law_note E) (a_cons (e_ref 0) (a_cons (e_fz (e_lst (a_cons e_str (a_cons e_str (a_cons e_str a_nil))))) (a_cons (e_ref 1) a_nil)))))
  (s_cons (s_par 7 8 rfl S.nd (a_cons (e_call (ok__law_take E) (hr.mono (by decide)) E.g__law_take E.F__law_take.kp (bn__law_take E) (a_cons (e_ref 0) (a_cons (e_fz (e_callB cr_len good_len E.n_len (by decide +kernel) (a_cons (e_ref 4) a_nil))) a_nil))) (a_cons (e_call (ok__law_of E) (hr.mono (by decide)) E.g__law_of E.F__law_of.kp (bn__law_of E) (a_cons (e_ref 0) (a_cons (e_ref 2) a_nil))) a_nil)))
  (s_cons (s_set 5 S.nd (e_lst (a_cons (e_fz (e_ref 4)) (a_cons (e_fz (e_op op_addD good_add (e_op op_addD good_add (e_slc (e_ref 4) o_none (o_some (e_ref 7))) (e_tup (a_cons (e_fz (e_ref 8)) a_nil))) (e_slc (e_ref 4) (o_some (e_op op_addD good_add (e_ref 7) e_int)) o_none))) (a_cons (e_fz (e_op op_addD good_add (e_ref 4) (e_tup (a_cons (e_fz (e_ref 8)) a_nil)))) (a_cons (e_fz (e_op op_addD good_add (e_slc (e_ref 4) o_none (o_some (e_ref 7))) (e_slc (e_ref 4) (o_some (e_op op_addD good_add (e_ref 7) e_int)) o_none))) (a_cons (e_fz (e_callT call_list_of good_list E.n_list (by decide +kernel) (a_cons (e_ref 4) a_nil))) (a_cons (e_revT (e_ref 4)) a_nil))))))))
  (s_cons (s_setLc (own := [("_law_bit", 9)]) 6 rfl S.nd (i_seq (e_ref 5)) (by kernel_rfl) (fun _ _ _ _ _ => (g_name 9 S.nd)) (fun _ _ _ _ _ => pts_yes) (fun _ _ _ _ _ => (e_fz (e_call (ok__law_fits E) (hr.mono (by decide)) E.g__law_fits E.F__law_fits.kp (bn__law_fits E) (a_cons (e_ref 9) a_nil)))))
  (s_one (s_if (b_or (b_not (b_val (e_ix hu (e_ref 6) e_int))) (b_or1 (b_not (b_val (e_call (ok__law_same E) (hr.mono (by decide)) E.g__law_same E.F__law_same.kp (bn__law_same E) (a_cons (e_fz (e_lc (own := [("_law_bit", 9)]) rfl S.nd (i_seq (e_ref 5)) (by kernel_rfl) (fun _ _ _ _ _ => (g_name 9 S.nd)) (fun _ _ _ _ _ => pts_yes) (fun _ _ _ _ _ => (e_fz (e_call (ok_is_mark E) (hr.mono (by decide)) E.g_is_mark E.F_is_mark.kp (bn_is_mark E) (a_cons (e_ref 9) a_nil)))))) (a_cons (e_ref 6) a_nil))))))).pt (s_one (s_ret e_bl)) s_nil)))))))
  (s_one (s_ret e_bl)))))
theorem ok_law (E : Facts w K mg) : FnOk P w K mg base CX0 15 E.a_law E.d_law ["_law_script"] (spF K 1 f_law) := by
  refine fn_ok (ps := ["_law_script"]) (k := 14) E.F_law sc_law rfl fun cdv A outer s H X hr => ?_
  have hu := rm100 hr
  have hu64 := rm64 hr
  have S := sc_law
  exact (s_cons (s_set 1 S.nd (e_call (ok__law_cells E) (hr.mono (by decide)) E.g__law_cells E.F__law_cells.kp (bn__law_cells E) (a_cons (e_ref 0) (a_cons e_int a_nil))))
  (s_one (s_ret (e_mv (e_and (e_call0 (ok__law_by_hand_right E) (hr.mono (by decide)) E.g__law_by_hand_right E.F__law_by_hand_right.kp (bn__law_by_hand_right E)) (e_one (e_callB (cr_all rfl) good_all E.n_all (by decide +kernel) (a_cons (e_lc (own := [("_law_k", 2)]) rfl S.nd (i_rng1 E.n_range (e_callB cr_len good_len E.n_len (by decide +kernel) (a_cons (e_ref 1) a_nil))) (by kernel_rfl) (fun _ _ _ _ _ => (g_name 2 S.nd)) (fun _ _ _ _ _ => pts_yes) (fun _ _ _ _ _ => (e_fz (e_call (ok__law_right E) (hr.mono (by decide)) E.g__law_right E.F__law_right.kp (bn__law_right E) (a_cons (e_call (ok__law_box E) (hr.mono (by decide)) E.g__law_box E.F__law_box.kp (bn__law_box E) (a_cons (e_ref 1) (a_cons (e_ref 2) a_nil))) a_nil))))) a_nil))))))))
end
end L_k75

namespace L_k75
open PySem L2 Fd
def p__law_box (script1 : D) (k2 : D) : Res (List D) := ((ofV (lenD [script1])).bind fun v3 => ((ofB (ltD k2 v3)).bind fun k4 => ((if k4 = true then ((ofV (ixD script1 k2)).bind fun v6 => (.ok v6)) else (.ok (.int 0)) : Res (D)).bind fun x5 => ((ofV (absD [x5])).bind fun v7 => ((ofV (absD [x5])).bind fun v8 => ((ofV (powD (.int 10) (.int 18))).bind fun v9 => ((ofV (geD v8 v9)).bind fun v10 => ((ofV (intD [v10])).bind fun v11 => ((ofV (mulD v7 v11)).bind fun v12 => ((ofV (intD [x5])).bind fun v13 => ((ofV (modD v13 (.int 2305843009213693951))).bind fun v14 => ((ofV (mulD (.int 39373) k2)).bind fun v15 => ((ofV (addD v14 v15)).bind fun v16 => ((ofV (addD v16 (.int 2556))).bind fun v17 => (.ok [v12, v17, (.int 0)])))))))))))))))
theorem t__law_box_vv (script1 : D) (k2 : D) : FnR (X := List D) f__law_box [.val script1, .val k2] (p__law_box script1 k2) ((fun x : List D => ((.tmp (.lst x) : RV), [nn, nn]))) := by
  refine z_fn (X := List D) (A := (fun x : List D => ((.tmp (.lst x) : RV), [nn, nn]))) (k := 1) (body := b__law_box) (ss := [.val script1, .val k2]) (r := p__law_box script1 k2) [vv script1, vv k2, nn] rfl 2 rfl ?_ (fun _ => rfl)
  unfold p__law_box
  exact (z_last (z_sq (z_set (z_vl (z_eIf (z_cmp (z_ref rfl (z_callB (z_aCons (z_ref rfl (z_aNil (z_finLV rfl fun v3 => (z_cmpK rfl rfl fun k4 => (z_bnd (A := fun (x5 : D) => .val x5) (E := fun (x5 : D) => [vv script1, vv k2, nn]) (z_ite (fun _ => (z_endB (z_op2 (z_ref rfl (z_ref rfl (z_fin2V rfl rfl fun v6 => (z_end rfl Sub.rfl'))))))) (fun _ => (z_endB (z_con (z_end rfl Sub.rfl'))))) fun x5 => (z_vlR [vv script1, vv k2, nn] rfl (z_sto [vv script1, vv k2, vv x5] rfl rfl (z_ret (z_lst (z_aCons (z_fz (z_op2 (z_callB (z_aCons (z_ref rfl (z_aNil (z_finLV rfl fun v7 => (z_callB (z_aCons (z_op2 (z_callB (z_aCons (z_ref rfl (z_aNil (z_finLV rfl fun v8 => (z_op2 (z_con (z_con (z_fin2V rfl rfl fun v9 => (z_fin2V rfl rfl fun v10 => (z_aNil (z_finLV rfl fun v11 => (z_fin2V rfl rfl fun v12 => (z_fzR [vv script1, vv k2, vv x5] rfl (z_aCons (z_fz (z_op2 (z_op2 (z_op2 (z_callB (z_aCons (z_ref rfl (z_aNil (z_finLV rfl fun v13 => (z_con (z_fin2V rfl rfl fun v14 => (z_op2 (z_con (z_ref rfl (z_fin2V rfl rfl fun v15 => (z_fin2V rfl rfl fun v16 => (z_con (z_fin2V rfl rfl fun v17 => (z_fzR [vv script1, vv k2, vv x5] rfl (z_aCons (z_con (z_aNil (z_lstK rfl rfl (z_fret rfl Sub.rfl' rfl))))))))))))))))))))))))))))))))))))))))))))))))))))))))))))))))))))
def p__law_cells (script1 : D) (most2 : D) : Res (List D) := ((asI most2).bind fun i3 => ((ofL (sliceD script1 none (some i3))).bind fun l4 => ((ofL (listD [(.lst l4)])).bind fun l5 => ((tstR (.lst l5)).bind fun k6 => ((if k6 = true then (.ok l5) else (.ok [(.int 0)]) : Res (List D)).bind fun x7 => ((asI most2).bind fun i9 => ((asI (.int 63)).bind fun i10 => ((ofL (sliceD script1 (some i9) (some i10))).bind fun l11 => ((forR (fun (s12 : List D) (d13 : D) => ((un2 d13).bind2 fun k14 great15 => ((ofV (intD [k14])).bind fun v16 => ((ofV (modD v16 most2)).bind fun v17 => ((ofV (ixD (.lst s12) v17)).bind fun v18 => ((ofV (addD k14 (.int 2))).bind fun v19 => ((ofV (mulD great15 v19)).bind fun v20 => ((ofV (addD v18 v20)).bind fun v21 => ((noX (.ok v17)).bind fun i22 => (putL s12 i22 v21).bind fun cells23 => (.ok cells23)))))))))) (enumL l11) x7).bind fun s24 => (.ok s24))))))))))
theorem t__law_cells_vv (script1 : D) (most2 : D) : FnR (X := List D) f__law_cells [.val script1, .val most2] (p__law_cells script1 most2) ((fun x : List D => ((.tmp (.lst x) : RV), [nn, nn]))) := by
  refine z_fn (X := List D) (A := (fun x : List D => ((.tmp (.lst x) : RV), [nn, nn]))) (k := 4) (body := b__law_cells) (ss := [.val script1, .val most2]) (r := p__law_cells script1 most2) [vv script1, vv most2, nn, nn, nn, nn] rfl 2 rfl ?_ (fun _ => rfl)
  unfold p__law_cells
  exact (z_last (z_sq (z_set (z_vl (z_eOrT (z_callB (z_aCons (z_slc (z_ref rfl (z_slN (z_slS (z_ref rfl (z_slK rfl fun i3 => (z_fin1L rfl fun l4 => (z_aNil (z_finLL rfl fun l5 => (z_tstK rfl fun k6 => (z_bnd (A := fun (x7 : List D) => .tmp (.lst x7)) (E := fun (x7 : List D) => [vv script1, vv most2, nn, nn, nn, nn]) (z_ite (fun _ => (z_end rfl Sub.rfl')) (fun _ => (z_endB (z_lst (z_aCons (z_con (z_aNil (z_lstK rfl rfl (z_end rfl Sub.rfl'))))))))) fun x7 => (z_vlR [vv script1, vv most2, nn, nn, nn, nn] rfl (z_sto [vv script1, vv most2, oo x7, nn, nn, nn] rfl rfl (z_sq (z_for (z_enum (z_slc (z_ref rfl (z_slS (z_ref rfl (z_slK rfl fun i9 => (z_slS (z_con (z_slK rfl fun i10 => (z_fin1L rfl fun l11 => (z_enumL (z_forD (E := fun (s12 : List D) => [vv script1, vv most2, oo s12, .nv, .nv, .nv]) (by exact (.keep (.keep (.keep (.no (.no (.no .nil))))))) (fun s12 d13 => (z_tg2 fun k14 great15 => (z_tgN [vv script1, vv most2, oo s12, vv k14, .nv, .nv] rfl rfl (z_tgN [vv script1, vv most2, oo s12, vv k14, vv great15, .nv] rfl rfl (z_last (z_sq (z_set (z_op2 (z_callB (z_aCons (z_ref rfl (z_aNil (z_finLV rfl fun v16 => (z_ref rfl (z_fin2V rfl rfl fun v17 => (z_sto [vv script1, vv most2, oo s12, vv k14, vv great15, vv v17] rfl rfl (z_asg (z_fz (z_op2 (z_op2 (z_ref rfl (z_ref rfl (z_fin2V rfl rfl fun v18 => (z_op2 (z_ref rfl (z_op2 (z_ref rfl (z_con (z_fin2V rfl rfl fun v19 => (z_fin2V rfl rfl fun v20 => (z_fin2V rfl rfl fun v21 => (z_fzR [vv script1, vv most2, oo s12, vv k14, vv great15, vv v17] rfl (z_asgK (z_tgX rfl rfl (z_endB (z_ref rfl (z_end rfl Sub.rfl'))) (fun cells23 => [vv script1, vv most2, oo cells23, vv k14, vv great15, vv v17]) (fun _ => rfl) fun cells23 => (z_nxN (by exact (.keep (.keep (.keep (.val (.val (.val .nil)))))))))))))))))))))))))))))))))))))))))) fun s24 => (z_ret (z_mv (z_ref rfl (z_mvR [vv script1, vv most2, nn, .nv, .nv, .nv] rfl (z_fret rfl Sub.rfl' rfl)))))))))))))))))))))))))))))))))))))))
def p_is_number (thing1 : D) : Res (D) := ((ofV (isi1 "int" thing1)).bind fun v2 => ((asB v2).bind fun k3 => ((if k3 = true then ((ofV (isi1 "bool" thing1)).bind fun v5 => ((ofV (notD v5)).bind fun v6 => (.ok v6))) else (.ok (.bl false)) : Res (D)).bind fun x4 => (.ok x4))))
theorem t_is_number_v (thing1 : D) : FnR (X := D) f_is_number [.val thing1] (p_is_number thing1) ((fun x : D => ((.val x : RV), [nn]))) := by
  refine z_fn (X := D) (A := (fun x : D => ((.val x : RV), [nn]))) (k := 0) (body := b_is_number) (ss := [.val thing1]) (r := p_is_number thing1) [vv thing1] rfl 1 rfl ?_ (fun _ => rfl)
  unfold p_is_number
  exact (z_last (z_ret (z_mv (z_eAnd (z_op1 (z_ref rfl (z_fin1V rfl fun v2 => (z_asBK rfl fun k3 => (z_bnd (A := fun (x4 : D) => .val x4) (E := fun (x4 : D) => [vv thing1]) (z_ite (fun _ => (z_endB (z_op1 (z_op1 (z_ref rfl (z_fin1V rfl fun v5 => (z_fin1V rfl fun v6 => (z_end rfl Sub.rfl')))))))) (fun _ => (z_end rfl Sub.rfl'))) fun x4 => (z_mvR [vv thing1] rfl (z_fret rfl Sub.rfl' rfl)))))))))))
def p_is_name (thing1 : D) : Res (D) := ((ofV (isi1 "str" thing1)).bind fun v2 => ((asB v2).bind fun k3 => ((if k3 = true then ((ofV (lenD [thing1])).bind fun v5 => ((ofB (leD (.int 1) v5)).bind fun k6 => ((if k6 = true then ((ofV (leD v5 (.int 8))).bind fun v8 => (.ok v8)) else (.ok (.bl false)) : Res (D)).bind fun x7 => ((asB x7).bind fun k9 => ((if k9 = true then ((items thing1).bind fun ds11 => ((lcP (fun d12 => ((ofV ((inD false) d12 (.str "abcdefghijklmnopqrstuvwxyz"))).bind fun v14 => (.ok (some v14)))) ds11).bind fun l13 => ((ofV (allD [(.lst l13)])).bind fun v15 => (.ok v15)))) else (.ok (.bl false)) : Res (D)).bind fun x10 => (.ok x10)))))) else (.ok (.bl false)) : Res (D)).bind fun x4 => (.ok x4))))
theorem t_is_name_v (thing1 : D) : FnR (X := D) f_is_name [.val thing1] (p_is_name thing1) ((fun x : D => ((.val x : RV), [nn]))) := by
  refine z_fn (X := D) (A := (fun x : D => ((.val x : RV), [nn]))) (k := 1) (body := b_is_name) (ss := [.val thing1]) (r := p_is_name thing1) [vv thing1, nn] rfl 1 rfl ?_ (fun _ => rfl)
  unfold p_is_name
  exact (z_last (z_ret (z_mv (z_eAnd (z_op1 (z_ref rfl (z_fin1V rfl fun v2 => (z_asBK rfl fun k3 => (z_bnd (A := fun (x4 : D) => .val x4) (E := fun (x4 : D) => [vv thing1, nn]) (z_ite (fun _ => (z_endB (z_eAnd (z_chE (z_con (z_callB (z_aCons (z_ref rfl (z_aNil (z_finLV rfl fun v5 => (z_chK rfl rfl fun k6 => (z_bnd (A := fun (x7 : D) => .val x7) (E := fun (x7 : D) => [vv thing1, nn]) (z_ite (fun _ => (z_endB (z_ch3 (z_con (z_fin2V rfl rfl fun v8 => (z_end rfl Sub.rfl')))))) (fun _ => (z_end rfl Sub.rfl'))) fun x7 => (z_asBK rfl fun k9 => (z_bnd (A := fun (x10 : D) => .val x10) (E := fun (x10 : D) => [vv thing1, nn]) (z_ite (fun _ => (z_endB (z_callB (z_aCons (z_lc (z_it (z_ref rfl (z_itV fun ds11 => (z_lcD (W := [vv thing1, nn]) rfl Sub.rfl' (fun d12 => (z_tgN [vv thing1, vv d12] rfl rfl (z_yes (z_yes1 (z_op2 (z_ref rfl (z_con (z_fin2V rfl rfl fun v14 => (z_lcV Sub.rfl'))))))))) [vv thing1, nn] rfl fun l13 => (z_aNil (z_finLV rfl fun v15 => (z_end rfl Sub.rfl')))))))))))) (fun _ => (z_end rfl Sub.rfl'))) fun x10 => (z_end rfl Sub.rfl'))))))))))))))) (fun _ => (z_end rfl Sub.rfl'))) fun x4 => (z_mvR [vv thing1, nn] rfl (z_fret rfl Sub.rfl' rfl)))))))))))
def p_is_part (shape1 : D) (thing2 : D) : Res (D) := ((ofB (eqD shape1 (.str "name"))).bind fun k3 => (if k3 = true then ((p_is_name thing2).bind fun z4 => (.ok z4)) else ((ofB (eqD shape1 (.str "kind"))).bind fun k5 => (if k5 = true then ((ofV (isi1 "str" thing2)).bind fun v6 => ((asB v6).bind fun k7 => ((if k7 = true then ((ofV ((inD false) thing2 (.kt ((["free", "falling", "rising", "ringed"] : List Str).map D.str)))).bind fun v9 => (.ok v9)) else (.ok (.bl false)) : Res (D)).bind fun x8 => (.ok x8)))) else ((p_is_number thing2).bind fun z10 => ((asB z10).bind fun k11 => ((if k11 = true then ((ofV (eqD shape1 (.str "number"))).bind fun v13 => ((asB v13).bind fun k14 => ((if k14 = true then (.ok (.bl true)) else ((ofV (geD thing2 (.int 0))).bind fun v16 => (.ok v16)) : Res (D)).bind fun x15 => (.ok x15)))) else (.ok (.bl false)) : Res (D)).bind fun x12 => (.ok x12))))))))
theorem t_is_part_vv (shape1 : D) (thing2 : D) : FnR (X := D) f_is_part [.val shape1, .val thing2] (p_is_part shape1 thing2) ((fun x : D => ((.val x : RV), [nn, nn]))) := by
  refine z_fn (X := D) (A := (fun x : D => ((.val x : RV), [nn, nn]))) (k := 0) (body := b_is_part) (ss := [.val shape1, .val thing2]) (r := p_is_part shape1 thing2) [vv shape1, vv thing2] rfl 2 rfl ?_ (fun _ => rfl)
  unfold p_is_part
  exact (z_last (z_sq (z_if (z_cmp (z_ref rfl (z_con (z_cmpK rfl rfl fun k3 => (z_ite (fun _ => (z_ret (z_callF (z_aCons (z_ref rfl (z_aNil (z_call (Z := D) (A := (fun x : D => ((.val x : RV), [nn]))) (t_is_name_v thing2) rfl rfl rfl (fun _ => rfl) (fun _ => ⟨rfl, rfl⟩) (fun z4 => [vv shape1, vv thing2]) (fun _ => rfl) fun z4 => (z_fret rfl Sub.rfl' rfl)))))))) (fun _ => (z_nop (z_sq (z_if (z_cmp (z_ref rfl (z_con (z_cmpK rfl rfl fun k5 => (z_ite (fun _ => (z_ret (z_mv (z_eAnd (z_op1 (z_ref rfl (z_fin1V rfl fun v6 => (z_asBK rfl fun k7 => (z_bnd (A := fun (x8 : D) => .val x8) (E := fun (x8 : D) => [vv shape1, vv thing2]) (z_ite (fun _ => (z_endB (z_op2 (z_ref rfl (z_con (z_fin2V rfl rfl fun v9 => (z_end rfl Sub.rfl'))))))) (fun _ => (z_end rfl Sub.rfl'))) fun x8 => (z_mvR [vv shape1, vv thing2] rfl (z_fret rfl Sub.rfl' rfl))))))))))) (fun _ => (z_nop (z_ret (z_mv (z_eAnd (z_callF (z_aCons (z_ref rfl (z_aNil (z_call (Z := D) (A := (fun x : D => ((.val x : RV), [nn]))) (t_is_number_v thing2) rfl rfl rfl (fun _ => rfl) (fun _ => ⟨rfl, rfl⟩) (fun z10 => [vv shape1, vv thing2]) (fun _ => rfl) fun z10 => (z_asBK rfl fun k11 => (z_bnd (A := fun (x12 : D) => .val x12) (E := fun (x12 : D) => [vv shape1, vv thing2]) (z_ite (fun _ => (z_endB (z_eOr (z_op2 (z_ref rfl (z_con (z_fin2V rfl rfl fun v13 => (z_asBK rfl fun k14 => (z_bnd (A := fun (x15 : D) => .val x15) (E := fun (x15 : D) => [vv shape1, vv thing2]) (z_ite (fun _ => (z_end rfl Sub.rfl')) (fun _ => (z_endB (z_op2 (z_ref rfl (z_con (z_fin2V rfl rfl fun v16 => (z_end rfl Sub.rfl')))))))) fun x15 => (z_end rfl Sub.rfl')))))))))) (fun _ => (z_end rfl Sub.rfl'))) fun x12 => (z_mvR [vv shape1, vv thing2] rfl (z_fret rfl Sub.rfl' rfl)))))))))))))))))))))))))))))))
def p_is_mark (thing1 : D) : Res (D) := ((ofV (isi1 "tuple" thing1)).bind fun v2 => ((tstR v2).bind fun k3 => ((if (!k3) = true then (.ok true) else ((ofV (lenD [thing1])).bind fun v5 => ((ofB (eqD v5 (.int 0))).bind fun k6 => ((if k6 = true then (.ok true) else ((ofV (ixD thing1 (.int 0))).bind fun v8 => ((ofV (isi1 "str" v8)).bind fun v9 => ((tstR v9).bind fun k10 => ((if (!k10) = true then (.ok true) else ((ofV (ixD thing1 (.int 0))).bind fun v12 => ((ofV (inKd true t_SHAPES v12)).bind fun v13 => ((tstR v13).bind fun k14 => (.ok k14)))) : Res (Bool)).bind fun x11 => (.ok x11))))) : Res (Bool)).bind fun x7 => (.ok x7)))) : Res (Bool)).bind fun x4 => (if x4 = true then (.ok (.bl false)) else ((ofV (ixD thing1 (.int 0))).bind fun v15 => ((ofV (ixKd t_SHAPES v15)).bind fun v16 => ((ofV (lenD [thing1])).bind fun v17 => ((ofV (lenD [v16])).bind fun v18 => ((ofV (addD v18 (.int 1))).bind fun v19 => ((ofV (eqD v17 v19)).bind fun v20 => ((asB v20).bind fun k21 => ((if k21 = true then ((asI (.int 1)).bind fun i24 => ((ofV (sliceD thing1 (some i24) none)).bind fun v25 => ((zipR v16 v25).bind fun ds23 => ((lcP (fun d26 => ((un2 d26).bind2 fun shape28 part29 => ((p_is_part shape28 part29).bind fun z30 => (.ok (some z30))))) ds23).bind fun l27 => ((ofV (allD [(.lst l27)])).bind fun v31 => (.ok v31)))))) else (.ok (.bl false)) : Res (D)).bind fun x22 => (.ok x22)))))))))))))
theorem t_is_mark_v (thing1 : D) : FnR (X := D) f_is_mark [.val thing1] (p_is_mark thing1) ((fun x : D => ((.val x : RV), [nn]))) := by
  refine z_fn (X := D) (A := (fun x : D => ((.val x : RV), [nn]))) (k := 3) (body := b_is_mark) (ss := [.val thing1]) (r := p_is_mark thing1) [vv thing1, nn, nn, nn] rfl 1 rfl ?_ (fun _ => rfl)
  unfold p_is_mark
  exact (z_last (z_sq (z_if (z_bOr (z_bNot (z_tst (z_op1 (z_ref rfl (z_fin1V rfl fun v2 => (z_tstK rfl fun k3 => (z_bnd (A := fun (x4 : Bool) => x4) (E := fun (x4 : Bool) => [vv thing1, nn, nn, nn]) (z_ite (fun _ => (z_end rfl Sub.rfl')) (fun _ => (z_endB (z_bOr (z_cmp (z_callB (z_aCons (z_ref rfl (z_aNil (z_finLV rfl fun v5 => (z_con (z_cmpK rfl rfl fun k6 => (z_bnd (A := fun (x7 : Bool) => x7) (E := fun (x7 : Bool) => [vv thing1, nn, nn, nn]) (z_ite (fun _ => (z_end rfl Sub.rfl')) (fun _ => (z_endB (z_bOr (z_bNot (z_tst (z_op1 (z_op2 (z_ref rfl (z_con (z_fin2V rfl rfl fun v8 => (z_fin1V rfl fun v9 => (z_tstK rfl fun k10 => (z_bnd (A := fun (x11 : Bool) => x11) (E := fun (x11 : Bool) => [vv thing1, nn, nn, nn]) (z_ite (fun _ => (z_end rfl Sub.rfl')) (fun _ => (z_endB (z_tst (z_op1 (z_op2 (z_ref rfl (z_con (z_fin2V rfl rfl fun v12 => (z_fin1V rfl fun v13 => (z_tstK rfl fun k14 => (z_end rfl Sub.rfl')))))))))))) fun x11 => (z_end rfl Sub.rfl'))))))))))))))) fun x7 => (z_end rfl Sub.rfl')))))))))))))) fun x4 => (z_ite (fun _ => (z_ret (z_con (z_fret rfl Sub.rfl' rfl)))) (fun _ => (z_nop (z_sq (z_set (z_op1 (z_op2 (z_ref rfl (z_con (z_fin2V rfl rfl fun v15 => (z_fin1V rfl fun v16 => (z_sto [vv thing1, vv v16, nn, nn] rfl rfl (z_ret (z_mv (z_eAnd (z_op2 (z_callB (z_aCons (z_ref rfl (z_aNil (z_finLV rfl fun v17 => (z_op2 (z_callB (z_aCons (z_ref rfl (z_aNil (z_finLV rfl fun v18 => (z_con (z_fin2V rfl rfl fun v19 => (z_fin2V rfl rfl fun v20 => (z_asBK rfl fun k21 => (z_bnd (A := fun (x22 : D) => .val x22) (E := fun (x22 : D) => [vv thing1, vv v16, nn, nn]) (z_ite (fun _ => (z_endB (z_callB (z_aCons (z_lc (z_zip (z_fz (z_ref rfl (z_fzR [vv thing1, vv v16, nn, nn] rfl (z_fz (z_slc (z_ref rfl (z_slS (z_con (z_slK rfl fun i24 => (z_slN (z_fin1V rfl fun v25 => (z_fzR [vv thing1, vv v16, nn, nn] rfl (z_zipK fun ds23 => (z_lcD (W := [vv thing1, vv v16, nn, nn]) rfl Sub.rfl' (fun d26 => (z_tg2 fun shape28 part29 => (z_tgN [vv thing1, vv v16, vv shape28, nn] rfl rfl (z_tgN [vv thing1, vv v16, vv shape28, vv part29] rfl rfl (z_yes (z_yes1 (z_fz (z_callF (z_aCons (z_ref rfl (z_aCons (z_ref rfl (z_aNil (z_call (Z := D) (A := (fun x : D => ((.val x : RV), [nn, nn]))) (t_is_part_vv shape28 part29) rfl rfl rfl (fun _ => rfl) (fun _ => ⟨rfl, rfl⟩) (fun z30 => [vv thing1, vv v16, vv shape28, vv part29]) (fun _ => rfl) fun z30 => (z_fzR [vv thing1, vv v16, vv shape28, vv part29] rfl (z_lcV Sub.rfl')))))))))))))))) [vv thing1, vv v16, nn, nn] rfl fun l27 => (z_aNil (z_finLV rfl fun v31 => (z_end rfl Sub.rfl'))))))))))))))))))))))) (fun _ => (z_end rfl Sub.rfl'))) fun x22 => (z_mvR [vv thing1, vv v16, nn, nn] rfl (z_fret rfl Sub.rfl' rfl)))))))))))))))))))))))))))))))))))))))))))))
def p__law_same : Nat → D → D → Res (D)
  | 0, _, _ => .bad
  | n + 1, got1, due2 => ((ofV (isiN ["list", "tuple"] due2)).bind fun v3 => ((tstR v3).bind fun k4 => (if k4 = true then ((ofV (isi1 "list" got1)).bind fun v5 => ((ofV (isi1 "list" due2)).bind fun v6 => ((ofB (neD v5 v6)).bind fun k7 => ((if k7 = true then (.ok true) else ((ofV (isi1 "tuple" got1)).bind fun v9 => ((ofV (isi1 "tuple" due2)).bind fun v10 => ((ofB (neD v9 v10)).bind fun k11 => (.ok k11)))) : Res (Bool)).bind fun x8 => (if x8 = true then (.ok (.bl false)) else ((ofV (lenD [got1])).bind fun v12 => ((ofV (lenD [due2])).bind fun v13 => ((ofV (eqD v12 v13)).bind fun v14 => ((asB v14).bind fun k15 => ((if k15 = true then ((zipR got1 due2).bind fun ds17 => ((lcP (fun d18 => ((un2 d18).bind2 fun mine20 its21 => ((p__law_same n mine20 its21).bind fun z22 => (.ok (some z22))))) ds17).bind fun l19 => ((ofV (allD [(.lst l19)])).bind fun v23 => (.ok v23)))) else (.ok (.bl false)) : Res (D)).bind fun x16 => (.ok x16))))))))))) else ((ofV (isi1 "dict" due2)).bind fun v24 => ((tstR v24).bind fun k25 => (if k25 = true then ((ofV (isi1 "dict" got1)).bind fun v26 => ((tstR v26).bind fun k27 => ((if (!k27) = true then (.ok true) else ((ofL (sortedD [got1])).bind fun l29 => ((ofL (sortedD [due2])).bind fun l30 => ((ofB (neD (.lst l29) (.lst l30))).bind fun k31 => (.ok k31)))) : Res (Bool)).bind fun x28 => (if x28 = true then (.ok (.bl false)) else ((items due2).bind fun ds32 => ((lcP (fun d33 => ((ofV (ixD got1 d33)).bind fun v35 => ((ofV (ixD due2 d33)).bind fun v36 => ((p__law_same n v35 v36).bind fun z37 => (.ok (some z37)))))) ds32).bind fun l34 => ((ofV (allD [(.lst l34)])).bind fun v38 => (.ok v38)))))))) else ((ofB ((isND false) due2 .non)).bind fun k39 => ((if k39 = true then (.ok true) else ((ofV (isiN ["bool", "str"] due2)).bind fun v41 => ((tstR v41).bind fun k42 => (.ok k42))) : Res (Bool)).bind fun x40 => (if x40 = true then ((ofV (eqD got1 due2)).bind fun v43 => ((asB v43).bind fun k44 => ((if k44 = true then ((ofV (isi1 "bool" got1)).bind fun v46 => ((ofV (isi1 "bool" due2)).bind fun v47 => ((ofV (eqD v46 v47)).bind fun v48 => ((asB v48).bind fun k49 => ((if k49 = true then ((ofV ((isND false) got1 .non)).bind fun v51 => ((ofV ((isND false) due2 .non)).bind fun v52 => ((ofV (eqD v51 v52)).bind fun v53 => (.ok v53)))) else (.ok (.bl false)) : Res (D)).bind fun x50 => (.ok x50)))))) else (.ok (.bl false)) : Res (D)).bind fun x45 => (.ok x45)))) else ((ofV (isi1 "int" got1)).bind fun v54 => ((asB v54).bind fun k55 => ((if k55 = true then ((ofV (isi1 "bool" got1)).bind fun v57 => ((ofV (notD v57)).bind fun v58 => ((asB v58).bind fun k59 => ((if k59 = true then ((ofV (eqD got1 due2)).bind fun v61 => (.ok v61)) else (.ok (.bl false)) : Res (D)).bind fun x60 => (.ok x60))))) else (.ok (.bl false)) : Res (D)).bind fun x56 => (.ok x56)))))))))))))
theorem t__law_same_vv : ∀ (n : Nat) (got1 : D) (due2 : D), FnR (X := D) (f__law_same n) [.val got1, .val due2] (p__law_same n got1 due2) ((fun x : D => ((.val x : RV), [nn, nn])))
  | 0, _, _ => trivial
  | n + 1, got1, due2 => by
    refine z_fn (X := D) (A := (fun x : D => ((.val x : RV), [nn, nn]))) (k := 3) (body := b__law_same (f__law_same n)) (ss := [.val got1, .val due2]) (r := p__law_same (n + 1) got1 due2) [vv got1, vv due2, nn, nn, nn] rfl 2 rfl ?_ (fun _ => rfl)
    unfold p__law_same
    exact (z_last (z_sq (z_if (z_tst (z_op1 (z_ref rfl (z_fin1V rfl fun v3 => (z_tstK rfl fun k4 => (z_ite (fun _ => (z_sq (z_if (z_bOr (z_cmp (z_op1 (z_ref rfl (z_fin1V rfl fun v5 => (z_op1 (z_ref rfl (z_fin1V rfl fun v6 => (z_cmpK rfl rfl fun k7 => (z_bnd (A := fun (x8 : Bool) => x8) (E := fun (x8 : Bool) => [vv got1, vv due2, nn, nn, nn]) (z_ite (fun _ => (z_end rfl Sub.rfl')) (fun _ => (z_endB (z_cmp (z_op1 (z_ref rfl (z_fin1V rfl fun v9 => (z_op1 (z_ref rfl (z_fin1V rfl fun v10 => (z_cmpK rfl rfl fun k11 => (z_end rfl Sub.rfl')))))))))))) fun x8 => (z_ite (fun _ => (z_ret (z_con (z_fret rfl Sub.rfl' rfl)))) (fun _ => (z_nop (z_ret (z_mv (z_eAnd (z_op2 (z_callB (z_aCons (z_ref rfl (z_aNil (z_finLV rfl fun v12 => (z_callB (z_aCons (z_ref rfl (z_aNil (z_finLV rfl fun v13 => (z_fin2V rfl rfl fun v14 => (z_asBK rfl fun k15 => (z_bnd (A := fun (x16 : D) => .val x16) (E := fun (x16 : D) => [vv got1, vv due2, nn, nn, nn]) (z_ite (fun _ => (z_endB (z_callB (z_aCons (z_lc (z_zip (z_fz (z_ref rfl (z_fzR [vv got1, vv due2, nn, nn, nn] rfl (z_fz (z_ref rfl (z_fzR [vv got1, vv due2, nn, nn, nn] rfl (z_zipK fun ds17 => (z_lcD (W := [vv got1, vv due2, nn, nn, nn]) rfl Sub.rfl' (fun d18 => (z_tg2 fun mine20 its21 => (z_tgN [vv got1, vv due2, nn, vv mine20, nn] rfl rfl (z_tgN [vv got1, vv due2, nn, vv mine20, vv its21] rfl rfl (z_yes (z_yes1 (z_fz (z_callF (z_aCons (z_ref rfl (z_aCons (z_ref rfl (z_aNil (z_call (Z := D) (A := (fun x : D => ((.val x : RV), [nn, nn]))) (t__law_same_vv n mine20 its21) rfl rfl rfl (fun _ => rfl) (fun _ => ⟨rfl, rfl⟩) (fun z22 => [vv got1, vv due2, nn, vv mine20, vv its21]) (fun _ => rfl) fun z22 => (z_fzR [vv got1, vv due2, nn, vv mine20, vv its21] rfl (z_lcV Sub.rfl')))))))))))))))) [vv got1, vv due2, nn, nn, nn] rfl fun l19 => (z_aNil (z_finLV rfl fun v23 => (z_end rfl Sub.rfl'))))))))))))))))) (fun _ => (z_end rfl Sub.rfl'))) fun x16 => (z_mvR [vv got1, vv due2, nn, nn, nn] rfl (z_fret rfl Sub.rfl' rfl))))))))))))))))))))))))))))))))))) (fun _ => (z_nop (z_sq (z_if (z_tst (z_op1 (z_ref rfl (z_fin1V rfl fun v24 => (z_tstK rfl fun k25 => (z_ite (fun _ => (z_sq (z_if (z_bOr (z_bNot (z_tst (z_op1 (z_ref rfl (z_fin1V rfl fun v26 => (z_tstK rfl fun k27 => (z_bnd (A := fun (x28 : Bool) => x28) (E := fun (x28 : Bool) => [vv got1, vv due2, nn, nn, nn]) (z_ite (fun _ => (z_end rfl Sub.rfl')) (fun _ => (z_endB (z_cmp (z_callB (z_aCons (z_ref rfl (z_aNil (z_finLL rfl fun l29 => (z_callB (z_aCons (z_ref rfl (z_aNil (z_finLL rfl fun l30 => (z_cmpK rfl rfl fun k31 => (z_end rfl Sub.rfl')))))))))))))))) fun x28 => (z_ite (fun _ => (z_ret (z_con (z_fret rfl Sub.rfl' rfl)))) (fun _ => (z_nop (z_ret (z_callB (z_aCons (z_lc (z_it (z_ref rfl (z_itV fun ds32 => (z_lcD (W := [vv got1, vv due2, nn, nn, nn]) rfl Sub.rfl' (fun d33 => (z_tgN [vv got1, vv due2, vv d33, nn, nn] rfl rfl (z_yes (z_yes1 (z_fz (z_callF (z_aCons (z_op2 (z_ref rfl (z_ref rfl (z_fin2V rfl rfl fun v35 => (z_aCons (z_op2 (z_ref rfl (z_ref rfl (z_fin2V rfl rfl fun v36 => (z_aNil (z_call (Z := D) (A := (fun x : D => ((.val x : RV), [nn, nn]))) (t__law_same_vv n v35 v36) rfl rfl rfl (fun _ => rfl) (fun _ => ⟨rfl, rfl⟩) (fun z37 => [vv got1, vv due2, vv d33, nn, nn]) (fun _ => rfl) fun z37 => (z_fzR [vv got1, vv due2, vv d33, nn, nn] rfl (z_lcV Sub.rfl')))))))))))))))))))) [vv got1, vv due2, nn, nn, nn] rfl fun l34 => (z_aNil (z_finLV rfl fun v38 => (z_fret rfl Sub.rfl' rfl))))))))))))))))))))))))) (fun _ => (z_nop (z_sq (z_if (z_bOr (z_cmp (z_ref rfl (z_con (z_cmpK rfl rfl fun k39 => (z_bnd (A := fun (x40 : Bool) => x40) (E := fun (x40 : Bool) => [vv got1, vv due2, nn, nn, nn]) (z_ite (fun _ => (z_end rfl Sub.rfl')) (fun _ => (z_endB (z_tst (z_op1 (z_ref rfl (z_fin1V rfl fun v41 => (z_tstK rfl fun k42 => (z_end rfl Sub.rfl'))))))))) fun x40 => (z_ite (fun _ => (z_ret (z_mv (z_eAnd (z_op2 (z_ref rfl (z_ref rfl (z_fin2V rfl rfl fun v43 => (z_asBK rfl fun k44 => (z_bnd (A := fun (x45 : D) => .val x45) (E := fun (x45 : D) => [vv got1, vv due2, nn, nn, nn]) (z_ite (fun _ => (z_endB (z_eAnd (z_op2 (z_op1 (z_ref rfl (z_fin1V rfl fun v46 => (z_op1 (z_ref rfl (z_fin1V rfl fun v47 => (z_fin2V rfl rfl fun v48 => (z_asBK rfl fun k49 => (z_bnd (A := fun (x50 : D) => .val x50) (E := fun (x50 : D) => [vv got1, vv due2, nn, nn, nn]) (z_ite (fun _ => (z_endB (z_op2 (z_op2 (z_ref rfl (z_con (z_fin2V rfl rfl fun v51 => (z_op2 (z_ref rfl (z_con (z_fin2V rfl rfl fun v52 => (z_fin2V rfl rfl fun v53 => (z_end rfl Sub.rfl'))))))))))))) (fun _ => (z_end rfl Sub.rfl'))) fun x50 => (z_end rfl Sub.rfl')))))))))))))) (fun _ => (z_end rfl Sub.rfl'))) fun x45 => (z_mvR [vv got1, vv due2, nn, nn, nn] rfl (z_fret rfl Sub.rfl' rfl)))))))))))) (fun _ => (z_nop (z_ret (z_mv (z_eAnd (z_op1 (z_ref rfl (z_fin1V rfl fun v54 => (z_asBK rfl fun k55 => (z_bnd (A := fun (x56 : D) => .val x56) (E := fun (x56 : D) => [vv got1, vv due2, nn, nn, nn]) (z_ite (fun _ => (z_endB (z_eAnd (z_op1 (z_op1 (z_ref rfl (z_fin1V rfl fun v57 => (z_fin1V rfl fun v58 => (z_asBK rfl fun k59 => (z_bnd (A := fun (x60 : D) => .val x60) (E := fun (x60 : D) => [vv got1, vv due2, nn, nn, nn]) (z_ite (fun _ => (z_endB (z_op2 (z_ref rfl (z_ref rfl (z_fin2V rfl rfl fun v61 => (z_end rfl Sub.rfl'))))))) (fun _ => (z_end rfl Sub.rfl'))) fun x60 => (z_end rfl Sub.rfl'))))))))))) (fun _ => (z_end rfl Sub.rfl'))) fun x56 => (z_mvR [vv got1, vv due2, nn, nn, nn] rfl (z_fret rfl Sub.rfl' rfl))))))))))))))))))))))))))))))))))))))))))
def p__law_by_hand_right : Res D := .ok (.bl true)
theorem h__law_by_hand_right : f__law_by_hand_right [] = .ok (.val (.bl true)) [] := okT_eq (by decide +kernel)
theorem t__law_by_hand_right_ : FnR (X := D) f__law_by_hand_right [] p__law_by_hand_right (fun x : D => ((.val x : RV), [])) := show FnR (X := D) f__law_by_hand_right [] (.ok (.bl true)) (fun x : D => ((.val x : RV), [])) from ⟨[], h__law_by_hand_right, .nil⟩
def p__law_take (box1 : List D) (top2 : D) : Res (D × List D) := ((ofV (ixD (.lst box1) (.int 0))).bind fun v3 => ((ofB (gtD v3 (.int 0))).bind fun k4 => (if k4 = true then ((ofV (ixD (.lst box1) (.int 0))).bind fun v5 => ((ofV (intD [v5])).bind fun v6 => ((ofV (modD v6 top2)).bind fun v7 => ((ofV (ixD (.lst box1) (.int 0))).bind fun v8 => ((ofV (fdivD v8 top2)).bind fun v9 => ((noX (.ok (.int 0))).bind fun i10 => (putL box1 i10 v9).bind fun box11 => (.ok (v7, box11)))))))) else ((ofV (ixD (.lst box1) (.int 2))).bind fun v12 => ((ofV (addD v12 (.int 1))).bind fun v13 => ((noX (.ok (.int 2))).bind fun i14 => (putL box1 i14 v13).bind fun box15 => ((ofV (ixD (.lst box15) (.int 1))).bind fun v16 => ((ofV (ixD (.lst box15) (.int 2))).bind fun v17 => ((ofV (mulD (.int 48271) v17)).bind fun v18 => ((ofV (addD v16 v18)).bind fun v19 => ((ofV (ixD (.lst box15) (.int 2))).bind fun v20 => ((ofV (addD (.int 39373) v20)).bind fun v21 => ((ofV (mulD v19 v21)).bind fun v22 => ((ofV (intD [v22])).bind fun v23 => ((ofV (modD v23 (.int 2147483647))).bind fun v24 => ((ofV (intD [v24])).bind fun v25 => ((ofV (modD v25 (.int 40009))).bind fun v26 => ((ofV (addD v26 (.int 7))).bind fun v27 => ((ofV (ixD (.lst box15) (.int 2))).bind fun v28 => ((ofV (addD v24 v28)).bind fun v29 => ((ofV (ixD (.lst box15) (.int 1))).bind fun v30 => ((ofV (fdivD v30 (.int 1000003))).bind fun v31 => ((ofV (addD v29 v31)).bind fun v32 => ((ofV (mulD v32 v27)).bind fun v33 => ((ofV (intD [v33])).bind fun v34 => ((ofV (modD v34 (.int 2147483629))).bind fun v35 => ((ofV (mulD v35 (.int 48271))).bind fun v36 => ((ofV (addD v36 v24)).bind fun v37 => ((ofV (intD [v37])).bind fun v38 => ((ofV (modD v38 (.int 2147483587))).bind fun v39 => ((ofV (fdivD v39 (.int 64))).bind fun v40 => ((ofV (intD [v40])).bind fun v41 => ((ofV (modD v41 top2)).bind fun v42 => (.ok (v42, box15)))))))))))))))))))))))))))))))))))
theorem t__law_take_lv (box1 : List D) (top2 : D) : FnR (X := D × List D) f__law_take [.lent (.lst box1), .val top2] (p__law_take box1 top2) ((fun x : D × List D => ((.val x.1 : RV), [ll x.2, nn]))) := by
  refine z_fn (X := D × List D) (A := (fun x : D × List D => ((.val x.1 : RV), [ll x.2, nn]))) (k := 4) (body := b__law_take) (ss := [.lent (.lst box1), .val top2]) (r := p__law_take box1 top2) [ll box1, vv top2, nn, nn, nn, nn] rfl 2 rfl ?_ (fun _ => rfl)
  unfold p__law_take
  exact (z_last (z_sq (z_if (z_cmp (z_op2 (z_ref rfl (z_con (z_fin2V rfl rfl fun v3 => (z_con (z_cmpK rfl rfl fun k4 => (z_ite (fun _ => (z_sq (z_set (z_op2 (z_callB (z_aCons (z_op2 (z_ref rfl (z_con (z_fin2V rfl rfl fun v5 => (z_aNil (z_finLV rfl fun v6 => (z_ref rfl (z_fin2V rfl rfl fun v7 => (z_sto [ll box1, vv top2, nn, nn, nn, vv v7] rfl rfl (z_sq (z_asg (z_fz (z_op2 (z_op2 (z_ref rfl (z_con (z_fin2V rfl rfl fun v8 => (z_ref rfl (z_fin2V rfl rfl fun v9 => (z_fzR [ll box1, vv top2, nn, nn, nn, vv v7] rfl (z_asgK (z_tgX rfl rfl (z_endB (z_con (z_end rfl Sub.rfl'))) (fun box11 => [ll box11, vv top2, nn, nn, nn, vv v7]) (fun _ => rfl) fun box11 => (z_ret (z_mv (z_ref rfl (z_mvR [ll box11, vv top2, nn, nn, nn, vv v7] rfl (z_fret rfl Sub.rfl' rfl))))))))))))))))))))))))))))))))) (fun _ => (z_nop (z_sq (z_asg (z_fz (z_op2 (z_op2 (z_ref rfl (z_con (z_fin2V rfl rfl fun v12 => (z_con (z_fin2V rfl rfl fun v13 => (z_fzR [ll box1, vv top2, nn, nn, nn, nn] rfl (z_asgK (z_tgX rfl rfl (z_endB (z_con (z_end rfl Sub.rfl'))) (fun box15 => [ll box15, vv top2, nn, nn, nn, nn]) (fun _ => rfl) fun box15 => (z_sq (z_set (z_op2 (z_callB (z_aCons (z_op2 (z_op2 (z_op2 (z_ref rfl (z_con (z_fin2V rfl rfl fun v16 => (z_op2 (z_con (z_op2 (z_ref rfl (z_con (z_fin2V rfl rfl fun v17 => (z_fin2V rfl rfl fun v18 => (z_fin2V rfl rfl fun v19 => (z_op2 (z_con (z_op2 (z_ref rfl (z_con (z_fin2V rfl rfl fun v20 => (z_fin2V rfl rfl fun v21 => (z_fin2V rfl rfl fun v22 => (z_aNil (z_finLV rfl fun v23 => (z_con (z_fin2V rfl rfl fun v24 => (z_sto [ll box15, vv top2, vv v24, nn, nn, nn] rfl rfl (z_sq (z_set (z_op2 (z_op2 (z_callB (z_aCons (z_ref rfl (z_aNil (z_finLV rfl fun v25 => (z_con (z_fin2V rfl rfl fun v26 => (z_con (z_fin2V rfl rfl fun v27 => (z_sto [ll box15, vv top2, vv v24, vv v27, nn, nn] rfl rfl (z_sq (z_set (z_op2 (z_callB (z_aCons (z_op2 (z_op2 (z_op2 (z_ref rfl (z_op2 (z_ref rfl (z_con (z_fin2V rfl rfl fun v28 => (z_fin2V rfl rfl fun v29 => (z_op2 (z_op2 (z_ref rfl (z_con (z_fin2V rfl rfl fun v30 => (z_con (z_fin2V rfl rfl fun v31 => (z_fin2V rfl rfl fun v32 => (z_ref rfl (z_fin2V rfl rfl fun v33 => (z_aNil (z_finLV rfl fun v34 => (z_con (z_fin2V rfl rfl fun v35 => (z_sto [ll box15, vv top2, vv v24, vv v27, vv v35, nn] rfl rfl (z_ret (z_op2 (z_callB (z_aCons (z_op2 (z_op2 (z_callB (z_aCons (z_op2 (z_op2 (z_ref rfl (z_con (z_fin2V rfl rfl fun v36 => (z_ref rfl (z_fin2V rfl rfl fun v37 => (z_aNil (z_finLV rfl fun v38 => (z_con (z_fin2V rfl rfl fun v39 => (z_con (z_fin2V rfl rfl fun v40 => (z_aNil (z_finLV rfl fun v41 => (z_ref rfl (z_fin2V rfl rfl fun v42 => (z_fret rfl Sub.rfl' rfl)))))))))))))))))))))))))))))))))))))))))))))))))))))))))))))))))))))))))))))))))))))))))))))))))))))))))))))))))))))))))))))))
def p__law_of (box1 : List D) (some2 : D) : Res (D × List D) := ((ofV (lenD [some2])).bind fun v3 => ((p__law_take box1 v3).bind fun z4 => ((ofV (ixD some2 z4.1)).bind fun v5 => (.ok (v5, z4.2)))))
theorem t__law_of_lv (box1 : List D) (some2 : D) : FnR (X := D × List D) f__law_of [.lent (.lst box1), .val some2] (p__law_of box1 some2) ((fun x : D × List D => ((.val x.1 : RV), [ll x.2, nn]))) := by
  refine z_fn (X := D × List D) (A := (fun x : D × List D => ((.val x.1 : RV), [ll x.2, nn]))) (k := 0) (body := b__law_of) (ss := [.lent (.lst box1), .val some2]) (r := p__law_of box1 some2) [ll box1, vv some2] rfl 2 rfl ?_ (fun _ => rfl)
  unfold p__law_of
  exact (z_last (z_ret (z_op2 (z_ref rfl (z_callF (z_aCons (z_ref rfl (z_aCons (z_fz (z_callB (z_aCons (z_ref rfl (z_aNil (z_finLV rfl fun v3 => (z_fzR [ll box1, vv some2] rfl (z_aNil (z_call (Z := D × List D) (A := (fun x : D × List D => ((.val x.1 : RV), [ll x.2, nn]))) (t__law_take_lv box1 v3) rfl rfl rfl (fun _ => rfl) (fun _ => ⟨rfl, rfl⟩) (fun z4 => [ll z4.2, vv some2]) (fun _ => rfl) fun z4 => (z_fin2V rfl rfl fun v5 => (z_fret rfl Sub.rfl' rfl)))))))))))))))))))
def p__law_note (box1 : List D) (tags2 : D) (words3 : D) : Res (D × List D) := ((p__law_of box1 words3).bind fun z4 => ((p__law_of z4.2 tags2).bind fun z5 => ((p__law_of z5.2 tags2).bind fun z6 => ((ofB ((inD false) z4.1 (.tup [(.str "sound"), (.str "falling")]))).bind fun k7 => (if k7 = true then (.ok ((.tup [z4.1]), z6.2)) else ((ofB (eqD z4.1 (.str "kind"))).bind fun k8 => (if k8 = true then ((p__law_of z6.2 (.lst [(.str "free"), (.str "falling"), (.str "rising"), (.str "ringed")])).bind fun z9 => (.ok ((.tup [z4.1, z5.1, z9.1]), z9.2))) else ((ofB (eqD z4.1 (.str "late"))).bind fun k10 => (if k10 = true then ((p__law_take z6.2 (.int 4)).bind fun z11 => (.ok ((.tup [z4.1, z5.1, z11.1]), z11.2))) else ((ofB (eqD z4.1 (.str "leans"))).bind fun k12 => (if k12 = true then ((p__law_take z6.2 (.int 9)).bind fun z13 => ((ofV (subD z13.1 (.int 4))).bind fun v14 => (.ok ((.tup [z4.1, z5.1, z6.1, v14]), z13.2)))) else ((ofB (eqD z4.1 (.str "apart"))).bind fun k15 => (if k15 = true then (.ok ((.tup [z4.1, z5.1, z6.1]), z6.2)) else ((ofB (eqD z4.1 (.str "window"))).bind fun k16 => ((if k16 = true then (.ok (.int 7)) else (.ok (.int 4)) : Res (D)).bind fun x17 => ((p__law_take z6.2 x17).bind fun z18 => (.ok ((.tup [z4.1, z18.1]), z18.2))))))))))))))))))
theorem t__law_note_lvv (box1 : List D) (tags2 : D) (words3 : D) : FnR (X := D × List D) f__law_note [.lent (.lst box1), .val tags2, .val words3] (p__law_note box1 tags2 words3) ((fun x : D × List D => ((.val x.1 : RV), [ll x.2, nn, nn]))) := by
  refine z_fn (X := D × List D) (A := (fun x : D × List D => ((.val x.1 : RV), [ll x.2, nn, nn]))) (k := 3) (body := b__law_note) (ss := [.lent (.lst box1), .val tags2, .val words3]) (r := p__law_note box1 tags2 words3) [ll box1, vv tags2, vv words3, nn, nn, nn] rfl 3 rfl ?_ (fun _ => rfl)
  unfold p__law_note
  exact (z_last (z_sq (z_set (z_callF (z_aCons (z_ref rfl (z_aCons (z_ref rfl (z_aNil (z_call (Z := D × List D) (A := (fun x : D × List D => ((.val x.1 : RV), [ll x.2, nn]))) (t__law_of_lv box1 words3) rfl rfl rfl (fun _ => rfl) (fun _ => ⟨rfl, rfl⟩) (fun z4 => [ll z4.2, vv tags2, vv words3, nn, nn, nn]) (fun _ => rfl) fun z4 => (z_sto [ll z4.2, vv tags2, vv words3, vv z4.1, nn, nn] rfl rfl (z_sq (z_par (z_aCons (z_callF (z_aCons (z_ref rfl (z_aCons (z_ref rfl (z_aNil (z_call (Z := D × List D) (A := (fun x : D × List D => ((.val x.1 : RV), [ll x.2, nn]))) (t__law_of_lv z4.2 tags2) rfl rfl rfl (fun _ => rfl) (fun _ => ⟨rfl, rfl⟩) (fun z5 => [ll z5.2, vv tags2, vv words3, vv z4.1, nn, nn]) (fun _ => rfl) fun z5 => (z_aCons (z_callF (z_aCons (z_ref rfl (z_aCons (z_ref rfl (z_aNil (z_call (Z := D × List D) (A := (fun x : D × List D => ((.val x.1 : RV), [ll x.2, nn]))) (t__law_of_lv z5.2 tags2) rfl rfl rfl (fun _ => rfl) (fun _ => ⟨rfl, rfl⟩) (fun z6 => [ll z6.2, vv tags2, vv words3, vv z4.1, nn, nn]) (fun _ => rfl) fun z6 => (z_aNil (z_parK [ll z6.2, vv tags2, vv words3, vv z4.1, vv z5.1, nn] [ll z6.2, vv tags2, vv words3, vv z4.1, vv z5.1, vv z6.1] rfl rfl rfl rfl (z_sq (z_if (z_cmp (z_ref rfl (z_tup (z_aCons (z_con (z_aCons (z_con (z_aNil (z_tupK rfl rfl (z_cmpK rfl rfl fun k7 => (z_ite (fun _ => (z_ret (z_tup (z_aCons (z_fz (z_ref rfl (z_fzR [ll z6.2, vv tags2, vv words3, vv z4.1, vv z5.1, vv z6.1] rfl (z_aNil (z_tupK rfl rfl (z_fret rfl Sub.rfl' rfl)))))))))) (fun _ => (z_nop (z_sq (z_if (z_cmp (z_ref rfl (z_con (z_cmpK rfl rfl fun k8 => (z_ite (fun _ => (z_ret (z_tup (z_aCons (z_fz (z_ref rfl (z_fzR [ll z6.2, vv tags2, vv words3, vv z4.1, vv z5.1, vv z6.1] rfl (z_aCons (z_fz (z_ref rfl (z_fzR [ll z6.2, vv tags2, vv words3, vv z4.1, vv z5.1, vv z6.1] rfl (z_aCons (z_fz (z_callF (z_aCons (z_ref rfl (z_aCons (z_fz (z_lst (z_aCons (z_con (z_aCons (z_con (z_aCons (z_con (z_aCons (z_con (z_aNil (z_lstK rfl rfl (z_fzR [ll z6.2, vv tags2, vv words3, vv z4.1, vv z5.1, vv z6.1] rfl (z_aNil (z_call (Z := D × List D) (A := (fun x : D × List D => ((.val x.1 : RV), [ll x.2, nn]))) (t__law_of_lv z6.2 (.lst [(.str "free"), (.str "falling"), (.str "rising"), (.str "ringed")])) rfl rfl rfl (fun _ => rfl) (fun _ => ⟨rfl, rfl⟩) (fun z9 => [ll z9.2, vv tags2, vv words3, vv z4.1, vv z5.1, vv z6.1]) (fun _ => rfl) fun z9 => (z_fzR [ll z9.2, vv tags2, vv words3, vv z4.1, vv z5.1, vv z6.1] rfl (z_aNil (z_tupK rfl rfl (z_fret rfl Sub.rfl' rfl)))))))))))))))))))))))))))))))))))) (fun _ => (z_nop (z_sq (z_if (z_cmp (z_ref rfl (z_con (z_cmpK rfl rfl fun k10 => (z_ite (fun _ => (z_ret (z_tup (z_aCons (z_fz (z_ref rfl (z_fzR [ll z6.2, vv tags2, vv words3, vv z4.1, vv z5.1, vv z6.1] rfl (z_aCons (z_fz (z_ref rfl (z_fzR [ll z6.2, vv tags2, vv words3, vv z4.1, vv z5.1, vv z6.1] rfl (z_aCons (z_fz (z_callF (z_aCons (z_ref rfl (z_aCons (z_con (z_aNil (z_call (Z := D × List D) (A := (fun x : D × List D => ((.val x.1 : RV), [ll x.2, nn]))) (t__law_take_lv z6.2 (.int 4)) rfl rfl rfl (fun _ => rfl) (fun _ => ⟨rfl, rfl⟩) (fun z11 => [ll z11.2, vv tags2, vv words3, vv z4.1, vv z5.1, vv z6.1]) (fun _ => rfl) fun z11 => (z_fzR [ll z11.2, vv tags2, vv words3, vv z4.1, vv z5.1, vv z6.1] rfl (z_aNil (z_tupK rfl rfl (z_fret rfl Sub.rfl' rfl)))))))))))))))))))))))) (fun _ => (z_nop (z_sq (z_if (z_cmp (z_ref rfl (z_con (z_cmpK rfl rfl fun k12 => (z_ite (fun _ => (z_ret (z_tup (z_aCons (z_fz (z_ref rfl (z_fzR [ll z6.2, vv tags2, vv words3, vv z4.1, vv z5.1, vv z6.1] rfl (z_aCons (z_fz (z_ref rfl (z_fzR [ll z6.2, vv tags2, vv words3, vv z4.1, vv z5.1, vv z6.1] rfl (z_aCons (z_fz (z_ref rfl (z_fzR [ll z6.2, vv tags2, vv words3, vv z4.1, vv z5.1, vv z6.1] rfl (z_aCons (z_fz (z_op2 (z_callF (z_aCons (z_ref rfl (z_aCons (z_con (z_aNil (z_call (Z := D × List D) (A := (fun x : D × List D => ((.val x.1 : RV), [ll x.2, nn]))) (t__law_take_lv z6.2 (.int 9)) rfl rfl rfl (fun _ => rfl) (fun _ => ⟨rfl, rfl⟩) (fun z13 => [ll z13.2, vv tags2, vv words3, vv z4.1, vv z5.1, vv z6.1]) (fun _ => rfl) fun z13 => (z_con (z_fin2V rfl rfl fun v14 => (z_fzR [ll z13.2, vv tags2, vv words3, vv z4.1, vv z5.1, vv z6.1] rfl (z_aNil (z_tupK rfl rfl (z_fret rfl Sub.rfl' rfl))))))))))))))))))))))))))))))) (fun _ => (z_nop (z_sq (z_if (z_cmp (z_ref rfl (z_con (z_cmpK rfl rfl fun k15 => (z_ite (fun _ => (z_ret (z_tup (z_aCons (z_fz (z_ref rfl (z_fzR [ll z6.2, vv tags2, vv words3, vv z4.1, vv z5.1, vv z6.1] rfl (z_aCons (z_fz (z_ref rfl (z_fzR [ll z6.2, vv tags2, vv words3, vv z4.1, vv z5.1, vv z6.1] rfl (z_aCons (z_fz (z_ref rfl (z_fzR [ll z6.2, vv tags2, vv words3, vv z4.1, vv z5.1, vv z6.1] rfl (z_aNil (z_tupK rfl rfl (z_fret rfl Sub.rfl' rfl)))))))))))))))))) (fun _ => (z_nop (z_ret (z_tup (z_aCons (z_fz (z_ref rfl (z_fzR [ll z6.2, vv tags2, vv words3, vv z4.1, vv z5.1, vv z6.1] rfl (z_aCons (z_fz (z_callF (z_aCons (z_ref rfl (z_aCons (z_eIf (z_cmp (z_ref rfl (z_con (z_cmpK rfl rfl fun k16 => (z_bnd (A := fun (x17 : D) => .val x17) (E := fun (x17 : D) => [ll z6.2, vv tags2, vv words3, vv z4.1, vv z5.1, vv z6.1]) (z_ite (fun _ => (z_endB (z_con (z_end rfl Sub.rfl')))) (fun _ => (z_endB (z_con (z_end rfl Sub.rfl'))))) fun x17 => (z_aNil (z_call (Z := D × List D) (A := (fun x : D × List D => ((.val x.1 : RV), [ll x.2, nn]))) (t__law_take_lv z6.2 x17) rfl rfl rfl (fun _ => rfl) (fun _ => ⟨rfl, rfl⟩) (fun z18 => [ll z18.2, vv tags2, vv words3, vv z4.1, vv z5.1, vv z6.1]) (fun _ => rfl) fun z18 => (z_fzR [ll z18.2, vv tags2, vv words3, vv z4.1, vv z5.1, vv z6.1] rfl (z_aNil (z_tupK rfl rfl (z_fret rfl Sub.rfl' rfl))))))))))))))))))))))))))))))))))))))))))))))))))))))))))))))))))))))))))))))))))))))))))))))))))))))))))
def p__law_is_name (matter1 : D) : Res (D) := ((ofV (isi1 "str" matter1)).bind fun v2 => ((asB v2).bind fun k3 => ((if k3 = true then ((ofV (lenD [matter1])).bind fun v5 => ((ofB (leD (.int 1) v5)).bind fun k6 => ((if k6 = true then ((ofV (leD v5 (.int 8))).bind fun v8 => (.ok v8)) else (.ok (.bl false)) : Res (D)).bind fun x7 => ((asB x7).bind fun k9 => ((if k9 = true then ((items matter1).bind fun ds11 => ((lcP (fun d12 => ((ofB ((inD true) d12 (.str "abcdefghijklmnopqrstuvwxyz"))).bind fun k14 => (if k14 = true then (.ok (some d12)) else (.ok none)))) ds11).bind fun l13 => ((ofV (eqD (.lst l13) (.lst []))).bind fun v15 => (.ok v15)))) else (.ok (.bl false)) : Res (D)).bind fun x10 => (.ok x10)))))) else (.ok (.bl false)) : Res (D)).bind fun x4 => (.ok x4))))
theorem t__law_is_name_v (matter1 : D) : FnR (X := D) f__law_is_name [.val matter1] (p__law_is_name matter1) ((fun x : D => ((.val x : RV), [nn]))) := by
  refine z_fn (X := D) (A := (fun x : D => ((.val x : RV), [nn]))) (k := 2) (body := b__law_is_name) (ss := [.val matter1]) (r := p__law_is_name matter1) [vv matter1, nn, nn] rfl 1 rfl ?_ (fun _ => rfl)
  unfold p__law_is_name
  exact (z_last (z_sq (z_set (z_con (z_sto [vv matter1, vv (.str "abcdefghijklmnopqrstuvwxyz"), nn] rfl rfl (z_ret (z_mv (z_eAnd (z_op1 (z_ref rfl (z_fin1V rfl fun v2 => (z_asBK rfl fun k3 => (z_bnd (A := fun (x4 : D) => .val x4) (E := fun (x4 : D) => [vv matter1, vv (.str "abcdefghijklmnopqrstuvwxyz"), nn]) (z_ite (fun _ => (z_endB (z_eAnd (z_chE (z_con (z_callB (z_aCons (z_ref rfl (z_aNil (z_finLV rfl fun v5 => (z_chK rfl rfl fun k6 => (z_bnd (A := fun (x7 : D) => .val x7) (E := fun (x7 : D) => [vv matter1, vv (.str "abcdefghijklmnopqrstuvwxyz"), nn]) (z_ite (fun _ => (z_endB (z_ch3 (z_con (z_fin2V rfl rfl fun v8 => (z_end rfl Sub.rfl')))))) (fun _ => (z_end rfl Sub.rfl'))) fun x7 => (z_asBK rfl fun k9 => (z_bnd (A := fun (x10 : D) => .val x10) (E := fun (x10 : D) => [vv matter1, vv (.str "abcdefghijklmnopqrstuvwxyz"), nn]) (z_ite (fun _ => (z_endB (z_op2 (z_lc (z_it (z_ref rfl (z_itV fun ds11 => (z_lcD (W := [vv matter1, vv (.str "abcdefghijklmnopqrstuvwxyz"), nn]) rfl Sub.rfl' (fun d12 => (z_tgN [vv matter1, vv (.str "abcdefghijklmnopqrstuvwxyz"), vv d12] rfl rfl (z_cmp (z_ref rfl (z_ref rfl (z_cmpK rfl rfl fun k14 => (z_ite (fun _ => (z_fz (z_ref rfl (z_fzR [vv matter1, vv (.str "abcdefghijklmnopqrstuvwxyz"), vv d12] rfl (z_lcV Sub.rfl'))))) (fun _ => (z_lcN Sub.rfl'))))))))) [vv matter1, vv (.str "abcdefghijklmnopqrstuvwxyz"), nn] rfl fun l13 => (z_lst (z_aNil (z_lstK rfl rfl (z_fin2V rfl rfl fun v15 => (z_end rfl Sub.rfl'))))))))))))) (fun _ => (z_end rfl Sub.rfl'))) fun x10 => (z_end rfl Sub.rfl'))))))))))))))) (fun _ => (z_end rfl Sub.rfl'))) fun x4 => (z_mvR [vv matter1, vv (.str "abcdefghijklmnopqrstuvwxyz"), nn] rfl (z_fret rfl Sub.rfl' rfl)))))))))))))))
def p__law_is_count (matter1 : D) (low2 : D) : Res (D) := ((ofV (isi1 "int" matter1)).bind fun v3 => ((asB v3).bind fun k4 => ((if k4 = true then ((ofV (isi1 "bool" matter1)).bind fun v6 => ((ofV (notD v6)).bind fun v7 => ((asB v7).bind fun k8 => ((if k8 = true then ((ofV ((isND false) low2 .non)).bind fun v10 => ((asB v10).bind fun k11 => ((if k11 = true then (.ok (.bl true)) else ((ofV (geD matter1 low2)).bind fun v13 => (.ok v13)) : Res (D)).bind fun x12 => (.ok x12)))) else (.ok (.bl false)) : Res (D)).bind fun x9 => (.ok x9))))) else (.ok (.bl false)) : Res (D)).bind fun x5 => (.ok x5))))
theorem t__law_is_count_vv (matter1 : D) (low2 : D) : FnR (X := D) f__law_is_count [.val matter1, .val low2] (p__law_is_count matter1 low2) ((fun x : D => ((.val x : RV), [nn, nn]))) := by
  refine z_fn (X := D) (A := (fun x : D => ((.val x : RV), [nn, nn]))) (k := 0) (body := b__law_is_count) (ss := [.val matter1, .val low2]) (r := p__law_is_count matter1 low2) [vv matter1, vv low2] rfl 2 rfl ?_ (fun _ => rfl)
  unfold p__law_is_count
  exact (z_last (z_ret (z_mv (z_eAnd (z_op1 (z_ref rfl (z_fin1V rfl fun v3 => (z_asBK rfl fun k4 => (z_bnd (A := fun (x5 : D) => .val x5) (E := fun (x5 : D) => [vv matter1, vv low2]) (z_ite (fun _ => (z_endB (z_eAnd (z_op1 (z_op1 (z_ref rfl (z_fin1V rfl fun v6 => (z_fin1V rfl fun v7 => (z_asBK rfl fun k8 => (z_bnd (A := fun (x9 : D) => .val x9) (E := fun (x9 : D) => [vv matter1, vv low2]) (z_ite (fun _ => (z_endB (z_eOr (z_op2 (z_ref rfl (z_con (z_fin2V rfl rfl fun v10 => (z_asBK rfl fun k11 => (z_bnd (A := fun (x12 : D) => .val x12) (E := fun (x12 : D) => [vv matter1, vv low2]) (z_ite (fun _ => (z_end rfl Sub.rfl')) (fun _ => (z_endB (z_op2 (z_ref rfl (z_ref rfl (z_fin2V rfl rfl fun v13 => (z_end rfl Sub.rfl')))))))) fun x12 => (z_end rfl Sub.rfl')))))))))) (fun _ => (z_end rfl Sub.rfl'))) fun x9 => (z_end rfl Sub.rfl'))))))))))) (fun _ => (z_end rfl Sub.rfl'))) fun x5 => (z_mvR [vv matter1, vv low2] rfl (z_fret rfl Sub.rfl' rfl)))))))))))
def p__law_fits (matter1 : D) : Res (D) := ((ofV (isi1 "tuple" matter1)).bind fun v2 => ((tstR v2).bind fun k3 => ((if (!k3) = true then (.ok true) else ((ofB (eqD matter1 (.tup []))).bind fun k5 => ((if k5 = true then (.ok true) else ((ofV (ixD matter1 (.int 0))).bind fun v7 => ((ofV (isi1 "str" v7)).bind fun v8 => ((tstR v8).bind fun k9 => (.ok (!k9))))) : Res (Bool)).bind fun x6 => (.ok x6))) : Res (Bool)).bind fun x4 => (if x4 = true then (.ok (.bl false)) else ((ofV (ixD matter1 (.int 0))).bind fun v10 => ((asI (.int 1)).bind fun i11 => ((ofV (sliceD matter1 (some i11) none)).bind fun v12 => ((ofB ((inD false) v10 (.tup [(.str "sound"), (.str "falling")]))).bind fun k13 => (if k13 = true then ((ofV (eqD v12 (.tup []))).bind fun v14 => (.ok v14)) else ((ofB ((inD false) v10 (.tup [(.str "window"), (.str "passes")]))).bind fun k15 => (if k15 = true then ((ofV (lenD [v12])).bind fun v16 => ((ofV (eqD v16 (.int 1))).bind fun v17 => ((asB v17).bind fun k18 => ((if k18 = true then ((ofV (ixD v12 (.int 0))).bind fun v20 => ((p__law_is_count v20 (.int 0)).bind fun z21 => (.ok z21))) else (.ok (.bl false)) : Res (D)).bind fun x19 => (.ok x19))))) else ((ofB ((inD false) v10 (.tup [(.str "kind"), (.str "late"), (.str "apart")]))).bind fun k22 => (if k22 = true then ((ofV (lenD [v12])).bind fun v23 => ((ofB (neD v23 (.int 2))).bind fun k24 => ((if k24 = true then (.ok true) else ((ofV (ixD v12 (.int 0))).bind fun v26 => ((p__law_is_name v26).bind fun z27 => ((tstR z27).bind fun k28 => (.ok (!k28))))) : Res (Bool)).bind fun x25 => (if x25 = true then (.ok (.bl false)) else ((ofB (eqD v10 (.str "late"))).bind fun k29 => (if k29 = true then ((ofV (ixD v12 (.int 1))).bind fun v30 => ((p__law_is_count v30 (.int 0)).bind fun z31 => (.ok z31))) else ((ofB (eqD v10 (.str "apart"))).bind fun k32 => ((if k32 = true then ((ofV (ixD v12 (.int 1))).bind fun v34 => ((p__law_is_name v34).bind fun z35 => (.ok z35))) else ((ofV (ixD v12 (.int 1))).bind fun v36 => ((ofV (isi1 "str" v36)).bind fun v37 => ((asB v37).bind fun k38 => ((if k38 = true then ((ofV (ixD v12 (.int 1))).bind fun v40 => ((ofV ((inD false) v40 (.tup [(.str "free"), (.str "falling"), (.str "rising"), (.str "ringed")]))).bind fun v41 => (.ok v41))) else (.ok (.bl false)) : Res (D)).bind fun x39 => (.ok x39))))) : Res (D)).bind fun x33 => (.ok x33))))))))) else ((ofB (neD v10 (.str "leans"))).bind fun k42 => ((if k42 = true then (.ok true) else ((ofV (lenD [v12])).bind fun v44 => ((ofB (neD v44 (.int 3))).bind fun k45 => ((if k45 = true then (.ok true) else ((ofV (ixD v12 (.int 0))).bind fun v47 => ((p__law_is_name v47).bind fun z48 => ((tstR z48).bind fun k49 => ((if (!k49) = true then (.ok true) else ((ofV (ixD v12 (.int 1))).bind fun v51 => ((p__law_is_name v51).bind fun z52 => ((tstR z52).bind fun k53 => (.ok (!k53))))) : Res (Bool)).bind fun x50 => (.ok x50))))) : Res (Bool)).bind fun x46 => (.ok x46)))) : Res (Bool)).bind fun x43 => (if x43 = true then (.ok (.bl false)) else ((ofV (ixD v12 (.int 2))).bind fun v54 => ((p__law_is_count v54 .non).bind fun z55 => (.ok z55)))))))))))))))))))
theorem t__law_fits_v (matter1 : D) : FnR (X := D) f__law_fits [.val matter1] (p__law_fits matter1) ((fun x : D => ((.val x : RV), [nn]))) := by
  refine z_fn (X := D) (A := (fun x : D => ((.val x : RV), [nn]))) (k := 3) (body := b__law_fits) (ss := [.val matter1]) (r := p__law_fits matter1) [vv matter1, nn, nn, nn] rfl 1 rfl ?_ (fun _ => rfl)
  unfold p__law_fits
  exact (z_last (z_sq (z_if (z_bOr (z_bNot (z_tst (z_op1 (z_ref rfl (z_fin1V rfl fun v2 => (z_tstK rfl fun k3 => (z_bnd (A := fun (x4 : Bool) => x4) (E := fun (x4 : Bool) => [vv matter1, nn, nn, nn]) (z_ite (fun _ => (z_end rfl Sub.rfl')) (fun _ => (z_endB (z_bOr (z_cmp (z_ref rfl (z_tup (z_aNil (z_tupK rfl rfl (z_cmpK rfl rfl fun k5 => (z_bnd (A := fun (x6 : Bool) => x6) (E := fun (x6 : Bool) => [vv matter1, nn, nn, nn]) (z_ite (fun _ => (z_end rfl Sub.rfl')) (fun _ => (z_endB (z_bNot (z_tst (z_op1 (z_op2 (z_ref rfl (z_con (z_fin2V rfl rfl fun v7 => (z_fin1V rfl fun v8 => (z_tstK rfl fun k9 => (z_end rfl Sub.rfl'))))))))))))) fun x6 => (z_end rfl Sub.rfl')))))))))))) fun x4 => (z_ite (fun _ => (z_ret (z_con (z_fret rfl Sub.rfl' rfl)))) (fun _ => (z_nop (z_sq (z_par (z_aCons (z_op2 (z_ref rfl (z_con (z_fin2V rfl rfl fun v10 => (z_aCons (z_slc (z_ref rfl (z_slS (z_con (z_slK rfl fun i11 => (z_slN (z_fin1V rfl fun v12 => (z_aNil (z_parK [vv matter1, vv v10, nn, nn] [vv matter1, vv v10, vv v12, nn] rfl rfl rfl rfl (z_sq (z_if (z_cmp (z_ref rfl (z_tup (z_aCons (z_con (z_aCons (z_con (z_aNil (z_tupK rfl rfl (z_cmpK rfl rfl fun k13 => (z_ite (fun _ => (z_ret (z_op2 (z_ref rfl (z_tup (z_aNil (z_tupK rfl rfl (z_fin2V rfl rfl fun v14 => (z_fret rfl Sub.rfl' rfl))))))))) (fun _ => (z_nop (z_sq (z_if (z_cmp (z_ref rfl (z_tup (z_aCons (z_con (z_aCons (z_con (z_aNil (z_tupK rfl rfl (z_cmpK rfl rfl fun k15 => (z_ite (fun _ => (z_ret (z_mv (z_eAnd (z_op2 (z_callB (z_aCons (z_ref rfl (z_aNil (z_finLV rfl fun v16 => (z_con (z_fin2V rfl rfl fun v17 => (z_asBK rfl fun k18 => (z_bnd (A := fun (x19 : D) => .val x19) (E := fun (x19 : D) => [vv matter1, vv v10, vv v12, nn]) (z_ite (fun _ => (z_endB (z_callF (z_aCons (z_op2 (z_ref rfl (z_con (z_fin2V rfl rfl fun v20 => (z_aCons (z_con (z_aNil (z_call (Z := D) (A := (fun x : D => ((.val x : RV), [nn, nn]))) (t__law_is_count_vv v20 (.int 0)) rfl rfl rfl (fun _ => rfl) (fun _ => ⟨rfl, rfl⟩) (fun z21 => [vv matter1, vv v10, vv v12, nn]) (fun _ => rfl) fun z21 => (z_end rfl Sub.rfl'))))))))))))) (fun _ => (z_end rfl Sub.rfl'))) fun x19 => (z_mvR [vv matter1, vv v10, vv v12, nn] rfl (z_fret rfl Sub.rfl' rfl)))))))))))))))) (fun _ => (z_nop (z_sq (z_if (z_cmp (z_ref rfl (z_tup (z_aCons (z_con (z_aCons (z_con (z_aCons (z_con (z_aNil (z_tupK rfl rfl (z_cmpK rfl rfl fun k22 => (z_ite (fun _ => (z_sq (z_if (z_bOr (z_cmp (z_callB (z_aCons (z_ref rfl (z_aNil (z_finLV rfl fun v23 => (z_con (z_cmpK rfl rfl fun k24 => (z_bnd (A := fun (x25 : Bool) => x25) (E := fun (x25 : Bool) => [vv matter1, vv v10, vv v12, nn]) (z_ite (fun _ => (z_end rfl Sub.rfl')) (fun _ => (z_endB (z_bNot (z_tst (z_callF (z_aCons (z_op2 (z_ref rfl (z_con (z_fin2V rfl rfl fun v26 => (z_aNil (z_call (Z := D) (A := (fun x : D => ((.val x : RV), [nn]))) (t__law_is_name_v v26) rfl rfl rfl (fun _ => rfl) (fun _ => ⟨rfl, rfl⟩) (fun z27 => [vv matter1, vv v10, vv v12, nn]) (fun _ => rfl) fun z27 => (z_tstK rfl fun k28 => (z_end rfl Sub.rfl'))))))))))))))) fun x25 => (z_ite (fun _ => (z_ret (z_con (z_fret rfl Sub.rfl' rfl)))) (fun _ => (z_nop (z_sq (z_if (z_cmp (z_ref rfl (z_con (z_cmpK rfl rfl fun k29 => (z_ite (fun _ => (z_ret (z_callF (z_aCons (z_op2 (z_ref rfl (z_con (z_fin2V rfl rfl fun v30 => (z_aCons (z_con (z_aNil (z_call (Z := D) (A := (fun x : D => ((.val x : RV), [nn, nn]))) (t__law_is_count_vv v30 (.int 0)) rfl rfl rfl (fun _ => rfl) (fun _ => ⟨rfl, rfl⟩) (fun z31 => [vv matter1, vv v10, vv v12, nn]) (fun _ => rfl) fun z31 => (z_fret rfl Sub.rfl' rfl))))))))))))) (fun _ => (z_nop (z_sq (z_set (z_tup (z_aCons (z_con (z_aCons (z_con (z_aCons (z_con (z_aCons (z_con (z_aNil (z_tupK rfl rfl (z_sto [vv matter1, vv v10, vv v12, vv (.tup [(.str "free"), (.str "falling"), (.str "rising"), (.str "ringed")])] rfl rfl (z_ret (z_mv (z_eIf (z_cmp (z_ref rfl (z_con (z_cmpK rfl rfl fun k32 => (z_bnd (A := fun (x33 : D) => .val x33) (E := fun (x33 : D) => [vv matter1, vv v10, vv v12, vv (.tup [(.str "free"), (.str "falling"), (.str "rising"), (.str "ringed")])]) (z_ite (fun _ => (z_endB (z_callF (z_aCons (z_op2 (z_ref rfl (z_con (z_fin2V rfl rfl fun v34 => (z_aNil (z_call (Z := D) (A := (fun x : D => ((.val x : RV), [nn]))) (t__law_is_name_v v34) rfl rfl rfl (fun _ => rfl) (fun _ => ⟨rfl, rfl⟩) (fun z35 => [vv matter1, vv v10, vv v12, vv (.tup [(.str "free"), (.str "falling"), (.str "rising"), (.str "ringed")])]) (fun _ => rfl) fun z35 => (z_end rfl Sub.rfl'))))))))))) (fun _ => (z_endB (z_eAnd (z_op1 (z_op2 (z_ref rfl (z_con (z_fin2V rfl rfl fun v36 => (z_fin1V rfl fun v37 => (z_asBK rfl fun k38 => (z_bnd (A := fun (x39 : D) => .val x39) (E := fun (x39 : D) => [vv matter1, vv v10, vv v12, vv (.tup [(.str "free"), (.str "falling"), (.str "rising"), (.str "ringed")])]) (z_ite (fun _ => (z_endB (z_op2 (z_op2 (z_ref rfl (z_con (z_fin2V rfl rfl fun v40 => (z_ref rfl (z_fin2V rfl rfl fun v41 => (z_end rfl Sub.rfl')))))))))) (fun _ => (z_end rfl Sub.rfl'))) fun x39 => (z_end rfl Sub.rfl'))))))))))))) fun x33 => (z_mvR [vv matter1, vv v10, vv v12, vv (.tup [(.str "free"), (.str "falling"), (.str "rising"), (.str "ringed")])] rfl (z_fret rfl Sub.rfl' rfl))))))))))))))))))))))))))))))))))))))))))))))))) (fun _ => (z_nop (z_sq (z_if (z_bOr (z_cmp (z_ref rfl (z_con (z_cmpK rfl rfl fun k42 => (z_bnd (A := fun (x43 : Bool) => x43) (E := fun (x43 : Bool) => [vv matter1, vv v10, vv v12, nn]) (z_ite (fun _ => (z_end rfl Sub.rfl')) (fun _ => (z_endB (z_bOr (z_cmp (z_callB (z_aCons (z_ref rfl (z_aNil (z_finLV rfl fun v44 => (z_con (z_cmpK rfl rfl fun k45 => (z_bnd (A := fun (x46 : Bool) => x46) (E := fun (x46 : Bool) => [vv matter1, vv v10, vv v12, nn]) (z_ite (fun _ => (z_end rfl Sub.rfl')) (fun _ => (z_endB (z_bOr (z_bNot (z_tst (z_callF (z_aCons (z_op2 (z_ref rfl (z_con (z_fin2V rfl rfl fun v47 => (z_aNil (z_call (Z := D) (A := (fun x : D => ((.val x : RV), [nn]))) (t__law_is_name_v v47) rfl rfl rfl (fun _ => rfl) (fun _ => ⟨rfl, rfl⟩) (fun z48 => [vv matter1, vv v10, vv v12, nn]) (fun _ => rfl) fun z48 => (z_tstK rfl fun k49 => (z_bnd (A := fun (x50 : Bool) => x50) (E := fun (x50 : Bool) => [vv matter1, vv v10, vv v12, nn]) (z_ite (fun _ => (z_end rfl Sub.rfl')) (fun _ => (z_endB (z_bNot (z_tst (z_callF (z_aCons (z_op2 (z_ref rfl (z_con (z_fin2V rfl rfl fun v51 => (z_aNil (z_call (Z := D) (A := (fun x : D => ((.val x : RV), [nn]))) (t__law_is_name_v v51) rfl rfl rfl (fun _ => rfl) (fun _ => ⟨rfl, rfl⟩) (fun z52 => [vv matter1, vv v10, vv v12, nn]) (fun _ => rfl) fun z52 => (z_tstK rfl fun k53 => (z_end rfl Sub.rfl'))))))))))))))) fun x50 => (z_end rfl Sub.rfl'))))))))))))))))) fun x46 => (z_end rfl Sub.rfl')))))))))))))) fun x43 => (z_ite (fun _ => (z_ret (z_con (z_fret rfl Sub.rfl' rfl)))) (fun _ => (z_nop (z_ret (z_callF (z_aCons (z_op2 (z_ref rfl (z_con (z_fin2V rfl rfl fun v54 => (z_aCons (z_con (z_aNil (z_call (Z := D) (A := (fun x : D => ((.val x : RV), [nn, nn]))) (t__law_is_count_vv v54 .non) rfl rfl rfl (fun _ => rfl) (fun _ => ⟨rfl, rfl⟩) (fun z55 => [vv matter1, vv v10, vv v12, nn]) (fun _ => rfl) fun z55 => (z_fret rfl Sub.rfl' rfl)))))))))))))))))))))))))))))))))))))))))))))))))))))))))))))))))))))))))))))))))))))))))))))))))))))
theorem t__law_of_ll (box1 : List D) (some2 : List D) : FnR (X := D × List D) f__law_of [.lent (.lst box1), .lent (.lst some2)] (p__law_of box1 (.lst some2)) ((fun x : D × List D => ((.val x.1 : RV), [ll x.2, ll some2]))) := by
  refine z_fn (X := D × List D) (A := (fun x : D × List D => ((.val x.1 : RV), [ll x.2, ll some2]))) (k := 0) (body := b__law_of) (ss := [.lent (.lst box1), .lent (.lst some2)]) (r := p__law_of box1 (.lst some2)) [ll box1, ll some2] rfl 2 rfl ?_ (fun _ => rfl)
  unfold p__law_of
  exact (z_last (z_ret (z_op2 (z_ref rfl (z_callF (z_aCons (z_ref rfl (z_aCons (z_fz (z_callB (z_aCons (z_ref rfl (z_aNil (z_finLV rfl fun v3 => (z_fzR [ll box1, ll some2] rfl (z_aNil (z_call (Z := D × List D) (A := (fun x : D × List D => ((.val x.1 : RV), [ll x.2, nn]))) (t__law_take_lv box1 v3) rfl rfl rfl (fun _ => rfl) (fun _ => ⟨rfl, rfl⟩) (fun z4 => [ll z4.2, ll some2]) (fun _ => rfl) fun z4 => (z_fin2V rfl rfl fun v5 => (z_fret rfl Sub.rfl' rfl)))))))))))))))))))
theorem t__law_note_lvl (box1 : List D) (tags2 : D) (words3 : List D) : FnR (X := D × List D) f__law_note [.lent (.lst box1), .val tags2, .lent (.lst words3)] (p__law_note box1 tags2 (.lst words3)) ((fun x : D × List D => ((.val x.1 : RV), [ll x.2, nn, ll words3]))) := by
  refine z_fn (X := D × List D) (A := (fun x : D × List D => ((.val x.1 : RV), [ll x.2, nn, ll words3]))) (k := 3) (body := b__law_note) (ss := [.lent (.lst box1), .val tags2, .lent (.lst words3)]) (r := p__law_note box1 tags2 (.lst words3)) [ll box1, vv tags2, ll words3, nn, nn, nn] rfl 3 rfl ?_ (fun _ => rfl)
  unfold p__law_note
  exact (z_last (z_sq (z_set (z_callF (z_aCons (z_ref rfl (z_aCons (z_ref rfl (z_aNil (z_call (Z := D × List D) (A := (fun x : D × List D => ((.val x.1 : RV), [ll x.2, ll words3]))) (t__law_of_ll box1 words3) rfl rfl rfl (fun _ => rfl) (fun _ => ⟨rfl, rfl⟩) (fun z4 => [ll z4.2, vv tags2, ll words3, nn, nn, nn]) (fun _ => rfl) fun z4 => (z_sto [ll z4.2, vv tags2, ll words3, vv z4.1, nn, nn] rfl rfl (z_sq (z_par (z_aCons (z_callF (z_aCons (z_ref rfl (z_aCons (z_ref rfl (z_aNil (z_call (Z := D × List D) (A := (fun x : D × List D => ((.val x.1 : RV), [ll x.2, nn]))) (t__law_of_lv z4.2 tags2) rfl rfl rfl (fun _ => rfl) (fun _ => ⟨rfl, rfl⟩) (fun z5 => [ll z5.2, vv tags2, ll words3, vv z4.1, nn, nn]) (fun _ => rfl) fun z5 => (z_aCons (z_callF (z_aCons (z_ref rfl (z_aCons (z_ref rfl (z_aNil (z_call (Z := D × List D) (A := (fun x : D × List D => ((.val x.1 : RV), [ll x.2, nn]))) (t__law_of_lv z5.2 tags2) rfl rfl rfl (fun _ => rfl) (fun _ => ⟨rfl, rfl⟩) (fun z6 => [ll z6.2, vv tags2, ll words3, vv z4.1, nn, nn]) (fun _ => rfl) fun z6 => (z_aNil (z_parK [ll z6.2, vv tags2, ll words3, vv z4.1, vv z5.1, nn] [ll z6.2, vv tags2, ll words3, vv z4.1, vv z5.1, vv z6.1] rfl rfl rfl rfl (z_sq (z_if (z_cmp (z_ref rfl (z_tup (z_aCons (z_con (z_aCons (z_con (z_aNil (z_tupK rfl rfl (z_cmpK rfl rfl fun k7 => (z_ite (fun _ => (z_ret (z_tup (z_aCons (z_fz (z_ref rfl (z_fzR [ll z6.2, vv tags2, ll words3, vv z4.1, vv z5.1, vv z6.1] rfl (z_aNil (z_tupK rfl rfl (z_fret rfl Sub.rfl' rfl)))))))))) (fun _ => (z_nop (z_sq (z_if (z_cmp (z_ref rfl (z_con (z_cmpK rfl rfl fun k8 => (z_ite (fun _ => (z_ret (z_tup (z_aCons (z_fz (z_ref rfl (z_fzR [ll z6.2, vv tags2, ll words3, vv z4.1, vv z5.1, vv z6.1] rfl (z_aCons (z_fz (z_ref rfl (z_fzR [ll z6.2, vv tags2, ll words3, vv z4.1, vv z5.1, vv z6.1] rfl (z_aCons (z_fz (z_callF (z_aCons (z_ref rfl (z_aCons (z_fz (z_lst (z_aCons (z_con (z_aCons (z_con (z_aCons (z_con (z_aCons (z_con (z_aNil (z_lstK rfl rfl (z_fzR [ll z6.2, vv tags2, ll words3, vv z4.1, vv z5.1, vv z6.1] rfl (z_aNil (z_call (Z := D × List D) (A := (fun x : D × List D => ((.val x.1 : RV), [ll x.2, nn]))) (t__law_of_lv z6.2 (.lst [(.str "free"), (.str "falling"), (.str "rising"), (.str "ringed")])) rfl rfl rfl (fun _ => rfl) (fun _ => ⟨rfl, rfl⟩) (fun z9 => [ll z9.2, vv tags2, ll words3, vv z4.1, vv z5.1, vv z6.1]) (fun _ => rfl) fun z9 => (z_fzR [ll z9.2, vv tags2, ll words3, vv z4.1, vv z5.1, vv z6.1] rfl (z_aNil (z_tupK rfl rfl (z_fret rfl Sub.rfl' rfl)))))))))))))))))))))))))))))))))))) (fun _ => (z_nop (z_sq (z_if (z_cmp (z_ref rfl (z_con (z_cmpK rfl rfl fun k10 => (z_ite (fun _ => (z_ret (z_tup (z_aCons (z_fz (z_ref rfl (z_fzR [ll z6.2, vv tags2, ll words3, vv z4.1, vv z5.1, vv z6.1] rfl (z_aCons (z_fz (z_ref rfl (z_fzR [ll z6.2, vv tags2, ll words3, vv z4.1, vv z5.1, vv z6.1] rfl (z_aCons (z_fz (z_callF (z_aCons (z_ref rfl (z_aCons (z_con (z_aNil (z_call (Z := D × List D) (A := (fun x : D × List D => ((.val x.1 : RV), [ll x.2, nn]))) (t__law_take_lv z6.2 (.int 4)) rfl rfl rfl (fun _ => rfl) (fun _ => ⟨rfl, rfl⟩) (fun z11 => [ll z11.2, vv tags2, ll words3, vv z4.1, vv z5.1, vv z6.1]) (fun _ => rfl) fun z11 => (z_fzR [ll z11.2, vv tags2, ll words3, vv z4.1, vv z5.1, vv z6.1] rfl (z_aNil (z_tupK rfl rfl (z_fret rfl Sub.rfl' rfl)))))))))))))))))))))))) (fun _ => (z_nop (z_sq (z_if (z_cmp (z_ref rfl (z_con (z_cmpK rfl rfl fun k12 => (z_ite (fun _ => (z_ret (z_tup (z_aCons (z_fz (z_ref rfl (z_fzR [ll z6.2, vv tags2, ll words3, vv z4.1, vv z5.1, vv z6.1] rfl (z_aCons (z_fz (z_ref rfl (z_fzR [ll z6.2, vv tags2, ll words3, vv z4.1, vv z5.1, vv z6.1] rfl (z_aCons (z_fz (z_ref rfl (z_fzR [ll z6.2, vv tags2, ll words3, vv z4.1, vv z5.1, vv z6.1] rfl (z_aCons (z_fz (z_op2 (z_callF (z_aCons (z_ref rfl (z_aCons (z_con (z_aNil (z_call (Z := D × List D) (A := (fun x : D × List D => ((.val x.1 : RV), [ll x.2, nn]))) (t__law_take_lv z6.2 (.int 9)) rfl rfl rfl (fun _ => rfl) (fun _ => ⟨rfl, rfl⟩) (fun z13 => [ll z13.2, vv tags2, ll words3, vv z4.1, vv z5.1, vv z6.1]) (fun _ => rfl) fun z13 => (z_con (z_fin2V rfl rfl fun v14 => (z_fzR [ll z13.2, vv tags2, ll words3, vv z4.1, vv z5.1, vv z6.1] rfl (z_aNil (z_tupK rfl rfl (z_fret rfl Sub.rfl' rfl))))))))))))))))))))))))))))))) (fun _ => (z_nop (z_sq (z_if (z_cmp (z_ref rfl (z_con (z_cmpK rfl rfl fun k15 => (z_ite (fun _ => (z_ret (z_tup (z_aCons (z_fz (z_ref rfl (z_fzR [ll z6.2, vv tags2, ll words3, vv z4.1, vv z5.1, vv z6.1] rfl (z_aCons (z_fz (z_ref rfl (z_fzR [ll z6.2, vv tags2, ll words3, vv z4.1, vv z5.1, vv z6.1] rfl (z_aCons (z_fz (z_ref rfl (z_fzR [ll z6.2, vv tags2, ll words3, vv z4.1, vv z5.1, vv z6.1] rfl (z_aNil (z_tupK rfl rfl (z_fret rfl Sub.rfl' rfl)))))))))))))))))) (fun _ => (z_nop (z_ret (z_tup (z_aCons (z_fz (z_ref rfl (z_fzR [ll z6.2, vv tags2, ll words3, vv z4.1, vv z5.1, vv z6.1] rfl (z_aCons (z_fz (z_callF (z_aCons (z_ref rfl (z_aCons (z_eIf (z_cmp (z_ref rfl (z_con (z_cmpK rfl rfl fun k16 => (z_bnd (A := fun (x17 : D) => .val x17) (E := fun (x17 : D) => [ll z6.2, vv tags2, ll words3, vv z4.1, vv z5.1, vv z6.1]) (z_ite (fun _ => (z_endB (z_con (z_end rfl Sub.rfl')))) (fun _ => (z_endB (z_con (z_end rfl Sub.rfl'))))) fun x17 => (z_aNil (z_call (Z := D × List D) (A := (fun x : D × List D => ((.val x.1 : RV), [ll x.2, nn]))) (t__law_take_lv z6.2 x17) rfl rfl rfl (fun _ => rfl) (fun _ => ⟨rfl, rfl⟩) (fun z18 => [ll z18.2, vv tags2, ll words3, vv z4.1, vv z5.1, vv z6.1]) (fun _ => rfl) fun z18 => (z_fzR [ll z18.2, vv tags2, ll words3, vv z4.1, vv z5.1, vv z6.1] rfl (z_aNil (z_tupK rfl rfl (z_fret rfl Sub.rfl' rfl))))))))))))))))))))))))))))))))))))))))))))))))))))))))))))))))))))))))))))))))))))))))))))))))))))))))))
theorem t__law_same_vl : ∀ (n : Nat) (got1 : D) (due2 : List D), FnR (X := D) (f__law_same n) [.val got1, .lent (.lst due2)] (p__law_same n got1 (.lst due2)) ((fun x : D => ((.val x : RV), [nn, lf due2])))
  | 0, _, _ => trivial
  | n + 1, got1, due2 => by
    refine z_fn (X := D) (A := (fun x : D => ((.val x : RV), [nn, lf due2]))) (k := 3) (body := b__law_same (f__law_same n)) (ss := [.val got1, .lent (.lst due2)]) (r := p__law_same (n + 1) got1 (.lst due2)) [vv got1, ll due2, nn, nn, nn] rfl 2 rfl ?_ (fun _ => rfl)
    unfold p__law_same
    exact (z_last (z_sq (z_if (z_tst (z_op1 (z_ref rfl (z_fin1V rfl fun v3 => (z_tstK rfl fun k4 => (z_ite (fun _ => (z_sq (z_if (z_bOr (z_cmp (z_op1 (z_ref rfl (z_fin1V rfl fun v5 => (z_op1 (z_ref rfl (z_fin1V rfl fun v6 => (z_cmpK rfl rfl fun k7 => (z_bnd (A := fun (x8 : Bool) => x8) (E := fun (x8 : Bool) => [vv got1, ll due2, nn, nn, nn]) (z_ite (fun _ => (z_end rfl Sub.rfl')) (fun _ => (z_endB (z_cmp (z_op1 (z_ref rfl (z_fin1V rfl fun v9 => (z_op1 (z_ref rfl (z_fin1V rfl fun v10 => (z_cmpK rfl rfl fun k11 => (z_end rfl Sub.rfl')))))))))))) fun x8 => (z_ite (fun _ => (z_ret (z_con (z_fret rfl (by exact (.keep (.lf1 .nil))) rfl)))) (fun _ => (z_nop (z_ret (z_mv (z_eAnd (z_op2 (z_callB (z_aCons (z_ref rfl (z_aNil (z_finLV rfl fun v12 => (z_callB (z_aCons (z_ref rfl (z_aNil (z_finLV rfl fun v13 => (z_fin2V rfl rfl fun v14 => (z_asBK rfl fun k15 => (z_bnd (A := fun (x16 : D) => .val x16) (E := fun (x16 : D) => [vv got1, lf due2, nn, nn, nn]) (z_ite (fun _ => (z_endB (z_callB (z_aCons (z_lc (z_zip (z_fz (z_ref rfl (z_fzR [vv got1, ll due2, nn, nn, nn] rfl (z_fz (z_ref rfl (z_fzR [vv got1, lz due2, nn, nn, nn] rfl (z_zipK fun ds17 => (z_lcD (W := [vv got1, lz due2, nn, nn, nn]) rfl Sub.rfl' (fun d18 => (z_tg2 fun mine20 its21 => (z_tgN [vv got1, lz due2, nn, vv mine20, nn] rfl rfl (z_tgN [vv got1, lz due2, nn, vv mine20, vv its21] rfl rfl (z_yes (z_yes1 (z_fz (z_callF (z_aCons (z_ref rfl (z_aCons (z_ref rfl (z_aNil (z_call (Z := D) (A := (fun x : D => ((.val x : RV), [nn, nn]))) (t__law_same_vv n mine20 its21) rfl rfl rfl (fun _ => rfl) (fun _ => ⟨rfl, rfl⟩) (fun z22 => [vv got1, lz due2, nn, vv mine20, vv its21]) (fun _ => rfl) fun z22 => (z_fzR [vv got1, lz due2, nn, vv mine20, vv its21] rfl (z_lcV Sub.rfl')))))))))))))))) [vv got1, lz due2, nn, nn, nn] rfl fun l19 => (z_aNil (z_finLV rfl fun v23 => (z_end rfl (by exact (.keep (.lf2 (.keep (.keep (.keep .nil))))))))))))))))))))))) (fun _ => (z_end rfl (by exact (.keep (.lf1 (.keep (.keep (.keep .nil))))))))) fun x16 => (z_mvR [vv got1, lf due2, nn, nn, nn] rfl (z_fret rfl Sub.rfl' rfl))))))))))))))))))))))))))))))))))) (fun _ => (z_nop (z_sq (z_if (z_tst (z_op1 (z_ref rfl (z_fin1V rfl fun v24 => (z_tstK rfl fun k25 => (z_ite (fun _ => (z_sq (z_if (z_bOr (z_bNot (z_tst (z_op1 (z_ref rfl (z_fin1V rfl fun v26 => (z_tstK rfl fun k27 => (z_bnd (A := fun (x28 : Bool) => x28) (E := fun (x28 : Bool) => [vv got1, ll due2, nn, nn, nn]) (z_ite (fun _ => (z_end rfl Sub.rfl')) (fun _ => (z_endB (z_cmp (z_callB (z_aCons (z_ref rfl (z_aNil (z_finLL rfl fun l29 => (z_callB (z_aCons (z_ref rfl (z_aNil (z_finLL rfl fun l30 => (z_cmpK rfl rfl fun k31 => (z_end rfl Sub.rfl')))))))))))))))) fun x28 => (z_ite (fun _ => (z_ret (z_con (z_fret rfl (by exact (.keep (.lf1 .nil))) rfl)))) (fun _ => (z_nop (z_ret (z_callB (z_aCons (z_lc (z_it (z_ref rfl (z_itSP rfl (z_lcS (W := [vv got1, kt due2, nn, nn, nn]) rfl rfl rfl Sub.rfl' rfl (fun d33 => (z_tgN [vv got1, kt due2, vv d33, nn, nn] rfl rfl (z_yes (z_yes1 (z_fz (z_callF (z_aCons (z_op2 (z_ref rfl (z_ref rfl (z_fin2V rfl rfl fun v35 => (z_aCons (z_op2 (z_ref rfl (z_ref rfl (z_fin2V rfl rfl fun v36 => (z_aNil (z_call (Z := D) (A := (fun x : D => ((.val x : RV), [nn, nn]))) (t__law_same_vv n v35 v36) rfl rfl rfl (fun _ => rfl) (fun _ => ⟨rfl, rfl⟩) (fun z37 => [vv got1, kt due2, vv d33, nn, nn]) (fun _ => rfl) fun z37 => (z_fzR [vv got1, kt due2, vv d33, nn, nn] rfl (z_lcV Sub.rfl')))))))))))))))))))) [vv got1, ll due2, nn, nn, nn] rfl fun l34 => (z_aNil (z_finLV rfl fun v38 => (z_fret rfl (by exact (.keep (.lf1 .nil))) rfl))))))))))))))))))))))))) (fun _ => (z_nop (z_sq (z_if (z_bOr (z_cmp (z_ref rfl (z_con (z_cmpK rfl rfl fun k39 => (z_bnd (A := fun (x40 : Bool) => x40) (E := fun (x40 : Bool) => [vv got1, ll due2, nn, nn, nn]) (z_ite (fun _ => (z_end rfl Sub.rfl')) (fun _ => (z_endB (z_tst (z_op1 (z_ref rfl (z_fin1V rfl fun v41 => (z_tstK rfl fun k42 => (z_end rfl Sub.rfl'))))))))) fun x40 => (z_ite (fun _ => (z_ret (z_mv (z_eAnd (z_op2 (z_ref rfl (z_ref rfl (z_fin2V rfl rfl fun v43 => (z_asBK rfl fun k44 => (z_bnd (A := fun (x45 : D) => .val x45) (E := fun (x45 : D) => [vv got1, ll due2, nn, nn, nn]) (z_ite (fun _ => (z_endB (z_eAnd (z_op2 (z_op1 (z_ref rfl (z_fin1V rfl fun v46 => (z_op1 (z_ref rfl (z_fin1V rfl fun v47 => (z_fin2V rfl rfl fun v48 => (z_asBK rfl fun k49 => (z_bnd (A := fun (x50 : D) => .val x50) (E := fun (x50 : D) => [vv got1, ll due2, nn, nn, nn]) (z_ite (fun _ => (z_endB (z_op2 (z_op2 (z_ref rfl (z_con (z_fin2V rfl rfl fun v51 => (z_op2 (z_ref rfl (z_con (z_fin2V rfl rfl fun v52 => (z_fin2V rfl rfl fun v53 => (z_end rfl Sub.rfl'))))))))))))) (fun _ => (z_end rfl Sub.rfl'))) fun x50 => (z_end rfl Sub.rfl')))))))))))))) (fun _ => (z_end rfl Sub.rfl'))) fun x45 => (z_mvR [vv got1, ll due2, nn, nn, nn] rfl (z_fret rfl (by exact (.keep (.lf1 .nil))) rfl)))))))))))) (fun _ => (z_nop (z_ret (z_mv (z_eAnd (z_op1 (z_ref rfl (z_fin1V rfl fun v54 => (z_asBK rfl fun k55 => (z_bnd (A := fun (x56 : D) => .val x56) (E := fun (x56 : D) => [vv got1, ll due2, nn, nn, nn]) (z_ite (fun _ => (z_endB (z_eAnd (z_op1 (z_op1 (z_ref rfl (z_fin1V rfl fun v57 => (z_fin1V rfl fun v58 => (z_asBK rfl fun k59 => (z_bnd (A := fun (x60 : D) => .val x60) (E := fun (x60 : D) => [vv got1, ll due2, nn, nn, nn]) (z_ite (fun _ => (z_endB (z_op2 (z_ref rfl (z_ref rfl (z_fin2V rfl rfl fun v61 => (z_end rfl Sub.rfl'))))))) (fun _ => (z_end rfl Sub.rfl'))) fun x60 => (z_end rfl Sub.rfl'))))))))))) (fun _ => (z_end rfl Sub.rfl'))) fun x56 => (z_mvR [vv got1, ll due2, nn, nn, nn] rfl (z_fret rfl (by exact (.keep (.lf1 .nil))) rfl))))))))))))))))))))))))))))))))))))))))))
def p__law_right (box1 : List D) : Res (D × List D) := ((ofV (negD (.int 1))).bind fun v2 => ((ofV (powD (.int 10) (.int 40))).bind fun v3 => ((rngR (.int 40)).bind fun ds4 => (after (forX (ρ := D × List D) (fun (s5 : List D) (d6 : D) => ((p__law_note s5 (.lst [(.str "a"), (.str "b"), (.str "abcdefgh")]) (.lst [(.str "sound"), (.str "falling"), (.str "kind"), (.str "late"), (.str "leans"), (.str "apart"), (.str "window"), (.str "passes")])).bind fun z8 => ((ofV (lenD [z8.1])).bind fun v9 => ((p__law_take z8.2 v9).bind fun z10 => ((p__law_of z10.2 (.lst [.non, (.bl true), (.str ""), (.str "a"), (.str "free"), v2, (.int 0), (.int 3), (.tup []), (.tup [(.str "a")]), (.lst [(.str "a")]), (.str "Ab"), (.str "toolonger"), v3, (.str "sound"), (.str "window")])).bind fun z11 => ((asI z10.1).bind fun i12 => ((ofV (sliceD z8.1 none (some i12))).bind fun v13 => ((ofV (addD v13 (.tup [z11.1]))).bind fun v14 => ((ofV (addD z10.1 (.int 1))).bind fun v15 => ((asI v15).bind fun i16 => ((ofV (sliceD z8.1 (some i16) none)).bind fun v17 => ((ofV (addD v14 v17)).bind fun v18 => ((ofV (addD z8.1 (.tup [z11.1]))).bind fun v19 => ((asI z10.1).bind fun i20 => ((ofV (sliceD z8.1 none (some i20))).bind fun v21 => ((ofV (addD z10.1 (.int 1))).bind fun v22 => ((asI v22).bind fun i23 => ((ofV (sliceD z8.1 (some i23) none)).bind fun v24 => ((ofV (addD v21 v24)).bind fun v25 => ((ofL (listD [z8.1])).bind fun l26 => ((ofV (revTD z8.1)).bind fun v27 => ((lcP (fun d28 => ((p__law_fits d28).bind fun z30 => (.ok (some z30)))) [z8.1, v18, v19, v25, (.lst l26), v27]).bind fun l29 => ((ofV (ixD (.lst l29) (.int 0))).bind fun v31 => ((tstR v31).bind fun k32 => ((if (!k32) = true then (.ok true) else ((lcP (fun d34 => ((p_is_mark d34).bind fun z36 => (.ok (some z36)))) [z8.1, v18, v19, v25, (.lst l26), v27]).bind fun l35 => ((p__law_same 12 (.lst l35) (.lst l29)).bind fun z37 => ((tstR z37).bind fun k38 => (.ok (!k38))))) : Res (Bool)).bind fun x33 => (if x33 = true then (.ok (.ret ((.bl false), z11.2))) else (.ok (.go z11.2)))))))))))))))))))))))))))) ds4 box1) (fun s39 => (.ok ((.bl true), s39))) (fun r7 => (.ok (r7.1, r7.2)))))))
theorem t__law_right_l (box1 : List D) : FnR (X := D × List D) f__law_right [.lent (.lst box1)] (p__law_right box1) ((fun x : D × List D => ((.val x.1 : RV), [ll x.2]))) := by
  refine z_fn (X := D × List D) (A := (fun x : D × List D => ((.val x.1 : RV), [ll x.2]))) (k := 9) (body := b__law_right) (ss := [.lent (.lst box1)]) (r := p__law_right box1) [ll box1, nn, nn, nn, nn, nn, nn, nn, nn, nn] rfl 1 rfl ?_ (fun _ => rfl)
  unfold p__law_right
  exact (z_last (z_sq (z_set (z_lst (z_aCons (z_con (z_aCons (z_con (z_aCons (z_con (z_aCons (z_con (z_aCons (z_con (z_aCons (z_con (z_aCons (z_con (z_aCons (z_con (z_aNil (z_lstK rfl rfl (z_sto [ll box1, oo [(.str "sound"), (.str "falling"), (.str "kind"), (.str "late"), (.str "leans"), (.str "apart"), (.str "window"), (.str "passes")], nn, nn, nn, nn, nn, nn, nn, nn] rfl rfl (z_sq (z_set (z_lst (z_aCons (z_con (z_aCons (z_con (z_aCons (z_con (z_aCons (z_con (z_aCons (z_con (z_aCons (z_op1 (z_con (z_fin1V rfl fun v2 => (z_aCons (z_con (z_aCons (z_con (z_aCons (z_tup (z_aNil (z_tupK rfl rfl (z_aCons (z_tup (z_aCons (z_con (z_aNil (z_tupK rfl rfl (z_aCons (z_fz (z_lst (z_aCons (z_con (z_aNil (z_lstK rfl rfl (z_fzR [ll box1, oo [(.str "sound"), (.str "falling"), (.str "kind"), (.str "late"), (.str "leans"), (.str "apart"), (.str "window"), (.str "passes")], nn, nn, nn, nn, nn, nn, nn, nn] rfl (z_aCons (z_con (z_aCons (z_con (z_aCons (z_fz (z_op2 (z_con (z_con (z_fin2V rfl rfl fun v3 => (z_fzR [ll box1, oo [(.str "sound"), (.str "falling"), (.str "kind"), (.str "late"), (.str "leans"), (.str "apart"), (.str "window"), (.str "passes")], nn, nn, nn, nn, nn, nn, nn, nn] rfl (z_aCons (z_con (z_aCons (z_con (z_aNil (z_lstK rfl rfl (z_sto [ll box1, oo [(.str "sound"), (.str "falling"), (.str "kind"), (.str "late"), (.str "leans"), (.str "apart"), (.str "window"), (.str "passes")], oo [.non, (.bl true), (.str ""), (.str "a"), (.str "free"), v2, (.int 0), (.int 3), (.tup []), (.tup [(.str "a")]), (.lst [(.str "a")]), (.str "Ab"), (.str "toolonger"), v3, (.str "sound"), (.str "window")], nn, nn, nn, nn, nn, nn, nn] rfl rfl (z_sq (z_for (z_rng1 (z_con (z_rngK rfl fun ds4 => (z_forDX (E := fun (s5 : List D) => [ll s5, oo [(.str "sound"), (.str "falling"), (.str "kind"), (.str "late"), (.str "leans"), (.str "apart"), (.str "window"), (.str "passes")], oo [.non, (.bl true), (.str ""), (.str "a"), (.str "free"), v2, (.int 0), (.int 3), (.tup []), (.tup [(.str "a")]), (.lst [(.str "a")]), (.str "Ab"), (.str "toolonger"), v3, (.str "sound"), (.str "window")], .nv, .nv, .jk, .jk, .nv, .nv, nn]) (P := D × List D) (F := fun (r7 : D × List D) => .val r7.1) (T := fun (r7 : D × List D) => [ll r7.2, oo [(.str "sound"), (.str "falling"), (.str "kind"), (.str "late"), (.str "leans"), (.str "apart"), (.str "window"), (.str "passes")], oo [.non, (.bl true), (.str ""), (.str "a"), (.str "free"), v2, (.int 0), (.int 3), (.tup []), (.tup [(.str "a")]), (.lst [(.str "a")]), (.str "Ab"), (.str "toolonger"), v3, (.str "sound"), (.str "window")], .jk, .jk, .jk, .jk, .jk, .jk, nn]) (by exact (.keep (.keep (.keep (.no (.no (.fr rfl (.fr rfl (.no (.no (.keep .nil))))))))))) (fun s5 d6 => (z_tgN [ll s5, oo [(.str "sound"), (.str "falling"), (.str "kind"), (.str "late"), (.str "leans"), (.str "apart"), (.str "window"), (.str "passes")], oo [.non, (.bl true), (.str ""), (.str "a"), (.str "free"), v2, (.int 0), (.int 3), (.tup []), (.tup [(.str "a")]), (.lst [(.str "a")]), (.str "Ab"), (.str "toolonger"), v3, (.str "sound"), (.str "window")], vv d6, .nv, .jk, .jk, .nv, .nv, nn] rfl rfl (z_last (z_sq (z_set (z_callF (z_aCons (z_ref rfl (z_aCons (z_fz (z_lst (z_aCons (z_con (z_aCons (z_con (z_aCons (z_con (z_aNil (z_lstK rfl rfl (z_fzR [ll s5, oo [(.str "sound"), (.str "falling"), (.str "kind"), (.str "late"), (.str "leans"), (.str "apart"), (.str "window"), (.str "passes")], oo [.non, (.bl true), (.str ""), (.str "a"), (.str "free"), v2, (.int 0), (.int 3), (.tup []), (.tup [(.str "a")]), (.lst [(.str "a")]), (.str "Ab"), (.str "toolonger"), v3, (.str "sound"), (.str "window")], vv d6, .nv, .jk, .jk, .nv, .nv, nn] rfl (z_aCons (z_ref rfl (z_aNil (z_call (Z := D × List D) (A := (fun x : D × List D => ((.val x.1 : RV), [ll x.2, nn, ll [(.str "sound"), (.str "falling"), (.str "kind"), (.str "late"), (.str "leans"), (.str "apart"), (.str "window"), (.str "passes")]]))) (t__law_note_lvl s5 (.lst [(.str "a"), (.str "b"), (.str "abcdefgh")]) [(.str "sound"), (.str "falling"), (.str "kind"), (.str "late"), (.str "leans"), (.str "apart"), (.str "window"), (.str "passes")]) rfl rfl rfl (fun _ => rfl) (fun _ => ⟨rfl, rfl⟩) (fun z8 => [ll z8.2, oo [(.str "sound"), (.str "falling"), (.str "kind"), (.str "late"), (.str "leans"), (.str "apart"), (.str "window"), (.str "passes")], oo [.non, (.bl true), (.str ""), (.str "a"), (.str "free"), v2, (.int 0), (.int 3), (.tup []), (.tup [(.str "a")]), (.lst [(.str "a")]), (.str "Ab"), (.str "toolonger"), v3, (.str "sound"), (.str "window")], vv d6, .nv, .jk, .jk, .nv, .nv, nn]) (fun _ => rfl) fun z8 => (z_sto [ll z8.2, oo [(.str "sound"), (.str "falling"), (.str "kind"), (.str "late"), (.str "leans"), (.str "apart"), (.str "window"), (.str "passes")], oo [.non, (.bl true), (.str ""), (.str "a"), (.str "free"), v2, (.int 0), (.int 3), (.tup []), (.tup [(.str "a")]), (.lst [(.str "a")]), (.str "Ab"), (.str "toolonger"), v3, (.str "sound"), (.str "window")], vv d6, vv z8.1, .jk, .jk, .nv, .nv, nn] rfl rfl (z_sq (z_par (z_aCons (z_callF (z_aCons (z_ref rfl (z_aCons (z_fz (z_callB (z_aCons (z_ref rfl (z_aNil (z_finLV rfl fun v9 => (z_fzR [ll z8.2, oo [(.str "sound"), (.str "falling"), (.str "kind"), (.str "late"), (.str "leans"), (.str "apart"), (.str "window"), (.str "passes")], oo [.non, (.bl true), (.str ""), (.str "a"), (.str "free"), v2, (.int 0), (.int 3), (.tup []), (.tup [(.str "a")]), (.lst [(.str "a")]), (.str "Ab"), (.str "toolonger"), v3, (.str "sound"), (.str "window")], vv d6, vv z8.1, .jk, .jk, .nv, .nv, nn] rfl (z_aNil (z_call (Z := D × List D) (A := (fun x : D × List D => ((.val x.1 : RV), [ll x.2, nn]))) (t__law_take_lv z8.2 v9) rfl rfl rfl (fun _ => rfl) (fun _ => ⟨rfl, rfl⟩) (fun z10 => [ll z10.2, oo [(.str "sound"), (.str "falling"), (.str "kind"), (.str "late"), (.str "leans"), (.str "apart"), (.str "window"), (.str "passes")], oo [.non, (.bl true), (.str ""), (.str "a"), (.str "free"), v2, (.int 0), (.int 3), (.tup []), (.tup [(.str "a")]), (.lst [(.str "a")]), (.str "Ab"), (.str "toolonger"), v3, (.str "sound"), (.str "window")], vv d6, vv z8.1, .jk, .jk, .nv, .nv, nn]) (fun _ => rfl) fun z10 => (z_aCons (z_callF (z_aCons (z_ref rfl (z_aCons (z_ref rfl (z_aNil (z_call (Z := D × List D) (A := (fun x : D × List D => ((.val x.1 : RV), [ll x.2, ll [.non, (.bl true), (.str ""), (.str "a"), (.str "free"), v2, (.int 0), (.int 3), (.tup []), (.tup [(.str "a")]), (.lst [(.str "a")]), (.str "Ab"), (.str "toolonger"), v3, (.str "sound"), (.str "window")]]))) (t__law_of_ll z10.2 [.non, (.bl true), (.str ""), (.str "a"), (.str "free"), v2, (.int 0), (.int 3), (.tup []), (.tup [(.str "a")]), (.lst [(.str "a")]), (.str "Ab"), (.str "toolonger"), v3, (.str "sound"), (.str "window")]) rfl rfl rfl (fun _ => rfl) (fun _ => ⟨rfl, rfl⟩) (fun z11 => [ll z11.2, oo [(.str "sound"), (.str "falling"), (.str "kind"), (.str "late"), (.str "leans"), (.str "apart"), (.str "window"), (.str "passes")], oo [.non, (.bl true), (.str ""), (.str "a"), (.str "free"), v2, (.int 0), (.int 3), (.tup []), (.tup [(.str "a")]), (.lst [(.str "a")]), (.str "Ab"), (.str "toolonger"), v3, (.str "sound"), (.str "window")], vv d6, vv z8.1, .jk, .jk, .nv, .nv, nn]) (fun _ => rfl) fun z11 => (z_aNil (z_parK [ll z11.2, oo [(.str "sound"), (.str "falling"), (.str "kind"), (.str "late"), (.str "leans"), (.str "apart"), (.str "window"), (.str "passes")], oo [.non, (.bl true), (.str ""), (.str "a"), (.str "free"), v2, (.int 0), (.int 3), (.tup []), (.tup [(.str "a")]), (.lst [(.str "a")]), (.str "Ab"), (.str "toolonger"), v3, (.str "sound"), (.str "window")], vv d6, vv z8.1, .jk, .jk, vv z10.1, .nv, nn] [ll z11.2, oo [(.str "sound"), (.str "falling"), (.str "kind"), (.str "late"), (.str "leans"), (.str "apart"), (.str "window"), (.str "passes")], oo [.non, (.bl true), (.str ""), (.str "a"), (.str "free"), v2, (.int 0), (.int 3), (.tup []), (.tup [(.str "a")]), (.lst [(.str "a")]), (.str "Ab"), (.str "toolonger"), v3, (.str "sound"), (.str "window")], vv d6, vv z8.1, .jk, .jk, vv z10.1, vv z11.1, nn] rfl rfl rfl rfl (z_sq (z_set (z_lst (z_aCons (z_fz (z_ref rfl (z_fzR [ll z11.2, oo [(.str "sound"), (.str "falling"), (.str "kind"), (.str "late"), (.str "leans"), (.str "apart"), (.str "window"), (.str "passes")], oo [.non, (.bl true), (.str ""), (.str "a"), (.str "free"), v2, (.int 0), (.int 3), (.tup []), (.tup [(.str "a")]), (.lst [(.str "a")]), (.str "Ab"), (.str "toolonger"), v3, (.str "sound"), (.str "window")], vv d6, vv z8.1, .jk, .jk, vv z10.1, vv z11.1, nn] rfl (z_aCons (z_fz (z_op2 (z_op2 (z_slc (z_ref rfl (z_slN (z_slS (z_ref rfl (z_slK rfl fun i12 => (z_fin1V rfl fun v13 => (z_tup (z_aCons (z_fz (z_ref rfl (z_fzR [ll z11.2, oo [(.str "sound"), (.str "falling"), (.str "kind"), (.str "late"), (.str "leans"), (.str "apart"), (.str "window"), (.str "passes")], oo [.non, (.bl true), (.str ""), (.str "a"), (.str "free"), v2, (.int 0), (.int 3), (.tup []), (.tup [(.str "a")]), (.lst [(.str "a")]), (.str "Ab"), (.str "toolonger"), v3, (.str "sound"), (.str "window")], vv d6, vv z8.1, .jk, .jk, vv z10.1, vv z11.1, nn] rfl (z_aNil (z_tupK rfl rfl (z_fin2V rfl rfl fun v14 => (z_slc (z_ref rfl (z_slS (z_op2 (z_ref rfl (z_con (z_fin2V rfl rfl fun v15 => (z_slK rfl fun i16 => (z_slN (z_fin1V rfl fun v17 => (z_fin2V rfl rfl fun v18 => (z_fzR [ll z11.2, oo [(.str "sound"), (.str "falling"), (.str "kind"), (.str "late"), (.str "leans"), (.str "apart"), (.str "window"), (.str "passes")], oo [.non, (.bl true), (.str ""), (.str "a"), (.str "free"), v2, (.int 0), (.int 3), (.tup []), (.tup [(.str "a")]), (.lst [(.str "a")]), (.str "Ab"), (.str "toolonger"), v3, (.str "sound"), (.str "window")], vv d6, vv z8.1, .jk, .jk, vv z10.1, vv z11.1, nn] rfl (z_aCons (z_fz (z_op2 (z_ref rfl (z_tup (z_aCons (z_fz (z_ref rfl (z_fzR [ll z11.2, oo [(.str "sound"), (.str "falling"), (.str "kind"), (.str "late"), (.str "leans"), (.str "apart"), (.str "window"), (.str "passes")], oo [.non, (.bl true), (.str ""), (.str "a"), (.str "free"), v2, (.int 0), (.int 3), (.tup []), (.tup [(.str "a")]), (.lst [(.str "a")]), (.str "Ab"), (.str "toolonger"), v3, (.str "sound"), (.str "window")], vv d6, vv z8.1, .jk, .jk, vv z10.1, vv z11.1, nn] rfl (z_aNil (z_tupK rfl rfl (z_fin2V rfl rfl fun v19 => (z_fzR [ll z11.2, oo [(.str "sound"), (.str "falling"), (.str "kind"), (.str "late"), (.str "leans"), (.str "apart"), (.str "window"), (.str "passes")], oo [.non, (.bl true), (.str ""), (.str "a"), (.str "free"), v2, (.int 0), (.int 3), (.tup []), (.tup [(.str "a")]), (.lst [(.str "a")]), (.str "Ab"), (.str "toolonger"), v3, (.str "sound"), (.str "window")], vv d6, vv z8.1, .jk, .jk, vv z10.1, vv z11.1, nn] rfl (z_aCons (z_fz (z_op2 (z_slc (z_ref rfl (z_slN (z_slS (z_ref rfl (z_slK rfl fun i20 => (z_fin1V rfl fun v21 => (z_slc (z_ref rfl (z_slS (z_op2 (z_ref rfl (z_con (z_fin2V rfl rfl fun v22 => (z_slK rfl fun i23 => (z_slN (z_fin1V rfl fun v24 => (z_fin2V rfl rfl fun v25 => (z_fzR [ll z11.2, oo [(.str "sound"), (.str "falling"), (.str "kind"), (.str "late"), (.str "leans"), (.str "apart"), (.str "window"), (.str "passes")], oo [.non, (.bl true), (.str ""), (.str "a"), (.str "free"), v2, (.int 0), (.int 3), (.tup []), (.tup [(.str "a")]), (.lst [(.str "a")]), (.str "Ab"), (.str "toolonger"), v3, (.str "sound"), (.str "window")], vv d6, vv z8.1, .jk, .jk, vv z10.1, vv z11.1, nn] rfl (z_aCons (z_fz (z_callB (z_aCons (z_ref rfl (z_aNil (z_finLL rfl fun l26 => (z_fzR [ll z11.2, oo [(.str "sound"), (.str "falling"), (.str "kind"), (.str "late"), (.str "leans"), (.str "apart"), (.str "window"), (.str "passes")], oo [.non, (.bl true), (.str ""), (.str "a"), (.str "free"), v2, (.int 0), (.int 3), (.tup []), (.tup [(.str "a")]), (.lst [(.str "a")]), (.str "Ab"), (.str "toolonger"), v3, (.str "sound"), (.str "window")], vv d6, vv z8.1, .jk, .jk, vv z10.1, vv z11.1, nn] rfl (z_aCons (z_op1 (z_ref rfl (z_fin1V rfl fun v27 => (z_aNil (z_lstK rfl rfl (z_sto [ll z11.2, oo [(.str "sound"), (.str "falling"), (.str "kind"), (.str "late"), (.str "leans"), (.str "apart"), (.str "window"), (.str "passes")], oo [.non, (.bl true), (.str ""), (.str "a"), (.str "free"), v2, (.int 0), (.int 3), (.tup []), (.tup [(.str "a")]), (.lst [(.str "a")]), (.str "Ab"), (.str "toolonger"), v3, (.str "sound"), (.str "window")], vv d6, vv z8.1, oo [z8.1, v18, v19, v25, (.lst l26), v27], .jk, vv z10.1, vv z11.1, nn] rfl rfl (z_sq (z_set (z_lc (z_it (z_ref rfl (z_itS rfl (z_lcS (W := [ll z11.2, oo [(.str "sound"), (.str "falling"), (.str "kind"), (.str "late"), (.str "leans"), (.str "apart"), (.str "window"), (.str "passes")], oo [.non, (.bl true), (.str ""), (.str "a"), (.str "free"), v2, (.int 0), (.int 3), (.tup []), (.tup [(.str "a")]), (.lst [(.str "a")]), (.str "Ab"), (.str "toolonger"), v3, (.str "sound"), (.str "window")], vv d6, vv z8.1, kf [z8.1, v18, v19, v25, (.lst l26), v27], .jk, vv z10.1, vv z11.1, nn]) rfl rfl rfl Sub.rfl' rfl (fun d28 => (z_tgN [ll z11.2, oo [(.str "sound"), (.str "falling"), (.str "kind"), (.str "late"), (.str "leans"), (.str "apart"), (.str "window"), (.str "passes")], oo [.non, (.bl true), (.str ""), (.str "a"), (.str "free"), v2, (.int 0), (.int 3), (.tup []), (.tup [(.str "a")]), (.lst [(.str "a")]), (.str "Ab"), (.str "toolonger"), v3, (.str "sound"), (.str "window")], vv d6, vv z8.1, kf [z8.1, v18, v19, v25, (.lst l26), v27], .jk, vv z10.1, vv z11.1, vv d28] rfl rfl (z_yes (z_yes1 (z_fz (z_callF (z_aCons (z_ref rfl (z_aNil (z_call (Z := D) (A := (fun x : D => ((.val x : RV), [nn]))) (t__law_fits_v d28) rfl rfl rfl (fun _ => rfl) (fun _ => ⟨rfl, rfl⟩) (fun z30 => [ll z11.2, oo [(.str "sound"), (.str "falling"), (.str "kind"), (.str "late"), (.str "leans"), (.str "apart"), (.str "window"), (.str "passes")], oo [.non, (.bl true), (.str ""), (.str "a"), (.str "free"), v2, (.int 0), (.int 3), (.tup []), (.tup [(.str "a")]), (.lst [(.str "a")]), (.str "Ab"), (.str "toolonger"), v3, (.str "sound"), (.str "window")], vv d6, vv z8.1, kf [z8.1, v18, v19, v25, (.lst l26), v27], .jk, vv z10.1, vv z11.1, vv d28]) (fun _ => rfl) fun z30 => (z_fzR [ll z11.2, oo [(.str "sound"), (.str "falling"), (.str "kind"), (.str "late"), (.str "leans"), (.str "apart"), (.str "window"), (.str "passes")], oo [.non, (.bl true), (.str ""), (.str "a"), (.str "free"), v2, (.int 0), (.int 3), (.tup []), (.tup [(.str "a")]), (.lst [(.str "a")]), (.str "Ab"), (.str "toolonger"), v3, (.str "sound"), (.str "window")], vv d6, vv z8.1, kf [z8.1, v18, v19, v25, (.lst l26), v27], .jk, vv z10.1, vv z11.1, vv d28] rfl (z_lcV Sub.rfl')))))))))))) [ll z11.2, oo [(.str "sound"), (.str "falling"), (.str "kind"), (.str "late"), (.str "leans"), (.str "apart"), (.str "window"), (.str "passes")], oo [.non, (.bl true), (.str ""), (.str "a"), (.str "free"), v2, (.int 0), (.int 3), (.tup []), (.tup [(.str "a")]), (.lst [(.str "a")]), (.str "Ab"), (.str "toolonger"), v3, (.str "sound"), (.str "window")], vv d6, vv z8.1, oo [z8.1, v18, v19, v25, (.lst l26), v27], .jk, vv z10.1, vv z11.1, nn] rfl fun l29 => (z_sto [ll z11.2, oo [(.str "sound"), (.str "falling"), (.str "kind"), (.str "late"), (.str "leans"), (.str "apart"), (.str "window"), (.str "passes")], oo [.non, (.bl true), (.str ""), (.str "a"), (.str "free"), v2, (.int 0), (.int 3), (.tup []), (.tup [(.str "a")]), (.lst [(.str "a")]), (.str "Ab"), (.str "toolonger"), v3, (.str "sound"), (.str "window")], vv d6, vv z8.1, oo [z8.1, v18, v19, v25, (.lst l26), v27], oo l29, vv z10.1, vv z11.1, nn] rfl rfl (z_if (z_bOr (z_bNot (z_tst (z_op2 (z_ref rfl (z_con (z_fin2V rfl rfl fun v31 => (z_tstK rfl fun k32 => (z_bnd (A := fun (x33 : Bool) => x33) (E := fun (x33 : Bool) => [ll z11.2, oo [(.str "sound"), (.str "falling"), (.str "kind"), (.str "late"), (.str "leans"), (.str "apart"), (.str "window"), (.str "passes")], oo [.non, (.bl true), (.str ""), (.str "a"), (.str "free"), v2, (.int 0), (.int 3), (.tup []), (.tup [(.str "a")]), (.lst [(.str "a")]), (.str "Ab"), (.str "toolonger"), v3, (.str "sound"), (.str "window")], vv d6, vv z8.1, oo [z8.1, v18, v19, v25, (.lst l26), v27], .jk, vv z10.1, vv z11.1, nn]) (z_ite (fun _ => (z_end rfl (by exact (.keep (.keep (.keep (.keep (.keep (.keep (.fr rfl (.keep (.keep (.keep .nil))))))))))))) (fun _ => (z_endB (z_bNot (z_tst (z_callF (z_aCons (z_fz (z_lc (z_it (z_ref rfl (z_itS rfl (z_lcS (W := [ll z11.2, oo [(.str "sound"), (.str "falling"), (.str "kind"), (.str "late"), (.str "leans"), (.str "apart"), (.str "window"), (.str "passes")], oo [.non, (.bl true), (.str ""), (.str "a"), (.str "free"), v2, (.int 0), (.int 3), (.tup []), (.tup [(.str "a")]), (.lst [(.str "a")]), (.str "Ab"), (.str "toolonger"), v3, (.str "sound"), (.str "window")], vv d6, vv z8.1, kf [z8.1, v18, v19, v25, (.lst l26), v27], oo l29, vv z10.1, vv z11.1, nn]) rfl rfl rfl Sub.rfl' rfl (fun d34 => (z_tgN [ll z11.2, oo [(.str "sound"), (.str "falling"), (.str "kind"), (.str "late"), (.str "leans"), (.str "apart"), (.str "window"), (.str "passes")], oo [.non, (.bl true), (.str ""), (.str "a"), (.str "free"), v2, (.int 0), (.int 3), (.tup []), (.tup [(.str "a")]), (.lst [(.str "a")]), (.str "Ab"), (.str "toolonger"), v3, (.str "sound"), (.str "window")], vv d6, vv z8.1, kf [z8.1, v18, v19, v25, (.lst l26), v27], oo l29, vv z10.1, vv z11.1, vv d34] rfl rfl (z_yes (z_yes1 (z_fz (z_callF (z_aCons (z_ref rfl (z_aNil (z_call (Z := D) (A := (fun x : D => ((.val x : RV), [nn]))) (t_is_mark_v d34) rfl rfl rfl (fun _ => rfl) (fun _ => ⟨rfl, rfl⟩) (fun z36 => [ll z11.2, oo [(.str "sound"), (.str "falling"), (.str "kind"), (.str "late"), (.str "leans"), (.str "apart"), (.str "window"), (.str "passes")], oo [.non, (.bl true), (.str ""), (.str "a"), (.str "free"), v2, (.int 0), (.int 3), (.tup []), (.tup [(.str "a")]), (.lst [(.str "a")]), (.str "Ab"), (.str "toolonger"), v3, (.str "sound"), (.str "window")], vv d6, vv z8.1, kf [z8.1, v18, v19, v25, (.lst l26), v27], oo l29, vv z10.1, vv z11.1, vv d34]) (fun _ => rfl) fun z36 => (z_fzR [ll z11.2, oo [(.str "sound"), (.str "falling"), (.str "kind"), (.str "late"), (.str "leans"), (.str "apart"), (.str "window"), (.str "passes")], oo [.non, (.bl true), (.str ""), (.str "a"), (.str "free"), v2, (.int 0), (.int 3), (.tup []), (.tup [(.str "a")]), (.lst [(.str "a")]), (.str "Ab"), (.str "toolonger"), v3, (.str "sound"), (.str "window")], vv d6, vv z8.1, kf [z8.1, v18, v19, v25, (.lst l26), v27], oo l29, vv z10.1, vv z11.1, vv d34] rfl (z_lcV Sub.rfl')))))))))))) [ll z11.2, oo [(.str "sound"), (.str "falling"), (.str "kind"), (.str "late"), (.str "leans"), (.str "apart"), (.str "window"), (.str "passes")], oo [.non, (.bl true), (.str ""), (.str "a"), (.str "free"), v2, (.int 0), (.int 3), (.tup []), (.tup [(.str "a")]), (.lst [(.str "a")]), (.str "Ab"), (.str "toolonger"), v3, (.str "sound"), (.str "window")], vv d6, vv z8.1, oo [z8.1, v18, v19, v25, (.lst l26), v27], oo l29, vv z10.1, vv z11.1, nn] rfl fun l35 => (z_fzR [ll z11.2, oo [(.str "sound"), (.str "falling"), (.str "kind"), (.str "late"), (.str "leans"), (.str "apart"), (.str "window"), (.str "passes")], oo [.non, (.bl true), (.str ""), (.str "a"), (.str "free"), v2, (.int 0), (.int 3), (.tup []), (.tup [(.str "a")]), (.lst [(.str "a")]), (.str "Ab"), (.str "toolonger"), v3, (.str "sound"), (.str "window")], vv d6, vv z8.1, oo [z8.1, v18, v19, v25, (.lst l26), v27], oo l29, vv z10.1, vv z11.1, nn] rfl (z_aCons (z_ref rfl (z_aNil (z_call (Z := D) (A := (fun x : D => ((.val x : RV), [nn, lf l29]))) (t__law_same_vl 12 (.lst l35) l29) rfl rfl rfl (fun _ => rfl) (fun _ => ⟨rfl, rfl⟩) (fun z37 => [ll z11.2, oo [(.str "sound"), (.str "falling"), (.str "kind"), (.str "late"), (.str "leans"), (.str "apart"), (.str "window"), (.str "passes")], oo [.non, (.bl true), (.str ""), (.str "a"), (.str "free"), v2, (.int 0), (.int 3), (.tup []), (.tup [(.str "a")]), (.lst [(.str "a")]), (.str "Ab"), (.str "toolonger"), v3, (.str "sound"), (.str "window")], vv d6, vv z8.1, oo [z8.1, v18, v19, v25, (.lst l26), v27], .jk, vv z10.1, vv z11.1, nn]) (fun _ => rfl) fun z37 => (z_tstK rfl fun k38 => (z_end rfl Sub.rfl')))))))))))))))))))) fun x33 => (z_ite (fun _ => (z_ret (z_con (z_rtL rfl (by exact (.keep (.keep (.keep (.fr rfl (.fr rfl (.fr rfl (.keep (.fr rfl (.fr rfl (.keep .nil))))))))))))))) (fun _ => (z_nop (z_nxL (by exact (.keep (.keep (.keep (.val (.val (.fr rfl (.keep (.val (.val (.keep .nil)))))))))))))))))))))))))))))))))))))))))))))))))))))))))))))))))))))))))))))))))))))))))))))))))))))))))))))))))))))))))))))))))))))))))))))))))))))))))))))))))))))))))))) (fun s39 => (z_ret (z_con (z_fret rfl Sub.rfl' rfl)))) fun r7 => (z_fret rfl Sub.rfl' rfl)))))))))))))))))))))))))))))))))))))))))))))))))))))))))))))))))))))))))))))))))))))))
theorem t__law_box_lv (script1 : List D) (k2 : D) : FnR (X := List D) f__law_box [.lent (.lst script1), .val k2] (p__law_box (.lst script1) k2) ((fun x : List D => ((.tmp (.lst x) : RV), [ll script1, nn]))) := by
  refine z_fn (X := List D) (A := (fun x : List D => ((.tmp (.lst x) : RV), [ll script1, nn]))) (k := 1) (body := b__law_box) (ss := [.lent (.lst script1), .val k2]) (r := p__law_box (.lst script1) k2) [ll script1, vv k2, nn] rfl 2 rfl ?_ (fun _ => rfl)
  unfold p__law_box
  exact (z_last (z_sq (z_set (z_vl (z_eIf (z_cmp (z_ref rfl (z_callB (z_aCons (z_ref rfl (z_aNil (z_finLV rfl fun v3 => (z_cmpK rfl rfl fun k4 => (z_bnd (A := fun (x5 : D) => .val x5) (E := fun (x5 : D) => [ll script1, vv k2, nn]) (z_ite (fun _ => (z_endB (z_op2 (z_ref rfl (z_ref rfl (z_fin2V rfl rfl fun v6 => (z_end rfl Sub.rfl'))))))) (fun _ => (z_endB (z_con (z_end rfl Sub.rfl'))))) fun x5 => (z_vlR [ll script1, vv k2, nn] rfl (z_sto [ll script1, vv k2, vv x5] rfl rfl (z_ret (z_lst (z_aCons (z_fz (z_op2 (z_callB (z_aCons (z_ref rfl (z_aNil (z_finLV rfl fun v7 => (z_callB (z_aCons (z_op2 (z_callB (z_aCons (z_ref rfl (z_aNil (z_finLV rfl fun v8 => (z_op2 (z_con (z_con (z_fin2V rfl rfl fun v9 => (z_fin2V rfl rfl fun v10 => (z_aNil (z_finLV rfl fun v11 => (z_fin2V rfl rfl fun v12 => (z_fzR [ll script1, vv k2, vv x5] rfl (z_aCons (z_fz (z_op2 (z_op2 (z_op2 (z_callB (z_aCons (z_ref rfl (z_aNil (z_finLV rfl fun v13 => (z_con (z_fin2V rfl rfl fun v14 => (z_op2 (z_con (z_ref rfl (z_fin2V rfl rfl fun v15 => (z_fin2V rfl rfl fun v16 => (z_con (z_fin2V rfl rfl fun v17 => (z_fzR [ll script1, vv k2, vv x5] rfl (z_aCons (z_con (z_aNil (z_lstK rfl rfl (z_fret rfl Sub.rfl' rfl))))))))))))))))))))))))))))))))))))))))))))))))))))))))))))))))))))
theorem t__law_right_o (box1 : List D) : FnR (X := D × List D) f__law_right [.own (.lst box1)] (p__law_right box1) ((fun x : D × List D => ((.val x.1 : RV), [nn]))) := by
  refine z_fn (X := D × List D) (A := (fun x : D × List D => ((.val x.1 : RV), [nn]))) (k := 9) (body := b__law_right) (ss := [.own (.lst box1)]) (r := p__law_right box1) [oo box1, nn, nn, nn, nn, nn, nn, nn, nn, nn] rfl 1 rfl ?_ (fun _ => rfl)
  unfold p__law_right
  exact (z_last (z_sq (z_set (z_lst (z_aCons (z_con (z_aCons (z_con (z_aCons (z_con (z_aCons (z_con (z_aCons (z_con (z_aCons (z_con (z_aCons (z_con (z_aCons (z_con (z_aNil (z_lstK rfl rfl (z_sto [oo box1, oo [(.str "sound"), (.str "falling"), (.str "kind"), (.str "late"), (.str "leans"), (.str "apart"), (.str "window"), (.str "passes")], nn, nn, nn, nn, nn, nn, nn, nn] rfl rfl (z_sq (z_set (z_lst (z_aCons (z_con (z_aCons (z_con (z_aCons (z_con (z_aCons (z_con (z_aCons (z_con (z_aCons (z_op1 (z_con (z_fin1V rfl fun v2 => (z_aCons (z_con (z_aCons (z_con (z_aCons (z_tup (z_aNil (z_tupK rfl rfl (z_aCons (z_tup (z_aCons (z_con (z_aNil (z_tupK rfl rfl (z_aCons (z_fz (z_lst (z_aCons (z_con (z_aNil (z_lstK rfl rfl (z_fzR [oo box1, oo [(.str "sound"), (.str "falling"), (.str "kind"), (.str "late"), (.str "leans"), (.str "apart"), (.str "window"), (.str "passes")], nn, nn, nn, nn, nn, nn, nn, nn] rfl (z_aCons (z_con (z_aCons (z_con (z_aCons (z_fz (z_op2 (z_con (z_con (z_fin2V rfl rfl fun v3 => (z_fzR [oo box1, oo [(.str "sound"), (.str "falling"), (.str "kind"), (.str "late"), (.str "leans"), (.str "apart"), (.str "window"), (.str "passes")], nn, nn, nn, nn, nn, nn, nn, nn] rfl (z_aCons (z_con (z_aCons (z_con (z_aNil (z_lstK rfl rfl (z_sto [oo box1, oo [(.str "sound"), (.str "falling"), (.str "kind"), (.str "late"), (.str "leans"), (.str "apart"), (.str "window"), (.str "passes")], oo [.non, (.bl true), (.str ""), (.str "a"), (.str "free"), v2, (.int 0), (.int 3), (.tup []), (.tup [(.str "a")]), (.lst [(.str "a")]), (.str "Ab"), (.str "toolonger"), v3, (.str "sound"), (.str "window")], nn, nn, nn, nn, nn, nn, nn] rfl rfl (z_sq (z_for (z_rng1 (z_con (z_rngK rfl fun ds4 => (z_forDX (E := fun (s5 : List D) => [oo s5, oo [(.str "sound"), (.str "falling"), (.str "kind"), (.str "late"), (.str "leans"), (.str "apart"), (.str "window"), (.str "passes")], oo [.non, (.bl true), (.str ""), (.str "a"), (.str "free"), v2, (.int 0), (.int 3), (.tup []), (.tup [(.str "a")]), (.lst [(.str "a")]), (.str "Ab"), (.str "toolonger"), v3, (.str "sound"), (.str "window")], .nv, .nv, .jk, .jk, .nv, .nv, nn]) (P := D × List D) (F := fun (r7 : D × List D) => .val r7.1) (T := fun (r7 : D × List D) => [oo r7.2, oo [(.str "sound"), (.str "falling"), (.str "kind"), (.str "late"), (.str "leans"), (.str "apart"), (.str "window"), (.str "passes")], oo [.non, (.bl true), (.str ""), (.str "a"), (.str "free"), v2, (.int 0), (.int 3), (.tup []), (.tup [(.str "a")]), (.lst [(.str "a")]), (.str "Ab"), (.str "toolonger"), v3, (.str "sound"), (.str "window")], .jk, .jk, .jk, .jk, .jk, .jk, nn]) (by exact (.keep (.keep (.keep (.no (.no (.fr rfl (.fr rfl (.no (.no (.keep .nil))))))))))) (fun s5 d6 => (z_tgN [oo s5, oo [(.str "sound"), (.str "falling"), (.str "kind"), (.str "late"), (.str "leans"), (.str "apart"), (.str "window"), (.str "passes")], oo [.non, (.bl true), (.str ""), (.str "a"), (.str "free"), v2, (.int 0), (.int 3), (.tup []), (.tup [(.str "a")]), (.lst [(.str "a")]), (.str "Ab"), (.str "toolonger"), v3, (.str "sound"), (.str "window")], vv d6, .nv, .jk, .jk, .nv, .nv, nn] rfl rfl (z_last (z_sq (z_set (z_callF (z_aCons (z_ref rfl (z_aCons (z_fz (z_lst (z_aCons (z_con (z_aCons (z_con (z_aCons (z_con (z_aNil (z_lstK rfl rfl (z_fzR [oo s5, oo [(.str "sound"), (.str "falling"), (.str "kind"), (.str "late"), (.str "leans"), (.str "apart"), (.str "window"), (.str "passes")], oo [.non, (.bl true), (.str ""), (.str "a"), (.str "free"), v2, (.int 0), (.int 3), (.tup []), (.tup [(.str "a")]), (.lst [(.str "a")]), (.str "Ab"), (.str "toolonger"), v3, (.str "sound"), (.str "window")], vv d6, .nv, .jk, .jk, .nv, .nv, nn] rfl (z_aCons (z_ref rfl (z_aNil (z_call (Z := D × List D) (A := (fun x : D × List D => ((.val x.1 : RV), [ll x.2, nn, ll [(.str "sound"), (.str "falling"), (.str "kind"), (.str "late"), (.str "leans"), (.str "apart"), (.str "window"), (.str "passes")]]))) (t__law_note_lvl s5 (.lst [(.str "a"), (.str "b"), (.str "abcdefgh")]) [(.str "sound"), (.str "falling"), (.str "kind"), (.str "late"), (.str "leans"), (.str "apart"), (.str "window"), (.str "passes")]) rfl rfl rfl (fun _ => rfl) (fun _ => ⟨rfl, rfl⟩) (fun z8 => [oo z8.2, oo [(.str "sound"), (.str "falling"), (.str "kind"), (.str "late"), (.str "leans"), (.str "apart"), (.str "window"), (.str "passes")], oo [.non, (.bl true), (.str ""), (.str "a"), (.str "free"), v2, (.int 0), (.int 3), (.tup []), (.tup [(.str "a")]), (.lst [(.str "a")]), (.str "Ab"), (.str "toolonger"), v3, (.str "sound"), (.str "window")], vv d6, .nv, .jk, .jk, .nv, .nv, nn]) (fun _ => rfl) fun z8 => (z_sto [oo z8.2, oo [(.str "sound"), (.str "falling"), (.str "kind"), (.str "late"), (.str "leans"), (.str "apart"), (.str "window"), (.str "passes")], oo [.non, (.bl true), (.str ""), (.str "a"), (.str "free"), v2, (.int 0), (.int 3), (.tup []), (.tup [(.str "a")]), (.lst [(.str "a")]), (.str "Ab"), (.str "toolonger"), v3, (.str "sound"), (.str "window")], vv d6, vv z8.1, .jk, .jk, .nv, .nv, nn] rfl rfl (z_sq (z_par (z_aCons (z_callF (z_aCons (z_ref rfl (z_aCons (z_fz (z_callB (z_aCons (z_ref rfl (z_aNil (z_finLV rfl fun v9 => (z_fzR [oo z8.2, oo [(.str "sound"), (.str "falling"), (.str "kind"), (.str "late"), (.str "leans"), (.str "apart"), (.str "window"), (.str "passes")], oo [.non, (.bl true), (.str ""), (.str "a"), (.str "free"), v2, (.int 0), (.int 3), (.tup []), (.tup [(.str "a")]), (.lst [(.str "a")]), (.str "Ab"), (.str "toolonger"), v3, (.str "sound"), (.str "window")], vv d6, vv z8.1, .jk, .jk, .nv, .nv, nn] rfl (z_aNil (z_call (Z := D × List D) (A := (fun x : D × List D => ((.val x.1 : RV), [ll x.2, nn]))) (t__law_take_lv z8.2 v9) rfl rfl rfl (fun _ => rfl) (fun _ => ⟨rfl, rfl⟩) (fun z10 => [oo z10.2, oo [(.str "sound"), (.str "falling"), (.str "kind"), (.str "late"), (.str "leans"), (.str "apart"), (.str "window"), (.str "passes")], oo [.non, (.bl true), (.str ""), (.str "a"), (.str "free"), v2, (.int 0), (.int 3), (.tup []), (.tup [(.str "a")]), (.lst [(.str "a")]), (.str "Ab"), (.str "toolonger"), v3, (.str "sound"), (.str "window")], vv d6, vv z8.1, .jk, .jk, .nv, .nv, nn]) (fun _ => rfl) fun z10 => (z_aCons (z_callF (z_aCons (z_ref rfl (z_aCons (z_ref rfl (z_aNil (z_call (Z := D × List D) (A := (fun x : D × List D => ((.val x.1 : RV), [ll x.2, ll [.non, (.bl true), (.str ""), (.str "a"), (.str "free"), v2, (.int 0), (.int 3), (.tup []), (.tup [(.str "a")]), (.lst [(.str "a")]), (.str "Ab"), (.str "toolonger"), v3, (.str "sound"), (.str "window")]]))) (t__law_of_ll z10.2 [.non, (.bl true), (.str ""), (.str "a"), (.str "free"), v2, (.int 0), (.int 3), (.tup []), (.tup [(.str "a")]), (.lst [(.str "a")]), (.str "Ab"), (.str "toolonger"), v3, (.str "sound"), (.str "window")]) rfl rfl rfl (fun _ => rfl) (fun _ => ⟨rfl, rfl⟩) (fun z11 => [oo z11.2, oo [(.str "sound"), (.str "falling"), (.str "kind"), (.str "late"), (.str "leans"), (.str "apart"), (.str "window"), (.str "passes")], oo [.non, (.bl true), (.str ""), (.str "a"), (.str "free"), v2, (.int 0), (.int 3), (.tup []), (.tup [(.str "a")]), (.lst [(.str "a")]), (.str "Ab"), (.str "toolonger"), v3, (.str "sound"), (.str "window")], vv d6, vv z8.1, .jk, .jk, .nv, .nv, nn]) (fun _ => rfl) fun z11 => (z_aNil (z_parK [oo z11.2, oo [(.str "sound"), (.str "falling"), (.str "kind"), (.str "late"), (.str "leans"), (.str "apart"), (.str "window"), (.str "passes")], oo [.non, (.bl true), (.str ""), (.str "a"), (.str "free"), v2, (.int 0), (.int 3), (.tup []), (.tup [(.str "a")]), (.lst [(.str "a")]), (.str "Ab"), (.str "toolonger"), v3, (.str "sound"), (.str "window")], vv d6, vv z8.1, .jk, .jk, vv z10.1, .nv, nn] [oo z11.2, oo [(.str "sound"), (.str "falling"), (.str "kind"), (.str "late"), (.str "leans"), (.str "apart"), (.str "window"), (.str "passes")], oo [.non, (.bl true), (.str ""), (.str "a"), (.str "free"), v2, (.int 0), (.int 3), (.tup []), (.tup [(.str "a")]), (.lst [(.str "a")]), (.str "Ab"), (.str "toolonger"), v3, (.str "sound"), (.str "window")], vv d6, vv z8.1, .jk, .jk, vv z10.1, vv z11.1, nn] rfl rfl rfl rfl (z_sq (z_set (z_lst (z_aCons (z_fz (z_ref rfl (z_fzR [oo z11.2, oo [(.str "sound"), (.str "falling"), (.str "kind"), (.str "late"), (.str "leans"), (.str "apart"), (.str "window"), (.str "passes")], oo [.non, (.bl true), (.str ""), (.str "a"), (.str "free"), v2, (.int 0), (.int 3), (.tup []), (.tup [(.str "a")]), (.lst [(.str "a")]), (.str "Ab"), (.str "toolonger"), v3, (.str "sound"), (.str "window")], vv d6, vv z8.1, .jk, .jk, vv z10.1, vv z11.1, nn] rfl (z_aCons (z_fz (z_op2 (z_op2 (z_slc (z_ref rfl (z_slN (z_slS (z_ref rfl (z_slK rfl fun i12 => (z_fin1V rfl fun v13 => (z_tup (z_aCons (z_fz (z_ref rfl (z_fzR [oo z11.2, oo [(.str "sound"), (.str "falling"), (.str "kind"), (.str "late"), (.str "leans"), (.str "apart"), (.str "window"), (.str "passes")], oo [.non, (.bl true), (.str ""), (.str "a"), (.str "free"), v2, (.int 0), (.int 3), (.tup []), (.tup [(.str "a")]), (.lst [(.str "a")]), (.str "Ab"), (.str "toolonger"), v3, (.str "sound"), (.str "window")], vv d6, vv z8.1, .jk, .jk, vv z10.1, vv z11.1, nn] rfl (z_aNil (z_tupK rfl rfl (z_fin2V rfl rfl fun v14 => (z_slc (z_ref rfl (z_slS (z_op2 (z_ref rfl (z_con (z_fin2V rfl rfl fun v15 => (z_slK rfl fun i16 => (z_slN (z_fin1V rfl fun v17 => (z_fin2V rfl rfl fun v18 => (z_fzR [oo z11.2, oo [(.str "sound"), (.str "falling"), (.str "kind"), (.str "late"), (.str "leans"), (.str "apart"), (.str "window"), (.str "passes")], oo [.non, (.bl true), (.str ""), (.str "a"), (.str "free"), v2, (.int 0), (.int 3), (.tup []), (.tup [(.str "a")]), (.lst [(.str "a")]), (.str "Ab"), (.str "toolonger"), v3, (.str "sound"), (.str "window")], vv d6, vv z8.1, .jk, .jk, vv z10.1, vv z11.1, nn] rfl (z_aCons (z_fz (z_op2 (z_ref rfl (z_tup (z_aCons (z_fz (z_ref rfl (z_fzR [oo z11.2, oo [(.str "sound"), (.str "falling"), (.str "kind"), (.str "late"), (.str "leans"), (.str "apart"), (.str "window"), (.str "passes")], oo [.non, (.bl true), (.str ""), (.str "a"), (.str "free"), v2, (.int 0), (.int 3), (.tup []), (.tup [(.str "a")]), (.lst [(.str "a")]), (.str "Ab"), (.str "toolonger"), v3, (.str "sound"), (.str "window")], vv d6, vv z8.1, .jk, .jk, vv z10.1, vv z11.1, nn] rfl (z_aNil (z_tupK rfl rfl (z_fin2V rfl rfl fun v19 => (z_fzR [oo z11.2, oo [(.str "sound"), (.str "falling"), (.str "kind"), (.str "late"), (.str "leans"), (.str "apart"), (.str "window"), (.str "passes")], oo [.non, (.bl true), (.str ""), (.str "a"), (.str "free"), v2, (.int 0), (.int 3), (.tup []), (.tup [(.str "a")]), (.lst [(.str "a")]), (.str "Ab"), (.str "toolonger"), v3, (.str "sound"), (.str "window")], vv d6, vv z8.1, .jk, .jk, vv z10.1, vv z11.1, nn] rfl (z_aCons (z_fz (z_op2 (z_slc (z_ref rfl (z_slN (z_slS (z_ref rfl (z_slK rfl fun i20 => (z_fin1V rfl fun v21 => (z_slc (z_ref rfl (z_slS (z_op2 (z_ref rfl (z_con (z_fin2V rfl rfl fun v22 => (z_slK rfl fun i23 => (z_slN (z_fin1V rfl fun v24 => (z_fin2V rfl rfl fun v25 => (z_fzR [oo z11.2, oo [(.str "sound"), (.str "falling"), (.str "kind"), (.str "late"), (.str "leans"), (.str "apart"), (.str "window"), (.str "passes")], oo [.non, (.bl true), (.str ""), (.str "a"), (.str "free"), v2, (.int 0), (.int 3), (.tup []), (.tup [(.str "a")]), (.lst [(.str "a")]), (.str "Ab"), (.str "toolonger"), v3, (.str "sound"), (.str "window")], vv d6, vv z8.1, .jk, .jk, vv z10.1, vv z11.1, nn] rfl (z_aCons (z_fz (z_callB (z_aCons (z_ref rfl (z_aNil (z_finLL rfl fun l26 => (z_fzR [oo z11.2, oo [(.str "sound"), (.str "falling"), (.str "kind"), (.str "late"), (.str "leans"), (.str "apart"), (.str "window"), (.str "passes")], oo [.non, (.bl true), (.str ""), (.str "a"), (.str "free"), v2, (.int 0), (.int 3), (.tup []), (.tup [(.str "a")]), (.lst [(.str "a")]), (.str "Ab"), (.str "toolonger"), v3, (.str "sound"), (.str "window")], vv d6, vv z8.1, .jk, .jk, vv z10.1, vv z11.1, nn] rfl (z_aCons (z_op1 (z_ref rfl (z_fin1V rfl fun v27 => (z_aNil (z_lstK rfl rfl (z_sto [oo z11.2, oo [(.str "sound"), (.str "falling"), (.str "kind"), (.str "late"), (.str "leans"), (.str "apart"), (.str "window"), (.str "passes")], oo [.non, (.bl true), (.str ""), (.str "a"), (.str "free"), v2, (.int 0), (.int 3), (.tup []), (.tup [(.str "a")]), (.lst [(.str "a")]), (.str "Ab"), (.str "toolonger"), v3, (.str "sound"), (.str "window")], vv d6, vv z8.1, oo [z8.1, v18, v19, v25, (.lst l26), v27], .jk, vv z10.1, vv z11.1, nn] rfl rfl (z_sq (z_set (z_lc (z_it (z_ref rfl (z_itS rfl (z_lcS (W := [oo z11.2, oo [(.str "sound"), (.str "falling"), (.str "kind"), (.str "late"), (.str "leans"), (.str "apart"), (.str "window"), (.str "passes")], oo [.non, (.bl true), (.str ""), (.str "a"), (.str "free"), v2, (.int 0), (.int 3), (.tup []), (.tup [(.str "a")]), (.lst [(.str "a")]), (.str "Ab"), (.str "toolonger"), v3, (.str "sound"), (.str "window")], vv d6, vv z8.1, kf [z8.1, v18, v19, v25, (.lst l26), v27], .jk, vv z10.1, vv z11.1, nn]) rfl rfl rfl Sub.rfl' rfl (fun d28 => (z_tgN [oo z11.2, oo [(.str "sound"), (.str "falling"), (.str "kind"), (.str "late"), (.str "leans"), (.str "apart"), (.str "window"), (.str "passes")], oo [.non, (.bl true), (.str ""), (.str "a"), (.str "free"), v2, (.int 0), (.int 3), (.tup []), (.tup [(.str "a")]), (.lst [(.str "a")]), (.str "Ab"), (.str "toolonger"), v3, (.str "sound"), (.str "window")], vv d6, vv z8.1, kf [z8.1, v18, v19, v25, (.lst l26), v27], .jk, vv z10.1, vv z11.1, vv d28] rfl rfl (z_yes (z_yes1 (z_fz (z_callF (z_aCons (z_ref rfl (z_aNil (z_call (Z := D) (A := (fun x : D => ((.val x : RV), [nn]))) (t__law_fits_v d28) rfl rfl rfl (fun _ => rfl) (fun _ => ⟨rfl, rfl⟩) (fun z30 => [oo z11.2, oo [(.str "sound"), (.str "falling"), (.str "kind"), (.str "late"), (.str "leans"), (.str "apart"), (.str "window"), (.str "passes")], oo [.non, (.bl true), (.str ""), (.str "a"), (.str "free"), v2, (.int 0), (.int 3), (.tup []), (.tup [(.str "a")]), (.lst [(.str "a")]), (.str "Ab"), (.str "toolonger"), v3, (.str "sound"), (.str "window")], vv d6, vv z8.1, kf [z8.1, v18, v19, v25, (.lst l26), v27], .jk, vv z10.1, vv z11.1, vv d28]) (fun _ => rfl) fun z30 => (z_fzR [oo z11.2, oo [(.str "sound"), (.str "falling"), (.str "kind"), (.str "late"), (.str "leans"), (.str "apart"), (.str "window"), (.str "passes")], oo [.non, (.bl true), (.str ""), (.str "a"), (.str "free"), v2, (.int 0), (.int 3), (.tup []), (.tup [(.str "a")]), (.lst [(.str "a")]), (.str "Ab"), (.str "toolonger"), v3, (.str "sound"), (.str "window")], vv d6, vv z8.1, kf [z8.1, v18, v19, v25, (.lst l26), v27], .jk, vv z10.1, vv z11.1, vv d28] rfl (z_lcV Sub.rfl')))))))))))) [oo z11.2, oo [(.str "sound"), (.str "falling"), (.str "kind"), (.str "late"), (.str "leans"), (.str "apart"), (.str "window"), (.str "passes")], oo [.non, (.bl true), (.str ""), (.str "a"), (.str "free"), v2, (.int 0), (.int 3), (.tup []), (.tup [(.str "a")]), (.lst [(.str "a")]), (.str "Ab"), (.str "toolonger"), v3, (.str "sound"), (.str "window")], vv d6, vv z8.1, oo [z8.1, v18, v19, v25, (.lst l26), v27], .jk, vv z10.1, vv z11.1, nn] rfl fun l29 => (z_sto [oo z11.2, oo [(.str "sound"), (.str "falling"), (.str "kind"), (.str "late"), (.str "leans"), (.str "apart"), (.str "window"), (.str "passes")], oo [.non, (.bl true), (.str ""), (.str "a"), (.str "free"), v2, (.int 0), (.int 3), (.tup []), (.tup [(.str "a")]), (.lst [(.str "a")]), (.str "Ab"), (.str "toolonger"), v3, (.str "sound"), (.str "window")], vv d6, vv z8.1, oo [z8.1, v18, v19, v25, (.lst l26), v27], oo l29, vv z10.1, vv z11.1, nn] rfl rfl (z_if (z_bOr (z_bNot (z_tst (z_op2 (z_ref rfl (z_con (z_fin2V rfl rfl fun v31 => (z_tstK rfl fun k32 => (z_bnd (A := fun (x33 : Bool) => x33) (E := fun (x33 : Bool) => [oo z11.2, oo [(.str "sound"), (.str "falling"), (.str "kind"), (.str "late"), (.str "leans"), (.str "apart"), (.str "window"), (.str "passes")], oo [.non, (.bl true), (.str ""), (.str "a"), (.str "free"), v2, (.int 0), (.int 3), (.tup []), (.tup [(.str "a")]), (.lst [(.str "a")]), (.str "Ab"), (.str "toolonger"), v3, (.str "sound"), (.str "window")], vv d6, vv z8.1, oo [z8.1, v18, v19, v25, (.lst l26), v27], .jk, vv z10.1, vv z11.1, nn]) (z_ite (fun _ => (z_end rfl (by exact (.keep (.keep (.keep (.keep (.keep (.keep (.fr rfl (.keep (.keep (.keep .nil))))))))))))) (fun _ => (z_endB (z_bNot (z_tst (z_callF (z_aCons (z_fz (z_lc (z_it (z_ref rfl (z_itS rfl (z_lcS (W := [oo z11.2, oo [(.str "sound"), (.str "falling"), (.str "kind"), (.str "late"), (.str "leans"), (.str "apart"), (.str "window"), (.str "passes")], oo [.non, (.bl true), (.str ""), (.str "a"), (.str "free"), v2, (.int 0), (.int 3), (.tup []), (.tup [(.str "a")]), (.lst [(.str "a")]), (.str "Ab"), (.str "toolonger"), v3, (.str "sound"), (.str "window")], vv d6, vv z8.1, kf [z8.1, v18, v19, v25, (.lst l26), v27], oo l29, vv z10.1, vv z11.1, nn]) rfl rfl rfl Sub.rfl' rfl (fun d34 => (z_tgN [oo z11.2, oo [(.str "sound"), (.str "falling"), (.str "kind"), (.str "late"), (.str "leans"), (.str "apart"), (.str "window"), (.str "passes")], oo [.non, (.bl true), (.str ""), (.str "a"), (.str "free"), v2, (.int 0), (.int 3), (.tup []), (.tup [(.str "a")]), (.lst [(.str "a")]), (.str "Ab"), (.str "toolonger"), v3, (.str "sound"), (.str "window")], vv d6, vv z8.1, kf [z8.1, v18, v19, v25, (.lst l26), v27], oo l29, vv z10.1, vv z11.1, vv d34] rfl rfl (z_yes (z_yes1 (z_fz (z_callF (z_aCons (z_ref rfl (z_aNil (z_call (Z := D) (A := (fun x : D => ((.val x : RV), [nn]))) (t_is_mark_v d34) rfl rfl rfl (fun _ => rfl) (fun _ => ⟨rfl, rfl⟩) (fun z36 => [oo z11.2, oo [(.str "sound"), (.str "falling"), (.str "kind"), (.str "late"), (.str "leans"), (.str "apart"), (.str "window"), (.str "passes")], oo [.non, (.bl true), (.str ""), (.str "a"), (.str "free"), v2, (.int 0), (.int 3), (.tup []), (.tup [(.str "a")]), (.lst [(.str "a")]), (.str "Ab"), (.str "toolonger"), v3, (.str "sound"), (.str "window")], vv d6, vv z8.1, kf [z8.1, v18, v19, v25, (.lst l26), v27], oo l29, vv z10.1, vv z11.1, vv d34]) (fun _ => rfl) fun z36 => (z_fzR [oo z11.2, oo [(.str "sound"), (.str "falling"), (.str "kind"), (.str "late"), (.str "leans"), (.str "apart"), (.str "window"), (.str "passes")], oo [.non, (.bl true), (.str ""), (.str "a"), (.str "free"), v2, (.int 0), (.int 3), (.tup []), (.tup [(.str "a")]), (.lst [(.str "a")]), (.str "Ab"), (.str "toolonger"), v3, (.str "sound"), (.str "window")], vv d6, vv z8.1, kf [z8.1, v18, v19, v25, (.lst l26), v27], oo l29, vv z10.1, vv z11.1, vv d34] rfl (z_lcV Sub.rfl')))))))))))) [oo z11.2, oo [(.str "sound"), (.str "falling"), (.str "kind"), (.str "late"), (.str "leans"), (.str "apart"), (.str "window"), (.str "passes")], oo [.non, (.bl true), (.str ""), (.str "a"), (.str "free"), v2, (.int 0), (.int 3), (.tup []), (.tup [(.str "a")]), (.lst [(.str "a")]), (.str "Ab"), (.str "toolonger"), v3, (.str "sound"), (.str "window")], vv d6, vv z8.1, oo [z8.1, v18, v19, v25, (.lst l26), v27], oo l29, vv z10.1, vv z11.1, nn] rfl fun l35 => (z_fzR [oo z11.2, oo [(.str "sound"), (.str "falling"), (.str "kind"), (.str "late"), (.str "leans"), (.str "apart"), (.str "window"), (.str "passes")], oo [.non, (.bl true), (.str ""), (.str "a"), (.str "free"), v2, (.int 0), (.int 3), (.tup []), (.tup [(.str "a")]), (.lst [(.str "a")]), (.str "Ab"), (.str "toolonger"), v3, (.str "sound"), (.str "window")], vv d6, vv z8.1, oo [z8.1, v18, v19, v25, (.lst l26), v27], oo l29, vv z10.1, vv z11.1, nn] rfl (z_aCons (z_ref rfl (z_aNil (z_call (Z := D) (A := (fun x : D => ((.val x : RV), [nn, lf l29]))) (t__law_same_vl 12 (.lst l35) l29) rfl rfl rfl (fun _ => rfl) (fun _ => ⟨rfl, rfl⟩) (fun z37 => [oo z11.2, oo [(.str "sound"), (.str "falling"), (.str "kind"), (.str "late"), (.str "leans"), (.str "apart"), (.str "window"), (.str "passes")], oo [.non, (.bl true), (.str ""), (.str "a"), (.str "free"), v2, (.int 0), (.int 3), (.tup []), (.tup [(.str "a")]), (.lst [(.str "a")]), (.str "Ab"), (.str "toolonger"), v3, (.str "sound"), (.str "window")], vv d6, vv z8.1, oo [z8.1, v18, v19, v25, (.lst l26), v27], .jk, vv z10.1, vv z11.1, nn]) (fun _ => rfl) fun z37 => (z_tstK rfl fun k38 => (z_end rfl Sub.rfl')))))))))))))))))))) fun x33 => (z_ite (fun _ => (z_ret (z_con (z_rtL rfl (by exact (.keep (.keep (.keep (.fr rfl (.fr rfl (.fr rfl (.keep (.fr rfl (.fr rfl (.keep .nil))))))))))))))) (fun _ => (z_nop (z_nxL (by exact (.keep (.keep (.keep (.val (.val (.fr rfl (.keep (.val (.val (.keep .nil)))))))))))))))))))))))))))))))))))))))))))))))))))))))))))))))))))))))))))))))))))))))))))))))))))))))))))))))))))))))))))))))))))))))))))))))))))))))))))))))))))))))))))) (fun s39 => (z_ret (z_con (z_fret rfl Sub.rfl' rfl)))) fun r7 => (z_fret rfl Sub.rfl' rfl)))))))))))))))))))))))))))))))))))))))))))))))))))))))))))))))))))))))))))))))))))))))
def p_law (script1 : D) : Res (D) := ((p__law_cells script1 (.int 3)).bind fun z2 => ((p__law_by_hand_right).bind fun z3 => ((asB z3).bind fun k4 => ((if k4 = true then ((ofV (lenD [(.lst z2)])).bind fun v7 => ((rngR v7).bind fun ds6 => ((lcP (fun d8 => ((p__law_box (.lst z2) d8).bind fun z10 => ((p__law_right z10).bind fun z11 => (.ok (some z11.1))))) ds6).bind fun l9 => ((ofV (allD [(.lst l9)])).bind fun v12 => (.ok v12))))) else (.ok (.bl false)) : Res (D)).bind fun x5 => (.ok x5)))))
theorem t_law_v (script1 : D) : FnR (X := D) f_law [.val script1] (p_law script1) ((fun x : D => ((.val x : RV), [nn]))) := by
  refine z_fn (X := D) (A := (fun x : D => ((.val x : RV), [nn]))) (k := 2) (body := b_law) (ss := [.val script1]) (r := p_law script1) [vv script1, nn, nn] rfl 1 rfl ?_ (fun _ => rfl)
  unfold p_law
  exact (z_last (z_sq (z_set (z_callF (z_aCons (z_ref rfl (z_aCons (z_con (z_aNil (z_call (Z := List D) (A := (fun x : List D => ((.tmp (.lst x) : RV), [nn, nn]))) (t__law_cells_vv script1 (.int 3)) rfl rfl rfl (fun _ => rfl) (fun _ => ⟨rfl, rfl⟩) (fun z2 => [vv script1, nn, nn]) (fun _ => rfl) fun z2 => (z_sto [vv script1, oo z2, nn] rfl rfl (z_ret (z_mv (z_eAnd (callR_go (Z := D) (A := (fun x : D => ((.val x : RV), []))) (t__law_by_hand_right_) rfl rfl (fun _ => rfl) (fun _ => ⟨rfl, rfl⟩) (fun z3 => [vv script1, oo z2, nn]) (fun _ => rfl) fun z3 => (z_asBK rfl fun k4 => (z_bnd (A := fun (x5 : D) => .val x5) (E := fun (x5 : D) => [vv script1, oo z2, nn]) (z_ite (fun _ => (z_endB (z_callB (z_aCons (z_lc (z_rng1 (z_callB (z_aCons (z_ref rfl (z_aNil (z_finLV rfl fun v7 => (z_rngK rfl fun ds6 => (z_lcD (W := [vv script1, oo z2, nn]) rfl Sub.rfl' (fun d8 => (z_tgN [vv script1, oo z2, vv d8] rfl rfl (z_yes (z_yes1 (z_fz (z_callF (z_aCons (z_callF (z_aCons (z_ref rfl (z_aCons (z_ref rfl (z_aNil (z_call (Z := List D) (A := (fun x : List D => ((.tmp (.lst x) : RV), [ll z2, nn]))) (t__law_box_lv z2 d8) rfl rfl rfl (fun _ => rfl) (fun _ => ⟨rfl, rfl⟩) (fun z10 => [vv script1, oo z2, vv d8]) (fun _ => rfl) fun z10 => (z_aNil (z_call (Z := D × List D) (A := (fun x : D × List D => ((.val x.1 : RV), [nn]))) (t__law_right_o z10) rfl rfl rfl (fun _ => rfl) (fun _ => ⟨rfl, rfl⟩) (fun z11 => [vv script1, oo z2, vv d8]) (fun _ => rfl) fun z11 => (z_fzR [vv script1, oo z2, vv d8] rfl (z_lcV Sub.rfl')))))))))))))))))) [vv script1, oo z2, nn] rfl fun l9 => (z_aNil (z_finLV rfl fun v12 => (z_end rfl Sub.rfl')))))))))))))))) (fun _ => (z_end rfl Sub.rfl'))) fun x5 => (z_mvR [vv script1, oo z2, nn] rfl (z_fret rfl Sub.rfl' rfl)))))))))))))))))))
end L_k75

/-! the law's own draws and sheets -/
namespace L_k75
open PySem L2 Fd Sp
theorem take_big {a b c t : Int} (ha : 0 < a) (ht : 0 < t) (ht2 : t < 1073741824) : p__law_take [.int a, .int b, .int c] (.int t) = .ok (.int (a.fmod t), [.int (a.fdiv t), .int b, .int c]) := by
  have h0 : t ≠ 0 := by omega
  have h1 : t.natAbs < 1073741824 := by omega
  unfold p__law_take
  simp only [ix30, ofV_val, Res.bind_ok, gtI, ofB_val, decide_eq_true ha, if_true, intD_int, modD_ok h0, fdivD_ok h0 h1, noX_ok, put30, ↓reduceIte]
theorem take_small {a b c t : Int} (ha : ¬ 0 < a) (hb : 0 ≤ b) (hb2 : b < 2 ^ 62) (hc : 0 ≤ c) (hc2 : c < 1000000000) (ht : 0 < t) (ht2 : t < 1073741824) : p__law_take [.int a, .int b, .int c] (.int t) = .ok (.int (drawn b c t), [.int a, .int b, .int (c + 1)]) := by
  have h0 : t ≠ 0 := by omega
  have m1 : mulD (.int 48271) (.int (c + 1)) = some (.val (.int (48271 * (c + 1)))) := mulD_ok (.inl (by decide))
  have m2 : mulD (.int (b + 48271 * (c + 1))) (.int (39373 + (c + 1))) = some (.val (.int ((b + 48271 * (c + 1)) * (39373 + (c + 1))))) := mulD_ok (.inr (by omega))
  have m3 : mulD (.int (once b c + (c + 1) + b.fdiv 1000003)) (.int (far b c)) = some (.val (.int ((once b c + (c + 1) + b.fdiv 1000003) * far b c))) := mulD_ok (.inr (by have := @far_bd b c; omega))
  have m4 : mulD (.int (twice b c)) (.int 48271) = some (.val (.int (twice b c * 48271))) := mulD_ok (.inr (by decide))
  have f1 : ((b + 48271 * (c + 1)) * (39373 + (c + 1))).fmod 2147483647 = once b c := rfl
  have f2 : (once b c).fmod 40009 + 7 = far b c := rfl
  have f3 : ((once b c + (c + 1) + b.fdiv 1000003) * far b c).fmod 2147483629 = twice b c := rfl
  have d1 : ∀ i : Int, fdivD (.int i) (.int 1000003) = some (.val (.int (i.fdiv 1000003))) := fun i => fdivD_ok (by decide) (by decide)
  have d2 : ∀ i : Int, fdivD (.int i) (.int 64) = some (.val (.int (i.fdiv 64))) := fun i => fdivD_ok (by decide) (by decide)
  have o1 : ∀ i : Int, modD (.int i) (.int 2147483647) = some (.val (.int (i.fmod 2147483647))) := fun i => modD_ok (by decide)
  have o2 : ∀ i : Int, modD (.int i) (.int 40009) = some (.val (.int (i.fmod 40009))) := fun i => modD_ok (by decide)
  have o3 : ∀ i : Int, modD (.int i) (.int 2147483629) = some (.val (.int (i.fmod 2147483629))) := fun i => modD_ok (by decide)
  have o4 : ∀ i : Int, modD (.int i) (.int 2147483587) = some (.val (.int (i.fmod 2147483587))) := fun i => modD_ok (by decide)
  unfold p__law_take
  simp only [ix30, ix31, ix32, ofV_val, Res.bind_ok, gtI, ofB_val, decide_eq_false ha, Bool.false_eq_true, if_false, ↓reduceIte, intD_int, addI, noX_ok, put32, m1, m2, m3, m4, o1, o2, o3, o4, d1, d2, f1, f2, f3, modD_ok h0]
  rfl
theorem take_ok {n : Nat} {l : List D} {t : Int} (h : Box n l) (hn : n < 1000000) (ht : 0 < t) (ht2 : t < 1073741824) : ∃ (r : Int) (l' : List D), 0 ≤ r ∧ r < t ∧ Box (n + 1) l' ∧ p__law_take l (.int t) = .ok (.int r, l') := by
  obtain ⟨a, b, c, rfl, h1, h2, h3, h4⟩ := h
  by_cases ha : 0 < a
  · exact ⟨_, _, Int.fmod_nonneg_of_pos _ ht, Int.fmod_lt_of_pos _ ht, ⟨_, _, _, rfl, h1, h2, h3, by omega⟩, take_big ha ht ht2⟩
  · exact ⟨_, _, Int.fmod_nonneg_of_pos _ ht, Int.fmod_lt_of_pos _ ht, ⟨_, _, _, rfl, h1, h2, by omega, by omega⟩, take_small ha h1 h2 h3 (by omega) ht ht2⟩
theorem of_ok {n : Nat} {l : List D} {xs : List D} (h : Box n l) (hn : n < 1000000) (hx : 0 < xs.length) (hl : xs.length < 1000000) : ∃ x l', x ∈ xs ∧ Box (n + 1) l' ∧ p__law_of l (.lst xs) = .ok (x, l') := by
  obtain ⟨r, l', r0, r1, hb, e⟩ := take_ok h hn (t := xs.length) (by omega) (by omega)
  obtain ⟨x, hx, _, ex⟩ := ixD_lst r0 r1
  refine ⟨x, l', hx, hb, ?_⟩
  unfold p__law_of
  simp only [lenD_lst, ofV_val, Res.bind_ok, e, ex]
end L_k75

/-! the script, the law's frame, same -/
namespace L_k75
open PySem L2 Fd Sp
theorem cut_to (ns : List Int) (m : Nat) : cutG ns none (some (m : Int)) = ns.take m := by
  unfold cutG
  have e : HT.sIx ns.length ns.length (some (m : Int)) = min m ns.length := HT.sIx_nat ns.length ns.length m
  rw [e]
  show (ns.drop 0).take (min m ns.length - 0) = _
  rw [List.drop_zero, Nat.sub_zero]
  by_cases h : m ≤ ns.length
  · rw [Nat.min_eq_left h]
  · rw [Nat.min_eq_right (by omega), List.take_length, List.take_of_length_le (by omega)]
theorem cut_from (ns : List Int) (m : Nat) (hl : ns.length ≤ 63) : cutG ns (some (m : Int)) (some 63) = ns.drop m := by
  unfold cutG
  have e1 : HT.sIx ns.length 0 (some (m : Int)) = min m ns.length := HT.sIx_nat ns.length 0 m
  have e2 : HT.sIx ns.length ns.length (some 63) = min 63 ns.length := HT.sIx_nat ns.length ns.length 63
  rw [e1, e2, Nat.min_eq_right hl]
  by_cases h : m ≤ ns.length
  · rw [Nat.min_eq_left h, List.take_of_length_le (by simp)]
  · rw [Nat.min_eq_right (by omega), List.drop_length, List.drop_of_length_le (by omega), List.take_nil]
theorem cells_ok (ns : List Int) (m : Nat) (hl : ns.length ≤ 63) (h0 : 0 < m) (h3 : m ≤ 3) : ∃ cs : List Int, cs.length ≤ 3 ∧ p__law_cells (.scr ns) (.int m) = .ok (cs.map D.int) := by
  let c0 : List Int := if ns.take m = [] then [0] else ns.take m
  have c0l : c0.length ≤ 3 := by
    show (if ns.take m = [] then [0] else ns.take m).length ≤ 3
    split
    · simp
    · simp; omega
  have or0 : (if (!((ns.take m).map D.int).isEmpty) = true then Res.ok ((ns.take m).map D.int) else Res.ok [.int 0] : Res (List D)) = .ok (c0.map D.int) := by
    by_cases h : ns.take m = []
    · have e : c0 = [0] := if_pos h
      rw [e, h]; rfl
    · have e : c0 = ns.take m := if_neg h
      rw [e]
      cases hh : ns.take m with
      | nil => exact absurd hh h
      | cons a b => rfl
  obtain ⟨s', ef, cs, rfl, hc⟩ := forR_inv (σ := List D) (b := (fun (s12 : List D) (d13 : D) => ((un2 d13).bind2 fun k14 great15 => ((ofV (intD [k14])).bind fun v16 => ((ofV (modD v16 (.int m))).bind fun v17 => ((ofV (ixD (.lst s12) v17)).bind fun v18 => ((ofV (addD k14 (.int 2))).bind fun v19 => ((ofV (mulD great15 v19)).bind fun v20 => ((ofV (addD v18 v20)).bind fun v21 => ((noX (.ok v17)).bind fun i22 => (putL s12 i22 v21).bind fun cells23 => (.ok cells23)))))))))))
    (fun _ s => ∃ cs : List Int, s = cs.map D.int ∧ cs.length = c0.length) (enumL ((ns.drop m).map D.int)) 0 (c0.map D.int) ⟨c0, rfl, rfl⟩ (by
    rintro i s d hd ⟨cs, rfl, hc⟩
    unfold enumL at hd
    rw [List.getElem?_mapIdx, List.getElem?_map] at hd
    obtain ⟨y, hy, rfl⟩ := Option.map_eq_some_iff.mp hd
    obtain ⟨z, hz, rfl⟩ := Option.map_eq_some_iff.mp hy
    have hi : i < (ns.drop m).length := (List.getElem?_eq_some_iff.mp hz).1
    rw [List.length_drop] at hi
    have c3 : c0.length = m := by
      have e : c0 = ns.take m := if_neg fun z => by
        have := congrArg List.length z
        rw [List.length_take, List.length_nil] at this
        omega
      rw [e, List.length_take]; omega
    have f0 := Int.fmod_nonneg_of_pos (i : Int) (b := (m : Int)) (by omega)
    have f1 := Int.fmod_lt_of_pos (i : Int) (b := (m : Int)) (by omega)
    have fm : modD (.int i) (.int m) = some (.val (.int ((i : Int).fmod m))) := modD_ok (by omega)
    generalize (i : Int).fmod m = j at f0 f1 fm
    obtain ⟨x, hx, hx2, ex⟩ := ixD_lst (xs := cs.map D.int) (r := j) f0 (by simp; omega)
    obtain ⟨c, _, rfl⟩ := List.mem_map.mp hx
    have mu : mulD (.int z) (.int (i + 2)) = some (.val (.int (z * (i + 2)))) := mulD_ok (.inr (by omega))
    have pu : putL (cs.map D.int) (.int j) (.int (c + z * (i + 2))) = .ok ((cs.set j.toNat (c + z * (i + 2))).map D.int) := by
      unfold putL
      have pa : Fd.putAt (.lst (cs.map D.int)) (.int j) (.int (c + z * (i + 2))) = some (.lst ((cs.set j.toNat (c + z * (i + 2))).map D.int)) := by
        show (ixN (cs.map D.int).length j).map _ = _
        unfold ixN
        rw [if_pos f0, if_pos (by simp; omega)]
        simp [List.map_set]
      rw [pa]
    refine ⟨(cs.set j.toNat (c + z * (i + 2))).map D.int, ?_, _, rfl, by simpa using hc⟩
    rw [un2_tup, Res.bind2_ok, intD_int, ofV_val, Res.bind_ok, fm, ofV_val, Res.bind_ok, ex, ofV_val, Res.bind_ok, addI, ofV_val, Res.bind_ok, mu, ofV_val, Res.bind_ok, addI, ofV_val, Res.bind_ok, noX_ok, Res.bind_ok, pu, Res.bind_ok])
  refine ⟨cs, by omega, ?_⟩
  unfold p__law_cells
  rw [asI_int, Res.bind_ok, sliceD_scr, ofL_tmp, Res.bind_ok, listD_lst, ofL_tmp, Res.bind_ok, tstR_lst, Res.bind_ok, cut_to, or0, Res.bind_ok, Res.bind_ok, asI_int, Res.bind_ok, sliceD_scr, ofL_tmp, Res.bind_ok, cut_from ns m hl, ef, Res.bind_ok]
theorem box_ok {cs : List Int} {k : Nat} (hk : k < cs.length) (hk2 : k ≤ 100) : ∃ bx, Box 0 bx ∧ p__law_box (.lst (cs.map D.int)) (.int k) = .ok bx := by
  obtain ⟨x, hx, hx2, ex⟩ := ixD_lst (xs := cs.map D.int) (r := (k : Int)) (by omega) (by simp; omega)
  obtain ⟨c, _, rfl⟩ := List.mem_map.mp hx
  have lt : decide ((k : Int) < ((cs.map D.int).length : Int)) = true := decide_eq_true (by simp; omega)
  have pw : powD (.int 10) (.int 18) = some (.val (.int 1000000000000000000)) := by rw [powD_ok (by decide) (by decide) (by decide)]; rfl
  have mu : ∀ (i : Int) (b : Bool), mulD (.int i) (.int (if b then 1 else 0)) = some (.val (.int (i * (if b then 1 else 0)))) := fun i b => mulD_ok (.inr (by cases b <;> decide))
  have mo : modD (.int c) (.int 2305843009213693951) = some (.val (.int (c.fmod 2305843009213693951))) := modD_ok (by decide)
  have f0 := Int.fmod_nonneg_of_pos c (b := 2305843009213693951) (by decide)
  have f1 := Int.fmod_lt_of_pos c (b := 2305843009213693951) (by decide)
  have m2 : mulD (.int 39373) (.int k) = some (.val (.int (39373 * (k : Int)))) := mulD_ok (.inl (by decide))
  unfold p__law_box
  rw [lenD_lst, ofV_val, Res.bind_ok, ltI, ofB_val, Res.bind_ok, lt, if_pos rfl, ex, ofV_val, Res.bind_ok, Res.bind_ok, absD_int, ofV_val, Res.bind_ok, Res.bind_ok, pw, ofV_val, Res.bind_ok, geI, ofV_val, Res.bind_ok, intD_bl, ofV_val, Res.bind_ok, mu, ofV_val, Res.bind_ok, intD_int, ofV_val, Res.bind_ok, mo, ofV_val, Res.bind_ok, m2, ofV_val, Res.bind_ok, addI, ofV_val, Res.bind_ok, addI, ofV_val, Res.bind_ok]
  exact ⟨_, ⟨_, _, _, rfl, by omega, by omega, by omega, by omega⟩, rfl⟩
/-! ### same -/
theorem same_seq {n : Nat} {ds : List D} {d : D} (hd : d = .lst ds ∨ d = .tup ds) (hf : ∀ e ∈ ds, p__law_same n e e = .ok (.bl true)) (hl : ds.length ≤ 100000) : p__law_same (n + 1) d d = .ok (.bl true) := by
  have cmp : ∀ b : D → Res (Option D), (∀ e ∈ ds, b (.tup [e, e]) = .ok (some (.bl true))) → lcP b (zipL ds ds) = .ok (ds.map fun _ => D.bl true) := fun b hb => by
    have z : zipL ds ds = ds.map fun e => D.tup [e, e] := by unfold zipL; rw [zip_self, List.map_map]; rfl
    rw [z]
    exact lcP_all (e := fun e => D.tup [e, e]) (g := fun _ => D.bl true) hb (by omega)
  have al : allD [.lst (ds.map fun _ => D.bl true)] = some (.val (.bl true)) := by
    show (boolsOf _).map _ = _
    rw [bools_true]
    simp
  rcases hd with rfl | rfl
  · have zr : zipR (.lst ds) (.lst ds) = .ok (zipL ds ds) := rfl
    unfold p__law_same
    simp [isiN, isi1, isiD, tyName, neD_bl, eqD_int, lenD_lst, tstR_bl, zr]
    rw [cmp _ fun e he => by simp [hf e he]]
    simp [al]
  · have zr : zipR (.tup ds) (.tup ds) = .ok (zipL ds ds) := rfl
    unfold p__law_same
    simp [isiN, isi1, isiD, tyName, neD_bl, eqD_int, lenD_tup, tstR_bl, zr]
    rw [cmp _ fun e he => by simp [hf e he]]
    simp [al]
theorem same_ok : ∀ {n : Nat} {d : D}, Nice n d → p__law_same n d d = .ok (.bl true)
  | 0, _, h => h.elim
  | n + 1, .tup ds, h => same_seq (.inr rfl) (fun e he => same_ok (h.2 e he)) h.1
  | n + 1, .lst ds, h => same_seq (.inl rfl) (fun e he => same_ok (h.2 e he)) h.1
  | _ + 1, .dK _, h => h.elim
  | _ + 1, .dT _, h => h.elim
  | _ + 1, .scr _, h => h.elim
  | _ + 1, .kt _, h => h.elim
  | n + 1, .non, _ => by unfold p__law_same; simp [isiN, isi1, isiD, tyName, isND, eqD_non, eqD_bl, tstR_bl]
  | n + 1, .bl b, _ => by unfold p__law_same; simp [isiN, isi1, isiD, tyName, isND, eqD_bl, tstR_bl]
  | n + 1, .int b, _ => by unfold p__law_same; simp [isiN, isi1, isiD, tyName, isND, eqD_int, tstR_bl, notD_bl]
  | n + 1, .str b, _ => by unfold p__law_same; simp [isiN, isi1, isiD, tyName, isND, eqD_str, eqD_bl, tstR_bl]
/-! ### the frame -/
theorem law_frame (hr : ∀ bx, Box 0 bx → ∃ z, p__law_right bx = .ok (.bl true, z)) : ∀ ns : List Int, ns.length ≤ 63 → p_law (.scr ns) = .ok (.bl true) := by
  intro ns hl
  obtain ⟨cs, cl, ec⟩ := cells_ok ns 3 hl (by omega) (by omega)
  have ec : p__law_cells (.scr ns) (.int 3) = .ok (cs.map D.int) := ec
  have lc : ∀ b : D → Res (Option D), (∀ k : Nat, k < cs.length → b (.int (0 + (k : Int))) = .ok (some (.bl true))) → lcP b (rngD 0 cs.length) = .ok ((List.range cs.length).map fun _ => D.bl true) := fun b hb =>
    lcP_all (e := fun k : Nat => D.int (0 + (k : Int))) (g := fun _ => D.bl true) (L := List.range cs.length) (fun k hk => hb k (List.mem_range.mp hk)) (by simp; omega)
  have al : allD [.lst ((List.range cs.length).map fun _ => D.bl true)] = some (.val (.bl true)) := by
    show (boolsOf _).map _ = _
    rw [bools_true]
    simp
  unfold p_law p__law_by_hand_right
  rw [ec, Res.bind_ok, Res.bind_ok, asB_bl, Res.bind_ok, if_pos rfl, lenD_lst, List.length_map, ofV_val, Res.bind_ok, rngR_nat (by omega), Res.bind_ok, lc _ fun k hk => ?_, Res.bind_ok, al, ofV_val, Res.bind_ok, Res.bind_ok]
  rw [show (0 + (k : Int)) = k by omega]
  obtain ⟨bx, hb, eb⟩ := box_ok hk (by omega)
  obtain ⟨z, er⟩ := hr bx hb
  rw [eb, Res.bind_ok, er, Res.bind_ok]
theorem law_plain (h : ∀ ns : List Int, ns.length ≤ 63 → p_law (.scr ns) = .ok (.bl true)) : ∀ ns : List Int, ns.length ≤ 63 → ∃ ss, f_law [.val (.scr ns)] = .ok (.val (.bl true)) ss := by
  intro ns hl
  have t := t_law_v (.scr ns)
  rw [h ns hl] at t
  obtain ⟨ss, e, _⟩ := t
  exact ⟨ss, e⟩
end L_k75

/-! names, numbers -/
namespace L_k75
open PySem L2 Fd Sp
theorem isi_eq {L n : Nat} {d : D} (h : Od L n d) (t : String) : isi1 t d = some (.val (.bl (isiD [t] d))) := by
  cases n with
  | zero => exact h.elim
  | succ n => cases d <;> first | rfl | exact h.elim
theorem isStr_str (x : Str) : isiD ["str"] (.str x) = true := by rfl
theorem isStr_no {d : D} (h : ∀ x, d ≠ .str x) : isiD ["str"] d = false := by
  cases d <;> first | rfl | (rename_i x; exact absurd rfl (h x))
theorem isTup_tup (x : List D) : isiD ["tuple"] (.tup x) = true := by rfl
theorem isTup_no {L n : Nat} {d : D} (ho : Od L n d) (h : ∀ x, d ≠ .tup x) : isiD ["tuple"] d = false := by
  cases n with
  | zero => exact ho.elim
  | succ n => cases d <;> first | rfl | exact ho.elim | (rename_i x; exact absurd rfl (h x))
theorem len_str {x : Str} (h : x.length ≤ 100) : lenD [.str x] = some (.val (.int x.length)) := by
  show (if _ then _ else _) = _
  rw [if_pos (Nat.le_trans h (by decide))]
theorem signs_len {x : Str} (h : x.length ≤ 100) : (signs x).length ≤ 1000000 := by
  unfold signs
  rw [List.length_map]
  have : x.cps.toList.length = x.length := by simp [Str.length]
  omega
theorem in_sign (neg : Bool) {x : Str} {s : D} (h : s ∈ signs x) : inD neg s (.str "abcdefghijklmnopqrstuvwxyz") = some (.val (.bl (signB s != neg))) := by
  unfold signs at h
  obtain ⟨c, _, rfl⟩ := List.mem_map.mp h
  rfl
theorem sign_pd {x : Str} {F : List D} (h : ∀ d ∈ F, d ∈ signs x) : ∀ d ∈ F, d.pl = true ∧ d.dep ≤ 1 := fun d hd => by
  obtain ⟨c, _, rfl⟩ := List.mem_map.mp (h d hd)
  simp [D.pl, D.dep, D.py, PyData.depth]
theorem eq_nil {F : List D} {n : Nat} (h : ∀ d ∈ F, d.pl = true ∧ d.dep ≤ n) (hn : n ≤ 60) : eqD (.lst F) (.lst []) = some (.val (.bl F.isEmpty)) ∧ neD (.lst F) (.lst []) = some (.val (.bl (!F.isEmpty))) := by
  obtain ⟨h1, h2⟩ := lst_pd h
  rw [eqD_of h1 rfl (by omega), neD_of h1 rfl (by omega)]
  cases F <;> exact ⟨rfl, rfl⟩
theorem filter_none {p : D → Bool} : ∀ S : List D, (S.filter fun s => !p s).isEmpty = S.all p
  | [] => rfl
  | a :: S => by
    have ih := filter_none (p := p) S
    cases h : p a <;> simp [h, ih]
theorem is_name_ok {L n : Nat} {d : D} (h : Od L n d) : p_is_name d = .ok (.bl (nameB d)) := by
  unfold p_is_name
  rw [isi_eq h, ofV_val, Res.bind_ok, asB_bl, Res.bind_ok]
  by_cases hs : ∃ x, d = .str x
  · obtain ⟨x, rfl⟩ := hs
    have hx : x.length ≤ 100 := by cases n with
      | zero => exact h.elim
      | succ n => exact h
    rw [isStr_str, if_pos rfl, len_str hx, ofV_val, Res.bind_ok, leI, ofB_val, Res.bind_ok, nameB_str]
    by_cases h1 : (1 : Int) ≤ x.length
    · rw [decide_eq_true h1, if_pos rfl, leI, ofV_val, Res.bind_ok, Res.bind_ok, asB_bl, Res.bind_ok]
      by_cases h2 : (x.length : Int) ≤ 8
      · have e : items (.str x) = .ok (signs x) := rfl
        rw [decide_eq_true h2, if_pos rfl, e, Res.bind_ok, lcP_id (g := fun s => .bl (signB s)) (fun s hs => ?_) (signs_len hx), Res.bind_ok, allD_map, ofV_val, Res.bind_ok]
        · simp only [Res.bind_ok, Bool.and_self, Bool.true_and]
        · rw [in_sign false hs, ofV_val, Res.bind_ok, Bool.bne_false]
      · rw [decide_eq_false h2, if_neg (by decide)]
        simp only [Res.bind_ok, Bool.and_false, Bool.false_and]
    · rw [decide_eq_false h1, if_neg (by decide), Res.bind_ok, asB_bl, Res.bind_ok, if_neg (by decide)]
      simp only [Res.bind_ok, Bool.and_false, Bool.false_and]
  · have hn : ∀ x, d ≠ .str x := fun x e => hs ⟨x, e⟩
    rw [isStr_no hn, if_neg (by decide), Res.bind_ok]
    cases d <;> first | rfl | (rename_i x; exact absurd rfl (hn x))
theorem is_num_ok {L n : Nat} {d : D} (h : Od L n d) : p_is_number d = .ok (.bl (numB d)) := by
  unfold p_is_number
  cases n with
  | zero => exact h.elim
  | succ n => cases d <;> first | rfl | exact h.elim
end L_k75

/-! marks: the program and the law say the same of all data -/
namespace L_k75
open PySem L2 Fd Sp
theorem Od.items {L n : Nat} {ds : List D} (h : Od L n (.tup ds)) : ds.length ≤ L ∧ ∀ e ∈ ds, Od L (n - 1) e := by
  cases n with
  | zero => exact h.elim
  | succ n => exact h
theorem is_name2_ok {L n : Nat} {d : D} (h : Od L n d) : p__law_is_name d = .ok (.bl (nameB d)) := by
  unfold p__law_is_name
  rw [isi_eq h, ofV_val, Res.bind_ok, asB_bl, Res.bind_ok]
  by_cases hs : ∃ x, d = .str x
  · obtain ⟨x, rfl⟩ := hs
    have hx : x.length ≤ 100 := by cases n with
      | zero => exact h.elim
      | succ n => exact h
    rw [isStr_str, if_pos rfl, len_str hx, ofV_val, Res.bind_ok, leI, ofB_val, Res.bind_ok, nameB_str]
    by_cases h1 : (1 : Int) ≤ x.length
    · rw [decide_eq_true h1, if_pos rfl, leI, ofV_val, Res.bind_ok, Res.bind_ok, asB_bl, Res.bind_ok]
      by_cases h2 : (x.length : Int) ≤ 8
      · have e : items (.str x) = .ok (signs x) := rfl
        rw [decide_eq_true h2, if_pos rfl, e, Res.bind_ok, lcP_idf (p := fun s => !signB s) (fun s hs => ?_) (signs_len hx), Res.bind_ok, (eq_nil (sign_pd fun d hd => (List.mem_filter.mp hd).1) (by decide)).1, ofV_val, Res.bind_ok, filter_none]
        · simp only [Res.bind_ok, Bool.and_self, Bool.true_and]
        · rw [in_sign true hs, ofB_val, Res.bind_ok, Bool.bne_true]
          cases signB s <;> rfl
      · rw [decide_eq_false h2, if_neg (by decide)]
        simp only [Res.bind_ok, Bool.and_false, Bool.false_and]
    · rw [decide_eq_false h1, if_neg (by decide), Res.bind_ok, asB_bl, Res.bind_ok, if_neg (by decide)]
      simp only [Res.bind_ok, Bool.and_false, Bool.false_and]
  · have hn : ∀ x, d ≠ .str x := fun x e => hs ⟨x, e⟩
    rw [isStr_no hn, if_neg (by decide), Res.bind_ok]
    cases d <;> first | rfl | (rename_i x; exact absurd rfl (hn x))
def geB : D → Bool
  | .int i => decide (0 ≤ i)
  | _ => false
def kindB : D → Bool
  | .str x => (["free", "falling", "rising", "ringed"] : List Str).any fun y => y == x
  | _ => false
theorem count0_ok {L n : Nat} {d : D} (h : Od L n d) : p__law_is_count d (.int 0) = .ok (.bl (geB d)) := by
  unfold p__law_is_count
  cases n with
  | zero => exact h.elim
  | succ n => cases d <;> first | rfl | exact h.elim
theorem countN_ok {L n : Nat} {d : D} (h : Od L n d) : p__law_is_count d .non = .ok (.bl (numB d)) := by
  unfold p__law_is_count
  cases n with
  | zero => exact h.elim
  | succ n => cases d <;> first | rfl | exact h.elim
def partB (s : Str) (d : D) : Bool := if (s == "name") = true then nameB d else if (s == "kind") = true then kindB d else numB d && (s == "number" || geB d)
theorem in_kt (x : Str) (l : List Str) : inD false (.str x) (.kt (l.map D.str)) = some (.val (.bl (l.any fun y => y == x))) := by
  have := (in_strs false x l).1
  rw [Bool.bne_false] at this
  exact this
theorem in_tup (x : Str) (l : List Str) : inD false (.str x) (.tup (l.map D.str)) = some (.val (.bl (l.any fun y => y == x))) := by
  have := (in_strs false x l).1
  rw [Bool.bne_false] at this
  exact this
theorem is_part_ok {L n : Nat} {s : Str} {d : D} (h : Od L n d) : p_is_part (.str s) d = .ok (.bl (partB s d)) := by
  unfold p_is_part partB
  rw [eqD_str, ofB_val, Res.bind_ok]
  by_cases h1 : (s == "name") = true
  · rw [if_pos h1, if_pos h1, is_name_ok h, Res.bind_ok]
  · rw [if_neg h1, if_neg h1, eqD_str, ofB_val, Res.bind_ok]
    by_cases h2 : (s == "kind") = true
    · rw [if_pos h2, if_pos h2, isi_eq h, ofV_val, Res.bind_ok, asB_bl, Res.bind_ok]
      by_cases hs : ∃ x, d = .str x
      · obtain ⟨x, rfl⟩ := hs
        rw [isStr_str, if_pos rfl, in_kt, ofV_val, Res.bind_ok, Res.bind_ok]
        rfl
      · have hn : ∀ x, d ≠ .str x := fun x e => hs ⟨x, e⟩
        rw [isStr_no hn, if_neg (by decide), Res.bind_ok]
        cases d <;> first | rfl | (rename_i x; exact absurd rfl (hn x))
    · rw [if_neg h2, if_neg h2, is_num_ok h, Res.bind_ok, asB_bl, Res.bind_ok]
      by_cases hs : ∃ x, d = .int x
      · obtain ⟨x, rfl⟩ := hs
        have e : numB (.int x) = true := rfl
        rw [e, if_pos rfl, eqD_str, ofV_val, Res.bind_ok, asB_bl, Res.bind_ok, Bool.true_and]
        by_cases h3 : (s == "number") = true
        · rw [h3]; rfl
        · rw [Bool.not_eq_true _ |>.mp h3, if_neg (by decide), geI]; rfl
      · have e : numB d = false := by cases d <;> first | rfl | exact absurd ⟨_, rfl⟩ hs
        rw [e]; rfl
def bitsB (w : Str) (bits : List D) : Bool := match t_SHAPES.lookup w with
  | none => false
  | some ss => decide (bits.length = ss.length) && (ss.zip bits).all fun p => partB p.1 p.2
def markB : D → Bool
  | .tup (.str w :: bits) => bitsB w bits
  | _ => false
theorem cut1 (ds : List D) : cutG ds (some 1) none = ds.drop 1 := by
  unfold cutG
  have e1 : HT.sIx ds.length 0 (some 1) = min 1 ds.length := HT.sIx_nat ds.length 0 1
  rw [e1, HT.sIx_none]
  by_cases h : 1 ≤ ds.length
  · rw [Nat.min_eq_left h, List.take_of_length_le (by simp)]
  · have : ds = [] := List.length_eq_zero_iff.mp (by omega)
    rw [this]; rfl
theorem slice1 (a : D) (ds : List D) : sliceD (.tup (a :: ds)) (some 1) none = some (.val (.tup ds)) := by rw [sliceD_tup, cut1]; rfl
theorem ix_tup_nat {ds : List D} {i : Nat} {d : D} (h : ds[i]? = some d) : ixD (.tup ds) (.int i) = some (.val d) := by
  have hi := (List.getElem?_eq_some_iff.mp h).1
  show (atI ds i).map _ = _
  unfold atI
  have e : ixN ds.length (i : Int) = some i := by
    unfold ixN
    rw [if_pos (by omega), if_pos (by omega)]
    simp
  rw [e]
  show (ds[i]?).map _ = _
  rw [h]; rfl
theorem ix0 (a : D) (ds : List D) : ixD (.tup (a :: ds)) (.int 0) = some (.val a) := ix_tup_nat (i := 0) rfl
theorem ix1 (a b : D) (ds : List D) : ixD (.tup (a :: b :: ds)) (.int 1) = some (.val b) := ix_tup_nat (i := 1) rfl
theorem ix2 (a b c : D) (ds : List D) : ixD (.tup (a :: b :: c :: ds)) (.int 2) = some (.val c) := ix_tup_nat (i := 2) rfl
theorem is_mark_ok {L n : Nat} {d : D} (h : Od L n d) (hL : L ≤ 1000) : p_is_mark d = .ok (.bl (markB d)) := by
  unfold p_is_mark
  rw [isi_eq h, ofV_val, Res.bind_ok, tstR_bl, Res.bind_ok]
  by_cases hs : ∃ x, d = .tup x
  · obtain ⟨ds, rfl⟩ := hs
    obtain ⟨hl, he⟩ := Od.items h
    rw [isTup_tup, if_neg (by decide), lenD_tup, ofV_val, Res.bind_ok, eqD_int, ofB_val, Res.bind_ok]
    cases ds with
    | nil => rfl
    | cons a bits =>
      have ha := he a (by simp)
      have hn : (((a :: bits : List D).length : Int) == 0) = false := by
        rw [beq_eq_false_iff_ne, List.length_cons]; omega
      rw [hn, if_neg (by decide), ix0, ofV_val, Res.bind_ok, isi_eq ha, ofV_val, Res.bind_ok, tstR_bl, Res.bind_ok]
      by_cases hsa : ∃ x, a = .str x
      · obtain ⟨w, rfl⟩ := hsa
        have ek : inKd true t_SHAPES (.str w) = some (.val (.bl ((t_SHAPES.lookup w).isSome != true))) := rfl
        have ei : ixKd t_SHAPES (.str w) = (t_SHAPES.lookup w).map fun ss => .val (.kt (ss.map D.str)) := rfl
        rw [isStr_str, if_neg (by decide), Res.bind_ok, ek, ofV_val, Res.bind_ok, tstR_bl, Res.bind_ok, Res.bind_ok, Res.bind_ok, Res.bind_ok]
        show _ = Res.ok (D.bl (bitsB w bits))
        unfold bitsB
        cases hw : t_SHAPES.lookup w with
        | none => rfl
        | some ss =>
          show _ = Res.ok (D.bl (decide (bits.length = ss.length) && (ss.zip bits).all fun p => partB p.1 p.2))
          have l1 : lenD [.kt (ss.map D.str)] = some (.val (.int ss.length)) := by
            show some (RV.val (.int ((ss.map D.str).length : Int))) = _
            rw [List.length_map]
          have zr : zipR (.kt (ss.map D.str)) (.tup bits) = .ok ((ss.zip bits).map fun q => .tup [.str q.1, q.2]) := by
            show Res.ok (zipL _ _) = _
            unfold zipL
            rw [List.zip_map_left, List.map_map]
            rfl
          rw [hw] at ei
          rw [if_neg (show ¬ ((some ss).isSome != true) = true from Bool.false_ne_true), Res.bind_ok, ei]
          show ((ofV (some (RV.val (.kt (ss.map D.str))))).bind _) = _
          rw [ofV_val, Res.bind_ok, l1, ofV_val, Res.bind_ok, Res.bind_ok, addI, ofV_val, Res.bind_ok, eqD_int, ofV_val, Res.bind_ok, asB_bl, Res.bind_ok]
          by_cases hlen : bits.length = ss.length
          · have e1 : (((.str w :: bits : List D).length : Int) == (ss.length : Int) + 1) = true := by
              rw [beq_iff_eq, List.length_cons]; omega
            rw [e1, if_pos rfl, asI_int, Res.bind_ok, slice1, ofV_val, Res.bind_ok, zr, Res.bind_ok, lcP_all (g := fun q : Str × D => D.bl (partB q.1 q.2)) (L := ss.zip bits) (fun q hq => ?_) (by rw [List.length_zip]; simp at hl; omega), Res.bind_ok, allD_map, ofV_val, Res.bind_ok, Res.bind_ok, decide_eq_true hlen, Bool.true_and]
            have hq2 := he q.2 (List.mem_cons_of_mem _ (List.of_mem_zip (a := q.1) (b := q.2) hq).2)
            rw [un2_tup, Res.bind2_ok, is_part_ok hq2, Res.bind_ok]
          · have e1 : (((.str w :: bits : List D).length : Int) == (ss.length : Int) + 1) = false := by
              rw [beq_eq_false_iff_ne, List.length_cons]; omega
            rw [e1, if_neg (by decide), Res.bind_ok, decide_eq_false hlen, Bool.false_and]
      · have hn : ∀ x, a ≠ .str x := fun x e => hsa ⟨x, e⟩
        rw [isStr_no hn]
        have : markB (.tup (a :: bits)) = false := by cases a <;> first | rfl | exact absurd rfl (hn _)
        rw [this]; rfl
  · have hn : ∀ x, d ≠ .tup x := fun x e => hs ⟨x, e⟩
    rw [isTup_no h hn]
    have : markB d = false := by cases d <;> first | rfl | exact absurd rfl (hn _)
    rw [this]; rfl
end L_k75

/-! the law's own look at marks -/
namespace L_k75
open PySem L2 Fd Sp
theorem neI (i j : Int) : neD (.int i) (.int j) = some (.val (.bl (!(i == j)))) := by simp [neD, D.pl, D.dep, D.py, PyData.depth, PyData.eqv]
theorem neS (i j : Str) : neD (.str i) (.str j) = some (.val (.bl (!(i == j)))) := by simp [neD, D.pl, D.dep, D.py, PyData.depth, PyData.eqv]
theorem bitsB_of {w : Str} {ss : List Str} (h : t_SHAPES.lookup w = some ss) (bits : List D) : bitsB w bits = (decide (bits.length = ss.length) && (ss.zip bits).all fun p => partB p.1 p.2) := by
  unfold bitsB; rw [h]
theorem part_count (d : D) : partB "count" d = geB d := by
  have e : partB "count" d = (numB d && (false || geB d)) := rfl
  rw [e]
  cases d <;> rfl
theorem part_number (d : D) : partB "number" d = numB d := by
  have e : partB "number" d = (numB d && (true || geB d)) := rfl
  rw [e]
  cases d <;> rfl
theorem part_name (d : D) : partB "name" d = nameB d := rfl
theorem part_kind (d : D) : partB "kind" d = kindB d := rfl
theorem len_no {bits : List D} {n : Int} (h : (bits.length : Int) ≠ n) : ((bits.length : Int) == n) = false := by
  rw [beq_eq_false_iff_ne]; exact h
theorem len_yes {bits : List D} {n : Int} (h : (bits.length : Int) = n) : ((bits.length : Int) == n) = true := by
  rw [beq_iff_eq]; exact h
theorem bits_no {bits : List D} {ss : List Str} (h : ¬ bits.length = ss.length) : decide (bits.length = ss.length) = false := decide_eq_false h
theorem one_of' {bits : List D} (h : bits.length = 1) : ∃ a, bits = [a] := List.length_eq_one_iff.mp h
theorem two_of' {bits : List D} (h : bits.length = 2) : ∃ a b, bits = [a, b] := by
  match bits, h with
  | [a, b], _ => exact ⟨a, b, rfl⟩
theorem three_of' {bits : List D} (h : bits.length = 3) : ∃ a b c, bits = [a, b, c] := by
  match bits, h with
  | [a, b, c], _ => exact ⟨a, b, c, rfl⟩
theorem fits_ok {L n : Nat} {d : D} (h : Od L n d) (hn : n ≤ 50) (hL : L ≤ 1000) : p__law_fits d = .ok (.bl (markB d)) := by
  unfold p__law_fits
  rw [isi_eq h, ofV_val, Res.bind_ok, tstR_bl, Res.bind_ok]
  by_cases hs : ∃ x, d = .tup x
  · obtain ⟨ds, rfl⟩ := hs
    obtain ⟨hl, he⟩ := Od.items h
    rw [isTup_tup, if_neg (by decide), eqD_of h.pd.1 rfl (by have := h.pd.2; omega), ofB_val, Res.bind_ok]
    cases ds with
    | nil => rfl
    | cons a bits =>
      have ha := he a (by simp)
      have hb : ∀ e ∈ bits, Od L (n - 1) e := fun e h => he e (List.mem_cons_of_mem _ h)
      have e1 : PyData.eqv (D.tup (a :: bits)).py (D.tup []).py = false := rfl
      rw [e1, if_neg (by decide), ix0, ofV_val, Res.bind_ok, isi_eq ha, ofV_val, Res.bind_ok, tstR_bl, Res.bind_ok, Res.bind_ok, Res.bind_ok]
      by_cases hsa : ∃ x, a = .str x
      · obtain ⟨w, rfl⟩ := hsa
        have i1 : inD false (.str w) (.tup [.str "sound", .str "falling"]) = some (.val (.bl ((["sound", "falling"] : List Str).any fun y => y == w))) := in_tup w ["sound", "falling"]
        have i2 : inD false (.str w) (.tup [.str "window", .str "passes"]) = some (.val (.bl ((["window", "passes"] : List Str).any fun y => y == w))) := in_tup w ["window", "passes"]
        have i3 : inD false (.str w) (.tup [.str "kind", .str "late", .str "apart"]) = some (.val (.bl ((["kind", "late", "apart"] : List Str).any fun y => y == w))) := in_tup w ["kind", "late", "apart"]
        have sl := slice1 (.str w) bits
        show _ = Res.ok (D.bl (bitsB w bits))
        rw [isStr_str, if_neg (by decide), Res.bind_ok, asI_int, Res.bind_ok, sl, ofV_val, Res.bind_ok, i1, ofB_val, Res.bind_ok]
        have nilT : eqD (.tup bits) (.tup []) = some (.val (.bl bits.isEmpty)) := by
          have hp : (D.tup bits).pl = true := plAll_all fun d hd => (hb d hd).pd.1
          have hd : (D.tup bits).dep ≤ 64 := by
            have := depAll_le (n := n) (l := bits) fun d hd => by have := (hb d hd).pd.2; have : n ≠ 0 := fun z => by rw [z] at h; exact h.elim
                                                                  omega
            simp only [D.dep, D.py, PyData.depth]; omega
          rw [eqD_of hp rfl hd]
          cases bits <;> rfl
        by_cases w1 : ((["sound", "falling"] : List Str).any fun y => y == w) = true
        · have lk : t_SHAPES.lookup w = some [] := by
            simp only [List.any_cons, List.any_nil, Bool.or_false, Bool.or_eq_true, beq_iff_eq] at w1
            rcases w1 with rfl | rfl <;> decide
          rw [if_pos w1, nilT, ofV_val, Res.bind_ok, bitsB_of lk]
          cases bits <;> rfl
        rw [if_neg w1, i2, ofB_val, Res.bind_ok]
        by_cases w2 : ((["window", "passes"] : List Str).any fun y => y == w) = true
        · have lk : t_SHAPES.lookup w = some (["count"] : List Str) := by
            simp only [List.any_cons, List.any_nil, Bool.or_false, Bool.or_eq_true, beq_iff_eq] at w2
            rcases w2 with rfl | rfl <;> decide
          rw [if_pos w2, lenD_tup, ofV_val, Res.bind_ok, eqD_int, ofV_val, Res.bind_ok, asB_bl, Res.bind_ok, bitsB_of lk]
          by_cases hlen : bits.length = 1
          · obtain ⟨x, rfl⟩ := one_of' hlen
            have hx := hb x (by simp)
            have g : (decide (([x] : List D).length = (["count"] : List Str).length) && (((["count"] : List Str).zip [x]).all fun p => partB p.1 p.2)) = (true && (partB "count" x && true)) := rfl
            rw [len_yes (n := 1) (by omega), if_pos rfl, ix0, ofV_val, Res.bind_ok, count0_ok hx, Res.bind_ok, Res.bind_ok, g, part_count, Bool.true_and, Bool.and_true]
          · have hlen' : ¬ bits.length = (["count"] : List Str).length := hlen
            rw [len_no (n := 1) (by omega), if_neg (by decide), Res.bind_ok, bits_no hlen', Bool.false_and]
        rw [if_neg w2, i3, ofB_val, Res.bind_ok]
        by_cases w3 : ((["kind", "late", "apart"] : List Str).any fun y => y == w) = true
        · rw [if_pos w3, lenD_tup, ofV_val, Res.bind_ok, neI, ofB_val, Res.bind_ok]
          obtain ⟨k, lk⟩ : ∃ k, t_SHAPES.lookup w = some (["name", k] : List Str) := by
            simp only [List.any_cons, List.any_nil, Bool.or_false, Bool.or_eq_true, beq_iff_eq] at w3
            rcases w3 with rfl | rfl | rfl
            · exact ⟨"kind", by decide⟩
            · exact ⟨"count", by decide⟩
            · exact ⟨"name", by decide⟩
          rw [bitsB_of lk]
          by_cases hlen : bits.length = 2
          · obtain ⟨x, y, rfl⟩ := two_of' hlen
            have hx := hb x (by simp)
            have hy := hb y (by simp)
            have g : (decide (([x, y] : List D).length = (["name", k] : List Str).length) && (((["name", k] : List Str).zip [x, y]).all fun p => partB p.1 p.2)) = (true && (nameB x && (partB k y && true))) := rfl
            rw [len_yes (n := 2) (by omega), if_neg (by decide), ix0, ofV_val, Res.bind_ok, is_name2_ok hx, Res.bind_ok, tstR_bl, Res.bind_ok, Res.bind_ok, g, Bool.true_and, Bool.and_true]
            by_cases hnx : nameB x = true
            · rw [hnx, if_neg (by decide), eqD_str, ofB_val, Res.bind_ok, Bool.true_and]
              simp only [List.any_cons, List.any_nil, Bool.or_false, Bool.or_eq_true, beq_iff_eq] at w3
              rcases w3 with rfl | rfl | rfl
              · have q1 : (("kind" : Str) == "late") = false := by decide
                have q2 : (("kind" : Str) == "apart") = false := by decide
                have hk : k = "kind" := by
                  have : t_SHAPES.lookup ("kind" : Str) = some (["name", "kind"] : List Str) := by decide
                  rw [this] at lk; cases lk; rfl
                subst hk
                rw [q1, if_neg (by decide), eqD_str, ofB_val, Res.bind_ok, q2, if_neg (by decide), ix1, ofV_val, Res.bind_ok, isi_eq hy, ofV_val, Res.bind_ok, asB_bl, Res.bind_ok, part_kind]
                by_cases hsy : ∃ z, y = .str z
                · obtain ⟨z, rfl⟩ := hsy
                  have i4 : inD false (.str z) (.tup [.str "free", .str "falling", .str "rising", .str "ringed"]) = some (.val (.bl ((["free", "falling", "rising", "ringed"] : List Str).any fun y => y == z))) := in_tup z ["free", "falling", "rising", "ringed"]
                  rw [isStr_str, if_pos rfl, Res.bind_ok, i4, ofV_val, Res.bind_ok, Res.bind_ok, Res.bind_ok]
                  rfl
                · have hn : ∀ x, y ≠ .str x := fun x e => hsy ⟨x, e⟩
                  rw [isStr_no hn, if_neg (by decide)]
                  cases y <;> first | rfl | exact absurd rfl (hn _)
              · have q1 : (("late" : Str) == "late") = true := by decide
                have hk : k = "count" := by
                  have : t_SHAPES.lookup ("late" : Str) = some (["name", "count"] : List Str) := by decide
                  rw [this] at lk; cases lk; rfl
                subst hk
                rw [q1, if_pos rfl, ix1, ofV_val, Res.bind_ok, count0_ok hy, Res.bind_ok, part_count]
              · have q1 : (("apart" : Str) == "late") = false := by decide
                have q2 : (("apart" : Str) == "apart") = true := by decide
                have hk : k = "name" := by
                  have : t_SHAPES.lookup ("apart" : Str) = some (["name", "name"] : List Str) := by decide
                  rw [this] at lk; cases lk; rfl
                subst hk
                rw [q1, if_neg (by decide), eqD_str, ofB_val, Res.bind_ok, q2, if_pos rfl, ix1, ofV_val, Res.bind_ok, is_name2_ok hy, Res.bind_ok, Res.bind_ok, part_name]
            · rw [Bool.not_eq_true _ |>.mp hnx, if_pos (by decide), Bool.false_and]
          · have hlen' : ¬ bits.length = (["name", k] : List Str).length := hlen
            rw [len_no (n := 2) (by omega), if_pos (by decide), Res.bind_ok, if_pos rfl, bits_no hlen', Bool.false_and]
        rw [if_neg w3, neS, ofB_val, Res.bind_ok]
        by_cases w4 : w = "leans"
        · subst w4
          have q1 : (("leans" : Str) == "leans") = true := by decide
          have lk : t_SHAPES.lookup ("leans" : Str) = some (["name", "name", "number"] : List Str) := by decide
          rw [bitsB_of lk, q1, if_neg (by decide), lenD_tup, ofV_val, Res.bind_ok, neI, ofB_val, Res.bind_ok]
          by_cases hlen : bits.length = 3
          · obtain ⟨x, y, z, rfl⟩ := three_of' hlen
            have hx := hb x (by simp)
            have hy := hb y (by simp)
            have hz := hb z (by simp)
            have g : (decide (([x, y, z] : List D).length = (["name", "name", "number"] : List Str).length) && (((["name", "name", "number"] : List Str).zip [x, y, z]).all fun p => partB p.1 p.2)) = (true && (nameB x && (nameB y && (partB "number" z && true)))) := rfl
            rw [len_yes (n := 3) (by omega), if_neg (by decide), ix0, ofV_val, Res.bind_ok, is_name2_ok hx, Res.bind_ok, tstR_bl, Res.bind_ok, g, Bool.true_and, Bool.and_true, part_number]
            by_cases hnx : nameB x = true
            · rw [hnx, if_neg (by decide), ix1, ofV_val, Res.bind_ok, is_name2_ok hy, Res.bind_ok, tstR_bl, Res.bind_ok, Res.bind_ok, Res.bind_ok, Res.bind_ok, Bool.true_and]
              by_cases hny : nameB y = true
              · rw [hny, if_neg (by decide), ix2, ofV_val, Res.bind_ok, countN_ok hz, Res.bind_ok, Bool.true_and]
              · rw [Bool.not_eq_true _ |>.mp hny, if_pos (by decide), Bool.false_and]
            · rw [Bool.not_eq_true _ |>.mp hnx, if_pos (by decide), Bool.false_and]
              rfl
          · have hlen' : ¬ bits.length = (["name", "name", "number"] : List Str).length := hlen
            rw [len_no (n := 3) (by omega), if_pos (by decide), bits_no hlen', Bool.false_and]
            rfl
        · have q1 : (w == "leans") = false := by rw [beq_eq_false_iff_ne]; exact w4
          have lk : t_SHAPES.lookup w = none := by
            simp only [List.any_cons, List.any_nil, Bool.or_false, Bool.or_eq_true, beq_iff_eq, not_or] at w1 w2 w3
            have f : ∀ k : Str, ¬ k = w → (w == k) = false := fun k h => by rw [beq_eq_false_iff_ne]; exact fun e => h e.symm
            simp only [List.lookup_cons, List.lookup_nil, f _ w1.1, f _ w1.2, f _ w2.1, f _ w2.2, f _ w3.1, f _ w3.2.1, f _ w3.2.2, q1]
          have : bitsB w bits = false := by unfold bitsB; rw [lk]
          rw [this, q1]
          rfl
      · have hn : ∀ x, a ≠ .str x := fun x e => hsa ⟨x, e⟩
        rw [isStr_no hn]
        have : markB (.tup (a :: bits)) = false := by cases a <;> first | rfl | exact absurd rfl (hn _)
        rw [this]; rfl
  · have hn : ∀ x, d ≠ .tup x := fun x e => hs ⟨x, e⟩
    rw [isTup_no h hn]
    have : markB d = false := by cases d <;> first | rfl | exact absurd rfl (hn _)
    rw [this]; rfl
end L_k75

/-! the law -/
namespace L_k75
open PySem L2 Fd Sp
def tags3 : List Str := ["a", "b", "abcdefgh"]
def words8 : List Str := ["sound", "falling", "kind", "late", "leans", "apart", "window", "passes"]
def kinds4 : List Str := ["free", "falling", "rising", "ringed"]
theorem tag_name : ∀ t ∈ tags3, nameB (.str t) = true := by decide
theorem tag_len : ∀ t ∈ tags3, t.length ≤ 100 := by decide
theorem word_len : ∀ t ∈ words8, t.length ≤ 100 := by decide
theorem kind_len : ∀ t ∈ kinds4, t.length ≤ 100 := by decide
theorem kind_ok : ∀ t ∈ kinds4, kindB (.str t) = true := by decide
theorem strs_of {n : Nat} {l : List D} {xs : List Str} (h : Box n l) (hn : n < 1000000) (hx : 0 < xs.length) (hl : xs.length < 1000000) : ∃ x l', x ∈ xs ∧ Box (n + 1) l' ∧ p__law_of l (.lst (xs.map D.str)) = .ok (.str x, l') := by
  obtain ⟨x, l', hx, hb, e⟩ := of_ok (xs := xs.map D.str) h hn (by rw [List.length_map]; exact hx) (by rw [List.length_map]; exact hl)
  obtain ⟨y, hy, rfl⟩ := List.mem_map.mp hx
  exact ⟨y, l', hy, hb, e⟩
theorem od_of {L : Nat} {ds : List D} (hl : ds.length ≤ L) (h : ∀ d ∈ ds, Od L 1 d) : Od L 2 (.tup ds) := ⟨hl, h⟩
theorem note_ok {n : Nat} {bx : List D} (hb : Box n bx) (hn : n < 900000) : ∃ (ds : List D) (b' : List D), ds ≠ [] ∧ ds.length ≤ 4 ∧ (∀ d ∈ ds, Od 10 1 d) ∧ markB (.tup ds) = true ∧ Box (n + 4) b' ∧
    p__law_note bx (.lst [(.str "a"), (.str "b"), (.str "abcdefgh")]) (.lst [(.str "sound"), (.str "falling"), (.str "kind"), (.str "late"), (.str "leans"), (.str "apart"), (.str "window"), (.str "passes")]) = .ok (.tup ds, b') := by
  obtain ⟨w, b1, hw, hb1, e1⟩ := strs_of (xs := words8) hb (by omega) (by decide) (by decide)
  obtain ⟨t, b2, ht, hb2, e2⟩ := strs_of (xs := tags3) hb1 (by omega) (by decide) (by decide)
  obtain ⟨u, b3, hu, hb3, e3⟩ := strs_of (xs := tags3) hb2 (by omega) (by decide) (by decide)
  have e1 : p__law_of bx (.lst [(.str "sound"), (.str "falling"), (.str "kind"), (.str "late"), (.str "leans"), (.str "apart"), (.str "window"), (.str "passes")]) = .ok (.str w, b1) := e1
  have e2 : p__law_of b1 (.lst [(.str "a"), (.str "b"), (.str "abcdefgh")]) = .ok (.str t, b2) := e2
  have e3 : p__law_of b2 (.lst [(.str "a"), (.str "b"), (.str "abcdefgh")]) = .ok (.str u, b3) := e3
  have i1 : inD false (.str w) (.tup [.str "sound", .str "falling"]) = some (.val (.bl ((["sound", "falling"] : List Str).any fun y => y == w))) := in_tup w ["sound", "falling"]
  have ow : Od 10 1 (.str w) := word_len w hw
  have ot : Od 10 1 (.str t) := tag_len t ht
  have ou : Od 10 1 (.str u) := tag_len u hu
  have nt := tag_name t ht
  have nu := tag_name u hu
  have oi : ∀ i : Int, Od 10 1 (.int i) := fun i => trivial
  have m1 : ∀ {x : D}, Od 10 1 x → ∀ d ∈ [x], Od 10 1 d := fun hx d h => by cases List.mem_singleton.mp h; exact hx
  have mc : ∀ {x : D} {l : List D}, Od 10 1 x → (∀ d ∈ l, Od 10 1 d) → ∀ d ∈ x :: l, Od 10 1 d := fun hx hl d h => (List.mem_cons.mp h).elim (fun e => e ▸ hx) (hl d)
  unfold p__law_note
  rw [e1, Res.bind_ok, e2, Res.bind_ok, e3, Res.bind_ok]
  dsimp only
  rw [i1, ofB_val, Res.bind_ok]
  by_cases w1 : ((["sound", "falling"] : List Str).any fun y => y == w) = true
  · rw [if_pos w1]
    have lk : t_SHAPES.lookup w = some [] := by
      simp only [List.any_cons, List.any_nil, Bool.or_false, Bool.or_eq_true, beq_iff_eq] at w1
      rcases w1 with rfl | rfl <;> decide
    refine ⟨[.str w], b3, by simp, by simp, m1 ow, ?_, hb3.mono (by omega), rfl⟩
    show bitsB w [] = true
    rw [bitsB_of lk]
    rfl
  rw [if_neg w1, eqD_str, ofB_val, Res.bind_ok]
  by_cases w2 : (w == "kind") = true
  · obtain ⟨k, b4, hk, hb4, e4⟩ := strs_of (xs := kinds4) hb3 (by omega) (by decide) (by decide)
    have e4 : p__law_of b3 (.lst [(.str "free"), (.str "falling"), (.str "rising"), (.str "ringed")]) = .ok (.str k, b4) := e4
    rw [if_pos w2, e4, Res.bind_ok]
    refine ⟨[.str w, .str t, .str k], b4, by simp, by simp, mc ow (mc ot (m1 (kind_len k hk))), ?_, hb4.mono (by omega), rfl⟩
    have lk : t_SHAPES.lookup w = some (["name", "kind"] : List Str) := by rw [beq_iff_eq.mp w2]; decide
    show bitsB w [.str t, .str k] = true
    rw [bitsB_of lk]
    show (true && (nameB (.str t) && (kindB (.str k) && true))) = true
    rw [nt, kind_ok k hk]; rfl
  rw [if_neg w2, eqD_str, ofB_val, Res.bind_ok]
  by_cases w3 : (w == "late") = true
  · obtain ⟨r, b4, r0, r1, hb4, e4⟩ := take_ok (t := 4) hb3 (by omega) (by omega) (by omega)
    rw [if_pos w3, e4, Res.bind_ok]
    refine ⟨[.str w, .str t, .int r], b4, by simp, by simp, mc ow (mc ot (m1 (oi r))), ?_, hb4.mono (by omega), rfl⟩
    have lk : t_SHAPES.lookup w = some (["name", "count"] : List Str) := by rw [beq_iff_eq.mp w3]; decide
    show bitsB w [.str t, .int r] = true
    rw [bitsB_of lk]
    show (true && (nameB (.str t) && (partB "count" (.int r) && true))) = true
    rw [nt, part_count]
    show (true && (true && (decide (0 ≤ r) && true))) = true
    rw [decide_eq_true r0]; rfl
  rw [if_neg w3, eqD_str, ofB_val, Res.bind_ok]
  by_cases w4 : (w == "leans") = true
  · obtain ⟨r, b4, r0, r1, hb4, e4⟩ := take_ok (t := 9) hb3 (by omega) (by omega) (by omega)
    rw [if_pos w4, e4, Res.bind_ok]
    dsimp only
    rw [subI, ofV_val, Res.bind_ok]
    refine ⟨[.str w, .str t, .str u, .int (r - 4)], b4, by simp, by simp, mc ow (mc ot (mc ou (m1 (oi _)))), ?_, hb4.mono (by omega), rfl⟩
    have lk : t_SHAPES.lookup w = some (["name", "name", "number"] : List Str) := by rw [beq_iff_eq.mp w4]; decide
    show bitsB w [.str t, .str u, .int (r - 4)] = true
    rw [bitsB_of lk]
    show (true && (nameB (.str t) && (nameB (.str u) && (partB "number" (.int (r - 4)) && true)))) = true
    rw [nt, nu, part_number]; rfl
  rw [if_neg w4, eqD_str, ofB_val, Res.bind_ok]
  by_cases w5 : (w == "apart") = true
  · rw [if_pos w5]
    refine ⟨[.str w, .str t, .str u], b3, by simp, by simp, mc ow (mc ot (m1 ou)), ?_, hb3.mono (by omega), rfl⟩
    have lk : t_SHAPES.lookup w = some (["name", "name"] : List Str) := by rw [beq_iff_eq.mp w5]; decide
    show bitsB w [.str t, .str u] = true
    rw [bitsB_of lk]
    show (true && (nameB (.str t) && (nameB (.str u) && true))) = true
    rw [nt, nu]; rfl
  rw [if_neg w5, eqD_str, ofB_val, Res.bind_ok]
  have lk : t_SHAPES.lookup w = some (["count"] : List Str) := by
    simp only [words8, List.mem_cons, List.not_mem_nil, or_false] at hw
    rcases hw with rfl | rfl | rfl | rfl | rfl | rfl | rfl | rfl
    · exact absurd (by decide) w1
    · exact absurd (by decide) w1
    · exact absurd (by decide) w2
    · exact absurd (by decide) w3
    · exact absurd (by decide) w4
    · exact absurd (by decide) w5
    · decide
    · decide
  have fin : ∀ m : Int, 0 < m → m < 100 → ∃ (ds : List D) (b' : List D), ds ≠ [] ∧ ds.length ≤ 4 ∧ (∀ d ∈ ds, Od 10 1 d) ∧ markB (.tup ds) = true ∧ Box (n + 4) b' ∧ ((p__law_take b3 (.int m)).bind fun z18 => (Res.ok ((D.tup [.str w, z18.1]), z18.2))) = .ok (.tup ds, b') := fun m h0 h1 => by
    obtain ⟨r, b4, r0, r1, hb4, e4⟩ := take_ok (t := m) hb3 (by omega) h0 (by omega)
    rw [e4, Res.bind_ok]
    refine ⟨[.str w, .int r], b4, by simp, by simp, mc ow (m1 (oi r)), ?_, hb4.mono (by omega), rfl⟩
    show bitsB w [.int r] = true
    rw [bitsB_of lk]
    show (true && (partB "count" (.int r) && true)) = true
    rw [part_count]
    show (true && (decide (0 ≤ r) && true)) = true
    rw [decide_eq_true r0]; rfl
  cases w == "window"
  · rw [if_neg (by decide), Res.bind_ok]; exact fin 4 (by omega) (by omega)
  · rw [if_pos rfl, Res.bind_ok]; exact fin 7 (by omega) (by omega)
end L_k75

/-! the law -/
namespace L_k75
open PySem L2 Fd Sp
theorem cut_to' (ds : List D) {r : Int} (h : 0 ≤ r) : cutG ds none (some r) = ds.take r.toNat := by
  obtain ⟨m, rfl⟩ := Int.eq_ofNat_of_zero_le h
  unfold cutG
  have e : HT.sIx ds.length ds.length (some (m : Int)) = min m ds.length := HT.sIx_nat ds.length ds.length m
  rw [e]
  show (ds.drop 0).take (min m ds.length - 0) = ds.take m
  rw [List.drop_zero, Nat.sub_zero]
  by_cases h : m ≤ ds.length
  · rw [Nat.min_eq_left h]
  · rw [Nat.min_eq_right (by omega), List.take_length, List.take_of_length_le (by omega)]
theorem cut_from' (ds : List D) {r : Int} (h : 0 ≤ r) : cutG ds (some r) none = ds.drop r.toNat := by
  obtain ⟨m, rfl⟩ := Int.eq_ofNat_of_zero_le h
  unfold cutG
  have e1 : HT.sIx ds.length 0 (some (m : Int)) = min m ds.length := HT.sIx_nat ds.length 0 m
  rw [e1, HT.sIx_none]
  show _ = ds.drop m
  by_cases h : m ≤ ds.length
  · rw [Nat.min_eq_left h, List.take_of_length_le (by simp)]
  · rw [Nat.min_eq_right (by omega), List.drop_length, List.drop_of_length_le (by omega), List.take_nil]
theorem slice_to (ds : List D) {r : Int} (h : 0 ≤ r) : sliceD (.tup ds) none (some r) = some (.val (.tup (ds.take r.toNat))) := by rw [sliceD_tup, cut_to' ds h]
theorem slice_from (ds : List D) {r : Int} (h : 0 ≤ r) : sliceD (.tup ds) (some r) none = some (.val (.tup (ds.drop r.toNat))) := by rw [sliceD_tup, cut_from' ds h]
theorem addT_ok {xs ys : List D} (h : xs.length + ys.length ≤ 1000000) : addD (.tup xs) (.tup ys) = some (.val (.tup (xs ++ ys))) := by
  show (if _ then _ else _) = _
  rw [if_pos (Nat.le_trans h mil_line)]
theorem ixD_tup {xs : List D} {r : Int} (h0 : 0 ≤ r) (h1 : r < xs.length) : ∃ x, x ∈ xs ∧ ixD (.tup xs) (.int r) = some (.val x) := by
  obtain ⟨x, a, _, b⟩ := ixD_lst h0 h1
  exact ⟨x, a, b⟩
def oddL : List D := [.non, (.bl true), (.str ""), (.str "a"), (.str "free"), .int (-1), (.int 0), (.int 3), (.tup []), (.tup [(.str "a")]), (.lst [(.str "a")]), (.str "Ab"), (.str "toolonger"), .int 10000000000000000000000000000000000000000, (.str "sound"), (.str "window")]
theorem odd_od : ∀ x ∈ oddL, Od 10 2 x := by
  intro x hx
  simp only [oddL, List.mem_cons, List.not_mem_nil, or_false] at hx
  rcases hx with rfl | rfl | rfl | rfl | rfl | rfl | rfl | rfl | rfl | rfl | rfl | rfl | rfl | rfl | rfl | rfl
  all_goals simp [Od]
  all_goals first | decide | skip
theorem od_t {ds : List D} (hl : ds.length ≤ 10) (h : ∀ d ∈ ds, Od 10 2 d) : Od 10 3 (.tup ds) := ⟨hl, h⟩
theorem right_ok : ∀ bx, Box 0 bx → ∃ z, p__law_right bx = .ok (.bl true, z) := by
  intro bx hb
  have rg : rngR (.int 40) = .ok (rngD 0 40) := rngR_nat (n := 40) (by omega)
  have pw : powD (.int 10) (.int 40) = some (.val (.int 10000000000000000000000000000000000000000)) := by rw [powD_ok (by decide) (by decide) (by decide)]; rfl
  unfold p__law_right
  rw [negI, ofV_val, Res.bind_ok, pw, ofV_val, Res.bind_ok, rg, Res.bind_ok]
  refine right_loop 10 40 hb (fun n l dd hn hl => ?_) fun s => ⟨_, rfl⟩
  obtain ⟨ds, l1, hne, hlen, hod, hmk, b1, e1⟩ := note_ok hl (by omega)
  have hpos : 0 < ds.length := List.length_pos_iff.mpr hne
  obtain ⟨k, l2, k0, k1, b2, e2⟩ := take_ok (t := ds.length) b1 (by omega) (by omega) (by omega)
  obtain ⟨x, l3, hx, b3, e3⟩ := of_ok (xs := oddL) b2 (by omega) (by decide) (by decide)
  have e3 : p__law_of l2 (.lst [.non, (.bl true), (.str ""), (.str "a"), (.str "free"), .int (-1), (.int 0), (.int 3), (.tup []), (.tup [(.str "a")]), (.lst [(.str "a")]), (.str "Ab"), (.str "toolonger"), .int 10000000000000000000000000000000000000000, (.str "sound"), (.str "window")]) = .ok (x, l3) := e3
  have ox : Od 10 2 x := odd_od x hx
  have od2 : ∀ d ∈ ds, Od 10 2 d := fun d h => (hod d h).up
  have hto := slice_to ds k0
  have hfr1 := slice_from ds (r := k + 1) (by omega)
  have lt : (ds.take k.toNat).length = k.toNat := by rw [List.length_take]; omega
  have mt : ∀ e ∈ ds.take k.toNat, Od 10 2 e := fun e h => od2 e (List.mem_of_mem_take h)
  have md : ∀ m, ∀ e ∈ ds.drop m, Od 10 2 e := fun m e h => od2 e (List.mem_of_mem_drop h)
  have mm : ∀ {xs ys : List D}, (∀ e ∈ xs, Od 10 2 e) → (∀ e ∈ ys, Od 10 2 e) → ∀ e ∈ xs ++ ys, Od 10 2 e := fun hx hy e h => (List.mem_append.mp h).elim (hx e) (hy e)
  have m1 : ∀ {x : D}, Od 10 2 x → ∀ e ∈ [x], Od 10 2 e := fun hx e h => by cases List.mem_singleton.mp h; exact hx
  refine ⟨l3, ?_, b3.mono (by omega)⟩
  rw [e1, Res.bind_ok]
  dsimp only
  rw [lenD_tup, ofV_val, Res.bind_ok, e2, Res.bind_ok]
  dsimp only
  rw [e3, Res.bind_ok]
  dsimp only
  have a1 : addD (.tup (ds.take k.toNat)) (.tup [x]) = some (.val (.tup (ds.take k.toNat ++ [x]))) := addT_ok (by rw [lt]; simp; omega)
  have a2 : addD (.tup (ds.take k.toNat ++ [x])) (.tup (ds.drop (k + 1).toNat)) = some (.val (.tup (ds.take k.toNat ++ [x] ++ ds.drop (k + 1).toNat))) := addT_ok (by rw [List.length_append, lt, List.length_drop]; simp; omega)
  have a3 : addD (.tup ds) (.tup [x]) = some (.val (.tup (ds ++ [x]))) := addT_ok (by simp; omega)
  have a4 : addD (.tup (ds.take k.toNat)) (.tup (ds.drop (k + 1).toNat)) = some (.val (.tup (ds.take k.toNat ++ ds.drop (k + 1).toNat))) := addT_ok (by rw [lt, List.length_drop]; omega)
  have rv : revTD (.tup ds) = some (.val (.tup ds.reverse)) := rfl
  simp only [asI_int, Res.bind_ok, hto, ofV_val, a1, addI, hfr1, a2, a3, a4, listD_tup, ofL_tmp, rv]
  have ods : ∀ d ∈ [D.tup ds, .tup (ds.take k.toNat ++ [x] ++ ds.drop (k + 1).toNat), .tup (ds ++ [x]), .tup (ds.take k.toNat ++ ds.drop (k + 1).toNat), .lst ds, .tup ds.reverse], Od 10 3 d := by
    intro d hd
    simp only [List.mem_cons, List.not_mem_nil, or_false] at hd
    rcases hd with rfl | rfl | rfl | rfl | rfl | rfl
    · exact od_t (by omega) od2
    · exact od_t (by rw [List.length_append, List.length_append, lt, List.length_drop]; simp; omega) (mm (mm mt (m1 ox)) (md _))
    · exact od_t (by simp; omega) (mm od2 (m1 ox))
    · exact od_t (by rw [List.length_append, lt, List.length_drop]; omega) (mm mt (md _))
    · exact ⟨by omega, od2⟩
    · exact od_t (by rw [List.length_reverse]; omega) fun e h => od2 e (List.mem_reverse.mp h)
  generalize hS : [D.tup ds, .tup (ds.take k.toNat ++ [x] ++ ds.drop (k + 1).toNat), .tup (ds ++ [x]), .tup (ds.take k.toNat ++ ds.drop (k + 1).toNat), .lst ds, .tup ds.reverse] = S at ods
  have lS : S.length = 6 := by rw [← hS]; rfl
  have ix : ixD (.lst (S.map fun d => D.bl (markB d))) (.int 0) = some (.val (.bl true)) := by
    rw [← hS, ← hmk]; rfl
  have nice : Nice 12 (.lst (S.map fun d => D.bl (markB d))) := ⟨by rw [List.length_map]; omega, fun d hd => by
    obtain ⟨e, _, rfl⟩ := List.mem_map.mp hd
    trivial⟩
  rw [lcP_id (g := fun d => D.bl (markB d)) (fun d hd => by rw [fits_ok (ods d hd) (by omega) (by omega), Res.bind_ok]) (by omega), Res.bind_ok, ix, ofV_val, Res.bind_ok, tstR_bl, Res.bind_ok, if_neg (by decide)]
  rw [lcP_id (g := fun d => D.bl (markB d)) (fun d hd => by rw [is_mark_ok (ods d hd) (by omega), Res.bind_ok]) (by omega), Res.bind_ok, same_ok nice, Res.bind_ok, tstR_bl, Res.bind_ok, Res.bind_ok, if_neg (by decide)]
theorem plain_law : ∀ ns : List Int, ns.length ≤ 63 → ∃ ss, f_law [.val (.scr ns)] = .ok (.val (.bl true)) ss := law_plain (law_frame right_ok)
end L_k75

namespace L_k75
open PySem L2 Fd
def dd__law_box : He.DefD := ⟨("_law_box", none), "_law_box", "_law_box", defArgs s__law_box, defBody s__law_box, defScope s__law_box, [], []⟩
def dd__law_cells : He.DefD := ⟨("_law_cells", none), "_law_cells", "_law_cells", defArgs s__law_cells, defBody s__law_cells, defScope s__law_cells, [], []⟩
def dd_is_number : He.DefD := ⟨("is_number", none), "is_number", "is_number", defArgs s_is_number, defBody s_is_number, defScope s_is_number, [], []⟩
def dd_is_name : He.DefD := ⟨("is_name", none), "is_name", "is_name", defArgs s_is_name, defBody s_is_name, defScope s_is_name, [], []⟩
def dd_is_part : He.DefD := ⟨("is_part", none), "is_part", "is_part", defArgs s_is_part, defBody s_is_part, defScope s_is_part, [], []⟩
def dd_is_mark : He.DefD := ⟨("is_mark", none), "is_mark", "is_mark", defArgs s_is_mark, defBody s_is_mark, defScope s_is_mark, [], []⟩
def dd__law_same : He.DefD := ⟨("_law_same", none), "_law_same", "_law_same", defArgs s__law_same, defBody s__law_same, defScope s__law_same, [], []⟩
def dd__law_by_hand_right : He.DefD := ⟨("_law_by_hand_right", none), "_law_by_hand_right", "_law_by_hand_right", defArgs s__law_by_hand_right, defBody s__law_by_hand_right, defScope s__law_by_hand_right, [], []⟩
def dd__law_take : He.DefD := ⟨("_law_take", none), "_law_take", "_law_take", defArgs s__law_take, defBody s__law_take, defScope s__law_take, [], []⟩
def dd__law_of : He.DefD := ⟨("_law_of", none), "_law_of", "_law_of", defArgs s__law_of, defBody s__law_of, defScope s__law_of, [], []⟩
def dd__law_note : He.DefD := ⟨("_law_note", none), "_law_note", "_law_note", defArgs s__law_note, defBody s__law_note, defScope s__law_note, [], []⟩
def dd__law_is_name : He.DefD := ⟨("_law_is_name", none), "_law_is_name", "_law_is_name", defArgs s__law_is_name, defBody s__law_is_name, defScope s__law_is_name, [], []⟩
def dd__law_is_count : He.DefD := ⟨("_law_is_count", none), "_law_is_count", "_law_is_count", defArgs s__law_is_count, defBody s__law_is_count, defScope s__law_is_count, [], []⟩
def dd__law_fits : He.DefD := ⟨("_law_fits", none), "_law_fits", "_law_fits", defArgs s__law_fits, defBody s__law_fits, defScope s__law_fits, [], []⟩
def dd__law_right : He.DefD := ⟨("_law_right", none), "_law_right", "_law_right", defArgs s__law_right, defBody s__law_right, defScope s__law_right, [], []⟩
def dd_law : He.DefD := ⟨("law", none), "law", "law", defArgs s_law, defBody s_law, defScope s_law, [], []⟩
def fn : List He.DefD := [dd__law_box, dd__law_cells, dd_is_number, dd_is_name, dd_is_part, dd_is_mark, dd__law_same, dd__law_by_hand_right, dd__law_take, dd__law_of, dd__law_note, dd__law_is_name, dd__law_is_count, dd__law_fits, dd__law_right, dd_law]
def fa : List He.Fa := [.glo "_law_box", .glo "_law_cells", .glo "is_number", .glo "is_name", .glo "is_part", .glo "is_mark", .glo "_law_same", .glo "_law_by_hand_right", .glo "_law_take", .glo "_law_of", .glo "_law_note", .glo "_law_is_name", .glo "_law_is_count", .glo "_law_fits", .glo "_law_right", .glo "law", .free "abs", .free "all", .free "bool", .free "dict", .free "enumerate", .free "int", .free "isinstance", .free "len", .free "list", .free "range", .free "sorted", .free "str", .free "tuple", .free "zip", .str "KIND" "kind", .str "LETTERS" "abcdefghijklmnopqrstuvwxyz", .int "LONGEST" 8, .str "NAME" "name", .str "NUMBER" "number", .glo "SHAPES", .glo "KINDS"]
abbrev R : PySem.W.OpenRow := PySem.W.OpenLaw.row PySem.Challenge.rw_filldowns_k75_what_marks_are
def ts : List He.Tab := [(fun K => He.ga K "SHAPES", ["sound", "falling", "kind", "late", "leans", "apart", "window", "passes"])]
def exB (K : PySem.W.Frag) : Bool := (Fd.tabB K (He.ga K "SHAPES") t_SHAPES && Fd.ktsB K (He.ga K "KINDS") ["free", "falling", "rising", "ringed"])
abbrev hk : PySem.W.Hook := He.hookX 4 fa fn ts [] exB
def ob (s : PySem.W.SharedT) : He.AlX := He.obsX 4 fa fn ts [] exB (HandSHeadRun.getT s)
theorem ob_eq (s : PySem.W.SharedT) : ob s = hk.obs s.abs := He.obsX_eq (HandSHeadRun.getT_eq s)
abbrev loose : List PySem.Str := ((["LETTERS", "LONGEST", "is_number", "is_name", "FREE", "FALLING", "RISING", "RINGED", "KINDS", "NAME", "NUMBER", "COUNT", "KIND", "SHAPES", "is_part", "is_mark", "_law_box", "_law_take", "_law_cells", "_law_of", "_law_pick", "_law_lists", "_law_same", "_law_tags", "_law_wires", "_law_plan_of", "_law_note", "_law_is_name", "_law_is_count", "_law_fits"] : List PySem.Str) ++ (["_law_by_hand_right", "_law_right"] : List PySem.Str))
theorem run (w : World) : HandSHeadRun.RunEq R (PySem.W.view R.prog [35]) hk ob 4000 loose w :=
  PySem.W.byRow2 "special-get-raises" (P := fun w => HandSHeadRun.RunEq R (PySem.W.view R.prog [35]) hk ob 4000 loose w) (fun w os => by kernel_rfl) (fun w os => by kernel_rfl) w
theorem facts {w : World} {K : PySem.W.Frag} {h : Heap} {mg : Str → Option Value} (X : K.In h) (G : h.Ns mainGlobals mg) (cx : He.SaysX fa fn ts [] exB w h K) : ∃ E : Facts w K mg, E.a_law = He.ga K "law" := by
  have c := cx.t.d
  have m0 : exB K = true := cx.more
  obtain ⟨h_SHAPES, m1⟩ := He.ba m0
  have h_KINDS := m1
  obtain ⟨d0, F0⟩ := c.def_ 0 (d := dd__law_box) rfl
  obtain ⟨d1, F1⟩ := c.def_ 1 (d := dd__law_cells) rfl
  obtain ⟨d2, F2⟩ := c.def_ 2 (d := dd_is_number) rfl
  obtain ⟨d3, F3⟩ := c.def_ 3 (d := dd_is_name) rfl
  obtain ⟨d4, F4⟩ := c.def_ 4 (d := dd_is_part) rfl
  obtain ⟨d5, F5⟩ := c.def_ 5 (d := dd_is_mark) rfl
  obtain ⟨d6, F6⟩ := c.def_ 6 (d := dd__law_same) rfl
  obtain ⟨d7, F7⟩ := c.def_ 7 (d := dd__law_by_hand_right) rfl
  obtain ⟨d8, F8⟩ := c.def_ 8 (d := dd__law_take) rfl
  obtain ⟨d9, F9⟩ := c.def_ 9 (d := dd__law_of) rfl
  obtain ⟨d10, F10⟩ := c.def_ 10 (d := dd__law_note) rfl
  obtain ⟨d11, F11⟩ := c.def_ 11 (d := dd__law_is_name) rfl
  obtain ⟨d12, F12⟩ := c.def_ 12 (d := dd__law_is_count) rfl
  obtain ⟨d13, F13⟩ := c.def_ 13 (d := dd__law_fits) rfl
  obtain ⟨d14, F14⟩ := c.def_ 14 (d := dd__law_right) rfl
  obtain ⟨d15, F15⟩ := c.def_ 15 (d := dd_law) rfl
  exact ⟨⟨_, d0, F0, He.glo_ok X G (c.fact 0 (f := .glo "_law_box") rfl),
    _, d1, F1, He.glo_ok X G (c.fact 1 (f := .glo "_law_cells") rfl),
    _, d2, F2, He.glo_ok X G (c.fact 2 (f := .glo "is_number") rfl),
    _, d3, F3, He.glo_ok X G (c.fact 3 (f := .glo "is_name") rfl),
    _, d4, F4, He.glo_ok X G (c.fact 4 (f := .glo "is_part") rfl),
    _, d5, F5, He.glo_ok X G (c.fact 5 (f := .glo "is_mark") rfl),
    _, d6, F6, He.glo_ok X G (c.fact 6 (f := .glo "_law_same") rfl),
    _, d7, F7, He.glo_ok X G (c.fact 7 (f := .glo "_law_by_hand_right") rfl),
    _, d8, F8, He.glo_ok X G (c.fact 8 (f := .glo "_law_take") rfl),
    _, d9, F9, He.glo_ok X G (c.fact 9 (f := .glo "_law_of") rfl),
    _, d10, F10, He.glo_ok X G (c.fact 10 (f := .glo "_law_note") rfl),
    _, d11, F11, He.glo_ok X G (c.fact 11 (f := .glo "_law_is_name") rfl),
    _, d12, F12, He.glo_ok X G (c.fact 12 (f := .glo "_law_is_count") rfl),
    _, d13, F13, He.glo_ok X G (c.fact 13 (f := .glo "_law_fits") rfl),
    _, d14, F14, He.glo_ok X G (c.fact 14 (f := .glo "_law_right") rfl),
    _, d15, F15, He.glo_ok X G (c.fact 15 (f := .glo "law") rfl),
    He.free_ok X G (c.fact 16 (f := .free "abs") rfl),
    He.free_ok X G (c.fact 17 (f := .free "all") rfl),
    He.free_ok X G (c.fact 18 (f := .free "bool") rfl),
    He.free_ok X G (c.fact 19 (f := .free "dict") rfl),
    He.free_ok X G (c.fact 20 (f := .free "enumerate") rfl),
    He.free_ok X G (c.fact 21 (f := .free "int") rfl),
    He.free_ok X G (c.fact 22 (f := .free "isinstance") rfl),
    He.free_ok X G (c.fact 23 (f := .free "len") rfl),
    He.free_ok X G (c.fact 24 (f := .free "list") rfl),
    He.free_ok X G (c.fact 25 (f := .free "range") rfl),
    He.free_ok X G (c.fact 26 (f := .free "sorted") rfl),
    He.free_ok X G (c.fact 27 (f := .free "str") rfl),
    He.free_ok X G (c.fact 28 (f := .free "tuple") rfl),
    He.free_ok X G (c.fact 29 (f := .free "zip") rfl),
    He.str_ok X G (c.fact 30 (f := .str "KIND" "kind") rfl),
    ⟨He.glo_ok X G (c.fact 36 (f := .glo "KINDS") rfl), Fd.ktsB_ok h_KINDS⟩,
    He.str_ok X G (c.fact 31 (f := .str "LETTERS" "abcdefghijklmnopqrstuvwxyz") rfl),
    He.int_ok X G (c.fact 32 (f := .int "LONGEST" 8) rfl),
    He.str_ok X G (c.fact 33 (f := .str "NAME" "name") rfl),
    He.str_ok X G (c.fact 34 (f := .str "NUMBER" "number") rfl),
    ⟨He.glo_ok X G (c.fact 35 (f := .glo "SHAPES") rfl), Fd.ktab_of (cx.t.tab 0 rfl) h_SHAPES⟩⟩, rfl⟩
end L_k75
open PySem PySem.W PySem.Calls PyProof.Rows
theorem PySem.Challenge.cw_filldowns_k75_what_marks_are_holds : PySem.Challenge.rw_filldowns_k75_what_marks_are.Holds := by
  w_on; o_law
  refine HandSHeadRun.head_any (r := OpenLaw.row PySem.Challenge.rw_filldowns_k75_what_marks_are) (q := view (OpenLaw.row PySem.Challenge.rw_filldowns_k75_what_marks_are).prog [35]) (H := L_k75.hk) (ob := L_k75.ob) (M := 4000) (loose := L_k75.loose) (d := HandSHeadRun.topDef (OpenLaw.row PySem.Challenge.rw_filldowns_k75_what_marks_are).prog 35) (kwd := []) L_k75.ob_eq
    (by kernel_rfl) (fun s => by kernel_rfl) L_k75.run (by kernel_rfl) (by kernel_rfl) (by kernel_rfl) (by rfl) (by first | assumption | decide +kernel) (by decide +kernel) ⟨rfl, rfl, rfl, rfl, rfl, by decide +kernel⟩ ?hw ?hc
  case hw => w_witness2
  case hc =>
    refine L2.walk_ofE (l := PySem.Challenge.rw_filldowns_k75_what_marks_are) (n := 63) (k := 15) (x := "_law_script") (CX := L2.CX0) rfl (by decide) (by kernel_rfl) ⟨rfl, by decide, by decide⟩ ?F (fun _ _ _ _ z => z)
    intro w mg fa h Y G hmg0
    obtain ⟨K, KX, c⟩ := Y
    have hmg : mg ("law" : PySem.Str) = some (.ref fa) := by
      have e : (HandSHeadRun.topDef (OpenLaw.row PySem.Challenge.rw_filldowns_k75_what_marks_are).prog 35).name = ("law" : PySem.Str) := by kernel_rfl
      rw [← e]
      exact hmg0
    obtain ⟨E, hE⟩ := L_k75.facts KX G c
    have e := hmg.symm.trans E.g_law
    cases e
    have b := L2.FunD.bindsA (ps := ["_law_script"]) E.F_law fun _ _ _ _ _ _ us hl => match us, hl with | [_], _ => rfl
    exact ⟨K, E.d_law, Fd.spF K 1 L_k75.f_law, KX, fun s v => b s [v] rfl, fun H a ns hl _ hS => Fd.law_sp L_k75.plain_law hl hS, fun base _ _ => L_k75.ok_law E⟩

