import PyProof.Rows.All
import Wide.All
import OpenK.AllK
import Wide.FinOn
import HandS.ForMost
import HandS.ForExc
import HandS.Set
import HandS.SetFor
import HandS.Strs
import KE.SortData
import KE.DataMinMax
import HandS.Walk
import HandS.IsInst
import HandS.TupAny
import HandS.Style
import HandS.Flow
import HandS.Deep
import HandS.Conv
import PyProof.TupleOfStr
import HandS.Zip
import KE.GoesNew
import KE.KRevSl
import HandS.Defaults
import HandS.WordsExc
import HandS.Words
import HandS.Head0
import HandS.Head1
import HandS.Head2
import HandS.HeadEnd
import HandS.HeadHook1
import HandS.HeadHook2
import HandS.TryMany
import HandS.Small
import KE.GoesMore
import KE.GoesEnum
import KE.KItemsList
import PySem.Challenge.RW_trappedkeys_k14_whole_frozen
set_option Elab.async false
set_option linter.all false
set_option maxRecDepth 100000
set_option maxHeartbeats 4000000
/-! the reflected layer: sets of texts: set(seq), len(set(seq)), sorted(set(seq)) -/
namespace TK
open PySem PySem.Spec PyProof.Rows L2
def txtOf (e : Int × Value) : Str := match e.2 with
  | .str x _ => x
  | _ => Str.empty
def TxtE (wo : World) (e : Int × Value) : Prop := ∃ x tk, e.2 = Value.str x tk ∧ e.1 = hashStr wo x
/-- a set of texts at a: L tells its members; it can be walked -/
def TSet (wo : World) (h : Heap) (a : Addr) (L : List Str) : Prop :=
  ∃ (ob : Obj) (en : Array (Int × Value)) (q : Nat) (tb : SetTable), h.get? a = some ob ∧ ob.ExactSet ∧ ob.data = .set en q tb ∧ (∀ e ∈ en.toList, TxtE wo e) ∧ (en.toList.map txtOf).Nodup ∧
    (∀ x, x ∈ L ↔ x ∈ en.toList.map txtOf) ∧ en.size < scanBound ∧ tb.fits en.size = true ∧ Ris tb.place.toList ∧ (wo.params.followText "set-order" = true ∨ tb.led = true)
section
variable {P : Program} {wo : World} {h h' : Heap} {a : Addr} {L : List Str}
theorem TSet.at (T : TSet wo h a L) (k : ∀ ob, h.get? a = some ob → h'.get? a = some ob) : TSet wo h' a L := by
  obtain ⟨ob, en, q, tb, ho, r⟩ := T
  exact ⟨ob, en, q, tb, k ob ho, r⟩
theorem txt_elems {l : List (Int × Value)} (g : ∀ e ∈ l, TxtE wo e) : ElemsOf (strKind P wo) l := fun e he => by
  obtain ⟨x, tk, e1, e2⟩ := g e he
  exact ⟨⟨x, by rw [e1]; exact strKind_is P wo x tk, e2⟩, by rw [e1] <;> rfl⟩
theorem txt_is {e : Int × Value} (g : TxtE wo e) (x : Str) : (strKind P wo).is x e.2 = true ↔ txtOf e = x := by
  obtain ⟨y, tk, e1, _⟩ := g
  unfold txtOf
  rw [e1]
  show Value.isStrOf x (.str y tk) = true ↔ y = x
  simp [Value.isStrOf]
theorem txt_mem {l : List (Int × Value)} (g : ∀ e ∈ l, TxtE wo e) (x : Str) : x ∈ l.map txtOf ↔ ∃ e ∈ l, (strKind P wo).is x e.2 = true := by
  rw [List.mem_map]
  exact ⟨fun ⟨e, he, z⟩ => ⟨e, he, (txt_is (g e he) x).2 z⟩, fun ⟨e, he, z⟩ => ⟨e, he, (txt_is (g e he) x).1 z⟩⟩
end
section
variable {P : Program} {wo : World} {A : Around} {E : Value → Shared → Prop} {s : Shared} {a : Addr} {L : List Str}
/-- the table is stored, and laid anew where it is too full -/
theorem tset_tail {gv : Bool → Sem Unit} (hg : ∀ (b : Bool) (z : Shared) (R : Unit → Shared → Prop), R () z → wpAny (model P wo) A (gv b) R E z)
    {ob : Obj} {en : Array (Int × Value)} {q : Nat} {tb : SetTable} (ho : s.heap.get? a = some ob) (hx : ob.ExactSet) (hd : ob.data = .set en q tb)
    {en1 : Array (Int × Value)} {tb2 : SetTable} {L' : List Str} (g1 : ∀ e ∈ en1.toList, TxtE wo e) (nd : (en1.toList.map txtOf).Nodup) (mm : ∀ x, x ∈ L' ↔ x ∈ en1.toList.map txtOf)
    (hb : en1.size < scanBound) (hf : tb2.fits en1.size = true) (hr : Ris tb2.place.toList) (hl : wo.params.followText "set-order" = true ∨ tb2.led = true) {wd : Bool} {R : Option Bool → Shared → Prop}
    (fin : ∀ h', Heap.SameBut a s.heap h' → TSet wo h' a L' → R (some true) { s with heap := h' }) :
    wpAny (model P wo) A (do
        storeSet a en1 tb2
        if (!wd && tb2.tooFull) = true then do
            gv (relayAll tb2 en1 (SetTable.grown en1.size)).2.2
            storeSet a (relayAll tb2 en1 (SetTable.grown en1.size)).1 (relayAll tb2 en1 (SetTable.grown en1.size)).2.1
            pure (some true)
          else pure (some true)) R E s := by
  refine wpAny_bind (wpAny_storeSet_of ho hd ?_ (fits_of_scanBound hb))
  have st1 := store_at (es' := en1) (t' := tb2) ho hd
  have sm1 := Heap.SameBut.update s.heap a (Obj.putSet en1 tb2)
  split
  · have a1 := relayAll_perm tb2 en1 (SetTable.grown en1.size)
    have a2 := relayAll_fits tb2 en1 (SetTable.grown en1.size)
    have a3 := relayAll_ris tb2 en1 (SetTable.grown en1.size)
    have a4 := relayAll_led tb2 en1 (SetTable.grown en1.size)
    generalize relayAll tb2 en1 (SetTable.grown en1.size) = Y at a1 a2 a3 a4 ⊢
    obtain ⟨en2, tb3, gave⟩ := Y
    dsimp only at a1 a2 a3 a4 ⊢
    have sz : en2.size = en1.size := by rw [← Array.length_toList, a1.length_eq, Array.length_toList]
    refine wpAny_bind (hg _ _ _ ?_)
    refine wpAny_bind (wpAny_storeSet_of st1 rfl ?_ (fits_of_scanBound (by rw [sz]; exact hb)))
    have st2 := store_at (es' := en2) (t' := tb3) st1 rfl
    refine wpAny_pure (fin _ (sm1.trans (Heap.SameBut.update _ a _)) ?_)
    exact ⟨_, en2, _, tb3, st2, hx, rfl, fun e he => g1 e (a1.mem_iff.mp he), (a1.map txtOf).nodup_iff.mpr nd, fun x => (mm x).trans (a1.map txtOf).mem_iff.symm, by rw [sz]; exact hb, a2, a3,
      hl.imp id fun z => by rw [a4]; exact z⟩
  · exact wpAny_pure (fin _ sm1 ⟨_, en1, _, tb2, st1, hx, rfl, g1, nd, mm, hb, hf, hr, hl⟩)
/-- one text more -/
theorem tset_add {x : Str} {tk : Tok} {Q : Bool → Shared → Prop} (T : TSet wo s.heap a L) (room : ∀ (ob : Obj) (en : Array (Int × Value)) (q : Nat) (tb : SetTable), s.heap.get? a = some ob → ob.data = .set en q tb → en.size + 1 < scanBound)
    (fin : ∀ b h', Heap.SameBut a s.heap h' → TSet wo h' a (L ++ [x]) → Q b { s with heap := h' }) :
    wpAny (model P wo) A (setAddHashed a (.str x tk) ((strKind P wo).hash x)) Q E s := by
  obtain ⟨ob, en, q, tb, ho, hx, hd, g, nd, hm, hb, hf, hr, hl⟩ := T
  have room1 := room ob en q tb ho hd
  have isk : (strKind P wo).is x (.str x tk) = true := strKind_is P wo x tk
  have isc : (Value.str x tk).scannable = true := rfl
  have els : ElemsOf (strKind P wo) en.toList := txt_elems g
  unfold setAddHashed setAddHashedIn
  refine wpAny_holding (wpAny_bind (wpAny_setState_of ho hd hf ?_))
  dsimp only
  rw [byScan_of isc hb els]
  simp only [↓reduceIte]
  unfold setAddByScan
  refine wpAny_bind ?_
  refine wpAny_bind (wpAny_rule ?_)
  refine wpAny_bind (wpAny_setScan_of isk ho hd hf els ?_)
  cases fi : List.findIdx? (fun e => (strKind P wo).is x e.2) en.toList with
  | some j =>
    dsimp only
    obtain ⟨hj, pj, _⟩ := List.findIdx?_eq_some_iff_getElem.mp fi
    have inn : x ∈ en.toList.map txtOf := (txt_mem (P := P) (wo := wo) g x).2 ⟨en.toList[j], List.getElem_mem hj, pj⟩
    refine wpAny_pure (wpAny_pure ?_)
    refine fin _ s.heap (Heap.SameBut.refl a s.heap) ⟨ob, en, q, tb, ho, hx, hd, g, nd, fun y => ?_, hb, hf, hr, hl⟩
    rw [List.mem_append, List.mem_singleton, hm y]
    exact ⟨fun z => z.elim id fun e => e ▸ inn, .inl⟩
  | none =>
    dsimp only
    have out : x ∉ en.toList.map txtOf := fun z => by
      obtain ⟨e, he, y⟩ := (txt_mem (P := P) (wo := wo) g x).1 z
      have c := List.findIdx?_eq_none_iff.mp fi e he
      rw [y] at c
      cases c
    have gw : ∀ (b : Bool) {z : Shared} {R : Unit → Shared → Prop}, R () z → wpAny (model P wo) A (match b with | true => rule "set.scan.the-table-gave-way" | false => pure ()) R E z :=
      fun b z R y => by cases b <;> first | exact wpAny_pure y | exact wpAny_rule y
    have a1 := layNew_perm tb en ((strKind P wo).hash x) (.str x tk)
    have a2 := layNew_fits tb en ((strKind P wo).hash x) (.str x tk)
    have a3 := layNew_ris tb en ((strKind P wo).hash x) (.str x tk) hr
    have a4 := layNew_led tb en ((strKind P wo).hash x) (.str x tk)
    generalize layNew tb en ((strKind P wo).hash x) (.str x tk) = Y at a1 a2 a3 a4 ⊢
    obtain ⟨en1, tb1, wd, gave⟩ := Y
    dsimp only at a1 a2 a3 a4 ⊢
    rw [Array.toList_push] at a1
    have pc : en1.toList.Perm (((strKind P wo).hash x, Value.str x tk) :: en.toList) := a1.trans (List.perm_append_singleton _ _)
    have pk : (en1.toList.map txtOf).Perm (x :: en.toList.map txtOf) := pc.map txtOf
    have g1 : ∀ e ∈ en1.toList, TxtE wo e := fun e he => by
      rcases List.mem_cons.mp (pc.mem_iff.mp he) with z | z
      · rw [z]; exact ⟨x, tk, rfl, rfl⟩
      · exact g e z
    have nd1 : (en1.toList.map txtOf).Nodup := pk.nodup_iff.mpr (List.nodup_cons.mpr ⟨out, nd⟩)
    have m1 : ∀ y, y ∈ L ++ [x] ↔ y ∈ en1.toList.map txtOf := fun y => by
      rw [List.mem_append, List.mem_singleton, hm y, pk.mem_iff, List.mem_cons]
      exact Or.comm
    have hb1 : en1.size < scanBound := by
      rw [← Array.length_toList, pc.length_eq, List.length_cons, Array.length_toList]
      exact room1
    have ld : wo.params.followText "set-order" = true ∨ tb1.led = true := hl.imp id fun z => by rw [a4]; exact z
    refine wpAny_bind (gw _ ?_)
    split
    · refine wpAny_bind ?_
      rw [hashByValue_scannable 8 isc]
      refine wpAny_pure ?_
      refine tset_tail ?_ ho hx hd g1 nd1 m1 hb1 ?_ ?_ ?_ ?_
      · intro b z R y; cases b <;> first | exact wpAny_pure y | exact wpAny_rule y
      · first | (split <;> first | exact a2 | exact SetTable.fits_plain_off a2) | exact a2
      · first | (split <;> exact a3) | exact a3
      · first | (split <;> exact ld) | exact ld
      · intro h' sb r; dsimp only; exact wpAny_pure (fin _ h' sb r)
    · refine wpAny_bind (wpAny_pure ?_)
      simp only [↓reduceIte]
      refine tset_tail ?_ ho hx hd g1 nd1 m1 hb1 a2 a3 ld ?_
      · intro b z R y; cases b <;> first | exact wpAny_pure y | exact wpAny_rule y
      · intro h' sb r; dsimp only; exact wpAny_pure (fin _ h' sb r)
theorem nodup_sub_length : ∀ {l m : List Str}, l.Nodup → (∀ x ∈ l, x ∈ m) → l.length ≤ m.length
  | [], _, _, _ => Nat.zero_le _
  | x :: l, m, nd, hs => by
    obtain ⟨n1, n2⟩ := List.nodup_cons.mp nd
    have hx : x ∈ m := hs x List.mem_cons_self
    have := nodup_sub_length (l := l) (m := m.erase x) n2 fun y hy => by
      have hy' := hs y (List.mem_cons_of_mem _ hy)
      exact (List.mem_erase_of_ne (fun e : y = x => n1 (e ▸ hy))).mpr hy'
    have h2 := List.length_erase_of_mem hx
    have h3 : 0 < m.length := List.length_pos_of_mem hx
    rw [List.length_cons]
    omega
theorem TSet.size_le {h : Heap} (T : TSet wo h a L) {ob : Obj} {en : Array (Int × Value)} {q : Nat} {tb : SetTable} (ho : h.get? a = some ob) (hd : ob.data = .set en q tb) : en.size ≤ L.length := by
  obtain ⟨ob', en', q', tb', ho', hx, hd', g, nd, hm, _⟩ := T
  rw [ho] at ho'
  cases ho'
  rw [hd] at hd'
  cases hd'
  have := nodup_sub_length nd fun x hx => (hm x).mpr hx
  rw [List.length_map, Array.length_toList] at this
  exact this
/-- the loop of set.update over a walk whose items are the texts xs -/
theorem tset_loop {I : Addr} {fp wr : List Addr} {G : Array GenState → Array GenState → Prop} {n : Nat} {Pv : Nat → Value → Prop} {Sv : Nat → Shared → Prop} {R : Result → Shared → Prop}
    (W : WalksS P wo A.in1 I fp wr G n Pv Sv) (hS : a ∉ fp) (xs : List Str) (hn : xs.length = n) (hv : ∀ i v, Pv i v → ∃ x tk, xs[i]? = some x ∧ v = .str x tk) (hb : n + 1 < scanBound) :
    ∀ (m i : Nat) (s : Shared), n - i = m → i ≤ n → Sv i s → TSet wo s.heap a (xs.take i) →
      (∀ s', Moved (a :: wr) G s s' → TSet wo s'.heap a xs → R (.ok (.ret .none)) s') →
      codeAny (model P wo) A (.builtin "set.update.loop" ⟨[.ref a, .ref I], []⟩) R s := by
  have nw : a ∉ wr := fun z => hS (W.sub _ z)
  have up : ∀ b ∈ wr, b ∈ a :: wr := fun b hb => List.mem_cons_of_mem _ hb
  intro m
  induction m with
  | zero =>
    intro i s e1 e2 sv T fin
    have e3 : i = n := by omega
    subst e3
    refine codeAny_builtin F.entry_set_update_loop ?_
    rw [Around.under_plainId F.plain_set_update_loop _]
    show wpAny _ A.in1 (pyNext (.ref I) >>= _) _ _ s
    refine wpAny_bind (W.done s _ _ sv fun s' mv => ?_)
    show wpAny _ A.in1 (ret Value.none) _ _ s'
    rw [← hn, List.take_length] at T
    exact wpAny_pure (fin s' (mv.mono up) (T.at fun ob z => mv.heap a ob nw z))
  | succ m ih =>
    intro i s e1 e2 sv T fin
    have lt : i < n := by omega
    refine codeAny_builtin F.entry_set_update_loop ?_
    rw [Around.under_plainId F.plain_set_update_loop _]
    show wpAny _ A.in1 (pyNext (.ref I) >>= _) _ _ s
    refine wpAny_bind (W.item i s _ _ lt sv fun v s' hp sv' mv => ?_)
    obtain ⟨x, tk, hx, rfl⟩ := hv i v hp
    have T' : TSet wo s'.heap a (xs.take i) := T.at fun ob z => mv.heap a ob nw z
    show wpAny _ A.in1 (holding [Value.str x tk] (setAdd a (.str x tk)) >>= _) _ _ s'
    refine wpAny_bind (wpAny_holding ?_)
    unfold setAdd
    refine wpAny_holding ?_
    refine wpAny_bind ((strKind P wo).pyHash (k := x) (strKind_is _ _ _ _) ?_)
    refine tset_add (s := { s' with toks := s'.toks + 1 }) T' (fun ob en q tb z1 z2 => ?_) fun b h' sb T2 => ?_
    · have := T'.size_le z1 z2
      rw [List.length_take] at this
      omega
    · have T3 : TSet wo h' a (xs.take (i + 1)) := by
        rw [List.take_add_one, hx]
        exact T2
      refine wpAny_pure ⟨plainId_quiet F.plain_set_update_loop _, ih (i + 1) _ (by omega) lt (W.frame _ s' _ _ sv' (Nat.le_succ _) fun b hb ob z => ?_) T3 fun s2 mv2 T4 => ?_⟩
      · rw [sb.2 b (fun z' : b = a => hS (by rw [← z']; exact hb))]; exact z
      · refine fin s2 (Moved.trans W.gtrans ((mv.mono up).then_heap (Nat.le_succ _) fun b ob hb z => ?_) mv2) T4
        rw [sb.2 b (fun z' : b = a => hb (by rw [z']; exact List.mem_cons_self))]; exact z
end
end TK

/-! the reflected layer: set(seq) of texts, its length, its sorted list -/
namespace TK
open PySem PySem.Spec PyProof.Rows L2
abbrev set0 (wo : World) : Obj := { cls := .type "set", dict := none, data := .set #[] 0 (.fresh 0 0 (!wo.params.followText "set-order")) }
theorem tset_fresh {wo : World} {h : Heap} {a : Addr} (e : h.get? a = some (set0 wo)) : TSet wo h a [] := by
  refine ⟨_, #[], 0, _, e, ⟨rfl, rfl, rfl⟩, rfl, fun x hx => by simp at hx, by simp, fun k => by simp, by decide, by rfl, List.Pairwise.nil, ?_⟩
  show _ ∨ (!wo.params.followText "set-order") = true
  cases wo.params.followText "set-order"
  · exact .inr rfl
  · exact .inl rfl
theorem apart2 {n m l : Addr} (e : m = n + 1) (h : l < n) : n ∉ [m, l] := fun hm => by
  rcases List.mem_cons.mp hm with z | hm
  · rw [e] at z
    exact absurd z (Nat.ne_of_lt (Nat.lt_succ_self n))
  · exact absurd (List.mem_singleton.mp hm) (Nat.ne_of_gt h)
section
variable {prog : Program} {w : World} {A : Around} {E : Value → Shared → Prop} {s : Shared}
theorem set_of_list {l : Addr} {its : Array Value} {xs : List Str} {Q : Value → Shared → Prop} (calm : A.handled = none) (isl : s.heap.IsList l its) (txt : ∀ (i : Nat) v, its[i]? = some v → ∃ x tk, xs[i]? = some x ∧ v = .str x tk) (len : xs.length = its.size)
    (few : its.size + 1 < scanBound) (fin : ∀ (g : Heap) (tk : Nat), TSet w g s.heap.objs.size xs → (∀ b ob, b < s.heap.objs.size → s.heap.get? b = some ob → g.get? b = some ob) → Q (.ref s.heap.objs.size) { s with heap := g, toks := tk }) :
    wpAny (model prog w) A (call (.type "set") [.ref l]) Q E s := by
  obtain ⟨_, _, k1⟩ := PySem.F.called_set.mro
  have k2 := PySem.F.called_set.made
  have k3 := PySem.F.called_set.sub
  refine wpAny_call (codeAny_of_tree ?_)
  show wpAny _ _ (callAny (.type "set") _) _ _ _
  refine wpAny_pure ⟨Code.quiet_builtin _ (by decide +kernel), codeAny_builtin PySem.F.entry_type_call ?_⟩
  rw [Around.under_plain (weight_type_call_type "set" [.ref l] []) rfl]
  have k4 := PySem.F.called_set.notType
  have k5 := PySem.F.called_set.canCreate
  have k6 := PySem.F.typeCall_set_1 (.ref l)
  repeat (any_goals (first | assumption | wp_step))
  refine codeAny_mono (code_set_led1 (.ref l) (E := E) (Q₁ := fun ob z => ob = .ref s.heap.objs.size ∧ z = { s with heap := s.heap.push (set0 w) }) ⟨rfl, rfl⟩) fun r z hr => ?_
  cases r with
  | error e => exact hr
  | ok fl =>
    cases fl with
    | ret ob =>
      obtain ⟨rfl, rfl⟩ := hr
      have at0 : (s.heap.push (set0 w)).get? s.heap.objs.size = some (set0 w) := Heap.get?_push_size _ rfl
      have ty0 : Shared.TypeIs { s with heap := s.heap.push (set0 w) } (.ref s.heap.objs.size) "set" := ⟨_, at0, rfl⟩
      have k7 := PySem.F.called_set.init.lookup
      have k8 := PySem.F.called_set.init.bind (.ref s.heap.objs.size)
      repeat (any_goals (first | assumption | wp_step))
      refine codeAny_mono (codeAny_call_builtin (R := wants (fun r z => r = .none ∧ ∃ g tk, z = { s with heap := g, toks := tk } ∧ TSet w g s.heap.objs.size xs ∧
          (∀ b ob, b < s.heap.objs.size → s.heap.get? b = some ob → g.get? b = some ob)) E) PySem.F.called_set.init.plain PySem.F.entry_set_init (check_set_init_1 ty0 ?_)) fun r2 z2 hr2 => ?_
      · obtain ⟨⟨c1, c2, c3, c4⟩, ol, e1, m, e2⟩ := isl
        simp only at e1 e2
        subst e1 e2
        have ol1 : (s.heap.push (set0 w)).get? l = some { cls := .type "list", dict := c2, data := .seq its m, slots := c4 } := Heap.get?_push_of_some _ ol
        have k9 := PySem.F.sub_list_set
        have k10 := PySem.F.sub_list_frozenset
        have k11 : (Value.type "list" == Value.type "dict") = false := by decide
        have il1 : (s.heap.push (set0 w)).IsList l its := ⟨_, ol1, rfl, m, rfl⟩
        unfold Builtin.«set.__init__» noKeywords Builtin.Frozenset.updateFrom
        generalize hPI : pyIter = PI
        wp_walk
        subst hPI
        refine wpAny_pyIter_list il1 ?_
        refine wpAny_bind (wpAny_runValue ?_)
        have lts : l < s.heap.objs.size := Heap.lt_size ol
        have calm3 : A.in1.in1.in1.handled = none := by simp [calm]
        have sz1 : (s.heap.push (set0 w)).objs.size = s.heap.objs.size + 1 := Heap.size_push ..
        refine tset_loop ((Walks.list calm3 _ l (by rw [sz1]; exact Nat.ne_of_lt (Nat.lt_succ_of_lt lts)) its).toS) (a := s.heap.objs.size) (apart2 sz1 lts) xs len txt few (its.size - 0) 0 _ (by omega) (Nat.zero_le _)
          ⟨⟨_, Heap.get?_push_size _ rfl, rfl, rfl⟩, (il1.push _)⟩ (tset_fresh (Heap.get?_push_of_some _ at0)) ?_
        intro z mv T
        obtain ⟨g, x1, x2, tk, x3⟩ := z
        obtain rfl : x1 = s.gens := mv.gens
        obtain rfl : x2 = s.drawn := mv.drawn
        obtain rfl : x3 = s.os := mv.os
        show wpAny _ _ _ _ _ _
        refine wpAny_pure ?_
        show wpAny _ _ (ret Value.none) _ _ _
        refine wpAny_pure ⟨rfl, g, tk, rfl, T, fun b ob hb e => ?_⟩
        refine mv.heap b ob ?_ (Heap.get?_push_of_some _ (Heap.get?_push_of_some _ e))
        rw [sz1]
        intro hm
        rcases List.mem_cons.mp hm with e1 | hm
        · exact Nat.ne_of_lt hb e1
        · exact Nat.ne_of_lt (Nat.lt_succ_of_lt hb) (List.mem_singleton.mp hm)
      · cases r2 with
        | error e => exact hr2
        | ok fl2 =>
          cases fl2 with
          | ret r =>
            obtain ⟨rfl, g, tk, rfl, T, kp⟩ := hr2
            repeat (any_goals (first | assumption | wp_step))
            exact fin _ _ T kp
          | _ => exact hr2.elim
    | _ => exact hr.elim
theorem set_of_tuple {l : Addr} {its : Array Value} {xs : List Str} {Q : Value → Shared → Prop} (calm : A.handled = none) (isl : s.heap.IsTuple l its) (txt : ∀ (i : Nat) v, its[i]? = some v → ∃ x tk, xs[i]? = some x ∧ v = .str x tk) (len : xs.length = its.size)
    (few : its.size + 1 < scanBound) (fin : ∀ (g : Heap) (tk : Nat), TSet w g s.heap.objs.size xs → (∀ b ob, b < s.heap.objs.size → s.heap.get? b = some ob → g.get? b = some ob) → Q (.ref s.heap.objs.size) { s with heap := g, toks := tk }) :
    wpAny (model prog w) A (call (.type "set") [.ref l]) Q E s := by
  obtain ⟨_, _, k1⟩ := PySem.F.called_set.mro
  have k2 := PySem.F.called_set.made
  have k3 := PySem.F.called_set.sub
  refine wpAny_call (codeAny_of_tree ?_)
  show wpAny _ _ (callAny (.type "set") _) _ _ _
  refine wpAny_pure ⟨Code.quiet_builtin _ (by decide +kernel), codeAny_builtin PySem.F.entry_type_call ?_⟩
  rw [Around.under_plain (weight_type_call_type "set" [.ref l] []) rfl]
  have k4 := PySem.F.called_set.notType
  have k5 := PySem.F.called_set.canCreate
  have k6 := PySem.F.typeCall_set_1 (.ref l)
  repeat (any_goals (first | assumption | wp_step))
  refine codeAny_mono (code_set_led1 (.ref l) (E := E) (Q₁ := fun ob z => ob = .ref s.heap.objs.size ∧ z = { s with heap := s.heap.push (set0 w) }) ⟨rfl, rfl⟩) fun r z hr => ?_
  cases r with
  | error e => exact hr
  | ok fl =>
    cases fl with
    | ret ob =>
      obtain ⟨rfl, rfl⟩ := hr
      have at0 : (s.heap.push (set0 w)).get? s.heap.objs.size = some (set0 w) := Heap.get?_push_size _ rfl
      have ty0 : Shared.TypeIs { s with heap := s.heap.push (set0 w) } (.ref s.heap.objs.size) "set" := ⟨_, at0, rfl⟩
      have k7 := PySem.F.called_set.init.lookup
      have k8 := PySem.F.called_set.init.bind (.ref s.heap.objs.size)
      repeat (any_goals (first | assumption | wp_step))
      refine codeAny_mono (codeAny_call_builtin (R := wants (fun r z => r = .none ∧ ∃ g tk, z = { s with heap := g, toks := tk } ∧ TSet w g s.heap.objs.size xs ∧
          (∀ b ob, b < s.heap.objs.size → s.heap.get? b = some ob → g.get? b = some ob)) E) PySem.F.called_set.init.plain PySem.F.entry_set_init (check_set_init_1 ty0 ?_)) fun r2 z2 hr2 => ?_
      · obtain ⟨⟨c1, c2, c3, c4⟩, ol, e1, m, e2⟩ := isl
        simp only at e1 e2
        subst e1 e2
        have ol1 : (s.heap.push (set0 w)).get? l = some { cls := .type "tuple", dict := c2, data := .seq its m, slots := c4 } := Heap.get?_push_of_some _ ol
        have k9 := PySem.F.sub_tuple_set
        have k10 := PySem.F.sub_tuple_frozenset
        have k11 : (Value.type "tuple" == Value.type "dict") = false := by decide
        have il1 : (s.heap.push (set0 w)).IsTuple l its := ⟨_, ol1, rfl, m, rfl⟩
        unfold Builtin.«set.__init__» noKeywords Builtin.Frozenset.updateFrom
        generalize hPI : pyIter = PI
        wp_walk
        subst hPI
        refine wpAny_pyIter_tuple il1 ?_
        refine wpAny_bind (wpAny_runValue ?_)
        have lts : l < s.heap.objs.size := Heap.lt_size ol
        have calm3 : A.in1.in1.in1.handled = none := by simp [calm]
        have sz1 : (s.heap.push (set0 w)).objs.size = s.heap.objs.size + 1 := Heap.size_push ..
        refine tset_loop ((Walks.tuple calm3 _ l (by rw [sz1]; exact Nat.ne_of_lt (Nat.lt_succ_of_lt lts)) its).toS) (a := s.heap.objs.size) (apart2 sz1 lts) xs len txt few (its.size - 0) 0 _ (by omega) (Nat.zero_le _)
          ⟨⟨_, Heap.get?_push_size _ rfl, rfl, rfl⟩, (il1.push _)⟩ (tset_fresh (Heap.get?_push_of_some _ at0)) ?_
        intro z mv T
        obtain ⟨g, x1, x2, tk, x3⟩ := z
        obtain rfl : x1 = s.gens := mv.gens
        obtain rfl : x2 = s.drawn := mv.drawn
        obtain rfl : x3 = s.os := mv.os
        show wpAny _ _ _ _ _ _
        refine wpAny_pure ?_
        show wpAny _ _ (ret Value.none) _ _ _
        refine wpAny_pure ⟨rfl, g, tk, rfl, T, fun b ob hb e => ?_⟩
        refine mv.heap b ob ?_ (Heap.get?_push_of_some _ (Heap.get?_push_of_some _ e))
        rw [sz1]
        intro hm
        rcases List.mem_cons.mp hm with e1 | hm
        · exact Nat.ne_of_lt hb e1
        · exact Nat.ne_of_lt (Nat.lt_succ_of_lt hb) (List.mem_singleton.mp hm)
      · cases r2 with
        | error e => exact hr2
        | ok fl2 =>
          cases fl2 with
          | ret r =>
            obtain ⟨rfl, g, tk, rfl, T, kp⟩ := hr2
            repeat (any_goals (first | assumption | wp_step))
            exact fin _ _ T kp
          | _ => exact hr2.elim
    | _ => exact hr.elim
end
end TK

/-! the reflected layer, 1: syntax and interpreter (value semantics over PyData) -/
namespace TK
open PySem L2

abbrev D := PyData
abbrev DSt := List Int
/-- runs: draws threaded, a class name where an exception leaves, none where the interpreter does not tell -/
def M (α : Type) : Type := DSt → Option (Except Str α × DSt)
namespace M
def ret {α : Type} (a : α) : M α := fun st => some (.ok a, st)
def bnd {α β : Type} (x : M α) (f : α → M β) : M β := fun st =>
  match x st with
  | none => none
  | some (.error c, st1) => some (.error c, st1)
  | some (.ok a, st1) => f a st1
end M
instance : Monad M where
  pure := M.ret
  bind := M.bnd
def fail {α : Type} : M α := fun _ => none
def throwX {α : Type} (c : Str) : M α := fun st => some (.error c, st)
def liftO {α : Type} : Option α → M α
  | some a => pure a
  | none => fail
@[simp] theorem pure_bind' {α β : Type} (a : α) (f : α → M β) : ((pure a : M α) >>= f) = f a := rfl
@[simp] theorem fail_bind {α β : Type} (f : α → M β) : ((fail : M α) >>= f) = fail := rfl
@[simp] theorem throw_bind {α β : Type} (c : Str) (f : α → M β) : ((throwX c : M α) >>= f) = throwX c := rfl
@[simp] theorem liftO_some {α : Type} (a : α) : liftO (some a) = (pure a : M α) := rfl
@[simp] theorem liftO_none {α : Type} : (liftO none : M α) = fail := rfl
@[simp] theorem bind_assoc' {α β γ : Type} (x : M α) (f : α → M β) (g : β → M γ) : ((x >>= f) >>= g) = (x >>= fun a => f a >>= g) := by
  funext st
  show M.bnd (M.bnd x f) g st = M.bnd x (fun a => M.bnd (f a) g) st
  unfold M.bnd
  cases x st with
  | none => rfl
  | some p =>
    obtain ⟨r, s⟩ := p
    cases r <;> rfl
theorem bind_eq {α β : Type} {x : M α} {f : α → M β} {st st1 : DSt} {a : α} (h : x st = some (.ok a, st1)) : (x >>= f) st = f a st1 := by
  show M.bnd x f st = _
  unfold M.bnd
  rw [h]
theorem bind_err {α β : Type} {x : M α} {f : α → M β} {st st1 : DSt} {c : Str} (h : x st = some (.error c, st1)) : (x >>= f) st = some (.error c, st1) := by
  show M.bnd x f st = _
  unfold M.bnd
  rw [h]
theorem pure_ap {α : Type} (a : α) (st : DSt) : (pure a : M α) st = some (.ok a, st) := rfl
/-- how a bind ends -/
theorem bind_inv {α β : Type} {x : M α} {f : α → M β} {st st2 : DSt} {r : Except Str β} (h : (x >>= f) st = some (r, st2)) :
    (∃ c, x st = some (.error c, st2) ∧ r = .error c) ∨ ∃ a st1, x st = some (.ok a, st1) ∧ f a st1 = some (r, st2) := by
  have h' : M.bnd x f st = some (r, st2) := h
  unfold M.bnd at h'
  cases e : x st with
  | none => rw [e] at h'; cases h'
  | some p =>
    obtain ⟨q, s1⟩ := p
    rw [e] at h'
    cases q with
    | error c => cases h'; exact .inl ⟨c, rfl, rfl⟩
    | ok a => exact .inr ⟨a, s1, rfl, h'⟩

/-- a def's meaning -/
abbrev FnSem := List D → M D
/-- the draws' list, as a value that is handed on -/
def tok : D := .dict [(.none, .none)]
/-- the script, as a value that is handed on -/
def scr (ns : List Int) : D := .dict [(.none, .list (ns.map .int))]

inductive Slot where
  | no | val (d : D) | own (d : D)
abbrev Env := List Slot

inductive Ty where
  | int | bool | str | tuple | list
  deriving DecidableEq
inductive O1 where
  | neg | inv | not | len | all | any | tupleOf | listOf | sorted | setLen | setSorted | max | min | sum | abs | str | int | rev | isN | isNN | isT | isF | isi (t : Ty) | dictOf | values | keys | keysT | range
  deriving DecidableEq
inductive O2 where
  | add | sub | mul | fdiv | mod | shl | band | eq | ne | lt | le | gt | ge | isin | notin | ix | index | count | split | join | endsw | min2 | get1 | dictZip
  deriving DecidableEq
inductive IK where
  | plain | range1 | range2 | zip2 | zip3 | enum | enumZip
  deriving DecidableEq
inductive Tg where
  | n (i : Nat) | t (ts : List Tg)
inductive E where
  | con (d : D)
  | var (i : Nat)
  | tup (es : List E)
  | lst (es : List E)
  | op1 (o : O1) (a : E)
  | op2 (o : O2) (a b : E)
  | op3 (o : Nat) (a b c : E)
  | chain (o o' : O2) (a b c : E)
  | and (a b : E)
  | or (a b : E)
  | ite (c a b : E)
  | slc (a : E) (lo hi : Option E)
  | call (j : Nat) (es : List E)
  | comp (own : List Nat) (tg : Tg) (k : IK) (src : List E) (conds : List E) (elt : E)
  | comp2 (own : List Nat) (tg : Tg) (k : IK) (src : List E) (own1 : List Nat) (tg1 : Tg) (k1 : IK) (src1 : List E) (conds : List E) (elt : E)
  | dict (t : Bool) (ks vs : List E)
  | get (a b : E) (c : D)
  | idx (a b : E)
inductive S where
  | asg (own : Bool) (i : Nat) (e : E)
  | unp (tg : Tg) (e : E)
  | par (is : List (Nat × Bool)) (es : List E)
  | append (i : Nat) (e : E)
  | extend (i : Nat) (e : E)
  | store (i : Nat) (k e : E)
  | appPop (i j : Nat) (e : E)
  | ite (c : E) (a b : List S)
  | for (tg : Tg) (k : IK) (src : List E) (b : List S)
  | while (c : E) (b : List S)
  | ret (e : E)
  | exp (e : E)
  | raise (c : Str)
  | tryR (b : E) (hs : List (Str × D))
  | tokApp (i : Nat) (e : E)
  | tokSet (i : Nat) (e : E)

/-! ### values -/
def lim : Nat := sizeLine
def truth : D → Option Bool
  | .none => some false
  | .bool b => some b
  | .int i => some (i != 0)
  | .str s => if s.length ≤ lim then some (s.length != 0) else none
  | .list l => some (!l.isEmpty)
  | .tuple l => some (!l.isEmpty)
  | .dict _ => none
/-- no dict within, depth at most n -/
def dep : Nat → D → Bool
  | _, .none => true
  | _, .bool _ => true
  | _, .int _ => true
  | _, .str _ => true
  | 0, .list _ => false
  | 0, .tuple _ => false
  | n + 1, .list l => l.all (dep n)
  | n + 1, .tuple l => l.all (dep n)
  | _, .dict _ => false
def eqD (d e : D) : Option Bool := if dep 60 d && dep 60 e then some (PyData.eqv d e) else none
def strLt (a b : Str) : Bool := decide (a.cps.toList < b.cps.toList)
def strLe (a b : Str) : Bool := !decide (b.cps.toList < a.cps.toList)
def notNone : D → Bool
  | .none => false
  | _ => true
/-- < of alike data (ints, texts, tuples and lists of such) -/
def ltD (a b : D) : Option Bool := if PySem.W.alike a b && notNone a && dep 30 a && dep 30 b then some (PySem.W.dataLt a b) else none
def leD : D → D → Option Bool
  | .int i, .int j => some (decide (i ≤ j))
  | .str a, .str b => some (strLe a b)
  | _, _ => none
def gtD : D → D → Option Bool
  | .int i, .int j => some (decide (j < i))
  | .str a, .str b => some (strLt b a)
  | _, _ => none
def neTup : D → Bool
  | .tuple (_ :: _) => true
  | _ => false
def noTup : D → Bool
  | .tuple _ => false
  | .none => false
  | _ => true
def sortOk (l : List D) : Bool := (l.all fun x => l.all fun y => PySem.W.alike x y) && (l.all neTup || l.all noTup) && l.all (dep 30)
def sortD (l : List D) : Option (List D) := if sortOk l then some (l.mergeSort (PySem.W.dataLe false id)) else none
def bestOk (l : List D) : Bool := (l.all fun x => l.all fun y => PySem.W.alike x y) && l.all notNone && l.all (dep 30)
/-- texts: each once; in order -/
def nub : List Str → List Str
  | [] => []
  | x :: xs => x :: (nub xs).filter fun y => decide (y ≠ x)
def strLE (a b : Str) : Bool := decide (a.cps.toList ≤ b.cps.toList)
def sortS (l : List Str) : List Str := l.mergeSort strLE
def cut {α : Type} (xs : List α) (lo hi : Option Int) : List α := (xs.drop (HT.sIx xs.length 0 lo)).take (HT.sIx xs.length xs.length hi - HT.sIx xs.length 0 lo)
/-! ### operators -/
def typ : Ty → D → Option Bool
  | .int, .int _ => some true
  | .int, .bool _ => some true
  | .bool, .bool _ => some true
  | .str, .str _ => some true
  | .tuple, .tuple _ => some true
  | .list, .list _ => some true
  | _, .dict _ => none
  | _, _ => some false
def intsOf : List D → Option (List Int)
  | [] => some []
  | .int i :: r => (intsOf r).map (i :: ·)
  | _ => none
def boolsOf : List D → Option (List Bool)
  | [] => some []
  | .bool b :: r => (boolsOf r).map (b :: ·)
  | _ => none
def seqOf : D → Option (List D)
  | .list l => some l
  | .tuple l => some l
  | _ => none
def strsOf : List D → Option (List Str)
  | [] => some []
  | .str s :: r => (strsOf r).map (s :: ·)
  | _ => none
def chars (s : Str) : List D := s.cps.toList.map fun c => .str ⟨#[c]⟩
def pairsOf : List D → Option (List (D × D))
  | [] => some []
  | .tuple [k, v] :: r => (pairsOf r).map ((k, v) :: ·)
  | _ => none
/-- a key of a dict: a text or an int (kind false), or a tuple of such (kind true) -/
def keyFor : Bool → D → Bool
  | false, .int _ => true
  | false, .str _ => true
  | true, .tuple l => l.all fun (x : PyData) => match x with | .int _ => true | .str _ => true | _ => false
  | _, _ => false
/-- a dict whose keys are tuples bears a mark ahead -/
def mkD : Bool → List (D × D) → D
  | false, l => .dict l
  | true, l => .dict ((.bool true, .none) :: l)
def dictV : D → Option (Bool × List (D × D))
  | .dict ((.none, _) :: _) => none
  | .dict ((.bool _, _) :: l) => some (true, l)
  | .dict l => some (false, l)
  | _ => none
def putD (l : List (D × D)) (k v : D) : List (D × D) :=
  if (l.any fun p => PyData.eqv p.1 k) = true then l.map (fun p => if PyData.eqv p.1 k = true then (p.1, v) else p) else l ++ [(k, v)]
def getD : List (D × D) → D → Option D
  | [], _ => none
  | (k', v') :: r, k => if PyData.eqv k' k then some v' else getD r k
/-- what stands under a key: none where the dict is not of that key's kind -/
def lookD (d k : D) : Option (Option D) := (dictV d).bind fun p => if keyFor p.1 k then some (getD p.2 k) else none
def rangeL (lo : Int) (n : Nat) : List D := (List.range n).map fun (i : Nat) => .int (lo + (i : Int))
def app1 : O1 → D → Option D
  | .neg, .int i => some (.int (-i))
  | .inv, .int i => some (.int (-i - 1))
  | .not, d => (truth d).map fun b => .bool (!b)
  | .len, .str s => if s.length ≤ lim then some (.int s.length) else none
  | .len, .list l => some (.int l.length)
  | .len, .tuple l => some (.int l.length)
  | .len, .dict l => (dictV (.dict l)).bind fun p => if p.1 then none else some (.int p.2.length)
  | .all, .list l => (boolsOf l).map fun bs => .bool (bs.all id)
  | .any, .list l => (boolsOf l).map fun bs => .bool (bs.any id)
  | .tupleOf, .list l => some (.tuple l)
  | .tupleOf, .tuple l => some (.tuple l)
  | .tupleOf, .str s => if s.length ≤ lim then some (.tuple (chars s)) else none
  | .listOf, .list l => some (.list l)
  | .listOf, .tuple l => some (.list l)
  | .sorted, .list l => (sortD l).map .list
  | .sorted, .tuple l => (sortD l).map .list
  | .setLen, d => (seqOf d).bind fun l => (strsOf l).bind fun ss => if ss.length < 4000 then some (.int (nub ss).length) else none
  | .setSorted, d => (seqOf d).bind fun l => (strsOf l).bind fun ss => if ss.length < 4000 then some (.list ((sortS (nub ss)).map .str)) else none
  | .max, .list (x :: xs) => if bestOk (x :: xs) then some (PySem.W.maxD x xs) else none
  | .min, .list (x :: xs) => if bestOk (x :: xs) then some (PySem.W.minD x xs) else none
  | .sum, .list l => (intsOf l).map fun is => .int is.sum
  | .abs, .int i => some (.int (if i < 0 then -i else i))
  | .str, .int i => if i.natAbs < 100 then some (.str (toString i)) else none
  | .str, .bool b => some (.str (if b then "True" else "False"))
  | .int, .int i => some (.int i)
  | .int, .bool b => some (.int (if b then 1 else 0))
  | .rev, .list l => some (.list l.reverse)
  | .rev, .tuple l => some (.tuple l.reverse)
  | .isN, d => some (.bool (!notNone d))
  | .isNN, d => some (.bool (notNone d))
  | .isi t, d => (typ t d).map .bool
  | .keys, .tuple [.dict l] => (dictV (.dict l)).bind fun p => if p.1 then none else some (.list (p.2.map (·.1)))
  | .keysT, .tuple [.dict l] => (dictV (.dict l)).bind fun p => if p.1 then some (.list (p.2.map (·.1))) else none
  | .values, .tuple [.dict l] => (dictV (.dict l)).bind fun p => if p.1 then some (.list (p.2.map (·.2))) else none
  | .isT, .bool b => some (.bool b)
  | .isF, .bool b => some (.bool (!b))
  | .range, .int n => if n.natAbs ≤ lim then some (.list (rangeL 0 n.toNat)) else none
  | .dictOf, .list l => (pairsOf l).bind fun ps => if ps.all (fun p => keyFor false p.1) then some (.dict (ps.foldl (fun m p => putD m p.1 p.2) [])) else none
  | _, _ => none
def cmpI (f : Int → Int → Bool) (g : Str → Str → Bool) : D → D → Option D
  | .int i, .int j => some (.bool (f i j))
  | .str a, .str b => some (.bool (g a b))
  | _, _ => none
def idxOf (x : D) : List D → Option Nat
  | [] => none
  | y :: ys => if PyData.eqv y x then some 0 else (idxOf x ys).map (· + 1)
def app2 : O2 → D → D → Option D
  | .add, .int i, .int j => some (.int (i + j))
  | .add, .bool b, .int j => some (.int ((if b = true then (1 : Int) else 0) + j))
  | .add, .str a, .str b => if a.length + b.length ≤ lim then some (.str (a ++ b)) else none
  | .add, .list a, .list b => if a.length + b.length ≤ lim then some (.list (a ++ b)) else none
  | .add, .tuple a, .tuple b => if a.length + b.length ≤ lim then some (.tuple (a ++ b)) else none
  | .sub, .int i, .int j => some (.int (i - j))
  | .sub, .bool b, .int j => some (.int ((if b = true then (1 : Int) else 0) - j))
  | .mul, .int i, .int j => if j.natAbs < 2 ^ 63 then some (.int (i * j)) else none
  | .mul, .list a, .int j => if a.length * j.toNat ≤ lim ∧ j.natAbs < 2 ^ 60 then some (.list (List.replicate j.toNat a).flatten) else none
  | .fdiv, .int i, .int j => if 0 < j ∧ j < 1073741824 then some (.int (i / j)) else none
  | .mod, .int i, .int j => if 0 < j then some (.int (i % j)) else none
  | .shl, .int i, .int j => if 0 ≤ j ∧ j ≤ 1000 ∧ i.natAbs < 2 ^ 60 then some (.int (i * 2 ^ j.toNat)) else none
  | .band, .int i, .int j => some (.int (Builtin.bitAnd i j))
  | .eq, a, b => (eqD a b).map .bool
  | .ne, a, b => (eqD a b).map fun x => .bool (!x)
  | .lt, a, b => (ltD a b).map .bool
  | .gt, a, b => (gtD a b).map .bool
  | .le, a, b => (leD a b).map .bool
  | .ge, a, b => (leD b a).map .bool
  | .isin, x, .list l => if dep 60 x && l.all (dep 60) then some (.bool (l.any fun y => PyData.eqv y x)) else none
  | .isin, x, .tuple l => if dep 60 x && l.all (dep 60) then some (.bool (l.any fun y => PyData.eqv y x)) else none
  | .isin, x, .dict l => (lookD (.dict l) x).map fun o => .bool o.isSome
  | .notin, x, .list l => if dep 60 x && l.all (dep 60) then some (.bool (!l.any fun y => PyData.eqv y x)) else none
  | .notin, x, .tuple l => if dep 60 x && l.all (dep 60) then some (.bool (!l.any fun y => PyData.eqv y x)) else none
  | .notin, x, .dict l => (lookD (.dict l) x).map fun o => .bool (!o.isSome)
  | .ix, .list l, .int i => atI l i
  | .ix, .tuple l, .int i => atI l i
  | .ix, .str s, .int i => if s.length ≤ lim then (atI s.cps.toList i).map fun c => .str ⟨#[c]⟩ else none
  | .ix, .dict l, k => (lookD (.dict l) k).join
  | .index, .list l, x => if dep 60 x && l.all (dep 60) then (idxOf x l).map fun (j : Nat) => .int (j : Int) else none
  | .min2, .int i, .int j => some (.int (if j < i then j else i))
  | .dictZip, a, b => (seqOf a).bind fun x => (seqOf b).bind fun y => if x.all (keyFor false) && decide (x.length ≤ 1000) then some (.dict ((x.zip y).foldl (fun m p => putD m p.1 p.2) [])) else none
  | .join, .str a, .list l => (strsOf l).bind fun ys => if (ys.map (·.length)).sum + ys.length * a.length ≤ lim then some (.str (Txt.join a ys)) else none
  | .split, .str a, .str b => if (b.length == 0) = false ∧ a.length + 2 ≤ lim then some (.list ((Txt.split a b).map .str)) else none
  | .endsw, .str a, .str b => some (.bool (Txt.endswith a b))
  | .count, .list l, x => if dep 60 x && l.all (dep 60) then some (.int ((l.filter fun y => PyData.eqv y x).length : Nat)) else none
  | .get1, .dict l, k => (lookD (.dict l) k).map fun o => o.getD .none
  | _, _, _ => none
def slcD (d : D) (lo hi : Option Int) : Option D :=
  match d with
  | .list l => some (.list (cut l lo hi))
  | .tuple l => some (.tuple (cut l lo hi))
  | .str s => if s.length ≤ lim then some (.str ⟨(cut s.cps.toList lo hi).toArray⟩) else none
  | _ => none
/-! ### what is walked -/
def walkL : IK → List D → Option (List D)
  | .plain, [.list l] => some l
  | .plain, [.tuple l] => some l
  | .plain, [.str s] => if s.length ≤ lim then some (chars s) else none
  | .plain, [.dict [(.none, .list l)]] => some l
  | .range1, [.int n] => if n.natAbs ≤ lim then some (rangeL 0 n.toNat) else none
  | .range2, [.int a, .int b] => if a.natAbs ≤ 1000000 ∧ b.natAbs ≤ 1000000 then some (rangeL a (b - a).toNat) else none
  | .zip2, [a, b] => (seqOf a).bind fun x => (seqOf b).map fun y => (x.zip y).map fun p => .tuple [p.1, p.2]
  | .zip3, [a, b, c] => (seqOf a).bind fun x => (seqOf b).bind fun y => (seqOf c).map fun z => (x.zip (y.zip z)).map fun p => .tuple [p.1, p.2.1, p.2.2]
  | .enum, [a] => (seqOf a).map fun x => (x.zipIdx).map fun p => .tuple [.int (p.2 : Nat), p.1]
  | .enumZip, [a, b] => (seqOf a).bind fun x => (seqOf b).map fun y => ((x.zip y).zipIdx).map fun p => .tuple [.int (p.2 : Nat), .tuple [p.1.1, p.1.2]]
  | _, _ => none
/-! ### slots -/
def getV (env : Env) (i : Nat) : Option D :=
  match env[i]? with
  | some (.val d) => some d
  | _ => none
def getB (env : Env) (i : Nat) : Option D :=
  match env[i]? with
  | some (.val d) => some d
  | some (.own d) => some d
  | _ => none
def orB (env : Env) (a : E) (r : M D) : M D :=
  match a with
  | .var i => liftO (getB env i)
  | _ => r
mutual
def asgT : Tg → D → Env → Option Env
  | .n i, d, env => if i < env.length then some (env.set i (.val d)) else none
  | .t ts, .tuple l, env => asgTs ts l env

  | _, _, _ => none
def asgTs : List Tg → List D → Env → Option Env
  | [], [], env => some env
  | t :: ts, d :: ds, env => (asgT t d env).bind fun e => asgTs ts ds e
  | _, _, _ => none
end
def wipeE (env : Env) : List Nat → Env
  | [] => env
  | v :: vs => (wipeE env vs).set v .no
def isLst : D → Bool
  | .list _ => true
  | _ => false
def listOf : D → List D
  | .list l => l
  | _ => []
def flatD (l : List D) : List D := (l.map listOf).flatten
/-- filter and map within one walk, from the left -/
def compL (f : D → M (Option D)) : List D → M (List D)
  | [] => pure []
  | d :: r => do
    let o ← f d
    let rest ← compL f r
    pure (match o with | some x => x :: rest | none => rest)
def noX {α : Type} (x : M α) : M α := fun st =>
  match x st with
  | some (.ok a, st1) => some (.ok a, st1)
  | _ => none
def tru (d : D) : M Bool := liftO (truth d)
/-- the draws' list and the script, as they are asked by _law_draw -/
def absL : List D → List D
  | [] => []
  | .int i :: r => .int (if i < 0 then -i else i) :: absL r
  | x :: r => x :: absL r
def isTok : D → Bool
  | .dict [(.none, .none)] => true
  | _ => false
def scrOf : D → Option (List D)
  | .dict [(.none, .list l)] => some l
  | _ => none
def tokOp : Nat → DSt → Option D
  | 0, st => some (.int st.length)
  | 1, n :: _ => some (.int n)
  | 2, st => some (.bool (!st.isEmpty))
  | _, _ => none
def scrOp : Nat → List D → D → Option D
  | 3, l, _ => some (.int l.length)
  | 4, l, .int j => atI l j
  | 5, l, _ => some (.bool (!l.isEmpty))
  | 6, l, _ => app1 .max (.list (absL l ++ [.int 0]))
  | _, _, _ => none
def opTok (o : Nat) (x y : D) : M D := fun st =>
  if isTok x then (tokOp o st).map fun d => (.ok d, st) else ((scrOf x).bind fun l => scrOp o l y).map fun d => (.ok d, st)
def intOf : D → Option Int
  | .int n => some n
  | _ => none
def appTok (n : Int) : M Unit := fun st => if st.length < lim then some (.ok (), st ++ [n]) else none
def setTok (n : Int) : M Unit := fun st => match st with
  | [] => none
  | _ :: r => some (.ok (), n :: r)
mutual
def ev (Γ : List FnSem) (env : Env) : E → M D
  | .con d => pure d
  | .var i => liftO (getV env i)
  | .tup es => do
    let ds ← evs Γ env es
    if ds.length ≤ lim then pure (.tuple ds) else fail
  | .lst es => do
    let ds ← evs Γ env es
    if ds.length ≤ lim then pure (.list ds) else fail
  | .op1 o a => do
    let x ← orB env a (ev Γ env a)
    liftO (app1 o x)
  | .op2 o a b => do
    let x ← orB env a (ev Γ env a)
    let y ← orB env b (ev Γ env b)
    liftO (app2 o x y)
  | .op3 o a b _ => do
    let x ← orB env a (ev Γ env a)
    let y ← orB env b (ev Γ env b)
    opTok o x y
  | .chain o o' a b c => do
    let x ← orB env a (ev Γ env a)
    let y ← orB env b (ev Γ env b)
    let r ← liftO (app2 o x y)
    match r with
    | .bool true => do
      let z ← orB env c (ev Γ env c)
      liftO (app2 o' y z)
    | .bool false => pure (.bool false)
    | _ => fail
  | .and a b => do
    let x ← ev Γ env a
    let k ← tru x
    if k then ev Γ env b else pure x
  | .or a b => do
    let x ← ev Γ env a
    let k ← tru x
    if k then pure x else ev Γ env b
  | .ite c a b => do
    let x ← orB env c (ev Γ env c)
    let k ← tru x
    if k then ev Γ env a else ev Γ env b
  | .slc a lo hi => do
    let x ← orB env a (ev Γ env a)
    let l ← evo Γ env lo
    let h ← evo Γ env hi
    liftO (slcD x l h)
  | .call j es => do
    let ds ← evs Γ env es
    (Γ.getD j (fun _ => fail)) ds
  | .comp own tg k src conds elt => do
    let ds ← evsB Γ env src
    let items ← liftO (walkL k ds)
    let out ← noX (compL (fun d => do
      let env1 ← liftO (asgT tg d (wipeE env own))
      let b ← evc Γ env1 conds
      if b then do
        let x ← ev Γ env1 elt
        pure (some x)
      else pure none) items)
    pure (.list out)
  | .comp2 own tg k src own1 tg1 k1 src1 conds elt => do
    let ds ← evsB Γ env src
    let items ← liftO (walkL k ds)
    let out ← noX (compL (fun d => do
      let env1 ← liftO (asgT tg d (wipeE env (own ++ own1)))
      let ds1 ← evs Γ env1 src1
      let items1 ← liftO (walkL k1 ds1)
      let out ← compL (fun d1 => do
        let env2 ← liftO (asgT tg1 d1 (wipeE env1 own1))
        let b ← evc Γ env2 conds
        if b then do
          let x ← ev Γ env2 elt
          pure (some x)
        else pure none) items1
      pure (some (.list out))) items)
    if (flatD out).length ≤ lim then pure (.list (flatD out)) else fail
  | .dict t ks vs => do
    let a ← evs Γ env ks
    let b ← evs Γ env vs
    if (a.all (keyFor t)) && a.length ≤ 1 && b.length = a.length then pure (mkD t ((a.zip b).foldl (fun m p => putD m p.1 p.2) [])) else fail
  | .get a b c => do
    let x ← orB env a (ev Γ env a)
    if (dictV x).isSome then do
      let y ← orB env b (ev Γ env b)
      let o ← liftO (lookD x y)
      pure (o.getD c)
    else fail
  | .idx a b => do
    let x ← orB env a (ev Γ env a)
    if isLst x then do
      let y ← orB env b (ev Γ env b)
      liftO (app2 .index x y)
    else fail
def evs (Γ : List FnSem) (env : Env) : List E → M (List D)
  | [] => pure []
  | e :: es => do
    let d ← ev Γ env e
    let ds ← evs Γ env es
    pure (d :: ds)
/-- sources of a walk: borrowed -/
def evsB (Γ : List FnSem) (env : Env) : List E → M (List D)
  | [] => pure []
  | e :: es => do
    let d ← orB env e (ev Γ env e)
    let ds ← evsB Γ env es
    pure (d :: ds)
/-- all tests hold -/
def evc (Γ : List FnSem) (env : Env) : List E → M Bool
  | [] => pure true
  | e :: es => do
    let d ← ev Γ env e
    let k ← tru d
    if k then evc Γ env es else pure false
def evo (Γ : List FnSem) (env : Env) : Option E → M (Option Int)
  | none => pure none
  | some e => do
    let d ← ev Γ env e
    match d with
    | .int i => pure (some i)
    | _ => fail
end
/-! ### statements -/
inductive Fl where
  | nx | rt (d : D)
def frz (env : Env) : List Nat → Env
  | [] => env
  | i :: r =>
    let env1 := frz env r
    match env1[i]? with
    | some (.own d) => env1.set i (.val d)
    | _ => env1
mutual
/-- names whose own object would be handed on by e -/
def esc : E → List Nat
  | .con _ => []
  | .var i => [i]
  | .tup es => escs es
  | .lst es => escs es
  | .op1 _ a => escB a
  | .op2 _ a b => escB a ++ escB b
  | .op3 _ _ _ _ => []
  | .chain _ _ a b c => escB a ++ escB b ++ escB c
  | .and a b => esc a ++ esc b
  | .or a b => esc a ++ esc b
  | .ite c a b => escB c ++ esc a ++ esc b
  | .slc a lo hi => escB a ++ esco lo ++ esco hi
  | .call _ es => escs es
  | .comp own _ _ src conds elt => escsB src ++ (escs conds ++ esc elt).filter fun i => !own.contains i
  | .comp2 own _ _ src own1 _ _ src1 conds elt => escsB src ++ (escs src1 ++ escs conds ++ esc elt).filter fun i => !(own ++ own1).contains i
  | .dict _ ks vs => escs ks ++ escs vs
  | .get a b _ => escB a ++ escB b
  | .idx a b => escB a ++ escB b
def escB : E → List Nat
  | .var _ => []
  | .con _ => []
  | .tup es => escs es
  | .lst es => escs es
  | .op1 _ a => escB a
  | .op2 _ a b => escB a ++ escB b
  | .op3 _ _ _ _ => []
  | .chain _ _ a b c => escB a ++ escB b ++ escB c
  | .and a b => esc a ++ esc b
  | .or a b => esc a ++ esc b
  | .ite c a b => escB c ++ esc a ++ esc b
  | .slc a lo hi => escB a ++ esco lo ++ esco hi
  | .call _ es => escs es
  | .comp own _ _ src conds elt => escsB src ++ (escs conds ++ esc elt).filter fun i => !own.contains i
  | .comp2 own _ _ src own1 _ _ src1 conds elt => escsB src ++ (escs src1 ++ escs conds ++ esc elt).filter fun i => !(own ++ own1).contains i
  | .dict _ ks vs => escs ks ++ escs vs
  | .get a b _ => escB a ++ escB b
  | .idx a b => escB a ++ escB b
def escs : List E → List Nat
  | [] => []
  | e :: es => esc e ++ escs es
def escsB : List E → List Nat
  | [] => []
  | e :: es => escB e ++ escsB es
def esco : Option E → List Nat
  | none => []
  | some e => esc e
end
def setS (env : Env) (i : Nat) (s : Slot) : M Env := if i < env.length then pure (env.set i s) else fail
def ownL (env : Env) (i : Nat) : Option (List D) :=
  match env[i]? with
  | some (.own (.list l)) => some l
  | _ => none
def forL (tg : Tg) (b : Env → M (Fl × Env)) : List D → Env → M (Fl × Env)
  | [], env => pure (.nx, env)
  | d :: r, env => do
    let env1 ← liftO (asgT tg d env)
    let p ← b env1
    match p.1 with
    | .nx => forL tg b r p.2
    | .rt v => pure (.rt v, p.2)
def whL (c : Env → M Bool) (b : Env → M (Fl × Env)) : Nat → Env → M (Fl × Env)
  | 0, _ => fail
  | n + 1, env => do
    let k ← c env
    if k then do
      let p ← b env
      match p.1 with
      | .nx => whL c b n p.2
      | .rt v => pure (.rt v, p.2)
    else pure (.nx, env)
def tryM (x : M D) (hs : List (Str × D)) : M D := fun st =>
  match x st with
  | some (.error c, st1) => (match hs.lookup c with
    | some d => some (.ok d, st1)
    | none => none)
  | r => r
def ownB : Bool → D → Bool
  | false, _ => true
  | true, .list _ => true
  | true, .dict ((.none, _) :: _) => false
  | true, .dict _ => true
  | _, _ => false
def setAll : List (Nat × Bool) → List D → Env → M Env
  | [], [], env => pure env
  | (i, o) :: r, d :: ds, env => do
      let env1 ← setS env i (if o then .own d else .val d)
      setAll r ds env1
  | _, _, _ => fail
def evsP (Γ : List FnSem) (env : Env) : List Bool → List E → M (List D)
  | [], [] => pure []
  | f :: fs, e :: es => do
    let d ← ev Γ env e
    if ownB f d then do
      let ds ← evsP Γ env fs es
      pure (d :: ds)
    else fail
  | _, _ => fail
def tst (Γ : List FnSem) (c : E) (env : Env) : M Bool := do
  let d ← orB env c (ev Γ env c)
  tru d
def storeD (o : D) (k v : D) : Option D :=
  match o with
  | .list l => (match k with
    | .int i => (ixN l.length i).map fun j => .list (l.set j v)
    | _ => none)
  | .dict l => (dictV (.dict l)).bind fun p => if keyFor p.1 k && decide (p.2.length < lim) then some (mkD p.1 (putD p.2 k v)) else none
  | _ => none
def fuel : Nat := 1000000
mutual
def ex (Γ : List FnSem) : S → Env → M (Fl × Env)
  | .asg o i e, env => do
    let env1 := frz env (esc e)
    let d ← ev Γ env1 e
    if ownB o d then do
      let env2 ← setS env1 i (if o then .own d else .val d)
      pure (.nx, env2)
    else fail
  | .unp tg e, env => do
    let env1 := frz env (esc e)
    let d ← ev Γ env1 e
    let env2 ← liftO (asgT tg d env1)
    pure (.nx, env2)
  | .par is es, env => do
    let env1 := frz env (escs es)
    let ds ← evsP Γ env1 (is.map (·.2)) es
    let env2 ← setAll is ds env1
    pure (.nx, env2)
  | .append i e, env => do
    let env1 := frz env (esc e)
    let l ← liftO (ownL env1 i)
    let d ← ev Γ env1 e
    if l.length < lim then pure (.nx, env1.set i (.own (.list (l ++ [d])))) else fail
  | .extend i e, env => do
    let l ← liftO (ownL env i)
    let d ← ev Γ env e
    let m ← liftO (seqOf d)
    if l.length + m.length ≤ lim then pure (.nx, env.set i (.own (.list (l ++ m)))) else fail
  | .store i k e, env => do
    let env1 := frz env (esc e)
    match env1[i]? with
    | some (.own o) => do
      let d ← ev Γ env1 e
      let kd ← ev Γ env1 k
      let o1 ← liftO (storeD o kd d)
      pure (.nx, env1.set i (.own o1))
    | _ => fail
  | .appPop i j e, env => do
    let l ← liftO (ownL env i)
    let m ← liftO (ownL env j)
    let d ← ev Γ env e
    match d with
    | .int n => if 0 ≤ n ∧ n < 1000000000 ∧ l.length < lim ∧ i ≠ j then (match m[n.toNat]? with
        | some x => pure (.nx, (env.set j (.own (.list (m.eraseIdx n.toNat)))).set i (.own (.list (l ++ [x]))))
        | none => fail) else fail
    | _ => fail
  | .ite c a b, env => do
    let k ← tst Γ c env
    if k then exs Γ a env else exs Γ b env
  | .for tg k src b, env => do
    let env1 := frz env (escs src)
    let ds ← evs Γ env1 src
    let items ← liftO (walkL k ds)
    forL tg (exs Γ b) items env1
  | .while c b, env => whL (tst Γ c) (exs Γ b) fuel env
  | .ret e, env => do
    let env1 := frz env (esc e)
    let d ← ev Γ env1 e
    pure (.rt d, env1)
  | .exp e, env => do
    let _ ← ev Γ env e
    pure (.nx, env)
  | .raise c, _ => throwX c
  | .tryR e hs, env => do
    let d ← tryM (ev Γ env e) hs
    pure (.rt d, env)
  | .tokApp i e, env => do
    let t ← liftO (getV env i)
    if isTok t then do
      let d ← ev Γ env e
      let n ← liftO (intOf d)
      let _ ← appTok n
      pure (.nx, env)
    else fail
  | .tokSet i e, env => do
    let t ← liftO (getV env i)
    if isTok t then do
      let d ← ev Γ env e
      let n ← liftO (intOf d)
      let _ ← setTok n
      pure (.nx, env)
    else fail
def exs (Γ : List FnSem) : List S → Env → M (Fl × Env)
  | [], env => pure (.nx, env)
  | s :: r, env => do
    let p ← ex Γ s env
    match p.1 with
    | .nx => exs Γ r p.2
    | .rt v => pure (.rt v, p.2)
end
structure Fn where
  np : Nat
  nl : Nat
  body : List S
def run (Γ : List FnSem) (f : Fn) : FnSem := fun ds =>
  if ds.length = f.np then do
    let p ← exs Γ f.body (ds.map .val ++ List.replicate (f.nl - f.np) .no)
    match p.1 with
    | .rt d => pure d
    | .nx => pure .none
  else fail
end TK

/-! the reflected layer, 2: how values stand in the heap -/
namespace TK
open PySem PySem.Spec PyProof.Rows L2

def hid (H : Hp) (O : Addr → Bool) : Hp := fun a => if O a = true then none else H a
theorem hid_of {H : Hp} {O : Addr → Bool} {a : Addr} (h : O a = false) : hid H O a = H a := by
  unfold hid; rw [h]; rfl
theorem hid_no {H : Hp} {O : Addr → Bool} {a : Addr} (h : O a = true) : hid H O a = none := by
  unfold hid; rw [h]; rfl
theorem hid_some {H : Hp} {O : Addr → Bool} {a : Addr} {o : HO} (h : hid H O a = some o) : O a = false ∧ H a = some o := by
  unfold hid at h
  cases e : O a with
  | true => rw [e] at h; cases h
  | false => rw [e] at h; exact ⟨rfl, h⟩
def keyD : Key → D
  | .inl i => .int i
  | .inr x => .str x
def keyS : Key → Bool
  | .inl _ => true
  | .inr x => PyData.strOk x
/-- what may become of an object that is not written: it stands, or (a dict) it is locked for good -/
def Kp (o o' : HO) : Prop := o' = o ∨ ∃ od, o' = .frz od o ∧ ((∃ k, o = .dK k) ∨ ∃ k, o = .dT k)
theorem Kp.refl (o : HO) : Kp o o := .inl rfl
theorem Kp.trans {a b c : HO} (h : Kp a b) (h' : Kp b c) : Kp a c := by
  rcases h with rfl | ⟨od, rfl, q⟩
  · exact h'
  · rcases h' with rfl | ⟨od', rfl, q'⟩
    · exact .inr ⟨od, rfl, q⟩
    · rcases q' with ⟨k, z⟩ | ⟨k, z⟩ <;> cases z
theorem Kp.lst {xs : List V} {o : HO} (h : Kp (.lst xs) o) : o = .lst xs := by
  rcases h with h | ⟨od, _, ⟨k, z⟩ | ⟨k, z⟩⟩
  · exact h
  · cases z
  · cases z
theorem Kp.tup {xs : List V} {o : HO} (h : Kp (.tup xs) o) : o = .tup xs := by
  rcases h with h | ⟨od, _, ⟨k, z⟩ | ⟨k, z⟩⟩
  · exact h
  · cases z
  · cases z
theorem Kp.frz {od : Obj} {u o : HO} (h : Kp (.frz od u) o) : o = .frz od u := by
  rcases h with h | ⟨od, _, ⟨k, z⟩ | ⟨k, z⟩⟩
  · exact h
  · cases z
  · cases z
def Le (G G' : Hp) : Prop := ∀ a o, G a = some o → ∃ o', G' a = some o' ∧ Kp o o'
theorem Le.refl (G : Hp) : Le G G := fun _ o h => ⟨o, h, .refl o⟩
theorem Le.trans {G G1 G2 : Hp} (a : Le G G1) (b : Le G1 G2) : Le G G2 := fun x o h => by
  obtain ⟨o1, e1, k1⟩ := a x o h
  obtain ⟨o2, e2, k2⟩ := b x o1 e1
  exact ⟨o2, e2, k1.trans k2⟩
theorem Le.lst {G G' : Hp} (h : Le G G') {a : Addr} {xs : List V} (q : G a = some (.lst xs)) : G' a = some (.lst xs) := by
  obtain ⟨o, e, k⟩ := h a _ q
  rw [e, k.lst]
theorem Le.tup {G G' : Hp} (h : Le G G') {a : Addr} {xs : List V} (q : G a = some (.tup xs)) : G' a = some (.tup xs) := by
  obtain ⟨o, e, k⟩ := h a _ q
  rw [e, k.tup]
theorem Le.frz {G G' : Hp} (h : Le G G') {a : Addr} {od : Obj} {u : HO} (q : G a = some (.frz od u)) : G' a = some (.frz od u) := by
  obtain ⟨o, e, k⟩ := h a _ q
  rw [e, k.frz]
theorem Le.dK {G G' : Hp} (h : Le G G') {a : Addr} {xs : List (Key × V)} (q : Rd G a (.dK xs)) : Rd G' a (.dK xs) := by
  rcases q with q | ⟨od, q⟩
  · obtain ⟨o, e, k⟩ := h a _ q
    rcases k with rfl | ⟨od, rfl, _⟩
    · exact .inl e
    · exact .inr ⟨od, e⟩
  · obtain ⟨o, e, k⟩ := h a _ q
    rw [k.frz] at e
    exact .inr ⟨od, e⟩
theorem Le.dT {G G' : Hp} (h : Le G G') {a : Addr} {xs : List (List Key × V)} (q : Rd G a (.dT xs)) : Rd G' a (.dT xs) := by
  rcases q with q | ⟨od, q⟩
  · obtain ⟨o, e, k⟩ := h a _ q
    rcases k with rfl | ⟨od, rfl, _⟩
    · exact .inl e
    · exact .inr ⟨od, e⟩
  · obtain ⟨o, e, k⟩ := h a _ q
    rw [k.frz] at e
    exact .inr ⟨od, e⟩
theorem Le.sqL {K : PySem.W.Frag} {G G' : Hp} (h : Le G G') {a : Addr} {xs : List V} (q : SqL K G a xs) : SqL K G' a xs := by
  rcases q with (q | ⟨od, q⟩) | q
  · exact .inl (.inl (h.lst q))
  · obtain ⟨o, e, k⟩ := h a _ q
    rw [k.frz] at e
    exact .inl (.inr ⟨od, e⟩)
  · exact .inr q
/-- the draws' list, the script's list and its ints -/
structure Dr where
  ps : Addr
  sa : Addr
  ns : List Int
mutual
inductive Rp (w : Dr) (G : Hp) : V → D → Prop
  | non : Rp w G .non .none
  | bl (b : Bool) : Rp w G (.bl b) (.bool b)
  | int (i : Int) : Rp w G (.int i) (.int i)
  | str (x : Str) (h : PyData.strOk x = true) : Rp w G (.str x) (.str x)
  | lst {a : Addr} {xs : List V} {ds : List D} : G a = some (.lst xs) → RpAll w G xs ds → Rp w G (.ref a) (.list ds)
  | tup {a : Addr} {xs : List V} {ds : List D} : G a = some (.tup xs) → RpAll w G xs ds → Rp w G (.ref a) (.tuple ds)
  | dK {a : Addr} {kvs : List (Key × V)} {l : List (D × D)} : Rd G a (.dK kvs) → RpKV w G kvs l → Rp w G (.ref a) (.dict l)
  | dT {a : Addr} {kvs : List (List Key × V)} {l : List (D × D)} : Rd G a (.dT kvs) → RpKT w G kvs l → Rp w G (.ref a) (mkD true l)
  | tok : Rp w G (.ref w.ps) tok
  | scr : Rp w G (.ref w.sa) (scr w.ns)
inductive RpAll (w : Dr) (G : Hp) : List V → List D → Prop
  | nil : RpAll w G [] []
  | cons {v : V} {vs : List V} {d : D} {ds : List D} : Rp w G v d → RpAll w G vs ds → RpAll w G (v :: vs) (d :: ds)
inductive RpKV (w : Dr) (G : Hp) : List (Key × V) → List (D × D) → Prop
  | nil : RpKV w G [] []
  | cons {k : Key} {v : V} {r : List (Key × V)} {d : D} {l : List (D × D)} : keyS k = true → Rp w G v d → RpKV w G r l → RpKV w G ((k, v) :: r) ((keyD k, d) :: l)
inductive RpKT (w : Dr) (G : Hp) : List (List Key × V) → List (D × D) → Prop
  | nil : RpKT w G [] []
  | cons {k : List Key} {v : V} {r : List (List Key × V)} {d : D} {l : List (D × D)} : k.all keyS = true → Rp w G v d → RpKT w G r l → RpKT w G ((k, v) :: r) ((.tuple (k.map keyD), d) :: l)
end
section
variable {w : Dr} {G G' : Hp}
mutual
theorem Rp.mono (h : Le G G') : ∀ {v : V} {d : D}, Rp w G v d → Rp w G' v d
  | _, _, .non => .non
  | _, _, .bl b => .bl b
  | _, _, .int i => .int i
  | _, _, .str x q => .str x q
  | _, _, .lst a b => .lst (h.lst a) (RpAll.mono h b)
  | _, _, .tup a b => .tup (h.tup a) (RpAll.mono h b)
  | _, _, .dK a b => .dK (h.dK a) (RpKV.mono h b)
  | _, _, .dT a b => .dT (h.dT a) (RpKT.mono h b)
  | _, _, .tok => .tok
  | _, _, .scr => .scr
theorem RpAll.mono (h : Le G G') : ∀ {v : List V} {d : List D}, RpAll w G v d → RpAll w G' v d
  | _, _, .nil => .nil
  | _, _, .cons a b => .cons (Rp.mono h a) (RpAll.mono h b)
theorem RpKV.mono (h : Le G G') : ∀ {v : List (Key × V)} {d : List (D × D)}, RpKV w G v d → RpKV w G' v d
  | _, _, .nil => .nil
  | _, _, .cons k a b => .cons k (Rp.mono h a) (RpKV.mono h b)
theorem RpKT.mono (h : Le G G') : ∀ {v : List (List Key × V)} {d : List (D × D)}, RpKT w G v d → RpKT w G' v d
  | _, _, .nil => .nil
  | _, _, .cons k a b => .cons k (Rp.mono h a) (RpKT.mono h b)
end
theorem RpAll.length : ∀ {v : List V} {d : List D}, RpAll w G v d → v.length = d.length
  | _, _, .nil => rfl
  | _, _, .cons _ b => by rw [List.length_cons, List.length_cons, RpAll.length b]
theorem RpAll.get : ∀ {v : List V} {d : List D} {i : Nat} {x : V}, RpAll w G v d → v[i]? = some x → ∃ y, d[i]? = some y ∧ Rp w G x y
  | _, _, _, _, .nil, h => by simp at h
  | _, _, 0, _, .cons a _, h => by
    cases h
    exact ⟨_, rfl, a⟩
  | _, _, i + 1, _, .cons _ b, h => RpAll.get (i := i) b (by simpa using h)
theorem RpAll.get' : ∀ {v : List V} {d : List D} {i : Nat} {y : D}, RpAll w G v d → d[i]? = some y → ∃ x, v[i]? = some x ∧ Rp w G x y
  | _, _, _, _, .nil, h => by simp at h
  | _, _, 0, _, .cons a _, h => by
    cases h
    exact ⟨_, rfl, a⟩
  | _, _, i + 1, _, .cons _ b, h => RpAll.get' (i := i) b (by simpa using h)
theorem RpAll.append : ∀ {v v' : List V} {d d' : List D}, RpAll w G v d → RpAll w G v' d' → RpAll w G (v ++ v') (d ++ d')
  | _, _, _, _, .nil, h => h
  | _, _, _, _, .cons a b, h => .cons a (RpAll.append b h)
theorem RpAll.drop : ∀ {v : List V} {d : List D} (n : Nat), RpAll w G v d → RpAll w G (v.drop n) (d.drop n)
  | _, _, 0, h => h
  | _, _, _ + 1, .nil => .nil
  | _, _, n + 1, .cons _ b => RpAll.drop n b
theorem RpAll.take : ∀ {v : List V} {d : List D} (n : Nat), RpAll w G v d → RpAll w G (v.take n) (d.take n)
  | _, _, 0, _ => .nil
  | _, _, _ + 1, .nil => .nil
  | _, _, n + 1, .cons a b => .cons a (RpAll.take n b)
theorem RpAll.cut {v : List V} {d : List D} (lo hi : Option Int) (h : RpAll w G v d) : RpAll w G (cutV v lo hi) (cut d lo hi) := by
  unfold cutV TK.cut
  rw [h.length]
  exact (h.drop _).take _
theorem RpAll.reverse : ∀ {v : List V} {d : List D}, RpAll w G v d → RpAll w G v.reverse d.reverse
  | _, _, .nil => .nil
  | _, _, .cons a b => by
    rw [List.reverse_cons, List.reverse_cons]
    exact (RpAll.reverse b).append (.cons a .nil)
theorem RpAll.set {x : V} {y : D} (q : Rp w G x y) : ∀ {v : List V} {d : List D} (i : Nat), RpAll w G v d → RpAll w G (v.set i x) (d.set i y)
  | _, _, _, .nil => .nil
  | _, _, 0, .cons _ b => .cons q b
  | _, _, i + 1, .cons a b => .cons a (RpAll.set q i b)
theorem RpAll.eraseIdx : ∀ {v : List V} {d : List D} (i : Nat), RpAll w G v d → RpAll w G (v.eraseIdx i) (d.eraseIdx i)
  | _, _, _, .nil => .nil
  | _, _, 0, .cons _ b => b
  | _, _, i + 1, .cons a b => .cons a (RpAll.eraseIdx i b)
end

/-- the heap goes on: what is hidden stands (but the draws), what may be read may be read -/
structure Ext (O : Addr → Bool) (ps : Addr) (H H' : Hp) : Prop where
  own : ∀ b o, O b = true → b ≠ ps → H b = some o → H' b = some o
  rd : ∀ b o, O b = false → H b = some o → ∃ o', H' b = some o' ∧ Kp o o'
theorem Ext.refl {O : Addr → Bool} {ps : Addr} {H : Hp} : Ext O ps H H := ⟨fun _ _ _ _ h => h, fun _ o _ h => ⟨o, h, .refl o⟩⟩
theorem Ext.trans {O : Addr → Bool} {ps : Addr} {H H1 H2 : Hp} (a : Ext O ps H H1) (b : Ext O ps H1 H2) : Ext O ps H H2 :=
  ⟨fun x o h n e => b.own x o h n (a.own x o h n e), fun x o h e => by
    obtain ⟨o1, e1, k1⟩ := a.rd x o h e
    obtain ⟨o2, e2, k2⟩ := b.rd x o1 h e1
    exact ⟨o2, e2, k1.trans k2⟩⟩
theorem Ext.le {O : Addr → Bool} {ps : Addr} {H H' : Hp} (e : Ext O ps H H') : Le (hid H O) (hid H' O) := fun a o h => by
  obtain ⟨q, h⟩ := hid_some h
  obtain ⟨o', e', k⟩ := e.rd a o q h
  exact ⟨o', by rw [hid_of q]; exact e', k⟩
/-- a new object -/
theorem Ext.new {O : Addr → Bool} {ps : Addr} {H : Hp} {p : Addr} {o : HO} (h : H p = none) : Ext O ps H (upd H p o) :=
  ⟨fun b u _ _ e => by rw [upd_ne (ne_of_none e h)]; exact e, fun b u _ e => ⟨u, by rw [upd_ne (ne_of_none e h)]; exact e, .refl u⟩⟩
theorem hid_mono {H : Hp} {O O' : Addr → Bool} (h : ∀ a, O' a = true → O a = true) : Le (hid H O) (hid H O') := fun a o e => by
  obtain ⟨e1, e2⟩ := hid_some e
  have : O' a = false := by
    cases z : O' a with
    | false => rfl
    | true => rw [h a z] at e1; cases e1
  exact ⟨o, by rw [hid_of this]; exact e2, .refl o⟩
theorem hid_le {H : Hp} {O : Addr → Bool} : Le (hid H O) H := fun a o q => ⟨o, (hid_some q).2, .refl o⟩

/-- what an own name holds -/
inductive OwnAt (w : Dr) (O : Addr → Bool) (H : Hp) (p : Addr) : D → Prop
  | lst {xs : List V} {ds : List D} : H p = some (.lst xs) → RpAll w (hid H O) xs ds → OwnAt w O H p (.list ds)
  | dK {kvs : List (Key × V)} {l : List (D × D)} : H p = some (.dK kvs) → RpKV w (hid H O) kvs l → OwnAt w O H p (.dict l)
  | dT {kvs : List (List Key × V)} {l : List (D × D)} : H p = some (.dT kvs) → RpKT w (hid H O) kvs l → OwnAt w O H p (mkD true l)
/-- a borrowed value: read whole, not handed on -/
def Bp (w : Dr) (O : Addr → Bool) (H : Hp) (v : V) (d : D) : Prop :=
  Rp w (hid H O) v d ∨ ∃ p, v = .ref p ∧ O p = true ∧ p ≠ w.ps ∧ OwnAt w O H p d
section
variable {w : Dr} {O : Addr → Bool} {H H' : Hp} {v : V} {p : Addr} {d : D}
theorem OwnAt.ext (e : Ext O w.ps H H') (ho : O p = true) (hp : p ≠ w.ps) (h : OwnAt w O H p d) : OwnAt w O H' p d := by
  cases h with
  | lst a b => exact .lst (e.own _ _ ho hp a) (b.mono e.le)
  | dK a b => exact .dK (e.own _ _ ho hp a) (b.mono e.le)
  | dT a b => exact .dT (e.own _ _ ho hp a) (b.mono e.le)
theorem Bp.ext (e : Ext O w.ps H H') (h : Bp w O H v d) : Bp w O H' v d := by
  rcases h with h | ⟨p, rfl, h1, h2, h3⟩
  · exact .inl (h.mono e.le)
  · exact .inr ⟨p, rfl, h1, h2, h3.ext e h1 h2⟩
theorem Bp.list {ds : List D} (h : Bp w O H v (.list ds)) : ∃ a xs, v = .ref a ∧ H a = some (.lst xs) ∧ RpAll w (hid H O) xs ds := by
  rcases h with h | ⟨p, rfl, _, _, h⟩
  · cases h with
    | lst a b => exact ⟨_, _, rfl, (hid_some a).2, b⟩
  · cases h with
    | lst a b => exact ⟨_, _, rfl, a, b⟩
theorem Bp.tuple {ds : List D} (h : Bp w O H v (.tuple ds)) : ∃ a xs, v = .ref a ∧ H a = some (.tup xs) ∧ RpAll w (hid H O) xs ds := by
  rcases h with h | ⟨p, rfl, _, _, h⟩
  · cases h with
    | tup a b => exact ⟨_, _, rfl, (hid_some a).2, b⟩
  · cases h
theorem Bp.tupleR {ds : List D} (h : Bp w O H v (.tuple ds)) : Rp w (hid H O) v (.tuple ds) := by
  rcases h with h | ⟨p, rfl, _, _, h⟩
  · exact h
  · cases h
theorem Bp.int {i : Int} (h : Bp w O H v (.int i)) : v = .int i := by
  rcases h with h | ⟨p, rfl, _, _, h⟩ <;> cases h
  rfl
theorem Bp.str {x : Str} (h : Bp w O H v (.str x)) : v = .str x ∧ PyData.strOk x = true := by
  rcases h with h | ⟨p, rfl, _, _, h⟩ <;> cases h
  exact ⟨rfl, by assumption⟩
theorem Bp.bool {b : Bool} (h : Bp w O H v (.bool b)) : v = .bl b := by
  rcases h with h | ⟨p, rfl, _, _, h⟩ <;> cases h
  rfl
theorem Bp.none (h : Bp w O H v .none) : v = .non := by
  rcases h with h | ⟨p, rfl, _, _, h⟩ <;> cases h
  rfl
end

def Post (O : Addr → Bool) (ps : Addr) (H : Hp) (st' : DSt) (H' : Hp) : Prop := Ext O ps H H' ∧ H' ps = some (.lst (st'.map V.int))
/-- the slots and the heap are as env and st tell -/
structure Rel (K : PySem.W.Frag) (w : Dr) (O0 : Addr → Bool) (H0 : Hp) (O : Addr → Bool) (σ : L2.St) (H : Hp) (env : Env) (st : DSt) : Prop where
  ext : Ext O0 w.ps H0 H
  sub : ∀ a, O0 a = true → O a = true
  alc0 : ∀ a, O0 a = true → H0 a ≠ none
  alc : ∀ a, O a = true → H a ≠ none
  new : ∀ a, O a = true → O0 a = false → H0 a = none
  ops : O0 w.ps = true
  sts : H w.ps = some (.lst (st.map V.int))
  scr : SqL K (hid H O) w.sa (w.ns.map V.int)
  len : env.length = σ.length
  val : ∀ (i : Nat) (d : D), env[i]? = some (Slot.val d) → ∃ v, σ[i]? = some (some v) ∧ Rp w (hid H O) v d
  own : ∀ (i : Nat) (d : D), env[i]? = some (Slot.own d) → ∃ p, σ[i]? = some (some (.ref p)) ∧ O p = true ∧ O0 p = false ∧ OwnAt w O H p d
  inj : ∀ (i j : Nat) (p : Addr) (di dj : D), env[i]? = some (Slot.own di) → env[j]? = some (Slot.own dj) → σ[i]? = some (some (.ref p)) → σ[j]? = some (some (.ref p)) → i = j
section
variable {K : PySem.W.Frag} {w : Dr} {O0 O : Addr → Bool} {H0 H H' : Hp} {σ : L2.St} {env : Env} {st st' : DSt}
theorem Rel.psne (R : Rel K w O0 H0 O σ H env st) {p : Addr} (h : O0 p = false) : p ≠ w.ps := fun e => by
  rw [e, R.ops] at h; cases h
theorem Rel.post (R : Rel K w O0 H0 O σ H env st) (q : Post O w.ps H st' H') : Rel K w O0 H0 O σ H' env st' := by
  obtain ⟨e, hs⟩ := q
  refine ⟨⟨fun b o h n x => e.own b o (R.sub b h) n (R.ext.own b o h n x), fun b o h x => ?_⟩, R.sub, R.alc0, fun a h => ?_, R.new, R.ops, hs, e.le.sqL R.scr, R.len, fun i d h => ?_, fun i d h => ?_, R.inj⟩
  · cases z : O b with
    | false =>
      obtain ⟨o1, e1, k1⟩ := R.ext.rd b o h x
      obtain ⟨o2, e2, k2⟩ := e.rd b o1 z e1
      exact ⟨o2, e2, k1.trans k2⟩
    | true =>
      have n := R.new b z h
      rw [n] at x; cases x
  · by_cases hp : a = w.ps
    · rw [hp, hs]; intro z; cases z
    · cases x : H a with
      | none => exact absurd x (R.alc a h)
      | some o => rw [e.own a o h hp x]; intro z; cases z
  · obtain ⟨v, e1, e2⟩ := R.val i d h
    exact ⟨v, e1, e2.mono e.le⟩
  · obtain ⟨p, e1, e2, e3, e4⟩ := R.own i d h
    exact ⟨p, e1, e2, e3, e4.ext e e2 (R.psne e3)⟩
theorem Post.trans {ps : Addr} {st1 st2 : DSt} {H1 H2 : Hp} (a : Post O ps H st1 H1) (b : Post O ps H1 st2 H2) : Post O ps H st2 H2 := ⟨a.1.trans b.1, b.2⟩
theorem Rel.here (R : Rel K w O0 H0 O σ H env st) : Post O w.ps H st H := ⟨Ext.refl, R.sts⟩
theorem Rel.free (R : Rel K w O0 H0 O σ H env st) {p : Addr} (h : H p = none) : O p = false := by
  cases z : O p with
  | false => rfl
  | true => exact absurd h (R.alc p z)
theorem Rel.post_new (R : Rel K w O0 H0 O σ H env st) {p : Addr} {o : HO} (h : H p = none) : Post O w.ps H st (upd H p o) :=
  ⟨Ext.new h, by rw [upd_ne (ne_of_none R.sts h)]; exact R.sts⟩
theorem Rel.getV (R : Rel K w O0 H0 O σ H env st) {i : Nat} {d : D} (h : getV env i = some d) : ∃ v, σ[i]? = some (some v) ∧ Rp w (hid H O) v d := by
  unfold TK.getV at h
  split at h
  · rename_i e
    cases h
    exact R.val i d e
  · cases h
theorem Rel.getB (R : Rel K w O0 H0 O σ H env st) {i : Nat} {d : D} (h : getB env i = some d) : ∃ v, σ[i]? = some (some v) ∧ Bp w O H v d := by
  unfold TK.getB at h
  split at h
  · rename_i e
    cases h
    obtain ⟨v, e1, e2⟩ := R.val i d e
    exact ⟨v, e1, .inl e2⟩
  · rename_i e
    cases h
    obtain ⟨p, e1, e2, e3, e4⟩ := R.own i d e
    exact ⟨_, e1, .inr ⟨p, rfl, e2, R.psne e3, e4⟩⟩
  · cases h
/-- a new tuple, list that is read -/
theorem rp_newT (R : Rel K w O0 H0 O σ H env st) {p : Addr} {xs : List V} {ds : List D} (h : H p = none) (q : RpAll w (hid H O) xs ds) : Rp w (hid (upd H p (.tup xs)) O) (.ref p) (.tuple ds) :=
  .tup (by rw [hid_of (R.free h)]; exact upd_same) (q.mono (Ext.new (ps := w.ps) h).le)
theorem rp_newL (R : Rel K w O0 H0 O σ H env st) {p : Addr} {xs : List V} {ds : List D} (h : H p = none) (q : RpAll w (hid H O) xs ds) : Rp w (hid (upd H p (.lst xs)) O) (.ref p) (.list ds) :=
  .lst (by rw [hid_of (R.free h)]; exact upd_same) (q.mono (Ext.new (ps := w.ps) h).le)
end
end TK

/-! the reflected layer, 3: expressions -/
namespace TK
open PySem PySem.Spec PyProof.Rows L2
/-- how a run ends: Q of what it gives, or the wish about an exception of the class named -/
def Out {α : Type} (mg : Str → Option Value) (E : XK) (O : Addr → Bool) (ps : Addr) (H : Hp) (r : Except Str α) (st' : DSt) (Q : α → Hp → Prop) : Prop :=
  match r with
  | .ok a => ∀ H', Post O ps H st' H' → Q a H'
  | .error c => ∀ A H', mg c = some (.ref A) → Post O ps H st' H' → E (.ref A) none H'
theorem Out.later {α : Type} {mg : Str → Option Value} {E : XK} {O : Addr → Bool} {ps : Addr} {H H1 : Hp} {r : Except Str α} {st1 st' : DSt} {Q : α → Hp → Prop} (p : Post O ps H st1 H1) (h : Out mg E O ps H r st' Q) : Out mg E O ps H1 r st' Q := by
  cases r with
  | ok a => exact fun H' q => h H' (p.trans q)
  | error c => exact fun A H' m q => h A H' m (p.trans q)
section
variable (K : PySem.W.Frag) (mg : Str → Option Value) (E : XK) (Γ : List FnSem)
/-- readings: of a value, of a borrowed value, of a list of values, of a test -/
def rd (T : TK.E) : TE := fun σ H Q => ∃ w O0 H0 O env st r st', Rel K w O0 H0 O σ H env st ∧ ev Γ env T st = some (r, st') ∧ Out mg E O w.ps H r st' fun d H' => ∀ v, Rp w (hid H' O) v d → Q v H'
def rdB (T : TK.E) : TE := fun σ H Q => ∃ w O0 H0 O env st r st', Rel K w O0 H0 O σ H env st ∧ orB env T (ev Γ env T) st = some (r, st') ∧ Out mg E O w.ps H r st' fun d H' => ∀ v, Bp w O H' v d → Q v H'
def rdA (T : List TK.E) : TA := fun σ H Q => ∃ w O0 H0 O env st r st', Rel K w O0 H0 O σ H env st ∧ evs Γ env T st = some (r, st') ∧ Out mg E O w.ps H r st' fun ds H' => ∀ vs, RpAll w (hid H' O) vs ds → Q vs H'
def rdT (T : TK.E) : TT := fun σ H Q => ∃ w O0 H0 O env st r st', Rel K w O0 H0 O σ H env st ∧ (do let d ← orB env T (ev Γ env T); tru d) st = some (r, st') ∧ Out mg E O w.ps H r st' fun b H' => Q b H'
end
theorem _root_.L2.PE.weak {X : Cx} {e : Expr} {t t' : TE} (h : PE X e t) (i : ∀ σ H Q, t' σ H Q → t σ H Q) : PE X e t' := ⟨fun pins s σ H Q I q => h.run pins s σ H Q I (i σ H Q q)⟩
theorem _root_.L2.PT.weak {X : Cx} {e : Expr} {t t' : TT} (h : PT X e t) (i : ∀ σ H Q, t' σ H Q → t σ H Q) : PT X e t' := ⟨fun pins s σ H Q I q => h.run pins s σ H Q I (i σ H Q q)⟩
theorem _root_.L2.PA.weak {X : Cx} {e : List Expr} {t t' : TA} (h : PA X e t) (i : ∀ σ H Q, t' σ H Q → t σ H Q) : PA X e t' := ⟨fun po pins s σ H Q I q => h.run po pins s σ H Q I (i σ H Q q)⟩
theorem _root_.L2.PS.weak {X : Cx} {e : Stmt} {t t' : TS} (h : PS X e t) (i : ∀ D σ H, t' D σ H → t D σ H) : PS X e t' := ⟨fun pins s σ H D I q => h.run pins s σ H D I (i D σ H q)⟩
theorem _root_.L2.PSs.weak {X : Cx} {e : List Stmt} {t t' : TS} (h : PSs X e t) (i : ∀ D σ H, t' D σ H → t D σ H) : PSs X e t' := ⟨fun pins s σ H D I q => h.run pins s σ H D I (i D σ H q)⟩
theorem _root_.L2.PE.or {X : Cx} {e : Expr} {t t' : TE} (h : PE X e t) (h' : PE X e t') : PE X e (fun σ H Q => t σ H Q ∨ t' σ H Q) := ⟨fun pins s σ H Q I q => q.elim (h.run pins s σ H Q I) (h'.run pins s σ H Q I)⟩
section
variable {K : PySem.W.Frag} {mg : Str → Option Value} {E : XK} {Γ : List FnSem} {w : Dr} {O0 O : Addr → Bool} {H0 H : Hp} {σ : L2.St} {env : Env} {st st2 : DSt}
/-- a part first, then the rest -/
theorem rd_bind {α : Type} {T : TK.E} {f : D → M α} {r : Except Str α} {Qo : α → Hp → Prop} {Q : VK} (R : Rel K w O0 H0 O σ H env st) (h : (ev Γ env T >>= f) st = some (r, st2)) (o : Out mg E O w.ps H r st2 Qo)
    (k : ∀ d st1 v H1, Rel K w O0 H0 O σ H1 env st1 → Post O w.ps H st1 H1 → Rp w (hid H1 O) v d → f d st1 = some (r, st2) → Out mg E O w.ps H1 r st2 Qo → Q v H1) : rd K mg E Γ T σ H Q := by
  rcases bind_inv h with ⟨c, h1, rfl⟩ | ⟨d, st1, h1, h2⟩
  · exact ⟨w, O0, H0, O, env, st, _, _, R, h1, o⟩
  · exact ⟨w, O0, H0, O, env, st, _, _, R, h1, fun H1 p v q => k d st1 v H1 (R.post p) p q h2 (o.later p)⟩
theorem rdB_bind {α : Type} {T : TK.E} {f : D → M α} {r : Except Str α} {Qo : α → Hp → Prop} {Q : VK} (R : Rel K w O0 H0 O σ H env st) (h : (orB env T (ev Γ env T) >>= f) st = some (r, st2)) (o : Out mg E O w.ps H r st2 Qo)
    (k : ∀ d st1 v H1, Rel K w O0 H0 O σ H1 env st1 → Post O w.ps H st1 H1 → Bp w O H1 v d → f d st1 = some (r, st2) → Out mg E O w.ps H1 r st2 Qo → Q v H1) : rdB K mg E Γ T σ H Q := by
  rcases bind_inv h with ⟨c, h1, rfl⟩ | ⟨d, st1, h1, h2⟩
  · exact ⟨w, O0, H0, O, env, st, _, _, R, h1, o⟩
  · exact ⟨w, O0, H0, O, env, st, _, _, R, h1, fun H1 p v q => k d st1 v H1 (R.post p) p q h2 (o.later p)⟩
theorem rdA_bind {α : Type} {T : List TK.E} {f : List D → M α} {r : Except Str α} {Qo : α → Hp → Prop} {Q : List V → Hp → Prop} (R : Rel K w O0 H0 O σ H env st) (h : (evs Γ env T >>= f) st = some (r, st2)) (o : Out mg E O w.ps H r st2 Qo)
    (k : ∀ d st1 v H1, Rel K w O0 H0 O σ H1 env st1 → Post O w.ps H st1 H1 → RpAll w (hid H1 O) v d → f d st1 = some (r, st2) → Out mg E O w.ps H1 r st2 Qo → Q v H1) : rdA K mg E Γ T σ H Q := by
  rcases bind_inv h with ⟨c, h1, rfl⟩ | ⟨d, st1, h1, h2⟩
  · exact ⟨w, O0, H0, O, env, st, _, _, R, h1, o⟩
  · exact ⟨w, O0, H0, O, env, st, _, _, R, h1, fun H1 p v q => k d st1 v H1 (R.post p) p q h2 (o.later p)⟩
theorem rdT_bind {α : Type} {T : TK.E} {f : Bool → M α} {r : Except Str α} {Qo : α → Hp → Prop} {Q : Bool → Hp → Prop} (R : Rel K w O0 H0 O σ H env st) (h : ((do let d ← orB env T (ev Γ env T); tru d) >>= f) st = some (r, st2)) (o : Out mg E O w.ps H r st2 Qo)
    (k : ∀ b st1 H1, Rel K w O0 H0 O σ H1 env st1 → Post O w.ps H st1 H1 → f b st1 = some (r, st2) → Out mg E O w.ps H1 r st2 Qo → Q b H1) : rdT K mg E Γ T σ H Q := by
  rcases bind_inv h with ⟨c, h1, rfl⟩ | ⟨d, st1, h1, h2⟩
  · exact ⟨w, O0, H0, O, env, st, _, _, R, h1, o⟩
  · exact ⟨w, O0, H0, O, env, st, _, _, R, h1, fun H1 p => k d st1 H1 (R.post p) p h2 (o.later p)⟩
theorem liftO_inv {α : Type} {x : Option α} {r : Except Str α} {st st' : DSt} (h : liftO x st = some (r, st')) : ∃ a, x = some a ∧ r = .ok a ∧ st' = st := by
  cases x with
  | none => cases h
  | some a => cases h; exact ⟨a, rfl, rfl, rfl⟩
theorem pure_inv {α : Type} {a : α} {r : Except Str α} {st st' : DSt} (h : (pure a : M α) st = some (r, st')) : r = .ok a ∧ st' = st := by
  cases h; exact ⟨rfl, rfl⟩
end
/-- what the context must bear -/
structure XOk (X : Cx) (E : XK) (k : Nat) : Prop where
  nd : X.N.Nodup
  calm : X.calm = true
  room : Room k X.A
  pass : Passes (L2.CX X.prog X.w) X E
section
variable {X : Cx} {E : XK} {Γ : List FnSem} {k : Nat}
theorem orB_notvar {env : Env} {T : TK.E} {r : M D} (h : ∀ i, T ≠ .var i) : orB env T r = r := by
  cases T <;> first | rfl | exact absurd rfl (h _)
/-- a name -/
theorem s_var {i : Nat} {x : Str} {pos : Pos} (hN : X.N[i]? = some x) (hv : Vis X.env.scope x) (hd : (x == ("__debug__" : Str)) = false) (hcd : (x == ("__classdict__" : Str)) = false) : PE X (.Name x pos) (rd X.K X.mg E Γ (.var i)) := by
  refine (pe_var hN hv hd hcd).weak fun σ H Q h => ?_
  obtain ⟨w, O0, H0, O, env, st, r, st', R, h, o⟩ := h
  obtain ⟨d, h1, rfl, rfl⟩ := liftO_inv (x := getV env i) h
  obtain ⟨v, e1, e2⟩ := R.getV h1
  exact ⟨v, e1, o H R.here v e2⟩
theorem s_varB {i : Nat} {x : Str} {pos : Pos} (hN : X.N[i]? = some x) (hv : Vis X.env.scope x) (hd : (x == ("__debug__" : Str)) = false) (hcd : (x == ("__classdict__" : Str)) = false) : PE X (.Name x pos) (rdB X.K X.mg E Γ (.var i)) := by
  refine (pe_var hN hv hd hcd).weak fun σ H Q h => ?_
  obtain ⟨w, O0, H0, O, env, st, r, st', R, h, o⟩ := h
  obtain ⟨d, h1, rfl, rfl⟩ := liftO_inv (x := getB env i) h
  obtain ⟨v, e1, e2⟩ := R.getB h1
  exact ⟨v, e1, o H R.here v e2⟩
/-- anything but a name is borrowed as it is -/
theorem s_B {e : Expr} {T : TK.E} (hT : ∀ i, T ≠ .var i) (h : PE X e (rd X.K X.mg E Γ T)) : PE X e (rdB X.K X.mg E Γ T) := by
  refine h.weak fun σ H Q q => ?_
  obtain ⟨w, O0, H0, O, env, st, r, st', R, q, o⟩ := q
  rw [orB_notvar hT] at q
  refine ⟨w, O0, H0, O, env, st, r, st', R, q, ?_⟩
  cases r with
  | ok d => exact fun H' p v z => o H' p v (.inl z)
  | error c => exact o
/-- constants -/
def leaf : Const → Option D
  | .none => some .none
  | .bool b => some (.bool b)
  | .int i => some (.int i)
  | .str x => if PyData.strOk x then some (.str x) else none
  | _ => none
theorem s_con {c : Const} {j : Nat} {pos : Pos} {d : D} (h : leaf c = some d) : PE X (.Constant c j pos) (rd X.K X.mg E Γ (.con d)) := by
  have fin : ∀ {v : V}, (∀ w G, Rp w G v d) → ∀ σ H Q, rd X.K X.mg E Γ (.con d) σ H Q → tC v σ H Q := fun {v} hv σ H Q q => by
    obtain ⟨w, O0, H0, O, env, st, r, st', R, q, o⟩ := q
    obtain ⟨rfl, rfl⟩ := pure_inv (a := d) q
    exact o H R.here v (hv _ _)
  cases c with
  | none => cases h; exact pe_non.weak (fin fun _ _ => .non)
  | bool b => cases h; exact pe_bl.weak (fin fun _ _ => .bl b)
  | int i => cases h; exact pe_int.weak (fin fun _ _ => .int i)
  | str x =>
    simp only [leaf] at h
    split at h
    · cases h; exact pe_str.weak (fin fun _ _ => .str x (by assumption))
    · cases h
  | _ => cases h
/-- arguments -/
theorem s_nil : PA X [] (rdA X.K X.mg E Γ []) := by
  refine pa_nil.weak fun σ H Q q => ?_
  obtain ⟨w, O0, H0, O, env, st, r, st', R, q, o⟩ := q
  obtain ⟨rfl, rfl⟩ := pure_inv (a := ([] : List D)) q
  exact o H R.here [] .nil
theorem s_cons {e : Expr} {es : List Expr} {T : TK.E} {Ts : List TK.E} (h : PE X e (rd X.K X.mg E Γ T)) (hs : PA X es (rdA X.K X.mg E Γ Ts)) (hst : starEach (e :: es) X.env = (false, eval e X.env) :: starEach es X.env) : PA X (e :: es) (rdA X.K X.mg E Γ (T :: Ts)) := by
  refine (pa_cons h hs hst).weak fun σ H Q q => ?_
  obtain ⟨w, O0, H0, O, env, st, r, st', R, q, o⟩ := q
  refine rd_bind R (f := fun d => evs Γ env Ts >>= fun ds => pure (d :: ds)) q o fun d st1 v H1 R1 p1 q1 h1 o1 => ?_
  refine rdA_bind R1 h1 o1 fun ds st2 vs H2 R2 p2 q2 h2 o2 => ?_
  obtain ⟨rfl, rfl⟩ := pure_inv h2
  exact o2 H2 R2.here (v :: vs) (.cons (q1.mono p2.1.le) q2)
/-- displays -/
theorem s_tup {es : List Expr} {Ts : List TK.E} {j : Nat} {pos : Pos} (h : PA X es (rdA X.K X.mg E Γ Ts)) : PE X (.Tuple es j pos) (rd X.K X.mg E Γ (.tup Ts)) := by
  refine (pe_tup h).weak fun σ H Q q => ?_
  obtain ⟨w, O0, H0, O, env, st, r, st', R, q, o⟩ := q
  refine rdA_bind R (f := fun ds => if ds.length ≤ lim then pure (PyData.tuple ds) else fail) q o fun ds st1 vs H1 R1 p1 q1 h1 o1 => ?_
  split at h1
  · obtain ⟨rfl, rfl⟩ := pure_inv h1
    refine ⟨by rw [q1.length]; assumption, fun p hp => o1 _ (R1.post_new hp) _ (rp_newT R1 hp q1)⟩
  · cases h1
theorem s_lst {es : List Expr} {Ts : List TK.E} {pos : Pos} (h : PA X es (rdA X.K X.mg E Γ Ts)) : PE X (.List es pos) (rd X.K X.mg E Γ (.lst Ts)) := by
  refine (pe_lst h).weak fun σ H Q q => ?_
  obtain ⟨w, O0, H0, O, env, st, r, st', R, q, o⟩ := q
  refine rdA_bind R (f := fun ds => if ds.length ≤ lim then pure (PyData.list ds) else fail) q o fun ds st1 vs H1 R1 p1 q1 h1 o1 => ?_
  split at h1
  · obtain ⟨rfl, rfl⟩ := pure_inv h1
    refine ⟨by rw [q1.length]; assumption, fun p hp => o1 _ (R1.post_new hp) _ (rp_newL R1 hp q1)⟩
  · cases h1

/-! ### operators -/
/-- a binary operator of the machine does what app2 o tells -/
def OpOk (X : Cx) (f : Value → Value → Sem Value) (o : O2) : Prop :=
  ∃ r : R2, OpR X f r ∧ ∀ w O0 H0 O σ H env st v u d e x Q, Rel X.K w O0 H0 O σ H env st → Bp w O H v d → Bp w O H u e → app2 o d e = some x →
    (∀ v' H', Post O w.ps H st H' → Rp w (hid H' O) v' x → Q v' H') → r v u H Q
theorem OpOk.tOp {f : Value → Value → Sem Value} {o : O2} {A B : TK.E} {r : R2}
    (h : ∀ w O0 H0 O σ H env st v u d e x Q, Rel X.K w O0 H0 O σ H env st → Bp w O H v d → Bp w O H u e → app2 o d e = some x →
    (∀ v' H', Post O w.ps H st H' → Rp w (hid H' O) v' x → Q v' H') → r v u H Q) : ∀ σ H Q, rd X.K X.mg E Γ (.op2 o A B) σ H Q → L2.tOp r (rdB X.K X.mg E Γ A) (rdB X.K X.mg E Γ B) σ H Q := fun σ H Q q => by
  obtain ⟨w, O0, H0, O, env, st, rr, st', R, q, oo⟩ := q
  refine rdB_bind R (f := fun x => orB env B (ev Γ env B) >>= fun y => liftO (app2 o x y)) q oo fun d st1 v H1 R1 p1 q1 h1 o1 => ?_
  refine rdB_bind R1 h1 o1 fun e st2 u H2 R2 p2 q2 h2 o2 => ?_
  obtain ⟨x, h3, rfl, rfl⟩ := liftO_inv h2
  exact h w O0 H0 O σ H2 env _ v u d e x Q R2 (q1.ext p2.1) q2 h3 fun v' H' p z => o2 H' p v' z
theorem s_bin {op : Operator} {o : O2} {a b : Expr} {A B : TK.E} {pos : Pos} (h : OpOk X (binaryOp op) o) (ha : PE X a (rdB X.K X.mg E Γ A)) (hb : PE X b (rdB X.K X.mg E Γ B)) : PE X (.BinOp a op b pos) (rd X.K X.mg E Γ (.op2 o A B)) := by
  obtain ⟨r, h1, h2⟩ := h
  exact (pe_op h1 ha hb).weak (OpOk.tOp (f := binaryOp op) h2)
theorem s_cmp {op : CmpOp} {o : O2} {a b : Expr} {A B : TK.E} {pos : Pos} (h : OpOk X (compareOp op) o) (ha : PE X a (rdB X.K X.mg E Γ A)) (hb : PE X b (rdB X.K X.mg E Γ B)) (hm : behindInMarks op b = false) : PE X (.Compare a [op] [b] pos) (rd X.K X.mg E Γ (.op2 o A B)) := by
  obtain ⟨r, h1, h2⟩ := h
  exact (pe_cmpR h1 ha hb hm).weak (OpOk.tOp (f := compareOp op) h2)
end
end TK

/-! the reflected layer, 4: operators -/
namespace TK
open PySem PySem.Spec PyProof.Rows L2
section
variable {w : Dr} {G G' : Hp} {K : PySem.W.Frag}
mutual
theorem Rp.dp (le : Le G G') : ∀ {v : V} {d : D} {n : Nat}, Rp w G v d → dep n d = true → Dp K G' v d
  | _, _, _, .non, _ => .non
  | _, _, _, .bl b, _ => .bl b
  | _, _, _, .int i, _ => .int i
  | _, _, _, .str x _, _ => .str x
  | _, _, 0, .lst _ _, h => by simp [dep] at h
  | _, _, n + 1, .lst a b, h => .lst (SqL.of (le.lst a)) (RpAll.dp le b (by simpa [dep] using h))
  | _, _, 0, .tup _ _, h => by simp [dep] at h
  | _, _, n + 1, .tup a b, h => .tup (SqT.of (le.tup a)) (RpAll.dp le b (by simpa [dep] using h))
  | _, _, n, .dK _ _, h => by cases n <;> simp [dep] at h
  | _, _, n, .dT _ _, h => by cases n <;> simp [dep, mkD] at h
  | _, _, n, .tok, h => by cases n <;> simp [dep, tok] at h
  | _, _, n, .scr, h => by cases n <;> simp [dep, scr] at h
theorem RpAll.dp (le : Le G G') : ∀ {v : List V} {d : List D} {n : Nat}, RpAll w G v d → (∀ x ∈ d, dep n x = true) → DpAll K G' v d
  | _, _, _, .nil, _ => .nil
  | _, _, _, .cons a b, h => .cons (Rp.dp le a (h _ List.mem_cons_self)) (RpAll.dp le b fun x hx => h x (List.mem_cons_of_mem _ hx))
end
mutual
theorem Rp.lay : ∀ {v : V} {d : D} {n : Nat}, Rp w G v d → dep n d = true → d.canLay0 = true
  | _, _, _, .non, _ => by simp only [PyData.canLay0]
  | _, _, _, .bl b, _ => by simp only [PyData.canLay0]
  | _, _, _, .int i, _ => by simp only [PyData.canLay0]
  | _, _, _, .str x h, _ => by simpa only [PyData.canLay0] using h
  | _, _, 0, .lst _ _, h => by simp [dep] at h
  | _, _, n + 1, .lst a b, h => by
    simp only [PyData.canLay0]
    exact RpAll.lay b (by simpa [dep] using h)
  | _, _, 0, .tup _ _, h => by simp [dep] at h
  | _, _, n + 1, .tup a b, h => by
    simp only [PyData.canLay0]
    exact RpAll.lay b (by simpa [dep] using h)
  | _, _, n, .dK _ _, h => by cases n <;> simp [dep] at h
  | _, _, n, .dT _ _, h => by cases n <;> simp [dep, mkD] at h
  | _, _, n, .tok, h => by cases n <;> simp [dep, tok] at h
  | _, _, n, .scr, h => by cases n <;> simp [dep, scr] at h
theorem RpAll.lay : ∀ {v : List V} {d : List D} {n : Nat}, RpAll w G v d → (∀ x ∈ d, dep n x = true) → PyData.canLayAll0 d = true
  | _, _, _, .nil, _ => by simp only [PyData.canLayAll0]
  | _, _, _, .cons a b, h => by
    simp only [PyData.canLayAll0, Bool.and_eq_true]
    exact ⟨Rp.lay a (h _ List.mem_cons_self), RpAll.lay b fun x hx => h x (List.mem_cons_of_mem _ hx)⟩
end
theorem depthAll_le {n : Nat} : ∀ {l : List D}, (∀ x ∈ l, x.depth ≤ n) → PyData.depthAll l ≤ n
  | [], _ => by simp [PyData.depthAll]
  | x :: xs, h => by
    simp only [PyData.depthAll]
    have h1 := h x List.mem_cons_self
    have h2 := depthAll_le (l := xs) fun y hy => h y (List.mem_cons_of_mem _ hy)
    omega
theorem dep_depth : ∀ {n : Nat} {d : D}, dep n d = true → d.depth ≤ n
  | n, .none, _ => by simp [PyData.depth]
  | n, .bool _, _ => by simp [PyData.depth]
  | n, .int _, _ => by simp [PyData.depth]
  | n, .str _, _ => by simp [PyData.depth]
  | 0, .list _, h => by simp [dep] at h
  | n + 1, .list l, h => by
    simp only [PyData.depth]
    have := depthAll_le (n := n) (l := l) fun x hx => dep_depth ((by simpa [dep] using h : ∀ x ∈ l, dep n x = true) x hx)
    omega
  | 0, .tuple _, h => by simp [dep] at h
  | n + 1, .tuple l, h => by
    simp only [PyData.depth]
    have := depthAll_le (n := n) (l := l) fun x hx => dep_depth ((by simpa [dep] using h : ∀ x ∈ l, dep n x = true) x hx)
    omega
  | n, .dict _, h => by cases n <;> simp [dep] at h
theorem Bp.dp {O : Addr → Bool} {H : Hp} {v : V} {d : D} {n : Nat} (h : Bp w O H v d) (hd : dep n d = true) : Dp K H v d := by
  rcases h with h | ⟨p, rfl, _, _, h⟩
  · exact h.dp hid_le hd
  · cases h with
    | lst a b =>
      cases n with
      | zero => simp [dep] at hd
      | succ n => exact .lst (SqL.of a) (b.dp hid_le (by simpa [dep] using hd))
    | dK a b => cases n <;> simp [dep] at hd
    | dT a b => cases n <;> simp [dep, mkD] at hd
theorem Bp.lay {O : Addr → Bool} {H : Hp} {v : V} {d : D} {n : Nat} (h : Bp w O H v d) (hd : dep n d = true) : d.canLay0 = true := by
  rcases h with h | ⟨p, rfl, _, _, h⟩
  · exact h.lay hd
  · cases h with
    | lst a b =>
      cases n with
      | zero => simp [dep] at hd
      | succ n =>
        simp only [PyData.canLay0]
        exact b.lay (by simpa [dep] using hd)
    | dK a b => cases n <;> simp [dep] at hd
    | dT a b => cases n <;> simp [dep, mkD] at hd
theorem shaped_of {d : D} {n : Nat} (h : d.canLay0 = true) (hd : dep n d = true) (hn : n ≤ 64) : SeqAt.shaped d = true := by
  unfold SeqAt.shaped
  rw [h, Bool.true_and]
  exact decide_eq_true (Nat.le_trans (dep_depth hd) hn)
end
theorem RpAll.rep {w : Dr} {G : Hp} {xs : List V} {ds : List D} (h : RpAll w G xs ds) : ∀ m : Nat, RpAll w G (List.replicate m xs).flatten (List.replicate m ds).flatten
  | 0 => .nil
  | m + 1 => by
    rw [List.replicate_succ, List.replicate_succ, List.flatten_cons, List.flatten_cons]
    exact h.append (h.rep m)
theorem strOk_append {a b : Str} (ha : PyData.strOk a = true) (hb : PyData.strOk b = true) : PyData.strOk (a ++ b) = true := by
  unfold PyData.strOk at *
  show (a.cps ++ b.cps).all _ = true
  rw [Array.all_append, ha, hb]
  rfl
section
variable {X : Cx} {k : Nat}
/-- several machine rules, one operator -/
theorem op_addBI : OpR X (binaryOp .Add) (fun x y H Q => ∃ (b : Bool) (i : Int), x = .bl b ∧ y = .int i ∧ Q (.int ((if b = true then (1 : Int) else 0) + i)) H) := by
  intro pins s σ H x y v u Q I rx ry h
  obtain ⟨b, i, rfl, rfl, q⟩ := h
  cases (show v = Value.bool b from rx)
  obtain ⟨t, rfl⟩ := ry
  exact PySem.IntBool.add_bool_int ⟨.int _, H, I.tok _, ⟨_, rfl⟩, q⟩
theorem op_subBI : OpR X (binaryOp .Sub) (fun x y H Q => ∃ (b : Bool) (i : Int), x = .bl b ∧ y = .int i ∧ Q (.int ((if b = true then (1 : Int) else 0) - i)) H) := by
  intro pins s σ H x y v u Q I rx ry h
  obtain ⟨b, i, rfl, rfl, q⟩ := h
  cases (show v = Value.bool b from rx)
  obtain ⟨t, rfl⟩ := ry
  exact PySem.IntBool.sub_bool_int ⟨.int _, H, I.tok _, ⟨_, rfl⟩, q⟩
theorem ok_add : OpOk X (binaryOp .Add) .add := by
  refine ⟨_, ((op_add.or op_addBI).or op_add_str).or (op_cat.or op_catA), fun w O0 H0 O σ H env st v u d e x Q R bv bu ha q => ?_⟩
  cases d with
  | int i =>
    cases e with
    | int j =>
      cases ha
      obtain rfl := bv.int
      obtain rfl := bu.int
      exact .inl (.inl (.inl ⟨i, j, rfl, rfl, q _ H R.here (.int _)⟩))
    | _ => cases ha
  | bool b =>
    cases e with
    | int j =>
      cases ha
      obtain rfl := bv.bool
      obtain rfl := bu.int
      exact .inl (.inl (.inr ⟨b, j, rfl, rfl, q _ H R.here (.int _)⟩))
    | _ => cases ha
  | str a =>
    cases e with
    | str b =>
      simp only [app2] at ha
      split at ha
      · cases ha
        obtain ⟨rfl, h1⟩ := bv.str
        obtain ⟨rfl, h2⟩ := bu.str
        exact .inl (.inr ⟨a, b, rfl, rfl, by assumption, q _ H R.here (.str _ (strOk_append h1 h2))⟩)
      · cases ha
    | _ => cases ha
  | list a =>
    cases e with
    | list b =>
      simp only [app2] at ha
      split at ha
      · cases ha
        obtain ⟨p, xs, rfl, h1, r1⟩ := bv.list
        obtain ⟨p', ys, rfl, h2, r2⟩ := bu.list
        exact .inr (.inl ⟨p, p', xs, ys, rfl, rfl, h1, h2, by rw [r1.length, r2.length]; assumption, fun z hz => q _ _ (R.post_new hz) (rp_newL R hz (r1.append r2))⟩)
      · cases ha
    | _ => cases ha
  | tuple a =>
    cases e with
    | tuple b =>
      simp only [app2] at ha
      split at ha
      · cases ha
        obtain ⟨p, xs, rfl, h1, r1⟩ := bv.tuple
        obtain ⟨p', ys, rfl, h2, r2⟩ := bu.tuple
        refine .inr (.inr ⟨p, p', xs, ys, rfl, rfl, SqT.of h1, SqT.of h2, by rw [r1.length, r2.length]; assumption, fun e => ?_, fun _ e => ?_, fun _ _ z hz => q _ _ (R.post_new hz) (rp_newT R hz (r1.append r2))⟩)
        · subst e
          cases r1
          exact q _ H R.here bu.tupleR
        · subst e
          cases r2
          have := bv.tupleR
          rw [List.append_nil] at q
          exact q _ H R.here this
      · cases ha
    | _ => cases ha
  | _ => cases e <;> cases ha
theorem ok_sub : OpOk X (binaryOp .Sub) .sub := by
  refine ⟨_, op_sub.or op_subBI, fun w O0 H0 O σ H env st v u d e x Q R bv bu ha q => ?_⟩
  cases d with
  | int i =>
    cases e with
    | int j =>
      cases ha
      obtain rfl := bv.int
      obtain rfl := bu.int
      exact .inl ⟨i, j, rfl, rfl, q _ H R.here (.int _)⟩
    | _ => cases ha
  | bool b =>
    cases e with
    | int j =>
      cases ha
      obtain rfl := bv.bool
      obtain rfl := bu.int
      exact .inr ⟨b, j, rfl, rfl, q _ H R.here (.int _)⟩
    | _ => cases ha
  | _ => cases e <;> cases ha
theorem ok_mod : OpOk X (binaryOp .Mod) .mod := by
  refine ⟨_, op_mod, fun w O0 H0 O σ H env st v u d e x Q R bv bu ha q => ?_⟩
  cases d with
  | int i =>
    cases e with
    | int j =>
      simp only [app2] at ha
      split at ha
      · cases ha
        obtain rfl := bv.int
        obtain rfl := bu.int
        exact ⟨i, j, rfl, rfl, by assumption, q _ H R.here (.int _)⟩
      · cases ha
    | _ => cases ha
  | _ => cases e <;> cases ha
theorem ok_fdiv : OpOk X (binaryOp .FloorDiv) .fdiv := by
  refine ⟨_, op_fdiv, fun w O0 H0 O σ H env st v u d e x Q R bv bu ha q => ?_⟩
  cases d with
  | int i =>
    cases e with
    | int j =>
      simp only [app2] at ha
      split at ha
      · cases ha
        obtain rfl := bv.int
        obtain rfl := bu.int
        exact ⟨i, j, rfl, rfl, by assumption, q _ H R.here (.int _)⟩
      · cases ha
    | _ => cases ha
  | _ => cases e <;> cases ha
theorem natAbs_63 {j : Int} (h : j.natAbs < 2 ^ 63) : -(2 ^ 64) < j ∧ j < 2 ^ 64 := by omega
theorem ok_mul : OpOk X (binaryOp .Mult) .mul := by
  refine ⟨_, op_mul.or op_rep, fun w O0 H0 O σ H env st v u d e x Q R bv bu ha q => ?_⟩
  cases d with
  | int i =>
    cases e with
    | int j =>
      simp only [app2] at ha
      split at ha
      · cases ha
        obtain rfl := bv.int
        obtain rfl := bu.int
        exact .inl ⟨i, j, rfl, rfl, .inr (natAbs_63 (by assumption)), q _ H R.here (.int _)⟩
      · cases ha
    | _ => cases ha
  | list a =>
    cases e with
    | int j =>
      simp only [app2] at ha
      split at ha
      · rename_i hc
        cases ha
        obtain ⟨p, xs, rfl, h1, r1⟩ := bv.list
        obtain rfl := bu.int
        refine .inr ⟨p, j, xs, rfl, rfl, h1, by omega, by omega, by rw [r1.length]; exact hc.1, fun z hz => q _ _ (R.post_new hz) (rp_newL R hz ?_)⟩
        exact r1.rep _
      · cases ha
    | _ => cases ha
  | _ => cases e <;> cases ha
theorem ok_shl : OpOk X (binaryOp .LShift) .shl := by
  refine ⟨_, op_shl, fun w O0 H0 O σ H env st v u d e x Q R bv bu ha q => ?_⟩
  cases d with
  | int i =>
    cases e with
    | int j =>
      simp only [app2] at ha
      split at ha
      · rename_i hc
        cases ha
        obtain rfl := bv.int
        obtain rfl := bu.int
        exact ⟨i, j, rfl, rfl, ⟨hc.1, by omega, by omega⟩, q _ H R.here (.int _)⟩
      · cases ha
    | _ => cases ha
  | _ => cases e <;> cases ha
theorem ok_band : OpOk X (binaryOp .BitAnd) .band := by
  refine ⟨_, op_and, fun w O0 H0 O σ H env st v u d e x Q R bv bu ha q => ?_⟩
  cases d with
  | int i =>
    cases e with
    | int j =>
      cases ha
      obtain rfl := bv.int
      obtain rfl := bu.int
      exact ⟨i, j, rfl, rfl, q _ H R.here (.int _)⟩
    | _ => cases ha
  | _ => cases e <;> cases ha
theorem eqD_some {d e : D} {b : Bool} (h : eqD d e = some b) : dep 60 d = true ∧ dep 60 e = true ∧ b = PyData.eqv d e := by
  unfold eqD at h
  split at h
  · rename_i hc
    rw [Bool.and_eq_true] at hc
    cases h
    exact ⟨hc.1, hc.2, rfl⟩
  · cases h
theorem ok_eq (hr : Room k X.A) : OpOk X (compareOp .Eq) .eq := by
  refine ⟨_, op_eqD hr.units, fun w O0 H0 O σ H env st v u d e x Q R bv bu ha q => ?_⟩
  simp only [app2, Option.map_eq_some_iff] at ha
  obtain ⟨b, h, rfl⟩ := ha
  obtain ⟨h1, h2, rfl⟩ := eqD_some h
  exact ⟨d, e, bv.dp h1, bu.dp h2, shaped_of (bv.lay h1) h1 (by decide), shaped_of (bu.lay h2) h2 (by decide), q _ H R.here (.bl _)⟩
theorem ok_ne (hr : Room k X.A) : OpOk X (compareOp .NotEq) .ne := by
  refine ⟨_, op_neD hr.units, fun w O0 H0 O σ H env st v u d e x Q R bv bu ha q => ?_⟩
  simp only [app2, Option.map_eq_some_iff] at ha
  obtain ⟨b, h, rfl⟩ := ha
  obtain ⟨h1, h2, rfl⟩ := eqD_some h
  exact ⟨d, e, bv.dp h1, bu.dp h2, shaped_of (bv.lay h1) h1 (by decide), shaped_of (bu.lay h2) h2 (by decide), q _ H R.here (.bl _)⟩
/-- < by data that are alike -/
def rLtD (K : PySem.W.Frag) : R2 := fun x y H Q => ∃ d e, Dp K H x d ∧ Dp K H y e ∧ PySem.W.alike d e = true ∧ d ≠ .none ∧ d.depth ≤ 64 ∧ Q (.bl (PySem.W.dataLt d e)) H
theorem op_ltD (hu : X.A.units + 64 < cLine) : OpR X (compareOp .Lt) (rLtD X.K) := by
  intro pins s σ H x y v u Q I rx ry h
  obtain ⟨d, e, hd, he, ha, hn, hz, q⟩ := h
  obtain ⟨as, r1⟩ := Dp.reads I d x v hd rx
  obtain ⟨bs, r2⟩ := Dp.reads I e y u he ry
  exact PySem.W.rcLt_alike d e X.A s v u as bs r1 r2 ha hn (by have : min d.depth e.depth ≤ d.depth := Nat.min_le_left _ _; omega) X.prog X.w X.xe _ ⟨.bl _, H, I, rfl, q⟩
theorem ltD_some {d e : D} {b : Bool} (h : ltD d e = some b) : PySem.W.alike d e = true ∧ d ≠ .none ∧ dep 30 d = true ∧ dep 30 e = true ∧ b = PySem.W.dataLt d e := by
  unfold ltD at h
  split at h
  · rename_i hc
    simp only [Bool.and_eq_true] at hc
    cases h
    exact ⟨hc.1.1.1, fun z => by rw [z] at hc; simp [notNone] at hc, hc.1.2, hc.2, rfl⟩
  · cases h
theorem ok_lt (hr : Room k X.A) : OpOk X (compareOp .Lt) .lt := by
  refine ⟨_, op_ltD hr.units, fun w O0 H0 O σ H env st v u d e x Q R bv bu ha q => ?_⟩
  simp only [app2, Option.map_eq_some_iff] at ha
  obtain ⟨b, h, rfl⟩ := ha
  obtain ⟨h1, h2, h3, h4, rfl⟩ := ltD_some h
  exact ⟨d, e, bv.dp h3, bu.dp h4, h1, h2, Nat.le_trans (dep_depth h3) (by decide), q _ H R.here (.bl _)⟩
theorem ok_le : OpOk X (compareOp .LtE) .le := by
  refine ⟨_, op_le.or op_le_str, fun w O0 H0 O σ H env st v u d e x Q R bv bu ha q => ?_⟩
  cases d with
  | int i =>
    cases e with
    | int j =>
      cases ha
      obtain rfl := bv.int
      obtain rfl := bu.int
      exact .inl ⟨i, j, rfl, rfl, q _ H R.here (.bl _)⟩
    | _ => cases ha
  | str a =>
    cases e with
    | str b =>
      cases ha
      obtain ⟨rfl, h1⟩ := bv.str
      obtain ⟨rfl, h2⟩ := bu.str
      exact .inr ⟨a, b, rfl, rfl, q _ H R.here (.bl _)⟩
    | _ => cases ha
  | _ => cases e <;> cases ha
/-- in, not in: lists and tuples of data -/
def rInT (K : PySem.W.Frag) : R2 := fun x y H Q => ∃ d ds, Dp K H x d ∧ Dp K H y (.tuple ds) ∧ SeqAt.shaped d = true ∧ SeqAt.shaped (.tuple ds) = true ∧ Q (.bl (ds.any fun z => PyData.eqv z d)) H
def rNotInT (K : PySem.W.Frag) : R2 := fun x y H Q => ∃ d ds, Dp K H x d ∧ Dp K H y (.tuple ds) ∧ SeqAt.shaped d = true ∧ SeqAt.shaped (.tuple ds) = true ∧ Q (.bl (!ds.any fun z => PyData.eqv z d)) H
theorem op_inT (hu : X.A.units + 65 < cLine) : OpR X (compareOp .In) (rInT X.K) := by
  intro pins s σ H x y v u Q I rx ry h
  obtain ⟨d, ds, hd, he, sd, se, q⟩ := h
  obtain ⟨as, r1⟩ := Dp.reads I d x v hd rx
  obtain ⟨bs, r2⟩ := Dp.reads I (.tuple ds) y u he ry
  exact SeqAt.in_tuple_reads r2 r1 (SeqAt.canLay_of_shaped se) (SeqAt.canLay_of_shaped sd) (room_in_shaped sd hu) ⟨.bl _, H, I, rfl, q⟩
theorem op_notInT (hu : X.A.units + 65 < cLine) : OpR X (compareOp .NotIn) (rNotInT X.K) := by
  intro pins s σ H x y v u Q I rx ry h
  obtain ⟨d, ds, hd, he, sd, se, q⟩ := h
  obtain ⟨as, r1⟩ := Dp.reads I d x v hd rx
  obtain ⟨bs, r2⟩ := Dp.reads I (.tuple ds) y u he ry
  exact SeqAt.notIn_tuple_reads r2 r1 (SeqAt.canLay_of_shaped se) (SeqAt.canLay_of_shaped sd) (room_in_shaped sd hu) ⟨.bl _, H, I, rfl, q⟩
end
end TK

/-! the reflected layer, 5: in, subscripts, slices, dicts read -/
namespace TK
open PySem PySem.Spec PyProof.Rows L2
theorem eqv_key (a b : Key) : PyData.eqv (keyD a) (keyD b) = decide (a = b) := by
  cases a with
  | inl i =>
    cases b with
    | inl j => rw [key_ll]; simp only [keyD, PyData.eqv]
    | inr y => rw [key_lr]; simp only [keyD, PyData.eqv]
  | inr x =>
    cases b with
    | inl j => rw [key_rl]; simp only [keyD, PyData.eqv]
    | inr y =>
      rw [key_rr]
      simp only [keyD, PyData.eqv]
      by_cases e : x = y
      · subst e; simp
      · simp [e]
theorem eqvAll_keys : ∀ (a b : List Key), PyData.eqvAll (a.map keyD) (b.map keyD) = decide (a = b)
  | [], [] => by simp [PyData.eqvAll]
  | [], b :: bs => by simp [PyData.eqvAll]
  | a :: as, [] => by simp [PyData.eqvAll]
  | a :: as, b :: bs => by
    simp only [List.map_cons, PyData.eqvAll, eqv_key, eqvAll_keys as bs]
    by_cases e : a = b
    · subst e; simp
    · simp [e]
theorem eqv_keyT (a b : List Key) : PyData.eqv (.tuple (a.map keyD)) (.tuple (b.map keyD)) = decide (a = b) := by
  simp only [PyData.eqv]
  exact eqvAll_keys a b
theorem eqv_key_T (a : Key) (l : List D) : PyData.eqv (keyD a) (.tuple l) = false := by
  cases a <;> simp only [keyD, PyData.eqv]
theorem eqv_T_key (a : Key) (l : List D) : PyData.eqv (.tuple l) (keyD a) = false := by
  cases a <;> simp only [keyD, PyData.eqv]
section
variable {w : Dr} {G : Hp}
theorem RpKV.get (k : Key) : ∀ {kvs : List (Key × V)} {l : List (D × D)}, RpKV w G kvs l → (getD l (keyD k) = none ∧ valV kvs k = none) ∨ ∃ v d, getD l (keyD k) = some d ∧ valV kvs k = some v ∧ Rp w G v d
  | _, _, .nil => .inl ⟨rfl, rfl⟩
  | _, _, .cons (k := k') (v := v) (d := d) hs hv hr => by
    by_cases e : k' = k
    · refine .inr ⟨v, d, ?_, valV_pos e, hv⟩
      simp only [getD, eqv_key, e, decide_true, if_true]
    · rcases RpKV.get k hr with ⟨h1, h2⟩ | ⟨v', d', h1, h2, h3⟩
      · refine .inl ⟨?_, (valV_neg e).trans h2⟩
        simp only [getD, eqv_key, e, decide_false, Bool.false_eq_true, if_false]
        exact h1
      · refine .inr ⟨v', d', ?_, (valV_neg e).trans h2, h3⟩
        simp only [getD, eqv_key, e, decide_false, Bool.false_eq_true, if_false]
        exact h1
theorem RpKT.get (k : List Key) : ∀ {kvs : List (List Key × V)} {l : List (D × D)}, RpKT w G kvs l → (getD l (.tuple (k.map keyD)) = none ∧ valV kvs k = none) ∨ ∃ v d, getD l (.tuple (k.map keyD)) = some d ∧ valV kvs k = some v ∧ Rp w G v d
  | _, _, .nil => .inl ⟨rfl, rfl⟩
  | _, _, .cons (k := k') (v := v) (d := d) hs hv hr => by
    by_cases e : k' = k
    · refine .inr ⟨v, d, ?_, valV_pos e, hv⟩
      simp only [getD, eqv_keyT, e, decide_true, if_true]
    · rcases RpKT.get k hr with ⟨h1, h2⟩ | ⟨v', d', h1, h2, h3⟩
      · refine .inl ⟨?_, (valV_neg e).trans h2⟩
        simp only [getD, eqv_keyT, e, decide_false, Bool.false_eq_true, if_false]
        exact h1
      · refine .inr ⟨v', d', ?_, (valV_neg e).trans h2, h3⟩
        simp only [getD, eqv_keyT, e, decide_false, Bool.false_eq_true, if_false]
        exact h1
/-- the two kinds of dicts -/
inductive DkB (w : Dr) (O : Addr → Bool) (H : Hp) (a : Addr) : Bool → List (D × D) → Prop
  | k {kvs : List (Key × V)} {l : List (D × D)} : Rd H a (.dK kvs) → RpKV w (hid H O) kvs l → DkB w O H a false l
  | t {kvs : List (List Key × V)} {l : List (D × D)} : Rd H a (.dT kvs) → RpKT w (hid H O) kvs l → DkB w O H a true l
theorem rd_hid {H : Hp} {O : Addr → Bool} {a : Addr} {u : HO} (h : Rd (hid H O) a u) : Rd H a u := by
  rcases h with h | ⟨o, h⟩
  · exact .inl (hid_some h).2
  · exact .inr ⟨o, (hid_some h).2⟩
theorem RpKV.dictV : ∀ {kvs : List (Key × V)} {l : List (D × D)}, RpKV w G kvs l → TK.dictV (.dict l) = some (false, l)
  | _, _, .nil => rfl
  | _, _, .cons (k := k) _ _ _ => by cases k <;> rfl
theorem Bp.dict {O : Addr → Bool} {H : Hp} {v : V} {d : D} {t : Bool} {l : List (D × D)} (h : Bp w O H v d) (e : dictV d = some (t, l)) : ∃ a, v = .ref a ∧ DkB w O H a t l := by
  rcases h with h | ⟨p, rfl, _, _, h⟩
  · cases h with
    | dK a b =>
      rw [b.dictV] at e
      cases e
      exact ⟨_, rfl, .k (rd_hid a) b⟩
    | dT a b =>
      cases e
      exact ⟨_, rfl, .t (rd_hid a) b⟩
    | _ => cases e
  · cases h with
    | dK a b =>
      rw [b.dictV] at e
      cases e
      exact ⟨_, rfl, .k (.inl a) b⟩
    | dT a b =>
      cases e
      exact ⟨_, rfl, .t (.inl a) b⟩
    | _ => cases e
/-- a key as it stands -/
inductive KeyB (H : Hp) : Bool → V → D → Prop
  | k (k : Key) : keyS k = true → KeyB H false (kV k) (keyD k)
  | t {b : Addr} (ks : List Key) : ks.all keyS = true → H b = some (.tup (ks.map kV)) → KeyB H true (.ref b) (.tuple (ks.map keyD))
theorem RpAll.keys : ∀ {xs : List V} {ds : List D}, RpAll w G xs ds → (ds.all fun (x : PyData) => match x with | .int _ => true | .str _ => true | _ => false) = true → ∃ ks : List Key, xs = ks.map kV ∧ ds = ks.map keyD ∧ ks.all keyS = true
  | _, _, .nil, _ => ⟨[], rfl, rfl, rfl⟩
  | _, _, .cons (v := v) (d := d) a b, h => by
    rw [List.all_cons, Bool.and_eq_true] at h
    obtain ⟨ks, e1, e2, e3⟩ := RpAll.keys b h.2
    cases a with
    | int i => exact ⟨.inl i :: ks, by rw [e1]; rfl, by rw [e2]; rfl, by rw [List.all_cons, e3]; rfl⟩
    | str x hx => exact ⟨.inr x :: ks, by rw [e1]; rfl, by rw [e2]; rfl, by rw [List.all_cons, e3, Bool.and_true]; exact hx⟩
    | _ => cases h.1
theorem Bp.key {O : Addr → Bool} {H : Hp} {v : V} {d : D} {t : Bool} (h : Bp w O H v d) (hk : keyFor t d = true) : KeyB H t v d := by
  cases d with
  | int i =>
    cases t with
    | false => obtain rfl := h.int; exact .k (.inl i) rfl
    | true => cases hk
  | str x =>
    cases t with
    | false => obtain ⟨rfl, hx⟩ := h.str; exact .k (.inr x) hx
    | true => cases hk
  | tuple l =>
    cases t with
    | false => cases hk
    | true =>
      obtain ⟨a, xs, rfl, h1, r1⟩ := h.tuple
      obtain ⟨ks, e1, e2, e3⟩ := r1.keys hk
      subst e1 e2
      exact .t ks e3 h1
  | _ => cases t <;> cases hk
theorem DkB.get {O : Addr → Bool} {H : Hp} {a : Addr} {t : Bool} {l : List (D × D)} {v : V} {d : D} (h : DkB w O H a t l) (hk : KeyB H t v d) :
    ∃ o, DGet H a v o ∧ ((o = none ∧ getD l d = none) ∨ ∃ x y, o = some x ∧ getD l d = some y ∧ Rp w (hid H O) x y) := by
  cases h with
  | k h1 h2 =>
    cases hk with
    | k k hs =>
      rcases h2.get k with ⟨e1, e2⟩ | ⟨x, y, e1, e2, e3⟩
      · exact ⟨none, .inl ⟨_, k, h1, rfl, e2.symm⟩, .inl ⟨rfl, e1⟩⟩
      · exact ⟨some x, .inl ⟨_, k, h1, rfl, e2.symm⟩, .inr ⟨x, y, rfl, e1, e3⟩⟩
  | t h1 h2 =>
    cases hk with
    | t ks hs hb =>
      rcases h2.get ks with ⟨e1, e2⟩ | ⟨x, y, e1, e2, e3⟩
      · exact ⟨none, .inr ⟨_, ks, _, h1, rfl, hb, e2.symm⟩, .inl ⟨rfl, e1⟩⟩
      · exact ⟨some x, .inr ⟨_, ks, _, h1, rfl, hb, e2.symm⟩, .inr ⟨x, y, rfl, e1, e3⟩⟩
/-- a dict asked for a key -/
theorem look_of {O : Addr → Bool} {H : Hp} {v u : V} {d e : D} {o : Option D} (bv : Bp w O H v d) (bu : Bp w O H u e) (h : lookD d e = some o) :
    ∃ a o', v = .ref a ∧ DGet H a u o' ∧ ((o' = none ∧ o = none) ∨ ∃ x y, o' = some x ∧ o = some y ∧ Rp w (hid H O) x y) := by
  unfold lookD at h
  rw [Option.bind_eq_some_iff] at h
  obtain ⟨⟨t, l⟩, h1, h2⟩ := h
  split at h2
  · rename_i hk
    cases h2
    obtain ⟨a, rfl, hd⟩ := bv.dict h1
    obtain ⟨o', h3, h4⟩ := hd.get (bu.key hk)
    exact ⟨a, o', rfl, h3, h4⟩
  · cases h2
end
section
variable {X : Cx} {k : Nat}
theorem op_inK (hu : X.A.units + 1 < cLine) : OpR X (compareOp .In) (fun x y H Q => ∃ a o, y = .ref a ∧ DGet H a x o ∧ Q (.bl o.isSome) H) := by
  intro pins s σ H x y v u Q I rx ry h
  obtain ⟨a, o, rfl, g, q⟩ := h
  obtain rfl : u = Value.ref a := ry
  exact d_in hu I g rx fun s3 I3 => ⟨.bl o.isSome, H, I3, rfl, q⟩
theorem op_notInK (hu : X.A.units + 1 < cLine) : OpR X (compareOp .NotIn) (fun x y H Q => ∃ a o, y = .ref a ∧ DGet H a x o ∧ Q (.bl (!o.isSome)) H) := by
  intro pins s σ H x y v u Q I rx ry h
  obtain ⟨a, o, rfl, g, q⟩ := h
  obtain rfl : u = Value.ref a := ry
  exact d_notIn hu I g rx fun s3 I3 => ⟨.bl (!o.isSome), H, I3, rfl, q⟩
theorem room65 (hr : Room k X.A) : X.A.units + 65 < cLine := by have := hr.un; omega
theorem all60 {x : D} {l : List D} (h : (dep 60 x && l.all (dep 60)) = true) : dep 60 x = true ∧ dep 61 (.list l) = true ∧ dep 61 (.tuple l) = true := by
  rw [Bool.and_eq_true] at h
  exact ⟨h.1, h.2, h.2⟩
theorem ok_in (hr : Room k X.A) : OpOk X (compareOp .In) .isin := by
  refine ⟨_, ((op_inD (room65 hr)).or (op_inT (room65 hr))).or (op_inK (hu_of hr)), fun w O0 H0 O σ H env st v u d e x Q R bv bu ha q => ?_⟩
  cases e with
  | list l =>
    simp only [app2] at ha
    split at ha
    · rename_i hc
      cases ha
      obtain ⟨h1, h2, _⟩ := all60 hc
      exact .inl (.inl ⟨d, l, bv.dp h1, bu.dp h2, shaped_of (bv.lay h1) h1 (by decide), shaped_of (bu.lay h2) h2 (by decide), q _ H R.here (.bl _)⟩)
    · cases ha
  | tuple l =>
    simp only [app2] at ha
    split at ha
    · rename_i hc
      cases ha
      obtain ⟨h1, _, h2⟩ := all60 hc
      exact .inl (.inr ⟨d, l, bv.dp h1, bu.dp h2, shaped_of (bv.lay h1) h1 (by decide), shaped_of (bu.lay h2) h2 (by decide), q _ H R.here (.bl _)⟩)
    · cases ha
  | dict l =>
    simp only [app2, Option.map_eq_some_iff] at ha
    obtain ⟨o, h1, rfl⟩ := ha
    obtain ⟨a, o', rfl, g, z⟩ := look_of bu bv h1
    refine .inr ⟨a, o', rfl, g, ?_⟩
    have : o'.isSome = o.isSome := by rcases z with ⟨rfl, rfl⟩ | ⟨x, y, rfl, rfl, _⟩ <;> rfl
    rw [this]
    exact q _ H R.here (.bl _)
  | _ => simp [app2] at ha
theorem ok_notin (hr : Room k X.A) : OpOk X (compareOp .NotIn) .notin := by
  refine ⟨_, ((op_notInD (room65 hr)).or (op_notInT (room65 hr))).or (op_notInK (hu_of hr)), fun w O0 H0 O σ H env st v u d e x Q R bv bu ha q => ?_⟩
  cases e with
  | list l =>
    simp only [app2] at ha
    split at ha
    · rename_i hc
      cases ha
      obtain ⟨h1, h2, _⟩ := all60 hc
      exact .inl (.inl ⟨d, l, bv.dp h1, bu.dp h2, shaped_of (bv.lay h1) h1 (by decide), shaped_of (bu.lay h2) h2 (by decide), q _ H R.here (.bl _)⟩)
    · cases ha
  | tuple l =>
    simp only [app2] at ha
    split at ha
    · rename_i hc
      cases ha
      obtain ⟨h1, _, h2⟩ := all60 hc
      exact .inl (.inr ⟨d, l, bv.dp h1, bu.dp h2, shaped_of (bv.lay h1) h1 (by decide), shaped_of (bu.lay h2) h2 (by decide), q _ H R.here (.bl _)⟩)
    · cases ha
  | dict l =>
    simp only [app2, Option.map_eq_some_iff] at ha
    obtain ⟨o, h1, rfl⟩ := ha
    obtain ⟨a, o', rfl, g, z⟩ := look_of bu bv h1
    refine .inr ⟨a, o', rfl, g, ?_⟩
    have : o'.isSome = o.isSome := by rcases z with ⟨rfl, rfl⟩ | ⟨x, y, rfl, rfl, _⟩ <;> rfl
    rw [this]
    exact q _ H R.here (.bl _)
  | _ => simp [app2] at ha
/-- subscripts -/
def IxOk (X : Cx) (o : O2) : Prop :=
  ∃ r : R2, IxR X r ∧ ∀ w O0 H0 O σ H env st v u d e x Q, Rel X.K w O0 H0 O σ H env st → Bp w O H v d → Bp w O H u e → app2 o d e = some x →
    (∀ v' H', Post O w.ps H st H' → Rp w (hid H' O) v' x → Q v' H') → r v u H Q
theorem ix_dict (hu : X.A.units + 1 < cLine) : IxR X (fun x y H Q => ∃ a v, x = .ref a ∧ DGet H a y (some v) ∧ Q v H) := by
  intro value slice pins s σ H x y v u Q I rx ry h hs
  obtain ⟨a, z, rfl, g, q⟩ := h
  obtain rfl : v = Value.ref a := rx
  exact tail_any (dict_typeIs I g) PySem.F.slot_dict_getitem.lookup (d_getItem hu I g ry fun w' s3 I3 rw' => ⟨z, H, I3, rw', q⟩) hs
theorem atI_all {w : Dr} {G : Hp} {xs : List V} {ds : List D} {i : Int} {y : D} (r : RpAll w G xs ds) (h : atI ds i = some y) : ∃ x, atI xs i = some x ∧ Rp w G x y := by
  unfold atI at h ⊢
  rw [Option.bind_eq_some_iff] at h
  obtain ⟨j, h1, h2⟩ := h
  obtain ⟨x, e1, e2⟩ := r.get' h2
  exact ⟨x, by rw [r.length, h1]; exact e1, e2⟩
theorem strOk_one {z : Str} {c : Nat} (h : PyData.strOk z = true) (hc : c ∈ z.cps.toList) : PyData.strOk ⟨#[c]⟩ = true := by
  unfold PyData.strOk at *
  simp only [Array.all_eq_true'] at h
  simp only [Array.all_eq_true', Array.mem_singleton]
  rintro x (rfl : x = c)
  exact h _ (by simpa using hc)
theorem str_size {z : Str} : z.cps.toList.length = z.length := by simp [Str.length]
theorem ok_ix (hr : Room k X.A) : IxOk X .ix := by
  refine ⟨_, ix_seq.or (ix_dict (hu_of hr)), fun w O0 H0 O σ H env st v u d e x Q R bv bu ha q => ?_⟩
  cases d with
  | list l =>
    cases e with
    | int i =>
      obtain ⟨p, xs, rfl, h1, r1⟩ := bv.list
      obtain rfl := bu.int
      obtain ⟨z, e1, e2⟩ := atI_all r1 (show atI l i = some x from ha)
      exact .inl (.inl ⟨p, xs, i, z, rfl, rfl, SqL.of h1, e1, q _ H R.here e2⟩)
    | _ => cases ha
  | tuple l =>
    cases e with
    | int i =>
      obtain ⟨p, xs, rfl, h1, r1⟩ := bv.tuple
      obtain rfl := bu.int
      obtain ⟨z, e1, e2⟩ := atI_all r1 (show atI l i = some x from ha)
      exact .inl (.inr (.inl ⟨p, xs, i, z, rfl, rfl, SqT.of h1, e1, q _ H R.here e2⟩))
    | _ => cases ha
  | str z =>
    cases e with
    | int i =>
      simp only [app2] at ha
      split at ha
      · rename_i hz
        simp only [Option.map_eq_some_iff] at ha
        obtain ⟨c, h1, rfl⟩ := ha
        obtain ⟨rfl, hs⟩ := bv.str
        obtain rfl := bu.int
        refine .inl (.inr (.inr ⟨z, i, c, rfl, rfl, hz, h1, q _ H R.here (.str _ (strOk_one hs ?_))⟩))
        unfold atI at h1
        rw [Option.bind_eq_some_iff] at h1
        obtain ⟨j, _, h2⟩ := h1
        exact List.mem_of_getElem? h2
      · cases ha
    | _ => cases ha
  | dict l =>
    have ha : (lookD (.dict l) e).join = some x := by cases e <;> exact ha
    rw [Option.join_eq_some_iff] at ha
    obtain ⟨a, o', rfl, g, z⟩ := look_of bv bu ha
    rcases z with ⟨_, z⟩ | ⟨x', y, rfl, z, rp⟩
    · cases z
    · cases z
      exact .inr ⟨a, x', rfl, g, q _ H R.here rp⟩
  | _ => cases e <;> cases ha
end
end TK

/-! the reflected layer, 6: calls of built-ins, and, or, not, tests, slices -/
namespace TK
open PySem PySem.Spec PyProof.Rows L2
def notStar : Expr → Bool
  | .Starred _ _ => false
  | _ => true
theorem star_ok {e : Expr} {es : List Expr} {env : PySem.Env} (h : notStar e = true) : starEach (e :: es) env = (false, eval e env) :: starEach es env := by
  cases e <;> first | rfl | cases h
theorem star_any {pos : Pos} {env : PySem.Env} : ∀ {es : List Expr}, es.all notStar = true → (backTo pos (starEach es env)).any (·.1) = false
  | [], _ => rfl
  | e :: es, h => by
    rw [List.all_cons, Bool.and_eq_true] at h
    rw [star_ok h.1]
    show ((false || (backTo pos (starEach es env)).any (·.1)) = false)
    rw [star_any h.2]
    rfl
section
variable {X : Cx} {E : XK} {Γ : List FnSem} {k : Nat}
/-- one borrowed argument -/
theorem s_arg1 {e : Expr} {A : TK.E} (h : PE X e (rdB X.K X.mg E Γ A)) (hs : notStar e = true) : PA X [e] (tCons (rdB X.K X.mg E Γ A) tNil) := pa_cons h pa_nil (star_ok hs)
theorem s_arg2 {e e' : Expr} {A B : TK.E} (h : PE X e (rdB X.K X.mg E Γ A)) (h' : PE X e' (rdB X.K X.mg E Γ B)) (hs : notStar e = true) (hs' : notStar e' = true) : PA X [e, e'] (tCons (rdB X.K X.mg E Γ A) (tCons (rdB X.K X.mg E Γ B) tNil)) :=
  pa_cons h (s_arg1 h' hs') (star_ok hs)
def CallOk (X : Cx) (f : Value) (o : O1) : Prop :=
  ∃ r, CallR X f r ∧ ∀ w O0 H0 O σ H env st v d x Q, Rel X.K w O0 H0 O σ H env st → Bp w O H v d → app1 o d = some x → (∀ v' H', Post O w.ps H st H' → Rp w (hid H' O) v' x → Q v' H') → r [v] H Q
theorem CallOk.rd {f : Value} {o : O1} {A : TK.E} {r : List V → Hp → VK → Prop}
    (h : ∀ w O0 H0 O σ H env st v d x Q, Rel X.K w O0 H0 O σ H env st → Bp w O H v d → app1 o d = some x → (∀ v' H', Post O w.ps H st H' → Rp w (hid H' O) v' x → Q v' H') → r [v] H Q) :
    ∀ σ H Q, TK.rd X.K X.mg E Γ (.op1 o A) σ H Q → tCB r (tCons (rdB X.K X.mg E Γ A) tNil) σ H Q := fun σ H Q q => by
  obtain ⟨w, O0, H0, O, env, st, rr, st', R, q, oo⟩ := q
  refine rdB_bind R (f := fun x => liftO (app1 o x)) q oo fun d st1 v H1 R1 p1 q1 h1 o1 => ?_
  obtain ⟨x, h3, rfl, rfl⟩ := liftO_inv h1
  exact h w O0 H0 O σ H1 env _ v d x Q R1 q1 h3 fun v' H' p z => o1 H' p v' z
theorem s_callB {id : String} {x : Str} {o : O1} {e : Expr} {A : TK.E} {p pos : Pos} (hc : CallOk X (.builtin id) o) (hg : Gl X x) (hm : X.mg x = none) (hv : bootBuiltins x = some (.builtin id)) (h : PE X e (rdB X.K X.mg E Γ A)) (hs : notStar e = true)
    (hn : x ≠ "__name__") (hdb : (x == ("__debug__" : Str)) = false) : PE X (.Call (.Name x p) [e] [] pos) (TK.rd X.K X.mg E Γ (.op1 o A)) := by
  obtain ⟨r, h1, h2⟩ := hc
  exact (pe_callB h1 hg hm hv (s_arg1 h hs) hn hdb (star_ok hs) rfl).weak (CallOk.rd (f := .builtin id) h2)
theorem s_callT {T : String} {x : Str} {o : O1} {e : Expr} {A : TK.E} {p pos : Pos} (hc : CallOk X (.type T) o) (hg : Gl X x) (hm : X.mg x = none) (hv : bootBuiltins x = some (.type T)) (h : PE X e (rdB X.K X.mg E Γ A)) (hs : notStar e = true)
    (hn : x ≠ "__name__") (hdb : (x == ("__debug__" : Str)) = false) : PE X (.Call (.Name x p) [e] [] pos) (TK.rd X.K X.mg E Γ (.op1 o A)) := by
  obtain ⟨r, h1, h2⟩ := hc
  exact (pe_callTy h1 hg hm hv (s_arg1 h hs) hn hdb (star_ok hs) rfl).weak (CallOk.rd (f := .type T) h2)
/-! ### the built-ins -/
theorem len_dict : CallR X (.builtin "len") (fun xs H Q => ∃ a, xs = [V.ref a] ∧ ((∃ kvs, Rd H a (.dK kvs) ∧ Q (.int kvs.length) H) ∨ False)) := by
  intro pins s σ H xs us Q I r h
  obtain ⟨a, rfl, ⟨kvs, ha, q⟩ | z⟩ := h
  · obtain ⟨u, rfl, ru⟩ := vals1 r
    cases ru
    exact d_len I ha fun t s' I' => ⟨.int kvs.length, H, I', ⟨t, rfl⟩, q⟩
  · exact z.elim
theorem RpKV.length {w : Dr} {G : Hp} : ∀ {kvs : List (Key × V)} {l : List (D × D)}, RpKV w G kvs l → kvs.length = l.length
  | _, _, .nil => rfl
  | _, _, .cons _ _ h => by rw [List.length_cons, List.length_cons, RpKV.length h]
theorem c_len : CallOk X (.builtin "len") .len := by
  refine ⟨_, call_len.or len_dict, fun w O0 H0 O σ H env st v d x Q R bv ha q => ?_⟩
  cases d with
  | str s =>
    simp only [app1] at ha
    split at ha
    · cases ha
      obtain ⟨rfl, _⟩ := bv.str
      exact .inl ⟨_, _, rfl, ⟨by assumption, rfl⟩, q _ H R.here (.int _)⟩
    · cases ha
  | list l =>
    cases ha
    obtain ⟨p, xs, rfl, h1, r1⟩ := bv.list
    exact .inl ⟨_, _, rfl, .inl ⟨xs, SqL.of h1, r1.length.symm⟩, q _ H R.here (.int _)⟩
  | tuple l =>
    cases ha
    obtain ⟨p, xs, rfl, h1, r1⟩ := bv.tuple
    exact .inl ⟨_, _, rfl, .inr ⟨xs, SqT.of h1, r1.length.symm⟩, q _ H R.here (.int _)⟩
  | dict l =>
    simp only [app1, Option.bind_eq_some_iff] at ha
    obtain ⟨⟨t, l'⟩, h1, h2⟩ := ha
    cases t with
    | false =>
      cases h2
      obtain ⟨a, rfl, hd⟩ := bv.dict h1
      cases hd with
      | k h3 h4 => exact .inr ⟨a, rfl, .inl ⟨_, h3, by rw [h4.length]; exact q _ H R.here (.int _)⟩⟩
    | true => cases h2
  | _ => cases ha
theorem bools_V {w : Dr} {G : Hp} : ∀ {xs : List V} {ds : List D} {bs : List Bool}, RpAll w G xs ds → boolsOf ds = some bs → xs = bs.map V.bl
  | _, _, _, .nil, h => by cases h; rfl
  | _, _, _, .cons (d := d) a b, h => by
    cases a with
    | bl c =>
      simp only [boolsOf, Option.map_eq_some_iff] at h
      obtain ⟨r, h1, rfl⟩ := h
      rw [bools_V b h1]
      rfl
    | _ => cases h
theorem c_all (hc : X.calm = true) : CallOk X (.builtin "all") .all := by
  refine ⟨_, cr_all hc, fun w O0 H0 O σ H env st v d x Q R bv ha q => ?_⟩
  cases d with
  | list l =>
    simp only [app1, Option.map_eq_some_iff] at ha
    obtain ⟨bs, h1, rfl⟩ := ha
    obtain ⟨p, xs, rfl, h2, r1⟩ := bv.list
    obtain rfl := bools_V r1 h1
    exact ⟨p, bs, rfl, SqL.of h2, q _ H R.here (.bl _)⟩
  | _ => cases ha
theorem c_any (hc : X.calm = true) : CallOk X (.builtin "any") .any := by
  refine ⟨_, cr_any hc, fun w O0 H0 O σ H env st v d x Q R bv ha q => ?_⟩
  cases d with
  | list l =>
    simp only [app1, Option.map_eq_some_iff] at ha
    obtain ⟨bs, h1, rfl⟩ := ha
    obtain ⟨p, xs, rfl, h2, r1⟩ := bv.list
    obtain rfl := bools_V r1 h1
    exact ⟨p, bs, rfl, SqL.of h2, q _ H R.here (.bl _)⟩
  | _ => cases ha
theorem c_abs : CallOk X (.builtin "abs") .abs := by
  refine ⟨_, call_abs, fun w O0 H0 O σ H env st v d x Q R bv ha q => ?_⟩
  cases d with
  | int i =>
    cases ha
    obtain rfl := bv.int
    exact ⟨i, rfl, q _ H R.here (.int _)⟩
  | _ => cases ha
def signsV (z : Str) : List V := z.cps.toList.map fun c => .str ⟨#[c]⟩
theorem tuple_str (hc : X.calm = true) : CallR X (.type "tuple") (fun xs H Q => ∃ z : Str, xs = [.str z] ∧ z.length ≤ sizeLine ∧ ∀ p, H p = none → Q (.ref p) (upd H p (.tup (signsV z)))) := by
  intro pins s σ H xs us Q I r h
  obtain ⟨z, rfl, hz, q⟩ := h
  obtain ⟨u, rfl, t, rfl⟩ := vals1 r
  refine call_tuple_str (I.ok.hd hc) z t (fun h' tk acc hk hi => ?_) hz
  have I2 : Inv X pins σ H { s with heap := h', toks := tk } := I.kept hk
  have hv : Vals (signsV z) acc.toList := by
    refine vals_of_at ?_ fun j x u e1 e2 => ?_
    · unfold signsV
      rw [List.length_map, Array.length_toList, Array.length_toList, hi.1]
    · obtain ⟨c, tt, e3, rfl⟩ := hi.2 j u (by simpa using e2)
      unfold signsV at e1
      rw [List.getElem?_map, Array.getElem?_toList, e3] at e1
      cases e1
      exact ⟨tt, rfl⟩
  refine ⟨.ref h'.objs.size, upd H h'.objs.size (.tup (signsV z)), I2.laid (t' := tk) (fun c o e => Heap.get?_push_of_some _ e) (Nat.le_refl _) (show ObjOk X.prog X.w _ _ _ (.tup (signsV z)) from ⟨?_, acc.toList, hv, ?_⟩), rfl, q _ (I2.hok.fresh (Nat.le_refl _))⟩
  · unfold signsV
    rw [List.length_map, Array.length_toList]
    exact hz
  · rw [Array.toArray_toList]; exact IsTup.new _ _
theorem rp_signs {w : Dr} {G : Hp} {z : Str} (h : PyData.strOk z = true) : RpAll w G (signsV z) (chars z) := by
  have key : ∀ l : List Nat, (∀ c ∈ l, c ∈ z.cps.toList) → RpAll w G (l.map fun c => V.str ⟨#[c]⟩) (l.map fun c => PyData.str ⟨#[c]⟩) := by
    intro l
    induction l with
    | nil => intro _; exact .nil
    | cons c l ih => intro hl; exact .cons (.str _ (strOk_one h (hl c List.mem_cons_self))) (ih fun x hx => hl x (List.mem_cons_of_mem _ hx))
  exact key _ fun _ h => h
theorem c_tuple (hc : X.calm = true) : CallOk X (.type "tuple") .tupleOf := by
  refine ⟨_, call_tuple_of.or (tuple_str hc), fun w O0 H0 O σ H env st v d x Q R bv ha q => ?_⟩
  cases d with
  | list l =>
    cases ha
    obtain ⟨p, xs, rfl, h2, r1⟩ := bv.list
    exact .inl ⟨p, xs, rfl, .inl ⟨SqL.of h2, fun z hz => q _ _ (R.post_new hz) (rp_newT R hz r1)⟩⟩
  | tuple l =>
    cases ha
    obtain ⟨p, xs, rfl, h2, r1⟩ := bv.tuple
    exact .inl ⟨p, xs, rfl, .inr ⟨SqT.of h2, q _ H R.here bv.tupleR⟩⟩
  | str s =>
    simp only [app1] at ha
    split at ha
    · cases ha
      obtain ⟨rfl, hs⟩ := bv.str
      exact .inr ⟨s, rfl, by assumption, fun z hz => q _ _ (R.post_new hz) (rp_newT R hz (rp_signs hs))⟩
    · cases ha
  | _ => cases ha
theorem c_list : CallOk X (.type "list") .listOf := by
  refine ⟨_, call_list_of, fun w O0 H0 O σ H env st v d x Q R bv ha q => ?_⟩
  cases d with
  | list l =>
    cases ha
    obtain ⟨p, xs, rfl, h2, r1⟩ := bv.list
    exact ⟨p, xs, rfl, .inl (SqL.of h2), fun z hz => q _ _ (R.post_new hz) (rp_newL R hz r1)⟩
  | tuple l =>
    cases ha
    obtain ⟨p, xs, rfl, h2, r1⟩ := bv.tuple
    exact ⟨p, xs, rfl, .inr (SqT.of h2), fun z hz => q _ _ (R.post_new hz) (rp_newL R hz r1)⟩
  | _ => cases ha
theorem strOk_digits0 : ∀ n : _root_.Fin 100, PyData.strOk (toString (n.val : Int) : String) = true ∧ PyData.strOk (toString (-(n.val : Int)) : String) = true := by decide +kernel
theorem strOk_digits {i : Int} (h : i.natAbs < 100) : PyData.strOk (toString i : String) = true := by
  have := strOk_digits0 ⟨i.natAbs, h⟩
  rcases Int.natAbs_eq i with e | e
  · rw [e]; exact this.1
  · rw [e]; exact this.2
theorem call_str_bool : CallR X (.type "str") (fun xs H Q => ∃ b : Bool, xs = [.bl b] ∧ Q (.str (if b then "True" else "False")) H) := by
  intro pins s σ H xs us Q I r h
  obtain ⟨b, rfl, q⟩ := h
  obtain ⟨u, rfl, r1⟩ := vals1 r
  cases r1
  exact PySem.P.str_of_bool ⟨.str _, H, I.tok _, ⟨_, rfl⟩, q⟩
theorem c_str : CallOk X (.type "str") .str := by
  refine ⟨_, call_str_int.or call_str_bool, fun w O0 H0 O σ H env st v d x Q R bv ha q => ?_⟩
  cases d with
  | int i =>
    simp only [app1] at ha
    split at ha
    · rename_i hi
      cases ha
      obtain rfl := bv.int
      refine .inl ⟨i, rfl, ?_, q _ H R.here (.str _ (strOk_digits hi))⟩
      by_cases h0 : i.natAbs = 0
      · rw [h0]; decide
      · have := (Nat.log2_lt h0).mpr (Nat.lt_of_lt_of_le hi (by decide : 100 ≤ 2 ^ 7))
        omega
    · cases ha
  | bool b =>
    cases ha
    obtain rfl := bv.bool
    exact .inr ⟨b, rfl, q _ H R.here (.str _ (by cases b <;> decide +kernel))⟩
  | _ => cases ha
theorem c_int : CallOk X (.type "int") .int := by
  refine ⟨_, call_int1, fun w O0 H0 O σ H env st v d x Q R bv ha q => ?_⟩
  cases d with
  | int i =>
    cases ha
    obtain rfl := bv.int
    exact .inl ⟨i, rfl, q _ H R.here (.int _)⟩
  | bool b =>
    cases ha
    obtain rfl := bv.bool
    exact .inr ⟨b, rfl, q _ H R.here (.int _)⟩
  | _ => cases ha
/-! ### and, or, not, if .. else as values -/
theorem tru_inv {d : D} {r : Except Str Bool} {st st' : DSt} (h : tru d st = some (r, st')) : ∃ b, truth d = some b ∧ r = .ok b ∧ st' = st := liftO_inv h
theorem truV_of {w : Dr} {O : Addr → Bool} {H : Hp} {v : V} {d : D} {b : Bool} {K : PySem.W.Frag} (h : Bp w O H v d) (t : truth d = some b) : TruV K v H b := by
  cases d with
  | none => obtain rfl := h.none; cases t; rfl
  | bool c => obtain rfl := h.bool; cases t; rfl
  | int i => obtain rfl := h.int; cases t; rfl
  | str s =>
    obtain ⟨rfl, _⟩ := h.str
    simp only [truth] at t
    split at t
    · cases t
      refine ⟨by assumption, ?_⟩
      cases hs : s.length with
      | zero => rfl
      | succ n => rfl
    · cases t
  | list l =>
    obtain ⟨a, xs, rfl, h1, r1⟩ := h.list
    cases t
    refine .inl ⟨xs, SqL.of h1, ?_⟩
    cases r1 <;> rfl
  | tuple l =>
    obtain ⟨a, xs, rfl, h1, r1⟩ := h.tuple
    cases t
    refine .inr (.inl ⟨xs, SqT.of h1, ?_⟩)
    cases r1 <;> rfl
  | dict l => cases t
end
end TK

/-! the reflected layer, 7: and, or, not, tests, slices, isinstance, calls of defs -/
namespace TK
open PySem PySem.Spec PyProof.Rows L2
theorem orB_of {Γ : List FnSem} {env : Env} {A : TK.E} {st st' : DSt} {r : Except Str D} (h : ev Γ env A st = some (r, st')) : orB env A (ev Γ env A) st = some (r, st') := by
  cases A with
  | var i =>
    obtain ⟨d, h1, e1, e2⟩ := liftO_inv (x := getV env i) h
    subst e1 e2
    show liftO (getB env i) _ = _
    have : getB env i = some d := by
      unfold getV at h1
      unfold getB
      split at h1
      · rename_i e
        rw [e]
        exact h1
      · cases h1
    rw [this]
    rfl
  | _ => exact h
section
variable {X : Cx} {E : XK} {Γ : List FnSem} {k : Nat}
theorem s_not {a : Expr} {A : TK.E} {pos : Pos} (ha : PE X a (rdB X.K X.mg E Γ A)) : PE X (.UnaryOp .Not a pos) (rd X.K X.mg E Γ (.op1 .not A)) := by
  refine (pe_notT ha).weak fun σ H Q q => ?_
  obtain ⟨w, O0, H0, O, env, st, rr, st', R, q, oo⟩ := q
  refine rdB_bind R (f := fun x => liftO (app1 .not x)) q oo fun d st1 v H1 R1 p1 q1 h1 o1 => ?_
  obtain ⟨x, h3, rfl, rfl⟩ := liftO_inv h1
  simp only [app1, Option.map_eq_some_iff] at h3
  obtain ⟨b, h4, rfl⟩ := h3
  exact ⟨b, truV_of q1 h4, o1 H1 R1.here _ (.bl _)⟩
theorem s_and {a b : Expr} {rest : List Expr} {A B : TK.E} {pos : Pos} (ha : PE X a (rd X.K X.mg E Γ A)) (hb : PE X (.BoolOp .And (b :: rest) pos) (rd X.K X.mg E Γ B)) : PE X (.BoolOp .And (a :: b :: rest) pos) (rd X.K X.mg E Γ (.and A B)) := by
  refine (pe_andT ha hb).weak fun σ H Q q => ?_
  obtain ⟨w, O0, H0, O, env, st, rr, st', R, q, oo⟩ := q
  refine rd_bind R (f := fun x => tru x >>= fun k => if k then ev Γ env B else pure x) q oo fun d st1 v H1 R1 p1 q1 h1 o1 => ?_
  rcases bind_inv h1 with ⟨c, h2, rfl⟩ | ⟨b, st2, h2, h3⟩
  · obtain ⟨b, _, z, _⟩ := tru_inv h2
    cases z
  · obtain ⟨b', e1, e2, rfl⟩ := tru_inv h2
    cases e2
    refine ⟨b, truV_of (.inl q1) e1, ?_⟩
    cases b with
    | true => exact ⟨w, O0, H0, O, env, _, _, _, R1, h3, o1⟩
    | false =>
      obtain ⟨rfl, rfl⟩ := pure_inv h3
      exact o1 H1 R1.here v q1
theorem s_or {a b : Expr} {rest : List Expr} {A B : TK.E} {pos : Pos} (ha : PE X a (rd X.K X.mg E Γ A)) (hb : PE X (.BoolOp .Or (b :: rest) pos) (rd X.K X.mg E Γ B)) : PE X (.BoolOp .Or (a :: b :: rest) pos) (rd X.K X.mg E Γ (.or A B)) := by
  refine (pe_orT ha hb).weak fun σ H Q q => ?_
  obtain ⟨w, O0, H0, O, env, st, rr, st', R, q, oo⟩ := q
  refine rd_bind R (f := fun x => tru x >>= fun k => if k then pure x else ev Γ env B) q oo fun d st1 v H1 R1 p1 q1 h1 o1 => ?_
  rcases bind_inv h1 with ⟨c, h2, rfl⟩ | ⟨b, st2, h2, h3⟩
  · obtain ⟨b, _, z, _⟩ := tru_inv h2
    cases z
  · obtain ⟨b', e1, e2, rfl⟩ := tru_inv h2
    cases e2
    refine ⟨b, truV_of (.inl q1) e1, ?_⟩
    cases b with
    | false => exact ⟨w, O0, H0, O, env, _, _, _, R1, h3, o1⟩
    | true =>
      obtain ⟨rfl, rfl⟩ := pure_inv h3
      exact o1 H1 R1.here v q1
theorem s_one {op : BoolOp} {a : Expr} {A : TK.E} {pos : Pos} (ha : PE X a (rd X.K X.mg E Γ A)) : PE X (.BoolOp op [a] pos) (rd X.K X.mg E Γ A) := pe_one ha
theorem s_ite {c a b : Expr} {C A B : TK.E} {pos : Pos} (hc : PT X c (rdT X.K X.mg E Γ C)) (ha : PE X a (rd X.K X.mg E Γ A)) (hb : PE X b (rd X.K X.mg E Γ B)) : PE X (.IfExp c a b pos) (rd X.K X.mg E Γ (.ite C A B)) := by
  refine (pe_ifExp hc ha hb).weak fun σ H Q q => ?_
  obtain ⟨w, O0, H0, O, env, st, rr, st', R, q, oo⟩ := q
  have q' : ((do let d ← orB env C (ev Γ env C); tru d) >>= fun k => if k then ev Γ env A else ev Γ env B) st = some (rr, st') := by
    rw [bind_assoc']
    exact q
  refine rdT_bind R q' oo fun b st1 H1 R1 p1 h1 o1 => ?_
  cases b with
  | true => exact ⟨w, O0, H0, O, env, _, _, _, R1, h1, o1⟩
  | false => exact ⟨w, O0, H0, O, env, _, _, _, R1, h1, o1⟩
theorem s_chain {op op' : CmpOp} {o o' : O2} {a b c : Expr} {A B C : TK.E} {pos : Pos} (h : OpOk X (compareOp op) o) (h' : OpOk X (compareOp op') o') (ha : PE X a (rdB X.K X.mg E Γ A)) (hb : PE X b (rdB X.K X.mg E Γ B)) (hc : PE X c (rdB X.K X.mg E Γ C))
    (hm : lastMarks [op, op'] [b, c] = false) (ho : ∀ d e x, app2 o d e = some x → ∃ b, x = .bool b) : PE X (.Compare a [op, op'] [b, c] pos) (rd X.K X.mg E Γ (.chain o o' A B C)) := by
  obtain ⟨r, h1, h2⟩ := h
  obtain ⟨r', h1', h2'⟩ := h'
  refine (pe_chain h1 h1' ha hb hc hm).weak fun σ H Q q => ?_
  obtain ⟨w, O0, H0, O, env, st, rr, st', R, q, oo⟩ := q
  refine rdB_bind R (f := fun x => orB env B (ev Γ env B) >>= fun y => liftO (app2 o x y) >>= fun r => match r with
    | .bool true => orB env C (ev Γ env C) >>= fun z => liftO (app2 o' y z)
    | .bool false => pure (.bool false)
    | _ => fail) q oo fun d st1 v H1 R1 p1 q1 g1 o1 => ?_
  refine rdB_bind R1 g1 o1 fun e st2 u H2 R2 p2 q2 g2 o2 => ?_
  rcases bind_inv g2 with ⟨c, g3, rfl⟩ | ⟨x, st3, g3, g4⟩
  · obtain ⟨_, _, z, _⟩ := liftO_inv g3
    cases z
  · obtain ⟨x', e1, e2, rfl⟩ := liftO_inv g3
    cases e2
    obtain ⟨b, rfl⟩ := ho _ _ _ e1
    refine h2 w O0 H0 O σ H2 env _ v u d e _ _ R2 (q1.ext p2.1) q2 e1 fun v' H3 p3 z3 => ?_
    cases z3
    refine ⟨b, rfl, ?_⟩
    have R3 := R2.post p3
    cases b with
    | false =>
      obtain ⟨rfl, rfl⟩ := pure_inv g4
      exact o2 H3 p3 _ (.bl _)
    | true =>
      refine rdB_bind R3 g4 (o2.later p3) fun z st4 y H4 R4 p4 q4 g5 o4 => ?_
      obtain ⟨x', e3, rfl, rfl⟩ := liftO_inv g5
      exact h2' w O0 H0 O σ H4 env _ u y e z _ _ R4 (q2.ext (p3.trans p4).1) q4 e3 fun v' H5 p5 z5 => o4 H5 p5 _ z5
/-! ### tests -/
theorem t_truth {e : Expr} {A : TK.E} (h : PE X e (rdB X.K X.mg E Γ A)) (he : ∀ whole, isTrue e X.env whole = (do let v ← whole; standAt e.pos; holding [v] (truthy v))) : PT X e (rdT X.K X.mg E Γ A) := by
  refine (pt_truth h he).weak fun σ H Q q => ?_
  obtain ⟨w, O0, H0, O, env, st, rr, st', R, q, oo⟩ := q
  refine rdB_bind R (f := tru) q oo fun d st1 v H1 R1 p1 q1 h1 o1 => ?_
  obtain ⟨b, h4, rfl, rfl⟩ := tru_inv h1
  exact ⟨b, truV_of q1 h4, o1 H1 R1.here⟩
theorem not_tru (x : D) : (liftO (app1 .not x) >>= tru) = (tru x >>= fun b => (pure (!b) : M Bool)) := by
  simp only [app1, tru]
  cases truth x <;> rfl
theorem t_not {a : Expr} {A : TK.E} {pos : Pos} (ha : PT X a (rdT X.K X.mg E Γ A)) : PT X (.UnaryOp .Not a pos) (rdT X.K X.mg E Γ (.op1 .not A)) := by
  refine (pt_not ha).weak fun σ H Q q => ?_
  obtain ⟨w, O0, H0, O, env, st, rr, st', R, q, oo⟩ := q
  have q' : ((do let d ← orB env A (ev Γ env A); tru d) >>= fun b => (pure (!b) : M Bool)) st = some (rr, st') := by
    have q : ((orB env A (ev Γ env A) >>= fun x => liftO (app1 .not x)) >>= tru) st = some (rr, st') := q
    rw [bind_assoc'] at q ⊢
    simpa only [not_tru] using q
  refine rdT_bind R q' oo fun b st1 H1 R1 p1 h1 o1 => ?_
  obtain ⟨rfl, rfl⟩ := pure_inv h1
  exact o1 H1 R1.here
theorem t_and {a b : Expr} {rest : List Expr} {A B : TK.E} {pos : Pos} (ha : PT X a (rdT X.K X.mg E Γ A)) (hb : PW X (.BoolOp .And (b :: rest) pos) (rdT X.K X.mg E Γ B)) : PW X (.BoolOp .And (a :: b :: rest) pos) (rdT X.K X.mg E Γ (.and A B)) := by
  refine ⟨fun wh pins s σ H Q I q => (pw_and ha hb).run wh pins s σ H Q I ?_⟩
  obtain ⟨w, O0, H0, O, env, st, rr, st', R, q, oo⟩ := q
  have q : ((ev Γ env A >>= fun x => tru x >>= fun k => if k then ev Γ env B else pure x) >>= tru) st = some (rr, st') := q
  rw [bind_assoc'] at q
  rcases bind_inv q with ⟨c, h1, rfl⟩ | ⟨d, st1, h1, h2⟩
  · exact ⟨w, O0, H0, O, env, st, .error c, _, R, bind_err (orB_of h1), oo⟩
  · rw [bind_assoc'] at h2
    rcases bind_inv h2 with ⟨c, h3, rfl⟩ | ⟨k, st2, h3, h4⟩
    · obtain ⟨b, _, z, _⟩ := tru_inv h3
      cases z
    · refine ⟨w, O0, H0, O, env, st, .ok k, st2, R, ?_, fun H1 p1 => ?_⟩
      · rw [bind_eq (orB_of h1)]
        exact h3
      · have R1 := R.post p1
        have o1 := oo.later p1
        obtain ⟨k', e1, e2, rfl⟩ := tru_inv h3
        cases e2
        cases k with
        | true =>
          refine ⟨w, O0, H0, O, env, _, rr, st', R1, ?_, o1⟩
          rcases bind_inv h4 with ⟨c, h5, rfl⟩ | ⟨x, st3, h5, h6⟩
          · exact bind_err (orB_of h5)
          · rw [bind_eq (orB_of h5)]
            exact h6
        | false =>
          have h4 : tru d st2 = some (rr, st') := h4
          obtain ⟨k', e3, rfl, rfl⟩ := tru_inv h4
          rw [e1] at e3
          cases e3
          exact o1 H1 R1.here
theorem t_or {a b : Expr} {rest : List Expr} {A B : TK.E} {pos : Pos} (ha : PT X a (rdT X.K X.mg E Γ A)) (hb : PW X (.BoolOp .Or (b :: rest) pos) (rdT X.K X.mg E Γ B)) : PW X (.BoolOp .Or (a :: b :: rest) pos) (rdT X.K X.mg E Γ (.or A B)) := by
  refine ⟨fun wh pins s σ H Q I q => (pw_or ha hb).run wh pins s σ H Q I ?_⟩
  obtain ⟨w, O0, H0, O, env, st, rr, st', R, q, oo⟩ := q
  have q : ((ev Γ env A >>= fun x => tru x >>= fun k => if k then pure x else ev Γ env B) >>= tru) st = some (rr, st') := q
  rw [bind_assoc'] at q
  rcases bind_inv q with ⟨c, h1, rfl⟩ | ⟨d, st1, h1, h2⟩
  · exact ⟨w, O0, H0, O, env, st, .error c, _, R, bind_err (orB_of h1), oo⟩
  · rw [bind_assoc'] at h2
    rcases bind_inv h2 with ⟨c, h3, rfl⟩ | ⟨k, st2, h3, h4⟩
    · obtain ⟨b, _, z, _⟩ := tru_inv h3
      cases z
    · refine ⟨w, O0, H0, O, env, st, .ok k, st2, R, ?_, fun H1 p1 => ?_⟩
      · rw [bind_eq (orB_of h1)]
        exact h3
      · have R1 := R.post p1
        have o1 := oo.later p1
        obtain ⟨k', e1, e2, rfl⟩ := tru_inv h3
        cases e2
        cases k with
        | false =>
          refine ⟨w, O0, H0, O, env, _, rr, st', R1, ?_, o1⟩
          rcases bind_inv h4 with ⟨c, h5, rfl⟩ | ⟨x, st3, h5, h6⟩
          · exact bind_err (orB_of h5)
          · rw [bind_eq (orB_of h5)]
            exact h6
        | true =>
          have h4 : tru d st2 = some (rr, st') := h4
          obtain ⟨k', e3, rfl, rfl⟩ := tru_inv h4
          rw [e1] at e3
          cases e3
          exact o1 H1 R1.here
theorem t_and1 {a : Expr} {A : TK.E} {pos : Pos} (ha : PT X a (rdT X.K X.mg E Γ A)) : PW X (.BoolOp .And [a] pos) (rdT X.K X.mg E Γ A) := pw_and1 ha
theorem t_or1 {a : Expr} {A : TK.E} {pos : Pos} (ha : PT X a (rdT X.K X.mg E Γ A)) : PW X (.BoolOp .Or [a] pos) (rdT X.K X.mg E Γ A) := pw_or1 ha
/-- a comparison as a test -/
theorem t_cmp {op : CmpOp} {o : O2} {a b : Expr} {A B : TK.E} {pos : Pos} (h : OpOk X (compareOp op) o) (ha : PE X a (rdB X.K X.mg E Γ A)) (hb : PE X b (rdB X.K X.mg E Γ B)) (hm : behindInMarks op b = false) (ho : ∀ d e x, app2 o d e = some x → ∃ b, x = .bool b) :
    PT X (.Compare a [op] [b] pos) (rdT X.K X.mg E Γ (.op2 o A B)) := by
  obtain ⟨r, h1, h2⟩ := h
  refine (pt_cmpR h1 ha hb hm).weak fun σ H Q q => ?_
  obtain ⟨w, O0, H0, O, env, st, rr, st', R, q, oo⟩ := q
  have q : ((orB env A (ev Γ env A) >>= fun x => orB env B (ev Γ env B) >>= fun y => liftO (app2 o x y)) >>= tru) st = some (rr, st') := q
  rw [bind_assoc'] at q
  refine rdB_bind R q oo fun d st1 v H1 R1 p1 q1 g1 o1 => ?_
  rw [bind_assoc'] at g1
  refine rdB_bind R1 g1 o1 fun e st2 u H2 R2 p2 q2 g2 o2 => ?_
  rcases bind_inv g2 with ⟨c, g3, rfl⟩ | ⟨x, st3, g3, g4⟩
  · obtain ⟨_, _, z, _⟩ := liftO_inv g3
    cases z
  · obtain ⟨x', e1, e2, rfl⟩ := liftO_inv g3
    cases e2
    obtain ⟨b, rfl⟩ := ho _ _ _ e1
    obtain ⟨b', e3, rfl, rfl⟩ := tru_inv g4
    cases e3
    refine h2 w O0 H0 O σ H2 env _ v u d e _ _ R2 (q1.ext p2.1) q2 e1 fun v' H3 p3 z3 => ?_
    cases z3
    exact ⟨b, rfl, o2 H3 p3⟩
/-- a chain as a test -/
theorem t_chain {op op' : CmpOp} {o o' : O2} {a b c : Expr} {A B C : TK.E} {pos : Pos} (h : OpOk X (compareOp op) o) (h' : OpOk X (compareOp op') o') (ha : PE X a (rdB X.K X.mg E Γ A)) (hb : PE X b (rdB X.K X.mg E Γ B)) (hc : PE X c (rdB X.K X.mg E Γ C))
    (hm : lastMarks [op, op'] [b, c] = false) (ho : ∀ d e x, app2 o d e = some x → ∃ b, x = .bool b) (ho' : ∀ d e x, app2 o' d e = some x → ∃ b, x = .bool b) : PT X (.Compare a [op, op'] [b, c] pos) (rdT X.K X.mg E Γ (.chain o o' A B C)) := by
  obtain ⟨r, h1, h2⟩ := h
  obtain ⟨r', h1', h2'⟩ := h'
  refine (pt_chain h1 h1' ha hb hc hm).weak fun σ H Q q => ?_
  obtain ⟨w, O0, H0, O, env, st, rr, st', R, q, oo⟩ := q
  have q : ((orB env A (ev Γ env A) >>= fun x => orB env B (ev Γ env B) >>= fun y => liftO (app2 o x y) >>= fun r => match r with
    | .bool true => orB env C (ev Γ env C) >>= fun z => liftO (app2 o' y z)
    | .bool false => pure (.bool false)
    | _ => fail) >>= tru) st = some (rr, st') := q
  rw [bind_assoc'] at q
  refine rdB_bind R q oo fun d st1 v H1 R1 p1 q1 g1 o1 => ?_
  rw [bind_assoc'] at g1
  refine rdB_bind R1 g1 o1 fun e st2 u H2 R2 p2 q2 g2 o2 => ?_
  rw [bind_assoc'] at g2
  rcases bind_inv g2 with ⟨c, g3, rfl⟩ | ⟨x, st3, g3, g4⟩
  · obtain ⟨_, _, z, _⟩ := liftO_inv g3
    cases z
  · obtain ⟨x', e1, e2, rfl⟩ := liftO_inv g3
    cases e2
    obtain ⟨b, rfl⟩ := ho _ _ _ e1
    refine h2 w O0 H0 O σ H2 env _ v u d e _ _ R2 (q1.ext p2.1) q2 e1 fun v' H3 p3 z3 => ?_
    cases z3
    refine ⟨b, rfl, ?_⟩
    have R3 := R2.post p3
    cases b with
    | false =>
      have g4 : tru (.bool false) _ = some (rr, st') := g4
      obtain ⟨b', e3, rfl, rfl⟩ := tru_inv g4
      cases e3
      exact ⟨false, rfl, o2 H3 p3⟩
    | true =>
      have g4 : ((orB env C (ev Γ env C) >>= fun z => liftO (app2 o' e z)) >>= tru) _ = some (rr, st') := g4
      rw [bind_assoc'] at g4
      refine rdB_bind R3 g4 (o2.later p3) fun z st4 y H4 R4 p4 q4 g5 o4 => ?_
      rcases bind_inv g5 with ⟨c, g6, rfl⟩ | ⟨x, st5, g6, g7⟩
      · obtain ⟨_, _, z, _⟩ := liftO_inv g6
        cases z
      · obtain ⟨x', e3, e4, rfl⟩ := liftO_inv g6
        cases e4
        obtain ⟨b, rfl⟩ := ho' _ _ _ e3
        obtain ⟨b', e5, rfl, rfl⟩ := tru_inv g7
        cases e5
        refine h2' w O0 H0 O σ H4 env _ u y e z _ _ R4 (q2.ext (p3.trans p4).1) q4 e3 fun v' H5 p5 z5 => ?_
        cases z5
        exact ⟨b, rfl, o4 H5 p5⟩
end
end TK

/-! the reflected layer, 8: slices, isinstance, is None, calls of defs -/
namespace TK
open PySem PySem.Spec PyProof.Rows L2
section
variable {X : Cx} {E : XK} {Γ : List FnSem} {k : Nat}
theorem isN_of {w : Dr} {O : Addr → Bool} {H : Hp} {v : V} {d : D} (h : Bp w O H v d) : decide (v = .non) = !notNone d := by
  rcases h with h | ⟨p, rfl, _, _, h⟩
  · cases h <;> rfl
  · cases h <;> rfl
theorem s_isN {a : Expr} {A : TK.E} {j : Nat} {p' pos : Pos} (ha : PE X a (rdB X.K X.mg E Γ A)) : PE X (.Compare a [.Is] [.Constant .none j p'] pos) (rd X.K X.mg E Γ (.op1 .isN A)) := by
  refine (pe_cmp (pc_isN ha) rfl).weak fun σ H Q q => ?_
  obtain ⟨w, O0, H0, O, env, st, rr, st', R, q, oo⟩ := q
  refine rdB_bind R (f := fun x => liftO (app1 .isN x)) q oo fun d st1 v H1 R1 p1 q1 h1 o1 => ?_
  obtain ⟨x, h3, rfl, rfl⟩ := liftO_inv h1
  cases h3
  rw [isN_of q1]
  exact o1 H1 R1.here _ (.bl _)
theorem s_isNN {a : Expr} {A : TK.E} {j : Nat} {p' pos : Pos} (ha : PE X a (rdB X.K X.mg E Γ A)) : PE X (.Compare a [.IsNot] [.Constant .none j p'] pos) (rd X.K X.mg E Γ (.op1 .isNN A)) := by
  refine (pe_cmp (pc_notN ha) rfl).weak fun σ H Q q => ?_
  obtain ⟨w, O0, H0, O, env, st, rr, st', R, q, oo⟩ := q
  refine rdB_bind R (f := fun x => liftO (app1 .isNN x)) q oo fun d st1 v H1 R1 p1 q1 h1 o1 => ?_
  obtain ⟨x, h3, rfl, rfl⟩ := liftO_inv h1
  cases h3
  rw [isN_of q1]
  rw [Bool.not_not]
  exact o1 H1 R1.here _ (.bl _)
theorem t_isN {a : Expr} {A : TK.E} {j : Nat} {p' pos : Pos} (ha : PE X a (rdB X.K X.mg E Γ A)) : PT X (.Compare a [.Is] [.Constant .none j p'] pos) (rdT X.K X.mg E Γ (.op1 .isN A)) := by
  refine (pt_cmp (pc_isN ha) rfl).weak fun σ H Q q => ?_
  obtain ⟨w, O0, H0, O, env, st, rr, st', R, q, oo⟩ := q
  have q : ((orB env A (ev Γ env A) >>= fun x => liftO (app1 .isN x)) >>= tru) st = some (rr, st') := q
  rw [bind_assoc'] at q
  refine rdB_bind R q oo fun d st1 v H1 R1 p1 q1 h1 o1 => ?_
  refine ⟨_, rfl, ?_⟩
  rw [isN_of q1]
  cases h1
  exact o1 H1 R1.here
theorem t_isNN {a : Expr} {A : TK.E} {j : Nat} {p' pos : Pos} (ha : PE X a (rdB X.K X.mg E Γ A)) : PT X (.Compare a [.IsNot] [.Constant .none j p'] pos) (rdT X.K X.mg E Γ (.op1 .isNN A)) := by
  refine (pt_cmp (pc_notN ha) rfl).weak fun σ H Q q => ?_
  obtain ⟨w, O0, H0, O, env, st, rr, st', R, q, oo⟩ := q
  have q : ((orB env A (ev Γ env A) >>= fun x => liftO (app1 .isNN x)) >>= tru) st = some (rr, st') := q
  rw [bind_assoc'] at q
  refine rdB_bind R q oo fun d st1 v H1 R1 p1 q1 h1 o1 => ?_
  refine ⟨_, rfl, ?_⟩
  rw [isN_of q1]
  rw [Bool.not_not]
  cases h1
  exact o1 H1 R1.here
/-! ### slices -/
def rdO (K : PySem.W.Frag) (mg : Str → Option Value) (E : XK) (Γ : List FnSem) (T : Option TK.E) : TO := fun σ H Q => ∃ w O0 H0 O env st r st', Rel K w O0 H0 O σ H env st ∧ evo Γ env T st = some (r, st') ∧ Out mg E O w.ps H r st' fun i H' => Q i H'
theorem _root_.L2.PO.weak {X : Cx} {e : Option Expr} {t t' : TO} (h : PO X e t) (i : ∀ σ H Q, t' σ H Q → t σ H Q) : PO X e t' := ⟨fun pins s σ H Q I q => h.run pins s σ H Q I (i σ H Q q)⟩
theorem o_none : PO X none (rdO X.K X.mg E Γ none) := by
  refine po_none.weak fun σ H Q q => ?_
  obtain ⟨w, O0, H0, O, env, st, rr, st', R, q, oo⟩ := q
  obtain ⟨rfl, rfl⟩ := pure_inv (a := (none : Option Int)) q
  exact oo H R.here
theorem o_some {e : Expr} {A : TK.E} (h : PE X e (rd X.K X.mg E Γ A)) : PO X (some e) (rdO X.K X.mg E Γ (some A)) := by
  refine (po_some h).weak fun σ H Q q => ?_
  obtain ⟨w, O0, H0, O, env, st, rr, st', R, q, oo⟩ := q
  refine rd_bind R (f := fun d => match d with | .int i => pure (some i) | _ => fail) q oo fun d st1 v H1 R1 p1 q1 h1 o1 => ?_
  cases q1 with
  | int i =>
    obtain ⟨rfl, rfl⟩ := pure_inv (a := some i) h1
    exact ⟨i, rfl, o1 H1 R1.here⟩
  | _ => cases h1
theorem strOk_cut {z : Str} (lo hi : Option Int) (h : PyData.strOk z = true) : PyData.strOk ⟨(cut z.cps.toList lo hi).toArray⟩ = true := by
  unfold PyData.strOk at *
  simp only [Array.all_eq_true'] at h ⊢
  intro x hx
  refine h x ?_
  have : x ∈ cut z.cps.toList lo hi := by simpa using hx
  unfold cut at this
  simpa using List.mem_of_mem_drop (List.mem_of_mem_take this)
theorem s_slc {e : Expr} {lo hi : Option Expr} {A : TK.E} {L U : Option TK.E} {p2 pos : Pos} (ha : PE X e (rdB X.K X.mg E Γ A)) (hl : PO X lo (rdO X.K X.mg E Γ L)) (hu : PO X hi (rdO X.K X.mg E Γ U)) :
    PE X (.Subscript e (.Slice lo hi none p2) pos) (rd X.K X.mg E Γ (.slc A L U)) := by
  refine (pe_slice (sl_list.or (sl_tupA.or sl_str)) ha hl hu).weak fun σ H Q q => ?_
  obtain ⟨w, O0, H0, O, env, st, rr, st', R, q, oo⟩ := q
  refine rdB_bind R (f := fun x => evo Γ env L >>= fun l => evo Γ env U >>= fun h => liftO (slcD x l h)) q oo fun d st1 v H1 R1 p1 q1 h1 o1 => ?_
  rcases bind_inv h1 with ⟨c, h2, rfl⟩ | ⟨l, st2, h2, h3⟩
  · exact ⟨w, O0, H0, O, env, _, _, _, R1, h2, o1⟩
  · refine ⟨w, O0, H0, O, env, _, _, _, R1, h2, fun H2 p2 => ?_⟩
    have R2 := R1.post p2
    have o2 := o1.later p2
    rcases bind_inv h3 with ⟨c, h4, rfl⟩ | ⟨u, st3, h4, h5⟩
    · exact ⟨w, O0, H0, O, env, _, _, _, R2, h4, o2⟩
    · refine ⟨w, O0, H0, O, env, _, _, _, R2, h4, fun H3 p3 => ?_⟩
      have R3 := R2.post p3
      have o3 := o2.later p3
      obtain ⟨x, h6, rfl, rfl⟩ := liftO_inv h5
      have b3 := q1.ext (p2.trans p3).1
      cases d with
      | list ds =>
        cases h6
        obtain ⟨p, xs, rfl, g1, r1⟩ := b3.list
        exact .inl ⟨p, xs, rfl, SqL.of g1, fun z hz => o3 _ (R3.post_new hz) _ (rp_newL R3 hz (r1.cut _ _))⟩
      | tuple ds =>
        cases h6
        obtain ⟨p, xs, rfl, g1, r1⟩ := b3.tuple
        refine .inr (.inl ⟨p, xs, rfl, SqT.of g1, fun hw => ?_, fun hw z hz => o3 _ (R3.post_new hz) _ (rp_newT R3 hz (r1.cut _ _))⟩)
        have : cut ds l u = ds := by
          unfold cut
          rw [← r1.length, hw.1, hw.2, List.drop_zero, Nat.sub_zero, r1.length, List.take_length]
        rw [this] at o3
        exact o3 H3 R3.here _ b3.tupleR
      | str z =>
        simp only [slcD] at h6
        split at h6
        · cases h6
          obtain ⟨rfl, hz⟩ := b3.str
          refine .inr (.inr ⟨z, rfl, by assumption, o3 H3 R3.here _ (.str _ ?_)⟩)
          exact strOk_cut _ _ hz
        · cases h6
      | _ => cases h6
/-! ### isinstance -/
def tyN : Ty → String
  | .int => "int"
  | .bool => "bool"
  | .str => "str"
  | .tuple => "tuple"
  | .list => "list"
def tyD : D → String
  | .none => "NoneType"
  | .bool _ => "bool"
  | .int _ => "int"
  | .str _ => "str"
  | .list _ => "list"
  | .tuple _ => "tuple"
  | .dict _ => "dict"
theorem kit_tbl : ∀ t ∈ [Ty.int, .bool, .str, .tuple, .list], ∀ d ∈ [("NoneType", typ t .none), ("bool", typ t (.bool true)), ("int", typ t (.int 0)), ("str", typ t (.str ⟨#[]⟩)), ("list", typ t (.list [])), ("tuple", typ t (.tuple []))], kitB d.1 (tyN t) = d.2 := by decide +kernel
theorem kit_of_typ {t : Ty} {d : D} {b : Bool} (h : typ t d = some b) : kitB (tyD d) (tyN t) = some b := by
  have ht : t ∈ [Ty.int, .bool, .str, .tuple, .list] := by cases t <;> decide
  have := kit_tbl t ht
  cases d with
  | none => rw [← h]; exact this ("NoneType", typ t .none) (by simp)
  | bool _ => rw [← h]; exact (this ("bool", typ t (.bool true)) (by simp)).trans (by cases t <;> rfl)
  | int _ => rw [← h]; exact (this ("int", typ t (.int 0)) (by simp)).trans (by cases t <;> rfl)
  | str _ => rw [← h]; exact (this ("str", typ t (.str ⟨#[]⟩)) (by simp)).trans (by cases t <;> rfl)
  | list _ => rw [← h]; exact (this ("list", typ t (.list [])) (by simp)).trans (by cases t <;> rfl)
  | tuple _ => rw [← h]; exact (this ("tuple", typ t (.tuple [])) (by simp)).trans (by cases t <;> rfl)
  | dict _ => cases t <;> cases h
theorem tyX_of {w : Dr} {O : Addr → Bool} {H : Hp} {v : V} {d : D} {t : Ty} {b : Bool} (h : Bp w O H v d) (ht : typ t d = some b) : TyX X.K H v (.type (tyD d)) := by
  cases d with
  | none => obtain rfl := h.none; exact .base .non
  | bool b => obtain rfl := h.bool; exact .base (.bl b)
  | int i => obtain rfl := h.int; exact .base (.int i)
  | str s => obtain ⟨rfl, _⟩ := h.str; exact .base (.str s)
  | list l => obtain ⟨a, xs, rfl, h1, _⟩ := h.list; exact .base (.lst h1)
  | tuple l => obtain ⟨a, xs, rfl, h1, _⟩ := h.tuple; exact .base (.tup h1)
  | dict _ => cases t <;> cases ht
theorem s_isi {e : Expr} {A : TK.E} {t : Ty} {x : Str} {p p2 pos : Pos} (hg : Gl X "isinstance") (hm : X.mg "isinstance" = none) (hg2 : Gl X x) (hm2 : X.mg x = none) (hv : bootBuiltins x = some (.type (tyN t))) (hn : x ≠ "__name__") (hdb : (x == ("__debug__" : Str)) = false)
    (ha : PE X e (rdB X.K X.mg E Γ A)) (hs : notStar e = true) : PE X (.Call (.Name "isinstance" p) [e, .Name x p2] [] pos) (rd X.K X.mg E Γ (.op1 (.isi t) A)) := by
  refine (pe_callB call_isi hg hm (by decide +kernel) (pa_cons ha (pa_cons (pe_bltn (v := .ty (tyN t)) hg2 hm2 hv rfl hn hdb) pa_nil rfl) (star_ok hs)) (by decide) (by decide) (star_ok hs) rfl).weak fun σ H Q q => ?_
  obtain ⟨w, O0, H0, O, env, st, rr, st', R, q, oo⟩ := q
  refine rdB_bind R (f := fun x => liftO (app1 (.isi t) x)) q oo fun d st1 v H1 R1 p1 q1 h1 o1 => ?_
  obtain ⟨y, h3, rfl, rfl⟩ := liftO_inv h1
  simp only [app1, Option.map_eq_some_iff] at h3
  obtain ⟨b, h4, rfl⟩ := h3
  exact ⟨v, .ty (tyN t), _, _, b, rfl, .ty _, tyX_of q1 h4, kit_ty (kit_of_typ h4), o1 H1 R1.here _ (.bl _)⟩
end
/-! ### defs -/
/-- the promise of a def that does what F tells -/
def spOf (K : PySem.W.Frag) (mg : Str → Option Value) (F : FnSem) : Sp := fun vs H Q E => ∃ (w : Dr) (O : Addr → Bool) (st : DSt) (ds : List D) (r : Except Str D) (st' : DSt),
  (∀ a, O a = true → H a ≠ none) ∧ O w.ps = true ∧ H w.ps = some (.lst (st.map V.int)) ∧ SqL K (hid H O) w.sa (w.ns.map V.int) ∧ RpAll w (hid H O) vs ds ∧ F ds st = some (r, st') ∧ Out mg E O w.ps H r st' fun d H' => ∀ v, Rp w (hid H' O) v d → Q v H'
/-- the def named nm stands and does what F tells -/
def FnGood (P : Program) (w : World) (K : PySem.W.Frag) (mg : Str → Option Value) (base : Heap) (k : Nat) (nm : Str) (F : FnSem) : Prop :=
  ∃ (f : Addr) (fd : FuncData) (ps : List Str), FnOk P w K mg base (L2.CX P w) k f fd ps (spOf K mg F) ∧ mg nm = some (.ref f) ∧ PySem.W.keepIn K (.ref f) = true ∧ Binds K fd ps []
theorem FnGood.mono {P : Program} {w : World} {K : PySem.W.Frag} {mg : Str → Option Value} {base : Heap} {j k : Nat} {nm : Str} {F : FnSem} (h : FnGood P w K mg base j nm F) (hk : j ≤ k) : FnGood P w K mg base k nm F := by
  obtain ⟨f, fd, ps, h1, h2, h3, h4⟩ := h
  exact ⟨f, fd, ps, h1.mono hk, h2, h3, h4⟩
theorem FnGood.imp {P : Program} {w : World} {K : PySem.W.Frag} {mg : Str → Option Value} {base : Heap} {k : Nat} {nm : Str} {F F' : FnSem} (h : FnGood P w K mg base k nm F) (hF : ∀ ds st r, F' ds st = some r → F ds st = some r) : FnGood P w K mg base k nm F' := by
  obtain ⟨f, fd, ps, h1, h2, h3, h4⟩ := h
  refine ⟨f, fd, ps, h1.imp fun vs H Q E q => ?_, h2, h3, h4⟩
  obtain ⟨w, O, st, ds, r, st', q1, q2, q3, q4, q5, q6, q7⟩ := q
  exact ⟨w, O, st, ds, r, st', q1, q2, q3, q4, q5, hF _ _ _ q6, q7⟩
section
variable {X : Cx} {E : XK} {Γ : List FnSem} {k : Nat}
theorem s_call {nm : Str} {j : Nat} {F : FnSem} {e : Expr} {es : List Expr} {As : List TK.E} {p pos : Pos} (G : FnGood X.prog X.w X.K X.mg X.base k nm F) (hj : Γ[j]? = some F) (hr : Room k X.A) (hx : Passes (L2.CX X.prog X.w) X E) (hg : Gl X nm) (ha : PA X (e :: es) (rdA X.K X.mg E Γ As))
    (hs : notStar e = true) (hss : es.all notStar = true) (hdb : (nm == ("__debug__" : Str)) = false) : PE X (.Call (.Name nm p) (e :: es) [] pos) (rd X.K X.mg E Γ (.call j As)) := by
  obtain ⟨f, fd, ps, h1, h2, h3, h4⟩ := G
  refine (pe_call h1 hr hg h2 h3 h4 .nil hx ha hdb (star_ok hs) (star_any hss)).weak fun σ H Q q => ?_
  obtain ⟨w, O0, H0, O, env, st, rr, st', R, q, oo⟩ := q
  have hF : Γ.getD j (fun _ => fail) = F := by rw [List.getD_eq_getElem?_getD, hj]; rfl
  have q : (evs Γ env As >>= fun ds => (Γ.getD j (fun _ => fail)) ds) st = some (rr, st') := q
  rw [hF] at q
  refine rdA_bind R q oo fun ds st1 vs H1 R1 p1 q1 g1 o1 => ?_
  rw [List.append_nil]
  exact ⟨w, O, st1, ds, rr, st', R1.alc, R1.sub _ R1.ops, R1.sts, R1.scr, q1, g1, o1⟩
theorem s_call0 {nm : Str} {j : Nat} {F : FnSem} {p pos : Pos} (G : FnGood X.prog X.w X.K X.mg X.base k nm F) (hj : Γ[j]? = some F) (hr : Room k X.A) (hx : Passes (L2.CX X.prog X.w) X E) (hg : Gl X nm) (hdb : (nm == ("__debug__" : Str)) = false) : PE X (.Call (.Name nm p) [] [] pos) (rd X.K X.mg E Γ (.call j [])) := by
  obtain ⟨f, fd, ps, h1, h2, h3, h4⟩ := G
  refine (pe_call0 h1 hr hg h2 h3 h4 .nil hx hdb).weak fun σ H Q q => ?_
  obtain ⟨w, O0, H0, O, env, st, rr, st', R, q, oo⟩ := q
  have hF : Γ.getD j (fun _ => fail) = F := by rw [List.getD_eq_getElem?_getD, hj]; rfl
  have q : (Γ.getD j (fun _ => fail)) [] st = some (rr, st') := q
  rw [hF] at q
  exact ⟨w, O, st, [], rr, st', R.alc, R.sub _ R.ops, R.sts, R.scr, .nil, q, oo⟩
end
end TK

/-! the reflected layer: sets of texts in the layer; sorted, max, min, sum of data -/
namespace TK
open PySem PySem.Spec PyProof.Rows L2
theorem mem_nub {x : Str} : ∀ {l : List Str}, x ∈ nub l ↔ x ∈ l
  | [] => Iff.rfl
  | y :: l => by
    simp only [nub, List.mem_cons, List.mem_filter, mem_nub (l := l), decide_eq_true_eq]
    by_cases e : x = y
    · simp [e]
    · simp [e]
theorem nodup_nub : ∀ l : List Str, (nub l).Nodup
  | [] => List.nodup_nil
  | y :: l => by
    refine List.nodup_cons.mpr ⟨fun h => ?_, (nodup_nub l).filter _⟩
    simp at h
theorem nodup_len {l m : List Str} (h1 : l.Nodup) (h2 : m.Nodup) (e : ∀ x, x ∈ l ↔ x ∈ m) : l.length = m.length :=
  Nat.le_antisymm (nodup_sub_length h1 fun x hx => (e x).1 hx) (nodup_sub_length h2 fun x hx => (e x).2 hx)
theorem perm_of_nodup {l m : List Str} (h1 : l.Nodup) (h2 : m.Nodup) (e : ∀ x, x ∈ l ↔ x ∈ m) : l.Perm m := (List.perm_ext_iff_of_nodup h1 h2).mpr e
theorem str_ext {a b : Str} (h : a.cps.toList = b.cps.toList) : a = b := PySem.W.str_of_cps h
theorem strLE_trans (a b c : Str) (h1 : strLE a b = true) (h2 : strLE b c = true) : strLE a c = true := by
  simp only [strLE, decide_eq_true_eq] at *
  exact Std.le_trans h1 h2
theorem strLE_total (a b : Str) : (strLE a b || strLE b a) = true := by
  simp only [strLE, Bool.or_eq_true, decide_eq_true_eq]
  exact Std.le_total
theorem strLE_anti {a b : Str} (h1 : strLE a b = true) (h2 : strLE b a = true) : a = b := by
  simp only [strLE, decide_eq_true_eq] at *
  exact str_ext (Std.le_antisymm h1 h2)
theorem sortS_sorted (l : List Str) : (sortS l).Pairwise fun a b => strLE a b = true := List.pairwise_mergeSort strLE_trans strLE_total l
theorem sortS_perm (l : List Str) : (sortS l).Perm l := List.mergeSort_perm l strLE
theorem sortS_unique {l m : List Str} (h : m.Pairwise fun a b => strLE a b = true) (p : m.Perm l) : m = sortS l :=
  List.Perm.eq_of_pairwise (fun a b _ _ h1 h2 => strLE_anti h1 h2) h (sortS_sorted l) (p.trans (sortS_perm l).symm)
theorem sortS_congr {l m : List Str} (p : l.Perm m) : sortS l = sortS m := sortS_unique (sortS_sorted l) ((sortS_perm l).trans p)
/-- a set of texts, tracked -/
def TSO (wo : World) (a : Addr) (L : List Str) : HO := .ext fun h => TSet wo h a L
theorem tso_ok {P : Program} {wo : World} {H : Hp} {h : Heap} {a : Addr} {L : List Str} (T : TSet wo h a L) : ObjOk P wo H h a (TSO wo a L) :=
  ⟨T, let ⟨ob, _, _, _, e, _⟩ := T; ⟨ob, e⟩, fun _ _ T k => T.at k⟩
theorem scanB : scanBound = 4096 := rfl
section
variable {X : Cx} {E : XK} {Γ : List FnSem} {k : Nat}
theorem strs_at {ss : List Str} {us : List Value} (r : Vals (ss.map V.str) us) : ∀ (i : Nat) v, us.toArray[i]? = some v → ∃ x tk, ss[i]? = some x ∧ v = .str x tk := by
  intro i v hv
  have hv : us[i]? = some v := by simpa using hv
  have hl := r.length
  rw [List.length_map] at hl
  have hi : i < ss.length := by
    have := (List.getElem?_eq_some_iff.mp hv).1
    omega
  obtain ⟨u, e1, tk, e2⟩ := r.get (i := i) (x := .str ss[i]) (by rw [List.getElem?_map, List.getElem?_eq_getElem hi]; rfl)
  rw [hv] at e1
  cases e1
  exact ⟨ss[i], tk, List.getElem?_eq_getElem hi, e2⟩
theorem call_set (hc : X.calm = true) : CallR X (.type "set") (fun vs H Q => ∃ (a : Addr) (ss : List Str), vs = [.ref a] ∧ (H a = some (.lst (ss.map V.str)) ∨ H a = some (.tup (ss.map V.str))) ∧ ss.length < 4000 ∧ ∀ p, H p = none → Q (.ref p) (upd H p (TSO X.w p ss))) := by
  intro pins s σ H vs us Q I r h
  obtain ⟨a, ss, rfl, ha, hz, q⟩ := h
  rw [Vals.ref1 r]
  have fin : ∀ (g : Heap) (tk : Nat), TSet X.w g s.heap.objs.size ss → (∀ b ob, b < s.heap.objs.size → s.heap.get? b = some ob → g.get? b = some ob) → EP X pins σ Q (.ref s.heap.objs.size) { s with heap := g, toks := tk } := fun g tk T kp =>
    ⟨.ref s.heap.objs.size, _, I.laid (t' := tk) (fun b u e => kp b u (Heap.lt_size e) e) (Nat.le_refl _) (tso_ok T), rfl, q _ (I.hok.fresh (Nat.le_refl _))⟩
  rcases ha with ha | ha
  · obtain ⟨its, rv, pl, _⟩ := I.list (SqL.of ha)
    have hl := rv.length
    rw [List.length_map] at hl
    exact set_of_list (I.ok.hd hc) pl.isList (strs_at rv) (by rw [List.size_toArray]; exact hl) (by rw [List.size_toArray, scanB]; omega) fin
  · obtain ⟨its, rv, pl, _⟩ := I.tuple (SqT.of ha)
    have hl := rv.length
    rw [List.length_map] at hl
    exact set_of_tuple (I.ok.hd hc) pl (strs_at rv) (by rw [List.size_toArray]; exact hl) (by rw [List.size_toArray, scanB]; omega) fin
theorem len_set : CallR X (.builtin "len") (fun vs H Q => ∃ (a : Addr) (ss : List Str), vs = [.ref a] ∧ H a = some (TSO X.w a ss) ∧ Q (.int (nub ss).length) H) := by
  intro pins s σ H vs us Q I r h
  obtain ⟨a, ss, rfl, ha, q⟩ := h
  rw [Vals.ref1 r]
  obtain ⟨ob, en, p, tb, ho, hx, hd, g, nd, hm, hb, hf, hr, hl⟩ := (I.hok a _ ha).1
  have e : (en.size : Int) = (nub ss).length := by
    have := nodup_len nd (nodup_nub ss) fun x => by rw [mem_nub]; exact (hm x).symm
    rw [List.length_map, Array.length_toList] at this
    omega
  refine call_len_set ho hx hd hf (by rw [scanB] at hb; omega) ⟨.int (nub ss).length, H, I.tok _, ⟨s.toks + 1, by rw [e]⟩, q⟩
theorem strs_V {w : Dr} {G : Hp} : ∀ {xs : List V} {ds : List D} {ss : List Str}, RpAll w G xs ds → strsOf ds = some ss → xs = ss.map V.str ∧ (∀ x ∈ ss, PyData.strOk x = true)
  | _, _, _, .nil, h => by cases h; exact ⟨rfl, fun _ h => nomatch h⟩
  | _, _, _, .cons (d := d) a b, h => by
    cases a with
    | str c hc =>
      simp only [strsOf, Option.map_eq_some_iff] at h
      obtain ⟨r, h1, rfl⟩ := h
      obtain ⟨e1, e2⟩ := strs_V b h1
      refine ⟨by rw [e1]; rfl, fun x hx => ?_⟩
      rcases List.mem_cons.mp hx with rfl | hx
      · exact hc
      · exact e2 x hx
    | _ => cases h
theorem strs_seq {w : Dr} {O : Addr → Bool} {H : Hp} {v : V} {d : D} {l : List D} {ss : List Str} (h : Bp w O H v d) (e : seqOf d = some l) (e2 : strsOf l = some ss) : ∃ a, v = .ref a ∧ (H a = some (.lst (ss.map V.str)) ∨ H a = some (.tup (ss.map V.str))) ∧ ∀ x ∈ ss, PyData.strOk x = true := by
  cases d with
  | list ds =>
    cases e
    obtain ⟨a, xs, rfl, h1, r1⟩ := h.list
    obtain ⟨rfl, ok⟩ := strs_V r1 e2
    exact ⟨a, rfl, .inl h1, ok⟩
  | tuple ds =>
    cases e
    obtain ⟨a, xs, rfl, h1, r1⟩ := h.tuple
    obtain ⟨rfl, ok⟩ := strs_V r1 e2
    exact ⟨a, rfl, .inr h1, ok⟩
  | _ => cases e
/-- len(set(e)) -/
theorem s_setLen {e : Expr} {A : TK.E} {p1 p2 p3 p4 : Pos} (hc : X.calm = true) (hg : Gl X "len") (hm : X.mg "len" = none) (hg2 : Gl X "set") (hm2 : X.mg "set" = none) (ha : PE X e (rdB X.K X.mg E Γ A)) (hs : notStar e = true) :
    PE X (.Call (.Name "len" p1) [.Call (.Name "set" p2) [e] [] p3] [] p4) (rd X.K X.mg E Γ (.op1 .setLen A)) := by
  refine (pe_callB len_set hg hm PySem.boot_len (pa_cons (pe_callTy (call_set hc) hg2 hm2 (by decide +kernel) (s_arg1 ha hs) (by decide) (by decide) (star_ok hs) rfl) pa_nil rfl) (by decide) (by decide) rfl rfl).weak fun σ H Q q => ?_
  obtain ⟨w, O0, H0, O, env, st, rr, st', R, q, oo⟩ := q
  refine rdB_bind R (f := fun x => liftO (app1 .setLen x)) q oo fun d st1 v H1 R1 p1 q1 h1 o1 => ?_
  obtain ⟨y, h3, rfl, rfl⟩ := liftO_inv h1
  simp only [app1, Option.bind_eq_some_iff] at h3
  obtain ⟨l, h4, ss, h5, h6⟩ := h3
  split at h6
  · cases h6
    obtain ⟨a, rfl, ha, _⟩ := strs_seq q1 h4 h5
    exact ⟨a, ss, rfl, ha, by assumption, fun p hp => ⟨p, ss, rfl, upd_same, o1 _ (R1.post_new hp) _ (.int _)⟩⟩
  · cases h6
end
end TK

/-! the reflected layer: sorted, max, min, sum of data; sorted(set(..)) of texts -/
namespace TK
open PySem PySem.Spec PyProof.Rows L2
section
variable {w : Dr} {G : Hp}
theorem RpAll.zip : ∀ {xs : List V} {ds : List D}, RpAll w G xs ds → ∃ ps : List (D × V), xs = ps.map (·.2) ∧ ds = ps.map (·.1) ∧ ∀ p ∈ ps, Rp w G p.2 p.1
  | _, _, .nil => ⟨[], rfl, rfl, fun _ h => nomatch h⟩
  | _, _, .cons (v := v) (d := d) a b => by
    obtain ⟨ps, e1, e2, h⟩ := RpAll.zip b
    refine ⟨(d, v) :: ps, by rw [e1]; rfl, by rw [e2]; rfl, fun p hp => ?_⟩
    rcases List.mem_cons.mp hp with rfl | hp
    · exact a
    · exact h p hp
theorem RpAll.unzip : ∀ {ps : List (D × V)}, (∀ p ∈ ps, Rp w G p.2 p.1) → RpAll w G (ps.map (·.2)) (ps.map (·.1))
  | [], _ => .nil
  | p :: ps, h => .cons (h p List.mem_cons_self) (RpAll.unzip fun q hq => h q (List.mem_cons_of_mem _ hq))
end
section
variable {X : Cx} {E : XK} {Γ : List FnSem} {k : Nat}
theorem each_V : ∀ {ps : List (D × V)} {us : List Value}, Vals (ps.map (·.2)) us → PySem.W.EachIs (fun u (p : D × V) => RelV p.2 u) us ps
  | [], _, .nil => .nil
  | p :: ps, _, .cons r t => .cons r (each_V t)
theorem V_each : ∀ {ps : List (D × V)} {us : List Value}, PySem.W.EachIs (fun u (p : D × V) => RelV p.2 u) us ps → Vals (ps.map (·.2)) us
  | [], _, .nil => .nil
  | p :: ps, _, .cons r t => .cons r (V_each t)
theorem each_reads {h : Heap} : ∀ {ps : List (D × V)} {us : List Value} {as : List Addr}, ReadsAll h us (ps.map (·.1)) as → PySem.W.EachIs (fun u (p : D × V) => ∃ as, Reads h u p.1 as) us ps
  | [], _, _, .nil => .nil
  | p :: ps, _, _, .cons a b => .cons ⟨_, a⟩ (each_reads b)
theorem sortOk_inv {l : List D} (h : sortOk l = true) : PySem.W.AllAlike l ∧ PySem.W.Sortable l ∧ ∀ d ∈ l, dep 30 d = true := by
  unfold sortOk at h
  simp only [Bool.and_eq_true, Bool.or_eq_true, List.all_eq_true] at h
  obtain ⟨⟨h1, h2⟩, h3⟩ := h
  refine ⟨fun d hd e he => h1 d hd e he, ?_, h3⟩
  rcases h2 with h2 | h2
  · refine .inl fun d hd => ?_
    have := h2 d hd
    cases d with
    | tuple l =>
      cases l with
      | nil => cases this
      | cons x r => exact ⟨x, r, rfl⟩
    | _ => cases this
  · refine .inr fun d hd => ?_
    have := h2 d hd
    refine ⟨fun e => ?_, fun xs e => ?_⟩ <;> (subst e; cases this)
/-- sorted of a list of data -/
theorem call_sortL (hr : Room k X.A) : CallR X (.builtin "sorted") (fun vs H Q => ∃ (a : Addr) (ps : List (D × V)), vs = [.ref a] ∧ H a = some (.lst (ps.map (·.2))) ∧ DpAll X.K H (ps.map (·.2)) (ps.map (·.1)) ∧ sortOk (ps.map (·.1)) = true ∧
    ∀ p, H p = none → Q (.ref p) (upd H p (.lst ((ps.mergeSort (PySem.W.dataLe false (·.1))).map (·.2))))) := by
  intro pins s σ H vs us Q I r h
  obtain ⟨a, ps, rfl, ha, hd, hk, q⟩ := h
  obtain ⟨h1, h2, h3⟩ := sortOk_inv hk
  obtain ⟨its, rv, pl, hz⟩ := I.list (SqL.of ha)
  rw [Vals.ref1 r]
  obtain ⟨as, hR⟩ := Dp.readsAll I _ _ its hd rv
  have hz2 : ps.length ≤ sizeLine := by rw [List.length_map] at hz; exact hz
  refine PySem.W.sorted_data (R := fun u (p : D × V) => RelV p.2 u) (enc := (·.1)) (bs := ps) pl.isList (each_V rv) (each_reads hR) h1 h2 hz2 (fun p hp => ?_) fun out ho er => ?_
  · have := dep_depth (h3 p.1 (List.mem_map_of_mem hp))
    have := hr.un
    omega
  · obtain ⟨ep, he'⟩ := PyProof.Rows.sortedAll_at s.heap its out.toArray
    refine ⟨.ref _, _, I.laid (t' := s.toks) (fun _ _ => PyProof.Rows.sortedAll_old) (Nat.le_succ _) (o := .lst ((ps.mergeSort (PySem.W.dataLe false (·.1))).map (·.2))) ⟨?_, out, ep, V_each er, he'⟩, rfl, q _ (I.hok.fresh (Nat.le_succ _))⟩
    rw [List.length_map, List.length_mergeSort]
    exact hz2
theorem sort_fst (ps : List (D × V)) : (ps.mergeSort (PySem.W.dataLe false (·.1))).map (·.1) = (ps.map (·.1)).mergeSort (PySem.W.dataLe false id) := PySem.W.sort_maps _ fun _ _ _ _ => rfl
theorem sorted_rp {w : Dr} {G : Hp} {ps : List (D × V)} (h : ∀ p ∈ ps, Rp w G p.2 p.1) : RpAll w G ((ps.mergeSort (PySem.W.dataLe false (·.1))).map (·.2)) ((ps.map (·.1)).mergeSort (PySem.W.dataLe false id)) := by
  rw [← sort_fst]
  exact RpAll.unzip fun p hp => h p (by simpa using hp)
theorem txt_vals : ∀ {l : List Str} {o : List Value}, PySem.W.EachIs (fun v x => ∃ tk, v = Value.str x tk) o l → Vals (l.map V.str) o
  | [], _, .nil => .nil
  | x :: l, _, .cons h t => .cons h (txt_vals t)
theorem rp_strs {w : Dr} {G : Hp} : ∀ {l : List Str}, (∀ x ∈ l, PyData.strOk x = true) → RpAll w G (l.map V.str) (l.map PyData.str)
  | [], _ => .nil
  | x :: l, h => .cons (.str x (h x List.mem_cons_self)) (rp_strs fun y hy => h y (List.mem_cons_of_mem _ hy))
/-- sorted of a set of texts -/
theorem sort_set (hc : X.calm = true) (hr : Room k X.A) : CallR X (.builtin "sorted") (fun vs H Q => ∃ (a : Addr) (ss : List Str), vs = [.ref a] ∧ H a = some (TSO X.w a ss) ∧ ss.length < 4000 ∧ ∀ p, H p = none → Q (.ref p) (upd H p (.lst ((sortS (nub ss)).map V.str)))) := by
  intro pins s σ H vs us Q I r h
  obtain ⟨a, ss, rfl, ha, hz, q⟩ := h
  rw [Vals.ref1 r]
  obtain ⟨ob, en, p, tb, ho, hx, hd, g, nd, hm, hb, hf, hri, hl⟩ := (I.hok a _ ha).1
  refine Calls.call_function_entry kind_sorted plain_sorted entry_sorted (args_sorted1 _) ?_
  unfold Builtin.«sorted»
  refine wpAny_bind (m := checkCount "sorted" 1 1 _) (wpAny_pure ?_)
  refine wpAny_bind (collect_set (A := X.A.in1) (I.ok.hd hc) ⟨ob, ho, hx.1, hd⟩ hf hb hri hl fun z out kp sz g1 o1 pm => ?_)
  have txt : ∀ v ∈ out, ∃ x tk, v = Value.str x tk := fun v hv => by
    obtain ⟨e, he, y⟩ := List.mem_map.mp (pm.mem_iff.mp hv)
    obtain ⟨x, tk, e1, _⟩ := g e he
    exact ⟨x, tk, by rw [← y]; exact e1⟩
  have ln : out.length < 4096 := by rw [pm.length_eq, List.length_map, Array.length_toList]; exact hb
  refine wpAny_bind (wpAny_newList ?_ (by rw [sizeLine_eq]; omega))
  let tx : Value → Str := fun v => match v with | .str x _ => x | _ => Str.empty
  have at1 : (z.heap.push (seqObj "list" out.toArray 0)).get? z.heap.objs.size = some (seqObj "list" out.toArray 0) := Heap.get?_push_size _ rfl
  have ea : ∀ l : List Value, (∀ v ∈ l, ∃ x tk, v = Value.str x tk) → PySem.W.EachIs (fun v x => ∃ tk, v = Value.str x tk) l (l.map tx) := by
    intro l
    induction l with
    | nil => intro _; exact .nil
    | cons v l ih =>
      intro h
      obtain ⟨x, tk, rfl⟩ := h v List.mem_cons_self
      exact .cons ⟨tk, rfl⟩ (ih fun u hu => h u (List.mem_cons_of_mem _ hu))
  have e1 := ea out txt
  have hu := hr.un
  have call : ∀ (Q' : Value → Shared → Prop) (E' : Value → Shared → Prop), (∀ o, PySem.W.EachIs (fun v x => ∃ tk, v = Value.str x tk) o ((out.map tx).mergeSort (PySem.W.dataLe false PyData.str)) → Q' .none { z with heap := sortedHeap (z.heap.push (seqObj "list" out.toArray 0)) z.heap.objs.size out o.toArray }) →
      wpAny (model X.prog X.w) X.A.in1 (call (.builtin "list.sort") [.ref z.heap.objs.size]) Q' E' { z with heap := z.heap.push (seqObj "list" out.toArray 0) } := fun Q' E' fin => by
    refine PySem.W.list_sort_data (R := fun v x => ∃ tk, v = Value.str x tk) (enc := PyData.str) (bs := out.map tx) (s := { z with heap := z.heap.push (seqObj "list" out.toArray 0) }) at1 e1 (e1.mono fun v x ⟨tk, e⟩ => ⟨[], by rw [e]; exact Reads.str x tk, by simp⟩) ?_ ?_ (by rw [List.length_map, sizeLine_eq]; omega) (fun b _ => ?_) fun o _ eo => fin o eo
    · exact PySem.W.AllAlike.of fun b b' => by simp [PySem.W.alike]
    · exact PySem.W.Sortable.others fun b => ⟨fun z => (nomatch z), fun _ z => (nomatch z)⟩
    · show X.A.units + 1 + 1 + _ < cLine
      simp only [PyData.depth]
      omega
  refine wpAny_bind (wpAny_holding (call _ _ fun o eo => ?_))
  obtain ⟨c, hcc⟩ := sortedHeap_at (vs := out) (out := o.toArray) at1
  have pn : (out.map tx).Perm (nub ss) := by
    have y : (out.map tx).Perm (en.toList.map txtOf) := by
      have := pm.map tx
      rw [List.map_map] at this
      exact this
    exact y.trans (perm_of_nodup nd (nodup_nub ss) fun x => by rw [mem_nub]; exact (hm x).symm)
  have so : (out.map tx).mergeSort (PySem.W.dataLe false PyData.str) = sortS (nub ss) := by
    have : PySem.W.dataLe false PyData.str = strLE := PySem.W.dataLe_str (fun x : Str => x)
    rw [this]
    exact sortS_congr pn
  rw [so] at eo
  have vl : Vals ((sortS (nub ss)).map V.str) o := txt_vals eo
  refine wpAny_pure ⟨_, rfl, ?_⟩
  have ol : ∀ b u, s.heap.get? b = some u → (sortedHeap (z.heap.push (seqObj "list" out.toArray 0)) z.heap.objs.size out o.toArray).get? b = some u := fun b u e => by
    have y := kp b u e
    have lt := Heap.lt_size y
    rw [sortedHeap_old (Nat.ne_of_lt lt) (by rw [size_push']; exact Nat.lt_succ_of_lt lt)]
    exact Heap.get?_push_of_some _ y
  have nn : H z.heap.objs.size = none := I.hok.fresh sz
  have ll : ((sortS (nub ss)).map V.str).length ≤ sizeLine := by
    rw [vl.length, eo.length, (sortS_perm (nub ss)).length_eq, ← pn.length_eq, List.length_map, sizeLine_eq]
    omega
  have J := I.call (ch := []) (g' := z.gens) (d' := z.drawn) (t' := z.toks) (Un.laid (o := .lst ((sortS (nub ss)).map V.str)) ol sz nn) (I.hok.laid ol sz ⟨ll, o, c, vl, hcc⟩) (by rw [g1]; exact I.bare) (fun _ y => nomatch y)
  have es : ({ z with heap := sortedHeap (z.heap.push (seqObj "list" out.toArray 0)) z.heap.objs.size out o.toArray } : Shared) = { s with heap := sortedHeap (z.heap.push (seqObj "list" out.toArray 0)) z.heap.objs.size out o.toArray, gens := z.gens, drawn := z.drawn, toks := z.toks } := by
    rw [← o1]
  rw [es]
  exact ⟨.ref z.heap.objs.size, _, J, rfl, q _ nn⟩
theorem s_setSorted {e : Expr} {A : TK.E} {p1 p2 p3 p4 : Pos} (hc : X.calm = true) (hr : Room k X.A) (hg : Gl X "sorted") (hm : X.mg "sorted" = none) (hg2 : Gl X "set") (hm2 : X.mg "set" = none) (ha : PE X e (rdB X.K X.mg E Γ A)) (hs : notStar e = true) :
    PE X (.Call (.Name "sorted" p1) [.Call (.Name "set" p2) [e] [] p3] [] p4) (rd X.K X.mg E Γ (.op1 .setSorted A)) := by
  refine (pe_callB (sort_set hc hr) hg hm (by decide +kernel) (pa_cons (pe_callTy (call_set hc) hg2 hm2 (by decide +kernel) (s_arg1 ha hs) (by decide) (by decide) (star_ok hs) rfl) pa_nil rfl) (by decide) (by decide) rfl rfl).weak fun σ H Q q => ?_
  obtain ⟨w, O0, H0, O, env, st, rr, st', R, q, oo⟩ := q
  refine rdB_bind R (f := fun x => liftO (app1 .setSorted x)) q oo fun d st1 v H1 R1 p1 q1 h1 o1 => ?_
  obtain ⟨y, h3, rfl, rfl⟩ := liftO_inv h1
  simp only [app1, Option.bind_eq_some_iff] at h3
  obtain ⟨l, h4, ss, h5, h6⟩ := h3
  split at h6
  · rename_i hz
    cases h6
    obtain ⟨a, rfl, ha, ok⟩ := strs_seq q1 h4 h5
    refine ⟨a, ss, rfl, ha, hz, fun p hp => ⟨p, ss, rfl, upd_same, hz, fun p2 hp2 => ?_⟩⟩
    have P1 := R1.post_new (o := TSO X.w p ss) hp
    have R2 := R1.post P1
    have P2 := R2.post_new (o := .lst ((sortS (nub ss)).map V.str)) hp2
    refine o1 _ (P1.trans P2) _ (rp_newL R2 hp2 (rp_strs fun x hx => ok x ?_))
    exact mem_nub.mp ((sortS_perm (nub ss)).mem_iff.mp hx)
  · cases h6
/-! ### max, min, sum -/
theorem bestOk_inv {l : List D} (h : bestOk l = true) : PySem.W.AlikeAll l ∧ ∀ d ∈ l, dep 30 d = true := by
  unfold bestOk at h
  simp only [Bool.and_eq_true, List.all_eq_true] at h
  obtain ⟨⟨h1, h2⟩, h3⟩ := h
  exact ⟨⟨fun d hd e he => h1 d hd e he, fun d hd e => by rw [e] at hd; cases h2 _ hd⟩, h3⟩
theorem depthAll30 {l : List D} (h : ∀ d ∈ l, dep 30 d = true) : PyData.depthAll l ≤ 30 := depthAll_le fun d hd => dep_depth (h d hd)
def rBest (K : PySem.W.Frag) (f : D → List D → D) : List V → Hp → VK → Prop := fun vs H Q => ∃ (a : Addr) (xs : List V) (d : D) (ds : List D), vs = [.ref a] ∧ H a = some (.lst xs) ∧ DpAll K H xs (d :: ds) ∧ bestOk (d :: ds) = true ∧
  ∀ (i : Nat) (v : V), xs[i]? = some v → (d :: ds)[i]? = some (f d ds) → Q v H
theorem best_at {pins : List (Addr × Obj)} {σ : L2.St} {H : Hp} {s : Shared} (I : L2.Inv X pins σ H s) {xs : List V} {its : List Value} {l : List D} {as bs : List Addr} (rv : Vals xs its) (hR : ReadsAll s.heap its l as) (hk : bestOk l = true) {i : Nat} {v : Value} {m : D} {h' : Heap} (hv : its.toArray[i]? = some v) (hm : Reads h' v m bs) (hml : m ∈ l)
    (kp : ∀ b o, s.heap.get? b = some o → h'.get? b = some o) : ∃ x, xs[i]? = some x ∧ RelV x v ∧ l[i]? = some m := by
  have hv : its[i]? = some v := by simpa using hv
  obtain ⟨bs', r1, lt, _, _⟩ := PySem.W.readsAll_at hR i v hv
  have hl := rv.length
  have hi := (List.getElem?_eq_some_iff.mp hv).1
  have hx : i < xs.length := by omega
  obtain ⟨u, e1, r2⟩ := rv.get (List.getElem?_eq_getElem hx)
  rw [hv] at e1
  cases e1
  refine ⟨xs[i], List.getElem?_eq_getElem hx, r2, ?_⟩
  have gd : l.getD i .none ∈ l := by
    rw [List.getD_eq_getElem?_getD, List.getElem?_eq_getElem lt]
    exact List.getElem_mem lt
  have al := (bestOk_inv hk).1.1 _ gd _ hml
  have := PySem.W.alike_unique _ _ v _ _ al (PySem.W.reads_keeps kp r1) hm
  rw [← this, List.getD_eq_getElem?_getD, List.getElem?_eq_getElem lt]
  rfl
theorem foldl_mem {f : D → D → Bool} : ∀ (l : List D) (x : D), l.foldl (fun a y => if f y a then y else a) x ∈ x :: l
  | [], x => List.mem_cons_self
  | y :: l, x => by
    rw [List.foldl_cons]
    have := foldl_mem (f := f) l (if f y x then y else x)
    rcases List.mem_cons.mp this with e | e
    · rw [e]
      split <;> simp
    · exact List.mem_cons_of_mem _ (List.mem_cons_of_mem _ e)
theorem call_min (hc : X.calm = true) (hr : Room k X.A) : CallR X (.builtin "min") (rBest X.K PySem.W.minD) := by
  intro pins s σ H vs us Q I r h
  obtain ⟨a, xs, d, ds, rfl, ha, hd, hk, q⟩ := h
  obtain ⟨its, rv, pl, _⟩ := I.list (SqL.of ha)
  rw [Vals.ref1 r]
  obtain ⟨as, hR⟩ := Dp.readsAll I _ _ its hd rv
  have hu := hr.un
  have h30 := depthAll30 (bestOk_inv hk).2
  refine PySem.W.min_list_data (I.ok.hd hc) pl.isList (by simpa using hR) (bestOk_inv hk).1 (by omega) fun i v h' tk bs hv hm kp => ?_
  obtain ⟨x, e1, e2, e3⟩ := best_at I rv hR hk hv hm (foldl_mem ds d) kp
  exact ⟨x, H, I.kept kp, e2, q i x e1 e3⟩
theorem call_max (hc : X.calm = true) (hr : Room k X.A) : CallR X (.builtin "max") (rBest X.K PySem.W.maxD) := by
  intro pins s σ H vs us Q I r h
  obtain ⟨a, xs, d, ds, rfl, ha, hd, hk, q⟩ := h
  obtain ⟨its, rv, pl, _⟩ := I.list (SqL.of ha)
  rw [Vals.ref1 r]
  obtain ⟨as, hR⟩ := Dp.readsAll I _ _ its hd rv
  have hu := hr.un
  have h30 := depthAll30 (bestOk_inv hk).2
  refine PySem.W.max_list_data (I.ok.hd hc) pl.isList (by simpa using hR) (bestOk_inv hk).1 (by omega) fun i v h' tk bs hv hm kp => ?_
  obtain ⟨x, e1, e2, e3⟩ := best_at I rv hR hk hv hm (foldl_mem (f := fun y a => PySem.W.dataLt a y) ds d) kp
  exact ⟨x, H, I.kept kp, e2, q i x e1 e3⟩
theorem c_min (hc : X.calm = true) (hr : Room k X.A) : CallOk X (.builtin "min") .min := by
  refine ⟨_, call_min hc hr, fun w O0 H0 O σ H env st v d x Q R bv ha q => ?_⟩
  cases d with
  | list l =>
    cases l with
    | nil => cases ha
    | cons y l =>
      simp only [app1] at ha
      split at ha
      · rename_i hk
        cases ha
        obtain ⟨p, xs, rfl, h2, r1⟩ := bv.list
        refine ⟨p, xs, y, l, rfl, h2, r1.dp hid_le (bestOk_inv hk).2, hk, fun i z e1 e2 => ?_⟩
        obtain ⟨y', e3, rp⟩ := r1.get e1
        rw [e2] at e3
        cases e3
        exact q _ H R.here rp
      · cases ha
  | _ => cases ha
theorem c_max (hc : X.calm = true) (hr : Room k X.A) : CallOk X (.builtin "max") .max := by
  refine ⟨_, call_max hc hr, fun w O0 H0 O σ H env st v d x Q R bv ha q => ?_⟩
  cases d with
  | list l =>
    cases l with
    | nil => cases ha
    | cons y l =>
      simp only [app1] at ha
      split at ha
      · rename_i hk
        cases ha
        obtain ⟨p, xs, rfl, h2, r1⟩ := bv.list
        refine ⟨p, xs, y, l, rfl, h2, r1.dp hid_le (bestOk_inv hk).2, hk, fun i z e1 e2 => ?_⟩
        obtain ⟨y', e3, rp⟩ := r1.get e1
        rw [e2] at e3
        cases e3
        exact q _ H R.here rp
      · cases ha
  | _ => cases ha
theorem ints_V {w : Dr} {G : Hp} : ∀ {xs : List V} {ds : List D} {is : List Int}, RpAll w G xs ds → intsOf ds = some is → xs = is.map V.int
  | _, _, _, .nil, h => by cases h; rfl
  | _, _, _, .cons (d := d) a b, h => by
    cases a with
    | int c =>
      simp only [intsOf, Option.map_eq_some_iff] at h
      obtain ⟨r, h1, rfl⟩ := h
      rw [ints_V b h1]
      rfl
    | _ => cases h
theorem c_sum (hc : X.calm = true) : CallOk X (.builtin "sum") .sum := by
  refine ⟨_, cr_sum hc, fun w O0 H0 O σ H env st v d x Q R bv ha q => ?_⟩
  cases d with
  | list l =>
    simp only [app1, Option.map_eq_some_iff] at ha
    obtain ⟨is, h1, rfl⟩ := ha
    obtain ⟨p, xs, rfl, h2, r1⟩ := bv.list
    obtain rfl := ints_V r1 h1
    exact ⟨p, is, rfl, SqL.of h2, q _ H R.here (.int _)⟩
  | _ => cases ha
end
end TK

/-! the reflected layer: sorted of a tuple of data -/
namespace TK
open PySem PySem.Spec PyProof.Rows L2 PySem.W
section
variable {prog : Program} {w : World} {A : Around} {E : Value → Shared → Prop} {s : Shared}
theorem coll_tup {t : Addr} {us : List Value} {R : List Value → Shared → Prop} (ht : IsTup s.heap t us.toArray) (hz : us.length ≤ sizeLine)
    (fin : R us { s with heap := (s.heap.push (seqObj "list" #[] 0)).update s.heap.objs.size (Obj.mapSeq (· ++ us.toArray)) }) : wpAny (model prog w) A (collect (.ref t)) R E s := by
  obtain ⟨ob, hob, hcl, m, hdt⟩ := id ht
  have new : (s.heap.push (seqObj "list" #[] 0)).get? s.heap.objs.size = some (seqObj "list" #[] 0) := Heap.get?_push_size _ rfl
  have old : (s.heap.push (seqObj "list" #[] 0)).get? t = some ob := Heap.get?_push_of_some _ hob
  unfold collect; refine wpAny_bind (wpAny_runValue (codeAny_builtin entry_proto_collect' ?_))
  show wpAny _ _ (do again (.builtin "list.__iadd__" ⟨[← newList [], .ref t], []⟩)) _ _ s
  refine wpAny_bind (wpAny_newList (wpAny_pure ⟨Code.quiet_builtin _ (by decide +kernel), codeAny_builtin entry_list_iadd' ?_⟩)); show wpAny _ _ (Builtin.List.listExtendWith (.ref s.heap.objs.size) (.ref t) (.ref s.heap.objs.size)) _ _ { s with heap := s.heap.push (seqObj "list" #[] 0) }
  unfold Builtin.List.listExtendWith; refine wpAny_bind (wpAny_typeOf (T := "tuple") ⟨ob, old, hcl⟩ ?_)
  have tt : (Value.type "tuple" == Value.type "tuple") = true := by rfl
  rw [if_pos (by rw [tt]; simp)]; refine wpAny_bind (listItems_at old hdt ?_); refine wpAny_bind (listItems_at (xs := #[]) (n := 0) new rfl ?_)
  rw [if_neg (by simp)]; refine wpAny_bind (listUpdate_at (xs := #[]) (n := 0) new rfl ?_ (Nat.zero_le _) (by show (#[] ++ us.toArray).size ≤ sizeLine + 1; simp only [Array.size_append, List.size_toArray, List.length_nil]; omega)); refine wpAny_pure ?_
  show wpAny (model prog w) A (do let o ← load s.heap.objs.size; match o.data with | .seq xs _ => pure xs.toList | _ => unsupported "internal:collect") R E { s with heap := (s.heap.push (seqObj "list" #[] 0)).update s.heap.objs.size (Obj.mapSeq (· ++ us.toArray)) }
  refine wpAny_bind (wpAny_load (get?_update_seq new _) ?_); show wpAny _ _ (pure ((#[] : Array Value) ++ us.toArray).toList) R E _
  rw [show ((#[] : Array Value) ++ us.toArray).toList = us by simp]; exact wpAny_pure fin
theorem sortT_data {α : Type} {R : Value → α → Prop} {enc : α → PyData} {us : List Value} {bs : List α} {t : Addr} {Q : Value → Shared → Prop} (ht : IsTup s.heap t us.toArray) (e : EachIs R us bs) (er : EachIs (fun v b => ∃ as, Reads s.heap v (enc b) as) us bs) (hal : AllAlike (bs.map enc)) (hk : Sortable (bs.map enc)) (hz : bs.length ≤ sizeLine)
    (hu : ∀ b, b ∈ bs → A.units + 2 + (enc b).depth < cLine) (fin : ∀ o, o.length = bs.length → EachIs R o (bs.mergeSort (dataLe false enc)) → Q (.ref (s.heap.objs.size + 1)) { s with heap := sortedAll s.heap us (List.toArray o) }) : wpAny (model prog w) A (call (.builtin "sorted") [.ref t]) Q E s := by
  have er' : EachIs (fun v b => ∃ as, Reads (sortingHeap (copyHeap s.heap us) (s.heap.objs.size + 1) us) v (enc b) as) us bs := er.mono fun _ _ ⟨as, r⟩ => ⟨as, PyProof.Rows.Reads.keeps (fun _ _ => sorting_copy_old) r⟩
  have hz' : us.length ≤ sizeLine := by rw [e.length]; exact hz
  have S := SortsAt.data (prog := prog) (w := w) (A := A.in1.in1) (s := { s with heap := sortingHeap (copyHeap s.heap us) (s.heap.objs.size + 1) us }) (each_map (R := fun v d => ∃ as, Reads (sortingHeap (copyHeap s.heap us) (s.heap.objs.size + 1) us) v d as) enc er') hal hk (bound_map hu)
  refine Calls.call_function_entry kind_sorted plain_sorted entry_sorted (args_sorted1 _) ?_
  unfold Builtin.«sorted»; refine wpAny_bind (m := checkCount "sorted" 1 1 _) (wpAny_pure ?_); refine wpAny_bind (coll_tup ht hz' ?_); refine wpAny_bind (wpAny_newList ?_ hz')
  have sz : ((s.heap.push (seqObj "list" #[] 0)).update s.heap.objs.size (Obj.mapSeq (· ++ us.toArray))).objs.size = s.heap.objs.size + 1 := by rw [Heap.size_update, size_push']
  show wpAny _ _ _ _ _ { s with heap := copyHeap s.heap us }; rw [sz]
  refine wpAny_bind (wpAny_holding (wpAny_call_entry slot_list_sort ⟨_, copyHeap_at s.heap us, rfl⟩ entry_list_sort ?body (args_list_sort _)))
  case body =>
    show wpAny (model prog w) A.in1.in1 (Builtin.«list.sort» ⟨[.ref (s.heap.objs.size + 1)], []⟩) _ _ _
    refine list_sort_vals (s := { s with heap := copyHeap s.heap us }) (copyHeap_at s.heap us) S hz' ?_
    refine ⟨_, rfl, wpAny_pure ⟨_, rfl, fin _ (by rw [sortVals_length false rfl]; exact e.length) (sortVals_data false e er' hal)⟩⟩
end
section
variable {X : Cx} {E : XK} {Γ : List FnSem} {k : Nat}
/-- sorted of a tuple of data -/
theorem call_sortT (hr : Room k X.A) : CallR X (.builtin "sorted") (fun vs H Q => ∃ (a : Addr) (ps : List (D × V)), vs = [.ref a] ∧ SqT X.K H a (ps.map (·.2)) ∧ DpAll X.K H (ps.map (·.2)) (ps.map (·.1)) ∧ sortOk (ps.map (·.1)) = true ∧
    ∀ p, H p = none → Q (.ref p) (upd H p (.lst ((ps.mergeSort (PySem.W.dataLe false (·.1))).map (·.2))))) := by
  intro pins s σ H vs us Q I r h
  obtain ⟨a, ps, rfl, ha, hd, hk, q⟩ := h
  obtain ⟨h1, h2, h3⟩ := sortOk_inv hk
  obtain ⟨its, rv, pl, hz⟩ := I.tuple ha
  rw [Vals.ref1 r]
  obtain ⟨as, hR⟩ := Dp.readsAll I _ _ its hd rv
  have hz2 : ps.length ≤ sizeLine := by rw [List.length_map] at hz; exact hz
  refine sortT_data (R := fun u (p : D × V) => RelV p.2 u) (enc := (·.1)) (bs := ps) pl (each_V rv) (each_reads hR) h1 h2 hz2 (fun p hp => ?_) fun out ho er => ?_
  · have := dep_depth (h3 p.1 (List.mem_map_of_mem hp))
    have := hr.un
    omega
  · obtain ⟨ep, he'⟩ := PyProof.Rows.sortedAll_at s.heap its out.toArray
    refine ⟨.ref _, _, I.laid (t' := s.toks) (fun _ _ => PyProof.Rows.sortedAll_old) (Nat.le_succ _) (o := .lst ((ps.mergeSort (PySem.W.dataLe false (·.1))).map (·.2))) ⟨?_, out, ep, V_each er, he'⟩, rfl, q _ (I.hok.fresh (Nat.le_succ _))⟩
    rw [List.length_map, List.length_mergeSort]
    exact hz2
theorem c_sorted (hr : Room k X.A) : CallOk X (.builtin "sorted") .sorted := by
  refine ⟨_, (call_sortL hr).or (call_sortT hr), fun w O0 H0 O σ H env st v d x Q R bv ha q => ?_⟩
  cases d with
  | list l =>
    simp only [app1, Option.map_eq_some_iff] at ha
    obtain ⟨l', h1, rfl⟩ := ha
    unfold sortD at h1
    split at h1
    · rename_i hk
      cases h1
      obtain ⟨p, xs, rfl, h2, r1⟩ := bv.list
      obtain ⟨ps, rfl, rfl, hp⟩ := r1.zip
      obtain ⟨_, _, h3⟩ := sortOk_inv hk
      exact .inl ⟨p, ps, rfl, h2, r1.dp hid_le h3, hk, fun z hz => q _ _ (R.post_new hz) (rp_newL R hz (sorted_rp hp))⟩
    · cases h1
  | tuple l =>
    simp only [app1, Option.map_eq_some_iff] at ha
    obtain ⟨l', h1, rfl⟩ := ha
    unfold sortD at h1
    split at h1
    · rename_i hk
      cases h1
      obtain ⟨p, xs, rfl, h2, r1⟩ := bv.tuple
      obtain ⟨ps, rfl, rfl, hp⟩ := r1.zip
      obtain ⟨_, _, h3⟩ := sortOk_inv hk
      exact .inr ⟨p, ps, rfl, SqT.of h2, r1.dp hid_le h3, hk, fun z hz => q _ _ (R.post_new hz) (rp_newL R hz (sorted_rp hp))⟩
    · cases h1
  | _ => cases ha
end
end TK

/-! the reflected layer, 9: targets, walks, comprehensions -/
namespace TK
open PySem PySem.Spec PyProof.Rows L2
section
variable {K : PySem.W.Frag} {w : Dr} {O0 O : Addr → Bool} {H0 H H' : Hp} {σ : L2.St} {env : Env} {st st' : DSt}
theorem Rel.setVal (R : Rel K w O0 H0 O σ H env st) {i : Nat} {v : V} {d : D} (hi : i < env.length) (rp : Rp w (hid H O) v d) : Rel K w O0 H0 O (σ.set i (some v)) H (env.set i (.val d)) st := by
  have hs : i < σ.length := by rw [← R.len]; exact hi
  refine ⟨R.ext, R.sub, R.alc0, R.alc, R.new, R.ops, R.sts, R.scr, by rw [List.length_set, List.length_set]; exact R.len, fun j d' h => ?_, fun j d' h => ?_, fun j k p di dj h1 h2 h3 h4 => ?_⟩
  · by_cases e : i = j
    · subst e
      rw [List.getElem?_set_self hi] at h
      cases h
      exact ⟨v, List.getElem?_set_self hs, rp⟩
    · rw [List.getElem?_set_ne e] at h ⊢
      exact R.val j d' h
  · by_cases e : i = j
    · subst e
      rw [List.getElem?_set_self hi] at h
      cases h
    · rw [List.getElem?_set_ne e] at h ⊢
      exact R.own j d' h
  · have e1 : i ≠ j := fun e => by
      subst e
      rw [List.getElem?_set_self hi] at h1
      cases h1
    have e2 : i ≠ k := fun e => by
      subst e
      rw [List.getElem?_set_self hi] at h2
      cases h2
    rw [List.getElem?_set_ne e1] at h1 h3
    rw [List.getElem?_set_ne e2] at h2 h4
    exact R.inj j k p di dj h1 h2 h3 h4
theorem Rel.setNo (R : Rel K w O0 H0 O σ H env st) (i : Nat) : Rel K w O0 H0 O (σ.set i none) H (env.set i .no) st := by
  refine ⟨R.ext, R.sub, R.alc0, R.alc, R.new, R.ops, R.sts, R.scr, by rw [List.length_set, List.length_set]; exact R.len, fun j d' h => ?_, fun j d' h => ?_, fun j k p di dj h1 h2 h3 h4 => ?_⟩
  · have e : i ≠ j := fun e => by
      subst e
      have hi : i < env.length := by
        have := (List.getElem?_eq_some_iff.mp h).1
        rw [List.length_set] at this
        exact this
      rw [List.getElem?_set_self hi] at h
      cases h
    rw [List.getElem?_set_ne e] at h ⊢
    exact R.val j d' h
  · have e : i ≠ j := fun e => by
      subst e
      have hi : i < env.length := by
        have := (List.getElem?_eq_some_iff.mp h).1
        rw [List.length_set] at this
        exact this
      rw [List.getElem?_set_self hi] at h
      cases h
    rw [List.getElem?_set_ne e] at h ⊢
    exact R.own j d' h
  · have ne : ∀ {m d}, (env.set i Slot.no)[m]? = some (Slot.own d) → i ≠ m := fun {m d} h e => by
      subst e
      have hi : i < env.length := by
        have := (List.getElem?_eq_some_iff.mp h).1
        rw [List.length_set] at this
        exact this
      rw [List.getElem?_set_self hi] at h
      cases h
    have e1 := ne h1
    have e2 := ne h2
    rw [List.getElem?_set_ne e1] at h1 h3
    rw [List.getElem?_set_ne e2] at h2 h4
    exact R.inj j k p di dj h1 h2 h3 h4
theorem Rel.wipe (R : Rel K w O0 H0 O σ H env st) : ∀ vs : List Nat, Rel K w O0 H0 O (L2.wipe σ vs) H (wipeE env vs) st
  | [] => R
  | v :: vs => (R.wipe vs).setNo v
theorem Rel.ps_ne (R : Rel K w O0 H0 O σ H env st) {p : Addr} (h : H p = none) : p ≠ w.ps := fun e => by
  rw [e, R.sts] at h; cases h
theorem Rel.none0 (R : Rel K w O0 H0 O σ H env st) {p : Addr} (h : H p = none) : H0 p = none := by
  cases e : H0 p with
  | none => rfl
  | some o =>
    cases z : O0 p with
    | true =>
      have := R.ext.own p o z (R.ps_ne h) e
      rw [h] at this; cases this
    | false =>
      obtain ⟨o', e', _⟩ := R.ext.rd p o z e
      rw [h] at e'; cases e'
def addO (O : Addr → Bool) (D : Addr) : Addr → Bool := fun a => O a || decide (a = D)
theorem addO_self {O : Addr → Bool} {D : Addr} : addO O D D = true := by simp [addO]
theorem addO_of {O : Addr → Bool} {D a : Addr} (h : O a = true) : addO O D a = true := by simp [addO, h]
theorem addO_ne {O : Addr → Bool} {D a : Addr} (h : a ≠ D) : addO O D a = O a := by simp [addO, h]
/-- a new object, hidden -/
theorem Rel.hide (R : Rel K w O0 H0 O σ H env st) {D : Addr} {o : HO} (h : H D = none) : Rel K w O0 H0 (addO O D) σ (upd H D o) env st := by
  have oD := R.free h
  have le : Le (hid H O) (hid (upd H D o) (addO O D)) := fun a u e => by
    obtain ⟨e1, e2⟩ := hid_some e
    have ne : a ≠ D := ne_of_none e2 h
    exact ⟨u, by rw [hid_of (by rw [addO_ne ne]; exact e1), upd_ne ne]; exact e2, .refl u⟩
  refine ⟨⟨fun b u z n e => ?_, fun b u z e => ?_⟩, fun a z => addO_of (R.sub a z), R.alc0, fun a z => ?_, fun a z z0 => ?_, R.ops, ?_, le.sqL R.scr, R.len, fun i d e => ?_, fun i d e => ?_, R.inj⟩
  · have := R.ext.own b u z n e
    rw [upd_ne (ne_of_none this h)]; exact this
  · obtain ⟨u', e1, e2⟩ := R.ext.rd b u z e
    exact ⟨u', by rw [upd_ne (ne_of_none e1 h)]; exact e1, e2⟩
  · by_cases e : a = D
    · rw [e, upd_same]; intro q; cases q
    · rw [addO_ne e] at z
      rw [upd_ne e]
      exact R.alc a z
  · by_cases e : a = D
    · rw [e]; exact R.none0 h
    · rw [addO_ne e] at z
      exact R.new a z z0
  · rw [upd_ne (R.ps_ne h).symm]; exact R.sts
  · obtain ⟨v, e1, e2⟩ := R.val i d e
    exact ⟨v, e1, e2.mono le⟩
  · obtain ⟨p, e1, e2, e3, e4⟩ := R.own i d e
    have ne : p ≠ D := fun q => by rw [q, oD] at e2; cases e2
    refine ⟨p, e1, addO_of e2, e3, ?_⟩
    cases e4 with
    | lst a b => exact .lst (by rw [upd_ne ne]; exact a) (b.mono le)
    | dK a b => exact .dK (by rw [upd_ne ne]; exact a) (b.mono le)
    | dT a b => exact .dT (by rw [upd_ne ne]; exact a) (b.mono le)
/-- the hidden object that no name owns is written -/
theorem Rel.write (R : Rel K w O0 H0 O σ H env st) {p0 : Addr} {o : HO} (hD : O p0 = true) (h0 : O0 p0 = false) (hw : ∀ (i : Nat) (d : D), env[i]? = some (Slot.own d) → σ[i]? ≠ some (some (.ref p0))) : Rel K w O0 H0 O σ (upd H p0 o) env st := by
  have le : Le (hid H O) (hid (upd H p0 o) O) := fun a u e => by
    obtain ⟨e1, e2⟩ := hid_some e
    have ne : a ≠ p0 := fun q => by rw [q, hD] at e1; cases e1
    exact ⟨u, by rw [hid_of e1, upd_ne ne]; exact e2, .refl u⟩
  have n0 := R.new p0 hD h0
  refine ⟨⟨fun b u z n e => ?_, fun b u z e => ?_⟩, R.sub, R.alc0, fun a z => ?_, R.new, R.ops, ?_, le.sqL R.scr, R.len, fun i d e => ?_, fun i d e => ?_, R.inj⟩
  · have ne : b ≠ p0 := fun q => by rw [q, n0] at e; cases e
    rw [upd_ne ne]; exact R.ext.own b u z n e
  · have ne : b ≠ p0 := fun q => by rw [q, n0] at e; cases e
    obtain ⟨u', e1, e2⟩ := R.ext.rd b u z e
    exact ⟨u', by rw [upd_ne ne]; exact e1, e2⟩
  · by_cases e : a = p0
    · rw [e, upd_same]; intro q; cases q
    · rw [upd_ne e]; exact R.alc a z
  · rw [upd_ne (R.psne h0).symm]; exact R.sts
  · obtain ⟨v, e1, e2⟩ := R.val i d e
    exact ⟨v, e1, e2.mono le⟩
  · obtain ⟨p, e1, e2, e3, e4⟩ := R.own i d e
    have ne : p ≠ p0 := fun q => hw i d e (by rw [← q]; exact e1)
    refine ⟨p, e1, e2, e3, ?_⟩
    cases e4 with
    | lst a b => exact .lst (by rw [upd_ne ne]; exact a) (b.mono le)
    | dK a b => exact .dK (by rw [upd_ne ne]; exact a) (b.mono le)
    | dT a b => exact .dT (by rw [upd_ne ne]; exact a) (b.mono le)
end
/-! ### targets -/
mutual
def slotsT : Tg → List Nat
  | .n i => [i]
  | .t ts => slotsTs ts
def slotsTs : List Tg → List Nat
  | [] => []
  | t :: ts => slotsT t ++ slotsTs ts
end
/-- σ' is σ but for the slots in l -/
def But (l : List Nat) (σ σ' : L2.St) : Prop := σ'.length = σ.length ∧ ∀ i, i ∉ l → σ'[i]? = σ[i]?
theorem But.refl (σ : L2.St) : But [] σ σ := ⟨rfl, fun _ _ => rfl⟩
theorem But.trans {l m : List Nat} {σ σ1 σ2 : L2.St} (a : But l σ σ1) (b : But m σ1 σ2) : But (l ++ m) σ σ2 :=
  ⟨b.1.trans a.1, fun i h => (b.2 i fun z => h (List.mem_append_right _ z)).trans (a.2 i fun z => h (List.mem_append_left _ z))⟩
def rdG (K : PySem.W.Frag) (tg : Tg) : TG := fun v σ H Q => ∃ w O0 H0 O env st d env', Rel K w O0 H0 O σ H env st ∧ Rp w (hid H O) v d ∧ asgT tg d env = some env' ∧ ∀ σ', Rel K w O0 H0 O σ' H env' st → But (slotsT tg) σ σ' → Q σ' H
def rdGs (K : PySem.W.Frag) (ts : List Tg) : TGs := fun vs σ H Q => ∃ w O0 H0 O env st ds env', Rel K w O0 H0 O σ H env st ∧ RpAll w (hid H O) vs ds ∧ asgTs ts ds env = some env' ∧ ∀ σ', Rel K w O0 H0 O σ' H env' st → But (slotsTs ts) σ σ' → Q σ' H
theorem _root_.L2.PG.weak {X : Cx} {e : Expr} {t t' : TG} (h : PG X e t) (i : ∀ v σ H Q, t' v σ H Q → t v σ H Q) : PG X e t' := ⟨fun pins s σ H v u Q I r q => h.run pins s σ H v u Q I r (i v σ H Q q)⟩
theorem _root_.L2.PGs.weak {X : Cx} {e : List Expr} {t t' : TGs} (h : PGs X e t) (i : ∀ v σ H Q, t' v σ H Q → t v σ H Q) : PGs X e t' := ⟨fun pins s σ H v u Q I r q => h.run pins s σ H v u Q I r (i v σ H Q q)⟩
theorem asg_ok {e : Expr} {es : List Expr} {env : PySem.Env} (h : notStar e = true) : assignEach (e :: es) env = (false, assign e env) :: assignEach es env := by
  cases e <;> first | rfl | cases h
theorem asg_len {env : PySem.Env} : ∀ {es : List Expr}, es.all notStar = true → (assignEach es env).length = es.length ∧ (assignEach es env).findIdx? (·.1) = none
  | [], _ => ⟨rfl, rfl⟩
  | e :: es, h => by
    rw [List.all_cons, Bool.and_eq_true] at h
    obtain ⟨h1, h2⟩ := asg_len (env := env) h.2
    rw [asg_ok h.1]
    refine ⟨by rw [List.length_cons, List.length_cons, h1], ?_⟩
    rw [List.findIdx?_cons, h2]
    rfl
section
variable {X : Cx} {E : XK} {Γ : List FnSem} {k : Nat}
theorem g_name {i : Nat} {x : Str} {pos : Pos} (hN : X.N.Nodup) (hi : X.N[i]? = some x) (hx : Loc X.env.scope x) (hf : X.fn x = true ∨ X.env.scope.names.lookup x = some .local) : PG X (.Name x pos) (rdG X.K (.n i)) := by
  refine (pg_name hN hi hx hf).weak fun v σ H Q q => ?_
  obtain ⟨w, O0, H0, O, env, st, d, env', R, rp, e, q⟩ := q
  simp only [asgT] at e
  split at e
  · cases e
    refine q _ (R.setVal (by assumption) rp) ⟨List.length_set, fun j h => ?_⟩
    exact List.getElem?_set_ne (fun e => h (by rw [e]; simp [slotsT]))
  · cases e
theorem g_nil : PGs X [] (rdGs X.K []) := by
  refine pgs_nil.weak fun v σ H Q q => ?_
  obtain ⟨w, O0, H0, O, env, st, d, env', R, rp, e, q⟩ := q
  cases rp with
  | nil =>
    cases e
    exact ⟨rfl, q _ R (But.refl σ)⟩
  | cons _ _ => cases e
theorem g_cons {e : Expr} {es : List Expr} {t : Tg} {ts : List Tg} (h1 : PG X e (rdG X.K t)) (h2 : PGs X es (rdGs X.K ts)) (hs : notStar e = true) : PGs X (e :: es) (rdGs X.K (t :: ts)) := by
  refine (pgs_cons h1 h2 (by rw [asg_ok hs]; rfl)).weak fun v σ H Q q => ?_
  obtain ⟨w, O0, H0, O, env, st, d, env', R, rp, e, q⟩ := q
  cases rp with
  | nil => cases e
  | cons a b =>
    simp only [asgTs, Option.bind_eq_some_iff] at e
    obtain ⟨env1, e1, e2⟩ := e
    refine ⟨_, _, rfl, w, O0, H0, O, env, st, _, env1, R, a, e1, fun σ' R1 b1 => ?_⟩
    refine ⟨w, O0, H0, O, env1, st, _, env', R1, b, e2, fun σ2 R2 b2 => ?_⟩
    exact q σ2 R2 (b1.trans b2)
theorem g_tup {es : List Expr} {ts : List Tg} {j : Nat} {pos : Pos} (hc : X.calm = true) (h : PGs X es (rdGs X.K ts)) (hs : es.all notStar = true) (hl : es.length = ts.length) : PG X (.Tuple es j pos) (rdG X.K (.t ts)) := by
  obtain ⟨l1, l2⟩ := asg_len (env := X.env) hs
  refine (pg_tup (n := ts.length) hc h (by rw [l1, hl]) l2).weak fun v σ H Q q => ?_
  obtain ⟨w, O0, H0, O, env, st, d, env', R, rp, e, q⟩ := q
  have asl : ∀ {ts : List Tg} {ds : List D} {env env' : Env}, asgTs ts ds env = some env' → ds.length = ts.length := by
    intro ts
    induction ts with
    | nil => intro ds env env' h; cases ds <;> first | rfl | cases h
    | cons t ts ih =>
      intro ds env env' h
      cases ds with
      | nil => cases h
      | cons d ds =>
        simp only [asgTs, Option.bind_eq_some_iff] at h
        obtain ⟨_, _, h2⟩ := h
        rw [List.length_cons, List.length_cons, ih h2]
  cases rp with
  | tup a b =>
    have e : asgTs ts _ env = some env' := e
    exact ⟨_, _, rfl, SqT.of (hid_some a).2, by rw [b.length]; exact asl e, w, O0, H0, O, env, st, _, env', R, b, e, q⟩
  | lst a b => simp [asgT] at e
  | _ => cases e
end
end TK

/-! walks over lists and tuples in any mix: zip of two, zip of three -/
namespace TK
open PySem PySem.Spec PyProof.Rows L2
def SqS : Bool → PySem.W.Frag → Hp → Addr → List V → Prop
  | true, K, H, a, xs => SqT K H a xs
  | false, K, H, a, xs => SqL K H a xs
def IsSq : Bool → Heap → Addr → Array Value → Prop
  | true, h, a, v => h.IsTuple a v
  | false, h, a, v => h.IsList a v
def ItAt : Bool → Heap → Addr → Addr → Nat → Prop
  | true, h, it, a, i => h.IsTupleIter it a i
  | false, h, it, a, i => h.IsListIter it a i
def itObj : Bool → Addr → Obj
  | true, a => { cls := .type "tuple_iterator", data := .fields #[.ref a, .int 0 0] }
  | false, a => { cls := .type "list_iterator", data := .fields #[.ref a, .int 0 0] }
section
variable {t : Bool} {h h' : Heap} {it a : Addr} {i : Nat} {items : Array Value}
theorem draws_s {prog : Program} {w : World} {A : Around} (hh : A.handled = none) (t : Bool) (it a : Addr) (hne : a ≠ it) (items : Array Value) : Draws prog w A it [it, a] items.size (fun i v => items[i]? = some v) (fun i h => ItAt t h it a i ∧ IsSq t h a items) := by
  cases t
  · exact Draws.list hh it a hne items
  · exact Draws.tuple hh it a hne items
theorem begins_s (t : Bool) (a : Addr) (items : Array Value) : Begins (.ref a) (itObj t a) fun h => IsSq t h a items := by
  cases t
  · exact begins_list a items
  · exact begins_tuple a items
theorem itAt0 (e : h.get? it = some (itObj t a)) : ItAt t h it a 0 := by
  cases t <;> exact ⟨_, e, rfl, rfl⟩
theorem ItAt.at (x : ItAt t h it a i) (k : ∀ o, h.get? it = some o → h'.get? it = some o) : ItAt t h' it a i := by
  cases t
  · obtain ⟨o, e, c, d⟩ := x; exact ⟨o, k o e, c, d⟩
  · obtain ⟨o, e, c, d⟩ := x; exact ⟨o, k o e, c, d⟩
theorem ItAt.obj (x : ItAt t h it a i) : ∃ o, h.get? it = some o ∧ ∀ v, o.data ≠ .cell v := by
  cases t
  · obtain ⟨o, e, c, d⟩ := x; exact ⟨o, e, fun v q => by rw [d] at q; cases q⟩
  · obtain ⟨o, e, c, d⟩ := x; exact ⟨o, e, fun v q => by rw [d] at q; cases q⟩
theorem IsSq.lt (x : IsSq t h a items) : a < h.objs.size := by
  cases t
  · obtain ⟨o, e, _⟩ := x; exact Heap.lt_size e
  · obtain ⟨o, e, _⟩ := x; exact Heap.lt_size e
end
section
variable {X : Cx} {pins : List (Addr × Obj)} {σ : L2.St} {H : Hp} {s : Shared} {t : Bool} {a : Addr} {xs ys : List V}
theorem sq_inv (I : L2.Inv X pins σ H s) (h : SqS t X.K H a xs) : ∃ its : List Value, Vals xs its ∧ IsSq t s.heap a its.toArray ∧ xs.length ≤ sizeLine := by
  cases t
  · obtain ⟨its, r, p, z⟩ := I.list h; exact ⟨its, r, p.isList, z⟩
  · obtain ⟨its, r, p, z⟩ := I.tuple h; exact ⟨its, r, p, z⟩
theorem sq_inj (I : L2.Inv X pins σ H s) (h : SqS t X.K H a xs) (h' : SqS t X.K H a ys) : xs = ys := by
  cases t
  · exact I.list_inj h h'
  · exact I.tuple_inj h h'
end
/-- a Turn from what GoesN tells, each item a new tuple -/
theorem turn_of {P : Program} {w : World} {K : PySem.W.Frag} {tg : Expr} {J : It} {fp : List Addr} {it : Addr} {tn : Nat → Heap → Prop} (mem : it ∈ fp)
    (obj : ∀ i h, tn i h → ∀ b ∈ fp, ∃ o, h.get? b = some o ∧ ∀ v, o.data ≠ .cell v)
    (keep : ∀ i h h', tn i h → (∀ b ∈ fp, ∀ o, h.get? b = some o → h'.get? b = some o) → tn i h')
    (item : ∀ (X : Cx), X.prog = P → X.w = w → X.K = K → X.calm = true → ∀ (i : Nat) (pins : List (Addr × Obj)) (s : Shared) (σ : L2.St) (H : Hp), L2.Inv X pins σ H s → tn i s.heap → J.go i H →
      ∃ (fp' wr : List Addr) (n : Nat) (Y : Nat → Heap → Value → Heap → Prop) (St : Nat → Heap → Prop), GoesN P w X.A tg it fp' wr n Y St ∧ (∀ b ∈ wr, b ∈ fp) ∧ i < n ∧ St i s.heap ∧ (∀ h', St (i + 1) h' → tn (i + 1) h') ∧
        ∀ v h', Y i s.heap v h' → ∃ (T : Addr) (vs : List V) (us : List Value), v = .ref T ∧ s.heap.objs.size ≤ T ∧ Vals vs us ∧ h'.IsTuple T us.toArray ∧ vs.length ≤ sizeLine ∧ (H T = none → J.yld i H (.ref T) (upd H T (.tup vs))))
    (done : ∀ (X : Cx), X.prog = P → X.w = w → X.K = K → X.calm = true → ∀ (i : Nat) (pins : List (Addr × Obj)) (s : Shared) (σ : L2.St) (H : Hp), L2.Inv X pins σ H s → tn i s.heap → J.stop i H →
      ∃ (fp' wr : List Addr) (Y : Nat → Heap → Value → Heap → Prop) (St : Nat → Heap → Prop), GoesN P w X.A tg it fp' wr i Y St ∧ (∀ b ∈ wr, b ∈ fp) ∧ St i s.heap)
    (self : ∀ (A : Around) (i : Nat) (s : Shared) (Q : Value → Shared → Prop) (E : Value → Shared → Prop), tn i s.heap → Q (.ref it) s → wpAny (model P w) A (pyIter (.ref it)) Q E s) : Turn P w K tg J fp it tn where
  mem := mem
  obj := obj
  keep := keep
  item := by
    intro X hP hw hK hc i pins s σ H E I hf st hg
    obtain ⟨fp', wr, n, Y, St, W, sub, hi, hst, htn, hY⟩ := item X hP hw hK hc i pins s σ H I st hg
    subst hP hw hK
    refine W.goes i s (fun v s2 => ∃ x H', L2.Inv X pins σ H' s2 ∧ RelV x v ∧ J.yld i H x H' ∧ tn (i + 1) s2.heap ∧ ∀ b ∈ fp, H' b = none) E hi hst fun v h' tk hy st' hk htk => ?_
    obtain ⟨T, vs, us, rfl, hT, rv, tup, hz, yl⟩ := hY v h' hy
    have new : ObjOk X.prog X.w (upd H T (.tup vs)) h' T (.tup vs) := ⟨hz, us, rv, tup⟩
    have I1 : L2.Inv X pins σ (upd H T (.tup vs)) { s with heap := h', toks := tk } := I.turnedNew (ch := wr) hk (fun b hb => hf b (sub b hb)) hT new
    refine ⟨.ref T, _, I1, rfl, yl (I.hok.fresh hT), htn h' st', fun b hb => ?_⟩
    obtain ⟨o, e, _⟩ := obj i s.heap st b hb
    rw [upd_ne (Nat.ne_of_lt (Nat.lt_of_lt_of_le (Heap.lt_size e) hT))]
    exact (hf b hb).1
  done := by
    intro X hP hw hK hc i pins s σ H E I hf st hg
    obtain ⟨fp', wr, Y, St, W, sub, hst⟩ := done X hP hw hK hc i pins s σ H I st hg
    subst hP hw hK
    exact W.stops s (fun s1 => L2.Inv X pins σ H s1) E hst fun h' tk hk htk => I.turnedL (ch := wr) hk fun b hb => hf b (sub b hb)
  self := self
/-! ### zip of two -/
def ItzS (K : PySem.W.Frag) (t1 : Bool) (a : Addr) (t2 : Bool) (b : Addr) : It :=
  ⟨fun i H => ∃ (xs ys : List V) (x y : V), SqS t1 K H a xs ∧ SqS t2 K H b ys ∧ xs[i]? = some x ∧ ys[i]? = some y,
    fun i H v H' => ∃ T x y, v = .ref T ∧ H T = none ∧ H' = upd H T (.tup [x, y]) ∧ (∀ xs, SqS t1 K H a xs → xs[i]? = some x) ∧ ∀ ys, SqS t2 K H b ys → ys[i]? = some y,
    fun i H => ∃ xs ys : List V, SqS t1 K H a xs ∧ SqS t2 K H b ys ∧ min xs.length ys.length = i⟩
def tnZ (t1 : Bool) (a : Addr) (t2 : Bool) (b z TI TO i1 i2 : Addr) (i : Nat) (h : Heap) : Prop := IsZip h z TI TO .none ∧ IsTupOf2 h TI (.ref i1) (.ref i2) ∧ (∃ x y, IsTupOf2 h TO x y) ∧ ItAt t1 h i1 a i ∧ ItAt t2 h i2 b i
theorem turn_zipS {P : Program} {w : World} {K : PySem.W.Frag} {elts : List Expr} {kk : Nat} {tpos : Pos} {t1 t2 : Bool} {a b z TI TO i1 i2 : Addr} (S : ZipSep2 z TI TO i1 i2 [i1, a] [i2, b]) (n1 : a ≠ i1) (n2 : b ≠ i2) :
    Turn P w K (.Tuple elts kk tpos) (ItzS K t1 a t2 b) [z, TI, TO, i1, i2] z (tnZ t1 a t2 b z TI TO i1 i2) := by
  refine turn_of (by simp) (fun i h st c hc => ?_) (fun i h h' st k => ?_) ?_ ?_ fun A i s Q E st h => wpAny_pyIter_zip st.1 h
  · obtain ⟨hz, hTI, ⟨x, y, hTO⟩, h1, h2⟩ := st
    have e' : c = z ∨ c = TI ∨ c = TO ∨ c = i1 ∨ c = i2 := by simpa using hc
    rcases e' with q | q | q | q | q
    · rw [q]; exact ⟨_, hz, fun v q => nomatch q⟩
    · rw [q]; exact ⟨_, hTI, fun v q => nomatch q⟩
    · rw [q]; exact ⟨_, hTO, fun v q => nomatch q⟩
    · rw [q]; exact h1.obj
    · rw [q]; exact h2.obj
  · obtain ⟨hz, hTI, ⟨x, y, hTO⟩, h1, h2⟩ := st
    exact ⟨k z (by simp) _ hz, k TI (by simp) _ hTI, ⟨x, y, k TO (by simp) _ hTO⟩, h1.at fun o q => k i1 (by simp) o q, h2.at fun o q => k i2 (by simp) o q⟩
  · intro X hP hw hK hc i pins s σ H I st hg
    subst hP hw hK
    obtain ⟨hz, hTI, hTO, h1, h2⟩ := st
    obtain ⟨xs, ys, x, y, hqx, hqy, hx, hy⟩ := hg
    obtain ⟨its, rv, p, _⟩ := sq_inv I hqx
    obtain ⟨its2, rv2, p2, _⟩ := sq_inv I hqy
    obtain ⟨u, hu, ru⟩ := rv.get hx
    obtain ⟨u2, hu2, ru2⟩ := rv2.get hy
    have hh : X.A.in1.handled = none := I.ok.hd hc
    refine ⟨_, _, _, _, _, GoesN.zip2 S (draws_s hh t1 i1 a n1 its.toArray) (draws_s hh t2 i2 b n2 its2.toArray), fun c hc => by simp at hc ⊢; rcases hc with h | h | h | h <;> simp [h], ?_, ⟨hz, hTI, hTO, ⟨h1, p⟩, ⟨h2, p2⟩⟩, fun h' q => ⟨q.1, q.2.1, q.2.2.1, q.2.2.2.1.1, q.2.2.2.2.1⟩, ?_⟩
    · have l1 := (List.getElem?_eq_some_iff.mp hu).1
      have l2 := (List.getElem?_eq_some_iff.mp hu2).1
      rw [List.size_toArray, List.size_toArray]; omega
    · rintro v h' ⟨T, u', u2', rfl, hT, e1, e2, tup⟩
      have e1' : its.toArray[i]? = some u := by simpa using hu
      have e2' : its2.toArray[i]? = some u2 := by simpa using hu2
      rw [e1'] at e1
      rw [e2'] at e2
      cases e1
      cases e2
      exact ⟨T, [x, y], [u, u2], rfl, hT, .cons ru (.cons ru2 .nil), tup, by show 2 ≤ sizeLine; decide, fun hn => ⟨T, x, y, rfl, hn, rfl, fun l hl => by rw [sq_inj I hl hqx]; exact hx, fun l hl => by rw [sq_inj I hl hqy]; exact hy⟩⟩
  · intro X hP hw hK hc i pins s σ H I st hg
    subst hP hw hK
    obtain ⟨hz, hTI, hTO, h1, h2⟩ := st
    obtain ⟨xs, ys, hqx, hqy, hend⟩ := hg
    obtain ⟨its, rv, p, _⟩ := sq_inv I hqx
    obtain ⟨its2, rv2, p2, _⟩ := sq_inv I hqy
    have hh : X.A.in1.handled = none := I.ok.hd hc
    have hn : min its.toArray.size its2.toArray.size = i := by
      rw [List.size_toArray, List.size_toArray, ← rv.length, ← rv2.length]; exact hend
    have W := GoesN.zip2 (prog := X.prog) (w := X.w) (elts := elts) (x1 := kk) (pos := tpos) S (draws_s hh t1 i1 a n1 its.toArray) (draws_s hh t2 i2 b n2 its2.toArray)
    rw [hn] at W
    exact ⟨_, _, _, _, W, fun c hc => by simp at hc ⊢; rcases hc with h | h | h | h <;> simp [h], ⟨hz, hTI, hTO, ⟨h1, p⟩, ⟨h2, p2⟩⟩⟩
def iZipS (K : PySem.W.Frag) (ta : TA) : TI := fun σ H R => ta σ H fun vs H1 => ∃ t1 a t2 b xs ys, vs = [.ref a, .ref b] ∧ SqS t1 K H1 a xs ∧ SqS t2 K H1 b ys ∧ R (ItzS K t1 a t2 b) H1
theorem pi_zipS {X : Cx} {e e2 : Expr} {ta : TA} {p pos tpos : Pos} {elts : List Expr} {kk : Nat} (hg : Gl X "zip") (hm : X.mg "zip" = none) (ha : PA X [e, e2] ta)
    (hs : starEach [e, e2] X.env = (false, eval e X.env) :: starEach [e2] X.env) (hpl : (backTo pos (starEach [e2] X.env)).any (·.1) = false) :
    PI X (.Tuple elts kk tpos) (.Call (.Name "zip" p) [e, e2] [] pos) (iZipS X.K ta) := by
  refine ⟨fun pins s σ H R I h => ?_⟩
  refine Call_ (ld_blt I hg hm PyProof.Rows.boot_zip (PyProof.Rows.callWith_type1 (thn (ha.run pos pins s σ H _ I h) fun us s1 ⟨vs, H1, I1, r1, q1⟩ => ?_) hs hpl))
  obtain ⟨t1, a, t2, b, xs, ys, ex, hqx, hqy, q⟩ := q1
  subst ex
  cases r1 with
  | cons r rr =>
    cases rr with
    | cons r' rr =>
      cases rr
      cases r
      cases r'
      obtain ⟨its, rv, p1, _⟩ := sq_inv I1 hqx
      obtain ⟨its2, rv2, p2, _⟩ := sq_inv I1 hqy
      have la := p1.lt
      have lb := p2.lt
      refine zip_begins2 (begins_s t1 a its.toArray) (begins_s t2 b its2.toArray) p1 p2 fun h' hz hTI hTO g1 g2 hsz hk => wpAny_pyIter_zip hz ?_
      have I2 : L2.Inv X pins σ H1 { s1 with heap := h' } := I1.kept (t' := s1.toks) hk
      refine ⟨s1.heap.objs.size + 4, [s1.heap.objs.size + 4, s1.heap.objs.size + 2, s1.heap.objs.size + 3, s1.heap.objs.size, s1.heap.objs.size + 1], _, _, H1, rfl, I2,
        turn_zipS (zip_sep2 (fp1 := [a]) (fp2 := [b]) (by simpa using la) (by simpa using lb)) (Nat.ne_of_lt la) (Nat.ne_of_lt (Nat.lt_succ_of_lt lb)), ⟨hz, hTI, ⟨_, _, hTO⟩, itAt0 g1, itAt0 g2⟩, fun c hcm => ?_, q⟩
      have hle : s1.heap.objs.size ≤ c := by
        have e' : c = s1.heap.objs.size + 4 ∨ c = s1.heap.objs.size + 2 ∨ c = s1.heap.objs.size + 3 ∨ c = s1.heap.objs.size ∨ c = s1.heap.objs.size + 1 := by simpa using hcm
        rcases e' with z | z | z | z | z <;> rw [z] <;> first | exact Nat.le_refl _ | exact Nat.le_add_right _ _
      exact I1.fpOk hle (I1.hok.fresh hle)
theorem walk_zipS {K : PySem.W.Frag} {t1 t2 : Bool} {a b : Addr} {xs ys : List V} {n : Nat} (hn : n = min xs.length ys.length) : Walk (ItzS K t1 a t2 b) n (fun H => SqS t1 K H a xs ∧ SqS t2 K H b ys) (YPair (fun i => xs[i]?) (fun i => ys[i]?)) := by
  subst hn
  refine ⟨fun i H hi z => ?_, fun H z => ⟨xs, ys, z.1, z.2, rfl⟩, fun i H v H' _ z y => ?_⟩
  · have h1 : i < xs.length := by omega
    have h2 : i < ys.length := by omega
    exact ⟨xs, ys, xs[i], ys[i], z.1, z.2, by simp [h1], by simp [h2]⟩
  · obtain ⟨T, x, u, h1, h2, h3, h4, h5⟩ := y
    exact ⟨T, x, u, h1, h2, h3, h4 xs z.1, h5 ys z.2⟩
/-! ### zip of three -/
def Itz3 (K : PySem.W.Frag) (t1 : Bool) (a : Addr) (t2 : Bool) (b : Addr) (t3 : Bool) (c : Addr) : It :=
  ⟨fun i H => ∃ (xs ys zs : List V) (x y z : V), SqS t1 K H a xs ∧ SqS t2 K H b ys ∧ SqS t3 K H c zs ∧ xs[i]? = some x ∧ ys[i]? = some y ∧ zs[i]? = some z,
    fun i H v H' => ∃ T x y z, v = .ref T ∧ H T = none ∧ H' = upd H T (.tup [x, y, z]) ∧ (∀ xs, SqS t1 K H a xs → xs[i]? = some x) ∧ (∀ ys, SqS t2 K H b ys → ys[i]? = some y) ∧ ∀ zs, SqS t3 K H c zs → zs[i]? = some z,
    fun i H => ∃ xs ys zs : List V, SqS t1 K H a xs ∧ SqS t2 K H b ys ∧ SqS t3 K H c zs ∧ min (min xs.length ys.length) zs.length = i⟩
def tnZ3 (t1 : Bool) (a : Addr) (t2 : Bool) (b : Addr) (t3 : Bool) (c z TI TO i1 i2 i3 : Addr) (i : Nat) (h : Heap) : Prop := IsZip h z TI TO .none ∧ IsTupOf3 h TI (.ref i1) (.ref i2) (.ref i3) ∧ (∃ x y u, IsTupOf3 h TO x y u) ∧ ItAt t1 h i1 a i ∧ ItAt t2 h i2 b i ∧ ItAt t3 h i3 c i
theorem turn_zip3 {P : Program} {w : World} {K : PySem.W.Frag} {elts : List Expr} {kk : Nat} {tpos : Pos} {t1 t2 t3 : Bool} {a b c z TI TO i1 i2 i3 : Addr} (S : ZipSep3 z TI TO i1 i2 i3 [i1, a] [i2, b] [i3, c]) (n1 : a ≠ i1) (n2 : b ≠ i2) (n3 : c ≠ i3) :
    Turn P w K (.Tuple elts kk tpos) (Itz3 K t1 a t2 b t3 c) [z, TI, TO, i1, i2, i3] z (tnZ3 t1 a t2 b t3 c z TI TO i1 i2 i3) := by
  refine turn_of (by simp) (fun i h st d hd => ?_) (fun i h h' st k => ?_) ?_ ?_ fun A i s Q E st h => wpAny_pyIter_zip st.1 h
  · obtain ⟨hz, hTI, ⟨x, y, u, hTO⟩, h1, h2, h3⟩ := st
    have e' : d = z ∨ d = TI ∨ d = TO ∨ d = i1 ∨ d = i2 ∨ d = i3 := by simpa using hd
    rcases e' with q | q | q | q | q | q
    · rw [q]; exact ⟨_, hz, fun v q => nomatch q⟩
    · rw [q]; exact ⟨_, hTI, fun v q => nomatch q⟩
    · rw [q]; exact ⟨_, hTO, fun v q => nomatch q⟩
    · rw [q]; exact h1.obj
    · rw [q]; exact h2.obj
    · rw [q]; exact h3.obj
  · obtain ⟨hz, hTI, ⟨x, y, u, hTO⟩, h1, h2, h3⟩ := st
    exact ⟨k z (by simp) _ hz, k TI (by simp) _ hTI, ⟨x, y, u, k TO (by simp) _ hTO⟩, h1.at fun o q => k i1 (by simp) o q, h2.at fun o q => k i2 (by simp) o q, h3.at fun o q => k i3 (by simp) o q⟩
  · intro X hP hw hK hc i pins s σ H I st hg
    subst hP hw hK
    obtain ⟨hz, hTI, hTO, h1, h2, h3⟩ := st
    obtain ⟨xs, ys, zs, x, y, zz, hqx, hqy, hqz, hx, hy, hzz⟩ := hg
    obtain ⟨its, rv, p, _⟩ := sq_inv I hqx
    obtain ⟨its2, rv2, p2, _⟩ := sq_inv I hqy
    obtain ⟨its3, rv3, p3, _⟩ := sq_inv I hqz
    obtain ⟨u, hu, ru⟩ := rv.get hx
    obtain ⟨u2, hu2, ru2⟩ := rv2.get hy
    obtain ⟨u3, hu3, ru3⟩ := rv3.get hzz
    have hh : X.A.in1.handled = none := I.ok.hd hc
    refine ⟨_, _, _, _, _, GoesN.zip3 S (draws_s hh t1 i1 a n1 its.toArray) (draws_s hh t2 i2 b n2 its2.toArray) (draws_s hh t3 i3 c n3 its3.toArray), fun d hd => by simp at hd ⊢; rcases hd with h | h | h | h | h <;> simp [h], ?_, ⟨hz, hTI, hTO, ⟨h1, p⟩, ⟨h2, p2⟩, ⟨h3, p3⟩⟩, fun h' q => ⟨q.1, q.2.1, q.2.2.1, q.2.2.2.1.1, q.2.2.2.2.1.1, q.2.2.2.2.2.1⟩, ?_⟩
    · have l1 := (List.getElem?_eq_some_iff.mp hu).1
      have l2 := (List.getElem?_eq_some_iff.mp hu2).1
      have l3 := (List.getElem?_eq_some_iff.mp hu3).1
      rw [List.size_toArray, List.size_toArray, List.size_toArray]; omega
    · rintro v h' ⟨T, u', u2', u3', rfl, hT, e1, e2, e3, tup⟩
      have e1' : its.toArray[i]? = some u := by simpa using hu
      have e2' : its2.toArray[i]? = some u2 := by simpa using hu2
      have e3' : its3.toArray[i]? = some u3 := by simpa using hu3
      rw [e1'] at e1
      rw [e2'] at e2
      rw [e3'] at e3
      cases e1
      cases e2
      cases e3
      exact ⟨T, [x, y, zz], [u, u2, u3], rfl, hT, .cons ru (.cons ru2 (.cons ru3 .nil)), tup, by show 3 ≤ sizeLine; decide, fun hn => ⟨T, x, y, zz, rfl, hn, rfl, fun l hl => by rw [sq_inj I hl hqx]; exact hx, fun l hl => by rw [sq_inj I hl hqy]; exact hy, fun l hl => by rw [sq_inj I hl hqz]; exact hzz⟩⟩
  · intro X hP hw hK hc i pins s σ H I st hg
    subst hP hw hK
    obtain ⟨hz, hTI, hTO, h1, h2, h3⟩ := st
    obtain ⟨xs, ys, zs, hqx, hqy, hqz, hend⟩ := hg
    obtain ⟨its, rv, p, _⟩ := sq_inv I hqx
    obtain ⟨its2, rv2, p2, _⟩ := sq_inv I hqy
    obtain ⟨its3, rv3, p3, _⟩ := sq_inv I hqz
    have hh : X.A.in1.handled = none := I.ok.hd hc
    have hn : min (min its.toArray.size its2.toArray.size) its3.toArray.size = i := by
      rw [List.size_toArray, List.size_toArray, List.size_toArray, ← rv.length, ← rv2.length, ← rv3.length]; exact hend
    have W := GoesN.zip3 (prog := X.prog) (w := X.w) (elts := elts) (x1 := kk) (pos := tpos) S (draws_s hh t1 i1 a n1 its.toArray) (draws_s hh t2 i2 b n2 its2.toArray) (draws_s hh t3 i3 c n3 its3.toArray)
    rw [hn] at W
    exact ⟨_, _, _, _, W, fun d hd => by simp at hd ⊢; rcases hd with h | h | h | h | h <;> simp [h], ⟨hz, hTI, hTO, ⟨h1, p⟩, ⟨h2, p2⟩, ⟨h3, p3⟩⟩⟩
def iZip3 (K : PySem.W.Frag) (ta : TA) : TI := fun σ H R => ta σ H fun vs H1 => ∃ t1 a t2 b t3 c xs ys zs, vs = [.ref a, .ref b, .ref c] ∧ SqS t1 K H1 a xs ∧ SqS t2 K H1 b ys ∧ SqS t3 K H1 c zs ∧ R (Itz3 K t1 a t2 b t3 c) H1
theorem pi_zip3 {X : Cx} {e e2 e3 : Expr} {ta : TA} {p pos tpos : Pos} {elts : List Expr} {kk : Nat} (hg : Gl X "zip") (hm : X.mg "zip" = none) (ha : PA X [e, e2, e3] ta)
    (hs : starEach [e, e2, e3] X.env = (false, eval e X.env) :: starEach [e2, e3] X.env) (hpl : (backTo pos (starEach [e2, e3] X.env)).any (·.1) = false) :
    PI X (.Tuple elts kk tpos) (.Call (.Name "zip" p) [e, e2, e3] [] pos) (iZip3 X.K ta) := by
  refine ⟨fun pins s σ H R I h => ?_⟩
  refine Call_ (ld_blt I hg hm PyProof.Rows.boot_zip (PyProof.Rows.callWith_type1 (thn (ha.run pos pins s σ H _ I h) fun us s1 ⟨vs, H1, I1, r1, q1⟩ => ?_) hs hpl))
  obtain ⟨t1, a, t2, b, t3, c, xs, ys, zs, ex, hqx, hqy, hqz, q⟩ := q1
  subst ex
  cases r1 with
  | cons r rr =>
    cases rr with
    | cons r' rr =>
      cases rr with
      | cons r'' rr =>
        cases rr
        cases r
        cases r'
        cases r''
        obtain ⟨its, rv, p1, _⟩ := sq_inv I1 hqx
        obtain ⟨its2, rv2, p2, _⟩ := sq_inv I1 hqy
        obtain ⟨its3, rv3, p3, _⟩ := sq_inv I1 hqz
        have la := p1.lt
        have lb := p2.lt
        have lc := p3.lt
        refine zip_begins3 (begins_s t1 a its.toArray) (begins_s t2 b its2.toArray) (begins_s t3 c its3.toArray) p1 p2 p3 fun h' hz hTI hTO g1 g2 g3 hsz hk => wpAny_pyIter_zip hz ?_
        have I2 : L2.Inv X pins σ H1 { s1 with heap := h' } := I1.kept (t' := s1.toks) hk
        refine ⟨s1.heap.objs.size + 5, [s1.heap.objs.size + 5, s1.heap.objs.size + 3, s1.heap.objs.size + 4, s1.heap.objs.size, s1.heap.objs.size + 1, s1.heap.objs.size + 2], _, _, H1, rfl, I2,
          turn_zip3 (zip_sep3 (fp1 := [a]) (fp2 := [b]) (fp3 := [c]) (by simpa using la) (by simpa using lb) (by simpa using lc)) (Nat.ne_of_lt la) (Nat.ne_of_lt (Nat.lt_succ_of_lt lb)) (Nat.ne_of_lt (Nat.lt_succ_of_lt (Nat.lt_succ_of_lt lc))), ⟨hz, hTI, ⟨_, _, _, hTO⟩, itAt0 g1, itAt0 g2, itAt0 g3⟩, fun d hdm => ?_, q⟩
        have hle : s1.heap.objs.size ≤ d := by
          have e' : d = s1.heap.objs.size + 5 ∨ d = s1.heap.objs.size + 3 ∨ d = s1.heap.objs.size + 4 ∨ d = s1.heap.objs.size ∨ d = s1.heap.objs.size + 1 ∨ d = s1.heap.objs.size + 2 := by simpa using hdm
          rcases e' with z | z | z | z | z | z <;> rw [z] <;> first | exact Nat.le_refl _ | exact Nat.le_add_right _ _
        exact I1.fpOk hle (I1.hok.fresh hle)
/-- three things in a new tuple -/
def YTri (f g k : Nat → Option V) : Nat → Hp → V → Hp → Prop := fun i H v H' => ∃ T x y z, v = .ref T ∧ H T = none ∧ H' = upd H T (.tup [x, y, z]) ∧ f i = some x ∧ g i = some y ∧ k i = some z
theorem walk_zip3 {K : PySem.W.Frag} {t1 t2 t3 : Bool} {a b c : Addr} {xs ys zs : List V} {n : Nat} (hn : n = min (min xs.length ys.length) zs.length) : Walk (Itz3 K t1 a t2 b t3 c) n (fun H => SqS t1 K H a xs ∧ SqS t2 K H b ys ∧ SqS t3 K H c zs) (YTri (fun i => xs[i]?) (fun i => ys[i]?) (fun i => zs[i]?)) := by
  subst hn
  refine ⟨fun i H hi z => ?_, fun H z => ⟨xs, ys, zs, z.1, z.2.1, z.2.2, rfl⟩, fun i H v H' _ z y => ?_⟩
  · have h1 : i < xs.length := by omega
    have h2 : i < ys.length := by omega
    have h3 : i < zs.length := by omega
    exact ⟨xs, ys, zs, xs[i], ys[i], zs[i], z.1, z.2.1, z.2.2, by simp [h1], by simp [h2], by simp [h3]⟩
  · obtain ⟨T, x, u, u', h1, h2, h3, h4, h5, h6⟩ := y
    exact ⟨T, x, u, u', h1, h2, h3, h4 xs z.1, h5 ys z.2.1, h6 zs z.2.2⟩
end TK

/-! the reflected layer, 10: what is walked; comprehensions -/
namespace TK
open PySem PySem.Spec PyProof.Rows L2
/-- lists and tuples are short -/
def HLen (K : PySem.W.Frag) (H : Hp) : Prop := ∀ a xs, (SqL K H a xs ∨ H a = some (.tup xs)) → xs.length ≤ sizeLine
theorem _root_.L2.Inv.hlen {X : Cx} {pins : List (Addr × Obj)} {σ : L2.St} {H : Hp} {s : Shared} (I : L2.Inv X pins σ H s) : HLen X.K H := fun a xs h => by
  rcases h with h | h
  · obtain ⟨_, _, _, z⟩ := I.list h
    exact z
  · obtain ⟨z, _⟩ : xs.length ≤ sizeLine ∧ _ := I.hok a _ h
    exact z
theorem _root_.L2.PI.len {X : Cx} {tg it : Expr} {wi : TI} (h : PI X tg it wi) : PI X tg it (fun σ H R => wi σ H fun J H1 => HLen X.K H1 → R J H1) :=
  ⟨fun pins s σ H R I q => thn (h.run pins s σ H _ I q) fun v s1 h1 => thn h1 fun u s2 h2 => by
    obtain ⟨it, fp, tn, J, H', e1, I2, e3, e4, e5, e6⟩ := h2
    exact ⟨it, fp, tn, J, H', e1, I2, e3, e4, e5, e6 I2.hlen⟩⟩
theorem _root_.L2.PI.weak {X : Cx} {tg it : Expr} {wi wi' : TI} (h : PI X tg it wi) (i : ∀ σ H R, wi' σ H R → wi σ H R) : PI X tg it wi' := ⟨fun pins s σ H R I q => h.run pins s σ H R I (i σ H R q)⟩
theorem _root_.L2.PI.or {X : Cx} {tg it : Expr} {wi wi' : TI} (h : PI X tg it wi) (h' : PI X tg it wi') : PI X tg it (fun σ H R => wi σ H R ∨ wi' σ H R) := ⟨fun pins s σ H R I q => q.elim (h.run pins s σ H R I) (h'.run pins s σ H R I)⟩
abbrev Objs := List (Addr × HO)
def AtO (objs : Objs) (H : Hp) : Prop := ∀ p ∈ objs, H p.1 = some p.2
/-- new objects, one after the other -/
inductive New : Hp → Hp → Prop
  | refl (H : Hp) : New H H
  | step {H H1 : Hp} {T : Addr} {o : HO} (n : New H H1) (h : H1 T = none) : New H (upd H1 T o)
theorem Rel.postN {K : PySem.W.Frag} {w : Dr} {O0 O : Addr → Bool} {H0 H H' : Hp} {σ : L2.St} {env : Env} {st : DSt} (R : Rel K w O0 H0 O σ H env st) (n : New H H') : Post O w.ps H st H' := by
  induction n with
  | refl => exact R.here
  | step n h ih => exact ih.trans ((R.post ih).post_new h)
/-- what a walk gives: the i-th item, read in any later heap that keeps what may be read -/
def YOk (w : Dr) (G : Hp) (items : List D) (Y : Nat → Hp → V → Hp → Prop) : Prop :=
  ∀ i H1 x H2 O1, i < items.length → Y i H1 x H2 → Le G (hid H1 O1) → (∀ a, O1 a = true → H1 a ≠ none) → New H1 H2 ∧ ∃ d, items[i]? = some d ∧ Rp w (hid H2 O1) x d
theorem tok_of {w : Dr} {G : Hp} {v : V} {d : D} (h : Rp w G v d) (e : isTok d = true) : v = .ref w.ps := by
  cases h with
  | tok => rfl
  | dK a b =>
    cases b with
    | nil => cases e
    | cons hk hv hr => rename_i k _ _ _ _ ; cases k <;> cases e
  | dT a b => cases e
  | scr => cases e
  | _ => cases e
theorem scr_of {w : Dr} {G : Hp} {v : V} {d : D} {l : List D} (h : Rp w G v d) (e : d = .dict [(.none, .list l)]) : v = .ref w.sa ∧ l = w.ns.map .int := by
  cases h with
  | tok => cases e
  | dK a b =>
    cases b with
    | nil => cases e
    | cons hk hv hr => rename_i k _ _ _ _ ; cases k <;> cases e
  | dT a b => cases e
  | scr => cases e; exact ⟨rfl, rfl⟩
  | _ => cases e
theorem bp_tok {w : Dr} {O : Addr → Bool} {H : Hp} {v : V} {d : D} (h : Bp w O H v d) (e : isTok d = true) : v = .ref w.ps := by
  rcases h with h | ⟨p, rfl, _, _, h⟩
  · exact tok_of h e
  · cases h with
    | lst _ _ => cases e
    | dK a b =>
      cases b with
      | nil => cases e
      | cons hk hv hr => rename_i k _ _ _ _ ; cases k <;> cases e
    | dT _ _ => cases e
theorem bp_scr {w : Dr} {O : Addr → Bool} {H : Hp} {v : V} {d : D} {l : List D} (h : Bp w O H v d) (e : d = .dict [(.none, .list l)]) : v = .ref w.sa ∧ l = w.ns.map .int := by
  rcases h with h | ⟨p, rfl, _, _, h⟩
  · exact scr_of h e
  · cases h with
    | lst _ _ => cases e
    | dK a b =>
      cases b with
      | nil => cases e
      | cons hk hv hr => rename_i k _ _ _ _ ; cases k <;> cases e
    | dT _ _ => cases e
/-- borrowed (true) or handed on (false) -/
def evM (m : Bool) (Γ : List FnSem) (env : Env) (A : TK.E) : M D := if m then orB env A (ev Γ env A) else ev Γ env A
def evsM (m : Bool) (Γ : List FnSem) (env : Env) (A : List TK.E) : M (List D) := if m then evsB Γ env A else evs Γ env A
def BpM (m : Bool) (w : Dr) (O : Addr → Bool) (H : Hp) (v : V) (d : D) : Prop := Bp w O H v d ∧ (m = false → Rp w (hid H O) v d)
theorem BpM.ext {m : Bool} {w : Dr} {O : Addr → Bool} {H H' : Hp} {v : V} {d : D} (e : Ext O w.ps H H') (h : BpM m w O H v d) : BpM m w O H' v d := ⟨h.1.ext e, fun q => (h.2 q).mono e.le⟩
section
variable (K : PySem.W.Frag) (mg : Str → Option Value) (E : XK) (Γ : List FnSem)
def rdM (m : Bool) (T : TK.E) : TE := fun σ H Q => ∃ w O0 H0 O env st r st', Rel K w O0 H0 O σ H env st ∧ evM m Γ env T st = some (r, st') ∧ Out mg E O w.ps H r st' fun d H' => ∀ v, BpM m w O H' v d → Q v H'
/-- readings of a walk: over borrowed things, over things that may be read while others are written -/
def rdI (m : Bool) (k : IK) (src : List TK.E) : TI := fun σ H R => ∃ w O0 H0 O env st r st', Rel K w O0 H0 O σ H env st ∧ (evsM m Γ env src >>= fun ds => liftO (walkL k ds)) st = some (r, st') ∧
  Out mg E O w.ps H r st' fun items H' => ∀ J, (∃ (objs : Objs) (Y : Nat → Hp → V → Hp → Prop), AtO objs H' ∧ Walk J items.length (fun H => AtO objs H ∧ SqL K H w.sa (w.ns.map V.int)) Y ∧ YOk w (hid H' O) items Y ∧ (∀ p ∈ objs, p.1 ≠ w.ps ∧ (m = false → O p.1 = false) ∧ ((∃ xs, p.2 = .lst xs) ∨ (∃ xs, p.2 = .tup xs) ∨ ∃ od u, p.2 = .frz od u ∧ O p.1 = false))) → items.length ≤ sizeLine → R J H'
end
theorem Bp.ne_ps {K : PySem.W.Frag} {w : Dr} {O0 O : Addr → Bool} {H0 H : Hp} {σ : L2.St} {env : Env} {st : DSt} {a : Addr} {ds : List D} (R : Rel K w O0 H0 O σ H env st) (h : Bp w O H (.ref a) (.list ds)) : a ≠ w.ps := by
  rcases h with h | ⟨p, e, _, h, _⟩
  · cases h with
    | lst z _ => exact fun e => by rw [e, hid_no (R.sub _ R.ops)] at z; cases z
  · cases e; exact h
theorem Bp.ne_psT {K : PySem.W.Frag} {w : Dr} {O0 O : Addr → Bool} {H0 H : Hp} {σ : L2.St} {env : Env} {st : DSt} {a : Addr} {ds : List D} (R : Rel K w O0 H0 O σ H env st) (h : Bp w O H (.ref a) (.tuple ds)) : a ≠ w.ps := by
  rcases h with h | ⟨p, e, _, h, z⟩
  · cases h with
    | tup z _ => exact fun e => by rw [e, hid_no (R.sub _ R.ops)] at z; cases z
  · cases z
theorem rp_free {w : Dr} {O : Addr → Bool} {H : Hp} {a : Addr} {ds : List D} (h : Rp w (hid H O) (.ref a) (.list ds)) : O a = false := by
  cases h with
  | lst z _ => exact (hid_some z).1
theorem rp_freeT {w : Dr} {O : Addr → Bool} {H : Hp} {a : Addr} {ds : List D} (h : Rp w (hid H O) (.ref a) (.tuple ds)) : O a = false := by
  cases h with
  | tup z _ => exact (hid_some z).1
theorem evsM1 {m : Bool} {Γ : List FnSem} {env : Env} {A : TK.E} {k : IK} {st st' : DSt} {r : Except Str (List D)} (q : (evsM m Γ env [A] >>= fun ds => liftO (walkL k ds)) st = some (r, st')) :
    (evM m Γ env A >>= fun d => liftO (walkL k [d])) st = some (r, st') := by
  cases m with
  | true =>
    have q : ((orB env A (ev Γ env A) >>= fun d => (pure [] : M (List D)) >>= fun ds => pure (d :: ds)) >>= fun ds => liftO (walkL k ds)) st = some (r, st') := q
    rw [bind_assoc'] at q
    exact q
  | false =>
    have q : ((ev Γ env A >>= fun d => (pure [] : M (List D)) >>= fun ds => pure (d :: ds)) >>= fun ds => liftO (walkL k ds)) st = some (r, st') := q
    rw [bind_assoc'] at q
    exact q
theorem rdM_bind {K : PySem.W.Frag} {mg : Str → Option Value} {E : XK} {Γ : List FnSem} {w : Dr} {O0 O : Addr → Bool} {H0 H : Hp} {σ : L2.St} {env : Env} {st st2 : DSt} {m : Bool} {α : Type} {T : TK.E} {f : D → M α} {r : Except Str α} {Qo : α → Hp → Prop} {Q : VK} (R : Rel K w O0 H0 O σ H env st) (h : (evM m Γ env T >>= f) st = some (r, st2)) (o : Out mg E O w.ps H r st2 Qo)
    (k : ∀ d st1 v H1, Rel K w O0 H0 O σ H1 env st1 → Post O w.ps H st1 H1 → BpM m w O H1 v d → f d st1 = some (r, st2) → Out mg E O w.ps H1 r st2 Qo → Q v H1) : rdM K mg E Γ m T σ H Q := by
  rcases bind_inv h with ⟨c, h1, rfl⟩ | ⟨d, st1, h1, h2⟩
  · exact ⟨w, O0, H0, O, env, st, _, _, R, h1, o⟩
  · exact ⟨w, O0, H0, O, env, st, _, _, R, h1, fun H1 p v q => k d st1 v H1 (R.post p) p q h2 (o.later p)⟩
theorem s_mB {X : Cx} {E : XK} {Γ : List FnSem} {e : Expr} {A : TK.E} (h : PE X e (rdB X.K X.mg E Γ A)) : PE X e (rdM X.K X.mg E Γ true A) := h.weak fun σ H Q q => by
  obtain ⟨w, O0, H0, O, env, st, rr, st', R, q, oo⟩ := q
  refine ⟨w, O0, H0, O, env, st, rr, st', R, q, ?_⟩
  cases rr with
  | ok d => exact fun H' p v b => oo H' p v ⟨b, fun z => by cases z⟩
  | error c => exact oo
theorem s_mV {X : Cx} {E : XK} {Γ : List FnSem} {e : Expr} {A : TK.E} (h : PE X e (rd X.K X.mg E Γ A)) : PE X e (rdM X.K X.mg E Γ false A) := h.weak fun σ H Q q => by
  obtain ⟨w, O0, H0, O, env, st, rr, st', R, q, oo⟩ := q
  refine ⟨w, O0, H0, O, env, st, rr, st', R, q, ?_⟩
  cases rr with
  | ok d => exact fun H' p v b => oo H' p v ⟨.inl b, fun _ => b⟩
  | error c => exact oo
theorem chars_at {z : Str} {i : Nat} {c : Nat} (h : z.cps[i]? = some c) : (chars z)[i]? = some (.str ⟨#[c]⟩) := by
  unfold chars
  rw [List.getElem?_map, Array.getElem?_toList, h]
  rfl
section
variable {X : Cx} {E : XK} {Γ : List FnSem} {k : Nat} {tg : Expr} {m : Bool}
theorem yat_ok {w : Dr} {G : Hp} {xs : List V} {ds : List D} (r : RpAll w G xs ds) : YOk w G ds (YAt xs) := fun i H1 x H2 O1 hi y le alc => by
  obtain ⟨rfl, hx⟩ := y
  obtain ⟨d, e, rp⟩ := r.get hx
  exact ⟨.refl _, d, e, rp.mono le⟩
theorem ypair_ok {w : Dr} {G : Hp} {xs ys : List V} {ds es : List D} (r : RpAll w G xs ds) (r' : RpAll w G ys es) : YOk w G ((ds.zip es).map fun p => .tuple [p.1, p.2]) (YPair (fun i => xs[i]?) (fun i => ys[i]?)) := fun i H1 x H2 O1 hi y le alc => by
  obtain ⟨T, x1, x2, rfl, hT, rfl, e1, e2⟩ := y
  obtain ⟨d1, f1, rp1⟩ := r.get e1
  obtain ⟨d2, f2, rp2⟩ := r'.get e2
  have oT : O1 T = false := by
    cases z : O1 T with
    | false => rfl
    | true => exact absurd hT (alc T z)
  refine ⟨.step (.refl _) hT, .tuple [d1, d2], ?_, .tup (by rw [hid_of oT]; exact upd_same) ?_⟩
  · rw [List.getElem?_map, (List.getElem?_zip_eq_some (z := (d1, d2))).mpr ⟨f1, f2⟩]
    rfl
  · have le2 : Le (hid H1 O1) (hid (upd H1 T (.tup [x1, x2])) O1) := (Ext.new (ps := w.ps) hT).le
    exact .cons (rp1.mono (le.trans le2)) (.cons (rp2.mono (le.trans le2)) .nil)
theorem i_plain {e : Expr} {A : TK.E} (h : PE X e (rdM X.K X.mg E Γ m A)) : PI X tg e (rdI X.K X.mg E Γ m .plain [A]) := by
  refine (((pi_list h).or (pi_tup h)).or (pi_str h)).len.weak fun σ H R q => ?_
  obtain ⟨w, O0, H0, O, env, st, rr, st', Re, q, oo⟩ := q
  have q' := evsM1 q
  rcases bind_inv q' with ⟨c, h1, rfl⟩ | ⟨d, st1, h1, h2⟩
  · exact .inl (.inl ⟨w, O0, H0, O, env, st, .error c, _, Re, h1, oo⟩)
  · obtain ⟨items, h3, rfl, rfl⟩ := liftO_inv h2
    cases d with
    | list l =>
      cases h3
      refine .inl (.inl ⟨w, O0, H0, O, env, st, .ok _, _, Re, h1, fun H1 p1 v b1 => ?_⟩)
      obtain ⟨a, xs, rfl, g1, r1⟩ := b1.1.list
      have np := b1.1.ne_ps (Re.post p1)
      refine ⟨a, rfl, ⟨xs, SqL.of g1⟩, fun hl => oo H1 p1 _ ⟨[(a, .lst xs)], YAt xs, fun p hp => ?_, ?_, yat_ok r1, fun p hp => ?_⟩ (by rw [← r1.length]; exact hl a xs (.inl (SqL.of g1)))⟩
      · rw [List.mem_singleton.mp hp]; exact g1
      · rw [← r1.length]
        exact walk_list.mono (fun H z => SqL.of (z.1 (a, .lst xs) List.mem_cons_self)) fun _ _ _ _ _ _ y => y
      · rw [List.mem_singleton.mp hp]; exact ⟨np, fun z => rp_free (b1.2 z), .inl ⟨xs, rfl⟩⟩
    | tuple l =>
      cases h3
      refine .inl (.inr ⟨w, O0, H0, O, env, st, .ok _, _, Re, h1, fun H1 p1 v b1 => ?_⟩)
      obtain ⟨a, xs, rfl, g1, r1⟩ := b1.1.tuple
      have np := b1.1.ne_psT (Re.post p1)
      refine ⟨a, rfl, ⟨xs, SqT.of g1⟩, fun hl => oo H1 p1 _ ⟨[(a, .tup xs)], YAt xs, fun p hp => ?_, ?_, yat_ok r1, fun p hp => ?_⟩ (by rw [← r1.length]; exact hl a xs (.inr g1))⟩
      · rw [List.mem_singleton.mp hp]; exact g1
      · rw [← r1.length]
        exact walk_tup.mono (fun H z => SqT.of (z.1 (a, .tup xs) List.mem_cons_self)) fun _ _ _ _ _ _ y => y
      · rw [List.mem_singleton.mp hp]; exact ⟨np, fun z => rp_freeT (b1.2 z), .inr (.inl ⟨xs, rfl⟩)⟩
    | str z =>
      simp only [walkL] at h3
      split at h3
      · rename_i hz
        cases h3
        refine .inr ⟨w, O0, H0, O, env, st, .ok _, _, Re, h1, fun H1 p1 v b1 => ?_⟩
        obtain ⟨rfl, ok⟩ := b1.1.str
        have hlen : (chars z).length = z.cps.size := by unfold chars; rw [List.length_map, Array.length_toList]
        refine ⟨z, rfl, fun hl => oo H1 p1 _ ⟨[], fun i H v H' => H' = H ∧ ∃ c, z.cps[i]? = some c ∧ v = .str ⟨#[c]⟩, fun p hp => (nomatch hp), ?_, fun i H2 x H3 O1 hi y le alc => ?_, fun p hp => (nomatch hp)⟩ (by rw [hlen]; exact hz)⟩
        · rw [hlen]
          exact walk_str.mono (fun H _ => True.intro) fun _ _ _ _ _ _ y => y
        · obtain ⟨rfl, c, e1, rfl⟩ := y
          exact ⟨.refl _, _, chars_at e1, .str _ (strOk_one ok (by rw [← Array.getElem?_toList] at e1; exact List.mem_of_getElem? e1))⟩
      · cases h3
    | dict l =>
      have hl : ∃ l', (PyData.dict l) = .dict [(.none, .list l')] ∧ items = l' := by
        simp only [walkL] at h3
        split at h3
        all_goals first | (cases h3; done) | skip
        all_goals simp_all
      obtain ⟨l', e1, rfl⟩ := hl
      refine .inl (.inl ⟨w, O0, H0, O, env, st, .ok _, _, Re, h1, fun H1 p1 v b1 => ?_⟩)
      obtain ⟨rfl, rfl⟩ := bp_scr b1.1 e1
      have R1 := Re.post p1
      have sq : SqL X.K H1 w.sa (w.ns.map V.int) := hid_le.sqL R1.scr
      have rall : ∀ (l : List Int), RpAll w (hid H1 O) (l.map V.int) (l.map PyData.int) := by
        intro l
        induction l with
        | nil => exact .nil
        | cons n l ih => exact .cons (.int n) ih
      refine ⟨w.sa, rfl, ⟨_, sq⟩, fun hl => oo H1 p1 _ ⟨[], YAt (w.ns.map V.int), fun p hp => (nomatch hp), ?_, yat_ok (rall w.ns), fun p hp => (nomatch hp)⟩ ?_⟩
      · rw [List.length_map, ← List.length_map (f := V.int)]
        exact walk_list.mono (fun H z => z.2) fun _ _ _ _ _ _ y => y
      · rw [List.length_map, ← List.length_map (f := V.int)]
        exact hl _ _ (.inl sq)
    | _ => cases h3
theorem range_at {lo : Int} {n i : Nat} (h : i < n) : (rangeL lo n)[i]? = some (.int (lo + (i : Int))) := by
  unfold rangeL
  rw [List.getElem?_map, List.getElem?_range h]
  rfl
theorem range_len {lo : Int} {n : Nat} : (rangeL lo n).length = n := by unfold rangeL; rw [List.length_map, List.length_range]
theorem lim_eq : lim = 16777216 := sizeLine_eq
theorem i_range1 {e : Expr} {A : TK.E} {p pos : Pos} (hg : Gl X "range") (hm : X.mg "range" = none) (h : PE X e (rdM X.K X.mg E Γ m A)) (hs : notStar e = true) : PI X tg (.Call (.Name "range" p) [e] [] pos) (rdI X.K X.mg E Γ m .range1 [A]) := by
  refine (pi_range1 hg hm (pa_cons h pa_nil (star_ok hs)) (star_ok hs)).weak fun σ H R q => ?_
  obtain ⟨w, O0, H0, O, env, st, rr, st', Re, q, oo⟩ := q
  refine rdM_bind Re (evsM1 q) oo fun d st1 v H1 R1 p1 b1 h1 o1 => ?_
  obtain ⟨items, h3, rfl, rfl⟩ := liftO_inv h1
  cases d with
  | int n =>
    simp only [walkL] at h3
    split at h3
    · rename_i hn
      cases h3
      obtain rfl := b1.1.int
      rw [lim_eq] at hn
      refine ⟨n, rfl, by omega, by omega, o1 H1 R1.here _ ⟨[], YFn fun i => .int (0 + (i : Int)), fun p hp => (nomatch hp), ?_, fun i H2 x H3 O1 hi y le alc => ?_, fun p hp => (nomatch hp)⟩ (by rw [range_len, sizeLine_eq]; omega)⟩
      · rw [range_len]
        exact walk_range.mono (fun H _ => True.intro) fun _ _ _ _ _ _ y => y
      · obtain ⟨rfl, rfl⟩ := y
        rw [range_len] at hi
        exact ⟨.refl _, _, range_at hi, .int _⟩
    · cases h3
  | _ => simp [walkL] at h3
theorem evsM2 {env : Env} {A B : TK.E} {k : IK} {st st' : DSt} {r : Except Str (List D)} (q : (evsM m Γ env [A, B] >>= fun ds => liftO (walkL k ds)) st = some (r, st')) :
    (evM m Γ env A >>= fun d => evM m Γ env B >>= fun e => liftO (walkL k [d, e])) st = some (r, st') := by
  cases m with
  | true =>
    have q : ((orB env A (ev Γ env A) >>= fun d => (orB env B (ev Γ env B) >>= fun e => (pure [] : M (List D)) >>= fun ds => pure (e :: ds)) >>= fun ds => pure (d :: ds)) >>= fun ds => liftO (walkL k ds)) st = some (r, st') := q
    simp only [bind_assoc'] at q
    exact q
  | false =>
    have q : ((ev Γ env A >>= fun d => (ev Γ env B >>= fun e => (pure [] : M (List D)) >>= fun ds => pure (e :: ds)) >>= fun ds => pure (d :: ds)) >>= fun ds => liftO (walkL k ds)) st = some (r, st') := q
    simp only [bind_assoc'] at q
    exact q
theorem i_range2 {e e' : Expr} {A B : TK.E} {p pos : Pos} (hg : Gl X "range") (hm : X.mg "range" = none) (h : PE X e (rdM X.K X.mg E Γ m A)) (h' : PE X e' (rdM X.K X.mg E Γ m B)) (hs : notStar e = true) (hs' : notStar e' = true) : PI X tg (.Call (.Name "range" p) [e, e'] [] pos) (rdI X.K X.mg E Γ m .range2 [A, B]) := by
  refine (pi_range2 hg hm (pa_cons h (pa_cons h' pa_nil (star_ok hs')) (star_ok hs)) (by rw [star_ok hs, star_ok hs']; rfl) (star_ok hs')).weak fun σ H R q => ?_
  obtain ⟨w, O0, H0, O, env, st, rr, st', Re, q, oo⟩ := q
  refine rdM_bind Re (evsM2 q) oo fun d st1 v H1 R1 p1 b1 h1 o1 => ?_
  refine rdM_bind R1 h1 o1 fun d' st2 v' H2 R2 p2 b2 h2 o2 => ?_
  obtain ⟨items, h3, rfl, rfl⟩ := liftO_inv h2
  cases d with
  | int a =>
    cases d' with
    | int b =>
      simp only [walkL] at h3
      split at h3
      · rename_i hn
        cases h3
        obtain rfl := b1.1.int
        obtain rfl := b2.1.int
        refine ⟨a, b, rfl, ⟨by omega, by omega, by omega, by omega⟩, o2 H2 R2.here _ ⟨[], YFn fun i => .int (a + (i : Int)), fun p hp => (nomatch hp), ?_, fun i H2 x H3 O1 hi y le alc => ?_, fun p hp => (nomatch hp)⟩ (by rw [range_len, sizeLine_eq]; omega)⟩
        · rw [range_len]
          exact walk_range.mono (fun H _ => True.intro) fun _ _ _ _ _ _ y => y
        · obtain ⟨rfl, rfl⟩ := y
          rw [range_len] at hi
          exact ⟨.refl _, _, range_at hi, .int _⟩
      · cases h3
    | _ => simp [walkL] at h3
  | _ => simp [walkL] at h3
theorem zip_len {ds es : List D} : ((ds.zip es).map fun (p : D × D) => PyData.tuple [p.1, p.2]).length = min ds.length es.length := by rw [List.length_map, List.length_zip]
/-- a list or a tuple -/
def HOs : Bool → List V → HO
  | true, xs => .tup xs
  | false, xs => .lst xs
theorem SqS.of {K : PySem.W.Frag} {H : Hp} {t : Bool} {a : Addr} {xs : List V} (h : H a = some (HOs t xs)) : SqS t K H a xs := by
  cases t
  · exact SqL.of h
  · exact SqT.of h
theorem HOs.is {Z : Prop} (t : Bool) (xs : List V) : (∃ ys, HOs t xs = .lst ys) ∨ (∃ ys, HOs t xs = .tup ys) ∨ Z := by
  cases t
  · exact .inl ⟨xs, rfl⟩
  · exact .inr (.inl ⟨xs, rfl⟩)
theorem seq_src {K : PySem.W.Frag} {w : Dr} {O0 O : Addr → Bool} {H0 H : Hp} {σ : L2.St} {env : Env} {st : DSt} {m : Bool} {v : V} {d : D} {l : List D} (R : Rel K w O0 H0 O σ H env st) (b : BpM m w O H v d) (e : seqOf d = some l) :
    ∃ t a xs, v = .ref a ∧ H a = some (HOs t xs) ∧ RpAll w (hid H O) xs l ∧ a ≠ w.ps ∧ (m = false → O a = false) := by
  cases d with
  | list l' =>
    cases e
    obtain ⟨a, xs, rfl, g1, r1⟩ := b.1.list
    exact ⟨false, a, xs, rfl, g1, r1, b.1.ne_ps R, fun z => rp_free (b.2 z)⟩
  | tuple l' =>
    cases e
    obtain ⟨a, xs, rfl, g1, r1⟩ := b.1.tuple
    exact ⟨true, a, xs, rfl, g1, r1, b.1.ne_psT R, fun z => rp_freeT (b.2 z)⟩
  | _ => cases e
theorem SqS.len {K : PySem.W.Frag} {H : Hp} {t : Bool} {a : Addr} {xs : List V} (h : H a = some (HOs t xs)) (hl : ∀ (a : Addr) (xs : List V), (SqL K H a xs ∨ H a = some (.tup xs)) → xs.length ≤ sizeLine) : xs.length ≤ sizeLine := by
  cases t
  · exact hl a xs (.inl (SqL.of h))
  · exact hl a xs (.inr h)
theorem i_zip {e e' : Expr} {A B : TK.E} {p pos tpos : Pos} {elts : List Expr} {kk : Nat} (hg : Gl X "zip") (hm : X.mg "zip" = none) (h : PE X e (rdM X.K X.mg E Γ m A)) (h' : PE X e' (rdM X.K X.mg E Γ m B)) (hs : notStar e = true) (hs' : notStar e' = true) :
    PI X (.Tuple elts kk tpos) (.Call (.Name "zip" p) [e, e'] [] pos) (rdI X.K X.mg E Γ m .zip2 [A, B]) := by
  refine (pi_zipS hg hm (pa_cons h (pa_cons h' pa_nil (star_ok hs')) (star_ok hs)) (star_ok hs) (star_any (by rw [List.all_cons, hs']; rfl))).len.weak fun σ H R q => ?_
  obtain ⟨w, O0, H0, O, env, st, rr, st', Re, q, oo⟩ := q
  refine rdM_bind Re (evsM2 q) oo fun d st1 v H1 R1 p1 b1 h1 o1 => ?_
  refine rdM_bind R1 h1 o1 fun d' st2 v' H2 R2 p2 b2 h2 o2 => ?_
  have b1 := b1.ext p2.1
  obtain ⟨items, h3, rfl, rfl⟩ := liftO_inv h2
  obtain ⟨x, hx, h4⟩ := Option.bind_eq_some_iff.mp (show ((seqOf d).bind fun x => (seqOf d').map fun y => (x.zip y).map fun p => PyData.tuple [p.1, p.2]) = some items from h3)
  obtain ⟨y, hy, rfl⟩ := Option.map_eq_some_iff.mp h4
  obtain ⟨t1, a, xs, rfl, g1, r1, np1, f1⟩ := seq_src R2 b1 hx
  obtain ⟨t2, a', xs', rfl, g2, r2, np2, f2⟩ := seq_src R2 b2 hy
  refine ⟨t1, a, t2, a', xs, xs', rfl, SqS.of g1, SqS.of g2, fun hl => o2 H2 R2.here _ ⟨[(a, HOs t1 xs), (a', HOs t2 xs')], _, fun p hp => ?_, ?_, ypair_ok r1 r2, fun p hp => ?_⟩ ?_⟩
  · rcases List.mem_cons.mp hp with rfl | hp
    · exact g1
    · rw [List.mem_singleton.mp hp]; exact g2
  · exact (walk_zipS (by rw [zip_len, r1.length, r2.length])).mono (fun H z => ⟨SqS.of (z.1 (a, HOs t1 xs) List.mem_cons_self), SqS.of (z.1 (a', HOs t2 xs') (by simp))⟩) fun _ _ _ _ _ _ y => y
  · rcases List.mem_cons.mp hp with rfl | hp
    · exact ⟨np1, f1, HOs.is t1 xs⟩
    · rw [List.mem_singleton.mp hp]; exact ⟨np2, f2, HOs.is t2 xs'⟩
  · rw [zip_len, ← r1.length]
    have := SqS.len g1 hl
    omega
theorem ytri_ok {w : Dr} {G : Hp} {xs ys zs : List V} {ds es fs : List D} (r : RpAll w G xs ds) (r' : RpAll w G ys es) (r'' : RpAll w G zs fs) : YOk w G ((ds.zip (es.zip fs)).map fun p => .tuple [p.1, p.2.1, p.2.2]) (YTri (fun i => xs[i]?) (fun i => ys[i]?) (fun i => zs[i]?)) := fun i H1 x H2 O1 hi y le alc => by
  obtain ⟨T, x1, x2, x3, rfl, hT, rfl, e1, e2, e3⟩ := y
  obtain ⟨d1, f1, rp1⟩ := r.get e1
  obtain ⟨d2, f2, rp2⟩ := r'.get e2
  obtain ⟨d3, f3, rp3⟩ := r''.get e3
  have oT : O1 T = false := by
    cases z : O1 T with
    | false => rfl
    | true => exact absurd hT (alc T z)
  refine ⟨.step (.refl _) hT, .tuple [d1, d2, d3], ?_, .tup (by rw [hid_of oT]; exact upd_same) ?_⟩
  · rw [List.getElem?_map, (List.getElem?_zip_eq_some (z := (d1, (d2, d3)))).mpr ⟨f1, (List.getElem?_zip_eq_some (z := (d2, d3))).mpr ⟨f2, f3⟩⟩]
    rfl
  · have le2 : Le (hid H1 O1) (hid (upd H1 T (.tup [x1, x2, x3])) O1) := (Ext.new (ps := w.ps) hT).le
    exact .cons (rp1.mono (le.trans le2)) (.cons (rp2.mono (le.trans le2)) (.cons (rp3.mono (le.trans le2)) .nil))
theorem evsM3 {env : Env} {A B C : TK.E} {k : IK} {st st' : DSt} {r : Except Str (List D)} (q : (evsM m Γ env [A, B, C] >>= fun ds => liftO (walkL k ds)) st = some (r, st')) :
    (evM m Γ env A >>= fun d => evM m Γ env B >>= fun e => evM m Γ env C >>= fun f => liftO (walkL k [d, e, f])) st = some (r, st') := by
  cases m with
  | true =>
    have q : ((orB env A (ev Γ env A) >>= fun d => (orB env B (ev Γ env B) >>= fun e => (orB env C (ev Γ env C) >>= fun f => (pure [] : M (List D)) >>= fun ds => pure (f :: ds)) >>= fun ds => pure (e :: ds)) >>= fun ds => pure (d :: ds)) >>= fun ds => liftO (walkL k ds)) st = some (r, st') := q
    simp only [bind_assoc'] at q
    exact q
  | false =>
    have q : ((ev Γ env A >>= fun d => (ev Γ env B >>= fun e => (ev Γ env C >>= fun f => (pure [] : M (List D)) >>= fun ds => pure (f :: ds)) >>= fun ds => pure (e :: ds)) >>= fun ds => pure (d :: ds)) >>= fun ds => liftO (walkL k ds)) st = some (r, st') := q
    simp only [bind_assoc'] at q
    exact q
theorem zip_len3 {ds es fs : List D} : ((ds.zip (es.zip fs)).map fun (p : D × D × D) => PyData.tuple [p.1, p.2.1, p.2.2]).length = min (min ds.length es.length) fs.length := by rw [List.length_map, List.length_zip, List.length_zip, Nat.min_assoc]
theorem i_zip3 {e e' e'' : Expr} {A B C : TK.E} {p pos tpos : Pos} {elts : List Expr} {kk : Nat} (hg : Gl X "zip") (hm : X.mg "zip" = none) (h : PE X e (rdM X.K X.mg E Γ m A)) (h' : PE X e' (rdM X.K X.mg E Γ m B)) (h'' : PE X e'' (rdM X.K X.mg E Γ m C)) (hs : notStar e = true) (hs' : notStar e' = true) (hs'' : notStar e'' = true) :
    PI X (.Tuple elts kk tpos) (.Call (.Name "zip" p) [e, e', e''] [] pos) (rdI X.K X.mg E Γ m .zip3 [A, B, C]) := by
  refine (pi_zip3 hg hm (pa_cons h (pa_cons h' (pa_cons h'' pa_nil (star_ok hs'')) (star_ok hs')) (star_ok hs)) (star_ok hs) (star_any (by rw [List.all_cons, List.all_cons, hs', hs'']; rfl))).len.weak fun σ H R q => ?_
  obtain ⟨w, O0, H0, O, env, st, rr, st', Re, q, oo⟩ := q
  refine rdM_bind Re (evsM3 q) oo fun d st1 v H1 R1 p1 b1 h1 o1 => ?_
  refine rdM_bind R1 h1 o1 fun d' st2 v' H2 R2 p2 b2 h2 o2 => ?_
  refine rdM_bind R2 h2 o2 fun d'' st3 v'' H3 R3 p3 b3 h3' o3 => ?_
  have b1 := (b1.ext p2.1).ext p3.1
  have b2 := b2.ext p3.1
  obtain ⟨items, h3, rfl, rfl⟩ := liftO_inv h3'
  obtain ⟨x, hx, h4⟩ := Option.bind_eq_some_iff.mp (show ((seqOf d).bind fun x => (seqOf d').bind fun y => (seqOf d'').map fun z => (x.zip (y.zip z)).map fun p => PyData.tuple [p.1, p.2.1, p.2.2]) = some items from h3)
  obtain ⟨y, hy, h5⟩ := Option.bind_eq_some_iff.mp h4
  obtain ⟨z, hz, rfl⟩ := Option.map_eq_some_iff.mp h5
  obtain ⟨t1, a, xs, rfl, g1, r1, np1, f1⟩ := seq_src R3 b1 hx
  obtain ⟨t2, a', xs', rfl, g2, r2, np2, f2⟩ := seq_src R3 b2 hy
  obtain ⟨t3, a'', xs'', rfl, g3, r3, np3, f3⟩ := seq_src R3 b3 hz
  refine ⟨t1, a, t2, a', t3, a'', xs, xs', xs'', rfl, SqS.of g1, SqS.of g2, SqS.of g3, fun hl => o3 H3 R3.here _ ⟨[(a, HOs t1 xs), (a', HOs t2 xs'), (a'', HOs t3 xs'')], _, fun p hp => ?_, ?_, ytri_ok r1 r2 r3, fun p hp => ?_⟩ ?_⟩
  · rcases List.mem_cons.mp hp with rfl | hp
    · exact g1
    · rcases List.mem_cons.mp hp with rfl | hp
      · exact g2
      · rw [List.mem_singleton.mp hp]; exact g3
  · exact (walk_zip3 (by rw [zip_len3, r1.length, r2.length, r3.length])).mono (fun H z => ⟨SqS.of (z.1 (a, HOs t1 xs) List.mem_cons_self), SqS.of (z.1 (a', HOs t2 xs') (by simp)), SqS.of (z.1 (a'', HOs t3 xs'') (by simp))⟩) fun _ _ _ _ _ _ y => y
  · rcases List.mem_cons.mp hp with rfl | hp
    · exact ⟨np1, f1, HOs.is t1 xs⟩
    · rcases List.mem_cons.mp hp with rfl | hp
      · exact ⟨np2, f2, HOs.is t2 xs'⟩
      · rw [List.mem_singleton.mp hp]; exact ⟨np3, f3, HOs.is t3 xs''⟩
  · rw [zip_len3, ← r1.length]
    have := SqS.len g1 hl
    omega
/-! ### comprehensions -/
def rdC (K : PySem.W.Frag) (mg : Str → Option Value) (E : XK) (Γ : List FnSem) (T : List TK.E) : TT := fun σ H Q => ∃ w O0 H0 O env st r st', Rel K w O0 H0 O σ H env st ∧ evc Γ env T st = some (r, st') ∧ Out mg E O w.ps H r st' fun b H' => Q b H'
theorem _root_.L2.PTs.weak {X : Cx} {e : List Expr} {t t' : TT} (h : PTs X e t) (i : ∀ σ H Q, t' σ H Q → t σ H Q) : PTs X e t' := ⟨fun pins s σ H Q I q => h.run pins s σ H Q I (i σ H Q q)⟩
theorem c_nil : PTs X [] (rdC X.K X.mg E Γ []) := by
  refine pts_nil.weak fun σ H Q q => ?_
  obtain ⟨w, O0, H0, O, env, st, rr, st', R, q, oo⟩ := q
  obtain ⟨rfl, rfl⟩ := pure_inv (a := true) q
  exact oo H R.here
theorem c_one {c : Expr} {T : TK.E} (h : PT X c (rdT X.K X.mg E Γ T)) : PTs X [c] (rdC X.K X.mg E Γ [T]) := by
  refine (pts_one h).weak fun σ H Q q => ?_
  obtain ⟨w, O0, H0, O, env, st, rr, st', R, q, oo⟩ := q
  have q : (ev Γ env T >>= fun d => tru d >>= fun k => if k then (pure true : M Bool) else pure false) st = some (rr, st') := q
  rcases bind_inv q with ⟨c, h1, rfl⟩ | ⟨d, st1, h1, h2⟩
  · exact ⟨w, O0, H0, O, env, st, .error c, _, R, bind_err (orB_of h1), oo⟩
  · refine ⟨w, O0, H0, O, env, st, rr, st', R, ?_, oo⟩
    rw [bind_eq (orB_of h1)]
    rcases bind_inv h2 with ⟨c, h3, rfl⟩ | ⟨b, st2, h3, h4⟩
    · exact h3
    · cases b with
      | true => obtain ⟨rfl, rfl⟩ := pure_inv (a := true) h4; exact h3
      | false => obtain ⟨rfl, rfl⟩ := pure_inv (a := false) h4; exact h3
theorem compL_cons {f : D → M (Option D)} {d : D} {l : List D} {st st' : DSt} {out : List D} (h : compL f (d :: l) st = some (.ok out, st')) :
    ∃ o st1 rest, f d st = some (.ok o, st1) ∧ compL f l st1 = some (.ok rest, st') ∧ out = (match o with | some x => x :: rest | none => rest) := by
  have h : (f d >>= fun o => compL f l >>= fun rest => (pure (match o with | some x => x :: rest | none => rest) : M (List D))) st = some (.ok out, st') := h
  rcases bind_inv h with ⟨c, _, z⟩ | ⟨o, st1, h1, h2⟩
  · cases z
  · rcases bind_inv h2 with ⟨c, _, z⟩ | ⟨rest, st2, h3, h4⟩
    · cases z
    · obtain ⟨e1, rfl⟩ := pure_inv h4
      cases e1
      exact ⟨o, st1, rest, h1, h3, rfl⟩
theorem noX_inv {α : Type} {x : M α} {st st' : DSt} {r : Except Str α} (h : noX x st = some (r, st')) : ∃ a, r = .ok a ∧ x st = some (.ok a, st') := by
  unfold noX at h
  split at h
  · cases h; exact ⟨_, rfl, by assumption⟩
  · cases h
theorem wipe_but {vs : List Nat} {σ σ' : L2.St} {l : List Nat} (hb : But l σ σ') (hl : ∀ i ∈ l, i ∈ vs) : L2.wipe σ' vs = L2.wipe σ vs := by
  apply List.ext_getElem?
  intro i
  by_cases hi : i ∈ vs
  · have key : ∀ (τ : L2.St), i ∈ vs → (L2.wipe τ vs)[i]? = if i < τ.length then some none else none := by
      intro τ
      clear hb hl hi
      induction vs with
      | nil => intro h; cases h
      | cons v vs ih =>
        intro h
        show ((L2.wipe τ vs).set v none)[i]? = _
        by_cases e : v = i
        · subst e
          by_cases hlt : v < τ.length
          · rw [List.getElem?_set_self (by rw [wipe_length]; exact hlt), if_pos hlt]
          · rw [if_neg hlt, List.getElem?_eq_none (by rw [List.length_set, wipe_length]; omega)]
        · rw [List.getElem?_set_ne e]
          rcases List.mem_cons.mp h with z | z
          · exact absurd z.symm e
          · exact ih z
    rw [key σ' hi, key σ hi, hb.1]
  · rw [wipe_out hi, wipe_out hi]
    exact hb.2 i fun z => hi (hl i z)
theorem wipe_wipe (σ : L2.St) (vs : List Nat) : L2.wipe (L2.wipe σ vs) vs = L2.wipe σ vs := by
  have key : ∀ (ws : List Nat), (∀ i ∈ ws, i ∈ vs) → L2.wipe (L2.wipe σ vs) ws = L2.wipe σ vs := by
    intro ws
    induction ws with
    | nil => intro _; rfl
    | cons v ws ih =>
      intro h
      show (L2.wipe (L2.wipe σ vs) ws).set v none = _
      rw [ih fun i hi => h i (List.mem_cons_of_mem _ hi)]
      apply List.ext_getElem?
      intro i
      by_cases e : v = i
      · subst e
        by_cases hlt : v < (L2.wipe σ vs).length
        · rw [List.getElem?_set_self hlt]
          cases z : (L2.wipe σ vs)[v]? with
          | none => rw [List.getElem?_eq_none_iff] at z; omega
          | some o =>
            cases o with
            | none => rfl
            | some x => exact absurd (h v List.mem_cons_self) (wipe_some z).2
        · rw [List.getElem?_eq_none (by rw [List.length_set]; omega), List.getElem?_eq_none (by omega)]
      · rw [List.getElem?_set_ne e]
  exact key vs fun _ h => h
theorem le_write {H : Hp} {O : Addr → Bool} {p : Addr} {o : HO} (h : O p = true) : Le (hid H O) (hid (upd H p o) O) := fun a u e => by
  obtain ⟨e1, e2⟩ := hid_some e
  have ne : a ≠ p := fun q => by rw [q, h] at e1; cases e1
  exact ⟨u, by rw [hid_of e1, upd_ne ne]; exact e2, .refl u⟩
theorem Ext.upd2 {O : Addr → Bool} {ps : Addr} {H H' : Hp} (e : Ext O ps H H') (p : Addr) (o : HO) : Ext O ps (upd H p o) (upd H' p o) := by
  refine ⟨fun b u z n q => ?_, fun b u z q => ?_⟩
  · by_cases eb : b = p
    · rw [eb, upd_same] at q ⊢; exact q
    · rw [upd_ne eb] at q ⊢; exact e.own b u z n q
  · by_cases eb : b = p
    · rw [eb, upd_same] at q ⊢; exact ⟨u, q, .refl u⟩
    · rw [upd_ne eb] at q ⊢; exact e.rd b u z q
theorem upd_id {H : Hp} {p : Addr} {o : HO} (h : H p = some o) : upd H p o = H := by
  funext b
  by_cases e : b = p
  · rw [e, upd_same, h]
  · rw [upd_ne e]
/-- a new object is what is read -/
def rdN (K : PySem.W.Frag) (mg : Str → Option Value) (E : XK) (Γ : List FnSem) (T : TK.E) : TE := fun σ H Q => ∃ w O0 H0 O env st r st', Rel K w O0 H0 O σ H env st ∧ ev Γ env T st = some (r, st') ∧ (∀ d, r = .ok d → ownB true d = true) ∧ Out mg E O w.ps H r st' fun d H' => ∀ p, H p = none → OwnAt w (addO O p) H' p d → Q (.ref p) H'
theorem OwnAt.rp {w : Dr} {O : Addr → Bool} {H : Hp} {p : Addr} {d : D} (h : OwnAt w (addO O p) H p d) (ho : O p = false) : Rp w (hid H O) (.ref p) d := by
  have le : Le (hid H (addO O p)) (hid H O) := hid_mono fun a z => addO_of z
  cases h with
  | lst a b => exact .lst (by rw [hid_of ho]; exact a) (b.mono le)
  | dK a b => exact .dK (.inl (by rw [hid_of ho]; exact a)) (b.mono le)
  | dT a b => exact .dT (.inl (by rw [hid_of ho]; exact a)) (b.mono le)
theorem Rel.fresh {K : PySem.W.Frag} {w : Dr} {O0 O : Addr → Bool} {H0 H H' : Hp} {σ : L2.St} {env : Env} {st st' : DSt} (R : Rel K w O0 H0 O σ H env st) (P : Post O w.ps H st' H') {p : Addr} (h : H' p = none) : H p = none := by
  have hp : p ≠ w.ps := fun e => by rw [e, P.2] at h; cases h
  cases e : H p with
  | none => rfl
  | some o =>
    cases z : O p with
    | true => rw [P.1.own p o z hp e] at h; cases h
    | false =>
      obtain ⟨o', e', _⟩ := P.1.rd p o z e
      rw [h] at e'; cases e'
theorem s_N2V {e : Expr} {A : TK.E} (hA : ∀ env st r st', ev Γ env A st = some (r, st') → ∀ d, r = .ok d → ownB true d = true) (h : PE X e (rdN X.K X.mg E Γ A)) : PE X e (rd X.K X.mg E Γ A) := h.weak fun σ H Q q => by
  obtain ⟨w, O0, H0, O, env, st, rr, st', R, q, oo⟩ := q
  refine ⟨w, O0, H0, O, env, st, rr, st', R, q, hA _ _ _ _ q, ?_⟩
  cases rr with
  | ok d => exact fun H' p a ha b => oo H' p _ (b.rp (R.free ha))
  | error c => exact oo
theorem tlc_of {K : PySem.W.Frag} {mg : Str → Option Value} {E : XK} {Γ : List FnSem} {vs : List Nat} {tgt : Tg} {ik : IK} {src conds : List TK.E} {T : TK.E} (hsl : ∀ i ∈ slotsT tgt, i ∈ vs) : ∀ σ H Q, rdN K mg E Γ (.comp vs tgt ik src conds T) σ H Q → tLc (rdI K mg E Γ true ik src) (rdG K tgt) (rdC K mg E0 Γ conds) (rd K mg E0 Γ T) vs σ H Q := by
  intro σ H Q q
  obtain ⟨w, O0, H0, O, env, st, rr, st', R, q, _, oo⟩ := q
  let f : D → M (Option D) := fun d => liftO (asgT tgt d (wipeE env vs)) >>= fun env1 => evc Γ env1 conds >>= fun b => if b then ev Γ env1 T >>= fun x => pure (some x) else pure none
  have q : ((evsB Γ env src >>= fun ds => liftO (walkL ik ds)) >>= fun items => noX (compL f items) >>= fun out => (pure (.list out) : M D)) st = some (rr, st') := by
    rw [bind_assoc']
    exact q
  rcases bind_inv q with ⟨c, h1, rfl⟩ | ⟨items, st1, h1, h2⟩
  · exact ⟨w, O0, H0, O, env, st, .error c, _, R, h1, oo⟩
  · refine ⟨w, O0, H0, O, env, st, .ok items, st1, R, h1, fun H1 p1 J hJ hlen => ?_⟩
    obtain ⟨objs, Y, hat, wk, yok, kinds⟩ := hJ
    have R1 := R.post p1
    have o1 := oo.later p1
    rcases bind_inv h2 with ⟨c, h3, rfl⟩ | ⟨out, st2, h3, h4⟩
    · obtain ⟨a, z, _⟩ := noX_inv h3
      cases z
    · obtain ⟨_, z, h5⟩ := noX_inv h3
      cases z
      obtain ⟨rfl, rfl⟩ := pure_inv h4
      intro D0 hD
      have neD : ∀ p ∈ objs, p.1 ≠ D0 := fun p hp e => by
        have := hat p hp
        rw [e, hD] at this; cases this
      have RD := (R1.wipe vs).hide (o := .lst []) hD
      have leD : Le (hid H1 O) (hid (upd H1 D0 (.lst [])) (addO O D0)) := fun a u e => by
        obtain ⟨e1, e2⟩ := hid_some e
        have ne : a ≠ D0 := ne_of_none e2 hD
        exact ⟨u, by rw [hid_of (by rw [addO_ne ne]; exact e1), upd_ne ne]; exact e2, .refl u⟩
      have oD : O D0 = false := R1.free hD
      have o0D : O0 D0 = false := by
        cases z : O0 D0 with
        | false => rfl
        | true => rw [R1.sub D0 z] at oD; cases oD
      refine lc_it wk (fun i Hi => ∃ (sti : DSt) (acc : List V) (outi rest : List D), Rel K w O0 H0 (addO O D0) (L2.wipe σ vs) Hi (wipeE env vs) sti ∧ Hi D0 = some (.lst acc) ∧ RpAll w (hid Hi (addO O D0)) acc outi ∧ outi.length ≤ i ∧
          compL f (items.drop i) sti = some (.ok rest, st') ∧ out = outi ++ rest ∧ Ext (addO O D0) w.ps (upd H1 D0 (.lst [])) (upd Hi D0 (.lst [])) ∧ Le (hid H1 O) (hid Hi (addO O D0))) ?_ ?_ ?_ ?_
      · exact ⟨_, [], [], out, RD, upd_same, .nil, Nat.le_refl _, h5, rfl, by rw [upd_upd]; exact Ext.refl, leD⟩
      · rintro i Hi _ ⟨sti, acc, outi, rest, Ri, hDi, _, _, _, _, ex, _⟩
        refine ⟨fun p hp => ?_, hid_le.sqL Ri.scr⟩
        have h6 := hat p hp
        have ne := neD p hp
        have h7 : (upd H1 D0 (.lst [])) p.1 = some p.2 := by rw [upd_ne ne]; exact h6
        have h8 : ∃ o', (upd Hi D0 (.lst [])) p.1 = some o' ∧ Kp p.2 o' := by
          cases z : addO O D0 p.1 with
          | false => exact ex.rd p.1 p.2 z h7
          | true => exact ⟨p.2, ex.own p.1 p.2 z (kinds p hp).1 h7, .refl _⟩
        obtain ⟨o', h9, kk⟩ := h8
        rw [upd_ne ne] at h9
        rcases (kinds p hp).2.2 with ⟨xs, e⟩ | ⟨xs, e⟩ | ⟨od, u, e, _⟩
        · rw [e] at kk ⊢
          rw [h9, kk.lst]
        · rw [e] at kk ⊢
          rw [h9, kk.tup]
        · rw [e] at kk ⊢
          rw [h9, kk.frz]
      · rintro i x Hi Hj hin ⟨sti, acc, outi, rest, Ri, hDi, rpi, len, hcomp, hout, ex, le⟩ y
        obtain ⟨alloc, d, hd, rp⟩ := yok i Hi x Hj _ hin y le Ri.alc
        have hdrop : items.drop i = d :: items.drop (i + 1) := List.drop_eq_getElem?_toList_append.trans (by rw [hd]; rfl)
        rw [hdrop] at hcomp
        obtain ⟨o, st3, rest', g1, g2, g3⟩ := compL_cons hcomp
        have Pj : Post (addO O D0) w.ps Hi sti Hj := Ri.postN alloc
        have Rj := Ri.post Pj
        have g1 : (liftO (asgT tgt d (wipeE env vs)) >>= fun env1 => evc Γ env1 conds >>= fun b => if b then ev Γ env1 T >>= fun x => pure (some x) else pure none) sti = some (.ok o, st3) := g1
        rcases bind_inv g1 with ⟨c, _, z⟩ | ⟨env1, sta, g4, g5⟩
        · cases z
        obtain ⟨_, hasg, z, rfl⟩ := liftO_inv g4
        cases z
        rcases bind_inv g5 with ⟨c, _, z⟩ | ⟨b, stb, g6, g7⟩
        · cases z
        have own0 : ∀ (j : Nat) (e : D), (wipeE env vs)[j]? = some (Slot.own e) → (L2.wipe σ vs)[j]? ≠ some (some (.ref D0)) := fun j e hj z => by
          obtain ⟨p, e1, e2, _⟩ := (R1.wipe vs).own j e hj
          rw [z] at e1
          cases e1
          rw [oD] at e2
          cases e2
        refine ⟨w, O0, H0, _, wipeE env vs, _, d, env1, Rj, rp, hasg, fun σ2 R2 but => ⟨?_, ?_⟩⟩
        · rw [wipe_but but hsl, wipe_wipe]
        · refine ⟨w, O0, H0, _, env1, _, .ok b, stb, R2, g6, fun H3 p3 => ?_⟩
          have R3 := R2.post p3
          have P3 := Pj.trans p3
          have nx : ∀ {stn : DSt} {H4 : Hp} {acc' : List V} {out' : List D}, Post (addO O D0) w.ps Hi stn H4 → RpAll w (hid H4 (addO O D0)) acc' out' → out'.length ≤ i + 1 → compL f (items.drop (i + 1)) stn = some (.ok rest', st') → out = out' ++ rest' →
              ∃ (sti : DSt) (acc : List V) (outi rest : List D), Rel K w O0 H0 (addO O D0) (L2.wipe σ vs) (upd H4 D0 (.lst acc')) (wipeE env vs) sti ∧ (upd H4 D0 (.lst acc')) D0 = some (.lst acc) ∧ RpAll w (hid (upd H4 D0 (.lst acc')) (addO O D0)) acc outi ∧ outi.length ≤ i + 1 ∧
                compL f (items.drop (i + 1)) sti = some (.ok rest, st') ∧ out = outi ++ rest ∧ Ext (addO O D0) w.ps (upd H1 D0 (.lst [])) (upd (upd H4 D0 (.lst acc')) D0 (.lst [])) ∧ Le (hid H1 O) (hid (upd H4 D0 (.lst acc')) (addO O D0)) := fun {stn H4 acc' out'} P4 r4 l4 c4 e4 => by
            refine ⟨stn, acc', out', rest', (Ri.post P4).write addO_self o0D own0, upd_same, r4.mono (le_write addO_self), l4, c4, e4, ?_, le.trans (P4.1.le.trans (le_write addO_self))⟩
            rw [upd_upd]
            exact ex.trans (P4.1.upd2 D0 _)
          cases b with
          | false =>
            dsimp only
            rw [if_neg Bool.false_ne_true]
            obtain ⟨z, rfl⟩ := pure_inv (a := (none : Option D)) g7
            cases z
            have hD3 : H3 D0 = some (.lst acc) := P3.1.own D0 _ addO_self (R1.ps_ne hD) hDi
            have := nx P3 (rpi.mono P3.1.le) (Nat.le_succ_of_le len) g2 (by rw [hout, g3])
            rw [upd_id hD3] at this
            exact this
          | true =>
            dsimp only
            rw [if_pos rfl]
            have g7 : (ev Γ env1 T >>= fun x => (pure (some x) : M (Option D))) stb = some (.ok o, st3) := g7
            rcases bind_inv g7 with ⟨c, _, z⟩ | ⟨xd, stc, g8, g9⟩
            · cases z
            obtain ⟨z, rfl⟩ := pure_inv g9
            cases z
            refine ⟨w, O0, H0, _, env1, stb, .ok xd, _, R3, g8, fun H4 p4 v rv => ?_⟩
            have P4 := P3.trans p4
            refine ⟨acc, P4.1.own D0 _ addO_self (R1.ps_ne hD) hDi, ?_, ?_⟩
            · rw [rpi.length]
              omega
            · refine nx P4 ((rpi.mono P4.1.le).append (.cons rv .nil)) ?_ g2 ?_
              · rw [List.length_append, List.length_singleton]; omega
              · rw [hout, g3, List.append_assoc]; rfl
      · rintro Hn ⟨sti, acc, outi, rest, Ri, hDi, rpi, len, hcomp, hout, ex, le⟩
        rw [List.drop_length] at hcomp
        cases hcomp
        rw [List.append_nil] at hout
        subst hout
        refine o1 Hn ⟨⟨fun b u z n e => ?_, fun b u z e => ?_⟩, Ri.sts⟩ D0 (R.fresh p1 hD) (.lst hDi rpi)
        · have ne : b ≠ D0 := fun y => by rw [y, oD] at z; cases z
          have := ex.own b u (addO_of z) n (by rw [upd_ne ne]; exact e)
          rw [upd_ne ne] at this
          exact this
        · have ne : b ≠ D0 := ne_of_none e hD
          obtain ⟨u', e1, e2⟩ := ex.rd b u (by rw [addO_ne ne]; exact z) (by rw [upd_ne ne]; exact e)
          rw [upd_ne ne] at e1
          exact ⟨u', e1, e2⟩
theorem n_comp {elt tg iter : Expr} {ifs : List Expr} {scope : Scope} {own : List (Str × Nat)} {pos : Pos} {tgt : Tg} {ik : IK} {src conds : List TK.E} {T : TK.E} (hc : X.calm = true) (hN : X.N.Nodup) (hi : PI X tg iter (rdI X.K X.mg E Γ true ik src)) (ok : BlkOk X.N X.env.scope scope own)
    (hg : ∀ (s : Shared) (H : Hp) (C : Addr) (cl : List (Str × Addr)) (fp : List Addr), PG (X.blk s H scope (compEnvC scope cl C X.env) fp) tg (rdG X.K tgt))
    (ht : ∀ (s : Shared) (H : Hp) (C : Addr) (cl : List (Str × Addr)) (fp : List Addr), PTs (X.blk s H scope (compEnvC scope cl C X.env) fp) ifs (rdC X.K X.mg E0 Γ conds))
    (he : ∀ (s : Shared) (H : Hp) (C : Addr) (cl : List (Str × Addr)) (fp : List Addr), PE (X.blk s H scope (compEnvC scope cl C X.env) fp) elt (rd X.K X.mg E0 Γ T))
    (hsl : ∀ i ∈ slotsT tgt, i ∈ own.map (·.2)) (hs : ∀ x, foldedSetIterable iter X.env x = pure x) :
    PE X (.ListComp elt [⟨tg, iter, ifs, 0⟩] scope pos) (rdN X.K X.mg E Γ (.comp (own.map (·.2)) tgt ik src conds T)) :=
  (pe_lc hc hN hi ok hg ht he hs).weak (tlc_of hsl)
theorem comp_list {Γ : List FnSem} {own : List Nat} {tgt : Tg} {ik : IK} {src conds : List TK.E} {T : TK.E} : ∀ env st r st', ev Γ env (.comp own tgt ik src conds T) st = some (r, st') → ∀ d, r = .ok d → ownB true d = true := by
  intro env st r st' h d hd
  subst hd
  rcases bind_inv h with ⟨c, _, z⟩ | ⟨a, s1, _, h⟩
  · cases z
  rcases bind_inv h with ⟨c, _, z⟩ | ⟨a, s1, _, h⟩
  · cases z
  rcases bind_inv h with ⟨c, _, z⟩ | ⟨a, s1, _, h⟩
  · cases z
  obtain ⟨z, _⟩ := pure_inv h
  cases z
  rfl
theorem s_comp {elt tg iter : Expr} {ifs : List Expr} {scope : Scope} {own : List (Str × Nat)} {pos : Pos} {tgt : Tg} {ik : IK} {src conds : List TK.E} {T : TK.E} (hc : X.calm = true) (hN : X.N.Nodup) (hi : PI X tg iter (rdI X.K X.mg E Γ true ik src)) (ok : BlkOk X.N X.env.scope scope own)
    (hg : ∀ (s : Shared) (H : Hp) (C : Addr) (cl : List (Str × Addr)) (fp : List Addr), PG (X.blk s H scope (compEnvC scope cl C X.env) fp) tg (rdG X.K tgt))
    (ht : ∀ (s : Shared) (H : Hp) (C : Addr) (cl : List (Str × Addr)) (fp : List Addr), PTs (X.blk s H scope (compEnvC scope cl C X.env) fp) ifs (rdC X.K X.mg E0 Γ conds))
    (he : ∀ (s : Shared) (H : Hp) (C : Addr) (cl : List (Str × Addr)) (fp : List Addr), PE (X.blk s H scope (compEnvC scope cl C X.env) fp) elt (rd X.K X.mg E0 Γ T))
    (hsl : ∀ i ∈ slotsT tgt, i ∈ own.map (·.2)) (hs : ∀ x, foldedSetIterable iter X.env x = pure x) :
    PE X (.ListComp elt [⟨tg, iter, ifs, 0⟩] scope pos) (rd X.K X.mg E Γ (.comp (own.map (·.2)) tgt ik src conds T)) :=
  s_N2V comp_list (n_comp hc hN hi ok hg ht he hsl hs)
end
end TK

/-! the reflected layer, 11: how slots and own objects change -/
namespace TK
open PySem PySem.Spec PyProof.Rows L2
section
variable {K : PySem.W.Frag} {w : Dr} {O0 O : Addr → Bool} {H0 H H' : Hp} {σ : L2.St} {env : Env} {st st' : DSt}
theorem OwnAt.mono {O' : Addr → Bool} {p : Addr} {d : D} (h : OwnAt w O H p d) (le : Le (hid H O) (hid H' O')) (e : H' p = H p) : OwnAt w O' H' p d := by
  cases h with
  | lst a b => exact .lst (by rw [e]; exact a) (b.mono le)
  | dK a b => exact .dK (by rw [e]; exact a) (b.mono le)
  | dT a b => exact .dT (by rw [e]; exact a) (b.mono le)
/-- the slots are read otherwise -/
theorem Rel.remap (R : Rel K w O0 H0 O σ H env st) {σ' : L2.St} {env' : Env} (g : Nat → Nat) (hl : env'.length = σ'.length) (h : ∀ i s, env'[i]? = some s → s ≠ .no → ∃ j, env[j]? = some s ∧ σ'[i]? = σ[j]? ∧ g j = i) : Rel K w O0 H0 O σ' H env' st := by
  refine ⟨R.ext, R.sub, R.alc0, R.alc, R.new, R.ops, R.sts, R.scr, hl, fun i d e => ?_, fun i d e => ?_, fun i j p di dj h1 h2 h3 h4 => ?_⟩
  · obtain ⟨j, e1, e2, _⟩ := h i _ e (fun z => by cases z)
    rw [e2]
    exact R.val j d e1
  · obtain ⟨j, e1, e2, _⟩ := h i _ e (fun z => by cases z)
    rw [e2]
    exact R.own j d e1
  · obtain ⟨a, e1, e2, e3⟩ := h i _ h1 (fun z => by cases z)
    obtain ⟨b, f1, f2, f3⟩ := h j _ h2 (fun z => by cases z)
    rw [e2] at h3
    rw [f2] at h4
    rw [← e3, ← f3, R.inj a b p di dj e1 f1 h3 h4]
def subO (O : Addr → Bool) (p : Addr) : Addr → Bool := fun a => O a && !decide (a = p)
theorem subO_self {O : Addr → Bool} {p : Addr} : subO O p p = false := by simp [subO]
theorem subO_ne {O : Addr → Bool} {p a : Addr} (h : a ≠ p) : subO O p a = O a := by simp [subO, h]
theorem subO_of {O : Addr → Bool} {p a : Addr} (h : subO O p a = true) : O a = true ∧ a ≠ p := by simpa [subO] using h
/-- an own name's object is from now on only read -/
theorem Rel.frz1 (R : Rel K w O0 H0 O σ H env st) {i : Nat} {d : D} (h : env[i]? = some (Slot.own d)) : ∃ O', Rel K w O0 H0 O' σ H (env.set i (.val d)) st := by
  have hi : i < env.length := (List.getElem?_eq_some_iff.mp h).1
  obtain ⟨p, e1, e2, e3, e4⟩ := R.own i d h
  have sm : ∀ a, subO O p a = true → O a = true := fun a z => (subO_of z).1
  have le : Le (hid H O) (hid H (subO O p)) := hid_mono sm
  refine ⟨subO O p, R.ext, fun a z => ?_, R.alc0, fun a z => R.alc a (sm a z), fun a z z0 => R.new a (sm a z) z0, R.ops, R.sts, le.sqL R.scr, by rw [List.length_set]; exact R.len, fun j d' hj => ?_, fun j d' hj => ?_, fun j k q dj dk h1 h2 h3 h4 => ?_⟩
  · have ne : a ≠ p := fun q => by rw [q, e3] at z; cases z
    rw [subO_ne ne]; exact R.sub a z
  · by_cases e : i = j
    · subst e
      rw [List.getElem?_set_self hi] at hj
      cases hj
      refine ⟨_, e1, ?_⟩
      cases e4 with
      | lst a b => exact .lst (by rw [hid_of subO_self]; exact a) (b.mono le)
      | dK a b => exact .dK (.inl (by rw [hid_of subO_self]; exact a)) (b.mono le)
      | dT a b => exact .dT (.inl (by rw [hid_of subO_self]; exact a)) (b.mono le)
    · rw [List.getElem?_set_ne e] at hj
      obtain ⟨v, f1, f2⟩ := R.val j d' hj
      exact ⟨v, f1, f2.mono le⟩
  · have e : i ≠ j := fun e => by
      subst e
      rw [List.getElem?_set_self hi] at hj
      cases hj
    rw [List.getElem?_set_ne e] at hj
    obtain ⟨q, f1, f2, f3, f4⟩ := R.own j d' hj
    have ne : q ≠ p := fun z => e (R.inj i j p d d' h hj e1 (by rw [f1, z]))
    exact ⟨q, f1, by rw [subO_ne ne]; exact f2, f3, f4.mono le rfl⟩
  · have n : ∀ {m x}, (env.set i (.val d))[m]? = some (Slot.own x) → i ≠ m := fun {m x} z e => by
      subst e
      rw [List.getElem?_set_self hi] at z
      cases z
    have n1 := n h1
    have n2 := n h2
    rw [List.getElem?_set_ne n1] at h1
    rw [List.getElem?_set_ne n2] at h2
    exact R.inj j k q dj dk h1 h2 h3 h4
theorem Rel.frz (R : Rel K w O0 H0 O σ H env st) : ∀ (is : List Nat), ∃ O', Rel K w O0 H0 O' σ H (frz env is) st
  | [] => ⟨O, R⟩
  | i :: r => by
    obtain ⟨O1, R1⟩ := R.frz r
    show ∃ O', Rel K w O0 H0 O' σ H (match (TK.frz env r)[i]? with | some (.own d) => (TK.frz env r).set i (.val d) | _ => TK.frz env r) st
    split
    · exact R1.frz1 (by assumption)
    · exact ⟨O1, R1⟩
/-- what was newly made is hidden -/
theorem Rel.own_new (R : Rel K w O0 H0 O σ H env st) (P : Post O w.ps H st' H') {p : Addr} (hp : H p = none) (hp' : H' p ≠ none) : Rel K w O0 H0 (addO O p) σ H' env st' := by
  have R1 := R.post P
  have oD := R.free hp
  have le : Le (hid H O) (hid H' (addO O p)) := fun a u e => by
    obtain ⟨e1, e2⟩ := hid_some e
    have ne : a ≠ p := ne_of_none e2 hp
    obtain ⟨u', f1, f2⟩ := P.1.rd a u e1 e2
    exact ⟨u', by rw [hid_of (by rw [addO_ne ne]; exact e1)]; exact f1, f2⟩
  refine ⟨R1.ext, fun a z => addO_of (R.sub a z), R.alc0, fun a z => ?_, fun a z z0 => ?_, R.ops, R1.sts, le.sqL R.scr, R.len, fun i d e => ?_, fun i d e => ?_, R.inj⟩
  · by_cases e : a = p
    · rw [e]; exact hp'
    · rw [addO_ne e] at z
      exact R1.alc a z
  · by_cases e : a = p
    · rw [e]; exact R.none0 hp
    · rw [addO_ne e] at z
      exact R.new a z z0
  · obtain ⟨v, e1, e2⟩ := R.val i d e
    exact ⟨v, e1, e2.mono le⟩
  · obtain ⟨q, e1, e2, e3, e4⟩ := R.own i d e
    have hq := R.psne e3
    refine ⟨q, e1, addO_of e2, e3, ?_⟩
    cases e4 with
    | lst a b => exact .lst (P.1.own _ _ e2 hq a) (b.mono le)
    | dK a b => exact .dK (P.1.own _ _ e2 hq a) (b.mono le)
    | dT a b => exact .dT (P.1.own _ _ e2 hq a) (b.mono le)
theorem OwnAt.alc {p : Addr} {d : D} (h : OwnAt w O H p d) : H p ≠ none := by
  cases h with
  | lst a _ => rw [a]; intro z; cases z
  | dK a _ => rw [a]; intro z; cases z
  | dT a _ => rw [a]; intro z; cases z
/-- one more slot -/
theorem Rel.push (R : Rel K w O0 H0 O σ H env st) {v : V} {d : D} (rp : Rp w (hid H O) v d) : Rel K w O0 H0 O (σ ++ [some v]) H (env ++ [.val d]) st := by
  have hl := R.len
  have lo : ∀ {m : Nat} {s : Slot}, (env ++ [Slot.val d])[m]? = some s → (m < env.length ∧ env[m]? = some s ∧ (σ ++ [some v])[m]? = σ[m]?) ∨ (m = env.length ∧ s = .val d) := fun {m s} h => by
    by_cases hm : m < env.length
    · rw [List.getElem?_append_left hm] at h
      exact .inl ⟨hm, h, List.getElem?_append_left (by omega)⟩
    · rw [List.getElem?_append_right (by omega)] at h
      have : m - env.length = 0 := by
        have := (List.getElem?_eq_some_iff.mp h).1
        rw [List.length_singleton] at this; omega
      rw [this] at h
      cases h
      exact .inr ⟨by omega, rfl⟩
  refine ⟨R.ext, R.sub, R.alc0, R.alc, R.new, R.ops, R.sts, R.scr, by rw [List.length_append, List.length_append, hl]; rfl, fun j d' h => ?_, fun j d' h => ?_, fun j k p di dj h1 h2 h3 h4 => ?_⟩
  · rcases lo h with ⟨_, h1, h2⟩ | ⟨rfl, z⟩
    · rw [h2]; exact R.val j d' h1
    · cases z
      exact ⟨v, by rw [List.getElem?_append_right (by omega), hl, Nat.sub_self]; rfl, rp⟩
  · rcases lo h with ⟨_, h1, h2⟩ | ⟨rfl, z⟩
    · rw [h2]; exact R.own j d' h1
    · cases z
  · rcases lo h1 with ⟨_, g1, g2⟩ | ⟨_, z⟩
    · rcases lo h2 with ⟨_, g3, g4⟩ | ⟨_, z⟩
      · rw [g2] at h3
        rw [g4] at h4
        exact R.inj j k p di dj g1 g3 h3 h4
      · cases z
    · cases z
theorem Rel.pushO (R : Rel K w O0 H0 O σ H env st) {p0 : Addr} {d : D} (ho : O p0 = true) (h0 : O0 p0 = false) (hw : ∀ (i : Nat) (d : D), env[i]? = some (Slot.own d) → σ[i]? ≠ some (some (.ref p0))) (oa : OwnAt w O H p0 d) : Rel K w O0 H0 O (σ ++ [some (.ref p0)]) H (env ++ [.own d]) st := by
  have hl := R.len
  have lo : ∀ {m : Nat} {s : Slot}, (env ++ [Slot.own d])[m]? = some s → (m < env.length ∧ env[m]? = some s ∧ (σ ++ [some (V.ref p0)])[m]? = σ[m]?) ∨ (m = env.length ∧ s = .own d) := fun {m s} h => by
    by_cases hm : m < env.length
    · rw [List.getElem?_append_left hm] at h
      exact .inl ⟨hm, h, List.getElem?_append_left (by omega)⟩
    · rw [List.getElem?_append_right (by omega)] at h
      have : m - env.length = 0 := by
        have := (List.getElem?_eq_some_iff.mp h).1
        rw [List.length_singleton] at this; omega
      rw [this] at h
      cases h
      exact .inr ⟨by omega, rfl⟩
  have top : (σ ++ [some (V.ref p0)])[env.length]? = some (some (.ref p0)) := by rw [List.getElem?_append_right (by omega), hl, Nat.sub_self]; rfl
  refine ⟨R.ext, R.sub, R.alc0, R.alc, R.new, R.ops, R.sts, R.scr, by rw [List.length_append, List.length_append, hl]; rfl, fun j d' h => ?_, fun j d' h => ?_, fun j k p di dj h1 h2 h3 h4 => ?_⟩
  · rcases lo h with ⟨_, h1, h2⟩ | ⟨rfl, z⟩
    · rw [h2]; exact R.val j d' h1
    · cases z
  · rcases lo h with ⟨_, h1, h2⟩ | ⟨rfl, z⟩
    · rw [h2]; exact R.own j d' h1
    · cases z
      exact ⟨p0, top, ho, h0, oa⟩
  · rcases lo h1 with ⟨_, g1, g2⟩ | ⟨rfl, z⟩
    · rcases lo h2 with ⟨_, g3, g4⟩ | ⟨rfl, z⟩
      · rw [g2] at h3
        rw [g4] at h4
        exact R.inj j k p di dj g1 g3 h3 h4
      · rw [top] at h4
        cases h4
        rw [g2] at h3
        exact absurd h3 (hw j di g1)
    · rcases lo h2 with ⟨_, g3, g4⟩ | ⟨rfl, z⟩
      · rw [top] at h3
        cases h3
        rw [g4] at h4
        exact absurd h4 (hw k dj g3)
      · rfl
/-- a new object becomes a slot's own -/
theorem Rel.pushN (R : Rel K w O0 H0 O σ H env st) (P : Post O w.ps H st' H') {p : Addr} {d : D} (hp : H p = none) (oa : OwnAt w (addO O p) H' p d) : Rel K w O0 H0 (addO O p) (σ ++ [some (.ref p)]) H' (env ++ [.own d]) st' := by
  have oD := R.free hp
  have o0 : O0 p = false := by
    cases z : O0 p with
    | false => rfl
    | true => rw [R.sub p z] at oD; cases oD
  refine (R.own_new P hp oa.alc).pushO addO_self o0 (fun i d' h z => ?_) oa
  obtain ⟨q, e1, e2, _⟩ := R.own i d' h
  rw [z] at e1
  cases e1
  rw [oD] at e2
  cases e2
/-- an own object is written -/
theorem Rel.writeOwn (R : Rel K w O0 H0 O σ H env st) {i : Nat} {d d' : D} {p0 : Addr} {o : HO} (h : env[i]? = some (Slot.own d)) (hs : σ[i]? = some (some (.ref p0))) (oa : Le (hid H O) (hid (upd H p0 o) O) → OwnAt w O (upd H p0 o) p0 d') : Rel K w O0 H0 O σ (upd H p0 o) (env.set i (.own d')) st := by
  have hi : i < env.length := (List.getElem?_eq_some_iff.mp h).1
  obtain ⟨p, e1, e2, e3, e4⟩ := R.own i d h
  rw [hs] at e1
  cases e1
  have R1 : Rel K w O0 H0 O σ (upd H p0 o) (env.set i .no) st := by
    have R2 : Rel K w O0 H0 O σ H (env.set i .no) st := R.remap id (by rw [List.length_set]; exact R.len) fun j s hj hn => by
      by_cases e : i = j
      · subst e
        rw [List.getElem?_set_self hi] at hj
        cases hj
        exact absurd rfl hn
      · rw [List.getElem?_set_ne e] at hj
        exact ⟨j, hj, rfl, rfl⟩
    refine R2.write e2 e3 fun j dj hj z => ?_
    by_cases e : i = j
    · subst e
      rw [List.getElem?_set_self hi] at hj
      cases hj
    · rw [List.getElem?_set_ne e] at hj
      exact e (R.inj i j p0 d dj h hj hs z)
  have R3 := R1.pushO e2 e3 (fun j dj hj z => by
    by_cases e : i = j
    · subst e
      rw [List.getElem?_set_self hi] at hj
      cases hj
    · rw [List.getElem?_set_ne e] at hj
      exact e (R.inj i j p0 d dj h hj hs z)) (oa (le_write e2))
  have hl := R.len
  refine R3.remap (fun j => if j = env.length then i else j) (by rw [List.length_set]; exact hl) fun j s hj hn => ?_
  by_cases e : i = j
  · subst e
    rw [List.getElem?_set_self hi] at hj
    cases hj
    refine ⟨env.length, ?_, ?_, if_pos rfl⟩
    · rw [List.getElem?_append_right (by rw [List.length_set]; omega), List.length_set, Nat.sub_self]; rfl
    · rw [List.getElem?_append_right (by omega), hl, Nat.sub_self]; exact hs
  · have hj' := hj
    rw [List.getElem?_set_ne e] at hj
    have hlt : j < env.length := (List.getElem?_eq_some_iff.mp hj).1
    refine ⟨j, ?_, ?_, if_neg (by omega)⟩
    · rw [List.getElem?_append_left (by rw [List.length_set]; exact hlt), List.getElem?_set_ne e]; exact hj
    · rw [List.getElem?_append_left (by omega)]
/-- the last slots are dropped -/
theorem Rel.drop {xs : List (Option V)} {ys : Env} (R : Rel K w O0 H0 O (σ ++ xs) H (env ++ ys) st) (hl : env.length = σ.length) : Rel K w O0 H0 O σ H env st :=
  R.remap id hl fun i s h _ => by
    have hi : i < env.length := (List.getElem?_eq_some_iff.mp h).1
    exact ⟨i, by rw [List.getElem?_append_left hi]; exact h, by rw [List.getElem?_append_left (by omega)], rfl⟩
/-- the last slot is put at i -/
theorem Rel.move {v : Option V} {s : Slot} (R : Rel K w O0 H0 O (σ ++ [v]) H (env ++ [s]) st) (hl : env.length = σ.length) {i : Nat} (hi : i < env.length) : Rel K w O0 H0 O (σ.set i v) H (env.set i s) st := by
  refine R.remap (fun j => if j = env.length then i else j) (by rw [List.length_set, List.length_set]; exact hl) fun j s' hj hn => ?_
  by_cases e : i = j
  · subst e
    rw [List.getElem?_set_self hi] at hj
    cases hj
    refine ⟨env.length, ?_, ?_, if_pos rfl⟩
    · rw [List.getElem?_append_right (Nat.le_refl _), Nat.sub_self]; rfl
    · rw [List.getElem?_set_self (by omega), List.getElem?_append_right (by omega), hl, Nat.sub_self]; rfl
  · rw [List.getElem?_set_ne e] at hj
    have hlt : j < env.length := (List.getElem?_eq_some_iff.mp hj).1
    refine ⟨j, ?_, ?_, if_neg (by omega)⟩
    · rw [List.getElem?_append_left hlt]; exact hj
    · rw [List.getElem?_set_ne e, List.getElem?_append_left (by omega)]
/-! ### from here on -/
def baseH (H : Hp) (O O0 : Addr → Bool) : Hp := fun a => if O a = true ∧ O0 a = false then none else H a
theorem baseH_no {H : Hp} {O O0 : Addr → Bool} {a : Addr} (h : O a = true) (h0 : O0 a = false) : baseH H O O0 a = none := if_pos ⟨h, h0⟩
theorem baseH_of {H : Hp} {O O0 : Addr → Bool} {a : Addr} (h : O a = false ∨ O0 a = true) : baseH H O O0 a = H a := by
  refine if_neg fun z => ?_
  rcases h with h | h
  · rw [h] at z; cases z.1
  · rw [h] at z; cases z.2
theorem baseH_some {H : Hp} {O O0 : Addr → Bool} {a : Addr} {o : HO} (h : baseH H O O0 a = some o) : H a = some o ∧ (O a = false ∨ O0 a = true) := by
  unfold baseH at h
  split at h
  · cases h
  · rename_i z
    refine ⟨h, ?_⟩
    cases e : O a with
    | false => exact .inl rfl
    | true =>
      cases e0 : O0 a with
      | true => exact .inr rfl
      | false => exact absurd ⟨e, e0⟩ z
theorem Rel.rebase (R : Rel K w O0 H0 O σ H env st) : Rel K w O0 (baseH H O O0) O σ H env st :=
  ⟨⟨fun b o _ _ e => (baseH_some e).1, fun b o _ e => ⟨o, (baseH_some e).1, .refl o⟩⟩, R.sub, fun a h => by rw [baseH_of (.inr h)]; exact R.alc a (R.sub a h), R.alc, fun a h h0 => baseH_no h h0, R.ops, R.sts, R.scr, R.len, R.val, R.own, R.inj⟩
theorem Rel.unbase {O1 : Addr → Bool} {H1 : Hp} {σ1 : L2.St} {env1 : Env} {st1 : DSt} (R : Rel K w O0 H0 O σ H env st) (R1 : Rel K w O0 (baseH H O O0) O1 σ1 H1 env1 st1) : Rel K w O0 H0 O1 σ1 H1 env1 st1 := by
  refine ⟨⟨fun b o h n e => R1.ext.own b o h n (by rw [baseH_of (.inr h)]; exact R.ext.own b o h n e), fun b o h e => ?_⟩, R1.sub, R.alc0, R1.alc, fun a h h0 => ?_, R.ops, R1.sts, R1.scr, R1.len, R1.val, R1.own, R1.inj⟩
  · obtain ⟨o1, e1, k1⟩ := R.ext.rd b o h e
    have ob : O b = false := by
      cases z : O b with
      | false => rfl
      | true => rw [R.new b z h] at e; cases e
    obtain ⟨o2, e2, k2⟩ := R1.ext.rd b o1 h (by rw [baseH_of (.inl ob)]; exact e1)
    exact ⟨o2, e2, k1.trans k2⟩
  · have := R1.new a h h0
    cases z : O a with
    | true => exact R.new a z h0
    | false =>
      rw [baseH_of (.inl z)] at this
      exact R.none0 this
theorem Rel.le0 (R : Rel K w O0 H0 O σ H env st) : Le (hid H0 O0) (hid H O) := fun a o e => by
  obtain ⟨e1, e2⟩ := hid_some e
  obtain ⟨o', e3, k⟩ := R.ext.rd a o e1 e2
  have oa : O a = false := by
    cases z : O a with
    | false => rfl
    | true => rw [R.new a z e1] at e2; cases e2
  exact ⟨o', by rw [hid_of oa]; exact e3, k⟩
theorem Rel.leB {O1 : Addr → Bool} {H1 : Hp} {σ1 : L2.St} {env1 : Env} {st1 : DSt} (R : Rel K w O0 H0 O σ H env st) (R1 : Rel K w O0 (baseH H O O0) O1 σ1 H1 env1 st1) : Le (hid H O) (hid H1 O1) := fun a o e => by
  obtain ⟨e1, e2⟩ := hid_some e
  refine R1.le0 a o ?_
  have : O0 a = false := by
    cases z : O0 a with
    | false => rfl
    | true => rw [R.sub a z] at e1; cases e1
  rw [hid_of this, baseH_of (.inl e1)]
  exact e2
theorem Rel.postB {H1 : Hp} {st1 : DSt} (R : Rel K w O0 H0 O σ H env st) (P : Post O0 w.ps (baseH H O O0) st1 H1) : Post O0 w.ps H0 st1 H1 := by
  refine ⟨⟨fun b o h n e => P.1.own b o h n (by rw [baseH_of (.inr h)]; exact R.ext.own b o h n e), fun b o h e => ?_⟩, P.2⟩
  obtain ⟨o1, e1, k1⟩ := R.ext.rd b o h e
  have ob : O b = false := by
    cases z : O b with
    | false => rfl
    | true => rw [R.new b z h] at e; cases e
  obtain ⟨o2, e2, k2⟩ := P.1.rd b o1 h (by rw [baseH_of (.inl ob)]; exact e1)
  exact ⟨o2, e2, k1.trans k2⟩
theorem Rel.post0 (R : Rel K w O0 H0 O σ H env st) : Post O0 w.ps H0 st H := ⟨R.ext, R.sts⟩
theorem Rel.rp0 (R : Rel K w O0 H0 O σ H env st) {v : V} {d : D} (h : Rp w (hid H O) v d) : Rp w (hid H O0) v d := h.mono (hid_mono R.sub)
end
end TK

/-! the reflected layer, 12: statements -/
namespace TK
open PySem PySem.Spec PyProof.Rows L2
def OutS (K : PySem.W.Frag) (mg : Str → Option Value) (E : XK) (w : Dr) (O0 : Addr → Bool) (H0 : Hp) (r : Except Str (Fl × Env)) (st' : DSt) (D : Ends) : Prop :=
  match r with
  | .ok (.nx, env') => ∀ O' σ' H', Rel K w O0 H0 O' σ' H' env' st' → D.nx σ' H'
  | .ok (.rt d, _) => ∀ v H', Post O0 w.ps H0 st' H' → Rp w (hid H' O0) v d → D.rt v H'
  | .error c => ∀ A H', mg c = some (.ref A) → Post O0 w.ps H0 st' H' → E (.ref A) none H'
section
variable (K : PySem.W.Frag) (mg : Str → Option Value) (E : XK) (Γ : List FnSem)
def rdS (T : S) : TS := fun D σ H => ∃ w O0 H0 O env st r st', Rel K w O0 H0 O σ H env st ∧ ex Γ T env st = some (r, st') ∧ OutS K mg E w O0 H0 r st' D
def rdSs (T : List S) : TS := fun D σ H => ∃ w O0 H0 O env st r st', Rel K w O0 H0 O σ H env st ∧ exs Γ T env st = some (r, st') ∧ OutS K mg E w O0 H0 r st' D
end
section
variable {K : PySem.W.Frag} {mg : Str → Option Value} {E : XK} {w : Dr} {O0 O : Addr → Bool} {H0 H : Hp} {σ : L2.St} {env : Env} {st st' : DSt} {D : Ends}
theorem OutS.err {α : Type} {c : Str} {Q : α → Hp → Prop} (R : Rel K w O0 H0 O σ H env st) (o : OutS K mg E w O0 H0 (.error c) st' D) : Out mg E O w.ps H (.error c : Except Str α) st' Q := fun A H' m p => o A H' m (R.post p).post0
theorem OutS.baseErr {c : Str} {st0 : DSt} {D' : Ends} (R : Rel K w O0 H0 O σ H env st0) (o : OutS K mg E w O0 H0 (.error c) st' D) : OutS K mg E w O0 (baseH H O O0) (.error c) st' D' := fun A H' m p => o A H' m (R.postB p)
end
section
variable {X : Cx} {E : XK} {Γ : List FnSem} {pos : Pos}
theorem x_nil : PSs X [] (rdSs X.K X.mg E Γ []) := by
  refine pss_nil.weak fun D σ H q => ?_
  obtain ⟨w, O0, H0, O, env, st, r, st', R, q, o⟩ := q
  obtain ⟨rfl, rfl⟩ := pure_inv (a := (Fl.nx, env)) q
  exact o O σ H R
theorem x_cons {s : Stmt} {ss : List Stmt} {T : S} {Ts : List S} (h1 : PS X s (rdS X.K X.mg E Γ T)) (h2 : PSs X ss (rdSs X.K X.mg E Γ Ts)) : PSs X (s :: ss) (rdSs X.K X.mg E Γ (T :: Ts)) := by
  refine (pss_cons h1 h2).weak fun D σ H q => ?_
  obtain ⟨w, O0, H0, O, env, st, r, st', R, q, o⟩ := q
  have q : (ex Γ T env >>= fun p => match p.1 with | .nx => exs Γ Ts p.2 | .rt v => (pure (.rt v, p.2) : M (Fl × Env))) st = some (r, st') := q
  rcases bind_inv q with ⟨c, g1, rfl⟩ | ⟨⟨fl, env1⟩, st1, g1, g2⟩
  · exact ⟨w, O0, H0, O, env, st, _, _, R, g1, o⟩
  · refine ⟨w, O0, H0, O, env, st, _, _, R, g1, ?_⟩
    cases fl with
    | nx => exact fun O' σ' H' R' => ⟨w, O0, H0, O', env1, st1, r, st', R', g2, o⟩
    | rt d =>
      obtain ⟨rfl, rfl⟩ := pure_inv (a := (Fl.rt d, env1)) g2
      exact o
theorem x_one {s : Stmt} {T : S} (h1 : PS X s (rdS X.K X.mg E Γ T)) : PSs X [s] (rdSs X.K X.mg E Γ [T]) := x_cons h1 x_nil
theorem x_if {c : Expr} {a b : List Stmt} {C : TK.E} {A B : List S} (hc : PT X c (rdT X.K X.mg E Γ C)) (ha : PSs X a (rdSs X.K X.mg E Γ A)) (hb : PSs X b (rdSs X.K X.mg E Γ B)) : PS X (.If c a b pos) (rdS X.K X.mg E Γ (.ite C A B)) := by
  refine (ps_if hc ha hb).weak fun D σ H q => ?_
  obtain ⟨w, O0, H0, O, env, st, r, st', R, q, o⟩ := q
  have q : (tst Γ C env >>= fun k => if k then exs Γ A env else exs Γ B env) st = some (r, st') := q
  rcases bind_inv q with ⟨c, g1, rfl⟩ | ⟨b, st1, g1, g2⟩
  · exact ⟨w, O0, H0, O, env, st, _, _, R, g1, o.err R⟩
  · refine ⟨w, O0, H0, O, env, st, .ok b, st1, R, g1, fun H1 p => ?_⟩
    cases b with
    | true => exact ⟨w, O0, H0, O, env, st1, r, st', R.post p, g2, o⟩
    | false => exact ⟨w, O0, H0, O, env, st1, r, st', R.post p, g2, o⟩
theorem x_ret {e : Expr} {A : TK.E} (h : PE X e (rd X.K X.mg E Γ A)) : PS X (.Return (some e) pos) (rdS X.K X.mg E Γ (.ret A)) := by
  refine (ps_ret h).weak fun D σ H q => ?_
  obtain ⟨w, O0, H0, O, env, st, r, st', R, q, o⟩ := q
  have q : (ev Γ (frz env (esc A)) A >>= fun d => (pure (.rt d, frz env (esc A)) : M (Fl × Env))) st = some (r, st') := q
  obtain ⟨O1, R1⟩ := R.frz (esc A)
  rcases bind_inv q with ⟨c, g1, rfl⟩ | ⟨d, st1, g1, g2⟩
  · exact ⟨w, O0, H0, O1, _, st, _, _, R1, g1, o.err R1⟩
  · obtain ⟨rfl, rfl⟩ := pure_inv g2
    exact ⟨w, O0, H0, O1, _, st, .ok d, _, R1, g1, fun H1 p v rp => o v H1 (R1.post p).post0 ((R1.post p).rp0 rp)⟩
theorem x_exp {e : Expr} {A : TK.E} (h : PE X e (rd X.K X.mg E Γ A)) (hs : swapsWith e none pos.line X.env = pure false) : PS X (.Expr e pos) (rdS X.K X.mg E Γ (.exp A)) := by
  refine (ps_expr h hs).weak fun D σ H q => ?_
  obtain ⟨w, O0, H0, O, env, st, r, st', R, q, o⟩ := q
  have q : (ev Γ env A >>= fun _ => (pure (.nx, env) : M (Fl × Env))) st = some (r, st') := q
  rcases bind_inv q with ⟨c, g1, rfl⟩ | ⟨d, st1, g1, g2⟩
  · exact ⟨w, O0, H0, O, env, st, _, _, R, g1, o.err R⟩
  · obtain ⟨rfl, rfl⟩ := pure_inv g2
    exact ⟨w, O0, H0, O, env, st, .ok d, _, R, g1, fun H1 p v rp => o O σ H1 (R.post p)⟩
/-! ### assignments -/
theorem setS_inv {env env' : Env} {i : Nat} {s : Slot} {st st' : DSt} {r : Except Str Env} (h : setS env i s st = some (r, st')) : i < env.length ∧ r = .ok (env.set i s) ∧ st' = st := by
  unfold setS at h
  split at h
  · obtain ⟨rfl, rfl⟩ := pure_inv h
    exact ⟨by assumption, rfl, rfl⟩
  · cases h
def rdF (K : PySem.W.Frag) (mg : Str → Option Value) (E : XK) (Γ : List FnSem) : Bool → TK.E → TE
  | true, T => rdN K mg E Γ T
  | false, T => rd K mg E Γ T
theorem ite_ok {α : Type} {b : Bool} {x : M α} {st st' : DSt} {r : Except Str α} (h : (if b then x else fail) st = some (r, st')) : b = true ∧ x st = some (r, st') := by
  cases b with
  | true => exact ⟨rfl, h⟩
  | false => cases h
theorem asg_of {K : PySem.W.Frag} {mg : Str → Option Value} {ow : Bool} {i : Nat} {A : TK.E} {te : TE} (ht : ∀ σ H Q, rdF K mg E Γ ow A σ H Q → te σ H Q) : ∀ D σ H, rdS K mg E Γ (.asg ow i A) D σ H → tAsg te (gName i) D σ H := by
  intro D σ H q
  obtain ⟨w, O0, H0, O, env, st, r, st', R, q, o⟩ := q
  have q : (ev Γ (frz env (esc A)) A >>= fun d => if ownB ow d then (setS (frz env (esc A)) i (if ow then .own d else .val d) >>= fun env2 => (pure (.nx, env2) : M (Fl × Env))) else fail) st = some (r, st') := q
  obtain ⟨O1, R1⟩ := R.frz (esc A)
  generalize frz env (esc A) = env1 at q R1
  refine ht σ H _ ?_
  have key : ∀ d st1, (if ownB ow d then (setS env1 i (if ow then .own d else .val d) >>= fun env2 => (pure (.nx, env2) : M (Fl × Env))) else fail) st1 = some (r, st') → ownB ow d = true ∧ i < env1.length ∧ st1 = st' ∧ ∀ O' σ' H', Rel K w O0 H0 O' σ' H' (env1.set i (if ow then .own d else .val d)) st' → D.nx σ' H' := by
    intro d st1 h
    obtain ⟨h1, h2⟩ := ite_ok h
    rcases bind_inv h2 with ⟨c, g1, rfl⟩ | ⟨env2, st2, g1, g2⟩
    · obtain ⟨_, z, _⟩ := setS_inv (env' := env1) g1; cases z
    · obtain ⟨h3, z, rfl⟩ := setS_inv (env' := env1) g1
      cases z
      obtain ⟨rfl, rfl⟩ := pure_inv g2
      exact ⟨h1, h3, rfl, o⟩
  rcases bind_inv q with ⟨c, g1, rfl⟩ | ⟨d, st1, g1, g2⟩
  · cases ow with
    | true => exact ⟨w, O0, H0, O1, env1, st, _, _, R1, g1, (fun d z => by cases z), o.err R1⟩
    | false => exact ⟨w, O0, H0, O1, env1, st, _, _, R1, g1, o.err R1⟩
  · obtain ⟨k1, k2, rfl, k4⟩ := key d st1 g2
    cases ow with
    | true =>
      refine ⟨w, O0, H0, O1, env1, st, .ok d, _, R1, g1, (fun d' z => by cases z; exact k1), fun H1 p a ha oa => ?_⟩
      exact k4 _ _ H1 ((R1.pushN p ha oa).move R1.len k2)
    | false =>
      refine ⟨w, O0, H0, O1, env1, st, .ok d, _, R1, g1, fun H1 p v rp => ?_⟩
      exact k4 _ _ H1 ((R1.post p).setVal k2 rp)
theorem x_asg {i : Nat} {x : Str} {e : Expr} {ow : Bool} {A : TK.E} {pos' : Pos} (hN : X.N.Nodup) (hi : X.N[i]? = some x) (hx : Loc X.env.scope x) (he : PE X e (rdF X.K X.mg E Γ ow A)) (hs : swapsWith e (some (.Name x pos')) pos.line X.env = pure false) (hf : X.fn x = true ∨ X.env.scope.names.lookup x = some .local) :
    PS X (.Assign [.Name x pos'] e pos) (rdS X.K X.mg E Γ (.asg ow i A)) := (ps_set hN hi hx he hs hf).weak (asg_of fun _ _ _ q => q)
theorem x_asgLc {i : Nat} {y : Str} {py : Pos} {elt tg iter : Expr} {ifs : List Expr} {scope : Scope} {own : List (Str × Nat)} {pos spos : Pos} {ow : Bool} {tgt : Tg} {ik : IK} {src conds : List TK.E} {T : TK.E} (hc : X.calm = true) (hN : X.N.Nodup) (hy : X.N[i]? = some y) (hyl : X.env.scope.names.lookup y = some .local)
    (hsw : swapsWith (.ListComp elt [⟨tg, iter, ifs, 0⟩] scope pos) (some (.Name y py)) spos.line X.env = pure true) (hi : PI X tg iter (rdI X.K X.mg E Γ true ik src)) (ok : BlkOk X.N X.env.scope scope own)
    (hg : ∀ (s : Shared) (H : Hp) (C : Addr) (cl : List (Str × Addr)) (fp : List Addr), PG (X.blk s H scope (compEnvC scope cl C X.env) fp) tg (rdG X.K tgt))
    (ht : ∀ (s : Shared) (H : Hp) (C : Addr) (cl : List (Str × Addr)) (fp : List Addr), PTs (X.blk s H scope (compEnvC scope cl C X.env) fp) ifs (rdC X.K X.mg E0 Γ conds))
    (he : ∀ (s : Shared) (H : Hp) (C : Addr) (cl : List (Str × Addr)) (fp : List Addr), PE (X.blk s H scope (compEnvC scope cl C X.env) fp) elt (rd X.K X.mg E0 Γ T))
    (hsl : ∀ i ∈ slotsT tgt, i ∈ own.map (·.2)) (hs : ∀ x, foldedSetIterable iter X.env x = pure x) :
    PS X (.Assign [.Name y py] (.ListComp elt [⟨tg, iter, ifs, 0⟩] scope pos) spos) (rdS X.K X.mg E Γ (.asg ow i (.comp (own.map (·.2)) tgt ik src conds T))) := by
  refine (ps_setLc hc hN hy hyl hsw hi ok hg ht he hs).weak (asg_of fun σ H Q q => tlc_of hsl σ H Q ?_)
  cases ow with
  | true => exact q
  | false =>
    obtain ⟨w, O0, H0, O, env, st, rr, st', R, q, oo⟩ := q
    refine ⟨w, O0, H0, O, env, st, rr, st', R, q, comp_list _ _ _ _ q, ?_⟩
    cases rr with
    | ok d => exact fun H' p a ha b => oo H' p _ (b.rp (R.free ha))
    | error c => exact oo
/-- names = value, unpacked -/
theorem x_unp {tg e : Expr} {tgt : Tg} {A : TK.E} (he : PE X e (rd X.K X.mg E Γ A)) (hg : PG X tg (rdG X.K tgt)) (hs : swapsWithSole [tg] e pos.line X.env = pure false) (hw : swappedStores [tg] e X.env = pure none) (h1 : (assignEach [tg] X.env).map (·.2) = [assign tg X.env]) :
    PS X (.Assign [tg] e pos) (rdS X.K X.mg E Γ (.unp tgt A)) := by
  refine (ps_asg he hg hs hw h1).weak fun D σ H q => ?_
  obtain ⟨w, O0, H0, O, env, st, r, st', R, q, o⟩ := q
  have q : (ev Γ (frz env (esc A)) A >>= fun d => liftO (asgT tgt d (frz env (esc A))) >>= fun env2 => (pure (.nx, env2) : M (Fl × Env))) st = some (r, st') := q
  obtain ⟨O1, R1⟩ := R.frz (esc A)
  generalize frz env (esc A) = env1 at q R1
  rcases bind_inv q with ⟨c, g1, rfl⟩ | ⟨d, st1, g1, g2⟩
  · exact ⟨w, O0, H0, O1, env1, st, _, _, R1, g1, o.err R1⟩
  · refine ⟨w, O0, H0, O1, env1, st, .ok d, _, R1, g1, fun H1 p v rp => ?_⟩
    rcases bind_inv g2 with ⟨c, g3, rfl⟩ | ⟨env2, st2, g3, g4⟩
    · obtain ⟨_, _, z, _⟩ := liftO_inv g3; cases z
    · obtain ⟨_, h3, z, rfl⟩ := liftO_inv g3
      cases z
      obtain ⟨rfl, rfl⟩ := pure_inv g4
      exact ⟨w, O0, H0, O1, env1, _, d, env2, R1.post p, rp, h3, fun σ' R2 _ => o _ σ' H1 R2⟩
/-! ### some names at once -/
def slotF (o : Bool) (d : D) : Slot := if o then .own d else .val d
def slotFs : List Bool → List D → Env
  | o :: os, d :: ds => slotF o d :: slotFs os ds
  | _, _ => []
def rdP (K : PySem.W.Frag) (mg : Str → Option Value) (E : XK) (Γ : List FnSem) (fs : List Bool) (Ts : List TK.E) : TA := fun σ H Q => ∃ w O0 H0 O env st r st' xs ys, Rel K w O0 H0 O (σ ++ xs) H (env ++ ys) st ∧ env.length = σ.length ∧ evsP Γ env fs Ts st = some (r, st') ∧
  match r with
  | .ok ds => ∀ O' H' vs, Rel K w O0 H0 O' (σ ++ (xs ++ vs.map some)) H' (env ++ (ys ++ slotFs fs ds)) st' → Q vs H'
  | .error c => ∀ A H', mg c = some (.ref A) → Post O0 w.ps H0 st' H' → E (.ref A) none H'
theorem p_nil : PA X [] (rdP X.K X.mg E Γ [] []) := by
  refine pa_nil.weak fun σ H Q q => ?_
  obtain ⟨w, O0, H0, O, env, st, r, st', xs, ys, R, hl, q, o⟩ := q
  obtain ⟨rfl, rfl⟩ := pure_inv (a := ([] : List D)) q
  exact o O H [] (by rw [List.map_nil, List.append_nil]; show Rel _ _ _ _ _ _ _ (env ++ (ys ++ [])) _; rw [List.append_nil]; exact R)
theorem p_cons {e : Expr} {es : List Expr} {f : Bool} {fs : List Bool} {T : TK.E} {Ts : List TK.E} (h : PE X e (rdF X.K X.mg E Γ f T)) (hs : PA X es (rdP X.K X.mg E Γ fs Ts)) (hst : notStar e = true) : PA X (e :: es) (rdP X.K X.mg E Γ (f :: fs) (T :: Ts)) := by
  refine (pa_cons h hs (star_ok hst)).weak fun σ H Q q => ?_
  obtain ⟨w, O0, H0, O, env, st, r, st', xs, ys, R, hl, q, o⟩ := q
  have q : (ev Γ env T >>= fun d => if ownB f d then (evsP Γ env fs Ts >>= fun ds => (pure (d :: ds) : M (List D))) else fail) st = some (r, st') := q
  have Rd := R.drop hl
  rcases bind_inv q with ⟨c, g1, rfl⟩ | ⟨d, st1, g1, g2⟩
  · have oe : ∀ {Q : D → Hp → Prop}, Out X.mg E O w.ps H (.error c : Except Str D) st' Q := fun A H' m p => o A H' m (Rd.post p).post0
    cases f with
    | true => exact ⟨w, O0, H0, O, env, st, .error c, _, Rd, g1, (fun d z => by cases z), oe⟩
    | false => exact ⟨w, O0, H0, O, env, st, .error c, _, Rd, g1, oe⟩
  · obtain ⟨ob, g2⟩ := ite_ok g2
    have go : ∀ {H1 : Hp} {O1 : Addr → Bool} {v : V}, Rel X.K w O0 H0 O1 (σ ++ (xs ++ [some v])) H1 (env ++ (ys ++ [slotF f d])) st1 → rdP X.K X.mg E Γ fs Ts σ H1 fun vs H2 => Q (v :: vs) H2 := fun {H1 O1 v} R1 => by
      rcases bind_inv g2 with ⟨c, g3, rfl⟩ | ⟨ds, st2, g3, g4⟩
      · exact ⟨w, O0, H0, O1, env, st1, .error c, st', _, _, R1, hl, g3, o⟩
      · obtain ⟨rfl, rfl⟩ := pure_inv g4
        exact ⟨w, O0, H0, O1, env, st1, .ok ds, _, _, _, R1, hl, g3, fun O' H' vs R2 => o O' H' (v :: vs) (by
          rw [List.append_assoc, List.append_assoc] at R2
          exact R2)⟩
    cases f with
    | true => exact ⟨w, O0, H0, O, env, st, .ok d, _, Rd, g1, (fun d' z => by cases z; exact ob), fun H1 p a ha oa => go (by
        have := R.pushN p ha oa
        rw [List.append_assoc, List.append_assoc] at this
        exact this)⟩
    | false => exact ⟨w, O0, H0, O, env, st, .ok d, _, Rd, g1, fun H1 p v rp => go (by
        have := (R.post p).push rp
        rw [List.append_assoc, List.append_assoc] at this
        exact this)⟩
/-- the last slots are put where they belong -/
theorem Rel.moves {K : PySem.W.Frag} {w : Dr} {O0 O : Addr → Bool} {H0 H : Hp} {st st1 st2 : DSt} : ∀ {is : List (Nat × Bool)} {vs : List V} {ds : List D} {σ : L2.St} {env : Env} {r : Except Str Env}, Rel K w O0 H0 O (σ ++ vs.map some) H (env ++ slotFs (is.map (·.2)) ds) st → env.length = σ.length → vs.length = ds.length → setAll is ds env st1 = some (r, st2) →
    ∃ env', r = .ok env' ∧ st2 = st1 ∧ Rel K w O0 H0 O ((is.zip vs).foldl (fun s p => s.set p.1.1 (some p.2)) σ) H env' st
  | [], [], [], σ, env, r, R, hl, _, h => by
    obtain ⟨rfl, rfl⟩ := pure_inv (a := env) h
    exact ⟨env, rfl, rfl, R.drop hl⟩
  | [], _ :: _, [], _, _, _, _, _, h0, _ => by cases h0
  | [], _, _ :: _, _, _, _, _, _, _, h => by cases h
  | _ :: _, _, [], _, _, _, _, _, _, h => by cases h
  | _ :: _, [], _ :: _, _, _, _, _, _, h0, _ => by cases h0
  | (i, o) :: is, v :: vs, d :: ds, σ, env, r, R, hl, h0, h => by
    have h : (setS env i (slotF o d) >>= fun env1 => setAll is ds env1) st1 = some (r, st2) := h
    rcases bind_inv h with ⟨c, g1, rfl⟩ | ⟨env1, st3, g1, g2⟩
    · obtain ⟨_, z, _⟩ := setS_inv (env' := env) g1; cases z
    · obtain ⟨hi, z, rfl⟩ := setS_inv (env' := env) g1
      cases z
      have R1 : Rel K w O0 H0 O (σ.set i (some v) ++ vs.map some) H (env.set i (slotF o d) ++ slotFs (is.map (·.2)) ds) st := by
        refine R.remap (fun j => if j < env.length then j else if j = env.length then i else j - 1) ?_ fun j s hj hn => ?_
        · have := R.len
          simp only [List.length_append, List.length_map, List.map_cons, slotFs, List.length_cons, List.length_set] at this ⊢
          omega
        · by_cases hlt : j < env.length
          · rw [List.getElem?_append_left (by rw [List.length_set]; exact hlt)] at hj
            rw [List.getElem?_append_left (by rw [List.length_set]; omega)]
            by_cases e : i = j
            · subst e
              rw [List.getElem?_set_self hi] at hj
              cases hj
              refine ⟨env.length, ?_, ?_, ?_⟩
              · rw [List.getElem?_append_right (Nat.le_refl _), Nat.sub_self]; rfl
              · rw [List.getElem?_set_self (by omega), List.getElem?_append_right (by omega), hl, Nat.sub_self]; rfl
              · simp
            · rw [List.getElem?_set_ne e] at hj ⊢
              refine ⟨j, by rw [List.getElem?_append_left hlt]; exact hj, by rw [List.getElem?_append_left (by omega)], if_pos hlt⟩
          · rw [List.getElem?_append_right (by rw [List.length_set]; omega), List.length_set] at hj
            rw [List.getElem?_append_right (by rw [List.length_set]; omega), List.length_set]
            refine ⟨j + 1, ?_, ?_, ?_⟩
            · rw [List.getElem?_append_right (by omega), show j + 1 - env.length = (j - env.length) + 1 by omega]
              exact hj
            · rw [List.getElem?_append_right (by omega), show j + 1 - σ.length = (j - σ.length) + 1 by omega]
              rfl
            · show (if j + 1 < env.length then j + 1 else if j + 1 = env.length then i else j + 1 - 1) = j
              rw [if_neg (by omega), if_neg (by omega)]
              omega
      exact R1.moves (by rw [List.length_set, List.length_set]; exact hl) (Nat.succ.inj h0) g2
theorem par_of {K : PySem.W.Frag} {mg : Str → Option Value} {is : List (Nat × Bool)} {As : List TK.E} {ta : TA} (ht : ∀ σ H Q, rdP K mg E Γ (is.map (·.2)) As σ H Q → ta σ H Q) {D : Ends} {σ : L2.St} {H : Hp} {Q : List V → Hp → Prop} (q : rdS K mg E Γ (.par is As) D σ H)
    (hQ : ∀ vs H1, vs.length = is.length → D.nx ((is.zip vs).foldl (fun s p => s.set p.1.1 (some p.2)) σ) H1 → (∀ p o, H1 p = none → D.nx ((is.zip vs).foldl (fun s p => s.set p.1.1 (some p.2)) σ) (upd H1 p o)) → Q vs H1) : ta σ H Q := by
  obtain ⟨w, O0, H0, O, env, st, r, st', R, q, o⟩ := q
  have q : (evsP Γ (frz env (escs As)) (is.map (·.2)) As >>= fun ds => setAll is ds (frz env (escs As)) >>= fun env2 => (pure (.nx, env2) : M (Fl × Env))) st = some (r, st') := q
  obtain ⟨O1, R1⟩ := R.frz (escs As)
  generalize frz env (escs As) = env1 at q R1
  refine ht σ H _ ?_
  rcases bind_inv q with ⟨c, g1, rfl⟩ | ⟨ds, st1, g1, g2⟩
  · exact ⟨w, O0, H0, O1, env1, st, .error c, st', [], [], by rw [List.append_nil, List.append_nil]; exact R1, R1.len, g1, o⟩
  · refine ⟨w, O0, H0, O1, env1, st, .ok ds, st1, [], [], by rw [List.append_nil, List.append_nil]; exact R1, R1.len, g1, fun O' H' vs R2 => ?_⟩
    rw [List.nil_append, List.nil_append] at R2
    have lens : ∀ {fs : List Bool} {As : List TK.E} {st st1 : DSt} {ds : List TK.D}, evsP Γ env1 fs As st = some (.ok ds, st1) → fs.length = As.length ∧ ds.length = As.length := by
      intro fs
      induction fs with
      | nil =>
        intro As st st1 ds h
        cases As with
        | nil => cases h; exact ⟨rfl, rfl⟩
        | cons a as => cases h
      | cons f fs ih =>
        intro As st st1 ds h
        cases As with
        | nil => cases h
        | cons a as =>
          have h : (ev Γ env1 a >>= fun d => if ownB f d then (evsP Γ env1 fs as >>= fun ds => (pure (d :: ds) : M (List TK.D))) else fail) st = some (.ok ds, st1) := h
          rcases bind_inv h with ⟨c, _, z⟩ | ⟨d, s1, _, h⟩
          · cases z
          obtain ⟨_, h⟩ := ite_ok h
          rcases bind_inv h with ⟨c, _, z⟩ | ⟨d, s1, h1, h⟩
          · cases z
          obtain ⟨z, _⟩ := pure_inv h
          cases z
          obtain ⟨e1, e2⟩ := ih h1
          exact ⟨by rw [List.length_cons, List.length_cons, e1], by rw [List.length_cons, List.length_cons, e2]⟩
    obtain ⟨l1, l2⟩ := lens g1
    rw [List.length_map] at l1
    have slen : ∀ {fs : List Bool} {ds : List TK.D}, fs.length = ds.length → (slotFs fs ds).length = ds.length := by
      intro fs
      induction fs with
      | nil => intro ds h; cases ds <;> first | rfl | cases h
      | cons f fs ih =>
        intro ds h
        cases ds with
        | nil => cases h
        | cons d ds => show (slotFs fs ds).length + 1 = _; rw [ih (Nat.succ.inj h)]; rfl
    have hv : vs.length = ds.length := by
      have h1 := R2.len
      rw [List.length_append, List.length_append, List.length_map, slen (by rw [List.length_map]; omega)] at h1
      have h2 := R1.len
      omega
    rcases bind_inv g2 with ⟨c, g3, rfl⟩ | ⟨env2, st2, g3, g4⟩
    · obtain ⟨_, z, _⟩ := R2.moves R1.len hv g3; cases z
    · obtain ⟨_, z, rfl, R3⟩ := R2.moves R1.len hv g3
      cases z
      obtain ⟨rfl, rfl⟩ := pure_inv g4
      exact hQ vs H' (by omega) (o _ _ _ R3) fun p o' hp => o _ _ _ (R3.post (R3.post_new hp))
theorem x_par2 {i j : Nat} {x y : Str} {a b : Expr} {o1 o2 : Bool} {A B : TK.E} {px py pt : Pos} {kt k2 pt2} (hc : X.calm = true) (hN : X.N.Nodup) (hi : X.N[i]? = some x) (hj : X.N[j]? = some y) (hij : i ≠ j)
    (hx : X.env.scope.names.lookup x = some .local) (hy : X.env.scope.names.lookup y = some .local) (ha : PA X [a, b] (rdP X.K X.mg E Γ [o1, o2] [A, B]))
    (hw : swappedStores [.Tuple [.Name x px, .Name y py] kt pt] (.Tuple [a, b] k2 pt2) X.env = pure (some [x, y])) :
    PS X (.Assign [.Tuple [.Name x px, .Name y py] kt pt] (.Tuple [a, b] k2 pt2) pos) (rdS X.K X.mg E Γ (.par [(i, o1), (j, o2)] [A, B])) := by
  refine (ps_par hc hN hi hj hij hx hy ha hw rfl).weak fun D σ H q => par_of (is := [(i, o1), (j, o2)]) (fun _ _ _ z => z) q fun vs H1 hl hn _ => ?_
  match vs, hl, hn with
  | [v, u], _, hn => exact ⟨v, u, rfl, hn⟩
theorem x_par3 {i j l : Nat} {x y z : Str} {a b c : Expr} {o1 o2 o3 : Bool} {A B C : TK.E} {px py pz pt : Pos} {kt k2 pt2} (hc : X.calm = true) (hN : X.N.Nodup) (hi : X.N[i]? = some x) (hj : X.N[j]? = some y) (hl : X.N[l]? = some z) (hij : i ≠ j) (hil : i ≠ l) (hjl : j ≠ l)
    (hx : X.env.scope.names.lookup x = some .local) (hy : X.env.scope.names.lookup y = some .local) (hz : X.env.scope.names.lookup z = some .local) (ha : PA X [a, b, c] (rdP X.K X.mg E Γ [o1, o2, o3] [A, B, C]))
    (hw : swappedStores [.Tuple [.Name x px, .Name y py, .Name z pz] kt pt] (.Tuple [a, b, c] k2 pt2) X.env = pure (some [x, y, z])) :
    PS X (.Assign [.Tuple [.Name x px, .Name y py, .Name z pz] kt pt] (.Tuple [a, b, c] k2 pt2) pos) (rdS X.K X.mg E Γ (.par [(i, o1), (j, o2), (l, o3)] [A, B, C])) := by
  refine (ps_par3 hc hN hi hj hl hij hil hjl hx hy hz ha hw rfl).weak fun D σ H q => par_of (is := [(i, o1), (j, o2), (l, o3)]) (fun _ _ _ z => z) q fun vs H1 hl hn _ => ?_
  match vs, hl, hn with
  | [v, u, t], _, hn => exact ⟨v, u, t, rfl, hn⟩
/-- the same by way of a tuple -/
theorem x_par2T {i j : Nat} {x y : Str} {a b : Expr} {o1 o2 : Bool} {A B : TK.E} {px py pt : Pos} {kt k2 pt2} (hc : X.calm = true) (hN : X.N.Nodup) (hi : X.N[i]? = some x) (hj : X.N[j]? = some y)
    (hx : Loc X.env.scope x) (hy : Loc X.env.scope y) (hfx : X.fn x = true ∨ X.env.scope.names.lookup x = some .local) (hfy : X.fn y = true ∨ X.env.scope.names.lookup y = some .local) (ha : PA X [a, b] (rdP X.K X.mg E Γ [o1, o2] [A, B]))
    (hw : swappedStores [.Tuple [.Name x px, .Name y py] kt pt] (.Tuple [a, b] k2 pt2) X.env = pure none) :
    PS X (.Assign [.Tuple [.Name x px, .Name y py] kt pt] (.Tuple [a, b] k2 pt2) pos) (rdS X.K X.mg E Γ (.par [(i, o1), (j, o2)] [A, B])) := by
  refine (ps_asg (pe_tup ha) (pg_tup (n := 2) hc (pgs_cons (pg_name hN hi hx hfx) (pgs_cons (pg_name hN hj hy hfy) pgs_nil rfl) rfl) rfl rfl) rfl hw rfl).weak fun D σ H q => par_of (is := [(i, o1), (j, o2)]) (fun _ _ _ z => z) q fun vs H1 hl _ hn => ?_
  match vs, hl, hn with
  | [v, u], _, hn => exact ⟨by show 2 ≤ sizeLine; decide, fun p hp => ⟨p, [v, u], rfl, SqT.of upd_same, rfl, _, _, rfl, _, _, rfl, rfl, hn p _ hp⟩⟩
theorem x_par3T {i j l : Nat} {x y z : Str} {a b c : Expr} {o1 o2 o3 : Bool} {A B C : TK.E} {px py pz pt : Pos} {kt k2 pt2} (hc : X.calm = true) (hN : X.N.Nodup) (hi : X.N[i]? = some x) (hj : X.N[j]? = some y) (hl : X.N[l]? = some z)
    (hx : Loc X.env.scope x) (hy : Loc X.env.scope y) (hz : Loc X.env.scope z) (hfx : X.fn x = true ∨ X.env.scope.names.lookup x = some .local) (hfy : X.fn y = true ∨ X.env.scope.names.lookup y = some .local) (hfz : X.fn z = true ∨ X.env.scope.names.lookup z = some .local) (ha : PA X [a, b, c] (rdP X.K X.mg E Γ [o1, o2, o3] [A, B, C]))
    (hw : swappedStores [.Tuple [.Name x px, .Name y py, .Name z pz] kt pt] (.Tuple [a, b, c] k2 pt2) X.env = pure none) :
    PS X (.Assign [.Tuple [.Name x px, .Name y py, .Name z pz] kt pt] (.Tuple [a, b, c] k2 pt2) pos) (rdS X.K X.mg E Γ (.par [(i, o1), (j, o2), (l, o3)] [A, B, C])) := by
  refine (ps_asg (pe_tup ha) (pg_tup (n := 3) hc (pgs_cons (pg_name hN hi hx hfx) (pgs_cons (pg_name hN hj hy hfy) (pgs_cons (pg_name hN hl hz hfz) pgs_nil rfl) rfl) rfl) rfl rfl) rfl hw rfl).weak fun D σ H q => par_of (is := [(i, o1), (j, o2), (l, o3)]) (fun _ _ _ z => z) q fun vs H1 hl _ hn => ?_
  match vs, hl, hn with
  | [v, u, t], _, hn => exact ⟨by show 3 ≤ sizeLine; decide, fun p hp => ⟨p, [v, u, t], rfl, SqT.of upd_same, rfl, _, _, rfl, _, _, rfl, _, _, rfl, rfl, hn p _ hp⟩⟩
/-! ### loops -/
theorem x_for {tg iter : Expr} {body : List Stmt} {tgt : Tg} {ik : IK} {src : List TK.E} {B : List S} (hp : PassesOwn (model X.prog X.w) X.A X.env X.xe) (hc : X.calm = true) (hi : PI X tg iter (rdI X.K X.mg E Γ false ik src)) (hg : PG X tg (rdG X.K tgt)) (hb : PSs X body (rdSs X.K X.mg E Γ B))
    (hs : ∀ x, foldedSetIterable iter X.env x = pure x) : PS X (.For tg iter body [] pos) (rdS X.K X.mg E Γ (.for tgt ik src B)) := by
  refine (ps_for hp hc hi hg hb hs).weak fun D σ H q => ?_
  obtain ⟨w, O0, H0, O, env, st, r, st', R, q, o⟩ := q
  have q : (evs Γ (frz env (escs src)) src >>= fun ds => liftO (walkL ik ds) >>= fun items => forL tgt (exs Γ B) items (frz env (escs src))) st = some (r, st') := q
  obtain ⟨O1, R1⟩ := R.frz (escs src)
  generalize frz env (escs src) = env1 at q R1
  have q : ((evs Γ env1 src >>= fun ds => liftO (walkL ik ds)) >>= fun items => forL tgt (exs Γ B) items env1) st = some (r, st') := by rw [bind_assoc']; exact q
  rcases bind_inv q with ⟨c, g1, rfl⟩ | ⟨items, st1, g1, g2⟩
  · exact ⟨w, O0, H0, O1, env1, st, .error c, _, R1, g1, o.err R1⟩
  · refine ⟨w, O0, H0, O1, env1, st, .ok items, st1, R1, g1, fun H1 p1 J hJ hlen => ?_⟩
    obtain ⟨objs, Y, hat, wk, yok, kinds⟩ := hJ
    have R2 := R1.post p1
    refine ⟨fun i m σ' H' => m = items.length - i ∧ i ≤ items.length ∧ ∃ Oi envi sti, Rel X.K w O0 (baseH H1 O1 O0) Oi σ' H' envi sti ∧ forL tgt (exs Γ B) (items.drop i) envi sti = some (r, st'), ⟨_, rfl, Nat.zero_le _, O1, env1, st1, R2.rebase, g2⟩, ?_⟩
    rintro i m σi Hi ⟨rfl, hi, Oi, envi, sti, Ri, fi⟩
    have le := R2.leB Ri
    have at' : AtO objs Hi ∧ SqL X.K Hi w.sa (w.ns.map V.int) := ⟨fun p hp => by
      obtain ⟨_, k2, k3⟩ := kinds p hp
      have h1 : hid H1 O1 p.1 = some p.2 := by rw [hid_of (k2 rfl)]; exact hat p hp
      rcases k3 with ⟨xs, e⟩ | ⟨xs, e⟩ | ⟨od, u, e, _⟩
      · rw [e] at h1 ⊢
        exact (hid_some (le.lst h1)).2
      · rw [e] at h1 ⊢
        exact (hid_some (le.tup h1)).2
      · rw [e] at h1 ⊢
        exact (hid_some (le.frz h1)).2, hid_le.sqL Ri.scr⟩
    by_cases hlt : i < items.length
    · right
      refine ⟨wk.goes i Hi hlt at', fun σ' H' => ∃ Oj envj stj, Rel X.K w O0 (baseH H1 O1 O0) Oj σ' H' envj stj ∧ forL tgt (exs Γ B) (items.drop (i + 1)) envj stj = some (r, st'), fun σ' H' ⟨Oj, envj, stj, Rj, fj⟩ => ⟨_, ?_, rfl, hlt, Oj, envj, stj, Rj, fj⟩, fun x H' y => ?_⟩
      · omega
      · obtain ⟨alloc, d, hd, rp⟩ := yok i Hi x H' Oi hlt (wk.yields i Hi x H' hlt at' y) le Ri.alc
        have Rj : Rel X.K w O0 (baseH H1 O1 O0) Oi σi H' envi sti := Ri.post (Ri.postN alloc)
        have hdrop : items.drop i = d :: items.drop (i + 1) := List.drop_eq_getElem?_toList_append.trans (by rw [hd]; rfl)
        rw [hdrop] at fi
        have fi : (liftO (asgT tgt d envi) >>= fun env1 => exs Γ B env1 >>= fun p => match p.1 with | .nx => forL tgt (exs Γ B) (items.drop (i + 1)) p.2 | .rt v => (pure (.rt v, p.2) : M (Fl × Env))) sti = some (r, st') := fi
        rcases bind_inv fi with ⟨c, g3, rfl⟩ | ⟨env2, st2, g3, g4⟩
        · obtain ⟨_, _, z, _⟩ := liftO_inv g3; cases z
        obtain ⟨_, hasg, z, rfl⟩ := liftO_inv g3
        cases z
        refine ⟨w, O0, _, Oi, envi, _, d, env2, Rj, rp, hasg, fun σ2 R3 _ => ?_⟩
        rcases bind_inv g4 with ⟨c, g5, rfl⟩ | ⟨⟨fl, env3⟩, st3, g5, g6⟩
        · exact ⟨w, O0, _, Oi, env2, _, .error c, _, R3, g5, o.baseErr R2⟩
        · refine ⟨w, O0, _, Oi, env2, _, .ok (fl, env3), st3, R3, g5, ?_⟩
          cases fl with
          | nx => exact fun O' σ' H'' R4 => ⟨O', env3, st3, R4, g6⟩
          | rt v =>
            obtain ⟨rfl, rfl⟩ := pure_inv (a := (Fl.rt v, env3)) g6
            exact fun v' H'' P rp' => o v' H'' (R2.postB P) rp'
    · left
      obtain rfl : i = items.length := by omega
      rw [List.drop_length] at fi
      obtain ⟨rfl, rfl⟩ := pure_inv (a := (Fl.nx, envi)) fi
      exact ⟨wk.stops Hi at', o _ _ _ (R2.unbase Ri)⟩
theorem x_while {c : Expr} {body : List Stmt} {C : TK.E} {B : List S} (hp : PassesOwn (model X.prog X.w) X.A X.env X.xe) (hc : PT X c (rdT X.K X.mg E Γ C)) (hb : PSs X body (rdSs X.K X.mg E Γ B)) : PS X (.While c body [] pos) (rdS X.K X.mg E Γ (.while C B)) := by
  refine (ps_while hp hc hb).weak fun D σ H q => ?_
  obtain ⟨w, O0, H0, O, env, st, r, st', R, q, o⟩ := q
  have q : whL (tst Γ C) (exs Γ B) fuel env st = some (r, st') := q
  refine ⟨fun m σ' H' => ∃ Oi envi sti, Rel X.K w O0 H0 Oi σ' H' envi sti ∧ whL (tst Γ C) (exs Γ B) m envi sti = some (r, st'), ⟨fuel, O, env, st, R, q⟩, ?_⟩
  rintro m σi Hi ⟨Oi, envi, sti, Ri, fi⟩
  cases m with
  | zero => cases fi
  | succ m =>
    have fi : (tst Γ C envi >>= fun k => if k then (exs Γ B envi >>= fun p => match p.1 with | .nx => whL (tst Γ C) (exs Γ B) m p.2 | .rt v => (pure (.rt v, p.2) : M (Fl × Env))) else pure (.nx, envi)) sti = some (r, st') := fi
    rcases bind_inv fi with ⟨c, g1, rfl⟩ | ⟨b, st1, g1, g2⟩
    · exact ⟨w, O0, H0, Oi, envi, sti, .error c, _, Ri, g1, o.err Ri⟩
    · refine ⟨w, O0, H0, Oi, envi, sti, .ok b, st1, Ri, g1, fun H1 p => ?_⟩
      have R1 := Ri.post p
      cases b with
      | false =>
        obtain ⟨rfl, rfl⟩ := pure_inv (a := (Fl.nx, envi)) g2
        exact o _ _ _ R1
      | true =>
        refine ⟨fun σ' H' => ∃ Oi envi sti, Rel X.K w O0 H0 Oi σ' H' envi sti ∧ whL (tst Γ C) (exs Γ B) m envi sti = some (r, st'), fun σ' H' h => ⟨m, Nat.lt_succ_self m, h⟩, ?_⟩
        rcases bind_inv g2 with ⟨c, g5, rfl⟩ | ⟨⟨fl, env3⟩, st3, g5, g6⟩
        · exact ⟨w, O0, H0, Oi, envi, st1, .error c, _, R1, g5, o⟩
        · refine ⟨w, O0, H0, Oi, envi, st1, .ok (fl, env3), st3, R1, g5, ?_⟩
          cases fl with
          | nx => exact fun O' σ' H'' R4 => ⟨O', env3, st3, R4, g6⟩
          | rt v =>
            obtain ⟨rfl, rfl⟩ := pure_inv (a := (Fl.rt v, env3)) g6
            exact o
end
end TK

/-! the reflected layer, 13: methods that write -/
namespace TK
open PySem PySem.Spec PyProof.Rows L2
section
variable {X : Cx} {E : XK} {Γ : List FnSem} {pos apos cpos : Pos}
theorem ownL_inv {env : Env} {i : Nat} {l : List D} (h : ownL env i = some l) : env[i]? = some (.own (.list l)) := by
  unfold ownL at h
  split at h
  · cases h; assumption
  · cases h
theorem few_ok {X : Cx} {e : Expr} {cpos : Pos} (hs : notStar e = true) : ((backTo cpos (starEach [e] X.env)).all (fun x => !x.1) && (backToKw cpos (keywordEach [] X.env)).all (fun x => x.1.isSome)
      && decide (([e] : List Expr).length + ([] : List Keyword).length + (if ([] : List Keyword).isEmpty then 0 else 1) < 30)) = true := by
  rw [star_ok hs]; rfl
theorem x_append {x : Str} {i : Nat} {e : Expr} {A : TK.E} {p0 : Pos} (hN : X.N[i]? = some x) (hv : Vis X.env.scope x) (hd : (x == ("__debug__" : Str)) = false) (hcd : (x == ("__classdict__" : Str)) = false) (he : PE X e (rd X.K X.mg E Γ A)) (hs : notStar e = true)
    (hbase : attributeBase (.Name x p0) "append" X.env (eval (.Name x p0) X.env) = eval (.Name x p0) X.env) (hline : (apos.endLine == cpos.line) = true) :
    PS X (.Expr (.Call (.Attribute (.Name x p0) "append" apos) [e] [] cpos) pos) (rdS X.K X.mg E Γ (.append i A)) := by
  refine (ps_expr (pe_bm PySem.F.plainAttrs_list PySem.F.slot_list_append rfl mt_append (pe_var hN hv hd hcd) (pa_cons he pa_nil (star_ok hs)) hbase (few_ok hs) hline (star_ok hs) rfl) rfl).weak fun D σ H q => ?_
  obtain ⟨w, O0, H0, O, env, st, r, st', R, q, o⟩ := q
  have q : (liftO (ownL (frz env (esc A)) i) >>= fun l => ev Γ (frz env (esc A)) A >>= fun d => if l.length < lim then (pure (.nx, (frz env (esc A)).set i (.own (.list (l ++ [d])))) : M (Fl × Env)) else fail) st = some (r, st') := q
  obtain ⟨O1, R1⟩ := R.frz (esc A)
  generalize frz env (esc A) = env1 at q R1
  rcases bind_inv q with ⟨c, g1, rfl⟩ | ⟨l, st1, g1, g2⟩
  · obtain ⟨_, _, z, _⟩ := liftO_inv g1; cases z
  obtain ⟨_, hl, z, rfl⟩ := liftO_inv g1
  cases z
  have hl := ownL_inv hl
  obtain ⟨p, e1, e2, e3, e4⟩ := R1.own i _ hl
  cases e4 with
  | lst a b =>
    refine ⟨_, e1, .inl ⟨rfl, _, SqL.of a⟩, ?_⟩
    rcases bind_inv g2 with ⟨c, g3, rfl⟩ | ⟨d, st2, g3, g4⟩
    · exact ⟨w, O0, H0, O1, env1, _, .error c, _, R1, g3, o.err R1⟩
    · refine ⟨w, O0, H0, O1, env1, _, .ok d, st2, R1, g3, fun H1 p1 v rp => ?_⟩
      have R2 := R1.post p1
      split at g4
      · rename_i hlt
        obtain ⟨rfl, rfl⟩ := pure_inv g4
        have a' := p1.1.own p _ e2 (R1.psne e3) a
        have b' := b.mono p1.1.le
        refine ⟨p, _, v, rfl, rfl, a', by rw [b.length]; exact hlt, o _ _ _ (R2.writeOwn hl e1 fun le => .lst upd_same ((b'.append (.cons rp .nil)).mono le))⟩
      · cases g4
theorem x_appPop {x y : Str} {i j : Nat} {e : Expr} {A : TK.E} {p0 p1 apos2 cpos2 : Pos} (hN : X.N[i]? = some x) (hv : Vis X.env.scope x) (hd : (x == ("__debug__" : Str)) = false) (hcd : (x == ("__classdict__" : Str)) = false)
    (hN2 : X.N[j]? = some y) (hv2 : Vis X.env.scope y) (hd2 : (y == ("__debug__" : Str)) = false) (hcd2 : (y == ("__classdict__" : Str)) = false) (he : PE X e (rd X.K X.mg E Γ A)) (hs : notStar e = true)
    (hbase : attributeBase (.Name x p0) "append" X.env (eval (.Name x p0) X.env) = eval (.Name x p0) X.env) (hline : (apos.endLine == cpos.line) = true)
    (hbase2 : attributeBase (.Name y p1) "pop" X.env (eval (.Name y p1) X.env) = eval (.Name y p1) X.env) (hline2 : (apos2.endLine == cpos2.line) = true) :
    PS X (.Expr (.Call (.Attribute (.Name x p0) "append" apos) [.Call (.Attribute (.Name y p1) "pop" apos2) [e] [] cpos2] [] cpos) pos) (rdS X.K X.mg E Γ (.appPop i j A)) := by
  refine (ps_expr (pe_bm PySem.F.plainAttrs_list PySem.F.slot_list_append rfl mt_append (pe_var hN hv hd hcd) (pa_cons (pe_bm PySem.F.plainAttrs_list PySem.F.slot_list_pop rfl mt_popAt (pe_var hN2 hv2 hd2 hcd2) (pa_cons he pa_nil (star_ok hs)) hbase2 (few_ok hs) hline2 (star_ok hs) rfl) pa_nil (star_ok rfl)) hbase (few_ok rfl) hline (star_ok rfl) rfl) rfl).weak fun D σ H q => ?_
  obtain ⟨w, O0, H0, O, env, st, r, st', R, q, o⟩ := q
  have q : (liftO (ownL env i) >>= fun l => liftO (ownL env j) >>= fun m => ev Γ env A >>= fun d => (match d with
    | .int n => if 0 ≤ n ∧ n < 1000000000 ∧ l.length < lim ∧ i ≠ j then (match m[n.toNat]? with
        | some x => (pure (.nx, (env.set j (.own (.list (m.eraseIdx n.toNat)))).set i (.own (.list (l ++ [x])))) : M (Fl × Env))
        | none => fail) else fail
    | _ => fail)) st = some (r, st') := q
  rcases bind_inv q with ⟨c, g1, rfl⟩ | ⟨l, st1, g1, g2⟩
  · obtain ⟨_, _, z, _⟩ := liftO_inv g1; cases z
  obtain ⟨_, hl, z, rfl⟩ := liftO_inv g1
  cases z
  rcases bind_inv g2 with ⟨c, g1, rfl⟩ | ⟨m, st1, g1, g3⟩
  · obtain ⟨_, _, z, _⟩ := liftO_inv g1; cases z
  obtain ⟨_, hm, z, rfl⟩ := liftO_inv g1
  cases z
  have hl := ownL_inv hl
  have hm := ownL_inv hm
  obtain ⟨p, e1, e2, e3, e4⟩ := R.own i _ hl
  obtain ⟨p', f1, f2, f3, f4⟩ := R.own j _ hm
  cases e4 with
  | @lst ws _ a b =>
    cases f4 with
    | @lst zs _ a2 b2 =>
      refine ⟨_, e1, .inl ⟨rfl, _, SqL.of a⟩, _, f1, .inl ⟨rfl, _, SqL.of a2⟩, ?_⟩
      rcases bind_inv g3 with ⟨c, g5, rfl⟩ | ⟨d, st2, g5, g4⟩
      · exact ⟨w, O0, H0, O, env, _, .error c, _, R, g5, o.err R⟩
      · refine ⟨w, O0, H0, O, env, _, .ok d, st2, R, g5, fun H1 p1 v rp => ?_⟩
        have R2 := R.post p1
        cases d with
        | int n =>
          cases rp
          simp only at g4
          split at g4
          · rename_i hn
            obtain ⟨n0, n1, n2, nij⟩ := hn
            have k1 := p1.1.own p _ e2 (R.psne e3) a
            have k2 := p1.1.own p' _ f2 (R.psne f3) a2
            have b' := b.mono p1.1.le
            have b2' := b2.mono p1.1.le
            cases hx : m[n.toNat]? with
            | none => rw [hx] at g4; cases g4
            | some x =>
              rw [hx] at g4
              obtain ⟨rfl, rfl⟩ := pure_inv g4
              obtain ⟨y, hy, ry⟩ := b2'.get' hx
              have hlt : n.toNat < m.length := (List.getElem?_eq_some_iff.mp hx).1
              have R3 := R2.writeOwn (o := .lst _) hm f1 fun le => .lst upd_same ((b2'.eraseIdx n.toNat).mono le)
              have pne : p ≠ p' := fun z => nij (R.inj i j p _ _ hl hm e1 (by rw [f1, z]))
              have le1 := le_write (H := H1) (O := O) (p := p') (o := .lst (zs.eraseIdx n.toNat)) f2
              refine ⟨p', zs, n, n.toNat, y, rfl, rfl, k2, by omega, by omega, ?_, hy, p, ws, y, rfl, rfl, ?_, ?_, ?_⟩
              · unfold seqIndex?
                simp only
                rw [if_neg (by omega : ¬ n < 0), b2.length]
                rw [if_pos (by simp; omega)]
              · rw [upd_ne pne]; exact k1
              · rw [b.length]; exact n2
              · exact o _ _ _ (R3.writeOwn (i := i) (d := .list l) (by rw [List.getElem?_set_ne (Ne.symm nij)]; exact hl) e1 fun le => .lst upd_same (((b'.mono le1).append (.cons (ry.mono le1) .nil)).mono le))
          · cases g4
        | _ => cases g4
theorem s_ix {a b : Expr} {A B : TK.E} {k : Nat} (hr : Room k X.A) (ha : PE X a (rdB X.K X.mg E Γ A)) (hb : PE X b (rdB X.K X.mg E Γ B)) (hp : PlainIx b) : PE X (.Subscript a b pos) (rd X.K X.mg E Γ (.op2 .ix A B)) := by
  obtain ⟨r, h1, h2⟩ := ok_ix hr
  exact (pe_ix h1 ha hb hp).weak (OpOk.tOp (f := binaryOp .Add) h2)
end
end TK

/-! the reflected layer, 14: more operators; t[::-1]; defs -/
namespace TK
open PySem PySem.Spec PyProof.Rows L2
section
variable {prog : Program} {w : World} {A : Around} {E : Value → Shared → Prop} {s : Shared}
theorem adjust_rev (n : Nat) : Builtin.Slice.sliceAdjust none none (-1) (n : Int) = ((n : Int) - 1, -1) := by
  unfold Builtin.Slice.sliceAdjust
  simp
theorem places_rev (n : Nat) : Builtin.Slice.slicePlaces ((n : Int) - 1) (-1) (-1) = n := by
  unfold Builtin.Slice.slicePlaces
  have h1 : ¬ ((-1 : Int) > 0) := by omega
  simp only [h1, if_false]
  have h2 : -(-1 : Int) = 1 := rfl
  rw [h2, Int.ediv_one]
  split <;> omega
theorem sliceApplied_rev {sl : Addr} {n : Nat} {t : Tok} {Q : Int × Int × Nat → Shared → Prop} (hs : s.heap.IsSliceOf sl .none .none (.int (-1) t))
    (h : Q ((n : Int) - 1, -1, n) s) : wpAny (model prog w) A (Builtin.Slice.sliceApplied (.ref sl) (pure (n : Int))) Q E s := by
  obtain ⟨os, hos, hcs, hds⟩ := id hs
  unfold Builtin.Slice.sliceApplied Builtin.Slice.sliceFields
  refine wpAny_bind (wpAny_bind (wpAny_field hos hds (x := .none) rfl (wpAny_bind (wpAny_field hos hds (x := .none) rfl (wpAny_bind (wpAny_field hos hds (x := .int (-1) t) rfl (wpAny_pure ?_)))))))
  refine wpAny_bind (HT.slicePart_ (.int (-1) t) ?_)
  show wpAny _ _ (if ((-1 : Int) == 0) = true then _ else _) _ _ s
  rw [if_neg (by decide)]
  refine wpAny_bind (HT.slicePart_ .none (wpAny_bind (HT.slicePart_ .none (wpAny_bind (wpAny_pure ?_)))))
  show wpAny _ _ (match Builtin.Slice.sliceAdjust none none (-1) (n : Int) with | (lo, hi) => pure (lo, (-1 : Int), Builtin.Slice.slicePlaces lo hi (-1))) _ _ s
  rw [adjust_rev n]
  show wpAny _ _ (pure ((n : Int) - 1, (-1 : Int), Builtin.Slice.slicePlaces ((n : Int) - 1) (-1) (-1))) _ _ s
  rw [places_rev]
  exact wpAny_pure h
theorem pick_rev (xs : Array Value) : ((List.range xs.size).filterMap fun (m : Nat) => xs[(((xs.size : Int) - 1) + (m : Int) * (-1)).toNat]?).toArray = xs.toList.reverse.toArray := by
  congr 1
  apply List.ext_getElem?
  intro i
  have e : (List.range xs.size).filterMap (fun (m : Nat) => xs[(((xs.size : Int) - 1) + (m : Int) * (-1)).toNat]?) = (List.range xs.size).map (fun (m : Nat) => xs.toList.getD (xs.size - 1 - m) .none) := by
    have key : ∀ l : List Nat, (∀ m ∈ l, m < xs.size) → l.filterMap (fun (m : Nat) => xs[(((xs.size : Int) - 1) + (m : Int) * (-1)).toNat]?) = l.map (fun (m : Nat) => xs.toList.getD (xs.size - 1 - m) .none) := by
      intro l
      induction l with
      | nil => intro _; rfl
      | cons m l ih =>
        intro h
        have hm := h m List.mem_cons_self
        have e1 : (((xs.size : Int) - 1) + (m : Int) * (-1)).toNat = xs.size - 1 - m := by omega
        have hlt : xs.size - 1 - m < xs.size := by omega
        have e2 : xs[(((xs.size : Int) - 1) + (m : Int) * (-1)).toNat]? = some (xs.toList.getD (xs.size - 1 - m) .none) := by
          rw [e1, List.getD_eq_getElem?_getD, Array.getElem?_toList]
          simp [hlt]
        rw [List.filterMap_cons_some (f := fun (m : Nat) => xs[(((xs.size : Int) - 1) + (m : Int) * (-1)).toNat]?) e2, List.map_cons, ih fun k hk => h k (List.mem_cons_of_mem _ hk)]
    exact key _ fun m hm => List.mem_range.mp hm
  rw [e]
  by_cases hi : i < xs.size
  · rw [List.getElem?_map, List.getElem?_range hi, List.getElem?_reverse (by rw [Array.length_toList]; exact hi), Array.length_toList]
    simp only [Option.map_some, List.getD_eq_getElem?_getD]
    have hlt : xs.size - 1 - i < xs.toList.length := by rw [Array.length_toList]; omega
    rw [List.getElem?_eq_getElem hlt]
    rfl
  · rw [List.getElem?_eq_none (by rw [List.length_map, List.length_range]; omega), List.getElem?_eq_none (by rw [List.length_reverse, Array.length_toList]; omega)]
theorem getItem_tuple_rev {t sl : Addr} {items : Array Value} {tk : Tok} {Q : Value → Shared → Prop} (ht : IsTup s.heap t items) (hs : s.heap.IsSliceOf sl .none .none (.int (-1) tk))
    (h : Q (.ref s.heap.objs.size) { s with heap := s.heap.push { cls := .type "tuple", data := .seq items.toList.reverse.toArray } })
    (hsz : items.size ≤ sizeLine) : wpAny (model prog w) A (getItem (.ref t) (.ref sl)) Q E s := by
  have htake : sizeOk (.seq items.toList.reverse.toArray) := by
    show items.toList.reverse.toArray.size ≤ sizeLine
    rw [List.size_toArray, List.length_reverse, Array.length_toList]
    omega
  obtain ⟨os, hos, hcs, hds⟩ := id hs
  have hTs : s.TypeIs (.ref sl) "slice" := ⟨os, hos, hcs⟩
  unfold getItem
  try with_reducible refine wpAny_holding ?_
  first | refine wpAny_bind (wpAny_pure ?_) | skip
  refine wpAny_bind (wpAny_sequenceKey ht.typeIs (by decide) ?_)
  refine wpAny_bind (wpAny_callSpecial?_slot (name := Str.ofString "__getitem__") ht.typeIs PyProof.Rows.slot_tuple_getitem
    (wpAny_call_entry PyProof.Rows.slot_tuple_getitem ht.typeIs entry_tuple_getitem ?_ (args_tuple_getitem _ _)))
  show wpAny _ _ (Builtin.Tuple.tupleItemsOf (.ref t) >>= _) _ _ s
  refine wpAny_bind (tupleItemsOf_ ht ?_)
  refine wpAny_bind (wpAny_typeOf hTs ?_)
  rw [if_pos (by decide)]
  refine wpAny_bind (sliceApplied_rev hs ?_)
  have hno : ¬ ((((items.size : Int) - 1) == 0 && (-1 : Int) == 1 && items.size == items.size) = true) := by
    intro q
    rw [Bool.and_eq_true, Bool.and_eq_true] at q
    exact absurd q.1.2 (by decide)
  show wpAny _ _ (if (((items.size : Int) - 1) == 0 && (-1 : Int) == 1 && items.size == items.size) = true then _ else _) _ _ s
  rw [if_neg hno, pick_rev]
  first
    | exact wpAny_bind (m := Builtin.Tuple.tupleExact _) (wpAny_newObj_type (wpAny_pure ⟨_, rfl, wpAny_pure h⟩) htake)
    | exact wpAny_bind (m := Builtin.Tuple.tupleExact _) (wpAny_newObj_type (wpAny_bind (wpAny_pure (wpAny_pure ⟨_, rfl, wpAny_pure h⟩))) htake)
    | exact wpAny_bind (wpAny_bind (m := Builtin.Tuple.tupleExact _) (wpAny_newObj_type (wpAny_pure (wpAny_pure ⟨_, rfl, wpAny_pure h⟩)) htake))
    | exact wpAny_bind (wpAny_bind (m := Builtin.Tuple.tupleExact _) (wpAny_newObj_type (wpAny_pure ⟨_, rfl, wpAny_pure h⟩) htake))
end
section
variable {X : Cx}
def tRevT (K : PySem.W.Frag) (te : TE) : TE := fun σ H Q => te σ H fun x H1 => ∃ a xs, x = .ref a ∧ SqT K H1 a xs ∧ ∀ p, H1 p = none → Q (.ref p) (upd H1 p (.tup xs.reverse))
theorem pe_revT {e : Expr} {te : TE} {k : Nat} {p1 p2 p3 pos : Pos} (he : PE X e te) : PE X (.Subscript e (.Slice none none (some (.UnaryOp .USub (.Constant (.int 1) k p1) p2)) p3) pos) (tRevT X.K te) := by
  refine ⟨fun pins s σ H Q I h => ?_⟩
  refine Subscript_ (thn (he.run pins s σ H _ I h) fun v s1 ⟨x, H1, I1, r1, q1⟩ => ?_)
  obtain ⟨a, xs, ex, hx, q⟩ := q1
  subst ex
  cases r1
  have hst : PO X (some (.UnaryOp .USub (.Constant (.int 1) k p1) p2)) (tPart (tUn (rU fun i => .int (-i)) (tC (.int 1)))) := po_some (pe_un un_neg pe_int)
  refine wpAny_Slice (thn (po_none.run pins s1 σ H1 (fun o H2 => o = none ∧ H2 = H1) I1 ⟨rfl, rfl⟩) fun vl s2 ⟨l, H2, I2, pl, el, e2⟩ => ?_)
  subst el e2
  refine thn (po_none.run pins s2 σ H2 (fun o H3 => o = none ∧ H3 = H2) I2 ⟨rfl, rfl⟩) fun vu s3 ⟨u, H3, I3, pu, eu, e3⟩ => ?_
  subst eu e3
  refine thn (hst.run pins s3 σ H3 (fun o H4 => o = some (-1) ∧ H4 = H3) I3 ⟨1, rfl, -1, rfl, rfl, rfl⟩) fun vs s4 ⟨o, H4, I4, ps, eo, e4⟩ => ?_
  subst eo e4
  cases pl
  cases pu
  obtain ⟨tk, rfl⟩ : ∃ tk, vs = .int (-1) tk := by cases ps; exact ⟨_, rfl⟩
  have I5 : L2.Inv X pins σ H4 { s4 with heap := s4.heap.push { cls := .type "slice", data := .fields #[.none, .none, .int (-1) tk] } } := I4.kept (t' := s4.toks) fun b ob q => Heap.get?_push_of_some _ q
  obtain ⟨its, r, ht, hz⟩ := I5.tuple hx
  have hlen := r.length
  show wpAny (model X.prog X.w) X.A (subscriptTail e (.Slice none none (some (.UnaryOp .USub (.Constant (.int 1) k p1) p2)) p3) (.ref a) (.ref s4.heap.objs.size)) (EP X pins σ Q) X.xe { s4 with heap := s4.heap.push { cls := .type "slice", data := .fields #[.none, .none, .int (-1) tk] } }
  refine tail_any (ops := [.ref a, .ref s4.heap.objs.size]) ht.typeIs (PyProof.Rows.slot_tuple_getitem.lookup) ?_ (by with_unfolding_all rfl)
  refine getItem_tuple_rev ht (Heap.IsSliceOf.new _ .none .none (.int (-1) tk)) ?_ (by rw [List.size_toArray]; omega)
  refine ⟨.ref _, _, I5.laid (t' := s4.toks) (o := .tup xs.reverse) (fun b ob q => Heap.get?_push_of_some _ q) (Nat.le_refl _) ?_, rfl, q _ (I5.hok.fresh (Nat.le_refl _))⟩
  exact ⟨by rw [List.length_reverse]; exact hz, _, r.reverse, IsTup.new _ _⟩
end
section
variable {X : Cx} {E : XK} {Γ : List FnSem} {pos : Pos} {k : Nat}
theorem s_rev {e : Expr} {A : TK.E} {k : Nat} {p1 p2 p3 pos : Pos} (he : PE X e (rdB X.K X.mg E Γ A)) : PE X (.Subscript e (.Slice none none (some (.UnaryOp .USub (.Constant (.int 1) k p1) p2)) p3) pos) (rd X.K X.mg E Γ (.op1 .rev A)) := by
  refine ((pe_revL he).or (pe_revT he)).weak fun σ H Q q => ?_
  obtain ⟨w, O0, H0, O, env, st, rr, st', R, q, oo⟩ := q
  have q : (orB env A (ev Γ env A) >>= fun x => liftO (app1 .rev x)) st = some (rr, st') := q
  rcases bind_inv q with ⟨c, h1, rfl⟩ | ⟨d, st1, h1, h2⟩
  · exact .inl ⟨w, O0, H0, O, env, st, _, _, R, h1, oo⟩
  · obtain ⟨x, h3, rfl, rfl⟩ := liftO_inv h2
    cases d with
    | list l =>
      cases h3
      refine .inl ⟨w, O0, H0, O, env, st, .ok _, _, R, h1, fun H1 p1 v b1 => ?_⟩
      obtain ⟨a, xs, rfl, g1, r1⟩ := b1.list
      have R1 := R.post p1
      exact ⟨a, xs, rfl, SqL.of g1, fun p hp => oo.later p1 _ (R1.post_new hp) _ (rp_newL R1 hp r1.reverse)⟩
    | tuple l =>
      cases h3
      refine .inr ⟨w, O0, H0, O, env, st, .ok _, _, R, h1, fun H1 p1 v b1 => ?_⟩
      obtain ⟨a, xs, rfl, g1, r1⟩ := b1.tuple
      have R1 := R.post p1
      exact ⟨a, xs, rfl, SqT.of g1, fun p hp => oo.later p1 _ (R1.post_new hp) _ (rp_newT R1 hp r1.reverse)⟩
    | _ => cases h3
theorem s_neg {e : Expr} {A : TK.E} (he : PE X e (rdB X.K X.mg E Γ A)) : PE X (.UnaryOp .USub e pos) (rd X.K X.mg E Γ (.op1 .neg A)) := by
  refine (pe_un un_neg he).weak fun σ H Q q => ?_
  obtain ⟨w, O0, H0, O, env, st, rr, st', R, q, oo⟩ := q
  refine rdB_bind R (f := fun x => liftO (app1 .neg x)) q oo fun d st1 v H1 R1 p1 q1 h1 o1 => ?_
  obtain ⟨x, h3, rfl, rfl⟩ := liftO_inv h1
  cases d with
  | int i =>
    cases h3
    obtain rfl := q1.int
    exact ⟨i, rfl, o1 H1 R1.here _ (.int _)⟩
  | _ => cases h3
theorem ok_gt : OpOk X (compareOp .Gt) .gt := by
  refine ⟨_, op_gt.or op_gt_str, fun w O0 H0 O σ H env st v u d e x Q R bv bu ha q => ?_⟩
  cases d with
  | int i =>
    cases e with
    | int j =>
      cases ha
      obtain rfl := bv.int
      obtain rfl := bu.int
      exact .inl ⟨i, j, rfl, rfl, q _ H R.here (.bl _)⟩
    | _ => cases ha
  | str i =>
    cases e with
    | str j =>
      cases ha
      obtain ⟨rfl, _⟩ := bv.str
      obtain ⟨rfl, _⟩ := bu.str
      exact .inr ⟨i, j, rfl, rfl, q _ H R.here (.bl _)⟩
    | _ => cases ha
  | _ => cases e <;> cases ha
theorem ok_ge : OpOk X (compareOp .GtE) .ge := by
  refine ⟨_, op_ge.or op_ge_str, fun w O0 H0 O σ H env st v u d e x Q R bv bu ha q => ?_⟩
  cases d with
  | int i =>
    cases e with
    | int j =>
      cases ha
      obtain rfl := bv.int
      obtain rfl := bu.int
      exact .inl ⟨i, j, rfl, rfl, q _ H R.here (.bl _)⟩
    | _ => cases ha
  | str i =>
    cases e with
    | str j =>
      cases ha
      obtain ⟨rfl, _⟩ := bv.str
      obtain ⟨rfl, _⟩ := bu.str
      exact .inr ⟨i, j, rfl, rfl, q _ H R.here (.bl _)⟩
    | _ => cases ha
  | _ => cases e <;> cases ha
end
section
variable {P : Program} {w : World} {K : PySem.W.Frag} {mg : Str → Option Value} {base : Heap}
/-- a def whose body is read does what its reading tells -/
theorem good_of {x : Str} {params : Arguments} {body : List Stmt} {scope : Scope} {f : Addr} {fd : FuncData} {N ps : List Str} {k : Nat} {Γ : List FnSem} {fn : Fn} (F : FunD K x x params body scope [] [] f fd) (S : FnScope N ps scope) (gm : mg x = some (.ref f)) (hB : Binds K fd ps [])
    (hnp : fn.np = ps.length) (hnl : fn.nl = N.length) (hle : ps.length ≤ N.length)
    (hbody : ∀ (cdv : Value) (A : Around) (outer : List PySem.Env) (s : Shared) (H : Hp) (E : XK), Room k (A.deeper (envOfC x scope s.heap.objs.size f cdv)) →
      PSs (cxOf (L2.CX P w) P w K mg base N x scope f cdv A outer s H E) body (rdSs K mg E Γ fn.body)) : FnGood P w K mg base (k + 1) x (run Γ fn) := by
  refine ⟨f, fd, ps, F.ok S (fun vs H Q E q => ?_) (fun cdv A outer s H vs Q E hr q => ⟨_, hbody cdv A outer s H E hr, ?_⟩), gm, F.kp, hB⟩
  · obtain ⟨w, O, st, ds, r, st', q1, q2, q3, q4, q5, q6, q7⟩ := q
    unfold run at q6
    split at q6
    · rename_i e
      rw [q5.length, e, hnp]
    · cases q6
  · obtain ⟨w, O, st, ds, r, st', q1, q2, q3, q4, q5, q6, q7⟩ := q
    unfold run at q6
    split at q6
    · rename_i e
      have hv : vs.length = ds.length := q5.length
      have R : Rel K w O H O (L2.start N vs) H (ds.map .val ++ List.replicate (fn.nl - fn.np) .no) st := by
        have lo : ∀ {i : Nat} {s : Slot}, (ds.map Slot.val ++ List.replicate (fn.nl - fn.np) .no)[i]? = some s → s = .no ∨ ∃ d, s = .val d ∧ ds[i]? = some d := fun {i s} h => by
          by_cases hi : i < ds.length
          · rw [List.getElem?_append_left (by rw [List.length_map]; exact hi), List.getElem?_map] at h
            cases z : ds[i]? with
            | none => rw [z] at h; cases h
            | some d => rw [z] at h; cases h; exact .inr ⟨d, rfl, rfl⟩
          · rw [List.getElem?_append_right (by rw [List.length_map]; omega)] at h
            have := List.mem_of_getElem? h
            exact .inl (List.eq_of_mem_replicate this)
        refine ⟨Ext.refl, fun _ h => h, q1, q1, (fun a h h' => by rw [h] at h'; cases h'), q2, q3, q4, ?_, fun i d h => ?_, fun i d h => ?_, fun i j p di dj h => ?_⟩
        · unfold L2.start
          rw [List.length_append, List.length_append, List.length_map, List.length_map, List.length_replicate, List.length_replicate, hv]
          omega
        · rcases lo h with z | ⟨d', z, h'⟩
          · cases z
          · cases z
            obtain ⟨v, h1, h2⟩ := q5.get' h'
            have hi : i < vs.length := (List.getElem?_eq_some_iff.mp h1).1
            refine ⟨v, ?_, h2⟩
            unfold L2.start
            rw [List.getElem?_append_left (by rw [List.length_map]; exact hi), List.getElem?_map, h1]
            rfl
        · rcases lo h with z | ⟨d', z, h'⟩ <;> cases z
        · rcases lo h with z | ⟨d', z, h'⟩ <;> cases z
      have q6 : (exs Γ fn.body (ds.map .val ++ List.replicate (fn.nl - fn.np) .no) >>= fun p => (match p.1 with | .rt d => pure d | .nx => pure .none : M D)) st = some (r, st') := q6
      rcases bind_inv q6 with ⟨c, g1, rfl⟩ | ⟨⟨fl, env'⟩, st1, g1, g2⟩
      · exact ⟨w, O, H, O, _, st, .error c, _, R, g1, fun A H' m p => q7 A H' m p⟩
      · refine ⟨w, O, H, O, _, st, .ok (fl, env'), st1, R, g1, ?_⟩
        cases fl with
        | nx =>
          obtain ⟨rfl, rfl⟩ := pure_inv (a := (.none : TK.D)) g2
          exact fun O' σ' H' R' => q7 H' R'.post0 _ .non
        | rt d =>
          obtain ⟨rfl, rfl⟩ := pure_inv (a := d) g2
          exact fun v H' p rp => q7 H' p v rp
    · cases q6
/-- what is never told is kept -/
theorem good_fail {x : Str} {params : Arguments} {body : List Stmt} {scope : Scope} {f : Addr} {fd : FuncData} {N ps : List Str} {k : Nat} (F : FunD K x x params body scope [] [] f fd) (S : FnScope N ps scope) (gm : mg x = some (.ref f)) (hB : Binds K fd ps []) : FnGood P w K mg base (k + 1) x (fun _ => fail) := by
  refine ⟨f, fd, ps, F.ok S (fun vs H Q E q => ?_) (fun cdv A outer s H vs Q E hr q => ?_), gm, F.kp, hB⟩
  · obtain ⟨w, O, st, ds, r, st', q1, q2, q3, q4, q5, q6, q7⟩ := q
    cases q6
  · obtain ⟨w, O, st, ds, r, st', q1, q2, q3, q4, q5, q6, q7⟩ := q
    cases q6
end
end TK

/-! the reflected layer, 15: the rules as they are printed -/
namespace TK
open PySem PySem.Spec PyProof.Rows L2
def bltNames : List Str := ["len", "range", "zip", "enumerate", "all", "any", "abs", "tuple", "list", "str", "int", "sorted", "set", "min", "max", "sum", "isinstance", "bool", "dict"]
/-- no built-in is bound anew -/
def Blt (mg : Str → Option Value) : Prop := ∀ x ∈ bltNames, mg x = none
structure Cxt (X : Cx) (k : Nat) (E : XK) : Prop where
  calm : X.calm = true
  room : Room k X.A
  nd : X.N.Nodup
  blt : Blt X.mg
  pass : Passes (L2.CX X.prog X.w) X E
theorem Cxt.blk {X : Cx} {k : Nat} {E : XK} (c : Cxt X k E) {s : Shared} {H : Hp} {scope : Scope} {env : PySem.Env} {fp : List Addr} : Cxt (X.blk s H scope env fp) k E0 := ⟨c.calm, c.room, c.nd, c.blt, passL⟩
def visB (sc : Scope) (x : Str) : Bool := match sc.names.lookup x with | some .local => true | some .cell => true | some .free => true | _ => false
theorem vis_of {sc : Scope} {x : Str} (h : visB sc x = true) : Vis sc x := by
  unfold visB at h
  split at h
  · exact .inl (by assumption)
  · exact .inr (.inl (by assumption))
  · exact .inr (.inr (by assumption))
  · cases h
def locB (sc : Scope) (x : Str) : Bool := match sc.names.lookup x with | some .local => true | some .cell => true | _ => false
theorem loc_of {sc : Scope} {x : Str} (h : locB sc x = true) : Loc sc x := by
  unfold locB at h
  split at h
  · exact .inl (by assumption)
  · exact .inr (by assumption)
  · cases h
def tgB (X : Cx) (x : Str) : Bool := X.fn x || (match X.env.scope.names.lookup x with | some .local => true | _ => false)
theorem tg_of {X : Cx} {x : Str} (h : tgB X x = true) : X.fn x = true ∨ X.env.scope.names.lookup x = some .local := by
  unfold tgB at h
  rw [Bool.or_eq_true] at h
  rcases h with h | h
  · exact .inl h
  · split at h
    · exact .inr (by assumption)
    · cases h
def okN (x : Str) : Bool := !(x == ("__debug__" : Str)) && !(x == ("__classdict__" : Str)) && !(x == ("__name__" : Str))
theorem okN1 {x : Str} (h : okN x = true) : (x == ("__debug__" : Str)) = false := by
  unfold okN at h
  simp only [Bool.and_eq_true, Bool.not_eq_true'] at h
  exact h.1.1
theorem okN2 {x : Str} (h : okN x = true) : (x == ("__classdict__" : Str)) = false := by
  unfold okN at h
  simp only [Bool.and_eq_true, Bool.not_eq_true'] at h
  exact h.1.2
theorem okN3 {x : Str} (h : okN x = true) : x ≠ "__name__" := by
  unfold okN at h
  simp only [Bool.and_eq_true, Bool.not_eq_true'] at h
  exact fun e => by rw [e] at h; exact absurd h.2 (by decide)
def isVar : TK.E → Bool
  | .var _ => true
  | _ => false
theorem notVar {T : TK.E} (h : isVar T = false) : ∀ i, T ≠ .var i := fun i e => by rw [e] at h; cases h
def isCmp : O2 → Bool
  | .eq => true | .ne => true | .lt => true | .le => true | .gt => true | .ge => true | .isin => true | .notin => true | _ => false
theorem cmp_bool {o : O2} (h : isCmp o = true) : ∀ d e x, app2 o d e = some x → ∃ b, x = .bool b := by
  intro d e x hx
  cases o <;> first | cases h | skip
  case isin =>
    cases e with
    | list l =>
      simp only [app2] at hx
      split at hx
      · cases hx; exact ⟨_, rfl⟩
      · cases hx
    | tuple l =>
      simp only [app2] at hx
      split at hx
      · cases hx; exact ⟨_, rfl⟩
      · cases hx
    | dict l =>
      simp only [app2, Option.map_eq_some_iff] at hx
      obtain ⟨b, _, rfl⟩ := hx
      exact ⟨_, rfl⟩
    | _ => cases hx
  case notin =>
    cases e with
    | list l =>
      simp only [app2] at hx
      split at hx
      · cases hx; exact ⟨_, rfl⟩
      · cases hx
    | tuple l =>
      simp only [app2] at hx
      split at hx
      · cases hx; exact ⟨_, rfl⟩
      · cases hx
    | dict l =>
      simp only [app2, Option.map_eq_some_iff] at hx
      obtain ⟨b, _, rfl⟩ := hx
      exact ⟨_, rfl⟩
    | _ => cases hx
  all_goals
    simp only [app2, Option.map_eq_some_iff] at hx
    obtain ⟨b, _, rfl⟩ := hx
    exact ⟨_, rfl⟩
section
variable {X : Cx} {E : XK} {Γ : List FnSem} {k : Nat} {pos : Pos}
theorem e_var {i : Nat} {x : Str} (hN : X.N[i]? = some x) (hv : visB X.env.scope x = true) (ho : okN x = true) : PE X (.Name x pos) (rd X.K X.mg E Γ (.var i)) := s_var hN (vis_of hv) (okN1 ho) (okN2 ho)
theorem e_varB {i : Nat} {x : Str} (hN : X.N[i]? = some x) (hv : visB X.env.scope x = true) (ho : okN x = true) : PE X (.Name x pos) (rdB X.K X.mg E Γ (.var i)) := s_varB hN (vis_of hv) (okN1 ho) (okN2 ho)
theorem e_B {e : Expr} {T : TK.E} (hT : isVar T = false) (h : PE X e (rd X.K X.mg E Γ T)) : PE X e (rdB X.K X.mg E Γ T) := s_B (notVar hT) h
theorem e_cons {e : Expr} {es : List Expr} {T : TK.E} {Ts : List TK.E} (hs : notStar e = true) (h : PE X e (rd X.K X.mg E Γ T)) (hr : PA X es (rdA X.K X.mg E Γ Ts)) : PA X (e :: es) (rdA X.K X.mg E Γ (T :: Ts)) := s_cons h hr (star_ok hs)
theorem e_call {nm : Str} {j : Nat} {F : FnSem} {e : Expr} {es : List Expr} {As : List TK.E} {p : Pos} (c : Cxt X k E) (G : FnGood X.prog X.w X.K X.mg X.base k nm F) (hj : Γ[j]? = some F) (hg : Gl X nm) (ho : okN nm = true) (hs : (e :: es).all notStar = true) (ha : PA X (e :: es) (rdA X.K X.mg E Γ As)) :
    PE X (.Call (.Name nm p) (e :: es) [] pos) (rd X.K X.mg E Γ (.call j As)) := by
  rw [List.all_cons, Bool.and_eq_true] at hs
  exact s_call G hj c.room c.pass hg ha hs.1 hs.2 (okN1 ho)
theorem e_call0 {nm : Str} {j : Nat} {F : FnSem} {p : Pos} (c : Cxt X k E) (G : FnGood X.prog X.w X.K X.mg X.base k nm F) (hj : Γ[j]? = some F) (hg : Gl X nm) (ho : okN nm = true) : PE X (.Call (.Name nm p) [] [] pos) (rd X.K X.mg E Γ (.call j [])) :=
  s_call0 G hj c.room c.pass hg (okN1 ho)
theorem mem_blt {x : Str} (h : bltNames.contains x = true) : x ∈ bltNames := List.contains_iff_mem.mp h
section
variable {e : Expr} {A : TK.E} {p : Pos}
theorem e_len (c : Cxt X k E) (hg : Gl X "len") (hs : notStar e = true) (h : PE X e (rdB X.K X.mg E Γ A)) : PE X (.Call (.Name "len" p) [e] [] pos) (rd X.K X.mg E Γ (.op1 .len A)) := s_callB c_len hg (c.blt _ (mem_blt (by decide +kernel))) (by decide +kernel) h hs (by decide +kernel) (by decide +kernel)
theorem e_all (c : Cxt X k E) (hg : Gl X "all") (hs : notStar e = true) (h : PE X e (rdB X.K X.mg E Γ A)) : PE X (.Call (.Name "all" p) [e] [] pos) (rd X.K X.mg E Γ (.op1 .all A)) := s_callB (c_all c.calm) hg (c.blt _ (mem_blt (by decide +kernel))) (by decide +kernel) h hs (by decide +kernel) (by decide +kernel)
theorem e_any (c : Cxt X k E) (hg : Gl X "any") (hs : notStar e = true) (h : PE X e (rdB X.K X.mg E Γ A)) : PE X (.Call (.Name "any" p) [e] [] pos) (rd X.K X.mg E Γ (.op1 .any A)) := s_callB (c_any c.calm) hg (c.blt _ (mem_blt (by decide +kernel))) (by decide +kernel) h hs (by decide +kernel) (by decide +kernel)
theorem e_abs (c : Cxt X k E) (hg : Gl X "abs") (hs : notStar e = true) (h : PE X e (rdB X.K X.mg E Γ A)) : PE X (.Call (.Name "abs" p) [e] [] pos) (rd X.K X.mg E Γ (.op1 .abs A)) := s_callB c_abs hg (c.blt _ (mem_blt (by decide +kernel))) (by decide +kernel) h hs (by decide +kernel) (by decide +kernel)
theorem e_sorted (c : Cxt X k E) (hg : Gl X "sorted") (hs : notStar e = true) (h : PE X e (rdB X.K X.mg E Γ A)) : PE X (.Call (.Name "sorted" p) [e] [] pos) (rd X.K X.mg E Γ (.op1 .sorted A)) := s_callB (c_sorted c.room) hg (c.blt _ (mem_blt (by decide +kernel))) (by decide +kernel) h hs (by decide +kernel) (by decide +kernel)
theorem e_min (c : Cxt X k E) (hg : Gl X "min") (hs : notStar e = true) (h : PE X e (rdB X.K X.mg E Γ A)) : PE X (.Call (.Name "min" p) [e] [] pos) (rd X.K X.mg E Γ (.op1 .min A)) := s_callB (c_min c.calm c.room) hg (c.blt _ (mem_blt (by decide +kernel))) (by decide +kernel) h hs (by decide +kernel) (by decide +kernel)
theorem e_max (c : Cxt X k E) (hg : Gl X "max") (hs : notStar e = true) (h : PE X e (rdB X.K X.mg E Γ A)) : PE X (.Call (.Name "max" p) [e] [] pos) (rd X.K X.mg E Γ (.op1 .max A)) := s_callB (c_max c.calm c.room) hg (c.blt _ (mem_blt (by decide +kernel))) (by decide +kernel) h hs (by decide +kernel) (by decide +kernel)
theorem e_sum (c : Cxt X k E) (hg : Gl X "sum") (hs : notStar e = true) (h : PE X e (rdB X.K X.mg E Γ A)) : PE X (.Call (.Name "sum" p) [e] [] pos) (rd X.K X.mg E Γ (.op1 .sum A)) := s_callB (c_sum c.calm) hg (c.blt _ (mem_blt (by decide +kernel))) (by decide +kernel) h hs (by decide +kernel) (by decide +kernel)
theorem e_tuple (c : Cxt X k E) (hg : Gl X "tuple") (hs : notStar e = true) (h : PE X e (rdB X.K X.mg E Γ A)) : PE X (.Call (.Name "tuple" p) [e] [] pos) (rd X.K X.mg E Γ (.op1 .tupleOf A)) := s_callT (c_tuple c.calm) hg (c.blt _ (mem_blt (by decide +kernel))) (by decide +kernel) h hs (by decide +kernel) (by decide +kernel)
theorem e_list (c : Cxt X k E) (hg : Gl X "list") (hs : notStar e = true) (h : PE X e (rdB X.K X.mg E Γ A)) : PE X (.Call (.Name "list" p) [e] [] pos) (rd X.K X.mg E Γ (.op1 .listOf A)) := s_callT c_list hg (c.blt _ (mem_blt (by decide +kernel))) (by decide +kernel) h hs (by decide +kernel) (by decide +kernel)
theorem e_str (c : Cxt X k E) (hg : Gl X "str") (hs : notStar e = true) (h : PE X e (rdB X.K X.mg E Γ A)) : PE X (.Call (.Name "str" p) [e] [] pos) (rd X.K X.mg E Γ (.op1 .str A)) := s_callT c_str hg (c.blt _ (mem_blt (by decide +kernel))) (by decide +kernel) h hs (by decide +kernel) (by decide +kernel)
theorem e_int (c : Cxt X k E) (hg : Gl X "int") (hs : notStar e = true) (h : PE X e (rdB X.K X.mg E Γ A)) : PE X (.Call (.Name "int" p) [e] [] pos) (rd X.K X.mg E Γ (.op1 .int A)) := s_callT c_int hg (c.blt _ (mem_blt (by decide +kernel))) (by decide +kernel) h hs (by decide +kernel) (by decide +kernel)
theorem e_setLen {p2 p3 p4 : Pos} (c : Cxt X k E) (hg : Gl X "len") (hg2 : Gl X "set") (hs : notStar e = true) (h : PE X e (rdB X.K X.mg E Γ A)) : PE X (.Call (.Name "len" p) [.Call (.Name "set" p2) [e] [] p3] [] p4) (rd X.K X.mg E Γ (.op1 .setLen A)) := s_setLen c.calm hg (c.blt _ (mem_blt (by decide +kernel))) hg2 (c.blt _ (mem_blt (by decide +kernel))) h hs
theorem e_setSorted {p2 p3 p4 : Pos} (c : Cxt X k E) (hg : Gl X "sorted") (hg2 : Gl X "set") (hs : notStar e = true) (h : PE X e (rdB X.K X.mg E Γ A)) : PE X (.Call (.Name "sorted" p) [.Call (.Name "set" p2) [e] [] p3] [] p4) (rd X.K X.mg E Γ (.op1 .setSorted A)) := s_setSorted c.calm c.room hg (c.blt _ (mem_blt (by decide +kernel))) hg2 (c.blt _ (mem_blt (by decide +kernel))) h hs
end
theorem e_isi {e : Expr} {A : TK.E} {t : Ty} {x : Str} {p p2 : Pos} (c : Cxt X k E) (hg : Gl X "isinstance") (hg2 : Gl X x) (hx : (bltNames.contains x && okN x) = true) (hv : bootBuiltins x = some (.type (tyN t))) (hs : notStar e = true) (ha : PE X e (rdB X.K X.mg E Γ A)) :
    PE X (.Call (.Name "isinstance" p) [e, .Name x p2] [] pos) (rd X.K X.mg E Γ (.op1 (.isi t) A)) := by
  rw [Bool.and_eq_true] at hx
  exact s_isi hg (c.blt _ (mem_blt (by decide +kernel))) hg2 (c.blt _ (mem_blt hx.1)) hv (okN3 hx.2) (okN1 hx.2) ha hs
theorem e_cmp {op : CmpOp} {o : O2} {a b : Expr} {A B : TK.E} (h : OpOk X (compareOp op) o) (hm : behindInMarks op b = false) (ha : PE X a (rdB X.K X.mg E Γ A)) (hb : PE X b (rdB X.K X.mg E Γ B)) : PE X (.Compare a [op] [b] pos) (rd X.K X.mg E Γ (.op2 o A B)) := s_cmp h ha hb hm
theorem p_cmp {op : CmpOp} {o : O2} {a b : Expr} {A B : TK.E} (h : OpOk X (compareOp op) o) (hm : behindInMarks op b = false) (ho : isCmp o = true) (ha : PE X a (rdB X.K X.mg E Γ A)) (hb : PE X b (rdB X.K X.mg E Γ B)) : PT X (.Compare a [op] [b] pos) (rdT X.K X.mg E Γ (.op2 o A B)) := t_cmp h ha hb hm (cmp_bool ho)
theorem e_chain {op op' : CmpOp} {o o' : O2} {a b d : Expr} {A B C : TK.E} (h : OpOk X (compareOp op) o) (h' : OpOk X (compareOp op') o') (hm : lastMarks [op, op'] [b, d] = false) (ho : isCmp o = true) (ha : PE X a (rdB X.K X.mg E Γ A)) (hb : PE X b (rdB X.K X.mg E Γ B)) (hc : PE X d (rdB X.K X.mg E Γ C)) : PE X (.Compare a [op, op'] [b, d] pos) (rd X.K X.mg E Γ (.chain o o' A B C)) := s_chain h h' ha hb hc hm (cmp_bool ho)
theorem p_chain {op op' : CmpOp} {o o' : O2} {a b d : Expr} {A B C : TK.E} (h : OpOk X (compareOp op) o) (h' : OpOk X (compareOp op') o') (hm : lastMarks [op, op'] [b, d] = false) (ho : isCmp o = true) (ho' : isCmp o' = true) (ha : PE X a (rdB X.K X.mg E Γ A)) (hb : PE X b (rdB X.K X.mg E Γ B)) (hc : PE X d (rdB X.K X.mg E Γ C)) : PT X (.Compare a [op, op'] [b, d] pos) (rdT X.K X.mg E Γ (.chain o o' A B C)) := t_chain h h' ha hb hc hm (cmp_bool ho) (cmp_bool ho')
theorem e_ix {a b : Expr} {A B : TK.E} (c : Cxt X k E) (hp : ∀ o i, subscripted b false o i = operate [o, i] (getItem o i)) (ha : PE X a (rdB X.K X.mg E Γ A)) (hb : PE X b (rdB X.K X.mg E Γ B)) : PE X (.Subscript a b pos) (rd X.K X.mg E Γ (.op2 .ix A B)) := s_ix c.room ha hb hp
/-! walks -/
variable {tg : Expr} {m : Bool}
theorem j_range1 {e : Expr} {A : TK.E} {p : Pos} (c : Cxt X k E) (hg : Gl X "range") (hs : notStar e = true) (h : PE X e (rdM X.K X.mg E Γ m A)) : PI X tg (.Call (.Name "range" p) [e] [] pos) (rdI X.K X.mg E Γ m .range1 [A]) := i_range1 hg (c.blt _ (mem_blt (by decide +kernel))) h hs
theorem j_range2 {e e' : Expr} {A B : TK.E} {p : Pos} (c : Cxt X k E) (hg : Gl X "range") (hs : notStar e = true) (hs' : notStar e' = true) (h : PE X e (rdM X.K X.mg E Γ m A)) (h' : PE X e' (rdM X.K X.mg E Γ m B)) : PI X tg (.Call (.Name "range" p) [e, e'] [] pos) (rdI X.K X.mg E Γ m .range2 [A, B]) := i_range2 hg (c.blt _ (mem_blt (by decide +kernel))) h h' hs hs'
theorem j_zip {e e' : Expr} {A B : TK.E} {p tpos : Pos} {elts : List Expr} {kk : Nat} (c : Cxt X k E) (hg : Gl X "zip") (hs : notStar e = true) (hs' : notStar e' = true) (h : PE X e (rdM X.K X.mg E Γ m A)) (h' : PE X e' (rdM X.K X.mg E Γ m B)) : PI X (.Tuple elts kk tpos) (.Call (.Name "zip" p) [e, e'] [] pos) (rdI X.K X.mg E Γ m .zip2 [A, B]) := i_zip hg (c.blt _ (mem_blt (by decide +kernel))) h h' hs hs'
theorem j_name {i : Nat} {x : Str} (c : Cxt X k E) (hi : X.N[i]? = some x) (hx : locB X.env.scope x = true) (hf : tgB X x = true) : PG X (.Name x pos) (rdG X.K (.n i)) := g_name c.nd hi (loc_of hx) (tg_of hf)
theorem j_cons {e : Expr} {es : List Expr} {t : Tg} {ts : List Tg} (hs : notStar e = true) (h1 : PG X e (rdG X.K t)) (h2 : PGs X es (rdGs X.K ts)) : PGs X (e :: es) (rdGs X.K (t :: ts)) := g_cons h1 h2 hs
theorem j_tup {es : List Expr} {ts : List Tg} {j : Nat} (c : Cxt X k E) (hs : es.all notStar = true) (hl : es.length = ts.length) (h : PGs X es (rdGs X.K ts)) : PG X (.Tuple es j pos) (rdG X.K (.t ts)) := g_tup c.calm h hs hl
def slotsIn (tg : Tg) (l : List Nat) : Bool := (slotsT tg).all fun i => l.contains i
theorem slots_of {tg : Tg} {l : List Nat} (h : slotsIn tg l = true) : ∀ i ∈ slotsT tg, i ∈ l := fun i hi => List.contains_iff_mem.mp (List.all_eq_true.mp h i hi)
theorem e_comp {elt tg iter : Expr} {ifs : List Expr} {scope : Scope} {tgt : Tg} {ik : IK} {src conds : List TK.E} {T : TK.E} (own : List (Str × Nat)) (c : Cxt X k E) (ok : blkC X.N X.env.scope scope own = true) (hsl : slotsIn tgt (own.map (·.2)) = true) (hs : ∀ x, foldedSetIterable iter X.env x = pure x) (hi : PI X tg iter (rdI X.K X.mg E Γ true ik src))
    (hg : ∀ (s : Shared) (H : Hp) (C : Addr) (cl : List (Str × Addr)) (fp : List Addr), PG (X.blk s H scope (compEnvC scope cl C X.env) fp) tg (rdG X.K tgt))
    (ht : ∀ (s : Shared) (H : Hp) (C : Addr) (cl : List (Str × Addr)) (fp : List Addr), PTs (X.blk s H scope (compEnvC scope cl C X.env) fp) ifs (rdC X.K X.mg E0 Γ conds))
    (he : ∀ (s : Shared) (H : Hp) (C : Addr) (cl : List (Str × Addr)) (fp : List Addr), PE (X.blk s H scope (compEnvC scope cl C X.env) fp) elt (rd X.K X.mg E0 Γ T)) :
    PE X (.ListComp elt [⟨tg, iter, ifs, 0⟩] scope pos) (rd X.K X.mg E Γ (.comp (own.map (·.2)) tgt ik src conds T)) := s_comp c.calm c.nd hi (blkOk_by ok) hg ht he (slots_of hsl) hs
theorem f_comp {elt tg iter : Expr} {ifs : List Expr} {scope : Scope} {tgt : Tg} {ik : IK} {src conds : List TK.E} {T : TK.E} (own : List (Str × Nat)) (c : Cxt X k E) (ok : blkC X.N X.env.scope scope own = true) (hsl : slotsIn tgt (own.map (·.2)) = true) (hs : ∀ x, foldedSetIterable iter X.env x = pure x) (hi : PI X tg iter (rdI X.K X.mg E Γ true ik src))
    (hg : ∀ (s : Shared) (H : Hp) (C : Addr) (cl : List (Str × Addr)) (fp : List Addr), PG (X.blk s H scope (compEnvC scope cl C X.env) fp) tg (rdG X.K tgt))
    (ht : ∀ (s : Shared) (H : Hp) (C : Addr) (cl : List (Str × Addr)) (fp : List Addr), PTs (X.blk s H scope (compEnvC scope cl C X.env) fp) ifs (rdC X.K X.mg E0 Γ conds))
    (he : ∀ (s : Shared) (H : Hp) (C : Addr) (cl : List (Str × Addr)) (fp : List Addr), PE (X.blk s H scope (compEnvC scope cl C X.env) fp) elt (rd X.K X.mg E0 Γ T)) :
    PE X (.ListComp elt [⟨tg, iter, ifs, 0⟩] scope pos) (rdF X.K X.mg E Γ true (.comp (own.map (·.2)) tgt ik src conds T)) := n_comp c.calm c.nd hi (blkOk_by ok) hg ht he (slots_of hsl) hs
/-! new objects -/
theorem f_lst {es : List Expr} {Ts : List TK.E} (h : PA X es (rdA X.K X.mg E Γ Ts)) : PE X (.List es pos) (rdF X.K X.mg E Γ true (.lst Ts)) := by
  refine (pe_lst h).weak fun σ H Q q => ?_
  obtain ⟨w, O0, H0, O, env, st, r, st', R, q, hB, o⟩ := q
  have q : (evs Γ env Ts >>= fun ds => if ds.length ≤ lim then (pure (PyData.list ds) : M D) else fail) st = some (r, st') := q
  rcases bind_inv q with ⟨cc, h1, rfl⟩ | ⟨ds, st1, h1, h2⟩
  · exact ⟨w, O0, H0, O, env, st, _, _, R, h1, o⟩
  · refine ⟨w, O0, H0, O, env, st, _, _, R, h1, fun H1 p1 vs q1 => ?_⟩
    split at h2
    · obtain ⟨rfl, rfl⟩ := pure_inv h2
      have R1 := R.post p1
      refine ⟨by rw [q1.length]; assumption, fun p hp => o _ (p1.trans (R1.post_new hp)) p (R.fresh p1 hp) (.lst upd_same ?_)⟩
      exact q1.mono fun a u e => by
        obtain ⟨e1, e2⟩ := hid_some e
        have ne : a ≠ p := ne_of_none e2 hp
        exact ⟨u, by rw [hid_of (by rw [addO_ne ne]; exact e1), upd_ne ne]; exact e2, .refl u⟩
    · cases h2
theorem newL_of {w : Dr} {O0 O : Addr → Bool} {H0 H : Hp} {σ : L2.St} {env : Env} {st : DSt} {K : PySem.W.Frag} (R : Rel K w O0 H0 O σ H env st) {p : Addr} {xs : List V} {ds : List D} (hp : H p = none) (r : RpAll w (hid H O) xs ds) : OwnAt w (addO O p) (upd H p (.lst xs)) p (.list ds) :=
  .lst upd_same (r.mono fun a u e => by
    obtain ⟨e1, e2⟩ := hid_some e
    have ne : a ≠ p := ne_of_none e2 hp
    exact ⟨u, by rw [hid_of (by rw [addO_ne ne]; exact e1), upd_ne ne]; exact e2, .refl u⟩)
theorem f_list {e : Expr} {A : TK.E} {p : Pos} (c : Cxt X k E) (hg : Gl X "list") (hs : notStar e = true) (h : PE X e (rdB X.K X.mg E Γ A)) : PE X (.Call (.Name "list" p) [e] [] pos) (rdF X.K X.mg E Γ true (.op1 .listOf A)) := by
  refine (pe_callTy call_list_of hg (c.blt _ (mem_blt (by decide +kernel))) (by decide +kernel) (s_arg1 h hs) (by decide +kernel) (by decide +kernel) (star_ok hs) rfl).weak fun σ H Q q => ?_
  obtain ⟨w, O0, H0, O, env, st, r, st', R, q, hB, o⟩ := q
  have q : (orB env A (ev Γ env A) >>= fun x => liftO (app1 .listOf x)) st = some (r, st') := q
  rcases bind_inv q with ⟨cc, h1, rfl⟩ | ⟨d, st1, h1, h2⟩
  · exact ⟨w, O0, H0, O, env, st, _, _, R, h1, o⟩
  · refine ⟨w, O0, H0, O, env, st, _, _, R, h1, fun H1 p1 v bv => ?_⟩
    obtain ⟨x, h3, rfl, rfl⟩ := liftO_inv h2
    have R1 := R.post p1
    cases d with
    | list l =>
      cases h3
      obtain ⟨a, xs, rfl, g2, r1⟩ := bv.list
      exact ⟨a, xs, rfl, .inl (SqL.of g2), fun z hz => o _ (p1.trans (R1.post_new hz)) z (R.fresh p1 hz) (newL_of R1 hz r1)⟩
    | tuple l =>
      cases h3
      obtain ⟨a, xs, rfl, g2, r1⟩ := bv.tuple
      exact ⟨a, xs, rfl, .inr (SqT.of g2), fun z hz => o _ (p1.trans (R1.post_new hz)) z (R.fresh p1 hz) (newL_of R1 hz r1)⟩
    | _ => cases h3
theorem f_add {a b : Expr} {A B : TK.E} (ha : PE X a (rdB X.K X.mg E Γ A)) (hb : PE X b (rdB X.K X.mg E Γ B)) : PE X (.BinOp a .Add b pos) (rdF X.K X.mg E Γ true (.op2 .add A B)) := by
  refine (pe_op op_cat ha hb).weak fun σ H Q q => ?_
  obtain ⟨w, O0, H0, O, env, st, r, st', R, q, hB, o⟩ := q
  have q : (orB env A (ev Γ env A) >>= fun x => orB env B (ev Γ env B) >>= fun y => liftO (app2 .add x y)) st = some (r, st') := q
  refine rdB_bind R q o fun d st1 v H1 R1 p1 bv h1 o1 => ?_
  refine rdB_bind R1 h1 o1 fun e st2 u H2 R2 p2 bu h2 o2 => ?_
  have bv := bv.ext p2.1
  obtain ⟨x, h3, rfl, rfl⟩ := liftO_inv h2
  have hB := hB x rfl
  cases d with
  | list l =>
    cases e with
    | list l' =>
      simp only [app2] at h3
      split at h3
      · cases h3
        obtain ⟨a1, xs, rfl, g1, r1⟩ := bv.list
        obtain ⟨a2, ys, rfl, g2, r2⟩ := bu.list
        refine ⟨a1, a2, xs, ys, rfl, rfl, g1, g2, by rw [r1.length, r2.length]; assumption, fun z hz => o2 _ (R2.post_new hz) z (R.fresh (p1.trans p2) hz) (newL_of R2 hz (r1.append r2))⟩
      · cases h3
    | _ => cases h3
  | int i =>
    cases e with
    | int j => cases h3; cases hB
    | _ => cases h3
  | bool i =>
    cases e with
    | int j => cases h3; cases hB
    | _ => cases h3
  | str i =>
    cases e with
    | str j =>
      simp only [app2] at h3
      split at h3
      · cases h3; cases hB
      · cases h3
    | _ => cases h3
  | tuple i =>
    cases e with
    | tuple j =>
      simp only [app2] at h3
      split at h3
      · cases h3; cases hB
      · cases h3
    | _ => cases h3
  | _ => cases e <;> cases h3
/-! statements -/
theorem y_asg {i : Nat} {x : Str} {e : Expr} {A : TK.E} {pos' : Pos} (ow : Bool) (c : Cxt X k E) (hi : X.N[i]? = some x) (hx : locB X.env.scope x = true) (hf : tgB X x = true) (hs : swapsWith e (some (.Name x pos')) pos.line X.env = pure false) (he : PE X e (rdF X.K X.mg E Γ ow A)) : PS X (.Assign [.Name x pos'] e pos) (rdS X.K X.mg E Γ (.asg ow i A)) := x_asg c.nd hi (loc_of hx) he hs (tg_of hf)
end
end TK

/-! the reflected layer, 16: statements and defs as they are printed -/
namespace TK
open PySem PySem.Spec PyProof.Rows L2
section
variable {X : Cx} {E : XK} {Γ : List FnSem} {k : Nat} {pos : Pos}
abbrev OwnP (X : Cx) : Prop := PassesOwn (model X.prog X.w) X.A X.env X.xe
theorem y_asgLc {i : Nat} {y : Str} {py : Pos} {elt tg iter : Expr} {ifs : List Expr} {scope : Scope} {pos spos : Pos} {tgt : Tg} {ik : IK} {src conds : List TK.E} {T : TK.E} (ow : Bool) (own : List (Str × Nat)) (c : Cxt X k E) (hy : X.N[i]? = some y) (hyl : X.env.scope.names.lookup y = some .local)
    (hsw : swapsWith (.ListComp elt [⟨tg, iter, ifs, 0⟩] scope pos) (some (.Name y py)) spos.line X.env = pure true) (ok : blkC X.N X.env.scope scope own = true) (hsl : slotsIn tgt (own.map (·.2)) = true) (hs : ∀ x, foldedSetIterable iter X.env x = pure x) (hi : PI X tg iter (rdI X.K X.mg E Γ true ik src))
    (hg : ∀ (s : Shared) (H : Hp) (C : Addr) (cl : List (Str × Addr)) (fp : List Addr), PG (X.blk s H scope (compEnvC scope cl C X.env) fp) tg (rdG X.K tgt))
    (ht : ∀ (s : Shared) (H : Hp) (C : Addr) (cl : List (Str × Addr)) (fp : List Addr), PTs (X.blk s H scope (compEnvC scope cl C X.env) fp) ifs (rdC X.K X.mg E0 Γ conds))
    (he : ∀ (s : Shared) (H : Hp) (C : Addr) (cl : List (Str × Addr)) (fp : List Addr), PE (X.blk s H scope (compEnvC scope cl C X.env) fp) elt (rd X.K X.mg E0 Γ T)) :
    PS X (.Assign [.Name y py] (.ListComp elt [⟨tg, iter, ifs, 0⟩] scope pos) spos) (rdS X.K X.mg E Γ (.asg ow i (.comp (own.map (·.2)) tgt ik src conds T))) := x_asgLc c.calm c.nd hy hyl hsw hi (blkOk_by ok) hg ht he (slots_of hsl) hs
theorem y_par2 {i j : Nat} {x y : Str} {a b : Expr} {o1 o2 : Bool} {A B : TK.E} {px py pt : Pos} {kt k2 pt2} (c : Cxt X k E) (hi : X.N[i]? = some x) (hj : X.N[j]? = some y) (hij : decide (i ≠ j) = true)
    (hx : X.env.scope.names.lookup x = some .local) (hy : X.env.scope.names.lookup y = some .local)
    (hw : swappedStores [.Tuple [.Name x px, .Name y py] kt pt] (.Tuple [a, b] k2 pt2) X.env = pure (some [x, y])) (ha : PA X [a, b] (rdP X.K X.mg E Γ [o1, o2] [A, B])) :
    PS X (.Assign [.Tuple [.Name x px, .Name y py] kt pt] (.Tuple [a, b] k2 pt2) pos) (rdS X.K X.mg E Γ (.par [(i, o1), (j, o2)] [A, B])) := x_par2 c.calm c.nd hi hj (of_decide_eq_true hij) hx hy ha hw
theorem y_par3 {i j l : Nat} {x y z : Str} {a b d : Expr} {o1 o2 o3 : Bool} {A B C : TK.E} {px py pz pt : Pos} {kt k2 pt2} (c : Cxt X k E) (hi : X.N[i]? = some x) (hj : X.N[j]? = some y) (hl : X.N[l]? = some z) (hij : decide (i ≠ j ∧ i ≠ l ∧ j ≠ l) = true)
    (hx : X.env.scope.names.lookup x = some .local) (hy : X.env.scope.names.lookup y = some .local) (hz : X.env.scope.names.lookup z = some .local)
    (hw : swappedStores [.Tuple [.Name x px, .Name y py, .Name z pz] kt pt] (.Tuple [a, b, d] k2 pt2) X.env = pure (some [x, y, z])) (ha : PA X [a, b, d] (rdP X.K X.mg E Γ [o1, o2, o3] [A, B, C])) :
    PS X (.Assign [.Tuple [.Name x px, .Name y py, .Name z pz] kt pt] (.Tuple [a, b, d] k2 pt2) pos) (rdS X.K X.mg E Γ (.par [(i, o1), (j, o2), (l, o3)] [A, B, C])) :=
  x_par3 c.calm c.nd hi hj hl (of_decide_eq_true hij).1 (of_decide_eq_true hij).2.1 (of_decide_eq_true hij).2.2 hx hy hz ha hw
theorem y_par2T {i j : Nat} {x y : Str} {a b : Expr} {o1 o2 : Bool} {A B : TK.E} {px py pt : Pos} {kt k2 pt2} (c : Cxt X k E) (hi : X.N[i]? = some x) (hj : X.N[j]? = some y)
    (hx : (locB X.env.scope x && tgB X x) = true) (hy : (locB X.env.scope y && tgB X y) = true)
    (hw : swappedStores [.Tuple [.Name x px, .Name y py] kt pt] (.Tuple [a, b] k2 pt2) X.env = pure none) (ha : PA X [a, b] (rdP X.K X.mg E Γ [o1, o2] [A, B])) :
    PS X (.Assign [.Tuple [.Name x px, .Name y py] kt pt] (.Tuple [a, b] k2 pt2) pos) (rdS X.K X.mg E Γ (.par [(i, o1), (j, o2)] [A, B])) := by
  rw [Bool.and_eq_true] at hx hy
  exact x_par2T c.calm c.nd hi hj (loc_of hx.1) (loc_of hy.1) (tg_of hx.2) (tg_of hy.2) ha hw
theorem y_par3T {i j l : Nat} {x y z : Str} {a b d : Expr} {o1 o2 o3 : Bool} {A B C : TK.E} {px py pz pt : Pos} {kt k2 pt2} (c : Cxt X k E) (hi : X.N[i]? = some x) (hj : X.N[j]? = some y) (hl : X.N[l]? = some z)
    (hx : (locB X.env.scope x && tgB X x) = true) (hy : (locB X.env.scope y && tgB X y) = true) (hz : (locB X.env.scope z && tgB X z) = true)
    (hw : swappedStores [.Tuple [.Name x px, .Name y py, .Name z pz] kt pt] (.Tuple [a, b, d] k2 pt2) X.env = pure none) (ha : PA X [a, b, d] (rdP X.K X.mg E Γ [o1, o2, o3] [A, B, C])) :
    PS X (.Assign [.Tuple [.Name x px, .Name y py, .Name z pz] kt pt] (.Tuple [a, b, d] k2 pt2) pos) (rdS X.K X.mg E Γ (.par [(i, o1), (j, o2), (l, o3)] [A, B, C])) := by
  rw [Bool.and_eq_true] at hx hy hz
  exact x_par3T c.calm c.nd hi hj hl (loc_of hx.1) (loc_of hy.1) (loc_of hz.1) (tg_of hx.2) (tg_of hy.2) (tg_of hz.2) ha hw
theorem y_p {e : Expr} {es : List Expr} {fs : List Bool} {T : TK.E} {Ts : List TK.E} (f : Bool) (hst : notStar e = true) (h : PE X e (rdF X.K X.mg E Γ f T)) (hs : PA X es (rdP X.K X.mg E Γ fs Ts)) : PA X (e :: es) (rdP X.K X.mg E Γ (f :: fs) (T :: Ts)) := p_cons h hs hst
theorem y_unp {tg e : Expr} {tgt : Tg} {A : TK.E} (hs : swapsWithSole [tg] e pos.line X.env = pure false) (hw : swappedStores [tg] e X.env = pure none) (h1 : (assignEach [tg] X.env).map (·.2) = [assign tg X.env]) (hg : PG X tg (rdG X.K tgt)) (he : PE X e (rd X.K X.mg E Γ A)) : PS X (.Assign [tg] e pos) (rdS X.K X.mg E Γ (.unp tgt A)) := x_unp he hg hs hw h1
theorem y_for {tg iter : Expr} {body : List Stmt} {tgt : Tg} {ik : IK} {src : List TK.E} {B : List S} (c : Cxt X k E) (o : OwnP X) (hs : ∀ x, foldedSetIterable iter X.env x = pure x) (hi : PI X tg iter (rdI X.K X.mg E Γ false ik src)) (hg : PG X tg (rdG X.K tgt)) (hb : PSs X body (rdSs X.K X.mg E Γ B)) : PS X (.For tg iter body [] pos) (rdS X.K X.mg E Γ (.for tgt ik src B)) := x_for o c.calm hi hg hb hs
theorem y_append {x : Str} {i : Nat} {e : Expr} {A : TK.E} {p0 apos cpos : Pos} (hN : X.N[i]? = some x) (hv : visB X.env.scope x = true) (ho : okN x = true) (hs : notStar e = true) (hbase : attributeBase (.Name x p0) "append" X.env (eval (.Name x p0) X.env) = eval (.Name x p0) X.env) (hline : (apos.endLine == cpos.line) = true) (he : PE X e (rd X.K X.mg E Γ A)) :
    PS X (.Expr (.Call (.Attribute (.Name x p0) "append" apos) [e] [] cpos) pos) (rdS X.K X.mg E Γ (.append i A)) := x_append hN (vis_of hv) (okN1 ho) (okN2 ho) he hs hbase hline
theorem y_appPop {x y : Str} {i j : Nat} {e : Expr} {A : TK.E} {p0 p1 apos cpos apos2 cpos2 : Pos} (hN : X.N[i]? = some x) (hv : (visB X.env.scope x && okN x) = true) (hN2 : X.N[j]? = some y) (hv2 : (visB X.env.scope y && okN y) = true) (hs : notStar e = true)
    (hbase : attributeBase (.Name x p0) "append" X.env (eval (.Name x p0) X.env) = eval (.Name x p0) X.env) (hline : (apos.endLine == cpos.line) = true)
    (hbase2 : attributeBase (.Name y p1) "pop" X.env (eval (.Name y p1) X.env) = eval (.Name y p1) X.env) (hline2 : (apos2.endLine == cpos2.line) = true) (he : PE X e (rd X.K X.mg E Γ A)) :
    PS X (.Expr (.Call (.Attribute (.Name x p0) "append" apos) [.Call (.Attribute (.Name y p1) "pop" apos2) [e] [] cpos2] [] cpos) pos) (rdS X.K X.mg E Γ (.appPop i j A)) := by
  rw [Bool.and_eq_true] at hv hv2
  exact x_appPop hN (vis_of hv.1) (okN1 hv.2) (okN2 hv.2) hN2 (vis_of hv2.1) (okN1 hv2.2) (okN2 hv2.2) he hs hbase hline hbase2 hline2
end
def fnScB (N ps : List Str) (sc : Scope) : Bool :=
  (match sc.kind with | .function => true | _ => false) && !sc.isCoroutine && !sc.isGenerator && decide N.Nodup && decide (N.take ps.length = ps) && (ps.all fun x => locB sc x) && (sc.names.all fun y => match y.2 with | .free => false | _ => true) && decide (ps.length ≤ N.length)
theorem fnSc_of {N ps : List Str} {sc : Scope} (h : fnScB N ps sc = true) : FnScope N ps sc ∧ ps.length ≤ N.length := by
  unfold fnScB at h
  simp only [Bool.and_eq_true, decide_eq_true_eq, List.all_eq_true, Bool.not_eq_true'] at h
  obtain ⟨⟨⟨⟨⟨⟨⟨h1, h2⟩, h3⟩, h4⟩, h5⟩, h6⟩, h7⟩, h8⟩ := h
  refine ⟨⟨?_, h2, h3, h4, h5, fun x hx => loc_of (h6 x hx), fun y hy e => ?_⟩, h8⟩
  · split at h1
    · assumption
    · cases h1
  · have := h7 y hy
    rw [e] at this
    cases this
section
variable {P : Program} {w : World} {K : PySem.W.Frag} {mg : Str → Option Value} {base : Heap}
theorem cxt_of {k : Nat} {N ps : List Str} {qual : Str} {scope : Scope} {f : Addr} {cdv : Value} {A : Around} {outer : List PySem.Env} {s : Shared} {H : Hp} {E : XK} (hB : Blt mg) (S : FnScope N ps scope) (hr : Room k (A.deeper (envOfC qual scope s.heap.objs.size f cdv))) : Cxt (cxOf (L2.CX P w) P w K mg base N qual scope f cdv A outer s H E) k E :=
  ⟨rfl, hr, S.nd, hB, passes_call (takes_of rfl rfl rfl rfl) (fun _ _ _ _ h => h)⟩
theorem good_def {x : Str} {params : Arguments} {body : List Stmt} {scope : Scope} {f : Addr} {fd : FuncData} {k : Nat} {Γ : List FnSem} {fn : Fn} (N ps : List Str) (hB : Blt mg) (F : FunD K x x params body scope [] [] f fd) (gm : mg x = some (.ref f)) (S : fnScB N ps scope = true)
    (hb : ∀ (kV doc pm : Value) (an : Option Addr) (cdv ct : Value) (us : List Value), us.length = ps.length → bindArgs (PySem.W.fnOf x x params body scope .none kV doc pm an cdv ct) ⟨us, []⟩ = pure (ps.zip us))
    (hnp : fn.np = ps.length) (hnl : fn.nl = N.length)
    (hbody : ∀ (cdv : Value) (A : Around) (outer : List PySem.Env) (s : Shared) (H : Hp) (E : XK), Cxt (cxOf (L2.CX P w) P w K mg base N x scope f cdv A outer s H E) k E → OwnP (cxOf (L2.CX P w) P w K mg base N x scope f cdv A outer s H E) →
      PSs (cxOf (L2.CX P w) P w K mg base N x scope f cdv A outer s H E) body (rdSs (cxOf (L2.CX P w) P w K mg base N x scope f cdv A outer s H E).K (cxOf (L2.CX P w) P w K mg base N x scope f cdv A outer s H E).mg E Γ fn.body)) : FnGood P w K mg base (k + 1) x (run Γ fn) :=
  good_of F (fnSc_of S).1 gm (F.bindsN hb) hnp hnl (fnSc_of S).2 fun cdv A outer s H E hr => hbody cdv A outer s H E (cxt_of hB (fnSc_of S).1 hr) (passes_of rfl)
end
end TK

/-! the reflected layer, 17: the draws' list and the script -/
namespace TK
open PySem PySem.Spec PyProof.Rows L2
section
variable {x y : D} {st st' : DSt} {r : Except Str D}
theorem opTok_inv {o : Nat} (h : opTok o x y st = some (r, st')) : (isTok x = true ∧ ∃ d, tokOp o st = some d ∧ r = .ok d ∧ st' = st) ∨ ∃ l d, scrOf x = some l ∧ scrOp o l y = some d ∧ r = .ok d ∧ st' = st := by
  unfold opTok at h
  cases hk : isTok x with
  | true =>
    rw [hk, if_pos rfl, Option.map_eq_some_iff] at h
    obtain ⟨d, h1, h2⟩ := h
    cases h2
    exact .inl ⟨rfl, d, h1, rfl, rfl⟩
  | false =>
    rw [hk, if_neg Bool.false_ne_true, Option.map_eq_some_iff] at h
    obtain ⟨d, h1, h2⟩ := h
    cases h2
    rw [Option.bind_eq_some_iff] at h1
    obtain ⟨l, h3, h4⟩ := h1
    exact .inr ⟨l, d, h3, h4, rfl, rfl⟩
theorem scrOf_eq {l : List D} (h : scrOf x = some l) : x = .dict [(.none, .list l)] := by
  unfold scrOf at h
  split at h
  · cases h; rfl
  · cases h
theorem opTok0 (h : opTok 0 x y st = some (r, st')) : isTok x = true ∧ r = .ok (.int st.length) ∧ st' = st := by
  rcases opTok_inv h with ⟨h1, d, h2, h3, h4⟩ | ⟨l, d, h1, h2, h3, h4⟩
  · cases h2; exact ⟨h1, h3, h4⟩
  · cases h2
theorem opTok1 (h : opTok 1 x y st = some (r, st')) : isTok x = true ∧ ∃ n t, st = n :: t ∧ r = .ok (.int n) ∧ st' = st := by
  rcases opTok_inv h with ⟨h1, d, h2, h3, h4⟩ | ⟨l, d, h1, h2, h3, h4⟩
  · cases st with
    | nil => cases h2
    | cons n t => cases h2; exact ⟨h1, n, t, rfl, h3, h4⟩
  · cases h2
theorem opTok2 (h : opTok 2 x y st = some (r, st')) : isTok x = true ∧ r = .ok (.bool (!st.isEmpty)) ∧ st' = st := by
  rcases opTok_inv h with ⟨h1, d, h2, h3, h4⟩ | ⟨l, d, h1, h2, h3, h4⟩
  · cases h2; exact ⟨h1, h3, h4⟩
  · cases h2
theorem opTok3 (h : opTok 3 x y st = some (r, st')) : ∃ l, x = .dict [(.none, .list l)] ∧ r = .ok (.int l.length) ∧ st' = st := by
  rcases opTok_inv h with ⟨h1, d, h2, h3, h4⟩ | ⟨l, d, h1, h2, h3, h4⟩
  · cases st <;> cases h2
  · cases h2; exact ⟨l, scrOf_eq h1, h3, h4⟩
theorem opTok4 (h : opTok 4 x y st = some (r, st')) : ∃ l j z, x = .dict [(.none, .list l)] ∧ y = .int j ∧ atI l j = some z ∧ r = .ok z ∧ st' = st := by
  rcases opTok_inv h with ⟨h1, d, h2, h3, h4⟩ | ⟨l, d, h1, h2, h3, h4⟩
  · cases st <;> cases h2
  · cases y with
    | int j => exact ⟨l, j, d, scrOf_eq h1, rfl, h2, h3, h4⟩
    | _ => cases h2
theorem opTok5 (h : opTok 5 x y st = some (r, st')) : ∃ l, x = .dict [(.none, .list l)] ∧ r = .ok (.bool (!l.isEmpty)) ∧ st' = st := by
  rcases opTok_inv h with ⟨h1, d, h2, h3, h4⟩ | ⟨l, d, h1, h2, h3, h4⟩
  · cases st <;> cases h2
  · cases h2; exact ⟨l, scrOf_eq h1, h3, h4⟩
theorem opTok6 (h : opTok 6 x y st = some (r, st')) : ∃ l z, x = .dict [(.none, .list l)] ∧ app1 .max (.list (absL l ++ [.int 0])) = some z ∧ r = .ok z ∧ st' = st := by
  rcases opTok_inv h with ⟨h1, d, h2, h3, h4⟩ | ⟨l, d, h1, h2, h3, h4⟩
  · cases st <;> cases h2
  · exact ⟨l, d, scrOf_eq h1, h2, h3, h4⟩
theorem intOf_eq {n : Int} (h : intOf x = some n) : x = .int n := by
  unfold intOf at h
  split at h
  · cases h; rfl
  · cases h
end
section
variable {X : Cx} {E : XK} {Γ : List FnSem} {k : Nat} {pos : Pos}
abbrev nn : TK.E := .con .none
theorem op3_inv {env : Env} {i o : Nat} {st st' : DSt} {r : Except Str D} (q : ev Γ env (.op3 o (.var i) nn nn) st = some (r, st')) : ∃ x, getB env i = some x ∧ opTok o x .none st = some (r, st') := by
  have q : (liftO (getB env i) >>= fun x => (pure .none : M D) >>= fun y => opTok o x y) st = some (r, st') := q
  rcases bind_inv q with ⟨c, h1, rfl⟩ | ⟨x, st1, h1, h2⟩
  · obtain ⟨_, _, z, _⟩ := liftO_inv h1; cases z
  · obtain ⟨_, h3, z, rfl⟩ := liftO_inv h1
    cases z
    exact ⟨x, h3, h2⟩
theorem e_tLen {i : Nat} {x : Str} {p p2 : Pos} (c : Cxt X k E) (hg : Gl X "len") (hN : X.N[i]? = some x) (hv : visB X.env.scope x = true) (ho : okN x = true) : PE X (.Call (.Name "len" p) [.Name x p2] [] pos) (rd X.K X.mg E Γ (.op3 0 (.var i) nn nn)) := by
  refine (pe_callB call_len hg (c.blt _ (mem_blt (by decide +kernel))) boot_len (pa_cons (pe_var hN (vis_of hv) (okN1 ho) (okN2 ho)) pa_nil rfl) (by decide +kernel) (by decide +kernel) rfl rfl).weak fun σ H Q q => ?_
  obtain ⟨w, O0, H0, O, env, st, rr, st', R, q, oo⟩ := q
  obtain ⟨d, h1, h2⟩ := op3_inv q
  obtain ⟨h3, rfl, rfl⟩ := opTok0 h2
  obtain ⟨v, e1, e2⟩ := R.getB h1
  obtain rfl := bp_tok e2 h3
  exact ⟨_, e1, _, st'.length, rfl, .inl ⟨_, SqL.of R.sts, by rw [List.length_map]⟩, oo H R.here _ (.int _)⟩
theorem e_cLen {i : Nat} {x : Str} {p p2 : Pos} (c : Cxt X k E) (hg : Gl X "len") (hN : X.N[i]? = some x) (hv : visB X.env.scope x = true) (ho : okN x = true) : PE X (.Call (.Name "len" p) [.Name x p2] [] pos) (rd X.K X.mg E Γ (.op3 3 (.var i) nn nn)) := by
  refine (pe_callB call_len hg (c.blt _ (mem_blt (by decide +kernel))) boot_len (pa_cons (pe_var hN (vis_of hv) (okN1 ho) (okN2 ho)) pa_nil rfl) (by decide +kernel) (by decide +kernel) rfl rfl).weak fun σ H Q q => ?_
  obtain ⟨w, O0, H0, O, env, st, rr, st', R, q, oo⟩ := q
  obtain ⟨d, h1, h2⟩ := op3_inv q
  obtain ⟨l, h3, rfl, rfl⟩ := opTok3 h2
  obtain ⟨v, e1, e2⟩ := R.getB h1
  obtain ⟨rfl, rfl⟩ := bp_scr e2 h3
  refine ⟨_, e1, _, w.ns.length, rfl, .inl ⟨_, hid_le.sqL R.scr, by rw [List.length_map]⟩, ?_⟩
  have := oo H R.here (.int (w.ns.length : Int)) (by rw [List.length_map]; exact .int _)
  exact this
theorem e_tIx0 {i j : Nat} {x : Str} {p p2 : Pos} (hN : X.N[i]? = some x) (hv : visB X.env.scope x = true) (ho : okN x = true) : PE X (.Subscript (.Name x p) (.Constant (.int 0) j p2) pos) (rd X.K X.mg E Γ (.op3 1 (.var i) nn nn)) := by
  refine (pe_ix ix_list (pe_var hN (vis_of hv) (okN1 ho) (okN2 ho)) pe_int (fun _ _ => rfl)).weak fun σ H Q q => ?_
  obtain ⟨w, O0, H0, O, env, st, rr, st', R, q, oo⟩ := q
  obtain ⟨d, h1, h2⟩ := op3_inv q
  obtain ⟨h3, n, t, rfl, rfl, rfl⟩ := opTok1 h2
  obtain ⟨v, e1, e2⟩ := R.getB h1
  obtain rfl := bp_tok e2 h3
  refine ⟨_, e1, _, _, 0, .int n, rfl, rfl, SqL.of R.sts, ?_, oo H R.here _ (.int _)⟩
  simp [atI, ixN]
theorem e_cIx {i : Nat} {x : Str} {b : Expr} {B : TK.E} {p : Pos} (hp : ∀ o i, subscripted b false o i = operate [o, i] (getItem o i)) (hN : X.N[i]? = some x) (hv : visB X.env.scope x = true) (ho : okN x = true) (hb : PE X b (rdB X.K X.mg E Γ B)) : PE X (.Subscript (.Name x p) b pos) (rd X.K X.mg E Γ (.op3 4 (.var i) B nn)) := by
  refine (pe_ix ix_list (pe_var hN (vis_of hv) (okN1 ho) (okN2 ho)) hb hp).weak fun σ H Q q => ?_
  obtain ⟨w, O0, H0, O, env, st, rr, st', R, q, oo⟩ := q
  have q : (liftO (getB env i) >>= fun x => orB env B (ev Γ env B) >>= fun y => opTok 4 x y) st = some (rr, st') := q
  rcases bind_inv q with ⟨c, h1, rfl⟩ | ⟨d, st1, h1, h2⟩
  · obtain ⟨_, _, z, _⟩ := liftO_inv h1; cases z
  obtain ⟨_, h3, z, rfl⟩ := liftO_inv h1
  cases z
  obtain ⟨v, e1, e2⟩ := R.getB h3
  refine ⟨v, e1, ?_⟩
  refine rdB_bind R h2 oo fun y st2 u H1 R1 p1 bu g1 o1 => ?_
  obtain ⟨l, j, z, h4, rfl, h5, rfl, rfl⟩ := opTok4 g1
  obtain ⟨rfl, rfl⟩ := bp_scr e2 h4
  obtain rfl := bu.int
  unfold atI at h5
  rw [Option.bind_eq_some_iff] at h5
  obtain ⟨m, h6, h7⟩ := h5
  rw [List.length_map] at h6
  rw [List.getElem?_map] at h7
  cases hz : w.ns[m]? with
  | none => rw [hz] at h7; cases h7
  | some n =>
    rw [hz] at h7
    cases h7
    refine ⟨_, _, j, .int n, rfl, rfl, hid_le.sqL R1.scr, ?_, o1 H1 R1.here _ (.int _)⟩
    unfold atI
    rw [List.length_map, h6]
    show (w.ns.map V.int)[m]? = _
    rw [List.getElem?_map, hz]
    rfl
theorem p_tok {i : Nat} {x : Str} (hN : X.N[i]? = some x) (hv : visB X.env.scope x = true) (ho : okN x = true) (he : ∀ whole, isTrue (.Name x pos) X.env whole = (do let v ← whole; standAt (Expr.Name x pos).pos; holding [v] (truthy v))) : PT X (.Name x pos) (rdT X.K X.mg E Γ (.op3 2 (.var i) nn nn)) := by
  refine (pt_truth (pe_var hN (vis_of hv) (okN1 ho) (okN2 ho)) he).weak fun σ H Q q => ?_
  obtain ⟨w, O0, H0, O, env, st, rr, st', R, q, oo⟩ := q
  have q : (ev Γ env (.op3 2 (.var i) nn nn) >>= tru) st = some (rr, st') := q
  rcases bind_inv q with ⟨c, h1, rfl⟩ | ⟨d, st1, h1, h2⟩
  · obtain ⟨_, _, h2⟩ := op3_inv h1
    obtain ⟨_, z, _⟩ := opTok2 h2
    cases z
  · obtain ⟨d', g1, g2⟩ := op3_inv h1
    obtain ⟨g3, z, rfl⟩ := opTok2 g2
    cases z
    obtain ⟨b, h4, rfl, rfl⟩ := tru_inv h2
    cases h4
    obtain ⟨v, e1, e2⟩ := R.getB g1
    obtain rfl := bp_tok e2 g3
    refine ⟨_, e1, _, .inl ⟨_, SqL.of R.sts, ?_⟩, oo H R.here⟩
    cases st' <;> rfl
theorem p_scr {i : Nat} {x : Str} (hN : X.N[i]? = some x) (hv : visB X.env.scope x = true) (ho : okN x = true) (he : ∀ whole, isTrue (.Name x pos) X.env whole = (do let v ← whole; standAt (Expr.Name x pos).pos; holding [v] (truthy v))) : PT X (.Name x pos) (rdT X.K X.mg E Γ (.op3 5 (.var i) nn nn)) := by
  refine (pt_truth (pe_var hN (vis_of hv) (okN1 ho) (okN2 ho)) he).weak fun σ H Q q => ?_
  obtain ⟨w, O0, H0, O, env, st, rr, st', R, q, oo⟩ := q
  have q : (ev Γ env (.op3 5 (.var i) nn nn) >>= tru) st = some (rr, st') := q
  rcases bind_inv q with ⟨c, h1, rfl⟩ | ⟨d, st1, h1, h2⟩
  · obtain ⟨_, _, h2⟩ := op3_inv h1
    obtain ⟨_, _, z, _⟩ := opTok5 h2
    cases z
  · obtain ⟨d', g1, g2⟩ := op3_inv h1
    obtain ⟨l, g3, z, rfl⟩ := opTok5 g2
    cases z
    obtain ⟨b, h4, rfl, rfl⟩ := tru_inv h2
    cases h4
    obtain ⟨v, e1, e2⟩ := R.getB g1
    obtain ⟨rfl, rfl⟩ := bp_scr e2 g3
    refine ⟨_, e1, _, .inl ⟨_, hid_le.sqL R.scr, ?_⟩, oo H R.here⟩
    cases w.ns <;> rfl
theorem x_tokApp {x : Str} {i : Nat} {e : Expr} {A : TK.E} {p0 apos cpos : Pos} (hN : X.N[i]? = some x) (hv : visB X.env.scope x = true) (ho : okN x = true) (hs : notStar e = true) (hbase : attributeBase (.Name x p0) "append" X.env (eval (.Name x p0) X.env) = eval (.Name x p0) X.env) (hline : (apos.endLine == cpos.line) = true) (he : PE X e (rd X.K X.mg E Γ A)) :
    PS X (.Expr (.Call (.Attribute (.Name x p0) "append" apos) [e] [] cpos) pos) (rdS X.K X.mg E Γ (.tokApp i A)) := by
  refine (ps_expr (pe_bm PySem.F.plainAttrs_list PySem.F.slot_list_append rfl mt_append (pe_var hN (vis_of hv) (okN1 ho) (okN2 ho)) (pa_cons he pa_nil (star_ok hs)) hbase (few_ok hs) hline (star_ok hs) rfl) rfl).weak fun D σ H q => ?_
  obtain ⟨w, O0, H0, O, env, st, r, st', R, q, o⟩ := q
  have q : (liftO (getV env i) >>= fun t => if isTok t then (ev Γ env A >>= fun d => liftO (intOf d) >>= fun n => appTok n >>= fun _ => (pure (.nx, env) : M (Fl × Env))) else fail) st = some (r, st') := q
  rcases bind_inv q with ⟨c, g1, rfl⟩ | ⟨t, st0, g1, q2⟩
  · obtain ⟨_, _, z, _⟩ := liftO_inv g1; cases z
  obtain ⟨_, ht, z, rfl⟩ := liftO_inv g1
  cases z
  obtain ⟨hk, q3⟩ := ite_ok q2
  obtain ⟨v, e1, e2⟩ := R.getV ht
  obtain rfl := tok_of e2 hk
  refine ⟨_, e1, .inl ⟨rfl, _, SqL.of R.sts⟩, ?_⟩
  rcases bind_inv q3 with ⟨c, g1, rfl⟩ | ⟨d, st1, g1, g2⟩
  · exact ⟨w, O0, H0, O, env, _, .error c, _, R, g1, o.err R⟩
  · refine ⟨w, O0, H0, O, env, _, .ok d, st1, R, g1, fun H1 p1 v rp => ?_⟩
    have R1 := R.post p1
    rcases bind_inv g2 with ⟨c, g3, rfl⟩ | ⟨n, st2, g3, g4⟩
    · obtain ⟨_, _, z, _⟩ := liftO_inv g3; cases z
    obtain ⟨_, hn, z, rfl⟩ := liftO_inv g3
    cases z
    obtain rfl := intOf_eq hn
    cases rp
    rcases bind_inv g4 with ⟨c, g5, rfl⟩ | ⟨u, st3, g5, g6⟩
    · unfold appTok at g5
      split at g5 <;> cases g5
    · unfold appTok at g5
      split at g5
      · rename_i hlt
        cases g5
        obtain ⟨rfl, rfl⟩ := pure_inv g6
        refine ⟨w.ps, _, .int n, rfl, rfl, R1.sts, by rw [List.length_map]; exact hlt, o O σ _ (R1.post ⟨⟨fun b u z ne e => ?_, fun b u z e => ?_⟩, ?_⟩)⟩
        · rw [upd_ne ne]; exact e
        · have ne : b ≠ w.ps := fun q => by rw [q, R1.sub _ R1.ops] at z; cases z
          exact ⟨u, by rw [upd_ne ne]; exact e, .refl u⟩
        · rw [upd_same, List.map_append]; rfl
      · cases g5
theorem x_tokSet {x : Str} {i j : Nat} {e : Expr} {A : TK.E} {p p2 pos' : Pos} (hN : X.N[i]? = some x) (hv : visB X.env.scope x = true) (ho : okN x = true) (hsw : swapsWithSole [.Subscript (.Name x p) (.Constant (.int 0) j p2) pos'] e pos.line X.env = pure false) (hw : swappedStores [.Subscript (.Name x p) (.Constant (.int 0) j p2) pos'] e X.env = pure none) (he : PE X e (rd X.K X.mg E Γ A)) :
    PS X (.Assign [.Subscript (.Name x p) (.Constant (.int 0) j p2) pos'] e pos) (rdS X.K X.mg E Γ (.tokSet i A)) := by
  refine (ps_asg he (pg_sub (pe_var hN (vis_of hv) (okN1 ho) (okN2 ho)) pe_int set_list (fun _ => rfl)) hsw hw rfl).weak fun D σ H q => ?_
  obtain ⟨w, O0, H0, O, env, st, r, st', R, q, o⟩ := q
  have q : (liftO (getV env i) >>= fun t => if isTok t then (ev Γ env A >>= fun d => liftO (intOf d) >>= fun n => setTok n >>= fun _ => (pure (.nx, env) : M (Fl × Env))) else fail) st = some (r, st') := q
  rcases bind_inv q with ⟨c, g1, rfl⟩ | ⟨t, st0, g1, q2⟩
  · obtain ⟨_, _, z, _⟩ := liftO_inv g1; cases z
  obtain ⟨_, ht, z, rfl⟩ := liftO_inv g1
  cases z
  obtain ⟨hk, q3⟩ := ite_ok q2
  obtain ⟨v, e1, e2⟩ := R.getV ht
  obtain rfl := tok_of e2 hk
  rcases bind_inv q3 with ⟨c, g1, rfl⟩ | ⟨d, st1, g1, g2⟩
  · exact ⟨w, O0, H0, O, env, _, .error c, _, R, g1, o.err R⟩
  · refine ⟨w, O0, H0, O, env, _, .ok d, st1, R, g1, fun H1 p1 v rp => ⟨_, e1, ?_⟩⟩
    have R1 := R.post p1
    rcases bind_inv g2 with ⟨c, g3, rfl⟩ | ⟨n, st2, g3, g4⟩
    · obtain ⟨_, _, z, _⟩ := liftO_inv g3; cases z
    obtain ⟨_, hn, z, rfl⟩ := liftO_inv g3
    cases z
    obtain rfl := intOf_eq hn
    cases rp
    rcases bind_inv g4 with ⟨c, g5, rfl⟩ | ⟨u, st3, g5, g6⟩
    · cases st2 <;> cases g5
    · cases st2 with
      | nil => cases g5
      | cons m t =>
        cases g5
        obtain ⟨rfl, rfl⟩ := pure_inv g6
        refine ⟨w.ps, _, 0, 0, rfl, rfl, R1.sts, by simp [ixN], o O σ _ (R1.post ⟨⟨fun b u z ne e => ?_, fun b u z e => ?_⟩, ?_⟩)⟩
        · rw [upd_ne ne]; exact e
        · have ne : b ≠ w.ps := fun q => by rw [q, R1.sub _ R1.ops] at z; cases z
          exact ⟨u, by rw [upd_ne ne]; exact e, .refl u⟩
        · rw [upd_same]; rfl
end
end TK

/-! the reflected layer, 18: the law's def -/
namespace TK
open PySem PySem.Spec PyProof.Rows L2
def lawEnv (n i1 : Nat) (ns : List Int) : Env := (Slot.val (scr ns) :: List.replicate (n - 1) .no).set i1 (.val tok)
def spLaw (K : PySem.W.Frag) (n : Nat) : Sp := fun vs H Q _ => ∃ (a : Addr) (ns : List Int), vs = [.ref a] ∧ SqL K H a (ns.map V.int) ∧ ns.length ≤ n ∧ ∀ H', Q (.bl true) H'
section
variable {P : Program} {w : World} {K : PySem.W.Frag} {mg : Str → Option Value} {base : Heap}
theorem law_of {params : Arguments} {body rest : List Stmt} {scope : Scope} {f : Addr} {fd : FuncData} {k n i1 : Nat} {Γ : List FnSem} {B : List S} {p1 p2 p3 : Pos} (N : List Str) (hB : Blt mg) (F : FunD K "law" "law" params body scope [] [] f fd) (S : fnScB N ["script"] scope = true)
    (hb : body = .Assign [.Name "state" p1] (.List [] p2) p3 :: rest) (hi : N[i1]? = some "state") (h0 : decide (0 < i1) = true) (hloc : locB scope "state" = true)
    (hbody : ∀ (cdv : Value) (A : Around) (outer : List PySem.Env) (s : Shared) (H : Hp) (E : XK), Cxt (cxOf CX0 P w K mg base N "law" scope f cdv A outer s H E) k E0 → OwnP (cxOf CX0 P w K mg base N "law" scope f cdv A outer s H E) →
      PSs (cxOf CX0 P w K mg base N "law" scope f cdv A outer s H E) rest (rdSs (cxOf CX0 P w K mg base N "law" scope f cdv A outer s H E).K (cxOf CX0 P w K mg base N "law" scope f cdv A outer s H E).mg E0 Γ B))
    (hrun : ∀ ns : List Int, ns.length ≤ n → ∃ e st', exs Γ B (lawEnv N.length i1 ns) [] = some (.ok (.rt (.bool true), e), st')) : FnOk P w K mg base CX0 (k + 1) f fd ["script"] (spLaw K n) := by
  subst hb
  have S1 := (fnSc_of S).1
  refine F.ok S1 (fun vs H Q E q => ?_) (fun cdv A outer s H vs Q E hr q => ⟨_, pss_cons (ps_set (i := i1) S1.nd hi (loc_of hloc) (pe_lst pa_nil) rfl (.inl rfl)) (hbody cdv A outer s H E ⟨rfl, hr, S1.nd, hB, passL⟩ (passes_of rfl)), ?_⟩)
  · obtain ⟨a, ns, rfl, _⟩ := q
    rfl
  · obtain ⟨a, ns, rfl, hS, hn, hQ⟩ := q
    refine ⟨Nat.zero_le _, fun p hp => ?_⟩
    obtain ⟨e, st', hx⟩ := hrun ns hn
    have h0 := of_decide_eq_true h0
    have hlt : i1 < N.length := (List.getElem?_eq_some_iff.mp hi).1
    have R : Rel K ⟨p, a, ns⟩ (fun b => decide (b = p)) (upd H p (.lst [])) (fun b => decide (b = p)) ((L2.start N [.ref a]).set i1 (some (.ref p))) (upd H p (.lst [])) (lawEnv N.length i1 ns) [] := by
      have hen : ∀ {i : Nat} {s : Slot}, (lawEnv N.length i1 ns)[i]? = some s → s = .no ∨ (i = 0 ∧ s = .val (scr ns)) ∨ (i = i1 ∧ s = .val tok) := fun {i s} h => by
        unfold lawEnv at h
        by_cases e : i1 = i
        · subst e
          rw [List.getElem?_set_self (by rw [List.length_cons, List.length_replicate]; omega)] at h
          cases h
          exact .inr (.inr ⟨rfl, rfl⟩)
        · rw [List.getElem?_set_ne e] at h
          cases i with
          | zero => cases h; exact .inr (.inl ⟨rfl, rfl⟩)
          | succ i =>
            rw [List.getElem?_cons_succ] at h
            exact .inl (List.eq_of_mem_replicate (List.mem_of_getElem? h))
      have hst : (L2.start N [.ref a]).length = N.length := by
        unfold L2.start
        simp
        omega
      refine ⟨Ext.refl, fun _ h => h, fun b h => ?_, fun b h => ?_, (fun b h h' => by rw [h] at h'; cases h'), by simp, upd_same, ?_, ?_, fun i d h => ?_, fun i d h => ?_, fun i j q di dj h => ?_⟩
      · rw [of_decide_eq_true h, upd_same]; intro z; cases z
      · rw [of_decide_eq_true h, upd_same]; intro z; cases z
      · refine Le.sqL (fun b o e => ?_) hS
        have ne : b ≠ p := ne_of_none e hp
        exact ⟨o, by rw [hid_of (by simp [ne]), upd_ne ne]; exact e, .refl o⟩
      · rw [List.length_set, hst]
        unfold lawEnv
        rw [List.length_set, List.length_cons, List.length_replicate]
        omega
      · rcases hen h with z | ⟨rfl, z⟩ | ⟨rfl, z⟩
        · cases z
        · cases z
          exact ⟨.ref a, by rw [List.getElem?_set_ne (by omega)]; rfl, .scr⟩
        · cases z
          exact ⟨.ref p, List.getElem?_set_self (by rw [hst]; exact hlt), .tok⟩
      · rcases hen h with z | ⟨rfl, z⟩ | ⟨rfl, z⟩ <;> cases z
      · rcases hen h with z | ⟨rfl, z⟩ | ⟨rfl, z⟩ <;> cases z
    exact ⟨_, _, _, _, _, _, _, _, R, hx, fun v H' _ rp => by cases rp; exact hQ H'⟩
end
end TK

/-! the reflected layer, 19: extend, raise, try -/
namespace TK
open PySem PySem.Spec PyProof.Rows L2
open PySem.Spec in
theorem ext_list_tuple (l : Addr) (items : Array Value) (n : Nat) (b : Addr) (items2 : Array Value) (n2 : Nat) (dd : Option Addr) (sl : Array (Option Value)) (hs0 : ¬(!items.isEmpty && Builtin.List.listTooLong (items.size + items2.size)) = true) (hs1 : items.size ≤ sizeLine) (hs2 : items.size + items2.size ≤ sizeLine + 1) :
    Meets (Builtin.«list.extend» ⟨[.ref l, .ref b], []⟩) (fun _ R s => s.heap.get? l = some { cls := .type "list", dict := none, data := .seq items n, slots := #[] } ∧ s.heap.get? b = some { cls := .type "tuple", dict := dd, data := .seq items2 n2, slots := sl } ∧ R (.ok (.ret Value.none)) { s with heap := s.heap.update l (Obj.mapSeq fun x => x ++ items2), toks := s.toks }) :=
  .of_wp fun prog w A R s h => by
    obtain ⟨hp, g, d, tk, os⟩ := s; obtain ⟨hl, hb, h⟩ := h
    have hz' : (items ++ items2).size ≤ sizeLine + 1 := by rw [Array.size_append]; exact hs2
    wp_walk using (wpAny_updateSeq hl rfl (hz := hs1) (_hz' := hz')), wpAny_loadPart' hl, wpAny_loadPart' hb; exact ⟨_, rfl, h⟩
section
variable {X : Cx} {E : XK} {Γ : List FnSem} {k : Nat} {pos apos cpos : Pos}
def rExtA (K : PySem.W.Frag) : V → List V → Hp → VK → Prop := fun x vs H Q => ∃ l b xs zs, x = .ref l ∧ vs = [.ref b] ∧ H l = some (.lst xs) ∧ (H b = some (.lst zs) ∨ SqT K H b zs) ∧ xs.length + zs.length ≤ sizeLine ∧ Q .non (upd H l (.lst (xs ++ zs)))
theorem mt_extA : MtM X "list.extend" (rExtA X.K) := by
  intro pins s σ H x vs v us Q I rx rv h
  obtain ⟨l, b, xs, zs, rfl, rfl, hH, hB, hz, q⟩ := h
  rcases hB with hB | hB
  · exact mt_extend pins s σ H _ _ v us Q I rx rv ⟨l, b, xs, zs, rfl, rfl, hH, hB, hz, q⟩
  · cases rx
    obtain ⟨u, rfl, ru⟩ := rv.one
    cases ru
    obtain ⟨z, its, n, r, hl, e⟩ := I.lstM hH
    obtain ⟨its2, r2, ⟨o2, e2, hc2, n2, hd2⟩, hz2⟩ := I.tuple hB
    obtain ⟨c2, d2, dt2, sl2⟩ := o2
    simp only at hc2 hd2
    subst hc2 hd2
    have hl2 := r2.length
    have hsz : its.toArray.size + its2.toArray.size ≤ sizeLine := by rw [List.size_toArray, List.size_toArray]; omega
    have hlong : ¬ (!its.toArray.isEmpty && Builtin.List.listTooLong (its.toArray.size + its2.toArray.size)) = true := by
      rw [notLongL hsz, Bool.and_false]
      exact Bool.false_ne_true
    refine call_meets PySem.F.slot_list_extend ⟨_, e, rfl⟩ PySem.F.entry_list_extend (PySem.F.args_list_extend_2 _ _)
      (ext_list_tuple l its.toArray n b its2.toArray n2 d2 sl2 hlong (by rw [List.size_toArray]; omega) (by omega)) ⟨e, e2, ?_⟩
    refine ⟨.non, _, I.lset (its' := its ++ its2) hH e (by simp) (r.append r2) ?_, rfl, q⟩
    rw [List.length_append]
    omega
theorem x_extend {x : Str} {i : Nat} {e : Expr} {A : TK.E} {p0 : Pos} (hN : X.N[i]? = some x) (hv : Vis X.env.scope x) (hd : (x == ("__debug__" : Str)) = false) (hcd : (x == ("__classdict__" : Str)) = false) (he : PE X e (rd X.K X.mg E Γ A)) (hs : notStar e = true)
    (hbase : attributeBase (.Name x p0) "extend" X.env (eval (.Name x p0) X.env) = eval (.Name x p0) X.env) (hline : (apos.endLine == cpos.line) = true) :
    PS X (.Expr (.Call (.Attribute (.Name x p0) "extend" apos) [e] [] cpos) pos) (rdS X.K X.mg E Γ (.extend i A)) := by
  refine (ps_expr (pe_bm PySem.F.plainAttrs_list PySem.F.slot_list_extend rfl mt_extA (pe_var hN hv hd hcd) (pa_cons he pa_nil (star_ok hs)) hbase (few_ok hs) hline (star_ok hs) rfl) rfl).weak fun D σ H q => ?_
  obtain ⟨w, O0, H0, O, env, st, r, st', R, q, o⟩ := q
  have q : (liftO (ownL env i) >>= fun l => ev Γ env A >>= fun d => liftO (seqOf d) >>= fun m => if l.length + m.length ≤ lim then (pure (.nx, env.set i (.own (.list (l ++ m)))) : M (Fl × Env)) else fail) st = some (r, st') := q
  rcases bind_inv q with ⟨c, g1, rfl⟩ | ⟨l, st1, g1, g2⟩
  · obtain ⟨_, _, z, _⟩ := liftO_inv g1; cases z
  obtain ⟨_, hl, z, rfl⟩ := liftO_inv g1
  cases z
  have hl := ownL_inv hl
  obtain ⟨p, e1, e2, e3, e4⟩ := R.own i _ hl
  cases e4 with
  | lst a b =>
    refine ⟨_, e1, .inl ⟨rfl, _, SqL.of a⟩, ?_⟩
    rcases bind_inv g2 with ⟨c, g3, rfl⟩ | ⟨d, st2, g3, g4⟩
    · exact ⟨w, O0, H0, O, env, _, .error c, _, R, g3, o.err R⟩
    · refine ⟨w, O0, H0, O, env, _, .ok d, st2, R, g3, fun H1 p1 v rp => ?_⟩
      have R2 := R.post p1
      rcases bind_inv g4 with ⟨c, g5, rfl⟩ | ⟨m, st3, g5, g6⟩
      · obtain ⟨_, _, z, _⟩ := liftO_inv g5; cases z
      obtain ⟨_, hm, z, rfl⟩ := liftO_inv g5
      cases z
      split at g6
      · rename_i hlt
        obtain ⟨rfl, rfl⟩ := pure_inv g6
        have a' := p1.1.own p _ e2 (R.psne e3) a
        have b' := b.mono p1.1.le
        cases d with
        | list dm =>
          cases hm
          cases rp with
          | lst za zr => exact ⟨p, _, _, _, rfl, rfl, a', .inl (hid_some za).2, by rw [b.length, zr.length]; exact hlt, o _ _ _ (R2.writeOwn hl e1 fun le => .lst upd_same ((b'.append zr).mono le))⟩
        | tuple dm =>
          cases hm
          cases rp with
          | tup za zr => exact ⟨p, _, _, _, rfl, rfl, a', .inr (SqT.of (hid_some za).2), by rw [b.length, zr.length]; exact hlt, o _ _ _ (R2.writeOwn hl e1 fun le => .lst upd_same ((b'.append zr).mono le))⟩
        | _ => cases hm
      · cases g6
/-! exceptions of one's own -/
/-- the names in L are own exception classes over ValueError, none over another -/
structure XC (K : PySem.W.Frag) (mg : Str → Option Value) (L : List Str) : Prop where
  cls : ∀ c ∈ L, ∃ A, mg c = some (.ref A) ∧ PySem.W.excIn K A [.type "ValueError", .type "Exception", .type "BaseException", .type "object"] "ValueError.__new__" = true ∧ PySem.W.keepIn K (.ref A) = true ∧ PySem.W.subIn K (.ref A) (.type "BaseException") = some true ∧ PySem.W.typeIn K (.ref A) = some (.type "type")
  exm : ∀ c ∈ L, ∀ d ∈ L, ∀ A B, mg c = some (.ref A) → mg d = some (.ref B) → PySem.W.exmOne K (.ref A) (.ref B) = some (decide (c = d))
/-- what statements ask of the context -/
structure OwnX (X : Cx) (E : XK) (L : List Str) : Prop where
  own : OwnP X
  takes : Takes X (fun cls d _ H => E cls d H)
  stk : X.stack = X.env :: X.outer
  frm : X.env.frame = some X.env.locals
  exc : XC X.K X.mg L
theorem pmk_own0 {x : Str} {C : Addr} {bmB : List Value} {B newId initId : String} {p pos : Pos} (F : ExcBaseFacts B newId initId bmB) (q : PySem.W.excIn X.K C bmB newId = true) (gC : X.mg x = some (.ref C)) (kC : PySem.W.keepIn X.K (.ref C) = true) (r : Raises X (.ref C)) (hg : Gl X x)
    (hdb : (x == ("__debug__" : Str)) = false) : PMk X (.Call (.Name x p) [] [] pos) (fun _ H Q => Q (.ref C) none H) := by
  intro pins s σ H Q I h
  refine wpAny_Call_Name_kw (ld_glob I hg gC ?_ hdb)
  refine PySem.W.callWith_K0 I.kIn kC ?_
  obtain ⟨bm, N, nm, qn, bs, hdct, sn, sub, ab, col, dd, k0, k1, k2, k3, k5, mN, hC, hN, hni, T⟩ := exc_obj I.kIn q
  refine wpAny_call_exc_subT F T hC hN hni (fun h' e hm => ?_) (Nat.zero_le _)
  exact mk_of I hm r h (I.hok.gone hm.new)
theorem x_raise {c : Str} {L : List Str} {p p1 : Pos} (hc : X.calm = true) (o : OwnX X E L) (hL : c ∈ L) (hg : Gl X c) (hdb : (c == ("__debug__" : Str)) = false) : PS X (.Raise (some (.Call (.Name c p) [] [] p1)) none pos) (rdS X.K X.mg E Γ (.raise c)) := by
  obtain ⟨A, h1, h2, h3, h4, h5⟩ := o.exc.cls c hL
  refine (ps_raise hc o.takes (pmk_own0 PySem.F.excBase_ValueError h2 h1 h3 (raises_own h4 h5) hg hdb)).weak fun D σ H q => ?_
  obtain ⟨w, O0, H0, O, env, st, r, st', R, q, oo⟩ := q
  cases q
  exact oo A H h1 (R.post R.here).post0
/-- except clauses that return a text -/
inductive HdsL (X : Cx) (L : List Str) : List ExceptHandler → List (Str × D) → Prop
  | nil : HdsL X L [] []
  | cons {c m : Str} {np pos' p1 p2 : Pos} {j : Nat} {hds : List ExceptHandler} {hs : List (Str × D)} (hL : c ∈ L) (hg : Gl X c) (hdb : (c == ("__debug__" : Str)) = false) (hm : PyData.strOk m = true) (r : HdsL X L hds hs) :
      HdsL X L (.ExceptHandler (some (.Name c np)) none [.Return (some (.Constant (.str m) j p2)) p1] pos' :: hds) ((c, .str m) :: hs)
theorem HdsL.ok {L : List Str} {hds : List ExceptHandler} {hs : List (Str × D)} (xc : XC X.K X.mg L) (h : HdsL X L hds hs) : ∃ l, HdsOk X hds l ∧ ∀ (Wout : WX) (D : Ends) (c : Str) (d : TK.D) (A : Addr) (H : Hp) (σ : L2.St), c ∈ L → X.mg c = some (.ref A) → hs.lookup c = some d → (∀ m, d = .str m → PyData.strOk m = true → D.rt (.str m) H) → wMany X.K Wout D l (.ref A) none σ H := by
  induction h with
  | nil => exact ⟨[], .nil, fun _ _ _ _ _ _ _ _ _ h => by cases h⟩
  | @cons c m np pos' p1 p2 j hds hs hL hg hdb hm r ih =>
    obtain ⟨l, h1, h2⟩ := ih
    obtain ⟨B, b1, _⟩ := xc.cls c hL
    refine ⟨(.ref B, fun _ _ _ => tRet (tC (.str m))) :: l, .cons ⟨hg, hdb, .inl b1⟩ (fun a oe cls d pn _ _ => pss_one (ps_ret pe_str)) h1, fun Wout D c' d A H σ cL gA hl q => ?_⟩
    refine ⟨decide (c' = c), xc.exm c' cL c hL A B gA b1, fun e a _ => ?_, fun e => ?_⟩
    · have e := of_decide_eq_true e
      subst e
      rw [List.lookup_cons_self] at hl
      cases hl
      exact q m rfl hm
    · have e := of_decide_eq_false e
      rw [List.lookup_cons, beq_eq_false_iff_ne.mpr e] at hl
      exact h2 Wout D c' d A H σ cL gA hl q
theorem lookup_mem {L : List Str} {hds : List ExceptHandler} {hs : List (Str × D)} {c : Str} {d : D} (h : HdsL X L hds hs) (hl : hs.lookup c = some d) : c ∈ L := by
  induction h with
  | nil => cases hl
  | @cons c1 m np pos' p1 p2 j hds hs hL hg hdb hm r ih =>
    by_cases e : c = c1
    · rw [e]; exact hL
    · rw [List.lookup_cons, beq_eq_false_iff_ne.mpr e] at hl
      exact ih hl
theorem Cxt.tr (c : Cxt X k E) {pn : List (Addr × Obj)} {xe : Value → Shared → Prop} {W : WX} (tk : Takes (X.tr pn xe) W) : Cxt (X.tr pn xe) k (fun cls d H => ∀ σ, W cls d σ H) :=
  ⟨c.calm, c.room, c.nd, c.blt, passes_call tk fun _ _ σ _ h => h σ⟩
theorem x_try {L : List Str} {e : Expr} {T : TK.E} {h₀ : ExceptHandler} {hds : List ExceptHandler} {hs : List (Str × D)} {p1 : Pos} (c : Cxt X k E) (o : OwnX X E L)
    (hb : ∀ (pn : List (Addr × Obj)) (xe : Value → Shared → Prop) (E' : XK), Cxt (X.tr pn xe) k E' → PE (X.tr pn xe) e (rd X.K X.mg E' Γ T))
    (hh : HdsL X L (h₀ :: hds) hs) : PS X (.Try [.Return (some e) p1] (h₀ :: hds) [] [] pos) (rdS X.K X.mg E Γ (.tryR T hs)) := by
  obtain ⟨l, h1, h2⟩ := hh.ok o.exc
  refine (ps_try_many (Wout := fun cls d _ H => E cls d H) (tb := fun W => tRet (rd X.K X.mg (fun cls d H => ∀ σ, W cls d σ H) Γ T)) o.stk o.frm o.takes (fun W pn xe tk _ => pss_one (ps_ret (hb pn xe _ (c.tr tk)))) h1).weak fun D σ H q => ?_
  obtain ⟨w, O0, H0, O, env, st, r, st', R, q, oo⟩ := q
  have q : (tryM (ev Γ env T) hs >>= fun d => (pure (.rt d, env) : M (Fl × Env))) st = some (r, st') := q
  rcases bind_inv q with ⟨c, g1, rfl⟩ | ⟨d, st1, g1, g2⟩
  · unfold tryM at g1
    split at g1
    · split at g1 <;> cases g1
    · rename_i hne
      exact absurd g1 (hne _ _)
  · obtain ⟨rfl, rfl⟩ := pure_inv g2
    unfold tryM at g1
    split at g1
    · rename_i cc st2 g3
      split at g1
      · rename_i d' hl
        cases g1
        refine ⟨w, O0, H0, O, env, st, .error cc, _, R, g3, fun A H' m p σ' => h2 _ D cc d A H' σ' (lookup_mem hh hl) m hl fun mm e1 e2 => ?_⟩
        subst e1
        exact oo (.str mm) H' (R.post p).post0 (.str mm e2)
      · cases g1
    · exact ⟨w, O0, H0, O, env, st, .ok d, _, R, g1, fun H1 p v rp => oo v H1 (R.post p).post0 ((R.post p).rp0 rp)⟩
/-! as printed -/
theorem mem_by {c : Str} {L : List Str} (h : L.contains c = true) : c ∈ L := List.contains_iff_mem.mp h
theorem y_extend {x : Str} {i : Nat} {e : Expr} {A : TK.E} {p0 : Pos} (hN : X.N[i]? = some x) (hv : visB X.env.scope x = true) (ho : okN x = true) (hs : notStar e = true) (hbase : attributeBase (.Name x p0) "extend" X.env (eval (.Name x p0) X.env) = eval (.Name x p0) X.env) (hline : (apos.endLine == cpos.line) = true) (he : PE X e (rd X.K X.mg E Γ A)) :
    PS X (.Expr (.Call (.Attribute (.Name x p0) "extend" apos) [e] [] cpos) pos) (rdS X.K X.mg E Γ (.extend i A)) := x_extend hN (vis_of hv) (okN1 ho) (okN2 ho) he hs hbase hline
theorem y_raise {c : Str} {L : List Str} {p p1 : Pos} (cx : Cxt X k E) (o : OwnX X E L) (hL : L.contains c = true) (hg : Gl X c) (ho : okN c = true) : PS X (.Raise (some (.Call (.Name c p) [] [] p1)) none pos) (rdS X.K X.mg E Γ (.raise c)) := x_raise cx.calm o (mem_by hL) hg (okN1 ho)
theorem h_nil {L : List Str} : HdsL X L [] [] := .nil
theorem h_cons {L : List Str} {c m : Str} {np pos' p1 p2 : Pos} {j : Nat} {hds : List ExceptHandler} {hs : List (Str × D)} (hL : L.contains c = true) (hg : Gl X c) (ho : okN c = true) (hm : PyData.strOk m = true) (r : HdsL X L hds hs) :
    HdsL X L (.ExceptHandler (some (.Name c np)) none [.Return (some (.Constant (.str m) j p2)) p1] pos' :: hds) ((c, .str m) :: hs) := .cons (mem_by hL) hg (okN1 ho) hm r
end
section
variable {P : Program} {w : World} {K : PySem.W.Frag} {mg : Str → Option Value} {base : Heap}
theorem good_defX {x : Str} {params : Arguments} {body : List Stmt} {scope : Scope} {f : Addr} {fd : FuncData} {k : Nat} {Γ : List FnSem} {fn : Fn} {L : List Str} (N ps : List Str) (hB : Blt mg) (hX : XC K mg L) (F : FunD K x x params body scope [] [] f fd) (gm : mg x = some (.ref f)) (S : fnScB N ps scope = true)
    (hb : ∀ (kV doc pm : Value) (an : Option Addr) (cdv ct : Value) (us : List Value), us.length = ps.length → bindArgs (PySem.W.fnOf x x params body scope .none kV doc pm an cdv ct) ⟨us, []⟩ = pure (ps.zip us))
    (hnp : fn.np = ps.length) (hnl : fn.nl = N.length)
    (hbody : ∀ (cdv : Value) (A : Around) (outer : List PySem.Env) (s : Shared) (H : Hp) (E : XK), Cxt (cxOf (L2.CX P w) P w K mg base N x scope f cdv A outer s H E) k E → OwnX (cxOf (L2.CX P w) P w K mg base N x scope f cdv A outer s H E) E L →
      PSs (cxOf (L2.CX P w) P w K mg base N x scope f cdv A outer s H E) body (rdSs (cxOf (L2.CX P w) P w K mg base N x scope f cdv A outer s H E).K (cxOf (L2.CX P w) P w K mg base N x scope f cdv A outer s H E).mg E Γ fn.body)) : FnGood P w K mg base (k + 1) x (run Γ fn) :=
  good_of F (fnSc_of S).1 gm (F.bindsN hb) hnp hnl (fnSc_of S).2 fun cdv A outer s H E hr => hbody cdv A outer s H E (cxt_of hB (fnSc_of S).1 hr) ⟨passes_of rfl, takes_of rfl rfl rfl rfl, rfl, rfl, hX⟩
theorem takes0 {X : Cx} : Takes X (fun cls d _ H => E0 cls d H) := fun u s' ⟨_, _, _, _, _, _, _, _, _, _, _, _, _, _, _, _, z⟩ => z.elim
theorem law_ofX {params : Arguments} {body rest : List Stmt} {scope : Scope} {f : Addr} {fd : FuncData} {k n i1 : Nat} {Γ : List FnSem} {B : List S} {L : List Str} {p1 p2 p3 : Pos} (N : List Str) (hB : Blt mg) (hX : XC K mg L) (F : FunD K "law" "law" params body scope [] [] f fd) (S : fnScB N ["script"] scope = true)
    (hb : body = .Assign [.Name "state" p1] (.List [] p2) p3 :: rest) (hi : N[i1]? = some "state") (h0 : decide (0 < i1) = true) (hloc : locB scope "state" = true)
    (hbody : ∀ (cdv : Value) (A : Around) (outer : List PySem.Env) (s : Shared) (H : Hp) (E : XK), Cxt (cxOf CX0 P w K mg base N "law" scope f cdv A outer s H E) k E0 → OwnX (cxOf CX0 P w K mg base N "law" scope f cdv A outer s H E) E0 L →
      PSs (cxOf CX0 P w K mg base N "law" scope f cdv A outer s H E) rest (rdSs (cxOf CX0 P w K mg base N "law" scope f cdv A outer s H E).K (cxOf CX0 P w K mg base N "law" scope f cdv A outer s H E).mg E0 Γ B))
    (hrun : ∀ ns : List Int, ns.length ≤ n → ∃ e st', exs Γ B (lawEnv N.length i1 ns) [] = some (.ok (.rt (.bool true), e), st')) : FnOk P w K mg base CX0 (k + 1) f fd ["script"] (spLaw K n) :=
  law_of N hB F S hb hi h0 hloc (fun cdv A outer s H E c o => hbody cdv A outer s H E c ⟨o, takes0, rfl, rfl, hX⟩) hrun
end
end TK

/-! the reflected layer, 20: dicts -/
namespace TK
open PySem PySem.Spec PyProof.Rows L2
theorem _root_.L2.PSet.or {X : Cx} {t t' : L2.TSet} (h : PSet X t) (h' : PSet X t') : PSet X (fun o i v H Q => t o i v H Q ∨ t' o i v H Q) :=
  fun pins s σ H o i v ov iv u Q I a b c q => q.elim (h pins s σ H o i v ov iv u Q I a b c) (h' pins s σ H o i v ov iv u Q I a b c)
section
variable {w : Dr} {G : Hp}
theorem RpKV.any (k : Key) : ∀ {kvs : List (Key × V)} {l : List (D × D)}, RpKV w G kvs l → (l.any fun p => PyData.eqv p.1 (keyD k)) = kvs.any fun kv => decide (kv.1 = k)
  | _, _, .nil => rfl
  | _, _, .cons _ _ hr => by rw [List.any_cons, List.any_cons, RpKV.any k hr]; simp only [eqv_key]
theorem RpKV.upds {k : Key} {v : V} {d : D} (hv : Rp w G v d) : ∀ {kvs : List (Key × V)} {l : List (D × D)}, RpKV w G kvs l → RpKV w G (kvs.map fun kv => if kv.1 = k then (kv.1, v) else kv) (l.map fun p => if PyData.eqv p.1 (keyD k) = true then (p.1, d) else p)
  | _, _, .nil => .nil
  | _, _, .cons (k := k') hs hv' hr => by
    rw [List.map_cons, List.map_cons]
    simp only [eqv_key, decide_eq_true_eq]
    by_cases e : k' = k
    · rw [if_pos e, if_pos e]
      have := RpKV.upds (k := k) hv hr
      exact .cons hs hv this
    · rw [if_neg e, if_neg e]
      have := RpKV.upds (k := k) hv hr
      exact .cons hs hv' this
theorem RpKV.snoc {k : Key} {v : V} {d : D} (hk : keyS k = true) (hv : Rp w G v d) : ∀ {kvs : List (Key × V)} {l : List (D × D)}, RpKV w G kvs l → RpKV w G (kvs ++ [(k, v)]) (l ++ [(keyD k, d)])
  | _, _, .nil => .cons hk hv .nil
  | _, _, .cons hs hv' hr => .cons hs hv' (RpKV.snoc hk hv hr)
theorem RpKV.put {k : Key} {v : V} {d : D} (hk : keyS k = true) (hv : Rp w G v d) {kvs : List (Key × V)} {l : List (D × D)} (h : RpKV w G kvs l) : RpKV w G (putK kvs k v) (putD l (keyD k) d) := by
  unfold putK putD
  rw [h.any k]
  split
  · exact h.upds hv
  · exact h.snoc hk hv
theorem RpKT.any (k : List Key) : ∀ {kvs : List (List Key × V)} {l : List (D × D)}, RpKT w G kvs l → (l.any fun p => PyData.eqv p.1 (.tuple (k.map keyD))) = kvs.any fun kv => decide (kv.1 = k)
  | _, _, .nil => rfl
  | _, _, .cons _ _ hr => by rw [List.any_cons, List.any_cons, RpKT.any k hr]; simp only [eqv_keyT]
theorem RpKT.upds {k : List Key} {v : V} {d : D} (hv : Rp w G v d) : ∀ {kvs : List (List Key × V)} {l : List (D × D)}, RpKT w G kvs l → RpKT w G (kvs.map fun kv => if kv.1 = k then (kv.1, v) else kv) (l.map fun p => if PyData.eqv p.1 (.tuple (k.map keyD)) = true then (p.1, d) else p)
  | _, _, .nil => .nil
  | _, _, .cons (k := k') hs hv' hr => by
    rw [List.map_cons, List.map_cons]
    simp only [eqv_keyT, decide_eq_true_eq]
    by_cases e : k' = k
    · rw [if_pos e, if_pos e]
      have := RpKT.upds (k := k) hv hr
      exact .cons hs hv this
    · rw [if_neg e, if_neg e]
      have := RpKT.upds (k := k) hv hr
      exact .cons hs hv' this
theorem RpKT.snoc {k : List Key} {v : V} {d : D} (hk : k.all keyS = true) (hv : Rp w G v d) : ∀ {kvs : List (List Key × V)} {l : List (D × D)}, RpKT w G kvs l → RpKT w G (kvs ++ [(k, v)]) (l ++ [(.tuple (k.map keyD), d)])
  | _, _, .nil => .cons hk hv .nil
  | _, _, .cons hs hv' hr => .cons hs hv' (RpKT.snoc hk hv hr)
theorem RpKT.put {k : List Key} {v : V} {d : D} (hk : k.all keyS = true) (hv : Rp w G v d) {kvs : List (List Key × V)} {l : List (D × D)} (h : RpKT w G kvs l) : RpKT w G (putK kvs k v) (putD l (.tuple (k.map keyD)) d) := by
  unfold putK putD
  rw [h.any k]
  split
  · exact h.upds hv
  · exact h.snoc hk hv
theorem RpKT.length : ∀ {kvs : List (List Key × V)} {l : List (D × D)}, RpKT w G kvs l → kvs.length = l.length
  | _, _, .nil => rfl
  | _, _, .cons _ _ h => by rw [List.length_cons, List.length_cons, RpKT.length h]
end
section
variable {X : Cx} {E : XK} {Γ : List FnSem} {k : Nat} {pos apos cpos : Pos}
/-- {} -/
theorem f_dnew {t : Bool} : PE X (.Dict [] [] pos) (rdF X.K X.mg E Γ true (.dict t [] [])) := by
  cases t with
  | false =>
    refine pe_dnewK.weak fun σ H Q q => ?_
    obtain ⟨w, O0, H0, O, env, st, r, st', R, q, hB, o⟩ := q
    obtain ⟨rfl, rfl⟩ := pure_inv (a := (.dict [] : D)) q
    exact fun p hp => o _ (R.post_new hp) p hp (.dK upd_same .nil)
  | true =>
    refine pe_dnewT.weak fun σ H Q q => ?_
    obtain ⟨w, O0, H0, O, env, st, r, st', R, q, hB, o⟩ := q
    obtain ⟨rfl, rfl⟩ := pure_inv (a := (mkD true [] : D)) q
    exact fun p hp => o _ (R.post_new hp) p hp (.dT upd_same .nil)
/-- d[k] = v, l[i] = v -/
theorem x_store {x : Str} {i : Nat} {e ix : Expr} {A B : TK.E} {p0 tpos : Pos} (hr : Room k X.A) (hN : X.N[i]? = some x) (hv : Vis X.env.scope x) (hd : (x == ("__debug__" : Str)) = false) (hcd : (x == ("__classdict__" : Str)) = false) (he : PE X e (rd X.K X.mg E Γ A)) (hi : PE X ix (rd X.K X.mg E Γ B))
    (ha : ∀ v, assign (.Subscript (.Name x p0) ix tpos) X.env v = (do
      let ov ← holding [v] (eval (.Name x p0) X.env)
      let iv ← holding [v, ov] (eval ix X.env)
      standAt tpos
      holding [v, ov, iv] (setItem ov iv v)
      release [v, ov, iv] []))
    (hs : swapsWithSole [.Subscript (.Name x p0) ix tpos] e pos.line X.env = pure false) (hw : swappedStores [.Subscript (.Name x p0) ix tpos] e X.env = pure none) (h1 : (assignEach [.Subscript (.Name x p0) ix tpos] X.env).map (·.2) = [assign (.Subscript (.Name x p0) ix tpos) X.env]) :
    PS X (.Assign [.Subscript (.Name x p0) ix tpos] e pos) (rdS X.K X.mg E Γ (.store i B A)) := by
  refine (ps_asg he (pg_sub (pe_var hN hv hd hcd) hi (set_list.or (set_dict (hu_of hr))) ha) hs hw h1).weak fun D σ H q => ?_
  obtain ⟨w, O0, H0, O, env, st, r, st', R, q, o⟩ := q
  have q : (match (frz env (esc A))[i]? with
    | some (.own o) => ev Γ (frz env (esc A)) A >>= fun d => ev Γ (frz env (esc A)) B >>= fun kd => liftO (storeD o kd d) >>= fun o1 => (pure (.nx, (frz env (esc A)).set i (.own o1)) : M (Fl × Env))
    | _ => fail) st = some (r, st') := q
  obtain ⟨O1, R1⟩ := R.frz (esc A)
  generalize frz env (esc A) = env1 at q R1
  obtain ⟨ob, hob, q⟩ : ∃ ob, env1[i]? = some (Slot.own ob) ∧ (ev Γ env1 A >>= fun d => ev Γ env1 B >>= fun kd => liftO (storeD ob kd d) >>= fun o1 => (pure (.nx, env1.set i (.own o1)) : M (Fl × Env))) st = some (r, st') := by
    cases hob : env1[i]? with
    | none => rw [hob] at q; cases q
    | some s =>
      rw [hob] at q
      cases s with
      | own ob => exact ⟨ob, rfl, q⟩
      | _ => cases q
  · obtain ⟨p, e1, e2, e3, e4⟩ := R1.own i _ hob
    rcases bind_inv q with ⟨c, g1, rfl⟩ | ⟨d, st1, g1, g2⟩
    · exact ⟨w, O0, H0, O1, env1, st, _, _, R1, g1, o.err R1⟩
    · refine ⟨w, O0, H0, O1, env1, st, .ok d, st1, R1, g1, fun H1 p1 v rv => ?_⟩
      have R2 := R1.post p1
      refine ⟨_, e1, ?_⟩
      rcases bind_inv g2 with ⟨c, g3, rfl⟩ | ⟨kd, st2, g3, g4⟩
      · exact ⟨w, O0, H0, O1, env1, st1, _, _, R2, g3, o.err R2⟩
      · refine ⟨w, O0, H0, O1, env1, st1, .ok kd, st2, R2, g3, fun H2 p2 kv rk => ?_⟩
        have R3 := R2.post p2
        have e5 := e4.ext (p1.trans p2).1 e2 (R1.psne e3)
        have rv := rv.mono p2.1.le
        rcases bind_inv g4 with ⟨c, g5, rfl⟩ | ⟨o1, st3, g5, g6⟩
        · obtain ⟨_, _, z, _⟩ := liftO_inv g5; cases z
        obtain ⟨_, hst, z, rfl⟩ := liftO_inv g5
        cases z
        obtain ⟨rfl, rfl⟩ := pure_inv g6
        cases e5 with
        | @lst xs ds a b =>
          cases kd with
          | int j =>
            simp only [storeD, Option.map_eq_some_iff] at hst
            obtain ⟨jj, h2, rfl⟩ := hst
            cases rk
            refine .inl ⟨p, xs, j, jj, rfl, rfl, a, by rw [b.length]; exact h2, o _ _ _ (R3.writeOwn hob e1 fun le => .lst upd_same ((b.set rv jj).mono le))⟩
          | _ => cases hst
        | @dK kvs l a b =>
          simp only [storeD, b.dictV, Option.bind_some] at hst
          split at hst
          · rename_i hc
            rw [Bool.and_eq_true, decide_eq_true_eq] at hc
            cases hst
            have kb : KeyB H2 false kv kd := Bp.key (w := w) (O := O1) (.inl rk) hc.1
            cases kb with
            | k kk hs => exact .inr ⟨p, _, rfl, .inl ⟨kvs, kk, a, rfl, by rw [b.length]; exact hc.2, rfl⟩, o _ _ _ (R3.writeOwn hob e1 fun le => .dK upd_same ((b.put hs rv).mono le))⟩
          · cases hst
        | @dT kvs l a b =>
          have hst : (if keyFor true kd && decide (l.length < lim) then some (mkD true (putD l kd d)) else none) = some o1 := hst
          split at hst
          · rename_i hc
            rw [Bool.and_eq_true, decide_eq_true_eq] at hc
            cases hst
            have kb : KeyB H2 true kv kd := Bp.key (w := w) (O := O1) (.inl rk) hc.1
            cases kb with
            | t ks hs hb => exact .inr ⟨p, _, rfl, .inr ⟨kvs, ks, _, a, rfl, hb, by rw [b.length]; exact hc.2, rfl⟩, o _ _ _ (R3.writeOwn hob e1 fun le => .dT upd_same ((b.put hs rv).mono le))⟩
          · cases hst
/-- d.get(k) -/
theorem isD_of {w : Dr} {O : Addr → Bool} {H : Hp} {v : V} {l : List (D × D)} {t : Bool} {l' : List (D × D)} (h : Bp w O H v (.dict l)) (e : dictV (.dict l) = some (t, l')) : ∃ a, v = .ref a ∧ IsD H a := by
  obtain ⟨a, rfl, hd⟩ := h.dict e
  cases hd with
  | k h1 _ => exact ⟨a, rfl, .inl ⟨_, h1⟩⟩
  | t h1 _ => exact ⟨a, rfl, .inr ⟨_, h1⟩⟩
theorem look_dict {d e : D} {o : Option D} (h : lookD d e = some o) : ∃ t l, dictV d = some (t, l) := by
  unfold lookD at h
  rw [Option.bind_eq_some_iff] at h
  obtain ⟨⟨t, l⟩, h1, _⟩ := h
  exact ⟨t, l, h1⟩
theorem m1_of {o : Expr} {m : Str} {e : Expr} (hbase : attributeBase o m X.env (eval o X.env) = eval o X.env) (hline : (apos.endLine == cpos.line) = true) (hs : notStar e = true) : M1 X o m apos e cpos := by
  refine ⟨hbase, ?_, hline, ?_⟩
  · rw [star_ok hs]; rfl
  · rw [star_ok hs]; rfl
theorem m2_of {o : Expr} {m : Str} {e f : Expr} (hbase : attributeBase o m X.env (eval o X.env) = eval o X.env) (hline : (apos.endLine == cpos.line) = true) (hs : notStar e = true) (hs' : notStar f = true) : M2 X o m apos e f cpos := by
  refine ⟨hbase, ?_, hline, ?_⟩
  · rw [star_ok hs, star_ok hs']; rfl
  · rw [star_ok hs, star_ok hs']; rfl
theorem get_rd {A B : TK.E} {dflt : D} {vd : V} (hdf : ∀ w G, Rp w G vd dflt) {σ : L2.St} {H : Hp} {Q : VK} (q : rd X.K X.mg E Γ (.get A B dflt) σ H Q) :
    rdB X.K X.mg E Γ A σ H fun x H1 => ∃ a, x = .ref a ∧ IsD H1 a ∧ rdB X.K X.mg E Γ B σ H1 fun y H2 => ∃ o, DGet H2 a y o ∧ Q (o.getD vd) H2 := by
  obtain ⟨w, O0, H0, O, env, st, r, st', R, q, o⟩ := q
  refine rdB_bind R (f := fun x => if (dictV x).isSome then (orB env B (ev Γ env B) >>= fun y => liftO (lookD x y) >>= fun o => (pure (o.getD dflt) : M D)) else fail) q o fun d st1 v H1 R1 p1 bv h1 o1 => ?_
  split at h1
  · rename_i hd
    cases d with
    | dict l =>
      obtain ⟨⟨t, l'⟩, hd⟩ := Option.isSome_iff_exists.mp hd
      obtain ⟨a, rfl, isd⟩ := isD_of bv hd
      refine ⟨a, rfl, isd, ?_⟩
      refine rdB_bind R1 h1 o1 fun kd st2 kv H2 R2 p2 bk h2 o2 => ?_
      rcases bind_inv h2 with ⟨c, g3, rfl⟩ | ⟨ov, st3, g3, g4⟩
      · obtain ⟨_, _, z, _⟩ := liftO_inv g3; cases z
      obtain ⟨_, hl, z, rfl⟩ := liftO_inv g3
      cases z
      obtain ⟨rfl, rfl⟩ := pure_inv g4
      obtain ⟨a', o', e1, g, z⟩ := look_of (bv.ext p2.1) bk hl
      cases e1
      refine ⟨o', g, ?_⟩
      rcases z with ⟨rfl, rfl⟩ | ⟨x, y, rfl, rfl, rp⟩
      · exact o2 H2 R2.here _ (hdf _ _)
      · exact o2 H2 R2.here _ rp
    | _ => cases hd
  · cases h1
theorem e_get1 {a b : Expr} {A B : TK.E} (c : Cxt X k E) (hbase : attributeBase a "get" X.env (eval a X.env) = eval a X.env) (hline : (apos.endLine == cpos.line) = true) (hs : notStar b = true) (ha : PE X a (rdB X.K X.mg E Γ A)) (hb : PE X b (rdB X.K X.mg E Γ B)) :
    PE X (.Call (.Attribute a "get" apos) [b] [] cpos) (rd X.K X.mg E Γ (.get A B .none)) :=
  (pe_dget1 (hu_of c.room) ha hb (m1_of hbase hline hs)).weak fun _ _ _ q => get_rd (fun _ _ => .non) q
theorem e_get2 {a b : Expr} {A B : TK.E} {n : Int} {j : Nat} {p : Pos} (c : Cxt X k E) (hbase : attributeBase a "get" X.env (eval a X.env) = eval a X.env) (hline : (apos.endLine == cpos.line) = true) (hs : notStar b = true) (ha : PE X a (rdB X.K X.mg E Γ A)) (hb : PE X b (rdB X.K X.mg E Γ B)) :
    PE X (.Call (.Attribute a "get" apos) [b, .Constant (.int n) j p] [] cpos) (rd X.K X.mg E Γ (.get A B (.int n))) :=
  (pe_dget2 (hu_of c.room) ha hb pe_int (m2_of hbase hline hs rfl)).weak fun _ _ _ q => get_rd (vd := .int n) (fun _ _ => .int n) q
theorem y_store {x : Str} {i : Nat} {e ix : Expr} {A B : TK.E} {p0 tpos : Pos} (c : Cxt X k E) (hN : X.N[i]? = some x) (hv : visB X.env.scope x = true) (ho : okN x = true)
    (ha : ∀ v, assign (.Subscript (.Name x p0) ix tpos) X.env v = (do
      let ov ← holding [v] (eval (.Name x p0) X.env)
      let iv ← holding [v, ov] (eval ix X.env)
      standAt tpos
      holding [v, ov, iv] (setItem ov iv v)
      release [v, ov, iv] []))
    (hs : swapsWithSole [.Subscript (.Name x p0) ix tpos] e pos.line X.env = pure false) (hw : swappedStores [.Subscript (.Name x p0) ix tpos] e X.env = pure none) (h1 : (assignEach [.Subscript (.Name x p0) ix tpos] X.env).map (·.2) = [assign (.Subscript (.Name x p0) ix tpos) X.env])
    (hi : PE X ix (rd X.K X.mg E Γ B)) (he : PE X e (rd X.K X.mg E Γ A)) : PS X (.Assign [.Subscript (.Name x p0) ix tpos] e pos) (rdS X.K X.mg E Γ (.store i B A)) := x_store c.room hN (vis_of hv) (okN1 ho) (okN2 ho) he hi ha hs hw h1
end
end TK

/-! the reflected layer, 21: comprehensions with two clauses -/
namespace TK
open PySem PySem.Spec PyProof.Rows L2
mutual
theorem asgT_own {i : Nat} {x : D} : ∀ {tg : Tg} {d : D} {e e1 : Env}, asgT tg d e = some e1 → e1[i]? = some (Slot.own x) → i ∉ slotsT tg ∧ e[i]? = some (Slot.own x)
  | .n j, d, e, e1, h, h1 => by
    simp only [asgT] at h
    split at h
    · rename_i hj
      cases h
      by_cases ej : j = i
      · subst ej
        rw [List.getElem?_set_self hj] at h1
        cases h1
      · rw [List.getElem?_set_ne ej] at h1
        exact ⟨by simp [slotsT]; omega, h1⟩
    · cases h
  | .t ts, .tuple l, e, e1, h, h1 => asgTs_own (show asgTs ts l e = some e1 from h) h1
  | .t ts, .none, e, e1, h, _ => by cases h
  | .t ts, .bool _, e, e1, h, _ => by cases h
  | .t ts, .int _, e, e1, h, _ => by cases h
  | .t ts, .str _, e, e1, h, _ => by cases h
  | .t ts, .list _, e, e1, h, _ => by simp [asgT] at h
  | .t ts, .dict _, e, e1, h, _ => by cases h
theorem asgTs_own {i : Nat} {x : D} : ∀ {ts : List Tg} {ds : List D} {e e1 : Env}, asgTs ts ds e = some e1 → e1[i]? = some (Slot.own x) → i ∉ slotsTs ts ∧ e[i]? = some (Slot.own x)
  | [], [], e, e1, h, h1 => by
    cases h
    exact ⟨by simp [slotsTs], h1⟩
  | [], _ :: _, e, e1, h, _ => by cases h
  | _ :: _, [], e, e1, h, _ => by cases h
  | t :: ts, d :: ds, e, e1, h, h1 => by
    simp only [asgTs, Option.bind_eq_some_iff] at h
    obtain ⟨e2, h2, h3⟩ := h
    obtain ⟨a1, a2⟩ := asgTs_own h3 h1
    obtain ⟨b1, b2⟩ := asgT_own h2 a2
    exact ⟨by simp [slotsTs]; exact ⟨b1, a1⟩, b2⟩
end
theorem wipeE_own {i : Nat} {x : D} {e : Env} : ∀ {vs : List Nat}, (wipeE e vs)[i]? = some (Slot.own x) → i ∉ vs ∧ e[i]? = some (Slot.own x)
  | [], h => ⟨by simp, h⟩
  | v :: vs, h => by
    have h : ((wipeE e vs).set v .no)[i]? = some (Slot.own x) := h
    by_cases ev : v = i
    · subst ev
      have hlt : v < (wipeE e vs).length := by
        have := (List.getElem?_eq_some_iff.mp h).1
        rw [List.length_set] at this
        exact this
      rw [List.getElem?_set_self hlt] at h
      cases h
    · rw [List.getElem?_set_ne ev] at h
      obtain ⟨h1, h2⟩ := wipeE_own (vs := vs) h
      exact ⟨by simp; exact ⟨fun q => ev q.symm, h1⟩, h2⟩
theorem flatD_app (a b : List D) : flatD (a ++ b) = flatD a ++ flatD b := by simp [flatD]
theorem flatD_cons (l : List D) (r : List D) : flatD (.list l :: r) = l ++ flatD r := by simp [flatD, listOf]
section
variable {X : Cx} {E : XK} {Γ : List FnSem} {k : Nat} {pos : Pos}
theorem tlc2_of {K : PySem.W.Frag} {mg : Str → Option Value} {own own1 : List Nat} {tgt tgt1 : Tg} {ik ik1 : IK} {src src1 conds : List TK.E} {T : TK.E} (hsl : ∀ i ∈ slotsT tgt, i ∈ own) (hsl1 : ∀ i ∈ slotsT tgt1, i ∈ own1) :
    ∀ σ H Q, rdN K mg E Γ (.comp2 own tgt ik src own1 tgt1 ik1 src1 conds T) σ H Q → tLc2 (rdI K mg E Γ true ik src) (rdG K tgt) (rdC K mg E0 Γ []) (rdI K mg E0 Γ false ik1 src1) (rdG K tgt1) (rdC K mg E0 Γ conds) (rd K mg E0 Γ T) (own ++ own1) own1 σ H Q := by
  intro σ H Q q
  obtain ⟨w, O0, H0, O, env, st, rr, st', R, q, _, oo⟩ := q
  generalize hvs : own ++ own1 = vs at *
  let f1 : Env → D → M (Option D) := fun env1 d1 => liftO (asgT tgt1 d1 (wipeE env1 own1)) >>= fun env2 => evc Γ env2 conds >>= fun b => if b then ev Γ env2 T >>= fun x => pure (some x) else pure none
  let f : D → M (Option D) := fun d => liftO (asgT tgt d (wipeE env vs)) >>= fun env1 => evs Γ env1 src1 >>= fun ds1 => liftO (walkL ik1 ds1) >>= fun items1 => compL (f1 env1) items1 >>= fun out => pure (some (.list out))
  have q : ((evsB Γ env src >>= fun ds => liftO (walkL ik ds)) >>= fun items => noX (compL f items) >>= fun out => if (flatD out).length ≤ lim then (pure (.list (flatD out)) : M D) else fail) st = some (rr, st') := by
    rw [bind_assoc']
    have q' := q
    subst hvs
    exact q'
  rcases bind_inv q with ⟨c, h1, rfl⟩ | ⟨items, st1, h1, h2⟩
  · exact ⟨w, O0, H0, O, env, st, .error c, _, R, h1, oo⟩
  · refine ⟨w, O0, H0, O, env, st, .ok items, st1, R, h1, fun H1 p1 J hJ hlen => ?_⟩
    obtain ⟨objs, Y, hat, wk, yok, kinds⟩ := hJ
    have R1 := R.post p1
    have o1 := oo.later p1
    rcases bind_inv h2 with ⟨c, h3, rfl⟩ | ⟨out, st2, h3, h4⟩
    · obtain ⟨a, z, _⟩ := noX_inv h3
      cases z
    · obtain ⟨_, z, h5⟩ := noX_inv h3
      cases z
      split at h4
      · rename_i hfl
        obtain ⟨rfl, rfl⟩ := pure_inv h4
        intro D0 hD
        have neD : ∀ p ∈ objs, p.1 ≠ D0 := fun p hp e => by
          have := hat p hp
          rw [e, hD] at this; cases this
        have RD := (R1.wipe vs).hide (o := .lst []) hD
        have leD : Le (hid H1 O) (hid (upd H1 D0 (.lst [])) (addO O D0)) := fun a u e => by
          obtain ⟨e1, e2⟩ := hid_some e
          have ne : a ≠ D0 := ne_of_none e2 hD
          exact ⟨u, by rw [hid_of (by rw [addO_ne ne]; exact e1), upd_ne ne]; exact e2, .refl u⟩
        have oD : O D0 = false := R1.free hD
        have o0D : O0 D0 = false := by
          cases z : O0 D0 with
          | false => rfl
          | true => rw [R1.sub D0 z] at oD; cases oD
        have own0 : ∀ (j : Nat) (e : D), (wipeE env vs)[j]? = some (Slot.own e) → (L2.wipe σ vs)[j]? ≠ some (some (.ref D0)) := fun j e hj z => by
          obtain ⟨p, e1, e2, _⟩ := (R1.wipe vs).own j e hj
          rw [z] at e1
          cases e1
          rw [oD] at e2
          cases e2
        let Pv : Nat → Hp → Prop := fun i Hi => ∃ (sti : DSt) (acc : List V) (outi rest : List D), Rel K w O0 H0 (addO O D0) (L2.wipe σ vs) Hi (wipeE env vs) sti ∧ Hi D0 = some (.lst acc) ∧ RpAll w (hid Hi (addO O D0)) acc outi ∧
          compL f (items.drop i) sti = some (.ok rest, st') ∧ flatD out = outi ++ flatD rest ∧ Ext (addO O D0) w.ps (upd H1 D0 (.lst [])) (upd Hi D0 (.lst [])) ∧ Le (hid H1 O) (hid Hi (addO O D0))
        refine ⟨fun i m Hi => m = items.length - i ∧ i ≤ items.length ∧ Pv i Hi, ⟨_, rfl, Nat.zero_le _, _, [], [], out, RD, upd_same, .nil, h5, rfl, by rw [upd_upd]; exact Ext.refl, leD⟩, ?_⟩
        rintro i m Hi ⟨rfl, hi, sti, acc, outi, rest, Ri, hDi, rpi, hcomp, hout, ex, le⟩
        have at' : AtO objs Hi ∧ SqL K Hi w.sa (w.ns.map V.int) := by
          refine ⟨fun p hp => ?_, hid_le.sqL Ri.scr⟩
          have h6 := hat p hp
          have ne := neD p hp
          have h7 : (upd H1 D0 (.lst [])) p.1 = some p.2 := by rw [upd_ne ne]; exact h6
          have h8 : ∃ o', (upd Hi D0 (.lst [])) p.1 = some o' ∧ Kp p.2 o' := by
            cases z : addO O D0 p.1 with
            | false => exact ex.rd p.1 p.2 z h7
            | true => exact ⟨p.2, ex.own p.1 p.2 z (kinds p hp).1 h7, .refl _⟩
          obtain ⟨o', h9, kk⟩ := h8
          rw [upd_ne ne] at h9
          rcases (kinds p hp).2.2 with ⟨xs, e⟩ | ⟨xs, e⟩ | ⟨od, u, e, _⟩
          · rw [e] at kk ⊢
            rw [h9, kk.lst]
          · rw [e] at kk ⊢
            rw [h9, kk.tup]
          · rw [e] at kk ⊢
            rw [h9, kk.frz]
        by_cases hlt : i < items.length
        · right
          refine ⟨wk.goes i Hi hlt at', Pv (i + 1), fun H' p' => ⟨items.length - (i + 1), by omega, rfl, hlt, p'⟩, fun x Hj y => ?_⟩
          obtain ⟨alloc, d, hd, rp⟩ := yok i Hi x Hj _ hlt (wk.yields i Hi x Hj hlt at' y) le Ri.alc
          have hdrop : items.drop i = d :: items.drop (i + 1) := List.drop_eq_getElem?_toList_append.trans (by rw [hd]; rfl)
          rw [hdrop] at hcomp
          obtain ⟨o, st3, rest', g1, g2, g3⟩ := compL_cons hcomp
          have Pj : Post (addO O D0) w.ps Hi sti Hj := Ri.postN alloc
          have Rj := Ri.post Pj
          have g1 : (liftO (asgT tgt d (wipeE env vs)) >>= fun env1 => evs Γ env1 src1 >>= fun ds1 => liftO (walkL ik1 ds1) >>= fun items1 => compL (f1 env1) items1 >>= fun out => (pure (some (.list out)) : M (Option D))) sti = some (.ok o, st3) := g1
          rcases bind_inv g1 with ⟨c, _, z⟩ | ⟨env1, sta, g4, g5⟩
          · cases z
          obtain ⟨_, hasg, z, rfl⟩ := liftO_inv g4
          cases z
          refine ⟨w, O0, H0, _, wipeE env vs, _, d, env1, Rj, rp, hasg, fun σ2 R2 but => ⟨?_, ?_⟩⟩
          · rw [wipe_but but (fun i hi => by rw [← hvs]; exact List.mem_append_left _ (hsl i hi)), wipe_wipe]
          · refine ⟨w, O0, H0, _, env1, _, .ok true, _, R2, rfl, fun H3 p3 => ?_⟩
            dsimp only
            rw [if_pos rfl]
            have R3 := R2.post p3
            have g5 : ((evs Γ env1 src1 >>= fun ds1 => liftO (walkL ik1 ds1)) >>= fun items1 => compL (f1 env1) items1 >>= fun out => (pure (some (.list out)) : M (Option D))) sta = some (.ok o, st3) := by rw [bind_assoc']; exact g5
            rcases bind_inv g5 with ⟨c, _, z⟩ | ⟨items1, stb, g6, g7⟩
            · cases z
            rcases bind_inv g7 with ⟨c, _, z⟩ | ⟨inn, stc, g8, g9⟩
            · cases z
            obtain ⟨z, rfl⟩ := pure_inv g9
            cases z
            refine ⟨w, O0, H0, _, env1, _, .ok items1, stb, R3, g6, fun H4 p4 J1 hJ1 hlen1 => ?_⟩
            obtain ⟨objs1, Y1, hat1, wk1, yok1, kinds1⟩ := hJ1
            have R4 := R3.post p4
            have P4 : Post (addO O D0) w.ps Hi stb H4 := (Pj.trans p3).trans p4
            have own1' : ∀ (j : Nat) (e : D), (wipeE env1 own1)[j]? = some (Slot.own e) → (L2.wipe σ2 own1)[j]? ≠ some (some (.ref D0)) := fun j e hj z => by
              obtain ⟨a1, a2⟩ := wipeE_own hj
              obtain ⟨a3, a4⟩ := asgT_own hasg a2
              rw [wipe_out a1, but.2 j a3] at z
              exact own0 j e a4 z
            have hout2 : flatD out = outi ++ (inn ++ flatD rest') := by rw [hout, g3]; exact congrArg _ (flatD_cons inn rest')
            let Pw : Nat → Hp → Prop := fun j Hx => ∃ (stx : DSt) (accx : List V) (outx restx : List D), Rel K w O0 H0 (addO O D0) (L2.wipe σ vs) Hx (wipeE env vs) stx ∧ Rel K w O0 H0 (addO O D0) (L2.wipe σ2 own1) Hx (wipeE env1 own1) stx ∧ Hx D0 = some (.lst accx) ∧ RpAll w (hid Hx (addO O D0)) accx (outi ++ outx) ∧
              compL (f1 env1) (items1.drop j) stx = some (.ok restx, st3) ∧ inn = outx ++ restx ∧ Ext (addO O D0) w.ps (upd H1 D0 (.lst [])) (upd Hx D0 (.lst [])) ∧ Le (hid H1 O) (hid Hx (addO O D0)) ∧ Le (hid H4 (addO O D0)) (hid Hx (addO O D0))
            refine ⟨fun j m Hx => m = items1.length - j ∧ j ≤ items1.length ∧ Pw j Hx, ⟨_, rfl, Nat.zero_le _, stb, acc, [], inn, Ri.post P4, R4.wipe own1, P4.1.own D0 _ addO_self (R1.ps_ne hD) hDi, by rw [List.append_nil]; exact rpi.mono P4.1.le, g8, rfl, ex.trans (P4.1.upd2 D0 _), le.trans P4.1.le, Le.refl _⟩, ?_⟩
            rintro j m Hx ⟨rfl, hj, stx, accx, outx, restx, RO, RI, hDx, rpx, hcx, hinn, exx, lex, le4⟩
            have atx : AtO objs1 Hx ∧ SqL K Hx w.sa (w.ns.map V.int) := by
              refine ⟨fun p hp => ?_, hid_le.sqL RO.scr⟩
              obtain ⟨_, k2, k3⟩ := kinds1 p hp
              have h6 : hid H4 (addO O D0) p.1 = some p.2 := by rw [hid_of (k2 rfl)]; exact hat1 p hp
              rcases k3 with ⟨xs, e⟩ | ⟨xs, e⟩ | ⟨od, u, e, _⟩
              · rw [e] at h6 ⊢
                exact (hid_some (le4.lst h6)).2
              · rw [e] at h6 ⊢
                exact (hid_some (le4.tup h6)).2
              · rw [e] at h6 ⊢
                exact (hid_some (le4.frz h6)).2
            by_cases hlt1 : j < items1.length
            · right
              refine ⟨wk1.goes j Hx hlt1 atx, Pw (j + 1), fun H' p' => ⟨items1.length - (j + 1), by omega, rfl, hlt1, p'⟩, fun x1 Hy y1 => ?_⟩
              obtain ⟨alloc1, d1, hd1, rp1⟩ := yok1 j Hx x1 Hy _ hlt1 (wk1.yields j Hx x1 Hy hlt1 atx y1) le4 RO.alc
              have hdrop1 : items1.drop j = d1 :: items1.drop (j + 1) := List.drop_eq_getElem?_toList_append.trans (by rw [hd1]; rfl)
              rw [hdrop1] at hcx
              obtain ⟨o5, st5, rest5, a1, a2, a3⟩ := compL_cons hcx
              have Py : Post (addO O D0) w.ps Hx stx Hy := RO.postN alloc1
              have a1 : (liftO (asgT tgt1 d1 (wipeE env1 own1)) >>= fun env2 => evc Γ env2 conds >>= fun b => if b then ev Γ env2 T >>= fun x => pure (some x) else pure none) stx = some (.ok o5, st5) := a1
              rcases bind_inv a1 with ⟨c, _, z⟩ | ⟨env2, std, a4, a5⟩
              · cases z
              obtain ⟨_, hasg1, z, rfl⟩ := liftO_inv a4
              cases z
              rcases bind_inv a5 with ⟨c, _, z⟩ | ⟨b, ste, a6, a7⟩
              · cases z
              refine ⟨w, O0, H0, _, wipeE env1 own1, _, d1, env2, RI.post Py, rp1, hasg1, fun σ3 R5 but1 => ⟨?_, ?_⟩⟩
              · rw [wipe_but but1 hsl1, wipe_wipe]
              · refine ⟨w, O0, H0, _, env2, _, .ok b, ste, R5, a6, fun H6 p6 => ?_⟩
                have R6 := R5.post p6
                have P6 := Py.trans p6
                have nx : ∀ {stn : DSt} {H8 : Hp} {acc' : List V} {out' : List D}, Post (addO O D0) w.ps Hx stn H8 → RpAll w (hid H8 (addO O D0)) acc' (outi ++ out') → compL (f1 env1) (items1.drop (j + 1)) stn = some (.ok rest5, st3) → inn = out' ++ rest5 → Pw (j + 1) (upd H8 D0 (.lst acc')) := fun {stn H8 acc' out'} P8 r8 c8 e8 => by
                  refine ⟨stn, acc', out', rest5, (RO.post P8).write addO_self o0D own0, (RI.post P8).write addO_self o0D own1', upd_same, r8.mono (le_write addO_self), c8, e8, ?_, lex.trans (P8.1.le.trans (le_write addO_self)), le4.trans (P8.1.le.trans (le_write addO_self))⟩
                  rw [upd_upd]
                  exact exx.trans (P8.1.upd2 D0 _)
                cases b with
                | false =>
                  dsimp only
                  rw [if_neg Bool.false_ne_true]
                  obtain ⟨z, rfl⟩ := pure_inv (a := (none : Option D)) a7
                  cases z
                  have hD6 : H6 D0 = some (.lst accx) := P6.1.own D0 _ addO_self (R1.ps_ne hD) hDx
                  have := nx P6 (rpx.mono P6.1.le) a2 (by rw [hinn, a3])
                  rw [upd_id hD6] at this
                  exact this
                | true =>
                  dsimp only
                  rw [if_pos rfl]
                  have a7 : (ev Γ env2 T >>= fun x => (pure (some x) : M (Option D))) ste = some (.ok o5, st5) := a7
                  rcases bind_inv a7 with ⟨c, _, z⟩ | ⟨xd, stf, a8, a9⟩
                  · cases z
                  obtain ⟨z, rfl⟩ := pure_inv a9
                  cases z
                  refine ⟨w, O0, H0, _, env2, ste, .ok xd, _, R6, a8, fun H7 p7 v rv => ?_⟩
                  have P7 := P6.trans p7
                  refine ⟨accx, P7.1.own D0 _ addO_self (R1.ps_ne hD) hDx, ?_, ?_⟩
                  · have e1 := congrArg List.length hout2
                    have e2 := congrArg List.length hinn
                    have e3 := congrArg List.length a3
                    have e4 := rpx.length
                    simp only [List.length_append, List.length_cons] at e1 e2 e3 e4
                    have : (flatD out).length ≤ sizeLine := hfl
                    omega
                  · refine nx (out' := outx ++ [xd]) P7 ?_ a2 (by rw [hinn, a3]; simp)
                    rw [← List.append_assoc]
                    exact (rpx.mono P7.1.le).append (.cons rv .nil)
            · left
              obtain rfl : j = items1.length := by omega
              rw [List.drop_length] at hcx
              cases hcx
              rw [List.append_nil] at hinn
              subst hinn
              exact ⟨wk1.stops Hx atx, _, accx, outi ++ inn, rest', RO, hDx, rpx, g2, by rw [hout2, List.append_assoc], exx, lex⟩
        · left
          obtain rfl : i = items.length := by omega
          rw [List.drop_length] at hcomp
          cases hcomp
          have hout : flatD out = outi := by rw [hout]; exact List.append_nil _
          refine ⟨wk.stops Hi at', ?_⟩
          refine o1 Hi ⟨⟨fun b u z n e => ?_, fun b u z e => ?_⟩, Ri.sts⟩ D0 (R.fresh p1 hD) (.lst hDi (by rw [hout]; exact rpi))
          · have ne : b ≠ D0 := fun y => by rw [y, oD] at z; cases z
            have := ex.own b u (addO_of z) n (by rw [upd_ne ne]; exact e)
            rw [upd_ne ne] at this
            exact this
          · have ne : b ≠ D0 := ne_of_none e hD
            obtain ⟨u', e1, e2⟩ := ex.rd b u (by rw [addO_ne ne]; exact z) (by rw [upd_ne ne]; exact e)
            rw [upd_ne ne] at e1
            exact ⟨u', e1, e2⟩
      · cases h4
theorem comp2_list {own own1 : List Nat} {tgt tgt1 : Tg} {ik ik1 : IK} {src src1 conds : List TK.E} {T : TK.E} : ∀ env st r st', ev Γ env (.comp2 own tgt ik src own1 tgt1 ik1 src1 conds T) st = some (r, st') → ∀ d, r = .ok d → ownB true d = true := by
  intro env st r st' h d hd
  subst hd
  rcases bind_inv h with ⟨c, _, z⟩ | ⟨a, s1, _, h⟩
  · cases z
  rcases bind_inv h with ⟨c, _, z⟩ | ⟨a, s1, _, h⟩
  · cases z
  rcases bind_inv h with ⟨c, _, z⟩ | ⟨a, s1, _, h⟩
  · cases z
  split at h
  · obtain ⟨z, _⟩ := pure_inv h
    cases z
    rfl
  · cases h
theorem own_map2 (own own1 : List (Str × Nat)) : (own ++ own1).map (·.2) = own.map (·.2) ++ own1.map (·.2) := List.map_append
theorem f_comp2 {elt tg iter tg1 iter1 : Expr} {ifs1 : List Expr} {scope : Scope} {tgt tgt1 : Tg} {ik ik1 : IK} {src src1 conds : List TK.E} {T : TK.E} (own own1 : List (Str × Nat)) (c : Cxt X k E) (ok : blkC X.N X.env.scope scope (own ++ own1) = true) (hsl : slotsIn tgt (own.map (·.2)) = true) (hsl1 : slotsIn tgt1 (own1.map (·.2)) = true)
    (hs : ∀ x, foldedSetIterable iter X.env x = pure x) (hs1 : ∀ env x, foldedSetIterable iter1 env x = pure x) (hi : PI X tg iter (rdI X.K X.mg E Γ true ik src))
    (hg : ∀ (s : Shared) (H : Hp) (C : Addr) (cl : List (Str × Addr)) (fp : List Addr), PG (X.blk s H scope (compEnvC scope cl C X.env) fp) tg (rdG X.K tgt))
    (hi1 : ∀ (s : Shared) (H : Hp) (C : Addr) (cl : List (Str × Addr)) (fp : List Addr), PI (X.blk s H scope (compEnvC scope cl C X.env) fp) tg1 iter1 (rdI X.K X.mg E0 Γ false ik1 src1))
    (hg1 : ∀ (s : Shared) (H : Hp) (C : Addr) (cl : List (Str × Addr)) (fp : List Addr), PG (X.blk s H scope (compEnvC scope cl C X.env) fp) tg1 (rdG X.K tgt1))
    (ht1 : ∀ (s : Shared) (H : Hp) (C : Addr) (cl : List (Str × Addr)) (fp : List Addr), PTs (X.blk s H scope (compEnvC scope cl C X.env) fp) ifs1 (rdC X.K X.mg E0 Γ conds))
    (he : ∀ (s : Shared) (H : Hp) (C : Addr) (cl : List (Str × Addr)) (fp : List Addr), PE (X.blk s H scope (compEnvC scope cl C X.env) fp) elt (rd X.K X.mg E0 Γ T)) :
    PE X (.ListComp elt [⟨tg, iter, [], 0⟩, ⟨tg1, iter1, ifs1, 0⟩] scope pos) (rdF X.K X.mg E Γ true (.comp2 (own.map (·.2)) tgt ik src (own1.map (·.2)) tgt1 ik1 src1 conds T)) := by
  have h := pe_lc2 (pos := pos) (ifs := []) (tt := rdC X.K X.mg E0 Γ []) (vs1 := own1.map (·.2)) c.calm c.nd hi (blkOk_by ok) (fun i hi => by rw [own_map2]; exact List.mem_append_right _ hi) hg (fun s H C cl fp => c_nil (X := X.blk s H scope (compEnvC scope cl C X.env) fp) (E := E0) (Γ := Γ)) hi1 hg1 ht1 he hs hs1
  refine h.weak fun σ H Q q => ?_
  rw [own_map2]
  exact tlc2_of (slots_of hsl) (slots_of hsl1) σ H Q q
theorem e_comp2 {elt tg iter tg1 iter1 : Expr} {ifs1 : List Expr} {scope : Scope} {tgt tgt1 : Tg} {ik ik1 : IK} {src src1 conds : List TK.E} {T : TK.E} (own own1 : List (Str × Nat)) (c : Cxt X k E) (ok : blkC X.N X.env.scope scope (own ++ own1) = true) (hsl : slotsIn tgt (own.map (·.2)) = true) (hsl1 : slotsIn tgt1 (own1.map (·.2)) = true)
    (hs : ∀ x, foldedSetIterable iter X.env x = pure x) (hs1 : ∀ env x, foldedSetIterable iter1 env x = pure x) (hi : PI X tg iter (rdI X.K X.mg E Γ true ik src))
    (hg : ∀ (s : Shared) (H : Hp) (C : Addr) (cl : List (Str × Addr)) (fp : List Addr), PG (X.blk s H scope (compEnvC scope cl C X.env) fp) tg (rdG X.K tgt))
    (hi1 : ∀ (s : Shared) (H : Hp) (C : Addr) (cl : List (Str × Addr)) (fp : List Addr), PI (X.blk s H scope (compEnvC scope cl C X.env) fp) tg1 iter1 (rdI X.K X.mg E0 Γ false ik1 src1))
    (hg1 : ∀ (s : Shared) (H : Hp) (C : Addr) (cl : List (Str × Addr)) (fp : List Addr), PG (X.blk s H scope (compEnvC scope cl C X.env) fp) tg1 (rdG X.K tgt1))
    (ht1 : ∀ (s : Shared) (H : Hp) (C : Addr) (cl : List (Str × Addr)) (fp : List Addr), PTs (X.blk s H scope (compEnvC scope cl C X.env) fp) ifs1 (rdC X.K X.mg E0 Γ conds))
    (he : ∀ (s : Shared) (H : Hp) (C : Addr) (cl : List (Str × Addr)) (fp : List Addr), PE (X.blk s H scope (compEnvC scope cl C X.env) fp) elt (rd X.K X.mg E0 Γ T)) :
    PE X (.ListComp elt [⟨tg, iter, [], 0⟩, ⟨tg1, iter1, ifs1, 0⟩] scope pos) (rd X.K X.mg E Γ (.comp2 (own.map (·.2)) tgt ik src (own1.map (·.2)) tgt1 ik1 src1 conds T)) :=
  s_N2V comp2_list (f_comp2 own own1 c ok hsl hsl1 hs hs1 hi hg hi1 hg1 ht1 he)
/-- name = [.. for .. for ..] -/
theorem y_asgLc2 {i : Nat} {y : Str} {py : Pos} {elt tg iter tg1 iter1 : Expr} {ifs1 : List Expr} {scope : Scope} {spos : Pos} {tgt tgt1 : Tg} {ik ik1 : IK} {src src1 conds : List TK.E} {T : TK.E} (own own1 : List (Str × Nat)) (c : Cxt X k E) (hy : X.N[i]? = some y) (hyl : X.env.scope.names.lookup y = some .local)
    (hsw : swapsWith (.ListComp elt [⟨tg, iter, [], 0⟩, ⟨tg1, iter1, ifs1, 0⟩] scope pos) (some (.Name y py)) spos.line X.env = pure true) (ok : blkC X.N X.env.scope scope (own ++ own1) = true) (hsl : slotsIn tgt (own.map (·.2)) = true) (hsl1 : slotsIn tgt1 (own1.map (·.2)) = true)
    (hs : ∀ x, foldedSetIterable iter X.env x = pure x) (hs1 : ∀ env x, foldedSetIterable iter1 env x = pure x) (hi : PI X tg iter (rdI X.K X.mg E Γ true ik src))
    (hg : ∀ (s : Shared) (H : Hp) (C : Addr) (cl : List (Str × Addr)) (fp : List Addr), PG (X.blk s H scope (compEnvC scope cl C X.env) fp) tg (rdG X.K tgt))
    (hi1 : ∀ (s : Shared) (H : Hp) (C : Addr) (cl : List (Str × Addr)) (fp : List Addr), PI (X.blk s H scope (compEnvC scope cl C X.env) fp) tg1 iter1 (rdI X.K X.mg E0 Γ false ik1 src1))
    (hg1 : ∀ (s : Shared) (H : Hp) (C : Addr) (cl : List (Str × Addr)) (fp : List Addr), PG (X.blk s H scope (compEnvC scope cl C X.env) fp) tg1 (rdG X.K tgt1))
    (ht1 : ∀ (s : Shared) (H : Hp) (C : Addr) (cl : List (Str × Addr)) (fp : List Addr), PTs (X.blk s H scope (compEnvC scope cl C X.env) fp) ifs1 (rdC X.K X.mg E0 Γ conds))
    (he : ∀ (s : Shared) (H : Hp) (C : Addr) (cl : List (Str × Addr)) (fp : List Addr), PE (X.blk s H scope (compEnvC scope cl C X.env) fp) elt (rd X.K X.mg E0 Γ T)) :
    PS X (.Assign [.Name y py] (.ListComp elt [⟨tg, iter, [], 0⟩, ⟨tg1, iter1, ifs1, 0⟩] scope pos) spos) (rdS X.K X.mg E Γ (.asg false i (.comp2 (own.map (·.2)) tgt ik src (own1.map (·.2)) tgt1 ik1 src1 conds T))) := by
  have h := ps_setLc2 (ifs := []) (tt := rdC X.K X.mg E0 Γ []) (vs1 := own1.map (·.2)) c.calm c.nd hy hyl hsw hi (blkOk_by ok) (fun i hi => by rw [own_map2]; exact List.mem_append_right _ hi) hg (fun s H C cl fp => c_nil (X := X.blk s H scope (compEnvC scope cl C X.env) fp) (E := E0) (Γ := Γ)) hi1 hg1 ht1 he hs hs1
  refine h.weak (asg_of fun σ H Q q => ?_)
  rw [own_map2]
  refine tlc2_of (slots_of hsl) (slots_of hsl1) σ H Q ?_
  obtain ⟨w, O0, H0, O, env, st, rr, st', R, q, oo⟩ := q
  refine ⟨w, O0, H0, O, env, st, rr, st', R, q, comp2_list _ _ _ _ q, ?_⟩
  cases rr with
  | ok d => exact fun H' p a ha b => oo H' p _ (b.rp (R.free ha))
  | error c => exact oo
end
end TK

/-! the reflected layer, 22: enumerate of a tuple, index, min of two -/
namespace TK
open PySem PySem.Spec PyProof.Rows L2
theorem meets_enum1 {v : Value} {o : Obj} {H : Heap → Prop} (B : Begins v o H) :
    Meets (Builtin.«enumerate.__new__» ⟨[.type "enumerate", v], []⟩) (fun _ R s => H s.heap ∧
      R (.ok (.ret (.ref (s.heap.push o).objs.size))) { s with heap := (s.heap.push o).push { cls := .type "enumerate", data := .fields #[.none, .bool false, .ref s.heap.objs.size, rawInt 0, .none, .none] } }) :=
  .of_wp fun prog w A R s h => by
    obtain ⟨hp, g, d, tk, os⟩ := s; obtain ⟨h1, h⟩ := h
    have hsub := sub_enumerate
    have q1 : ∀ {A' : Around} {E : Value → Shared → Prop} {Q : Value → Shared → Prop}, Q (.ref hp.objs.size) ⟨hp.push o, g, d, tk, os⟩ → wpAny (model prog w) A' (pyIter v) Q E ⟨hp, g, d, tk, os⟩ :=
      fun q => B.iter prog w _ _ ⟨hp, g, d, tk, os⟩ _ h1 q
    wp_walk using q1
    refine wpAny_stack_any fun st => wpAny_pure ?_
    split
    · rename_i c _ _ _ _ _
      cases (c == Value.type "enumerate")
      · wp_walk using q1
        exact ⟨_, rfl, h⟩
      · wp_walk using q1
        exact ⟨_, rfl, h⟩
    · wp_walk using q1
      exact ⟨_, rfl, h⟩
section
variable {prog : Program} {w : World} {A : Around} {E : Value → Shared → Prop} {s : Shared}
theorem call_enum1 {v : Value} {o : Obj} {H : Heap → Prop} {Q : Value → Shared → Prop} (B : Begins v o H) (h1 : H s.heap)
    (h : ∀ h', IsEnum h' (s.heap.objs.size + 1) s.heap.objs.size 0 .none → h'.get? s.heap.objs.size = some o → h'.objs.size = s.heap.objs.size + 2 →
      (∀ b o, s.heap.get? b = some o → h'.get? b = some o) → Q (.ref (s.heap.objs.size + 1)) { s with heap := h' }) :
    wpAny (model prog w) A (call (.type "enumerate") [v]) Q E s := by
  refine callType_new PySem.F.called_enumerate (by decide) (PySem.F.typeCall_enumerate_1 _) (PySem.F.newCall_enumerate_1 _) (fun obj => PySem.F.args_object_init_2 obj _) PySem.F.entry_enumerate_new
    (meets_enum1 B) ⟨h1, ?_⟩
  have hz : (s.heap.push o).objs.size = s.heap.objs.size + 1 := Heap.size_push ..
  show _ ∧ _
  rw [hz]
  have he : IsEnum ((s.heap.push o).push { cls := .type "enumerate", data := .fields #[.none, .bool false, .ref s.heap.objs.size, rawInt 0, .none, .none] }) (s.heap.objs.size + 1) s.heap.objs.size 0 .none := by
    have := Heap.get?_push_size (s.heap.push o) (o := { cls := .type "enumerate", data := .fields #[.none, .bool false, .ref s.heap.objs.size, rawInt 0, .none, .none] }) rfl
    rw [hz] at this; exact this
  refine ⟨⟨_, he, rfl⟩, h _ he (Heap.get?_push_of_some _ (Heap.get?_push_size _ B.free)) (by rw [Heap.size_push, hz]) fun b o x => Heap.get?_push_of_some _ (Heap.get?_push_of_some _ x)⟩
end
/-- enumerate of a tuple -/
def IteT (K : PySem.W.Frag) (a : Addr) : It :=
  ⟨fun i H => ∃ (xs : List V) (x : V), SqT K H a xs ∧ xs[i]? = some x, fun i H v H' => ∃ T x, v = .ref T ∧ H T = none ∧ H' = upd H T (.tup [.int (i : Nat), x]) ∧ ∀ xs, SqT K H a xs → xs[i]? = some x, fun i H => ∃ xs : List V, SqT K H a xs ∧ xs.length = i⟩
theorem isTuple_of {h : Heap} {a : Addr} {items : Array Value} (x : IsTup h a items) : h.IsTuple a items := x
theorem turn_enumT {P : Program} {w : World} {K : PySem.W.Frag} {elts : List Expr} {kk : Nat} {tpos : Pos} (a e it : Addr) (ha : a ≠ it) (hae : a ≠ e) :
    Turn P w K (.Tuple elts kk tpos) (IteT K a) [e, it] e (fun i h => (∃ old, IsEnum h e it ((i : Nat) : Int) old) ∧ h.IsTupleIter it a i ∧ e ≠ it) where
  mem := by simp
  obj := fun i h st b hb => by
    obtain ⟨⟨old, he⟩, ⟨o, ho, hc, hd⟩, _⟩ := st
    have e' : b = e ∨ b = it := by simpa using hb
    rcases e' with z | z
    · rw [z]; exact ⟨_, he, fun v q => nomatch q⟩
    · rw [z]; exact ⟨o, ho, fun v q => by rw [hd] at q; cases q⟩
  keep := fun i h h' st k => by
    obtain ⟨⟨old, he⟩, ⟨o, ho, hc, hd⟩, hne⟩ := st
    exact ⟨⟨old, k e (by simp) _ he⟩, ⟨o, k it (by simp) o ho, hc, hd⟩, hne⟩
  item := by
    intro X hP hw hK hc i pins s σ H E I hf st hg
    subst hP hw hK
    obtain ⟨⟨old, he⟩, hit, hne⟩ := st
    obtain ⟨xs, x, hq, hx⟩ := hg
    obtain ⟨its, rv, p, hz⟩ := I.tuple hq
    obtain ⟨u, hu, ru⟩ := rv.get hx
    have hel : e < s.heap.objs.size := Heap.lt_size he
    have hil : it < s.heap.objs.size := by obtain ⟨_, q, _⟩ := hit; exact Heap.lt_size q
    have hlt : i < its.toArray.size := by
      rw [List.size_toArray]
      exact (List.getElem?_eq_some_iff.mp hu).1
    refine wpAny_pyNext_enum_itemD (Draws.tuple (prog := X.prog) (w := X.w) (A := X.A.in1) (show X.A.in1.handled = none from I.ok.hd hc) it a ha its.toArray) he ⟨hit, p⟩ hlt hne (by simp; exact ⟨hne, fun z => hae z.symm⟩) fun y h' tk hy ho hit' hT hsz hk => ?_
    have ey : y = u := by
      have : its.toArray[i]? = some u := by simpa using hu
      rw [this] at hy
      cases hy; rfl
    subst ey
    refine ⟨_, rfl, wpAny_letOwnedTupleGo_enum (s := { s with heap := h', toks := tk + 1 }) ho fun h'' he' sb => ?_⟩
    have hT2 : h''.get? s.heap.objs.size = some { cls := .type "tuple", data := .seq #[.int i tk, y] } := (sb.2 _ (Nat.ne_of_gt hel)).trans hT
    have new : ObjOk X.prog X.w (upd H s.heap.objs.size (.tup [.int (i : Nat), x])) h'' s.heap.objs.size (.tup [.int (i : Nat), x]) :=
      ⟨by show 2 ≤ sizeLine; decide, [.int i tk, y], .cons ⟨_, rfl⟩ (.cons ru .nil), ⟨_, hT2, rfl, _, rfl⟩⟩
    have I1 : L2.Inv X pins σ (upd H s.heap.objs.size (.tup [.int (i : Nat), x])) { s with heap := h'', toks := tk + 1 } :=
      I.turnedNew (ch := [e, it]) (fun b ob hb q => (sb.2 b (fun z => hb (by simp [z]))).trans (hk b ob (fun z => hb (by simp [z])) (fun z => hb (by simp [z])) q)) hf (Nat.le_refl _) new
    refine ⟨.ref s.heap.objs.size, _, I1, rfl, ⟨_, x, rfl, I.hok.fresh (Nat.le_refl _), rfl, fun ys hy => by rw [I.tuple_inj hy hq]; exact hx⟩, ⟨⟨y, ?_⟩, ?_, hne⟩, fun b hb => ?_⟩
    · have e1 : ((i + 1 : Nat) : Int) = (i : Int) + 1 := by omega
      rw [e1]; exact he'
    · obtain ⟨o, q1, q2, q3⟩ := hit'.1
      exact ⟨o, (sb.2 it (Ne.symm hne)).trans q1, q2, q3⟩
    · have hb' : b < s.heap.objs.size := by
        have e' : b = e ∨ b = it := by simpa using hb
        rcases e' with z | z
        · rw [z]; exact hel
        · rw [z]; exact hil
      rw [upd_ne (Nat.ne_of_lt hb')]
      exact (hf b hb).1
  done := by
    intro X hP hw hK hc i pins s σ H E I hf st hg
    subst hP hw hK
    obtain ⟨⟨old, he⟩, hit, hne⟩ := st
    obtain ⟨xs, hq, hx⟩ := hg
    obtain ⟨its, rv, p, hz⟩ := I.tuple hq
    obtain ⟨f0, f1, f2, f3, f4, f5⟩ := hf it (by simp)
    have hl := rv.length
    have hi : i = its.toArray.size := by rw [List.size_toArray]; omega
    subst hi
    exact wpAny_pyNext_enum_endD (Draws.tuple (prog := X.prog) (w := X.w) (A := X.A.in1) (show X.A.in1.handled = none from I.ok.hd hc) it a ha its.toArray) he ⟨hit, p⟩ fun h' eb => ⟨rfl, I.turned (t' := s.toks) (fun b o hb q => eb b o hb q) f0 f1 f3 f4 f5⟩
  self := fun A i s Q E st h => let ⟨⟨_, he⟩, _⟩ := st; wpAny_pyIter_enum he h
def iEnumT (K : PySem.W.Frag) (ta : TA) : TI := fun σ H R => ta σ H fun vs H1 => ∃ a xs, vs = [.ref a] ∧ SqT K H1 a xs ∧ R (IteT K a) H1
theorem pi_enumT {X : Cx} {e : Expr} {ta : TA} {p pos tpos : Pos} {elts : List Expr} {kk : Nat} (hg : Gl X "enumerate") (hm : X.mg "enumerate" = none) (ha : PA X [e] ta) (hs : starEach [e] X.env = [(false, eval e X.env)]) :
    PI X (.Tuple elts kk tpos) (.Call (.Name "enumerate" p) [e] [] pos) (iEnumT X.K ta) := by
  refine ⟨fun pins s σ H R I h => ?_⟩
  refine Call_ (ld_blt I hg hm boot_enumerate (PyProof.Rows.callWith_type1 (thn (ha.run pos pins s σ H _ I h) fun us s1 ⟨vs, H1, I1, r1, q1⟩ => ?_) hs rfl))
  obtain ⟨a, xs, ex, hq, q⟩ := q1
  subst ex
  cases r1 with
  | cons r rr =>
    cases rr
    cases r
    obtain ⟨its, rv, p', hz⟩ := I1.tuple hq
    have hal : a < s1.heap.objs.size := by obtain ⟨_, z, _⟩ := p'; exact Heap.lt_size z
    refine call_enum1 (begins_tuple a its.toArray) p' fun h' he hit hsz hk => wpAny_pyIter_enum he ?_
    have I2 : L2.Inv X pins σ H1 { s1 with heap := h' } := I1.kept (t' := s1.toks) hk
    refine ⟨s1.heap.objs.size + 1, [s1.heap.objs.size + 1, s1.heap.objs.size], _, _, H1, rfl, I2, turn_enumT a (s1.heap.objs.size + 1) s1.heap.objs.size (Nat.ne_of_lt hal) (Nat.ne_of_lt (Nat.lt_succ_of_lt hal)), ⟨⟨.none, he⟩, ⟨_, hit, rfl, rfl⟩, Nat.succ_ne_self _⟩, fun b hb => ?_, q⟩
    have e' : b = s1.heap.objs.size + 1 ∨ b = s1.heap.objs.size := by simpa using hb
    have hle : s1.heap.objs.size ≤ b := by
      rcases e' with z | z
      · rw [z]; exact Nat.le_add_right _ _
      · rw [z]; exact Nat.le_refl _
    exact I1.fpOk hle (I1.hok.fresh hle)
theorem walk_enumT {K : PySem.W.Frag} {a : Addr} {xs : List V} : Walk (IteT K a) xs.length (fun H => SqT K H a xs) (YPair (fun i => some (.int (i : Nat))) (fun i => xs[i]?)) := by
  refine ⟨fun i _ hi q => ⟨xs, xs[i], q, by simp [hi]⟩, fun _ q => ⟨xs, q, rfl⟩, fun i H v H' _ q y => ?_⟩
  obtain ⟨T, x, h1, h2, h3, h4⟩ := y
  exact ⟨T, .int (i : Nat), x, h1, h2, h3, rfl, h4 xs q⟩
section
variable {X : Cx} {E : XK} {Γ : List FnSem} {k : Nat} {m : Bool} {pos p apos cpos : Pos}
theorem enum_at {ds : List D} {i : Nat} {d : D} (h : ds[i]? = some d) : (ds.zipIdx.map fun p => PyData.tuple [.int (p.2 : Nat), p.1])[i]? = some (.tuple [.int (i : Nat), d]) := by
  rw [List.getElem?_map, List.getElem?_zipIdx, h]
  simp
theorem yenum_ok {w : Dr} {G : Hp} {xs : List V} {ds : List D} (r : RpAll w G xs ds) : YOk w G (ds.zipIdx.map fun p => .tuple [.int (p.2 : Nat), p.1]) (YPair (fun i => some (.int (i : Nat))) (fun i => xs[i]?)) := fun i H1 x H2 O1 hi y le alc => by
  obtain ⟨T, x1, x2, rfl, hT, rfl, e1, e2⟩ := y
  cases e1
  obtain ⟨d2, f2, rp2⟩ := r.get e2
  have oT : O1 T = false := by
    cases z : O1 T with
    | false => rfl
    | true => exact absurd hT (alc T z)
  refine ⟨.step (.refl _) hT, .tuple [.int (i : Nat), d2], enum_at f2, .tup (by rw [hid_of oT]; exact upd_same) ?_⟩
  have le2 : Le (hid H1 O1) (hid (upd H1 T (.tup [.int (i : Nat), x2])) O1) := (Ext.new (ps := w.ps) hT).le
  exact .cons (.int _) (.cons (rp2.mono (le.trans le2)) .nil)
theorem i_enum {e : Expr} {A : TK.E} {tpos : Pos} {elts : List Expr} {kk : Nat} (hg : Gl X "enumerate") (hm : X.mg "enumerate" = none) (h : PE X e (rdM X.K X.mg E Γ m A)) (hs : notStar e = true) : PI X (.Tuple elts kk tpos) (.Call (.Name "enumerate" p) [e] [] pos) (rdI X.K X.mg E Γ m .enum [A]) := by
  have hs' : starEach [e] X.env = [(false, eval e X.env)] := star_ok hs
  refine ((pi_enum hg hm (pa_cons h pa_nil (star_ok hs)) hs').or (pi_enumT hg hm (pa_cons h pa_nil (star_ok hs)) hs')).len.weak fun σ H R q => ?_
  obtain ⟨w, O0, H0, O, env, st, rr, st', Re, q, oo⟩ := q
  have q' := evsM1 q
  rcases bind_inv q' with ⟨c, h1, rfl⟩ | ⟨d, st1, h1, h2⟩
  · exact .inl ⟨w, O0, H0, O, env, st, .error c, _, Re, h1, oo⟩
  · obtain ⟨items, h3, rfl, rfl⟩ := liftO_inv h2
    cases d with
    | list l =>
      cases h3
      refine .inl ⟨w, O0, H0, O, env, st, .ok _, _, Re, h1, fun H1 p1 v b1 => ?_⟩
      obtain ⟨a, xs, rfl, g1, r1⟩ := b1.1.list
      have np := b1.1.ne_ps (Re.post p1)
      have hl2 : (l.zipIdx.map fun p => PyData.tuple [.int (p.2 : Nat), p.1]).length = xs.length := by rw [List.length_map, List.length_zipIdx, r1.length]
      refine ⟨a, xs, rfl, SqL.of g1, fun hl => oo H1 p1 _ ⟨[(a, .lst xs)], _, fun p hp => ?_, ?_, yenum_ok r1, fun p hp => ?_⟩ (by rw [hl2]; exact hl a xs (.inl (SqL.of g1)))⟩
      · rw [List.mem_singleton.mp hp]; exact g1
      · rw [hl2]
        exact walk_enum.mono (fun H z => SqL.of (z.1 (a, .lst xs) List.mem_cons_self)) fun _ _ _ _ _ _ y => y
      · rw [List.mem_singleton.mp hp]; exact ⟨np, fun z => rp_free (b1.2 z), .inl ⟨xs, rfl⟩⟩
    | tuple l =>
      cases h3
      refine .inr ⟨w, O0, H0, O, env, st, .ok _, _, Re, h1, fun H1 p1 v b1 => ?_⟩
      obtain ⟨a, xs, rfl, g1, r1⟩ := b1.1.tuple
      have np := b1.1.ne_psT (Re.post p1)
      have hl2 : (l.zipIdx.map fun p => PyData.tuple [.int (p.2 : Nat), p.1]).length = xs.length := by rw [List.length_map, List.length_zipIdx, r1.length]
      refine ⟨a, xs, rfl, SqT.of g1, fun hl => oo H1 p1 _ ⟨[(a, .tup xs)], _, fun p hp => ?_, ?_, yenum_ok r1, fun p hp => ?_⟩ (by rw [hl2]; exact hl a xs (.inr g1))⟩
      · rw [List.mem_singleton.mp hp]; exact g1
      · rw [hl2]
        exact walk_enumT.mono (fun H z => SqT.of (z.1 (a, .tup xs) List.mem_cons_self)) fun _ _ _ _ _ _ y => y
      · rw [List.mem_singleton.mp hp]; exact ⟨np, fun z => rp_freeT (b1.2 z), .inr (.inl ⟨xs, rfl⟩)⟩
    | _ => cases h3
theorem j_enum {e : Expr} {A : TK.E} {tpos : Pos} {elts : List Expr} {kk : Nat} (c : Cxt X k E) (hg : Gl X "enumerate") (hs : notStar e = true) (h : PE X e (rdM X.K X.mg E Γ m A)) : PI X (.Tuple elts kk tpos) (.Call (.Name "enumerate" p) [e] [] pos) (rdI X.K X.mg E Γ m .enum [A]) := i_enum hg (c.blt _ (mem_blt (by decide +kernel))) h hs
/-! min(a, b) -/
theorem e_min2 {a b : Expr} {A B : TK.E} (c : Cxt X k E) (hg : Gl X "min") (hs : notStar a = true) (hs' : notStar b = true) (ha : PE X a (rdB X.K X.mg E Γ A)) (hb : PE X b (rdB X.K X.mg E Γ B)) : PE X (.Call (.Name "min" p) [a, b] [] pos) (rd X.K X.mg E Γ (.op2 .min2 A B)) := by
  refine (pe_callB (call_min2 c.calm) hg (c.blt _ (mem_blt (by decide +kernel))) (by decide +kernel) (s_arg2 ha hb hs hs') (by decide +kernel) (by decide +kernel) (star_ok hs) (by rw [star_ok hs']; rfl)).weak fun σ H Q q => ?_
  obtain ⟨w, O0, H0, O, env, st, rr, st', R, q, oo⟩ := q
  refine rdB_bind R (f := fun x => orB env B (ev Γ env B) >>= fun y => liftO (app2 .min2 x y)) q oo fun d st1 v H1 R1 p1 q1 h1 o1 => ?_
  refine rdB_bind R1 h1 o1 fun e st2 u H2 R2 p2 q2 h2 o2 => ?_
  obtain ⟨x, h3, rfl, rfl⟩ := liftO_inv h2
  cases d with
  | int i =>
    cases e with
    | int j =>
      cases h3
      obtain rfl := q1.int
      obtain rfl := q2.int
      exact ⟨i, j, rfl, o2 H2 R2.here _ (.int _)⟩
    | _ => cases h3
  | _ => cases e <;> cases h3
/-! l.index(x) -/
theorem idxOf_spec {x : D} : ∀ {l : List D} {j : Nat}, idxOf x l = some j → (∃ z, l[j]? = some z ∧ PyData.eqv z x = true) ∧ ∀ (i : Nat) (z : D), i < j → l[i]? = some z → PyData.eqv z x = false
  | [], _, h => by cases h
  | y :: ys, j, h => by
    unfold idxOf at h
    cases hy : PyData.eqv y x with
    | true =>
      rw [hy, if_pos rfl] at h
      cases h
      exact ⟨⟨y, rfl, hy⟩, fun i z hi => absurd hi (Nat.not_lt_zero _)⟩
    | false =>
      rw [hy, if_neg Bool.false_ne_true, Option.map_eq_some_iff] at h
      obtain ⟨j', h1, rfl⟩ := h
      obtain ⟨⟨z, a1, a2⟩, a3⟩ := idxOf_spec h1
      refine ⟨⟨z, a1, a2⟩, fun i z' hi hz => ?_⟩
      cases i with
      | zero => cases hz; exact hy
      | succ i => exact a3 i z' (by omega) hz
theorem e_index {a b : Expr} {A B : TK.E} (c : Cxt X k E) (hs : notStar b = true) (hbase : attributeBase a "index" X.env (eval a X.env) = eval a X.env) (hline : (apos.endLine == cpos.line) = true) (ha : PE X a (rdB X.K X.mg E Γ A)) (hb : PE X b (rdB X.K X.mg E Γ B)) :
    PE X (.Call (.Attribute a "index" apos) [b] [] cpos) (rd X.K X.mg E Γ (.idx A B)) := by
  refine (pe_bm PySem.F.plainAttrs_list PySem.F.slot_list_index rfl (mt_indexD (room65 c.room)) ha (s_arg1 hb hs) hbase (few_ok hs) hline (star_ok hs) rfl).weak fun σ H Q q => ?_
  obtain ⟨w, O0, H0, O, env, st, rr, st', R, q, oo⟩ := q
  refine rdB_bind R (f := fun x => if isLst x then (orB env B (ev Γ env B) >>= fun y => liftO (app2 .index x y)) else fail) q oo fun d st1 v H1 R1 p1 q1 h1 o1 => ?_
  split at h1
  · rename_i hd
    cases d with
    | list l =>
      obtain ⟨pa, xs, rfl, g1, r1⟩ := q1.list
      refine ⟨.inl ⟨rfl, _, SqL.of g1⟩, ?_⟩
      refine rdB_bind R1 h1 o1 fun e st2 u H2 R2 p2 q2 h2 o2 => ?_
      obtain ⟨x, h3, rfl, rfl⟩ := liftO_inv h2
      simp only [app2] at h3
      split at h3
      · rename_i hc
        obtain ⟨c1, c2, _⟩ := all60 hc
        rw [Option.map_eq_some_iff] at h3
        obtain ⟨j, h4, rfl⟩ := h3
        obtain ⟨⟨z, a1, a2⟩, a3⟩ := idxOf_spec h4
        have q1' := q1.ext p2.1
        exact ⟨pa, u, e, l, j, z, rfl, rfl, q1'.dp c2, q2.dp c1, shaped_of (q1'.lay c2) c2 (by decide), shaped_of (q2.lay c1) c1 (by decide), a1, a2, a3, o2 H2 R2.here _ (.int _)⟩
      · cases h3
    | _ => cases hd
  · cases h1
end
end TK

/-! enumerate(zip(a, b)): the zip's tuple stays out from the second turn on -/
namespace TK
open PySem PySem.Spec PyProof.Rows L2
abbrev IsZ (h : Heap) (z TI TO : Addr) (f0 : Value) (f1 : Bool) : Prop :=
  h.get? z = some { cls := .type "zip", dict := none, data := .fields #[f0, .bool f1, .bool false, .ref TI, .ref TO], slots := #[] }
def F0 (f0 : Value) : Prop := f0 = .none ∨ ∃ T : Addr, f0 = rawInt T
section
variable {prog : Program} {w : World} {A : Around} {E : Value → Shared → Prop} {s : Shared} {z TI TO i1 i2 : Addr} {fp1 fp2 : List Addr} {n1 n2 i : Nat} {P1 P2 : Nat → Value → Prop} {St1 St2 : Nat → Heap → Prop} {a1 a2 f0 : Value} {f1 : Bool}
theorem alive_any {a : Addr} {Q : Option Obj → Shared → Prop} (h : Q (s.heap.get? a) s) : wpAny (model prog w) A (loadIfAlive a) Q E s := fun _ _ _ => h
theorem zfree {Q : Bool → Shared → Prop} (hz : IsZ s.heap z TI TO f0 f1) (h0 : F0 f0) (q1 : Q true s) (q2 : ∀ h', IsZ h' z TI TO f0 true → Heap.SameBut z s.heap h' → Q false { s with heap := h' }) :
    wpAny (model prog w) A (Builtin.SmallTypes.ownedTupleIsFree (.ref z)) Q E s := by
  unfold Builtin.SmallTypes.ownedTupleIsFree
  rcases h0 with rfl | ⟨T, rfl⟩
  · exact wpAny_bind (wpAny_field hz rfl (x := .none) rfl (wpAny_pure q1))
  · refine wpAny_bind (wpAny_field hz rfl (x := rawInt T) rfl ?_)
    show wpAny _ _ (loadIfAlive ((T : Int).toNat) >>= _) _ _ _
    rw [Int.toNat_natCast]
    refine wpAny_bind (alive_any ?_)
    cases s.heap.get? T with
    | none =>
      simp only [Option.isNone_none, if_true]
      exact wpAny_pure q1
    | some o =>
      simp only [Option.isNone_some, Bool.false_eq_true, if_false]
      refine wpAny_bind (wpAny_field hz rfl (x := .bool f1) rfl ?_)
      cases f1 with
      | true =>
        rw [if_neg (show ¬ ((Value.bool true != Value.bool true) = true) from Bool.false_ne_true)]
        exact wpAny_pure (q2 s.heap hz (Heap.SameBut.refl _ _))
      | false =>
        rw [if_pos (show (Value.bool false != Value.bool true) = true from rfl)]
        exact wpAny_bind (wpAny_setField_rec hz (by simp) fun h₁ hz₁ hs₁ => wpAny_pure (q2 h₁ hz₁ hs₁))
/-- the zip and its cells, at turn i -/
structure ZAt (z TI TO i1 i2 : Addr) (St1 St2 : Nat → Heap → Prop) (i : Nat) (h : Heap) : Prop where
  zip : ∃ f0 f1, IsZ h z TI TO f0 f1 ∧ F0 f0
  ti : IsTupOf2 h TI (.ref i1) (.ref i2)
  to : ∃ x y, IsTupOf2 h TO x y
  st1 : St1 i h
  st2 : St2 i h
theorem zipG_item {Q : Value → Shared → Prop} (S : ZipSep2 z TI TO i1 i2 fp1 fp2) (D1 : Draws prog w A i1 fp1 n1 P1 St1) (D2 : Draws prog w A i2 fp2 n2 P2 St2)
    (hZ : ZAt z TI TO i1 i2 St1 St2 i s.heap) (hlt1 : i < n1) (hlt2 : i < n2)
    (hQ : ∀ x1 x2 h' tk, P1 i x1 → P2 i x2 → ZAt z TI TO i1 i2 St1 St2 (i + 1) h' → IsTupOf2 h' s.heap.objs.size x1 x2 → h'.objs.size = s.heap.objs.size + 1 →
      (∀ c o, c ≠ z → c ≠ TO → c ≠ i1 → c ≠ i2 → s.heap.get? c = some o → h'.get? c = some o) → Q (.ref s.heap.objs.size) { s with heap := h', toks := tk }) :
    wpAny (model prog w) A (Builtin.«zip.__next__» ⟨[.ref z], []⟩) (fun fin s' => ∃ v, fin = .done (.ret v) ∧ Q v s') E s := by
  obtain ⟨hp, g, d, tk0, os⟩ := s
  obtain ⟨⟨f0, f1, hz, h0⟩, hTI, ⟨a1, a2, hTO⟩, st1, st2⟩ := hZ
  show wpAny _ _ (field (.ref z) 2 >>= _) _ _ _
  refine wpAny_bind (wpAny_field hz rfl (x := .bool false) rfl ?_)
  show wpAny _ _ (field (.ref z) 3 >>= _) _ _ _
  refine wpAny_bind (wpAny_field hz rfl (x := .ref TI) rfl ?_)
  refine wpAny_bind (wpAny_seqItems hTI rfl ?_)
  show wpAny _ _ (Builtin.SmallTypes.ownedTupleIsFree (.ref z) >>= _) _ _ _
  refine wpAny_bind (zfree hz h0 ?_ fun h₁ hz₁ hs₁ => ?_)
  · simp only [if_true]
    refine wpAny_bind (wpAny_rule ?_)
    refine wpAny_bind (wpAny_field hz rfl (x := .ref TO) rfl ?_)
    refine wpAny_bind (wpAny_setField_rec hz (by simp) fun g0 hz0 hs0 => ?_)
    replace hz0 : IsZ g0 z TI TO .ellipsis f1 := hz0
    replace hs0 : Heap.SameBut z hp g0 := hs0
    refine wpAny_bind ?_
    simp only [List.zipIdx_cons, List.zipIdx_nil, List.forIn_cons, List.forIn_nil]
    refine wpAny_bind (wpAny_bind (wpAny_onRaise ?_))
    show wpAny _ _ (Builtin.SmallTypes.nextOf (.ref i1) >>= _) _ _ ⟨g0, g, d, tk0, os⟩
    refine wpAny_bind (D1.item i _ _ _ hlt1 (D1.over st1 hs0 S.zf1) fun x1 p1 tk1 hx1 sn1 hp1 => wpAny_pure ?_)
    replace hp1 : Heap.SameBut i1 g0 p1 := hp1
    have hU1 : IsTupOf2 p1 TO a1 a2 := hp1.extBut _ _ S.Ti1 (hs0.extBut _ _ S.TOz hTO)
    refine wpAny_bind (wpAny_seqItems (s := ⟨p1, g, d, tk1, os⟩) hU1 rfl ?_)
    refine wpAny_bind (updateSeq_IsTupOf2 (s := ⟨p1, g, d, tk1, os⟩) hU1 fun g1 hT1 hs1 => ?_)
    replace hT1 : IsTupOf2 g1 TO x1 a2 := hT1
    replace hs1 : Heap.SameBut TO p1 g1 := hs1
    refine wpAny_bind (wpAny_letGo (wpAny_pure ?_))
    refine wpAny_bind (wpAny_bind (wpAny_onRaise ?_))
    show wpAny _ _ (Builtin.SmallTypes.nextOf (.ref i2) >>= _) _ _ ⟨g1, g, d, tk1, os⟩
    refine wpAny_bind (D2.item i _ _ _ hlt2 (D2.over (D2.over (D2.over st2 hs0 S.zf2) hp1 S.sep1_2) hs1 S.Tf2) fun x2 p2 tk2 hx2 sn2 hp2 => wpAny_pure ?_)
    replace hp2 : Heap.SameBut i2 g1 p2 := hp2
    have hU2 : IsTupOf2 p2 TO x1 a2 := hp2.extBut _ _ S.Ti2 hT1
    refine wpAny_bind (wpAny_seqItems (s := ⟨p2, g, d, tk2, os⟩) hU2 rfl ?_)
    refine wpAny_bind (updateSeq_IsTupOf2 (s := ⟨p2, g, d, tk2, os⟩) hU2 fun g2 hT2 hs2 => ?_)
    replace hT2 : IsTupOf2 g2 TO x1 x2 := hT2
    replace hs2 : Heap.SameBut TO p2 g2 := hs2
    refine wpAny_bind (wpAny_letGo (wpAny_pure (wpAny_pure ?_)))
    refine wpAny_bind (wpAny_seqItems (s := ⟨g2, g, d, tk2, os⟩) hT2 rfl ?_)
    refine wpAny_bind (wpAny_newTuple ?_)
    have hsz : g2.objs.size = hp.objs.size := by rw [hs2.1, hp2.1, hs1.1, hp1.1, hs0.1]
    have hzz : IsZ g2 z TI TO .ellipsis f1 := (hs2.extBut _ _ S.TOz.symm (hp2.extBut _ _ S.zi2 (hs1.extBut _ _ S.TOz.symm (hp1.extBut _ _ S.zi1 hz0))))
    have hkk : ∀ c o, c ≠ z → c ≠ TO → c ≠ i1 → c ≠ i2 → hp.get? c = some o → g2.get? c = some o := fun c o cz cT c1 c2 e =>
      (hs2.extBut _ _ cT (hp2.extBut _ _ c2 (hs1.extBut _ _ cT (hp1.extBut _ _ c1 (hs0.extBut _ _ cz e)))))
    have hj1 : St1 (i + 1) g2 := (D1.over (D1.over (D1.over sn1 hs1 S.Tf1) hp2 S.sep2_1) hs2 S.Tf1)
    have hj2 : St2 (i + 1) g2 := (D2.over sn2 hs2 S.Tf2)
    have hzlt : z < g2.objs.size := Heap.lt_size hzz
    show wpAny _ _ (Builtin.SmallTypes.ownedTupleHandOut (.ref z) (.ref g2.objs.size) >>= _) _ _ ⟨g2.push { cls := .type "tuple", data := .seq #[x1, x2] }, g, d, tk2, os⟩
    refine wpAny_bind ?_
    unfold Builtin.SmallTypes.ownedTupleHandOut
    have hz₆ : IsZ (g2.push { cls := .type "tuple", data := .seq #[x1, x2] }) z TI TO .ellipsis f1 := Heap.get?_push_of_some _ hzz
    refine wpAny_bind (wpAny_setField_rec hz₆ (by simp) fun h₇ hz₇ hs₇ => ?_)
    replace hz₇ : IsZ h₇ z TI TO (rawInt g2.objs.size) f1 := hz₇
    refine wpAny_setField_rec hz₇ (by simp) fun h₈ hz₈ hs₈ => ?_
    replace hz₈ : IsZ h₈ z TI TO (rawInt g2.objs.size) false := hz₈
    replace hs₇ : Heap.SameBut z (g2.push { cls := .type "tuple", data := .seq #[x1, x2] }) h₇ := hs₇
    replace hs₈ : Heap.SameBut z h₇ h₈ := hs₈
    have up : ∀ c o, c ≠ z → g2.get? c = some o → h₈.get? c = some o := fun c o c1 e => hs₈.extBut _ _ c1 (hs₇.extBut _ _ c1 (Heap.get?_push_of_some _ e))
    have hT₈ : IsTupOf2 h₈ g2.objs.size x1 x2 := hs₈.extBut _ _ (Nat.ne_of_gt hzlt) (hs₇.extBut _ _ (Nat.ne_of_gt hzlt) (Heap.get?_push_size _ rfl))
    have hz8 : h₈.objs.size = g2.objs.size + 1 := by rw [hs₈.1, hs₇.1, Heap.size_push]
    rw [hsz] at hz₈ hT₈ hz8
    refine wpAny_pure ⟨_, rfl, ?_⟩
    show Q (.ref g2.objs.size) ⟨h₈, g, d, tk2, os⟩
    rw [hsz]
    exact hQ x1 x2 h₈ tk2 hx1 hx2 ⟨⟨_, _, hz₈, .inr ⟨_, rfl⟩⟩, up _ _ S.TIz (hkk _ _ S.TIz S.TITO S.TIi1 S.TIi2 hTI), ⟨_, _, up _ _ S.TOz hT2⟩, D1.frame _ _ _ hj1 fun b hb o e => up b o (fun q => S.zf1 (q ▸ hb)) e, D2.frame _ _ _ hj2 fun b hb o e => up b o (fun q => S.zf2 (q ▸ hb)) e⟩ hT₈ hz8 fun c o cz cT c1 c2 e => up c o cz (hkk c o cz cT c1 c2 e)
  · simp only [Bool.false_eq_true, if_false]
    replace hs₁ : Heap.SameBut z hp h₁ := hs₁
    refine wpAny_bind ?_
    rw [← Array.forIn_toList]
    simp only [List.forIn_cons, List.forIn_nil]
    refine wpAny_bind (wpAny_bind (wpAny_holding ?_))
    show wpAny _ _ (Builtin.SmallTypes.nextOf (.ref i1) >>= _) _ _ ⟨h₁, g, d, tk0, os⟩
    refine wpAny_bind (D1.item i _ _ _ hlt1 (D1.over st1 hs₁ S.zf1) fun x1 p1 tk1 hx1 sn1 hp1 => wpAny_pure ?_)
    replace hp1 : Heap.SameBut i1 h₁ p1 := hp1
    refine wpAny_pure ?_
    refine wpAny_bind (wpAny_bind (wpAny_holding ?_))
    show wpAny _ _ (Builtin.SmallTypes.nextOf (.ref i2) >>= _) _ _ ⟨p1, g, d, tk1, os⟩
    refine wpAny_bind (D2.item i _ _ _ hlt2 (D2.over (D2.over st2 hs₁ S.zf2) hp1 S.sep1_2) fun x2 p2 tk2 hx2 sn2 hp2 => wpAny_pure ?_)
    replace hp2 : Heap.SameBut i2 p1 p2 := hp2
    refine wpAny_pure (wpAny_pure ?_)
    show wpAny _ _ (newTuple [x1, x2] >>= _) _ _ ⟨p2, g, d, tk2, os⟩
    refine wpAny_bind (wpAny_newTuple ?_)
    have hsz : p2.objs.size = hp.objs.size := by rw [hp2.1, hp1.1, hs₁.1]
    have hz₃ : IsZ p2 z TI TO f0 true := hp2.extBut _ _ S.zi2 (hp1.extBut _ _ S.zi1 hz₁)
    have hk : ∀ c o, c ≠ z → c ≠ i1 → c ≠ i2 → hp.get? c = some o → p2.get? c = some o := fun c o c1 c2 c3 e => hp2.extBut _ _ c3 (hp1.extBut _ _ c2 (hs₁.extBut _ _ c1 e))
    have hj1 : St1 (i + 1) p2 := D1.over sn1 hp2 S.sep2_1
    refine wpAny_pure ⟨_, rfl, ?_⟩
    show Q (.ref p2.objs.size) ⟨p2.push { cls := .type "tuple", data := .seq #[x1, x2] }, g, d, tk2, os⟩
    have hpp : IsTupOf2 (p2.push { cls := .type "tuple", data := .seq #[x1, x2] }) p2.objs.size x1 x2 := Heap.get?_push_size _ rfl
    have hz4 : (p2.push { cls := .type "tuple", data := .seq #[x1, x2] }).objs.size = p2.objs.size + 1 := Heap.size_push ..
    rw [hsz] at hpp hz4 ⊢
    exact hQ x1 x2 _ tk2 hx1 hx2 ⟨⟨_, _, Heap.get?_push_of_some _ hz₃, h0⟩, Heap.get?_push_of_some _ (hk _ _ S.TIz S.TIi1 S.TIi2 hTI), ⟨_, _, Heap.get?_push_of_some _ (hk _ _ S.TOz S.Ti1 S.Ti2 hTO)⟩, D1.frame _ _ _ hj1 fun b hb o e => Heap.get?_push_of_some _ e, D2.frame _ _ _ sn2 fun b hb o e => Heap.get?_push_of_some _ e⟩ hpp hz4 fun c o cz cT c1 c2 e => Heap.get?_push_of_some _ (hk c o cz c1 c2 e)
theorem zipG_end {Q : Fin → Shared → Prop} (S : ZipSep2 z TI TO i1 i2 fp1 fp2) (D1 : Draws prog w A i1 fp1 n1 P1 St1) (D2 : Draws prog w A i2 fp2 n2 P2 St2)
    (hZ : ZAt z TI TO i1 i2 St1 St2 i s.heap) (hend : i = min n1 n2)
    (hE : ∀ h' tk e, (∀ c o, c ≠ z → c ≠ TO → c ≠ i1 → c ≠ i2 → s.heap.get? c = some o → h'.get? c = some o) → (∃ o, h'.get? e = some o ∧ o.cls = .type "StopIteration") → E (.ref e) { s with heap := h', toks := tk }) :
    wpAny (model prog w) A (Builtin.«zip.__next__» ⟨[.ref z], []⟩) Q E s := by
  obtain ⟨hp, g, d, tk0, os⟩ := s
  obtain ⟨⟨f0, f1, hz, h0⟩, hTI, ⟨a1, a2, hTO⟩, st1, st2⟩ := hZ
  show wpAny _ _ (field (.ref z) 2 >>= _) _ _ _
  refine wpAny_bind (wpAny_field hz rfl (x := .bool false) rfl ?_)
  show wpAny _ _ (field (.ref z) 3 >>= _) _ _ _
  refine wpAny_bind (wpAny_field hz rfl (x := .ref TI) rfl ?_)
  refine wpAny_bind (wpAny_seqItems hTI rfl ?_)
  show wpAny _ _ (Builtin.SmallTypes.ownedTupleIsFree (.ref z) >>= _) _ _ _
  refine wpAny_bind (zfree hz h0 ?_ fun h₁ hz₁ hs₁ => ?_)
  · simp only [if_true]
    refine wpAny_bind (wpAny_rule ?_)
    refine wpAny_bind (wpAny_field hz rfl (x := .ref TO) rfl ?_)
    refine wpAny_bind (wpAny_setField_rec hz (by simp) fun g0 hz0 hs0 => ?_)
    replace hz0 : IsZ g0 z TI TO .ellipsis f1 := hz0
    replace hs0 : Heap.SameBut z hp g0 := hs0
    refine wpAny_bind ?_
    simp only [List.zipIdx_cons, List.zipIdx_nil, List.forIn_cons, List.forIn_nil]
    refine wpAny_bind (wpAny_bind (wpAny_onRaise ?_))
    show wpAny _ _ (Builtin.SmallTypes.nextOf (.ref i1) >>= _) _ _ ⟨g0, g, d, tk0, os⟩
    by_cases hlt1 : i < n1
    · refine wpAny_bind (D1.item i _ _ _ hlt1 (D1.over st1 hs0 S.zf1) fun x1 p1 tk1 hx1 sn1 hp1 => wpAny_pure ?_)
      replace hp1 : Heap.SameBut i1 g0 p1 := hp1
      have hU1 : IsTupOf2 p1 TO a1 a2 := hp1.extBut _ _ S.Ti1 (hs0.extBut _ _ S.TOz hTO)
      refine wpAny_bind (wpAny_seqItems (s := ⟨p1, g, d, tk1, os⟩) hU1 rfl ?_)
      refine wpAny_bind (updateSeq_IsTupOf2 (s := ⟨p1, g, d, tk1, os⟩) hU1 fun g1 hT1 hs1 => ?_)
      replace hT1 : IsTupOf2 g1 TO x1 a2 := hT1
      replace hs1 : Heap.SameBut TO p1 g1 := hs1
      refine wpAny_bind (wpAny_letGo (wpAny_pure ?_))
      have hi2 : i = n2 := by omega
      refine wpAny_bind (wpAny_bind (wpAny_onRaise ?_))
      show wpAny _ _ (Builtin.SmallTypes.nextOf (.ref i2) >>= _) _ _ ⟨g1, g, d, tk1, os⟩
      refine wpAny_bind (D2.done ⟨g1, g, d, tk1, os⟩ _ _ (by rw [← hi2]; exact (D2.over (D2.over (D2.over st2 hs0 S.zf2) hp1 S.sep1_2) hs1 S.Tf2)) fun q e hq he => ?_)
      replace hq : Heap.ExtBut i2 g1 q := hq
      obtain ⟨oe, hoe, hce⟩ := he
      replace hoe : q.get? e = some oe := hoe
      have hzq : IsZ q z TI TO .ellipsis f1 := hq _ _ S.zi2 (hs1.extBut _ _ S.TOz.symm (hp1.extBut _ _ S.zi1 hz0))
      have hez : e ≠ z := fun x => by subst x; rw [hzq] at hoe; cases hoe; simp at hce
      refine wpAny_setField_rec (s := ⟨q, g, d, tk1, os⟩) hzq (by simp) fun q' _ hq' => ?_
      replace hq' : Heap.SameBut z q q' := hq'
      exact hE q' tk1 e (fun c o cz cT c1 c2 x => hq'.extBut _ _ cz (hq _ _ c2 (hs1.extBut _ _ cT (hp1.extBut _ _ c1 (hs0.extBut _ _ cz x))))) ⟨oe, hq'.extBut _ _ hez hoe, hce⟩
    · have hi1 : i = n1 := by omega
      refine wpAny_bind (D1.done ⟨g0, g, d, tk0, os⟩ _ _ (by rw [← hi1]; exact (D1.over st1 hs0 S.zf1)) fun q e hq he => ?_)
      replace hq : Heap.ExtBut i1 g0 q := hq
      obtain ⟨oe, hoe, hce⟩ := he
      replace hoe : q.get? e = some oe := hoe
      have hzq : IsZ q z TI TO .ellipsis f1 := hq _ _ S.zi1 hz0
      have hez : e ≠ z := fun x => by subst x; rw [hzq] at hoe; cases hoe; simp at hce
      refine wpAny_setField_rec (s := ⟨q, g, d, tk0, os⟩) hzq (by simp) fun q' _ hq' => ?_
      replace hq' : Heap.SameBut z q q' := hq'
      exact hE q' tk0 e (fun c o cz cT c1 c2 x => hq'.extBut _ _ cz (hq _ _ c1 (hs0.extBut _ _ cz x))) ⟨oe, hq'.extBut _ _ hez hoe, hce⟩
  · simp only [Bool.false_eq_true, if_false]
    replace hs₁ : Heap.SameBut z hp h₁ := hs₁
    refine wpAny_bind ?_
    rw [← Array.forIn_toList]
    simp only [List.forIn_cons, List.forIn_nil]
    refine wpAny_bind (wpAny_bind (wpAny_holding ?_))
    show wpAny _ _ (Builtin.SmallTypes.nextOf (.ref i1) >>= _) _ _ ⟨h₁, g, d, tk0, os⟩
    by_cases hlt1 : i < n1
    · refine wpAny_bind (D1.item i _ _ _ hlt1 (D1.over st1 hs₁ S.zf1) fun x1 p1 tk1 hx1 sn1 hp1 => wpAny_pure ?_)
      replace hp1 : Heap.SameBut i1 h₁ p1 := hp1
      have hi2 : i = n2 := by omega
      refine wpAny_pure ?_
      refine wpAny_bind (wpAny_bind (wpAny_holding ?_))
      show wpAny _ _ (Builtin.SmallTypes.nextOf (.ref i2) >>= _) _ _ ⟨p1, g, d, tk1, os⟩
      refine wpAny_bind (D2.done ⟨p1, g, d, tk1, os⟩ _ _ (by rw [← hi2]; exact (D2.over (D2.over st2 hs₁ S.zf2) hp1 S.sep1_2)) fun q e hq he => ?_)
      exact hE q tk1 e (fun c o cz cT c1 c2 x => hq _ _ c2 (hp1.extBut _ _ c1 (hs₁.extBut _ _ cz x))) he
    · have hi1 : i = n1 := by omega
      refine wpAny_bind (D1.done ⟨h₁, g, d, tk0, os⟩ _ _ (by rw [← hi1]; exact (D1.over st1 hs₁ S.zf1)) fun q e hq he => ?_)
      exact hE q tk0 e (fun c o cz cT c1 c2 x => hq _ _ c1 (hs₁.extBut _ _ cz x)) he
/-- next of the zip -/
theorem nextOf_zipG {Q : Value → Shared → Prop} (S : ZipSep2 z TI TO i1 i2 fp1 fp2) (D1 : Draws prog w A.in1 i1 fp1 n1 P1 St1) (D2 : Draws prog w A.in1 i2 fp2 n2 P2 St2)
    (hZ : ZAt z TI TO i1 i2 St1 St2 i s.heap) (hlt1 : i < n1) (hlt2 : i < n2)
    (hQ : ∀ x1 x2 h' tk, P1 i x1 → P2 i x2 → ZAt z TI TO i1 i2 St1 St2 (i + 1) h' → IsTupOf2 h' s.heap.objs.size x1 x2 → h'.objs.size = s.heap.objs.size + 1 →
      (∀ c o, c ≠ z → c ≠ TO → c ≠ i1 → c ≠ i2 → s.heap.get? c = some o → h'.get? c = some o) → Q (.ref s.heap.objs.size) { s with heap := h', toks := tk }) :
    wpAny (model prog w) A (Builtin.SmallTypes.nextOf (.ref z)) Q E s := by
  have hT : s.TypeIs (.ref z) "zip" := by
    obtain ⟨f0, f1, e, _⟩ := hZ.zip
    exact ⟨_, e, rfl⟩
  unfold Builtin.SmallTypes.nextOf
  exact wpAny_bind (wpAny_callSpecial?_slot (name := Str.ofString "__next__") hT PySem.F.slot_zip_next
    (wpAny_call_entry PySem.F.slot_zip_next hT PySem.F.entry_zip_next (zipG_item S D1 D2 hZ hlt1 hlt2 fun x1 x2 h' tk y1 y2 b1 b2 b3 b4 => wpAny_pure (hQ x1 x2 h' tk y1 y2 b1 b2 b3 b4)) (PySem.F.args_zip_next_1 _)))
theorem nextOf_zipE {Q : Value → Shared → Prop} (S : ZipSep2 z TI TO i1 i2 fp1 fp2) (D1 : Draws prog w A.in1 i1 fp1 n1 P1 St1) (D2 : Draws prog w A.in1 i2 fp2 n2 P2 St2)
    (hZ : ZAt z TI TO i1 i2 St1 St2 i s.heap) (hend : i = min n1 n2)
    (hE : ∀ h' tk e, (∀ c o, c ≠ z → c ≠ TO → c ≠ i1 → c ≠ i2 → s.heap.get? c = some o → h'.get? c = some o) → (∃ o, h'.get? e = some o ∧ o.cls = .type "StopIteration") → E (.ref e) { s with heap := h', toks := tk }) :
    wpAny (model prog w) A (Builtin.SmallTypes.nextOf (.ref z)) Q E s := by
  have hT : s.TypeIs (.ref z) "zip" := by
    obtain ⟨f0, f1, e, _⟩ := hZ.zip
    exact ⟨_, e, rfl⟩
  unfold Builtin.SmallTypes.nextOf
  exact wpAny_bind (wpAny_callSpecial?_slot (name := Str.ofString "__next__") hT PySem.F.slot_zip_next
    (wpAny_call_entry PySem.F.slot_zip_next hT PySem.F.entry_zip_next (zipG_end S D1 D2 hZ hend hE) (PySem.F.args_zip_next_1 _)))
theorem ZAt.keep {St1 St2 : Nat → Heap → Prop} {h h' : Heap} (D1 : Draws prog w A i1 fp1 n1 P1 St1) (D2 : Draws prog w A i2 fp2 n2 P2 St2) (x : ZAt z TI TO i1 i2 St1 St2 i h) (k : ∀ b ∈ z :: TI :: TO :: (fp1 ++ fp2), ∀ o, h.get? b = some o → h'.get? b = some o) : ZAt z TI TO i1 i2 St1 St2 i h' := by
  obtain ⟨⟨f0, f1, hz, h0⟩, hTI, ⟨a1, a2, hTO⟩, st1, st2⟩ := x
  exact ⟨⟨f0, f1, k z (by simp) _ hz, h0⟩, k TI (by simp) _ hTI, ⟨a1, a2, k TO (by simp) _ hTO⟩, D1.frame _ _ _ st1 fun b hb o e => k b (by simp [hb]) o e, D2.frame _ _ _ st2 fun b hb o e => k b (by simp [hb]) o e⟩
theorem enumZ_item {e : Addr} {c : Int} {old : Value} {Q : Value → Shared → Prop} (S : ZipSep2 z TI TO i1 i2 fp1 fp2) (D1 : Draws prog w A.in1 i1 fp1 n1 P1 St1) (D2 : Draws prog w A.in1 i2 fp2 n2 P2 St2)
    (he : IsEnum s.heap e z c old) (hZ : ZAt z TI TO i1 i2 St1 St2 i s.heap) (hlt1 : i < n1) (hlt2 : i < n2) (hef : e ∉ z :: TI :: TO :: (fp1 ++ fp2))
    (hQ : ∀ x1 x2 h' tk, P1 i x1 → P2 i x2 → IsEnumOut h' e z (c + 1) (.ref s.heap.objs.size) (s.heap.objs.size + 1) → ZAt z TI TO i1 i2 St1 St2 (i + 1) h' → IsTupOf2 h' s.heap.objs.size x1 x2 →
      h'.get? (s.heap.objs.size + 1) = some { cls := .type "tuple", data := .seq #[.int c tk, .ref s.heap.objs.size] } →
      (∀ b o, b ≠ e → b ≠ z → b ≠ TO → b ≠ i1 → b ≠ i2 → s.heap.get? b = some o → h'.get? b = some o) → Q (.ref (s.heap.objs.size + 1)) { s with heap := h', toks := tk + 1 }) :
    wpAny (model prog w) A (Builtin.«enumerate.__next__» ⟨[.ref e], []⟩) (fun fin s' => ∃ v, fin = .done (.ret v) ∧ Q v s') E s := by
  obtain ⟨hp, g, d, tk₀, os⟩ := s
  have ez : e ≠ z := fun q => hef (by simp [q])
  have eT : e ≠ TO := fun q => hef (by simp [q])
  have e1 : e ≠ i1 := fun q => hef (by rw [q]; exact List.mem_cons_of_mem _ (List.mem_cons_of_mem _ (List.mem_cons_of_mem _ (List.mem_append_left _ S.mem1))))
  have e2 : e ≠ i2 := fun q => hef (by rw [q]; exact List.mem_cons_of_mem _ (List.mem_cons_of_mem _ (List.mem_cons_of_mem _ (List.mem_append_right _ S.mem2))))
  show wpAny _ _ (field (.ref e) 2 >>= _) _ _ _
  refine wpAny_bind (wpAny_field he rfl (x := .ref z) rfl ?_)
  refine wpAny_bind (nextOf_zipG S D1 D2 hZ hlt1 hlt2 fun x1 x2 h₁ tk hx1 hx2 hZ₁ hT₁ hsz₁ hk₁ => ?_)
  replace hk₁ : ∀ c o, c ≠ z → c ≠ TO → c ≠ i1 → c ≠ i2 → hp.get? c = some o → h₁.get? c = some o := hk₁
  replace hT₁ : IsTupOf2 h₁ hp.objs.size x1 x2 := hT₁
  replace hsz₁ : h₁.objs.size = hp.objs.size + 1 := hsz₁
  have hel : e < hp.objs.size := Heap.lt_size he
  have he₁ : IsEnum h₁ e z c old := hk₁ e _ ez eT e1 e2 he
  show wpAny _ _ (field (.ref e) 3 >>= _) _ _ ⟨h₁, g, d, tk, os⟩
  refine wpAny_bind (wpAny_field he₁ rfl (x := rawInt c) rfl ?_)
  show wpAny _ _ (field (.ref e) 4 >>= _) _ _ ⟨h₁, g, d, tk, os⟩
  refine wpAny_bind (wpAny_field he₁ rfl (x := .none) rfl ?_)
  show wpAny _ _ (mkInt c >>= _) _ _ ⟨h₁, g, d, tk, os⟩
  refine wpAny_bind (wpAny_mkInt ?_)
  show wpAny _ _ (setField (.ref e) 3 (rawInt (c + 1)) >>= _) _ _ ⟨h₁, g, d, tk + 1, os⟩
  refine wpAny_bind (wpAny_setField_rec he₁ (by simp) fun h₂ he₂ hs₂ => ?_)
  replace hs₂ : Heap.SameBut e h₁ h₂ := hs₂
  replace he₂ : IsEnum h₂ e z (c + 1) old := he₂
  show wpAny _ _ (setField (.ref e) 4 .none >>= _) _ _ ⟨h₂, g, d, tk + 1, os⟩
  refine wpAny_bind (wpAny_setField_rec he₂ (by simp) fun h₃ he₃ hs₃ => ?_)
  replace hs₃ : Heap.SameBut e h₂ h₃ := hs₃
  replace he₃ : IsEnum h₃ e z (c + 1) old := he₃
  show wpAny _ _ (newTuple [.int c tk, .ref hp.objs.size] >>= _) _ _ ⟨h₃, g, d, tk + 1, os⟩
  refine wpAny_bind (wpAny_newTuple ?_)
  have he₄ : IsEnum (h₃.push { cls := .type "tuple", data := .seq #[.int c tk, .ref hp.objs.size] }) e z (c + 1) old := Heap.get?_push_of_some _ he₃
  generalize hh₄ : h₃.push { cls := .type "tuple", data := .seq #[.int c tk, .ref hp.objs.size] } = h₄ at he₄
  have hsz : h₃.objs.size = hp.objs.size + 1 := by rw [hs₃.1, hs₂.1, hsz₁]
  have ht₄ : h₄.get? (hp.objs.size + 1) = some { cls := .type "tuple", data := .seq #[.int c tk, .ref hp.objs.size] } := by rw [← hh₄, ← hsz]; exact Heap.get?_push_size _ rfl
  have up₄ : ∀ b o, b ≠ e → h₁.get? b = some o → h₄.get? b = some o := fun b o hbe hb => by
    rw [← hh₄]; exact Heap.get?_push_of_some _ (hs₃.extBut b o hbe (hs₂.extBut b o hbe hb))
  show wpAny _ _ (Builtin.SmallTypes.ownedTupleIsFree (.ref e) >>= _) _ _ ⟨h₄, g, d, tk + 1, os⟩
  rw [hsz]
  clear hh₄ he₃ hs₃ he₂ hs₂ he₁ hsz h₃ h₂
  refine wpAny_bind ?_
  · unfold Builtin.SmallTypes.ownedTupleIsFree
    refine wpAny_bind (wpAny_field he₄ rfl (x := .none) rfl (wpAny_pure ?_))
    simp only [if_true]
    refine wpAny_bind (wpAny_rule ?_)
    refine wpAny_bind (wpAny_field he₄ rfl (x := old) rfl ?_)
    refine wpAny_bind (wpAny_setField_rec he₄ (by simp) fun h₅ he₅ hs₅ => ?_)
    replace hs₅ : Heap.SameBut e h₄ h₅ := hs₅
    replace he₅ : IsEnum h₅ e z (c + 1) (.ref hp.objs.size) := he₅
    show wpAny _ _ (Builtin.SmallTypes.ownedTupleHandOut (.ref e) (.ref (hp.objs.size + 1)) >>= _) _ _ ⟨h₅, g, d, tk + 1, os⟩
    refine wpAny_bind ?_
    · unfold Builtin.SmallTypes.ownedTupleHandOut
      refine wpAny_bind (wpAny_setField_rec he₅ (by simp) fun h₆ he₆ hs₆ => ?_)
      replace hs₆ : Heap.SameBut e h₅ h₆ := hs₆
      replace he₆ : IsEnumOut h₆ e z (c + 1) (.ref hp.objs.size) (hp.objs.size + 1) := he₆
      refine wpAny_setField_rec he₆ (by simp) fun h₇ he₇ hs₇ => ?_
      replace hs₇ : Heap.SameBut e h₆ h₇ := hs₇
      replace he₇ : IsEnumOut h₇ e z (c + 1) (.ref hp.objs.size) (hp.objs.size + 1) := he₇
      have up : ∀ b o, b ≠ e → h₁.get? b = some o → h₇.get? b = some o := fun b o hbe hb => hs₇.extBut b o hbe (hs₆.extBut b o hbe (hs₅.extBut b o hbe (up₄ b o hbe hb)))
      refine wpAny_bind (wpAny_letGo (wpAny_pure ⟨_, rfl, hQ x1 x2 h₇ tk hx1 hx2 he₇ ?_ ?_ ?_ ?_⟩))
      · exact hZ₁.keep D1 D2 fun b hb o y => up b o (fun q => hef (q ▸ hb)) y
      · exact up _ _ (Nat.ne_of_gt hel) hT₁
      · have hne : hp.objs.size + 1 ≠ e := Nat.ne_of_gt (Nat.lt_succ_of_lt hel)
        exact hs₇.extBut _ _ hne (hs₆.extBut _ _ hne (hs₅.extBut _ _ hne ht₄))
      · exact fun b o hbe cz cT c1 c2 hb => up b o hbe (hk₁ b o cz cT c1 c2 hb)
theorem next_enumZ_item {e : Addr} {c : Int} {old : Value} {Q : Option Value → Shared → Prop} (S : ZipSep2 z TI TO i1 i2 fp1 fp2) (D1 : Draws prog w A.in1.in1 i1 fp1 n1 P1 St1) (D2 : Draws prog w A.in1.in1 i2 fp2 n2 P2 St2)
    (he : IsEnum s.heap e z c old) (hZ : ZAt z TI TO i1 i2 St1 St2 i s.heap) (hlt1 : i < n1) (hlt2 : i < n2) (hef : e ∉ z :: TI :: TO :: (fp1 ++ fp2))
    (hQ : ∀ x1 x2 h' tk, P1 i x1 → P2 i x2 → IsEnumOut h' e z (c + 1) (.ref s.heap.objs.size) (s.heap.objs.size + 1) → ZAt z TI TO i1 i2 St1 St2 (i + 1) h' → IsTupOf2 h' s.heap.objs.size x1 x2 →
      h'.get? (s.heap.objs.size + 1) = some { cls := .type "tuple", data := .seq #[.int c tk, .ref s.heap.objs.size] } →
      (∀ b o, b ≠ e → b ≠ z → b ≠ TO → b ≠ i1 → b ≠ i2 → s.heap.get? b = some o → h'.get? b = some o) → Q (some (.ref (s.heap.objs.size + 1))) { s with heap := h', toks := tk + 1 }) :
    wpAny (model prog w) A (pyNext (.ref e)) Q E s := by
  have hT : s.TypeIs (.ref e) "enumerate" := ⟨_, he, rfl⟩
  unfold pyNext
  exact wpAny_bind (wpAny_attempt (wpAny_callSpecial?_slot (name := Str.ofString "__next__") hT PySem.F.slot_enumerate_next
    (wpAny_call_entry PySem.F.slot_enumerate_next hT PySem.F.entry_enumerate_next
      (enumZ_item S D1 D2 he hZ hlt1 hlt2 hef fun x1 x2 h' tk a1 a2 a3 a4 a5 a6 a7 => wpAny_pure (hQ x1 x2 h' tk a1 a2 a3 a4 a5 a6 a7)) (PySem.F.args_enumerate_next_1 _))))
theorem next_enumZ_end {e : Addr} {c : Int} {old : Value} {Q : Option Value → Shared → Prop} (S : ZipSep2 z TI TO i1 i2 fp1 fp2) (D1 : Draws prog w A.in1.in1 i1 fp1 n1 P1 St1) (D2 : Draws prog w A.in1.in1 i2 fp2 n2 P2 St2)
    (he : IsEnum s.heap e z c old) (hZ : ZAt z TI TO i1 i2 St1 St2 i s.heap) (hend : i = min n1 n2)
    (hQ : ∀ h' tk, (∀ b o, b ≠ z → b ≠ TO → b ≠ i1 → b ≠ i2 → s.heap.get? b = some o → h'.get? b = some o) → Q none { s with heap := h', toks := tk }) : wpAny (model prog w) A (pyNext (.ref e)) Q E s := by
  have hT : s.TypeIs (.ref e) "enumerate" := ⟨_, he, rfl⟩
  unfold pyNext
  refine wpAny_bind (wpAny_attempt (wpAny_callSpecial?_slot (name := Str.ofString "__next__") hT PySem.F.slot_enumerate_next
    (wpAny_call_entry PySem.F.slot_enumerate_next hT PySem.F.entry_enumerate_next ?_ (PySem.F.args_enumerate_next_1 _))))
  show wpAny _ _ (field (.ref e) 2 >>= _) _ _ _
  refine wpAny_bind (wpAny_field he rfl (x := .ref z) rfl ?_)
  refine wpAny_bind (nextOf_zipE S D1 D2 hZ hend fun h' tk x hk hx' => ?_)
  obtain ⟨o, ho, hc⟩ := hx'
  refine wpAny_bind (wpAny_isInstance (T := "StopIteration") (b := true) ⟨o, ho, hc⟩ isSubtype_stop ?_)
  exact wpAny_pure (hQ _ _ hk)
end
section
variable {X : Cx} {pins : List (Addr × Obj)} {σ : L2.St} {H : Hp} {s : Shared} {h' : Heap}
/-- two new objects are laid -/
theorem turnedNew2 {t' : Nat} {ch : List Addr} {T1 T2 : Addr} {o1 o2 : HO} (I : L2.Inv X pins σ H s) (k : ∀ b o, b ∉ ch → s.heap.get? b = some o → h'.get? b = some o) (hf : ∀ b ∈ ch, FpOk X pins H b) (hT1 : s.heap.objs.size ≤ T1) (hT2 : s.heap.objs.size ≤ T2) (hne : T1 ≠ T2)
    (new1 : ObjOk X.prog X.w (upd (upd H T1 o1) T2 o2) h' T1 o1) (new2 : ObjOk X.prog X.w (upd (upd H T1 o1) T2 o2) h' T2 o2) : L2.Inv X pins σ (upd (upd H T1 o1) T2 o2) { s with heap := h', toks := t' } := by
  have hn1 : H T1 = none := I.hok.fresh hT1
  have hn2 : H T2 = none := I.hok.fresh hT2
  have nit : ∀ b u, H b = some u → b ∉ ch := fun b u e z => by
    have q := (hf b z).1
    rw [q] at e; cases e
  have un : ∀ b u, H b = some u → (upd (upd H T1 o1) T2 o2) b = some u := fun b u e => by
    rw [upd_ne (ne_of_none e hn2), upd_ne (ne_of_none e hn1)]; exact e
  refine I.step (g' := s.gens) (d' := s.drawn) (ch := ch) (fun b hb => ⟨(hf b hb).2.2.2.1, (hf b hb).2.1, (hf b hb).2.2.2.2.1, (hf b hb).2.2.2.2.2⟩) (fun b o _ _ hc e _ => k b o hc e) (fun b o _ _ hc e _ => ⟨o.slots, k b o hc e⟩)
    (fun b o _ e n => ?_) (fun b o hc e => ⟨o, k b o hc e⟩) (fun b xs e => un b _ e) (fun b o u e => un b _ e) (fun b ps e => ⟨#[], ?_⟩) (fun m hm => ?_) (fun b u e => ?_) I.bare
  · have lt := Heap.lt_size e
    rw [upd_ne (Nat.ne_of_lt (Nat.lt_of_lt_of_le lt hT2)), upd_ne (Nat.ne_of_lt (Nat.lt_of_lt_of_le lt hT1))]; exact n
  · rw [un b _ e]; simp
  · obtain ⟨o, es, ep, ho, r⟩ := hm
    exact ⟨o, es, ep, k _ o (fun z => (hf _ z).2.1 rfl) ho, r⟩
  · by_cases hb : b = T2
    · subst hb
      rw [upd_same] at e
      cases e
      exact new2
    · rw [upd_ne hb] at e
      by_cases hb1 : b = T1
      · subst hb1
        rw [upd_same] at e
        cases e
        exact new1
      · rw [upd_ne hb1] at e
        refine (I.hok b u e).stay (fun c v hc q => k c v ?_ q) (fun c q => un c _ q) fun c xs q => un c _ q
        rcases hc with z | z
        · rw [z]; exact nit b u e
        · exact nit c _ z
end
/-- the lists or tuples at a and b as they stand at each turn: the number, and the pair, in new tuples -/
def IteZ (K : PySem.W.Frag) (t1 : Bool) (a : Addr) (t2 : Bool) (b : Addr) : It :=
  ⟨fun i H => ∃ (xs ys : List V) (x y : V), SqS t1 K H a xs ∧ SqS t2 K H b ys ∧ xs[i]? = some x ∧ ys[i]? = some y,
    fun i H v H' => ∃ T1 T2 x y, v = .ref T2 ∧ H T1 = none ∧ H T2 = none ∧ T1 ≠ T2 ∧ H' = upd (upd H T1 (.tup [x, y])) T2 (.tup [.int (i : Nat), .ref T1]) ∧ (∀ xs, SqS t1 K H a xs → xs[i]? = some x) ∧ ∀ ys, SqS t2 K H b ys → ys[i]? = some y,
    fun i H => ∃ xs ys : List V, SqS t1 K H a xs ∧ SqS t2 K H b ys ∧ min xs.length ys.length = i⟩
def tnEZ (t1 : Bool) (a : Addr) (t2 : Bool) (b e z TI TO i1 i2 : Addr) (i : Nat) (h : Heap) : Prop := (∃ old, IsEnum h e z ((i : Nat) : Int) old) ∧ ZAt z TI TO i1 i2 (fun i h => ItAt t1 h i1 a i) (fun i h => ItAt t2 h i2 b i) i h
theorem turn_enumZ {P : Program} {w : World} {K : PySem.W.Frag} {elts : List Expr} {kk : Nat} {tpos : Pos} {t1 t2 : Bool} {a b e z TI TO i1 i2 : Addr} (S : ZipSep2 z TI TO i1 i2 [i1, a] [i2, b]) (n1 : a ≠ i1) (n2 : b ≠ i2) (hef : e ∉ z :: TI :: TO :: ([i1, a] ++ [i2, b])) :
    Turn P w K (.Tuple elts kk tpos) (IteZ K t1 a t2 b) [e, z, TI, TO, i1, i2] e (tnEZ t1 a t2 b e z TI TO i1 i2) where
  mem := by simp
  obj := fun i h st c hc => by
    obtain ⟨⟨old, he⟩, ⟨f0, f1, hz, _⟩, hTI, ⟨x, y, hTO⟩, h1, h2⟩ := st
    have e' : c = e ∨ c = z ∨ c = TI ∨ c = TO ∨ c = i1 ∨ c = i2 := by simpa using hc
    rcases e' with q | q | q | q | q | q
    · rw [q]; exact ⟨_, he, fun v q => nomatch q⟩
    · rw [q]; exact ⟨_, hz, fun v q => nomatch q⟩
    · rw [q]; exact ⟨_, hTI, fun v q => nomatch q⟩
    · rw [q]; exact ⟨_, hTO, fun v q => nomatch q⟩
    · rw [q]; exact h1.obj
    · rw [q]; exact h2.obj
  keep := fun i h h' st k => by
    obtain ⟨⟨old, he⟩, ⟨f0, f1, hz, q0⟩, hTI, ⟨x, y, hTO⟩, h1, h2⟩ := st
    exact ⟨⟨old, k e (by simp) _ he⟩, ⟨f0, f1, k z (by simp) _ hz, q0⟩, k TI (by simp) _ hTI, ⟨x, y, k TO (by simp) _ hTO⟩, h1.at fun o q => k i1 (by simp) o q, h2.at fun o q => k i2 (by simp) o q⟩
  item := by
    intro X hP hw hK hc i pins s σ H E I hf st hg
    have obj : ∀ c ∈ [e, z, TI, TO, i1, i2], ∃ o, s.heap.get? c = some o := fun c hc => by
      obtain ⟨⟨old, he⟩, ⟨f0, f1, hz, _⟩, hTI, ⟨x, y, hTO⟩, h1, h2⟩ := st
      have e' : c = e ∨ c = z ∨ c = TI ∨ c = TO ∨ c = i1 ∨ c = i2 := by simpa using hc
      rcases e' with q | q | q | q | q | q
      · rw [q]; exact ⟨_, he⟩
      · rw [q]; exact ⟨_, hz⟩
      · rw [q]; exact ⟨_, hTI⟩
      · rw [q]; exact ⟨_, hTO⟩
      · rw [q]; obtain ⟨o, z, _⟩ := h1.obj; exact ⟨o, z⟩
      · rw [q]; obtain ⟨o, z, _⟩ := h2.obj; exact ⟨o, z⟩
    subst hP hw hK
    obtain ⟨⟨old, he⟩, hZ⟩ := st
    obtain ⟨xs, ys, x, y, hqx, hqy, hx, hy⟩ := hg
    obtain ⟨its, rv, p, _⟩ := sq_inv I hqx
    obtain ⟨its2, rv2, p2, _⟩ := sq_inv I hqy
    obtain ⟨u, hu, ru⟩ := rv.get hx
    obtain ⟨u2, hu2, ru2⟩ := rv2.get hy
    have hh : X.A.in1.in1.handled = none := I.ok.hd hc
    have D1 := draws_s (prog := X.prog) (w := X.w) hh t1 i1 a n1 its.toArray
    have D2 := draws_s (prog := X.prog) (w := X.w) hh t2 i2 b n2 its2.toArray
    have l1 : i < its.toArray.size := by rw [List.size_toArray]; exact (List.getElem?_eq_some_iff.mp hu).1
    have l2 : i < its2.toArray.size := by rw [List.size_toArray]; exact (List.getElem?_eq_some_iff.mp hu2).1
    have hZ' : ZAt z TI TO i1 i2 (fun i h => ItAt t1 h i1 a i ∧ IsSq t1 h a its.toArray) (fun i h => ItAt t2 h i2 b i ∧ IsSq t2 h b its2.toArray) i s.heap := ⟨hZ.zip, hZ.ti, hZ.to, ⟨hZ.st1, p⟩, ⟨hZ.st2, p2⟩⟩
    refine next_enumZ_item S D1 D2 he hZ' l1 l2 hef fun x1 x2 h' tk e1 e2 ho hZ2 hT1 hT2 hk => ?_
    have e1' : its.toArray[i]? = some u := by simpa using hu
    have e2' : its2.toArray[i]? = some u2 := by simpa using hu2
    rw [e1'] at e1
    rw [e2'] at e2
    cases e1
    cases e2
    have hel : e < s.heap.objs.size := Heap.lt_size he
    refine ⟨_, rfl, wpAny_letOwnedTupleGo_enum (s := { s with heap := h', toks := tk + 1 }) ho fun h'' he' sb => ?_⟩
    replace sb : Heap.SameBut e h' h'' := sb
    have up : ∀ c o, c ≠ e → h'.get? c = some o → h''.get? c = some o := fun c o hc q => (sb.2 c hc).trans q
    have hT1' := up _ _ (Nat.ne_of_gt hel) hT1
    have hT2' := up _ _ (Nat.ne_of_gt (Nat.lt_succ_of_lt hel)) hT2
    have I1 : L2.Inv X pins σ (upd (upd H s.heap.objs.size (.tup [x, y])) (s.heap.objs.size + 1) (.tup [.int (i : Nat), .ref s.heap.objs.size])) { s with heap := h'', toks := tk + 1 } :=
      turnedNew2 (ch := [e, z, TI, TO, i1, i2]) I (fun c o hb q => up c o (fun z => hb (by simp [z])) (hk c o (fun z => hb (by simp [z])) (fun z => hb (by simp [z])) (fun z => hb (by simp [z])) (fun z => hb (by simp [z])) (fun z => hb (by simp [z])) q)) hf (Nat.le_refl _) (Nat.le_succ _) (Nat.ne_of_lt (Nat.lt_succ_self _))
        ⟨by show 2 ≤ sizeLine; decide, [u, u2], .cons ru (.cons ru2 .nil), ⟨_, hT1', rfl, _, rfl⟩⟩ ⟨by show 2 ≤ sizeLine; decide, [.int i tk, .ref s.heap.objs.size], .cons ⟨_, rfl⟩ (.cons rfl .nil), ⟨_, hT2', rfl, _, rfl⟩⟩
    refine ⟨.ref (s.heap.objs.size + 1), _, I1, rfl, ⟨s.heap.objs.size, s.heap.objs.size + 1, x, y, rfl, I.hok.fresh (Nat.le_refl _), I.hok.fresh (Nat.le_succ _), Nat.ne_of_lt (Nat.lt_succ_self _), rfl, fun l hl => by rw [sq_inj I hl hqx]; exact hx, fun l hl => by rw [sq_inj I hl hqy]; exact hy⟩, ⟨⟨.ref s.heap.objs.size, ?_⟩, ?_⟩, fun c hc => ?_⟩
    · have e1 : ((i + 1 : Nat) : Int) = (i : Int) + 1 := by omega
      rw [e1]; exact he'
    · obtain ⟨⟨f0, f1, hz, q0⟩, hTI, ⟨a1, a2, hTO⟩, st1, st2⟩ := hZ2
      have ez : z ≠ e := fun q => hef (by simp [q])
      have eTI : TI ≠ e := fun q => hef (by simp [q])
      have eTO : TO ≠ e := fun q => hef (by simp [q])
      have e1 : i1 ≠ e := fun q => hef (by simp [q])
      have e2 : i2 ≠ e := fun q => hef (by simp [q])
      exact ⟨⟨f0, f1, up _ _ ez hz, q0⟩, up _ _ eTI hTI, ⟨a1, a2, up _ _ eTO hTO⟩, st1.1.at fun o q => up _ o e1 q, st2.1.at fun o q => up _ o e2 q⟩
    · obtain ⟨o, q⟩ := obj c hc
      have lt := Heap.lt_size q
      rw [upd_ne (Nat.ne_of_lt (Nat.lt_succ_of_lt lt)), upd_ne (Nat.ne_of_lt lt)]
      exact (hf c hc).1
  done := by
    intro X hP hw hK hc i pins s σ H E I hf st hg
    subst hP hw hK
    obtain ⟨⟨old, he⟩, hZ⟩ := st
    obtain ⟨xs, ys, hqx, hqy, hend⟩ := hg
    obtain ⟨its, rv, p, _⟩ := sq_inv I hqx
    obtain ⟨its2, rv2, p2, _⟩ := sq_inv I hqy
    have hh : X.A.in1.in1.handled = none := I.ok.hd hc
    have D1 := draws_s (prog := X.prog) (w := X.w) hh t1 i1 a n1 its.toArray
    have D2 := draws_s (prog := X.prog) (w := X.w) hh t2 i2 b n2 its2.toArray
    have hn : i = min its.toArray.size its2.toArray.size := by
      rw [List.size_toArray, List.size_toArray, ← rv.length, ← rv2.length]; exact hend.symm
    have hZ' : ZAt z TI TO i1 i2 (fun i h => ItAt t1 h i1 a i ∧ IsSq t1 h a its.toArray) (fun i h => ItAt t2 h i2 b i ∧ IsSq t2 h b its2.toArray) i s.heap := ⟨hZ.zip, hZ.ti, hZ.to, ⟨hZ.st1, p⟩, ⟨hZ.st2, p2⟩⟩
    exact next_enumZ_end S D1 D2 he hZ' hn fun h' tk hk => ⟨rfl, I.turnedL (ch := [e, z, TI, TO, i1, i2]) (fun c o hb q => hk c o (fun z => hb (by simp [z])) (fun z => hb (by simp [z])) (fun z => hb (by simp [z])) (fun z => hb (by simp [z])) q) hf⟩
  self := fun A i s Q E st h => let ⟨⟨_, he⟩, _⟩ := st; wpAny_pyIter_enum he h
/-! ### enumerate(z), z an iterator -/
theorem meets_enumI {z TI TO : Addr} : Meets (Builtin.«enumerate.__new__» ⟨[.type "enumerate", .ref z], []⟩) (fun _ R s => IsZip s.heap z TI TO .none ∧
      R (.ok (.ret (.ref s.heap.objs.size))) { s with heap := s.heap.push { cls := .type "enumerate", data := .fields #[.none, .bool false, .ref z, rawInt 0, .none, .none] } }) :=
  .of_wp fun prog w A R s h => by
    obtain ⟨hp, g, d, tk, os⟩ := s; obtain ⟨h1, h⟩ := h
    have hsub := sub_enumerate
    have q1 : ∀ {A' : Around} {E : Value → Shared → Prop} {Q : Value → Shared → Prop}, Q (.ref z) ⟨hp, g, d, tk, os⟩ → wpAny (model prog w) A' (pyIter (.ref z)) Q E ⟨hp, g, d, tk, os⟩ :=
      fun q => wpAny_pyIter_zip (s := ⟨hp, g, d, tk, os⟩) h1 q
    wp_walk using q1
    refine wpAny_stack_any fun st => wpAny_pure ?_
    split
    · rename_i c _ _ _ _ _
      cases (c == Value.type "enumerate")
      · wp_walk using q1
        exact ⟨_, rfl, h⟩
      · wp_walk using q1
        exact ⟨_, rfl, h⟩
    · wp_walk using q1
      exact ⟨_, rfl, h⟩
section
variable {prog : Program} {w : World} {A : Around} {E : Value → Shared → Prop} {s : Shared}
theorem call_enumI {z TI TO : Addr} {Q : Value → Shared → Prop} (hz : IsZip s.heap z TI TO .none)
    (h : ∀ h', IsEnum h' s.heap.objs.size z 0 .none → h'.objs.size = s.heap.objs.size + 1 → (∀ b o, s.heap.get? b = some o → h'.get? b = some o) → Q (.ref s.heap.objs.size) { s with heap := h' }) :
    wpAny (model prog w) A (call (.type "enumerate") [.ref z]) Q E s := by
  refine callType_new PySem.F.called_enumerate (by decide) (PySem.F.typeCall_enumerate_1 _) (PySem.F.newCall_enumerate_1 _) (fun obj => PySem.F.args_object_init_2 obj _) PySem.F.entry_enumerate_new
    (meets_enumI (z := z) (TI := TI) (TO := TO)) ⟨hz, ?_⟩
  have he : IsEnum (s.heap.push { cls := .type "enumerate", data := .fields #[.none, .bool false, .ref z, rawInt 0, .none, .none] }) s.heap.objs.size z 0 .none := Heap.get?_push_size _ rfl
  exact ⟨⟨_, he, rfl⟩, h _ he (Heap.size_push ..) fun b o x => Heap.get?_push_of_some _ x⟩
end
end TK

/-! the reflected layer, 23: zip of three, enumerate(zip(a, b)) -/
namespace TK
open PySem PySem.Spec PyProof.Rows L2
def iEnumZ (K : PySem.W.Frag) (ta : TA) : TI := fun σ H R => ta σ H fun vs H1 => ∃ t1 a t2 b xs ys, vs = [.ref a, .ref b] ∧ SqS t1 K H1 a xs ∧ SqS t2 K H1 b ys ∧ R (IteZ K t1 a t2 b) H1
theorem pi_enumZ {X : Cx} {e e2 : Expr} {ta : TA} {p p2 pos pos2 tpos : Pos} {elts : List Expr} {kk : Nat} (hg : Gl X "enumerate") (hm : X.mg "enumerate" = none) (hg2 : Gl X "zip") (hm2 : X.mg "zip" = none) (ha : PA X [e, e2] ta)
    (hs : starEach [e, e2] X.env = (false, eval e X.env) :: starEach [e2] X.env) (hpl : (backTo pos2 (starEach [e2] X.env)).any (·.1) = false) :
    PI X (.Tuple elts kk tpos) (.Call (.Name "enumerate" p) [.Call (.Name "zip" p2) [e, e2] [] pos2] [] pos) (iEnumZ X.K ta) := by
  refine ⟨fun pins s σ H R I h => ?_⟩
  refine Call_ (ld_blt I hg hm boot_enumerate ?_)
  refine PyProof.Rows.callWith_type1 (PyProof.Rows.args_cons ?_ rfl) rfl rfl
  refine Call_ (ld_blt I hg2 hm2 PyProof.Rows.boot_zip (PyProof.Rows.callWith_type1 (thn (ha.run pos2 pins s σ H _ I h) fun us s1 ⟨vs, H1, I1, r1, q1⟩ => ?_) hs hpl))
  obtain ⟨t1, a, t2, b, xs, ys, ex, hqx, hqy, q⟩ := q1
  subst ex
  cases r1 with
  | cons r rr =>
    cases rr with
    | cons r' rr =>
      cases rr
      cases r
      cases r'
      obtain ⟨its, rv, p1, _⟩ := sq_inv I1 hqx
      obtain ⟨its2, rv2, p2, _⟩ := sq_inv I1 hqy
      have la := p1.lt
      have lb := p2.lt
      refine zip_begins2 (begins_s t1 a its.toArray) (begins_s t2 b its2.toArray) p1 p2 fun h' hz hTI hTO g1 g2 hsz hk => ?_
      refine PyProof.Rows.args_nil ?_
      refine call_enumI (s := { s1 with heap := h' }) hz fun h'' he hsz2 hk2 => wpAny_pyIter_enum he ?_
      replace hk2 : ∀ b o, h'.get? b = some o → h''.get? b = some o := hk2
      have ez : h'.objs.size = s1.heap.objs.size + 5 := hsz
      have I2 : L2.Inv X pins σ H1 { s1 with heap := h'' } := I1.kept (t' := s1.toks) fun b o q => hk2 b o (hk b o q)
      have S := zip_sep2 (fp1 := [a]) (fp2 := [b]) (by simpa using la) (by simpa using lb)
      have hef : h'.objs.size ∉ (s1.heap.objs.size + 4) :: (s1.heap.objs.size + 2) :: (s1.heap.objs.size + 3) :: ([s1.heap.objs.size, a] ++ [s1.heap.objs.size + 1, b]) := by
        rw [ez]
        simp only [List.cons_append, List.nil_append, List.mem_cons, List.not_mem_nil, or_false, not_or]
        refine ⟨?_, ?_, ?_, ?_, Nat.ne_of_gt (Nat.lt_of_lt_of_le la (Nat.le_add_right _ 5)), ?_, Nat.ne_of_gt (Nat.lt_of_lt_of_le lb (Nat.le_add_right _ 5))⟩ <;> (intro z; have z : (s1.heap.objs.size + 5 : Nat) = _ := z; omega)
      refine ⟨h'.objs.size, [h'.objs.size, s1.heap.objs.size + 4, s1.heap.objs.size + 2, s1.heap.objs.size + 3, s1.heap.objs.size, s1.heap.objs.size + 1], _, _, H1, rfl, I2,
        turn_enumZ S (Nat.ne_of_lt la) (Nat.ne_of_lt (Nat.lt_succ_of_lt lb)) hef, ⟨⟨.none, he⟩, ⟨.none, false, hk2 _ _ hz, .inl rfl⟩, hk2 _ _ hTI, ⟨_, _, hk2 _ _ hTO⟩, itAt0 (hk2 _ _ g1), itAt0 (hk2 _ _ g2)⟩, fun c hcm => ?_, q⟩
      have hle : s1.heap.objs.size ≤ c := by
        rw [ez] at hcm
        have e' : c = s1.heap.objs.size + 5 ∨ c = s1.heap.objs.size + 4 ∨ c = s1.heap.objs.size + 2 ∨ c = s1.heap.objs.size + 3 ∨ c = s1.heap.objs.size ∨ c = s1.heap.objs.size + 1 := by simpa using hcm
        rcases e' with z | z | z | z | z | z <;> rw [z] <;> first | exact Nat.le_refl _ | exact Nat.le_add_right _ _
      exact I1.fpOk hle (I1.hok.fresh hle)
/-- a number and a pair, in new tuples -/
def YNP (f g : Nat → Option V) : Nat → Hp → V → Hp → Prop := fun i H v H' => ∃ T1 T2 x y, v = .ref T2 ∧ H T1 = none ∧ H T2 = none ∧ T1 ≠ T2 ∧ H' = upd (upd H T1 (.tup [x, y])) T2 (.tup [.int (i : Nat), .ref T1]) ∧ f i = some x ∧ g i = some y
theorem walk_enumZ {K : PySem.W.Frag} {t1 t2 : Bool} {a b : Addr} {xs ys : List V} {n : Nat} (hn : n = min xs.length ys.length) : Walk (IteZ K t1 a t2 b) n (fun H => SqS t1 K H a xs ∧ SqS t2 K H b ys) (YNP (fun i => xs[i]?) (fun i => ys[i]?)) := by
  subst hn
  refine ⟨fun i H hi z => ?_, fun H z => ⟨xs, ys, z.1, z.2, rfl⟩, fun i H v H' _ z y => ?_⟩
  · have h1 : i < xs.length := by omega
    have h2 : i < ys.length := by omega
    exact ⟨xs, ys, xs[i], ys[i], z.1, z.2, by simp [h1], by simp [h2]⟩
  · obtain ⟨T1, T2, x, u, h1, h2, h3, h4, h5, h6, h7⟩ := y
    exact ⟨T1, T2, x, u, h1, h2, h3, h4, h5, h6 xs z.1, h7 ys z.2⟩
section
variable {X : Cx} {E : XK} {Γ : List FnSem} {k : Nat} {m : Bool} {pos pos2 p p2 : Pos}
theorem ynp_ok {w : Dr} {G : Hp} {xs ys : List V} {ds es : List D} (r : RpAll w G xs ds) (r' : RpAll w G ys es) : YOk w G (((ds.zip es).zipIdx).map fun p => .tuple [.int (p.2 : Nat), .tuple [p.1.1, p.1.2]]) (YNP (fun i => xs[i]?) (fun i => ys[i]?)) := fun i H1 x H2 O1 hi y le alc => by
  obtain ⟨T1, T2, x1, x2, rfl, hT1, hT2, hne, rfl, e1, e2⟩ := y
  obtain ⟨d1, f1, rp1⟩ := r.get e1
  obtain ⟨d2, f2, rp2⟩ := r'.get e2
  have oT1 : O1 T1 = false := by
    cases z : O1 T1 with
    | false => rfl
    | true => exact absurd hT1 (alc T1 z)
  have oT2 : O1 T2 = false := by
    cases z : O1 T2 with
    | false => rfl
    | true => exact absurd hT2 (alc T2 z)
  have hT2' : (upd H1 T1 (.tup [x1, x2])) T2 = none := by rw [upd_ne (fun z => hne z.symm)]; exact hT2
  have le2 : Le (hid H1 O1) (hid (upd H1 T1 (.tup [x1, x2])) O1) := (Ext.new (ps := w.ps) hT1).le
  have le3 : Le (hid (upd H1 T1 (.tup [x1, x2])) O1) (hid (upd (upd H1 T1 (.tup [x1, x2])) T2 (.tup [.int (i : Nat), .ref T1])) O1) := (Ext.new (ps := w.ps) hT2').le
  refine ⟨.step (.step (.refl _) hT1) hT2', .tuple [.int (i : Nat), .tuple [d1, d2]], ?_, .tup (by rw [hid_of oT2]; exact upd_same) (.cons (.int _) (.cons (.tup (by rw [hid_of oT1, upd_ne hne]; exact upd_same) ?_) .nil))⟩
  · rw [List.getElem?_map, List.getElem?_zipIdx, (List.getElem?_zip_eq_some (z := (d1, d2))).mpr ⟨f1, f2⟩]
    simp
  · exact .cons (rp1.mono (le.trans (le2.trans le3))) (.cons (rp2.mono (le.trans (le2.trans le3))) .nil)
theorem enz_len {ds es : List D} : (((ds.zip es).zipIdx).map fun (p : (D × D) × Nat) => PyData.tuple [.int (p.2 : Nat), .tuple [p.1.1, p.1.2]]).length = min ds.length es.length := by rw [List.length_map, List.length_zipIdx, List.length_zip]
theorem i_enumZip {e e' : Expr} {A B : TK.E} {tpos : Pos} {elts : List Expr} {kk : Nat} (hg : Gl X "enumerate") (hm : X.mg "enumerate" = none) (hg2 : Gl X "zip") (hm2 : X.mg "zip" = none) (h : PE X e (rdM X.K X.mg E Γ m A)) (h' : PE X e' (rdM X.K X.mg E Γ m B)) (hs : notStar e = true) (hs' : notStar e' = true) :
    PI X (.Tuple elts kk tpos) (.Call (.Name "enumerate" p) [.Call (.Name "zip" p2) [e, e'] [] pos2] [] pos) (rdI X.K X.mg E Γ m .enumZip [A, B]) := by
  refine (pi_enumZ hg hm hg2 hm2 (pa_cons h (pa_cons h' pa_nil (star_ok hs')) (star_ok hs)) (star_ok hs) (star_any (by rw [List.all_cons, hs']; rfl))).len.weak fun σ H R q => ?_
  obtain ⟨w, O0, H0, O, env, st, rr, st', Re, q, oo⟩ := q
  refine rdM_bind Re (evsM2 q) oo fun d st1 v H1 R1 p1 b1 h1 o1 => ?_
  refine rdM_bind R1 h1 o1 fun d' st2 v' H2 R2 p2 b2 h2 o2 => ?_
  have b1 := b1.ext p2.1
  obtain ⟨items, h3, rfl, rfl⟩ := liftO_inv h2
  obtain ⟨x, hx, h4⟩ := Option.bind_eq_some_iff.mp (show ((seqOf d).bind fun x => (seqOf d').map fun y => ((x.zip y).zipIdx).map fun p => PyData.tuple [.int (p.2 : Nat), .tuple [p.1.1, p.1.2]]) = some items from h3)
  obtain ⟨y, hy, rfl⟩ := Option.map_eq_some_iff.mp h4
  obtain ⟨t1, a, xs, rfl, g1, r1, np1, f1⟩ := seq_src R2 b1 hx
  obtain ⟨t2, a', xs', rfl, g2, r2, np2, f2⟩ := seq_src R2 b2 hy
  refine ⟨t1, a, t2, a', xs, xs', rfl, SqS.of g1, SqS.of g2, fun hl => o2 H2 R2.here _ ⟨[(a, HOs t1 xs), (a', HOs t2 xs')], _, fun p hp => ?_, ?_, ynp_ok r1 r2, fun p hp => ?_⟩ ?_⟩
  · rcases List.mem_cons.mp hp with rfl | hp
    · exact g1
    · rw [List.mem_singleton.mp hp]; exact g2
  · exact (walk_enumZ (by rw [enz_len, r1.length, r2.length])).mono (fun H z => ⟨SqS.of (z.1 (a, HOs t1 xs) List.mem_cons_self), SqS.of (z.1 (a', HOs t2 xs') (by simp))⟩) fun _ _ _ _ _ _ y => y
  · rcases List.mem_cons.mp hp with rfl | hp
    · exact ⟨np1, f1, HOs.is t1 xs⟩
    · rw [List.mem_singleton.mp hp]; exact ⟨np2, f2, HOs.is t2 xs'⟩
  · rw [enz_len, ← r1.length]
    have := SqS.len g1 hl
    omega
theorem j_enumZip {e e' : Expr} {A B : TK.E} {tpos : Pos} {elts : List Expr} {kk : Nat} (c : Cxt X k E) (hg : Gl X "enumerate") (hg2 : Gl X "zip") (hs : notStar e = true) (hs' : notStar e' = true) (h : PE X e (rdM X.K X.mg E Γ m A)) (h' : PE X e' (rdM X.K X.mg E Γ m B)) :
    PI X (.Tuple elts kk tpos) (.Call (.Name "enumerate" p) [.Call (.Name "zip" p2) [e, e'] [] pos2] [] pos) (rdI X.K X.mg E Γ m .enumZip [A, B]) :=
  i_enumZip hg (c.blt _ (mem_blt (by decide +kernel))) hg2 (c.blt _ (mem_blt (by decide +kernel))) h h' hs hs'
theorem j_zip3 {e e' e'' : Expr} {A B C : TK.E} {tpos : Pos} {elts : List Expr} {kk : Nat} (c : Cxt X k E) (hg : Gl X "zip") (hs : notStar e = true) (hs' : notStar e' = true) (hs'' : notStar e'' = true) (h : PE X e (rdM X.K X.mg E Γ m A)) (h' : PE X e' (rdM X.K X.mg E Γ m B)) (h'' : PE X e'' (rdM X.K X.mg E Γ m C)) :
    PI X (.Tuple elts kk tpos) (.Call (.Name "zip" p) [e, e', e''] [] pos) (rdI X.K X.mg E Γ m .zip3 [A, B, C]) := i_zip3 hg (c.blt _ (mem_blt (by decide +kernel))) h h' h'' hs hs' hs''
end
end TK

/-! the reflected layer, 24: walking a dict by its keys; it is locked for good -/
namespace TK
open PySem PySem.Spec PyProof.Rows L2
def iKeysF (td : TE) : TI := fun σ H R => td σ H fun x H1 => ∃ d kvs, x = .ref d ∧ ((H1 d = some (.dK kvs) ∧ ∀ o, kvs.length ≤ sizeLine → R (Itk d o kvs) (upd H1 d (.frz o (.dK kvs)))) ∨ ∃ o, H1 d = some (.frz o (.dK kvs)) ∧ (kvs.length ≤ sizeLine → R (Itk d o kvs) H1))
theorem pi_keysF {X : Cx} {tg e : Expr} {td : TE} (he : PE X e td) : PI X tg e (iKeysF td) := by
  refine ⟨fun pins s σ H R I h => ?_⟩
  refine thn (he.run pins s σ H _ I h) fun u s1 ⟨x, H1, I1, rx, d, kvs, ex, q⟩ => ?_
  subst ex
  obtain rfl : u = Value.ref d := rx
  have key : ∀ (H2 : Hp) (o : Obj), L2.Inv X pins σ H2 s1 → H2 d = some (.frz o (.dK kvs)) → (kvs.length ≤ sizeLine → R (Itk d o kvs) H2) → wpAny (model X.prog X.w) X.A (pyIter (.ref d)) (PIE X pins σ tg R) X.xe s1 := fun H2 o I2 hd q => by
    obtain ⟨hs, hgd, hx, es, ep, vs, hdt, hsz, kv, hm⟩ := I2.frzK hd
    obtain ⟨_, hz, _⟩ := I2.hok d _ hd
    replace q := q hz
    refine iter_keys hs hgd hx hdt (pi_one (tk := s1.toks) I2 _ (turn_keys _ hdt) ⟨_, Heap.get?_push_size _ rfl, rfl, ?_⟩ q)
    rw [hsz] <;> rfl
  rcases q with ⟨hd, q⟩ | ⟨o, hd, q⟩
  · obtain ⟨od, I2⟩ := I1.lock hd trivial
    exact key _ od I2 upd_same (q od)
  · exact key _ o I1 hd q
/-- each key, as it is -/
def YKey (kvs : List (Key × V)) : Nat → Hp → V → Hp → Prop := fun i H x H' => H' = H ∧ ∃ k v, kvs[i]? = some (k, v) ∧ x = kV k
theorem walk_keysF {d : Addr} {o : Obj} {kvs : List (Key × V)} : Walk (Itk d o kvs) kvs.length (fun H => H d = some (.frz o (.dK kvs))) (YKey kvs) :=
  ⟨fun i H hi z => ⟨z, hi⟩, fun H z => ⟨z, Nat.le_refl _⟩, fun i H v H' _ z y => y⟩
section
variable {X : Cx} {E : XK} {Γ : List FnSem} {k : Nat} {m : Bool} {tg : Expr}
theorem RpKV.at {w : Dr} {G : Hp} : ∀ {kvs : List (Key × V)} {l : List (D × D)}, RpKV w G kvs l → ∀ {i : Nat} {k : Key} {v : V}, kvs[i]? = some (k, v) → keyS k = true ∧ ∃ d, l[i]? = some (keyD k, d)
  | _, _, .nil, i, k, v, h => by simp at h
  | _, _, .cons a b c, 0, k, v, h => by cases h; exact ⟨a, _, rfl⟩
  | _, _, .cons a b c, i + 1, k, v, h => c.at (i := i) h
theorem RpKV.len {w : Dr} {G : Hp} : ∀ {kvs : List (Key × V)} {l : List (D × D)}, RpKV w G kvs l → kvs.length = l.length
  | _, _, .nil => rfl
  | _, _, .cons a b c => by rw [List.length_cons, List.length_cons, c.len]
theorem rp_key {w : Dr} {G : Hp} (k : Key) (h : keyS k = true) : Rp w G (kV k) (keyD k) := by
  cases k with
  | inl i => exact .int i
  | inr x => exact .str x h
theorem ykey_ok {w : Dr} {G G' : Hp} {kvs : List (Key × V)} {l : List (D × D)} (r : RpKV w G' kvs l) : YOk w G (l.map (·.1)) (YKey kvs) := fun i H1 x H2 O1 hi y le alc => by
  obtain ⟨rfl, k, v, e, rfl⟩ := y
  obtain ⟨ks, d, hd⟩ := r.at e
  exact ⟨.refl _, keyD k, by rw [List.getElem?_map, hd]; rfl, rp_key k ks⟩
theorem Rel.postLock {K : PySem.W.Frag} {w : Dr} {O0 O : Addr → Bool} {H0 H : Hp} {σ : L2.St} {env : Env} {st : DSt} (R : Rel K w O0 H0 O σ H env st) {d : Addr} {kvs : List (Key × V)} (hd : H d = some (.dK kvs)) (hO : O d = false) (o : Obj) : Post O w.ps H st (upd H d (.frz o (.dK kvs))) := by
  refine ⟨⟨fun b u hb n e => ?_, fun b u hb e => ?_⟩, ?_⟩
  · rw [upd_ne (fun z => by rw [z, hO] at hb; cases hb)]; exact e
  · by_cases hbd : b = d
    · subst hbd
      rw [hd] at e
      cases e
      exact ⟨_, upd_same, .inr ⟨o, rfl, .inl ⟨_, rfl⟩⟩⟩
    · exact ⟨u, by rw [upd_ne hbd]; exact e, .refl u⟩
  · rw [upd_ne (fun z => by rw [← z, R.sub _ R.ops] at hO; cases hO)]; exact R.sts
theorem keys_dK {w : Dr} {G : Hp} {kvs : List (Key × V)} {l : List (D × D)} (r : RpKV w G kvs l) : app1 .keys (.tuple [.dict l]) = some (.list (l.map (·.1))) := by
  cases r with
  | nil => rfl
  | cons a b c =>
    rename_i k v r' d l'
    cases k <;> rfl
theorem i_keys {e : Expr} {A : TK.E} (h : PE X e (rd X.K X.mg E Γ A)) : PI X tg e (rdI X.K X.mg E Γ m .plain [.op1 .keys (.tup [A])]) := by
  refine (pi_keysF h).weak fun σ H R q => ?_
  obtain ⟨w, O0, H0, O, env, st, rr, st', Re, q, oo⟩ := q
  have q' : (ev Γ env A >>= fun d => liftO ((app1 .keys (.tuple [d])).bind fun x => walkL .plain [x])) st = some (rr, st') := by
    have key : ∀ d : D, (if ([d] : List D).length ≤ lim then (pure (.tuple [d]) : M D) else fail) = pure (.tuple [d]) := fun d => if_pos (by rw [lim_eq, List.length_singleton]; decide)
    have fin : ∀ d : D, (liftO (app1 .keys (.tuple [d])) >>= fun x => liftO (walkL .plain [x])) = liftO ((app1 .keys (.tuple [d])).bind fun x => walkL .plain [x]) := fun d => by
      cases app1 .keys (.tuple [d]) <;> rfl
    cases m with
    | true =>
      have q : (((((ev Γ env A >>= fun d => (pure [] : M (List D)) >>= fun ds => pure (d :: ds)) >>= fun ds => if ds.length ≤ lim then (pure (.tuple ds) : M D) else fail) >>= fun x => liftO (app1 .keys x)) >>= fun d => (pure [] : M (List D)) >>= fun ds => pure (d :: ds)) >>= fun ds => liftO (walkL .plain ds)) st = some (rr, st') := q
      simp only [bind_assoc', pure_bind', key, fin] at q
      exact q
    | false =>
      have q : (((((ev Γ env A >>= fun d => (pure [] : M (List D)) >>= fun ds => pure (d :: ds)) >>= fun ds => if ds.length ≤ lim then (pure (.tuple ds) : M D) else fail) >>= fun x => liftO (app1 .keys x)) >>= fun d => (pure [] : M (List D)) >>= fun ds => pure (d :: ds)) >>= fun ds => liftO (walkL .plain ds)) st = some (rr, st') := q
      simp only [bind_assoc', pure_bind', key, fin] at q
      exact q
  refine rd_bind Re q' oo fun d st1 v H1 R1 p1 b1 h1 o1 => ?_
  obtain ⟨items, h3, rfl, rfl⟩ := liftO_inv h1
  cases d with
  | dict l0 =>
    generalize hl0 : PyData.dict l0 = dd at b1 h3
    cases b1 with
    | dK a r =>
      rename_i ad kvs l
      rw [keys_dK r] at h3
      cases h3
      have fin : ∀ (H2 : Hp) (o : Obj), Post O w.ps H1 st' H2 → H2 ad = some (.frz o (.dK kvs)) → O ad = false → kvs.length ≤ sizeLine → R (Itk ad o kvs) H2 := fun H2 o p hd hO hz => by
        refine o1 H2 p _ ⟨[(ad, .frz o (.dK kvs))], YKey kvs, fun q hq => ?_, ?_, ykey_ok r, fun q hq => ?_⟩ (by rw [List.length_map, ← r.len]; exact hz)
        · rw [List.mem_singleton.mp hq]; exact hd
        · rw [List.length_map, ← r.len]
          exact walk_keysF.mono (fun H z => z.1 (ad, .frz o (.dK kvs)) List.mem_cons_self) fun _ _ _ _ _ _ y => y
        · rw [List.mem_singleton.mp hq]
          exact ⟨fun z => (by have z : ad = w.ps := z; rw [z, R1.sub _ R1.ops] at hO; cases hO), fun _ => hO, .inr (.inr ⟨o, _, rfl, hO⟩)⟩
      rcases a with a | ⟨od, a⟩
      · obtain ⟨hO, hd⟩ := hid_some a
        exact ⟨ad, kvs, rfl, .inl ⟨hd, fun o hz => fin _ o (R1.postLock hd hO o) upd_same hO hz⟩⟩
      · obtain ⟨hO, hd⟩ := hid_some a
        exact ⟨ad, kvs, rfl, .inr ⟨od, hd, fun hz => fin H1 od R1.here hd hO hz⟩⟩
    | dT a r => cases h3
    | tok => cases h3
    | scr => cases h3
    | _ => cases hl0
  | _ => cases h3
end
end TK

/-! the defs of the program and of the laws, as the interpreter reads them -/
namespace TK.P
open PySem TK
abbrev nn : E := .con .none
def deep : Nat := 8
def b_is_ascending : Fn := ⟨1, 3, [.ret (.op1 .all (.comp [1, 2] (.t [(.n 1), (.n 2)]) .zip2 [.var 0, .slc (.var 0) (some (.con (.int 1))) none] [] (.op2 .lt (.var 1) (.var 2))))]⟩
def f_is_ascending : FnSem := run [] b_is_ascending
def b_is_word : Fn := ⟨1, 2, [.ite (.or (.op1 .not (.op1 (.isi .str) (.var 0))) (.op1 .not (.chain .le .le (.con (.int 1)) (.op1 .len (.var 0)) (.con (.int 4))))) [.ret (.con (.bool false))] [],
  .ret (.op1 .all (.comp [1] (.n 1) .plain [.var 0] [] (.chain .le .le (.con (.str "a")) (.var 1) (.con (.str "z")))))]⟩
def f_is_word : FnSem := run [] b_is_word
def b_are_keys : Fn := ⟨1, 2, [.ite (.or (.op1 .not (.op1 (.isi .tuple) (.var 0))) (.or (.op2 .gt (.op1 .len (.var 0)) (.con (.int 6))) (.op1 .not (.op1 .all (.comp [1] (.n 1) .plain [.var 0] [] (.call 0 [.var 1])))))) [.ret (.con (.bool false))] [],
  .ret (.call 1 [.var 0])]⟩
def f_are_keys : FnSem := run [f_is_word, f_is_ascending] b_are_keys
def b_is_lock : Fn := ⟨1, 1, [.ite (.or (.op1 .not (.op1 (.isi .tuple) (.var 0))) (.or (.op2 .ne (.op1 .len (.var 0)) (.con (.int 3))) (.op1 .not (.call 0 [.op2 .ix (.var 0) (.con (.int 0))])))) [.ret (.con (.bool false))] [],
  .ret (.and (.call 1 [.op2 .ix (.var 0) (.con (.int 1))]) (.call 1 [.op2 .ix (.var 0) (.con (.int 2))]))]⟩
def f_is_lock : FnSem := run [f_is_word, f_are_keys] b_is_lock
def b_is_plant : Fn := ⟨1, 2, [.ite (.or (.op1 .not (.op1 (.isi .tuple) (.var 0))) (.op1 .not (.chain .le .le (.con (.int 1)) (.op1 .len (.var 0)) (.con (.int 8))))) [.ret (.con (.bool false))] [],
  .ret (.and (.op1 .all (.comp [1] (.n 1) .plain [.var 0] [] (.call 0 [.var 1]))) (.call 1 [.comp [1] (.n 1) .plain [.var 0] [] (.op2 .ix (.var 1) (.con (.int 0)))]))]⟩
def f_is_plant : FnSem := run [f_is_lock, f_is_ascending] b_is_plant
def b__law_draw : Fn := ⟨3, 8, [.ite (.op1 .not (.op3 2 (.var 1) nn nn)) [.tokApp 1 (.op1 .max (.op2 .add (.comp [4] (.n 4) .plain [.var 0] [] (.op1 .abs (.var 4))) (.lst [.con (.int 0)])))] [],
  .tokApp 1 (.con (.int 0)),
  .asg false 3 (.op3 0 (.var 1) nn nn),
  .asg false 4 (.ite (.op3 5 (.var 0) nn nn) (.op3 4 (.var 0) (.op2 .mod (.var 3) (.op3 3 (.var 0) nn nn)) nn) (.con (.int 0))),
  .asg false 5 (.op2 .mod (.op3 1 (.var 1) nn nn) (.con (.int 65536))),
  .tokSet 1 (.op2 .fdiv (.op3 1 (.var 1) nn nn) (.con (.int 65536))),
  .asg false 6 (.op2 .mod (.op2 .add (.op2 .add (.var 4) (.op2 .mul (.con (.int 40503)) (.var 5))) (.op2 .mul (.con (.int 104729)) (.var 3))) (.con (.int 4294967291))),
  .asg false 6 (.op2 .mod (.op2 .mul (.op2 .mod (.op2 .mul (.var 6) (.var 6)) (.con (.int 4294967279))) (.con (.int 48271))) (.con (.int 4294967291))),
  .asg false 7 (.op2 .mod (.op2 .mul (.op2 .mod (.op2 .mul (.var 6) (.var 6)) (.con (.int 4294967279))) (.con (.int 69621))) (.con (.int 4294967291))),
  .ret (.op2 .mod (.op2 .add (.op2 .mul (.op2 .fdiv (.var 6) (.con (.int 64))) (.con (.int 67108864))) (.op2 .fdiv (.var 7) (.con (.int 64)))) (.var 2))]⟩
def f__law_draw : FnSem := run [] b__law_draw
def b__law_pick : Fn := ⟨3, 3, [.ret (.op2 .ix (.var 2) (.call 0 [.var 0, .var 1, .op1 .len (.var 2)]))]⟩
def f__law_pick : FnSem := run [f__law_draw] b__law_pick
def b__law_shuffled : Fn := ⟨3, 5, [.par [(3, true), (4, true)] [.op1 .listOf (.var 2), .lst []],
  .while (.var 3) [.appPop 4 3 (.call 0 [.var 0, .var 1, .op1 .len (.var 3)])],
  .ret (.var 4)]⟩
def f__law_shuffled : FnSem := run [f__law_draw] b__law_shuffled
def b__law_bent : Fn := ⟨3, 5, [.ite (.or (.op1 .not (.op1 (.isi .tuple) (.var 2))) (.or (.op1 .not (.var 2)) (.op2 .eq (.call 0 [.var 0, .var 1, .con (.int 4)]) (.con (.int 0))))) [.asg false 4 (.lst [.con .none, .con (.bool true), .con (.bool false), .con (.int 0), .con (.int 1), .op1 .neg (.con (.int 1)), .con (.int 3), .con (.int 10), .con (.str "a"), .con (.str "b"), .con (.str ""), .con (.str "A"), .con (.str "abcd"), .tup [], .lst []]),
  .asg false 4 (.op2 .add (.var 4) (.lst [.tup [.con (.str "k")], .tup [.con (.str "l"), .con (.str "k")], .tup [.con (.int 0), .con (.int 1)], .tup [.con (.str "a"), .con (.int 1)]])),
  .ite (.op1 (.isi .tuple) (.var 2)) [.asg false 4 (.op2 .add (.var 4) (.lst [.op1 .listOf (.var 2), .slc (.var 2) none (some (.op1 .neg (.con (.int 1)))), .op2 .add (.var 2) (.slc (.var 2) (some (.op1 .neg (.con (.int 1)))) none), .slc (.var 2) (some (.con (.int 1))) none, .op1 .rev (.var 2), .op2 .add (.var 2) (.tup [.con .none])]))] [],
  .ite (.op1 (.isi .int) (.var 2)) [.asg false 4 (.op2 .add (.var 4) (.op2 .mul (.lst [.op2 .add (.var 2) (.con (.int 1)), .op2 .sub (.var 2) (.con (.int 1)), .op1 .not (.var 2), .tup [.var 2], .op1 .str (.var 2)]) (.con (.int 2))))] [],
  .ret (.call 1 [.var 0, .var 1, .var 4])] [],
  .asg false 3 (.call 0 [.var 0, .var 1, .op1 .len (.var 2)]),
  .ret (.op2 .add (.op2 .add (.slc (.var 2) none (some (.var 3))) (.tup [.call 2 [.var 0, .var 1, .op2 .ix (.var 2) (.var 3)]])) (.slc (.var 2) (some (.op2 .add (.var 3) (.con (.int 1)))) none))]⟩
def f__law_bent : Nat → FnSem
  | 0 => fun _ => fail
  | n + 1 => run [f__law_draw, f__law_pick, (f__law_bent n)] b__law_bent
def b__law_plant : Fn := ⟨3, 10, [.asg false 3 (.call 0 [.var 0, .var 1, .lst [.con (.str "a"), .con (.str "b"), .con (.str "c"), .con (.str "d"), .con (.str "door"), .con (.str "e"), .con (.str "main"), .con (.str "zz")]]),
  .asg false 4 (.slc (.lst [.con (.str "k"), .con (.str "l"), .con (.str "m"), .con (.str "n"), .con (.str "o"), .con (.str "p")]) none (some (.op2 .add (.con (.int 1)) (.call 1 [.var 0, .var 1, .con (.int 6)])))),
  .par [(6, false), (7, true)] [.call 2 [.var 0, .var 1, .lst [.lst [.con (.int 0), .con (.int 1)], .lst [.con (.int 0), .con (.int 1), .con (.int 1), .con (.int 2)], .lst [.con (.int 1), .con (.int 2)]]], .lst []],
  .for (.n 5) .plain [.op1 .sorted (.slc (.var 3) none (some (.op2 .add (.con (.int 1)) (.call 1 [.var 0, .var 1, .var 2]))))] [.asg false 8 (.slc (.call 0 [.var 0, .var 1, .var 4]) none (some (.call 2 [.var 0, .var 1, .var 6]))),
  .asg false 9 (.slc (.call 0 [.var 0, .var 1, .var 4]) none (some (.call 2 [.var 0, .var 1, .var 6]))),
  .append 7 (.tup [.var 5, .op1 .tupleOf (.op1 .sorted (.var 8)), .op1 .tupleOf (.op1 .sorted (.var 9))])],
  .ret (.op1 .tupleOf (.var 7))]⟩
def f__law_plant : FnSem := run [f__law_shuffled, f__law_draw, f__law_pick] b__law_plant
def b__law_is_word : Fn := ⟨1, 2, [.ite (.or (.op1 .not (.op1 (.isi .str) (.var 0))) (.op1 .not (.chain .le .le (.con (.int 1)) (.op1 .len (.var 0)) (.con (.int 4))))) [.ret (.con (.bool false))] [],
  .ret (.op2 .eq (.comp [1] (.n 1) .plain [.var 0] [.op1 .not (.chain .le .le (.con (.str "a")) (.var 1) (.con (.str "z")))] (.var 1)) (.lst []))]⟩
def f__law_is_word : FnSem := run [] b__law_is_word
def b__law_are_keys : Fn := ⟨1, 2, [.ite (.or (.op1 .not (.op1 (.isi .tuple) (.var 0))) (.op2 .gt (.op1 .len (.var 0)) (.con (.int 6)))) [.ret (.con (.bool false))] [],
  .ite (.comp [1] (.n 1) .plain [.var 0] [.op1 .not (.call 0 [.var 1])] (.var 1)) [.ret (.con (.bool false))] [],
  .ret (.op2 .eq (.op1 .listOf (.var 0)) (.op1 .setSorted (.var 0)))]⟩
def f__law_are_keys : FnSem := run [f__law_is_word] b__law_are_keys
def b__law_is_plant : Fn := ⟨1, 3, [.ite (.or (.op1 .not (.op1 (.isi .tuple) (.var 0))) (.op1 .not (.chain .le .le (.con (.int 1)) (.op1 .len (.var 0)) (.con (.int 8))))) [.ret (.con (.bool false))] [],
  .for (.n 1) .plain [.var 0] [.ite (.or (.op1 .not (.op1 (.isi .tuple) (.var 1))) (.or (.op2 .ne (.op1 .len (.var 1)) (.con (.int 3))) (.op1 .not (.call 0 [.op2 .ix (.var 1) (.con (.int 0))])))) [.ret (.con (.bool false))] [],
  .ite (.or (.op1 .not (.call 1 [.op2 .ix (.var 1) (.con (.int 1))])) (.op1 .not (.call 1 [.op2 .ix (.var 1) (.con (.int 2))]))) [.ret (.con (.bool false))] []],
  .asg false 2 (.comp [1] (.n 1) .plain [.var 0] [] (.op2 .ix (.var 1) (.con (.int 0)))),
  .ret (.op2 .eq (.var 2) (.op1 .setSorted (.var 2)))]⟩
def f__law_is_plant : FnSem := run [f__law_is_word, f__law_are_keys] b__law_is_plant
def b__law_near_misses : Fn := ⟨0, 3, [.par [(0, false), (1, false)] [.op1 .tupleOf (.con (.str "abcdefg")), .op1 .tupleOf (.comp [2] (.n 2) .plain [.con (.str "abcdefghi")] [] (.tup [.var 2, .tup [], .tup []]))],
  .ret (.lst [.var 1, .slc (.var 1) none (some (.con (.int 8))), .tup [], .tup [.tup [.con (.str "a"), .var 0, .tup []]], .tup [.tup [.con (.str "a"), .tup [], .var 0]], .tup [.tup [.con (.str "a"), .slc (.var 0) none (some (.con (.int 6))), .slc (.var 0) none (some (.con (.int 6)))]], .tup [.tup [.con (.str "a"), .tup []]], .tup [.tup [.con (.str "a"), .tup [], .tup [], .tup []]], .tup [.tup [.con (.str "a"), .tup [.con (.str "b"), .con (.str "a")], .tup []]], .tup [.tup [.con (.str "a"), .tup [], .tup [.con (.str "b"), .con (.str "b")]]], .tup [.tup [.con (.str "b"), .tup [], .tup []], .tup [.con (.str "a"), .tup [], .tup []]], .tup [.tup [.con (.str "a"), .tup [], .tup []], .tup [.con (.str "a"), .tup [], .tup []]], .tup [.tup [.con (.str "abcde"), .tup [], .tup []]], .tup [.tup [.con (.str "abcd"), .tup [], .tup []]], .tup [.tup [.con (.str ""), .tup [], .tup []]], .tup [.tup [.con (.str "A"), .tup [], .tup []]], .lst [.tup [.con (.str "a"), .tup [], .tup []]], .tup [.lst [.con (.str "a"), .tup [], .tup []]], .tup [.tup [.con (.str "a"), .lst [.con (.str "k")], .tup []]], .tup [.tup [.con (.str "a"), .tup [], .con .none]], .tup [.tup [.con (.str "a"), .tup [.con (.int 1)], .tup []]], .tup [.tup [.con (.str "a"), .tup [.con (.str "K")], .tup []]]])]⟩
def f__law_near_misses : FnSem := run [] b__law_near_misses
def b_is_integer : Fn := ⟨3, 3, [.ret (.and (.op1 (.isi .int) (.var 0)) (.and (.op1 .not (.op1 (.isi .bool) (.var 0))) (.chain .le .le (.var 1) (.var 0) (.var 2))))]⟩
def f_is_integer : FnSem := run [] b_is_integer
def b_require_plant : Fn := ⟨1, 1, [.ite (.op1 .not (.call 0 [.var 0])) [.raise "InvalidPlant"] []]⟩
def f_require_plant : FnSem := run [f_is_plant] b_require_plant
def b_held_by : Fn := ⟨2, 2, [.ret (.op2 .ix (.var 0) (.op2 .add (.con (.int 1)) (.var 1)))]⟩
def f_held_by : FnSem := run [] b_held_by
def b_are_places : Fn := ⟨2, 3, [.ite (.or (.op1 .not (.op1 (.isi .tuple) (.var 1))) (.op2 .ne (.op1 .len (.var 1)) (.op1 .len (.var 0)))) [.ret (.con (.bool false))] [],
  .ret (.op1 .all (.comp [2] (.n 2) .plain [.var 1] [] (.call 0 [.var 2, .con (.int 0), .con (.int 1)])))]⟩
def f_are_places : FnSem := run [f_is_integer] b_are_places
def b_fits : Fn := ⟨2, 5, [.asg true 2 (.lst []),
  .for (.t [(.n 3), (.n 4)]) .zip2 [.var 0, .var 1] [.extend 2 (.call 0 [.var 3, .var 4])],
  .ret (.op2 .eq (.op1 .setLen (.var 2)) (.op1 .len (.var 2)))]⟩
def f_fits : FnSem := run [f_held_by] b_fits
def b_is_valid_state : Fn := ⟨2, 2, [.ret (.and (.call 0 [.var 0, .var 1]) (.call 1 [.var 0, .var 1]))]⟩
def f_is_valid_state : FnSem := run [f_are_places, f_fits] b_is_valid_state
def b_is_state : Fn := ⟨2, 2, [.exp (.call 0 [.var 0]),
  .ret (.call 1 [.var 0, .var 1])]⟩
def f_is_state : FnSem := run [f_require_plant, f_is_valid_state] b_is_state
def b_require_state : Fn := ⟨2, 2, [.exp (.call 0 [.var 0]),
  .ite (.op1 .not (.call 1 [.var 0, .var 1])) [.raise "InvalidState"] []]⟩
def f_require_state : FnSem := run [f_require_plant, f_is_valid_state] b_require_state
def b_find_keys : Fn := ⟨1, 5, [.asg true 1 (.lst []),
  .for (.t [(.n 2), (.n 3), (.n 4)]) .plain [.var 0] [.extend 1 (.op2 .add (.var 3) (.var 4))],
  .ret (.op1 .setSorted (.var 1))]⟩
def f_find_keys : FnSem := run [] b_find_keys
def b_all_keys : Fn := ⟨1, 1, [.exp (.call 0 [.var 0]),
  .ret (.call 1 [.var 0])]⟩
def f_all_keys : FnSem := run [f_require_plant, f_find_keys] b_all_keys
def b_require_key : Fn := ⟨2, 2, [.ite (.or (.op1 .not (.op1 (.isi .str) (.var 1))) (.op2 .notin (.var 1) (.call 0 [.var 0]))) [.raise "InvalidKey"] []]⟩
def f_require_key : FnSem := run [f_find_keys] b_require_key
def b_holder_of : Fn := ⟨3, 5, [.for (.t [(.n 3), (.n 4)]) .zip2 [.var 0, .var 1] [.ite (.op2 .isin (.var 2) (.call 0 [.var 3, .var 4])) [.ret (.op2 .ix (.var 3) (.con (.int 0)))] []],
  .ret (.con .none)]⟩
def f_holder_of : FnSem := run [f_held_by] b_holder_of
def b_holder : Fn := ⟨3, 3, [.exp (.call 0 [.var 0, .var 1]),
  .exp (.call 1 [.var 0, .var 2]),
  .ret (.call 2 [.var 0, .var 1, .var 2])]⟩
def f_holder : FnSem := run [f_require_state, f_require_key, f_holder_of] b_holder
def b_find_free : Fn := ⟨2, 3, [.ret (.comp [2] (.n 2) .plain [.call 0 [.var 0]] [.op1 .isN (.call 1 [.var 0, .var 1, .var 2])] (.var 2))]⟩
def f_find_free : FnSem := run [f_find_keys, f_holder_of] b_find_free
def b_free_keys : Fn := ⟨2, 2, [.exp (.call 0 [.var 0, .var 1]),
  .ret (.call 1 [.var 0, .var 1])]⟩
def f_free_keys : FnSem := run [f_require_state, f_find_free] b_free_keys
def b__law_same : Fn := ⟨2, 4, [.ite (.op1 .isN (.var 1)) [.ret (.op1 .isN (.var 0))] [],
  .ite (.op1 (.isi .bool) (.var 1)) [.ret (.and (.op1 (.isi .bool) (.var 0)) (.op2 .eq (.var 0) (.var 1)))] [],
  .ite (.op1 (.isi .tuple) (.var 1)) [.ite (.or (.op1 .not (.op1 (.isi .tuple) (.var 0))) (.op2 .ne (.op1 .len (.var 0)) (.op1 .len (.var 1)))) [.ret (.con (.bool false))] [],
  .ret (.op1 .all (.comp [2, 3] (.t [(.n 2), (.n 3)]) .zip2 [.var 0, .var 1] [] (.call 0 [.var 2, .var 3])))] [],
  .ite (.op1 (.isi .str) (.var 1)) [.ret (.and (.op1 (.isi .str) (.var 0)) (.op2 .eq (.var 0) (.var 1)))] [],
  .ret (.and (.op1 (.isi .int) (.var 0)) (.and (.op1 .not (.op1 (.isi .bool) (.var 0))) (.op2 .eq (.var 0) (.var 1))))]⟩
def f__law_same : Nat → FnSem
  | 0 => fun _ => fail
  | n + 1 => run [(f__law_same n)] b__law_same
def b__law_fits : Fn := ⟨2, 5, [.asg false 2 (.lst []),
  .for (.t [(.n 3), (.n 4)]) .zip2 [.var 0, .var 1] [.asg false 2 (.op2 .add (.var 2) (.op1 .listOf (.op2 .ix (.var 3) (.op2 .add (.con (.int 1)) (.var 4)))))],
  .ret (.op2 .eq (.op1 .setLen (.var 2)) (.op1 .len (.var 2)))]⟩
def f__law_fits : FnSem := run [] b__law_fits
def b__law_vectors : Fn := ⟨1, 5, [.asg false 1 (.lst [.tup []]),
  .for (.n 2) .range1 [.var 0] [.asg false 3 (.lst []),
  .for (.n 4) .plain [.var 1] [.asg false 3 (.op2 .add (.var 3) (.lst [.op2 .add (.var 4) (.tup [.con (.int 0)]), .op2 .add (.var 4) (.tup [.con (.int 1)])]))],
  .asg false 1 (.var 3)],
  .ret (.var 1)]⟩
def f__law_vectors : FnSem := run [] b__law_vectors
def b__law_states : Fn := ⟨1, 2, [.ret (.comp [1] (.n 1) .plain [.call 0 [.op1 .len (.var 0)]] [.call 1 [.var 0, .var 1]] (.var 1))]⟩
def f__law_states : FnSem := run [f__law_vectors, f__law_fits] b__law_states
def b__law_holder_or : Fn := ⟨3, 3, [.tryR (.call 0 [.var 0, .var 1, .var 2]) [("InvalidPlant", (.str "InvalidPlant")), ("InvalidState", (.str "InvalidState")), ("InvalidKey", (.str "InvalidKey"))]]⟩
def f__law_holder_or : FnSem := run [f_holder] b__law_holder_or
def b__law_free_keys_or : Fn := ⟨2, 2, [.tryR (.call 0 [.var 0, .var 1]) [("InvalidPlant", (.str "InvalidPlant")), ("InvalidState", (.str "InvalidState"))]]⟩
def f__law_free_keys_or : FnSem := run [f_free_keys] b__law_free_keys_or
def b__law_is_state_or : Fn := ⟨2, 2, [.tryR (.call 0 [.var 0, .var 1]) [("InvalidPlant", (.str "InvalidPlant"))]]⟩
def f__law_is_state_or : FnSem := run [f_is_state] b__law_is_state_or
def b__law_all_keys_or : Fn := ⟨1, 1, [.tryR (.call 0 [.var 0]) [("InvalidPlant", (.str "InvalidPlant"))]]⟩
def f__law_all_keys_or : FnSem := run [f_all_keys] b__law_all_keys_or
def b__law_refused : Fn := ⟨2, 3, [.for (.n 2) .plain [.lst [.con (.str ""), .con (.str "q"), .con .none, .con (.int 1), .tup [.con (.str "k")]]] [.ite (.op2 .ne (.call 0 [.var 0, .var 1, .var 2]) (.con (.str "InvalidKey"))) [.ret (.con (.bool false))] []],
  .for (.n 2) .plain [.lst [.slc (.var 1) (some (.con (.int 1))) none, .op2 .add (.var 1) (.tup [.con (.int 0)]), .op1 .listOf (.var 1), .con .none, .op2 .add (.tup [.con (.int 2)]) (.slc (.var 1) (some (.con (.int 1))) none), .op2 .add (.tup [.con (.bool true)]) (.slc (.var 1) (some (.con (.int 1))) none), .op2 .add (.tup [.con .none]) (.slc (.var 1) (some (.con (.int 1))) none)]] [.ite (.or (.call 1 [.var 0, .var 2]) (.op2 .ne (.call 0 [.var 0, .var 2, .con (.int 1)]) (.con (.str "InvalidState")))) [.ret (.con (.bool false))] [],
  .ite (.op2 .ne (.call 2 [.var 0, .var 2]) (.con (.str "InvalidState"))) [.ret (.con (.bool false))] []],
  .ite (.or (.op2 .ne (.call 3 [.op2 .ix (.var 0) (.con (.int 0)), .var 1]) (.con (.str "InvalidPlant"))) (.op2 .ne (.call 4 [.tup []]) (.con (.str "InvalidPlant")))) [.ret (.con (.bool false))] [],
  .ret (.and (.op2 .eq (.call 0 [.tup [], .con (.int 1), .con (.int 1)]) (.con (.str "InvalidPlant"))) (.op2 .eq (.call 2 [.con .none, .con (.int 1)]) (.con (.str "InvalidPlant"))))]⟩
def f__law_refused : FnSem := run [f__law_holder_or, f_is_state, f__law_free_keys_or, f__law_is_state_or, f__law_all_keys_or] b__law_refused
def b_names_of : Fn := ⟨1, 2, [.ret (.comp [1] (.n 1) .plain [.var 0] [] (.op2 .ix (.var 1) (.con (.int 0))))]⟩
def f_names_of : FnSem := run [] b_names_of
def b_require_lock : Fn := ⟨2, 2, [.ite (.or (.op1 .not (.op1 (.isi .str) (.var 1))) (.op2 .notin (.var 1) (.call 0 [.var 0]))) [.raise "InvalidLock"] []]⟩
def f_require_lock : FnSem := run [f_names_of] b_require_lock
def b_flipped : Fn := ⟨2, 2, [.ret (.op2 .add (.op2 .add (.slc (.var 0) none (some (.var 1))) (.tup [.op2 .sub (.con (.int 1)) (.op2 .ix (.var 0) (.var 1))])) (.slc (.var 0) (some (.op2 .add (.var 1) (.con (.int 1)))) none))]⟩
def f_flipped : FnSem := run [] b_flipped
def b_is_turnable : Fn := ⟨3, 3, [.ret (.call 0 [.var 0, .call 1 [.var 1, .var 2]])]⟩
def f_is_turnable : FnSem := run [f_fits, f_flipped] b_is_turnable
def b_can_turn : Fn := ⟨3, 3, [.exp (.call 0 [.var 0, .var 1]),
  .exp (.call 1 [.var 0, .var 2]),
  .ret (.call 2 [.var 0, .var 1, .idx (.call 3 [.var 0]) (.var 2)])]⟩
def f_can_turn : FnSem := run [f_require_state, f_require_lock, f_is_turnable, f_names_of] b_can_turn
def b_turned : Fn := ⟨3, 3, [.ite (.op1 .not (.call 0 [.var 0, .var 1, .var 2])) [.raise "Blocked"] [],
  .ret (.call 1 [.var 1, .idx (.call 2 [.var 0]) (.var 2)])]⟩
def f_turned : FnSem := run [f_can_turn, f_flipped, f_names_of] b_turned
def b_missing : Fn := ⟨3, 5, [.exp (.call 0 [.var 0, .var 1]),
  .exp (.call 1 [.var 0, .var 2]),
  .asg false 3 (.idx (.call 2 [.var 0]) (.var 2)),
  .ret (.comp [4] (.n 4) .plain [.call 3 [.op2 .ix (.var 0) (.var 3), .op2 .sub (.con (.int 1)) (.op2 .ix (.var 1) (.var 3))]] [.op2 .notin (.call 4 [.var 0, .var 1, .var 4]) (.tup [.con .none, .var 2])] (.var 4))]⟩
def f_missing : FnSem := run [f_require_state, f_require_lock, f_names_of, f_held_by, f_holder_of] b_missing
def b_turnable : Fn := ⟨2, 4, [.exp (.call 0 [.var 0, .var 1]),
  .ret (.comp [2, 3] (.t [(.n 2), (.n 3)]) .enum [.var 0] [.call 1 [.var 0, .var 1, .var 2]] (.op2 .ix (.var 3) (.con (.int 0))))]⟩
def f_turnable : FnSem := run [f_require_state, f_is_turnable] b_turnable
def b__law_flip : Fn := ⟨2, 2, [.ret (.op2 .add (.op2 .add (.slc (.var 0) none (some (.var 1))) (.tup [.op2 .sub (.con (.int 1)) (.op2 .ix (.var 0) (.var 1))])) (.slc (.var 0) (some (.op2 .add (.var 1) (.con (.int 1)))) none))]⟩
def f__law_flip : FnSem := run [] b__law_flip
def b__law_some : Fn := ⟨3, 6, [.for (.n 3) .range1 [.con (.int 20)] [.asg false 4 (.call 0 [.var 0, .var 1, .var 2]),
  .asg false 5 (.call 1 [.var 4]),
  .ite (.var 5) [.ret (.tup [.var 4, .var 5, .call 2 [.var 0, .var 1, .var 5]])] []],
  .ret (.tup [.tup [.tup [.con (.str "a"), .tup [], .tup []]], .lst [.tup [.con (.int 0)], .tup [.con (.int 1)]], .tup [.con (.int 0)]])]⟩
def f__law_some : FnSem := run [f__law_plant, f__law_states, f__law_pick] b__law_some
def b__law_needs : Fn := ⟨3, 6, [.asg false 3 (.lst []),
  .for (.n 4) .range1 [.op1 .len (.var 0)] [.ite (.op2 .ne (.var 4) (.var 2)) [.asg false 3 (.op2 .add (.var 3) (.op1 .listOf (.op2 .ix (.op2 .ix (.var 0) (.var 4)) (.op2 .add (.con (.int 1)) (.op2 .ix (.var 1) (.var 4))))))] []],
  .ret (.comp [5] (.n 5) .plain [.op2 .ix (.op2 .ix (.var 0) (.var 2)) (.op2 .sub (.con (.int 2)) (.op2 .ix (.var 1) (.var 2)))] [.op2 .isin (.var 5) (.var 3)] (.var 5))]⟩
def f__law_needs : FnSem := run [] b__law_needs
def b__law_turned_or : Fn := ⟨3, 3, [.tryR (.call 0 [.var 0, .var 1, .var 2]) [("InvalidPlant", (.str "InvalidPlant")), ("InvalidState", (.str "InvalidState")), ("InvalidLock", (.str "InvalidLock")), ("Blocked", (.str "Blocked"))]]⟩
def f__law_turned_or : FnSem := run [f_turned] b__law_turned_or
def b__law_can_turn_or : Fn := ⟨3, 3, [.tryR (.call 0 [.var 0, .var 1, .var 2]) [("InvalidPlant", (.str "InvalidPlant")), ("InvalidState", (.str "InvalidState")), ("InvalidLock", (.str "InvalidLock"))]]⟩
def f__law_can_turn_or : FnSem := run [f_can_turn] b__law_can_turn_or
def b__law_missing_or : Fn := ⟨3, 3, [.tryR (.call 0 [.var 0, .var 1, .var 2]) [("InvalidPlant", (.str "InvalidPlant")), ("InvalidState", (.str "InvalidState")), ("InvalidLock", (.str "InvalidLock"))]]⟩
def f__law_missing_or : FnSem := run [f_missing] b__law_missing_or
def b__law_turnable_or : Fn := ⟨2, 2, [.tryR (.call 0 [.var 0, .var 1]) [("InvalidPlant", (.str "InvalidPlant")), ("InvalidState", (.str "InvalidState"))]]⟩
def f__law_turnable_or : FnSem := run [f_turnable] b__law_turnable_or
def b_do_bar : Fn := ⟨3, 6, [.par [(3, false), (4, false)] [.call 0 [.op2 .ix (.var 0) (.op2 .ix (.var 1) (.con (.int 0))), .op2 .ix (.var 1) (.con (.int 1))], .call 0 [.op2 .ix (.var 0) (.op2 .ix (.var 2) (.con (.int 0))), .op2 .ix (.var 2) (.con (.int 1))]],
  .ret (.op1 .any (.comp [5] (.n 5) .plain [.var 3] [] (.op2 .isin (.var 5) (.var 4))))]⟩
def f_do_bar : FnSem := run [f_held_by] b_do_bar
def b_bars : Fn := ⟨1, 7, [.exp (.call 0 [.var 0]),
  .asg false 1 (.comp2 [5] (.n 5) .range1 [.op1 .len (.var 0)] [6] (.n 6) .plain [.tup [.con (.int 0), .con (.int 1)]] [] (.tup [.var 5, .var 6])),
  .asg true 2 (.lst []),
  .for (.n 3) .plain [.var 1] [.for (.n 4) .plain [.var 1] [.ite (.and (.op2 .lt (.op2 .ix (.var 3) (.con (.int 0))) (.op2 .ix (.var 4) (.con (.int 0)))) (.call 1 [.var 0, .var 3, .var 4])) [.append 2 (.tup [.tup [.op2 .ix (.op2 .ix (.var 0) (.op2 .ix (.var 3) (.con (.int 0)))) (.con (.int 0)), .op2 .ix (.var 3) (.con (.int 1))], .tup [.op2 .ix (.op2 .ix (.var 0) (.op2 .ix (.var 4) (.con (.int 0)))) (.con (.int 0)), .op2 .ix (.var 4) (.con (.int 1))]])] []]],
  .ret (.op1 .sorted (.var 2))]⟩
def f_bars : FnSem := run [f_require_plant, f_do_bar] b_bars
def b_find_states : Fn := ⟨1, 5, [.asg false 1 (.lst [.tup []]),
  .for (.n 2) .plain [.var 0] [.asg false 1 (.comp2 [3] (.n 3) .plain [.var 1] [4] (.n 4) .plain [.tup [.con (.int 0), .con (.int 1)]] [.call 0 [.var 0, .op2 .add (.var 3) (.tup [.var 4])]] (.op2 .add (.var 3) (.tup [.var 4])))],
  .ret (.var 1)]⟩
def f_find_states : FnSem := run [f_fits] b_find_states
def b_states : Fn := ⟨1, 1, [.exp (.call 0 [.var 0]),
  .ret (.call 1 [.var 0])]⟩
def f_states : FnSem := run [f_require_plant, f_find_states] b_states
def b_count_states : Fn := ⟨1, 1, [.exp (.call 0 [.var 0]),
  .ret (.op1 .len (.call 1 [.var 0]))]⟩
def f_count_states : FnSem := run [f_require_plant, f_find_states] b_count_states
def b__law_bars_or : Fn := ⟨1, 1, [.tryR (.call 0 [.var 0]) [("InvalidPlant", (.str "InvalidPlant"))]]⟩
def f__law_bars_or : FnSem := run [f_bars] b__law_bars_or
def b__law_states_or : Fn := ⟨1, 1, [.tryR (.call 0 [.var 0]) [("InvalidPlant", (.str "InvalidPlant"))]]⟩
def f__law_states_or : FnSem := run [f_states] b__law_states_or
def b__law_count_states_or : Fn := ⟨1, 1, [.tryR (.call 0 [.var 0]) [("InvalidPlant", (.str "InvalidPlant"))]]⟩
def f__law_count_states_or : FnSem := run [f_count_states] b__law_count_states_or
def b_is_position : Fn := ⟨2, 2, [.ite (.or (.op1 .not (.op1 (.isi .tuple) (.var 1))) (.or (.op2 .ne (.op1 .len (.var 1)) (.con (.int 2))) (.op1 .not (.op1 (.isi .str) (.op2 .ix (.var 1) (.con (.int 0))))))) [.ret (.con (.bool false))] [],
  .ret (.and (.op2 .isin (.op2 .ix (.var 1) (.con (.int 0))) (.call 0 [.var 0])) (.call 1 [.op2 .ix (.var 1) (.con (.int 1)), .con (.int 0), .con (.int 1)]))]⟩
def f_is_position : FnSem := run [f_names_of, f_is_integer] b_is_position
def b_is_valid_setting : Fn := ⟨2, 7, [.ite (.or (.op1 .not (.op1 (.isi .tuple) (.var 1))) (.op1 .not (.op1 .all (.comp [5] (.n 5) .plain [.var 1] [] (.call 0 [.var 0, .var 5]))))) [.ret (.con (.bool false))] [],
  .asg false 2 (.comp [3, 4] (.t [(.n 3), (.n 4)]) .plain [.var 1] [] (.var 3)),
  .ret (.op1 .all (.comp [5, 6] (.t [(.n 5), (.n 6)]) .zip2 [.var 2, .slc (.var 2) (some (.con (.int 1))) none] [] (.op2 .lt (.var 5) (.var 6))))]⟩
def f_is_valid_setting : FnSem := run [f_is_position] b_is_valid_setting
def b_is_setting : Fn := ⟨2, 2, [.exp (.call 0 [.var 0]),
  .ret (.call 1 [.var 0, .var 1])]⟩
def f_is_setting : FnSem := run [f_require_plant, f_is_valid_setting] b_is_setting
def b__law_setting : Fn := ⟨3, 6, [.asg false 3 (.lst []),
  .for (.n 4) .plain [.var 2] [.asg false 5 (.call 0 [.var 0, .var 1, .con (.int 4)]),
  .asg false 3 (.op2 .add (.var 3) (.op2 .mul (.lst [.tup [.op2 .ix (.var 4) (.con (.int 0)), .var 5]]) (.op1 .int (.op2 .lt (.var 5) (.con (.int 2))))))],
  .ret (.op1 .tupleOf (.var 3))]⟩
def f__law_setting : FnSem := run [f__law_draw] b__law_setting
def b__law_right : Fn := ⟨2, 4, [.ite (.op1 .not (.op1 (.isi .tuple) (.var 1))) [.ret (.con (.bool false))] [],
  .for (.n 2) .plain [.var 1] [.ite (.or (.op1 .not (.op1 (.isi .tuple) (.var 2))) (.or (.op2 .ne (.op1 .len (.var 2)) (.con (.int 2))) (.op1 .not (.op1 (.isi .str) (.op2 .ix (.var 2) (.con (.int 0))))))) [.ret (.con (.bool false))] [],
  .ite (.op2 .notin (.op2 .ix (.var 2) (.con (.int 0))) (.var 0)) [.ret (.con (.bool false))] [],
  .ite (.or (.op1 .not (.op1 (.isi .int) (.op2 .ix (.var 2) (.con (.int 1))))) (.or (.op1 (.isi .bool) (.op2 .ix (.var 2) (.con (.int 1)))) (.op1 .not (.chain .le .le (.con (.int 0)) (.op2 .ix (.var 2) (.con (.int 1))) (.con (.int 1)))))) [.ret (.con (.bool false))] []],
  .asg false 3 (.comp [2] (.n 2) .plain [.var 1] [] (.op2 .ix (.var 2) (.con (.int 0)))),
  .ret (.op2 .eq (.var 3) (.op1 .setSorted (.var 3)))]⟩
def f__law_right : FnSem := run [] b__law_right
def b__law_is_setting_or : Fn := ⟨2, 2, [.tryR (.call 0 [.var 0, .var 1]) [("InvalidPlant", (.str "InvalidPlant"))]]⟩
def f__law_is_setting_or : FnSem := run [f_is_setting] b__law_is_setting_or
def b_require_setting : Fn := ⟨2, 2, [.ite (.op1 .not (.call 0 [.var 0, .var 1])) [.raise "InvalidSetting"] []]⟩
def f_require_setting : FnSem := run [f_is_valid_setting] b_require_setting
def b__law_fine : Fn := ⟨3, 8, [.asg false 3 (.lst []),
  .for (.n 4) .plain [.var 1] [.asg false 5 (.comp [6, 7] (.t [(.n 6), (.n 7)]) .zip2 [.var 0, .var 4] [.op2 .isin (.tup [.op2 .ix (.var 6) (.con (.int 0)), .op2 .sub (.con (.int 1)) (.var 7)]) (.var 2)] (.con (.int 1))),
  .asg false 3 (.op2 .add (.var 3) (.op2 .mul (.lst [.var 4]) (.op1 .int (.op2 .eq (.var 5) (.lst [])))))],
  .ret (.var 3)]⟩
def f__law_fine : FnSem := run [] b__law_fine
def b_require_goal : Fn := ⟨3, 3, [.exp (.call 0 [.var 0, .var 1]),
  .ite (.op1 .not (.call 1 [.var 0, .var 2])) [.raise "InvalidGoal"] []]⟩
def f_require_goal : FnSem := run [f_require_state, f_is_valid_state] b_require_goal
def b_unlike : Fn := ⟨2, 5, [.ret (.comp [2, 3, 4] (.t [(.n 2), (.t [(.n 3), (.n 4)])]) .enumZip [.var 0, .var 1] [.op2 .ne (.var 3) (.var 4)] (.var 2))]⟩
def f_unlike : FnSem := run [] b_unlike
def b_waits_of : Fn := ⟨3, 8, [.par [(4, false), (5, true)] [.call 0 [.var 1, .var 2], .dict false [] []],
  .for (.n 3) .plain [.var 4] [.asg false 6 (.comp [7] (.n 7) .plain [.var 4] [.op2 .ne (.var 7) (.var 3)] (.var 7)),
  .store 5 (.var 3) (.comp [7] (.n 7) .plain [.var 6] [.call 1 [.var 0, .tup [.var 3, .op2 .ix (.var 2) (.var 3)], .tup [.var 7, .op2 .ix (.var 1) (.var 7)]]] (.var 7))],
  .ret (.var 5)]⟩
def f_waits_of : FnSem := run [f_unlike, f_do_bar] b_waits_of
def b_find_way : Fn := ⟨3, 9, [.par [(3, false), (4, true), (5, true)] [.call 0 [.var 0, .var 1, .var 2], .dict false [] [], .lst []],
  .while (.op2 .lt (.op1 .len (.var 5)) (.op1 .len (.var 3))) [.asg false 6 (.comp [7] (.n 7) .plain [.op1 .keys (.tup [.var 3])] [.and (.op2 .notin (.var 7) (.var 4)) (.op1 .all (.comp [8] (.n 8) .plain [.op2 .ix (.var 3) (.var 7)] [] (.op2 .isin (.var 8) (.var 4))))] (.var 7)),
  .ite (.op1 .not (.var 6)) [.ret (.con .none)] [],
  .store 4 (.op2 .ix (.var 6) (.con (.int 0))) (.con (.bool true)),
  .append 5 (.op2 .ix (.var 6) (.con (.int 0)))],
  .ret (.var 5)]⟩
def f_find_way : FnSem := run [f_waits_of] b_find_way
def b_is_reachable : Fn := ⟨3, 3, [.exp (.call 0 [.var 0, .var 1, .var 2]),
  .ret (.op1 .isNN (.call 1 [.var 0, .var 1, .var 2]))]⟩
def f_is_reachable : FnSem := run [f_require_goal, f_find_way] b_is_reachable
def b_way : Fn := ⟨3, 5, [.exp (.call 0 [.var 0, .var 1, .var 2]),
  .asg false 3 (.call 1 [.var 0, .var 1, .var 2]),
  .ret (.ite (.op1 .isN (.var 3)) (.con .none) (.comp [4] (.n 4) .plain [.var 3] [] (.op2 .ix (.op2 .ix (.var 0) (.var 4)) (.con (.int 0)))))]⟩
def f_way : FnSem := run [f_require_goal, f_find_way] b_way
def b__law_way_or : Fn := ⟨3, 3, [.tryR (.call 0 [.var 0, .var 1, .var 2]) [("InvalidPlant", (.str "InvalidPlant")), ("InvalidState", (.str "InvalidState")), ("InvalidGoal", (.str "InvalidGoal"))]]⟩
def f__law_way_or : FnSem := run [f_way] b__law_way_or
def b__law_is_reachable_or : Fn := ⟨3, 3, [.tryR (.call 0 [.var 0, .var 1, .var 2]) [("InvalidPlant", (.str "InvalidPlant")), ("InvalidState", (.str "InvalidState")), ("InvalidGoal", (.str "InvalidGoal"))]]⟩
def f__law_is_reachable_or : FnSem := run [f_is_reachable] b__law_is_reachable_or
def b_is_way : Fn := ⟨4, 7, [.exp (.call 0 [.var 0, .var 1, .var 2]),
  .asg false 4 (.call 1 [.var 0]),
  .ite (.or (.op1 .not (.op1 (.isi .list) (.var 3))) (.op1 .not (.op1 .all (.comp [5] (.n 5) .plain [.var 3] [] (.and (.op1 (.isi .str) (.var 5)) (.op2 .isin (.var 5) (.var 4))))))) [.ret (.con (.bool false))] [],
  .for (.n 5) .plain [.var 3] [.asg false 6 (.idx (.var 4) (.var 5)),
  .ite (.op1 .not (.call 2 [.var 0, .var 1, .var 6])) [.ret (.con (.bool false))] [],
  .asg false 1 (.call 3 [.var 1, .var 6])],
  .ret (.op2 .eq (.var 1) (.var 2))]⟩
def f_is_way : FnSem := run [f_require_goal, f_names_of, f_is_turnable, f_flipped] b_is_way
def b__law_leads : Fn := ⟨4, 8, [.asg false 4 (.comp [6] (.n 6) .plain [.var 0] [] (.op2 .ix (.var 6) (.con (.int 0)))),
  .ite (.op1 .not (.op1 (.isi .list) (.var 3))) [.ret (.con (.bool false))] [],
  .ite (.comp [7] (.n 7) .plain [.var 3] [.or (.op1 .not (.op1 (.isi .str) (.var 7))) (.op2 .notin (.var 7) (.var 4))] (.var 7)) [.ret (.con (.bool false))] [],
  .for (.n 5) .plain [.var 3] [.asg false 1 (.call 0 [.var 1, .idx (.var 4) (.var 5)]),
  .ite (.op1 .not (.call 1 [.var 0, .var 1])) [.ret (.con (.bool false))] []],
  .ret (.op2 .eq (.var 1) (.var 2))]⟩
def f__law_leads : FnSem := run [f__law_flip, f__law_fits] b__law_leads
def b__law_is_way_or : Fn := ⟨4, 4, [.tryR (.call 0 [.var 0, .var 1, .var 2, .var 3]) [("InvalidPlant", (.str "InvalidPlant")), ("InvalidState", (.str "InvalidState")), ("InvalidGoal", (.str "InvalidGoal"))]]⟩
def f__law_is_way_or : FnSem := run [f_is_way] b__law_is_way_or
def b_waits : Fn := ⟨3, 7, [.exp (.call 0 [.var 0, .var 1, .var 2]),
  .par [(4, false), (5, true)] [.call 1 [.var 0, .var 1, .var 2], .lst []],
  .for (.n 3) .plain [.op1 .keys (.tup [.var 4])] [.extend 5 (.comp [6] (.n 6) .plain [.op2 .ix (.var 4) (.var 3)] [] (.tup [.op2 .ix (.op2 .ix (.var 0) (.var 3)) (.con (.int 0)), .op2 .ix (.op2 .ix (.var 0) (.var 6)) (.con (.int 0))]))],
  .ret (.op1 .sorted (.var 5))]⟩
def f_waits : FnSem := run [f_require_goal, f_waits_of] b_waits
def b_find_ring : Fn := ⟨1, 7, [.asg false 1 (.comp [5] (.n 5) .plain [.op1 .keys (.tup [.var 0])] [] (.lst [.var 5])),
  .while (.var 1) [.asg false 2 (.comp [4] (.n 4) .plain [.var 1] [.op2 .isin (.op2 .ix (.var 4) (.con (.int 0))) (.op2 .ix (.var 0) (.op2 .ix (.var 4) (.op1 .neg (.con (.int 1)))))] (.var 4)),
  .ite (.var 2) [.ret (.op1 .min (.var 2))] [],
  .asg true 3 (.lst []),
  .for (.n 4) .plain [.var 1] [.extend 3 (.comp [6] (.n 6) .plain [.op2 .ix (.var 0) (.op2 .ix (.var 4) (.op1 .neg (.con (.int 1))))] [.and (.op2 .notin (.var 6) (.var 4)) (.op2 .gt (.var 6) (.op2 .ix (.var 4) (.con (.int 0))))] (.op2 .add (.var 4) (.lst [.var 6])))],
  .asg false 1 (.var 3)],
  .ret (.con .none)]⟩
def f_find_ring : FnSem := run [] b_find_ring
def b_ring : Fn := ⟨3, 5, [.exp (.call 0 [.var 0, .var 1, .var 2]),
  .asg false 3 (.call 1 [.call 2 [.var 0, .var 1, .var 2]]),
  .ret (.ite (.op1 .isN (.var 3)) (.con .none) (.comp [4] (.n 4) .plain [.var 3] [] (.op2 .ix (.op2 .ix (.var 0) (.var 4)) (.con (.int 0)))))]⟩
def f_ring : FnSem := run [f_require_goal, f_find_ring, f_waits_of] b_ring
def b__law_waits : Fn := ⟨3, 9, [.par [(4, false), (5, false)] [.comp [3] (.n 3) .range1 [.op1 .len (.var 0)] [.op2 .ne (.op2 .ix (.var 1) (.var 3)) (.op2 .ix (.var 2) (.var 3))] (.var 3), .lst []],
  .for (.n 3) .plain [.var 4] [.for (.n 6) .plain [.var 4] [.asg false 7 (.comp [8] (.n 8) .plain [.op2 .ix (.op2 .ix (.var 0) (.var 3)) (.op2 .add (.con (.int 1)) (.op2 .ix (.var 2) (.var 3)))] [.op2 .isin (.var 8) (.op2 .ix (.op2 .ix (.var 0) (.var 6)) (.op2 .add (.con (.int 1)) (.op2 .ix (.var 1) (.var 6))))] (.var 8)),
  .asg false 5 (.op2 .add (.var 5) (.op2 .mul (.lst [.tup [.op2 .ix (.op2 .ix (.var 0) (.var 3)) (.con (.int 0)), .op2 .ix (.op2 .ix (.var 0) (.var 6)) (.con (.int 0))]]) (.op1 .int (.and (.op2 .ne (.var 3) (.var 6)) (.op2 .ne (.var 7) (.lst []))))))]],
  .ret (.op1 .sorted (.var 5))]⟩
def f__law_waits : FnSem := run [] b__law_waits
def b__law_chains : Fn := ⟨2, 9, [.par [(2, false), (3, false)] [.lst [], .comp [6] (.n 6) .plain [.var 1] [] (.lst [.var 6])],
  .while (.var 3) [.par [(2, false), (5, false)] [.op2 .add (.var 2) (.var 3), .lst []],
  .for (.n 4) .plain [.var 3] [.asg false 5 (.op2 .add (.var 5) (.comp [7, 8] (.t [(.n 7), (.n 8)]) .plain [.var 0] [.and (.op2 .eq (.var 7) (.op2 .ix (.var 4) (.op1 .neg (.con (.int 1))))) (.op2 .notin (.var 8) (.var 4))] (.op2 .add (.var 4) (.lst [.var 8]))))],
  .asg false 3 (.var 5)],
  .ret (.var 2)]⟩
def f__law_chains : FnSem := run [] b__law_chains
def b__law_tight_k11 : Fn := ⟨3, 7, [.asg false 3 (.call 0 [.var 0, .var 1, .var 2]),
  .par [(5, true), (6, false)] [.lst [], .lst [.con (.str "k"), .con (.str "l"), .con (.str "m"), .con (.str "n")]],
  .for (.n 4) .range1 [.op1 .len (.var 3)] [.append 5 (.tup [.op2 .ix (.op2 .ix (.var 3) (.var 4)) (.con (.int 0)), .tup [.op2 .ix (.var 6) (.op2 .mod (.var 4) (.con (.int 4)))], .tup [.op2 .ix (.var 6) (.op2 .mod (.op2 .add (.var 4) (.con (.int 1))) (.op2 .min2 (.con (.int 4)) (.op1 .len (.var 3))))]])],
  .ret (.op1 .tupleOf (.var 5))]⟩
def f__law_tight_k11 : FnSem := run [f__law_plant] b__law_tight_k11
def b__law_ring_or : Fn := ⟨3, 3, [.tryR (.call 0 [.var 0, .var 1, .var 2]) [("InvalidPlant", (.str "InvalidPlant")), ("InvalidState", (.str "InvalidState")), ("InvalidGoal", (.str "InvalidGoal"))]]⟩
def f__law_ring_or : FnSem := run [f_ring] b__law_ring_or
def b__law_waits_or : Fn := ⟨3, 3, [.tryR (.call 0 [.var 0, .var 1, .var 2]) [("InvalidPlant", (.str "InvalidPlant")), ("InvalidState", (.str "InvalidState")), ("InvalidGoal", (.str "InvalidGoal"))]]⟩
def f__law_waits_or : FnSem := run [f_waits] b__law_waits_or
def b__law_tight : Fn := ⟨3, 8, [.asg false 3 (.call 0 [.var 0, .var 1, .var 2]),
  .par [(5, true), (6, false), (7, false)] [.lst [], .lst [.con (.str "k"), .con (.str "l"), .con (.str "m"), .con (.str "n"), .con (.str "o")], .op2 .add (.con (.int 1)) (.call 1 [.var 0, .var 1, .con (.int 5)])],
  .for (.n 4) .range1 [.op1 .len (.var 3)] [.append 5 (.tup [.op2 .ix (.op2 .ix (.var 3) (.var 4)) (.con (.int 0)), .tup [.op2 .ix (.var 6) (.op2 .mod (.var 4) (.con (.int 5)))], .tup [.op2 .ix (.var 6) (.op2 .mod (.op2 .add (.var 4) (.var 7)) (.con (.int 5)))]])],
  .ret (.op1 .tupleOf (.var 5))]⟩
def f__law_tight : FnSem := run [f__law_plant, f__law_draw] b__law_tight
def b__law_one_way : Fn := ⟨3, 11, [.par [(5, false), (6, false)] [.call 0 [.var 0, .var 1, .var 2], .call 1 [.var 0, .var 1, .var 2]],
  .ite (.or (.op2 .eq (.op1 .isN (.var 5)) (.op1 .isN (.var 6))) (.op2 .ne (.call 2 [.var 0, .var 1, .var 2]) (.op1 .isNN (.var 5)))) [.ret (.con (.bool false))] [],
  .asg false 3 (.comp [8, 9, 10] (.t [(.n 8), (.n 9), (.n 10)]) .zip3 [.var 0, .var 1, .var 2] [.op2 .ne (.var 9) (.var 10)] (.op2 .ix (.var 8) (.con (.int 0)))),
  .ite (.op1 .isNN (.var 5)) [.ret (.and (.op2 .eq (.op1 .sorted (.var 5)) (.var 3)) (.and (.call 3 [.var 0, .var 1, .var 2, .var 5]) (.call 3 [.var 0, .var 2, .var 1, .op1 .rev (.var 5)])))] [],
  .asg false 4 (.call 4 [.var 0, .var 1, .var 2]),
  .ite (.comp [7] (.n 7) .plain [.var 6] [.or (.op2 .notin (.var 7) (.var 3)) (.call 5 [.var 0, .var 1, .var 7])] (.var 7)) [.ret (.con (.bool false))] [],
  .ite (.op2 .ne (.op1 .setLen (.var 6)) (.op1 .len (.var 6))) [.ret (.con (.bool false))] [],
  .ret (.op2 .eq (.comp [9, 10] (.t [(.n 9), (.n 10)]) .zip2 [.var 6, .op2 .add (.slc (.var 6) (some (.con (.int 1))) none) (.slc (.var 6) none (some (.con (.int 1))))] [.op2 .notin (.tup [.var 9, .var 10]) (.var 4)] (.con (.int 1))) (.lst []))]⟩
def f__law_one_way : FnSem := run [f_way, f_ring, f_is_reachable, f_is_way, f_waits, f_can_turn] b__law_one_way
def b_find_reachable : Fn := ⟨2, 3, [.ret (.comp [2] (.n 2) .plain [.call 0 [.var 0]] [.op1 .isNN (.call 1 [.var 0, .var 1, .var 2])] (.var 2))]⟩
def f_find_reachable : FnSem := run [f_find_states, f_find_way] b_find_reachable
def b_reachable : Fn := ⟨2, 2, [.exp (.call 0 [.var 0, .var 1]),
  .ret (.call 1 [.var 0, .var 1])]⟩
def f_reachable : FnSem := run [f_require_state, f_find_reachable] b_reachable
def b_farthest : Fn := ⟨2, 3, [.exp (.call 0 [.var 0, .var 1]),
  .ret (.op1 .max (.comp [2] (.n 2) .plain [.call 1 [.var 0, .var 1]] [] (.op1 .len (.call 2 [.var 1, .var 2]))))]⟩
def f_farthest : FnSem := run [f_require_state, f_find_reachable, f_unlike] b_farthest
def b_frozen : Fn := ⟨2, 6, [.exp (.call 0 [.var 0, .var 1]),
  .asg false 2 (.call 1 [.var 0, .var 1]),
  .ret (.comp [3, 4] (.t [(.n 3), (.n 4)]) .enum [.var 0] [.op1 .all (.comp [5] (.n 5) .plain [.var 2] [] (.op2 .eq (.op2 .ix (.var 5) (.var 3)) (.op2 .ix (.var 1) (.var 3))))] (.op2 .ix (.var 4) (.con (.int 0))))]⟩
def f_frozen : FnSem := run [f_require_state, f_find_reachable] b_frozen
def b_classes : Fn := ⟨1, 4, [.exp (.call 0 [.var 0]),
  .asg true 1 (.lst []),
  .for (.n 2) .plain [.call 1 [.var 0]] [.ite (.op1 .not (.op1 .any (.comp [3] (.n 3) .plain [.var 1] [] (.op2 .isin (.var 2) (.var 3))))) [.append 1 (.call 2 [.var 0, .var 2])] []],
  .ret (.var 1)]⟩
def f_classes : FnSem := run [f_require_plant, f_find_states, f_find_reachable] b_classes
def b__law_reachable_or : Fn := ⟨2, 2, [.tryR (.call 0 [.var 0, .var 1]) [("InvalidPlant", (.str "InvalidPlant")), ("InvalidState", (.str "InvalidState"))]]⟩
def f__law_reachable_or : FnSem := run [f_reachable] b__law_reachable_or
def b__law_frozen_or : Fn := ⟨2, 2, [.tryR (.call 0 [.var 0, .var 1]) [("InvalidPlant", (.str "InvalidPlant")), ("InvalidState", (.str "InvalidState"))]]⟩
def f__law_frozen_or : FnSem := run [f_frozen] b__law_frozen_or
def b__law_farthest_or : Fn := ⟨2, 2, [.tryR (.call 0 [.var 0, .var 1]) [("InvalidPlant", (.str "InvalidPlant")), ("InvalidState", (.str "InvalidState"))]]⟩
def f__law_farthest_or : FnSem := run [f_farthest] b__law_farthest_or
def b__law_classes_or : Fn := ⟨1, 1, [.tryR (.call 0 [.var 0]) [("InvalidPlant", (.str "InvalidPlant"))]]⟩
def f__law_classes_or : FnSem := run [f_classes] b__law_classes_or
def b__law_any : Fn := ⟨3, 5, [.ite (.call 0 [.var 0, .var 1, .con (.int 2)]) [.asg false 3 (.call 1 [.var 0, .var 1, .op2 .min2 (.con (.int 5)) (.var 2)]),
  .asg false 4 (.call 2 [.var 3]),
  .ite (.var 4) [.ret (.tup [.var 3, .var 4, .call 3 [.var 0, .var 1, .var 4]])] []] [],
  .ret (.call 4 [.var 0, .var 1, .var 2])]⟩
def f__law_any : FnSem := run [f__law_draw, f__law_tight, f__law_states, f__law_pick, f__law_some] b__law_any
def b__law_flat : Fn := ⟨1, 3, [.asg false 1 (.lst []),
  .for (.n 2) .plain [.var 0] [.asg false 1 (.op2 .add (.var 1) (.var 2))],
  .ret (.var 1)]⟩
def f__law_flat : FnSem := run [] b__law_flat
def b_require_danger : Fn := ⟨3, 3, [.exp (.call 0 [.var 0, .var 1]),
  .exp (.call 1 [.var 0, .var 2])]⟩
def f_require_danger : FnSem := run [f_require_state, f_require_setting] b_require_danger
def b_parts_of : Fn := ⟨2, 6, [.asg false 2 (.lst [.tup []]),
  .for (.n 3) .range1 [.var 1] [.asg false 2 (.comp2 [4] (.n 4) .plain [.var 2] [5] (.n 5) .plain [.var 0] [.or (.op2 .eq (.var 4) (.tup [])) (.op2 .gt (.var 5) (.op2 .ix (.var 4) (.op1 .neg (.con (.int 1)))))] (.op2 .add (.var 4) (.tup [.var 5])))],
  .ret (.var 2)]⟩
def f_parts_of : FnSem := run [] b_parts_of
def b__law_parts : Fn := ⟨1, 5, [.asg false 1 (.lst [.tup []]),
  .for (.n 2) .plain [.var 0] [.asg false 1 (.op2 .add (.var 1) (.comp [4] (.n 4) .plain [.var 1] [] (.op2 .add (.var 4) (.tup [.var 2]))))],
  .ret (.comp [3, 4] (.t [(.n 3), (.n 4)]) .plain [.op1 .sorted (.comp [4] (.n 4) .plain [.var 1] [.var 4] (.tup [.op1 .len (.var 4), .var 4]))] [] (.var 4))]⟩
def f__law_parts : FnSem := run [] b__law_parts
def b_longest_chain : Fn := ⟨3, 9, [.exp (.call 0 [.var 0, .var 1, .var 2]),
  .asg false 3 (.call 1 [.var 0, .var 1, .var 2]),
  .ite (.op1 .isN (.call 2 [.var 0, .var 1, .var 2])) [.ret (.con .none)] [],
  .par [(4, false), (5, false)] [.comp [6] (.n 6) .plain [.op1 .keys (.tup [.var 3])] [] (.lst [.var 6]), .lst []],
  .while (.var 4) [.asg false 5 (.var 4),
  .asg false 4 (.comp2 [7] (.n 7) .plain [.var 5] [8] (.n 8) .plain [.op2 .ix (.var 3) (.op2 .ix (.var 7) (.op1 .neg (.con (.int 1))))] [] (.op2 .add (.var 7) (.lst [.var 8])))],
  .ret (.ite (.var 5) (.comp [6] (.n 6) .plain [.op1 .min (.var 5)] [] (.op2 .ix (.op2 .ix (.var 0) (.var 6)) (.con (.int 0)))) (.lst []))]⟩
def f_longest_chain : FnSem := run [f_require_goal, f_waits_of, f_find_way] b_longest_chain
def b__law_longest_chain_or : Fn := ⟨3, 3, [.tryR (.call 0 [.var 0, .var 1, .var 2]) [("InvalidPlant", (.str "InvalidPlant")), ("InvalidState", (.str "InvalidState")), ("InvalidGoal", (.str "InvalidGoal"))]]⟩
def f__law_longest_chain_or : FnSem := run [f_longest_chain] b__law_longest_chain_or
def b_rounds_of : Fn := ⟨2, 5, [.asg true 2 (.dict false [] []),
  .for (.n 3) .plain [.var 1] [.store 2 (.var 3) (.op1 .max (.op2 .add (.lst [.con (.int 0)]) (.comp [4] (.n 4) .plain [.op2 .ix (.var 0) (.var 3)] [] (.op2 .add (.con (.int 1)) (.op2 .ix (.var 2) (.var 4))))))],
  .ret (.var 2)]⟩
def f_rounds_of : FnSem := run [] b_rounds_of
def b_rounds : Fn := ⟨3, 9, [.exp (.call 0 [.var 0, .var 1, .var 2]),
  .asg false 3 (.call 1 [.var 0, .var 1, .var 2]),
  .ite (.op1 .isN (.var 3)) [.ret (.con .none)] [],
  .par [(5, false), (6, true)] [.call 2 [.call 3 [.var 0, .var 1, .var 2], .var 3], .lst []],
  .for (.n 4) .range1 [.op1 .len (.var 3)] [.asg false 7 (.op1 .sorted (.comp [8] (.n 8) .plain [.var 5] [.op2 .eq (.op2 .ix (.var 5) (.var 8)) (.var 4)] (.op2 .ix (.op2 .ix (.var 0) (.var 8)) (.con (.int 0))))),
  .ite (.var 7) [.append 6 (.var 7)] []],
  .ret (.var 6)]⟩
def f_rounds : FnSem := run [f_require_goal, f_find_way, f_rounds_of, f_waits_of] b_rounds
def b_are_rounds : Fn := ⟨4, 12, [.exp (.call 0 [.var 0, .var 1, .var 2]),
  .par [(6, false), (7, false)] [.call 1 [.var 0, .var 1, .var 2], .call 2 [.var 0]],
  .ite (.or (.op1 .not (.op1 (.isi .list) (.var 3))) (.op1 .not (.op1 .all (.comp [5] (.n 5) .plain [.var 3] [] (.and (.op1 (.isi .list) (.var 5)) (.var 5)))))) [.ret (.con (.bool false))] [],
  .asg true 4 (.lst []),
  .for (.n 5) .plain [.var 3] [.ite (.or (.op1 .not (.op1 .all (.comp [9] (.n 9) .plain [.var 5] [] (.and (.op1 (.isi .str) (.var 9)) (.op2 .isin (.var 9) (.var 7)))))) (.op2 .ne (.op1 .setSorted (.var 5)) (.var 5))) [.ret (.con (.bool false))] [],
  .asg false 8 (.comp [9] (.n 9) .plain [.var 5] [] (.idx (.var 7) (.var 9))),
  .ite (.op1 .not (.op1 .all (.comp [10] (.n 10) .plain [.var 8] [] (.and (.op2 .isin (.var 10) (.var 6)) (.op1 .all (.comp [11] (.n 11) .plain [.op2 .ix (.var 6) (.var 10)] [] (.op2 .isin (.var 11) (.var 4)))))))) [.ret (.con (.bool false))] [],
  .extend 4 (.var 8)],
  .ret (.op2 .eq (.op1 .sorted (.var 4)) (.op1 .sorted (.var 6)))]⟩
def f_are_rounds : FnSem := run [f_require_goal, f_waits_of, f_names_of] b_are_rounds
def b__law_right_k18 : Fn := ⟨3, 7, [.ite (.or (.op1 .not (.op1 (.isi .list) (.var 2))) (.comp [4] (.n 4) .plain [.var 2] [.or (.op1 .not (.op1 (.isi .list) (.var 4))) (.op2 .eq (.var 4) (.lst []))] (.var 4))) [.ret (.con (.bool false))] [],
  .asg false 3 (.lst []),
  .for (.n 4) .plain [.var 2] [.ite (.comp [5] (.n 5) .plain [.var 4] [.or (.op1 .not (.op1 (.isi .str) (.var 5))) (.or (.op2 .notin (.var 5) (.var 1)) (.op2 .isin (.var 5) (.var 3)))] (.var 5)) [.ret (.con (.bool false))] [],
  .ite (.or (.op2 .ne (.var 4) (.op1 .setSorted (.var 4))) (.comp [5, 6] (.t [(.n 5), (.n 6)]) .plain [.var 0] [.and (.op2 .isin (.var 5) (.var 4)) (.op2 .notin (.var 6) (.var 3))] (.con (.int 1)))) [.ret (.con (.bool false))] [],
  .asg false 3 (.op2 .add (.var 3) (.var 4))],
  .ret (.op2 .eq (.op1 .sorted (.var 3)) (.op1 .sorted (.var 1)))]⟩
def f__law_right_k18 : FnSem := run [] b__law_right_k18
def b__law_early : Fn := ⟨2, 8, [.par [(2, false), (3, false)] [.lst [], .lst []],
  .while (.op2 .lt (.op1 .len (.var 3)) (.op1 .len (.var 1))) [.asg false 4 (.comp [5] (.n 5) .plain [.var 1] [.op2 .notin (.var 5) (.var 3)] (.var 5)),
  .asg false 4 (.comp [5] (.n 5) .plain [.var 4] [.op2 .eq (.comp [6, 7] (.t [(.n 6), (.n 7)]) .plain [.var 0] [.and (.op2 .eq (.var 6) (.var 5)) (.op2 .notin (.var 7) (.var 3))] (.con (.int 1))) (.lst [])] (.var 5)),
  .ite (.op2 .eq (.var 4) (.lst [])) [.ret (.con .none)] [],
  .par [(2, false), (3, false)] [.op2 .add (.var 2) (.lst [.op1 .sorted (.var 4)]), .op2 .add (.var 3) (.var 4)]],
  .ret (.var 2)]⟩
def f__law_early : FnSem := run [] b__law_early
def b__law_rounds_or : Fn := ⟨3, 3, [.tryR (.call 0 [.var 0, .var 1, .var 2]) [("InvalidPlant", (.str "InvalidPlant")), ("InvalidState", (.str "InvalidState")), ("InvalidGoal", (.str "InvalidGoal"))]]⟩
def f__law_rounds_or : FnSem := run [f_rounds] b__law_rounds_or
def b__law_are_rounds_or : Fn := ⟨4, 4, [.tryR (.call 0 [.var 0, .var 1, .var 2, .var 3]) [("InvalidPlant", (.str "InvalidPlant")), ("InvalidState", (.str "InvalidState")), ("InvalidGoal", (.str "InvalidGoal"))]]⟩
def f__law_are_rounds_or : FnSem := run [f_are_rounds] b__law_are_rounds_or
def b_dropped : Fn := ⟨2, 7, [.asg true 2 (.lst []),
  .for (.t [(.n 3), (.n 4), (.n 5)]) .plain [.var 0] [.append 2 (.tup [.var 3, .op1 .tupleOf (.comp [6] (.n 6) .plain [.var 4] [.op2 .ne (.var 6) (.var 1)] (.var 6)), .op1 .tupleOf (.comp [6] (.n 6) .plain [.var 5] [.op2 .ne (.var 6) (.var 1)] (.var 6))])],
  .ret (.op1 .tupleOf (.var 2))]⟩
def f_dropped : FnSem := run [] b_dropped
def b_without_key : Fn := ⟨2, 2, [.exp (.call 0 [.var 0]),
  .exp (.call 1 [.var 0, .var 1]),
  .ret (.call 2 [.var 0, .var 1])]⟩
def f_without_key : FnSem := run [f_require_plant, f_require_key, f_dropped] b_without_key
def b_needless : Fn := ⟨1, 3, [.exp (.call 0 [.var 0]),
  .asg false 1 (.call 1 [.var 0]),
  .ret (.comp [2] (.n 2) .plain [.call 2 [.var 0]] [.op2 .eq (.call 1 [.call 3 [.var 0, .var 2]]) (.var 1)] (.var 2))]⟩
def f_needless : FnSem := run [f_require_plant, f_find_states, f_find_keys, f_dropped] b_needless
def b__law_without_key_or : Fn := ⟨2, 2, [.tryR (.call 0 [.var 0, .var 1]) [("InvalidPlant", (.str "InvalidPlant")), ("InvalidKey", (.str "InvalidKey"))]]⟩
def f__law_without_key_or : FnSem := run [f_without_key] b__law_without_key_or
def b__law_needless_or : Fn := ⟨1, 1, [.tryR (.call 0 [.var 0]) [("InvalidPlant", (.str "InvalidPlant"))]]⟩
def f__law_needless_or : FnSem := run [f_needless] b__law_needless_or
def b_added : Fn := ⟨3, 4, [.asg true 3 (.lst [.op2 .ix (.var 0) (.con (.int 1)), .op2 .ix (.var 0) (.con (.int 2))]),
  .ite (.op2 .eq (.op1 .len (.op2 .ix (.var 3) (.var 1))) (.con (.int 6))) [.raise "TooLarge"] [],
  .store 3 (.var 1) (.op1 .tupleOf (.op1 .sorted (.op2 .add (.op2 .ix (.var 3) (.var 1)) (.tup [.var 2])))),
  .ret (.tup [.op2 .ix (.var 0) (.con (.int 0)), .op2 .ix (.var 3) (.con (.int 0)), .op2 .ix (.var 3) (.con (.int 1))])]⟩
def f_added : FnSem := run [] b_added
def b_keyed : Fn := ⟨4, 6, [.asg true 4 (.lst []),
  .for (.n 5) .plain [.var 0] [.ite (.op2 .isin (.op2 .ix (.var 5) (.con (.int 0))) (.tup [.op2 .ix (.var 2) (.con (.int 0)), .op2 .ix (.var 3) (.con (.int 0))])) [.asg false 5 (.call 0 [.var 5, .ite (.op2 .eq (.op2 .ix (.var 5) (.con (.int 0))) (.op2 .ix (.var 2) (.con (.int 0)))) (.op2 .ix (.var 2) (.con (.int 1))) (.op2 .ix (.var 3) (.con (.int 1))), .var 1])] [],
  .append 4 (.var 5)],
  .ret (.op1 .tupleOf (.var 4))]⟩
def f_keyed : FnSem := run [f_added] b_keyed
def b_with_key : Fn := ⟨4, 4, [.exp (.call 0 [.var 0]),
  .ite (.or (.op1 .not (.call 1 [.var 1])) (.op2 .isin (.var 1) (.call 2 [.var 0]))) [.raise "InvalidKey"] [],
  .ite (.or (.op1 .not (.call 3 [.var 0, .var 2])) (.op1 .not (.call 3 [.var 0, .var 3]))) [.raise "InvalidPosition"] [],
  .ite (.op2 .eq (.op2 .ix (.var 2) (.con (.int 0))) (.op2 .ix (.var 3) (.con (.int 0)))) [.raise "SameLock"] [],
  .ret (.call 4 [.var 0, .var 1, .var 2, .var 3])]⟩
def f_with_key : FnSem := run [f_require_plant, f_is_word, f_find_keys, f_is_position, f_keyed] b_with_key
def b__law_with_key_or : Fn := ⟨4, 4, [.tryR (.call 0 [.var 0, .var 1, .var 2, .var 3]) [("InvalidPlant", (.str "InvalidPlant")), ("InvalidKey", (.str "InvalidKey")), ("InvalidPosition", (.str "InvalidPosition")), ("SameLock", (.str "SameLock")), ("TooLarge", (.str "TooLarge"))]]⟩
def f__law_with_key_or : FnSem := run [f_with_key] b__law_with_key_or
def b__law_refused_k21 : Fn := ⟨1, 5, [.par [(3, false), (4, false)] [.op2 .ix (.op2 .ix (.var 0) (.con (.int 0))) (.con (.int 0)), .op2 .add (.op2 .ix (.op2 .ix (.var 0) (.con (.int 0))) (.con (.int 1))) (.op2 .ix (.op2 .ix (.var 0) (.con (.int 0))) (.con (.int 2)))],
  .for (.n 1) .plain [.op2 .add (.lst [.con (.str ""), .con (.str "A"), .con (.str "abcde"), .con .none, .con (.int 1)]) (.op1 .listOf (.var 4))] [.ite (.op2 .ne (.call 0 [.var 0, .var 1, .con (.int 1), .con (.int 1)]) (.con (.str "InvalidKey"))) [.ret (.con (.bool false))] []],
  .for (.n 1) .plain [.lst [.tup [.con (.str "q"), .con (.int 0)], .tup [.var 3, .con (.int 2)], .tup [.var 3], .con .none, .tup [.var 3, .con (.bool true)], .lst [.var 3, .con (.int 0)], .tup [.var 3, .con (.int 0), .con (.int 1)]]] [.ite (.op2 .ne (.call 0 [.var 0, .con (.str "new"), .var 1, .var 1]) (.con (.str "InvalidPosition"))) [.ret (.con (.bool false))] [],
  .ite (.op2 .ne (.call 0 [.var 0, .con (.str "new"), .tup [.var 3, .con (.int 0)], .var 1]) (.con (.str "InvalidPosition"))) [.ret (.con (.bool false))] []],
  .ite (.op2 .ne (.call 0 [.var 0, .con (.str "new"), .tup [.var 3, .con (.int 0)], .tup [.var 3, .con (.int 1)]]) (.con (.str "SameLock"))) [.ret (.con (.bool false))] [],
  .asg false 2 (.tup [.tup [.con (.str "a"), .op1 .tupleOf (.con (.str "uvwxyz")), .tup []], .tup [.con (.str "b"), .tup [], .tup []]]),
  .ite (.op2 .ne (.call 0 [.var 2, .con (.str "new"), .tup [.con (.str "b"), .con (.int 0)], .tup [.con (.str "a"), .con (.int 0)]]) (.con (.str "TooLarge"))) [.ret (.con (.bool false))] [],
  .ite (.op2 .ne (.call 0 [.var 2, .con (.str "new"), .tup [.con (.str "a"), .con (.int 0)], .tup [.con (.str "b"), .con (.int 1)]]) (.con (.str "TooLarge"))) [.ret (.con (.bool false))] [],
  .ret (.op2 .eq (.call 0 [.tup [], .con (.str "new"), .con (.int 1), .con (.int 1)]) (.con (.str "InvalidPlant")))]⟩
def f__law_refused_k21 : FnSem := run [f__law_with_key_or] b__law_refused_k21
def b__law_fewer_holds : Fn := ⟨3, 9, [.asg false 3 (.call 0 [.var 0, .var 2]),
  .ite (.or (.op1 .not (.call 1 [.var 3, .var 1])) (.op2 .isin (.var 2) (.call 2 [.var 3]))) [.ret (.con (.bool false))] [],
  .par [(4, false), (5, false)] [.call 3 [.var 0], .call 3 [.var 3]],
  .ite (.or (.comp [6] (.n 6) .plain [.var 4] [.op2 .notin (.var 6) (.var 5)] (.var 6)) (.op2 .ne (.op2 .eq (.var 4) (.var 5)) (.op2 .isin (.var 2) (.call 4 [.var 0])))) [.ret (.con (.bool false))] [],
  .ite (.comp [6] (.n 6) .plain [.call 5 [.var 0, .var 1]] [.op2 .notin (.var 6) (.call 5 [.var 3, .var 1])] (.var 6)) [.ret (.con (.bool false))] [],
  .ite (.comp [7] (.n 7) .plain [.call 6 [.var 3, .var 1]] [.op2 .notin (.var 7) (.call 6 [.var 0, .var 1])] (.var 7)) [.ret (.con (.bool false))] [],
  .ret (.op2 .eq (.comp [8] (.n 8) .plain [.call 7 [.var 3]] [.op2 .notin (.var 8) (.call 7 [.var 0])] (.var 8)) (.lst []))]⟩
def f__law_fewer_holds : FnSem := run [f_without_key, f_is_state, f_all_keys, f_states, f_needless, f_reachable, f_frozen, f_bars] b__law_fewer_holds
def b__law_more_holds : Fn := ⟨3, 10, [.asg false 3 (.call 0 [.var 0, .con (.str "new"), .var 1, .var 2]),
  .asg false 4 (.comp [8] (.n 8) .plain [.var 0] [] (.op2 .ix (.var 8) (.con (.int 0)))),
  .par [(6, false), (7, false)] [.idx (.var 4) (.op2 .ix (.var 1) (.con (.int 0))), .idx (.var 4) (.op2 .ix (.var 2) (.con (.int 0)))],
  .asg false 5 (.comp [9] (.n 9) .plain [.call 1 [.var 0]] [.or (.op2 .ne (.op2 .ix (.var 9) (.var 6)) (.op2 .ix (.var 1) (.con (.int 1)))) (.op2 .ne (.op2 .ix (.var 9) (.var 7)) (.op2 .ix (.var 2) (.con (.int 1))))] (.var 9)),
  .ret (.and (.op2 .eq (.call 1 [.var 3]) (.var 5)) (.and (.op2 .eq (.call 2 [.var 3, .con (.str "new")]) (.var 0)) (.op2 .isin (.op1 .tupleOf (.op1 .sorted (.lst [.var 1, .var 2]))) (.call 3 [.var 3]))))]⟩
def f__law_more_holds : FnSem := run [f_with_key, f_states, f_without_key, f_bars] b__law_more_holds
def b_require_dangers : Fn := ⟨3, 4, [.exp (.call 0 [.var 0, .var 1]),
  .ite (.or (.op1 .not (.op1 (.isi .list) (.var 2))) (.op1 .not (.chain .le .le (.con (.int 1)) (.op1 .len (.var 2)) (.con (.int 5))))) [.raise "InvalidDangers"] [],
  .ite (.op1 .not (.op1 .all (.comp [3] (.n 3) .plain [.var 2] [] (.call 1 [.var 0, .var 3])))) [.raise "InvalidDangers"] []]⟩
def f_require_dangers : FnSem := run [f_require_state, f_is_valid_setting] b_require_dangers
def b_covers : Fn := ⟨2, 2, [.ret (.and (.op2 .isin (.op2 .ix (.var 0) (.con (.int 0))) (.var 1)) (.op2 .isin (.op2 .ix (.var 0) (.con (.int 1))) (.var 1)))]⟩
def f_covers : FnSem := run [] b_covers
def b_mask_of : Fn := ⟨2, 4, [.ret (.op1 .sum (.comp [2, 3] (.t [(.n 2), (.n 3)]) .enum [.var 1] [.call 0 [.var 0, .var 3]] (.op2 .shl (.con (.int 1)) (.var 2))))]⟩
def f_mask_of : FnSem := run [f_covers] b_mask_of
def b__law_risks : Fn := ⟨3, 5, [.asg true 3 (.lst []),
  .for (.n 4) .range1 [.op2 .add (.con (.int 1)) (.call 0 [.var 0, .var 1, .con (.int 4)])] [.append 3 (.call 1 [.var 0, .var 1, .var 2])],
  .ret (.var 3)]⟩
def f__law_risks : FnSem := run [f__law_draw, f__law_setting] b__law_risks
def b__law_first : Fn := ⟨2, 11, [.asg false 2 (.lst [.lst []]),
  .for (.n 3) .range1 [.op2 .add (.op1 .len (.var 1)) (.con (.int 1))] [.for (.n 4) .plain [.var 2] [.asg false 6 (.comp [7] (.n 7) .plain [.var 1] [.op2 .eq (.comp [9, 10] (.t [(.n 9), (.n 10)]) .plain [.var 4] [.and (.op2 .isin (.var 9) (.var 7)) (.op2 .isin (.var 10) (.var 7))] (.con (.int 1))) (.lst [])] (.var 7)),
  .ite (.op2 .eq (.var 6) (.lst [])) [.ret (.var 4)] []],
  .asg false 5 (.lst []),
  .for (.n 4) .plain [.var 2] [.asg false 5 (.op2 .add (.var 5) (.comp [8] (.n 8) .plain [.var 0] [.or (.op2 .eq (.var 4) (.lst [])) (.op2 .gt (.var 8) (.op2 .ix (.var 4) (.op1 .neg (.con (.int 1)))))] (.op2 .add (.var 4) (.lst [.var 8]))))],
  .asg false 2 (.var 5)],
  .ret (.con .none)]⟩
def f__law_first : FnSem := run [] b__law_first
def b__law_with : Fn := ⟨2, 11, [.par [(4, false), (5, true)] [.lst [], .lst []],
  .for (.n 2) .plain [.var 0] [.asg false 4 (.op2 .add (.var 4) (.op1 .listOf (.op2 .add (.op2 .ix (.var 2) (.con (.int 1))) (.op2 .ix (.var 2) (.con (.int 2))))))],
  .asg false 3 (.op2 .ix (.comp [10] (.n 10) .plain [.con (.str "abcdefghijklmnopqrstuvwxyz")] [.op2 .notin (.var 10) (.var 4)] (.var 10)) (.con (.int 0))),
  .for (.t [(.n 6), (.n 7), (.n 8)]) .plain [.var 0] [.asg false 9 (.lst [.op1 .sorted (.op2 .add (.op1 .listOf (.var 7)) (.op2 .mul (.lst [.var 3]) (.op1 .int (.op2 .isin (.tup [.var 6, .con (.int 0)]) (.var 1)))))]),
  .asg false 9 (.op2 .add (.var 9) (.lst [.op1 .sorted (.op2 .add (.op1 .listOf (.var 8)) (.op2 .mul (.lst [.var 3]) (.op1 .int (.op2 .isin (.tup [.var 6, .con (.int 1)]) (.var 1)))))])),
  .append 5 (.tup [.var 6, .op1 .tupleOf (.op2 .ix (.var 9) (.con (.int 0))), .op1 .tupleOf (.op2 .ix (.var 9) (.con (.int 1)))])],
  .ret (.op1 .tupleOf (.var 5))]⟩
def f__law_with : FnSem := run [] b__law_with
def b__law_covered : Fn := ⟨2, 5, [.ret (.op2 .eq (.comp [2] (.n 2) .plain [.var 1] [.op2 .eq (.comp [3, 4] (.t [(.n 3), (.n 4)]) .plain [.var 0] [.and (.op2 .isin (.var 3) (.var 2)) (.op2 .isin (.var 4) (.var 2))] (.con (.int 1))) (.lst [])] (.var 2)) (.lst []))]⟩
def f__law_covered : FnSem := run [] b__law_covered
def b__law_free : Fn := ⟨2, 7, [.par [(2, false), (3, false)] [.lst [], .lst []],
  .for (.t [(.n 4), (.n 5)]) .zip2 [.var 0, .var 1] [.asg false 2 (.op2 .add (.var 2) (.op1 .listOf (.op2 .ix (.var 4) (.op2 .add (.con (.int 1)) (.var 5))))),
  .asg false 3 (.op2 .add (.var 3) (.op1 .listOf (.op2 .add (.op2 .ix (.var 4) (.con (.int 1))) (.op2 .ix (.var 4) (.con (.int 2))))))],
  .ret (.comp [6] (.n 6) .plain [.op1 .setSorted (.var 3)] [.op2 .notin (.var 6) (.var 2)] (.var 6))]⟩
def f__law_free : FnSem := run [] b__law_free
def b_naive_states : Fn := ⟨1, 5, [.exp (.call 0 [.var 0]),
  .asg false 1 (.lst [.tup []]),
  .for (.n 2) .plain [.var 0] [.asg false 1 (.comp2 [3] (.n 3) .plain [.var 1] [4] (.n 4) .plain [.tup [.con (.int 0), .con (.int 1)]] [] (.op2 .add (.var 3) (.tup [.var 4])))],
  .ret (.comp [3] (.n 3) .plain [.var 1] [.call 1 [.var 0, .var 3]] (.var 3))]⟩
def f_naive_states : FnSem := run [f_require_plant, f_is_valid_state] b_naive_states
def b__law_naive_states_or : Fn := ⟨1, 1, [.tryR (.call 0 [.var 0]) [("InvalidPlant", (.str "InvalidPlant"))]]⟩
def f__law_naive_states_or : FnSem := run [f_naive_states] b__law_naive_states_or
def b__law_changed : Fn := ⟨2, 4, [.ret (.op1 .tupleOf (.comp [2, 3] (.t [(.n 2), (.n 3)]) .zip2 [.var 0, .var 1] [] (.ite (.var 3) (.op2 .sub (.con (.int 1)) (.var 2)) (.var 2))))]⟩
def f__law_changed : FnSem := run [] b__law_changed
def b__law_renamed : Fn := ⟨1, 7, [.asg true 1 (.lst []),
  .for (.n 2) .range1 [.op1 .len (.var 0)] [.unp (.t [(.n 3), (.n 4)]) (.comp [5] (.n 5) .plain [.tup [.con (.int 0), .con (.int 1)]] [] (.op1 .tupleOf (.comp [6] (.n 6) .plain [.op2 .ix (.op2 .ix (.var 0) (.var 2)) (.op2 .add (.con (.int 1)) (.var 5))] [] (.op2 .add (.con (.str "z")) (.var 6))))),
  .append 1 (.tup [.op2 .add (.con (.str "zz")) (.op2 .ix (.con (.str "abcd")) (.var 2)), .var 3, .var 4])],
  .ret (.op1 .tupleOf (.var 1))]⟩
def f__law_renamed : FnSem := run [] b__law_renamed
def b__law_choices : Fn := ⟨2, 4, [.asg false 2 (.con (.int 1)),
  .for (.n 3) .range1 [.var 1] [.asg false 2 (.op2 .fdiv (.op2 .mul (.var 2) (.op2 .sub (.var 0) (.var 3))) (.op2 .add (.var 3) (.con (.int 1))))],
  .ret (.var 2)]⟩
def f__law_choices : FnSem := run [] b__law_choices
def b__law_bars : Fn := ⟨1, 8, [.asg true 1 (.lst []),
  .for (.t [(.n 2), (.n 3)]) .enum [.var 0] [.for (.n 4) .plain [.tup [.con (.int 0), .con (.int 1)]] [.for (.n 5) .plain [.slc (.var 0) (some (.op2 .add (.var 2) (.con (.int 1)))) none] [.for (.n 6) .plain [.tup [.con (.int 0), .con (.int 1)]] [.ite (.comp [7] (.n 7) .plain [.op2 .ix (.var 3) (.op2 .add (.con (.int 1)) (.var 4))] [.op2 .isin (.var 7) (.op2 .ix (.var 5) (.op2 .add (.con (.int 1)) (.var 6)))] (.var 7)) [.append 1 (.tup [.tup [.op2 .ix (.var 3) (.con (.int 0)), .var 4], .tup [.op2 .ix (.var 5) (.con (.int 0)), .var 6]])] []]]]],
  .ret (.op1 .sorted (.var 1))]⟩
def f__law_bars : FnSem := run [] b__law_bars
def b__law_without : Fn := ⟨2, 7, [.asg true 2 (.lst []),
  .for (.t [(.n 3), (.n 4), (.n 5)]) .plain [.var 0] [.append 2 (.tup [.var 3, .op1 .tupleOf (.comp [6] (.n 6) .plain [.var 4] [.op2 .ne (.var 6) (.var 1)] (.var 6)), .op1 .tupleOf (.comp [6] (.n 6) .plain [.var 5] [.op2 .ne (.var 6) (.var 1)] (.var 6))])],
  .ret (.op1 .tupleOf (.var 2))]⟩
def f__law_without : FnSem := run [] b__law_without
def b__law_text : Fn := ⟨1, 6, [.asg false 1 (.con (.str "")),
  .for (.t [(.n 2), (.n 3), (.n 4)]) .plain [.var 0] [.asg false 1 (.op2 .add (.op2 .add (.var 1) (.var 2)) (.con (.str ":"))),
  .for (.n 5) .plain [.var 3] [.asg false 1 (.op2 .add (.op2 .add (.var 1) (.con (.str " "))) (.var 5))],
  .asg false 1 (.op2 .add (.var 1) (.con (.str " |"))),
  .for (.n 5) .plain [.var 4] [.asg false 1 (.op2 .add (.op2 .add (.var 1) (.con (.str " "))) (.var 5))],
  .asg false 1 (.op2 .add (.var 1) (.con (.str "\n")))],
  .ret (.var 1)]⟩
def f__law_text : FnSem := run [] b__law_text
def b__law_spoilt : Fn := ⟨3, 7, [.par [(5, false), (6, false)] [.call 0 [.var 0, .var 1, .op1 .len (.var 2)], .op2 .add (.con (.int 1)) (.call 0 [.var 0, .var 1, .con (.int 2)])],
  .asg true 3 (.op1 .listOf (.op2 .ix (.var 2) (.var 5))),
  .asg false 4 (.call 1 [.var 0, .var 1, .lst [.con (.str "zzzz1"), .con (.str "zzzA"), .con (.str "zzz{"), .con (.str "zzzzz"), .con (.str "z~"), .con (.str "zz-z"), .con (.str "zz ")]]),
  .store 3 (.var 6) (.op2 .add (.slc (.op2 .ix (.var 3) (.var 6)) none (some (.op2 .sub (.op1 .len (.op2 .ix (.var 3) (.var 6))) (.con (.int 1))))) (.tup [.var 4])),
  .ret (.op2 .add (.op2 .add (.slc (.var 2) none (some (.var 5))) (.tup [.op1 .tupleOf (.var 3)])) (.slc (.var 2) (some (.op2 .add (.var 5) (.con (.int 1)))) none))]⟩
def f__law_spoilt : FnSem := run [f__law_draw, f__law_pick] b__law_spoilt
def b__law_wrong_places : Fn := ⟨3, 5, [.asg false 3 (.op2 .add (.con (.int 3)) (.call 0 [.var 0, .var 1, .op2 .sub (.op1 .len (.var 2)) (.con (.int 3))])),
  .asg false 4 (.call 1 [.var 0, .var 1, .lst [.con (.bool true), .con (.bool false), .con (.int 2), .op1 .neg (.con (.int 1)), .con .none, .con (.str "0"), .tup [.con (.int 0)], .lst [.con (.int 1)]]]),
  .ret (.op2 .add (.op2 .add (.slc (.var 2) none (some (.var 3))) (.tup [.var 4])) (.slc (.var 2) (some (.op2 .add (.var 3) (.con (.int 1)))) none))]⟩
def f__law_wrong_places : FnSem := run [f__law_draw, f__law_pick] b__law_wrong_places
def b__law_free_k36 : Fn := ⟨2, 5, [.asg false 2 (.lst []),
  .for (.t [(.n 3), (.n 4)]) .zip2 [.var 0, .var 1] [.asg false 2 (.op2 .add (.var 2) (.op1 .listOf (.op2 .ix (.var 3) (.op2 .add (.con (.int 1)) (.var 4)))))],
  .ret (.op2 .eq (.op1 .setLen (.var 2)) (.op1 .len (.var 2)))]⟩
def f__law_free_k36 : FnSem := run [] b__law_free_k36
def b__law_sizes : Fn := ⟨2, 3, [.asg false 2 (.lst [.lst [.op1 .neg (.con (.int 2)), .op1 .neg (.con (.int 2)), .con (.int 2)], .lst [.op1 .neg (.con (.int 3)), .op1 .neg (.con (.int 2)), .con (.int 1)], .lst [.op1 .neg (.con (.int 2)), .con (.int 2), .con (.int 2)], .lst [.con (.int 2), .con (.int 2), .con (.int 2)], .lst [.op1 .neg (.con (.int 2)), .op1 .neg (.con (.int 2)), .con (.int 1), .con (.int 1)], .lst [.con (.int 4), .op1 .neg (.con (.int 2)), .con (.int 1)], .lst [.con (.int 3), .op1 .neg (.con (.int 3))]]),
  .ret (.call 0 [.var 0, .var 1, .op2 .add (.var 2) (.lst [.lst [.con (.int 1), .con (.int 1), .con (.int 1), .con (.int 1), .con (.int 2)], .lst [.con (.int 2), .con (.int 3), .con (.int 1)], .lst [.con (.int 2), .op1 .neg (.con (.int 2)), .op1 .neg (.con (.int 2))], .lst [.op1 .neg (.con (.int 3)), .con (.int 2), .op1 .neg (.con (.int 2))]])])]⟩
def f__law_sizes : FnSem := run [f__law_pick] b__law_sizes
def b__law_blocks : Fn := ⟨3, 6, [.asg false 3 (.call 0 [.var 0, .var 1, .lst [.con (.str "a"), .con (.str "b"), .con (.str "c"), .con (.str "d"), .con (.str "e"), .con (.str "f"), .con (.str "g"), .con (.str "h")]]),
  .asg true 4 (.lst []),
  .ite (.op2 .eq (.call 1 [.var 0, .var 1, .con (.int 3)]) (.con (.int 0))) [.asg false 3 (.op1 .sorted (.var 3))] [],
  .for (.n 5) .plain [.var 2] [.append 4 (.tup [.var 5, .slc (.var 3) none (some (.op1 .abs (.var 5)))]),
  .asg false 3 (.slc (.var 3) (some (.op1 .abs (.var 5))) none)],
  .ret (.var 4)]⟩
def f__law_blocks : FnSem := run [f__law_shuffled, f__law_draw] b__law_blocks
def b__law_made : Fn := ⟨1, 9, [.asg true 1 (.lst []),
  .for (.t [(.n 2), (.t [(.n 4), (.n 5)])]) .enum [.var 0] [.asg false 3 (.op2 .ix (.con (.str "klmnop")) (.var 2)),
  .for (.t [(.n 6), (.n 7)]) .enum [.var 5] [.asg false 8 (.ite (.op2 .lt (.var 4) (.con (.int 0))) (.op2 .mod (.op2 .add (.var 6) (.con (.int 1))) (.op1 .len (.var 5))) (.op2 .add (.var 6) (.con (.int 1)))),
  .ite (.op2 .eq (.var 4) (.con (.int 1))) [.append 1 (.tup [.var 7, .tup [], .tup []])] [.append 1 (.tup [.var 7, .tup [.op2 .add (.var 3) (.op2 .ix (.con (.str "abcde")) (.var 6))], .tup [.op2 .add (.var 3) (.op2 .ix (.con (.str "abcde")) (.var 8))]])]]],
  .ret (.op1 .tupleOf (.op1 .sorted (.var 1)))]⟩
def f__law_made : FnSem := run [] b__law_made
def b__law_rows_of : Fn := ⟨1, 2, [.ite (.op2 .lt (.var 0) (.con (.int 0))) [.ret (.lst [.op2 .mul (.lst [.con (.int 0)]) (.op1 .neg (.var 0)), .op2 .mul (.lst [.con (.int 1)]) (.op1 .neg (.var 0))])] [],
  .ret (.comp [1] (.n 1) .range1 [.op2 .add (.var 0) (.con (.int 1))] [] (.op2 .add (.op2 .mul (.lst [.con (.int 0)]) (.op2 .sub (.var 0) (.var 1))) (.op2 .mul (.lst [.con (.int 1)]) (.var 1))))]⟩
def f__law_rows_of : FnSem := run [] b__law_rows_of
def b__law_named : Fn := ⟨2, 5, [.asg true 2 (.dict false [] []),
  .for (.t [(.n 3), (.n 4)]) .zip2 [.var 0, .var 1] [.store 2 (.op2 .ix (.var 3) (.con (.int 0))) (.var 4)],
  .ret (.var 2)]⟩
def f__law_named : FnSem := run [] b__law_named
def b__law_ring : Fn := ⟨3, 8, [.asg true 3 (.lst []),
  .for (.t [(.n 4), (.n 5)]) .plain [.var 0] [.ite (.and (.op2 .lt (.var 4) (.con (.int 0))) (.op2 .ne (.op2 .ix (.var 1) (.op2 .ix (.var 5) (.con (.int 0)))) (.op2 .ix (.var 2) (.op2 .ix (.var 5) (.con (.int 0)))))) [.asg false 6 (.ite (.op2 .eq (.op2 .ix (.var 2) (.op2 .ix (.var 5) (.con (.int 0)))) (.con (.int 1))) (.var 5) (.op1 .rev (.var 5))),
  .asg false 7 (.idx (.var 6) (.op1 .min (.var 6))),
  .append 3 (.tup [.op1 .neg (.var 4), .op2 .add (.slc (.var 6) (some (.var 7)) none) (.slc (.var 6) none (some (.var 7)))])] []],
  .ret (.ite (.var 3) (.op2 .ix (.op2 .ix (.op1 .sorted (.var 3)) (.con (.int 0))) (.con (.int 1))) (.con .none))]⟩
def f__law_ring : FnSem := run [] b__law_ring
def b__law_early_k37 : Fn := ⟨3, 10, [.asg true 3 (.dict false [] []),
  .for (.t [(.n 4), (.n 5)]) .plain [.var 0] [.asg false 6 (.comp [8] (.n 8) .plain [.var 5] [.op2 .ne (.op2 .ix (.var 1) (.var 8)) (.op2 .ix (.var 2) (.var 8))] (.var 8)),
  .ite (.op2 .gt (.var 4) (.con (.int 0))) [.asg false 7 (.ite (.comp [8] (.n 8) .plain [.var 6] [.op2 .eq (.op2 .ix (.var 2) (.var 8)) (.con (.int 1))] (.con (.int 1))) (.op1 .rev (.var 6)) (.var 6)),
  .for (.t [(.n 9), (.n 8)]) .enum [.var 7] [.store 3 (.var 8) (.var 9)]] []],
  .ret (.var 3)]⟩
def f__law_early_k37 : FnSem := run [] b__law_early_k37
def b__law_rounds : Fn := ⟨1, 5, [.asg true 1 (.lst []),
  .for (.n 2) .range1 [.con (.int 9)] [.asg false 3 (.op1 .sorted (.comp [4] (.n 4) .plain [.var 0] [.op2 .eq (.op2 .ix (.var 0) (.var 4)) (.var 2)] (.var 4))),
  .ite (.var 3) [.append 1 (.var 3)] []],
  .ret (.var 1)]⟩
def f__law_rounds : FnSem := run [] b__law_rounds
def b__law_both : Fn := ⟨3, 5, [.asg false 3 (.comp [4] (.n 4) .plain [.var 0] [.op2 .eq (.op2 .ix (.var 4) (.op2 .ix (.var 1) (.con (.int 0)))) (.op2 .ix (.var 1) (.con (.int 1)))] (.var 4)),
  .ret (.comp [4] (.n 4) .plain [.var 3] [.op2 .eq (.op2 .ix (.var 4) (.op2 .ix (.var 2) (.con (.int 0)))) (.op2 .ix (.var 2) (.con (.int 1)))] (.var 4))]⟩
def f__law_both : FnSem := run [] b__law_both
def b__law_spoilt_way : Fn := ⟨6, 8, [.asg false 6 (.call 0 [.var 0, .var 1, .lst [.con (.str "x"), .con (.str ""), .con .none, .con (.int 5), .con (.bool true), .tup [.con (.str "a")], .lst [.con (.str "a")], .con (.str "aa")]]),
  .asg false 7 (.call 1 [.var 0, .var 1, .op1 .len (.var 5)]),
  .ret (.call 2 [.var 2, .var 3, .var 4, .op2 .add (.op2 .add (.slc (.var 5) none (some (.var 7))) (.lst [.var 6])) (.slc (.var 5) (some (.op2 .add (.var 7) (.con (.int 1)))) none)])]⟩
def f__law_spoilt_way : FnSem := run [f__law_pick, f__law_draw, f_is_way] b__law_spoilt_way
def b__law_spoilt_rounds : Fn := ⟨6, 9, [.asg false 6 (.call 0 [.var 0, .var 1, .op1 .len (.var 5)]),
  .asg false 7 (.call 1 [.var 0, .var 1, .lst [.con (.str "x"), .con (.str "zz"), .con (.str "hh"), .con (.str "i")]]),
  .asg false 8 (.op2 .add (.slc (.op2 .ix (.var 5) (.var 6)) none (some (.op2 .sub (.op1 .len (.op2 .ix (.var 5) (.var 6))) (.con (.int 1))))) (.lst [.var 7])),
  .ret (.call 2 [.var 2, .var 3, .var 4, .op2 .add (.op2 .add (.slc (.var 5) none (some (.var 6))) (.lst [.var 8])) (.slc (.var 5) (some (.op2 .add (.var 6) (.con (.int 1)))) none)])]⟩
def f__law_spoilt_rounds : FnSem := run [f__law_draw, f__law_pick, f_are_rounds] b__law_spoilt_rounds
def b__law_gone : Fn := ⟨6, 8, [.asg false 6 (.call 0 [.var 2, .var 3, .var 4]),
  .ite (.or (.op1 .not (.call 1 [.var 2, .var 3, .var 4, .var 6])) (.op2 .ne (.op1 .sorted (.var 6)) (.op1 .sorted (.var 5)))) [.ret (.con (.bool false))] [],
  .asg false 7 (.call 2 [.var 5]),
  .ite (.or (.op2 .ne (.call 3 [.var 2, .var 3, .var 4]) (.var 7)) (.op1 .not (.call 4 [.var 2, .var 3, .var 4, .var 7]))) [.ret (.con (.bool false))] [],
  .ite (.op1 .not (.var 7)) [.ret (.con (.bool true))] [],
  .ite (.call 5 [.var 0, .var 1, .var 2, .var 3, .var 4, .var 6]) [.ret (.con (.bool false))] [],
  .ret (.op1 .not (.call 6 [.var 0, .var 1, .var 2, .var 3, .var 4, .var 7]))]⟩
def f__law_gone : FnSem := run [f_way, f_is_way, f__law_rounds, f_rounds, f_are_rounds, f__law_spoilt_way, f__law_spoilt_rounds] b__law_gone
def b__law_loose : Fn := ⟨2, 11, [.asg false 2 (.call 0 [.var 0, .var 1, .lst [.con (.str "a"), .con (.str "b"), .con (.str "c"), .con (.str "d"), .con (.str "e"), .con (.str "f"), .con (.str "g"), .con (.str "h")]]),
  .asg false 2 (.op1 .sorted (.slc (.var 2) none (some (.op2 .add (.con (.int 5)) (.call 1 [.var 0, .var 1, .con (.int 4)]))))),
  .par [(5, false), (6, true)] [.call 0 [.var 0, .var 1, .comp [10] (.n 10) .plain [.con (.str "abcdefghijklmnopqrstuvwxyz")] [] (.var 10)], .lst []],
  .asg false 3 (.call 1 [.var 0, .var 1, .con (.int 2)]),
  .for (.n 4) .plain [.var 2] [.asg true 7 (.lst []),
  .for (.n 8) .plain [.tup [.con (.int 0), .con (.int 1)]] [.asg false 9 (.ite (.var 3) (.call 1 [.var 0, .var 1, .con (.int 3)]) (.con (.int 5))),
  .append 7 (.op1 .tupleOf (.op1 .sorted (.slc (.var 5) none (some (.var 9))))),
  .asg false 5 (.slc (.var 5) (some (.var 9)) none)],
  .append 6 (.tup [.var 4, .op2 .ix (.var 7) (.con (.int 0)), .op2 .ix (.var 7) (.con (.int 1))])],
  .ret (.op1 .tupleOf (.var 6))]⟩
def f__law_loose : FnSem := run [f__law_shuffled, f__law_draw] b__law_loose
def b__law_setting_k38 : Fn := ⟨4, 7, [.asg false 4 (.op1 .sorted (.slc (.call 0 [.var 0, .var 1, .comp [6] (.n 6) .plain [.var 2] [] (.op2 .ix (.var 6) (.con (.int 0)))]) none (some (.op2 .add (.var 3) (.call 1 [.var 0, .var 1, .con (.int 4)]))))),
  .ret (.op1 .tupleOf (.comp [5] (.n 5) .plain [.var 4] [] (.tup [.var 5, .call 1 [.var 0, .var 1, .con (.int 2)]])))]⟩
def f__law_setting_k38 : FnSem := run [f__law_shuffled, f__law_draw] b__law_setting_k38
def b__law_guards : Fn := ⟨3, 10, [.par [(4, false), (5, true)] [.comp [8, 9] (.t [(.n 8), (.n 9)]) .zip2 [.var 0, .var 1] [] (.tup [.op2 .ix (.var 8) (.con (.int 0)), .var 9]), .lst []],
  .for (.n 3) .plain [.var 2] [.for (.n 6) .plain [.var 3] [.for (.n 7) .plain [.var 3] [.ite (.and (.op2 .lt (.var 6) (.var 7)) (.and (.op1 .not (.and (.op2 .isin (.var 6) (.var 4)) (.op2 .isin (.var 7) (.var 4)))) (.op2 .notin (.tup [.var 6, .var 7]) (.var 5)))) [.append 5 (.tup [.var 6, .var 7])] []]]],
  .ret (.op1 .sorted (.var 5))]⟩
def f__law_guards : FnSem := run [] b__law_guards
def b__law_spoilt_list : Fn := ⟨4, 6, [.asg false 4 (.slc (.op2 .mul (.var 3) (.con (.int 5))) none (some (.op2 .add (.con (.int 4)) (.call 0 [.var 0, .var 1, .con (.int 2)])))),
  .asg false 5 (.call 1 [.var 0, .var 1, .lst [.tup [.tup [.con (.str "x"), .con (.int 0)]], .con (.int 5), .con .none, .tup [.tup [.op2 .ix (.op2 .ix (.var 2) (.con (.int 0))) (.con (.int 0)), .con (.int 2)]], .tup [.tup [.op2 .ix (.op2 .ix (.var 2) (.con (.int 0))) (.con (.int 0)), .con (.bool true)]], .lst [], .con (.str "a")]]),
  .ret (.op2 .add (.slc (.var 4) none (some (.op2 .sub (.op1 .len (.var 4)) (.con (.int 1))))) (.lst [.var 5]))]⟩
def f__law_spoilt_list : FnSem := run [f__law_draw, f__law_pick] b__law_spoilt_list
end TK.P


namespace TK.KK
open PySem PySem.Spec PyProof.Rows L2 TK TK.P
def top (i : Nat) : Stmt := PySem.Challenge.pw_trappedkeys_k14_whole_frozen.main.body.getD i (.Pass ⟨0, 0, 0, 0⟩)
def exL : List Str := ["InvalidPlant", "InvalidState", "InvalidGoal"]
section
variable {P : Program} {w : World} {K : PySem.W.Frag} {mg : Str → Option Value} {base : Heap} {f : Addr} {fd : FuncData}
/-! is_integer -/
theorem w_is_integer {k : Nat} (hB : Blt mg) (hX : XC K mg exL) (F : FunD K "is_integer" "is_integer" (defArgs (top 6)) (defBody (top 6)) (defScope (top 6)) [] [] f fd) (gm : mg "is_integer" = some (.ref f))  : FnGood P w K mg base (k + 1) "is_integer" f_is_integer :=
  good_defX (fn := b_is_integer) ["candidate", "least", "most"] ["candidate", "least", "most"] hB hX F gm (by kernel_rfl) (fun _ _ _ _ _ _ us hl => match us, hl with | [_, _, _], _ => rfl) rfl rfl fun cdv A outer s H E c o =>
  (x_cons (x_ret (s_and (e_isi c rfl rfl (by kernel_rfl) (by kernel_rfl) rfl (e_varB rfl rfl rfl)) (s_and (s_not (e_B rfl (e_isi c rfl rfl (by kernel_rfl) (by kernel_rfl) rfl (e_varB rfl rfl rfl)))) (s_one (e_chain ok_le ok_le rfl rfl (e_varB rfl rfl rfl) (e_varB rfl rfl rfl) (e_varB rfl rfl rfl))))))
  x_nil)
/-! is_ascending -/
theorem w_is_ascending {k : Nat} (hB : Blt mg) (hX : XC K mg exL) (F : FunD K "is_ascending" "is_ascending" (defArgs (top 7)) (defBody (top 7)) (defScope (top 7)) [] [] f fd) (gm : mg "is_ascending" = some (.ref f))  : FnGood P w K mg base (k + 1) "is_ascending" f_is_ascending :=
  good_defX (fn := b_is_ascending) ["row", "one", "other"] ["row"] hB hX F gm (by kernel_rfl) (fun _ _ _ _ _ _ us hl => match us, hl with | [_], _ => rfl) rfl rfl fun cdv A outer s H E c o =>
  (x_cons (x_ret (e_all c rfl rfl (e_B rfl (e_comp [("one", 1), ("other", 2)] c (by kernel_rfl) rfl (fun _ => rfl) (j_zip c rfl rfl rfl (s_mB (e_varB rfl rfl rfl)) (s_mB (e_B rfl (s_slc (e_varB rfl rfl rfl) (o_some (s_con rfl)) o_none)))) (fun _ _ _ _ _ => (j_tup c.blk rfl rfl (j_cons rfl (j_name c.blk rfl rfl rfl) (j_cons rfl (j_name c.blk rfl rfl rfl) g_nil)))) (fun _ _ _ _ _ => c_nil) (fun _ _ _ _ _ => (e_cmp (ok_lt c.blk.room) rfl (e_varB rfl rfl rfl) (e_varB rfl rfl rfl)))))))
  x_nil)
/-! is_word -/
theorem w_is_word {k : Nat} (hB : Blt mg) (hX : XC K mg exL) (F : FunD K "is_word" "is_word" (defArgs (top 8)) (defBody (top 8)) (defScope (top 8)) [] [] f fd) (gm : mg "is_word" = some (.ref f))  : FnGood P w K mg base (k + 1) "is_word" f_is_word :=
  good_defX (fn := b_is_word) ["candidate", "sign"] ["candidate"] hB hX F gm (by kernel_rfl) (fun _ _ _ _ _ _ us hl => match us, hl with | [_], _ => rfl) rfl rfl fun cdv A outer s H E c o =>
  (x_cons (x_if (PW.pt (t_or (t_not (t_truth (e_B rfl (e_isi c rfl rfl (by kernel_rfl) (by kernel_rfl) rfl (e_varB rfl rfl rfl))) (fun _ => rfl))) (t_or1 (t_not (p_chain ok_le ok_le rfl rfl rfl (e_B rfl (s_con rfl)) (e_B rfl (e_len c rfl rfl (e_varB rfl rfl rfl))) (e_B rfl (s_con rfl))))))) (x_cons (x_ret (s_con rfl))
  x_nil) x_nil)
  (x_cons (x_ret (e_all c rfl rfl (e_B rfl (e_comp [("sign", 1)] c (by kernel_rfl) rfl (fun _ => rfl) (i_plain (s_mB (e_varB rfl rfl rfl))) (fun _ _ _ _ _ => (j_name c.blk rfl rfl rfl)) (fun _ _ _ _ _ => c_nil) (fun _ _ _ _ _ => (e_chain ok_le ok_le rfl rfl (e_B rfl (s_con (by kernel_rfl))) (e_varB rfl rfl rfl) (e_B rfl (s_con (by kernel_rfl)))))))))
  x_nil))
/-! are_keys -/
theorem w_are_keys {k : Nat} (hB : Blt mg) (hX : XC K mg exL) (F : FunD K "are_keys" "are_keys" (defArgs (top 9)) (defBody (top 9)) (defScope (top 9)) [] [] f fd) (gm : mg "are_keys" = some (.ref f)) (G0 : FnGood P w K mg base k "is_word" f_is_word) (G1 : FnGood P w K mg base k "is_ascending" f_is_ascending) : FnGood P w K mg base (k + 1) "are_keys" f_are_keys :=
  good_defX (fn := b_are_keys) ["candidate", "one"] ["candidate"] hB hX F gm (by kernel_rfl) (fun _ _ _ _ _ _ us hl => match us, hl with | [_], _ => rfl) rfl rfl fun cdv A outer s H E c o =>
  (x_cons (x_if (PW.pt (t_or (t_not (t_truth (e_B rfl (e_isi c rfl rfl (by kernel_rfl) (by kernel_rfl) rfl (e_varB rfl rfl rfl))) (fun _ => rfl))) (t_or (p_cmp ok_gt rfl rfl (e_B rfl (e_len c rfl rfl (e_varB rfl rfl rfl))) (e_B rfl (s_con rfl))) (t_or1 (t_not (t_truth (e_B rfl (e_all c rfl rfl (e_B rfl (e_comp [("one", 1)] c (by kernel_rfl) rfl (fun _ => rfl) (i_plain (s_mB (e_varB rfl rfl rfl))) (fun _ _ _ _ _ => (j_name c.blk rfl rfl rfl)) (fun _ _ _ _ _ => c_nil) (fun _ _ _ _ _ => (e_call c.blk G0 rfl rfl rfl rfl (e_cons rfl (e_var rfl rfl rfl) s_nil))))))) (fun _ => rfl))))))) (x_cons (x_ret (s_con rfl))
  x_nil) x_nil)
  (x_cons (x_ret (e_call c G1 rfl rfl rfl rfl (e_cons rfl (e_var rfl rfl rfl) s_nil)))
  x_nil))
/-! is_lock -/
theorem w_is_lock {k : Nat} (hB : Blt mg) (hX : XC K mg exL) (F : FunD K "is_lock" "is_lock" (defArgs (top 10)) (defBody (top 10)) (defScope (top 10)) [] [] f fd) (gm : mg "is_lock" = some (.ref f)) (G0 : FnGood P w K mg base k "is_word" f_is_word) (G1 : FnGood P w K mg base k "are_keys" f_are_keys) : FnGood P w K mg base (k + 1) "is_lock" f_is_lock :=
  good_defX (fn := b_is_lock) ["candidate"] ["candidate"] hB hX F gm (by kernel_rfl) (fun _ _ _ _ _ _ us hl => match us, hl with | [_], _ => rfl) rfl rfl fun cdv A outer s H E c o =>
  (x_cons (x_if (PW.pt (t_or (t_not (t_truth (e_B rfl (e_isi c rfl rfl (by kernel_rfl) (by kernel_rfl) rfl (e_varB rfl rfl rfl))) (fun _ => rfl))) (t_or (p_cmp (ok_ne c.room) rfl rfl (e_B rfl (e_len c rfl rfl (e_varB rfl rfl rfl))) (e_B rfl (s_con rfl))) (t_or1 (t_not (t_truth (e_B rfl (e_call c G0 rfl rfl rfl rfl (e_cons rfl (e_ix c (fun _ _ => rfl) (e_varB rfl rfl rfl) (e_B rfl (s_con rfl))) s_nil))) (fun _ => rfl))))))) (x_cons (x_ret (s_con rfl))
  x_nil) x_nil)
  (x_cons (x_ret (s_and (e_call c G1 rfl rfl rfl rfl (e_cons rfl (e_ix c (fun _ _ => rfl) (e_varB rfl rfl rfl) (e_B rfl (s_con rfl))) s_nil)) (s_one (e_call c G1 rfl rfl rfl rfl (e_cons rfl (e_ix c (fun _ _ => rfl) (e_varB rfl rfl rfl) (e_B rfl (s_con rfl))) s_nil)))))
  x_nil))
/-! is_plant -/
theorem w_is_plant {k : Nat} (hB : Blt mg) (hX : XC K mg exL) (F : FunD K "is_plant" "is_plant" (defArgs (top 11)) (defBody (top 11)) (defScope (top 11)) [] [] f fd) (gm : mg "is_plant" = some (.ref f)) (G0 : FnGood P w K mg base k "is_lock" f_is_lock) (G1 : FnGood P w K mg base k "is_ascending" f_is_ascending) : FnGood P w K mg base (k + 1) "is_plant" f_is_plant :=
  good_defX (fn := b_is_plant) ["candidate", "one"] ["candidate"] hB hX F gm (by kernel_rfl) (fun _ _ _ _ _ _ us hl => match us, hl with | [_], _ => rfl) rfl rfl fun cdv A outer s H E c o =>
  (x_cons (x_if (PW.pt (t_or (t_not (t_truth (e_B rfl (e_isi c rfl rfl (by kernel_rfl) (by kernel_rfl) rfl (e_varB rfl rfl rfl))) (fun _ => rfl))) (t_or1 (t_not (p_chain ok_le ok_le rfl rfl rfl (e_B rfl (s_con rfl)) (e_B rfl (e_len c rfl rfl (e_varB rfl rfl rfl))) (e_B rfl (s_con rfl))))))) (x_cons (x_ret (s_con rfl))
  x_nil) x_nil)
  (x_cons (x_ret (s_and (e_all c rfl rfl (e_B rfl (e_comp [("one", 1)] c (by kernel_rfl) rfl (fun _ => rfl) (i_plain (s_mB (e_varB rfl rfl rfl))) (fun _ _ _ _ _ => (j_name c.blk rfl rfl rfl)) (fun _ _ _ _ _ => c_nil) (fun _ _ _ _ _ => (e_call c.blk G0 rfl rfl rfl rfl (e_cons rfl (e_var rfl rfl rfl) s_nil)))))) (s_one (e_call c G1 rfl rfl rfl rfl (e_cons rfl (e_comp [("one", 1)] c (by kernel_rfl) rfl (fun _ => rfl) (i_plain (s_mB (e_varB rfl rfl rfl))) (fun _ _ _ _ _ => (j_name c.blk rfl rfl rfl)) (fun _ _ _ _ _ => c_nil) (fun _ _ _ _ _ => (e_ix c.blk (fun _ _ => rfl) (e_varB rfl rfl rfl) (e_B rfl (s_con rfl))))) s_nil)))))
  x_nil))
/-! require_plant -/
theorem w_require_plant {k : Nat} (hB : Blt mg) (hX : XC K mg exL) (F : FunD K "require_plant" "require_plant" (defArgs (top 12)) (defBody (top 12)) (defScope (top 12)) [] [] f fd) (gm : mg "require_plant" = some (.ref f)) (G0 : FnGood P w K mg base k "is_plant" f_is_plant) : FnGood P w K mg base (k + 1) "require_plant" f_require_plant :=
  good_defX (fn := b_require_plant) ["plant"] ["plant"] hB hX F gm (by kernel_rfl) (fun _ _ _ _ _ _ us hl => match us, hl with | [_], _ => rfl) rfl rfl fun cdv A outer s H E c o =>
  (x_cons (x_if (t_not (t_truth (e_B rfl (e_call c G0 rfl rfl rfl rfl (e_cons rfl (e_var rfl rfl rfl) s_nil))) (fun _ => rfl))) (x_cons (y_raise c o (by kernel_rfl) rfl rfl)
  x_nil) x_nil)
  x_nil)
/-! held_by -/
theorem w_held_by {k : Nat} (hB : Blt mg) (hX : XC K mg exL) (F : FunD K "held_by" "held_by" (defArgs (top 13)) (defBody (top 13)) (defScope (top 13)) [] [] f fd) (gm : mg "held_by" = some (.ref f))  : FnGood P w K mg base (k + 1) "held_by" f_held_by :=
  good_defX (fn := b_held_by) ["lock", "place"] ["lock", "place"] hB hX F gm (by kernel_rfl) (fun _ _ _ _ _ _ us hl => match us, hl with | [_, _], _ => rfl) rfl rfl fun cdv A outer s H E c o =>
  (x_cons (x_ret (e_ix c (fun _ _ => rfl) (e_varB rfl rfl rfl) (e_B rfl (s_bin ok_add (e_B rfl (s_con rfl)) (e_varB rfl rfl rfl)))))
  x_nil)
/-! are_places -/
theorem w_are_places {k : Nat} (hB : Blt mg) (hX : XC K mg exL) (F : FunD K "are_places" "are_places" (defArgs (top 14)) (defBody (top 14)) (defScope (top 14)) [] [] f fd) (gm : mg "are_places" = some (.ref f)) (G0 : FnGood P w K mg base k "is_integer" f_is_integer) : FnGood P w K mg base (k + 1) "are_places" f_are_places :=
  good_defX (fn := b_are_places) ["plant", "candidate", "place"] ["plant", "candidate"] hB hX F gm (by kernel_rfl) (fun _ _ _ _ _ _ us hl => match us, hl with | [_, _], _ => rfl) rfl rfl fun cdv A outer s H E c o =>
  (x_cons (x_if (PW.pt (t_or (t_not (t_truth (e_B rfl (e_isi c rfl rfl (by kernel_rfl) (by kernel_rfl) rfl (e_varB rfl rfl rfl))) (fun _ => rfl))) (t_or1 (p_cmp (ok_ne c.room) rfl rfl (e_B rfl (e_len c rfl rfl (e_varB rfl rfl rfl))) (e_B rfl (e_len c rfl rfl (e_varB rfl rfl rfl))))))) (x_cons (x_ret (s_con rfl))
  x_nil) x_nil)
  (x_cons (x_ret (e_all c rfl rfl (e_B rfl (e_comp [("place", 2)] c (by kernel_rfl) rfl (fun _ => rfl) (i_plain (s_mB (e_varB rfl rfl rfl))) (fun _ _ _ _ _ => (j_name c.blk rfl rfl rfl)) (fun _ _ _ _ _ => c_nil) (fun _ _ _ _ _ => (e_call c.blk G0 rfl rfl rfl rfl (e_cons rfl (e_var rfl rfl rfl) (e_cons rfl (s_con rfl) (e_cons rfl (s_con rfl) s_nil)))))))))
  x_nil))
/-! fits -/
theorem w_fits {k : Nat} (hB : Blt mg) (hX : XC K mg exL) (F : FunD K "fits" "fits" (defArgs (top 15)) (defBody (top 15)) (defScope (top 15)) [] [] f fd) (gm : mg "fits" = some (.ref f)) (G0 : FnGood P w K mg base k "held_by" f_held_by) : FnGood P w K mg base (k + 1) "fits" f_fits :=
  good_defX (fn := b_fits) ["plant", "places", "held", "lock", "place"] ["plant", "places"] hB hX F gm (by kernel_rfl) (fun _ _ _ _ _ _ us hl => match us, hl with | [_, _], _ => rfl) rfl rfl fun cdv A outer s H E c o =>
  (x_cons (y_asg true c rfl rfl rfl rfl (f_lst s_nil))
  (x_cons (y_for c o.own (fun _ => rfl) (j_zip c rfl rfl rfl (s_mV (e_var rfl rfl rfl)) (s_mV (e_var rfl rfl rfl))) (j_tup c rfl rfl (j_cons rfl (j_name c rfl rfl rfl) (j_cons rfl (j_name c rfl rfl rfl) g_nil))) (x_cons (y_extend rfl rfl rfl rfl rfl rfl (e_call c G0 rfl rfl rfl rfl (e_cons rfl (e_var rfl rfl rfl) (e_cons rfl (e_var rfl rfl rfl) s_nil))))
  x_nil))
  (x_cons (x_ret (e_cmp (ok_eq c.room) rfl (e_B rfl (e_setLen c rfl rfl rfl (e_varB rfl rfl rfl))) (e_B rfl (e_len c rfl rfl (e_varB rfl rfl rfl)))))
  x_nil)))
/-! is_valid_state -/
theorem w_is_valid_state {k : Nat} (hB : Blt mg) (hX : XC K mg exL) (F : FunD K "is_valid_state" "is_valid_state" (defArgs (top 16)) (defBody (top 16)) (defScope (top 16)) [] [] f fd) (gm : mg "is_valid_state" = some (.ref f)) (G0 : FnGood P w K mg base k "are_places" f_are_places) (G1 : FnGood P w K mg base k "fits" f_fits) : FnGood P w K mg base (k + 1) "is_valid_state" f_is_valid_state :=
  good_defX (fn := b_is_valid_state) ["plant", "candidate"] ["plant", "candidate"] hB hX F gm (by kernel_rfl) (fun _ _ _ _ _ _ us hl => match us, hl with | [_, _], _ => rfl) rfl rfl fun cdv A outer s H E c o =>
  (x_cons (x_ret (s_and (e_call c G0 rfl rfl rfl rfl (e_cons rfl (e_var rfl rfl rfl) (e_cons rfl (e_var rfl rfl rfl) s_nil))) (s_one (e_call c G1 rfl rfl rfl rfl (e_cons rfl (e_var rfl rfl rfl) (e_cons rfl (e_var rfl rfl rfl) s_nil))))))
  x_nil)
/-! require_state -/
theorem w_require_state {k : Nat} (hB : Blt mg) (hX : XC K mg exL) (F : FunD K "require_state" "require_state" (defArgs (top 17)) (defBody (top 17)) (defScope (top 17)) [] [] f fd) (gm : mg "require_state" = some (.ref f)) (G0 : FnGood P w K mg base k "require_plant" f_require_plant) (G1 : FnGood P w K mg base k "is_valid_state" f_is_valid_state) : FnGood P w K mg base (k + 1) "require_state" f_require_state :=
  good_defX (fn := b_require_state) ["plant", "state"] ["plant", "state"] hB hX F gm (by kernel_rfl) (fun _ _ _ _ _ _ us hl => match us, hl with | [_, _], _ => rfl) rfl rfl fun cdv A outer s H E c o =>
  (x_cons (x_exp (e_call c G0 rfl rfl rfl rfl (e_cons rfl (e_var rfl rfl rfl) s_nil)) rfl)
  (x_cons (x_if (t_not (t_truth (e_B rfl (e_call c G1 rfl rfl rfl rfl (e_cons rfl (e_var rfl rfl rfl) (e_cons rfl (e_var rfl rfl rfl) s_nil)))) (fun _ => rfl))) (x_cons (y_raise c o (by kernel_rfl) rfl rfl)
  x_nil) x_nil)
  x_nil))
/-! do_bar -/
theorem w_do_bar {k : Nat} (hB : Blt mg) (hX : XC K mg exL) (F : FunD K "do_bar" "do_bar" (defArgs (top 19)) (defBody (top 19)) (defScope (top 19)) [] [] f fd) (gm : mg "do_bar" = some (.ref f)) (G0 : FnGood P w K mg base k "held_by" f_held_by) : FnGood P w K mg base (k + 1) "do_bar" f_do_bar :=
  good_defX (fn := b_do_bar) ["plant", "one", "other", "left", "right", "key"] ["plant", "one", "other"] hB hX F gm (by kernel_rfl) (fun _ _ _ _ _ _ us hl => match us, hl with | [_, _, _], _ => rfl) rfl rfl fun cdv A outer s H E c o =>
  (x_cons (y_par2T c rfl rfl rfl rfl rfl (y_p false rfl (e_call c G0 rfl rfl rfl rfl (e_cons rfl (e_ix c (fun _ _ => rfl) (e_varB rfl rfl rfl) (e_B rfl (e_ix c (fun _ _ => rfl) (e_varB rfl rfl rfl) (e_B rfl (s_con rfl))))) (e_cons rfl (e_ix c (fun _ _ => rfl) (e_varB rfl rfl rfl) (e_B rfl (s_con rfl))) s_nil))) (y_p false rfl (e_call c G0 rfl rfl rfl rfl (e_cons rfl (e_ix c (fun _ _ => rfl) (e_varB rfl rfl rfl) (e_B rfl (e_ix c (fun _ _ => rfl) (e_varB rfl rfl rfl) (e_B rfl (s_con rfl))))) (e_cons rfl (e_ix c (fun _ _ => rfl) (e_varB rfl rfl rfl) (e_B rfl (s_con rfl))) s_nil))) p_nil)))
  (x_cons (x_ret (e_any c rfl rfl (e_B rfl (e_comp [("key", 5)] c (by kernel_rfl) rfl (fun _ => rfl) (i_plain (s_mB (e_varB rfl rfl rfl))) (fun _ _ _ _ _ => (j_name c.blk rfl rfl rfl)) (fun _ _ _ _ _ => c_nil) (fun _ _ _ _ _ => (e_cmp (ok_in c.blk.room) rfl (e_varB rfl rfl rfl) (e_varB rfl rfl rfl)))))))
  x_nil))
/-! find_states -/
theorem w_find_states {k : Nat} (hB : Blt mg) (hX : XC K mg exL) (F : FunD K "find_states" "find_states" (defArgs (top 20)) (defBody (top 20)) (defScope (top 20)) [] [] f fd) (gm : mg "find_states" = some (.ref f)) (G0 : FnGood P w K mg base k "fits" f_fits) : FnGood P w K mg base (k + 1) "find_states" f_find_states :=
  good_defX (fn := b_find_states) ["plant", "rows", "lock", "row", "place"] ["plant"] hB hX F gm (by kernel_rfl) (fun _ _ _ _ _ _ us hl => match us, hl with | [_], _ => rfl) rfl rfl fun cdv A outer s H E c o =>
  (x_cons (y_asg false c rfl rfl rfl rfl (s_lst (e_cons rfl (s_tup s_nil) s_nil)))
  (x_cons (y_for c o.own (fun _ => rfl) (i_plain (s_mV (e_var rfl rfl rfl))) (j_name c rfl rfl rfl) (x_cons (y_asgLc2 [("row", 3)] [("place", 4)] c rfl rfl rfl (by kernel_rfl) rfl rfl (fun _ => rfl) (fun _ _ => rfl) (i_plain (s_mB (e_varB rfl rfl rfl))) (fun _ _ _ _ _ => (j_name c.blk rfl rfl rfl)) (fun _ _ _ _ _ => (i_plain (s_mV (s_tup (e_cons rfl (s_con rfl) (e_cons rfl (s_con rfl) s_nil)))))) (fun _ _ _ _ _ => (j_name c.blk rfl rfl rfl)) (fun _ _ _ _ _ => (c_one (t_truth (e_B rfl (e_call c.blk G0 rfl rfl rfl rfl (e_cons rfl (e_var rfl rfl rfl) (e_cons rfl (s_bin ok_add (e_varB rfl rfl rfl) (e_B rfl (s_tup (e_cons rfl (e_var rfl rfl rfl) s_nil)))) s_nil)))) (fun _ => rfl)))) (fun _ _ _ _ _ => (s_bin ok_add (e_varB rfl rfl rfl) (e_B rfl (s_tup (e_cons rfl (e_var rfl rfl rfl) s_nil))))))
  x_nil))
  (x_cons (x_ret (e_var rfl rfl rfl))
  x_nil)))
/-! states -/
theorem w_states {k : Nat} (hB : Blt mg) (hX : XC K mg exL) (F : FunD K "states" "states" (defArgs (top 21)) (defBody (top 21)) (defScope (top 21)) [] [] f fd) (gm : mg "states" = some (.ref f)) (G0 : FnGood P w K mg base k "require_plant" f_require_plant) (G1 : FnGood P w K mg base k "find_states" f_find_states) : FnGood P w K mg base (k + 1) "states" f_states :=
  good_defX (fn := b_states) ["plant"] ["plant"] hB hX F gm (by kernel_rfl) (fun _ _ _ _ _ _ us hl => match us, hl with | [_], _ => rfl) rfl rfl fun cdv A outer s H E c o =>
  (x_cons (x_exp (e_call c G0 rfl rfl rfl rfl (e_cons rfl (e_var rfl rfl rfl) s_nil)) rfl)
  (x_cons (x_ret (e_call c G1 rfl rfl rfl rfl (e_cons rfl (e_var rfl rfl rfl) s_nil)))
  x_nil))
/-! require_goal -/
theorem w_require_goal {k : Nat} (hB : Blt mg) (hX : XC K mg exL) (F : FunD K "require_goal" "require_goal" (defArgs (top 23)) (defBody (top 23)) (defScope (top 23)) [] [] f fd) (gm : mg "require_goal" = some (.ref f)) (G0 : FnGood P w K mg base k "require_state" f_require_state) (G1 : FnGood P w K mg base k "is_valid_state" f_is_valid_state) : FnGood P w K mg base (k + 1) "require_goal" f_require_goal :=
  good_defX (fn := b_require_goal) ["plant", "state", "goal"] ["plant", "state", "goal"] hB hX F gm (by kernel_rfl) (fun _ _ _ _ _ _ us hl => match us, hl with | [_, _, _], _ => rfl) rfl rfl fun cdv A outer s H E c o =>
  (x_cons (x_exp (e_call c G0 rfl rfl rfl rfl (e_cons rfl (e_var rfl rfl rfl) (e_cons rfl (e_var rfl rfl rfl) s_nil))) rfl)
  (x_cons (x_if (t_not (t_truth (e_B rfl (e_call c G1 rfl rfl rfl rfl (e_cons rfl (e_var rfl rfl rfl) (e_cons rfl (e_var rfl rfl rfl) s_nil)))) (fun _ => rfl))) (x_cons (y_raise c o (by kernel_rfl) rfl rfl)
  x_nil) x_nil)
  x_nil))
/-! unlike -/
theorem w_unlike {k : Nat} (hB : Blt mg) (hX : XC K mg exL) (F : FunD K "unlike" "unlike" (defArgs (top 24)) (defBody (top 24)) (defScope (top 24)) [] [] f fd) (gm : mg "unlike" = some (.ref f))  : FnGood P w K mg base (k + 1) "unlike" f_unlike :=
  good_defX (fn := b_unlike) ["state", "goal", "spot", "one", "other"] ["state", "goal"] hB hX F gm (by kernel_rfl) (fun _ _ _ _ _ _ us hl => match us, hl with | [_, _], _ => rfl) rfl rfl fun cdv A outer s H E c o =>
  (x_cons (x_ret (e_comp [("spot", 2), ("one", 3), ("other", 4)] c (by kernel_rfl) rfl (fun _ => rfl) (j_enumZip c rfl rfl rfl rfl (s_mB (e_varB rfl rfl rfl)) (s_mB (e_varB rfl rfl rfl))) (fun _ _ _ _ _ => (j_tup c.blk rfl rfl (j_cons rfl (j_name c.blk rfl rfl rfl) (j_cons rfl (j_tup c.blk rfl rfl (j_cons rfl (j_name c.blk rfl rfl rfl) (j_cons rfl (j_name c.blk rfl rfl rfl) g_nil))) g_nil)))) (fun _ _ _ _ _ => (c_one (p_cmp (ok_ne c.blk.room) rfl rfl (e_varB rfl rfl rfl) (e_varB rfl rfl rfl)))) (fun _ _ _ _ _ => (e_var rfl rfl rfl))))
  x_nil)
/-! waits_of -/
theorem w_waits_of {k : Nat} (hB : Blt mg) (hX : XC K mg exL) (F : FunD K "waits_of" "waits_of" (defArgs (top 25)) (defBody (top 25)) (defScope (top 25)) [] [] f fd) (gm : mg "waits_of" = some (.ref f)) (G0 : FnGood P w K mg base k "unlike" f_unlike) (G1 : FnGood P w K mg base k "do_bar" f_do_bar) : FnGood P w K mg base (k + 1) "waits_of" f_waits_of :=
  good_defX (fn := b_waits_of) ["plant", "state", "goal", "spot", "rest", "found", "others", "other"] ["plant", "state", "goal"] hB hX F gm (by kernel_rfl) (fun _ _ _ _ _ _ us hl => match us, hl with | [_, _, _], _ => rfl) rfl rfl fun cdv A outer s H E c o =>
  (x_cons (y_par2 c rfl rfl rfl rfl rfl rfl (y_p false rfl (e_call c G0 rfl rfl rfl rfl (e_cons rfl (e_var rfl rfl rfl) (e_cons rfl (e_var rfl rfl rfl) s_nil))) (y_p true rfl (f_dnew) p_nil)))
  (x_cons (y_for c o.own (fun _ => rfl) (i_plain (s_mV (e_var rfl rfl rfl))) (j_name c rfl rfl rfl) (x_cons (y_asgLc false [("other", 7)] c rfl rfl rfl (by kernel_rfl) rfl (fun _ => rfl) (i_plain (s_mB (e_varB rfl rfl rfl))) (fun _ _ _ _ _ => (j_name c.blk rfl rfl rfl)) (fun _ _ _ _ _ => (c_one (p_cmp (ok_ne c.blk.room) rfl rfl (e_varB rfl rfl rfl) (e_varB rfl rfl rfl)))) (fun _ _ _ _ _ => (e_var rfl rfl rfl)))
  (x_cons (y_store c rfl rfl rfl (fun _ => rfl) rfl rfl rfl (e_var rfl rfl rfl) (e_comp [("other", 7)] c (by kernel_rfl) rfl (fun _ => rfl) (i_plain (s_mB (e_varB rfl rfl rfl))) (fun _ _ _ _ _ => (j_name c.blk rfl rfl rfl)) (fun _ _ _ _ _ => (c_one (t_truth (e_B rfl (e_call c.blk G1 rfl rfl rfl rfl (e_cons rfl (e_var rfl rfl rfl) (e_cons rfl (s_tup (e_cons rfl (e_var rfl rfl rfl) (e_cons rfl (e_ix c.blk (fun _ _ => rfl) (e_varB rfl rfl rfl) (e_varB rfl rfl rfl)) s_nil))) (e_cons rfl (s_tup (e_cons rfl (e_var rfl rfl rfl) (e_cons rfl (e_ix c.blk (fun _ _ => rfl) (e_varB rfl rfl rfl) (e_varB rfl rfl rfl)) s_nil))) s_nil))))) (fun _ => rfl)))) (fun _ _ _ _ _ => (e_var rfl rfl rfl))))
  x_nil)))
  (x_cons (x_ret (e_var rfl rfl rfl))
  x_nil)))
/-! find_way -/
theorem w_find_way {k : Nat} (hB : Blt mg) (hX : XC K mg exL) (F : FunD K "find_way" "find_way" (defArgs (top 26)) (defBody (top 26)) (defScope (top 26)) [] [] f fd) (gm : mg "find_way" = some (.ref f)) (G0 : FnGood P w K mg base k "waits_of" f_waits_of) : FnGood P w K mg base (k + 1) "find_way" f_find_way :=
  good_defX (fn := b_find_way) ["plant", "state", "goal", "needs", "done", "found", "ready", "spot", "other"] ["plant", "state", "goal"] hB hX F gm (by kernel_rfl) (fun _ _ _ _ _ _ us hl => match us, hl with | [_, _, _], _ => rfl) rfl rfl fun cdv A outer s H E c o =>
  (x_cons (y_par3T c rfl rfl rfl rfl rfl rfl rfl (y_p false rfl (e_call c G0 rfl rfl rfl rfl (e_cons rfl (e_var rfl rfl rfl) (e_cons rfl (e_var rfl rfl rfl) (e_cons rfl (e_var rfl rfl rfl) s_nil)))) (y_p true rfl (f_dnew) (y_p true rfl (f_lst s_nil) p_nil))))
  (x_cons (x_while o.own (p_cmp (ok_lt c.room) rfl rfl (e_B rfl (e_len c rfl rfl (e_varB rfl rfl rfl))) (e_B rfl (e_len c rfl rfl (e_varB rfl rfl rfl)))) (x_cons (y_asgLc false [("spot", 7)] c rfl rfl rfl (by kernel_rfl) rfl (fun _ => rfl) (i_keys (e_var rfl rfl rfl)) (fun _ _ _ _ _ => (j_name c.blk rfl rfl rfl)) (fun _ _ _ _ _ => (c_one (PW.pt (t_and (p_cmp (ok_notin c.blk.room) rfl rfl (e_varB rfl rfl rfl) (e_varB rfl rfl rfl)) (t_and1 (t_truth (e_B rfl (e_all c.blk rfl rfl (e_B rfl (e_comp [("other", 8)] c.blk (by kernel_rfl) rfl (fun _ => rfl) (i_plain (s_mB (e_B rfl (e_ix c.blk (fun _ _ => rfl) (e_varB rfl rfl rfl) (e_varB rfl rfl rfl))))) (fun _ _ _ _ _ => (j_name c.blk.blk rfl rfl rfl)) (fun _ _ _ _ _ => c_nil) (fun _ _ _ _ _ => (e_cmp (ok_in c.blk.blk.room) rfl (e_varB rfl rfl rfl) (e_varB rfl rfl rfl))))))) (fun _ => rfl))))))) (fun _ _ _ _ _ => (e_var rfl rfl rfl)))
  (x_cons (x_if (t_not (t_truth (e_varB rfl rfl rfl) (fun _ => rfl))) (x_cons (x_ret (s_con rfl))
  x_nil) x_nil)
  (x_cons (y_store c rfl rfl rfl (fun _ => rfl) rfl rfl rfl (e_ix c (fun _ _ => rfl) (e_varB rfl rfl rfl) (e_B rfl (s_con rfl))) (s_con rfl))
  (x_cons (y_append rfl rfl rfl rfl rfl rfl (e_ix c (fun _ _ => rfl) (e_varB rfl rfl rfl) (e_B rfl (s_con rfl))))
  x_nil)))))
  (x_cons (x_ret (e_var rfl rfl rfl))
  x_nil)))
/-! is_reachable -/
theorem w_is_reachable {k : Nat} (hB : Blt mg) (hX : XC K mg exL) (F : FunD K "is_reachable" "is_reachable" (defArgs (top 27)) (defBody (top 27)) (defScope (top 27)) [] [] f fd) (gm : mg "is_reachable" = some (.ref f)) (G0 : FnGood P w K mg base k "require_goal" f_require_goal) (G1 : FnGood P w K mg base k "find_way" f_find_way) : FnGood P w K mg base (k + 1) "is_reachable" f_is_reachable :=
  good_defX (fn := b_is_reachable) ["plant", "state", "goal"] ["plant", "state", "goal"] hB hX F gm (by kernel_rfl) (fun _ _ _ _ _ _ us hl => match us, hl with | [_, _, _], _ => rfl) rfl rfl fun cdv A outer s H E c o =>
  (x_cons (x_exp (e_call c G0 rfl rfl rfl rfl (e_cons rfl (e_var rfl rfl rfl) (e_cons rfl (e_var rfl rfl rfl) (e_cons rfl (e_var rfl rfl rfl) s_nil)))) rfl)
  (x_cons (x_ret (s_isNN (e_B rfl (e_call c G1 rfl rfl rfl rfl (e_cons rfl (e_var rfl rfl rfl) (e_cons rfl (e_var rfl rfl rfl) (e_cons rfl (e_var rfl rfl rfl) s_nil)))))))
  x_nil))
/-! find_ring -/
theorem w_find_ring {k : Nat} (hB : Blt mg) (hX : XC K mg exL) (F : FunD K "find_ring" "find_ring" (defArgs (top 28)) (defBody (top 28)) (defScope (top 28)) [] [] f fd) (gm : mg "find_ring" = some (.ref f))  : FnGood P w K mg base (k + 1) "find_ring" f_find_ring :=
  good_defX (fn := b_find_ring) ["needs", "rows", "closed", "longer", "row", "spot", "other"] ["needs"] hB hX F gm (by kernel_rfl) (fun _ _ _ _ _ _ us hl => match us, hl with | [_], _ => rfl) rfl rfl fun cdv A outer s H E c o =>
  (x_cons (y_asgLc false [("spot", 5)] c rfl rfl rfl (by kernel_rfl) rfl (fun _ => rfl) (i_keys (e_var rfl rfl rfl)) (fun _ _ _ _ _ => (j_name c.blk rfl rfl rfl)) (fun _ _ _ _ _ => c_nil) (fun _ _ _ _ _ => (s_lst (e_cons rfl (e_var rfl rfl rfl) s_nil))))
  (x_cons (x_while o.own (t_truth (e_varB rfl rfl rfl) (fun _ => rfl)) (x_cons (y_asgLc false [("row", 4)] c rfl rfl rfl (by kernel_rfl) rfl (fun _ => rfl) (i_plain (s_mB (e_varB rfl rfl rfl))) (fun _ _ _ _ _ => (j_name c.blk rfl rfl rfl)) (fun _ _ _ _ _ => (c_one (p_cmp (ok_in c.blk.room) rfl rfl (e_B rfl (e_ix c.blk (fun _ _ => rfl) (e_varB rfl rfl rfl) (e_B rfl (s_con rfl)))) (e_B rfl (e_ix c.blk (fun _ _ => rfl) (e_varB rfl rfl rfl) (e_B rfl (e_ix c.blk (fun _ _ => rfl) (e_varB rfl rfl rfl) (e_B rfl (s_neg (e_B rfl (s_con rfl))))))))))) (fun _ _ _ _ _ => (e_var rfl rfl rfl)))
  (x_cons (x_if (t_truth (e_varB rfl rfl rfl) (fun _ => rfl)) (x_cons (x_ret (e_min c rfl rfl (e_varB rfl rfl rfl)))
  x_nil) x_nil)
  (x_cons (y_asg true c rfl rfl rfl rfl (f_lst s_nil))
  (x_cons (y_for c o.own (fun _ => rfl) (i_plain (s_mV (e_var rfl rfl rfl))) (j_name c rfl rfl rfl) (x_cons (y_extend rfl rfl rfl rfl rfl rfl (e_comp [("other", 6)] c (by kernel_rfl) rfl (fun _ => rfl) (i_plain (s_mB (e_B rfl (e_ix c (fun _ _ => rfl) (e_varB rfl rfl rfl) (e_B rfl (e_ix c (fun _ _ => rfl) (e_varB rfl rfl rfl) (e_B rfl (s_neg (e_B rfl (s_con rfl)))))))))) (fun _ _ _ _ _ => (j_name c.blk rfl rfl rfl)) (fun _ _ _ _ _ => (c_one (PW.pt (t_and (p_cmp (ok_notin c.blk.room) rfl rfl (e_varB rfl rfl rfl) (e_varB rfl rfl rfl)) (t_and1 (p_cmp ok_gt rfl rfl (e_varB rfl rfl rfl) (e_B rfl (e_ix c.blk (fun _ _ => rfl) (e_varB rfl rfl rfl) (e_B rfl (s_con rfl)))))))))) (fun _ _ _ _ _ => (s_bin ok_add (e_varB rfl rfl rfl) (e_B rfl (s_lst (e_cons rfl (e_var rfl rfl rfl) s_nil)))))))
  x_nil))
  (x_cons (y_asg false c rfl rfl rfl rfl (e_var rfl rfl rfl))
  x_nil))))))
  (x_cons (x_ret (s_con rfl))
  x_nil)))
/-! ring -/
theorem w_ring {k : Nat} (hB : Blt mg) (hX : XC K mg exL) (F : FunD K "ring" "ring" (defArgs (top 29)) (defBody (top 29)) (defScope (top 29)) [] [] f fd) (gm : mg "ring" = some (.ref f)) (G0 : FnGood P w K mg base k "require_goal" f_require_goal) (G1 : FnGood P w K mg base k "find_ring" f_find_ring) (G2 : FnGood P w K mg base k "waits_of" f_waits_of) : FnGood P w K mg base (k + 1) "ring" f_ring :=
  good_defX (fn := b_ring) ["plant", "state", "goal", "found", "spot"] ["plant", "state", "goal"] hB hX F gm (by kernel_rfl) (fun _ _ _ _ _ _ us hl => match us, hl with | [_, _, _], _ => rfl) rfl rfl fun cdv A outer s H E c o =>
  (x_cons (x_exp (e_call c G0 rfl rfl rfl rfl (e_cons rfl (e_var rfl rfl rfl) (e_cons rfl (e_var rfl rfl rfl) (e_cons rfl (e_var rfl rfl rfl) s_nil)))) rfl)
  (x_cons (y_asg false c rfl rfl rfl rfl (e_call c G1 rfl rfl rfl rfl (e_cons rfl (e_call c G2 rfl rfl rfl rfl (e_cons rfl (e_var rfl rfl rfl) (e_cons rfl (e_var rfl rfl rfl) (e_cons rfl (e_var rfl rfl rfl) s_nil)))) s_nil)))
  (x_cons (x_ret (s_ite (t_isN (e_varB rfl rfl rfl)) (s_con rfl) (e_comp [("spot", 4)] c (by kernel_rfl) rfl (fun _ => rfl) (i_plain (s_mB (e_varB rfl rfl rfl))) (fun _ _ _ _ _ => (j_name c.blk rfl rfl rfl)) (fun _ _ _ _ _ => c_nil) (fun _ _ _ _ _ => (e_ix c.blk (fun _ _ => rfl) (e_B rfl (e_ix c.blk (fun _ _ => rfl) (e_varB rfl rfl rfl) (e_varB rfl rfl rfl))) (e_B rfl (s_con rfl)))))))
  x_nil)))
/-! find_reachable -/
theorem w_find_reachable {k : Nat} (hB : Blt mg) (hX : XC K mg exL) (F : FunD K "find_reachable" "find_reachable" (defArgs (top 31)) (defBody (top 31)) (defScope (top 31)) [] [] f fd) (gm : mg "find_reachable" = some (.ref f)) (G0 : FnGood P w K mg base k "find_states" f_find_states) (G1 : FnGood P w K mg base k "find_way" f_find_way) : FnGood P w K mg base (k + 1) "find_reachable" f_find_reachable :=
  good_defX (fn := b_find_reachable) ["plant", "state", "goal"] ["plant", "state"] hB hX F gm (by kernel_rfl) (fun _ _ _ _ _ _ us hl => match us, hl with | [_, _], _ => rfl) rfl rfl fun cdv A outer s H E c o =>
  (x_cons (x_ret (e_comp [("goal", 2)] c (by kernel_rfl) rfl (fun _ => rfl) (i_plain (s_mB (e_B rfl (e_call c G0 rfl rfl rfl rfl (e_cons rfl (e_var rfl rfl rfl) s_nil))))) (fun _ _ _ _ _ => (j_name c.blk rfl rfl rfl)) (fun _ _ _ _ _ => (c_one (t_isNN (e_B rfl (e_call c.blk G1 rfl rfl rfl rfl (e_cons rfl (e_var rfl rfl rfl) (e_cons rfl (e_var rfl rfl rfl) (e_cons rfl (e_var rfl rfl rfl) s_nil)))))))) (fun _ _ _ _ _ => (e_var rfl rfl rfl))))
  x_nil)
/-! reachable -/
theorem w_reachable {k : Nat} (hB : Blt mg) (hX : XC K mg exL) (F : FunD K "reachable" "reachable" (defArgs (top 32)) (defBody (top 32)) (defScope (top 32)) [] [] f fd) (gm : mg "reachable" = some (.ref f)) (G0 : FnGood P w K mg base k "require_state" f_require_state) (G1 : FnGood P w K mg base k "find_reachable" f_find_reachable) : FnGood P w K mg base (k + 1) "reachable" f_reachable :=
  good_defX (fn := b_reachable) ["plant", "state"] ["plant", "state"] hB hX F gm (by kernel_rfl) (fun _ _ _ _ _ _ us hl => match us, hl with | [_, _], _ => rfl) rfl rfl fun cdv A outer s H E c o =>
  (x_cons (x_exp (e_call c G0 rfl rfl rfl rfl (e_cons rfl (e_var rfl rfl rfl) (e_cons rfl (e_var rfl rfl rfl) s_nil))) rfl)
  (x_cons (x_ret (e_call c G1 rfl rfl rfl rfl (e_cons rfl (e_var rfl rfl rfl) (e_cons rfl (e_var rfl rfl rfl) s_nil))))
  x_nil))
/-! frozen -/
theorem w_frozen {k : Nat} (hB : Blt mg) (hX : XC K mg exL) (F : FunD K "frozen" "frozen" (defArgs (top 33)) (defBody (top 33)) (defScope (top 33)) [] [] f fd) (gm : mg "frozen" = some (.ref f)) (G0 : FnGood P w K mg base k "require_state" f_require_state) (G1 : FnGood P w K mg base k "find_reachable" f_find_reachable) : FnGood P w K mg base (k + 1) "frozen" f_frozen :=
  good_defX (fn := b_frozen) ["plant", "state", "rows", "spot", "lock", "row"] ["plant", "state"] hB hX F gm (by kernel_rfl) (fun _ _ _ _ _ _ us hl => match us, hl with | [_, _], _ => rfl) rfl rfl fun cdv A outer s H E c o =>
  (x_cons (x_exp (e_call c G0 rfl rfl rfl rfl (e_cons rfl (e_var rfl rfl rfl) (e_cons rfl (e_var rfl rfl rfl) s_nil))) rfl)
  (x_cons (y_asg false c rfl rfl rfl rfl (e_call c G1 rfl rfl rfl rfl (e_cons rfl (e_var rfl rfl rfl) (e_cons rfl (e_var rfl rfl rfl) s_nil))))
  (x_cons (x_ret (e_comp [("spot", 3), ("lock", 4)] c (by kernel_rfl) rfl (fun _ => rfl) (j_enum c rfl rfl (s_mB (e_varB rfl rfl rfl))) (fun _ _ _ _ _ => (j_tup c.blk rfl rfl (j_cons rfl (j_name c.blk rfl rfl rfl) (j_cons rfl (j_name c.blk rfl rfl rfl) g_nil)))) (fun _ _ _ _ _ => (c_one (t_truth (e_B rfl (e_all c.blk rfl rfl (e_B rfl (e_comp [("row", 5)] c.blk (by kernel_rfl) rfl (fun _ => rfl) (i_plain (s_mB (e_varB rfl rfl rfl))) (fun _ _ _ _ _ => (j_name c.blk.blk rfl rfl rfl)) (fun _ _ _ _ _ => c_nil) (fun _ _ _ _ _ => (e_cmp (ok_eq c.blk.blk.room) rfl (e_B rfl (e_ix c.blk.blk (fun _ _ => rfl) (e_varB rfl rfl rfl) (e_varB rfl rfl rfl))) (e_B rfl (e_ix c.blk.blk (fun _ _ => rfl) (e_varB rfl rfl rfl) (e_varB rfl rfl rfl))))))))) (fun _ => rfl)))) (fun _ _ _ _ _ => (e_ix c.blk (fun _ _ => rfl) (e_varB rfl rfl rfl) (e_B rfl (s_con rfl))))))
  x_nil)))
/-! classes -/
theorem w_classes {k : Nat} (hB : Blt mg) (hX : XC K mg exL) (F : FunD K "classes" "classes" (defArgs (top 34)) (defBody (top 34)) (defScope (top 34)) [] [] f fd) (gm : mg "classes" = some (.ref f)) (G0 : FnGood P w K mg base k "require_plant" f_require_plant) (G1 : FnGood P w K mg base k "find_states" f_find_states) (G2 : FnGood P w K mg base k "find_reachable" f_find_reachable) : FnGood P w K mg base (k + 1) "classes" f_classes :=
  good_defX (fn := b_classes) ["plant", "found", "state", "row"] ["plant"] hB hX F gm (by kernel_rfl) (fun _ _ _ _ _ _ us hl => match us, hl with | [_], _ => rfl) rfl rfl fun cdv A outer s H E c o =>
  (x_cons (x_exp (e_call c G0 rfl rfl rfl rfl (e_cons rfl (e_var rfl rfl rfl) s_nil)) rfl)
  (x_cons (y_asg true c rfl rfl rfl rfl (f_lst s_nil))
  (x_cons (y_for c o.own (fun _ => rfl) (i_plain (s_mV (e_call c G1 rfl rfl rfl rfl (e_cons rfl (e_var rfl rfl rfl) s_nil)))) (j_name c rfl rfl rfl) (x_cons (x_if (t_not (t_truth (e_B rfl (e_any c rfl rfl (e_B rfl (e_comp [("row", 3)] c (by kernel_rfl) rfl (fun _ => rfl) (i_plain (s_mB (e_varB rfl rfl rfl))) (fun _ _ _ _ _ => (j_name c.blk rfl rfl rfl)) (fun _ _ _ _ _ => c_nil) (fun _ _ _ _ _ => (e_cmp (ok_in c.blk.room) rfl (e_varB rfl rfl rfl) (e_varB rfl rfl rfl))))))) (fun _ => rfl))) (x_cons (y_append rfl rfl rfl rfl rfl rfl (e_call c G2 rfl rfl rfl rfl (e_cons rfl (e_var rfl rfl rfl) (e_cons rfl (e_var rfl rfl rfl) s_nil))))
  x_nil) x_nil)
  x_nil))
  (x_cons (x_ret (e_var rfl rfl rfl))
  x_nil))))
/-! _law_draw -/
theorem w__law_draw {k : Nat} (hB : Blt mg) (hX : XC K mg exL) (F : FunD K "_law_draw" "_law_draw" (defArgs (top 36)) (defBody (top 36)) (defScope (top 36)) [] [] f fd) (gm : mg "_law_draw" = some (.ref f))  : FnGood P w K mg base (k + 1) "_law_draw" f__law_draw :=
  good_defX (fn := b__law_draw) ["script", "state", "many", "k", "cell", "digits", "number", "more"] ["script", "state", "many"] hB hX F gm (by kernel_rfl) (fun _ _ _ _ _ _ us hl => match us, hl with | [_, _, _], _ => rfl) rfl rfl fun cdv A outer s H E c o =>
  (x_cons (x_if (t_not (p_tok rfl rfl rfl (fun _ => rfl))) (x_cons (x_tokApp rfl rfl rfl rfl rfl rfl (e_max c rfl rfl (e_B rfl (s_bin ok_add (e_B rfl (e_comp [("cell", 4)] c (by kernel_rfl) rfl (fun _ => rfl) (i_plain (s_mB (e_varB rfl rfl rfl))) (fun _ _ _ _ _ => (j_name c.blk rfl rfl rfl)) (fun _ _ _ _ _ => c_nil) (fun _ _ _ _ _ => (e_abs c.blk rfl rfl (e_varB rfl rfl rfl))))) (e_B rfl (s_lst (e_cons rfl (s_con rfl) s_nil)))))))
  x_nil) x_nil)
  (x_cons (x_tokApp rfl rfl rfl rfl rfl rfl (s_con rfl))
  (x_cons (y_asg false c rfl rfl rfl rfl (e_tLen c rfl rfl rfl rfl))
  (x_cons (y_asg false c rfl rfl rfl rfl (s_ite (p_scr rfl rfl rfl (fun _ => rfl)) (e_cIx (fun _ _ => rfl) rfl rfl rfl (e_B rfl (s_bin ok_mod (e_varB rfl rfl rfl) (e_B rfl (e_cLen c rfl rfl rfl rfl))))) (s_con rfl)))
  (x_cons (y_asg false c rfl rfl rfl rfl (s_bin ok_mod (e_B rfl (e_tIx0 rfl rfl rfl)) (e_B rfl (s_con rfl))))
  (x_cons (x_tokSet rfl rfl rfl rfl rfl (s_bin ok_fdiv (e_B rfl (e_tIx0 rfl rfl rfl)) (e_B rfl (s_con rfl))))
  (x_cons (y_asg false c rfl rfl rfl rfl (s_bin ok_mod (e_B rfl (s_bin ok_add (e_B rfl (s_bin ok_add (e_varB rfl rfl rfl) (e_B rfl (s_bin ok_mul (e_B rfl (s_con rfl)) (e_varB rfl rfl rfl))))) (e_B rfl (s_bin ok_mul (e_B rfl (s_con rfl)) (e_varB rfl rfl rfl))))) (e_B rfl (s_con rfl))))
  (x_cons (y_asg false c rfl rfl rfl rfl (s_bin ok_mod (e_B rfl (s_bin ok_mul (e_B rfl (s_bin ok_mod (e_B rfl (s_bin ok_mul (e_varB rfl rfl rfl) (e_varB rfl rfl rfl))) (e_B rfl (s_con rfl)))) (e_B rfl (s_con rfl)))) (e_B rfl (s_con rfl))))
  (x_cons (y_asg false c rfl rfl rfl rfl (s_bin ok_mod (e_B rfl (s_bin ok_mul (e_B rfl (s_bin ok_mod (e_B rfl (s_bin ok_mul (e_varB rfl rfl rfl) (e_varB rfl rfl rfl))) (e_B rfl (s_con rfl)))) (e_B rfl (s_con rfl)))) (e_B rfl (s_con rfl))))
  (x_cons (x_ret (s_bin ok_mod (e_B rfl (s_bin ok_add (e_B rfl (s_bin ok_mul (e_B rfl (s_bin ok_fdiv (e_varB rfl rfl rfl) (e_B rfl (s_con rfl)))) (e_B rfl (s_con rfl)))) (e_B rfl (s_bin ok_fdiv (e_varB rfl rfl rfl) (e_B rfl (s_con rfl)))))) (e_varB rfl rfl rfl)))
  x_nil))))))))))
/-! _law_pick -/
theorem w__law_pick {k : Nat} (hB : Blt mg) (hX : XC K mg exL) (F : FunD K "_law_pick" "_law_pick" (defArgs (top 37)) (defBody (top 37)) (defScope (top 37)) [] [] f fd) (gm : mg "_law_pick" = some (.ref f)) (G0 : FnGood P w K mg base k "_law_draw" f__law_draw) : FnGood P w K mg base (k + 1) "_law_pick" f__law_pick :=
  good_defX (fn := b__law_pick) ["script", "state", "some"] ["script", "state", "some"] hB hX F gm (by kernel_rfl) (fun _ _ _ _ _ _ us hl => match us, hl with | [_, _, _], _ => rfl) rfl rfl fun cdv A outer s H E c o =>
  (x_cons (x_ret (e_ix c (fun _ _ => rfl) (e_varB rfl rfl rfl) (e_B rfl (e_call c G0 rfl rfl rfl rfl (e_cons rfl (e_var rfl rfl rfl) (e_cons rfl (e_var rfl rfl rfl) (e_cons rfl (e_len c rfl rfl (e_varB rfl rfl rfl)) s_nil)))))))
  x_nil)
/-! _law_shuffled -/
theorem w__law_shuffled {k : Nat} (hB : Blt mg) (hX : XC K mg exL) (F : FunD K "_law_shuffled" "_law_shuffled" (defArgs (top 38)) (defBody (top 38)) (defScope (top 38)) [] [] f fd) (gm : mg "_law_shuffled" = some (.ref f)) (G0 : FnGood P w K mg base k "_law_draw" f__law_draw) : FnGood P w K mg base (k + 1) "_law_shuffled" f__law_shuffled :=
  good_defX (fn := b__law_shuffled) ["script", "state", "things", "rest", "found"] ["script", "state", "things"] hB hX F gm (by kernel_rfl) (fun _ _ _ _ _ _ us hl => match us, hl with | [_, _, _], _ => rfl) rfl rfl fun cdv A outer s H E c o =>
  (x_cons (y_par2 c rfl rfl rfl rfl rfl rfl (y_p true rfl (f_list c rfl rfl (e_varB rfl rfl rfl)) (y_p true rfl (f_lst s_nil) p_nil)))
  (x_cons (x_while o.own (t_truth (e_varB rfl rfl rfl) (fun _ => rfl)) (x_cons (y_appPop rfl rfl rfl rfl rfl rfl rfl rfl rfl (e_call c G0 rfl rfl rfl rfl (e_cons rfl (e_var rfl rfl rfl) (e_cons rfl (e_var rfl rfl rfl) (e_cons rfl (e_len c rfl rfl (e_varB rfl rfl rfl)) s_nil)))))
  x_nil))
  (x_cons (x_ret (e_var rfl rfl rfl))
  x_nil)))
/-! _law_plant -/
theorem w__law_plant {k : Nat} (hB : Blt mg) (hX : XC K mg exL) (F : FunD K "_law_plant" "_law_plant" (defArgs (top 39)) (defBody (top 39)) (defScope (top 39)) [] [] f fd) (gm : mg "_law_plant" = some (.ref f)) (G0 : FnGood P w K mg base k "_law_shuffled" f__law_shuffled) (G1 : FnGood P w K mg base k "_law_draw" f__law_draw) (G2 : FnGood P w K mg base k "_law_pick" f__law_pick) : FnGood P w K mg base (k + 1) "_law_plant" f__law_plant :=
  good_defX (fn := b__law_plant) ["script", "state", "most", "names", "pool", "name", "few", "found", "first", "second"] ["script", "state", "most"] hB hX F gm (by kernel_rfl) (fun _ _ _ _ _ _ us hl => match us, hl with | [_, _, _], _ => rfl) rfl rfl fun cdv A outer s H E c o =>
  (x_cons (y_asg false c rfl rfl rfl rfl (e_call c G0 rfl rfl rfl rfl (e_cons rfl (e_var rfl rfl rfl) (e_cons rfl (e_var rfl rfl rfl) (e_cons rfl (s_lst (e_cons rfl (s_con (by kernel_rfl)) (e_cons rfl (s_con (by kernel_rfl)) (e_cons rfl (s_con (by kernel_rfl)) (e_cons rfl (s_con (by kernel_rfl)) (e_cons rfl (s_con (by kernel_rfl)) (e_cons rfl (s_con (by kernel_rfl)) (e_cons rfl (s_con (by kernel_rfl)) (e_cons rfl (s_con (by kernel_rfl)) s_nil))))))))) s_nil)))))
  (x_cons (y_asg false c rfl rfl rfl rfl (s_slc (e_B rfl (s_lst (e_cons rfl (s_con (by kernel_rfl)) (e_cons rfl (s_con (by kernel_rfl)) (e_cons rfl (s_con (by kernel_rfl)) (e_cons rfl (s_con (by kernel_rfl)) (e_cons rfl (s_con (by kernel_rfl)) (e_cons rfl (s_con (by kernel_rfl)) s_nil)))))))) o_none (o_some (s_bin ok_add (e_B rfl (s_con rfl)) (e_B rfl (e_call c G1 rfl rfl rfl rfl (e_cons rfl (e_var rfl rfl rfl) (e_cons rfl (e_var rfl rfl rfl) (e_cons rfl (s_con rfl) s_nil)))))))))
  (x_cons (y_par2 c rfl rfl rfl rfl rfl rfl (y_p false rfl (e_call c G2 rfl rfl rfl rfl (e_cons rfl (e_var rfl rfl rfl) (e_cons rfl (e_var rfl rfl rfl) (e_cons rfl (s_lst (e_cons rfl (s_lst (e_cons rfl (s_con rfl) (e_cons rfl (s_con rfl) s_nil))) (e_cons rfl (s_lst (e_cons rfl (s_con rfl) (e_cons rfl (s_con rfl) (e_cons rfl (s_con rfl) (e_cons rfl (s_con rfl) s_nil))))) (e_cons rfl (s_lst (e_cons rfl (s_con rfl) (e_cons rfl (s_con rfl) s_nil))) s_nil)))) s_nil)))) (y_p true rfl (f_lst s_nil) p_nil)))
  (x_cons (y_for c o.own (fun _ => rfl) (i_plain (s_mV (e_sorted c rfl rfl (e_B rfl (s_slc (e_varB rfl rfl rfl) o_none (o_some (s_bin ok_add (e_B rfl (s_con rfl)) (e_B rfl (e_call c G1 rfl rfl rfl rfl (e_cons rfl (e_var rfl rfl rfl) (e_cons rfl (e_var rfl rfl rfl) (e_cons rfl (e_var rfl rfl rfl) s_nil)))))))))))) (j_name c rfl rfl rfl) (x_cons (y_asg false c rfl rfl rfl rfl (s_slc (e_B rfl (e_call c G0 rfl rfl rfl rfl (e_cons rfl (e_var rfl rfl rfl) (e_cons rfl (e_var rfl rfl rfl) (e_cons rfl (e_var rfl rfl rfl) s_nil))))) o_none (o_some (e_call c G2 rfl rfl rfl rfl (e_cons rfl (e_var rfl rfl rfl) (e_cons rfl (e_var rfl rfl rfl) (e_cons rfl (e_var rfl rfl rfl) s_nil)))))))
  (x_cons (y_asg false c rfl rfl rfl rfl (s_slc (e_B rfl (e_call c G0 rfl rfl rfl rfl (e_cons rfl (e_var rfl rfl rfl) (e_cons rfl (e_var rfl rfl rfl) (e_cons rfl (e_var rfl rfl rfl) s_nil))))) o_none (o_some (e_call c G2 rfl rfl rfl rfl (e_cons rfl (e_var rfl rfl rfl) (e_cons rfl (e_var rfl rfl rfl) (e_cons rfl (e_var rfl rfl rfl) s_nil)))))))
  (x_cons (y_append rfl rfl rfl rfl rfl rfl (s_tup (e_cons rfl (e_var rfl rfl rfl) (e_cons rfl (e_tuple c rfl rfl (e_B rfl (e_sorted c rfl rfl (e_varB rfl rfl rfl)))) (e_cons rfl (e_tuple c rfl rfl (e_B rfl (e_sorted c rfl rfl (e_varB rfl rfl rfl)))) s_nil)))))
  x_nil))))
  (x_cons (x_ret (e_tuple c rfl rfl (e_varB rfl rfl rfl)))
  x_nil)))))
/-! _law_fits -/
theorem w__law_fits {k : Nat} (hB : Blt mg) (hX : XC K mg exL) (F : FunD K "_law_fits" "_law_fits" (defArgs (top 40)) (defBody (top 40)) (defScope (top 40)) [] [] f fd) (gm : mg "_law_fits" = some (.ref f))  : FnGood P w K mg base (k + 1) "_law_fits" f__law_fits :=
  good_defX (fn := b__law_fits) ["plant", "places", "held", "lock", "place"] ["plant", "places"] hB hX F gm (by kernel_rfl) (fun _ _ _ _ _ _ us hl => match us, hl with | [_, _], _ => rfl) rfl rfl fun cdv A outer s H E c o =>
  (x_cons (y_asg false c rfl rfl rfl rfl (s_lst s_nil))
  (x_cons (y_for c o.own (fun _ => rfl) (j_zip c rfl rfl rfl (s_mV (e_var rfl rfl rfl)) (s_mV (e_var rfl rfl rfl))) (j_tup c rfl rfl (j_cons rfl (j_name c rfl rfl rfl) (j_cons rfl (j_name c rfl rfl rfl) g_nil))) (x_cons (y_asg false c rfl rfl rfl rfl (s_bin ok_add (e_varB rfl rfl rfl) (e_B rfl (e_list c rfl rfl (e_B rfl (e_ix c (fun _ _ => rfl) (e_varB rfl rfl rfl) (e_B rfl (s_bin ok_add (e_B rfl (s_con rfl)) (e_varB rfl rfl rfl)))))))))
  x_nil))
  (x_cons (x_ret (e_cmp (ok_eq c.room) rfl (e_B rfl (e_setLen c rfl rfl rfl (e_varB rfl rfl rfl))) (e_B rfl (e_len c rfl rfl (e_varB rfl rfl rfl)))))
  x_nil)))
/-! _law_vectors -/
theorem w__law_vectors {k : Nat} (hB : Blt mg) (hX : XC K mg exL) (F : FunD K "_law_vectors" "_law_vectors" (defArgs (top 41)) (defBody (top 41)) (defScope (top 41)) [] [] f fd) (gm : mg "_law_vectors" = some (.ref f))  : FnGood P w K mg base (k + 1) "_law_vectors" f__law_vectors :=
  good_defX (fn := b__law_vectors) ["many", "rows", "step", "longer", "row"] ["many"] hB hX F gm (by kernel_rfl) (fun _ _ _ _ _ _ us hl => match us, hl with | [_], _ => rfl) rfl rfl fun cdv A outer s H E c o =>
  (x_cons (y_asg false c rfl rfl rfl rfl (s_lst (e_cons rfl (s_tup s_nil) s_nil)))
  (x_cons (y_for c o.own (fun _ => rfl) (j_range1 c rfl rfl (s_mV (e_var rfl rfl rfl))) (j_name c rfl rfl rfl) (x_cons (y_asg false c rfl rfl rfl rfl (s_lst s_nil))
  (x_cons (y_for c o.own (fun _ => rfl) (i_plain (s_mV (e_var rfl rfl rfl))) (j_name c rfl rfl rfl) (x_cons (y_asg false c rfl rfl rfl rfl (s_bin ok_add (e_varB rfl rfl rfl) (e_B rfl (s_lst (e_cons rfl (s_bin ok_add (e_varB rfl rfl rfl) (e_B rfl (s_tup (e_cons rfl (s_con rfl) s_nil)))) (e_cons rfl (s_bin ok_add (e_varB rfl rfl rfl) (e_B rfl (s_tup (e_cons rfl (s_con rfl) s_nil)))) s_nil))))))
  x_nil))
  (x_cons (y_asg false c rfl rfl rfl rfl (e_var rfl rfl rfl))
  x_nil))))
  (x_cons (x_ret (e_var rfl rfl rfl))
  x_nil)))
/-! _law_states -/
theorem w__law_states {k : Nat} (hB : Blt mg) (hX : XC K mg exL) (F : FunD K "_law_states" "_law_states" (defArgs (top 42)) (defBody (top 42)) (defScope (top 42)) [] [] f fd) (gm : mg "_law_states" = some (.ref f)) (G0 : FnGood P w K mg base k "_law_vectors" f__law_vectors) (G1 : FnGood P w K mg base k "_law_fits" f__law_fits) : FnGood P w K mg base (k + 1) "_law_states" f__law_states :=
  good_defX (fn := b__law_states) ["plant", "row"] ["plant"] hB hX F gm (by kernel_rfl) (fun _ _ _ _ _ _ us hl => match us, hl with | [_], _ => rfl) rfl rfl fun cdv A outer s H E c o =>
  (x_cons (x_ret (e_comp [("row", 1)] c (by kernel_rfl) rfl (fun _ => rfl) (i_plain (s_mB (e_B rfl (e_call c G0 rfl rfl rfl rfl (e_cons rfl (e_len c rfl rfl (e_varB rfl rfl rfl)) s_nil))))) (fun _ _ _ _ _ => (j_name c.blk rfl rfl rfl)) (fun _ _ _ _ _ => (c_one (t_truth (e_B rfl (e_call c.blk G1 rfl rfl rfl rfl (e_cons rfl (e_var rfl rfl rfl) (e_cons rfl (e_var rfl rfl rfl) s_nil)))) (fun _ => rfl)))) (fun _ _ _ _ _ => (e_var rfl rfl rfl))))
  x_nil)
/-! _law_some -/
theorem w__law_some {k : Nat} (hB : Blt mg) (hX : XC K mg exL) (F : FunD K "_law_some" "_law_some" (defArgs (top 43)) (defBody (top 43)) (defScope (top 43)) [] [] f fd) (gm : mg "_law_some" = some (.ref f)) (G0 : FnGood P w K mg base k "_law_plant" f__law_plant) (G1 : FnGood P w K mg base k "_law_states" f__law_states) (G2 : FnGood P w K mg base k "_law_pick" f__law_pick) : FnGood P w K mg base (k + 1) "_law_some" f__law_some :=
  good_defX (fn := b__law_some) ["script", "state", "most", "step", "plant", "rows"] ["script", "state", "most"] hB hX F gm (by kernel_rfl) (fun _ _ _ _ _ _ us hl => match us, hl with | [_, _, _], _ => rfl) rfl rfl fun cdv A outer s H E c o =>
  (x_cons (y_for c o.own (fun _ => rfl) (j_range1 c rfl rfl (s_mV (s_con rfl))) (j_name c rfl rfl rfl) (x_cons (y_asg false c rfl rfl rfl rfl (e_call c G0 rfl rfl rfl rfl (e_cons rfl (e_var rfl rfl rfl) (e_cons rfl (e_var rfl rfl rfl) (e_cons rfl (e_var rfl rfl rfl) s_nil)))))
  (x_cons (y_asg false c rfl rfl rfl rfl (e_call c G1 rfl rfl rfl rfl (e_cons rfl (e_var rfl rfl rfl) s_nil)))
  (x_cons (x_if (t_truth (e_varB rfl rfl rfl) (fun _ => rfl)) (x_cons (x_ret (s_tup (e_cons rfl (e_var rfl rfl rfl) (e_cons rfl (e_var rfl rfl rfl) (e_cons rfl (e_call c G2 rfl rfl rfl rfl (e_cons rfl (e_var rfl rfl rfl) (e_cons rfl (e_var rfl rfl rfl) (e_cons rfl (e_var rfl rfl rfl) s_nil)))) s_nil)))))
  x_nil) x_nil)
  x_nil))))
  (x_cons (x_ret (s_tup (e_cons rfl (s_tup (e_cons rfl (s_tup (e_cons rfl (s_con (by kernel_rfl)) (e_cons rfl (s_tup s_nil) (e_cons rfl (s_tup s_nil) s_nil)))) s_nil)) (e_cons rfl (s_lst (e_cons rfl (s_tup (e_cons rfl (s_con rfl) s_nil)) (e_cons rfl (s_tup (e_cons rfl (s_con rfl) s_nil)) s_nil))) (e_cons rfl (s_tup (e_cons rfl (s_con rfl) s_nil)) s_nil)))))
  x_nil))
/-! _law_tight -/
theorem w__law_tight {k : Nat} (hB : Blt mg) (hX : XC K mg exL) (F : FunD K "_law_tight" "_law_tight" (defArgs (top 44)) (defBody (top 44)) (defScope (top 44)) [] [] f fd) (gm : mg "_law_tight" = some (.ref f)) (G0 : FnGood P w K mg base k "_law_plant" f__law_plant) (G1 : FnGood P w K mg base k "_law_draw" f__law_draw) : FnGood P w K mg base (k + 1) "_law_tight" f__law_tight :=
  good_defX (fn := b__law_tight) ["script", "state", "most", "plant", "spot", "found", "keys", "far"] ["script", "state", "most"] hB hX F gm (by kernel_rfl) (fun _ _ _ _ _ _ us hl => match us, hl with | [_, _, _], _ => rfl) rfl rfl fun cdv A outer s H E c o =>
  (x_cons (y_asg false c rfl rfl rfl rfl (e_call c G0 rfl rfl rfl rfl (e_cons rfl (e_var rfl rfl rfl) (e_cons rfl (e_var rfl rfl rfl) (e_cons rfl (e_var rfl rfl rfl) s_nil)))))
  (x_cons (y_par3 c rfl rfl rfl rfl rfl rfl rfl rfl (y_p true rfl (f_lst s_nil) (y_p false rfl (s_lst (e_cons rfl (s_con (by kernel_rfl)) (e_cons rfl (s_con (by kernel_rfl)) (e_cons rfl (s_con (by kernel_rfl)) (e_cons rfl (s_con (by kernel_rfl)) (e_cons rfl (s_con (by kernel_rfl)) s_nil)))))) (y_p false rfl (s_bin ok_add (e_B rfl (s_con rfl)) (e_B rfl (e_call c G1 rfl rfl rfl rfl (e_cons rfl (e_var rfl rfl rfl) (e_cons rfl (e_var rfl rfl rfl) (e_cons rfl (s_con rfl) s_nil)))))) p_nil))))
  (x_cons (y_for c o.own (fun _ => rfl) (j_range1 c rfl rfl (s_mV (e_len c rfl rfl (e_varB rfl rfl rfl)))) (j_name c rfl rfl rfl) (x_cons (y_append rfl rfl rfl rfl rfl rfl (s_tup (e_cons rfl (e_ix c (fun _ _ => rfl) (e_B rfl (e_ix c (fun _ _ => rfl) (e_varB rfl rfl rfl) (e_varB rfl rfl rfl))) (e_B rfl (s_con rfl))) (e_cons rfl (s_tup (e_cons rfl (e_ix c (fun _ _ => rfl) (e_varB rfl rfl rfl) (e_B rfl (s_bin ok_mod (e_varB rfl rfl rfl) (e_B rfl (s_con rfl))))) s_nil)) (e_cons rfl (s_tup (e_cons rfl (e_ix c (fun _ _ => rfl) (e_varB rfl rfl rfl) (e_B rfl (s_bin ok_mod (e_B rfl (s_bin ok_add (e_varB rfl rfl rfl) (e_varB rfl rfl rfl))) (e_B rfl (s_con rfl))))) s_nil)) s_nil)))))
  x_nil))
  (x_cons (x_ret (e_tuple c rfl rfl (e_varB rfl rfl rfl)))
  x_nil))))
/-! _law_any -/
theorem w__law_any {k : Nat} (hB : Blt mg) (hX : XC K mg exL) (F : FunD K "_law_any" "_law_any" (defArgs (top 45)) (defBody (top 45)) (defScope (top 45)) [] [] f fd) (gm : mg "_law_any" = some (.ref f)) (G0 : FnGood P w K mg base k "_law_draw" f__law_draw) (G1 : FnGood P w K mg base k "_law_tight" f__law_tight) (G2 : FnGood P w K mg base k "_law_states" f__law_states) (G3 : FnGood P w K mg base k "_law_pick" f__law_pick) (G4 : FnGood P w K mg base k "_law_some" f__law_some) : FnGood P w K mg base (k + 1) "_law_any" f__law_any :=
  good_defX (fn := b__law_any) ["script", "state", "most", "plant", "rows"] ["script", "state", "most"] hB hX F gm (by kernel_rfl) (fun _ _ _ _ _ _ us hl => match us, hl with | [_, _, _], _ => rfl) rfl rfl fun cdv A outer s H E c o =>
  (x_cons (x_if (t_truth (e_B rfl (e_call c G0 rfl rfl rfl rfl (e_cons rfl (e_var rfl rfl rfl) (e_cons rfl (e_var rfl rfl rfl) (e_cons rfl (s_con rfl) s_nil))))) (fun _ => rfl)) (x_cons (y_asg false c rfl rfl rfl rfl (e_call c G1 rfl rfl rfl rfl (e_cons rfl (e_var rfl rfl rfl) (e_cons rfl (e_var rfl rfl rfl) (e_cons rfl (e_min2 c rfl rfl rfl (e_B rfl (s_con rfl)) (e_varB rfl rfl rfl)) s_nil)))))
  (x_cons (y_asg false c rfl rfl rfl rfl (e_call c G2 rfl rfl rfl rfl (e_cons rfl (e_var rfl rfl rfl) s_nil)))
  (x_cons (x_if (t_truth (e_varB rfl rfl rfl) (fun _ => rfl)) (x_cons (x_ret (s_tup (e_cons rfl (e_var rfl rfl rfl) (e_cons rfl (e_var rfl rfl rfl) (e_cons rfl (e_call c G3 rfl rfl rfl rfl (e_cons rfl (e_var rfl rfl rfl) (e_cons rfl (e_var rfl rfl rfl) (e_cons rfl (e_var rfl rfl rfl) s_nil)))) s_nil)))))
  x_nil) x_nil)
  x_nil))) x_nil)
  (x_cons (x_ret (e_call c G4 rfl rfl rfl rfl (e_cons rfl (e_var rfl rfl rfl) (e_cons rfl (e_var rfl rfl rfl) (e_cons rfl (e_var rfl rfl rfl) s_nil)))))
  x_nil))
/-! _law_flat -/
theorem w__law_flat {k : Nat} (hB : Blt mg) (hX : XC K mg exL) (F : FunD K "_law_flat" "_law_flat" (defArgs (top 46)) (defBody (top 46)) (defScope (top 46)) [] [] f fd) (gm : mg "_law_flat" = some (.ref f))  : FnGood P w K mg base (k + 1) "_law_flat" f__law_flat :=
  good_defX (fn := b__law_flat) ["parts", "found", "part"] ["parts"] hB hX F gm (by kernel_rfl) (fun _ _ _ _ _ _ us hl => match us, hl with | [_], _ => rfl) rfl rfl fun cdv A outer s H E c o =>
  (x_cons (y_asg false c rfl rfl rfl rfl (s_lst s_nil))
  (x_cons (y_for c o.own (fun _ => rfl) (i_plain (s_mV (e_var rfl rfl rfl))) (j_name c rfl rfl rfl) (x_cons (y_asg false c rfl rfl rfl rfl (s_bin ok_add (e_varB rfl rfl rfl) (e_varB rfl rfl rfl)))
  x_nil))
  (x_cons (x_ret (e_var rfl rfl rfl))
  x_nil)))
/-! law -/
def b_law : Fn := ⟨1, 18, [.for (.n 2) .range1 [.con (.int 6)] [.unp (.t [(.n 8), (.n 9), (.n 10)]) (.call 0 [.var 0, .var 1, .con (.int 8)]),
  .par [(11, false), (12, false), (13, false)] [.comp [15] (.n 15) .plain [.var 8] [] (.op2 .ix (.var 15) (.con (.int 0))), .call 1 [.var 8, .var 10], .call 2 [.var 8, .var 10]],
  .asg false 3 (.call 3 [.var 8]),
  .for (.n 4) .plain [.var 3] [.asg false 14 (.op2 .eq (.comp [17] (.n 17) .range1 [.op1 .len (.var 11)] [.and (.op2 .isin (.op2 .ix (.var 11) (.var 17)) (.var 12)) (.op2 .ne (.op2 .ix (.var 4) (.var 17)) (.op2 .ix (.var 10) (.var 17)))] (.var 17)) (.lst [])),
  .ite (.op2 .ne (.op2 .isin (.var 4) (.var 13)) (.var 14)) [.ret (.con (.bool false))] []],
  .asg false 5 (.call 4 [.var 8]),
  .ite (.or (.op2 .notin (.var 13) (.var 5)) (.op2 .ne (.op1 .sorted (.call 5 [.var 5])) (.var 3))) [.ret (.con (.bool false))] [],
  .asg false 6 (.call 6 [.var 0, .var 1, .var 13]),
  .ite (.or (.op2 .ne (.call 1 [.var 8, .var 6]) (.var 12)) (.op2 .ne (.call 2 [.var 8, .var 6]) (.var 13))) [.ret (.con (.bool false))] [],
  .asg false 7 (.call 6 [.var 0, .var 1, .var 3]),
  .ite (.op2 .ne (.call 7 [.var 8, .var 10, .var 7]) (.op2 .isin (.var 7) (.var 13))) [.ret (.con (.bool false))] [],
  .ite (.op2 .notin (.var 7) (.var 13)) [.ite (.comp [16] (.n 16) .plain [.call 8 [.var 8, .var 10, .var 7]] [.op2 .notin (.var 16) (.var 12)] (.var 16)) [.ret (.con (.bool false))] []] []],
  .ret (.con (.bool true))]⟩
def f_law : FnSem := run [f__law_any, f_frozen, f_reachable, f_states, f_classes, f__law_flat, f__law_pick, f_is_reachable, f_ring] b_law
theorem w_law {k : Nat} (hB : Blt mg) (hX : XC K mg exL) (F : FunD K "law" "law" (defArgs (top 47)) (defBody (top 47)) (defScope (top 47)) [] [] f fd) (G0 : FnGood P w K mg base k "_law_any" f__law_any) (G1 : FnGood P w K mg base k "frozen" f_frozen) (G2 : FnGood P w K mg base k "reachable" f_reachable) (G3 : FnGood P w K mg base k "states" f_states) (G4 : FnGood P w K mg base k "classes" f_classes) (G5 : FnGood P w K mg base k "_law_flat" f__law_flat) (G6 : FnGood P w K mg base k "_law_pick" f__law_pick) (G7 : FnGood P w K mg base k "is_reachable" f_is_reachable) (G8 : FnGood P w K mg base k "ring" f_ring)
    (law_run : ∀ ns : List Int, ns.length ≤ 63 → ∃ e st', exs [f__law_any, f_frozen, f_reachable, f_states, f_classes, f__law_flat, f__law_pick, f_is_reachable, f_ring] b_law.body (lawEnv 18 1 ns) [] = some (.ok (.rt (.bool true), e), st')) : FnOk P w K mg base CX0 (k + 1) f fd ["script"] (spLaw K 63) :=
  law_ofX (i1 := 1) (Γ := [f__law_any, f_frozen, f_reachable, f_states, f_classes, f__law_flat, f__law_pick, f_is_reachable, f_ring]) (B := b_law.body) ["script", "state", "k", "every", "row", "parts", "other", "goal", "plant", "rows", "places", "names", "still", "own", "alike", "lock", "name", "spot"] hB hX F (by kernel_rfl) rfl rfl rfl rfl (fun cdv A outer s H E c o =>
  (x_cons (y_for c o.own (fun _ => rfl) (j_range1 c rfl rfl (s_mV (s_con rfl))) (j_name c rfl rfl rfl) (x_cons (y_unp rfl rfl rfl (j_tup c rfl rfl (j_cons rfl (j_name c rfl rfl rfl) (j_cons rfl (j_name c rfl rfl rfl) (j_cons rfl (j_name c rfl rfl rfl) g_nil)))) (e_call c G0 rfl rfl rfl rfl (e_cons rfl (e_var rfl rfl rfl) (e_cons rfl (e_var rfl rfl rfl) (e_cons rfl (s_con rfl) s_nil)))))
  (x_cons (y_par3T c rfl rfl rfl rfl rfl rfl rfl (y_p false rfl (e_comp [("lock", 15)] c (by kernel_rfl) rfl (fun _ => rfl) (i_plain (s_mB (e_varB rfl rfl rfl))) (fun _ _ _ _ _ => (j_name c.blk rfl rfl rfl)) (fun _ _ _ _ _ => c_nil) (fun _ _ _ _ _ => (e_ix c.blk (fun _ _ => rfl) (e_varB rfl rfl rfl) (e_B rfl (s_con rfl))))) (y_p false rfl (e_call c G1 rfl rfl rfl rfl (e_cons rfl (e_var rfl rfl rfl) (e_cons rfl (e_var rfl rfl rfl) s_nil))) (y_p false rfl (e_call c G2 rfl rfl rfl rfl (e_cons rfl (e_var rfl rfl rfl) (e_cons rfl (e_var rfl rfl rfl) s_nil))) p_nil))))
  (x_cons (y_asg false c rfl rfl rfl rfl (e_call c G3 rfl rfl rfl rfl (e_cons rfl (e_var rfl rfl rfl) s_nil)))
  (x_cons (y_for c o.own (fun _ => rfl) (i_plain (s_mV (e_var rfl rfl rfl))) (j_name c rfl rfl rfl) (x_cons (y_asg false c rfl rfl rfl rfl (e_cmp (ok_eq c.room) rfl (e_B rfl (e_comp [("spot", 17)] c (by kernel_rfl) rfl (fun _ => rfl) (j_range1 c rfl rfl (s_mB (e_B rfl (e_len c rfl rfl (e_varB rfl rfl rfl))))) (fun _ _ _ _ _ => (j_name c.blk rfl rfl rfl)) (fun _ _ _ _ _ => (c_one (PW.pt (t_and (p_cmp (ok_in c.blk.room) rfl rfl (e_B rfl (e_ix c.blk (fun _ _ => rfl) (e_varB rfl rfl rfl) (e_varB rfl rfl rfl))) (e_varB rfl rfl rfl)) (t_and1 (p_cmp (ok_ne c.blk.room) rfl rfl (e_B rfl (e_ix c.blk (fun _ _ => rfl) (e_varB rfl rfl rfl) (e_varB rfl rfl rfl))) (e_B rfl (e_ix c.blk (fun _ _ => rfl) (e_varB rfl rfl rfl) (e_varB rfl rfl rfl))))))))) (fun _ _ _ _ _ => (e_var rfl rfl rfl)))) (e_B rfl (s_lst s_nil))))
  (x_cons (x_if (p_cmp (ok_ne c.room) rfl rfl (e_B rfl (e_cmp (ok_in c.room) rfl (e_varB rfl rfl rfl) (e_varB rfl rfl rfl))) (e_varB rfl rfl rfl)) (x_cons (x_ret (s_con rfl))
  x_nil) x_nil)
  x_nil)))
  (x_cons (y_asg false c rfl rfl rfl rfl (e_call c G4 rfl rfl rfl rfl (e_cons rfl (e_var rfl rfl rfl) s_nil)))
  (x_cons (x_if (PW.pt (t_or (p_cmp (ok_notin c.room) rfl rfl (e_varB rfl rfl rfl) (e_varB rfl rfl rfl)) (t_or1 (p_cmp (ok_ne c.room) rfl rfl (e_B rfl (e_sorted c rfl rfl (e_B rfl (e_call c G5 rfl rfl rfl rfl (e_cons rfl (e_var rfl rfl rfl) s_nil))))) (e_varB rfl rfl rfl))))) (x_cons (x_ret (s_con rfl))
  x_nil) x_nil)
  (x_cons (y_asg false c rfl rfl rfl rfl (e_call c G6 rfl rfl rfl rfl (e_cons rfl (e_var rfl rfl rfl) (e_cons rfl (e_var rfl rfl rfl) (e_cons rfl (e_var rfl rfl rfl) s_nil)))))
  (x_cons (x_if (PW.pt (t_or (p_cmp (ok_ne c.room) rfl rfl (e_B rfl (e_call c G1 rfl rfl rfl rfl (e_cons rfl (e_var rfl rfl rfl) (e_cons rfl (e_var rfl rfl rfl) s_nil)))) (e_varB rfl rfl rfl)) (t_or1 (p_cmp (ok_ne c.room) rfl rfl (e_B rfl (e_call c G2 rfl rfl rfl rfl (e_cons rfl (e_var rfl rfl rfl) (e_cons rfl (e_var rfl rfl rfl) s_nil)))) (e_varB rfl rfl rfl))))) (x_cons (x_ret (s_con rfl))
  x_nil) x_nil)
  (x_cons (y_asg false c rfl rfl rfl rfl (e_call c G6 rfl rfl rfl rfl (e_cons rfl (e_var rfl rfl rfl) (e_cons rfl (e_var rfl rfl rfl) (e_cons rfl (e_var rfl rfl rfl) s_nil)))))
  (x_cons (x_if (p_cmp (ok_ne c.room) rfl rfl (e_B rfl (e_call c G7 rfl rfl rfl rfl (e_cons rfl (e_var rfl rfl rfl) (e_cons rfl (e_var rfl rfl rfl) (e_cons rfl (e_var rfl rfl rfl) s_nil))))) (e_B rfl (e_cmp (ok_in c.room) rfl (e_varB rfl rfl rfl) (e_varB rfl rfl rfl)))) (x_cons (x_ret (s_con rfl))
  x_nil) x_nil)
  (x_cons (x_if (p_cmp (ok_notin c.room) rfl rfl (e_varB rfl rfl rfl) (e_varB rfl rfl rfl)) (x_cons (x_if (t_truth (e_B rfl (e_comp [("name", 16)] c (by kernel_rfl) rfl (fun _ => rfl) (i_plain (s_mB (e_B rfl (e_call c G8 rfl rfl rfl rfl (e_cons rfl (e_var rfl rfl rfl) (e_cons rfl (e_var rfl rfl rfl) (e_cons rfl (e_var rfl rfl rfl) s_nil))))))) (fun _ _ _ _ _ => (j_name c.blk rfl rfl rfl)) (fun _ _ _ _ _ => (c_one (p_cmp (ok_notin c.blk.room) rfl rfl (e_varB rfl rfl rfl) (e_varB rfl rfl rfl)))) (fun _ _ _ _ _ => (e_var rfl rfl rfl)))) (fun _ => rfl)) (x_cons (x_ret (s_con rfl))
  x_nil) x_nil)
  x_nil) x_nil)
  x_nil))))))))))))
  (x_cons (x_ret (s_con rfl))
  x_nil))) law_run
end
end TK.KK

/-! evaluation of the interpreter by simp -/
namespace TK
open PySem L2
section
variable {Γ : List FnSem} {env : Env} {st : DSt}
@[simp] theorem bind_ap {α β : Type} (x : M α) (f : α → M β) (st : DSt) : (x >>= f) st = (match x st with | none => none | some (.error c, s) => some (.error c, s) | some (.ok a, s) => f a s) := rfl
@[simp] theorem pure_ap' {α : Type} (a : α) (st : DSt) : (pure a : M α) st = some (.ok a, st) := rfl
@[simp] theorem fail_ap {α : Type} (st : DSt) : (fail : M α) st = none := rfl
@[simp] theorem throw_ap {α : Type} (c : Str) (st : DSt) : (throwX c : M α) st = some (.error c, st) := rfl
@[simp] theorem liftO_ap {α : Type} (o : Option α) (st : DSt) : (liftO o : M α) st = o.map fun a => (.ok a, st) := by cases o <;> rfl
@[simp] theorem ite_ap {α : Type} (p : Prop) [Decidable p] (x y : M α) (st : DSt) : (if p then x else y) st = if p then x st else y st := by split <;> rfl
theorem run_ap {fn : Fn} {ds : List D} (h : ds.length = fn.np) : run Γ fn ds st = (match exs Γ fn.body (ds.map .val ++ List.replicate (fn.nl - fn.np) .no) st with
    | none => none
    | some (.error c, s) => some (.error c, s)
    | some (.ok (.rt d, _), s) => some (.ok d, s)
    | some (.ok (.nx, _), s) => some (.ok .none, s)) := by
  unfold run
  rw [if_pos h]
  show M.bnd _ _ st = _
  unfold M.bnd
  cases exs Γ fn.body (ds.map .val ++ List.replicate (fn.nl - fn.np) .no) st with
  | none => rfl
  | some p =>
    obtain ⟨r, s⟩ := p
    cases r with
    | error c => rfl
    | ok q =>
      obtain ⟨fl, e⟩ := q
      cases fl <;> rfl
theorem compL_fm {f : D → M (Option D)} {g : D → Option D} : ∀ {l : List D}, (∀ d ∈ l, f d st = some (.ok (g d), st)) → compL f l st = some (.ok (l.filterMap g), st)
  | [], _ => rfl
  | d :: r, h => by
    show (f d >>= fun o => compL f r >>= fun rest => (pure (match o with | some x => x :: rest | none => rest) : M (List D))) st = _
    rw [bind_eq (h d List.mem_cons_self), bind_eq (compL_fm fun x hx => h x (List.mem_cons_of_mem _ hx))]
    cases e : g d with
    | none => rw [List.filterMap_cons_none e]; rfl
    | some x => rw [List.filterMap_cons_some e]; rfl
theorem compL_map {f : D → M (Option D)} {g : D → D} {l : List D} (h : ∀ d ∈ l, f d st = some (.ok (some (g d)), st)) : compL f l st = some (.ok (l.map g), st) := by
  rw [compL_fm (g := fun d => some (g d)) h, List.filterMap_eq_map']
theorem compL_mapc {α : Type} {f : D → M (Option D)} {h : α → D} {g : α → D} : ∀ {l : List α}, (∀ a ∈ l, f (h a) st = some (.ok (some (g a)), st)) → compL f (l.map h) st = some (.ok (l.map g), st)
  | [], _ => rfl
  | a :: r, hh => by
    show (f (h a) >>= fun o => compL f (r.map h) >>= fun rest => (pure (match o with | some x => x :: rest | none => rest) : M (List D))) st = _
    rw [bind_eq (hh a List.mem_cons_self), bind_eq (compL_mapc fun x hx => hh x (List.mem_cons_of_mem _ hx))]
    rfl
theorem compL_fmc {α : Type} {f : D → M (Option D)} {h : α → D} {g : α → Option D} : ∀ {l : List α}, (∀ a ∈ l, f (h a) st = some (.ok (g a), st)) → compL f (l.map h) st = some (.ok (l.filterMap g), st)
  | [], _ => rfl
  | a :: r, hh => by
    show (f (h a) >>= fun o => compL f (r.map h) >>= fun rest => (pure (match o with | some x => x :: rest | none => rest) : M (List D))) st = _
    rw [bind_eq (hh a List.mem_cons_self), bind_eq (compL_fmc fun x hx => hh x (List.mem_cons_of_mem _ hx))]
    cases e : g a with
    | none => rw [List.filterMap_cons_none e]; rfl
    | some x => rw [List.filterMap_cons_some e]; rfl
theorem noX_ok {α : Type} {x : M α} {a : α} {st' : DSt} (h : x st = some (.ok a, st')) : noX x st = some (.ok a, st') := by
  unfold noX; rw [h]
@[simp] theorem ev_con (d : D) : ev Γ env (.con d) = pure d := rfl
@[simp] theorem ev_var (i : Nat) : ev Γ env (.var i) = liftO (getV env i) := rfl
@[simp] theorem ev_tup (es : List TK.E) : ev Γ env (.tup es) = (evs Γ env es >>= fun ds => if ds.length ≤ lim then pure (.tuple ds) else fail) := rfl
@[simp] theorem ev_lst (es : List TK.E) : ev Γ env (.lst es) = (evs Γ env es >>= fun ds => if ds.length ≤ lim then pure (.list ds) else fail) := rfl
@[simp] theorem ev_op1 (o : O1) (a : TK.E) : ev Γ env (.op1 o a) = (orB env a (ev Γ env a) >>= fun x => liftO (app1 o x)) := rfl
@[simp] theorem ev_op2 (o : O2) (a b : TK.E) : ev Γ env (.op2 o a b) = (orB env a (ev Γ env a) >>= fun x => orB env b (ev Γ env b) >>= fun y => liftO (app2 o x y)) := rfl
@[simp] theorem ev_op3 (o : Nat) (a b c : TK.E) : ev Γ env (.op3 o a b c) = (orB env a (ev Γ env a) >>= fun x => orB env b (ev Γ env b) >>= fun y => opTok o x y) := rfl
@[simp] theorem ev_and (a b : TK.E) : ev Γ env (.and a b) = (ev Γ env a >>= fun x => tru x >>= fun k => if k then ev Γ env b else pure x) := rfl
@[simp] theorem ev_or (a b : TK.E) : ev Γ env (.or a b) = (ev Γ env a >>= fun x => tru x >>= fun k => if k then pure x else ev Γ env b) := rfl
@[simp] theorem ev_ite (c a b : TK.E) : ev Γ env (.ite c a b) = (orB env c (ev Γ env c) >>= fun x => tru x >>= fun k => if k then ev Γ env a else ev Γ env b) := rfl
@[simp] theorem ev_call (j : Nat) (es : List TK.E) : ev Γ env (.call j es) = (evs Γ env es >>= fun ds => (Γ.getD j (fun _ => fail)) ds) := rfl
@[simp] theorem ev_slc (a : TK.E) (lo hi : Option TK.E) : ev Γ env (.slc a lo hi) = (orB env a (ev Γ env a) >>= fun x => evo Γ env lo >>= fun l => evo Γ env hi >>= fun h => liftO (slcD x l h)) := rfl
@[simp] theorem evo_none : evo Γ env none = pure none := rfl
def intM : D → M (Option Int)
  | .int i => pure (some i)
  | _ => fail
@[simp] theorem intM_int (i : Int) : intM (.int i) = pure (some i) := rfl
@[simp] theorem evo_some (e : TK.E) : evo Γ env (some e) = (ev Γ env e >>= intM) := by
  show (ev Γ env e >>= _) = _
  congr 1
@[simp] theorem evs_nil : evs Γ env [] = pure [] := rfl
@[simp] theorem evs_cons (e : TK.E) (es : List TK.E) : evs Γ env (e :: es) = (ev Γ env e >>= fun d => evs Γ env es >>= fun ds => pure (d :: ds)) := rfl
@[simp] theorem evsB_nil : evsB Γ env [] = pure [] := rfl
@[simp] theorem evsB_cons (e : TK.E) (es : List TK.E) : evsB Γ env (e :: es) = (orB env e (ev Γ env e) >>= fun d => evsB Γ env es >>= fun ds => pure (d :: ds)) := rfl
@[simp] theorem evc_nil : evc Γ env [] = pure true := rfl
@[simp] theorem evc_cons (e : TK.E) (es : List TK.E) : evc Γ env (e :: es) = (ev Γ env e >>= fun d => tru d >>= fun k => if k then evc Γ env es else pure false) := rfl
@[simp] theorem orB_var (i : Nat) (r : M D) : orB env (.var i) r = liftO (getB env i) := rfl
@[simp] theorem orB_con (d : D) (r : M D) : orB env (.con d) r = r := rfl
@[simp] theorem orB_tup (es : List TK.E) (r : M D) : orB env (.tup es) r = r := rfl
@[simp] theorem orB_lst (es : List TK.E) (r : M D) : orB env (.lst es) r = r := rfl
@[simp] theorem orB_op1 (o : O1) (a : TK.E) (r : M D) : orB env (.op1 o a) r = r := rfl
@[simp] theorem orB_op2 (o : O2) (a b : TK.E) (r : M D) : orB env (.op2 o a b) r = r := rfl
@[simp] theorem orB_op3 (o : Nat) (a b c : TK.E) (r : M D) : orB env (.op3 o a b c) r = r := rfl
@[simp] theorem orB_chain (o o2 : O2) (a b c : TK.E) (r : M D) : orB env (.chain o o2 a b c) r = r := rfl
@[simp] theorem orB_and (a b : TK.E) (r : M D) : orB env (.and a b) r = r := rfl
@[simp] theorem orB_or (a b : TK.E) (r : M D) : orB env (.or a b) r = r := rfl
@[simp] theorem orB_ite (a b c : TK.E) (r : M D) : orB env (.ite a b c) r = r := rfl
@[simp] theorem orB_slc (a : TK.E) (lo hi : Option TK.E) (r : M D) : orB env (.slc a lo hi) r = r := rfl
@[simp] theorem orB_call (j : Nat) (es : List TK.E) (r : M D) : orB env (.call j es) r = r := rfl
@[simp] theorem orB_comp (own : List Nat) (tg : Tg) (k : IK) (src conds : List TK.E) (elt : TK.E) (r : M D) : orB env (.comp own tg k src conds elt) r = r := rfl
@[simp] theorem orB_get (a b : TK.E) (c : D) (r : M D) : orB env (.get a b c) r = r := rfl
@[simp] theorem orB_idx (a b : TK.E) (r : M D) : orB env (.idx a b) r = r := rfl
@[simp] theorem ev_idx (a b : TK.E) : ev Γ env (.idx a b) = (orB env a (ev Γ env a) >>= fun x => if isLst x then (orB env b (ev Γ env b) >>= fun y => liftO (app2 .index x y)) else fail) := rfl
@[simp] theorem isLst_l (l : List D) : isLst (.list l) = true := rfl
@[simp] theorem orB_comp2 (own : List Nat) (tg : Tg) (k : IK) (src : List TK.E) (own1 : List Nat) (tg1 : Tg) (k1 : IK) (src1 conds : List TK.E) (elt : TK.E) (r : M D) : orB env (.comp2 own tg k src own1 tg1 k1 src1 conds elt) r = r := rfl
@[simp] theorem orB_dict (t : Bool) (ks vs : List TK.E) (r : M D) : orB env (.dict t ks vs) r = r := rfl
@[simp] theorem ev_get (a b : TK.E) (c : D) : ev Γ env (.get a b c) = (orB env a (ev Γ env a) >>= fun x => if (dictV x).isSome then (orB env b (ev Γ env b) >>= fun y => liftO (lookD x y) >>= fun o => pure (o.getD c)) else fail) := rfl
@[simp] theorem ev_dict (t : Bool) (ks vs : List TK.E) : ev Γ env (.dict t ks vs) = (evs Γ env ks >>= fun a => evs Γ env vs >>= fun b => if (a.all (keyFor t)) && a.length ≤ 1 && b.length = a.length then pure (mkD t ((a.zip b).foldl (fun m p => putD m p.1 p.2) [])) else fail) := rfl
@[simp] theorem getB0 (d : D) (r : Env) : getB (.val d :: r) 0 = some d := rfl
@[simp] theorem getB0o (d : D) (r : Env) : getB (.own d :: r) 0 = some d := rfl
@[simp] theorem getBs (s : Slot) (r : Env) (i : Nat) : getB (s :: r) (i + 1) = getB r i := rfl
@[simp] theorem getV0 (d : D) (r : Env) : getV (.val d :: r) 0 = some d := rfl
@[simp] theorem getVs (s : Slot) (r : Env) (i : Nat) : getV (s :: r) (i + 1) = getV r i := rfl
@[simp] theorem tru_def (d : D) : tru d = liftO (truth d) := rfl
@[simp] theorem truth_none : truth .none = some false := rfl
@[simp] theorem truth_bool (b : Bool) : truth (.bool b) = some b := rfl
@[simp] theorem truth_int (i : Int) : truth (.int i) = some (i != 0) := rfl
@[simp] theorem truth_list (l : List D) : truth (.list l) = some (!l.isEmpty) := rfl
@[simp] theorem truth_tuple (l : List D) : truth (.tuple l) = some (!l.isEmpty) := rfl
def chainM (o : O2) (y : D) (z : M D) : D → M D
  | .bool true => z >>= fun z => liftO (app2 o y z)
  | .bool false => pure (.bool false)
  | _ => fail
@[simp] theorem chainM_t (o : O2) (y : D) (z : M D) : chainM o y z (.bool true) = (z >>= fun z => liftO (app2 o y z)) := rfl
@[simp] theorem chainM_f (o : O2) (y : D) (z : M D) : chainM o y z (.bool false) = pure (.bool false) := rfl
@[simp] theorem ev_chain (o o2 : O2) (a b c : TK.E) : ev Γ env (.chain o o2 a b c) = (orB env a (ev Γ env a) >>= fun x => orB env b (ev Γ env b) >>= fun y => liftO (app2 o x y) >>= chainM o2 y (orB env c (ev Γ env c))) := rfl
def compF (Γ : List FnSem) (env : Env) (own : List Nat) (tg : Tg) (conds : List TK.E) (elt : TK.E) (d : D) : M (Option D) :=
  liftO (asgT tg d (wipeE env own)) >>= fun env1 => evc Γ env1 conds >>= fun b => if b then ev Γ env1 elt >>= fun x => pure (some x) else pure none
@[simp] theorem ev_comp (own : List Nat) (tg : Tg) (k : IK) (src conds : List TK.E) (elt : TK.E) : ev Γ env (.comp own tg k src conds elt) = (evsB Γ env src >>= fun ds => liftO (walkL k ds) >>= fun items => noX (compL (compF Γ env own tg conds elt) items) >>= fun out => pure (.list out)) := rfl
@[simp] theorem exs_nil : exs Γ [] env = pure (.nx, env) := rfl
def nextM (Γ : List FnSem) (r : List S) : Fl × Env → M (Fl × Env)
  | (.nx, e) => exs Γ r e
  | (.rt v, e) => pure (.rt v, e)
@[simp] theorem nextM_nx (r : List S) (e : Env) : nextM Γ r (.nx, e) = exs Γ r e := rfl
@[simp] theorem nextM_rt (r : List S) (v : D) (e : Env) : nextM Γ r (.rt v, e) = pure (.rt v, e) := rfl
@[simp] theorem exs_cons (s : S) (r : List S) : exs Γ (s :: r) env = (ex Γ s env >>= nextM Γ r) := by
  show (ex Γ s env >>= _) = _
  congr 1
  funext p
  obtain ⟨fl, e⟩ := p
  cases fl <;> rfl
@[simp] theorem ex_ret (e : TK.E) : ex Γ (.ret e) env = (ev Γ (frz env (esc e)) e >>= fun d => pure (.rt d, frz env (esc e))) := rfl
@[simp] theorem ex_ite (c : TK.E) (a b : List S) : ex Γ (.ite c a b) env = (tst Γ c env >>= fun k => if k then exs Γ a env else exs Γ b env) := rfl
@[simp] theorem tst_def (c : TK.E) : tst Γ c env = (orB env c (ev Γ env c) >>= tru) := rfl
@[simp] theorem ex_asg (o : Bool) (i : Nat) (e : TK.E) : ex Γ (.asg o i e) env = (ev Γ (frz env (esc e)) e >>= fun d => if ownB o d then (setS (frz env (esc e)) i (if o then .own d else .val d) >>= fun e2 => pure (.nx, e2)) else fail) := rfl
@[simp] theorem ownB_f (d : D) : ownB false d = true := rfl
@[simp] theorem ownB_l (l : List D) : ownB true (.list l) = true := rfl
@[simp] theorem frz_nil : frz env [] = env := rfl
@[simp] theorem frz_cons (i : Nat) (r : List Nat) : frz env (i :: r) = (match (frz env r)[i]? with | some (.own d) => (frz env r).set i (.val d) | _ => frz env r) := rfl
@[simp] theorem app2_le_int (i j : Int) : app2 .le (.int i) (.int j) = some (.bool (decide (i ≤ j))) := rfl
@[simp] theorem app2_le_str (a b : Str) : app2 .le (.str a) (.str b) = some (.bool (strLe a b)) := rfl
@[simp] theorem app2_gt_int (i j : Int) : app2 .gt (.int i) (.int j) = some (.bool (decide (j < i))) := rfl
@[simp] theorem app2_add_int (i j : Int) : app2 .add (.int i) (.int j) = some (.int (i + j)) := rfl
@[simp] theorem app2_sub_int (i j : Int) : app2 .sub (.int i) (.int j) = some (.int (i - j)) := rfl
@[simp] theorem app2_eq (a b : D) : app2 .eq a b = (eqD a b).map .bool := rfl
@[simp] theorem app2_ne (a b : D) : app2 .ne a b = (eqD a b).map fun x => .bool (!x) := rfl
@[simp] theorem app2_lt (a b : D) : app2 .lt a b = (ltD a b).map .bool := rfl
@[simp] theorem app2_ix_tup (l : List D) (i : Int) : app2 .ix (.tuple l) (.int i) = atI l i := rfl
@[simp] theorem app2_ix_lst (l : List D) (i : Int) : app2 .ix (.list l) (.int i) = atI l i := rfl
@[simp] theorem app1_not (d : D) : app1 .not d = (truth d).map fun b => .bool (!b) := rfl
@[simp] theorem app1_isi (t : Ty) (d : D) : app1 (.isi t) d = (typ t d).map .bool := rfl
@[simp] theorem app1_len_l (l : List D) : app1 .len (.list l) = some (.int l.length) := rfl
@[simp] theorem app1_len_t (l : List D) : app1 .len (.tuple l) = some (.int l.length) := rfl
@[simp] theorem app1_len_s (s : Str) : app1 .len (.str s) = if s.length ≤ lim then some (.int s.length) else none := rfl
@[simp] theorem app1_all (l : List D) : app1 .all (.list l) = (boolsOf l).map fun bs => .bool (bs.all id) := rfl
@[simp] theorem app1_listOf_t (l : List D) : app1 .listOf (.tuple l) = some (.list l) := rfl
@[simp] theorem app1_listOf_l (l : List D) : app1 .listOf (.list l) = some (.list l) := rfl
@[simp] theorem app1_tupleOf_l (l : List D) : app1 .tupleOf (.list l) = some (.tuple l) := rfl
@[simp] theorem app1_sorted (l : List D) : app1 .sorted (.list l) = (sortD l).map .list := rfl
@[simp] theorem app1_setSorted (d : D) : app1 .setSorted d = (seqOf d).bind fun l => (strsOf l).bind fun ss => if ss.length < 4000 then some (.list ((sortS (nub ss)).map .str)) else none := rfl
@[simp] theorem seqOf_l (l : List D) : seqOf (.list l) = some l := rfl
@[simp] theorem seqOf_t (l : List D) : seqOf (.tuple l) = some l := rfl
@[simp] theorem walk_l (l : List D) : walkL .plain [.list l] = some l := rfl
@[simp] theorem walk_t (l : List D) : walkL .plain [.tuple l] = some l := rfl
@[simp] theorem walk_s (s : Str) : walkL .plain [.str s] = if s.length ≤ lim then some (chars s) else none := rfl
@[simp] theorem walk_r1 (n : Int) : walkL .range1 [.int n] = if n.natAbs ≤ lim then some (rangeL 0 n.toNat) else none := rfl
@[simp] theorem walk_zl (x y : List D) : walkL .zip2 [.list x, .list y] = some ((x.zip y).map fun p => .tuple [p.1, p.2]) := rfl
@[simp] theorem walk_zt (x y : List D) : walkL .zip2 [.tuple x, .tuple y] = some ((x.zip y).map fun p => .tuple [p.1, p.2]) := rfl
@[simp] theorem slcD_l (l : List D) (lo hi : Option Int) : slcD (.list l) lo hi = some (.list (cut l lo hi)) := rfl
@[simp] theorem slcD_t (l : List D) (lo hi : Option Int) : slcD (.tuple l) lo hi = some (.tuple (cut l lo hi)) := rfl
@[simp] theorem wipe0 : wipeE env [] = env := rfl
@[simp] theorem asgT_n (i : Nat) (d : D) (e : Env) : asgT (.n i) d e = if i < e.length then some (e.set i (.val d)) else none := rfl
@[simp] theorem asgT_t (ts : List Tg) (l : List D) (e : Env) : asgT (.t ts) (.tuple l) e = asgTs ts l e := rfl
@[simp] theorem asgTs_nil (e : Env) : asgTs [] [] e = some e := rfl
@[simp] theorem asgTs_cons (t : Tg) (ts : List Tg) (d : D) (ds : List D) (e : Env) : asgTs (t :: ts) (d :: ds) e = (asgT t d e).bind fun e => asgTs ts ds e := rfl
@[simp] theorem typ_str_str (s : Str) : typ .str (.str s) = some true := rfl
@[simp] theorem typ_tuple_tuple (l : List D) : typ .tuple (.tuple l) = some true := rfl
def notStr : D → Bool
  | .str _ => false
  | .dict _ => false
  | _ => true
def notTup : D → Bool
  | .tuple _ => false
  | .dict _ => false
  | _ => true
theorem typ_str_no {d : D} (h : notStr d = true) : typ .str d = some false := by cases d <;> first | rfl | cases h
theorem typ_tuple_no {d : D} (h : notTup d = true) : typ .tuple d = some false := by cases d <;> first | rfl | cases h
/-- a loop that returns r at the first item that fails p -/
theorem forL_check {tg : Tg} {b : Env → M (Fl × Env)} {p : D → Bool} {r : D} {I : Env → Prop} : ∀ {l : List D} {env : Env}, I env → (∀ d ∈ l, ∀ env, I env → ∃ env', asgT tg d env = some env' ∧ I env' ∧ b env' st = if p d then some (.ok (.nx, env'), st) else some (.ok (.rt r, env'), st)) →
    ∃ env2, I env2 ∧ forL tg b l env st = if l.all p then some (.ok (.nx, env2), st) else some (.ok (.rt r, env2), st)
  | [], env, h0, _ => ⟨env, h0, rfl⟩
  | d :: l, env, h0, h => by
    obtain ⟨env1, e1, e2, e3⟩ := h d List.mem_cons_self env h0
    cases hp : p d with
    | false =>
      refine ⟨env1, e2, ?_⟩
      rw [hp] at e3
      have e3 : b env1 st = some (.ok (.rt r, env1), st) := e3
      show (liftO (asgT tg d env) >>= fun env1 => b env1 >>= fun p => match p.1 with | .nx => forL tg b l p.2 | .rt v => (pure (.rt v, p.2) : M (Fl × Env))) st = _
      rw [e1, List.all_cons, hp]
      simp only [liftO_some, pure_bind']
      rw [bind_eq e3]
      rfl
    | true =>
      obtain ⟨env2, f1, f2⟩ := forL_check e2 fun x hx => h x (List.mem_cons_of_mem _ hx)
      refine ⟨env2, f1, ?_⟩
      rw [hp] at e3
      have e3 : b env1 st = some (.ok (.nx, env1), st) := e3
      show (liftO (asgT tg d env) >>= fun env1 => b env1 >>= fun p => match p.1 with | .nx => forL tg b l p.2 | .rt v => (pure (.rt v, p.2) : M (Fl × Env))) st = _
      rw [e1, List.all_cons, hp]
      simp only [liftO_some, pure_bind']
      rw [bind_eq e3]
      exact f2
@[simp] theorem ex_for (tg : Tg) (k : IK) (src : List TK.E) (b : List S) : ex Γ (.for tg k src b) env = (evs Γ (frz env (escs src)) src >>= fun ds => liftO (walkL k ds) >>= fun items => forL tg (exs Γ b) items (frz env (escs src))) := rfl
end
end TK

/-! what is drawn -/
namespace TK
open PySem L2
def b_draw : Fn := ⟨3, 8, [.ite (.op1 .not (.op3 2 (.var 1) (.con .none) (.con .none))) [.tokApp 1 (.op1 .max (.op2 .add (.comp [4] (.n 4) .plain [.var 0] [] (.op1 .abs (.var 4))) (.lst [.con (.int 0)])))] [],
  .tokApp 1 (.con (.int 0)),
  .asg false 3 (.op3 0 (.var 1) (.con .none) (.con .none)),
  .asg false 4 (.ite (.op3 5 (.var 0) (.con .none) (.con .none)) (.op3 4 (.var 0) (.op2 .mod (.var 3) (.op3 3 (.var 0) (.con .none) (.con .none))) (.con .none)) (.con (.int 0))),
  .asg false 5 (.op2 .mod (.op3 1 (.var 1) (.con .none) (.con .none)) (.con (.int 65536))),
  .tokSet 1 (.op2 .fdiv (.op3 1 (.var 1) (.con .none) (.con .none)) (.con (.int 65536))),
  .asg false 6 (.op2 .mod (.op2 .add (.op2 .add (.var 4) (.op2 .mul (.con (.int 40503)) (.var 5))) (.op2 .mul (.con (.int 104729)) (.var 3))) (.con (.int 4294967291))),
  .asg false 6 (.op2 .mod (.op2 .mul (.op2 .mod (.op2 .mul (.var 6) (.var 6)) (.con (.int 4294967279))) (.con (.int 48271))) (.con (.int 4294967291))),
  .asg false 7 (.op2 .mod (.op2 .mul (.op2 .mod (.op2 .mul (.var 6) (.var 6)) (.con (.int 4294967279))) (.con (.int 69621))) (.con (.int 4294967291))),
  .ret (.op2 .mod (.op2 .add (.op2 .mul (.op2 .fdiv (.var 6) (.con (.int 64))) (.con (.int 67108864))) (.op2 .fdiv (.var 7) (.con (.int 64)))) (.var 2))]⟩
section
variable {Γ : List FnSem} {env : Env} {st : DSt}
theorem step_asg {i : Nat} {e : TK.E} {d : D} {r : List S} (h : ev Γ env e st = some (.ok d, st)) (hi : i < env.length) (hf : frz env (esc e) = env) : exs Γ (.asg false i e :: r) env st = exs Γ r (env.set i (.val d)) st := by
  rw [exs_cons, ex_asg, hf]
  simp [h, setS, hi]
theorem step_ex {s : S} {r : List S} {env1 : Env} {st1 : DSt} (h : ex Γ s env st = some (.ok (.nx, env1), st1)) : exs Γ (s :: r) env st = exs Γ r env1 st1 := by
  rw [exs_cons]
  simp [h]
@[simp] theorem app2_mod (i j : Int) : app2 .mod (.int i) (.int j) = if 0 < j then some (.int (i % j)) else none := rfl
@[simp] theorem app2_fdiv (i j : Int) : app2 .fdiv (.int i) (.int j) = if 0 < j ∧ j < 1073741824 then some (.int (i / j)) else none := rfl
@[simp] theorem app2_mul (i j : Int) : app2 .mul (.int i) (.int j) = if j.natAbs < 2 ^ 63 then some (.int (i * j)) else none := rfl
@[simp] theorem tokOp0 : opTok 0 tok d st = some (.ok (.int st.length), st) := rfl
@[simp] theorem tokOp1 (x : Int) (t : DSt) : opTok 1 tok d (x :: t) = some (.ok (.int x), x :: t) := rfl
@[simp] theorem tokOp2 : opTok 2 tok d st = some (.ok (.bool (!st.isEmpty)), st) := rfl
@[simp] theorem scrOp3 (ns : List Int) : opTok 3 (scr ns) d st = some (.ok (.int (ns.map PyData.int).length), st) := rfl
@[simp] theorem scrOp5 (ns : List Int) : opTok 5 (scr ns) d st = some (.ok (.bool (!(ns.map PyData.int).isEmpty)), st) := rfl
@[simp] theorem scrOp4 (ns : List Int) (j : Int) : opTok 4 (scr ns) (.int j) st = (atI (ns.map PyData.int) j).map fun d => (.ok d, st) := rfl
@[simp] theorem walk_scr (ns : List Int) : walkL .plain [scr ns] = some (ns.map .int) := rfl
@[simp] theorem ex_tokApp (i : Nat) (e : TK.E) : ex Γ (.tokApp i e) env = (liftO (getV env i) >>= fun t => if isTok t then (ev Γ env e >>= fun d => liftO (intOf d) >>= fun n => appTok n >>= fun _ => pure (.nx, env)) else fail) := rfl
@[simp] theorem ex_tokSet (i : Nat) (e : TK.E) : ex Γ (.tokSet i e) env = (liftO (getV env i) >>= fun t => if isTok t then (ev Γ env e >>= fun d => liftO (intOf d) >>= fun n => setTok n >>= fun _ => pure (.nx, env)) else fail) := rfl
@[simp] theorem isTok_tok : isTok tok = true := rfl
@[simp] theorem intOf_int (n : Int) : intOf (.int n) = some n := rfl
@[simp] theorem setTok_cons (n x : Int) (t : DSt) : setTok n (x :: t) = some (.ok (), n :: t) := rfl
theorem appTok_ok {n : Int} (h : st.length < lim) : appTok n st = some (.ok (), st ++ [n]) := by
  unfold appTok
  rw [if_pos h]
end
theorem lim_big : 10000000 < lim := by decide
def absI (i : Int) : Int := if i < 0 then -i else i
theorem max_ok (ns : List Int) : ∃ m, app1 .max (.list (ns.map (fun i => PyData.int (absI i)) ++ [.int 0])) = some (.int m) := by
  have key : ∀ (is : List Int), is ≠ [] → ∃ m, app1 .max (.list (is.map PyData.int)) = some (.int m) := by
    intro is hne
    cases is with
    | nil => exact absurd rfl hne
    | cons x xs =>
      refine ⟨xs.foldl max x, ?_⟩
      have hb : bestOk ((x :: xs).map PyData.int) = true := by
        unfold bestOk
        simp only [Bool.and_eq_true, List.all_eq_true, List.mem_map]
        refine ⟨⟨?_, ?_⟩, ?_⟩
        · rintro _ ⟨a, _, rfl⟩ _ ⟨b, _, rfl⟩; rfl
        · rintro _ ⟨a, _, rfl⟩; rfl
        · rintro _ ⟨a, _, rfl⟩; rfl
      show (if bestOk ((x :: xs).map PyData.int) then some (PySem.W.maxD (.int x) (xs.map .int)) else none) = _
      rw [if_pos hb, PySem.W.maxD_ints]
  have e : ns.map (fun i => PyData.int (absI i)) ++ [.int 0] = (ns.map absI ++ [0]).map PyData.int := by
    rw [List.map_append, List.map_map]
    rfl
  rw [e]
  exact key _ (by simp)
theorem draw_run (ns : List Int) (st : DSt) (many : Int) (hm : 0 < many) (hst : st.length + 2 ≤ 10000000) (hns : ns.length ≤ 1000) :
    ∃ v st', run [] b_draw [scr ns, tok, .int many] st = some (.ok (.int v), st') ∧ 0 ≤ v ∧ v < many ∧ st'.length ≤ st.length + 2 := by
  have hlim := lim_big
  rw [run_ap rfl]
  -- the first statement
  have first : ∃ x t, (x :: t).length ≤ st.length + 1 ∧ ex [] (.ite (.op1 .not (.op3 2 (.var 1) (.con .none) (.con .none))) [.tokApp 1 (.op1 .max (.op2 .add (.comp [4] (.n 4) .plain [.var 0] [] (.op1 .abs (.var 4))) (.lst [.con (.int 0)])))] []) [.val (scr ns), .val tok, .val (.int many), .no, .no, .no, .no, .no] st = some (.ok (.nx, [.val (scr ns), .val tok, .val (.int many), .no, .no, .no, .no, .no]), x :: t) := by
    cases st with
    | cons x t =>
      refine ⟨x, t, by simp, ?_⟩
      simp
    | nil =>
      obtain ⟨m, hm⟩ := max_ok ns
      refine ⟨m, [], by simp, ?_⟩
      have k2 : noX (compL (compF [] [.val (scr ns), .val tok, .val (.int many), .no, .no, .no, .no, .no] [4] (.n 4) [] (.op1 .abs (.var 4))) (ns.map .int)) [] = some (.ok (ns.map fun i => .int (absI i)), []) := by
        refine noX_ok (compL_mapc fun i _ => ?_)
        simp [compF, wipeE, app1, absI]
      have k3 : app2 .add (.list (ns.map fun i => .int (absI i))) (.list [.int 0]) = some (.list (ns.map (fun i => .int (absI i)) ++ [.int 0])) := by
        show (if _ then _ else _) = _
        rw [if_pos]
        rw [List.length_map]
        show ns.length + 1 ≤ lim
        omega
      have k4 : appTok m [] = some (.ok (), [m]) := appTok_ok (by show 0 < lim; omega)
      have k5 : 1 ≤ lim := by omega
      simp [k2, k3, hm, k4, k5]
  obtain ⟨x, t, hlen, hfirst⟩ := first
  have hlen : t.length + 1 ≤ st.length + 1 := hlen
  generalize hk : ((x :: (t ++ [0])).length : Int) = kk
  have hk0 : 0 ≤ kk ∧ kk ≤ 10000001 := by
    have : (x :: (t ++ [0])).length = t.length + 2 := by simp
    omega
  obtain ⟨cell, hcell⟩ : ∃ cell : Int, ev [] [.val (scr ns), .val tok, .val (.int many), .val (.int kk), .no, .no, .no, .no] (.ite (.op3 5 (.var 0) (.con .none) (.con .none)) (.op3 4 (.var 0) (.op2 .mod (.var 3) (.op3 3 (.var 0) (.con .none) (.con .none))) (.con .none)) (.con (.int 0))) (x :: (t ++ [0])) = some (.ok (.int cell), x :: (t ++ [0])) := by
    cases hn : ns with
    | nil => exact ⟨0, by simp⟩
    | cons n0 r0 =>
      rw [← hn]
      have hposN : 0 < ns.length := by rw [hn]; simp
      have hpos : 0 < (ns.length : Int) := by omega
      have h1 := Int.emod_nonneg kk (show (ns.length : Int) ≠ 0 by omega)
      have h2 := Int.emod_lt_of_pos kk hpos
      have hlt : (kk % (ns.length : Int)).toNat < ns.length := by omega
      refine ⟨ns[(kk % (ns.length : Int)).toNat], ?_⟩
      have ha : atI (ns.map PyData.int) (kk % (ns.length : Int)) = some (.int ns[(kk % (ns.length : Int)).toNat]) := by
        unfold atI ixN
        rw [List.length_map, if_pos h1, if_pos h2]
        show (ns.map PyData.int)[(kk % (ns.length : Int)).toNat]? = _
        rw [List.getElem?_map, List.getElem?_eq_getElem hlt]
        rfl
      have hne : ns ≠ [] := by rw [hn]; simp
      simp [ha, hposN, hne]
  have hst2 : appTok 0 (x :: t) = some (.ok (), x :: (t ++ [0])) := appTok_ok (by show t.length + 1 < lim; omega)
  have hd := Int.emod_nonneg x (show (65536 : Int) ≠ 0 by decide)
  have hd2 := Int.emod_lt_of_pos x (show (0 : Int) < 65536 by decide)
  generalize hdig : x % 65536 = dig at hd hd2
  generalize hdv : x / 65536 = x1
  generalize hn1 : (cell + 40503 * dig + 104729 * kk) % 4294967291 = num1
  have n1a : 0 ≤ num1 := by rw [← hn1]; exact Int.emod_nonneg _ (by decide)
  have n1b : num1 < 4294967291 := by rw [← hn1]; exact Int.emod_lt_of_pos _ (by decide)
  generalize hn2 : num1 * num1 % 4294967279 * 48271 % 4294967291 = num2
  have n2a : 0 ≤ num2 := by rw [← hn2]; exact Int.emod_nonneg _ (by decide)
  have n2b : num2 < 4294967291 := by rw [← hn2]; exact Int.emod_lt_of_pos _ (by decide)
  generalize hmo : num2 * num2 % 4294967279 * 69621 % 4294967291 = more
  refine ⟨(num2 / 64 * 67108864 + more / 64) % many, x1 :: (t ++ [0]), ?_, Int.emod_nonneg _ (by omega), Int.emod_lt_of_pos _ hm, by simp; omega⟩
  have e1 : dig.natAbs < 9223372036854775808 := by omega
  have e2 : kk.natAbs < 9223372036854775808 := by omega
  have e3 : num1.natAbs < 9223372036854775808 := by omega
  have e4 : num2.natAbs < 9223372036854775808 := by omega
  have e5 : 0 < many := hm
  have hs2 : ex [] (.tokApp 1 (.con (.int 0))) [.val (scr ns), .val tok, .val (.int many), .no, .no, .no, .no, .no] (x :: t) = some (.ok (.nx, [.val (scr ns), .val tok, .val (.int many), .no, .no, .no, .no, .no]), x :: (t ++ [0])) := by
    simp [hst2]
  have hs3 : ev [] [.val (scr ns), .val tok, .val (.int many), .no, .no, .no, .no, .no] (.op3 0 (.var 1) (.con .none) (.con .none)) (x :: (t ++ [0])) = some (.ok (.int kk), x :: (t ++ [0])) := by
    rw [← hk]; simp
  have hs5 : ev [] [.val (scr ns), .val tok, .val (.int many), .val (.int kk), .val (.int cell), .no, .no, .no] (.op2 .mod (.op3 1 (.var 1) (.con .none) (.con .none)) (.con (.int 65536))) (x :: (t ++ [0])) = some (.ok (.int dig), x :: (t ++ [0])) := by
    simp [hdig]
  have hs6 : ex [] (.tokSet 1 (.op2 .fdiv (.op3 1 (.var 1) (.con .none) (.con .none)) (.con (.int 65536)))) [.val (scr ns), .val tok, .val (.int many), .val (.int kk), .val (.int cell), .val (.int dig), .no, .no] (x :: (t ++ [0])) = some (.ok (.nx, [.val (scr ns), .val tok, .val (.int many), .val (.int kk), .val (.int cell), .val (.int dig), .no, .no]), x1 :: (t ++ [0])) := by
    simp [hdv]
  have hs7 : ev [] [.val (scr ns), .val tok, .val (.int many), .val (.int kk), .val (.int cell), .val (.int dig), .no, .no] (.op2 .mod (.op2 .add (.op2 .add (.var 4) (.op2 .mul (.con (.int 40503)) (.var 5))) (.op2 .mul (.con (.int 104729)) (.var 3))) (.con (.int 4294967291))) (x1 :: (t ++ [0])) = some (.ok (.int num1), x1 :: (t ++ [0])) := by
    simp [e1, e2, hn1]
  have hs8 : ev [] [.val (scr ns), .val tok, .val (.int many), .val (.int kk), .val (.int cell), .val (.int dig), .val (.int num1), .no] (.op2 .mod (.op2 .mul (.op2 .mod (.op2 .mul (.var 6) (.var 6)) (.con (.int 4294967279))) (.con (.int 48271))) (.con (.int 4294967291))) (x1 :: (t ++ [0])) = some (.ok (.int num2), x1 :: (t ++ [0])) := by
    simp [e3, hn2]
  have hs9 : ev [] [.val (scr ns), .val tok, .val (.int many), .val (.int kk), .val (.int cell), .val (.int dig), .val (.int num2), .no] (.op2 .mod (.op2 .mul (.op2 .mod (.op2 .mul (.var 6) (.var 6)) (.con (.int 4294967279))) (.con (.int 69621))) (.con (.int 4294967291))) (x1 :: (t ++ [0])) = some (.ok (.int more), x1 :: (t ++ [0])) := by
    simp [e4, hmo]
  have hall : exs [] b_draw.body [.val (scr ns), .val tok, .val (.int many), .no, .no, .no, .no, .no] st = some (.ok (.rt (.int ((num2 / 64 * 67108864 + more / 64) % many)), [.val (scr ns), .val tok, .val (.int many), .val (.int kk), .val (.int cell), .val (.int dig), .val (.int num2), .val (.int more)]), x1 :: (t ++ [0])) := by
    unfold b_draw
    refine (step_ex hfirst).trans ?_
    refine (step_ex hs2).trans ?_
    refine (step_asg hs3 (by simp) rfl).trans ?_
    refine (step_asg hcell (by simp) rfl).trans ?_
    refine (step_asg hs5 (by simp) rfl).trans ?_
    refine (step_ex hs6).trans ?_
    refine (step_asg hs7 (by simp) rfl).trans ?_
    refine (step_asg hs8 (by simp) rfl).trans ?_
    refine (step_asg hs9 (by simp) rfl).trans ?_
    simp [esc, escB, e5]
  have hall2 : exs [] b_draw.body ([scr ns, tok, .int many].map .val ++ List.replicate (b_draw.nl - b_draw.np) .no) st = _ := hall
  rw [hall2]
def drawF : FnSem := run [] b_draw
/-- x ends well, whatever the draws' list (not too long) is; the list grows by at most c -/
def Runs (x : M D) (P : D → Prop) (c : Nat) : Prop := ∀ st : DSt, st.length + c ≤ 10000000 → ∃ d st', x st = some (.ok d, st') ∧ P d ∧ st'.length ≤ st.length + c
theorem draw_runs (ns : List Int) (hns : ns.length ≤ 1000) {many : Int} (hm : 0 < many) : Runs (drawF [scr ns, tok, .int many]) (fun d => ∃ v, d = .int v ∧ 0 ≤ v ∧ v < many) 2 := fun st hst => by
  obtain ⟨v, st', h1, h2, h3, h4⟩ := draw_run ns st many hm hst hns
  exact ⟨_, st', h1, ⟨v, rfl, h2, h3⟩, h4⟩
def b_pick : Fn := ⟨3, 3, [.ret (.op2 .ix (.var 2) (.call 0 [.var 0, .var 1, .op1 .len (.var 2)]))]⟩
def pickF : FnSem := run [drawF] b_pick
theorem pick_runs (ns : List Int) (hns : ns.length ≤ 1000) {l : List D} (hl : l ≠ []) : Runs (pickF [scr ns, tok, .list l]) (fun d => d ∈ l) 2 := fun st hst => by
  have hpos : 0 < l.length := List.length_pos_iff.mpr hl
  obtain ⟨d, st', h1, ⟨v, rfl, h2, h3⟩, h4⟩ := draw_runs ns hns (many := (l.length : Int)) (by omega) st hst
  have hlt : v.toNat < l.length := by omega
  refine ⟨l[v.toNat], st', ?_, List.getElem_mem hlt, h4⟩
  have ha : atI l v = some l[v.toNat] := by
    unfold atI ixN
    rw [if_pos h2, if_pos h3]
    show l[v.toNat]? = _
    rw [List.getElem?_eq_getElem hlt]
  unfold pickF
  rw [run_ap rfl]
  simp [b_pick, esc, escs, escB, h1, ha]
def b_shuf : Fn := ⟨3, 5, [.par [(3, true), (4, true)] [.op1 .listOf (.var 2), .lst []],
  .while (.var 3) [.appPop 4 3 (.call 0 [.var 0, .var 1, .op1 .len (.var 3)])],
  .ret (.var 4)]⟩
def shufF : FnSem := run [drawF] b_shuf
theorem shuf_turn (ns : List Int) (hns : ns.length ≤ 1000) (l0 rest found : List D) (hr : rest ≠ []) (hb : rest.length + found.length ≤ 1000) (st : DSt) (hst : st.length + 2 ≤ 10000000) :
    ∃ i st', ∃ h : i < rest.length, st'.length ≤ st.length + 2 ∧ exs [drawF] [.appPop 4 3 (.call 0 [.var 0, .var 1, .op1 .len (.var 3)])] [.val (scr ns), .val tok, .val (.list l0), .own (.list rest), .own (.list found)] st = some (.ok (.nx, [.val (scr ns), .val tok, .val (.list l0), .own (.list (rest.eraseIdx i)), .own (.list (found ++ [rest[i]]))]), st') := by
  have hpos : 0 < rest.length := List.length_pos_iff.mpr hr
  obtain ⟨d, st', h1, ⟨v, rfl, h2, h3⟩, h4⟩ := draw_runs ns hns (many := (rest.length : Int)) (by omega) st hst
  have hlt : v.toNat < rest.length := by omega
  refine ⟨v.toNat, st', hlt, h4, ?_⟩
  have hlim := lim_big
  have hev : ev [drawF] [.val (scr ns), .val tok, .val (.list l0), .own (.list rest), .own (.list found)] (.call 0 [.var 0, .var 1, .op1 .len (.var 3)]) st = some (.ok (.int v), st') := by
    simp [h1]
  have hone : ex [drawF] (.appPop 4 3 (.call 0 [.var 0, .var 1, .op1 .len (.var 3)])) [.val (scr ns), .val tok, .val (.list l0), .own (.list rest), .own (.list found)] st = some (.ok (.nx, [.val (scr ns), .val tok, .val (.list l0), .own (.list (rest.eraseIdx v.toNat)), .own (.list (found ++ [rest[v.toNat]]))]), st') := by
    show (liftO (some found) >>= fun l => liftO (some rest) >>= fun m => ev [drawF] [.val (scr ns), .val tok, .val (.list l0), .own (.list rest), .own (.list found)] (.call 0 [.var 0, .var 1, .op1 .len (.var 3)]) >>= fun d => (match d with
      | .int n => if 0 ≤ n ∧ n < 1000000000 ∧ l.length < lim ∧ (4 : Nat) ≠ 3 then (match m[n.toNat]? with
          | some x => (pure (.nx, (([.val (scr ns), .val tok, .val (.list l0), .own (.list rest), .own (.list found)] : Env).set 3 (.own (.list (m.eraseIdx n.toNat)))).set 4 (.own (.list (l ++ [x])))) : M (Fl × Env))
          | none => fail) else fail
      | _ => fail)) st = _
    rw [liftO_some, liftO_some, pure_bind', pure_bind', bind_eq hev]
    simp only []
    rw [if_pos ⟨h2, by omega, by omega, by decide⟩, List.getElem?_eq_getElem hlt]
    rfl
  exact (step_ex hone).trans rfl
theorem perm_erase {α : Type} : ∀ {l : List α} {j : Nat} (h : j < l.length), ([l[j]] ++ l.eraseIdx j).Perm l
  | a :: l, 0, _ => List.Perm.refl _
  | a :: l, j + 1, h => by
    have h' : j < l.length := by simpa using h
    have ih := perm_erase (l := l) (j := j) h'
    exact (List.Perm.swap a l[j] (l.eraseIdx j)).trans (List.Perm.cons a ih)
theorem shuf_loop (ns : List Int) (hns : ns.length ≤ 1000) (l0 : List D) : ∀ (n : Nat) (rest found : List D) (st : DSt) (fu : Nat), rest.length = n → n < fu → rest.length + found.length ≤ 1000 → st.length + 2 * n ≤ 10000000 →
    ∃ out st', out.Perm (found ++ rest) ∧ st'.length ≤ st.length + 2 * n ∧ whL (tst [drawF] (.var 3)) (exs [drawF] [.appPop 4 3 (.call 0 [.var 0, .var 1, .op1 .len (.var 3)])]) fu [.val (scr ns), .val tok, .val (.list l0), .own (.list rest), .own (.list found)] st = some (.ok (.nx, [.val (scr ns), .val tok, .val (.list l0), .own (.list []), .own (.list out)]), st')
  | 0, rest, found, st, fu + 1, hn, _, _, _ => by
    obtain rfl := List.length_eq_zero_iff.mp hn
    refine ⟨found, st, by simp, by omega, ?_⟩
    rw [whL]
    simp
  | n + 1, rest, found, st, fu + 1, hn, hfu, hb, hst => by
    have hr : rest ≠ [] := fun e => by rw [e] at hn; cases hn
    obtain ⟨j, st1, hj, hl1, hx⟩ := shuf_turn ns hns l0 rest found hr hb st (by omega)
    have hlen : (rest.eraseIdx j).length = n := by rw [List.length_eraseIdx_of_lt hj]; omega
    obtain ⟨out, st2, hp, hl2, hw⟩ := shuf_loop ns hns l0 n (rest.eraseIdx j) (found ++ [rest[j]]) st1 fu hlen (by omega) (by rw [hlen, List.length_append, List.length_singleton]; omega) (by omega)
    refine ⟨out, st2, hp.trans ?_, by omega, ?_⟩
    · rw [List.append_assoc]
      refine List.Perm.append_left found ?_
      exact perm_erase hj
    · have ht : tst [drawF] (.var 3) [.val (scr ns), .val tok, .val (.list l0), .own (.list rest), .own (.list found)] st = some (.ok true, st) := by
        have : rest.isEmpty = false := by cases rest with | nil => exact absurd rfl hr | cons _ _ => rfl
        simp [this, hr]
      show (tst [drawF] (.var 3) _ >>= fun k => if k then (exs [drawF] [.appPop 4 3 (.call 0 [.var 0, .var 1, .op1 .len (.var 3)])] _ >>= fun p => match p.1 with | .nx => whL (tst [drawF] (.var 3)) (exs [drawF] [.appPop 4 3 (.call 0 [.var 0, .var 1, .op1 .len (.var 3)])]) fu p.2 | .rt v => (pure (.rt v, p.2) : M (Fl × Env))) else pure (.nx, _)) st = _
      rw [bind_eq ht, if_pos rfl, bind_eq hx]
      exact hw
theorem shuf_runs (ns : List Int) (hns : ns.length ≤ 1000) {l : List D} (hl : l.length ≤ 1000) : Runs (shufF [scr ns, tok, .list l]) (fun d => ∃ r, d = .list r ∧ r.Perm l) (2 * l.length) := fun st hst => by
  obtain ⟨out, st', hp, hl2, hw⟩ := shuf_loop ns hns l l.length l [] st fuel rfl (by show l.length < 1000000; omega) (by simpa using hl) hst
  refine ⟨.list out, st', ?_, ⟨out, rfl, by simpa using hp⟩, hl2⟩
  unfold shufF
  rw [run_ap rfl]
  have h1 : ex [drawF] (.par [(3, true), (4, true)] [.op1 .listOf (.var 2), .lst []]) [.val (scr ns), .val tok, .val (.list l), .no, .no] st = some (.ok (.nx, [.val (scr ns), .val tok, .val (.list l), .own (.list l), .own (.list [])]), st) := by
    rfl
  have h2 : ex [drawF] (.while (.var 3) [.appPop 4 3 (.call 0 [.var 0, .var 1, .op1 .len (.var 3)])]) [.val (scr ns), .val tok, .val (.list l), .own (.list l), .own (.list [])] st = some (.ok (.nx, [.val (scr ns), .val tok, .val (.list l), .own (.list []), .own (.list out)]), st') := hw
  have h3 : exs [drawF] b_shuf.body [.val (scr ns), .val tok, .val (.list l), .no, .no] st = some (.ok (.rt (.list out), [.val (scr ns), .val tok, .val (.list l), .own (.list []), .val (.list out)]), st') := by
    unfold b_shuf
    refine (step_ex h1).trans ?_
    refine (step_ex h2).trans ?_
    simp [esc]
  have h4 : exs [drawF] b_shuf.body ([scr ns, tok, .list l].map .val ++ List.replicate (b_shuf.nl - b_shuf.np) .no) st = _ := h3
  rw [h4]
end TK

/-! plain facts: ascending lists of texts, slices, equality -/
namespace TK
open PySem L2
def ltS (a b : Str) : Bool := decide (a.cps.toList < b.cps.toList)
def ascS : List Str → Bool
  | a :: b :: r => ltS a b && ascS (b :: r)
  | _ => true
theorem ltS_trans {a b c : Str} (h1 : ltS a b = true) (h2 : ltS b c = true) : ltS a c = true := by
  simp only [ltS, decide_eq_true_eq] at *
  exact Std.lt_trans h1 h2
theorem ltS_irrefl (a : Str) : ltS a a = false := by
  simp only [ltS, decide_eq_false_iff_not]
  exact Std.lt_irrefl
theorem ltS_le {a b : Str} (h : ltS a b = true) : strLE a b = true := by
  simp only [ltS, strLE, decide_eq_true_eq] at *
  exact Std.le_of_lt h
theorem ltS_of {a b : Str} (h : strLE a b = true) (ne : a ≠ b) : ltS a b = true := by
  simp only [ltS, strLE, decide_eq_true_eq] at *
  refine Std.not_le.mp fun h2 => ne (str_ext (Std.le_antisymm h h2))
theorem asc_pair : ∀ {l : List Str}, ascS l = true → l.Pairwise fun a b => ltS a b = true
  | [], _ => .nil
  | [a], _ => List.pairwise_singleton _ _
  | a :: b :: r, h => by
    simp only [ascS, Bool.and_eq_true] at h
    have ih := asc_pair h.2
    refine List.pairwise_cons.mpr ⟨fun x hx => ?_, ih⟩
    rcases List.mem_cons.mp hx with rfl | hx
    · exact h.1
    · exact ltS_trans h.1 ((List.pairwise_cons.mp ih).1 x hx)
theorem pair_asc : ∀ {l : List Str}, (l.Pairwise fun a b => ltS a b = true) → ascS l = true
  | [], _ => rfl
  | [a], _ => rfl
  | a :: b :: r, h => by
    have h' := List.pairwise_cons.mp h
    simp only [ascS, Bool.and_eq_true]
    exact ⟨h'.1 b List.mem_cons_self, pair_asc h'.2⟩
theorem asc_iff {l : List Str} : ascS l = true ↔ l = sortS (nub l) := by
  constructor
  · intro h
    have p := asc_pair h
    have nd : l.Nodup := p.imp fun {a b} h e => by rw [e, ltS_irrefl] at h; cases h
    exact sortS_unique (p.imp fun h => ltS_le h) (perm_of_nodup nd (nodup_nub l) fun x => mem_nub.symm)
  · intro h
    have nd : (sortS (nub l)).Nodup := (sortS_perm (nub l)).nodup_iff.mpr (nodup_nub l)
    have p := sortS_sorted (nub l)
    rw [← h] at nd p
    refine pair_asc ?_
    exact (p.and nd).imp fun ⟨h1, h2⟩ => ltS_of h1 h2
theorem eqvAll_str : ∀ (l m : List Str), PyData.eqvAll (l.map .str) (m.map .str) = decide (l = m)
  | [], [] => rfl
  | [], _ :: _ => rfl
  | _ :: _, [] => rfl
  | a :: l, b :: m => by
    rw [List.map_cons, List.map_cons, PyData.eqvAll, eqvAll_str l m]
    simp only [PyData.eqv]
    by_cases h : a = b
    · subst h; simp
    · simp [h]
theorem eqv_strs (l m : List Str) : PyData.eqv (.list (l.map .str)) (.list (m.map .str)) = decide (l = m) := by
  rw [PyData.eqv, eqvAll_str]
theorem dep_strs (n : Nat) (l : List Str) : dep (n + 1) (.list (l.map .str)) = true := by
  show (l.map PyData.str).all (dep n) = true
  rw [List.all_eq_true]
  intro x hx
  rw [List.mem_map] at hx
  obtain ⟨s, _, rfl⟩ := hx
  cases n <;> rfl
theorem strsOf_map : ∀ (l : List Str), strsOf (l.map .str) = some l
  | [] => rfl
  | a :: l => by rw [List.map_cons, strsOf, strsOf_map l]; rfl
theorem cut1 {α : Type} (l : List α) : cut l (some 1) none = l.drop 1 := by
  unfold cut
  rw [HT.sIx_none]
  have : HT.sIx l.length 0 (some 1) = min 1 l.length := HT.sIx_nat l.length 0 1
  rw [this]
  cases l with
  | nil => rfl
  | cons a r =>
    have : min 1 (a :: r).length = 1 := by simp
    rw [this]
    exact List.take_of_length_le (by simp)
theorem ltD_str (a b : Str) : ltD (.str a) (.str b) = some (ltS a b) := by
  unfold ltD ltS
  rw [PySem.W.dataLt_str]
  rfl
theorem boolsOf_map {α : Type} (g : α → Bool) : ∀ l : List α, boolsOf (l.map fun a => .bool (g a)) = some (l.map g)
  | [] => rfl
  | a :: l => by rw [List.map_cons, boolsOf, boolsOf_map g l]; rfl
theorem asc_zip : ∀ (l : List Str), ((l.zip (l.drop 1)).map fun p => ltS p.1 p.2).all id = ascS l
  | [] => rfl
  | [a] => rfl
  | a :: b :: r => by
    have := asc_zip (b :: r)
    simp only [List.drop_succ_cons, List.drop_zero, List.zip_cons_cons, List.map_cons, List.all_cons, id_eq, ascS] at this ⊢
    rw [← this]
theorem asc_zip' (l : List Str) : ((l.zip (l.drop 1)).all fun p => ltS p.1 p.2) = ascS l := by
  rw [← asc_zip, List.all_map]
  rfl
theorem zip_strs (l m : List Str) : ((l.map PyData.str).zip (m.map PyData.str)).map (fun p => PyData.tuple [p.1, p.2]) = (l.zip m).map fun p => .tuple [.str p.1, .str p.2] := by
  rw [List.zip_map, List.map_map]
  rfl
end TK

/-! the interpreter as equations between runs -/
namespace TK
open PySem L2
section
variable {Γ : List FnSem} {env : Env} {α β σ τ : Type}
def retM : Fl × Env → M D
  | (.rt d, _) => pure d
  | (.nx, _) => pure .none
@[simp] theorem retM_rt (d : D) (e : Env) : retM (.rt d, e) = pure d := rfl
@[simp] theorem retM_nx (e : Env) : retM (.nx, e) = pure .none := rfl
theorem run_eq {fn : Fn} {ds : List D} (h : ds.length = fn.np) : run Γ fn ds = (exs Γ fn.body (ds.map .val ++ List.replicate (fn.nl - fn.np) .no) >>= retM) := by
  unfold run
  rw [if_pos h]
  congr 1
  funext p
  obtain ⟨fl, e⟩ := p
  cases fl <;> rfl
theorem bind_pure' (x : M α) : (x >>= fun a => (pure a : M α)) = x := by
  funext st
  show M.bnd x (fun a => M.ret a) st = x st
  unfold M.bnd
  cases x st with
  | none => rfl
  | some p =>
    obtain ⟨r, s⟩ := p
    cases r <;> rfl
@[simp] theorem ite_bind' (p : Prop) [Decidable p] (x y : M α) (f : α → M β) : ((if p then x else y) >>= f) = if p then x >>= f else y >>= f := by split <;> rfl
@[simp] theorem ite_some (p : Prop) [Decidable p] (x : D) : (if p then (pure (some x) : M (Option D)) else pure none) = pure (if p then some x else none) := by split <;> rfl
@[simp] theorem ite_none (p : Prop) [Decidable p] (x : D) : (if p then (pure none : M (Option D)) else pure (some x)) = pure (if p then none else some x) := by split <;> rfl
@[simp] theorem ite_bool (p : Prop) [Decidable p] (a b : Bool) : (if p then (pure (.bool a) : M D) else pure (.bool b)) = pure (.bool (if p then a else b)) := by split <;> rfl
@[simp] theorem ite_tf (p : Prop) [Decidable p] (a b : Bool) : (if p then (pure a : M Bool) else pure b) = pure (if p then a else b) := by split <;> rfl
@[simp] theorem ite_b_tf (c : Bool) : (if c = true then true else false) = c := by cases c <;> rfl
/-! comprehensions -/
def compA (F : α → M (Option D)) : List α → M (List D)
  | [] => pure []
  | a :: r => F a >>= fun o => compA F r >>= fun rest => pure (match o with | some x => x :: rest | none => rest)
theorem compL_A (F : D → M (Option D)) (h : α → D) : ∀ l : List α, compL F (l.map h) = compA (fun a => F (h a)) l
  | [] => rfl
  | a :: r => by
    show (F (h a) >>= fun o => compL F (r.map h) >>= fun rest => _) = _
    rw [compL_A F h r]
    rfl
theorem compA_pure {F : α → M (Option D)} {g : α → Option D} : ∀ {l : List α}, (∀ a ∈ l, F a = pure (g a)) → compA F l = pure (l.filterMap g)
  | [], _ => rfl
  | a :: r, h => by
    show (F a >>= fun o => compA F r >>= fun rest => pure (match o with | some x => x :: rest | none => rest)) = _
    rw [h a List.mem_cons_self, pure_bind', compA_pure fun x hx => h x (List.mem_cons_of_mem _ hx), pure_bind']
    cases e : g a with
    | none => rw [List.filterMap_cons_none e]
    | some x => rw [List.filterMap_cons_some e]
theorem compA_map {F : α → M (Option D)} {g : α → D} {l : List α} (h : ∀ a ∈ l, F a = pure (some (g a))) : compA F l = pure (l.map g) := by
  rw [compA_pure (g := fun a => some (g a)) h, List.filterMap_eq_map']
theorem compA_filter {F : α → M (Option D)} {g : α → D} {p : α → Bool} : ∀ {l : List α}, (∀ a ∈ l, F a = pure (if p a = true then some (g a) else none)) → compA F l = pure ((l.filter p).map g)
  | [], _ => rfl
  | a :: r, h => by
    show (F a >>= fun o => compA F r >>= fun rest => pure (match o with | some x => x :: rest | none => rest)) = _
    rw [h a List.mem_cons_self, pure_bind', compA_filter fun x hx => h x (List.mem_cons_of_mem _ hx), pure_bind']
    by_cases e : p a = true
    · rw [if_pos e, List.filter_cons_of_pos e]; rfl
    · rw [if_neg e, List.filter_cons_of_neg e]
@[simp] theorem noX_pure (a : α) : noX (pure a : M α) = pure a := rfl
/-- a comprehension over items that are made of a list -/
theorem comp_map {F : D → M (Option D)} {h : α → D} {l : List α} (g : α → D) (hF : ∀ a ∈ l, F (h a) = pure (some (g a))) : noX (compL F (l.map h)) = pure (l.map g) := by
  rw [compL_A, compA_map hF]; rfl
theorem comp_filter {F : D → M (Option D)} {h : α → D} {l : List α} (p : α → Bool) (g : α → D) (hF : ∀ a ∈ l, F (h a) = pure (if p a = true then some (g a) else none)) : noX (compL F (l.map h)) = pure ((l.filter p).map g) := by
  rw [compL_A, compA_filter hF]; rfl
theorem comp_mapB {F : D → M (Option D)} {h : α → D} {l : List α} {R : M β} {k : List D → M β} (g : α → D) (hF : ∀ a ∈ l, F (h a) = pure (some (g a))) (hk : k (l.map g) = R) : (noX (compL F (l.map h)) >>= k) = R := by
  rw [comp_map g hF]; exact hk
theorem comp_filterB {F : D → M (Option D)} {h : α → D} {l : List α} {R : M β} {k : List D → M β} (p : α → Bool) (g : α → D) (hF : ∀ a ∈ l, F (h a) = pure (if p a = true then some (g a) else none)) (hk : k ((l.filter p).map g) = R) : (noX (compL F (l.map h)) >>= k) = R := by
  rw [comp_filter p g hF]; exact hk
theorem comp_mapDB {F : D → M (Option D)} {l : List D} {R : M β} {k : List D → M β} (g : D → D) (hF : ∀ a ∈ l, F a = pure (some (g a))) (hk : k (l.map g) = R) : (noX (compL F l) >>= k) = R := by
  have := comp_map (F := F) (h := id) (l := l) g hF
  rw [List.map_id] at this
  rw [this]; exact hk
theorem comp_filterDB {F : D → M (Option D)} {l : List D} {R : M β} {k : List D → M β} (p : D → Bool) (g : D → D) (hF : ∀ a ∈ l, F a = pure (if p a = true then some (g a) else none)) (hk : k ((l.filter p).map g) = R) : (noX (compL F l) >>= k) = R := by
  have := comp_filter (F := F) (h := id) (l := l) p g hF
  rw [List.map_id] at this
  rw [this]; exact hk
/-! two clauses -/
def comp2I (Γ : List FnSem) (own1 : List Nat) (tg1 : Tg) (conds : List TK.E) (elt : TK.E) (env1 : Env) (d1 : D) : M (Option D) :=
  liftO (asgT tg1 d1 (wipeE env1 own1)) >>= fun env2 => evc Γ env2 conds >>= fun b => if b then ev Γ env2 elt >>= fun x => pure (some x) else pure none
def comp2F (Γ : List FnSem) (env : Env) (own : List Nat) (tg : Tg) (own1 : List Nat) (tg1 : Tg) (k1 : IK) (src1 conds : List TK.E) (elt : TK.E) (d : D) : M (Option D) :=
  liftO (asgT tg d (wipeE env (own ++ own1))) >>= fun env1 => evs Γ env1 src1 >>= fun ds1 => liftO (walkL k1 ds1) >>= fun items1 => compL (comp2I Γ own1 tg1 conds elt env1) items1 >>= fun out => pure (some (.list out))
@[simp] theorem ev_comp2 (own : List Nat) (tg : Tg) (k : IK) (src : List TK.E) (own1 : List Nat) (tg1 : Tg) (k1 : IK) (src1 conds : List TK.E) (elt : TK.E) : ev Γ env (.comp2 own tg k src own1 tg1 k1 src1 conds elt) = (evsB Γ env src >>= fun ds => liftO (walkL k ds) >>= fun items => noX (compL (comp2F Γ env own tg own1 tg1 k1 src1 conds elt) items) >>= fun out => if (flatD out).length ≤ lim then pure (.list (flatD out)) else fail) := rfl
theorem compL_filter {F : D → M (Option D)} {h : α → D} {l : List α} (p : α → Bool) (g : α → D) (hF : ∀ a ∈ l, F (h a) = pure (if p a = true then some (g a) else none)) : compL F (l.map h) = pure ((l.filter p).map g) := by
  rw [compL_A, compA_filter hF]
theorem compL_mapE {F : D → M (Option D)} {h : α → D} {l : List α} (g : α → D) (hF : ∀ a ∈ l, F (h a) = pure (some (g a))) : compL F (l.map h) = pure (l.map g) := by
  rw [compL_A, compA_map hF]
theorem flatD_lists (f : α → List D) (l : List α) : flatD (l.map fun a => .list (f a)) = (l.map f).flatten := by
  unfold flatD
  rw [List.map_map]
  rfl
/-! loops: a state s of type σ and names t that hold anything -/
def stepM (tg : Tg) (b : Env → M (Fl × Env)) (r : List D) : Fl × Env → M (Fl × Env)
  | (.nx, e) => forL tg b r e
  | (.rt v, e) => pure (.rt v, e)
@[simp] theorem forL_nil (tg : Tg) (b : Env → M (Fl × Env)) : forL tg b [] env = pure (.nx, env) := rfl
theorem forL_cons (tg : Tg) (b : Env → M (Fl × Env)) (d : D) (r : List D) : forL tg b (d :: r) env = (liftO (asgT tg d env) >>= fun e => b e >>= stepM tg b r) := by
  show (liftO (asgT tg d env) >>= fun e => b e >>= _) = _
  congr 1
  funext e
  congr 1
  funext p
  obtain ⟨fl, e⟩ := p
  cases fl <;> rfl
theorem forL_fold {tg : Tg} {b : Env → M (Fl × Env)} {h : α → D} (E : σ → τ → Env) (step : σ → α → σ) (I : σ → Prop) : ∀ {l : List α} {s : σ} {t : τ}, I s →
    (∀ s t, ∀ a ∈ l, I s → I (step s a) ∧ ∃ e t', asgT tg (h a) (E s t) = some e ∧ b e = pure (.nx, E (step s a) t')) →
    I (l.foldl step s) ∧ ∃ t', forL tg b (l.map h) (E s t) = pure (.nx, E (l.foldl step s) t')
  | [], s, t, hi, _ => ⟨hi, t, rfl⟩
  | a :: l, s, t, hi, hs => by
    obtain ⟨i1, e, t1, h1, h2⟩ := hs s t a List.mem_cons_self hi
    obtain ⟨i2, t2, h3⟩ := forL_fold E step I (l := l) (t := t1) i1 fun s t x hx => hs s t x (List.mem_cons_of_mem _ hx)
    refine ⟨i2, t2, ?_⟩
    rw [List.map_cons, forL_cons, h1, liftO_some, pure_bind', h2, pure_bind']
    exact h3
theorem forL_foldB {tg : Tg} {b : Env → M (Fl × Env)} {h : α → D} {l : List α} {k : Fl × Env → M β} {R : M β} (E : σ → τ → Env) (step : σ → α → σ) (I : σ → Prop) (s : σ) (t : τ) (hi : I s)
    (hs : ∀ s t, ∀ a ∈ l, I s → I (step s a) ∧ ∃ e t', asgT tg (h a) (E s t) = some e ∧ b e = pure (.nx, E (step s a) t'))
    (hk : ∀ t', I (l.foldl step s) → k (.nx, E (l.foldl step s) t') = R) : (forL tg b (l.map h) (E s t) >>= k) = R := by
  obtain ⟨i, t', e⟩ := forL_fold E step I (t := t) hi hs
  rw [e, pure_bind']
  exact hk t' i
/-- the slots by what was walked so far -/
theorem forL_preB {tg : Tg} {b : Env → M (Fl × Env)} {h : α → D} {l : List α} {k : Fl × Env → M β} {R : M β} {env : Env} (E : List α → τ → Env) (t : τ) (he : env = E [] t)
    (hs : ∀ done a rest, l = done ++ a :: rest → ∀ t, ∃ e t', asgT tg (h a) (E done t) = some e ∧ b e = pure (.nx, E (done ++ [a]) t'))
    (hk : ∀ t', k (.nx, E l t') = R) : (forL tg b (l.map h) env >>= k) = R := by
  subst he
  have key : ∀ (r done : List α) (t : τ), l = done ++ r → ∃ t', forL tg b (r.map h) (E done t) = pure (.nx, E l t') := by
    intro r
    induction r with
    | nil => exact fun done t e => ⟨t, by rw [e, List.append_nil]; rfl⟩
    | cons a r ih =>
      intro done t e
      obtain ⟨e1, t1, h1, h2⟩ := hs done a r e t
      obtain ⟨t2, h3⟩ := ih (done ++ [a]) t1 (by rw [e]; simp)
      refine ⟨t2, ?_⟩
      rw [List.map_cons, forL_cons, h1, liftO_some, pure_bind', h2, pure_bind']
      exact h3
  obtain ⟨t', e⟩ := key l [] t rfl
  rw [e, pure_bind']
  exact hk t'
/-- a loop that returns at the first item of which p tells something -/
theorem forL_find {tg : Tg} {b : Env → M (Fl × Env)} {h : α → D} (E : τ → Env) (p : α → Option D) : ∀ {l : List α} {t : τ},
    (∀ t, ∀ a ∈ l, ∃ e t', asgT tg (h a) (E t) = some e ∧ b e = (match p a with | none => pure (.nx, E t') | some r => pure (.rt r, E t'))) →
    ∃ t', forL tg b (l.map h) (E t) = (match l.findSome? p with | none => pure (.nx, E t') | some r => pure (.rt r, E t'))
  | [], t, _ => ⟨t, rfl⟩
  | a :: l, t, hs => by
    obtain ⟨e, t1, h1, h2⟩ := hs t a List.mem_cons_self
    cases hp : p a with
    | some r =>
      refine ⟨t1, ?_⟩
      rw [hp] at h2
      rw [List.map_cons, forL_cons, h1, liftO_some, pure_bind', h2, List.findSome?_cons, hp]
      rfl
    | none =>
      obtain ⟨t2, h3⟩ := forL_find E p (l := l) (t := t1) fun t x hx => hs t x (List.mem_cons_of_mem _ hx)
      refine ⟨t2, ?_⟩
      rw [hp] at h2
      rw [List.map_cons, forL_cons, h1, liftO_some, pure_bind', h2, List.findSome?_cons, hp]
      exact h3
theorem forL_findB {tg : Tg} {b : Env → M (Fl × Env)} {h : α → D} {l : List α} {k : Fl × Env → M β} {R : M β} (E : τ → Env) (p : α → Option D) (t : τ)
    (hs : ∀ t, ∀ a ∈ l, ∃ e t', asgT tg (h a) (E t) = some e ∧ b e = (match p a with | none => pure (.nx, E t') | some r => pure (.rt r, E t')))
    (hn : l.findSome? p = none → ∀ t', k (.nx, E t') = R) (hr : ∀ r t', l.findSome? p = some r → k (.rt r, E t') = R) : (forL tg b (l.map h) (E t) >>= k) = R := by
  obtain ⟨t', e⟩ := forL_find E p (t := t) hs
  rw [e]
  cases q : l.findSome? p with
  | none => exact hn q t'
  | some r => exact hr r t' q
@[simp] theorem stepM_nx (tg : Tg) (b : Env → M (Fl × Env)) (r : List D) (e : Env) : stepM tg b r (.nx, e) = forL tg b r e := rfl
@[simp] theorem stepM_rt (tg : Tg) (b : Env → M (Fl × Env)) (r : List D) (e : Env) (v : D) : stepM tg b r (.rt v, e) = pure (.rt v, e) := rfl
/-- a loop all of whose turns go on -/
theorem forL_passB {tg : Tg} {b : Env → M (Fl × Env)} {l : List D} {k : Fl × Env → M β} {R : M β} {env : Env} (E : τ → Env) (t : τ) (he : env = E t)
    (hs : ∀ d ∈ l, ∀ t, ∃ e t', asgT tg d (E t) = some e ∧ b e = pure (.nx, E t')) (hk : ∀ t', k (.nx, E t') = R) : (forL tg b l env >>= k) = R := by
  subst he
  have key : ∀ (r : List D), (∀ d ∈ r, d ∈ l) → ∀ t, ∃ t', forL tg b r (E t) = pure (.nx, E t') := by
    intro r
    induction r with
    | nil => exact fun _ t => ⟨t, rfl⟩
    | cons a r ih =>
      intro hm t
      obtain ⟨e1, t1, h1, h2⟩ := hs a (hm a List.mem_cons_self) t
      obtain ⟨t2, h3⟩ := ih (fun x hx => hm x (List.mem_cons_of_mem _ hx)) t1
      refine ⟨t2, ?_⟩
      rw [forL_cons, h1, liftO_some, pure_bind', h2, pure_bind']
      exact h3
  obtain ⟨t', e⟩ := key l (fun _ h => h) t
  rw [e, pure_bind']
  exact hk t'
theorem forL_passM {tg : Tg} {b : Env → M (Fl × Env)} {h : α → D} {l : List α} {k : Fl × Env → M β} {R : M β} {env : Env} (E : τ → Env) (t : τ) (he : env = E t)
    (hs : ∀ a ∈ l, ∀ t, ∃ e t', asgT tg (h a) (E t) = some e ∧ b e = pure (.nx, E t')) (hk : ∀ t', k (.nx, E t') = R) : (forL tg b (l.map h) env >>= k) = R :=
  forL_passB E t he (fun d hd t => by obtain ⟨a, ha, rfl⟩ := List.mem_map.mp hd; exact hs a ha t) hk
/-! names that are handed on -/
@[simp] theorem esc_con (d : D) : esc (.con d) = [] := rfl
@[simp] theorem esc_var (i : Nat) : esc (.var i) = [i] := rfl
@[simp] theorem esc_tup (es : List TK.E) : esc (.tup es) = escs es := rfl
@[simp] theorem esc_lst (es : List TK.E) : esc (.lst es) = escs es := rfl
@[simp] theorem esc_op1 (o : O1) (a : TK.E) : esc (.op1 o a) = escB a := rfl
@[simp] theorem esc_op2 (o : O2) (a b : TK.E) : esc (.op2 o a b) = escB a ++ escB b := rfl
@[simp] theorem esc_chain (o o2 : O2) (a b c : TK.E) : esc (.chain o o2 a b c) = escB a ++ escB b ++ escB c := rfl
@[simp] theorem esc_and (a b : TK.E) : esc (.and a b) = esc a ++ esc b := rfl
@[simp] theorem esc_or (a b : TK.E) : esc (.or a b) = esc a ++ esc b := rfl
@[simp] theorem esc_ite (c a b : TK.E) : esc (.ite c a b) = escB c ++ esc a ++ esc b := rfl
@[simp] theorem esc_slc (a : TK.E) (lo hi : Option TK.E) : esc (.slc a lo hi) = escB a ++ esco lo ++ esco hi := rfl
@[simp] theorem esc_call (j : Nat) (es : List TK.E) : esc (.call j es) = escs es := rfl
@[simp] theorem esc_comp (own : List Nat) (tg : Tg) (k : IK) (src conds : List TK.E) (elt : TK.E) : esc (.comp own tg k src conds elt) = escsB src ++ (escs conds ++ esc elt).filter fun i => !own.contains i := rfl
@[simp] theorem esc_dict (t : Bool) (ks vs : List TK.E) : esc (.dict t ks vs) = escs ks ++ escs vs := rfl
@[simp] theorem esc_get (a b : TK.E) (c : D) : esc (.get a b c) = escB a ++ escB b := rfl
@[simp] theorem esc_idx (a b : TK.E) : esc (.idx a b) = escB a ++ escB b := rfl
@[simp] theorem escB_idx (a b : TK.E) : escB (.idx a b) = escB a ++ escB b := rfl
@[simp] theorem esc_comp2 (own : List Nat) (tg : Tg) (k : IK) (src : List TK.E) (own1 : List Nat) (tg1 : Tg) (k1 : IK) (src1 conds : List TK.E) (elt : TK.E) : esc (.comp2 own tg k src own1 tg1 k1 src1 conds elt) = escsB src ++ (escs src1 ++ escs conds ++ esc elt).filter fun i => !(own ++ own1).contains i := rfl
@[simp] theorem escB_comp2 (own : List Nat) (tg : Tg) (k : IK) (src : List TK.E) (own1 : List Nat) (tg1 : Tg) (k1 : IK) (src1 conds : List TK.E) (elt : TK.E) : escB (.comp2 own tg k src own1 tg1 k1 src1 conds elt) = escsB src ++ (escs src1 ++ escs conds ++ esc elt).filter fun i => !(own ++ own1).contains i := rfl
@[simp] theorem escB_con (d : D) : escB (.con d) = [] := rfl
@[simp] theorem escB_var (i : Nat) : escB (.var i) = [] := rfl
@[simp] theorem escB_tup (es : List TK.E) : escB (.tup es) = escs es := rfl
@[simp] theorem escB_lst (es : List TK.E) : escB (.lst es) = escs es := rfl
@[simp] theorem escB_op1 (o : O1) (a : TK.E) : escB (.op1 o a) = escB a := rfl
@[simp] theorem escB_op2 (o : O2) (a b : TK.E) : escB (.op2 o a b) = escB a ++ escB b := rfl
@[simp] theorem escB_chain (o o2 : O2) (a b c : TK.E) : escB (.chain o o2 a b c) = escB a ++ escB b ++ escB c := rfl
@[simp] theorem escB_and (a b : TK.E) : escB (.and a b) = esc a ++ esc b := rfl
@[simp] theorem escB_or (a b : TK.E) : escB (.or a b) = esc a ++ esc b := rfl
@[simp] theorem escB_ite (c a b : TK.E) : escB (.ite c a b) = escB c ++ esc a ++ esc b := rfl
@[simp] theorem escB_slc (a : TK.E) (lo hi : Option TK.E) : escB (.slc a lo hi) = escB a ++ esco lo ++ esco hi := rfl
@[simp] theorem escB_call (j : Nat) (es : List TK.E) : escB (.call j es) = escs es := rfl
@[simp] theorem escB_comp (own : List Nat) (tg : Tg) (k : IK) (src conds : List TK.E) (elt : TK.E) : escB (.comp own tg k src conds elt) = escsB src ++ (escs conds ++ esc elt).filter fun i => !own.contains i := rfl
@[simp] theorem escB_dict (t : Bool) (ks vs : List TK.E) : escB (.dict t ks vs) = escs ks ++ escs vs := rfl
@[simp] theorem escB_get (a b : TK.E) (c : D) : escB (.get a b c) = escB a ++ escB b := rfl
@[simp] theorem escs_nil : escs [] = [] := rfl
@[simp] theorem escs_cons (e : TK.E) (es : List TK.E) : escs (e :: es) = esc e ++ escs es := rfl
@[simp] theorem escsB_nil : escsB [] = [] := rfl
@[simp] theorem escsB_cons (e : TK.E) (es : List TK.E) : escsB (e :: es) = escB e ++ escsB es := rfl
@[simp] theorem esco_none : esco none = [] := rfl
@[simp] theorem esco_some (e : TK.E) : esco (some e) = esc e := rfl
@[simp] theorem wipe_cons (v : Nat) (vs : List Nat) : wipeE env (v :: vs) = (wipeE env vs).set v .no := rfl
/-! statements -/
@[simp] theorem ex_exp (e : TK.E) : ex Γ (.exp e) env = (ev Γ env e >>= fun _ => pure (.nx, env)) := rfl
@[simp] theorem ex_raise (c : Str) : ex Γ (.raise c) env = throwX c := rfl
@[simp] theorem ex_try (e : TK.E) (hs : List (Str × D)) : ex Γ (.tryR e hs) env = (tryM (ev Γ env e) hs >>= fun d => pure (.rt d, env)) := rfl
@[simp] theorem try_pure (d : D) (hs : List (Str × D)) : tryM (pure d) hs = pure d := rfl
theorem try_throw (c : Str) (hs : List (Str × D)) : tryM (throwX c) hs = (match hs.lookup c with | some d => pure d | none => fail) := by
  funext st
  show (match hs.lookup c with | some d => some (Except.ok d, st) | none => none) = _
  cases hs.lookup c <;> rfl
@[simp] theorem ex_append (i : Nat) (e : TK.E) : ex Γ (.append i e) env = (liftO (ownL (frz env (esc e)) i) >>= fun l => ev Γ (frz env (esc e)) e >>= fun d => if l.length < lim then pure (.nx, (frz env (esc e)).set i (.own (.list (l ++ [d])))) else fail) := rfl
@[simp] theorem ex_extend (i : Nat) (e : TK.E) : ex Γ (.extend i e) env = (liftO (ownL env i) >>= fun l => ev Γ env e >>= fun d => liftO (seqOf d) >>= fun m => if l.length + m.length ≤ lim then pure (.nx, env.set i (.own (.list (l ++ m)))) else fail) := rfl
@[simp] theorem ex_store (i : Nat) (k e : TK.E) : ex Γ (.store i k e) env = (match (frz env (esc e))[i]? with | some (.own o) => (ev Γ (frz env (esc e)) e >>= fun d => ev Γ (frz env (esc e)) k >>= fun kd => liftO (storeD o kd d) >>= fun o1 => pure (.nx, (frz env (esc e)).set i (.own o1))) | _ => fail) := rfl
@[simp] theorem ex_unp (tg : Tg) (e : TK.E) : ex Γ (.unp tg e) env = (ev Γ (frz env (esc e)) e >>= fun d => liftO (asgT tg d (frz env (esc e))) >>= fun e2 => pure (.nx, e2)) := rfl
@[simp] theorem ex_par (is : List (Nat × Bool)) (es : List TK.E) : ex Γ (.par is es) env = (evsP Γ (frz env (escs es)) (is.map (·.2)) es >>= fun ds => setAll is ds (frz env (escs es)) >>= fun e2 => pure (.nx, e2)) := rfl
@[simp] theorem evsP_nil : evsP Γ env [] [] = pure [] := rfl
@[simp] theorem evsP_cons (f : Bool) (fs : List Bool) (e : TK.E) (es : List TK.E) : evsP Γ env (f :: fs) (e :: es) = (ev Γ env e >>= fun d => if ownB f d then (evsP Γ env fs es >>= fun ds => pure (d :: ds)) else fail) := rfl
@[simp] theorem setAll_nil : setAll [] [] env = pure env := rfl
@[simp] theorem setAll_cons (i : Nat) (o : Bool) (r : List (Nat × Bool)) (d : D) (ds : List D) : setAll ((i, o) :: r) (d :: ds) env = (setS env i (if o then .own d else .val d) >>= fun e1 => setAll r ds e1) := rfl
@[simp] theorem setS_eq (i : Nat) (s : Slot) : setS env i s = if i < env.length then pure (env.set i s) else fail := rfl
@[simp] theorem ownL0 (l : List D) (r : Env) : ownL (.own (.list l) :: r) 0 = some l := rfl
@[simp] theorem ownLs (s : Slot) (r : Env) (i : Nat) : ownL (s :: r) (i + 1) = ownL r i := rfl
@[simp] theorem chainM_b (o : O2) (y : D) (z : D) (b : Bool) : chainM o y (pure z) (.bool b) = if b = true then liftO (app2 o y z) else pure (.bool false) := by cases b <;> rfl
@[simp] theorem app1_isN (d : D) : app1 .isN d = some (.bool (!notNone d)) := rfl
@[simp] theorem app1_isNN (d : D) : app1 .isNN d = some (.bool (notNone d)) := rfl
@[simp] theorem app1_any (l : List D) : app1 .any (.list l) = (boolsOf l).map fun bs => .bool (bs.any id) := rfl
@[simp] theorem app1_setLen (d : D) : app1 .setLen d = (seqOf d).bind fun l => (strsOf l).bind fun ss => if ss.length < 4000 then some (.int (nub ss).length) else none := rfl
@[simp] theorem app1_int_b (b : Bool) : app1 .int (.bool b) = some (.int (if b then 1 else 0)) := rfl
@[simp] theorem app1_tupleOf_t (l : List D) : app1 .tupleOf (.tuple l) = some (.tuple l) := rfl
@[simp] theorem app1_rev_t (l : List D) : app1 .rev (.tuple l) = some (.tuple l.reverse) := rfl
@[simp] theorem app1_rev_l (l : List D) : app1 .rev (.list l) = some (.list l.reverse) := rfl
@[simp] theorem app2_add_l (a b : List D) : app2 .add (.list a) (.list b) = if a.length + b.length ≤ lim then some (.list (a ++ b)) else none := rfl
@[simp] theorem app2_add_t (a b : List D) : app2 .add (.tuple a) (.tuple b) = if a.length + b.length ≤ lim then some (.tuple (a ++ b)) else none := rfl
@[simp] theorem app2_add_s (a b : Str) : app2 .add (.str a) (.str b) = if a.length + b.length ≤ lim then some (.str (a ++ b)) else none := rfl
theorem app2_in_l (x : D) (l : List D) : app2 .isin x (.list l) = if dep 60 x && l.all (dep 60) then some (.bool (l.any fun y => PyData.eqv y x)) else none := rfl
theorem app2_in_t (x : D) (l : List D) : app2 .isin x (.tuple l) = if dep 60 x && l.all (dep 60) then some (.bool (l.any fun y => PyData.eqv y x)) else none := rfl
theorem app2_notin_l (x : D) (l : List D) : app2 .notin x (.list l) = if dep 60 x && l.all (dep 60) then some (.bool (!l.any fun y => PyData.eqv y x)) else none := rfl
theorem app2_notin_t (x : D) (l : List D) : app2 .notin x (.tuple l) = if dep 60 x && l.all (dep 60) then some (.bool (!l.any fun y => PyData.eqv y x)) else none := rfl
@[simp] theorem app2_lt_i (i j : Int) : app2 .lt (.int i) (.int j) = some (.bool (decide (i < j))) := by
  show (ltD (.int i) (.int j)).map _ = _
  simp [ltD, PySem.W.alike, notNone, dep, PySem.W.dataLt, PySem.W.keyToks, PyProof.Rows.lexLt, PyProof.Rows.itemLt]
@[simp] theorem app2_ge_i (i j : Int) : app2 .ge (.int i) (.int j) = some (.bool (decide (j ≤ i))) := rfl
@[simp] theorem eqD_int (a b : Int) : eqD (.int a) (.int b) = some (decide (a = b)) := by
  show some (PyData.eqv (.int a) (.int b)) = _
  rw [PyData.eqv]; rfl
@[simp] theorem eqD_str (a b : Str) : eqD (.str a) (.str b) = some (decide (a = b)) := by
  show some (PyData.eqv (.str a) (.str b)) = _
  rw [PyData.eqv]; rfl
@[simp] theorem eqD_bool (a b : Bool) : eqD (.bool a) (.bool b) = some (decide (a = b)) := by
  show some (PyData.eqv (.bool a) (.bool b)) = _
  rw [PyData.eqv]; cases a <;> cases b <;> rfl
/-- a def that returns a call's answer or the name of an exception -/
theorem or_run {f : FnSem} {hs : List (Str × D)} {n : Nat} {es : List TK.E} {ds : List D} (hl : ds.length = n) (he : evs [f] (ds.map .val) es = pure ds) : run [f] ⟨n, n, [.tryR (.call 0 es) hs]⟩ ds = tryM (f ds) hs := by
  rw [run_eq (by exact hl)]
  show (exs [f] [.tryR (.call 0 es) hs] (ds.map .val ++ List.replicate (n - n) .no) >>= retM) = _
  simp [he]
  exact bind_pure' _
theorem or_throw {f : FnSem} {hs : List (Str × D)} {n : Nat} {es : List TK.E} {ds : List D} {c : Str} {d : D} (h : f ds = throwX c) (hl : ds.length = n) (he : evs [f] (ds.map .val) es = pure ds) (hc : hs.lookup c = some d) : run [f] ⟨n, n, [.tryR (.call 0 es) hs]⟩ ds = pure d := by
  rw [or_run hl he, h, try_throw, hc]
theorem or_ok {f : FnSem} {hs : List (Str × D)} {n : Nat} {es : List TK.E} {ds : List D} {d : D} (h : f ds = pure d) (hl : ds.length = n) (he : evs [f] (ds.map .val) es = pure ds) : run [f] ⟨n, n, [.tryR (.call 0 es) hs]⟩ ds = pure d := by
  rw [or_run hl he, h, try_pure]
theorem limv : lim = 16777216 := PySem.sizeLine_eq
@[simp] theorem typ_int_int (i : Int) : typ .int (.int i) = some true := rfl
@[simp] theorem typ_bool_int (i : Int) : typ .bool (.int i) = some false := rfl
@[simp] theorem typ_int_bool (i : Bool) : typ .int (.bool i) = some true := rfl
@[simp] theorem typ_bool_bool (i : Bool) : typ .bool (.bool i) = some true := rfl
end
end TK

/-! runs that draw -/
namespace TK
open PySem L2
section
variable {α β τ : Type} {x : M α} {f : α → M β} {c d e : Nat} {P : α → Prop} {Q : β → Prop}
/-- x ends well whatever the draws' list is, of which it grows by at most c, and Q holds of what it gives -/
def Wp (x : M α) (c : Nat) (Q : α → Prop) : Prop := ∀ st : DSt, st.length + c ≤ 10000000 → ∃ a st', x st = some (.ok a, st') ∧ Q a ∧ st'.length ≤ st.length + c
theorem Wp.pure {a : α} (h : P a) : Wp (pure a : M α) e P := fun st _ => ⟨a, st, rfl, h, by omega⟩
theorem Wp.mono {Q : α → Prop} (h : Wp x c P) (hc : c ≤ e) (hq : ∀ a, P a → Q a) : Wp x e Q := fun st hst => by
  obtain ⟨a, st', h1, h2, h3⟩ := h st (by omega)
  exact ⟨a, st', h1, hq a h2, by omega⟩
theorem Wp.of_eq {Q : α → Prop} {y : M α} (h : x = y) (hy : Wp y e Q) : Wp x e Q := h ▸ hy
theorem Wp.bindB (h : Wp x c P) (hc : c ≤ e) (k : ∀ a, P a → Wp (f a) (e - c) Q) : Wp (x >>= f) e Q := fun st hst => by
  obtain ⟨a, st', h1, h2, h3⟩ := h st (by omega)
  obtain ⟨b, st2, k1, k2, k3⟩ := k a h2 st' (by omega)
  exact ⟨b, st2, by rw [bind_eq h1]; exact k1, k2, by omega⟩
theorem Wp.of_runs {y : M D} {R : D → Prop} (h : Runs y R c) : Wp y c R := h
/-- a comprehension that draws -/
theorem Wp.compA {α : Type} {F : α → M (Option D)} {R : α → D → Prop} (c : Nat) : ∀ {l : List α}, (∀ a ∈ l, Wp (F a) c (fun o => ∃ d, o = some d ∧ R a d)) → Wp (TK.compA F l) (l.length * c) (fun ds => ds.length = l.length ∧ ∀ p ∈ l.zip ds, R p.1 p.2)
  | [], _ => .pure ⟨rfl, fun p hp => by simp at hp⟩
  | a :: l, h => by
    show Wp (F a >>= fun o => TK.compA F l >>= fun rest => Pure.pure (match o with | some x => x :: rest | none => rest)) _ _
    refine Wp.bindB (h a List.mem_cons_self) (by rw [List.length_cons, Nat.succ_mul]; omega) fun o ho => ?_
    obtain ⟨d, rfl, hd⟩ := ho
    refine Wp.bindB (Wp.compA c fun x hx => h x (List.mem_cons_of_mem _ hx)) (by rw [List.length_cons, Nat.succ_mul]; omega) fun ds hds => ?_
    refine .pure ⟨by rw [List.length_cons, List.length_cons, hds.1], fun p hp => ?_⟩
    rw [List.zip_cons_cons, List.mem_cons] at hp
    rcases hp with rfl | hp
    · exact hd
    · exact hds.2 p hp
theorem Wp.noX (h : Wp x c P) : Wp (TK.noX x) c P := fun st hst => by
  obtain ⟨a, st', h1, h2, h3⟩ := h st hst
  exact ⟨a, st', noX_ok h1, h2, h3⟩
/-- a loop that draws: an invariant of the slots, by what was walked -/
theorem Wp.forL {α : Type} {tg : Tg} {b : Env → M (Fl × Env)} {h : α → D} (I : List α → Env → Prop) (c : Nat) : ∀ (l : List α) {done : List α} {env : Env}, I done env →
    (∀ done a rest env, done ++ a :: rest = done ++ a :: rest → I done env → a ∈ l → ∃ env1, asgT tg (h a) env = some env1 ∧ Wp (b env1) c (fun r => r.1 = .nx ∧ I (done ++ [a]) r.2)) →
    Wp (TK.forL tg b (l.map h) env) (l.length * c) (fun r => r.1 = .nx ∧ I (done ++ l) r.2)
  | [], done, env, hi, _ => .pure ⟨rfl, by simpa using hi⟩
  | a :: l, done, env, hi, hs => by
    obtain ⟨env1, h1, h2⟩ := hs done a l env rfl hi List.mem_cons_self
    rw [List.map_cons, forL_cons, h1, liftO_some, pure_bind']
    refine Wp.bindB h2 (by rw [List.length_cons, Nat.succ_mul]; omega) fun r hr => ?_
    obtain ⟨fl, e2⟩ := r
    obtain ⟨rfl, hr⟩ := hr
    have ih := Wp.forL I c l hr fun done a rest env z hi ha => hs done a rest env z hi (List.mem_cons_of_mem _ ha)
    refine Wp.mono ih (by rw [List.length_cons, Nat.succ_mul]; omega) fun r hr => ⟨hr.1, by simpa using hr.2⟩
theorem Wp.forB {α : Type} {tg : Tg} {b : Env → M (Fl × Env)} {h : α → D} {k : Fl × Env → M β} (l : List α) (I : List α → Env → Prop) (c : Nat) {env : Env} (hi : I [] env) (hc : l.length * c ≤ e)
    (hs : ∀ done a rest, l = done ++ a :: rest → ∀ env, I done env → ∃ env1, asgT tg (h a) env = some env1 ∧ Wp (b env1) c (fun r => r.1 = .nx ∧ I (done ++ [a]) r.2))
    (hk : ∀ env, I l env → Wp (k (.nx, env)) (e - l.length * c) Q) : Wp (TK.forL tg b (l.map h) env >>= k) e Q := by
  have key : ∀ (r done : List α) (env : Env), l = done ++ r → I done env → Wp (TK.forL tg b (r.map h) env) (r.length * c) (fun q => q.1 = .nx ∧ I l q.2) := by
    intro r
    induction r with
    | nil => exact fun done env e1 hi => .pure ⟨rfl, by rw [e1, List.append_nil]; exact hi⟩
    | cons a r ih =>
      intro done env e1 hi
      obtain ⟨env1, h1, h2⟩ := hs done a r e1 env hi
      rw [List.map_cons, forL_cons, h1, liftO_some, pure_bind']
      refine Wp.bindB h2 (by rw [List.length_cons, Nat.succ_mul]; omega) fun q hq => ?_
      obtain ⟨fl, e2⟩ := q
      obtain ⟨rfl, hq⟩ := hq
      exact Wp.mono (ih (done ++ [a]) e2 (by rw [e1]; simp) hq) (by rw [List.length_cons, Nat.succ_mul]; omega) fun _ z => z
  refine Wp.bindB (key l [] env rfl hi) hc fun q hq => ?_
  obtain ⟨fl, e2⟩ := q
  obtain ⟨rfl, hq⟩ := hq
  exact hk e2 hq
/-- the same where nothing but the shape of the slots is kept -/
theorem Wp.forI {α : Type} {tg : Tg} {b : Env → M (Fl × Env)} {h : α → D} {k : Fl × Env → M β} (l : List α) (I : Env → Prop) (c : Nat) {env : Env} (hi : I env) (hc : l.length * c ≤ e)
    (hs : ∀ a ∈ l, ∀ env, I env → ∃ env1, asgT tg (h a) env = some env1 ∧ Wp (b env1) c (fun r => r.1 = .nx ∧ I r.2))
    (hk : ∀ env, I env → Wp (k (.nx, env)) (e - l.length * c) Q) : Wp (TK.forL tg b (l.map h) env >>= k) e Q :=
  Wp.forB l (fun _ env => I env) c hi hc (fun done a rest el env hi => hs a (by rw [el]; simp) env hi) hk
theorem Wp.compFB {α : Type} {F : D → M (Option D)} {h : α → D} {l : List α} {k : List D → M β} (p : α → Bool) (g : α → D) (hF : ∀ a ∈ l, F (h a) = Pure.pure (if p a = true then some (g a) else none)) (hk : Wp (k ((l.filter p).map g)) e Q) : Wp (TK.noX (compL F (l.map h)) >>= k) e Q := by
  rw [comp_filter p g hF]; exact hk
theorem Wp.compMB {α : Type} {F : D → M (Option D)} {h : α → D} {l : List α} {k : List D → M β} (g : α → D) (hF : ∀ a ∈ l, F (h a) = Pure.pure (some (g a))) (hk : Wp (k (l.map g)) e Q) : Wp (TK.noX (compL F (l.map h)) >>= k) e Q := by
  rw [comp_map g hF]; exact hk
/-- a loop that draws and may return -/
theorem Wp.forR {α : Type} {tg : Tg} {b : Env → M (Fl × Env)} {h : α → D} {k : Fl × Env → M β} (l : List α) (I : Env → Prop) (V : D → Prop) (c : Nat) {env : Env} (hi : I env) (hc : l.length * c ≤ e)
    (hs : ∀ a ∈ l, ∀ env, I env → ∃ env1, asgT tg (h a) env = some env1 ∧ Wp (b env1) c (fun r => (r.1 = .nx ∧ I r.2) ∨ ∃ v, r.1 = .rt v ∧ V v))
    (hk : ∀ env, I env → Wp (k (.nx, env)) (e - l.length * c) Q) (hr : ∀ v env, V v → Wp (k (.rt v, env)) (e - l.length * c) Q) : Wp (TK.forL tg b (l.map h) env >>= k) e Q := by
  have key : ∀ (r : List α), (∀ a ∈ r, a ∈ l) → ∀ env, I env → Wp (TK.forL tg b (r.map h) env) (r.length * c) (fun q => (q.1 = .nx ∧ I q.2) ∨ ∃ v, q.1 = .rt v ∧ V v) := by
    intro r
    induction r with
    | nil => exact fun _ env hi => .pure (.inl ⟨rfl, hi⟩)
    | cons a r ih =>
      intro hm env hi
      obtain ⟨env1, h1, h2⟩ := hs a (hm a List.mem_cons_self) env hi
      rw [List.map_cons, forL_cons, h1, liftO_some, pure_bind']
      refine Wp.bindB h2 (by rw [List.length_cons, Nat.succ_mul]; omega) fun q hq => ?_
      obtain ⟨fl, e2⟩ := q
      rcases hq with ⟨rfl, hq⟩ | ⟨v, rfl, hv⟩
      · exact Wp.mono (ih (fun x hx => hm x (List.mem_cons_of_mem _ hx)) e2 hq) (by rw [List.length_cons, Nat.succ_mul]; omega) fun _ z => z
      · exact .pure (.inr ⟨v, rfl, hv⟩)
  refine Wp.bindB (key l (fun _ h => h) env hi) hc fun q hq => ?_
  obtain ⟨fl, e2⟩ := q
  rcases hq with ⟨rfl, hq⟩ | ⟨v, rfl, hv⟩
  · exact hk e2 hq
  · exact hr v e2 hv
end
namespace P
variable {ns : List Int} {e : Nat}
theorem draw_wp (hns : ns.length ≤ 63) {many : Int} (hm : 0 < many) : Wp (f__law_draw [scr ns, tok, .int many]) 2 (fun d => ∃ v, d = .int v ∧ 0 ≤ v ∧ v < many) := draw_runs ns (by omega) hm
theorem pick_wp (hns : ns.length ≤ 63) {l : List D} (hl : l ≠ []) : Wp (f__law_pick [scr ns, tok, .list l]) 2 (fun d => d ∈ l) := pick_runs ns (by omega) hl
theorem shuf_wp (hns : ns.length ≤ 63) {l : List D} (hl : l.length ≤ 1000) : Wp (f__law_shuffled [scr ns, tok, .list l]) (2 * l.length) (fun d => ∃ r, d = .list r ∧ r.Perm l) := shuf_runs ns (by omega) hl
end P
end TK

namespace TK.P
open PySem TK
def isLow (c : Nat) : Bool := decide (97 ≤ c ∧ c ≤ 122)
def isWordS (s : Str) : Bool := decide (1 ≤ s.length ∧ s.length ≤ 4) && s.cps.toList.all isLow
theorem a_le (c : Nat) : strLe "a" ⟨#[c]⟩ = decide (97 ≤ c) := by
  have : (("a" : Str).cps.toList) = [97] := by decide +kernel
  unfold strLe
  rw [this]
  show (!decide ([c] < [97])) = _
  simp [List.cons_lt_cons_iff]
  by_cases h : c < 97
  · simp [h]
  · simp [h]; omega
theorem le_z (c : Nat) : strLe ⟨#[c]⟩ "z" = decide (c ≤ 122) := by
  have : (("z" : Str).cps.toList) = [122] := by decide +kernel
  unfold strLe
  rw [this]
  show (!decide ([122] < [c])) = _
  simp [List.cons_lt_cons_iff]
  by_cases h : 122 < c
  · simp [h]
  · simp [h]; omega
theorem is_word_str (s : Str) (st : DSt) (hs : s.length ≤ lim) : f_is_word [.str s] st = some (.ok (.bool (isWordS s)), st) := by
  unfold f_is_word
  rw [run_ap rfl]
  by_cases h1 : 1 ≤ s.length ∧ s.length ≤ 4
  · have e1 : decide ((1 : Int) ≤ (s.length : Int)) = true := decide_eq_true (by omega)
    have e2 : decide ((s.length : Int) ≤ 4) = true := decide_eq_true (by omega)
    have k2 : noX (compL (compF [] [Slot.val (PyData.str s), Slot.no] [1] (.n 1) [] (.chain .le .le (.con (.str "a")) (.var 1) (.con (.str "z")))) (chars s)) st = some (.ok (s.cps.toList.map fun c => .bool (isLow c)), st) := by
      refine noX_ok (compL_mapc fun c _ => ?_)
      by_cases hc : 97 ≤ c
      · simp [compF, wipeE, a_le, le_z, hc, isLow]
      · simp [compF, wipeE, a_le, le_z, hc, isLow]
    simp [b_is_word, hs, e1, e2, esc, escB, escsB, escs, k2, boolsOf_map, isWordS, h1]
  · have hw : isWordS s = false := by unfold isWordS; rw [decide_eq_false h1]; rfl
    rw [hw]
    by_cases h2 : 1 ≤ s.length
    · have e1 : decide ((1 : Int) ≤ (s.length : Int)) = true := decide_eq_true (by omega)
      have e2 : decide ((s.length : Int) ≤ 4) = false := decide_eq_false (by omega)
      simp [b_is_word, hs, e1, e2, esc]
    · have e1 : decide ((1 : Int) ≤ (s.length : Int)) = false := decide_eq_false (by omega)
      simp [b_is_word, hs, e1, esc]
/-- data as they are drawn: no dict, short texts -/
def nice : Nat → D → Bool
  | _, .none => true
  | _, .bool _ => true
  | _, .int _ => true
  | _, .str s => decide (s.length ≤ 1000)
  | 0, .list _ => false
  | 0, .tuple _ => false
  | n + 1, .list l => decide (l.length ≤ 1000) && l.all (nice n)
  | n + 1, .tuple l => decide (l.length ≤ 1000) && l.all (nice n)
  | _, .dict _ => false
theorem lim_ge : 1000 ≤ lim := by decide
def isWord : D → Bool
  | .str s => isWordS s
  | _ => false
theorem is_word_eq {n : Nat} {d : D} (h : nice n d = true) (st : DSt) : f_is_word [d] st = some (.ok (.bool (isWord d)), st) := by
  cases d with
  | str s =>
    have : s.length ≤ 1000 := by cases n <;> simpa [nice] using h
    exact is_word_str s st (Nat.le_trans this lim_ge)
  | dict l => cases n <;> cases h
  | _ =>
    unfold f_is_word
    rw [run_ap rfl]
    simp [b_is_word, typ, esc, isWord]
theorem dep_chars (l : List Nat) : (l.map fun c => (PyData.str ⟨#[c]⟩)).all (dep 59) = true := by
  rw [List.all_eq_true]
  intro x hx
  rw [List.mem_map] at hx
  obtain ⟨c, _, rfl⟩ := hx
  rfl
theorem eqv_nil (l : List D) : PyData.eqv (.list l) (.list []) = l.isEmpty := by
  cases l <;> simp [PyData.eqv, PyData.eqvAll]
theorem law_is_word_eq {n : Nat} {d : D} (h : nice n d = true) (st : DSt) : f__law_is_word [d] st = some (.ok (.bool (isWord d)), st) := by
  cases d with
  | str s =>
    have hs1 : s.length ≤ 1000 := by cases n <;> simpa [nice] using h
    have hs := Nat.le_trans hs1 lim_ge
    have hres : (.bool (isWord (.str s)) : D) = .bool (isWordS s) := rfl
    rw [hres]
    unfold f__law_is_word
    rw [run_ap rfl]
    by_cases h1 : 1 ≤ s.length ∧ s.length ≤ 4
    · have e1 : decide ((1 : Int) ≤ (s.length : Int)) = true := decide_eq_true (by omega)
      have e2 : decide ((s.length : Int) ≤ 4) = true := decide_eq_true (by omega)
      have k2 : noX (compL (compF [] [Slot.val (PyData.str s), Slot.no] [1] (.n 1) [.op1 .not (.chain .le .le (.con (.str "a")) (.var 1) (.con (.str "z")))] (.var 1)) (chars s)) st = some (.ok (s.cps.toList.filterMap fun c => if isLow c then none else some (.str ⟨#[c]⟩)), st) := by
        refine noX_ok (compL_fmc fun c _ => ?_)
        by_cases hc : 97 ≤ c
        · by_cases hd : c ≤ 122
          · simp [compF, wipeE, a_le, le_z, hc, hd, isLow]
          · simp [compF, wipeE, a_le, le_z, hc, hd, isLow]
        · simp [compF, wipeE, a_le, le_z, hc, isLow]
      have k3 : eqD (.list (s.cps.toList.filterMap fun c => if isLow c then none else some (.str ⟨#[c]⟩))) (.list []) = some (s.cps.toList.all isLow) := by
        unfold eqD
        rw [if_pos, eqv_nil]
        · congr 1
          induction s.cps.toList with
          | nil => rfl
          | cons c l ih =>
            by_cases hc : isLow c = true
            · simp [hc, ih]
            · simp [hc]
        · rw [Bool.and_eq_true]
          refine ⟨?_, rfl⟩
          show List.all _ (dep 59) = true
          rw [List.all_eq_true]
          intro x hx
          rw [List.mem_filterMap] at hx
          obtain ⟨c, _, hc⟩ := hx
          split at hc
          · cases hc
          · cases hc; rfl
      simp [b__law_is_word, hs, e1, e2, esc, escB, escsB, escs, k2, k3, isWordS, h1]
    · have hw : isWordS s = false := by unfold isWordS; rw [decide_eq_false h1]; rfl
      rw [hw]
      by_cases h2 : 1 ≤ s.length
      · have e1 : decide ((1 : Int) ≤ (s.length : Int)) = true := decide_eq_true (by omega)
        have e2 : decide ((s.length : Int) ≤ 4) = false := decide_eq_false (by omega)
        simp [b__law_is_word, hs, e1, e2, esc]
      · have e1 : decide ((1 : Int) ≤ (s.length : Int)) = false := decide_eq_false (by omega)
        simp [b__law_is_word, hs, e1, esc]
  | dict l => cases n <;> cases h
  | _ =>
    unfold f__law_is_word
    rw [run_ap rfl]
    simp [b__law_is_word, typ, esc, isWord]
theorem asc_tup (ss : List Str) (st : DSt) : f_is_ascending [.tuple (ss.map .str)] st = some (.ok (.bool (ascS ss)), st) := by
  unfold f_is_ascending
  rw [run_ap rfl]
  have k2 : noX (compL (compF [] [Slot.val (PyData.tuple (ss.map .str)), Slot.no, Slot.no] [1, 2] (.t [.n 1, .n 2]) [] (.op2 .lt (.var 1) (.var 2))) ((ss.zip (ss.drop 1)).map fun p => .tuple [.str p.1, .str p.2])) st = some (.ok ((ss.zip (ss.drop 1)).map fun p => .bool (ltS p.1 p.2)), st) := by
    refine noX_ok (compL_mapc fun p _ => ?_)
    simp [compF, wipeE, ltD_str]
  have k3 := zip_strs ss (ss.drop 1)
  rw [List.map_drop] at k3
  simp [-List.drop_one, b_is_ascending, esc, escB, escsB, escs, esco, cut1, k3, k2, boolsOf_map, asc_zip']
theorem asc_lst (ss : List Str) (st : DSt) : f_is_ascending [.list (ss.map .str)] st = some (.ok (.bool (ascS ss)), st) := by
  unfold f_is_ascending
  rw [run_ap rfl]
  have k2 : noX (compL (compF [] [Slot.val (PyData.list (ss.map .str)), Slot.no, Slot.no] [1, 2] (.t [.n 1, .n 2]) [] (.op2 .lt (.var 1) (.var 2))) ((ss.zip (ss.drop 1)).map fun p => .tuple [.str p.1, .str p.2])) st = some (.ok ((ss.zip (ss.drop 1)).map fun p => .bool (ltS p.1 p.2)), st) := by
    refine noX_ok (compL_mapc fun p _ => ?_)
    simp [compF, wipeE, ltD_str]
  have k3 := zip_strs ss (ss.drop 1)
  rw [List.map_drop] at k3
  simp [-List.drop_one, b_is_ascending, esc, escB, escsB, escs, esco, cut1, k3, k2, boolsOf_map, asc_zip']
theorem words_of : ∀ {l : List D}, l.all isWord = true → ∃ ss : List Str, l = ss.map .str
  | [], _ => ⟨[], rfl⟩
  | d :: l, h => by
    rw [List.all_cons, Bool.and_eq_true] at h
    obtain ⟨ss, rfl⟩ := words_of h.2
    cases d with
    | str s => exact ⟨s :: ss, rfl⟩
    | _ => cases h.1
def txts : List D → List Str
  | .str s :: r => s :: txts r
  | _ :: r => txts r
  | [] => []
theorem txts_map : ∀ l : List Str, txts (l.map .str) = l
  | [] => rfl
  | a :: l => by rw [List.map_cons, txts, txts_map l]
def areKeys : D → Bool
  | .tuple l => decide (l.length ≤ 6) && l.all isWord && ascS (txts l)
  | _ => false
theorem nice_tup {n : Nat} {l : List D} (h : nice n (.tuple l) = true) : ∃ m, n = m + 1 ∧ l.length ≤ 1000 ∧ ∀ d ∈ l, nice m d = true := by
  cases n with
  | zero => cases h
  | succ m =>
    simp only [nice, Bool.and_eq_true, decide_eq_true_eq, List.all_eq_true] at h
    exact ⟨m, rfl, h.1, h.2⟩
theorem are_keys_eq {n : Nat} {d : D} (h : nice n d = true) (st : DSt) : f_are_keys [d] st = some (.ok (.bool (areKeys d)), st) := by
  cases d with
  | tuple l =>
    obtain ⟨m, rfl, _, hl⟩ := nice_tup h
    unfold f_are_keys
    rw [run_ap rfl]
    have k2 : noX (compL (compF [f_is_word, f_is_ascending] [Slot.val (PyData.tuple l), Slot.no] [1] (.n 1) [] (.call 0 [.var 1])) l) st = some (.ok (l.map fun d => .bool (isWord d)), st) := by
      refine noX_ok (compL_map fun d hd => ?_)
      simp [compF, wipeE, is_word_eq (hl d hd) st]
    by_cases h6 : l.length ≤ 6
    · have e1 : decide ((6 : Int) < (l.length : Int)) = false := decide_eq_false (by omega)
      cases hw : l.all isWord with
      | false =>
        have hw' : (l.map isWord).all id = false := by rw [List.all_map]; exact hw
        simp [b_are_keys, esc, escs, e1, k2, boolsOf_map, hw, areKeys]
      | true =>
        obtain ⟨ss, hss⟩ := words_of hw
        have ha : f_is_ascending [.tuple l] st = some (.ok (.bool (ascS (txts l))), st) := by rw [hss, asc_tup, txts_map]
        simp [b_are_keys, esc, escs, e1, k2, boolsOf_map, hw, areKeys, ha, h6]
    · have e1 : decide ((6 : Int) < (l.length : Int)) = true := decide_eq_true (by omega)
      simp [b_are_keys, esc, e1, areKeys, h6]
  | dict l => cases n <;> cases h
  | _ =>
    unfold f_are_keys
    rw [run_ap rfl]
    simp [b_are_keys, typ, esc, areKeys]
theorem empty_words (l : List D) : (l.filterMap fun d => if isWord d then none else some d).isEmpty = l.all isWord := by
  induction l with
  | nil => rfl
  | cons d l ih =>
    cases hw : isWord d with
    | true =>
      rw [List.filterMap_cons_none (by rw [hw]; rfl), List.all_cons, hw, ih]
      rfl
    | false =>
      rw [List.filterMap_cons_some (b := d) (by rw [hw]; rfl), List.all_cons, hw]
      rfl
theorem law_are_keys_eq {n : Nat} {d : D} (h : nice n d = true) (st : DSt) : f__law_are_keys [d] st = some (.ok (.bool (areKeys d)), st) := by
  cases d with
  | tuple l =>
    obtain ⟨m, rfl, _, hl⟩ := nice_tup h
    unfold f__law_are_keys
    rw [run_ap rfl]
    have k2 : noX (compL (compF [f__law_is_word] [Slot.val (PyData.tuple l), Slot.no] [1] (.n 1) [.op1 .not (.call 0 [.var 1])] (.var 1)) l) st = some (.ok (l.filterMap fun d => if isWord d then none else some d), st) := by
      refine noX_ok (compL_fm fun d hd => ?_)
      cases hw : isWord d with
      | true => simp [compF, wipeE, law_is_word_eq (hl d hd) st, hw]
      | false => simp [compF, wipeE, law_is_word_eq (hl d hd) st, hw]
    have k3 := empty_words l
    generalize (l.filterMap fun d => if isWord d then none else some d) = fl at k2 k3
    by_cases h6 : l.length ≤ 6
    · have e1 : decide ((6 : Int) < (l.length : Int)) = false := decide_eq_false (by omega)
      have e2 : ¬ ((6 : Int) < (l.length : Int)) := by omega
      cases hw : l.all isWord with
      | false =>
        rw [hw] at k3
        have k5 : fl ≠ [] := fun e => by rw [e] at k3; cases k3
        simp [b__law_are_keys, esc, escs, escsB, e1, e2, k2, k3, k5, hw, areKeys]
      | true =>
        rw [hw] at k3
        have k5 : fl = [] := List.isEmpty_iff.mp k3
        obtain ⟨ss, hss⟩ := words_of hw
        have hlen : ss.length < 4000 := by rw [hss, List.length_map] at h6; omega
        have hs : strsOf l = some ss := by rw [hss, strsOf_map]
        have k4 : eqD (.list l) (.list ((sortS (nub ss)).map .str)) = some (ascS (txts l)) := by
          rw [hss, txts_map]
          unfold eqD
          rw [if_pos (by rw [dep_strs, dep_strs]; rfl), eqv_strs]
          congr 1
          rw [Bool.eq_iff_iff, decide_eq_true_eq]
          exact asc_iff.symm
        simp [b__law_are_keys, esc, escs, escsB, escB, e1, e2, k2, k3, k5, hw, areKeys, h6, hs, hlen, k4]
    · have e1 : decide ((6 : Int) < (l.length : Int)) = true := decide_eq_true (by omega)
      have e2 : (6 : Int) < (l.length : Int) := by omega
      simp [b__law_are_keys, esc, e1, e2, areKeys, h6]
  | dict l => cases n <;> cases h
  | _ =>
    unfold f__law_are_keys
    rw [run_ap rfl]
    simp [b__law_are_keys, typ, esc, areKeys]
def isLock : D → Bool
  | .tuple [a, b, c] => isWord a && areKeys b && areKeys c
  | _ => false
theorem is_lock_eq {n : Nat} {d : D} (h : nice n d = true) (st : DSt) : f_is_lock [d] st = some (.ok (.bool (isLock d)), st) := by
  cases d with
  | tuple l =>
    obtain ⟨m, rfl, _, hl⟩ := nice_tup h
    unfold f_is_lock
    rw [run_ap rfl]
    match l, hl with
    | [a, b, c], hl =>
      have ha := hl a (by simp)
      have hb := hl b (by simp)
      have hc := hl c (by simp)
      have e3 : eqD (.int 3) (.int 3) = some true := by decide
      cases hw : isWord a with
      | false => simp [b_is_lock, esc, escs, escB, isLock, e3, L2.atI, L2.ixN, is_word_eq ha, hw]
      | true =>
        cases hk : areKeys b with
        | false => simp [b_is_lock, esc, escs, escB, isLock, e3, L2.atI, L2.ixN, is_word_eq ha, are_keys_eq hb, hw, hk]
        | true => simp [b_is_lock, esc, escs, escB, isLock, e3, L2.atI, L2.ixN, is_word_eq ha, are_keys_eq hb, are_keys_eq hc, hw, hk]
    | [], _ => 
      have e3 : eqD (.int 0) (.int 3) = some false := by decide
      simp [b_is_lock, esc, isLock, e3]
    | [a], _ => 
      have e3 : eqD (.int 1) (.int 3) = some false := by decide
      simp [b_is_lock, esc, isLock, e3]
    | [a, b], _ => 
      have e3 : eqD (.int 2) (.int 3) = some false := by decide
      simp [b_is_lock, esc, isLock, e3]
    | a :: b :: c :: d :: r, _ => 
      have e3 : eqD (.int ((r.length : Int) + 1 + 1 + 1 + 1)) (.int 3) = some false := by
        have : ((r.length : Int) + 1 + 1 + 1 + 1 == 3) = false := by simp; omega
        simp [eqD, dep, PyData.eqv, this]
      simp [b_is_lock, esc, isLock, e3]
  | dict l => cases n <;> cases h
  | _ =>
    unfold f_is_lock
    rw [run_ap rfl]
    simp [b_is_lock, typ, esc, isLock]
end TK.P

namespace TK.P
open PySem TK
def nameOf : D → Str
  | .tuple (.str s :: _) => s
  | _ => ⟨#[]⟩
def isPlant : D → Bool
  | .tuple l => decide (1 ≤ l.length ∧ l.length ≤ 8) && l.all isLock && ascS (l.map nameOf)
  | _ => false
theorem lock_form {d : D} (h : isLock d = true) : ∃ b c, d = .tuple [.str (nameOf d), b, c] := by
  unfold isLock at h
  split at h
  · rename_i a b c
    simp only [Bool.and_eq_true] at h
    cases a with
    | str s => exact ⟨b, c, rfl⟩
    | _ => cases h.1.1
  · cases h
theorem is_plant_eq {n : Nat} {d : D} (h : nice n d = true) (st : DSt) : f_is_plant [d] st = some (.ok (.bool (isPlant d)), st) := by
  cases d with
  | tuple l =>
    obtain ⟨m, rfl, _, hl⟩ := nice_tup h
    unfold f_is_plant
    rw [run_ap rfl]
    have k2 : noX (compL (compF [f_is_lock, f_is_ascending] [Slot.val (PyData.tuple l), Slot.no] [1] (.n 1) [] (.call 0 [.var 1])) l) st = some (.ok (l.map fun d => .bool (isLock d)), st) := by
      refine noX_ok (compL_map fun d hd => ?_)
      simp [compF, wipeE, is_lock_eq (hl d hd) st]
    by_cases h1 : 1 ≤ l.length ∧ l.length ≤ 8
    · have e1 : (1 : Int) ≤ (l.length : Int) := by omega
      have e2 : (l.length : Int) ≤ 8 := by omega
      cases hw : l.all isLock with
      | false => simp [b_is_plant, esc, escs, escB, escsB, e1, e2, k2, boolsOf_map, hw, isPlant]
      | true =>
        have k3 : noX (compL (compF [f_is_lock, f_is_ascending] [Slot.val (PyData.tuple l), Slot.no] [1] (.n 1) [] (.op2 .ix (.var 1) (.con (.int 0)))) l) st = some (.ok ((l.map nameOf).map .str), st) := by
          rw [List.map_map]
          refine noX_ok (compL_map fun d hd => ?_)
          obtain ⟨b, c, e⟩ := lock_form (List.all_eq_true.mp hw d hd)
          generalize hz : nameOf d = z at e
          subst e
          simp [compF, wipeE, L2.atI, L2.ixN, nameOf]
        simp [-List.map_map, b_is_plant, esc, escs, escB, escsB, e1, e2, k2, k3, boolsOf_map, hw, isPlant, asc_lst, h1]
    · have hp : isPlant (.tuple l) = false := by
        show (decide (1 ≤ l.length ∧ l.length ≤ 8) && l.all isLock && ascS (l.map nameOf)) = false
        rw [decide_eq_false h1]; rfl
      rw [hp]
      by_cases h2 : 1 ≤ l.length
      · have e1 : (1 : Int) ≤ (l.length : Int) := by omega
        have e2 : ¬ (l.length : Int) ≤ 8 := by omega
        simp [b_is_plant, e1, e2, esc]
      · have e1 : ¬ (1 : Int) ≤ (l.length : Int) := by omega
        simp [b_is_plant, e1, esc]
  | dict l => cases n <;> cases h
  | _ =>
    unfold f_is_plant
    rw [run_ap rfl]
    simp [b_is_plant, typ, esc, isPlant]
theorem law_is_plant_eq {n : Nat} {d : D} (h : nice n d = true) (st : DSt) : f__law_is_plant [d] st = some (.ok (.bool (isPlant d)), st) := by
  cases d with
  | tuple l =>
    obtain ⟨m, rfl, _, hl⟩ := nice_tup h
    unfold f__law_is_plant
    rw [run_ap rfl]
    by_cases h1 : 1 ≤ l.length ∧ l.length ≤ 8
    · have e1 : (1 : Int) ≤ (l.length : Int) := by omega
      have e2 : (l.length : Int) ≤ 8 := by omega
      obtain ⟨env2, ⟨s2, rfl⟩, k2⟩ := forL_check (st := st) (tg := .n 1) (b := exs [f__law_is_word, f__law_are_keys] [.ite (.or (.op1 .not (.op1 (.isi .tuple) (.var 1))) (.or (.op2 .ne (.op1 .len (.var 1)) (.con (.int 3))) (.op1 .not (.call 0 [.op2 .ix (.var 1) (.con (.int 0))])))) [.ret (.con (.bool false))] [],
          .ite (.or (.op1 .not (.call 1 [.op2 .ix (.var 1) (.con (.int 1))])) (.op1 .not (.call 1 [.op2 .ix (.var 1) (.con (.int 2))]))) [.ret (.con (.bool false))] []])
        (p := isLock) (r := .bool false) (I := fun env => ∃ s, env = [Slot.val (PyData.tuple l), s, Slot.no]) (l := l) (env := [Slot.val (PyData.tuple l), Slot.no, Slot.no]) ⟨_, rfl⟩ (fun d hd env henv => by
          obtain ⟨s0, rfl⟩ := henv
          have hn := hl d hd
          refine ⟨[Slot.val (PyData.tuple l), Slot.val d, Slot.no], by simp, ⟨_, rfl⟩, ?_⟩
          cases d with
          | tuple r =>
            obtain ⟨m2, rfl, _, hr⟩ := nice_tup hn
            match r, hr with
            | [a, b, c], hr =>
              have ha := hr a (by simp)
              have hb := hr b (by simp)
              have hc := hr c (by simp)
              have e3 : eqD (.int 3) (.int 3) = some true := by decide
              cases hw : isWord a with
              | false => simp [esc, escs, escB, isLock, e3, L2.atI, L2.ixN, law_is_word_eq ha, hw]
              | true =>
                cases hk : areKeys b with
                | false => simp [esc, escs, escB, isLock, e3, L2.atI, L2.ixN, law_is_word_eq ha, law_are_keys_eq hb, hw, hk]
                | true =>
                  cases hk2 : areKeys c with
                  | false => simp [esc, escs, escB, isLock, e3, L2.atI, L2.ixN, law_is_word_eq ha, law_are_keys_eq hb, law_are_keys_eq hc, hw, hk, hk2]
                  | true => simp [esc, escs, escB, isLock, e3, L2.atI, L2.ixN, law_is_word_eq ha, law_are_keys_eq hb, law_are_keys_eq hc, hw, hk, hk2]
            | [], _ =>
              have e3 : eqD (.int 0) (.int 3) = some false := by decide
              simp [esc, isLock, e3]
            | [a], _ =>
              have e3 : eqD (.int 1) (.int 3) = some false := by decide
              simp [esc, isLock, e3]
            | [a, b], _ =>
              have e3 : eqD (.int 2) (.int 3) = some false := by decide
              simp [esc, isLock, e3]
            | a :: b :: c :: d :: r, _ =>
              have e3 : eqD (.int ((r.length : Int) + 1 + 1 + 1 + 1)) (.int 3) = some false := by
                have : ((r.length : Int) + 1 + 1 + 1 + 1 == 3) = false := by simp; omega
                simp [eqD, dep, PyData.eqv, this]
              simp [esc, isLock, e3]
          | dict r => cases m <;> cases hn
          | _ => simp [typ, esc, isLock])
      cases hw : l.all isLock with
      | false =>
        rw [hw] at k2
        have k2 : forL _ _ l _ st = some (.ok (.rt (.bool false), _), st) := k2
        simp [b__law_is_plant, esc, escs, e1, e2, k2, hw, isPlant]
      | true =>
        rw [hw] at k2
        have k2 : forL _ _ l _ st = some (.ok (.nx, _), st) := k2
        have k3 : noX (compL (compF [f__law_is_word, f__law_are_keys] [Slot.val (PyData.tuple l), s2, Slot.no] [1] (.n 1) [] (.op2 .ix (.var 1) (.con (.int 0)))) l) st = some (.ok ((l.map nameOf).map .str), st) := by
          rw [List.map_map]
          refine noX_ok (compL_map fun d hd => ?_)
          obtain ⟨b, c, e⟩ := lock_form (List.all_eq_true.mp hw d hd)
          generalize hz : nameOf d = z at e
          subst e
          simp [compF, wipeE, L2.atI, L2.ixN, nameOf]
        have k4 : eqD (.list ((l.map nameOf).map .str)) (.list ((sortS (nub (l.map nameOf))).map .str)) = some (ascS (l.map nameOf)) := by
          unfold eqD
          rw [if_pos (by rw [dep_strs, dep_strs]; rfl), eqv_strs]
          congr 1
          rw [Bool.eq_iff_iff, decide_eq_true_eq]
          exact asc_iff.symm
        have hlen : (l.map nameOf).length < 4000 := by rw [List.length_map]; omega
        generalize hnm : l.map nameOf = nm at k3 k4 hlen
        simp [-List.map_map, b__law_is_plant, esc, escs, escsB, escB, e1, e2, k2, k3, hw, isPlant, h1, setS, strsOf_map, hlen, k4, hnm]
    · have hp : isPlant (.tuple l) = false := by
        show (decide (1 ≤ l.length ∧ l.length ≤ 8) && l.all isLock && ascS (l.map nameOf)) = false
        rw [decide_eq_false h1]; rfl
      rw [hp]
      by_cases h2 : 1 ≤ l.length
      · have e1 : (1 : Int) ≤ (l.length : Int) := by omega
        have e2 : ¬ (l.length : Int) ≤ 8 := by omega
        simp [b__law_is_plant, e1, e2, esc]
      · have e1 : ¬ (1 : Int) ≤ (l.length : Int) := by omega
        simp [b__law_is_plant, e1, esc]
  | dict l => cases n <;> cases h
  | _ =>
    unfold f__law_is_plant
    rw [run_ap rfl]
    simp [b__law_is_plant, typ, esc, isPlant]
end TK.P

/-! plants as they are drawn -/
namespace TK.P
open PySem TK L2
abbrev Lock := Str × List Str × List Str
def lockD (l : Lock) : D := .tuple [.str l.1, .tuple (l.2.1.map .str), .tuple (l.2.2.map .str)]
def plantD (p : List Lock) : D := .tuple (p.map lockD)
def bit (b : Bool) : Int := if b then 1 else 0
def bD (b : Bool) : D := .int (bit b)
def rowD (r : List Bool) : D := .tuple (r.map bD)
/-! slices -/
theorem cut_hi {α : Type} (l : List α) (k : Nat) : cut l none (some (k : Int)) = l.take k := by
  unfold cut
  rw [HT.sIx_none, HT.sIx_nat, Nat.sub_zero, List.drop_zero]
  by_cases h : k ≤ l.length
  · rw [Nat.min_eq_left h]
  · rw [Nat.min_eq_right (by omega), List.take_of_length_le (Nat.le_refl _), List.take_of_length_le (by omega)]
theorem cut_lo {α : Type} (l : List α) (k : Nat) : cut l (some (k : Int)) none = l.drop k := by
  unfold cut
  rw [HT.sIx_none, HT.sIx_nat]
  by_cases h : k ≤ l.length
  · rw [Nat.min_eq_left h, List.take_of_length_le (by rw [List.length_drop]; omega)]
  · rw [Nat.min_eq_right (by omega), List.drop_of_length_le (by omega), List.drop_of_length_le (by omega)]; simp
theorem cut_hiI {α : Type} (l : List α) {v : Int} (h : 0 ≤ v) : cut l none (some v) = l.take v.toNat := by
  have := cut_hi l v.toNat
  rwa [Int.toNat_of_nonneg h] at this
theorem cut_loI {α : Type} (l : List α) {v : Int} (h : 0 ≤ v) : cut l (some v) none = l.drop v.toNat := by
  have := cut_lo l v.toNat
  rwa [Int.toNat_of_nonneg h] at this
theorem cut_last {α : Type} (l : List α) : cut l none (some (-1)) = l.take (l.length - 1) := by
  unfold cut
  rw [HT.sIx_none, List.drop_zero, Nat.sub_zero]
  have : HT.sIx l.length l.length (some (-1)) = l.length - 1 := by
    show (if (-1 : Int) < 0 then ((-1 : Int) + (l.length : Int)).toNat else min (-1 : Int).toNat l.length) = _
    rw [if_pos (by decide)]
    omega
  rw [this]
theorem cut_neg1 {α : Type} (l : List α) : cut l (some (-1)) none = l.drop (l.length - 1) := by
  unfold cut
  rw [HT.sIx_none]
  have : HT.sIx l.length 0 (some (-1)) = l.length - 1 := by
    show (if (-1 : Int) < 0 then ((-1 : Int) + (l.length : Int)).toNat else min (-1 : Int).toNat l.length) = _
    rw [if_pos (by decide)]
    omega
  rw [this, List.take_of_length_le (by rw [List.length_drop]; omega)]
theorem atI_nat {α : Type} (l : List α) {v : Int} (h0 : 0 ≤ v) (h1 : v < l.length) : atI l v = some (l[v.toNat]'(by omega)) := by
  unfold atI ixN
  rw [if_pos h0, if_pos h1]
  show l[v.toNat]? = _
  rw [List.getElem?_eq_getElem]
/-! sorted texts -/
theorem sorted_strs (ss : List Str) : sortD (ss.map .str) = some ((sortS ss).map .str) := by
  have h1 : ∀ x ∈ ss.map PyData.str, ∃ s, x = .str s := fun x hx => by
    obtain ⟨s, _, rfl⟩ := List.mem_map.mp hx
    exact ⟨s, rfl⟩
  have ok : sortOk (ss.map .str) = true := by
    unfold sortOk
    simp only [Bool.and_eq_true, List.all_eq_true, Bool.or_eq_true]
    refine ⟨⟨fun x hx y hy => ?_, .inr fun x hx => ?_⟩, fun x hx => ?_⟩
    · obtain ⟨s, rfl⟩ := h1 x hx
      obtain ⟨t, rfl⟩ := h1 y hy
      simp only [PySem.W.alike]
    · obtain ⟨s, rfl⟩ := h1 x hx; rfl
    · obtain ⟨s, rfl⟩ := h1 x hx; rfl
  unfold sortD
  rw [if_pos ok]
  unfold sortS
  rw [List.map_mergeSort (s := PySem.W.dataLe false id)]
  intro a _ b _
  show _ = !PySem.W.dataLt (.str b) (.str a)
  rw [PySem.W.dataLt_str]
  unfold strLE
  by_cases h : b.cps.toList < a.cps.toList
  · rw [decide_eq_true h, decide_eq_false (fun h2 => absurd h (Std.not_lt.mpr h2))]; rfl
  · rw [decide_eq_false h, decide_eq_true (Std.not_lt.mp h)]; rfl
theorem asc_sortS {l : List Str} (h : l.Nodup) : ascS (sortS l) = true := by
  have nd : (sortS l).Nodup := (sortS_perm l).nodup_iff.mpr h
  exact pair_asc (((sortS_sorted l).and nd).imp fun ⟨h1, h2⟩ => ltS_of h1 h2)
theorem asc_nodup {l : List Str} (h : ascS l = true) : l.Nodup := (asc_pair h).imp fun {a b} h e => by rw [e, ltS_irrefl] at h; cases h
/-! drawn plants -/
def drawnNames : List Str := ["a", "b", "c", "d", "door", "e", "main", "zz"]
def drawnKeys : List Str := ["k", "l", "m", "n", "o", "p"]
structure Drawn (m : Nat) (p : List Lock) : Prop where
  pos : 1 ≤ p.length
  len : p.length ≤ m
  asc : ascS (p.map (·.1)) = true
  nms : ∀ l ∈ p, l.1 ∈ drawnNames
  fst : ∀ l ∈ p, ascS l.2.1 = true ∧ l.2.1.length ≤ 2 ∧ ∀ k ∈ l.2.1, k ∈ drawnKeys
  snd : ∀ l ∈ p, ascS l.2.2 = true ∧ l.2.2.length ≤ 2 ∧ ∀ k ∈ l.2.2, k ∈ drawnKeys
def txt1 : D → Str
  | .str s => s
  | _ => ⟨#[]⟩
theorem perm_map_str {r : List D} {ss : List Str} (h : r.Perm (ss.map .str)) : ∃ rs : List Str, r = rs.map .str ∧ rs.Perm ss := by
  have : ∀ x ∈ r, ∃ s, x = PyData.str s := fun x hx => by
    obtain ⟨s, _, rfl⟩ := List.mem_map.mp (h.mem_iff.mp hx)
    exact ⟨s, rfl⟩
  have key : ∀ l : List D, (∀ x ∈ l, ∃ s, x = PyData.str s) → ∃ rs : List Str, l = rs.map .str := by
    intro l
    induction l with
    | nil => exact fun _ => ⟨[], rfl⟩
    | cons a l ih =>
      intro hl
      obtain ⟨s, rfl⟩ := hl a List.mem_cons_self
      obtain ⟨rs, rfl⟩ := ih fun x hx => hl x (List.mem_cons_of_mem _ hx)
      exact ⟨s :: rs, rfl⟩
  obtain ⟨rs, rfl⟩ := key r this
  refine ⟨rs, rfl, ?_⟩
  have := h.map txt1
  simpa [List.map_map, Function.comp_def, txt1] using this
variable {ns : List Int}
def smallI (l : List D) : Bool := l.all fun (x : PyData) => match x with | .int i => decide (0 ≤ i ∧ i ≤ 2) | _ => false
theorem smallI_of {l : List D} (h : smallI l = true) : ∀ x ∈ l, ∃ v : Nat, x = .int (v : Int) ∧ v ≤ 2 := fun x hx => by
  have := List.all_eq_true.mp h x hx
  cases x with
  | int i =>
    have h2 := of_decide_eq_true this
    exact ⟨i.toNat, by rw [Int.toNat_of_nonneg h2.1], by omega⟩
  | _ => cases this
theorem mem_three {d : D} (h : d ∈ ([.list [.int 0, .int 1], .list [.int 0, .int 1, .int 1, .int 2], .list [.int 1, .int 2]] : List D)) : ∃ l, d = .list l ∧ l ≠ [] ∧ ∀ x ∈ l, ∃ v : Nat, x = .int (v : Int) ∧ v ≤ 2 := by
  simp only [List.mem_cons, List.not_mem_nil, or_false] at h
  rcases h with rfl | rfl | rfl
  · exact ⟨_, rfl, by simp, smallI_of rfl⟩
  · exact ⟨_, rfl, by simp, smallI_of rfl⟩
  · exact ⟨_, rfl, by simp, smallI_of rfl⟩
theorem nodup_names : drawnNames.Nodup := by decide +kernel
theorem nodup_keys : drawnKeys.Nodup := by decide +kernel
/-- keys as they are drawn -/
def KeysOk (l : List Str) : Prop := ascS l = true ∧ l.length ≤ 2 ∧ ∀ k ∈ l, k ∈ drawnKeys
theorem keys_of {r : List Str} {n v : Nat} (hv : v ≤ 2) (h : r.Perm (drawnKeys.take n)) : KeysOk (sortS (r.take v)) := by
  have nd : r.Nodup := h.nodup_iff.mpr (nodup_keys.sublist (List.take_sublist _ _))
  refine ⟨asc_sortS (nd.sublist (List.take_sublist _ _)), ?_, fun k hk => ?_⟩
  · rw [(sortS_perm _).length_eq, List.length_take]; omega
  · have := (sortS_perm _).mem_iff.mp hk
    have := h.mem_iff.mp (List.mem_of_mem_take this)
    exact List.mem_of_mem_take this
theorem plant_wp (hns : ns.length ≤ 63) {m : Nat} (hm : 1 ≤ m) : Wp (f__law_plant [scr ns, tok, .int m]) 400 (fun d => ∃ p, d = plantD p ∧ Drawn m p) := by
  unfold f__law_plant
  rw [run_eq rfl]
  simp [b__law_plant, esc, escs, escB, esco, limv]
  refine Wp.bindB (shuf_wp hns (by simp)) (by decide) fun d hd => ?_
  obtain ⟨r, rfl, hr⟩ := hd
  obtain ⟨rs, rfl, hrs⟩ := perm_map_str (ss := drawnNames) hr
  refine Wp.bindB (draw_wp hns (by decide)) (by decide) fun d hd => ?_
  obtain ⟨v, rfl, v0, v1⟩ := hd
  simp
  refine Wp.bindB (pick_wp hns (by simp)) (by decide) fun d hd => ?_
  obtain ⟨few, rfl, fe, hfew⟩ := mem_three hd
  refine Wp.bindB (draw_wp hns (by omega)) (by decide) fun d hd => ?_
  obtain ⟨n, rfl, n0, n1⟩ := hd
  simp
  rw [cut_hiI _ (by omega), cut_hiI _ (by omega), ← List.map_take, sorted_strs]
  simp
  have hpool : (List.take (1 + v).toNat ([.str "k", .str "l", .str "m", .str "n", .str "o", .str "p"] : List D)) = (drawnKeys.take (1 + v).toNat).map .str := by rw [List.map_take]; rfl
  rw [hpool]
  have hlen : (sortS (List.take (1 + n).toNat rs)).length = min (1 + n).toNat 8 := by
    rw [(sortS_perm _).length_eq, List.length_take, hrs.length_eq]; rfl
  have hpl : (drawnKeys.take (1 + v).toNat).length ≤ 6 := by rw [List.length_take]; exact Nat.min_le_right _ _
  have hkp : ∀ {r : List Str} {v' : Nat}, v' ≤ 2 → r.Perm (drawnKeys.take (1 + v).toNat) → KeysOk (sortS (r.take v')) := fun a b => keys_of a b
  generalize drawnKeys.take (1 + v).toNat = pool at *
  refine Wp.forB _ (fun done env => ∃ p s5 s8 s9, env = [.val (scr ns), .val tok, .val (.int m), .val (.list (rs.map .str)), .val (.list (pool.map .str)), s5, .val (.list few), .own (.list (p.map lockD)), s8, s9] ∧ p.map (·.1) = done ∧ p.length ≤ 8 ∧ ∀ l ∈ p, KeysOk l.2.1 ∧ KeysOk l.2.2) 40 ⟨[], _, _, _, rfl, rfl, by simp, by simp⟩ (by rw [hlen]; omega) ?_ ?_
  · rintro done a rest hsp env ⟨p, s5, s8, s9, rfl, hp, hp8, hk⟩
    have hdl : p.length + 1 ≤ 8 := by
      have := congrArg List.length hsp
      rw [hlen, List.length_append, List.length_cons] at this
      rw [← hp, List.length_map] at this
      omega
    refine ⟨_, rfl, ?_⟩
    conv => arg 1; simp [esc, escs, escB, esco, limv]
    refine Wp.bindB (shuf_wp hns (by simp; omega)) (by simp; omega) fun d hd => ?_
    obtain ⟨r, rfl, hr1'⟩ := hd
    obtain ⟨r1, rfl, hr1⟩ := perm_map_str hr1'
    refine Wp.bindB (pick_wp hns fe) (by simp; omega) fun d hd => ?_
    obtain ⟨v1', rfl, hv1⟩ := hfew d hd
    conv => arg 1; simp
    refine Wp.bindB (shuf_wp hns (by simp; omega)) (by simp; omega) fun d hd => ?_
    obtain ⟨r, rfl, hr2'⟩ := hd
    obtain ⟨r2, rfl, hr2⟩ := perm_map_str hr2'
    refine Wp.bindB (pick_wp hns fe) (by simp; omega) fun d hd => ?_
    obtain ⟨v2', rfl, hv2⟩ := hfew d hd
    conv => arg 1; simp
    rw [cut_hi, cut_hi, ← List.map_take, ← List.map_take, sorted_strs, sorted_strs]
    have hlt : p.length < 16777216 := by omega
    conv => arg 1; simp [hlt]
    refine .pure ⟨rfl, p ++ [(a, sortS (r1.take v1'), sortS (r2.take v2'))], _, _, _, by simp [lockD]; exact ⟨rfl, rfl, rfl⟩, by simp [hp], by simp; omega, ?_⟩
    intro l hl
    rcases List.mem_append.mp hl with hl | hl
    · exact hk l hl
    · rw [List.mem_singleton.mp hl]
      exact ⟨hkp hv1 hr1, hkp hv2 hr2⟩
  · rintro env ⟨p, s5, s8, s9, rfl, hp, hp8, hk⟩
    simp [esc, escs, escB]
    have hpl2 : p.length = min (1 + n).toNat 8 := by
      rw [← hlen, ← hp, List.length_map]
    refine .pure ⟨p, rfl, ⟨by omega, by omega, ?_, ?_, fun l hl => (hk l hl).1, fun l hl => (hk l hl).2⟩⟩
    · rw [hp]
      refine asc_sortS ((hrs.nodup_iff.mpr nodup_names).sublist (List.take_sublist _ _))
    · intro l hl
      have : l.1 ∈ p.map (·.1) := List.mem_map.mpr ⟨l, hl, rfl⟩
      rw [hp] at this
      have := (sortS_perm _).mem_iff.mp this
      exact hrs.mem_iff.mp (List.mem_of_mem_take this)
theorem M_of {f : FnSem} {ds : List D} {d : D} (h : ∀ st, f ds st = some (.ok d, st)) : f ds = pure d := funext h
theorem is_plant_M {n : Nat} {d : D} (h : nice n d = true) : f_is_plant [d] = pure (.bool (isPlant d)) := M_of (is_plant_eq h)
theorem law_end {x : M (Fl × Env)} (h : Wp x 9000000 (fun r => r.1 = .rt (.bool true))) : ∃ e st', x [] = some (.ok (.rt (.bool true), e), st') := by
  obtain ⟨⟨fl, e⟩, st', h1, h2, _⟩ := h [] (by decide)
  cases h2
  exact ⟨e, st', h1⟩
end TK.P

/-! plants and states: what the defs of plants.py give -/
namespace TK.P
open PySem TK L2
@[simp high] theorem walk_zip_map {α β : Type} (f : α → D) (g : β → D) (l : List α) (m : List β) : walkL .zip2 [.tuple (l.map f), .tuple (m.map g)] = some ((l.zip m).map fun x => .tuple [f x.1, g x.2]) := by
  show some (((l.map f).zip (m.map g)).map fun p => PyData.tuple [p.1, p.2]) = _
  rw [List.zip_map, List.map_map]
  rfl
@[simp high] theorem walk_zip_mapL {α β : Type} (f : α → D) (g : β → D) (l : List α) (m : List β) : walkL .zip2 [.list (l.map f), .list (m.map g)] = some ((l.zip m).map fun x => .tuple [f x.1, g x.2]) := by
  show some (((l.map f).zip (m.map g)).map fun p => PyData.tuple [p.1, p.2]) = _
  rw [List.zip_map, List.map_map]
  rfl
def held (l : Lock) (b : Bool) : List Str := if b then l.2.2 else l.2.1
@[simp] theorem atI_lock (l : Lock) (b : Bool) : atI ([.str l.1, .tuple (l.2.1.map .str), .tuple (l.2.2.map .str)] : List PyData) (1 + bit b) = some (.tuple ((held l b).map PyData.str)) := by
  cases b <;> rfl
@[simp] theorem ix_lock0 (l : Lock) : app2 .ix (lockD l) (.int 0) = some (.str l.1) := rfl
@[simp] theorem ix_lock1 (l : Lock) : app2 .ix (lockD l) (.int 1) = some (.tuple (l.2.1.map .str)) := rfl
@[simp] theorem ix_lock2 (l : Lock) : app2 .ix (lockD l) (.int 2) = some (.tuple (l.2.2.map .str)) := rfl
@[simp] theorem ix_lockb (l : Lock) (b : Bool) : app2 .ix (lockD l) (.int (1 + bit b)) = some (.tuple ((held l b).map .str)) := atI_lock l b
theorem atI_getD {α β : Type} (f : α → β) {l : List α} {i : Nat} (h : i < l.length) : atI (l.map f) (i : Int) = some (f l[i]) := by
  rw [atI_nat _ (by omega) (by rw [List.length_map]; omega)]
  simp
theorem ix_plant {p : List Lock} {i : Nat} (h : i < p.length) : app2 .ix (plantD p) (.int i) = some (lockD p[i]) := atI_getD lockD h
theorem ix_row {r : List Bool} {i : Nat} (h : i < r.length) : app2 .ix (rowD r) (.int i) = some (bD r[i]) := atI_getD bD h
theorem ix_plant0 (l : Lock) (p : List Lock) : app2 .ix (plantD (l :: p)) (.int 0) = some (lockD l) := ix_plant (i := 0) (p := l :: p) (by simp)
theorem held_by_eq (l : Lock) (b : Bool) : f_held_by [lockD l, bD b] = pure (.tuple ((held l b).map .str)) := by
  unfold f_held_by
  rw [run_eq rfl]
  simp [b_held_by, esc, escB, lockD, bD]
/-! is_integer -/
def isBit : D → Bool
  | .int i => decide (i = 0 ∨ i = 1)
  | _ => false
def bitOf : D → Bool
  | .int i => decide (i = 1)
  | _ => false
theorem is_integer_eq {d : D} (h : ∀ l, d ≠ .dict l) : f_is_integer [d, .int 0, .int 1] = pure (.bool (isBit d)) := by
  unfold f_is_integer
  rw [run_eq rfl]
  cases d with
  | dict l => exact absurd rfl (h l)
  | int i =>
    have e : isBit (.int i) = (decide (0 ≤ i) && decide (i ≤ 1)) := by
      show decide (i = 0 ∨ i = 1) = _
      rw [← Bool.decide_and]
      congr 1
      apply propext
      omega
    rw [e]
    simp [b_is_integer, esc, escB]
  | _ => simp [b_is_integer, esc, escB, isBit, typ]

theorem nice_nodict {n : Nat} {d : D} (h : nice n d = true) : ∀ l, d ≠ .dict l := fun l e => by subst e; cases n <;> cases h
def arePl (p : List Lock) : D → Bool
  | .tuple l => decide (l.length = p.length) && l.all isBit
  | _ => false
theorem are_places_eq {n : Nat} (p : List Lock) {d : D} (h : nice n d = true) : f_are_places [plantD p, d] = pure (.bool (arePl p d)) := by
  unfold f_are_places
  rw [run_eq rfl]
  cases d with
  | tuple l =>
    obtain ⟨m, rfl, _, hl⟩ := nice_tup h
    simp [b_are_places, plantD]
    by_cases hc : l.length = p.length
    · rw [if_pos (by rw [hc])]
      refine comp_mapDB (fun d => .bool (isBit d)) (fun d hd => ?_) ?_
      · simp [compF, is_integer_eq (nice_nodict (hl d hd))]
      · simp [boolsOf_map, arePl, hc]
    · rw [if_neg (by omega)]
      simp [arePl, hc]
  | dict l => cases n <;> cases h
  | _ => simp [b_are_places, typ, arePl]
/-! fits -/
def heldL (x : List (Lock × Bool)) : List Str := (x.map fun x => held x.1 x.2).flatten
theorem heldL_nil : heldL [] = [] := rfl
theorem heldL_app (x y : List (Lock × Bool)) : heldL (x ++ y) = heldL x ++ heldL y := by simp [heldL]
theorem heldL_cons (a : Lock × Bool) (x : List (Lock × Bool)) : heldL (a :: x) = held a.1 a.2 ++ heldL x := rfl
theorem heldL_one (a : Lock × Bool) : heldL [a] = held a.1 a.2 := by simp [heldL]
def heldAll (p : List Lock) (r : List Bool) : List Str := heldL (p.zip r)
def fitsB (p : List Lock) (r : List Bool) : Bool := decide (heldAll p r).Nodup
theorem nub_nodup {l : List Str} (h : l.Nodup) : (nub l).length = l.length := nodup_len (nodup_nub l) h fun x => mem_nub
theorem nub_le : ∀ l : List Str, (nub l).length ≤ l.length
  | [] => Nat.le_refl _
  | x :: xs => by
    rw [nub, List.length_cons, List.length_cons]
    have := List.length_filter_le (fun y => decide (y ≠ x)) (nub xs)
    have := nub_le xs
    omega
theorem nub_eq_iff {l : List Str} : (nub l).length = l.length ↔ l.Nodup := by
  refine ⟨fun h => ?_, nub_nodup⟩
  induction l with
  | nil => exact .nil
  | cons x xs ih =>
    rw [nub, List.length_cons, List.length_cons] at h
    have h1 := List.length_filter_le (fun y => decide (y ≠ x)) (nub xs)
    have h2 := nub_le xs
    refine List.nodup_cons.mpr ⟨fun hx => ?_, ih (by omega)⟩
    have h3 : ((nub xs).filter fun y => decide (y ≠ x)).length = (nub xs).length := by omega
    have := List.length_filter_eq_length_iff.mp h3 x (mem_nub.mpr hx)
    simp at this
theorem held_len {p : List Lock} (hk : ∀ l ∈ p, l.2.1.length ≤ 6 ∧ l.2.2.length ≤ 6) {l : Lock} (hl : l ∈ p) (b : Bool) : (held l b).length ≤ 6 := by
  cases b
  · exact (hk l hl).1
  · exact (hk l hl).2
theorem flat_len {α : Type} (f : α → List Str) {c : Nat} : ∀ (l : List α), (∀ a ∈ l, (f a).length ≤ c) → (l.map f).flatten.length ≤ c * l.length
  | [], _ => by simp
  | a :: l, h => by
    rw [List.map_cons, List.flatten_cons, List.length_append, List.length_cons, Nat.mul_succ]
    have := flat_len f l fun x hx => h x (List.mem_cons_of_mem _ hx)
    have := h a List.mem_cons_self
    omega
theorem heldAll_len {p : List Lock} (hk : ∀ l ∈ p, l.2.1.length ≤ 6 ∧ l.2.2.length ≤ 6) (hp : p.length ≤ 8) (r : List Bool) : (heldAll p r).length ≤ 48 := by
  have := flat_len (fun x : Lock × Bool => held x.1 x.2) (p.zip r) fun a ha => held_len hk (List.of_mem_zip ha).1 a.2
  have h2 : (p.zip r).length ≤ 8 := by rw [List.length_zip]; omega
  unfold heldAll heldL
  omega
/-- what the sizes of a plant are -/
structure Sized (p : List Lock) : Prop where
  len : p.length ≤ 8
  keys : ∀ l ∈ p, l.2.1.length ≤ 6 ∧ l.2.2.length ≤ 6
theorem setLen_strs (ss : List Str) (h : ss.length < 4000) : app1 .setLen (.list (ss.map .str)) = some (.int (nub ss).length) := by
  simp [strsOf_map, h]
theorem fits_eq {p : List Lock} (hp : Sized p) (r : List Bool) : f_fits [plantD p, rowD r] = pure (.bool (fitsB p r)) := by
  unfold f_fits
  rw [run_eq rfl]
  simp [b_fits, plantD, rowD, limv]
  have hl := heldAll_len hp.keys hp.len r
  refine forL_preB (τ := Slot × Slot) (fun done t => [.val (.tuple (p.map lockD)), .val (.tuple (r.map bD)), .own (.list ((heldL done).map .str)), t.1, t.2]) (.no, .no) rfl ?_ ?_
  · intro done a rest hsp t
    have hb : (heldL done).length + (held a.1 a.2).length ≤ 48 := by
      unfold heldAll at hl
      rw [hsp, heldL_app, heldL_cons, List.length_append, List.length_append] at hl
      omega
    refine ⟨_, (.val (lockD a.1), .val (bD a.2)), rfl, ?_⟩
    have hb2 : (heldL done).length + (held a.1 a.2).length ≤ 16777216 := by omega
    simp [held_by_eq, limv, hb2, heldL_app, heldL_one]
  · intro t
    have h1 : (nub (heldAll p r)).length = (heldAll p r).length ↔ (heldAll p r).Nodup := nub_eq_iff
    have := setLen_strs (heldAll p r) (by omega)
    show (exs [f_held_by] _ [_, _, .own (.list ((heldAll p r).map .str)), _, _] >>= retM) = _
    simp [-app1_setLen, this, fitsB, ← h1]
    congr 2
    apply Bool.eq_iff_iff.mpr
    simp
    omega
/-! plants -/
def okKeys (ks : List Str) : Bool := decide (ks.length ≤ 6) && ks.all isWordS && ascS ks
def okLock (l : Lock) : Bool := isWordS l.1 && okKeys l.2.1 && okKeys l.2.2
def okPlant (p : List Lock) : Bool := decide (1 ≤ p.length ∧ p.length ≤ 8) && p.all okLock && ascS (p.map (·.1))
theorem areKeys_D (ks : List Str) : areKeys (.tuple (ks.map .str)) = okKeys ks := by
  show (decide ((ks.map PyData.str).length ≤ 6) && (ks.map PyData.str).all isWord && ascS (txts (ks.map .str))) = _
  rw [List.length_map, List.all_map, txts_map]
  rfl
theorem isLock_D (l : Lock) : isLock (lockD l) = okLock l := by
  show (isWord (.str l.1) && areKeys (.tuple (l.2.1.map .str)) && areKeys (.tuple (l.2.2.map .str))) = _
  rw [areKeys_D, areKeys_D]
  rfl
theorem isPlant_D (p : List Lock) : isPlant (plantD p) = okPlant p := by
  show (decide (1 ≤ (p.map lockD).length ∧ (p.map lockD).length ≤ 8) && (p.map lockD).all isLock && ascS ((p.map lockD).map nameOf)) = _
  rw [List.length_map, List.all_map, List.map_map]
  have h1 : (fun x => isLock x) ∘ lockD = okLock := funext fun l => isLock_D l
  rw [show (isLock ∘ lockD) = okLock from h1]
  rfl
abbrev OkP (p : List Lock) : Prop := okPlant p = true
theorem okKeys_iff {ks : List Str} : okKeys ks = true ↔ ks.length ≤ 6 ∧ (∀ k ∈ ks, isWordS k = true) ∧ ascS ks = true := by
  simp [okKeys, and_assoc]
theorem okP_iff {p : List Lock} : OkP p ↔ (1 ≤ p.length ∧ p.length ≤ 8) ∧ (∀ l ∈ p, isWordS l.1 = true ∧ okKeys l.2.1 = true ∧ okKeys l.2.2 = true) ∧ ascS (p.map (·.1)) = true := by
  simp only [OkP, okPlant, okLock, Bool.and_eq_true, decide_eq_true_eq, List.all_eq_true, and_assoc]
theorem OkP.sized {p : List Lock} (h : OkP p) : Sized p := by
  obtain ⟨⟨_, h1⟩, h2, _⟩ := okP_iff.mp h
  exact ⟨h1, fun l hl => ⟨(okKeys_iff.mp (h2 l hl).2.1).1, (okKeys_iff.mp (h2 l hl).2.2).1⟩⟩
theorem word_len {s : Str} (h : isWordS s = true) : s.length ≤ 4 := by
  simp only [isWordS, Bool.and_eq_true, decide_eq_true_eq] at h
  exact h.1.2
theorem nice_strs {ks : List Str} (n : Nat) (hl : ks.length ≤ 1000) (h : ∀ k ∈ ks, isWordS k = true) : nice (n + 1) (.tuple (ks.map .str)) = true := by
  simp only [nice, Bool.and_eq_true, decide_eq_true_eq, List.all_eq_true, List.length_map]
  refine ⟨hl, fun x hx => ?_⟩
  obtain ⟨s, hs, rfl⟩ := List.mem_map.mp hx
  have := word_len (h s hs)
  cases n <;> simp [nice] <;> omega
theorem nice_lock {l : Lock} (n : Nat) (h : isWordS l.1 = true ∧ okKeys l.2.1 = true ∧ okKeys l.2.2 = true) : nice (n + 2) (lockD l) = true := by
  have h1 := okKeys_iff.mp h.2.1
  have h2 := okKeys_iff.mp h.2.2
  have a := nice_strs n (by omega) h1.2.1
  have b := nice_strs n (by omega) h2.2.1
  have c := word_len h.1
  have hs : nice (n + 1) (.str l.1) = true := by simp [nice]; omega
  unfold lockD
  simp only [nice, Bool.and_eq_true, decide_eq_true_eq, List.all_eq_true]
  refine ⟨by simp, fun x hx => ?_⟩
  simp only [List.mem_cons, List.not_mem_nil, or_false] at hx
  rcases hx with rfl | rfl | rfl
  · exact hs
  · exact a
  · exact b
theorem OkP.nice {p : List Lock} (h : OkP p) (n : Nat) : nice (n + 3) (plantD p) = true := by
  obtain ⟨⟨_, h1⟩, h2, _⟩ := okP_iff.mp h
  unfold plantD
  simp only [TK.P.nice, Bool.and_eq_true, decide_eq_true_eq, List.all_eq_true, List.length_map]
  refine ⟨by omega, fun x hx => ?_⟩
  obtain ⟨l, hl, rfl⟩ := List.mem_map.mp hx
  exact nice_lock n (h2 l hl)
theorem drawn_words : ∀ s ∈ drawnNames, isWordS s = true := List.all_eq_true.mp (by decide +kernel)
theorem drawnK_words : ∀ s ∈ drawnKeys, isWordS s = true := List.all_eq_true.mp (by decide +kernel)
theorem Drawn.ok {m : Nat} {p : List Lock} (hm : m ≤ 8) (h : Drawn m p) : OkP p := by
  have ks : ∀ ks : List Str, KeysOk ks → okKeys ks = true := fun ks hk => okKeys_iff.mpr ⟨by have := hk.2.1; omega, fun k h => drawnK_words k (hk.2.2 k h), hk.1⟩
  exact okP_iff.mpr ⟨⟨h.pos, by have := h.len; omega⟩, fun l hl => ⟨drawn_words _ (h.nms l hl), ks _ (h.fst l hl), ks _ (h.snd l hl)⟩, h.asc⟩
theorem require_plant_eq {n : Nat} {d : D} (h : nice n d = true) : f_require_plant [d] = if isPlant d = true then pure .none else throwX "InvalidPlant" := by
  unfold f_require_plant
  rw [run_eq rfl]
  simp [b_require_plant, is_plant_M h]
  cases isPlant d <;> simp
theorem require_plant_ok {p : List Lock} (h : OkP p) : f_require_plant [plantD p] = pure .none := by
  rw [require_plant_eq (h.nice 0), isPlant_D, h]; rfl
theorem require_plant_no {n : Nat} {d : D} (h : nice n d = true) (hp : isPlant d = false) : f_require_plant [d] = throwX "InvalidPlant" := by
  rw [require_plant_eq h, hp]; rfl
/-! states -/
def isSt (p : List Lock) : D → Bool
  | .tuple l => decide (l.length = p.length) && l.all isBit && fitsB p (l.map bitOf)
  | _ => false
theorem bits_row {l : List D} (h : l.all isBit = true) : l = (l.map bitOf).map bD := by
  rw [List.map_map]
  conv => lhs; rw [← List.map_id l]
  refine List.map_congr_left fun x hx => ?_
  have := List.all_eq_true.mp h x hx
  cases x with
  | int i =>
    have := of_decide_eq_true this
    rcases this with rfl | rfl <;> rfl
  | _ => cases this
theorem valid_eq {n : Nat} {p : List Lock} (hp : Sized p) {d : D} (h : nice n d = true) : f_is_valid_state [plantD p, d] = pure (.bool (isSt p d)) := by
  unfold f_is_valid_state
  rw [run_eq rfl]
  simp [b_is_valid_state, are_places_eq p h]
  cases ha : arePl p d with
  | false =>
    have : isSt p d = false := by
      cases d with
      | tuple l =>
        have ha : (decide (l.length = p.length) && l.all isBit) = false := ha
        show (decide (l.length = p.length) && l.all isBit && _) = false
        rw [ha]; rfl
      | _ => rfl
    simp [this]
  | true =>
    cases d with
    | tuple l =>
      have ha : (decide (l.length = p.length) && l.all isBit) = true := ha
      have hb := (Bool.and_eq_true_iff.mp ha).2
      have e : (PyData.tuple l) = rowD (l.map bitOf) := by
        show _ = PyData.tuple _
        rw [← bits_row hb]
      have e2 : isSt p (.tuple l) = fitsB p (l.map bitOf) := by
        show (decide (l.length = p.length) && l.all isBit && _) = _
        rw [ha]; rfl
      rw [e2]
      rw [e, fits_eq hp]
      simp
    | _ => cases ha
theorem isSt_row (p : List Lock) (r : List Bool) : isSt p (rowD r) = (decide (r.length = p.length) && fitsB p r) := by
  show (decide ((r.map bD).length = p.length) && (r.map bD).all isBit && fitsB p ((r.map bD).map bitOf)) = _
  rw [List.length_map, List.map_map]
  have h1 : (r.map bD).all isBit = true := by
    rw [List.all_map, List.all_eq_true]
    intro b _
    cases b <;> rfl
  have h2 : (bitOf ∘ bD) = id := funext fun b => by cases b <;> rfl
  rw [h1, h2, List.map_id, Bool.and_true]
theorem nice_row (r : List Bool) (hl : r.length ≤ 1000) (n : Nat) : nice (n + 1) (rowD r) = true := by
  unfold rowD
  simp only [nice, Bool.and_eq_true, decide_eq_true_eq, List.all_eq_true, List.length_map]
  refine ⟨hl, fun x hx => ?_⟩
  obtain ⟨b, _, rfl⟩ := List.mem_map.mp hx
  cases n <;> rfl
theorem is_state_eq {n : Nat} {p : List Lock} (hp : OkP p) {d : D} (h : nice n d = true) : f_is_state [plantD p, d] = pure (.bool (isSt p d)) := by
  unfold f_is_state
  rw [run_eq rfl]
  simp [b_is_state, require_plant_ok hp, valid_eq hp.sized h]
theorem is_state_no {n : Nat} {d e : D} (h : nice n d = true) (hp : isPlant d = false) : f_is_state [d, e] = throwX "InvalidPlant" := by
  unfold f_is_state
  rw [run_eq rfl]
  simp [b_is_state, require_plant_no h hp]
theorem require_state_eq {n : Nat} {p : List Lock} (hp : OkP p) {d : D} (h : nice n d = true) : f_require_state [plantD p, d] = if isSt p d = true then pure .none else throwX "InvalidState" := by
  unfold f_require_state
  rw [run_eq rfl]
  simp [b_require_state, require_plant_ok hp, valid_eq hp.sized h]
  cases isSt p d <;> simp
theorem require_state_no {n : Nat} {d e : D} (h : nice n d = true) (hp : isPlant d = false) : f_require_state [d, e] = throwX "InvalidPlant" := by
  unfold f_require_state
  rw [run_eq rfl]
  simp [b_require_state, require_plant_no h hp]
end TK.P

/-! data that stand for values of a type: ==, in -/
namespace TK.P
open PySem TK L2
theorem dep_succ : ∀ {n : Nat} {d : D}, dep n d = true → dep (n + 1) d = true
  | n, .none, _ => by cases n <;> rfl
  | n, .bool _, _ => by cases n <;> rfl
  | n, .int _, _ => by cases n <;> rfl
  | n, .str _, _ => by cases n <;> rfl
  | 0, .list _, h => by cases h
  | 0, .tuple _, h => by cases h
  | n + 1, .list l, h => by
    have h : l.all (dep n) = true := h
    show l.all (dep (n + 1)) = true
    rw [List.all_eq_true] at h ⊢
    exact fun x hx => dep_succ (h x hx)
  | n + 1, .tuple l, h => by
    have h : l.all (dep n) = true := h
    show l.all (dep (n + 1)) = true
    rw [List.all_eq_true] at h ⊢
    exact fun x hx => dep_succ (h x hx)
  | n, .dict _, h => by cases n <;> cases h
theorem dep_le {n m : Nat} {d : D} (h : n ≤ m) (hd : dep n d = true) : dep m d = true := by
  induction m with
  | zero => obtain rfl : n = 0 := by omega
            exact hd
  | succ m ih =>
    by_cases e : n = m + 1
    · rw [← e]; exact hd
    · exact dep_succ (ih (by omega))
/-- f tells values apart, at depth k -/
class Enc {α : Type} [DecidableEq α] (f : α → D) (k : outParam Nat) : Prop where
  eq : ∀ a b, PyData.eqv (f a) (f b) = decide (a = b)
  dp : ∀ a, dep k (f a) = true
section
variable {α β : Type} [DecidableEq α] [DecidableEq β] {f : α → D} {g : β → D} {k : Nat}
theorem eqvAll_map [Enc f k] : ∀ (l m : List α), PyData.eqvAll (l.map f) (m.map f) = decide (l = m)
  | [], [] => rfl
  | [], _ :: _ => rfl
  | _ :: _, [] => rfl
  | a :: l, b :: m => by
    rw [List.map_cons, List.map_cons, PyData.eqvAll, eqvAll_map l m, Enc.eq (f := f)]
    by_cases h : a = b
    · subst h; simp
    · simp [h]
theorem dep_map [Enc f k] (l : List α) : (l.map f).all (dep k) = true := by
  rw [List.all_map, List.all_eq_true]
  exact fun a _ => Enc.dp a
instance : Enc PyData.str 0 := ⟨fun a b => by rw [PyData.eqv]; rfl, fun _ => rfl⟩
instance : Enc PyData.int 0 := ⟨fun a b => by rw [PyData.eqv]; rfl, fun _ => rfl⟩
instance : Enc bD 0 := ⟨fun a b => by unfold bD; rw [PyData.eqv]; cases a <;> cases b <;> rfl, fun _ => rfl⟩
instance [Enc f k] : Enc (fun l : List α => PyData.list (l.map f)) (k + 1) := ⟨fun a b => by rw [PyData.eqv, eqvAll_map], fun a => dep_map a⟩
instance [Enc f k] : Enc (fun l : List α => PyData.tuple (l.map f)) (k + 1) := ⟨fun a b => by rw [PyData.eqv, eqvAll_map], fun a => dep_map a⟩
instance : Enc rowD 1 := ⟨fun a b => by unfold rowD; rw [PyData.eqv, eqvAll_map], fun a => dep_map a⟩
instance : Enc lockD 2 := ⟨fun a b => by
  unfold lockD
  have h1 := Enc.eq (f := PyData.str) a.1 b.1
  have h2 := Enc.eq (f := fun l : List Str => PyData.tuple (l.map .str)) a.2.1 b.2.1
  have h3 := Enc.eq (f := fun l : List Str => PyData.tuple (l.map .str)) a.2.2 b.2.2
  simp only [PyData.eqv, PyData.eqvAll] at h1 h2 h3 ⊢
  rw [h1, h2, h3]
  obtain ⟨a1, a2, a3⟩ := a
  obtain ⟨b1, b2, b3⟩ := b
  simp only [Prod.mk.injEq, Bool.and_true]
  by_cases e1 : a1 = b1 <;> by_cases e2 : a2 = b2 <;> by_cases e3 : a3 = b3 <;> simp [e1, e2, e3], fun a => by
  have h2 := Enc.dp (f := fun l : List Str => PyData.tuple (l.map .str)) a.2.1
  have h3 := Enc.dp (f := fun l : List Str => PyData.tuple (l.map .str)) a.2.2
  unfold lockD
  simp only [dep, List.all_cons, List.all_nil, Bool.and_true, Bool.true_and] at h2 h3 ⊢
  rw [h2, h3]; rfl⟩
instance : Enc plantD 3 := ⟨fun a b => by unfold plantD; rw [PyData.eqv, eqvAll_map], fun a => dep_map a⟩
theorem eqD_enc (f : α → D) [Enc f k] (hk : k ≤ 60) (a b : α) : eqD (f a) (f b) = some (decide (a = b)) := by
  unfold eqD
  rw [dep_le hk (Enc.dp a), dep_le hk (Enc.dp b), Enc.eq]
  rfl
theorem any_enc [Enc f k] (a : α) : ∀ l : List α, ((l.map f).any fun y => PyData.eqv y (f a)) = decide (a ∈ l)
  | [] => rfl
  | b :: l => by
    rw [List.map_cons, List.any_cons, any_enc a l, Enc.eq]
    by_cases h : b = a
    · subst h; simp
    · simp [h, Ne.symm h]
theorem all_dep [Enc f k] (hk : k ≤ 60) (l : List α) : (l.map f).all (dep 60) = true := by
  rw [List.all_map, List.all_eq_true]
  exact fun a _ => dep_le hk (Enc.dp a)
theorem in_encL (f : α → D) [Enc f k] (hk : k ≤ 60) (a : α) (l : List α) : app2 .isin (f a) (.list (l.map f)) = some (.bool (decide (a ∈ l))) := by
  rw [app2_in_l, dep_le hk (Enc.dp a), all_dep hk l, any_enc]; rfl
theorem in_encT (f : α → D) [Enc f k] (hk : k ≤ 60) (a : α) (l : List α) : app2 .isin (f a) (.tuple (l.map f)) = some (.bool (decide (a ∈ l))) := by
  rw [app2_in_t, dep_le hk (Enc.dp a), all_dep hk l, any_enc]; rfl
theorem notin_encL (f : α → D) [Enc f k] (hk : k ≤ 60) (a : α) (l : List α) : app2 .notin (f a) (.list (l.map f)) = some (.bool (!decide (a ∈ l))) := by
  rw [app2_notin_l, dep_le hk (Enc.dp a), all_dep hk l, any_enc]; rfl
theorem notin_encT (f : α → D) [Enc f k] (hk : k ≤ 60) (a : α) (l : List α) : app2 .notin (f a) (.tuple (l.map f)) = some (.bool (!decide (a ∈ l))) := by
  rw [app2_notin_t, dep_le hk (Enc.dp a), all_dep hk l, any_enc]; rfl
end
@[simp high] theorem in_strs_l (a : Str) (l : List Str) : app2 .isin (.str a) (.list (l.map .str)) = some (.bool (decide (a ∈ l))) := in_encL PyData.str (by decide) a l
@[simp high] theorem in_strs_t (a : Str) (l : List Str) : app2 .isin (.str a) (.tuple (l.map .str)) = some (.bool (decide (a ∈ l))) := in_encT PyData.str (by decide) a l
@[simp high] theorem notin_strs_l (a : Str) (l : List Str) : app2 .notin (.str a) (.list (l.map .str)) = some (.bool (!decide (a ∈ l))) := notin_encL PyData.str (by decide) a l
@[simp high] theorem notin_strs_t (a : Str) (l : List Str) : app2 .notin (.str a) (.tuple (l.map .str)) = some (.bool (!decide (a ∈ l))) := notin_encT PyData.str (by decide) a l
@[simp high] theorem eqD_strs_l (l m : List Str) : eqD (.list (l.map .str)) (.list (m.map .str)) = some (decide (l = m)) := eqD_enc (fun l : List Str => PyData.list (l.map .str)) (by decide) l m
@[simp high] theorem eqD_strs_t (l m : List Str) : eqD (.tuple (l.map .str)) (.tuple (m.map .str)) = some (decide (l = m)) := eqD_enc (fun l : List Str => PyData.tuple (l.map .str)) (by decide) l m
@[simp high] theorem eqD_row (l m : List Bool) : eqD (rowD l) (rowD m) = some (decide (l = m)) := eqD_enc rowD (by decide) l m
@[simp high] theorem eqD_rows (l m : List (List Bool)) : eqD (.list (l.map rowD)) (.list (m.map rowD)) = some (decide (l = m)) := eqD_enc (fun l : List (List Bool) => PyData.list (l.map rowD)) (by decide) l m
@[simp high] theorem in_rows (a : List Bool) (l : List (List Bool)) : app2 .isin (rowD a) (.list (l.map rowD)) = some (.bool (decide (a ∈ l))) := (in_encL rowD (by decide) a l).trans (by congr)
@[simp high] theorem notin_rows (a : List Bool) (l : List (List Bool)) : app2 .notin (rowD a) (.list (l.map rowD)) = some (.bool (!decide (a ∈ l))) := (notin_encL rowD (by decide) a l).trans (by congr)
@[simp high] theorem eqD_plant (a b : List Lock) : eqD (plantD a) (plantD b) = some (decide (a = b)) := eqD_enc plantD (by decide) a b
/-! keys -/
def allKL (p : List Lock) : List Str := (p.map fun l => l.2.1 ++ l.2.2).flatten
theorem allKL_app (x y : List Lock) : allKL (x ++ y) = allKL x ++ allKL y := by simp [allKL]
theorem allKL_cons (a : Lock) (x : List Lock) : allKL (a :: x) = (a.2.1 ++ a.2.2) ++ allKL x := rfl
theorem allKL_one (a : Lock) : allKL [a] = a.2.1 ++ a.2.2 := by simp [allKL]
theorem allKL_len {p : List Lock} (hp : Sized p) : (allKL p).length ≤ 96 := by
  have := flat_len (fun l : Lock => l.2.1 ++ l.2.2) (c := 12) p fun l hl => by rw [List.length_append]; have := hp.keys l hl; omega
  have := hp.len
  unfold allKL
  omega
def keysOf (p : List Lock) : List Str := sortS (nub (allKL p))
theorem mem_keysOf {p : List Lock} {k : Str} : k ∈ keysOf p ↔ k ∈ allKL p := by
  unfold keysOf
  rw [(sortS_perm _).mem_iff, mem_nub]
theorem find_keys_eq {p : List Lock} (hp : Sized p) : f_find_keys [plantD p] = pure (.list ((keysOf p).map .str)) := by
  unfold f_find_keys
  rw [run_eq rfl]
  simp [b_find_keys, plantD, limv]
  have hl := allKL_len hp
  refine forL_preB (τ := Slot × Slot × Slot) (fun done t => [.val (.tuple (p.map lockD)), .own (.list ((allKL done).map .str)), t.1, t.2.1, t.2.2]) (.no, .no, .no) rfl ?_ ?_
  · intro done a rest hsp t
    have hb : (allKL done).length + (a.2.1.length + a.2.2.length) ≤ 96 := by
      rw [hsp, allKL_app, allKL_cons, List.length_append, List.length_append, List.length_append] at hl
      omega
    refine ⟨_, (.val (.str a.1), .val (.tuple (a.2.1.map .str)), .val (.tuple (a.2.2.map .str))), rfl, ?_⟩
    have hb1 : a.2.1.length + a.2.2.length ≤ 16777216 := by omega
    have hb2 : (allKL done).length + (a.2.1.length + a.2.2.length) ≤ 16777216 := by omega
    simp [limv, hb1, hb2, allKL_app, allKL_one]
  · intro t
    simp [strsOf_map, keysOf]
    rw [if_pos (by omega)]
    rfl
theorem all_keys_eq {p : List Lock} (hp : OkP p) : f_all_keys [plantD p] = pure (.list ((keysOf p).map .str)) := by
  unfold f_all_keys
  rw [run_eq rfl]
  simp [b_all_keys, require_plant_ok hp, find_keys_eq hp.sized]
theorem all_keys_no {n : Nat} {d : D} (h : nice n d = true) (hp : isPlant d = false) : f_all_keys [d] = throwX "InvalidPlant" := by
  unfold f_all_keys
  rw [run_eq rfl]
  simp [b_all_keys, require_plant_no h hp]
def isKey (p : List Lock) : D → Bool
  | .str s => decide (s ∈ keysOf p)
  | _ => false
theorem require_key_eq {n : Nat} {p : List Lock} (hp : Sized p) {d : D} (h : nice n d = true) : f_require_key [plantD p, d] = if isKey p d = true then pure .none else throwX "InvalidKey" := by
  unfold f_require_key
  rw [run_eq rfl]
  cases d with
  | str s =>
    simp [b_require_key, find_keys_eq hp, isKey]
  | dict l => cases n <;> cases h
  | _ => simp [b_require_key, typ, isKey]
/-- the name of the first lock that holds a key -/
def holderP (x : List (Lock × Bool)) (k : Str) : Option Str := x.findSome? fun y => if k ∈ held y.1 y.2 then some y.1.1 else none
def optD : Option Str → D
  | some s => .str s
  | none => .none
theorem holder_of_eq (p : List Lock) (r : List Bool) (k : Str) : f_holder_of [plantD p, rowD r, .str k] = pure (optD (holderP (p.zip r) k)) := by
  unfold f_holder_of
  rw [run_eq rfl]
  simp [b_holder_of, plantD, rowD]
  have key : ∀ x : List (Lock × Bool), (x.findSome? fun y => if k ∈ held y.1 y.2 then some (PyData.str y.1.1) else none) = (holderP x k).map .str := by
    intro x
    unfold holderP
    induction x with
    | nil => rfl
    | cons a x ih =>
      rw [List.findSome?_cons, List.findSome?_cons]
      by_cases h : k ∈ held a.1 a.2
      · rw [if_pos h, if_pos h]; rfl
      · rw [if_neg h, if_neg h]; exact ih
  refine forL_findB (τ := Slot × Slot) (fun t => [.val (.tuple (p.map lockD)), .val (.tuple (r.map bD)), .val (.str k), t.1, t.2]) (fun y => if k ∈ held y.1 y.2 then some (PyData.str y.1.1) else none) (.no, .no) ?_ ?_ ?_
  · intro t a ha
    refine ⟨_, (.val (lockD a.1), .val (bD a.2)), rfl, ?_⟩
    by_cases h : k ∈ held a.1 a.2
    · simp [held_by_eq, h]
    · simp [held_by_eq, h]
  · intro hn t
    rw [key] at hn
    simp at hn
    simp [hn, optD]
  · intro d t hd
    rw [key] at hd
    obtain ⟨s, h1, rfl⟩ := Option.map_eq_some_iff.mp hd
    simp [h1, optD]
theorem holder_eq {n : Nat} {p : List Lock} (hp : OkP p) {r : List Bool} (hr : isSt p (rowD r) = true) (hl : r.length ≤ 1000) {d : D} (h : nice n d = true) : f_holder [plantD p, rowD r, d] = match d with | .str k => if k ∈ keysOf p then pure (optD (holderP (p.zip r) k)) else throwX "InvalidKey" | _ => throwX "InvalidKey" := by
  unfold f_holder
  rw [run_eq rfl]
  simp [b_holder, require_state_eq hp (nice_row r hl 0), hr, require_key_eq hp.sized h]
  cases d with
  | str k =>
    by_cases hk : k ∈ keysOf p
    · simp [isKey, hk, holder_of_eq]
    · simp [isKey, hk]
  | _ => simp [isKey]
def freeOf (p : List Lock) (r : List Bool) : List Str := (keysOf p).filter fun k => (holderP (p.zip r) k).isNone
theorem find_free_eq {p : List Lock} (hp : Sized p) (r : List Bool) : f_find_free [plantD p, rowD r] = pure (.list ((freeOf p r).map .str)) := by
  unfold f_find_free
  rw [run_eq rfl]
  simp [b_find_free, find_keys_eq hp]
  refine comp_filterB (fun k => (holderP (p.zip r) k).isNone) PyData.str (fun k hk => ?_) ?_
  · simp [compF, holder_of_eq]
    cases holderP (p.zip r) k <;> simp [optD, notNone]
  · simp [freeOf]
theorem free_keys_eq {n : Nat} {p : List Lock} (hp : OkP p) {r : List Bool} (hr : isSt p (rowD r) = true) (hl : r.length ≤ 1000) : f_free_keys [plantD p, rowD r] = pure (.list ((freeOf p r).map .str)) := by
  unfold f_free_keys
  rw [run_eq rfl]
  simp [b_free_keys, require_state_eq hp (nice_row r hl 0), hr, find_free_eq hp.sized]
end TK.P

/-! the laws' own helpers: states by trying, same -/
namespace TK.P
open PySem TK L2
theorem nodup_int {p : List Lock} {r : List Bool} (h1 : (nub (heldAll p r)).length = (heldAll p r).length ↔ (heldAll p r).Nodup) : (decide (((nub (heldAll p r)).length : Int) = ((heldAll p r).length : Int))) = decide (heldAll p r).Nodup := by
  apply Bool.eq_iff_iff.mpr
  simp [← h1]
  omega
theorem law_fits_eq {p : List Lock} (hp : Sized p) (r : List Bool) : f__law_fits [plantD p, rowD r] = pure (.bool (fitsB p r)) := by
  unfold f__law_fits
  rw [run_eq rfl]
  simp [b__law_fits, plantD, rowD, limv]
  have hl := heldAll_len hp.keys hp.len r
  refine forL_preB (τ := Slot × Slot) (fun done t => [.val (.tuple (p.map lockD)), .val (.tuple (r.map bD)), .val (.list ((heldL done).map .str)), t.1, t.2]) (.no, .no) rfl ?_ ?_
  · intro done a rest hsp t
    have hb : (heldL done).length + (held a.1 a.2).length ≤ 48 := by
      unfold heldAll at hl
      rw [hsp, heldL_app, heldL_cons, List.length_append, List.length_append] at hl
      omega
    refine ⟨_, (.val (lockD a.1), .val (bD a.2)), rfl, ?_⟩
    have hb2 : (heldL done).length + (held a.1 a.2).length ≤ 16777216 := by omega
    simp [bD, limv, hb2, heldL_app, heldL_one]
  · intro t
    have h1 : (nub (heldAll p r)).length = (heldAll p r).length ↔ (heldAll p r).Nodup := nub_eq_iff
    have := setLen_strs (heldAll p r) (by omega)
    show (exs [] _ [_, _, .val (.list ((heldAll p r).map .str)), _, _] >>= retM) = _
    simp [-app1_setLen, this, fitsB]
    exact congrArg (fun b => (pure (PyData.bool b) : M D)) (nodup_int h1)
/-! all tuples of positions -/
def vecs : Nat → List (List Bool)
  | 0 => [[]]
  | n + 1 => (vecs n).flatMap fun r => [r ++ [false], r ++ [true]]
theorem vecs_len : ∀ n, (vecs n).length = 2 ^ n
  | 0 => rfl
  | n + 1 => by
    rw [vecs, List.length_flatMap, Nat.pow_succ]
    have : ((vecs n).map fun r => [r ++ [false], r ++ [true]].length) = (vecs n).map fun _ => 2 := rfl
    rw [this, List.map_const', List.sum_replicate_nat, vecs_len n]
theorem vecs_mem : ∀ {n : Nat} {r : List Bool}, r ∈ vecs n ↔ r.length = n
  | 0, r => by simp [vecs]
  | n + 1, r => by
    rw [vecs, List.mem_flatMap]
    constructor
    · rintro ⟨q, hq, hr⟩
      have := vecs_mem.mp hq
      simp only [List.mem_cons, List.not_mem_nil, or_false] at hr
      rcases hr with rfl | rfl <;> simp [this]
    · intro h
      have hne : r ≠ [] := fun e => by rw [e] at h; cases h
      refine ⟨r.dropLast, vecs_mem.mpr (by rw [List.length_dropLast]; omega), ?_⟩
      have := List.dropLast_concat_getLast hne
      cases hb : r.getLast hne
      · rw [hb] at this; rw [this]; simp
      · rw [hb] at this; rw [this]; simp
def ext2 (l : List (List Bool)) : List (List Bool) := l.flatMap fun r => [r ++ [false], r ++ [true]]
theorem ext2_app (x y : List (List Bool)) : ext2 (x ++ y) = ext2 x ++ ext2 y := by simp [ext2]
theorem ext2_one (r : List Bool) : ext2 [r] = [r ++ [false], r ++ [true]] := by simp [ext2]
theorem ext2_len (x : List (List Bool)) : (ext2 x).length = 2 * x.length := by
  unfold ext2
  rw [List.length_flatMap]
  have : (x.map fun r => [r ++ [false], r ++ [true]].length) = x.map fun _ => 2 := rfl
  rw [this, List.map_const', List.sum_replicate_nat]; omega
theorem row_snoc (r : List Bool) (b : Bool) : PyData.tuple (r.map bD ++ [bD b]) = rowD (r ++ [b]) := by simp [rowD]
theorem vectors_eq {n : Nat} (hn : n ≤ 10) : f__law_vectors [.int n] = pure (.list ((vecs n).map rowD)) := by
  unfold f__law_vectors
  rw [run_eq rfl]
  have hn2 : n ≤ 16777216 := by omega
  simp [b__law_vectors, limv, rangeL, hn2]
  refine forL_preB (τ := Slot × Slot × Slot) (fun done t => [.val (.int n), .val (.list ((vecs done.length).map rowD)), t.1, t.2.1, t.2.2]) (.no, .no, .no) rfl ?_ ?_
  · intro done a rest hsp t
    have hdl : done.length < n := by
      have := congrArg List.length hsp
      simp at this
      omega
    have hv := vecs_len done.length
    have hv2 : 2 ^ done.length ≤ 1024 := Nat.le_trans (Nat.pow_le_pow_right (by decide) (by omega : done.length ≤ 10)) (by decide)
    have h3 : ∀ r ∈ vecs done.length, r.length ≤ 10 := fun r hr => by have := vecs_mem.mp hr; omega
    generalize hw : vecs done.length = w at *
    refine ⟨_, (.val (.int (0 + a)), .val (.list ((ext2 w).map rowD)), ?sl), rfl, ?_⟩
    case sl => exact if h : w = [] then t.2.2 else .val (rowD (w.getLast h))
    conv => lhs; simp [limv]
    refine forL_preB (τ := Slot) (fun dn s4 => [.val (.int n), .val (.list (w.map rowD)), .val (.int (0 + a)), .val (.list ((ext2 dn).map rowD)), if h : dn = [] then t.2.2 else .val (rowD (dn.getLast h))]) .no (by simp [ext2]) ?_ ?_
    · intro dn x rs hsp2 s4
      have h4 := h3 x (by rw [hsp2]; simp)
      have h5 : (ext2 dn).length + 2 ≤ 16777216 := by
        have := congrArg List.length hsp2
        rw [List.length_append, List.length_cons] at this
        rw [ext2_len]; omega
      refine ⟨_, .no, rfl, ?_⟩
      have h6 : x.length ≤ 16777215 := by omega
      simp [rowD, limv, h5, h6, ext2_app, ext2_one, bD, bit]
    · intro s4
      simp
      rw [show vecs (done.length + 1) = ext2 (vecs done.length) from rfl, hw]
  · intro t
    simp
def statesOf (p : List Lock) : List (List Bool) := (vecs p.length).filter (fitsB p)
theorem law_states_eq {p : List Lock} (hp : Sized p) : f__law_states [plantD p] = pure (.list ((statesOf p).map rowD)) := by
  unfold f__law_states
  rw [run_eq rfl]
  have := hp.len
  have hv := vectors_eq (n := p.length) (by omega)
  simp [b__law_states, plantD]
  rw [hv]
  simp
  refine comp_filterB (fitsB p) rowD (fun r hr => ?_) ?_
  · have := law_fits_eq hp r
    unfold plantD at this
    simp [compF, this]
  · rfl
theorem mem_statesOf {p : List Lock} {r : List Bool} : r ∈ statesOf p ↔ r.length = p.length ∧ fitsB p r = true := by
  unfold statesOf
  rw [List.mem_filter, vecs_mem]
theorem st_of {p : List Lock} {r : List Bool} (h : r ∈ statesOf p) : isSt p (rowD r) = true := by
  obtain ⟨h1, h2⟩ := mem_statesOf.mp h
  rw [isSt_row, h1, h2]; simp
theorem truth_list' (l : List D) : truth (.list l) = some (!l.isEmpty) := rfl
/-- a drawn plant with its states and one of them -/
def someD (p : List Lock) (r : List Bool) : D := .tuple [plantD p, .list ((statesOf p).map rowD), rowD r]
theorem drawn_one : Drawn 1 [("a", [], [])] := ⟨by decide, by decide, rfl, by decide +kernel, by decide +kernel, by decide +kernel⟩
theorem Drawn.mono {m m' : Nat} {p : List Lock} (h : Drawn m p) (hm : m ≤ m') : Drawn m' p := ⟨h.pos, Nat.le_trans h.len hm, h.asc, h.nms, h.fst, h.snd⟩
theorem states_one : statesOf [("a", [], [])] = [[false], [true]] := by decide +kernel
theorem some_wp {ns : List Int} (hns : ns.length ≤ 63) {m : Nat} (hm : 1 ≤ m) (hm8 : m ≤ 8) : Wp (f__law_some [scr ns, tok, .int m]) 9000 (fun d => ∃ p r, d = someD p r ∧ Drawn m p ∧ r ∈ statesOf p) := by
  unfold f__law_some
  rw [run_eq rfl]
  conv => arg 1; simp [b__law_some, limv, rangeL]
  refine Wp.forR _ (fun env => ∃ s3 s4 s5, env = [.val (scr ns), .val tok, .val (.int m), s3, s4, s5]) (fun d => ∃ p r, d = someD p r ∧ Drawn m p ∧ r ∈ statesOf p) 410 ⟨_, _, _, rfl⟩ (by simp) ?_ ?_ ?_
  · rintro a - env ⟨s3, s4, s5, rfl⟩
    refine ⟨_, rfl, ?_⟩
    conv => arg 1; simp [limv]
    refine Wp.bindB (plant_wp hns hm) (by decide) fun d hd => ?_
    obtain ⟨p, rfl, hp⟩ := hd
    have ok := hp.ok hm8
    conv => arg 1; simp [law_states_eq ok.sized]
    by_cases he : statesOf p = []
    · conv => arg 1; simp [he]
      exact .pure (Or.inl ⟨rfl, _, _, _, rfl⟩)
    · conv => arg 1; simp [he]
      refine Wp.bindB (pick_wp hns (l := (statesOf p).map rowD) (by simpa using he)) (by decide) fun d hd => ?_
      obtain ⟨r, hr, rfl⟩ := List.mem_map.mp hd
      exact .pure (Or.inr ⟨_, rfl, p, r, rfl, hp, hr⟩)
  · rintro env ⟨s3, s4, s5, rfl⟩
    conv => arg 1; simp [limv]
    refine .pure ⟨[("a", [], [])], [false], ?_, drawn_one.mono hm, by rw [states_one]; simp⟩
    unfold someD
    rw [states_one]
    rfl
  · rintro v env hv
    conv => arg 1; simp
    exact .pure hv
theorem mem_keys_len {s : Str} (h : s ∈ drawnKeys) : s.length ≤ 4 := word_len (drawnK_words s h)
theorem mem_names_len {s : Str} (h : s ∈ drawnNames) : s.length ≤ 4 := word_len (drawn_words s h)
/-! same -/
def plain : Nat → D → Bool
  | _, .none => true
  | _, .bool _ => true
  | _, .int _ => true
  | _, .str _ => true
  | n + 1, .tuple l => l.all (plain n)
  | _, _ => false
theorem plain_dep : ∀ {n : Nat} {d : D}, plain n d = true → dep n d = true
  | n, .none, _ => by cases n <;> rfl
  | n, .bool _, _ => by cases n <;> rfl
  | n, .int _, _ => by cases n <;> rfl
  | n, .str _, _ => by cases n <;> rfl
  | 0, .tuple _, h => by cases h
  | n, .list _, h => by cases n <;> cases h
  | n, .dict _, h => by cases n <;> cases h
  | n + 1, .tuple l, h => by
    have h : l.all (plain n) = true := h
    show l.all (dep n) = true
    rw [List.all_eq_true] at h ⊢
    exact fun x hx => plain_dep (h x hx)
theorem same_refl : ∀ (n fu : Nat) (d : D), n < fu → plain n d = true → f__law_same fu [d, d] = pure (.bool true) := by
  intro n
  induction n with
  | zero =>
    intro fu d hfu hd
    obtain ⟨fu, rfl⟩ : ∃ k, fu = k + 1 := ⟨fu - 1, by omega⟩
    rw [f__law_same, run_eq rfl]
    cases d with
    | tuple l => cases hd
    | list l => cases hd
    | dict l => cases hd
    | _ => simp [b__law_same, typ, notNone]
  | succ n ih =>
    intro fu d hfu hd
    obtain ⟨fu, rfl⟩ : ∃ k, fu = k + 1 := ⟨fu - 1, by omega⟩
    rw [f__law_same, run_eq rfl]
    cases d with
    | tuple l =>
      have hl : ∀ x ∈ l, plain n x = true := List.all_eq_true.mp hd
      simp [b__law_same, typ, notNone]
      refine comp_mapB (fun _ => .bool true) (fun x hx => ?_) ?_
      · have e : x.1 = x.2 := by
          have := List.of_mem_zip hx
          obtain ⟨i, hi, rfl⟩ := List.mem_iff_getElem.mp hx
          simp
        have hm := (List.of_mem_zip hx).1
        have := ih fu x.1 (by omega) (hl _ hm)
        rw [e] at this
        simp [compF, e, this]
      · have := boolsOf_map (fun _ : D × D => true) (l.zip l)
        simp [this]
        congr 2
        simp
    | list l => cases hd
    | dict l => cases hd
    | _ => simp [b__law_same, typ, notNone]
/-! what is refused -/
section
variable {n : Nat} {p : List Lock} {d w e : D}
theorem holder_badst (hp : OkP p) (hw : nice n w = true) (h : isSt p w = false) : f_holder [plantD p, w, e] = throwX "InvalidState" := by
  unfold f_holder
  rw [run_eq rfl]
  simp [b_holder, require_state_eq hp hw, h]
theorem free_badst (hp : OkP p) (hw : nice n w = true) (h : isSt p w = false) : f_free_keys [plantD p, w] = throwX "InvalidState" := by
  unfold f_free_keys
  rw [run_eq rfl]
  simp [b_free_keys, require_state_eq hp hw, h]
theorem holder_badpl (hd : nice n d = true) (h : isPlant d = false) : f_holder [d, w, e] = throwX "InvalidPlant" := by
  unfold f_holder
  rw [run_eq rfl]
  simp [b_holder, require_state_no hd h]
theorem free_badpl (hd : nice n d = true) (h : isPlant d = false) : f_free_keys [d, w] = throwX "InvalidPlant" := by
  unfold f_free_keys
  rw [run_eq rfl]
  simp [b_free_keys, require_state_no hd h]
theorem isPlant_lock (l : Lock) : isPlant (lockD l) = false := by
  have : List.all [PyData.str l.1, .tuple (l.2.1.map .str), .tuple (l.2.2.map .str)] isLock = false := by
    rw [List.all_cons, show isLock (.str l.1) = false from rfl]; rfl
  unfold lockD isPlant
  simp only [this, Bool.and_false, Bool.false_and]
theorem nice_lockOf (hp : OkP p) {l : Lock} (hl : l ∈ p) (n : Nat) : nice (n + 2) (lockD l) = true := nice_lock n ((okP_iff.mp hp).2.1 l hl)
/-- data that are no state, for whatever plant of that length -/
structure BadSt (p : List Lock) (w : D) : Prop where
  nice : nice 2 w = true
  no : isSt p w = false
theorem bad_none : BadSt p .none := ⟨rfl, rfl⟩
theorem bad_int (i : Int) : BadSt p (.int i) := ⟨rfl, rfl⟩
theorem bad_list {r : List Bool} (hl : r.length ≤ 1000) : BadSt p (.list (r.map bD)) := ⟨by
  simp only [TK.P.nice, Bool.and_eq_true, decide_eq_true_eq, List.all_eq_true, List.length_map]
  refine ⟨hl, fun x hx => ?_⟩
  obtain ⟨b, _, rfl⟩ := List.mem_map.mp hx
  rfl, rfl⟩
theorem bad_len {r : List Bool} (hl : r.length ≤ 1000) (h : r.length ≠ p.length) : BadSt p (rowD r) := ⟨nice_row r hl 1, by rw [isSt_row]; simp [h]⟩
theorem bad_head {x : D} {r : List Bool} (hl : r.length < 1000) (hx : TK.P.nice 1 x = true) (h : isBit x = false) : BadSt p (.tuple (x :: r.map bD)) := ⟨by
  simp only [TK.P.nice, Bool.and_eq_true, decide_eq_true_eq, List.all_eq_true, List.length_cons, List.length_map]
  refine ⟨by omega, fun y hy => ?_⟩
  rcases List.mem_cons.mp hy with rfl | hy
  · exact hx
  · obtain ⟨b, _, rfl⟩ := List.mem_map.mp hy
    rfl, by
  have : List.all (x :: r.map bD) isBit = false := by rw [List.all_cons, h]; rfl
  unfold isSt
  simp only [this, Bool.and_false, Bool.false_and]⟩
theorem bad_fits {r : List Bool} (hl : r.length ≤ 1000) (h : fitsB p r = false) : BadSt p (rowD r) := ⟨nice_row r hl 1, by rw [isSt_row, h]; simp⟩
theorem BadSt.tuple0 (hp : 1 ≤ p.length) : BadSt p (.tuple []) := ⟨rfl, by
  have : decide (([] : List D).length = p.length) = false := decide_eq_false (by simp; omega)
  unfold isSt
  simp only [this, Bool.and_false, Bool.false_and]⟩
end
end TK.P

/-! dicts whose keys and values stand for values of a type -/
namespace TK.P
open PySem TK L2
section
variable {κ ν : Type} [DecidableEq κ]
def putA (l : List (κ × ν)) (k : κ) (v : ν) : List (κ × ν) :=
  if (l.any fun p => decide (p.1 = k)) = true then l.map (fun p => if p.1 = k then (p.1, v) else p) else l ++ [(k, v)]
def getA : List (κ × ν) → κ → Option ν
  | [], _ => none
  | p :: r, k => if p.1 = k then some p.2 else getA r k
theorem getA_none {l : List (κ × ν)} {k : κ} : getA l k = none ↔ ∀ p ∈ l, p.1 ≠ k := by
  induction l with
  | nil => simp [getA]
  | cons p r ih =>
    by_cases h : p.1 = k
    · simp [getA, h]
    · simp [getA, h, ih]
theorem getA_put (l : List (κ × ν)) (k : κ) (v : ν) (k' : κ) : getA (putA l k v) k' = if k' = k then some v else getA l k' := by
  unfold putA
  split
  · rename_i h
    induction l with
    | nil => simp at h
    | cons p r ih =>
      rw [List.map_cons]
      by_cases hp : p.1 = k
      · by_cases hk : k' = k
        · subst hk; simp [getA, hp]
        · rw [if_neg hk, if_pos hp, getA, getA]
          have h1 : ¬ p.1 = k' := fun e => hk (by rw [← e, hp])
          rw [if_neg h1, if_neg h1]
          by_cases hr : (r.any fun p => decide (p.1 = k)) = true
          · have := ih hr
            rw [if_neg hk] at this
            exact this
          · have : (r.map fun p => if p.1 = k then (p.1, v) else p) = r := by
              conv => rhs; rw [← List.map_id r]
              refine List.map_congr_left fun q hq => ?_
              have : ¬ q.1 = k := fun e => hr (List.any_eq_true.mpr ⟨q, hq, by simp [e]⟩)
              rw [if_neg this]; rfl
            rw [this]
      · rw [if_neg hp, getA, getA]
        have hr : (r.any fun p => decide (p.1 = k)) = true := by simpa [hp] using h
        have := ih hr
        rw [this]
        by_cases h1 : p.1 = k'
        · rw [if_pos h1, if_pos h1, if_neg (fun e => hp (by rw [h1, e]))]
        · rw [if_neg h1, if_neg h1]
  · rename_i h
    have hn : ∀ p ∈ l, p.1 ≠ k := fun p hp e => h (List.any_eq_true.mpr ⟨p, hp, by simp [e]⟩)
    induction l with
    | nil => simp [getA, eq_comm]
    | cons p r ih =>
      rw [List.cons_append, getA, getA]
      have := ih (by intro q; exact h (by simp at q ⊢; exact .inr q)) fun q hq => hn q (List.mem_cons_of_mem _ hq)
      rw [this]
      have hp := hn p List.mem_cons_self
      by_cases h1 : p.1 = k'
      · rw [if_pos h1, if_pos h1, if_neg (fun e => hp (by rw [h1, e]))]
      · rw [if_neg h1, if_neg h1]
theorem putA_len (l : List (κ × ν)) (k : κ) (v : ν) : (putA l k v).length ≤ l.length + 1 := by
  unfold putA
  split
  · rw [List.length_map]; omega
  · rw [List.length_append]; exact Nat.le_refl _
variable {f : κ → D} {g : ν → D} {n : Nat}
def encP (f : κ → D) (g : ν → D) (p : κ × ν) : D × D := (f p.1, g p.2)
theorem putD_enc [Enc f n] (l : List (κ × ν)) (k : κ) (v : ν) : putD (l.map (encP f g)) (f k) (g v) = (putA l k v).map (encP f g) := by
  unfold putD putA
  have : ((l.map (encP f g)).any fun p => PyData.eqv p.1 (f k)) = l.any fun p => decide (p.1 = k) := by
    rw [List.any_map]
    congr 1
    funext p
    exact Enc.eq p.1 k
  rw [this]
  split
  · rw [List.map_map, List.map_map]
    refine List.map_congr_left fun p _ => ?_
    simp only [Function.comp, encP, Enc.eq (f := f)]
    by_cases h : p.1 = k <;> simp [h]
  · rw [List.map_append]; rfl
theorem getD_enc [Enc f n] : ∀ (l : List (κ × ν)) (k : κ), getD (l.map (encP f g)) (f k) = (getA l k).map g
  | [], k => rfl
  | p :: r, k => by
    rw [List.map_cons]
    show (if PyData.eqv (f p.1) (f k) = true then some (g p.2) else getD (r.map (encP f g)) (f k)) = _
    rw [Enc.eq, getD_enc r k, getA]
    by_cases h : p.1 = k <;> simp [h]
end
section
variable {ν : Type} {g : ν → D}
@[simp] theorem mkD_f (l : List (D × D)) : mkD false l = .dict l := rfl
theorem dictV_str (l : List (Str × ν)) : dictV (.dict (l.map (encP .str g))) = some (false, l.map (encP .str g)) := by cases l <;> rfl
theorem dictV_int (l : List (Int × ν)) : dictV (.dict (l.map (encP .int g))) = some (false, l.map (encP .int g)) := by cases l <;> rfl
theorem look_str (l : List (Str × ν)) (k : Str) : lookD (.dict (l.map (encP .str g))) (.str k) = some ((getA l k).map g) := by
  unfold lookD
  rw [dictV_str]
  show some (getD (l.map (encP .str g)) (.str k)) = _
  rw [getD_enc]
theorem look_int (l : List (Int × ν)) (k : Int) : lookD (.dict (l.map (encP .int g))) (.int k) = some ((getA l k).map g) := by
  unfold lookD
  rw [dictV_int]
  show some (getD (l.map (encP .int g)) (.int k)) = _
  rw [getD_enc]
theorem store_str (l : List (Str × ν)) (k : Str) (v : ν) (h : l.length < lim) : storeD (.dict (l.map (encP .str g))) (.str k) (g v) = some (.dict ((putA l k v).map (encP .str g))) := by
  unfold storeD
  simp only [dictV_str, Option.bind_some]
  rw [if_pos]
  · show some (PyData.dict (putD _ _ _)) = _
    rw [putD_enc]
  · simp [keyFor, h]
theorem store_int (l : List (Int × ν)) (k : Int) (v : ν) (h : l.length < lim) : storeD (.dict (l.map (encP .int g))) (.int k) (g v) = some (.dict ((putA l k v).map (encP .int g))) := by
  unfold storeD
  simp only [dictV_int, Option.bind_some]
  rw [if_pos]
  · show some (PyData.dict (putD _ _ _)) = _
    rw [putD_enc]
  · simp [keyFor, h]
end
end TK.P

/-! names, rows, turning -/
namespace TK.P
open PySem TK L2
def namesOf (p : List Lock) : List Str := p.map (·.1)
theorem names_of_eq (p : List Lock) : f_names_of [plantD p] = pure (.list ((namesOf p).map .str)) := by
  unfold f_names_of
  rw [run_eq rfl]
  simp [b_names_of, plantD]
  refine comp_mapB (fun l : Lock => PyData.str l.1) (fun l hl => ?_) ?_
  · simp [compF]
  · simp [namesOf, Function.comp_def]
def isName (p : List Lock) : D → Bool
  | .str s => decide (s ∈ namesOf p)
  | _ => false
theorem require_lock_eq {n : Nat} (p : List Lock) {d : D} (h : nice n d = true) : f_require_lock [plantD p, d] = if isName p d = true then pure .none else throwX "InvalidLock" := by
  unfold f_require_lock
  rw [run_eq rfl]
  cases d with
  | dict l => cases n <;> cases h
  | str s =>
    simp [b_require_lock, names_of_eq, isName]
  | _ => simp [b_require_lock, names_of_eq, isName, typ]
/-! rows -/
@[simp high] theorem slc_row_hi (r : List Bool) (k : Nat) : slcD (rowD r) none (some (k : Int)) = some (rowD (r.take k)) := by
  show some (PyData.tuple (cut (r.map bD) none (some (k : Int)))) = _
  rw [cut_hi, ← List.map_take]; rfl
@[simp high] theorem slc_row_lo (r : List Bool) (k : Nat) : slcD (rowD r) (some (k : Int)) none = some (rowD (r.drop k)) := by
  show some (PyData.tuple (cut (r.map bD) (some (k : Int)) none)) = _
  rw [cut_lo, ← List.map_drop]; rfl
@[simp high] theorem slc_row_lo1 (r : List Bool) (k : Nat) : slcD (rowD r) (some ((k : Int) + 1)) none = some (rowD (r.drop (k + 1))) := slc_row_lo r (k + 1)
@[simp high] theorem slc_row_1 (r : List Bool) : slcD (rowD r) (some 1) none = some (rowD (r.drop 1)) := slc_row_lo r 1
theorem add_row {a b : List Bool} (h : a.length + b.length ≤ 1000) : app2 .add (rowD a) (rowD b) = some (rowD (a ++ b)) := by
  show (if (a.map bD).length + (b.map bD).length ≤ lim then some (PyData.tuple (a.map bD ++ b.map bD)) else none) = _
  rw [if_pos (by rw [limv, List.length_map, List.length_map]; omega), ← List.map_append]; rfl
theorem one_sub (b : Bool) : PyData.int (1 - bit b) = bD (!b) := by cases b <;> rfl
theorem row_one (b : Bool) : PyData.tuple [bD b] = rowD [b] := rfl
def flipB (r : List Bool) (i : Nat) : List Bool := r.set i (!r.getD i false)
@[simp] theorem flipB_len (r : List Bool) (i : Nat) : (flipB r i).length = r.length := by simp [flipB]
theorem getD_lt {r : List Bool} {i : Nat} (h : i < r.length) : r.getD i false = r[i] := by simp [List.getD, h]
theorem flip_eq {r : List Bool} {i : Nat} (h : i < r.length) : r.take i ++ [!r[i]] ++ r.drop (i + 1) = flipB r i := by
  rw [flipB, getD_lt h, List.set_eq_take_append_cons_drop, if_pos h]; simp
theorem flipped_eq {r : List Bool} {i : Nat} (h : i < r.length) (hl : r.length ≤ 500) : f_flipped [rowD r, .int i] = pure (rowD (flipB r i)) := by
  have e1 : app2 .add (rowD (r.take i)) (rowD [!r[i]]) = some (rowD (r.take i ++ [!r[i]])) := add_row (by simp; omega)
  have e2 : app2 .add (rowD (r.take i ++ [!r[i]])) (rowD (r.drop (i + 1))) = some (rowD (flipB r i)) := by
    rw [add_row (by simp; omega), flip_eq h]
  have e3 := ix_row h
  unfold f_flipped
  rw [run_eq rfl]
  simp [b_flipped, e3, limv, bD]
  rw [one_sub, row_one, e1]
  simp [e2]
theorem law_flip_eq {r : List Bool} {i : Nat} (h : i < r.length) (hl : r.length ≤ 500) : f__law_flip [rowD r, .int i] = pure (rowD (flipB r i)) := flipped_eq h hl
theorem is_turnable_eq {p : List Lock} (hp : Sized p) {r : List Bool} {i : Nat} (h : i < r.length) (hl : r.length ≤ 500) : f_is_turnable [plantD p, rowD r, .int i] = pure (.bool (fitsB p (flipB r i))) := by
  unfold f_is_turnable
  rw [run_eq rfl]
  simp [b_is_turnable, flipped_eq h hl, fits_eq hp]
theorem idxOf_enc {α : Type} [DecidableEq α] {f : α → D} {k : Nat} [Enc f k] : ∀ {l : List α} (hn : l.Nodup) {i : Nat} (h : i < l.length), idxOf (f l[i]) (l.map f) = some i
  | [], _, i, h => by simp at h
  | a :: l, hn, 0, h => by
    show (if PyData.eqv (f a) (f a) = true then some 0 else _) = _
    rw [Enc.eq (f := f)]; simp
  | a :: l, hn, i + 1, h => by
    have hi : i < l.length := by simpa using h
    show (if PyData.eqv (f a) (f l[i]) = true then some 0 else (idxOf (f l[i]) (l.map f)).map (· + 1)) = _
    have hne : a ≠ l[i] := fun e => (List.nodup_cons.mp hn).1 (e ▸ List.getElem_mem hi)
    rw [Enc.eq (f := f), idxOf_enc (List.nodup_cons.mp hn).2 hi]
    simp [hne]
theorem OkP.names {p : List Lock} (h : OkP p) : (namesOf p).Nodup := asc_nodup (okP_iff.mp h).2.2
theorem index_names {p : List Lock} (h : (namesOf p).Nodup) {i : Nat} (hi : i < p.length) : app2 .index (.list ((namesOf p).map .str)) (.str p[i].1) = some (.int i) := by
  have hi' : i < (namesOf p).length := by simpa [namesOf] using hi
  have e : p[i].1 = (namesOf p)[i] := by simp [namesOf]
  rw [e]
  show (if dep 60 (.str _) && ((namesOf p).map PyData.str).all (dep 60) then (idxOf (PyData.str (namesOf p)[i]) ((namesOf p).map .str)).map fun (j : Nat) => PyData.int (j : Int) else none) = _
  rw [idxOf_enc h hi', all_dep (f := PyData.str) (by decide)]
  rfl
theorem name_in {p : List Lock} {i : Nat} (hi : i < p.length) : isName p (.str p[i].1) = true := by
  simp only [isName, namesOf, decide_eq_true_eq, List.mem_map]
  exact ⟨p[i], List.getElem_mem hi, rfl⟩
theorem OkP.nice_name {p : List Lock} (h : OkP p) {i : Nat} (hi : i < p.length) : TK.P.nice 0 (PyData.str p[i].1) = true := by
  have := word_len ((okP_iff.mp h).2.1 p[i] (List.getElem_mem hi)).1
  simp [TK.P.nice]; omega
section
variable {n : Nat} {p : List Lock} {r : List Bool} {d w e : D}
theorem st_len (hr : isSt p (rowD r) = true) : r.length = p.length := by
  rw [isSt_row] at hr; simp at hr; exact hr.1
theorem st_fits (hr : isSt p (rowD r) = true) : fitsB p r = true := by
  rw [isSt_row] at hr; simp at hr; exact hr.2
theorem require_state_ok (hp : OkP p) (hr : isSt p (rowD r) = true) : f_require_state [plantD p, rowD r] = pure .none := by
  have := (okP_iff.mp hp).1
  rw [require_state_eq hp (nice_row r (by rw [st_len hr]; omega) 0), if_pos hr]
theorem can_turn_eq (hp : OkP p) (hr : isSt p (rowD r) = true) {i : Nat} (hi : i < p.length) : f_can_turn [plantD p, rowD r, .str p[i].1] = pure (.bool (fitsB p (flipB r i))) := by
  have hl := st_len hr
  have := (okP_iff.mp hp).1
  have e1 := require_lock_eq p (hp.nice_name hi)
  rw [if_pos (name_in hi)] at e1
  unfold f_can_turn
  rw [run_eq rfl]
  simp [b_can_turn, require_state_ok hp hr, e1, names_of_eq, index_names hp.names hi, is_turnable_eq hp.sized (r := r) (i := i) (by omega) (by omega)]
theorem can_turn_badlock (hp : OkP p) (hr : isSt p (rowD r) = true) (hd : nice n d = true) (h : isName p d = false) : f_can_turn [plantD p, rowD r, d] = throwX "InvalidLock" := by
  have e1 := require_lock_eq p hd
  rw [h] at e1
  unfold f_can_turn
  rw [run_eq rfl]
  simp [b_can_turn, require_state_ok hp hr, e1]
theorem can_turn_badst (hp : OkP p) (hw : nice n w = true) (h : isSt p w = false) : f_can_turn [plantD p, w, e] = throwX "InvalidState" := by
  unfold f_can_turn
  rw [run_eq rfl]
  simp [b_can_turn, require_state_eq hp hw, h]
theorem can_turn_badpl (hd : nice n d = true) (h : isPlant d = false) : f_can_turn [d, w, e] = throwX "InvalidPlant" := by
  unfold f_can_turn
  rw [run_eq rfl]
  simp [b_can_turn, require_state_no hd h]
theorem turned_eq (hp : OkP p) (hr : isSt p (rowD r) = true) {i : Nat} (hi : i < p.length) : f_turned [plantD p, rowD r, .str p[i].1] = if fitsB p (flipB r i) = true then pure (rowD (flipB r i)) else throwX "Blocked" := by
  have hl := st_len hr
  have := (okP_iff.mp hp).1
  unfold f_turned
  rw [run_eq rfl]
  cases hf : fitsB p (flipB r i) <;> simp [b_turned, can_turn_eq hp hr hi, names_of_eq, index_names hp.names hi, flipped_eq (r := r) (i := i) (by omega) (by omega), hf]
theorem turned_throw {c : Str} (h : f_can_turn [d, w, e] = throwX c) : f_turned [d, w, e] = throwX c := by
  unfold f_turned
  rw [run_eq rfl]
  simp [b_turned, h]
/-- the keys of the other position of a lock that others hold -/
def hAt (p : List Lock) (r : List Bool) (j : Nat) : List Str := held (p.getD j ("", [], [])) (r.getD j false)
theorem hAt_lt (hl : r.length = p.length) {j : Nat} (h : j < p.length) : hAt p r j = held p[j] (r[j]'(by omega)) := by
  simp [hAt, List.getD, h, hl]
def othersB (p : List Lock) (r : List Bool) (i : Nat) (k : Str) : Bool := (List.range p.length).any fun j => decide (j ≠ i) && decide (k ∈ hAt p r j)
def missOf (p : List Lock) (r : List Bool) (i : Nat) : List Str := (held (p.getD i ("", [], [])) (!r.getD i false)).filter (othersB p r i)
theorem zip_get (hl : r.length = p.length) {j : Nat} (h : j < p.length) : (p.zip r)[j]'(by rw [List.length_zip]; omega) = (p[j], r[j]'(by omega)) := by simp
theorem nodup_flat_uniq {α : Type} (f : α → List Str) : ∀ {l : List α}, (l.map f).flatten.Nodup → ∀ {i j : Nat} (hi : i < l.length) (hj : j < l.length) {k : Str}, k ∈ f l[i] → k ∈ f l[j] → i = j
  | [], _, i, _, hi, _, _, _, _ => by simp at hi
  | a :: l, hn, i, j, hi, hj, k, h1, h2 => by
    rw [List.map_cons, List.flatten_cons, List.nodup_append] at hn
    have far : ∀ {m : Nat} (hm : m < l.length), k ∈ f l[m] → k ∈ (l.map f).flatten := fun hm h => List.mem_flatten.mpr ⟨_, List.mem_map.mpr ⟨_, List.getElem_mem hm, rfl⟩, h⟩
    cases i with
    | zero =>
      cases j with
      | zero => rfl
      | succ j => exact absurd rfl (hn.2.2 k h1 k (far (by simpa using hj) h2))
    | succ i =>
      cases j with
      | zero => exact absurd rfl (hn.2.2 k h2 k (far (by simpa using hi) h1))
      | succ j => rw [nodup_flat_uniq f hn.2.1 (by simpa using hi) (by simpa using hj) h1 h2]
theorem holderP_of (hl : r.length = p.length) (hn : fitsB p r = true) {j : Nat} (hj : j < p.length) {k : Str} (hk : k ∈ hAt p r j) : holderP (p.zip r) k = some p[j].1 := by
  rw [hAt_lt hl hj] at hk
  have hn' : ((p.zip r).map fun x => held x.1 x.2).flatten.Nodup := of_decide_eq_true hn
  have hjz : j < (p.zip r).length := by rw [List.length_zip]; omega
  cases e : holderP (p.zip r) k with
  | none =>
    unfold holderP at e
    rw [List.findSome?_eq_none_iff] at e
    have := e _ (List.getElem_mem hjz)
    rw [zip_get hl hj] at this
    simp [hk] at this
  | some nm =>
    unfold holderP at e
    obtain ⟨x, hx, hx2⟩ := List.exists_of_findSome?_eq_some e
    obtain ⟨m, hm, rfl⟩ := List.mem_iff_getElem.mp hx
    split at hx2
    · rename_i hk2
      have := nodup_flat_uniq (fun x : Lock × Bool => held x.1 x.2) hn' (i := m) (j := j) hm hjz hk2 (by rw [zip_get hl hj]; exact hk)
      subst this
      rw [zip_get hl hj] at hx2
      exact hx2.symm ▸ rfl
    · cases hx2
theorem holderP_no (hl : r.length = p.length) {k : Str} (h : ∀ j, j < p.length → k ∉ hAt p r j) : holderP (p.zip r) k = none := by
  unfold holderP
  rw [List.findSome?_eq_none_iff]
  intro x hx
  obtain ⟨m, hm, rfl⟩ := List.mem_iff_getElem.mp hx
  have hm' : m < p.length := by rw [List.length_zip] at hm; omega
  have := h m hm'
  rw [hAt_lt hl hm'] at this
  rw [zip_get hl hm']
  simp [this]
theorem othersB_iff {i : Nat} {k : Str} : othersB p r i k = true ↔ ∃ j, j < p.length ∧ j ≠ i ∧ k ∈ hAt p r j := by
  simp [othersB, and_assoc]
def farB (nm : Str) : Option Str → Bool
  | none => false
  | some x => !decide (x = nm)
theorem notin_two (o : Option Str) (nm : Str) : app2 .notin (optD o) (.tuple [.none, .str nm]) = some (.bool (farB nm o)) := by
  cases o with
  | none => rfl
  | some x =>
    show (if dep 60 (PyData.str x) && [PyData.none, PyData.str nm].all (dep 60) then some (PyData.bool (![PyData.none, PyData.str nm].any fun y => PyData.eqv y (PyData.str x))) else none) = _
    rw [if_pos (show (dep 60 (PyData.str x) && [PyData.none, PyData.str nm].all (dep 60)) = true from rfl)]
    simp [farB, PyData.eqv, eq_comm]
    rfl
theorem far_others (hl : r.length = p.length) (hn : fitsB p r = true) (hd : (namesOf p).Nodup) {i : Nat} (hi : i < p.length) (k : Str) : farB p[i].1 (holderP (p.zip r) k) = othersB p r i k := by
  rw [Bool.eq_iff_iff, othersB_iff]
  constructor
  · intro h
    by_cases hx : ∃ j, j < p.length ∧ k ∈ hAt p r j
    · obtain ⟨j, hj, hk⟩ := hx
      refine ⟨j, hj, fun e => ?_, hk⟩
      subst e
      rw [holderP_of hl hn hj hk] at h
      simp [farB] at h
    · rw [holderP_no hl fun j hj hk => hx ⟨j, hj, hk⟩] at h
      cases h
  · rintro ⟨j, hj, hne, hk⟩
    rw [holderP_of hl hn hj hk]
    simp only [farB, Bool.not_eq_true', decide_eq_false_iff_not]
    intro e
    apply hne
    have h1 : (namesOf p)[j]'(by simpa [namesOf] using hj) = (namesOf p)[i]'(by simpa [namesOf] using hi) := by simpa [namesOf] using e
    exact (List.getElem_inj hd).mp h1
theorem held_by_other (l : Lock) (b : Bool) : f_held_by [lockD l, .int (1 - bit b)] = pure (.tuple ((held l (!b)).map .str)) := by
  rw [one_sub, held_by_eq]
theorem missing_eq (hp : OkP p) (hr : isSt p (rowD r) = true) {i : Nat} (hi : i < p.length) : f_missing [plantD p, rowD r, .str p[i].1] = pure (.list ((missOf p r i).map .str)) := by
  have hl := st_len hr
  have := (okP_iff.mp hp).1
  have e1 := require_lock_eq p (hp.nice_name hi)
  rw [if_pos (name_in hi)] at e1
  have e2 : app2 .ix (rowD r) (.int i) = some (bD (r[i]'(by omega))) := ix_row (by omega)
  have e3 := ix_plant hi
  unfold f_missing
  rw [run_eq rfl]
  simp [b_missing, require_state_ok hp hr, e1, names_of_eq, index_names hp.names hi, e2, e3, bD, held_by_other]
  refine comp_filterB (othersB p r i) PyData.str (fun k hk => ?_) ?_
  · simp [compF, limv, holder_of_eq, notin_two, far_others hl (st_fits hr) hp.names hi]
  · simp [missOf, List.getD, hi, hl]
theorem missing_badlock (hp : OkP p) (hr : isSt p (rowD r) = true) (hd : nice n d = true) (h : isName p d = false) : f_missing [plantD p, rowD r, d] = throwX "InvalidLock" := by
  have e1 := require_lock_eq p hd
  rw [h] at e1
  unfold f_missing
  rw [run_eq rfl]
  simp [b_missing, require_state_ok hp hr, e1]
theorem missing_badst (hp : OkP p) (hw : nice n w = true) (h : isSt p w = false) : f_missing [plantD p, w, e] = throwX "InvalidState" := by
  unfold f_missing
  rw [run_eq rfl]
  simp [b_missing, require_state_eq hp hw, h]
theorem missing_badpl (hd : nice n d = true) (h : isPlant d = false) : f_missing [d, w, e] = throwX "InvalidPlant" := by
  unfold f_missing
  rw [run_eq rfl]
  simp [b_missing, require_state_no hd h]
/-- the names of the locks that can be turned -/
def turnL (p : List Lock) (r : List Bool) : List Str := ((List.range p.length).filter fun i => fitsB p (flipB r i)).map fun i => (p.getD i ("", [], [])).1
theorem enum_map {α : Type} (f : α → D) (l : List α) (d : α) : walkL .enum [.tuple (l.map f)] = some ((List.range l.length).map fun i => .tuple [.int (i : Int), f (l.getD i d)]) := by
  show some (((l.map f).zipIdx).map fun p => PyData.tuple [.int (p.2 : Nat), p.1]) = _
  congr 1
  apply List.ext_getElem
  · simp
  · intro i h1 h2
    have : i < l.length := by simpa using h1
    simp [List.getD, this]
theorem turnable_eq (hp : OkP p) (hr : isSt p (rowD r) = true) : f_turnable [plantD p, rowD r] = pure (.list ((turnL p r).map .str)) := by
  have hl := st_len hr
  have := (okP_iff.mp hp).1
  have e1 : walkL .enum [plantD p] = _ := enum_map lockD p ("", [], [])
  unfold f_turnable
  rw [run_eq rfl]
  simp [b_turnable, require_state_ok hp hr, e1]
  refine comp_filterB (fun i => fitsB p (flipB r i)) (fun i => PyData.str (p.getD i ("", [], [])).1) (fun i hi => ?_) ?_
  · have hi : i < p.length := List.mem_range.mp hi
    simp [compF, is_turnable_eq hp.sized (r := r) (i := i) (by omega) (by omega)]
  · simp [turnL, Function.comp_def]
theorem turnable_badst (hp : OkP p) (hw : nice n w = true) (h : isSt p w = false) : f_turnable [plantD p, w] = throwX "InvalidState" := by
  unfold f_turnable
  rw [run_eq rfl]
  simp [b_turnable, require_state_eq hp hw, h]
theorem turnable_badpl (hd : nice n d = true) (h : isPlant d = false) : f_turnable [d, w] = throwX "InvalidPlant" := by
  unfold f_turnable
  rw [run_eq rfl]
  simp [b_turnable, require_state_no hd h]
/-- what the law looks for by hand -/
def othersL (p : List Lock) (r : List Bool) (i : Nat) (js : List Nat) : List Str := (js.map fun j => if j = i then [] else hAt p r j).flatten
theorem othersL_snoc {i j : Nat} (js : List Nat) : othersL p r i (js ++ [j]) = othersL p r i js ++ (if j = i then [] else hAt p r j) := by simp [othersL]
theorem othersL_len (hp : Sized p) (i : Nat) : ∀ (js : List Nat), (∀ j ∈ js, j < p.length) → (othersL p r i js).length ≤ 6 * js.length := fun js h => by
  refine flat_len _ js fun j hj => ?_
  split
  · simp
  · have hj := h j hj
    have : p.getD j ("", [], []) ∈ p := by rw [List.getD, List.getElem?_eq_getElem hj]; exact List.getElem_mem hj
    exact held_len hp.keys this _
theorem mem_othersL {i : Nat} {k : Str} : decide (k ∈ othersL p r i (List.range p.length)) = othersB p r i k := by
  rw [Bool.eq_iff_iff, othersB_iff, decide_eq_true_eq]
  unfold othersL
  rw [List.mem_flatten]
  constructor
  · rintro ⟨l, hl, hk⟩
    obtain ⟨j, hj, rfl⟩ := List.mem_map.mp hl
    split at hk
    · simp at hk
    · rename_i hne
      exact ⟨j, List.mem_range.mp hj, hne, hk⟩
  · rintro ⟨j, hj, hne, hk⟩
    exact ⟨_, List.mem_map.mpr ⟨j, List.mem_range.mpr hj, rfl⟩, by rw [if_neg hne]; exact hk⟩
@[simp] theorem ix_lock_2 (l : Lock) (b : Bool) : app2 .ix (lockD l) (.int (2 - bit b)) = some (.tuple ((held l (!b)).map .str)) := by cases b <;> rfl
theorem needs_eq (hp : Sized p) (hl : r.length = p.length) {i : Nat} (hi : i < p.length) : f__law_needs [plantD p, rowD r, .int i] = pure (.list ((missOf p r i).map .str)) := by
  have hp8 := hp.len
  have e0 : app1 .len (plantD p) = some (.int p.length) := by simp [plantD]
  unfold f__law_needs
  rw [run_eq rfl]
  simp [b__law_needs, e0, limv, rangeL]
  rw [if_pos (by omega)]
  simp
  refine forL_preB (τ := Slot) (fun done t => [.val (plantD p), .val (rowD r), .val (.int i), .val (.list ((othersL p r i done).map .str)), t, .no]) .no rfl ?_ ?_
  · intro done j rest hsp t
    refine ⟨_, .val (.int j), rfl, ?_⟩
    have hmem : ∀ x ∈ done, x < p.length := fun x hx => List.mem_range.mp (by rw [hsp]; simp [hx])
    have hj : j < p.length := List.mem_range.mp (by rw [hsp]; simp)
    have e1 := ix_plant hj
    have e2 : app2 .ix (rowD r) (.int j) = some (bD (r[j]'(by omega))) := ix_row (by omega)
    have hlen := othersL_len (r := r) hp i done hmem
    have hdl : done.length ≤ 8 := by
      have := congrArg List.length hsp
      simp at this; omega
    have hh : (hAt p r j).length ≤ 6 := by rw [hAt_lt hl hj]; exact held_len hp.keys (List.getElem_mem hj) _
    have hh' := hh
    rw [hAt_lt hl hj] at hh'
    by_cases hji : j = i
    · subst hji
      simp [othersL_snoc]
    · have hji' : ¬ ((j : Int) = (i : Int)) := by omega
      simp [hji', hji, e1, e2, bD, limv, othersL_snoc, hAt_lt hl hj]
      rw [if_pos (by omega)]
      simp
  · intro t
    have e1 := ix_plant hi
    have e2 : app2 .ix (rowD r) (.int i) = some (bD (r[i]'(by omega))) := ix_row (by omega)
    simp [e1, e2, bD]
    refine comp_filterB (othersB p r i) PyData.str (fun k hk => ?_) ?_
    · simp [compF, mem_othersL]
    · simp [missOf, List.getD, hi, hl]
@[simp] theorem mul_l0 (x : D) : app2 .mul (.list [x]) (.int 0) = some (.list []) := rfl
@[simp] theorem mul_l1 (x : D) : app2 .mul (.list [x]) (.int 1) = some (.list [x]) := rfl
end
end TK.P

/-! settings -/
namespace TK.P
open PySem TK L2
@[simp] theorem ltD_i (i j : Int) : ltD (.int i) (.int j) = some (decide (i < j)) := by
  simp [ltD, PySem.W.alike, notNone, dep, PySem.W.dataLt, PySem.W.keyToks, PyProof.Rows.lexLt, PyProof.Rows.itemLt]
abbrev Pos := Str × Bool
def posD (x : Pos) : D := .tuple [.str x.1, bD x.2]
def setD (x : List Pos) : D := .tuple (x.map posD)
instance : Enc posD 1 := ⟨fun a b => by
  obtain ⟨a1, a2⟩ := a
  obtain ⟨b1, b2⟩ := b
  unfold posD
  rw [PyData.eqv]
  simp only [PyData.eqvAll]
  rw [Enc.eq (f := PyData.str), Enc.eq (f := bD)]
  simp [Prod.ext_iff], fun a => rfl⟩
instance : Enc setD 2 := ⟨fun a b => by unfold setD; rw [PyData.eqv, eqvAll_map], fun a => dep_map a⟩
@[simp] theorem ix_pos0 (x : Pos) : app2 .ix (posD x) (.int 0) = some (.str x.1) := rfl
@[simp] theorem ix_pos1 (x : Pos) : app2 .ix (posD x) (.int 1) = some (bD x.2) := rfl
@[simp high] theorem asg_pos (ts : List Tg) (x : Pos) (e : Env) : asgT (.t ts) (posD x) e = asgTs ts [.str x.1, bD x.2] e := rfl
section
variable {n : Nat} {p : List Lock} {d : D}
def isPos (p : List Lock) : D → Bool
  | .tuple [.str s, x] => decide (s ∈ namesOf p) && isBit x
  | _ => false
theorem is_position_eq (h : nice n d = true) : f_is_position [plantD p, d] = pure (.bool (isPos p d)) := by
  unfold f_is_position
  rw [run_eq rfl]
  cases d with
  | dict l => cases n <;> cases h
  | tuple l =>
    obtain ⟨m, rfl, _, hl⟩ := nice_tup h
    match l with
    | [] => simp [b_is_position, isPos]
    | [a] => simp [b_is_position, isPos]
    | [a, b] =>
      have hb := is_integer_eq (nice_nodict (hl b (by simp)))
      have ha := nice_nodict (hl a (by simp))
      have h0 : atI [a, b] 0 = some a := rfl
      have h1 : atI [a, b] 1 = some b := rfl
      cases a with
      | dict l => exact absurd rfl (ha l)
      | str s =>
        simp [b_is_position, isPos, names_of_eq, hb, h0, h1]
      | _ => simp [b_is_position, isPos, h0, h1, typ]
    | a :: b :: c :: l =>
      have e : ¬ ((l.length : Int) + 1 + 1 + 1 = 2) := by omega
      simp [b_is_position, isPos, e]
  | _ => simp [b_is_position, isPos, typ]
def posOf : D → Pos
  | .tuple [.str s, x] => (s, bitOf x)
  | _ => ("", false)
theorem bit_D {x : D} (h : isBit x = true) : x = bD (bitOf x) := by
  cases x with
  | int i =>
    simp only [isBit, decide_eq_true_eq] at h
    rcases h with rfl | rfl <;> rfl
  | _ => cases h
theorem pos_D (h : isPos p d = true) : d = posD (posOf d) := by
  match d, h with
  | .tuple [.str s, x], h =>
    simp only [isPos, Bool.and_eq_true] at h
    exact congrArg (fun y => PyData.tuple [PyData.str s, y]) (bit_D h.2)
theorem isPos_D (x : Pos) : isPos p (posD x) = decide (x.1 ∈ namesOf p) := by
  show (decide (x.1 ∈ namesOf p) && isBit (bD x.2)) = _
  cases x.2 <;> simp [isBit, bD, bit]
def isSet (p : List Lock) : D → Bool
  | .tuple l => l.all (isPos p) && ascS (l.map fun x => (posOf x).1)
  | _ => false
def okSet (p : List Lock) (x : List Pos) : Bool := x.all (fun y => decide (y.1 ∈ namesOf p)) && ascS (x.map (·.1))
theorem posOf_D (x : Pos) : posOf (posD x) = x := by
  obtain ⟨s, b⟩ := x
  cases b <;> rfl
theorem isSet_D (x : List Pos) : isSet p (setD x) = okSet p x := by
  simp [isSet, setD, okSet, isPos_D, Function.comp_def, posOf_D, List.all_map]
theorem set_D {l : List D} (h : l.all (isPos p) = true) : l = (l.map posOf).map posD := by
  rw [List.map_map]
  conv => lhs; rw [← List.map_id l]
  exact List.map_congr_left fun x hx => pos_D (List.all_eq_true.mp h x hx)
theorem is_valid_setting_eq (h : nice n d = true) : f_is_valid_setting [plantD p, d] = pure (.bool (isSet p d)) := by
  unfold f_is_valid_setting
  rw [run_eq rfl]
  cases d with
  | dict l => cases n <;> cases h
  | tuple l =>
    obtain ⟨m, rfl, h1000, hl⟩ := nice_tup h
    simp [b_is_valid_setting]
    refine comp_mapDB (fun d => .bool (isPos p d)) (fun d hd => ?_) ?_
    · simp [compF, is_position_eq (hl d hd)]
    · simp [boolsOf_map]
      cases ha : l.all (isPos p) with
      | false =>
        have ha' : (l.all fun x => isPos p x) = false := ha
        have hs : isSet p (.tuple l) = false := by simp only [isSet, ha, Bool.false_and]
        rw [hs]
        have : ∃ x, x ∈ l ∧ isPos p x = false := by simpa using ha
        simp [this]
      | true =>
        have hn : ¬ ∃ x, x ∈ l ∧ isPos p x = false := by
          rintro ⟨x, hx, h⟩
          rw [List.all_eq_true.mp ha x hx] at h; cases h
        have hs : isSet p (.tuple l) = ascS (l.map fun x => (posOf x).1) := by simp only [isSet, ha, Bool.true_and]
        rw [hs]
        have hd := set_D ha
        have e2 : (l.map fun x => (posOf x).1) = (l.map posOf).map (·.1) := by rw [List.map_map]; rfl
        rw [e2]
        simp only [hn, if_false]
        generalize l.map posOf = ps at hd
        subst hd
        refine comp_mapB (fun x : Pos => PyData.str x.1) (fun x hx => ?_) ?_
        · simp [compF]
        · have e3 : (ps.map fun x => PyData.str x.1) = (ps.map (·.1)).map .str := by rw [List.map_map]; rfl
          rw [e3]
          generalize ps.map (·.1) = ss
          rw [cut1, ← List.map_drop, zip_strs]
          refine comp_mapB (fun x : Str × Str => .bool (ltS x.1 x.2)) (fun x hx => ?_) ?_
          · simp [compF, ltD_str]
          · rw [boolsOf_map]
            simp [-List.drop_one]
            rw [asc_zip']
  | _ => simp [b_is_valid_setting, isSet, typ]
theorem is_setting_eq (hp : OkP p) (h : nice n d = true) : f_is_setting [plantD p, d] = pure (.bool (isSet p d)) := by
  unfold f_is_setting
  rw [run_eq rfl]
  simp [b_is_setting, require_plant_ok hp, is_valid_setting_eq h]
theorem is_setting_no {e : D} (h : nice n d = true) (hp : isPlant d = false) : f_is_setting [d, e] = throwX "InvalidPlant" := by
  unfold f_is_setting
  rw [run_eq rfl]
  simp [b_is_setting, require_plant_no h hp]
theorem require_setting_eq (h : nice n d = true) : f_require_setting [plantD p, d] = if isSet p d = true then pure .none else throwX "InvalidSetting" := by
  unfold f_require_setting
  rw [run_eq rfl]
  cases hs : isSet p d <;> simp [b_require_setting, is_valid_setting_eq h, hs]
theorem law_right_eq (h : nice n d = true) : f__law_right [.list ((namesOf p).map .str), d] = pure (.bool (isSet p d)) := by
  unfold f__law_right
  rw [run_eq rfl]
  cases d with
  | dict l => cases n <;> cases h
  | tuple l =>
    obtain ⟨m, rfl, h1000, hl⟩ := nice_tup h
    simp [b__law_right]
    have key := forL_findB (h := (id : D → D)) (l := l) (tg := .n 2) (β := D) (τ := Slot) (b := exs [] [.ite (.or (.op1 .not (.op1 (.isi .tuple) (.var 2))) (.or (.op2 .ne (.op1 .len (.var 2)) (.con (.int 2))) (.op1 .not (.op1 (.isi .str) (.op2 .ix (.var 2) (.con (.int 0))))))) [.ret (.con (.bool false))] [],
  .ite (.op2 .notin (.op2 .ix (.var 2) (.con (.int 0))) (.var 0)) [.ret (.con (.bool false))] [],
  .ite (.or (.op1 .not (.op1 (.isi .int) (.op2 .ix (.var 2) (.con (.int 1))))) (.or (.op1 (.isi .bool) (.op2 .ix (.var 2) (.con (.int 1)))) (.op1 .not (.chain .le .le (.con (.int 0)) (.op2 .ix (.var 2) (.con (.int 1))) (.con (.int 1)))))) [.ret (.con (.bool false))] []])
      (k := fun p => nextM [] [.asg false 3 (.comp [2] (.n 2) .plain [.var 1] [] (.op2 .ix (.var 2) (.con (.int 0)))), .ret (.op2 .eq (.var 3) (.op1 .setSorted (.var 3)))] p >>= retM) (R := pure (.bool (isSet p (.tuple l))))
      (fun t => [.val (.list ((namesOf p).map .str)), .val (.tuple l), t, .no]) (fun d => if isPos p d = true then none else some (.bool false)) .no ?_ ?_ ?_
    · rw [List.map_id] at key
      simpa using key
    · intro t d hd
      refine ⟨_, .val d, rfl, ?_⟩
      have hnd := hl d hd
      cases d with
      | dict l => exact absurd rfl (nice_nodict hnd l)
      | tuple q =>
        obtain ⟨m, rfl, _, hq⟩ := nice_tup hnd
        match q with
        | [] => simp [isPos]
        | [a] => simp [isPos]
        | [a, b] =>
          have ha := nice_nodict (hq a (by simp))
          have hb := nice_nodict (hq b (by simp))
          have h0 : atI [a, b] 0 = some a := rfl
          have h1 : atI [a, b] 1 = some b := rfl
          cases a with
          | dict l => exact absurd rfl (ha l)
          | str s =>
            by_cases hs : s ∈ namesOf p
            · cases b with
              | dict l => exact absurd rfl (hb l)
              | int i =>
                by_cases hi : i = 0 ∨ i = 1
                · have g1 : 0 ≤ i := by omega
                  have g2 : i ≤ 1 := by omega
                  simp [isPos, isBit, h0, h1, hs, hi, g1, g2]
                · by_cases g1 : 0 ≤ i
                  · have g2 : ¬ i ≤ 1 := by omega
                    simp [isPos, isBit, h0, h1, hs, hi, g1, g2]
                  · simp [isPos, isBit, h0, h1, hs, hi, g1]
              | _ => simp [isPos, isBit, h0, h1, hs, typ]
            · simp [isPos, h0, h1, hs]
          | _ => simp [isPos, h0, h1, typ]
        | a :: b :: c :: l =>
          have e : ¬ ((l.length : Int) + 1 + 1 + 1 = 2) := by omega
          simp [isPos, e]
      | _ => simp [isPos, typ]
    · intro hf t
      have ha : l.all (isPos p) = true := by
        rw [List.all_eq_true]
        intro x hx
        have := List.findSome?_eq_none_iff.mp hf x hx
        cases hx2 : isPos p x with
        | true => rfl
        | false => rw [hx2] at this; simp at this
      have hs : isSet p (.tuple l) = ascS (l.map fun x => (posOf x).1) := by simp only [isSet, ha, Bool.true_and]
      rw [hs]
      have hd := set_D ha
      have e2 : (l.map fun x => (posOf x).1) = (l.map posOf).map (·.1) := by rw [List.map_map]; rfl
      rw [e2]
      generalize l.map posOf = ps at hd
      subst hd
      simp
      refine comp_mapB (fun x : Pos => PyData.str x.1) (fun x hx => ?_) ?_
      · simp [compF]
      · have e3 : (ps.map fun x => PyData.str x.1) = (ps.map (·.1)).map .str := by rw [List.map_map]; rfl
        rw [e3]
        have hps : (ps.map (·.1)).length < 4000 := by simp at h1000 ⊢; omega
        generalize ps.map (·.1) = ss at hps
        have e4 : decide (ss = sortS (nub ss)) = ascS ss := by
          rw [Bool.eq_iff_iff, decide_eq_true_eq]
          exact asc_iff.symm
        simp [strsOf_map, hps, e4]
    · intro r t hf
      obtain ⟨x, hx, hx2⟩ := List.exists_of_findSome?_eq_some hf
      have hno : isPos p x = false := by
        cases hx3 : isPos p x with
        | false => rfl
        | true => rw [hx3] at hx2; simp at hx2
      rw [hno] at hx2
      have hs : isSet p (.tuple l) = false := by
        simp only [isSet, Bool.and_eq_false_iff]
        left
        rw [List.all_eq_false]
        exact ⟨x, hx, by rw [hno]; simp⟩
      rw [hs]
      simp at hx2
      subst hx2
      simp
  | _ => simp [b__law_right, isSet, typ]
theorem setting_wp {ns : List Int} (hns : ns.length ≤ 63) (hp : Sized p) : Wp (f__law_setting [scr ns, tok, plantD p]) 16 (fun d => ∃ x : List Pos, d = setD x ∧ (x.map (·.1)).Sublist (namesOf p)) := by
  have hp8 := hp.len
  unfold f__law_setting
  rw [run_eq rfl]
  simp [b__law_setting, limv, plantD]
  refine Wp.forB p (fun done env => ∃ (x : List Pos) (s4 s5 : Slot), env = [.val (scr ns), .val tok, .val (plantD p), .val (.list (x.map posD)), s4, s5] ∧ (x.map (·.1)).Sublist (namesOf done)) 2 ⟨[], _, _, rfl, by simp [namesOf]⟩ (by omega) ?_ ?_
  · rintro done l rest hsp env ⟨x, s4, s5, rfl, hx⟩
    refine ⟨_, rfl, ?_⟩
    have hdl : done.length ≤ 8 := by
      have := congrArg List.length hsp
      simp at this; omega
    have hxl := hx.length_le
    simp [namesOf] at hxl
    conv => arg 1; simp [limv]
    refine Wp.bindB (draw_wp hns (by decide)) (by decide) fun d hd => ?_
    obtain ⟨v, rfl, v0, v1⟩ := hd
    by_cases hv : v < 2
    · obtain ⟨b, rfl⟩ : ∃ b, v = bit b := by
        rcases (show v = 0 ∨ v = 1 by omega) with rfl | rfl
        · exact ⟨false, rfl⟩
        · exact ⟨true, rfl⟩
      conv => arg 1; simp [limv, hv]
      rw [if_pos (by omega)]
      conv => arg 1; simp
      refine .pure ⟨rfl, x ++ [(l.1, b)], _, _, by simp [posD, bD]; exact ⟨rfl, rfl⟩, ?_⟩
      simp only [namesOf, List.map_append, List.map_cons, List.map_nil] at hx ⊢
      exact hx.append (List.Sublist.refl _)
    · conv => arg 1; simp [limv, hv]
      rw [if_pos (by omega)]
      conv => arg 1; simp
      refine .pure ⟨rfl, x, _, _, by simp; exact ⟨rfl, rfl⟩, ?_⟩
      simp only [namesOf, List.map_append] at hx ⊢
      exact hx.trans (List.sublist_append_left _ _)
  · rintro env ⟨x, s4, s5, rfl, hx⟩
    simp
    exact .pure ⟨x, rfl, hx⟩
theorem okSet_of (hp : OkP p) {x : List Pos} (h : (x.map (·.1)).Sublist (namesOf p)) : okSet p x = true := by
  simp only [okSet, Bool.and_eq_true, List.all_eq_true, decide_eq_true_eq]
  refine ⟨fun y hy => h.subset (List.mem_map.mpr ⟨y, hy, rfl⟩), pair_asc ?_⟩
  exact (asc_pair (okP_iff.mp hp).2.2).sublist h
end
end TK.P

/-! runs that draw nothing: what they give, where some slots hold anything -/
namespace TK
open PySem L2
section
variable {α β : Type} {x : M α} {f : α → M β} {P : α → Prop} {Q : β → Prop}
def Pu (x : M α) (P : α → Prop) : Prop := ∃ a, x = pure a ∧ P a
theorem Pu.pure {a : α} (h : P a) : Pu (pure a : M α) P := ⟨a, rfl, h⟩
theorem Pu.mono {R : α → Prop} (h : Pu x P) (hq : ∀ a, P a → R a) : Pu x R := by
  obtain ⟨a, h1, h2⟩ := h
  exact ⟨a, h1, hq a h2⟩
theorem Pu.of_eq {R : α → Prop} {y : M α} (h : x = y) (hy : Pu y R) : Pu x R := h ▸ hy
theorem Pu.eq {a : α} (h : Pu x fun b => b = a) : x = Pure.pure a := by
  obtain ⟨b, h1, rfl⟩ := h
  exact h1
theorem Pu.wp {e : Nat} (h : Pu x P) : Wp x e P := by
  obtain ⟨a, rfl, h⟩ := h
  exact .pure h
theorem Pu.bindB (h : Pu x P) (k : ∀ a, P a → Pu (f a) Q) : Pu (x >>= f) Q := by
  obtain ⟨a, rfl, h2⟩ := h
  rw [pure_bind']
  exact k a h2
theorem Pu.forB {tg : Tg} {b : Env → M (Fl × Env)} {h : α → D} {k : Fl × Env → M β} (l : List α) (I : List α → Env → Prop) {env : Env} (hi : I [] env)
    (hs : ∀ done a rest, l = done ++ a :: rest → ∀ env, I done env → ∃ env1, asgT tg (h a) env = some env1 ∧ Pu (b env1) (fun r => r.1 = .nx ∧ I (done ++ [a]) r.2))
    (hk : ∀ env, I l env → Pu (k (.nx, env)) Q) : Pu (TK.forL tg b (l.map h) env >>= k) Q := by
  have key : ∀ (r done : List α) (env : Env), l = done ++ r → I done env → Pu (TK.forL tg b (r.map h) env) (fun q => q.1 = .nx ∧ I l q.2) := by
    intro r
    induction r with
    | nil => exact fun done env e1 hi => .pure ⟨rfl, by rw [e1, List.append_nil]; exact hi⟩
    | cons a r ih =>
      intro done env e1 hi
      obtain ⟨env1, h1, h2⟩ := hs done a r e1 env hi
      rw [List.map_cons, forL_cons, h1, liftO_some, pure_bind']
      refine Pu.bindB h2 fun q hq => ?_
      obtain ⟨fl, e2⟩ := q
      obtain ⟨rfl, hq⟩ := hq
      exact ih (done ++ [a]) e2 (by rw [e1]; simp) hq
  refine Pu.bindB (key l [] env rfl hi) fun q hq => ?_
  obtain ⟨fl, e2⟩ := q
  obtain ⟨rfl, hq⟩ := hq
  exact hk e2 hq
theorem Pu.forI {tg : Tg} {b : Env → M (Fl × Env)} {h : α → D} {k : Fl × Env → M β} (l : List α) (I : Env → Prop) {env : Env} (hi : I env)
    (hs : ∀ a ∈ l, ∀ env, I env → ∃ env1, asgT tg (h a) env = some env1 ∧ Pu (b env1) (fun r => r.1 = .nx ∧ I r.2))
    (hk : ∀ env, I env → Pu (k (.nx, env)) Q) : Pu (TK.forL tg b (l.map h) env >>= k) Q :=
  Pu.forB l (fun _ env => I env) hi (fun done a rest el env hi => hs a (by rw [el]; simp) env hi) hk
/-- the loop as the last thing of a body -/
theorem Pu.forE {tg : Tg} {b : Env → M (Fl × Env)} {h : α → D} {R : Fl × Env → Prop} (l : List α) (I : List α → Env → Prop) {env : Env} (hi : I [] env)
    (hs : ∀ done a rest, l = done ++ a :: rest → ∀ env, I done env → ∃ env1, asgT tg (h a) env = some env1 ∧ Pu (b env1) (fun r => r.1 = .nx ∧ I (done ++ [a]) r.2))
    (hk : ∀ env, I l env → R (.nx, env)) : Pu (TK.forL tg b (l.map h) env) R := by
  have := Pu.forB (k := fun q => (Pure.pure q : M (Fl × Env))) (Q := R) l I hi hs fun env h => .pure (hk env h)
  rw [bind_pure'] at this
  exact this
theorem Wp.forE {e : Nat} {tg : Tg} {b : Env → M (Fl × Env)} {h : α → D} {R : Fl × Env → Prop} (l : List α) (I : List α → Env → Prop) (c : Nat) {env : Env} (hi : I [] env) (hc : l.length * c ≤ e)
    (hs : ∀ done a rest, l = done ++ a :: rest → ∀ env, I done env → ∃ env1, asgT tg (h a) env = some env1 ∧ Wp (b env1) c (fun r => r.1 = .nx ∧ I (done ++ [a]) r.2))
    (hk : ∀ env, I l env → R (.nx, env)) : Wp (TK.forL tg b (l.map h) env) e R := by
  have := Wp.forB (e := e) (k := fun q => (Pure.pure q : M (Fl × Env))) (Q := R) l I c hi hc hs fun env h => .pure (hk env h)
  rw [bind_pure'] at this
  exact this
theorem Pu.compFB {F : D → M (Option D)} {h : α → D} {l : List α} {k : List D → M β} (p : α → Bool) (g : α → D) (hF : ∀ a ∈ l, F (h a) = Pure.pure (if p a = true then some (g a) else none)) (hk : Pu (k ((l.filter p).map g)) Q) : Pu (TK.noX (compL F (l.map h)) >>= k) Q := by
  rw [comp_filter p g hF]; exact hk
theorem Pu.compMB {F : D → M (Option D)} {h : α → D} {l : List α} {k : List D → M β} (g : α → D) (hF : ∀ a ∈ l, F (h a) = Pure.pure (some (g a))) (hk : Pu (k (l.map g)) Q) : Pu (TK.noX (compL F (l.map h)) >>= k) Q := by
  rw [comp_map g hF]; exact hk
end
end TK

/-! sorted lists of encoded things; all states -/
namespace TK.P
open PySem TK L2
section
variable {α : Type} [DecidableEq α] {f : α → D} {k : Nat}
class Srt {α : Type} (f : α → D) : Prop where
  alk : ∀ a b, PySem.W.alike (f a) (f b) = true
def leE (f : α → D) (a b : α) : Bool := !PySem.W.dataLt (f b) (f a)
def sortE (f : α → D) (l : List α) : List α := l.mergeSort (leE f)
theorem leE_trans (a b c : α) (h1 : leE f a b = true) (h2 : leE f b c = true) : leE f a c = true := by
  unfold leE PySem.W.dataLt at *
  simp only [Bool.not_eq_true'] at *
  cases h : PyProof.Rows.lexLt PyProof.Rows.itemOrd (PySem.W.keyToks (f c)) (PySem.W.keyToks (f a)) with
  | false => rfl
  | true =>
    rcases PyProof.Rows.lex_negTrans _ (PySem.W.keyToks (f b)) _ h with h | h
    · rw [h] at h2; cases h2
    · rw [h] at h1; cases h1
theorem leE_total (a b : α) : (leE f a b || leE f b a) = true := by
  unfold leE PySem.W.dataLt
  cases h1 : PyProof.Rows.lexLt PyProof.Rows.itemOrd (PySem.W.keyToks (f b)) (PySem.W.keyToks (f a)) with
  | false => rfl
  | true =>
    cases h2 : PyProof.Rows.lexLt PyProof.Rows.itemOrd (PySem.W.keyToks (f a)) (PySem.W.keyToks (f b)) with
    | false => rfl
    | true =>
      have := PyProof.Rows.lex_trans _ _ _ h1 h2
      rw [PyProof.Rows.lex_irrefl] at this; cases this
theorem lex_pre_lt : ∀ (l : List (Int ⊕ List Nat)) (z : Int ⊕ List Nat), PyProof.Rows.lexLt PyProof.Rows.itemOrd (l ++ []) (l ++ [z]) = true := fun l z => by
  rw [PySem.W.lex_pre]; rfl
theorem leE_anti [Enc f k] [Srt f] (a b : α) (h1 : leE f a b = true) (h2 : leE f b a = true) : a = b := by
  unfold leE PySem.W.dataLt at *
  simp only [Bool.not_eq_true'] at *
  have e := PyProof.Rows.lex_total _ _ h1 h2
  have q := PySem.W.toks_eqv (f b) (f a) (Srt.alk b a)
  cases he : PyData.eqv (f b) (f a) with
  | true => rw [Enc.eq (f := f)] at he; exact (of_decide_eq_true he).symm
  | false =>
    have := q.2 he [] [.inl 0]
    rw [e, lex_pre_lt, PyProof.Rows.lex_irrefl] at this
    cases this
theorem sortE_perm [Enc f k] [Srt f] {l m : List α} (h : l.Perm m) : sortE f l = sortE f m :=
  List.Perm.eq_of_pairwise (le := fun a b => leE f a b = true) (fun a b _ _ => leE_anti a b) (List.pairwise_mergeSort leE_trans leE_total l) (List.pairwise_mergeSort leE_trans leE_total m) ((List.mergeSort_perm l _).trans (h.trans (List.mergeSort_perm m _).symm))
theorem sortD_enc [Enc f k] (hk : k ≤ 30) [Srt f] (l : List α) (hs : (∀ a ∈ l, neTup (f a) = true) ∨ (∀ a ∈ l, noTup (f a) = true)) : sortD (l.map f) = some ((sortE f l).map f) := by
  have ok : sortOk (l.map f) = true := by
    unfold sortOk
    simp only [Bool.and_eq_true, List.all_eq_true, Bool.or_eq_true, List.mem_map]
    refine ⟨⟨?_, ?_⟩, ?_⟩
    · rintro x ⟨a, _, rfl⟩ y ⟨b, _, rfl⟩
      exact Srt.alk a b
    · rcases hs with hs | hs
      · exact .inl (by rintro x ⟨a, ha, rfl⟩; exact hs a ha)
      · exact .inr (by rintro x ⟨a, ha, rfl⟩; exact hs a ha)
    · rintro x ⟨a, _, rfl⟩
      exact dep_le hk (Enc.dp a)
  unfold sortD
  rw [if_pos ok]
  unfold sortE
  rw [List.map_mergeSort (s := PySem.W.dataLe false id)]
  intro a _ b _
  rfl
theorem sortE_mem {l : List α} {a : α} : a ∈ sortE f l ↔ a ∈ l := (List.mergeSort_perm l _).mem_iff
theorem sortE_len (f : α → D) (l : List α) : (sortE f l).length = l.length := (List.mergeSort_perm l _).length_eq
end
/-! pairs of positions -/
abbrev Bar := Pos × Pos
def barD (x : Bar) : D := .tuple [posD x.1, posD x.2]
instance : Enc barD 2 := ⟨fun a b => by
  obtain ⟨a1, a2⟩ := a
  obtain ⟨b1, b2⟩ := b
  unfold barD
  rw [PyData.eqv]
  simp only [PyData.eqvAll]
  rw [Enc.eq (f := posD), Enc.eq (f := posD)]
  simp [Prod.ext_iff], fun a => rfl⟩
instance : Srt posD := ⟨fun a b => by simp [posD, bD, PySem.W.alike, PySem.W.alikeAll]⟩
instance : Srt barD := ⟨fun a b => by simp [barD, posD, bD, PySem.W.alike, PySem.W.alikeAll]⟩
theorem sortD_bars (l : List Bar) : sortD (l.map barD) = some ((sortE barD l).map barD) := sortD_enc (by decide) l (.inl fun _ _ => rfl)
theorem sortD_pos (l : List Pos) : sortD (l.map posD) = some ((sortE posD l).map posD) := sortD_enc (by decide) l (.inl fun _ _ => rfl)
@[simp high] theorem eqD_bars (l m : List Bar) : eqD (.list (l.map barD)) (.list (m.map barD)) = some (decide (l = m)) := eqD_enc (fun l : List Bar => PyData.list (l.map barD)) (by decide) l m
@[simp high] theorem eqD_poss (l m : List Pos) : eqD (.list (l.map posD)) (.list (m.map posD)) = some (decide (l = m)) := eqD_enc (fun l : List Pos => PyData.list (l.map posD)) (by decide) l m
/-! all states, one lock after the other -/
section
variable {n : Nat} {p : List Lock} {d : D}
def grow (p : List Lock) (rows : List (List Bool)) : List (List Bool) := rows.flatMap fun r => ([false, true].filter fun b => fitsB p (r ++ [b])).map fun b => r ++ [b]
theorem zip_pre : ∀ (p : List Lock) (r : List Bool) (b : Bool), ∃ y, p.zip (r ++ [b]) = p.zip r ++ y
  | [], r, b => ⟨[], by simp⟩
  | l :: p, [], b => ⟨[(l, b)], by simp⟩
  | l :: p, c :: r, b => by
    obtain ⟨y, hy⟩ := zip_pre p r b
    exact ⟨y, by simp [hy]⟩
theorem fits_pre {r : List Bool} {b : Bool} (h : fitsB p (r ++ [b]) = true) : fitsB p r = true := by
  have h := of_decide_eq_true h
  obtain ⟨y, hy⟩ := zip_pre p r b
  unfold heldAll at h
  rw [hy, heldL_app] at h
  exact decide_eq_true (List.nodup_append.mp h).1
theorem grow_filter (p : List Lock) (n : Nat) : grow p ((vecs n).filter (fitsB p)) = (vecs (n + 1)).filter (fitsB p) := by
  show _ = ((vecs n).flatMap fun r => [r ++ [false], r ++ [true]]).filter (fitsB p)
  generalize vecs n = l
  induction l with
  | nil => rfl
  | cons r l ih =>
    rw [List.flatMap_cons, List.filter_append, ← ih, List.filter_cons]
    have e : ([r ++ [false], r ++ [true]] : List (List Bool)) = [false, true].map fun b => r ++ [b] := rfl
    rw [e, List.filter_map]
    by_cases hf : fitsB p r = true
    · rw [if_pos hf]
      unfold grow
      rw [List.flatMap_cons]
      rfl
    · rw [if_neg hf]
      have hn : ([false, true].filter (fitsB p ∘ fun b => r ++ [b])) = [] := by
        rw [List.filter_eq_nil_iff]
        intro b _ hb
        exact hf (fits_pre hb)
      rw [hn]
      rfl
theorem grow_len (p : List Lock) (rows : List (List Bool)) : (grow p rows).length ≤ 2 * rows.length := by
  unfold grow
  induction rows with
  | nil => simp
  | cons r l ih =>
    rw [List.flatMap_cons, List.length_append, List.length_cons, List.length_map]
    have := List.length_filter_le (fun b => fitsB p (r ++ [b])) [false, true]
    simp at this
    omega
theorem rows_len (p : List Lock) {n : Nat} (hn : n ≤ 8) : ((vecs n).filter (fitsB p)).length ≤ 256 := by
  have h1 := List.length_filter_le (fitsB p) (vecs n)
  rw [vecs_len] at h1
  have h2 : 2 ^ n ≤ 2 ^ 8 := Nat.pow_le_pow_right (by decide) hn
  omega
theorem row_snoc' (r : List Bool) (b : Bool) (h : r.length ≤ 500) : app2 .add (rowD r) (.tuple [bD b]) = some (rowD (r ++ [b])) := by
  rw [row_one, add_row (by simp; omega)]
theorem find_states_eq (hp : Sized p) : f_find_states [plantD p] = pure (.list ((statesOf p).map rowD)) := by
  have hp8 := hp.len
  unfold f_find_states
  rw [run_eq rfl]
  simp [b_find_states, plantD, limv]
  refine forL_preB (τ := Slot) (fun done t => [.val (plantD p), .val (.list (((vecs done.length).filter (fitsB p)).map rowD)), t, .no, .no]) .no ?_ ?_ ?_
  · have : fitsB p [] = true := by simp [fitsB, heldAll, heldL]
    simp [vecs, this, plantD, rowD]
  · intro done l rest hsp t
    refine ⟨_, .val (lockD l), rfl, ?_⟩
    have hdl : done.length + 1 ≤ 8 := by
      have := congrArg List.length hsp
      simp at this; omega
    simp
    refine comp_mapB (fun r : List Bool => PyData.list ((([false, true].filter fun b => fitsB p (r ++ [b])).map fun b => r ++ [b]).map rowD)) (fun r hr => ?_) ?_
    · have hr := vecs_mem.mp (List.mem_filter.mp hr).1
      have e1 : ∀ b, app2 .add (rowD r) (.tuple [bD b]) = some (rowD (r ++ [b])) := fun b => row_snoc' r b (by omega)
      simp [comp2F, limv]
      have e2 : ([.int 0, .int 1] : List PyData) = [false, true].map bD := rfl
      rw [e2, compL_filter (fun b => fitsB p (r ++ [b])) (fun b => rowD (r ++ [b]))]
      · rfl
      · intro b _
        simp [comp2I, limv, e1, fits_eq hp]
    · have e3 : (fun r : List Bool => PyData.list ((([false, true].filter fun b => fitsB p (r ++ [b])).map fun b => r ++ [b]).map rowD)) = fun r => PyData.list ((fun r => (([false, true].filter fun b => fitsB p (r ++ [b])).map fun b => r ++ [b]).map rowD) r) := rfl
      rw [e3, flatD_lists]
      have e4 : (((vecs done.length).filter (fitsB p)).map fun r => (([false, true].filter fun b => fitsB p (r ++ [b])).map fun b => r ++ [b]).map rowD).flatten = ((vecs (done.length + 1)).filter (fitsB p)).map rowD := by
        rw [← grow_filter]
        unfold grow
        rw [List.map_flatMap]
        rfl
      have hlen := rows_len p (n := done.length + 1) hdl
      rw [e4, if_pos (by rw [List.length_map, limv]; omega)]
  · intro t
    simp [statesOf]
theorem states_eq (hp : OkP p) : f_states [plantD p] = pure (.list ((statesOf p).map rowD)) := by
  unfold f_states
  rw [run_eq rfl]
  simp [b_states, require_plant_ok hp, find_states_eq hp.sized]
theorem states_no (h : nice n d = true) (hp : isPlant d = false) : f_states [d] = throwX "InvalidPlant" := by
  unfold f_states
  rw [run_eq rfl]
  simp [b_states, require_plant_no h hp]
theorem count_states_eq (hp : OkP p) : f_count_states [plantD p] = pure (.int (statesOf p).length) := by
  unfold f_count_states
  rw [run_eq rfl]
  simp [b_count_states, require_plant_ok hp, find_states_eq hp.sized]
theorem count_states_no (h : nice n d = true) (hp : isPlant d = false) : f_count_states [d] = throwX "InvalidPlant" := by
  unfold f_count_states
  rw [run_eq rfl]
  simp [b_count_states, require_plant_no h hp]
/-! bars -/
abbrev Spot := Nat × Bool
def spotD (x : Spot) : D := .tuple [.int x.1, bD x.2]
@[simp] theorem ix_spot0 (x : Spot) : app2 .ix (spotD x) (.int 0) = some (.int x.1) := rfl
@[simp] theorem ix_spot1 (x : Spot) : app2 .ix (spotD x) (.int 1) = some (bD x.2) := rfl
def lk (p : List Lock) (i : Nat) : Lock := p.getD i ("", [], [])
theorem lk_lt {i : Nat} (h : i < p.length) : lk p i = p[i] := by simp [lk, List.getD, h]
theorem ix_plantk {i : Nat} (h : i < p.length) : app2 .ix (plantD p) (.int i) = some (lockD (lk p i)) := by rw [ix_plant h, lk_lt h]
/-- do the keys of two positions meet -/
def meetB (a b : List Str) : Bool := a.any fun k => decide (k ∈ b)
def barB (p : List Lock) (x y : Spot) : Bool := meetB (held (lk p x.1) x.2) (held (lk p y.1) y.2)
theorem do_bar_eq {x y : Spot} (hx : x.1 < p.length) (hy : y.1 < p.length) : f_do_bar [plantD p, spotD x, spotD y] = pure (.bool (barB p x y)) := by
  unfold f_do_bar
  rw [run_eq rfl]
  simp [b_do_bar, ix_plantk hx, ix_plantk hy, held_by_eq]
  refine comp_mapB (fun k : Str => .bool (decide (k ∈ held (lk p y.1) y.2))) (fun k hk => ?_) ?_
  · simp [compF]
  · rw [boolsOf_map]
    simp [barB, meetB, List.any_map]
def spots (n : Nat) : List Spot := (List.range n).flatMap fun i => [(i, false), (i, true)]
theorem mem_spots {n : Nat} {x : Spot} : x ∈ spots n ↔ x.1 < n := by
  obtain ⟨i, b⟩ := x
  simp only [spots, List.mem_flatMap, List.mem_range, List.mem_cons, Prod.mk.injEq, List.not_mem_nil, or_false]
  constructor
  · rintro ⟨j, hj, ⟨rfl, _⟩ | ⟨rfl, _⟩⟩ <;> exact hj
  · intro h
    cases b
    · exact ⟨i, h, .inl ⟨rfl, rfl⟩⟩
    · exact ⟨i, h, .inr ⟨rfl, rfl⟩⟩
theorem spots_len : ∀ n, (spots n).length = 2 * n
  | 0 => rfl
  | n + 1 => by
    have := spots_len n
    unfold spots at this ⊢
    rw [List.range_succ, List.flatMap_append, List.length_append, this]
    rfl
def pairOf (p : List Lock) (x y : Spot) : Bar := (((lk p x.1).1, x.2), ((lk p y.1).1, y.2))
def barRow (p : List Lock) (x : Spot) (ys : List Spot) : List Bar := ys.flatMap fun y => if decide (x.1 < y.1) && barB p x y then [pairOf p x y] else []
def barRows (p : List Lock) (xs : List Spot) : List Bar := xs.flatMap fun x => barRow p x (spots p.length)
def barsOf (p : List Lock) : List Bar := sortE barD (barRows p (spots p.length))
theorem barRow_snoc (x y : Spot) (ys : List Spot) : barRow p x (ys ++ [y]) = barRow p x ys ++ (if decide (x.1 < y.1) && barB p x y then [pairOf p x y] else []) := by simp [barRow]
theorem barRows_snoc (x : Spot) (xs : List Spot) : barRows p (xs ++ [x]) = barRows p xs ++ barRow p x (spots p.length) := by simp [barRows]
theorem barRow_len (x : Spot) (ys : List Spot) : (barRow p x ys).length ≤ ys.length := by
  unfold barRow
  induction ys with
  | nil => simp
  | cons y ys ih =>
    rw [List.flatMap_cons, List.length_append, List.length_cons]
    split <;> simp only [List.length_cons, List.length_nil] <;> omega
theorem barRows_len (xs : List Spot) : (barRows p xs).length ≤ 2 * p.length * xs.length := by
  unfold barRows
  induction xs with
  | nil => simp
  | cons x xs ih =>
    rw [List.flatMap_cons, List.length_append, List.length_cons, Nat.mul_succ]
    have := barRow_len (p := p) x (spots p.length)
    rw [spots_len] at this
    omega
theorem bars_eq (hp : OkP p) : f_bars [plantD p] = pure (.list ((barsOf p).map barD)) := by
  have hp8 := hp.sized.len
  have e0 : app1 .len (plantD p) = some (.int p.length) := by simp [plantD]
  have hsl := spots_len p.length
  unfold f_bars
  rw [run_eq rfl]
  simp [b_bars, require_plant_ok hp, e0, limv, rangeL]
  rw [if_pos (by omega)]
  simp
  refine comp_mapB (fun i : Nat => PyData.list ([(i, false), (i, true)].map spotD)) (fun i hi => ?_) ?_
  · simp [comp2F, limv]
    have e2 : ([.int 0, .int 1] : List PyData) = [false, true].map bD := rfl
    rw [e2, compL_mapE (fun b => spotD (i, b))]
    · rfl
    · intro b _
      simp [comp2I, limv, spotD]
  · have e3 : flatD ((List.range p.length).map fun i => PyData.list ([(i, false), (i, true)].map spotD)) = (spots p.length).map spotD := by
      rw [show (fun i : Nat => PyData.list ([(i, false), (i, true)].map spotD)) = fun i => PyData.list ((fun i : Nat => [(i, false), (i, true)].map spotD) i) from rfl, flatD_lists]
      unfold spots
      rw [List.map_flatMap]
      rfl
    rw [e3, if_pos (by rw [List.length_map]; omega)]
    refine Pu.eq ?_
    conv => arg 1; simp
    refine Pu.forB (spots p.length) (fun done env => ∃ s3 s4, env = [.val (plantD p), .val (.list ((spots p.length).map spotD)), .own (.list ((barRows p done).map barD)), s3, s4, .no, .no]) ⟨_, _, rfl⟩ ?_ ?_
    · rintro done x rest hsp env ⟨s3, s4, rfl⟩
      have hx : x.1 < p.length := mem_spots.mp (by rw [hsp]; simp)
      have hdl : done.length ≤ 16 := by
        have := congrArg List.length hsp
        simp [hsl] at this; omega
      have hbl := barRows_len (p := p) done
      have hbl2 : 2 * p.length * done.length ≤ 16 * 16 := Nat.mul_le_mul (by omega) hdl
      refine ⟨_, rfl, ?_⟩
      conv => arg 1; simp
      refine Pu.forB (spots p.length) (fun dn env => ∃ s4, env = [.val (plantD p), .val (.list ((spots p.length).map spotD)), .own (.list ((barRows p done ++ barRow p x dn).map barD)), .val (spotD x), s4, .no, .no]) ⟨_, by simp [barRow]; rfl⟩ ?_ ?_
      · rintro dn y rs hsp2 env ⟨s4, rfl⟩
        have hy : y.1 < p.length := mem_spots.mp (by rw [hsp2]; simp)
        have hdl2 : dn.length ≤ 16 := by
          have := congrArg List.length hsp2
          simp [hsl] at this; omega
        have hbl3 := barRow_len (p := p) x dn
        refine ⟨_, rfl, ?_⟩
        by_cases hlt : x.1 < y.1
        · cases hb : barB p x y
          · conv => arg 1; simp [do_bar_eq hx hy, hlt, hb]
            exact .pure ⟨rfl, _, by simp [barRow_snoc, hb]; rfl⟩
          · conv => arg 1; simp [do_bar_eq hx hy, hlt, hb, ix_plantk hx, ix_plantk hy, limv]
            rw [if_pos (by omega)]
            exact .pure ⟨rfl, _, by simp [barRow_snoc, hb, hlt, barD, pairOf, posD]; rfl⟩
        · conv => arg 1; simp [hlt]
          exact .pure ⟨rfl, _, by simp [barRow_snoc, hlt]; rfl⟩
      · rintro env ⟨s4, rfl⟩
        exact .pure ⟨rfl, _, _, by rw [barRows_snoc]⟩
    · rintro env ⟨s3, s4, rfl⟩
      conv => arg 1; simp [sortD_bars]
      exact .pure rfl
theorem bars_no (h : nice n d = true) (hp : isPlant d = false) : f_bars [d] = throwX "InvalidPlant" := by
  unfold f_bars
  rw [run_eq rfl]
  simp [b_bars, require_plant_no h hp]
end
end TK.P

/-! fewer keys -/
namespace TK.P
open PySem TK L2
@[simp high] theorem walk_zip_mapLT {α β : Type} (f : α → D) (g : β → D) (l : List α) (m : List β) : walkL .zip2 [.list (l.map f), .tuple (m.map g)] = some ((l.zip m).map fun x => .tuple [f x.1, g x.2]) := by
  show some (((l.map f).zip (m.map g)).map fun p => PyData.tuple [p.1, p.2]) = _
  rw [List.zip_map, List.map_map]
  rfl
section
variable {n : Nat} {p : List Lock} {d e : D}
def noKey (k : Str) (ks : List Str) : List Str := ks.filter fun x => !decide (x = k)
def dropL (k : Str) (l : Lock) : Lock := (l.1, noKey k l.2.1, noKey k l.2.2)
def dropP (k : Str) (p : List Lock) : List Lock := p.map (dropL k)
theorem noKey_len (k : Str) (ks : List Str) : (noKey k ks).length ≤ ks.length := List.length_filter_le _ _
theorem dropP_sized (hp : Sized p) (k : Str) : Sized (dropP k p) := by
  refine ⟨by simpa [dropP] using hp.len, fun l hl => ?_⟩
  obtain ⟨l', hl', rfl⟩ := List.mem_map.mp hl
  have := hp.keys l' hl'
  have h1 := noKey_len k l'.2.1
  have h2 := noKey_len k l'.2.2
  exact ⟨by show (noKey k l'.2.1).length ≤ 6; omega, by show (noKey k l'.2.2).length ≤ 6; omega⟩
@[simp high] theorem asg_lock (ts : List Tg) (l : Lock) (e : Env) : asgT (.t ts) (lockD l) e = asgTs ts [.str l.1, .tuple (l.2.1.map .str), .tuple (l.2.2.map .str)] e := rfl
theorem lockD_eq (a : Str) (x y : List Str) : PyData.tuple [.str a, .tuple (x.map .str), .tuple (y.map .str)] = lockD (a, x, y) := rfl
theorem dropped_eq (hp : Sized p) (k : Str) : f_dropped [plantD p, .str k] = pure (plantD (dropP k p)) := by
  have hp8 := hp.len
  unfold f_dropped
  rw [run_eq rfl]
  refine Pu.eq ?_
  conv => arg 1; simp [b_dropped, plantD, limv]
  refine Pu.forB p (fun done env => ∃ s3 s4 s5, env = [.val (plantD p), .val (.str k), .own (.list ((dropP k done).map lockD)), s3, s4, s5, .no]) ⟨_, _, _, rfl⟩ ?_ ?_
  · rintro done l rest hsp env ⟨s3, s4, s5, rfl⟩
    refine ⟨_, rfl, ?_⟩
    have hdl : done.length ≤ 8 := by
      have := congrArg List.length hsp
      simp at this; omega
    conv => arg 1; simp [limv]
    refine Pu.compFB (fun x => !decide (x = k)) PyData.str (fun x hx => ?_) ?_
    · simp [compF]
    conv => arg 1; simp
    refine Pu.compFB (fun x => !decide (x = k)) PyData.str (fun x hx => ?_) ?_
    · simp [compF]
    conv => arg 1; simp [dropP]
    rw [if_pos (by omega)]
    exact .pure ⟨rfl, _, _, _, by simp [dropP, dropL, noKey, lockD]; exact ⟨rfl, rfl, rfl⟩⟩
  · rintro env ⟨s3, s4, s5, rfl⟩
    conv => arg 1; simp
    exact .pure rfl
theorem isKey_str (k : Str) : isKey p (.str k) = decide (k ∈ keysOf p) := rfl
theorem without_key_eq (hp : OkP p) (h : nice n d = true) : f_without_key [plantD p, d] = match d with | .str k => if k ∈ keysOf p then pure (plantD (dropP k p)) else throwX "InvalidKey" | _ => throwX "InvalidKey" := by
  have e1 := require_key_eq hp.sized h
  unfold f_without_key
  rw [run_eq rfl]
  simp [b_without_key, require_plant_ok hp, e1]
  cases d with
  | str k =>
    rw [isKey_str]
    by_cases hk : k ∈ keysOf p
    · simp [hk, dropped_eq hp.sized]
    · simp [hk]
  | dict l => cases n <;> cases h
  | _ => simp [isKey]
theorem without_key_no (h : nice n d = true) (hp : isPlant d = false) : f_without_key [d, e] = throwX "InvalidPlant" := by
  unfold f_without_key
  rw [run_eq rfl]
  simp [b_without_key, require_plant_no h hp]
def needlessOf (p : List Lock) : List Str := (keysOf p).filter fun k => decide (statesOf (dropP k p) = statesOf p)
theorem needless_eq (hp : OkP p) : f_needless [plantD p] = pure (.list ((needlessOf p).map .str)) := by
  unfold f_needless
  rw [run_eq rfl]
  simp [b_needless, require_plant_ok hp, find_states_eq hp.sized, find_keys_eq hp.sized]
  refine comp_filterB (fun k => decide (statesOf (dropP k p) = statesOf p)) PyData.str (fun k hk => ?_) ?_
  · simp [compF, dropped_eq hp.sized, find_states_eq (dropP_sized hp.sized k)]
  · simp [needlessOf]
theorem needless_no (h : nice n d = true) (hp : isPlant d = false) : f_needless [d] = throwX "InvalidPlant" := by
  unfold f_needless
  rw [run_eq rfl]
  simp [b_needless, require_plant_no h hp]
/-! the law's own, of a list of locks -/
theorem law_fits_eqL (hp : Sized p) (r : List Bool) : f__law_fits [.list (p.map lockD), rowD r] = pure (.bool (fitsB p r)) := by
  unfold f__law_fits
  rw [run_eq rfl]
  simp [b__law_fits, rowD, limv]
  have hl := heldAll_len hp.keys hp.len r
  refine forL_preB (τ := Slot × Slot) (fun done t => [.val (.list (p.map lockD)), .val (.tuple (r.map bD)), .val (.list ((heldL done).map .str)), t.1, t.2]) (.no, .no) rfl ?_ ?_
  · intro done a rest hsp t
    have hb : (heldL done).length + (held a.1 a.2).length ≤ 48 := by
      unfold heldAll at hl
      rw [hsp, heldL_app, heldL_cons, List.length_append, List.length_append] at hl
      omega
    refine ⟨_, (.val (lockD a.1), .val (bD a.2)), rfl, ?_⟩
    have hb2 : (heldL done).length + (held a.1 a.2).length ≤ 16777216 := by omega
    simp [bD, limv, hb2, heldL_app, heldL_one]
  · intro t
    have h1 : (nub (heldAll p r)).length = (heldAll p r).length ↔ (heldAll p r).Nodup := nub_eq_iff
    have := setLen_strs (heldAll p r) (by omega)
    show (exs [] _ [_, _, .val (.list ((heldAll p r).map .str)), _, _] >>= retM) = _
    simp [-app1_setLen, this, fitsB]
    exact congrArg (fun b => (pure (PyData.bool b) : M D)) (nodup_int h1)
theorem law_states_eqL (hp : Sized p) : f__law_states [.list (p.map lockD)] = pure (.list ((statesOf p).map rowD)) := by
  unfold f__law_states
  rw [run_eq rfl]
  have := hp.len
  have hv := vectors_eq (n := p.length) (by omega)
  simp [b__law_states]
  rw [hv]
  simp
  refine comp_filterB (fitsB p) rowD (fun r hr => ?_) ?_
  · simp [compF, law_fits_eqL hp r]
  · rfl
/-! plants are told apart from themselves by nothing -/
theorem plain_lock (l : Lock) (n : Nat) : plain (n + 2) (lockD l) = true := by
  simp [plain, lockD]
theorem plain_plant (p : List Lock) (n : Nat) : plain (n + 3) (plantD p) = true := by
  simp only [plain, plantD, List.all_eq_true, List.mem_map]
  rintro x ⟨l, _, rfl⟩
  exact plain_lock l n
theorem same_plant (p : List Lock) : f__law_same deep [plantD p, plantD p] = pure (.bool true) := same_refl 3 deep _ (by decide) (plain_plant p 0)
end
end TK.P

/-! what differs, and who waits for whom -/
namespace TK.P
open PySem TK L2
def natD (i : Nat) : D := .int (i : Int)
instance : Enc natD 0 := ⟨fun a b => by
  unfold natD
  rw [PyData.eqv]
  show decide ((a : Int) = (b : Int)) = decide (a = b)
  rw [Bool.eq_iff_iff]; simp; omega, fun _ => rfl⟩
def natsD (l : List Nat) : D := .list (l.map natD)
section
variable {n : Nat} {p : List Lock} {d e w : D} {r g : List Bool}
def diffL (r g : List Bool) : List Nat := (List.range (min r.length g.length)).filter fun i => !decide (r.getD i false = g.getD i false)
theorem enumZip_rows (r g : List Bool) : walkL .enumZip [rowD r, rowD g] = some ((List.range (min r.length g.length)).map fun i => .tuple [natD i, .tuple [bD (r.getD i false), bD (g.getD i false)]]) := by
  show some ((((r.map bD).zip (g.map bD)).zipIdx).map fun p => PyData.tuple [.int (p.2 : Nat), .tuple [p.1.1, p.1.2]]) = _
  congr 1
  apply List.ext_getElem
  · simp
  · intro i h1 h2
    have : i < r.length ∧ i < g.length := by
      simp at h1; omega
    simp [natD, List.getD, this.1, this.2]
theorem eqD_bit (a b : Bool) : eqD (bD a) (bD b) = some (decide (a = b)) := eqD_enc bD (by decide) a b
theorem unlike_eq (r g : List Bool) : f_unlike [rowD r, rowD g] = pure (natsD (diffL r g)) := by
  unfold f_unlike
  rw [run_eq rfl]
  simp [b_unlike, enumZip_rows]
  refine comp_filterB (fun i => !decide (r.getD i false = g.getD i false)) natD (fun i hi => ?_) ?_
  · simp [compF, eqD_bit]
  · simp [natsD, diffL]
theorem diff_lt {i : Nat} (h : i ∈ diffL r g) : i < r.length ∧ i < g.length := by
  have := List.mem_range.mp (List.mem_filter.mp h).1
  omega
theorem diff_nodup (r g : List Bool) : (diffL r g).Nodup := List.Nodup.sublist List.filter_sublist List.nodup_range
theorem diff_len (r g : List Bool) : (diffL r g).length ≤ r.length := by
  have := List.length_filter_le (fun i => !decide (r.getD i false = g.getD i false)) (List.range (min r.length g.length))
  rw [List.length_range] at this
  unfold diffL
  omega
/-- the locks that i has to wait for -/
def waitsFor (p : List Lock) (r g : List Bool) (i : Nat) : List Nat := ((diffL r g).filter fun j => !decide (j = i)).filter fun j => barB p (i, g.getD i false) (j, r.getD j false)
def needsOf (p : List Lock) (r g : List Bool) (is : List Nat) : List (Nat × List Nat) := is.map fun i => (i, waitsFor p r g i)
def needsD (l : List (Nat × List Nat)) : D := .dict (l.map (encP natD natsD))
theorem dictV_nat {ν : Type} {g : ν → D} (l : List (Nat × ν)) : dictV (.dict (l.map (encP natD g))) = some (false, l.map (encP natD g)) := by cases l <;> rfl
theorem look_nat {ν : Type} {g : ν → D} (l : List (Nat × ν)) (k : Nat) : lookD (.dict (l.map (encP natD g))) (natD k) = some ((getA l k).map g) := by
  unfold lookD
  rw [dictV_nat]
  show some (getD (l.map (encP natD g)) (natD k)) = _
  rw [getD_enc]
theorem store_nat {ν : Type} {g : ν → D} (l : List (Nat × ν)) (k : Nat) (v : ν) (h : l.length < lim) : storeD (.dict (l.map (encP natD g))) (natD k) (g v) = some (.dict ((putA l k v).map (encP natD g))) := by
  unfold storeD
  simp only [dictV_nat, Option.bind_some]
  rw [if_pos]
  · show some (PyData.dict (putD _ _ _)) = _
    rw [putD_enc]
  · simp [keyFor, natD, h]
theorem putA_new {κ ν : Type} [DecidableEq κ] {l : List (κ × ν)} {k : κ} {v : ν} (h : ∀ x ∈ l, x.1 ≠ k) : putA l k v = l ++ [(k, v)] := by
  unfold putA
  rw [if_neg]
  simp only [List.any_eq_true, decide_eq_true_eq, not_exists, not_and]
  exact fun x hx => h x hx
theorem eqD_nat (a b : Nat) : eqD (natD a) (natD b) = some (decide (a = b)) := eqD_enc natD (by decide) a b
theorem ix_rowk {i : Nat} (h : i < r.length) : app2 .ix (rowD r) (natD i) = some (bD (r.getD i false)) := by
  show app2 .ix (rowD r) (.int i) = _
  rw [ix_row h, getD_lt h]
theorem waits_of_eq (hl : r.length = p.length) (hg : g.length = p.length) (hp : p.length ≤ 8) : f_waits_of [plantD p, rowD r, rowD g] = pure (needsD (needsOf p r g (diffL r g))) := by
  have hdl := diff_len r g
  unfold f_waits_of
  rw [run_eq rfl]
  refine Pu.eq ?_
  conv => arg 1; simp [b_waits_of, unlike_eq, natsD, limv]
  refine Pu.forB (diffL r g) (fun done env => ∃ s3 s6, env = [.val (plantD p), .val (rowD r), .val (rowD g), s3, .val (natsD (diffL r g)), .own (needsD (needsOf p r g done)), s6, .no]) ⟨_, _, rfl⟩ ?_ ?_
  · rintro done i rest hsp env ⟨s3, s6, rfl⟩
    refine ⟨_, rfl, ?_⟩
    have hi : i ∈ diffL r g := by rw [hsp]; simp
    have hi1 := (diff_lt hi).1
    have hi2 := (diff_lt hi).2
    have hnd : i ∉ done := fun hx => by
      have := diff_nodup r g
      rw [hsp] at this
      exact (List.nodup_append.mp this).2.2 i hx i (by simp) rfl
    have hdn : done.length ≤ 8 := by
      have := congrArg List.length hsp
      simp at this; omega
    conv => arg 1; simp [natsD, limv]
    refine Pu.compFB (fun j => !decide (j = i)) natD (fun j hj => ?_) ?_
    · simp [compF, eqD_nat]
    conv => arg 1; simp [limv]
    refine Pu.compFB (fun j => barB p (i, g.getD i false) (j, r.getD j false)) natD (fun j hj => ?_) ?_
    · have hj' := (diff_lt (List.mem_filter.mp hj).1).1
      have e1 : f_do_bar [plantD p, .tuple [natD i, bD (g.getD i false)], .tuple [natD j, bD (r.getD j false)]] = pure (.bool (barB p (i, g.getD i false) (j, r.getD j false))) := do_bar_eq (x := (i, g.getD i false)) (y := (j, r.getD j false)) (by show i < p.length; omega) (by show j < p.length; omega)
      rw [List.getD_eq_getElem?_getD, List.getD_eq_getElem?_getD] at e1
      simp [compF, limv, ix_rowk hi2, ix_rowk hj', e1]
    have e2 : storeD (needsD (needsOf p r g done)) (natD i) (natsD (waitsFor p r g i)) = some (needsD (needsOf p r g (done ++ [i]))) := by
      unfold needsD
      rw [store_nat _ _ _ (by rw [limv]; simp [needsOf]; omega), putA_new]
      · simp [needsOf]
      · intro x hx
        obtain ⟨j, hj, rfl⟩ := List.mem_map.mp hx
        exact fun q => hnd (q ▸ hj)
    have e3 : PyData.list ((((diffL r g).filter fun j => !decide (j = i)).filter fun j => barB p (i, g.getD i false) (j, r.getD j false)).map natD) = natsD (waitsFor p r g i) := rfl
    rw [e3]
    conv => arg 1; simp [e2]
    exact .pure ⟨rfl, _, _, rfl⟩
  · rintro env ⟨s3, s6, rfl⟩
    conv => arg 1; simp
    exact .pure rfl
end
end TK.P

/-! the first shortest way -/
namespace TK
open PySem L2
@[simp] theorem ex_while {Γ : List FnSem} {env : Env} (c : TK.E) (b : List S) : ex Γ (.while c b) env = whL (tst Γ c) (exs Γ b) fuel env := rfl
theorem Pu.whL {c : Env → M Bool} {b : Env → M (Fl × Env)} (I : Nat → Env → Prop) {Q : Fl × Env → Prop}
    (hs : ∀ n env, I n env → ∃ t, c env = Pure.pure t ∧ (t = false → Q (.nx, env)) ∧ (t = true → Pu (b env) (fun r => (r.1 = .nx ∧ ∃ m, m < n ∧ I m r.2) ∨ ∃ v, r.1 = .rt v ∧ Q r))) :
    ∀ (fu n : Nat) (env : Env), n < fu → I n env → Pu (TK.whL c b fu env) Q
  | 0, n, env, h, _ => by omega
  | fu + 1, n, env, h, hi => by
    obtain ⟨t, h1, h2, h3⟩ := hs n env hi
    show Pu (c env >>= fun k => if k then (b env >>= fun p => match p.1 with | .nx => TK.whL c b fu p.2 | .rt v => Pure.pure (.rt v, p.2)) else Pure.pure (.nx, env)) Q
    rw [h1, pure_bind']
    cases t with
    | false => exact .pure (h2 rfl)
    | true =>
      rw [if_pos rfl]
      refine Pu.bindB (h3 rfl) fun r hr => ?_
      obtain ⟨fl, e⟩ := r
      rcases hr with ⟨rfl, m, hm, hi⟩ | ⟨v, rfl, hq⟩
      · exact Pu.whL I hs fu m e (by omega) hi
      · exact .pure hq
end TK
namespace TK.P
open PySem TK L2
section
variable {n : Nat} {p : List Lock} {d e w : D} {r g : List Bool} {nd : List (Nat × List Nat)}
def readyOf (nd : List (Nat × List Nat)) (done : List Nat) : List Nat := (nd.filter fun x => !decide (x.1 ∈ done) && x.2.all fun j => decide (j ∈ done)).map (·.1)
def wayGo (nd : List (Nat × List Nat)) : Nat → List Nat → Option (List Nat)
  | 0, found => some found
  | n + 1, found => match readyOf nd found with
    | [] => none
    | i :: _ => wayGo nd n (found ++ [i])
def findWay (nd : List (Nat × List Nat)) : Option (List Nat) := wayGo nd nd.length []
def optNats : Option (List Nat) → D
  | none => .none
  | some l => natsD l
def doneD (l : List Nat) : D := .dict ((l.map fun i => (i, true)).map (encP natD .bool))
theorem get_done (l : List Nat) (i : Nat) : (getA (l.map fun i => (i, true)) i).isSome = decide (i ∈ l) := by
  rw [Bool.eq_iff_iff, decide_eq_true_eq]
  constructor
  · intro h
    apply Classical.byContradiction
    intro hn
    have : getA (l.map fun i => (i, true)) i = none := getA_none.mpr fun x hx => by
      obtain ⟨j, hj, rfl⟩ := List.mem_map.mp hx
      exact fun q => hn (q ▸ hj)
    rw [this] at h; cases h
  · intro h
    cases hg : getA (l.map fun i => (i, true)) i with
    | some _ => rfl
    | none => exact absurd rfl (getA_none.mp hg (i, true) (List.mem_map.mpr ⟨i, h, rfl⟩))
theorem in_done (l : List Nat) (i : Nat) : app2 .isin (natD i) (doneD l) = some (.bool (decide (i ∈ l))) := by
  show (lookD (doneD l) (natD i)).map _ = _
  unfold doneD
  rw [look_nat, ← get_done]
  cases getA (l.map fun i => (i, true)) i <;> rfl
theorem notin_done (l : List Nat) (i : Nat) : app2 .notin (natD i) (doneD l) = some (.bool (!decide (i ∈ l))) := by
  show (lookD (doneD l) (natD i)).map _ = _
  unfold doneD
  rw [look_nat, ← get_done]
  cases getA (l.map fun i => (i, true)) i <;> rfl
theorem store_done {l : List Nat} {i : Nat} (h : i ∉ l) (hl : l.length < lim) : storeD (doneD l) (natD i) (.bool true) = some (doneD (l ++ [i])) := by
  unfold doneD
  have := store_nat (g := PyData.bool) (l.map fun i => (i, true)) i true (by simpa using hl)
  rw [this, putA_new]
  · simp
  · intro x hx
    obtain ⟨j, hj, rfl⟩ := List.mem_map.mp hx
    exact fun q => h (q ▸ hj)
theorem getA_mem {κ ν : Type} [DecidableEq κ] : ∀ {l : List (κ × ν)}, (l.map (·.1)).Nodup → ∀ {x : κ × ν}, x ∈ l → getA l x.1 = some x.2
  | [], _, x, h => by simp at h
  | y :: l, hn, x, h => by
    rw [List.map_cons, List.nodup_cons] at hn
    unfold getA
    rcases List.mem_cons.mp h with rfl | h
    · rw [if_pos rfl]
    · rw [if_neg fun (q : y.1 = x.1) => hn.1 (q ▸ List.mem_map.mpr ⟨x, h, rfl⟩)]
      exact getA_mem hn.2 h
theorem ix_needs (hn : (nd.map (·.1)).Nodup) {x : Nat × List Nat} (h : x ∈ nd) : app2 .ix (needsD nd) (natD x.1) = some (natsD x.2) := by
  show (lookD (needsD nd) (natD x.1)).join = _
  unfold needsD
  rw [look_nat, getA_mem hn h]
  rfl
theorem keys_needs (nd : List (Nat × List Nat)) : app1 .keys (.tuple [needsD nd]) = some (.list (nd.map fun x => natD x.1)) := by
  show ((dictV (needsD nd)).bind fun p => if p.1 then none else some (PyData.list (p.2.map (·.1)))) = _
  unfold needsD
  rw [dictV_nat]
  show some (PyData.list ((nd.map (encP natD natsD)).map (·.1))) = _
  rw [List.map_map]
  rfl
theorem len_needs (nd : List (Nat × List Nat)) : app1 .len (needsD nd) = some (.int nd.length) := by
  show (dictV (needsD nd)).bind _ = _
  unfold needsD
  rw [dictV_nat]
  simp
theorem ready_mem {done : List Nat} {i : Nat} (h : i ∈ readyOf nd done) : i ∉ done ∧ i ∈ nd.map (·.1) := by
  obtain ⟨x, hx, rfl⟩ := List.mem_map.mp h
  obtain ⟨h1, h2⟩ := List.mem_filter.mp hx
  simp only [Bool.and_eq_true, Bool.not_eq_true', decide_eq_false_iff_not] at h2
  exact ⟨h2.1, List.mem_map.mpr ⟨x, h1, rfl⟩⟩
theorem needs_keys (p : List Lock) (r g : List Bool) : (needsOf p r g (diffL r g)).map (·.1) = diffL r g := by
  simp [needsOf, Function.comp_def]
theorem find_way_eq (hl : r.length = p.length) (hg : g.length = p.length) (hp : p.length ≤ 8) : f_find_way [plantD p, rowD r, rowD g] = pure (optNats (findWay (needsOf p r g (diffL r g)))) := by
  have hnd : ((needsOf p r g (diffL r g)).map (·.1)).Nodup := by rw [needs_keys]; exact diff_nodup r g
  have hlen : (needsOf p r g (diffL r g)).length ≤ 8 := by
    have := diff_len r g
    simp [needsOf]; omega
  unfold f_find_way
  rw [run_eq rfl]
  refine Pu.eq ?_
  conv => arg 1; simp [b_find_way, waits_of_eq hl hg hp, limv]
  generalize needsOf p r g (diffL r g) = nd at hnd hlen ⊢
  refine Pu.bindB (P := fun q => (∃ v e, q = (.rt v, e) ∧ v = optNats (findWay nd)) ∨ ∃ found s4 s6 s7 s8, q = (.nx, [.val (plantD p), .val (rowD r), .val (rowD g), .val (needsD nd), s4, .own (natsD found), s6, s7, s8]) ∧ findWay nd = some found) ?_ fun q hq => ?_
  · refine Pu.whL (fun n env => ∃ found s6, env = [.val (plantD p), .val (rowD r), .val (rowD g), .val (needsD nd), .own (doneD found), .own (natsD found), s6, .no, .no] ∧ found.length + n = nd.length ∧ wayGo nd n found = findWay nd) ?_ fuel nd.length _ (by unfold fuel; omega) ⟨[], _, rfl, by simp, rfl⟩
    rintro n env ⟨found, s6, rfl, hn, hw⟩
    refine ⟨decide (found.length < nd.length), by simp [natsD, len_needs], fun ht => ?_, fun ht => ?_⟩
    · have ht := of_decide_eq_false ht
      obtain rfl : n = 0 := by omega
      exact .inr ⟨found, _, _, _, _, rfl, hw.symm⟩
    · have ht := of_decide_eq_true ht
      obtain ⟨m, rfl⟩ : ∃ m, n = m + 1 := ⟨n - 1, by omega⟩
      conv => arg 1; simp [limv, keys_needs]
      refine Pu.compFB (fun x : Nat × List Nat => !decide (x.1 ∈ found) && x.2.all fun j => decide (j ∈ found)) (fun x => natD x.1) (fun x hx => ?_) ?_
      · simp [compF, notin_done, ix_needs hnd hx]
        by_cases hxf : x.1 ∈ found
        · simp [hxf]
        · simp [hxf, natsD]
          refine comp_mapB (fun j : Nat => .bool (decide (j ∈ found))) (fun j hj => ?_) ?_
          · simp [compF, in_done]
          · rw [boolsOf_map]
            simp [List.all_map]
      have e1 : ((nd.filter fun x => !decide (x.1 ∈ found) && x.2.all fun j => decide (j ∈ found)).map fun x => natD x.1) = (readyOf nd found).map natD := by rw [readyOf, List.map_map]; rfl
      rw [e1]
      cases hr : readyOf nd found with
      | nil =>
        conv => arg 1; simp
        refine .pure (.inr ⟨_, rfl, .inl ⟨_, _, rfl, ?_⟩⟩)
        rw [← hw]
        simp [wayGo, hr, optNats]
      | cons i is =>
        have hi := (ready_mem (nd := nd) (done := found) (i := i) (by rw [hr]; simp)).1
        have e2 : storeD (doneD found) (natD i) (.bool true) = some (doneD (found ++ [i])) := store_done hi (by rw [limv]; omega)
        have e3 : atI (natD i :: is.map natD) 0 = some (natD i) := by
          rw [atI_nat _ (by omega) (by simp only [List.length_cons]; omega)]; rfl
        conv => arg 1; simp [e2, e3, natsD, limv]
        rw [if_pos (by omega)]
        refine .pure (.inl ⟨rfl, m, by omega, found ++ [i], _, by simp [natsD]; rfl, by simp; omega, ?_⟩)
        rw [← hw]
        simp [wayGo, hr]
  · rcases hq with ⟨v, e, rfl, rfl⟩ | ⟨found, s4, s6, s7, s8, rfl, hf⟩
    · conv => arg 1; simp
      exact .pure rfl
    · conv => arg 1; simp
      exact .pure (by rw [hf]; rfl)
end
end TK.P

/-! ways: told, and recognized -/
namespace TK
open PySem L2
/-- fold with a step that may fail -/
def goL {σ α : Type} (step : σ → α → Option σ) : σ → List α → Option σ
  | s, [] => some s
  | s, a :: l => (step s a).bind fun s' => goL step s' l
/-- a loop that returns v as soon as a step fails -/
theorem Pu.forS {σ α β : Type} {tg : Tg} {b : Env → M (Fl × Env)} {h : α → D} {k : Fl × Env → M β} {Q : β → Prop} (step : σ → α → Option σ) (I : σ → Env → Prop) (v : D) (l : List α) (s : σ) {env : Env} (hi : I s env)
    (hs : ∀ s env a, a ∈ l → I s env → ∃ env1, asgT tg (h a) env = some env1 ∧ Pu (b env1) (fun r => (∃ s', step s a = some s' ∧ r.1 = .nx ∧ I s' r.2) ∨ (step s a = none ∧ r.1 = .rt v)))
    (hk : ∀ s' env, goL step s l = some s' → I s' env → Pu (k (.nx, env)) Q) (hr : ∀ env, goL step s l = none → Pu (k (.rt v, env)) Q) : Pu (TK.forL tg b (l.map h) env >>= k) Q := by
  induction l generalizing s env with
  | nil => exact hk s env rfl hi
  | cons a l ih =>
    obtain ⟨env1, h1, h2⟩ := hs s env a List.mem_cons_self hi
    rw [List.map_cons, forL_cons, h1, liftO_some, pure_bind']
    obtain ⟨r, hb, hr'⟩ := h2
    rw [hb, pure_bind']
    obtain ⟨fl, e⟩ := r
    rcases hr' with ⟨s', e1, rfl, hi'⟩ | ⟨e1, rfl⟩
    · rw [stepM_nx]
      refine ih s' hi' (fun s env a ha => hs s env a (List.mem_cons_of_mem _ ha)) (fun s2 env h => hk s2 env ?_) fun env h => hr env ?_
      · show (step s a).bind _ = _
        rw [e1]; exact h
      · show (step s a).bind _ = _
        rw [e1]; exact h
    · rw [stepM_rt, pure_bind']
      refine hr e ?_
      show (step s a).bind _ = _
      rw [e1]; rfl
end TK
namespace TK.P
open PySem TK L2
section
variable {n : Nat} {p : List Lock} {d e w : D} {r g : List Bool}
theorem require_goal_eq (hp : OkP p) (hr : isSt p (rowD r) = true) (h : nice n d = true) : f_require_goal [plantD p, rowD r, d] = if isSt p d = true then pure .none else throwX "InvalidGoal" := by
  unfold f_require_goal
  rw [run_eq rfl]
  cases hs : isSt p d <;> simp [b_require_goal, require_state_ok hp hr, valid_eq hp.sized h, hs]
theorem require_goal_badst (hp : OkP p) (hw : nice n w = true) (h : isSt p w = false) : f_require_goal [plantD p, w, e] = throwX "InvalidState" := by
  unfold f_require_goal
  rw [run_eq rfl]
  simp [b_require_goal, require_state_eq hp hw, h]
theorem require_goal_badpl (hd : nice n d = true) (h : isPlant d = false) : f_require_goal [d, w, e] = throwX "InvalidPlant" := by
  unfold f_require_goal
  rw [run_eq rfl]
  simp [b_require_goal, require_state_no hd h]
theorem require_goal_ok (hp : OkP p) (hr : isSt p (rowD r) = true) (hg : isSt p (rowD g) = true) : f_require_goal [plantD p, rowD r, rowD g] = pure .none := by
  have := (okP_iff.mp hp).1
  rw [require_goal_eq hp hr (nice_row g (by rw [st_len hg]; omega) 0), if_pos hg]
theorem wayGo_sub {nd : List (Nat × List Nat)} : ∀ {n : Nat} {found l : List Nat}, wayGo nd n found = some l → ∀ i ∈ l, i ∈ found ∨ i ∈ nd.map (·.1)
  | 0, found, l, h, i, hi => by cases h; exact .inl hi
  | n + 1, found, l, h, i, hi => by
    unfold wayGo at h
    cases hr : readyOf nd found with
    | nil => rw [hr] at h; cases h
    | cons j js =>
      rw [hr] at h
      rcases wayGo_sub h i hi with h1 | h1
      · rcases List.mem_append.mp h1 with h1 | h1
        · exact .inl h1
        · rw [List.mem_singleton.mp h1]
          exact .inr (ready_mem (nd := nd) (done := found) (i := j) (by rw [hr]; simp)).2
      · exact .inr h1
theorem wayGo_len {nd : List (Nat × List Nat)} : ∀ {n : Nat} {found l : List Nat}, wayGo nd n found = some l → l.length = found.length + n
  | 0, found, l, h => by cases h; rfl
  | n + 1, found, l, h => by
    unfold wayGo at h
    cases hr : readyOf nd found with
    | nil => rw [hr] at h; cases h
    | cons j js =>
      rw [hr] at h
      have := wayGo_len h
      simp at this
      omega
def wayOf (p : List Lock) (r g : List Bool) : Option (List Nat) := findWay (needsOf p r g (diffL r g))
theorem wayOf_lt (hl : r.length = p.length) {l : List Nat} (h : wayOf p r g = some l) : (∀ i ∈ l, i < p.length) ∧ l.length ≤ p.length := by
  refine ⟨fun i hi => ?_, ?_⟩
  · rcases wayGo_sub h i hi with h1 | h1
    · simp at h1
    · rw [needs_keys] at h1
      have := (diff_lt h1).1
      omega
  · have h1 := wayGo_len h
    have h2 := diff_len r g
    simp [needsOf] at h1
    omega
def optNames (p : List Lock) : Option (List Nat) → D
  | none => .none
  | some l => .list ((l.map fun i => (lk p i).1).map .str)
theorem way_eq (hp : OkP p) (hr : isSt p (rowD r) = true) (hg : isSt p (rowD g) = true) : f_way [plantD p, rowD r, rowD g] = pure (optNames p (wayOf p r g)) := by
  have h8 := (okP_iff.mp hp).1
  unfold f_way
  rw [run_eq rfl]
  have e1 : f_find_way [plantD p, rowD r, rowD g] = pure (optNats (wayOf p r g)) := find_way_eq (st_len hr) (st_len hg) h8.2
  simp [b_way, require_goal_ok hp hr hg, e1]
  cases hw : wayOf p r g with
  | none => simp [optNats, optNames, notNone]
  | some l =>
    have hlt := (wayOf_lt (st_len hr) hw).1
    simp [optNats, optNames, notNone, natsD]
    refine comp_mapB (fun i : Nat => PyData.str (lk p i).1) (fun i hi => ?_) ?_
    · have e2 : app2 .ix (plantD p) (natD i) = some (lockD (lk p i)) := ix_plantk (hlt i hi)
      simp [compF, e2]
    · simp [Function.comp_def]
/-! a list of names, one lock after the other -/
def idxN (p : List Lock) (s : Str) : Nat := (namesOf p).idxOf s
theorem idxN_lt {s : Str} (h : s ∈ namesOf p) : idxN p s < p.length := by
  have := List.idxOf_lt_length_of_mem h
  simpa [idxN, namesOf] using this
theorem idxN_get {s : Str} (h : s ∈ namesOf p) : (p[idxN p s]'(idxN_lt h)).1 = s := by
  have h1 : (namesOf p)[(namesOf p).idxOf s]'(List.idxOf_lt_length_of_mem h) = s := List.getElem_idxOf _
  exact (List.getElem_map (fun x : Lock => x.1)).symm.trans h1
theorem index_name (hn : (namesOf p).Nodup) {s : Str} (h : s ∈ namesOf p) : app2 .index (.list ((namesOf p).map .str)) (.str s) = some (.int (idxN p s)) := by
  have := index_names hn (idxN_lt h)
  rw [idxN_get h] at this
  exact this
def turnB (p : List Lock) (r : List Bool) (s : Str) : Option (List Bool) := if fitsB p (flipB r (idxN p s)) = true then some (flipB r (idxN p s)) else none
def strOf : D → Str
  | .str s => s
  | _ => ""
def leadsB (p : List Lock) (r g : List Bool) : D → Bool
  | .list l => l.all (isName p) && decide (goL (turnB p) r (l.map strOf) = some g)
  | _ => false
theorem name_D {d : D} (h : isName p d = true) : ∃ s, d = .str s ∧ s ∈ namesOf p := by
  cases d with
  | str s => exact ⟨s, rfl, of_decide_eq_true h⟩
  | _ => cases h
theorem names_D {l : List D} (h : l.all (isName p) = true) : l = (l.map strOf).map .str ∧ ∀ s ∈ l.map strOf, s ∈ namesOf p := by
  have h := List.all_eq_true.mp h
  refine ⟨?_, fun s hs => ?_⟩
  · rw [List.map_map]
    conv => lhs; rw [← List.map_id l]
    refine List.map_congr_left fun x hx => ?_
    obtain ⟨s, rfl, _⟩ := name_D (h x hx)
    rfl
  · obtain ⟨x, hx, rfl⟩ := List.mem_map.mp hs
    obtain ⟨s, rfl, h2⟩ := name_D (h x hx)
    exact h2
theorem nice_lst {n : Nat} {l : List D} (h : nice n (.list l) = true) : ∃ m, n = m + 1 ∧ l.length ≤ 1000 ∧ ∀ d ∈ l, nice m d = true := by
  cases n with
  | zero => cases h
  | succ m =>
    simp only [nice, Bool.and_eq_true, decide_eq_true_eq, List.all_eq_true] at h
    exact ⟨m, rfl, h.1, h.2⟩
theorem goL_len {r' : List Bool} : ∀ {ss : List Str} {r : List Bool}, goL (turnB p) r ss = some r' → r'.length = r.length
  | [], r, h => by cases h; rfl
  | s :: ss, r, h => by
    unfold goL turnB at h
    split at h
    · have := goL_len (ss := ss) h
      rw [this, flipB_len]
    · cases h
theorem is_way_eq (hp : OkP p) (hr : isSt p (rowD r) = true) (hg : isSt p (rowD g) = true) (h : nice n d = true) : f_is_way [plantD p, rowD r, rowD g, d] = pure (.bool (leadsB p r g d)) := by
  have h8 := (okP_iff.mp hp).1
  have hl := st_len hr
  unfold f_is_way
  rw [run_eq rfl]
  simp [b_is_way, require_goal_ok hp hr hg, names_of_eq]
  cases d with
  | dict l => cases n <;> cases h
  | list l =>
    obtain ⟨m, rfl, h1000, hn⟩ := nice_lst h
    simp [typ]
    refine comp_mapDB (fun d => .bool (isName p d)) (fun d hd => ?_) ?_
    · have hnd := hn d hd
      cases d with
      | dict l => exact absurd rfl (nice_nodict hnd l)
      | str s =>
        simp [compF, isName]
      | _ => simp [compF, isName, typ]
    · rw [boolsOf_map]
      cases ha : l.all (isName p) with
      | false =>
        have hs : leadsB p r g (.list l) = false := by simp only [leadsB, ha, Bool.false_and]
        have : ∃ x, x ∈ l ∧ isName p x = false := by simpa using ha
        rw [hs]
        simp [this]
      | true =>
        have hx : ¬ ∃ x, x ∈ l ∧ isName p x = false := by
          rintro ⟨x, hx, h⟩
          rw [List.all_eq_true.mp ha x hx] at h; cases h
        have hs : leadsB p r g (.list l) = decide (goL (turnB p) r (l.map strOf) = some g) := by simp only [leadsB, ha, Bool.true_and]
        rw [hs]
        obtain ⟨hd, hm⟩ := names_D ha
        generalize l.map strOf = ss at hd hm
        subst hd
        have hx2 : ¬ ∃ x, x ∈ ss ∧ isName p (.str x) = false := by
          rintro ⟨x, hx, h⟩
          rw [show isName p (.str x) = decide (x ∈ namesOf p) from rfl] at h
          exact absurd (hm x hx) (of_decide_eq_false h)
        refine Pu.eq ?_
        conv => arg 1; simp
        rw [if_neg hx2]
        refine Pu.forS (turnB p) (fun q env => q.length = p.length ∧ ∃ s5 s6, env = [.val (plantD p), .val (rowD q), .val (rowD g), .val (.list (ss.map .str)), .val (.list ((namesOf p).map .str)), s5, s6]) (.bool false) ss r ⟨hl, _, _, rfl⟩ ?_ ?_ ?_
        · rintro q env s hs ⟨hq, s5, s6, rfl⟩
          refine ⟨_, rfl, ?_⟩
          have hsn := hm s hs
          have hi := idxN_lt hsn
          have e1 := is_turnable_eq hp.sized (r := q) (i := idxN p s) (by omega) (by omega)
          have e2 := flipped_eq (r := q) (i := idxN p s) (by omega) (by omega)
          cases hf : fitsB p (flipB q (idxN p s))
          · conv => arg 1; simp [index_name hp.names hsn, e1, hf]
            exact .pure (.inr ⟨by simp [turnB, hf], rfl⟩)
          · conv => arg 1; simp [index_name hp.names hsn, e1, e2, hf]
            exact .pure (.inl ⟨flipB q (idxN p s), by simp [turnB, hf], rfl, by simpa using hq, _, _, rfl⟩)
        · rintro q env hgo ⟨hq, s5, s6, rfl⟩
          conv => arg 1; simp
          refine .pure ?_
          rw [hgo]; simp
        · intro env hgo
          conv => arg 1; simp
          refine .pure ?_
          rw [hgo]; simp
  | _ => simp [typ, leadsB]
theorem leads_eq (hp : OkP p) (hl : r.length = p.length) (h : nice n d = true) : f__law_leads [plantD p, rowD r, rowD g, d] = pure (.bool (leadsB p r g d)) := by
  have h8 := (okP_iff.mp hp).1
  have e0 : (p.map fun l => PyData.str l.1) = (namesOf p).map .str := by rw [namesOf, List.map_map]; rfl
  unfold f__law_leads
  rw [run_eq rfl]
  simp [b__law_leads]
  show (liftO (walkL .plain [plantD p]) >>= _) = _
  rw [show walkL .plain [plantD p] = some (p.map lockD) from rfl, liftO_some, pure_bind']
  refine comp_mapB (fun l : Lock => PyData.str l.1) (fun l hl => ?_) ?_
  · simp [compF]
  rw [e0]
  cases d with
  | dict l => cases n <;> cases h
  | list l =>
    obtain ⟨m, rfl, h1000, hn⟩ := nice_lst h
    simp [typ]
    refine comp_filterDB (fun d => !isName p d) id (fun d hd => ?_) ?_
    · have hnd := hn d hd
      cases d with
      | dict l => exact absurd rfl (nice_nodict hnd l)
      | str s =>
        by_cases hs : s ∈ namesOf p <;> simp [compF, isName, hs]
      | _ => simp [compF, isName, typ]
    · cases ha : l.all (isName p) with
      | false =>
        have hs : leadsB p r g (.list l) = false := by simp only [leadsB, ha, Bool.false_and]
        have : ∃ x, x ∈ l ∧ isName p x = false := by simpa using ha
        rw [hs]
        simp
        intro hall
        obtain ⟨x, hx, h⟩ := this
        rw [hall x hx] at h; cases h
      | true =>
        have hx : ¬ ∃ x, x ∈ l ∧ isName p x = false := by
          rintro ⟨x, hx, h⟩
          rw [List.all_eq_true.mp ha x hx] at h; cases h
        have hs : leadsB p r g (.list l) = decide (goL (turnB p) r (l.map strOf) = some g) := by simp only [leadsB, ha, Bool.true_and]
        rw [hs]
        have hf : (l.filter fun d => !isName p d) = [] := by
          rw [List.filter_eq_nil_iff]
          intro x hx
          rw [List.all_eq_true.mp ha x hx]; simp
        rw [hf]
        obtain ⟨hd, hm⟩ := names_D ha
        generalize l.map strOf = ss at hd hm
        subst hd
        refine Pu.eq ?_
        conv => arg 1; simp
        refine Pu.forS (turnB p) (fun q env => q.length = p.length ∧ ∃ s5, env = [.val (plantD p), .val (rowD q), .val (rowD g), .val (.list (ss.map .str)), .val (.list ((namesOf p).map .str)), s5, .no, .no]) (.bool false) ss r ⟨hl, _, rfl⟩ ?_ ?_ ?_
        · rintro q env s hs ⟨hq, s5, rfl⟩
          refine ⟨_, rfl, ?_⟩
          have hsn := hm s hs
          have hi := idxN_lt hsn
          have e2 := law_flip_eq (r := q) (i := idxN p s) (by omega) (by omega)
          cases hf : fitsB p (flipB q (idxN p s))
          · conv => arg 1; simp [index_name hp.names hsn, e2, law_fits_eq hp.sized, hf]
            exact .pure (.inr ⟨by simp [turnB, hf], rfl⟩)
          · conv => arg 1; simp [index_name hp.names hsn, e2, law_fits_eq hp.sized, hf]
            exact .pure (.inl ⟨flipB q (idxN p s), by simp [turnB, hf], rfl, by simpa using hq, _, rfl⟩)
        · rintro q env hgo ⟨hq, s5, rfl⟩
          conv => arg 1; simp
          refine .pure ?_
          rw [hgo]; simp
        · intro env hgo
          conv => arg 1; simp
          refine .pure ?_
          rw [hgo]; simp
  | _ => simp [typ, leadsB]
theorem is_way_throw {c : Str} {t : D} (h : f_require_goal [d, w, e] = throwX c) : f_is_way [d, w, e, t] = throwX c := by
  unfold f_is_way
  rw [run_eq rfl]
  simp [b_is_way, h]
end
end TK.P

/-! tactics for the laws -/
namespace TK
open PySem L2
theorem bind_congrM {α β : Type} {x x' : M α} (f : α → M β) (h : x = x') : (x >>= f) = (x' >>= f) := by rw [h]
theorem wp_congrM {α : Type} {x x' : M α} {c : Nat} {Q : α → Prop} (h : x = x') : Wp x c Q = Wp x' c Q := by rw [h]
theorem Wp.forD {β : Type} {e : Nat} {Q : β → Prop} {tg : Tg} {b : Env → M (Fl × Env)} {k : Fl × Env → M β} {l : List D} (I : Env → Prop) (c : Nat) {env : Env} (hi : I env) (hc : l.length * c ≤ e)
    (hs : ∀ a ∈ l, ∀ env, I env → ∃ env1, asgT tg a env = some env1 ∧ Wp (b env1) c (fun r => r.1 = .nx ∧ I r.2))
    (hk : ∀ env, I env → Wp (k (.nx, env)) (e - l.length * c) Q) : Wp (TK.forL tg b l env >>= k) e Q := by
  have := Wp.forI (h := id) l I c hi hc hs hk
  rw [List.map_id] at this
  exact this
theorem Wp.forBD {β : Type} {e : Nat} {Q : β → Prop} {tg : Tg} {b : Env → M (Fl × Env)} {k : Fl × Env → M β} {l : List D} (I : List D → Env → Prop) (c : Nat) {env : Env} (hi : I [] env) (hc : l.length * c ≤ e)
    (hs : ∀ done a rest, l = done ++ a :: rest → ∀ env, I done env → ∃ env1, asgT tg a env = some env1 ∧ Wp (b env1) c (fun r => r.1 = .nx ∧ I (done ++ [a]) r.2))
    (hk : ∀ env, I l env → Wp (k (.nx, env)) (e - l.length * c) Q) : Wp (TK.forL tg b l env >>= k) e Q := by
  have := Wp.forB (h := id) l I c hi hc hs hk
  rw [List.map_id] at this
  exact this
theorem bind_pureM {α β : Type} {x : M α} {a : α} (f : α → M β) (h : x = pure a) : (x >>= f) = f a := by rw [h]; rfl
theorem bind_bindM {α β γ : Type} {x : M α} {y : M γ} {g : γ → M α} (f : α → M β) (h : x = (y >>= g)) : (x >>= f) = (y >>= fun a => g a >>= f) := by rw [h, bind_assoc']
theorem bind_throwM {α β : Type} {x : M α} {c : Str} (f : α → M β) (h : x = throwX c) : (x >>= f) = throwX c := by rw [h]; rfl
theorem bind_failM {α β : Type} {x : M α} (f : α → M β) (h : x = fail) : (x >>= f) = fail := by rw [h]; rfl
section
variable {Γ : List FnSem} {env : Env}
/-! what follows, as named continuations: nothing is worked out before its value is known -/
def nxM (e : Env) : M (Fl × Env) := pure (.nx, e)
theorem nxM_cons (s : Slot) (e : Env) : nxM (s :: e) = pure (.nx, s :: e) := rfl
def asgK (o : Bool) (i : Nat) (e1 : Env) (d : D) : M (Fl × Env) := if ownB o d then (setS e1 i (if o then .own d else .val d) >>= nxM) else fail
theorem asgK_def (o : Bool) (i : Nat) (e1 : Env) (d : D) : asgK o i e1 d = if ownB o d then (setS e1 i (if o then .own d else .val d) >>= nxM) else fail := rfl
theorem ex_asgK (o : Bool) (i : Nat) (e : TK.E) : ex Γ (.asg o i e) env = (ev Γ (frz env (esc e)) e >>= asgK o i (frz env (esc e))) := rfl
def iteK (Γ : List FnSem) (a b : List S) (env : Env) : Bool → M (Fl × Env)
  | true => exs Γ a env
  | false => exs Γ b env
theorem iteK_t (a b : List S) : iteK Γ a b env true = exs Γ a env := rfl
theorem iteK_f (a b : List S) : iteK Γ a b env false = exs Γ b env := rfl
theorem iteK_b (a b : List S) (c : Bool) : iteK Γ a b env c = if c = true then exs Γ a env else exs Γ b env := by cases c <;> rfl
theorem ex_iteK (c : TK.E) (a b : List S) : ex Γ (.ite c a b) env = (tst Γ c env >>= iteK Γ a b env) := by
  show (tst Γ c env >>= _) = _
  congr 1
  funext k
  cases k <;> rfl
def unpK (tg : Tg) (e1 : Env) (d : D) : M (Fl × Env) := liftO (asgT tg d e1) >>= nxM
theorem unpK_def (tg : Tg) (e1 : Env) (d : D) : unpK tg e1 d = (liftO (asgT tg d e1) >>= nxM) := rfl
theorem ex_unpK (tg : Tg) (e : TK.E) : ex Γ (.unp tg e) env = (ev Γ (frz env (esc e)) e >>= unpK tg (frz env (esc e))) := rfl
def parK (is : List (Nat × Bool)) (e1 : Env) (ds : List D) : M (Fl × Env) := setAll is ds e1 >>= nxM
theorem parK_cons (is : List (Nat × Bool)) (e1 : Env) (d : D) (ds : List D) : parK is e1 (d :: ds) = (setAll is (d :: ds) e1 >>= nxM) := rfl
theorem ex_parK (is : List (Nat × Bool)) (es : List TK.E) : ex Γ (.par is es) env = (evsP Γ (frz env (escs es)) (is.map (·.2)) es >>= parK is (frz env (escs es))) := rfl
def forJ (Γ : List FnSem) (tg : Tg) (b : List S) (e1 : Env) (items : List D) : M (Fl × Env) := forL tg (exs Γ b) items e1
theorem forJ_def (tg : Tg) (b : List S) (e1 : Env) (items : List D) : forJ Γ tg b e1 items = forL tg (exs Γ b) items e1 := rfl
def forK (Γ : List FnSem) (tg : Tg) (k : IK) (b : List S) (e1 : Env) (ds : List D) : M (Fl × Env) := liftO (walkL k ds) >>= forJ Γ tg b e1
theorem forK_def (tg : Tg) (k : IK) (b : List S) (e1 : Env) (d : D) (ds : List D) : forK Γ tg k b e1 (d :: ds) = (liftO (walkL k (d :: ds)) >>= forJ Γ tg b e1) := rfl
theorem ex_forK (tg : Tg) (k : IK) (src : List TK.E) (b : List S) : ex Γ (.for tg k src b) env = (evs Γ (frz env (escs src)) src >>= forK Γ tg k b (frz env (escs src))) := rfl
end
@[simp] theorem notNone_l (l : List D) : notNone (.list l) = true := rfl
@[simp] theorem notNone_t (l : List D) : notNone (.tuple l) = true := rfl
@[simp] theorem notNone_s (s : Str) : notNone (.str s) = true := rfl
@[simp] theorem notNone_i (i : Int) : notNone (.int i) = true := rfl
@[simp] theorem notNone_b (b : Bool) : notNone (.bool b) = true := rfl
@[simp] theorem notNone_n : notNone .none = false := rfl
@[simp] theorem app1_neg (i : Int) : app1 .neg (.int i) = some (.int (-i)) := rfl
namespace P
@[simp] theorem walk_plant (p : List Lock) : walkL .plain [plantD p] = some (p.map lockD) := rfl
@[simp] theorem len_plant (p : List Lock) : app1 .len (plantD p) = some (.int p.length) := by simp [plantD]
@[simp] theorem len_row (r : List Bool) : app1 .len (rowD r) = some (.int r.length) := by simp [rowD]
@[simp] theorem walk_row (r : List Bool) : walkL .plain [rowD r] = some (r.map bD) := rfl
theorem walk_zip_plant (p : List Lock) (r : List Bool) : walkL .zip2 [plantD p, rowD r] = some ((p.zip r).map fun x => .tuple [lockD x.1, bD x.2]) := by
  show some (((p.map lockD).zip (r.map bD)).map fun p => PyData.tuple [p.1, p.2]) = _
  rw [List.zip_map, List.map_map]; rfl
theorem rangeL_map (n : Nat) : rangeL 0 n = (List.range n).map fun (i : Nat) => PyData.int (i : Int) := by simp [rangeL]
end P
end TK

/-! which states can be reached: plain maths -/
namespace TK.P
open PySem TK L2
section
variable {p : List Lock} {r g q : List Bool} {i j : Nat}
theorem meet_symm (a b : List Str) : meetB a b = meetB b a := by
  rw [Bool.eq_iff_iff]
  simp only [meetB, List.any_eq_true, decide_eq_true_eq]
  exact ⟨fun ⟨k, h1, h2⟩ => ⟨k, h2, h1⟩, fun ⟨k, h1, h2⟩ => ⟨k, h2, h1⟩⟩
theorem bar_symm (p : List Lock) (x y : Spot) : barB p x y = barB p y x := meet_symm _ _
def KeysN (p : List Lock) : Prop := ∀ l ∈ p, l.2.1.Nodup ∧ l.2.2.Nodup
theorem meet_false {a b : List Str} : meetB a b = false ↔ ∀ x ∈ a, ∀ y ∈ b, x ≠ y := by
  rw [← Bool.not_eq_true]
  simp only [meetB, List.any_eq_true, decide_eq_true_eq, not_exists, not_and]
  exact ⟨fun h x hx y hy e => h x hx (e ▸ hy), fun h k hk hb => h k hk k hb rfl⟩
theorem fits_iff (hn : KeysN p) (hl : r.length = p.length) : fitsB p r = true ↔ ∀ i j, i < p.length → j < p.length → i ≠ j → barB p (i, r.getD i false) (j, r.getD j false) = false := by
  have key : fitsB p r = true ↔ ∀ i j, i < p.length → j < p.length → i < j → barB p (i, r.getD i false) (j, r.getD j false) = false := by
    unfold fitsB heldAll heldL
    rw [decide_eq_true_eq]
    unfold List.Nodup
    rw [List.pairwise_flatten, List.pairwise_iff_getElem]
    constructor
    · rintro ⟨_, h⟩ i j hi hj hij
      have := h i j (by simp; omega) (by simp; omega) hij
      rw [show barB p (i, r.getD i false) (j, r.getD j false) = meetB (held (lk p i) (r.getD i false)) (held (lk p j) (r.getD j false)) from rfl, meet_false]
      simpa [lk_lt hi, lk_lt hj, List.getD, show i < r.length by omega, show j < r.length by omega] using this
    · intro h
      refine ⟨fun l hl' => ?_, fun i j hi hj hij => ?_⟩
      · obtain ⟨x, hx, rfl⟩ := List.mem_map.mp hl'
        have := hn x.1 (List.of_mem_zip hx).1
        unfold held
        split
        · exact this.2
        · exact this.1
      · simp at hi hj
        have := h i j (by omega) (by omega) hij
        rw [show barB p (i, r.getD i false) (j, r.getD j false) = meetB (held (lk p i) (r.getD i false)) (held (lk p j) (r.getD j false)) from rfl, meet_false] at this
        simpa [lk_lt (show i < p.length by omega), lk_lt (show j < p.length by omega), List.getD, show i < r.length by omega, show j < r.length by omega] using this
  rw [key]
  constructor
  · intro h i j hi hj hij
    rcases Nat.lt_or_gt_of_ne hij with h1 | h1
    · exact h i j hi hj h1
    · rw [bar_symm]; exact h j i hj hi h1
  · exact fun h i j hi hj hij => h i j hi hj (by omega)
theorem flip_at (r : List Bool) (i k : Nat) (hi : i < r.length) : (flipB r i).getD k false = if k = i then !r.getD i false else r.getD k false := by
  unfold flipB
  simp only [List.getD_eq_getElem?_getD, List.getElem?_set]
  by_cases h : k = i
  · subst h; simp [hi]
  · rw [if_neg h, if_neg (fun e => h e.symm)]
theorem row_ext {r q : List Bool} (hl : r.length = q.length) (h : ∀ k, k < r.length → r.getD k false = q.getD k false) : r = q := by
  apply List.ext_getElem hl
  intro k h1 h2
  have := h k h1
  simpa [List.getD, h1, h2] using this
/-! turning by places -/
def stepI (p : List Lock) (q : List Bool) (i : Nat) : Option (List Bool) := if fitsB p (flipB q i) = true then some (flipB q i) else none
def Walk (p : List Lock) (r : List Bool) (l : List Nat) (g : List Bool) : Prop := (∀ i ∈ l, i < p.length) ∧ goL (stepI p) r l = some g
def Conn (p : List Lock) (r g : List Bool) : Prop := ∃ l, Walk p r l g
/-- locks that hold each other -/
def HeldS (p : List Lock) (r : List Bool) (S : List Nat) : Prop := ∀ i ∈ S, i < p.length ∧ ∃ j ∈ S, j ≠ i ∧ barB p (i, !r.getD i false) (j, r.getD j false) = true
theorem held_stay (hn : KeysN p) {S : List Nat} (hS : HeldS p r S) : ∀ (l : List Nat) (q q' : List Bool), q.length = p.length → (∀ i ∈ S, q.getD i false = r.getD i false) → (∀ i ∈ l, i < p.length) → goL (stepI p) q l = some q' → ∀ i ∈ S, q'.getD i false = r.getD i false
  | [], q, q', _, h, _, e => by cases e; exact h
  | k :: l, q, q', hl, h, hk, e => by
    have hkp := hk k List.mem_cons_self
    have e' : (stepI p q k).bind (fun s' => goL (stepI p) s' l) = some q' := e
    unfold stepI at e'
    split at e'
    case isFalse => cases e'
    case isTrue hf =>
      have hkS : k ∉ S := fun hm => by
        obtain ⟨_, j, hj, hne, hb⟩ := hS k hm
        have := (fits_iff hn (by simpa using hl)).mp hf k j hkp (hS j hj).1 (fun e => hne e.symm)
        rw [flip_at _ _ _ (by omega), flip_at _ _ _ (by omega), if_pos rfl, if_neg hne, h k hm, h j hj, hb] at this
        cases this
      refine held_stay hn hS l (flipB q k) q' (by simpa using hl) (fun i hi => ?_) (fun i hi => hk i (List.mem_cons_of_mem _ hi)) e'
      rw [flip_at _ _ _ (by omega), if_neg (fun (e : i = k) => hkS (e ▸ hi))]
      exact h i hi
theorem Conn.stay (hn : KeysN p) (hl : r.length = p.length) {S : List Nat} (hS : HeldS p r S) (h : Conn p r g) : ∀ i ∈ S, g.getD i false = r.getD i false := by
  obtain ⟨l, h1, h2⟩ := h
  exact held_stay hn hS l r g hl (fun _ _ => rfl) h1 h2
/-! the greedy order -/
theorem mem_diff : i ∈ diffL r g ↔ i < r.length ∧ i < g.length ∧ r.getD i false ≠ g.getD i false := by
  unfold diffL
  simp only [List.mem_filter, List.mem_range, Bool.not_eq_true', decide_eq_false_iff_not, Nat.lt_min, and_assoc, ne_eq]
theorem diff_not (h : i ∈ diffL r g) : g.getD i false = !r.getD i false := by
  have := (mem_diff.mp h).2.2
  revert this
  cases r.getD i false <;> cases g.getD i false <;> simp
theorem mem_waits : j ∈ waitsFor p r g i ↔ j ∈ diffL r g ∧ j ≠ i ∧ barB p (i, g.getD i false) (j, r.getD j false) = true := by
  unfold waitsFor
  simp only [List.mem_filter, Bool.not_eq_true', decide_eq_false_iff_not]
  exact ⟨fun ⟨⟨a, b⟩, c⟩ => ⟨a, b, c⟩, fun ⟨a, b, c⟩ => ⟨⟨a, b⟩, c⟩⟩
section order
variable {w : Nat → List Nat} {Ds : List Nat}
theorem mem_ready {done : List Nat} : i ∈ readyOf (Ds.map fun i => (i, w i)) done ↔ i ∈ Ds ∧ i ∉ done ∧ ∀ j ∈ w i, j ∈ done := by
  unfold readyOf
  simp only [List.mem_map, List.mem_filter, Bool.and_eq_true, Bool.not_eq_true', decide_eq_false_iff_not, List.all_eq_true, decide_eq_true_eq]
  constructor
  · rintro ⟨x, ⟨⟨k, hk, rfl⟩, h1, h2⟩, rfl⟩
    exact ⟨hk, h1, h2⟩
  · rintro ⟨h1, h2, h3⟩
    exact ⟨(i, w i), ⟨⟨i, h1, rfl⟩, h2, h3⟩, rfl⟩
/-- each stands behind all that it needs -/
def Ordered (w : Nat → List Nat) (l : List Nat) : Prop := ∀ a i b, l = a ++ i :: b → ∀ j ∈ w i, j ∈ a
theorem wayGo_some : ∀ (n : Nat) (found l : List Nat), wayGo (Ds.map fun i => (i, w i)) n found = some l → found.Nodup → (∀ i ∈ found, i ∈ Ds) → Ordered w found → l.Nodup ∧ (∀ i ∈ l, i ∈ Ds) ∧ Ordered w l ∧ l.length = found.length + n
  | 0, found, l, h, h1, h2, h3 => by cases h; exact ⟨h1, h2, h3, rfl⟩
  | n + 1, found, l, h, h1, h2, h3 => by
    unfold wayGo at h
    split at h
    · cases h
    · next i is he =>
      have hi := mem_ready.mp (by rw [he]; exact List.mem_cons_self : i ∈ readyOf (Ds.map fun i => (i, w i)) found)
      have := wayGo_some n (found ++ [i]) l h (by
          rw [List.nodup_append]
          exact ⟨h1, by simp, fun a ha b hb e => hi.2.1 (by rw [List.mem_singleton.mp hb] at e; exact e ▸ ha)⟩) (fun k hk => by
          rcases List.mem_append.mp hk with hk | hk
          · exact h2 k hk
          · rw [List.mem_singleton.mp hk]; exact hi.1) (fun a k b e j hj => by
          rcases List.eq_nil_or_concat b with rfl | ⟨b', z, rfl⟩
          · have e2 := List.append_inj' e rfl
            obtain ⟨rfl, e3⟩ := e2
            cases e3
            exact hi.2.2 j hj
          · have e2 : found ++ [i] = (a ++ k :: b') ++ [z] := by rw [e]; simp
            obtain ⟨e3, _⟩ := List.append_inj' e2 rfl
            exact h3 a k b' e3 j hj)
      simp only [List.length_append, List.length_singleton] at this
      exact ⟨this.1, this.2.1, this.2.2.1, by omega⟩
theorem wayGo_none : ∀ (n : Nat) (found : List Nat), wayGo (Ds.map fun i => (i, w i)) n found = none → found.Nodup → found.length + n = Ds.length → ∃ done : List Nat, done.Nodup ∧ done.length < Ds.length ∧ readyOf (Ds.map fun i => (i, w i)) done = []
  | 0, found, h, _, _ => by cases h
  | n + 1, found, h, h1, h2 => by
    unfold wayGo at h
    split at h
    · next he => exact ⟨found, h1, by omega, he⟩
    · next i is he =>
      have hi := mem_ready.mp (by rw [he]; exact List.mem_cons_self : i ∈ readyOf (Ds.map fun i => (i, w i)) found)
      exact wayGo_none n (found ++ [i]) h (by
          rw [List.nodup_append]
          exact ⟨h1, by simp, fun a ha b hb e => hi.2.1 (by rw [List.mem_singleton.mp hb] at e; exact e ▸ ha)⟩) (by simp; omega)
theorem nodup_sub_len {l m : List Nat} (hl : l.Nodup) (h : ∀ x ∈ l, x ∈ m) : l.length ≤ m.length := by
  induction l generalizing m with
  | nil => simp
  | cons a l ih =>
    have ha := h a List.mem_cons_self
    have hn := List.nodup_cons.mp hl
    have := ih (m := m.erase a) hn.2 fun x hx => (List.mem_erase_of_ne (fun (e : x = a) => hn.1 (e ▸ hx))).mpr (h x (List.mem_cons_of_mem _ hx))
    rw [List.length_erase_of_mem ha] at this
    have : 0 < m.length := List.length_pos_of_mem ha
    simp only [List.length_cons]; omega
theorem nodup_sub_perm {l m : List Nat} (hl : l.Nodup) (hm : m.Nodup) (h : ∀ x ∈ l, x ∈ m) (hlen : l.length = m.length) : l.Perm m := by
  rw [List.perm_ext_iff_of_nodup hl hm]
  intro a
  refine ⟨h a, fun ha => Classical.byContradiction fun hn => ?_⟩
  have := nodup_sub_len (l := a :: l) (m := m) (List.nodup_cons.mpr ⟨hn, hl⟩) (fun x hx => by
    rcases List.mem_cons.mp hx with rfl | hx
    · exact ha
    · exact h x hx)
  simp at this; omega
/-- each of S waits for one of S -/
def Stuck (w : Nat → List Nat) (S : List Nat) : Prop := S ≠ [] ∧ ∀ i ∈ S, ∃ j ∈ w i, j ∈ S
theorem find_some (hD : Ds.Nodup) {l : List Nat} (h : findWay (Ds.map fun i => (i, w i)) = some l) : l.Perm Ds ∧ Ordered w l := by
  obtain ⟨h1, h2, h3, h4⟩ := wayGo_some _ [] l h (by simp) (by simp) (fun a i b e => by simp at e)
  refine ⟨nodup_sub_perm h1 hD h2 (by simpa using h4), h3⟩
theorem find_none (hw : ∀ i ∈ Ds, ∀ j ∈ w i, j ∈ Ds) (hD : Ds.Nodup) (h : findWay (Ds.map fun i => (i, w i)) = none) : ∃ S, Stuck w S ∧ ∀ i ∈ S, i ∈ Ds := by
  obtain ⟨done, h1, h2, h3⟩ := wayGo_none _ [] h (by simp) (by simp)
  refine ⟨Ds.filter fun i => !decide (i ∈ done), ⟨fun e => ?_, fun i hi => ?_⟩, fun i hi => (List.mem_filter.mp hi).1⟩
  · rw [List.filter_eq_nil_iff] at e
    have := nodup_sub_len (m := done) hD fun x hx => by simpa using e x hx
    omega
  · simp only [List.mem_filter, Bool.not_eq_true', decide_eq_false_iff_not] at hi ⊢
    apply Classical.byContradiction
    intro hn
    have : i ∈ readyOf (Ds.map fun i => (i, w i)) done := mem_ready.mpr ⟨hi.1, hi.2, fun j hj => Classical.byContradiction fun hj2 => hn ⟨j, hj, hw i hi.1 j hj, hj2⟩⟩
    rw [h3] at this; simp at this
theorem ordered_first : ∀ {l S : List Nat}, (∃ i ∈ l, i ∈ S) → ∃ a i b, l = a ++ i :: b ∧ i ∈ S ∧ ∀ j ∈ a, j ∉ S
  | [], S, h => by simp at h
  | x :: l, S, h => by
    by_cases hx : x ∈ S
    · exact ⟨[], x, l, rfl, hx, by simp⟩
    · obtain ⟨i, hi, hiS⟩ := h
      rcases List.mem_cons.mp hi with rfl | hi
      · exact absurd hiS hx
      · obtain ⟨a, k, b, e, h1, h2⟩ := ordered_first (l := l) ⟨i, hi, hiS⟩
        exact ⟨x :: a, k, b, by rw [e]; rfl, h1, fun j hj => by
          rcases List.mem_cons.mp hj with rfl | hj
          · exact hx
          · exact h2 j hj⟩
theorem ordered_unstuck {l S : List Nat} (h : Ordered w l) (hS : Stuck w S) (hsub : ∀ i ∈ S, i ∈ l) : False := by
  obtain ⟨hne, hS⟩ := hS
  obtain ⟨x, hx⟩ := List.exists_mem_of_ne_nil S hne
  obtain ⟨a, i, b, e, hi, ha⟩ := ordered_first (l := l) ⟨x, hsub x hx, hx⟩
  obtain ⟨j, hj, hjS⟩ := hS i hi
  exact ha j (h a i b e j hj) hjS
end order
theorem wayOf_some {l : List Nat} (h : wayOf p r g = some l) : l.Perm (diffL r g) ∧ Ordered (waitsFor p r g) l := find_some (diff_nodup r g) h
theorem wayOf_none (h : wayOf p r g = none) : ∃ S, Stuck (waitsFor p r g) S ∧ ∀ i ∈ S, i ∈ diffL r g := find_none (fun i _ j hj => (mem_waits.mp hj).1) (diff_nodup r g) h
theorem stuck_none {S : List Nat} (h : Stuck (waitsFor p r g) S) (hsub : ∀ i ∈ S, i ∈ diffL r g) : wayOf p r g = none := by
  cases hw : wayOf p r g with
  | none => rfl
  | some l =>
    obtain ⟨h1, h2⟩ := wayOf_some hw
    exact (ordered_unstuck h2 h fun i hi => h1.mem_iff.mpr (hsub i hi)).elim
theorem stuck_held (hl : r.length = p.length) {S : List Nat} (h : Stuck (waitsFor p r g) S) (hsub : ∀ i ∈ S, i ∈ diffL r g) : HeldS p r S := fun i hi => by
  obtain ⟨j, hj, hjS⟩ := h.2 i hi
  have := mem_waits.mp hj
  refine ⟨by have := (diff_lt (hsub i hi)).1; omega, j, hjS, this.2.1, ?_⟩
  rw [← diff_not (hsub i hi)]
  exact this.2.2
/-! the states on an ordered way -/
def mixB (r g : List Bool) (a : List Nat) : List Bool := (List.range r.length).map fun k => if k ∈ a then g.getD k false else r.getD k false
@[simp] theorem mixB_len (r g : List Bool) (a : List Nat) : (mixB r g a).length = r.length := by simp [mixB]
theorem mixB_at {a : List Nat} {k : Nat} (hk : k < r.length) : (mixB r g a).getD k false = if k ∈ a then g.getD k false else r.getD k false := by
  simp [mixB, List.getD, hk]
theorem mix_fits (hn : KeysN p) (hl : r.length = p.length) (hg : g.length = p.length) (hr : fitsB p r = true) (hgf : fitsB p g = true) {a : List Nat} (ha : ∀ i ∈ a, i ∈ diffL r g ∧ ∀ j ∈ waitsFor p r g i, j ∈ a) : fitsB p (mixB r g a) = true := by
  have hr := (fits_iff hn hl).mp hr
  have hgf := (fits_iff hn hg).mp hgf
  have one : ∀ i j, i < p.length → j < p.length → i ≠ j → i ∈ a → j ∉ a → barB p (i, g.getD i false) (j, r.getD j false) = false := by
    intro i j hi hj hij hia hja
    cases hb : barB p (i, g.getD i false) (j, r.getD j false) with
    | false => rfl
    | true =>
      by_cases hd : j ∈ diffL r g
      · exact absurd ((ha i hia).2 j (mem_waits.mpr ⟨hd, fun e => hij e.symm, hb⟩)) hja
      · have e : r.getD j false = g.getD j false := Classical.byContradiction fun hne => hd (mem_diff.mpr ⟨by omega, by omega, hne⟩)
        rw [e, hgf i j hi hj hij] at hb; cases hb
  rw [fits_iff hn (by simpa using hl)]
  intro i j hi hj hij
  rw [mixB_at (by omega), mixB_at (by omega)]
  by_cases h1 : i ∈ a <;> by_cases h2 : j ∈ a
  · rw [if_pos h1, if_pos h2]; exact hgf i j hi hj hij
  · rw [if_pos h1, if_neg h2]; exact one i j hi hj hij h1 h2
  · rw [if_neg h1, if_pos h2, bar_symm]; exact one j i hj hi (fun e => hij e.symm) h2 h1
  · rw [if_neg h1, if_neg h2]; exact hr i j hi hj hij
theorem mix_nil (r g : List Bool) : mixB r g [] = r := row_ext (by simp) fun k hk => by
  rw [mixB_at (by simpa using hk)]; simp
theorem mix_snoc {a : List Nat} (hi : i ∈ diffL r g) (hia : i ∉ a) : flipB (mixB r g a) i = mixB r g (a ++ [i]) := row_ext (by simp) fun k hk => by
  have hir := (diff_lt hi).1
  have hk : k < r.length := by simpa using hk
  rw [flip_at _ _ _ (by simpa using hir), mixB_at hk, mixB_at hk, mixB_at hir]
  by_cases h : k = i
  · subst h
    rw [if_pos rfl, if_neg hia, if_pos (by simp), diff_not hi]
  · rw [if_neg h]
    have : (k ∈ a ++ [i]) ↔ k ∈ a := by simp [h]
    simp only [this]
theorem mix_all (hlg : r.length = g.length) {a : List Nat} (h : ∀ i ∈ diffL r g, i ∈ a) : mixB r g a = g := row_ext (by simpa using hlg) fun k hk => by
  have hk : k < r.length := by simpa using hk
  rw [mixB_at hk]
  split
  · rfl
  · next hn => exact Classical.byContradiction fun hne => hn (h k (mem_diff.mpr ⟨hk, by omega, hne⟩))
theorem go_ordered (hn : KeysN p) (hl : r.length = p.length) (hg : g.length = p.length) (hr : fitsB p r = true) (hgf : fitsB p g = true) : ∀ (b a : List Nat), (a ++ b).Nodup → (∀ i ∈ a ++ b, i ∈ diffL r g) → Ordered (waitsFor p r g) (a ++ b) → goL (stepI p) (mixB r g a) b = some (mixB r g (a ++ b))
  | [], a, _, _, _ => by simp [goL]
  | i :: b, a, h1, h2, h3 => by
    have hia : i ∉ a := fun h => (List.nodup_append.mp h1).2.2 i h i List.mem_cons_self rfl
    have hid := h2 i (by simp)
    have hf : fitsB p (flipB (mixB r g a) i) = true := by
      rw [mix_snoc hid hia]
      refine mix_fits hn hl hg hr hgf fun k hk => ⟨h2 k ?_, fun j hj => ?_⟩
      · rcases List.mem_append.mp hk with hk | hk
        · exact List.mem_append_left _ hk
        · rw [List.mem_singleton.mp hk]; simp
      · rcases List.mem_append.mp hk with hk | hk
        · obtain ⟨a1, a2, rfl⟩ := List.append_of_mem hk
          have := h3 a1 k (a2 ++ i :: b) (by simp) j hj
          simp [this]
        · rw [List.mem_singleton.mp hk] at hj
          have := h3 a i b rfl j hj
          simp [this]
    have hs : stepI p (mixB r g a) i = some (flipB (mixB r g a) i) := if_pos hf
    show (stepI p (mixB r g a) i).bind (fun s' => goL (stepI p) s' b) = _
    rw [hs, Option.bind_some, mix_snoc hid hia]
    have := go_ordered hn hl hg hr hgf b (a ++ [i]) (by simpa using h1) (by simpa using h2) (by simpa using h3)
    simpa using this
theorem walk_ordered (hn : KeysN p) (hl : r.length = p.length) (hg : g.length = p.length) (hr : fitsB p r = true) (hgf : fitsB p g = true) {l : List Nat} (hp : l.Perm (diffL r g)) (ho : Ordered (waitsFor p r g) l) : Walk p r l g := by
  have := go_ordered hn hl hg hr hgf l [] (by simpa using hp.nodup_iff.mpr (diff_nodup r g)) (by simpa using fun i hi => hp.mem_iff.mp hi) (by simpa using ho)
  rw [mix_nil, List.nil_append, mix_all (by omega) fun i hi => hp.mem_iff.mpr hi] at this
  exact ⟨fun i hi => by have := (diff_lt (hp.mem_iff.mp hi)).1; omega, this⟩
theorem way_walk (hn : KeysN p) (hl : r.length = p.length) (hg : g.length = p.length) (hr : fitsB p r = true) (hgf : fitsB p g = true) {l : List Nat} (h : wayOf p r g = some l) : Walk p r l g :=
  walk_ordered hn hl hg hr hgf (wayOf_some h).1 (wayOf_some h).2
theorem conn_iff (hn : KeysN p) (hl : r.length = p.length) (hg : g.length = p.length) (hr : fitsB p r = true) (hgf : fitsB p g = true) : Conn p r g ↔ (wayOf p r g).isSome = true := by
  constructor
  · intro h
    cases hw : wayOf p r g with
    | some _ => rfl
    | none =>
      obtain ⟨S, hS, hsub⟩ := wayOf_none hw
      obtain ⟨x, hx⟩ := List.exists_mem_of_ne_nil S hS.1
      have := h.stay hn hl (stuck_held hl hS hsub) x hx
      exact absurd this.symm (mem_diff.mp (hsub x hx)).2.2
  · intro h
    obtain ⟨l, hl'⟩ := Option.isSome_iff_exists.mp h
    exact ⟨l, way_walk hn hl hg hr hgf hl'⟩
end
end TK.P

/-! being reached; frozen locks; middle states -/
namespace TK.P
open PySem TK L2
section
variable {p : List Lock} {r g q m : List Bool} {i j : Nat}
theorem goL_app {σ α : Type} {step : σ → α → Option σ} : ∀ (l m : List α) (s : σ), goL step s (l ++ m) = (goL step s l).bind fun s' => goL step s' m
  | [], m, s => rfl
  | a :: l, m, s => by
    show (step s a).bind (fun s' => goL step s' (l ++ m)) = ((step s a).bind fun s' => goL step s' l).bind _
    cases step s a with
    | none => rfl
    | some s' => exact goL_app l m s'
theorem flip2 (r : List Bool) {i : Nat} (h : i < r.length) : flipB (flipB r i) i = r := row_ext (by simp) fun k hk => by
  rw [flip_at _ _ _ (by simpa using h), flip_at _ _ _ h, flip_at _ _ _ h]
  split
  · next e => subst e; simp
  · rfl
/-- a state, in plain words -/
structure IsS (p : List Lock) (r : List Bool) : Prop where
  len : r.length = p.length
  fits : fitsB p r = true
theorem step_back (hr : IsS p r) (hi : i < p.length) (h : stepI p r i = some q) : IsS p q ∧ stepI p q i = some r := by
  unfold stepI at h
  split at h
  · cases h
    next hf =>
    have hl := hr.len
    refine ⟨⟨by simpa using hl, hf⟩, ?_⟩
    unfold stepI
    rw [flip2 r (by omega), if_pos hr.fits]
  · cases h
theorem walk_back : ∀ (l : List Nat) (r q : List Bool), IsS p r → (∀ i ∈ l, i < p.length) → goL (stepI p) r l = some q → IsS p q ∧ goL (stepI p) q l.reverse = some r
  | [], r, q, hr, _, h => by cases h; exact ⟨hr, rfl⟩
  | i :: l, r, q, hr, hi, h => by
    have h' : (stepI p r i).bind (fun s' => goL (stepI p) s' l) = some q := h
    cases hs : stepI p r i with
    | none => rw [hs] at h'; cases h'
    | some r' =>
      rw [hs] at h'
      obtain ⟨h1, h2⟩ := step_back hr (hi i List.mem_cons_self) hs
      obtain ⟨h3, h4⟩ := walk_back l r' q h1 (fun k hk => hi k (List.mem_cons_of_mem _ hk)) h'
      refine ⟨h3, ?_⟩
      rw [List.reverse_cons, goL_app, h4]
      show (stepI p r' i).bind _ = _
      rw [h2]; rfl
theorem Conn.isS (hr : IsS p r) (h : Conn p r g) : IsS p g := by
  obtain ⟨l, h1, h2⟩ := h
  exact (walk_back l r g hr h1 h2).1
theorem Conn.refl (p : List Lock) (r : List Bool) : Conn p r r := ⟨[], by simp, rfl⟩
theorem Conn.symm (hr : IsS p r) (h : Conn p r g) : Conn p g r := by
  obtain ⟨l, h1, h2⟩ := h
  exact ⟨l.reverse, fun i hi => h1 i (List.mem_reverse.mp hi), (walk_back l r g hr h1 h2).2⟩
theorem Conn.trans (h1 : Conn p r q) (h2 : Conn p q g) : Conn p r g := by
  obtain ⟨l, a, b⟩ := h1
  obtain ⟨l', a', b'⟩ := h2
  refine ⟨l ++ l', fun i hi => (List.mem_append.mp hi).elim (a i) (a' i), ?_⟩
  rw [goL_app, b]
  exact b'
theorem Walk.rev (hr : IsS p r) {l : List Nat} (h : Walk p r l g) : Walk p g l.reverse r := ⟨fun i hi => h.1 i (List.mem_reverse.mp hi), (walk_back l r g hr h.1 h.2).2⟩
/-- locks that never turn -/
def Frz (p : List Lock) (r : List Bool) (i : Nat) : Prop := ∃ S, HeldS p r S ∧ i ∈ S
theorem Frz.lt (h : Frz p r i) : i < p.length := by
  obtain ⟨S, h1, h2⟩ := h
  exact (h1 i h2).1
theorem Conn.frz (hn : KeysN p) (hr : IsS p r) (h : Conn p r g) (hi : Frz p r i) : g.getD i false = r.getD i false := by
  obtain ⟨S, h1, h2⟩ := hi
  exact h.stay hn hr.len h1 i h2
theorem conn_agree (hn : KeysN p) (hr : IsS p r) (hg : IsS p g) : Conn p r g ↔ ∀ i, Frz p r i → g.getD i false = r.getD i false := by
  constructor
  · exact fun h i hi => h.frz hn hr hi
  · intro h
    rw [conn_iff hn hr.len hg.len hr.fits hg.fits]
    cases hw : wayOf p r g with
    | some _ => rfl
    | none =>
      obtain ⟨S, hS, hsub⟩ := wayOf_none hw
      obtain ⟨x, hx⟩ := List.exists_mem_of_ne_nil S hS.1
      exact absurd (h x ⟨S, stuck_held hr.len hS hsub, hx⟩).symm (mem_diff.mp (hsub x hx)).2.2
theorem Conn.frz_sub (hn : KeysN p) (hr : IsS p r) (h : Conn p r g) (hi : Frz p r i) : Frz p g i := by
  obtain ⟨S, h1, h2⟩ := hi
  have hst := h.stay hn hr.len h1
  refine ⟨S, fun k hk => ?_, h2⟩
  obtain ⟨a, j, hj, hne, hb⟩ := h1 k hk
  exact ⟨a, j, hj, hne, by rw [hst k hk, hst j hj]; exact hb⟩
theorem Conn.frz_iff (hn : KeysN p) (hr : IsS p r) (h : Conn p r g) : Frz p r i ↔ Frz p g i := ⟨h.frz_sub hn hr, (h.symm hr).frz_sub hn (h.isS hr)⟩
theorem wayOf_len {l : List Nat} (h : wayOf p r g = some l) : l.length = (diffL r g).length := (wayOf_some h).1.length_eq
/-! the middle of three -/
def midB (a b c : Bool) : Bool := (a && b) || (b && c) || (a && c)
def midL (a b c : List Bool) : List Bool := (List.range a.length).map fun i => midB (a.getD i false) (b.getD i false) (c.getD i false)
@[simp] theorem midL_len (a b c : List Bool) : (midL a b c).length = a.length := by simp [midL]
theorem midL_at {a b c : List Bool} {k : Nat} (hk : k < a.length) : (midL a b c).getD k false = midB (a.getD k false) (b.getD k false) (c.getD k false) := by
  simp [midL, List.getD, hk]
theorem mid_two (a b c a' b' c' : Bool) : (midB a b c = a ∧ midB a' b' c' = a') ∨ (midB a b c = b ∧ midB a' b' c' = b') ∨ (midB a b c = c ∧ midB a' b' c' = c') := by
  cases a <;> cases b <;> cases c <;> cases a' <;> cases b' <;> cases c' <;> simp [midB]
theorem mid_isS (hn : KeysN p) {a b c : List Bool} (ha : IsS p a) (hb : IsS p b) (hc : IsS p c) : IsS p (midL a b c) := by
  have hal := ha.len
  refine ⟨by simpa using ha.len, (fits_iff hn (by simpa using ha.len)).mpr fun i j hi hj hij => ?_⟩
  have h1 := (fits_iff hn ha.len).mp ha.fits i j hi hj hij
  have h2 := (fits_iff hn hb.len).mp hb.fits i j hi hj hij
  have h3 := (fits_iff hn hc.len).mp hc.fits i j hi hj hij
  rw [midL_at (by omega), midL_at (by omega)]
  rcases mid_two (a.getD i false) (b.getD i false) (c.getD i false) (a.getD j false) (b.getD j false) (c.getD j false) with h | h | h <;> rw [h.1, h.2] <;> assumption
theorem mid_conn (hn : KeysN p) (hr : IsS p r) {a b c : List Bool} (ha : Conn p r a) (hb : Conn p r b) (hc : Conn p r c) : Conn p r (midL a b c) := by
  rw [conn_agree hn hr (mid_isS hn (ha.isS hr) (hb.isS hr) (hc.isS hr))]
  intro i hi
  have h1 := ha.frz hn hr hi
  have h2 := hb.frz hn hr hi
  have h3 := hc.frz hn hr hi
  have := hi.lt
  have h4 := (ha.isS hr).len
  rw [midL_at (by omega), h1, h2, h3]
  cases r.getD i false <;> rfl
theorem filter_add {α : Type} {P Q R : α → Bool} : ∀ {l : List α}, (∀ x ∈ l, (P x = true ↔ (Q x = true ∨ R x = true)) ∧ ¬(Q x = true ∧ R x = true)) → (l.filter P).length = (l.filter Q).length + (l.filter R).length
  | [], _ => rfl
  | x :: l, h => by
    have ih := filter_add (l := l) fun y hy => h y (List.mem_cons_of_mem _ hy)
    have hx := h x List.mem_cons_self
    rw [List.filter_cons, List.filter_cons, List.filter_cons]
    cases hQ : Q x <;> cases hR : R x <;> cases hP : P x <;> simp [hQ, hR, hP] at hx ⊢ <;> omega
theorem diff_between {a b m : List Bool} (hab : a.length = b.length) (ham : a.length = m.length) (h : ∀ k, k < a.length → m.getD k false = a.getD k false ∨ m.getD k false = b.getD k false) : (diffL a b).length = (diffL a m).length + (diffL m b).length := by
  unfold diffL
  rw [show min a.length b.length = a.length by omega, show min a.length m.length = a.length by omega, show min m.length b.length = a.length by omega]
  refine filter_add fun k hk => ?_
  have := h k (List.mem_range.mp hk)
  revert this
  cases a.getD k false <;> cases b.getD k false <;> cases m.getD k false <;> simp
theorem mid_between {a b c : List Bool} (hab : a.length = b.length) (hac : a.length = c.length) : (diffL a b).length = (diffL a (midL a b c)).length + (diffL (midL a b c) b).length := by
  refine diff_between hab (by simp) fun k hk => ?_
  rw [midL_at hk]
  cases a.getD k false <;> cases b.getD k false <;> cases c.getD k false <;> simp [midB]
theorem mid_rot {a b c : List Bool} (hab : a.length = b.length) (hac : a.length = c.length) : midL a b c = midL b c a := row_ext (by simpa using hab) fun k hk => by
  have hk : k < a.length := by simpa using hk
  rw [midL_at hk, midL_at (by omega)]
  cases a.getD k false <;> cases b.getD k false <;> cases c.getD k false <;> rfl
end
end TK.P

/-! rings of waits: plain maths -/
namespace TK.P
open PySem TK L2
section
variable {w : Nat → List Nat} {Ds : List Nat} {c l row : List Nat} {i j k m n : Nat}
def lastN (l : List Nat) : Nat := l.getLastD 0
def headN (l : List Nat) : Nat := l.headD 0
def rextend (w : Nat → List Nat) (row : List Nat) : List (List Nat) := ((w (lastN row)).filter fun o => !decide (o ∈ row) && decide (headN row < o)).map fun o => row ++ [o]
def closedR (w : Nat → List Nat) (row : List Nat) : Bool := decide (headN row ∈ w (lastN row))
/-- the first level of rows at which some are closed: those -/
def ringCl (w : Nat → List Nat) : Nat → List (List Nat) → List (List Nat)
  | 0, _ => []
  | n + 1, rows => if rows = [] then [] else if rows.filter (closedR w) = [] then ringCl w n (rows.flatMap (rextend w)) else rows.filter (closedR w)
def rowsN (w : Nat → List Nat) (Ds : List Nat) : Nat → List (List Nat)
  | 0 => Ds.map fun i => [i]
  | m + 1 => (rowsN w Ds m).flatMap (rextend w)
/-- a row of waits, the least first, none twice -/
structure RPath (w : Nat → List Nat) (Ds l : List Nat) : Prop where
  nodup : l.Nodup
  ne : l ≠ []
  sub : ∀ x ∈ l, x ∈ Ds
  link : ∀ k, k + 1 < l.length → l.getD (k + 1) 0 ∈ w (l.getD k 0)
  least : ∀ k, 0 < k → k < l.length → l.getD 0 0 < l.getD k 0
theorem getLast_at (h : l ≠ []) : lastN l = l.getD (l.length - 1) 0 := by
  rcases List.eq_nil_or_concat l with rfl | ⟨l', x, rfl⟩
  · exact absurd rfl h
  · simp [lastN]
theorem head_at (h : l ≠ []) : headN l = l.getD 0 0 := by
  cases l with
  | nil => exact absurd rfl h
  | cons a l => rfl
theorem getD_pre {a b : List Nat} (h : k < a.length) : (a ++ b).getD k 0 = a.getD k 0 := by
  simp [List.getD, List.getElem?_append_left h]
theorem getD_last {a : List Nat} {x : Nat} : (a ++ [x]).getD a.length 0 = x := by simp
theorem getD_mem (h : k < l.length) : l.getD k 0 ∈ l := by
  simp [List.getD, h]
theorem mem_rextend : l ∈ rextend w row ↔ ∃ o, o ∈ w (lastN row) ∧ o ∉ row ∧ headN row < o ∧ l = row ++ [o] := by
  unfold rextend
  simp only [List.mem_map, List.mem_filter, Bool.and_eq_true, Bool.not_eq_true', decide_eq_false_iff_not, decide_eq_true_eq]
  constructor
  · rintro ⟨o, ⟨h1, h2, h3⟩, rfl⟩; exact ⟨o, h1, h2, h3, rfl⟩
  · rintro ⟨o, h1, h2, h3, rfl⟩; exact ⟨o, ⟨h1, h2, h3⟩, rfl⟩
theorem mem_rowsN (hw : ∀ i ∈ Ds, ∀ j ∈ w i, j ∈ Ds) : ∀ (m : Nat) (l : List Nat), l ∈ rowsN w Ds m ↔ RPath w Ds l ∧ l.length = m + 1
  | 0, l => by
    unfold rowsN
    simp only [List.mem_map]
    constructor
    · rintro ⟨x, hx, rfl⟩
      exact ⟨⟨by simp, by simp, by simpa using hx, fun k hk => by simp at hk, fun k h0 hk => by simp at hk; omega⟩, rfl⟩
    · rintro ⟨h, hl⟩
      cases l with
      | nil => exact absurd rfl h.ne
      | cons a l =>
        cases l with
        | nil => exact ⟨a, h.sub a (by simp), rfl⟩
        | cons b l => simp at hl
  | m + 1, l => by
    show l ∈ (rowsN w Ds m).flatMap (rextend w) ↔ _
    simp only [List.mem_flatMap, mem_rextend]
    constructor
    · rintro ⟨row, hrow, o, h1, h2, h3, rfl⟩
      obtain ⟨hP, hl⟩ := (mem_rowsN hw m row).mp hrow
      rw [getLast_at hP.ne] at h1
      rw [head_at hP.ne] at h3
      have hpos : 0 < row.length := by omega
      refine ⟨⟨?_, by simp, ?_, ?_, ?_⟩, by simp [hl]⟩
      · rw [List.nodup_append]
        exact ⟨hP.nodup, by simp, fun a ha b hb e => h2 (by rw [List.mem_singleton.mp hb] at e; exact e ▸ ha)⟩
      · intro x hx
        rcases List.mem_append.mp hx with hx | hx
        · exact hP.sub x hx
        · rw [List.mem_singleton.mp hx]
          exact hw _ (hP.sub _ (getD_mem (by omega))) o h1
      · intro k hk
        simp at hk
        rw [getD_pre (by omega)]
        by_cases h : k + 1 < row.length
        · rw [getD_pre h]; exact hP.link k h
        · have e : k + 1 = row.length := by omega
          rw [e, getD_last, show k = row.length - 1 by omega]; exact h1
      · intro k h0 hk
        simp at hk
        rw [getD_pre hpos]
        by_cases h : k < row.length
        · rw [getD_pre h]; exact hP.least k h0 h
        · have e : k = row.length := by omega
          rw [e, getD_last]; exact h3
    · rintro ⟨hP, hl⟩
      rcases List.eq_nil_or_concat l with rfl | ⟨row, o, rfl⟩
      · exact absurd rfl hP.ne
      · simp only [List.concat_eq_append] at hP hl ⊢
        have hrl : row.length = m + 1 := by simpa using hl
        have hne : row ≠ [] := fun e => by rw [e] at hrl; simp at hrl
        have hnd := List.nodup_append.mp hP.nodup
        refine ⟨row, (mem_rowsN hw m row).mpr ⟨⟨hnd.1, hne, fun x hx => hP.sub x (by simp [hx]), ?_, ?_⟩, hrl⟩, o, ?_, ?_, ?_, rfl⟩
        · intro k hk
          have := hP.link k (by simp; omega)
          rwa [getD_pre hk, getD_pre (by omega)] at this
        · intro k h0 hk
          have := hP.least k h0 (by simp; omega)
          rwa [getD_pre hk, getD_pre (by omega)] at this
        · rw [getLast_at hne]
          have := hP.link (row.length - 1) (by simp; omega)
          rw [show row.length - 1 + 1 = row.length by omega, getD_last, getD_pre (by omega)] at this
          exact this
        · exact fun h => hnd.2.2 o h o (by simp) rfl
        · rw [head_at hne]
          have := hP.least row.length (by omega) (by simp)
          rwa [getD_last, getD_pre (by omega)] at this
theorem RPath.len (h : RPath w Ds l) : l.length ≤ Ds.length := nodup_sub_len h.nodup h.sub
theorem rowsN_nil (h : rowsN w Ds m = []) (hmn : m ≤ n) : rowsN w Ds n = [] := by
  induction n with
  | zero => rw [show m = 0 by omega] at h; exact h
  | succ n ih =>
    by_cases e : m = n + 1
    · rw [← e]; exact h
    · show (rowsN w Ds n).flatMap (rextend w) = []
      rw [ih (by omega)]; rfl
/-- what the search finds -/
theorem ringCl_spec : ∀ (fu m : Nat), Ds.length < m + fu → (∀ k, k < m → (rowsN w Ds k).filter (closedR w) = []) → (∀ k, rowsN w Ds k ≠ [] → k < Ds.length) →
    (ringCl w fu (rowsN w Ds m) = [] ∧ ∀ k, (rowsN w Ds k).filter (closedR w) = []) ∨ ∃ k, ringCl w fu (rowsN w Ds m) ≠ [] ∧ ringCl w fu (rowsN w Ds m) = (rowsN w Ds k).filter (closedR w) ∧ ∀ k', k' < k → (rowsN w Ds k').filter (closedR w) = []
  | 0, m, hf, h1, h2 => .inl ⟨rfl, fun k => by
      by_cases hk : k < m
      · exact h1 k hk
      · have : rowsN w Ds k = [] := Classical.byContradiction fun hn => by
          have := h2 k hn
          omega
        rw [this]; rfl⟩
  | fu + 1, m, hf, h1, h2 => by
    by_cases he : rowsN w Ds m = []
    · refine .inl ⟨by unfold ringCl; rw [if_pos he], fun k => ?_⟩
      by_cases hk : k < m
      · exact h1 k hk
      · rw [rowsN_nil he (by omega)]; rfl
    · by_cases hc : (rowsN w Ds m).filter (closedR w) = []
      · have e : ringCl w (fu + 1) (rowsN w Ds m) = ringCl w fu (rowsN w Ds (m + 1)) := by
          conv => lhs; unfold ringCl
          rw [if_neg he, if_pos hc]; rfl
        rw [e]
        exact ringCl_spec fu (m + 1) (by omega) (fun k hk => by
          by_cases h : k < m
          · exact h1 k h
          · rw [show k = m by omega]; exact hc) h2
      · have e : ringCl w (fu + 1) (rowsN w Ds m) = (rowsN w Ds m).filter (closedR w) := by
          conv => lhs; unfold ringCl
          rw [if_neg he, if_neg hc]
        refine .inr ⟨m, ?_, e, h1⟩
        rw [e]; exact hc
/-- a ring: a row whose last waits for the first -/
structure Ring (w : Nat → List Nat) (Ds l : List Nat) : Prop extends RPath w Ds l where
  close : l.getD 0 0 ∈ w (l.getD (l.length - 1) 0)
theorem closed_iff (h : l ≠ []) : closedR w l = true ↔ l.getD 0 0 ∈ w (l.getD (l.length - 1) 0) := by
  unfold closedR
  rw [decide_eq_true_eq, head_at h, getLast_at h]
theorem mem_closed (hw : ∀ i ∈ Ds, ∀ j ∈ w i, j ∈ Ds) : l ∈ (rowsN w Ds m).filter (closedR w) ↔ Ring w Ds l ∧ l.length = m + 1 := by
  rw [List.mem_filter, mem_rowsN hw]
  constructor
  · rintro ⟨⟨h1, h2⟩, h3⟩
    exact ⟨⟨h1, (closed_iff h1.ne).mp h3⟩, h2⟩
  · rintro ⟨h1, h2⟩
    exact ⟨⟨h1.toRPath, h2⟩, (closed_iff h1.ne).mpr h1.close⟩
theorem ring_stuck (h : Ring w Ds l) : Stuck w l := ⟨h.ne, fun i hi => by
  obtain ⟨k, hk, rfl⟩ := List.getElem_of_mem hi
  have ek : l.getD k 0 = l[k] := by simp [List.getD, hk]
  by_cases hl : k + 1 < l.length
  · exact ⟨l.getD (k + 1) 0, ek ▸ h.link k hl, getD_mem hl⟩
  · have e : k = l.length - 1 := by omega
    exact ⟨l.getD 0 0, by rw [← ek]; have := h.close; rwa [← e] at this, getD_mem (by omega)⟩⟩
/-! where some hold each other, there is a ring -/
theorem exists_min {P : Nat → Prop} (h : ∃ n, P n) : ∃ n, P n ∧ ∀ m, m < n → ¬P m := by
  obtain ⟨n, hn⟩ := h
  induction n using Nat.strongRecOn with
  | ind n ih =>
    by_cases hm : ∃ m, m < n ∧ P m
    · obtain ⟨m, h1, h2⟩ := hm
      exact ih m h1 h2
    · exact ⟨n, hn, fun m h1 h2 => hm ⟨m, h1, h2⟩⟩
theorem exists_least (y : Nat → Nat) : ∀ n, 0 < n → ∃ k, k < n ∧ ∀ l, l < n → y k ≤ y l
  | 0, h => by omega
  | 1, _ => ⟨0, by omega, fun l hl => by rw [show l = 0 by omega]; exact Nat.le_refl _⟩
  | n + 2, _ => by
    obtain ⟨k, h1, h2⟩ := exists_least y (n + 1) (by omega)
    by_cases h : y k ≤ y (n + 1)
    · exact ⟨k, by omega, fun l hl => by
        by_cases e : l = n + 1
        · rw [e]; exact h
        · exact h2 l (by omega)⟩
    · exact ⟨n + 1, by omega, fun l hl => by
        by_cases e : l = n + 1
        · rw [e]; exact Nat.le_refl _
        · have := h2 l (by omega); omega⟩
def iter (f : Nat → Nat) (x : Nat) : Nat → Nat
  | 0 => x
  | n + 1 => f (iter f x n)
theorem stuck_ring {S : List Nat} (h : Stuck w S) (hS : ∀ i ∈ S, i ∈ Ds) : ∃ c, Ring w Ds c := by
  obtain ⟨hne, hst⟩ := h
  obtain ⟨x0, hx0⟩ := List.exists_mem_of_ne_nil S hne
  have hf : ∃ f : Nat → Nat, ∀ i ∈ S, f i ∈ w i ∧ f i ∈ S := by
    refine ⟨fun i => if h : i ∈ S then (hst i h).choose else 0, fun i hi => ?_⟩
    simp only [dif_pos hi]
    exact (hst i hi).choose_spec
  obtain ⟨f, hf⟩ := hf
  have hmem : ∀ n, iter f x0 n ∈ S := fun n => by
    induction n with
    | zero => exact hx0
    | succ n ih => exact (hf _ ih).2
  have hrep : ∃ b, ∃ a, a < b ∧ iter f x0 a = iter f x0 b := by
    apply Classical.byContradiction
    intro hno
    have hnd : ((List.range (S.length + 1)).map (iter f x0)).Nodup := by
      unfold List.Nodup
      rw [List.pairwise_map]
      refine List.Pairwise.imp ?_ (List.pairwise_lt_range (n := S.length + 1))
      exact fun {a b} hab e => hno ⟨b, a, hab, e⟩
    have := nodup_sub_len (m := S) hnd fun x hx => by
      obtain ⟨k, _, rfl⟩ := List.mem_map.mp hx
      exact hmem k
    simp at this
    omega
  obtain ⟨b, ⟨a, hab, e⟩, hmin⟩ := exists_min hrep
  have hper : ∀ k, iter f x0 (b + k) = iter f x0 (a + k) := fun k => by
    induction k with
    | zero => exact e.symm
    | succ k ih =>
      show f (iter f x0 (b + k)) = f (iter f x0 (a + k))
      rw [ih]
  have hdis : ∀ i j, i < j → j < b → iter f x0 i ≠ iter f x0 j := fun i j hij hj e => hmin j hj ⟨i, hij, e⟩
  obtain ⟨k0, hk0, hle⟩ := exists_least (fun k => iter f x0 (a + k)) (b - a) (by omega)
  -- index brought below b
  have hsh : ∀ k, k < b - a → ∃ t, a ≤ t ∧ t < b ∧ iter f x0 (a + k0 + k) = iter f x0 t ∧ (t = a + k0 + k ∨ t + (b - a) = a + k0 + k) := fun k hk => by
    by_cases h : a + k0 + k < b
    · exact ⟨a + k0 + k, by omega, h, rfl, .inl rfl⟩
    · refine ⟨a + k0 + k - (b - a), by omega, by omega, ?_, .inr (by omega)⟩
      have := hper (a + k0 + k - b)
      rw [show b + (a + k0 + k - b) = a + k0 + k by omega] at this
      rw [this]; congr 1; omega
  have hinj : ∀ k l, k < l → l < b - a → iter f x0 (a + k0 + k) ≠ iter f x0 (a + k0 + l) := fun k l hkl hl e => by
    obtain ⟨t, t1, t2, t3, t4⟩ := hsh k (by omega)
    obtain ⟨u, u1, u2, u3, u4⟩ := hsh l hl
    rw [t3, u3] at e
    rcases Nat.lt_trichotomy t u with h | h | h
    · exact hdis t u h u2 e
    · omega
    · exact hdis u t h t2 e.symm
  have hget : ∀ k, k < b - a → ((List.range (b - a)).map fun k => iter f x0 (a + k0 + k)).getD k 0 = iter f x0 (a + k0 + k) := fun k hk => by
    simp [List.getD, hk]
  have hlen : ((List.range (b - a)).map fun k => iter f x0 (a + k0 + k)).length = b - a := by simp
  refine ⟨(List.range (b - a)).map fun k => iter f x0 (a + k0 + k), ⟨⟨?_, ?_, ?_, ?_, ?_⟩, ?_⟩⟩
  · unfold List.Nodup
    rw [List.pairwise_map, List.pairwise_iff_getElem]
    intro k l hk hl hkl
    simp at hk hl ⊢
    exact hinj k l hkl hl
  · intro e
    have := congrArg List.length e
    simp at this; omega
  · intro x hx
    obtain ⟨k, _, rfl⟩ := List.mem_map.mp hx
    exact hS _ (hmem _)
  · intro k hk
    rw [hlen] at hk
    rw [hget _ hk, hget _ (by omega)]
    exact (hf _ (hmem _)).1
  · intro k h0 hk
    rw [hlen] at hk
    rw [hget _ (by omega), hget _ hk]
    obtain ⟨t, t1, t2, t3, t4⟩ := hsh k hk
    have h1 := hle (t - a) (by omega)
    have h2 := hinj 0 k h0 hk
    simp only [show a + (t - a) = t by omega] at h1
    rw [t3] at h2 ⊢
    simp only [Nat.add_zero] at h2 ⊢
    omega
  · rw [hlen, hget _ (by omega), hget _ (by omega)]
    have h1 := (hf _ (hmem (a + k0 + (b - a - 1)))).1
    have h2 : f (iter f x0 (a + k0 + (b - a - 1))) = iter f x0 (a + k0 + (b - a)) := by
      show iter f x0 (a + k0 + (b - a - 1) + 1) = _
      congr 1; omega
    have h3 := hper k0
    rw [h2, show a + k0 + (b - a) = b + k0 by omega, h3] at h1
    exact h1
end
end TK.P

/-! what the functions about reaching return -/
namespace TK.P
open PySem TK L2
section
variable {n : Nat} {p : List Lock} {d e w : D} {r g : List Bool}
theorem OkP.keysN (hp : OkP p) : KeysN p := fun l hl => by
  have h := (okP_iff.mp hp).2.1 l hl
  exact ⟨asc_nodup (okKeys_iff.mp h.2.1).2.2, asc_nodup (okKeys_iff.mp h.2.2).2.2⟩
theorem mem_states : r ∈ statesOf p ↔ IsS p r := by
  unfold statesOf
  rw [List.mem_filter, vecs_mem]
  exact ⟨fun h => ⟨h.1, h.2⟩, fun h => ⟨h.1, h.2⟩⟩
theorem isS_iff : isSt p (rowD r) = true ↔ IsS p r := by
  rw [isSt_row, Bool.and_eq_true, decide_eq_true_eq]
  exact ⟨fun h => ⟨h.1, h.2⟩, fun h => ⟨h.1, h.2⟩⟩
theorem IsS.st (h : IsS p r) : isSt p (rowD r) = true := isS_iff.mpr h
def reachB (p : List Lock) (r g : List Bool) : Bool := (wayOf p r g).isSome
def reachOf (p : List Lock) (r : List Bool) : List (List Bool) := (statesOf p).filter (reachB p r)
@[simp] theorem notNone_nats (o : Option (List Nat)) : notNone (optNats o) = o.isSome := by cases o <;> rfl
@[simp] theorem notNone_names (p : List Lock) (o : Option (List Nat)) : notNone (optNames p o) = o.isSome := by cases o <;> rfl
theorem find_way_eq' (hl : r.length = p.length) (hg : g.length = p.length) (hp : p.length ≤ 8) : f_find_way [plantD p, rowD r, rowD g] = pure (optNats (wayOf p r g)) := find_way_eq hl hg hp
theorem is_reachable_eq (hp : OkP p) (hr : isSt p (rowD r) = true) (hg : isSt p (rowD g) = true) : f_is_reachable [plantD p, rowD r, rowD g] = pure (.bool (reachB p r g)) := by
  have h8 := (okP_iff.mp hp).1
  unfold f_is_reachable
  rw [run_eq rfl]
  simp [b_is_reachable, require_goal_ok hp hr hg, find_way_eq' (st_len hr) (st_len hg) h8.2, reachB]
theorem is_reachable_throw {c : Str} (h : f_require_goal [d, w, e] = throwX c) : f_is_reachable [d, w, e] = throwX c := by
  unfold f_is_reachable
  rw [run_eq rfl]
  simp [b_is_reachable, h]
theorem find_reachable_eq (hp : OkP p) (hl : r.length = p.length) : f_find_reachable [plantD p, rowD r] = pure (.list ((reachOf p r).map rowD)) := by
  have h8 := (okP_iff.mp hp).1
  unfold f_find_reachable
  rw [run_eq rfl]
  simp [b_find_reachable, find_states_eq hp.sized]
  refine comp_filterB (reachB p r) rowD (fun g hg => ?_) ?_
  · simp [compF, find_way_eq' hl (mem_states.mp hg).len h8.2, show (wayOf p r g).isSome = reachB p r g from rfl]
  · simp [reachOf]
theorem reachable_eq (hp : OkP p) (hr : isSt p (rowD r) = true) : f_reachable [plantD p, rowD r] = pure (.list ((reachOf p r).map rowD)) := by
  unfold f_reachable
  rw [run_eq rfl]
  simp [b_reachable, require_state_ok hp hr, find_reachable_eq hp (st_len hr)]
theorem reachable_throw {c : Str} (h : f_require_state [d, w] = throwX c) : f_reachable [d, w] = throwX c := by
  unfold f_reachable
  rw [run_eq rfl]
  simp [b_reachable, h]
/-! frozen locks -/
def frozenI (p : List Lock) (r : List Bool) : List Nat := (List.range p.length).filter fun i => (reachOf p r).all fun q => decide (q.getD i false = r.getD i false)
def frozenN (p : List Lock) (r : List Bool) : List Str := (frozenI p r).map fun i => (lk p i).1
theorem frozen_eq (hp : OkP p) (hr : isSt p (rowD r) = true) : f_frozen [plantD p, rowD r] = pure (.list ((frozenN p r).map .str)) := by
  have h8 := (okP_iff.mp hp).1
  have hl := st_len hr
  unfold f_frozen
  rw [run_eq rfl]
  have e0 : walkL .enum [plantD p] = some ((List.range p.length).map fun i => .tuple [.int (i : Int), lockD (lk p i)]) := enum_map lockD p ("", [], [])
  simp [b_frozen, require_state_ok hp hr, find_reachable_eq hp hl, e0]
  refine comp_filterB (fun i => (reachOf p r).all fun q => decide (q.getD i false = r.getD i false)) (fun i => PyData.str (lk p i).1) (fun i hi => ?_) ?_
  · have hi := List.mem_range.mp hi
    simp [compF]
    refine comp_mapB (fun q : List Bool => .bool (decide (q.getD i false = r.getD i false))) (fun q hq => ?_) ?_
    · have hq := (mem_states.mp (List.mem_filter.mp hq).1).len
      have e1 : app2 .ix (rowD q) (.int i) = some (bD (q.getD i false)) := ix_rowk (by omega)
      have e2 : app2 .ix (rowD r) (.int i) = some (bD (r.getD i false)) := ix_rowk (by omega)
      rw [List.getD_eq_getElem?_getD] at e1 e2
      simp [compF, e1, e2, eqD_bit]
    · rw [boolsOf_map]
      simp [List.all_map, Function.comp_def]
  · simp [frozenN, frozenI, Function.comp_def]
theorem frozen_throw {c : Str} (h : f_require_state [d, w] = throwX c) : f_frozen [d, w] = throwX c := by
  unfold f_frozen
  rw [run_eq rfl]
  simp [b_frozen, h]
/-! classes -/
abbrev rowsD (l : List (List Bool)) : D := .list (l.map rowD)
def classStep (p : List Lock) (found : List (List (List Bool))) (s : List Bool) : List (List (List Bool)) := if (found.any fun row => decide (s ∈ row)) = true then found else found ++ [reachOf p s]
def classesOf (p : List Lock) : List (List (List Bool)) := (statesOf p).foldl (classStep p) []
theorem class_len (p : List Lock) : ∀ (l : List (List Bool)) (found : List (List (List Bool))), (l.foldl (classStep p) found).length ≤ found.length + l.length
  | [], found => by simp
  | s :: l, found => by
    have := class_len p l (classStep p found s)
    have h2 : (classStep p found s).length ≤ found.length + 1 := by unfold classStep; split <;> simp
    rw [List.foldl_cons, List.length_cons]; omega
theorem states_len (hp : Sized p) : (statesOf p).length ≤ 256 := rows_len p hp.len
theorem classes_eq (hp : OkP p) : f_classes [plantD p] = pure (.list ((classesOf p).map rowsD)) := by
  have hsl := states_len hp.sized
  unfold f_classes
  rw [run_eq rfl]
  refine Pu.eq ?_
  conv => arg 1; simp [b_classes, require_plant_ok hp, find_states_eq hp.sized, limv]
  refine Pu.forB (statesOf p) (fun done env => ∃ s2, env = [.val (plantD p), .own (.list ((done.foldl (classStep p) []).map rowsD)), s2, .no]) ⟨_, rfl⟩ ?_ ?_
  · rintro done s rest hsp env ⟨s2, rfl⟩
    refine ⟨_, rfl, ?_⟩
    have hs : IsS p s := mem_states.mp (by rw [hsp]; simp)
    have hdl : done.length ≤ 256 := by
      have := congrArg List.length hsp
      simp at this; omega
    have hcl := class_len p done []
    rw [List.foldl_append]
    generalize done.foldl (classStep p) [] = found at hcl
    conv => arg 1; simp
    refine Pu.compMB (fun row : List (List Bool) => .bool (decide (s ∈ row))) (fun row hrow => ?_) ?_
    · simp [compF, in_rows]
    have ea : (boolsOf (found.map fun row => PyData.bool (decide (s ∈ row)))).map (fun bs => PyData.bool (bs.any id)) = some (.bool (found.any fun row => decide (s ∈ row))) := by
      rw [boolsOf_map]
      simp [List.any_map, Function.comp_def]
    cases hb : found.any fun row => decide (s ∈ row)
    · rw [hb] at ea
      conv => arg 1; simp only [ea, liftO_some, pure_bind']; simp [ea, find_reachable_eq hp hs.len, limv]
      rw [if_pos (by simp at hcl; omega)]
      exact .pure ⟨rfl, _, by simp [classStep, hb]; rfl⟩
    · rw [hb] at ea
      conv => arg 1; simp only [ea, liftO_some, pure_bind']; simp [ea, limv]
      exact .pure ⟨rfl, _, by simp [classStep, hb]; rfl⟩
  · rintro env ⟨s2, rfl⟩
    conv => arg 1; simp
    exact .pure rfl
theorem classes_no (h : nice n d = true) (hp : isPlant d = false) : f_classes [d] = throwX "InvalidPlant" := by
  unfold f_classes
  rw [run_eq rfl]
  simp [b_classes, require_plant_no h hp]
/-! waits -/
abbrev Pair := Str × Str
def pairD (x : Pair) : D := .tuple [.str x.1, .str x.2]
instance : Enc pairD 1 := ⟨fun a b => by
  obtain ⟨a1, a2⟩ := a
  obtain ⟨b1, b2⟩ := b
  unfold pairD
  rw [PyData.eqv]
  simp only [PyData.eqvAll]
  rw [Enc.eq (f := PyData.str), Enc.eq (f := PyData.str)]
  simp [Prod.ext_iff], fun a => rfl⟩
instance : Srt pairD := ⟨fun a b => by simp [pairD, PySem.W.alike, PySem.W.alikeAll]⟩
def nmPair (p : List Lock) (i j : Nat) : Pair := ((lk p i).1, (lk p j).1)
def waitRow (p : List Lock) (r g : List Bool) (i : Nat) : List Pair := (waitsFor p r g i).map (nmPair p i)
def waitsL (p : List Lock) (r g : List Bool) (is : List Nat) : List Pair := is.flatMap (waitRow p r g)
def waitsOf (p : List Lock) (r g : List Bool) : List Pair := sortE pairD (waitsL p r g (diffL r g))
theorem waitsFor_len (p : List Lock) (r g : List Bool) (i : Nat) : (waitsFor p r g i).length ≤ (diffL r g).length := by
  unfold waitsFor
  exact Nat.le_trans (List.length_filter_le _ _) (List.length_filter_le _ _)
theorem waitsL_len (p : List Lock) (r g : List Bool) : ∀ is : List Nat, (waitsL p r g is).length ≤ is.length * (diffL r g).length
  | [] => by simp [waitsL]
  | i :: is => by
    have h1 := waitsL_len p r g is
    have h2 := waitsFor_len p r g i
    have : waitsL p r g (i :: is) = waitRow p r g i ++ waitsL p r g is := rfl
    rw [this, List.length_append, List.length_cons, Nat.succ_mul]
    simp [waitRow]; omega
theorem waits_eq (hp : OkP p) (hr : isSt p (rowD r) = true) (hg : isSt p (rowD g) = true) : f_waits [plantD p, rowD r, rowD g] = pure (.list ((waitsOf p r g).map pairD)) := by
  have h8 := (okP_iff.mp hp).1.2
  have hl := st_len hr
  have hdl := diff_len r g
  have hnd : ((needsOf p r g (diffL r g)).map (·.1)).Nodup := by rw [needs_keys]; exact diff_nodup r g
  unfold f_waits
  rw [run_eq rfl]
  refine Pu.eq ?_
  conv => arg 1; simp [b_waits, require_goal_ok hp hr hg, waits_of_eq hl (st_len hg) h8, keys_needs, limv]
  have e0 : ((needsOf p r g (diffL r g)).map fun x => natD x.1) = (diffL r g).map natD := by
    rw [← needs_keys p r g, List.map_map]; simp [needs_keys, Function.comp_def]
  rw [e0]
  refine Pu.forB (diffL r g) (fun done env => ∃ s3, env = [.val (plantD p), .val (rowD r), .val (rowD g), s3, .val (needsD (needsOf p r g (diffL r g))), .own (.list ((waitsL p r g done).map pairD)), .no]) ⟨_, rfl⟩ ?_ ?_
  · rintro done i rest hsp env ⟨s3, rfl⟩
    refine ⟨_, rfl, ?_⟩
    have hi : i ∈ diffL r g := by rw [hsp]; simp
    have hi1 := (diff_lt hi).1
    have hdn : done.length ≤ 8 := by
      have := congrArg List.length hsp
      simp at this; omega
    have hwl := waitsL_len p r g done
    have hwf := waitsFor_len p r g i
    have hm : done.length * (diffL r g).length ≤ 8 * 8 := Nat.mul_le_mul hdn (by omega)
    have e1 : app2 .ix (needsD (needsOf p r g (diffL r g))) (natD i) = some (natsD (waitsFor p r g i)) := ix_needs hnd (x := (i, waitsFor p r g i)) (List.mem_map.mpr ⟨i, hi, rfl⟩)
    conv => arg 1; simp [e1, natsD]
    refine Pu.compMB (fun j => pairD (nmPair p i j)) (fun j hj => ?_) ?_
    · have hj := (diff_lt (mem_waits.mp hj).1).1
      have e2 : app2 .ix (plantD p) (natD i) = some (lockD (lk p i)) := ix_plantk (by omega)
      have e3 : app2 .ix (plantD p) (natD j) = some (lockD (lk p j)) := ix_plantk (by omega)
      simp [compF, e2, e3, limv, pairD, nmPair]
    conv => arg 1; simp [limv]
    rw [if_pos (by omega)]
    exact .pure ⟨rfl, _, by simp [waitsL, waitRow, Function.comp_def]; rfl⟩
  · rintro env ⟨s3, rfl⟩
    conv => arg 1; simp [sortD_enc (f := pairD) (by decide) (waitsL p r g (diffL r g)) (.inl fun _ _ => rfl)]
    exact .pure rfl
theorem waits_throw {c : Str} (h : f_require_goal [d, w, e] = throwX c) : f_waits [d, w, e] = throwX c := by
  unfold f_waits
  rw [run_eq rfl]
  simp [b_waits, h]
end
end TK.P

/-! rings, as they are found -/
namespace TK.P
open PySem TK L2
section
variable {α : Type} [DecidableEq α] {f : α → D} {k : Nat}
/-- the least, the first of such -/
def minE (f : α → D) : List α → Option α
  | [] => none
  | x :: xs => some (xs.foldl (fun a y => if PySem.W.dataLt (f y) (f a) = true then y else a) x)
theorem minFold_map (f : α → D) : ∀ (xs : List α) (x : α), (xs.map f).foldl (fun a y => if PySem.W.dataLt y a = true then y else a) (f x) = f (xs.foldl (fun a y => if PySem.W.dataLt (f y) (f a) = true then y else a) x)
  | [], x => rfl
  | y :: xs, x => by
    rw [List.map_cons, List.foldl_cons, List.foldl_cons, ← minFold_map f xs]
    congr 1
    split <;> rfl
theorem min_enc [Enc f k] (hk : k ≤ 30) [Srt f] (hn : ∀ a, notNone (f a) = true) (x : α) (xs : List α) : ∃ m, minE f (x :: xs) = some m ∧ app1 .min (.list ((x :: xs).map f)) = some (f m) := by
  refine ⟨_, rfl, ?_⟩
  have ok : bestOk ((x :: xs).map f) = true := by
    unfold bestOk
    simp only [Bool.and_eq_true, List.all_eq_true, List.mem_map]
    refine ⟨⟨?_, ?_⟩, ?_⟩
    · rintro x ⟨a, _, rfl⟩ y ⟨b, _, rfl⟩
      exact Srt.alk a b
    · rintro x ⟨a, _, rfl⟩
      exact hn a
    · rintro x ⟨a, _, rfl⟩
      exact dep_le hk (Enc.dp a)
  show (if bestOk (f x :: xs.map f) then some (PySem.W.minD (f x) (xs.map f)) else none) = _
  rw [List.map_cons] at ok
  rw [if_pos ok]
  exact congrArg some (minFold_map f xs x)
theorem foldMin_mem (f : α → D) : ∀ (xs : List α) (x : α), xs.foldl (fun a y => if PySem.W.dataLt (f y) (f a) = true then y else a) x ∈ x :: xs
  | [], x => by simp
  | y :: xs, x => by
    rw [List.foldl_cons]
    have := foldMin_mem f xs (if PySem.W.dataLt (f y) (f x) = true then y else x)
    rcases List.mem_cons.mp this with h | h
    · rw [h]; split <;> simp
    · simp [h]
theorem minE_mem {l : List α} {m : α} (h : minE f l = some m) : m ∈ l := by
  cases l with
  | nil => cases h
  | cons x xs => cases h; exact foldMin_mem f xs x
theorem leE_refl (a : α) : leE f a a = true := by
  unfold leE PySem.W.dataLt
  rw [PyProof.Rows.lex_irrefl]; rfl
theorem foldMin_le [Enc f k] [Srt f] : ∀ (xs : List α) (x : α), ∀ y ∈ x :: xs, leE f (xs.foldl (fun a y => if PySem.W.dataLt (f y) (f a) = true then y else a) x) y = true
  | [], x, y, hy => by rw [List.mem_singleton.mp hy]; exact leE_refl _
  | z :: xs, x, y, hy => by
    rw [List.foldl_cons]
    have ih := foldMin_le xs (if PySem.W.dataLt (f z) (f x) = true then z else x)
    have h0 := ih _ List.mem_cons_self
    have hz : leE f (if PySem.W.dataLt (f z) (f x) = true then z else x) x = true ∧ leE f (if PySem.W.dataLt (f z) (f x) = true then z else x) z = true := by
      split
      · next h =>
        refine ⟨?_, leE_refl _⟩
        rcases Bool.or_eq_true _ _ ▸ leE_total (f := f) z x with h1 | h1
        · exact h1
        · unfold leE at h1; rw [h] at h1; cases h1
      · next h => exact ⟨leE_refl _, by unfold leE; simpa using h⟩
    rcases List.mem_cons.mp hy with rfl | hy
    · exact leE_trans _ _ _ h0 hz.1
    · rcases List.mem_cons.mp hy with rfl | hy
      · exact leE_trans _ _ _ h0 hz.2
      · exact ih y (List.mem_cons_of_mem _ hy)
theorem minE_le [Enc f k] [Srt f] {l : List α} {m : α} (h : minE f l = some m) : ∀ y ∈ l, leE f m y = true := by
  cases l with
  | nil => cases h
  | cons x xs => cases h; exact foldMin_le xs x
end
section
variable {n : Nat} {p : List Lock} {d e : D} {r g : List Bool} {w : Nat → List Nat} {Ds : List Nat} {w' : D}
instance : Enc natsD 1 := ⟨fun a b => by unfold natsD; rw [PyData.eqv, eqvAll_map], fun a => dep_map a⟩
theorem alike_all {α : Type} {f : α → D} (hf : ∀ a b, PySem.W.alike (f a) (f b) = true) : ∀ (l m : List α), PySem.W.alikeAll (l.map f) (m.map f) = true
  | [], m => by simp [PySem.W.alikeAll]
  | a :: l, [] => by simp [PySem.W.alikeAll]
  | a :: l, b :: m => by
    rw [List.map_cons, List.map_cons, PySem.W.alikeAll, hf a b, alike_all hf l m]; rfl
instance {α : Type} {f : α → D} [Srt f] : Srt (fun l : List α => PyData.list (l.map f)) := ⟨fun a b => by rw [PySem.W.alike]; exact alike_all Srt.alk a b⟩
instance {α : Type} {f : α → D} [Srt f] : Srt (fun l : List α => PyData.tuple (l.map f)) := ⟨fun a b => by rw [PySem.W.alike]; exact alike_all Srt.alk a b⟩
instance : Srt natD := ⟨fun a b => rfl⟩
instance : Srt natsD := ⟨fun a b => by unfold natsD; rw [PySem.W.alike]; exact alike_all Srt.alk a b⟩
instance : Srt bD := ⟨fun a b => rfl⟩
instance : Srt rowD := ⟨fun a b => by unfold rowD; rw [PySem.W.alike]; exact alike_all Srt.alk a b⟩
instance : Srt PyData.str := ⟨fun a b => rfl⟩
def ffac : Nat → Nat
  | 0 => 8
  | m + 1 => ffac m * (7 - m)
theorem ffac_le (m : Nat) : ffac m ≤ 40320 := by
  have h8 : ∀ m, ffac (m + 8) = 0 := fun m => by
    induction m with
    | zero => rfl
    | succ m ih =>
      show ffac (m + 8) * _ = 0
      rw [ih, Nat.zero_mul]
  by_cases h : m < 8
  · have : ∀ m : Fin 8, ffac m.val ≤ 40320 := by decide
    exact this ⟨m, h⟩
  · have := h8 (m - 8)
    rw [show m - 8 + 8 = m by omega] at this
    omega
theorem flatMap_le {α β : Type} {f : α → List β} {c : Nat} : ∀ {l : List α}, (∀ a ∈ l, (f a).length ≤ c) → (l.flatMap f).length ≤ l.length * c
  | [], _ => by simp
  | a :: l, h => by
    have h1 := h a List.mem_cons_self
    have h2 := flatMap_le (l := l) fun x hx => h x (List.mem_cons_of_mem _ hx)
    rw [List.flatMap_cons, List.length_append, List.length_cons, Nat.succ_mul]; omega
theorem rextend_len (hw : ∀ i ∈ Ds, ∀ j ∈ w i, j ∈ Ds) (hwn : ∀ i, (w i).Nodup) {row : List Nat} (h : RPath w Ds row) : (rextend w row).length ≤ Ds.length - row.length := by
  unfold rextend
  rw [List.length_map]
  have hlast : lastN row ∈ Ds := by rw [getLast_at h.ne]; exact h.sub _ (getD_mem (by have := List.length_pos_iff.mpr h.ne; omega))
  have h1 : (row ++ (w (lastN row)).filter fun o => !decide (o ∈ row) && decide (headN row < o)).Nodup := by
    rw [List.nodup_append]
    refine ⟨h.nodup, (hwn _).filter _, fun a ha b hb e => ?_⟩
    subst e
    have := (List.mem_filter.mp hb).2
    simp [ha] at this
  have := nodup_sub_len (m := Ds) h1 fun x hx => by
    rcases List.mem_append.mp hx with hx | hx
    · exact h.sub x hx
    · exact hw _ hlast x (List.mem_filter.mp hx).1
  rw [List.length_append] at this
  omega
theorem rowsN_len (hw : ∀ i ∈ Ds, ∀ j ∈ w i, j ∈ Ds) (hwn : ∀ i, (w i).Nodup) (hD : Ds.length ≤ 8) : ∀ m, (rowsN w Ds m).length ≤ ffac m
  | 0 => by simp [rowsN, ffac]; exact hD
  | m + 1 => by
    have ih := rowsN_len hw hwn hD m
    have := flatMap_le (f := rextend w) (c := 7 - m) (l := rowsN w Ds m) fun row hrow => by
      obtain ⟨h1, h2⟩ := (mem_rowsN hw m row).mp hrow
      have := rextend_len hw hwn h1
      omega
    exact Nat.le_trans this (Nat.mul_le_mul_right _ ih)
theorem rowsN_lt (hw : ∀ i ∈ Ds, ∀ j ∈ w i, j ∈ Ds) (m : Nat) (h : rowsN w Ds m ≠ []) : m < Ds.length := by
  obtain ⟨l, hl⟩ := List.exists_mem_of_ne_nil _ h
  obtain ⟨h1, h2⟩ := (mem_rowsN hw m l).mp hl
  have := h1.len
  omega
theorem atI_neg1 {α : Type} (l : List α) (x : α) : atI (l ++ [x]) (-1) = some x := by
  have h : ixN (l ++ [x]).length (-1) = some l.length := by
    unfold ixN
    rw [if_neg (by omega), if_pos (by simp; omega)]
    simp only [List.length_append, List.length_singleton]
    congr 1; omega
  unfold atI
  rw [h]; simp
theorem ix_last {row : List Nat} (h : row ≠ []) : app2 .ix (natsD row) (.int (-1)) = some (natD (lastN row)) := by
  rcases List.eq_nil_or_concat row with rfl | ⟨l, x, rfl⟩
  · exact absurd rfl h
  · show atI ((l.concat x).map natD) (-1) = _
    rw [List.concat_eq_append, List.map_append]
    show atI (l.map natD ++ [natD x]) (-1) = _
    rw [atI_neg1]; simp [lastN]
theorem ix_head {row : List Nat} (h : row ≠ []) : app2 .ix (natsD row) (.int 0) = some (natD (headN row)) := by
  cases row with
  | nil => exact absurd rfl h
  | cons x l =>
    show atI ((x :: l).map natD) 0 = _
    rw [atI_nat _ (by omega) (by simp only [List.map_cons, List.length_cons]; omega)]; rfl
theorem in_nats (a : Nat) (l : List Nat) : app2 .isin (natD a) (natsD l) = some (.bool (decide (a ∈ l))) := in_encL natD (by decide) a l
theorem notin_nats (a : Nat) (l : List Nat) : app2 .notin (natD a) (natsD l) = some (.bool (!decide (a ∈ l))) := notin_encL natD (by decide) a l
theorem gt_nat (a b : Nat) : app2 .gt (natD a) (natD b) = some (.bool (decide (b < a))) := by
  show some (PyData.bool (decide ((b : Int) < (a : Int)))) = _
  congr 2; simp
theorem add_nats {l : List Nat} (x : Nat) (h : l.length ≤ 1000) : app2 .add (natsD l) (.list [natD x]) = some (natsD (l ++ [x])) := by
  show (if (l.map natD).length + 1 ≤ lim then some (PyData.list (l.map natD ++ [natD x])) else none) = _
  rw [if_pos (by rw [limv]; simp; omega)]
  simp [natsD]
def ringG (w : Nat → List Nat) (Ds : List Nat) : Option (List Nat) := minE natsD (ringCl w (Ds.length + 1) (rowsN w Ds 0))
theorem find_ring_eq (hD : Ds.Nodup) (h8 : Ds.length ≤ 8) (hw : ∀ i ∈ Ds, ∀ j ∈ w i, j ∈ Ds) (hwn : ∀ i, (w i).Nodup) : f_find_ring [needsD (Ds.map fun i => (i, w i))] = pure (optNats (ringG w Ds)) := by
  have hkeys : ((Ds.map fun i => (i, w i)).map (·.1)) = Ds := by rw [List.map_map]; simp [Function.comp_def]
  have hnd : ((Ds.map fun i => (i, w i)).map (·.1)).Nodup := by rw [hkeys]; exact hD
  have hix : ∀ i ∈ Ds, app2 .ix (needsD (Ds.map fun i => (i, w i))) (natD i) = some (natsD (w i)) := fun i hi => ix_needs hnd (x := (i, w i)) (List.mem_map.mpr ⟨i, hi, rfl⟩)
  unfold f_find_ring
  rw [run_eq rfl]
  refine Pu.eq ?_
  conv => arg 1; simp [b_find_ring, keys_needs, limv]
  refine Pu.compMB (fun i => natsD [i]) (fun i hi => ?_) ?_
  · simp [compF, limv, natsD]
  have e0 : (Ds.map fun i => natsD [i]) = (rowsN w Ds 0).map natsD := by simp [rowsN, Function.comp_def]
  rw [e0]
  conv => arg 1; simp
  refine Pu.bindB (P := fun q => (∃ v e, q = (.rt v, e) ∧ v = optNats (ringG w Ds)) ∨ ∃ s1 s2 s3 s4, q = (.nx, [.val (needsD (Ds.map fun i => (i, w i))), s1, s2, s3, s4, .no, .no]) ∧ ringG w Ds = none) ?_ fun q hq => ?_
  · refine Pu.whL (fun n env => ∃ m s2 s3 s4, env = [.val (needsD (Ds.map fun i => (i, w i))), .val (.list ((rowsN w Ds m).map natsD)), s2, s3, s4, .no, .no] ∧ m + n = Ds.length + 1 ∧ minE natsD (ringCl w n (rowsN w Ds m)) = ringG w Ds) ?_ fuel (Ds.length + 1) _ (by unfold fuel; omega) ⟨0, _, _, _, rfl, by omega, rfl⟩
    rintro n env ⟨m, s2, s3, s4, rfl, hmn, hR⟩
    refine ⟨!(rowsN w Ds m).isEmpty, by simp, fun ht => ?_, fun ht => ?_⟩
    · have ht : rowsN w Ds m = [] := by simpa using ht
      refine .inr ⟨_, _, _, _, rfl, ?_⟩
      rw [← hR, ht]
      cases n <;> simp [ringCl, minE]
    · have ht : rowsN w Ds m ≠ [] := by simpa using ht
      have hm := rowsN_lt hw m ht
      obtain ⟨n, rfl⟩ : ∃ n', n = n' + 1 := ⟨n - 1, by omega⟩
      have hP : ∀ row ∈ rowsN w Ds m, RPath w Ds row ∧ row.length = m + 1 := fun row hr => (mem_rowsN hw m row).mp hr
      have hlast : ∀ row ∈ rowsN w Ds m, lastN row ∈ Ds := fun row hr => by
        have h := (hP row hr).1
        rw [getLast_at h.ne]; exact h.sub _ (getD_mem (by have := (hP row hr).2; omega))
      conv => arg 1; simp
      refine Pu.compFB (closedR w) natsD (fun row hrow => ?_) ?_
      · have h := (hP row hrow).1
        simp [compF, ix_head h.ne, ix_last h.ne, hix _ (hlast row hrow), in_nats, closedR]
      cases hc : (rowsN w Ds m).filter (closedR w) with
      | cons c cs =>
        obtain ⟨b, hb1, hb2⟩ := min_enc (f := natsD) (by decide) (fun _ => rfl) c cs
        have hb2' : app1 .min (.list (natsD c :: cs.map natsD)) = some (natsD b) := hb2
        conv => arg 1; simp [hb2']
        refine .pure (.inr ⟨_, rfl, .inl ⟨_, _, rfl, ?_⟩⟩)
        rw [← hR]
        unfold ringCl
        rw [if_neg ht, hc, if_neg (by simp), hb1]; rfl
      | nil =>
        conv => arg 1; simp
        refine Pu.forB (rowsN w Ds m) (fun done env => ∃ s4, env = [.val (needsD (Ds.map fun i => (i, w i))), .val (.list ((rowsN w Ds m).map natsD)), .val (.list []), .own (.list ((done.flatMap (rextend w)).map natsD)), s4, .no, .no]) ⟨_, rfl⟩ ?_ ?_
        · rintro done row rest hsp env ⟨s4, rfl⟩
          refine ⟨_, rfl, ?_⟩
          have hrow : row ∈ rowsN w Ds m := by rw [hsp]; simp
          have h := (hP row hrow).1
          have hrl := (hP row hrow).2
          conv => arg 1; simp [ix_last h.ne, hix _ (hlast row hrow)]
          have hdl : done.length ≤ 40320 := by
            have h1 := congrArg List.length hsp
            have h2 := rowsN_len hw hwn h8 m
            have h3 := ffac_le m
            simp at h1; omega
          have hfl := flatMap_le (f := rextend w) (c := 8) (l := done) fun x hx => by
            have := rextend_len hw hwn (hP x (by rw [hsp]; simp [hx])).1
            omega
          have hrx := rextend_len hw hwn h
          refine Pu.compFB (fun o => !decide (o ∈ row) && decide (headN row < o)) (fun o => natsD (row ++ [o])) (fun o ho => ?_) ?_
          · by_cases hor : o ∈ row <;> simp [compF, limv, notin_nats, ix_head h.ne, gt_nat, add_nats o (by omega : row.length ≤ 1000), hor]
          have e5 : (((w (lastN row)).filter fun o => !decide (o ∈ row) && decide (headN row < o)).map fun o => natsD (row ++ [o])) = (rextend w row).map natsD := by simp [rextend, Function.comp_def]
          rw [e5]
          conv => arg 1; simp [limv]
          rw [List.length_flatMap] at hfl
          rw [if_pos (by omega)]
          exact .pure ⟨rfl, _, by simp; rfl⟩
        · rintro env ⟨s4, rfl⟩
          conv => arg 1; simp
          refine .pure (.inl ⟨rfl, n, by omega, m + 1, _, _, _, rfl, by omega, ?_⟩)
          rw [← hR]
          conv => rhs; unfold ringCl
          rw [if_neg ht, hc, if_pos rfl]; rfl
  · rcases hq with ⟨v, e, rfl, rfl⟩ | ⟨s1, s2, s3, s4, rfl, hf⟩
    · conv => arg 1; simp
      exact .pure rfl
    · conv => arg 1; simp
      exact .pure (by rw [hf]; rfl)
def ringOf (p : List Lock) (r g : List Bool) : Option (List Nat) := ringG (waitsFor p r g) (diffL r g)
theorem waits_nodup (p : List Lock) (r g : List Bool) (i : Nat) : (waitsFor p r g i).Nodup := ((diff_nodup r g).filter _).filter _
theorem ring_ring (hw : ∀ i ∈ Ds, ∀ j ∈ w i, j ∈ Ds) {c : List Nat} (h : ringG w Ds = some c) : Ring w Ds c := by
  have hm := minE_mem h
  rcases ringCl_spec (w := w) (Ds := Ds) (Ds.length + 1) 0 (by omega) (by omega) (rowsN_lt hw) with h1 | ⟨k, h1, h2, _⟩
  · rw [h1.1] at hm; simp at hm
  · rw [h2] at hm
    exact ((mem_closed hw).mp hm).1
theorem ring_none (hw : ∀ i ∈ Ds, ∀ j ∈ w i, j ∈ Ds) (h : ringG w Ds = none) : ¬∃ c, Ring w Ds c := by
  rintro ⟨c, hc⟩
  have he : ringCl w (Ds.length + 1) (rowsN w Ds 0) = [] := by
    unfold ringG at h
    cases hh : ringCl w (Ds.length + 1) (rowsN w Ds 0) with
    | nil => rfl
    | cons a l => rw [hh] at h; cases h
  rcases ringCl_spec (w := w) (Ds := Ds) (Ds.length + 1) 0 (by omega) (by omega) (rowsN_lt hw) with h1 | ⟨k, h1, _⟩
  · have hl : 0 < c.length := List.length_pos_iff.mpr hc.ne
    have : c ∈ (rowsN w Ds (c.length - 1)).filter (closedR w) := (mem_closed hw).mpr ⟨hc, by omega⟩
    rw [h1.2] at this; simp at this
  · exact h1 he
theorem waits_in (p : List Lock) (r g : List Bool) : ∀ i ∈ diffL r g, ∀ j ∈ waitsFor p r g i, j ∈ diffL r g := fun i _ j hj => (mem_waits.mp hj).1
theorem ring_iff (p : List Lock) (r g : List Bool) : (ringOf p r g).isNone = (wayOf p r g).isSome := by
  cases hr : ringOf p r g with
  | none =>
    cases hw : wayOf p r g with
    | some _ => rfl
    | none =>
      obtain ⟨S, h1, h2⟩ := wayOf_none hw
      exact absurd (stuck_ring h1 h2) (ring_none (waits_in p r g) hr)
  | some c =>
    have h := ring_ring (waits_in p r g) hr
    rw [stuck_none (ring_stuck h) h.sub]; rfl
theorem ring_eq (hp : OkP p) (hr : isSt p (rowD r) = true) (hg : isSt p (rowD g) = true) : f_ring [plantD p, rowD r, rowD g] = pure (optNames p (ringOf p r g)) := by
  have h8 := (okP_iff.mp hp).1.2
  have hl := st_len hr
  have hdl := diff_len r g
  unfold f_ring
  rw [run_eq rfl]
  have e1 : f_find_ring [needsD (needsOf p r g (diffL r g))] = pure (optNats (ringOf p r g)) := find_ring_eq (diff_nodup r g) (by omega) (waits_in p r g) (waits_nodup p r g)
  simp [b_ring, require_goal_ok hp hr hg, waits_of_eq hl (st_len hg) h8, e1]
  cases hw : ringOf p r g with
  | none => simp [optNats, optNames, notNone]
  | some c =>
    have hlt := (ring_ring (waits_in p r g) hw).sub
    simp [optNats, optNames, notNone, natsD]
    refine comp_mapB (fun i : Nat => PyData.str (lk p i).1) (fun i hi => ?_) ?_
    · have e2 : app2 .ix (plantD p) (natD i) = some (lockD (lk p i)) := ix_plantk (by have := (diff_lt (hlt i hi)).1; omega)
      simp [compF, e2]
    · simp [Function.comp_def]
theorem ring_throw {c : Str} (h : f_require_goal [d, w', e] = throwX c) : f_ring [d, w', e] = throwX c := by
  unfold f_ring
  rw [run_eq rfl]
  simp [b_ring, h]
end
end TK.P

/-! drawn plants with few keys -/
namespace TK.P
open PySem TK L2
section
variable {ns : List Int} {p : List Lock}
def tightKeys : List Str := ["k", "l", "m", "n", "o"]
theorem tight_words : ∀ s ∈ tightKeys, isWordS s = true := List.all_eq_true.mp (by decide +kernel)
def tKey (i : Nat) : Str := tightKeys.getD (i % 5) "k"
theorem tKey_word (i : Nat) : isWordS (tKey i) = true := by
  apply tight_words
  unfold tKey
  have : i % 5 < tightKeys.length := Nat.mod_lt _ (by decide)
  simp [List.getD, this]
def tightLk (p : List Lock) (v i : Nat) : Lock := ((lk p i).1, [tKey i], [tKey (i + v)])
def tightP (p : List Lock) (v : Nat) : List Lock := (List.range p.length).map (tightLk p v)
theorem okKeys_one {k : Str} (h : isWordS k = true) : okKeys [k] = true := by
  rw [okKeys_iff]
  exact ⟨by simp, by simpa using h, rfl⟩
theorem names_range (p : List Lock) : ((List.range p.length).map fun i => (lk p i).1) = namesOf p := by
  apply List.ext_getElem
  · simp [namesOf]
  · intro i h1 h2
    have : i < p.length := by simpa using h1
    simp [namesOf, lk_lt this]
theorem tight_ok (hp : OkP p) (v : Nat) : OkP (tightP p v) := by
  obtain ⟨h1, h2, h3⟩ := okP_iff.mp hp
  refine okP_iff.mpr ⟨by simpa [tightP] using h1, fun l hl => ?_, ?_⟩
  · obtain ⟨i, hi, rfl⟩ := List.mem_map.mp hl
    have hi := List.mem_range.mp hi
    exact ⟨by show isWordS (lk p i).1 = true; rw [lk_lt hi]; exact (h2 _ (List.getElem_mem hi)).1, okKeys_one (tKey_word _), okKeys_one (tKey_word _)⟩
  · have : (tightP p v).map (·.1) = namesOf p := by
      rw [← names_range p, tightP, List.map_map]; rfl
    rw [this]; exact h3
theorem ix_tight {i : Nat} : app2 .ix (.list [.str "k", .str "l", .str "m", .str "n", .str "o"]) (.int ((i : Int) % 5)) = some (.str (tKey i)) := by
  have e : ((i : Int) % 5) = ((i % 5 : Nat) : Int) := by omega
  rw [e]
  have h : i % 5 < tightKeys.length := Nat.mod_lt _ (by decide)
  show atI (tightKeys.map PyData.str) _ = _
  rw [atI_getD PyData.str h]
  simp [tKey, List.getD, h]
theorem tight_wp (hns : ns.length ≤ 63) {m : Nat} (hm : 1 ≤ m) (hm8 : m ≤ 8) : Wp (f__law_tight [scr ns, tok, .int m]) 402 (fun d => ∃ p, d = plantD p ∧ OkP p ∧ p.length ≤ m) := by
  unfold f__law_tight
  rw [run_eq rfl]
  (conv => arg 1; simp -dsimp -implicitDefEqProofs [limv, -List.getD_eq_getElem?_getD, List.getD_cons_zero, List.getD_cons_succ, -bind_assoc', -ex_asg, -ex_ite, -ex_unp, -ex_par, -ex_for, nxM_cons, ex_asgK, asgK_def, ex_iteK, iteK_t, iteK_f, ex_unpK, unpK_def, ex_parK, parK_cons, ex_forK, forK_def, forJ_def, b__law_tight]; try simp only [bind_assoc'])
  refine Wp.bindB (plant_wp hns hm) (by decide) fun d hd => ?_
  obtain ⟨p, rfl, hp⟩ := hd
  have ok := hp.ok hm8
  have h8 := hp.len
  (conv => arg 1; simp -dsimp -implicitDefEqProofs [limv, -List.getD_eq_getElem?_getD, List.getD_cons_zero, List.getD_cons_succ, -bind_assoc', -ex_asg, -ex_ite, -ex_unp, -ex_par, -ex_for, nxM_cons, ex_asgK, asgK_def, ex_iteK, iteK_t, iteK_f, ex_unpK, unpK_def, ex_parK, parK_cons, ex_forK, forK_def, forJ_def]; try simp only [bind_assoc'])
  refine Wp.bindB (draw_wp hns (by decide)) (by decide) fun d hd => ?_
  obtain ⟨v, rfl, v0, v1⟩ := hd
  obtain ⟨v, rfl⟩ : ∃ i : Nat, v = (i : Int) := ⟨v.toNat, by omega⟩
  (conv => arg 1; simp -dsimp -implicitDefEqProofs [limv, -List.getD_eq_getElem?_getD, List.getD_cons_zero, List.getD_cons_succ, -bind_assoc', -ex_asg, -ex_ite, -ex_unp, -ex_par, -ex_for, nxM_cons, ex_asgK, asgK_def, ex_iteK, iteK_t, iteK_f, ex_unpK, unpK_def, ex_parK, parK_cons, ex_forK, forK_def, forJ_def, rangeL, show p.length ≤ 16777216 by omega]; try simp only [bind_assoc'])
  refine Wp.forB (List.range p.length) (fun done env => (fun (env : Env) => ∃ slot4, env = [.val (scr ns), .val tok, .val (.int m), .val (plantD p), slot4, .own (.list ((done.map (tightLk p (1 + v))).map lockD)), .val (.list [.str "k", .str "l", .str "m", .str "n", .str "o"]), .val (.int (1 + v))]) env) 0 (by ((repeat apply Exists.intro); rfl)) (by simp) ?_ ?_
  · intro done i rest hsp env hI
    (repeat obtain ⟨_, hI⟩ := hI)
    have hi : i < p.length := List.mem_range.mp (by rw [hsp]; simp)
    have hdl : done.length ≤ 8 := by
      have := congrArg List.length hsp
      simp at this; omega
    refine ⟨_, rfl, ?_⟩
    have e1 : app2 .ix (plantD p) (.int (i : Int)) = some (lockD (lk p i)) := ix_plantk hi
    have e2 := ix_tight (i := i)
    have e3 := ix_tight (i := i + (1 + v))
    have e4 : ((i : Int) + (1 + (v : Int))) % 5 = ((i + (1 + v) : Nat) : Int) % 5 := by omega
    (conv => arg 1; simp -dsimp -implicitDefEqProofs [limv, -List.getD_eq_getElem?_getD, List.getD_cons_zero, List.getD_cons_succ, -bind_assoc', -ex_asg, -ex_ite, -ex_unp, -ex_par, -ex_for, nxM_cons, ex_asgK, asgK_def, ex_iteK, iteK_t, iteK_f, ex_unpK, unpK_def, ex_parK, parK_cons, ex_forK, forK_def, forJ_def, e1, e2, e3, e4]; try simp only [bind_assoc'])
    rw [if_pos (by omega)]
    exact .pure ⟨rfl, by simp [tightLk, lockD]⟩
  · intro env hI
    (repeat obtain ⟨_, hI⟩ := hI)
    (conv => arg 1; simp -dsimp -implicitDefEqProofs [limv, -List.getD_eq_getElem?_getD, List.getD_cons_zero, List.getD_cons_succ, -bind_assoc', -ex_asg, -ex_ite, -ex_unp, -ex_par, -ex_for, nxM_cons, ex_asgK, asgK_def, ex_iteK, iteK_t, iteK_f, ex_unpK, unpK_def, ex_parK, parK_cons, ex_forK, forK_def, forJ_def]; try simp only [bind_assoc'])
    exact .pure ⟨tightP p (1 + v), by simp [plantD, tightP], tight_ok ok _, by simp [tightP]; omega⟩
theorem any_wp (hns : ns.length ≤ 63) {m : Nat} (hm : 1 ≤ m) (hm8 : m ≤ 8) : Wp (f__law_any [scr ns, tok, .int m]) 9406 (fun d => ∃ p r, d = someD p r ∧ OkP p ∧ p.length ≤ m ∧ r ∈ statesOf p) := by
  have hsome : Wp (f__law_some [scr ns, tok, .int m]) 9000 (fun d => ∃ p r, d = someD p r ∧ OkP p ∧ p.length ≤ m ∧ r ∈ statesOf p) := Wp.mono (some_wp hns hm hm8) (Nat.le_refl _) fun d hd => by
    obtain ⟨p, r, h1, h2, h3⟩ := hd
    exact ⟨p, r, h1, h2.ok hm8, h2.len, h3⟩
  unfold f__law_any
  rw [run_eq rfl]
  (conv => arg 1; simp -dsimp -implicitDefEqProofs [limv, -List.getD_eq_getElem?_getD, List.getD_cons_zero, List.getD_cons_succ, -bind_assoc', -ex_asg, -ex_ite, -ex_unp, -ex_par, -ex_for, nxM_cons, ex_asgK, asgK_def, ex_iteK, iteK_t, iteK_f, ex_unpK, unpK_def, ex_parK, parK_cons, ex_forK, forK_def, forJ_def, b__law_any]; try simp only [bind_assoc'])
  refine Wp.bindB (draw_wp hns (by decide)) (by decide) fun d hd => ?_
  obtain ⟨v, rfl, v0, v1⟩ := hd
  have hv : v = 0 ∨ v = 1 := by omega
  rcases hv with rfl | rfl
  · (conv => arg 1; simp -dsimp -implicitDefEqProofs [limv, -List.getD_eq_getElem?_getD, List.getD_cons_zero, List.getD_cons_succ, -bind_assoc', -ex_asg, -ex_ite, -ex_unp, -ex_par, -ex_for, nxM_cons, ex_asgK, asgK_def, ex_iteK, iteK_t, iteK_f, ex_unpK, unpK_def, ex_parK, parK_cons, ex_forK, forK_def, forJ_def]; try simp only [bind_assoc'])
    refine Wp.bindB hsome (by decide) fun d hd => ?_
    (conv => arg 1; simp -dsimp -implicitDefEqProofs [limv, -List.getD_eq_getElem?_getD, List.getD_cons_zero, List.getD_cons_succ, -bind_assoc', -ex_asg, -ex_ite, -ex_unp, -ex_par, -ex_for, nxM_cons, ex_asgK, asgK_def, ex_iteK, iteK_t, iteK_f, ex_unpK, unpK_def, ex_parK, parK_cons, ex_forK, forK_def, forJ_def]; try simp only [bind_assoc'])
    exact .pure hd
  · have e1 : app2 .min2 (.int 5) (.int (m : Int)) = some (.int ((min 5 m : Nat) : Int)) := by
      show some (PyData.int (if (m : Int) < 5 then (m : Int) else 5)) = _
      congr 2
      split <;> omega
    (conv => arg 1; simp -dsimp -implicitDefEqProofs [limv, -List.getD_eq_getElem?_getD, List.getD_cons_zero, List.getD_cons_succ, -bind_assoc', -ex_asg, -ex_ite, -ex_unp, -ex_par, -ex_for, nxM_cons, ex_asgK, asgK_def, ex_iteK, iteK_t, iteK_f, ex_unpK, unpK_def, ex_parK, parK_cons, ex_forK, forK_def, forJ_def, e1]; try simp only [bind_assoc'])
    refine Wp.bindB (tight_wp hns (m := min 5 m) (by omega) (by omega)) (by decide) fun d hd => ?_
    obtain ⟨p, rfl, ok, hl⟩ := hd
    by_cases he : statesOf p = []
    · (conv => arg 1; simp -dsimp -implicitDefEqProofs [limv, -List.getD_eq_getElem?_getD, List.getD_cons_zero, List.getD_cons_succ, -bind_assoc', -ex_asg, -ex_ite, -ex_unp, -ex_par, -ex_for, nxM_cons, ex_asgK, asgK_def, ex_iteK, iteK_t, iteK_f, ex_unpK, unpK_def, ex_parK, parK_cons, ex_forK, forK_def, forJ_def, law_states_eq ok.sized, he]; try simp only [bind_assoc'])
      refine Wp.bindB hsome (by decide) fun d hd => ?_
      (conv => arg 1; simp -dsimp -implicitDefEqProofs [limv, -List.getD_eq_getElem?_getD, List.getD_cons_zero, List.getD_cons_succ, -bind_assoc', -ex_asg, -ex_ite, -ex_unp, -ex_par, -ex_for, nxM_cons, ex_asgK, asgK_def, ex_iteK, iteK_t, iteK_f, ex_unpK, unpK_def, ex_parK, parK_cons, ex_forK, forK_def, forJ_def]; try simp only [bind_assoc'])
      exact .pure hd
    · have he' : (statesOf p).isEmpty = false := by simpa using he
      (conv => arg 1; simp -dsimp -implicitDefEqProofs [limv, -List.getD_eq_getElem?_getD, List.getD_cons_zero, List.getD_cons_succ, -bind_assoc', -ex_asg, -ex_ite, -ex_unp, -ex_par, -ex_for, nxM_cons, ex_asgK, asgK_def, ex_iteK, iteK_t, iteK_f, ex_unpK, unpK_def, ex_parK, parK_cons, ex_forK, forK_def, forJ_def, law_states_eq ok.sized, he']; try simp only [bind_assoc'])
      refine Wp.bindB (pick_wp hns (l := (statesOf p).map rowD) (by simpa using he)) (by decide) fun d hd => ?_
      obtain ⟨r, hr, rfl⟩ := List.mem_map.mp hd
      (conv => arg 1; simp -dsimp -implicitDefEqProofs [limv, -List.getD_eq_getElem?_getD, List.getD_cons_zero, List.getD_cons_succ, -bind_assoc', -ex_asg, -ex_ite, -ex_unp, -ex_par, -ex_for, nxM_cons, ex_asgK, asgK_def, ex_iteK, iteK_t, iteK_f, ex_unpK, unpK_def, ex_parK, parK_cons, ex_forK, forK_def, forJ_def]; try simp only [bind_assoc'])
      exact .pure ⟨p, r, rfl, ok, by omega, hr⟩
end
end TK.P

/-! comprehensions that draw; middle states; more about what is reached -/
namespace TK
open PySem L2
theorem Wp.compDB {α β : Type} {e : Nat} {Q : β → Prop} {F : D → M (Option D)} {h : α → D} {l : List α} {k : List D → M β} (R : α → D → Prop) (c : Nat) (hF : ∀ a ∈ l, Wp (F (h a)) c (fun o => ∃ d, o = some d ∧ R a d)) (hc : l.length * c ≤ e) (hk : ∀ ds : List D, ds.length = l.length → (∀ p ∈ l.zip ds, R p.1 p.2) → Wp (k ds) (e - l.length * c) Q) : Wp (TK.noX (compL F (l.map h)) >>= k) e Q := by
  rw [compL_A]
  refine Wp.bindB (Wp.noX (Wp.compA c hF)) hc fun ds hds => hk ds hds.1 hds.2
namespace P
section
variable {n : Nat} {p : List Lock} {d e w : D} {r g q : List Bool}
theorem walk_zip3_rows (a b c : List Bool) (hb : b.length = a.length) (hc : c.length = a.length) : walkL .zip3 [rowD a, rowD b, rowD c] = some ((List.range a.length).map fun i => .tuple [bD (a.getD i false), bD (b.getD i false), bD (c.getD i false)]) := by
  show some (((a.map bD).zip ((b.map bD).zip (c.map bD))).map fun p => PyData.tuple [p.1, p.2.1, p.2.2]) = _
  congr 1
  apply List.ext_getElem
  · simp [hb, hc]
  · intro i h1 h2
    have : i < a.length ∧ i < b.length ∧ i < c.length := by
      simp at h1; omega
    simp [List.getD, this.1, this.2.1, this.2.2]
theorem len_names {o : List Nat} : app1 .len (optNames p (some o)) = some (.int o.length) := by simp [optNames]
theorem mem_reach (hn : KeysN p) (hr : IsS p r) : g ∈ reachOf p r ↔ Conn p r g := by
  unfold reachOf
  rw [List.mem_filter, mem_states]
  constructor
  · rintro ⟨h1, h2⟩
    exact (conn_iff hn hr.len h1.len hr.fits h1.fits).mpr h2
  · intro h
    have hg := h.isS hr
    exact ⟨hg, (conn_iff hn hr.len hg.len hr.fits hg.fits).mp h⟩
theorem reachB_iff (hn : KeysN p) (hr : IsS p r) (hg : IsS p g) : reachB p r g = true ↔ Conn p r g := (conn_iff hn hr.len hg.len hr.fits hg.fits).symm
theorem way_len (hn : KeysN p) (hr : IsS p r) (h : Conn p r g) : ∃ l, wayOf p r g = some l ∧ l.length = (diffL r g).length := by
  have hg := h.isS hr
  obtain ⟨l, hl⟩ := Option.isSome_iff_exists.mp ((conn_iff hn hr.len hg.len hr.fits hg.fits).mp h)
  exact ⟨l, hl, wayOf_len hl⟩
end
end P
end TK

/-! states in order; classes; frozen locks -/
namespace TK.P
open PySem TK L2
section
variable {n : Nat} {p : List Lock} {d e w : D} {r g q : List Bool} {i : Nat}
def tkB (b : Bool) : List (Int ⊕ List Nat) := [.inl 1, .inl (bit b)]
theorem toks_row : ∀ r : List Bool, PySem.W.keyToksAll (r.map bD) = r.flatMap tkB ++ [.inl 0]
  | [] => by simp [PySem.W.keyToksAll]
  | b :: r => by
    rw [List.map_cons, PySem.W.keyToksAll, toks_row r]
    simp [bD, PySem.W.keyToks, tkB]
theorem toks_rowD (r : List Bool) : PySem.W.keyToks (rowD r) = r.flatMap tkB ++ [.inl 0] := by
  unfold rowD
  rw [PySem.W.keyToks, toks_row]
/-- less, at the first place that differs -/
def RowLt (a b : List Bool) : Prop := ∃ c s t, a = c ++ false :: s ∧ b = c ++ true :: t
theorem rowLt_data {a b : List Bool} (h : RowLt a b) : PySem.W.dataLt (rowD a) (rowD b) = true := by
  obtain ⟨c, s, t, rfl, rfl⟩ := h
  unfold PySem.W.dataLt
  rw [toks_rowD, toks_rowD, List.flatMap_append, List.flatMap_append, List.append_assoc, List.append_assoc, PySem.W.lex_pre, List.flatMap_cons, List.flatMap_cons]
  show PyProof.Rows.lexLt PyProof.Rows.itemOrd (.inl 1 :: .inl 0 :: (s.flatMap tkB ++ [.inl 0])) (.inl 1 :: .inl 1 :: (t.flatMap tkB ++ [.inl 0])) = true
  have := PySem.W.lex_pre [.inl 1] (.inl 0 :: (s.flatMap tkB ++ [.inl 0])) (.inl 1 :: (t.flatMap tkB ++ [.inl 0]))
  rw [List.singleton_append, List.singleton_append] at this
  rw [this, PySem.W.lex_atom (by simp)]
  rfl
theorem data_asym {x y : D} (h : PySem.W.dataLt x y = true) : PySem.W.dataLt y x = false := by
  cases h2 : PySem.W.dataLt y x with
  | false => rfl
  | true =>
    have := PyProof.Rows.lex_trans _ _ _ h h2
    rw [PyProof.Rows.lex_irrefl] at this; cases this
theorem vecs_lt : ∀ n, (vecs n).Pairwise RowLt
  | 0 => by simp [vecs]
  | n + 1 => by
    show ((vecs n).flatMap fun r => [r ++ [false], r ++ [true]]).Pairwise RowLt
    rw [List.pairwise_flatMap]
    refine ⟨fun a _ => ?_, (vecs_lt n).imp fun {a b} h x hx y hy => ?_⟩
    · simp only [List.pairwise_cons, List.mem_singleton, forall_eq, List.not_mem_nil, false_implies, implies_true, List.Pairwise.nil, and_true]
      exact ⟨a, [], [], rfl, rfl⟩
    · obtain ⟨c, s, t, rfl, rfl⟩ := h
      simp only [List.mem_cons, List.not_mem_nil, or_false] at hx hy
      rcases hx with rfl | rfl <;> rcases hy with rfl | rfl <;> exact ⟨c, _, _, by simp; rfl, by simp; rfl⟩
theorem states_lt (p : List Lock) : (statesOf p).Pairwise RowLt := (vecs_lt p.length).filter _
theorem states_sorted (p : List Lock) : sortE rowD (statesOf p) = statesOf p := by
  refine List.mergeSort_of_pairwise ((states_lt p).imp fun {a b} h => ?_)
  unfold leE
  rw [data_asym (rowLt_data h)]; rfl
theorem RowLt.ne {a b : List Bool} (h : RowLt a b) : a ≠ b := by
  obtain ⟨c, s, t, rfl, rfl⟩ := h
  simp
theorem states_nodup (p : List Lock) : (statesOf p).Nodup := (states_lt p).imp fun h => h.ne
theorem sortD_rows (l : List (List Bool)) (h : ∀ r ∈ l, r ≠ []) : sortD (l.map rowD) = some ((sortE rowD l).map rowD) := sortD_enc (by decide) l (.inl fun r hr => by
  cases r with
  | nil => exact absurd rfl (h _ hr)
  | cons a r => rfl)
theorem sorted_states {l : List (List Bool)} (h : l.Perm (statesOf p)) : sortE rowD l = statesOf p := by rw [sortE_perm h, states_sorted]
/-! classes -/
theorem reach_eq (hn : KeysN p) (hr : IsS p r) (h : Conn p r q) : reachOf p q = reachOf p r := by
  unfold reachOf
  refine List.filter_congr fun g hg => ?_
  have hg := mem_states.mp hg
  have hq := h.isS hr
  rw [Bool.eq_iff_iff, reachB_iff hn hq hg, reachB_iff hn hr hg]
  exact ⟨fun h2 => h.trans h2, fun h2 => (h.symm hr).trans h2⟩
theorem reach_nodup (p : List Lock) (r : List Bool) : (reachOf p r).Nodup := (states_nodup p).filter _
structure ClassInv (p : List Lock) (done : List (List Bool)) (found : List (List (List Bool))) : Prop where
  each : ∀ row ∈ found, ∃ s ∈ statesOf p, row = reachOf p s
  cov : ∀ s ∈ done, ∃ row ∈ found, s ∈ row
  nd : found.flatten.Nodup
theorem class_inv (hn : KeysN p) : ∀ (l done : List (List Bool)) (found : List (List (List Bool))), (∀ s ∈ l, s ∈ statesOf p) → ClassInv p done found → ClassInv p (done ++ l) (l.foldl (classStep p) found)
  | [], done, found, _, h => by simpa using h
  | s :: l, done, found, hl, h => by
    have hs := mem_states.mp (hl s List.mem_cons_self)
    have step : ClassInv p (done ++ [s]) (classStep p found s) := by
      unfold classStep
      split
      · next hb =>
        obtain ⟨row, h1, h2⟩ := List.any_eq_true.mp hb
        exact ⟨h.each, fun x hx => by
          rcases List.mem_append.mp hx with hx | hx
          · exact h.cov x hx
          · rw [List.mem_singleton.mp hx]; exact ⟨row, h1, of_decide_eq_true h2⟩, h.nd⟩
      · next hb =>
        have hno : ∀ row ∈ found, s ∉ row := fun row h1 h2 => hb (List.any_eq_true.mpr ⟨row, h1, decide_eq_true h2⟩)
        refine ⟨fun row hrow => ?_, fun x hx => ?_, ?_⟩
        · rcases List.mem_append.mp hrow with hrow | hrow
          · exact h.each row hrow
          · rw [List.mem_singleton.mp hrow]; exact ⟨s, mem_states.mpr hs, rfl⟩
        · rcases List.mem_append.mp hx with hx | hx
          · obtain ⟨row, h1, h2⟩ := h.cov x hx
            exact ⟨row, by simp [h1], h2⟩
          · rw [List.mem_singleton.mp hx]
            exact ⟨reachOf p s, by simp, (mem_reach hn hs).mpr (Conn.refl p s)⟩
        · rw [List.flatten_append, List.flatten_singleton, List.nodup_append]
          refine ⟨h.nd, reach_nodup p s, fun a ha b hb e => ?_⟩
          subst e
          obtain ⟨row, h1, h2⟩ := List.mem_flatten.mp ha
          obtain ⟨s', hs', rfl⟩ := h.each row h1
          have hs' := mem_states.mp hs'
          have c1 := (mem_reach hn hs').mp h2
          have c2 := (mem_reach hn hs).mp hb
          exact hno _ h1 ((mem_reach hn hs').mpr (c1.trans (c2.symm hs)))
    have := class_inv hn l (done ++ [s]) (classStep p found s) (fun x hx => hl x (List.mem_cons_of_mem _ hx)) step
    rw [List.append_assoc] at this
    exact this
theorem classes_inv (hn : KeysN p) : ClassInv p (statesOf p) (classesOf p) := by
  have := class_inv hn (statesOf p) [] [] (fun _ h => h) ⟨by simp, by simp, by simp⟩
  unfold classesOf
  simpa using this
theorem classes_own (hn : KeysN p) (hr : IsS p r) : reachOf p r ∈ classesOf p := by
  have h := classes_inv hn (p := p)
  obtain ⟨row, h1, h2⟩ := h.cov r (mem_states.mpr hr)
  obtain ⟨s, hs, rfl⟩ := h.each row h1
  rw [reach_eq hn (mem_states.mp hs) ((mem_reach hn (mem_states.mp hs)).mp h2)]
  exact h1
theorem classes_flat (hn : KeysN p) : (classesOf p).flatten.Perm (statesOf p) := by
  have h := classes_inv hn (p := p)
  rw [List.perm_ext_iff_of_nodup h.nd (states_nodup p)]
  intro a
  rw [List.mem_flatten]
  constructor
  · rintro ⟨row, h1, h2⟩
    obtain ⟨s, _, rfl⟩ := h.each row h1
    exact (List.mem_filter.mp h2).1
  · intro ha
    obtain ⟨row, h1, h2⟩ := h.cov a ha
    exact ⟨row, h1, h2⟩
theorem flat_eq (hp : OkP p) {parts : List (List (List Bool))} (h : parts.flatten.length ≤ 256) : f__law_flat [.list (parts.map rowsD)] = pure (.list (parts.flatten.map rowD)) := by
  unfold f__law_flat
  rw [run_eq rfl]
  refine Pu.eq ?_
  conv => arg 1; simp [b__law_flat, limv]
  refine Pu.forB parts (fun done env => ∃ s2, env = [.val (.list (parts.map rowsD)), .val (.list (done.flatten.map rowD)), s2]) ⟨_, rfl⟩ ?_ ?_
  · rintro done row rest hsp env ⟨s2, rfl⟩
    refine ⟨_, rfl, ?_⟩
    have hl : done.flatten.length + row.length ≤ 256 := by
      have := congrArg (fun l => (List.flatten l).length) hsp
      simp only [List.flatten_append, List.flatten_cons, List.length_append] at this
      omega
    have e1 : app2 .add (.list (done.flatten.map rowD)) (rowsD row) = some (.list ((done ++ [row]).flatten.map rowD)) := by
      show (if (done.flatten.map rowD).length + (row.map rowD).length ≤ lim then some (PyData.list (done.flatten.map rowD ++ row.map rowD)) else none) = _
      rw [if_pos (by rw [limv, List.length_map, List.length_map]; omega)]
      simp
    generalize done.flatten.map rowD = x at e1
    conv => arg 1; simp [e1, -List.map_flatten]
    exact .pure ⟨rfl, _, by simp; rfl⟩
  · rintro env ⟨s2, rfl⟩
    conv => arg 1; simp
    exact .pure (by simp)
/-! frozen locks -/
theorem mem_frozen : i ∈ frozenI p r ↔ i < p.length ∧ ∀ q ∈ reachOf p r, q.getD i false = r.getD i false := by
  unfold frozenI
  simp only [List.mem_filter, List.mem_range, List.all_eq_true, decide_eq_true_eq]
theorem frz_frozen (hn : KeysN p) (hr : IsS p r) (h : Frz p r i) : i ∈ frozenI p r := mem_frozen.mpr ⟨h.lt, fun q hq => ((mem_reach hn hr).mp hq).frz hn hr h⟩
theorem reach_frozen (hn : KeysN p) (hr : IsS p r) (hg : IsS p g) : g ∈ reachOf p r ↔ ∀ i ∈ frozenI p r, g.getD i false = r.getD i false := by
  constructor
  · exact fun h i hi => (mem_frozen.mp hi).2 g h
  · intro h
    rw [mem_reach hn hr, conn_agree hn hr hg]
    exact fun i hi => h i (frz_frozen hn hr hi)
theorem frozen_conn (hn : KeysN p) (hr : IsS p r) (h : Conn p r q) : frozenI p q = frozenI p r := by
  unfold frozenI
  refine List.filter_congr fun i hi => ?_
  rw [reach_eq hn hr h, Bool.eq_iff_iff]
  simp only [List.all_eq_true, decide_eq_true_eq]
  have h1 := (mem_reach hn hr).mpr h
  have h2 := (mem_reach hn hr).mpr (Conn.refl p r)
  constructor
  · intro hh x hx
    rw [hh x hx, ← hh r h2]
  · intro hh x hx
    rw [hh x hx, hh q h1]
theorem ring_frozen (hn : KeysN p) (hr : IsS p r) {c : List Nat} (h : ringOf p r g = some c) : ∀ i ∈ c, i ∈ frozenI p r := fun i hi => by
  have hR := ring_ring (waits_in p r g) h
  exact frz_frozen hn hr ⟨c, stuck_held hr.len (ring_stuck hR) hR.sub, hi⟩
theorem name_inj (hd : (namesOf p).Nodup) {i j : Nat} (hi : i < p.length) (hj : j < p.length) (h : (lk p i).1 = (lk p j).1) : i = j := by
  rw [lk_lt hi, lk_lt hj] at h
  have e1 : (namesOf p)[i]'(by simpa [namesOf] using hi) = p[i].1 := List.getElem_map _
  have e2 : (namesOf p)[j]'(by simpa [namesOf] using hj) = p[j].1 := List.getElem_map _
  exact (List.getElem_inj hd).mp (by rw [e1, e2, h])
theorem mem_frozenN (hd : (namesOf p).Nodup) (hi : i < p.length) : (lk p i).1 ∈ frozenN p r ↔ i ∈ frozenI p r := by
  unfold frozenN
  rw [List.mem_map]
  constructor
  · rintro ⟨j, hj, e⟩
    rw [← name_inj hd (mem_frozen.mp hj).1 hi e]; exact hj
  · exact fun h => ⟨i, h, rfl⟩
end
end TK.P

/-! small things that the laws ask -/
namespace TK.P
open PySem TK L2
section
variable {α : Type} [DecidableEq α] {k : Nat} {p : List Lock} {r g : List Bool} {i : Nat}
theorem eqD_nilE (f : α → D) [Enc f k] (hk : k ≤ 59) (l : List α) : eqD (.list (l.map f)) (.list []) = some (decide (l = [])) := eqD_enc (fun l : List α => PyData.list (l.map f)) (by omega : k + 1 ≤ 60) l []
theorem at_names (h : i < p.length) : atI ((namesOf p).map PyData.str) (i : Int) = some (.str (lk p i).1) := by
  rw [atI_getD PyData.str (by simpa [namesOf] using h)]
  simp [namesOf, lk_lt h]
theorem map_names (p : List Lock) : (p.map fun l => PyData.str l.1) = (namesOf p).map .str := by rw [namesOf, List.map_map]; rfl
theorem names_len (p : List Lock) : (namesOf p).length = p.length := by simp [namesOf]
theorem eqD_lrows (l m : List (List (List Bool))) : eqD (.list (l.map rowsD)) (.list (m.map rowsD)) = some (decide (l = m)) := eqD_enc (fun l : List (List (List Bool)) => PyData.list (l.map rowsD)) (k := 3) (by decide) l m
theorem in_lrows (a : List (List Bool)) (l : List (List (List Bool))) : app2 .isin (.list (a.map rowD)) (.list (l.map rowsD)) = some (.bool (decide (a ∈ l))) := (in_encL (fun l : List (List Bool) => PyData.list (l.map rowD)) (k := 2) (by decide) a l).trans (by congr)
theorem notin_lrows (a : List (List Bool)) (l : List (List (List Bool))) : app2 .notin (.list (a.map rowD)) (.list (l.map rowsD)) = some (.bool (!decide (a ∈ l))) := (notin_encL (fun l : List (List Bool) => PyData.list (l.map rowD)) (k := 2) (by decide) a l).trans (by congr)
theorem ne_states {p : List Lock} (hr : r ∈ statesOf p) : (statesOf p).map rowD ≠ [] := fun e => by
  have := List.map_eq_nil_iff.mp e
  rw [this] at hr; cases hr
theorem ne_reach (hn : KeysN p) (hs : IsS p r) : (reachOf p r).map rowD ≠ [] := fun e => by
  have := List.map_eq_nil_iff.mp e
  have h2 := (mem_reach hn hs).mpr (Conn.refl p r)
  rw [this] at h2; cases h2
theorem row_ne (hp : 1 ≤ p.length) (hs : IsS p r) : r ≠ [] := fun e => by
  have := hs.len
  rw [e] at this; simp at this; omega
end
end TK.P

namespace TK.KK
open PySem PySem.Spec PyProof.Rows L2 TK TK.P
theorem law_run : ∀ ns : List Int, ns.length ≤ 63 → ∃ e st', exs [f__law_any, f_frozen, f_reachable, f_states, f_classes, f__law_flat, f__law_pick, f_is_reachable, f_ring] b_law.body (lawEnv 18 1 ns) [] = some (.ok (.rt (.bool true), e), st') := by
  intro ns hns
  refine law_end ?_
  (conv => arg 1; simp -dsimp -implicitDefEqProofs [limv, -List.getD_eq_getElem?_getD, List.getD_cons_zero, List.getD_cons_succ, -bind_assoc', -ex_asg, -ex_ite, -ex_unp, -ex_par, -ex_for, nxM_cons, ex_asgK, asgK_def, ex_iteK, iteK_t, iteK_f, ex_unpK, unpK_def, ex_parK, parK_cons, ex_forK, forK_def, forJ_def, b_law, lawEnv, rangeL]; try simp only [bind_assoc'])
  refine Wp.forI _ (fun (env : Env) => ∃ slot2 slot3 slot4 slot5 slot6 slot7 slot8 slot9 slot10 slot11 slot12 slot13 slot14, env = [.val (scr ns), .val tok, slot2, slot3, slot4, slot5, slot6, slot7, slot8, slot9, slot10, slot11, slot12, slot13, slot14, .no, .no, .no]) 9500 (by ((repeat apply Exists.intro); rfl)) (by simp) ?_ ?_
  · intro a _ env hI
    (repeat obtain ⟨_, hI⟩ := hI)
    refine ⟨_, rfl, ?_⟩
    (conv => arg 1; simp -dsimp -implicitDefEqProofs [limv, -List.getD_eq_getElem?_getD, List.getD_cons_zero, List.getD_cons_succ, -bind_assoc', -ex_asg, -ex_ite, -ex_unp, -ex_par, -ex_for, nxM_cons, ex_asgK, asgK_def, ex_iteK, iteK_t, iteK_f, ex_unpK, unpK_def, ex_parK, parK_cons, ex_forK, forK_def, forJ_def]; try simp only [bind_assoc'])
    refine Wp.bindB (any_wp hns (m := 8) (by decide) (by decide)) (by decide) fun d hd => ?_
    obtain ⟨p, r, rfl, ok, hp8, hr⟩ := hd
    have hst := st_of hr
    have hs : IsS p r := mem_states.mp hr
    have hl := hs.len
    have hn := ok.keysN
    have hp1 := (okP_iff.mp ok).1.1
    (conv => arg 1; simp -dsimp -implicitDefEqProofs [limv, -List.getD_eq_getElem?_getD, List.getD_cons_zero, List.getD_cons_succ, -bind_assoc', -ex_asg, -ex_ite, -ex_unp, -ex_par, -ex_for, nxM_cons, ex_asgK, asgK_def, ex_iteK, iteK_t, iteK_f, ex_unpK, unpK_def, ex_parK, parK_cons, ex_forK, forK_def, forJ_def, someD]; try simp only [bind_assoc'])
    refine Wp.compMB (fun l : Lock => PyData.str l.1) (fun l hl => ?_) ?_
    · simp [compF]
    rw [map_names]
    (conv => arg 1; simp -dsimp -implicitDefEqProofs [limv, -List.getD_eq_getElem?_getD, List.getD_cons_zero, List.getD_cons_succ, -bind_assoc', -ex_asg, -ex_ite, -ex_unp, -ex_par, -ex_for, nxM_cons, ex_asgK, asgK_def, ex_iteK, iteK_t, iteK_f, ex_unpK, unpK_def, ex_parK, parK_cons, ex_forK, forK_def, forJ_def, frozen_eq ok hst, reachable_eq ok hst, states_eq ok]; try simp only [bind_assoc'])
    refine Wp.forI (statesOf p) (fun (env : Env) => ∃ slot4 slot5 slot6 slot7 slot14, env = [.val (scr ns), .val tok, .val (.int a), .val (.list ((statesOf p).map rowD)), slot4, slot5, slot6, slot7, .val (plantD p), .val (.list ((statesOf p).map rowD)), .val (rowD r), .val (.list ((P.namesOf p).map .str)), .val (.list ((frozenN p r).map .str)), .val (.list ((reachOf p r).map rowD)), slot14, .no, .no, .no]) 0 (by ((repeat apply Exists.intro); rfl)) (by simp) ?_ ?_
    · intro q hq env hI
      (repeat obtain ⟨_, hI⟩ := hI)
      refine ⟨_, rfl, ?_⟩
      have hqs := mem_states.mp hq
      have hql := hqs.len
      (conv => arg 1; simp -dsimp -implicitDefEqProofs [limv, -List.getD_eq_getElem?_getD, List.getD_cons_zero, List.getD_cons_succ, -bind_assoc', -ex_asg, -ex_ite, -ex_unp, -ex_par, -ex_for, nxM_cons, ex_asgK, asgK_def, ex_iteK, iteK_t, iteK_f, ex_unpK, unpK_def, ex_parK, parK_cons, ex_forK, forK_def, forJ_def, rangeL, names_len, show p.length ≤ 16777216 by omega]; try simp only [bind_assoc'])
      refine Wp.compFB (fun i => decide (i ∈ frozenI p r) && !decide (q.getD i false = r.getD i false)) natD (fun i hi => ?_) ?_
      · have hi := List.mem_range.mp hi
        have e1 : app2 .ix (rowD q) (.int i) = some (bD (q.getD i false)) := ix_rowk (by omega)
        have e2 : app2 .ix (rowD r) (.int i) = some (bD (r.getD i false)) := ix_rowk (by omega)
        by_cases hf : i ∈ frozenI p r <;> simp [compF, at_names hi, e1, e2, eqD_bit, mem_frozenN ok.names hi, hf, natD, -List.getD_eq_getElem?_getD]
      have e3 : ((List.range p.length).filter fun i => decide (i ∈ frozenI p r) && !decide (q.getD i false = r.getD i false)) = [] ↔ q ∈ reachOf p r := by
        rw [List.filter_eq_nil_iff, reach_frozen hn hs hqs]
        constructor
        · intro h i hi
          have := h i (List.mem_range.mpr (mem_frozen.mp hi).1)
          simpa [hi] using this
        · intro h i _ h2
          simp only [Bool.and_eq_true, decide_eq_true_eq, Bool.not_eq_true', decide_eq_false_iff_not] at h2
          exact h2.2 (h i h2.1)
      (conv => arg 1; simp -dsimp -implicitDefEqProofs [limv, -List.getD_eq_getElem?_getD, List.getD_cons_zero, List.getD_cons_succ, -bind_assoc', -ex_asg, -ex_ite, -ex_unp, -ex_par, -ex_for, nxM_cons, ex_asgK, asgK_def, ex_iteK, iteK_t, iteK_f, ex_unpK, unpK_def, ex_parK, parK_cons, ex_forK, forK_def, forJ_def, eqD_nilE natD (by decide), e3]; try simp only [bind_assoc'])
      exact .pure ⟨rfl, by ((repeat apply Exists.intro); rfl)⟩
    intro env hI
    (repeat obtain ⟨_, hI⟩ := hI)
    have hfl : (classesOf p).flatten.length ≤ 256 := by
      rw [(classes_flat hn).length_eq]; exact states_len ok.sized
    have ef := flat_eq ok hfl
    have hF := classes_flat hn (p := p)
    generalize (classesOf p).flatten = F at ef hF
    (conv => arg 1; simp -dsimp -implicitDefEqProofs [limv, -List.getD_eq_getElem?_getD, List.getD_cons_zero, List.getD_cons_succ, -bind_assoc', -ex_asg, -ex_ite, -ex_unp, -ex_par, -ex_for, nxM_cons, ex_asgK, asgK_def, ex_iteK, iteK_t, iteK_f, ex_unpK, unpK_def, ex_parK, parK_cons, ex_forK, forK_def, forJ_def, classes_eq ok, notin_lrows, classes_own hn hs, ef, sortD_rows F (fun q hq => row_ne hp1 (mem_states.mp (hF.mem_iff.mp hq))), sorted_states hF]; try simp only [bind_assoc'])
    refine Wp.bindB (pick_wp hns (ne_reach hn hs)) (by simp) fun d hd => ?_
    obtain ⟨o, ho, rfl⟩ := List.mem_map.mp hd
    have hoc := (mem_reach hn hs).mp ho
    have hos := hoc.isS hs
    have efr : frozenN p o = frozenN p r := by unfold frozenN; rw [frozen_conn hn hs hoc]
    (conv => arg 1; simp -dsimp -implicitDefEqProofs [limv, -List.getD_eq_getElem?_getD, List.getD_cons_zero, List.getD_cons_succ, -bind_assoc', -ex_asg, -ex_ite, -ex_unp, -ex_par, -ex_for, nxM_cons, ex_asgK, asgK_def, ex_iteK, iteK_t, iteK_f, ex_unpK, unpK_def, ex_parK, parK_cons, ex_forK, forK_def, forJ_def, frozen_eq ok hos.st, reachable_eq ok hos.st, efr, reach_eq hn hs hoc]; try simp only [bind_assoc'])
    refine Wp.bindB (pick_wp hns (ne_states hr)) (by simp) fun d hd => ?_
    obtain ⟨g, hg, rfl⟩ := List.mem_map.mp hd
    have hgs := mem_states.mp hg
    have erb : reachB p r g = decide (g ∈ reachOf p r) := by
      rw [Bool.eq_iff_iff, reachB_iff hn hs hgs, decide_eq_true_eq, mem_reach hn hs]
    by_cases hgo : g ∈ reachOf p r
    · (conv => arg 1; simp -dsimp -implicitDefEqProofs [limv, -List.getD_eq_getElem?_getD, List.getD_cons_zero, List.getD_cons_succ, -bind_assoc', -ex_asg, -ex_ite, -ex_unp, -ex_par, -ex_for, nxM_cons, ex_asgK, asgK_def, ex_iteK, iteK_t, iteK_f, ex_unpK, unpK_def, ex_parK, parK_cons, ex_forK, forK_def, forJ_def, is_reachable_eq ok hst hgs.st, erb, hgo]; try simp only [bind_assoc'])
      exact .pure ⟨rfl, by ((repeat apply Exists.intro); rfl)⟩
    · have hrn : (ringOf p r g).isNone = false := by
        rw [ring_iff]
        have : reachB p r g = false := by rw [erb]; simpa using hgo
        exact this
      cases hc : ringOf p r g with
      | none => rw [hc] at hrn; cases hrn
      | some c =>
        (conv => arg 1; simp -dsimp -implicitDefEqProofs [limv, -List.getD_eq_getElem?_getD, List.getD_cons_zero, List.getD_cons_succ, -bind_assoc', -ex_asg, -ex_ite, -ex_unp, -ex_par, -ex_for, nxM_cons, ex_asgK, asgK_def, ex_iteK, iteK_t, iteK_f, ex_unpK, unpK_def, ex_parK, parK_cons, ex_forK, forK_def, forJ_def, is_reachable_eq ok hst hgs.st, erb, hgo, ring_eq ok hst hgs.st, hc, optNames]; try simp only [bind_assoc'])
        have hR := ring_ring (waits_in p r g) hc
        refine Wp.compFB (fun i => false) (fun i => PyData.str (lk p i).1) (fun i hi => ?_) ?_
        · have hif := ring_frozen hn hs hc i hi
          have h2 := (mem_frozenN (r := r) ok.names (mem_frozen.mp hif).1).mpr hif
          simp [compF, h2]
        have e6 : (c.filter fun i => false) = [] := by simp
        rw [e6]
        (conv => arg 1; simp -dsimp -implicitDefEqProofs [limv, -List.getD_eq_getElem?_getD, List.getD_cons_zero, List.getD_cons_succ, -bind_assoc', -ex_asg, -ex_ite, -ex_unp, -ex_par, -ex_for, nxM_cons, ex_asgK, asgK_def, ex_iteK, iteK_t, iteK_f, ex_unpK, unpK_def, ex_parK, parK_cons, ex_forK, forK_def, forJ_def]; try simp only [bind_assoc'])
        exact .pure ⟨rfl, by ((repeat apply Exists.intro); rfl)⟩
  · intro env hI
    (repeat obtain ⟨_, hI⟩ := hI)
    (conv => arg 1; simp -dsimp -implicitDefEqProofs [limv, -List.getD_eq_getElem?_getD, List.getD_cons_zero, List.getD_cons_succ, -bind_assoc', -ex_asg, -ex_ite, -ex_unp, -ex_par, -ex_for, nxM_cons, ex_asgK, asgK_def, ex_iteK, iteK_t, iteK_f, ex_unpK, unpK_def, ex_parK, parK_cons, ex_forK, forK_def, forJ_def]; try simp only [bind_assoc'])
    exact .pure rfl
def dd (x : Str) (i : Nat) : He.DefD := ⟨(x, none), x, x, defArgs (top i), defBody (top i), defScope (top i), [], []⟩
def fn : List He.DefD := [dd "is_integer" 6, dd "is_ascending" 7, dd "is_word" 8, dd "are_keys" 9, dd "is_lock" 10, dd "is_plant" 11, dd "require_plant" 12, dd "held_by" 13, dd "are_places" 14, dd "fits" 15, dd "is_valid_state" 16, dd "require_state" 17, dd "do_bar" 19, dd "find_states" 20, dd "states" 21, dd "require_goal" 23, dd "unlike" 24, dd "waits_of" 25, dd "find_way" 26, dd "is_reachable" 27, dd "find_ring" 28, dd "ring" 29, dd "find_reachable" 31, dd "reachable" 32, dd "frozen" 33, dd "classes" 34, dd "_law_draw" 36, dd "_law_pick" 37, dd "_law_shuffled" 38, dd "_law_plant" 39, dd "_law_fits" 40, dd "_law_vectors" 41, dd "_law_states" 42, dd "_law_some" 43, dd "_law_tight" 44, dd "_law_any" 45, dd "_law_flat" 46, dd "law" 47]
def fa : List He.Fa := ([.glo "is_integer", .glo "is_ascending", .glo "is_word", .glo "are_keys", .glo "is_lock", .glo "is_plant", .glo "require_plant", .glo "held_by", .glo "are_places", .glo "fits", .glo "is_valid_state", .glo "require_state", .glo "do_bar", .glo "find_states", .glo "states", .glo "require_goal", .glo "unlike", .glo "waits_of", .glo "find_way", .glo "is_reachable", .glo "find_ring", .glo "ring", .glo "find_reachable", .glo "reachable", .glo "frozen", .glo "classes", .glo "_law_draw", .glo "_law_pick", .glo "_law_shuffled", .glo "_law_plant", .glo "_law_fits", .glo "_law_vectors", .glo "_law_states", .glo "_law_some", .glo "_law_tight", .glo "_law_any", .glo "_law_flat", .glo "law", .free "len", .free "range"] : List He.Fa) ++ ([.free "zip", .free "enumerate", .free "all", .free "any", .free "abs", .free "tuple", .free "list", .free "str", .free "int", .free "sorted", .free "set", .free "min", .free "max", .free "sum", .free "isinstance", .free "bool", .free "dict", .glo "InvalidPlant", .glo "InvalidState", .glo "InvalidGoal", .exc "InvalidPlant", .exc "InvalidState", .exc "InvalidGoal", .exm "InvalidPlant" "InvalidPlant" true, .exm "InvalidPlant" "InvalidState" false, .exm "InvalidPlant" "InvalidGoal" false, .exm "InvalidState" "InvalidPlant" false, .exm "InvalidState" "InvalidState" true, .exm "InvalidState" "InvalidGoal" false, .exm "InvalidGoal" "InvalidPlant" false, .exm "InvalidGoal" "InvalidState" false, .exm "InvalidGoal" "InvalidGoal" true] : List He.Fa)
abbrev R : PySem.W.OpenRow := PySem.W.OpenLaw.row PySem.Challenge.rw_trappedkeys_k14_whole_frozen
abbrev hk : PySem.W.Hook := He.hookD 4 fa fn
def ob (s : PySem.W.SharedT) : He.AlD := He.obsDG 4 fa fn (HandSHeadRun.getT s)
theorem ob_eq (s : PySem.W.SharedT) : ob s = hk.obs s.abs := He.obsDG_eq (HandSHeadRun.getT_eq s)
def loose : List Str := (["KeyRingError", "InvalidPlant", "InvalidState", "InvalidGoal", "is_integer", "is_ascending", "is_word", "are_keys", "is_lock", "is_plant", "require_plant", "held_by", "are_places", "fits", "is_valid_state", "require_state", "do_bar", "find_states", "states", "require_goal", "unlike", "waits_of", "find_way", "is_reachable", "find_ring", "ring", "find_reachable", "reachable", "frozen", "classes"] : List Str) ++ (["_law_draw", "_law_pick", "_law_shuffled", "_law_plant", "_law_fits", "_law_vectors", "_law_states", "_law_some", "_law_tight", "_law_any", "_law_flat"] : List Str)
theorem hrun (w : World) : HandSHeadRun.RunEq R (PySem.W.view R.prog [47]) hk ob 4000 loose w := by
  intro os
  kernel_rfl
theorem facts {P : Program} {w : World} {K : PySem.W.Frag} {h : Heap} {mg : Str → Option Value} {f : Addr} (X : K.In h) (G : h.Ns mainGlobals mg) (hfa : mg ("law" : Str) = some (.ref f)) (c : He.SaysD fa fn K) :
    ∃ fd : FuncData, (∀ (s : Shared) (v : Value), BindsTo s fd ⟨[v], []⟩ [("script", v)]) ∧ ∀ base : Heap, K.In base → base.Ns mainGlobals mg → FnOk P w K mg base CX0 9 f fd ["script"] (spLaw K 63) := by
  have hB : Blt mg := by
    intro x hx
    simp only [bltNames, List.mem_cons, List.not_mem_nil, or_false] at hx
    rcases hx with rfl | rfl | rfl | rfl | rfl | rfl | rfl | rfl | rfl | rfl | rfl | rfl | rfl | rfl | rfl | rfl | rfl | rfl | rfl
    · exact He.free_ok X G (c.fact 38 (f := .free "len") rfl)
    · exact He.free_ok X G (c.fact 39 (f := .free "range") rfl)
    · exact He.free_ok X G (c.fact 40 (f := .free "zip") rfl)
    · exact He.free_ok X G (c.fact 41 (f := .free "enumerate") rfl)
    · exact He.free_ok X G (c.fact 42 (f := .free "all") rfl)
    · exact He.free_ok X G (c.fact 43 (f := .free "any") rfl)
    · exact He.free_ok X G (c.fact 44 (f := .free "abs") rfl)
    · exact He.free_ok X G (c.fact 45 (f := .free "tuple") rfl)
    · exact He.free_ok X G (c.fact 46 (f := .free "list") rfl)
    · exact He.free_ok X G (c.fact 47 (f := .free "str") rfl)
    · exact He.free_ok X G (c.fact 48 (f := .free "int") rfl)
    · exact He.free_ok X G (c.fact 49 (f := .free "sorted") rfl)
    · exact He.free_ok X G (c.fact 50 (f := .free "set") rfl)
    · exact He.free_ok X G (c.fact 51 (f := .free "min") rfl)
    · exact He.free_ok X G (c.fact 52 (f := .free "max") rfl)
    · exact He.free_ok X G (c.fact 53 (f := .free "sum") rfl)
    · exact He.free_ok X G (c.fact 54 (f := .free "isinstance") rfl)
    · exact He.free_ok X G (c.fact 55 (f := .free "bool") rfl)
    · exact He.free_ok X G (c.fact 56 (f := .free "dict") rfl)
  have gE0 := He.glo_ok X G (c.fact 57 (f := .glo "InvalidPlant") rfl)
  obtain ⟨xa0, xb0, xc0, xd0⟩ := He.exc_ok (c.fact 60 (f := .exc "InvalidPlant") rfl)
  have gE1 := He.glo_ok X G (c.fact 58 (f := .glo "InvalidState") rfl)
  obtain ⟨xa1, xb1, xc1, xd1⟩ := He.exc_ok (c.fact 61 (f := .exc "InvalidState") rfl)
  have gE2 := He.glo_ok X G (c.fact 59 (f := .glo "InvalidGoal") rfl)
  obtain ⟨xa2, xb2, xc2, xd2⟩ := He.exc_ok (c.fact 62 (f := .exc "InvalidGoal") rfl)
  have hX : XC K mg exL := by
    constructor
    · intro c hc
      simp only [exL, List.mem_cons, List.not_mem_nil, or_false] at hc
      rcases hc with rfl | rfl | rfl
      · exact ⟨_, gE0, xa0, xb0, xc0, xd0⟩
      · exact ⟨_, gE1, xa1, xb1, xc1, xd1⟩
      · exact ⟨_, gE2, xa2, xb2, xc2, xd2⟩
    · intro c hc d hd A B hA hB
      simp only [exL, List.mem_cons, List.not_mem_nil, or_false] at hc hd
      rcases hc with rfl | rfl | rfl <;> rcases hd with rfl | rfl | rfl
      · cases gE0.symm.trans hA; cases gE0.symm.trans hB; exact (He.exm_ok (c.fact 63 (f := .exm "InvalidPlant" "InvalidPlant" true) rfl)).trans (congrArg some (by decide +kernel))
      · cases gE0.symm.trans hA; cases gE1.symm.trans hB; exact (He.exm_ok (c.fact 64 (f := .exm "InvalidPlant" "InvalidState" false) rfl)).trans (congrArg some (by decide +kernel))
      · cases gE0.symm.trans hA; cases gE2.symm.trans hB; exact (He.exm_ok (c.fact 65 (f := .exm "InvalidPlant" "InvalidGoal" false) rfl)).trans (congrArg some (by decide +kernel))
      · cases gE1.symm.trans hA; cases gE0.symm.trans hB; exact (He.exm_ok (c.fact 66 (f := .exm "InvalidState" "InvalidPlant" false) rfl)).trans (congrArg some (by decide +kernel))
      · cases gE1.symm.trans hA; cases gE1.symm.trans hB; exact (He.exm_ok (c.fact 67 (f := .exm "InvalidState" "InvalidState" true) rfl)).trans (congrArg some (by decide +kernel))
      · cases gE1.symm.trans hA; cases gE2.symm.trans hB; exact (He.exm_ok (c.fact 68 (f := .exm "InvalidState" "InvalidGoal" false) rfl)).trans (congrArg some (by decide +kernel))
      · cases gE2.symm.trans hA; cases gE0.symm.trans hB; exact (He.exm_ok (c.fact 69 (f := .exm "InvalidGoal" "InvalidPlant" false) rfl)).trans (congrArg some (by decide +kernel))
      · cases gE2.symm.trans hA; cases gE1.symm.trans hB; exact (He.exm_ok (c.fact 70 (f := .exm "InvalidGoal" "InvalidState" false) rfl)).trans (congrArg some (by decide +kernel))
      · cases gE2.symm.trans hA; cases gE2.symm.trans hB; exact (He.exm_ok (c.fact 71 (f := .exm "InvalidGoal" "InvalidGoal" true) rfl)).trans (congrArg some (by decide +kernel))
  obtain ⟨fd_is_integer, F_is_integer⟩ := c.def_ 0 (d := dd "is_integer" 6) rfl
  obtain ⟨fd_is_ascending, F_is_ascending⟩ := c.def_ 1 (d := dd "is_ascending" 7) rfl
  obtain ⟨fd_is_word, F_is_word⟩ := c.def_ 2 (d := dd "is_word" 8) rfl
  obtain ⟨fd_are_keys, F_are_keys⟩ := c.def_ 3 (d := dd "are_keys" 9) rfl
  obtain ⟨fd_is_lock, F_is_lock⟩ := c.def_ 4 (d := dd "is_lock" 10) rfl
  obtain ⟨fd_is_plant, F_is_plant⟩ := c.def_ 5 (d := dd "is_plant" 11) rfl
  obtain ⟨fd_require_plant, F_require_plant⟩ := c.def_ 6 (d := dd "require_plant" 12) rfl
  obtain ⟨fd_held_by, F_held_by⟩ := c.def_ 7 (d := dd "held_by" 13) rfl
  obtain ⟨fd_are_places, F_are_places⟩ := c.def_ 8 (d := dd "are_places" 14) rfl
  obtain ⟨fd_fits, F_fits⟩ := c.def_ 9 (d := dd "fits" 15) rfl
  obtain ⟨fd_is_valid_state, F_is_valid_state⟩ := c.def_ 10 (d := dd "is_valid_state" 16) rfl
  obtain ⟨fd_require_state, F_require_state⟩ := c.def_ 11 (d := dd "require_state" 17) rfl
  obtain ⟨fd_do_bar, F_do_bar⟩ := c.def_ 12 (d := dd "do_bar" 19) rfl
  obtain ⟨fd_find_states, F_find_states⟩ := c.def_ 13 (d := dd "find_states" 20) rfl
  obtain ⟨fd_states, F_states⟩ := c.def_ 14 (d := dd "states" 21) rfl
  obtain ⟨fd_require_goal, F_require_goal⟩ := c.def_ 15 (d := dd "require_goal" 23) rfl
  obtain ⟨fd_unlike, F_unlike⟩ := c.def_ 16 (d := dd "unlike" 24) rfl
  obtain ⟨fd_waits_of, F_waits_of⟩ := c.def_ 17 (d := dd "waits_of" 25) rfl
  obtain ⟨fd_find_way, F_find_way⟩ := c.def_ 18 (d := dd "find_way" 26) rfl
  obtain ⟨fd_is_reachable, F_is_reachable⟩ := c.def_ 19 (d := dd "is_reachable" 27) rfl
  obtain ⟨fd_find_ring, F_find_ring⟩ := c.def_ 20 (d := dd "find_ring" 28) rfl
  obtain ⟨fd_ring, F_ring⟩ := c.def_ 21 (d := dd "ring" 29) rfl
  obtain ⟨fd_find_reachable, F_find_reachable⟩ := c.def_ 22 (d := dd "find_reachable" 31) rfl
  obtain ⟨fd_reachable, F_reachable⟩ := c.def_ 23 (d := dd "reachable" 32) rfl
  obtain ⟨fd_frozen, F_frozen⟩ := c.def_ 24 (d := dd "frozen" 33) rfl
  obtain ⟨fd_classes, F_classes⟩ := c.def_ 25 (d := dd "classes" 34) rfl
  obtain ⟨fd__law_draw, F__law_draw⟩ := c.def_ 26 (d := dd "_law_draw" 36) rfl
  obtain ⟨fd__law_pick, F__law_pick⟩ := c.def_ 27 (d := dd "_law_pick" 37) rfl
  obtain ⟨fd__law_shuffled, F__law_shuffled⟩ := c.def_ 28 (d := dd "_law_shuffled" 38) rfl
  obtain ⟨fd__law_plant, F__law_plant⟩ := c.def_ 29 (d := dd "_law_plant" 39) rfl
  obtain ⟨fd__law_fits, F__law_fits⟩ := c.def_ 30 (d := dd "_law_fits" 40) rfl
  obtain ⟨fd__law_vectors, F__law_vectors⟩ := c.def_ 31 (d := dd "_law_vectors" 41) rfl
  obtain ⟨fd__law_states, F__law_states⟩ := c.def_ 32 (d := dd "_law_states" 42) rfl
  obtain ⟨fd__law_some, F__law_some⟩ := c.def_ 33 (d := dd "_law_some" 43) rfl
  obtain ⟨fd__law_tight, F__law_tight⟩ := c.def_ 34 (d := dd "_law_tight" 44) rfl
  obtain ⟨fd__law_any, F__law_any⟩ := c.def_ 35 (d := dd "_law_any" 45) rfl
  obtain ⟨fd__law_flat, F__law_flat⟩ := c.def_ 36 (d := dd "_law_flat" 46) rfl
  obtain ⟨fd_law, F_law⟩ := c.def_ 37 (d := dd "law" 47) rfl
  have e := hfa.symm.trans (He.glo_ok X G (c.fact 37 (f := .glo "law") rfl))
  cases e
  have b := FunD.bindsA (ps := ["script"]) F_law fun _ _ _ _ _ _ us hl => match us, hl with | [_], _ => rfl
  refine ⟨fd_law, fun s v => b s [v] rfl, fun base _ _ => ?_⟩
  have G_is_integer : FnGood P w K mg base 1 "is_integer" f_is_integer := w_is_integer (k := 0) hB hX F_is_integer (He.glo_ok X G (c.fact 0 (f := .glo "is_integer") rfl)) 
  have G_is_ascending : FnGood P w K mg base 1 "is_ascending" f_is_ascending := w_is_ascending (k := 0) hB hX F_is_ascending (He.glo_ok X G (c.fact 1 (f := .glo "is_ascending") rfl)) 
  have G_is_word : FnGood P w K mg base 1 "is_word" f_is_word := w_is_word (k := 0) hB hX F_is_word (He.glo_ok X G (c.fact 2 (f := .glo "is_word") rfl)) 
  have G_held_by : FnGood P w K mg base 1 "held_by" f_held_by := w_held_by (k := 0) hB hX F_held_by (He.glo_ok X G (c.fact 7 (f := .glo "held_by") rfl)) 
  have G_unlike : FnGood P w K mg base 1 "unlike" f_unlike := w_unlike (k := 0) hB hX F_unlike (He.glo_ok X G (c.fact 16 (f := .glo "unlike") rfl)) 
  have G_find_ring : FnGood P w K mg base 1 "find_ring" f_find_ring := w_find_ring (k := 0) hB hX F_find_ring (He.glo_ok X G (c.fact 20 (f := .glo "find_ring") rfl)) 
  have G__law_draw : FnGood P w K mg base 1 "_law_draw" f__law_draw := w__law_draw (k := 0) hB hX F__law_draw (He.glo_ok X G (c.fact 26 (f := .glo "_law_draw") rfl)) 
  have G__law_fits : FnGood P w K mg base 1 "_law_fits" f__law_fits := w__law_fits (k := 0) hB hX F__law_fits (He.glo_ok X G (c.fact 30 (f := .glo "_law_fits") rfl)) 
  have G__law_vectors : FnGood P w K mg base 1 "_law_vectors" f__law_vectors := w__law_vectors (k := 0) hB hX F__law_vectors (He.glo_ok X G (c.fact 31 (f := .glo "_law_vectors") rfl)) 
  have G__law_flat : FnGood P w K mg base 1 "_law_flat" f__law_flat := w__law_flat (k := 0) hB hX F__law_flat (He.glo_ok X G (c.fact 36 (f := .glo "_law_flat") rfl)) 
  have G_are_keys : FnGood P w K mg base 2 "are_keys" f_are_keys := w_are_keys (k := 1) hB hX F_are_keys (He.glo_ok X G (c.fact 3 (f := .glo "are_keys") rfl)) (G_is_word.mono (by decide)) (G_is_ascending.mono (by decide))
  have G_are_places : FnGood P w K mg base 2 "are_places" f_are_places := w_are_places (k := 1) hB hX F_are_places (He.glo_ok X G (c.fact 8 (f := .glo "are_places") rfl)) (G_is_integer.mono (by decide))
  have G_fits : FnGood P w K mg base 2 "fits" f_fits := w_fits (k := 1) hB hX F_fits (He.glo_ok X G (c.fact 9 (f := .glo "fits") rfl)) (G_held_by.mono (by decide))
  have G_do_bar : FnGood P w K mg base 2 "do_bar" f_do_bar := w_do_bar (k := 1) hB hX F_do_bar (He.glo_ok X G (c.fact 12 (f := .glo "do_bar") rfl)) (G_held_by.mono (by decide))
  have G__law_pick : FnGood P w K mg base 2 "_law_pick" f__law_pick := w__law_pick (k := 1) hB hX F__law_pick (He.glo_ok X G (c.fact 27 (f := .glo "_law_pick") rfl)) (G__law_draw.mono (by decide))
  have G__law_shuffled : FnGood P w K mg base 2 "_law_shuffled" f__law_shuffled := w__law_shuffled (k := 1) hB hX F__law_shuffled (He.glo_ok X G (c.fact 28 (f := .glo "_law_shuffled") rfl)) (G__law_draw.mono (by decide))
  have G__law_states : FnGood P w K mg base 2 "_law_states" f__law_states := w__law_states (k := 1) hB hX F__law_states (He.glo_ok X G (c.fact 32 (f := .glo "_law_states") rfl)) (G__law_vectors.mono (by decide)) (G__law_fits.mono (by decide))
  have G_is_lock : FnGood P w K mg base 3 "is_lock" f_is_lock := w_is_lock (k := 2) hB hX F_is_lock (He.glo_ok X G (c.fact 4 (f := .glo "is_lock") rfl)) (G_is_word.mono (by decide)) (G_are_keys.mono (by decide))
  have G_is_valid_state : FnGood P w K mg base 3 "is_valid_state" f_is_valid_state := w_is_valid_state (k := 2) hB hX F_is_valid_state (He.glo_ok X G (c.fact 10 (f := .glo "is_valid_state") rfl)) (G_are_places.mono (by decide)) (G_fits.mono (by decide))
  have G_find_states : FnGood P w K mg base 3 "find_states" f_find_states := w_find_states (k := 2) hB hX F_find_states (He.glo_ok X G (c.fact 13 (f := .glo "find_states") rfl)) (G_fits.mono (by decide))
  have G_waits_of : FnGood P w K mg base 3 "waits_of" f_waits_of := w_waits_of (k := 2) hB hX F_waits_of (He.glo_ok X G (c.fact 17 (f := .glo "waits_of") rfl)) (G_unlike.mono (by decide)) (G_do_bar.mono (by decide))
  have G__law_plant : FnGood P w K mg base 3 "_law_plant" f__law_plant := w__law_plant (k := 2) hB hX F__law_plant (He.glo_ok X G (c.fact 29 (f := .glo "_law_plant") rfl)) (G__law_shuffled.mono (by decide)) (G__law_draw.mono (by decide)) (G__law_pick.mono (by decide))
  have G_is_plant : FnGood P w K mg base 4 "is_plant" f_is_plant := w_is_plant (k := 3) hB hX F_is_plant (He.glo_ok X G (c.fact 5 (f := .glo "is_plant") rfl)) (G_is_lock.mono (by decide)) (G_is_ascending.mono (by decide))
  have G_find_way : FnGood P w K mg base 4 "find_way" f_find_way := w_find_way (k := 3) hB hX F_find_way (He.glo_ok X G (c.fact 18 (f := .glo "find_way") rfl)) (G_waits_of.mono (by decide))
  have G__law_some : FnGood P w K mg base 4 "_law_some" f__law_some := w__law_some (k := 3) hB hX F__law_some (He.glo_ok X G (c.fact 33 (f := .glo "_law_some") rfl)) (G__law_plant.mono (by decide)) (G__law_states.mono (by decide)) (G__law_pick.mono (by decide))
  have G__law_tight : FnGood P w K mg base 4 "_law_tight" f__law_tight := w__law_tight (k := 3) hB hX F__law_tight (He.glo_ok X G (c.fact 34 (f := .glo "_law_tight") rfl)) (G__law_plant.mono (by decide)) (G__law_draw.mono (by decide))
  have G_require_plant : FnGood P w K mg base 5 "require_plant" f_require_plant := w_require_plant (k := 4) hB hX F_require_plant (He.glo_ok X G (c.fact 6 (f := .glo "require_plant") rfl)) (G_is_plant.mono (by decide))
  have G_find_reachable : FnGood P w K mg base 5 "find_reachable" f_find_reachable := w_find_reachable (k := 4) hB hX F_find_reachable (He.glo_ok X G (c.fact 22 (f := .glo "find_reachable") rfl)) (G_find_states.mono (by decide)) (G_find_way.mono (by decide))
  have G__law_any : FnGood P w K mg base 5 "_law_any" f__law_any := w__law_any (k := 4) hB hX F__law_any (He.glo_ok X G (c.fact 35 (f := .glo "_law_any") rfl)) (G__law_draw.mono (by decide)) (G__law_tight.mono (by decide)) (G__law_states.mono (by decide)) (G__law_pick.mono (by decide)) (G__law_some.mono (by decide))
  have G_require_state : FnGood P w K mg base 6 "require_state" f_require_state := w_require_state (k := 5) hB hX F_require_state (He.glo_ok X G (c.fact 11 (f := .glo "require_state") rfl)) (G_require_plant.mono (by decide)) (G_is_valid_state.mono (by decide))
  have G_states : FnGood P w K mg base 6 "states" f_states := w_states (k := 5) hB hX F_states (He.glo_ok X G (c.fact 14 (f := .glo "states") rfl)) (G_require_plant.mono (by decide)) (G_find_states.mono (by decide))
  have G_classes : FnGood P w K mg base 6 "classes" f_classes := w_classes (k := 5) hB hX F_classes (He.glo_ok X G (c.fact 25 (f := .glo "classes") rfl)) (G_require_plant.mono (by decide)) (G_find_states.mono (by decide)) (G_find_reachable.mono (by decide))
  have G_require_goal : FnGood P w K mg base 7 "require_goal" f_require_goal := w_require_goal (k := 6) hB hX F_require_goal (He.glo_ok X G (c.fact 15 (f := .glo "require_goal") rfl)) (G_require_state.mono (by decide)) (G_is_valid_state.mono (by decide))
  have G_reachable : FnGood P w K mg base 7 "reachable" f_reachable := w_reachable (k := 6) hB hX F_reachable (He.glo_ok X G (c.fact 23 (f := .glo "reachable") rfl)) (G_require_state.mono (by decide)) (G_find_reachable.mono (by decide))
  have G_frozen : FnGood P w K mg base 7 "frozen" f_frozen := w_frozen (k := 6) hB hX F_frozen (He.glo_ok X G (c.fact 24 (f := .glo "frozen") rfl)) (G_require_state.mono (by decide)) (G_find_reachable.mono (by decide))
  have G_is_reachable : FnGood P w K mg base 8 "is_reachable" f_is_reachable := w_is_reachable (k := 7) hB hX F_is_reachable (He.glo_ok X G (c.fact 19 (f := .glo "is_reachable") rfl)) (G_require_goal.mono (by decide)) (G_find_way.mono (by decide))
  have G_ring : FnGood P w K mg base 8 "ring" f_ring := w_ring (k := 7) hB hX F_ring (He.glo_ok X G (c.fact 21 (f := .glo "ring") rfl)) (G_require_goal.mono (by decide)) (G_find_ring.mono (by decide)) (G_waits_of.mono (by decide))
  exact w_law (k := 8) hB hX F_law (G__law_any.mono (by decide)) (G_frozen.mono (by decide)) (G_reachable.mono (by decide)) (G_states.mono (by decide)) (G_classes.mono (by decide)) (G__law_flat.mono (by decide)) (G__law_pick.mono (by decide)) (G_is_reachable.mono (by decide)) (G_ring.mono (by decide)) law_run
end TK.KK
open PySem PySem.W PySem.Calls PyProof.Rows
theorem PySem.Challenge.cw_trappedkeys_k14_whole_frozen_holds : PySem.Challenge.rw_trappedkeys_k14_whole_frozen.Holds := by
  w_on; o_law
  refine HandSHeadRun.head_any (r := OpenLaw.row PySem.Challenge.rw_trappedkeys_k14_whole_frozen) (q := view (OpenLaw.row PySem.Challenge.rw_trappedkeys_k14_whole_frozen).prog [47]) (H := TK.KK.hk) (ob := TK.KK.ob) (M := 4000) (loose := TK.KK.loose) (d := HandSHeadRun.topDef (OpenLaw.row PySem.Challenge.rw_trappedkeys_k14_whole_frozen).prog 47) (kwd := []) TK.KK.ob_eq
    (by kernel_rfl) (fun s => by kernel_rfl) TK.KK.hrun (by kernel_rfl) (by kernel_rfl) (by kernel_rfl) (by rfl) (by first | assumption | decide +kernel) (by decide +kernel) ⟨rfl, rfl, rfl, rfl, rfl, by decide +kernel⟩ ?hw ?hc
  case hw => w_witness2
  case hc =>
    refine L2.walk_ofE (l := PySem.Challenge.rw_trappedkeys_k14_whole_frozen) (n := 63) (k := 9) (x := "script") (CX := L2.CX0) rfl (by decide) (by kernel_rfl) ⟨rfl, by decide, by decide⟩ ?F (fun _ _ _ _ z => z)
    intro w mg fa h Y G hmg0
    obtain ⟨K, KX, c⟩ := Y
    have hmg : mg ("law" : PySem.Str) = some (.ref fa) := by
      have e : (HandSHeadRun.topDef (OpenLaw.row PySem.Challenge.rw_trappedkeys_k14_whole_frozen).prog 47).name = ("law" : PySem.Str) := by kernel_rfl
      rw [← e]
      exact hmg0
    obtain ⟨fd, hb, hF⟩ := TK.KK.facts (P := (PySem.Challenge.rw_trappedkeys_k14_whole_frozen).prog) (w := w) KX G hmg c
    exact ⟨K, fd, TK.spLaw K 63, KX, hb, fun H a ns hl _ hS => ⟨a, ns, rfl, hS, hl, fun _ => rfl⟩, hF⟩


